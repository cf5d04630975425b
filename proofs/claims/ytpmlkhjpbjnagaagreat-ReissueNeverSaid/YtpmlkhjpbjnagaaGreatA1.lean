/- The machines: what it means to be walked or run, part 1. No condition. -/
import Derived.Orders
import Derived.OrdersIn
import Derived.RangeFuncIn
import Derived.Laws.Cells
import Derived.Laws.AppendOwn
import Derived.Laws.Strings
import Derived.Laws.Small
import Derived.Laws.CopyRow
namespace Go.Ax
theorem aM:type_of% @Option.bind_some:=@Option.bind_some
theorem bj:type_of% @Bool.and_eq_true:=@Bool.and_eq_true
theorem bM:type_of% @Nat.eq_of_beq_eq_true:=@Nat.eq_of_beq_eq_true
theorem gW:type_of% @Option.map_eq_some_iff:=@Option.map_eq_some_iff
theorem cX:type_of% @Option.some.injEq:=@Option.some.injEq
theorem jb:type_of% @List.mem_append:=@List.mem_append
theorem pv:type_of% @Array.length_toList:=@Array.length_toList
theorem dj:type_of% @List.mem_cons_of_mem:=@List.mem_cons_of_mem
theorem kG:type_of% @List.length_append:=@List.length_append
theorem dP:type_of% @Nat.le_refl:=@Nat.le_refl
theorem gm:type_of% @List.take_of_length_le:=@List.take_of_length_le
theorem iU:type_of% @Nat.le_of_ble_eq_true:=@Nat.le_of_ble_eq_true
theorem cm:type_of% @List.mem_cons_self:=@List.mem_cons_self
theorem eM:type_of% @Bool.false_eq_true:=@Bool.false_eq_true
theorem qt:type_of% @List.mem_map:=@List.mem_map
theorem fg:type_of% @List.mem_cons:=@List.mem_cons
theorem ji:type_of% @Nat.mul_le_mul_right:=@Nat.mul_le_mul_right
theorem gX:type_of% @Nat.add_mul:=@Nat.add_mul
theorem fK:type_of% @Bool.or_eq_true:=@Bool.or_eq_true
theorem dA:type_of% @List.map_cons:=@List.map_cons
theorem jj:type_of% @List.length_set:=@List.length_set
theorem eN:type_of% @Nat.zero_add:=@Nat.zero_add
theorem kH:type_of% @List.take_append_drop:=@List.take_append_drop
theorem kI:type_of% @List.length_take:=@List.length_take
theorem tG:type_of% @List.length_replicate:=@List.length_replicate
theorem iV:type_of% @List.drop_zero:=@List.drop_zero
theorem dE:type_of% @Int.natCast_nonneg:=@Int.natCast_nonneg
theorem kJ:type_of% @List.length_singleton:=@List.length_singleton
theorem jF:type_of% @Int.toNat_natCast:=@Int.toNat_natCast
theorem gP:type_of% @List.length_cons:=@List.length_cons
theorem ma:type_of% @List.drop_eq_getElem_cons:=@List.drop_eq_getElem_cons
theorem j4:type_of% @List.mem_append_left:=@List.mem_append_left
theorem kK:type_of% @List.mem_append_right:=@List.mem_append_right
theorem mJ:type_of% @List.mem_singleton:=@List.mem_singleton
theorem jn:type_of% @List.getElem_of_mem:=@List.getElem_of_mem
theorem fL:type_of% @List.append_nil:=@List.append_nil
theorem eT:type_of% @List.getElem_mem:=@List.getElem_mem
theorem dh:type_of% @Nat.le_trans:=@Nat.le_trans
theorem gY:type_of% @Nat.zero_le:=@Nat.zero_le
theorem cE:type_of% @decide_eq_true:=@decide_eq_true
theorem du:type_of% @decide_eq_false:=@decide_eq_false
theorem tH:type_of% @of_decide_eq_true:=@of_decide_eq_true
theorem j5:type_of% @decide_eq_true_eq:=@decide_eq_true_eq
theorem yO:type_of% @List.length_filter_le:=@List.length_filter_le
theorem jo:type_of% @List.length_map:=@List.length_map
theorem kL:type_of% @List.mem_of_getElem?:=@List.mem_of_getElem?
theorem dv:type_of% @List.getElem?_set:=@List.getElem?_set
theorem yP:type_of% @List.getElem?_eq_getElem:=@List.getElem?_eq_getElem
theorem vZ:type_of% @List.append_assoc:=@List.append_assoc
theorem mK:type_of% @Nat.lt_of_lt_of_le:=@Nat.lt_of_lt_of_le
theorem kM:type_of% @List.nodup_cons:=@List.nodup_cons
theorem iv:type_of% @Prod.mk.injEq:=@Prod.mk.injEq
theorem aA:type_of% @if_pos:=@if_pos
theorem aC:type_of% @if_neg:=@if_neg
theorem kN:type_of% @Option.some.inj:=@Option.some.inj
theorem mL:type_of% @Int.le_refl:=@Int.le_refl
theorem dB:type_of% @if_false:=@if_false
theorem cj:type_of% @if_true:=@if_true
theorem gi:type_of% @List.map_append:=@List.map_append
theorem wa:type_of% @List.filter_cons:=@List.filter_cons
theorem tJ:type_of% @Option.bind_eq_some_iff:=@Option.bind_eq_some_iff
theorem j6:type_of% @List.all_eq_true:=@List.all_eq_true
theorem wc:type_of% @Bool.false_ne_true:=@Bool.false_ne_true
theorem mb:type_of% @Array.ext':=@Array.ext'
theorem gZ:type_of% @Bool.not_eq_true':=@Bool.not_eq_true'
theorem iw:type_of% @List.map_map:=@List.map_map
theorem mc:type_of% @List.drop_drop:=@List.drop_drop
theorem tK:type_of% @List.drop_of_length_le:=@List.drop_of_length_le
theorem qv:type_of% @Nat.add_sub_cancel_left:=@Nat.add_sub_cancel_left
theorem mM:type_of% @List.drop_take:=@List.drop_take
theorem qw:type_of% @List.take_take:=@List.take_take
theorem qx:type_of% @Nat.min_eq_left:=@Nat.min_eq_left
theorem C8:type_of% @List.take_append_of_le_length:=@List.take_append_of_le_length
theorem j7:type_of% @List.nodup_append:=@List.nodup_append
theorem we:type_of% @List.getElem?_cons_succ:=@List.getElem?_cons_succ
inductive gn where
 |ptr|map|func|iface|sl
 deriving DecidableEq
inductive Ty where
 |int (k:IntKind)
 |bool
 |str
 |arr (n:Nat) (t:Ty)
 |slice (bs:Nat) (t:Ty)
 |pair (a b:Ty)
 |unit
 |aT (k:gn)
 |fns (n:Nat)
 |map (k v:Ty)
 deriving DecidableEq
def IntKind.code:IntKind→Nat
 | .i8=>0| .i16=>1| .i32=>2| .i64=>3| .u8=>4| .u16=>5| .u32=>6| .u64=>7
def gn.code:gn→Nat
 | .ptr=>0| .map=>1| .func=>2| .iface=>3| .sl=>4
theorem IntKind.kO{a b:IntKind}(h:IntKind.code a=IntKind.code b):a=b:=by
 cases a<;>cases b<;>first|rfl|trivial
theorem gn.kO{a b:gn}(h:gn.code a=gn.code b):a=b:=by
 cases a<;>cases b<;>first|rfl|trivial
def Ty.same:Ty→Ty→Bool
 | .int k,.int k'=>Nat.beq (IntKind.code k) (IntKind.code k')
 | .bool,.bool=>true
 | .str,.str=>true
 | .arr n t,.arr n' t'=>Nat.beq n n'&&Ty.same t t'
 | .slice n t,.slice n' t'=>Nat.beq n n'&&Ty.same t t'
 | .pair a b,.pair a' b'=>Ty.same a a'&&Ty.same b b'
 | .unit,.unit=>true
 | .aT k,.aT k'=>Nat.beq (gn.code k) (gn.code k')
 | .fns n,.fns n'=>Nat.beq n n'
 | .map a b,.map a' b'=>Ty.same a a'&&Ty.same b b'
 |_,_=>false
theorem Ty.aB:∀{a b:Ty},Ty.same a b=true→a=b:=by
 intro a
 induction a with
 |int k=>intro b h;cases b<;>simp[Ty.same] at h ⊢;exact IntKind.kO h
 |bool=>grind [Ty.same]
 |str=>grind [Ty.same]
 |arr n t ih=>intro b h;cases b<;>simp[Ty.same] at h ⊢;grind
 |slice n t ih=>intro b h;cases b<;>simp[Ty.same] at h ⊢;grind
 |pair x y ih1 ih2=>intro b h;cases b<;>simp[Ty.same] at h ⊢;grind
 |unit=>grind [Ty.same]
 |aT k=>intro b h;cases b<;>simp[Ty.same] at h ⊢;exact gn.kO h
 |fns n=>intro b h;cases b<;>simp[Ty.same] at h ⊢;exact h
 |map x y ih1 ih2=>intro b h;cases b<;>simp[Ty.same] at h ⊢;grind
theorem Ty.cV(a:Ty):Ty.same a a=true:=by
 induction a<;>simp_all[Ty.same]
@[reducible] def Ty.den:Ty→Type
 | .int _=>Int
 | .bool=>Bool
 | .str=>List UInt8
 | .arr _ t=>List t.den
 | .slice _ t=>List t.den
 | .pair a b=>a.den×b.den
 | .unit=>Unit
 | .aT _=>Unit
 | .fns _=>List (Option Nat)
 | .map k v=>Option (List (k.den×v.den))
def Ty.size:Ty→Nat
 | .arr n t=>n*t.size
 | .pair a b=>a.size+b.size
 | .unit=>0
 | .fns n=>n
 |_=>1
def Ty.isAgg:Ty→Bool
 | .arr _ _| .pair _ _| .unit| .fns _=>true
 |_=>false
def Ty.aD:(t:Ty)→t.den
 | .int _=>(0:Int)
 | .bool=>false
 | .str=>([]:List UInt8)
 | .arr n t=>List.replicate n t.aD
 | .slice _ _=>[]
 | .pair a b=>(a.aD,b.aD)
 | .unit=>()
 | .aT _=>()
 | .fns n=>List.replicate n none
 | .map _ _=>none
def Ty.flat:Ty→Bool
 | .int _| .bool| .str| .unit=>true
 | .arr _ t=>t.flat
 | .pair a b=>a.flat&&b.flat
 |_=>false
def aH:Nat:=140737488355328
def qf(w:World)(a:Addr)(cs:List Value):Prop:=∀j v,cs[j]? =some v→w.cell? (a.add j)=some v
def bk{α:Type}(r:List Value→α→Prop):List Value→List α→Prop
 |vs,[]=>vs= []
 |vs,x::xs=>∃v1 v2,vs=v1++v2∧r v1 x∧bk r v2 xs
def jY{α β:Type}(r:Value→α→Prop)(s:Value→β→Prop):List MapEntry→List (α×β)→Prop
 |[],[]=>True
 |e::es,x::xs=>r e.key x.1∧s e.val x.2∧jY r s es xs
 |_,_=>False
variable{α:Type}{β:Type}
theorem jY.mono{r r':Value→α→Prop}{s s':Value→β→Prop}(h:∀v x,r v x→r' v x)(k:∀v x,s v x→s' v x):∀{es:List MapEntry}{xs:List (α×β)},jY r s es xs→jY r' s' es xs
 |[],[],_=>trivial
 |[],_::_,g=>g.elim
 |_::_,[],g=>g.elim
 |_::_,_::_,⟨g1,g2,g3⟩=>⟨h _ _ g1,k _ _ g2,jY.mono h k g3⟩
theorem jY.len{r:Value→α→Prop}{s:Value→β→Prop}:∀{es:List MapEntry}{xs:List (α×β)},jY r s es xs→es.length=xs.length
 |[],[],_=>rfl
 |[],_::_,g=>g.elim
 |_::_,[],g=>g.elim
 |_::es,_::xs,⟨_,_,g3⟩=>by rw[gP,gP,jY.len g3]
theorem jY.all{r:Value→α→Prop}{s:Value→β→Prop}{p:α→Prop}{q:β→Prop}(h:∀v x,r v x→p x)(k:∀v x,s v x→q x):∀{es:List MapEntry}{xs:List (α×β)},jY r s es xs→∀x∈xs,p x.1∧q x.2
 |[],[],_,x,hx=>by cases hx
 |[],_::_,g,_,_=>g.elim
 |_::_,[],g,_,_=>g.elim
 |
  _::_,y::ys,⟨g1,g2,g3⟩,x,hx=>by
  cases hx with
  |head=>grind
  |tail _ hx=>exact jY.all h k g3 x hx
def aX{α:Type}:Option (List α)→List α
 |none=>[]
 |some l=>l
def ir(agg:Bool){α:Type}(r:List Value→α→Prop)(v:Value)(x:α):Prop:=(agg=true∧∃cs,v= .agg cs∧r cs.toList x)∨(agg=false∧r [v] x)
variable{r':List Value→α→Prop}
theorem ir.mono{agg:Bool}{r:List Value→α→Prop}(h:∀vs x,r vs x→r' vs x){v:Value}{x:α}(g:ir agg r v x):ir agg r' v x:=by
 rcases g with⟨a,cs,e,g⟩|⟨a,g⟩
 ·exact Or.inl ⟨a,cs,e,h _ _ g⟩
 ·exact Or.inr ⟨a,h _ _ g⟩
theorem ir.all{agg:Bool}{r:List Value→α→Prop}{p:α→Prop}(h:∀vs x,r vs x→p x){v:Value}{x:α}(g:ir agg r v x):p x:=by
 rcases g with⟨a,cs,e,g⟩|⟨a,g⟩<;>grind
def EW:Option Nat→Value
 |none=>.nilFunc
 |some f=>.func (.func f) #[] #[]
def Rel(w:World)(S:Nat→Prop):(t:Ty)→List Value→t.den→Prop
 | .int k,vs,n=>vs= [.int k n]∧k.min≤n∧n≤k.max
 | .bool,vs,b=>vs= [.bool b]
 | .str,vs,s=>vs= [.string ⟨s.toArray⟩]∧s.length≤aH
 | .arr n t,vs,xs=>xs.length=n∧bk (Rel w S t) vs xs
 | .slice bs t,vs,xs=>∃a cap,vs= [.slice a xs.length cap]∧xs.length≤cap∧xs.length*bs≤aH∧xs.length≤aH∧
  (xs= []∨∃b o cs,a=some ⟨b,o,none⟩∧S b∧qf w ⟨b,o,none⟩ cs∧bk (Rel w S t) cs xs)
 | .pair a b,vs,x=>∃v1 v2,vs=v1++v2∧Rel w S a v1 x.1∧Rel w S b v2 x.2
 | .unit,vs,_=>vs= []
 | .aT _,_,_=>False
 | .fns n,vs,xs=>xs.length=n∧vs=xs.map EW
 | .map k v,vs,x=>∃a,vs= [.map a]∧((x=none∧a=none)∨∃es g en clock,x=some es∧a=some g∧S g∧w.heap[g]? =some (.map en clock)∧
  jY (ir k.isAgg (Rel w S k)) (ir v.isAgg (Rel w S v)) en.toList es∧(es.map (·.1)).Nodup∧es.length≤aH∧(∀x∈en.toList,x.born<clock)∧(en.toList.map (·.born)).Nodup)
def wf:(t:Ty)→t.den→Prop
 | .int k,n=>k.min≤n∧n≤k.max
 | .bool,_=>True
 | .str,s=>List.length s≤aH
 | .arr n t,xs=>List.length xs=n∧∀x∈xs,wf t x
 | .slice bs t,xs=>List.length xs*bs≤aH∧List.length xs≤aH∧∀x∈xs,wf t x
 | .pair a b,x=>wf a x.1∧wf b x.2
 | .unit,_=>True
 | .aT _,_=>False
 | .fns n,xs=>List.length xs=n
 | .map k v,x=>∀es,x=some es→(es.map (·.1)).Nodup∧List.length es≤aH∧∀p∈es,wf k p.1∧wf v p.2
theorem bk.mono{r:List Value→α→Prop}(h:∀vs x,r vs x→r' vs x):∀{xs:List α}{vs:List Value},bk r vs xs→bk r' vs xs
 |[],_,hh=>hh
 |_::_,_,⟨v1,v2,e,h1,h2⟩=>⟨v1,v2,e,h _ _ h1,bk.mono h h2⟩
theorem bk.all{r:List Value→α→Prop}{p:α→Prop}(h:∀vs x,r vs x→p x):∀{xs:List α}{vs:List Value},bk r vs xs→∀x∈xs,p x
 |[],_,_,x,hx=>by cases hx
 |
  y::ys,_,⟨_,_,_,h1,h2⟩,x,hx=>by
  cases hx with
  |head=>grind
  |tail _ hx=>exact bk.all h h2 x hx
theorem bk.len{r:List Value→α→Prop}{n:Nat}(h:∀vs x,r vs x→vs.length=n):∀{xs:List α}{vs:List Value},bk r vs xs→vs.length=xs.length*n
 |[],_,hh=>by simp[bk] at hh;simp[hh]
 |
  _::xs,_,⟨v1,v2,e,h1,h2⟩=>by
  subst e
  rw[kG,h _ _ h1,bk.len h h2,gP,gX];omega
theorem bk.append{r:List Value→α→Prop}:∀{xs ys:List α}{vs us:List Value},bk r vs xs→bk r us ys→bk r (vs++us) (xs++ys)
 |[],_,_,_,h,k=>by simp[bk] at h;grind
 |
  _::_,_,_,_,⟨v1,v2,e,h1,h2⟩,k=>by
  subst e
  exact⟨v1,v2++_,by simp,h1,bk.append h2 k⟩
theorem bk.get{r:List Value→α→Prop}{n:Nat}(hn:∀vs x,r vs x→vs.length=n)(d:α):∀{xs:List α}{vs:List Value}(i:Nat),bk r vs xs→i<xs.length→r ((vs.drop (i*n)).take n) (xs.getD i d)
 |[],_,i,_,hi=>by grind
 |
  x::xs,_,0,⟨v1,v2,e,h1,_⟩,_=>by
  grind
 |
  x::xs,_,i+1,⟨v1,v2,e,h1,h2⟩,hi=>by
  subst e
  have hl:=hn _ _ h1
  have:=bk.get hn d i h2 (by grind)
  simp_all[List.drop_append,tK,gX]
theorem bk.set{r:List Value→α→Prop}{n:Nat}(hn:∀vs x,r vs x→vs.length=n){us:List Value}{y:α}(hu:r us y):∀{xs:List α}{vs:List Value}(i:Nat),bk r vs xs→i<xs.length→bk r (vs.take (i*n)++us++vs.drop (i*n+n)) (xs.set i y)
 |[],_,i,_,hi=>by grind
 |
  x::xs,_,0,⟨v1,v2,e,h1,h2⟩,_=>by
  subst e
  have:=hn _ _ h1
  refine⟨us,v2,?_,hu,h2⟩<;>grind
 |
  x::xs,_,i+1,⟨v1,v2,e,h1,h2⟩,hi=>by
  subst e
  have hl:=hn _ _ h1
  have:=bk.set hn hu i h2 (by grind)
  refine⟨v1,v2.take (i*n)++us++v2.drop (i*n+n),?_,h1,this⟩
  simp_all[List.take_append,gm,gX,List.drop_append]
variable{w:World}{S:Nat→Prop}
theorem Rel.len:∀{t:Ty}{vs:List Value}{x:t.den},Rel w S t vs x→vs.length=t.size:=by
 intro t
 induction t with
 |int k=>grind [Rel,Ty.size]
 |bool=>grind [Rel,Ty.size]
 |str=>grind [Rel,Ty.size]
 |arr n t ih=>intro vs x h;obtain⟨h1,h2⟩:=h;grind [bk.len,Ty.size]
 |slice bs t ih=>intro vs x h;obtain⟨a,cap,e,_⟩:=h;simp[e,Ty.size]
 |pair a b ih1 ih2=>intro vs x h;obtain⟨v1,v2,e,h1,h2⟩:=h;grind [Ty.size]
 |unit=>grind [Rel,Ty.size]
 |aT k=>intro vs x h;trivial
 |fns n=>intro vs x h;obtain⟨h1,h2⟩:=h;rw[h2,jo,h1,Ty.size]
 |map k v=>intro vs x h;obtain⟨a,e,_⟩:=h;simp[e,Ty.size]
theorem Rel.wf:∀{t:Ty}{vs:List Value}{x:t.den},Rel w S t vs x→wf t x:=by
 intro t
 induction t with
 |int k=>intro vs x h;exact h.2
 |bool=>intro vs x h;trivial
 |str=>intro vs x h;exact h.2
 |arr n t ih=>intro vs x h;exact⟨h.1,bk.all (p:=Ax.wf t) (fun _ _ h=>ih h) h.2⟩
 |
  slice bs t ih=>
  intro vs x h
  obtain⟨a,cap,e,h1,h2,h3,h4⟩:=h
  refine⟨h2,h3,?_⟩
  rcases h4 with h4|⟨b,o,cs,_,_,_,h5⟩
  ·grind
  ·exact bk.all (p:=Ax.wf t) (fun _ _ h=>ih h) h5
 |pair a b ih1 ih2=>intro vs x h;obtain⟨v1,v2,e,h1,h2⟩:=h;exact⟨ih1 h1,ih2 h2⟩
 |unit=>intro vs x h;trivial
 |aT k=>intro vs x h;trivial
 |fns n=>intro vs x h;exact h.1
 |
  map k v ih1 ih2=>
  intro vs x h es he
  obtain⟨a,e,h⟩:=h
  rcases h with⟨h,_⟩|⟨es',g,en,clock,h1,_,_,_,h2,h3,h4,_⟩
  ·grind
  ·rw[h1] at he;cases he
   exact⟨h3,h4,jY.all (fun _ _ h=>ir.all (p:=Ax.wf k) (fun _ _ h=>ih1 h) h) (fun _ _ h=>ir.all (p:=Ax.wf v) (fun _ _ h=>ih2 h) h) h2⟩
variable{w':World}{cs:List Value}
theorem qf.mono{a:Addr}(h:qf w a cs)(hb:w'.heap[a.block]? =w.heap[a.block]?):qf w' a cs:=by
 intro j v hj
 rw[←h j v hj]
 grind [World.cell?_of_block,Addr.add]
variable{S':Nat→Prop}
theorem Rel.mono(hw:∀b,S b→w'.heap[b]? =w.heap[b]?)(hS:∀b,S b→S' b):∀{t:Ty}{vs:List Value}{x:t.den},Rel w S t vs x→Rel w' S' t vs x:=by
 intro t
 induction t with
 |int k=>intro vs x h;exact h
 |bool=>intro vs x h;exact h
 |str=>intro vs x h;exact h
 |arr n t ih=>intro vs x h;exact⟨h.1,bk.mono (fun _ _=>ih) h.2⟩
 |
  slice bs t ih=>
  intro vs x h
  obtain⟨a,cap,e,h1,h2,h3,h4⟩:=h
  refine⟨a,cap,e,h1,h2,h3,?_⟩
  rcases h4 with h4|⟨b,o,cs,ha,hs,hr,h5⟩
  ·grind
  ·exact Or.inr ⟨b,o,cs,ha,hS b hs,hr.mono (hw b hs),bk.mono (fun _ _=>ih) h5⟩
 |pair a b ih1 ih2=>intro vs x h;obtain⟨v1,v2,e,h1,h2⟩:=h;exact⟨v1,v2,e,ih1 h1,ih2 h2⟩
 |unit=>intro vs x h;exact h
 |aT k=>intro vs x h;exact h
 |fns n=>intro vs x h;exact h
 |
  map k v ih1 ih2=>
  intro vs x h
  obtain⟨a,e,h⟩:=h
  refine⟨a,e,?_⟩
  grind [jY.mono,ir.mono]
theorem Rel.flat:∀{t:Ty}{vs:List Value}{x:t.den},t.flat=true→Rel w S t vs x→Rel w' S' t vs x:=by
 intro t
 induction t with
 |int k=>intro vs x _ h;exact h
 |bool=>intro vs x _ h;exact h
 |str=>intro vs x _ h;exact h
 |arr n t ih=>intro vs x hf h;exact⟨h.1,bk.mono (fun _ _=>ih hf) h.2⟩
 |slice bs t ih=>intro vs x hf;trivial
 |
  pair a b ih1 ih2=>
  intro vs x hf h
  simp[Ty.flat] at hf
  obtain⟨v1,v2,e,h1,h2⟩:=h;exact⟨v1,v2,e,ih1 hf.1 h1,ih2 hf.2 h2⟩
 |unit=>intro vs x _ h;exact h
 |aT k=>intro vs x hf;trivial
 |fns n=>intro vs x hf;trivial
 |map k v=>intro vs x hf;trivial
inductive PS where
 |cD (n:Nat)
 |idx (i:Nat)
abbrev Path:=List PS
def Ty.off:Ty→Path→Nat
 | .pair a _,.cD 0::p=>a.off p
 | .pair a b,.cD (k+1)::p=>a.size+b.off (.cD k::p)
 | .arr _ t,.idx i::p=>i*t.size+t.off p
 | .fns _,.idx i::_=>i
 |_,_=>0
def Ty.sub:Ty→Path→Option Ty
 | .pair a _,.cD 0::p=>a.sub p
 | .pair _ b,.cD (k+1)::p=>b.sub (.cD k::p)
 | .arr _ t,.idx _::p=>t.sub p
 | .fns _,[.idx _]=>some (.aT .func)
 |t,[]=>some t
 |_,_=>none
def Ty.valid:Ty→Path→Prop
 | .pair a _,.cD 0::p=>a.valid p
 | .pair _ b,.cD (k+1)::p=>b.valid (.cD k::p)
 | .arr n t,.idx i::p=>i<n∧t.valid p
 | .fns n,[.idx i]=>i<n
 |_,[]=>True
 |_,_=>False
inductive AV where
 |bot
 |val (t:Ty) (x:t.den)
 |bn
 |own (b:Nat)
 |ku (b lo len:Nat)
 |ptr (b:Nat) (p:Path)
 |cd (t:Ty) (x:t.den)
 |iy (v:AV)
 |mp (b:Nat)
 |eP
 |dX
 |fv
 |hJ
 |func (fn:Fn) (fs cs:AV)
 |iface (t:TypeId) (v:AV)
 |cons (a b:AV)
 |nil
 |fU (l:AV)
 |opt (c:Bool) (v:AV)
 |fx
 |fy (f:FuncId) (t:Ty) (x:t.den)
 |dK (t:Ty)
 |nq (c:Bool)
 |eQ (b:Nat)
structure YC where
 l:Nat
 gs:Nat→Nat
 rc:Nat→Loop
inductive aO where
 |var (t:Ty) (v:AV)
 |row (e:TypeId) (bs:Nat) (t:Ty) (xs:List t.den)
 |map (k v:Ty) (es:List (k.den×v.den))
 |lp (y:YC) (j:Nat)
 |uS
 |tv (g:Nat) (t:Ty) (v:AV)
 |cI (e:TypeId) (bs:Nat) (t:Ty) (xs:List t.den) (i:Nat) (v:AV)
 |cT (e:TypeId) (bs:Nat) (t:Ty) (xs:List t.den) (e2:TypeId) (f:Option (Nat×AV))
 |pmap (k t:Ty) (es:List (k.den×t.den)) (e2:TypeId) (f:Option (k.den×AV×Bool))
 |kB (k v:Ty) (rest:List (k.den×v.den)) (cur:Option (k.den×v.den))
 |gp (k t:Ty) (es:List (k.den×t.den)) (e2:TypeId) (kx:k.den) (v:AV) (pr:Bool)
 |mN (k v:Ty) (es:List (k.den×v.den)) (kx:k.den)
 |gq (e:TypeId) (bs:Nat) (t:Ty) (xs:List t.den)
 |iu (k:Ty) (l:List (k.den×AV))
structure Env where
 g:Nat→Option Nat
 sv:Nat→Value
 bt:Nat→Ty
 S:Nat→Prop
 P:Nat→Nat→Prop
def Env.has(E:Env)(b g:Nat):Prop:=E.g b=some g∨E.P b g
def AV.isAgg:AV→Bool
 | .val t _=>t.isAgg
 | .dK t=>t.isAgg
 | .cons _ _| .nil=>true
 |_=>false
def AV.size:AV→Nat
 | .val t _=>t.size
 | .dK t=>t.size
 | .cons a b=>a.size+b.size
 | .nil=>0
 |_=>1
def AV.atom:AV→Bool
 | .val t _=> !t.isAgg
 | .bot| .cons _ _| .nil| .fU _| .opt _ _| .dK _=>false
 |_=>true
def AV.atoms:AV→Bool
 | .cons a b=>a.atom&&b.atoms
 | .nil=>true
 |_=>false
def AV.Pb:AV→Bool
 | .func _ _ _=>true
 |_=>false
def AV.Jq:AV→Nat→Bool
 | .cons a b,n=>a.Pb&&Nat.blt 0 n&&b.Jq (n -1)
 | .nil,n=>Nat.beq n 0
 |_,_=>false
def AV.cp:AV→Ty→Bool
 | .val t _,u=>Ty.same t u
 | .dK t,u=>Ty.same t u
 | .bn,.slice _ _=>true
 | .bn,.aT .sl=>true
 | .own _,.slice _ _=>true
 | .ku _ _ _,.slice _ _=>true
 | .ptr _ _,.aT .ptr=>true
 | .cd _ _,.aT .ptr=>true
 | .iy _,.aT .ptr=>true
 | .eP,.aT .ptr=>true
 | .mp _,.aT .map=>true
 | .mp _,.map _ _=>true
 | .dX,.aT .map=>true
 | .dX,.map _ _=>true
 | .func _ _ _,.aT .func=>true
 | .fv,.aT .func=>true
 | .fx,.aT .func=>true
 | .fy _ _ _,.aT .func=>true
 | .iface _ _,.aT .iface=>true
 | .hJ,.aT .iface=>true
 | .cons a b,.pair t u=>a.cp t&&b.cp u
 | .nil,.unit=>true
 | .cons a b,.fns n=>(AV.cons a b).Jq n
 | .nil,.fns n=>Nat.beq n 0
 |_,_=>false
def AV.ids:AV→List Nat
 | .own b| .ku b _ _| .ptr b _| .mp b| .eQ b=>[b]
 | .func _ fs cs=>fs.ids++cs.ids
 | .iface _ v=>v.ids
 | .cons a b=>a.ids++b.ids
 | .fU l=>l.ids
 | .opt _ v=>v.ids
 |_=>[]
def RC(E:Env)(w:World):AV→List Value→Prop
 | .val t x,vs=>Rel w E.S t vs x
 | .bn,vs=>vs= [.slice none 0 0]
 | .own b,vs=>vs= [E.sv b]∧∃a n c,E.sv b= .slice a n c
 | .ku b lo len,vs=>∃a c n t,E.bt b= .arr n t∧E.sv b= .slice a n c∧lo+len≤n∧n≤c∧∃a',vs= [.slice a' len (c -lo)]∧((len=0∧lo≠0)∨a'=a.map (·.add (lo*t.size)))
 | .ptr b p,vs=>∃g,E.g b=some g∧vs= [.pointer (some ⟨g,(E.bt b).off p,none⟩)]∧(E.bt b).valid p
 | .cd t x,vs=>∃b o cs,vs= [.pointer (some ⟨b,o,none⟩)]∧E.S b∧qf w ⟨b,o,none⟩ cs∧Rel w E.S t cs x
 | .iy v,vs=>∃b o cs,vs= [.pointer (some ⟨b,o,none⟩)]∧E.S b∧qf w ⟨b,o,none⟩ cs∧v.ids= []∧RC E w v cs
 | .mp b,vs=>∃g,E.g b=some g∧vs= [.map (some g)]
 | .eP,vs=>vs= [.pointer none]
 | .dX,vs=>vs= [.map none]
 | .fv,vs=>vs= [.nilFunc]
 | .hJ,vs=>vs= [.nilIface]
 | .func fn fs cs,vs=>∃f c,vs= [.func fn f c]∧RC E w fs f.toList∧RC E w cs c.toList∧fs.atoms=true∧cs.atoms=true
 | .iface t v,vs=>∃x,vs= [.iface t x]∧((v.isAgg=true∧∃cs,x= .agg cs∧RC E w v cs.toList)∨(v.isAgg=false∧RC E w v [x]))
 | .cons a b,vs=>∃v1 v2,vs=v1++v2∧RC E w a v1∧RC E w b v2
 | .nil,vs=>vs= []
 | .fx,vs=>∃fn f c,vs= [.func fn f c]
 | .dK t,vs=>vs.length=t.size∧∀v∈vs,v.oneCell'=true
 | .nq c,vs=>∃a:Option Nat,vs= [.map a]∧(a=none↔c=true)
 | .eQ b,vs=>vs= [E.sv b]∧∃n:Int,E.sv b= .int .i64 n
 | .fy f t x,vs=>t.isAgg=true∧∃cs,vs= [.func (.func f) #[.agg cs] #[]]∧Rel w E.S t cs.toList x
 | .bot,_=>False
 | .fU _,_=>False
 | .opt _ _,_=>False
def bZ(E:Env)(w:World)(a:AV)(v:Value):Prop:=
 (a.isAgg=true∧∃cs,v= .agg cs∧RC E w a cs.toList)∨(a.isAgg=false∧RC E w a [v])
def RT(E:Env)(w:World):AV→List Value→Prop
 | .cons a b,v::vs=>bZ E w a v∧RT E w b vs
 | .nil,vs=>vs= []
 |_,_=>False
def RV(E:Env)(w:World):AV→Value→Prop
 | .bot,_=>True
 | .fU l,v=>∃vs,v= .tuple vs∧RT E w l vs.toList
 | .opt c a,v=>(c=true∧bZ E w a v)∨(c=false∧v=undef)
 |a,v=>bZ E w a v
def Env.on(E E':Env)(ids:List Nat):Prop:=∀b∈ids,E'.g b=E.g b∧E'.sv b=E.sv b∧E'.bt b=E.bt b
variable{E:Env}{E':Env}
theorem Env.on.left{a b:List Nat}(h:E.on E' (a++b)):E.on E' a:=fun x hx=>h x (by simp[hx])
theorem Env.on.right{a b:List Nat}(h:E.on E' (a++b)):E.on E' b:=fun x hx=>h x (by simp[hx])
structure bE(E:Env)(w:World)(E':Env)(w':World):Prop where
 w:∀b,E.S b→w'.heap[b]? =w.heap[b]?
 S:∀b,E.S b→E'.S b
theorem RC.mono(k:bE E w E' w'):∀{a:AV}{vs:List Value},E.on E' a.ids→RC E w a vs→RC E' w' a vs:=by
 intro a
 induction a with
 |bot=>intro vs _ h;exact h
 |fx=>intro vs _ h;exact h
 |dK t=>intro vs _ h;exact h
 |nq c=>intro vs _ h;exact h
 |eQ b=>intro vs ho h;simp only[RC] at h ⊢;rw[(ho b (by simp[AV.ids])).2.1];exact h
 |fy f t x=>intro vs _ h;obtain⟨ha,cs,h1,h2⟩:=h;exact⟨ha,cs,h1,Rel.mono k.w k.S h2⟩
 |val t x=>intro vs _ h;exact Rel.mono k.w k.S h
 |bn=>intro vs _ h;exact h
 |own b=>intro vs ho h;simp only[RC] at h ⊢;rw[(ho b (by simp[AV.ids])).2.1];exact h
 |
  ku b lo len=>
  intro vs ho h
  obtain⟨_,h2,h3⟩:=ho b (by simp[AV.ids])
  obtain⟨a,c,n,t,h⟩:=h
  exact⟨a,c,n,t,by grind⟩
 |
  ptr b p=>
  intro vs ho h
  obtain⟨h1,h2,h3⟩:=ho b (by simp[AV.ids])
  obtain⟨g,h⟩:=h
  exact⟨g,by grind⟩
 |
  cd t x=>
  intro vs _ h
  obtain⟨b,o,cs,h1,h2,h3,h4⟩:=h
  exact⟨b,o,cs,h1,k.S b h2,h3.mono (k.w b h2),Rel.mono k.w k.S h4⟩
 |
  iy v ih=>
  intro vs _ h
  obtain⟨b,o,cs,h1,h2,h3,h4,h5⟩:=h
  exact⟨b,o,cs,h1,k.S b h2,h3.mono (k.w b h2),h4,ih (by rw[h4];intro x hx;cases hx) h5⟩
 |
  mp b=>
  intro vs ho h
  obtain⟨h1,h2,h3⟩:=ho b (by simp[AV.ids])
  obtain⟨g,h⟩:=h
  exact⟨g,by grind⟩
 |eP=>intro vs _ h;exact h
 |dX=>intro vs _ h;exact h
 |fv=>intro vs _ h;exact h
 |hJ=>intro vs _ h;exact h
 |
  func fn fs cs ih1 ih2=>
  intro vs ho h
  obtain⟨f,c,e,h1,h2,h3,h4⟩:=h
  exact⟨f,c,e,ih1 ho.left h1,ih2 ho.right h2,h3,h4⟩
 |
  iface t v ih=>
  intro vs ho h
  obtain⟨x,e,h⟩:=h
  refine⟨x,e,?_⟩
  rcases h with⟨h1,cs,h2,h3⟩|⟨h1,h2⟩
  ·exact Or.inl ⟨h1,cs,h2,ih ho h3⟩
  ·exact Or.inr ⟨h1,ih ho h2⟩
 |
  cons a b ih1 ih2=>
  intro vs ho h
  obtain⟨v1,v2,e,h1,h2⟩:=h
  exact⟨v1,v2,e,ih1 ho.left h1,ih2 ho.right h2⟩
 |nil=>intro vs _ h;exact h
 |fU l ih=>intro vs _ h;exact h
 |opt c v ih=>intro vs _ h;exact h
theorem bZ.mono(k:bE E w E' w'){a:AV}{v:Value}(ho:E.on E' a.ids)(h:bZ E w a v):bZ E' w' a v:=by
 rcases h with⟨h1,cs,h2,h3⟩|⟨h1,h2⟩
 ·exact Or.inl ⟨h1,cs,h2,RC.mono k ho h3⟩
 ·exact Or.inr ⟨h1,RC.mono k ho h2⟩
theorem RT.mono(k:bE E w E' w'):∀{a:AV}{vs:List Value},E.on E' a.ids→RT E w a vs→RT E' w' a vs:=by
 intro a
 induction a with
 |
  cons a b ih1 ih2=>
  intro vs ho h
  cases vs with
  |nil=>trivial
  |cons v vs=>exact⟨bZ.mono k ho.left h.1,ih2 ho.right h.2⟩
 |nil=>intro vs _ h;exact h
 |_=>intro vs _ h;trivial
theorem RV.mono(k:bE E w E' w'){a:AV}{v:Value}(ho:E.on E' a.ids)(h:RV E w a v):RV E' w' a v:=by
 cases a with
 |bot=>trivial
 |fU l=>obtain⟨vs,e,h⟩:=h;exact⟨vs,e,RT.mono k ho h⟩
 |
  opt c a=>
  rcases h with⟨h1,h2⟩|h
  ·exact Or.inl ⟨h1,bZ.mono k ho h2⟩
  ·exact Or.inr h
 |_=>exact bZ.mono k ho h
theorem RC.len:∀{a:AV}{vs:List Value},RC E w a vs→vs.length=a.size:=by
 intro a
 induction a with
 |val t x=>intro vs h;exact Rel.len h
 |bn=>intro vs h;simp only[RC] at h;simp[h,AV.size]
 |own b=>intro vs h;simp only[RC] at h;simp[h.1,AV.size]
 |ku b lo len=>intro vs h;obtain⟨_,_,_,_,_,_,_,_,_,e,_⟩:=h;simp[e,AV.size]
 |ptr b p=>intro vs h;obtain⟨_,_,e,_⟩:=h;simp[e,AV.size]
 |cd t x=>intro vs h;obtain⟨_,_,_,e,_⟩:=h;simp[e,AV.size]
 |iy v=>intro vs h;obtain⟨_,_,_,e,_⟩:=h;simp[e,AV.size]
 |mp b=>intro vs h;obtain⟨_,_,e⟩:=h;simp[e,AV.size]
 |eP=>intro vs h;simp only[RC] at h;simp[h,AV.size]
 |dX=>intro vs h;simp only[RC] at h;simp[h,AV.size]
 |fv=>intro vs h;simp only[RC] at h;simp[h,AV.size]
 |hJ=>intro vs h;simp only[RC] at h;simp[h,AV.size]
 |func fn fs cs=>intro vs h;obtain⟨_,_,e,_⟩:=h;simp[e,AV.size]
 |iface t v=>intro vs h;obtain⟨_,e,_⟩:=h;simp[e,AV.size]
 |cons a b ih1 ih2=>intro vs h;obtain⟨v1,v2,e,h1,h2⟩:=h;subst e;rw[kG,ih1 h1,ih2 h2,AV.size]
 |nil=>intro vs h;simp only[RC] at h;simp[h,AV.size]
 |bot=>intro vs h;exact h.elim
 |fx=>intro vs h;obtain⟨_,_,_,e⟩:=h;simp[e,AV.size]
 |dK t=>intro vs h;exact h.1
 |nq c=>intro vs h;obtain⟨_,e,_⟩:=h;simp[e,AV.size]
 |eQ b=>intro vs h;obtain⟨e,_⟩:=h;simp[e,AV.size]
 |fy f t x=>intro vs h;obtain⟨_,_,e,_⟩:=h;simp[e,AV.size]
 |fU l=>intro vs h;exact h.elim
 |opt c v=>intro vs h;exact h.elim
theorem Rel.one:∀{t:Ty}{vs:List Value}{x:t.den},Rel w S t vs x→∀v∈vs,v.oneCell'=true:=by
 intro t
 induction t with
 |int k=>intro vs x h v hv;simp[Rel] at h;rw[h.1] at hv;simp at hv;subst hv;rfl
 |bool=>intro vs x h v hv;simp[Rel] at h;rw[h] at hv;simp at hv;subst hv;rfl
 |str=>intro vs x h v hv;simp[Rel] at h;rw[h.1] at hv;simp at hv;subst hv;rfl
 |
  arr n t ih=>
  intro vs x h
  have key:∀{xs:List t.den}{vs:List Value},bk (Rel w S t) vs xs→∀v∈vs,v.oneCell'=true:=by
   intro xs
   induction xs with
   |nil=>grind [bk]
   |
    cons y ys ih2=>
    intro vs h v hv
    obtain⟨v1,v2,e,h1,h2⟩:=h
    grind
  exact key h.2
 |slice bs t=>intro vs x h v hv;obtain⟨a,cap,e,_⟩:=h;rw[e] at hv;simp at hv;subst hv;rfl
 |
  pair a b ih1 ih2=>
  intro vs x h v hv
  obtain⟨v1,v2,e,h1,h2⟩:=h
  grind
 |unit=>grind [Rel]
 |aT k=>intro vs x h;trivial
 |
  fns n=>
  intro vs x h v hv
  obtain⟨_,h2⟩:=h
  rw[h2] at hv
  obtain⟨o,_,e⟩:=List.mem_map.1 hv
  subst e
  cases o<;>rfl
 |map k v=>intro vs x h v hv;obtain⟨a,e,_⟩:=h;rw[e] at hv;simp at hv;subst hv;rfl
theorem RC.one:∀{a:AV}{vs:List Value},RC E w a vs→∀v∈vs,v.oneCell'=true:=by
 intro a
 induction a with
 |val t x=>intro vs h;exact Rel.one h
 |bn=>intro vs h v hv;simp only[RC] at h;rw[h] at hv;simp at hv;subst hv;rfl
 |own b=>intro vs h v hv;obtain⟨e,a,n,c,e2⟩:=h;rw[e,e2] at hv;simp at hv;subst hv;rfl
 |ku b lo len=>intro vs h v hv;obtain⟨_,_,_,_,_,_,_,_,_,e,_⟩:=h;rw[e] at hv;simp at hv;subst hv;rfl
 |ptr b p=>intro vs h v hv;obtain⟨_,_,e,_⟩:=h;rw[e] at hv;simp at hv;subst hv;rfl
 |cd t x=>intro vs h v hv;obtain⟨_,_,_,e,_⟩:=h;rw[e] at hv;simp at hv;subst hv;rfl
 |iy v=>intro vs h v hv;obtain⟨_,_,_,e,_⟩:=h;rw[e] at hv;simp at hv;subst hv;rfl
 |mp b=>intro vs h v hv;obtain⟨_,_,e⟩:=h;rw[e] at hv;simp at hv;subst hv;rfl
 |eP=>intro vs h v hv;simp only[RC] at h;rw[h] at hv;simp at hv;subst hv;rfl
 |dX=>intro vs h v hv;simp only[RC] at h;rw[h] at hv;simp at hv;subst hv;rfl
 |fv=>intro vs h v hv;simp only[RC] at h;rw[h] at hv;simp at hv;subst hv;rfl
 |fx=>intro vs h v hv;obtain⟨_,_,_,e⟩:=h;rw[e] at hv;simp at hv;subst hv;rfl
 |dK t=>intro vs h v hv;exact h.2 v hv
 |nq c=>intro vs h v hv;obtain⟨_,e,_⟩:=h;rw[e] at hv;simp at hv;subst hv;rfl
 |eQ b=>intro vs h v hv;obtain⟨e,n,e2⟩:=h;rw[e,e2] at hv;simp at hv;subst hv;rfl
 |fy f t x=>intro vs h v hv;obtain⟨_,_,e,_⟩:=h;rw[e] at hv;simp at hv;subst hv;rfl
 |hJ=>intro vs h v hv;simp only[RC] at h;rw[h] at hv;simp at hv;subst hv;rfl
 |func fn fs cs=>intro vs h v hv;obtain⟨_,_,e,_⟩:=h;rw[e] at hv;simp at hv;subst hv;rfl
 |iface t x=>intro vs h v hv;obtain⟨_,e,_⟩:=h;rw[e] at hv;simp at hv;subst hv;rfl
 |
  cons a b ih1 ih2=>
  intro vs h v hv
  obtain⟨v1,v2,e,h1,h2⟩:=h
  grind
 |nil=>grind [RC]
 |bot=>intro vs h;trivial
 |fU l=>intro vs h;trivial
 |opt c v=>intro vs h;trivial
theorem bZ.cells{a:AV}{v:Value}(h:bZ E w a v):RC E w a v.cells.toList:=by
 rcases h with⟨_,cs,e,h⟩|⟨_,h⟩
 ·subst e;exact h
 ·have h1:=RC.one h v (by simp)
  have:v.cells= #[v]:=by cases v<;>first|rfl|(simp[Value.oneCell'] at h1)
  rw[this];exact h
theorem AV.yQ:∀{a:AV}{n:Nat},a.Jq n=true→a.size=n:=by
 intro a
 induction a with
 |
  cons a b _ ih=>
  intro n h
  simp only[AV.Jq,bj,Nat.blt,Nat.ble_eq] at h
  obtain⟨⟨h1,h2⟩,h3⟩:=h
  have:=ih h3
  cases a<;>simp[AV.Pb] at h1
  simp only[AV.size]
  omega
 |nil=>intro n h;exact(bM h).symm
 |_=>intro n h;cases h
theorem AV.dU:∀{a:AV}{t:Ty},a.cp t=true→a.size=t.size:=by
 intro a
 induction a with
 |val u x=>intro t h;have:=Ty.aB (by trivial);subst this;rfl
 |dK u=>intro t h;have:=Ty.aB (by trivial);subst this;rfl
 |
  cons a b ih1 ih2=>
  intro t h
  cases t with
  |fns n=>exact AV.yQ (a:=.cons a b) h
  |pair t u=>simp[AV.cp] at h;rw[AV.size,Ty.size,ih1 h.1,ih2 h.2]
  |_=>cases h
 |
  nil=>
  intro t h
  cases t with
  |fns n=>exact(bM h).symm
  |unit=>rfl
  |_=>cases h
 |bn=>intro t h;cases t with|slice _ _=>rfl|aT k=>trivial|_=>trivial
 |_=>intro t h;first|(cases t<;>simp[AV.cp] at h<;>rfl)|(cases t with|aT k=>cases k<;>simp[AV.cp] at h<;>rfl|map _ _=>(first|rfl|simp[AV.cp] at h)|_=>simp[AV.cp] at h)
theorem AV.pw:∀{a:AV}{t:Ty},a.cp t=true→a.isAgg=t.isAgg:=by
 intro a t h
 cases a with
 |val u x=>have:=Ty.aB (by trivial);subst this;rfl
 |dK u=>have:=Ty.aB (by trivial);subst this;rfl
 |cons a b=>cases t<;>first|rfl|cases h
 |nil=>cases t<;>first|rfl|cases h
 |bn=>cases t with|slice _ _=>rfl|aT k=>trivial|_=>trivial
 |_=>first|(cases t<;>simp[AV.cp] at h<;>rfl)|(cases t with|aT k=>cases k<;>simp[AV.cp] at h<;>rfl|map _ _=>(first|rfl|simp[AV.cp] at h)|_=>simp[AV.cp] at h)
def Jr:Option Nat→AV
 |none=>.fv
 |some f=>.func (.func f) .nil .nil
def fM:(t:Ty)→t.den→Path→Option AV
 | .pair a _,x,.cD 0::p=>fM a x.1 p
 | .pair _ b,x,.cD (k+1)::p=>fM b x.2 (.cD k::p)
 | .arr _ t,x,.idx i::p=>fM t (List.getD x i t.aD) p
 | .fns _,x,[.idx i]=>some (Jr (List.getD x i none))
 |t,x,[]=>some (.val t x)
 |_,_,_=>none
def AV.get:AV→Path→Option AV
 | .val t x,p=>fM t x p
 | .cons a _,.cD 0::p=>a.get p
 | .cons _ b,.cD (k+1)::p=>b.get (.cD k::p)
 | .cons a _,[.idx 0]=>some a
 | .cons _ b,[.idx (i+1)]=>b.get [.idx i]
 |a,[]=>some a
 |_,_=>none
def AV.bB:AV→(t:Ty)→Option t.den
 | .val u x,t=>if h:Ty.same u t=true then some (Ty.aB h▸x) else none
 | .bn,.slice _ _=>some []
 | .dX,.map _ _=>some none
 |
  .cons a b,.pair t u=>match a.bB t,b.bB u with
  |some x,some y=>some (x,y)
  |_,_=>none
 | .nil,.unit=>some ()
 |_,_=>none
def AV.T9:AV→Bool
 | .bn=>true
 |_=>false
def AV.Lm(v:AV)(t:Ty):Option AV:=
 match v.T9&&v.cp t with
 |true=>some v
 |
  false=>match v.bB t with
  |some y=>some (.val t y)
  |none=>if v.cp t then some v else none
def ia:(t:Ty)→t.den→Path→AV→Option AV
 |
  .pair a b,x,.cD 0::p,v=>match ia a x.1 p v with
  |some (.val u y)=>if h:Ty.same u a=true then some (.val (.pair a b) (Ty.aB h▸y,x.2)) else none
  |some y=>some (.cons y (.val b x.2))
  |none=>none
 |
  .pair a b,x,.cD (k+1)::p,v=>match ia b x.2 (.cD k::p) v with
  |some (.val u y)=>if h:Ty.same u b=true then some (.val (.pair a b) (x.1,Ty.aB h▸y)) else none
  |some y=>some (.cons (.val a x.1) y)
  |none=>none
 |
  .arr n t,x,.idx i::p,v=>match ia t (List.getD x i t.aD) p v with
  |
   some y=>match y.bB t with
   |some z=>some (.val (.arr n t) (List.set x i z))
   |none=>none
  |none=>none
 |t,_,[],v=>v.Lm t
 |_,_,_,_=>none
def AV.set:AV→Path→AV→Option AV
 | .val t x,p,v=>ia t x p v
 | .cons a b,.cD 0::p,v=>(a.set p v).map fun y=>.cons y b
 | .cons a b,.cD (k+1)::p,v=>(b.set (.cD k::p) v).map fun y=>.cons a y
 |_,[],v=>some v
 |_,_,_=>none
theorem RC.bB:∀{a:AV}{t:Ty}{x:t.den}{vs:List Value},a.bB t=some x→RC E w a vs→Rel w E.S t vs x:=by
 intro a
 induction a with
 |
  val u y=>
  intro t x vs h hr
  simp only[AV.bB] at h
  split at h
  ·rename_i hs
   have e:=Ty.aB hs
   subst e
   simp at h;subst h;exact hr
  grind
 |
  bn=>
  intro t x vs h hr
  cases t<;>simp[AV.bB] at h
  subst h
  exact⟨none,0,by trivial,dP _,by simp,by simp,Or.inl rfl⟩
 |
  dX=>
  intro t x vs h hr
  cases t<;>simp[AV.bB] at h
  subst h
  exact⟨none,by trivial,Or.inl ⟨rfl,rfl⟩⟩
 |
  cons a b ih1 ih2=>
  intro t x vs h hr
  cases t with
  |
   pair t u=>
   obtain⟨v1,v2,e,h1,h2⟩:=hr
   simp only[AV.bB] at h
   split at h
   ·rename_i y z hy hz
    cases h
    exact⟨v1,v2,e,ih1 hy h1,ih2 hz h2⟩
   grind
  |_=>trivial
 |
  nil=>
  intro t x vs h hr
  cases t<;>simp[AV.bB] at h
  exact hr
 |_=>grind [AV.bB]
theorem bZ.bB{a:AV}{t:Ty}{x:t.den}{v:Value}(h:a.bB t=some x)(hr:bZ E w a v):bZ E w (.val t x) v:=by
 rcases hr with⟨h1,cs,h2,h3⟩|⟨h1,h2⟩
 ·refine Or.inl ⟨?_,cs,h2,RC.bB h h3⟩
  cases a with
  |
   val u y=>
   simp only[AV.bB] at h
   split at h
   ·rename_i hs;have e:=Ty.aB hs;subst e;exact h1
   ·cases h
  |cons a b=>cases t<;>simp[AV.bB] at h;rfl
  |nil=>cases t<;>simp[AV.bB] at h;rfl
  |dK u=>cases t<;>simp[AV.bB] at h
  |_=>simp[AV.isAgg] at h1
 ·refine Or.inr ⟨?_,RC.bB h h2⟩
  cases a with
  |
   val u y=>
   simp only[AV.bB] at h
   split at h
   ·rename_i hs;have e:=Ty.aB hs;subst e;exact h1
   ·cases h
  |bn=>cases t<;>simp[AV.bB] at h;rfl
  |dX=>cases t<;>simp[AV.bB] at h;rfl
  |cons a b=>simp[AV.isAgg] at h1
  |nil=>simp[AV.isAgg] at h1
  |_=>cases t<;>simp[AV.bB] at h
theorem kv(v1 v2:List α)(k n:Nat)(hk:v1.length≤k):((v1++v2).drop k).take n=(v2.drop (k -v1.length)).take n:=by
 rw[List.drop_append,tK hk,List.nil_append]
theorem sr:∀{t:Ty}{x:t.den}{cs:List Value}{p:Path}{u:AV},Rel w E.S t cs x→t.valid p→fM t x p=some u→
 ∃s,t.sub p=some s∧u.cp s=true∧t.off p+s.size≤cs.length∧RC E w u ((cs.drop (t.off p)).take s.size):=by
 intro t
 induction t with
 |
  pair a b ih1 ih2=>
  intro x cs p u hr hv hg
  cases p with
  |
   nil=>
   simp only[fM,cX] at hg;subst hg
   have hl:=Rel.len hr
   exact⟨_,rfl,Ty.cV _,by simp[Ty.off,hl],by simp only[Ty.off,iV];rw[gm (by omega)];exact hr⟩
  |
   cons s p=>
   obtain⟨v1,v2,e,h1,h2⟩:=hr
   subst e
   cases s with
   |
    cD k=>
    cases k with
    |
     zero=>
     obtain⟨s,e1,e2,e3,e4⟩:=ih1 h1 hv hg
     refine⟨s,e1,e2,by grind [Ty.off],?_⟩
     grind [Ty.off]
    |
     succ k=>
     obtain⟨s,e1,e2,e3,e4⟩:=ih2 h2 hv hg
     have hl:=Rel.len h1
     refine⟨s,e1,e2,by grind [Ty.off],?_⟩
     grind [Ty.off,kv,qv]
   |idx i=>trivial
 |
  arr n t ih=>
  intro x cs p u hr hv hg
  cases p with
  |
   nil=>
   simp only[fM,cX] at hg;subst hg
   have hl:=Rel.len hr
   exact⟨_,rfl,Ty.cV _,by simp[Ty.off,hl],by simp only[Ty.off,iV];rw[gm (by omega)];exact hr⟩
  |
   cons s p=>
   cases s with
   |cD k=>trivial
   |
    idx i=>
    have hl:=Rel.len hr
    obtain⟨hn,hr⟩:=hr
    obtain⟨hi,hv⟩:=hv
    have hx:i<List.length x:=by grind
    have:=bk.get (fun _ _=>Rel.len) t.aD i hr hx
    obtain⟨s,e1,e2,e3,e4⟩:=ih this hv hg
    have hb:(i+1)*t.size≤n*t.size:=ji _ hi
    rw[gX,Nat.one_mul] at hb
    have hle:t.off p+s.size≤t.size:=by
     grind
    refine⟨s,e1,e2,?_,?_⟩
    ·grind [Ty.off,Ty.size]
    grind [Ty.off,mM,mc]
 |
  int k=>intro x cs p u hr hv hg;cases p with
  |nil=>simp only[fM,cX] at hg;subst hg;have hl:=Rel.len hr;exact⟨_,rfl,Ty.cV _,by simp[Ty.off,hl],by simp only[Ty.off,iV];rw[gm (by omega)];exact hr⟩
  |cons s p=>trivial
 |
  bool=>intro x cs p u hr hv hg;cases p with
  |nil=>simp only[fM,cX] at hg;subst hg;have hl:=Rel.len hr;exact⟨_,rfl,Ty.cV _,by simp[Ty.off,hl],by simp only[Ty.off,iV];rw[gm (by omega)];exact hr⟩
  |cons s p=>trivial
 |
  str=>intro x cs p u hr hv hg;cases p with
  |nil=>simp only[fM,cX] at hg;subst hg;have hl:=Rel.len hr;exact⟨_,rfl,Ty.cV _,by simp[Ty.off,hl],by simp only[Ty.off,iV];rw[gm (by omega)];exact hr⟩
  |cons s p=>trivial
 |
  slice bs t=>intro x cs p u hr hv hg;cases p with
  |nil=>simp only[fM,cX] at hg;subst hg;have hl:=Rel.len hr;exact⟨_,rfl,Ty.cV _,by simp[Ty.off,hl],by simp only[Ty.off,iV];rw[gm (by omega)];exact hr⟩
  |cons s p=>trivial
 |
  unit=>intro x cs p u hr hv hg;cases p with
  |nil=>simp only[fM,cX] at hg;subst hg;have hl:=Rel.len hr;exact⟨_,rfl,Ty.cV _,by simp[Ty.off,hl],by trivial⟩
  |cons s p=>trivial
 |
  fns n=>intro x cs p u hr hv hg;cases p with
  |nil=>simp only[fM,cX] at hg;subst hg;have hl:=Rel.len hr;exact⟨_,rfl,Ty.cV _,by simp[Ty.off,hl],by simp only[Ty.off,iV];rw[gm (by omega)];exact hr⟩
  |
   cons s p=>
   cases s with
   |cD k=>trivial
   |
    idx i=>
    cases p with
    |cons _ _=>trivial
    |
     nil=>
     simp only[fM,cX] at hg
     subst hg
     obtain⟨h1,rfl⟩:=hr
     have hi:i<List.length x:=by rw[h1];exact hv
     refine⟨.aT .func,rfl,?_,by simp[Ty.off,Ty.size];omega,?_⟩
     ·cases(List.getD x i none)<;>rfl
     ·have e:((x.map EW).drop i).take 1= [EW (List.getD x i none)]:=by
       grind [ma]
      simp only[Ty.off,Ty.size]
      rw[e]
      cases(List.getD x i none) with
      |none=>rfl
      |some f=>exact⟨#[], #[],rfl,rfl,rfl,rfl,rfl⟩
 |
  map k v=>intro x cs p u hr hv hg;cases p with
  |nil=>simp only[fM,cX] at hg;subst hg;have hl:=Rel.len hr;exact⟨_,rfl,Ty.cV _,by simp[Ty.off,hl],by simp only[Ty.off,iV];rw[gm (by omega)];exact hr⟩
  |cons s p=>trivial
 |aT k=>intro x cs p u hr hv hg;trivial
theorem AV.gI:∀{a:AV}{t:Ty}{cs:List Value}{p:Path}{u:AV},RC E w a cs→a.cp t=true→t.valid p→a.get p=some u→
 ∃s,t.sub p=some s∧u.cp s=true∧t.off p+s.size≤cs.length∧RC E w u ((cs.drop (t.off p)).take s.size):=by
 intro a
 have base:∀{a:AV}{t:Ty}{cs:List Value}{u:AV},RC E w a cs→a.cp t=true→some a=some u→
  ∃s,t.sub []=some s∧u.cp s=true∧t.off []+s.size≤cs.length∧RC E w u ((cs.drop (t.off [])).take s.size):=by
  intro a t cs u hr hc e
  cases e
  have hl:=RC.len hr
  have hs:=AV.dU hc
  have am0:t.sub []=some t:=by cases t<;>rfl
  have hoff:t.off []=0:=by cases t<;>rfl
  grind
 induction a with
 |
  val u x=>
  intro t cs p v hr hc hv hg
  have:=Ty.aB (by trivial);subst this
  exact sr hr hv hg
 |
  cons a b ih1 ih2=>
  intro t cs p u hr hc hv hg
  cases p with
  |nil=>exact base hr hc hg
  |
   cons s p=>
   cases t with
   |
    pair t1 t2=>
    simp only[AV.cp,bj] at hc
    obtain⟨v1,v2,e,h1,h2⟩:=hr
    subst e
    cases s with
    |
     cD k=>
     cases k with
     |
      zero=>
      obtain⟨s,e1,e2,e3,e4⟩:=ih1 h1 hc.1 hv hg
      refine⟨s,e1,e2,by grind [Ty.off],?_⟩
      grind [Ty.off]
     |
      succ k=>
      obtain⟨s,e1,e2,e3,e4⟩:=ih2 h2 hc.2 hv hg
      have hl:=RC.len h1
      have hs:=AV.dU hc.1
      refine⟨s,e1,e2,by grind [Ty.off],?_⟩
      grind [Ty.off,kv,qv]
    |idx i=>trivial
   |
    fns n=>
    obtain⟨v1,v2,e,h1,h2⟩:=hr
    subst e
    have hc:(AV.cons a b).Jq n=true:=hc
    simp only[AV.Jq,bj,Nat.blt,Nat.ble_eq] at hc
    obtain⟨⟨c1,c2⟩,c3⟩:=hc
    have hl:v1.length=1:=by rw[RC.len h1];cases a<;>simp[AV.Pb] at c1;rfl
    have hb:=AV.yQ c3
    have hl2:=RC.len h2
    match s,p with
    | .cD _,_=>exact hv.elim
    | .idx _,_::_=>exact hv.elim
    |
     .idx 0,[]=>
     cases hg
     refine⟨.aT .func,rfl,by cases a<;>simp[AV.Pb] at c1;rfl,by simp[Ty.off,Ty.size];omega,?_⟩
     simp only[Ty.off,Ty.size,iV]
     rw[C8 (by omega),gm (by omega)]
     exact h1
    |
     .idx (i+1),[]=>
     have hv:i+1<n:=hv
     have hcb:b.cp (.fns (n -1))=true:=by
      cases b<;>first|exact c3|cases c3
     obtain⟨s,e1,e2,e3,e4⟩:=ih2 h2 hcb (show(Ty.fns (n -1)).valid [.idx i] from(by show i<n -1;omega)) hg
     cases e1
     refine⟨_,rfl,e2,by simp only[Ty.off,Ty.size,kG] at e3 ⊢;omega,?_⟩
     simp only[Ty.off,Ty.size] at e4 ⊢
     rw[kv _ _ _ _ (by omega),hl,Nat.add_sub_cancel]
     exact e4
   |_=>trivial
 |
  _=>
  grind [AV.get]
theorem jG(v1 v2 us:List α)(k n:Nat)(hk:k+n≤v1.length):(v1++v2).take k++us++(v1++v2).drop (k+n)=(v1.take k++us++v1.drop (k+n))++v2:=by
 grind
theorem jH(v1 v2 us:List α)(k n:Nat)(hk:v1.length≤k):(v1++v2).take k++us++(v1++v2).drop (k+n)=v1++(v2.take (k -v1.length)++us++v2.drop (k -v1.length+n)):=by
 rw[List.take_append,gm hk,List.drop_append,tK (by omega)]
 grind
theorem Rel.cast{u t:Ty}{x:u.den}(h:Ty.same u t=true)(hr:Rel w S u cs x):Rel w S t cs (Ty.aB h▸x):=by
 grind
theorem yR{v:AV}{us:List Value}(hv:RC E w v us):∀{t:Ty}{x:t.den}{cs:List Value}{p:Path}{u:AV},Rel w E.S t cs x→t.valid p→ia t x p v=some u→
 ∃s,t.sub p=some s∧us.length=s.size∧t.off p+s.size≤cs.length∧RC E w u (cs.take (t.off p)++us++cs.drop (t.off p+s.size)):=by
 intro t
 have base:∀{t:Ty}{x:t.den}{cs:List Value}{u:AV},Rel w E.S t cs x→ia t x [] v=some u→
  ∃s,t.sub []=some s∧us.length=s.size∧t.off []+s.size≤cs.length∧RC E w u (cs.take (t.off [])++us++cs.drop (t.off []+s.size)):=by
  intro t x cs u hr hs
  have hl:=Rel.len hr
  have am0:t.sub []=some t:=by cases t<;>rfl
  have hoff:t.off []=0:=by cases t<;>rfl
  have key:v.Lm t=some u:=by
   cases t<;>simpa only[ia] using hs
  unfold AV.Lm at key
  split at key
  ·rename_i hc
   simp only[bj] at hc
   cases key
   have hlu:=RC.len hv
   have:=AV.dU hc.2
   grind
  split at key
  ·rename_i y hy
   cases key
   have:=RC.bB hy hv
   have hlu:=Rel.len this
   exact⟨t,am0,hlu,by omega,by rw[hoff,eN,List.take_zero,List.nil_append,tK (by omega),fL];trivial⟩
  ·split at key
   ·rename_i hc
    cases key
    have hlu:=RC.len hv
    have:=AV.dU hc
    grind
   grind
 induction t with
 |
  pair a b ih1 ih2=>
  intro x cs p u hr hva hs
  cases p with
  |nil=>grind
  |
   cons s p=>
   obtain⟨v1,v2,e,h1,h2⟩:=hr
   subst e
   have hl:=Rel.len h1
   cases s with
   |
    cD k=>
    cases k with
    |
     zero=>
     simp only[ia] at hs
     split at hs
     ·rename_i ty y hy
      split at hs
      ·rename_i hsame
       cases hs
       obtain⟨s,e1,e2,e3,e4⟩:=ih1 h1 hva hy
       refine⟨s,e1,e2,by grind [Ty.off],?_⟩
       simp only[Ty.off]
       rw[jG _ _ _ _ _ e3]
       exact⟨_,v2,rfl,Rel.cast hsame e4,h2⟩
      grind
     ·rename_i y _ hy
      cases hs
      obtain⟨s,e1,e2,e3,e4⟩:=ih1 h1 hva hy
      refine⟨s,e1,e2,by grind [Ty.off],?_⟩
      simp only[Ty.off]
      rw[jG _ _ _ _ _ e3]
      exact⟨_,v2,rfl,e4,h2⟩
     grind
    |
     succ k=>
     simp only[ia] at hs
     split at hs
     ·rename_i ty y hy
      split at hs
      ·rename_i hsame
       cases hs
       obtain⟨s,e1,e2,e3,e4⟩:=ih2 h2 hva hy
       refine⟨s,e1,e2,by grind [Ty.off],?_⟩
       simp only[Ty.off]
       rw[jH _ _ _ _ _ (by omega),hl,qv]
       exact⟨v1,_,rfl,h1,Rel.cast hsame e4⟩
      grind
     ·rename_i y _ hy
      cases hs
      obtain⟨s,e1,e2,e3,e4⟩:=ih2 h2 hva hy
      refine⟨s,e1,e2,by grind [Ty.off],?_⟩
      simp only[Ty.off]
      rw[jH _ _ _ _ _ (by omega),hl,qv]
      exact⟨v1,_,rfl,h1,e4⟩
     grind
   |idx i=>trivial
 |
  arr n t ih=>
  intro x cs p u hr hva hs
  cases p with
  |nil=>grind
  |
   cons s p=>
   cases s with
   |cD k=>trivial
   |
    idx i=>
    have hl:=Rel.len hr
    obtain⟨hn,hr⟩:=hr
    obtain⟨hi,hva⟩:=hva
    have hx:i<List.length x:=by grind
    have hg:=bk.get (fun _ _=>Rel.len) t.aD i hr hx
    simp only[ia] at hs
    split at hs
    ·rename_i y hy
     split at hs
     ·rename_i z hz
      cases hs
      obtain⟨s,e1,e2,e3,e4⟩:=ih hg hva hy
      have hb:(i+1)*t.size≤n*t.size:=ji _ hi
      rw[gX,Nat.one_mul] at hb
      have hle:t.off p+s.size≤t.size:=by
       grind
      have aS:=bk.set (r:=Rel w E.S t) (n:=t.size) (fun _ _ h=>Rel.len h) (us:=_) (y:=z) (RC.bB hz e4) i hr hx
      refine⟨s,e1,e2,?_,?_⟩
      ·grind [Ty.off,Ty.size]
      ·simp only[Ty.off]
       refine⟨by simp[hn],?_⟩
       have key:cs.take (i*t.size)++(((cs.drop (i*t.size)).take t.size).take (t.off p)++us++((cs.drop (i*t.size)).take t.size).drop (t.off p+s.size))++cs.drop (i*t.size+t.size)
        =cs.take (i*t.size+t.off p)++us++cs.drop (i*t.size+t.off p+s.size):=by
        rw[qw,qx (by omega),mM,mc]
        have a1:cs.take (i*t.size+t.off p)=cs.take (i*t.size)++(cs.drop (i*t.size)).take (t.off p):=by
         rw[List.take_add]
        have a2:cs.drop (i*t.size+t.off p+s.size)=(cs.drop (i*t.size+(t.off p+s.size))).take (t.size -(t.off p+s.size))++cs.drop (i*t.size+t.size):=by
         have:=kH (t.size -(t.off p+s.size)) (cs.drop (i*t.size+(t.off p+s.size)))
         rw[mc] at this
         rw[show i*t.size+(t.off p+s.size)+(t.size -(t.off p+s.size))=i*t.size+t.size from by omega] at this
         grind
        grind
       grind
     grind
    grind
 |int k=>grind [Ty.valid]
 |bool=>grind [Ty.valid]
 |str=>grind [Ty.valid]
 |slice bs t=>grind [Ty.valid]
 |unit=>grind [Ty.valid]
 |fns n=>grind [ia]
 |map k v=>grind [Ty.valid]
 |aT k=>intro x cs p u hr;trivial
theorem AV.mO{v:AV}{us:List Value}(hv:RC E w v us):∀{a:AV}{t:Ty}{cs:List Value}{p:Path}{u:AV},RC E w a cs→a.cp t=true→t.valid p→(∀s,t.sub p=some s→us.length=s.size)→a.set p v=some u→
 ∃s,t.sub p=some s∧us.length=s.size∧t.off p+s.size≤cs.length∧RC E w u (cs.take (t.off p)++us++cs.drop (t.off p+s.size)):=by
 intro a
 have base:∀{a:AV}{t:Ty}{cs:List Value}{u:AV},RC E w a cs→a.cp t=true→(∀s,t.sub []=some s→us.length=s.size)→some v=some u→
  ∃s,t.sub []=some s∧us.length=s.size∧t.off []+s.size≤cs.length∧RC E w u (cs.take (t.off [])++us++cs.drop (t.off []+s.size)):=by
  intro a t cs u hr hc hlen e
  cases e
  have hl:=RC.len hr
  have hs:=AV.dU hc
  have am0:t.sub []=some t:=by cases t<;>rfl
  have hoff:t.off []=0:=by cases t<;>rfl
  grind
 induction a with
 |
  val u x=>
  intro t cs p y hr hc hva _ hs
  have:=Ty.aB (by trivial);subst this
  exact yR hv hr hva hs
 |
  cons a b ih1 ih2=>
  intro t cs p u hr hc hva hlen hs
  cases p with
  |nil=>exact base hr hc hlen hs
  |
   cons s p=>
   cases t with
   |
    pair t1 t2=>
    simp only[AV.cp,bj] at hc
    obtain⟨v1,v2,e,h1,h2⟩:=hr
    subst e
    have hl:=RC.len h1
    have hsz:=AV.dU hc.1
    cases s with
    |
     cD k=>
     cases k with
     |
      zero=>
      simp only[AV.set,gW] at hs
      obtain⟨y,hy,e⟩:=hs
      subst e
      obtain⟨s,e1,e2,e3,e4⟩:=ih1 h1 hc.1 hva hlen hy
      refine⟨s,e1,e2,by grind [Ty.off],?_⟩
      simp only[Ty.off]
      rw[jG _ _ _ _ _ e3]
      exact⟨_,v2,rfl,e4,h2⟩
     |
      succ k=>
      simp only[AV.set,gW] at hs
      obtain⟨y,hy,e⟩:=hs
      subst e
      obtain⟨s,e1,e2,e3,e4⟩:=ih2 h2 hc.2 hva hlen hy
      refine⟨s,e1,e2,by grind [Ty.off],?_⟩
      simp only[Ty.off]
      rw[jH _ _ _ _ _ (by omega),hl,hsz,qv]
      exact⟨v1,_,rfl,h1,e4⟩
    |idx i=>trivial
   |
    fns n=>cases s with
    |cD k=>exact hva.elim
    |idx i=>cases hs
   |_=>trivial
 |
  _=>
  grind [AV.set]
structure Js where
 g:Nat
 t:Ty
 x:t.den
structure Ctx where
 gl:List Js
 B:(Nat→Prop)→World→Prop
 mono:∀{S S':Nat→Prop}{w w':World},(∀b,S b→w'.heap[b]? =w.heap[b]?)→(∀b,S b→S' b)→B S w→B S' w'
 ro:Option Nat
 md:Prop
def Ctx.of(l:List Js)(md:Prop:=False):Ctx:=⟨l,fun _ _=>True,fun _ _ _=>trivial,none,md⟩
abbrev Wd(gl:Ctx):Fence:={fn:=fun _=>True,depth:=none,alive:=false,round:=gl.ro}
structure St where
 tm:List AV
 hp:List (Option aO)
 df:List AV
def aO.ids:aO→List Nat
 | .var _ v=>v.ids
 | .tv _ _ v=>v.ids
 | .cI _ _ _ _ _ v=>v.ids
 | .cT _ _ _ _ _ (some (_,v))=>v.ids
 | .pmap _ _ _ _ (some (_,v,_))=>v.ids
 | .gp _ _ _ _ _ v _=>v.ids
 | .iu _ l=>l.flatMap fun x=>x.2.ids
 |_=>[]
def aO.Ua:aO→Bool
 | .cT .. | .pmap .. | .gp .. =>true
 |_=>false
def RM(E:Env)(w:World)(k v:Ty):List MapEntry→List (k.den×v.den)→Prop
 |[],[]=>True
 |e::es,x::xs=>bZ E w (.val k x.1) e.key∧bZ E w (.val v x.2) e.val∧RM E w k v es xs
 |_,_=>False
variable{kt:Ty}{vt:Ty}
theorem RM.of:∀{en:List MapEntry}{es:List (kt.den×vt.den)},jY (ir kt.isAgg (Rel w E.S kt)) (ir vt.isAgg (Rel w E.S vt)) en es→RM E w kt vt en es
 |[],[],_=>trivial
 |[],_::_,h=>h.elim
 |_::_,[],h=>h.elim
 |_::_,_::_,⟨h1,h2,h3⟩=>⟨h1,h2,RM.of h3⟩
theorem RM.to:∀{en:List MapEntry}{es:List (kt.den×vt.den)},RM E w kt vt en es→jY (ir kt.isAgg (Rel w E.S kt)) (ir vt.isAgg (Rel w E.S vt)) en es
 |[],[],_=>trivial
 |[],_::_,h=>h.elim
 |_::_,[],h=>h.elim
 |_::_,_::_,⟨h1,h2,h3⟩=>⟨h1,h2,RM.to h3⟩
def mP(i n:Nat)(t:Ty):Ty:=.pair (.arr i t) (.pair t (.pair (.arr (n -i -1) t) .unit))
def S7(w:World)(S:Nat→Prop)(e:TypeId)(bs:Nat)(t:Ty)(v:Value)(og:Option Nat)(xs:List t.den):Prop:=
 xs.length*bs≤aH∧xs.length≤aH∧0<t.size∧∃a cap,v= .slice a xs.length cap∧cap≤maxLen∧
  (
   ((cap=0∧a=none)∧og=none∧xs= [])∨
   (∃g c,og=some g∧a=some ⟨g,0,none⟩∧w.heap[g]? =some (.cells c e (0,0))∧c.size=cap*t.size∧xs.length≤cap∧bk (Rel w S t) (c.toList.take (xs.length*t.size)) xs))
def XB(w:World)(S:Nat→Prop)(k v:Ty)(u:Value)(og:Option Nat)(es:List (k.den×v.den)):Prop:=
 (es.map (·.1)).Nodup∧es.length≤aH∧∃g en clock,og=some g∧u= .map (some g)∧w.heap[g]? =some (.map en clock)∧
  jY (ir k.isAgg (Rel w S k)) (ir v.isAgg (Rel w S v)) en.toList es∧(∀x∈en.toList,x.born<clock)∧(en.toList.map (·.born)).Nodup
def cZ(w:World)(S:Nat→Prop)(e:TypeId):(t:Ty)→Value→Option Nat→t.den→Prop
 | .slice bs t,v,og,xs=>S7 w S e bs t v og xs
 | .map k v,u,og,x=>∃es,x=some es∧XB w S k v u og es
 |_,_,_,_=>False
def zeroV:Ty→Value
 | .map _ _=>.map none
 |_=>.slice none 0 0
structure Ln(P:Nat→Prop)(g:Nat)(og:Nat→Option Nat):Prop where
 own:∀i u,og i=some u→P u∧u≠g
 inj:∀i j u,og i=some u→og j=some u→i=j
theorem Ln.mono{P P':Nat→Prop}{g:Nat}{og:Nat→Option Nat}(h:Ln P g og)(hP:∀u,P u→P' u):Ln P' g og:=
 ⟨fun i u e=>⟨hP u (h.own i u e).1,(h.own i u e).2⟩,h.inj⟩
def wg(n:Nat)(t:Ty):Option (Nat×AV)→Ty
 |none=>.arr n t
 |some (i,_)=>mP i n t
theorem cZ.mono{e:TypeId}(hw:∀b,S b→w'.heap[b]? =w.heap[b]?)(hS:∀b,S b→S' b):∀{t:Ty}{v:Value}{og:Option Nat}{x:t.den},(∀g,og=some g→w'.heap[g]? =w.heap[g]?)→cZ w S e t v og x→cZ w' S' e t v og x:=by
 intro t v og x ho h
 cases t with
 |
  slice bs t=>
  obtain⟨h1,h2,h3,a,cap,h4,h5,h6⟩:=h
  refine⟨h1,h2,h3,a,cap,h4,h5,h6.imp id ?_⟩
  grind [bk.mono,Rel.mono]
 |
  map k u=>
  obtain⟨es,h0,h1,h2,g,en,clock,h3,h4,h5,h6,h7⟩:=h
  exact⟨es,h0,h1,h2,g,en,clock,h3,h4,by grind,jY.mono (fun _ _=>ir.mono (fun _ _=>Rel.mono hw hS)) (fun _ _=>ir.mono (fun _ _=>Rel.mono hw hS)) h6,h7⟩
 |_=>trivial
def j8(es:Array MapEntry)(seen:Array Nat):Array MapEntry:=es.filter fun e=> !seen.contains e.born
def PM(E:Env)(w:World)(b:Nat)(k t:Ty)(es:List (k.den×t.den))(e2:TypeId)(f:Option (k.den×AV×Bool)):Prop:=
 (es.map (·.1)).Nodup∧es.length≤aH∧(∀kx v pr,f=some (kx,v,pr)→v.cp t=true)∧∃g en clock og,E.g b=some g∧w.heap[g]? =some (.map en clock)∧(∀x∈en.toList,x.born<clock)∧(en.toList.map (·.born)).Nodup∧Ln (E.P b) g og∧en.size=es.length∧
  (∀i x,es[i]? =some x→∃m,en[i]? =some m∧bZ E w (.val k x.1) m.key∧(∀v pr,f=some (x.1,v,pr)→og i=none∧RC E w v [m.val])∧((∀v pr,f≠some (x.1,v,pr))→cZ w E.S e2 t m.val (og i) x.2))∧
  ∀kx v,(f=some (kx,v,false)→kx∉es.map (·.1)→RC E w v [zeroV t])∧(f=some (kx,v,true)→kx∈es.map (·.1))
def RF(E:Env)(w:World)(k:Ty):List MapEntry→List (k.den×AV)→Prop
 |[],[]=>True
 |e::es,x::xs=>bZ E w (.val k x.1) e.key∧RC E w x.2 [e.val]∧x.2.isAgg=false∧RF E w k es xs
 |_,_=>False
def RB(
 E:Env) (w:World) (b:Nat):aO→Prop
 | .kB k v rest cur=>∃g om since seen c0,E.g b=some g∧w.heap[g]? =some (.mapIter om since seen c0)∧((om=none∧rest= []∧cur=none)∨
  ∃bm en,om=some bm∧E.S bm∧w.heap[bm]? =some (.map en c0)∧since=c0∧(∀x∈en.toList,x.born<c0)∧(en.toList.map (·.born)).Nodup∧RM E w k v (j8 en seen).toList rest∧
   ∀x,cur=some x→∃e s0,seen=Array.push s0 e.born∧e∈en.toList∧bZ E w (.val k x.1) e.key∧bZ E w (.val v x.2) e.val)
 | .cT e bs t xs e2 f=>E.bt b=wg xs.length t f∧t.size=1∧xs.length*bs≤aH∧xs.length≤aH∧(∀i v,f=some (i,v)→i<xs.length∧v.cp t=true)∧∃g cap c og,E.sv b= .slice (some ⟨g,0,none⟩) xs.length cap∧cap≤maxLen∧E.g b=some g∧
  w.heap[g]? =some (.cells c e (0,0))∧c.size=cap∧xs.length≤cap∧Ln (E.P b) g og∧
  ∀i x,xs[i]? =some x→∃u,c[i]? =some u∧(∀v,f=some (i,v)→og i=none∧RC E w v [u])∧((∀v,f≠some (i,v))→cZ w E.S e2 t u (og i) x)
 | .pmap k t es e2 f=>PM E w b k t es e2 f
 | .gp k t es e2 kx v pr=>PM E w b k t es e2 (some (kx,v,pr))∧∃(n:Nat)(g:Nat)(en:Array MapEntry)(clock:Nat),E.sv b= .int .i64 n∧E.g b=some g∧w.heap[g]? =some (.map en clock)∧(kx∉es.map (·.1)→n=clock)∧
  ∀(i:Nat)(m:MapEntry)(y:t.den),es[i]? =some (kx,y)→en[i]? =some m→m.born=n
 | .mN k v es kx=>(es.map (·.1)).Nodup∧es.length≤aH∧∃g en clock,E.g b=some g∧w.heap[g]? =some (.map en clock)∧RM E w k v en.toList es∧(∀x∈en.toList,x.born<clock)∧(en.toList.map (·.born)).Nodup∧
  ∃n:Nat,E.sv b= .int .i64 n∧(kx∉es.map (·.1)→n=clock)∧∀(i:Nat)(m:MapEntry)(y:v.den),es[i]? =some (kx,y)→en[i]? =some m→m.born=n
 | .gq e bs t xs=>∃ys:List t.den,ys.Perm xs∧E.bt b= .arr ys.length t∧ys.length*bs≤aH∧ys.length≤aH∧0<t.size∧∃a cap,E.sv b= .slice a ys.length cap∧cap≤maxLen∧
  (
   ((cap=0∧a=none)∧E.g b=none∧ys= [])∨
   (∃g c,E.g b=some g∧a=some ⟨g,0,none⟩∧w.heap[g]? =some (.cells c e (0,0))∧c.size=cap*t.size∧ys.length≤cap∧bk (Rel w E.S t) (c.toList.take (ys.length*t.size)) ys))
 | .iu k l=>(l.map (·.1)).Nodup∧l.length≤aH∧∃g en clock,E.g b=some g∧w.heap[g]? =some (.map en clock)∧RF E w k en.toList l
 | .var t v=>E.bt b=t∧v.cp t=true∧∃g c e,E.g b=some g∧w.heap[g]? =some (.cells c e (0,0))∧RC E w v c.toList
 | .row e bs t xs=>E.bt b= .arr xs.length t∧xs.length*bs≤aH∧xs.length≤aH∧0<t.size∧∃a cap,E.sv b= .slice a xs.length cap∧cap≤maxLen∧
  (
   ((cap=0∧a=none)∧E.g b=none∧xs= [])∨
   (∃g c,E.g b=some g∧a=some ⟨g,0,none⟩∧w.heap[g]? =some (.cells c e (0,0))∧c.size=cap*t.size∧xs.length≤cap∧bk (Rel w E.S t) (c.toList.take (xs.length*t.size)) xs))
 | .map k v es=>(es.map (·.1)).Nodup∧es.length≤aH∧∃g en clock,E.g b=some g∧w.heap[g]? =some (.map en clock)∧RM E w k v en.toList es∧(∀x∈en.toList,x.born<clock)∧(en.toList.map (·.born)).Nodup
 | .lp y j=>E.g b=some y.l∧w.heap[y.l]? =some (.loop (y.rc j))
 | .uS=>∃g,E.g b=some g∧w.heap[g]? =some (.deferred (some []))
 | .tv g t v=>E.g b=some g∧E.bt b=t∧v.cp t=true∧∃c e,w.heap[g]? =some (.cells c e (0,0))∧RC E w v c.toList
 | .cI e bs t xs i v=>E.bt b=mP i xs.length t∧i<xs.length∧xs.length*bs≤aH∧xs.length≤aH∧0<t.size∧v.cp t=true∧∃g cap c,E.sv b= .slice (some ⟨g,0,none⟩) xs.length cap∧cap≤maxLen∧E.g b=some g∧
  w.heap[g]? =some (.cells c e (0,0))∧c.size=cap*t.size∧xs.length≤cap∧bk (Rel w E.S t) (c.toList.take (i*t.size)) (xs.take i)∧RC E w v ((c.toList.drop (i*t.size)).take t.size)∧
  bk (Rel w E.S t) ((c.toList.drop ((i+1)*t.size)).take ((xs.length -(i+1))*t.size)) (xs.drop (i+1))
def Lo(gl:Ctx)(E:Env)(w:World):Prop:=(∀x∈gl.gl,E.S x.g∧∃cs,qf w ⟨x.g,0,none⟩ cs∧Rel w E.S x.t cs x.x)∧gl.B E.S w
structure HW(gl:Ctx)(E:Env)(w:World)(hp:List (Option aO)):Prop where
 cQ:∀b k,hp[b]? =some (some k)→RB E w b k
 ew:∀b b' k k' g,hp[b]? =some (some k)→hp[b']? =some (some k')→E.has b g→E.has b' g→b=b'
 dC:∀b k g,hp[b]? =some (some k)→E.has b g→¬E.S g
 slt:∀g,E.S g→g<w.heap.size
 gl:Lo gl E w
 uu:∀b k g,hp[b]? =some (some k)→E.P b g→g<w.heap.size
variable{hp:List (Option aO)}
theorem HW.sep{gl:Ctx}(h:HW gl E w hp)(b b':Nat)(k k':aO)(g:Nat)(h1:hp[b]? =some (some k))(h2:hp[b']? =some (some k'))(h3:E.g b=some g)(h4:E.g b'=some g):b=b':=h.ew b b' k k' g h1 h2 (Or.inl h3) (Or.inl h4)
theorem HW.jI{gl:Ctx}(h:HW gl E w hp)(b:Nat)(k:aO)(g:Nat)(h1:hp[b]? =some (some k))(h3:E.g b=some g):¬E.S g:=h.dC b k g h1 (Or.inl h3)
def bx(hp:List (Option aO))(E:Env)(g:Nat):Prop:=∃b k,hp[b]? =some (some k)∧E.has b g
def Tp(md:Prop)(w w':World):Prop:=w'.tape=w.tape∧(md→w.drawn≤w'.drawn)
variable{md:Prop}
theorem Tp.r(h:w'.tape=w.tape)(k:w'.drawn=w.drawn):Tp md w w':=⟨h,fun _=>Nat.le_of_eq k.symm⟩
theorem Tp.s(h:w'.tape=w.tape)(k:w'.drawn=w.drawn+1):Tp md w w':=⟨h,fun _=>k▸Nat.le_succ _⟩
theorem Tp.trans{v u:World}(h:Tp md w v)(k:Tp md v u):Tp md w u:=⟨k.1.trans h.1,fun m=>dh (h.2 m) (k.2 m)⟩
structure Ext(md:Prop)(O:Nat→Prop)(E:Env)(w:World)(O':Nat→Prop)(E':Env)(w':World):Prop where
 os:w'.os=w.os
 tape:Tp md w w'
 output:w'.output=w.output
 size:w.heap.size≤w'.heap.size
 kept:∀g,g<w.heap.size→¬O g→w'.heap[g]? =w.heap[g]?
 sle:∀g,E.S g→E'.S g
 mQ:∀g,E'.S g→E.S g∨O g∨w.heap.size≤g
 own:∀g,O' g→O g∨w.heap.size≤g
 Jt:∀b,b<16→E'.g b=E.g b∧E'.sv b=E.sv b∧E'.bt b=E.bt b
theorem Ext.refl(O:Nat→Prop)(E:Env)(w:World):Ext md O E w O E w:=
 ⟨rfl,Tp.r rfl rfl,rfl,dP _,fun _ _ _=>rfl,fun _ h=>h,fun _ h=>Or.inl h,fun _ h=>Or.inl h,fun _ _=>⟨rfl,rfl,rfl⟩⟩
theorem Ext.trans{O O1 O2:Nat→Prop}{E1 E2:Env}{w1 w2:World}(h:Ext md O E w O1 E1 w1)(k:Ext md O1 E1 w1 O2 E2 w2):Ext md O E w O2 E2 w2 where
 os:=k.os.trans h.os
 tape:=h.tape.trans k.tape
 output:=k.output.trans h.output
 size:=dh h.size k.size
 kept:=fun g hg ho=>by
  rw[k.kept g (mK hg h.size) (fun h1=>(h.own g h1).elim ho (fun h2=>by omega)),h.kept g hg ho]
 sle:=fun g hg=>k.sle g (h.sle g hg)
 mQ:=fun g hg=>by
  rcases k.mQ g hg with h1|h1|h1
  ·exact h.mQ g h1
  ·exact(h.own g h1).elim (fun x=>Or.inr (Or.inl x)) (fun x=>Or.inr (Or.inr x))
  ·exact Or.inr (Or.inr (dh h.size h1))
 own:=fun g hg=>by
  rcases k.own g hg with h1|h1
  ·exact h.own g h1
  ·exact Or.inr (dh h.size h1)
 Jt:=fun b hb=>⟨(k.Jt b hb).1.trans (h.Jt b hb).1,(k.Jt b hb).2.1.trans (h.Jt b hb).2.1,(k.Jt b hb).2.2.trans (h.Jt b hb).2.2⟩
def RD(E:Env)(w:World):List AV→List Deferred→Prop
 |[],[]=>True
 | .mp b::l,d::ds=>(∃g,E.g b=some g∧d={target:=.collected g,args:= #[]})∧RD E w l ds
 | .func fn fs cs::l,d::ds=>(∃f c,d={target:=.fn fn c,args:=f}∧RC E w fs f.toList∧RC E w cs c.toList∧fs.atoms=true∧cs.atoms=true)∧RD E w l ds
 |_,_=>False
theorem RD.mono(k:bE E w E' w'):∀{l:List AV}{ds:List Deferred},(∀a∈l,E.on E' a.ids)→RD E w l ds→RD E' w' l ds
 |[],[],_,_=>trivial
 |[],_::_,_,h=>h.elim
 |a::l,[],_,h=>by cases a<;>exact h.elim
 |
  a::l,d::ds,ho,h=>by
  cases a with
  |
   func fn fs cs=>
   obtain⟨⟨f,c,e,h1,h2,h3,h4⟩,h5⟩:=h
   have:=ho _ (cm ..)
   exact⟨⟨f,c,e,RC.mono k this.left h1,RC.mono k this.right h2,h3,h4⟩,RD.mono k (fun a ha=>ho a (dj _ ha)) h5⟩
  |
   mp b=>
   obtain⟨⟨g,e1,e2⟩,h5⟩:=h
   have:=ho _ (cm ..) b (by simp[AV.ids])
   exact⟨⟨g,by rw[this.1];exact e1,e2⟩,RD.mono k (fun a ha=>ho a (dj _ ha)) h5⟩
  |_=>exact h.elim
structure bQ(gl:Ctx)(σ:St)(E:Env)(a:Act)(w:World):Prop where
 len:a.tmps.size=σ.tm.length
 tm:∀(i:Nat)(x:AV),σ.tm[i]? =some x→∀v,a.tmps[i]? =some v→RV E w x v
 hw:HW gl E w σ.hp
 df:RD E w σ.df a.defers
theorem HW.kept{gl:Ctx}{O':Nat→Prop}(h:HW gl E w hp)(x:Ext gl.md (bx hp E) E w O' E' w'):bE E w E' w' where
 w:=fun b hb=>x.kept b (h.slt b hb) (fun⟨c,k,hc,hg⟩=>h.dC c k b hc hg hb)
 S:=x.sle
theorem RM.mono(k:bE E w E' w'):∀{l:List MapEntry}{xs:List (kt.den×vt.den)},RM E w kt vt l xs→RM E' w' kt vt l xs
 |[],[],_=>trivial
 |[],_::_,h=>h.elim
 |_::_,[],h=>h.elim
 |e::l,x::xs,h=>⟨bZ.mono k (fun b hb=>by cases hb) h.1,bZ.mono k (fun b hb=>by cases hb) h.2.1,RM.mono k h.2.2⟩
theorem PM.mono{b:Nat}{t:Ty}{es:List (kt.den×t.den)}{e2':TypeId}{f:Option (kt.den×AV×Bool)}(kp:bE E w E' w')(ho':E.on E' (aO.pmap kt t es e2' f).ids)(hkA:∀g,E.has b g→w'.heap[g]? =w.heap[g]?)(e1:E'.g b=E.g b)(hP:∀g,E.P b g→E'.P b g)(h:PM E w b kt t es e2' f):PM E' w' b kt t es e2' f:=by
 have hk:∀g,E.g b=some g→w'.heap[g]? =w.heap[g]? :=fun g h=>hkA g (Or.inl h)
 obtain⟨h1,h2,h3,g,en,clock,og,q1,q2,q3,q4,q5,q6,q7,q8⟩:=h
 refine⟨h1,h2,h3,g,en,clock,og,by grind,by grind,q3,q4,q5.mono hP,q6,fun i x hx=>?_,fun kx v=>⟨fun hf hn=>?_,(q8 kx v).2⟩⟩
 ·obtain⟨m,r1,r2,r3,r4⟩:=q7 i x hx
  refine⟨m,r1,bZ.mono kp (fun _ hb=>by cases hb) r2,fun v pr hv=>⟨(r3 v pr hv).1,?_⟩,fun hv=>cZ.mono kp.w kp.S (fun gg hgg=>hkA gg (Or.inr (q5.own i gg hgg).1)) (r4 hv)⟩
  subst hv
  exact RC.mono kp ho' (r3 v pr rfl).2
 ·subst hf
  exact RC.mono kp ho' ((q8 kx v).1 rfl hn)
theorem RF.mono(k:bE E w E' w'):∀{l:List MapEntry}{xs:List (kt.den×AV)},E.on E' (xs.flatMap fun x=>x.2.ids)→RF E w kt l xs→RF E' w' kt l xs
 |[],[],_,_=>trivial
 |[],_::_,_,h=>h.elim
 |_::_,[],_,h=>h.elim
 |e::l,x::xs,ho,h=>⟨bZ.mono k (fun b hb=>by cases hb) h.1,RC.mono k (Env.on.left (by trivial)) h.2.1,h.2.2.1,RF.mono k (Env.on.right (a:=x.2.ids) (by grind)) h.2.2.2⟩
theorem RB.mono{b:Nat}{k:aO}(kp:bE E w E' w')(ho:E.on E' (b::k.ids))(hk:∀g,E.has b g→w'.heap[g]? =w.heap[g]?)(hP:k.Ua=true→∀g,E.P b g→E'.P b g)(h:RB E w b k):RB E' w' b k:=by
 have hkA:=hk
 have hk:∀g,E.g b=some g→w'.heap[g]? =w.heap[g]? :=fun g h=>hk g (Or.inl h)
 obtain⟨e1,e2,e3⟩:=ho b (cm ..)
 have ho':E.on E' k.ids:=fun x hx=>ho x (dj _ hx)
 cases k with
 |
  var t v=>
  obtain⟨h1,h2,g,c,e,h3,h4,h5⟩:=h
  exact⟨by grind,h2,g,c,e,by grind,by grind,RC.mono kp ho' h5⟩
 |
  row e bs t xs=>
  obtain⟨h1,h2,h3,h4,a,cap,h5,h6,h7⟩:=h
  refine⟨by grind,h2,h3,h4,a,cap,by grind,h6,?_⟩
  rcases h7 with⟨h7,h8,h9⟩|⟨g,c,h7,h8,h9,h10,h11,h12⟩
  ·grind
  ·exact Or.inr ⟨g,c,by grind,h8,by grind,h10,h11,bk.mono (fun _ _=>Rel.mono kp.w kp.S) h12⟩
 |
  map kt vt es=>
  obtain⟨h1,h1',g,en,clock,h2,h3,h4,h5,h6⟩:=h
  exact⟨h1,h1',g,en,clock,by grind,by grind,RM.mono kp h4,h5,h6⟩
 |
  mN kt vt es kx=>
  obtain⟨h1,h1',g,en,clock,h2,h3,h4,h5,h6,n,h7,h8⟩:=h
  exact⟨h1,h1',g,en,clock,by grind,by grind,RM.mono kp h4,h5,h6,n,by grind,h8⟩
 |
  gq e bs t xs=>
  obtain⟨ys,hp,h1,h2,h3,h4,a,cap,h5,h6,h7⟩:=h
  refine⟨ys,hp,by grind,h2,h3,h4,a,cap,by grind,h6,?_⟩
  rcases h7 with⟨h7,h8,h9⟩|⟨g,c,h7,h8,h9,h10,h11,h12⟩
  ·grind
  ·exact Or.inr ⟨g,c,by grind,h8,by grind,h10,h11,bk.mono (fun _ _=>Rel.mono kp.w kp.S) h12⟩
 |
  kB k v rest cur=>
  obtain⟨g,om,since,seen,c0,q1,q2,q3⟩:=h
  refine⟨g,om,since,seen,c0,by grind,by grind,q3.imp id ?_⟩
  rintro⟨bm,en,r1,r2,r3,r4,r5,r6,r7,r8⟩
  refine⟨bm,en,r1,kp.S bm r2,by rw[kp.w bm r2];exact r3,r4,r5,r6,RM.mono kp r7,fun x hx=>?_⟩
  obtain⟨e,s0,t1,t2,t3,t4⟩:=r8 x hx
  exact⟨e,s0,t1,t2,bZ.mono kp (fun _ hb=>by cases hb) t3,bZ.mono kp (fun _ hb=>by cases hb) t4⟩
 |
  cT e bs t xs e2' f=>
  obtain⟨h1,h2,h3,h4,h5,g,cap,c,og,q1,q2,q3,q4,q5,q6,q7,q8⟩:=h
  refine⟨by grind,h2,h3,h4,h5,g,cap,c,og,by grind,q2,by grind,by grind,q5,q6,q7.mono (hP rfl),fun i x hx=>?_⟩
  obtain⟨u,r1,r2,r3⟩:=q8 i x hx
  refine⟨u,r1,fun v hv=>⟨(r2 v hv).1,?_⟩,fun hv=>cZ.mono kp.w kp.S (fun gg hgg=>hkA gg (Or.inr (q7.own i gg hgg).1)) (r3 hv)⟩
  subst hv
  exact RC.mono kp ho' (r2 v rfl).2
 |pmap kt t es e2' f=>exact PM.mono kp (by grind) hkA e1 (hP rfl) h
 |
  gp kt t es e2' kx v pr=>
  obtain⟨h1,n,g,en,clock,q1,q2,q3,q4,q5⟩:=h
  exact⟨PM.mono kp ho' hkA e1 (hP rfl) h1,n,g,en,clock,by grind,by grind,by grind,q4,q5⟩
 |
  iu kt l=>
  obtain⟨h1,h2,g,en,clock,q1,q2,q3⟩:=h
  exact⟨h1,h2,g,en,clock,by grind,by grind,RF.mono kp ho' q3⟩
 |lp l r=>exact⟨by rw[e1];exact h.1,by rw[hk l.l h.1];exact h.2⟩
 |uS=>obtain⟨g,h1,h2⟩:=h;exact⟨g,by grind,by grind⟩
 |
  tv g t v=>
  obtain⟨h0,h1,h2,c,e,h4,h5⟩:=h
  exact⟨by grind,by grind,h2,c,e,by grind,RC.mono kp ho' h5⟩
 |
  cI e bs t xs i v=>
  obtain⟨h1,h2,h3,h4,h5,h6,g,cap,c,q1,q2,q3,q4,q5,q6,q7,q8,q9⟩:=h
  exact⟨by grind,h2,h3,h4,h5,h6,g,cap,c,by grind,q2,by grind,by grind,q5,q6,bk.mono (fun _ _=>Rel.mono kp.w kp.S) q7,RC.mono kp ho' q8,bk.mono (fun _ _=>Rel.mono kp.w kp.S) q9⟩
def St.put(σ:St)(dst:Option Nat)(x:AV):St:=
 match dst with
 |some d=>{σ with tm:=σ.tm.set d x}
 |none=>σ
def St.cQ(σ:St)(b:Nat)(k:Option aO):St:={σ with hp:=σ.hp.set b k}
variable{σ:St}
theorem bQ.put{gl:Ctx}{a:Act}(h:bQ gl σ E a w)(dst:Option Nat){x:AV}{v:Value}(hv:RV E w x v):bQ gl (σ.put dst x) E (a.put dst v) w:=by
 cases dst with
 |none=>exact h
 |
  some d=>
  refine⟨by simp[Act.put,St.put,h.len],?_,h.hw,h.df⟩
  intro i y hi u hu
  simp only[St.put,dv] at hi
  simp only[Act.put,Array.getElem?_setIfInBounds] at hu
  by_cases e:d=i
  ·grind
  ·simp only[e,dB] at hi hu
   exact h.tm i y hi u hu
def St.ids(σ:St):List Nat:=σ.tm.flatMap AV.ids++σ.df.flatMap AV.ids++(σ.hp.filterMap id).flatMap aO.ids
theorem St.EX{i:Nat}{x:AV}(h:σ.tm[i]? =some x):∀b∈x.ids,b∈σ.ids:=fun b hb=>by
 simp only[St.ids,jb,List.mem_flatMap]
 grind
theorem St.Lp{x:AV}(h:x∈σ.df):∀b∈x.ids,b∈σ.ids:=fun b hb=>by
 grind [St.ids]
theorem St.AB{i:Nat}{k:aO}(h:σ.hp[i]? =some (some k)):∀b∈k.ids,b∈σ.ids:=fun b hb=>by
 simp only[St.ids,jb,List.mem_flatMap]
 exact Or.inr ⟨k,List.mem_filterMap.2 ⟨some k,kL h,rfl⟩,hb⟩
theorem bQ.carry{gl:Ctx}{a:Act}(h:bQ gl σ E a w)(k:bE E w E' w')(ho:E.on E' σ.ids)(hw:HW gl E' w' hp):bQ gl {σ with hp:=hp} E' a w':=
 ⟨h.len,fun i x hi v hv=>RV.mono k (fun b hb=>ho b (St.EX (σ:=σ) hi b hb)) (h.tm i x hi v hv),hw,RD.mono k (fun _x hx b hb=>ho b (St.Lp (σ:=σ) hx b hb)) h.df⟩
def Env.at(E:Env)(d:Nat)(g:Option Nat)(sv:Value)(t:Ty):Env:=
 {E with g:=fun b=>if b=d then g else E.g b,sv:=fun b=>if b=d then sv else E.sv b,bt:=fun b=>if b=d then t else E.bt b,P:=fun b=>if b=d then fun _=>False else E.P b}
variable{sv:Value}
theorem Env.Lq{d:Nat}{g:Option Nat}{t:Ty}(h:16≤d):∀b,b<16→(E.at d g sv t).g b=E.g b∧(E.at d g sv t).sv b=E.sv b∧(E.at d g sv t).bt b=E.bt b:=fun b hb=>by
 grind [Env.at]
theorem Env.C9{d:Nat}{g:Option Nat}{t:Ty}{ids:List Nat}(h:d∉ids):E.on (E.at d g sv t) ids:=fun b hb=>by
 grind [Env.at]
theorem HW.gJ{gl:Ctx}(h:HW gl E w hp)(k:bE E w E' w'):Lo gl E' w':=
 ⟨fun x hx=>by
  obtain⟨h1,cs,h2,h3⟩:=h.gl.1 x hx
  exact⟨k.S _ h1,cs,h2.mono (k.w _ h1),Rel.mono k.w k.S h3⟩,gl.mono k.w k.S h.gl.2⟩
variable{k':aO}
theorem HW.below{gl:Ctx}(h:HW gl E w hp){b i:Nat}(hb:hp[b]? =some (some k'))(hgi:E.has b i):i<w.heap.size:=by
 rcases hgi with hgi|hgi
 case inr=>exact h.uu b k' i hb hgi
 have:=h.cQ b k' hb
 cases k' with
 |var t v=>obtain⟨_,_,g,c,e,h3,h4,_⟩:=this;grind
 |
  row e bs t xs=>
  obtain⟨_,_,_,_,a,cap,_,_,h7⟩:=this
  grind
 |map kt vt es=>obtain⟨_,_,g,en,clock,h2,h3,_⟩:=this;grind
 |mN kt vt es kx=>obtain⟨_,_,g,en,clock,h2,h3,_⟩:=this;grind
 |
  gq e bs t xs=>
  obtain⟨_,_,_,_,_,_,a,cap,_,_,h7⟩:=this
  grind
 |kB k v rest cur=>obtain⟨g,_,_,_,_,h3,h4,_⟩:=this;grind
 |cT e bs t xs e2 f=>obtain⟨_,_,_,_,_,g,cap,c,og,_,_,h3,h4,_⟩:=this;grind
 |pmap kt t es e2 f=>obtain⟨_,_,_,g,en,clock,og,h3,h4,_⟩:=this;grind
 |gp kt t es e2 kx v pr=>obtain⟨_,n,g,en,clock,_,h3,h4,_⟩:=this;grind
 |iu kt l=>obtain⟨_,_,g,en,clock,h3,h4,_⟩:=this;grind
 |lp l r=>obtain⟨h2,h3⟩:=this;grind
 |uS=>obtain⟨g,h2,h3⟩:=this;grind
 |tv g t v=>obtain⟨h2,_,_,c,e,h3,_⟩:=this;grind
 |cI e bs t xs i v=>obtain⟨_,_,_,_,_,_,g,cap,c,_,_,h3,h4,_⟩:=this;grind
theorem bx.below{gl:Ctx}(h:HW gl E w hp){i:Nat}(ho:bx hp E i):i<w.heap.size:=by
 obtain⟨b,k',hb,hgi⟩:=ho
 exact h.below hb hgi
theorem Env.jc{d:Nat}{g:Option Nat}{t:Ty}{b i:Nat}(hne:b≠d):(E.at d g sv t).has b i↔E.has b i:=by simp[Env.has,Env.at,hne]
theorem Env.j9{d:Nat}{g:Option Nat}{t:Ty}{i:Nat}:(E.at d g sv t).has d i↔g=some i:=by simp[Env.has,Env.at]
theorem HW.fresh{gl:Ctx}(h:HW gl E w hp){d:Nat}{g:Option Nat}{t:Ty}{k:aO}
 (hsz:w.heap.size≤w'.heap.size) (hold:∀i,i<w.heap.size→w'.heap[i]? =w.heap[i]?)
 (hd:∀k',hp[d]? ≠some (some k')) (hids:∀(b:Nat)(k':aO),hp[b]? =some (some k')→d∉k'.ids) (hg:∀i,g=some i→w.heap.size≤i) (hb:RB (E.at d g sv t) w' d k):HW gl (E.at d g sv t) w' (hp.set d (some k)):=by
 have kp:bE E w (E.at d g sv t) w':=⟨fun b hb=>hold b (h.slt b hb),fun b hb=>hb⟩
 have old:∀(b:Nat)(k':aO),b≠d→(hp.set d (some k))[b]? =some (some k')→hp[b]? =some (some k'):=by
  grind
 refine⟨?_,?_,?_,?_,h.gJ kp,?_⟩
 ·intro b k' hbk
  by_cases e:b=d
  ·grind
  ·have hbk':=old b k' e hbk
   refine RB.mono kp (Env.C9 ?_) ?_ (fun _ g hg=>by simpa[Env.at,e] using hg) (h.cQ b k' hbk')
   ·grind
   ·intro i hi
    exact hold i (h.below hbk' hi)
 ·intro b b' k1 k2 i hb hb' h1 h2
  by_cases e:b=d<;>by_cases e':b'=d
  ·grind
  ·subst e
   have h1:=hg i (Env.j9.1 h1)
   have:=h.below (old b' k2 e' hb') ((Env.jc e').1 h2)
   omega
  ·subst e'
   have h2:=hg i (Env.j9.1 h2)
   have:=h.below (old b k1 e hb) ((Env.jc e).1 h1)
   omega
  ·exact h.ew b b' k1 k2 i (old b k1 e hb) (old b' k2 e' hb') ((Env.jc e).1 h1) ((Env.jc e').1 h2)
 ·intro b k1 i hb h1 hs
  by_cases e:b=d
  ·subst e
   have:=hg i (Env.j9.1 h1)
   have:=h.slt i hs
   omega
  ·exact h.dC b k1 i (old b k1 e hb) ((Env.jc e).1 h1) hs
 ·intro i hs;exact mK (h.slt i hs) hsz
 ·intro b k1 i hb h1
  by_cases e:b=d
  ·subst e;simp[Env.at] at h1
  ·have h1:E.P b i:=by simpa[Env.at,e] using h1
   exact mK (h.uu b k1 i (old b k1 e hb) h1) hsz
theorem HW.write{gl:Ctx}(h:HW gl E w hp){b:Nat}{k:aO}(hb:hp[b]? =some (some k))(hsz:w'.heap.size=w.heap.size)
 (hold:∀i,E.g b≠some i→w'.heap[i]? =w.heap[i]?) (hk:RB E w' b k'):HW gl E w' (hp.set b (some k')):=by
 have kp:bE E w E w':=⟨fun i hi=>hold i (fun e=>h.jI b k i hb e hi),fun b hb=>hb⟩
 have old:∀(b':Nat)(k2:aO),b'≠b→(hp.set b (some k'))[b']? =some (some k2)→hp[b']? =some (some k2):=by
  grind
 have any:∀(b':Nat)(k2:aO),(hp.set b (some k'))[b']? =some (some k2)→∃k3:aO,hp[b']? =some (some k3):=by
  grind
 refine⟨?_,?_,?_,?_,h.gJ kp,?_⟩
 ·intro b' k2 hb'
  by_cases e:b'=b
  ·grind
  ·have hb2:=old b' k2 e hb'
   refine RB.mono kp (fun x _=>⟨rfl,rfl,rfl⟩) ?_ (fun _ _ h=>h) (h.cQ b' k2 hb2)
   intro i hi
   exact hold i (fun e'=>e (h.ew b' b k2 k i hb2 hb hi (Or.inl e')))
 ·intro b1 b2 k1 k2 i h1 h2 g1 g2
  obtain⟨k3,h3⟩:=any b1 k1 h1
  obtain⟨k4,h4⟩:=any b2 k2 h2
  exact h.ew b1 b2 k3 k4 i h3 h4 g1 g2
 ·intro b1 k1 i h1 g1
  obtain⟨k3,h3⟩:=any b1 k1 h1
  exact h.dC b1 k3 i h3 g1
 ·intro i hi;rw[hsz];exact h.slt i hi
 ·intro b1 k1 i h1 g1
  obtain⟨k3,h3⟩:=any b1 k1 h1
  rw[hsz];exact h.uu b1 k3 i h3 g1
theorem bx.set{b:Nat}{k:aO}(hb:hp[b]? =some (some k)){i:Nat}(h:bx (hp.set b (some k')) E i):bx hp E i:=by
 obtain⟨b',k2,hb',hg⟩:=h
 by_cases e:b'=b
 ·subst e;exact⟨b',k,hb,hg⟩
 ·rw[dv,aC (fun e'=>e e'.symm)] at hb'
  exact⟨b',k2,hb',hg⟩
structure MS where
 name:String
 f:FuncId
 st:Option (TypeId×Nat×TypeId)
structure TD where
 ty:Ty
 e:TypeId:=0
 e2:TypeId:=0
 ms:List MS:=[]
abbrev bN:=List (Option TD)
def bN.at(G:bN)(t:TypeId):Option TD:=(G[t]?).join
def gn.zero:gn→AV
 | .ptr=>.eP
 | .map=>.dX
 | .func=>.fv
 | .iface=>.hJ
 | .sl=>.bn
def Ty.zero:Ty→AV
 | .slice _ _=>.bn
 | .pair a b=>.cons a.zero b.zero
 | .unit=>.nil
 | .aT k=>gn.zero k
 | .map _ _=>.dX
 |t=>.val t t.aD
def Ty.pure:Ty→Bool
 | .arr _ t=>t.pure
 | .slice _ t=>t.pure
 | .pair a b=>a.pure&&b.pure
 | .aT _| .fns _=>false
 | .map k v=>k.pure&&v.pure
 |_=>true
def Lr:Value→Bool
 | .nilFunc=>true
 |_=>false
def isZero:Ty→Value→Bool
 | .int k,.int k' n=>Nat.beq (IntKind.code k) (IntKind.code k')&&decide (n=0)
 | .bool,.bool b=> !b
 | .str,.string s=>s.data.toList.isEmpty
 | .slice _ _,.slice a n c=>a.isNone&&Nat.beq n 0&&Nat.beq c 0
 | .aT .ptr,.pointer a=>a.isNone
 | .aT .map,.map a=>a.isNone
 | .map _ _,.map a=>a.isNone
 | .aT .func,.nilFunc=>true
 | .aT .iface,.nilIface=>true
 | .aT .sl,.slice a n c=>a.isNone&&Nat.beq n 0&&Nat.beq c 0
 |_,_=>false
def mR:Ty→List Value→Bool
 | .arr n t,cs=>Nat.beq cs.length (n*t.size)&&t.pure&&(List.range n).all fun i=>mR t ((cs.drop (i*t.size)).take t.size)
 | .pair a b,cs=>Nat.ble a.size cs.length&&mR a (cs.take a.size)&&mR b (cs.drop a.size)
 | .unit,cs=>cs.isEmpty
 | .fns n,cs=>Nat.beq cs.length n&&cs.all Lr
 |t,[v]=>isZero t v
 |_,_=>false
theorem jz{t:Ty}{v:Value}(ha:t.isAgg=false)(h:isZero t v=true):RC E w t.zero [v]∧(t.pure=true→Rel w E.S t [v] t.aD):=by
 cases t with
 |
  int k=>
  cases v<;>simp[isZero] at h
  obtain⟨h1,h2⟩:=h
  have:=IntKind.kO h1
  subst this;subst h2
  refine⟨⟨rfl,?_,?_⟩,fun _=>⟨rfl,?_,?_⟩⟩<;>(cases k<;>decide)
 |
  bool=>
  cases v<;>simp[isZero] at h
  subst h
  exact⟨rfl,fun _=>rfl⟩
 |
  str=>
  cases v with
  |
   string s=>
   simp[isZero] at h
   have:s=⟨#[]⟩:=by cases s;simp_all
   subst this
   exact⟨⟨rfl,by trivial⟩,fun _=>⟨rfl,by trivial⟩⟩
  |_=>trivial
 |
  slice bs t=>
  cases v with
  |
   slice a n c=>
   simp[isZero] at h
   obtain⟨⟨h1,h2⟩,h3⟩:=h
   subst h1;subst h2;subst h3
   exact⟨rfl,fun _=>⟨none,0,rfl,dP _,by simp[Ty.aD],by simp[Ty.aD],Or.inl rfl⟩⟩
  |_=>trivial
 |
  map k e=>
  cases v<;>simp[isZero] at h
  subst h
  exact⟨rfl,fun _=>⟨none,rfl,Or.inl ⟨rfl,rfl⟩⟩⟩
 |
  aT k=>
  refine⟨?_,fun hp=>by trivial⟩
  cases k<;>cases v<;>simp[isZero] at h<;>first|rfl|(subst h;rfl)|(obtain⟨⟨h1,h2⟩,h3⟩:=h;subst h1;subst h2;subst h3;rfl)
 |_=>trivial
theorem bk.Da{r:List Value→α→Prop}(x:α)(k:Nat):∀(n:Nat)(cs:List Value),cs.length=n*k→(∀i,i<n→r ((cs.drop (i*k)).take k) x)→bk r cs (List.replicate n x):=by
 intro n
 induction n with
 |zero=>grind [bk]
 |
  succ n ih=>
  intro cs hl h
  rw[List.replicate_succ]
  rw[gX,Nat.one_mul] at hl
  refine⟨cs.take k,cs.drop k,(kH k cs).symm,by have:=h 0 (by omega);grind,ih _ (by grind) ?_⟩
  intro i hi
  have:=h (i+1) (by omega)
  simp_all[gX,Nat.add_comm]
theorem fN:∀{t:Ty}{cs:List Value},mR t cs=true→RC E w t.zero cs∧(t.pure=true→Rel w E.S t cs t.aD):=by
 intro t
 induction t with
 |
  arr n t ih=>
  intro cs h
  simp only[mR,bj,j6,List.mem_range] at h
  obtain⟨⟨h1,h2⟩,h3⟩:=h
  have h1':cs.length=n*t.size:=bM h1
  have:Rel w E.S (.arr n t) cs (Ty.aD (.arr n t)):=
   ⟨by simp[Ty.aD],bk.Da t.aD t.size n cs h1' (fun i hi=>(ih (h3 i hi)).2 h2)⟩
  exact⟨this,fun _=>this⟩
 |
  pair a b ih1 ih2=>
  intro cs h
  simp only[mR,bj] at h
  obtain⟨⟨_,h1⟩,h2⟩:=h
  have e:=(kH a.size cs).symm
  refine⟨⟨_,_,e,(ih1 h1).1,(ih2 h2).1⟩,fun hp=>?_⟩
  simp only[Ty.pure,bj] at hp
  exact⟨_,_,e,(ih1 h1).2 hp.1,(ih2 h2).2 hp.2⟩
 |unit=>intro cs h;simp[mR] at h;exact⟨h,fun _=>h⟩
 |
  fns n=>
  intro cs h
  simp only[mR,bj,j6] at h
  have hl:=bM h.1
  have e:cs=(List.replicate n none).map EW:=by
   apply List.ext_getElem
   ·simp[hl]
   grind [eT,EW,Lr]
  have:Rel w E.S (.fns n) cs (Ty.aD (.fns n)):=⟨by simp[Ty.aD],e⟩
  exact⟨this,fun _=>this⟩
 |int k=>intro cs h;match cs,h with|[v],h=>exact jz rfl h
 |bool=>intro cs h;match cs,h with|[v],h=>exact jz rfl h
 |str=>intro cs h;match cs,h with|[v],h=>exact jz rfl h
 |slice bs t=>intro cs h;match cs,h with|[v],h=>exact jz rfl h
 |aT k=>intro cs h;match cs,h with|[v],h=>exact jz rfl h
 |map k v=>intro cs h;match cs,h with|[v],h=>exact jz rfl h
theorem Ty.su(t:Ty):t.zero.cp t=true:=by
 induction t with
 |pair a b ih1 ih2=>simp[Ty.zero,AV.cp,ih1,ih2]
 |aT k=>cases k<;>rfl
 |map _ _=>rfl
 |slice bs t=>rfl
 |unit=>rfl
 |_=>exact Ty.cV _
def cc(G:bN):List Field→Nat→Ty→Bool
 |[],_,.unit=>true
 |f::fs,off,.pair a b=>(match G.at f.type with|some td=>Ty.same td.ty a|none=>false)&&Nat.beq f.offset off&&Nat.blt 0 a.size&&cc G fs (off+a.size) b
 |_,_,_=>false
def ck(P:Program)(G:bN)(td:TD):TypeDesc→Bool
 | .bool=>Ty.same td.ty .bool
 | .int k=>Ty.same td.ty (.int k)
 | .string=>Ty.same td.ty .str
 | .slice e=>Ty.same td.ty (.aT .sl)||Nat.beq td.e e&&(match td.ty,G.at e,P.info? e with| .slice bs t,some te,some ie=>Ty.same te.ty t&&Nat.beq ie.bytes bs&&Nat.blt 0 t.size&&Nat.blt 0 bs|_,_,_=>false)
 | .array n e=>(match td.ty,G.at e with| .fns m,some te=>Nat.beq td.e e&&Nat.beq m n&&Ty.same te.ty (.aT .func)|_,_=>false)||Nat.beq td.e e&&(match td.ty,G.at e,P.info? e with| .arr m t,some te,some ie=>Ty.same te.ty t&&Nat.beq m n&&Nat.beq ie.bytes td.e2|_,_,_=>false)
 | .struct fs=>cc G fs.toList 0 td.ty
 | .pointer _=>Ty.same td.ty (.aT .ptr)
 | .map k e=>(Ty.same td.ty (.aT .map)||(match td.ty,G.at k,G.at e with| .map a b,some ta,some tb=>Ty.same ta.ty a&&Ty.same tb.ty b|_,_,_=>false))&&Nat.beq td.e k&&Nat.beq td.e2 e
 | .func _ _ _=>Ty.same td.ty (.aT .func)
 | .interface _=>Ty.same td.ty (.aT .iface)
 |_=>false
def Ty.mS:Ty→Bool
 | .aT .map| .map _ _=>true
 |_=>false
variable{P:Program}{td:TD}
theorem jt{G:bN}{k e:TypeId}(h:ck P G td (.map k e)=true):td.ty.mS=true∧td.e=k∧td.e2=e:=by
 simp only[ck,bj,fK] at h
 obtain⟨⟨h,h1⟩,h2⟩:=h
 refine⟨?_,bM h1,bM h2⟩
 rcases h with h|h
 ·rw[Ty.aB h];rfl
 ·split at h
  ·rename_i e1 _ _;rw[e1];rfl
  grind
def EY:Value→Bool
 | .agg _=>true
 |_=>false
def dr:TypeDesc→Bool
 | .struct _| .array _ _=>true
 |_=>false
def AD:TypeDesc→Bool
 | .pointer _=>true
 |_=>false
def wi(P:Program)(G:bN)(t:TypeId)(pr:Bool):Option (TypeId×Nat×TypeId)→List FieldStep→Bool
 |
  none,[]=>match P.underlying t with
  |some d=>AD d==pr
  |none=>false
 |
  some (s,i,ft),[x]=> !pr&&x.deref&&Nat.beq x.struct s&&Nat.beq x.index i&&(match P.underlying s,P.underlying ft with
  |
   some (.struct fs),some d=> !AD d&&(match fs[i]? with
   |some f=>Nat.beq f.type ft
   |none=>false)
  |_,_=>false)&&(match G.at s with
  |
   some td=>(match td.ty.sub [.cD i] with
   |some _=>true
   |none=>false)
  |none=>false)
 |_,_=>false
def XC(P:Program)(G:bN)(t:TypeId)(ii:TypeInfo)(m:MS):Bool:=
 match ii.methods.find? (fun x=>x.name==m.name) with
 |
  some r=>(match r.func with
  |some (f,pr)=>Nat.beq f m.f&&wi P G t pr m.st r.path.toList
  |none=>false)
 |none=>false
def S8(P:Program)(G:bN)(t:TypeId)(td:TD):Bool:=
 match P.info? t,P.underlying t with
 |some i,some d=>td.ms.all (XC P G t i)&&(Nat.beq i.size td.ty.size&&(match i.zero with|some z=>mR td.ty z.cells.toList&&(EY z==td.ty.isAgg)|none=>false)&&ck P G td d)
 |_,_=>false
def wj(P:Program)(G:bN):Nat→List (Option TD)→Bool
 |_,[]=>true
 |i,none::l=>wj P G (i+1) l
 |i,some td::l=>S8 P G i td&&wj P G (i+1) l
theorem sx(P:Program)(G:bN):∀(l:List (Option TD))(i:Nat),wj P G i l=true→∀j td,l[j]? =some (some td)→S8 P G (i+j) td=true
 |[],_,_,j,td,h=>by simp at h
 |
  none::l,i,h,j,td,hj=>by
  cases j with
  |zero=>simp at hj
  |succ j=>have:=sx P G l (i+1) h j td (by simpa using hj);rw[show i+(j+1)=i+1+j from by omega];exact this
 |
  some x::l,i,h,j,td,hj=>by
  simp only[wj,bj] at h
  cases j with
  |zero=>grind
  |succ j=>have:=sx P G l (i+1) h.2 j td (by grind);grind
structure bA(P:Program)(G:bN):Prop where
 S8:∀t td,G.at t=some td→S8 P G t td=true
 Ub:P.follows .mixedOrders=true
theorem bA.mk'{G:bN}(h:wj P G 0 G=true)(ho:P.follows .mixedOrders=true):bA P G:=
 ⟨fun t td ht=>by
  have:G[t]? =some (some td):=by
   grind [bN.at]
  have:=sx P G G 0 h t td this
  grind,ho⟩
section
variable{P:Program} {G:bN} (T:bA P G) {t:TypeId} {td:TD} (h:G.at t=some td)
include T h
theorem bA.info:∃i d,P.info? t=some i∧P.underlying t=some d∧i.size=td.ty.size∧ck P G td d=true∧∃z,i.zero=some z∧mR td.ty z.cells.toList=true∧EY z=td.ty.isAgg:=by
 have:=T.S8 t td h
 unfold Ax.S8 at this
 split at this
 ·rename_i i d hi hd
  simp only[bj] at this
  obtain⟨_,⟨h1,h2⟩,h3⟩:=this
  split at h2<;>simp_all
 grind
theorem bA.acX{m:MS}(hm:m∈td.ms):∃i r f pr,P.info? t=some i∧i.methods.find? (fun x=>x.name==m.name)=some r∧r.func=some (f,pr)∧f=m.f∧wi P G t pr m.st r.path.toList=true:=by
 have:=T.S8 t td h
 unfold Ax.S8 at this
 split at this
 ·rename_i i d hi hd
  simp only[bj,j6] at this
  have:=this.1 m hm
  unfold XC at this
  split at this
  ·rename_i r hr
   split at this
   ·rename_i f pr hf
    simp only[bj] at this
    grind [bM]
   grind
  grind
 grind
theorem bA.size(w:World):(sizeOf t).run P w= .ok td.ty.size w:=by
 obtain⟨i,d,h1,_,h2,_⟩:=T.info h
 simp[sizeOf,typeInfo,h1,h2]
end
theorem dm{G:bN}{d:TypeDesc}(h:ck P G td d=true):dr d=td.ty.isAgg:=by
 cases d<;>simp only[ck] at h<;>try (first|(have:=Ty.aB h;rw[this];rfl)|cases h)
 ·rw[fK] at h
  rcases h with h|h
  ·have:=Ty.aB h;rw[this];rfl
  ·simp only[bj] at h
   obtain⟨_,h⟩:=h
   split at h
   ·rename_i h1 _ _;rw[h1];rfl
   grind
 ·rw[fK] at h
  rcases h with h|h
  ·split at h
   ·rename_i h1 _;rw[h1];rfl
   grind
  ·simp only[bj] at h
   obtain⟨_,h⟩:=h
   split at h
   ·rename_i h1 _ _;rw[h1];rfl
   grind
 ·simp only[bj,fK] at h
  rcases h.1.1 with h|h
  ·have:=Ty.aB h;rw[this];rfl
  ·split at h
   ·rename_i h1 _ _;rw[h1];rfl
   grind
 ·rename_i fs
  show true=_
  revert h
  generalize fs.toList=l
  intro h
  cases l with
  |nil=>cases ht:td.ty<;>rw[ht] at h<;>simp[cc] at h;rfl
  |cons f l=>cases ht:td.ty<;>rw[ht] at h<;>simp[cc] at h;rfl
theorem bA.isAgg{G:bN}(T:bA P G){t:TypeId}(h:G.at t=some td)(w:World):(isAgg t).run P w= .ok td.ty.isAgg w:=by
 obtain⟨i,d,_,h1,_,h2,_⟩:=T.info h
 have:=dm h2
 unfold Go.isAgg
 simp only[Sem.run_bind,underlying,run_program,Result.andThen_ok,h1,Sem.run_pure]
 cases d<;>simp[dr] at this ⊢ <;>exact this
theorem bA.zero{G:bN}(T:bA P G){t:TypeId}(h:G.at t=some td)(w:World):∃z,(zeroValue t).run P w= .ok z w∧mR td.ty z.cells.toList=true∧EY z=td.ty.isAgg:=by
 obtain⟨i,d,h1,_,_,_,z,hz,h3,h4⟩:=T.info h
 simp_all[zeroValue,typeInfo]
def qy:Value→AV
 | .bool b=>.val .bool b
 | .int k n=>if decide (k.min≤n)&&decide (n≤k.max) then .val (.int k) n else .bot
 | .string s=>if Nat.ble s.data.toList.length aH then .val .str s.data.toList else .bot
 | .slice none 0 0=>.bn
 | .pointer none=>.eP
 | .map none=>.dX
 | .nilFunc=>.fv
 | .nilIface=>.hJ
 |_=>.bot
def sy:List Js→Nat→AV
 |[],_=>.bot
 |x::l,g=>if Nat.beq x.g g then .cd x.t x.x else sy l g
def bC(gl:Ctx)(tm:List AV):Operand→AV
 | .tmp t=>(tm[t]?).getD .bot
 | .const v=>qy v
 | .global g=>sy gl.gl g
 | .func f=>.func (.func f) .nil .nil
theorem RV.eS{x:AV}{v:Value}(h:bZ E w x v):RV E w x v:=by
 cases x with
 |bot=>trivial
 |fU l=>rcases h with⟨h,_⟩|⟨_,h⟩<;>simp[AV.isAgg,RC] at h
 |opt c a=>rcases h with⟨h,_⟩|⟨_,h⟩<;>simp[AV.isAgg,RC] at h
 |_=>exact h
def AV.plain:AV→Bool
 | .bot| .fU _| .opt _ _=>false
 |_=>true
theorem RV.jq{x:AV}{v:Value}(hp:x.plain=true)(h:RV E w x v):bZ E w x v:=by
 cases x<;>first|exact h|trivial
theorem RV.atom{x:AV}{v:Value}(hp:x.atom=true)(h:RV E w x v):RC E w x [v]:=by
 cases x<;>first
  |trivial
  |(
   rcases h with⟨h1,_⟩|⟨_,h2⟩
   ·grind [AV.isAgg,AV.atom]
   grind)
theorem EZ(v:Value):RV E w (qy v) v:=by
 unfold qy
 split
 ·exact Or.inr ⟨rfl,rfl⟩
 ·rename_i k n
  split
  ·rename_i h
   simp at h
   exact Or.inr ⟨rfl,rfl,h.1,h.2⟩
  trivial
 ·rename_i s
  split
  ·rename_i h
   refine Or.inr ⟨rfl,?_,iU h⟩<;>grind
  trivial
 ·exact Or.inr ⟨rfl,rfl⟩
 ·exact Or.inr ⟨rfl,rfl⟩
 ·exact Or.inr ⟨rfl,rfl⟩
 ·exact Or.inr ⟨rfl,rfl⟩
 ·exact Or.inr ⟨rfl,rfl⟩
 trivial
theorem Ju{gl:List Js}(h:∀x∈gl,E.S x.g∧∃cs,qf w ⟨x.g,0,none⟩ cs∧Rel w E.S x.t cs x.x)(g:Nat):RV E w (sy gl g) (.pointer (some ⟨g,0,none⟩)):=by
 induction gl with
 |nil=>trivial
 |
  cons x l ih=>
  unfold sy
  split
  ·rename_i hg
   have hg:=bM hg
   obtain⟨h1,cs,h2,h3⟩:=h x (cm ..)
   subst hg
   exact Or.inr ⟨rfl,x.g,0,cs,rfl,h1,h2,h3⟩
  grind
theorem gr{gl:Ctx}{a:Act}(h:bQ gl σ E a w)(x:Operand):RV E w (bC gl σ.tm x) (a.eval x):=by
 cases x with
 |
  tmp t=>
  simp only[bC,Act.eval]
  cases hx:σ.tm[t]? with
  |none=>trivial
  |
   some y=>
   have hlt:t<a.tmps.size:=by rw[h.len];grind
   have:=h.tm t y hx a.tmps[t] (by grind)
   simp_all
 |const v=>exact EZ v
 |global g=>exact Ju h.hw.gl.1 g
 |func f=>exact Or.inr ⟨rfl, #[], #[],rfl,rfl,rfl,rfl,rfl⟩
theorem dQ(k:IntKind)(n:Int):k.min≤k.wrap n∧k.wrap n≤k.max:=by
 cases k<;>simp only[IntKind.wrap,IntKind.min,IntKind.max,IntKind.bits,IntKind.signed]<;>(grind)<;>omega
theorem IntKind.range(k:IntKind):k.min≤0∧0≤k.max:=by cases k<;>decide
theorem RV.int{k:IntKind}{n:Int}(h:k.min≤n∧n≤k.max):RV E w (.val (.int k) n) (.int k n):=Or.inr ⟨rfl,rfl,h.1,h.2⟩
theorem RV.bool{b:Bool}:RV E w (.val .bool b) (.bool b):=Or.inr ⟨rfl,rfl⟩
theorem RV.eG{k:IntKind}{n:Int}{v:Value}(h:RV E w (.val (.int k) n) v):v= .int k n∧k.min≤n∧n≤k.max:=by
 rcases h with⟨h,_⟩|⟨_,h,h2⟩
 ·trivial
 grind
theorem RV.dY{b:Bool}{v:Value}(h:RV E w (.val .bool b) v):v= .bool b:=by
 rcases h with⟨h,_⟩|⟨_,h⟩
 ·trivial
 ·simpa[RC,Rel] using h
theorem RV.ju{s:List UInt8}{v:Value}(h:RV E w (.val .str s) v):v= .string ⟨s.toArray⟩∧s.length≤aH:=by
 rcases h with⟨h,_⟩|⟨_,h,h2⟩
 ·trivial
 grind
theorem RV.str{s:List UInt8}(h:s.length≤aH):RV E w (.val .str s) (.string ⟨s.toArray⟩):=Or.inr ⟨rfl,rfl,h⟩
def iD(op:BinOp)(k:IntKind)(x y:Int):Int:=
 let a:=BitVec.ofInt k.bits x
 let b:=BitVec.ofInt k.bits y
 match op with
 | .and=>k.wrap (a &&& b).toNat
 | .or=>k.wrap (a ||| b).toNat
 | .xor=>k.wrap (a ^^^ b).toNat
 |_=>k.wrap (a &&& ~~~b).toNat
structure VC where
 p:Prop
 d:Decidable p
abbrev vc(p:Prop)[d:Decidable p]:VC:=⟨p,d⟩
def dD:List VC→Prop
 |[]=>True
 |v::l=>v.p∧dD l
def uT:Option TypeDesc→Bool
 |some .bool=>true
 |_=>false
theorem wm{x:Option TypeDesc}(h:uT x=true):x=some .bool:=by
 grind [uT]
def wo(op:BinOp)(k:IntKind)(a:Int)(k':IntKind)(b:Int):Option (AV×List VC):=
 match op with
 | .shl=>some (.val (.int k) (k.wrap (a*2^(min b.toNat k.bits))),[vc (0≤b)])
 | .shr=>some (.val (.int k) (a.fdiv (2^(min b.toNat k.bits))),[vc (0≤b)])
 |
  _=>
  if Nat.beq (IntKind.code k) (IntKind.code k') then
   match op with
   | .add=>some (.val (.int k) (k.wrap (a+b)),[])
   | .sub=>some (.val (.int k) (k.wrap (a -b)),[])
   | .mul=>some (.val (.int k) (k.wrap (a*b)),[])
   | .quo=>some (.val (.int k) (k.wrap (a.tdiv b)),[vc (b≠0)])
   | .rem=>some (.val (.int k) (a.tmod b),[vc (b≠0)])
   | .and=>some (.val (.int k) (iD .and k a b),[])
   | .or=>some (.val (.int k) (iD .or k a b),[])
   | .xor=>some (.val (.int k) (iD .xor k a b),[])
   | .andNot=>some (.val (.int k) (iD .andNot k a b),[])
   | .eql=>some (.val .bool (decide (a=b)),[])
   | .neq=>some (.val .bool (!decide (a=b)),[])
   | .lss=>some (.val .bool (decide (a<b)),[])
   | .leq=>some (.val .bool (decide (a≤b)),[])
   | .gtr=>some (.val .bool (decide (b<a)),[])
   | .geq=>some (.val .bool (decide (b≤a)),[])
   |_=>none
  else none
def yS(P:Program)(t:TypeId)(op:BinOp):AV→AV→Option (AV×List VC)
 | .val (.int k) a,.val (.int k') b=>wo op k a k' b
 |
  .val .bool a,.val .bool b=>
  match op with
  | .eql=>some (.val .bool (a==b),[vc (uT (P.underlying t)=true)])
  | .neq=>some (.val .bool (!(a==b)),[vc (uT (P.underlying t)=true)])
  |_=>none
 |
  .val .str a,.val .str b=>
  match op with
  | .add=>some (.val .str (a++b),[vc (a.length+b.length≤aH)])
  | .eql=>some (.val .bool (decide (a=b)),[])
  | .neq=>some (.val .bool (!decide (a=b)),[])
  | .lss=>some (.val .bool (Op.bytesLess a b),[])
  | .leq=>some (.val .bool (Op.bytesLess a b||decide (a=b)),[])
  | .gtr=>some (.val .bool (!(Op.bytesLess a b||decide (a=b))),[])
  | .geq=>some (.val .bool (!Op.bytesLess a b),[])
  |_=>none
 |_,_=>none
theorem gD{a b:Int}(ha:0≤a)(hb:0≤b):a % b≤a:=by
 rcases Int.lt_or_eq_of_le hb with h|h
 ·have:=Int.emod_add_mul_ediv a b
  have h1:0≤a / b:=Int.ediv_nonneg ha hb
  have h2:0≤b*(a / b):=Int.mul_nonneg hb h1
  omega
 grind
theorem E6(k:IntKind)(a b:Int)(ha:k.min≤a∧a≤k.max):k.min≤a.tmod b∧a.tmod b≤k.max:=by
 have hr:=IntKind.range k
 rcases Int.le_total 0 a with h|h
 ·have h1:=Int.tmod_nonneg b h
  have h2:a.tmod b≤a:=by
   rcases Int.le_total 0 b with hb|hb
   ·simp_all[Int.tmod_eq_emod_of_nonneg,gD]
   ·have:a.tmod b=a.tmod (-b):=by simp_all
    rw[this,Int.tmod_eq_emod_of_nonneg h];exact gD h (by omega)
  omega
 ·have h1:(-a).tmod b= -(a.tmod b):=Int.neg_tmod ..
  have h2:0≤-a:=by omega
  have h3:=Int.tmod_nonneg b h2
  have h4:(-a).tmod b≤-a:=by
   rcases Int.le_total 0 b with hb|hb
   ·rw[Int.tmod_eq_emod_of_nonneg h2];exact gD h2 hb
   ·have:(-a).tmod b=(-a).tmod (-b):=by simp_all
    rw[this,Int.tmod_eq_emod_of_nonneg h2];exact gD h2 (by omega)
  omega
theorem E7(k:IntKind)(a:Int)(n:Nat)(ha:k.min≤a∧a≤k.max):k.min≤a.fdiv (2^n)∧a.fdiv (2^n)≤k.max:=by
 have hr:=IntKind.range k
 have hp:(1:Int)≤2^n:=by
  have:=Int.pow_pos (n:=2) (m:=n) (by omega)
  omega
 rw[Int.fdiv_eq_ediv_of_nonneg _ (by omega)]
 rcases Int.le_total 0 a with h|h
 ·have h1:0≤a / 2^n:=Int.ediv_nonneg h (by omega)
  have h2:a / 2^n≤a:=Int.ediv_le_self _ h
  omega
 ·have h1:a / 2^n≤0:=by
   have:=Int.ediv_le_ediv (c:=2^n) (by omega) h
   simp_all
  have h2:a≤a / 2^n:=by
   rw[Int.le_ediv_iff_mul_le (by omega)]
   have:=Int.mul_le_mul_of_nonpos_left h hp
   omega
  omega
theorem Db{op:BinOp}{t:TypeId}{k k':IntKind}{a b:Int}{r:AV}{vc:List VC}(ha:k.min≤a∧a≤k.max)(h:wo op k a k' b=some (r,vc))(hvc:dD vc):
 ∃v,(binOp op t (.int k a) (.int k' b)).run P w= .ok v w∧RV E w r v:=by
 unfold wo at h
 split at h
 ·cases h
  exact⟨_,by simp[binOp,Op.shift,show¬b<0 from by have:=hvc.1;omega],RV.int (dQ k _)⟩
 ·cases h
  exact⟨_,by simp[binOp,Op.shift,show¬b<0 from by have:=hvc.1;omega],RV.int (E7 k _ _ ha)⟩
 ·rename_i h1 h2
  split at h
  ·rename_i hk
   have:=IntKind.kO (bM hk)
   subst this
   split at h<;>cases h
   ·simp_all[binOp,Op.intArith,RV.int,dQ]
   ·simp_all[binOp,Op.intArith,RV.int,dQ]
   ·simp_all[binOp,Op.intArith,RV.int,dQ]
   ·exact⟨_,by simp[binOp,Op.intDiv,show b≠0 from hvc.1],RV.int (dQ k _)⟩
   ·exact⟨_,by simp[binOp,Op.intDiv,show b≠0 from hvc.1],RV.int (E6 k _ _ ha)⟩
   ·simp_all[iD,binOp,Op.intBits,RV.int,dQ]
   ·simp_all[iD,binOp,Op.intBits,RV.int,dQ]
   ·simp_all[iD,binOp,Op.intBits,RV.int,dQ]
   ·simp_all[iD,binOp,Op.intBits,RV.int,dQ]
   ·exact⟨_,by simp[binOp,Op.intCmp];rfl,RV.bool⟩
   ·exact⟨_,by simp[binOp,Op.intCmp];rfl,RV.bool⟩
   ·simp_all[binOp,Op.intCmp,RV.bool]
   ·simp_all[binOp,Op.intCmp,RV.bool]
   ·simp_all[binOp,Op.intCmp,RV.bool]
   simp_all[binOp,Op.intCmp,RV.bool]
  grind
variable{vx:Value}{vy:Value}
theorem Ls{op:BinOp}{t:TypeId}{x y:AV}{r:AV}{vc:List VC}(hx:RV E w x vx)(hy:RV E w y vy)(h:yS P t op x y=some (r,vc))(hvc:dD vc):
 ∃v,(binOp op t vx vy).run P w= .ok v w∧RV E w r v:=by
 unfold yS at h
 split at h
 ·obtain⟨rfl,h1⟩:=RV.eG hx
  obtain⟨rfl,h2⟩:=RV.eG hy
  exact Db h1 h hvc
 ·have:=RV.dY hx;subst this
  have:=RV.dY hy;subst this
  split at h
  ·cases h
   have hb:=hvc.1
   exact⟨_,by simp[binOp,run_equal_bool w t _ _ (wm hb)],RV.bool⟩
  ·cases h
   have hb:=hvc.1
   exact⟨_,by simp[binOp,run_equal_bool w t _ _ (wm hb)],RV.bool⟩
  ·cases h
 ·obtain⟨rfl,h1⟩:=RV.ju hx
  obtain⟨rfl,h2⟩:=RV.ju hy
  have beq:∀(a b:List UInt8),(a==b)=decide (a=b):=fun a b=>by
   by_cases h:a=b
   ·subst h;simp
   ·simp[h]
  split at h<;>cases h
  ·rename_i a b _
   have hb:List.length a+List.length b≤aH:=hvc.1
   refine⟨.string ⟨(List.append a b).toArray⟩,?_,RV.str (by show(List.append a b).length≤aH;rw[List.append_eq,kG];exact hb)⟩
   have sz:∀l:List UInt8,(ByteArray.mk l.toArray).size=l.length:=fun l=>by show l.toArray.size=_;simp
   have hmax:IntKind.i64.max=9223372036854775807:=by decide
   have hn:¬(((ByteArray.size ⟨List.toArray a⟩+ByteArray.size ⟨List.toArray b⟩:Nat):Int)>IntKind.i64.max):=by
    rw[sz,sz,hmax];unfold aH at hb;omega
   have happ:(⟨List.toArray a⟩:ByteArray)++⟨List.toArray b⟩=⟨(List.append a b).toArray⟩:=by
    apply ByteArray.ext
    simp
   simp only[binOp,Op.stringOp,aC hn,Sem.run_pure,happ]
  all_goals(refine⟨_,?_,RV.bool⟩;simp[binOp,Op.stringOp,beq])
 ·cases h
def kP:aO→Ty
 | .var t _=>t
 | .row _ _ t xs=>.arr xs.length t
 | .cI _ _ t xs i _=>mP i xs.length t
 | .cT _ _ t xs _ f=>wg xs.length t f
 |_=>.unit
def aO.mem:aO→Bool
 | .var _ _| .row _ _ _ _| .cI _ _ _ _ _ _| .cT _ _ _ _ _ _=>true
 |_=>false
def mT:aO→Path→Option AV
 | .var _ v,p=>v.get p
 | .row _ _ t xs,.idx i::p=>fM (.arr xs.length t) xs (.idx i::p)
 | .cI _ _ _ _ _ v,.cD 1::p=>v.get p
 | .cT _ _ _ _ _ (some (_,v)),.cD 1::p=>v.get p
 |_,_=>none
theorem RB.bt{b:Nat}{k:aO}(h:RB E w b k)(hm:k.mem=true):E.bt b=kP k:=by
 cases k with
 |var t v=>exact h.1
 |row e bs t xs=>exact h.1
 |cI e bs t xs i v=>exact h.1
 |cT e bs t xs e2 f=>exact h.1
 |_=>cases hm
theorem qf.of_heap{g:Nat}{c:Array Value}{e:TypeId}{fr:Nat×Nat}(h:w.heap[g]? =some (.cells c e fr))(o n:Nat):qf w ⟨g,o,none⟩ ((c.toList.drop o).take n):=by
 intro j v hj
 grind [Addr.add,World.cell?]
theorem qf.sub{g o:Nat}(h:qf w ⟨g,o,none⟩ cs)(k n:Nat):qf w ⟨g,o+k,none⟩ ((cs.drop k).take n):=by
 intro j v hj
 have e1:∀o,((⟨g,o,none⟩:Addr).add j)=⟨g,o+j,none⟩:=by grind [Addr.add]
 have e2:((⟨g,o,none⟩:Addr).add (k+j))=⟨g,o+(k+j),none⟩:=by unfold Addr.add;grind
 rw[e1]
 rw[List.getElem?_take] at hj
 split at hj
 ·rw[List.getElem?_drop] at hj
  have:=h (k+j) v hj
  grind
 grind
theorem qz{b:Nat}{k:aO}{p:Path}{u:AV}(h:RB E w b k)(hv:(E.bt b).valid p)(hr:mT k p=some u):
 ∃g s cs,E.g b=some g∧(E.bt b).sub p=some s∧u.cp s=true∧qf w ⟨g,(E.bt b).off p,none⟩ cs∧RC E w u cs:=by
 cases k with
 |
  var t v=>
  obtain⟨h1,h2,g,c,e,h3,h4,h5⟩:=h
  rw[h1] at hv ⊢
  obtain⟨s,e1,e2,e3,e4⟩:=AV.gI h5 h2 hv hr
  exact⟨g,s,_,h3,e1,e2,qf.of_heap h4 _ _,e4⟩
 |
  row e bs t xs=>
  obtain⟨h1,h2,h3,h4,a,cap,h5,h6,h7⟩:=h
  rw[h1] at hv ⊢
  cases p with
  |nil=>trivial
  |
   cons s p=>
   cases s with
   |cD k=>trivial
   |
    idx i=>
    have hi:i<xs.length:=hv.1
    rcases h7 with⟨_,_,h9⟩|⟨g,c,h7,h8,h9,h10,h11,h12⟩
    ·grind
    ·have hR:Rel w E.S (.arr xs.length t) (c.toList.take (xs.length*t.size)) xs:=⟨rfl,h12⟩
     obtain⟨s,e1,e2,e3,e4⟩:=sr hR hv hr
     refine⟨g,s,_,h7,e1,e2,?_,e4⟩
     grind [mM,qf.of_heap]
 |
  cI e bs t xs i v=>
  obtain⟨h1,h2,h3,h4,h5,h6,g,cap,c,q1,q2,q3,q4,q5,q6,q7,q8,q9⟩:=h
  rw[h1] at hv ⊢
  unfold mT at hr
  split at hr
  ·grind
  ·grind
  ·rename_i p hk
   cases hk
   have hv':t.valid p:=hv
   obtain⟨s,e1,e2,e3,e4⟩:=AV.gI q8 h6 hv' hr
   refine⟨g,s,_,q3,e1,e2,?_,e4⟩
   rw[kI,List.length_drop] at e3
   rw[mM,qw,qx (by omega),mc]
   have:=qf.of_heap q4 (i*t.size+t.off p) s.size
   trivial
  ·grind
  grind
 |
  cT e bs t xs e2 f=>
  obtain⟨h1,h2,h3,h4,h5,g,cap,c,og,q1,q2,q3,q4,q5,q6,q7,q8⟩:=h
  unfold mT at hr
  split at hr
  ·grind
  ·grind
  ·grind
  ·rename_i _ _ _ _ _ i v p hk
   cases hk
   obtain⟨hi,hconf⟩:=h5 i v rfl
   obtain⟨u',r1,r2,_⟩:=q8 i (xs.getD i t.aD) (by grind)
   obtain⟨_,r2⟩:=r2 v rfl
   rw[h1] at hv ⊢
   have hv':t.valid p:=hv
   obtain⟨s,e1,e2,e3,e4⟩:=AV.gI r2 hconf hv' hr
   have hmid:(c.toList.drop (i*t.size)).take t.size= [u']:=by
    rw[h2,Nat.mul_one]
    grind [ma]
   rw[←hmid] at e3 e4
   refine⟨g,s,_,q3,e1,e2,?_,e4⟩
   rw[kI,List.length_drop] at e3
   rw[mM,qw,qx (by omega),mc]
   have:=qf.of_heap q4 (i*t.size+t.off p) s.size
   trivial
  grind
 |_=>trivial
theorem iE{G:bN}(T:bA P G){t:TypeId}(ht:G.at t=some td){a:Addr}{u:AV}(hr:qf w a cs)(hc:RC E w u cs)(hu:u.cp td.ty=true):
 ∃v,(Instr.loadAt t (.pointer (some a))).run P w= .ok v w∧RV E w u v:=by
 have hl:=RC.len hc
 have hs:=AV.dU hu
 have ha:=AV.pw hu
 have hcells:=run_loadCells_list (P:=P) w a cs hr
 by_cases amH:td.ty.isAgg=true
 ·refine⟨.agg cs.toArray,?_,RV.eS (Or.inl ⟨by grind,cs.toArray,rfl,by grind⟩)⟩
  have:cs.length=td.ty.size:=by omega
  simp[Instr.loadAt,Instr.sureAddr,loadVar,T.isAgg ht,T.size ht,amH,←this,hcells]
 ·have hagg':td.ty.isAgg=false:=by grind
  have h1:td.ty.size=1:=by cases h:td.ty<;>rw[h] at hagg'<;>simp[Ty.isAgg] at hagg'<;>rfl
  obtain⟨v,rfl⟩:∃v,cs= [v]:=by
   match cs,hl with
   |[v],_=>grind
   |[],hl=>grind
   |_::_::_,hl=>grind
  have h0:w.cell? a=some v:=by
   have:=hr 0 v rfl
   trivial
  exact⟨v,by simp[Instr.loadAt,Instr.sureAddr,loadVar,T.isAgg ht,hagg',h0],RV.eS (Or.inr ⟨by grind,hc⟩)⟩
def wq(G:bN)(hb:Nat→Option aO)(t:TypeId):AV→Option AV
 |
  .ptr b p=>match G.at t,hb b with
  |
   some td,some k=>match mT k p with
   |some u=>if u.cp td.ty then some u else none
   |none=>none
  |_,_=>none
 |
  .cd u x=>match G.at t with
  |some td=>if Ty.same u td.ty then some (.val u x) else none
  |none=>none
 |
  .iy v=>match G.at t with
  |some td=>if v.cp td.ty then some v else none
  |none=>none
 |_=>none
def HB(hb:Nat→Option aO)(hp:List (Option aO)):Prop:=∀b k,hb b=some k→hp[b]? =some (some k)
variable{hb:Nat→Option aO}
theorem sA{G:bN}(T:bA P G){gl:Ctx}(hw:HW gl E w hp)(hB:HB hb hp){t:TypeId}{x u:AV}(hx:RV E w x vx)(h:wq G hb t x=some u):
 ∃v,(Instr.loadAt t vx).run P w= .ok v w∧RV E w u v:=by
 unfold wq at h
 split at h
 ·rename_i b p
  split at h
  ·rename_i td k ht hk
   split at h
   ·rename_i y hy
    split at h
    ·rename_i hc
     cases h
     have hx:=RV.atom rfl hx
     obtain⟨g,hg,e,hv⟩:=hx
     simp at e;subst e
     obtain⟨g',s,cs,h1,h2,h3,h4,h5⟩:=qz (hw.cQ b k (hB b k hk)) hv hy
     grind [iE]
    grind
   grind
  grind
 ·rename_i ty x
  split at h
  ·rename_i td ht
   split at h
   ·rename_i hc
    cases h
    have hx:=RV.atom rfl hx
    obtain⟨b,o,cs,e,h1,h2,h3⟩:=hx
    simp at e;subst e
    exact iE T ht h2 (u:=.val ty x) h3 hc
   grind
  grind
 ·rename_i v
  split at h
  ·rename_i td ht
   split at h
   ·rename_i hc
    cases h
    have hx:=RV.atom rfl hx
    obtain⟨b,o,cs,e,h1,h2,_,h3⟩:=hx
    simp at e;subst e
    exact iE T ht h2 h3 hc
   grind
  grind
 grind
theorem Ty.wu:∀{t s:Ty}{p q:Path},t.sub p=some s→t.sub (p++q)=s.sub q∧t.off (p++q)=t.off p+s.off q∧(t.valid p→s.valid q→t.valid (p++q)):=by
 intro t
 have base:∀{t s:Ty}{q:Path},t.sub []=some s→t.sub ([]++q)=s.sub q∧t.off ([]++q)=t.off []+s.off q∧(t.valid []→s.valid q→t.valid ([]++q)):=by
  simp_all[Ty.sub,Ty.off]
 induction t with
 |
  pair a b ih1 ih2=>
  intro s p q h
  cases p with
  |nil=>grind
  |
   cons x p=>
   cases x with
   |
    cD k=>
    cases k with
    |
     zero=>
     obtain⟨h1,h2,h3⟩:=ih1 (q:=q) h
     trivial
    |
     succ k=>
     obtain⟨h1,h2,h3⟩:=ih2 (q:=q) (p:=.cD k::p) h
     refine⟨h1,?_,h3⟩
     grind [Ty.off]
   |idx i=>trivial
 |
  arr n t ih=>
  intro s p q h
  cases p with
  |nil=>grind
  |
   cons x p=>
   cases x with
   |cD k=>trivial
   |
    idx i=>
    obtain⟨h1,h2,h3⟩:=ih (q:=q) h
    refine⟨h1,?_,fun⟨hi,hv⟩ hq=>⟨hi,h3 hv hq⟩⟩
    grind [Ty.off]
 |
  fns n=>
  intro s p q h
  cases p with
  |nil=>grind
  |
   cons x p=>
   cases x with
   |cD k=>trivial
   |
    idx i=>
    cases p with
    |cons _ _=>trivial
    |
     nil=>
     cases h
     cases q with
     |nil=>exact⟨rfl,rfl,fun h _=>h⟩
     |cons y q=>exact⟨by trivial,by trivial,fun _ h=>by cases h⟩
 |
  _=>
  grind [Ty.sub]
theorem lr{G:bN}:∀{fs:List Field}{o:Nat}{t:Ty}{i:Nat}{s:Ty},cc G fs o t=true→t.sub [.cD i]=some s→
 ∃f td,fs[i]? =some f∧G.at f.type=some td∧td.ty=s∧f.offset=o+t.off [.cD i]∧0<s.size∧t.valid [.cD i]
 |
  [],o,t,i,s,h,hs=>by
  grind [cc,Ty.sub]
 |
  f::fs,o,t,i,s,h,hs=>by
  cases t with
  |
   pair a b=>
   simp only[cc,bj] at h
   obtain⟨⟨⟨h1,h2⟩,h3⟩,h4⟩:=h
   cases i with
   |
    zero=>
    split at h1
    ·rename_i td htd
     have:a=s:=by
      grind [Ty.sub]
     subst this
     have ho:a.off []=0:=by cases a<;>rfl
     refine⟨f,td,rfl,htd,Ty.aB h1,?_,by simp_all,?_⟩
     ·grind [Ty.off,bM]
     ·simp only[Ty.valid]
    grind
   |
    succ i=>
    obtain⟨f',td,e1,e2,e3,e4,e5,e6⟩:=lr h4 (i:=i) hs
    refine⟨f',td,by grind,e2,e3,?_,e5,e6⟩
    simp only[Ty.off];omega
  |_=>trivial
theorem bA.struct{G:bN}(T:bA P G){t:TypeId}(h:G.at t=some td){i:Nat}{s:Ty}(hs:td.ty.sub [.cD i]=some s):
 ∃fs f tf,P.underlying t=some (.struct fs)∧fs[i]? =some f∧G.at f.type=some tf∧tf.ty=s∧f.offset=td.ty.off [.cD i]∧0<s.size∧td.ty.valid [.cD i]:=by
 obtain⟨ii,d,_,h1,_,h2,_⟩:=T.info h
 have amH:=dm h2
 cases hd:d with
 |
  struct fs=>
  subst hd
  obtain⟨f,tf,e1,e2,e3,e4,e5,e6⟩:=lr (fs:=fs.toList) (o:=0) h2 hs
  grind
 |
  array n e=>
  subst hd
  simp only[ck] at h2
  rw[fK] at h2
  rcases h2 with h2|h2
  ·grind [Ty.sub]
  simp only[bj] at h2
  grind [Ty.sub]
 |
  _=>
  subst hd
  simp only[dr] at amH
  cases ht:td.ty<;>rw[ht] at amH hs<;>simp[Ty.isAgg] at amH<;>simp[Ty.sub] at hs
theorem mU{G:bN}(T:bA P G){t:TypeId}(h:G.at t=some td){i:Nat}{s:Ty}(hs:td.ty.sub [.cD i]=some s)(w:World)(g o:Nat):
 (Instr.fieldAt t (.pointer (some ⟨g,o,none⟩)) i).run P w= .ok (.pointer (some ⟨g,o+td.ty.off [.cD i],none⟩)) w:=by
 obtain⟨fs,f,tf,h1,h2,h3,h4,h5,h6,_⟩:=T.struct h hs
 have hsz:=T.size h3 w
 rw[h4] at hsz
 have hne:¬s.size=0:=by omega
 simp_all[Addr.add,Instr.fieldAt,underlying,Instr.sureAddr,fieldPlace]
def Pc:AV→AV
 | .val s y=>.cd s y
 |u=>.iy u
theorem E8{g o:Nat}{y:AV}(hS:E.S g)(hr:qf w ⟨g,o,none⟩ cs)(hi:y.ids= [])(hy:RC E w y cs):RC E w (Pc y) [.pointer (some ⟨g,o,none⟩)]:=by
 cases y with
 |val s x=>exact⟨g,o,cs,rfl,hS,hr,hy⟩
 |_=>exact⟨g,o,cs,rfl,hS,hr,hi,hy⟩
theorem Dc{y:AV}:(Pc y).isAgg=false:=by cases y<;>rfl
theorem HN{y:AV}(hi:y.ids= []):(Pc y).ids= []:=by cases y<;>rfl
def fO(G:bN)(hb:Nat→Option aO)(t:TypeId)(i:Nat):AV→Option AV
 |
  .ptr b p=>match G.at t,hb b with
  |
   some td,some k=>match(kP k).sub p,td.ty.sub [.cD i] with
   |some u,some _=>if Ty.same u td.ty then some (.ptr b (p++[.cD i])) else none
   |_,_=>none
  |_,_=>none
 |
  .cd u x=>match G.at t with
  |
   some td=>match td.ty.sub [.cD i],fM u x [.cD i] with
   |some _,some (.val v y)=>if Ty.same u td.ty then some (.cd v y) else none
   |_,_=>none
  |none=>none
 |
  .iy v=>match G.at t with
  |
   some td=>match td.ty.sub [.cD i],v.get [.cD i] with
   |some _,some u=>if v.cp td.ty&&u.ids.isEmpty then some (Pc u) else none
   |_,_=>none
  |none=>none
 |_=>none
theorem yT{k:aO}{p:Path}{q:PS}{u:Ty}{s:Ty}(h:(kP k).sub p=some u)(hs:u.sub [q]=some s):k.mem=true:=by
 cases k with
 |var t v=>rfl
 |row e bs t xs=>rfl
 |cI e bs t xs i v=>rfl
 |cT e bs t xs e2 f=>rfl
 |_=>grind [kP,Ty.sub]
theorem mV{G:bN}(T:bA P G){gl:Ctx}(hw:HW gl E w hp)(hB:HB hb hp){t:TypeId}{i:Nat}{x u:AV}(hx:RV E w x vx)(h:fO G hb t i x=some u):
 ∃v,(Instr.fieldAt t vx i).run P w= .ok v w∧RV E w u v:=by
 unfold fO at h
 split at h
 ·rename_i b p
  split at h
  ·rename_i td k ht hk
   split at h
   ·rename_i u' s hu hs
    split at h
    ·rename_i hsame
     cases h
     have:=Ty.aB hsame;subst this
     obtain⟨g,hg,e,hv⟩:=RV.atom rfl hx
     simp at e;subst e
     have hbt:=RB.bt (hw.cQ b k (hB b k hk)) (yT hu hs)
     rw[←hbt] at hu
     obtain⟨_,h2,h3⟩:=Ty.wu (q:=[.cD i]) hu
     obtain⟨_,_,_,_,_,_,_,_,_,hval⟩:=T.struct ht hs
     exact⟨_,mU T ht hs w g _,RV.eS (Or.inr ⟨rfl,g,hg,by rw[h2],h3 hv hval⟩)⟩
    grind
   grind
  grind
 ·rename_i ty y
  split at h
  ·rename_i td ht
   split at h
   ·rename_i s v' y' hs hg
    split at h
    ·rename_i hsame
     cases h
     have:=Ty.aB hsame;subst this
     obtain⟨b,o,cs,e,h1,h2,h3⟩:=RV.atom rfl hx
     simp at e;subst e
     obtain⟨_,_,_,_,_,_,_,_,_,hval⟩:=T.struct ht hs
     obtain⟨s',e1,e2,e3,e4⟩:=sr (E:=E) h3 hval hg
     exact⟨_,mU T ht hs w b o,RV.eS (Or.inr ⟨rfl,b,_,_,rfl,h1,h2.sub _ _,e4⟩)⟩
    grind
   grind
  grind
 ·rename_i v
  split at h
  ·rename_i td ht
   split at h
   ·rename_i s y' hs hg
    split at h
    ·rename_i hc
     cases h
     simp only[bj,List.isEmpty_iff] at hc
     obtain⟨b,o,cs,e,h1,h2,_,h3⟩:=RV.atom rfl hx
     simp at e;subst e
     obtain⟨_,_,_,_,_,_,_,_,_,hval⟩:=T.struct ht hs
     obtain⟨s',e1,e2,e3,e4⟩:=AV.gI h3 hc.1 hval hg
     exact⟨_,mU T ht hs w b o,RV.eS (Or.inr ⟨Dc,E8 h1 (h2.sub _ _) hc.2 e4⟩)⟩
    grind
   grind
  grind
 grind
variable{bs:Nat}
theorem bA.eW{G:bN}(T:bA P G){t:TypeId}(h:G.at t=some td){u:Ty}(hs:td.ty= .slice bs u):
 ∃te ie,P.underlying t=some (.slice td.e)∧G.at td.e=some te∧te.ty=u∧P.info? td.e=some ie∧ie.bytes=bs∧0<u.size∧0<bs:=by
 obtain⟨ii,d,_,h1,_,h2,_⟩:=T.info h
 have amH:=dm h2
 cases hd:d with
 |
  slice e=>
  subst hd
  simp only[ck] at h2
  rw[fK] at h2
  rcases h2 with h2|h2
  ·grind [Ty.aB]
  simp only[bj] at h2
  obtain⟨h3,h2⟩:=h2
  have h3:=bM h3
  subst h3
  split at h2
  ·rename_i bs' u' te ie e1 e2 e3
   rw[hs] at e1;cases e1
   simp only[bj] at h2
   obtain⟨⟨⟨h4,h5⟩,h6⟩,h7⟩:=h2
   exact⟨te,ie,h1,e2,Ty.aB h4,e3,bM h5,by simp_all,by simp_all⟩
  grind
 |
  struct fs=>
  subst hd
  simp only[dr] at amH
  rw[hs] at amH;trivial
 |
  array n e=>
  subst hd
  simp only[dr] at amH
  rw[hs] at amH;trivial
 |
  map k e=>
  subst hd
  have:=(jt h2).1;rw[hs] at this;trivial
 |
  _=>
  subst hd
  simp only[ck] at h2
  first
   |(have:=Ty.aB h2;rw[hs] at this;cases this)
   |cases h2
theorem bA.wv{G:bN}(T:bA P G){t:TypeId}(h:G.at t=some td){n:Nat}{u:Ty}(hs:td.ty= .arr n u):
 ∃te,P.underlying t=some (.array n td.e)∧G.at td.e=some te∧te.ty=u:=by
 obtain⟨ii,d,_,h1,_,h2,_⟩:=T.info h
 have amH:=dm h2
 cases hd:d with
 |
  array m e=>
  subst hd
  simp only[ck] at h2
  rw[fK] at h2
  rcases h2 with h2|h2
  ·grind
  simp only[bj] at h2
  obtain⟨h3,h2⟩:=h2
  have h3:=bM h3
  subst h3
  split at h2
  ·rename_i m' u' te ie e1 e2 e3
   rw[hs] at e1;cases e1
   simp only[bj] at h2
   grind [bM,Ty.aB]
  grind
 |
  struct fs=>
  grind [ck,cc]
 |
  _=>
  subst hd
  simp only[dr] at amH
  rw[hs] at amH;cases amH
theorem ib{G:bN}(T:bA P G){t:TypeId}(h:G.at t=some td){u:Ty}(hs:td.ty= .slice bs u)(w:World)(g o len cap:Nat)(k:IntKind)(i:Int)(hi:0≤i∧i<len):
 (Instr.indexAt t (.slice (some ⟨g,o,none⟩) len cap) (.int k i)).run P w= .ok (.pointer (some ⟨g,o+i.toNat*u.size,none⟩)) w:=by
 obtain⟨te,ie,h1,h2,h3,_⟩:=T.eW h hs
 have hsz:=T.size h2 w
 rw[h3] at hsz
 have ha:((⟨g,o,none⟩:Addr).add (i.toNat*u.size))=⟨g,o+i.toNat*u.size,none⟩:=by
  unfold Addr.add;grind
 simp[Instr.indexAt,underlying,h1,asIntOf,hi,hsz,ha]
theorem mW{G:bN}(T:bA P G){t:TypeId}(h:G.at t=some td){n:Nat}{u:Ty}(hs:td.ty= .arr n u)(w:World)(g o:Nat)(k:IntKind)(i:Int)(hi:0≤i∧i<n):
 (Instr.indexAt t (.pointer (some ⟨g,o,none⟩)) (.int k i)).run P w= .ok (.pointer (some ⟨g,o+i.toNat*u.size,none⟩)) w:=by
 obtain⟨te,h1,h2,h3⟩:=T.wv h hs
 have hsz:=T.size h2 w
 rw[h3] at hsz
 have ha:((⟨g,o,none⟩:Addr).add (i.toNat*u.size))=⟨g,o+i.toNat*u.size,none⟩:=by
  unfold Addr.add;grind
 simp[Instr.indexAt,underlying,h1,asIntOf,hi,hsz,ha,Instr.sureAddr]
theorem bA.S9{G:bN}(T:bA P G){t:TypeId}(h:G.at t=some td){n:Nat}(hs:td.ty= .fns n):
 ∃te,P.underlying t=some (.array n td.e)∧G.at td.e=some te∧te.ty= .aT .func:=by
 obtain⟨ii,d,_,h1,_,h2,_⟩:=T.info h
 have amH:=dm h2
 cases hd:d with
 |
  array m e=>
  subst hd
  simp only[ck] at h2
  rw[fK] at h2
  rcases h2 with h2|h2
  ·split at h2
   ·rename_i m' te e1 e2
    rw[hs] at e1;cases e1
    simp only[bj] at h2
    grind [bM,Ty.aB]
   grind
  grind
 |
  struct fs=>
  grind [ck,cc]
 |
  _=>
  subst hd
  simp only[dr] at amH
  rw[hs] at amH;cases amH
def lu(G:bN)(hb:Nat→Option aO)(t:TypeId)(x:AV)(i:Int):Option (AV×List VC):=
 match G.at t with
 |
  some td=>
  match td.ty,x with
  | .slice bs u,.val (.slice bs' u') xs=>if Nat.beq bs bs'&&Ty.same u u' then some (.cd u' (xs.getD i.toNat u'.aD),[vc (0≤i),vc (i<xs.length)]) else none
  |
   .slice _ u,.own b=>match hb b with
   |some (.row _ _ u' xs)=>if Ty.same u u' then some (.ptr b [.idx i.toNat],[vc (0≤i),vc (i<xs.length)]) else none
   |some (.cI _ _ u' _xs j _)=>if Ty.same u u' then some (.ptr b [.cD 1],[vc (0≤i),vc (i.toNat=j)]) else none
   |some (.cT _ _ u' _ _ (some (j,_)))=>if Ty.same u u' then some (.ptr b [.cD 1],[vc (0≤i),vc (i.toNat=j)]) else none
   |_=>none
  |
   .arr n u,.ptr b p=>match hb b with
   |
    some k=>match(kP k).sub p with
    |some (.arr n' u')=>if Ty.same u u'&&Nat.beq n n' then some (.ptr b (p++[.idx i.toNat]),[vc (0≤i),vc (i<n)]) else none
    |_=>none
   |_=>none
  | .arr n u,.cd (.arr n' u') xs=>if Ty.same u u'&&Nat.beq n n' then some (.cd u' (List.getD xs i.toNat u'.aD),[vc (0≤i),vc (i<n)]) else none
  |_,_=>none
 |none=>none
def mX(G:bN)(hb:Nat→Option aO)(t:TypeId)(x:AV):AV→Option (AV×List VC)
 | .val (.int _) i=>lu G hb t x i
 |_=>none
theorem Ty.qA(t:Ty):t.off []=0:=by cases t<;>rfl
theorem Ty.jA(t:Ty):t.valid []:=by cases t<;>trivial
theorem Ty.Pd(t:Ty):t.sub []=some t:=by cases t<;>rfl
theorem uv{G:bN}(T:bA P G){gl:Ctx}(hw:HW gl E w hp)(hB:HB hb hp){t:TypeId}{x u:AV}{k:IntKind}{i:Int}{vc:List VC}(hx:RV E w x vx)(h:lu G hb t x i=some (u,vc))(hvc0:dD vc):
 ∃v,(Instr.indexAt t vx (.int k i)).run P w= .ok v w∧RV E w u v:=by
 unfold lu at h
 split at h
 ·rename_i td ht
  split at h
  ·rename_i bs u bs' u' xs hty
   split at h
   ·rename_i hc
    cases h
    have hvc:=And.intro hvc0.1 hvc0.2.1
    simp only[bj] at hc
    have:=bM hc.1;subst this
    have:=Ty.aB hc.2;subst this
    obtain⟨a,cap,e,h1,h2,h3,h4⟩:=RV.atom rfl hx
    simp at e;subst e
    rcases h4 with h4|⟨b,o,cs,e1,e2,e3,e4⟩
    ·subst h4;simp at hvc;exact absurd hvc.2 (by omega)
    ·subst e1
     have hlt:i.toNat<xs.length:=by omega
     have amX:=bk.get (fun _ _=>Rel.len) u.aD i.toNat e4 hlt
     exact⟨_,ib T ht hty w b o _ cap k i hvc,RV.eS (Or.inr ⟨rfl,b,_,_,rfl,e2,e3.sub _ _,amX⟩)⟩
   ·cases h
  ·rename_i bs u b hty
   split at h
   ·rename_i e bs2 u' xs hk
    split at h
    ·rename_i hc
     cases h
     have hvc:=And.intro hvc0.1 hvc0.2.1
     have:=Ty.aB hc;subst this
     have hx:=RV.atom rfl hx
     simp only[RC,List.cons.injEq,and_true] at hx
     have hx:=hx.1
     subst hx
     obtain⟨h1,h2,h3,h4,a,cap,h5,h6,h7⟩:=hw.cQ b _ (hB b _ hk)
     rw[h5]
     rcases h7 with⟨_,_,h9⟩|⟨g,c,h7,h8,h9,h10,h11,h12⟩
     ·subst h9;simp at hvc;exact absurd hvc.2 (by omega)
     ·subst h8
      refine⟨_,ib T ht hty w g 0 _ cap k i hvc,RV.eS (Or.inr ⟨rfl,g,h7,?_,?_⟩)⟩
      ·rw[h1];simp[Ty.off,Ty.qA]
      ·rw[h1];exact⟨by omega,Ty.jA _⟩
    ·cases h
   ·rename_i e bs2 u' xs j v hk
    split at h
    ·rename_i hc
     cases h
     have hvc:=And.intro hvc0.1 hvc0.2.1
     have:=Ty.aB hc;subst this
     have hx:=RV.atom rfl hx
     simp only[RC,List.cons.injEq,and_true] at hx
     have hx:=hx.1
     subst hx
     obtain⟨h1,h2,h3,h4,h5,h6,g,cap,c,q1,q2,q3,q4,q5,q6,q7,q8,q9⟩:=hw.cQ b _ (hB b _ hk)
     rw[q1]
     have hij:i.toNat=j:=hvc.2
     have h0:0≤i:=hvc.1
     refine⟨_,ib T ht hty w g 0 _ cap k i ⟨h0,by omega⟩,RV.eS (Or.inr ⟨rfl,g,q3,?_,?_⟩)⟩
     ·rw[h1,hij];simp[mP,Ty.off,Ty.qA,Ty.size]
     ·rw[h1];exact Ty.jA u
    ·cases h
   ·rename_i e bs2 u' xs e2 j v hk
    split at h
    ·rename_i hc
     cases h
     have hvc:=And.intro hvc0.1 hvc0.2.1
     have:=Ty.aB hc;subst this
     have hx:=RV.atom rfl hx
     simp only[RC,List.cons.injEq,and_true] at hx
     have hx:=hx.1
     subst hx
     obtain⟨h1,h2,h3,h4,h5,g,cap,c,og,q1,q2,q3,q4,q5,q6,q7,q8⟩:=hw.cQ b _ (hB b _ hk)
     rw[q1]
     have hij:i.toNat=j:=hvc.2
     have h0:0≤i:=hvc.1
     have hj:=(h5 j v rfl).1
     refine⟨_,ib T ht hty w g 0 _ cap k i ⟨h0,by omega⟩,RV.eS (Or.inr ⟨rfl,g,q3,?_,?_⟩)⟩
     ·rw[h1,hij];simp[wg,mP,Ty.off,Ty.qA,Ty.size]
     ·rw[h1];exact Ty.jA u
    ·cases h
   ·cases h
  ·rename_i n u b p hty
   split at h
   ·rename_i kk hk
    split at h
    ·rename_i n' u' am0
     split at h
     ·rename_i hc
      cases h
      have hvc:=And.intro hvc0.1 hvc0.2.1
      simp only[bj] at hc
      have:=Ty.aB hc.1;subst this
      have:=bM hc.2;subst this
      obtain⟨g,hg,e,hv⟩:=RV.atom rfl hx
      simp at e;subst e
      have hbt:=RB.bt (hw.cQ b kk (hB b kk hk)) (yT (q:=.idx 0) (s:=u) am0 (by simp[Ty.sub,Ty.Pd]))
      rw[←hbt] at am0
      obtain⟨q1,q2,q3⟩:=Ty.wu (q:=[.idx i.toNat]) am0
      refine⟨_,mW T ht hty w g _ k i hvc,RV.eS (Or.inr ⟨rfl,g,hg,?_,?_⟩)⟩
      ·rw[q2];simp only[Ty.off,Ty.qA];simp
      ·exact q3 hv ⟨by omega,Ty.jA _⟩
     ·cases h
    ·cases h
   ·cases h
  ·rename_i n u n' u' xs hty
   split at h
   ·rename_i hc
    cases h
    have hvc:=And.intro hvc0.1 hvc0.2.1
    simp only[bj] at hc
    have:=Ty.aB hc.1;subst this
    have:=bM hc.2;subst this
    obtain⟨b,o,cs,e,h1,h2,h3⟩:=RV.atom rfl hx
    simp at e;subst e
    obtain⟨hn,h3⟩:=h3
    have hlt:i.toNat<List.length xs:=by omega
    have amX:=bk.get (fun _ _=>Rel.len) u.aD i.toNat h3 hlt
    exact⟨_,mW T ht hty w b o k i hvc,RV.eS (Or.inr ⟨rfl,b,_,_,rfl,h1,h2.sub _ _,amX⟩)⟩
   ·cases h
  ·cases h
 grind
theorem wz{G:bN}(T:bA P G){gl:Ctx}(hw:HW gl E w hp)(hB:HB hb hp){t:TypeId}{x y u:AV}{vc:List VC}(hx:RV E w x vx)(hy:RV E w y vy)(h:mX G hb t x y=some (u,vc))(hvc:dD vc):
 ∃v,(Instr.indexAt t vx vy).run P w= .ok v w∧RV E w u v:=by
 unfold mX at h
 split at h
 ·obtain⟨rfl,_⟩:=RV.eG hy
  exact uv T hw hB hx h hvc
 grind
theorem Pe(l:List UInt8):(ByteArray.mk l.toArray).size=l.length:=by trivial
def me(n:Nat):AV:=.val (.int .i64) (n:Int)
def Lt(G:bN)(hb:Nat→Option aO)(t:TypeId)(x:AV):Option AV:=
 match G.at t with
 |
  some td=>
  match td.ty,x with
  | .slice _ _,.val (.slice _ _) xs=>some (me xs.length)
  | .slice _ _,.bn=>some (me 0)
  |
   .slice _ _,.own b=>match hb b with
   |some (.row _ _ _ xs)=>some (me xs.length)
   |some (.cI _ _ _ xs _ _)=>some (me xs.length)
   |some (.cT _ _ _ xs _ _)=>some (me xs.length)
   |_=>none
  | .str,.val .str s=>some (me s.length)
  | .aT .map,.dX=>some (me 0)
  |
   .aT .map,.mp b=>match hb b with
   |some (.map _ _ es)=>some (me es.length)
   |_=>none
  | .map _ _,.dX=>some (me 0)
  |
   .map _ _,.mp b=>match hb b with
   |some (.map _ _ es)=>some (me es.length)
   |_=>none
  | .map _ _,.val (.map _ _) y=>some (me (List.length (aX y)))
  |_,_=>none
 |none=>none
theorem RV.len{n:Nat}(h:n≤aH):RV E w (me n) (goInt n):=by
 refine RV.int (k:=.i64) ?_
 unfold aH at h
 have h1:IntKind.i64.min= -9223372036854775808:=by decide
 have h2:IntKind.i64.max=9223372036854775807:=by decide
 omega
theorem RM.len{k v:Ty}:∀{l:List MapEntry}{xs:List (k.den×v.den)},RM E w k v l xs→l.length=xs.length
 |[],[],_=>rfl
 |[],_::_,h=>h.elim
 |_::_,[],h=>h.elim
 |_::l,_::xs,h=>by simp[RM.len h.2.2]
theorem bA.strOf{G:bN}(T:bA P G){t:TypeId}(h:G.at t=some td)(hs:td.ty= .str):P.underlying t=some .string:=by
 obtain⟨ii,d,_,h1,_,h2,_⟩:=T.info h
 have amH:=dm h2
 rw[h1]
 cases hd:d with
 |string=>rfl
 |struct fs=>subst hd;simp only[dr] at amH;rw[hs] at amH;trivial
 |array n e=>subst hd;simp only[dr] at amH;rw[hs] at amH;trivial
 |
  slice e=>
  subst hd
  simp only[ck] at h2
  rw[fK] at h2
  rcases h2 with h2|h2
  ·grind [Ty.aB]
  grind
 |map k e=>subst hd;have:=(jt h2).1;rw[hs] at this;trivial
 |
  _=>
  subst hd
  simp only[ck] at h2
  first
   |(have:=Ty.aB h2;rw[hs] at this;cases this)
   |cases h2
theorem bA.mapOf{G:bN}(T:bA P G){t:TypeId}(h:G.at t=some td)(hs:td.ty.mS=true):P.underlying t=some (.map td.e td.e2):=by
 obtain⟨ii,d,_,h1,_,h2,_⟩:=T.info h
 have amH:=dm h2
 rw[h1]
 cases hd:d with
 |
  map k e=>
  grind [jt]
 |struct fs=>subst hd;simp only[dr] at amH;revert hs amH;cases td.ty<;>simp[Ty.mS,Ty.isAgg]
 |array n e=>subst hd;simp only[dr] at amH;revert hs amH;cases td.ty<;>simp[Ty.mS,Ty.isAgg]
 |
  slice e=>
  subst hd
  simp only[ck] at h2
  rw[fK] at h2
  rcases h2 with h2|h2
  ·grind [Ty.aB,Ty.mS]
  simp only[bj] at h2
  grind [Ty.mS]
 |
  _=>
  subst hd
  simp only[ck] at h2
  first
   |(have:=Ty.aB h2;rw[this] at hs;simp[Ty.mS] at hs)
   |cases h2
theorem Lu{G:bN}(T:bA P G){gl:Ctx}(hw:HW gl E w hp)(hB:HB hb hp){t ty:TypeId}{x u:AV}(hx:RV E w x vx)(h:Lt G hb t x=some u):
 ∃v,(Builtin.len_ #[t] ty #[vx]).run P w= .ok v w∧RV E w u v:=by
 unfold Lt at h
 split at h
 ·rename_i td ht
  split at h
  ·rename_i bs u' bs' u2 xs hty
   cases h
   obtain⟨te,ie,h1,_⟩:=T.eW ht hty
   obtain⟨a,cap,e,_,_,h3,_⟩:=RV.atom rfl hx
   simp at e;subst e
   exact⟨_,by simp[Builtin.len_,underlying,h1],RV.len h3⟩
  ·rename_i bs u' hty
   cases h
   obtain⟨te,ie,h1,_⟩:=T.eW ht hty
   have hx:=RV.atom rfl hx
   simp[RC] at hx;subst hx
   exact⟨_,by simp[Builtin.len_,underlying,h1],RV.len (by unfold aH;omega)⟩
  ·rename_i bs u' b hty
   split at h
   ·rename_i e2 bs2 t2 xs hk
    cases h
    obtain⟨te,ie,h1,_⟩:=T.eW ht hty
    have hx:=RV.atom rfl hx
    simp only[RC,List.cons.injEq,and_true] at hx
    have hx:=hx.1
    subst hx
    obtain⟨_,_,h3,_,a,cap,h5,_⟩:=hw.cQ b _ (hB b _ hk)
    rw[h5]
    exact⟨_,by simp[Builtin.len_,underlying,h1],RV.len h3⟩
   ·rename_i e2 bs2 t2 xs j v hk
    cases h
    obtain⟨te,ie,h1,_⟩:=T.eW ht hty
    have hx:=RV.atom rfl hx
    simp only[RC,List.cons.injEq,and_true] at hx
    have hx:=hx.1
    subst hx
    obtain⟨_,_,_,h3,_,_,g,cap,c,h5,_⟩:=hw.cQ b _ (hB b _ hk)
    rw[h5]
    exact⟨_,by simp[Builtin.len_,underlying,h1],RV.len h3⟩
   ·rename_i e2 bs2 t2 xs e3 f hk
    cases h
    obtain⟨te,ie,h1,_⟩:=T.eW ht hty
    have hx:=RV.atom rfl hx
    simp only[RC,List.cons.injEq,and_true] at hx
    have hx:=hx.1
    subst hx
    obtain⟨_,_,_,h3,_,g,cap,c,og,h5,_⟩:=hw.cQ b _ (hB b _ hk)
    rw[h5]
    exact⟨_,by simp[Builtin.len_,underlying,h1],RV.len h3⟩
   ·cases h
  ·rename_i s hty
   cases h
   have h1:=T.strOf ht hty
   obtain⟨rfl,h2⟩:=RV.ju hx
   exact⟨goInt s.length,by simp[Builtin.len_,underlying,h1,Pe],RV.len h2⟩
  ·rename_i hty
   cases h
   have h1:=T.mapOf ht (by rw[hty];rfl)
   have hx:=RV.atom rfl hx
   simp[RC] at hx;subst hx
   exact⟨_,by simp[Builtin.len_,underlying,h1],RV.len (by unfold aH;omega)⟩
  ·rename_i b hty
   split at h
   ·rename_i kt vt es hk
    cases h
    have h1:=T.mapOf ht (by rw[hty];rfl)
    obtain⟨g,hg,e⟩:=RV.atom rfl hx
    simp at e;subst e
    obtain⟨_,h2,g',en,clock,h3,h4,h5,_⟩:=hw.cQ b _ (hB b _ hk)
    rw[hg] at h3;cases h3
    have hl:=RM.len h5
    refine⟨goInt es.length,?_,RV.len h2⟩
    simp[Builtin.len_,underlying,h1,getObj,Sem.run,h4,←hl]
   ·cases h
  ·rename_i _ _ hty
   cases h
   have h1:=T.mapOf ht (by rw[hty];rfl)
   have hx:=RV.atom rfl hx
   simp[RC] at hx;subst hx
   exact⟨_,by simp[Builtin.len_,underlying,h1],RV.len (by unfold aH;omega)⟩
  ·rename_i _ _ b hty
   split at h
   ·rename_i kt vt es hk
    cases h
    have h1:=T.mapOf ht (by rw[hty];rfl)
    obtain⟨g,hg,e⟩:=RV.atom rfl hx
    simp at e;subst e
    obtain⟨_,h2,g',en,clock,h3,h4,h5,_⟩:=hw.cQ b _ (hB b _ hk)
    rw[hg] at h3;cases h3
    have hl:=RM.len h5
    refine⟨goInt es.length,?_,RV.len h2⟩
    simp[Builtin.len_,underlying,h1,getObj,Sem.run,h4,←hl]
   ·cases h
  ·rename_i _ _ k' v' y hty
   cases h
   have h1:=T.mapOf ht (by rw[hty];rfl)
   obtain⟨a,e,hr⟩:=RV.atom rfl hx
   simp at e;subst e
   rcases hr with⟨rfl,rfl⟩|⟨es,g,en,clock,rfl,rfl,_,h4,h5,_,h6,_⟩
   ·exact⟨_,by simp[Builtin.len_,underlying,h1],RV.len (n:=0) (by unfold aH;omega)⟩
   ·have hl:=jY.len h5
    exact⟨goInt es.length,by simp[Builtin.len_,underlying,h1,getObj,Sem.run,h4,←hl],RV.len h6⟩
  ·cases h
 grind
def St.fresh(σ:St)(d:Nat):Prop:=d∉σ.ids∧(∀k,σ.hp[d]? ≠some (some k))∧16≤d
def cq:Nat→List Nat→Bool
 |_,[]=>false
 |d,x::l=>Nat.beq d x||cq d l
theorem fa{d:Nat}:∀{l:List Nat},cq d l=false→d∉l
 |[],_=>by simp
 |
  x::l,h=>by
  simp only[cq,Bool.or_eq_false_iff] at h
  intro hm
  cases hm with
  |head=>simp at h
  |tail _ hm=>exact fa h.2 hm
def St.fA(σ:St)(d:Nat):Bool:=
 Nat.ble 16 d&& !cq d σ.ids&&(match σ.hp[d]? with|some (some _)=>false|_=>true)
theorem St.dR{d:Nat}(h:σ.fA d=true):σ.fresh d:=by
 simp only[St.fA,bj] at h
 refine⟨fa (by simpa using h.1.2),?_,iU h.1.1⟩<;>grind
theorem bQ.fresh{gl:Ctx}{a:Act}(h:bQ gl σ E a w){d:Nat}(hf:σ.fresh d){g:Option Nat}{t:Ty}{k:aO}
 (hos:w'.os=w.os) (hta:Tp gl.md w w') (hou:w'.output=w.output) (hsz:w.heap.size≤w'.heap.size) (hold:∀i,i<w.heap.size→w'.heap[i]? =w.heap[i]?)
 (hg:∀i,g=some i→w.heap.size≤i) (hb:RB (E.at d g sv t) w' d k):
 bQ gl (σ.cQ d (some k)) (E.at d g sv t) a w'∧Ext gl.md (bx σ.hp E) E w (bx (σ.cQ d (some k)).hp (E.at d g sv t)) (E.at d g sv t) w':=by
 have kp:bE E w (E.at d g sv t) w':=⟨fun b hb=>hold b (h.hw.slt b hb),fun b hb=>hb⟩
 have hw:=h.hw.fresh (d:=d) hsz hold hf.2.1 (fun b k' hk hm=>hf.1 (St.AB hk d hm)) hg hb
 refine⟨h.carry kp (Env.C9 hf.1) hw,hos,hta,hou,hsz,fun i hi _=>hold i hi,fun i hi=>hi,fun i hi=>Or.inl hi,?_,Env.Lq hf.2.2⟩
 rintro i ⟨b,k',hbk,hgi⟩
 by_cases e:b=d
 ·grind [Env.j9]
 ·have hgi:=(Env.jc e).1 hgi
  simp only[St.cQ] at hbk
  rw[dv,aC (fun e'=>e e'.symm)] at hbk
  exact Or.inl ⟨b,k',hbk,hgi⟩
theorem iQ(w:World)(o:Obj)(i:Nat)(hi:i<w.heap.size):({w with heap:=w.heap.push o}:World).heap[i]? =w.heap[i]? :=by
 grind
theorem oR(w:World)(o:Obj):({w with heap:=w.heap.push o}:World).heap[w.heap.size]? =some o:=by
 grind
theorem bQ.newVar{gl:Ctx}{a:Act}(h:bQ gl σ E a w){d:Nat}(hf:σ.fresh d){t:Ty}{x:AV}{v:Value}(e:TypeId)(hr:RC E w x v.cells.toList)(hc:x.cp t=true)(hx:d∉x.ids):
 ∃w' E',(Go.newVar e v).run P w= .ok ⟨w.heap.size,0,none⟩ w'∧bQ gl (σ.cQ d (some (.var t x))) E' a w'∧RV E' w' (.ptr d []) (.pointer (some ⟨w.heap.size,0,none⟩))∧Ext gl.md (bx σ.hp E) E w (bx (σ.cQ d (some (.var t x))).hp E') E' w':=by
 refine⟨{w with heap:=w.heap.push (.cells v.cells e)},E.at d (some w.heap.size) undef t,by trivial,?_⟩
 have kp:bE E w (E.at d (some w.heap.size) undef t) {w with heap:=w.heap.push (.cells v.cells e)}:=⟨fun b hb=>iQ _ _ _ (h.hw.slt b hb),fun b hb=>hb⟩
 obtain⟨h1,h2⟩:=h.fresh hf (w':={w with heap:=w.heap.push (.cells v.cells e)}) (g:=some w.heap.size) (sv:=undef) (t:=t) (k:=.var t x) rfl (Tp.r rfl rfl) rfl (by simp) (fun i hi=>iQ _ _ _ hi) (fun i hi=>by grind)
  ⟨by simp[Env.at],hc,w.heap.size,v.cells,e,by simp[Env.at],oR _ _,RC.mono kp (Env.C9 hx) hr⟩
 exact⟨h1,RV.eS (Or.inr ⟨rfl,w.heap.size,by simp[Env.at],by simp[Env.at,Ty.qA],Ty.jA _⟩),h2⟩
theorem Dd(v:Value):(qy v).ids= []:=by
 unfold qy
 split<;>try rfl
 all_goals(split<;>rfl)
theorem E9(gl:List Js)(g:Nat):(sy gl g).ids= []:=by
 induction gl with
 |nil=>rfl
 |cons x l ih=>unfold sy;split;rfl;exact ih
theorem yU{gl:Ctx}{x:Operand}:∀b∈(bC gl σ.tm x).ids,b∈σ.ids:=by
 intro b hb
 cases x with
 |
  tmp t=>
  grind [bC,AV.ids,St.EX]
 |const v=>grind [bC,Dd]
 |global g=>grind [bC,E9]
 |func f=>trivial
theorem Ty.Lv(t:Ty):t.zero.ids= []:=by
 induction t with
 |pair a b ih1 ih2=>simp[Ty.zero,AV.ids,ih1,ih2]
 |aT k=>cases k<;>rfl
 |_=>rfl
theorem Jv{G:bN}(T:bA P G){gl:Ctx}{a:Act}(h:bQ gl σ E a w){d:Nat}(hf:σ.fresh d){e:TypeId}(he:G.at e=some td)(old:Value):
 ∃v w' E',(Instr.alloc e true old).run P w= .ok v w'∧bQ gl (σ.cQ d (some (.var td.ty td.ty.zero))) E' a w'∧RV E' w' (.ptr d []) v∧Ext gl.md (bx σ.hp E) E w (bx (σ.cQ d (some (.var td.ty td.ty.zero))).hp E') E' w':=by
 obtain⟨z,hz,h1,h2⟩:=T.zero he w
 obtain⟨w',E',h3,h4,h5,h6⟩:=h.newVar (P:=P) hf (t:=td.ty) (x:=td.ty.zero) (v:=z) e (fN h1).1 (Ty.su _) (by rw[Ty.Lv];simp)
 exact⟨_,w',E',by simp[Instr.alloc,hz,h3],h4,h5,h6⟩
theorem Pf{gl:Ctx}{a:Act}(h:bQ gl σ E a w){d:Nat}(hf:σ.fresh d){e:TypeId}{t:Ty}{x:AV}{v:Value}(hr:bZ E w x v)(hc:x.cp t=true)(hx:d∉x.ids):
 ∃u w' E',(Instr.box e v).run P w= .ok u w'∧bQ gl (σ.cQ d (some (.var t x))) E' a w'∧RV E' w' (.ptr d []) u∧Ext gl.md (bx σ.hp E) E w (bx (σ.cQ d (some (.var t x))).hp E') E' w':=by
 obtain⟨w',E',h3,h4,h5,h6⟩:=h.newVar (P:=P) hf (t:=t) (x:=x) (v:=v) e hr.cells hc hx
 exact⟨_,w',E',by simp[Instr.box,h3],h4,h5,h6⟩
def Ta(e:TypeId)(bs:Nat)(t:Ty)(xs:List t.den)(i:Nat)(p:Path)(x:AV):Option aO:=
 match ia t (xs.getD i t.aD) p x with
 |
  some y=>match y.bB t with
  |some z=>some (.row e bs t (xs.set i z))
  |none=>none
 |none=>none
def yV:aO→Path→AV→Option aO
 |
  .var t v,p,x=>match v.set p x with
  |some u=>if u.cp t then some (.var t u) else none
  |none=>none
 | .row e bs t xs,.idx i::p,x=>Ta e bs t xs i p x
 |
  .cI e bs t xs i v,.cD 1::p,x=>match v.set p x with
  |some u=>if u.cp t then some (.cI e bs t xs i u) else none
  |none=>none
 |
  .cT e bs t xs e2 (some (i,v)),.cD 1::p,x=>match v.set p x with
  |some u=>if u.cp t then some (.cT e bs t xs e2 (some (i,u))) else none
  |none=>none
 |_,_,_=>none
theorem De{L us:List Value}{a o n:Nat}(h:o+us.length≤n)(hl:a+n≤L.length):
 (L.take (a+o)++us++L.drop (a+o+us.length)).take a=L.take a∧((L.take (a+o)++us++L.drop (a+o+us.length)).drop a).take n=((L.drop a).take n).take o++us++((L.drop a).take n).drop (o+us.length)∧
  (L.take (a+o)++us++L.drop (a+o+us.length)).drop (a+n)=L.drop (a+n):=by
 obtain⟨A,M,B,hA,hM,rfl⟩:∃A M B,A.length=a∧M.length=n∧L=A++(M++B):=
  ⟨L.take a,(L.drop a).take n,L.drop (a+n),by grind,by grind,by grind [mc,kH]⟩
 subst hA;subst hM
 have e1:(A++(M++B)).take (A.length+o)=A++M.take o:=by grind [List.take_length_add_append]
 have e2:(A++(M++B)).drop (A.length+o+us.length)=M.drop (o+us.length)++B:=by grind [List.drop_length_add_append]
 have e3:((A++(M++B)).drop A.length).take M.length=M:=by simp
 have hml:(M.take o++us++M.drop (o+us.length)).length=M.length:=by simp;omega
 grind
theorem Jw(l us:List Value)(o m:Nat)(h:o+us.length≤m)(hm:m≤l.length):(l.take o++us++l.drop (o+us.length)).take m=(l.take m).take o++us++(l.take m).drop (o+us.length):=by
 have e1:(l.take m).take o=l.take o:=by grind
 have e2:(l.take m).drop (o+us.length)=(l.drop (o+us.length)).take (m -(o+us.length)):=by rw[mM]
 rw[e1,e2,List.take_append,gm (l:=l.take o++us) (by grind)]
 grind
theorem Lw{gl:Ctx}(hw:HW gl E w hp){b:Nat}{k:aO}{p:Path}{x:AV}{us:List Value}(hb:hp[b]? =some (some k))(hv:(E.bt b).valid p)(hx:RC E w x us)
 (am0:∀s,(E.bt b).sub p=some s→us.length=s.size) (h:yV k p x=some k'):
 ∃g w',E.g b=some g∧(storeCells ⟨g,(E.bt b).off p,none⟩ us 0).run P w= .ok () w'∧w'.os=w.os∧Tp gl.md w w'∧w'.output=w.output∧w'.heap.size=w.heap.size∧(∀i,i≠g→w'.heap[i]? =w.heap[i]?)∧RB E w' b k':=by
 have hk:=hw.cQ b k hb
 cases k with
 |
  var t v=>
  obtain⟨h1,h2,g,c,e,h3,h4,h5⟩:=hk
  rw[h1] at hv am0 ⊢
  simp only[yV] at h
  split at h
  ·rename_i u hu
   split at h
   ·rename_i hconf
    cases h
    obtain⟨s,e1,e2,e3,e4⟩:=AV.mO hx h5 h2 hv am0 hu
    rw[←e2] at e3 e4
    have hst:=run_storeCells_at P g (t.off p) e us 0 c w h4 (by grind) (RC.one hx)
    refine⟨g,_,h3,hst,rfl,Tp.r rfl rfl,rfl,by simp,fun i hi=>setRow_other w g i _ hi,?_⟩
    have kp:bE E w E (w.setRow g (c.toList.take (t.off p+0)++us++c.toList.drop (t.off p+0+us.length)).toArray):=
     ⟨fun i hi=>setRow_other w g i _ (fun e=>hw.jI b _ g hb h3 (e▸hi)),fun _ h=>h⟩
    refine⟨h1,hconf,g,_,e,h3,setRow_heap w g c _ e _ h4,?_⟩
    have:=RC.mono kp (fun _ _=>⟨rfl,rfl,rfl⟩) e4
    grind
   grind
  grind
 |
  row e bs t xs=>
  obtain⟨h1,h2,h3,h4,a,cap,h5,h6,h7⟩:=hk
  cases p with
  |nil=>trivial
  |
   cons ps p=>
   cases ps with
   |cD k=>trivial
   |
    idx i=>
    rw[h1] at hv am0 ⊢
    have hi:i<xs.length:=hv.1
    rcases h7 with⟨_,_,h9⟩|⟨g,c,h7,h8,h9,h10,h11,h12⟩
    ·grind
    ·have hR:Rel w E.S (.arr xs.length t) (c.toList.take (xs.length*t.size)) xs:=⟨rfl,h12⟩
     simp only[yV,Ta] at h
     split at h
     ·rename_i y hy
      split at h
      ·rename_i z hz
       cases h
       have aS:ia (.arr xs.length t) xs (.idx i::p) x=some (.val (.arr xs.length t) (List.set xs i z)):=by
        grind [ia]
       obtain⟨s,e1,e2,e3,e4⟩:=yR hx hR hv aS
       have hlen:xs.length*t.size≤c.toList.length:=by
        grind [ji]
       have e3':=e3
       rw[kI,qx hlen,←e2] at e3'
       have hst:=run_storeCells_at P g ((Ty.arr xs.length t).off (.idx i::p)) e us 0 c w h9 (by grind) (RC.one hx)
       refine⟨g,_,h7,hst,rfl,Tp.r rfl rfl,rfl,by simp,fun i hi=>setRow_other w g i _ hi,?_⟩
       have kp:bE E w E (w.setRow g (c.toList.take ((Ty.arr xs.length t).off (.idx i::p)+0)++us++c.toList.drop ((Ty.arr xs.length t).off (.idx i::p)+0+us.length)).toArray):=
        ⟨fun i hi=>setRow_other w g i _ (fun e=>hw.jI b _ g hb h7 (e▸hi)),fun _ h=>h⟩
       refine⟨by grind,by grind,by grind,h4,a,cap,by grind,h6,Or.inr ⟨g,_,h7,h8,setRow_heap w g c _ e _ h9,?_,by grind,?_⟩⟩
       ·grind
       ·have:=RC.mono kp (fun _ _=>⟨rfl,rfl,rfl⟩) e4
        rw[←e2] at this
        have hh:=this.2
        simp only[Nat.add_zero,jj]
        grind [Jw]
      grind
     grind
 |
  cI e bs t xs i v=>
  obtain⟨h1,h2,h3,h4,h5,h6,g,cap,c,q1,q2,q3,q4,q5,q6,q7,q8,q9⟩:=hk
  rw[h1] at hv am0 ⊢
  unfold yV at h
  split at h
  ·grind
  ·grind
  ·rename_i p hk
   cases hk
   split at h
   ·rename_i u hu
    split at h
    ·rename_i hconf
     cases h
     have hv':t.valid p:=hv
     obtain⟨s,e1,e2,e3,e4⟩:=AV.mO hx q8 h6 hv' am0 hu
     rw[←e2] at e3 e4
     rw[kI,List.length_drop] at e3
     have hoff:(mP i xs.length t).off (.cD 1::p)=i*t.size+t.off p:=by trivial
     have hlen:i*t.size+t.size≤c.toList.length:=by
      rw[show c.toList.length=c.size from pv,q5]
      calc i*t.size+t.size=(i+1)*t.size:=by grind
       _≤cap*t.size:=ji _ (by omega)
     obtain⟨m1,m2,m3⟩:=De (L:=c.toList) (us:=us) (a:=i*t.size) (o:=t.off p) (n:=t.size) (by omega) hlen
     have hst:=run_storeCells_at P g (i*t.size+t.off p) e us 0 c w q4 (by grind) (RC.one hx)
     rw[hoff]
     refine⟨g,_,q3,hst,rfl,Tp.r rfl rfl,rfl,by simp,fun i hi=>setRow_other w g i _ hi,?_⟩
     have kp:bE E w E (w.setRow g (c.toList.take (i*t.size+t.off p+0)++us++c.toList.drop (i*t.size+t.off p+0+us.length)).toArray):=
      ⟨fun i hi=>setRow_other w g i _ (fun e=>hw.jI b _ g hb q3 (e▸hi)),fun _ h=>h⟩
     refine⟨h1,h2,h3,h4,h5,hconf,g,cap,_,q1,q2,q3,setRow_heap w g c _ e _ q4,?_,q6,?_,?_,?_⟩
     ·grind
     ·simp only[Nat.add_zero]
      rw[m1]
      exact bk.mono (fun _ _=>Rel.mono kp.w kp.S) q7
     ·simp only[Nat.add_zero] at kp ⊢
      rw[m2]
      exact RC.mono kp (fun _ _=>⟨rfl,rfl,rfl⟩) e4
     ·simp only[Nat.add_zero] at kp ⊢
      rw[show(i+1)*t.size=i*t.size+t.size from by grind] at q9 ⊢
      rw[m3]
      exact bk.mono (fun _ _=>Rel.mono kp.w kp.S) q9
    grind
   grind
  ·grind
  grind
 |
  cT e bs t xs e2' f=>
  obtain⟨h1,h2,h3,h4,h5,g,cap,c,og,q1,q2,q3,q4,q5,q6,q7,q8⟩:=hk
  unfold yV at h
  split at h
  ·grind
  ·grind
  ·grind
  ·rename_i i v p hk
   cases hk
   split at h
   ·rename_i u hu
    split at h
    ·rename_i hconf
     cases h
     obtain⟨hi,hcv⟩:=h5 i v rfl
     obtain⟨u',r1,r2,_⟩:=q8 i (xs.getD i t.aD) (by grind)
     obtain⟨r0,r2⟩:=r2 v rfl
     rw[h1] at hv am0 ⊢
     have hv':t.valid p:=hv
     have hc:c.toList[i]? =some u':=by grind
     have hmid:(c.toList.drop (i*t.size)).take t.size= [u']:=by
      rw[h2,Nat.mul_one]
      grind [ma]
     rw[←hmid] at r2
     obtain⟨s,e1,e2,e3,e4⟩:=AV.mO hx r2 hcv hv' am0 hu
     rw[←e2] at e3 e4
     rw[kI,List.length_drop] at e3
     have hoff:(wg xs.length t (some (i,v))).off (.cD 1::p)=i*t.size+t.off p:=by trivial
     have hlen:i*t.size+t.size≤c.toList.length:=by
      grind
     obtain⟨m1,m2,m3⟩:=De (L:=c.toList) (us:=us) (a:=i*t.size) (o:=t.off p) (n:=t.size) (by omega) hlen
     have hst:=run_storeCells_at P g (i*t.size+t.off p) e us 0 c w q4 (by grind) (RC.one hx)
     rw[hoff]
     refine⟨g,_,q3,hst,rfl,Tp.r rfl rfl,rfl,by simp,fun i hi=>setRow_other w g i _ hi,?_⟩
     have kp:bE E w E (w.setRow g (c.toList.take (i*t.size+t.off p+0)++us++c.toList.drop (i*t.size+t.off p+0+us.length)).toArray):=
      ⟨fun i hi=>setRow_other w g i _ (fun e=>hw.jI b _ g hb q3 (e▸hi)),fun _ h=>h⟩
     simp only[Nat.add_zero] at kp ⊢
     rw[h2,Nat.mul_one] at m1 m2 m3 kp hlen ⊢
     have hsz:(c.toList.take (i+t.off p)++us++c.toList.drop (i+t.off p+us.length)).length=c.toList.length:=by
      rw[show c.toList.length=c.size from pv] at hlen ⊢
      simp only[kG,kI,List.length_drop,pv];omega
     refine⟨h1,h2,h3,h4,fun i' v' hv'=>by grind,g,cap,_,og,q1,q2,q3,setRow_heap w g c _ e _ q4,?_,q6,q7,?_⟩
     ·grind
     ·intro i' x' hx'
      obtain⟨z,s1,s2,s3⟩:=q8 i' x' hx'
      by_cases e:i'=i
      ·subst e
       rw[h2,Nat.mul_one] at e4 hmid
       rw[←m2] at e4
       have hlt:i'<(c.toList.take (i'+t.off p)++us++c.toList.drop (i'+t.off p+us.length)).length:=by grind
       have e5:((c.toList.take (i'+t.off p)++us++c.toList.drop (i'+t.off p+us.length)).drop i').take 1= [(c.toList.take (i'+t.off p)++us++c.toList.drop (i'+t.off p+us.length))[i']]:=by
        rw[ma hlt];rfl
       rw[e5] at e4
       refine⟨(c.toList.take (i'+t.off p)++us++c.toList.drop (i'+t.off p+us.length))[i'],by grind,fun v' hv'=>?_,fun hv'=>absurd rfl (hv' u)⟩
       cases hv'
       exact⟨r0,RC.mono kp (fun _ _=>⟨rfl,rfl,rfl⟩) e4⟩
      ·refine⟨z,?_,fun v' hv'=>by grind,fun _=>?_⟩
       ·have s1:c.toList[i']? =some z:=by grind
        have hnew:(c.toList.take (i+t.off p)++us++c.toList.drop (i+t.off p+us.length))[i']? =some z:=by
         rcases Nat.lt_or_gt_of_ne e with hl|hl
         ·grind
         ·have a1:((c.toList.take (i+t.off p)++us++c.toList.drop (i+t.off p+us.length)).drop (i+1))[i' -(i+1)]? =(c.toList.drop (i+1))[i' -(i+1)]? :=by rw[m3]
          rw[List.getElem?_drop,List.getElem?_drop,show i+1+(i' -(i+1))=i' from by omega] at a1
          grind
        grind
       ·have s4:=s3 (fun v' hv'=>by grind)
        refine cZ.mono kp.w kp.S (fun gg hgg=>?_) s4
        exact setRow_other w g gg _ (q7.own i' gg hgg).2
    grind
   grind
  grind
 |_=>trivial
def AE(G:bN)(hb:Nat→Option aO)(t:TypeId)(x y:AV):Option (Nat×aO):=
 match x,G.at t with
 |
  .ptr b p,some td=>match hb b with
  |
   some k=>match(kP k).sub p with
   |some s=>if Ty.same s td.ty&&Nat.beq y.size td.ty.size then(yV k p y).map fun k'=>(b,k') else none
   |none=>none
  |none=>none
 |_,_=>none
theorem bx.jd{b:Nat}{k:aO}(hb:hp[b]? =some (some k)){i:Nat}:bx (hp.set b (some k')) E i→bx hp E i:=bx.set hb
theorem Df{G:bN}(T:bA P G){gl:Ctx}{a:Act}(h:bQ gl σ E a w)(hB:HB hb σ.hp){t:TypeId}{x y:AV}(hx:RV E w x vx)(hy:bZ E w y vy){b:Nat}
 (hev:AE G hb t x y=some (b,k')):
 ∃w',(Instr.storeAt t vx vy).run P w= .ok () w'∧bQ gl (σ.cQ b (some k')) E a w'∧Ext gl.md (bx σ.hp E) E w (bx (σ.cQ b (some k')).hp E) E w':=by
 unfold AE at hev
 split at hev
 ·rename_i b' p td ht
  split at hev
  ·rename_i k hk
   split at hev
   ·rename_i s hs
    split at hev
    ·rename_i hc
     simp only[bj] at hc
     obtain⟨k2,hk2,e⟩:=Option.map_eq_some_iff.1 hev
     cases e
     have:=Ty.aB hc.1;subst this
     obtain⟨g,hg,e,hv⟩:=RV.atom rfl hx
     simp at e;subst e
     have hkb:=h.hw.cQ b k (hB b k hk)
     have hbt:E.bt b=kP k:=by
      refine RB.bt hkb ?_
      cases k<;>first|rfl|trivial
     have hyc:=hy.cells
     have hlen:=RC.len hyc
     have hsz:=bM hc.2
     obtain⟨g',w',h1,h2,h3,h4,h5,h6,h7,h8⟩:=Lw (P:=P) h.hw (hB b k hk) hv hyc (fun s' hs'=>by grind) hk2
     rw[hg] at h1;cases h1
     have amQ:(Instr.storeAt t (.pointer (some ⟨g,(E.bt b).off p,none⟩)) vy).run P w= .ok () w':=by
      have:vy.cells.size=td.ty.size:=by grind
      simp[Instr.storeAt,Instr.sureAddr,storeVar,T.size ht,this,h2]
     have kp:bE E w E w':=⟨fun i hi=>h7 i (fun e=>h.hw.jI b k g (hB b k hk) hg (e▸hi)),fun _ h=>h⟩
     have hhw:=h.hw.write (w':=w') (k':=k') (hB b k hk) h6 (fun i hi=>h7 i (fun e=>hi (e▸hg))) h8
     refine⟨w',amQ,h.carry kp (fun _ _=>⟨rfl,rfl,rfl⟩) hhw,h3,h4,h5,by omega,?_,fun _ h=>h,fun _ h=>Or.inl h,fun i hi=>Or.inl (bx.set (hB b k hk) hi),fun _ _=>⟨rfl,rfl,rfl⟩⟩
     intro i hi ho
     exact h7 i (fun e=>ho ⟨b,k,hB b k hk,Or.inl (e▸hg)⟩)
    grind
   grind
  grind
 grind
structure aW where
 rt:List Nat
 rb:List Nat
 fr:List Nat
 dst:Option Nat
 v:AV
 hw:List (Nat×Option aO)
def aS(hp:List (Option aO)):List (Nat×Option aO)→List (Option aO)
 |[]=>hp
 |(b,k)::l=>aS (hp.set b k) l
def St.app(σ:St)(f:aW):St:=({σ with hp:=aS σ.hp f.hw}:St).put f.dst f.v
structure iW(σ σ':St)(rt rb:List Nat):Prop where
 tl:σ'.tm.length=σ.tm.length
 hl:σ'.hp.length=σ.hp.length
 tm:∀t∈rt,σ'.tm[t]? =σ.tm[t]?
 hp:∀b∈rb,σ'.hp[b]? =σ.hp[b]?
theorem iW.refl(σ:St)(rt rb:List Nat):iW σ σ rt rb:=⟨rfl,rfl,fun _ _=>rfl,fun _ _=>rfl⟩
def px(P:Program)(gl:Ctx)(ops:Array Oper)(i:Nat)(f:aW)(σ:St):Prop:=
 ∀σ',iW σ σ' f.rt f.rb→(∀d∈f.fr,σ'.fresh d)→∀E a w,bQ gl σ' E a w→∀(K:Act→World→Prop)(Q:Exit→Act→World→Prop),
  (∀E' a' w',bQ gl (σ'.app f) E' a' w'→Ext gl.md (bx σ'.hp E) E w (bx (σ'.app f).hp E') E' w'→K a' w')→wpOpIn (Wd gl) 0 P ops Q i K a w
def bW(OK:Nat→aW→St→Prop):Nat→List aW→St→St→Prop
 |_,[],σ,σ'=>σ'=σ
 |i,f::fs,σ,σ'=>OK i f σ∧(∀d∈f.fr,σ.fresh d)∧bW OK (i+1) fs (σ.app f) σ'
abbrev qB(P:Program)(gl:Ctx)(ops:Array Oper):Nat→List aW→St→St→Prop:=bW (px P gl ops)
variable{OK:Nat→aW→St→Prop}
theorem bW.mono{OK':Nat→aW→St→Prop}(hm:∀i f σ,OK i f σ→OK' i f σ):∀{fs:List aW}{i:Nat}{σ σ':St},bW OK i fs σ σ'→bW OK' i fs σ σ'
 |[],_,_,_,h=>h
 |_::_,_,_,_,⟨h1,h2,h3⟩=>⟨hm _ _ _ h1,h2,h3.mono hm⟩
theorem kQ:∀(l:List (Nat×Option aO))(hp:List (Option aO)),(aS hp l).length=hp.length
 |[],_=>rfl
 |(b,k)::l,hp=>by rw[aS,kQ l,jj]
def wrote:List (Nat×Option aO)→List Nat
 |[]=>[]
 |(b,_)::l=>b::wrote l
theorem eA{b:Nat}:∀{l:List (Nat×Option aO)}{hp:List (Option aO)},b∉wrote l→(aS hp l)[b]? =hp[b]?
 |[],_,_=>rfl
 |
  (c,k)::l,hp,h=>by
  simp only[wrote,fg,not_or] at h
  rw[aS,eA h.2,dv,aC (fun e=>h.1 e.symm)]
theorem sB(σ:St)(f:aW):(σ.app f).tm.length=σ.tm.length:=by
 unfold St.app St.put;grind
theorem sC(σ:St)(f:aW):(σ.app f).hp.length=σ.hp.length:=by
 unfold St.app St.put;split<;>simp[kQ]
theorem ig(σ:St)(f:aW):(σ.app f).hp=aS σ.hp f.hw:=by
 unfold St.app St.put;grind
theorem wC(σ:St)(f:aW):(σ.app f).df=σ.df:=by
 unfold St.app St.put;grind
theorem ij{f:aW}{t:Nat}(h:f.dst≠some t):(σ.app f).tm[t]? =σ.tm[t]? :=by
 unfold St.app St.put
 grind
structure xZ(gl:Ctx)(DS WB:List Nat)(σ0:St)(E0:Env)(w0:World)(σ:St)(E:Env)(w:World):Prop where
 df:σ.df=σ0.df
 tl:σ.tm.length=σ0.tm.length
 hl:σ.hp.length=σ0.hp.length
 tm:∀t,t∉DS→σ.tm[t]? =σ0.tm[t]?
 hp:∀b,b∉WB→σ.hp[b]? =σ0.hp[b]?
 ext:Ext gl.md (bx σ0.hp E0) E0 w0 (bx σ.hp E) E w
variable{DS:List Nat}{WB:List Nat}
theorem xZ.refl{gl:Ctx}(σ:St)(E:Env)(w:World):xZ gl DS WB σ E w σ E w:=⟨rfl,rfl,rfl,fun _ _=>rfl,fun _ _=>rfl,Ext.refl _ _ _⟩
def inW(DS WB:List Nat)(f:aW):Prop:=(∀d,f.dst=some d→d∈DS)∧∀b∈wrote f.hw,b∈WB
variable{σ0:St}{E0:Env}
theorem xZ.app{gl:Ctx}{w0:World}{f:aW}(h:xZ gl DS WB σ0 E0 w0 σ E w)(hf:inW DS WB f)(hx:Ext gl.md (bx σ.hp E) E w (bx (σ.app f).hp E') E' w'):xZ gl DS WB σ0 E0 w0 (σ.app f) E' w' where
 df:=(wC _ _).trans h.df
 tl:=(sB _ _).trans h.tl
 hl:=(sC _ _).trans h.hl
 tm:=fun t ht=>(ij (fun e=>ht (hf.1 t e))).trans (h.tm t ht)
 hp:=fun b hb=>by rw[ig,eA (fun e=>hb (hf.2 b e))];exact h.hp b hb
 ext:=h.ext.trans hx
def N1(P:Program)(gl:Ctx)(ops:Array Oper)(Q:Exit→Act→World→Prop)(V:St→Env→World→Prop)(i:Nat)(f:aW)(σ:St):Prop:=
 ∀σ',iW σ σ' f.rt f.rb→(∀d∈f.fr,σ'.fresh d)→∀E a w,bQ gl σ' E a w→V σ' E w→∀(K:Act→World→Prop),
  (∀E' a' w',bQ gl (σ'.app f) E' a' w'→Ext gl.md (bx σ'.hp E) E w (bx (σ'.app f).hp E') E' w'→K a' w')→wpOpIn (Wd gl) 0 P ops Q i K a w
variable{ops:Array Oper}{Q:Exit→Act→World→Prop}
theorem px.q{gl:Ctx}{V:St→Env→World→Prop}{i:Nat}{f:aW}(h:px P gl ops i f σ):N1 P gl ops Q V i f σ:=
 fun σ' h1 h2 E a w hg _ K hk=>h σ' h1 h2 E a w hg K Q hk
section
variable{P:Program} {gl:Ctx} {ops:Array Oper} {Q:Exit→Act→World→Prop} {DS WB:List Nat} {σ0:St} {E0:Env} {w0:World}
theorem Lx.wp{σ':St}(hq:∀E' a' w',bQ gl σ' E' a' w'→xZ gl DS WB σ0 E0 w0 σ' E' w'→Q .normal a' w'):∀{fs:List aW}{i:Nat}{σ:St},(∀f∈fs,inW DS WB f)→bW (N1 P gl ops Q (xZ gl DS WB σ0 E0 w0)) i fs σ σ'→∀{E:Env}{a:Act}{w:World},bQ gl σ E a w→xZ gl DS WB σ0 E0 w0 σ E w→
 wpOpsIn (Wd gl) 0 P ops Q ((List.range fs.length).map (·+i)) a w
 |
  [],i,σ,_,h,E,a,w,hg,hv=>by
  simp only[bW] at h;subst h
  exact hq E a w hg hv
 |
  f::fs,i,σ,hi,⟨h1,h2,h3⟩,E,a,w,hg,hv=>by
  have e:(List.range (f::fs).length).map (·+i)=i::(List.range fs.length).map (·+(i+1)):=by
   rw[gP,List.range_succ_eq_map]
   simp only[dA,eN,iw]
   congr 1
   grind [List.map_congr_left]
  rw[e,wpOpsIn_cons]
  refine h1 σ (iW.refl _ _ _) h2 E a w hg hv _ ?_
  intro E' a' w' hg' hx
  exact Lx.wp hq (fun g hm=>hi g (dj _ hm)) h3 hg' (hv.app (hi f (cm ..)) hx)
end
def dstsOf(fs:List aW):List Nat:=fs.flatMap fun f=>f.dst.toList
def ky(fs:List aW):List Nat:=fs.flatMap fun f=>wrote f.hw
variable{fs:List aW}
theorem Ly:∀f∈fs,inW (dstsOf fs) (ky fs) f:=fun f hf=>
 ⟨fun d hd=>List.mem_flatMap.2 ⟨f,hf,by simp[hd]⟩,fun b hb=>List.mem_flatMap.2 ⟨f,hf,hb⟩⟩
variable{σ':St}{id:Nat}
theorem tL{gl:Ctx}{a:Act}(hn:fs.length=ops.size)(h:bW (N1 P gl ops Q (xZ gl (dstsOf fs) (ky fs) σ E w)) 0 fs σ σ')(hg:bQ gl σ E a w)
 (hq:∀E' a' w',bQ gl σ' E' a' w'→xZ gl (dstsOf fs) (ky fs) σ E w σ' E' w'→Q .normal a' w'):(Code.region id ops false).wpIn (Wd gl) 0 P Q a w:=by
 refine wpIn_region ?_
 have:=Lx.wp hq Ly h hg (xZ.refl _ _ _)
 simp_all
theorem Fb{gl:Ctx}(hn:fs.length=ops.size)(h:qB P gl ops 0 fs σ σ'){a:Act}(hg:bQ gl σ E a w)
 (hq:∀E' a' w',bQ gl σ' E' a' w'→Ext gl.md (bx σ.hp E) E w (bx σ'.hp E') E' w'→Q .normal a' w'):(Code.region id ops false).wpIn (Wd gl) 0 P Q a w:=
 tL hn (h.mono fun _ _ _=>px.q) hg (fun E' a' w' h1 h2=>hq E' a' w' h1 h2.ext)
theorem iF{b:Nat}:∀{l:List (Nat×Option aO)}{hp hp':List (Option aO)},hp.length=hp'.length→hp[b]? =hp'[b]? →(aS hp l)[b]? =(aS hp' l)[b]?
 |[],_,_,_,h=>h
 |
  (c,k)::l,hp,hp',hl,h=>by
  rw[aS,aS]
  refine iF (by simp[hl]) ?_
  rw[dv,dv,hl,h]
theorem wD{b:Nat}:∀{l:List (Nat×Option aO)}{hp hp':List (Option aO)},hp.length=hp'.length→b∈wrote l→(aS hp l)[b]? =(aS hp' l)[b]?
 |[],_,_,_,h=>by cases h
 |
  (c,k)::l,hp,hp',hl,h=>by
  rw[aS,aS]
  by_cases hb:b∈wrote l
  ·exact wD (by simp[hl]) hb
  ·simp only[wrote,fg] at h
   have e:b=c:=h.resolve_right hb
   subst e
   rw[eA hb,eA hb,dv,dv,hl]
   simp
theorem Dg{f:aW}{t:Nat}(hl:σ.tm.length=σ'.tm.length)(h:σ.tm[t]? =σ'.tm[t]?):(σ.app f).tm[t]? =(σ'.app f).tm[t]? :=by
 unfold St.app St.put
 grind
theorem AF{f:aW}{t:Nat}(hl:σ.tm.length=σ'.tm.length)(h:f.dst=some t):(σ.app f).tm[t]? =(σ'.app f).tm[t]? :=by
 grind [St.app,St.put]
def cw(X:Nat→Bool):Nat→List aW→St→St
 |_,[],σ=>σ
 |i,f::fs,σ=>cw X (i+1) fs (if X i then σ.app f else σ)
theorem nU(X:Nat→Bool):∀(fs:List aW)(i:Nat)(σ:St),(cw X i fs σ).tm.length=σ.tm.length
 |[],_,_=>rfl
 |f::fs,i,σ=>by rw[cw,nU X fs];split<;>simp[sB]
theorem nV(X:Nat→Bool):∀(fs:List aW)(i:Nat)(σ:St),(cw X i fs σ).hp.length=σ.hp.length
 |[],_,_=>rfl
 |f::fs,i,σ=>by rw[cw,nV X fs];split<;>simp[sC]
theorem AG(X:Nat→Bool):∀(fs:List aW)(i:Nat)(σ:St),(cw X i fs σ).df=σ.df
 |[],_,_=>rfl
 |f::fs,i,σ=>by rw[cw,AG X fs];split<;>simp[wC]
variable{X:Nat→Bool}
theorem qC{Y:Nat→Bool}{t:Nat}:∀{fs:List aW}{i:Nat}{σ σ':St},σ.tm.length=σ'.tm.length→σ.tm[t]? =σ'.tm[t]? →(∀(k:Nat)(f:aW),fs[k]? =some f→X (i+k)≠Y (i+k)→f.dst≠some t)→
 (cw X i fs σ).tm[t]? =(cw Y i fs σ').tm[t]?
 |[],_,_,_,_,h,_=>h
 |
  f::fs,i,σ,σ',hl,h,hd=>by
  rw[cw,cw]
  refine qC ?_ ?_ (fun k g hk hne=>hd (k+1) g (by grind) (by grind))
  ·split<;>split<;>simp[sB,hl]
  ·by_cases hx:X i=Y i
   ·grind [Dg]
   ·have:=hd 0 f rfl (by grind)
    grind [ij]
theorem qD{Y:Nat→Bool}{b:Nat}:∀{fs:List aW}{i:Nat}{σ σ':St},σ.hp.length=σ'.hp.length→σ.hp[b]? =σ'.hp[b]? →(∀(k:Nat)(f:aW),fs[k]? =some f→X (i+k)≠Y (i+k)→b∉wrote f.hw)→
 (cw X i fs σ).hp[b]? =(cw Y i fs σ').hp[b]?
 |[],_,_,_,_,h,_=>h
 |
  f::fs,i,σ,σ',hl,h,hd=>by
  rw[cw,cw]
  refine qD ?_ ?_ (fun k g hk hne=>hd (k+1) g (by grind) (by grind))
  ·split<;>split<;>simp[sC,hl]
  ·by_cases hx:X i=Y i
   ·grind [ig,iF]
   ·have:=hd 0 f rfl (by grind)
    grind [ig,eA]
variable{fi:aW}
theorem qE{t:Nat}(hw:fi.dst=some t):∀{fs:List aW}{i j:Nat}{σ σ':St},σ.tm.length=σ'.tm.length→fs[j]? =some fi→X (i+j)=true→(∀(k:Nat)(f:aW),fs[k]? =some f→j<k→X (i+k)=true→f.dst≠some t)→
 (cw X i fs σ).tm[t]? =(σ'.app fi).tm[t]?
 |[],_,_,_,_,_,h,_,_=>by simp at h
 |
  f::fs,i,0,σ,σ',hl,hf,hx,hd=>by
  simp at hf;subst hf
  rw[cw]
  simp only[Nat.add_zero] at hx
  rw[hx]
  have:(cw X (i+1) fs (σ.app f)).tm[t]? =(cw (fun _=>false) (i+1) fs (σ'.app f)).tm[t]? :=by
   refine qC (by simp[sB,hl]) (AF hl hw) (fun k g hk hne=>?_)
   refine hd (k+1) g (by simpa using hk) (by omega) ?_<;>grind
  rw[aA rfl,this]
  have hid:∀(fs:List aW)(i:Nat)(σ:St),cw (fun _=>false) i fs σ=σ:=by
   intro fs
   induction fs with
   |nil=>intro i σ;rfl
   |cons f fs ih=>simp_all[cw]
  rw[hid]
 |
  f::fs,i,j+1,σ,σ',hl,hf,hx,hd=>by
  rw[cw]
  refine qE hw (j:=j) ?_ (by simpa using hf) (by rw[show i+1+j=i+(j+1) from by omega];exact hx) (fun k g hk hjk hxk=>hd (k+1) g (by simpa using hk) (by omega) (by rw[show i+(k+1)=i+1+k from by omega];exact hxk))
  split<;>simp[sB,hl]
theorem qF{b:Nat}(hw:b∈wrote fi.hw):∀{fs:List aW}{i j:Nat}{σ σ':St},σ.hp.length=σ'.hp.length→fs[j]? =some fi→X (i+j)=true→(∀(k:Nat)(f:aW),fs[k]? =some f→j<k→X (i+k)=true→b∉wrote f.hw)→
 (cw X i fs σ).hp[b]? =(σ'.app fi).hp[b]?
 |[],_,_,_,_,_,h,_,_=>by simp at h
 |
  f::fs,i,0,σ,σ',hl,hf,hx,hd=>by
  simp at hf;subst hf
  rw[cw]
  simp only[Nat.add_zero] at hx
  rw[hx]
  have:(cw X (i+1) fs (σ.app f)).hp[b]? =(cw (fun _=>false) (i+1) fs (σ'.app f)).hp[b]? :=by
   refine qD (by simp[sC,hl]) (by grind [ig,wD]) (fun k g hk hne=>?_)
   refine hd (k+1) g (by simpa using hk) (by omega) ?_<;>grind
  rw[aA rfl,this]
  have hid:∀(fs:List aW)(i:Nat)(σ:St),cw (fun _=>false) i fs σ=σ:=by
   intro fs
   induction fs with
   |nil=>intro i σ;rfl
   |cons f fs ih=>simp_all[cw]
  rw[hid]
 |
  f::fs,i,j+1,σ,σ',hl,hf,hx,hd=>by
  rw[cw]
  refine qF hw (j:=j) ?_ (by simpa using hf) (by rw[show i+1+j=i+(j+1) from by omega];exact hx) (fun k g hk hjk hxk=>hd (k+1) g (by simpa using hk) (by omega) (by rw[show i+(k+1)=i+1+k from by omega];exact hxk))
  split<;>simp[sC,hl]
def Uc:Option aO→List Nat
 |some k=>k.ids
 |none=>[]
def HO:List (Nat×Option aO)→List Nat
 |[]=>[]
 |(_,k)::l=>Uc k++HO l
def aW.Lz(f:aW):List Nat:=f.v.ids++HO f.hw
theorem lv{d:Nat}:d∉σ.ids↔(∀(i:Nat)(x:AV),σ.tm[i]? =some x→d∉x.ids)∧(∀x∈σ.df,d∉x.ids)∧(∀(i:Nat)(k:aO),σ.hp[i]? =some (some k)→d∉k.ids):=by
 constructor
 ·grind [St.EX,St.Lp,St.AB]
 ·rintro⟨h1,h2,h3⟩ hm
  simp only[St.ids,jb,List.mem_flatMap,List.mem_filterMap] at hm
  grind [List.getElem?_of_mem]
theorem Dh{d:Nat}:∀{l:List (Nat×Option aO)}{hp:List (Option aO)},(∀(i:Nat)(k:aO),hp[i]? =some (some k)→d∉k.ids)→d∉HO l→∀(i:Nat)(k:aO),(aS hp l)[i]? =some (some k)→d∉k.ids
 |[],_,h,_=>h
 |
  (b,o)::l,hp,h,hm=>by
  simp only[HO,jb,not_or] at hm
  refine Dh (l:=l) (hp:=hp.set b o) ?_ hm.2
  intro i k hk
  rw[dv] at hk
  split at hk
  ·split at hk
   ·simp at hk;subst hk;exact hm.1
   ·cases hk
  ·exact h i k hk
theorem Jx{f:aW}{d:Nat}(h:σ.fresh d)(hm:d∉f.Lz)(hw:d∉wrote f.hw):(σ.app f).fresh d:=by
 simp only[aW.Lz,jb,not_or] at hm
 obtain⟨h1,h2,h3⟩:=h
 rw[lv] at h1
 obtain⟨a1,a2,a3⟩:=h1
 refine⟨?_,?_,h3⟩
 ·rw[lv]
  refine⟨?_,?_,?_⟩
  ·intro i x hx
   by_cases e:f.dst=some i
   ·simp_all[St.app,St.put,dv]
   grind [ij]
  ·rw[wC];exact a2
  ·rw[ig];exact Dh a3 hm.2
 grind [ig,eA]
theorem wE{d:Nat}:∀{fs:List aW}{i:Nat}{σ:St},σ.fresh d→(∀(k:Nat)(f:aW),fs[k]? =some f→X (i+k)=true→d∉f.Lz∧d∉wrote f.hw)→(cw X i fs σ).fresh d
 |[],_,_,h,_=>h
 |
  f::fs,i,σ,h,hd=>by
  rw[cw]
  refine wE ?_ (fun k g hk hx=>hd (k+1) g (by grind) (by grind))
  split
  ·rename_i hx
   have:=hd 0 f rfl (by grind)
   exact Jx h this.1 this.2
  grind
def XD(acc:List Nat)(o:Oper):Nat:=
 o.after.toList.foldl (fun s e=>if Region.binds .any e then s ||| 2^e.on ||| acc.getD e.on 0 else s) 0
def sD:List Oper→List Nat→List Nat
 |[],acc=>acc
 |o::l,acc=>sD l (acc++[XD acc o])
theorem wG{acc:List Nat}(hacc:∀j k,X j=true→(acc.getD j 0).testBit k=true→X k=true):∀(l:List Edge)(s:Nat),(∀e∈l,Region.binds .any e=true→X e.on=true)→(∀k,s.testBit k=true→X k=true)→
 ∀k,(l.foldl (fun s e=>if Region.binds .any e then s ||| 2^e.on ||| acc.getD e.on 0 else s) s).testBit k=true→X k=true
 |[],s,_,hs=>hs
 |
  e::l,s,hl,hs=>by
  refine wG hacc l _ (fun e' he'=>hl e' (dj _ he')) ?_<;>grind
theorem yW:∀(l:List Oper)(acc:List Nat),(∀j k,X j=true→(acc.getD j 0).testBit k=true→X k=true)→
 (∀j o,l[j]? =some o→X (acc.length+j)=true→∀e∈o.after.toList,Region.binds .any e=true→X e.on=true)→
 ∀j k,X j=true→((sD l acc).getD j 0).testBit k=true→X k=true
 |[],_,h,_=>h
 |
  o::l,acc,h,hc=>by
  refine yW l _ ?_ ?_
  ·intro j k hj hk
   rw[List.getD_eq_getElem?_getD,List.getElem?_append] at hk
   split at hk
   ·rw[←List.getD_eq_getElem?_getD] at hk;grind
   ·by_cases e:j=acc.length
    ·subst e
     simp at hk
     exact wG h o.after.toList 0 (hc 0 o rfl (by grind)) (fun k hk=>by grind) k hk
    grind
  ·intro j o' ho hx
   exact hc (j+1) o' (by grind) (by grind)
def dZ:List Nat→List Nat→Bool
 |[],_=>false
 |x::l,m=>cq x m||dZ l m
theorem mY{d:Nat}:∀{l:List Nat},d∈l→cq d l=true
 |
  x::l,h=>by
  simp only[cq,fK]
  cases h with
  |head=>exact Or.inl (Nat.beq_refl d)
  |tail _ h=>exact Or.inr (mY h)
theorem qG{d:Nat}:∀{l m:List Nat},d∈l→d∈m→dZ l m=true
 |
  x::l,m,h,hm=>by
  simp only[dZ,fK]
  cases h with
  |head=>exact Or.inl (mY hm)
  |tail _ h=>exact Or.inr (qG h hm)
def aW.wt(f:aW):List Nat:=f.dst.toList
def aW.wb(f:aW):List Nat:=wrote f.hw++f.fr
def wH(f g:aW):Bool:=
 dZ f.wt (g.rt++g.wt)||dZ f.rt g.wt||dZ f.wb (g.rb++g.wb)||dZ f.rb g.wb||dZ f.fr g.Lz
def isLt(lt:Option (List Nat×Nat))(i j:Nat):Bool:=match lt with
 |some (a,b)=>cq i a&&Nat.beq j b
 |none=>false
def mZ(lt:Option (List Nat×Nat))(masks j:Nat)(g:aW):Nat→List aW→Bool
 |_,[]=>true
 |i,f::fs=>(!wH f g||masks.testBit i||isLt lt i j)&& !dZ g.fr (f.Lz++wrote f.hw)&&mZ lt masks j g (i+1) fs
def qH(lt:Option (List Nat×Nat))(masks:List Nat)(all:List aW):Nat→List aW→Bool
 |_,[]=>true
 |j,g::fs=>mZ lt (masks.getD j 0) j g 0 (all.take j)&&qH lt masks all (j+1) fs
def Ud(lt:Option (List Nat×Nat))(fs:List aW):Bool:=match lt with
 |none=>true
 |
  some (l,j)=>l.all fun i=>Nat.blt i j&&match fs[i]?,fs[j]? with
  |some f,some g=>f.hw.isEmpty&&f.fr.isEmpty&& !dZ f.wt f.rt&& !dZ f.wt (g.rt++g.wt)&& !dZ f.rt g.wt&&((fs.take j).drop (i+1)).all fun h=> !dZ f.rt h.wt&& !dZ f.rb h.wb
  |_,_=>false
variable{lt:Option (List Nat×Nat)}
theorem tM{m j:Nat}{g:aW}:∀{fs:List aW}{i:Nat},mZ lt m j g i fs=true→∀k f,fs[k]? =some f→(wH f g=true→m.testBit (i+k)=true∨isLt lt (i+k) j=true)∧dZ g.fr (f.Lz++wrote f.hw)=false
 |[],_,_,k,f,h=>by simp at h
 |
  f0::fs,i,h,k,f,hk=>by
  simp only[mZ,bj,fK,gZ] at h
  cases k with
  |zero=>grind
  |succ k=>have:=tM h.2 k f (by grind);grind
theorem tN{masks:List Nat}{all:List aW}:∀{fs:List aW}{j:Nat},qH lt masks all j fs=true→∀k g,fs[k]? =some g→mZ lt (masks.getD (j+k) 0) (j+k) g 0 (all.take (j+k))=true
 |[],_,_,k,g,h=>by simp at h
 |
  g0::fs,j,h,k,g,hk=>by
  simp only[qH,bj] at h
  cases k with
  |zero=>grind
  |succ k=>have:=tN h.2 k g (by grind);grind
def yX(ops:List Oper):Nat→Bool:=fun j=>match ops[j]? with
 |some o=>o.after.toList.all fun e=> !Region.binds .any e||Nat.blt e.on j
 |none=>true
def mf(lt:Option (List Nat×Nat))(ops:Array Oper)(fs:List aW):Bool:=
 Nat.beq fs.length ops.size&&(qH lt (sD ops.toList []) fs 0 fs&&Ud lt fs)&&(List.range ops.size).all (yX ops.toList)
theorem bW.nth:∀{fs:List aW}{i:Nat}{σ σ':St},bW OK i fs σ σ'→∀(k:Nat)(f:aW),fs[k]? =some f→OK (i+k) f (cw (fun x=>decide (x<i+k)) i fs σ)
 |[],_,_,_,_,k,f,h=>by simp at h
 |
  g::fs,i,σ,σ',⟨h1,h2,h3⟩,k,f,hk=>by
  cases k with
  |
   zero=>
   simp at hk;subst hk
   rw[cw]
   simp only[Nat.add_zero,Nat.lt_irrefl,decide_false,eM,dB]
   have hid:∀(fs:List aW)(j:Nat)(σ:St),i<j→cw (fun x=>decide (x<i)) j fs σ=σ:=by
    intro fs
    induction fs with
    |nil=>intro j σ _;rfl
    |cons f fs ih=>intro j σ hj;rw[cw,aC (by grind)];grind
   grind
  |
   succ k=>
   have:=bW.nth h3 k f (by grind)
   rw[cw,aA (by simp)]
   grind
theorem bW.last:∀{fs:List aW}{i:Nat}{σ σ':St},bW OK i fs σ σ'→∀{X:Nat→Bool},(∀k,i≤k→k<i+fs.length→X k=true)→σ'=cw X i fs σ
 |[],_,_,_,h,_,_=>h
 |
  f::fs,i,σ,σ',⟨_,_,h⟩,X,hX=>by
  rw[cw,aA (hX i (dP _) (by simp))]
  exact bW.last h (fun k h1 h2=>hX k (by omega) (by simp;omega))
theorem cG{l m:List Nat}(h:dZ l m=false){d:Nat}(hd:d∈l):d∉m:=fun hm=>by
 rw[qG hd hm] at h;cases h
section
variable{ops:Array Oper} {fs:List aW} {σ:St}
set_option maxHeartbeats 4000000 in
theorem Fe{lt:Option (List Nat×Nat)}(fT:mf lt ops fs=true)(hfr:∀(k:Nat)(f:aW),fs[k]? =some f→∀d∈f.fr,σ.fresh d)
 {X:Nat→Bool} (hX:∀j o,ops[j]? =some o→X j=true→∀e∈o.after.toList,Region.binds .any e=true→X e.on=true)
 {i:Nat} {o:Oper} (ho:ops[i]? =some o) (hi:X i=false) (hpre:∀e∈o.after.toList,Region.binds .any e=true→X e.on=true) {f:aW} (hf:fs[i]? =some f):
 (iW (cw (fun x=>decide (x<i)) 0 fs σ) (cw X 0 fs σ) f.rt f.rb∨∃l j,lt=some (l,j)∧i∈l∧iW (cw (fun x=>decide (x<j+1)) 0 fs σ) (cw X 0 fs σ) f.rt f.rb)∧(∀d∈f.fr,(cw X 0 fs σ).fresh d)∧(cw X 0 fs σ).app f=cw (fun x=>X x||x==i) 0 fs σ:=by
 simp only[mf,bj] at fT
 obtain⟨⟨hlen,hconf,hlt⟩,hedge⟩:=fT
 have hmask:∀(Y:Nat→Bool),(∀j o,ops[j]? =some o→Y j=true→∀e∈o.after.toList,Region.binds .any e=true→Y e.on=true)→∀j k,Y j=true→((sD ops.toList []).getD j 0).testBit k=true→Y k=true:=by
  intro Y hY
  refine yW ops.toList [] (fun j k _ hk=>by simp at hk) ?_<;>grind
 have hn:∀{x:Nat}{l:List Nat},cq x l=true→x∈l:=by
  intro x l
  induction l with
  |nil=>intro h;cases h
  |cons y l ih=>intro h;simp only[cq,fK] at h;rcases h with h|h;exact(bM h)▸cm ..;exact dj _ (ih h)
 have isL:∀{a b:Nat},isLt lt a b=true→∃l,lt=some (l,b)∧a∈l:=by
  intro a b h
  unfold isLt at h
  split at h
  ·simp only[bj] at h;rw[bM h.2];exact⟨_,rfl,hn h.1⟩
  ·cases h
 have pair:∀(k j:Nat)(g h:aW),k<j→fs[k]? =some g→fs[j]? =some h→(wH g h=true→((sD ops.toList []).getD j 0).testBit k=true∨∃l,lt=some (l,j)∧k∈l)∧dZ h.fr (g.Lz++wrote g.hw)=false:=by
  intro k j g h hkj hg hh
  have:=tN hconf j h hh
  have:=tM this k g (by grind)
  grind
 have cf:∀{g h:aW},wH g h=false→((∀t,g.dst=some t→t∉h.rt∧h.dst≠some t)∧(∀t,h.dst=some t→t∉g.rt)∧(∀b∈g.wb,b∉h.rb∧b∉h.wb)∧(∀b∈g.fr,b∉h.Lz))∧(∀b∈h.wb,b∉g.rb):=by
  intro g h hc
  simp only[wH,Bool.or_eq_false_iff] at hc
  obtain⟨⟨⟨⟨h1,h2⟩,h3⟩,h4⟩,h5⟩:=hc
  refine⟨⟨?_,?_,?_,fun b hb=>cG h5 hb⟩,fun b hb hm=>cG h4 hm hb⟩
  ·intro t ht
   have:=cG h1 (d:=t) (by simp[aW.wt,ht])
   simp only[jb,not_or,aW.wt,Option.mem_toList] at this
   grind
  ·intro t ht hm
   exact cG h2 hm (by simp[aW.wt,ht])
  ·intro b hb
   have:=cG h3 hb
   grind
 have lat:∀{l:List Nat}{a b:Nat}{g h:aW},lt=some (l,b)→a∈l→fs[a]? =some g→fs[b]? =some h→a<b∧g.hw= []∧(∀t,g.dst=some t→t∉g.rt)∧((∀t,g.dst=some t→t∉h.rt∧h.dst≠some t)∧(∀t,h.dst=some t→t∉g.rt)∧(∀b∈g.wb,b∉h.rb∧b∉h.wb)∧(∀b∈g.fr,b∉h.Lz))∧∀k x,a<k→k<b→fs[k]? =some x→(∀t,x.dst=some t→t∉g.rt)∧∀b∈x.wb,b∉g.rb:=by
  intro l a b g h e hal hg hh
  subst e
  have hlt:=hlt
  simp only[Ud,j6] at hlt
  have hlt:=hlt a hal
  simp only[hg,hh,bj,List.isEmpty_iff,gZ,j6] at hlt
  obtain⟨h0,⟨⟨⟨⟨h1,h2⟩,h3⟩,h4⟩,h5⟩,h6⟩:=hlt
  have hab:a<b:=by simp[Nat.blt] at h0;omega
  refine⟨hab,h1,fun t ht=>cG h3 (by simp[aW.wt,ht]),⟨fun t ht=>?_,fun t ht hm=>cG h5 hm (by simp[aW.wt,ht]),?_,?_⟩,fun k x k1 k2 hx=>?_⟩
  ·have:=cG h4 (d:=t) (by simp[aW.wt,ht])
   simp only[jb,not_or,aW.wt,Option.mem_toList] at this
   grind
  ·intro b hb;simp[aW.wb,h1,h2,wrote] at hb
  ·intro b hb;rw[h2] at hb;cases hb
  ·have h6:=h6 x (by
    rw[List.mem_iff_getElem?]
    exact⟨k -(a+1),by rw[List.getElem?_drop,List.getElem?_take,aA (by omega),show a+1+(k -(a+1))=k by omega];exact hx⟩)
   exact⟨fun t ht hm=>cG h6.1 hm (by simp[aW.wt,ht]),fun b hb hm=>cG h6.2 hm hb⟩
 have early:∀(k:Nat)(g:aW),fs[k]? =some g→k<i→X k=false→((∀t,g.dst=some t→t∉f.rt∧f.dst≠some t)∧(∀t,f.dst=some t→t∉g.rt)∧(∀b∈g.wb,b∉f.rb∧b∉f.wb)∧(∀b∈g.fr,b∉f.Lz)):=by
  intro k g hg hki hXk
  cases hcf:wH g f with
  |false=>exact(cf hcf).1
  |
   true=>
   rcases(pair k i g f hki hg hf).1 hcf with hm|hl
   ·have:=hmask (fun x=>X x||x==i) (by
     grind) i k (by simp) hm
    grind
   ·obtain⟨l,hl,hm⟩:=hl
    exact(lat hl hm hg hf).2.2.2.1
 have late:∀(k:Nat)(g:aW),fs[k]? =some g→i<k→X k=true→((∀t,f.dst=some t→t∉g.rt∧g.dst≠some t)∧(∀t,g.dst=some t→t∉f.rt)∧(∀b∈f.wb,b∉g.rb∧b∉g.wb)∧(∀b∈f.fr,b∉g.Lz))∧((∀b∈g.wb,b∉f.rb)∨∃l,lt=some (l,k)∧i∈l):=by
  intro k g hg hki hXk
  cases hcf:wH f g with
  |false=>exact⟨(cf hcf).1,Or.inl (cf hcf).2⟩
  |
   true=>
   rcases(pair i k f g hki hf hg).1 hcf with hm|hl
   ·have:=hmask X hX k i hXk hm
    grind
   ·obtain⟨l,hl,hm⟩:=hl
    exact⟨(lat hl hm hf hg).2.2.2.1,Or.inr ⟨l,hl,hm⟩⟩
 refine⟨?_,?_,?_⟩
 ·by_cases hj:∃l j,lt=some (l,j)∧i∈l∧X j=true
  ·obtain⟨lj,j,hj,hij,hXj⟩:=hj
   obtain⟨g,hg⟩:∃g,fs[j]? =some g:=by
    have h:=hlt
    rw[hj] at h
    simp only[Ud,j6] at h
    have h:=h i hij
    simp only[bj] at h
    split at h
    ·rename_i h2;exact⟨_,h2⟩
    ·cases h.2
   obtain⟨l1,l2,l3,_,l5⟩:=lat hj hij hf hg
   refine Or.inr ⟨lj,j,hj,hij,?_,?_,?_,?_⟩
   ·rw[nU,nU]
   ·rw[nV,nV]
   ·intro t ht
    refine qC rfl rfl (fun k g hg hne=>?_)
    simp only[eN] at hne
    intro hd
    rcases Nat.lt_trichotomy k i with h|h|h
    ·grind
    ·grind
    ·by_cases hk:X k=true
     ·exact(late k g hg h hk).1.2.1 t hd ht
     ·have hkj:k<j:=by grind
      exact(l5 k g h hkj hg).1 t hd ht
   ·intro b hb
    refine qD rfl rfl (fun k g hg hne=>?_)
    simp only[eN] at hne
    intro hd
    rcases Nat.lt_trichotomy k i with h|h|h
    ·have hXk:X k=false:=by
      grind
     exact((early k g hg h hXk).2.2.1 b (by simp[aW.wb,hd])).1 hb
    ·subst h
     rw[hf] at hg
     cases hg
     rw[l2] at hd
     cases hd
    ·by_cases hk:X k=true
     ·rcases(late k g hg h hk).2 with h2|⟨_,h2,_⟩
      ·exact h2 b (by simp[aW.wb,hd]) hb
      ·rw[hj] at h2
       cases h2
       simp[hk] at hne
     ·have hkj:k<j:=by grind
      exact(l5 k g h hkj hg).2 b (by simp[aW.wb,hd]) hb
  ·refine Or.inl ⟨?_,?_,?_,?_⟩
   ·rw[nU,nU]
   ·rw[nV,nV]
   ·intro t ht
    refine qC rfl rfl (fun k g hg hne=>?_)
    simp only[eN] at hne
    intro hd
    rcases Nat.lt_trichotomy k i with h|h|h
    ·grind
    ·grind
    grind
   ·intro b hb
    refine qD rfl rfl (fun k g hg hne=>?_)
    simp only[eN] at hne
    intro hd
    rcases Nat.lt_trichotomy k i with h|h|h
    ·have hXk:X k=false:=by
      grind
     exact((early k g hg h hXk).2.2.1 b (by simp[aW.wb,hd])).1 hb
    ·grind
    ·have hXk:X k=true:=by
      grind
     rcases(late k g hg h hXk).2 with h2|⟨l,h2,h3⟩
     ·exact h2 b (by simp[aW.wb,hd]) hb
     ·exact hj ⟨l,k,h2,h3,hXk⟩
 ·intro d hd
  refine wE (hfr i f hf d hd) (fun k g hg hx=>?_)
  simp only[eN] at hx
  rcases Nat.lt_trichotomy k i with h|h|h
  ·have hp:=pair k i g f h hg hf
   have:=cG hp.2 hd
   grind
  ·grind
  ·have:=(late k g hg h hx).1
   refine⟨fun hm=>this.2.2.2 d hd hm,fun hw=>(this.2.2.1 d (by simp[aW.wb,hd])).2 (by simp[aW.wb,hw])⟩
 ·have hlt:i<fs.length:=(List.getElem?_eq_some_iff.1 hf).1
  have tmEq:∀t:Nat,((cw X 0 fs σ).app f).tm[t]? =(cw (fun x=>X x||x==i) 0 fs σ).tm[t]? :=by
   intro t
   by_cases hd:f.dst=some t
   ·symm
    refine qE hd (j:=i) (by rw[nU]) hf (by simp) (fun k g hg hik hxk=>?_)<;>grind
   ·rw[ij hd]
    refine qC rfl rfl (fun k g hg hne=>?_)
    simp only[eN] at hne
    have:k=i:=by
     grind
    grind
  have hpEq:∀b:Nat,((cw X 0 fs σ).app f).hp[b]? =(cw (fun x=>X x||x==i) 0 fs σ).hp[b]? :=by
   intro b
   by_cases hd:b∈wrote f.hw
   ·symm
    refine qF hd (j:=i) (by rw[nV]) hf (by simp) (fun k g hg hik hxk=>?_)
    simp only[eN,fK,beq_iff_eq] at hxk
    have hXk:X k=true:=hxk.resolve_right (by omega)
    intro hw
    exact((late k g hg hik hXk).1.2.2.1 b (by simp[aW.wb,hd])).2 (by simp[aW.wb,hw])
   ·rw[ig,eA hd]
    refine qD rfl rfl (fun k g hg hne=>?_)
    simp only[eN] at hne
    have:k=i:=by
     grind
    grind
  have e1:=List.ext_getElem? tmEq
  have e2:=List.ext_getElem? hpEq
  have e3:((cw X 0 fs σ).app f).df=(cw (fun x=>X x||x==i) 0 fs σ).df:=by rw[wC,AG,AG]
  cases h1:(cw X 0 fs σ).app f
  cases h2:cw (fun x=>X x||x==i) 0 fs σ<;>grind
end
def jJ(l:Array Bool):Nat:=(l.toList.filter (·==false)).length
theorem oS:∀(m:List Bool)(i:Nat),m[i]? =some false→((m.set i true).filter (·==false)).length+1=(m.filter (·==false)).length
 |[],_,h=>by simp at h
 |x::m,0,h=>by grind
 |
  x::m,i+1,h=>by
  have:=oS m i (by simpa using h)
  simp only[List.set_cons_succ,wa]
  cases x<;>simp<;>simpa using this
theorem AH{l:Array Bool}{i:Nat}(h:l.getD i true=false):jJ (l.setIfInBounds i true)+1=jJ l:=by
 have hi:i<l.size:=by
  grind
 have hv:l[i]? =some false:=by
  simp_all
 unfold jJ
 rw[Array.toList_setIfInBounds]
 exact oS _ i (by grind)
theorem yd{l:Array Bool}(h:jJ l=0){i:Nat}(hi:i<l.size):l.getD i false=true:=by
 unfold jJ at h
 rw[List.length_eq_zero_iff,List.filter_eq_nil_iff] at h
 have:=h l[i] (by simp)
 simp_all
theorem Di{gl:Ctx}{w0:World}(hi:∀f∈fs,inW DS WB f)(fT:mf lt ops fs=true)(hL:∀l i j f,lt=some (l,j)→i∈l→fs[i]? =some f→N1 P gl ops Q (xZ gl DS WB σ0 E0 w0) i f (cw (fun x=>decide (x<j+1)) 0 fs σ))(hc:bW (N1 P gl ops Q (xZ gl DS WB σ0 E0 w0)) 0 fs σ σ')(hfr:∀(k:Nat)(f:aW),fs[k]? =some f→∀d∈f.fr,σ.fresh d)
 (hq:∀E' a' w',bQ gl σ' E' a' w'→xZ gl DS WB σ0 E0 w0 σ' E' w'→Q .normal a' w'):
 ∀(fuel:Nat)(listed:Array Bool),listed.size=ops.size→jJ listed≤fuel→
  (∀j o,ops[j]? =some o→listed.getD j false=true→∀e∈o.after.toList,Region.binds .any e=true→listed.getD e.on false=true)→
  ∀{E:Env}{a:Act}{w:World},bQ gl (cw (fun x=>listed.getD x false) 0 fs σ) E a w→xZ gl DS WB σ0 E0 w0 (cw (fun x=>listed.getD x false) 0 fs σ) E w→wpAnyIn (Wd gl) 0 P .any ops Q fuel listed a w:=by
 have hlen:fs.length=ops.size:=by
  simp_all[mf]
 have hedge:∀j o,ops[j]? =some o→∀e∈o.after.toList,Region.binds .any e=true→e.on<j:=by
  intro j o ho e he hb
  simp only[mf,bj,j6,List.mem_range] at fT
  have hj:j<ops.size:=(Array.getElem?_eq_some_iff.1 ho).1
  have:=fT.2 j hj
  unfold yX at this
  rw[show ops.toList[j]? =some o from by grind] at this
  simp only[j6] at this
  have:=this e he
  simp_all
 have done:∀listed:Array Bool,listed.size=ops.size→Region.ready .any ops listed= []→∀k,k<ops.size→listed.getD k false=true:=by
  intro listed hs hr
  have key:∀n k,k<n→k<ops.size→listed.getD k false=true:=by
   intro n
   induction n with
   |zero=>grind
   |
    succ n ih=>
    intro k hk hks
    cases hl:listed.getD k false with
    |true=>rfl
    |
     false=>
     exfalso
     have hm:k∈Region.ready .any ops listed:=by
      rw[mem_ready]
      refine⟨?_,ops[k],by simp[hks],?_⟩<;>grind
     grind
  grind
 have fin:∀listed:Array Bool,listed.size=ops.size→Region.ready .any ops listed= []→σ'=cw (fun x=>listed.getD x false) 0 fs σ:=by
  intro listed hs hr
  exact hc.last (fun k _ hk=>done listed hs hr k (by omega))
 intro fuel
 induction fuel with
 |
  zero=>
  intro listed hs hu hcl E a w hg hv
  have am7:∀k,k<ops.size→listed.getD k false=true:=fun k hk=>yd (by omega) (by omega)
  have hr:Region.ready .any ops listed= []:=by
   rw[List.eq_nil_iff_forall_not_mem]
   grind [mem_ready]
  refine⟨hr,?_⟩<;>grind
 |
  succ fuel ih=>
  intro listed hs hu hcl E a w hg hv
  refine⟨fun hr=>?_,fun i hi=>?_⟩
  ·grind
  ·rw[mem_ready] at hi
   obtain⟨h1,o,h2,h3⟩:=hi
   have hlt:i<ops.size:=(Array.getElem?_eq_some_iff.1 h2).1
   have hif:listed.getD i false=false:=by grind
   obtain⟨f,hf⟩:∃f,fs[i]? =some f:=⟨fs[i]'(by omega),by grind⟩
   obtain⟨hA,hF,hR⟩:=Fe fT hfr (X:=fun x=>listed.getD x false) hcl h2 hif (fun e he hb=>h3 e (by grind) hb) hf
   have hop:=hc.nth i f hf
   simp only[eN] at hop
   obtain⟨σ9,hop,hA⟩:∃σ9,N1 P gl ops Q (xZ gl DS WB σ0 E0 w0) i f σ9∧iW σ9 (cw (fun x=>listed.getD x false) 0 fs σ) f.rt f.rb:=hA.elim (fun h=>⟨_,hop,h⟩) fun⟨l,j,hj,hm,h⟩=>⟨_,hL l i j f hj hm hf,h⟩
   refine hop _ hA hF E a w hg hv _ ?_
   intro E' a' w' hg' hx
   have hv':=hv.app (hi f (kL hf)) hx
   have aS:∀x,(listed.getD x false||x==i)=(listed.setIfInBounds i true).getD x false:=by
    intro x
    by_cases e:x=i
    ·subst e;simp[hs,hlt]
    ·rw[getD_set_ne false (fun h=>e h.symm)];simp[e]
   have hfun:(fun x=>listed.getD x false||x==i)=fun x=>(listed.setIfInBounds i true).getD x false:=funext aS
   rw[hR,hfun] at hg' hv'
   refine ih (listed.setIfInBounds i true) (by simp[hs]) (by have:=AH h1;omega) ?_ hg' hv'<;>grind
def iX(σ:St)(fs:List aW):Bool:=fs.all fun f=>f.fr.all fun d=>σ.fA d
theorem bQ.drew{gl:Ctx}{a:Act}(h:bQ gl σ E a w):bQ gl σ E a {w with drawn:=w.drawn+1}∧Ext gl.md (bx σ.hp E) E w (bx σ.hp E) E {w with drawn:=w.drawn+1}:=by
 have kp:bE E w E {w with drawn:=w.drawn+1}:=⟨fun _ _=>rfl,fun _ h=>h⟩
 refine⟨h.carry (hp:=σ.hp) kp (fun _ _=>⟨rfl,rfl,rfl⟩) ⟨fun b k hb=>RB.mono kp (fun _ _=>⟨rfl,rfl,rfl⟩) (fun _ _=>rfl) (fun _ _ h=>h) (h.hw.cQ b k hb),h.hw.ew,h.hw.dC,h.hw.slt,h.hw.gJ kp,h.hw.uu⟩,⟨rfl,Tp.s rfl rfl,rfl,dP _,fun _ _ _=>rfl,fun _ h=>h,fun _ h=>Or.inl h,fun _ h=>Or.inl h,fun _ _=>⟨rfl,rfl,rfl⟩⟩⟩<;>grind
theorem tO{G:bN}(T:bA P G){gl:Ctx}{a:Act}(fT:mf lt ops fs=true)(hfr:iX σ fs=true)(hL:∀l i j f,lt=some (l,j)→i∈l→fs[i]? =some f→N1 P gl ops Q (xZ gl (dstsOf fs) (ky fs) σ E w) i f (cw (fun x=>decide (x<j+1)) 0 fs σ))(hc:bW (N1 P gl ops Q (xZ gl (dstsOf fs) (ky fs) σ E w)) 0 fs σ σ')(hg:bQ gl σ E a w)
 (hq:∀E' a' w',bQ gl σ' E' a' w'→xZ gl (dstsOf fs) (ky fs) σ E w σ' E' w'→Q .normal a' w'):(Code.region id ops true).wpIn (Wd gl) 0 P Q a w:=by
 refine wpIn_region_any T.Ub ?_
 have hfr':∀(k:Nat)(f:aW),fs[k]? =some f→∀d∈f.fr,σ.fresh d:=by
  grind [iX,St.dR]
 obtain⟨hg',hx'⟩:=hg.drew
 have hid:∀(fs:List aW)(i:Nat)(σ:St),cw (fun x=>(Array.replicate ops.size false).getD x false) i fs σ=σ:=by
  intro fs
  induction fs with
  |nil=>intro i σ;rfl
  |
   cons f fs ih=>
   intro i σ
   rw[cw]
   have:(Array.replicate ops.size false).getD i false=false:=by
    rcases Nat.lt_or_ge i ops.size with h|h<;>simp[h]
   grind
 refine Di Ly fT hL hc hfr' hq ops.size _ (by simp) ?_ ?_ (E:=E) (by grind) (by rw[hid];exact⟨rfl,rfl,rfl,fun _ _=>rfl,fun _ _=>rfl,hx'⟩)
 ·unfold jJ;simp
 ·intro j o ho hj
  have:(Array.replicate ops.size false).getD j false=false:=by
   rcases Nat.lt_or_ge j ops.size with h|h<;>simp[h]
  grind
theorem Ff{G:bN}(T:bA P G){gl:Ctx}(fT:mf lt ops fs=true)(hfr:iX σ fs=true)(hL:∀l i j f,lt=some (l,j)→i∈l→fs[i]? =some f→px P gl ops i f (cw (fun x=>decide (x<j+1)) 0 fs σ))(hc:qB P gl ops 0 fs σ σ'){a:Act}(hg:bQ gl σ E a w)
 (hq:∀E' a' w',bQ gl σ' E' a' w'→Ext gl.md (bx σ.hp E) E w (bx σ'.hp E') E' w'→Q .normal a' w'):(Code.region id ops true).wpIn (Wd gl) 0 P Q a w:=
 tO T fT hfr (fun l i j f h0 h1 h2=>(hL l i j f h0 h1 h2).q) (hc.mono fun _ _ _=>px.q) hg (fun E' a' w' h1 h2=>hq E' a' w' h1 h2.ext)
structure fF where
 v:AV
 hw:List (Nat×Option aO)
 fr:List Nat
 vc:List VC
def fF.one(v:AV):fF:=⟨v,[],[],[]⟩
def fF.N2(x:AV×List VC):fF:=⟨x.1,[],[],x.2⟩
def gtI(b:Int):Int→Bool
 |
  .ofNat n=>match b with
  | .ofNat m=>Nat.blt m n
  | .negSucc _=>true
 |
  .negSucc n=>match b with
  | .ofNat _=>false
  | .negSucc m=>Nat.blt n m
theorem Ue(b a:Int):gtI b a=decide (b<a):=by
 rw[Bool.eq_iff_iff,j5]
 match a,b with
 | .ofNat n,.ofNat m=>exact(show Nat.blt m n=true↔(m:Int)<(n:Int) by rw[Nat.blt_eq];omega)
 | .ofNat n,.negSucc m=>exact(show true=true↔Int.negSucc m<(n:Int) by have:=Int.negSucc_eq m;exact⟨fun _=>by omega,fun _=>rfl⟩)
 | .negSucc n,.ofNat m=>exact(show false=true↔(m:Int)<Int.negSucc n by have:=Int.negSucc_eq n;exact⟨fun h=>(by cases h),fun h=>by omega⟩)
 | .negSucc n,.negSucc m=>exact(show Nat.blt n m=true↔Int.negSucc m<Int.negSucc n by have:=Int.negSucc_eq n;have:=Int.negSucc_eq m;rw[Nat.blt_eq];omega)
def XE:Operand→Bool
 | .const (.int _ c)=>decide (1073741824<c)
 |_=>false
def Fg(P:Program)(t:TypeId)(o:BinOp)(y:Operand)(a b:AV):Option (AV×List VC):=
 match XE y,o with
 |
  true,.gtr=>match a,b with
  | .val (.int k) m,.val (.int k') n=>if Nat.beq (IntKind.code k) (IntKind.code k') then some (.val .bool (gtI n m),[]) else none
  |_,_=>none
 |_,_=>yS P t o a b
theorem tQ{t:TypeId}{o:BinOp}{y:Operand}{a b:AV}{r:AV×List VC}(h:Fg P t o y a b=some r):yS P t o a b=some r:=by
 unfold Fg at h
 split at h
 ·split at h
  ·rw[Ue] at h
   exact h
  ·cases h
 ·exact h
def Uf(op:UnOp):AV→Option AV
 |
  .val .bool b=>match op with
  | .not=>some (.val .bool (!b))
  |_=>none
 |
  .val (.int k) n=>match op with
  | .neg=>some (.val (.int k) (k.wrap (0 -n)))
  | .xor=>some (.val (.int k) (iD .xor k (if k.signed then-1 else k.max) n))
  |_=>none
 |_=>none
def AV.nth:AV→Nat→Option AV
 | .cons a _,0=>some a
 | .cons _ b,n+1=>b.nth n
 |_,_=>none
def AV.Pg:AV→Bool
 | .bot| .opt _ _=>false
 |_=>true
def Jy(P:Program)(G:bN)(d:Nat)(op:Op)(ev:Operand→AV)(hb:Nat→Option aO):Option fF:=
 match op with
 | .move x| .assign x=>if(ev x).Pg then some (.one (ev x)) else none
 | .alloc e=>(G.at e).map fun td=>⟨.ptr d [],[(d,some (.var td.ty td.ty.zero))],[d],[]⟩
 |
  .box e x=>match G.at e with
  |some td=>if(ev x).plain&&(ev x).cp td.ty then some ⟨.ptr d [],[(d,some (.var td.ty (ev x)))],[d],[]⟩ else none
  |none=>none
 | .load t a=>(wq G hb t (ev a)).map .one
 | .store t a x=>if(ev x).plain then(AE G hb t (ev a) (ev x)).map fun y=>⟨.bot,[(y.1,some y.2)],[],[]⟩ else none
 |
  .nilCheck x=>match ev x with
  | .ptr b p=>some (.one (.ptr b p))
  | .cd t y=>some (.one (.cd t y))
  | .iy v=>some (.one (.iy v))
  |_=>none
 | .binOp o t x y _=>(Fg P t o y (ev x) (ev y)).map .N2
 | .unOp o _ x=>(Uf o (ev x)).map .one
 | .fieldAddr t x i=>(fO G hb t i (ev x)).map .one
 | .indexAddr t x i=>(mX G hb t (ev x) (ev i)).map .N2
 |
  .extract x i=>match ev x with
  | .fU l=>(l.nth i).map .one
  |_=>none
 |
  .pick c x y=>match ev c with
  | .val .bool true=>if(ev x).plain then some (.one (ev x)) else none
  | .val .bool false=>if(ev y).plain then some (.one (ev y)) else none
  |_=>none
 | .call {callee:=.builtin .len,args:=⟨[x]⟩,argTypes:=⟨[t]⟩}=>(Lt G hb t (ev x)).map .one
 |_=>none
def tR(op:Op)(ev:Operand→AV):List Nat:=
 match op with
 | .load _ a| .store _ a _| .fieldAddr _ a _| .indexAddr _ a _| .slice _ a _ _ _| .convert _ _ a| .lookup _ a _ _| .mapUpdate _ a _ _| .insert _ a _ _| .mapEntry _ a _| .entryStore _ a _ _| .entry a=>(ev a).ids
 | .call c=>c.operands.toList.flatMap fun x=>(ev x).ids
 |_=>[]
def bS(P:Program)(gl:Ctx)(σ:St)(E:Env)(a:Act)(w:World)(o:Oper)(r:fF):Prop:=
 ∃nx v w' E',(execOp a.eval o).run P w= .ok nx w'∧(nx= .value v∨(nx= .skip∧v=undef))∧bQ gl {σ with hp:=aS σ.hp r.hw} E' a w'∧RV E' w' r.v v∧
  Ext gl.md (bx σ.hp E) E w (bx (aS σ.hp r.hw) E') E' w'
theorem bS.same{gl:Ctx}{a:Act}{o:Oper}{x:AV}{vc:List VC}(h:bQ gl σ E a w){v:Value}(hr:(execOp a.eval o).run P w= .ok (.value v) w)(hv:RV E w x v):bS P gl σ E a w o ⟨x,[],[],vc⟩:=
 ⟨_,v,w,E,hr,Or.inl rfl,h,hv,Ext.refl _ _ _⟩
theorem Ph{op:UnOp}{x r:AV}(hx:RV E w x vx)(h:Uf op x=some r):∃v,(Op.unary op vx).run P w= .ok v w∧RV E w r v:=by
 unfold Uf at h
 split at h
 ·have:=RV.dY hx;subst this
  split at h<;>cases h
  exact⟨_,by simp[Op.unary],RV.bool⟩
 ·obtain⟨rfl,_⟩:=RV.eG hx
  split at h<;>cases h
  ·exact⟨_,by simp[Op.unary,Op.intArith],RV.int (dQ _ _)⟩
  ·exact⟨_,by simp[Op.unary,Op.intBits];rfl,RV.int (dQ _ _)⟩
 ·cases h
theorem bA.intOf{G:bN}(T:bA P G){t:TypeId}(h:G.at t=some td){k:IntKind}(hs:td.ty= .int k):P.underlying t=some (.int k):=by
 obtain⟨ii,d,_,h1,_,h2,_⟩:=T.info h
 have amH:=dm h2
 rw[h1]
 cases hd:d with
 |int k'=>grind [ck,Ty.aB]
 |struct fs=>subst hd;simp only[dr] at amH;rw[hs] at amH;trivial
 |array n e=>subst hd;simp only[dr] at amH;rw[hs] at amH;trivial
 |
  slice e=>
  subst hd
  simp only[ck] at h2
  rw[fK] at h2
  rcases h2 with h2|h2
  ·grind [Ty.aB]
  grind
 |map k e=>subst hd;have:=(jt h2).1;rw[hs] at this;trivial
 |
  _=>
  subst hd
  simp only[ck] at h2
  first
   |(have:=Ty.aB h2;rw[hs] at this;cases this)
   |cases h2
theorem RT.nth:∀{l:AV}{vs:List Value}{i:Nat}{x:AV},RT E w l vs→l.nth i=some x→∃v,vs[i]? =some v∧bZ E w x v:=by
 intro l
 induction l with
 |
  cons a b ih1 ih2=>
  intro vs i x h hn
  cases vs with
  |nil=>exact h.elim
  |
   cons v vs=>
   cases i with
   |zero=>cases hn;exact⟨v,rfl,h.1⟩
   |succ i=>obtain⟨u,h1,h2⟩:=ih2 h.2 hn;exact⟨u,by simpa using h1,h2⟩
 |_=>intro vs i x h hn;trivial
theorem ye{op:BinOp}{t:TypeId}{x y:Operand}{ax ay r:AV}{vc:List VC}(hx:RV E w ax vx)(hy:RV E w ay vy)(h:yS P t op ax ay=some (r,vc)):(eqGuard op t x y vx vy).run P w= .ok () w:=by
 unfold yS at h
 split at h
 ·obtain⟨rfl,_⟩:=RV.eG hx
  obtain⟨rfl,_⟩:=RV.eG hy
  unfold eqGuard;split<;>simp
 ·have:=RV.dY hx;subst this
  have:=RV.dY hy;subst this
  unfold eqGuard;split<;>simp
 ·obtain⟨rfl,_⟩:=RV.ju hx
  obtain⟨rfl,_⟩:=RV.ju hy
  unfold eqGuard;split<;>simp
 ·cases h
theorem LA{G:bN}(T:bA P G){gl:Ctx}{a:Act}(h:bQ gl σ E a w){o:Oper}{d:Nat}{ev:Operand→AV}(hB:HB hb σ.hp){r:fF}
 (hev:∀x∈o.op.operands.toList,RV E w (ev x) (a.eval x)) (hids:∀x∈o.op.operands.toList,∀b∈(ev x).ids,b∈σ.ids) (he:Jy P G d o.op ev hb=some r) (hvc:dD r.vc) (hfr:∀b∈r.fr,σ.fresh b):bS P gl σ E a w o r:=by
 unfold Jy at he
 split at he
 ·rename_i x hop
  split at he
  ·rename_i hp
   cases he
   exact bS.same h (v:=a.eval x) (by simp[execOp,hop]) (hev x (by simp[hop,Op.operands]))
  grind
 ·rename_i x hop
  split at he
  ·rename_i hp
   cases he
   exact bS.same h (v:=a.eval x) (by simp[execOp,hop]) (hev x (by simp[hop,Op.operands]))
  grind
 ·rename_i e hop
  obtain⟨td,htd,rfl⟩:=Option.map_eq_some_iff.1 he
  obtain⟨v,w',E',h1,h2,h3,h4⟩:=Jv T h (hfr d (by simp)) htd (.tuple #[])
  exact⟨_,v,w',E',by simp[execOp,hop,h1],Or.inl rfl,h2,h3,h4⟩
 ·rename_i e x hop
  split at he
  ·rename_i td htd
   split at he
   ·rename_i hc
    cases he
    simp only[bj] at hc
    have hf:=hfr d (by simp)
    obtain⟨v,w',E',h1,h2,h3,h4⟩:=Pf (P:=P) (e:=e) h hf (RV.jq hc.1 (hev x (by simp[hop,Op.operands]))) hc.2 (fun hm=>hf.1 (hids x (by simp[hop,Op.operands]) d hm))
    exact⟨_,v,w',E',by simp[execOp,hop,h1],Or.inl rfl,h2,h3,h4⟩
   grind
  grind
 ·rename_i t x hop
  obtain⟨u,hu,rfl⟩:=Option.map_eq_some_iff.1 he
  obtain⟨v,h1,h2⟩:=sA T h.hw hB (hev x (by simp[hop,Op.operands])) hu
  exact bS.same h (v:=v) (by simp[execOp,hop,h1]) h2
 ·rename_i t x y hop
  split at he
  ·rename_i hp
   obtain⟨⟨b,k⟩,hk,rfl⟩:=Option.map_eq_some_iff.1 he
   obtain⟨w',h1,h2,h3⟩:=Df T h hB (hev x (by simp[hop,Op.operands])) (RV.jq hp (hev y (by simp[hop,Op.operands]))) hk
   exact⟨_,undef,w',E,by simp[execOp,hop,h1],Or.inr ⟨rfl,rfl⟩,h2,trivial,h3⟩
  grind
 ·rename_i x hop
  split at he
  ·rename_i b p hx
   cases he
   have hr:=hev x (by simp[hop,Op.operands])
   rw[hx] at hr
   obtain⟨g,hg,e,_⟩:=RV.atom rfl hr
   simp at e
   exact bS.same h (v:=a.eval x) (by simp[execOp,hop,e]) hr
  ·rename_i t y hx
   cases he
   have hr:=hev x (by simp[hop,Op.operands])
   rw[hx] at hr
   obtain⟨b,o',cs,e,_⟩:=RV.atom rfl hr
   simp at e
   exact bS.same h (v:=a.eval x) (by simp[execOp,hop,e]) hr
  ·rename_i v hx
   cases he
   have hr:=hev x (by simp[hop,Op.operands])
   rw[hx] at hr
   obtain⟨b,o',cs,e,_⟩:=RV.atom rfl hr
   simp at e
   exact bS.same h (v:=a.eval x) (by simp[execOp,hop,e]) hr
  grind
 ·rename_i bo t x y t2 hop
  obtain⟨⟨u,vc⟩,hu,rfl⟩:=Option.map_eq_some_iff.1 he
  obtain⟨v,h1,h2⟩:=Ls (P:=P) (t:=t) (hev x (by simp[hop,Op.operands])) (hev y (by simp[hop,Op.operands])) (tQ hu) hvc
  have hgd:=ye (P:=P) (t:=t) (x:=x) (y:=y) (hev x (by simp[hop,Op.operands])) (hev y (by simp[hop,Op.operands])) (tQ hu)
  exact bS.same h (v:=v) (by simp[execOp,hop,hgd,h1]) h2
 ·rename_i uo t x hop
  obtain⟨u,hu,rfl⟩:=Option.map_eq_some_iff.1 he
  obtain⟨v,h1,h2⟩:=Ph (P:=P) (hev x (by simp[hop,Op.operands])) hu
  exact bS.same h (v:=v) (by simp[execOp,hop,h1]) h2
 ·rename_i t x i hop
  obtain⟨u,hu,rfl⟩:=Option.map_eq_some_iff.1 he
  obtain⟨v,h1,h2⟩:=mV T h.hw hB (hev x (by simp[hop,Op.operands])) hu
  exact bS.same h (v:=v) (by simp[execOp,hop,h1]) h2
 ·rename_i t x i hop
  obtain⟨⟨u,vc⟩,hu,rfl⟩:=Option.map_eq_some_iff.1 he
  obtain⟨v,h1,h2⟩:=wz T h.hw hB (hev x (by simp[hop,Op.operands])) (hev i (by simp[hop,Op.operands])) hu hvc
  exact bS.same h (v:=v) (by simp[execOp,hop,h1]) h2
 ·rename_i x i hop
  split at he
  ·rename_i l hx
   obtain⟨u,hu,rfl⟩:=Option.map_eq_some_iff.1 he
   have hr:=hev x (by simp[hop,Op.operands])
   rw[hx] at hr
   obtain⟨vs,e,hr⟩:=hr
   obtain⟨v,h1,h2⟩:=RT.nth hr hu
   exact bS.same h (v:=v) (by simp_all[execOp,Instr.extract]) (RV.eS h2)
  grind
 ·rename_i c x y hop
  split at he
  ·rename_i hc
   split at he
   ·cases he
    have hr:=hev c (by simp[hop,Op.operands])
    rw[hc] at hr
    have hb:=RV.dY hr
    exact bS.same h (v:=a.eval x) (by simp[execOp,hop,hb,asBool]) (hev x (by simp[hop,Op.operands]))
   grind
  ·rename_i hc
   split at he
   ·cases he
    have hr:=hev c (by simp[hop,Op.operands])
    rw[hc] at hr
    have hb:=RV.dY hr
    exact bS.same h (v:=a.eval y) (by simp[execOp,hop,hb,asBool]) (hev y (by simp[hop,Op.operands]))
   grind
  grind
 ·rename_i x t hop
  obtain⟨u,hu,rfl⟩:=Option.map_eq_some_iff.1 he
  obtain⟨v,h1,h2⟩:=Lu T (ty:=o.type) h.hw hB (hev x (by simp[hop,Op.operands,Call.operands])) hu
  refine bS.same h (v:=v) ?_ h2
  simp[execOp,hop,resolve,invoke,builtin,h1]
 grind
def wI(P:Program)(gl:Ctx)(σ:St)(E:Env)(a:Act)(w:World)(o:Oper)(r:fF):Prop:=
 ∀(K:Act→World→Prop)(Q:Exit→Act→World→Prop),(∀E' v w',bQ gl {σ with hp:=aS σ.hp r.hw} E' a w'→RV E' w' r.v v→Ext gl.md (bx σ.hp E) E w (bx (aS σ.hp r.hw) E') E' w'→K (a.put o.dst v) w')→o.wpIn (Wd gl) 0 P a w K Q
theorem bS.to{gl:Ctx}{a:Act}{o:Oper}{r:fF}(h:bS P gl σ E a w o r)(hnd:∀c,o.op≠.defer c):wI P gl σ E a w o r:=by
 intro K Q hk
 obtain⟨nx,v,w',E',h1,h2,h3,h4,h5⟩:=h
 unfold Oper.wpIn
 refine⟨fun _ _=>trivial,?_⟩
 rw[Oper.semAt_eq _ _ _ hnd,h1]
 rcases h2 with h2|⟨h2,h2'⟩
 ·subst h2;exact hk E' v w' h3 h4 h5
 ·subst h2;subst h2';exact hk E' undef w' h3 h4 h5
def lz(E:Env)(w:World):List AV→List Value→Prop
 |[],[]=>True
 |x::xs,v::vs=>RV E w x v∧lz E w xs vs
 |_,_=>False
inductive yf where
 |ret (x:AV)
 |kC (x:AV)
def AI(E:Env)(w:World):yf→Ending→Prop
 | .ret x,.returned v=>RV E w x v
 | .kC x,.panicked chain=>∃u,chain= [{v:=u,recovered:=false}]∧bZ E w x u
 |_,_=>False
def AJ(P:Program)(gl:Ctx)(f:FuncId)(args:List AV)(H:List (Option aO))(r:yf)(H':List (Option aO)):Prop:=
 ∀E w vs,lz E w args vs→HW gl E w H→Calls P f vs.toArray w (fun e w'=>∃E',AI E' w' r e∧HW gl E' w' H'∧Ext gl.md (bx H E) E w (bx H' E') E' w')
theorem lz.get:∀{xs:List AV}{vs:List Value},lz E w xs vs→xs.length=vs.length∧∀(i:Nat)(x:AV)(v:Value),xs[i]? =some x→vs[i]? =some v→RV E w x v
 |[],[],_=>⟨rfl,fun i x v h=>by simp at h⟩
 |[],_::_,h=>h.elim
 |_::_,[],h=>h.elim
 |
  x::xs,v::vs,⟨h1,h2⟩=>by
  obtain⟨e,hh⟩:=lz.get h2
  refine⟨by simp[e],?_⟩
  intro i y u hy hu
  cases i with
  |zero=>simp at hy hu;subst hy;subst hu;exact h1
  |succ i=>exact hh i y u (by simpa using hy) (by simpa using hu)
def Fc(P:Program)(gl:Ctx)(f:FuncId)(args:List AV)(H:List (Option aO))(r:yf)(H':List (Option aO)):Prop:=
 (∀vs w,(callFunc f vs).run P w= .ok (.enter f vs) w)∧AJ P gl f args H r H'
def Fy(P:Program)(gl:Ctx)(l:Nat)(args:List AV)(H:List (Option aO))(r:yf)(H':List (Option aO)):Prop:=
 ∀E w vs,lz E w args vs→HW gl E w H→∃fn tmps assign body,(Instr.yield l vs.toArray).run P w= .ok (.round l fn tmps assign body) w∧
  RoundIn Fence.wide 0 P l fn tmps assign body w (fun e w'=>∃E',AI E' w' r e∧HW gl E' w' H'∧Ext gl.md (bx H E) E w (bx H' E') E' w')
def LB(P:Program)(gl:Ctx)(fn:Fn)(args:List AV)(H:List (Option aO))(r:yf)(H':List (Option aO)):Prop:=
 match fn with
 | .func f=>Fc P gl f args H r H'
 | .yield l=>Fy P gl l args H r H'
 |_=>False
def Ug:Fn→AV→AV→Bool
 | .func _,_,_=>true
 | .yield _,.nil,.nil=>true
 |_,_,_=>false
def AV.toList:AV→List AV
 | .cons a b=>a::b.toList
 |_=>[]
def eH(hb:Nat→Option aO)(b:Nat):Option ((_:Nat)×(t:Ty)×List t.den):=
 match hb b with
 |some (.row _ bs t xs)=>some ⟨bs,t,xs⟩
 |_=>none
def oT(hb:Nat→Option aO):AV→Option (AV×List Nat)
 | .val t x=>some (.val t x,[])
 | .cd t x=>some (.cd t x,[])
 | .bn=>some (.bn,[])
 | .eP=>some (.eP,[])
 | .nil=>some (.nil,[])
 |
  .own b=>match eH hb b with
  |some ⟨bs,t,xs⟩=>some (.val (.slice bs t) xs,[b])
  |none=>none
 | .ptr _ _=>some (.dK (.aT .ptr),[])
 |
  .cons a b=>match oT hb a,oT hb b with
  |some (x,l),some (y,m)=>some (.cons x y,l++m)
  |_,_=>none
 |_=>none
def Dj(hb:Nat→Option aO)(b:Nat)(u:AV):Option (AV×List Nat):=
 match oT hb u with
 |some (y,l)=>some (Pc y,b::l)
 |none=>none
def mh(hb:Nat→Option aO)(b:Nat):AV→Option (AV×List Nat)
 |
  .ptr c q=>match hb c with
  |
   some k=>match mT k q with
   |
    some u=>match oT hb u with
    |some (y,l)=>some (.iy (Pc y),b::c::l)
    |none=>none
   |none=>none
  |none=>none
 |u=>Dj hb b u
def view(hb:Nat→Option aO):AV→Bool→Ty→Option (AV×List Nat)
 | .val t x,_,_=>some (.val t x,[])
 | .bn,_,.slice bs t=>some (.val (.slice bs t) [],[])
 |
  .own b,_,_=>match eH hb b with
  |some ⟨bs,t,xs⟩=>some (.val (.slice bs t) xs,[b])
  |none=>none
 |
  .ku b lo len,_,_=>match eH hb b with
  |some ⟨bs,t,xs⟩=>some (.val (.slice bs t) ((xs.drop lo).take len),[b])
  |none=>none
 |
  .ptr b p,_,_=>match hb b with
  |
   some k=>match mT k p,(kP k).sub p with
   |
    some u,some s=>match u.bB s with
    |some y=>some (.cd s y,[b])
    |none=>mh hb b u
   |_,_=>none
  |none=>none
 | .cd t x,_,_=>some (.cd t x,[])
 | .iy v,_,_=>some (.iy v,[])
 |
  .mp b,_,_=>match hb b with
  |some (.map k v es)=>some (.val (.map k v) (some es),[b])
  |_=>none
 |
  .func fn fs cs,_,_=>match view hb fs true .unit,view hb cs true .unit with
  |some (f,l),some (c,m)=>if f.atoms&&c.atoms then some (.func fn f c,l++m) else none
  |_,_=>none
 |
  .cons a b,true,_=>match view hb a false .unit,view hb b true .unit with
  |some (x,l),some (y,m)=>some (.cons x y,l++m)
  |_,_=>none
 |
  .cons a b,false,.pair s t=>match view hb a false s,view hb b false t with
  |some (.val s' x,l),some (.val t' y,m)=>some (.val (.pair s' t') (x,y),l++m)
  |_,_=>none
 | .nil,true,_=>some (.nil,[])
 | .nil,false,_=>some (.val .unit (),[])
 | .eP,_,_=>some (.eP,[])
 | .fv,_,_=>some (.fv,[])
 | .fy f t x,_,_=>some (.fy f t x,[])
 |_,_,_=>none
def Env.cH(E:Env)(l:List Nat):Env:={E with S:=fun g=>E.S g∨∃b∈l,E.g b=some g}
theorem Env.db(l:List Nat):bE E w (E.cH l) w:=⟨fun _ _=>rfl,fun _ h=>Or.inl h⟩
theorem Env.eR{l m:List Nat}(h:∀b∈l,b∈m):bE (E.cH l) w (E.cH m) w:=
 ⟨fun _ _=>rfl,fun _g hg=>hg.imp id (fun⟨b,hb,e⟩=>⟨b,h b hb,e⟩)⟩
theorem bk.drop{r:List Value→α→Prop}{n:Nat}(hn:∀vs x,r vs x→vs.length=n):∀{xs:List α}{vs:List Value}(k:Nat),bk r vs xs→bk r (vs.drop (k*n)) (xs.drop k)
 |xs,vs,0,h=>by grind
 |[],vs,k+1,h=>by simp[bk] at h;subst h;simp[bk]
 |
  x::xs,vs,k+1,⟨v1,v2,e,h1,h2⟩=>by
  subst e
  have:=bk.drop hn k h2
  rw[List.drop_succ_cons,List.drop_append,tK (by grind),List.nil_append,hn _ _ h1]
  grind
theorem bk.take{r:List Value→α→Prop}{n:Nat}(hn:∀vs x,r vs x→vs.length=n):∀{xs:List α}{vs:List Value}(k:Nat),bk r vs xs→bk r (vs.take (k*n)) (xs.take k)
 |xs,vs,0,h=>by simp[bk]
 |[],vs,k+1,h=>by simp[bk] at h;subst h;simp[bk]
 |
  x::xs,vs,k+1,⟨v1,v2,e,h1,h2⟩=>by
  subst e
  have:=bk.take hn k h2
  rw[List.take_succ_cons]
  refine⟨v1,v2.take (k*n),?_,h1,this⟩
  grind [gX]
theorem bk.part{t:Ty}{xs:List t.den}{g o:Nat}(hr:qf w ⟨g,o,none⟩ cs)(h:bk (Rel w S t) cs xs)(lo len:Nat):
 ∃cs',qf w ⟨g,o+lo*t.size,none⟩ cs'∧bk (Rel w S t) cs' ((xs.drop lo).take len):=
 ⟨_,hr.sub (lo*t.size) (len*t.size),bk.take (fun _ _ h=>Rel.len h) len (bk.drop (fun _ _ h=>Rel.len h) lo h)⟩
end Go.Ax
