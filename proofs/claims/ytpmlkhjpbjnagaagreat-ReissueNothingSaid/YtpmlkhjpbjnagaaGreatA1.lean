/- The machines: what it means to be walked or run, part 1. No condition. -/
import Derived.Orders
import Derived.OrdersIn
import Derived.RangeFuncIn
import Derived.Laws.Cells
import Derived.Laws.AppendOwn
import Derived.Laws.Strings
import Derived.Laws.Small
import Derived.Laws.CopyRow
namespace Go.Ax
theorem aL:type_of% @Option.bind_some:=@Option.bind_some
theorem bB:type_of% @Bool.and_eq_true:=@Bool.and_eq_true
theorem bT:type_of% @Nat.eq_of_beq_eq_true:=@Nat.eq_of_beq_eq_true
theorem fN:type_of% @Option.map_eq_some_iff:=@Option.map_eq_some_iff
theorem dk:type_of% @Option.some.injEq:=@Option.some.injEq
theorem jB:type_of% @List.mem_append:=@List.mem_append
theorem pE:type_of% @Array.length_toList:=@Array.length_toList
theorem d7:type_of% @List.mem_cons_of_mem:=@List.mem_cons_of_mem
theorem ep:type_of% @List.length_append:=@List.length_append
theorem dc:type_of% @Nat.le_refl:=@Nat.le_refl
theorem gJ:type_of% @List.take_of_length_le:=@List.take_of_length_le
theorem fI:type_of% @Nat.le_of_ble_eq_true:=@Nat.le_of_ble_eq_true
theorem dE:type_of% @List.mem_cons_self:=@List.mem_cons_self
theorem dr:type_of% @Bool.false_eq_true:=@Bool.false_eq_true
theorem fJ:type_of% @List.mem_cons:=@List.mem_cons
theorem gK:type_of% @Nat.mul_le_mul_right:=@Nat.mul_le_mul_right
theorem gj:type_of% @Nat.add_mul:=@Nat.add_mul
theorem fQ:type_of% @Bool.or_eq_true:=@Bool.or_eq_true
theorem d8:type_of% @List.map_cons:=@List.map_cons
theorem cj:type_of% @List.length_set:=@List.length_set
theorem dV:type_of% @Nat.zero_add:=@Nat.zero_add
theorem lM:type_of% @List.take_append_drop:=@List.take_append_drop
theorem kz:type_of% @List.length_take:=@List.length_take
theorem jC:type_of% @List.length_replicate:=@List.length_replicate
theorem gp:type_of% @List.drop_zero:=@List.drop_zero
theorem dx:type_of% @Int.natCast_nonneg:=@Int.natCast_nonneg
theorem db:type_of% @List.length_singleton:=@List.length_singleton
theorem ew:type_of% @Int.toNat_natCast:=@Int.toNat_natCast
theorem d9:type_of% @List.length_cons:=@List.length_cons
theorem kA:type_of% @List.drop_eq_getElem_cons:=@List.drop_eq_getElem_cons
theorem iP:type_of% @List.mem_append_left:=@List.mem_append_left
theorem jc:type_of% @List.mem_append_right:=@List.mem_append_right
theorem lN:type_of% @List.mem_singleton:=@List.mem_singleton
theorem jd:type_of% @List.getElem_of_mem:=@List.getElem_of_mem
theorem dW:type_of% @List.append_nil:=@List.append_nil
theorem iQ:type_of% @List.getElem_mem:=@List.getElem_mem
theorem lO:type_of% @List.length_nil:=@List.length_nil
theorem cI:type_of% @Nat.le_trans:=@Nat.le_trans
theorem gL:type_of% @Nat.zero_le:=@Nat.zero_le
theorem cS:type_of% @decide_eq_true:=@decide_eq_true
theorem dz:type_of% @decide_eq_false:=@decide_eq_false
theorem gM:type_of% @of_decide_eq_true:=@of_decide_eq_true
theorem mo:type_of% @decide_eq_true_eq:=@decide_eq_true_eq
theorem uD:type_of% @List.length_filter_le:=@List.length_filter_le
theorem im:type_of% @List.length_map:=@List.length_map
theorem je:type_of% @List.mem_of_getElem?:=@List.mem_of_getElem?
theorem dm:type_of% @List.getElem?_set:=@List.getElem?_set
theorem mq:type_of% @List.getElem?_eq_getElem:=@List.getElem?_eq_getElem
theorem sm:type_of% @List.append_assoc:=@List.append_assoc
theorem mr:type_of% @List.nodup_cons:=@List.nodup_cons
theorem oo:type_of% @List.nil_append:=@List.nil_append
theorem gU:type_of% @Prod.mk.injEq:=@Prod.mk.injEq
theorem aA:type_of% @if_pos:=@if_pos
theorem aC:type_of% @if_neg:=@if_neg
theorem iR:type_of% @Option.some.inj:=@Option.some.inj
theorem pF:type_of% @List.getD_eq_getElem?_getD:=@List.getD_eq_getElem?_getD
theorem jU:type_of% @Int.le_refl:=@Int.le_refl
theorem cT:type_of% @if_false:=@if_false
theorem bU:type_of% @if_true:=@if_true
theorem oq:type_of% @List.map_append:=@List.map_append
theorem pI:type_of% @List.filter_cons:=@List.filter_cons
theorem so:type_of% @Option.bind_eq_some_iff:=@Option.bind_eq_some_iff
theorem lP:type_of% @List.all_eq_true:=@List.all_eq_true
theorem uE:type_of% @Bool.false_ne_true:=@Bool.false_ne_true
theorem lQ:type_of% @Array.ext':=@Array.ext'
theorem gV:type_of% @Bool.not_eq_true':=@Bool.not_eq_true'
theorem lR:type_of% @List.drop_drop:=@List.drop_drop
theorem pJ:type_of% @List.drop_of_length_le:=@List.drop_of_length_le
theorem ot:type_of% @Nat.add_sub_cancel_left:=@Nat.add_sub_cancel_left
theorem mu:type_of% @List.drop_take:=@List.drop_take
theorem sq:type_of% @List.take_take:=@List.take_take
theorem pK:type_of% @Nat.min_eq_left:=@Nat.min_eq_left
theorem uF:type_of% @List.getElem?_cons_succ:=@List.getElem?_cons_succ
theorem sr:type_of% @Nat.eq_zero_or_pos:=@Nat.eq_zero_or_pos
end Go.Ax
namespace Go.Ax
inductive gq where
 |ptr|map|func|iface|sl
 deriving DecidableEq
inductive Ty where
 |int (k:IntKind)
 |bool
 |str
 |arr (n:Nat) (t:Ty)
 |slice (bs:Nat) (t:Ty)
 |pair (a b:Ty)
 |unit
 |aS (k:gq)
 |fns (n:Nat)
 |map (k v:Ty)
 deriving DecidableEq
def IntKind.code:IntKind→Nat
 | .i8=>0| .i16=>1| .i32=>2| .i64=>3| .u8=>4| .u16=>5| .u32=>6| .u64=>7
def gq.code:gq→Nat
 | .ptr=>0| .map=>1| .func=>2| .iface=>3| .sl=>4
theorem IntKind.iS{a b:IntKind}(h:IntKind.code a=IntKind.code b):a=b:=by
 cases a<;>cases b<;>first|rfl|trivial
theorem gq.iS{a b:gq}(h:gq.code a=gq.code b):a=b:=by
 cases a<;>cases b<;>first|rfl|trivial
def Ty.same:Ty→Ty→Bool
 | .int k,.int k'=>Nat.beq (IntKind.code k) (IntKind.code k')
 | .bool,.bool=>true
 | .str,.str=>true
 | .arr n t,.arr n' t'=>Nat.beq n n'&&Ty.same t t'
 | .slice n t,.slice n' t'=>Nat.beq n n'&&Ty.same t t'
 | .pair a b,.pair a' b'=>Ty.same a a'&&Ty.same b b'
 | .unit,.unit=>true
 | .aS k,.aS k'=>Nat.beq (gq.code k) (gq.code k')
 | .fns n,.fns n'=>Nat.beq n n'
 | .map a b,.map a' b'=>Ty.same a a'&&Ty.same b b'
 |_,_=>false
theorem Ty.aB:∀{a b:Ty},Ty.same a b=true→a=b:=by
 intro a
 induction a with
 |int k=>intro b h;cases b<;>simp[Ty.same] at h ⊢;exact IntKind.iS h
 |bool=>grind [Ty.same]
 |str=>grind [Ty.same]
 |arr n t ih=>intro b h;cases b<;>simp[Ty.same] at h ⊢;grind
 |slice n t ih=>intro b h;cases b<;>simp[Ty.same] at h ⊢;grind
 |pair x y ih1 ih2=>intro b h;cases b<;>simp[Ty.same] at h ⊢;grind
 |unit=>grind [Ty.same]
 |aS k=>intro b h;cases b<;>simp[Ty.same] at h ⊢;exact gq.iS h
 |fns n=>intro b h;cases b<;>simp[Ty.same] at h ⊢;exact h
 |map x y ih1 ih2=>intro b h;cases b<;>simp[Ty.same] at h ⊢;grind
theorem Ty.di(a:Ty):Ty.same a a=true:=by
 induction a<;>simp_all[Ty.same]
@[reducible] def Ty.den:Ty→Type
 | .int _=>Int
 | .bool=>Bool
 | .str=>List UInt8
 | .arr _ t=>List t.den
 | .slice _ t=>List t.den
 | .pair a b=>a.den×b.den
 | .unit=>Unit
 | .aS _=>Unit
 | .fns _=>List (Option Nat)
 | .map k v=>Option (List (k.den×v.den))
def Ty.size:Ty→Nat
 | .arr n t=>n*t.size
 | .pair a b=>a.size+b.size
 | .unit=>0
 | .fns n=>n
 |_=>1
def Ty.isAgg:Ty→Bool
 | .arr _ _| .pair _ _| .unit| .fns _=>true
 |_=>false
def Ty.aD:(t:Ty)→t.den
 | .int _=>(0:Int)
 | .bool=>false
 | .str=>([]:List UInt8)
 | .arr n t=>List.replicate n t.aD
 | .slice _ _=>[]
 | .pair a b=>(a.aD,b.aD)
 | .unit=>()
 | .aS _=>()
 | .fns n=>List.replicate n none
 | .map _ _=>none
def Ty.flat:Ty→Bool
 | .int _| .bool| .str| .unit=>true
 | .arr _ t=>t.flat
 | .pair a b=>a.flat&&b.flat
 |_=>false
def aG:Nat:=140737488355328
def px(w:World)(a:Addr)(cs:List Value):Prop:=∀j v,cs[j]? =some v→w.cell? (a.add j)=some v
def aY{α:Type}(r:List Value→α→Prop):List Value→List α→Prop
 |vs,[]=>vs= []
 |vs,x::xs=>∃v1 v2,vs=v1++v2∧r v1 x∧aY r v2 xs
def jR{α β:Type}(r:Value→α→Prop)(s:Value→β→Prop):List MapEntry→List (α×β)→Prop
 |[],[]=>True
 |e::es,x::xs=>r e.key x.1∧s e.val x.2∧jR r s es xs
 |_,_=>False
theorem jR.mono{α β:Type}{r r':Value→α→Prop}{s s':Value→β→Prop}(h:∀v x,r v x→r' v x)(k:∀v x,s v x→s' v x):∀{es:List MapEntry}{xs:List (α×β)},jR r s es xs→jR r' s' es xs
 |[],[],_=>trivial
 |[],_::_,g=>g.elim
 |_::_,[],g=>g.elim
 |_::_,_::_,⟨g1,g2,g3⟩=>⟨h _ _ g1,k _ _ g2,jR.mono h k g3⟩
theorem jR.len{α β:Type}{r:Value→α→Prop}{s:Value→β→Prop}:∀{es:List MapEntry}{xs:List (α×β)},jR r s es xs→es.length=xs.length
 |[],[],_=>rfl
 |[],_::_,g=>g.elim
 |_::_,[],g=>g.elim
 |_::es,_::xs,⟨_,_,g3⟩=>by rw[d9,d9,jR.len g3]
theorem jR.all{α β:Type}{r:Value→α→Prop}{s:Value→β→Prop}{p:α→Prop}{q:β→Prop}(h:∀v x,r v x→p x)(k:∀v x,s v x→q x):∀{es:List MapEntry}{xs:List (α×β)},jR r s es xs→∀x∈xs,p x.1∧q x.2
 |[],[],_,x,hx=>by cases hx
 |[],_::_,g,_,_=>g.elim
 |_::_,[],g,_,_=>g.elim
 |
  _::_,y::ys,⟨g1,g2,g3⟩,x,hx=>by
  cases hx with
  |head=>grind
  |tail _ hx=>exact jR.all h k g3 x hx
def bE{α:Type}:Option (List α)→List α
 |none=>[]
 |some l=>l
def ik(agg:Bool){α:Type}(r:List Value→α→Prop)(v:Value)(x:α):Prop:=(agg=true∧∃cs,v= .agg cs∧r cs.toList x)∨(agg=false∧r [v] x)
theorem ik.mono{agg:Bool}{α:Type}{r r':List Value→α→Prop}(h:∀vs x,r vs x→r' vs x){v:Value}{x:α}(g:ik agg r v x):ik agg r' v x:=by
 rcases g with⟨a,cs,e,g⟩|⟨a,g⟩
 ·exact Or.inl ⟨a,cs,e,h _ _ g⟩
 ·exact Or.inr ⟨a,h _ _ g⟩
theorem ik.all{agg:Bool}{α:Type}{r:List Value→α→Prop}{p:α→Prop}(h:∀vs x,r vs x→p x){v:Value}{x:α}(g:ik agg r v x):p x:=by
 rcases g with⟨a,cs,e,g⟩|⟨a,g⟩<;>grind
def Dj:Option Nat→Value
 |none=>.nilFunc
 |some f=>.func (.func f) #[] #[]
def Rel(w:World)(S:Nat→Prop):(t:Ty)→List Value→t.den→Prop
 | .int k,vs,n=>vs= [.int k n]∧k.min≤n∧n≤k.max
 | .bool,vs,b=>vs= [.bool b]
 | .str,vs,s=>vs= [.string ⟨s.toArray⟩]∧s.length≤aG
 | .arr n t,vs,xs=>xs.length=n∧aY (Rel w S t) vs xs
 | .slice bs t,vs,xs=>∃a cap,vs= [.slice a xs.length cap]∧xs.length≤cap∧xs.length*bs≤aG∧xs.length≤aG∧
  (xs= []∨∃b o cs,a=some ⟨b,o,none⟩∧S b∧px w ⟨b,o,none⟩ cs∧aY (Rel w S t) cs xs)
 | .pair a b,vs,x=>∃v1 v2,vs=v1++v2∧Rel w S a v1 x.1∧Rel w S b v2 x.2
 | .unit,vs,_=>vs= []
 | .aS _,_,_=>False
 | .fns n,vs,xs=>xs.length=n∧vs=xs.map Dj
 | .map k v,vs,x=>∃a,vs= [.map a]∧((x=none∧a=none)∨∃es g en clock,x=some es∧a=some g∧S g∧w.heap[g]? =some (.map en clock)∧
  jR (ik k.isAgg (Rel w S k)) (ik v.isAgg (Rel w S v)) en.toList es∧(es.map (·.1)).Nodup∧es.length≤aG∧(∀x∈en.toList,x.born<clock)∧(en.toList.map (·.born)).Nodup)
def wf:(t:Ty)→t.den→Prop
 | .int k,n=>k.min≤n∧n≤k.max
 | .bool,_=>True
 | .str,s=>List.length s≤aG
 | .arr n t,xs=>List.length xs=n∧∀x∈xs,wf t x
 | .slice bs t,xs=>List.length xs*bs≤aG∧List.length xs≤aG∧∀x∈xs,wf t x
 | .pair a b,x=>wf a x.1∧wf b x.2
 | .unit,_=>True
 | .aS _,_=>False
 | .fns n,xs=>List.length xs=n
 | .map k v,x=>∀es,x=some es→(es.map (·.1)).Nodup∧List.length es≤aG∧∀p∈es,wf k p.1∧wf v p.2
theorem aY.mono{α:Type}{r r':List Value→α→Prop}(h:∀vs x,r vs x→r' vs x):∀{xs:List α}{vs:List Value},aY r vs xs→aY r' vs xs
 |[],_,hh=>hh
 |_::_,_,⟨v1,v2,e,h1,h2⟩=>⟨v1,v2,e,h _ _ h1,aY.mono h h2⟩
theorem aY.all{α:Type}{r:List Value→α→Prop}{p:α→Prop}(h:∀vs x,r vs x→p x):∀{xs:List α}{vs:List Value},aY r vs xs→∀x∈xs,p x
 |[],_,_,x,hx=>by cases hx
 |
  y::ys,_,⟨_,_,_,h1,h2⟩,x,hx=>by
  cases hx with
  |head=>grind
  |tail _ hx=>exact aY.all h h2 x hx
theorem aY.len{α:Type}{r:List Value→α→Prop}{n:Nat}(h:∀vs x,r vs x→vs.length=n):∀{xs:List α}{vs:List Value},aY r vs xs→vs.length=xs.length*n
 |[],_,hh=>by simp[aY] at hh;simp[hh]
 |
  _::xs,_,⟨v1,v2,e,h1,h2⟩=>by
  subst e
  rw[ep,h _ _ h1,aY.len h h2,d9,gj];omega
theorem aY.append{α:Type}{r:List Value→α→Prop}:∀{xs ys:List α}{vs us:List Value},aY r vs xs→aY r us ys→aY r (vs++us) (xs++ys)
 |[],_,_,_,h,k=>by simp[aY] at h;grind
 |
  _::_,_,_,_,⟨v1,v2,e,h1,h2⟩,k=>by
  subst e
  exact⟨v1,v2++_,by simp,h1,aY.append h2 k⟩
theorem aY.get{α:Type}{r:List Value→α→Prop}{n:Nat}(hn:∀vs x,r vs x→vs.length=n)(d:α):∀{xs:List α}{vs:List Value}(i:Nat),aY r vs xs→i<xs.length→r ((vs.drop (i*n)).take n) (xs.getD i d)
 |[],_,i,_,hi=>by grind
 |
  x::xs,_,0,⟨v1,v2,e,h1,_⟩,_=>by
  grind
 |
  x::xs,_,i+1,⟨v1,v2,e,h1,h2⟩,hi=>by
  subst e
  have hl:=hn _ _ h1
  have:=aY.get hn d i h2 (by grind)
  simp_all[List.drop_append,pJ,gj]
theorem aY.set{α:Type}{r:List Value→α→Prop}{n:Nat}(hn:∀vs x,r vs x→vs.length=n){us:List Value}{y:α}(hu:r us y):∀{xs:List α}{vs:List Value}(i:Nat),aY r vs xs→i<xs.length→aY r (vs.take (i*n)++us++vs.drop (i*n+n)) (xs.set i y)
 |[],_,i,_,hi=>by grind
 |
  x::xs,_,0,⟨v1,v2,e,h1,h2⟩,_=>by
  subst e
  have:=hn _ _ h1
  refine⟨us,v2,?_,hu,h2⟩<;>grind
 |
  x::xs,_,i+1,⟨v1,v2,e,h1,h2⟩,hi=>by
  subst e
  have hl:=hn _ _ h1
  have:=aY.set hn hu i h2 (by grind)
  refine⟨v1,v2.take (i*n)++us++v2.drop (i*n+n),?_,h1,this⟩
  simp_all[List.take_append,gJ,gj,List.drop_append]
theorem Rel.len{w:World}{S:Nat→Prop}:∀{t:Ty}{vs:List Value}{x:t.den},Rel w S t vs x→vs.length=t.size:=by
 intro t
 induction t with
 |int k=>grind [Rel,Ty.size]
 |bool=>grind [Rel,Ty.size]
 |str=>grind [Rel,Ty.size]
 |arr n t ih=>intro vs x h;obtain⟨h1,h2⟩:=h;grind [aY.len,Ty.size]
 |slice bs t ih=>intro vs x h;obtain⟨a,cap,e,_⟩:=h;simp[e,Ty.size]
 |pair a b ih1 ih2=>intro vs x h;obtain⟨v1,v2,e,h1,h2⟩:=h;grind [Ty.size]
 |unit=>grind [Rel,Ty.size]
 |aS k=>intro vs x h;trivial
 |fns n=>intro vs x h;obtain⟨h1,h2⟩:=h;rw[h2,im,h1,Ty.size]
 |map k v=>intro vs x h;obtain⟨a,e,_⟩:=h;simp[e,Ty.size]
theorem Rel.wf{w:World}{S:Nat→Prop}:∀{t:Ty}{vs:List Value}{x:t.den},Rel w S t vs x→wf t x:=by
 intro t
 induction t with
 |int k=>intro vs x h;exact h.2
 |bool=>intro vs x h;trivial
 |str=>intro vs x h;exact h.2
 |arr n t ih=>intro vs x h;exact⟨h.1,aY.all (p:=Ax.wf t) (fun _ _ h=>ih h) h.2⟩
 |
  slice bs t ih=>
  intro vs x h
  obtain⟨a,cap,e,h1,h2,h3,h4⟩:=h
  refine⟨h2,h3,?_⟩
  rcases h4 with h4|⟨b,o,cs,_,_,_,h5⟩
  ·grind
  ·exact aY.all (p:=Ax.wf t) (fun _ _ h=>ih h) h5
 |pair a b ih1 ih2=>intro vs x h;obtain⟨v1,v2,e,h1,h2⟩:=h;exact⟨ih1 h1,ih2 h2⟩
 |unit=>intro vs x h;trivial
 |aS k=>intro vs x h;trivial
 |fns n=>intro vs x h;exact h.1
 |
  map k v ih1 ih2=>
  intro vs x h es he
  obtain⟨a,e,h⟩:=h
  rcases h with⟨h,_⟩|⟨es',g,en,clock,h1,_,_,_,h2,h3,h4,_⟩
  ·grind
  ·rw[h1] at he;cases he
   exact⟨h3,h4,jR.all (fun _ _ h=>ik.all (p:=Ax.wf k) (fun _ _ h=>ih1 h) h) (fun _ _ h=>ik.all (p:=Ax.wf v) (fun _ _ h=>ih2 h) h) h2⟩
theorem px.mono{w w':World}{a:Addr}{cs:List Value}(h:px w a cs)(hb:w'.heap[a.block]? =w.heap[a.block]?):px w' a cs:=by
 intro j v hj
 rw[←h j v hj]
 grind [World.cell?_of_block,Addr.add]
theorem Rel.mono{w w':World}{S S':Nat→Prop}(hw:∀b,S b→w'.heap[b]? =w.heap[b]?)(hS:∀b,S b→S' b):∀{t:Ty}{vs:List Value}{x:t.den},Rel w S t vs x→Rel w' S' t vs x:=by
 intro t
 induction t with
 |int k=>intro vs x h;exact h
 |bool=>intro vs x h;exact h
 |str=>intro vs x h;exact h
 |arr n t ih=>intro vs x h;exact⟨h.1,aY.mono (fun _ _=>ih) h.2⟩
 |
  slice bs t ih=>
  intro vs x h
  obtain⟨a,cap,e,h1,h2,h3,h4⟩:=h
  refine⟨a,cap,e,h1,h2,h3,?_⟩
  rcases h4 with h4|⟨b,o,cs,ha,hs,hr,h5⟩
  ·grind
  ·exact Or.inr ⟨b,o,cs,ha,hS b hs,hr.mono (hw b hs),aY.mono (fun _ _=>ih) h5⟩
 |pair a b ih1 ih2=>intro vs x h;obtain⟨v1,v2,e,h1,h2⟩:=h;exact⟨v1,v2,e,ih1 h1,ih2 h2⟩
 |unit=>intro vs x h;exact h
 |aS k=>intro vs x h;exact h
 |fns n=>intro vs x h;exact h
 |
  map k v ih1 ih2=>
  intro vs x h
  obtain⟨a,e,h⟩:=h
  refine⟨a,e,?_⟩
  grind [jR.mono,ik.mono]
theorem Rel.flat{w w':World}{S S':Nat→Prop}:∀{t:Ty}{vs:List Value}{x:t.den},t.flat=true→Rel w S t vs x→Rel w' S' t vs x:=by
 intro t
 induction t with
 |int k=>intro vs x _ h;exact h
 |bool=>intro vs x _ h;exact h
 |str=>intro vs x _ h;exact h
 |arr n t ih=>intro vs x hf h;exact⟨h.1,aY.mono (fun _ _=>ih hf) h.2⟩
 |slice bs t ih=>intro vs x hf;trivial
 |
  pair a b ih1 ih2=>
  intro vs x hf h
  simp[Ty.flat] at hf
  obtain⟨v1,v2,e,h1,h2⟩:=h;exact⟨v1,v2,e,ih1 hf.1 h1,ih2 hf.2 h2⟩
 |unit=>intro vs x _ h;exact h
 |aS k=>intro vs x hf;trivial
 |fns n=>intro vs x hf;trivial
 |map k v=>intro vs x hf;trivial
end Go.Ax
namespace Go.Ax
inductive PS where
 |cV (n:Nat)
 |idx (i:Nat)
abbrev Path:=List PS
def Ty.off:Ty→Path→Nat
 | .pair a _,.cV 0::p=>a.off p
 | .pair a b,.cV (k+1)::p=>a.size+b.off (.cV k::p)
 | .arr _ t,.idx i::p=>i*t.size+t.off p
 | .fns _,.idx i::_=>i
 |_,_=>0
def Ty.sub:Ty→Path→Option Ty
 | .pair a _,.cV 0::p=>a.sub p
 | .pair _ b,.cV (k+1)::p=>b.sub (.cV k::p)
 | .arr _ t,.idx _::p=>t.sub p
 | .fns _,[.idx _]=>some (.aS .func)
 |t,[]=>some t
 |_,_=>none
def Ty.valid:Ty→Path→Prop
 | .pair a _,.cV 0::p=>a.valid p
 | .pair _ b,.cV (k+1)::p=>b.valid (.cV k::p)
 | .arr n t,.idx i::p=>i<n∧t.valid p
 | .fns n,[.idx i]=>i<n
 |_,[]=>True
 |_,_=>False
inductive AV where
 |bot
 |val (t:Ty) (x:t.den)
 |bF
 |own (b:Nat)
 |ju (b lo len:Nat)
 |jj (b:Nat) (p:Path) (lo len:Nat)
 |ptr (b:Nat) (p:Path)
 |cb (t:Ty) (x:t.den)
 |mp (b:Nat)
 |fC
 |eA
 |fD
 |gW
 |func (fn:Fn) (fs cs:AV)
 |iface (t:TypeId) (v:AV)
 |cons (a b:AV)
 |nil
 |gm (l:AV)
 |opt (c:Bool) (v:AV)
 |fx
 |fE (f:FuncId) (t:Ty) (x:t.den)
 |fF (t:Ty)
 |nq (c:Bool)
 |eK (b:Nat)
structure YC where
 l:Nat
 gs:Nat→Nat
 rc:Nat→Loop
inductive aP where
 |var (t:Ty) (v:AV)
 |row (e:TypeId) (bs:Nat) (t:Ty) (xs:List t.den)
 |map (k v:Ty) (es:List (k.den×v.den))
 |lp (y:YC) (j:Nat)
 |sY
 |tv (g:Nat) (t:Ty) (v:AV)
 |cY (e:TypeId) (bs:Nat) (t:Ty) (xs:List t.den) (i:Nat) (v:AV)
 |dh (e:TypeId) (bs:Nat) (t:Ty) (xs:List t.den) (e2:TypeId) (f:Option (Nat×AV))
 |pmap (k t:Ty) (es:List (k.den×t.den)) (e2:TypeId) (f:Option (k.den×AV×Bool))
 |ko (k v:Ty) (rest:List (k.den×v.den)) (cur:Option (k.den×v.den))
 |gr (k t:Ty) (es:List (k.den×t.den)) (e2:TypeId) (kx:k.den) (v:AV) (pr:Bool)
 |mw (k v:Ty) (es:List (k.den×v.den)) (kx:k.den)
 |gu (e:TypeId) (bs:Nat) (t:Ty) (xs:List t.den)
 |il (k:Ty) (l:List (k.den×AV))
structure Env where
 g:Nat→Option Nat
 sv:Nat→Value
 bt:Nat→Ty
 S:Nat→Prop
 P:Nat→Nat→Prop
def Env.has(E:Env)(b g:Nat):Prop:=E.g b=some g∨E.P b g
def AV.isAgg:AV→Bool
 | .val t _=>t.isAgg
 | .fF t=>t.isAgg
 | .cons _ _| .nil=>true
 |_=>false
def AV.size:AV→Nat
 | .val t _=>t.size
 | .fF t=>t.size
 | .cons a b=>a.size+b.size
 | .nil=>0
 |_=>1
def AV.atom:AV→Bool
 | .val t _=> !t.isAgg
 | .bot| .cons _ _| .nil| .gm _| .opt _ _| .fF _=>false
 |_=>true
def AV.atoms:AV→Bool
 | .cons a b=>a.atom&&b.atoms
 | .nil=>true
 |_=>false
def AV.NO:AV→Bool
 | .func _ _ _=>true
 |_=>false
def AV.Hp:AV→Nat→Bool
 | .cons a b,n=>a.NO&&Nat.blt 0 n&&b.Hp (n -1)
 | .nil,n=>Nat.beq n 0
 |_,_=>false
def AV.cK:AV→Ty→Bool
 | .val t _,u=>Ty.same t u
 | .fF t,u=>Ty.same t u
 | .bF,.slice _ _=>true
 | .bF,.aS .sl=>true
 | .own _,.slice _ _=>true
 | .ju _ _ _,.slice _ _=>true
 | .jj _ _ _ _,.slice _ _=>true
 | .ptr _ _,.aS .ptr=>true
 | .cb _ _,.aS .ptr=>true
 | .fC,.aS .ptr=>true
 | .mp _,.aS .map=>true
 | .mp _,.map _ _=>true
 | .eA,.aS .map=>true
 | .eA,.map _ _=>true
 | .func _ _ _,.aS .func=>true
 | .fD,.aS .func=>true
 | .fx,.aS .func=>true
 | .fE _ _ _,.aS .func=>true
 | .iface _ _,.aS .iface=>true
 | .gW,.aS .iface=>true
 | .cons a b,.pair t u=>a.cK t&&b.cK u
 | .nil,.unit=>true
 | .cons a b,.fns n=>(AV.cons a b).Hp n
 | .nil,.fns n=>Nat.beq n 0
 |_,_=>false
def AV.ids:AV→List Nat
 | .own b| .ju b _ _| .jj b _ _ _| .ptr b _| .mp b| .eK b=>[b]
 | .func _ fs cs=>fs.ids++cs.ids
 | .iface _ v=>v.ids
 | .cons a b=>a.ids++b.ids
 | .gm l=>l.ids
 | .opt _ v=>v.ids
 |_=>[]
def RC(E:Env)(w:World):AV→List Value→Prop
 | .val t x,vs=>Rel w E.S t vs x
 | .bF,vs=>vs= [.slice none 0 0]
 | .own b,vs=>vs= [E.sv b]∧∃a n c,E.sv b= .slice a n c
 | .ju b lo len,vs=>∃a c n t,E.bt b= .arr n t∧E.sv b= .slice a n c∧lo+len≤n∧n≤c∧∃a',vs= [.slice a' len (c -lo)]∧((len=0∧lo≠0)∨a'=a.map (·.add (lo*t.size)))
 | .jj b p lo len,vs=>∃n t,(E.bt b).sub p=some (.arr n t)∧(E.bt b).valid p∧lo+len≤n∧∃a cap,vs= [.slice a len cap]∧len≤cap∧
  (len=0∨∃g,E.g b=some g∧a=some ⟨g,(E.bt b).off p+lo*t.size,none⟩)
 | .ptr b p,vs=>∃g,E.g b=some g∧vs= [.pointer (some ⟨g,(E.bt b).off p,none⟩)]∧(E.bt b).valid p
 | .cb t x,vs=>∃b o cs,vs= [.pointer (some ⟨b,o,none⟩)]∧E.S b∧px w ⟨b,o,none⟩ cs∧Rel w E.S t cs x
 | .mp b,vs=>∃g,E.g b=some g∧vs= [.map (some g)]
 | .fC,vs=>vs= [.pointer none]
 | .eA,vs=>vs= [.map none]
 | .fD,vs=>vs= [.nilFunc]
 | .gW,vs=>vs= [.nilIface]
 | .func fn fs cs,vs=>∃f c,vs= [.func fn f c]∧RC E w fs f.toList∧RC E w cs c.toList∧fs.atoms=true∧cs.atoms=true
 | .iface t v,vs=>∃x,vs= [.iface t x]∧((v.isAgg=true∧∃cs,x= .agg cs∧RC E w v cs.toList)∨(v.isAgg=false∧RC E w v [x]))
 | .cons a b,vs=>∃v1 v2,vs=v1++v2∧RC E w a v1∧RC E w b v2
 | .nil,vs=>vs= []
 | .fx,vs=>∃fn f c,vs= [.func fn f c]
 | .fF t,vs=>vs.length=t.size∧∀v∈vs,v.oneCell'=true
 | .nq c,vs=>∃a:Option Nat,vs= [.map a]∧(a=none↔c=true)
 | .eK b,vs=>vs= [E.sv b]∧∃n:Int,E.sv b= .int .i64 n
 | .fE f t x,vs=>t.isAgg=true∧∃cs,vs= [.func (.func f) #[.agg cs] #[]]∧Rel w E.S t cs.toList x
 | .bot,_=>False
 | .gm _,_=>False
 | .opt _ _,_=>False
def cE(E:Env)(w:World)(a:AV)(v:Value):Prop:=
 (a.isAgg=true∧∃cs,v= .agg cs∧RC E w a cs.toList)∨(a.isAgg=false∧RC E w a [v])
def RT(E:Env)(w:World):AV→List Value→Prop
 | .cons a b,v::vs=>cE E w a v∧RT E w b vs
 | .nil,vs=>vs= []
 |_,_=>False
def RV(E:Env)(w:World):AV→Value→Prop
 | .bot,_=>True
 | .gm l,v=>∃vs,v= .tuple vs∧RT E w l vs.toList
 | .opt c a,v=>(c=true∧cE E w a v)∨(c=false∧v=undef)
 |a,v=>cE E w a v
def Env.on(E E':Env)(ids:List Nat):Prop:=∀b∈ids,E'.g b=E.g b∧E'.sv b=E.sv b∧E'.bt b=E.bt b
theorem Env.on.left{E E':Env}{a b:List Nat}(h:E.on E' (a++b)):E.on E' a:=fun x hx=>h x (by simp[hx])
theorem Env.on.right{E E':Env}{a b:List Nat}(h:E.on E' (a++b)):E.on E' b:=fun x hx=>h x (by simp[hx])
structure bS(E:Env)(w:World)(E':Env)(w':World):Prop where
 w:∀b,E.S b→w'.heap[b]? =w.heap[b]?
 S:∀b,E.S b→E'.S b
theorem RC.mono{E E':Env}{w w':World}(k:bS E w E' w'):∀{a:AV}{vs:List Value},E.on E' a.ids→RC E w a vs→RC E' w' a vs:=by
 intro a
 induction a with
 |bot=>intro vs _ h;exact h
 |fx=>intro vs _ h;exact h
 |fF t=>intro vs _ h;exact h
 |nq c=>intro vs _ h;exact h
 |eK b=>intro vs ho h;simp only[RC] at h ⊢;rw[(ho b (by simp[AV.ids])).2.1];exact h
 |fE f t x=>intro vs _ h;obtain⟨ha,cs,h1,h2⟩:=h;exact⟨ha,cs,h1,Rel.mono k.w k.S h2⟩
 |val t x=>intro vs _ h;exact Rel.mono k.w k.S h
 |bF=>intro vs _ h;exact h
 |own b=>intro vs ho h;simp only[RC] at h ⊢;rw[(ho b (by simp[AV.ids])).2.1];exact h
 |
  ju b lo len=>
  intro vs ho h
  obtain⟨_,h2,h3⟩:=ho b (by simp[AV.ids])
  obtain⟨a,c,n,t,h⟩:=h
  exact⟨a,c,n,t,by grind⟩
 |
  jj b p lo len=>
  intro vs ho h
  obtain⟨h1,h2,h3⟩:=ho b (by simp[AV.ids])
  obtain⟨n,t,h⟩:=h
  refine⟨n,t,?_⟩<;>grind
 |
  ptr b p=>
  intro vs ho h
  obtain⟨h1,h2,h3⟩:=ho b (by simp[AV.ids])
  obtain⟨g,h⟩:=h
  exact⟨g,by grind⟩
 |
  cb t x=>
  intro vs _ h
  obtain⟨b,o,cs,h1,h2,h3,h4⟩:=h
  exact⟨b,o,cs,h1,k.S b h2,h3.mono (k.w b h2),Rel.mono k.w k.S h4⟩
 |
  mp b=>
  intro vs ho h
  obtain⟨h1,h2,h3⟩:=ho b (by simp[AV.ids])
  obtain⟨g,h⟩:=h
  exact⟨g,by grind⟩
 |fC=>intro vs _ h;exact h
 |eA=>intro vs _ h;exact h
 |fD=>intro vs _ h;exact h
 |gW=>intro vs _ h;exact h
 |
  func fn fs cs ih1 ih2=>
  intro vs ho h
  obtain⟨f,c,e,h1,h2,h3,h4⟩:=h
  exact⟨f,c,e,ih1 ho.left h1,ih2 ho.right h2,h3,h4⟩
 |
  iface t v ih=>
  intro vs ho h
  obtain⟨x,e,h⟩:=h
  refine⟨x,e,?_⟩
  rcases h with⟨h1,cs,h2,h3⟩|⟨h1,h2⟩
  ·exact Or.inl ⟨h1,cs,h2,ih ho h3⟩
  ·exact Or.inr ⟨h1,ih ho h2⟩
 |
  cons a b ih1 ih2=>
  intro vs ho h
  obtain⟨v1,v2,e,h1,h2⟩:=h
  exact⟨v1,v2,e,ih1 ho.left h1,ih2 ho.right h2⟩
 |nil=>intro vs _ h;exact h
 |gm l ih=>intro vs _ h;exact h
 |opt c v ih=>intro vs _ h;exact h
theorem cE.mono{E E':Env}{w w':World}(k:bS E w E' w'){a:AV}{v:Value}(ho:E.on E' a.ids)(h:cE E w a v):cE E' w' a v:=by
 rcases h with⟨h1,cs,h2,h3⟩|⟨h1,h2⟩
 ·exact Or.inl ⟨h1,cs,h2,RC.mono k ho h3⟩
 ·exact Or.inr ⟨h1,RC.mono k ho h2⟩
theorem RT.mono{E E':Env}{w w':World}(k:bS E w E' w'):∀{a:AV}{vs:List Value},E.on E' a.ids→RT E w a vs→RT E' w' a vs:=by
 intro a
 induction a with
 |
  cons a b ih1 ih2=>
  intro vs ho h
  cases vs with
  |nil=>trivial
  |cons v vs=>exact⟨cE.mono k ho.left h.1,ih2 ho.right h.2⟩
 |nil=>intro vs _ h;exact h
 |_=>intro vs _ h;trivial
theorem RV.mono{E E':Env}{w w':World}(k:bS E w E' w'){a:AV}{v:Value}(ho:E.on E' a.ids)(h:RV E w a v):RV E' w' a v:=by
 cases a with
 |bot=>trivial
 |gm l=>obtain⟨vs,e,h⟩:=h;exact⟨vs,e,RT.mono k ho h⟩
 |
  opt c a=>
  rcases h with⟨h1,h2⟩|h
  ·exact Or.inl ⟨h1,cE.mono k ho h2⟩
  ·exact Or.inr h
 |_=>exact cE.mono k ho h
theorem RC.len{E:Env}{w:World}:∀{a:AV}{vs:List Value},RC E w a vs→vs.length=a.size:=by
 intro a
 induction a with
 |val t x=>intro vs h;exact Rel.len h
 |bF=>intro vs h;simp only[RC] at h;simp[h,AV.size]
 |own b=>intro vs h;simp only[RC] at h;simp[h.1,AV.size]
 |ju b lo len=>intro vs h;obtain⟨_,_,_,_,_,_,_,_,_,e,_⟩:=h;simp[e,AV.size]
 |jj b p lo len=>intro vs h;obtain⟨_,_,_,_,_,_,_,e,_⟩:=h;simp[e,AV.size]
 |ptr b p=>intro vs h;obtain⟨_,_,e,_⟩:=h;simp[e,AV.size]
 |cb t x=>intro vs h;obtain⟨_,_,_,e,_⟩:=h;simp[e,AV.size]
 |mp b=>intro vs h;obtain⟨_,_,e⟩:=h;simp[e,AV.size]
 |fC=>intro vs h;simp only[RC] at h;simp[h,AV.size]
 |eA=>intro vs h;simp only[RC] at h;simp[h,AV.size]
 |fD=>intro vs h;simp only[RC] at h;simp[h,AV.size]
 |gW=>intro vs h;simp only[RC] at h;simp[h,AV.size]
 |func fn fs cs=>intro vs h;obtain⟨_,_,e,_⟩:=h;simp[e,AV.size]
 |iface t v=>intro vs h;obtain⟨_,e,_⟩:=h;simp[e,AV.size]
 |cons a b ih1 ih2=>intro vs h;obtain⟨v1,v2,e,h1,h2⟩:=h;subst e;rw[ep,ih1 h1,ih2 h2,AV.size]
 |nil=>intro vs h;simp only[RC] at h;simp[h,AV.size]
 |bot=>intro vs h;exact h.elim
 |fx=>intro vs h;obtain⟨_,_,_,e⟩:=h;simp[e,AV.size]
 |fF t=>intro vs h;exact h.1
 |nq c=>intro vs h;obtain⟨_,e,_⟩:=h;simp[e,AV.size]
 |eK b=>intro vs h;obtain⟨e,_⟩:=h;simp[e,AV.size]
 |fE f t x=>intro vs h;obtain⟨_,_,e,_⟩:=h;simp[e,AV.size]
 |gm l=>intro vs h;exact h.elim
 |opt c v=>intro vs h;exact h.elim
theorem Rel.one{w:World}{S:Nat→Prop}:∀{t:Ty}{vs:List Value}{x:t.den},Rel w S t vs x→∀v∈vs,v.oneCell'=true:=by
 intro t
 induction t with
 |int k=>intro vs x h v hv;simp[Rel] at h;rw[h.1] at hv;simp at hv;subst hv;rfl
 |bool=>intro vs x h v hv;simp[Rel] at h;rw[h] at hv;simp at hv;subst hv;rfl
 |str=>intro vs x h v hv;simp[Rel] at h;rw[h.1] at hv;simp at hv;subst hv;rfl
 |
  arr n t ih=>
  intro vs x h
  have key:∀{xs:List t.den}{vs:List Value},aY (Rel w S t) vs xs→∀v∈vs,v.oneCell'=true:=by
   intro xs
   induction xs with
   |nil=>grind [aY]
   |
    cons y ys ih2=>
    intro vs h v hv
    obtain⟨v1,v2,e,h1,h2⟩:=h
    grind
  exact key h.2
 |slice bs t=>intro vs x h v hv;obtain⟨a,cap,e,_⟩:=h;rw[e] at hv;simp at hv;subst hv;rfl
 |
  pair a b ih1 ih2=>
  intro vs x h v hv
  obtain⟨v1,v2,e,h1,h2⟩:=h
  grind
 |unit=>grind [Rel]
 |aS k=>intro vs x h;trivial
 |
  fns n=>
  intro vs x h v hv
  obtain⟨_,h2⟩:=h
  rw[h2] at hv
  obtain⟨o,_,e⟩:=List.mem_map.1 hv
  subst e
  cases o<;>rfl
 |map k v=>intro vs x h v hv;obtain⟨a,e,_⟩:=h;rw[e] at hv;simp at hv;subst hv;rfl
theorem RC.one{E:Env}{w:World}:∀{a:AV}{vs:List Value},RC E w a vs→∀v∈vs,v.oneCell'=true:=by
 intro a
 induction a with
 |val t x=>intro vs h;exact Rel.one h
 |bF=>intro vs h v hv;simp only[RC] at h;rw[h] at hv;simp at hv;subst hv;rfl
 |own b=>intro vs h v hv;obtain⟨e,a,n,c,e2⟩:=h;rw[e,e2] at hv;simp at hv;subst hv;rfl
 |ju b lo len=>intro vs h v hv;obtain⟨_,_,_,_,_,_,_,_,_,e,_⟩:=h;rw[e] at hv;simp at hv;subst hv;rfl
 |jj b p lo len=>intro vs h v hv;obtain⟨_,_,_,_,_,_,_,e,_⟩:=h;rw[e] at hv;simp at hv;subst hv;rfl
 |ptr b p=>intro vs h v hv;obtain⟨_,_,e,_⟩:=h;rw[e] at hv;simp at hv;subst hv;rfl
 |cb t x=>intro vs h v hv;obtain⟨_,_,_,e,_⟩:=h;rw[e] at hv;simp at hv;subst hv;rfl
 |mp b=>intro vs h v hv;obtain⟨_,_,e⟩:=h;rw[e] at hv;simp at hv;subst hv;rfl
 |fC=>intro vs h v hv;simp only[RC] at h;rw[h] at hv;simp at hv;subst hv;rfl
 |eA=>intro vs h v hv;simp only[RC] at h;rw[h] at hv;simp at hv;subst hv;rfl
 |fD=>intro vs h v hv;simp only[RC] at h;rw[h] at hv;simp at hv;subst hv;rfl
 |fx=>intro vs h v hv;obtain⟨_,_,_,e⟩:=h;rw[e] at hv;simp at hv;subst hv;rfl
 |fF t=>intro vs h v hv;exact h.2 v hv
 |nq c=>intro vs h v hv;obtain⟨_,e,_⟩:=h;rw[e] at hv;simp at hv;subst hv;rfl
 |eK b=>intro vs h v hv;obtain⟨e,n,e2⟩:=h;rw[e,e2] at hv;simp at hv;subst hv;rfl
 |fE f t x=>intro vs h v hv;obtain⟨_,_,e,_⟩:=h;rw[e] at hv;simp at hv;subst hv;rfl
 |gW=>intro vs h v hv;simp only[RC] at h;rw[h] at hv;simp at hv;subst hv;rfl
 |func fn fs cs=>intro vs h v hv;obtain⟨_,_,e,_⟩:=h;rw[e] at hv;simp at hv;subst hv;rfl
 |iface t x=>intro vs h v hv;obtain⟨_,e,_⟩:=h;rw[e] at hv;simp at hv;subst hv;rfl
 |
  cons a b ih1 ih2=>
  intro vs h v hv
  obtain⟨v1,v2,e,h1,h2⟩:=h
  grind
 |nil=>grind [RC]
 |bot=>intro vs h;trivial
 |gm l=>intro vs h;trivial
 |opt c v=>intro vs h;trivial
theorem cE.cells{E:Env}{w:World}{a:AV}{v:Value}(h:cE E w a v):RC E w a v.cells.toList:=by
 rcases h with⟨_,cs,e,h⟩|⟨_,h⟩
 ·subst e;exact h
 ·have h1:=RC.one h v (by simp)
  have:v.cells= #[v]:=by cases v<;>first|rfl|(simp[Value.oneCell'] at h1)
  rw[this];exact h
theorem AV.xD:∀{a:AV}{n:Nat},a.Hp n=true→a.size=n:=by
 intro a
 induction a with
 |
  cons a b _ ih=>
  intro n h
  simp only[AV.Hp,bB,Nat.blt,Nat.ble_eq] at h
  obtain⟨⟨h1,h2⟩,h3⟩:=h
  have:=ih h3
  cases a<;>simp[AV.NO] at h1
  simp only[AV.size]
  omega
 |nil=>intro n h;exact(bT h).symm
 |_=>intro n h;cases h
theorem AV.ei:∀{a:AV}{t:Ty},a.cK t=true→a.size=t.size:=by
 intro a
 induction a with
 |val u x=>intro t h;have:=Ty.aB (by trivial);subst this;rfl
 |fF u=>intro t h;have:=Ty.aB (by trivial);subst this;rfl
 |
  cons a b ih1 ih2=>
  intro t h
  cases t with
  |fns n=>exact AV.xD (a:=.cons a b) h
  |pair t u=>simp[AV.cK] at h;rw[AV.size,Ty.size,ih1 h.1,ih2 h.2]
  |_=>cases h
 |
  nil=>
  intro t h
  cases t with
  |fns n=>exact(bT h).symm
  |unit=>rfl
  |_=>cases h
 |bF=>intro t h;cases t with|slice _ _=>rfl|aS k=>trivial|_=>trivial
 |_=>intro t h;first|(cases t<;>simp[AV.cK] at h<;>rfl)|(cases t with|aS k=>cases k<;>simp[AV.cK] at h<;>rfl|map _ _=>(first|rfl|simp[AV.cK] at h)|_=>simp[AV.cK] at h)
theorem AV.oL:∀{a:AV}{t:Ty},a.cK t=true→a.isAgg=t.isAgg:=by
 intro a t h
 cases a with
 |val u x=>have:=Ty.aB (by trivial);subst this;rfl
 |fF u=>have:=Ty.aB (by trivial);subst this;rfl
 |cons a b=>cases t<;>first|rfl|cases h
 |nil=>cases t<;>first|rfl|cases h
 |bF=>cases t with|slice _ _=>rfl|aS k=>trivial|_=>trivial
 |_=>first|(cases t<;>simp[AV.cK] at h<;>rfl)|(cases t with|aS k=>cases k<;>simp[AV.cK] at h<;>rfl|map _ _=>(first|rfl|simp[AV.cK] at h)|_=>simp[AV.cK] at h)
def Hq:Option Nat→AV
 |none=>.fD
 |some f=>.func (.func f) .nil .nil
def fR:(t:Ty)→t.den→Path→Option AV
 | .pair a _,x,.cV 0::p=>fR a x.1 p
 | .pair _ b,x,.cV (k+1)::p=>fR b x.2 (.cV k::p)
 | .arr _ t,x,.idx i::p=>fR t (List.getD x i t.aD) p
 | .fns _,x,[.idx i]=>some (Hq (List.getD x i none))
 |t,x,[]=>some (.val t x)
 |_,_,_=>none
def AV.get:AV→Path→Option AV
 | .val t x,p=>fR t x p
 | .cons a _,.cV 0::p=>a.get p
 | .cons _ b,.cV (k+1)::p=>b.get (.cV k::p)
 | .cons a _,[.idx 0]=>some a
 | .cons _ b,[.idx (i+1)]=>b.get [.idx i]
 |a,[]=>some a
 |_,_=>none
def AV.bO:AV→(t:Ty)→Option t.den
 | .val u x,t=>if h:Ty.same u t=true then some (Ty.aB h▸x) else none
 | .bF,.slice _ _=>some []
 | .eA,.map _ _=>some none
 |
  .cons a b,.pair t u=>match a.bO t,b.bO u with
  |some x,some y=>some (x,y)
  |_,_=>none
 | .nil,.unit=>some ()
 |_,_=>none
def AV.Tj:AV→Bool
 | .bF=>true
 |_=>false
def AV.JF(v:AV)(t:Ty):Option AV:=
 match v.Tj&&v.cK t with
 |true=>some v
 |
  false=>match v.bO t with
  |some y=>some (.val t y)
  |none=>if v.cK t then some v else none
def gX:(t:Ty)→t.den→Path→AV→Option AV
 |
  .pair a b,x,.cV 0::p,v=>match gX a x.1 p v with
  |some (.val u y)=>if h:Ty.same u a=true then some (.val (.pair a b) (Ty.aB h▸y,x.2)) else none
  |some y=>some (.cons y (.val b x.2))
  |none=>none
 |
  .pair a b,x,.cV (k+1)::p,v=>match gX b x.2 (.cV k::p) v with
  |some (.val u y)=>if h:Ty.same u b=true then some (.val (.pair a b) (x.1,Ty.aB h▸y)) else none
  |some y=>some (.cons (.val a x.1) y)
  |none=>none
 |
  .arr n t,x,.idx i::p,v=>match gX t (List.getD x i t.aD) p v with
  |
   some y=>match y.bO t with
   |some z=>some (.val (.arr n t) (List.set x i z))
   |none=>none
  |none=>none
 |t,_,[],v=>v.JF t
 |_,_,_,_=>none
def AV.set:AV→Path→AV→Option AV
 | .val t x,p,v=>gX t x p v
 | .cons a b,.cV 0::p,v=>(a.set p v).map fun y=>.cons y b
 | .cons a b,.cV (k+1)::p,v=>(b.set (.cV k::p) v).map fun y=>.cons a y
 |_,[],v=>some v
 |_,_,_=>none
theorem RC.bO{E:Env}{w:World}:∀{a:AV}{t:Ty}{x:t.den}{vs:List Value},a.bO t=some x→RC E w a vs→Rel w E.S t vs x:=by
 intro a
 induction a with
 |
  val u y=>
  intro t x vs h hr
  simp only[AV.bO] at h
  split at h
  ·rename_i hs
   have e:=Ty.aB hs
   subst e
   simp at h;subst h;exact hr
  grind
 |
  bF=>
  intro t x vs h hr
  cases t<;>simp[AV.bO] at h
  subst h
  exact⟨none,0,by trivial,dc _,by simp,by simp,Or.inl rfl⟩
 |
  eA=>
  intro t x vs h hr
  cases t<;>simp[AV.bO] at h
  subst h
  exact⟨none,by trivial,Or.inl ⟨rfl,rfl⟩⟩
 |
  cons a b ih1 ih2=>
  intro t x vs h hr
  cases t with
  |
   pair t u=>
   obtain⟨v1,v2,e,h1,h2⟩:=hr
   simp only[AV.bO] at h
   split at h
   ·rename_i y z hy hz
    cases h
    exact⟨v1,v2,e,ih1 hy h1,ih2 hz h2⟩
   grind
  |_=>trivial
 |
  nil=>
  intro t x vs h hr
  cases t<;>simp[AV.bO] at h
  exact hr
 |_=>grind [AV.bO]
theorem cE.bO{E:Env}{w:World}{a:AV}{t:Ty}{x:t.den}{v:Value}(h:a.bO t=some x)(hr:cE E w a v):cE E w (.val t x) v:=by
 rcases hr with⟨h1,cs,h2,h3⟩|⟨h1,h2⟩
 ·refine Or.inl ⟨?_,cs,h2,RC.bO h h3⟩
  cases a with
  |
   val u y=>
   simp only[AV.bO] at h
   split at h
   ·rename_i hs;have e:=Ty.aB hs;subst e;exact h1
   ·cases h
  |cons a b=>cases t<;>simp[AV.bO] at h;rfl
  |nil=>cases t<;>simp[AV.bO] at h;rfl
  |fF u=>cases t<;>simp[AV.bO] at h
  |_=>simp[AV.isAgg] at h1
 ·refine Or.inr ⟨?_,RC.bO h h2⟩
  cases a with
  |
   val u y=>
   simp only[AV.bO] at h
   split at h
   ·rename_i hs;have e:=Ty.aB hs;subst e;exact h1
   ·cases h
  |bF=>cases t<;>simp[AV.bO] at h;rfl
  |eA=>cases t<;>simp[AV.bO] at h;rfl
  |cons a b=>simp[AV.isAgg] at h1
  |nil=>simp[AV.isAgg] at h1
  |_=>cases t<;>simp[AV.bO] at h
end Go.Ax
namespace Go.Ax
theorem kc{α:Type}(v1 v2:List α)(k n:Nat)(hk:v1.length≤k):((v1++v2).drop k).take n=(v2.drop (k -v1.length)).take n:=by
 rw[List.drop_append,pJ hk,oo]
theorem rf{E:Env}{w:World}:∀{t:Ty}{x:t.den}{cs:List Value}{p:Path}{u:AV},Rel w E.S t cs x→t.valid p→fR t x p=some u→
 ∃s,t.sub p=some s∧u.cK s=true∧t.off p+s.size≤cs.length∧RC E w u ((cs.drop (t.off p)).take s.size):=by
 intro t
 induction t with
 |
  pair a b ih1 ih2=>
  intro x cs p u hr hv hg
  cases p with
  |
   nil=>
   simp only[fR,dk] at hg;subst hg
   have hl:=Rel.len hr
   exact⟨_,rfl,Ty.di _,by simp[Ty.off,hl],by simp only[Ty.off,gp];rw[gJ (by omega)];exact hr⟩
  |
   cons s p=>
   obtain⟨v1,v2,e,h1,h2⟩:=hr
   subst e
   cases s with
   |
    cV k=>
    cases k with
    |
     zero=>
     obtain⟨s,e1,e2,e3,e4⟩:=ih1 h1 hv hg
     refine⟨s,e1,e2,by grind [Ty.off],?_⟩
     grind [Ty.off]
    |
     succ k=>
     obtain⟨s,e1,e2,e3,e4⟩:=ih2 h2 hv hg
     have hl:=Rel.len h1
     refine⟨s,e1,e2,by grind [Ty.off],?_⟩
     grind [Ty.off,kc,ot]
   |idx i=>trivial
 |
  arr n t ih=>
  intro x cs p u hr hv hg
  cases p with
  |
   nil=>
   simp only[fR,dk] at hg;subst hg
   have hl:=Rel.len hr
   exact⟨_,rfl,Ty.di _,by simp[Ty.off,hl],by simp only[Ty.off,gp];rw[gJ (by omega)];exact hr⟩
  |
   cons s p=>
   cases s with
   |cV k=>trivial
   |
    idx i=>
    have hl:=Rel.len hr
    obtain⟨hn,hr⟩:=hr
    obtain⟨hi,hv⟩:=hv
    have hx:i<List.length x:=by grind
    have:=aY.get (fun _ _=>Rel.len) t.aD i hr hx
    obtain⟨s,e1,e2,e3,e4⟩:=ih this hv hg
    have hb:(i+1)*t.size≤n*t.size:=gK _ hi
    rw[gj,Nat.one_mul] at hb
    have hle:t.off p+s.size≤t.size:=by
     grind
    refine⟨s,e1,e2,?_,?_⟩
    ·grind [Ty.off,Ty.size]
    grind [Ty.off,mu,lR]
 |
  int k=>intro x cs p u hr hv hg;cases p with
  |nil=>simp only[fR,dk] at hg;subst hg;have hl:=Rel.len hr;exact⟨_,rfl,Ty.di _,by simp[Ty.off,hl],by simp only[Ty.off,gp];rw[gJ (by omega)];exact hr⟩
  |cons s p=>trivial
 |
  bool=>intro x cs p u hr hv hg;cases p with
  |nil=>simp only[fR,dk] at hg;subst hg;have hl:=Rel.len hr;exact⟨_,rfl,Ty.di _,by simp[Ty.off,hl],by simp only[Ty.off,gp];rw[gJ (by omega)];exact hr⟩
  |cons s p=>trivial
 |
  str=>intro x cs p u hr hv hg;cases p with
  |nil=>simp only[fR,dk] at hg;subst hg;have hl:=Rel.len hr;exact⟨_,rfl,Ty.di _,by simp[Ty.off,hl],by simp only[Ty.off,gp];rw[gJ (by omega)];exact hr⟩
  |cons s p=>trivial
 |
  slice bs t=>intro x cs p u hr hv hg;cases p with
  |nil=>simp only[fR,dk] at hg;subst hg;have hl:=Rel.len hr;exact⟨_,rfl,Ty.di _,by simp[Ty.off,hl],by simp only[Ty.off,gp];rw[gJ (by omega)];exact hr⟩
  |cons s p=>trivial
 |
  unit=>intro x cs p u hr hv hg;cases p with
  |nil=>simp only[fR,dk] at hg;subst hg;have hl:=Rel.len hr;exact⟨_,rfl,Ty.di _,by simp[Ty.off,hl],by trivial⟩
  |cons s p=>trivial
 |
  fns n=>intro x cs p u hr hv hg;cases p with
  |nil=>simp only[fR,dk] at hg;subst hg;have hl:=Rel.len hr;exact⟨_,rfl,Ty.di _,by simp[Ty.off,hl],by simp only[Ty.off,gp];rw[gJ (by omega)];exact hr⟩
  |
   cons s p=>
   cases s with
   |cV k=>trivial
   |
    idx i=>
    cases p with
    |cons _ _=>trivial
    |
     nil=>
     simp only[fR,dk] at hg
     subst hg
     obtain⟨h1,rfl⟩:=hr
     have hi:i<List.length x:=by rw[h1];exact hv
     refine⟨.aS .func,rfl,?_,by simp[Ty.off,Ty.size];omega,?_⟩
     ·cases(List.getD x i none)<;>rfl
     ·have e:((x.map Dj).drop i).take 1= [Dj (List.getD x i none)]:=by
       grind [kA]
      simp only[Ty.off,Ty.size]
      rw[e]
      cases(List.getD x i none) with
      |none=>rfl
      |some f=>exact⟨#[], #[],rfl,rfl,rfl,rfl,rfl⟩
 |
  map k v=>intro x cs p u hr hv hg;cases p with
  |nil=>simp only[fR,dk] at hg;subst hg;have hl:=Rel.len hr;exact⟨_,rfl,Ty.di _,by simp[Ty.off,hl],by simp only[Ty.off,gp];rw[gJ (by omega)];exact hr⟩
  |cons s p=>trivial
 |aS k=>intro x cs p u hr hv hg;trivial
theorem AV.gY{E:Env}{w:World}:∀{a:AV}{t:Ty}{cs:List Value}{p:Path}{u:AV},RC E w a cs→a.cK t=true→t.valid p→a.get p=some u→
 ∃s,t.sub p=some s∧u.cK s=true∧t.off p+s.size≤cs.length∧RC E w u ((cs.drop (t.off p)).take s.size):=by
 intro a
 have base:∀{a:AV}{t:Ty}{cs:List Value}{u:AV},RC E w a cs→a.cK t=true→some a=some u→
  ∃s,t.sub []=some s∧u.cK s=true∧t.off []+s.size≤cs.length∧RC E w u ((cs.drop (t.off [])).take s.size):=by
  intro a t cs u hr hc e
  cases e
  have hl:=RC.len hr
  have hs:=AV.ei hc
  have anq:t.sub []=some t:=by cases t<;>rfl
  have hoff:t.off []=0:=by cases t<;>rfl
  grind
 induction a with
 |
  val u x=>
  intro t cs p v hr hc hv hg
  have:=Ty.aB (by trivial);subst this
  exact rf hr hv hg
 |
  cons a b ih1 ih2=>
  intro t cs p u hr hc hv hg
  cases p with
  |nil=>exact base hr hc hg
  |
   cons s p=>
   cases t with
   |
    pair t1 t2=>
    simp only[AV.cK,bB] at hc
    obtain⟨v1,v2,e,h1,h2⟩:=hr
    subst e
    cases s with
    |
     cV k=>
     cases k with
     |
      zero=>
      obtain⟨s,e1,e2,e3,e4⟩:=ih1 h1 hc.1 hv hg
      refine⟨s,e1,e2,by grind [Ty.off],?_⟩
      grind [Ty.off]
     |
      succ k=>
      obtain⟨s,e1,e2,e3,e4⟩:=ih2 h2 hc.2 hv hg
      have hl:=RC.len h1
      have hs:=AV.ei hc.1
      refine⟨s,e1,e2,by grind [Ty.off],?_⟩
      grind [Ty.off,kc,ot]
    |idx i=>trivial
   |
    fns n=>
    obtain⟨v1,v2,e,h1,h2⟩:=hr
    subst e
    have hc:(AV.cons a b).Hp n=true:=hc
    simp only[AV.Hp,bB,Nat.blt,Nat.ble_eq] at hc
    obtain⟨⟨c1,c2⟩,c3⟩:=hc
    have hl:v1.length=1:=by rw[RC.len h1];cases a<;>simp[AV.NO] at c1;rfl
    have hb:=AV.xD c3
    have hl2:=RC.len h2
    match s,p with
    | .cV _,_=>exact hv.elim
    | .idx _,_::_=>exact hv.elim
    |
     .idx 0,[]=>
     cases hg
     refine⟨.aS .func,rfl,by cases a<;>simp[AV.NO] at c1;rfl,by simp[Ty.off,Ty.size];omega,?_⟩
     simp only[Ty.off,Ty.size,gp]
     rw[List.take_append_of_le_length (by omega),gJ (by omega)]
     exact h1
    |
     .idx (i+1),[]=>
     have hv:i+1<n:=hv
     have hcb:b.cK (.fns (n -1))=true:=by
      cases b<;>first|exact c3|cases c3
     obtain⟨s,e1,e2,e3,e4⟩:=ih2 h2 hcb (show(Ty.fns (n -1)).valid [.idx i] from(by show i<n -1;omega)) hg
     cases e1
     refine⟨_,rfl,e2,by simp only[Ty.off,Ty.size,ep] at e3 ⊢;omega,?_⟩
     simp only[Ty.off,Ty.size] at e4 ⊢
     rw[kc _ _ _ _ (by omega),hl,Nat.add_sub_cancel]
     exact e4
   |_=>trivial
 |
  _=>
  grind [AV.get]
theorem jD{α:Type}(v1 v2 us:List α)(k n:Nat)(hk:k+n≤v1.length):(v1++v2).take k++us++(v1++v2).drop (k+n)=(v1.take k++us++v1.drop (k+n))++v2:=by
 grind
theorem jE{α:Type}(v1 v2 us:List α)(k n:Nat)(hk:v1.length≤k):(v1++v2).take k++us++(v1++v2).drop (k+n)=v1++(v2.take (k -v1.length)++us++v2.drop (k -v1.length+n)):=by
 rw[List.take_append,gJ hk,List.drop_append,pJ (by omega)]
 grind
theorem Rel.cast{w:World}{S:Nat→Prop}{u t:Ty}{x:u.den}{cs:List Value}(h:Ty.same u t=true)(hr:Rel w S u cs x):Rel w S t cs (Ty.aB h▸x):=by
 grind
theorem xE{E:Env}{w:World}{v:AV}{us:List Value}(hv:RC E w v us):∀{t:Ty}{x:t.den}{cs:List Value}{p:Path}{u:AV},Rel w E.S t cs x→t.valid p→gX t x p v=some u→
 ∃s,t.sub p=some s∧us.length=s.size∧t.off p+s.size≤cs.length∧RC E w u (cs.take (t.off p)++us++cs.drop (t.off p+s.size)):=by
 intro t
 have base:∀{t:Ty}{x:t.den}{cs:List Value}{u:AV},Rel w E.S t cs x→gX t x [] v=some u→
  ∃s,t.sub []=some s∧us.length=s.size∧t.off []+s.size≤cs.length∧RC E w u (cs.take (t.off [])++us++cs.drop (t.off []+s.size)):=by
  intro t x cs u hr hs
  have hl:=Rel.len hr
  have anq:t.sub []=some t:=by cases t<;>rfl
  have hoff:t.off []=0:=by cases t<;>rfl
  have key:v.JF t=some u:=by
   cases t<;>simpa only[gX] using hs
  unfold AV.JF at key
  split at key
  ·rename_i hc
   simp only[bB] at hc
   cases key
   have hlu:=RC.len hv
   have:=AV.ei hc.2
   grind
  split at key
  ·rename_i y hy
   cases key
   have:=RC.bO hy hv
   have hlu:=Rel.len this
   exact⟨t,anq,hlu,by omega,by rw[hoff,dV,List.take_zero,oo,pJ (by omega),dW];trivial⟩
  ·split at key
   ·rename_i hc
    cases key
    have hlu:=RC.len hv
    have:=AV.ei hc
    grind
   grind
 induction t with
 |
  pair a b ih1 ih2=>
  intro x cs p u hr hva hs
  cases p with
  |nil=>grind
  |
   cons s p=>
   obtain⟨v1,v2,e,h1,h2⟩:=hr
   subst e
   have hl:=Rel.len h1
   cases s with
   |
    cV k=>
    cases k with
    |
     zero=>
     simp only[gX] at hs
     split at hs
     ·rename_i ty y hy
      split at hs
      ·rename_i hsame
       cases hs
       obtain⟨s,e1,e2,e3,e4⟩:=ih1 h1 hva hy
       refine⟨s,e1,e2,by grind [Ty.off],?_⟩
       simp only[Ty.off]
       rw[jD _ _ _ _ _ e3]
       exact⟨_,v2,rfl,Rel.cast hsame e4,h2⟩
      grind
     ·rename_i y _ hy
      cases hs
      obtain⟨s,e1,e2,e3,e4⟩:=ih1 h1 hva hy
      refine⟨s,e1,e2,by grind [Ty.off],?_⟩
      simp only[Ty.off]
      rw[jD _ _ _ _ _ e3]
      exact⟨_,v2,rfl,e4,h2⟩
     grind
    |
     succ k=>
     simp only[gX] at hs
     split at hs
     ·rename_i ty y hy
      split at hs
      ·rename_i hsame
       cases hs
       obtain⟨s,e1,e2,e3,e4⟩:=ih2 h2 hva hy
       refine⟨s,e1,e2,by grind [Ty.off],?_⟩
       simp only[Ty.off]
       rw[jE _ _ _ _ _ (by omega),hl,ot]
       exact⟨v1,_,rfl,h1,Rel.cast hsame e4⟩
      grind
     ·rename_i y _ hy
      cases hs
      obtain⟨s,e1,e2,e3,e4⟩:=ih2 h2 hva hy
      refine⟨s,e1,e2,by grind [Ty.off],?_⟩
      simp only[Ty.off]
      rw[jE _ _ _ _ _ (by omega),hl,ot]
      exact⟨v1,_,rfl,h1,e4⟩
     grind
   |idx i=>trivial
 |
  arr n t ih=>
  intro x cs p u hr hva hs
  cases p with
  |nil=>grind
  |
   cons s p=>
   cases s with
   |cV k=>trivial
   |
    idx i=>
    have hl:=Rel.len hr
    obtain⟨hn,hr⟩:=hr
    obtain⟨hi,hva⟩:=hva
    have hx:i<List.length x:=by grind
    have hg:=aY.get (fun _ _=>Rel.len) t.aD i hr hx
    simp only[gX] at hs
    split at hs
    ·rename_i y hy
     split at hs
     ·rename_i z hz
      cases hs
      obtain⟨s,e1,e2,e3,e4⟩:=ih hg hva hy
      have hb:(i+1)*t.size≤n*t.size:=gK _ hi
      rw[gj,Nat.one_mul] at hb
      have hle:t.off p+s.size≤t.size:=by
       grind
      have aR:=aY.set (r:=Rel w E.S t) (n:=t.size) (fun _ _ h=>Rel.len h) (us:=_) (y:=z) (RC.bO hz e4) i hr hx
      refine⟨s,e1,e2,?_,?_⟩
      ·grind [Ty.off,Ty.size]
      ·simp only[Ty.off]
       refine⟨by simp[hn],?_⟩
       have key:cs.take (i*t.size)++(((cs.drop (i*t.size)).take t.size).take (t.off p)++us++((cs.drop (i*t.size)).take t.size).drop (t.off p+s.size))++cs.drop (i*t.size+t.size)
        =cs.take (i*t.size+t.off p)++us++cs.drop (i*t.size+t.off p+s.size):=by
        rw[sq,pK (by omega),mu,lR]
        have a1:cs.take (i*t.size+t.off p)=cs.take (i*t.size)++(cs.drop (i*t.size)).take (t.off p):=by
         rw[List.take_add]
        have a2:cs.drop (i*t.size+t.off p+s.size)=(cs.drop (i*t.size+(t.off p+s.size))).take (t.size -(t.off p+s.size))++cs.drop (i*t.size+t.size):=by
         have:=lM (t.size -(t.off p+s.size)) (cs.drop (i*t.size+(t.off p+s.size)))
         rw[lR] at this
         rw[show i*t.size+(t.off p+s.size)+(t.size -(t.off p+s.size))=i*t.size+t.size from by omega] at this
         grind
        grind
       grind
     grind
    grind
 |int k=>grind [Ty.valid]
 |bool=>grind [Ty.valid]
 |str=>grind [Ty.valid]
 |slice bs t=>grind [Ty.valid]
 |unit=>grind [Ty.valid]
 |fns n=>grind [gX]
 |map k v=>grind [Ty.valid]
 |aS k=>intro x cs p u hr;trivial
theorem AV.mz{E:Env}{w:World}{v:AV}{us:List Value}(hv:RC E w v us):∀{a:AV}{t:Ty}{cs:List Value}{p:Path}{u:AV},RC E w a cs→a.cK t=true→t.valid p→(∀s,t.sub p=some s→us.length=s.size)→a.set p v=some u→
 ∃s,t.sub p=some s∧us.length=s.size∧t.off p+s.size≤cs.length∧RC E w u (cs.take (t.off p)++us++cs.drop (t.off p+s.size)):=by
 intro a
 have base:∀{a:AV}{t:Ty}{cs:List Value}{u:AV},RC E w a cs→a.cK t=true→(∀s,t.sub []=some s→us.length=s.size)→some v=some u→
  ∃s,t.sub []=some s∧us.length=s.size∧t.off []+s.size≤cs.length∧RC E w u (cs.take (t.off [])++us++cs.drop (t.off []+s.size)):=by
  intro a t cs u hr hc hlen e
  cases e
  have hl:=RC.len hr
  have hs:=AV.ei hc
  have anq:t.sub []=some t:=by cases t<;>rfl
  have hoff:t.off []=0:=by cases t<;>rfl
  grind
 induction a with
 |
  val u x=>
  intro t cs p y hr hc hva _ hs
  have:=Ty.aB (by trivial);subst this
  exact xE hv hr hva hs
 |
  cons a b ih1 ih2=>
  intro t cs p u hr hc hva hlen hs
  cases p with
  |nil=>exact base hr hc hlen hs
  |
   cons s p=>
   cases t with
   |
    pair t1 t2=>
    simp only[AV.cK,bB] at hc
    obtain⟨v1,v2,e,h1,h2⟩:=hr
    subst e
    have hl:=RC.len h1
    have hsz:=AV.ei hc.1
    cases s with
    |
     cV k=>
     cases k with
     |
      zero=>
      simp only[AV.set,fN] at hs
      obtain⟨y,hy,e⟩:=hs
      subst e
      obtain⟨s,e1,e2,e3,e4⟩:=ih1 h1 hc.1 hva hlen hy
      refine⟨s,e1,e2,by grind [Ty.off],?_⟩
      simp only[Ty.off]
      rw[jD _ _ _ _ _ e3]
      exact⟨_,v2,rfl,e4,h2⟩
     |
      succ k=>
      simp only[AV.set,fN] at hs
      obtain⟨y,hy,e⟩:=hs
      subst e
      obtain⟨s,e1,e2,e3,e4⟩:=ih2 h2 hc.2 hva hlen hy
      refine⟨s,e1,e2,by grind [Ty.off],?_⟩
      simp only[Ty.off]
      rw[jE _ _ _ _ _ (by omega),hl,hsz,ot]
      exact⟨v1,_,rfl,h1,e4⟩
    |idx i=>trivial
   |
    fns n=>cases s with
    |cV k=>exact hva.elim
    |idx i=>cases hs
   |_=>trivial
 |
  _=>
  grind [AV.set]
end Go.Ax
namespace Go.Ax
structure Hr where
 g:Nat
 t:Ty
 x:t.den
structure Ctx where
 gl:List Hr
 B:(Nat→Prop)→World→Prop
 mono:∀{S S':Nat→Prop}{w w':World},(∀b,S b→w'.heap[b]? =w.heap[b]?)→(∀b,S b→S' b)→B S w→B S' w'
 ro:Option Nat
 md:Prop
def Ctx.of(l:List Hr):Ctx:=⟨l,fun _ _=>True,fun _ _ _=>trivial,none,False⟩
abbrev Wd(gl:Ctx):Fence:={fn:=fun _=>True,depth:=none,alive:=false,round:=gl.ro}
structure St where
 tm:List AV
 hp:List (Option aP)
 df:List AV
def aP.ids:aP→List Nat
 | .var _ v=>v.ids
 | .tv _ _ v=>v.ids
 | .cY _ _ _ _ _ v=>v.ids
 | .dh _ _ _ _ _ (some (_,v))=>v.ids
 | .pmap _ _ _ _ (some (_,v,_))=>v.ids
 | .gr _ _ _ _ _ v _=>v.ids
 | .il _ l=>l.flatMap fun x=>x.2.ids
 |_=>[]
def aP.Tk:aP→Bool
 | .dh .. | .pmap .. | .gr .. =>true
 |_=>false
def RM(E:Env)(w:World)(k v:Ty):List MapEntry→List (k.den×v.den)→Prop
 |[],[]=>True
 |e::es,x::xs=>cE E w (.val k x.1) e.key∧cE E w (.val v x.2) e.val∧RM E w k v es xs
 |_,_=>False
theorem RM.of{E:Env}{w:World}{kt vt:Ty}:∀{en:List MapEntry}{es:List (kt.den×vt.den)},jR (ik kt.isAgg (Rel w E.S kt)) (ik vt.isAgg (Rel w E.S vt)) en es→RM E w kt vt en es
 |[],[],_=>trivial
 |[],_::_,h=>h.elim
 |_::_,[],h=>h.elim
 |_::_,_::_,⟨h1,h2,h3⟩=>⟨h1,h2,RM.of h3⟩
theorem RM.to{E:Env}{w:World}{kt vt:Ty}:∀{en:List MapEntry}{es:List (kt.den×vt.den)},RM E w kt vt en es→jR (ik kt.isAgg (Rel w E.S kt)) (ik vt.isAgg (Rel w E.S vt)) en es
 |[],[],_=>trivial
 |[],_::_,h=>h.elim
 |_::_,[],h=>h.elim
 |_::_,_::_,⟨h1,h2,h3⟩=>⟨h1,h2,RM.to h3⟩
def mA(i n:Nat)(t:Ty):Ty:=.pair (.arr i t) (.pair t (.pair (.arr (n -i -1) t) .unit))
def R7(w:World)(S:Nat→Prop)(e:TypeId)(bs:Nat)(t:Ty)(v:Value)(og:Option Nat)(xs:List t.den):Prop:=
 xs.length*bs≤aG∧xs.length≤aG∧0<t.size∧∃a cap,v= .slice a xs.length cap∧cap≤maxLen∧
  (
   ((cap=0∧a=none)∧og=none∧xs= [])∨
   (∃g c,og=some g∧a=some ⟨g,0,none⟩∧w.heap[g]? =some (.cells c e (0,0))∧c.size=cap*t.size∧xs.length≤cap∧aY (Rel w S t) (c.toList.take (xs.length*t.size)) xs))
def W8(w:World)(S:Nat→Prop)(k v:Ty)(u:Value)(og:Option Nat)(es:List (k.den×v.den)):Prop:=
 (es.map (·.1)).Nodup∧es.length≤aG∧∃g en clock,og=some g∧u= .map (some g)∧w.heap[g]? =some (.map en clock)∧
  jR (ik k.isAgg (Rel w S k)) (ik v.isAgg (Rel w S v)) en.toList es∧(∀x∈en.toList,x.born<clock)∧(en.toList.map (·.born)).Nodup
def dn(w:World)(S:Nat→Prop)(e:TypeId):(t:Ty)→Value→Option Nat→t.den→Prop
 | .slice bs t,v,og,xs=>R7 w S e bs t v og xs
 | .map k v,u,og,x=>∃es,x=some es∧W8 w S k v u og es
 |_,_,_,_=>False
def zeroV:Ty→Value
 | .map _ _=>.map none
 |_=>.slice none 0 0
structure JG(P:Nat→Prop)(g:Nat)(og:Nat→Option Nat):Prop where
 own:∀i u,og i=some u→P u∧u≠g
 inj:∀i j u,og i=some u→og j=some u→i=j
theorem JG.mono{P P':Nat→Prop}{g:Nat}{og:Nat→Option Nat}(h:JG P g og)(hP:∀u,P u→P' u):JG P' g og:=
 ⟨fun i u e=>⟨hP u (h.own i u e).1,(h.own i u e).2⟩,h.inj⟩
def uG(n:Nat)(t:Ty):Option (Nat×AV)→Ty
 |none=>.arr n t
 |some (i,_)=>mA i n t
theorem dn.mono{w w':World}{S S':Nat→Prop}{e:TypeId}(hw:∀b,S b→w'.heap[b]? =w.heap[b]?)(hS:∀b,S b→S' b):∀{t:Ty}{v:Value}{og:Option Nat}{x:t.den},(∀g,og=some g→w'.heap[g]? =w.heap[g]?)→dn w S e t v og x→dn w' S' e t v og x:=by
 intro t v og x ho h
 cases t with
 |
  slice bs t=>
  obtain⟨h1,h2,h3,a,cap,h4,h5,h6⟩:=h
  refine⟨h1,h2,h3,a,cap,h4,h5,h6.imp id ?_⟩
  grind [aY.mono,Rel.mono]
 |
  map k u=>
  obtain⟨es,h0,h1,h2,g,en,clock,h3,h4,h5,h6,h7⟩:=h
  exact⟨es,h0,h1,h2,g,en,clock,h3,h4,by grind,jR.mono (fun _ _=>ik.mono (fun _ _=>Rel.mono hw hS)) (fun _ _=>ik.mono (fun _ _=>Rel.mono hw hS)) h6,h7⟩
 |_=>trivial
def jV(es:Array MapEntry)(seen:Array Nat):Array MapEntry:=es.filter fun e=> !seen.contains e.born
def PM(E:Env)(w:World)(b:Nat)(k t:Ty)(es:List (k.den×t.den))(e2:TypeId)(f:Option (k.den×AV×Bool)):Prop:=
 (es.map (·.1)).Nodup∧es.length≤aG∧(∀kx v pr,f=some (kx,v,pr)→v.cK t=true)∧∃g en clock og,E.g b=some g∧w.heap[g]? =some (.map en clock)∧(∀x∈en.toList,x.born<clock)∧(en.toList.map (·.born)).Nodup∧JG (E.P b) g og∧en.size=es.length∧
  (∀i x,es[i]? =some x→∃m,en[i]? =some m∧cE E w (.val k x.1) m.key∧(∀v pr,f=some (x.1,v,pr)→og i=none∧RC E w v [m.val])∧((∀v pr,f≠some (x.1,v,pr))→dn w E.S e2 t m.val (og i) x.2))∧
  ∀kx v,(f=some (kx,v,false)→kx∉es.map (·.1)→RC E w v [zeroV t])∧(f=some (kx,v,true)→kx∈es.map (·.1))
def RF(E:Env)(w:World)(k:Ty):List MapEntry→List (k.den×AV)→Prop
 |[],[]=>True
 |e::es,x::xs=>cE E w (.val k x.1) e.key∧RC E w x.2 [e.val]∧x.2.isAgg=false∧RF E w k es xs
 |_,_=>False
def RB(
 E:Env) (w:World) (b:Nat):aP→Prop
 | .ko k v rest cur=>∃g om since seen c0,E.g b=some g∧w.heap[g]? =some (.mapIter om since seen c0)∧((om=none∧rest= []∧cur=none)∨
  ∃bm en,om=some bm∧E.S bm∧w.heap[bm]? =some (.map en c0)∧since=c0∧(∀x∈en.toList,x.born<c0)∧(en.toList.map (·.born)).Nodup∧RM E w k v (jV en seen).toList rest∧
   ∀x,cur=some x→∃e s0,seen=Array.push s0 e.born∧e∈en.toList∧cE E w (.val k x.1) e.key∧cE E w (.val v x.2) e.val)
 | .dh e bs t xs e2 f=>E.bt b=uG xs.length t f∧t.size=1∧xs.length*bs≤aG∧xs.length≤aG∧(∀i v,f=some (i,v)→i<xs.length∧v.cK t=true)∧∃g cap c og,E.sv b= .slice (some ⟨g,0,none⟩) xs.length cap∧cap≤maxLen∧E.g b=some g∧
  w.heap[g]? =some (.cells c e (0,0))∧c.size=cap∧xs.length≤cap∧JG (E.P b) g og∧
  ∀i x,xs[i]? =some x→∃u,c[i]? =some u∧(∀v,f=some (i,v)→og i=none∧RC E w v [u])∧((∀v,f≠some (i,v))→dn w E.S e2 t u (og i) x)
 | .pmap k t es e2 f=>PM E w b k t es e2 f
 | .gr k t es e2 kx v pr=>PM E w b k t es e2 (some (kx,v,pr))∧∃(n:Nat)(g:Nat)(en:Array MapEntry)(clock:Nat),E.sv b= .int .i64 n∧E.g b=some g∧w.heap[g]? =some (.map en clock)∧(kx∉es.map (·.1)→n=clock)∧
  ∀(i:Nat)(m:MapEntry)(y:t.den),es[i]? =some (kx,y)→en[i]? =some m→m.born=n
 | .mw k v es kx=>(es.map (·.1)).Nodup∧es.length≤aG∧∃g en clock,E.g b=some g∧w.heap[g]? =some (.map en clock)∧RM E w k v en.toList es∧(∀x∈en.toList,x.born<clock)∧(en.toList.map (·.born)).Nodup∧
  ∃n:Nat,E.sv b= .int .i64 n∧(kx∉es.map (·.1)→n=clock)∧∀(i:Nat)(m:MapEntry)(y:v.den),es[i]? =some (kx,y)→en[i]? =some m→m.born=n
 | .gu e bs t xs=>∃ys:List t.den,ys.Perm xs∧E.bt b= .arr ys.length t∧ys.length*bs≤aG∧ys.length≤aG∧0<t.size∧∃a cap,E.sv b= .slice a ys.length cap∧cap≤maxLen∧
  (
   ((cap=0∧a=none)∧E.g b=none∧ys= [])∨
   (∃g c,E.g b=some g∧a=some ⟨g,0,none⟩∧w.heap[g]? =some (.cells c e (0,0))∧c.size=cap*t.size∧ys.length≤cap∧aY (Rel w E.S t) (c.toList.take (ys.length*t.size)) ys))
 | .il k l=>(l.map (·.1)).Nodup∧l.length≤aG∧∃g en clock,E.g b=some g∧w.heap[g]? =some (.map en clock)∧RF E w k en.toList l
 | .var t v=>E.bt b=t∧v.cK t=true∧∃g c e,E.g b=some g∧w.heap[g]? =some (.cells c e (0,0))∧RC E w v c.toList
 | .row e bs t xs=>E.bt b= .arr xs.length t∧xs.length*bs≤aG∧xs.length≤aG∧0<t.size∧∃a cap,E.sv b= .slice a xs.length cap∧cap≤maxLen∧
  (
   ((cap=0∧a=none)∧E.g b=none∧xs= [])∨
   (∃g c,E.g b=some g∧a=some ⟨g,0,none⟩∧w.heap[g]? =some (.cells c e (0,0))∧c.size=cap*t.size∧xs.length≤cap∧aY (Rel w E.S t) (c.toList.take (xs.length*t.size)) xs))
 | .map k v es=>(es.map (·.1)).Nodup∧es.length≤aG∧∃g en clock,E.g b=some g∧w.heap[g]? =some (.map en clock)∧RM E w k v en.toList es∧(∀x∈en.toList,x.born<clock)∧(en.toList.map (·.born)).Nodup
 | .lp y j=>E.g b=some y.l∧w.heap[y.l]? =some (.loop (y.rc j))
 | .sY=>∃g,E.g b=some g∧w.heap[g]? =some (.deferred (some []))
 | .tv g t v=>E.g b=some g∧E.bt b=t∧v.cK t=true∧∃c e,w.heap[g]? =some (.cells c e (0,0))∧RC E w v c.toList
 | .cY e bs t xs i v=>E.bt b=mA i xs.length t∧i<xs.length∧xs.length*bs≤aG∧xs.length≤aG∧0<t.size∧v.cK t=true∧∃g cap c,E.sv b= .slice (some ⟨g,0,none⟩) xs.length cap∧cap≤maxLen∧E.g b=some g∧
  w.heap[g]? =some (.cells c e (0,0))∧c.size=cap*t.size∧xs.length≤cap∧aY (Rel w E.S t) (c.toList.take (i*t.size)) (xs.take i)∧RC E w v ((c.toList.drop (i*t.size)).take t.size)∧
  aY (Rel w E.S t) ((c.toList.drop ((i+1)*t.size)).take ((xs.length -(i+1))*t.size)) (xs.drop (i+1))
def JH(gl:Ctx)(E:Env)(w:World):Prop:=(∀x∈gl.gl,E.S x.g∧∃cs,px w ⟨x.g,0,none⟩ cs∧Rel w E.S x.t cs x.x)∧gl.B E.S w
structure HW(gl:Ctx)(E:Env)(w:World)(hp:List (Option aP)):Prop where
 cX:∀b k,hp[b]? =some (some k)→RB E w b k
 eH:∀b b' k k' g,hp[b]? =some (some k)→hp[b']? =some (some k')→E.has b g→E.has b' g→b=b'
 dL:∀b k g,hp[b]? =some (some k)→E.has b g→¬E.S g
 slt:∀g,E.S g→g<w.heap.size
 gl:JH gl E w
 sZ:∀b k g,hp[b]? =some (some k)→E.P b g→g<w.heap.size
theorem HW.sep{gl:Ctx}{E:Env}{w:World}{hp:List (Option aP)}(h:HW gl E w hp)(b b':Nat)(k k':aP)(g:Nat)(h1:hp[b]? =some (some k))(h2:hp[b']? =some (some k'))(h3:E.g b=some g)(h4:E.g b'=some g):b=b':=h.eH b b' k k' g h1 h2 (Or.inl h3) (Or.inl h4)
theorem HW.kf{gl:Ctx}{E:Env}{w:World}{hp:List (Option aP)}(h:HW gl E w hp)(b:Nat)(k:aP)(g:Nat)(h1:hp[b]? =some (some k))(h3:E.g b=some g):¬E.S g:=h.dL b k g h1 (Or.inl h3)
def bK(hp:List (Option aP))(E:Env)(g:Nat):Prop:=∃b k,hp[b]? =some (some k)∧E.has b g
def Tp(md:Prop)(w w':World):Prop:=w'.tape=w.tape∧(md→w.drawn≤w'.drawn)
theorem Tp.r{md:Prop}{w w':World}(h:w'.tape=w.tape)(k:w'.drawn=w.drawn):Tp md w w':=⟨h,fun _=>Nat.le_of_eq k.symm⟩
theorem Tp.s{md:Prop}{w w':World}(h:w'.tape=w.tape)(k:w'.drawn=w.drawn+1):Tp md w w':=⟨h,fun _=>k▸Nat.le_succ _⟩
theorem Tp.trans{md:Prop}{w v u:World}(h:Tp md w v)(k:Tp md v u):Tp md w u:=⟨k.1.trans h.1,fun m=>cI (h.2 m) (k.2 m)⟩
structure Ext(md:Prop)(O:Nat→Prop)(E:Env)(w:World)(O':Nat→Prop)(E':Env)(w':World):Prop where
 os:w'.os=w.os
 tape:Tp md w w'
 output:w'.output=w.output
 size:w.heap.size≤w'.heap.size
 kept:∀g,g<w.heap.size→¬O g→w'.heap[g]? =w.heap[g]?
 sle:∀g,E.S g→E'.S g
 mB:∀g,E'.S g→E.S g∨O g∨w.heap.size≤g
 own:∀g,O' g→O g∨w.heap.size≤g
 Ht:∀b,b<16→E'.g b=E.g b∧E'.sv b=E.sv b∧E'.bt b=E.bt b
theorem Ext.refl{md:Prop}(O:Nat→Prop)(E:Env)(w:World):Ext md O E w O E w:=
 ⟨rfl,Tp.r rfl rfl,rfl,dc _,fun _ _ _=>rfl,fun _ h=>h,fun _ h=>Or.inl h,fun _ h=>Or.inl h,fun _ _=>⟨rfl,rfl,rfl⟩⟩
theorem Ext.trans{md:Prop}{O O1 O2:Nat→Prop}{E E1 E2:Env}{w w1 w2:World}(h:Ext md O E w O1 E1 w1)(k:Ext md O1 E1 w1 O2 E2 w2):Ext md O E w O2 E2 w2 where
 os:=k.os.trans h.os
 tape:=h.tape.trans k.tape
 output:=k.output.trans h.output
 size:=cI h.size k.size
 kept:=fun g hg ho=>by
  rw[k.kept g (Nat.lt_of_lt_of_le hg h.size) (fun h1=>(h.own g h1).elim ho (fun h2=>by omega)),h.kept g hg ho]
 sle:=fun g hg=>k.sle g (h.sle g hg)
 mB:=fun g hg=>by
  rcases k.mB g hg with h1|h1|h1
  ·exact h.mB g h1
  ·exact(h.own g h1).elim (fun x=>Or.inr (Or.inl x)) (fun x=>Or.inr (Or.inr x))
  ·exact Or.inr (Or.inr (cI h.size h1))
 own:=fun g hg=>by
  rcases k.own g hg with h1|h1
  ·exact h.own g h1
  ·exact Or.inr (cI h.size h1)
 Ht:=fun b hb=>⟨(k.Ht b hb).1.trans (h.Ht b hb).1,(k.Ht b hb).2.1.trans (h.Ht b hb).2.1,(k.Ht b hb).2.2.trans (h.Ht b hb).2.2⟩
def RD(E:Env)(w:World):List AV→List Deferred→Prop
 |[],[]=>True
 | .mp b::l,d::ds=>(∃g,E.g b=some g∧d={target:=.collected g,args:= #[]})∧RD E w l ds
 | .func fn fs cs::l,d::ds=>(∃f c,d={target:=.fn fn c,args:=f}∧RC E w fs f.toList∧RC E w cs c.toList∧fs.atoms=true∧cs.atoms=true)∧RD E w l ds
 |_,_=>False
theorem RD.mono{E E':Env}{w w':World}(k:bS E w E' w'):∀{l:List AV}{ds:List Deferred},(∀a∈l,E.on E' a.ids)→RD E w l ds→RD E' w' l ds
 |[],[],_,_=>trivial
 |[],_::_,_,h=>h.elim
 |a::l,[],_,h=>by cases a<;>exact h.elim
 |
  a::l,d::ds,ho,h=>by
  cases a with
  |
   func fn fs cs=>
   obtain⟨⟨f,c,e,h1,h2,h3,h4⟩,h5⟩:=h
   have:=ho _ (dE ..)
   exact⟨⟨f,c,e,RC.mono k this.left h1,RC.mono k this.right h2,h3,h4⟩,RD.mono k (fun a ha=>ho a (d7 _ ha)) h5⟩
  |
   mp b=>
   obtain⟨⟨g,e1,e2⟩,h5⟩:=h
   have:=ho _ (dE ..) b (by simp[AV.ids])
   exact⟨⟨g,by rw[this.1];exact e1,e2⟩,RD.mono k (fun a ha=>ho a (d7 _ ha)) h5⟩
  |_=>exact h.elim
structure cp(gl:Ctx)(σ:St)(E:Env)(a:Act)(w:World):Prop where
 len:a.tmps.size=σ.tm.length
 tm:∀(i:Nat)(x:AV),σ.tm[i]? =some x→∀v,a.tmps[i]? =some v→RV E w x v
 hw:HW gl E w σ.hp
 df:RD E w σ.df a.defers
theorem HW.kept{gl:Ctx}{E E':Env}{w w':World}{hp:List (Option aP)}{O':Nat→Prop}(h:HW gl E w hp)(x:Ext gl.md (bK hp E) E w O' E' w'):bS E w E' w' where
 w:=fun b hb=>x.kept b (h.slt b hb) (fun⟨c,k,hc,hg⟩=>h.dL c k b hc hg hb)
 S:=x.sle
theorem RM.mono{E E':Env}{w w':World}(k:bS E w E' w'){kt vt:Ty}:∀{l:List MapEntry}{xs:List (kt.den×vt.den)},RM E w kt vt l xs→RM E' w' kt vt l xs
 |[],[],_=>trivial
 |[],_::_,h=>h.elim
 |_::_,[],h=>h.elim
 |e::l,x::xs,h=>⟨cE.mono k (fun b hb=>by cases hb) h.1,cE.mono k (fun b hb=>by cases hb) h.2.1,RM.mono k h.2.2⟩
theorem PM.mono{E E':Env}{w w':World}{b:Nat}{kt t:Ty}{es:List (kt.den×t.den)}{e2':TypeId}{f:Option (kt.den×AV×Bool)}(kp:bS E w E' w')(ho':E.on E' (aP.pmap kt t es e2' f).ids)(hkA:∀g,E.has b g→w'.heap[g]? =w.heap[g]?)(e1:E'.g b=E.g b)(hP:∀g,E.P b g→E'.P b g)(h:PM E w b kt t es e2' f):PM E' w' b kt t es e2' f:=by
 have hk:∀g,E.g b=some g→w'.heap[g]? =w.heap[g]? :=fun g h=>hkA g (Or.inl h)
 obtain⟨h1,h2,h3,g,en,clock,og,q1,q2,q3,q4,q5,q6,q7,q8⟩:=h
 refine⟨h1,h2,h3,g,en,clock,og,by grind,by grind,q3,q4,q5.mono hP,q6,fun i x hx=>?_,fun kx v=>⟨fun hf hn=>?_,(q8 kx v).2⟩⟩
 ·obtain⟨m,r1,r2,r3,r4⟩:=q7 i x hx
  refine⟨m,r1,cE.mono kp (fun _ hb=>by cases hb) r2,fun v pr hv=>⟨(r3 v pr hv).1,?_⟩,fun hv=>dn.mono kp.w kp.S (fun gg hgg=>hkA gg (Or.inr (q5.own i gg hgg).1)) (r4 hv)⟩
  subst hv
  exact RC.mono kp ho' (r3 v pr rfl).2
 ·subst hf
  exact RC.mono kp ho' ((q8 kx v).1 rfl hn)
theorem RF.mono{E E':Env}{w w':World}(k:bS E w E' w'){kt:Ty}:∀{l:List MapEntry}{xs:List (kt.den×AV)},E.on E' (xs.flatMap fun x=>x.2.ids)→RF E w kt l xs→RF E' w' kt l xs
 |[],[],_,_=>trivial
 |[],_::_,_,h=>h.elim
 |_::_,[],_,h=>h.elim
 |e::l,x::xs,ho,h=>⟨cE.mono k (fun b hb=>by cases hb) h.1,RC.mono k (Env.on.left (by trivial)) h.2.1,h.2.2.1,RF.mono k (Env.on.right (a:=x.2.ids) (by grind)) h.2.2.2⟩
theorem RB.mono{E E':Env}{w w':World}{b:Nat}{k:aP}(kp:bS E w E' w')(ho:E.on E' (b::k.ids))(hk:∀g,E.has b g→w'.heap[g]? =w.heap[g]?)(hP:k.Tk=true→∀g,E.P b g→E'.P b g)(h:RB E w b k):RB E' w' b k:=by
 have hkA:=hk
 have hk:∀g,E.g b=some g→w'.heap[g]? =w.heap[g]? :=fun g h=>hk g (Or.inl h)
 obtain⟨e1,e2,e3⟩:=ho b (dE ..)
 have ho':E.on E' k.ids:=fun x hx=>ho x (d7 _ hx)
 cases k with
 |
  var t v=>
  obtain⟨h1,h2,g,c,e,h3,h4,h5⟩:=h
  exact⟨by grind,h2,g,c,e,by grind,by grind,RC.mono kp ho' h5⟩
 |
  row e bs t xs=>
  obtain⟨h1,h2,h3,h4,a,cap,h5,h6,h7⟩:=h
  refine⟨by grind,h2,h3,h4,a,cap,by grind,h6,?_⟩
  rcases h7 with⟨h7,h8,h9⟩|⟨g,c,h7,h8,h9,h10,h11,h12⟩
  ·grind
  ·exact Or.inr ⟨g,c,by grind,h8,by grind,h10,h11,aY.mono (fun _ _=>Rel.mono kp.w kp.S) h12⟩
 |
  map kt vt es=>
  obtain⟨h1,h1',g,en,clock,h2,h3,h4,h5,h6⟩:=h
  exact⟨h1,h1',g,en,clock,by grind,by grind,RM.mono kp h4,h5,h6⟩
 |
  mw kt vt es kx=>
  obtain⟨h1,h1',g,en,clock,h2,h3,h4,h5,h6,n,h7,h8⟩:=h
  exact⟨h1,h1',g,en,clock,by grind,by grind,RM.mono kp h4,h5,h6,n,by grind,h8⟩
 |
  gu e bs t xs=>
  obtain⟨ys,hp,h1,h2,h3,h4,a,cap,h5,h6,h7⟩:=h
  refine⟨ys,hp,by grind,h2,h3,h4,a,cap,by grind,h6,?_⟩
  rcases h7 with⟨h7,h8,h9⟩|⟨g,c,h7,h8,h9,h10,h11,h12⟩
  ·grind
  ·exact Or.inr ⟨g,c,by grind,h8,by grind,h10,h11,aY.mono (fun _ _=>Rel.mono kp.w kp.S) h12⟩
 |
  ko k v rest cur=>
  obtain⟨g,om,since,seen,c0,q1,q2,q3⟩:=h
  refine⟨g,om,since,seen,c0,by grind,by grind,q3.imp id ?_⟩
  rintro⟨bm,en,r1,r2,r3,r4,r5,r6,r7,r8⟩
  refine⟨bm,en,r1,kp.S bm r2,by rw[kp.w bm r2];exact r3,r4,r5,r6,RM.mono kp r7,fun x hx=>?_⟩
  obtain⟨e,s0,t1,t2,t3,t4⟩:=r8 x hx
  exact⟨e,s0,t1,t2,cE.mono kp (fun _ hb=>by cases hb) t3,cE.mono kp (fun _ hb=>by cases hb) t4⟩
 |
  dh e bs t xs e2' f=>
  obtain⟨h1,h2,h3,h4,h5,g,cap,c,og,q1,q2,q3,q4,q5,q6,q7,q8⟩:=h
  refine⟨by grind,h2,h3,h4,h5,g,cap,c,og,by grind,q2,by grind,by grind,q5,q6,q7.mono (hP rfl),fun i x hx=>?_⟩
  obtain⟨u,r1,r2,r3⟩:=q8 i x hx
  refine⟨u,r1,fun v hv=>⟨(r2 v hv).1,?_⟩,fun hv=>dn.mono kp.w kp.S (fun gg hgg=>hkA gg (Or.inr (q7.own i gg hgg).1)) (r3 hv)⟩
  subst hv
  exact RC.mono kp ho' (r2 v rfl).2
 |pmap kt t es e2' f=>exact PM.mono kp (by grind) hkA e1 (hP rfl) h
 |
  gr kt t es e2' kx v pr=>
  obtain⟨h1,n,g,en,clock,q1,q2,q3,q4,q5⟩:=h
  exact⟨PM.mono kp ho' hkA e1 (hP rfl) h1,n,g,en,clock,by grind,by grind,by grind,q4,q5⟩
 |
  il kt l=>
  obtain⟨h1,h2,g,en,clock,q1,q2,q3⟩:=h
  exact⟨h1,h2,g,en,clock,by grind,by grind,RF.mono kp ho' q3⟩
 |lp l r=>exact⟨by rw[e1];exact h.1,by rw[hk l.l h.1];exact h.2⟩
 |sY=>obtain⟨g,h1,h2⟩:=h;exact⟨g,by grind,by grind⟩
 |
  tv g t v=>
  obtain⟨h0,h1,h2,c,e,h4,h5⟩:=h
  exact⟨by grind,by grind,h2,c,e,by grind,RC.mono kp ho' h5⟩
 |
  cY e bs t xs i v=>
  obtain⟨h1,h2,h3,h4,h5,h6,g,cap,c,q1,q2,q3,q4,q5,q6,q7,q8,q9⟩:=h
  exact⟨by grind,h2,h3,h4,h5,h6,g,cap,c,by grind,q2,by grind,by grind,q5,q6,aY.mono (fun _ _=>Rel.mono kp.w kp.S) q7,RC.mono kp ho' q8,aY.mono (fun _ _=>Rel.mono kp.w kp.S) q9⟩
def St.put(σ:St)(dst:Option Nat)(x:AV):St:=
 match dst with
 |some d=>{σ with tm:=σ.tm.set d x}
 |none=>σ
def St.cX(σ:St)(b:Nat)(k:Option aP):St:={σ with hp:=σ.hp.set b k}
theorem cp.put{gl:Ctx}{σ:St}{E:Env}{a:Act}{w:World}(h:cp gl σ E a w)(dst:Option Nat){x:AV}{v:Value}(hv:RV E w x v):cp gl (σ.put dst x) E (a.put dst v) w:=by
 cases dst with
 |none=>exact h
 |
  some d=>
  refine⟨by simp[Act.put,St.put,h.len],?_,h.hw,h.df⟩
  intro i y hi u hu
  simp only[St.put,dm] at hi
  simp only[Act.put,Array.getElem?_setIfInBounds] at hu
  by_cases e:d=i
  ·grind
  ·simp only[e,cT] at hi hu
   exact h.tm i y hi u hu
def St.ids(σ:St):List Nat:=σ.tm.flatMap AV.ids++σ.df.flatMap AV.ids++(σ.hp.filterMap id).flatMap aP.ids
theorem St.Dl{σ:St}{i:Nat}{x:AV}(h:σ.tm[i]? =some x):∀b∈x.ids,b∈σ.ids:=fun b hb=>by
 simp only[St.ids,jB,List.mem_flatMap]
 grind
theorem St.JI{σ:St}{x:AV}(h:x∈σ.df):∀b∈x.ids,b∈σ.ids:=fun b hb=>by
 grind [St.ids]
theorem St.yT{σ:St}{i:Nat}{k:aP}(h:σ.hp[i]? =some (some k)):∀b∈k.ids,b∈σ.ids:=fun b hb=>by
 simp only[St.ids,jB,List.mem_flatMap]
 exact Or.inr ⟨k,List.mem_filterMap.2 ⟨some k,je h,rfl⟩,hb⟩
theorem cp.carry{gl:Ctx}{σ:St}{E E':Env}{a:Act}{w w':World}(h:cp gl σ E a w)(k:bS E w E' w')(ho:E.on E' σ.ids){hp:List (Option aP)}(hw:HW gl E' w' hp):cp gl {σ with hp:=hp} E' a w':=
 ⟨h.len,fun i x hi v hv=>RV.mono k (fun b hb=>ho b (St.Dl (σ:=σ) hi b hb)) (h.tm i x hi v hv),hw,RD.mono k (fun _x hx b hb=>ho b (St.JI (σ:=σ) hx b hb)) h.df⟩
def Env.at(E:Env)(d:Nat)(g:Option Nat)(sv:Value)(t:Ty):Env:=
 {E with g:=fun b=>if b=d then g else E.g b,sv:=fun b=>if b=d then sv else E.sv b,bt:=fun b=>if b=d then t else E.bt b,P:=fun b=>if b=d then fun _=>False else E.P b}
theorem Env.JJ{E:Env}{d:Nat}{g:Option Nat}{sv:Value}{t:Ty}(h:16≤d):∀b,b<16→(E.at d g sv t).g b=E.g b∧(E.at d g sv t).sv b=E.sv b∧(E.at d g sv t).bt b=E.bt b:=fun b hb=>by
 grind [Env.at]
theorem Env.BD{E:Env}{d:Nat}{g:Option Nat}{sv:Value}{t:Ty}{ids:List Nat}(h:d∉ids):E.on (E.at d g sv t) ids:=fun b hb=>by
 grind [Env.at]
theorem HW.gZ{gl:Ctx}{E E':Env}{w w':World}{hp:List (Option aP)}(h:HW gl E w hp)(k:bS E w E' w'):JH gl E' w':=
 ⟨fun x hx=>by
  obtain⟨h1,cs,h2,h3⟩:=h.gl.1 x hx
  exact⟨k.S _ h1,cs,h2.mono (k.w _ h1),Rel.mono k.w k.S h3⟩,gl.mono k.w k.S h.gl.2⟩
theorem HW.below{gl:Ctx}{E:Env}{w:World}{hp:List (Option aP)}(h:HW gl E w hp){b i:Nat}{k':aP}(hb:hp[b]? =some (some k'))(hgi:E.has b i):i<w.heap.size:=by
 rcases hgi with hgi|hgi
 case inr=>exact h.sZ b k' i hb hgi
 have:=h.cX b k' hb
 cases k' with
 |var t v=>obtain⟨_,_,g,c,e,h3,h4,_⟩:=this;grind
 |
  row e bs t xs=>
  obtain⟨_,_,_,_,a,cap,_,_,h7⟩:=this
  grind
 |map kt vt es=>obtain⟨_,_,g,en,clock,h2,h3,_⟩:=this;grind
 |mw kt vt es kx=>obtain⟨_,_,g,en,clock,h2,h3,_⟩:=this;grind
 |
  gu e bs t xs=>
  obtain⟨_,_,_,_,_,_,a,cap,_,_,h7⟩:=this
  grind
 |ko k v rest cur=>obtain⟨g,_,_,_,_,h3,h4,_⟩:=this;grind
 |dh e bs t xs e2 f=>obtain⟨_,_,_,_,_,g,cap,c,og,_,_,h3,h4,_⟩:=this;grind
 |pmap kt t es e2 f=>obtain⟨_,_,_,g,en,clock,og,h3,h4,_⟩:=this;grind
 |gr kt t es e2 kx v pr=>obtain⟨_,n,g,en,clock,_,h3,h4,_⟩:=this;grind
 |il kt l=>obtain⟨_,_,g,en,clock,h3,h4,_⟩:=this;grind
 |lp l r=>obtain⟨h2,h3⟩:=this;grind
 |sY=>obtain⟨g,h2,h3⟩:=this;grind
 |tv g t v=>obtain⟨h2,_,_,c,e,h3,_⟩:=this;grind
 |cY e bs t xs i v=>obtain⟨_,_,_,_,_,_,g,cap,c,_,_,h3,h4,_⟩:=this;grind
theorem bK.below{gl:Ctx}{E:Env}{w:World}{hp:List (Option aP)}(h:HW gl E w hp){i:Nat}(ho:bK hp E i):i<w.heap.size:=by
 obtain⟨b,k',hb,hgi⟩:=ho
 exact h.below hb hgi
theorem Env.iY{E:Env}{d:Nat}{g:Option Nat}{sv:Value}{t:Ty}{b i:Nat}(hne:b≠d):(E.at d g sv t).has b i↔E.has b i:=by simp[Env.has,Env.at,hne]
theorem Env.jW{E:Env}{d:Nat}{g:Option Nat}{sv:Value}{t:Ty}{i:Nat}:(E.at d g sv t).has d i↔g=some i:=by simp[Env.has,Env.at]
theorem HW.fresh{gl:Ctx}{E:Env}{w w':World}{hp:List (Option aP)}(h:HW gl E w hp){d:Nat}{g:Option Nat}{sv:Value}{t:Ty}{k:aP}
 (hsz:w.heap.size≤w'.heap.size) (hold:∀i,i<w.heap.size→w'.heap[i]? =w.heap[i]?)
 (hd:∀k',hp[d]? ≠some (some k')) (hids:∀(b:Nat)(k':aP),hp[b]? =some (some k')→d∉k'.ids) (hg:∀i,g=some i→w.heap.size≤i) (hb:RB (E.at d g sv t) w' d k):HW gl (E.at d g sv t) w' (hp.set d (some k)):=by
 have kp:bS E w (E.at d g sv t) w':=⟨fun b hb=>hold b (h.slt b hb),fun b hb=>hb⟩
 have old:∀(b:Nat)(k':aP),b≠d→(hp.set d (some k))[b]? =some (some k')→hp[b]? =some (some k'):=by
  grind
 refine⟨?_,?_,?_,?_,h.gZ kp,?_⟩
 ·intro b k' hbk
  by_cases e:b=d
  ·grind
  ·have hbk':=old b k' e hbk
   refine RB.mono kp (Env.BD ?_) ?_ (fun _ g hg=>by simpa[Env.at,e] using hg) (h.cX b k' hbk')
   ·grind
   ·intro i hi
    exact hold i (h.below hbk' hi)
 ·intro b b' k1 k2 i hb hb' h1 h2
  by_cases e:b=d<;>by_cases e':b'=d
  ·grind
  ·subst e
   have h1:=hg i (Env.jW.1 h1)
   have:=h.below (old b' k2 e' hb') ((Env.iY e').1 h2)
   omega
  ·subst e'
   have h2:=hg i (Env.jW.1 h2)
   have:=h.below (old b k1 e hb) ((Env.iY e).1 h1)
   omega
  ·exact h.eH b b' k1 k2 i (old b k1 e hb) (old b' k2 e' hb') ((Env.iY e).1 h1) ((Env.iY e').1 h2)
 ·intro b k1 i hb h1 hs
  by_cases e:b=d
  ·subst e
   have:=hg i (Env.jW.1 h1)
   have:=h.slt i hs
   omega
  ·exact h.dL b k1 i (old b k1 e hb) ((Env.iY e).1 h1) hs
 ·intro i hs;exact Nat.lt_of_lt_of_le (h.slt i hs) hsz
 ·intro b k1 i hb h1
  by_cases e:b=d
  ·subst e;simp[Env.at] at h1
  ·have h1:E.P b i:=by simpa[Env.at,e] using h1
   exact Nat.lt_of_lt_of_le (h.sZ b k1 i (old b k1 e hb) h1) hsz
theorem HW.write{gl:Ctx}{E:Env}{w w':World}{hp:List (Option aP)}(h:HW gl E w hp){b:Nat}{k k':aP}(hb:hp[b]? =some (some k))(hsz:w'.heap.size=w.heap.size)
 (hold:∀i,E.g b≠some i→w'.heap[i]? =w.heap[i]?) (hk:RB E w' b k'):HW gl E w' (hp.set b (some k')):=by
 have kp:bS E w E w':=⟨fun i hi=>hold i (fun e=>h.kf b k i hb e hi),fun b hb=>hb⟩
 have old:∀(b':Nat)(k2:aP),b'≠b→(hp.set b (some k'))[b']? =some (some k2)→hp[b']? =some (some k2):=by
  grind
 have any:∀(b':Nat)(k2:aP),(hp.set b (some k'))[b']? =some (some k2)→∃k3:aP,hp[b']? =some (some k3):=by
  grind
 refine⟨?_,?_,?_,?_,h.gZ kp,?_⟩
 ·intro b' k2 hb'
  by_cases e:b'=b
  ·grind
  ·have hb2:=old b' k2 e hb'
   refine RB.mono kp (fun x _=>⟨rfl,rfl,rfl⟩) ?_ (fun _ _ h=>h) (h.cX b' k2 hb2)
   intro i hi
   exact hold i (fun e'=>e (h.eH b' b k2 k i hb2 hb hi (Or.inl e')))
 ·intro b1 b2 k1 k2 i h1 h2 g1 g2
  obtain⟨k3,h3⟩:=any b1 k1 h1
  obtain⟨k4,h4⟩:=any b2 k2 h2
  exact h.eH b1 b2 k3 k4 i h3 h4 g1 g2
 ·intro b1 k1 i h1 g1
  obtain⟨k3,h3⟩:=any b1 k1 h1
  exact h.dL b1 k3 i h3 g1
 ·intro i hi;rw[hsz];exact h.slt i hi
 ·intro b1 k1 i h1 g1
  obtain⟨k3,h3⟩:=any b1 k1 h1
  rw[hsz];exact h.sZ b1 k3 i h3 g1
theorem bK.set{hp:List (Option aP)}{E:Env}{b:Nat}{k k':aP}(hb:hp[b]? =some (some k)){i:Nat}(h:bK (hp.set b (some k')) E i):bK hp E i:=by
 obtain⟨b',k2,hb',hg⟩:=h
 by_cases e:b'=b
 ·subst e;exact⟨b',k,hb,hg⟩
 ·rw[dm,aC (fun e'=>e e'.symm)] at hb'
  exact⟨b',k2,hb',hg⟩
end Go.Ax
namespace Go.Ax
structure MS where
 name:String
 f:FuncId
 st:Option (TypeId×Nat×TypeId)
structure TD where
 ty:Ty
 e:TypeId:=0
 e2:TypeId:=0
 ms:List MS:=[]
abbrev cd:=List (Option TD)
def cd.at(G:cd)(t:TypeId):Option TD:=(G[t]?).join
def gq.zero:gq→AV
 | .ptr=>.fC
 | .map=>.eA
 | .func=>.fD
 | .iface=>.gW
 | .sl=>.bF
def Ty.zero:Ty→AV
 | .slice _ _=>.bF
 | .pair a b=>.cons a.zero b.zero
 | .unit=>.nil
 | .aS k=>gq.zero k
 | .map _ _=>.eA
 |t=>.val t t.aD
def Ty.pure:Ty→Bool
 | .arr _ t=>t.pure
 | .slice _ t=>t.pure
 | .pair a b=>a.pure&&b.pure
 | .aS _| .fns _=>false
 | .map k v=>k.pure&&v.pure
 |_=>true
def JK:Value→Bool
 | .nilFunc=>true
 |_=>false
def isZero:Ty→Value→Bool
 | .int k,.int k' n=>Nat.beq (IntKind.code k) (IntKind.code k')&&decide (n=0)
 | .bool,.bool b=> !b
 | .str,.string s=>s.data.toList.isEmpty
 | .slice _ _,.slice a n c=>a.isNone&&Nat.beq n 0&&Nat.beq c 0
 | .aS .ptr,.pointer a=>a.isNone
 | .aS .map,.map a=>a.isNone
 | .map _ _,.map a=>a.isNone
 | .aS .func,.nilFunc=>true
 | .aS .iface,.nilIface=>true
 | .aS .sl,.slice a n c=>a.isNone&&Nat.beq n 0&&Nat.beq c 0
 |_,_=>false
def mC:Ty→List Value→Bool
 | .arr n t,cs=>Nat.beq cs.length (n*t.size)&&t.pure&&(List.range n).all fun i=>mC t ((cs.drop (i*t.size)).take t.size)
 | .pair a b,cs=>Nat.ble a.size cs.length&&mC a (cs.take a.size)&&mC b (cs.drop a.size)
 | .unit,cs=>cs.isEmpty
 | .fns n,cs=>Nat.beq cs.length n&&cs.all JK
 |t,[v]=>isZero t v
 |_,_=>false
theorem jv{E:Env}{w:World}{t:Ty}{v:Value}(ha:t.isAgg=false)(h:isZero t v=true):RC E w t.zero [v]∧(t.pure=true→Rel w E.S t [v] t.aD):=by
 cases t with
 |
  int k=>
  cases v<;>simp[isZero] at h
  obtain⟨h1,h2⟩:=h
  have:=IntKind.iS h1
  subst this;subst h2
  refine⟨⟨rfl,?_,?_⟩,fun _=>⟨rfl,?_,?_⟩⟩<;>(cases k<;>decide)
 |
  bool=>
  cases v<;>simp[isZero] at h
  subst h
  exact⟨rfl,fun _=>rfl⟩
 |
  str=>
  cases v with
  |
   string s=>
   simp[isZero] at h
   have:s=⟨#[]⟩:=by cases s;simp_all
   subst this
   exact⟨⟨rfl,by trivial⟩,fun _=>⟨rfl,by trivial⟩⟩
  |_=>trivial
 |
  slice bs t=>
  cases v with
  |
   slice a n c=>
   simp[isZero] at h
   obtain⟨⟨h1,h2⟩,h3⟩:=h
   subst h1;subst h2;subst h3
   exact⟨rfl,fun _=>⟨none,0,rfl,dc _,by simp[Ty.aD],by simp[Ty.aD],Or.inl rfl⟩⟩
  |_=>trivial
 |
  map k e=>
  cases v<;>simp[isZero] at h
  subst h
  exact⟨rfl,fun _=>⟨none,rfl,Or.inl ⟨rfl,rfl⟩⟩⟩
 |
  aS k=>
  refine⟨?_,fun hp=>by trivial⟩
  cases k<;>cases v<;>simp[isZero] at h<;>first|rfl|(subst h;rfl)|(obtain⟨⟨h1,h2⟩,h3⟩:=h;subst h1;subst h2;subst h3;rfl)
 |_=>trivial
theorem aY.BE{α:Type}{r:List Value→α→Prop}(x:α)(k:Nat):∀(n:Nat)(cs:List Value),cs.length=n*k→(∀i,i<n→r ((cs.drop (i*k)).take k) x)→aY r cs (List.replicate n x):=by
 intro n
 induction n with
 |zero=>grind [aY]
 |
  succ n ih=>
  intro cs hl h
  rw[List.replicate_succ]
  rw[gj,Nat.one_mul] at hl
  refine⟨cs.take k,cs.drop k,(lM k cs).symm,by have:=h 0 (by omega);grind,ih _ (by grind) ?_⟩
  intro i hi
  have:=h (i+1) (by omega)
  simp_all[gj,Nat.add_comm]
theorem fS{E:Env}{w:World}:∀{t:Ty}{cs:List Value},mC t cs=true→RC E w t.zero cs∧(t.pure=true→Rel w E.S t cs t.aD):=by
 intro t
 induction t with
 |
  arr n t ih=>
  intro cs h
  simp only[mC,bB,lP,List.mem_range] at h
  obtain⟨⟨h1,h2⟩,h3⟩:=h
  have h1':cs.length=n*t.size:=bT h1
  have:Rel w E.S (.arr n t) cs (Ty.aD (.arr n t)):=
   ⟨by simp[Ty.aD],aY.BE t.aD t.size n cs h1' (fun i hi=>(ih (h3 i hi)).2 h2)⟩
  exact⟨this,fun _=>this⟩
 |
  pair a b ih1 ih2=>
  intro cs h
  simp only[mC,bB] at h
  obtain⟨⟨_,h1⟩,h2⟩:=h
  have e:=(lM a.size cs).symm
  refine⟨⟨_,_,e,(ih1 h1).1,(ih2 h2).1⟩,fun hp=>?_⟩
  simp only[Ty.pure,bB] at hp
  exact⟨_,_,e,(ih1 h1).2 hp.1,(ih2 h2).2 hp.2⟩
 |unit=>intro cs h;simp[mC] at h;exact⟨h,fun _=>h⟩
 |
  fns n=>
  intro cs h
  simp only[mC,bB,lP] at h
  have hl:=bT h.1
  have e:cs=(List.replicate n none).map Dj:=by
   apply List.ext_getElem
   ·simp[hl]
   grind [iQ,Dj,JK]
  have:Rel w E.S (.fns n) cs (Ty.aD (.fns n)):=⟨by simp[Ty.aD],e⟩
  exact⟨this,fun _=>this⟩
 |int k=>intro cs h;match cs,h with|[v],h=>exact jv rfl h
 |bool=>intro cs h;match cs,h with|[v],h=>exact jv rfl h
 |str=>intro cs h;match cs,h with|[v],h=>exact jv rfl h
 |slice bs t=>intro cs h;match cs,h with|[v],h=>exact jv rfl h
 |aS k=>intro cs h;match cs,h with|[v],h=>exact jv rfl h
 |map k v=>intro cs h;match cs,h with|[v],h=>exact jv rfl h
theorem Ty.ri(t:Ty):t.zero.cK t=true:=by
 induction t with
 |pair a b ih1 ih2=>simp[Ty.zero,AV.cK,ih1,ih2]
 |aS k=>cases k<;>rfl
 |map _ _=>rfl
 |slice bs t=>rfl
 |unit=>rfl
 |_=>exact Ty.di _
def cD(G:cd):List Field→Nat→Ty→Bool
 |[],_,.unit=>true
 |f::fs,off,.pair a b=>(match G.at f.type with|some td=>Ty.same td.ty a|none=>false)&&Nat.beq f.offset off&&Nat.blt 0 a.size&&cD G fs (off+a.size) b
 |_,_,_=>false
def cG(P:Program)(G:cd)(td:TD):TypeDesc→Bool
 | .bool=>Ty.same td.ty .bool
 | .int k=>Ty.same td.ty (.int k)
 | .string=>Ty.same td.ty .str
 | .slice e=>Ty.same td.ty (.aS .sl)||Nat.beq td.e e&&(match td.ty,G.at e,P.info? e with| .slice bs t,some te,some ie=>Ty.same te.ty t&&Nat.beq ie.bytes bs&&Nat.blt 0 t.size&&Nat.blt 0 bs|_,_,_=>false)
 | .array n e=>(match td.ty,G.at e with| .fns m,some te=>Nat.beq td.e e&&Nat.beq m n&&Ty.same te.ty (.aS .func)|_,_=>false)||Nat.beq td.e e&&(match td.ty,G.at e,P.info? e with| .arr m t,some te,some ie=>Ty.same te.ty t&&Nat.beq m n&&Nat.beq ie.bytes td.e2|_,_,_=>false)
 | .struct fs=>cD G fs.toList 0 td.ty
 | .pointer _=>Ty.same td.ty (.aS .ptr)
 | .map k e=>(Ty.same td.ty (.aS .map)||(match td.ty,G.at k,G.at e with| .map a b,some ta,some tb=>Ty.same ta.ty a&&Ty.same tb.ty b|_,_,_=>false))&&Nat.beq td.e k&&Nat.beq td.e2 e
 | .func _ _ _=>Ty.same td.ty (.aS .func)
 | .interface _=>Ty.same td.ty (.aS .iface)
 |_=>false
def Ty.mD:Ty→Bool
 | .aS .map| .map _ _=>true
 |_=>false
theorem jn{P:Program}{G:cd}{td:TD}{k e:TypeId}(h:cG P G td (.map k e)=true):td.ty.mD=true∧td.e=k∧td.e2=e:=by
 simp only[cG,bB,fQ] at h
 obtain⟨⟨h,h1⟩,h2⟩:=h
 refine⟨?_,bT h1,bT h2⟩
 rcases h with h|h
 ·rw[Ty.aB h];rfl
 ·split at h
  ·rename_i e1 _ _;rw[e1];rfl
  grind
def Dm:Value→Bool
 | .agg _=>true
 |_=>false
def dB:TypeDesc→Bool
 | .struct _| .array _ _=>true
 |_=>false
def yU:TypeDesc→Bool
 | .pointer _=>true
 |_=>false
def uH(P:Program)(G:cd)(t:TypeId)(pr:Bool):Option (TypeId×Nat×TypeId)→List FieldStep→Bool
 |
  none,[]=>match P.underlying t with
  |some d=>yU d==pr
  |none=>false
 |
  some (s,i,ft),[x]=> !pr&&x.deref&&Nat.beq x.struct s&&Nat.beq x.index i&&(match P.underlying s,P.underlying ft with
  |
   some (.struct fs),some d=> !yU d&&(match fs[i]? with
   |some f=>Nat.beq f.type ft
   |none=>false)
  |_,_=>false)&&(match G.at s with
  |
   some td=>(match td.ty.sub [.cV i] with
   |some _=>true
   |none=>false)
  |none=>false)
 |_,_=>false
def W9(P:Program)(G:cd)(t:TypeId)(ii:TypeInfo)(m:MS):Bool:=
 match ii.methods.find? (fun x=>x.name==m.name) with
 |
  some r=>(match r.func with
  |some (f,pr)=>Nat.beq f m.f&&uH P G t pr m.st r.path.toList
  |none=>false)
 |none=>false
def R8(P:Program)(G:cd)(t:TypeId)(td:TD):Bool:=
 match P.info? t,P.underlying t with
 |some i,some d=>td.ms.all (W9 P G t i)&&(Nat.beq i.size td.ty.size&&(match i.zero with|some z=>mC td.ty z.cells.toList&&(Dm z==td.ty.isAgg)|none=>false)&&cG P G td d)
 |_,_=>false
def uI(P:Program)(G:cd):Nat→List (Option TD)→Bool
 |_,[]=>true
 |i,none::l=>uI P G (i+1) l
 |i,some td::l=>R8 P G i td&&uI P G (i+1) l
theorem rj(P:Program)(G:cd):∀(l:List (Option TD))(i:Nat),uI P G i l=true→∀j td,l[j]? =some (some td)→R8 P G (i+j) td=true
 |[],_,_,j,td,h=>by simp at h
 |
  none::l,i,h,j,td,hj=>by
  cases j with
  |zero=>simp at hj
  |succ j=>have:=rj P G l (i+1) h j td (by simpa using hj);rw[show i+(j+1)=i+1+j from by omega];exact this
 |
  some x::l,i,h,j,td,hj=>by
  simp only[uI,bB] at h
  cases j with
  |zero=>grind
  |succ j=>have:=rj P G l (i+1) h.2 j td (by grind);grind
structure bM(P:Program)(G:cd):Prop where
 R8:∀t td,G.at t=some td→R8 P G t td=true
 Tl:P.follows .mixedOrders=true
theorem bM.mk'{P:Program}{G:cd}(h:uI P G 0 G=true)(ho:P.follows .mixedOrders=true):bM P G:=
 ⟨fun t td ht=>by
  have:G[t]? =some (some td):=by
   grind [cd.at]
  have:=rj P G G 0 h t td this
  grind,ho⟩
section
variable{P:Program} {G:cd} (T:bM P G) {t:TypeId} {td:TD} (h:G.at t=some td)
include T h
theorem bM.info:∃i d,P.info? t=some i∧P.underlying t=some d∧i.size=td.ty.size∧cG P G td d=true∧∃z,i.zero=some z∧mC td.ty z.cells.toList=true∧Dm z=td.ty.isAgg:=by
 have:=T.R8 t td h
 unfold Ax.R8 at this
 split at this
 ·rename_i i d hi hd
  simp only[bB] at this
  obtain⟨_,⟨h1,h2⟩,h3⟩:=this
  split at h2<;>simp_all
 grind
theorem bM.ac1{m:MS}(hm:m∈td.ms):∃i r f pr,P.info? t=some i∧i.methods.find? (fun x=>x.name==m.name)=some r∧r.func=some (f,pr)∧f=m.f∧uH P G t pr m.st r.path.toList=true:=by
 have:=T.R8 t td h
 unfold Ax.R8 at this
 split at this
 ·rename_i i d hi hd
  simp only[bB,lP] at this
  have:=this.1 m hm
  unfold W9 at this
  split at this
  ·rename_i r hr
   split at this
   ·rename_i f pr hf
    simp only[bB] at this
    grind [bT]
   grind
  grind
 grind
theorem bM.size(w:World):(sizeOf t).run P w= .ok td.ty.size w:=by
 obtain⟨i,d,h1,_,h2,_⟩:=T.info h
 simp[sizeOf,typeInfo,h1,h2]
end
theorem dv{P:Program}{G:cd}{td:TD}{d:TypeDesc}(h:cG P G td d=true):dB d=td.ty.isAgg:=by
 cases d<;>simp only[cG] at h<;>try (first|(have:=Ty.aB h;rw[this];rfl)|cases h)
 ·rw[fQ] at h
  rcases h with h|h
  ·have:=Ty.aB h;rw[this];rfl
  ·simp only[bB] at h
   obtain⟨_,h⟩:=h
   split at h
   ·rename_i h1 _ _;rw[h1];rfl
   grind
 ·rw[fQ] at h
  rcases h with h|h
  ·split at h
   ·rename_i h1 _;rw[h1];rfl
   grind
  ·simp only[bB] at h
   obtain⟨_,h⟩:=h
   split at h
   ·rename_i h1 _ _;rw[h1];rfl
   grind
 ·simp only[bB,fQ] at h
  rcases h.1.1 with h|h
  ·have:=Ty.aB h;rw[this];rfl
  ·split at h
   ·rename_i h1 _ _;rw[h1];rfl
   grind
 ·rename_i fs
  show true=_
  revert h
  generalize fs.toList=l
  intro h
  cases l with
  |nil=>cases ht:td.ty<;>rw[ht] at h<;>simp[cD] at h;rfl
  |cons f l=>cases ht:td.ty<;>rw[ht] at h<;>simp[cD] at h;rfl
theorem bM.isAgg{P:Program}{G:cd}(T:bM P G){t:TypeId}{td:TD}(h:G.at t=some td)(w:World):(isAgg t).run P w= .ok td.ty.isAgg w:=by
 obtain⟨i,d,_,h1,_,h2,_⟩:=T.info h
 have:=dv h2
 unfold Go.isAgg
 simp only[Sem.run_bind,underlying,run_program,Result.andThen_ok,h1,Sem.run_pure]
 cases d<;>simp[dB] at this ⊢ <;>exact this
theorem bM.zero{P:Program}{G:cd}(T:bM P G){t:TypeId}{td:TD}(h:G.at t=some td)(w:World):∃z,(zeroValue t).run P w= .ok z w∧mC td.ty z.cells.toList=true∧Dm z=td.ty.isAgg:=by
 obtain⟨i,d,h1,_,_,_,z,hz,h3,h4⟩:=T.info h
 simp_all[zeroValue,typeInfo]
end Go.Ax
namespace Go.Ax
def pL:Value→AV
 | .bool b=>.val .bool b
 | .int k n=>if decide (k.min≤n)&&decide (n≤k.max) then .val (.int k) n else .bot
 | .string s=>if Nat.ble s.data.toList.length aG then .val .str s.data.toList else .bot
 | .slice none 0 0=>.bF
 | .pointer none=>.fC
 | .map none=>.eA
 | .nilFunc=>.fD
 | .nilIface=>.gW
 |_=>.bot
def rm:List Hr→Nat→AV
 |[],_=>.bot
 |x::l,g=>if Nat.beq x.g g then .cb x.t x.x else rm l g
def bP(gl:Ctx)(tm:List AV):Operand→AV
 | .tmp t=>(tm[t]?).getD .bot
 | .const v=>pL v
 | .global g=>rm gl.gl g
 | .func f=>.func (.func f) .nil .nil
theorem RV.eI{E:Env}{w:World}{x:AV}{v:Value}(h:cE E w x v):RV E w x v:=by
 cases x with
 |bot=>trivial
 |gm l=>rcases h with⟨h,_⟩|⟨_,h⟩<;>simp[AV.isAgg,RC] at h
 |opt c a=>rcases h with⟨h,_⟩|⟨_,h⟩<;>simp[AV.isAgg,RC] at h
 |_=>exact h
def AV.plain:AV→Bool
 | .bot| .gm _| .opt _ _=>false
 |_=>true
theorem RV.iZ{E:Env}{w:World}{x:AV}{v:Value}(hp:x.plain=true)(h:RV E w x v):cE E w x v:=by
 cases x<;>first|exact h|trivial
theorem RV.atom{E:Env}{w:World}{x:AV}{v:Value}(hp:x.atom=true)(h:RV E w x v):RC E w x [v]:=by
 cases x<;>first
  |trivial
  |(
   rcases h with⟨h1,_⟩|⟨_,h2⟩
   ·grind [AV.isAgg,AV.atom]
   grind)
theorem Dn{E:Env}{w:World}(v:Value):RV E w (pL v) v:=by
 unfold pL
 split
 ·exact Or.inr ⟨rfl,rfl⟩
 ·rename_i k n
  split
  ·rename_i h
   simp at h
   exact Or.inr ⟨rfl,rfl,h.1,h.2⟩
  trivial
 ·rename_i s
  split
  ·rename_i h
   refine Or.inr ⟨rfl,?_,fI h⟩<;>grind
  trivial
 ·exact Or.inr ⟨rfl,rfl⟩
 ·exact Or.inr ⟨rfl,rfl⟩
 ·exact Or.inr ⟨rfl,rfl⟩
 ·exact Or.inr ⟨rfl,rfl⟩
 ·exact Or.inr ⟨rfl,rfl⟩
 trivial
theorem Hu{E:Env}{w:World}{gl:List Hr}(h:∀x∈gl,E.S x.g∧∃cs,px w ⟨x.g,0,none⟩ cs∧Rel w E.S x.t cs x.x)(g:Nat):RV E w (rm gl g) (.pointer (some ⟨g,0,none⟩)):=by
 induction gl with
 |nil=>trivial
 |
  cons x l ih=>
  unfold rm
  split
  ·rename_i hg
   have hg:=bT hg
   obtain⟨h1,cs,h2,h3⟩:=h x (dE ..)
   subst hg
   exact Or.inr ⟨rfl,x.g,0,cs,rfl,h1,h2,h3⟩
  grind
theorem gv{gl:Ctx}{σ:St}{E:Env}{a:Act}{w:World}(h:cp gl σ E a w)(x:Operand):RV E w (bP gl σ.tm x) (a.eval x):=by
 cases x with
 |
  tmp t=>
  simp only[bP,Act.eval]
  cases hx:σ.tm[t]? with
  |none=>trivial
  |
   some y=>
   have hlt:t<a.tmps.size:=by rw[h.len];grind
   have:=h.tm t y hx a.tmps[t] (by grind)
   simp_all
 |const v=>exact Dn v
 |global g=>exact Hu h.hw.gl.1 g
 |func f=>exact Or.inr ⟨rfl, #[], #[],rfl,rfl,rfl,rfl,rfl⟩
theorem dP(k:IntKind)(n:Int):k.min≤k.wrap n∧k.wrap n≤k.max:=by
 cases k<;>simp only[IntKind.wrap,IntKind.min,IntKind.max,IntKind.bits,IntKind.signed]<;>(grind)<;>omega
theorem IntKind.range(k:IntKind):k.min≤0∧0≤k.max:=by cases k<;>decide
theorem RV.int{E:Env}{w:World}{k:IntKind}{n:Int}(h:k.min≤n∧n≤k.max):RV E w (.val (.int k) n) (.int k n):=Or.inr ⟨rfl,rfl,h.1,h.2⟩
theorem RV.bool{E:Env}{w:World}{b:Bool}:RV E w (.val .bool b) (.bool b):=Or.inr ⟨rfl,rfl⟩
theorem RV.dp{E:Env}{w:World}{k:IntKind}{n:Int}{v:Value}(h:RV E w (.val (.int k) n) v):v= .int k n∧k.min≤n∧n≤k.max:=by
 rcases h with⟨h,_⟩|⟨_,h,h2⟩
 ·trivial
 grind
theorem RV.eB{E:Env}{w:World}{b:Bool}{v:Value}(h:RV E w (.val .bool b) v):v= .bool b:=by
 rcases h with⟨h,_⟩|⟨_,h⟩
 ·trivial
 ·simpa[RC,Rel] using h
theorem RV.iL{E:Env}{w:World}{s:List UInt8}{v:Value}(h:RV E w (.val .str s) v):v= .string ⟨s.toArray⟩∧s.length≤aG:=by
 rcases h with⟨h,_⟩|⟨_,h,h2⟩
 ·trivial
 grind
theorem RV.str{E:Env}{w:World}{s:List UInt8}(h:s.length≤aG):RV E w (.val .str s) (.string ⟨s.toArray⟩):=Or.inr ⟨rfl,rfl,h⟩
def iv(op:BinOp)(k:IntKind)(x y:Int):Int:=
 let a:=BitVec.ofInt k.bits x
 let b:=BitVec.ofInt k.bits y
 match op with
 | .and=>k.wrap (a &&& b).toNat
 | .or=>k.wrap (a ||| b).toNat
 | .xor=>k.wrap (a ^^^ b).toNat
 |_=>k.wrap (a &&& ~~~b).toNat
structure VC where
 p:Prop
 d:Decidable p
abbrev vc(p:Prop)[d:Decidable p]:VC:=⟨p,d⟩
def dQ:List VC→Prop
 |[]=>True
 |v::l=>v.p∧dQ l
def tJ:Option TypeDesc→Bool
 |some .bool=>true
 |_=>false
theorem uJ{x:Option TypeDesc}(h:tJ x=true):x=some .bool:=by
 grind [tJ]
def uK(op:BinOp)(k:IntKind)(a:Int)(k':IntKind)(b:Int):Option (AV×List VC):=
 match op with
 | .shl=>some (.val (.int k) (k.wrap (a*2^(min b.toNat k.bits))),[vc (0≤b)])
 | .shr=>some (.val (.int k) (a.fdiv (2^(min b.toNat k.bits))),[vc (0≤b)])
 |
  _=>
  if Nat.beq (IntKind.code k) (IntKind.code k') then
   match op with
   | .add=>some (.val (.int k) (k.wrap (a+b)),[])
   | .sub=>some (.val (.int k) (k.wrap (a -b)),[])
   | .mul=>some (.val (.int k) (k.wrap (a*b)),[])
   | .quo=>some (.val (.int k) (k.wrap (a.tdiv b)),[vc (b≠0)])
   | .rem=>some (.val (.int k) (a.tmod b),[vc (b≠0)])
   | .and=>some (.val (.int k) (iv .and k a b),[])
   | .or=>some (.val (.int k) (iv .or k a b),[])
   | .xor=>some (.val (.int k) (iv .xor k a b),[])
   | .andNot=>some (.val (.int k) (iv .andNot k a b),[])
   | .eql=>some (.val .bool (decide (a=b)),[])
   | .neq=>some (.val .bool (!decide (a=b)),[])
   | .lss=>some (.val .bool (decide (a<b)),[])
   | .leq=>some (.val .bool (decide (a≤b)),[])
   | .gtr=>some (.val .bool (decide (b<a)),[])
   | .geq=>some (.val .bool (decide (b≤a)),[])
   |_=>none
  else none
def xF(P:Program)(t:TypeId)(op:BinOp):AV→AV→Option (AV×List VC)
 | .val (.int k) a,.val (.int k') b=>uK op k a k' b
 |
  .val .bool a,.val .bool b=>
  match op with
  | .eql=>some (.val .bool (a==b),[vc (tJ (P.underlying t)=true)])
  | .neq=>some (.val .bool (!(a==b)),[vc (tJ (P.underlying t)=true)])
  |_=>none
 |
  .val .str a,.val .str b=>
  match op with
  | .add=>some (.val .str (a++b),[vc (a.length+b.length≤aG)])
  | .eql=>some (.val .bool (decide (a=b)),[])
  | .neq=>some (.val .bool (!decide (a=b)),[])
  | .lss=>some (.val .bool (Op.bytesLess a b),[])
  | .leq=>some (.val .bool (Op.bytesLess a b||decide (a=b)),[])
  | .gtr=>some (.val .bool (!(Op.bytesLess a b||decide (a=b))),[])
  | .geq=>some (.val .bool (!Op.bytesLess a b),[])
  |_=>none
 |_,_=>none
theorem gE{a b:Int}(ha:0≤a)(hb:0≤b):a % b≤a:=by
 rcases Int.lt_or_eq_of_le hb with h|h
 ·have:=Int.emod_add_mul_ediv a b
  have h1:0≤a / b:=Int.ediv_nonneg ha hb
  have h2:0≤b*(a / b):=Int.mul_nonneg hb h1
  omega
 grind
theorem Dp(k:IntKind)(a b:Int)(ha:k.min≤a∧a≤k.max):k.min≤a.tmod b∧a.tmod b≤k.max:=by
 have hr:=IntKind.range k
 rcases Int.le_total 0 a with h|h
 ·have h1:=Int.tmod_nonneg b h
  have h2:a.tmod b≤a:=by
   rcases Int.le_total 0 b with hb|hb
   ·simp_all[Int.tmod_eq_emod_of_nonneg,gE]
   ·have:a.tmod b=a.tmod (-b):=by simp_all
    rw[this,Int.tmod_eq_emod_of_nonneg h];exact gE h (by omega)
  omega
 ·have h1:(-a).tmod b= -(a.tmod b):=Int.neg_tmod ..
  have h2:0≤-a:=by omega
  have h3:=Int.tmod_nonneg b h2
  have h4:(-a).tmod b≤-a:=by
   rcases Int.le_total 0 b with hb|hb
   ·rw[Int.tmod_eq_emod_of_nonneg h2];exact gE h2 hb
   ·have:(-a).tmod b=(-a).tmod (-b):=by simp_all
    rw[this,Int.tmod_eq_emod_of_nonneg h2];exact gE h2 (by omega)
  omega
theorem Dq(k:IntKind)(a:Int)(n:Nat)(ha:k.min≤a∧a≤k.max):k.min≤a.fdiv (2^n)∧a.fdiv (2^n)≤k.max:=by
 have hr:=IntKind.range k
 have hp:(1:Int)≤2^n:=by
  have:=Int.pow_pos (n:=2) (m:=n) (by omega)
  omega
 rw[Int.fdiv_eq_ediv_of_nonneg _ (by omega)]
 rcases Int.le_total 0 a with h|h
 ·have h1:0≤a / 2^n:=Int.ediv_nonneg h (by omega)
  have h2:a / 2^n≤a:=Int.ediv_le_self _ h
  omega
 ·have h1:a / 2^n≤0:=by
   have:=Int.ediv_le_ediv (c:=2^n) (by omega) h
   simp_all
  have h2:a≤a / 2^n:=by
   rw[Int.le_ediv_iff_mul_le (by omega)]
   have:=Int.mul_le_mul_of_nonpos_left h hp
   omega
  omega
theorem BF{P:Program}{E:Env}{w:World}{op:BinOp}{t:TypeId}{k k':IntKind}{a b:Int}{r:AV}{vc:List VC}(ha:k.min≤a∧a≤k.max)(h:uK op k a k' b=some (r,vc))(hvc:dQ vc):
 ∃v,(binOp op t (.int k a) (.int k' b)).run P w= .ok v w∧RV E w r v:=by
 unfold uK at h
 split at h
 ·cases h
  exact⟨_,by simp[binOp,Op.shift,show¬b<0 from by have:=hvc.1;omega],RV.int (dP k _)⟩
 ·cases h
  exact⟨_,by simp[binOp,Op.shift,show¬b<0 from by have:=hvc.1;omega],RV.int (Dq k _ _ ha)⟩
 ·rename_i h1 h2
  split at h
  ·rename_i hk
   have:=IntKind.iS (bT hk)
   subst this
   split at h<;>cases h
   ·simp_all[binOp,Op.intArith,RV.int,dP]
   ·simp_all[binOp,Op.intArith,RV.int,dP]
   ·simp_all[binOp,Op.intArith,RV.int,dP]
   ·exact⟨_,by simp[binOp,Op.intDiv,show b≠0 from hvc.1],RV.int (dP k _)⟩
   ·exact⟨_,by simp[binOp,Op.intDiv,show b≠0 from hvc.1],RV.int (Dp k _ _ ha)⟩
   ·simp_all[iv,binOp,Op.intBits,RV.int,dP]
   ·simp_all[iv,binOp,Op.intBits,RV.int,dP]
   ·simp_all[iv,binOp,Op.intBits,RV.int,dP]
   ·simp_all[iv,binOp,Op.intBits,RV.int,dP]
   ·exact⟨_,by simp[binOp,Op.intCmp];rfl,RV.bool⟩
   ·exact⟨_,by simp[binOp,Op.intCmp];rfl,RV.bool⟩
   ·simp_all[binOp,Op.intCmp,RV.bool]
   ·simp_all[binOp,Op.intCmp,RV.bool]
   ·simp_all[binOp,Op.intCmp,RV.bool]
   simp_all[binOp,Op.intCmp,RV.bool]
  grind
theorem JL{P:Program}{E:Env}{w:World}{op:BinOp}{t:TypeId}{x y:AV}{vx vy:Value}{r:AV}{vc:List VC}(hx:RV E w x vx)(hy:RV E w y vy)(h:xF P t op x y=some (r,vc))(hvc:dQ vc):
 ∃v,(binOp op t vx vy).run P w= .ok v w∧RV E w r v:=by
 unfold xF at h
 split at h
 ·obtain⟨rfl,h1⟩:=RV.dp hx
  obtain⟨rfl,h2⟩:=RV.dp hy
  exact BF h1 h hvc
 ·have:=RV.eB hx;subst this
  have:=RV.eB hy;subst this
  split at h
  ·cases h
   have hb:=hvc.1
   exact⟨_,by simp[binOp,run_equal_bool w t _ _ (uJ hb)],RV.bool⟩
  ·cases h
   have hb:=hvc.1
   exact⟨_,by simp[binOp,run_equal_bool w t _ _ (uJ hb)],RV.bool⟩
  ·cases h
 ·obtain⟨rfl,h1⟩:=RV.iL hx
  obtain⟨rfl,h2⟩:=RV.iL hy
  have beq:∀(a b:List UInt8),(a==b)=decide (a=b):=fun a b=>by
   by_cases h:a=b
   ·subst h;simp
   ·simp[h]
  split at h<;>cases h
  ·rename_i a b _
   have hb:List.length a+List.length b≤aG:=hvc.1
   refine⟨.string ⟨(List.append a b).toArray⟩,?_,RV.str (by show(List.append a b).length≤aG;rw[List.append_eq,ep];exact hb)⟩
   have sz:∀l:List UInt8,(ByteArray.mk l.toArray).size=l.length:=fun l=>by show l.toArray.size=_;simp
   have hmax:IntKind.i64.max=9223372036854775807:=by decide
   have hn:¬(((ByteArray.size ⟨List.toArray a⟩+ByteArray.size ⟨List.toArray b⟩:Nat):Int)>IntKind.i64.max):=by
    rw[sz,sz,hmax];unfold aG at hb;omega
   have happ:(⟨List.toArray a⟩:ByteArray)++⟨List.toArray b⟩=⟨(List.append a b).toArray⟩:=by
    apply ByteArray.ext
    simp
   simp only[binOp,Op.stringOp,aC hn,Sem.run_pure,happ]
  all_goals(refine⟨_,?_,RV.bool⟩;simp[binOp,Op.stringOp,beq])
 ·cases h
end Go.Ax
namespace Go.Ax
def jf:aP→Ty
 | .var t _=>t
 | .row _ _ t xs=>.arr xs.length t
 | .cY _ _ t xs i _=>mA i xs.length t
 | .dh _ _ t xs _ f=>uG xs.length t f
 |_=>.unit
def aP.mem:aP→Bool
 | .var _ _| .row _ _ _ _| .cY _ _ _ _ _ _| .dh _ _ _ _ _ _=>true
 |_=>false
def ou:aP→Path→Option AV
 | .var _ v,p=>v.get p
 | .row _ _ t xs,.idx i::p=>fR (.arr xs.length t) xs (.idx i::p)
 | .cY _ _ _ _ _ v,.cV 1::p=>v.get p
 | .dh _ _ _ _ _ (some (_,v)),.cV 1::p=>v.get p
 |_,_=>none
theorem RB.bt{E:Env}{w:World}{b:Nat}{k:aP}(h:RB E w b k)(hm:k.mem=true):E.bt b=jf k:=by
 cases k with
 |var t v=>exact h.1
 |row e bs t xs=>exact h.1
 |cY e bs t xs i v=>exact h.1
 |dh e bs t xs e2 f=>exact h.1
 |_=>cases hm
theorem px.of_heap{w:World}{g:Nat}{c:Array Value}{e:TypeId}{fr:Nat×Nat}(h:w.heap[g]? =some (.cells c e fr))(o n:Nat):px w ⟨g,o,none⟩ ((c.toList.drop o).take n):=by
 intro j v hj
 grind [Addr.add,World.cell?]
theorem px.sub{w:World}{g o:Nat}{cs:List Value}(h:px w ⟨g,o,none⟩ cs)(k n:Nat):px w ⟨g,o+k,none⟩ ((cs.drop k).take n):=by
 intro j v hj
 have e1:∀o,((⟨g,o,none⟩:Addr).add j)=⟨g,o+j,none⟩:=by grind [Addr.add]
 have e2:((⟨g,o,none⟩:Addr).add (k+j))=⟨g,o+(k+j),none⟩:=by unfold Addr.add;grind
 rw[e1]
 rw[List.getElem?_take] at hj
 split at hj
 ·rw[List.getElem?_drop] at hj
  have:=h (k+j) v hj
  grind
 grind
theorem pM{E:Env}{w:World}{b:Nat}{k:aP}{p:Path}{u:AV}(h:RB E w b k)(hv:(E.bt b).valid p)(hr:ou k p=some u):
 ∃g s cs,E.g b=some g∧(E.bt b).sub p=some s∧u.cK s=true∧px w ⟨g,(E.bt b).off p,none⟩ cs∧RC E w u cs:=by
 cases k with
 |
  var t v=>
  obtain⟨h1,h2,g,c,e,h3,h4,h5⟩:=h
  rw[h1] at hv ⊢
  obtain⟨s,e1,e2,e3,e4⟩:=AV.gY h5 h2 hv hr
  exact⟨g,s,_,h3,e1,e2,px.of_heap h4 _ _,e4⟩
 |
  row e bs t xs=>
  obtain⟨h1,h2,h3,h4,a,cap,h5,h6,h7⟩:=h
  rw[h1] at hv ⊢
  cases p with
  |nil=>trivial
  |
   cons s p=>
   cases s with
   |cV k=>trivial
   |
    idx i=>
    have hi:i<xs.length:=hv.1
    rcases h7 with⟨_,_,h9⟩|⟨g,c,h7,h8,h9,h10,h11,h12⟩
    ·grind
    ·have hR:Rel w E.S (.arr xs.length t) (c.toList.take (xs.length*t.size)) xs:=⟨rfl,h12⟩
     obtain⟨s,e1,e2,e3,e4⟩:=rf hR hv hr
     refine⟨g,s,_,h7,e1,e2,?_,e4⟩
     grind [mu,px.of_heap]
 |
  cY e bs t xs i v=>
  obtain⟨h1,h2,h3,h4,h5,h6,g,cap,c,q1,q2,q3,q4,q5,q6,q7,q8,q9⟩:=h
  rw[h1] at hv ⊢
  unfold ou at hr
  split at hr
  ·grind
  ·grind
  ·rename_i p hk
   cases hk
   have hv':t.valid p:=hv
   obtain⟨s,e1,e2,e3,e4⟩:=AV.gY q8 h6 hv' hr
   refine⟨g,s,_,q3,e1,e2,?_,e4⟩
   rw[kz,List.length_drop] at e3
   rw[mu,sq,pK (by omega),lR]
   have:=px.of_heap q4 (i*t.size+t.off p) s.size
   trivial
  ·grind
  grind
 |
  dh e bs t xs e2 f=>
  obtain⟨h1,h2,h3,h4,h5,g,cap,c,og,q1,q2,q3,q4,q5,q6,q7,q8⟩:=h
  unfold ou at hr
  split at hr
  ·grind
  ·grind
  ·grind
  ·rename_i _ _ _ _ _ i v p hk
   cases hk
   obtain⟨hi,hconf⟩:=h5 i v rfl
   obtain⟨u',r1,r2,_⟩:=q8 i (xs.getD i t.aD) (by grind)
   obtain⟨_,r2⟩:=r2 v rfl
   rw[h1] at hv ⊢
   have hv':t.valid p:=hv
   obtain⟨s,e1,e2,e3,e4⟩:=AV.gY r2 hconf hv' hr
   have hmid:(c.toList.drop (i*t.size)).take t.size= [u']:=by
    rw[h2,Nat.mul_one]
    grind [kA]
   rw[←hmid] at e3 e4
   refine⟨g,s,_,q3,e1,e2,?_,e4⟩
   rw[kz,List.length_drop] at e3
   rw[mu,sq,pK (by omega),lR]
   have:=px.of_heap q4 (i*t.size+t.off p) s.size
   trivial
  grind
 |_=>trivial
theorem kB{P:Program}{G:cd}(T:bM P G){t:TypeId}{td:TD}(ht:G.at t=some td){E:Env}{w:World}{a:Addr}{cs:List Value}{u:AV}(hr:px w a cs)(hc:RC E w u cs)(hu:u.cK td.ty=true):
 ∃v,(Instr.loadAt t (.pointer (some a))).run P w= .ok v w∧RV E w u v:=by
 have hl:=RC.len hc
 have hs:=AV.ei hu
 have ha:=AV.oL hu
 have hcells:=run_loadCells_list (P:=P) w a cs hr
 by_cases am9:td.ty.isAgg=true
 ·refine⟨.agg cs.toArray,?_,RV.eI (Or.inl ⟨by grind,cs.toArray,rfl,by grind⟩)⟩
  have:cs.length=td.ty.size:=by omega
  simp[Instr.loadAt,Instr.sureAddr,loadVar,T.isAgg ht,T.size ht,am9,←this,hcells]
 ·have hagg':td.ty.isAgg=false:=by grind
  have h1:td.ty.size=1:=by cases h:td.ty<;>rw[h] at hagg'<;>simp[Ty.isAgg] at hagg'<;>rfl
  obtain⟨v,rfl⟩:∃v,cs= [v]:=by
   match cs,hl with
   |[v],_=>grind
   |[],hl=>grind
   |_::_::_,hl=>grind
  have h0:w.cell? a=some v:=by
   have:=hr 0 v rfl
   trivial
  exact⟨v,by simp[Instr.loadAt,Instr.sureAddr,loadVar,T.isAgg ht,hagg',h0],RV.eI (Or.inr ⟨by grind,hc⟩)⟩
def uL(G:cd)(hb:Nat→Option aP)(t:TypeId):AV→Option AV
 |
  .ptr b p=>match G.at t,hb b with
  |
   some td,some k=>match ou k p with
   |some u=>if u.cK td.ty then some u else none
   |none=>none
  |_,_=>none
 |
  .cb u x=>match G.at t with
  |some td=>if Ty.same u td.ty then some (.val u x) else none
  |none=>none
 |_=>none
def HB(hb:Nat→Option aP)(hp:List (Option aP)):Prop:=∀b k,hb b=some k→hp[b]? =some (some k)
theorem rp{P:Program}{G:cd}(T:bM P G){gl:Ctx}{E:Env}{w:World}{hp:List (Option aP)}(hw:HW gl E w hp){hb:Nat→Option aP}(hB:HB hb hp){t:TypeId}{x u:AV}{vx:Value}(hx:RV E w x vx)(h:uL G hb t x=some u):
 ∃v,(Instr.loadAt t vx).run P w= .ok v w∧RV E w u v:=by
 unfold uL at h
 split at h
 ·rename_i b p
  split at h
  ·rename_i td k ht hk
   split at h
   ·rename_i y hy
    split at h
    ·rename_i hc
     cases h
     have hx:=RV.atom rfl hx
     obtain⟨g,hg,e,hv⟩:=hx
     simp at e;subst e
     obtain⟨g',s,cs,h1,h2,h3,h4,h5⟩:=pM (hw.cX b k (hB b k hk)) hv hy
     grind [kB]
    grind
   grind
  grind
 ·rename_i ty x
  split at h
  ·rename_i td ht
   split at h
   ·rename_i hc
    cases h
    have hx:=RV.atom rfl hx
    obtain⟨b,o,cs,e,h1,h2,h3⟩:=hx
    simp at e;subst e
    exact kB T ht h2 (u:=.val ty x) h3 hc
   grind
  grind
 grind
theorem Ty.kY:∀{t s:Ty}{p q:Path},t.sub p=some s→t.sub (p++q)=s.sub q∧t.off (p++q)=t.off p+s.off q∧(t.valid p→s.valid q→t.valid (p++q)):=by
 intro t
 have base:∀{t s:Ty}{q:Path},t.sub []=some s→t.sub ([]++q)=s.sub q∧t.off ([]++q)=t.off []+s.off q∧(t.valid []→s.valid q→t.valid ([]++q)):=by
  simp_all[Ty.sub,Ty.off]
 induction t with
 |
  pair a b ih1 ih2=>
  intro s p q h
  cases p with
  |nil=>grind
  |
   cons x p=>
   cases x with
   |
    cV k=>
    cases k with
    |
     zero=>
     obtain⟨h1,h2,h3⟩:=ih1 (q:=q) h
     trivial
    |
     succ k=>
     obtain⟨h1,h2,h3⟩:=ih2 (q:=q) (p:=.cV k::p) h
     refine⟨h1,?_,h3⟩
     grind [Ty.off]
   |idx i=>trivial
 |
  arr n t ih=>
  intro s p q h
  cases p with
  |nil=>grind
  |
   cons x p=>
   cases x with
   |cV k=>trivial
   |
    idx i=>
    obtain⟨h1,h2,h3⟩:=ih (q:=q) h
    refine⟨h1,?_,fun⟨hi,hv⟩ hq=>⟨hi,h3 hv hq⟩⟩
    grind [Ty.off]
 |
  fns n=>
  intro s p q h
  cases p with
  |nil=>grind
  |
   cons x p=>
   cases x with
   |cV k=>trivial
   |
    idx i=>
    cases p with
    |cons _ _=>trivial
    |
     nil=>
     cases h
     cases q with
     |nil=>exact⟨rfl,rfl,fun h _=>h⟩
     |cons y q=>exact⟨by trivial,by trivial,fun _ h=>by cases h⟩
 |
  _=>
  grind [Ty.sub]
theorem kZ{G:cd}:∀{fs:List Field}{o:Nat}{t:Ty}{i:Nat}{s:Ty},cD G fs o t=true→t.sub [.cV i]=some s→
 ∃f td,fs[i]? =some f∧G.at f.type=some td∧td.ty=s∧f.offset=o+t.off [.cV i]∧0<s.size∧t.valid [.cV i]
 |
  [],o,t,i,s,h,hs=>by
  grind [cD,Ty.sub]
 |
  f::fs,o,t,i,s,h,hs=>by
  cases t with
  |
   pair a b=>
   simp only[cD,bB] at h
   obtain⟨⟨⟨h1,h2⟩,h3⟩,h4⟩:=h
   cases i with
   |
    zero=>
    split at h1
    ·rename_i td htd
     have:a=s:=by
      grind [Ty.sub]
     subst this
     have ho:a.off []=0:=by cases a<;>rfl
     refine⟨f,td,rfl,htd,Ty.aB h1,?_,by simp_all,?_⟩
     ·grind [Ty.off,bT]
     ·simp only[Ty.valid]
    grind
   |
    succ i=>
    obtain⟨f',td,e1,e2,e3,e4,e5,e6⟩:=kZ h4 (i:=i) hs
    refine⟨f',td,by grind,e2,e3,?_,e5,e6⟩
    simp only[Ty.off];omega
  |_=>trivial
theorem bM.struct{P:Program}{G:cd}(T:bM P G){t:TypeId}{td:TD}(h:G.at t=some td){i:Nat}{s:Ty}(hs:td.ty.sub [.cV i]=some s):
 ∃fs f tf,P.underlying t=some (.struct fs)∧fs[i]? =some f∧G.at f.type=some tf∧tf.ty=s∧f.offset=td.ty.off [.cV i]∧0<s.size∧td.ty.valid [.cV i]:=by
 obtain⟨ii,d,_,h1,_,h2,_⟩:=T.info h
 have am9:=dv h2
 cases hd:d with
 |
  struct fs=>
  subst hd
  obtain⟨f,tf,e1,e2,e3,e4,e5,e6⟩:=kZ (fs:=fs.toList) (o:=0) h2 hs
  grind
 |
  array n e=>
  subst hd
  simp only[cG] at h2
  rw[fQ] at h2
  rcases h2 with h2|h2
  ·grind [Ty.sub]
  simp only[bB] at h2
  grind [Ty.sub]
 |
  _=>
  subst hd
  simp only[dB] at am9
  cases ht:td.ty<;>rw[ht] at am9 hs<;>simp[Ty.isAgg] at am9<;>simp[Ty.sub] at hs
theorem su{P:Program}{G:cd}(T:bM P G){t:TypeId}{td:TD}(h:G.at t=some td){i:Nat}{s:Ty}(hs:td.ty.sub [.cV i]=some s)(w:World)(g o:Nat):
 (Instr.fieldAt t (.pointer (some ⟨g,o,none⟩)) i).run P w= .ok (.pointer (some ⟨g,o+td.ty.off [.cV i],none⟩)) w:=by
 obtain⟨fs,f,tf,h1,h2,h3,h4,h5,h6,_⟩:=T.struct h hs
 have hsz:=T.size h3 w
 rw[h4] at hsz
 have hne:¬s.size=0:=by omega
 simp_all[Addr.add,Instr.fieldAt,underlying,Instr.sureAddr,fieldPlace]
def gN(G:cd)(hb:Nat→Option aP)(t:TypeId)(i:Nat):AV→Option AV
 |
  .ptr b p=>match G.at t,hb b with
  |
   some td,some k=>match(jf k).sub p,td.ty.sub [.cV i] with
   |some u,some _=>if Ty.same u td.ty then some (.ptr b (p++[.cV i])) else none
   |_,_=>none
  |_,_=>none
 |
  .cb u x=>match G.at t with
  |
   some td=>match td.ty.sub [.cV i],fR u x [.cV i] with
   |some _,some (.val v y)=>if Ty.same u td.ty then some (.cb v y) else none
   |_,_=>none
  |none=>none
 |_=>none
theorem ny{k:aP}{p:Path}{q:PS}{u:Ty}{s:Ty}(h:(jf k).sub p=some u)(hs:u.sub [q]=some s):k.mem=true:=by
 cases k with
 |var t v=>rfl
 |row e bs t xs=>rfl
 |cY e bs t xs i v=>rfl
 |dh e bs t xs e2 f=>rfl
 |_=>grind [jf,Ty.sub]
theorem mE{P:Program}{G:cd}(T:bM P G){gl:Ctx}{E:Env}{w:World}{hp:List (Option aP)}(hw:HW gl E w hp){hb:Nat→Option aP}(hB:HB hb hp){t:TypeId}{i:Nat}{x u:AV}{vx:Value}(hx:RV E w x vx)(h:gN G hb t i x=some u):
 ∃v,(Instr.fieldAt t vx i).run P w= .ok v w∧RV E w u v:=by
 unfold gN at h
 split at h
 ·rename_i b p
  split at h
  ·rename_i td k ht hk
   split at h
   ·rename_i u' s hu hs
    split at h
    ·rename_i hsame
     cases h
     have:=Ty.aB hsame;subst this
     obtain⟨g,hg,e,hv⟩:=RV.atom rfl hx
     simp at e;subst e
     have hbt:=RB.bt (hw.cX b k (hB b k hk)) (ny hu hs)
     rw[←hbt] at hu
     obtain⟨_,h2,h3⟩:=Ty.kY (q:=[.cV i]) hu
     obtain⟨_,_,_,_,_,_,_,_,_,hval⟩:=T.struct ht hs
     exact⟨_,su T ht hs w g _,RV.eI (Or.inr ⟨rfl,g,hg,by rw[h2],h3 hv hval⟩)⟩
    grind
   grind
  grind
 ·rename_i ty y
  split at h
  ·rename_i td ht
   split at h
   ·rename_i s v' y' hs hg
    split at h
    ·rename_i hsame
     cases h
     have:=Ty.aB hsame;subst this
     obtain⟨b,o,cs,e,h1,h2,h3⟩:=RV.atom rfl hx
     simp at e;subst e
     obtain⟨_,_,_,_,_,_,_,_,_,hval⟩:=T.struct ht hs
     obtain⟨s',e1,e2,e3,e4⟩:=rf (E:=E) h3 hval hg
     exact⟨_,su T ht hs w b o,RV.eI (Or.inr ⟨rfl,b,_,_,rfl,h1,h2.sub _ _,e4⟩)⟩
    grind
   grind
  grind
 grind
end Go.Ax
namespace Go.Ax
theorem bM.dN{P:Program}{G:cd}(T:bM P G){t:TypeId}{td:TD}(h:G.at t=some td){bs:Nat}{u:Ty}(hs:td.ty= .slice bs u):
 ∃te ie,P.underlying t=some (.slice td.e)∧G.at td.e=some te∧te.ty=u∧P.info? td.e=some ie∧ie.bytes=bs∧0<u.size∧0<bs:=by
 obtain⟨ii,d,_,h1,_,h2,_⟩:=T.info h
 have am9:=dv h2
 cases hd:d with
 |
  slice e=>
  subst hd
  simp only[cG] at h2
  rw[fQ] at h2
  rcases h2 with h2|h2
  ·grind [Ty.aB]
  simp only[bB] at h2
  obtain⟨h3,h2⟩:=h2
  have h3:=bT h3
  subst h3
  split at h2
  ·rename_i bs' u' te ie e1 e2 e3
   rw[hs] at e1;cases e1
   simp only[bB] at h2
   obtain⟨⟨⟨h4,h5⟩,h6⟩,h7⟩:=h2
   exact⟨te,ie,h1,e2,Ty.aB h4,e3,bT h5,by simp_all,by simp_all⟩
  grind
 |
  struct fs=>
  subst hd
  simp only[dB] at am9
  rw[hs] at am9;trivial
 |
  array n e=>
  subst hd
  simp only[dB] at am9
  rw[hs] at am9;trivial
 |
  map k e=>
  subst hd
  have:=(jn h2).1;rw[hs] at this;trivial
 |
  _=>
  subst hd
  simp only[cG] at h2
  first
   |(have:=Ty.aB h2;rw[hs] at this;cases this)
   |cases h2
theorem bM.pN{P:Program}{G:cd}(T:bM P G){t:TypeId}{td:TD}(h:G.at t=some td){n:Nat}{u:Ty}(hs:td.ty= .arr n u):
 ∃te,P.underlying t=some (.array n td.e)∧G.at td.e=some te∧te.ty=u:=by
 obtain⟨ii,d,_,h1,_,h2,_⟩:=T.info h
 have am9:=dv h2
 cases hd:d with
 |
  array m e=>
  subst hd
  simp only[cG] at h2
  rw[fQ] at h2
  rcases h2 with h2|h2
  ·grind
  simp only[bB] at h2
  obtain⟨h3,h2⟩:=h2
  have h3:=bT h3
  subst h3
  split at h2
  ·rename_i m' u' te ie e1 e2 e3
   rw[hs] at e1;cases e1
   simp only[bB] at h2
   grind [bT,Ty.aB]
  grind
 |
  struct fs=>
  grind [cG,cD]
 |
  _=>
  subst hd
  simp only[dB] at am9
  rw[hs] at am9;cases am9
theorem eS{P:Program}{G:cd}(T:bM P G){t:TypeId}{td:TD}(h:G.at t=some td){bs:Nat}{u:Ty}(hs:td.ty= .slice bs u)(w:World)(g o len cap:Nat)(k:IntKind)(i:Int)(hi:0≤i∧i<len):
 (Instr.indexAt t (.slice (some ⟨g,o,none⟩) len cap) (.int k i)).run P w= .ok (.pointer (some ⟨g,o+i.toNat*u.size,none⟩)) w:=by
 obtain⟨te,ie,h1,h2,h3,_⟩:=T.dN h hs
 have hsz:=T.size h2 w
 rw[h3] at hsz
 have ha:((⟨g,o,none⟩:Addr).add (i.toNat*u.size))=⟨g,o+i.toNat*u.size,none⟩:=by
  unfold Addr.add;grind
 simp[Instr.indexAt,underlying,h1,asIntOf,hi,hsz,ha]
theorem mF{P:Program}{G:cd}(T:bM P G){t:TypeId}{td:TD}(h:G.at t=some td){n:Nat}{u:Ty}(hs:td.ty= .arr n u)(w:World)(g o:Nat)(k:IntKind)(i:Int)(hi:0≤i∧i<n):
 (Instr.indexAt t (.pointer (some ⟨g,o,none⟩)) (.int k i)).run P w= .ok (.pointer (some ⟨g,o+i.toNat*u.size,none⟩)) w:=by
 obtain⟨te,h1,h2,h3⟩:=T.pN h hs
 have hsz:=T.size h2 w
 rw[h3] at hsz
 have ha:((⟨g,o,none⟩:Addr).add (i.toNat*u.size))=⟨g,o+i.toNat*u.size,none⟩:=by
  unfold Addr.add;grind
 simp[Instr.indexAt,underlying,h1,asIntOf,hi,hsz,ha,Instr.sureAddr]
theorem bM.JM{P:Program}{G:cd}(T:bM P G){t:TypeId}{td:TD}(h:G.at t=some td){n:Nat}(hs:td.ty= .fns n):
 ∃te,P.underlying t=some (.array n td.e)∧G.at td.e=some te∧te.ty= .aS .func:=by
 obtain⟨ii,d,_,h1,_,h2,_⟩:=T.info h
 have am9:=dv h2
 cases hd:d with
 |
  array m e=>
  subst hd
  simp only[cG] at h2
  rw[fQ] at h2
  rcases h2 with h2|h2
  ·split at h2
   ·rename_i m' te e1 e2
    rw[hs] at e1;cases e1
    simp only[bB] at h2
    grind [bT,Ty.aB]
   grind
  grind
 |
  struct fs=>
  grind [cG,cD]
 |
  _=>
  subst hd
  simp only[dB] at am9
  rw[hs] at am9;cases am9
theorem uM{P:Program}{G:cd}(T:bM P G){t:TypeId}{td:TD}(h:G.at t=some td){n:Nat}(hs:td.ty= .fns n)(w:World)(g o:Nat)(k:IntKind)(i:Int)(hi:0≤i∧i<n):
 (Instr.indexAt t (.pointer (some ⟨g,o,none⟩)) (.int k i)).run P w= .ok (.pointer (some ⟨g,o+i.toNat,none⟩)) w:=by
 obtain⟨te,h1,h2,h3⟩:=T.JM h hs
 have hsz:=T.size h2 w
 rw[h3] at hsz
 have ha:((⟨g,o,none⟩:Addr).add (i.toNat))=⟨g,o+i.toNat,none⟩:=by
  unfold Addr.add;grind
 simp[Instr.indexAt,underlying,h1,asIntOf,hi,hsz,ha,Instr.sureAddr,Ty.size]
def jo(G:cd)(hb:Nat→Option aP)(t:TypeId)(x:AV)(i:Int):Option (AV×List VC):=
 match G.at t with
 |
  some td=>
  match td.ty,x with
  | .slice bs u,.val (.slice bs' u') xs=>if Nat.beq bs bs'&&Ty.same u u' then some (.cb u' (xs.getD i.toNat u'.aD),[vc (0≤i),vc (i<xs.length)]) else none
  |
   .slice _ u,.own b=>match hb b with
   |some (.row _ _ u' xs)=>if Ty.same u u' then some (.ptr b [.idx i.toNat],[vc (0≤i),vc (i<xs.length)]) else none
   |some (.cY _ _ u' _xs j _)=>if Ty.same u u' then some (.ptr b [.cV 1],[vc (0≤i),vc (i.toNat=j)]) else none
   |some (.dh _ _ u' _ _ (some (j,_)))=>if Ty.same u u' then some (.ptr b [.cV 1],[vc (0≤i),vc (i.toNat=j)]) else none
   |_=>none
  |
   .slice _ u,.ju b lo len=>match hb b with
   |some (.row _ _ u' _)=>if Ty.same u u' then some (.ptr b [.idx (lo+i.toNat)],[vc (0≤i),vc (i<len)]) else none
   |_=>none
  |
   .slice _ u,.jj b p lo len=>match hb b with
   |
    some (.var tt _)=>match tt.sub p with
    |some (.arr _ u')=>if Ty.same u u' then some (.ptr b (p++[.idx (lo+i.toNat)]),[vc (0≤i),vc (i<len)]) else none
    |_=>none
   |_=>none
  |
   .arr n u,.ptr b p=>match hb b with
   |
    some k=>match(jf k).sub p with
    |some (.arr n' u')=>if Ty.same u u'&&Nat.beq n n' then some (.ptr b (p++[.idx i.toNat]),[vc (0≤i),vc (i<n)]) else none
    |_=>none
   |_=>none
  |
   .fns n,.ptr b p=>match hb b with
   |
    some k=>match(jf k).sub p with
    |some (.fns n')=>if Nat.beq n n' then some (.ptr b (p++[.idx i.toNat]),[vc (0≤i),vc (i<n)]) else none
    |_=>none
   |_=>none
  | .arr n u,.cb (.arr n' u') xs=>if Ty.same u u'&&Nat.beq n n' then some (.cb u' (List.getD xs i.toNat u'.aD),[vc (0≤i),vc (i<n)]) else none
  |_,_=>none
 |none=>none
def jX(G:cd)(hb:Nat→Option aP)(t:TypeId)(x:AV):AV→Option (AV×List VC)
 | .val (.int _) i=>jo G hb t x i
 |_=>none
theorem Ty.k7(t:Ty):t.off []=0:=by cases t<;>rfl
theorem Ty.gO(t:Ty):t.valid []:=by cases t<;>trivial
theorem Ty.FJ(t:Ty):t.sub []=some t:=by cases t<;>rfl
theorem tc{P:Program}{G:cd}(T:bM P G){gl:Ctx}{E:Env}{w:World}{hp:List (Option aP)}(hw:HW gl E w hp){hb:Nat→Option aP}(hB:HB hb hp){t:TypeId}{x u:AV}{vx:Value}{k:IntKind}{i:Int}{vc:List VC}(hx:RV E w x vx)(h:jo G hb t x i=some (u,vc))(hvc0:dQ vc):
 ∃v,(Instr.indexAt t vx (.int k i)).run P w= .ok v w∧RV E w u v:=by
 unfold jo at h
 split at h
 ·rename_i td ht
  split at h
  ·rename_i bs u bs' u' xs hty
   split at h
   ·rename_i hc
    cases h
    have hvc:=And.intro hvc0.1 hvc0.2.1
    simp only[bB] at hc
    have:=bT hc.1;subst this
    have:=Ty.aB hc.2;subst this
    obtain⟨a,cap,e,h1,h2,h3,h4⟩:=RV.atom rfl hx
    simp at e;subst e
    rcases h4 with h4|⟨b,o,cs,e1,e2,e3,e4⟩
    ·subst h4;simp at hvc;exact absurd hvc.2 (by omega)
    ·subst e1
     have hlt:i.toNat<xs.length:=by omega
     have anr:=aY.get (fun _ _=>Rel.len) u.aD i.toNat e4 hlt
     exact⟨_,eS T ht hty w b o _ cap k i hvc,RV.eI (Or.inr ⟨rfl,b,_,_,rfl,e2,e3.sub _ _,anr⟩)⟩
   ·cases h
  ·rename_i bs u b hty
   split at h
   ·rename_i e bs2 u' xs hk
    split at h
    ·rename_i hc
     cases h
     have hvc:=And.intro hvc0.1 hvc0.2.1
     have:=Ty.aB hc;subst this
     have hx:=RV.atom rfl hx
     simp only[RC,List.cons.injEq,and_true] at hx
     have hx:=hx.1
     subst hx
     obtain⟨h1,h2,h3,h4,a,cap,h5,h6,h7⟩:=hw.cX b _ (hB b _ hk)
     rw[h5]
     rcases h7 with⟨_,_,h9⟩|⟨g,c,h7,h8,h9,h10,h11,h12⟩
     ·subst h9;simp at hvc;exact absurd hvc.2 (by omega)
     ·subst h8
      refine⟨_,eS T ht hty w g 0 _ cap k i hvc,RV.eI (Or.inr ⟨rfl,g,h7,?_,?_⟩)⟩
      ·rw[h1];simp[Ty.off,Ty.k7]
      ·rw[h1];exact⟨by omega,Ty.gO _⟩
    ·cases h
   ·rename_i e bs2 u' xs j v hk
    split at h
    ·rename_i hc
     cases h
     have hvc:=And.intro hvc0.1 hvc0.2.1
     have:=Ty.aB hc;subst this
     have hx:=RV.atom rfl hx
     simp only[RC,List.cons.injEq,and_true] at hx
     have hx:=hx.1
     subst hx
     obtain⟨h1,h2,h3,h4,h5,h6,g,cap,c,q1,q2,q3,q4,q5,q6,q7,q8,q9⟩:=hw.cX b _ (hB b _ hk)
     rw[q1]
     have hij:i.toNat=j:=hvc.2
     have h0:0≤i:=hvc.1
     refine⟨_,eS T ht hty w g 0 _ cap k i ⟨h0,by omega⟩,RV.eI (Or.inr ⟨rfl,g,q3,?_,?_⟩)⟩
     ·rw[h1,hij];simp[mA,Ty.off,Ty.k7,Ty.size]
     ·rw[h1];exact Ty.gO u
    ·cases h
   ·rename_i e bs2 u' xs e2 j v hk
    split at h
    ·rename_i hc
     cases h
     have hvc:=And.intro hvc0.1 hvc0.2.1
     have:=Ty.aB hc;subst this
     have hx:=RV.atom rfl hx
     simp only[RC,List.cons.injEq,and_true] at hx
     have hx:=hx.1
     subst hx
     obtain⟨h1,h2,h3,h4,h5,g,cap,c,og,q1,q2,q3,q4,q5,q6,q7,q8⟩:=hw.cX b _ (hB b _ hk)
     rw[q1]
     have hij:i.toNat=j:=hvc.2
     have h0:0≤i:=hvc.1
     have hj:=(h5 j v rfl).1
     refine⟨_,eS T ht hty w g 0 _ cap k i ⟨h0,by omega⟩,RV.eI (Or.inr ⟨rfl,g,q3,?_,?_⟩)⟩
     ·rw[h1,hij];simp[uG,mA,Ty.off,Ty.k7,Ty.size]
     ·rw[h1];exact Ty.gO u
    ·cases h
   ·cases h
  ·rename_i bs u b lo len hty
   split at h
   ·rename_i e bs2 u' xs hk
    split at h
    ·rename_i hc
     cases h
     have hvc:=And.intro hvc0.1 hvc0.2.1
     have:=Ty.aB hc;subst this
     obtain⟨a,c0,n,tt,r1,r2,r3,r4,a2,e,r6⟩:=RV.atom rfl hx
     simp at e;subst e
     obtain⟨h1,h2,h3,h4,a',cap,h5,h6,h7⟩:=hw.cX b _ (hB b _ hk)
     rw[h1] at r1;cases r1
     rw[h5] at r2;cases r2
     rcases h7 with⟨_,_,h9⟩|⟨g,c,h7,h8,h9,h10,h11,h12⟩
     ·subst h9;simp at r3;exact absurd hvc.2 (by omega)
     ·subst h8
      have had:a2=some ⟨g,lo*u.size,none⟩:=by
       rcases r6 with r6|r6
       ·omega
       ·rw[r6];simp only[Option.map_some,dk];unfold Addr.add;split<;>simp_all
      rw[had]
      refine⟨_,eS T ht hty w g _ _ _ k i hvc,RV.eI (Or.inr ⟨rfl,g,h7,?_,?_⟩)⟩
      ·rw[h1];simp only[Ty.off,Ty.k7];rw[gj];simp
      ·rw[h1];exact⟨by omega,Ty.gO _⟩
    ·cases h
   ·cases h
  ·rename_i bs u b p lo len hty
   split at h
   ·rename_i tt v hk
    split at h
    ·rename_i n u' anq
     split at h
     ·rename_i hc
      cases h
      have hvc:=And.intro hvc0.1 hvc0.2.1
      have:=Ty.aB hc;subst this
      obtain⟨n2,t2,r1,r2,r3,a,cap,e,r4,r5⟩:=RV.atom rfl hx
      simp at e;subst e
      obtain⟨h1,h2,g,c,e2,h3,h4,h5⟩:=hw.cX b _ (hB b _ hk)
      rw[h1,anq] at r1;cases r1
      rcases r5 with r5|⟨g',r5,r6⟩
      ·subst r5;omega
      ·rw[h3] at r5;cases r5
       subst r6
       obtain⟨q1,q2,q3⟩:=Ty.kY (q:=[.idx (lo+i.toNat)]) anq
       refine⟨_,eS T ht hty w g _ _ _ k i hvc,RV.eI (Or.inr ⟨rfl,g,h3,?_,?_⟩)⟩
       ·rw[h1,q2];simp only[Ty.off,Ty.k7];rw[gj];simp;omega
       ·rw[h1];refine q3 (by rw[←h1];exact r2) ⟨by omega,Ty.gO _⟩
     ·cases h
    ·cases h
   ·cases h
  ·rename_i n u b p hty
   split at h
   ·rename_i kk hk
    split at h
    ·rename_i n' u' anq
     split at h
     ·rename_i hc
      cases h
      have hvc:=And.intro hvc0.1 hvc0.2.1
      simp only[bB] at hc
      have:=Ty.aB hc.1;subst this
      have:=bT hc.2;subst this
      obtain⟨g,hg,e,hv⟩:=RV.atom rfl hx
      simp at e;subst e
      have hbt:=RB.bt (hw.cX b kk (hB b kk hk)) (ny (q:=.idx 0) (s:=u) anq (by simp[Ty.sub,Ty.FJ]))
      rw[←hbt] at anq
      obtain⟨q1,q2,q3⟩:=Ty.kY (q:=[.idx i.toNat]) anq
      refine⟨_,mF T ht hty w g _ k i hvc,RV.eI (Or.inr ⟨rfl,g,hg,?_,?_⟩)⟩
      ·rw[q2];simp only[Ty.off,Ty.k7];simp
      ·exact q3 hv ⟨by omega,Ty.gO _⟩
     ·cases h
    ·cases h
   ·cases h
  ·rename_i n b p hty
   split at h
   ·rename_i kk hk
    split at h
    ·rename_i n' anq
     split at h
     ·rename_i hc
      cases h
      have hvc:=And.intro hvc0.1 hvc0.2.1
      have:=bT hc;subst this
      obtain⟨g,hg,e,hv⟩:=RV.atom rfl hx
      simp at e;subst e
      have hbt:=RB.bt (hw.cX b kk (hB b kk hk)) (ny (q:=.idx 0) (s:=.aS .func) anq rfl)
      rw[←hbt] at anq
      obtain⟨q1,q2,q3⟩:=Ty.kY (q:=[.idx i.toNat]) anq
      refine⟨_,uM T ht hty w g _ k i hvc,RV.eI (Or.inr ⟨rfl,g,hg,?_,?_⟩)⟩
      ·rw[q2];simp only[Ty.off]
      ·exact q3 hv (by show i.toNat<n;omega)
     ·cases h
    ·cases h
   ·cases h
  ·rename_i n u n' u' xs hty
   split at h
   ·rename_i hc
    cases h
    have hvc:=And.intro hvc0.1 hvc0.2.1
    simp only[bB] at hc
    have:=Ty.aB hc.1;subst this
    have:=bT hc.2;subst this
    obtain⟨b,o,cs,e,h1,h2,h3⟩:=RV.atom rfl hx
    simp at e;subst e
    obtain⟨hn,h3⟩:=h3
    have hlt:i.toNat<List.length xs:=by omega
    have anr:=aY.get (fun _ _=>Rel.len) u.aD i.toNat h3 hlt
    exact⟨_,mF T ht hty w b o k i hvc,RV.eI (Or.inr ⟨rfl,b,_,_,rfl,h1,h2.sub _ _,anr⟩)⟩
   ·cases h
  ·cases h
 grind
theorem uN{P:Program}{G:cd}(T:bM P G){gl:Ctx}{E:Env}{w:World}{hp:List (Option aP)}(hw:HW gl E w hp){hb:Nat→Option aP}(hB:HB hb hp){t:TypeId}{x y u:AV}{vx vy:Value}{vc:List VC}(hx:RV E w x vx)(hy:RV E w y vy)(h:jX G hb t x y=some (u,vc))(hvc:dQ vc):
 ∃v,(Instr.indexAt t vx vy).run P w= .ok v w∧RV E w u v:=by
 unfold jX at h
 split at h
 ·obtain⟨rfl,_⟩:=RV.dp hy
  exact tc T hw hB hx h hvc
 grind
theorem FK(l:List UInt8):(ByteArray.mk l.toArray).size=l.length:=by trivial
def jF(n:Nat):AV:=.val (.int .i64) (n:Int)
def JN(G:cd)(hb:Nat→Option aP)(t:TypeId)(x:AV):Option AV:=
 match G.at t with
 |
  some td=>
  match td.ty,x with
  | .slice _ _,.val (.slice _ _) xs=>some (jF xs.length)
  | .slice _ _,.bF=>some (jF 0)
  |
   .slice _ _,.own b=>match hb b with
   |some (.row _ _ _ xs)=>some (jF xs.length)
   |some (.cY _ _ _ xs _ _)=>some (jF xs.length)
   |some (.dh _ _ _ xs _ _)=>some (jF xs.length)
   |_=>none
  |
   .slice _ _,.ju b _ len=>match hb b with
   |some (.row _ _ _ xs)=>if Nat.ble 1 1 then some (jF len) else(some (jF xs.length))
   |_=>none
  |
   .slice _ _,.jj b p _ len=>match hb b with
   |
    some (.var tt _)=>match tt.sub p with
    |some (.arr n _)=>if Nat.ble n aG then some (jF len) else none
    |_=>none
   |_=>none
  | .str,.val .str s=>some (jF s.length)
  | .aS .map,.eA=>some (jF 0)
  |
   .aS .map,.mp b=>match hb b with
   |some (.map _ _ es)=>some (jF es.length)
   |_=>none
  | .map _ _,.eA=>some (jF 0)
  |
   .map _ _,.mp b=>match hb b with
   |some (.map _ _ es)=>some (jF es.length)
   |_=>none
  | .map _ _,.val (.map _ _) y=>some (jF (List.length (bE y)))
  |_,_=>none
 |none=>none
theorem RV.len{E:Env}{w:World}{n:Nat}(h:n≤aG):RV E w (jF n) (goInt n):=by
 refine RV.int (k:=.i64) ?_
 unfold aG at h
 have h1:IntKind.i64.min= -9223372036854775808:=by decide
 have h2:IntKind.i64.max=9223372036854775807:=by decide
 omega
theorem RM.len{E:Env}{w:World}{k v:Ty}:∀{l:List MapEntry}{xs:List (k.den×v.den)},RM E w k v l xs→l.length=xs.length
 |[],[],_=>rfl
 |[],_::_,h=>h.elim
 |_::_,[],h=>h.elim
 |_::l,_::xs,h=>by simp[RM.len h.2.2]
theorem bM.strOf{P:Program}{G:cd}(T:bM P G){t:TypeId}{td:TD}(h:G.at t=some td)(hs:td.ty= .str):P.underlying t=some .string:=by
 obtain⟨ii,d,_,h1,_,h2,_⟩:=T.info h
 have am9:=dv h2
 rw[h1]
 cases hd:d with
 |string=>rfl
 |struct fs=>subst hd;simp only[dB] at am9;rw[hs] at am9;trivial
 |array n e=>subst hd;simp only[dB] at am9;rw[hs] at am9;trivial
 |
  slice e=>
  subst hd
  simp only[cG] at h2
  rw[fQ] at h2
  rcases h2 with h2|h2
  ·grind [Ty.aB]
  grind
 |map k e=>subst hd;have:=(jn h2).1;rw[hs] at this;trivial
 |
  _=>
  subst hd
  simp only[cG] at h2
  first
   |(have:=Ty.aB h2;rw[hs] at this;cases this)
   |cases h2
theorem bM.mapOf{P:Program}{G:cd}(T:bM P G){t:TypeId}{td:TD}(h:G.at t=some td)(hs:td.ty.mD=true):P.underlying t=some (.map td.e td.e2):=by
 obtain⟨ii,d,_,h1,_,h2,_⟩:=T.info h
 have am9:=dv h2
 rw[h1]
 cases hd:d with
 |
  map k e=>
  grind [jn]
 |struct fs=>subst hd;simp only[dB] at am9;revert hs am9;cases td.ty<;>simp[Ty.mD,Ty.isAgg]
 |array n e=>subst hd;simp only[dB] at am9;revert hs am9;cases td.ty<;>simp[Ty.mD,Ty.isAgg]
 |
  slice e=>
  subst hd
  simp only[cG] at h2
  rw[fQ] at h2
  rcases h2 with h2|h2
  ·grind [Ty.aB,Ty.mD]
  simp only[bB] at h2
  grind [Ty.mD]
 |
  _=>
  subst hd
  simp only[cG] at h2
  first
   |(have:=Ty.aB h2;rw[this] at hs;simp[Ty.mD] at hs)
   |cases h2
theorem JO{P:Program}{G:cd}(T:bM P G){gl:Ctx}{E:Env}{w:World}{hp:List (Option aP)}(hw:HW gl E w hp){hb:Nat→Option aP}(hB:HB hb hp){t ty:TypeId}{x u:AV}{vx:Value}(hx:RV E w x vx)(h:JN G hb t x=some u):
 ∃v,(Builtin.len_ #[t] ty #[vx]).run P w= .ok v w∧RV E w u v:=by
 unfold JN at h
 split at h
 ·rename_i td ht
  split at h
  ·rename_i bs u' bs' u2 xs hty
   cases h
   obtain⟨te,ie,h1,_⟩:=T.dN ht hty
   obtain⟨a,cap,e,_,_,h3,_⟩:=RV.atom rfl hx
   simp at e;subst e
   exact⟨_,by simp[Builtin.len_,underlying,h1],RV.len h3⟩
  ·rename_i bs u' hty
   cases h
   obtain⟨te,ie,h1,_⟩:=T.dN ht hty
   have hx:=RV.atom rfl hx
   simp[RC] at hx;subst hx
   exact⟨_,by simp[Builtin.len_,underlying,h1],RV.len (by unfold aG;omega)⟩
  ·rename_i bs u' b hty
   split at h
   ·rename_i e2 bs2 t2 xs hk
    cases h
    obtain⟨te,ie,h1,_⟩:=T.dN ht hty
    have hx:=RV.atom rfl hx
    simp only[RC,List.cons.injEq,and_true] at hx
    have hx:=hx.1
    subst hx
    obtain⟨_,_,h3,_,a,cap,h5,_⟩:=hw.cX b _ (hB b _ hk)
    rw[h5]
    exact⟨_,by simp[Builtin.len_,underlying,h1],RV.len h3⟩
   ·rename_i e2 bs2 t2 xs j v hk
    cases h
    obtain⟨te,ie,h1,_⟩:=T.dN ht hty
    have hx:=RV.atom rfl hx
    simp only[RC,List.cons.injEq,and_true] at hx
    have hx:=hx.1
    subst hx
    obtain⟨_,_,_,h3,_,_,g,cap,c,h5,_⟩:=hw.cX b _ (hB b _ hk)
    rw[h5]
    exact⟨_,by simp[Builtin.len_,underlying,h1],RV.len h3⟩
   ·rename_i e2 bs2 t2 xs e3 f hk
    cases h
    obtain⟨te,ie,h1,_⟩:=T.dN ht hty
    have hx:=RV.atom rfl hx
    simp only[RC,List.cons.injEq,and_true] at hx
    have hx:=hx.1
    subst hx
    obtain⟨_,_,_,h3,_,g,cap,c,og,h5,_⟩:=hw.cX b _ (hB b _ hk)
    rw[h5]
    exact⟨_,by simp[Builtin.len_,underlying,h1],RV.len h3⟩
   ·cases h
  ·rename_i bs u' b lo len hty
   split at h
   ·rename_i e2 bs2 t2 xs hk
    simp at h;subst h
    obtain⟨te,ie,h1,_⟩:=T.dN ht hty
    obtain⟨a,c,n,tt,r1,r2,r3,r4,a2,e,_⟩:=RV.atom rfl hx
    simp at e;subst e
    obtain⟨q1,_,h3,_,a',cap,h5,_⟩:=hw.cX b _ (hB b _ hk)
    rw[r1] at q1;cases q1
    exact⟨_,by simp[Builtin.len_,underlying,h1],RV.len (by omega)⟩
   ·cases h
  ·rename_i bs u' b p lo len hty
   split at h
   ·rename_i tt v hk
    split at h
    ·rename_i n0 u0 anq
     split at h
     ·rename_i hn
      cases h
      obtain⟨te,ie,h1,_⟩:=T.dN ht hty
      obtain⟨n,t2,r1,r2,r3,a,cap,e,r4,r5⟩:=RV.atom rfl hx
      simp at e;subst e
      obtain⟨q1,_⟩:=hw.cX b _ (hB b _ hk)
      rw[q1,anq] at r1;cases r1
      have:=fI hn
      exact⟨_,by simp[Builtin.len_,underlying,h1],RV.len (by omega)⟩
     ·cases h
    ·cases h
   ·cases h
  ·rename_i s hty
   cases h
   have h1:=T.strOf ht hty
   obtain⟨rfl,h2⟩:=RV.iL hx
   exact⟨goInt s.length,by simp[Builtin.len_,underlying,h1,FK],RV.len h2⟩
  ·rename_i hty
   cases h
   have h1:=T.mapOf ht (by rw[hty];rfl)
   have hx:=RV.atom rfl hx
   simp[RC] at hx;subst hx
   exact⟨_,by simp[Builtin.len_,underlying,h1],RV.len (by unfold aG;omega)⟩
  ·rename_i b hty
   split at h
   ·rename_i kt vt es hk
    cases h
    have h1:=T.mapOf ht (by rw[hty];rfl)
    obtain⟨g,hg,e⟩:=RV.atom rfl hx
    simp at e;subst e
    obtain⟨_,h2,g',en,clock,h3,h4,h5,_⟩:=hw.cX b _ (hB b _ hk)
    rw[hg] at h3;cases h3
    have hl:=RM.len h5
    refine⟨goInt es.length,?_,RV.len h2⟩
    simp[Builtin.len_,underlying,h1,getObj,Sem.run,h4,←hl]
   ·cases h
  ·rename_i _ _ hty
   cases h
   have h1:=T.mapOf ht (by rw[hty];rfl)
   have hx:=RV.atom rfl hx
   simp[RC] at hx;subst hx
   exact⟨_,by simp[Builtin.len_,underlying,h1],RV.len (by unfold aG;omega)⟩
  ·rename_i _ _ b hty
   split at h
   ·rename_i kt vt es hk
    cases h
    have h1:=T.mapOf ht (by rw[hty];rfl)
    obtain⟨g,hg,e⟩:=RV.atom rfl hx
    simp at e;subst e
    obtain⟨_,h2,g',en,clock,h3,h4,h5,_⟩:=hw.cX b _ (hB b _ hk)
    rw[hg] at h3;cases h3
    have hl:=RM.len h5
    refine⟨goInt es.length,?_,RV.len h2⟩
    simp[Builtin.len_,underlying,h1,getObj,Sem.run,h4,←hl]
   ·cases h
  ·rename_i _ _ k' v' y hty
   cases h
   have h1:=T.mapOf ht (by rw[hty];rfl)
   obtain⟨a,e,hr⟩:=RV.atom rfl hx
   simp at e;subst e
   rcases hr with⟨rfl,rfl⟩|⟨es,g,en,clock,rfl,rfl,_,h4,h5,_,h6,_⟩
   ·exact⟨_,by simp[Builtin.len_,underlying,h1],RV.len (n:=0) (by unfold aG;omega)⟩
   ·have hl:=jR.len h5
    exact⟨goInt es.length,by simp[Builtin.len_,underlying,h1,getObj,Sem.run,h4,←hl],RV.len h6⟩
  ·cases h
 grind
end Go.Ax
namespace Go.Ax
def St.fresh(σ:St)(d:Nat):Prop:=d∉σ.ids∧(∀k,σ.hp[d]? ≠some (some k))∧16≤d
def cJ:Nat→List Nat→Bool
 |_,[]=>false
 |d,x::l=>Nat.beq d x||cJ d l
theorem fa{d:Nat}:∀{l:List Nat},cJ d l=false→d∉l
 |[],_=>by simp
 |
  x::l,h=>by
  simp only[cJ,Bool.or_eq_false_iff] at h
  intro hm
  cases hm with
  |head=>simp at h
  |tail _ hm=>exact fa h.2 hm
def St.fG(σ:St)(d:Nat):Bool:=
 Nat.ble 16 d&& !cJ d σ.ids&&(match σ.hp[d]? with|some (some _)=>false|_=>true)
theorem St.ee{σ:St}{d:Nat}(h:σ.fG d=true):σ.fresh d:=by
 simp only[St.fG,bB] at h
 refine⟨fa (by simpa using h.1.2),?_,fI h.1.1⟩<;>grind
theorem cp.fresh{gl:Ctx}{σ:St}{E:Env}{a:Act}{w w':World}(h:cp gl σ E a w){d:Nat}(hf:σ.fresh d){g:Option Nat}{sv:Value}{t:Ty}{k:aP}
 (hos:w'.os=w.os) (hta:Tp gl.md w w') (hou:w'.output=w.output) (hsz:w.heap.size≤w'.heap.size) (hold:∀i,i<w.heap.size→w'.heap[i]? =w.heap[i]?)
 (hg:∀i,g=some i→w.heap.size≤i) (hb:RB (E.at d g sv t) w' d k):
 cp gl (σ.cX d (some k)) (E.at d g sv t) a w'∧Ext gl.md (bK σ.hp E) E w (bK (σ.cX d (some k)).hp (E.at d g sv t)) (E.at d g sv t) w':=by
 have kp:bS E w (E.at d g sv t) w':=⟨fun b hb=>hold b (h.hw.slt b hb),fun b hb=>hb⟩
 have hw:=h.hw.fresh (d:=d) hsz hold hf.2.1 (fun b k' hk hm=>hf.1 (St.yT hk d hm)) hg hb
 refine⟨h.carry kp (Env.BD hf.1) hw,hos,hta,hou,hsz,fun i hi _=>hold i hi,fun i hi=>hi,fun i hi=>Or.inl hi,?_,Env.JJ hf.2.2⟩
 rintro i ⟨b,k',hbk,hgi⟩
 by_cases e:b=d
 ·grind [Env.jW]
 ·have hgi:=(Env.iY e).1 hgi
  simp only[St.cX] at hbk
  rw[dm,aC (fun e'=>e e'.symm)] at hbk
  exact Or.inl ⟨b,k',hbk,hgi⟩
theorem iM(w:World)(o:Obj)(i:Nat)(hi:i<w.heap.size):({w with heap:=w.heap.push o}:World).heap[i]? =w.heap[i]? :=by
 grind
theorem ov(w:World)(o:Obj):({w with heap:=w.heap.push o}:World).heap[w.heap.size]? =some o:=by
 grind
theorem cp.newVar{P:Program}{gl:Ctx}{σ:St}{E:Env}{a:Act}{w:World}(h:cp gl σ E a w){d:Nat}(hf:σ.fresh d){t:Ty}{x:AV}{v:Value}(e:TypeId)(hr:RC E w x v.cells.toList)(hc:x.cK t=true)(hx:d∉x.ids):
 ∃w' E',(Go.newVar e v).run P w= .ok ⟨w.heap.size,0,none⟩ w'∧cp gl (σ.cX d (some (.var t x))) E' a w'∧RV E' w' (.ptr d []) (.pointer (some ⟨w.heap.size,0,none⟩))∧Ext gl.md (bK σ.hp E) E w (bK (σ.cX d (some (.var t x))).hp E') E' w':=by
 refine⟨{w with heap:=w.heap.push (.cells v.cells e)},E.at d (some w.heap.size) undef t,by trivial,?_⟩
 have kp:bS E w (E.at d (some w.heap.size) undef t) {w with heap:=w.heap.push (.cells v.cells e)}:=⟨fun b hb=>iM _ _ _ (h.hw.slt b hb),fun b hb=>hb⟩
 obtain⟨h1,h2⟩:=h.fresh hf (w':={w with heap:=w.heap.push (.cells v.cells e)}) (g:=some w.heap.size) (sv:=undef) (t:=t) (k:=.var t x) rfl (Tp.r rfl rfl) rfl (by simp) (fun i hi=>iM _ _ _ hi) (fun i hi=>by grind)
  ⟨by simp[Env.at],hc,w.heap.size,v.cells,e,by simp[Env.at],ov _ _,RC.mono kp (Env.BD hx) hr⟩
 exact⟨h1,RV.eI (Or.inr ⟨rfl,w.heap.size,by simp[Env.at],by simp[Env.at,Ty.k7],Ty.gO _⟩),h2⟩
theorem BG(v:Value):(pL v).ids= []:=by
 unfold pL
 split<;>try rfl
 all_goals(split<;>rfl)
theorem Dr(gl:List Hr)(g:Nat):(rm gl g).ids= []:=by
 induction gl with
 |nil=>rfl
 |cons x l ih=>unfold rm;split;rfl;exact ih
theorem xG{gl:Ctx}{σ:St}{x:Operand}:∀b∈(bP gl σ.tm x).ids,b∈σ.ids:=by
 intro b hb
 cases x with
 |
  tmp t=>
  grind [bP,AV.ids,St.Dl]
 |const v=>grind [bP,BG]
 |global g=>grind [bP,Dr]
 |func f=>trivial
theorem Ty.JP(t:Ty):t.zero.ids= []:=by
 induction t with
 |pair a b ih1 ih2=>simp[Ty.zero,AV.ids,ih1,ih2]
 |aS k=>cases k<;>rfl
 |_=>rfl
theorem Hv{P:Program}{G:cd}(T:bM P G){gl:Ctx}{σ:St}{E:Env}{a:Act}{w:World}(h:cp gl σ E a w){d:Nat}(hf:σ.fresh d){e:TypeId}{td:TD}(he:G.at e=some td)(old:Value):
 ∃v w' E',(Instr.alloc e true old).run P w= .ok v w'∧cp gl (σ.cX d (some (.var td.ty td.ty.zero))) E' a w'∧RV E' w' (.ptr d []) v∧Ext gl.md (bK σ.hp E) E w (bK (σ.cX d (some (.var td.ty td.ty.zero))).hp E') E' w':=by
 obtain⟨z,hz,h1,h2⟩:=T.zero he w
 obtain⟨w',E',h3,h4,h5,h6⟩:=h.newVar (P:=P) hf (t:=td.ty) (x:=td.ty.zero) (v:=z) e (fS h1).1 (Ty.ri _) (by rw[Ty.JP];simp)
 exact⟨_,w',E',by simp[Instr.alloc,hz,h3],h4,h5,h6⟩
theorem NP{P:Program}{gl:Ctx}{σ:St}{E:Env}{a:Act}{w:World}(h:cp gl σ E a w){d:Nat}(hf:σ.fresh d){e:TypeId}{t:Ty}{x:AV}{v:Value}(hr:cE E w x v)(hc:x.cK t=true)(hx:d∉x.ids):
 ∃u w' E',(Instr.box e v).run P w= .ok u w'∧cp gl (σ.cX d (some (.var t x))) E' a w'∧RV E' w' (.ptr d []) u∧Ext gl.md (bK σ.hp E) E w (bK (σ.cX d (some (.var t x))).hp E') E' w':=by
 obtain⟨w',E',h3,h4,h5,h6⟩:=h.newVar (P:=P) hf (t:=t) (x:=x) (v:=v) e hr.cells hc hx
 exact⟨_,w',E',by simp[Instr.box,h3],h4,h5,h6⟩
def R9(e:TypeId)(bs:Nat)(t:Ty)(xs:List t.den)(i:Nat)(p:Path)(x:AV):Option aP:=
 match gX t (xs.getD i t.aD) p x with
 |
  some y=>match y.bO t with
  |some z=>some (.row e bs t (xs.set i z))
  |none=>none
 |none=>none
def xH:aP→Path→AV→Option aP
 |
  .var t v,p,x=>match v.set p x with
  |some u=>if u.cK t then some (.var t u) else none
  |none=>none
 | .row e bs t xs,.idx i::p,x=>R9 e bs t xs i p x
 |
  .cY e bs t xs i v,.cV 1::p,x=>match v.set p x with
  |some u=>if u.cK t then some (.cY e bs t xs i u) else none
  |none=>none
 |
  .dh e bs t xs e2 (some (i,v)),.cV 1::p,x=>match v.set p x with
  |some u=>if u.cK t then some (.dh e bs t xs e2 (some (i,u))) else none
  |none=>none
 |_,_,_=>none
theorem BH{L us:List Value}{a o n:Nat}(h:o+us.length≤n)(hl:a+n≤L.length):
 (L.take (a+o)++us++L.drop (a+o+us.length)).take a=L.take a∧((L.take (a+o)++us++L.drop (a+o+us.length)).drop a).take n=((L.drop a).take n).take o++us++((L.drop a).take n).drop (o+us.length)∧
  (L.take (a+o)++us++L.drop (a+o+us.length)).drop (a+n)=L.drop (a+n):=by
 obtain⟨A,M,B,hA,hM,rfl⟩:∃A M B,A.length=a∧M.length=n∧L=A++(M++B):=
  ⟨L.take a,(L.drop a).take n,L.drop (a+n),by grind,by grind,by grind [lR,lM]⟩
 subst hA;subst hM
 have e1:(A++(M++B)).take (A.length+o)=A++M.take o:=by grind [List.take_length_add_append]
 have e2:(A++(M++B)).drop (A.length+o+us.length)=M.drop (o+us.length)++B:=by grind [List.drop_length_add_append]
 have e3:((A++(M++B)).drop A.length).take M.length=M:=by simp
 have hml:(M.take o++us++M.drop (o+us.length)).length=M.length:=by simp;omega
 grind
theorem Hw(l us:List Value)(o m:Nat)(h:o+us.length≤m)(hm:m≤l.length):(l.take o++us++l.drop (o+us.length)).take m=(l.take m).take o++us++(l.take m).drop (o+us.length):=by
 have e1:(l.take m).take o=l.take o:=by grind
 have e2:(l.take m).drop (o+us.length)=(l.drop (o+us.length)).take (m -(o+us.length)):=by rw[mu]
 rw[e1,e2,List.take_append,gJ (l:=l.take o++us) (by grind)]
 grind
theorem JQ{P:Program}{gl:Ctx}{E:Env}{w:World}{hp:List (Option aP)}(hw:HW gl E w hp){b:Nat}{k k':aP}{p:Path}{x:AV}{us:List Value}(hb:hp[b]? =some (some k))(hv:(E.bt b).valid p)(hx:RC E w x us)
 (anq:∀s,(E.bt b).sub p=some s→us.length=s.size) (h:xH k p x=some k'):
 ∃g w',E.g b=some g∧(storeCells ⟨g,(E.bt b).off p,none⟩ us 0).run P w= .ok () w'∧w'.os=w.os∧Tp gl.md w w'∧w'.output=w.output∧w'.heap.size=w.heap.size∧(∀i,i≠g→w'.heap[i]? =w.heap[i]?)∧RB E w' b k':=by
 have hk:=hw.cX b k hb
 cases k with
 |
  var t v=>
  obtain⟨h1,h2,g,c,e,h3,h4,h5⟩:=hk
  rw[h1] at hv anq ⊢
  simp only[xH] at h
  split at h
  ·rename_i u hu
   split at h
   ·rename_i hconf
    cases h
    obtain⟨s,e1,e2,e3,e4⟩:=AV.mz hx h5 h2 hv anq hu
    rw[←e2] at e3 e4
    have hst:=run_storeCells_at P g (t.off p) e us 0 c w h4 (by grind) (RC.one hx)
    refine⟨g,_,h3,hst,rfl,Tp.r rfl rfl,rfl,by simp,fun i hi=>setRow_other w g i _ hi,?_⟩
    have kp:bS E w E (w.setRow g (c.toList.take (t.off p+0)++us++c.toList.drop (t.off p+0+us.length)).toArray):=
     ⟨fun i hi=>setRow_other w g i _ (fun e=>hw.kf b _ g hb h3 (e▸hi)),fun _ h=>h⟩
    refine⟨h1,hconf,g,_,e,h3,setRow_heap w g c _ e _ h4,?_⟩
    have:=RC.mono kp (fun _ _=>⟨rfl,rfl,rfl⟩) e4
    grind
   grind
  grind
 |
  row e bs t xs=>
  obtain⟨h1,h2,h3,h4,a,cap,h5,h6,h7⟩:=hk
  cases p with
  |nil=>trivial
  |
   cons ps p=>
   cases ps with
   |cV k=>trivial
   |
    idx i=>
    rw[h1] at hv anq ⊢
    have hi:i<xs.length:=hv.1
    rcases h7 with⟨_,_,h9⟩|⟨g,c,h7,h8,h9,h10,h11,h12⟩
    ·grind
    ·have hR:Rel w E.S (.arr xs.length t) (c.toList.take (xs.length*t.size)) xs:=⟨rfl,h12⟩
     simp only[xH,R9] at h
     split at h
     ·rename_i y hy
      split at h
      ·rename_i z hz
       cases h
       have aR:gX (.arr xs.length t) xs (.idx i::p) x=some (.val (.arr xs.length t) (List.set xs i z)):=by
        grind [gX]
       obtain⟨s,e1,e2,e3,e4⟩:=xE hx hR hv aR
       have hlen:xs.length*t.size≤c.toList.length:=by
        grind [gK]
       have e3':=e3
       rw[kz,pK hlen,←e2] at e3'
       have hst:=run_storeCells_at P g ((Ty.arr xs.length t).off (.idx i::p)) e us 0 c w h9 (by grind) (RC.one hx)
       refine⟨g,_,h7,hst,rfl,Tp.r rfl rfl,rfl,by simp,fun i hi=>setRow_other w g i _ hi,?_⟩
       have kp:bS E w E (w.setRow g (c.toList.take ((Ty.arr xs.length t).off (.idx i::p)+0)++us++c.toList.drop ((Ty.arr xs.length t).off (.idx i::p)+0+us.length)).toArray):=
        ⟨fun i hi=>setRow_other w g i _ (fun e=>hw.kf b _ g hb h7 (e▸hi)),fun _ h=>h⟩
       refine⟨by grind,by grind,by grind,h4,a,cap,by grind,h6,Or.inr ⟨g,_,h7,h8,setRow_heap w g c _ e _ h9,?_,by grind,?_⟩⟩
       ·grind
       ·have:=RC.mono kp (fun _ _=>⟨rfl,rfl,rfl⟩) e4
        rw[←e2] at this
        have hh:=this.2
        simp only[Nat.add_zero,cj]
        grind [Hw]
      grind
     grind
 |
  cY e bs t xs i v=>
  obtain⟨h1,h2,h3,h4,h5,h6,g,cap,c,q1,q2,q3,q4,q5,q6,q7,q8,q9⟩:=hk
  rw[h1] at hv anq ⊢
  unfold xH at h
  split at h
  ·grind
  ·grind
  ·rename_i p hk
   cases hk
   split at h
   ·rename_i u hu
    split at h
    ·rename_i hconf
     cases h
     have hv':t.valid p:=hv
     obtain⟨s,e1,e2,e3,e4⟩:=AV.mz hx q8 h6 hv' anq hu
     rw[←e2] at e3 e4
     rw[kz,List.length_drop] at e3
     have hoff:(mA i xs.length t).off (.cV 1::p)=i*t.size+t.off p:=by trivial
     have hlen:i*t.size+t.size≤c.toList.length:=by
      rw[show c.toList.length=c.size from pE,q5]
      calc i*t.size+t.size=(i+1)*t.size:=by grind
       _≤cap*t.size:=gK _ (by omega)
     obtain⟨m1,m2,m3⟩:=BH (L:=c.toList) (us:=us) (a:=i*t.size) (o:=t.off p) (n:=t.size) (by omega) hlen
     have hst:=run_storeCells_at P g (i*t.size+t.off p) e us 0 c w q4 (by grind) (RC.one hx)
     rw[hoff]
     refine⟨g,_,q3,hst,rfl,Tp.r rfl rfl,rfl,by simp,fun i hi=>setRow_other w g i _ hi,?_⟩
     have kp:bS E w E (w.setRow g (c.toList.take (i*t.size+t.off p+0)++us++c.toList.drop (i*t.size+t.off p+0+us.length)).toArray):=
      ⟨fun i hi=>setRow_other w g i _ (fun e=>hw.kf b _ g hb q3 (e▸hi)),fun _ h=>h⟩
     refine⟨h1,h2,h3,h4,h5,hconf,g,cap,_,q1,q2,q3,setRow_heap w g c _ e _ q4,?_,q6,?_,?_,?_⟩
     ·grind
     ·simp only[Nat.add_zero]
      rw[m1]
      exact aY.mono (fun _ _=>Rel.mono kp.w kp.S) q7
     ·simp only[Nat.add_zero] at kp ⊢
      rw[m2]
      exact RC.mono kp (fun _ _=>⟨rfl,rfl,rfl⟩) e4
     ·simp only[Nat.add_zero] at kp ⊢
      rw[show(i+1)*t.size=i*t.size+t.size from by grind] at q9 ⊢
      rw[m3]
      exact aY.mono (fun _ _=>Rel.mono kp.w kp.S) q9
    grind
   grind
  ·grind
  grind
 |
  dh e bs t xs e2' f=>
  obtain⟨h1,h2,h3,h4,h5,g,cap,c,og,q1,q2,q3,q4,q5,q6,q7,q8⟩:=hk
  unfold xH at h
  split at h
  ·grind
  ·grind
  ·grind
  ·rename_i i v p hk
   cases hk
   split at h
   ·rename_i u hu
    split at h
    ·rename_i hconf
     cases h
     obtain⟨hi,hcv⟩:=h5 i v rfl
     obtain⟨u',r1,r2,_⟩:=q8 i (xs.getD i t.aD) (by grind)
     obtain⟨r0,r2⟩:=r2 v rfl
     rw[h1] at hv anq ⊢
     have hv':t.valid p:=hv
     have hc:c.toList[i]? =some u':=by grind
     have hmid:(c.toList.drop (i*t.size)).take t.size= [u']:=by
      rw[h2,Nat.mul_one]
      grind [kA]
     rw[←hmid] at r2
     obtain⟨s,e1,e2,e3,e4⟩:=AV.mz hx r2 hcv hv' anq hu
     rw[←e2] at e3 e4
     rw[kz,List.length_drop] at e3
     have hoff:(uG xs.length t (some (i,v))).off (.cV 1::p)=i*t.size+t.off p:=by trivial
     have hlen:i*t.size+t.size≤c.toList.length:=by
      grind
     obtain⟨m1,m2,m3⟩:=BH (L:=c.toList) (us:=us) (a:=i*t.size) (o:=t.off p) (n:=t.size) (by omega) hlen
     have hst:=run_storeCells_at P g (i*t.size+t.off p) e us 0 c w q4 (by grind) (RC.one hx)
     rw[hoff]
     refine⟨g,_,q3,hst,rfl,Tp.r rfl rfl,rfl,by simp,fun i hi=>setRow_other w g i _ hi,?_⟩
     have kp:bS E w E (w.setRow g (c.toList.take (i*t.size+t.off p+0)++us++c.toList.drop (i*t.size+t.off p+0+us.length)).toArray):=
      ⟨fun i hi=>setRow_other w g i _ (fun e=>hw.kf b _ g hb q3 (e▸hi)),fun _ h=>h⟩
     simp only[Nat.add_zero] at kp ⊢
     rw[h2,Nat.mul_one] at m1 m2 m3 kp hlen ⊢
     have hsz:(c.toList.take (i+t.off p)++us++c.toList.drop (i+t.off p+us.length)).length=c.toList.length:=by
      rw[show c.toList.length=c.size from pE] at hlen ⊢
      simp only[ep,kz,List.length_drop,pE];omega
     refine⟨h1,h2,h3,h4,fun i' v' hv'=>by grind,g,cap,_,og,q1,q2,q3,setRow_heap w g c _ e _ q4,?_,q6,q7,?_⟩
     ·grind
     ·intro i' x' hx'
      obtain⟨z,s1,s2,s3⟩:=q8 i' x' hx'
      by_cases e:i'=i
      ·subst e
       rw[h2,Nat.mul_one] at e4 hmid
       rw[←m2] at e4
       have hlt:i'<(c.toList.take (i'+t.off p)++us++c.toList.drop (i'+t.off p+us.length)).length:=by grind
       have e5:((c.toList.take (i'+t.off p)++us++c.toList.drop (i'+t.off p+us.length)).drop i').take 1= [(c.toList.take (i'+t.off p)++us++c.toList.drop (i'+t.off p+us.length))[i']]:=by
        rw[kA hlt];rfl
       rw[e5] at e4
       refine⟨(c.toList.take (i'+t.off p)++us++c.toList.drop (i'+t.off p+us.length))[i'],by grind,fun v' hv'=>?_,fun hv'=>absurd rfl (hv' u)⟩
       cases hv'
       exact⟨r0,RC.mono kp (fun _ _=>⟨rfl,rfl,rfl⟩) e4⟩
      ·refine⟨z,?_,fun v' hv'=>by grind,fun _=>?_⟩
       ·have s1:c.toList[i']? =some z:=by grind
        have hnew:(c.toList.take (i+t.off p)++us++c.toList.drop (i+t.off p+us.length))[i']? =some z:=by
         rcases Nat.lt_or_gt_of_ne e with hl|hl
         ·grind
         ·have a1:((c.toList.take (i+t.off p)++us++c.toList.drop (i+t.off p+us.length)).drop (i+1))[i' -(i+1)]? =(c.toList.drop (i+1))[i' -(i+1)]? :=by rw[m3]
          rw[List.getElem?_drop,List.getElem?_drop,show i+1+(i' -(i+1))=i' from by omega] at a1
          grind
        grind
       ·have s4:=s3 (fun v' hv'=>by grind)
        refine dn.mono kp.w kp.S (fun gg hgg=>?_) s4
        exact setRow_other w g gg _ (q7.own i' gg hgg).2
    grind
   grind
  grind
 |_=>trivial
def yV(G:cd)(hb:Nat→Option aP)(t:TypeId)(x y:AV):Option (Nat×aP):=
 match x,G.at t with
 |
  .ptr b p,some td=>match hb b with
  |
   some k=>match(jf k).sub p with
   |some s=>if Ty.same s td.ty&&Nat.beq y.size td.ty.size then(xH k p y).map fun k'=>(b,k') else none
   |none=>none
  |none=>none
 |_,_=>none
theorem bK.i3{hp:List (Option aP)}{E:Env}{b:Nat}{k k':aP}(hb:hp[b]? =some (some k)){i:Nat}:bK (hp.set b (some k')) E i→bK hp E i:=bK.set hb
theorem BI{P:Program}{G:cd}(T:bM P G){gl:Ctx}{σ:St}{E:Env}{a:Act}{w:World}(h:cp gl σ E a w){hb:Nat→Option aP}(hB:HB hb σ.hp){t:TypeId}{x y:AV}{vx vy:Value}(hx:RV E w x vx)(hy:cE E w y vy){b:Nat}{k':aP}
 (hev:yV G hb t x y=some (b,k')):
 ∃w',(Instr.storeAt t vx vy).run P w= .ok () w'∧cp gl (σ.cX b (some k')) E a w'∧Ext gl.md (bK σ.hp E) E w (bK (σ.cX b (some k')).hp E) E w':=by
 unfold yV at hev
 split at hev
 ·rename_i b' p td ht
  split at hev
  ·rename_i k hk
   split at hev
   ·rename_i s hs
    split at hev
    ·rename_i hc
     simp only[bB] at hc
     obtain⟨k2,hk2,e⟩:=Option.map_eq_some_iff.1 hev
     cases e
     have:=Ty.aB hc.1;subst this
     obtain⟨g,hg,e,hv⟩:=RV.atom rfl hx
     simp at e;subst e
     have hkb:=h.hw.cX b k (hB b k hk)
     have hbt:E.bt b=jf k:=by
      refine RB.bt hkb ?_
      cases k<;>first|rfl|trivial
     have hyc:=hy.cells
     have hlen:=RC.len hyc
     have hsz:=bT hc.2
     obtain⟨g',w',h1,h2,h3,h4,h5,h6,h7,h8⟩:=JQ (P:=P) h.hw (hB b k hk) hv hyc (fun s' hs'=>by grind) hk2
     rw[hg] at h1;cases h1
     have anj:(Instr.storeAt t (.pointer (some ⟨g,(E.bt b).off p,none⟩)) vy).run P w= .ok () w':=by
      have:vy.cells.size=td.ty.size:=by grind
      simp[Instr.storeAt,Instr.sureAddr,storeVar,T.size ht,this,h2]
     have kp:bS E w E w':=⟨fun i hi=>h7 i (fun e=>h.hw.kf b k g (hB b k hk) hg (e▸hi)),fun _ h=>h⟩
     have hhw:=h.hw.write (w':=w') (k':=k') (hB b k hk) h6 (fun i hi=>h7 i (fun e=>hi (e▸hg))) h8
     refine⟨w',anj,h.carry kp (fun _ _=>⟨rfl,rfl,rfl⟩) hhw,h3,h4,h5,by omega,?_,fun _ h=>h,fun _ h=>Or.inl h,fun i hi=>Or.inl (bK.set (hB b k hk) hi),fun _ _=>⟨rfl,rfl,rfl⟩⟩
     intro i hi ho
     exact h7 i (fun e=>ho ⟨b,k,hB b k hk,Or.inl (e▸hg)⟩)
    grind
   grind
  grind
 grind
end Go.Ax
namespace Go.Ax
structure aV where
 rt:List Nat
 rb:List Nat
 fr:List Nat
 dst:Option Nat
 v:AV
 hw:List (Nat×Option aP)
def aR(hp:List (Option aP)):List (Nat×Option aP)→List (Option aP)
 |[]=>hp
 |(b,k)::l=>aR (hp.set b k) l
def St.app(σ:St)(f:aV):St:=({σ with hp:=aR σ.hp f.hw}:St).put f.dst f.v
structure iT(σ σ':St)(rt rb:List Nat):Prop where
 tl:σ'.tm.length=σ.tm.length
 hl:σ'.hp.length=σ.hp.length
 tm:∀t∈rt,σ'.tm[t]? =σ.tm[t]?
 hp:∀b∈rb,σ'.hp[b]? =σ.hp[b]?
theorem iT.refl(σ:St)(rt rb:List Nat):iT σ σ rt rb:=⟨rfl,rfl,fun _ _=>rfl,fun _ _=>rfl⟩
def oM(P:Program)(gl:Ctx)(ops:Array Oper)(i:Nat)(f:aV)(σ:St):Prop:=
 ∀σ',iT σ σ' f.rt f.rb→(∀d∈f.fr,σ'.fresh d)→∀E a w,cp gl σ' E a w→∀(K:Act→World→Prop)(Q:Exit→Act→World→Prop),
  (∀E' a' w',cp gl (σ'.app f) E' a' w'→Ext gl.md (bK σ'.hp E) E w (bK (σ'.app f).hp E') E' w'→K a' w')→wpOpIn (Wd gl) 0 P ops Q i K a w
def cu(OK:Nat→aV→St→Prop):Nat→List aV→St→St→Prop
 |_,[],σ,σ'=>σ'=σ
 |i,f::fs,σ,σ'=>OK i f σ∧(∀d∈f.fr,σ.fresh d)∧cu OK (i+1) fs (σ.app f) σ'
abbrev pO(P:Program)(gl:Ctx)(ops:Array Oper):Nat→List aV→St→St→Prop:=cu (oM P gl ops)
theorem cu.mono{OK OK':Nat→aV→St→Prop}(hm:∀i f σ,OK i f σ→OK' i f σ):∀{fs:List aV}{i:Nat}{σ σ':St},cu OK i fs σ σ'→cu OK' i fs σ σ'
 |[],_,_,_,h=>h
 |_::_,_,_,_,⟨h1,h2,h3⟩=>⟨hm _ _ _ h1,h2,h3.mono hm⟩
theorem kC:∀(l:List (Nat×Option aP))(hp:List (Option aP)),(aR hp l).length=hp.length
 |[],_=>rfl
 |(b,k)::l,hp=>by rw[aR,kC l,cj]
def wrote:List (Nat×Option aP)→List Nat
 |[]=>[]
 |(b,_)::l=>b::wrote l
theorem eJ{b:Nat}:∀{l:List (Nat×Option aP)}{hp:List (Option aP)},b∉wrote l→(aR hp l)[b]? =hp[b]?
 |[],_,_=>rfl
 |
  (c,k)::l,hp,h=>by
  simp only[wrote,fJ,not_or] at h
  rw[aR,eJ h.2,dm,aC (fun e=>h.1 e.symm)]
theorem rq(σ:St)(f:aV):(σ.app f).tm.length=σ.tm.length:=by
 unfold St.app St.put;grind
theorem ru(σ:St)(f:aV):(σ.app f).hp.length=σ.hp.length:=by
 unfold St.app St.put;split<;>simp[kC]
theorem g7(σ:St)(f:aV):(σ.app f).hp=aR σ.hp f.hw:=by
 unfold St.app St.put;grind
theorem uO(σ:St)(f:aV):(σ.app f).df=σ.df:=by
 unfold St.app St.put;grind
theorem g8{σ:St}{f:aV}{t:Nat}(h:f.dst≠some t):(σ.app f).tm[t]? =σ.tm[t]? :=by
 unfold St.app St.put
 grind
structure wW(gl:Ctx)(DS WB:List Nat)(σ0:St)(E0:Env)(w0:World)(σ:St)(E:Env)(w:World):Prop where
 df:σ.df=σ0.df
 tl:σ.tm.length=σ0.tm.length
 hl:σ.hp.length=σ0.hp.length
 tm:∀t,t∉DS→σ.tm[t]? =σ0.tm[t]?
 hp:∀b,b∉WB→σ.hp[b]? =σ0.hp[b]?
 ext:Ext gl.md (bK σ0.hp E0) E0 w0 (bK σ.hp E) E w
theorem wW.refl{gl:Ctx}{DS WB:List Nat}(σ:St)(E:Env)(w:World):wW gl DS WB σ E w σ E w:=⟨rfl,rfl,rfl,fun _ _=>rfl,fun _ _=>rfl,Ext.refl _ _ _⟩
def inW(DS WB:List Nat)(f:aV):Prop:=(∀d,f.dst=some d→d∈DS)∧∀b∈wrote f.hw,b∈WB
theorem wW.app{gl:Ctx}{DS WB:List Nat}{σ0 σ:St}{E0 E E':Env}{w0 w w':World}{f:aV}(h:wW gl DS WB σ0 E0 w0 σ E w)(hf:inW DS WB f)(hx:Ext gl.md (bK σ.hp E) E w (bK (σ.app f).hp E') E' w'):wW gl DS WB σ0 E0 w0 (σ.app f) E' w' where
 df:=(uO _ _).trans h.df
 tl:=(rq _ _).trans h.tl
 hl:=(ru _ _).trans h.hl
 tm:=fun t ht=>(g8 (fun e=>ht (hf.1 t e))).trans (h.tm t ht)
 hp:=fun b hb=>by rw[g7,eJ (fun e=>hb (hf.2 b e))];exact h.hp b hb
 ext:=h.ext.trans hx
def MJ(P:Program)(gl:Ctx)(ops:Array Oper)(Q:Exit→Act→World→Prop)(V:St→Env→World→Prop)(i:Nat)(f:aV)(σ:St):Prop:=
 ∀σ',iT σ σ' f.rt f.rb→(∀d∈f.fr,σ'.fresh d)→∀E a w,cp gl σ' E a w→V σ' E w→∀(K:Act→World→Prop),
  (∀E' a' w',cp gl (σ'.app f) E' a' w'→Ext gl.md (bK σ'.hp E) E w (bK (σ'.app f).hp E') E' w'→K a' w')→wpOpIn (Wd gl) 0 P ops Q i K a w
theorem oM.q{P:Program}{gl:Ctx}{ops:Array Oper}{Q:Exit→Act→World→Prop}{V:St→Env→World→Prop}{i:Nat}{f:aV}{σ:St}(h:oM P gl ops i f σ):MJ P gl ops Q V i f σ:=
 fun σ' h1 h2 E a w hg _ K hk=>h σ' h1 h2 E a w hg K Q hk
section
variable{P:Program} {gl:Ctx} {ops:Array Oper} {Q:Exit→Act→World→Prop} {DS WB:List Nat} {σ0:St} {E0:Env} {w0:World}
theorem JR.wp{σ':St}(hq:∀E' a' w',cp gl σ' E' a' w'→wW gl DS WB σ0 E0 w0 σ' E' w'→Q .normal a' w'):∀{fs:List aV}{i:Nat}{σ:St},(∀f∈fs,inW DS WB f)→cu (MJ P gl ops Q (wW gl DS WB σ0 E0 w0)) i fs σ σ'→∀{E:Env}{a:Act}{w:World},cp gl σ E a w→wW gl DS WB σ0 E0 w0 σ E w→
 wpOpsIn (Wd gl) 0 P ops Q ((List.range fs.length).map (·+i)) a w
 |
  [],i,σ,_,h,E,a,w,hg,hv=>by
  simp only[cu] at h;subst h
  exact hq E a w hg hv
 |
  f::fs,i,σ,hi,⟨h1,h2,h3⟩,E,a,w,hg,hv=>by
  have e:(List.range (f::fs).length).map (·+i)=i::(List.range fs.length).map (·+(i+1)):=by
   rw[d9,List.range_succ_eq_map]
   simp only[d8,dV,List.map_map]
   congr 1
   grind [List.map_congr_left]
  rw[e,wpOpsIn_cons]
  refine h1 σ (iT.refl _ _ _) h2 E a w hg hv _ ?_
  intro E' a' w' hg' hx
  exact JR.wp hq (fun g hm=>hi g (d7 _ hm)) h3 hg' (hv.app (hi f (dE ..)) hx)
end
def dstsOf(fs:List aV):List Nat:=fs.flatMap fun f=>f.dst.toList
def kg(fs:List aV):List Nat:=fs.flatMap fun f=>wrote f.hw
theorem JS{fs:List aV}:∀f∈fs,inW (dstsOf fs) (kg fs) f:=fun f hf=>
 ⟨fun d hd=>List.mem_flatMap.2 ⟨f,hf,by simp[hd]⟩,fun b hb=>List.mem_flatMap.2 ⟨f,hf,hb⟩⟩
theorem sx{P:Program}{gl:Ctx}{ops:Array Oper}{id:Nat}{fs:List aV}{σ σ':St}{Q:Exit→Act→World→Prop}{E:Env}{a:Act}{w:World}(hn:fs.length=ops.size)(h:cu (MJ P gl ops Q (wW gl (dstsOf fs) (kg fs) σ E w)) 0 fs σ σ')(hg:cp gl σ E a w)
 (hq:∀E' a' w',cp gl σ' E' a' w'→wW gl (dstsOf fs) (kg fs) σ E w σ' E' w'→Q .normal a' w'):(Code.region id ops false).wpIn (Wd gl) 0 P Q a w:=by
 refine wpIn_region ?_
 have:=JR.wp hq JS h hg (wW.refl _ _ _)
 simp_all
theorem Ds{P:Program}{gl:Ctx}{ops:Array Oper}{id:Nat}{fs:List aV}{σ σ':St}(hn:fs.length=ops.size)(h:pO P gl ops 0 fs σ σ'){Q:Exit→Act→World→Prop}{E:Env}{a:Act}{w:World}(hg:cp gl σ E a w)
 (hq:∀E' a' w',cp gl σ' E' a' w'→Ext gl.md (bK σ.hp E) E w (bK σ'.hp E') E' w'→Q .normal a' w'):(Code.region id ops false).wpIn (Wd gl) 0 P Q a w:=
 sx hn (h.mono fun _ _ _=>oM.q) hg (fun E' a' w' h1 h2=>hq E' a' w' h1 h2.ext)
theorem iw{b:Nat}:∀{l:List (Nat×Option aP)}{hp hp':List (Option aP)},hp.length=hp'.length→hp[b]? =hp'[b]? →(aR hp l)[b]? =(aR hp' l)[b]?
 |[],_,_,_,h=>h
 |
  (c,k)::l,hp,hp',hl,h=>by
  rw[aR,aR]
  refine iw (by simp[hl]) ?_
  rw[dm,dm,hl,h]
theorem uP{b:Nat}:∀{l:List (Nat×Option aP)}{hp hp':List (Option aP)},hp.length=hp'.length→b∈wrote l→(aR hp l)[b]? =(aR hp' l)[b]?
 |[],_,_,_,h=>by cases h
 |
  (c,k)::l,hp,hp',hl,h=>by
  rw[aR,aR]
  by_cases hb:b∈wrote l
  ·exact uP (by simp[hl]) hb
  ·simp only[wrote,fJ] at h
   have e:b=c:=h.resolve_right hb
   subst e
   rw[eJ hb,eJ hb,dm,dm,hl]
   simp
theorem BJ{σ σ':St}{f:aV}{t:Nat}(hl:σ.tm.length=σ'.tm.length)(h:σ.tm[t]? =σ'.tm[t]?):(σ.app f).tm[t]? =(σ'.app f).tm[t]? :=by
 unfold St.app St.put
 grind
theorem yW{σ σ':St}{f:aV}{t:Nat}(hl:σ.tm.length=σ'.tm.length)(h:f.dst=some t):(σ.app f).tm[t]? =(σ'.app f).tm[t]? :=by
 grind [St.app,St.put]
def cN(X:Nat→Bool):Nat→List aV→St→St
 |_,[],σ=>σ
 |i,f::fs,σ=>cN X (i+1) fs (if X i then σ.app f else σ)
theorem nz(X:Nat→Bool):∀(fs:List aV)(i:Nat)(σ:St),(cN X i fs σ).tm.length=σ.tm.length
 |[],_,_=>rfl
 |f::fs,i,σ=>by rw[cN,nz X fs];split<;>simp[rq]
theorem nA(X:Nat→Bool):∀(fs:List aV)(i:Nat)(σ:St),(cN X i fs σ).hp.length=σ.hp.length
 |[],_,_=>rfl
 |f::fs,i,σ=>by rw[cN,nA X fs];split<;>simp[ru]
theorem yX(X:Nat→Bool):∀(fs:List aV)(i:Nat)(σ:St),(cN X i fs σ).df=σ.df
 |[],_,_=>rfl
 |f::fs,i,σ=>by rw[cN,yX X fs];split<;>simp[uO]
theorem pQ{X Y:Nat→Bool}{t:Nat}:∀{fs:List aV}{i:Nat}{σ σ':St},σ.tm.length=σ'.tm.length→σ.tm[t]? =σ'.tm[t]? →(∀(k:Nat)(f:aV),fs[k]? =some f→X (i+k)≠Y (i+k)→f.dst≠some t)→
 (cN X i fs σ).tm[t]? =(cN Y i fs σ').tm[t]?
 |[],_,_,_,_,h,_=>h
 |
  f::fs,i,σ,σ',hl,h,hd=>by
  rw[cN,cN]
  refine pQ ?_ ?_ (fun k g hk hne=>hd (k+1) g (by grind) (by grind))
  ·split<;>split<;>simp[rq,hl]
  ·by_cases hx:X i=Y i
   ·grind [BJ]
   ·have:=hd 0 f rfl (by grind)
    grind [g8]
theorem pS{X Y:Nat→Bool}{b:Nat}:∀{fs:List aV}{i:Nat}{σ σ':St},σ.hp.length=σ'.hp.length→σ.hp[b]? =σ'.hp[b]? →(∀(k:Nat)(f:aV),fs[k]? =some f→X (i+k)≠Y (i+k)→b∉wrote f.hw)→
 (cN X i fs σ).hp[b]? =(cN Y i fs σ').hp[b]?
 |[],_,_,_,_,h,_=>h
 |
  f::fs,i,σ,σ',hl,h,hd=>by
  rw[cN,cN]
  refine pS ?_ ?_ (fun k g hk hne=>hd (k+1) g (by grind) (by grind))
  ·split<;>split<;>simp[ru,hl]
  ·by_cases hx:X i=Y i
   ·grind [g7,iw]
   ·have:=hd 0 f rfl (by grind)
    grind [g7,eJ]
theorem pT{X:Nat→Bool}{t:Nat}{fi:aV}(hw:fi.dst=some t):∀{fs:List aV}{i j:Nat}{σ σ':St},σ.tm.length=σ'.tm.length→fs[j]? =some fi→X (i+j)=true→(∀(k:Nat)(f:aV),fs[k]? =some f→j<k→X (i+k)=true→f.dst≠some t)→
 (cN X i fs σ).tm[t]? =(σ'.app fi).tm[t]?
 |[],_,_,_,_,_,h,_,_=>by simp at h
 |
  f::fs,i,0,σ,σ',hl,hf,hx,hd=>by
  simp at hf;subst hf
  rw[cN]
  simp only[Nat.add_zero] at hx
  rw[hx]
  have:(cN X (i+1) fs (σ.app f)).tm[t]? =(cN (fun _=>false) (i+1) fs (σ'.app f)).tm[t]? :=by
   refine pQ (by simp[rq,hl]) (yW hl hw) (fun k g hk hne=>?_)
   refine hd (k+1) g (by simpa using hk) (by omega) ?_<;>grind
  rw[aA rfl,this]
  have hid:∀(fs:List aV)(i:Nat)(σ:St),cN (fun _=>false) i fs σ=σ:=by
   intro fs
   induction fs with
   |nil=>intro i σ;rfl
   |cons f fs ih=>simp_all[cN]
  rw[hid]
 |
  f::fs,i,j+1,σ,σ',hl,hf,hx,hd=>by
  rw[cN]
  refine pT hw (j:=j) ?_ (by simpa using hf) (by rw[show i+1+j=i+(j+1) from by omega];exact hx) (fun k g hk hjk hxk=>hd (k+1) g (by simpa using hk) (by omega) (by rw[show i+(k+1)=i+1+k from by omega];exact hxk))
  split<;>simp[rq,hl]
theorem pU{X:Nat→Bool}{b:Nat}{fi:aV}(hw:b∈wrote fi.hw):∀{fs:List aV}{i j:Nat}{σ σ':St},σ.hp.length=σ'.hp.length→fs[j]? =some fi→X (i+j)=true→(∀(k:Nat)(f:aV),fs[k]? =some f→j<k→X (i+k)=true→b∉wrote f.hw)→
 (cN X i fs σ).hp[b]? =(σ'.app fi).hp[b]?
 |[],_,_,_,_,_,h,_,_=>by simp at h
 |
  f::fs,i,0,σ,σ',hl,hf,hx,hd=>by
  simp at hf;subst hf
  rw[cN]
  simp only[Nat.add_zero] at hx
  rw[hx]
  have:(cN X (i+1) fs (σ.app f)).hp[b]? =(cN (fun _=>false) (i+1) fs (σ'.app f)).hp[b]? :=by
   refine pS (by simp[ru,hl]) (by grind [g7,uP]) (fun k g hk hne=>?_)
   refine hd (k+1) g (by simpa using hk) (by omega) ?_<;>grind
  rw[aA rfl,this]
  have hid:∀(fs:List aV)(i:Nat)(σ:St),cN (fun _=>false) i fs σ=σ:=by
   intro fs
   induction fs with
   |nil=>intro i σ;rfl
   |cons f fs ih=>simp_all[cN]
  rw[hid]
 |
  f::fs,i,j+1,σ,σ',hl,hf,hx,hd=>by
  rw[cN]
  refine pU hw (j:=j) ?_ (by simpa using hf) (by rw[show i+1+j=i+(j+1) from by omega];exact hx) (fun k g hk hjk hxk=>hd (k+1) g (by simpa using hk) (by omega) (by rw[show i+(k+1)=i+1+k from by omega];exact hxk))
  split<;>simp[ru,hl]
end Go.Ax
namespace Go.Ax
def Tm:Option aP→List Nat
 |some k=>k.ids
 |none=>[]
def FL:List (Nat×Option aP)→List Nat
 |[]=>[]
 |(_,k)::l=>Tm k++FL l
def aV.JT(f:aV):List Nat:=f.v.ids++FL f.hw
theorem k8{σ:St}{d:Nat}:d∉σ.ids↔(∀(i:Nat)(x:AV),σ.tm[i]? =some x→d∉x.ids)∧(∀x∈σ.df,d∉x.ids)∧(∀(i:Nat)(k:aP),σ.hp[i]? =some (some k)→d∉k.ids):=by
 constructor
 ·grind [St.Dl,St.JI,St.yT]
 ·rintro⟨h1,h2,h3⟩ hm
  simp only[St.ids,jB,List.mem_flatMap,List.mem_filterMap] at hm
  grind [List.getElem?_of_mem]
theorem BK{d:Nat}:∀{l:List (Nat×Option aP)}{hp:List (Option aP)},(∀(i:Nat)(k:aP),hp[i]? =some (some k)→d∉k.ids)→d∉FL l→∀(i:Nat)(k:aP),(aR hp l)[i]? =some (some k)→d∉k.ids
 |[],_,h,_=>h
 |
  (b,o)::l,hp,h,hm=>by
  simp only[FL,jB,not_or] at hm
  refine BK (l:=l) (hp:=hp.set b o) ?_ hm.2
  intro i k hk
  rw[dm] at hk
  split at hk
  ·split at hk
   ·simp at hk;subst hk;exact hm.1
   ·cases hk
  ·exact h i k hk
theorem Hx{σ:St}{f:aV}{d:Nat}(h:σ.fresh d)(hm:d∉f.JT)(hw:d∉wrote f.hw):(σ.app f).fresh d:=by
 simp only[aV.JT,jB,not_or] at hm
 obtain⟨h1,h2,h3⟩:=h
 rw[k8] at h1
 obtain⟨a1,a2,a3⟩:=h1
 refine⟨?_,?_,h3⟩
 ·rw[k8]
  refine⟨?_,?_,?_⟩
  ·intro i x hx
   by_cases e:f.dst=some i
   ·simp_all[St.app,St.put,dm]
   grind [g8]
  ·rw[uO];exact a2
  ·rw[g7];exact BK a3 hm.2
 grind [g7,eJ]
theorem uQ{X:Nat→Bool}{d:Nat}:∀{fs:List aV}{i:Nat}{σ:St},σ.fresh d→(∀(k:Nat)(f:aV),fs[k]? =some f→X (i+k)=true→d∉f.JT∧d∉wrote f.hw)→(cN X i fs σ).fresh d
 |[],_,_,h,_=>h
 |
  f::fs,i,σ,h,hd=>by
  rw[cN]
  refine uQ ?_ (fun k g hk hx=>hd (k+1) g (by grind) (by grind))
  split
  ·rename_i hx
   have:=hd 0 f rfl (by grind)
   exact Hx h this.1 this.2
  grind
def Xa(acc:List Nat)(o:Oper):Nat:=
 o.after.toList.foldl (fun s e=>if Region.binds .any e then s ||| 2^e.on ||| acc.getD e.on 0 else s) 0
def ry:List Oper→List Nat→List Nat
 |[],acc=>acc
 |o::l,acc=>ry l (acc++[Xa acc o])
theorem uR{X:Nat→Bool}{acc:List Nat}(hacc:∀j k,X j=true→(acc.getD j 0).testBit k=true→X k=true):∀(l:List Edge)(s:Nat),(∀e∈l,Region.binds .any e=true→X e.on=true)→(∀k,s.testBit k=true→X k=true)→
 ∀k,(l.foldl (fun s e=>if Region.binds .any e then s ||| 2^e.on ||| acc.getD e.on 0 else s) s).testBit k=true→X k=true
 |[],s,_,hs=>hs
 |
  e::l,s,hl,hs=>by
  refine uR hacc l _ (fun e' he'=>hl e' (d7 _ he')) ?_<;>grind
theorem xI{X:Nat→Bool}:∀(l:List Oper)(acc:List Nat),(∀j k,X j=true→(acc.getD j 0).testBit k=true→X k=true)→
 (∀j o,l[j]? =some o→X (acc.length+j)=true→∀e∈o.after.toList,Region.binds .any e=true→X e.on=true)→
 ∀j k,X j=true→((ry l acc).getD j 0).testBit k=true→X k=true
 |[],_,h,_=>h
 |
  o::l,acc,h,hc=>by
  refine xI l _ ?_ ?_
  ·intro j k hj hk
   rw[pF,List.getElem?_append] at hk
   split at hk
   ·rw[←pF] at hk;grind
   ·by_cases e:j=acc.length
    ·subst e
     simp at hk
     exact uR h o.after.toList 0 (hc 0 o rfl (by grind)) (fun k hk=>by grind) k hk
    grind
  ·intro j o' ho hx
   exact hc (j+1) o' (by grind) (by grind)
def eC:List Nat→List Nat→Bool
 |[],_=>false
 |x::l,m=>cJ x m||eC l m
theorem mG{d:Nat}:∀{l:List Nat},d∈l→cJ d l=true
 |
  x::l,h=>by
  simp only[cJ,fQ]
  cases h with
  |head=>exact Or.inl (Nat.beq_refl d)
  |tail _ h=>exact Or.inr (mG h)
theorem pW{d:Nat}:∀{l m:List Nat},d∈l→d∈m→eC l m=true
 |
  x::l,m,h,hm=>by
  simp only[eC,fQ]
  cases h with
  |head=>exact Or.inl (mG hm)
  |tail _ h=>exact Or.inr (pW h hm)
def aV.wt(f:aV):List Nat:=f.dst.toList
def aV.wb(f:aV):List Nat:=wrote f.hw++f.fr
def uS(f g:aV):Bool:=
 eC f.wt (g.rt++g.wt)||eC f.rt g.wt||eC f.wb (g.rb++g.wb)||eC f.rb g.wb||eC f.fr g.JT
def isLt(lt:Option (List Nat×Nat))(i j:Nat):Bool:=match lt with
 |some (a,b)=>cJ i a&&Nat.beq j b
 |none=>false
def mH(lt:Option (List Nat×Nat))(masks j:Nat)(g:aV):Nat→List aV→Bool
 |_,[]=>true
 |i,f::fs=>(!uS f g||masks.testBit i||isLt lt i j)&& !eC g.fr (f.JT++wrote f.hw)&&mH lt masks j g (i+1) fs
def pX(lt:Option (List Nat×Nat))(masks:List Nat)(all:List aV):Nat→List aV→Bool
 |_,[]=>true
 |j,g::fs=>mH lt (masks.getD j 0) j g 0 (all.take j)&&pX lt masks all (j+1) fs
def Tn(lt:Option (List Nat×Nat))(fs:List aV):Bool:=match lt with
 |none=>true
 |
  some (l,j)=>l.all fun i=>Nat.blt i j&&match fs[i]?,fs[j]? with
  |some f,some g=>f.hw.isEmpty&&f.fr.isEmpty&& !eC f.wt f.rt&& !eC f.wt (g.rt++g.wt)&& !eC f.rt g.wt&&((fs.take j).drop (i+1)).all fun h=> !eC f.rt h.wt&& !eC f.rb h.wb
  |_,_=>false
theorem sy{lt:Option (List Nat×Nat)}{m j:Nat}{g:aV}:∀{fs:List aV}{i:Nat},mH lt m j g i fs=true→∀k f,fs[k]? =some f→(uS f g=true→m.testBit (i+k)=true∨isLt lt (i+k) j=true)∧eC g.fr (f.JT++wrote f.hw)=false
 |[],_,_,k,f,h=>by simp at h
 |
  f0::fs,i,h,k,f,hk=>by
  simp only[mH,bB,fQ,gV] at h
  cases k with
  |zero=>grind
  |succ k=>have:=sy h.2 k f (by grind);grind
theorem sA{lt:Option (List Nat×Nat)}{masks:List Nat}{all:List aV}:∀{fs:List aV}{j:Nat},pX lt masks all j fs=true→∀k g,fs[k]? =some g→mH lt (masks.getD (j+k) 0) (j+k) g 0 (all.take (j+k))=true
 |[],_,_,k,g,h=>by simp at h
 |
  g0::fs,j,h,k,g,hk=>by
  simp only[pX,bB] at h
  cases k with
  |zero=>grind
  |succ k=>have:=sA h.2 k g (by grind);grind
def xJ(ops:List Oper):Nat→Bool:=fun j=>match ops[j]? with
 |some o=>o.after.toList.all fun e=> !Region.binds .any e||Nat.blt e.on j
 |none=>true
def lS(lt:Option (List Nat×Nat))(ops:Array Oper)(fs:List aV):Bool:=
 Nat.beq fs.length ops.size&&(pX lt (ry ops.toList []) fs 0 fs&&Tn lt fs)&&(List.range ops.size).all (xJ ops.toList)
theorem cu.nth{OK:Nat→aV→St→Prop}:∀{fs:List aV}{i:Nat}{σ σ':St},cu OK i fs σ σ'→∀(k:Nat)(f:aV),fs[k]? =some f→OK (i+k) f (cN (fun x=>decide (x<i+k)) i fs σ)
 |[],_,_,_,_,k,f,h=>by simp at h
 |
  g::fs,i,σ,σ',⟨h1,h2,h3⟩,k,f,hk=>by
  cases k with
  |
   zero=>
   simp at hk;subst hk
   rw[cN]
   simp only[Nat.add_zero,Nat.lt_irrefl,decide_false,dr,cT]
   have hid:∀(fs:List aV)(j:Nat)(σ:St),i<j→cN (fun x=>decide (x<i)) j fs σ=σ:=by
    intro fs
    induction fs with
    |nil=>intro j σ _;rfl
    |cons f fs ih=>intro j σ hj;rw[cN,aC (by grind)];grind
   grind
  |
   succ k=>
   have:=cu.nth h3 k f (by grind)
   rw[cN,aA (by simp)]
   grind
theorem cu.last{OK:Nat→aV→St→Prop}:∀{fs:List aV}{i:Nat}{σ σ':St},cu OK i fs σ σ'→∀{X:Nat→Bool},(∀k,i≤k→k<i+fs.length→X k=true)→σ'=cN X i fs σ
 |[],_,_,_,h,_,_=>h
 |
  f::fs,i,σ,σ',⟨_,_,h⟩,X,hX=>by
  rw[cN,aA (hX i (dc _) (by simp))]
  exact cu.last h (fun k h1 h2=>hX k (by omega) (by simp;omega))
theorem cW{l m:List Nat}(h:eC l m=false){d:Nat}(hd:d∈l):d∉m:=fun hm=>by
 rw[pW hd hm] at h;cases h
section
variable{ops:Array Oper} {fs:List aV} {σ:St}
set_option maxHeartbeats 4000000 in
theorem Dt{lt:Option (List Nat×Nat)}(gx:lS lt ops fs=true)(hfr:∀(k:Nat)(f:aV),fs[k]? =some f→∀d∈f.fr,σ.fresh d)
 {X:Nat→Bool} (hX:∀j o,ops[j]? =some o→X j=true→∀e∈o.after.toList,Region.binds .any e=true→X e.on=true)
 {i:Nat} {o:Oper} (ho:ops[i]? =some o) (hi:X i=false) (hpre:∀e∈o.after.toList,Region.binds .any e=true→X e.on=true) {f:aV} (hf:fs[i]? =some f):
 (iT (cN (fun x=>decide (x<i)) 0 fs σ) (cN X 0 fs σ) f.rt f.rb∨∃l j,lt=some (l,j)∧i∈l∧iT (cN (fun x=>decide (x<j+1)) 0 fs σ) (cN X 0 fs σ) f.rt f.rb)∧(∀d∈f.fr,(cN X 0 fs σ).fresh d)∧(cN X 0 fs σ).app f=cN (fun x=>X x||x==i) 0 fs σ:=by
 simp only[lS,bB] at gx
 obtain⟨⟨hlen,hconf,hlt⟩,hedge⟩:=gx
 have hmask:∀(Y:Nat→Bool),(∀j o,ops[j]? =some o→Y j=true→∀e∈o.after.toList,Region.binds .any e=true→Y e.on=true)→∀j k,Y j=true→((ry ops.toList []).getD j 0).testBit k=true→Y k=true:=by
  intro Y hY
  refine xI ops.toList [] (fun j k _ hk=>by simp at hk) ?_<;>grind
 have hn:∀{x:Nat}{l:List Nat},cJ x l=true→x∈l:=by
  intro x l
  induction l with
  |nil=>intro h;cases h
  |cons y l ih=>intro h;simp only[cJ,fQ] at h;rcases h with h|h;exact(bT h)▸dE ..;exact d7 _ (ih h)
 have isL:∀{a b:Nat},isLt lt a b=true→∃l,lt=some (l,b)∧a∈l:=by
  intro a b h
  unfold isLt at h
  split at h
  ·simp only[bB] at h;rw[bT h.2];exact⟨_,rfl,hn h.1⟩
  ·cases h
 have pair:∀(k j:Nat)(g h:aV),k<j→fs[k]? =some g→fs[j]? =some h→(uS g h=true→((ry ops.toList []).getD j 0).testBit k=true∨∃l,lt=some (l,j)∧k∈l)∧eC h.fr (g.JT++wrote g.hw)=false:=by
  intro k j g h hkj hg hh
  have:=sA hconf j h hh
  have:=sy this k g (by grind)
  grind
 have cf:∀{g h:aV},uS g h=false→((∀t,g.dst=some t→t∉h.rt∧h.dst≠some t)∧(∀t,h.dst=some t→t∉g.rt)∧(∀b∈g.wb,b∉h.rb∧b∉h.wb)∧(∀b∈g.fr,b∉h.JT))∧(∀b∈h.wb,b∉g.rb):=by
  intro g h hc
  simp only[uS,Bool.or_eq_false_iff] at hc
  obtain⟨⟨⟨⟨h1,h2⟩,h3⟩,h4⟩,h5⟩:=hc
  refine⟨⟨?_,?_,?_,fun b hb=>cW h5 hb⟩,fun b hb hm=>cW h4 hm hb⟩
  ·intro t ht
   have:=cW h1 (d:=t) (by simp[aV.wt,ht])
   simp only[jB,not_or,aV.wt,Option.mem_toList] at this
   grind
  ·intro t ht hm
   exact cW h2 hm (by simp[aV.wt,ht])
  ·intro b hb
   have:=cW h3 hb
   grind
 have lat:∀{l:List Nat}{a b:Nat}{g h:aV},lt=some (l,b)→a∈l→fs[a]? =some g→fs[b]? =some h→a<b∧g.hw= []∧(∀t,g.dst=some t→t∉g.rt)∧((∀t,g.dst=some t→t∉h.rt∧h.dst≠some t)∧(∀t,h.dst=some t→t∉g.rt)∧(∀b∈g.wb,b∉h.rb∧b∉h.wb)∧(∀b∈g.fr,b∉h.JT))∧∀k x,a<k→k<b→fs[k]? =some x→(∀t,x.dst=some t→t∉g.rt)∧∀b∈x.wb,b∉g.rb:=by
  intro l a b g h e hal hg hh
  subst e
  have hlt:=hlt
  simp only[Tn,lP] at hlt
  have hlt:=hlt a hal
  simp only[hg,hh,bB,List.isEmpty_iff,gV,lP] at hlt
  obtain⟨h0,⟨⟨⟨⟨h1,h2⟩,h3⟩,h4⟩,h5⟩,h6⟩:=hlt
  have hab:a<b:=by simp[Nat.blt] at h0;omega
  refine⟨hab,h1,fun t ht=>cW h3 (by simp[aV.wt,ht]),⟨fun t ht=>?_,fun t ht hm=>cW h5 hm (by simp[aV.wt,ht]),?_,?_⟩,fun k x k1 k2 hx=>?_⟩
  ·have:=cW h4 (d:=t) (by simp[aV.wt,ht])
   simp only[jB,not_or,aV.wt,Option.mem_toList] at this
   grind
  ·intro b hb;simp[aV.wb,h1,h2,wrote] at hb
  ·intro b hb;rw[h2] at hb;cases hb
  ·have h6:=h6 x (by
    rw[List.mem_iff_getElem?]
    exact⟨k -(a+1),by rw[List.getElem?_drop,List.getElem?_take,aA (by omega),show a+1+(k -(a+1))=k by omega];exact hx⟩)
   exact⟨fun t ht hm=>cW h6.1 hm (by simp[aV.wt,ht]),fun b hb hm=>cW h6.2 hm hb⟩
 have early:∀(k:Nat)(g:aV),fs[k]? =some g→k<i→X k=false→((∀t,g.dst=some t→t∉f.rt∧f.dst≠some t)∧(∀t,f.dst=some t→t∉g.rt)∧(∀b∈g.wb,b∉f.rb∧b∉f.wb)∧(∀b∈g.fr,b∉f.JT)):=by
  intro k g hg hki hXk
  cases hcf:uS g f with
  |false=>exact(cf hcf).1
  |
   true=>
   rcases(pair k i g f hki hg hf).1 hcf with hm|hl
   ·have:=hmask (fun x=>X x||x==i) (by
     grind) i k (by simp) hm
    grind
   ·obtain⟨l,hl,hm⟩:=hl
    exact(lat hl hm hg hf).2.2.2.1
 have late:∀(k:Nat)(g:aV),fs[k]? =some g→i<k→X k=true→((∀t,f.dst=some t→t∉g.rt∧g.dst≠some t)∧(∀t,g.dst=some t→t∉f.rt)∧(∀b∈f.wb,b∉g.rb∧b∉g.wb)∧(∀b∈f.fr,b∉g.JT))∧((∀b∈g.wb,b∉f.rb)∨∃l,lt=some (l,k)∧i∈l):=by
  intro k g hg hki hXk
  cases hcf:uS f g with
  |false=>exact⟨(cf hcf).1,Or.inl (cf hcf).2⟩
  |
   true=>
   rcases(pair i k f g hki hf hg).1 hcf with hm|hl
   ·have:=hmask X hX k i hXk hm
    grind
   ·obtain⟨l,hl,hm⟩:=hl
    exact⟨(lat hl hm hf hg).2.2.2.1,Or.inr ⟨l,hl,hm⟩⟩
 refine⟨?_,?_,?_⟩
 ·by_cases hj:∃l j,lt=some (l,j)∧i∈l∧X j=true
  ·obtain⟨lj,j,hj,hij,hXj⟩:=hj
   obtain⟨g,hg⟩:∃g,fs[j]? =some g:=by
    have h:=hlt
    rw[hj] at h
    simp only[Tn,lP] at h
    have h:=h i hij
    simp only[bB] at h
    split at h
    ·rename_i h2;exact⟨_,h2⟩
    ·cases h.2
   obtain⟨l1,l2,l3,_,l5⟩:=lat hj hij hf hg
   refine Or.inr ⟨lj,j,hj,hij,?_,?_,?_,?_⟩
   ·rw[nz,nz]
   ·rw[nA,nA]
   ·intro t ht
    refine pQ rfl rfl (fun k g hg hne=>?_)
    simp only[dV] at hne
    intro hd
    rcases Nat.lt_trichotomy k i with h|h|h
    ·grind
    ·grind
    ·by_cases hk:X k=true
     ·exact(late k g hg h hk).1.2.1 t hd ht
     ·have hkj:k<j:=by grind
      exact(l5 k g h hkj hg).1 t hd ht
   ·intro b hb
    refine pS rfl rfl (fun k g hg hne=>?_)
    simp only[dV] at hne
    intro hd
    rcases Nat.lt_trichotomy k i with h|h|h
    ·have hXk:X k=false:=by
      grind
     exact((early k g hg h hXk).2.2.1 b (by simp[aV.wb,hd])).1 hb
    ·subst h
     rw[hf] at hg
     cases hg
     rw[l2] at hd
     cases hd
    ·by_cases hk:X k=true
     ·rcases(late k g hg h hk).2 with h2|⟨_,h2,_⟩
      ·exact h2 b (by simp[aV.wb,hd]) hb
      ·rw[hj] at h2
       cases h2
       simp[hk] at hne
     ·have hkj:k<j:=by grind
      exact(l5 k g h hkj hg).2 b (by simp[aV.wb,hd]) hb
  ·refine Or.inl ⟨?_,?_,?_,?_⟩
   ·rw[nz,nz]
   ·rw[nA,nA]
   ·intro t ht
    refine pQ rfl rfl (fun k g hg hne=>?_)
    simp only[dV] at hne
    intro hd
    rcases Nat.lt_trichotomy k i with h|h|h
    ·grind
    ·grind
    grind
   ·intro b hb
    refine pS rfl rfl (fun k g hg hne=>?_)
    simp only[dV] at hne
    intro hd
    rcases Nat.lt_trichotomy k i with h|h|h
    ·have hXk:X k=false:=by
      grind
     exact((early k g hg h hXk).2.2.1 b (by simp[aV.wb,hd])).1 hb
    ·grind
    ·have hXk:X k=true:=by
      grind
     rcases(late k g hg h hXk).2 with h2|⟨l,h2,h3⟩
     ·exact h2 b (by simp[aV.wb,hd]) hb
     ·exact hj ⟨l,k,h2,h3,hXk⟩
 ·intro d hd
  refine uQ (hfr i f hf d hd) (fun k g hg hx=>?_)
  simp only[dV] at hx
  rcases Nat.lt_trichotomy k i with h|h|h
  ·have hp:=pair k i g f h hg hf
   have:=cW hp.2 hd
   grind
  ·grind
  ·have:=(late k g hg h hx).1
   refine⟨fun hm=>this.2.2.2 d hd hm,fun hw=>(this.2.2.1 d (by simp[aV.wb,hd])).2 (by simp[aV.wb,hw])⟩
 ·have hlt:i<fs.length:=(List.getElem?_eq_some_iff.1 hf).1
  have tmEq:∀t:Nat,((cN X 0 fs σ).app f).tm[t]? =(cN (fun x=>X x||x==i) 0 fs σ).tm[t]? :=by
   intro t
   by_cases hd:f.dst=some t
   ·symm
    refine pT hd (j:=i) (by rw[nz]) hf (by simp) (fun k g hg hik hxk=>?_)<;>grind
   ·rw[g8 hd]
    refine pQ rfl rfl (fun k g hg hne=>?_)
    simp only[dV] at hne
    have:k=i:=by
     grind
    grind
  have hpEq:∀b:Nat,((cN X 0 fs σ).app f).hp[b]? =(cN (fun x=>X x||x==i) 0 fs σ).hp[b]? :=by
   intro b
   by_cases hd:b∈wrote f.hw
   ·symm
    refine pU hd (j:=i) (by rw[nA]) hf (by simp) (fun k g hg hik hxk=>?_)
    simp only[dV,fQ,beq_iff_eq] at hxk
    have hXk:X k=true:=hxk.resolve_right (by omega)
    intro hw
    exact((late k g hg hik hXk).1.2.2.1 b (by simp[aV.wb,hd])).2 (by simp[aV.wb,hw])
   ·rw[g7,eJ hd]
    refine pS rfl rfl (fun k g hg hne=>?_)
    simp only[dV] at hne
    have:k=i:=by
     grind
    grind
  have e1:=List.ext_getElem? tmEq
  have e2:=List.ext_getElem? hpEq
  have e3:((cN X 0 fs σ).app f).df=(cN (fun x=>X x||x==i) 0 fs σ).df:=by rw[uO,yX,yX]
  cases h1:(cN X 0 fs σ).app f
  cases h2:cN (fun x=>X x||x==i) 0 fs σ<;>grind
end
def jG(l:Array Bool):Nat:=(l.toList.filter (·==false)).length
theorem ow:∀(m:List Bool)(i:Nat),m[i]? =some false→((m.set i true).filter (·==false)).length+1=(m.filter (·==false)).length
 |[],_,h=>by simp at h
 |x::m,0,h=>by grind
 |
  x::m,i+1,h=>by
  have:=ow m i (by simpa using h)
  simp only[List.set_cons_succ,pI]
  cases x<;>simp<;>simpa using this
theorem yY{l:Array Bool}{i:Nat}(h:l.getD i true=false):jG (l.setIfInBounds i true)+1=jG l:=by
 have hi:i<l.size:=by
  grind
 have hv:l[i]? =some false:=by
  simp_all
 unfold jG
 rw[Array.toList_setIfInBounds]
 exact ow _ i (by grind)
theorem w8{l:Array Bool}(h:jG l=0){i:Nat}(hi:i<l.size):l.getD i false=true:=by
 unfold jG at h
 rw[List.length_eq_zero_iff,List.filter_eq_nil_iff] at h
 have:=h l[i] (by simp)
 simp_all
theorem BL{P:Program}{gl:Ctx}{ops:Array Oper}{fs:List aV}{σ σ':St}{DS WB:List Nat}{σ0:St}{E0:Env}{w0:World}{Q:Exit→Act→World→Prop}{lt:Option (List Nat×Nat)}(hi:∀f∈fs,inW DS WB f)(gx:lS lt ops fs=true)(hL:∀l i j f,lt=some (l,j)→i∈l→fs[i]? =some f→MJ P gl ops Q (wW gl DS WB σ0 E0 w0) i f (cN (fun x=>decide (x<j+1)) 0 fs σ))(hc:cu (MJ P gl ops Q (wW gl DS WB σ0 E0 w0)) 0 fs σ σ')(hfr:∀(k:Nat)(f:aV),fs[k]? =some f→∀d∈f.fr,σ.fresh d)
 (hq:∀E' a' w',cp gl σ' E' a' w'→wW gl DS WB σ0 E0 w0 σ' E' w'→Q .normal a' w'):
 ∀(fuel:Nat)(listed:Array Bool),listed.size=ops.size→jG listed≤fuel→
  (∀j o,ops[j]? =some o→listed.getD j false=true→∀e∈o.after.toList,Region.binds .any e=true→listed.getD e.on false=true)→
  ∀{E:Env}{a:Act}{w:World},cp gl (cN (fun x=>listed.getD x false) 0 fs σ) E a w→wW gl DS WB σ0 E0 w0 (cN (fun x=>listed.getD x false) 0 fs σ) E w→wpAnyIn (Wd gl) 0 P .any ops Q fuel listed a w:=by
 have hlen:fs.length=ops.size:=by
  simp_all[lS]
 have hedge:∀j o,ops[j]? =some o→∀e∈o.after.toList,Region.binds .any e=true→e.on<j:=by
  intro j o ho e he hb
  simp only[lS,bB,lP,List.mem_range] at gx
  have hj:j<ops.size:=(Array.getElem?_eq_some_iff.1 ho).1
  have:=gx.2 j hj
  unfold xJ at this
  rw[show ops.toList[j]? =some o from by grind] at this
  simp only[lP] at this
  have:=this e he
  simp_all
 have done:∀listed:Array Bool,listed.size=ops.size→Region.ready .any ops listed= []→∀k,k<ops.size→listed.getD k false=true:=by
  intro listed hs hr
  have key:∀n k,k<n→k<ops.size→listed.getD k false=true:=by
   intro n
   induction n with
   |zero=>grind
   |
    succ n ih=>
    intro k hk hks
    cases hl:listed.getD k false with
    |true=>rfl
    |
     false=>
     exfalso
     have hm:k∈Region.ready .any ops listed:=by
      rw[mem_ready]
      refine⟨?_,ops[k],by simp[hks],?_⟩<;>grind
     grind
  grind
 have fin:∀listed:Array Bool,listed.size=ops.size→Region.ready .any ops listed= []→σ'=cN (fun x=>listed.getD x false) 0 fs σ:=by
  intro listed hs hr
  exact hc.last (fun k _ hk=>done listed hs hr k (by omega))
 intro fuel
 induction fuel with
 |
  zero=>
  intro listed hs hu hcl E a w hg hv
  have hall:∀k,k<ops.size→listed.getD k false=true:=fun k hk=>w8 (by omega) (by omega)
  have hr:Region.ready .any ops listed= []:=by
   rw[List.eq_nil_iff_forall_not_mem]
   grind [mem_ready]
  refine⟨hr,?_⟩<;>grind
 |
  succ fuel ih=>
  intro listed hs hu hcl E a w hg hv
  refine⟨fun hr=>?_,fun i hi=>?_⟩
  ·grind
  ·rw[mem_ready] at hi
   obtain⟨h1,o,h2,h3⟩:=hi
   have hlt:i<ops.size:=(Array.getElem?_eq_some_iff.1 h2).1
   have hif:listed.getD i false=false:=by grind
   obtain⟨f,hf⟩:∃f,fs[i]? =some f:=⟨fs[i]'(by omega),by grind⟩
   obtain⟨hA,hF,hR⟩:=Dt gx hfr (X:=fun x=>listed.getD x false) hcl h2 hif (fun e he hb=>h3 e (by grind) hb) hf
   have hop:=hc.nth i f hf
   simp only[dV] at hop
   obtain⟨σ9,hop,hA⟩:∃σ9,MJ P gl ops Q (wW gl DS WB σ0 E0 w0) i f σ9∧iT σ9 (cN (fun x=>listed.getD x false) 0 fs σ) f.rt f.rb:=hA.elim (fun h=>⟨_,hop,h⟩) fun⟨l,j,hj,hm,h⟩=>⟨_,hL l i j f hj hm hf,h⟩
   refine hop _ hA hF E a w hg hv _ ?_
   intro E' a' w' hg' hx
   have hv':=hv.app (hi f (je hf)) hx
   have aR:∀x,(listed.getD x false||x==i)=(listed.setIfInBounds i true).getD x false:=by
    intro x
    by_cases e:x=i
    ·subst e;simp[hs,hlt]
    ·rw[getD_set_ne false (fun h=>e h.symm)];simp[e]
   have hfun:(fun x=>listed.getD x false||x==i)=fun x=>(listed.setIfInBounds i true).getD x false:=funext aR
   rw[hR,hfun] at hg' hv'
   refine ih (listed.setIfInBounds i true) (by simp[hs]) (by have:=yY h1;omega) ?_ hg' hv'<;>grind
def iU(σ:St)(fs:List aV):Bool:=fs.all fun f=>f.fr.all fun d=>σ.fG d
theorem cp.drew{gl:Ctx}{σ:St}{E:Env}{a:Act}{w:World}(h:cp gl σ E a w):cp gl σ E a {w with drawn:=w.drawn+1}∧Ext gl.md (bK σ.hp E) E w (bK σ.hp E) E {w with drawn:=w.drawn+1}:=by
 have kp:bS E w E {w with drawn:=w.drawn+1}:=⟨fun _ _=>rfl,fun _ h=>h⟩
 refine⟨h.carry (hp:=σ.hp) kp (fun _ _=>⟨rfl,rfl,rfl⟩) ⟨fun b k hb=>RB.mono kp (fun _ _=>⟨rfl,rfl,rfl⟩) (fun _ _=>rfl) (fun _ _ h=>h) (h.hw.cX b k hb),h.hw.eH,h.hw.dL,h.hw.slt,h.hw.gZ kp,h.hw.sZ⟩,⟨rfl,Tp.s rfl rfl,rfl,dc _,fun _ _ _=>rfl,fun _ h=>h,fun _ h=>Or.inl h,fun _ h=>Or.inl h,fun _ _=>⟨rfl,rfl,rfl⟩⟩⟩<;>grind
theorem sB{P:Program}{G:cd}(T:bM P G){gl:Ctx}{ops:Array Oper}{id:Nat}{fs:List aV}{σ σ':St}{Q:Exit→Act→World→Prop}{E:Env}{a:Act}{w:World}{lt:Option (List Nat×Nat)}(gx:lS lt ops fs=true)(hfr:iU σ fs=true)(hL:∀l i j f,lt=some (l,j)→i∈l→fs[i]? =some f→MJ P gl ops Q (wW gl (dstsOf fs) (kg fs) σ E w) i f (cN (fun x=>decide (x<j+1)) 0 fs σ))(hc:cu (MJ P gl ops Q (wW gl (dstsOf fs) (kg fs) σ E w)) 0 fs σ σ')(hg:cp gl σ E a w)
 (hq:∀E' a' w',cp gl σ' E' a' w'→wW gl (dstsOf fs) (kg fs) σ E w σ' E' w'→Q .normal a' w'):(Code.region id ops true).wpIn (Wd gl) 0 P Q a w:=by
 refine wpIn_region_any T.Tl ?_
 have hfr':∀(k:Nat)(f:aV),fs[k]? =some f→∀d∈f.fr,σ.fresh d:=by
  grind [iU,St.ee]
 obtain⟨hg',hx'⟩:=hg.drew
 have hid:∀(fs:List aV)(i:Nat)(σ:St),cN (fun x=>(Array.replicate ops.size false).getD x false) i fs σ=σ:=by
  intro fs
  induction fs with
  |nil=>intro i σ;rfl
  |
   cons f fs ih=>
   intro i σ
   rw[cN]
   have:(Array.replicate ops.size false).getD i false=false:=by
    rcases Nat.lt_or_ge i ops.size with h|h<;>simp[h]
   grind
 refine BL JS gx hL hc hfr' hq ops.size _ (by simp) ?_ ?_ (E:=E) (by grind) (by rw[hid];exact⟨rfl,rfl,rfl,fun _ _=>rfl,fun _ _=>rfl,hx'⟩)
 ·unfold jG;simp
 ·intro j o ho hj
  have:(Array.replicate ops.size false).getD j false=false:=by
   rcases Nat.lt_or_ge j ops.size with h|h<;>simp[h]
  grind
theorem Du{P:Program}{G:cd}(T:bM P G){gl:Ctx}{ops:Array Oper}{id:Nat}{fs:List aV}{σ σ':St}{lt:Option (List Nat×Nat)}(gx:lS lt ops fs=true)(hfr:iU σ fs=true)(hL:∀l i j f,lt=some (l,j)→i∈l→fs[i]? =some f→oM P gl ops i f (cN (fun x=>decide (x<j+1)) 0 fs σ))(hc:pO P gl ops 0 fs σ σ'){Q:Exit→Act→World→Prop}{E:Env}{a:Act}{w:World}(hg:cp gl σ E a w)
 (hq:∀E' a' w',cp gl σ' E' a' w'→Ext gl.md (bK σ.hp E) E w (bK σ'.hp E') E' w'→Q .normal a' w'):(Code.region id ops true).wpIn (Wd gl) 0 P Q a w:=
 sB T gx hfr (fun l i j f h0 h1 h2=>(hL l i j f h0 h1 h2).q) (hc.mono fun _ _ _=>oM.q) hg (fun E' a' w' h1 h2=>hq E' a' w' h1 h2.ext)
end Go.Ax
namespace Go.Ax
structure fK where
 v:AV
 hw:List (Nat×Option aP)
 fr:List Nat
 vc:List VC
def fK.one(v:AV):fK:=⟨v,[],[],[]⟩
def fK.MK(x:AV×List VC):fK:=⟨x.1,[],[],x.2⟩
def gtI(b:Int):Int→Bool
 |
  .ofNat n=>match b with
  | .ofNat m=>Nat.blt m n
  | .negSucc _=>true
 |
  .negSucc n=>match b with
  | .ofNat _=>false
  | .negSucc m=>Nat.blt n m
theorem To(b a:Int):gtI b a=decide (b<a):=by
 rw[Bool.eq_iff_iff,mo]
 match a,b with
 | .ofNat n,.ofNat m=>exact(show Nat.blt m n=true↔(m:Int)<(n:Int) by rw[Nat.blt_eq];omega)
 | .ofNat n,.negSucc m=>exact(show true=true↔Int.negSucc m<(n:Int) by have:=Int.negSucc_eq m;exact⟨fun _=>by omega,fun _=>rfl⟩)
 | .negSucc n,.ofNat m=>exact(show false=true↔(m:Int)<Int.negSucc n by have:=Int.negSucc_eq n;exact⟨fun h=>(by cases h),fun h=>by omega⟩)
 | .negSucc n,.negSucc m=>exact(show Nat.blt n m=true↔Int.negSucc m<Int.negSucc n by have:=Int.negSucc_eq n;have:=Int.negSucc_eq m;rw[Nat.blt_eq];omega)
def Xb:Operand→Bool
 | .const (.int _ c)=>decide (1073741824<c)
 |_=>false
def Dv(P:Program)(t:TypeId)(o:BinOp)(y:Operand)(a b:AV):Option (AV×List VC):=
 match Xb y,o with
 |
  true,.gtr=>match a,b with
  | .val (.int k) m,.val (.int k') n=>if Nat.beq (IntKind.code k) (IntKind.code k') then some (.val .bool (gtI n m),[]) else none
  |_,_=>none
 |_,_=>xF P t o a b
theorem sC{P:Program}{t:TypeId}{o:BinOp}{y:Operand}{a b:AV}{r:AV×List VC}(h:Dv P t o y a b=some r):xF P t o a b=some r:=by
 unfold Dv at h
 split at h
 ·split at h
  ·rw[To] at h
   exact h
  ·cases h
 ·exact h
def Tq(op:UnOp):AV→Option AV
 |
  .val .bool b=>match op with
  | .not=>some (.val .bool (!b))
  |_=>none
 |
  .val (.int k) n=>match op with
  | .neg=>some (.val (.int k) (k.wrap (0 -n)))
  | .xor=>some (.val (.int k) (iv .xor k (if k.signed then-1 else k.max) n))
  |_=>none
 |_=>none
def Dw(G:cd)(s d:TypeId)(x:AV):Option AV:=
 match x,G.at s,G.at d with
 |
  .val (.int _) n,some _,some td=>match td.ty with
  | .int k=>some (.val (.int k) (k.wrap n))
  |_=>none
 |_,_,_=>none
def AV.nth:AV→Nat→Option AV
 | .cons a _,0=>some a
 | .cons _ b,n+1=>b.nth n
 |_,_=>none
def AV.NQ:AV→Bool
 | .bot| .opt _ _=>false
 |_=>true
def Dx(P:Program)(G:cd)(d:Nat)(op:Op)(ev:Operand→AV)(hb:Nat→Option aP):Option fK:=
 match op with
 | .move x| .assign x=>if(ev x).NQ then some (.one (ev x)) else none
 | .alloc e=>(G.at e).map fun td=>⟨.ptr d [],[(d,some (.var td.ty td.ty.zero))],[d],[]⟩
 |
  .box e x=>match G.at e with
  |some td=>if(ev x).plain&&(ev x).cK td.ty then some ⟨.ptr d [],[(d,some (.var td.ty (ev x)))],[d],[]⟩ else none
  |none=>none
 | .load t a=>(uL G hb t (ev a)).map .one
 | .store t a x=>if(ev x).plain then(yV G hb t (ev a) (ev x)).map fun y=>⟨.bot,[(y.1,some y.2)],[],[]⟩ else none
 |
  .nilCheck x=>match ev x with
  | .ptr b p=>some (.one (.ptr b p))
  | .cb t y=>some (.one (.cb t y))
  |_=>none
 | .binOp o t x y _=>(Dv P t o y (ev x) (ev y)).map .MK
 | .unOp o _ x=>(Tq o (ev x)).map .one
 | .convert s t x=>(Dw G s t (ev x)).map .one
 | .fieldAddr t x i=>(gN G hb t i (ev x)).map .one
 | .indexAddr t x i=>(jX G hb t (ev x) (ev i)).map .MK
 |
  .extract x i=>match ev x with
  | .gm l=>(l.nth i).map .one
  |_=>none
 |
  .pick c x y=>match ev c with
  | .val .bool true=>if(ev x).plain then some (.one (ev x)) else none
  | .val .bool false=>if(ev y).plain then some (.one (ev y)) else none
  |_=>none
 | .call {callee:=.builtin .len,args:=⟨[x]⟩,argTypes:=⟨[t]⟩}=>(JN G hb t (ev x)).map .one
 |_=>none
def sD(op:Op)(ev:Operand→AV):List Nat:=
 match op with
 | .load _ a| .store _ a _| .fieldAddr _ a _| .indexAddr _ a _| .slice _ a _ _ _| .convert _ _ a| .lookup _ a _ _| .mapUpdate _ a _ _| .insert _ a _ _| .mapEntry _ a _| .entryStore _ a _ _| .entry a=>(ev a).ids
 | .call c=>c.operands.toList.flatMap fun x=>(ev x).ids
 |_=>[]
def cm(P:Program)(gl:Ctx)(σ:St)(E:Env)(a:Act)(w:World)(o:Oper)(r:fK):Prop:=
 ∃nx v w' E',(execOp a.eval o).run P w= .ok nx w'∧(nx= .value v∨(nx= .skip∧v=undef))∧cp gl {σ with hp:=aR σ.hp r.hw} E' a w'∧RV E' w' r.v v∧
  Ext gl.md (bK σ.hp E) E w (bK (aR σ.hp r.hw) E') E' w'
theorem cm.same{P:Program}{gl:Ctx}{σ:St}{E:Env}{a:Act}{w:World}{o:Oper}{x:AV}{vc:List VC}(h:cp gl σ E a w){v:Value}(hr:(execOp a.eval o).run P w= .ok (.value v) w)(hv:RV E w x v):cm P gl σ E a w o ⟨x,[],[],vc⟩:=
 ⟨_,v,w,E,hr,Or.inl rfl,h,hv,Ext.refl _ _ _⟩
theorem NR{P:Program}{E:Env}{w:World}{op:UnOp}{x r:AV}{vx:Value}(hx:RV E w x vx)(h:Tq op x=some r):∃v,(Op.unary op vx).run P w= .ok v w∧RV E w r v:=by
 unfold Tq at h
 split at h
 ·have:=RV.eB hx;subst this
  split at h<;>cases h
  exact⟨_,by simp[Op.unary],RV.bool⟩
 ·obtain⟨rfl,_⟩:=RV.dp hx
  split at h<;>cases h
  ·exact⟨_,by simp[Op.unary,Op.intArith],RV.int (dP _ _)⟩
  ·exact⟨_,by simp[Op.unary,Op.intBits];rfl,RV.int (dP _ _)⟩
 ·cases h
theorem bM.intOf{P:Program}{G:cd}(T:bM P G){t:TypeId}{td:TD}(h:G.at t=some td){k:IntKind}(hs:td.ty= .int k):P.underlying t=some (.int k):=by
 obtain⟨ii,d,_,h1,_,h2,_⟩:=T.info h
 have am9:=dv h2
 rw[h1]
 cases hd:d with
 |int k'=>grind [cG,Ty.aB]
 |struct fs=>subst hd;simp only[dB] at am9;rw[hs] at am9;trivial
 |array n e=>subst hd;simp only[dB] at am9;rw[hs] at am9;trivial
 |
  slice e=>
  subst hd
  simp only[cG] at h2
  rw[fQ] at h2
  rcases h2 with h2|h2
  ·grind [Ty.aB]
  grind
 |map k e=>subst hd;have:=(jn h2).1;rw[hs] at this;trivial
 |
  _=>
  subst hd
  simp only[cG] at h2
  first
   |(have:=Ty.aB h2;rw[hs] at this;cases this)
   |cases h2
theorem Hy{P:Program}{G:cd}(T:bM P G){E:Env}{w:World}{s d:TypeId}{x r:AV}{vx:Value}(hx:RV E w x vx)(h:Dw G s d x=some r):∃v,(convert s d vx).run P w= .ok v w∧RV E w r v:=by
 unfold Dw at h
 split at h
 ·rename_i k n ts td hs hd
  split at h
  ·rename_i k' hk
   cases h
   obtain⟨rfl,_⟩:=RV.dp hx
   obtain⟨_,ds,_,h1,_⟩:=T.info hs
   have h2:=T.intOf hd hk
   simp_all[convert,underlying,Conv.intToInt,RV.int,dP]
  grind
 grind
theorem RT.nth{E:Env}{w:World}:∀{l:AV}{vs:List Value}{i:Nat}{x:AV},RT E w l vs→l.nth i=some x→∃v,vs[i]? =some v∧cE E w x v:=by
 intro l
 induction l with
 |
  cons a b ih1 ih2=>
  intro vs i x h hn
  cases vs with
  |nil=>exact h.elim
  |
   cons v vs=>
   cases i with
   |zero=>cases hn;exact⟨v,rfl,h.1⟩
   |succ i=>obtain⟨u,h1,h2⟩:=ih2 h.2 hn;exact⟨u,by simpa using h1,h2⟩
 |_=>intro vs i x h hn;trivial
theorem w9{P:Program}{E:Env}{w:World}{op:BinOp}{t:TypeId}{x y:Operand}{vx vy:Value}{ax ay r:AV}{vc:List VC}(hx:RV E w ax vx)(hy:RV E w ay vy)(h:xF P t op ax ay=some (r,vc)):(eqGuard op t x y vx vy).run P w= .ok () w:=by
 unfold xF at h
 split at h
 ·obtain⟨rfl,_⟩:=RV.dp hx
  obtain⟨rfl,_⟩:=RV.dp hy
  unfold eqGuard;split<;>simp
 ·have:=RV.eB hx;subst this
  have:=RV.eB hy;subst this
  unfold eqGuard;split<;>simp
 ·obtain⟨rfl,_⟩:=RV.iL hx
  obtain⟨rfl,_⟩:=RV.iL hy
  unfold eqGuard;split<;>simp
 ·cases h
theorem JU{P:Program}{G:cd}(T:bM P G){gl:Ctx}{σ:St}{E:Env}{a:Act}{w:World}(h:cp gl σ E a w){o:Oper}{d:Nat}{ev:Operand→AV}{hb:Nat→Option aP}(hB:HB hb σ.hp){r:fK}
 (hev:∀x∈o.op.operands.toList,RV E w (ev x) (a.eval x)) (hids:∀x∈o.op.operands.toList,∀b∈(ev x).ids,b∈σ.ids) (he:Dx P G d o.op ev hb=some r) (hvc:dQ r.vc) (hfr:∀b∈r.fr,σ.fresh b):cm P gl σ E a w o r:=by
 unfold Dx at he
 split at he
 ·rename_i x hop
  split at he
  ·rename_i hp
   cases he
   exact cm.same h (v:=a.eval x) (by simp[execOp,hop]) (hev x (by simp[hop,Op.operands]))
  grind
 ·rename_i x hop
  split at he
  ·rename_i hp
   cases he
   exact cm.same h (v:=a.eval x) (by simp[execOp,hop]) (hev x (by simp[hop,Op.operands]))
  grind
 ·rename_i e hop
  obtain⟨td,htd,rfl⟩:=Option.map_eq_some_iff.1 he
  obtain⟨v,w',E',h1,h2,h3,h4⟩:=Hv T h (hfr d (by simp)) htd (.tuple #[])
  exact⟨_,v,w',E',by simp[execOp,hop,h1],Or.inl rfl,h2,h3,h4⟩
 ·rename_i e x hop
  split at he
  ·rename_i td htd
   split at he
   ·rename_i hc
    cases he
    simp only[bB] at hc
    have hf:=hfr d (by simp)
    obtain⟨v,w',E',h1,h2,h3,h4⟩:=NP (P:=P) (e:=e) h hf (RV.iZ hc.1 (hev x (by simp[hop,Op.operands]))) hc.2 (fun hm=>hf.1 (hids x (by simp[hop,Op.operands]) d hm))
    exact⟨_,v,w',E',by simp[execOp,hop,h1],Or.inl rfl,h2,h3,h4⟩
   grind
  grind
 ·rename_i t x hop
  obtain⟨u,hu,rfl⟩:=Option.map_eq_some_iff.1 he
  obtain⟨v,h1,h2⟩:=rp T h.hw hB (hev x (by simp[hop,Op.operands])) hu
  exact cm.same h (v:=v) (by simp[execOp,hop,h1]) h2
 ·rename_i t x y hop
  split at he
  ·rename_i hp
   obtain⟨⟨b,k⟩,hk,rfl⟩:=Option.map_eq_some_iff.1 he
   obtain⟨w',h1,h2,h3⟩:=BI T h hB (hev x (by simp[hop,Op.operands])) (RV.iZ hp (hev y (by simp[hop,Op.operands]))) hk
   exact⟨_,undef,w',E,by simp[execOp,hop,h1],Or.inr ⟨rfl,rfl⟩,h2,trivial,h3⟩
  grind
 ·rename_i x hop
  split at he
  ·rename_i b p hx
   cases he
   have hr:=hev x (by simp[hop,Op.operands])
   rw[hx] at hr
   obtain⟨g,hg,e,_⟩:=RV.atom rfl hr
   simp at e
   exact cm.same h (v:=a.eval x) (by simp[execOp,hop,e]) hr
  ·rename_i t y hx
   cases he
   have hr:=hev x (by simp[hop,Op.operands])
   rw[hx] at hr
   obtain⟨b,o',cs,e,_⟩:=RV.atom rfl hr
   simp at e
   exact cm.same h (v:=a.eval x) (by simp[execOp,hop,e]) hr
  grind
 ·rename_i bo t x y t2 hop
  obtain⟨⟨u,vc⟩,hu,rfl⟩:=Option.map_eq_some_iff.1 he
  obtain⟨v,h1,h2⟩:=JL (P:=P) (t:=t) (hev x (by simp[hop,Op.operands])) (hev y (by simp[hop,Op.operands])) (sC hu) hvc
  have hgd:=w9 (P:=P) (t:=t) (x:=x) (y:=y) (hev x (by simp[hop,Op.operands])) (hev y (by simp[hop,Op.operands])) (sC hu)
  exact cm.same h (v:=v) (by simp[execOp,hop,hgd,h1]) h2
 ·rename_i uo t x hop
  obtain⟨u,hu,rfl⟩:=Option.map_eq_some_iff.1 he
  obtain⟨v,h1,h2⟩:=NR (P:=P) (hev x (by simp[hop,Op.operands])) hu
  exact cm.same h (v:=v) (by simp[execOp,hop,h1]) h2
 ·rename_i s t x hop
  obtain⟨u,hu,rfl⟩:=Option.map_eq_some_iff.1 he
  obtain⟨v,h1,h2⟩:=Hy T (hev x (by simp[hop,Op.operands])) hu
  exact cm.same h (v:=v) (by simp[execOp,hop,h1]) h2
 ·rename_i t x i hop
  obtain⟨u,hu,rfl⟩:=Option.map_eq_some_iff.1 he
  obtain⟨v,h1,h2⟩:=mE T h.hw hB (hev x (by simp[hop,Op.operands])) hu
  exact cm.same h (v:=v) (by simp[execOp,hop,h1]) h2
 ·rename_i t x i hop
  obtain⟨⟨u,vc⟩,hu,rfl⟩:=Option.map_eq_some_iff.1 he
  obtain⟨v,h1,h2⟩:=uN T h.hw hB (hev x (by simp[hop,Op.operands])) (hev i (by simp[hop,Op.operands])) hu hvc
  exact cm.same h (v:=v) (by simp[execOp,hop,h1]) h2
 ·rename_i x i hop
  split at he
  ·rename_i l hx
   obtain⟨u,hu,rfl⟩:=Option.map_eq_some_iff.1 he
   have hr:=hev x (by simp[hop,Op.operands])
   rw[hx] at hr
   obtain⟨vs,e,hr⟩:=hr
   obtain⟨v,h1,h2⟩:=RT.nth hr hu
   exact cm.same h (v:=v) (by simp_all[execOp,Instr.extract]) (RV.eI h2)
  grind
 ·rename_i c x y hop
  split at he
  ·rename_i hc
   split at he
   ·cases he
    have hr:=hev c (by simp[hop,Op.operands])
    rw[hc] at hr
    have hb:=RV.eB hr
    exact cm.same h (v:=a.eval x) (by simp[execOp,hop,hb,asBool]) (hev x (by simp[hop,Op.operands]))
   grind
  ·rename_i hc
   split at he
   ·cases he
    have hr:=hev c (by simp[hop,Op.operands])
    rw[hc] at hr
    have hb:=RV.eB hr
    exact cm.same h (v:=a.eval y) (by simp[execOp,hop,hb,asBool]) (hev y (by simp[hop,Op.operands]))
   grind
  grind
 ·rename_i x t hop
  obtain⟨u,hu,rfl⟩:=Option.map_eq_some_iff.1 he
  obtain⟨v,h1,h2⟩:=JO T (ty:=o.type) h.hw hB (hev x (by simp[hop,Op.operands,Call.operands])) hu
  refine cm.same h (v:=v) ?_ h2
  simp[execOp,hop,resolve,invoke,builtin,h1]
 grind
def uT(P:Program)(gl:Ctx)(σ:St)(E:Env)(a:Act)(w:World)(o:Oper)(r:fK):Prop:=
 ∀(K:Act→World→Prop)(Q:Exit→Act→World→Prop),(∀E' v w',cp gl {σ with hp:=aR σ.hp r.hw} E' a w'→RV E' w' r.v v→Ext gl.md (bK σ.hp E) E w (bK (aR σ.hp r.hw) E') E' w'→K (a.put o.dst v) w')→o.wpIn (Wd gl) 0 P a w K Q
theorem cm.to{P:Program}{gl:Ctx}{σ:St}{E:Env}{a:Act}{w:World}{o:Oper}{r:fK}(h:cm P gl σ E a w o r)(hnd:∀c,o.op≠.defer c):uT P gl σ E a w o r:=by
 intro K Q hk
 obtain⟨nx,v,w',E',h1,h2,h3,h4,h5⟩:=h
 unfold Oper.wpIn
 refine⟨fun _ _=>trivial,?_⟩
 rw[Oper.semAt_eq _ _ _ hnd,h1]
 rcases h2 with h2|⟨h2,h2'⟩
 ·subst h2;exact hk E' v w' h3 h4 h5
 ·subst h2;subst h2';exact hk E' undef w' h3 h4 h5
def mc(E:Env)(w:World):List AV→List Value→Prop
 |[],[]=>True
 |x::xs,v::vs=>RV E w x v∧mc E w xs vs
 |_,_=>False
inductive xa where
 |ret (x:AV)
 |kq (x:AV)
def yZ(E:Env)(w:World):xa→Ending→Prop
 | .ret x,.returned v=>RV E w x v
 | .kq x,.panicked chain=>∃u,chain= [{v:=u,recovered:=false}]∧cE E w x u
 |_,_=>False
def zb(P:Program)(gl:Ctx)(f:FuncId)(args:List AV)(H:List (Option aP))(r:xa)(H':List (Option aP)):Prop:=
 ∀E w vs,mc E w args vs→HW gl E w H→Calls P f vs.toArray w (fun e w'=>∃E',yZ E' w' r e∧HW gl E' w' H'∧Ext gl.md (bK H E) E w (bK H' E') E' w')
theorem mc.get{E:Env}{w:World}:∀{xs:List AV}{vs:List Value},mc E w xs vs→xs.length=vs.length∧∀(i:Nat)(x:AV)(v:Value),xs[i]? =some x→vs[i]? =some v→RV E w x v
 |[],[],_=>⟨rfl,fun i x v h=>by simp at h⟩
 |[],_::_,h=>h.elim
 |_::_,[],h=>h.elim
 |
  x::xs,v::vs,⟨h1,h2⟩=>by
  obtain⟨e,hh⟩:=mc.get h2
  refine⟨by simp[e],?_⟩
  intro i y u hy hu
  cases i with
  |zero=>simp at hy hu;subst hy;subst hu;exact h1
  |succ i=>exact hh i y u (by simpa using hy) (by simpa using hu)
def Fc(P:Program)(gl:Ctx)(f:FuncId)(args:List AV)(H:List (Option aP))(r:xa)(H':List (Option aP)):Prop:=
 (∀vs w,(callFunc f vs).run P w= .ok (.enter f vs) w)∧zb P gl f args H r H'
def Fy(P:Program)(gl:Ctx)(l:Nat)(args:List AV)(H:List (Option aP))(r:xa)(H':List (Option aP)):Prop:=
 ∀E w vs,mc E w args vs→HW gl E w H→∃fn tmps assign body,(Instr.yield l vs.toArray).run P w= .ok (.round l fn tmps assign body) w∧
  RoundIn Fence.wide 0 P l fn tmps assign body w (fun e w'=>∃E',yZ E' w' r e∧HW gl E' w' H'∧Ext gl.md (bK H E) E w (bK H' E') E' w')
def JV(P:Program)(gl:Ctx)(fn:Fn)(args:List AV)(H:List (Option aP))(r:xa)(H':List (Option aP)):Prop:=
 match fn with
 | .func f=>Fc P gl f args H r H'
 | .yield l=>Fy P gl l args H r H'
 |_=>False
def Tr:Fn→AV→AV→Bool
 | .func _,_,_=>true
 | .yield _,.nil,.nil=>true
 |_,_,_=>false
def AV.toList:AV→List AV
 | .cons a b=>a::b.toList
 |_=>[]
def fL(hb:Nat→Option aP)(b:Nat):Option ((_:Nat)×(t:Ty)×List t.den):=
 match hb b with
 |some (.row _ bs t xs)=>some ⟨bs,t,xs⟩
 |_=>none
def view(hb:Nat→Option aP):AV→Bool→Ty→Option (AV×List Nat)
 | .val t x,_,_=>some (.val t x,[])
 | .bF,_,.slice bs t=>some (.val (.slice bs t) [],[])
 |
  .own b,_,_=>match fL hb b with
  |some ⟨bs,t,xs⟩=>some (.val (.slice bs t) xs,[b])
  |none=>none
 |
  .ju b lo len,_,_=>match fL hb b with
  |some ⟨bs,t,xs⟩=>some (.val (.slice bs t) ((xs.drop lo).take len),[b])
  |none=>none
 |
  .jj b p lo len,_,.slice bs _=>match hb b with
  |
   some (.var _ v)=>match v.get p with
   |some (.val (.arr n t) xs)=>if Nat.ble (n*bs) aG&&Nat.ble n aG then some (.val (.slice bs t) ((List.drop lo xs).take len),[b]) else none
   |_=>none
  |_=>none
 |
  .ptr b p,_,_=>match hb b with
  |
   some k=>match ou k p,(jf k).sub p with
   |
    some u,some s=>match u.bO s with
    |some y=>some (.cb s y,[b])
    |none=>none
   |_,_=>none
  |none=>none
 | .cb t x,_,_=>some (.cb t x,[])
 |
  .mp b,_,_=>match hb b with
  |some (.map k v es)=>some (.val (.map k v) (some es),[b])
  |_=>none
 |
  .func fn fs cs,_,_=>match view hb fs true .unit,view hb cs true .unit with
  |some (f,l),some (c,m)=>if f.atoms&&c.atoms then some (.func fn f c,l++m) else none
  |_,_=>none
 |
  .cons a b,true,_=>match view hb a false .unit,view hb b true .unit with
  |some (x,l),some (y,m)=>some (.cons x y,l++m)
  |_,_=>none
 |
  .cons a b,false,.pair s t=>match view hb a false s,view hb b false t with
  |some (.val s' x,l),some (.val t' y,m)=>some (.val (.pair s' t') (x,y),l++m)
  |_,_=>none
 | .nil,true,_=>some (.nil,[])
 | .nil,false,_=>some (.val .unit (),[])
 | .fC,_,_=>some (.fC,[])
 | .fD,_,_=>some (.fD,[])
 | .fE f t x,_,_=>some (.fE f t x,[])
 |_,_,_=>none
def Env.de(E:Env)(l:List Nat):Env:={E with S:=fun g=>E.S g∨∃b∈l,E.g b=some g}
theorem Env.dR{E:Env}{w:World}(l:List Nat):bS E w (E.de l) w:=⟨fun _ _=>rfl,fun _ h=>Or.inl h⟩
theorem Env.iy{E:Env}{w:World}{l m:List Nat}(h:∀b∈l,b∈m):bS (E.de l) w (E.de m) w:=
 ⟨fun _ _=>rfl,fun _g hg=>hg.imp id (fun⟨b,hb,e⟩=>⟨b,h b hb,e⟩)⟩
theorem px.take{w:World}{a:Addr}{cs:List Value}(h:px w a cs)(n:Nat):px w a (cs.take n):=by
 intro j v hj
 rw[List.getElem?_take] at hj
 split at hj
 ·exact h j v hj
 grind
theorem aY.drop{α:Type}{r:List Value→α→Prop}{n:Nat}(hn:∀vs x,r vs x→vs.length=n):∀{xs:List α}{vs:List Value}(k:Nat),aY r vs xs→aY r (vs.drop (k*n)) (xs.drop k)
 |xs,vs,0,h=>by grind
 |[],vs,k+1,h=>by simp[aY] at h;subst h;simp[aY]
 |
  x::xs,vs,k+1,⟨v1,v2,e,h1,h2⟩=>by
  subst e
  have:=aY.drop hn k h2
  rw[List.drop_succ_cons,List.drop_append,pJ (by grind),oo,hn _ _ h1]
  grind
theorem aY.take{α:Type}{r:List Value→α→Prop}{n:Nat}(hn:∀vs x,r vs x→vs.length=n):∀{xs:List α}{vs:List Value}(k:Nat),aY r vs xs→aY r (vs.take (k*n)) (xs.take k)
 |xs,vs,0,h=>by simp[aY]
 |[],vs,k+1,h=>by simp[aY] at h;subst h;simp[aY]
 |
  x::xs,vs,k+1,⟨v1,v2,e,h1,h2⟩=>by
  subst e
  have:=aY.take hn k h2
  rw[List.take_succ_cons]
  refine⟨v1,v2.take (k*n),?_,h1,this⟩
  grind [gj]
theorem aY.part{w:World}{S:Nat→Prop}{t:Ty}{xs:List t.den}{g o:Nat}{cs:List Value}(hr:px w ⟨g,o,none⟩ cs)(h:aY (Rel w S t) cs xs)(lo len:Nat):
 ∃cs',px w ⟨g,o+lo*t.size,none⟩ cs'∧aY (Rel w S t) cs' ((xs.drop lo).take len):=
 ⟨_,hr.sub (lo*t.size) (len*t.size),aY.take (fun _ _ h=>Rel.len h) len (aY.drop (fun _ _ h=>Rel.len h) lo h)⟩
end Go.Ax
