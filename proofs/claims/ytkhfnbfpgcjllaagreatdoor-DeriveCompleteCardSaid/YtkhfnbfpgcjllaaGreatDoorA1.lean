/- The machines: what it means to be walked or run, part 1. No condition. -/
import Derived.Orders
import Derived.OrdersIn
import Derived.RangeFuncIn
import Derived.Laws.Cells
import Derived.Laws.AppendOwn
import Derived.Laws.Strings
import Derived.Laws.Small
import Derived.Laws.CopyRow
namespace Go.Ax
theorem aD:type_of% @Option.bind_some:=@Option.bind_some
theorem bP:type_of% @Bool.and_eq_true:=@Bool.and_eq_true
theorem dm:type_of% @Nat.eq_of_beq_eq_true:=@Nat.eq_of_beq_eq_true
theorem jz:type_of% @Option.map_eq_some_iff:=@Option.map_eq_some_iff
theorem fG:type_of% @Option.some.injEq:=@Option.some.injEq
theorem j5:type_of% @List.mem_append:=@List.mem_append
theorem tp:type_of% @Array.length_toList:=@Array.length_toList
theorem dH:type_of% @List.mem_cons_of_mem:=@List.mem_cons_of_mem
theorem cz:type_of% @List.length_append:=@List.length_append
theorem cV:type_of% @Nat.le_refl:=@Nat.le_refl
theorem j6:type_of% @List.take_of_length_le:=@List.take_of_length_le
theorem jt:type_of% @Nat.le_of_ble_eq_true:=@Nat.le_of_ble_eq_true
theorem dx:type_of% @List.mem_cons_self:=@List.mem_cons_self
theorem dv:type_of% @Bool.false_eq_true:=@Bool.false_eq_true
theorem eN:type_of% @List.mem_cons:=@List.mem_cons
theorem ju:type_of% @Nat.mul_le_mul_right:=@Nat.mul_le_mul_right
theorem iW:type_of% @Nat.add_mul:=@Nat.add_mul
theorem jV:type_of% @Bool.or_eq_true:=@Bool.or_eq_true
theorem fp:type_of% @List.map_cons:=@List.map_cons
theorem cP:type_of% @List.length_set:=@List.length_set
theorem ek:type_of% @Nat.zero_add:=@Nat.zero_add
theorem oL:type_of% @List.take_append_drop:=@List.take_append_drop
theorem gE:type_of% @List.length_take:=@List.length_take
theorem ES:type_of% @List.eq_nil_of_length_eq_zero:=@List.eq_nil_of_length_eq_zero
theorem gn:type_of% @List.length_replicate:=@List.length_replicate
theorem fN:type_of% @List.drop_zero:=@List.drop_zero
theorem cu:type_of% @Int.natCast_nonneg:=@Int.natCast_nonneg
theorem bD:type_of% @List.length_singleton:=@List.length_singleton
theorem dV:type_of% @Int.toNat_natCast:=@Int.toNat_natCast
theorem da:type_of% @List.length_cons:=@List.length_cons
theorem iA:type_of% @List.drop_eq_getElem_cons:=@List.drop_eq_getElem_cons
theorem iF:type_of% @List.mem_append_left:=@List.mem_append_left
theorem iX:type_of% @List.mem_append_right:=@List.mem_append_right
theorem lC:type_of% @List.mem_singleton:=@List.mem_singleton
theorem iG:type_of% @List.getElem_of_mem:=@List.getElem_of_mem
theorem cw:type_of% @List.append_nil:=@List.append_nil
theorem lD:type_of% @List.getElem_mem:=@List.getElem_mem
theorem fO:type_of% @List.length_nil:=@List.length_nil
theorem cW:type_of% @Nat.le_trans:=@Nat.le_trans
theorem cX:type_of% @Nat.zero_le:=@Nat.zero_le
theorem bR:type_of% @decide_eq_true:=@decide_eq_true
theorem cD:type_of% @decide_eq_false:=@decide_eq_false
theorem bY:type_of% @of_decide_eq_true:=@of_decide_eq_true
theorem rE:type_of% @decide_eq_true_eq:=@decide_eq_true_eq
theorem n7:type_of% @List.length_filter_le:=@List.length_filter_le
theorem gv:type_of% @List.length_map:=@List.length_map
theorem n8:type_of% @List.mem_of_getElem?:=@List.mem_of_getElem?
theorem fY:type_of% @List.getElem?_set:=@List.getElem?_set
theorem rF:type_of% @List.getElem?_eq_getElem:=@List.getElem?_eq_getElem
theorem uO:type_of% @List.mem_or_eq_of_mem_set:=@List.mem_or_eq_of_mem_set
theorem uP:type_of% @List.getElem_append_right:=@List.getElem_append_right
theorem ze:type_of% @List.getElem_append_left:=@List.getElem_append_left
theorem n9:type_of% @List.length_range:=@List.length_range
theorem iH:type_of% @List.append_assoc:=@List.append_assoc
theorem lE:type_of% @List.nodup_cons:=@List.nodup_cons
theorem jW:type_of% @List.nil_append:=@List.nil_append
theorem jb:type_of% @Prod.mk.injEq:=@Prod.mk.injEq
theorem nc:type_of% @and_true:=@and_true
theorem aA:type_of% @if_pos:=@if_pos
theorem aB:type_of% @if_neg:=@if_neg
theorem fP:type_of% @Option.some.inj:=@Option.some.inj
theorem uQ:type_of% @List.getD_eq_getElem?_getD:=@List.getD_eq_getElem?_getD
theorem fQ:type_of% @Int.le_refl:=@Int.le_refl
theorem dc:type_of% @if_false:=@if_false
theorem cC:type_of% @if_true:=@if_true
theorem qN:type_of% @List.map_append:=@List.map_append
theorem jC:type_of% @List.filter_cons:=@List.filter_cons
theorem xh:type_of% @Option.bind_eq_some_iff:=@Option.bind_eq_some_iff
theorem ng:type_of% @List.all_eq_true:=@List.all_eq_true
theorem zf:type_of% @Bool.false_ne_true:=@Bool.false_ne_true
theorem ni:type_of% @Array.ext':=@Array.ext'
theorem lF:type_of% @Bool.not_eq_true':=@Bool.not_eq_true'
theorem oc:type_of% @List.drop_drop:=@List.drop_drop
theorem qO:type_of% @List.drop_of_length_le:=@List.drop_of_length_le
theorem uR:type_of% @Nat.add_sub_cancel_left:=@Nat.add_sub_cancel_left
theorem qP:type_of% @List.drop_take:=@List.drop_take
theorem tB:type_of% @List.take_take:=@List.take_take
theorem rG:type_of% @Nat.min_eq_left:=@Nat.min_eq_left
theorem ET:type_of% @List.take_append_of_le_length:=@List.take_append_of_le_length
theorem tC:type_of% @Bool.not_true:=@Bool.not_true
theorem zg:type_of% @List.getElem?_cons_succ:=@List.getElem?_cons_succ
theorem tD:type_of% @Nat.eq_zero_or_pos:=@Nat.eq_zero_or_pos
end Go.Ax
namespace Go.Ax
inductive j7 where
 |ptr|map|func|iface|sl
 deriving DecidableEq
inductive Ty where
 |int (k:IntKind)
 |bool
 |str
 |arr (n:Nat) (t:Ty)
 |slice (bs:Nat) (t:Ty)
 |pair (a b:Ty)
 |unit
 |aY (k:j7)
 |fns (n:Nat)
 |map (k v:Ty)
 deriving DecidableEq
def IntKind.code:IntKind→Nat
 | .i8=>0| .i16=>1| .i32=>2| .i64=>3| .u8=>4| .u16=>5| .u32=>6| .u64=>7
def j7.code:j7→Nat
 | .ptr=>0| .map=>1| .func=>2| .iface=>3| .sl=>4
theorem IntKind.mn{a b:IntKind}(h:IntKind.code a=IntKind.code b):a=b:=by
 cases a<;>cases b<;>first|rfl|trivial
theorem j7.mn{a b:j7}(h:j7.code a=j7.code b):a=b:=by
 cases a<;>cases b<;>first|rfl|trivial
def Ty.same:Ty→Ty→Bool
 | .int k,.int k'=>Nat.beq (IntKind.code k) (IntKind.code k')
 | .bool,.bool=>true
 | .str,.str=>true
 | .arr n t,.arr n' t'=>Nat.beq n n'&&Ty.same t t'
 | .slice n t,.slice n' t'=>Nat.beq n n'&&Ty.same t t'
 | .pair a b,.pair a' b'=>Ty.same a a'&&Ty.same b b'
 | .unit,.unit=>true
 | .aY k,.aY k'=>Nat.beq (j7.code k) (j7.code k')
 | .fns n,.fns n'=>Nat.beq n n'
 | .map a b,.map a' b'=>Ty.same a a'&&Ty.same b b'
 |_,_=>false
theorem Ty.aE:∀{a b:Ty},Ty.same a b=true→a=b:=by
 intro a
 induction a with
 |int k=>intro b h;cases b<;>simp[Ty.same] at h ⊢;exact IntKind.mn h
 |bool=>grind [Ty.same]
 |str=>grind [Ty.same]
 |arr n t ih=>intro b h;cases b<;>simp[Ty.same] at h ⊢;grind
 |slice n t ih=>intro b h;cases b<;>simp[Ty.same] at h ⊢;grind
 |pair x y ih1 ih2=>intro b h;cases b<;>simp[Ty.same] at h ⊢;grind
 |unit=>grind [Ty.same]
 |aY k=>intro b h;cases b<;>simp[Ty.same] at h ⊢;exact j7.mn h
 |fns n=>intro b h;cases b<;>simp[Ty.same] at h ⊢;exact h
 |map x y ih1 ih2=>intro b h;cases b<;>simp[Ty.same] at h ⊢;grind
theorem Ty.fh(a:Ty):Ty.same a a=true:=by
 induction a<;>simp_all[Ty.same]
@[reducible] def Ty.den:Ty→Type
 | .int _=>Int
 | .bool=>Bool
 | .str=>List UInt8
 | .arr _ t=>List t.den
 | .slice _ t=>List t.den
 | .pair a b=>a.den×b.den
 | .unit=>Unit
 | .aY _=>Unit
 | .fns _=>List (Option Nat)
 | .map k v=>Option (List (k.den×v.den))
def Ty.size:Ty→Nat
 | .arr n t=>n*t.size
 | .pair a b=>a.size+b.size
 | .unit=>0
 | .fns n=>n
 |_=>1
def Ty.isAgg:Ty→Bool
 | .arr _ _| .pair _ _| .unit| .fns _=>true
 |_=>false
def Ty.aH:(t:Ty)→t.den
 | .int _=>(0:Int)
 | .bool=>false
 | .str=>([]:List UInt8)
 | .arr n t=>List.replicate n t.aH
 | .slice _ _=>[]
 | .pair a b=>(a.aH,b.aH)
 | .unit=>()
 | .aY _=>()
 | .fns n=>List.replicate n none
 | .map _ _=>none
def Ty.flat:Ty→Bool
 | .int _| .bool| .str| .unit=>true
 | .arr _ t=>t.flat
 | .pair a b=>a.flat&&b.flat
 |_=>false
def aF:Nat:=140737488355328
def tX(w:World)(a:Addr)(cs:List Value):Prop:=∀j v,cs[j]? =some v→w.cell? (a.add j)=some v
def bO{α:Type}(r:List Value→α→Prop):List Value→List α→Prop
 |vs,[]=>vs= []
 |vs,x::xs=>∃v1 v2,vs=v1++v2∧r v1 x∧bO r v2 xs
def nT{α β:Type}(r:Value→α→Prop)(s:Value→β→Prop):List MapEntry→List (α×β)→Prop
 |[],[]=>True
 |e::es,x::xs=>r e.key x.1∧s e.val x.2∧nT r s es xs
 |_,_=>False
theorem nT.mono{α β:Type}{r r':Value→α→Prop}{s s':Value→β→Prop}(h:∀v x,r v x→r' v x)(k:∀v x,s v x→s' v x):∀{es:List MapEntry}{xs:List (α×β)},nT r s es xs→nT r' s' es xs
 |[],[],_=>trivial
 |[],_::_,g=>g.elim
 |_::_,[],g=>g.elim
 |_::_,_::_,⟨g1,g2,g3⟩=>⟨h _ _ g1,k _ _ g2,nT.mono h k g3⟩
theorem nT.len{α β:Type}{r:Value→α→Prop}{s:Value→β→Prop}:∀{es:List MapEntry}{xs:List (α×β)},nT r s es xs→es.length=xs.length
 |[],[],_=>rfl
 |[],_::_,g=>g.elim
 |_::_,[],g=>g.elim
 |_::es,_::xs,⟨_,_,g3⟩=>by rw[da,da,nT.len g3]
theorem nT.all{α β:Type}{r:Value→α→Prop}{s:Value→β→Prop}{p:α→Prop}{q:β→Prop}(h:∀v x,r v x→p x)(k:∀v x,s v x→q x):∀{es:List MapEntry}{xs:List (α×β)},nT r s es xs→∀x∈xs,p x.1∧q x.2
 |[],[],_,x,hx=>by cases hx
 |[],_::_,g,_,_=>g.elim
 |_::_,[],g,_,_=>g.elim
 |
  _::_,y::ys,⟨g1,g2,g3⟩,x,hx=>by
  cases hx with
  |head=>grind
  |tail _ hx=>exact nT.all h k g3 x hx
def bA{α:Type}:Option (List α)→List α
 |none=>[]
 |some l=>l
def lB(agg:Bool){α:Type}(r:List Value→α→Prop)(v:Value)(x:α):Prop:=(agg=true∧∃cs,v= .agg cs∧r cs.toList x)∨(agg=false∧r [v] x)
theorem lB.mono{agg:Bool}{α:Type}{r r':List Value→α→Prop}(h:∀vs x,r vs x→r' vs x){v:Value}{x:α}(g:lB agg r v x):lB agg r' v x:=by
 rcases g with⟨a,cs,e,g⟩|⟨a,g⟩
 ·exact Or.inl ⟨a,cs,e,h _ _ g⟩
 ·exact Or.inr ⟨a,h _ _ g⟩
theorem lB.all{agg:Bool}{α:Type}{r:List Value→α→Prop}{p:α→Prop}(h:∀vs x,r vs x→p x){v:Value}{x:α}(g:lB agg r v x):p x:=by
 rcases g with⟨a,cs,e,g⟩|⟨a,g⟩<;>grind
def HQ:Option Nat→Value
 |none=>.nilFunc
 |some f=>.func (.func f) #[] #[]
def Rel(w:World)(S:Nat→Prop):(t:Ty)→List Value→t.den→Prop
 | .int k,vs,n=>vs= [.int k n]∧k.min≤n∧n≤k.max
 | .bool,vs,b=>vs= [.bool b]
 | .str,vs,s=>vs= [.string ⟨s.toArray⟩]∧s.length≤aF
 | .arr n t,vs,xs=>xs.length=n∧bO (Rel w S t) vs xs
 | .slice bs t,vs,xs=>∃a cap,vs= [.slice a xs.length cap]∧xs.length≤cap∧xs.length*bs≤aF∧xs.length≤aF∧
  (xs= []∨∃b o cs,a=some ⟨b,o,none⟩∧S b∧tX w ⟨b,o,none⟩ cs∧bO (Rel w S t) cs xs)
 | .pair a b,vs,x=>∃v1 v2,vs=v1++v2∧Rel w S a v1 x.1∧Rel w S b v2 x.2
 | .unit,vs,_=>vs= []
 | .aY _,_,_=>False
 | .fns n,vs,xs=>xs.length=n∧vs=xs.map HQ
 | .map k v,vs,x=>∃a,vs= [.map a]∧((x=none∧a=none)∨∃es g en clock,x=some es∧a=some g∧S g∧w.heap[g]? =some (.map en clock)∧
  nT (lB k.isAgg (Rel w S k)) (lB v.isAgg (Rel w S v)) en.toList es∧(es.map (·.1)).Nodup∧es.length≤aF∧(∀x∈en.toList,x.born<clock)∧(en.toList.map (·.born)).Nodup)
def wf:(t:Ty)→t.den→Prop
 | .int k,n=>k.min≤n∧n≤k.max
 | .bool,_=>True
 | .str,s=>List.length s≤aF
 | .arr n t,xs=>List.length xs=n∧∀x∈xs,wf t x
 | .slice bs t,xs=>List.length xs*bs≤aF∧List.length xs≤aF∧∀x∈xs,wf t x
 | .pair a b,x=>wf a x.1∧wf b x.2
 | .unit,_=>True
 | .aY _,_=>False
 | .fns n,xs=>List.length xs=n
 | .map k v,x=>∀es,x=some es→(es.map (·.1)).Nodup∧List.length es≤aF∧∀p∈es,wf k p.1∧wf v p.2
theorem bO.mono{α:Type}{r r':List Value→α→Prop}(h:∀vs x,r vs x→r' vs x):∀{xs:List α}{vs:List Value},bO r vs xs→bO r' vs xs
 |[],_,hh=>hh
 |_::_,_,⟨v1,v2,e,h1,h2⟩=>⟨v1,v2,e,h _ _ h1,bO.mono h h2⟩
theorem bO.all{α:Type}{r:List Value→α→Prop}{p:α→Prop}(h:∀vs x,r vs x→p x):∀{xs:List α}{vs:List Value},bO r vs xs→∀x∈xs,p x
 |[],_,_,x,hx=>by cases hx
 |
  y::ys,_,⟨_,_,_,h1,h2⟩,x,hx=>by
  cases hx with
  |head=>grind
  |tail _ hx=>exact bO.all h h2 x hx
theorem bO.len{α:Type}{r:List Value→α→Prop}{n:Nat}(h:∀vs x,r vs x→vs.length=n):∀{xs:List α}{vs:List Value},bO r vs xs→vs.length=xs.length*n
 |[],_,hh=>by simp[bO] at hh;simp[hh]
 |
  _::xs,_,⟨v1,v2,e,h1,h2⟩=>by
  subst e
  rw[cz,h _ _ h1,bO.len h h2,da,iW];omega
theorem bO.append{α:Type}{r:List Value→α→Prop}:∀{xs ys:List α}{vs us:List Value},bO r vs xs→bO r us ys→bO r (vs++us) (xs++ys)
 |[],_,_,_,h,k=>by simp[bO] at h;grind
 |
  _::_,_,_,_,⟨v1,v2,e,h1,h2⟩,k=>by
  subst e
  exact⟨v1,v2++_,by simp,h1,bO.append h2 k⟩
theorem bO.get{α:Type}{r:List Value→α→Prop}{n:Nat}(hn:∀vs x,r vs x→vs.length=n)(d:α):∀{xs:List α}{vs:List Value}(i:Nat),bO r vs xs→i<xs.length→r ((vs.drop (i*n)).take n) (xs.getD i d)
 |[],_,i,_,hi=>by grind
 |
  x::xs,_,0,⟨v1,v2,e,h1,_⟩,_=>by
  grind
 |
  x::xs,_,i+1,⟨v1,v2,e,h1,h2⟩,hi=>by
  subst e
  have hl:=hn _ _ h1
  have:=bO.get hn d i h2 (by grind)
  simp_all[List.drop_append,qO,iW]
theorem bO.set{α:Type}{r:List Value→α→Prop}{n:Nat}(hn:∀vs x,r vs x→vs.length=n){us:List Value}{y:α}(hu:r us y):∀{xs:List α}{vs:List Value}(i:Nat),bO r vs xs→i<xs.length→bO r (vs.take (i*n)++us++vs.drop (i*n+n)) (xs.set i y)
 |[],_,i,_,hi=>by grind
 |
  x::xs,_,0,⟨v1,v2,e,h1,h2⟩,_=>by
  subst e
  have:=hn _ _ h1
  refine⟨us,v2,?_,hu,h2⟩<;>grind
 |
  x::xs,_,i+1,⟨v1,v2,e,h1,h2⟩,hi=>by
  subst e
  have hl:=hn _ _ h1
  have:=bO.set hn hu i h2 (by grind)
  refine⟨v1,v2.take (i*n)++us++v2.drop (i*n+n),?_,h1,this⟩
  simp_all[List.take_append,j6,iW,List.drop_append]
theorem Rel.len{w:World}{S:Nat→Prop}:∀{t:Ty}{vs:List Value}{x:t.den},Rel w S t vs x→vs.length=t.size:=by
 intro t
 induction t with
 |int k=>grind [Rel,Ty.size]
 |bool=>grind [Rel,Ty.size]
 |str=>grind [Rel,Ty.size]
 |arr n t ih=>intro vs x h;obtain⟨h1,h2⟩:=h;grind [bO.len,Ty.size]
 |slice bs t ih=>intro vs x h;obtain⟨a,cap,e,_⟩:=h;simp[e,Ty.size]
 |pair a b ih1 ih2=>intro vs x h;obtain⟨v1,v2,e,h1,h2⟩:=h;grind [Ty.size]
 |unit=>grind [Rel,Ty.size]
 |aY k=>intro vs x h;trivial
 |fns n=>intro vs x h;obtain⟨h1,h2⟩:=h;rw[h2,gv,h1,Ty.size]
 |map k v=>intro vs x h;obtain⟨a,e,_⟩:=h;simp[e,Ty.size]
theorem Rel.wf{w:World}{S:Nat→Prop}:∀{t:Ty}{vs:List Value}{x:t.den},Rel w S t vs x→wf t x:=by
 intro t
 induction t with
 |int k=>intro vs x h;exact h.2
 |bool=>intro vs x h;trivial
 |str=>intro vs x h;exact h.2
 |arr n t ih=>intro vs x h;exact⟨h.1,bO.all (p:=Ax.wf t) (fun _ _ h=>ih h) h.2⟩
 |
  slice bs t ih=>
  intro vs x h
  obtain⟨a,cap,e,h1,h2,h3,h4⟩:=h
  refine⟨h2,h3,?_⟩
  rcases h4 with h4|⟨b,o,cs,_,_,_,h5⟩
  ·grind
  ·exact bO.all (p:=Ax.wf t) (fun _ _ h=>ih h) h5
 |pair a b ih1 ih2=>intro vs x h;obtain⟨v1,v2,e,h1,h2⟩:=h;exact⟨ih1 h1,ih2 h2⟩
 |unit=>intro vs x h;trivial
 |aY k=>intro vs x h;trivial
 |fns n=>intro vs x h;exact h.1
 |
  map k v ih1 ih2=>
  intro vs x h es he
  obtain⟨a,e,h⟩:=h
  rcases h with⟨h,_⟩|⟨es',g,en,clock,h1,_,_,_,h2,h3,h4,_⟩
  ·grind
  ·rw[h1] at he;cases he
   exact⟨h3,h4,nT.all (fun _ _ h=>lB.all (p:=Ax.wf k) (fun _ _ h=>ih1 h) h) (fun _ _ h=>lB.all (p:=Ax.wf v) (fun _ _ h=>ih2 h) h) h2⟩
theorem tX.mono{w w':World}{a:Addr}{cs:List Value}(h:tX w a cs)(hb:w'.heap[a.block]? =w.heap[a.block]?):tX w' a cs:=by
 intro j v hj
 rw[←h j v hj]
 grind [World.cell?_of_block,Addr.add]
theorem Rel.mono{w w':World}{S S':Nat→Prop}(hw:∀b,S b→w'.heap[b]? =w.heap[b]?)(hS:∀b,S b→S' b):∀{t:Ty}{vs:List Value}{x:t.den},Rel w S t vs x→Rel w' S' t vs x:=by
 intro t
 induction t with
 |int k=>intro vs x h;exact h
 |bool=>intro vs x h;exact h
 |str=>intro vs x h;exact h
 |arr n t ih=>intro vs x h;exact⟨h.1,bO.mono (fun _ _=>ih) h.2⟩
 |
  slice bs t ih=>
  intro vs x h
  obtain⟨a,cap,e,h1,h2,h3,h4⟩:=h
  refine⟨a,cap,e,h1,h2,h3,?_⟩
  rcases h4 with h4|⟨b,o,cs,ha,hs,hr,h5⟩
  ·grind
  ·exact Or.inr ⟨b,o,cs,ha,hS b hs,hr.mono (hw b hs),bO.mono (fun _ _=>ih) h5⟩
 |pair a b ih1 ih2=>intro vs x h;obtain⟨v1,v2,e,h1,h2⟩:=h;exact⟨v1,v2,e,ih1 h1,ih2 h2⟩
 |unit=>intro vs x h;exact h
 |aY k=>intro vs x h;exact h
 |fns n=>intro vs x h;exact h
 |
  map k v ih1 ih2=>
  intro vs x h
  obtain⟨a,e,h⟩:=h
  refine⟨a,e,?_⟩
  grind [nT.mono,lB.mono]
theorem Rel.flat{w w':World}{S S':Nat→Prop}:∀{t:Ty}{vs:List Value}{x:t.den},t.flat=true→Rel w S t vs x→Rel w' S' t vs x:=by
 intro t
 induction t with
 |int k=>intro vs x _ h;exact h
 |bool=>intro vs x _ h;exact h
 |str=>intro vs x _ h;exact h
 |arr n t ih=>intro vs x hf h;exact⟨h.1,bO.mono (fun _ _=>ih hf) h.2⟩
 |slice bs t ih=>intro vs x hf;trivial
 |
  pair a b ih1 ih2=>
  intro vs x hf h
  simp[Ty.flat] at hf
  obtain⟨v1,v2,e,h1,h2⟩:=h;exact⟨v1,v2,e,ih1 hf.1 h1,ih2 hf.2 h2⟩
 |unit=>intro vs x _ h;exact h
 |aY k=>intro vs x hf;trivial
 |fns n=>intro vs x hf;trivial
 |map k v=>intro vs x hf;trivial
end Go.Ax
namespace Go.Ax
inductive PS where
 |d6 (n:Nat)
 |idx (i:Nat)
abbrev Path:=List PS
def Ty.off:Ty→Path→Nat
 | .pair a _,.d6 0::p=>a.off p
 | .pair a b,.d6 (k+1)::p=>a.size+b.off (.d6 k::p)
 | .arr _ t,.idx i::p=>i*t.size+t.off p
 | .fns _,.idx i::_=>i
 |_,_=>0
def Ty.sub:Ty→Path→Option Ty
 | .pair a _,.d6 0::p=>a.sub p
 | .pair _ b,.d6 (k+1)::p=>b.sub (.d6 k::p)
 | .arr _ t,.idx _::p=>t.sub p
 | .fns _,[.idx _]=>some (.aY .func)
 |t,[]=>some t
 |_,_=>none
def Ty.valid:Ty→Path→Prop
 | .pair a _,.d6 0::p=>a.valid p
 | .pair _ b,.d6 (k+1)::p=>b.valid (.d6 k::p)
 | .arr n t,.idx i::p=>i<n∧t.valid p
 | .fns n,[.idx i]=>i<n
 |_,[]=>True
 |_,_=>False
inductive AV where
 |bot
 |val (t:Ty) (x:t.den)
 |aM
 |own (b:Nat)
 |nQ (b lo len:Nat)
 |mL (b:Nat) (p:Path) (lo len:Nat)
 |ptr (b:Nat) (p:Path)
 |dk (t:Ty) (x:t.den)
 |mp (b:Nat)
 |kv
 |ia
 |jD
 |kZ
 |func (fn:Fn) (fs cs:AV)
 |iface (t:TypeId) (v:AV)
 |cons (a b:AV)
 |nil
 |ky (l:AV)
 |opt (c:Bool) (v:AV)
 |fx
 |fm (f:FuncId) (t:Ty) (x:t.den)
 |gU (t:Ty)
 |nq (c:Bool)
 |jc (b:Nat)
structure YC where
 l:Nat
 gs:Nat→Nat
 rc:Nat→Loop
inductive aX where
 |var (t:Ty) (v:AV)
 |row (e:TypeId) (bs:Nat) (t:Ty) (xs:List t.den)
 |map (k v:Ty) (es:List (k.den×v.den))
 |lp (y:YC) (j:Nat)
 |AZ
 |tv (g:Nat) (t:Ty) (v:AV)
 |dB (e:TypeId) (bs:Nat) (t:Ty) (xs:List t.den) (i:Nat) (v:AV)
 |eW (e:TypeId) (bs:Nat) (t:Ty) (xs:List t.den) (e2:TypeId) (f:Option (Nat×AV))
 |pmap (k t:Ty) (es:List (k.den×t.den)) (e2:TypeId) (f:Option (k.den×AV×Bool))
 |qX (k v:Ty) (rest:List (k.den×v.den)) (cur:Option (k.den×v.den))
 |j8 (k t:Ty) (es:List (k.den×t.den)) (e2:TypeId) (kx:k.den) (v:AV) (pr:Bool)
 |k7 (k:Ty) (l:List (k.den×AV))
structure Env where
 g:Nat→Option Nat
 sv:Nat→Value
 bt:Nat→Ty
 S:Nat→Prop
 P:Nat→Nat→Prop
def Env.has(E:Env)(b g:Nat):Prop:=E.g b=some g∨E.P b g
def AV.isAgg:AV→Bool
 | .val t _=>t.isAgg
 | .gU t=>t.isAgg
 | .cons _ _| .nil=>true
 |_=>false
def AV.size:AV→Nat
 | .val t _=>t.size
 | .gU t=>t.size
 | .cons a b=>a.size+b.size
 | .nil=>0
 |_=>1
def AV.atom:AV→Bool
 | .val t _=> !t.isAgg
 | .bot| .cons _ _| .nil| .ky _| .opt _ _| .gU _=>false
 |_=>true
def AV.atoms:AV→Bool
 | .cons a b=>a.atom&&b.atoms
 | .nil=>true
 |_=>false
def AV.Rz:AV→Bool
 | .func _ _ _=>true
 |_=>false
def AV.LD:AV→Nat→Bool
 | .cons a b,n=>a.Rz&&Nat.blt 0 n&&b.LD (n -1)
 | .nil,n=>Nat.beq n 0
 |_,_=>false
def AV.dY:AV→Ty→Bool
 | .val t _,u=>Ty.same t u
 | .gU t,u=>Ty.same t u
 | .aM,.slice _ _=>true
 | .aM,.aY .sl=>true
 | .own _,.slice _ _=>true
 | .nQ _ _ _,.slice _ _=>true
 | .mL _ _ _ _,.slice _ _=>true
 | .ptr _ _,.aY .ptr=>true
 | .dk _ _,.aY .ptr=>true
 | .kv,.aY .ptr=>true
 | .mp _,.aY .map=>true
 | .mp _,.map _ _=>true
 | .ia,.aY .map=>true
 | .ia,.map _ _=>true
 | .func _ _ _,.aY .func=>true
 | .jD,.aY .func=>true
 | .fx,.aY .func=>true
 | .fm _ _ _,.aY .func=>true
 | .iface _ _,.aY .iface=>true
 | .kZ,.aY .iface=>true
 | .cons a b,.pair t u=>a.dY t&&b.dY u
 | .nil,.unit=>true
 | .cons a b,.fns n=>(AV.cons a b).LD n
 | .nil,.fns n=>Nat.beq n 0
 |_,_=>false
def AV.ids:AV→List Nat
 | .own b| .nQ b _ _| .mL b _ _ _| .ptr b _| .mp b| .jc b=>[b]
 | .func _ fs cs=>fs.ids++cs.ids
 | .iface _ v=>v.ids
 | .cons a b=>a.ids++b.ids
 | .ky l=>l.ids
 | .opt _ v=>v.ids
 |_=>[]
def RC(E:Env)(w:World):AV→List Value→Prop
 | .val t x,vs=>Rel w E.S t vs x
 | .aM,vs=>vs= [.slice none 0 0]
 | .own b,vs=>vs= [E.sv b]∧∃a n c,E.sv b= .slice a n c
 | .nQ b lo len,vs=>∃a c n t,E.bt b= .arr n t∧E.sv b= .slice a n c∧lo+len≤n∧n≤c∧∃a',vs= [.slice a' len (c -lo)]∧((len=0∧lo≠0)∨a'=a.map (·.add (lo*t.size)))
 | .mL b p lo len,vs=>∃n t,(E.bt b).sub p=some (.arr n t)∧(E.bt b).valid p∧lo+len≤n∧∃a cap,vs= [.slice a len cap]∧len≤cap∧
  (len=0∨∃g,E.g b=some g∧a=some ⟨g,(E.bt b).off p+lo*t.size,none⟩)
 | .ptr b p,vs=>∃g,E.g b=some g∧vs= [.pointer (some ⟨g,(E.bt b).off p,none⟩)]∧(E.bt b).valid p
 | .dk t x,vs=>∃b o cs,vs= [.pointer (some ⟨b,o,none⟩)]∧E.S b∧tX w ⟨b,o,none⟩ cs∧Rel w E.S t cs x
 | .mp b,vs=>∃g,E.g b=some g∧vs= [.map (some g)]
 | .kv,vs=>vs= [.pointer none]
 | .ia,vs=>vs= [.map none]
 | .jD,vs=>vs= [.nilFunc]
 | .kZ,vs=>vs= [.nilIface]
 | .func fn fs cs,vs=>∃f c,vs= [.func fn f c]∧RC E w fs f.toList∧RC E w cs c.toList∧fs.atoms=true∧cs.atoms=true
 | .iface t v,vs=>∃x,vs= [.iface t x]∧((v.isAgg=true∧∃cs,x= .agg cs∧RC E w v cs.toList)∨(v.isAgg=false∧RC E w v [x]))
 | .cons a b,vs=>∃v1 v2,vs=v1++v2∧RC E w a v1∧RC E w b v2
 | .nil,vs=>vs= []
 | .fx,vs=>∃fn f c,vs= [.func fn f c]
 | .gU t,vs=>vs.length=t.size∧∀v∈vs,v.oneCell'=true
 | .nq c,vs=>∃a:Option Nat,vs= [.map a]∧(a=none↔c=true)
 | .jc b,vs=>vs= [E.sv b]∧∃n:Int,E.sv b= .int .i64 n
 | .fm f t x,vs=>t.isAgg=true∧∃cs,vs= [.func (.func f) #[.agg cs] #[]]∧Rel w E.S t cs.toList x
 | .bot,_=>False
 | .ky _,_=>False
 | .opt _ _,_=>False
def ew(E:Env)(w:World)(a:AV)(v:Value):Prop:=
 (a.isAgg=true∧∃cs,v= .agg cs∧RC E w a cs.toList)∨(a.isAgg=false∧RC E w a [v])
def RT(E:Env)(w:World):AV→List Value→Prop
 | .cons a b,v::vs=>ew E w a v∧RT E w b vs
 | .nil,vs=>vs= []
 |_,_=>False
def RV(E:Env)(w:World):AV→Value→Prop
 | .bot,_=>True
 | .ky l,v=>∃vs,v= .tuple vs∧RT E w l vs.toList
 | .opt c a,v=>(c=true∧ew E w a v)∨(c=false∧v=undef)
 |a,v=>ew E w a v
def Env.on(E E':Env)(ids:List Nat):Prop:=∀b∈ids,E'.g b=E.g b∧E'.sv b=E.sv b∧E'.bt b=E.bt b
theorem Env.on.left{E E':Env}{a b:List Nat}(h:E.on E' (a++b)):E.on E' a:=fun x hx=>h x (by simp[hx])
theorem Env.on.right{E E':Env}{a b:List Nat}(h:E.on E' (a++b)):E.on E' b:=fun x hx=>h x (by simp[hx])
structure di(E:Env)(w:World)(E':Env)(w':World):Prop where
 w:∀b,E.S b→w'.heap[b]? =w.heap[b]?
 S:∀b,E.S b→E'.S b
theorem RC.mono{E E':Env}{w w':World}(k:di E w E' w'):∀{a:AV}{vs:List Value},E.on E' a.ids→RC E w a vs→RC E' w' a vs:=by
 intro a
 induction a with
 |bot=>intro vs _ h;exact h
 |fx=>intro vs _ h;exact h
 |gU t=>intro vs _ h;exact h
 |nq c=>intro vs _ h;exact h
 |jc b=>intro vs ho h;simp only[RC] at h ⊢;rw[(ho b (by simp[AV.ids])).2.1];exact h
 |fm f t x=>intro vs _ h;obtain⟨ha,cs,h1,h2⟩:=h;exact⟨ha,cs,h1,Rel.mono k.w k.S h2⟩
 |val t x=>intro vs _ h;exact Rel.mono k.w k.S h
 |aM=>intro vs _ h;exact h
 |own b=>intro vs ho h;simp only[RC] at h ⊢;rw[(ho b (by simp[AV.ids])).2.1];exact h
 |
  nQ b lo len=>
  intro vs ho h
  obtain⟨_,h2,h3⟩:=ho b (by simp[AV.ids])
  obtain⟨a,c,n,t,h⟩:=h
  exact⟨a,c,n,t,by grind⟩
 |
  mL b p lo len=>
  intro vs ho h
  obtain⟨h1,h2,h3⟩:=ho b (by simp[AV.ids])
  obtain⟨n,t,h⟩:=h
  refine⟨n,t,?_⟩<;>grind
 |
  ptr b p=>
  intro vs ho h
  obtain⟨h1,h2,h3⟩:=ho b (by simp[AV.ids])
  obtain⟨g,h⟩:=h
  exact⟨g,by grind⟩
 |
  dk t x=>
  intro vs _ h
  obtain⟨b,o,cs,h1,h2,h3,h4⟩:=h
  exact⟨b,o,cs,h1,k.S b h2,h3.mono (k.w b h2),Rel.mono k.w k.S h4⟩
 |
  mp b=>
  intro vs ho h
  obtain⟨h1,h2,h3⟩:=ho b (by simp[AV.ids])
  obtain⟨g,h⟩:=h
  exact⟨g,by grind⟩
 |kv=>intro vs _ h;exact h
 |ia=>intro vs _ h;exact h
 |jD=>intro vs _ h;exact h
 |kZ=>intro vs _ h;exact h
 |
  func fn fs cs ih1 ih2=>
  intro vs ho h
  obtain⟨f,c,e,h1,h2,h3,h4⟩:=h
  exact⟨f,c,e,ih1 ho.left h1,ih2 ho.right h2,h3,h4⟩
 |
  iface t v ih=>
  intro vs ho h
  obtain⟨x,e,h⟩:=h
  refine⟨x,e,?_⟩
  rcases h with⟨h1,cs,h2,h3⟩|⟨h1,h2⟩
  ·exact Or.inl ⟨h1,cs,h2,ih ho h3⟩
  ·exact Or.inr ⟨h1,ih ho h2⟩
 |
  cons a b ih1 ih2=>
  intro vs ho h
  obtain⟨v1,v2,e,h1,h2⟩:=h
  exact⟨v1,v2,e,ih1 ho.left h1,ih2 ho.right h2⟩
 |nil=>intro vs _ h;exact h
 |ky l ih=>intro vs _ h;exact h
 |opt c v ih=>intro vs _ h;exact h
theorem ew.mono{E E':Env}{w w':World}(k:di E w E' w'){a:AV}{v:Value}(ho:E.on E' a.ids)(h:ew E w a v):ew E' w' a v:=by
 rcases h with⟨h1,cs,h2,h3⟩|⟨h1,h2⟩
 ·exact Or.inl ⟨h1,cs,h2,RC.mono k ho h3⟩
 ·exact Or.inr ⟨h1,RC.mono k ho h2⟩
theorem RT.mono{E E':Env}{w w':World}(k:di E w E' w'):∀{a:AV}{vs:List Value},E.on E' a.ids→RT E w a vs→RT E' w' a vs:=by
 intro a
 induction a with
 |
  cons a b ih1 ih2=>
  intro vs ho h
  cases vs with
  |nil=>trivial
  |cons v vs=>exact⟨ew.mono k ho.left h.1,ih2 ho.right h.2⟩
 |nil=>intro vs _ h;exact h
 |_=>intro vs _ h;trivial
theorem RV.mono{E E':Env}{w w':World}(k:di E w E' w'){a:AV}{v:Value}(ho:E.on E' a.ids)(h:RV E w a v):RV E' w' a v:=by
 cases a with
 |bot=>trivial
 |ky l=>obtain⟨vs,e,h⟩:=h;exact⟨vs,e,RT.mono k ho h⟩
 |
  opt c a=>
  rcases h with⟨h1,h2⟩|h
  ·exact Or.inl ⟨h1,ew.mono k ho h2⟩
  ·exact Or.inr h
 |_=>exact ew.mono k ho h
theorem RC.len{E:Env}{w:World}:∀{a:AV}{vs:List Value},RC E w a vs→vs.length=a.size:=by
 intro a
 induction a with
 |val t x=>intro vs h;exact Rel.len h
 |aM=>intro vs h;simp only[RC] at h;simp[h,AV.size]
 |own b=>intro vs h;simp only[RC] at h;simp[h.1,AV.size]
 |nQ b lo len=>intro vs h;obtain⟨_,_,_,_,_,_,_,_,_,e,_⟩:=h;simp[e,AV.size]
 |mL b p lo len=>intro vs h;obtain⟨_,_,_,_,_,_,_,e,_⟩:=h;simp[e,AV.size]
 |ptr b p=>intro vs h;obtain⟨_,_,e,_⟩:=h;simp[e,AV.size]
 |dk t x=>intro vs h;obtain⟨_,_,_,e,_⟩:=h;simp[e,AV.size]
 |mp b=>intro vs h;obtain⟨_,_,e⟩:=h;simp[e,AV.size]
 |kv=>intro vs h;simp only[RC] at h;simp[h,AV.size]
 |ia=>intro vs h;simp only[RC] at h;simp[h,AV.size]
 |jD=>intro vs h;simp only[RC] at h;simp[h,AV.size]
 |kZ=>intro vs h;simp only[RC] at h;simp[h,AV.size]
 |func fn fs cs=>intro vs h;obtain⟨_,_,e,_⟩:=h;simp[e,AV.size]
 |iface t v=>intro vs h;obtain⟨_,e,_⟩:=h;simp[e,AV.size]
 |cons a b ih1 ih2=>intro vs h;obtain⟨v1,v2,e,h1,h2⟩:=h;subst e;rw[cz,ih1 h1,ih2 h2,AV.size]
 |nil=>intro vs h;simp only[RC] at h;simp[h,AV.size]
 |bot=>intro vs h;exact h.elim
 |fx=>intro vs h;obtain⟨_,_,_,e⟩:=h;simp[e,AV.size]
 |gU t=>intro vs h;exact h.1
 |nq c=>intro vs h;obtain⟨_,e,_⟩:=h;simp[e,AV.size]
 |jc b=>intro vs h;obtain⟨e,_⟩:=h;simp[e,AV.size]
 |fm f t x=>intro vs h;obtain⟨_,_,e,_⟩:=h;simp[e,AV.size]
 |ky l=>intro vs h;exact h.elim
 |opt c v=>intro vs h;exact h.elim
theorem Rel.one{w:World}{S:Nat→Prop}:∀{t:Ty}{vs:List Value}{x:t.den},Rel w S t vs x→∀v∈vs,v.oneCell'=true:=by
 intro t
 induction t with
 |int k=>intro vs x h v hv;simp[Rel] at h;rw[h.1] at hv;simp at hv;subst hv;rfl
 |bool=>intro vs x h v hv;simp[Rel] at h;rw[h] at hv;simp at hv;subst hv;rfl
 |str=>intro vs x h v hv;simp[Rel] at h;rw[h.1] at hv;simp at hv;subst hv;rfl
 |
  arr n t ih=>
  intro vs x h
  have key:∀{xs:List t.den}{vs:List Value},bO (Rel w S t) vs xs→∀v∈vs,v.oneCell'=true:=by
   intro xs
   induction xs with
   |nil=>grind [bO]
   |
    cons y ys ih2=>
    intro vs h v hv
    obtain⟨v1,v2,e,h1,h2⟩:=h
    grind
  exact key h.2
 |slice bs t=>intro vs x h v hv;obtain⟨a,cap,e,_⟩:=h;rw[e] at hv;simp at hv;subst hv;rfl
 |
  pair a b ih1 ih2=>
  intro vs x h v hv
  obtain⟨v1,v2,e,h1,h2⟩:=h
  grind
 |unit=>grind [Rel]
 |aY k=>intro vs x h;trivial
 |
  fns n=>
  intro vs x h v hv
  obtain⟨_,h2⟩:=h
  rw[h2] at hv
  obtain⟨o,_,e⟩:=List.mem_map.1 hv
  subst e
  cases o<;>rfl
 |map k v=>intro vs x h v hv;obtain⟨a,e,_⟩:=h;rw[e] at hv;simp at hv;subst hv;rfl
theorem RC.one{E:Env}{w:World}:∀{a:AV}{vs:List Value},RC E w a vs→∀v∈vs,v.oneCell'=true:=by
 intro a
 induction a with
 |val t x=>intro vs h;exact Rel.one h
 |aM=>intro vs h v hv;simp only[RC] at h;rw[h] at hv;simp at hv;subst hv;rfl
 |own b=>intro vs h v hv;obtain⟨e,a,n,c,e2⟩:=h;rw[e,e2] at hv;simp at hv;subst hv;rfl
 |nQ b lo len=>intro vs h v hv;obtain⟨_,_,_,_,_,_,_,_,_,e,_⟩:=h;rw[e] at hv;simp at hv;subst hv;rfl
 |mL b p lo len=>intro vs h v hv;obtain⟨_,_,_,_,_,_,_,e,_⟩:=h;rw[e] at hv;simp at hv;subst hv;rfl
 |ptr b p=>intro vs h v hv;obtain⟨_,_,e,_⟩:=h;rw[e] at hv;simp at hv;subst hv;rfl
 |dk t x=>intro vs h v hv;obtain⟨_,_,_,e,_⟩:=h;rw[e] at hv;simp at hv;subst hv;rfl
 |mp b=>intro vs h v hv;obtain⟨_,_,e⟩:=h;rw[e] at hv;simp at hv;subst hv;rfl
 |kv=>intro vs h v hv;simp only[RC] at h;rw[h] at hv;simp at hv;subst hv;rfl
 |ia=>intro vs h v hv;simp only[RC] at h;rw[h] at hv;simp at hv;subst hv;rfl
 |jD=>intro vs h v hv;simp only[RC] at h;rw[h] at hv;simp at hv;subst hv;rfl
 |fx=>intro vs h v hv;obtain⟨_,_,_,e⟩:=h;rw[e] at hv;simp at hv;subst hv;rfl
 |gU t=>intro vs h v hv;exact h.2 v hv
 |nq c=>intro vs h v hv;obtain⟨_,e,_⟩:=h;rw[e] at hv;simp at hv;subst hv;rfl
 |jc b=>intro vs h v hv;obtain⟨e,n,e2⟩:=h;rw[e,e2] at hv;simp at hv;subst hv;rfl
 |fm f t x=>intro vs h v hv;obtain⟨_,_,e,_⟩:=h;rw[e] at hv;simp at hv;subst hv;rfl
 |kZ=>intro vs h v hv;simp only[RC] at h;rw[h] at hv;simp at hv;subst hv;rfl
 |func fn fs cs=>intro vs h v hv;obtain⟨_,_,e,_⟩:=h;rw[e] at hv;simp at hv;subst hv;rfl
 |iface t x=>intro vs h v hv;obtain⟨_,e,_⟩:=h;rw[e] at hv;simp at hv;subst hv;rfl
 |
  cons a b ih1 ih2=>
  intro vs h v hv
  obtain⟨v1,v2,e,h1,h2⟩:=h
  grind
 |nil=>grind [RC]
 |bot=>intro vs h;trivial
 |ky l=>intro vs h;trivial
 |opt c v=>intro vs h;trivial
theorem ew.cells{E:Env}{w:World}{a:AV}{v:Value}(h:ew E w a v):RC E w a v.cells.toList:=by
 rcases h with⟨_,cs,e,h⟩|⟨_,h⟩
 ·subst e;exact h
 ·have h1:=RC.one h v (by simp)
  have:v.cells= #[v]:=by cases v<;>first|rfl|(simp[Value.oneCell'] at h1)
  rw[this];exact h
theorem AV.Br:∀{a:AV}{n:Nat},a.LD n=true→a.size=n:=by
 intro a
 induction a with
 |
  cons a b _ ih=>
  intro n h
  simp only[AV.LD,bP,Nat.blt,Nat.ble_eq] at h
  obtain⟨⟨h1,h2⟩,h3⟩:=h
  have:=ih h3
  cases a<;>simp[AV.Rz] at h1
  simp only[AV.size]
  omega
 |nil=>intro n h;exact(dm h).symm
 |_=>intro n h;cases h
theorem AV.hH:∀{a:AV}{t:Ty},a.dY t=true→a.size=t.size:=by
 intro a
 induction a with
 |val u x=>intro t h;have:=Ty.aE (by trivial);subst this;rfl
 |gU u=>intro t h;have:=Ty.aE (by trivial);subst this;rfl
 |
  cons a b ih1 ih2=>
  intro t h
  cases t with
  |fns n=>exact AV.Br (a:=.cons a b) h
  |pair t u=>simp[AV.dY] at h;rw[AV.size,Ty.size,ih1 h.1,ih2 h.2]
  |_=>cases h
 |
  nil=>
  intro t h
  cases t with
  |fns n=>exact(dm h).symm
  |unit=>rfl
  |_=>cases h
 |aM=>intro t h;cases t with|slice _ _=>rfl|aY k=>trivial|_=>trivial
 |_=>intro t h;first|(cases t<;>simp[AV.dY] at h<;>rfl)|(cases t with|aY k=>cases k<;>simp[AV.dY] at h<;>rfl|map _ _=>(first|rfl|simp[AV.dY] at h)|_=>simp[AV.dY] at h)
theorem AV.lL:∀{a:AV}{t:Ty},a.dY t=true→a.isAgg=t.isAgg:=by
 intro a t h
 cases a with
 |val u x=>have:=Ty.aE (by trivial);subst this;rfl
 |gU u=>have:=Ty.aE (by trivial);subst this;rfl
 |cons a b=>cases t<;>first|rfl|cases h
 |nil=>cases t<;>first|rfl|cases h
 |aM=>cases t with|slice _ _=>rfl|aY k=>trivial|_=>trivial
 |_=>first|(cases t<;>simp[AV.dY] at h<;>rfl)|(cases t with|aY k=>cases k<;>simp[AV.dY] at h<;>rfl|map _ _=>(first|rfl|simp[AV.dY] at h)|_=>simp[AV.dY] at h)
def LF:Option Nat→AV
 |none=>.jD
 |some f=>.func (.func f) .nil .nil
def jE:(t:Ty)→t.den→Path→Option AV
 | .pair a _,x,.d6 0::p=>jE a x.1 p
 | .pair _ b,x,.d6 (k+1)::p=>jE b x.2 (.d6 k::p)
 | .arr _ t,x,.idx i::p=>jE t (List.getD x i t.aH) p
 | .fns _,x,[.idx i]=>some (LF (List.getD x i none))
 |t,x,[]=>some (.val t x)
 |_,_,_=>none
def AV.get:AV→Path→Option AV
 | .val t x,p=>jE t x p
 | .cons a _,.d6 0::p=>a.get p
 | .cons _ b,.d6 (k+1)::p=>b.get (.d6 k::p)
 | .cons a _,[.idx 0]=>some a
 | .cons _ b,[.idx (i+1)]=>b.get [.idx i]
 |a,[]=>some a
 |_,_=>none
def AV.de:AV→(t:Ty)→Option t.den
 | .val u x,t=>if h:Ty.same u t=true then some (Ty.aE h▸x) else none
 | .aM,.slice _ _=>some []
 | .ia,.map _ _=>some none
 |
  .cons a b,.pair t u=>match a.de t,b.de u with
  |some x,some y=>some (x,y)
  |_,_=>none
 | .nil,.unit=>some ()
 |_,_=>none
def AV.V6:AV→Bool
 | .aM=>true
 |_=>false
def AV.MT(v:AV)(t:Ty):Option AV:=
 match v.V6&&v.dY t with
 |true=>some v
 |
  false=>match v.de t with
  |some y=>some (.val t y)
  |none=>if v.dY t then some v else none
def k8:(t:Ty)→t.den→Path→AV→Option AV
 |
  .pair a b,x,.d6 0::p,v=>match k8 a x.1 p v with
  |some (.val u y)=>if h:Ty.same u a=true then some (.val (.pair a b) (Ty.aE h▸y,x.2)) else none
  |some y=>some (.cons y (.val b x.2))
  |none=>none
 |
  .pair a b,x,.d6 (k+1)::p,v=>match k8 b x.2 (.d6 k::p) v with
  |some (.val u y)=>if h:Ty.same u b=true then some (.val (.pair a b) (x.1,Ty.aE h▸y)) else none
  |some y=>some (.cons (.val a x.1) y)
  |none=>none
 |
  .arr n t,x,.idx i::p,v=>match k8 t (List.getD x i t.aH) p v with
  |
   some y=>match y.de t with
   |some z=>some (.val (.arr n t) (List.set x i z))
   |none=>none
  |none=>none
 |t,_,[],v=>v.MT t
 |_,_,_,_=>none
def AV.set:AV→Path→AV→Option AV
 | .val t x,p,v=>k8 t x p v
 | .cons a b,.d6 0::p,v=>(a.set p v).map fun y=>.cons y b
 | .cons a b,.d6 (k+1)::p,v=>(b.set (.d6 k::p) v).map fun y=>.cons a y
 |_,[],v=>some v
 |_,_,_=>none
theorem RC.de{E:Env}{w:World}:∀{a:AV}{t:Ty}{x:t.den}{vs:List Value},a.de t=some x→RC E w a vs→Rel w E.S t vs x:=by
 intro a
 induction a with
 |
  val u y=>
  intro t x vs h hr
  simp only[AV.de] at h
  split at h
  ·rename_i hs
   have e:=Ty.aE hs
   subst e
   simp at h;subst h;exact hr
  grind
 |
  aM=>
  intro t x vs h hr
  cases t<;>simp[AV.de] at h
  subst h
  exact⟨none,0,by trivial,cV _,by simp,by simp,Or.inl rfl⟩
 |
  ia=>
  intro t x vs h hr
  cases t<;>simp[AV.de] at h
  subst h
  exact⟨none,by trivial,Or.inl ⟨rfl,rfl⟩⟩
 |
  cons a b ih1 ih2=>
  intro t x vs h hr
  cases t with
  |
   pair t u=>
   obtain⟨v1,v2,e,h1,h2⟩:=hr
   simp only[AV.de] at h
   split at h
   ·rename_i y z hy hz
    cases h
    exact⟨v1,v2,e,ih1 hy h1,ih2 hz h2⟩
   grind
  |_=>trivial
 |
  nil=>
  intro t x vs h hr
  cases t<;>simp[AV.de] at h
  exact hr
 |_=>grind [AV.de]
theorem ew.de{E:Env}{w:World}{a:AV}{t:Ty}{x:t.den}{v:Value}(h:a.de t=some x)(hr:ew E w a v):ew E w (.val t x) v:=by
 rcases hr with⟨h1,cs,h2,h3⟩|⟨h1,h2⟩
 ·refine Or.inl ⟨?_,cs,h2,RC.de h h3⟩
  cases a with
  |
   val u y=>
   simp only[AV.de] at h
   split at h
   ·rename_i hs;have e:=Ty.aE hs;subst e;exact h1
   ·cases h
  |cons a b=>cases t<;>simp[AV.de] at h;rfl
  |nil=>cases t<;>simp[AV.de] at h;rfl
  |gU u=>cases t<;>simp[AV.de] at h
  |_=>simp[AV.isAgg] at h1
 ·refine Or.inr ⟨?_,RC.de h h2⟩
  cases a with
  |
   val u y=>
   simp only[AV.de] at h
   split at h
   ·rename_i hs;have e:=Ty.aE hs;subst e;exact h1
   ·cases h
  |aM=>cases t<;>simp[AV.de] at h;rfl
  |ia=>cases t<;>simp[AV.de] at h;rfl
  |cons a b=>simp[AV.isAgg] at h1
  |nil=>simp[AV.isAgg] at h1
  |_=>cases t<;>simp[AV.de] at h
end Go.Ax
namespace Go.Ax
theorem oB{α:Type}(v1 v2:List α)(k n:Nat)(hk:v1.length≤k):((v1++v2).drop k).take n=(v2.drop (k -v1.length)).take n:=by
 rw[List.drop_append,qO hk,jW]
theorem wC{E:Env}{w:World}:∀{t:Ty}{x:t.den}{cs:List Value}{p:Path}{u:AV},Rel w E.S t cs x→t.valid p→jE t x p=some u→
 ∃s,t.sub p=some s∧u.dY s=true∧t.off p+s.size≤cs.length∧RC E w u ((cs.drop (t.off p)).take s.size):=by
 intro t
 induction t with
 |
  pair a b ih1 ih2=>
  intro x cs p u hr hv hg
  cases p with
  |
   nil=>
   simp only[jE,fG] at hg;subst hg
   have hl:=Rel.len hr
   exact⟨_,rfl,Ty.fh _,by simp[Ty.off,hl],by simp only[Ty.off,fN];rw[j6 (by omega)];exact hr⟩
  |
   cons s p=>
   obtain⟨v1,v2,e,h1,h2⟩:=hr
   subst e
   cases s with
   |
    d6 k=>
    cases k with
    |
     zero=>
     obtain⟨s,e1,e2,e3,e4⟩:=ih1 h1 hv hg
     refine⟨s,e1,e2,by grind [Ty.off],?_⟩
     grind [Ty.off]
    |
     succ k=>
     obtain⟨s,e1,e2,e3,e4⟩:=ih2 h2 hv hg
     have hl:=Rel.len h1
     refine⟨s,e1,e2,by grind [Ty.off],?_⟩
     grind [Ty.off,oB,uR]
   |idx i=>trivial
 |
  arr n t ih=>
  intro x cs p u hr hv hg
  cases p with
  |
   nil=>
   simp only[jE,fG] at hg;subst hg
   have hl:=Rel.len hr
   exact⟨_,rfl,Ty.fh _,by simp[Ty.off,hl],by simp only[Ty.off,fN];rw[j6 (by omega)];exact hr⟩
  |
   cons s p=>
   cases s with
   |d6 k=>trivial
   |
    idx i=>
    have hl:=Rel.len hr
    obtain⟨hn,hr⟩:=hr
    obtain⟨hi,hv⟩:=hv
    have hx:i<List.length x:=by grind
    have:=bO.get (fun _ _=>Rel.len) t.aH i hr hx
    obtain⟨s,e1,e2,e3,e4⟩:=ih this hv hg
    have hb:(i+1)*t.size≤n*t.size:=ju _ hi
    rw[iW,Nat.one_mul] at hb
    have hle:t.off p+s.size≤t.size:=by
     grind
    refine⟨s,e1,e2,?_,?_⟩
    ·grind [Ty.off,Ty.size]
    grind [Ty.off,qP,oc]
 |
  int k=>intro x cs p u hr hv hg;cases p with
  |nil=>simp only[jE,fG] at hg;subst hg;have hl:=Rel.len hr;exact⟨_,rfl,Ty.fh _,by simp[Ty.off,hl],by simp only[Ty.off,fN];rw[j6 (by omega)];exact hr⟩
  |cons s p=>trivial
 |
  bool=>intro x cs p u hr hv hg;cases p with
  |nil=>simp only[jE,fG] at hg;subst hg;have hl:=Rel.len hr;exact⟨_,rfl,Ty.fh _,by simp[Ty.off,hl],by simp only[Ty.off,fN];rw[j6 (by omega)];exact hr⟩
  |cons s p=>trivial
 |
  str=>intro x cs p u hr hv hg;cases p with
  |nil=>simp only[jE,fG] at hg;subst hg;have hl:=Rel.len hr;exact⟨_,rfl,Ty.fh _,by simp[Ty.off,hl],by simp only[Ty.off,fN];rw[j6 (by omega)];exact hr⟩
  |cons s p=>trivial
 |
  slice bs t=>intro x cs p u hr hv hg;cases p with
  |nil=>simp only[jE,fG] at hg;subst hg;have hl:=Rel.len hr;exact⟨_,rfl,Ty.fh _,by simp[Ty.off,hl],by simp only[Ty.off,fN];rw[j6 (by omega)];exact hr⟩
  |cons s p=>trivial
 |
  unit=>intro x cs p u hr hv hg;cases p with
  |nil=>simp only[jE,fG] at hg;subst hg;have hl:=Rel.len hr;exact⟨_,rfl,Ty.fh _,by simp[Ty.off,hl],by trivial⟩
  |cons s p=>trivial
 |
  fns n=>intro x cs p u hr hv hg;cases p with
  |nil=>simp only[jE,fG] at hg;subst hg;have hl:=Rel.len hr;exact⟨_,rfl,Ty.fh _,by simp[Ty.off,hl],by simp only[Ty.off,fN];rw[j6 (by omega)];exact hr⟩
  |
   cons s p=>
   cases s with
   |d6 k=>trivial
   |
    idx i=>
    cases p with
    |cons _ _=>trivial
    |
     nil=>
     simp only[jE,fG] at hg
     subst hg
     obtain⟨h1,rfl⟩:=hr
     have hi:i<List.length x:=by rw[h1];exact hv
     refine⟨.aY .func,rfl,?_,by simp[Ty.off,Ty.size];omega,?_⟩
     ·cases(List.getD x i none)<;>rfl
     ·have e:((x.map HQ).drop i).take 1= [HQ (List.getD x i none)]:=by
       grind [iA]
      simp only[Ty.off,Ty.size]
      rw[e]
      cases(List.getD x i none) with
      |none=>rfl
      |some f=>exact⟨#[], #[],rfl,rfl,rfl,rfl,rfl⟩
 |
  map k v=>intro x cs p u hr hv hg;cases p with
  |nil=>simp only[jE,fG] at hg;subst hg;have hl:=Rel.len hr;exact⟨_,rfl,Ty.fh _,by simp[Ty.off,hl],by simp only[Ty.off,fN];rw[j6 (by omega)];exact hr⟩
  |cons s p=>trivial
 |aY k=>intro x cs p u hr hv hg;trivial
theorem AV.jn{E:Env}{w:World}:∀{a:AV}{t:Ty}{cs:List Value}{p:Path}{u:AV},RC E w a cs→a.dY t=true→t.valid p→a.get p=some u→
 ∃s,t.sub p=some s∧u.dY s=true∧t.off p+s.size≤cs.length∧RC E w u ((cs.drop (t.off p)).take s.size):=by
 intro a
 have base:∀{a:AV}{t:Ty}{cs:List Value}{u:AV},RC E w a cs→a.dY t=true→some a=some u→
  ∃s,t.sub []=some s∧u.dY s=true∧t.off []+s.size≤cs.length∧RC E w u ((cs.drop (t.off [])).take s.size):=by
  intro a t cs u hr hc e
  cases e
  have hl:=RC.len hr
  have hs:=AV.hH hc
  have apk:t.sub []=some t:=by cases t<;>rfl
  have hoff:t.off []=0:=by cases t<;>rfl
  grind
 induction a with
 |
  val u x=>
  intro t cs p v hr hc hv hg
  have:=Ty.aE (by trivial);subst this
  exact wC hr hv hg
 |
  cons a b ih1 ih2=>
  intro t cs p u hr hc hv hg
  cases p with
  |nil=>exact base hr hc hg
  |
   cons s p=>
   cases t with
   |
    pair t1 t2=>
    simp only[AV.dY,bP] at hc
    obtain⟨v1,v2,e,h1,h2⟩:=hr
    subst e
    cases s with
    |
     d6 k=>
     cases k with
     |
      zero=>
      obtain⟨s,e1,e2,e3,e4⟩:=ih1 h1 hc.1 hv hg
      refine⟨s,e1,e2,by grind [Ty.off],?_⟩
      grind [Ty.off]
     |
      succ k=>
      obtain⟨s,e1,e2,e3,e4⟩:=ih2 h2 hc.2 hv hg
      have hl:=RC.len h1
      have hs:=AV.hH hc.1
      refine⟨s,e1,e2,by grind [Ty.off],?_⟩
      grind [Ty.off,oB,uR]
    |idx i=>trivial
   |
    fns n=>
    obtain⟨v1,v2,e,h1,h2⟩:=hr
    subst e
    have hc:(AV.cons a b).LD n=true:=hc
    simp only[AV.LD,bP,Nat.blt,Nat.ble_eq] at hc
    obtain⟨⟨c1,c2⟩,c3⟩:=hc
    have hl:v1.length=1:=by rw[RC.len h1];cases a<;>simp[AV.Rz] at c1;rfl
    have hb:=AV.Br c3
    have hl2:=RC.len h2
    match s,p with
    | .d6 _,_=>exact hv.elim
    | .idx _,_::_=>exact hv.elim
    |
     .idx 0,[]=>
     cases hg
     refine⟨.aY .func,rfl,by cases a<;>simp[AV.Rz] at c1;rfl,by simp[Ty.off,Ty.size];omega,?_⟩
     simp only[Ty.off,Ty.size,fN]
     rw[ET (by omega),j6 (by omega)]
     exact h1
    |
     .idx (i+1),[]=>
     have hv:i+1<n:=hv
     have hcb:b.dY (.fns (n -1))=true:=by
      cases b<;>first|exact c3|cases c3
     obtain⟨s,e1,e2,e3,e4⟩:=ih2 h2 hcb (show(Ty.fns (n -1)).valid [.idx i] from(by show i<n -1;omega)) hg
     cases e1
     refine⟨_,rfl,e2,by simp only[Ty.off,Ty.size,cz] at e3 ⊢;omega,?_⟩
     simp only[Ty.off,Ty.size] at e4 ⊢
     rw[oB _ _ _ _ (by omega),hl,Nat.add_sub_cancel]
     exact e4
   |_=>trivial
 |
  _=>
  grind [AV.get]
theorem nj{α:Type}(v1 v2 us:List α)(k n:Nat)(hk:k+n≤v1.length):(v1++v2).take k++us++(v1++v2).drop (k+n)=(v1.take k++us++v1.drop (k+n))++v2:=by
 grind
theorem nk{α:Type}(v1 v2 us:List α)(k n:Nat)(hk:v1.length≤k):(v1++v2).take k++us++(v1++v2).drop (k+n)=v1++(v2.take (k -v1.length)++us++v2.drop (k -v1.length+n)):=by
 rw[List.take_append,j6 hk,List.drop_append,qO (by omega)]
 grind
theorem Rel.cast{w:World}{S:Nat→Prop}{u t:Ty}{x:u.den}{cs:List Value}(h:Ty.same u t=true)(hr:Rel w S u cs x):Rel w S t cs (Ty.aE h▸x):=by
 grind
theorem Bs{E:Env}{w:World}{v:AV}{us:List Value}(hv:RC E w v us):∀{t:Ty}{x:t.den}{cs:List Value}{p:Path}{u:AV},Rel w E.S t cs x→t.valid p→k8 t x p v=some u→
 ∃s,t.sub p=some s∧us.length=s.size∧t.off p+s.size≤cs.length∧RC E w u (cs.take (t.off p)++us++cs.drop (t.off p+s.size)):=by
 intro t
 have base:∀{t:Ty}{x:t.den}{cs:List Value}{u:AV},Rel w E.S t cs x→k8 t x [] v=some u→
  ∃s,t.sub []=some s∧us.length=s.size∧t.off []+s.size≤cs.length∧RC E w u (cs.take (t.off [])++us++cs.drop (t.off []+s.size)):=by
  intro t x cs u hr hs
  have hl:=Rel.len hr
  have apk:t.sub []=some t:=by cases t<;>rfl
  have hoff:t.off []=0:=by cases t<;>rfl
  have key:v.MT t=some u:=by
   cases t<;>simpa only[k8] using hs
  unfold AV.MT at key
  split at key
  ·rename_i hc
   simp only[bP] at hc
   cases key
   have hlu:=RC.len hv
   have:=AV.hH hc.2
   grind
  split at key
  ·rename_i y hy
   cases key
   have:=RC.de hy hv
   have hlu:=Rel.len this
   exact⟨t,apk,hlu,by omega,by rw[hoff,ek,List.take_zero,jW,qO (by omega),cw];trivial⟩
  ·split at key
   ·rename_i hc
    cases key
    have hlu:=RC.len hv
    have:=AV.hH hc
    grind
   grind
 induction t with
 |
  pair a b ih1 ih2=>
  intro x cs p u hr hva hs
  cases p with
  |nil=>grind
  |
   cons s p=>
   obtain⟨v1,v2,e,h1,h2⟩:=hr
   subst e
   have hl:=Rel.len h1
   cases s with
   |
    d6 k=>
    cases k with
    |
     zero=>
     simp only[k8] at hs
     split at hs
     ·rename_i ty y hy
      split at hs
      ·rename_i hsame
       cases hs
       obtain⟨s,e1,e2,e3,e4⟩:=ih1 h1 hva hy
       refine⟨s,e1,e2,by grind [Ty.off],?_⟩
       simp only[Ty.off]
       rw[nj _ _ _ _ _ e3]
       exact⟨_,v2,rfl,Rel.cast hsame e4,h2⟩
      grind
     ·rename_i y _ hy
      cases hs
      obtain⟨s,e1,e2,e3,e4⟩:=ih1 h1 hva hy
      refine⟨s,e1,e2,by grind [Ty.off],?_⟩
      simp only[Ty.off]
      rw[nj _ _ _ _ _ e3]
      exact⟨_,v2,rfl,e4,h2⟩
     grind
    |
     succ k=>
     simp only[k8] at hs
     split at hs
     ·rename_i ty y hy
      split at hs
      ·rename_i hsame
       cases hs
       obtain⟨s,e1,e2,e3,e4⟩:=ih2 h2 hva hy
       refine⟨s,e1,e2,by grind [Ty.off],?_⟩
       simp only[Ty.off]
       rw[nk _ _ _ _ _ (by omega),hl,uR]
       exact⟨v1,_,rfl,h1,Rel.cast hsame e4⟩
      grind
     ·rename_i y _ hy
      cases hs
      obtain⟨s,e1,e2,e3,e4⟩:=ih2 h2 hva hy
      refine⟨s,e1,e2,by grind [Ty.off],?_⟩
      simp only[Ty.off]
      rw[nk _ _ _ _ _ (by omega),hl,uR]
      exact⟨v1,_,rfl,h1,e4⟩
     grind
   |idx i=>trivial
 |
  arr n t ih=>
  intro x cs p u hr hva hs
  cases p with
  |nil=>grind
  |
   cons s p=>
   cases s with
   |d6 k=>trivial
   |
    idx i=>
    have hl:=Rel.len hr
    obtain⟨hn,hr⟩:=hr
    obtain⟨hi,hva⟩:=hva
    have hx:i<List.length x:=by grind
    have hg:=bO.get (fun _ _=>Rel.len) t.aH i hr hx
    simp only[k8] at hs
    split at hs
    ·rename_i y hy
     split at hs
     ·rename_i z hz
      cases hs
      obtain⟨s,e1,e2,e3,e4⟩:=ih hg hva hy
      have hb:(i+1)*t.size≤n*t.size:=ju _ hi
      rw[iW,Nat.one_mul] at hb
      have hle:t.off p+s.size≤t.size:=by
       grind
      have bJ:=bO.set (r:=Rel w E.S t) (n:=t.size) (fun _ _ h=>Rel.len h) (us:=_) (y:=z) (RC.de hz e4) i hr hx
      refine⟨s,e1,e2,?_,?_⟩
      ·grind [Ty.off,Ty.size]
      ·simp only[Ty.off]
       refine⟨by simp[hn],?_⟩
       have key:cs.take (i*t.size)++(((cs.drop (i*t.size)).take t.size).take (t.off p)++us++((cs.drop (i*t.size)).take t.size).drop (t.off p+s.size))++cs.drop (i*t.size+t.size)
        =cs.take (i*t.size+t.off p)++us++cs.drop (i*t.size+t.off p+s.size):=by
        rw[tB,rG (by omega),qP,oc]
        have a1:cs.take (i*t.size+t.off p)=cs.take (i*t.size)++(cs.drop (i*t.size)).take (t.off p):=by
         rw[List.take_add]
        have a2:cs.drop (i*t.size+t.off p+s.size)=(cs.drop (i*t.size+(t.off p+s.size))).take (t.size -(t.off p+s.size))++cs.drop (i*t.size+t.size):=by
         have:=oL (t.size -(t.off p+s.size)) (cs.drop (i*t.size+(t.off p+s.size)))
         rw[oc] at this
         rw[show i*t.size+(t.off p+s.size)+(t.size -(t.off p+s.size))=i*t.size+t.size from by omega] at this
         grind
        grind
       grind
     grind
    grind
 |int k=>grind [Ty.valid]
 |bool=>grind [Ty.valid]
 |str=>grind [Ty.valid]
 |slice bs t=>grind [Ty.valid]
 |unit=>grind [Ty.valid]
 |fns n=>grind [k8]
 |map k v=>grind [Ty.valid]
 |aY k=>intro x cs p u hr;trivial
theorem AV.pD{E:Env}{w:World}{v:AV}{us:List Value}(hv:RC E w v us):∀{a:AV}{t:Ty}{cs:List Value}{p:Path}{u:AV},RC E w a cs→a.dY t=true→t.valid p→(∀s,t.sub p=some s→us.length=s.size)→a.set p v=some u→
 ∃s,t.sub p=some s∧us.length=s.size∧t.off p+s.size≤cs.length∧RC E w u (cs.take (t.off p)++us++cs.drop (t.off p+s.size)):=by
 intro a
 have base:∀{a:AV}{t:Ty}{cs:List Value}{u:AV},RC E w a cs→a.dY t=true→(∀s,t.sub []=some s→us.length=s.size)→some v=some u→
  ∃s,t.sub []=some s∧us.length=s.size∧t.off []+s.size≤cs.length∧RC E w u (cs.take (t.off [])++us++cs.drop (t.off []+s.size)):=by
  intro a t cs u hr hc hlen e
  cases e
  have hl:=RC.len hr
  have hs:=AV.hH hc
  have apk:t.sub []=some t:=by cases t<;>rfl
  have hoff:t.off []=0:=by cases t<;>rfl
  grind
 induction a with
 |
  val u x=>
  intro t cs p y hr hc hva _ hs
  have:=Ty.aE (by trivial);subst this
  exact Bs hv hr hva hs
 |
  cons a b ih1 ih2=>
  intro t cs p u hr hc hva hlen hs
  cases p with
  |nil=>exact base hr hc hlen hs
  |
   cons s p=>
   cases t with
   |
    pair t1 t2=>
    simp only[AV.dY,bP] at hc
    obtain⟨v1,v2,e,h1,h2⟩:=hr
    subst e
    have hl:=RC.len h1
    have hsz:=AV.hH hc.1
    cases s with
    |
     d6 k=>
     cases k with
     |
      zero=>
      simp only[AV.set,jz] at hs
      obtain⟨y,hy,e⟩:=hs
      subst e
      obtain⟨s,e1,e2,e3,e4⟩:=ih1 h1 hc.1 hva hlen hy
      refine⟨s,e1,e2,by grind [Ty.off],?_⟩
      simp only[Ty.off]
      rw[nj _ _ _ _ _ e3]
      exact⟨_,v2,rfl,e4,h2⟩
     |
      succ k=>
      simp only[AV.set,jz] at hs
      obtain⟨y,hy,e⟩:=hs
      subst e
      obtain⟨s,e1,e2,e3,e4⟩:=ih2 h2 hc.2 hva hlen hy
      refine⟨s,e1,e2,by grind [Ty.off],?_⟩
      simp only[Ty.off]
      rw[nk _ _ _ _ _ (by omega),hl,hsz,uR]
      exact⟨v1,_,rfl,h1,e4⟩
    |idx i=>trivial
   |
    fns n=>cases s with
    |d6 k=>exact hva.elim
    |idx i=>cases hs
   |_=>trivial
 |
  _=>
  grind [AV.set]
end Go.Ax
namespace Go.Ax
structure LJ where
 g:Nat
 t:Ty
 x:t.den
structure Ctx where
 gl:List LJ
 B:(Nat→Prop)→World→Prop
 mono:∀{S S':Nat→Prop}{w w':World},(∀b,S b→w'.heap[b]? =w.heap[b]?)→(∀b,S b→S' b)→B S w→B S' w'
 ro:Option Nat
 md:Prop
def Ctx.of(l:List LJ):Ctx:=⟨l,fun _ _=>True,fun _ _ _=>trivial,none,False⟩
abbrev Wd(gl:Ctx):Fence:={fn:=fun _=>True,depth:=none,alive:=false,round:=gl.ro}
structure St where
 tm:List AV
 hp:List (Option aX)
 df:List AV
def aX.ids:aX→List Nat
 | .var _ v=>v.ids
 | .tv _ _ v=>v.ids
 | .dB _ _ _ _ _ v=>v.ids
 | .eW _ _ _ _ _ (some (_,v))=>v.ids
 | .pmap _ _ _ _ (some (_,v,_))=>v.ids
 | .j8 _ _ _ _ _ v _=>v.ids
 | .k7 _ l=>l.flatMap fun x=>x.2.ids
 |_=>[]
def aX.V7:aX→Bool
 | .eW .. | .pmap .. | .j8 .. =>true
 |_=>false
def RM(E:Env)(w:World)(k v:Ty):List MapEntry→List (k.den×v.den)→Prop
 |[],[]=>True
 |e::es,x::xs=>ew E w (.val k x.1) e.key∧ew E w (.val v x.2) e.val∧RM E w k v es xs
 |_,_=>False
theorem RM.of{E:Env}{w:World}{kt vt:Ty}:∀{en:List MapEntry}{es:List (kt.den×vt.den)},nT (lB kt.isAgg (Rel w E.S kt)) (lB vt.isAgg (Rel w E.S vt)) en es→RM E w kt vt en es
 |[],[],_=>trivial
 |[],_::_,h=>h.elim
 |_::_,[],h=>h.elim
 |_::_,_::_,⟨h1,h2,h3⟩=>⟨h1,h2,RM.of h3⟩
theorem RM.to{E:Env}{w:World}{kt vt:Ty}:∀{en:List MapEntry}{es:List (kt.den×vt.den)},RM E w kt vt en es→nT (lB kt.isAgg (Rel w E.S kt)) (lB vt.isAgg (Rel w E.S vt)) en es
 |[],[],_=>trivial
 |[],_::_,h=>h.elim
 |_::_,[],h=>h.elim
 |_::_,_::_,⟨h1,h2,h3⟩=>⟨h1,h2,RM.to h3⟩
def rH(i n:Nat)(t:Ty):Ty:=.pair (.arr i t) (.pair t (.pair (.arr (n -i -1) t) .unit))
def Uy(w:World)(S:Nat→Prop)(e:TypeId)(bs:Nat)(t:Ty)(v:Value)(og:Option Nat)(xs:List t.den):Prop:=
 xs.length*bs≤aF∧xs.length≤aF∧0<t.size∧∃a cap,v= .slice a xs.length cap∧cap≤maxLen∧
  (
   ((cap=0∧a=none)∧og=none∧xs= [])∨
   (∃g c,og=some g∧a=some ⟨g,0,none⟩∧w.heap[g]? =some (.cells c e (0,0))∧c.size=cap*t.size∧xs.length≤cap∧bO (Rel w S t) (c.toList.take (xs.length*t.size)) xs))
def aad(w:World)(S:Nat→Prop)(k v:Ty)(u:Value)(og:Option Nat)(es:List (k.den×v.den)):Prop:=
 (es.map (·.1)).Nodup∧es.length≤aF∧∃g en clock,og=some g∧u= .map (some g)∧w.heap[g]? =some (.map en clock)∧
  nT (lB k.isAgg (Rel w S k)) (lB v.isAgg (Rel w S v)) en.toList es∧(∀x∈en.toList,x.born<clock)∧(en.toList.map (·.born)).Nodup
def fq(w:World)(S:Nat→Prop)(e:TypeId):(t:Ty)→Value→Option Nat→t.den→Prop
 | .slice bs t,v,og,xs=>Uy w S e bs t v og xs
 | .map k v,u,og,x=>∃es,x=some es∧aad w S k v u og es
 |_,_,_,_=>False
def zeroV:Ty→Value
 | .map _ _=>.map none
 |_=>.slice none 0 0
structure MU(P:Nat→Prop)(g:Nat)(og:Nat→Option Nat):Prop where
 own:∀i u,og i=some u→P u∧u≠g
 inj:∀i j u,og i=some u→og j=some u→i=j
theorem MU.mono{P P':Nat→Prop}{g:Nat}{og:Nat→Option Nat}(h:MU P g og)(hP:∀u,P u→P' u):MU P' g og:=
 ⟨fun i u e=>⟨hP u (h.own i u e).1,(h.own i u e).2⟩,h.inj⟩
def zh(n:Nat)(t:Ty):Option (Nat×AV)→Ty
 |none=>.arr n t
 |some (i,_)=>rH i n t
theorem fq.mono{w w':World}{S S':Nat→Prop}{e:TypeId}(hw:∀b,S b→w'.heap[b]? =w.heap[b]?)(hS:∀b,S b→S' b):∀{t:Ty}{v:Value}{og:Option Nat}{x:t.den},(∀g,og=some g→w'.heap[g]? =w.heap[g]?)→fq w S e t v og x→fq w' S' e t v og x:=by
 intro t v og x ho h
 cases t with
 |
  slice bs t=>
  obtain⟨h1,h2,h3,a,cap,h4,h5,h6⟩:=h
  refine⟨h1,h2,h3,a,cap,h4,h5,h6.imp id ?_⟩
  grind [bO.mono,Rel.mono]
 |
  map k u=>
  obtain⟨es,h0,h1,h2,g,en,clock,h3,h4,h5,h6,h7⟩:=h
  exact⟨es,h0,h1,h2,g,en,clock,h3,h4,by grind,nT.mono (fun _ _=>lB.mono (fun _ _=>Rel.mono hw hS)) (fun _ _=>lB.mono (fun _ _=>Rel.mono hw hS)) h6,h7⟩
 |_=>trivial
def od(es:Array MapEntry)(seen:Array Nat):Array MapEntry:=es.filter fun e=> !seen.contains e.born
def PM(E:Env)(w:World)(b:Nat)(k t:Ty)(es:List (k.den×t.den))(e2:TypeId)(f:Option (k.den×AV×Bool)):Prop:=
 (es.map (·.1)).Nodup∧es.length≤aF∧(∀kx v pr,f=some (kx,v,pr)→v.dY t=true)∧∃g en clock og,E.g b=some g∧w.heap[g]? =some (.map en clock)∧(∀x∈en.toList,x.born<clock)∧(en.toList.map (·.born)).Nodup∧MU (E.P b) g og∧en.size=es.length∧
  (∀i x,es[i]? =some x→∃m,en[i]? =some m∧ew E w (.val k x.1) m.key∧(∀v pr,f=some (x.1,v,pr)→og i=none∧RC E w v [m.val])∧((∀v pr,f≠some (x.1,v,pr))→fq w E.S e2 t m.val (og i) x.2))∧
  ∀kx v,(f=some (kx,v,false)→kx∉es.map (·.1)→RC E w v [zeroV t])∧(f=some (kx,v,true)→kx∈es.map (·.1))
def RF(E:Env)(w:World)(k:Ty):List MapEntry→List (k.den×AV)→Prop
 |[],[]=>True
 |e::es,x::xs=>ew E w (.val k x.1) e.key∧RC E w x.2 [e.val]∧x.2.isAgg=false∧RF E w k es xs
 |_,_=>False
def RB(
 E:Env) (w:World) (b:Nat):aX→Prop
 | .qX k v rest cur=>∃g om since seen c0,E.g b=some g∧w.heap[g]? =some (.mapIter om since seen c0)∧((om=none∧rest= []∧cur=none)∨
  ∃bm en,om=some bm∧E.S bm∧w.heap[bm]? =some (.map en c0)∧since=c0∧(∀x∈en.toList,x.born<c0)∧(en.toList.map (·.born)).Nodup∧RM E w k v (od en seen).toList rest∧
   ∀x,cur=some x→∃e s0,seen=Array.push s0 e.born∧e∈en.toList∧ew E w (.val k x.1) e.key∧ew E w (.val v x.2) e.val)
 | .eW e bs t xs e2 f=>E.bt b=zh xs.length t f∧t.size=1∧xs.length*bs≤aF∧xs.length≤aF∧(∀i v,f=some (i,v)→i<xs.length∧v.dY t=true)∧∃g cap c og,E.sv b= .slice (some ⟨g,0,none⟩) xs.length cap∧cap≤maxLen∧E.g b=some g∧
  w.heap[g]? =some (.cells c e (0,0))∧c.size=cap∧xs.length≤cap∧MU (E.P b) g og∧
  ∀i x,xs[i]? =some x→∃u,c[i]? =some u∧(∀v,f=some (i,v)→og i=none∧RC E w v [u])∧((∀v,f≠some (i,v))→fq w E.S e2 t u (og i) x)
 | .pmap k t es e2 f=>PM E w b k t es e2 f
 | .j8 k t es e2 kx v pr=>PM E w b k t es e2 (some (kx,v,pr))∧∃(n:Nat)(g:Nat)(en:Array MapEntry)(clock:Nat),E.sv b= .int .i64 n∧E.g b=some g∧w.heap[g]? =some (.map en clock)∧(kx∉es.map (·.1)→n=clock)∧
  ∀(i:Nat)(m:MapEntry)(y:t.den),es[i]? =some (kx,y)→en[i]? =some m→m.born=n
 | .k7 k l=>(l.map (·.1)).Nodup∧l.length≤aF∧∃g en clock,E.g b=some g∧w.heap[g]? =some (.map en clock)∧RF E w k en.toList l
 | .var t v=>E.bt b=t∧v.dY t=true∧∃g c e,E.g b=some g∧w.heap[g]? =some (.cells c e (0,0))∧RC E w v c.toList
 | .row e bs t xs=>E.bt b= .arr xs.length t∧xs.length*bs≤aF∧xs.length≤aF∧0<t.size∧∃a cap,E.sv b= .slice a xs.length cap∧cap≤maxLen∧
  (
   ((cap=0∧a=none)∧E.g b=none∧xs= [])∨
   (∃g c,E.g b=some g∧a=some ⟨g,0,none⟩∧w.heap[g]? =some (.cells c e (0,0))∧c.size=cap*t.size∧xs.length≤cap∧bO (Rel w E.S t) (c.toList.take (xs.length*t.size)) xs))
 | .map k v es=>(es.map (·.1)).Nodup∧es.length≤aF∧∃g en clock,E.g b=some g∧w.heap[g]? =some (.map en clock)∧RM E w k v en.toList es∧(∀x∈en.toList,x.born<clock)∧(en.toList.map (·.born)).Nodup
 | .lp y j=>E.g b=some y.l∧w.heap[y.l]? =some (.loop (y.rc j))
 | .AZ=>∃g,E.g b=some g∧w.heap[g]? =some (.deferred (some []))
 | .tv g t v=>E.g b=some g∧E.bt b=t∧v.dY t=true∧∃c e,w.heap[g]? =some (.cells c e (0,0))∧RC E w v c.toList
 | .dB e bs t xs i v=>E.bt b=rH i xs.length t∧i<xs.length∧xs.length*bs≤aF∧xs.length≤aF∧0<t.size∧v.dY t=true∧∃g cap c,E.sv b= .slice (some ⟨g,0,none⟩) xs.length cap∧cap≤maxLen∧E.g b=some g∧
  w.heap[g]? =some (.cells c e (0,0))∧c.size=cap*t.size∧xs.length≤cap∧bO (Rel w E.S t) (c.toList.take (i*t.size)) (xs.take i)∧RC E w v ((c.toList.drop (i*t.size)).take t.size)∧
  bO (Rel w E.S t) ((c.toList.drop ((i+1)*t.size)).take ((xs.length -(i+1))*t.size)) (xs.drop (i+1))
def EU(gl:Ctx)(E:Env)(w:World):Prop:=(∀x∈gl.gl,E.S x.g∧∃cs,tX w ⟨x.g,0,none⟩ cs∧Rel w E.S x.t cs x.x)∧gl.B E.S w
structure HW(gl:Ctx)(E:Env)(w:World)(hp:List (Option aX)):Prop where
 eJ:∀b k,hp[b]? =some (some k)→RB E w b k
 gY:∀b b' k k' g,hp[b]? =some (some k)→hp[b']? =some (some k')→E.has b g→E.has b' g→b=b'
 fZ:∀b k g,hp[b]? =some (some k)→E.has b g→¬E.S g
 slt:∀g,E.S g→g<w.heap.size
 gl:EU gl E w
 xi:∀b k g,hp[b]? =some (some k)→E.P b g→g<w.heap.size
theorem HW.sep{gl:Ctx}{E:Env}{w:World}{hp:List (Option aX)}(h:HW gl E w hp)(b b':Nat)(k k':aX)(g:Nat)(h1:hp[b]? =some (some k))(h2:hp[b']? =some (some k'))(h3:E.g b=some g)(h4:E.g b'=some g):b=b':=h.gY b b' k k' g h1 h2 (Or.inl h3) (Or.inl h4)
theorem HW.oM{gl:Ctx}{E:Env}{w:World}{hp:List (Option aX)}(h:HW gl E w hp)(b:Nat)(k:aX)(g:Nat)(h1:hp[b]? =some (some k))(h3:E.g b=some g):¬E.S g:=h.fZ b k g h1 (Or.inl h3)
def cU(hp:List (Option aX))(E:Env)(g:Nat):Prop:=∃b k,hp[b]? =some (some k)∧E.has b g
def Tp(md:Prop)(w w':World):Prop:=w'.tape=w.tape∧(md→w.drawn≤w'.drawn)
theorem Tp.r{md:Prop}{w w':World}(h:w'.tape=w.tape)(k:w'.drawn=w.drawn):Tp md w w':=⟨h,fun _=>Nat.le_of_eq k.symm⟩
theorem Tp.s{md:Prop}{w w':World}(h:w'.tape=w.tape)(k:w'.drawn=w.drawn+1):Tp md w w':=⟨h,fun _=>k▸Nat.le_succ _⟩
theorem Tp.trans{md:Prop}{w v u:World}(h:Tp md w v)(k:Tp md v u):Tp md w u:=⟨k.1.trans h.1,fun m=>cW (h.2 m) (k.2 m)⟩
structure Ext(md:Prop)(O:Nat→Prop)(E:Env)(w:World)(O':Nat→Prop)(E':Env)(w':World):Prop where
 os:w'.os=w.os
 tape:Tp md w w'
 output:w'.output=w.output
 size:w.heap.size≤w'.heap.size
 kept:∀g,g<w.heap.size→¬O g→w'.heap[g]? =w.heap[g]?
 sle:∀g,E.S g→E'.S g
 rI:∀g,E'.S g→E.S g∨O g∨w.heap.size≤g
 own:∀g,O' g→O g∨w.heap.size≤g
 LK:∀b,b<16→E'.g b=E.g b∧E'.sv b=E.sv b∧E'.bt b=E.bt b
theorem Ext.refl{md:Prop}(O:Nat→Prop)(E:Env)(w:World):Ext md O E w O E w:=
 ⟨rfl,Tp.r rfl rfl,rfl,cV _,fun _ _ _=>rfl,fun _ h=>h,fun _ h=>Or.inl h,fun _ h=>Or.inl h,fun _ _=>⟨rfl,rfl,rfl⟩⟩
theorem Ext.trans{md:Prop}{O O1 O2:Nat→Prop}{E E1 E2:Env}{w w1 w2:World}(h:Ext md O E w O1 E1 w1)(k:Ext md O1 E1 w1 O2 E2 w2):Ext md O E w O2 E2 w2 where
 os:=k.os.trans h.os
 tape:=h.tape.trans k.tape
 output:=k.output.trans h.output
 size:=cW h.size k.size
 kept:=fun g hg ho=>by
  rw[k.kept g (Nat.lt_of_lt_of_le hg h.size) (fun h1=>(h.own g h1).elim ho (fun h2=>by omega)),h.kept g hg ho]
 sle:=fun g hg=>k.sle g (h.sle g hg)
 rI:=fun g hg=>by
  rcases k.rI g hg with h1|h1|h1
  ·exact h.rI g h1
  ·exact(h.own g h1).elim (fun x=>Or.inr (Or.inl x)) (fun x=>Or.inr (Or.inr x))
  ·exact Or.inr (Or.inr (cW h.size h1))
 own:=fun g hg=>by
  rcases k.own g hg with h1|h1
  ·exact h.own g h1
  ·exact Or.inr (cW h.size h1)
 LK:=fun b hb=>⟨(k.LK b hb).1.trans (h.LK b hb).1,(k.LK b hb).2.1.trans (h.LK b hb).2.1,(k.LK b hb).2.2.trans (h.LK b hb).2.2⟩
def RD(E:Env)(w:World):List AV→List Deferred→Prop
 |[],[]=>True
 | .mp b::l,d::ds=>(∃g,E.g b=some g∧d={target:=.collected g,args:= #[]})∧RD E w l ds
 | .func fn fs cs::l,d::ds=>(∃f c,d={target:=.fn fn c,args:=f}∧RC E w fs f.toList∧RC E w cs c.toList∧fs.atoms=true∧cs.atoms=true)∧RD E w l ds
 |_,_=>False
theorem RD.mono{E E':Env}{w w':World}(k:di E w E' w'):∀{l:List AV}{ds:List Deferred},(∀a∈l,E.on E' a.ids)→RD E w l ds→RD E' w' l ds
 |[],[],_,_=>trivial
 |[],_::_,_,h=>h.elim
 |a::l,[],_,h=>by cases a<;>exact h.elim
 |
  a::l,d::ds,ho,h=>by
  cases a with
  |
   func fn fs cs=>
   obtain⟨⟨f,c,e,h1,h2,h3,h4⟩,h5⟩:=h
   have:=ho _ (dx ..)
   exact⟨⟨f,c,e,RC.mono k this.left h1,RC.mono k this.right h2,h3,h4⟩,RD.mono k (fun a ha=>ho a (dH _ ha)) h5⟩
  |
   mp b=>
   obtain⟨⟨g,e1,e2⟩,h5⟩:=h
   have:=ho _ (dx ..) b (by simp[AV.ids])
   exact⟨⟨g,by rw[this.1];exact e1,e2⟩,RD.mono k (fun a ha=>ho a (dH _ ha)) h5⟩
  |_=>exact h.elim
structure dE(gl:Ctx)(σ:St)(E:Env)(a:Act)(w:World):Prop where
 len:a.tmps.size=σ.tm.length
 tm:∀(i:Nat)(x:AV),σ.tm[i]? =some x→∀v,a.tmps[i]? =some v→RV E w x v
 hw:HW gl E w σ.hp
 df:RD E w σ.df a.defers
theorem HW.kept{gl:Ctx}{E E':Env}{w w':World}{hp:List (Option aX)}{O':Nat→Prop}(h:HW gl E w hp)(x:Ext gl.md (cU hp E) E w O' E' w'):di E w E' w' where
 w:=fun b hb=>x.kept b (h.slt b hb) (fun⟨c,k,hc,hg⟩=>h.fZ c k b hc hg hb)
 S:=x.sle
theorem RM.mono{E E':Env}{w w':World}(k:di E w E' w'){kt vt:Ty}:∀{l:List MapEntry}{xs:List (kt.den×vt.den)},RM E w kt vt l xs→RM E' w' kt vt l xs
 |[],[],_=>trivial
 |[],_::_,h=>h.elim
 |_::_,[],h=>h.elim
 |e::l,x::xs,h=>⟨ew.mono k (fun b hb=>by cases hb) h.1,ew.mono k (fun b hb=>by cases hb) h.2.1,RM.mono k h.2.2⟩
theorem PM.mono{E E':Env}{w w':World}{b:Nat}{kt t:Ty}{es:List (kt.den×t.den)}{e2':TypeId}{f:Option (kt.den×AV×Bool)}(kp:di E w E' w')(ho':E.on E' (aX.pmap kt t es e2' f).ids)(hkA:∀g,E.has b g→w'.heap[g]? =w.heap[g]?)(e1:E'.g b=E.g b)(hP:∀g,E.P b g→E'.P b g)(h:PM E w b kt t es e2' f):PM E' w' b kt t es e2' f:=by
 have hk:∀g,E.g b=some g→w'.heap[g]? =w.heap[g]? :=fun g h=>hkA g (Or.inl h)
 obtain⟨h1,h2,h3,g,en,clock,og,q1,q2,q3,q4,q5,q6,q7,q8⟩:=h
 refine⟨h1,h2,h3,g,en,clock,og,by grind,by grind,q3,q4,q5.mono hP,q6,fun i x hx=>?_,fun kx v=>⟨fun hf hn=>?_,(q8 kx v).2⟩⟩
 ·obtain⟨m,r1,r2,r3,r4⟩:=q7 i x hx
  refine⟨m,r1,ew.mono kp (fun _ hb=>by cases hb) r2,fun v pr hv=>⟨(r3 v pr hv).1,?_⟩,fun hv=>fq.mono kp.w kp.S (fun gg hgg=>hkA gg (Or.inr (q5.own i gg hgg).1)) (r4 hv)⟩
  subst hv
  exact RC.mono kp ho' (r3 v pr rfl).2
 ·subst hf
  exact RC.mono kp ho' ((q8 kx v).1 rfl hn)
theorem RF.mono{E E':Env}{w w':World}(k:di E w E' w'){kt:Ty}:∀{l:List MapEntry}{xs:List (kt.den×AV)},E.on E' (xs.flatMap fun x=>x.2.ids)→RF E w kt l xs→RF E' w' kt l xs
 |[],[],_,_=>trivial
 |[],_::_,_,h=>h.elim
 |_::_,[],_,h=>h.elim
 |e::l,x::xs,ho,h=>⟨ew.mono k (fun b hb=>by cases hb) h.1,RC.mono k (Env.on.left (by trivial)) h.2.1,h.2.2.1,RF.mono k (Env.on.right (a:=x.2.ids) (by grind)) h.2.2.2⟩
theorem RB.mono{E E':Env}{w w':World}{b:Nat}{k:aX}(kp:di E w E' w')(ho:E.on E' (b::k.ids))(hk:∀g,E.has b g→w'.heap[g]? =w.heap[g]?)(hP:k.V7=true→∀g,E.P b g→E'.P b g)(h:RB E w b k):RB E' w' b k:=by
 have hkA:=hk
 have hk:∀g,E.g b=some g→w'.heap[g]? =w.heap[g]? :=fun g h=>hk g (Or.inl h)
 obtain⟨e1,e2,e3⟩:=ho b (dx ..)
 have ho':E.on E' k.ids:=fun x hx=>ho x (dH _ hx)
 cases k with
 |
  var t v=>
  obtain⟨h1,h2,g,c,e,h3,h4,h5⟩:=h
  exact⟨by grind,h2,g,c,e,by grind,by grind,RC.mono kp ho' h5⟩
 |
  row e bs t xs=>
  obtain⟨h1,h2,h3,h4,a,cap,h5,h6,h7⟩:=h
  refine⟨by grind,h2,h3,h4,a,cap,by grind,h6,?_⟩
  rcases h7 with⟨h7,h8,h9⟩|⟨g,c,h7,h8,h9,h10,h11,h12⟩
  ·grind
  ·exact Or.inr ⟨g,c,by grind,h8,by grind,h10,h11,bO.mono (fun _ _=>Rel.mono kp.w kp.S) h12⟩
 |
  map kt vt es=>
  obtain⟨h1,h1',g,en,clock,h2,h3,h4,h5,h6⟩:=h
  exact⟨h1,h1',g,en,clock,by grind,by grind,RM.mono kp h4,h5,h6⟩
 |
  qX k v rest cur=>
  obtain⟨g,om,since,seen,c0,q1,q2,q3⟩:=h
  refine⟨g,om,since,seen,c0,by grind,by grind,q3.imp id ?_⟩
  rintro⟨bm,en,r1,r2,r3,r4,r5,r6,r7,r8⟩
  refine⟨bm,en,r1,kp.S bm r2,by rw[kp.w bm r2];exact r3,r4,r5,r6,RM.mono kp r7,fun x hx=>?_⟩
  obtain⟨e,s0,t1,t2,t3,t4⟩:=r8 x hx
  exact⟨e,s0,t1,t2,ew.mono kp (fun _ hb=>by cases hb) t3,ew.mono kp (fun _ hb=>by cases hb) t4⟩
 |
  eW e bs t xs e2' f=>
  obtain⟨h1,h2,h3,h4,h5,g,cap,c,og,q1,q2,q3,q4,q5,q6,q7,q8⟩:=h
  refine⟨by grind,h2,h3,h4,h5,g,cap,c,og,by grind,q2,by grind,by grind,q5,q6,q7.mono (hP rfl),fun i x hx=>?_⟩
  obtain⟨u,r1,r2,r3⟩:=q8 i x hx
  refine⟨u,r1,fun v hv=>⟨(r2 v hv).1,?_⟩,fun hv=>fq.mono kp.w kp.S (fun gg hgg=>hkA gg (Or.inr (q7.own i gg hgg).1)) (r3 hv)⟩
  subst hv
  exact RC.mono kp ho' (r2 v rfl).2
 |pmap kt t es e2' f=>exact PM.mono kp (by grind) hkA e1 (hP rfl) h
 |
  j8 kt t es e2' kx v pr=>
  obtain⟨h1,n,g,en,clock,q1,q2,q3,q4,q5⟩:=h
  exact⟨PM.mono kp ho' hkA e1 (hP rfl) h1,n,g,en,clock,by grind,by grind,by grind,q4,q5⟩
 |
  k7 kt l=>
  obtain⟨h1,h2,g,en,clock,q1,q2,q3⟩:=h
  exact⟨h1,h2,g,en,clock,by grind,by grind,RF.mono kp ho' q3⟩
 |lp l r=>exact⟨by rw[e1];exact h.1,by rw[hk l.l h.1];exact h.2⟩
 |AZ=>obtain⟨g,h1,h2⟩:=h;exact⟨g,by grind,by grind⟩
 |
  tv g t v=>
  obtain⟨h0,h1,h2,c,e,h4,h5⟩:=h
  exact⟨by grind,by grind,h2,c,e,by grind,RC.mono kp ho' h5⟩
 |
  dB e bs t xs i v=>
  obtain⟨h1,h2,h3,h4,h5,h6,g,cap,c,q1,q2,q3,q4,q5,q6,q7,q8,q9⟩:=h
  exact⟨by grind,h2,h3,h4,h5,h6,g,cap,c,by grind,q2,by grind,by grind,q5,q6,bO.mono (fun _ _=>Rel.mono kp.w kp.S) q7,RC.mono kp ho' q8,bO.mono (fun _ _=>Rel.mono kp.w kp.S) q9⟩
def St.put(σ:St)(dst:Option Nat)(x:AV):St:=
 match dst with
 |some d=>{σ with tm:=σ.tm.set d x}
 |none=>σ
def St.eJ(σ:St)(b:Nat)(k:Option aX):St:={σ with hp:=σ.hp.set b k}
theorem dE.put{gl:Ctx}{σ:St}{E:Env}{a:Act}{w:World}(h:dE gl σ E a w)(dst:Option Nat){x:AV}{v:Value}(hv:RV E w x v):dE gl (σ.put dst x) E (a.put dst v) w:=by
 cases dst with
 |none=>exact h
 |
  some d=>
  refine⟨by simp[Act.put,St.put,h.len],?_,h.hw,h.df⟩
  intro i y hi u hu
  simp only[St.put,fY] at hi
  simp only[Act.put,Array.getElem?_setIfInBounds] at hu
  by_cases e:d=i
  ·grind
  ·simp only[e,dc] at hi hu
   exact h.tm i y hi u hu
def St.ids(σ:St):List Nat:=σ.tm.flatMap AV.ids++σ.df.flatMap AV.ids++(σ.hp.filterMap id).flatMap aX.ids
theorem St.HR{σ:St}{i:Nat}{x:AV}(h:σ.tm[i]? =some x):∀b∈x.ids,b∈σ.ids:=fun b hb=>by
 simp only[St.ids,j5,List.mem_flatMap]
 grind
theorem St.MV{σ:St}{x:AV}(h:x∈σ.df):∀b∈x.ids,b∈σ.ids:=fun b hb=>by
 grind [St.ids]
theorem St.CZ{σ:St}{i:Nat}{k:aX}(h:σ.hp[i]? =some (some k)):∀b∈k.ids,b∈σ.ids:=fun b hb=>by
 simp only[St.ids,j5,List.mem_flatMap]
 exact Or.inr ⟨k,List.mem_filterMap.2 ⟨some k,n8 h,rfl⟩,hb⟩
theorem dE.carry{gl:Ctx}{σ:St}{E E':Env}{a:Act}{w w':World}(h:dE gl σ E a w)(k:di E w E' w')(ho:E.on E' σ.ids){hp:List (Option aX)}(hw:HW gl E' w' hp):dE gl {σ with hp:=hp} E' a w':=
 ⟨h.len,fun i x hi v hv=>RV.mono k (fun b hb=>ho b (St.HR (σ:=σ) hi b hb)) (h.tm i x hi v hv),hw,RD.mono k (fun _x hx b hb=>ho b (St.MV (σ:=σ) hx b hb)) h.df⟩
def Env.at(E:Env)(d:Nat)(g:Option Nat)(sv:Value)(t:Ty):Env:=
 {E with g:=fun b=>if b=d then g else E.g b,sv:=fun b=>if b=d then sv else E.sv b,bt:=fun b=>if b=d then t else E.bt b,P:=fun b=>if b=d then fun _=>False else E.P b}
theorem Env.MW{E:Env}{d:Nat}{g:Option Nat}{sv:Value}{t:Ty}(h:16≤d):∀b,b<16→(E.at d g sv t).g b=E.g b∧(E.at d g sv t).sv b=E.sv b∧(E.at d g sv t).bt b=E.bt b:=fun b hb=>by
 grind [Env.at]
theorem Env.EV{E:Env}{d:Nat}{g:Option Nat}{sv:Value}{t:Ty}{ids:List Nat}(h:d∉ids):E.on (E.at d g sv t) ids:=fun b hb=>by
 grind [Env.at]
theorem HW.kz{gl:Ctx}{E E':Env}{w w':World}{hp:List (Option aX)}(h:HW gl E w hp)(k:di E w E' w'):EU gl E' w':=
 ⟨fun x hx=>by
  obtain⟨h1,cs,h2,h3⟩:=h.gl.1 x hx
  exact⟨k.S _ h1,cs,h2.mono (k.w _ h1),Rel.mono k.w k.S h3⟩,gl.mono k.w k.S h.gl.2⟩
theorem HW.below{gl:Ctx}{E:Env}{w:World}{hp:List (Option aX)}(h:HW gl E w hp){b i:Nat}{k':aX}(hb:hp[b]? =some (some k'))(hgi:E.has b i):i<w.heap.size:=by
 rcases hgi with hgi|hgi
 case inr=>exact h.xi b k' i hb hgi
 have:=h.eJ b k' hb
 cases k' with
 |var t v=>obtain⟨_,_,g,c,e,h3,h4,_⟩:=this;grind
 |
  row e bs t xs=>
  obtain⟨_,_,_,_,a,cap,_,_,h7⟩:=this
  grind
 |map kt vt es=>obtain⟨_,_,g,en,clock,h2,h3,_⟩:=this;grind
 |qX k v rest cur=>obtain⟨g,_,_,_,_,h3,h4,_⟩:=this;grind
 |eW e bs t xs e2 f=>obtain⟨_,_,_,_,_,g,cap,c,og,_,_,h3,h4,_⟩:=this;grind
 |pmap kt t es e2 f=>obtain⟨_,_,_,g,en,clock,og,h3,h4,_⟩:=this;grind
 |j8 kt t es e2 kx v pr=>obtain⟨_,n,g,en,clock,_,h3,h4,_⟩:=this;grind
 |k7 kt l=>obtain⟨_,_,g,en,clock,h3,h4,_⟩:=this;grind
 |lp l r=>obtain⟨h2,h3⟩:=this;grind
 |AZ=>obtain⟨g,h2,h3⟩:=this;grind
 |tv g t v=>obtain⟨h2,_,_,c,e,h3,_⟩:=this;grind
 |dB e bs t xs i v=>obtain⟨_,_,_,_,_,_,g,cap,c,_,_,h3,h4,_⟩:=this;grind
theorem cU.below{gl:Ctx}{E:Env}{w:World}{hp:List (Option aX)}(h:HW gl E w hp){i:Nat}(ho:cU hp E i):i<w.heap.size:=by
 obtain⟨b,k',hb,hgi⟩:=ho
 exact h.below hb hgi
theorem Env.mC{E:Env}{d:Nat}{g:Option Nat}{sv:Value}{t:Ty}{b i:Nat}(hne:b≠d):(E.at d g sv t).has b i↔E.has b i:=by simp[Env.has,Env.at,hne]
theorem Env.oe{E:Env}{d:Nat}{g:Option Nat}{sv:Value}{t:Ty}{i:Nat}:(E.at d g sv t).has d i↔g=some i:=by simp[Env.has,Env.at]
theorem HW.fresh{gl:Ctx}{E:Env}{w w':World}{hp:List (Option aX)}(h:HW gl E w hp){d:Nat}{g:Option Nat}{sv:Value}{t:Ty}{k:aX}
 (hsz:w.heap.size≤w'.heap.size) (hold:∀i,i<w.heap.size→w'.heap[i]? =w.heap[i]?)
 (hd:∀k',hp[d]? ≠some (some k')) (hids:∀(b:Nat)(k':aX),hp[b]? =some (some k')→d∉k'.ids) (hg:∀i,g=some i→w.heap.size≤i) (hb:RB (E.at d g sv t) w' d k):HW gl (E.at d g sv t) w' (hp.set d (some k)):=by
 have kp:di E w (E.at d g sv t) w':=⟨fun b hb=>hold b (h.slt b hb),fun b hb=>hb⟩
 have old:∀(b:Nat)(k':aX),b≠d→(hp.set d (some k))[b]? =some (some k')→hp[b]? =some (some k'):=by
  grind
 refine⟨?_,?_,?_,?_,h.kz kp,?_⟩
 ·intro b k' hbk
  by_cases e:b=d
  ·grind
  ·have hbk':=old b k' e hbk
   refine RB.mono kp (Env.EV ?_) ?_ (fun _ g hg=>by simpa[Env.at,e] using hg) (h.eJ b k' hbk')
   ·grind
   ·intro i hi
    exact hold i (h.below hbk' hi)
 ·intro b b' k1 k2 i hb hb' h1 h2
  by_cases e:b=d<;>by_cases e':b'=d
  ·grind
  ·subst e
   have h1:=hg i (Env.oe.1 h1)
   have:=h.below (old b' k2 e' hb') ((Env.mC e').1 h2)
   omega
  ·subst e'
   have h2:=hg i (Env.oe.1 h2)
   have:=h.below (old b k1 e hb) ((Env.mC e).1 h1)
   omega
  ·exact h.gY b b' k1 k2 i (old b k1 e hb) (old b' k2 e' hb') ((Env.mC e).1 h1) ((Env.mC e').1 h2)
 ·intro b k1 i hb h1 hs
  by_cases e:b=d
  ·subst e
   have:=hg i (Env.oe.1 h1)
   have:=h.slt i hs
   omega
  ·exact h.fZ b k1 i (old b k1 e hb) ((Env.mC e).1 h1) hs
 ·intro i hs;exact Nat.lt_of_lt_of_le (h.slt i hs) hsz
 ·intro b k1 i hb h1
  by_cases e:b=d
  ·subst e;simp[Env.at] at h1
  ·have h1:E.P b i:=by simpa[Env.at,e] using h1
   exact Nat.lt_of_lt_of_le (h.xi b k1 i (old b k1 e hb) h1) hsz
theorem HW.write{gl:Ctx}{E:Env}{w w':World}{hp:List (Option aX)}(h:HW gl E w hp){b:Nat}{k k':aX}(hb:hp[b]? =some (some k))(hsz:w'.heap.size=w.heap.size)
 (hold:∀i,E.g b≠some i→w'.heap[i]? =w.heap[i]?) (hk:RB E w' b k'):HW gl E w' (hp.set b (some k')):=by
 have kp:di E w E w':=⟨fun i hi=>hold i (fun e=>h.oM b k i hb e hi),fun b hb=>hb⟩
 have old:∀(b':Nat)(k2:aX),b'≠b→(hp.set b (some k'))[b']? =some (some k2)→hp[b']? =some (some k2):=by
  grind
 have any:∀(b':Nat)(k2:aX),(hp.set b (some k'))[b']? =some (some k2)→∃k3:aX,hp[b']? =some (some k3):=by
  grind
 refine⟨?_,?_,?_,?_,h.kz kp,?_⟩
 ·intro b' k2 hb'
  by_cases e:b'=b
  ·grind
  ·have hb2:=old b' k2 e hb'
   refine RB.mono kp (fun x _=>⟨rfl,rfl,rfl⟩) ?_ (fun _ _ h=>h) (h.eJ b' k2 hb2)
   intro i hi
   exact hold i (fun e'=>e (h.gY b' b k2 k i hb2 hb hi (Or.inl e')))
 ·intro b1 b2 k1 k2 i h1 h2 g1 g2
  obtain⟨k3,h3⟩:=any b1 k1 h1
  obtain⟨k4,h4⟩:=any b2 k2 h2
  exact h.gY b1 b2 k3 k4 i h3 h4 g1 g2
 ·intro b1 k1 i h1 g1
  obtain⟨k3,h3⟩:=any b1 k1 h1
  exact h.fZ b1 k3 i h3 g1
 ·intro i hi;rw[hsz];exact h.slt i hi
 ·intro b1 k1 i h1 g1
  obtain⟨k3,h3⟩:=any b1 k1 h1
  rw[hsz];exact h.xi b1 k3 i h3 g1
theorem cU.set{hp:List (Option aX)}{E:Env}{b:Nat}{k k':aX}(hb:hp[b]? =some (some k)){i:Nat}(h:cU (hp.set b (some k')) E i):cU hp E i:=by
 obtain⟨b',k2,hb',hg⟩:=h
 by_cases e:b'=b
 ·subst e;exact⟨b',k,hb,hg⟩
 ·rw[fY,aB (fun e'=>e e'.symm)] at hb'
  exact⟨b',k2,hb',hg⟩
end Go.Ax
namespace Go.Ax
structure MS where
 name:String
 f:FuncId
 st:Option (TypeId×Nat×TypeId)
structure TD where
 ty:Ty
 e:TypeId:=0
 e2:TypeId:=0
 ms:List MS:=[]
abbrev dq:=List (Option TD)
def dq.at(G:dq)(t:TypeId):Option TD:=(G[t]?).join
def j7.zero:j7→AV
 | .ptr=>.kv
 | .map=>.ia
 | .func=>.jD
 | .iface=>.kZ
 | .sl=>.aM
def Ty.zero:Ty→AV
 | .slice _ _=>.aM
 | .pair a b=>.cons a.zero b.zero
 | .unit=>.nil
 | .aY k=>j7.zero k
 | .map _ _=>.ia
 |t=>.val t t.aH
def Ty.pure:Ty→Bool
 | .arr _ t=>t.pure
 | .slice _ t=>t.pure
 | .pair a b=>a.pure&&b.pure
 | .aY _| .fns _=>false
 | .map k v=>k.pure&&v.pure
 |_=>true
def MZ:Value→Bool
 | .nilFunc=>true
 |_=>false
def isZero:Ty→Value→Bool
 | .int k,.int k' n=>Nat.beq (IntKind.code k) (IntKind.code k')&&decide (n=0)
 | .bool,.bool b=> !b
 | .str,.string s=>s.data.toList.isEmpty
 | .slice _ _,.slice a n c=>a.isNone&&Nat.beq n 0&&Nat.beq c 0
 | .aY .ptr,.pointer a=>a.isNone
 | .aY .map,.map a=>a.isNone
 | .map _ _,.map a=>a.isNone
 | .aY .func,.nilFunc=>true
 | .aY .iface,.nilIface=>true
 | .aY .sl,.slice a n c=>a.isNone&&Nat.beq n 0&&Nat.beq c 0
 |_,_=>false
def rJ:Ty→List Value→Bool
 | .arr n t,cs=>Nat.beq cs.length (n*t.size)&&t.pure&&(List.range n).all fun i=>rJ t ((cs.drop (i*t.size)).take t.size)
 | .pair a b,cs=>Nat.ble a.size cs.length&&rJ a (cs.take a.size)&&rJ b (cs.drop a.size)
 | .unit,cs=>cs.isEmpty
 | .fns n,cs=>Nat.beq cs.length n&&cs.all MZ
 |t,[v]=>isZero t v
 |_,_=>false
theorem mT{E:Env}{w:World}{t:Ty}{v:Value}(ha:t.isAgg=false)(h:isZero t v=true):RC E w t.zero [v]∧(t.pure=true→Rel w E.S t [v] t.aH):=by
 cases t with
 |
  int k=>
  cases v<;>simp[isZero] at h
  obtain⟨h1,h2⟩:=h
  have:=IntKind.mn h1
  subst this;subst h2
  refine⟨⟨rfl,?_,?_⟩,fun _=>⟨rfl,?_,?_⟩⟩<;>(cases k<;>decide)
 |
  bool=>
  cases v<;>simp[isZero] at h
  subst h
  exact⟨rfl,fun _=>rfl⟩
 |
  str=>
  cases v with
  |
   string s=>
   simp[isZero] at h
   have:s=⟨#[]⟩:=by cases s;simp_all
   subst this
   exact⟨⟨rfl,by trivial⟩,fun _=>⟨rfl,by trivial⟩⟩
  |_=>trivial
 |
  slice bs t=>
  cases v with
  |
   slice a n c=>
   simp[isZero] at h
   obtain⟨⟨h1,h2⟩,h3⟩:=h
   subst h1;subst h2;subst h3
   exact⟨rfl,fun _=>⟨none,0,rfl,cV _,by simp[Ty.aH],by simp[Ty.aH],Or.inl rfl⟩⟩
  |_=>trivial
 |
  map k e=>
  cases v<;>simp[isZero] at h
  subst h
  exact⟨rfl,fun _=>⟨none,rfl,Or.inl ⟨rfl,rfl⟩⟩⟩
 |
  aY k=>
  refine⟨?_,fun hp=>by trivial⟩
  cases k<;>cases v<;>simp[isZero] at h<;>first|rfl|(subst h;rfl)|(obtain⟨⟨h1,h2⟩,h3⟩:=h;subst h1;subst h2;subst h3;rfl)
 |_=>trivial
theorem bO.EW{α:Type}{r:List Value→α→Prop}(x:α)(k:Nat):∀(n:Nat)(cs:List Value),cs.length=n*k→(∀i,i<n→r ((cs.drop (i*k)).take k) x)→bO r cs (List.replicate n x):=by
 intro n
 induction n with
 |zero=>grind [bO]
 |
  succ n ih=>
  intro cs hl h
  rw[List.replicate_succ]
  rw[iW,Nat.one_mul] at hl
  refine⟨cs.take k,cs.drop k,(oL k cs).symm,by have:=h 0 (by omega);grind,ih _ (by grind) ?_⟩
  intro i hi
  have:=h (i+1) (by omega)
  simp_all[iW,Nat.add_comm]
theorem jF{E:Env}{w:World}:∀{t:Ty}{cs:List Value},rJ t cs=true→RC E w t.zero cs∧(t.pure=true→Rel w E.S t cs t.aH):=by
 intro t
 induction t with
 |
  arr n t ih=>
  intro cs h
  simp only[rJ,bP,ng,List.mem_range] at h
  obtain⟨⟨h1,h2⟩,h3⟩:=h
  have h1':cs.length=n*t.size:=dm h1
  have:Rel w E.S (.arr n t) cs (Ty.aH (.arr n t)):=
   ⟨by simp[Ty.aH],bO.EW t.aH t.size n cs h1' (fun i hi=>(ih (h3 i hi)).2 h2)⟩
  exact⟨this,fun _=>this⟩
 |
  pair a b ih1 ih2=>
  intro cs h
  simp only[rJ,bP] at h
  obtain⟨⟨_,h1⟩,h2⟩:=h
  have e:=(oL a.size cs).symm
  refine⟨⟨_,_,e,(ih1 h1).1,(ih2 h2).1⟩,fun hp=>?_⟩
  simp only[Ty.pure,bP] at hp
  exact⟨_,_,e,(ih1 h1).2 hp.1,(ih2 h2).2 hp.2⟩
 |unit=>intro cs h;simp[rJ] at h;exact⟨h,fun _=>h⟩
 |
  fns n=>
  intro cs h
  simp only[rJ,bP,ng] at h
  have hl:=dm h.1
  have e:cs=(List.replicate n none).map HQ:=by
   apply List.ext_getElem
   ·simp[hl]
   grind [lD,HQ,MZ]
  have:Rel w E.S (.fns n) cs (Ty.aH (.fns n)):=⟨by simp[Ty.aH],e⟩
  exact⟨this,fun _=>this⟩
 |int k=>intro cs h;match cs,h with|[v],h=>exact mT rfl h
 |bool=>intro cs h;match cs,h with|[v],h=>exact mT rfl h
 |str=>intro cs h;match cs,h with|[v],h=>exact mT rfl h
 |slice bs t=>intro cs h;match cs,h with|[v],h=>exact mT rfl h
 |aY k=>intro cs h;match cs,h with|[v],h=>exact mT rfl h
 |map k v=>intro cs h;match cs,h with|[v],h=>exact mT rfl h
theorem Ty.wD(t:Ty):t.zero.dY t=true:=by
 induction t with
 |pair a b ih1 ih2=>simp[Ty.zero,AV.dY,ih1,ih2]
 |aY k=>cases k<;>rfl
 |map _ _=>rfl
 |slice bs t=>rfl
 |unit=>rfl
 |_=>exact Ty.fh _
def dS(G:dq):List Field→Nat→Ty→Bool
 |[],_,.unit=>true
 |f::fs,off,.pair a b=>(match G.at f.type with|some td=>Ty.same td.ty a|none=>false)&&Nat.beq f.offset off&&Nat.blt 0 a.size&&dS G fs (off+a.size) b
 |_,_,_=>false
def d7(P:Program)(G:dq)(td:TD):TypeDesc→Bool
 | .bool=>Ty.same td.ty .bool
 | .int k=>Ty.same td.ty (.int k)
 | .string=>Ty.same td.ty .str
 | .slice e=>Ty.same td.ty (.aY .sl)||Nat.beq td.e e&&(match td.ty,G.at e,P.info? e with| .slice bs t,some te,some ie=>Ty.same te.ty t&&Nat.beq ie.bytes bs&&Nat.blt 0 t.size&&Nat.blt 0 bs|_,_,_=>false)
 | .array n e=>(match td.ty,G.at e with| .fns m,some te=>Nat.beq td.e e&&Nat.beq m n&&Ty.same te.ty (.aY .func)|_,_=>false)||Nat.beq td.e e&&(match td.ty,G.at e,P.info? e with| .arr m t,some te,some ie=>Ty.same te.ty t&&Nat.beq m n&&Nat.beq ie.bytes td.e2|_,_,_=>false)
 | .struct fs=>dS G fs.toList 0 td.ty
 | .pointer _=>Ty.same td.ty (.aY .ptr)
 | .map k e=>(Ty.same td.ty (.aY .map)||(match td.ty,G.at k,G.at e with| .map a b,some ta,some tb=>Ty.same ta.ty a&&Ty.same tb.ty b|_,_,_=>false))&&Nat.beq td.e k&&Nat.beq td.e2 e
 | .func _ _ _=>Ty.same td.ty (.aY .func)
 | .interface _=>Ty.same td.ty (.aY .iface)
 |_=>false
def Ty.rK:Ty→Bool
 | .aY .map| .map _ _=>true
 |_=>false
theorem mM{P:Program}{G:dq}{td:TD}{k e:TypeId}(h:d7 P G td (.map k e)=true):td.ty.rK=true∧td.e=k∧td.e2=e:=by
 simp only[d7,bP,jV] at h
 obtain⟨⟨h,h1⟩,h2⟩:=h
 refine⟨?_,dm h1,dm h2⟩
 rcases h with h|h
 ·rw[Ty.aE h];rfl
 ·split at h
  ·rename_i e1 _ _;rw[e1];rfl
  grind
def M0:Value→Bool
 | .agg _=>true
 |_=>false
def fR:TypeDesc→Bool
 | .struct _| .array _ _=>true
 |_=>false
def C0:TypeDesc→Bool
 | .pointer _=>true
 |_=>false
def zi(P:Program)(G:dq)(t:TypeId)(pr:Bool):Option (TypeId×Nat×TypeId)→List FieldStep→Bool
 |
  none,[]=>match P.underlying t with
  |some d=>C0 d==pr
  |none=>false
 |
  some (s,i,ft),[x]=> !pr&&x.deref&&Nat.beq x.struct s&&Nat.beq x.index i&&(match P.underlying s,P.underlying ft with
  |
   some (.struct fs),some d=> !C0 d&&(match fs[i]? with
   |some f=>Nat.beq f.type ft
   |none=>false)
  |_,_=>false)&&(match G.at s with
  |
   some td=>(match td.ty.sub [.d6 i] with
   |some _=>true
   |none=>false)
  |none=>false)
 |_,_=>false
def aae(P:Program)(G:dq)(t:TypeId)(ii:TypeInfo)(m:MS):Bool:=
 match ii.methods.find? (fun x=>x.name==m.name) with
 |
  some r=>(match r.func with
  |some (f,pr)=>Nat.beq f m.f&&zi P G t pr m.st r.path.toList
  |none=>false)
 |none=>false
def Uz(P:Program)(G:dq)(t:TypeId)(td:TD):Bool:=
 match P.info? t,P.underlying t with
 |some i,some d=>td.ms.all (aae P G t i)&&(Nat.beq i.size td.ty.size&&(match i.zero with|some z=>rJ td.ty z.cells.toList&&(M0 z==td.ty.isAgg)|none=>false)&&d7 P G td d)
 |_,_=>false
def zj(P:Program)(G:dq):Nat→List (Option TD)→Bool
 |_,[]=>true
 |i,none::l=>zj P G (i+1) l
 |i,some td::l=>Uz P G i td&&zj P G (i+1) l
theorem wE(P:Program)(G:dq):∀(l:List (Option TD))(i:Nat),zj P G i l=true→∀j td,l[j]? =some (some td)→Uz P G (i+j) td=true
 |[],_,_,j,td,h=>by simp at h
 |
  none::l,i,h,j,td,hj=>by
  cases j with
  |zero=>simp at hj
  |succ j=>have:=wE P G l (i+1) h j td (by simpa using hj);rw[show i+(j+1)=i+1+j from by omega];exact this
 |
  some x::l,i,h,j,td,hj=>by
  simp only[zj,bP] at h
  cases j with
  |zero=>grind
  |succ j=>have:=wE P G l (i+1) h.2 j td (by grind);grind
structure cQ(P:Program)(G:dq):Prop where
 Uz:∀t td,G.at t=some td→Uz P G t td=true
 V8:P.follows .mixedOrders=true
theorem cQ.mk'{P:Program}{G:dq}(h:zj P G 0 G=true)(ho:P.follows .mixedOrders=true):cQ P G:=
 ⟨fun t td ht=>by
  have:G[t]? =some (some td):=by
   grind [dq.at]
  have:=wE P G G 0 h t td this
  grind,ho⟩
section
variable{P:Program} {G:dq} (T:cQ P G) {t:TypeId} {td:TD} (h:G.at t=some td)
include T h
theorem cQ.info:∃i d,P.info? t=some i∧P.underlying t=some d∧i.size=td.ty.size∧d7 P G td d=true∧∃z,i.zero=some z∧rJ td.ty z.cells.toList=true∧M0 z=td.ty.isAgg:=by
 have:=T.Uz t td h
 unfold Ax.Uz at this
 split at this
 ·rename_i i d hi hd
  simp only[bP] at this
  obtain⟨_,⟨h1,h2⟩,h3⟩:=this
  split at h2<;>simp_all
 grind
theorem cQ.agQ{m:MS}(hm:m∈td.ms):∃i r f pr,P.info? t=some i∧i.methods.find? (fun x=>x.name==m.name)=some r∧r.func=some (f,pr)∧f=m.f∧zi P G t pr m.st r.path.toList=true:=by
 have:=T.Uz t td h
 unfold Ax.Uz at this
 split at this
 ·rename_i i d hi hd
  simp only[bP,ng] at this
  have:=this.1 m hm
  unfold aae at this
  split at this
  ·rename_i r hr
   split at this
   ·rename_i f pr hf
    simp only[bP] at this
    grind [dm]
   grind
  grind
 grind
theorem cQ.size(w:World):(sizeOf t).run P w= .ok td.ty.size w:=by
 obtain⟨i,d,h1,_,h2,_⟩:=T.info h
 simp[sizeOf,typeInfo,h1,h2]
end
theorem fI{P:Program}{G:dq}{td:TD}{d:TypeDesc}(h:d7 P G td d=true):fR d=td.ty.isAgg:=by
 cases d<;>simp only[d7] at h<;>try (first|(have:=Ty.aE h;rw[this];rfl)|cases h)
 ·rw[jV] at h
  rcases h with h|h
  ·have:=Ty.aE h;rw[this];rfl
  ·simp only[bP] at h
   obtain⟨_,h⟩:=h
   split at h
   ·rename_i h1 _ _;rw[h1];rfl
   grind
 ·rw[jV] at h
  rcases h with h|h
  ·split at h
   ·rename_i h1 _;rw[h1];rfl
   grind
  ·simp only[bP] at h
   obtain⟨_,h⟩:=h
   split at h
   ·rename_i h1 _ _;rw[h1];rfl
   grind
 ·simp only[bP,jV] at h
  rcases h.1.1 with h|h
  ·have:=Ty.aE h;rw[this];rfl
  ·split at h
   ·rename_i h1 _ _;rw[h1];rfl
   grind
 ·rename_i fs
  show true=_
  revert h
  generalize fs.toList=l
  intro h
  cases l with
  |nil=>cases ht:td.ty<;>rw[ht] at h<;>simp[dS] at h;rfl
  |cons f l=>cases ht:td.ty<;>rw[ht] at h<;>simp[dS] at h;rfl
theorem cQ.isAgg{P:Program}{G:dq}(T:cQ P G){t:TypeId}{td:TD}(h:G.at t=some td)(w:World):(isAgg t).run P w= .ok td.ty.isAgg w:=by
 obtain⟨i,d,_,h1,_,h2,_⟩:=T.info h
 have:=fI h2
 unfold Go.isAgg
 simp only[Sem.run_bind,underlying,run_program,Result.andThen_ok,h1,Sem.run_pure]
 cases d<;>simp[fR] at this ⊢ <;>exact this
theorem cQ.zero{P:Program}{G:dq}(T:cQ P G){t:TypeId}{td:TD}(h:G.at t=some td)(w:World):∃z,(zeroValue t).run P w= .ok z w∧rJ td.ty z.cells.toList=true∧M0 z=td.ty.isAgg:=by
 obtain⟨i,d,h1,_,_,_,z,hz,h3,h4⟩:=T.info h
 simp_all[zeroValue,typeInfo]
end Go.Ax
namespace Go.Ax
def uS:Value→AV
 | .bool b=>.val .bool b
 | .int k n=>if decide (k.min≤n)&&decide (n≤k.max) then .val (.int k) n else .bot
 | .string s=>if Nat.ble s.data.toList.length aF then .val .str s.data.toList else .bot
 | .slice none 0 0=>.aM
 | .pointer none=>.kv
 | .map none=>.ia
 | .nilFunc=>.jD
 | .nilIface=>.kZ
 |_=>.bot
def wG:List LJ→Nat→AV
 |[],_=>.bot
 |x::l,g=>if Nat.beq x.g g then .dk x.t x.x else wG l g
def db(gl:Ctx)(tm:List AV):Operand→AV
 | .tmp t=>(tm[t]?).getD .bot
 | .const v=>uS v
 | .global g=>wG gl.gl g
 | .func f=>.func (.func f) .nil .nil
theorem RV.gZ{E:Env}{w:World}{x:AV}{v:Value}(h:ew E w x v):RV E w x v:=by
 cases x with
 |bot=>trivial
 |ky l=>rcases h with⟨h,_⟩|⟨_,h⟩<;>simp[AV.isAgg,RC] at h
 |opt c a=>rcases h with⟨h,_⟩|⟨_,h⟩<;>simp[AV.isAgg,RC] at h
 |_=>exact h
def AV.plain:AV→Bool
 | .bot| .ky _| .opt _ _=>false
 |_=>true
theorem RV.mN{E:Env}{w:World}{x:AV}{v:Value}(hp:x.plain=true)(h:RV E w x v):ew E w x v:=by
 cases x<;>first|exact h|trivial
theorem RV.atom{E:Env}{w:World}{x:AV}{v:Value}(hp:x.atom=true)(h:RV E w x v):RC E w x [v]:=by
 cases x<;>first
  |trivial
  |(
   rcases h with⟨h1,_⟩|⟨_,h2⟩
   ·grind [AV.isAgg,AV.atom]
   grind)
theorem HS{E:Env}{w:World}(v:Value):RV E w (uS v) v:=by
 unfold uS
 split
 ·exact Or.inr ⟨rfl,rfl⟩
 ·rename_i k n
  split
  ·rename_i h
   simp at h
   exact Or.inr ⟨rfl,rfl,h.1,h.2⟩
  trivial
 ·rename_i s
  split
  ·rename_i h
   refine Or.inr ⟨rfl,?_,jt h⟩<;>grind
  trivial
 ·exact Or.inr ⟨rfl,rfl⟩
 ·exact Or.inr ⟨rfl,rfl⟩
 ·exact Or.inr ⟨rfl,rfl⟩
 ·exact Or.inr ⟨rfl,rfl⟩
 ·exact Or.inr ⟨rfl,rfl⟩
 trivial
theorem LM{E:Env}{w:World}{gl:List LJ}(h:∀x∈gl,E.S x.g∧∃cs,tX w ⟨x.g,0,none⟩ cs∧Rel w E.S x.t cs x.x)(g:Nat):RV E w (wG gl g) (.pointer (some ⟨g,0,none⟩)):=by
 induction gl with
 |nil=>trivial
 |
  cons x l ih=>
  unfold wG
  split
  ·rename_i hg
   have hg:=dm hg
   obtain⟨h1,cs,h2,h3⟩:=h x (dx ..)
   subst hg
   exact Or.inr ⟨rfl,x.g,0,cs,rfl,h1,h2,h3⟩
  grind
theorem j9{gl:Ctx}{σ:St}{E:Env}{a:Act}{w:World}(h:dE gl σ E a w)(x:Operand):RV E w (db gl σ.tm x) (a.eval x):=by
 cases x with
 |
  tmp t=>
  simp only[db,Act.eval]
  cases hx:σ.tm[t]? with
  |none=>trivial
  |
   some y=>
   have hlt:t<a.tmps.size:=by rw[h.len];grind
   have:=h.tm t y hx a.tmps[t] (by grind)
   simp_all
 |const v=>exact HS v
 |global g=>exact LM h.hw.gl.1 g
 |func f=>exact Or.inr ⟨rfl, #[], #[],rfl,rfl,rfl,rfl,rfl⟩
theorem gr(k:IntKind)(n:Int):k.min≤k.wrap n∧k.wrap n≤k.max:=by
 cases k<;>simp only[IntKind.wrap,IntKind.min,IntKind.max,IntKind.bits,IntKind.signed]<;>(grind)<;>omega
theorem IntKind.range(k:IntKind):k.min≤0∧0≤k.max:=by cases k<;>decide
theorem RV.int{E:Env}{w:World}{k:IntKind}{n:Int}(h:k.min≤n∧n≤k.max):RV E w (.val (.int k) n) (.int k n):=Or.inr ⟨rfl,rfl,h.1,h.2⟩
theorem RV.bool{E:Env}{w:World}{b:Bool}:RV E w (.val .bool b) (.bool b):=Or.inr ⟨rfl,rfl⟩
theorem RV.fw{E:Env}{w:World}{k:IntKind}{n:Int}{v:Value}(h:RV E w (.val (.int k) n) v):v= .int k n∧k.min≤n∧n≤k.max:=by
 rcases h with⟨h,_⟩|⟨_,h,h2⟩
 ·trivial
 grind
theorem RV.ib{E:Env}{w:World}{b:Bool}{v:Value}(h:RV E w (.val .bool b) v):v= .bool b:=by
 rcases h with⟨h,_⟩|⟨_,h⟩
 ·trivial
 ·simpa[RC,Rel] using h
theorem RV.kr{E:Env}{w:World}{s:List UInt8}{v:Value}(h:RV E w (.val .str s) v):v= .string ⟨s.toArray⟩∧s.length≤aF:=by
 rcases h with⟨h,_⟩|⟨_,h,h2⟩
 ·trivial
 grind
theorem RV.str{E:Env}{w:World}{s:List UInt8}(h:s.length≤aF):RV E w (.val .str s) (.string ⟨s.toArray⟩):=Or.inr ⟨rfl,rfl,h⟩
def lM(op:BinOp)(k:IntKind)(x y:Int):Int:=
 let a:=BitVec.ofInt k.bits x
 let b:=BitVec.ofInt k.bits y
 match op with
 | .and=>k.wrap (a &&& b).toNat
 | .or=>k.wrap (a ||| b).toNat
 | .xor=>k.wrap (a ^^^ b).toNat
 |_=>k.wrap (a &&& ~~~b).toNat
structure VC where
 p:Prop
 d:Decidable p
abbrev vc(p:Prop)[d:Decidable p]:VC:=⟨p,d⟩
def gm:List VC→Prop
 |[]=>True
 |v::l=>v.p∧gm l
def ye:Option TypeDesc→Bool
 |some .bool=>true
 |_=>false
theorem zl{x:Option TypeDesc}(h:ye x=true):x=some .bool:=by
 grind [ye]
def zm(op:BinOp)(k:IntKind)(a:Int)(k':IntKind)(b:Int):Option (AV×List VC):=
 match op with
 | .shl=>some (.val (.int k) (k.wrap (a*2^(min b.toNat k.bits))),[vc (0≤b)])
 | .shr=>some (.val (.int k) (a.fdiv (2^(min b.toNat k.bits))),[vc (0≤b)])
 |
  _=>
  if Nat.beq (IntKind.code k) (IntKind.code k') then
   match op with
   | .add=>some (.val (.int k) (k.wrap (a+b)),[])
   | .sub=>some (.val (.int k) (k.wrap (a -b)),[])
   | .mul=>some (.val (.int k) (k.wrap (a*b)),[])
   | .quo=>some (.val (.int k) (k.wrap (a.tdiv b)),[vc (b≠0)])
   | .rem=>some (.val (.int k) (a.tmod b),[vc (b≠0)])
   | .and=>some (.val (.int k) (lM .and k a b),[])
   | .or=>some (.val (.int k) (lM .or k a b),[])
   | .xor=>some (.val (.int k) (lM .xor k a b),[])
   | .andNot=>some (.val (.int k) (lM .andNot k a b),[])
   | .eql=>some (.val .bool (decide (a=b)),[])
   | .neq=>some (.val .bool (!decide (a=b)),[])
   | .lss=>some (.val .bool (decide (a<b)),[])
   | .leq=>some (.val .bool (decide (a≤b)),[])
   | .gtr=>some (.val .bool (decide (b<a)),[])
   | .geq=>some (.val .bool (decide (b≤a)),[])
   |_=>none
  else none
def Bt(P:Program)(t:TypeId)(op:BinOp):AV→AV→Option (AV×List VC)
 | .val (.int k) a,.val (.int k') b=>zm op k a k' b
 |
  .val .bool a,.val .bool b=>
  match op with
  | .eql=>some (.val .bool (a==b),[vc (ye (P.underlying t)=true)])
  | .neq=>some (.val .bool (!(a==b)),[vc (ye (P.underlying t)=true)])
  |_=>none
 |
  .val .str a,.val .str b=>
  match op with
  | .add=>some (.val .str (a++b),[vc (a.length+b.length≤aF)])
  | .eql=>some (.val .bool (decide (a=b)),[])
  | .neq=>some (.val .bool (!decide (a=b)),[])
  | .lss=>some (.val .bool (Op.bytesLess a b),[])
  | .leq=>some (.val .bool (Op.bytesLess a b||decide (a=b)),[])
  | .gtr=>some (.val .bool (!(Op.bytesLess a b||decide (a=b))),[])
  | .geq=>some (.val .bool (!Op.bytesLess a b),[])
  |_=>none
 |_,_=>none
theorem ku{a b:Int}(ha:0≤a)(hb:0≤b):a % b≤a:=by
 rcases Int.lt_or_eq_of_le hb with h|h
 ·have:=Int.emod_add_mul_ediv a b
  have h1:0≤a / b:=Int.ediv_nonneg ha hb
  have h2:0≤b*(a / b):=Int.mul_nonneg hb h1
  omega
 grind
theorem HT(k:IntKind)(a b:Int)(ha:k.min≤a∧a≤k.max):k.min≤a.tmod b∧a.tmod b≤k.max:=by
 have hr:=IntKind.range k
 rcases Int.le_total 0 a with h|h
 ·have h1:=Int.tmod_nonneg b h
  have h2:a.tmod b≤a:=by
   rcases Int.le_total 0 b with hb|hb
   ·simp_all[Int.tmod_eq_emod_of_nonneg,ku]
   ·have:a.tmod b=a.tmod (-b):=by simp_all
    rw[this,Int.tmod_eq_emod_of_nonneg h];exact ku h (by omega)
  omega
 ·have h1:(-a).tmod b= -(a.tmod b):=Int.neg_tmod ..
  have h2:0≤-a:=by omega
  have h3:=Int.tmod_nonneg b h2
  have h4:(-a).tmod b≤-a:=by
   rcases Int.le_total 0 b with hb|hb
   ·rw[Int.tmod_eq_emod_of_nonneg h2];exact ku h2 hb
   ·have:(-a).tmod b=(-a).tmod (-b):=by simp_all
    rw[this,Int.tmod_eq_emod_of_nonneg h2];exact ku h2 (by omega)
  omega
theorem HU(k:IntKind)(a:Int)(n:Nat)(ha:k.min≤a∧a≤k.max):k.min≤a.fdiv (2^n)∧a.fdiv (2^n)≤k.max:=by
 have hr:=IntKind.range k
 have hp:(1:Int)≤2^n:=by
  have:=Int.pow_pos (n:=2) (m:=n) (by omega)
  omega
 rw[Int.fdiv_eq_ediv_of_nonneg _ (by omega)]
 rcases Int.le_total 0 a with h|h
 ·have h1:0≤a / 2^n:=Int.ediv_nonneg h (by omega)
  have h2:a / 2^n≤a:=Int.ediv_le_self _ h
  omega
 ·have h1:a / 2^n≤0:=by
   have:=Int.ediv_le_ediv (c:=2^n) (by omega) h
   simp_all
  have h2:a≤a / 2^n:=by
   rw[Int.le_ediv_iff_mul_le (by omega)]
   have:=Int.mul_le_mul_of_nonpos_left h hp
   omega
  omega
theorem EX{P:Program}{E:Env}{w:World}{op:BinOp}{t:TypeId}{k k':IntKind}{a b:Int}{r:AV}{vc:List VC}(ha:k.min≤a∧a≤k.max)(h:zm op k a k' b=some (r,vc))(hvc:gm vc):
 ∃v,(binOp op t (.int k a) (.int k' b)).run P w= .ok v w∧RV E w r v:=by
 unfold zm at h
 split at h
 ·cases h
  exact⟨_,by simp[binOp,Op.shift,show¬b<0 from by have:=hvc.1;omega],RV.int (gr k _)⟩
 ·cases h
  exact⟨_,by simp[binOp,Op.shift,show¬b<0 from by have:=hvc.1;omega],RV.int (HU k _ _ ha)⟩
 ·rename_i h1 h2
  split at h
  ·rename_i hk
   have:=IntKind.mn (dm hk)
   subst this
   split at h<;>cases h
   ·simp_all[binOp,Op.intArith,RV.int,gr]
   ·simp_all[binOp,Op.intArith,RV.int,gr]
   ·simp_all[binOp,Op.intArith,RV.int,gr]
   ·exact⟨_,by simp[binOp,Op.intDiv,show b≠0 from hvc.1],RV.int (gr k _)⟩
   ·exact⟨_,by simp[binOp,Op.intDiv,show b≠0 from hvc.1],RV.int (HT k _ _ ha)⟩
   ·simp_all[lM,binOp,Op.intBits,RV.int,gr]
   ·simp_all[lM,binOp,Op.intBits,RV.int,gr]
   ·simp_all[lM,binOp,Op.intBits,RV.int,gr]
   ·simp_all[lM,binOp,Op.intBits,RV.int,gr]
   ·exact⟨_,by simp[binOp,Op.intCmp];rfl,RV.bool⟩
   ·exact⟨_,by simp[binOp,Op.intCmp];rfl,RV.bool⟩
   ·simp_all[binOp,Op.intCmp,RV.bool]
   ·simp_all[binOp,Op.intCmp,RV.bool]
   ·simp_all[binOp,Op.intCmp,RV.bool]
   simp_all[binOp,Op.intCmp,RV.bool]
  grind
theorem M5{P:Program}{E:Env}{w:World}{op:BinOp}{t:TypeId}{x y:AV}{vx vy:Value}{r:AV}{vc:List VC}(hx:RV E w x vx)(hy:RV E w y vy)(h:Bt P t op x y=some (r,vc))(hvc:gm vc):
 ∃v,(binOp op t vx vy).run P w= .ok v w∧RV E w r v:=by
 unfold Bt at h
 split at h
 ·obtain⟨rfl,h1⟩:=RV.fw hx
  obtain⟨rfl,h2⟩:=RV.fw hy
  exact EX h1 h hvc
 ·have:=RV.ib hx;subst this
  have:=RV.ib hy;subst this
  split at h
  ·cases h
   have hb:=hvc.1
   exact⟨_,by simp[binOp,run_equal_bool w t _ _ (zl hb)],RV.bool⟩
  ·cases h
   have hb:=hvc.1
   exact⟨_,by simp[binOp,run_equal_bool w t _ _ (zl hb)],RV.bool⟩
  ·cases h
 ·obtain⟨rfl,h1⟩:=RV.kr hx
  obtain⟨rfl,h2⟩:=RV.kr hy
  have beq:∀(a b:List UInt8),(a==b)=decide (a=b):=fun a b=>by
   by_cases h:a=b
   ·subst h;simp
   ·simp[h]
  split at h<;>cases h
  ·rename_i a b _
   have hb:List.length a+List.length b≤aF:=hvc.1
   refine⟨.string ⟨(List.append a b).toArray⟩,?_,RV.str (by show(List.append a b).length≤aF;rw[List.append_eq,cz];exact hb)⟩
   have sz:∀l:List UInt8,(ByteArray.mk l.toArray).size=l.length:=fun l=>by show l.toArray.size=_;simp
   have hmax:IntKind.i64.max=9223372036854775807:=by decide
   have hn:¬(((ByteArray.size ⟨List.toArray a⟩+ByteArray.size ⟨List.toArray b⟩:Nat):Int)>IntKind.i64.max):=by
    rw[sz,sz,hmax];unfold aF at hb;omega
   have happ:(⟨List.toArray a⟩:ByteArray)++⟨List.toArray b⟩=⟨(List.append a b).toArray⟩:=by
    apply ByteArray.ext
    simp
   simp only[binOp,Op.stringOp,aB hn,Sem.run_pure,happ]
  all_goals(refine⟨_,?_,RV.bool⟩;simp[binOp,Op.stringOp,beq])
 ·cases h
end Go.Ax
namespace Go.Ax
def mG:aX→Ty
 | .var t _=>t
 | .row _ _ t xs=>.arr xs.length t
 | .dB _ _ t xs i _=>rH i xs.length t
 | .eW _ _ t xs _ f=>zh xs.length t f
 |_=>.unit
def aX.mem:aX→Bool
 | .var _ _| .row _ _ _ _| .dB _ _ _ _ _ _| .eW _ _ _ _ _ _=>true
 |_=>false
def tE:aX→Path→Option AV
 | .var _ v,p=>v.get p
 | .row _ _ t xs,.idx i::p=>jE (.arr xs.length t) xs (.idx i::p)
 | .dB _ _ _ _ _ v,.d6 1::p=>v.get p
 | .eW _ _ _ _ _ (some (_,v)),.d6 1::p=>v.get p
 |_,_=>none
theorem RB.bt{E:Env}{w:World}{b:Nat}{k:aX}(h:RB E w b k)(hm:k.mem=true):E.bt b=mG k:=by
 cases k with
 |var t v=>exact h.1
 |row e bs t xs=>exact h.1
 |dB e bs t xs i v=>exact h.1
 |eW e bs t xs e2 f=>exact h.1
 |_=>cases hm
theorem tX.of_heap{w:World}{g:Nat}{c:Array Value}{e:TypeId}{fr:Nat×Nat}(h:w.heap[g]? =some (.cells c e fr))(o n:Nat):tX w ⟨g,o,none⟩ ((c.toList.drop o).take n):=by
 intro j v hj
 grind [Addr.add,World.cell?]
theorem tX.sub{w:World}{g o:Nat}{cs:List Value}(h:tX w ⟨g,o,none⟩ cs)(k n:Nat):tX w ⟨g,o+k,none⟩ ((cs.drop k).take n):=by
 intro j v hj
 have e1:∀o,((⟨g,o,none⟩:Addr).add j)=⟨g,o+j,none⟩:=by grind [Addr.add]
 have e2:((⟨g,o,none⟩:Addr).add (k+j))=⟨g,o+(k+j),none⟩:=by unfold Addr.add;grind
 rw[e1]
 rw[List.getElem?_take] at hj
 split at hj
 ·rw[List.getElem?_drop] at hj
  have:=h (k+j) v hj
  grind
 grind
theorem uT{E:Env}{w:World}{b:Nat}{k:aX}{p:Path}{u:AV}(h:RB E w b k)(hv:(E.bt b).valid p)(hr:tE k p=some u):
 ∃g s cs,E.g b=some g∧(E.bt b).sub p=some s∧u.dY s=true∧tX w ⟨g,(E.bt b).off p,none⟩ cs∧RC E w u cs:=by
 cases k with
 |
  var t v=>
  obtain⟨h1,h2,g,c,e,h3,h4,h5⟩:=h
  rw[h1] at hv ⊢
  obtain⟨s,e1,e2,e3,e4⟩:=AV.jn h5 h2 hv hr
  exact⟨g,s,_,h3,e1,e2,tX.of_heap h4 _ _,e4⟩
 |
  row e bs t xs=>
  obtain⟨h1,h2,h3,h4,a,cap,h5,h6,h7⟩:=h
  rw[h1] at hv ⊢
  cases p with
  |nil=>trivial
  |
   cons s p=>
   cases s with
   |d6 k=>trivial
   |
    idx i=>
    have hi:i<xs.length:=hv.1
    rcases h7 with⟨_,_,h9⟩|⟨g,c,h7,h8,h9,h10,h11,h12⟩
    ·grind
    ·have hR:Rel w E.S (.arr xs.length t) (c.toList.take (xs.length*t.size)) xs:=⟨rfl,h12⟩
     obtain⟨s,e1,e2,e3,e4⟩:=wC hR hv hr
     refine⟨g,s,_,h7,e1,e2,?_,e4⟩
     grind [qP,tX.of_heap]
 |
  dB e bs t xs i v=>
  obtain⟨h1,h2,h3,h4,h5,h6,g,cap,c,q1,q2,q3,q4,q5,q6,q7,q8,q9⟩:=h
  rw[h1] at hv ⊢
  unfold tE at hr
  split at hr
  ·grind
  ·grind
  ·rename_i p hk
   cases hk
   have hv':t.valid p:=hv
   obtain⟨s,e1,e2,e3,e4⟩:=AV.jn q8 h6 hv' hr
   refine⟨g,s,_,q3,e1,e2,?_,e4⟩
   rw[gE,List.length_drop] at e3
   rw[qP,tB,rG (by omega),oc]
   have:=tX.of_heap q4 (i*t.size+t.off p) s.size
   trivial
  ·grind
  grind
 |
  eW e bs t xs e2 f=>
  obtain⟨h1,h2,h3,h4,h5,g,cap,c,og,q1,q2,q3,q4,q5,q6,q7,q8⟩:=h
  unfold tE at hr
  split at hr
  ·grind
  ·grind
  ·grind
  ·rename_i _ _ _ _ _ i v p hk
   cases hk
   obtain⟨hi,hconf⟩:=h5 i v rfl
   obtain⟨u',r1,r2,_⟩:=q8 i (xs.getD i t.aH) (by grind)
   obtain⟨_,r2⟩:=r2 v rfl
   rw[h1] at hv ⊢
   have hv':t.valid p:=hv
   obtain⟨s,e1,e2,e3,e4⟩:=AV.jn r2 hconf hv' hr
   have hmid:(c.toList.drop (i*t.size)).take t.size= [u']:=by
    rw[h2,Nat.mul_one]
    grind [iA]
   rw[←hmid] at e3 e4
   refine⟨g,s,_,q3,e1,e2,?_,e4⟩
   rw[gE,List.length_drop] at e3
   rw[qP,tB,rG (by omega),oc]
   have:=tX.of_heap q4 (i*t.size+t.off p) s.size
   trivial
  grind
 |_=>trivial
theorem oN{P:Program}{G:dq}(T:cQ P G){t:TypeId}{td:TD}(ht:G.at t=some td){E:Env}{w:World}{a:Addr}{cs:List Value}{u:AV}(hr:tX w a cs)(hc:RC E w u cs)(hu:u.dY td.ty=true):
 ∃v,(Instr.loadAt t (.pointer (some a))).run P w= .ok v w∧RV E w u v:=by
 have hl:=RC.len hc
 have hs:=AV.hH hu
 have ha:=AV.lL hu
 have hcells:=run_loadCells_list (P:=P) w a cs hr
 by_cases ao2:td.ty.isAgg=true
 ·refine⟨.agg cs.toArray,?_,RV.gZ (Or.inl ⟨by grind,cs.toArray,rfl,by grind⟩)⟩
  have:cs.length=td.ty.size:=by omega
  simp[Instr.loadAt,Instr.sureAddr,loadVar,T.isAgg ht,T.size ht,ao2,←this,hcells]
 ·have hagg':td.ty.isAgg=false:=by grind
  have h1:td.ty.size=1:=by cases h:td.ty<;>rw[h] at hagg'<;>simp[Ty.isAgg] at hagg'<;>rfl
  obtain⟨v,rfl⟩:∃v,cs= [v]:=by
   match cs,hl with
   |[v],_=>grind
   |[],hl=>grind
   |_::_::_,hl=>grind
  have h0:w.cell? a=some v:=by
   have:=hr 0 v rfl
   trivial
  exact⟨v,by simp[Instr.loadAt,Instr.sureAddr,loadVar,T.isAgg ht,hagg',h0],RV.gZ (Or.inr ⟨by grind,hc⟩)⟩
def zn(G:dq)(hb:Nat→Option aX)(t:TypeId):AV→Option AV
 |
  .ptr b p=>match G.at t,hb b with
  |
   some td,some k=>match tE k p with
   |some u=>if u.dY td.ty then some u else none
   |none=>none
  |_,_=>none
 |
  .dk u x=>match G.at t with
  |some td=>if Ty.same u td.ty then some (.val u x) else none
  |none=>none
 |_=>none
def HB(hb:Nat→Option aX)(hp:List (Option aX)):Prop:=∀b k,hb b=some k→hp[b]? =some (some k)
theorem wH{P:Program}{G:dq}(T:cQ P G){gl:Ctx}{E:Env}{w:World}{hp:List (Option aX)}(hw:HW gl E w hp){hb:Nat→Option aX}(hB:HB hb hp){t:TypeId}{x u:AV}{vx:Value}(hx:RV E w x vx)(h:zn G hb t x=some u):
 ∃v,(Instr.loadAt t vx).run P w= .ok v w∧RV E w u v:=by
 unfold zn at h
 split at h
 ·rename_i b p
  split at h
  ·rename_i td k ht hk
   split at h
   ·rename_i y hy
    split at h
    ·rename_i hc
     cases h
     have hx:=RV.atom rfl hx
     obtain⟨g,hg,e,hv⟩:=hx
     simp at e;subst e
     obtain⟨g',s,cs,h1,h2,h3,h4,h5⟩:=uT (hw.eJ b k (hB b k hk)) hv hy
     grind [oN]
    grind
   grind
  grind
 ·rename_i ty x
  split at h
  ·rename_i td ht
   split at h
   ·rename_i hc
    cases h
    have hx:=RV.atom rfl hx
    obtain⟨b,o,cs,e,h1,h2,h3⟩:=hx
    simp at e;subst e
    exact oN T ht h2 (u:=.val ty x) h3 hc
   grind
  grind
 grind
theorem Ty.pE:∀{t s:Ty}{p q:Path},t.sub p=some s→t.sub (p++q)=s.sub q∧t.off (p++q)=t.off p+s.off q∧(t.valid p→s.valid q→t.valid (p++q)):=by
 intro t
 have base:∀{t s:Ty}{q:Path},t.sub []=some s→t.sub ([]++q)=s.sub q∧t.off ([]++q)=t.off []+s.off q∧(t.valid []→s.valid q→t.valid ([]++q)):=by
  simp_all[Ty.sub,Ty.off]
 induction t with
 |
  pair a b ih1 ih2=>
  intro s p q h
  cases p with
  |nil=>grind
  |
   cons x p=>
   cases x with
   |
    d6 k=>
    cases k with
    |
     zero=>
     obtain⟨h1,h2,h3⟩:=ih1 (q:=q) h
     trivial
    |
     succ k=>
     obtain⟨h1,h2,h3⟩:=ih2 (q:=q) (p:=.d6 k::p) h
     refine⟨h1,?_,h3⟩
     grind [Ty.off]
   |idx i=>trivial
 |
  arr n t ih=>
  intro s p q h
  cases p with
  |nil=>grind
  |
   cons x p=>
   cases x with
   |d6 k=>trivial
   |
    idx i=>
    obtain⟨h1,h2,h3⟩:=ih (q:=q) h
    refine⟨h1,?_,fun⟨hi,hv⟩ hq=>⟨hi,h3 hv hq⟩⟩
    grind [Ty.off]
 |
  fns n=>
  intro s p q h
  cases p with
  |nil=>grind
  |
   cons x p=>
   cases x with
   |d6 k=>trivial
   |
    idx i=>
    cases p with
    |cons _ _=>trivial
    |
     nil=>
     cases h
     cases q with
     |nil=>exact⟨rfl,rfl,fun h _=>h⟩
     |cons y q=>exact⟨by trivial,by trivial,fun _ h=>by cases h⟩
 |
  _=>
  grind [Ty.sub]
theorem pF{G:dq}:∀{fs:List Field}{o:Nat}{t:Ty}{i:Nat}{s:Ty},dS G fs o t=true→t.sub [.d6 i]=some s→
 ∃f td,fs[i]? =some f∧G.at f.type=some td∧td.ty=s∧f.offset=o+t.off [.d6 i]∧0<s.size∧t.valid [.d6 i]
 |
  [],o,t,i,s,h,hs=>by
  grind [dS,Ty.sub]
 |
  f::fs,o,t,i,s,h,hs=>by
  cases t with
  |
   pair a b=>
   simp only[dS,bP] at h
   obtain⟨⟨⟨h1,h2⟩,h3⟩,h4⟩:=h
   cases i with
   |
    zero=>
    split at h1
    ·rename_i td htd
     have:a=s:=by
      grind [Ty.sub]
     subst this
     have ho:a.off []=0:=by cases a<;>rfl
     refine⟨f,td,rfl,htd,Ty.aE h1,?_,by simp_all,?_⟩
     ·grind [Ty.off,dm]
     ·simp only[Ty.valid]
    grind
   |
    succ i=>
    obtain⟨f',td,e1,e2,e3,e4,e5,e6⟩:=pF h4 (i:=i) hs
    refine⟨f',td,by grind,e2,e3,?_,e5,e6⟩
    simp only[Ty.off];omega
  |_=>trivial
theorem cQ.struct{P:Program}{G:dq}(T:cQ P G){t:TypeId}{td:TD}(h:G.at t=some td){i:Nat}{s:Ty}(hs:td.ty.sub [.d6 i]=some s):
 ∃fs f tf,P.underlying t=some (.struct fs)∧fs[i]? =some f∧G.at f.type=some tf∧tf.ty=s∧f.offset=td.ty.off [.d6 i]∧0<s.size∧td.ty.valid [.d6 i]:=by
 obtain⟨ii,d,_,h1,_,h2,_⟩:=T.info h
 have ao2:=fI h2
 cases hd:d with
 |
  struct fs=>
  subst hd
  obtain⟨f,tf,e1,e2,e3,e4,e5,e6⟩:=pF (fs:=fs.toList) (o:=0) h2 hs
  grind
 |
  array n e=>
  subst hd
  simp only[d7] at h2
  rw[jV] at h2
  rcases h2 with h2|h2
  ·grind [Ty.sub]
  simp only[bP] at h2
  grind [Ty.sub]
 |
  _=>
  subst hd
  simp only[fR] at ao2
  cases ht:td.ty<;>rw[ht] at ao2 hs<;>simp[Ty.isAgg] at ao2<;>simp[Ty.sub] at hs
theorem xj{P:Program}{G:dq}(T:cQ P G){t:TypeId}{td:TD}(h:G.at t=some td){i:Nat}{s:Ty}(hs:td.ty.sub [.d6 i]=some s)(w:World)(g o:Nat):
 (Instr.fieldAt t (.pointer (some ⟨g,o,none⟩)) i).run P w= .ok (.pointer (some ⟨g,o+td.ty.off [.d6 i],none⟩)) w:=by
 obtain⟨fs,f,tf,h1,h2,h3,h4,h5,h6,_⟩:=T.struct h hs
 have hsz:=T.size h3 w
 rw[h4] at hsz
 have hne:¬s.size=0:=by omega
 simp_all[Addr.add,Instr.fieldAt,underlying,Instr.sureAddr,fieldPlace]
def kN(G:dq)(hb:Nat→Option aX)(t:TypeId)(i:Nat):AV→Option AV
 |
  .ptr b p=>match G.at t,hb b with
  |
   some td,some k=>match(mG k).sub p,td.ty.sub [.d6 i] with
   |some u,some _=>if Ty.same u td.ty then some (.ptr b (p++[.d6 i])) else none
   |_,_=>none
  |_,_=>none
 |
  .dk u x=>match G.at t with
  |
   some td=>match td.ty.sub [.d6 i],jE u x [.d6 i] with
   |some _,some (.val v y)=>if Ty.same u td.ty then some (.dk v y) else none
   |_,_=>none
  |none=>none
 |_=>none
theorem sO{k:aX}{p:Path}{q:PS}{u:Ty}{s:Ty}(h:(mG k).sub p=some u)(hs:u.sub [q]=some s):k.mem=true:=by
 cases k with
 |var t v=>rfl
 |row e bs t xs=>rfl
 |dB e bs t xs i v=>rfl
 |eW e bs t xs e2 f=>rfl
 |_=>grind [mG,Ty.sub]
theorem rL{P:Program}{G:dq}(T:cQ P G){gl:Ctx}{E:Env}{w:World}{hp:List (Option aX)}(hw:HW gl E w hp){hb:Nat→Option aX}(hB:HB hb hp){t:TypeId}{i:Nat}{x u:AV}{vx:Value}(hx:RV E w x vx)(h:kN G hb t i x=some u):
 ∃v,(Instr.fieldAt t vx i).run P w= .ok v w∧RV E w u v:=by
 unfold kN at h
 split at h
 ·rename_i b p
  split at h
  ·rename_i td k ht hk
   split at h
   ·rename_i u' s hu hs
    split at h
    ·rename_i hsame
     cases h
     have:=Ty.aE hsame;subst this
     obtain⟨g,hg,e,hv⟩:=RV.atom rfl hx
     simp at e;subst e
     have hbt:=RB.bt (hw.eJ b k (hB b k hk)) (sO hu hs)
     rw[←hbt] at hu
     obtain⟨_,h2,h3⟩:=Ty.pE (q:=[.d6 i]) hu
     obtain⟨_,_,_,_,_,_,_,_,_,ape⟩:=T.struct ht hs
     exact⟨_,xj T ht hs w g _,RV.gZ (Or.inr ⟨rfl,g,hg,by rw[h2],h3 hv ape⟩)⟩
    grind
   grind
  grind
 ·rename_i ty y
  split at h
  ·rename_i td ht
   split at h
   ·rename_i s v' y' hs hg
    split at h
    ·rename_i hsame
     cases h
     have:=Ty.aE hsame;subst this
     obtain⟨b,o,cs,e,h1,h2,h3⟩:=RV.atom rfl hx
     simp at e;subst e
     obtain⟨_,_,_,_,_,_,_,_,_,ape⟩:=T.struct ht hs
     obtain⟨s',e1,e2,e3,e4⟩:=wC (E:=E) h3 ape hg
     exact⟨_,xj T ht hs w b o,RV.gZ (Or.inr ⟨rfl,b,_,_,rfl,h1,h2.sub _ _,e4⟩)⟩
    grind
   grind
  grind
 grind
end Go.Ax
namespace Go.Ax
theorem cQ.eK{P:Program}{G:dq}(T:cQ P G){t:TypeId}{td:TD}(h:G.at t=some td){bs:Nat}{u:Ty}(hs:td.ty= .slice bs u):
 ∃te ie,P.underlying t=some (.slice td.e)∧G.at td.e=some te∧te.ty=u∧P.info? td.e=some ie∧ie.bytes=bs∧0<u.size∧0<bs:=by
 obtain⟨ii,d,_,h1,_,h2,_⟩:=T.info h
 have ao2:=fI h2
 cases hd:d with
 |
  slice e=>
  subst hd
  simp only[d7] at h2
  rw[jV] at h2
  rcases h2 with h2|h2
  ·grind [Ty.aE]
  simp only[bP] at h2
  obtain⟨h3,h2⟩:=h2
  have h3:=dm h3
  subst h3
  split at h2
  ·rename_i bs' u' te ie e1 e2 e3
   rw[hs] at e1;cases e1
   simp only[bP] at h2
   obtain⟨⟨⟨h4,h5⟩,h6⟩,h7⟩:=h2
   exact⟨te,ie,h1,e2,Ty.aE h4,e3,dm h5,by simp_all,by simp_all⟩
  grind
 |
  struct fs=>
  subst hd
  simp only[fR] at ao2
  rw[hs] at ao2;trivial
 |
  array n e=>
  subst hd
  simp only[fR] at ao2
  rw[hs] at ao2;trivial
 |
  map k e=>
  subst hd
  have:=(mM h2).1;rw[hs] at this;trivial
 |
  _=>
  subst hd
  simp only[d7] at h2
  first
   |(have:=Ty.aE h2;rw[hs] at this;cases this)
   |cases h2
theorem cQ.uU{P:Program}{G:dq}(T:cQ P G){t:TypeId}{td:TD}(h:G.at t=some td){n:Nat}{u:Ty}(hs:td.ty= .arr n u):
 ∃te,P.underlying t=some (.array n td.e)∧G.at td.e=some te∧te.ty=u:=by
 obtain⟨ii,d,_,h1,_,h2,_⟩:=T.info h
 have ao2:=fI h2
 cases hd:d with
 |
  array m e=>
  subst hd
  simp only[d7] at h2
  rw[jV] at h2
  rcases h2 with h2|h2
  ·grind
  simp only[bP] at h2
  obtain⟨h3,h2⟩:=h2
  have h3:=dm h3
  subst h3
  split at h2
  ·rename_i m' u' te ie e1 e2 e3
   rw[hs] at e1;cases e1
   simp only[bP] at h2
   grind [dm,Ty.aE]
  grind
 |
  struct fs=>
  grind [d7,dS]
 |
  _=>
  subst hd
  simp only[fR] at ao2
  rw[hs] at ao2;cases ao2
theorem iI{P:Program}{G:dq}(T:cQ P G){t:TypeId}{td:TD}(h:G.at t=some td){bs:Nat}{u:Ty}(hs:td.ty= .slice bs u)(w:World)(g o len cap:Nat)(k:IntKind)(i:Int)(hi:0≤i∧i<len):
 (Instr.indexAt t (.slice (some ⟨g,o,none⟩) len cap) (.int k i)).run P w= .ok (.pointer (some ⟨g,o+i.toNat*u.size,none⟩)) w:=by
 obtain⟨te,ie,h1,h2,h3,_⟩:=T.eK h hs
 have hsz:=T.size h2 w
 rw[h3] at hsz
 have ha:((⟨g,o,none⟩:Addr).add (i.toNat*u.size))=⟨g,o+i.toNat*u.size,none⟩:=by
  unfold Addr.add;grind
 simp[Instr.indexAt,underlying,h1,asIntOf,hi,hsz,ha]
theorem rM{P:Program}{G:dq}(T:cQ P G){t:TypeId}{td:TD}(h:G.at t=some td){n:Nat}{u:Ty}(hs:td.ty= .arr n u)(w:World)(g o:Nat)(k:IntKind)(i:Int)(hi:0≤i∧i<n):
 (Instr.indexAt t (.pointer (some ⟨g,o,none⟩)) (.int k i)).run P w= .ok (.pointer (some ⟨g,o+i.toNat*u.size,none⟩)) w:=by
 obtain⟨te,h1,h2,h3⟩:=T.uU h hs
 have hsz:=T.size h2 w
 rw[h3] at hsz
 have ha:((⟨g,o,none⟩:Addr).add (i.toNat*u.size))=⟨g,o+i.toNat*u.size,none⟩:=by
  unfold Addr.add;grind
 simp[Instr.indexAt,underlying,h1,asIntOf,hi,hsz,ha,Instr.sureAddr]
theorem cQ.M6{P:Program}{G:dq}(T:cQ P G){t:TypeId}{td:TD}(h:G.at t=some td){n:Nat}(hs:td.ty= .fns n):
 ∃te,P.underlying t=some (.array n td.e)∧G.at td.e=some te∧te.ty= .aY .func:=by
 obtain⟨ii,d,_,h1,_,h2,_⟩:=T.info h
 have ao2:=fI h2
 cases hd:d with
 |
  array m e=>
  subst hd
  simp only[d7] at h2
  rw[jV] at h2
  rcases h2 with h2|h2
  ·split at h2
   ·rename_i m' te e1 e2
    rw[hs] at e1;cases e1
    simp only[bP] at h2
    grind [dm,Ty.aE]
   grind
  grind
 |
  struct fs=>
  grind [d7,dS]
 |
  _=>
  subst hd
  simp only[fR] at ao2
  rw[hs] at ao2;cases ao2
theorem zo{P:Program}{G:dq}(T:cQ P G){t:TypeId}{td:TD}(h:G.at t=some td){n:Nat}(hs:td.ty= .fns n)(w:World)(g o:Nat)(k:IntKind)(i:Int)(hi:0≤i∧i<n):
 (Instr.indexAt t (.pointer (some ⟨g,o,none⟩)) (.int k i)).run P w= .ok (.pointer (some ⟨g,o+i.toNat,none⟩)) w:=by
 obtain⟨te,h1,h2,h3⟩:=T.M6 h hs
 have hsz:=T.size h2 w
 rw[h3] at hsz
 have ha:((⟨g,o,none⟩:Addr).add (i.toNat))=⟨g,o+i.toNat,none⟩:=by
  unfold Addr.add;grind
 simp[Instr.indexAt,underlying,h1,asIntOf,hi,hsz,ha,Instr.sureAddr,Ty.size]
def mO(G:dq)(hb:Nat→Option aX)(t:TypeId)(x:AV)(i:Int):Option (AV×List VC):=
 match G.at t with
 |
  some td=>
  match td.ty,x with
  | .slice bs u,.val (.slice bs' u') xs=>if Nat.beq bs bs'&&Ty.same u u' then some (.dk u' (xs.getD i.toNat u'.aH),[vc (0≤i),vc (i<xs.length)]) else none
  |
   .slice _ u,.own b=>match hb b with
   |some (.row _ _ u' xs)=>if Ty.same u u' then some (.ptr b [.idx i.toNat],[vc (0≤i),vc (i<xs.length)]) else none
   |some (.dB _ _ u' _xs j _)=>if Ty.same u u' then some (.ptr b [.d6 1],[vc (0≤i),vc (i.toNat=j)]) else none
   |some (.eW _ _ u' _ _ (some (j,_)))=>if Ty.same u u' then some (.ptr b [.d6 1],[vc (0≤i),vc (i.toNat=j)]) else none
   |_=>none
  |
   .slice _ u,.nQ b lo len=>match hb b with
   |some (.row _ _ u' _)=>if Ty.same u u' then some (.ptr b [.idx (lo+i.toNat)],[vc (0≤i),vc (i<len)]) else none
   |_=>none
  |
   .slice _ u,.mL b p lo len=>match hb b with
   |
    some (.var tt _)=>match tt.sub p with
    |some (.arr _ u')=>if Ty.same u u' then some (.ptr b (p++[.idx (lo+i.toNat)]),[vc (0≤i),vc (i<len)]) else none
    |_=>none
   |_=>none
  |
   .arr n u,.ptr b p=>match hb b with
   |
    some k=>match(mG k).sub p with
    |some (.arr n' u')=>if Ty.same u u'&&Nat.beq n n' then some (.ptr b (p++[.idx i.toNat]),[vc (0≤i),vc (i<n)]) else none
    |_=>none
   |_=>none
  |
   .fns n,.ptr b p=>match hb b with
   |
    some k=>match(mG k).sub p with
    |some (.fns n')=>if Nat.beq n n' then some (.ptr b (p++[.idx i.toNat]),[vc (0≤i),vc (i<n)]) else none
    |_=>none
   |_=>none
  | .arr n u,.dk (.arr n' u') xs=>if Ty.same u u'&&Nat.beq n n' then some (.dk u' (List.getD xs i.toNat u'.aH),[vc (0≤i),vc (i<n)]) else none
  |_,_=>none
 |none=>none
def oh(G:dq)(hb:Nat→Option aX)(t:TypeId)(x:AV):AV→Option (AV×List VC)
 | .val (.int _) i=>mO G hb t x i
 |_=>none
theorem Ty.pI(t:Ty):t.off []=0:=by cases t<;>rfl
theorem Ty.kO(t:Ty):t.valid []:=by cases t<;>trivial
theorem Ty.JS(t:Ty):t.sub []=some t:=by cases t<;>rfl
theorem xO{P:Program}{G:dq}(T:cQ P G){gl:Ctx}{E:Env}{w:World}{hp:List (Option aX)}(hw:HW gl E w hp){hb:Nat→Option aX}(hB:HB hb hp){t:TypeId}{x u:AV}{vx:Value}{k:IntKind}{i:Int}{vc:List VC}(hx:RV E w x vx)(h:mO G hb t x i=some (u,vc))(hvc0:gm vc):
 ∃v,(Instr.indexAt t vx (.int k i)).run P w= .ok v w∧RV E w u v:=by
 unfold mO at h
 split at h
 ·rename_i td ht
  split at h
  ·rename_i bs u bs' u' xs hty
   split at h
   ·rename_i hc
    cases h
    have hvc:=And.intro hvc0.1 hvc0.2.1
    simp only[bP] at hc
    have:=dm hc.1;subst this
    have:=Ty.aE hc.2;subst this
    obtain⟨a,cap,e,h1,h2,h3,h4⟩:=RV.atom rfl hx
    simp at e;subst e
    rcases h4 with h4|⟨b,o,cs,e1,e2,e3,e4⟩
    ·subst h4;simp at hvc;exact absurd hvc.2 (by omega)
    ·subst e1
     have hlt:i.toNat<xs.length:=by omega
     have apf:=bO.get (fun _ _=>Rel.len) u.aH i.toNat e4 hlt
     exact⟨_,iI T ht hty w b o _ cap k i hvc,RV.gZ (Or.inr ⟨rfl,b,_,_,rfl,e2,e3.sub _ _,apf⟩)⟩
   ·cases h
  ·rename_i bs u b hty
   split at h
   ·rename_i e bs2 u' xs hk
    split at h
    ·rename_i hc
     cases h
     have hvc:=And.intro hvc0.1 hvc0.2.1
     have:=Ty.aE hc;subst this
     have hx:=RV.atom rfl hx
     simp only[RC,List.cons.injEq,nc] at hx
     have hx:=hx.1
     subst hx
     obtain⟨h1,h2,h3,h4,a,cap,h5,h6,h7⟩:=hw.eJ b _ (hB b _ hk)
     rw[h5]
     rcases h7 with⟨_,_,h9⟩|⟨g,c,h7,h8,h9,h10,h11,h12⟩
     ·subst h9;simp at hvc;exact absurd hvc.2 (by omega)
     ·subst h8
      refine⟨_,iI T ht hty w g 0 _ cap k i hvc,RV.gZ (Or.inr ⟨rfl,g,h7,?_,?_⟩)⟩
      ·rw[h1];simp[Ty.off,Ty.pI]
      ·rw[h1];exact⟨by omega,Ty.kO _⟩
    ·cases h
   ·rename_i e bs2 u' xs j v hk
    split at h
    ·rename_i hc
     cases h
     have hvc:=And.intro hvc0.1 hvc0.2.1
     have:=Ty.aE hc;subst this
     have hx:=RV.atom rfl hx
     simp only[RC,List.cons.injEq,nc] at hx
     have hx:=hx.1
     subst hx
     obtain⟨h1,h2,h3,h4,h5,h6,g,cap,c,q1,q2,q3,q4,q5,q6,q7,q8,q9⟩:=hw.eJ b _ (hB b _ hk)
     rw[q1]
     have hij:i.toNat=j:=hvc.2
     have h0:0≤i:=hvc.1
     refine⟨_,iI T ht hty w g 0 _ cap k i ⟨h0,by omega⟩,RV.gZ (Or.inr ⟨rfl,g,q3,?_,?_⟩)⟩
     ·rw[h1,hij];simp[rH,Ty.off,Ty.pI,Ty.size]
     ·rw[h1];exact Ty.kO u
    ·cases h
   ·rename_i e bs2 u' xs e2 j v hk
    split at h
    ·rename_i hc
     cases h
     have hvc:=And.intro hvc0.1 hvc0.2.1
     have:=Ty.aE hc;subst this
     have hx:=RV.atom rfl hx
     simp only[RC,List.cons.injEq,nc] at hx
     have hx:=hx.1
     subst hx
     obtain⟨h1,h2,h3,h4,h5,g,cap,c,og,q1,q2,q3,q4,q5,q6,q7,q8⟩:=hw.eJ b _ (hB b _ hk)
     rw[q1]
     have hij:i.toNat=j:=hvc.2
     have h0:0≤i:=hvc.1
     have hj:=(h5 j v rfl).1
     refine⟨_,iI T ht hty w g 0 _ cap k i ⟨h0,by omega⟩,RV.gZ (Or.inr ⟨rfl,g,q3,?_,?_⟩)⟩
     ·rw[h1,hij];simp[zh,rH,Ty.off,Ty.pI,Ty.size]
     ·rw[h1];exact Ty.kO u
    ·cases h
   ·cases h
  ·rename_i bs u b lo len hty
   split at h
   ·rename_i e bs2 u' xs hk
    split at h
    ·rename_i hc
     cases h
     have hvc:=And.intro hvc0.1 hvc0.2.1
     have:=Ty.aE hc;subst this
     obtain⟨a,c0,n,tt,r1,r2,r3,r4,a2,e,r6⟩:=RV.atom rfl hx
     simp at e;subst e
     obtain⟨h1,h2,h3,h4,a',cap,h5,h6,h7⟩:=hw.eJ b _ (hB b _ hk)
     rw[h1] at r1;cases r1
     rw[h5] at r2;cases r2
     rcases h7 with⟨_,_,h9⟩|⟨g,c,h7,h8,h9,h10,h11,h12⟩
     ·subst h9;simp at r3;exact absurd hvc.2 (by omega)
     ·subst h8
      have had:a2=some ⟨g,lo*u.size,none⟩:=by
       rcases r6 with r6|r6
       ·omega
       ·rw[r6];simp only[Option.map_some,fG];unfold Addr.add;split<;>simp_all
      rw[had]
      refine⟨_,iI T ht hty w g _ _ _ k i hvc,RV.gZ (Or.inr ⟨rfl,g,h7,?_,?_⟩)⟩
      ·rw[h1];simp only[Ty.off,Ty.pI];rw[iW];simp
      ·rw[h1];exact⟨by omega,Ty.kO _⟩
    ·cases h
   ·cases h
  ·rename_i bs u b p lo len hty
   split at h
   ·rename_i tt v hk
    split at h
    ·rename_i n u' apk
     split at h
     ·rename_i hc
      cases h
      have hvc:=And.intro hvc0.1 hvc0.2.1
      have:=Ty.aE hc;subst this
      obtain⟨n2,t2,r1,r2,r3,a,cap,e,r4,r5⟩:=RV.atom rfl hx
      simp at e;subst e
      obtain⟨h1,h2,g,c,e2,h3,h4,h5⟩:=hw.eJ b _ (hB b _ hk)
      rw[h1,apk] at r1;cases r1
      rcases r5 with r5|⟨g',r5,r6⟩
      ·subst r5;omega
      ·rw[h3] at r5;cases r5
       subst r6
       obtain⟨q1,q2,q3⟩:=Ty.pE (q:=[.idx (lo+i.toNat)]) apk
       refine⟨_,iI T ht hty w g _ _ _ k i hvc,RV.gZ (Or.inr ⟨rfl,g,h3,?_,?_⟩)⟩
       ·rw[h1,q2];simp only[Ty.off,Ty.pI];rw[iW];simp;omega
       ·rw[h1];refine q3 (by rw[←h1];exact r2) ⟨by omega,Ty.kO _⟩
     ·cases h
    ·cases h
   ·cases h
  ·rename_i n u b p hty
   split at h
   ·rename_i kk hk
    split at h
    ·rename_i n' u' apk
     split at h
     ·rename_i hc
      cases h
      have hvc:=And.intro hvc0.1 hvc0.2.1
      simp only[bP] at hc
      have:=Ty.aE hc.1;subst this
      have:=dm hc.2;subst this
      obtain⟨g,hg,e,hv⟩:=RV.atom rfl hx
      simp at e;subst e
      have hbt:=RB.bt (hw.eJ b kk (hB b kk hk)) (sO (q:=.idx 0) (s:=u) apk (by simp[Ty.sub,Ty.JS]))
      rw[←hbt] at apk
      obtain⟨q1,q2,q3⟩:=Ty.pE (q:=[.idx i.toNat]) apk
      refine⟨_,rM T ht hty w g _ k i hvc,RV.gZ (Or.inr ⟨rfl,g,hg,?_,?_⟩)⟩
      ·rw[q2];simp only[Ty.off,Ty.pI];simp
      ·exact q3 hv ⟨by omega,Ty.kO _⟩
     ·cases h
    ·cases h
   ·cases h
  ·rename_i n b p hty
   split at h
   ·rename_i kk hk
    split at h
    ·rename_i n' apk
     split at h
     ·rename_i hc
      cases h
      have hvc:=And.intro hvc0.1 hvc0.2.1
      have:=dm hc;subst this
      obtain⟨g,hg,e,hv⟩:=RV.atom rfl hx
      simp at e;subst e
      have hbt:=RB.bt (hw.eJ b kk (hB b kk hk)) (sO (q:=.idx 0) (s:=.aY .func) apk rfl)
      rw[←hbt] at apk
      obtain⟨q1,q2,q3⟩:=Ty.pE (q:=[.idx i.toNat]) apk
      refine⟨_,zo T ht hty w g _ k i hvc,RV.gZ (Or.inr ⟨rfl,g,hg,?_,?_⟩)⟩
      ·rw[q2];simp only[Ty.off]
      ·exact q3 hv (by show i.toNat<n;omega)
     ·cases h
    ·cases h
   ·cases h
  ·rename_i n u n' u' xs hty
   split at h
   ·rename_i hc
    cases h
    have hvc:=And.intro hvc0.1 hvc0.2.1
    simp only[bP] at hc
    have:=Ty.aE hc.1;subst this
    have:=dm hc.2;subst this
    obtain⟨b,o,cs,e,h1,h2,h3⟩:=RV.atom rfl hx
    simp at e;subst e
    obtain⟨hn,h3⟩:=h3
    have hlt:i.toNat<List.length xs:=by omega
    have apf:=bO.get (fun _ _=>Rel.len) u.aH i.toNat h3 hlt
    exact⟨_,rM T ht hty w b o k i hvc,RV.gZ (Or.inr ⟨rfl,b,_,_,rfl,h1,h2.sub _ _,apf⟩)⟩
   ·cases h
  ·cases h
 grind
theorem zp{P:Program}{G:dq}(T:cQ P G){gl:Ctx}{E:Env}{w:World}{hp:List (Option aX)}(hw:HW gl E w hp){hb:Nat→Option aX}(hB:HB hb hp){t:TypeId}{x y u:AV}{vx vy:Value}{vc:List VC}(hx:RV E w x vx)(hy:RV E w y vy)(h:oh G hb t x y=some (u,vc))(hvc:gm vc):
 ∃v,(Instr.indexAt t vx vy).run P w= .ok v w∧RV E w u v:=by
 unfold oh at h
 split at h
 ·obtain⟨rfl,_⟩:=RV.fw hy
  exact xO T hw hB hx h hvc
 grind
theorem yf(l:List UInt8):(ByteArray.mk l.toArray).size=l.length:=by trivial
def mH(n:Nat):AV:=.val (.int .i64) (n:Int)
def M7(G:dq)(hb:Nat→Option aX)(t:TypeId)(x:AV):Option AV:=
 match G.at t with
 |
  some td=>
  match td.ty,x with
  | .slice _ _,.val (.slice _ _) xs=>some (mH xs.length)
  | .slice _ _,.aM=>some (mH 0)
  |
   .slice _ _,.own b=>match hb b with
   |some (.row _ _ _ xs)=>some (mH xs.length)
   |some (.dB _ _ _ xs _ _)=>some (mH xs.length)
   |some (.eW _ _ _ xs _ _)=>some (mH xs.length)
   |_=>none
  |
   .slice _ _,.nQ b _ len=>match hb b with
   |some (.row _ _ _ xs)=>if Nat.ble 1 1 then some (mH len) else(some (mH xs.length))
   |_=>none
  |
   .slice _ _,.mL b p _ len=>match hb b with
   |
    some (.var tt _)=>match tt.sub p with
    |some (.arr n _)=>if Nat.ble n aF then some (mH len) else none
    |_=>none
   |_=>none
  | .str,.val .str s=>some (mH s.length)
  | .aY .map,.ia=>some (mH 0)
  |
   .aY .map,.mp b=>match hb b with
   |some (.map _ _ es)=>some (mH es.length)
   |_=>none
  | .map _ _,.ia=>some (mH 0)
  |
   .map _ _,.mp b=>match hb b with
   |some (.map _ _ es)=>some (mH es.length)
   |_=>none
  | .map _ _,.val (.map _ _) y=>some (mH (List.length (bA y)))
  |_,_=>none
 |none=>none
theorem RV.len{E:Env}{w:World}{n:Nat}(h:n≤aF):RV E w (mH n) (goInt n):=by
 refine RV.int (k:=.i64) ?_
 unfold aF at h
 have h1:IntKind.i64.min= -9223372036854775808:=by decide
 have h2:IntKind.i64.max=9223372036854775807:=by decide
 omega
theorem RM.len{E:Env}{w:World}{k v:Ty}:∀{l:List MapEntry}{xs:List (k.den×v.den)},RM E w k v l xs→l.length=xs.length
 |[],[],_=>rfl
 |[],_::_,h=>h.elim
 |_::_,[],h=>h.elim
 |_::l,_::xs,h=>by simp[RM.len h.2.2]
theorem cQ.strOf{P:Program}{G:dq}(T:cQ P G){t:TypeId}{td:TD}(h:G.at t=some td)(hs:td.ty= .str):P.underlying t=some .string:=by
 obtain⟨ii,d,_,h1,_,h2,_⟩:=T.info h
 have ao2:=fI h2
 rw[h1]
 cases hd:d with
 |string=>rfl
 |struct fs=>subst hd;simp only[fR] at ao2;rw[hs] at ao2;trivial
 |array n e=>subst hd;simp only[fR] at ao2;rw[hs] at ao2;trivial
 |
  slice e=>
  subst hd
  simp only[d7] at h2
  rw[jV] at h2
  rcases h2 with h2|h2
  ·grind [Ty.aE]
  grind
 |map k e=>subst hd;have:=(mM h2).1;rw[hs] at this;trivial
 |
  _=>
  subst hd
  simp only[d7] at h2
  first
   |(have:=Ty.aE h2;rw[hs] at this;cases this)
   |cases h2
theorem cQ.mapOf{P:Program}{G:dq}(T:cQ P G){t:TypeId}{td:TD}(h:G.at t=some td)(hs:td.ty.rK=true):P.underlying t=some (.map td.e td.e2):=by
 obtain⟨ii,d,_,h1,_,h2,_⟩:=T.info h
 have ao2:=fI h2
 rw[h1]
 cases hd:d with
 |
  map k e=>
  grind [mM]
 |struct fs=>subst hd;simp only[fR] at ao2;revert hs ao2;cases td.ty<;>simp[Ty.rK,Ty.isAgg]
 |array n e=>subst hd;simp only[fR] at ao2;revert hs ao2;cases td.ty<;>simp[Ty.rK,Ty.isAgg]
 |
  slice e=>
  subst hd
  simp only[d7] at h2
  rw[jV] at h2
  rcases h2 with h2|h2
  ·grind [Ty.aE,Ty.rK]
  simp only[bP] at h2
  grind [Ty.rK]
 |
  _=>
  subst hd
  simp only[d7] at h2
  first
   |(have:=Ty.aE h2;rw[this] at hs;simp[Ty.rK] at hs)
   |cases h2
theorem M8{P:Program}{G:dq}(T:cQ P G){gl:Ctx}{E:Env}{w:World}{hp:List (Option aX)}(hw:HW gl E w hp){hb:Nat→Option aX}(hB:HB hb hp){t ty:TypeId}{x u:AV}{vx:Value}(hx:RV E w x vx)(h:M7 G hb t x=some u):
 ∃v,(Builtin.len_ #[t] ty #[vx]).run P w= .ok v w∧RV E w u v:=by
 unfold M7 at h
 split at h
 ·rename_i td ht
  split at h
  ·rename_i bs u' bs' u2 xs hty
   cases h
   obtain⟨te,ie,h1,_⟩:=T.eK ht hty
   obtain⟨a,cap,e,_,_,h3,_⟩:=RV.atom rfl hx
   simp at e;subst e
   exact⟨_,by simp[Builtin.len_,underlying,h1],RV.len h3⟩
  ·rename_i bs u' hty
   cases h
   obtain⟨te,ie,h1,_⟩:=T.eK ht hty
   have hx:=RV.atom rfl hx
   simp[RC] at hx;subst hx
   exact⟨_,by simp[Builtin.len_,underlying,h1],RV.len (by unfold aF;omega)⟩
  ·rename_i bs u' b hty
   split at h
   ·rename_i e2 bs2 t2 xs hk
    cases h
    obtain⟨te,ie,h1,_⟩:=T.eK ht hty
    have hx:=RV.atom rfl hx
    simp only[RC,List.cons.injEq,nc] at hx
    have hx:=hx.1
    subst hx
    obtain⟨_,_,h3,_,a,cap,h5,_⟩:=hw.eJ b _ (hB b _ hk)
    rw[h5]
    exact⟨_,by simp[Builtin.len_,underlying,h1],RV.len h3⟩
   ·rename_i e2 bs2 t2 xs j v hk
    cases h
    obtain⟨te,ie,h1,_⟩:=T.eK ht hty
    have hx:=RV.atom rfl hx
    simp only[RC,List.cons.injEq,nc] at hx
    have hx:=hx.1
    subst hx
    obtain⟨_,_,_,h3,_,_,g,cap,c,h5,_⟩:=hw.eJ b _ (hB b _ hk)
    rw[h5]
    exact⟨_,by simp[Builtin.len_,underlying,h1],RV.len h3⟩
   ·rename_i e2 bs2 t2 xs e3 f hk
    cases h
    obtain⟨te,ie,h1,_⟩:=T.eK ht hty
    have hx:=RV.atom rfl hx
    simp only[RC,List.cons.injEq,nc] at hx
    have hx:=hx.1
    subst hx
    obtain⟨_,_,_,h3,_,g,cap,c,og,h5,_⟩:=hw.eJ b _ (hB b _ hk)
    rw[h5]
    exact⟨_,by simp[Builtin.len_,underlying,h1],RV.len h3⟩
   ·cases h
  ·rename_i bs u' b lo len hty
   split at h
   ·rename_i e2 bs2 t2 xs hk
    simp at h;subst h
    obtain⟨te,ie,h1,_⟩:=T.eK ht hty
    obtain⟨a,c,n,tt,r1,r2,r3,r4,a2,e,_⟩:=RV.atom rfl hx
    simp at e;subst e
    obtain⟨q1,_,h3,_,a',cap,h5,_⟩:=hw.eJ b _ (hB b _ hk)
    rw[r1] at q1;cases q1
    exact⟨_,by simp[Builtin.len_,underlying,h1],RV.len (by omega)⟩
   ·cases h
  ·rename_i bs u' b p lo len hty
   split at h
   ·rename_i tt v hk
    split at h
    ·rename_i n0 u0 apk
     split at h
     ·rename_i hn
      cases h
      obtain⟨te,ie,h1,_⟩:=T.eK ht hty
      obtain⟨n,t2,r1,r2,r3,a,cap,e,r4,r5⟩:=RV.atom rfl hx
      simp at e;subst e
      obtain⟨q1,_⟩:=hw.eJ b _ (hB b _ hk)
      rw[q1,apk] at r1;cases r1
      have:=jt hn
      exact⟨_,by simp[Builtin.len_,underlying,h1],RV.len (by omega)⟩
     ·cases h
    ·cases h
   ·cases h
  ·rename_i s hty
   cases h
   have h1:=T.strOf ht hty
   obtain⟨rfl,h2⟩:=RV.kr hx
   exact⟨goInt s.length,by simp[Builtin.len_,underlying,h1,yf],RV.len h2⟩
  ·rename_i hty
   cases h
   have h1:=T.mapOf ht (by rw[hty];rfl)
   have hx:=RV.atom rfl hx
   simp[RC] at hx;subst hx
   exact⟨_,by simp[Builtin.len_,underlying,h1],RV.len (by unfold aF;omega)⟩
  ·rename_i b hty
   split at h
   ·rename_i kt vt es hk
    cases h
    have h1:=T.mapOf ht (by rw[hty];rfl)
    obtain⟨g,hg,e⟩:=RV.atom rfl hx
    simp at e;subst e
    obtain⟨_,h2,g',en,clock,h3,h4,h5,_⟩:=hw.eJ b _ (hB b _ hk)
    rw[hg] at h3;cases h3
    have hl:=RM.len h5
    refine⟨goInt es.length,?_,RV.len h2⟩
    simp[Builtin.len_,underlying,h1,getObj,Sem.run,h4,←hl]
   ·cases h
  ·rename_i _ _ hty
   cases h
   have h1:=T.mapOf ht (by rw[hty];rfl)
   have hx:=RV.atom rfl hx
   simp[RC] at hx;subst hx
   exact⟨_,by simp[Builtin.len_,underlying,h1],RV.len (by unfold aF;omega)⟩
  ·rename_i _ _ b hty
   split at h
   ·rename_i kt vt es hk
    cases h
    have h1:=T.mapOf ht (by rw[hty];rfl)
    obtain⟨g,hg,e⟩:=RV.atom rfl hx
    simp at e;subst e
    obtain⟨_,h2,g',en,clock,h3,h4,h5,_⟩:=hw.eJ b _ (hB b _ hk)
    rw[hg] at h3;cases h3
    have hl:=RM.len h5
    refine⟨goInt es.length,?_,RV.len h2⟩
    simp[Builtin.len_,underlying,h1,getObj,Sem.run,h4,←hl]
   ·cases h
  ·rename_i _ _ k' v' y hty
   cases h
   have h1:=T.mapOf ht (by rw[hty];rfl)
   obtain⟨a,e,hr⟩:=RV.atom rfl hx
   simp at e;subst e
   rcases hr with⟨rfl,rfl⟩|⟨es,g,en,clock,rfl,rfl,_,h4,h5,_,h6,_⟩
   ·exact⟨_,by simp[Builtin.len_,underlying,h1],RV.len (n:=0) (by unfold aF;omega)⟩
   ·have hl:=nT.len h5
    exact⟨goInt es.length,by simp[Builtin.len_,underlying,h1,getObj,Sem.run,h4,←hl],RV.len h6⟩
  ·cases h
 grind
end Go.Ax
namespace Go.Ax
def St.fresh(σ:St)(d:Nat):Prop:=d∉σ.ids∧(∀k,σ.hp[d]? ≠some (some k))∧16≤d
def eB:Nat→List Nat→Bool
 |_,[]=>false
 |d,x::l=>Nat.beq d x||eB d l
theorem i4{d:Nat}:∀{l:List Nat},eB d l=false→d∉l
 |[],_=>by simp
 |
  x::l,h=>by
  simp only[eB,Bool.or_eq_false_iff] at h
  intro hm
  cases hm with
  |head=>simp at h
  |tail _ hm=>exact i4 h.2 hm
def St.jo(σ:St)(d:Nat):Bool:=
 Nat.ble 16 d&& !eB d σ.ids&&(match σ.hp[d]? with|some (some _)=>false|_=>true)
theorem St.gL{σ:St}{d:Nat}(h:σ.jo d=true):σ.fresh d:=by
 simp only[St.jo,bP] at h
 refine⟨i4 (by simpa using h.1.2),?_,jt h.1.1⟩<;>grind
theorem dE.fresh{gl:Ctx}{σ:St}{E:Env}{a:Act}{w w':World}(h:dE gl σ E a w){d:Nat}(hf:σ.fresh d){g:Option Nat}{sv:Value}{t:Ty}{k:aX}
 (hos:w'.os=w.os) (hta:Tp gl.md w w') (hou:w'.output=w.output) (hsz:w.heap.size≤w'.heap.size) (hold:∀i,i<w.heap.size→w'.heap[i]? =w.heap[i]?)
 (hg:∀i,g=some i→w.heap.size≤i) (hb:RB (E.at d g sv t) w' d k):
 dE gl (σ.eJ d (some k)) (E.at d g sv t) a w'∧Ext gl.md (cU σ.hp E) E w (cU (σ.eJ d (some k)).hp (E.at d g sv t)) (E.at d g sv t) w':=by
 have kp:di E w (E.at d g sv t) w':=⟨fun b hb=>hold b (h.hw.slt b hb),fun b hb=>hb⟩
 have hw:=h.hw.fresh (d:=d) hsz hold hf.2.1 (fun b k' hk hm=>hf.1 (St.CZ hk d hm)) hg hb
 refine⟨h.carry kp (Env.EV hf.1) hw,hos,hta,hou,hsz,fun i hi _=>hold i hi,fun i hi=>hi,fun i hi=>Or.inl hi,?_,Env.MW hf.2.2⟩
 rintro i ⟨b,k',hbk,hgi⟩
 by_cases e:b=d
 ·grind [Env.oe]
 ·have hgi:=(Env.mC e).1 hgi
  simp only[St.eJ] at hbk
  rw[fY,aB (fun e'=>e e'.symm)] at hbk
  exact Or.inl ⟨b,k',hbk,hgi⟩
theorem mb(w:World)(o:Obj)(i:Nat)(hi:i<w.heap.size):({w with heap:=w.heap.push o}:World).heap[i]? =w.heap[i]? :=by
 grind
theorem tF(w:World)(o:Obj):({w with heap:=w.heap.push o}:World).heap[w.heap.size]? =some o:=by
 grind
theorem dE.newVar{P:Program}{gl:Ctx}{σ:St}{E:Env}{a:Act}{w:World}(h:dE gl σ E a w){d:Nat}(hf:σ.fresh d){t:Ty}{x:AV}{v:Value}(e:TypeId)(hr:RC E w x v.cells.toList)(hc:x.dY t=true)(hx:d∉x.ids):
 ∃w' E',(Go.newVar e v).run P w= .ok ⟨w.heap.size,0,none⟩ w'∧dE gl (σ.eJ d (some (.var t x))) E' a w'∧RV E' w' (.ptr d []) (.pointer (some ⟨w.heap.size,0,none⟩))∧Ext gl.md (cU σ.hp E) E w (cU (σ.eJ d (some (.var t x))).hp E') E' w':=by
 refine⟨{w with heap:=w.heap.push (.cells v.cells e)},E.at d (some w.heap.size) undef t,by trivial,?_⟩
 have kp:di E w (E.at d (some w.heap.size) undef t) {w with heap:=w.heap.push (.cells v.cells e)}:=⟨fun b hb=>mb _ _ _ (h.hw.slt b hb),fun b hb=>hb⟩
 obtain⟨h1,h2⟩:=h.fresh hf (w':={w with heap:=w.heap.push (.cells v.cells e)}) (g:=some w.heap.size) (sv:=undef) (t:=t) (k:=.var t x) rfl (Tp.r rfl rfl) rfl (by simp) (fun i hi=>mb _ _ _ hi) (fun i hi=>by grind)
  ⟨by simp[Env.at],hc,w.heap.size,v.cells,e,by simp[Env.at],tF _ _,RC.mono kp (Env.EV hx) hr⟩
 exact⟨h1,RV.gZ (Or.inr ⟨rfl,w.heap.size,by simp[Env.at],by simp[Env.at,Ty.pI],Ty.kO _⟩),h2⟩
theorem EY(v:Value):(uS v).ids= []:=by
 unfold uS
 split<;>try rfl
 all_goals(split<;>rfl)
theorem HV(gl:List LJ)(g:Nat):(wG gl g).ids= []:=by
 induction gl with
 |nil=>rfl
 |cons x l ih=>unfold wG;split;rfl;exact ih
theorem Bu{gl:Ctx}{σ:St}{x:Operand}:∀b∈(db gl σ.tm x).ids,b∈σ.ids:=by
 intro b hb
 cases x with
 |
  tmp t=>
  grind [db,AV.ids,St.HR]
 |const v=>grind [db,EY]
 |global g=>grind [db,HV]
 |func f=>trivial
theorem Ty.M9(t:Ty):t.zero.ids= []:=by
 induction t with
 |pair a b ih1 ih2=>simp[Ty.zero,AV.ids,ih1,ih2]
 |aY k=>cases k<;>rfl
 |_=>rfl
theorem LN{P:Program}{G:dq}(T:cQ P G){gl:Ctx}{σ:St}{E:Env}{a:Act}{w:World}(h:dE gl σ E a w){d:Nat}(hf:σ.fresh d){e:TypeId}{td:TD}(he:G.at e=some td)(old:Value):
 ∃v w' E',(Instr.alloc e true old).run P w= .ok v w'∧dE gl (σ.eJ d (some (.var td.ty td.ty.zero))) E' a w'∧RV E' w' (.ptr d []) v∧Ext gl.md (cU σ.hp E) E w (cU (σ.eJ d (some (.var td.ty td.ty.zero))).hp E') E' w':=by
 obtain⟨z,hz,h1,h2⟩:=T.zero he w
 obtain⟨w',E',h3,h4,h5,h6⟩:=h.newVar (P:=P) hf (t:=td.ty) (x:=td.ty.zero) (v:=z) e (jF h1).1 (Ty.wD _) (by rw[Ty.M9];simp)
 exact⟨_,w',E',by simp[Instr.alloc,hz,h3],h4,h5,h6⟩
theorem RA{P:Program}{gl:Ctx}{σ:St}{E:Env}{a:Act}{w:World}(h:dE gl σ E a w){d:Nat}(hf:σ.fresh d){e:TypeId}{t:Ty}{x:AV}{v:Value}(hr:ew E w x v)(hc:x.dY t=true)(hx:d∉x.ids):
 ∃u w' E',(Instr.box e v).run P w= .ok u w'∧dE gl (σ.eJ d (some (.var t x))) E' a w'∧RV E' w' (.ptr d []) u∧Ext gl.md (cU σ.hp E) E w (cU (σ.eJ d (some (.var t x))).hp E') E' w':=by
 obtain⟨w',E',h3,h4,h5,h6⟩:=h.newVar (P:=P) hf (t:=t) (x:=x) (v:=v) e hr.cells hc hx
 exact⟨_,w',E',by simp[Instr.box,h3],h4,h5,h6⟩
def UA(e:TypeId)(bs:Nat)(t:Ty)(xs:List t.den)(i:Nat)(p:Path)(x:AV):Option aX:=
 match k8 t (xs.getD i t.aH) p x with
 |
  some y=>match y.de t with
  |some z=>some (.row e bs t (xs.set i z))
  |none=>none
 |none=>none
def Bv:aX→Path→AV→Option aX
 |
  .var t v,p,x=>match v.set p x with
  |some u=>if u.dY t then some (.var t u) else none
  |none=>none
 | .row e bs t xs,.idx i::p,x=>UA e bs t xs i p x
 |
  .dB e bs t xs i v,.d6 1::p,x=>match v.set p x with
  |some u=>if u.dY t then some (.dB e bs t xs i u) else none
  |none=>none
 |
  .eW e bs t xs e2 (some (i,v)),.d6 1::p,x=>match v.set p x with
  |some u=>if u.dY t then some (.eW e bs t xs e2 (some (i,u))) else none
  |none=>none
 |_,_,_=>none
theorem EZ{L us:List Value}{a o n:Nat}(h:o+us.length≤n)(hl:a+n≤L.length):
 (L.take (a+o)++us++L.drop (a+o+us.length)).take a=L.take a∧((L.take (a+o)++us++L.drop (a+o+us.length)).drop a).take n=((L.drop a).take n).take o++us++((L.drop a).take n).drop (o+us.length)∧
  (L.take (a+o)++us++L.drop (a+o+us.length)).drop (a+n)=L.drop (a+n):=by
 obtain⟨A,M,B,hA,hM,rfl⟩:∃A M B,A.length=a∧M.length=n∧L=A++(M++B):=
  ⟨L.take a,(L.drop a).take n,L.drop (a+n),by grind,by grind,by grind [oc,oL]⟩
 subst hA;subst hM
 have e1:(A++(M++B)).take (A.length+o)=A++M.take o:=by grind [List.take_length_add_append]
 have e2:(A++(M++B)).drop (A.length+o+us.length)=M.drop (o+us.length)++B:=by grind [List.drop_length_add_append]
 have e3:((A++(M++B)).drop A.length).take M.length=M:=by simp
 have hml:(M.take o++us++M.drop (o+us.length)).length=M.length:=by simp;omega
 grind
theorem LO(l us:List Value)(o m:Nat)(h:o+us.length≤m)(hm:m≤l.length):(l.take o++us++l.drop (o+us.length)).take m=(l.take m).take o++us++(l.take m).drop (o+us.length):=by
 have e1:(l.take m).take o=l.take o:=by grind
 have e2:(l.take m).drop (o+us.length)=(l.drop (o+us.length)).take (m -(o+us.length)):=by rw[qP]
 rw[e1,e2,List.take_append,j6 (l:=l.take o++us) (by grind)]
 grind
theorem Na{P:Program}{gl:Ctx}{E:Env}{w:World}{hp:List (Option aX)}(hw:HW gl E w hp){b:Nat}{k k':aX}{p:Path}{x:AV}{us:List Value}(hb:hp[b]? =some (some k))(hv:(E.bt b).valid p)(hx:RC E w x us)
 (apk:∀s,(E.bt b).sub p=some s→us.length=s.size) (h:Bv k p x=some k'):
 ∃g w',E.g b=some g∧(storeCells ⟨g,(E.bt b).off p,none⟩ us 0).run P w= .ok () w'∧w'.os=w.os∧Tp gl.md w w'∧w'.output=w.output∧w'.heap.size=w.heap.size∧(∀i,i≠g→w'.heap[i]? =w.heap[i]?)∧RB E w' b k':=by
 have hk:=hw.eJ b k hb
 cases k with
 |
  var t v=>
  obtain⟨h1,h2,g,c,e,h3,h4,h5⟩:=hk
  rw[h1] at hv apk ⊢
  simp only[Bv] at h
  split at h
  ·rename_i u hu
   split at h
   ·rename_i hconf
    cases h
    obtain⟨s,e1,e2,e3,e4⟩:=AV.pD hx h5 h2 hv apk hu
    rw[←e2] at e3 e4
    have hst:=run_storeCells_at P g (t.off p) e us 0 c w h4 (by grind) (RC.one hx)
    refine⟨g,_,h3,hst,rfl,Tp.r rfl rfl,rfl,by simp,fun i hi=>setRow_other w g i _ hi,?_⟩
    have kp:di E w E (w.setRow g (c.toList.take (t.off p+0)++us++c.toList.drop (t.off p+0+us.length)).toArray):=
     ⟨fun i hi=>setRow_other w g i _ (fun e=>hw.oM b _ g hb h3 (e▸hi)),fun _ h=>h⟩
    refine⟨h1,hconf,g,_,e,h3,setRow_heap w g c _ e _ h4,?_⟩
    have:=RC.mono kp (fun _ _=>⟨rfl,rfl,rfl⟩) e4
    grind
   grind
  grind
 |
  row e bs t xs=>
  obtain⟨h1,h2,h3,h4,a,cap,h5,h6,h7⟩:=hk
  cases p with
  |nil=>trivial
  |
   cons ps p=>
   cases ps with
   |d6 k=>trivial
   |
    idx i=>
    rw[h1] at hv apk ⊢
    have hi:i<xs.length:=hv.1
    rcases h7 with⟨_,_,h9⟩|⟨g,c,h7,h8,h9,h10,h11,h12⟩
    ·grind
    ·have hR:Rel w E.S (.arr xs.length t) (c.toList.take (xs.length*t.size)) xs:=⟨rfl,h12⟩
     simp only[Bv,UA] at h
     split at h
     ·rename_i y hy
      split at h
      ·rename_i z hz
       cases h
       have bJ:k8 (.arr xs.length t) xs (.idx i::p) x=some (.val (.arr xs.length t) (List.set xs i z)):=by
        grind [k8]
       obtain⟨s,e1,e2,e3,e4⟩:=Bs hx hR hv bJ
       have hlen:xs.length*t.size≤c.toList.length:=by
        grind [ju]
       have e3':=e3
       rw[gE,rG hlen,←e2] at e3'
       have hst:=run_storeCells_at P g ((Ty.arr xs.length t).off (.idx i::p)) e us 0 c w h9 (by grind) (RC.one hx)
       refine⟨g,_,h7,hst,rfl,Tp.r rfl rfl,rfl,by simp,fun i hi=>setRow_other w g i _ hi,?_⟩
       have kp:di E w E (w.setRow g (c.toList.take ((Ty.arr xs.length t).off (.idx i::p)+0)++us++c.toList.drop ((Ty.arr xs.length t).off (.idx i::p)+0+us.length)).toArray):=
        ⟨fun i hi=>setRow_other w g i _ (fun e=>hw.oM b _ g hb h7 (e▸hi)),fun _ h=>h⟩
       refine⟨by grind,by grind,by grind,h4,a,cap,by grind,h6,Or.inr ⟨g,_,h7,h8,setRow_heap w g c _ e _ h9,?_,by grind,?_⟩⟩
       ·grind
       ·have:=RC.mono kp (fun _ _=>⟨rfl,rfl,rfl⟩) e4
        rw[←e2] at this
        have hh:=this.2
        simp only[Nat.add_zero,cP]
        grind [LO]
      grind
     grind
 |
  dB e bs t xs i v=>
  obtain⟨h1,h2,h3,h4,h5,h6,g,cap,c,q1,q2,q3,q4,q5,q6,q7,q8,q9⟩:=hk
  rw[h1] at hv apk ⊢
  unfold Bv at h
  split at h
  ·grind
  ·grind
  ·rename_i p hk
   cases hk
   split at h
   ·rename_i u hu
    split at h
    ·rename_i hconf
     cases h
     have hv':t.valid p:=hv
     obtain⟨s,e1,e2,e3,e4⟩:=AV.pD hx q8 h6 hv' apk hu
     rw[←e2] at e3 e4
     rw[gE,List.length_drop] at e3
     have hoff:(rH i xs.length t).off (.d6 1::p)=i*t.size+t.off p:=by trivial
     have hlen:i*t.size+t.size≤c.toList.length:=by
      rw[show c.toList.length=c.size from tp,q5]
      calc i*t.size+t.size=(i+1)*t.size:=by grind
       _≤cap*t.size:=ju _ (by omega)
     obtain⟨m1,m2,m3⟩:=EZ (L:=c.toList) (us:=us) (a:=i*t.size) (o:=t.off p) (n:=t.size) (by omega) hlen
     have hst:=run_storeCells_at P g (i*t.size+t.off p) e us 0 c w q4 (by grind) (RC.one hx)
     rw[hoff]
     refine⟨g,_,q3,hst,rfl,Tp.r rfl rfl,rfl,by simp,fun i hi=>setRow_other w g i _ hi,?_⟩
     have kp:di E w E (w.setRow g (c.toList.take (i*t.size+t.off p+0)++us++c.toList.drop (i*t.size+t.off p+0+us.length)).toArray):=
      ⟨fun i hi=>setRow_other w g i _ (fun e=>hw.oM b _ g hb q3 (e▸hi)),fun _ h=>h⟩
     refine⟨h1,h2,h3,h4,h5,hconf,g,cap,_,q1,q2,q3,setRow_heap w g c _ e _ q4,?_,q6,?_,?_,?_⟩
     ·grind
     ·simp only[Nat.add_zero]
      rw[m1]
      exact bO.mono (fun _ _=>Rel.mono kp.w kp.S) q7
     ·simp only[Nat.add_zero] at kp ⊢
      rw[m2]
      exact RC.mono kp (fun _ _=>⟨rfl,rfl,rfl⟩) e4
     ·simp only[Nat.add_zero] at kp ⊢
      rw[show(i+1)*t.size=i*t.size+t.size from by grind] at q9 ⊢
      rw[m3]
      exact bO.mono (fun _ _=>Rel.mono kp.w kp.S) q9
    grind
   grind
  ·grind
  grind
 |
  eW e bs t xs e2' f=>
  obtain⟨h1,h2,h3,h4,h5,g,cap,c,og,q1,q2,q3,q4,q5,q6,q7,q8⟩:=hk
  unfold Bv at h
  split at h
  ·grind
  ·grind
  ·grind
  ·rename_i i v p hk
   cases hk
   split at h
   ·rename_i u hu
    split at h
    ·rename_i hconf
     cases h
     obtain⟨hi,hcv⟩:=h5 i v rfl
     obtain⟨u',r1,r2,_⟩:=q8 i (xs.getD i t.aH) (by grind)
     obtain⟨r0,r2⟩:=r2 v rfl
     rw[h1] at hv apk ⊢
     have hv':t.valid p:=hv
     have hc:c.toList[i]? =some u':=by grind
     have hmid:(c.toList.drop (i*t.size)).take t.size= [u']:=by
      rw[h2,Nat.mul_one]
      grind [iA]
     rw[←hmid] at r2
     obtain⟨s,e1,e2,e3,e4⟩:=AV.pD hx r2 hcv hv' apk hu
     rw[←e2] at e3 e4
     rw[gE,List.length_drop] at e3
     have hoff:(zh xs.length t (some (i,v))).off (.d6 1::p)=i*t.size+t.off p:=by trivial
     have hlen:i*t.size+t.size≤c.toList.length:=by
      grind
     obtain⟨m1,m2,m3⟩:=EZ (L:=c.toList) (us:=us) (a:=i*t.size) (o:=t.off p) (n:=t.size) (by omega) hlen
     have hst:=run_storeCells_at P g (i*t.size+t.off p) e us 0 c w q4 (by grind) (RC.one hx)
     rw[hoff]
     refine⟨g,_,q3,hst,rfl,Tp.r rfl rfl,rfl,by simp,fun i hi=>setRow_other w g i _ hi,?_⟩
     have kp:di E w E (w.setRow g (c.toList.take (i*t.size+t.off p+0)++us++c.toList.drop (i*t.size+t.off p+0+us.length)).toArray):=
      ⟨fun i hi=>setRow_other w g i _ (fun e=>hw.oM b _ g hb q3 (e▸hi)),fun _ h=>h⟩
     simp only[Nat.add_zero] at kp ⊢
     rw[h2,Nat.mul_one] at m1 m2 m3 kp hlen ⊢
     have hsz:(c.toList.take (i+t.off p)++us++c.toList.drop (i+t.off p+us.length)).length=c.toList.length:=by
      rw[show c.toList.length=c.size from tp] at hlen ⊢
      simp only[cz,gE,List.length_drop,tp];omega
     refine⟨h1,h2,h3,h4,fun i' v' hv'=>by grind,g,cap,_,og,q1,q2,q3,setRow_heap w g c _ e _ q4,?_,q6,q7,?_⟩
     ·grind
     ·intro i' x' hx'
      obtain⟨z,s1,s2,s3⟩:=q8 i' x' hx'
      by_cases e:i'=i
      ·subst e
       rw[h2,Nat.mul_one] at e4 hmid
       rw[←m2] at e4
       have hlt:i'<(c.toList.take (i'+t.off p)++us++c.toList.drop (i'+t.off p+us.length)).length:=by grind
       have e5:((c.toList.take (i'+t.off p)++us++c.toList.drop (i'+t.off p+us.length)).drop i').take 1= [(c.toList.take (i'+t.off p)++us++c.toList.drop (i'+t.off p+us.length))[i']]:=by
        rw[iA hlt];rfl
       rw[e5] at e4
       refine⟨(c.toList.take (i'+t.off p)++us++c.toList.drop (i'+t.off p+us.length))[i'],by grind,fun v' hv'=>?_,fun hv'=>absurd rfl (hv' u)⟩
       cases hv'
       exact⟨r0,RC.mono kp (fun _ _=>⟨rfl,rfl,rfl⟩) e4⟩
      ·refine⟨z,?_,fun v' hv'=>by grind,fun _=>?_⟩
       ·have s1:c.toList[i']? =some z:=by grind
        have hnew:(c.toList.take (i+t.off p)++us++c.toList.drop (i+t.off p+us.length))[i']? =some z:=by
         rcases Nat.lt_or_gt_of_ne e with hl|hl
         ·grind
         ·have a1:((c.toList.take (i+t.off p)++us++c.toList.drop (i+t.off p+us.length)).drop (i+1))[i' -(i+1)]? =(c.toList.drop (i+1))[i' -(i+1)]? :=by rw[m3]
          rw[List.getElem?_drop,List.getElem?_drop,show i+1+(i' -(i+1))=i' from by omega] at a1
          grind
        grind
       ·have s4:=s3 (fun v' hv'=>by grind)
        refine fq.mono kp.w kp.S (fun gg hgg=>?_) s4
        exact setRow_other w g gg _ (q7.own i' gg hgg).2
    grind
   grind
  grind
 |_=>trivial
def C1(G:dq)(hb:Nat→Option aX)(t:TypeId)(x y:AV):Option (Nat×aX):=
 match x,G.at t with
 |
  .ptr b p,some td=>match hb b with
  |
   some k=>match(mG k).sub p with
   |some s=>if Ty.same s td.ty&&Nat.beq y.size td.ty.size then(Bv k p y).map fun k'=>(b,k') else none
   |none=>none
  |none=>none
 |_,_=>none
theorem cU.rN{hp:List (Option aX)}{E:Env}{b:Nat}{k k':aX}(hb:hp[b]? =some (some k)){i:Nat}:cU (hp.set b (some k')) E i→cU hp E i:=cU.set hb
theorem E6{P:Program}{G:dq}(T:cQ P G){gl:Ctx}{σ:St}{E:Env}{a:Act}{w:World}(h:dE gl σ E a w){hb:Nat→Option aX}(hB:HB hb σ.hp){t:TypeId}{x y:AV}{vx vy:Value}(hx:RV E w x vx)(hy:ew E w y vy){b:Nat}{k':aX}
 (hev:C1 G hb t x y=some (b,k')):
 ∃w',(Instr.storeAt t vx vy).run P w= .ok () w'∧dE gl (σ.eJ b (some k')) E a w'∧Ext gl.md (cU σ.hp E) E w (cU (σ.eJ b (some k')).hp E) E w':=by
 unfold C1 at hev
 split at hev
 ·rename_i b' p td ht
  split at hev
  ·rename_i k hk
   split at hev
   ·rename_i s hs
    split at hev
    ·rename_i hc
     simp only[bP] at hc
     obtain⟨k2,hk2,e⟩:=Option.map_eq_some_iff.1 hev
     cases e
     have:=Ty.aE hc.1;subst this
     obtain⟨g,hg,e,hv⟩:=RV.atom rfl hx
     simp at e;subst e
     have hkb:=h.hw.eJ b k (hB b k hk)
     have hbt:E.bt b=mG k:=by
      refine RB.bt hkb ?_
      cases k<;>first|rfl|trivial
     have hyc:=hy.cells
     have hlen:=RC.len hyc
     have hsz:=dm hc.2
     obtain⟨g',w',h1,h2,h3,h4,h5,h6,h7,h8⟩:=Na (P:=P) h.hw (hB b k hk) hv hyc (fun s' hs'=>by grind) hk2
     rw[hg] at h1;cases h1
     have apa:(Instr.storeAt t (.pointer (some ⟨g,(E.bt b).off p,none⟩)) vy).run P w= .ok () w':=by
      have:vy.cells.size=td.ty.size:=by grind
      simp[Instr.storeAt,Instr.sureAddr,storeVar,T.size ht,this,h2]
     have kp:di E w E w':=⟨fun i hi=>h7 i (fun e=>h.hw.oM b k g (hB b k hk) hg (e▸hi)),fun _ h=>h⟩
     have hhw:=h.hw.write (w':=w') (k':=k') (hB b k hk) h6 (fun i hi=>h7 i (fun e=>hi (e▸hg))) h8
     refine⟨w',apa,h.carry kp (fun _ _=>⟨rfl,rfl,rfl⟩) hhw,h3,h4,h5,by omega,?_,fun _ h=>h,fun _ h=>Or.inl h,fun i hi=>Or.inl (cU.set (hB b k hk) hi),fun _ _=>⟨rfl,rfl,rfl⟩⟩
     intro i hi ho
     exact h7 i (fun e=>ho ⟨b,k,hB b k hk,Or.inl (e▸hg)⟩)
    grind
   grind
  grind
 grind
end Go.Ax
namespace Go.Ax
structure bL where
 rt:List Nat
 rb:List Nat
 fr:List Nat
 dst:Option Nat
 v:AV
 hw:List (Nat×Option aX)
def bJ(hp:List (Option aX)):List (Nat×Option aX)→List (Option aX)
 |[]=>hp
 |(b,k)::l=>bJ (hp.set b k) l
def St.app(σ:St)(f:bL):St:=({σ with hp:=bJ σ.hp f.hw}:St).put f.dst f.v
structure mo(σ σ':St)(rt rb:List Nat):Prop where
 tl:σ'.tm.length=σ.tm.length
 hl:σ'.hp.length=σ.hp.length
 tm:∀t∈rt,σ'.tm[t]? =σ.tm[t]?
 hp:∀b∈rb,σ'.hp[b]? =σ.hp[b]?
theorem mo.refl(σ:St)(rt rb:List Nat):mo σ σ rt rb:=⟨rfl,rfl,fun _ _=>rfl,fun _ _=>rfl⟩
def tY(P:Program)(gl:Ctx)(ops:Array Oper)(i:Nat)(f:bL)(σ:St):Prop:=
 ∀σ',mo σ σ' f.rt f.rb→(∀d∈f.fr,σ'.fresh d)→∀E a w,dE gl σ' E a w→∀(K:Act→World→Prop)(Q:Exit→Act→World→Prop),
  (∀E' a' w',dE gl (σ'.app f) E' a' w'→Ext gl.md (cU σ'.hp E) E w (cU (σ'.app f).hp E') E' w'→K a' w')→wpOpIn (Wd gl) 0 P ops Q i K a w
def dL(OK:Nat→bL→St→Prop):Nat→List bL→St→St→Prop
 |_,[],σ,σ'=>σ'=σ
 |i,f::fs,σ,σ'=>OK i f σ∧(∀d∈f.fr,σ.fresh d)∧dL OK (i+1) fs (σ.app f) σ'
abbrev uV(P:Program)(gl:Ctx)(ops:Array Oper):Nat→List bL→St→St→Prop:=dL (tY P gl ops)
theorem dL.mono{OK OK':Nat→bL→St→Prop}(hm:∀i f σ,OK i f σ→OK' i f σ):∀{fs:List bL}{i:Nat}{σ σ':St},dL OK i fs σ σ'→dL OK' i fs σ σ'
 |[],_,_,_,h=>h
 |_::_,_,_,_,⟨h1,h2,h3⟩=>⟨hm _ _ _ h1,h2,h3.mono hm⟩
theorem oO:∀(l:List (Nat×Option aX))(hp:List (Option aX)),(bJ hp l).length=hp.length
 |[],_=>rfl
 |(b,k)::l,hp=>by rw[bJ,oO l,cP]
def wrote:List (Nat×Option aX)→List Nat
 |[]=>[]
 |(b,_)::l=>b::wrote l
theorem ir{b:Nat}:∀{l:List (Nat×Option aX)}{hp:List (Option aX)},b∉wrote l→(bJ hp l)[b]? =hp[b]?
 |[],_,_=>rfl
 |
  (c,k)::l,hp,h=>by
  simp only[wrote,eN,not_or] at h
  rw[bJ,ir h.2,fY,aB (fun e=>h.1 e.symm)]
theorem wI(σ:St)(f:bL):(σ.app f).tm.length=σ.tm.length:=by
 unfold St.app St.put;grind
theorem wJ(σ:St)(f:bL):(σ.app f).hp.length=σ.hp.length:=by
 unfold St.app St.put;split<;>simp[oO]
theorem k9(σ:St)(f:bL):(σ.app f).hp=bJ σ.hp f.hw:=by
 unfold St.app St.put;grind
theorem zq(σ:St)(f:bL):(σ.app f).df=σ.df:=by
 unfold St.app St.put;grind
theorem la{σ:St}{f:bL}{t:Nat}(h:f.dst≠some t):(σ.app f).tm[t]? =σ.tm[t]? :=by
 unfold St.app St.put
 grind
structure A0(gl:Ctx)(DS WB:List Nat)(σ0:St)(E0:Env)(w0:World)(σ:St)(E:Env)(w:World):Prop where
 df:σ.df=σ0.df
 tl:σ.tm.length=σ0.tm.length
 hl:σ.hp.length=σ0.hp.length
 tm:∀t,t∉DS→σ.tm[t]? =σ0.tm[t]?
 hp:∀b,b∉WB→σ.hp[b]? =σ0.hp[b]?
 ext:Ext gl.md (cU σ0.hp E0) E0 w0 (cU σ.hp E) E w
theorem A0.refl{gl:Ctx}{DS WB:List Nat}(σ:St)(E:Env)(w:World):A0 gl DS WB σ E w σ E w:=⟨rfl,rfl,rfl,fun _ _=>rfl,fun _ _=>rfl,Ext.refl _ _ _⟩
def inW(DS WB:List Nat)(f:bL):Prop:=(∀d,f.dst=some d→d∈DS)∧∀b∈wrote f.hw,b∈WB
theorem A0.app{gl:Ctx}{DS WB:List Nat}{σ0 σ:St}{E0 E E':Env}{w0 w w':World}{f:bL}(h:A0 gl DS WB σ0 E0 w0 σ E w)(hf:inW DS WB f)(hx:Ext gl.md (cU σ.hp E) E w (cU (σ.app f).hp E') E' w'):A0 gl DS WB σ0 E0 w0 (σ.app f) E' w' where
 df:=(zq _ _).trans h.df
 tl:=(wI _ _).trans h.tl
 hl:=(wJ _ _).trans h.hl
 tm:=fun t ht=>(la (fun e=>ht (hf.1 t e))).trans (h.tm t ht)
 hp:=fun b hb=>by rw[k9,ir (fun e=>hb (hf.2 b e))];exact h.hp b hb
 ext:=h.ext.trans hx
def PB(P:Program)(gl:Ctx)(ops:Array Oper)(Q:Exit→Act→World→Prop)(V:St→Env→World→Prop)(i:Nat)(f:bL)(σ:St):Prop:=
 ∀σ',mo σ σ' f.rt f.rb→(∀d∈f.fr,σ'.fresh d)→∀E a w,dE gl σ' E a w→V σ' E w→∀(K:Act→World→Prop),
  (∀E' a' w',dE gl (σ'.app f) E' a' w'→Ext gl.md (cU σ'.hp E) E w (cU (σ'.app f).hp E') E' w'→K a' w')→wpOpIn (Wd gl) 0 P ops Q i K a w
theorem tY.q{P:Program}{gl:Ctx}{ops:Array Oper}{Q:Exit→Act→World→Prop}{V:St→Env→World→Prop}{i:Nat}{f:bL}{σ:St}(h:tY P gl ops i f σ):PB P gl ops Q V i f σ:=
 fun σ' h1 h2 E a w hg _ K hk=>h σ' h1 h2 E a w hg K Q hk
section
variable{P:Program} {gl:Ctx} {ops:Array Oper} {Q:Exit→Act→World→Prop} {DS WB:List Nat} {σ0:St} {E0:Env} {w0:World}
theorem Nb.wp{σ':St}(hq:∀E' a' w',dE gl σ' E' a' w'→A0 gl DS WB σ0 E0 w0 σ' E' w'→Q .normal a' w'):∀{fs:List bL}{i:Nat}{σ:St},(∀f∈fs,inW DS WB f)→dL (PB P gl ops Q (A0 gl DS WB σ0 E0 w0)) i fs σ σ'→∀{E:Env}{a:Act}{w:World},dE gl σ E a w→A0 gl DS WB σ0 E0 w0 σ E w→
 wpOpsIn (Wd gl) 0 P ops Q ((List.range fs.length).map (·+i)) a w
 |
  [],i,σ,_,h,E,a,w,hg,hv=>by
  simp only[dL] at h;subst h
  exact hq E a w hg hv
 |
  f::fs,i,σ,hi,⟨h1,h2,h3⟩,E,a,w,hg,hv=>by
  have e:(List.range (f::fs).length).map (·+i)=i::(List.range fs.length).map (·+(i+1)):=by
   rw[da,List.range_succ_eq_map]
   simp only[fp,ek,List.map_map]
   congr 1
   grind [List.map_congr_left]
  rw[e,wpOpsIn_cons]
  refine h1 σ (mo.refl _ _ _) h2 E a w hg hv _ ?_
  intro E' a' w' hg' hx
  exact Nb.wp hq (fun g hm=>hi g (dH _ hm)) h3 hg' (hv.app (hi f (dx ..)) hx)
end
def dstsOf(fs:List bL):List Nat:=fs.flatMap fun f=>f.dst.toList
def oC(fs:List bL):List Nat:=fs.flatMap fun f=>wrote f.hw
theorem Nc{fs:List bL}:∀f∈fs,inW (dstsOf fs) (oC fs) f:=fun f hf=>
 ⟨fun d hd=>List.mem_flatMap.2 ⟨f,hf,by simp[hd]⟩,fun b hb=>List.mem_flatMap.2 ⟨f,hf,hb⟩⟩
theorem xl{P:Program}{gl:Ctx}{ops:Array Oper}{id:Nat}{fs:List bL}{σ σ':St}{Q:Exit→Act→World→Prop}{E:Env}{a:Act}{w:World}(hn:fs.length=ops.size)(h:dL (PB P gl ops Q (A0 gl (dstsOf fs) (oC fs) σ E w)) 0 fs σ σ')(hg:dE gl σ E a w)
 (hq:∀E' a' w',dE gl σ' E' a' w'→A0 gl (dstsOf fs) (oC fs) σ E w σ' E' w'→Q .normal a' w'):(Code.region id ops false).wpIn (Wd gl) 0 P Q a w:=by
 refine wpIn_region ?_
 have:=Nb.wp hq Nc h hg (A0.refl _ _ _)
 simp_all
theorem HX{P:Program}{gl:Ctx}{ops:Array Oper}{id:Nat}{fs:List bL}{σ σ':St}(hn:fs.length=ops.size)(h:uV P gl ops 0 fs σ σ'){Q:Exit→Act→World→Prop}{E:Env}{a:Act}{w:World}(hg:dE gl σ E a w)
 (hq:∀E' a' w',dE gl σ' E' a' w'→Ext gl.md (cU σ.hp E) E w (cU σ'.hp E') E' w'→Q .normal a' w'):(Code.region id ops false).wpIn (Wd gl) 0 P Q a w:=
 xl hn (h.mono fun _ _ _=>tY.q) hg (fun E' a' w' h1 h2=>hq E' a' w' h1 h2.ext)
theorem lN{b:Nat}:∀{l:List (Nat×Option aX)}{hp hp':List (Option aX)},hp.length=hp'.length→hp[b]? =hp'[b]? →(bJ hp l)[b]? =(bJ hp' l)[b]?
 |[],_,_,_,h=>h
 |
  (c,k)::l,hp,hp',hl,h=>by
  rw[bJ,bJ]
  refine lN (by simp[hl]) ?_
  rw[fY,fY,hl,h]
theorem zr{b:Nat}:∀{l:List (Nat×Option aX)}{hp hp':List (Option aX)},hp.length=hp'.length→b∈wrote l→(bJ hp l)[b]? =(bJ hp' l)[b]?
 |[],_,_,_,h=>by cases h
 |
  (c,k)::l,hp,hp',hl,h=>by
  rw[bJ,bJ]
  by_cases hb:b∈wrote l
  ·exact zr (by simp[hl]) hb
  ·simp only[wrote,eN] at h
   have e:b=c:=h.resolve_right hb
   subst e
   rw[ir hb,ir hb,fY,fY,hl]
   simp
theorem E7{σ σ':St}{f:bL}{t:Nat}(hl:σ.tm.length=σ'.tm.length)(h:σ.tm[t]? =σ'.tm[t]?):(σ.app f).tm[t]? =(σ'.app f).tm[t]? :=by
 unfold St.app St.put
 grind
theorem C3{σ σ':St}{f:bL}{t:Nat}(hl:σ.tm.length=σ'.tm.length)(h:f.dst=some t):(σ.app f).tm[t]? =(σ'.app f).tm[t]? :=by
 grind [St.app,St.put]
def eC(X:Nat→Bool):Nat→List bL→St→St
 |_,[],σ=>σ
 |i,f::fs,σ=>eC X (i+1) fs (if X i then σ.app f else σ)
theorem sP(X:Nat→Bool):∀(fs:List bL)(i:Nat)(σ:St),(eC X i fs σ).tm.length=σ.tm.length
 |[],_,_=>rfl
 |f::fs,i,σ=>by rw[eC,sP X fs];split<;>simp[wI]
theorem sQ(X:Nat→Bool):∀(fs:List bL)(i:Nat)(σ:St),(eC X i fs σ).hp.length=σ.hp.length
 |[],_,_=>rfl
 |f::fs,i,σ=>by rw[eC,sQ X fs];split<;>simp[wJ]
theorem C4(X:Nat→Bool):∀(fs:List bL)(i:Nat)(σ:St),(eC X i fs σ).df=σ.df
 |[],_,_=>rfl
 |f::fs,i,σ=>by rw[eC,C4 X fs];split<;>simp[zq]
theorem uW{X Y:Nat→Bool}{t:Nat}:∀{fs:List bL}{i:Nat}{σ σ':St},σ.tm.length=σ'.tm.length→σ.tm[t]? =σ'.tm[t]? →(∀(k:Nat)(f:bL),fs[k]? =some f→X (i+k)≠Y (i+k)→f.dst≠some t)→
 (eC X i fs σ).tm[t]? =(eC Y i fs σ').tm[t]?
 |[],_,_,_,_,h,_=>h
 |
  f::fs,i,σ,σ',hl,h,hd=>by
  rw[eC,eC]
  refine uW ?_ ?_ (fun k g hk hne=>hd (k+1) g (by grind) (by grind))
  ·split<;>split<;>simp[wI,hl]
  ·by_cases hx:X i=Y i
   ·grind [E7]
   ·have:=hd 0 f rfl (by grind)
    grind [la]
theorem uX{X Y:Nat→Bool}{b:Nat}:∀{fs:List bL}{i:Nat}{σ σ':St},σ.hp.length=σ'.hp.length→σ.hp[b]? =σ'.hp[b]? →(∀(k:Nat)(f:bL),fs[k]? =some f→X (i+k)≠Y (i+k)→b∉wrote f.hw)→
 (eC X i fs σ).hp[b]? =(eC Y i fs σ').hp[b]?
 |[],_,_,_,_,h,_=>h
 |
  f::fs,i,σ,σ',hl,h,hd=>by
  rw[eC,eC]
  refine uX ?_ ?_ (fun k g hk hne=>hd (k+1) g (by grind) (by grind))
  ·split<;>split<;>simp[wJ,hl]
  ·by_cases hx:X i=Y i
   ·grind [k9,lN]
   ·have:=hd 0 f rfl (by grind)
    grind [k9,ir]
theorem uY{X:Nat→Bool}{t:Nat}{fi:bL}(hw:fi.dst=some t):∀{fs:List bL}{i j:Nat}{σ σ':St},σ.tm.length=σ'.tm.length→fs[j]? =some fi→X (i+j)=true→(∀(k:Nat)(f:bL),fs[k]? =some f→j<k→X (i+k)=true→f.dst≠some t)→
 (eC X i fs σ).tm[t]? =(σ'.app fi).tm[t]?
 |[],_,_,_,_,_,h,_,_=>by simp at h
 |
  f::fs,i,0,σ,σ',hl,hf,hx,hd=>by
  simp at hf;subst hf
  rw[eC]
  simp only[Nat.add_zero] at hx
  rw[hx]
  have:(eC X (i+1) fs (σ.app f)).tm[t]? =(eC (fun _=>false) (i+1) fs (σ'.app f)).tm[t]? :=by
   refine uW (by simp[wI,hl]) (C3 hl hw) (fun k g hk hne=>?_)
   refine hd (k+1) g (by simpa using hk) (by omega) ?_<;>grind
  rw[aA rfl,this]
  have hid:∀(fs:List bL)(i:Nat)(σ:St),eC (fun _=>false) i fs σ=σ:=by
   intro fs
   induction fs with
   |nil=>intro i σ;rfl
   |cons f fs ih=>simp_all[eC]
  rw[hid]
 |
  f::fs,i,j+1,σ,σ',hl,hf,hx,hd=>by
  rw[eC]
  refine uY hw (j:=j) ?_ (by simpa using hf) (by rw[show i+1+j=i+(j+1) from by omega];exact hx) (fun k g hk hjk hxk=>hd (k+1) g (by simpa using hk) (by omega) (by rw[show i+(k+1)=i+1+k from by omega];exact hxk))
  split<;>simp[wI,hl]
theorem uZ{X:Nat→Bool}{b:Nat}{fi:bL}(hw:b∈wrote fi.hw):∀{fs:List bL}{i j:Nat}{σ σ':St},σ.hp.length=σ'.hp.length→fs[j]? =some fi→X (i+j)=true→(∀(k:Nat)(f:bL),fs[k]? =some f→j<k→X (i+k)=true→b∉wrote f.hw)→
 (eC X i fs σ).hp[b]? =(σ'.app fi).hp[b]?
 |[],_,_,_,_,_,h,_,_=>by simp at h
 |
  f::fs,i,0,σ,σ',hl,hf,hx,hd=>by
  simp at hf;subst hf
  rw[eC]
  simp only[Nat.add_zero] at hx
  rw[hx]
  have:(eC X (i+1) fs (σ.app f)).hp[b]? =(eC (fun _=>false) (i+1) fs (σ'.app f)).hp[b]? :=by
   refine uX (by simp[wJ,hl]) (by grind [k9,zr]) (fun k g hk hne=>?_)
   refine hd (k+1) g (by simpa using hk) (by omega) ?_<;>grind
  rw[aA rfl,this]
  have hid:∀(fs:List bL)(i:Nat)(σ:St),eC (fun _=>false) i fs σ=σ:=by
   intro fs
   induction fs with
   |nil=>intro i σ;rfl
   |cons f fs ih=>simp_all[eC]
  rw[hid]
 |
  f::fs,i,j+1,σ,σ',hl,hf,hx,hd=>by
  rw[eC]
  refine uZ hw (j:=j) ?_ (by simpa using hf) (by rw[show i+1+j=i+(j+1) from by omega];exact hx) (fun k g hk hjk hxk=>hd (k+1) g (by simpa using hk) (by omega) (by rw[show i+(k+1)=i+1+k from by omega];exact hxk))
  split<;>simp[wJ,hl]
end Go.Ax
namespace Go.Ax
def V9:Option aX→List Nat
 |some k=>k.ids
 |none=>[]
def JT:List (Nat×Option aX)→List Nat
 |[]=>[]
 |(_,k)::l=>V9 k++JT l
def bL.Nf(f:bL):List Nat:=f.v.ids++JT f.hw
theorem pJ{σ:St}{d:Nat}:d∉σ.ids↔(∀(i:Nat)(x:AV),σ.tm[i]? =some x→d∉x.ids)∧(∀x∈σ.df,d∉x.ids)∧(∀(i:Nat)(k:aX),σ.hp[i]? =some (some k)→d∉k.ids):=by
 constructor
 ·grind [St.HR,St.MV,St.CZ]
 ·rintro⟨h1,h2,h3⟩ hm
  simp only[St.ids,j5,List.mem_flatMap,List.mem_filterMap] at hm
  grind [List.getElem?_of_mem]
theorem E8{d:Nat}:∀{l:List (Nat×Option aX)}{hp:List (Option aX)},(∀(i:Nat)(k:aX),hp[i]? =some (some k)→d∉k.ids)→d∉JT l→∀(i:Nat)(k:aX),(bJ hp l)[i]? =some (some k)→d∉k.ids
 |[],_,h,_=>h
 |
  (b,o)::l,hp,h,hm=>by
  simp only[JT,j5,not_or] at hm
  refine E8 (l:=l) (hp:=hp.set b o) ?_ hm.2
  intro i k hk
  rw[fY] at hk
  split at hk
  ·split at hk
   ·simp at hk;subst hk;exact hm.1
   ·cases hk
  ·exact h i k hk
theorem LR{σ:St}{f:bL}{d:Nat}(h:σ.fresh d)(hm:d∉f.Nf)(hw:d∉wrote f.hw):(σ.app f).fresh d:=by
 simp only[bL.Nf,j5,not_or] at hm
 obtain⟨h1,h2,h3⟩:=h
 rw[pJ] at h1
 obtain⟨a1,a2,a3⟩:=h1
 refine⟨?_,?_,h3⟩
 ·rw[pJ]
  refine⟨?_,?_,?_⟩
  ·intro i x hx
   by_cases e:f.dst=some i
   ·simp_all[St.app,St.put,fY]
   grind [la]
  ·rw[zq];exact a2
  ·rw[k9];exact E8 a3 hm.2
 grind [k9,ir]
theorem zt{X:Nat→Bool}{d:Nat}:∀{fs:List bL}{i:Nat}{σ:St},σ.fresh d→(∀(k:Nat)(f:bL),fs[k]? =some f→X (i+k)=true→d∉f.Nf∧d∉wrote f.hw)→(eC X i fs σ).fresh d
 |[],_,_,h,_=>h
 |
  f::fs,i,σ,h,hd=>by
  rw[eC]
  refine zt ?_ (fun k g hk hx=>hd (k+1) g (by grind) (by grind))
  split
  ·rename_i hx
   have:=hd 0 f rfl (by grind)
   exact LR h this.1 this.2
  grind
def aaf(acc:List Nat)(o:Oper):Nat:=
 o.after.toList.foldl (fun s e=>if Region.binds .any e then s ||| 2^e.on ||| acc.getD e.on 0 else s) 0
def wK:List Oper→List Nat→List Nat
 |[],acc=>acc
 |o::l,acc=>wK l (acc++[aaf acc o])
theorem zu{X:Nat→Bool}{acc:List Nat}(hacc:∀j k,X j=true→(acc.getD j 0).testBit k=true→X k=true):∀(l:List Edge)(s:Nat),(∀e∈l,Region.binds .any e=true→X e.on=true)→(∀k,s.testBit k=true→X k=true)→
 ∀k,(l.foldl (fun s e=>if Region.binds .any e then s ||| 2^e.on ||| acc.getD e.on 0 else s) s).testBit k=true→X k=true
 |[],s,_,hs=>hs
 |
  e::l,s,hl,hs=>by
  refine zu hacc l _ (fun e' he'=>hl e' (dH _ he')) ?_<;>grind
theorem Bw{X:Nat→Bool}:∀(l:List Oper)(acc:List Nat),(∀j k,X j=true→(acc.getD j 0).testBit k=true→X k=true)→
 (∀j o,l[j]? =some o→X (acc.length+j)=true→∀e∈o.after.toList,Region.binds .any e=true→X e.on=true)→
 ∀j k,X j=true→((wK l acc).getD j 0).testBit k=true→X k=true
 |[],_,h,_=>h
 |
  o::l,acc,h,hc=>by
  refine Bw l _ ?_ ?_
  ·intro j k hj hk
   rw[uQ,List.getElem?_append] at hk
   split at hk
   ·rw[←uQ] at hk;grind
   ·by_cases e:j=acc.length
    ·subst e
     simp at hk
     exact zu h o.after.toList 0 (hc 0 o rfl (by grind)) (fun k hk=>by grind) k hk
    grind
  ·intro j o' ho hx
   exact hc (j+1) o' (by grind) (by grind)
def ig:List Nat→List Nat→Bool
 |[],_=>false
 |x::l,m=>eB x m||ig l m
theorem rO{d:Nat}:∀{l:List Nat},d∈l→eB d l=true
 |
  x::l,h=>by
  simp only[eB,jV]
  cases h with
  |head=>exact Or.inl (Nat.beq_refl d)
  |tail _ h=>exact Or.inr (rO h)
theorem vb{d:Nat}:∀{l m:List Nat},d∈l→d∈m→ig l m=true
 |
  x::l,m,h,hm=>by
  simp only[ig,jV]
  cases h with
  |head=>exact Or.inl (rO hm)
  |tail _ h=>exact Or.inr (vb h hm)
def bL.wt(f:bL):List Nat:=f.dst.toList
def bL.wb(f:bL):List Nat:=wrote f.hw++f.fr
def zv(f g:bL):Bool:=
 ig f.wt (g.rt++g.wt)||ig f.rt g.wt||ig f.wb (g.rb++g.wb)||ig f.rb g.wb||ig f.fr g.Nf
def isLt(lt:Option (List Nat×Nat))(i j:Nat):Bool:=match lt with
 |some (a,b)=>eB i a&&Nat.beq j b
 |none=>false
def rP(lt:Option (List Nat×Nat))(masks j:Nat)(g:bL):Nat→List bL→Bool
 |_,[]=>true
 |i,f::fs=>(!zv f g||masks.testBit i||isLt lt i j)&& !ig g.fr (f.Nf++wrote f.hw)&&rP lt masks j g (i+1) fs
def vf(lt:Option (List Nat×Nat))(masks:List Nat)(all:List bL):Nat→List bL→Bool
 |_,[]=>true
 |j,g::fs=>rP lt (masks.getD j 0) j g 0 (all.take j)&&vf lt masks all (j+1) fs
def Wa(lt:Option (List Nat×Nat))(fs:List bL):Bool:=match lt with
 |none=>true
 |
  some (l,j)=>l.all fun i=>Nat.blt i j&&match fs[i]?,fs[j]? with
  |some f,some g=>f.hw.isEmpty&&f.fr.isEmpty&& !ig f.wt f.rt&& !ig f.wt (g.rt++g.wt)&& !ig f.rt g.wt&&((fs.take j).drop (i+1)).all fun h=> !ig f.rt h.wt&& !ig f.rb h.wb
  |_,_=>false
theorem xm{lt:Option (List Nat×Nat)}{m j:Nat}{g:bL}:∀{fs:List bL}{i:Nat},rP lt m j g i fs=true→∀k f,fs[k]? =some f→(zv f g=true→m.testBit (i+k)=true∨isLt lt (i+k) j=true)∧ig g.fr (f.Nf++wrote f.hw)=false
 |[],_,_,k,f,h=>by simp at h
 |
  f0::fs,i,h,k,f,hk=>by
  simp only[rP,bP,jV,lF] at h
  cases k with
  |zero=>grind
  |succ k=>have:=xm h.2 k f (by grind);grind
theorem xn{lt:Option (List Nat×Nat)}{masks:List Nat}{all:List bL}:∀{fs:List bL}{j:Nat},vf lt masks all j fs=true→∀k g,fs[k]? =some g→rP lt (masks.getD (j+k) 0) (j+k) g 0 (all.take (j+k))=true
 |[],_,_,k,g,h=>by simp at h
 |
  g0::fs,j,h,k,g,hk=>by
  simp only[vf,bP] at h
  cases k with
  |zero=>grind
  |succ k=>have:=xn h.2 k g (by grind);grind
def Bx(ops:List Oper):Nat→Bool:=fun j=>match ops[j]? with
 |some o=>o.after.toList.all fun e=> !Region.binds .any e||Nat.blt e.on j
 |none=>true
def qQ(lt:Option (List Nat×Nat))(ops:Array Oper)(fs:List bL):Bool:=
 Nat.beq fs.length ops.size&&(vf lt (wK ops.toList []) fs 0 fs&&Wa lt fs)&&(List.range ops.size).all (Bx ops.toList)
theorem dL.nth{OK:Nat→bL→St→Prop}:∀{fs:List bL}{i:Nat}{σ σ':St},dL OK i fs σ σ'→∀(k:Nat)(f:bL),fs[k]? =some f→OK (i+k) f (eC (fun x=>decide (x<i+k)) i fs σ)
 |[],_,_,_,_,k,f,h=>by simp at h
 |
  g::fs,i,σ,σ',⟨h1,h2,h3⟩,k,f,hk=>by
  cases k with
  |
   zero=>
   simp at hk;subst hk
   rw[eC]
   simp only[Nat.add_zero,Nat.lt_irrefl,decide_false,dv,dc]
   have hid:∀(fs:List bL)(j:Nat)(σ:St),i<j→eC (fun x=>decide (x<i)) j fs σ=σ:=by
    intro fs
    induction fs with
    |nil=>intro j σ _;rfl
    |cons f fs ih=>intro j σ hj;rw[eC,aB (by grind)];grind
   grind
  |
   succ k=>
   have:=dL.nth h3 k f (by grind)
   rw[eC,aA (by simp)]
   grind
theorem dL.last{OK:Nat→bL→St→Prop}:∀{fs:List bL}{i:Nat}{σ σ':St},dL OK i fs σ σ'→∀{X:Nat→Bool},(∀k,i≤k→k<i+fs.length→X k=true)→σ'=eC X i fs σ
 |[],_,_,_,h,_,_=>h
 |
  f::fs,i,σ,σ',⟨_,_,h⟩,X,hX=>by
  rw[eC,aA (hX i (cV _) (by simp))]
  exact dL.last h (fun k h1 h2=>hX k (by omega) (by simp;omega))
theorem eG{l m:List Nat}(h:ig l m=false){d:Nat}(hd:d∈l):d∉m:=fun hm=>by
 rw[vb hd hm] at h;cases h
section
variable{ops:Array Oper} {fs:List bL} {σ:St}
set_option maxHeartbeats 4000000 in
theorem HY{lt:Option (List Nat×Nat)}(iq:qQ lt ops fs=true)(hfr:∀(k:Nat)(f:bL),fs[k]? =some f→∀d∈f.fr,σ.fresh d)
 {X:Nat→Bool} (hX:∀j o,ops[j]? =some o→X j=true→∀e∈o.after.toList,Region.binds .any e=true→X e.on=true)
 {i:Nat} {o:Oper} (ho:ops[i]? =some o) (hi:X i=false) (hpre:∀e∈o.after.toList,Region.binds .any e=true→X e.on=true) {f:bL} (hf:fs[i]? =some f):
 (mo (eC (fun x=>decide (x<i)) 0 fs σ) (eC X 0 fs σ) f.rt f.rb∨∃l j,lt=some (l,j)∧i∈l∧mo (eC (fun x=>decide (x<j+1)) 0 fs σ) (eC X 0 fs σ) f.rt f.rb)∧(∀d∈f.fr,(eC X 0 fs σ).fresh d)∧(eC X 0 fs σ).app f=eC (fun x=>X x||x==i) 0 fs σ:=by
 simp only[qQ,bP] at iq
 obtain⟨⟨hlen,hconf,hlt⟩,hedge⟩:=iq
 have hmask:∀(Y:Nat→Bool),(∀j o,ops[j]? =some o→Y j=true→∀e∈o.after.toList,Region.binds .any e=true→Y e.on=true)→∀j k,Y j=true→((wK ops.toList []).getD j 0).testBit k=true→Y k=true:=by
  intro Y hY
  refine Bw ops.toList [] (fun j k _ hk=>by simp at hk) ?_<;>grind
 have hn:∀{x:Nat}{l:List Nat},eB x l=true→x∈l:=by
  intro x l
  induction l with
  |nil=>intro h;cases h
  |cons y l ih=>intro h;simp only[eB,jV] at h;rcases h with h|h;exact(dm h)▸dx ..;exact dH _ (ih h)
 have isL:∀{a b:Nat},isLt lt a b=true→∃l,lt=some (l,b)∧a∈l:=by
  intro a b h
  unfold isLt at h
  split at h
  ·simp only[bP] at h;rw[dm h.2];exact⟨_,rfl,hn h.1⟩
  ·cases h
 have pair:∀(k j:Nat)(g h:bL),k<j→fs[k]? =some g→fs[j]? =some h→(zv g h=true→((wK ops.toList []).getD j 0).testBit k=true∨∃l,lt=some (l,j)∧k∈l)∧ig h.fr (g.Nf++wrote g.hw)=false:=by
  intro k j g h hkj hg hh
  have:=xn hconf j h hh
  have:=xm this k g (by grind)
  grind
 have cf:∀{g h:bL},zv g h=false→((∀t,g.dst=some t→t∉h.rt∧h.dst≠some t)∧(∀t,h.dst=some t→t∉g.rt)∧(∀b∈g.wb,b∉h.rb∧b∉h.wb)∧(∀b∈g.fr,b∉h.Nf))∧(∀b∈h.wb,b∉g.rb):=by
  intro g h hc
  simp only[zv,Bool.or_eq_false_iff] at hc
  obtain⟨⟨⟨⟨h1,h2⟩,h3⟩,h4⟩,h5⟩:=hc
  refine⟨⟨?_,?_,?_,fun b hb=>eG h5 hb⟩,fun b hb hm=>eG h4 hm hb⟩
  ·intro t ht
   have:=eG h1 (d:=t) (by simp[bL.wt,ht])
   simp only[j5,not_or,bL.wt,Option.mem_toList] at this
   grind
  ·intro t ht hm
   exact eG h2 hm (by simp[bL.wt,ht])
  ·intro b hb
   have:=eG h3 hb
   grind
 have lat:∀{l:List Nat}{a b:Nat}{g h:bL},lt=some (l,b)→a∈l→fs[a]? =some g→fs[b]? =some h→a<b∧g.hw= []∧(∀t,g.dst=some t→t∉g.rt)∧((∀t,g.dst=some t→t∉h.rt∧h.dst≠some t)∧(∀t,h.dst=some t→t∉g.rt)∧(∀b∈g.wb,b∉h.rb∧b∉h.wb)∧(∀b∈g.fr,b∉h.Nf))∧∀k x,a<k→k<b→fs[k]? =some x→(∀t,x.dst=some t→t∉g.rt)∧∀b∈x.wb,b∉g.rb:=by
  intro l a b g h e hal hg hh
  subst e
  have hlt:=hlt
  simp only[Wa,ng] at hlt
  have hlt:=hlt a hal
  simp only[hg,hh,bP,List.isEmpty_iff,lF,ng] at hlt
  obtain⟨h0,⟨⟨⟨⟨h1,h2⟩,h3⟩,h4⟩,h5⟩,h6⟩:=hlt
  have hab:a<b:=by simp[Nat.blt] at h0;omega
  refine⟨hab,h1,fun t ht=>eG h3 (by simp[bL.wt,ht]),⟨fun t ht=>?_,fun t ht hm=>eG h5 hm (by simp[bL.wt,ht]),?_,?_⟩,fun k x k1 k2 hx=>?_⟩
  ·have:=eG h4 (d:=t) (by simp[bL.wt,ht])
   simp only[j5,not_or,bL.wt,Option.mem_toList] at this
   grind
  ·intro b hb;simp[bL.wb,h1,h2,wrote] at hb
  ·intro b hb;rw[h2] at hb;cases hb
  ·have h6:=h6 x (by
    rw[List.mem_iff_getElem?]
    exact⟨k -(a+1),by rw[List.getElem?_drop,List.getElem?_take,aA (by omega),show a+1+(k -(a+1))=k by omega];exact hx⟩)
   exact⟨fun t ht hm=>eG h6.1 hm (by simp[bL.wt,ht]),fun b hb hm=>eG h6.2 hm hb⟩
 have early:∀(k:Nat)(g:bL),fs[k]? =some g→k<i→X k=false→((∀t,g.dst=some t→t∉f.rt∧f.dst≠some t)∧(∀t,f.dst=some t→t∉g.rt)∧(∀b∈g.wb,b∉f.rb∧b∉f.wb)∧(∀b∈g.fr,b∉f.Nf)):=by
  intro k g hg hki hXk
  cases hcf:zv g f with
  |false=>exact(cf hcf).1
  |
   true=>
   rcases(pair k i g f hki hg hf).1 hcf with hm|hl
   ·have:=hmask (fun x=>X x||x==i) (by
     grind) i k (by simp) hm
    grind
   ·obtain⟨l,hl,hm⟩:=hl
    exact(lat hl hm hg hf).2.2.2.1
 have late:∀(k:Nat)(g:bL),fs[k]? =some g→i<k→X k=true→((∀t,f.dst=some t→t∉g.rt∧g.dst≠some t)∧(∀t,g.dst=some t→t∉f.rt)∧(∀b∈f.wb,b∉g.rb∧b∉g.wb)∧(∀b∈f.fr,b∉g.Nf))∧((∀b∈g.wb,b∉f.rb)∨∃l,lt=some (l,k)∧i∈l):=by
  intro k g hg hki hXk
  cases hcf:zv f g with
  |false=>exact⟨(cf hcf).1,Or.inl (cf hcf).2⟩
  |
   true=>
   rcases(pair i k f g hki hf hg).1 hcf with hm|hl
   ·have:=hmask X hX k i hXk hm
    grind
   ·obtain⟨l,hl,hm⟩:=hl
    exact⟨(lat hl hm hf hg).2.2.2.1,Or.inr ⟨l,hl,hm⟩⟩
 refine⟨?_,?_,?_⟩
 ·by_cases hj:∃l j,lt=some (l,j)∧i∈l∧X j=true
  ·obtain⟨lj,j,hj,hij,hXj⟩:=hj
   obtain⟨g,hg⟩:∃g,fs[j]? =some g:=by
    have h:=hlt
    rw[hj] at h
    simp only[Wa,ng] at h
    have h:=h i hij
    simp only[bP] at h
    split at h
    ·rename_i h2;exact⟨_,h2⟩
    ·cases h.2
   obtain⟨l1,l2,l3,_,l5⟩:=lat hj hij hf hg
   refine Or.inr ⟨lj,j,hj,hij,?_,?_,?_,?_⟩
   ·rw[sP,sP]
   ·rw[sQ,sQ]
   ·intro t ht
    refine uW rfl rfl (fun k g hg hne=>?_)
    simp only[ek] at hne
    intro hd
    rcases Nat.lt_trichotomy k i with h|h|h
    ·grind
    ·grind
    ·by_cases hk:X k=true
     ·exact(late k g hg h hk).1.2.1 t hd ht
     ·have hkj:k<j:=by grind
      exact(l5 k g h hkj hg).1 t hd ht
   ·intro b hb
    refine uX rfl rfl (fun k g hg hne=>?_)
    simp only[ek] at hne
    intro hd
    rcases Nat.lt_trichotomy k i with h|h|h
    ·have hXk:X k=false:=by
      grind
     exact((early k g hg h hXk).2.2.1 b (by simp[bL.wb,hd])).1 hb
    ·subst h
     rw[hf] at hg
     cases hg
     rw[l2] at hd
     cases hd
    ·by_cases hk:X k=true
     ·rcases(late k g hg h hk).2 with h2|⟨_,h2,_⟩
      ·exact h2 b (by simp[bL.wb,hd]) hb
      ·rw[hj] at h2
       cases h2
       simp[hk] at hne
     ·have hkj:k<j:=by grind
      exact(l5 k g h hkj hg).2 b (by simp[bL.wb,hd]) hb
  ·refine Or.inl ⟨?_,?_,?_,?_⟩
   ·rw[sP,sP]
   ·rw[sQ,sQ]
   ·intro t ht
    refine uW rfl rfl (fun k g hg hne=>?_)
    simp only[ek] at hne
    intro hd
    rcases Nat.lt_trichotomy k i with h|h|h
    ·grind
    ·grind
    grind
   ·intro b hb
    refine uX rfl rfl (fun k g hg hne=>?_)
    simp only[ek] at hne
    intro hd
    rcases Nat.lt_trichotomy k i with h|h|h
    ·have hXk:X k=false:=by
      grind
     exact((early k g hg h hXk).2.2.1 b (by simp[bL.wb,hd])).1 hb
    ·grind
    ·have hXk:X k=true:=by
      grind
     rcases(late k g hg h hXk).2 with h2|⟨l,h2,h3⟩
     ·exact h2 b (by simp[bL.wb,hd]) hb
     ·exact hj ⟨l,k,h2,h3,hXk⟩
 ·intro d hd
  refine zt (hfr i f hf d hd) (fun k g hg hx=>?_)
  simp only[ek] at hx
  rcases Nat.lt_trichotomy k i with h|h|h
  ·have hp:=pair k i g f h hg hf
   have:=eG hp.2 hd
   grind
  ·grind
  ·have:=(late k g hg h hx).1
   refine⟨fun hm=>this.2.2.2 d hd hm,fun hw=>(this.2.2.1 d (by simp[bL.wb,hd])).2 (by simp[bL.wb,hw])⟩
 ·have hlt:i<fs.length:=(List.getElem?_eq_some_iff.1 hf).1
  have tmEq:∀t:Nat,((eC X 0 fs σ).app f).tm[t]? =(eC (fun x=>X x||x==i) 0 fs σ).tm[t]? :=by
   intro t
   by_cases hd:f.dst=some t
   ·symm
    refine uY hd (j:=i) (by rw[sP]) hf (by simp) (fun k g hg hik hxk=>?_)<;>grind
   ·rw[la hd]
    refine uW rfl rfl (fun k g hg hne=>?_)
    simp only[ek] at hne
    have:k=i:=by
     grind
    grind
  have hpEq:∀b:Nat,((eC X 0 fs σ).app f).hp[b]? =(eC (fun x=>X x||x==i) 0 fs σ).hp[b]? :=by
   intro b
   by_cases hd:b∈wrote f.hw
   ·symm
    refine uZ hd (j:=i) (by rw[sQ]) hf (by simp) (fun k g hg hik hxk=>?_)
    simp only[ek,jV,beq_iff_eq] at hxk
    have hXk:X k=true:=hxk.resolve_right (by omega)
    intro hw
    exact((late k g hg hik hXk).1.2.2.1 b (by simp[bL.wb,hd])).2 (by simp[bL.wb,hw])
   ·rw[k9,ir hd]
    refine uX rfl rfl (fun k g hg hne=>?_)
    simp only[ek] at hne
    have:k=i:=by
     grind
    grind
  have e1:=List.ext_getElem? tmEq
  have e2:=List.ext_getElem? hpEq
  have e3:((eC X 0 fs σ).app f).df=(eC (fun x=>X x||x==i) 0 fs σ).df:=by rw[zq,C4,C4]
  cases h1:(eC X 0 fs σ).app f
  cases h2:eC (fun x=>X x||x==i) 0 fs σ<;>grind
end
def nn(l:Array Bool):Nat:=(l.toList.filter (·==false)).length
theorem tG:∀(m:List Bool)(i:Nat),m[i]? =some false→((m.set i true).filter (·==false)).length+1=(m.filter (·==false)).length
 |[],_,h=>by simp at h
 |x::m,0,h=>by grind
 |
  x::m,i+1,h=>by
  have:=tG m i (by simpa using h)
  simp only[List.set_cons_succ,jC]
  cases x<;>simp<;>simpa using this
theorem C5{l:Array Bool}{i:Nat}(h:l.getD i true=false):nn (l.setIfInBounds i true)+1=nn l:=by
 have hi:i<l.size:=by
  grind
 have hv:l[i]? =some false:=by
  simp_all
 unfold nn
 rw[Array.toList_setIfInBounds]
 exact tG _ i (by grind)
theorem Bb{l:Array Bool}(h:nn l=0){i:Nat}(hi:i<l.size):l.getD i false=true:=by
 unfold nn at h
 rw[List.length_eq_zero_iff,List.filter_eq_nil_iff] at h
 have:=h l[i] (by simp)
 simp_all
theorem E9{P:Program}{gl:Ctx}{ops:Array Oper}{fs:List bL}{σ σ':St}{DS WB:List Nat}{σ0:St}{E0:Env}{w0:World}{Q:Exit→Act→World→Prop}{lt:Option (List Nat×Nat)}(hi:∀f∈fs,inW DS WB f)(iq:qQ lt ops fs=true)(hL:∀l i j f,lt=some (l,j)→i∈l→fs[i]? =some f→PB P gl ops Q (A0 gl DS WB σ0 E0 w0) i f (eC (fun x=>decide (x<j+1)) 0 fs σ))(hc:dL (PB P gl ops Q (A0 gl DS WB σ0 E0 w0)) 0 fs σ σ')(hfr:∀(k:Nat)(f:bL),fs[k]? =some f→∀d∈f.fr,σ.fresh d)
 (hq:∀E' a' w',dE gl σ' E' a' w'→A0 gl DS WB σ0 E0 w0 σ' E' w'→Q .normal a' w'):
 ∀(fuel:Nat)(listed:Array Bool),listed.size=ops.size→nn listed≤fuel→
  (∀j o,ops[j]? =some o→listed.getD j false=true→∀e∈o.after.toList,Region.binds .any e=true→listed.getD e.on false=true)→
  ∀{E:Env}{a:Act}{w:World},dE gl (eC (fun x=>listed.getD x false) 0 fs σ) E a w→A0 gl DS WB σ0 E0 w0 (eC (fun x=>listed.getD x false) 0 fs σ) E w→wpAnyIn (Wd gl) 0 P .any ops Q fuel listed a w:=by
 have hlen:fs.length=ops.size:=by
  simp_all[qQ]
 have hedge:∀j o,ops[j]? =some o→∀e∈o.after.toList,Region.binds .any e=true→e.on<j:=by
  intro j o ho e he hb
  simp only[qQ,bP,ng,List.mem_range] at iq
  have hj:j<ops.size:=(Array.getElem?_eq_some_iff.1 ho).1
  have:=iq.2 j hj
  unfold Bx at this
  rw[show ops.toList[j]? =some o from by grind] at this
  simp only[ng] at this
  have:=this e he
  simp_all
 have done:∀listed:Array Bool,listed.size=ops.size→Region.ready .any ops listed= []→∀k,k<ops.size→listed.getD k false=true:=by
  intro listed hs hr
  have key:∀n k,k<n→k<ops.size→listed.getD k false=true:=by
   intro n
   induction n with
   |zero=>grind
   |
    succ n ih=>
    intro k hk hks
    cases hl:listed.getD k false with
    |true=>rfl
    |
     false=>
     exfalso
     have hm:k∈Region.ready .any ops listed:=by
      rw[mem_ready]
      refine⟨?_,ops[k],by simp[hks],?_⟩<;>grind
     grind
  grind
 have fin:∀listed:Array Bool,listed.size=ops.size→Region.ready .any ops listed= []→σ'=eC (fun x=>listed.getD x false) 0 fs σ:=by
  intro listed hs hr
  exact hc.last (fun k _ hk=>done listed hs hr k (by omega))
 intro fuel
 induction fuel with
 |
  zero=>
  intro listed hs hu hcl E a w hg hv
  have hall:∀k,k<ops.size→listed.getD k false=true:=fun k hk=>Bb (by omega) (by omega)
  have hr:Region.ready .any ops listed= []:=by
   rw[List.eq_nil_iff_forall_not_mem]
   grind [mem_ready]
  refine⟨hr,?_⟩<;>grind
 |
  succ fuel ih=>
  intro listed hs hu hcl E a w hg hv
  refine⟨fun hr=>?_,fun i hi=>?_⟩
  ·grind
  ·rw[mem_ready] at hi
   obtain⟨h1,o,h2,h3⟩:=hi
   have hlt:i<ops.size:=(Array.getElem?_eq_some_iff.1 h2).1
   have hif:listed.getD i false=false:=by grind
   obtain⟨f,hf⟩:∃f,fs[i]? =some f:=⟨fs[i]'(by omega),by grind⟩
   obtain⟨hA,hF,hR⟩:=HY iq hfr (X:=fun x=>listed.getD x false) hcl h2 hif (fun e he hb=>h3 e (by grind) hb) hf
   have hop:=hc.nth i f hf
   simp only[ek] at hop
   obtain⟨σ9,hop,hA⟩:∃σ9,PB P gl ops Q (A0 gl DS WB σ0 E0 w0) i f σ9∧mo σ9 (eC (fun x=>listed.getD x false) 0 fs σ) f.rt f.rb:=hA.elim (fun h=>⟨_,hop,h⟩) fun⟨l,j,hj,hm,h⟩=>⟨_,hL l i j f hj hm hf,h⟩
   refine hop _ hA hF E a w hg hv _ ?_
   intro E' a' w' hg' hx
   have hv':=hv.app (hi f (n8 hf)) hx
   have bJ:∀x,(listed.getD x false||x==i)=(listed.setIfInBounds i true).getD x false:=by
    intro x
    by_cases e:x=i
    ·subst e;simp[hs,hlt]
    ·rw[getD_set_ne false (fun h=>e h.symm)];simp[e]
   have hfun:(fun x=>listed.getD x false||x==i)=fun x=>(listed.setIfInBounds i true).getD x false:=funext bJ
   rw[hR,hfun] at hg' hv'
   refine ih (listed.setIfInBounds i true) (by simp[hs]) (by have:=C5 h1;omega) ?_ hg' hv'<;>grind
def mq(σ:St)(fs:List bL):Bool:=fs.all fun f=>f.fr.all fun d=>σ.jo d
theorem dE.drew{gl:Ctx}{σ:St}{E:Env}{a:Act}{w:World}(h:dE gl σ E a w):dE gl σ E a {w with drawn:=w.drawn+1}∧Ext gl.md (cU σ.hp E) E w (cU σ.hp E) E {w with drawn:=w.drawn+1}:=by
 have kp:di E w E {w with drawn:=w.drawn+1}:=⟨fun _ _=>rfl,fun _ h=>h⟩
 refine⟨h.carry (hp:=σ.hp) kp (fun _ _=>⟨rfl,rfl,rfl⟩) ⟨fun b k hb=>RB.mono kp (fun _ _=>⟨rfl,rfl,rfl⟩) (fun _ _=>rfl) (fun _ _ h=>h) (h.hw.eJ b k hb),h.hw.gY,h.hw.fZ,h.hw.slt,h.hw.kz kp,h.hw.xi⟩,⟨rfl,Tp.s rfl rfl,rfl,cV _,fun _ _ _=>rfl,fun _ h=>h,fun _ h=>Or.inl h,fun _ h=>Or.inl h,fun _ _=>⟨rfl,rfl,rfl⟩⟩⟩<;>grind
theorem xo{P:Program}{G:dq}(T:cQ P G){gl:Ctx}{ops:Array Oper}{id:Nat}{fs:List bL}{σ σ':St}{Q:Exit→Act→World→Prop}{E:Env}{a:Act}{w:World}{lt:Option (List Nat×Nat)}(iq:qQ lt ops fs=true)(hfr:mq σ fs=true)(hL:∀l i j f,lt=some (l,j)→i∈l→fs[i]? =some f→PB P gl ops Q (A0 gl (dstsOf fs) (oC fs) σ E w) i f (eC (fun x=>decide (x<j+1)) 0 fs σ))(hc:dL (PB P gl ops Q (A0 gl (dstsOf fs) (oC fs) σ E w)) 0 fs σ σ')(hg:dE gl σ E a w)
 (hq:∀E' a' w',dE gl σ' E' a' w'→A0 gl (dstsOf fs) (oC fs) σ E w σ' E' w'→Q .normal a' w'):(Code.region id ops true).wpIn (Wd gl) 0 P Q a w:=by
 refine wpIn_region_any T.V8 ?_
 have hfr':∀(k:Nat)(f:bL),fs[k]? =some f→∀d∈f.fr,σ.fresh d:=by
  grind [mq,St.gL]
 obtain⟨hg',hx'⟩:=hg.drew
 have hid:∀(fs:List bL)(i:Nat)(σ:St),eC (fun x=>(Array.replicate ops.size false).getD x false) i fs σ=σ:=by
  intro fs
  induction fs with
  |nil=>intro i σ;rfl
  |
   cons f fs ih=>
   intro i σ
   rw[eC]
   have:(Array.replicate ops.size false).getD i false=false:=by
    rcases Nat.lt_or_ge i ops.size with h|h<;>simp[h]
   grind
 refine E9 Nc iq hL hc hfr' hq ops.size _ (by simp) ?_ ?_ (E:=E) (by grind) (by rw[hid];exact⟨rfl,rfl,rfl,fun _ _=>rfl,fun _ _=>rfl,hx'⟩)
 ·unfold nn;simp
 ·intro j o ho hj
  have:(Array.replicate ops.size false).getD j false=false:=by
   rcases Nat.lt_or_ge j ops.size with h|h<;>simp[h]
  grind
theorem HZ{P:Program}{G:dq}(T:cQ P G){gl:Ctx}{ops:Array Oper}{id:Nat}{fs:List bL}{σ σ':St}{lt:Option (List Nat×Nat)}(iq:qQ lt ops fs=true)(hfr:mq σ fs=true)(hL:∀l i j f,lt=some (l,j)→i∈l→fs[i]? =some f→tY P gl ops i f (eC (fun x=>decide (x<j+1)) 0 fs σ))(hc:uV P gl ops 0 fs σ σ'){Q:Exit→Act→World→Prop}{E:Env}{a:Act}{w:World}(hg:dE gl σ E a w)
 (hq:∀E' a' w',dE gl σ' E' a' w'→Ext gl.md (cU σ.hp E) E w (cU σ'.hp E') E' w'→Q .normal a' w'):(Code.region id ops true).wpIn (Wd gl) 0 P Q a w:=
 xo T iq hfr (fun l i j f h0 h1 h2=>(hL l i j f h0 h1 h2).q) (hc.mono fun _ _ _=>tY.q) hg (fun E' a' w' h1 h2=>hq E' a' w' h1 h2.ext)
end Go.Ax
namespace Go.Ax
structure jv where
 v:AV
 hw:List (Nat×Option aX)
 fr:List Nat
 vc:List VC
def jv.one(v:AV):jv:=⟨v,[],[],[]⟩
def jv.PC(x:AV×List VC):jv:=⟨x.1,[],[],x.2⟩
def gtI(b:Int):Int→Bool
 |
  .ofNat n=>match b with
  | .ofNat m=>Nat.blt m n
  | .negSucc _=>true
 |
  .negSucc n=>match b with
  | .ofNat _=>false
  | .negSucc m=>Nat.blt n m
theorem Wb(b a:Int):gtI b a=decide (b<a):=by
 rw[Bool.eq_iff_iff,rE]
 match a,b with
 | .ofNat n,.ofNat m=>exact(show Nat.blt m n=true↔(m:Int)<(n:Int) by rw[Nat.blt_eq];omega)
 | .ofNat n,.negSucc m=>exact(show true=true↔Int.negSucc m<(n:Int) by have:=Int.negSucc_eq m;exact⟨fun _=>by omega,fun _=>rfl⟩)
 | .negSucc n,.ofNat m=>exact(show false=true↔(m:Int)<Int.negSucc n by have:=Int.negSucc_eq n;exact⟨fun h=>(by cases h),fun h=>by omega⟩)
 | .negSucc n,.negSucc m=>exact(show Nat.blt n m=true↔Int.negSucc m<Int.negSucc n by have:=Int.negSucc_eq n;have:=Int.negSucc_eq m;rw[Nat.blt_eq];omega)
def aag:Operand→Bool
 | .const (.int _ c)=>decide (1073741824<c)
 |_=>false
def H3(P:Program)(t:TypeId)(o:BinOp)(y:Operand)(a b:AV):Option (AV×List VC):=
 match aag y,o with
 |
  true,.gtr=>match a,b with
  | .val (.int k) m,.val (.int k') n=>if Nat.beq (IntKind.code k) (IntKind.code k') then some (.val .bool (gtI n m),[]) else none
  |_,_=>none
 |_,_=>Bt P t o a b
theorem xp{P:Program}{t:TypeId}{o:BinOp}{y:Operand}{a b:AV}{r:AV×List VC}(h:H3 P t o y a b=some r):Bt P t o a b=some r:=by
 unfold H3 at h
 split at h
 ·split at h
  ·rw[Wb] at h
   exact h
  ·cases h
 ·exact h
def Wc(op:UnOp):AV→Option AV
 |
  .val .bool b=>match op with
  | .not=>some (.val .bool (!b))
  |_=>none
 |
  .val (.int k) n=>match op with
  | .neg=>some (.val (.int k) (k.wrap (0 -n)))
  | .xor=>some (.val (.int k) (lM .xor k (if k.signed then-1 else k.max) n))
  |_=>none
 |_=>none
def H4(G:dq)(s d:TypeId)(x:AV):Option AV:=
 match x,G.at s,G.at d with
 |
  .val (.int _) n,some _,some td=>match td.ty with
  | .int k=>some (.val (.int k) (k.wrap n))
  |_=>none
 |_,_,_=>none
def AV.nth:AV→Nat→Option AV
 | .cons a _,0=>some a
 | .cons _ b,n+1=>b.nth n
 |_,_=>none
def AV.RE:AV→Bool
 | .bot| .opt _ _=>false
 |_=>true
def H5(P:Program)(G:dq)(d:Nat)(op:Op)(ev:Operand→AV)(hb:Nat→Option aX):Option jv:=
 match op with
 | .move x| .assign x=>if(ev x).RE then some (.one (ev x)) else none
 | .alloc e=>(G.at e).map fun td=>⟨.ptr d [],[(d,some (.var td.ty td.ty.zero))],[d],[]⟩
 |
  .box e x=>match G.at e with
  |some td=>if(ev x).plain&&(ev x).dY td.ty then some ⟨.ptr d [],[(d,some (.var td.ty (ev x)))],[d],[]⟩ else none
  |none=>none
 | .load t a=>(zn G hb t (ev a)).map .one
 | .store t a x=>if(ev x).plain then(C1 G hb t (ev a) (ev x)).map fun y=>⟨.bot,[(y.1,some y.2)],[],[]⟩ else none
 |
  .nilCheck x=>match ev x with
  | .ptr b p=>some (.one (.ptr b p))
  | .dk t y=>some (.one (.dk t y))
  |_=>none
 | .binOp o t x y _=>(H3 P t o y (ev x) (ev y)).map .PC
 | .unOp o _ x=>(Wc o (ev x)).map .one
 | .convert s t x=>(H4 G s t (ev x)).map .one
 | .fieldAddr t x i=>(kN G hb t i (ev x)).map .one
 | .indexAddr t x i=>(oh G hb t (ev x) (ev i)).map .PC
 |
  .extract x i=>match ev x with
  | .ky l=>(l.nth i).map .one
  |_=>none
 |
  .pick c x y=>match ev c with
  | .val .bool true=>if(ev x).plain then some (.one (ev x)) else none
  | .val .bool false=>if(ev y).plain then some (.one (ev y)) else none
  |_=>none
 | .call {callee:=.builtin .len,args:=⟨[x]⟩,argTypes:=⟨[t]⟩}=>(M7 G hb t (ev x)).map .one
 |_=>none
def xq(op:Op)(ev:Operand→AV):List Nat:=
 match op with
 | .load _ a| .store _ a _| .fieldAddr _ a _| .indexAddr _ a _| .slice _ a _ _ _| .convert _ _ a| .lookup _ a _ _| .mapUpdate _ a _ _| .insert _ a _ _| .mapEntry _ a _| .entryStore _ a _ _| .entry a=>(ev a).ids
 | .call c=>c.operands.toList.flatMap fun x=>(ev x).ids
 |_=>[]
def dz(P:Program)(gl:Ctx)(σ:St)(E:Env)(a:Act)(w:World)(o:Oper)(r:jv):Prop:=
 ∃nx v w' E',(execOp a.eval o).run P w= .ok nx w'∧(nx= .value v∨(nx= .skip∧v=undef))∧dE gl {σ with hp:=bJ σ.hp r.hw} E' a w'∧RV E' w' r.v v∧
  Ext gl.md (cU σ.hp E) E w (cU (bJ σ.hp r.hw) E') E' w'
theorem dz.same{P:Program}{gl:Ctx}{σ:St}{E:Env}{a:Act}{w:World}{o:Oper}{x:AV}{vc:List VC}(h:dE gl σ E a w){v:Value}(hr:(execOp a.eval o).run P w= .ok (.value v) w)(hv:RV E w x v):dz P gl σ E a w o ⟨x,[],[],vc⟩:=
 ⟨_,v,w,E,hr,Or.inl rfl,h,hv,Ext.refl _ _ _⟩
theorem RI{P:Program}{E:Env}{w:World}{op:UnOp}{x r:AV}{vx:Value}(hx:RV E w x vx)(h:Wc op x=some r):∃v,(Op.unary op vx).run P w= .ok v w∧RV E w r v:=by
 unfold Wc at h
 split at h
 ·have:=RV.ib hx;subst this
  split at h<;>cases h
  exact⟨_,by simp[Op.unary],RV.bool⟩
 ·obtain⟨rfl,_⟩:=RV.fw hx
  split at h<;>cases h
  ·exact⟨_,by simp[Op.unary,Op.intArith],RV.int (gr _ _)⟩
  ·exact⟨_,by simp[Op.unary,Op.intBits];rfl,RV.int (gr _ _)⟩
 ·cases h
theorem cQ.intOf{P:Program}{G:dq}(T:cQ P G){t:TypeId}{td:TD}(h:G.at t=some td){k:IntKind}(hs:td.ty= .int k):P.underlying t=some (.int k):=by
 obtain⟨ii,d,_,h1,_,h2,_⟩:=T.info h
 have ao2:=fI h2
 rw[h1]
 cases hd:d with
 |int k'=>grind [d7,Ty.aE]
 |struct fs=>subst hd;simp only[fR] at ao2;rw[hs] at ao2;trivial
 |array n e=>subst hd;simp only[fR] at ao2;rw[hs] at ao2;trivial
 |
  slice e=>
  subst hd
  simp only[d7] at h2
  rw[jV] at h2
  rcases h2 with h2|h2
  ·grind [Ty.aE]
  grind
 |map k e=>subst hd;have:=(mM h2).1;rw[hs] at this;trivial
 |
  _=>
  subst hd
  simp only[d7] at h2
  first
   |(have:=Ty.aE h2;rw[hs] at this;cases this)
   |cases h2
theorem LS{P:Program}{G:dq}(T:cQ P G){E:Env}{w:World}{s d:TypeId}{x r:AV}{vx:Value}(hx:RV E w x vx)(h:H4 G s d x=some r):∃v,(convert s d vx).run P w= .ok v w∧RV E w r v:=by
 unfold H4 at h
 split at h
 ·rename_i k n ts td hs hd
  split at h
  ·rename_i k' hk
   cases h
   obtain⟨rfl,_⟩:=RV.fw hx
   obtain⟨_,ds,_,h1,_⟩:=T.info hs
   have h2:=T.intOf hd hk
   simp_all[convert,underlying,Conv.intToInt,RV.int,gr]
  grind
 grind
theorem RT.nth{E:Env}{w:World}:∀{l:AV}{vs:List Value}{i:Nat}{x:AV},RT E w l vs→l.nth i=some x→∃v,vs[i]? =some v∧ew E w x v:=by
 intro l
 induction l with
 |
  cons a b ih1 ih2=>
  intro vs i x h hn
  cases vs with
  |nil=>exact h.elim
  |
   cons v vs=>
   cases i with
   |zero=>cases hn;exact⟨v,rfl,h.1⟩
   |succ i=>obtain⟨u,h1,h2⟩:=ih2 h.2 hn;exact⟨u,by simpa using h1,h2⟩
 |_=>intro vs i x h hn;trivial
theorem Bc{P:Program}{E:Env}{w:World}{op:BinOp}{t:TypeId}{x y:Operand}{vx vy:Value}{ax ay r:AV}{vc:List VC}(hx:RV E w ax vx)(hy:RV E w ay vy)(h:Bt P t op ax ay=some (r,vc)):(eqGuard op t x y vx vy).run P w= .ok () w:=by
 unfold Bt at h
 split at h
 ·obtain⟨rfl,_⟩:=RV.fw hx
  obtain⟨rfl,_⟩:=RV.fw hy
  unfold eqGuard;split<;>simp
 ·have:=RV.ib hx;subst this
  have:=RV.ib hy;subst this
  unfold eqGuard;split<;>simp
 ·obtain⟨rfl,_⟩:=RV.kr hx
  obtain⟨rfl,_⟩:=RV.kr hy
  unfold eqGuard;split<;>simp
 ·cases h
theorem Ng{P:Program}{G:dq}(T:cQ P G){gl:Ctx}{σ:St}{E:Env}{a:Act}{w:World}(h:dE gl σ E a w){o:Oper}{d:Nat}{ev:Operand→AV}{hb:Nat→Option aX}(hB:HB hb σ.hp){r:jv}
 (hev:∀x∈o.op.operands.toList,RV E w (ev x) (a.eval x)) (hids:∀x∈o.op.operands.toList,∀b∈(ev x).ids,b∈σ.ids) (he:H5 P G d o.op ev hb=some r) (hvc:gm r.vc) (hfr:∀b∈r.fr,σ.fresh b):dz P gl σ E a w o r:=by
 unfold H5 at he
 split at he
 ·rename_i x hop
  split at he
  ·rename_i hp
   cases he
   exact dz.same h (v:=a.eval x) (by simp[execOp,hop]) (hev x (by simp[hop,Op.operands]))
  grind
 ·rename_i x hop
  split at he
  ·rename_i hp
   cases he
   exact dz.same h (v:=a.eval x) (by simp[execOp,hop]) (hev x (by simp[hop,Op.operands]))
  grind
 ·rename_i e hop
  obtain⟨td,htd,rfl⟩:=Option.map_eq_some_iff.1 he
  obtain⟨v,w',E',h1,h2,h3,h4⟩:=LN T h (hfr d (by simp)) htd (.tuple #[])
  exact⟨_,v,w',E',by simp[execOp,hop,h1],Or.inl rfl,h2,h3,h4⟩
 ·rename_i e x hop
  split at he
  ·rename_i td htd
   split at he
   ·rename_i hc
    cases he
    simp only[bP] at hc
    have hf:=hfr d (by simp)
    obtain⟨v,w',E',h1,h2,h3,h4⟩:=RA (P:=P) (e:=e) h hf (RV.mN hc.1 (hev x (by simp[hop,Op.operands]))) hc.2 (fun hm=>hf.1 (hids x (by simp[hop,Op.operands]) d hm))
    exact⟨_,v,w',E',by simp[execOp,hop,h1],Or.inl rfl,h2,h3,h4⟩
   grind
  grind
 ·rename_i t x hop
  obtain⟨u,hu,rfl⟩:=Option.map_eq_some_iff.1 he
  obtain⟨v,h1,h2⟩:=wH T h.hw hB (hev x (by simp[hop,Op.operands])) hu
  exact dz.same h (v:=v) (by simp[execOp,hop,h1]) h2
 ·rename_i t x y hop
  split at he
  ·rename_i hp
   obtain⟨⟨b,k⟩,hk,rfl⟩:=Option.map_eq_some_iff.1 he
   obtain⟨w',h1,h2,h3⟩:=E6 T h hB (hev x (by simp[hop,Op.operands])) (RV.mN hp (hev y (by simp[hop,Op.operands]))) hk
   exact⟨_,undef,w',E,by simp[execOp,hop,h1],Or.inr ⟨rfl,rfl⟩,h2,trivial,h3⟩
  grind
 ·rename_i x hop
  split at he
  ·rename_i b p hx
   cases he
   have hr:=hev x (by simp[hop,Op.operands])
   rw[hx] at hr
   obtain⟨g,hg,e,_⟩:=RV.atom rfl hr
   simp at e
   exact dz.same h (v:=a.eval x) (by simp[execOp,hop,e]) hr
  ·rename_i t y hx
   cases he
   have hr:=hev x (by simp[hop,Op.operands])
   rw[hx] at hr
   obtain⟨b,o',cs,e,_⟩:=RV.atom rfl hr
   simp at e
   exact dz.same h (v:=a.eval x) (by simp[execOp,hop,e]) hr
  grind
 ·rename_i bo t x y t2 hop
  obtain⟨⟨u,vc⟩,hu,rfl⟩:=Option.map_eq_some_iff.1 he
  obtain⟨v,h1,h2⟩:=M5 (P:=P) (t:=t) (hev x (by simp[hop,Op.operands])) (hev y (by simp[hop,Op.operands])) (xp hu) hvc
  have hgd:=Bc (P:=P) (t:=t) (x:=x) (y:=y) (hev x (by simp[hop,Op.operands])) (hev y (by simp[hop,Op.operands])) (xp hu)
  exact dz.same h (v:=v) (by simp[execOp,hop,hgd,h1]) h2
 ·rename_i uo t x hop
  obtain⟨u,hu,rfl⟩:=Option.map_eq_some_iff.1 he
  obtain⟨v,h1,h2⟩:=RI (P:=P) (hev x (by simp[hop,Op.operands])) hu
  exact dz.same h (v:=v) (by simp[execOp,hop,h1]) h2
 ·rename_i s t x hop
  obtain⟨u,hu,rfl⟩:=Option.map_eq_some_iff.1 he
  obtain⟨v,h1,h2⟩:=LS T (hev x (by simp[hop,Op.operands])) hu
  exact dz.same h (v:=v) (by simp[execOp,hop,h1]) h2
 ·rename_i t x i hop
  obtain⟨u,hu,rfl⟩:=Option.map_eq_some_iff.1 he
  obtain⟨v,h1,h2⟩:=rL T h.hw hB (hev x (by simp[hop,Op.operands])) hu
  exact dz.same h (v:=v) (by simp[execOp,hop,h1]) h2
 ·rename_i t x i hop
  obtain⟨⟨u,vc⟩,hu,rfl⟩:=Option.map_eq_some_iff.1 he
  obtain⟨v,h1,h2⟩:=zp T h.hw hB (hev x (by simp[hop,Op.operands])) (hev i (by simp[hop,Op.operands])) hu hvc
  exact dz.same h (v:=v) (by simp[execOp,hop,h1]) h2
 ·rename_i x i hop
  split at he
  ·rename_i l hx
   obtain⟨u,hu,rfl⟩:=Option.map_eq_some_iff.1 he
   have hr:=hev x (by simp[hop,Op.operands])
   rw[hx] at hr
   obtain⟨vs,e,hr⟩:=hr
   obtain⟨v,h1,h2⟩:=RT.nth hr hu
   exact dz.same h (v:=v) (by simp_all[execOp,Instr.extract]) (RV.gZ h2)
  grind
 ·rename_i c x y hop
  split at he
  ·rename_i hc
   split at he
   ·cases he
    have hr:=hev c (by simp[hop,Op.operands])
    rw[hc] at hr
    have hb:=RV.ib hr
    exact dz.same h (v:=a.eval x) (by simp[execOp,hop,hb,asBool]) (hev x (by simp[hop,Op.operands]))
   grind
  ·rename_i hc
   split at he
   ·cases he
    have hr:=hev c (by simp[hop,Op.operands])
    rw[hc] at hr
    have hb:=RV.ib hr
    exact dz.same h (v:=a.eval y) (by simp[execOp,hop,hb,asBool]) (hev y (by simp[hop,Op.operands]))
   grind
  grind
 ·rename_i x t hop
  obtain⟨u,hu,rfl⟩:=Option.map_eq_some_iff.1 he
  obtain⟨v,h1,h2⟩:=M8 T (ty:=o.type) h.hw hB (hev x (by simp[hop,Op.operands,Call.operands])) hu
  refine dz.same h (v:=v) ?_ h2
  simp[execOp,hop,resolve,invoke,builtin,h1]
 grind
def zw(P:Program)(gl:Ctx)(σ:St)(E:Env)(a:Act)(w:World)(o:Oper)(r:jv):Prop:=
 ∀(K:Act→World→Prop)(Q:Exit→Act→World→Prop),(∀E' v w',dE gl {σ with hp:=bJ σ.hp r.hw} E' a w'→RV E' w' r.v v→Ext gl.md (cU σ.hp E) E w (cU (bJ σ.hp r.hw) E') E' w'→K (a.put o.dst v) w')→o.wpIn (Wd gl) 0 P a w K Q
theorem dz.to{P:Program}{gl:Ctx}{σ:St}{E:Env}{a:Act}{w:World}{o:Oper}{r:jv}(h:dz P gl σ E a w o r)(hnd:∀c,o.op≠.defer c):zw P gl σ E a w o r:=by
 intro K Q hk
 obtain⟨nx,v,w',E',h1,h2,h3,h4,h5⟩:=h
 unfold Oper.wpIn
 refine⟨fun _ _=>trivial,?_⟩
 rw[Oper.semAt_eq _ _ _ hnd,h1]
 rcases h2 with h2|⟨h2,h2'⟩
 ·subst h2;exact hk E' v w' h3 h4 h5
 ·subst h2;subst h2';exact hk E' undef w' h3 h4 h5
def ru(E:Env)(w:World):List AV→List Value→Prop
 |[],[]=>True
 |x::xs,v::vs=>RV E w x v∧ru E w xs vs
 |_,_=>False
inductive Bd where
 |ret (x:AV)
 |oi (x:AV)
def C6(E:Env)(w:World):Bd→Ending→Prop
 | .ret x,.returned v=>RV E w x v
 | .oi x,.panicked chain=>∃u,chain= [{v:=u,recovered:=false}]∧ew E w x u
 |_,_=>False
def C7(P:Program)(gl:Ctx)(f:FuncId)(args:List AV)(H:List (Option aX))(r:Bd)(H':List (Option aX)):Prop:=
 ∀E w vs,ru E w args vs→HW gl E w H→Calls P f vs.toArray w (fun e w'=>∃E',C6 E' w' r e∧HW gl E' w' H'∧Ext gl.md (cU H E) E w (cU H' E') E' w')
theorem ru.get{E:Env}{w:World}:∀{xs:List AV}{vs:List Value},ru E w xs vs→xs.length=vs.length∧∀(i:Nat)(x:AV)(v:Value),xs[i]? =some x→vs[i]? =some v→RV E w x v
 |[],[],_=>⟨rfl,fun i x v h=>by simp at h⟩
 |[],_::_,h=>h.elim
 |_::_,[],h=>h.elim
 |
  x::xs,v::vs,⟨h1,h2⟩=>by
  obtain⟨e,hh⟩:=ru.get h2
  refine⟨by simp[e],?_⟩
  intro i y u hy hu
  cases i with
  |zero=>simp at hy hu;subst hy;subst hu;exact h1
  |succ i=>exact hh i y u (by simpa using hy) (by simpa using hu)
def Fc(P:Program)(gl:Ctx)(f:FuncId)(args:List AV)(H:List (Option aX))(r:Bd)(H':List (Option aX)):Prop:=
 (∀vs w,(callFunc f vs).run P w= .ok (.enter f vs) w)∧C7 P gl f args H r H'
def Fy(P:Program)(gl:Ctx)(l:Nat)(args:List AV)(H:List (Option aX))(r:Bd)(H':List (Option aX)):Prop:=
 ∀E w vs,ru E w args vs→HW gl E w H→∃fn tmps assign body,(Instr.yield l vs.toArray).run P w= .ok (.round l fn tmps assign body) w∧
  RoundIn Fence.wide 0 P l fn tmps assign body w (fun e w'=>∃E',C6 E' w' r e∧HW gl E' w' H'∧Ext gl.md (cU H E) E w (cU H' E') E' w')
def Nh(P:Program)(gl:Ctx)(fn:Fn)(args:List AV)(H:List (Option aX))(r:Bd)(H':List (Option aX)):Prop:=
 match fn with
 | .func f=>Fc P gl f args H r H'
 | .yield l=>Fy P gl l args H r H'
 |_=>False
def We:Fn→AV→AV→Bool
 | .func _,_,_=>true
 | .yield _,.nil,.nil=>true
 |_,_,_=>false
def AV.toList:AV→List AV
 | .cons a b=>a::b.toList
 |_=>[]
def jw(hb:Nat→Option aX)(b:Nat):Option ((_:Nat)×(t:Ty)×List t.den):=
 match hb b with
 |some (.row _ bs t xs)=>some ⟨bs,t,xs⟩
 |_=>none
def view(hb:Nat→Option aX):AV→Bool→Ty→Option (AV×List Nat)
 | .val t x,_,_=>some (.val t x,[])
 | .aM,_,.slice bs t=>some (.val (.slice bs t) [],[])
 |
  .own b,_,_=>match jw hb b with
  |some ⟨bs,t,xs⟩=>some (.val (.slice bs t) xs,[b])
  |none=>none
 |
  .nQ b lo len,_,_=>match jw hb b with
  |some ⟨bs,t,xs⟩=>some (.val (.slice bs t) ((xs.drop lo).take len),[b])
  |none=>none
 |
  .mL b p lo len,_,.slice bs _=>match hb b with
  |
   some (.var _ v)=>match v.get p with
   |some (.val (.arr n t) xs)=>if Nat.ble (n*bs) aF&&Nat.ble n aF then some (.val (.slice bs t) ((List.drop lo xs).take len),[b]) else none
   |_=>none
  |_=>none
 |
  .ptr b p,_,_=>match hb b with
  |
   some k=>match tE k p,(mG k).sub p with
   |
    some u,some s=>match u.de s with
    |some y=>some (.dk s y,[b])
    |none=>none
   |_,_=>none
  |none=>none
 | .dk t x,_,_=>some (.dk t x,[])
 |
  .mp b,_,_=>match hb b with
  |some (.map k v es)=>some (.val (.map k v) (some es),[b])
  |_=>none
 |
  .func fn fs cs,_,_=>match view hb fs true .unit,view hb cs true .unit with
  |some (f,l),some (c,m)=>if f.atoms&&c.atoms then some (.func fn f c,l++m) else none
  |_,_=>none
 |
  .cons a b,true,_=>match view hb a false .unit,view hb b true .unit with
  |some (x,l),some (y,m)=>some (.cons x y,l++m)
  |_,_=>none
 |
  .cons a b,false,.pair s t=>match view hb a false s,view hb b false t with
  |some (.val s' x,l),some (.val t' y,m)=>some (.val (.pair s' t') (x,y),l++m)
  |_,_=>none
 | .nil,true,_=>some (.nil,[])
 | .nil,false,_=>some (.val .unit (),[])
 | .kv,_,_=>some (.kv,[])
 | .jD,_,_=>some (.jD,[])
 | .fm f t x,_,_=>some (.fm f t x,[])
 |_,_,_=>none
def Env.eQ(E:Env)(l:List Nat):Env:={E with S:=fun g=>E.S g∨∃b∈l,E.g b=some g}
theorem Env.gA{E:Env}{w:World}(l:List Nat):di E w (E.eQ l) w:=⟨fun _ _=>rfl,fun _ h=>Or.inl h⟩
theorem Env.lO{E:Env}{w:World}{l m:List Nat}(h:∀b∈l,b∈m):di (E.eQ l) w (E.eQ m) w:=
 ⟨fun _ _=>rfl,fun _g hg=>hg.imp id (fun⟨b,hb,e⟩=>⟨b,h b hb,e⟩)⟩
theorem tX.take{w:World}{a:Addr}{cs:List Value}(h:tX w a cs)(n:Nat):tX w a (cs.take n):=by
 intro j v hj
 rw[List.getElem?_take] at hj
 split at hj
 ·exact h j v hj
 grind
theorem bO.drop{α:Type}{r:List Value→α→Prop}{n:Nat}(hn:∀vs x,r vs x→vs.length=n):∀{xs:List α}{vs:List Value}(k:Nat),bO r vs xs→bO r (vs.drop (k*n)) (xs.drop k)
 |xs,vs,0,h=>by grind
 |[],vs,k+1,h=>by simp[bO] at h;subst h;simp[bO]
 |
  x::xs,vs,k+1,⟨v1,v2,e,h1,h2⟩=>by
  subst e
  have:=bO.drop hn k h2
  rw[List.drop_succ_cons,List.drop_append,qO (by grind),jW,hn _ _ h1]
  grind
theorem bO.take{α:Type}{r:List Value→α→Prop}{n:Nat}(hn:∀vs x,r vs x→vs.length=n):∀{xs:List α}{vs:List Value}(k:Nat),bO r vs xs→bO r (vs.take (k*n)) (xs.take k)
 |xs,vs,0,h=>by simp[bO]
 |[],vs,k+1,h=>by simp[bO] at h;subst h;simp[bO]
 |
  x::xs,vs,k+1,⟨v1,v2,e,h1,h2⟩=>by
  subst e
  have:=bO.take hn k h2
  rw[List.take_succ_cons]
  refine⟨v1,v2.take (k*n),?_,h1,this⟩
  grind [iW]
theorem bO.part{w:World}{S:Nat→Prop}{t:Ty}{xs:List t.den}{g o:Nat}{cs:List Value}(hr:tX w ⟨g,o,none⟩ cs)(h:bO (Rel w S t) cs xs)(lo len:Nat):
 ∃cs',tX w ⟨g,o+lo*t.size,none⟩ cs'∧bO (Rel w S t) cs' ((xs.drop lo).take len):=
 ⟨_,hr.sub (lo*t.size) (len*t.size),bO.take (fun _ _ h=>Rel.len h) len (bO.drop (fun _ _ h=>Rel.len h) lo h)⟩
end Go.Ax
