/- The machines: what it means to be walked or run, part 1. No condition. -/
import Derived.Orders
import Derived.OrdersIn
import Derived.RangeFuncIn
import Derived.Laws.Cells
import Derived.Laws.AppendOwn
import Derived.Laws.Strings
import Derived.Laws.Small
import Derived.Laws.CopyRow
namespace Go.Ax
theorem aH:type_of% @Option.bind_some:=@Option.bind_some
theorem aV:type_of% @Bool.and_eq_true:=@Bool.and_eq_true
theorem bQ:type_of% @Nat.eq_of_beq_eq_true:=@Nat.eq_of_beq_eq_true
theorem fm:type_of% @Option.map_eq_some_iff:=@Option.map_eq_some_iff
theorem cE:type_of% @Option.some.injEq:=@Option.some.injEq
theorem gA:type_of% @List.mem_append:=@List.mem_append
theorem fR:type_of% @Array.length_toList:=@Array.length_toList
theorem dr:type_of% @List.mem_cons_of_mem:=@List.mem_cons_of_mem
theorem cN:type_of% @List.length_append:=@List.length_append
theorem cq:type_of% @Nat.le_refl:=@Nat.le_refl
theorem fb:type_of% @List.take_of_length_le:=@List.take_of_length_le
theorem fc:type_of% @Nat.le_of_ble_eq_true:=@Nat.le_of_ble_eq_true
theorem cK:type_of% @List.mem_cons_self:=@List.mem_cons_self
theorem cm:type_of% @Bool.false_eq_true:=@Bool.false_eq_true
theorem eA:type_of% @List.mem_cons:=@List.mem_cons
theorem fv:type_of% @Nat.mul_le_mul_right:=@Nat.mul_le_mul_right
theorem cM:type_of% @Nat.add_mul:=@Nat.add_mul
theorem ek:type_of% @Bool.or_eq_true:=@Bool.or_eq_true
theorem dp:type_of% @List.map_cons:=@List.map_cons
theorem bF:type_of% @List.length_set:=@List.length_set
theorem cZ:type_of% @Nat.zero_add:=@Nat.zero_add
theorem iI:type_of% @List.take_append_drop:=@List.take_append_drop
theorem fe:type_of% @List.length_take:=@List.length_take
theorem nk:type_of% @List.eq_nil_of_length_eq_zero:=@List.eq_nil_of_length_eq_zero
theorem fO:type_of% @List.length_replicate:=@List.length_replicate
theorem eS:type_of% @List.drop_zero:=@List.drop_zero
theorem dD:type_of% @Int.natCast_nonneg:=@Int.natCast_nonneg
theorem cS:type_of% @List.length_singleton:=@List.length_singleton
theorem dJ:type_of% @Int.toNat_natCast:=@Int.toNat_natCast
theorem dE:type_of% @List.length_cons:=@List.length_cons
theorem jz:type_of% @List.drop_eq_getElem_cons:=@List.drop_eq_getElem_cons
theorem gM:type_of% @List.mem_append_left:=@List.mem_append_left
theorem oI:type_of% @List.mem_append_right:=@List.mem_append_right
theorem l9:type_of% @List.mem_singleton:=@List.mem_singleton
theorem iJ:type_of% @List.getElem_of_mem:=@List.getElem_of_mem
theorem eG:type_of% @List.append_nil:=@List.append_nil
theorem ij:type_of% @List.getElem_mem:=@List.getElem_mem
theorem jA:type_of% @List.length_nil:=@List.length_nil
theorem da:type_of% @Nat.le_trans:=@Nat.le_trans
theorem gG:type_of% @Nat.zero_le:=@Nat.zero_le
theorem cC:type_of% @decide_eq_true:=@decide_eq_true
theorem dF:type_of% @decide_eq_false:=@decide_eq_false
theorem gN:type_of% @of_decide_eq_true:=@of_decide_eq_true
theorem ik:type_of% @decide_eq_true_eq:=@decide_eq_true_eq
theorem qB:type_of% @List.length_filter_le:=@List.length_filter_le
theorem iK:type_of% @List.length_map:=@List.length_map
theorem fP:type_of% @List.mem_of_getElem?:=@List.mem_of_getElem?
theorem bK:type_of% @List.getElem?_set:=@List.getElem?_set
theorem il:type_of% @List.getElem?_eq_getElem:=@List.getElem?_eq_getElem
theorem jV:type_of% @List.append_assoc:=@List.append_assoc
theorem sR:type_of% @Nat.lt_of_lt_of_le:=@Nat.lt_of_lt_of_le
theorem nn:type_of% @List.nodup_cons:=@List.nodup_cons
theorem gO:type_of% @List.nil_append:=@List.nil_append
theorem ff:type_of% @Prod.mk.injEq:=@Prod.mk.injEq
theorem aA:type_of% @if_pos:=@if_pos
theorem aC:type_of% @if_neg:=@if_neg
theorem iL:type_of% @Option.some.inj:=@Option.some.inj
theorem jB:type_of% @List.getD_eq_getElem?_getD:=@List.getD_eq_getElem?_getD
theorem jW:type_of% @Int.le_refl:=@Int.le_refl
theorem bP:type_of% @if_false:=@if_false
theorem bC:type_of% @if_true:=@if_true
theorem cV:type_of% @congrArg:=@congrArg
theorem np:type_of% @List.map_append:=@List.map_append
theorem lE:type_of% @List.filter_cons:=@List.filter_cons
theorem qC:type_of% @Option.bind_eq_some_iff:=@Option.bind_eq_some_iff
theorem ky:type_of% @List.all_eq_true:=@List.all_eq_true
theorem qD:type_of% @Bool.false_ne_true:=@Bool.false_ne_true
theorem fw:type_of% @Array.ext':=@Array.ext'
theorem jX:type_of% @List.getElem?_replicate:=@List.getElem?_replicate
theorem iM:type_of% @Bool.not_eq_true':=@Bool.not_eq_true'
theorem oJ:type_of% @List.size_toArray:=@List.size_toArray
theorem jC:type_of% @List.map_map:=@List.map_map
theorem oK:type_of% @Function.comp_def:=@Function.comp_def
theorem jY:type_of% @List.length_drop:=@List.length_drop
theorem gP:type_of% @List.drop_drop:=@List.drop_drop
theorem oL:type_of% @List.getElem?_cons_zero:=@List.getElem?_cons_zero
theorem ma:type_of% @List.drop_of_length_le:=@List.drop_of_length_le
theorem oM:type_of% @Nat.add_sub_cancel_left:=@Nat.add_sub_cancel_left
theorem lF:type_of% @List.drop_take:=@List.drop_take
theorem kz:type_of% @List.take_take:=@List.take_take
theorem iN:type_of% @Nat.min_eq_left:=@Nat.min_eq_left
theorem uT:type_of% @List.take_append_of_le_length:=@List.take_append_of_le_length
theorem qE:type_of% @List.mem_flatMap:=@List.mem_flatMap
theorem oN:type_of% @List.getElem?_take:=@List.getElem?_take
theorem kA:type_of% @Bool.not_true:=@Bool.not_true
theorem qF:type_of% @List.getElem?_cons_succ:=@List.getElem?_cons_succ
theorem mb:type_of% @Nat.eq_zero_or_pos:=@Nat.eq_zero_or_pos
end Go.Ax
namespace Go.Ax
inductive fQ where
 |ptr|map|func|iface|sl
 deriving DecidableEq
inductive Ty where
 |int (k:IntKind)
 |bool
 |str
 |arr (n:Nat) (t:Ty)
 |slice (bs:Nat) (t:Ty)
 |pair (a b:Ty)
 |unit
 |aR (k:fQ)
 |fns (n:Nat)
 |map (k v:Ty)
 deriving DecidableEq
def IntKind.code:IntKind→Nat
 | .i8=>0| .i16=>1| .i32=>2| .i64=>3| .u8=>4| .u16=>5| .u32=>6| .u64=>7
def fQ.code:fQ→Nat
 | .ptr=>0| .map=>1| .func=>2| .iface=>3| .sl=>4
theorem IntKind.iO{a b:IntKind}(h:IntKind.code a=IntKind.code b):a=b:=by
 cases a<;>cases b<;>first|rfl|(simp[IntKind.code] at h)
theorem fQ.iO{a b:fQ}(h:fQ.code a=fQ.code b):a=b:=by
 cases a<;>cases b<;>first|rfl|(simp[fQ.code] at h)
def Ty.same:Ty→Ty→Bool
 | .int k,.int k'=>Nat.beq (IntKind.code k) (IntKind.code k')
 | .bool,.bool=>true
 | .str,.str=>true
 | .arr n t,.arr n' t'=>Nat.beq n n'&&Ty.same t t'
 | .slice n t,.slice n' t'=>Nat.beq n n'&&Ty.same t t'
 | .pair a b,.pair a' b'=>Ty.same a a'&&Ty.same b b'
 | .unit,.unit=>true
 | .aR k,.aR k'=>Nat.beq (fQ.code k) (fQ.code k')
 | .fns n,.fns n'=>Nat.beq n n'
 | .map a b,.map a' b'=>Ty.same a a'&&Ty.same b b'
 |_,_=>false
theorem Ty.aB:∀{a b:Ty},Ty.same a b=true→a=b:=by
 intro a
 induction a with
 |int k=>intro b h;cases b<;>simp[Ty.same] at h ⊢;exact IntKind.iO h
 |bool=>intro b h;cases b<;>simp[Ty.same] at h ⊢
 |str=>intro b h;cases b<;>simp[Ty.same] at h ⊢
 |arr n t ih=>intro b h;cases b<;>simp[Ty.same] at h ⊢;exact⟨h.1,ih h.2⟩
 |slice n t ih=>intro b h;cases b<;>simp[Ty.same] at h ⊢;exact⟨h.1,ih h.2⟩
 |pair x y ih1 ih2=>intro b h;cases b<;>simp[Ty.same] at h ⊢;exact⟨ih1 h.1,ih2 h.2⟩
 |unit=>intro b h;cases b<;>simp[Ty.same] at h ⊢
 |aR k=>intro b h;cases b<;>simp[Ty.same] at h ⊢;exact fQ.iO h
 |fns n=>intro b h;cases b<;>simp[Ty.same] at h ⊢;exact h
 |map x y ih1 ih2=>intro b h;cases b<;>simp[Ty.same] at h ⊢;exact⟨ih1 h.1,ih2 h.2⟩
theorem Ty.db(a:Ty):Ty.same a a=true:=by
 induction a<;>simp_all[Ty.same]
@[reducible] def Ty.den:Ty→Type
 | .int _=>Int
 | .bool=>Bool
 | .str=>List UInt8
 | .arr _ t=>List t.den
 | .slice _ t=>List t.den
 | .pair a b=>a.den×b.den
 | .unit=>Unit
 | .aR _=>Unit
 | .fns _=>List (Option Nat)
 | .map k v=>Option (List (k.den×v.den))
def Ty.size:Ty→Nat
 | .arr n t=>n*t.size
 | .pair a b=>a.size+b.size
 | .unit=>0
 | .fns n=>n
 |_=>1
def Ty.isAgg:Ty→Bool
 | .arr _ _| .pair _ _| .unit| .fns _=>true
 |_=>false
def Ty.aD:(t:Ty)→t.den
 | .int _=>(0:Int)
 | .bool=>false
 | .str=>([]:List UInt8)
 | .arr n t=>List.replicate n t.aD
 | .slice _ _=>[]
 | .pair a b=>(a.aD,b.aD)
 | .unit=>()
 | .aR _=>()
 | .fns n=>List.replicate n none
 | .map _ _=>none
def Ty.flat:Ty→Bool
 | .int _| .bool| .str| .unit=>true
 | .arr _ t=>t.flat
 | .pair a b=>a.flat&&b.flat
 |_=>false
def aE:Nat:=140737488355328
def ot(w:World)(a:Addr)(cs:List Value):Prop:=∀j v,cs[j]? =some v→w.cell? (a.add j)=some v
def aT{α:Type}(r:List Value→α→Prop):List Value→List α→Prop
 |vs,[]=>vs= []
 |vs,x::xs=>∃v1 v2,vs=v1++v2∧r v1 x∧aT r v2 xs
def jS{α β:Type}(r:Value→α→Prop)(s:Value→β→Prop):List MapEntry→List (α×β)→Prop
 |[],[]=>True
 |e::es,x::xs=>r e.key x.1∧s e.val x.2∧jS r s es xs
 |_,_=>False
theorem jS.mono{α β:Type}{r r':Value→α→Prop}{s s':Value→β→Prop}(h:∀v x,r v x→r' v x)(k:∀v x,s v x→s' v x):∀{es:List MapEntry}{xs:List (α×β)},jS r s es xs→jS r' s' es xs
 |[],[],_=>trivial
 |[],_::_,g=>g.elim
 |_::_,[],g=>g.elim
 |_::_,_::_,⟨g1,g2,g3⟩=>⟨h _ _ g1,k _ _ g2,jS.mono h k g3⟩
theorem jS.len{α β:Type}{r:Value→α→Prop}{s:Value→β→Prop}:∀{es:List MapEntry}{xs:List (α×β)},jS r s es xs→es.length=xs.length
 |[],[],_=>rfl
 |[],_::_,g=>g.elim
 |_::_,[],g=>g.elim
 |_::es,_::xs,⟨_,_,g3⟩=>by rw[dE,dE,jS.len g3]
theorem jS.all{α β:Type}{r:Value→α→Prop}{s:Value→β→Prop}{p:α→Prop}{q:β→Prop}(h:∀v x,r v x→p x)(k:∀v x,s v x→q x):∀{es:List MapEntry}{xs:List (α×β)},jS r s es xs→∀x∈xs,p x.1∧q x.2
 |[],[],_,x,hx=>by cases hx
 |[],_::_,g,_,_=>g.elim
 |_::_,[],g,_,_=>g.elim
 |
  _::_,y::ys,⟨g1,g2,g3⟩,x,hx=>by
  cases hx with
  |head=>exact⟨h _ _ g1,k _ _ g2⟩
  |tail _ hx=>exact jS.all h k g3 x hx
def bU{α:Type}:Option (List α)→List α
 |none=>[]
 |some l=>l
def gQ(agg:Bool){α:Type}(r:List Value→α→Prop)(v:Value)(x:α):Prop:=(agg=true∧∃cs,v= .agg cs∧r cs.toList x)∨(agg=false∧r [v] x)
theorem gQ.mono{agg:Bool}{α:Type}{r r':List Value→α→Prop}(h:∀vs x,r vs x→r' vs x){v:Value}{x:α}(g:gQ agg r v x):gQ agg r' v x:=by
 rcases g with⟨a,cs,e,g⟩|⟨a,g⟩
 ·exact Or.inl ⟨a,cs,e,h _ _ g⟩
 ·exact Or.inr ⟨a,h _ _ g⟩
theorem gQ.all{agg:Bool}{α:Type}{r:List Value→α→Prop}{p:α→Prop}(h:∀vs x,r vs x→p x){v:Value}{x:α}(g:gQ agg r v x):p x:=by
 rcases g with⟨a,cs,e,g⟩|⟨a,g⟩
 ·exact h _ _ g
 ·exact h _ _ g
def An:Option Nat→Value
 |none=>.nilFunc
 |some f=>.func (.func f) #[] #[]
def Rel(w:World)(S:Nat→Prop):(t:Ty)→List Value→t.den→Prop
 | .int k,vs,n=>vs= [.int k n]∧k.min≤n∧n≤k.max
 | .bool,vs,b=>vs= [.bool b]
 | .str,vs,s=>vs= [.string ⟨s.toArray⟩]∧s.length≤aE
 | .arr n t,vs,xs=>xs.length=n∧aT (Rel w S t) vs xs
 | .slice bs t,vs,xs=>∃a cap,vs= [.slice a xs.length cap]∧xs.length≤cap∧xs.length*bs≤aE∧xs.length≤aE∧
  (xs= []∨∃b o cs,a=some ⟨b,o,none⟩∧S b∧ot w ⟨b,o,none⟩ cs∧aT (Rel w S t) cs xs)
 | .pair a b,vs,x=>∃v1 v2,vs=v1++v2∧Rel w S a v1 x.1∧Rel w S b v2 x.2
 | .unit,vs,_=>vs= []
 | .aR _,_,_=>False
 | .fns n,vs,xs=>xs.length=n∧vs=xs.map An
 | .map k v,vs,x=>∃a,vs= [.map a]∧((x=none∧a=none)∨∃es g en clock,x=some es∧a=some g∧S g∧w.heap[g]? =some (.map en clock)∧
  jS (gQ k.isAgg (Rel w S k)) (gQ v.isAgg (Rel w S v)) en.toList es∧(es.map (·.1)).Nodup∧es.length≤aE∧(∀x∈en.toList,x.born<clock)∧(en.toList.map (·.born)).Nodup)
def wf:(t:Ty)→t.den→Prop
 | .int k,n=>k.min≤n∧n≤k.max
 | .bool,_=>True
 | .str,s=>List.length s≤aE
 | .arr n t,xs=>List.length xs=n∧∀x∈xs,wf t x
 | .slice bs t,xs=>List.length xs*bs≤aE∧List.length xs≤aE∧∀x∈xs,wf t x
 | .pair a b,x=>wf a x.1∧wf b x.2
 | .unit,_=>True
 | .aR _,_=>False
 | .fns n,xs=>List.length xs=n
 | .map k v,x=>∀es,x=some es→(es.map (·.1)).Nodup∧List.length es≤aE∧∀p∈es,wf k p.1∧wf v p.2
theorem aT.mono{α:Type}{r r':List Value→α→Prop}(h:∀vs x,r vs x→r' vs x):∀{xs:List α}{vs:List Value},aT r vs xs→aT r' vs xs
 |[],_,hh=>hh
 |_::_,_,⟨v1,v2,e,h1,h2⟩=>⟨v1,v2,e,h _ _ h1,aT.mono h h2⟩
theorem aT.all{α:Type}{r:List Value→α→Prop}{p:α→Prop}(h:∀vs x,r vs x→p x):∀{xs:List α}{vs:List Value},aT r vs xs→∀x∈xs,p x
 |[],_,_,x,hx=>by cases hx
 |
  y::ys,_,⟨_,_,_,h1,h2⟩,x,hx=>by
  cases hx with
  |head=>exact h _ _ h1
  |tail _ hx=>exact aT.all h h2 x hx
theorem aT.len{α:Type}{r:List Value→α→Prop}{n:Nat}(h:∀vs x,r vs x→vs.length=n):∀{xs:List α}{vs:List Value},aT r vs xs→vs.length=xs.length*n
 |[],_,hh=>by simp[aT] at hh;simp[hh]
 |
  _::xs,_,⟨v1,v2,e,h1,h2⟩=>by
  subst e
  rw[cN,h _ _ h1,aT.len h h2,dE,cM];omega
theorem aT.append{α:Type}{r:List Value→α→Prop}:∀{xs ys:List α}{vs us:List Value},aT r vs xs→aT r us ys→aT r (vs++us) (xs++ys)
 |[],_,_,_,h,k=>by simp[aT] at h;subst h;simpa using k
 |
  _::_,_,_,_,⟨v1,v2,e,h1,h2⟩,k=>by
  subst e
  exact⟨v1,v2++_,by simp,h1,aT.append h2 k⟩
theorem aT.get{α:Type}{r:List Value→α→Prop}{n:Nat}(hn:∀vs x,r vs x→vs.length=n)(d:α):∀{xs:List α}{vs:List Value}(i:Nat),aT r vs xs→i<xs.length→r ((vs.drop (i*n)).take n) (xs.getD i d)
 |[],_,i,_,hi=>by simp at hi
 |
  x::xs,_,0,⟨v1,v2,e,h1,_⟩,_=>by
  subst e
  have:=hn _ _ h1
  simp[←this];exact h1
 |
  x::xs,_,i+1,⟨v1,v2,e,h1,h2⟩,hi=>by
  subst e
  have hl:=hn _ _ h1
  have:=aT.get hn d i h2 (by simpa using hi)
  have e:(v1++v2).drop ((i+1)*n)=v2.drop (i*n):=by
   rw[List.drop_append,ma (by rw[hl,cM];omega),gO,hl,cM]
   congr 1;omega
  rw[e]
  simpa using this
theorem aT.set{α:Type}{r:List Value→α→Prop}{n:Nat}(hn:∀vs x,r vs x→vs.length=n){us:List Value}{y:α}(hu:r us y):∀{xs:List α}{vs:List Value}(i:Nat),aT r vs xs→i<xs.length→aT r (vs.take (i*n)++us++vs.drop (i*n+n)) (xs.set i y)
 |[],_,i,_,hi=>by simp at hi
 |
  x::xs,_,0,⟨v1,v2,e,h1,h2⟩,_=>by
  subst e
  have:=hn _ _ h1
  refine⟨us,v2,?_,hu,h2⟩
  simp[←this]
 |
  x::xs,_,i+1,⟨v1,v2,e,h1,h2⟩,hi=>by
  subst e
  have hl:=hn _ _ h1
  have:=aT.set hn hu i h2 (by simpa using hi)
  refine⟨v1,v2.take (i*n)++us++v2.drop (i*n+n),?_,h1,this⟩
  have e1:(v1++v2).take ((i+1)*n)=v1++v2.take (i*n):=by
   rw[List.take_append,fb (by rw[hl,cM];omega),hl,cM]
   congr 2;omega
  have e2:(v1++v2).drop ((i+1)*n+n)=v2.drop (i*n+n):=by
   rw[List.drop_append,ma (by rw[hl,cM];omega),gO,hl,cM]
   congr 1;omega
  rw[e1,e2];simp
theorem Rel.len{w:World}{S:Nat→Prop}:∀{t:Ty}{vs:List Value}{x:t.den},Rel w S t vs x→vs.length=t.size:=by
 intro t
 induction t with
 |int k=>intro vs x h;simp[Rel] at h;simp[h.1,Ty.size]
 |bool=>intro vs x h;simp[Rel] at h;simp[h,Ty.size]
 |str=>intro vs x h;simp[Rel] at h;simp[h.1,Ty.size]
 |arr n t ih=>intro vs x h;obtain⟨h1,h2⟩:=h;rw[aT.len (fun _ _=>ih) h2,h1,Ty.size]
 |slice bs t ih=>intro vs x h;obtain⟨a,cap,e,_⟩:=h;simp[e,Ty.size]
 |pair a b ih1 ih2=>intro vs x h;obtain⟨v1,v2,e,h1,h2⟩:=h;subst e;rw[cN,ih1 h1,ih2 h2,Ty.size]
 |unit=>intro vs x h;simp[Rel] at h;simp[h,Ty.size]
 |aR k=>intro vs x h;exact h.elim
 |fns n=>intro vs x h;obtain⟨h1,h2⟩:=h;rw[h2,iK,h1,Ty.size]
 |map k v=>intro vs x h;obtain⟨a,e,_⟩:=h;simp[e,Ty.size]
theorem Rel.wf{w:World}{S:Nat→Prop}:∀{t:Ty}{vs:List Value}{x:t.den},Rel w S t vs x→wf t x:=by
 intro t
 induction t with
 |int k=>intro vs x h;exact h.2
 |bool=>intro vs x h;trivial
 |str=>intro vs x h;exact h.2
 |arr n t ih=>intro vs x h;exact⟨h.1,aT.all (p:=Ax.wf t) (fun _ _ h=>ih h) h.2⟩
 |
  slice bs t ih=>
  intro vs x h
  obtain⟨a,cap,e,h1,h2,h3,h4⟩:=h
  refine⟨h2,h3,?_⟩
  rcases h4 with h4|⟨b,o,cs,_,_,_,h5⟩
  ·subst h4;intro y hy;cases hy
  ·exact aT.all (p:=Ax.wf t) (fun _ _ h=>ih h) h5
 |pair a b ih1 ih2=>intro vs x h;obtain⟨v1,v2,e,h1,h2⟩:=h;exact⟨ih1 h1,ih2 h2⟩
 |unit=>intro vs x h;trivial
 |aR k=>intro vs x h;exact h.elim
 |fns n=>intro vs x h;exact h.1
 |
  map k v ih1 ih2=>
  intro vs x h es he
  obtain⟨a,e,h⟩:=h
  rcases h with⟨h,_⟩|⟨es',g,en,clock,h1,_,_,_,h2,h3,h4,_⟩
  ·rw[h] at he;cases he
  ·rw[h1] at he;cases he
   exact⟨h3,h4,jS.all (fun _ _ h=>gQ.all (p:=Ax.wf k) (fun _ _ h=>ih1 h) h) (fun _ _ h=>gQ.all (p:=Ax.wf v) (fun _ _ h=>ih2 h) h) h2⟩
theorem ot.mono{w w':World}{a:Addr}{cs:List Value}(h:ot w a cs)(hb:w'.heap[a.block]? =w.heap[a.block]?):ot w' a cs:=by
 intro j v hj
 rw[←h j v hj]
 exact World.cell?_of_block (by rw[show(a.add j).block=a.block by unfold Addr.add;split<;>rfl];exact hb)
theorem Rel.mono{w w':World}{S S':Nat→Prop}(hw:∀b,S b→w'.heap[b]? =w.heap[b]?)(hS:∀b,S b→S' b):∀{t:Ty}{vs:List Value}{x:t.den},Rel w S t vs x→Rel w' S' t vs x:=by
 intro t
 induction t with
 |int k=>intro vs x h;exact h
 |bool=>intro vs x h;exact h
 |str=>intro vs x h;exact h
 |arr n t ih=>intro vs x h;exact⟨h.1,aT.mono (fun _ _=>ih) h.2⟩
 |
  slice bs t ih=>
  intro vs x h
  obtain⟨a,cap,e,h1,h2,h3,h4⟩:=h
  refine⟨a,cap,e,h1,h2,h3,?_⟩
  rcases h4 with h4|⟨b,o,cs,ha,hs,hr,h5⟩
  ·exact Or.inl h4
  ·exact Or.inr ⟨b,o,cs,ha,hS b hs,hr.mono (hw b hs),aT.mono (fun _ _=>ih) h5⟩
 |pair a b ih1 ih2=>intro vs x h;obtain⟨v1,v2,e,h1,h2⟩:=h;exact⟨v1,v2,e,ih1 h1,ih2 h2⟩
 |unit=>intro vs x h;exact h
 |aR k=>intro vs x h;exact h
 |fns n=>intro vs x h;exact h
 |
  map k v ih1 ih2=>
  intro vs x h
  obtain⟨a,e,h⟩:=h
  refine⟨a,e,?_⟩
  rcases h with h|⟨es,g,en,clock,h1,h2,h3,h4,h5,h6⟩
  ·exact Or.inl h
  ·exact Or.inr ⟨es,g,en,clock,h1,h2,hS g h3,by rw[hw g h3];exact h4,jS.mono (fun _ _=>gQ.mono (fun _ _=>ih1)) (fun _ _=>gQ.mono (fun _ _=>ih2)) h5,h6⟩
theorem Rel.flat{w w':World}{S S':Nat→Prop}:∀{t:Ty}{vs:List Value}{x:t.den},t.flat=true→Rel w S t vs x→Rel w' S' t vs x:=by
 intro t
 induction t with
 |int k=>intro vs x _ h;exact h
 |bool=>intro vs x _ h;exact h
 |str=>intro vs x _ h;exact h
 |arr n t ih=>intro vs x hf h;exact⟨h.1,aT.mono (fun _ _=>ih hf) h.2⟩
 |slice bs t ih=>intro vs x hf;simp[Ty.flat] at hf
 |
  pair a b ih1 ih2=>
  intro vs x hf h
  simp[Ty.flat] at hf
  obtain⟨v1,v2,e,h1,h2⟩:=h;exact⟨v1,v2,e,ih1 hf.1 h1,ih2 hf.2 h2⟩
 |unit=>intro vs x _ h;exact h
 |aR k=>intro vs x hf;simp[Ty.flat] at hf
 |fns n=>intro vs x hf;simp[Ty.flat] at hf
 |map k v=>intro vs x hf;simp[Ty.flat] at hf
end Go.Ax
namespace Go.Ax
inductive PS where
 |cD (n:Nat)
 |idx (i:Nat)
abbrev Path:=List PS
def Ty.off:Ty→Path→Nat
 | .pair a _,.cD 0::p=>a.off p
 | .pair a b,.cD (k+1)::p=>a.size+b.off (.cD k::p)
 | .arr _ t,.idx i::p=>i*t.size+t.off p
 | .fns _,.idx i::_=>i
 |_,_=>0
def Ty.sub:Ty→Path→Option Ty
 | .pair a _,.cD 0::p=>a.sub p
 | .pair _ b,.cD (k+1)::p=>b.sub (.cD k::p)
 | .arr _ t,.idx _::p=>t.sub p
 | .fns _,[.idx _]=>some (.aR .func)
 |t,[]=>some t
 |_,_=>none
def Ty.valid:Ty→Path→Prop
 | .pair a _,.cD 0::p=>a.valid p
 | .pair _ b,.cD (k+1)::p=>b.valid (.cD k::p)
 | .arr n t,.idx i::p=>i<n∧t.valid p
 | .fns n,[.idx i]=>i<n
 |_,[]=>True
 |_,_=>False
inductive AV where
 |bot
 |val (t:Ty) (x:t.den)
 |bA
 |own (b:Nat)
 |jR (b lo len:Nat)
 |jb (b:Nat) (p:Path) (lo len:Nat)
 |ptr (b:Nat) (p:Path)
 |bN (t:Ty) (x:t.den)
 |mp (b:Nat)
 |gB
 |dT
 |fy
 |iu
 |func (fn:Fn) (fs cs:AV)
 |iface (t:TypeId) (v:AV)
 |cons (a b:AV)
 |nil
 |gC (l:AV)
 |opt (c:Bool) (v:AV)
 |fx
 |dc (f:FuncId) (t:Ty) (x:t.den)
 |eW (t:Ty)
 |nq (c:Bool)
 |eP (b:Nat)
structure YC where
 l:Nat
 gs:Nat→Nat
 rc:Nat→Loop
inductive aN where
 |var (t:Ty) (v:AV)
 |row (e:TypeId) (bs:Nat) (t:Ty) (xs:List t.den)
 |map (k v:Ty) (es:List (k.den×v.den))
 |lp (y:YC) (j:Nat)
 |sS
 |tv (g:Nat) (t:Ty) (v:AV)
 |bZ (e:TypeId) (bs:Nat) (t:Ty) (xs:List t.den) (i:Nat) (v:AV)
 |cL (e:TypeId) (bs:Nat) (t:Ty) (xs:List t.den) (e2:TypeId) (f:Option (Nat×AV))
 |pmap (k t:Ty) (es:List (k.den×t.den)) (e2:TypeId) (f:Option (k.den×AV×Bool))
 |lP (k v:Ty) (rest:List (k.den×v.den)) (cur:Option (k.den×v.den))
 |fY (k t:Ty) (es:List (k.den×t.den)) (e2:TypeId) (kx:k.den) (v:AV) (pr:Bool)
 |ig (k:Ty) (l:List (k.den×AV))
structure Env where
 g:Nat→Option Nat
 sv:Nat→Value
 bt:Nat→Ty
 S:Nat→Prop
 P:Nat→Nat→Prop
def Env.has(E:Env)(b g:Nat):Prop:=E.g b=some g∨E.P b g
def AV.isAgg:AV→Bool
 | .val t _=>t.isAgg
 | .eW t=>t.isAgg
 | .cons _ _| .nil=>true
 |_=>false
def AV.size:AV→Nat
 | .val t _=>t.size
 | .eW t=>t.size
 | .cons a b=>a.size+b.size
 | .nil=>0
 |_=>1
def AV.atom:AV→Bool
 | .val t _=> !t.isAgg
 | .bot| .cons _ _| .nil| .gC _| .opt _ _| .eW _=>false
 |_=>true
def AV.atoms:AV→Bool
 | .cons a b=>a.atom&&b.atoms
 | .nil=>true
 |_=>false
def AV.bW:AV→Ty→Bool
 | .val t _,u=>Ty.same t u
 | .eW t,u=>Ty.same t u
 | .bA,.slice _ _=>true
 | .bA,.aR .sl=>true
 | .own _,.slice _ _=>true
 | .jR _ _ _,.slice _ _=>true
 | .jb _ _ _ _,.slice _ _=>true
 | .ptr _ _,.aR .ptr=>true
 | .bN _ _,.aR .ptr=>true
 | .gB,.aR .ptr=>true
 | .mp _,.aR .map=>true
 | .mp _,.map _ _=>true
 | .dT,.aR .map=>true
 | .dT,.map _ _=>true
 | .func _ _ _,.aR .func=>true
 | .fy,.aR .func=>true
 | .fx,.aR .func=>true
 | .dc _ _ _,.aR .func=>true
 | .iface _ _,.aR .iface=>true
 | .iu,.aR .iface=>true
 | .cons a b,.pair t u=>a.bW t&&b.bW u
 | .nil,.unit=>true
 |_,_=>false
def AV.ids:AV→List Nat
 | .own b| .jR b _ _| .jb b _ _ _| .ptr b _| .mp b| .eP b=>[b]
 | .func _ fs cs=>fs.ids++cs.ids
 | .iface _ v=>v.ids
 | .cons a b=>a.ids++b.ids
 | .gC l=>l.ids
 | .opt _ v=>v.ids
 |_=>[]
def RC(E:Env)(w:World):AV→List Value→Prop
 | .val t x,vs=>Rel w E.S t vs x
 | .bA,vs=>vs= [.slice none 0 0]
 | .own b,vs=>vs= [E.sv b]∧∃a n c,E.sv b= .slice a n c
 | .jR b lo len,vs=>∃a c n t,E.bt b= .arr n t∧E.sv b= .slice a n c∧lo+len≤n∧n≤c∧∃a',vs= [.slice a' len (c -lo)]∧((len=0∧lo≠0)∨a'=a.map (·.add (lo*t.size)))
 | .jb b p lo len,vs=>∃n t,(E.bt b).sub p=some (.arr n t)∧(E.bt b).valid p∧lo+len≤n∧∃a cap,vs= [.slice a len cap]∧len≤cap∧
  (len=0∨∃g,E.g b=some g∧a=some ⟨g,(E.bt b).off p+lo*t.size,none⟩)
 | .ptr b p,vs=>∃g,E.g b=some g∧vs= [.pointer (some ⟨g,(E.bt b).off p,none⟩)]∧(E.bt b).valid p
 | .bN t x,vs=>∃b o cs,vs= [.pointer (some ⟨b,o,none⟩)]∧E.S b∧ot w ⟨b,o,none⟩ cs∧Rel w E.S t cs x
 | .mp b,vs=>∃g,E.g b=some g∧vs= [.map (some g)]
 | .gB,vs=>vs= [.pointer none]
 | .dT,vs=>vs= [.map none]
 | .fy,vs=>vs= [.nilFunc]
 | .iu,vs=>vs= [.nilIface]
 | .func fn fs cs,vs=>∃f c,vs= [.func fn f c]∧RC E w fs f.toList∧RC E w cs c.toList∧fs.atoms=true∧cs.atoms=true
 | .iface t v,vs=>∃x,vs= [.iface t x]∧((v.isAgg=true∧∃cs,x= .agg cs∧RC E w v cs.toList)∨(v.isAgg=false∧RC E w v [x]))
 | .cons a b,vs=>∃v1 v2,vs=v1++v2∧RC E w a v1∧RC E w b v2
 | .nil,vs=>vs= []
 | .fx,vs=>∃fn f c,vs= [.func fn f c]
 | .eW t,vs=>vs.length=t.size∧∀v∈vs,v.oneCell'=true
 | .nq c,vs=>∃a:Option Nat,vs= [.map a]∧(a=none↔c=true)
 | .eP b,vs=>vs= [E.sv b]∧∃n:Int,E.sv b= .int .i64 n
 | .dc f t x,vs=>t.isAgg=true∧∃cs,vs= [.func (.func f) #[.agg cs] #[]]∧Rel w E.S t cs.toList x
 | .bot,_=>False
 | .gC _,_=>False
 | .opt _ _,_=>False
def cF(E:Env)(w:World)(a:AV)(v:Value):Prop:=
 (a.isAgg=true∧∃cs,v= .agg cs∧RC E w a cs.toList)∨(a.isAgg=false∧RC E w a [v])
def RT(E:Env)(w:World):AV→List Value→Prop
 | .cons a b,v::vs=>cF E w a v∧RT E w b vs
 | .nil,vs=>vs= []
 |_,_=>False
def RV(E:Env)(w:World):AV→Value→Prop
 | .bot,_=>True
 | .gC l,v=>∃vs,v= .tuple vs∧RT E w l vs.toList
 | .opt c a,v=>(c=true∧cF E w a v)∨(c=false∧v=undef)
 |a,v=>cF E w a v
def Env.on(E E':Env)(ids:List Nat):Prop:=∀b∈ids,E'.g b=E.g b∧E'.sv b=E.sv b∧E'.bt b=E.bt b
theorem Env.on.left{E E':Env}{a b:List Nat}(h:E.on E' (a++b)):E.on E' a:=fun x hx=>h x (by simp[hx])
theorem Env.on.right{E E':Env}{a b:List Nat}(h:E.on E' (a++b)):E.on E' b:=fun x hx=>h x (by simp[hx])
structure bM(E:Env)(w:World)(E':Env)(w':World):Prop where
 w:∀b,E.S b→w'.heap[b]? =w.heap[b]?
 S:∀b,E.S b→E'.S b
theorem RC.mono{E E':Env}{w w':World}(k:bM E w E' w'):∀{a:AV}{vs:List Value},E.on E' a.ids→RC E w a vs→RC E' w' a vs:=by
 intro a
 induction a with
 |bot=>intro vs _ h;exact h
 |fx=>intro vs _ h;exact h
 |eW t=>intro vs _ h;exact h
 |nq c=>intro vs _ h;exact h
 |eP b=>intro vs ho h;simp only[RC] at h ⊢;rw[(ho b (by simp[AV.ids])).2.1];exact h
 |dc f t x=>intro vs _ h;obtain⟨ha,cs,h1,h2⟩:=h;exact⟨ha,cs,h1,Rel.mono k.w k.S h2⟩
 |val t x=>intro vs _ h;exact Rel.mono k.w k.S h
 |bA=>intro vs _ h;exact h
 |own b=>intro vs ho h;simp only[RC] at h ⊢;rw[(ho b (by simp[AV.ids])).2.1];exact h
 |
  jR b lo len=>
  intro vs ho h
  obtain⟨_,h2,h3⟩:=ho b (by simp[AV.ids])
  obtain⟨a,c,n,t,h⟩:=h
  exact⟨a,c,n,t,by rw[h3,h2];exact h⟩
 |
  jb b p lo len=>
  intro vs ho h
  obtain⟨h1,h2,h3⟩:=ho b (by simp[AV.ids])
  obtain⟨n,t,h⟩:=h
  refine⟨n,t,?_⟩
  rw[h3,h1];exact h
 |
  ptr b p=>
  intro vs ho h
  obtain⟨h1,h2,h3⟩:=ho b (by simp[AV.ids])
  obtain⟨g,h⟩:=h
  exact⟨g,by rw[h1,h3];exact h⟩
 |
  bN t x=>
  intro vs _ h
  obtain⟨b,o,cs,h1,h2,h3,h4⟩:=h
  exact⟨b,o,cs,h1,k.S b h2,h3.mono (k.w b h2),Rel.mono k.w k.S h4⟩
 |
  mp b=>
  intro vs ho h
  obtain⟨h1,h2,h3⟩:=ho b (by simp[AV.ids])
  obtain⟨g,h⟩:=h
  exact⟨g,by rw[h1];exact h⟩
 |gB=>intro vs _ h;exact h
 |dT=>intro vs _ h;exact h
 |fy=>intro vs _ h;exact h
 |iu=>intro vs _ h;exact h
 |
  func fn fs cs ih1 ih2=>
  intro vs ho h
  obtain⟨f,c,e,h1,h2,h3,h4⟩:=h
  exact⟨f,c,e,ih1 ho.left h1,ih2 ho.right h2,h3,h4⟩
 |
  iface t v ih=>
  intro vs ho h
  obtain⟨x,e,h⟩:=h
  refine⟨x,e,?_⟩
  rcases h with⟨h1,cs,h2,h3⟩|⟨h1,h2⟩
  ·exact Or.inl ⟨h1,cs,h2,ih ho h3⟩
  ·exact Or.inr ⟨h1,ih ho h2⟩
 |
  cons a b ih1 ih2=>
  intro vs ho h
  obtain⟨v1,v2,e,h1,h2⟩:=h
  exact⟨v1,v2,e,ih1 ho.left h1,ih2 ho.right h2⟩
 |nil=>intro vs _ h;exact h
 |gC l ih=>intro vs _ h;exact h
 |opt c v ih=>intro vs _ h;exact h
theorem cF.mono{E E':Env}{w w':World}(k:bM E w E' w'){a:AV}{v:Value}(ho:E.on E' a.ids)(h:cF E w a v):cF E' w' a v:=by
 rcases h with⟨h1,cs,h2,h3⟩|⟨h1,h2⟩
 ·exact Or.inl ⟨h1,cs,h2,RC.mono k ho h3⟩
 ·exact Or.inr ⟨h1,RC.mono k ho h2⟩
theorem RT.mono{E E':Env}{w w':World}(k:bM E w E' w'):∀{a:AV}{vs:List Value},E.on E' a.ids→RT E w a vs→RT E' w' a vs:=by
 intro a
 induction a with
 |
  cons a b ih1 ih2=>
  intro vs ho h
  cases vs with
  |nil=>exact h.elim
  |cons v vs=>exact⟨cF.mono k ho.left h.1,ih2 ho.right h.2⟩
 |nil=>intro vs _ h;exact h
 |_=>intro vs _ h;exact h.elim
theorem RV.mono{E E':Env}{w w':World}(k:bM E w E' w'){a:AV}{v:Value}(ho:E.on E' a.ids)(h:RV E w a v):RV E' w' a v:=by
 cases a with
 |bot=>trivial
 |gC l=>obtain⟨vs,e,h⟩:=h;exact⟨vs,e,RT.mono k ho h⟩
 |
  opt c a=>
  rcases h with⟨h1,h2⟩|h
  ·exact Or.inl ⟨h1,cF.mono k ho h2⟩
  ·exact Or.inr h
 |_=>exact cF.mono k ho h
theorem RC.len{E:Env}{w:World}:∀{a:AV}{vs:List Value},RC E w a vs→vs.length=a.size:=by
 intro a
 induction a with
 |val t x=>intro vs h;exact Rel.len h
 |bA=>intro vs h;simp only[RC] at h;simp[h,AV.size]
 |own b=>intro vs h;simp only[RC] at h;simp[h.1,AV.size]
 |jR b lo len=>intro vs h;obtain⟨_,_,_,_,_,_,_,_,_,e,_⟩:=h;simp[e,AV.size]
 |jb b p lo len=>intro vs h;obtain⟨_,_,_,_,_,_,_,e,_⟩:=h;simp[e,AV.size]
 |ptr b p=>intro vs h;obtain⟨_,_,e,_⟩:=h;simp[e,AV.size]
 |bN t x=>intro vs h;obtain⟨_,_,_,e,_⟩:=h;simp[e,AV.size]
 |mp b=>intro vs h;obtain⟨_,_,e⟩:=h;simp[e,AV.size]
 |gB=>intro vs h;simp only[RC] at h;simp[h,AV.size]
 |dT=>intro vs h;simp only[RC] at h;simp[h,AV.size]
 |fy=>intro vs h;simp only[RC] at h;simp[h,AV.size]
 |iu=>intro vs h;simp only[RC] at h;simp[h,AV.size]
 |func fn fs cs=>intro vs h;obtain⟨_,_,e,_⟩:=h;simp[e,AV.size]
 |iface t v=>intro vs h;obtain⟨_,e,_⟩:=h;simp[e,AV.size]
 |cons a b ih1 ih2=>intro vs h;obtain⟨v1,v2,e,h1,h2⟩:=h;subst e;rw[cN,ih1 h1,ih2 h2,AV.size]
 |nil=>intro vs h;simp only[RC] at h;simp[h,AV.size]
 |bot=>intro vs h;exact h.elim
 |fx=>intro vs h;obtain⟨_,_,_,e⟩:=h;simp[e,AV.size]
 |eW t=>intro vs h;exact h.1
 |nq c=>intro vs h;obtain⟨_,e,_⟩:=h;simp[e,AV.size]
 |eP b=>intro vs h;obtain⟨e,_⟩:=h;simp[e,AV.size]
 |dc f t x=>intro vs h;obtain⟨_,_,e,_⟩:=h;simp[e,AV.size]
 |gC l=>intro vs h;exact h.elim
 |opt c v=>intro vs h;exact h.elim
theorem Rel.one{w:World}{S:Nat→Prop}:∀{t:Ty}{vs:List Value}{x:t.den},Rel w S t vs x→∀v∈vs,v.oneCell'=true:=by
 intro t
 induction t with
 |int k=>intro vs x h v hv;simp[Rel] at h;rw[h.1] at hv;simp at hv;subst hv;rfl
 |bool=>intro vs x h v hv;simp[Rel] at h;rw[h] at hv;simp at hv;subst hv;rfl
 |str=>intro vs x h v hv;simp[Rel] at h;rw[h.1] at hv;simp at hv;subst hv;rfl
 |
  arr n t ih=>
  intro vs x h
  have key:∀{xs:List t.den}{vs:List Value},aT (Rel w S t) vs xs→∀v∈vs,v.oneCell'=true:=by
   intro xs
   induction xs with
   |nil=>intro vs h v hv;simp[aT] at h;subst h;cases hv
   |
    cons y ys ih2=>
    intro vs h v hv
    obtain⟨v1,v2,e,h1,h2⟩:=h
    subst e
    rcases List.mem_append.1 hv with h|h
    ·exact ih h1 v h
    ·exact ih2 h2 v h
  exact key h.2
 |slice bs t=>intro vs x h v hv;obtain⟨a,cap,e,_⟩:=h;rw[e] at hv;simp at hv;subst hv;rfl
 |
  pair a b ih1 ih2=>
  intro vs x h v hv
  obtain⟨v1,v2,e,h1,h2⟩:=h
  subst e
  rcases List.mem_append.1 hv with h|h
  ·exact ih1 h1 v h
  ·exact ih2 h2 v h
 |unit=>intro vs x h v hv;simp[Rel] at h;subst h;cases hv
 |aR k=>intro vs x h;exact h.elim
 |
  fns n=>
  intro vs x h v hv
  obtain⟨_,h2⟩:=h
  rw[h2] at hv
  obtain⟨o,_,e⟩:=List.mem_map.1 hv
  subst e
  cases o<;>rfl
 |map k v=>intro vs x h v hv;obtain⟨a,e,_⟩:=h;rw[e] at hv;simp at hv;subst hv;rfl
theorem RC.one{E:Env}{w:World}:∀{a:AV}{vs:List Value},RC E w a vs→∀v∈vs,v.oneCell'=true:=by
 intro a
 induction a with
 |val t x=>intro vs h;exact Rel.one h
 |bA=>intro vs h v hv;simp only[RC] at h;rw[h] at hv;simp at hv;subst hv;rfl
 |own b=>intro vs h v hv;obtain⟨e,a,n,c,e2⟩:=h;rw[e,e2] at hv;simp at hv;subst hv;rfl
 |jR b lo len=>intro vs h v hv;obtain⟨_,_,_,_,_,_,_,_,_,e,_⟩:=h;rw[e] at hv;simp at hv;subst hv;rfl
 |jb b p lo len=>intro vs h v hv;obtain⟨_,_,_,_,_,_,_,e,_⟩:=h;rw[e] at hv;simp at hv;subst hv;rfl
 |ptr b p=>intro vs h v hv;obtain⟨_,_,e,_⟩:=h;rw[e] at hv;simp at hv;subst hv;rfl
 |bN t x=>intro vs h v hv;obtain⟨_,_,_,e,_⟩:=h;rw[e] at hv;simp at hv;subst hv;rfl
 |mp b=>intro vs h v hv;obtain⟨_,_,e⟩:=h;rw[e] at hv;simp at hv;subst hv;rfl
 |gB=>intro vs h v hv;simp only[RC] at h;rw[h] at hv;simp at hv;subst hv;rfl
 |dT=>intro vs h v hv;simp only[RC] at h;rw[h] at hv;simp at hv;subst hv;rfl
 |fy=>intro vs h v hv;simp only[RC] at h;rw[h] at hv;simp at hv;subst hv;rfl
 |fx=>intro vs h v hv;obtain⟨_,_,_,e⟩:=h;rw[e] at hv;simp at hv;subst hv;rfl
 |eW t=>intro vs h v hv;exact h.2 v hv
 |nq c=>intro vs h v hv;obtain⟨_,e,_⟩:=h;rw[e] at hv;simp at hv;subst hv;rfl
 |eP b=>intro vs h v hv;obtain⟨e,n,e2⟩:=h;rw[e,e2] at hv;simp at hv;subst hv;rfl
 |dc f t x=>intro vs h v hv;obtain⟨_,_,e,_⟩:=h;rw[e] at hv;simp at hv;subst hv;rfl
 |iu=>intro vs h v hv;simp only[RC] at h;rw[h] at hv;simp at hv;subst hv;rfl
 |func fn fs cs=>intro vs h v hv;obtain⟨_,_,e,_⟩:=h;rw[e] at hv;simp at hv;subst hv;rfl
 |iface t x=>intro vs h v hv;obtain⟨_,e,_⟩:=h;rw[e] at hv;simp at hv;subst hv;rfl
 |
  cons a b ih1 ih2=>
  intro vs h v hv
  obtain⟨v1,v2,e,h1,h2⟩:=h
  subst e
  rcases List.mem_append.1 hv with h|h
  ·exact ih1 h1 v h
  ·exact ih2 h2 v h
 |nil=>intro vs h v hv;simp only[RC] at h;subst h;cases hv
 |bot=>intro vs h;exact h.elim
 |gC l=>intro vs h;exact h.elim
 |opt c v=>intro vs h;exact h.elim
theorem cF.cells{E:Env}{w:World}{a:AV}{v:Value}(h:cF E w a v):RC E w a v.cells.toList:=by
 rcases h with⟨_,cs,e,h⟩|⟨_,h⟩
 ·subst e;exact h
 ·have h1:=RC.one h v (by simp)
  have:v.cells= #[v]:=by cases v<;>first|rfl|(simp[Value.oneCell'] at h1)
  rw[this];exact h
theorem AV.dR:∀{a:AV}{t:Ty},a.bW t=true→a.size=t.size:=by
 intro a
 induction a with
 |val u x=>intro t h;have:=Ty.aB (by simpa[AV.bW] using h);subst this;rfl
 |eW u=>intro t h;have:=Ty.aB (by simpa[AV.bW] using h);subst this;rfl
 |
  cons a b ih1 ih2=>
  intro t h
  cases t<;>simp[AV.bW] at h
  rw[AV.size,Ty.size,ih1 h.1,ih2 h.2]
 |nil=>intro t h;cases t<;>simp[AV.bW] at h;rfl
 |bA=>intro t h;cases t with|slice _ _=>rfl|aR k=>cases k<;>simp[AV.bW] at h<;>rfl|_=>simp[AV.bW] at h
 |_=>intro t h;first|(cases t<;>simp[AV.bW] at h<;>rfl)|(cases t with|aR k=>cases k<;>simp[AV.bW] at h<;>rfl|map _ _=>(first|rfl|simp[AV.bW] at h)|_=>simp[AV.bW] at h)
theorem AV.iv:∀{a:AV}{t:Ty},a.bW t=true→a.isAgg=t.isAgg:=by
 intro a t h
 cases a with
 |val u x=>have:=Ty.aB (by simpa[AV.bW] using h);subst this;rfl
 |eW u=>have:=Ty.aB (by simpa[AV.bW] using h);subst this;rfl
 |cons a b=>cases t<;>simp[AV.bW] at h;rfl
 |nil=>cases t<;>simp[AV.bW] at h;rfl
 |bA=>cases t with|slice _ _=>rfl|aR k=>cases k<;>simp[AV.bW] at h<;>rfl|_=>simp[AV.bW] at h
 |_=>first|(cases t<;>simp[AV.bW] at h<;>rfl)|(cases t with|aR k=>cases k<;>simp[AV.bW] at h<;>rfl|map _ _=>(first|rfl|simp[AV.bW] at h)|_=>simp[AV.bW] at h)
def Ds:Option Nat→AV
 |none=>.fy
 |some f=>.func (.func f) .nil .nil
def dZ:(t:Ty)→t.den→Path→Option AV
 | .pair a _,x,.cD 0::p=>dZ a x.1 p
 | .pair _ b,x,.cD (k+1)::p=>dZ b x.2 (.cD k::p)
 | .arr _ t,x,.idx i::p=>dZ t (List.getD x i t.aD) p
 | .fns _,x,[.idx i]=>some (Ds (List.getD x i none))
 |t,x,[]=>some (.val t x)
 |_,_,_=>none
def AV.get:AV→Path→Option AV
 | .val t x,p=>dZ t x p
 | .cons a _,.cD 0::p=>a.get p
 | .cons _ b,.cD (k+1)::p=>b.get (.cD k::p)
 |a,[]=>some a
 |_,_=>none
def AV.bL:AV→(t:Ty)→Option t.den
 | .val u x,t=>if h:Ty.same u t=true then some (Ty.aB h▸x) else none
 | .bA,.slice _ _=>some []
 | .dT,.map _ _=>some none
 |
  .cons a b,.pair t u=>match a.bL t,b.bL u with
  |some x,some y=>some (x,y)
  |_,_=>none
 | .nil,.unit=>some ()
 |_,_=>none
def AV.Lb:AV→Bool
 | .bA=>true
 |_=>false
def AV.EB(v:AV)(t:Ty):Option AV:=
 match v.Lb&&v.bW t with
 |true=>some v
 |
  false=>match v.bL t with
  |some y=>some (.val t y)
  |none=>if v.bW t then some v else none
def fS:(t:Ty)→t.den→Path→AV→Option AV
 |
  .pair a b,x,.cD 0::p,v=>match fS a x.1 p v with
  |some (.val u y)=>if h:Ty.same u a=true then some (.val (.pair a b) (Ty.aB h▸y,x.2)) else none
  |some y=>some (.cons y (.val b x.2))
  |none=>none
 |
  .pair a b,x,.cD (k+1)::p,v=>match fS b x.2 (.cD k::p) v with
  |some (.val u y)=>if h:Ty.same u b=true then some (.val (.pair a b) (x.1,Ty.aB h▸y)) else none
  |some y=>some (.cons (.val a x.1) y)
  |none=>none
 |
  .arr n t,x,.idx i::p,v=>match fS t (List.getD x i t.aD) p v with
  |
   some y=>match y.bL t with
   |some z=>some (.val (.arr n t) (List.set x i z))
   |none=>none
  |none=>none
 |t,_,[],v=>v.EB t
 |_,_,_,_=>none
def AV.set:AV→Path→AV→Option AV
 | .val t x,p,v=>fS t x p v
 | .cons a b,.cD 0::p,v=>(a.set p v).map fun y=>.cons y b
 | .cons a b,.cD (k+1)::p,v=>(b.set (.cD k::p) v).map fun y=>.cons a y
 |_,[],v=>some v
 |_,_,_=>none
theorem RC.bL{E:Env}{w:World}:∀{a:AV}{t:Ty}{x:t.den}{vs:List Value},a.bL t=some x→RC E w a vs→Rel w E.S t vs x:=by
 intro a
 induction a with
 |
  val u y=>
  intro t x vs h hr
  simp only[AV.bL] at h
  split at h
  ·rename_i hs
   have e:=Ty.aB hs
   subst e
   simp at h;subst h;exact hr
  ·cases h
 |
  bA=>
  intro t x vs h hr
  cases t<;>simp[AV.bL] at h
  subst h
  exact⟨none,0,by simpa[RC] using hr,cq _,by simp,by simp,Or.inl rfl⟩
 |
  dT=>
  intro t x vs h hr
  cases t<;>simp[AV.bL] at h
  subst h
  exact⟨none,by simpa[RC] using hr,Or.inl ⟨rfl,rfl⟩⟩
 |
  cons a b ih1 ih2=>
  intro t x vs h hr
  cases t with
  |
   pair t u=>
   obtain⟨v1,v2,e,h1,h2⟩:=hr
   simp only[AV.bL] at h
   split at h
   ·rename_i y z hy hz
    cases h
    exact⟨v1,v2,e,ih1 hy h1,ih2 hz h2⟩
   ·cases h
  |_=>simp[AV.bL] at h
 |
  nil=>
  intro t x vs h hr
  cases t<;>simp[AV.bL] at h
  exact hr
 |_=>intro t x vs h;cases t<;>simp[AV.bL] at h
theorem cF.bL{E:Env}{w:World}{a:AV}{t:Ty}{x:t.den}{v:Value}(h:a.bL t=some x)(hr:cF E w a v):cF E w (.val t x) v:=by
 rcases hr with⟨h1,cs,h2,h3⟩|⟨h1,h2⟩
 ·refine Or.inl ⟨?_,cs,h2,RC.bL h h3⟩
  cases a with
  |
   val u y=>
   simp only[AV.bL] at h
   split at h
   ·rename_i hs;have e:=Ty.aB hs;subst e;exact h1
   ·cases h
  |cons a b=>cases t<;>simp[AV.bL] at h;rfl
  |nil=>cases t<;>simp[AV.bL] at h;rfl
  |eW u=>cases t<;>simp[AV.bL] at h
  |_=>simp[AV.isAgg] at h1
 ·refine Or.inr ⟨?_,RC.bL h h2⟩
  cases a with
  |
   val u y=>
   simp only[AV.bL] at h
   split at h
   ·rename_i hs;have e:=Ty.aB hs;subst e;exact h1
   ·cases h
  |bA=>cases t<;>simp[AV.bL] at h;rfl
  |dT=>cases t<;>simp[AV.bL] at h;rfl
  |cons a b=>simp[AV.isAgg] at h1
  |nil=>simp[AV.isAgg] at h1
  |_=>cases t<;>simp[AV.bL] at h
end Go.Ax
namespace Go.Ax
theorem nr{α:Type}(v1 v2:List α)(k n:Nat)(hk:v1.length≤k):((v1++v2).drop k).take n=(v2.drop (k -v1.length)).take n:=by
 rw[List.drop_append,ma hk,gO]
theorem nu{α:Type}(v1 v2:List α)(k n:Nat)(hk:k+n≤v1.length):((v1++v2).drop k).take n=(v1.drop k).take n:=by
 rw[List.drop_append,List.take_append]
 simp;omega
theorem pT{E:Env}{w:World}:∀{t:Ty}{x:t.den}{cs:List Value}{p:Path}{u:AV},Rel w E.S t cs x→t.valid p→dZ t x p=some u→
 ∃s,t.sub p=some s∧u.bW s=true∧t.off p+s.size≤cs.length∧RC E w u ((cs.drop (t.off p)).take s.size):=by
 intro t
 induction t with
 |
  pair a b ih1 ih2=>
  intro x cs p u hr hv hg
  cases p with
  |
   nil=>
   simp only[dZ,cE] at hg;subst hg
   have hl:=Rel.len hr
   exact⟨_,rfl,Ty.db _,by simp[Ty.off,hl],by simp only[Ty.off,eS];rw[fb (by omega)];exact hr⟩
  |
   cons s p=>
   obtain⟨v1,v2,e,h1,h2⟩:=hr
   subst e
   cases s with
   |
    cD k=>
    cases k with
    |
     zero=>
     obtain⟨s,e1,e2,e3,e4⟩:=ih1 h1 hv hg
     refine⟨s,e1,e2,by simp only[Ty.off,cN];omega,?_⟩
     simp only[Ty.off]
     rw[nu _ _ _ _ e3];exact e4
    |
     succ k=>
     obtain⟨s,e1,e2,e3,e4⟩:=ih2 h2 hv hg
     have hl:=Rel.len h1
     refine⟨s,e1,e2,by simp only[Ty.off,cN];omega,?_⟩
     simp only[Ty.off]
     rw[nr _ _ _ _ (by omega),hl,oM];exact e4
   |idx i=>simp[dZ] at hg
 |
  arr n t ih=>
  intro x cs p u hr hv hg
  cases p with
  |
   nil=>
   simp only[dZ,cE] at hg;subst hg
   have hl:=Rel.len hr
   exact⟨_,rfl,Ty.db _,by simp[Ty.off,hl],by simp only[Ty.off,eS];rw[fb (by omega)];exact hr⟩
  |
   cons s p=>
   cases s with
   |cD k=>simp[dZ] at hg
   |
    idx i=>
    have hl:=Rel.len hr
    obtain⟨hn,hr⟩:=hr
    obtain⟨hi,hv⟩:=hv
    have hx:i<List.length x:=by rw[hn];exact hi
    have:=aT.get (fun _ _=>Rel.len) t.aD i hr hx
    obtain⟨s,e1,e2,e3,e4⟩:=ih this hv hg
    have hb:(i+1)*t.size≤n*t.size:=fv _ hi
    rw[cM,Nat.one_mul] at hb
    have hle:t.off p+s.size≤t.size:=by
     have:=e3
     simp only[fe,jY] at this
     omega
    refine⟨s,e1,e2,?_,?_⟩
    ·simp only[Ty.off];rw[hl,Ty.size];omega
    ·simp only[Ty.off]
     rw[lF,kz,gP,iN (by omega)] at e4
     exact e4
 |
  int k=>intro x cs p u hr hv hg;cases p with
  |nil=>simp only[dZ,cE] at hg;subst hg;have hl:=Rel.len hr;exact⟨_,rfl,Ty.db _,by simp[Ty.off,hl],by simp only[Ty.off,eS];rw[fb (by omega)];exact hr⟩
  |cons s p=>simp[Ty.valid] at hv
 |
  bool=>intro x cs p u hr hv hg;cases p with
  |nil=>simp only[dZ,cE] at hg;subst hg;have hl:=Rel.len hr;exact⟨_,rfl,Ty.db _,by simp[Ty.off,hl],by simp only[Ty.off,eS];rw[fb (by omega)];exact hr⟩
  |cons s p=>simp[Ty.valid] at hv
 |
  str=>intro x cs p u hr hv hg;cases p with
  |nil=>simp only[dZ,cE] at hg;subst hg;have hl:=Rel.len hr;exact⟨_,rfl,Ty.db _,by simp[Ty.off,hl],by simp only[Ty.off,eS];rw[fb (by omega)];exact hr⟩
  |cons s p=>simp[Ty.valid] at hv
 |
  slice bs t=>intro x cs p u hr hv hg;cases p with
  |nil=>simp only[dZ,cE] at hg;subst hg;have hl:=Rel.len hr;exact⟨_,rfl,Ty.db _,by simp[Ty.off,hl],by simp only[Ty.off,eS];rw[fb (by omega)];exact hr⟩
  |cons s p=>simp[Ty.valid] at hv
 |
  unit=>intro x cs p u hr hv hg;cases p with
  |nil=>simp only[dZ,cE] at hg;subst hg;have hl:=Rel.len hr;exact⟨_,rfl,Ty.db _,by simp[Ty.off,hl],by simp only[Ty.off,eS];rw[fb (by omega)];exact hr⟩
  |cons s p=>simp[Ty.valid] at hv
 |
  fns n=>intro x cs p u hr hv hg;cases p with
  |nil=>simp only[dZ,cE] at hg;subst hg;have hl:=Rel.len hr;exact⟨_,rfl,Ty.db _,by simp[Ty.off,hl],by simp only[Ty.off,eS];rw[fb (by omega)];exact hr⟩
  |
   cons s p=>
   cases s with
   |cD k=>simp[dZ] at hg
   |
    idx i=>
    cases p with
    |cons _ _=>simp[dZ] at hg
    |
     nil=>
     simp only[dZ,cE] at hg
     subst hg
     obtain⟨h1,rfl⟩:=hr
     have hi:i<List.length x:=by rw[h1];exact hv
     refine⟨.aR .func,rfl,?_,by simp[Ty.off,Ty.size];omega,?_⟩
     ·cases(List.getD x i none)<;>rfl
     ·have e:((x.map An).drop i).take 1= [An (List.getD x i none)]:=by
       rw[jz (by simpa using hi)]
       simp[hi]
      simp only[Ty.off,Ty.size]
      rw[e]
      cases(List.getD x i none) with
      |none=>rfl
      |some f=>exact⟨#[], #[],rfl,rfl,rfl,rfl,rfl⟩
 |
  map k v=>intro x cs p u hr hv hg;cases p with
  |nil=>simp only[dZ,cE] at hg;subst hg;have hl:=Rel.len hr;exact⟨_,rfl,Ty.db _,by simp[Ty.off,hl],by simp only[Ty.off,eS];rw[fb (by omega)];exact hr⟩
  |cons s p=>simp[Ty.valid] at hv
 |aR k=>intro x cs p u hr hv hg;exact hr.elim
theorem AV.eV{E:Env}{w:World}:∀{a:AV}{t:Ty}{cs:List Value}{p:Path}{u:AV},RC E w a cs→a.bW t=true→t.valid p→a.get p=some u→
 ∃s,t.sub p=some s∧u.bW s=true∧t.off p+s.size≤cs.length∧RC E w u ((cs.drop (t.off p)).take s.size):=by
 intro a
 have base:∀{a:AV}{t:Ty}{cs:List Value}{u:AV},RC E w a cs→a.bW t=true→some a=some u→
  ∃s,t.sub []=some s∧u.bW s=true∧t.off []+s.size≤cs.length∧RC E w u ((cs.drop (t.off [])).take s.size):=by
  intro a t cs u hr hc e
  cases e
  have hl:=RC.len hr
  have hs:=AV.dR hc
  have abU:t.sub []=some t:=by cases t<;>rfl
  have hoff:t.off []=0:=by cases t<;>rfl
  exact⟨t,abU,hc,by omega,by rw[hoff,eS,fb (by omega)];exact hr⟩
 induction a with
 |
  val u x=>
  intro t cs p v hr hc hv hg
  have:=Ty.aB (by simpa[AV.bW] using hc);subst this
  exact pT hr hv hg
 |
  cons a b ih1 ih2=>
  intro t cs p u hr hc hv hg
  cases p with
  |nil=>exact base hr hc hg
  |
   cons s p=>
   cases t with
   |
    pair t1 t2=>
    simp only[AV.bW,aV] at hc
    obtain⟨v1,v2,e,h1,h2⟩:=hr
    subst e
    cases s with
    |
     cD k=>
     cases k with
     |
      zero=>
      obtain⟨s,e1,e2,e3,e4⟩:=ih1 h1 hc.1 hv hg
      refine⟨s,e1,e2,by simp only[Ty.off,cN];omega,?_⟩
      simp only[Ty.off]
      rw[nu _ _ _ _ e3];exact e4
     |
      succ k=>
      obtain⟨s,e1,e2,e3,e4⟩:=ih2 h2 hc.2 hv hg
      have hl:=RC.len h1
      have hs:=AV.dR hc.1
      refine⟨s,e1,e2,by simp only[Ty.off,cN];omega,?_⟩
      simp only[Ty.off]
      rw[nr _ _ _ _ (by omega),hl,hs,oM];exact e4
    |idx i=>simp[AV.get] at hg
   |_=>simp[AV.bW] at hc
 |
  _=>
  intro t cs p u hr hc hv hg
  cases p with
  |nil=>exact base hr hc hg
  |cons s p=>simp[AV.get] at hg
theorem jD{α:Type}(v1 v2 us:List α)(k n:Nat)(hk:k+n≤v1.length):(v1++v2).take k++us++(v1++v2).drop (k+n)=(v1.take k++us++v1.drop (k+n))++v2:=by
 rw[uT (by omega),List.drop_append_of_le_length (by omega)];simp
theorem jE{α:Type}(v1 v2 us:List α)(k n:Nat)(hk:v1.length≤k):(v1++v2).take k++us++(v1++v2).drop (k+n)=v1++(v2.take (k -v1.length)++us++v2.drop (k -v1.length+n)):=by
 rw[List.take_append,fb hk,List.drop_append,ma (by omega)]
 simp only[gO,jV]
 congr 4;omega
theorem Rel.cast{w:World}{S:Nat→Prop}{u t:Ty}{x:u.den}{cs:List Value}(h:Ty.same u t=true)(hr:Rel w S u cs x):Rel w S t cs (Ty.aB h▸x):=by
 have e:=Ty.aB h
 subst e
 exact hr
theorem uU{E:Env}{w:World}{v:AV}{us:List Value}(hv:RC E w v us):∀{t:Ty}{x:t.den}{cs:List Value}{p:Path}{u:AV},Rel w E.S t cs x→t.valid p→fS t x p v=some u→
 ∃s,t.sub p=some s∧us.length=s.size∧t.off p+s.size≤cs.length∧RC E w u (cs.take (t.off p)++us++cs.drop (t.off p+s.size)):=by
 intro t
 have base:∀{t:Ty}{x:t.den}{cs:List Value}{u:AV},Rel w E.S t cs x→fS t x [] v=some u→
  ∃s,t.sub []=some s∧us.length=s.size∧t.off []+s.size≤cs.length∧RC E w u (cs.take (t.off [])++us++cs.drop (t.off []+s.size)):=by
  intro t x cs u hr hs
  have hl:=Rel.len hr
  have abU:t.sub []=some t:=by cases t<;>rfl
  have hoff:t.off []=0:=by cases t<;>rfl
  have key:v.EB t=some u:=by
   cases t<;>simpa only[fS] using hs
  unfold AV.EB at key
  split at key
  ·rename_i hc
   simp only[aV] at hc
   cases key
   have hlu:=RC.len hv
   have:=AV.dR hc.2
   exact⟨t,abU,by omega,by omega,by rw[hoff,cZ,List.take_zero,gO,ma (by omega),eG];exact hv⟩
  split at key
  ·rename_i y hy
   cases key
   have:=RC.bL hy hv
   have hlu:=Rel.len this
   exact⟨t,abU,hlu,by omega,by rw[hoff,cZ,List.take_zero,gO,ma (by omega),eG];exact this⟩
  ·split at key
   ·rename_i hc
    cases key
    have hlu:=RC.len hv
    have:=AV.dR hc
    exact⟨t,abU,by omega,by omega,by rw[hoff,cZ,List.take_zero,gO,ma (by omega),eG];exact hv⟩
   ·cases key
 induction t with
 |
  pair a b ih1 ih2=>
  intro x cs p u hr hva hs
  cases p with
  |nil=>exact base hr hs
  |
   cons s p=>
   obtain⟨v1,v2,e,h1,h2⟩:=hr
   subst e
   have hl:=Rel.len h1
   cases s with
   |
    cD k=>
    cases k with
    |
     zero=>
     simp only[fS] at hs
     split at hs
     ·rename_i ty y hy
      split at hs
      ·rename_i hsame
       cases hs
       obtain⟨s,e1,e2,e3,e4⟩:=ih1 h1 hva hy
       refine⟨s,e1,e2,by simp only[Ty.off,cN];omega,?_⟩
       simp only[Ty.off]
       rw[jD _ _ _ _ _ e3]
       exact⟨_,v2,rfl,Rel.cast hsame e4,h2⟩
      ·cases hs
     ·rename_i y _ hy
      cases hs
      obtain⟨s,e1,e2,e3,e4⟩:=ih1 h1 hva hy
      refine⟨s,e1,e2,by simp only[Ty.off,cN];omega,?_⟩
      simp only[Ty.off]
      rw[jD _ _ _ _ _ e3]
      exact⟨_,v2,rfl,e4,h2⟩
     ·cases hs
    |
     succ k=>
     simp only[fS] at hs
     split at hs
     ·rename_i ty y hy
      split at hs
      ·rename_i hsame
       cases hs
       obtain⟨s,e1,e2,e3,e4⟩:=ih2 h2 hva hy
       refine⟨s,e1,e2,by simp only[Ty.off,cN];omega,?_⟩
       simp only[Ty.off]
       rw[jE _ _ _ _ _ (by omega),hl,oM]
       exact⟨v1,_,rfl,h1,Rel.cast hsame e4⟩
      ·cases hs
     ·rename_i y _ hy
      cases hs
      obtain⟨s,e1,e2,e3,e4⟩:=ih2 h2 hva hy
      refine⟨s,e1,e2,by simp only[Ty.off,cN];omega,?_⟩
      simp only[Ty.off]
      rw[jE _ _ _ _ _ (by omega),hl,oM]
      exact⟨v1,_,rfl,h1,e4⟩
     ·cases hs
   |idx i=>simp[fS] at hs
 |
  arr n t ih=>
  intro x cs p u hr hva hs
  cases p with
  |nil=>exact base hr hs
  |
   cons s p=>
   cases s with
   |cD k=>simp[fS] at hs
   |
    idx i=>
    have hl:=Rel.len hr
    obtain⟨hn,hr⟩:=hr
    obtain⟨hi,hva⟩:=hva
    have hx:i<List.length x:=by rw[hn];exact hi
    have hg:=aT.get (fun _ _=>Rel.len) t.aD i hr hx
    simp only[fS] at hs
    split at hs
    ·rename_i y hy
     split at hs
     ·rename_i z hz
      cases hs
      obtain⟨s,e1,e2,e3,e4⟩:=ih hg hva hy
      have hb:(i+1)*t.size≤n*t.size:=fv _ hi
      rw[cM,Nat.one_mul] at hb
      have hle:t.off p+s.size≤t.size:=by
       have:=e3
       simp only[fe,jY] at this
       omega
      have aO:=aT.set (r:=Rel w E.S t) (n:=t.size) (fun _ _ h=>Rel.len h) (us:=_) (y:=z) (RC.bL hz e4) i hr hx
      refine⟨s,e1,e2,?_,?_⟩
      ·simp only[Ty.off];rw[hl,Ty.size];omega
      ·simp only[Ty.off]
       refine⟨by simp[hn],?_⟩
       have key:cs.take (i*t.size)++(((cs.drop (i*t.size)).take t.size).take (t.off p)++us++((cs.drop (i*t.size)).take t.size).drop (t.off p+s.size))++cs.drop (i*t.size+t.size)
        =cs.take (i*t.size+t.off p)++us++cs.drop (i*t.size+t.off p+s.size):=by
        rw[kz,iN (by omega),lF,gP]
        have a1:cs.take (i*t.size+t.off p)=cs.take (i*t.size)++(cs.drop (i*t.size)).take (t.off p):=by
         rw[List.take_add]
        have a2:cs.drop (i*t.size+t.off p+s.size)=(cs.drop (i*t.size+(t.off p+s.size))).take (t.size -(t.off p+s.size))++cs.drop (i*t.size+t.size):=by
         have:=iI (t.size -(t.off p+s.size)) (cs.drop (i*t.size+(t.off p+s.size)))
         rw[gP] at this
         rw[show i*t.size+(t.off p+s.size)+(t.size -(t.off p+s.size))=i*t.size+t.size from by omega] at this
         rw[this];congr 1;omega
        rw[a1,a2];simp only[jV]
       rw[←key];exact aO
     ·cases hs
    ·cases hs
 |
  int k=>intro x cs p u hr hva hs;cases p with
  |nil=>exact base hr hs
  |cons s p=>simp[Ty.valid] at hva
 |
  bool=>intro x cs p u hr hva hs;cases p with
  |nil=>exact base hr hs
  |cons s p=>simp[Ty.valid] at hva
 |
  str=>intro x cs p u hr hva hs;cases p with
  |nil=>exact base hr hs
  |cons s p=>simp[Ty.valid] at hva
 |
  slice bs t=>intro x cs p u hr hva hs;cases p with
  |nil=>exact base hr hs
  |cons s p=>simp[Ty.valid] at hva
 |
  unit=>intro x cs p u hr hva hs;cases p with
  |nil=>exact base hr hs
  |cons s p=>simp[Ty.valid] at hva
 |
  fns n=>intro x cs p u hr hva hs;cases p with
  |nil=>exact base hr hs
  |cons s p=>cases s<;>simp[fS] at hs
 |
  map k v=>intro x cs p u hr hva hs;cases p with
  |nil=>exact base hr hs
  |cons s p=>simp[Ty.valid] at hva
 |aR k=>intro x cs p u hr;exact hr.elim
theorem AV.kX{E:Env}{w:World}{v:AV}{us:List Value}(hv:RC E w v us):∀{a:AV}{t:Ty}{cs:List Value}{p:Path}{u:AV},RC E w a cs→a.bW t=true→t.valid p→(∀s,t.sub p=some s→us.length=s.size)→a.set p v=some u→
 ∃s,t.sub p=some s∧us.length=s.size∧t.off p+s.size≤cs.length∧RC E w u (cs.take (t.off p)++us++cs.drop (t.off p+s.size)):=by
 intro a
 have base:∀{a:AV}{t:Ty}{cs:List Value}{u:AV},RC E w a cs→a.bW t=true→(∀s,t.sub []=some s→us.length=s.size)→some v=some u→
  ∃s,t.sub []=some s∧us.length=s.size∧t.off []+s.size≤cs.length∧RC E w u (cs.take (t.off [])++us++cs.drop (t.off []+s.size)):=by
  intro a t cs u hr hc hlen e
  cases e
  have hl:=RC.len hr
  have hs:=AV.dR hc
  have abU:t.sub []=some t:=by cases t<;>rfl
  have hoff:t.off []=0:=by cases t<;>rfl
  have:=hlen t abU
  exact⟨t,abU,this,by omega,by rw[hoff,cZ,List.take_zero,gO,ma (by omega),eG];exact hv⟩
 induction a with
 |
  val u x=>
  intro t cs p y hr hc hva _ hs
  have:=Ty.aB (by simpa[AV.bW] using hc);subst this
  exact uU hv hr hva hs
 |
  cons a b ih1 ih2=>
  intro t cs p u hr hc hva hlen hs
  cases p with
  |nil=>exact base hr hc hlen hs
  |
   cons s p=>
   cases t with
   |
    pair t1 t2=>
    simp only[AV.bW,aV] at hc
    obtain⟨v1,v2,e,h1,h2⟩:=hr
    subst e
    have hl:=RC.len h1
    have hsz:=AV.dR hc.1
    cases s with
    |
     cD k=>
     cases k with
     |
      zero=>
      simp only[AV.set,fm] at hs
      obtain⟨y,hy,e⟩:=hs
      subst e
      obtain⟨s,e1,e2,e3,e4⟩:=ih1 h1 hc.1 hva hlen hy
      refine⟨s,e1,e2,by simp only[Ty.off,cN];omega,?_⟩
      simp only[Ty.off]
      rw[jD _ _ _ _ _ e3]
      exact⟨_,v2,rfl,e4,h2⟩
     |
      succ k=>
      simp only[AV.set,fm] at hs
      obtain⟨y,hy,e⟩:=hs
      subst e
      obtain⟨s,e1,e2,e3,e4⟩:=ih2 h2 hc.2 hva hlen hy
      refine⟨s,e1,e2,by simp only[Ty.off,cN];omega,?_⟩
      simp only[Ty.off]
      rw[jE _ _ _ _ _ (by omega),hl,hsz,oM]
      exact⟨v1,_,rfl,h1,e4⟩
    |idx i=>simp[AV.set] at hs
   |_=>simp[AV.bW] at hc
 |
  _=>
  intro t cs p u hr hc hva hlen hs
  cases p with
  |nil=>exact base hr hc hlen hs
  |cons s p=>simp[AV.set] at hs
end Go.Ax
namespace Go.Ax
structure Dt where
 g:Nat
 t:Ty
 x:t.den
structure Ctx where
 gl:List Dt
 B:(Nat→Prop)→World→Prop
 mono:∀{S S':Nat→Prop}{w w':World},(∀b,S b→w'.heap[b]? =w.heap[b]?)→(∀b,S b→S' b)→B S w→B S' w'
 ro:Option Nat
 md:Prop
def Ctx.of(l:List Dt):Ctx:=⟨l,fun _ _=>True,fun _ _ _=>trivial,none,False⟩
abbrev Wd(gl:Ctx):Fence:={fn:=fun _=>True,depth:=none,alive:=false,round:=gl.ro}
structure St where
 tm:List AV
 hp:List (Option aN)
 df:List AV
def aN.ids:aN→List Nat
 | .var _ v=>v.ids
 | .tv _ _ v=>v.ids
 | .bZ _ _ _ _ _ v=>v.ids
 | .cL _ _ _ _ _ (some (_,v))=>v.ids
 | .pmap _ _ _ _ (some (_,v,_))=>v.ids
 | .fY _ _ _ _ _ v _=>v.ids
 | .ig _ l=>l.flatMap fun x=>x.2.ids
 |_=>[]
def aN.EC:aN→Bool
 | .cL .. | .pmap .. | .fY .. =>true
 |_=>false
def RM(E:Env)(w:World)(k v:Ty):List MapEntry→List (k.den×v.den)→Prop
 |[],[]=>True
 |e::es,x::xs=>cF E w (.val k x.1) e.key∧cF E w (.val v x.2) e.val∧RM E w k v es xs
 |_,_=>False
theorem RM.of{E:Env}{w:World}{kt vt:Ty}:∀{en:List MapEntry}{es:List (kt.den×vt.den)},jS (gQ kt.isAgg (Rel w E.S kt)) (gQ vt.isAgg (Rel w E.S vt)) en es→RM E w kt vt en es
 |[],[],_=>trivial
 |[],_::_,h=>h.elim
 |_::_,[],h=>h.elim
 |_::_,_::_,⟨h1,h2,h3⟩=>⟨h1,h2,RM.of h3⟩
theorem RM.to{E:Env}{w:World}{kt vt:Ty}:∀{en:List MapEntry}{es:List (kt.den×vt.den)},RM E w kt vt en es→jS (gQ kt.isAgg (Rel w E.S kt)) (gQ vt.isAgg (Rel w E.S vt)) en es
 |[],[],_=>trivial
 |[],_::_,h=>h.elim
 |_::_,[],h=>h.elim
 |_::_,_::_,⟨h1,h2,h3⟩=>⟨h1,h2,RM.to h3⟩
def jZ(i n:Nat)(t:Ty):Ty:=.pair (.arr i t) (.pair t (.pair (.arr (n -i -1) t) .unit))
def Kd(w:World)(S:Nat→Prop)(e:TypeId)(bs:Nat)(t:Ty)(v:Value)(og:Option Nat)(xs:List t.den):Prop:=
 xs.length*bs≤aE∧xs.length≤aE∧0<t.size∧∃a cap,v= .slice a xs.length cap∧cap≤maxLen∧
  (
   ((cap=0∧a=none)∧og=none∧xs= [])∨
   (∃g c,og=some g∧a=some ⟨g,0,none⟩∧w.heap[g]? =some (.cells c e (0,0))∧c.size=cap*t.size∧xs.length≤cap∧aT (Rel w S t) (c.toList.take (xs.length*t.size)) xs))
def Nk(w:World)(S:Nat→Prop)(k v:Ty)(u:Value)(og:Option Nat)(es:List (k.den×v.den)):Prop:=
 (es.map (·.1)).Nodup∧es.length≤aE∧∃g en clock,og=some g∧u= .map (some g)∧w.heap[g]? =some (.map en clock)∧
  jS (gQ k.isAgg (Rel w S k)) (gQ v.isAgg (Rel w S v)) en.toList es∧(∀x∈en.toList,x.born<clock)∧(en.toList.map (·.born)).Nodup
def de(w:World)(S:Nat→Prop)(e:TypeId):(t:Ty)→Value→Option Nat→t.den→Prop
 | .slice bs t,v,og,xs=>Kd w S e bs t v og xs
 | .map k v,u,og,x=>∃es,x=some es∧Nk w S k v u og es
 |_,_,_,_=>False
def zeroV:Ty→Value
 | .map _ _=>.map none
 |_=>.slice none 0 0
structure ED(P:Nat→Prop)(g:Nat)(og:Nat→Option Nat):Prop where
 own:∀i u,og i=some u→P u∧u≠g
 inj:∀i j u,og i=some u→og j=some u→i=j
theorem ED.mono{P P':Nat→Prop}{g:Nat}{og:Nat→Option Nat}(h:ED P g og)(hP:∀u,P u→P' u):ED P' g og:=
 ⟨fun i u e=>⟨hP u (h.own i u e).1,(h.own i u e).2⟩,h.inj⟩
def nv(n:Nat)(t:Ty):Option (Nat×AV)→Ty
 |none=>.arr n t
 |some (i,_)=>jZ i n t
theorem de.mono{w w':World}{S S':Nat→Prop}{e:TypeId}(hw:∀b,S b→w'.heap[b]? =w.heap[b]?)(hS:∀b,S b→S' b):∀{t:Ty}{v:Value}{og:Option Nat}{x:t.den},(∀g,og=some g→w'.heap[g]? =w.heap[g]?)→de w S e t v og x→de w' S' e t v og x:=by
 intro t v og x ho h
 cases t with
 |
  slice bs t=>
  obtain⟨h1,h2,h3,a,cap,h4,h5,h6⟩:=h
  refine⟨h1,h2,h3,a,cap,h4,h5,h6.imp id ?_⟩
  rintro⟨g,c,k1,k2,k3,k4,k5,k6⟩
  exact⟨g,c,k1,k2,by rw[ho g k1];exact k3,k4,k5,aT.mono (fun _ _=>Rel.mono hw hS) k6⟩
 |
  map k u=>
  obtain⟨es,h0,h1,h2,g,en,clock,h3,h4,h5,h6,h7⟩:=h
  exact⟨es,h0,h1,h2,g,en,clock,h3,h4,by rw[ho g h3];exact h5,jS.mono (fun _ _=>gQ.mono (fun _ _=>Rel.mono hw hS)) (fun _ _=>gQ.mono (fun _ _=>Rel.mono hw hS)) h6,h7⟩
 |_=>exact h.elim
def j0(es:Array MapEntry)(seen:Array Nat):Array MapEntry:=es.filter fun e=> !seen.contains e.born
def PM(E:Env)(w:World)(b:Nat)(k t:Ty)(es:List (k.den×t.den))(e2:TypeId)(f:Option (k.den×AV×Bool)):Prop:=
 (es.map (·.1)).Nodup∧es.length≤aE∧(∀kx v pr,f=some (kx,v,pr)→v.bW t=true)∧∃g en clock og,E.g b=some g∧w.heap[g]? =some (.map en clock)∧(∀x∈en.toList,x.born<clock)∧(en.toList.map (·.born)).Nodup∧ED (E.P b) g og∧en.size=es.length∧
  (∀i x,es[i]? =some x→∃m,en[i]? =some m∧cF E w (.val k x.1) m.key∧(∀v pr,f=some (x.1,v,pr)→og i=none∧RC E w v [m.val])∧((∀v pr,f≠some (x.1,v,pr))→de w E.S e2 t m.val (og i) x.2))∧
  ∀kx v,(f=some (kx,v,false)→kx∉es.map (·.1)→RC E w v [zeroV t])∧(f=some (kx,v,true)→kx∈es.map (·.1))
def RF(E:Env)(w:World)(k:Ty):List MapEntry→List (k.den×AV)→Prop
 |[],[]=>True
 |e::es,x::xs=>cF E w (.val k x.1) e.key∧RC E w x.2 [e.val]∧x.2.isAgg=false∧RF E w k es xs
 |_,_=>False
def RB(
 E:Env) (w:World) (b:Nat):aN→Prop
 | .lP k v rest cur=>∃g om since seen c0,E.g b=some g∧w.heap[g]? =some (.mapIter om since seen c0)∧((om=none∧rest= []∧cur=none)∨
  ∃bm en,om=some bm∧E.S bm∧w.heap[bm]? =some (.map en c0)∧since=c0∧(∀x∈en.toList,x.born<c0)∧(en.toList.map (·.born)).Nodup∧RM E w k v (j0 en seen).toList rest∧
   ∀x,cur=some x→∃e s0,seen=Array.push s0 e.born∧e∈en.toList∧cF E w (.val k x.1) e.key∧cF E w (.val v x.2) e.val)
 | .cL e bs t xs e2 f=>E.bt b=nv xs.length t f∧t.size=1∧xs.length*bs≤aE∧xs.length≤aE∧(∀i v,f=some (i,v)→i<xs.length∧v.bW t=true)∧∃g cap c og,E.sv b= .slice (some ⟨g,0,none⟩) xs.length cap∧cap≤maxLen∧E.g b=some g∧
  w.heap[g]? =some (.cells c e (0,0))∧c.size=cap∧xs.length≤cap∧ED (E.P b) g og∧
  ∀i x,xs[i]? =some x→∃u,c[i]? =some u∧(∀v,f=some (i,v)→og i=none∧RC E w v [u])∧((∀v,f≠some (i,v))→de w E.S e2 t u (og i) x)
 | .pmap k t es e2 f=>PM E w b k t es e2 f
 | .fY k t es e2 kx v pr=>PM E w b k t es e2 (some (kx,v,pr))∧∃(n:Nat)(g:Nat)(en:Array MapEntry)(clock:Nat),E.sv b= .int .i64 n∧E.g b=some g∧w.heap[g]? =some (.map en clock)∧(kx∉es.map (·.1)→n=clock)∧
  ∀(i:Nat)(m:MapEntry)(y:t.den),es[i]? =some (kx,y)→en[i]? =some m→m.born=n
 | .ig k l=>(l.map (·.1)).Nodup∧l.length≤aE∧∃g en clock,E.g b=some g∧w.heap[g]? =some (.map en clock)∧RF E w k en.toList l
 | .var t v=>E.bt b=t∧v.bW t=true∧∃g c e,E.g b=some g∧w.heap[g]? =some (.cells c e (0,0))∧RC E w v c.toList
 | .row e bs t xs=>E.bt b= .arr xs.length t∧xs.length*bs≤aE∧xs.length≤aE∧0<t.size∧∃a cap,E.sv b= .slice a xs.length cap∧cap≤maxLen∧
  (
   ((cap=0∧a=none)∧E.g b=none∧xs= [])∨
   (∃g c,E.g b=some g∧a=some ⟨g,0,none⟩∧w.heap[g]? =some (.cells c e (0,0))∧c.size=cap*t.size∧xs.length≤cap∧aT (Rel w E.S t) (c.toList.take (xs.length*t.size)) xs))
 | .map k v es=>(es.map (·.1)).Nodup∧es.length≤aE∧∃g en clock,E.g b=some g∧w.heap[g]? =some (.map en clock)∧RM E w k v en.toList es∧(∀x∈en.toList,x.born<clock)∧(en.toList.map (·.born)).Nodup
 | .lp y j=>E.g b=some y.l∧w.heap[y.l]? =some (.loop (y.rc j))
 | .sS=>∃g,E.g b=some g∧w.heap[g]? =some (.deferred (some []))
 | .tv g t v=>E.g b=some g∧E.bt b=t∧v.bW t=true∧∃c e,w.heap[g]? =some (.cells c e (0,0))∧RC E w v c.toList
 | .bZ e bs t xs i v=>E.bt b=jZ i xs.length t∧i<xs.length∧xs.length*bs≤aE∧xs.length≤aE∧0<t.size∧v.bW t=true∧∃g cap c,E.sv b= .slice (some ⟨g,0,none⟩) xs.length cap∧cap≤maxLen∧E.g b=some g∧
  w.heap[g]? =some (.cells c e (0,0))∧c.size=cap*t.size∧xs.length≤cap∧aT (Rel w E.S t) (c.toList.take (i*t.size)) (xs.take i)∧RC E w v ((c.toList.drop (i*t.size)).take t.size)∧
  aT (Rel w E.S t) ((c.toList.drop ((i+1)*t.size)).take ((xs.length -(i+1))*t.size)) (xs.drop (i+1))
def EE(gl:Ctx)(E:Env)(w:World):Prop:=(∀x∈gl.gl,E.S x.g∧∃cs,ot w ⟨x.g,0,none⟩ cs∧Rel w E.S x.t cs x.x)∧gl.B E.S w
structure HW(gl:Ctx)(E:Env)(w:World)(hp:List (Option aN)):Prop where
 cH:∀b k,hp[b]? =some (some k)→RB E w b k
 dN:∀b b' k k' g,hp[b]? =some (some k)→hp[b']? =some (some k')→E.has b g→E.has b' g→b=b'
 dq:∀b k g,hp[b]? =some (some k)→E.has b g→¬E.S g
 slt:∀g,E.S g→g<w.heap.size
 gl:EE gl E w
 qG:∀b k g,hp[b]? =some (some k)→E.P b g→g<w.heap.size
theorem HW.sep{gl:Ctx}{E:Env}{w:World}{hp:List (Option aN)}(h:HW gl E w hp)(b b':Nat)(k k':aN)(g:Nat)(h1:hp[b]? =some (some k))(h2:hp[b']? =some (some k'))(h3:E.g b=some g)(h4:E.g b'=some g):b=b':=h.dN b b' k k' g h1 h2 (Or.inl h3) (Or.inl h4)
theorem HW.jT{gl:Ctx}{E:Env}{w:World}{hp:List (Option aN)}(h:HW gl E w hp)(b:Nat)(k:aN)(g:Nat)(h1:hp[b]? =some (some k))(h3:E.g b=some g):¬E.S g:=h.dq b k g h1 (Or.inl h3)
def Own(hp:List (Option aN))(E:Env)(g:Nat):Prop:=∃b k,hp[b]? =some (some k)∧E.has b g
def Tp(md:Prop)(w w':World):Prop:=w'.tape=w.tape∧(md→w.drawn≤w'.drawn)
theorem Tp.r{md:Prop}{w w':World}(h:w'.tape=w.tape)(k:w'.drawn=w.drawn):Tp md w w':=⟨h,fun _=>Nat.le_of_eq k.symm⟩
theorem Tp.s{md:Prop}{w w':World}(h:w'.tape=w.tape)(k:w'.drawn=w.drawn+1):Tp md w w':=⟨h,fun _=>k▸Nat.le_succ _⟩
theorem Tp.trans{md:Prop}{w v u:World}(h:Tp md w v)(k:Tp md v u):Tp md w u:=⟨k.1.trans h.1,fun m=>da (h.2 m) (k.2 m)⟩
structure Ext(md:Prop)(O:Nat→Prop)(E:Env)(w:World)(O':Nat→Prop)(E':Env)(w':World):Prop where
 os:w'.os=w.os
 tape:Tp md w w'
 output:w'.output=w.output
 size:w.heap.size≤w'.heap.size
 kept:∀g,g<w.heap.size→¬O g→w'.heap[g]? =w.heap[g]?
 sle:∀g,E.S g→E'.S g
 lG:∀g,E'.S g→E.S g∨O g∨w.heap.size≤g
 own:∀g,O' g→O g∨w.heap.size≤g
 BW:∀b,b<16→E'.g b=E.g b∧E'.sv b=E.sv b∧E'.bt b=E.bt b
theorem Ext.refl{md:Prop}(O:Nat→Prop)(E:Env)(w:World):Ext md O E w O E w:=
 ⟨rfl,Tp.r rfl rfl,rfl,cq _,fun _ _ _=>rfl,fun _ h=>h,fun _ h=>Or.inl h,fun _ h=>Or.inl h,fun _ _=>⟨rfl,rfl,rfl⟩⟩
theorem Ext.trans{md:Prop}{O O1 O2:Nat→Prop}{E E1 E2:Env}{w w1 w2:World}(h:Ext md O E w O1 E1 w1)(k:Ext md O1 E1 w1 O2 E2 w2):Ext md O E w O2 E2 w2 where
 os:=k.os.trans h.os
 tape:=h.tape.trans k.tape
 output:=k.output.trans h.output
 size:=da h.size k.size
 kept:=fun g hg ho=>by
  rw[k.kept g (sR hg h.size) (fun h1=>(h.own g h1).elim ho (fun h2=>by omega)),h.kept g hg ho]
 sle:=fun g hg=>k.sle g (h.sle g hg)
 lG:=fun g hg=>by
  rcases k.lG g hg with h1|h1|h1
  ·exact h.lG g h1
  ·exact(h.own g h1).elim (fun x=>Or.inr (Or.inl x)) (fun x=>Or.inr (Or.inr x))
  ·exact Or.inr (Or.inr (da h.size h1))
 own:=fun g hg=>by
  rcases k.own g hg with h1|h1
  ·exact h.own g h1
  ·exact Or.inr (da h.size h1)
 BW:=fun b hb=>⟨(k.BW b hb).1.trans (h.BW b hb).1,(k.BW b hb).2.1.trans (h.BW b hb).2.1,(k.BW b hb).2.2.trans (h.BW b hb).2.2⟩
def RD(E:Env)(w:World):List AV→List Deferred→Prop
 |[],[]=>True
 | .mp b::l,d::ds=>(∃g,E.g b=some g∧d={target:=.collected g,args:= #[]})∧RD E w l ds
 | .func fn fs cs::l,d::ds=>(∃f c,d={target:=.fn fn c,args:=f}∧RC E w fs f.toList∧RC E w cs c.toList∧fs.atoms=true∧cs.atoms=true)∧RD E w l ds
 |_,_=>False
theorem RD.mono{E E':Env}{w w':World}(k:bM E w E' w'):∀{l:List AV}{ds:List Deferred},(∀a∈l,E.on E' a.ids)→RD E w l ds→RD E' w' l ds
 |[],[],_,_=>trivial
 |[],_::_,_,h=>h.elim
 |a::l,[],_,h=>by cases a<;>exact h.elim
 |
  a::l,d::ds,ho,h=>by
  cases a with
  |
   func fn fs cs=>
   obtain⟨⟨f,c,e,h1,h2,h3,h4⟩,h5⟩:=h
   have:=ho _ (cK ..)
   exact⟨⟨f,c,e,RC.mono k this.left h1,RC.mono k this.right h2,h3,h4⟩,RD.mono k (fun a ha=>ho a (dr _ ha)) h5⟩
  |
   mp b=>
   obtain⟨⟨g,e1,e2⟩,h5⟩:=h
   have:=ho _ (cK ..) b (by simp[AV.ids])
   exact⟨⟨g,by rw[this.1];exact e1,e2⟩,RD.mono k (fun a ha=>ho a (dr _ ha)) h5⟩
  |_=>exact h.elim
structure cd(gl:Ctx)(σ:St)(E:Env)(a:Act)(w:World):Prop where
 len:a.tmps.size=σ.tm.length
 tm:∀(i:Nat)(x:AV),σ.tm[i]? =some x→∀v,a.tmps[i]? =some v→RV E w x v
 hw:HW gl E w σ.hp
 df:RD E w σ.df a.defers
theorem HW.kept{gl:Ctx}{E E':Env}{w w':World}{hp:List (Option aN)}{O':Nat→Prop}(h:HW gl E w hp)(x:Ext gl.md (Own hp E) E w O' E' w'):bM E w E' w' where
 w:=fun b hb=>x.kept b (h.slt b hb) (fun⟨c,k,hc,hg⟩=>h.dq c k b hc hg hb)
 S:=x.sle
theorem RM.mono{E E':Env}{w w':World}(k:bM E w E' w'){kt vt:Ty}:∀{l:List MapEntry}{xs:List (kt.den×vt.den)},RM E w kt vt l xs→RM E' w' kt vt l xs
 |[],[],_=>trivial
 |[],_::_,h=>h.elim
 |_::_,[],h=>h.elim
 |e::l,x::xs,h=>⟨cF.mono k (fun b hb=>by cases hb) h.1,cF.mono k (fun b hb=>by cases hb) h.2.1,RM.mono k h.2.2⟩
theorem PM.mono{E E':Env}{w w':World}{b:Nat}{kt t:Ty}{es:List (kt.den×t.den)}{e2':TypeId}{f:Option (kt.den×AV×Bool)}(kp:bM E w E' w')(ho':E.on E' (aN.pmap kt t es e2' f).ids)(hkA:∀g,E.has b g→w'.heap[g]? =w.heap[g]?)(e1:E'.g b=E.g b)(hP:∀g,E.P b g→E'.P b g)(h:PM E w b kt t es e2' f):PM E' w' b kt t es e2' f:=by
 have hk:∀g,E.g b=some g→w'.heap[g]? =w.heap[g]? :=fun g h=>hkA g (Or.inl h)
 obtain⟨h1,h2,h3,g,en,clock,og,q1,q2,q3,q4,q5,q6,q7,q8⟩:=h
 refine⟨h1,h2,h3,g,en,clock,og,by rw[e1];exact q1,by rw[hk g q1];exact q2,q3,q4,q5.mono hP,q6,fun i x hx=>?_,fun kx v=>⟨fun hf hn=>?_,(q8 kx v).2⟩⟩
 ·obtain⟨m,r1,r2,r3,r4⟩:=q7 i x hx
  refine⟨m,r1,cF.mono kp (fun _ hb=>by cases hb) r2,fun v pr hv=>⟨(r3 v pr hv).1,?_⟩,fun hv=>de.mono kp.w kp.S (fun gg hgg=>hkA gg (Or.inr (q5.own i gg hgg).1)) (r4 hv)⟩
  subst hv
  exact RC.mono kp ho' (r3 v pr rfl).2
 ·subst hf
  exact RC.mono kp ho' ((q8 kx v).1 rfl hn)
theorem RF.mono{E E':Env}{w w':World}(k:bM E w E' w'){kt:Ty}:∀{l:List MapEntry}{xs:List (kt.den×AV)},E.on E' (xs.flatMap fun x=>x.2.ids)→RF E w kt l xs→RF E' w' kt l xs
 |[],[],_,_=>trivial
 |[],_::_,_,h=>h.elim
 |_::_,[],_,h=>h.elim
 |e::l,x::xs,ho,h=>⟨cF.mono k (fun b hb=>by cases hb) h.1,RC.mono k (Env.on.left (by simpa using ho)) h.2.1,h.2.2.1,RF.mono k (Env.on.right (a:=x.2.ids) (by simpa using ho)) h.2.2.2⟩
theorem RB.mono{E E':Env}{w w':World}{b:Nat}{k:aN}(kp:bM E w E' w')(ho:E.on E' (b::k.ids))(hk:∀g,E.has b g→w'.heap[g]? =w.heap[g]?)(hP:k.EC=true→∀g,E.P b g→E'.P b g)(h:RB E w b k):RB E' w' b k:=by
 have hkA:=hk
 have hk:∀g,E.g b=some g→w'.heap[g]? =w.heap[g]? :=fun g h=>hk g (Or.inl h)
 obtain⟨e1,e2,e3⟩:=ho b (cK ..)
 have ho':E.on E' k.ids:=fun x hx=>ho x (dr _ hx)
 cases k with
 |
  var t v=>
  obtain⟨h1,h2,g,c,e,h3,h4,h5⟩:=h
  exact⟨by rw[e3];exact h1,h2,g,c,e,by rw[e1];exact h3,by rw[hk g h3];exact h4,RC.mono kp ho' h5⟩
 |
  row e bs t xs=>
  obtain⟨h1,h2,h3,h4,a,cap,h5,h6,h7⟩:=h
  refine⟨by rw[e3];exact h1,h2,h3,h4,a,cap,by rw[e2];exact h5,h6,?_⟩
  rcases h7 with⟨h7,h8,h9⟩|⟨g,c,h7,h8,h9,h10,h11,h12⟩
  ·exact Or.inl ⟨h7,by rw[e1];exact h8,h9⟩
  ·exact Or.inr ⟨g,c,by rw[e1];exact h7,h8,by rw[hk g h7];exact h9,h10,h11,aT.mono (fun _ _=>Rel.mono kp.w kp.S) h12⟩
 |
  map kt vt es=>
  obtain⟨h1,h1',g,en,clock,h2,h3,h4,h5,h6⟩:=h
  exact⟨h1,h1',g,en,clock,by rw[e1];exact h2,by rw[hk g h2];exact h3,RM.mono kp h4,h5,h6⟩
 |
  lP k v rest cur=>
  obtain⟨g,om,since,seen,c0,q1,q2,q3⟩:=h
  refine⟨g,om,since,seen,c0,by rw[e1];exact q1,by rw[hk g q1];exact q2,q3.imp id ?_⟩
  rintro⟨bm,en,r1,r2,r3,r4,r5,r6,r7,r8⟩
  refine⟨bm,en,r1,kp.S bm r2,by rw[kp.w bm r2];exact r3,r4,r5,r6,RM.mono kp r7,fun x hx=>?_⟩
  obtain⟨e,s0,t1,t2,t3,t4⟩:=r8 x hx
  exact⟨e,s0,t1,t2,cF.mono kp (fun _ hb=>by cases hb) t3,cF.mono kp (fun _ hb=>by cases hb) t4⟩
 |
  cL e bs t xs e2' f=>
  obtain⟨h1,h2,h3,h4,h5,g,cap,c,og,q1,q2,q3,q4,q5,q6,q7,q8⟩:=h
  refine⟨by rw[e3];exact h1,h2,h3,h4,h5,g,cap,c,og,by rw[e2];exact q1,q2,by rw[e1];exact q3,by rw[hk g q3];exact q4,q5,q6,q7.mono (hP rfl),fun i x hx=>?_⟩
  obtain⟨u,r1,r2,r3⟩:=q8 i x hx
  refine⟨u,r1,fun v hv=>⟨(r2 v hv).1,?_⟩,fun hv=>de.mono kp.w kp.S (fun gg hgg=>hkA gg (Or.inr (q7.own i gg hgg).1)) (r3 hv)⟩
  subst hv
  exact RC.mono kp ho' (r2 v rfl).2
 |pmap kt t es e2' f=>exact PM.mono kp (by cases f with|none=>exact fun _ hx=>(by cases hx)|some f=>exact ho') hkA e1 (hP rfl) h
 |
  fY kt t es e2' kx v pr=>
  obtain⟨h1,n,g,en,clock,q1,q2,q3,q4,q5⟩:=h
  exact⟨PM.mono kp ho' hkA e1 (hP rfl) h1,n,g,en,clock,by rw[e2];exact q1,by rw[e1];exact q2,by rw[hk g q2];exact q3,q4,q5⟩
 |
  ig kt l=>
  obtain⟨h1,h2,g,en,clock,q1,q2,q3⟩:=h
  exact⟨h1,h2,g,en,clock,by rw[e1];exact q1,by rw[hk g q1];exact q2,RF.mono kp ho' q3⟩
 |lp l r=>exact⟨by rw[e1];exact h.1,by rw[hk l.l h.1];exact h.2⟩
 |sS=>obtain⟨g,h1,h2⟩:=h;exact⟨g,by rw[e1];exact h1,by rw[hk g h1];exact h2⟩
 |
  tv g t v=>
  obtain⟨h0,h1,h2,c,e,h4,h5⟩:=h
  exact⟨by rw[e1];exact h0,by rw[e3];exact h1,h2,c,e,by rw[hk g h0];exact h4,RC.mono kp ho' h5⟩
 |
  bZ e bs t xs i v=>
  obtain⟨h1,h2,h3,h4,h5,h6,g,cap,c,q1,q2,q3,q4,q5,q6,q7,q8,q9⟩:=h
  exact⟨by rw[e3];exact h1,h2,h3,h4,h5,h6,g,cap,c,by rw[e2];exact q1,q2,by rw[e1];exact q3,by rw[hk g q3];exact q4,q5,q6,aT.mono (fun _ _=>Rel.mono kp.w kp.S) q7,RC.mono kp ho' q8,aT.mono (fun _ _=>Rel.mono kp.w kp.S) q9⟩
def St.put(σ:St)(dst:Option Nat)(x:AV):St:=
 match dst with
 |some d=>{σ with tm:=σ.tm.set d x}
 |none=>σ
def St.cH(σ:St)(b:Nat)(k:Option aN):St:={σ with hp:=σ.hp.set b k}
theorem cd.put{gl:Ctx}{σ:St}{E:Env}{a:Act}{w:World}(h:cd gl σ E a w)(dst:Option Nat){x:AV}{v:Value}(hv:RV E w x v):cd gl (σ.put dst x) E (a.put dst v) w:=by
 cases dst with
 |none=>exact h
 |
  some d=>
  refine⟨by simp[Act.put,St.put,h.len],?_,h.hw,h.df⟩
  intro i y hi u hu
  simp only[St.put,bK] at hi
  simp only[Act.put,Array.getElem?_setIfInBounds] at hu
  by_cases e:d=i
  ·subst e
   simp only[bC] at hi hu
   split at hi
   ·cases hi
    rename_i hlt
    rw[aA (by rw[h.len];exact hlt)] at hu
    cases hu
    exact hv
   ·cases hi
  ·simp only[e,bP] at hi hu
   exact h.tm i y hi u hu
def St.ids(σ:St):List Nat:=σ.tm.flatMap AV.ids++σ.df.flatMap AV.ids++(σ.hp.filterMap id).flatMap aN.ids
theorem St.Ao{σ:St}{i:Nat}{x:AV}(h:σ.tm[i]? =some x):∀b∈x.ids,b∈σ.ids:=fun b hb=>by
 simp only[St.ids,gA,qE]
 exact Or.inl (Or.inl ⟨x,fP h,hb⟩)
theorem St.EF{σ:St}{x:AV}(h:x∈σ.df):∀b∈x.ids,b∈σ.ids:=fun b hb=>by
 simp only[St.ids,gA,qE]
 exact Or.inl (Or.inr ⟨x,h,hb⟩)
theorem St.wH{σ:St}{i:Nat}{k:aN}(h:σ.hp[i]? =some (some k)):∀b∈k.ids,b∈σ.ids:=fun b hb=>by
 simp only[St.ids,gA,qE]
 exact Or.inr ⟨k,List.mem_filterMap.2 ⟨some k,fP h,rfl⟩,hb⟩
theorem cd.carry{gl:Ctx}{σ:St}{E E':Env}{a:Act}{w w':World}(h:cd gl σ E a w)(k:bM E w E' w')(ho:E.on E' σ.ids){hp:List (Option aN)}(hw:HW gl E' w' hp):cd gl {σ with hp:=hp} E' a w':=
 ⟨h.len,fun i x hi v hv=>RV.mono k (fun b hb=>ho b (St.Ao (σ:=σ) hi b hb)) (h.tm i x hi v hv),hw,RD.mono k (fun _x hx b hb=>ho b (St.EF (σ:=σ) hx b hb)) h.df⟩
def Env.at(E:Env)(d:Nat)(g:Option Nat)(sv:Value)(t:Ty):Env:=
 {E with g:=fun b=>if b=d then g else E.g b,sv:=fun b=>if b=d then sv else E.sv b,bt:=fun b=>if b=d then t else E.bt b,P:=fun b=>if b=d then fun _=>False else E.P b}
theorem Env.EG{E:Env}{d:Nat}{g:Option Nat}{sv:Value}{t:Ty}(h:16≤d):∀b,b<16→(E.at d g sv t).g b=E.g b∧(E.at d g sv t).sv b=E.sv b∧(E.at d g sv t).bt b=E.bt b:=fun b hb=>by
 have:b≠d:=by omega
 simp[Env.at,this]
theorem Env.yz{E:Env}{d:Nat}{g:Option Nat}{sv:Value}{t:Ty}{ids:List Nat}(h:d∉ids):E.on (E.at d g sv t) ids:=fun b hb=>by
 have:b≠d:=fun e=>h (e▸hb)
 simp[Env.at,this]
theorem HW.fT{gl:Ctx}{E E':Env}{w w':World}{hp:List (Option aN)}(h:HW gl E w hp)(k:bM E w E' w'):EE gl E' w':=
 ⟨fun x hx=>by
  obtain⟨h1,cs,h2,h3⟩:=h.gl.1 x hx
  exact⟨k.S _ h1,cs,h2.mono (k.w _ h1),Rel.mono k.w k.S h3⟩,gl.mono k.w k.S h.gl.2⟩
theorem HW.below{gl:Ctx}{E:Env}{w:World}{hp:List (Option aN)}(h:HW gl E w hp){b i:Nat}{k':aN}(hb:hp[b]? =some (some k'))(hgi:E.has b i):i<w.heap.size:=by
 rcases hgi with hgi|hgi
 case inr=>exact h.qG b k' i hb hgi
 have:=h.cH b k' hb
 cases k' with
 |var t v=>obtain⟨_,_,g,c,e,h3,h4,_⟩:=this;rw[hgi] at h3;cases h3;exact(Array.getElem?_eq_some_iff.1 h4).1
 |
  row e bs t xs=>
  obtain⟨_,_,_,_,a,cap,_,_,h7⟩:=this
  rcases h7 with⟨_,h8,_⟩|⟨g,c,h7,_,h9,_⟩
  ·rw[hgi] at h8;cases h8
  ·rw[hgi] at h7;cases h7;exact(Array.getElem?_eq_some_iff.1 h9).1
 |map kt vt es=>obtain⟨_,_,g,en,clock,h2,h3,_⟩:=this;rw[hgi] at h2;cases h2;exact(Array.getElem?_eq_some_iff.1 h3).1
 |lP k v rest cur=>obtain⟨g,_,_,_,_,h3,h4,_⟩:=this;rw[hgi] at h3;cases h3;exact(Array.getElem?_eq_some_iff.1 h4).1
 |cL e bs t xs e2 f=>obtain⟨_,_,_,_,_,g,cap,c,og,_,_,h3,h4,_⟩:=this;rw[hgi] at h3;cases h3;exact(Array.getElem?_eq_some_iff.1 h4).1
 |pmap kt t es e2 f=>obtain⟨_,_,_,g,en,clock,og,h3,h4,_⟩:=this;rw[hgi] at h3;cases h3;exact(Array.getElem?_eq_some_iff.1 h4).1
 |fY kt t es e2 kx v pr=>obtain⟨_,n,g,en,clock,_,h3,h4,_⟩:=this;rw[hgi] at h3;cases h3;exact(Array.getElem?_eq_some_iff.1 h4).1
 |ig kt l=>obtain⟨_,_,g,en,clock,h3,h4,_⟩:=this;rw[hgi] at h3;cases h3;exact(Array.getElem?_eq_some_iff.1 h4).1
 |lp l r=>obtain⟨h2,h3⟩:=this;rw[hgi] at h2;cases h2;exact(Array.getElem?_eq_some_iff.1 h3).1
 |sS=>obtain⟨g,h2,h3⟩:=this;rw[hgi] at h2;cases h2;exact(Array.getElem?_eq_some_iff.1 h3).1
 |tv g t v=>obtain⟨h2,_,_,c,e,h3,_⟩:=this;rw[hgi] at h2;cases h2;exact(Array.getElem?_eq_some_iff.1 h3).1
 |bZ e bs t xs i v=>obtain⟨_,_,_,_,_,_,g,cap,c,_,_,h3,h4,_⟩:=this;rw[hgi] at h3;cases h3;exact(Array.getElem?_eq_some_iff.1 h4).1
theorem Own.below{gl:Ctx}{E:Env}{w:World}{hp:List (Option aN)}(h:HW gl E w hp){i:Nat}(ho:Own hp E i):i<w.heap.size:=by
 obtain⟨b,k',hb,hgi⟩:=ho
 exact h.below hb hgi
theorem Env.iU{E:Env}{d:Nat}{g:Option Nat}{sv:Value}{t:Ty}{b i:Nat}(hne:b≠d):(E.at d g sv t).has b i↔E.has b i:=by simp[Env.has,Env.at,hne]
theorem Env.j4{E:Env}{d:Nat}{g:Option Nat}{sv:Value}{t:Ty}{i:Nat}:(E.at d g sv t).has d i↔g=some i:=by simp[Env.has,Env.at]
theorem HW.fresh{gl:Ctx}{E:Env}{w w':World}{hp:List (Option aN)}(h:HW gl E w hp){d:Nat}{g:Option Nat}{sv:Value}{t:Ty}{k:aN}
 (hsz:w.heap.size≤w'.heap.size) (hold:∀i,i<w.heap.size→w'.heap[i]? =w.heap[i]?)
 (hd:∀k',hp[d]? ≠some (some k')) (ack:∀(b:Nat)(k':aN),hp[b]? =some (some k')→d∉k'.ids) (hg:∀i,g=some i→w.heap.size≤i) (hb:RB (E.at d g sv t) w' d k):HW gl (E.at d g sv t) w' (hp.set d (some k)):=by
 have kp:bM E w (E.at d g sv t) w':=⟨fun b hb=>hold b (h.slt b hb),fun b hb=>hb⟩
 have old:∀(b:Nat)(k':aN),b≠d→(hp.set d (some k))[b]? =some (some k')→hp[b]? =some (some k'):=by
  intro b k' hne hb
  rw[bK,aC (fun e=>hne e.symm)] at hb
  exact hb
 refine⟨?_,?_,?_,?_,h.fT kp,?_⟩
 ·intro b k' hbk
  by_cases e:b=d
  ·subst e
   rw[bK] at hbk
   simp only[bC] at hbk
   split at hbk
   ·cases hbk;exact hb
   ·cases hbk
  ·have hbk':=old b k' e hbk
   refine RB.mono kp (Env.yz ?_) ?_ (fun _ g hg=>by simpa[Env.at,e] using hg) (h.cH b k' hbk')
   ·intro hm
    cases hm with
    |head=>exact e rfl
    |tail _ hm=>exact ack b k' hbk' hm
   ·intro i hi
    exact hold i (h.below hbk' hi)
 ·intro b b' k1 k2 i hb hb' h1 h2
  by_cases e:b=d<;>by_cases e':b'=d
  ·rw[e,e']
  ·subst e
   have h1:=hg i (Env.j4.1 h1)
   have:=h.below (old b' k2 e' hb') ((Env.iU e').1 h2)
   omega
  ·subst e'
   have h2:=hg i (Env.j4.1 h2)
   have:=h.below (old b k1 e hb) ((Env.iU e).1 h1)
   omega
  ·exact h.dN b b' k1 k2 i (old b k1 e hb) (old b' k2 e' hb') ((Env.iU e).1 h1) ((Env.iU e').1 h2)
 ·intro b k1 i hb h1 hs
  by_cases e:b=d
  ·subst e
   have:=hg i (Env.j4.1 h1)
   have:=h.slt i hs
   omega
  ·exact h.dq b k1 i (old b k1 e hb) ((Env.iU e).1 h1) hs
 ·intro i hs;exact sR (h.slt i hs) hsz
 ·intro b k1 i hb h1
  by_cases e:b=d
  ·subst e;simp[Env.at] at h1
  ·have h1:E.P b i:=by simpa[Env.at,e] using h1
   exact sR (h.qG b k1 i (old b k1 e hb) h1) hsz
theorem HW.write{gl:Ctx}{E:Env}{w w':World}{hp:List (Option aN)}(h:HW gl E w hp){b:Nat}{k k':aN}(hb:hp[b]? =some (some k))(hsz:w'.heap.size=w.heap.size)
 (hold:∀i,E.g b≠some i→w'.heap[i]? =w.heap[i]?) (hk:RB E w' b k'):HW gl E w' (hp.set b (some k')):=by
 have kp:bM E w E w':=⟨fun i hi=>hold i (fun e=>h.jT b k i hb e hi),fun b hb=>hb⟩
 have old:∀(b':Nat)(k2:aN),b'≠b→(hp.set b (some k'))[b']? =some (some k2)→hp[b']? =some (some k2):=by
  intro b' k2 hne hb'
  rw[bK,aC (fun e=>hne e.symm)] at hb'
  exact hb'
 have any:∀(b':Nat)(k2:aN),(hp.set b (some k'))[b']? =some (some k2)→∃k3:aN,hp[b']? =some (some k3):=by
  intro b' k2 hb'
  by_cases e:b'=b
  ·subst e;exact⟨k,hb⟩
  ·exact⟨k2,old b' k2 e hb'⟩
 refine⟨?_,?_,?_,?_,h.fT kp,?_⟩
 ·intro b' k2 hb'
  by_cases e:b'=b
  ·subst e
   rw[bK] at hb'
   simp only[bC] at hb'
   split at hb'
   ·cases hb';exact hk
   ·cases hb'
  ·have hb2:=old b' k2 e hb'
   refine RB.mono kp (fun x _=>⟨rfl,rfl,rfl⟩) ?_ (fun _ _ h=>h) (h.cH b' k2 hb2)
   intro i hi
   exact hold i (fun e'=>e (h.dN b' b k2 k i hb2 hb hi (Or.inl e')))
 ·intro b1 b2 k1 k2 i h1 h2 g1 g2
  obtain⟨k3,h3⟩:=any b1 k1 h1
  obtain⟨k4,h4⟩:=any b2 k2 h2
  exact h.dN b1 b2 k3 k4 i h3 h4 g1 g2
 ·intro b1 k1 i h1 g1
  obtain⟨k3,h3⟩:=any b1 k1 h1
  exact h.dq b1 k3 i h3 g1
 ·intro i hi;rw[hsz];exact h.slt i hi
 ·intro b1 k1 i h1 g1
  obtain⟨k3,h3⟩:=any b1 k1 h1
  rw[hsz];exact h.qG b1 k3 i h3 g1
theorem Own.set{hp:List (Option aN)}{E:Env}{b:Nat}{k k':aN}(hb:hp[b]? =some (some k)){i:Nat}(h:Own (hp.set b (some k')) E i):Own hp E i:=by
 obtain⟨b',k2,hb',hg⟩:=h
 by_cases e:b'=b
 ·subst e;exact⟨b',k,hb,hg⟩
 ·rw[bK,aC (fun e'=>e e'.symm)] at hb'
  exact⟨b',k2,hb',hg⟩
end Go.Ax
namespace Go.Ax
structure MS where
 name:String
 f:FuncId
 st:Option (TypeId×Nat×TypeId)
structure TD where
 ty:Ty
 e:TypeId:=0
 e2:TypeId:=0
 ms:List MS:=[]
abbrev bT:=List (Option TD)
def bT.at(G:bT)(t:TypeId):Option TD:=(G[t]?).join
def fQ.zero:fQ→AV
 | .ptr=>.gB
 | .map=>.dT
 | .func=>.fy
 | .iface=>.iu
 | .sl=>.bA
def Ty.zero:Ty→AV
 | .slice _ _=>.bA
 | .pair a b=>.cons a.zero b.zero
 | .unit=>.nil
 | .aR k=>fQ.zero k
 | .map _ _=>.dT
 |t=>.val t t.aD
def Ty.pure:Ty→Bool
 | .arr _ t=>t.pure
 | .slice _ t=>t.pure
 | .pair a b=>a.pure&&b.pure
 | .aR _| .fns _=>false
 | .map k v=>k.pure&&v.pure
 |_=>true
def EH:Value→Bool
 | .nilFunc=>true
 |_=>false
def isZero:Ty→Value→Bool
 | .int k,.int k' n=>Nat.beq (IntKind.code k) (IntKind.code k')&&decide (n=0)
 | .bool,.bool b=> !b
 | .str,.string s=>s.data.toList.isEmpty
 | .slice _ _,.slice a n c=>a.isNone&&Nat.beq n 0&&Nat.beq c 0
 | .aR .ptr,.pointer a=>a.isNone
 | .aR .map,.map a=>a.isNone
 | .map _ _,.map a=>a.isNone
 | .aR .func,.nilFunc=>true
 | .aR .iface,.nilIface=>true
 | .aR .sl,.slice a n c=>a.isNone&&Nat.beq n 0&&Nat.beq c 0
 |_,_=>false
def kB:Ty→List Value→Bool
 | .arr n t,cs=>Nat.beq cs.length (n*t.size)&&t.pure&&(List.range n).all fun i=>kB t ((cs.drop (i*t.size)).take t.size)
 | .pair a b,cs=>Nat.ble a.size cs.length&&kB a (cs.take a.size)&&kB b (cs.drop a.size)
 | .unit,cs=>cs.isEmpty
 | .fns n,cs=>Nat.beq cs.length n&&cs.all EH
 |t,[v]=>isZero t v
 |_,_=>false
theorem jr{E:Env}{w:World}{t:Ty}{v:Value}(ha:t.isAgg=false)(h:isZero t v=true):RC E w t.zero [v]∧(t.pure=true→Rel w E.S t [v] t.aD):=by
 cases t with
 |
  int k=>
  cases v<;>simp[isZero] at h
  obtain⟨h1,h2⟩:=h
  have:=IntKind.iO h1
  subst this;subst h2
  refine⟨⟨rfl,?_,?_⟩,fun _=>⟨rfl,?_,?_⟩⟩<;>(cases k<;>decide)
 |
  bool=>
  cases v<;>simp[isZero] at h
  subst h
  exact⟨rfl,fun _=>rfl⟩
 |
  str=>
  cases v with
  |
   string s=>
   simp[isZero] at h
   have:s=⟨#[]⟩:=by cases s;simp_all
   subst this
   exact⟨⟨rfl,by simp[aE,Ty.aD]⟩,fun _=>⟨rfl,by simp[aE,Ty.aD]⟩⟩
  |_=>simp[isZero] at h
 |
  slice bs t=>
  cases v with
  |
   slice a n c=>
   simp[isZero] at h
   obtain⟨⟨h1,h2⟩,h3⟩:=h
   subst h1;subst h2;subst h3
   exact⟨rfl,fun _=>⟨none,0,rfl,cq _,by simp[Ty.aD],by simp[Ty.aD],Or.inl rfl⟩⟩
  |_=>simp[isZero] at h
 |
  map k e=>
  cases v<;>simp[isZero] at h
  subst h
  exact⟨rfl,fun _=>⟨none,rfl,Or.inl ⟨rfl,rfl⟩⟩⟩
 |
  aR k=>
  refine⟨?_,fun hp=>by simp[Ty.pure] at hp⟩
  cases k<;>cases v<;>simp[isZero] at h<;>first|rfl|(subst h;rfl)|(obtain⟨⟨h1,h2⟩,h3⟩:=h;subst h1;subst h2;subst h3;rfl)
 |_=>simp[Ty.isAgg] at ha
theorem aT.yA{α:Type}{r:List Value→α→Prop}(x:α)(k:Nat):∀(n:Nat)(cs:List Value),cs.length=n*k→(∀i,i<n→r ((cs.drop (i*k)).take k) x)→aT r cs (List.replicate n x):=by
 intro n
 induction n with
 |zero=>intro cs hl _;simp at hl;simp[aT,hl]
 |
  succ n ih=>
  intro cs hl h
  rw[List.replicate_succ]
  rw[cM,Nat.one_mul] at hl
  refine⟨cs.take k,cs.drop k,(iI k cs).symm,by have:=h 0 (by omega);simpa using this,ih _ (by simp;omega) ?_⟩
  intro i hi
  have:=h (i+1) (by omega)
  rw[gP]
  rw[cM,Nat.one_mul,Nat.add_comm] at this
  exact this
theorem fA{E:Env}{w:World}:∀{t:Ty}{cs:List Value},kB t cs=true→RC E w t.zero cs∧(t.pure=true→Rel w E.S t cs t.aD):=by
 intro t
 induction t with
 |
  arr n t ih=>
  intro cs h
  simp only[kB,aV,ky,List.mem_range] at h
  obtain⟨⟨h1,h2⟩,h3⟩:=h
  have h1':cs.length=n*t.size:=bQ h1
  have:Rel w E.S (.arr n t) cs (Ty.aD (.arr n t)):=
   ⟨by simp[Ty.aD],aT.yA t.aD t.size n cs h1' (fun i hi=>(ih (h3 i hi)).2 h2)⟩
  exact⟨this,fun _=>this⟩
 |
  pair a b ih1 ih2=>
  intro cs h
  simp only[kB,aV] at h
  obtain⟨⟨_,h1⟩,h2⟩:=h
  have e:=(iI a.size cs).symm
  refine⟨⟨_,_,e,(ih1 h1).1,(ih2 h2).1⟩,fun hp=>?_⟩
  simp only[Ty.pure,aV] at hp
  exact⟨_,_,e,(ih1 h1).2 hp.1,(ih2 h2).2 hp.2⟩
 |unit=>intro cs h;simp[kB] at h;exact⟨h,fun _=>h⟩
 |
  fns n=>
  intro cs h
  simp only[kB,aV,ky] at h
  have hl:=bQ h.1
  have e:cs=(List.replicate n none).map An:=by
   apply List.ext_getElem
   ·simp[hl]
   ·intro i h1 h2
    have:=h.2 _ (ij h1)
    simp only[List.getElem_map,List.getElem_replicate,An]
    revert this
    cases cs[i]<;>simp[EH]
  have:Rel w E.S (.fns n) cs (Ty.aD (.fns n)):=⟨by simp[Ty.aD],e⟩
  exact⟨this,fun _=>this⟩
 |int k=>intro cs h;match cs,h with|[v],h=>exact jr rfl h
 |bool=>intro cs h;match cs,h with|[v],h=>exact jr rfl h
 |str=>intro cs h;match cs,h with|[v],h=>exact jr rfl h
 |slice bs t=>intro cs h;match cs,h with|[v],h=>exact jr rfl h
 |aR k=>intro cs h;match cs,h with|[v],h=>exact jr rfl h
 |map k v=>intro cs h;match cs,h with|[v],h=>exact jr rfl h
theorem Ty.pU(t:Ty):t.zero.bW t=true:=by
 induction t with
 |pair a b ih1 ih2=>simp[Ty.zero,AV.bW,ih1,ih2]
 |aR k=>cases k<;>rfl
 |map _ _=>rfl
 |slice bs t=>rfl
 |unit=>rfl
 |_=>exact Ty.db _
def bR(G:bT):List Field→Nat→Ty→Bool
 |[],_,.unit=>true
 |f::fs,off,.pair a b=>(match G.at f.type with|some td=>Ty.same td.ty a|none=>false)&&Nat.beq f.offset off&&Nat.blt 0 a.size&&bR G fs (off+a.size) b
 |_,_,_=>false
def cj(P:Program)(G:bT)(td:TD):TypeDesc→Bool
 | .bool=>Ty.same td.ty .bool
 | .int k=>Ty.same td.ty (.int k)
 | .string=>Ty.same td.ty .str
 | .slice e=>Ty.same td.ty (.aR .sl)||Nat.beq td.e e&&(match td.ty,G.at e,P.info? e with| .slice bs t,some te,some ie=>Ty.same te.ty t&&Nat.beq ie.bytes bs&&Nat.blt 0 t.size&&Nat.blt 0 bs|_,_,_=>false)
 | .array n e=>(match td.ty,G.at e with| .fns m,some te=>Nat.beq td.e e&&Nat.beq m n&&Ty.same te.ty (.aR .func)|_,_=>false)||Nat.beq td.e e&&(match td.ty,G.at e,P.info? e with| .arr m t,some te,some ie=>Ty.same te.ty t&&Nat.beq m n&&Nat.beq ie.bytes td.e2|_,_,_=>false)
 | .struct fs=>bR G fs.toList 0 td.ty
 | .pointer _=>Ty.same td.ty (.aR .ptr)
 | .map k e=>(Ty.same td.ty (.aR .map)||(match td.ty,G.at k,G.at e with| .map a b,some ta,some tb=>Ty.same ta.ty a&&Ty.same tb.ty b|_,_,_=>false))&&Nat.beq td.e k&&Nat.beq td.e2 e
 | .func _ _ _=>Ty.same td.ty (.aR .func)
 | .interface _=>Ty.same td.ty (.aR .iface)
 |_=>false
def Ty.isMap:Ty→Bool
 | .aR .map| .map _ _=>true
 |_=>false
theorem jc{P:Program}{G:bT}{td:TD}{k e:TypeId}(h:cj P G td (.map k e)=true):td.ty.isMap=true∧td.e=k∧td.e2=e:=by
 simp only[cj,aV,ek] at h
 obtain⟨⟨h,h1⟩,h2⟩:=h
 refine⟨?_,bQ h1,bQ h2⟩
 rcases h with h|h
 ·rw[Ty.aB h];rfl
 ·split at h
  ·rename_i e1 _ _;rw[e1];rfl
  ·cases h
def yB:Value→Bool
 | .agg _=>true
 |_=>false
def dt:TypeDesc→Bool
 | .struct _| .array _ _=>true
 |_=>false
def wI:TypeDesc→Bool
 | .pointer _=>true
 |_=>false
def nO(P:Program)(G:bT)(t:TypeId)(pr:Bool):Option (TypeId×Nat×TypeId)→List FieldStep→Bool
 |
  none,[]=>match P.underlying t with
  |some d=>wI d==pr
  |none=>false
 |
  some (s,i,ft),[x]=> !pr&&x.deref&&Nat.beq x.struct s&&Nat.beq x.index i&&(match P.underlying s,P.underlying ft with
  |
   some (.struct fs),some d=> !wI d&&(match fs[i]? with
   |some f=>Nat.beq f.type ft
   |none=>false)
  |_,_=>false)&&(match G.at s with
  |
   some td=>(match td.ty.sub [.cD i] with
   |some _=>true
   |none=>false)
  |none=>false)
 |_,_=>false
def Nl(P:Program)(G:bT)(t:TypeId)(ii:TypeInfo)(m:MS):Bool:=
 match ii.methods.find? (fun x=>x.name==m.name) with
 |
  some r=>(match r.func with
  |some (f,pr)=>Nat.beq f m.f&&nO P G t pr m.st r.path.toList
  |none=>false)
 |none=>false
def Ke(P:Program)(G:bT)(t:TypeId)(td:TD):Bool:=
 match P.info? t,P.underlying t with
 |some i,some d=>td.ms.all (Nl P G t i)&&(Nat.beq i.size td.ty.size&&(match i.zero with|some z=>kB td.ty z.cells.toList&&(yB z==td.ty.isAgg)|none=>false)&&cj P G td d)
 |_,_=>false
def sT(P:Program)(G:bT):Nat→List (Option TD)→Bool
 |_,[]=>true
 |i,none::l=>sT P G (i+1) l
 |i,some td::l=>Ke P G i td&&sT P G (i+1) l
theorem pW(P:Program)(G:bT):∀(l:List (Option TD))(i:Nat),sT P G i l=true→∀j td,l[j]? =some (some td)→Ke P G (i+j) td=true
 |[],_,_,j,td,h=>by simp at h
 |
  none::l,i,h,j,td,hj=>by
  cases j with
  |zero=>simp at hj
  |succ j=>have:=pW P G l (i+1) h j td (by simpa using hj);rw[show i+(j+1)=i+1+j from by omega];exact this
 |
  some x::l,i,h,j,td,hj=>by
  simp only[sT,aV] at h
  cases j with
  |zero=>simp at hj;subst hj;exact h.1
  |succ j=>have:=pW P G l (i+1) h.2 j td (by simpa using hj);rw[show i+(j+1)=i+1+j from by omega];exact this
structure bB(P:Program)(G:bT):Prop where
 Ke:∀t td,G.at t=some td→Ke P G t td=true
 Lc:P.follows .mixedOrders=true
theorem bB.mk'{P:Program}{G:bT}(h:sT P G 0 G=true)(ho:P.follows .mixedOrders=true):bB P G:=
 ⟨fun t td ht=>by
  have:G[t]? =some (some td):=by
   unfold bT.at at ht
   cases hg:G[t]? with
   |none=>rw[hg] at ht;cases ht
   |some x=>rw[hg] at ht;simp at ht;rw[ht]
  have:=pW P G G 0 h t td this
  simpa using this,ho⟩
section
variable{P:Program} {G:bT} (T:bB P G) {t:TypeId} {td:TD} (h:G.at t=some td)
include T h
theorem bB.info:∃i d,P.info? t=some i∧P.underlying t=some d∧i.size=td.ty.size∧cj P G td d=true∧∃z,i.zero=some z∧kB td.ty z.cells.toList=true∧yB z=td.ty.isAgg:=by
 have:=T.Ke t td h
 unfold Ax.Ke at this
 split at this
 ·rename_i i d hi hd
  simp only[aV] at this
  obtain⟨_,⟨h1,h2⟩,h3⟩:=this
  split at h2
  ·rename_i z hz
   simp only[aV,beq_iff_eq] at h2
   exact⟨i,d,hi,hd,bQ h1,h3,z,hz,h2.1,h2.2⟩
  ·cases h2
 ·cases this
theorem bB.Tf{m:MS}(hm:m∈td.ms):∃i r f pr,P.info? t=some i∧i.methods.find? (fun x=>x.name==m.name)=some r∧r.func=some (f,pr)∧f=m.f∧nO P G t pr m.st r.path.toList=true:=by
 have:=T.Ke t td h
 unfold Ax.Ke at this
 split at this
 ·rename_i i d hi hd
  simp only[aV,ky] at this
  have:=this.1 m hm
  unfold Nl at this
  split at this
  ·rename_i r hr
   split at this
   ·rename_i f pr hf
    simp only[aV] at this
    exact⟨i,r,f,pr,hi,hr,hf,bQ this.1,this.2⟩
   ·cases this
  ·cases this
 ·cases this
theorem bB.size(w:World):(sizeOf t).run P w= .ok td.ty.size w:=by
 obtain⟨i,d,h1,_,h2,_⟩:=T.info h
 simp[sizeOf,typeInfo,h1,h2]
end
theorem dm{P:Program}{G:bT}{td:TD}{d:TypeDesc}(h:cj P G td d=true):dt d=td.ty.isAgg:=by
 cases d<;>simp only[cj] at h<;>try (first|(have:=Ty.aB h;rw[this];rfl)|cases h)
 ·rw[ek] at h
  rcases h with h|h
  ·have:=Ty.aB h;rw[this];rfl
  ·simp only[aV] at h
   obtain⟨_,h⟩:=h
   split at h
   ·rename_i h1 _ _;rw[h1];rfl
   ·cases h
 ·rw[ek] at h
  rcases h with h|h
  ·split at h
   ·rename_i h1 _;rw[h1];rfl
   ·cases h
  ·simp only[aV] at h
   obtain⟨_,h⟩:=h
   split at h
   ·rename_i h1 _ _;rw[h1];rfl
   ·cases h
 ·simp only[aV,ek] at h
  rcases h.1.1 with h|h
  ·have:=Ty.aB h;rw[this];rfl
  ·split at h
   ·rename_i h1 _ _;rw[h1];rfl
   ·cases h
 ·rename_i fs
  show true=_
  revert h
  generalize fs.toList=l
  intro h
  cases l with
  |nil=>cases ht:td.ty<;>rw[ht] at h<;>simp[bR] at h;rfl
  |cons f l=>cases ht:td.ty<;>rw[ht] at h<;>simp[bR] at h;rfl
theorem bB.isAgg{P:Program}{G:bT}(T:bB P G){t:TypeId}{td:TD}(h:G.at t=some td)(w:World):(isAgg t).run P w= .ok td.ty.isAgg w:=by
 obtain⟨i,d,_,h1,_,h2,_⟩:=T.info h
 have:=dm h2
 unfold Go.isAgg
 simp only[Sem.run_bind,underlying,run_program,Result.andThen_ok,h1,Sem.run_pure]
 cases d<;>simp[dt] at this ⊢ <;>exact this
theorem bB.zero{P:Program}{G:bT}(T:bB P G){t:TypeId}{td:TD}(h:G.at t=some td)(w:World):∃z,(zeroValue t).run P w= .ok z w∧kB td.ty z.cells.toList=true∧yB z=td.ty.isAgg:=by
 obtain⟨i,d,h1,_,_,_,z,hz,h3,h4⟩:=T.info h
 exact⟨z,by simp[zeroValue,typeInfo,h1,hz],h3,h4⟩
end Go.Ax
namespace Go.Ax
def oO:Value→AV
 | .bool b=>.val .bool b
 | .int k n=>if decide (k.min≤n)&&decide (n≤k.max) then .val (.int k) n else .bot
 | .string s=>if Nat.ble s.data.toList.length aE then .val .str s.data.toList else .bot
 | .slice none 0 0=>.bA
 | .pointer none=>.gB
 | .map none=>.dT
 | .nilFunc=>.fy
 | .nilIface=>.iu
 |_=>.bot
def pX:List Dt→Nat→AV
 |[],_=>.bot
 |x::l,g=>if Nat.beq x.g g then .bN x.t x.x else pX l g
def bG(gl:Ctx)(tm:List AV):Operand→AV
 | .tmp t=>(tm[t]?).getD .bot
 | .const v=>oO v
 | .global g=>pX gl.gl g
 | .func f=>.func (.func f) .nil .nil
theorem RV.dO{E:Env}{w:World}{x:AV}{v:Value}(h:cF E w x v):RV E w x v:=by
 cases x with
 |bot=>trivial
 |gC l=>rcases h with⟨h,_⟩|⟨_,h⟩<;>simp[AV.isAgg,RC] at h
 |opt c a=>rcases h with⟨h,_⟩|⟨_,h⟩<;>simp[AV.isAgg,RC] at h
 |_=>exact h
def AV.plain:AV→Bool
 | .bot| .gC _| .opt _ _=>false
 |_=>true
theorem RV.js{E:Env}{w:World}{x:AV}{v:Value}(hp:x.plain=true)(h:RV E w x v):cF E w x v:=by
 cases x<;>first|exact h|(simp[AV.plain] at hp)
theorem RV.atom{E:Env}{w:World}{x:AV}{v:Value}(hp:x.atom=true)(h:RV E w x v):RC E w x [v]:=by
 cases x<;>first
  |(simp[AV.atom] at hp;done)
  |(
   rcases h with⟨h1,_⟩|⟨_,h2⟩
   ·simp[AV.isAgg,AV.atom] at h1 hp;(try rw[h1] at hp;simp at hp)
   ·exact h2)
theorem Ap{E:Env}{w:World}(v:Value):RV E w (oO v) v:=by
 unfold oO
 split
 ·exact Or.inr ⟨rfl,rfl⟩
 ·rename_i k n
  split
  ·rename_i h
   simp at h
   exact Or.inr ⟨rfl,rfl,h.1,h.2⟩
  ·trivial
 ·rename_i s
  split
  ·rename_i h
   refine Or.inr ⟨rfl,?_,fc h⟩
   cases s;rfl
  ·trivial
 ·exact Or.inr ⟨rfl,rfl⟩
 ·exact Or.inr ⟨rfl,rfl⟩
 ·exact Or.inr ⟨rfl,rfl⟩
 ·exact Or.inr ⟨rfl,rfl⟩
 ·exact Or.inr ⟨rfl,rfl⟩
 ·trivial
theorem Du{E:Env}{w:World}{gl:List Dt}(h:∀x∈gl,E.S x.g∧∃cs,ot w ⟨x.g,0,none⟩ cs∧Rel w E.S x.t cs x.x)(g:Nat):RV E w (pX gl g) (.pointer (some ⟨g,0,none⟩)):=by
 induction gl with
 |nil=>trivial
 |
  cons x l ih=>
  unfold pX
  split
  ·rename_i hg
   have hg:=bQ hg
   obtain⟨h1,cs,h2,h3⟩:=h x (cK ..)
   subst hg
   exact Or.inr ⟨rfl,x.g,0,cs,rfl,h1,h2,h3⟩
  ·exact ih (fun y hy=>h y (dr _ hy))
theorem fZ{gl:Ctx}{σ:St}{E:Env}{a:Act}{w:World}(h:cd gl σ E a w)(x:Operand):RV E w (bG gl σ.tm x) (a.eval x):=by
 cases x with
 |
  tmp t=>
  simp only[bG,Act.eval]
  cases hx:σ.tm[t]? with
  |none=>trivial
  |
   some y=>
   have hlt:t<a.tmps.size:=by rw[h.len];exact(List.getElem?_eq_some_iff.1 hx).1
   have:=h.tm t y hx a.tmps[t] (by simp[hlt])
   simpa[Array.getD,hlt] using this
 |const v=>exact Ap v
 |global g=>exact Du h.hw.gl.1 g
 |func f=>exact Or.inr ⟨rfl, #[], #[],rfl,rfl,rfl,rfl,rfl⟩
theorem dz(k:IntKind)(n:Int):k.min≤k.wrap n∧k.wrap n≤k.max:=by
 cases k<;>simp only[IntKind.wrap,IntKind.min,IntKind.max,IntKind.bits,IntKind.signed]<;>(simp;(try split))<;>omega
theorem IntKind.range(k:IntKind):k.min≤0∧0≤k.max:=by cases k<;>decide
theorem RV.int{E:Env}{w:World}{k:IntKind}{n:Int}(h:k.min≤n∧n≤k.max):RV E w (.val (.int k) n) (.int k n):=Or.inr ⟨rfl,rfl,h.1,h.2⟩
theorem RV.bool{E:Env}{w:World}{b:Bool}:RV E w (.val .bool b) (.bool b):=Or.inr ⟨rfl,rfl⟩
theorem RV.dh{E:Env}{w:World}{k:IntKind}{n:Int}{v:Value}(h:RV E w (.val (.int k) n) v):v= .int k n∧k.min≤n∧n≤k.max:=by
 rcases h with⟨h,_⟩|⟨_,h,h2⟩
 ·simp[AV.isAgg,Ty.isAgg] at h
 ·simp at h;exact⟨h,h2⟩
theorem RV.dU{E:Env}{w:World}{b:Bool}{v:Value}(h:RV E w (.val .bool b) v):v= .bool b:=by
 rcases h with⟨h,_⟩|⟨_,h⟩
 ·simp[AV.isAgg,Ty.isAgg] at h
 ·simpa[RC,Rel] using h
theorem RV.gu{E:Env}{w:World}{s:List UInt8}{v:Value}(h:RV E w (.val .str s) v):v= .string ⟨s.toArray⟩∧s.length≤aE:=by
 rcases h with⟨h,_⟩|⟨_,h,h2⟩
 ·simp[AV.isAgg,Ty.isAgg] at h
 ·simp at h;exact⟨h,h2⟩
theorem RV.str{E:Env}{w:World}{s:List UInt8}(h:s.length≤aE):RV E w (.val .str s) (.string ⟨s.toArray⟩):=Or.inr ⟨rfl,rfl,h⟩
def fC(op:BinOp)(k:IntKind)(x y:Int):Int:=
 let a:=BitVec.ofInt k.bits x
 let b:=BitVec.ofInt k.bits y
 match op with
 | .and=>k.wrap (a &&& b).toNat
 | .or=>k.wrap (a ||| b).toNat
 | .xor=>k.wrap (a ^^^ b).toNat
 |_=>k.wrap (a &&& ~~~b).toNat
structure VC where
 p:Prop
 d:Decidable p
abbrev vc(p:Prop)[d:Decidable p]:VC:=⟨p,d⟩
def dH:List VC→Prop
 |[]=>True
 |v::l=>v.p∧dH l
def rL:Option TypeDesc→Bool
 |some .bool=>true
 |_=>false
theorem sU{x:Option TypeDesc}(h:rL x=true):x=some .bool:=by
 unfold rL at h
 split at h
 ·rfl
 ·cases h
def sV(op:BinOp)(k:IntKind)(a:Int)(k':IntKind)(b:Int):Option (AV×List VC):=
 match op with
 | .shl=>some (.val (.int k) (k.wrap (a*2^(min b.toNat k.bits))),[vc (0≤b)])
 | .shr=>some (.val (.int k) (a.fdiv (2^(min b.toNat k.bits))),[vc (0≤b)])
 |
  _=>
  if Nat.beq (IntKind.code k) (IntKind.code k') then
   match op with
   | .add=>some (.val (.int k) (k.wrap (a+b)),[])
   | .sub=>some (.val (.int k) (k.wrap (a -b)),[])
   | .mul=>some (.val (.int k) (k.wrap (a*b)),[])
   | .quo=>some (.val (.int k) (k.wrap (a.tdiv b)),[vc (b≠0)])
   | .rem=>some (.val (.int k) (a.tmod b),[vc (b≠0)])
   | .and=>some (.val (.int k) (fC .and k a b),[])
   | .or=>some (.val (.int k) (fC .or k a b),[])
   | .xor=>some (.val (.int k) (fC .xor k a b),[])
   | .andNot=>some (.val (.int k) (fC .andNot k a b),[])
   | .eql=>some (.val .bool (decide (a=b)),[])
   | .neq=>some (.val .bool (!decide (a=b)),[])
   | .lss=>some (.val .bool (decide (a<b)),[])
   | .leq=>some (.val .bool (decide (a≤b)),[])
   | .gtr=>some (.val .bool (decide (b<a)),[])
   | .geq=>some (.val .bool (decide (b≤a)),[])
   |_=>none
  else none
def yC(P:Program)(t:TypeId)(op:BinOp):AV→AV→Option (AV×List VC)
 | .val (.int k) a,.val (.int k') b=>sV op k a k' b
 |
  .val .bool a,.val .bool b=>
  match op with
  | .eql=>some (.val .bool (a==b),[vc (rL (P.underlying t)=true)])
  | .neq=>some (.val .bool (!(a==b)),[vc (rL (P.underlying t)=true)])
  |_=>none
 |
  .val .str a,.val .str b=>
  match op with
  | .add=>some (.val .str (a++b),[vc (a.length+b.length≤aE)])
  | .eql=>some (.val .bool (decide (a=b)),[])
  | .neq=>some (.val .bool (!decide (a=b)),[])
  | .lss=>some (.val .bool (Op.bytesLess a b),[])
  | .leq=>some (.val .bool (Op.bytesLess a b||decide (a=b)),[])
  | .gtr=>some (.val .bool (!(Op.bytesLess a b||decide (a=b))),[])
  | .geq=>some (.val .bool (!Op.bytesLess a b),[])
  |_=>none
 |_,_=>none
theorem gv{a b:Int}(ha:0≤a)(hb:0≤b):a % b≤a:=by
 rcases Int.lt_or_eq_of_le hb with h|h
 ·have:=Int.emod_add_mul_ediv a b
  have h1:0≤a / b:=Int.ediv_nonneg ha hb
  have h2:0≤b*(a / b):=Int.mul_nonneg hb h1
  omega
 ·subst h;simp
theorem Aq(k:IntKind)(a b:Int)(ha:k.min≤a∧a≤k.max):k.min≤a.tmod b∧a.tmod b≤k.max:=by
 have hr:=IntKind.range k
 rcases Int.le_total 0 a with h|h
 ·have h1:=Int.tmod_nonneg b h
  have h2:a.tmod b≤a:=by
   rcases Int.le_total 0 b with hb|hb
   ·rw[Int.tmod_eq_emod_of_nonneg h];exact gv h hb
   ·have:a.tmod b=a.tmod (-b):=by rw[Int.tmod_neg]
    rw[this,Int.tmod_eq_emod_of_nonneg h];exact gv h (by omega)
  omega
 ·have h1:(-a).tmod b= -(a.tmod b):=Int.neg_tmod ..
  have h2:0≤-a:=by omega
  have h3:=Int.tmod_nonneg b h2
  have h4:(-a).tmod b≤-a:=by
   rcases Int.le_total 0 b with hb|hb
   ·rw[Int.tmod_eq_emod_of_nonneg h2];exact gv h2 hb
   ·have:(-a).tmod b=(-a).tmod (-b):=by rw[Int.tmod_neg]
    rw[this,Int.tmod_eq_emod_of_nonneg h2];exact gv h2 (by omega)
  omega
theorem Ar(k:IntKind)(a:Int)(n:Nat)(ha:k.min≤a∧a≤k.max):k.min≤a.fdiv (2^n)∧a.fdiv (2^n)≤k.max:=by
 have hr:=IntKind.range k
 have hp:(1:Int)≤2^n:=by
  have:=Int.pow_pos (n:=2) (m:=n) (by omega)
  omega
 rw[Int.fdiv_eq_ediv_of_nonneg _ (by omega)]
 rcases Int.le_total 0 a with h|h
 ·have h1:0≤a / 2^n:=Int.ediv_nonneg h (by omega)
  have h2:a / 2^n≤a:=Int.ediv_le_self _ h
  omega
 ·have h1:a / 2^n≤0:=by
   have:=Int.ediv_le_ediv (c:=2^n) (by omega) h
   simpa using this
  have h2:a≤a / 2^n:=by
   rw[Int.le_ediv_iff_mul_le (by omega)]
   have:=Int.mul_le_mul_of_nonpos_left h hp
   omega
  omega
theorem yD{P:Program}{E:Env}{w:World}{op:BinOp}{t:TypeId}{k k':IntKind}{a b:Int}{r:AV}{vc:List VC}(ha:k.min≤a∧a≤k.max)(h:sV op k a k' b=some (r,vc))(hvc:dH vc):
 ∃v,(binOp op t (.int k a) (.int k' b)).run P w= .ok v w∧RV E w r v:=by
 unfold sV at h
 split at h
 ·cases h
  exact⟨_,by simp[binOp,Op.shift,show¬b<0 from by have:=hvc.1;omega],RV.int (dz k _)⟩
 ·cases h
  exact⟨_,by simp[binOp,Op.shift,show¬b<0 from by have:=hvc.1;omega],RV.int (Ar k _ _ ha)⟩
 ·rename_i h1 h2
  split at h
  ·rename_i hk
   have:=IntKind.iO (bQ hk)
   subst this
   split at h<;>cases h
   ·exact⟨_,by simp[binOp,Op.intArith],RV.int (dz k _)⟩
   ·exact⟨_,by simp[binOp,Op.intArith],RV.int (dz k _)⟩
   ·exact⟨_,by simp[binOp,Op.intArith],RV.int (dz k _)⟩
   ·exact⟨_,by simp[binOp,Op.intDiv,show b≠0 from hvc.1],RV.int (dz k _)⟩
   ·exact⟨_,by simp[binOp,Op.intDiv,show b≠0 from hvc.1],RV.int (Aq k _ _ ha)⟩
   ·exact⟨.int k (fC .and k a b),by simp[binOp,Op.intBits,fC],RV.int (dz k _)⟩
   ·exact⟨.int k (fC .or k a b),by simp[binOp,Op.intBits,fC],RV.int (dz k _)⟩
   ·exact⟨.int k (fC .xor k a b),by simp[binOp,Op.intBits,fC],RV.int (dz k _)⟩
   ·exact⟨.int k (fC .andNot k a b),by simp[binOp,Op.intBits,fC],RV.int (dz k _)⟩
   ·exact⟨_,by simp[binOp,Op.intCmp];rfl,RV.bool⟩
   ·exact⟨_,by simp[binOp,Op.intCmp];rfl,RV.bool⟩
   ·exact⟨_,by simp[binOp,Op.intCmp],RV.bool⟩
   ·exact⟨_,by simp[binOp,Op.intCmp],RV.bool⟩
   ·exact⟨_,by simp[binOp,Op.intCmp],RV.bool⟩
   ·exact⟨_,by simp[binOp,Op.intCmp],RV.bool⟩
  ·cases h
theorem EI{P:Program}{E:Env}{w:World}{op:BinOp}{t:TypeId}{x y:AV}{vx vy:Value}{r:AV}{vc:List VC}(hx:RV E w x vx)(hy:RV E w y vy)(h:yC P t op x y=some (r,vc))(hvc:dH vc):
 ∃v,(binOp op t vx vy).run P w= .ok v w∧RV E w r v:=by
 unfold yC at h
 split at h
 ·obtain⟨rfl,h1⟩:=RV.dh hx
  obtain⟨rfl,h2⟩:=RV.dh hy
  exact yD h1 h hvc
 ·have:=RV.dU hx;subst this
  have:=RV.dU hy;subst this
  split at h
  ·cases h
   have hb:=hvc.1
   exact⟨_,by simp[binOp,run_equal_bool w t _ _ (sU hb)],RV.bool⟩
  ·cases h
   have hb:=hvc.1
   exact⟨_,by simp[binOp,run_equal_bool w t _ _ (sU hb)],RV.bool⟩
  ·cases h
 ·obtain⟨rfl,h1⟩:=RV.gu hx
  obtain⟨rfl,h2⟩:=RV.gu hy
  have beq:∀(a b:List UInt8),(a==b)=decide (a=b):=fun a b=>by
   by_cases h:a=b
   ·subst h;simp
   ·simp[h]
  split at h<;>cases h
  ·rename_i a b _
   have hb:List.length a+List.length b≤aE:=hvc.1
   refine⟨.string ⟨(List.append a b).toArray⟩,?_,RV.str (by show(List.append a b).length≤aE;rw[List.append_eq,cN];exact hb)⟩
   have sz:∀l:List UInt8,(ByteArray.mk l.toArray).size=l.length:=fun l=>by show l.toArray.size=_;simp
   have hmax:IntKind.i64.max=9223372036854775807:=by decide
   have hn:¬(((ByteArray.size ⟨List.toArray a⟩+ByteArray.size ⟨List.toArray b⟩:Nat):Int)>IntKind.i64.max):=by
    rw[sz,sz,hmax];unfold aE at hb;omega
   have happ:(⟨List.toArray a⟩:ByteArray)++⟨List.toArray b⟩=⟨(List.append a b).toArray⟩:=by
    apply ByteArray.ext
    simp
   simp only[binOp,Op.stringOp,aC hn,Sem.run_pure,happ]
  all_goals(refine⟨_,?_,RV.bool⟩;simp[binOp,Op.stringOp,beq])
 ·cases h
end Go.Ax
namespace Go.Ax
def iP:aN→Ty
 | .var t _=>t
 | .row _ _ t xs=>.arr xs.length t
 | .bZ _ _ t xs i _=>jZ i xs.length t
 | .cL _ _ t xs _ f=>nv xs.length t f
 |_=>.unit
def aN.mem:aN→Bool
 | .var _ _| .row _ _ _ _| .bZ _ _ _ _ _ _| .cL _ _ _ _ _ _=>true
 |_=>false
def kC:aN→Path→Option AV
 | .var _ v,p=>v.get p
 | .row _ _ t xs,.idx i::p=>dZ (.arr xs.length t) xs (.idx i::p)
 | .bZ _ _ _ _ _ v,.cD 1::p=>v.get p
 | .cL _ _ _ _ _ (some (_,v)),.cD 1::p=>v.get p
 |_,_=>none
theorem RB.bt{E:Env}{w:World}{b:Nat}{k:aN}(h:RB E w b k)(hm:k.mem=true):E.bt b=iP k:=by
 cases k with
 |var t v=>exact h.1
 |row e bs t xs=>exact h.1
 |bZ e bs t xs i v=>exact h.1
 |cL e bs t xs e2 f=>exact h.1
 |_=>cases hm
theorem ot.of_heap{w:World}{g:Nat}{c:Array Value}{e:TypeId}{fr:Nat×Nat}(h:w.heap[g]? =some (.cells c e fr))(o n:Nat):ot w ⟨g,o,none⟩ ((c.toList.drop o).take n):=by
 intro j v hj
 have e1:((⟨g,o,none⟩:Addr).add j)=⟨g,o+j,none⟩:=by unfold Addr.add;split<;>simp_all
 rw[e1]
 simp only[World.cell?,h]
 rw[oN] at hj
 split at hj
 ·rw[List.getElem?_drop] at hj
  simpa using hj
 ·cases hj
theorem ot.sub{w:World}{g o:Nat}{cs:List Value}(h:ot w ⟨g,o,none⟩ cs)(k n:Nat):ot w ⟨g,o+k,none⟩ ((cs.drop k).take n):=by
 intro j v hj
 have e1:∀o,((⟨g,o,none⟩:Addr).add j)=⟨g,o+j,none⟩:=by intro o;unfold Addr.add;split<;>simp_all
 have e2:((⟨g,o,none⟩:Addr).add (k+j))=⟨g,o+(k+j),none⟩:=by unfold Addr.add;split<;>simp_all
 rw[e1]
 rw[oN] at hj
 split at hj
 ·rw[List.getElem?_drop] at hj
  have:=h (k+j) v hj
  rw[e2] at this
  rw[Nat.add_assoc];exact this
 ·cases hj
theorem oP{E:Env}{w:World}{b:Nat}{k:aN}{p:Path}{u:AV}(h:RB E w b k)(hv:(E.bt b).valid p)(hr:kC k p=some u):
 ∃g s cs,E.g b=some g∧(E.bt b).sub p=some s∧u.bW s=true∧ot w ⟨g,(E.bt b).off p,none⟩ cs∧RC E w u cs:=by
 cases k with
 |
  var t v=>
  obtain⟨h1,h2,g,c,e,h3,h4,h5⟩:=h
  rw[h1] at hv ⊢
  obtain⟨s,e1,e2,e3,e4⟩:=AV.eV h5 h2 hv hr
  exact⟨g,s,_,h3,e1,e2,ot.of_heap h4 _ _,e4⟩
 |
  row e bs t xs=>
  obtain⟨h1,h2,h3,h4,a,cap,h5,h6,h7⟩:=h
  rw[h1] at hv ⊢
  cases p with
  |nil=>simp[kC] at hr
  |
   cons s p=>
   cases s with
   |cD k=>simp[kC] at hr
   |
    idx i=>
    have hi:i<xs.length:=hv.1
    rcases h7 with⟨_,_,h9⟩|⟨g,c,h7,h8,h9,h10,h11,h12⟩
    ·subst h9;simp at hi
    ·have hR:Rel w E.S (.arr xs.length t) (c.toList.take (xs.length*t.size)) xs:=⟨rfl,h12⟩
     obtain⟨s,e1,e2,e3,e4⟩:=pT hR hv hr
     refine⟨g,s,_,h7,e1,e2,?_,e4⟩
     have hlen:xs.length*t.size≤c.toList.length:=by
      rw[show c.toList.length=c.size from fR,h10];exact fv _ h11
     simp only[fe] at e3
     rw[lF,kz,iN (by omega)]
     exact ot.of_heap h9 _ _
 |
  bZ e bs t xs i v=>
  obtain⟨h1,h2,h3,h4,h5,h6,g,cap,c,q1,q2,q3,q4,q5,q6,q7,q8,q9⟩:=h
  rw[h1] at hv ⊢
  unfold kC at hr
  split at hr
  ·rename_i hk;cases hk
  ·rename_i hk;cases hk
  ·rename_i p hk
   cases hk
   have hv':t.valid p:=hv
   obtain⟨s,e1,e2,e3,e4⟩:=AV.eV q8 h6 hv' hr
   refine⟨g,s,_,q3,e1,e2,?_,e4⟩
   rw[fe,jY] at e3
   rw[lF,kz,iN (by omega),gP]
   have:=ot.of_heap q4 (i*t.size+t.off p) s.size
   exact this
  ·rename_i hk;cases hk
  ·cases hr
 |
  cL e bs t xs e2 f=>
  obtain⟨h1,h2,h3,h4,h5,g,cap,c,og,q1,q2,q3,q4,q5,q6,q7,q8⟩:=h
  unfold kC at hr
  split at hr
  ·rename_i hk;cases hk
  ·rename_i hk;cases hk
  ·rename_i hk;cases hk
  ·rename_i _ _ _ _ _ i v p hk
   cases hk
   obtain⟨hi,hconf⟩:=h5 i v rfl
   obtain⟨u',r1,r2,_⟩:=q8 i (xs.getD i t.aD) (by rw[jB,il hi];rfl)
   obtain⟨_,r2⟩:=r2 v rfl
   rw[h1] at hv ⊢
   have hv':t.valid p:=hv
   obtain⟨s,e1,e2,e3,e4⟩:=AV.eV r2 hconf hv' hr
   have hmid:(c.toList.drop (i*t.size)).take t.size= [u']:=by
    rw[h2,Nat.mul_one]
    have hc:c.toList[i]? =some u':=by simpa using r1
    obtain⟨hlt,hc⟩:=List.getElem?_eq_some_iff.1 hc
    rw[jz hlt,hc];rfl
   rw[←hmid] at e3 e4
   refine⟨g,s,_,q3,e1,e2,?_,e4⟩
   rw[fe,jY] at e3
   rw[lF,kz,iN (by omega),gP]
   have:=ot.of_heap q4 (i*t.size+t.off p) s.size
   have ho:(nv xs.length t (some (i,v))).off (.cD 1::p)=i*t.size+t.off p:=by simp[nv,jZ,Ty.off,Ty.size]
   rw[ho]
   exact this
  ·cases hr
 |_=>simp[kC] at hr
theorem kD{P:Program}{G:bT}(T:bB P G){t:TypeId}{td:TD}(ht:G.at t=some td){E:Env}{w:World}{a:Addr}{cs:List Value}{u:AV}(hr:ot w a cs)(hc:RC E w u cs)(hu:u.bW td.ty=true):
 ∃v,(Instr.loadAt t (.pointer (some a))).run P w= .ok v w∧RV E w u v:=by
 have hl:=RC.len hc
 have hs:=AV.dR hu
 have ha:=AV.iv hu
 have hcells:=run_loadCells_list (P:=P) w a cs hr
 by_cases abJ:td.ty.isAgg=true
 ·refine⟨.agg cs.toArray,?_,RV.dO (Or.inl ⟨by rw[ha];exact abJ,cs.toArray,rfl,by simpa using hc⟩)⟩
  have:cs.length=td.ty.size:=by omega
  simp[Instr.loadAt,Instr.sureAddr,loadVar,T.isAgg ht,T.size ht,abJ,←this,hcells]
 ·have hagg':td.ty.isAgg=false:=by simpa using abJ
  have h1:td.ty.size=1:=by cases h:td.ty<;>rw[h] at hagg'<;>simp[Ty.isAgg] at hagg'<;>rfl
  obtain⟨v,rfl⟩:∃v,cs= [v]:=by
   match cs,hl with
   |[v],_=>exact⟨v,rfl⟩
   |[],hl=>simp at hl;omega
   |_::_::_,hl=>simp at hl;omega
  have h0:w.cell? a=some v:=by
   have:=hr 0 v rfl
   simpa[Addr.add] using this
  exact⟨v,by simp[Instr.loadAt,Instr.sureAddr,loadVar,T.isAgg ht,hagg',h0],RV.dO (Or.inr ⟨by rw[ha];exact hagg',hc⟩)⟩
def sW(G:bT)(hb:Nat→Option aN)(t:TypeId):AV→Option AV
 |
  .ptr b p=>match G.at t,hb b with
  |
   some td,some k=>match kC k p with
   |some u=>if u.bW td.ty then some u else none
   |none=>none
  |_,_=>none
 |
  .bN u x=>match G.at t with
  |some td=>if Ty.same u td.ty then some (.val u x) else none
  |none=>none
 |_=>none
def HB(hb:Nat→Option aN)(hp:List (Option aN)):Prop:=∀b k,hb b=some k→hp[b]? =some (some k)
theorem pY{P:Program}{G:bT}(T:bB P G){gl:Ctx}{E:Env}{w:World}{hp:List (Option aN)}(hw:HW gl E w hp){hb:Nat→Option aN}(hB:HB hb hp){t:TypeId}{x u:AV}{vx:Value}(hx:RV E w x vx)(h:sW G hb t x=some u):
 ∃v,(Instr.loadAt t vx).run P w= .ok v w∧RV E w u v:=by
 unfold sW at h
 split at h
 ·rename_i b p
  split at h
  ·rename_i td k ht hk
   split at h
   ·rename_i y hy
    split at h
    ·rename_i hc
     cases h
     have hx:=RV.atom rfl hx
     obtain⟨g,hg,e,hv⟩:=hx
     simp at e;subst e
     obtain⟨g',s,cs,h1,h2,h3,h4,h5⟩:=oP (hw.cH b k (hB b k hk)) hv hy
     rw[hg] at h1;cases h1
     exact kD T ht h4 h5 hc
    ·cases h
   ·cases h
  ·cases h
 ·rename_i ty x
  split at h
  ·rename_i td ht
   split at h
   ·rename_i hc
    cases h
    have hx:=RV.atom rfl hx
    obtain⟨b,o,cs,e,h1,h2,h3⟩:=hx
    simp at e;subst e
    exact kD T ht h2 (u:=.val ty x) h3 hc
   ·cases h
  ·cases h
 ·cases h
theorem Ty.kY:∀{t s:Ty}{p q:Path},t.sub p=some s→t.sub (p++q)=s.sub q∧t.off (p++q)=t.off p+s.off q∧(t.valid p→s.valid q→t.valid (p++q)):=by
 intro t
 have base:∀{t s:Ty}{q:Path},t.sub []=some s→t.sub ([]++q)=s.sub q∧t.off ([]++q)=t.off []+s.off q∧(t.valid []→s.valid q→t.valid ([]++q)):=by
  intro t s q h
  have:t=s:=by cases t<;>simpa[Ty.sub] using h
  subst this
  exact⟨rfl,by cases t<;>simp[Ty.off],fun _ h=>h⟩
 induction t with
 |
  pair a b ih1 ih2=>
  intro s p q h
  cases p with
  |nil=>exact base h
  |
   cons x p=>
   cases x with
   |
    cD k=>
    cases k with
    |
     zero=>
     obtain⟨h1,h2,h3⟩:=ih1 (q:=q) h
     exact⟨h1,h2,h3⟩
    |
     succ k=>
     obtain⟨h1,h2,h3⟩:=ih2 (q:=q) (p:=.cD k::p) h
     refine⟨h1,?_,h3⟩
     simp only[List.cons_append,Ty.off] at h2 ⊢
     rw[h2];omega
   |idx i=>simp[Ty.sub] at h
 |
  arr n t ih=>
  intro s p q h
  cases p with
  |nil=>exact base h
  |
   cons x p=>
   cases x with
   |cD k=>simp[Ty.sub] at h
   |
    idx i=>
    obtain⟨h1,h2,h3⟩:=ih (q:=q) h
    refine⟨h1,?_,fun⟨hi,hv⟩ hq=>⟨hi,h3 hv hq⟩⟩
    simp only[List.cons_append,Ty.off]
    rw[h2];omega
 |
  fns n=>
  intro s p q h
  cases p with
  |nil=>exact base h
  |
   cons x p=>
   cases x with
   |cD k=>simp[Ty.sub] at h
   |
    idx i=>
    cases p with
    |cons _ _=>simp[Ty.sub] at h
    |
     nil=>
     cases h
     cases q with
     |nil=>exact⟨rfl,rfl,fun h _=>h⟩
     |cons y q=>exact⟨by simp[Ty.sub],by simp[Ty.off],fun _ h=>by cases h⟩
 |
  _=>
  intro s p q h
  cases p with
  |nil=>exact base h
  |cons x p=>simp[Ty.sub] at h
theorem kZ{G:bT}:∀{fs:List Field}{o:Nat}{t:Ty}{i:Nat}{s:Ty},bR G fs o t=true→t.sub [.cD i]=some s→
 ∃f td,fs[i]? =some f∧G.at f.type=some td∧td.ty=s∧f.offset=o+t.off [.cD i]∧0<s.size∧t.valid [.cD i]
 |
  [],o,t,i,s,h,hs=>by
  cases t<;>simp[bR] at h
  simp[Ty.sub] at hs
 |
  f::fs,o,t,i,s,h,hs=>by
  cases t with
  |
   pair a b=>
   simp only[bR,aV] at h
   obtain⟨⟨⟨h1,h2⟩,h3⟩,h4⟩:=h
   cases i with
   |
    zero=>
    split at h1
    ·rename_i td htd
     have:a=s:=by
      simp only[Ty.sub] at hs
      cases hs;rfl
     subst this
     have ho:a.off []=0:=by cases a<;>rfl
     refine⟨f,td,rfl,htd,Ty.aB h1,?_,by simp[Nat.blt] at h3;omega,?_⟩
     ·simp only[Ty.off,ho];exact bQ h2
     ·simp only[Ty.valid]
    ·cases h1
   |
    succ i=>
    obtain⟨f',td,e1,e2,e3,e4,e5,e6⟩:=kZ h4 (i:=i) hs
    refine⟨f',td,by simpa using e1,e2,e3,?_,e5,e6⟩
    simp only[Ty.off];omega
  |_=>simp[bR] at h
theorem bB.struct{P:Program}{G:bT}(T:bB P G){t:TypeId}{td:TD}(h:G.at t=some td){i:Nat}{s:Ty}(hs:td.ty.sub [.cD i]=some s):
 ∃fs f tf,P.underlying t=some (.struct fs)∧fs[i]? =some f∧G.at f.type=some tf∧tf.ty=s∧f.offset=td.ty.off [.cD i]∧0<s.size∧td.ty.valid [.cD i]:=by
 obtain⟨ii,d,_,h1,_,h2,_⟩:=T.info h
 have abJ:=dm h2
 cases hd:d with
 |
  struct fs=>
  subst hd
  obtain⟨f,tf,e1,e2,e3,e4,e5,e6⟩:=kZ (fs:=fs.toList) (o:=0) h2 hs
  exact⟨fs,f,tf,h1,by simpa using e1,e2,e3,by omega,e5,e6⟩
 |
  array n e=>
  subst hd
  simp only[cj] at h2
  rw[ek] at h2
  rcases h2 with h2|h2
  ·split at h2
   ·rename_i e1 _;rw[e1] at hs;simp[Ty.sub] at hs
   ·cases h2
  simp only[aV] at h2
  obtain⟨_,h2⟩:=h2
  split at h2
  ·rename_i e1 _ _;rw[e1] at hs;simp[Ty.sub] at hs
  ·cases h2
 |
  _=>
  subst hd
  simp only[dt] at abJ
  cases ht:td.ty<;>rw[ht] at abJ hs<;>simp[Ty.isAgg] at abJ<;>simp[Ty.sub] at hs
theorem qH{P:Program}{G:bT}(T:bB P G){t:TypeId}{td:TD}(h:G.at t=some td){i:Nat}{s:Ty}(hs:td.ty.sub [.cD i]=some s)(w:World)(g o:Nat):
 (Instr.fieldAt t (.pointer (some ⟨g,o,none⟩)) i).run P w= .ok (.pointer (some ⟨g,o+td.ty.off [.cD i],none⟩)) w:=by
 obtain⟨fs,f,tf,h1,h2,h3,h4,h5,h6,_⟩:=T.struct h hs
 have hsz:=T.size h3 w
 rw[h4] at hsz
 have hne:¬s.size=0:=by omega
 have ha:((⟨g,o,none⟩:Addr).add f.offset)=⟨g,o+td.ty.off [.cD i],none⟩:=by
  rw[h5];unfold Addr.add;split<;>simp_all
 simp[Instr.fieldAt,underlying,h1,h2,Instr.sureAddr,fieldPlace,hsz,hne,ha]
def gH(G:bT)(hb:Nat→Option aN)(t:TypeId)(i:Nat):AV→Option AV
 |
  .ptr b p=>match G.at t,hb b with
  |
   some td,some k=>match(iP k).sub p,td.ty.sub [.cD i] with
   |some u,some _=>if Ty.same u td.ty then some (.ptr b (p++[.cD i])) else none
   |_,_=>none
  |_,_=>none
 |
  .bN u x=>match G.at t with
  |
   some td=>match td.ty.sub [.cD i],dZ u x [.cD i] with
   |some _,some (.val v y)=>if Ty.same u td.ty then some (.bN v y) else none
   |_,_=>none
  |none=>none
 |_=>none
theorem mP{k:aN}{p:Path}{q:PS}{u:Ty}{s:Ty}(h:(iP k).sub p=some u)(hs:u.sub [q]=some s):k.mem=true:=by
 cases k with
 |var t v=>rfl
 |row e bs t xs=>rfl
 |bZ e bs t xs i v=>rfl
 |cL e bs t xs e2 f=>rfl
 |
  _=>cases p with
  |nil=>simp[iP,Ty.sub] at h;subst h;simp[Ty.sub] at hs
  |cons a p=>simp[iP,Ty.sub] at h
theorem mc{P:Program}{G:bT}(T:bB P G){gl:Ctx}{E:Env}{w:World}{hp:List (Option aN)}(hw:HW gl E w hp){hb:Nat→Option aN}(hB:HB hb hp){t:TypeId}{i:Nat}{x u:AV}{vx:Value}(hx:RV E w x vx)(h:gH G hb t i x=some u):
 ∃v,(Instr.fieldAt t vx i).run P w= .ok v w∧RV E w u v:=by
 unfold gH at h
 split at h
 ·rename_i b p
  split at h
  ·rename_i td k ht hk
   split at h
   ·rename_i u' s hu hs
    split at h
    ·rename_i hsame
     cases h
     have:=Ty.aB hsame;subst this
     obtain⟨g,hg,e,hv⟩:=RV.atom rfl hx
     simp at e;subst e
     have hbt:=RB.bt (hw.cH b k (hB b k hk)) (mP hu hs)
     rw[←hbt] at hu
     obtain⟨_,h2,h3⟩:=Ty.kY (q:=[.cD i]) hu
     obtain⟨_,_,_,_,_,_,_,_,_,hval⟩:=T.struct ht hs
     exact⟨_,qH T ht hs w g _,RV.dO (Or.inr ⟨rfl,g,hg,by rw[h2],h3 hv hval⟩)⟩
    ·cases h
   ·cases h
  ·cases h
 ·rename_i ty y
  split at h
  ·rename_i td ht
   split at h
   ·rename_i s v' y' hs hg
    split at h
    ·rename_i hsame
     cases h
     have:=Ty.aB hsame;subst this
     obtain⟨b,o,cs,e,h1,h2,h3⟩:=RV.atom rfl hx
     simp at e;subst e
     obtain⟨_,_,_,_,_,_,_,_,_,hval⟩:=T.struct ht hs
     obtain⟨s',e1,e2,e3,e4⟩:=pT (E:=E) h3 hval hg
     exact⟨_,qH T ht hs w b o,RV.dO (Or.inr ⟨rfl,b,_,_,rfl,h1,h2.sub _ _,e4⟩)⟩
    ·cases h
   ·cases h
  ·cases h
 ·cases h
end Go.Ax
namespace Go.Ax
theorem bB.cP{P:Program}{G:bT}(T:bB P G){t:TypeId}{td:TD}(h:G.at t=some td){bs:Nat}{u:Ty}(hs:td.ty= .slice bs u):
 ∃te ie,P.underlying t=some (.slice td.e)∧G.at td.e=some te∧te.ty=u∧P.info? td.e=some ie∧ie.bytes=bs∧0<u.size∧0<bs:=by
 obtain⟨ii,d,_,h1,_,h2,_⟩:=T.info h
 have abJ:=dm h2
 cases hd:d with
 |
  slice e=>
  subst hd
  simp only[cj] at h2
  rw[ek] at h2
  rcases h2 with h2|h2
  ·have:=Ty.aB h2;rw[hs] at this;cases this
  simp only[aV] at h2
  obtain⟨h3,h2⟩:=h2
  have h3:=bQ h3
  subst h3
  split at h2
  ·rename_i bs' u' te ie e1 e2 e3
   rw[hs] at e1;cases e1
   simp only[aV] at h2
   obtain⟨⟨⟨h4,h5⟩,h6⟩,h7⟩:=h2
   exact⟨te,ie,h1,e2,Ty.aB h4,e3,bQ h5,by simp[Nat.blt] at h6;omega,by simp[Nat.blt] at h7;omega⟩
  ·cases h2
 |
  struct fs=>
  subst hd
  simp only[dt] at abJ
  rw[hs] at abJ;cases abJ
 |
  array n e=>
  subst hd
  simp only[dt] at abJ
  rw[hs] at abJ;cases abJ
 |
  map k e=>
  subst hd
  have:=(jc h2).1;rw[hs] at this;cases this
 |
  _=>
  subst hd
  simp only[cj] at h2
  first
   |(have:=Ty.aB h2;rw[hs] at this;cases this)
   |cases h2
theorem bB.oQ{P:Program}{G:bT}(T:bB P G){t:TypeId}{td:TD}(h:G.at t=some td){n:Nat}{u:Ty}(hs:td.ty= .arr n u):
 ∃te,P.underlying t=some (.array n td.e)∧G.at td.e=some te∧te.ty=u:=by
 obtain⟨ii,d,_,h1,_,h2,_⟩:=T.info h
 have abJ:=dm h2
 cases hd:d with
 |
  array m e=>
  subst hd
  simp only[cj] at h2
  rw[ek] at h2
  rcases h2 with h2|h2
  ·split at h2
   ·rename_i e1 _;rw[hs] at e1;cases e1
   ·cases h2
  simp only[aV] at h2
  obtain⟨h3,h2⟩:=h2
  have h3:=bQ h3
  subst h3
  split at h2
  ·rename_i m' u' te ie e1 e2 e3
   rw[hs] at e1;cases e1
   simp only[aV] at h2
   have:=bQ h2.1.2
   subst this
   exact⟨te,h1,e2,Ty.aB h2.1.1⟩
  ·cases h2
 |
  struct fs=>
  subst hd
  simp only[cj] at h2
  rw[hs] at h2
  revert h2
  generalize fs.toList=l
  intro h2
  cases l<;>simp[bR] at h2
 |
  _=>
  subst hd
  simp only[dt] at abJ
  rw[hs] at abJ;cases abJ
theorem eB{P:Program}{G:bT}(T:bB P G){t:TypeId}{td:TD}(h:G.at t=some td){bs:Nat}{u:Ty}(hs:td.ty= .slice bs u)(w:World)(g o len cap:Nat)(k:IntKind)(i:Int)(hi:0≤i∧i<len):
 (Instr.indexAt t (.slice (some ⟨g,o,none⟩) len cap) (.int k i)).run P w= .ok (.pointer (some ⟨g,o+i.toNat*u.size,none⟩)) w:=by
 obtain⟨te,ie,h1,h2,h3,_⟩:=T.cP h hs
 have hsz:=T.size h2 w
 rw[h3] at hsz
 have ha:((⟨g,o,none⟩:Addr).add (i.toNat*u.size))=⟨g,o+i.toNat*u.size,none⟩:=by
  unfold Addr.add;split<;>simp_all
 simp[Instr.indexAt,underlying,h1,asIntOf,hi,hsz,ha]
theorem me{P:Program}{G:bT}(T:bB P G){t:TypeId}{td:TD}(h:G.at t=some td){n:Nat}{u:Ty}(hs:td.ty= .arr n u)(w:World)(g o:Nat)(k:IntKind)(i:Int)(hi:0≤i∧i<n):
 (Instr.indexAt t (.pointer (some ⟨g,o,none⟩)) (.int k i)).run P w= .ok (.pointer (some ⟨g,o+i.toNat*u.size,none⟩)) w:=by
 obtain⟨te,h1,h2,h3⟩:=T.oQ h hs
 have hsz:=T.size h2 w
 rw[h3] at hsz
 have ha:((⟨g,o,none⟩:Addr).add (i.toNat*u.size))=⟨g,o+i.toNat*u.size,none⟩:=by
  unfold Addr.add;split<;>simp_all
 simp[Instr.indexAt,underlying,h1,asIntOf,hi,hsz,ha,Instr.sureAddr]
theorem bB.EJ{P:Program}{G:bT}(T:bB P G){t:TypeId}{td:TD}(h:G.at t=some td){n:Nat}(hs:td.ty= .fns n):
 ∃te,P.underlying t=some (.array n td.e)∧G.at td.e=some te∧te.ty= .aR .func:=by
 obtain⟨ii,d,_,h1,_,h2,_⟩:=T.info h
 have abJ:=dm h2
 cases hd:d with
 |
  array m e=>
  subst hd
  simp only[cj] at h2
  rw[ek] at h2
  rcases h2 with h2|h2
  ·split at h2
   ·rename_i m' te e1 e2
    rw[hs] at e1;cases e1
    simp only[aV] at h2
    obtain⟨⟨h3,h4⟩,h5⟩:=h2
    have h3:=bQ h3
    have h4:=bQ h4
    subst h3;subst h4
    exact⟨te,h1,e2,Ty.aB h5⟩
   ·cases h2
  ·simp only[aV] at h2
   obtain⟨_,h2⟩:=h2
   split at h2
   ·rename_i e1 _ _;rw[hs] at e1;cases e1
   ·cases h2
 |
  struct fs=>
  subst hd
  simp only[cj] at h2
  rw[hs] at h2
  revert h2
  generalize fs.toList=l
  intro h2
  cases l<;>simp[bR] at h2
 |
  _=>
  subst hd
  simp only[dt] at abJ
  rw[hs] at abJ;cases abJ
theorem sX{P:Program}{G:bT}(T:bB P G){t:TypeId}{td:TD}(h:G.at t=some td){n:Nat}(hs:td.ty= .fns n)(w:World)(g o:Nat)(k:IntKind)(i:Int)(hi:0≤i∧i<n):
 (Instr.indexAt t (.pointer (some ⟨g,o,none⟩)) (.int k i)).run P w= .ok (.pointer (some ⟨g,o+i.toNat,none⟩)) w:=by
 obtain⟨te,h1,h2,h3⟩:=T.EJ h hs
 have hsz:=T.size h2 w
 rw[h3] at hsz
 have ha:((⟨g,o,none⟩:Addr).add (i.toNat))=⟨g,o+i.toNat,none⟩:=by
  unfold Addr.add;split<;>simp_all
 simp[Instr.indexAt,underlying,h1,asIntOf,hi,hsz,ha,Instr.sureAddr,Ty.size]
def jd(G:bT)(hb:Nat→Option aN)(t:TypeId)(x:AV)(i:Int):Option (AV×List VC):=
 match G.at t with
 |
  some td=>
  match td.ty,x with
  | .slice bs u,.val (.slice bs' u') xs=>if Nat.beq bs bs'&&Ty.same u u' then some (.bN u' (xs.getD i.toNat u'.aD),[vc (0≤i),vc (i<xs.length)]) else none
  |
   .slice _ u,.own b=>match hb b with
   |some (.row _ _ u' xs)=>if Ty.same u u' then some (.ptr b [.idx i.toNat],[vc (0≤i),vc (i<xs.length)]) else none
   |some (.bZ _ _ u' _xs j _)=>if Ty.same u u' then some (.ptr b [.cD 1],[vc (0≤i),vc (i.toNat=j)]) else none
   |some (.cL _ _ u' _ _ (some (j,_)))=>if Ty.same u u' then some (.ptr b [.cD 1],[vc (0≤i),vc (i.toNat=j)]) else none
   |_=>none
  |
   .slice _ u,.jR b lo len=>match hb b with
   |some (.row _ _ u' _)=>if Ty.same u u' then some (.ptr b [.idx (lo+i.toNat)],[vc (0≤i),vc (i<len)]) else none
   |_=>none
  |
   .slice _ u,.jb b p lo len=>match hb b with
   |
    some (.var tt _)=>match tt.sub p with
    |some (.arr _ u')=>if Ty.same u u' then some (.ptr b (p++[.idx (lo+i.toNat)]),[vc (0≤i),vc (i<len)]) else none
    |_=>none
   |_=>none
  |
   .arr n u,.ptr b p=>match hb b with
   |
    some k=>match(iP k).sub p with
    |some (.arr n' u')=>if Ty.same u u'&&Nat.beq n n' then some (.ptr b (p++[.idx i.toNat]),[vc (0≤i),vc (i<n)]) else none
    |_=>none
   |_=>none
  |
   .fns n,.ptr b p=>match hb b with
   |
    some k=>match(iP k).sub p with
    |some (.fns n')=>if Nat.beq n n' then some (.ptr b (p++[.idx i.toNat]),[vc (0≤i),vc (i<n)]) else none
    |_=>none
   |_=>none
  | .arr n u,.bN (.arr n' u') xs=>if Ty.same u u'&&Nat.beq n n' then some (.bN u' (List.getD xs i.toNat u'.aD),[vc (0≤i),vc (i<n)]) else none
  |_,_=>none
 |none=>none
def j5(G:bT)(hb:Nat→Option aN)(t:TypeId)(x:AV):AV→Option (AV×List VC)
 | .val (.int _) i=>jd G hb t x i
 |_=>none
theorem Ty.je(t:Ty):t.off []=0:=by cases t<;>rfl
theorem Ty.gI(t:Ty):t.valid []:=by cases t<;>trivial
theorem Ty.BX(t:Ty):t.sub []=some t:=by cases t<;>rfl
theorem rm{P:Program}{G:bT}(T:bB P G){gl:Ctx}{E:Env}{w:World}{hp:List (Option aN)}(hw:HW gl E w hp){hb:Nat→Option aN}(hB:HB hb hp){t:TypeId}{x u:AV}{vx:Value}{k:IntKind}{i:Int}{vc:List VC}(hx:RV E w x vx)(h:jd G hb t x i=some (u,vc))(hvc0:dH vc):
 ∃v,(Instr.indexAt t vx (.int k i)).run P w= .ok v w∧RV E w u v:=by
 unfold jd at h
 split at h
 ·rename_i td ht
  split at h
  ·rename_i bs u bs' u' xs hty
   split at h
   ·rename_i hc
    cases h
    have hvc:=And.intro hvc0.1 hvc0.2.1
    simp only[aV] at hc
    have:=bQ hc.1;subst this
    have:=Ty.aB hc.2;subst this
    obtain⟨a,cap,e,h1,h2,h3,h4⟩:=RV.atom rfl hx
    simp at e;subst e
    rcases h4 with h4|⟨b,o,cs,e1,e2,e3,e4⟩
    ·subst h4;simp at hvc;exact absurd hvc.2 (by omega)
    ·subst e1
     have hlt:i.toNat<xs.length:=by omega
     have abT:=aT.get (fun _ _=>Rel.len) u.aD i.toNat e4 hlt
     exact⟨_,eB T ht hty w b o _ cap k i hvc,RV.dO (Or.inr ⟨rfl,b,_,_,rfl,e2,e3.sub _ _,abT⟩)⟩
   ·cases h
  ·rename_i bs u b hty
   split at h
   ·rename_i e bs2 u' xs hk
    split at h
    ·rename_i hc
     cases h
     have hvc:=And.intro hvc0.1 hvc0.2.1
     have:=Ty.aB hc;subst this
     have hx:=RV.atom rfl hx
     simp only[RC,List.cons.injEq,and_true] at hx
     have hx:=hx.1
     subst hx
     obtain⟨h1,h2,h3,h4,a,cap,h5,h6,h7⟩:=hw.cH b _ (hB b _ hk)
     rw[h5]
     rcases h7 with⟨_,_,h9⟩|⟨g,c,h7,h8,h9,h10,h11,h12⟩
     ·subst h9;simp at hvc;exact absurd hvc.2 (by omega)
     ·subst h8
      refine⟨_,eB T ht hty w g 0 _ cap k i hvc,RV.dO (Or.inr ⟨rfl,g,h7,?_,?_⟩)⟩
      ·rw[h1];simp[Ty.off,Ty.je]
      ·rw[h1];exact⟨by omega,Ty.gI _⟩
    ·cases h
   ·rename_i e bs2 u' xs j v hk
    split at h
    ·rename_i hc
     cases h
     have hvc:=And.intro hvc0.1 hvc0.2.1
     have:=Ty.aB hc;subst this
     have hx:=RV.atom rfl hx
     simp only[RC,List.cons.injEq,and_true] at hx
     have hx:=hx.1
     subst hx
     obtain⟨h1,h2,h3,h4,h5,h6,g,cap,c,q1,q2,q3,q4,q5,q6,q7,q8,q9⟩:=hw.cH b _ (hB b _ hk)
     rw[q1]
     have hij:i.toNat=j:=hvc.2
     have h0:0≤i:=hvc.1
     refine⟨_,eB T ht hty w g 0 _ cap k i ⟨h0,by omega⟩,RV.dO (Or.inr ⟨rfl,g,q3,?_,?_⟩)⟩
     ·rw[h1,hij];simp[jZ,Ty.off,Ty.je,Ty.size]
     ·rw[h1];exact Ty.gI u
    ·cases h
   ·rename_i e bs2 u' xs e2 j v hk
    split at h
    ·rename_i hc
     cases h
     have hvc:=And.intro hvc0.1 hvc0.2.1
     have:=Ty.aB hc;subst this
     have hx:=RV.atom rfl hx
     simp only[RC,List.cons.injEq,and_true] at hx
     have hx:=hx.1
     subst hx
     obtain⟨h1,h2,h3,h4,h5,g,cap,c,og,q1,q2,q3,q4,q5,q6,q7,q8⟩:=hw.cH b _ (hB b _ hk)
     rw[q1]
     have hij:i.toNat=j:=hvc.2
     have h0:0≤i:=hvc.1
     have hj:=(h5 j v rfl).1
     refine⟨_,eB T ht hty w g 0 _ cap k i ⟨h0,by omega⟩,RV.dO (Or.inr ⟨rfl,g,q3,?_,?_⟩)⟩
     ·rw[h1,hij];simp[nv,jZ,Ty.off,Ty.je,Ty.size]
     ·rw[h1];exact Ty.gI u
    ·cases h
   ·cases h
  ·rename_i bs u b lo len hty
   split at h
   ·rename_i e bs2 u' xs hk
    split at h
    ·rename_i hc
     cases h
     have hvc:=And.intro hvc0.1 hvc0.2.1
     have:=Ty.aB hc;subst this
     obtain⟨a,c0,n,tt,r1,r2,r3,r4,a2,e,r6⟩:=RV.atom rfl hx
     simp at e;subst e
     obtain⟨h1,h2,h3,h4,a',cap,h5,h6,h7⟩:=hw.cH b _ (hB b _ hk)
     rw[h1] at r1;cases r1
     rw[h5] at r2;cases r2
     rcases h7 with⟨_,_,h9⟩|⟨g,c,h7,h8,h9,h10,h11,h12⟩
     ·subst h9;simp at r3;exact absurd hvc.2 (by omega)
     ·subst h8
      have had:a2=some ⟨g,lo*u.size,none⟩:=by
       rcases r6 with r6|r6
       ·omega
       ·rw[r6];simp only[Option.map_some,cE];unfold Addr.add;split<;>simp_all
      rw[had]
      refine⟨_,eB T ht hty w g _ _ _ k i hvc,RV.dO (Or.inr ⟨rfl,g,h7,?_,?_⟩)⟩
      ·rw[h1];simp only[Ty.off,Ty.je];rw[cM];simp
      ·rw[h1];exact⟨by omega,Ty.gI _⟩
    ·cases h
   ·cases h
  ·rename_i bs u b p lo len hty
   split at h
   ·rename_i tt v hk
    split at h
    ·rename_i n u' abU
     split at h
     ·rename_i hc
      cases h
      have hvc:=And.intro hvc0.1 hvc0.2.1
      have:=Ty.aB hc;subst this
      obtain⟨n2,t2,r1,r2,r3,a,cap,e,r4,r5⟩:=RV.atom rfl hx
      simp at e;subst e
      obtain⟨h1,h2,g,c,e2,h3,h4,h5⟩:=hw.cH b _ (hB b _ hk)
      rw[h1,abU] at r1;cases r1
      rcases r5 with r5|⟨g',r5,r6⟩
      ·subst r5;omega
      ·rw[h3] at r5;cases r5
       subst r6
       obtain⟨q1,q2,q3⟩:=Ty.kY (q:=[.idx (lo+i.toNat)]) abU
       refine⟨_,eB T ht hty w g _ _ _ k i hvc,RV.dO (Or.inr ⟨rfl,g,h3,?_,?_⟩)⟩
       ·rw[h1,q2];simp only[Ty.off,Ty.je];rw[cM];simp;omega
       ·rw[h1];refine q3 (by rw[←h1];exact r2) ⟨by omega,Ty.gI _⟩
     ·cases h
    ·cases h
   ·cases h
  ·rename_i n u b p hty
   split at h
   ·rename_i kk hk
    split at h
    ·rename_i n' u' abU
     split at h
     ·rename_i hc
      cases h
      have hvc:=And.intro hvc0.1 hvc0.2.1
      simp only[aV] at hc
      have:=Ty.aB hc.1;subst this
      have:=bQ hc.2;subst this
      obtain⟨g,hg,e,hv⟩:=RV.atom rfl hx
      simp at e;subst e
      have hbt:=RB.bt (hw.cH b kk (hB b kk hk)) (mP (q:=.idx 0) (s:=u) abU (by simp[Ty.sub,Ty.BX]))
      rw[←hbt] at abU
      obtain⟨q1,q2,q3⟩:=Ty.kY (q:=[.idx i.toNat]) abU
      refine⟨_,me T ht hty w g _ k i hvc,RV.dO (Or.inr ⟨rfl,g,hg,?_,?_⟩)⟩
      ·rw[q2];simp only[Ty.off,Ty.je];simp
      ·exact q3 hv ⟨by omega,Ty.gI _⟩
     ·cases h
    ·cases h
   ·cases h
  ·rename_i n b p hty
   split at h
   ·rename_i kk hk
    split at h
    ·rename_i n' abU
     split at h
     ·rename_i hc
      cases h
      have hvc:=And.intro hvc0.1 hvc0.2.1
      have:=bQ hc;subst this
      obtain⟨g,hg,e,hv⟩:=RV.atom rfl hx
      simp at e;subst e
      have hbt:=RB.bt (hw.cH b kk (hB b kk hk)) (mP (q:=.idx 0) (s:=.aR .func) abU rfl)
      rw[←hbt] at abU
      obtain⟨q1,q2,q3⟩:=Ty.kY (q:=[.idx i.toNat]) abU
      refine⟨_,sX T ht hty w g _ k i hvc,RV.dO (Or.inr ⟨rfl,g,hg,?_,?_⟩)⟩
      ·rw[q2];simp only[Ty.off]
      ·exact q3 hv (by show i.toNat<n;omega)
     ·cases h
    ·cases h
   ·cases h
  ·rename_i n u n' u' xs hty
   split at h
   ·rename_i hc
    cases h
    have hvc:=And.intro hvc0.1 hvc0.2.1
    simp only[aV] at hc
    have:=Ty.aB hc.1;subst this
    have:=bQ hc.2;subst this
    obtain⟨b,o,cs,e,h1,h2,h3⟩:=RV.atom rfl hx
    simp at e;subst e
    obtain⟨hn,h3⟩:=h3
    have hlt:i.toNat<List.length xs:=by omega
    have abT:=aT.get (fun _ _=>Rel.len) u.aD i.toNat h3 hlt
    exact⟨_,me T ht hty w b o k i hvc,RV.dO (Or.inr ⟨rfl,b,_,_,rfl,h1,h2.sub _ _,abT⟩)⟩
   ·cases h
  ·cases h
 ·cases h
theorem sY{P:Program}{G:bT}(T:bB P G){gl:Ctx}{E:Env}{w:World}{hp:List (Option aN)}(hw:HW gl E w hp){hb:Nat→Option aN}(hB:HB hb hp){t:TypeId}{x y u:AV}{vx vy:Value}{vc:List VC}(hx:RV E w x vx)(hy:RV E w y vy)(h:j5 G hb t x y=some (u,vc))(hvc:dH vc):
 ∃v,(Instr.indexAt t vx vy).run P w= .ok v w∧RV E w u v:=by
 unfold j5 at h
 split at h
 ·obtain⟨rfl,_⟩:=RV.dh hy
  exact rm T hw hB hx h hvc
 ·cases h
theorem rM(l:List UInt8):(ByteArray.mk l.toArray).size=l.length:=by show l.toArray.size=_;simp
def i6(n:Nat):AV:=.val (.int .i64) (n:Int)
def EK(G:bT)(hb:Nat→Option aN)(t:TypeId)(x:AV):Option AV:=
 match G.at t with
 |
  some td=>
  match td.ty,x with
  | .slice _ _,.val (.slice _ _) xs=>some (i6 xs.length)
  | .slice _ _,.bA=>some (i6 0)
  |
   .slice _ _,.own b=>match hb b with
   |some (.row _ _ _ xs)=>some (i6 xs.length)
   |some (.bZ _ _ _ xs _ _)=>some (i6 xs.length)
   |some (.cL _ _ _ xs _ _)=>some (i6 xs.length)
   |_=>none
  |
   .slice _ _,.jR b _ len=>match hb b with
   |some (.row _ _ _ xs)=>if Nat.ble 1 1 then some (i6 len) else(some (i6 xs.length))
   |_=>none
  |
   .slice _ _,.jb b p _ len=>match hb b with
   |
    some (.var tt _)=>match tt.sub p with
    |some (.arr n _)=>if Nat.ble n aE then some (i6 len) else none
    |_=>none
   |_=>none
  | .str,.val .str s=>some (i6 s.length)
  | .aR .map,.dT=>some (i6 0)
  |
   .aR .map,.mp b=>match hb b with
   |some (.map _ _ es)=>some (i6 es.length)
   |_=>none
  | .map _ _,.dT=>some (i6 0)
  |
   .map _ _,.mp b=>match hb b with
   |some (.map _ _ es)=>some (i6 es.length)
   |_=>none
  | .map _ _,.val (.map _ _) y=>some (i6 (List.length (bU y)))
  |_,_=>none
 |none=>none
theorem RV.len{E:Env}{w:World}{n:Nat}(h:n≤aE):RV E w (i6 n) (goInt n):=by
 refine RV.int (k:=.i64) ?_
 unfold aE at h
 have h1:IntKind.i64.min= -9223372036854775808:=by decide
 have h2:IntKind.i64.max=9223372036854775807:=by decide
 omega
theorem RM.len{E:Env}{w:World}{k v:Ty}:∀{l:List MapEntry}{xs:List (k.den×v.den)},RM E w k v l xs→l.length=xs.length
 |[],[],_=>rfl
 |[],_::_,h=>h.elim
 |_::_,[],h=>h.elim
 |_::l,_::xs,h=>by simp[RM.len h.2.2]
theorem bB.strOf{P:Program}{G:bT}(T:bB P G){t:TypeId}{td:TD}(h:G.at t=some td)(hs:td.ty= .str):P.underlying t=some .string:=by
 obtain⟨ii,d,_,h1,_,h2,_⟩:=T.info h
 have abJ:=dm h2
 rw[h1]
 cases hd:d with
 |string=>rfl
 |struct fs=>subst hd;simp only[dt] at abJ;rw[hs] at abJ;cases abJ
 |array n e=>subst hd;simp only[dt] at abJ;rw[hs] at abJ;cases abJ
 |
  slice e=>
  subst hd
  simp only[cj] at h2
  rw[ek] at h2
  rcases h2 with h2|h2
  ·have:=Ty.aB h2;rw[hs] at this;cases this
  simp only[aV] at h2
  obtain⟨_,h2⟩:=h2
  split at h2
  ·rename_i e1 _ _;rw[hs] at e1;cases e1
  ·cases h2
 |map k e=>subst hd;have:=(jc h2).1;rw[hs] at this;cases this
 |
  _=>
  subst hd
  simp only[cj] at h2
  first
   |(have:=Ty.aB h2;rw[hs] at this;cases this)
   |cases h2
theorem bB.mapOf{P:Program}{G:bT}(T:bB P G){t:TypeId}{td:TD}(h:G.at t=some td)(hs:td.ty.isMap=true):P.underlying t=some (.map td.e td.e2):=by
 obtain⟨ii,d,_,h1,_,h2,_⟩:=T.info h
 have abJ:=dm h2
 rw[h1]
 cases hd:d with
 |
  map k e=>
  subst hd
  obtain⟨_,e1,e2⟩:=jc h2
  rw[e1,e2]
 |struct fs=>subst hd;simp only[dt] at abJ;revert hs abJ;cases td.ty<;>simp[Ty.isMap,Ty.isAgg]
 |array n e=>subst hd;simp only[dt] at abJ;revert hs abJ;cases td.ty<;>simp[Ty.isMap,Ty.isAgg]
 |
  slice e=>
  subst hd
  simp only[cj] at h2
  rw[ek] at h2
  rcases h2 with h2|h2
  ·have:=Ty.aB h2;rw[this] at hs;simp[Ty.isMap] at hs
  simp only[aV] at h2
  obtain⟨_,h2⟩:=h2
  split at h2
  ·rename_i e1 _ _;rw[e1] at hs;simp[Ty.isMap] at hs
  ·cases h2
 |
  _=>
  subst hd
  simp only[cj] at h2
  first
   |(have:=Ty.aB h2;rw[this] at hs;simp[Ty.isMap] at hs)
   |cases h2
theorem EL{P:Program}{G:bT}(T:bB P G){gl:Ctx}{E:Env}{w:World}{hp:List (Option aN)}(hw:HW gl E w hp){hb:Nat→Option aN}(hB:HB hb hp){t ty:TypeId}{x u:AV}{vx:Value}(hx:RV E w x vx)(h:EK G hb t x=some u):
 ∃v,(Builtin.len_ #[t] ty #[vx]).run P w= .ok v w∧RV E w u v:=by
 unfold EK at h
 split at h
 ·rename_i td ht
  split at h
  ·rename_i bs u' bs' u2 xs hty
   cases h
   obtain⟨te,ie,h1,_⟩:=T.cP ht hty
   obtain⟨a,cap,e,_,_,h3,_⟩:=RV.atom rfl hx
   simp at e;subst e
   exact⟨_,by simp[Builtin.len_,underlying,h1],RV.len h3⟩
  ·rename_i bs u' hty
   cases h
   obtain⟨te,ie,h1,_⟩:=T.cP ht hty
   have hx:=RV.atom rfl hx
   simp[RC] at hx;subst hx
   exact⟨_,by simp[Builtin.len_,underlying,h1],RV.len (by unfold aE;omega)⟩
  ·rename_i bs u' b hty
   split at h
   ·rename_i e2 bs2 t2 xs hk
    cases h
    obtain⟨te,ie,h1,_⟩:=T.cP ht hty
    have hx:=RV.atom rfl hx
    simp only[RC,List.cons.injEq,and_true] at hx
    have hx:=hx.1
    subst hx
    obtain⟨_,_,h3,_,a,cap,h5,_⟩:=hw.cH b _ (hB b _ hk)
    rw[h5]
    exact⟨_,by simp[Builtin.len_,underlying,h1],RV.len h3⟩
   ·rename_i e2 bs2 t2 xs j v hk
    cases h
    obtain⟨te,ie,h1,_⟩:=T.cP ht hty
    have hx:=RV.atom rfl hx
    simp only[RC,List.cons.injEq,and_true] at hx
    have hx:=hx.1
    subst hx
    obtain⟨_,_,_,h3,_,_,g,cap,c,h5,_⟩:=hw.cH b _ (hB b _ hk)
    rw[h5]
    exact⟨_,by simp[Builtin.len_,underlying,h1],RV.len h3⟩
   ·rename_i e2 bs2 t2 xs e3 f hk
    cases h
    obtain⟨te,ie,h1,_⟩:=T.cP ht hty
    have hx:=RV.atom rfl hx
    simp only[RC,List.cons.injEq,and_true] at hx
    have hx:=hx.1
    subst hx
    obtain⟨_,_,_,h3,_,g,cap,c,og,h5,_⟩:=hw.cH b _ (hB b _ hk)
    rw[h5]
    exact⟨_,by simp[Builtin.len_,underlying,h1],RV.len h3⟩
   ·cases h
  ·rename_i bs u' b lo len hty
   split at h
   ·rename_i e2 bs2 t2 xs hk
    simp at h;subst h
    obtain⟨te,ie,h1,_⟩:=T.cP ht hty
    obtain⟨a,c,n,tt,r1,r2,r3,r4,a2,e,_⟩:=RV.atom rfl hx
    simp at e;subst e
    obtain⟨q1,_,h3,_,a',cap,h5,_⟩:=hw.cH b _ (hB b _ hk)
    rw[r1] at q1;cases q1
    exact⟨_,by simp[Builtin.len_,underlying,h1],RV.len (by omega)⟩
   ·cases h
  ·rename_i bs u' b p lo len hty
   split at h
   ·rename_i tt v hk
    split at h
    ·rename_i n0 u0 abU
     split at h
     ·rename_i hn
      cases h
      obtain⟨te,ie,h1,_⟩:=T.cP ht hty
      obtain⟨n,t2,r1,r2,r3,a,cap,e,r4,r5⟩:=RV.atom rfl hx
      simp at e;subst e
      obtain⟨q1,_⟩:=hw.cH b _ (hB b _ hk)
      rw[q1,abU] at r1;cases r1
      have:=fc hn
      exact⟨_,by simp[Builtin.len_,underlying,h1],RV.len (by omega)⟩
     ·cases h
    ·cases h
   ·cases h
  ·rename_i s hty
   cases h
   have h1:=T.strOf ht hty
   obtain⟨rfl,h2⟩:=RV.gu hx
   exact⟨goInt s.length,by simp[Builtin.len_,underlying,h1,rM],RV.len h2⟩
  ·rename_i hty
   cases h
   have h1:=T.mapOf ht (by rw[hty];rfl)
   have hx:=RV.atom rfl hx
   simp[RC] at hx;subst hx
   exact⟨_,by simp[Builtin.len_,underlying,h1],RV.len (by unfold aE;omega)⟩
  ·rename_i b hty
   split at h
   ·rename_i kt vt es hk
    cases h
    have h1:=T.mapOf ht (by rw[hty];rfl)
    obtain⟨g,hg,e⟩:=RV.atom rfl hx
    simp at e;subst e
    obtain⟨_,h2,g',en,clock,h3,h4,h5,_⟩:=hw.cH b _ (hB b _ hk)
    rw[hg] at h3;cases h3
    have hl:=RM.len h5
    refine⟨goInt es.length,?_,RV.len h2⟩
    simp[Builtin.len_,underlying,h1,getObj,Sem.run,h4,←hl]
   ·cases h
  ·rename_i _ _ hty
   cases h
   have h1:=T.mapOf ht (by rw[hty];rfl)
   have hx:=RV.atom rfl hx
   simp[RC] at hx;subst hx
   exact⟨_,by simp[Builtin.len_,underlying,h1],RV.len (by unfold aE;omega)⟩
  ·rename_i _ _ b hty
   split at h
   ·rename_i kt vt es hk
    cases h
    have h1:=T.mapOf ht (by rw[hty];rfl)
    obtain⟨g,hg,e⟩:=RV.atom rfl hx
    simp at e;subst e
    obtain⟨_,h2,g',en,clock,h3,h4,h5,_⟩:=hw.cH b _ (hB b _ hk)
    rw[hg] at h3;cases h3
    have hl:=RM.len h5
    refine⟨goInt es.length,?_,RV.len h2⟩
    simp[Builtin.len_,underlying,h1,getObj,Sem.run,h4,←hl]
   ·cases h
  ·rename_i _ _ k' v' y hty
   cases h
   have h1:=T.mapOf ht (by rw[hty];rfl)
   obtain⟨a,e,hr⟩:=RV.atom rfl hx
   simp at e;subst e
   rcases hr with⟨rfl,rfl⟩|⟨es,g,en,clock,rfl,rfl,_,h4,h5,_,h6,_⟩
   ·exact⟨_,by simp[Builtin.len_,underlying,h1],RV.len (n:=0) (by unfold aE;omega)⟩
   ·have hl:=jS.len h5
    exact⟨goInt es.length,by simp[Builtin.len_,underlying,h1,getObj,Sem.run,h4,←hl],RV.len h6⟩
  ·cases h
 ·cases h
end Go.Ax
namespace Go.Ax
def St.fresh(σ:St)(d:Nat):Prop:=d∉σ.ids∧(∀k,σ.hp[d]? ≠some (some k))∧16≤d
def cT:Nat→List Nat→Bool
 |_,[]=>false
 |d,x::l=>Nat.beq d x||cT d l
theorem eJ{d:Nat}:∀{l:List Nat},cT d l=false→d∉l
 |[],_=>by simp
 |
  x::l,h=>by
  simp only[cT,Bool.or_eq_false_iff] at h
  intro hm
  cases hm with
  |head=>simp at h
  |tail _ hm=>exact eJ h.2 hm
def St.eY(σ:St)(d:Nat):Bool:=
 Nat.ble 16 d&& !cT d σ.ids&&(match σ.hp[d]? with|some (some _)=>false|_=>true)
theorem St.dK{σ:St}{d:Nat}(h:σ.eY d=true):σ.fresh d:=by
 simp only[St.eY,aV] at h
 refine⟨eJ (by simpa using h.1.2),?_,fc h.1.1⟩
 intro k hk
 rw[hk] at h
 exact absurd h.2 (by simp)
theorem cd.fresh{gl:Ctx}{σ:St}{E:Env}{a:Act}{w w':World}(h:cd gl σ E a w){d:Nat}(hf:σ.fresh d){g:Option Nat}{sv:Value}{t:Ty}{k:aN}
 (hos:w'.os=w.os) (hta:Tp gl.md w w') (hou:w'.output=w.output) (hsz:w.heap.size≤w'.heap.size) (hold:∀i,i<w.heap.size→w'.heap[i]? =w.heap[i]?)
 (hg:∀i,g=some i→w.heap.size≤i) (hb:RB (E.at d g sv t) w' d k):
 cd gl (σ.cH d (some k)) (E.at d g sv t) a w'∧Ext gl.md (Own σ.hp E) E w (Own (σ.cH d (some k)).hp (E.at d g sv t)) (E.at d g sv t) w':=by
 have kp:bM E w (E.at d g sv t) w':=⟨fun b hb=>hold b (h.hw.slt b hb),fun b hb=>hb⟩
 have hw:=h.hw.fresh (d:=d) hsz hold hf.2.1 (fun b k' hk hm=>hf.1 (St.wH hk d hm)) hg hb
 refine⟨h.carry kp (Env.yz hf.1) hw,hos,hta,hou,hsz,fun i hi _=>hold i hi,fun i hi=>hi,fun i hi=>Or.inl hi,?_,Env.EG hf.2.2⟩
 rintro i ⟨b,k',hbk,hgi⟩
 by_cases e:b=d
 ·subst e
  exact Or.inr (hg i (Env.j4.1 hgi))
 ·have hgi:=(Env.iU e).1 hgi
  simp only[St.cH] at hbk
  rw[bK,aC (fun e'=>e e'.symm)] at hbk
  exact Or.inl ⟨b,k',hbk,hgi⟩
theorem iF(w:World)(o:Obj)(i:Nat)(hi:i<w.heap.size):({w with heap:=w.heap.push o}:World).heap[i]? =w.heap[i]? :=by
 show(w.heap.push o)[i]? =_
 rw[Array.getElem?_push,aC (by omega)]
theorem nw(w:World)(o:Obj):({w with heap:=w.heap.push o}:World).heap[w.heap.size]? =some o:=by
 show(w.heap.push o)[w.heap.size]? =_
 simp
theorem cd.newVar{P:Program}{gl:Ctx}{σ:St}{E:Env}{a:Act}{w:World}(h:cd gl σ E a w){d:Nat}(hf:σ.fresh d){t:Ty}{x:AV}{v:Value}(e:TypeId)(hr:RC E w x v.cells.toList)(hc:x.bW t=true)(hx:d∉x.ids):
 ∃w' E',(Go.newVar e v).run P w= .ok ⟨w.heap.size,0,none⟩ w'∧cd gl (σ.cH d (some (.var t x))) E' a w'∧RV E' w' (.ptr d []) (.pointer (some ⟨w.heap.size,0,none⟩))∧Ext gl.md (Own σ.hp E) E w (Own (σ.cH d (some (.var t x))).hp E') E' w':=by
 refine⟨{w with heap:=w.heap.push (.cells v.cells e)},E.at d (some w.heap.size) undef t,by simp[Go.newVar,newRow],?_⟩
 have kp:bM E w (E.at d (some w.heap.size) undef t) {w with heap:=w.heap.push (.cells v.cells e)}:=⟨fun b hb=>iF _ _ _ (h.hw.slt b hb),fun b hb=>hb⟩
 obtain⟨h1,h2⟩:=h.fresh hf (w':={w with heap:=w.heap.push (.cells v.cells e)}) (g:=some w.heap.size) (sv:=undef) (t:=t) (k:=.var t x) rfl (Tp.r rfl rfl) rfl (by simp) (fun i hi=>iF _ _ _ hi) (fun i hi=>by cases hi;exact cq _)
  ⟨by simp[Env.at],hc,w.heap.size,v.cells,e,by simp[Env.at],nw _ _,RC.mono kp (Env.yz hx) hr⟩
 exact⟨h1,RV.dO (Or.inr ⟨rfl,w.heap.size,by simp[Env.at],by simp[Env.at,Ty.je],Ty.gI _⟩),h2⟩
theorem yE(v:Value):(oO v).ids= []:=by
 unfold oO
 split<;>try rfl
 all_goals(split<;>rfl)
theorem As(gl:List Dt)(g:Nat):(pX gl g).ids= []:=by
 induction gl with
 |nil=>rfl
 |cons x l ih=>unfold pX;split;rfl;exact ih
theorem uV{gl:Ctx}{σ:St}{x:Operand}:∀b∈(bG gl σ.tm x).ids,b∈σ.ids:=by
 intro b hb
 cases x with
 |
  tmp t=>
  simp only[bG] at hb
  cases hx:σ.tm[t]? with
  |none=>rw[hx] at hb;simp[AV.ids] at hb
  |some y=>rw[hx] at hb;exact St.Ao hx b hb
 |const v=>simp only[bG,yE] at hb;cases hb
 |global g=>simp only[bG,As] at hb;cases hb
 |func f=>simp[bG,AV.ids] at hb
theorem Ty.EM(t:Ty):t.zero.ids= []:=by
 induction t with
 |pair a b ih1 ih2=>simp[Ty.zero,AV.ids,ih1,ih2]
 |aR k=>cases k<;>rfl
 |_=>rfl
theorem Dv{P:Program}{G:bT}(T:bB P G){gl:Ctx}{σ:St}{E:Env}{a:Act}{w:World}(h:cd gl σ E a w){d:Nat}(hf:σ.fresh d){e:TypeId}{td:TD}(he:G.at e=some td)(old:Value):
 ∃v w' E',(Instr.alloc e true old).run P w= .ok v w'∧cd gl (σ.cH d (some (.var td.ty td.ty.zero))) E' a w'∧RV E' w' (.ptr d []) v∧Ext gl.md (Own σ.hp E) E w (Own (σ.cH d (some (.var td.ty td.ty.zero))).hp E') E' w':=by
 obtain⟨z,hz,h1,h2⟩:=T.zero he w
 obtain⟨w',E',h3,h4,h5,h6⟩:=h.newVar (P:=P) hf (t:=td.ty) (x:=td.ty.zero) (v:=z) e (fA h1).1 (Ty.pU _) (by rw[Ty.EM];simp)
 exact⟨_,w',E',by simp[Instr.alloc,hz,h3],h4,h5,h6⟩
theorem HH{P:Program}{gl:Ctx}{σ:St}{E:Env}{a:Act}{w:World}(h:cd gl σ E a w){d:Nat}(hf:σ.fresh d){e:TypeId}{t:Ty}{x:AV}{v:Value}(hr:cF E w x v)(hc:x.bW t=true)(hx:d∉x.ids):
 ∃u w' E',(Instr.box e v).run P w= .ok u w'∧cd gl (σ.cH d (some (.var t x))) E' a w'∧RV E' w' (.ptr d []) u∧Ext gl.md (Own σ.hp E) E w (Own (σ.cH d (some (.var t x))).hp E') E' w':=by
 obtain⟨w',E',h3,h4,h5,h6⟩:=h.newVar (P:=P) hf (t:=t) (x:=x) (v:=v) e hr.cells hc hx
 exact⟨_,w',E',by simp[Instr.box,h3],h4,h5,h6⟩
def Kf(e:TypeId)(bs:Nat)(t:Ty)(xs:List t.den)(i:Nat)(p:Path)(x:AV):Option aN:=
 match fS t (xs.getD i t.aD) p x with
 |
  some y=>match y.bL t with
  |some z=>some (.row e bs t (xs.set i z))
  |none=>none
 |none=>none
def ny:aN→Path→AV→Option aN
 |
  .var t v,p,x=>match v.set p x with
  |some u=>if u.bW t then some (.var t u) else none
  |none=>none
 | .row e bs t xs,.idx i::p,x=>Kf e bs t xs i p x
 |
  .bZ e bs t xs i v,.cD 1::p,x=>match v.set p x with
  |some u=>if u.bW t then some (.bZ e bs t xs i u) else none
  |none=>none
 |
  .cL e bs t xs e2 (some (i,v)),.cD 1::p,x=>match v.set p x with
  |some u=>if u.bW t then some (.cL e bs t xs e2 (some (i,u))) else none
  |none=>none
 |_,_,_=>none
theorem yF{L us:List Value}{a o n:Nat}(h:o+us.length≤n)(hl:a+n≤L.length):
 (L.take (a+o)++us++L.drop (a+o+us.length)).take a=L.take a∧((L.take (a+o)++us++L.drop (a+o+us.length)).drop a).take n=((L.drop a).take n).take o++us++((L.drop a).take n).drop (o+us.length)∧
  (L.take (a+o)++us++L.drop (a+o+us.length)).drop (a+n)=L.drop (a+n):=by
 obtain⟨A,M,B,hA,hM,rfl⟩:∃A M B,A.length=a∧M.length=n∧L=A++(M++B):=
  ⟨L.take a,(L.drop a).take n,L.drop (a+n),by simp;omega,by simp;omega,by rw[←gP,iI,iI]⟩
 subst hA;subst hM
 have e1:(A++(M++B)).take (A.length+o)=A++M.take o:=by rw[List.take_length_add_append,uT (by omega)]
 have e2:(A++(M++B)).drop (A.length+o+us.length)=M.drop (o+us.length)++B:=by rw[Nat.add_assoc,List.drop_length_add_append,List.drop_append_of_le_length (by omega)]
 have e3:((A++(M++B)).drop A.length).take M.length=M:=by simp
 have hml:(M.take o++us++M.drop (o+us.length)).length=M.length:=by simp;omega
 have e4:(A++(M++B)).take (A.length+o)++us++(A++(M++B)).drop (A.length+o+us.length)=A++((M.take o++us++M.drop (o+us.length))++B):=by rw[e1,e2];simp
 rw[e3,e4]
 refine⟨by simp,?_,?_⟩
 ·rw[List.drop_left',List.take_left' hml];rfl
 ·rw[List.drop_length_add_append,List.drop_length_add_append,List.drop_left' hml,List.drop_left' rfl]
theorem Dw(l us:List Value)(o m:Nat)(h:o+us.length≤m)(hm:m≤l.length):(l.take o++us++l.drop (o+us.length)).take m=(l.take m).take o++us++(l.take m).drop (o+us.length):=by
 have e1:(l.take m).take o=l.take o:=by rw[kz,iN (by omega)]
 have e2:(l.take m).drop (o+us.length)=(l.drop (o+us.length)).take (m -(o+us.length)):=by rw[lF]
 rw[e1,e2,List.take_append,fb (l:=l.take o++us) (by simp;omega)]
 congr 2
 simp;omega
theorem EN{P:Program}{gl:Ctx}{E:Env}{w:World}{hp:List (Option aN)}(hw:HW gl E w hp){b:Nat}{k k':aN}{p:Path}{x:AV}{us:List Value}(hb:hp[b]? =some (some k))(hv:(E.bt b).valid p)(hx:RC E w x us)
 (abU:∀s,(E.bt b).sub p=some s→us.length=s.size) (h:ny k p x=some k'):
 ∃g w',E.g b=some g∧(storeCells ⟨g,(E.bt b).off p,none⟩ us 0).run P w= .ok () w'∧w'.os=w.os∧Tp gl.md w w'∧w'.output=w.output∧w'.heap.size=w.heap.size∧(∀i,i≠g→w'.heap[i]? =w.heap[i]?)∧RB E w' b k':=by
 have hk:=hw.cH b k hb
 cases k with
 |
  var t v=>
  obtain⟨h1,h2,g,c,e,h3,h4,h5⟩:=hk
  rw[h1] at hv abU ⊢
  simp only[ny] at h
  split at h
  ·rename_i u hu
   split at h
   ·rename_i hconf
    cases h
    obtain⟨s,e1,e2,e3,e4⟩:=AV.kX hx h5 h2 hv abU hu
    rw[←e2] at e3 e4
    have hst:=run_storeCells_at P g (t.off p) e us 0 c w h4 (by simpa using e3) (RC.one hx)
    refine⟨g,_,h3,hst,rfl,Tp.r rfl rfl,rfl,by simp,fun i hi=>setRow_other w g i _ hi,?_⟩
    have kp:bM E w E (w.setRow g (c.toList.take (t.off p+0)++us++c.toList.drop (t.off p+0+us.length)).toArray):=
     ⟨fun i hi=>setRow_other w g i _ (fun e=>hw.jT b _ g hb h3 (e▸hi)),fun _ h=>h⟩
    refine⟨h1,hconf,g,_,e,h3,setRow_heap w g c _ e _ h4,?_⟩
    have:=RC.mono kp (fun _ _=>⟨rfl,rfl,rfl⟩) e4
    simpa using this
   ·cases h
  ·cases h
 |
  row e bs t xs=>
  obtain⟨h1,h2,h3,h4,a,cap,h5,h6,h7⟩:=hk
  cases p with
  |nil=>simp[ny] at h
  |
   cons ps p=>
   cases ps with
   |cD k=>simp[ny] at h
   |
    idx i=>
    rw[h1] at hv abU ⊢
    have hi:i<xs.length:=hv.1
    rcases h7 with⟨_,_,h9⟩|⟨g,c,h7,h8,h9,h10,h11,h12⟩
    ·subst h9;simp at hi
    ·have hR:Rel w E.S (.arr xs.length t) (c.toList.take (xs.length*t.size)) xs:=⟨rfl,h12⟩
     simp only[ny,Kf] at h
     split at h
     ·rename_i y hy
      split at h
      ·rename_i z hz
       cases h
       have aO:fS (.arr xs.length t) xs (.idx i::p) x=some (.val (.arr xs.length t) (List.set xs i z)):=by
        simp only[fS]
        rw[hy];simp only;rw[hz]
       obtain⟨s,e1,e2,e3,e4⟩:=uU hx hR hv aO
       have hlen:xs.length*t.size≤c.toList.length:=by
        rw[show c.toList.length=c.size from fR,h10];exact fv _ h11
       have e3':=e3
       rw[fe,iN hlen,←e2] at e3'
       have hst:=run_storeCells_at P g ((Ty.arr xs.length t).off (.idx i::p)) e us 0 c w h9 (by rw[show c.toList.length=c.size from fR] at hlen;omega) (RC.one hx)
       refine⟨g,_,h7,hst,rfl,Tp.r rfl rfl,rfl,by simp,fun i hi=>setRow_other w g i _ hi,?_⟩
       have kp:bM E w E (w.setRow g (c.toList.take ((Ty.arr xs.length t).off (.idx i::p)+0)++us++c.toList.drop ((Ty.arr xs.length t).off (.idx i::p)+0+us.length)).toArray):=
        ⟨fun i hi=>setRow_other w g i _ (fun e=>hw.jT b _ g hb h7 (e▸hi)),fun _ h=>h⟩
       refine⟨by rw[bF];exact h1,by rw[bF];exact h2,by rw[bF];exact h3,h4,a,cap,by rw[bF];exact h5,h6,Or.inr ⟨g,_,h7,h8,setRow_heap w g c _ e _ h9,?_,by rw[bF];exact h11,?_⟩⟩
       ·rw[←h10];simp only[oJ,cN,fe,jY]
        rw[show c.toList.length=c.size from fR] at hlen ⊢;omega
       ·have:=RC.mono kp (fun _ _=>⟨rfl,rfl,rfl⟩) e4
        rw[←e2] at this
        have hh:=this.2
        simp only[Nat.add_zero,bF]
        rw[Dw _ _ _ _ (by omega) hlen]
        exact hh
      ·cases h
     ·cases h
 |
  bZ e bs t xs i v=>
  obtain⟨h1,h2,h3,h4,h5,h6,g,cap,c,q1,q2,q3,q4,q5,q6,q7,q8,q9⟩:=hk
  rw[h1] at hv abU ⊢
  unfold ny at h
  split at h
  ·rename_i hk;cases hk
  ·rename_i hk;cases hk
  ·rename_i p hk
   cases hk
   split at h
   ·rename_i u hu
    split at h
    ·rename_i hconf
     cases h
     have hv':t.valid p:=hv
     obtain⟨s,e1,e2,e3,e4⟩:=AV.kX hx q8 h6 hv' abU hu
     rw[←e2] at e3 e4
     rw[fe,jY] at e3
     have hoff:(jZ i xs.length t).off (.cD 1::p)=i*t.size+t.off p:=by simp[jZ,Ty.off,Ty.size]
     have hlen:i*t.size+t.size≤c.toList.length:=by
      rw[show c.toList.length=c.size from fR,q5]
      calc i*t.size+t.size=(i+1)*t.size:=by rw[cM];omega
       _≤cap*t.size:=fv _ (by omega)
     obtain⟨m1,m2,m3⟩:=yF (L:=c.toList) (us:=us) (a:=i*t.size) (o:=t.off p) (n:=t.size) (by omega) hlen
     have hst:=run_storeCells_at P g (i*t.size+t.off p) e us 0 c w q4 (by rw[show c.toList.length=c.size from fR] at hlen;omega) (RC.one hx)
     rw[hoff]
     refine⟨g,_,q3,hst,rfl,Tp.r rfl rfl,rfl,by simp,fun i hi=>setRow_other w g i _ hi,?_⟩
     have kp:bM E w E (w.setRow g (c.toList.take (i*t.size+t.off p+0)++us++c.toList.drop (i*t.size+t.off p+0+us.length)).toArray):=
      ⟨fun i hi=>setRow_other w g i _ (fun e=>hw.jT b _ g hb q3 (e▸hi)),fun _ h=>h⟩
     refine⟨h1,h2,h3,h4,h5,hconf,g,cap,_,q1,q2,q3,setRow_heap w g c _ e _ q4,?_,q6,?_,?_,?_⟩
     ·rw[←q5];simp only[oJ,cN,fe,jY]
      rw[show c.toList.length=c.size from fR] at hlen ⊢;omega
     ·simp only[Nat.add_zero]
      rw[m1]
      exact aT.mono (fun _ _=>Rel.mono kp.w kp.S) q7
     ·simp only[Nat.add_zero] at kp ⊢
      rw[m2]
      exact RC.mono kp (fun _ _=>⟨rfl,rfl,rfl⟩) e4
     ·simp only[Nat.add_zero] at kp ⊢
      rw[show(i+1)*t.size=i*t.size+t.size from by rw[cM];omega] at q9 ⊢
      rw[m3]
      exact aT.mono (fun _ _=>Rel.mono kp.w kp.S) q9
    ·cases h
   ·cases h
  ·rename_i hk;cases hk
  ·cases h
 |
  cL e bs t xs e2' f=>
  obtain⟨h1,h2,h3,h4,h5,g,cap,c,og,q1,q2,q3,q4,q5,q6,q7,q8⟩:=hk
  unfold ny at h
  split at h
  ·rename_i hk;cases hk
  ·rename_i hk;cases hk
  ·rename_i hk;cases hk
  ·rename_i i v p hk
   cases hk
   split at h
   ·rename_i u hu
    split at h
    ·rename_i hconf
     cases h
     obtain⟨hi,hcv⟩:=h5 i v rfl
     obtain⟨u',r1,r2,_⟩:=q8 i (xs.getD i t.aD) (by rw[jB,il hi];rfl)
     obtain⟨r0,r2⟩:=r2 v rfl
     rw[h1] at hv abU ⊢
     have hv':t.valid p:=hv
     have hc:c.toList[i]? =some u':=by simpa using r1
     have hmid:(c.toList.drop (i*t.size)).take t.size= [u']:=by
      rw[h2,Nat.mul_one]
      obtain⟨hlt,hc⟩:=List.getElem?_eq_some_iff.1 hc
      rw[jz hlt,hc];rfl
     rw[←hmid] at r2
     obtain⟨s,e1,e2,e3,e4⟩:=AV.kX hx r2 hcv hv' abU hu
     rw[←e2] at e3 e4
     rw[fe,jY] at e3
     have hoff:(nv xs.length t (some (i,v))).off (.cD 1::p)=i*t.size+t.off p:=by simp[nv,jZ,Ty.off,Ty.size]
     have hlen:i*t.size+t.size≤c.toList.length:=by
      rw[show c.toList.length=c.size from fR,q5,h2];omega
     obtain⟨m1,m2,m3⟩:=yF (L:=c.toList) (us:=us) (a:=i*t.size) (o:=t.off p) (n:=t.size) (by omega) hlen
     have hst:=run_storeCells_at P g (i*t.size+t.off p) e us 0 c w q4 (by rw[show c.toList.length=c.size from fR] at hlen;omega) (RC.one hx)
     rw[hoff]
     refine⟨g,_,q3,hst,rfl,Tp.r rfl rfl,rfl,by simp,fun i hi=>setRow_other w g i _ hi,?_⟩
     have kp:bM E w E (w.setRow g (c.toList.take (i*t.size+t.off p+0)++us++c.toList.drop (i*t.size+t.off p+0+us.length)).toArray):=
      ⟨fun i hi=>setRow_other w g i _ (fun e=>hw.jT b _ g hb q3 (e▸hi)),fun _ h=>h⟩
     simp only[Nat.add_zero] at kp ⊢
     rw[h2,Nat.mul_one] at m1 m2 m3 kp hlen ⊢
     have hsz:(c.toList.take (i+t.off p)++us++c.toList.drop (i+t.off p+us.length)).length=c.toList.length:=by
      rw[show c.toList.length=c.size from fR] at hlen ⊢
      simp only[cN,fe,jY,fR];omega
     refine⟨h1,h2,h3,h4,fun i' v' hv'=>by cases hv';exact⟨hi,hconf⟩,g,cap,_,og,q1,q2,q3,setRow_heap w g c _ e _ q4,?_,q6,q7,?_⟩
     ·rw[←q5,oJ,hsz];exact fR
     ·intro i' x' hx'
      obtain⟨z,s1,s2,s3⟩:=q8 i' x' hx'
      by_cases e:i'=i
      ·subst e
       rw[h2,Nat.mul_one] at e4 hmid
       rw[←m2] at e4
       have hlt:i'<(c.toList.take (i'+t.off p)++us++c.toList.drop (i'+t.off p+us.length)).length:=by rw[hsz];omega
       have e5:((c.toList.take (i'+t.off p)++us++c.toList.drop (i'+t.off p+us.length)).drop i').take 1= [(c.toList.take (i'+t.off p)++us++c.toList.drop (i'+t.off p+us.length))[i']]:=by
        rw[jz hlt];rfl
       rw[e5] at e4
       refine⟨(c.toList.take (i'+t.off p)++us++c.toList.drop (i'+t.off p+us.length))[i'],by rw[List.getElem?_toArray,il hlt],fun v' hv'=>?_,fun hv'=>absurd rfl (hv' u)⟩
       cases hv'
       exact⟨r0,RC.mono kp (fun _ _=>⟨rfl,rfl,rfl⟩) e4⟩
      ·refine⟨z,?_,fun v' hv'=>by cases hv';exact absurd rfl e,fun _=>?_⟩
       ·have s1:c.toList[i']? =some z:=by simpa using s1
        have hnew:(c.toList.take (i+t.off p)++us++c.toList.drop (i+t.off p+us.length))[i']? =some z:=by
         rcases Nat.lt_or_gt_of_ne e with hl|hl
         ·have a1:((c.toList.take (i+t.off p)++us++c.toList.drop (i+t.off p+us.length)).take i)[i']? =(c.toList.take i)[i']? :=by rw[m1]
          rw[oN,aA hl,oN,aA hl] at a1
          rw[a1];exact s1
         ·have a1:((c.toList.take (i+t.off p)++us++c.toList.drop (i+t.off p+us.length)).drop (i+1))[i' -(i+1)]? =(c.toList.drop (i+1))[i' -(i+1)]? :=by rw[m3]
          rw[List.getElem?_drop,List.getElem?_drop,show i+1+(i' -(i+1))=i' from by omega] at a1
          rw[a1];exact s1
        simpa using hnew
       ·have s4:=s3 (fun v' hv'=>by cases hv';exact e rfl)
        refine de.mono kp.w kp.S (fun gg hgg=>?_) s4
        exact setRow_other w g gg _ (q7.own i' gg hgg).2
    ·cases h
   ·cases h
  ·cases h
 |_=>simp[ny] at h
def wJ(G:bT)(hb:Nat→Option aN)(t:TypeId)(x y:AV):Option (Nat×aN):=
 match x,G.at t with
 |
  .ptr b p,some td=>match hb b with
  |
   some k=>match(iP k).sub p with
   |some s=>if Ty.same s td.ty&&Nat.beq y.size td.ty.size then(ny k p y).map fun k'=>(b,k') else none
   |none=>none
  |none=>none
 |_,_=>none
theorem Own.mf{hp:List (Option aN)}{E:Env}{b:Nat}{k k':aN}(hb:hp[b]? =some (some k)){i:Nat}:Own (hp.set b (some k')) E i→Own hp E i:=Own.set hb
theorem yG{P:Program}{G:bT}(T:bB P G){gl:Ctx}{σ:St}{E:Env}{a:Act}{w:World}(h:cd gl σ E a w){hb:Nat→Option aN}(hB:HB hb σ.hp){t:TypeId}{x y:AV}{vx vy:Value}(hx:RV E w x vx)(hy:cF E w y vy){b:Nat}{k':aN}
 (hev:wJ G hb t x y=some (b,k')):
 ∃w',(Instr.storeAt t vx vy).run P w= .ok () w'∧cd gl (σ.cH b (some k')) E a w'∧Ext gl.md (Own σ.hp E) E w (Own (σ.cH b (some k')).hp E) E w':=by
 unfold wJ at hev
 split at hev
 ·rename_i b' p td ht
  split at hev
  ·rename_i k hk
   split at hev
   ·rename_i s hs
    split at hev
    ·rename_i hc
     simp only[aV] at hc
     obtain⟨k2,hk2,e⟩:=Option.map_eq_some_iff.1 hev
     cases e
     have:=Ty.aB hc.1;subst this
     obtain⟨g,hg,e,hv⟩:=RV.atom rfl hx
     simp at e;subst e
     have hkb:=h.hw.cH b k (hB b k hk)
     have hbt:E.bt b=iP k:=by
      refine RB.bt hkb ?_
      cases k<;>first|rfl|simp[ny] at hk2
     have hyc:=hy.cells
     have hlen:=RC.len hyc
     have hsz:=bQ hc.2
     obtain⟨g',w',h1,h2,h3,h4,h5,h6,h7,h8⟩:=EN (P:=P) h.hw (hB b k hk) hv hyc (fun s' hs'=>by rw[hbt,hs] at hs';cases hs';omega) hk2
     rw[hg] at h1;cases h1
     have abW:(Instr.storeAt t (.pointer (some ⟨g,(E.bt b).off p,none⟩)) vy).run P w= .ok () w':=by
      have:vy.cells.size=td.ty.size:=by rw[←hsz,←hlen,fR]
      simp[Instr.storeAt,Instr.sureAddr,storeVar,T.size ht,this,h2]
     have kp:bM E w E w':=⟨fun i hi=>h7 i (fun e=>h.hw.jT b k g (hB b k hk) hg (e▸hi)),fun _ h=>h⟩
     have hhw:=h.hw.write (w':=w') (k':=k') (hB b k hk) h6 (fun i hi=>h7 i (fun e=>hi (e▸hg))) h8
     refine⟨w',abW,h.carry kp (fun _ _=>⟨rfl,rfl,rfl⟩) hhw,h3,h4,h5,by omega,?_,fun _ h=>h,fun _ h=>Or.inl h,fun i hi=>Or.inl (Own.set (hB b k hk) hi),fun _ _=>⟨rfl,rfl,rfl⟩⟩
     intro i hi ho
     exact h7 i (fun e=>ho ⟨b,k,hB b k hk,Or.inl (e▸hg)⟩)
    ·cases hev
   ·cases hev
  ·cases hev
 ·cases hev
end Go.Ax
namespace Go.Ax
structure aU where
 rt:List Nat
 rb:List Nat
 fr:List Nat
 dst:Option Nat
 v:AV
 hw:List (Nat×Option aN)
def aO(hp:List (Option aN)):List (Nat×Option aN)→List (Option aN)
 |[]=>hp
 |(b,k)::l=>aO (hp.set b k) l
def St.app(σ:St)(f:aU):St:=({σ with hp:=aO σ.hp f.hw}:St).put f.dst f.v
structure jF(σ σ':St)(rt rb:List Nat):Prop where
 tl:σ'.tm.length=σ.tm.length
 hl:σ'.hp.length=σ.hp.length
 tm:∀t∈rt,σ'.tm[t]? =σ.tm[t]?
 hp:∀b∈rb,σ'.hp[b]? =σ.hp[b]?
theorem jF.refl(σ:St)(rt rb:List Nat):jF σ σ rt rb:=⟨rfl,rfl,fun _ _=>rfl,fun _ _=>rfl⟩
def uz(P:Program)(gl:Ctx)(ops:Array Oper)(i:Nat)(f:aU)(σ:St):Prop:=
 ∀σ',jF σ σ' f.rt f.rb→(∀d∈f.fr,σ'.fresh d)→∀E a w,cd gl σ' E a w→∀(K:Act→World→Prop)(Q:Exit→Act→World→Prop),
  (∀E' a' w',cd gl (σ'.app f) E' a' w'→Ext gl.md (Own σ'.hp E) E w (Own (σ'.app f).hp E') E' w'→K a' w')→wpOpIn (Wd gl) 0 P ops Q i K a w
def ck(OK:Nat→aU→St→Prop):Nat→List aU→St→St→Prop
 |_,[],σ,σ'=>σ'=σ
 |i,f::fs,σ,σ'=>OK i f σ∧(∀d∈f.fr,σ.fresh d)∧ck OK (i+1) fs (σ.app f) σ'
abbrev oR(P:Program)(gl:Ctx)(ops:Array Oper):Nat→List aU→St→St→Prop:=ck (uz P gl ops)
theorem ck.mono{OK OK':Nat→aU→St→Prop}(hm:∀i f σ,OK i f σ→OK' i f σ):∀{fs:List aU}{i:Nat}{σ σ':St},ck OK i fs σ σ'→ck OK' i fs σ σ'
 |[],_,_,_,h=>h
 |_::_,_,_,_,⟨h1,h2,h3⟩=>⟨hm _ _ _ h1,h2,h3.mono hm⟩
theorem kE:∀(l:List (Nat×Option aN))(hp:List (Option aN)),(aO hp l).length=hp.length
 |[],_=>rfl
 |(b,k)::l,hp=>by rw[aO,kE l,bF]
def wrote:List (Nat×Option aN)→List Nat
 |[]=>[]
 |(b,_)::l=>b::wrote l
theorem ee{b:Nat}:∀{l:List (Nat×Option aN)}{hp:List (Option aN)},b∉wrote l→(aO hp l)[b]? =hp[b]?
 |[],_,_=>rfl
 |
  (c,k)::l,hp,h=>by
  simp only[wrote,eA,not_or] at h
  rw[aO,ee h.2,bK,aC (fun e=>h.1 e.symm)]
theorem pZ(σ:St)(f:aU):(σ.app f).tm.length=σ.tm.length:=by
 unfold St.app St.put;split<;>simp
theorem qa(σ:St)(f:aU):(σ.app f).hp.length=σ.hp.length:=by
 unfold St.app St.put;split<;>simp[kE]
theorem fU(σ:St)(f:aU):(σ.app f).hp=aO σ.hp f.hw:=by
 unfold St.app St.put;split<;>rfl
theorem sZ(σ:St)(f:aU):(σ.app f).df=σ.df:=by
 unfold St.app St.put;split<;>rfl
theorem gR{σ:St}{f:aU}{t:Nat}(h:f.dst≠some t):(σ.app f).tm[t]? =σ.tm[t]? :=by
 unfold St.app St.put
 split
 ·rename_i d hd
  simp only[bK]
  rw[aC (fun e=>h (by rw[hd,e]))]
 ·rfl
structure wK(gl:Ctx)(DS WB:List Nat)(σ0:St)(E0:Env)(w0:World)(σ:St)(E:Env)(w:World):Prop where
 df:σ.df=σ0.df
 tl:σ.tm.length=σ0.tm.length
 hl:σ.hp.length=σ0.hp.length
 tm:∀t,t∉DS→σ.tm[t]? =σ0.tm[t]?
 hp:∀b,b∉WB→σ.hp[b]? =σ0.hp[b]?
 ext:Ext gl.md (Own σ0.hp E0) E0 w0 (Own σ.hp E) E w
theorem wK.refl{gl:Ctx}{DS WB:List Nat}(σ:St)(E:Env)(w:World):wK gl DS WB σ E w σ E w:=⟨rfl,rfl,rfl,fun _ _=>rfl,fun _ _=>rfl,Ext.refl _ _ _⟩
def O5(DS WB:List Nat)(f:aU):Prop:=(∀d,f.dst=some d→d∈DS)∧∀b∈wrote f.hw,b∈WB
theorem wK.app{gl:Ctx}{DS WB:List Nat}{σ0 σ:St}{E0 E E':Env}{w0 w w':World}{f:aU}(h:wK gl DS WB σ0 E0 w0 σ E w)(hf:O5 DS WB f)(hx:Ext gl.md (Own σ.hp E) E w (Own (σ.app f).hp E') E' w'):wK gl DS WB σ0 E0 w0 (σ.app f) E' w' where
 df:=(sZ _ _).trans h.df
 tl:=(pZ _ _).trans h.tl
 hl:=(qa _ _).trans h.hl
 tm:=fun t ht=>(gR (fun e=>ht (hf.1 t e))).trans (h.tm t ht)
 hp:=fun b hb=>by rw[fU,ee (fun e=>hb (hf.2 b e))];exact h.hp b hb
 ext:=h.ext.trans hx
def Ld(P:Program)(gl:Ctx)(ops:Array Oper)(Q:Exit→Act→World→Prop)(V:St→Env→World→Prop)(i:Nat)(f:aU)(σ:St):Prop:=
 ∀σ',jF σ σ' f.rt f.rb→(∀d∈f.fr,σ'.fresh d)→∀E a w,cd gl σ' E a w→V σ' E w→∀(K:Act→World→Prop),
  (∀E' a' w',cd gl (σ'.app f) E' a' w'→Ext gl.md (Own σ'.hp E) E w (Own (σ'.app f).hp E') E' w'→K a' w')→wpOpIn (Wd gl) 0 P ops Q i K a w
theorem uz.q{P:Program}{gl:Ctx}{ops:Array Oper}{Q:Exit→Act→World→Prop}{V:St→Env→World→Prop}{i:Nat}{f:aU}{σ:St}(h:uz P gl ops i f σ):Ld P gl ops Q V i f σ:=
 fun σ' h1 h2 E a w hg _ K hk=>h σ' h1 h2 E a w hg K Q hk
section
variable{P:Program} {gl:Ctx} {ops:Array Oper} {Q:Exit→Act→World→Prop} {DS WB:List Nat} {σ0:St} {E0:Env} {w0:World}
theorem EO.wp{σ':St}(hq:∀E' a' w',cd gl σ' E' a' w'→wK gl DS WB σ0 E0 w0 σ' E' w'→Q .normal a' w'):∀{fs:List aU}{i:Nat}{σ:St},(∀f∈fs,O5 DS WB f)→ck (Ld P gl ops Q (wK gl DS WB σ0 E0 w0)) i fs σ σ'→∀{E:Env}{a:Act}{w:World},cd gl σ E a w→wK gl DS WB σ0 E0 w0 σ E w→
 wpOpsIn (Wd gl) 0 P ops Q ((List.range fs.length).map (·+i)) a w
 |
  [],i,σ,_,h,E,a,w,hg,hv=>by
  simp only[ck] at h;subst h
  exact hq E a w hg hv
 |
  f::fs,i,σ,hi,⟨h1,h2,h3⟩,E,a,w,hg,hv=>by
  have e:(List.range (f::fs).length).map (·+i)=i::(List.range fs.length).map (·+(i+1)):=by
   rw[dE,List.range_succ_eq_map]
   simp only[dp,cZ,jC]
   congr 1
   apply List.map_congr_left
   intro x _
   simp;omega
  rw[e,wpOpsIn_cons]
  refine h1 σ (jF.refl _ _ _) h2 E a w hg hv _ ?_
  intro E' a' w' hg' hx
  exact EO.wp hq (fun g hm=>hi g (dr _ hm)) h3 hg' (hv.app (hi f (cK ..)) hx)
end
def dstsOf(fs:List aU):List Nat:=fs.flatMap fun f=>f.dst.toList
def k7(fs:List aU):List Nat:=fs.flatMap fun f=>wrote f.hw
theorem EP{fs:List aU}:∀f∈fs,O5 (dstsOf fs) (k7 fs) f:=fun f hf=>
 ⟨fun d hd=>List.mem_flatMap.2 ⟨f,hf,by simp[hd]⟩,fun b hb=>List.mem_flatMap.2 ⟨f,hf,hb⟩⟩
theorem qI{P:Program}{gl:Ctx}{ops:Array Oper}{id:Nat}{fs:List aU}{σ σ':St}{Q:Exit→Act→World→Prop}{E:Env}{a:Act}{w:World}(hn:fs.length=ops.size)(h:ck (Ld P gl ops Q (wK gl (dstsOf fs) (k7 fs) σ E w)) 0 fs σ σ')(hg:cd gl σ E a w)
 (hq:∀E' a' w',cd gl σ' E' a' w'→wK gl (dstsOf fs) (k7 fs) σ E w σ' E' w'→Q .normal a' w'):(Code.region id ops false).wpIn (Wd gl) 0 P Q a w:=by
 refine wpIn_region ?_
 have:=EO.wp hq EP h hg (wK.refl _ _ _)
 rw[hn] at this
 simpa using this
theorem Au{P:Program}{gl:Ctx}{ops:Array Oper}{id:Nat}{fs:List aU}{σ σ':St}(hn:fs.length=ops.size)(h:oR P gl ops 0 fs σ σ'){Q:Exit→Act→World→Prop}{E:Env}{a:Act}{w:World}(hg:cd gl σ E a w)
 (hq:∀E' a' w',cd gl σ' E' a' w'→Ext gl.md (Own σ.hp E) E w (Own σ'.hp E') E' w'→Q .normal a' w'):(Code.region id ops false).wpIn (Wd gl) 0 P Q a w:=
 qI hn (h.mono fun _ _ _=>uz.q) hg (fun E' a' w' h1 h2=>hq E' a' w' h1 h2.ext)
theorem iw{b:Nat}:∀{l:List (Nat×Option aN)}{hp hp':List (Option aN)},hp.length=hp'.length→hp[b]? =hp'[b]? →(aO hp l)[b]? =(aO hp' l)[b]?
 |[],_,_,_,h=>h
 |
  (c,k)::l,hp,hp',hl,h=>by
  rw[aO,aO]
  refine iw (by simp[hl]) ?_
  rw[bK,bK,hl,h]
theorem tc{b:Nat}:∀{l:List (Nat×Option aN)}{hp hp':List (Option aN)},hp.length=hp'.length→b∈wrote l→(aO hp l)[b]? =(aO hp' l)[b]?
 |[],_,_,_,h=>by cases h
 |
  (c,k)::l,hp,hp',hl,h=>by
  rw[aO,aO]
  by_cases hb:b∈wrote l
  ·exact tc (by simp[hl]) hb
  ·simp only[wrote,eA] at h
   have e:b=c:=h.resolve_right hb
   subst e
   rw[ee hb,ee hb,bK,bK,hl]
   simp
theorem yH{σ σ':St}{f:aU}{t:Nat}(hl:σ.tm.length=σ'.tm.length)(h:σ.tm[t]? =σ'.tm[t]?):(σ.app f).tm[t]? =(σ'.app f).tm[t]? :=by
 unfold St.app St.put
 split
 ·simp only[bK]
  rw[hl,h]
 ·exact h
theorem wL{σ σ':St}{f:aU}{t:Nat}(hl:σ.tm.length=σ'.tm.length)(h:f.dst=some t):(σ.app f).tm[t]? =(σ'.app f).tm[t]? :=by
 unfold St.app St.put
 rw[h]
 simp only[bK]
 rw[hl];simp
def dj(X:Nat→Bool):Nat→List aU→St→St
 |_,[],σ=>σ
 |i,f::fs,σ=>dj X (i+1) fs (if X i then σ.app f else σ)
theorem rN(X:Nat→Bool):∀(fs:List aU)(i:Nat)(σ:St),(dj X i fs σ).tm.length=σ.tm.length
 |[],_,_=>rfl
 |f::fs,i,σ=>by rw[dj,rN X fs];split<;>simp[pZ]
theorem rO(X:Nat→Bool):∀(fs:List aU)(i:Nat)(σ:St),(dj X i fs σ).hp.length=σ.hp.length
 |[],_,_=>rfl
 |f::fs,i,σ=>by rw[dj,rO X fs];split<;>simp[qa]
theorem wM(X:Nat→Bool):∀(fs:List aU)(i:Nat)(σ:St),(dj X i fs σ).df=σ.df
 |[],_,_=>rfl
 |f::fs,i,σ=>by rw[dj,wM X fs];split<;>simp[sZ]
theorem rP{X Y:Nat→Bool}{t:Nat}:∀{fs:List aU}{i:Nat}{σ σ':St},σ.tm.length=σ'.tm.length→σ.tm[t]? =σ'.tm[t]? →(∀(k:Nat)(f:aU),fs[k]? =some f→X (i+k)≠Y (i+k)→f.dst≠some t)→
 (dj X i fs σ).tm[t]? =(dj Y i fs σ').tm[t]?
 |[],_,_,_,_,h,_=>h
 |
  f::fs,i,σ,σ',hl,h,hd=>by
  rw[dj,dj]
  refine rP ?_ ?_ (fun k g hk hne=>hd (k+1) g (by simpa using hk) (by rw[show i+(k+1)=i+1+k from by omega];exact hne))
  ·split<;>split<;>simp[pZ,hl]
  ·by_cases hx:X i=Y i
   ·rw[hx];split
    ·exact yH hl h
    ·exact h
   ·have:=hd 0 f rfl (by simpa using hx)
    split<;>split<;>simp_all[gR]
theorem rQ{X Y:Nat→Bool}{b:Nat}:∀{fs:List aU}{i:Nat}{σ σ':St},σ.hp.length=σ'.hp.length→σ.hp[b]? =σ'.hp[b]? →(∀(k:Nat)(f:aU),fs[k]? =some f→X (i+k)≠Y (i+k)→b∉wrote f.hw)→
 (dj X i fs σ).hp[b]? =(dj Y i fs σ').hp[b]?
 |[],_,_,_,_,h,_=>h
 |
  f::fs,i,σ,σ',hl,h,hd=>by
  rw[dj,dj]
  refine rQ ?_ ?_ (fun k g hk hne=>hd (k+1) g (by simpa using hk) (by rw[show i+(k+1)=i+1+k from by omega];exact hne))
  ·split<;>split<;>simp[qa,hl]
  ·by_cases hx:X i=Y i
   ·rw[hx];split
    ·rw[fU,fU];exact iw hl h
    ·exact h
   ·have:=hd 0 f rfl (by simpa using hx)
    split<;>split<;>simp_all[fU,ee]
theorem oS{X:Nat→Bool}{t:Nat}{fi:aU}(hw:fi.dst=some t):∀{fs:List aU}{i j:Nat}{σ σ':St},σ.tm.length=σ'.tm.length→fs[j]? =some fi→X (i+j)=true→(∀(k:Nat)(f:aU),fs[k]? =some f→j<k→X (i+k)=true→f.dst≠some t)→
 (dj X i fs σ).tm[t]? =(σ'.app fi).tm[t]?
 |[],_,_,_,_,_,h,_,_=>by simp at h
 |
  f::fs,i,0,σ,σ',hl,hf,hx,hd=>by
  simp at hf;subst hf
  rw[dj]
  simp only[Nat.add_zero] at hx
  rw[hx]
  have:(dj X (i+1) fs (σ.app f)).tm[t]? =(dj (fun _=>false) (i+1) fs (σ'.app f)).tm[t]? :=by
   refine rP (by simp[pZ,hl]) (wL hl hw) (fun k g hk hne=>?_)
   refine hd (k+1) g (by simpa using hk) (by omega) ?_
   rw[show i+(k+1)=i+1+k from by omega]
   simpa using hne
  rw[aA rfl,this]
  have hid:∀(fs:List aU)(i:Nat)(σ:St),dj (fun _=>false) i fs σ=σ:=by
   intro fs
   induction fs with
   |nil=>intro i σ;rfl
   |cons f fs ih=>intro i σ;rw[dj];simp only[cm,bP];exact ih _ _
  rw[hid]
 |
  f::fs,i,j+1,σ,σ',hl,hf,hx,hd=>by
  rw[dj]
  refine oS hw (j:=j) ?_ (by simpa using hf) (by rw[show i+1+j=i+(j+1) from by omega];exact hx) (fun k g hk hjk hxk=>hd (k+1) g (by simpa using hk) (by omega) (by rw[show i+(k+1)=i+1+k from by omega];exact hxk))
  split<;>simp[pZ,hl]
theorem oT{X:Nat→Bool}{b:Nat}{fi:aU}(hw:b∈wrote fi.hw):∀{fs:List aU}{i j:Nat}{σ σ':St},σ.hp.length=σ'.hp.length→fs[j]? =some fi→X (i+j)=true→(∀(k:Nat)(f:aU),fs[k]? =some f→j<k→X (i+k)=true→b∉wrote f.hw)→
 (dj X i fs σ).hp[b]? =(σ'.app fi).hp[b]?
 |[],_,_,_,_,_,h,_,_=>by simp at h
 |
  f::fs,i,0,σ,σ',hl,hf,hx,hd=>by
  simp at hf;subst hf
  rw[dj]
  simp only[Nat.add_zero] at hx
  rw[hx]
  have:(dj X (i+1) fs (σ.app f)).hp[b]? =(dj (fun _=>false) (i+1) fs (σ'.app f)).hp[b]? :=by
   refine rQ (by simp[qa,hl]) (by rw[fU,fU];exact tc hl hw) (fun k g hk hne=>?_)
   refine hd (k+1) g (by simpa using hk) (by omega) ?_
   rw[show i+(k+1)=i+1+k from by omega]
   simpa using hne
  rw[aA rfl,this]
  have hid:∀(fs:List aU)(i:Nat)(σ:St),dj (fun _=>false) i fs σ=σ:=by
   intro fs
   induction fs with
   |nil=>intro i σ;rfl
   |cons f fs ih=>intro i σ;rw[dj];simp only[cm,bP];exact ih _ _
  rw[hid]
 |
  f::fs,i,j+1,σ,σ',hl,hf,hx,hd=>by
  rw[dj]
  refine oT hw (j:=j) ?_ (by simpa using hf) (by rw[show i+1+j=i+(j+1) from by omega];exact hx) (fun k g hk hjk hxk=>hd (k+1) g (by simpa using hk) (by omega) (by rw[show i+(k+1)=i+1+k from by omega];exact hxk))
  split<;>simp[qa,hl]
end Go.Ax
namespace Go.Ax
def Le:Option aN→List Nat
 |some k=>k.ids
 |none=>[]
def BY:List (Nat×Option aN)→List Nat
 |[]=>[]
 |(_,k)::l=>Le k++BY l
def aU.Kg(f:aU):List Nat:=f.v.ids++BY f.hw
theorem k8{σ:St}{d:Nat}:d∉σ.ids↔(∀(i:Nat)(x:AV),σ.tm[i]? =some x→d∉x.ids)∧(∀x∈σ.df,d∉x.ids)∧(∀(i:Nat)(k:aN),σ.hp[i]? =some (some k)→d∉k.ids):=by
 constructor
 ·intro h
  exact⟨fun i x hx hm=>h (St.Ao hx d hm),fun x hx hm=>h (St.EF hx d hm),fun i k hk hm=>h (St.wH hk d hm)⟩
 ·rintro⟨h1,h2,h3⟩ hm
  simp only[St.ids,gA,qE,List.mem_filterMap] at hm
  rcases hm with(⟨x,hx,hd⟩|⟨x,hx,hd⟩)|⟨k,⟨o,ho,e⟩,hd⟩
  ·obtain⟨i,hi⟩:=List.getElem?_of_mem hx
   exact h1 i x hi hd
  ·exact h2 x hx hd
  ·simp at e;subst e
   obtain⟨i,hi⟩:=List.getElem?_of_mem ho
   exact h3 i k hi hd
theorem yI{d:Nat}:∀{l:List (Nat×Option aN)}{hp:List (Option aN)},(∀(i:Nat)(k:aN),hp[i]? =some (some k)→d∉k.ids)→d∉BY l→∀(i:Nat)(k:aN),(aO hp l)[i]? =some (some k)→d∉k.ids
 |[],_,h,_=>h
 |
  (b,o)::l,hp,h,hm=>by
  simp only[BY,gA,not_or] at hm
  refine yI (l:=l) (hp:=hp.set b o) ?_ hm.2
  intro i k hk
  rw[bK] at hk
  split at hk
  ·split at hk
   ·simp at hk;subst hk;exact hm.1
   ·cases hk
  ·exact h i k hk
theorem Dx{σ:St}{f:aU}{d:Nat}(h:σ.fresh d)(hm:d∉f.Kg)(hw:d∉wrote f.hw):(σ.app f).fresh d:=by
 simp only[aU.Kg,gA,not_or] at hm
 obtain⟨h1,h2,h3⟩:=h
 rw[k8] at h1
 obtain⟨a1,a2,a3⟩:=h1
 refine⟨?_,?_,h3⟩
 ·rw[k8]
  refine⟨?_,?_,?_⟩
  ·intro i x hx
   by_cases e:f.dst=some i
   ·unfold St.app St.put at hx
    rw[e] at hx
    simp only[bK] at hx
    simp only[bC] at hx
    split at hx
    ·cases hx;exact hm.1
    ·cases hx
   ·rw[gR e] at hx;exact a1 i x hx
  ·rw[sZ];exact a2
  ·rw[fU];exact yI a3 hm.2
 ·intro k
  rw[fU,ee hw];exact h2 k
theorem th{X:Nat→Bool}{d:Nat}:∀{fs:List aU}{i:Nat}{σ:St},σ.fresh d→(∀(k:Nat)(f:aU),fs[k]? =some f→X (i+k)=true→d∉f.Kg∧d∉wrote f.hw)→(dj X i fs σ).fresh d
 |[],_,_,h,_=>h
 |
  f::fs,i,σ,h,hd=>by
  rw[dj]
  refine th ?_ (fun k g hk hx=>hd (k+1) g (by simpa using hk) (by rw[show i+(k+1)=i+1+k from by omega];exact hx))
  split
  ·rename_i hx
   have:=hd 0 f rfl (by simpa using hx)
   exact Dx h this.1 this.2
  ·exact h
def Nn(acc:List Nat)(o:Oper):Nat:=
 o.after.toList.foldl (fun s e=>if Region.binds .any e then s ||| 2^e.on ||| acc.getD e.on 0 else s) 0
def qb:List Oper→List Nat→List Nat
 |[],acc=>acc
 |o::l,acc=>qb l (acc++[Nn acc o])
theorem tj{X:Nat→Bool}{acc:List Nat}(hacc:∀j k,X j=true→(acc.getD j 0).testBit k=true→X k=true):∀(l:List Edge)(s:Nat),(∀e∈l,Region.binds .any e=true→X e.on=true)→(∀k,s.testBit k=true→X k=true)→
 ∀k,(l.foldl (fun s e=>if Region.binds .any e then s ||| 2^e.on ||| acc.getD e.on 0 else s) s).testBit k=true→X k=true
 |[],s,_,hs=>hs
 |
  e::l,s,hl,hs=>by
  refine tj hacc l _ (fun e' he'=>hl e' (dr _ he')) ?_
  intro k hk
  simp only at hk
  split at hk
  ·rename_i hb
   have hX:=hl e (cK ..) hb
   simp only[Nat.testBit_or,ek,Nat.testBit_two_pow] at hk
   rcases hk with(hk|hk)|hk
   ·exact hs k hk
   ·have:=gN hk;subst this;exact hX
   ·exact hacc e.on k hX hk
  ·exact hs k hk
theorem uW{X:Nat→Bool}:∀(l:List Oper)(acc:List Nat),(∀j k,X j=true→(acc.getD j 0).testBit k=true→X k=true)→
 (∀j o,l[j]? =some o→X (acc.length+j)=true→∀e∈o.after.toList,Region.binds .any e=true→X e.on=true)→
 ∀j k,X j=true→((qb l acc).getD j 0).testBit k=true→X k=true
 |[],_,h,_=>h
 |
  o::l,acc,h,hc=>by
  refine uW l _ ?_ ?_
  ·intro j k hj hk
   rw[jB,List.getElem?_append] at hk
   split at hk
   ·rw[←jB] at hk;exact h j k hj hk
   ·by_cases e:j=acc.length
    ·subst e
     simp at hk
     exact tj h o.after.toList 0 (hc 0 o rfl (by simpa using hj)) (fun k hk=>by simp at hk) k hk
    ·rw[List.getElem?_eq_none (by simp;omega)] at hk
     simp at hk
  ·intro j o' ho hx
   exact hc (j+1) o' (by simpa using ho) (by rw[cN,cS] at hx;rw[show acc.length+(j+1)=acc.length+1+j from by omega];exact hx)
def gw:List Nat→List Nat→Bool
 |[],_=>false
 |x::l,m=>cT x m||gw l m
theorem mh{d:Nat}:∀{l:List Nat},d∈l→cT d l=true
 |
  x::l,h=>by
  simp only[cT,ek]
  cases h with
  |head=>exact Or.inl (Nat.beq_refl d)
  |tail _ h=>exact Or.inr (mh h)
theorem oU{d:Nat}:∀{l m:List Nat},d∈l→d∈m→gw l m=true
 |
  x::l,m,h,hm=>by
  simp only[gw,ek]
  cases h with
  |head=>exact Or.inl (mh hm)
  |tail _ h=>exact Or.inr (oU h hm)
def aU.wt(f:aU):List Nat:=f.dst.toList
def aU.wb(f:aU):List Nat:=wrote f.hw++f.fr
def oV(f g:aU):Bool:=
 gw f.wt (g.rt++g.wt)||gw f.rt g.wt||gw f.wb (g.rb++g.wb)||gw f.rb g.wb||gw f.fr g.Kg
def mi(masks:Nat)(g:aU):Nat→List aU→Bool
 |_,[]=>true
 |i,f::fs=>(!oV f g||masks.testBit i)&& !gw g.fr (f.Kg++wrote f.hw)&&mi masks g (i+1) fs
def oW(masks:List Nat)(all:List aU):Nat→List aU→Bool
 |_,[]=>true
 |j,g::fs=>mi (masks.getD j 0) g 0 (all.take j)&&oW masks all (j+1) fs
theorem qJ{m:Nat}{g:aU}:∀{fs:List aU}{i:Nat},mi m g i fs=true→∀k f,fs[k]? =some f→(oV f g=true→m.testBit (i+k)=true)∧gw g.fr (f.Kg++wrote f.hw)=false
 |[],_,_,k,f,h=>by simp at h
 |
  f0::fs,i,h,k,f,hk=>by
  simp only[mi,aV,ek,iM] at h
  cases k with
  |zero=>simp at hk;subst hk;exact⟨fun hc=>by rcases h.1.1 with h1|h1;rw[hc] at h1;cases h1;exact h1,h.1.2⟩
  |succ k=>have:=qJ h.2 k f (by simpa using hk);rw[show i+(k+1)=i+1+k from by omega];exact this
theorem qK{masks:List Nat}{all:List aU}:∀{fs:List aU}{j:Nat},oW masks all j fs=true→∀k g,fs[k]? =some g→mi (masks.getD (j+k) 0) g 0 (all.take (j+k))=true
 |[],_,_,k,g,h=>by simp at h
 |
  g0::fs,j,h,k,g,hk=>by
  simp only[oW,aV] at h
  cases k with
  |zero=>simp at hk;subst hk;exact h.1
  |succ k=>have:=qK h.2 k g (by simpa using hk);rw[show j+(k+1)=j+1+k from by omega];exact this
def uX(ops:List Oper):Nat→Bool:=fun j=>match ops[j]? with
 |some o=>o.after.toList.all fun e=> !Region.binds .any e||Nat.blt e.on j
 |none=>true
def lH(ops:Array Oper)(fs:List aU):Bool:=
 Nat.beq fs.length ops.size&&oW (qb ops.toList []) fs 0 fs&&(List.range ops.size).all (uX ops.toList)
theorem ck.nth{OK:Nat→aU→St→Prop}:∀{fs:List aU}{i:Nat}{σ σ':St},ck OK i fs σ σ'→∀(k:Nat)(f:aU),fs[k]? =some f→OK (i+k) f (dj (fun x=>decide (x<i+k)) i fs σ)
 |[],_,_,_,_,k,f,h=>by simp at h
 |
  g::fs,i,σ,σ',⟨h1,h2,h3⟩,k,f,hk=>by
  cases k with
  |
   zero=>
   simp at hk;subst hk
   rw[dj]
   simp only[Nat.add_zero,Nat.lt_irrefl,decide_false,cm,bP]
   have hid:∀(fs:List aU)(j:Nat)(σ:St),i<j→dj (fun x=>decide (x<i)) j fs σ=σ:=by
    intro fs
    induction fs with
    |nil=>intro j σ _;rfl
    |cons f fs ih=>intro j σ hj;rw[dj,aC (by simp;omega)];exact ih _ _ (by omega)
   rw[hid fs (i+1) σ (by omega)];exact h1
  |
   succ k=>
   have:=ck.nth h3 k f (by simpa using hk)
   rw[dj,aA (by simp)]
   rw[show i+(k+1)=i+1+k from by omega]
   exact this
theorem ck.last{OK:Nat→aU→St→Prop}:∀{fs:List aU}{i:Nat}{σ σ':St},ck OK i fs σ σ'→∀{X:Nat→Bool},(∀k,i≤k→k<i+fs.length→X k=true)→σ'=dj X i fs σ
 |[],_,_,_,h,_,_=>h
 |
  f::fs,i,σ,σ',⟨_,_,h⟩,X,hX=>by
  rw[dj,aA (hX i (cq _) (by simp))]
  exact ck.last h (fun k h1 h2=>hX k (by omega) (by simp;omega))
theorem eU{l m:List Nat}(h:gw l m=false){d:Nat}(hd:d∈l):d∉m:=fun hm=>by
 rw[oU hd hm] at h;cases h
section
variable{ops:Array Oper} {fs:List aU} {σ:St}
theorem Av(fV:lH ops fs=true)(hfr:∀(k:Nat)(f:aU),fs[k]? =some f→∀d∈f.fr,σ.fresh d)
 {X:Nat→Bool} (hX:∀j o,ops[j]? =some o→X j=true→∀e∈o.after.toList,Region.binds .any e=true→X e.on=true)
 {i:Nat} {o:Oper} (ho:ops[i]? =some o) (hi:X i=false) (hpre:∀e∈o.after.toList,Region.binds .any e=true→X e.on=true) {f:aU} (hf:fs[i]? =some f):
 jF (dj (fun x=>decide (x<i)) 0 fs σ) (dj X 0 fs σ) f.rt f.rb∧(∀d∈f.fr,(dj X 0 fs σ).fresh d)∧(dj X 0 fs σ).app f=dj (fun x=>X x||x==i) 0 fs σ:=by
 simp only[lH,aV] at fV
 obtain⟨⟨hlen,hconf⟩,hedge⟩:=fV
 have hmask:∀(Y:Nat→Bool),(∀j o,ops[j]? =some o→Y j=true→∀e∈o.after.toList,Region.binds .any e=true→Y e.on=true)→∀j k,Y j=true→((qb ops.toList []).getD j 0).testBit k=true→Y k=true:=by
  intro Y hY
  refine uW ops.toList [] (fun j k _ hk=>by simp at hk) ?_
  intro j o' ho' hj
  simp only[jA,cZ] at hj
  exact hY j o' (by simpa using ho') hj
 have pair:∀(k j:Nat)(g h:aU),k<j→fs[k]? =some g→fs[j]? =some h→(oV g h=true→((qb ops.toList []).getD j 0).testBit k=true)∧gw h.fr (g.Kg++wrote g.hw)=false:=by
  intro k j g h hkj hg hh
  have:=qK hconf j h hh
  have:=qJ this k g (by rw[oN,aA (by omega)];exact hg)
  simpa using this
 have early:∀(k:Nat)(g:aU),fs[k]? =some g→k<i→X k=false→oV g f=false:=by
  intro k g hg hki hXk
  cases hcf:oV g f with
  |false=>rfl
  |
   true=>
   have hm:=(pair k i g f hki hg hf).1 hcf
   have:=hmask (fun x=>X x||x==i) (by
    intro j o' ho' hj e he hb
    simp only[ek,beq_iff_eq] at hj ⊢
    rcases hj with hj|hj
    ·exact Or.inl (hX j o' ho' hj e he hb)
    ·subst hj;rw[ho] at ho';cases ho';exact Or.inl (hpre e he hb)) i k (by simp) hm
   simp only[ek,beq_iff_eq] at this
   rcases this with h|h
   ·rw[hXk] at h;cases h
   ·omega
 have late:∀(k:Nat)(g:aU),fs[k]? =some g→i<k→X k=true→oV f g=false:=by
  intro k g hg hki hXk
  cases hcf:oV f g with
  |false=>rfl
  |
   true=>
   have hm:=(pair i k f g hki hf hg).1 hcf
   have:=hmask X hX k i hXk hm
   rw[hi] at this;cases this
 have cf:∀{g h:aU},oV g h=false→(∀t,g.dst=some t→t∉h.rt∧h.dst≠some t)∧(∀t,h.dst=some t→t∉g.rt)∧(∀b∈g.wb,b∉h.rb∧b∉h.wb)∧(∀b∈h.wb,b∉g.rb)∧(∀b∈g.fr,b∉h.Kg):=by
  intro g h hc
  simp only[oV,Bool.or_eq_false_iff] at hc
  obtain⟨⟨⟨⟨h1,h2⟩,h3⟩,h4⟩,h5⟩:=hc
  refine⟨?_,?_,?_,?_,fun b hb=>eU h5 hb⟩
  ·intro t ht
   have:=eU h1 (d:=t) (by simp[aU.wt,ht])
   simp only[gA,not_or,aU.wt,Option.mem_toList] at this
   exact⟨this.1,this.2⟩
  ·intro t ht hm
   exact eU h2 hm (by simp[aU.wt,ht])
  ·intro b hb
   have:=eU h3 hb
   simpa using this
  ·intro b hb hm
   exact eU h4 hm hb
 refine⟨⟨?_,?_,?_,?_⟩,?_,?_⟩
 ·rw[rN,rN]
 ·rw[rO,rO]
 ·intro t ht
  refine rP rfl rfl (fun k g hg hne=>?_)
  simp only[cZ] at hne
  intro hd
  rcases Nat.lt_trichotomy k i with h|h|h
  ·have hXk:X k=false:=by
    cases hx:X k with
    |false=>rfl
    |true=>simp[hx,h] at hne
   exact((cf (early k g hg h hXk)).1 t hd).1 ht
  ·subst h;simp[hi] at hne
  ·have hXk:X k=true:=by
    cases hx:X k with
    |true=>rfl
    |false=>simp[hx] at hne;omega
   exact(cf (late k g hg h hXk)).2.1 t hd ht
 ·intro b hb
  refine rQ rfl rfl (fun k g hg hne=>?_)
  simp only[cZ] at hne
  intro hd
  rcases Nat.lt_trichotomy k i with h|h|h
  ·have hXk:X k=false:=by
    cases hx:X k with
    |false=>rfl
    |true=>simp[hx,h] at hne
   exact((cf (early k g hg h hXk)).2.2.1 b (by simp[aU.wb,hd])).1 hb
  ·subst h;simp[hi] at hne
  ·have hXk:X k=true:=by
    cases hx:X k with
    |true=>rfl
    |false=>simp[hx] at hne;omega
   exact(cf (late k g hg h hXk)).2.2.2.1 b (by simp[aU.wb,hd]) hb
 ·intro d hd
  refine th (hfr i f hf d hd) (fun k g hg hx=>?_)
  simp only[cZ] at hx
  rcases Nat.lt_trichotomy k i with h|h|h
  ·have hp:=pair k i g f h hg hf
   have:=eU hp.2 hd
   simpa using this
  ·subst h;rw[hi] at hx;cases hx
  ·have:=cf (late k g hg h hx)
   refine⟨fun hm=>this.2.2.2.2 d hd hm,fun hw=>(this.2.2.1 d (by simp[aU.wb,hd])).2 (by simp[aU.wb,hw])⟩
 ·have hlt:i<fs.length:=(List.getElem?_eq_some_iff.1 hf).1
  have tmEq:∀t:Nat,((dj X 0 fs σ).app f).tm[t]? =(dj (fun x=>X x||x==i) 0 fs σ).tm[t]? :=by
   intro t
   by_cases hd:f.dst=some t
   ·symm
    refine oS hd (j:=i) (by rw[rN]) hf (by simp) (fun k g hg hik hxk=>?_)
    simp only[cZ,ek,beq_iff_eq] at hxk
    have hXk:X k=true:=hxk.resolve_right (by omega)
    exact((cf (late k g hg hik hXk)).1 t hd).2
   ·rw[gR hd]
    refine rP rfl rfl (fun k g hg hne=>?_)
    simp only[cZ] at hne
    have:k=i:=by
     by_cases e:k=i
     ·exact e
     ·simp[e] at hne
    subst this
    rw[hf] at hg;cases hg
    exact hd
  have hpEq:∀b:Nat,((dj X 0 fs σ).app f).hp[b]? =(dj (fun x=>X x||x==i) 0 fs σ).hp[b]? :=by
   intro b
   by_cases hd:b∈wrote f.hw
   ·symm
    refine oT hd (j:=i) (by rw[rO]) hf (by simp) (fun k g hg hik hxk=>?_)
    simp only[cZ,ek,beq_iff_eq] at hxk
    have hXk:X k=true:=hxk.resolve_right (by omega)
    intro hw
    exact((cf (late k g hg hik hXk)).2.2.1 b (by simp[aU.wb,hd])).2 (by simp[aU.wb,hw])
   ·rw[fU,ee hd]
    refine rQ rfl rfl (fun k g hg hne=>?_)
    simp only[cZ] at hne
    have:k=i:=by
     by_cases e:k=i
     ·exact e
     ·simp[e] at hne
    subst this
    rw[hf] at hg;cases hg
    exact hd
  have e1:=List.ext_getElem? tmEq
  have e2:=List.ext_getElem? hpEq
  have e3:((dj X 0 fs σ).app f).df=(dj (fun x=>X x||x==i) 0 fs σ).df:=by rw[sZ,wM,wM]
  cases h1:(dj X 0 fs σ).app f
  cases h2:dj (fun x=>X x||x==i) 0 fs σ
  rw[h1] at e1 e2 e3
  rw[h2] at e1 e2 e3
  simp only at e1 e2 e3
  rw[e1,e2,e3]
end
def jG(l:Array Bool):Nat:=(l.toList.filter (·==false)).length
theorem nz:∀(m:List Bool)(i:Nat),m[i]? =some false→((m.set i true).filter (·==false)).length+1=(m.filter (·==false)).length
 |[],_,h=>by simp at h
 |x::m,0,h=>by simp at h;subst h;simp
 |
  x::m,i+1,h=>by
  have:=nz m i (by simpa using h)
  simp only[List.set_cons_succ,lE]
  cases x<;>simp<;>simpa using this
theorem wN{l:Array Bool}{i:Nat}(h:l.getD i true=false):jG (l.setIfInBounds i true)+1=jG l:=by
 have hi:i<l.size:=by
  rcases Nat.lt_or_ge i l.size with h'|h'
  ·exact h'
  ·simp[Array.getElem?_eq_none h'] at h
 have hv:l[i]? =some false:=by
  simp[hi] at h ⊢;exact h
 unfold jG
 rw[Array.toList_setIfInBounds]
 exact nz _ i (by simpa using hv)
theorem uA{l:Array Bool}(h:jG l=0){i:Nat}(hi:i<l.size):l.getD i false=true:=by
 unfold jG at h
 rw[List.length_eq_zero_iff,List.filter_eq_nil_iff] at h
 have:=h l[i] (by simp)
 simp[hi] at this ⊢
 exact this
theorem yJ{P:Program}{gl:Ctx}{ops:Array Oper}{fs:List aU}{σ σ':St}{DS WB:List Nat}{σ0:St}{E0:Env}{w0:World}{Q:Exit→Act→World→Prop}(hi:∀f∈fs,O5 DS WB f)(fV:lH ops fs=true)(hc:ck (Ld P gl ops Q (wK gl DS WB σ0 E0 w0)) 0 fs σ σ')(hfr:∀(k:Nat)(f:aU),fs[k]? =some f→∀d∈f.fr,σ.fresh d)
 (hq:∀E' a' w',cd gl σ' E' a' w'→wK gl DS WB σ0 E0 w0 σ' E' w'→Q .normal a' w'):
 ∀(fuel:Nat)(listed:Array Bool),listed.size=ops.size→jG listed≤fuel→
  (∀j o,ops[j]? =some o→listed.getD j false=true→∀e∈o.after.toList,Region.binds .any e=true→listed.getD e.on false=true)→
  ∀{E:Env}{a:Act}{w:World},cd gl (dj (fun x=>listed.getD x false) 0 fs σ) E a w→wK gl DS WB σ0 E0 w0 (dj (fun x=>listed.getD x false) 0 fs σ) E w→wpAnyIn (Wd gl) 0 P .any ops Q fuel listed a w:=by
 have hlen:fs.length=ops.size:=by
  simp only[lH,aV] at fV;exact bQ fV.1.1
 have hedge:∀j o,ops[j]? =some o→∀e∈o.after.toList,Region.binds .any e=true→e.on<j:=by
  intro j o ho e he hb
  simp only[lH,aV,ky,List.mem_range] at fV
  have hj:j<ops.size:=(Array.getElem?_eq_some_iff.1 ho).1
  have:=fV.2 j hj
  unfold uX at this
  rw[show ops.toList[j]? =some o from by simpa using ho] at this
  simp only[ky] at this
  have:=this e he
  simp only[hb,kA,Bool.false_or] at this
  simp[Nat.blt] at this;omega
 have done:∀listed:Array Bool,listed.size=ops.size→Region.ready .any ops listed= []→∀k,k<ops.size→listed.getD k false=true:=by
  intro listed hs hr
  have key:∀n k,k<n→k<ops.size→listed.getD k false=true:=by
   intro n
   induction n with
   |zero=>intro k hk;omega
   |
    succ n ih=>
    intro k hk hks
    cases hl:listed.getD k false with
    |true=>rfl
    |
     false=>
     exfalso
     have hm:k∈Region.ready .any ops listed:=by
      rw[mem_ready]
      refine⟨?_,ops[k],by simp[hks],?_⟩
      ·simp[hs▸hks] at hl ⊢;exact hl
      ·intro e he hb
       have hlt:=hedge k ops[k] (by simp[hks]) e (by simpa using he) hb
       exact ih e.on (by omega) (by omega)
     rw[hr] at hm;cases hm
  exact fun k hk=>key (k+1) k (by omega) hk
 have fin:∀listed:Array Bool,listed.size=ops.size→Region.ready .any ops listed= []→σ'=dj (fun x=>listed.getD x false) 0 fs σ:=by
  intro listed hs hr
  exact hc.last (fun k _ hk=>done listed hs hr k (by omega))
 intro fuel
 induction fuel with
 |
  zero=>
  intro listed hs hu hcl E a w hg hv
  have hall:∀k,k<ops.size→listed.getD k false=true:=fun k hk=>uA (by omega) (by omega)
  have hr:Region.ready .any ops listed= []:=by
   rw[List.eq_nil_iff_forall_not_mem]
   intro k hk
   rw[mem_ready] at hk
   obtain⟨h1,o,h2,_⟩:=hk
   have hlt:k<ops.size:=(Array.getElem?_eq_some_iff.1 h2).1
   have:=hall k hlt
   simp[hs▸hlt] at h1 this
   rw[this] at h1;cases h1
  refine⟨hr,?_⟩
  have e:=fin listed hs hr
  rw[←e] at hg hv
  exact hq E a w hg hv
 |
  succ fuel ih=>
  intro listed hs hu hcl E a w hg hv
  refine⟨fun hr=>?_,fun i hi=>?_⟩
  ·have e:=fin listed hs hr
   rw[←e] at hg hv
   exact hq E a w hg hv
  ·rw[mem_ready] at hi
   obtain⟨h1,o,h2,h3⟩:=hi
   have hlt:i<ops.size:=(Array.getElem?_eq_some_iff.1 h2).1
   have hif:listed.getD i false=false:=by simp[hs▸hlt] at h1 ⊢;exact h1
   obtain⟨f,hf⟩:∃f,fs[i]? =some f:=⟨fs[i]'(by omega),by simp[hlen,hlt]⟩
   obtain⟨hA,hF,hR⟩:=Av fV hfr (X:=fun x=>listed.getD x false) hcl h2 hif (fun e he hb=>h3 e (by simpa using he) hb) hf
   have hop:=hc.nth i f hf
   simp only[cZ] at hop
   refine hop _ hA hF E a w hg hv _ ?_
   intro E' a' w' hg' hx
   have hv':=hv.app (hi f (fP hf)) hx
   have aO:∀x,(listed.getD x false||x==i)=(listed.setIfInBounds i true).getD x false:=by
    intro x
    by_cases e:x=i
    ·subst e;simp[hs,hlt]
    ·rw[getD_set_ne false (fun h=>e h.symm)];simp[e]
   have hfun:(fun x=>listed.getD x false||x==i)=fun x=>(listed.setIfInBounds i true).getD x false:=funext aO
   rw[hR,hfun] at hg' hv'
   refine ih (listed.setIfInBounds i true) (by simp[hs]) (by have:=wN h1;omega) ?_ hg' hv'
   intro j o' ho' hj e he hb
   by_cases e':j=i
   ·subst e'
    rw[h2] at ho';cases ho'
    exact getD_set_true (h3 e (by simpa using he) hb)
   ·rw[getD_set_ne false (fun h=>e' h.symm)] at hj
    exact getD_set_true (hcl j o' ho' hj e he hb)
def iQ(σ:St)(fs:List aU):Bool:=fs.all fun f=>f.fr.all fun d=>σ.eY d
theorem cd.drew{gl:Ctx}{σ:St}{E:Env}{a:Act}{w:World}(h:cd gl σ E a w):cd gl σ E a {w with drawn:=w.drawn+1}∧Ext gl.md (Own σ.hp E) E w (Own σ.hp E) E {w with drawn:=w.drawn+1}:=by
 have kp:bM E w E {w with drawn:=w.drawn+1}:=⟨fun _ _=>rfl,fun _ h=>h⟩
 refine⟨h.carry (hp:=σ.hp) kp (fun _ _=>⟨rfl,rfl,rfl⟩) ⟨fun b k hb=>RB.mono kp (fun _ _=>⟨rfl,rfl,rfl⟩) (fun _ _=>rfl) (fun _ _ h=>h) (h.hw.cH b k hb),h.hw.dN,h.hw.dq,h.hw.slt,h.hw.fT kp,h.hw.qG⟩,⟨rfl,Tp.s rfl rfl,rfl,cq _,fun _ _ _=>rfl,fun _ h=>h,fun _ h=>Or.inl h,fun _ h=>Or.inl h,fun _ _=>⟨rfl,rfl,rfl⟩⟩⟩
theorem qL{P:Program}{G:bT}(T:bB P G){gl:Ctx}{ops:Array Oper}{id:Nat}{fs:List aU}{σ σ':St}{Q:Exit→Act→World→Prop}{E:Env}{a:Act}{w:World}(fV:lH ops fs=true)(hfr:iQ σ fs=true)(hc:ck (Ld P gl ops Q (wK gl (dstsOf fs) (k7 fs) σ E w)) 0 fs σ σ')(hg:cd gl σ E a w)
 (hq:∀E' a' w',cd gl σ' E' a' w'→wK gl (dstsOf fs) (k7 fs) σ E w σ' E' w'→Q .normal a' w'):(Code.region id ops true).wpIn (Wd gl) 0 P Q a w:=by
 refine wpIn_region_any T.Lc ?_
 have hfr':∀(k:Nat)(f:aU),fs[k]? =some f→∀d∈f.fr,σ.fresh d:=by
  intro k f hk d hd
  simp only[iQ,ky] at hfr
  exact St.dK (hfr f (fP hk) d hd)
 obtain⟨hg',hx'⟩:=hg.drew
 have hid:∀(fs:List aU)(i:Nat)(σ:St),dj (fun x=>(Array.replicate ops.size false).getD x false) i fs σ=σ:=by
  intro fs
  induction fs with
  |nil=>intro i σ;rfl
  |
   cons f fs ih=>
   intro i σ
   rw[dj]
   have:(Array.replicate ops.size false).getD i false=false:=by
    rcases Nat.lt_or_ge i ops.size with h|h<;>simp[h]
   rw[this];simp only[cm,bP];exact ih _ _
 refine yJ EP fV hc hfr' hq ops.size _ (by simp) ?_ ?_ (E:=E) (by rw[hid];exact hg') (by rw[hid];exact⟨rfl,rfl,rfl,fun _ _=>rfl,fun _ _=>rfl,hx'⟩)
 ·unfold jG;simp
 ·intro j o ho hj
  have:(Array.replicate ops.size false).getD j false=false:=by
   rcases Nat.lt_or_ge j ops.size with h|h<;>simp[h]
  rw[this] at hj;cases hj
theorem Aw{P:Program}{G:bT}(T:bB P G){gl:Ctx}{ops:Array Oper}{id:Nat}{fs:List aU}{σ σ':St}(fV:lH ops fs=true)(hfr:iQ σ fs=true)(hc:oR P gl ops 0 fs σ σ'){Q:Exit→Act→World→Prop}{E:Env}{a:Act}{w:World}(hg:cd gl σ E a w)
 (hq:∀E' a' w',cd gl σ' E' a' w'→Ext gl.md (Own σ.hp E) E w (Own σ'.hp E') E' w'→Q .normal a' w'):(Code.region id ops true).wpIn (Wd gl) 0 P Q a w:=
 qL T fV hfr (hc.mono fun _ _ _=>uz.q) hg (fun E' a' w' h1 h2=>hq E' a' w' h1 h2.ext)
end Go.Ax
