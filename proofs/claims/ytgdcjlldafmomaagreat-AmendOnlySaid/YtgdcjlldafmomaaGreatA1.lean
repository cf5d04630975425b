/- The machines: what it means to be walked or run, part 1. No condition. -/
import Derived.Orders
import Derived.OrdersIn
import Derived.RangeFuncIn
import Derived.Laws.Cells
import Derived.Laws.AppendOwn
import Derived.Laws.Strings
import Derived.Laws.Small
import Derived.Laws.CopyRow
namespace Go.Ax
inductive eB where
 |ptr|map|func|iface|sl
 deriving DecidableEq
inductive Ty where
 |int (k:IntKind)
 |bool
 |str
 |arr (n:Nat) (t:Ty)
 |slice (bs:Nat) (t:Ty)
 |pair (a b:Ty)
 |unit
 |aN (k:eB)
 |fns (n:Nat)
 |map (k v:Ty)
 deriving DecidableEq
def IntKind.code:IntKind→Nat
 | .i8=>0| .i16=>1| .i32=>2| .i64=>3| .u8=>4| .u16=>5| .u32=>6| .u64=>7
def eB.code:eB→Nat
 | .ptr=>0| .map=>1| .func=>2| .iface=>3| .sl=>4
theorem IntKind.fM{a b:IntKind}(h:IntKind.code a=IntKind.code b):a=b:=by
 cases a<;>cases b<;>first|rfl|(simp[IntKind.code] at h)
theorem eB.fM{a b:eB}(h:eB.code a=eB.code b):a=b:=by
 cases a<;>cases b<;>first|rfl|(simp[eB.code] at h)
def Ty.same:Ty→Ty→Bool
 | .int k,.int k'=>Nat.beq (IntKind.code k) (IntKind.code k')
 | .bool,.bool=>true
 | .str,.str=>true
 | .arr n t,.arr n' t'=>Nat.beq n n'&&Ty.same t t'
 | .slice n t,.slice n' t'=>Nat.beq n n'&&Ty.same t t'
 | .pair a b,.pair a' b'=>Ty.same a a'&&Ty.same b b'
 | .unit,.unit=>true
 | .aN k,.aN k'=>Nat.beq (eB.code k) (eB.code k')
 | .fns n,.fns n'=>Nat.beq n n'
 | .map a b,.map a' b'=>Ty.same a a'&&Ty.same b b'
 |_,_=>false
theorem Ty.aA:∀{a b:Ty},Ty.same a b=true→a=b:=by
 intro a
 induction a with
 |int k=>intro b h;cases b<;>simp[Ty.same] at h ⊢;exact IntKind.fM h
 |bool=>intro b h;cases b<;>simp[Ty.same] at h ⊢
 |str=>intro b h;cases b<;>simp[Ty.same] at h ⊢
 |arr n t ih=>intro b h;cases b<;>simp[Ty.same] at h ⊢;exact⟨h.1,ih h.2⟩
 |slice n t ih=>intro b h;cases b<;>simp[Ty.same] at h ⊢;exact⟨h.1,ih h.2⟩
 |pair x y ih1 ih2=>intro b h;cases b<;>simp[Ty.same] at h ⊢;exact⟨ih1 h.1,ih2 h.2⟩
 |unit=>intro b h;cases b<;>simp[Ty.same] at h ⊢
 |aN k=>intro b h;cases b<;>simp[Ty.same] at h ⊢;exact eB.fM h
 |fns n=>intro b h;cases b<;>simp[Ty.same] at h ⊢;exact h
 |map x y ih1 ih2=>intro b h;cases b<;>simp[Ty.same] at h ⊢;exact⟨ih1 h.1,ih2 h.2⟩
theorem Ty.cC(a:Ty):Ty.same a a=true:=by
 induction a<;>simp_all[Ty.same]
@[reducible] def Ty.den:Ty→Type
 | .int _=>Int
 | .bool=>Bool
 | .str=>List UInt8
 | .arr _ t=>List t.den
 | .slice _ t=>List t.den
 | .pair a b=>a.den×b.den
 | .unit=>Unit
 | .aN _=>Unit
 | .fns _=>List (Option Nat)
 | .map k v=>Option (List (k.den×v.den))
def Ty.size:Ty→Nat
 | .arr n t=>n*t.size
 | .pair a b=>a.size+b.size
 | .unit=>0
 | .fns n=>n
 |_=>1
def Ty.isAgg:Ty→Bool
 | .arr _ _| .pair _ _| .unit| .fns _=>true
 |_=>false
def Ty.aB:(t:Ty)→t.den
 | .int _=>(0:Int)
 | .bool=>false
 | .str=>([]:List UInt8)
 | .arr n t=>List.replicate n t.aB
 | .slice _ _=>[]
 | .pair a b=>(a.aB,b.aB)
 | .unit=>()
 | .aN _=>()
 | .fns n=>List.replicate n none
 | .map _ _=>none
def Ty.flat:Ty→Bool
 | .int _| .bool| .str| .unit=>true
 | .arr _ t=>t.flat
 | .pair a b=>a.flat&&b.flat
 |_=>false
def aC:Nat:=140737488355328
def lT(w:World)(a:Addr)(cs:List Value):Prop:=∀j v,cs[j]? =some v→w.cell? (a.add j)=some v
def aQ{α:Type}(r:List Value→α→Prop):List Value→List α→Prop
 |vs,[]=>vs= []
 |vs,x::xs=>∃v1 v2,vs=v1++v2∧r v1 x∧aQ r v2 xs
def ij{α β:Type}(r:Value→α→Prop)(s:Value→β→Prop):List MapEntry→List (α×β)→Prop
 |[],[]=>True
 |e::es,x::xs=>r e.key x.1∧s e.val x.2∧ij r s es xs
 |_,_=>False
theorem ij.mono{α β:Type}{r r':Value→α→Prop}{s s':Value→β→Prop}(h:∀v x,r v x→r' v x)(k:∀v x,s v x→s' v x):∀{es:List MapEntry}{xs:List (α×β)},ij r s es xs→ij r' s' es xs
 |[],[],_=>trivial
 |[],_::_,g=>g.elim
 |_::_,[],g=>g.elim
 |_::_,_::_,⟨g1,g2,g3⟩=>⟨h _ _ g1,k _ _ g2,ij.mono h k g3⟩
theorem ij.len{α β:Type}{r:Value→α→Prop}{s:Value→β→Prop}:∀{es:List MapEntry}{xs:List (α×β)},ij r s es xs→es.length=xs.length
 |[],[],_=>rfl
 |[],_::_,g=>g.elim
 |_::_,[],g=>g.elim
 |_::es,_::xs,⟨_,_,g3⟩=>by rw[List.length_cons,List.length_cons,ij.len g3]
theorem ij.all{α β:Type}{r:Value→α→Prop}{s:Value→β→Prop}{p:α→Prop}{q:β→Prop}(h:∀v x,r v x→p x)(k:∀v x,s v x→q x):∀{es:List MapEntry}{xs:List (α×β)},ij r s es xs→∀x∈xs,p x.1∧q x.2
 |[],[],_,x,hx=>by cases hx
 |[],_::_,g,_,_=>g.elim
 |_::_,[],g,_,_=>g.elim
 |
  _::_,y::ys,⟨g1,g2,g3⟩,x,hx=>by
  cases hx with
  |head=>exact⟨h _ _ g1,k _ _ g2⟩
  |tail _ hx=>exact ij.all h k g3 x hx
def bT{α:Type}:Option (List α)→List α
 |none=>[]
 |some l=>l
def fj(agg:Bool){α:Type}(r:List Value→α→Prop)(v:Value)(x:α):Prop:=(agg=true∧∃cs,v= .agg cs∧r cs.toList x)∨(agg=false∧r [v] x)
theorem fj.mono{agg:Bool}{α:Type}{r r':List Value→α→Prop}(h:∀vs x,r vs x→r' vs x){v:Value}{x:α}(g:fj agg r v x):fj agg r' v x:=by
 rcases g with⟨a,cs,e,g⟩|⟨a,g⟩
 ·exact Or.inl ⟨a,cs,e,h _ _ g⟩
 ·exact Or.inr ⟨a,h _ _ g⟩
theorem fj.all{agg:Bool}{α:Type}{r:List Value→α→Prop}{p:α→Prop}(h:∀vs x,r vs x→p x){v:Value}{x:α}(g:fj agg r v x):p x:=by
 rcases g with⟨a,cs,e,g⟩|⟨a,g⟩
 ·exact h _ _ g
 ·exact h _ _ g
def xY:Option Nat→Value
 |none=>.nilFunc
 |some f=>.func (.func f) #[] #[]
def Rel(w:World)(S:Nat→Prop):(t:Ty)→List Value→t.den→Prop
 | .int k,vs,n=>vs= [.int k n]∧k.min≤n∧n≤k.max
 | .bool,vs,b=>vs= [.bool b]
 | .str,vs,s=>vs= [.string ⟨s.toArray⟩]∧s.length≤aC
 | .arr n t,vs,xs=>xs.length=n∧aQ (Rel w S t) vs xs
 | .slice bs t,vs,xs=>∃a cap,vs= [.slice a xs.length cap]∧xs.length≤cap∧xs.length*bs≤aC∧xs.length≤aC∧
  (xs= []∨∃b o cs,a=some ⟨b,o,none⟩∧S b∧lT w ⟨b,o,none⟩ cs∧aQ (Rel w S t) cs xs)
 | .pair a b,vs,x=>∃v1 v2,vs=v1++v2∧Rel w S a v1 x.1∧Rel w S b v2 x.2
 | .unit,vs,_=>vs= []
 | .aN _,_,_=>False
 | .fns n,vs,xs=>xs.length=n∧vs=xs.map xY
 | .map k v,vs,x=>∃a,vs= [.map a]∧((x=none∧a=none)∨∃es g en clock,x=some es∧a=some g∧S g∧w.heap[g]? =some (.map en clock)∧
  ij (fj k.isAgg (Rel w S k)) (fj v.isAgg (Rel w S v)) en.toList es∧(es.map (·.1)).Nodup∧es.length≤aC∧(∀x∈en.toList,x.born<clock)∧(en.toList.map (·.born)).Nodup)
def wf:(t:Ty)→t.den→Prop
 | .int k,n=>k.min≤n∧n≤k.max
 | .bool,_=>True
 | .str,s=>List.length s≤aC
 | .arr n t,xs=>List.length xs=n∧∀x∈xs,wf t x
 | .slice bs t,xs=>List.length xs*bs≤aC∧List.length xs≤aC∧∀x∈xs,wf t x
 | .pair a b,x=>wf a x.1∧wf b x.2
 | .unit,_=>True
 | .aN _,_=>False
 | .fns n,xs=>List.length xs=n
 | .map k v,x=>∀es,x=some es→(es.map (·.1)).Nodup∧List.length es≤aC∧∀p∈es,wf k p.1∧wf v p.2
theorem aQ.mono{α:Type}{r r':List Value→α→Prop}(h:∀vs x,r vs x→r' vs x):∀{xs:List α}{vs:List Value},aQ r vs xs→aQ r' vs xs
 |[],_,hh=>hh
 |_::_,_,⟨v1,v2,e,h1,h2⟩=>⟨v1,v2,e,h _ _ h1,aQ.mono h h2⟩
theorem aQ.all{α:Type}{r:List Value→α→Prop}{p:α→Prop}(h:∀vs x,r vs x→p x):∀{xs:List α}{vs:List Value},aQ r vs xs→∀x∈xs,p x
 |[],_,_,x,hx=>by cases hx
 |
  y::ys,_,⟨_,_,_,h1,h2⟩,x,hx=>by
  cases hx with
  |head=>exact h _ _ h1
  |tail _ hx=>exact aQ.all h h2 x hx
theorem aQ.len{α:Type}{r:List Value→α→Prop}{n:Nat}(h:∀vs x,r vs x→vs.length=n):∀{xs:List α}{vs:List Value},aQ r vs xs→vs.length=xs.length*n
 |[],_,hh=>by simp[aQ] at hh;simp[hh]
 |
  _::xs,_,⟨v1,v2,e,h1,h2⟩=>by
  subst e
  rw[List.length_append,h _ _ h1,aQ.len h h2,List.length_cons,Nat.add_mul];omega
theorem aQ.append{α:Type}{r:List Value→α→Prop}:∀{xs ys:List α}{vs us:List Value},aQ r vs xs→aQ r us ys→aQ r (vs++us) (xs++ys)
 |[],_,_,_,h,k=>by simp[aQ] at h;subst h;simpa using k
 |
  _::_,_,_,_,⟨v1,v2,e,h1,h2⟩,k=>by
  subst e
  exact⟨v1,v2++_,by simp,h1,aQ.append h2 k⟩
theorem aQ.get{α:Type}{r:List Value→α→Prop}{n:Nat}(hn:∀vs x,r vs x→vs.length=n)(d:α):∀{xs:List α}{vs:List Value}(i:Nat),aQ r vs xs→i<xs.length→r ((vs.drop (i*n)).take n) (xs.getD i d)
 |[],_,i,_,hi=>by simp at hi
 |
  x::xs,_,0,⟨v1,v2,e,h1,_⟩,_=>by
  subst e
  have:=hn _ _ h1
  simp[←this];exact h1
 |
  x::xs,_,i+1,⟨v1,v2,e,h1,h2⟩,hi=>by
  subst e
  have hl:=hn _ _ h1
  have:=aQ.get hn d i h2 (by simpa using hi)
  have e:(v1++v2).drop ((i+1)*n)=v2.drop (i*n):=by
   rw[List.drop_append,List.drop_of_length_le (by rw[hl,Nat.add_mul];omega),List.nil_append,hl,Nat.add_mul]
   congr 1;omega
  rw[e]
  simpa using this
theorem aQ.set{α:Type}{r:List Value→α→Prop}{n:Nat}(hn:∀vs x,r vs x→vs.length=n){us:List Value}{y:α}(hu:r us y):∀{xs:List α}{vs:List Value}(i:Nat),aQ r vs xs→i<xs.length→aQ r (vs.take (i*n)++us++vs.drop (i*n+n)) (xs.set i y)
 |[],_,i,_,hi=>by simp at hi
 |
  x::xs,_,0,⟨v1,v2,e,h1,h2⟩,_=>by
  subst e
  have:=hn _ _ h1
  refine⟨us,v2,?_,hu,h2⟩
  simp[←this]
 |
  x::xs,_,i+1,⟨v1,v2,e,h1,h2⟩,hi=>by
  subst e
  have hl:=hn _ _ h1
  have:=aQ.set hn hu i h2 (by simpa using hi)
  refine⟨v1,v2.take (i*n)++us++v2.drop (i*n+n),?_,h1,this⟩
  have e1:(v1++v2).take ((i+1)*n)=v1++v2.take (i*n):=by
   rw[List.take_append,List.take_of_length_le (by rw[hl,Nat.add_mul];omega),hl,Nat.add_mul]
   congr 2;omega
  have e2:(v1++v2).drop ((i+1)*n+n)=v2.drop (i*n+n):=by
   rw[List.drop_append,List.drop_of_length_le (by rw[hl,Nat.add_mul];omega),List.nil_append,hl,Nat.add_mul]
   congr 1;omega
  rw[e1,e2];simp
theorem Rel.len{w:World}{S:Nat→Prop}:∀{t:Ty}{vs:List Value}{x:t.den},Rel w S t vs x→vs.length=t.size:=by
 intro t
 induction t with
 |int k=>intro vs x h;simp[Rel] at h;simp[h.1,Ty.size]
 |bool=>intro vs x h;simp[Rel] at h;simp[h,Ty.size]
 |str=>intro vs x h;simp[Rel] at h;simp[h.1,Ty.size]
 |arr n t ih=>intro vs x h;obtain⟨h1,h2⟩:=h;rw[aQ.len (fun _ _=>ih) h2,h1,Ty.size]
 |slice bs t ih=>intro vs x h;obtain⟨a,cap,e,_⟩:=h;simp[e,Ty.size]
 |pair a b ih1 ih2=>intro vs x h;obtain⟨v1,v2,e,h1,h2⟩:=h;subst e;rw[List.length_append,ih1 h1,ih2 h2,Ty.size]
 |unit=>intro vs x h;simp[Rel] at h;simp[h,Ty.size]
 |aN k=>intro vs x h;exact h.elim
 |fns n=>intro vs x h;obtain⟨h1,h2⟩:=h;rw[h2,List.length_map,h1,Ty.size]
 |map k v=>intro vs x h;obtain⟨a,e,_⟩:=h;simp[e,Ty.size]
theorem Rel.wf{w:World}{S:Nat→Prop}:∀{t:Ty}{vs:List Value}{x:t.den},Rel w S t vs x→wf t x:=by
 intro t
 induction t with
 |int k=>intro vs x h;exact h.2
 |bool=>intro vs x h;trivial
 |str=>intro vs x h;exact h.2
 |arr n t ih=>intro vs x h;exact⟨h.1,aQ.all (p:=Ax.wf t) (fun _ _ h=>ih h) h.2⟩
 |
  slice bs t ih=>
  intro vs x h
  obtain⟨a,cap,e,h1,h2,h3,h4⟩:=h
  refine⟨h2,h3,?_⟩
  rcases h4 with h4|⟨b,o,cs,_,_,_,h5⟩
  ·subst h4;intro y hy;cases hy
  ·exact aQ.all (p:=Ax.wf t) (fun _ _ h=>ih h) h5
 |pair a b ih1 ih2=>intro vs x h;obtain⟨v1,v2,e,h1,h2⟩:=h;exact⟨ih1 h1,ih2 h2⟩
 |unit=>intro vs x h;trivial
 |aN k=>intro vs x h;exact h.elim
 |fns n=>intro vs x h;exact h.1
 |
  map k v ih1 ih2=>
  intro vs x h es he
  obtain⟨a,e,h⟩:=h
  rcases h with⟨h,_⟩|⟨es',g,en,clock,h1,_,_,_,h2,h3,h4,_⟩
  ·rw[h] at he;cases he
  ·rw[h1] at he;cases he
   exact⟨h3,h4,ij.all (fun _ _ h=>fj.all (p:=Ax.wf k) (fun _ _ h=>ih1 h) h) (fun _ _ h=>fj.all (p:=Ax.wf v) (fun _ _ h=>ih2 h) h) h2⟩
theorem lT.mono{w w':World}{a:Addr}{cs:List Value}(h:lT w a cs)(hb:w'.heap[a.block]? =w.heap[a.block]?):lT w' a cs:=by
 intro j v hj
 rw[←h j v hj]
 exact World.cell?_of_block (by rw[show(a.add j).block=a.block by unfold Addr.add;split<;>rfl];exact hb)
theorem Rel.mono{w w':World}{S S':Nat→Prop}(hw:∀b,S b→w'.heap[b]? =w.heap[b]?)(hS:∀b,S b→S' b):∀{t:Ty}{vs:List Value}{x:t.den},Rel w S t vs x→Rel w' S' t vs x:=by
 intro t
 induction t with
 |int k=>intro vs x h;exact h
 |bool=>intro vs x h;exact h
 |str=>intro vs x h;exact h
 |arr n t ih=>intro vs x h;exact⟨h.1,aQ.mono (fun _ _=>ih) h.2⟩
 |
  slice bs t ih=>
  intro vs x h
  obtain⟨a,cap,e,h1,h2,h3,h4⟩:=h
  refine⟨a,cap,e,h1,h2,h3,?_⟩
  rcases h4 with h4|⟨b,o,cs,ha,hs,hr,h5⟩
  ·exact Or.inl h4
  ·exact Or.inr ⟨b,o,cs,ha,hS b hs,hr.mono (hw b hs),aQ.mono (fun _ _=>ih) h5⟩
 |pair a b ih1 ih2=>intro vs x h;obtain⟨v1,v2,e,h1,h2⟩:=h;exact⟨v1,v2,e,ih1 h1,ih2 h2⟩
 |unit=>intro vs x h;exact h
 |aN k=>intro vs x h;exact h
 |fns n=>intro vs x h;exact h
 |
  map k v ih1 ih2=>
  intro vs x h
  obtain⟨a,e,h⟩:=h
  refine⟨a,e,?_⟩
  rcases h with h|⟨es,g,en,clock,h1,h2,h3,h4,h5,h6⟩
  ·exact Or.inl h
  ·exact Or.inr ⟨es,g,en,clock,h1,h2,hS g h3,by rw[hw g h3];exact h4,ij.mono (fun _ _=>fj.mono (fun _ _=>ih1)) (fun _ _=>fj.mono (fun _ _=>ih2)) h5,h6⟩
theorem Rel.flat{w w':World}{S S':Nat→Prop}:∀{t:Ty}{vs:List Value}{x:t.den},t.flat=true→Rel w S t vs x→Rel w' S' t vs x:=by
 intro t
 induction t with
 |int k=>intro vs x _ h;exact h
 |bool=>intro vs x _ h;exact h
 |str=>intro vs x _ h;exact h
 |arr n t ih=>intro vs x hf h;exact⟨h.1,aQ.mono (fun _ _=>ih hf) h.2⟩
 |slice bs t ih=>intro vs x hf;simp[Ty.flat] at hf
 |
  pair a b ih1 ih2=>
  intro vs x hf h
  simp[Ty.flat] at hf
  obtain⟨v1,v2,e,h1,h2⟩:=h;exact⟨v1,v2,e,ih1 hf.1 h1,ih2 hf.2 h2⟩
 |unit=>intro vs x _ h;exact h
 |aN k=>intro vs x hf;simp[Ty.flat] at hf
 |fns n=>intro vs x hf;simp[Ty.flat] at hf
 |map k v=>intro vs x hf;simp[Ty.flat] at hf
end Go.Ax
namespace Go.Ax
inductive PS where
 |bZ (n:Nat)
 |idx (i:Nat)
abbrev Path:=List PS
def Ty.off:Ty→Path→Nat
 | .pair a _,.bZ 0::p=>a.off p
 | .pair a b,.bZ (k+1)::p=>a.size+b.off (.bZ k::p)
 | .arr _ t,.idx i::p=>i*t.size+t.off p
 | .fns _,.idx i::_=>i
 |_,_=>0
def Ty.sub:Ty→Path→Option Ty
 | .pair a _,.bZ 0::p=>a.sub p
 | .pair _ b,.bZ (k+1)::p=>b.sub (.bZ k::p)
 | .arr _ t,.idx _::p=>t.sub p
 | .fns _,[.idx _]=>some (.aN .func)
 |t,[]=>some t
 |_,_=>none
def Ty.valid:Ty→Path→Prop
 | .pair a _,.bZ 0::p=>a.valid p
 | .pair _ b,.bZ (k+1)::p=>b.valid (.bZ k::p)
 | .arr n t,.idx i::p=>i<n∧t.valid p
 | .fns n,[.idx i]=>i<n
 |_,[]=>True
 |_,_=>False
inductive AV where
 |bot
 |val (t:Ty) (x:t.den)
 |aX
 |own (b:Nat)
 |ig (b lo len:Nat)
 |gn (b:Nat) (p:Path) (lo len:Nat)
 |ptr (b:Nat) (p:Path)
 |bD (t:Ty) (x:t.den)
 |mp (b:Nat)
 |eT
 |di
 |dX
 |fA
 |func (fn:Fn) (fs cs:AV)
 |iface (t:TypeId) (v:AV)
 |cons (a b:AV)
 |nil
 |eU (l:AV)
 |opt (c:Bool) (v:AV)
 |fx
 |cD (f:FuncId) (t:Ty) (x:t.den)
 |dP (t:Ty)
 |nq (c:Bool)
 |dH (b:Nat)
structure YC where
 l:Nat
 gs:Nat→Nat
 rc:Nat→Loop
inductive aI where
 |var (t:Ty) (v:AV)
 |row (e:TypeId) (bs:Nat) (t:Ty) (xs:List t.den)
 |map (k v:Ty) (es:List (k.den×v.den))
 |lp (y:YC) (j:Nat)
 |qf
 |tv (g:Nat) (t:Ty) (v:AV)
 |bN (e:TypeId) (bs:Nat) (t:Ty) (xs:List t.den) (i:Nat) (v:AV)
 |cm (e:TypeId) (bs:Nat) (t:Ty) (xs:List t.den) (e2:TypeId) (f:Option (Nat×AV))
 |pmap (k t:Ty) (es:List (k.den×t.den)) (e2:TypeId) (f:Option (k.den×AV×Bool))
 |jL (k v:Ty) (rest:List (k.den×v.den)) (cur:Option (k.den×v.den))
 |eH (k t:Ty) (es:List (k.den×t.den)) (e2:TypeId) (kx:k.den) (v:AV) (pr:Bool)
 |fu (k:Ty) (l:List (k.den×AV))
structure Env where
 g:Nat→Option Nat
 sv:Nat→Value
 bt:Nat→Ty
 S:Nat→Prop
 P:Nat→Nat→Prop
def Env.has(E:Env)(b g:Nat):Prop:=E.g b=some g∨E.P b g
def AV.isAgg:AV→Bool
 | .val t _=>t.isAgg
 | .dP t=>t.isAgg
 | .cons _ _| .nil=>true
 |_=>false
def AV.size:AV→Nat
 | .val t _=>t.size
 | .dP t=>t.size
 | .cons a b=>a.size+b.size
 | .nil=>0
 |_=>1
def AV.atom:AV→Bool
 | .val t _=> !t.isAgg
 | .bot| .cons _ _| .nil| .eU _| .opt _ _| .dP _=>false
 |_=>true
def AV.atoms:AV→Bool
 | .cons a b=>a.atom&&b.atoms
 | .nil=>true
 |_=>false
def AV.bK:AV→Ty→Bool
 | .val t _,u=>Ty.same t u
 | .dP t,u=>Ty.same t u
 | .aX,.slice _ _=>true
 | .aX,.aN .sl=>true
 | .own _,.slice _ _=>true
 | .ig _ _ _,.slice _ _=>true
 | .gn _ _ _ _,.slice _ _=>true
 | .ptr _ _,.aN .ptr=>true
 | .bD _ _,.aN .ptr=>true
 | .eT,.aN .ptr=>true
 | .mp _,.aN .map=>true
 | .mp _,.map _ _=>true
 | .di,.aN .map=>true
 | .di,.map _ _=>true
 | .func _ _ _,.aN .func=>true
 | .dX,.aN .func=>true
 | .fx,.aN .func=>true
 | .cD _ _ _,.aN .func=>true
 | .iface _ _,.aN .iface=>true
 | .fA,.aN .iface=>true
 | .cons a b,.pair t u=>a.bK t&&b.bK u
 | .nil,.unit=>true
 |_,_=>false
def AV.ids:AV→List Nat
 | .own b| .ig b _ _| .gn b _ _ _| .ptr b _| .mp b| .dH b=>[b]
 | .func _ fs cs=>fs.ids++cs.ids
 | .iface _ v=>v.ids
 | .cons a b=>a.ids++b.ids
 | .eU l=>l.ids
 | .opt _ v=>v.ids
 |_=>[]
def RC(E:Env)(w:World):AV→List Value→Prop
 | .val t x,vs=>Rel w E.S t vs x
 | .aX,vs=>vs= [.slice none 0 0]
 | .own b,vs=>vs= [E.sv b]∧∃a n c,E.sv b= .slice a n c
 | .ig b lo len,vs=>∃a c n t,E.bt b= .arr n t∧E.sv b= .slice a n c∧lo+len≤n∧n≤c∧∃a',vs= [.slice a' len (c -lo)]∧((len=0∧lo≠0)∨a'=a.map (·.add (lo*t.size)))
 | .gn b p lo len,vs=>∃n t,(E.bt b).sub p=some (.arr n t)∧(E.bt b).valid p∧lo+len≤n∧∃a cap,vs= [.slice a len cap]∧len≤cap∧
  (len=0∨∃g,E.g b=some g∧a=some ⟨g,(E.bt b).off p+lo*t.size,none⟩)
 | .ptr b p,vs=>∃g,E.g b=some g∧vs= [.pointer (some ⟨g,(E.bt b).off p,none⟩)]∧(E.bt b).valid p
 | .bD t x,vs=>∃b o cs,vs= [.pointer (some ⟨b,o,none⟩)]∧E.S b∧lT w ⟨b,o,none⟩ cs∧Rel w E.S t cs x
 | .mp b,vs=>∃g,E.g b=some g∧vs= [.map (some g)]
 | .eT,vs=>vs= [.pointer none]
 | .di,vs=>vs= [.map none]
 | .dX,vs=>vs= [.nilFunc]
 | .fA,vs=>vs= [.nilIface]
 | .func fn fs cs,vs=>∃f c,vs= [.func fn f c]∧RC E w fs f.toList∧RC E w cs c.toList∧fs.atoms=true∧cs.atoms=true
 | .iface t v,vs=>∃x,vs= [.iface t x]∧((v.isAgg=true∧∃cs,x= .agg cs∧RC E w v cs.toList)∨(v.isAgg=false∧RC E w v [x]))
 | .cons a b,vs=>∃v1 v2,vs=v1++v2∧RC E w a v1∧RC E w b v2
 | .nil,vs=>vs= []
 | .fx,vs=>∃fn f c,vs= [.func fn f c]
 | .dP t,vs=>vs.length=t.size∧∀v∈vs,v.oneCell'=true
 | .nq c,vs=>∃a:Option Nat,vs= [.map a]∧(a=none↔c=true)
 | .dH b,vs=>vs= [E.sv b]∧∃n:Int,E.sv b= .int .i64 n
 | .cD f t x,vs=>t.isAgg=true∧∃cs,vs= [.func (.func f) #[.agg cs] #[]]∧Rel w E.S t cs.toList x
 | .bot,_=>False
 | .eU _,_=>False
 | .opt _ _,_=>False
def cd(E:Env)(w:World)(a:AV)(v:Value):Prop:=
 (a.isAgg=true∧∃cs,v= .agg cs∧RC E w a cs.toList)∨(a.isAgg=false∧RC E w a [v])
def RT(E:Env)(w:World):AV→List Value→Prop
 | .cons a b,v::vs=>cd E w a v∧RT E w b vs
 | .nil,vs=>vs= []
 |_,_=>False
def RV(E:Env)(w:World):AV→Value→Prop
 | .bot,_=>True
 | .eU l,v=>∃vs,v= .tuple vs∧RT E w l vs.toList
 | .opt c a,v=>(c=true∧cd E w a v)∨(c=false∧v=undef)
 |a,v=>cd E w a v
def Env.on(E E':Env)(ids:List Nat):Prop:=∀b∈ids,E'.g b=E.g b∧E'.sv b=E.sv b∧E'.bt b=E.bt b
theorem Env.on.left{E E':Env}{a b:List Nat}(h:E.on E' (a++b)):E.on E' a:=fun x hx=>h x (by simp[hx])
theorem Env.on.right{E E':Env}{a b:List Nat}(h:E.on E' (a++b)):E.on E' b:=fun x hx=>h x (by simp[hx])
structure bC(E:Env)(w:World)(E':Env)(w':World):Prop where
 w:∀b,E.S b→w'.heap[b]? =w.heap[b]?
 S:∀b,E.S b→E'.S b
theorem RC.mono{E E':Env}{w w':World}(k:bC E w E' w'):∀{a:AV}{vs:List Value},E.on E' a.ids→RC E w a vs→RC E' w' a vs:=by
 intro a
 induction a with
 |bot=>intro vs _ h;exact h
 |fx=>intro vs _ h;exact h
 |dP t=>intro vs _ h;exact h
 |nq c=>intro vs _ h;exact h
 |dH b=>intro vs ho h;simp only[RC] at h ⊢;rw[(ho b (by simp[AV.ids])).2.1];exact h
 |cD f t x=>intro vs _ h;obtain⟨ha,cs,h1,h2⟩:=h;exact⟨ha,cs,h1,Rel.mono k.w k.S h2⟩
 |val t x=>intro vs _ h;exact Rel.mono k.w k.S h
 |aX=>intro vs _ h;exact h
 |own b=>intro vs ho h;simp only[RC] at h ⊢;rw[(ho b (by simp[AV.ids])).2.1];exact h
 |
  ig b lo len=>
  intro vs ho h
  obtain⟨_,h2,h3⟩:=ho b (by simp[AV.ids])
  obtain⟨a,c,n,t,h⟩:=h
  exact⟨a,c,n,t,by rw[h3,h2];exact h⟩
 |
  gn b p lo len=>
  intro vs ho h
  obtain⟨h1,h2,h3⟩:=ho b (by simp[AV.ids])
  obtain⟨n,t,h⟩:=h
  refine⟨n,t,?_⟩
  rw[h3,h1];exact h
 |
  ptr b p=>
  intro vs ho h
  obtain⟨h1,h2,h3⟩:=ho b (by simp[AV.ids])
  obtain⟨g,h⟩:=h
  exact⟨g,by rw[h1,h3];exact h⟩
 |
  bD t x=>
  intro vs _ h
  obtain⟨b,o,cs,h1,h2,h3,h4⟩:=h
  exact⟨b,o,cs,h1,k.S b h2,h3.mono (k.w b h2),Rel.mono k.w k.S h4⟩
 |
  mp b=>
  intro vs ho h
  obtain⟨h1,h2,h3⟩:=ho b (by simp[AV.ids])
  obtain⟨g,h⟩:=h
  exact⟨g,by rw[h1];exact h⟩
 |eT=>intro vs _ h;exact h
 |di=>intro vs _ h;exact h
 |dX=>intro vs _ h;exact h
 |fA=>intro vs _ h;exact h
 |
  func fn fs cs ih1 ih2=>
  intro vs ho h
  obtain⟨f,c,e,h1,h2,h3,h4⟩:=h
  exact⟨f,c,e,ih1 ho.left h1,ih2 ho.right h2,h3,h4⟩
 |
  iface t v ih=>
  intro vs ho h
  obtain⟨x,e,h⟩:=h
  refine⟨x,e,?_⟩
  rcases h with⟨h1,cs,h2,h3⟩|⟨h1,h2⟩
  ·exact Or.inl ⟨h1,cs,h2,ih ho h3⟩
  ·exact Or.inr ⟨h1,ih ho h2⟩
 |
  cons a b ih1 ih2=>
  intro vs ho h
  obtain⟨v1,v2,e,h1,h2⟩:=h
  exact⟨v1,v2,e,ih1 ho.left h1,ih2 ho.right h2⟩
 |nil=>intro vs _ h;exact h
 |eU l ih=>intro vs _ h;exact h
 |opt c v ih=>intro vs _ h;exact h
theorem cd.mono{E E':Env}{w w':World}(k:bC E w E' w'){a:AV}{v:Value}(ho:E.on E' a.ids)(h:cd E w a v):cd E' w' a v:=by
 rcases h with⟨h1,cs,h2,h3⟩|⟨h1,h2⟩
 ·exact Or.inl ⟨h1,cs,h2,RC.mono k ho h3⟩
 ·exact Or.inr ⟨h1,RC.mono k ho h2⟩
theorem RT.mono{E E':Env}{w w':World}(k:bC E w E' w'):∀{a:AV}{vs:List Value},E.on E' a.ids→RT E w a vs→RT E' w' a vs:=by
 intro a
 induction a with
 |
  cons a b ih1 ih2=>
  intro vs ho h
  cases vs with
  |nil=>exact h.elim
  |cons v vs=>exact⟨cd.mono k ho.left h.1,ih2 ho.right h.2⟩
 |nil=>intro vs _ h;exact h
 |_=>intro vs _ h;exact h.elim
theorem RV.mono{E E':Env}{w w':World}(k:bC E w E' w'){a:AV}{v:Value}(ho:E.on E' a.ids)(h:RV E w a v):RV E' w' a v:=by
 cases a with
 |bot=>trivial
 |eU l=>obtain⟨vs,e,h⟩:=h;exact⟨vs,e,RT.mono k ho h⟩
 |
  opt c a=>
  rcases h with⟨h1,h2⟩|h
  ·exact Or.inl ⟨h1,cd.mono k ho h2⟩
  ·exact Or.inr h
 |_=>exact cd.mono k ho h
theorem RC.len{E:Env}{w:World}:∀{a:AV}{vs:List Value},RC E w a vs→vs.length=a.size:=by
 intro a
 induction a with
 |val t x=>intro vs h;exact Rel.len h
 |aX=>intro vs h;simp only[RC] at h;simp[h,AV.size]
 |own b=>intro vs h;simp only[RC] at h;simp[h.1,AV.size]
 |ig b lo len=>intro vs h;obtain⟨_,_,_,_,_,_,_,_,_,e,_⟩:=h;simp[e,AV.size]
 |gn b p lo len=>intro vs h;obtain⟨_,_,_,_,_,_,_,e,_⟩:=h;simp[e,AV.size]
 |ptr b p=>intro vs h;obtain⟨_,_,e,_⟩:=h;simp[e,AV.size]
 |bD t x=>intro vs h;obtain⟨_,_,_,e,_⟩:=h;simp[e,AV.size]
 |mp b=>intro vs h;obtain⟨_,_,e⟩:=h;simp[e,AV.size]
 |eT=>intro vs h;simp only[RC] at h;simp[h,AV.size]
 |di=>intro vs h;simp only[RC] at h;simp[h,AV.size]
 |dX=>intro vs h;simp only[RC] at h;simp[h,AV.size]
 |fA=>intro vs h;simp only[RC] at h;simp[h,AV.size]
 |func fn fs cs=>intro vs h;obtain⟨_,_,e,_⟩:=h;simp[e,AV.size]
 |iface t v=>intro vs h;obtain⟨_,e,_⟩:=h;simp[e,AV.size]
 |cons a b ih1 ih2=>intro vs h;obtain⟨v1,v2,e,h1,h2⟩:=h;subst e;rw[List.length_append,ih1 h1,ih2 h2,AV.size]
 |nil=>intro vs h;simp only[RC] at h;simp[h,AV.size]
 |bot=>intro vs h;exact h.elim
 |fx=>intro vs h;obtain⟨_,_,_,e⟩:=h;simp[e,AV.size]
 |dP t=>intro vs h;exact h.1
 |nq c=>intro vs h;obtain⟨_,e,_⟩:=h;simp[e,AV.size]
 |dH b=>intro vs h;obtain⟨e,_⟩:=h;simp[e,AV.size]
 |cD f t x=>intro vs h;obtain⟨_,_,e,_⟩:=h;simp[e,AV.size]
 |eU l=>intro vs h;exact h.elim
 |opt c v=>intro vs h;exact h.elim
theorem Rel.one{w:World}{S:Nat→Prop}:∀{t:Ty}{vs:List Value}{x:t.den},Rel w S t vs x→∀v∈vs,v.oneCell'=true:=by
 intro t
 induction t with
 |int k=>intro vs x h v hv;simp[Rel] at h;rw[h.1] at hv;simp at hv;subst hv;rfl
 |bool=>intro vs x h v hv;simp[Rel] at h;rw[h] at hv;simp at hv;subst hv;rfl
 |str=>intro vs x h v hv;simp[Rel] at h;rw[h.1] at hv;simp at hv;subst hv;rfl
 |
  arr n t ih=>
  intro vs x h
  have key:∀{xs:List t.den}{vs:List Value},aQ (Rel w S t) vs xs→∀v∈vs,v.oneCell'=true:=by
   intro xs
   induction xs with
   |nil=>intro vs h v hv;simp[aQ] at h;subst h;cases hv
   |
    cons y ys ih2=>
    intro vs h v hv
    obtain⟨v1,v2,e,h1,h2⟩:=h
    subst e
    rcases List.mem_append.1 hv with h|h
    ·exact ih h1 v h
    ·exact ih2 h2 v h
  exact key h.2
 |slice bs t=>intro vs x h v hv;obtain⟨a,cap,e,_⟩:=h;rw[e] at hv;simp at hv;subst hv;rfl
 |
  pair a b ih1 ih2=>
  intro vs x h v hv
  obtain⟨v1,v2,e,h1,h2⟩:=h
  subst e
  rcases List.mem_append.1 hv with h|h
  ·exact ih1 h1 v h
  ·exact ih2 h2 v h
 |unit=>intro vs x h v hv;simp[Rel] at h;subst h;cases hv
 |aN k=>intro vs x h;exact h.elim
 |
  fns n=>
  intro vs x h v hv
  obtain⟨_,h2⟩:=h
  rw[h2] at hv
  obtain⟨o,_,e⟩:=List.mem_map.1 hv
  subst e
  cases o<;>rfl
 |map k v=>intro vs x h v hv;obtain⟨a,e,_⟩:=h;rw[e] at hv;simp at hv;subst hv;rfl
theorem RC.one{E:Env}{w:World}:∀{a:AV}{vs:List Value},RC E w a vs→∀v∈vs,v.oneCell'=true:=by
 intro a
 induction a with
 |val t x=>intro vs h;exact Rel.one h
 |aX=>intro vs h v hv;simp only[RC] at h;rw[h] at hv;simp at hv;subst hv;rfl
 |own b=>intro vs h v hv;obtain⟨e,a,n,c,e2⟩:=h;rw[e,e2] at hv;simp at hv;subst hv;rfl
 |ig b lo len=>intro vs h v hv;obtain⟨_,_,_,_,_,_,_,_,_,e,_⟩:=h;rw[e] at hv;simp at hv;subst hv;rfl
 |gn b p lo len=>intro vs h v hv;obtain⟨_,_,_,_,_,_,_,e,_⟩:=h;rw[e] at hv;simp at hv;subst hv;rfl
 |ptr b p=>intro vs h v hv;obtain⟨_,_,e,_⟩:=h;rw[e] at hv;simp at hv;subst hv;rfl
 |bD t x=>intro vs h v hv;obtain⟨_,_,_,e,_⟩:=h;rw[e] at hv;simp at hv;subst hv;rfl
 |mp b=>intro vs h v hv;obtain⟨_,_,e⟩:=h;rw[e] at hv;simp at hv;subst hv;rfl
 |eT=>intro vs h v hv;simp only[RC] at h;rw[h] at hv;simp at hv;subst hv;rfl
 |di=>intro vs h v hv;simp only[RC] at h;rw[h] at hv;simp at hv;subst hv;rfl
 |dX=>intro vs h v hv;simp only[RC] at h;rw[h] at hv;simp at hv;subst hv;rfl
 |fx=>intro vs h v hv;obtain⟨_,_,_,e⟩:=h;rw[e] at hv;simp at hv;subst hv;rfl
 |dP t=>intro vs h v hv;exact h.2 v hv
 |nq c=>intro vs h v hv;obtain⟨_,e,_⟩:=h;rw[e] at hv;simp at hv;subst hv;rfl
 |dH b=>intro vs h v hv;obtain⟨e,n,e2⟩:=h;rw[e,e2] at hv;simp at hv;subst hv;rfl
 |cD f t x=>intro vs h v hv;obtain⟨_,_,e,_⟩:=h;rw[e] at hv;simp at hv;subst hv;rfl
 |fA=>intro vs h v hv;simp only[RC] at h;rw[h] at hv;simp at hv;subst hv;rfl
 |func fn fs cs=>intro vs h v hv;obtain⟨_,_,e,_⟩:=h;rw[e] at hv;simp at hv;subst hv;rfl
 |iface t x=>intro vs h v hv;obtain⟨_,e,_⟩:=h;rw[e] at hv;simp at hv;subst hv;rfl
 |
  cons a b ih1 ih2=>
  intro vs h v hv
  obtain⟨v1,v2,e,h1,h2⟩:=h
  subst e
  rcases List.mem_append.1 hv with h|h
  ·exact ih1 h1 v h
  ·exact ih2 h2 v h
 |nil=>intro vs h v hv;simp only[RC] at h;subst h;cases hv
 |bot=>intro vs h;exact h.elim
 |eU l=>intro vs h;exact h.elim
 |opt c v=>intro vs h;exact h.elim
theorem cd.cells{E:Env}{w:World}{a:AV}{v:Value}(h:cd E w a v):RC E w a v.cells.toList:=by
 rcases h with⟨_,cs,e,h⟩|⟨_,h⟩
 ·subst e;exact h
 ·have h1:=RC.one h v (by simp)
  have:v.cells= #[v]:=by cases v<;>first|rfl|(simp[Value.oneCell'] at h1)
  rw[this];exact h
theorem AV.dg:∀{a:AV}{t:Ty},a.bK t=true→a.size=t.size:=by
 intro a
 induction a with
 |val u x=>intro t h;have:=Ty.aA (by simpa[AV.bK] using h);subst this;rfl
 |dP u=>intro t h;have:=Ty.aA (by simpa[AV.bK] using h);subst this;rfl
 |
  cons a b ih1 ih2=>
  intro t h
  cases t<;>simp[AV.bK] at h
  rw[AV.size,Ty.size,ih1 h.1,ih2 h.2]
 |nil=>intro t h;cases t<;>simp[AV.bK] at h;rfl
 |aX=>intro t h;cases t with|slice _ _=>rfl|aN k=>cases k<;>simp[AV.bK] at h<;>rfl|_=>simp[AV.bK] at h
 |_=>intro t h;first|(cases t<;>simp[AV.bK] at h<;>rfl)|(cases t with|aN k=>cases k<;>simp[AV.bK] at h<;>rfl|map _ _=>(first|rfl|simp[AV.bK] at h)|_=>simp[AV.bK] at h)
theorem AV.fC:∀{a:AV}{t:Ty},a.bK t=true→a.isAgg=t.isAgg:=by
 intro a t h
 cases a with
 |val u x=>have:=Ty.aA (by simpa[AV.bK] using h);subst this;rfl
 |dP u=>have:=Ty.aA (by simpa[AV.bK] using h);subst this;rfl
 |cons a b=>cases t<;>simp[AV.bK] at h;rfl
 |nil=>cases t<;>simp[AV.bK] at h;rfl
 |aX=>cases t with|slice _ _=>rfl|aN k=>cases k<;>simp[AV.bK] at h<;>rfl|_=>simp[AV.bK] at h
 |_=>first|(cases t<;>simp[AV.bK] at h<;>rfl)|(cases t with|aN k=>cases k<;>simp[AV.bK] at h<;>rfl|map _ _=>(first|rfl|simp[AV.bK] at h)|_=>simp[AV.bK] at h)
def Bz:Option Nat→AV
 |none=>.dX
 |some f=>.func (.func f) .nil .nil
def dq:(t:Ty)→t.den→Path→Option AV
 | .pair a _,x,.bZ 0::p=>dq a x.1 p
 | .pair _ b,x,.bZ (k+1)::p=>dq b x.2 (.bZ k::p)
 | .arr _ t,x,.idx i::p=>dq t (List.getD x i t.aB) p
 | .fns _,x,[.idx i]=>some (Bz (List.getD x i none))
 |t,x,[]=>some (.val t x)
 |_,_,_=>none
def AV.get:AV→Path→Option AV
 | .val t x,p=>dq t x p
 | .cons a _,.bZ 0::p=>a.get p
 | .cons _ b,.bZ (k+1)::p=>b.get (.bZ k::p)
 |a,[]=>some a
 |_,_=>none
def AV.bA:AV→(t:Ty)→Option t.den
 | .val u x,t=>if h:Ty.same u t=true then some (Ty.aA h▸x) else none
 | .aX,.slice _ _=>some []
 | .di,.map _ _=>some none
 |
  .cons a b,.pair t u=>match a.bA t,b.bA u with
  |some x,some y=>some (x,y)
  |_,_=>none
 | .nil,.unit=>some ()
 |_,_=>none
def AV.Jy:AV→Bool
 | .aX=>true
 |_=>false
def AV.CV(v:AV)(t:Ty):Option AV:=
 match v.Jy&&v.bK t with
 |true=>some v
 |
  false=>match v.bA t with
  |some y=>some (.val t y)
  |none=>if v.bK t then some v else none
def eC:(t:Ty)→t.den→Path→AV→Option AV
 |
  .pair a b,x,.bZ 0::p,v=>match eC a x.1 p v with
  |some (.val u y)=>if h:Ty.same u a=true then some (.val (.pair a b) (Ty.aA h▸y,x.2)) else none
  |some y=>some (.cons y (.val b x.2))
  |none=>none
 |
  .pair a b,x,.bZ (k+1)::p,v=>match eC b x.2 (.bZ k::p) v with
  |some (.val u y)=>if h:Ty.same u b=true then some (.val (.pair a b) (x.1,Ty.aA h▸y)) else none
  |some y=>some (.cons (.val a x.1) y)
  |none=>none
 |
  .arr n t,x,.idx i::p,v=>match eC t (List.getD x i t.aB) p v with
  |
   some y=>match y.bA t with
   |some z=>some (.val (.arr n t) (List.set x i z))
   |none=>none
  |none=>none
 |t,_,[],v=>v.CV t
 |_,_,_,_=>none
def AV.set:AV→Path→AV→Option AV
 | .val t x,p,v=>eC t x p v
 | .cons a b,.bZ 0::p,v=>(a.set p v).map fun y=>.cons y b
 | .cons a b,.bZ (k+1)::p,v=>(b.set (.bZ k::p) v).map fun y=>.cons a y
 |_,[],v=>some v
 |_,_,_=>none
theorem RC.bA{E:Env}{w:World}:∀{a:AV}{t:Ty}{x:t.den}{vs:List Value},a.bA t=some x→RC E w a vs→Rel w E.S t vs x:=by
 intro a
 induction a with
 |
  val u y=>
  intro t x vs h hr
  simp only[AV.bA] at h
  split at h
  ·rename_i hs
   have e:=Ty.aA hs
   subst e
   simp at h;subst h;exact hr
  ·cases h
 |
  aX=>
  intro t x vs h hr
  cases t<;>simp[AV.bA] at h
  subst h
  exact⟨none,0,by simpa[RC] using hr,Nat.le_refl _,by simp,by simp,Or.inl rfl⟩
 |
  di=>
  intro t x vs h hr
  cases t<;>simp[AV.bA] at h
  subst h
  exact⟨none,by simpa[RC] using hr,Or.inl ⟨rfl,rfl⟩⟩
 |
  cons a b ih1 ih2=>
  intro t x vs h hr
  cases t with
  |
   pair t u=>
   obtain⟨v1,v2,e,h1,h2⟩:=hr
   simp only[AV.bA] at h
   split at h
   ·rename_i y z hy hz
    cases h
    exact⟨v1,v2,e,ih1 hy h1,ih2 hz h2⟩
   ·cases h
  |_=>simp[AV.bA] at h
 |
  nil=>
  intro t x vs h hr
  cases t<;>simp[AV.bA] at h
  exact hr
 |_=>intro t x vs h;cases t<;>simp[AV.bA] at h
theorem cd.bA{E:Env}{w:World}{a:AV}{t:Ty}{x:t.den}{v:Value}(h:a.bA t=some x)(hr:cd E w a v):cd E w (.val t x) v:=by
 rcases hr with⟨h1,cs,h2,h3⟩|⟨h1,h2⟩
 ·refine Or.inl ⟨?_,cs,h2,RC.bA h h3⟩
  cases a with
  |
   val u y=>
   simp only[AV.bA] at h
   split at h
   ·rename_i hs;have e:=Ty.aA hs;subst e;exact h1
   ·cases h
  |cons a b=>cases t<;>simp[AV.bA] at h;rfl
  |nil=>cases t<;>simp[AV.bA] at h;rfl
  |dP u=>cases t<;>simp[AV.bA] at h
  |_=>simp[AV.isAgg] at h1
 ·refine Or.inr ⟨?_,RC.bA h h2⟩
  cases a with
  |
   val u y=>
   simp only[AV.bA] at h
   split at h
   ·rename_i hs;have e:=Ty.aA hs;subst e;exact h1
   ·cases h
  |aX=>cases t<;>simp[AV.bA] at h;rfl
  |di=>cases t<;>simp[AV.bA] at h;rfl
  |cons a b=>simp[AV.isAgg] at h1
  |nil=>simp[AV.isAgg] at h1
  |_=>cases t<;>simp[AV.bA] at h
end Go.Ax
namespace Go.Ax
theorem kZ{α:Type}(v1 v2:List α)(k n:Nat)(hk:v1.length≤k):((v1++v2).drop k).take n=(v2.drop (k -v1.length)).take n:=by
 rw[List.drop_append,List.drop_of_length_le hk,List.nil_append]
theorem k7{α:Type}(v1 v2:List α)(k n:Nat)(hk:k+n≤v1.length):((v1++v2).drop k).take n=(v1.drop k).take n:=by
 rw[List.drop_append,List.take_append]
 simp;omega
theorem ni{E:Env}{w:World}:∀{t:Ty}{x:t.den}{cs:List Value}{p:Path}{u:AV},Rel w E.S t cs x→t.valid p→dq t x p=some u→
 ∃s,t.sub p=some s∧u.bK s=true∧t.off p+s.size≤cs.length∧RC E w u ((cs.drop (t.off p)).take s.size):=by
 intro t
 induction t with
 |
  pair a b ih1 ih2=>
  intro x cs p u hr hv hg
  cases p with
  |
   nil=>
   simp only[dq,Option.some.injEq] at hg;subst hg
   have hl:=Rel.len hr
   exact⟨_,rfl,Ty.cC _,by simp[Ty.off,hl],by simp only[Ty.off,List.drop_zero];rw[List.take_of_length_le (by omega)];exact hr⟩
  |
   cons s p=>
   obtain⟨v1,v2,e,h1,h2⟩:=hr
   subst e
   cases s with
   |
    bZ k=>
    cases k with
    |
     zero=>
     obtain⟨s,e1,e2,e3,e4⟩:=ih1 h1 hv hg
     refine⟨s,e1,e2,by simp only[Ty.off,List.length_append];omega,?_⟩
     simp only[Ty.off]
     rw[k7 _ _ _ _ e3];exact e4
    |
     succ k=>
     obtain⟨s,e1,e2,e3,e4⟩:=ih2 h2 hv hg
     have hl:=Rel.len h1
     refine⟨s,e1,e2,by simp only[Ty.off,List.length_append];omega,?_⟩
     simp only[Ty.off]
     rw[kZ _ _ _ _ (by omega),hl,Nat.add_sub_cancel_left];exact e4
   |idx i=>simp[dq] at hg
 |
  arr n t ih=>
  intro x cs p u hr hv hg
  cases p with
  |
   nil=>
   simp only[dq,Option.some.injEq] at hg;subst hg
   have hl:=Rel.len hr
   exact⟨_,rfl,Ty.cC _,by simp[Ty.off,hl],by simp only[Ty.off,List.drop_zero];rw[List.take_of_length_le (by omega)];exact hr⟩
  |
   cons s p=>
   cases s with
   |bZ k=>simp[dq] at hg
   |
    idx i=>
    have hl:=Rel.len hr
    obtain⟨hn,hr⟩:=hr
    obtain⟨hi,hv⟩:=hv
    have hx:i<List.length x:=by rw[hn];exact hi
    have:=aQ.get (fun _ _=>Rel.len) t.aB i hr hx
    obtain⟨s,e1,e2,e3,e4⟩:=ih this hv hg
    have hb:(i+1)*t.size≤n*t.size:=Nat.mul_le_mul_right _ hi
    rw[Nat.add_mul,Nat.one_mul] at hb
    have hle:t.off p+s.size≤t.size:=by
     have:=e3
     simp only[List.length_take,List.length_drop] at this
     omega
    refine⟨s,e1,e2,?_,?_⟩
    ·simp only[Ty.off];rw[hl,Ty.size];omega
    ·simp only[Ty.off]
     rw[List.drop_take,List.take_take,List.drop_drop,Nat.min_eq_left (by omega)] at e4
     exact e4
 |
  int k=>intro x cs p u hr hv hg;cases p with
  |nil=>simp only[dq,Option.some.injEq] at hg;subst hg;have hl:=Rel.len hr;exact⟨_,rfl,Ty.cC _,by simp[Ty.off,hl],by simp only[Ty.off,List.drop_zero];rw[List.take_of_length_le (by omega)];exact hr⟩
  |cons s p=>simp[Ty.valid] at hv
 |
  bool=>intro x cs p u hr hv hg;cases p with
  |nil=>simp only[dq,Option.some.injEq] at hg;subst hg;have hl:=Rel.len hr;exact⟨_,rfl,Ty.cC _,by simp[Ty.off,hl],by simp only[Ty.off,List.drop_zero];rw[List.take_of_length_le (by omega)];exact hr⟩
  |cons s p=>simp[Ty.valid] at hv
 |
  str=>intro x cs p u hr hv hg;cases p with
  |nil=>simp only[dq,Option.some.injEq] at hg;subst hg;have hl:=Rel.len hr;exact⟨_,rfl,Ty.cC _,by simp[Ty.off,hl],by simp only[Ty.off,List.drop_zero];rw[List.take_of_length_le (by omega)];exact hr⟩
  |cons s p=>simp[Ty.valid] at hv
 |
  slice bs t=>intro x cs p u hr hv hg;cases p with
  |nil=>simp only[dq,Option.some.injEq] at hg;subst hg;have hl:=Rel.len hr;exact⟨_,rfl,Ty.cC _,by simp[Ty.off,hl],by simp only[Ty.off,List.drop_zero];rw[List.take_of_length_le (by omega)];exact hr⟩
  |cons s p=>simp[Ty.valid] at hv
 |
  unit=>intro x cs p u hr hv hg;cases p with
  |nil=>simp only[dq,Option.some.injEq] at hg;subst hg;have hl:=Rel.len hr;exact⟨_,rfl,Ty.cC _,by simp[Ty.off,hl],by simp only[Ty.off,List.drop_zero];rw[List.take_of_length_le (by omega)];exact hr⟩
  |cons s p=>simp[Ty.valid] at hv
 |
  fns n=>intro x cs p u hr hv hg;cases p with
  |nil=>simp only[dq,Option.some.injEq] at hg;subst hg;have hl:=Rel.len hr;exact⟨_,rfl,Ty.cC _,by simp[Ty.off,hl],by simp only[Ty.off,List.drop_zero];rw[List.take_of_length_le (by omega)];exact hr⟩
  |
   cons s p=>
   cases s with
   |bZ k=>simp[dq] at hg
   |
    idx i=>
    cases p with
    |cons _ _=>simp[dq] at hg
    |
     nil=>
     simp only[dq,Option.some.injEq] at hg
     subst hg
     obtain⟨h1,rfl⟩:=hr
     have hi:i<List.length x:=by rw[h1];exact hv
     refine⟨.aN .func,rfl,?_,by simp[Ty.off,Ty.size];omega,?_⟩
     ·cases(List.getD x i none)<;>rfl
     ·have e:((x.map xY).drop i).take 1= [xY (List.getD x i none)]:=by
       rw[List.drop_eq_getElem_cons (by simpa using hi)]
       simp[List.getD_eq_getElem?_getD,hi]
      simp only[Ty.off,Ty.size]
      rw[e]
      cases(List.getD x i none) with
      |none=>rfl
      |some f=>exact⟨#[], #[],rfl,rfl,rfl,rfl,rfl⟩
 |
  map k v=>intro x cs p u hr hv hg;cases p with
  |nil=>simp only[dq,Option.some.injEq] at hg;subst hg;have hl:=Rel.len hr;exact⟨_,rfl,Ty.cC _,by simp[Ty.off,hl],by simp only[Ty.off,List.drop_zero];rw[List.take_of_length_le (by omega)];exact hr⟩
  |cons s p=>simp[Ty.valid] at hv
 |aN k=>intro x cs p u hr hv hg;exact hr.elim
theorem AV.dO{E:Env}{w:World}:∀{a:AV}{t:Ty}{cs:List Value}{p:Path}{u:AV},RC E w a cs→a.bK t=true→t.valid p→a.get p=some u→
 ∃s,t.sub p=some s∧u.bK s=true∧t.off p+s.size≤cs.length∧RC E w u ((cs.drop (t.off p)).take s.size):=by
 intro a
 have base:∀{a:AV}{t:Ty}{cs:List Value}{u:AV},RC E w a cs→a.bK t=true→some a=some u→
  ∃s,t.sub []=some s∧u.bK s=true∧t.off []+s.size≤cs.length∧RC E w u ((cs.drop (t.off [])).take s.size):=by
  intro a t cs u hr hc e
  cases e
  have hl:=RC.len hr
  have hs:=AV.dg hc
  have aaw:t.sub []=some t:=by cases t<;>rfl
  have hoff:t.off []=0:=by cases t<;>rfl
  exact⟨t,aaw,hc,by omega,by rw[hoff,List.drop_zero,List.take_of_length_le (by omega)];exact hr⟩
 induction a with
 |
  val u x=>
  intro t cs p v hr hc hv hg
  have:=Ty.aA (by simpa[AV.bK] using hc);subst this
  exact ni hr hv hg
 |
  cons a b ih1 ih2=>
  intro t cs p u hr hc hv hg
  cases p with
  |nil=>exact base hr hc hg
  |
   cons s p=>
   cases t with
   |
    pair t1 t2=>
    simp only[AV.bK,Bool.and_eq_true] at hc
    obtain⟨v1,v2,e,h1,h2⟩:=hr
    subst e
    cases s with
    |
     bZ k=>
     cases k with
     |
      zero=>
      obtain⟨s,e1,e2,e3,e4⟩:=ih1 h1 hc.1 hv hg
      refine⟨s,e1,e2,by simp only[Ty.off,List.length_append];omega,?_⟩
      simp only[Ty.off]
      rw[k7 _ _ _ _ e3];exact e4
     |
      succ k=>
      obtain⟨s,e1,e2,e3,e4⟩:=ih2 h2 hc.2 hv hg
      have hl:=RC.len h1
      have hs:=AV.dg hc.1
      refine⟨s,e1,e2,by simp only[Ty.off,List.length_append];omega,?_⟩
      simp only[Ty.off]
      rw[kZ _ _ _ _ (by omega),hl,hs,Nat.add_sub_cancel_left];exact e4
    |idx i=>simp[AV.get] at hg
   |_=>simp[AV.bK] at hc
 |
  _=>
  intro t cs p u hr hc hv hg
  cases p with
  |nil=>exact base hr hc hg
  |cons s p=>simp[AV.get] at hg
theorem gP{α:Type}(v1 v2 us:List α)(k n:Nat)(hk:k+n≤v1.length):(v1++v2).take k++us++(v1++v2).drop (k+n)=(v1.take k++us++v1.drop (k+n))++v2:=by
 rw[List.take_append_of_le_length (by omega),List.drop_append_of_le_length (by omega)];simp
theorem gQ{α:Type}(v1 v2 us:List α)(k n:Nat)(hk:v1.length≤k):(v1++v2).take k++us++(v1++v2).drop (k+n)=v1++(v2.take (k -v1.length)++us++v2.drop (k -v1.length+n)):=by
 rw[List.take_append,List.take_of_length_le hk,List.drop_append,List.drop_of_length_le (by omega)]
 simp only[List.nil_append,List.append_assoc]
 congr 4;omega
theorem Rel.cast{w:World}{S:Nat→Prop}{u t:Ty}{x:u.den}{cs:List Value}(h:Ty.same u t=true)(hr:Rel w S u cs x):Rel w S t cs (Ty.aA h▸x):=by
 have e:=Ty.aA h
 subst e
 exact hr
theorem sk{E:Env}{w:World}{v:AV}{us:List Value}(hv:RC E w v us):∀{t:Ty}{x:t.den}{cs:List Value}{p:Path}{u:AV},Rel w E.S t cs x→t.valid p→eC t x p v=some u→
 ∃s,t.sub p=some s∧us.length=s.size∧t.off p+s.size≤cs.length∧RC E w u (cs.take (t.off p)++us++cs.drop (t.off p+s.size)):=by
 intro t
 have base:∀{t:Ty}{x:t.den}{cs:List Value}{u:AV},Rel w E.S t cs x→eC t x [] v=some u→
  ∃s,t.sub []=some s∧us.length=s.size∧t.off []+s.size≤cs.length∧RC E w u (cs.take (t.off [])++us++cs.drop (t.off []+s.size)):=by
  intro t x cs u hr hs
  have hl:=Rel.len hr
  have aaw:t.sub []=some t:=by cases t<;>rfl
  have hoff:t.off []=0:=by cases t<;>rfl
  have key:v.CV t=some u:=by
   cases t<;>simpa only[eC] using hs
  unfold AV.CV at key
  split at key
  ·rename_i hc
   simp only[Bool.and_eq_true] at hc
   cases key
   have hlu:=RC.len hv
   have:=AV.dg hc.2
   exact⟨t,aaw,by omega,by omega,by rw[hoff,Nat.zero_add,List.take_zero,List.nil_append,List.drop_of_length_le (by omega),List.append_nil];exact hv⟩
  split at key
  ·rename_i y hy
   cases key
   have:=RC.bA hy hv
   have hlu:=Rel.len this
   exact⟨t,aaw,hlu,by omega,by rw[hoff,Nat.zero_add,List.take_zero,List.nil_append,List.drop_of_length_le (by omega),List.append_nil];exact this⟩
  ·split at key
   ·rename_i hc
    cases key
    have hlu:=RC.len hv
    have:=AV.dg hc
    exact⟨t,aaw,by omega,by omega,by rw[hoff,Nat.zero_add,List.take_zero,List.nil_append,List.drop_of_length_le (by omega),List.append_nil];exact hv⟩
   ·cases key
 induction t with
 |
  pair a b ih1 ih2=>
  intro x cs p u hr hva hs
  cases p with
  |nil=>exact base hr hs
  |
   cons s p=>
   obtain⟨v1,v2,e,h1,h2⟩:=hr
   subst e
   have hl:=Rel.len h1
   cases s with
   |
    bZ k=>
    cases k with
    |
     zero=>
     simp only[eC] at hs
     split at hs
     ·rename_i ty y hy
      split at hs
      ·rename_i hsame
       cases hs
       obtain⟨s,e1,e2,e3,e4⟩:=ih1 h1 hva hy
       refine⟨s,e1,e2,by simp only[Ty.off,List.length_append];omega,?_⟩
       simp only[Ty.off]
       rw[gP _ _ _ _ _ e3]
       exact⟨_,v2,rfl,Rel.cast hsame e4,h2⟩
      ·cases hs
     ·rename_i y _ hy
      cases hs
      obtain⟨s,e1,e2,e3,e4⟩:=ih1 h1 hva hy
      refine⟨s,e1,e2,by simp only[Ty.off,List.length_append];omega,?_⟩
      simp only[Ty.off]
      rw[gP _ _ _ _ _ e3]
      exact⟨_,v2,rfl,e4,h2⟩
     ·cases hs
    |
     succ k=>
     simp only[eC] at hs
     split at hs
     ·rename_i ty y hy
      split at hs
      ·rename_i hsame
       cases hs
       obtain⟨s,e1,e2,e3,e4⟩:=ih2 h2 hva hy
       refine⟨s,e1,e2,by simp only[Ty.off,List.length_append];omega,?_⟩
       simp only[Ty.off]
       rw[gQ _ _ _ _ _ (by omega),hl,Nat.add_sub_cancel_left]
       exact⟨v1,_,rfl,h1,Rel.cast hsame e4⟩
      ·cases hs
     ·rename_i y _ hy
      cases hs
      obtain⟨s,e1,e2,e3,e4⟩:=ih2 h2 hva hy
      refine⟨s,e1,e2,by simp only[Ty.off,List.length_append];omega,?_⟩
      simp only[Ty.off]
      rw[gQ _ _ _ _ _ (by omega),hl,Nat.add_sub_cancel_left]
      exact⟨v1,_,rfl,h1,e4⟩
     ·cases hs
   |idx i=>simp[eC] at hs
 |
  arr n t ih=>
  intro x cs p u hr hva hs
  cases p with
  |nil=>exact base hr hs
  |
   cons s p=>
   cases s with
   |bZ k=>simp[eC] at hs
   |
    idx i=>
    have hl:=Rel.len hr
    obtain⟨hn,hr⟩:=hr
    obtain⟨hi,hva⟩:=hva
    have hx:i<List.length x:=by rw[hn];exact hi
    have hg:=aQ.get (fun _ _=>Rel.len) t.aB i hr hx
    simp only[eC] at hs
    split at hs
    ·rename_i y hy
     split at hs
     ·rename_i z hz
      cases hs
      obtain⟨s,e1,e2,e3,e4⟩:=ih hg hva hy
      have hb:(i+1)*t.size≤n*t.size:=Nat.mul_le_mul_right _ hi
      rw[Nat.add_mul,Nat.one_mul] at hb
      have hle:t.off p+s.size≤t.size:=by
       have:=e3
       simp only[List.length_take,List.length_drop] at this
       omega
      have aL:=aQ.set (r:=Rel w E.S t) (n:=t.size) (fun _ _ h=>Rel.len h) (us:=_) (y:=z) (RC.bA hz e4) i hr hx
      refine⟨s,e1,e2,?_,?_⟩
      ·simp only[Ty.off];rw[hl,Ty.size];omega
      ·simp only[Ty.off]
       refine⟨by simp[hn],?_⟩
       have key:cs.take (i*t.size)++(((cs.drop (i*t.size)).take t.size).take (t.off p)++us++((cs.drop (i*t.size)).take t.size).drop (t.off p+s.size))++cs.drop (i*t.size+t.size)
        =cs.take (i*t.size+t.off p)++us++cs.drop (i*t.size+t.off p+s.size):=by
        rw[List.take_take,Nat.min_eq_left (by omega),List.drop_take,List.drop_drop]
        have a1:cs.take (i*t.size+t.off p)=cs.take (i*t.size)++(cs.drop (i*t.size)).take (t.off p):=by
         rw[List.take_add]
        have a2:cs.drop (i*t.size+t.off p+s.size)=(cs.drop (i*t.size+(t.off p+s.size))).take (t.size -(t.off p+s.size))++cs.drop (i*t.size+t.size):=by
         have:=List.take_append_drop (t.size -(t.off p+s.size)) (cs.drop (i*t.size+(t.off p+s.size)))
         rw[List.drop_drop] at this
         rw[show i*t.size+(t.off p+s.size)+(t.size -(t.off p+s.size))=i*t.size+t.size from by omega] at this
         rw[this];congr 1;omega
        rw[a1,a2];simp only[List.append_assoc]
       rw[←key];exact aL
     ·cases hs
    ·cases hs
 |
  int k=>intro x cs p u hr hva hs;cases p with
  |nil=>exact base hr hs
  |cons s p=>simp[Ty.valid] at hva
 |
  bool=>intro x cs p u hr hva hs;cases p with
  |nil=>exact base hr hs
  |cons s p=>simp[Ty.valid] at hva
 |
  str=>intro x cs p u hr hva hs;cases p with
  |nil=>exact base hr hs
  |cons s p=>simp[Ty.valid] at hva
 |
  slice bs t=>intro x cs p u hr hva hs;cases p with
  |nil=>exact base hr hs
  |cons s p=>simp[Ty.valid] at hva
 |
  unit=>intro x cs p u hr hva hs;cases p with
  |nil=>exact base hr hs
  |cons s p=>simp[Ty.valid] at hva
 |
  fns n=>intro x cs p u hr hva hs;cases p with
  |nil=>exact base hr hs
  |cons s p=>cases s<;>simp[eC] at hs
 |
  map k v=>intro x cs p u hr hva hs;cases p with
  |nil=>exact base hr hs
  |cons s p=>simp[Ty.valid] at hva
 |aN k=>intro x cs p u hr;exact hr.elim
theorem AV.jb{E:Env}{w:World}{v:AV}{us:List Value}(hv:RC E w v us):∀{a:AV}{t:Ty}{cs:List Value}{p:Path}{u:AV},RC E w a cs→a.bK t=true→t.valid p→(∀s,t.sub p=some s→us.length=s.size)→a.set p v=some u→
 ∃s,t.sub p=some s∧us.length=s.size∧t.off p+s.size≤cs.length∧RC E w u (cs.take (t.off p)++us++cs.drop (t.off p+s.size)):=by
 intro a
 have base:∀{a:AV}{t:Ty}{cs:List Value}{u:AV},RC E w a cs→a.bK t=true→(∀s,t.sub []=some s→us.length=s.size)→some v=some u→
  ∃s,t.sub []=some s∧us.length=s.size∧t.off []+s.size≤cs.length∧RC E w u (cs.take (t.off [])++us++cs.drop (t.off []+s.size)):=by
  intro a t cs u hr hc hlen e
  cases e
  have hl:=RC.len hr
  have hs:=AV.dg hc
  have aaw:t.sub []=some t:=by cases t<;>rfl
  have hoff:t.off []=0:=by cases t<;>rfl
  have:=hlen t aaw
  exact⟨t,aaw,this,by omega,by rw[hoff,Nat.zero_add,List.take_zero,List.nil_append,List.drop_of_length_le (by omega),List.append_nil];exact hv⟩
 induction a with
 |
  val u x=>
  intro t cs p y hr hc hva _ hs
  have:=Ty.aA (by simpa[AV.bK] using hc);subst this
  exact sk hv hr hva hs
 |
  cons a b ih1 ih2=>
  intro t cs p u hr hc hva hlen hs
  cases p with
  |nil=>exact base hr hc hlen hs
  |
   cons s p=>
   cases t with
   |
    pair t1 t2=>
    simp only[AV.bK,Bool.and_eq_true] at hc
    obtain⟨v1,v2,e,h1,h2⟩:=hr
    subst e
    have hl:=RC.len h1
    have hsz:=AV.dg hc.1
    cases s with
    |
     bZ k=>
     cases k with
     |
      zero=>
      simp only[AV.set,Option.map_eq_some_iff] at hs
      obtain⟨y,hy,e⟩:=hs
      subst e
      obtain⟨s,e1,e2,e3,e4⟩:=ih1 h1 hc.1 hva hlen hy
      refine⟨s,e1,e2,by simp only[Ty.off,List.length_append];omega,?_⟩
      simp only[Ty.off]
      rw[gP _ _ _ _ _ e3]
      exact⟨_,v2,rfl,e4,h2⟩
     |
      succ k=>
      simp only[AV.set,Option.map_eq_some_iff] at hs
      obtain⟨y,hy,e⟩:=hs
      subst e
      obtain⟨s,e1,e2,e3,e4⟩:=ih2 h2 hc.2 hva hlen hy
      refine⟨s,e1,e2,by simp only[Ty.off,List.length_append];omega,?_⟩
      simp only[Ty.off]
      rw[gQ _ _ _ _ _ (by omega),hl,hsz,Nat.add_sub_cancel_left]
      exact⟨v1,_,rfl,h1,e4⟩
    |idx i=>simp[AV.set] at hs
   |_=>simp[AV.bK] at hc
 |
  _=>
  intro t cs p u hr hc hva hlen hs
  cases p with
  |nil=>exact base hr hc hlen hs
  |cons s p=>simp[AV.set] at hs
end Go.Ax
namespace Go.Ax
structure BA where
 g:Nat
 t:Ty
 x:t.den
structure Ctx where
 gl:List BA
 B:(Nat→Prop)→World→Prop
 mono:∀{S S':Nat→Prop}{w w':World},(∀b,S b→w'.heap[b]? =w.heap[b]?)→(∀b,S b→S' b)→B S w→B S' w'
 ro:Option Nat
 md:Prop
def Ctx.of(l:List BA):Ctx:=⟨l,fun _ _=>True,fun _ _ _=>trivial,none,False⟩
abbrev Wd(gl:Ctx):Fence:={fn:=fun _=>True,depth:=none,alive:=false,round:=gl.ro}
structure St where
 tm:List AV
 hp:List (Option aI)
 df:List AV
def aI.ids:aI→List Nat
 | .var _ v=>v.ids
 | .tv _ _ v=>v.ids
 | .bN _ _ _ _ _ v=>v.ids
 | .cm _ _ _ _ _ (some (_,v))=>v.ids
 | .pmap _ _ _ _ (some (_,v,_))=>v.ids
 | .eH _ _ _ _ _ v _=>v.ids
 | .fu _ l=>l.flatMap fun x=>x.2.ids
 |_=>[]
def aI.CW:aI→Bool
 | .cm .. | .pmap .. | .eH .. =>true
 |_=>false
def RM(E:Env)(w:World)(k v:Ty):List MapEntry→List (k.den×v.den)→Prop
 |[],[]=>True
 |e::es,x::xs=>cd E w (.val k x.1) e.key∧cd E w (.val v x.2) e.val∧RM E w k v es xs
 |_,_=>False
theorem RM.of{E:Env}{w:World}{kt vt:Ty}:∀{en:List MapEntry}{es:List (kt.den×vt.den)},ij (fj kt.isAgg (Rel w E.S kt)) (fj vt.isAgg (Rel w E.S vt)) en es→RM E w kt vt en es
 |[],[],_=>trivial
 |[],_::_,h=>h.elim
 |_::_,[],h=>h.elim
 |_::_,_::_,⟨h1,h2,h3⟩=>⟨h1,h2,RM.of h3⟩
theorem RM.to{E:Env}{w:World}{kt vt:Ty}:∀{en:List MapEntry}{es:List (kt.den×vt.den)},RM E w kt vt en es→ij (fj kt.isAgg (Rel w E.S kt)) (fj vt.isAgg (Rel w E.S vt)) en es
 |[],[],_=>trivial
 |[],_::_,h=>h.elim
 |_::_,[],h=>h.elim
 |_::_,_::_,⟨h1,h2,h3⟩=>⟨h1,h2,RM.to h3⟩
def im(i n:Nat)(t:Ty):Ty:=.pair (.arr i t) (.pair t (.pair (.arr (n -i -1) t) .unit))
def Iy(w:World)(S:Nat→Prop)(e:TypeId)(bs:Nat)(t:Ty)(v:Value)(og:Option Nat)(xs:List t.den):Prop:=
 xs.length*bs≤aC∧xs.length≤aC∧0<t.size∧∃a cap,v= .slice a xs.length cap∧cap≤maxLen∧
  (
   ((cap=0∧a=none)∧og=none∧xs= [])∨
   (∃g c,og=some g∧a=some ⟨g,0,none⟩∧w.heap[g]? =some (.cells c e (0,0))∧c.size=cap*t.size∧xs.length≤cap∧aQ (Rel w S t) (c.toList.take (xs.length*t.size)) xs))
def LC(w:World)(S:Nat→Prop)(k v:Ty)(u:Value)(og:Option Nat)(es:List (k.den×v.den)):Prop:=
 (es.map (·.1)).Nodup∧es.length≤aC∧∃g en clock,og=some g∧u= .map (some g)∧w.heap[g]? =some (.map en clock)∧
  ij (fj k.isAgg (Rel w S k)) (fj v.isAgg (Rel w S v)) en.toList es∧(∀x∈en.toList,x.born<clock)∧(en.toList.map (·.born)).Nodup
def cE(w:World)(S:Nat→Prop)(e:TypeId):(t:Ty)→Value→Option Nat→t.den→Prop
 | .slice bs t,v,og,xs=>Iy w S e bs t v og xs
 | .map k v,u,og,x=>∃es,x=some es∧LC w S k v u og es
 |_,_,_,_=>False
def zeroV:Ty→Value
 | .map _ _=>.map none
 |_=>.slice none 0 0
structure CX(P:Nat→Prop)(g:Nat)(og:Nat→Option Nat):Prop where
 own:∀i u,og i=some u→P u∧u≠g
 inj:∀i j u,og i=some u→og j=some u→i=j
theorem CX.mono{P P':Nat→Prop}{g:Nat}{og:Nat→Option Nat}(h:CX P g og)(hP:∀u,P u→P' u):CX P' g og:=
 ⟨fun i u e=>⟨hP u (h.own i u e).1,(h.own i u e).2⟩,h.inj⟩
def k8(n:Nat)(t:Ty):Option (Nat×AV)→Ty
 |none=>.arr n t
 |some (i,_)=>im i n t
theorem cE.mono{w w':World}{S S':Nat→Prop}{e:TypeId}(hw:∀b,S b→w'.heap[b]? =w.heap[b]?)(hS:∀b,S b→S' b):∀{t:Ty}{v:Value}{og:Option Nat}{x:t.den},(∀g,og=some g→w'.heap[g]? =w.heap[g]?)→cE w S e t v og x→cE w' S' e t v og x:=by
 intro t v og x ho h
 cases t with
 |
  slice bs t=>
  obtain⟨h1,h2,h3,a,cap,h4,h5,h6⟩:=h
  refine⟨h1,h2,h3,a,cap,h4,h5,h6.imp id ?_⟩
  rintro⟨g,c,k1,k2,k3,k4,k5,k6⟩
  exact⟨g,c,k1,k2,by rw[ho g k1];exact k3,k4,k5,aQ.mono (fun _ _=>Rel.mono hw hS) k6⟩
 |
  map k u=>
  obtain⟨es,h0,h1,h2,g,en,clock,h3,h4,h5,h6,h7⟩:=h
  exact⟨es,h0,h1,h2,g,en,clock,h3,h4,by rw[ho g h3];exact h5,ij.mono (fun _ _=>fj.mono (fun _ _=>Rel.mono hw hS)) (fun _ _=>fj.mono (fun _ _=>Rel.mono hw hS)) h6,h7⟩
 |_=>exact h.elim
def iq(es:Array MapEntry)(seen:Array Nat):Array MapEntry:=es.filter fun e=> !seen.contains e.born
def PM(E:Env)(w:World)(b:Nat)(k t:Ty)(es:List (k.den×t.den))(e2:TypeId)(f:Option (k.den×AV×Bool)):Prop:=
 (es.map (·.1)).Nodup∧es.length≤aC∧(∀kx v pr,f=some (kx,v,pr)→v.bK t=true)∧∃g en clock og,E.g b=some g∧w.heap[g]? =some (.map en clock)∧(∀x∈en.toList,x.born<clock)∧(en.toList.map (·.born)).Nodup∧CX (E.P b) g og∧en.size=es.length∧
  (∀i x,es[i]? =some x→∃m,en[i]? =some m∧cd E w (.val k x.1) m.key∧(∀v pr,f=some (x.1,v,pr)→og i=none∧RC E w v [m.val])∧((∀v pr,f≠some (x.1,v,pr))→cE w E.S e2 t m.val (og i) x.2))∧
  ∀kx v,(f=some (kx,v,false)→kx∉es.map (·.1)→RC E w v [zeroV t])∧(f=some (kx,v,true)→kx∈es.map (·.1))
def RF(E:Env)(w:World)(k:Ty):List MapEntry→List (k.den×AV)→Prop
 |[],[]=>True
 |e::es,x::xs=>cd E w (.val k x.1) e.key∧RC E w x.2 [e.val]∧x.2.isAgg=false∧RF E w k es xs
 |_,_=>False
def RB(
 E:Env) (w:World) (b:Nat):aI→Prop
 | .jL k v rest cur=>∃g om since seen c0,E.g b=some g∧w.heap[g]? =some (.mapIter om since seen c0)∧((om=none∧rest= []∧cur=none)∨
  ∃bm en,om=some bm∧E.S bm∧w.heap[bm]? =some (.map en c0)∧since=c0∧(∀x∈en.toList,x.born<c0)∧(en.toList.map (·.born)).Nodup∧RM E w k v (iq en seen).toList rest∧
   ∀x,cur=some x→∃e s0,seen=Array.push s0 e.born∧e∈en.toList∧cd E w (.val k x.1) e.key∧cd E w (.val v x.2) e.val)
 | .cm e bs t xs e2 f=>E.bt b=k8 xs.length t f∧t.size=1∧xs.length*bs≤aC∧xs.length≤aC∧(∀i v,f=some (i,v)→i<xs.length∧v.bK t=true)∧∃g cap c og,E.sv b= .slice (some ⟨g,0,none⟩) xs.length cap∧cap≤maxLen∧E.g b=some g∧
  w.heap[g]? =some (.cells c e (0,0))∧c.size=cap∧xs.length≤cap∧CX (E.P b) g og∧
  ∀i x,xs[i]? =some x→∃u,c[i]? =some u∧(∀v,f=some (i,v)→og i=none∧RC E w v [u])∧((∀v,f≠some (i,v))→cE w E.S e2 t u (og i) x)
 | .pmap k t es e2 f=>PM E w b k t es e2 f
 | .eH k t es e2 kx v pr=>PM E w b k t es e2 (some (kx,v,pr))∧∃(n:Nat)(g:Nat)(en:Array MapEntry)(clock:Nat),E.sv b= .int .i64 n∧E.g b=some g∧w.heap[g]? =some (.map en clock)∧(kx∉es.map (·.1)→n=clock)∧
  ∀(i:Nat)(m:MapEntry)(y:t.den),es[i]? =some (kx,y)→en[i]? =some m→m.born=n
 | .fu k l=>(l.map (·.1)).Nodup∧l.length≤aC∧∃g en clock,E.g b=some g∧w.heap[g]? =some (.map en clock)∧RF E w k en.toList l
 | .var t v=>E.bt b=t∧v.bK t=true∧∃g c e,E.g b=some g∧w.heap[g]? =some (.cells c e (0,0))∧RC E w v c.toList
 | .row e bs t xs=>E.bt b= .arr xs.length t∧xs.length*bs≤aC∧xs.length≤aC∧0<t.size∧∃a cap,E.sv b= .slice a xs.length cap∧cap≤maxLen∧
  (
   ((cap=0∧a=none)∧E.g b=none∧xs= [])∨
   (∃g c,E.g b=some g∧a=some ⟨g,0,none⟩∧w.heap[g]? =some (.cells c e (0,0))∧c.size=cap*t.size∧xs.length≤cap∧aQ (Rel w E.S t) (c.toList.take (xs.length*t.size)) xs))
 | .map k v es=>(es.map (·.1)).Nodup∧es.length≤aC∧∃g en clock,E.g b=some g∧w.heap[g]? =some (.map en clock)∧RM E w k v en.toList es∧(∀x∈en.toList,x.born<clock)∧(en.toList.map (·.born)).Nodup
 | .lp y j=>E.g b=some y.l∧w.heap[y.l]? =some (.loop (y.rc j))
 | .qf=>∃g,E.g b=some g∧w.heap[g]? =some (.deferred (some []))
 | .tv g t v=>E.g b=some g∧E.bt b=t∧v.bK t=true∧∃c e,w.heap[g]? =some (.cells c e (0,0))∧RC E w v c.toList
 | .bN e bs t xs i v=>E.bt b=im i xs.length t∧i<xs.length∧xs.length*bs≤aC∧xs.length≤aC∧0<t.size∧v.bK t=true∧∃g cap c,E.sv b= .slice (some ⟨g,0,none⟩) xs.length cap∧cap≤maxLen∧E.g b=some g∧
  w.heap[g]? =some (.cells c e (0,0))∧c.size=cap*t.size∧xs.length≤cap∧aQ (Rel w E.S t) (c.toList.take (i*t.size)) (xs.take i)∧RC E w v ((c.toList.drop (i*t.size)).take t.size)∧
  aQ (Rel w E.S t) ((c.toList.drop ((i+1)*t.size)).take ((xs.length -(i+1))*t.size)) (xs.drop (i+1))
def CY(gl:Ctx)(E:Env)(w:World):Prop:=(∀x∈gl.gl,E.S x.g∧∃cs,lT w ⟨x.g,0,none⟩ cs∧Rel w E.S x.t cs x.x)∧gl.B E.S w
structure HW(gl:Ctx)(E:Env)(w:World)(hp:List (Option aI)):Prop where
 cj:∀b k,hp[b]? =some (some k)→RB E w b k
 dc:∀b b' k k' g,hp[b]? =some (some k)→hp[b']? =some (some k')→E.has b g→E.has b' g→b=b'
 cN:∀b k g,hp[b]? =some (some k)→E.has b g→¬E.S g
 slt:∀g,E.S g→g<w.heap.size
 gl:CY gl E w
 nT:∀b k g,hp[b]? =some (some k)→E.P b g→g<w.heap.size
theorem HW.sep{gl:Ctx}{E:Env}{w:World}{hp:List (Option aI)}(h:HW gl E w hp)(b b':Nat)(k k':aI)(g:Nat)(h1:hp[b]? =some (some k))(h2:hp[b']? =some (some k'))(h3:E.g b=some g)(h4:E.g b'=some g):b=b':=h.dc b b' k k' g h1 h2 (Or.inl h3) (Or.inl h4)
theorem HW.ik{gl:Ctx}{E:Env}{w:World}{hp:List (Option aI)}(h:HW gl E w hp)(b:Nat)(k:aI)(g:Nat)(h1:hp[b]? =some (some k))(h3:E.g b=some g):¬E.S g:=h.cN b k g h1 (Or.inl h3)
def Own(hp:List (Option aI))(E:Env)(g:Nat):Prop:=∃b k,hp[b]? =some (some k)∧E.has b g
def Tp(md:Prop)(w w':World):Prop:=w'.tape=w.tape∧(md→w.drawn≤w'.drawn)
theorem Tp.r{md:Prop}{w w':World}(h:w'.tape=w.tape)(k:w'.drawn=w.drawn):Tp md w w':=⟨h,fun _=>Nat.le_of_eq k.symm⟩
theorem Tp.s{md:Prop}{w w':World}(h:w'.tape=w.tape)(k:w'.drawn=w.drawn+1):Tp md w w':=⟨h,fun _=>k▸Nat.le_succ _⟩
theorem Tp.trans{md:Prop}{w v u:World}(h:Tp md w v)(k:Tp md v u):Tp md w u:=⟨k.1.trans h.1,fun m=>Nat.le_trans (h.2 m) (k.2 m)⟩
structure Ext(md:Prop)(O:Nat→Prop)(E:Env)(w:World)(O':Nat→Prop)(E':Env)(w':World):Prop where
 os:w'.os=w.os
 tape:Tp md w w'
 output:w'.output=w.output
 size:w.heap.size≤w'.heap.size
 kept:∀g,g<w.heap.size→¬O g→w'.heap[g]? =w.heap[g]?
 sle:∀g,E.S g→E'.S g
 jC:∀g,E'.S g→E.S g∨O g∨w.heap.size≤g
 own:∀g,O' g→O g∨w.heap.size≤g
 zX:∀b,b<16→E'.g b=E.g b∧E'.sv b=E.sv b∧E'.bt b=E.bt b
theorem Ext.refl{md:Prop}(O:Nat→Prop)(E:Env)(w:World):Ext md O E w O E w:=
 ⟨rfl,Tp.r rfl rfl,rfl,Nat.le_refl _,fun _ _ _=>rfl,fun _ h=>h,fun _ h=>Or.inl h,fun _ h=>Or.inl h,fun _ _=>⟨rfl,rfl,rfl⟩⟩
theorem Ext.trans{md:Prop}{O O1 O2:Nat→Prop}{E E1 E2:Env}{w w1 w2:World}(h:Ext md O E w O1 E1 w1)(k:Ext md O1 E1 w1 O2 E2 w2):Ext md O E w O2 E2 w2 where
 os:=k.os.trans h.os
 tape:=h.tape.trans k.tape
 output:=k.output.trans h.output
 size:=Nat.le_trans h.size k.size
 kept:=fun g hg ho=>by
  rw[k.kept g (Nat.lt_of_lt_of_le hg h.size) (fun h1=>(h.own g h1).elim ho (fun h2=>by omega)),h.kept g hg ho]
 sle:=fun g hg=>k.sle g (h.sle g hg)
 jC:=fun g hg=>by
  rcases k.jC g hg with h1|h1|h1
  ·exact h.jC g h1
  ·exact(h.own g h1).elim (fun x=>Or.inr (Or.inl x)) (fun x=>Or.inr (Or.inr x))
  ·exact Or.inr (Or.inr (Nat.le_trans h.size h1))
 own:=fun g hg=>by
  rcases k.own g hg with h1|h1
  ·exact h.own g h1
  ·exact Or.inr (Nat.le_trans h.size h1)
 zX:=fun b hb=>⟨(k.zX b hb).1.trans (h.zX b hb).1,(k.zX b hb).2.1.trans (h.zX b hb).2.1,(k.zX b hb).2.2.trans (h.zX b hb).2.2⟩
def RD(E:Env)(w:World):List AV→List Deferred→Prop
 |[],[]=>True
 | .mp b::l,d::ds=>(∃g,E.g b=some g∧d={target:=.collected g,args:= #[]})∧RD E w l ds
 | .func fn fs cs::l,d::ds=>(∃f c,d={target:=.fn fn c,args:=f}∧RC E w fs f.toList∧RC E w cs c.toList∧fs.atoms=true∧cs.atoms=true)∧RD E w l ds
 |_,_=>False
theorem RD.mono{E E':Env}{w w':World}(k:bC E w E' w'):∀{l:List AV}{ds:List Deferred},(∀a∈l,E.on E' a.ids)→RD E w l ds→RD E' w' l ds
 |[],[],_,_=>trivial
 |[],_::_,_,h=>h.elim
 |a::l,[],_,h=>by cases a<;>exact h.elim
 |
  a::l,d::ds,ho,h=>by
  cases a with
  |
   func fn fs cs=>
   obtain⟨⟨f,c,e,h1,h2,h3,h4⟩,h5⟩:=h
   have:=ho _ (List.mem_cons_self ..)
   exact⟨⟨f,c,e,RC.mono k this.left h1,RC.mono k this.right h2,h3,h4⟩,RD.mono k (fun a ha=>ho a (List.mem_cons_of_mem _ ha)) h5⟩
  |
   mp b=>
   obtain⟨⟨g,e1,e2⟩,h5⟩:=h
   have:=ho _ (List.mem_cons_self ..) b (by simp[AV.ids])
   exact⟨⟨g,by rw[this.1];exact e1,e2⟩,RD.mono k (fun a ha=>ho a (List.mem_cons_of_mem _ ha)) h5⟩
  |_=>exact h.elim
structure bO(gl:Ctx)(σ:St)(E:Env)(a:Act)(w:World):Prop where
 len:a.tmps.size=σ.tm.length
 tm:∀(i:Nat)(x:AV),σ.tm[i]? =some x→∀v,a.tmps[i]? =some v→RV E w x v
 hw:HW gl E w σ.hp
 df:RD E w σ.df a.defers
theorem HW.kept{gl:Ctx}{E E':Env}{w w':World}{hp:List (Option aI)}{O':Nat→Prop}(h:HW gl E w hp)(x:Ext gl.md (Own hp E) E w O' E' w'):bC E w E' w' where
 w:=fun b hb=>x.kept b (h.slt b hb) (fun⟨c,k,hc,hg⟩=>h.cN c k b hc hg hb)
 S:=x.sle
theorem RM.mono{E E':Env}{w w':World}(k:bC E w E' w'){kt vt:Ty}:∀{l:List MapEntry}{xs:List (kt.den×vt.den)},RM E w kt vt l xs→RM E' w' kt vt l xs
 |[],[],_=>trivial
 |[],_::_,h=>h.elim
 |_::_,[],h=>h.elim
 |e::l,x::xs,h=>⟨cd.mono k (fun b hb=>by cases hb) h.1,cd.mono k (fun b hb=>by cases hb) h.2.1,RM.mono k h.2.2⟩
theorem PM.mono{E E':Env}{w w':World}{b:Nat}{kt t:Ty}{es:List (kt.den×t.den)}{e2':TypeId}{f:Option (kt.den×AV×Bool)}(kp:bC E w E' w')(ho':E.on E' (aI.pmap kt t es e2' f).ids)(hkA:∀g,E.has b g→w'.heap[g]? =w.heap[g]?)(e1:E'.g b=E.g b)(hP:∀g,E.P b g→E'.P b g)(h:PM E w b kt t es e2' f):PM E' w' b kt t es e2' f:=by
 have hk:∀g,E.g b=some g→w'.heap[g]? =w.heap[g]? :=fun g h=>hkA g (Or.inl h)
 obtain⟨h1,h2,h3,g,en,clock,og,q1,q2,q3,q4,q5,q6,q7,q8⟩:=h
 refine⟨h1,h2,h3,g,en,clock,og,by rw[e1];exact q1,by rw[hk g q1];exact q2,q3,q4,q5.mono hP,q6,fun i x hx=>?_,fun kx v=>⟨fun hf hn=>?_,(q8 kx v).2⟩⟩
 ·obtain⟨m,r1,r2,r3,r4⟩:=q7 i x hx
  refine⟨m,r1,cd.mono kp (fun _ hb=>by cases hb) r2,fun v pr hv=>⟨(r3 v pr hv).1,?_⟩,fun hv=>cE.mono kp.w kp.S (fun gg hgg=>hkA gg (Or.inr (q5.own i gg hgg).1)) (r4 hv)⟩
  subst hv
  exact RC.mono kp ho' (r3 v pr rfl).2
 ·subst hf
  exact RC.mono kp ho' ((q8 kx v).1 rfl hn)
theorem RF.mono{E E':Env}{w w':World}(k:bC E w E' w'){kt:Ty}:∀{l:List MapEntry}{xs:List (kt.den×AV)},E.on E' (xs.flatMap fun x=>x.2.ids)→RF E w kt l xs→RF E' w' kt l xs
 |[],[],_,_=>trivial
 |[],_::_,_,h=>h.elim
 |_::_,[],_,h=>h.elim
 |e::l,x::xs,ho,h=>⟨cd.mono k (fun b hb=>by cases hb) h.1,RC.mono k (Env.on.left (by simpa using ho)) h.2.1,h.2.2.1,RF.mono k (Env.on.right (a:=x.2.ids) (by simpa using ho)) h.2.2.2⟩
theorem RB.mono{E E':Env}{w w':World}{b:Nat}{k:aI}(kp:bC E w E' w')(ho:E.on E' (b::k.ids))(hk:∀g,E.has b g→w'.heap[g]? =w.heap[g]?)(hP:k.CW=true→∀g,E.P b g→E'.P b g)(h:RB E w b k):RB E' w' b k:=by
 have hkA:=hk
 have hk:∀g,E.g b=some g→w'.heap[g]? =w.heap[g]? :=fun g h=>hk g (Or.inl h)
 obtain⟨e1,e2,e3⟩:=ho b (List.mem_cons_self ..)
 have ho':E.on E' k.ids:=fun x hx=>ho x (List.mem_cons_of_mem _ hx)
 cases k with
 |
  var t v=>
  obtain⟨h1,h2,g,c,e,h3,h4,h5⟩:=h
  exact⟨by rw[e3];exact h1,h2,g,c,e,by rw[e1];exact h3,by rw[hk g h3];exact h4,RC.mono kp ho' h5⟩
 |
  row e bs t xs=>
  obtain⟨h1,h2,h3,h4,a,cap,h5,h6,h7⟩:=h
  refine⟨by rw[e3];exact h1,h2,h3,h4,a,cap,by rw[e2];exact h5,h6,?_⟩
  rcases h7 with⟨h7,h8,h9⟩|⟨g,c,h7,h8,h9,h10,h11,h12⟩
  ·exact Or.inl ⟨h7,by rw[e1];exact h8,h9⟩
  ·exact Or.inr ⟨g,c,by rw[e1];exact h7,h8,by rw[hk g h7];exact h9,h10,h11,aQ.mono (fun _ _=>Rel.mono kp.w kp.S) h12⟩
 |
  map kt vt es=>
  obtain⟨h1,h1',g,en,clock,h2,h3,h4,h5,h6⟩:=h
  exact⟨h1,h1',g,en,clock,by rw[e1];exact h2,by rw[hk g h2];exact h3,RM.mono kp h4,h5,h6⟩
 |
  jL k v rest cur=>
  obtain⟨g,om,since,seen,c0,q1,q2,q3⟩:=h
  refine⟨g,om,since,seen,c0,by rw[e1];exact q1,by rw[hk g q1];exact q2,q3.imp id ?_⟩
  rintro⟨bm,en,r1,r2,r3,r4,r5,r6,r7,r8⟩
  refine⟨bm,en,r1,kp.S bm r2,by rw[kp.w bm r2];exact r3,r4,r5,r6,RM.mono kp r7,fun x hx=>?_⟩
  obtain⟨e,s0,t1,t2,t3,t4⟩:=r8 x hx
  exact⟨e,s0,t1,t2,cd.mono kp (fun _ hb=>by cases hb) t3,cd.mono kp (fun _ hb=>by cases hb) t4⟩
 |
  cm e bs t xs e2' f=>
  obtain⟨h1,h2,h3,h4,h5,g,cap,c,og,q1,q2,q3,q4,q5,q6,q7,q8⟩:=h
  refine⟨by rw[e3];exact h1,h2,h3,h4,h5,g,cap,c,og,by rw[e2];exact q1,q2,by rw[e1];exact q3,by rw[hk g q3];exact q4,q5,q6,q7.mono (hP rfl),fun i x hx=>?_⟩
  obtain⟨u,r1,r2,r3⟩:=q8 i x hx
  refine⟨u,r1,fun v hv=>⟨(r2 v hv).1,?_⟩,fun hv=>cE.mono kp.w kp.S (fun gg hgg=>hkA gg (Or.inr (q7.own i gg hgg).1)) (r3 hv)⟩
  subst hv
  exact RC.mono kp ho' (r2 v rfl).2
 |pmap kt t es e2' f=>exact PM.mono kp (by cases f with|none=>exact fun _ hx=>(by cases hx)|some f=>exact ho') hkA e1 (hP rfl) h
 |
  eH kt t es e2' kx v pr=>
  obtain⟨h1,n,g,en,clock,q1,q2,q3,q4,q5⟩:=h
  exact⟨PM.mono kp ho' hkA e1 (hP rfl) h1,n,g,en,clock,by rw[e2];exact q1,by rw[e1];exact q2,by rw[hk g q2];exact q3,q4,q5⟩
 |
  fu kt l=>
  obtain⟨h1,h2,g,en,clock,q1,q2,q3⟩:=h
  exact⟨h1,h2,g,en,clock,by rw[e1];exact q1,by rw[hk g q1];exact q2,RF.mono kp ho' q3⟩
 |lp l r=>exact⟨by rw[e1];exact h.1,by rw[hk l.l h.1];exact h.2⟩
 |qf=>obtain⟨g,h1,h2⟩:=h;exact⟨g,by rw[e1];exact h1,by rw[hk g h1];exact h2⟩
 |
  tv g t v=>
  obtain⟨h0,h1,h2,c,e,h4,h5⟩:=h
  exact⟨by rw[e1];exact h0,by rw[e3];exact h1,h2,c,e,by rw[hk g h0];exact h4,RC.mono kp ho' h5⟩
 |
  bN e bs t xs i v=>
  obtain⟨h1,h2,h3,h4,h5,h6,g,cap,c,q1,q2,q3,q4,q5,q6,q7,q8,q9⟩:=h
  exact⟨by rw[e3];exact h1,h2,h3,h4,h5,h6,g,cap,c,by rw[e2];exact q1,q2,by rw[e1];exact q3,by rw[hk g q3];exact q4,q5,q6,aQ.mono (fun _ _=>Rel.mono kp.w kp.S) q7,RC.mono kp ho' q8,aQ.mono (fun _ _=>Rel.mono kp.w kp.S) q9⟩
def St.put(σ:St)(dst:Option Nat)(x:AV):St:=
 match dst with
 |some d=>{σ with tm:=σ.tm.set d x}
 |none=>σ
def St.cj(σ:St)(b:Nat)(k:Option aI):St:={σ with hp:=σ.hp.set b k}
theorem bO.put{gl:Ctx}{σ:St}{E:Env}{a:Act}{w:World}(h:bO gl σ E a w)(dst:Option Nat){x:AV}{v:Value}(hv:RV E w x v):bO gl (σ.put dst x) E (a.put dst v) w:=by
 cases dst with
 |none=>exact h
 |
  some d=>
  refine⟨by simp[Act.put,St.put,h.len],?_,h.hw,h.df⟩
  intro i y hi u hu
  simp only[St.put,List.getElem?_set] at hi
  simp only[Act.put,Array.getElem?_setIfInBounds] at hu
  by_cases e:d=i
  ·subst e
   simp only[if_true] at hi hu
   split at hi
   ·cases hi
    rename_i hlt
    rw[if_pos (by rw[h.len];exact hlt)] at hu
    cases hu
    exact hv
   ·cases hi
  ·simp only[e,if_false] at hi hu
   exact h.tm i y hi u hu
def St.ids(σ:St):List Nat:=σ.tm.flatMap AV.ids++σ.df.flatMap AV.ids++(σ.hp.filterMap id).flatMap aI.ids
theorem St.xZ{σ:St}{i:Nat}{x:AV}(h:σ.tm[i]? =some x):∀b∈x.ids,b∈σ.ids:=fun b hb=>by
 simp only[St.ids,List.mem_append,List.mem_flatMap]
 exact Or.inl (Or.inl ⟨x,List.mem_of_getElem? h,hb⟩)
theorem St.CZ{σ:St}{x:AV}(h:x∈σ.df):∀b∈x.ids,b∈σ.ids:=fun b hb=>by
 simp only[St.ids,List.mem_append,List.mem_flatMap]
 exact Or.inl (Or.inr ⟨x,h,hb⟩)
theorem St.tR{σ:St}{i:Nat}{k:aI}(h:σ.hp[i]? =some (some k)):∀b∈k.ids,b∈σ.ids:=fun b hb=>by
 simp only[St.ids,List.mem_append,List.mem_flatMap]
 exact Or.inr ⟨k,List.mem_filterMap.2 ⟨some k,List.mem_of_getElem? h,rfl⟩,hb⟩
theorem bO.carry{gl:Ctx}{σ:St}{E E':Env}{a:Act}{w w':World}(h:bO gl σ E a w)(k:bC E w E' w')(ho:E.on E' σ.ids){hp:List (Option aI)}(hw:HW gl E' w' hp):bO gl {σ with hp:=hp} E' a w':=
 ⟨h.len,fun i x hi v hv=>RV.mono k (fun b hb=>ho b (St.xZ (σ:=σ) hi b hb)) (h.tm i x hi v hv),hw,RD.mono k (fun _x hx b hb=>ho b (St.CZ (σ:=σ) hx b hb)) h.df⟩
def Env.at(E:Env)(d:Nat)(g:Option Nat)(sv:Value)(t:Ty):Env:=
 {E with g:=fun b=>if b=d then g else E.g b,sv:=fun b=>if b=d then sv else E.sv b,bt:=fun b=>if b=d then t else E.bt b,P:=fun b=>if b=d then fun _=>False else E.P b}
theorem Env.C0{E:Env}{d:Nat}{g:Option Nat}{sv:Value}{t:Ty}(h:16≤d):∀b,b<16→(E.at d g sv t).g b=E.g b∧(E.at d g sv t).sv b=E.sv b∧(E.at d g sv t).bt b=E.bt b:=fun b hb=>by
 have:b≠d:=by omega
 simp[Env.at,this]
theorem Env.wg{E:Env}{d:Nat}{g:Option Nat}{sv:Value}{t:Ty}{ids:List Nat}(h:d∉ids):E.on (E.at d g sv t) ids:=fun b hb=>by
 have:b≠d:=fun e=>h (e▸hb)
 simp[Env.at,this]
theorem HW.eD{gl:Ctx}{E E':Env}{w w':World}{hp:List (Option aI)}(h:HW gl E w hp)(k:bC E w E' w'):CY gl E' w':=
 ⟨fun x hx=>by
  obtain⟨h1,cs,h2,h3⟩:=h.gl.1 x hx
  exact⟨k.S _ h1,cs,h2.mono (k.w _ h1),Rel.mono k.w k.S h3⟩,gl.mono k.w k.S h.gl.2⟩
theorem HW.below{gl:Ctx}{E:Env}{w:World}{hp:List (Option aI)}(h:HW gl E w hp){b i:Nat}{k':aI}(hb:hp[b]? =some (some k'))(hgi:E.has b i):i<w.heap.size:=by
 rcases hgi with hgi|hgi
 case inr=>exact h.nT b k' i hb hgi
 have:=h.cj b k' hb
 cases k' with
 |var t v=>obtain⟨_,_,g,c,e,h3,h4,_⟩:=this;rw[hgi] at h3;cases h3;exact(Array.getElem?_eq_some_iff.1 h4).1
 |
  row e bs t xs=>
  obtain⟨_,_,_,_,a,cap,_,_,h7⟩:=this
  rcases h7 with⟨_,h8,_⟩|⟨g,c,h7,_,h9,_⟩
  ·rw[hgi] at h8;cases h8
  ·rw[hgi] at h7;cases h7;exact(Array.getElem?_eq_some_iff.1 h9).1
 |map kt vt es=>obtain⟨_,_,g,en,clock,h2,h3,_⟩:=this;rw[hgi] at h2;cases h2;exact(Array.getElem?_eq_some_iff.1 h3).1
 |jL k v rest cur=>obtain⟨g,_,_,_,_,h3,h4,_⟩:=this;rw[hgi] at h3;cases h3;exact(Array.getElem?_eq_some_iff.1 h4).1
 |cm e bs t xs e2 f=>obtain⟨_,_,_,_,_,g,cap,c,og,_,_,h3,h4,_⟩:=this;rw[hgi] at h3;cases h3;exact(Array.getElem?_eq_some_iff.1 h4).1
 |pmap kt t es e2 f=>obtain⟨_,_,_,g,en,clock,og,h3,h4,_⟩:=this;rw[hgi] at h3;cases h3;exact(Array.getElem?_eq_some_iff.1 h4).1
 |eH kt t es e2 kx v pr=>obtain⟨_,n,g,en,clock,_,h3,h4,_⟩:=this;rw[hgi] at h3;cases h3;exact(Array.getElem?_eq_some_iff.1 h4).1
 |fu kt l=>obtain⟨_,_,g,en,clock,h3,h4,_⟩:=this;rw[hgi] at h3;cases h3;exact(Array.getElem?_eq_some_iff.1 h4).1
 |lp l r=>obtain⟨h2,h3⟩:=this;rw[hgi] at h2;cases h2;exact(Array.getElem?_eq_some_iff.1 h3).1
 |qf=>obtain⟨g,h2,h3⟩:=this;rw[hgi] at h2;cases h2;exact(Array.getElem?_eq_some_iff.1 h3).1
 |tv g t v=>obtain⟨h2,_,_,c,e,h3,_⟩:=this;rw[hgi] at h2;cases h2;exact(Array.getElem?_eq_some_iff.1 h3).1
 |bN e bs t xs i v=>obtain⟨_,_,_,_,_,_,g,cap,c,_,_,h3,h4,_⟩:=this;rw[hgi] at h3;cases h3;exact(Array.getElem?_eq_some_iff.1 h4).1
theorem Own.below{gl:Ctx}{E:Env}{w:World}{hp:List (Option aI)}(h:HW gl E w hp){i:Nat}(ho:Own hp E i):i<w.heap.size:=by
 obtain⟨b,k',hb,hgi⟩:=ho
 exact h.below hb hgi
theorem Env.fV{E:Env}{d:Nat}{g:Option Nat}{sv:Value}{t:Ty}{b i:Nat}(hne:b≠d):(E.at d g sv t).has b i↔E.has b i:=by simp[Env.has,Env.at,hne]
theorem Env.ir{E:Env}{d:Nat}{g:Option Nat}{sv:Value}{t:Ty}{i:Nat}:(E.at d g sv t).has d i↔g=some i:=by simp[Env.has,Env.at]
theorem HW.fresh{gl:Ctx}{E:Env}{w w':World}{hp:List (Option aI)}(h:HW gl E w hp){d:Nat}{g:Option Nat}{sv:Value}{t:Ty}{k:aI}
 (hsz:w.heap.size≤w'.heap.size) (hold:∀i,i<w.heap.size→w'.heap[i]? =w.heap[i]?)
 (hd:∀k',hp[d]? ≠some (some k')) (aaH:∀(b:Nat)(k':aI),hp[b]? =some (some k')→d∉k'.ids) (hg:∀i,g=some i→w.heap.size≤i) (hb:RB (E.at d g sv t) w' d k):HW gl (E.at d g sv t) w' (hp.set d (some k)):=by
 have kp:bC E w (E.at d g sv t) w':=⟨fun b hb=>hold b (h.slt b hb),fun b hb=>hb⟩
 have old:∀(b:Nat)(k':aI),b≠d→(hp.set d (some k))[b]? =some (some k')→hp[b]? =some (some k'):=by
  intro b k' hne hb
  rw[List.getElem?_set,if_neg (fun e=>hne e.symm)] at hb
  exact hb
 refine⟨?_,?_,?_,?_,h.eD kp,?_⟩
 ·intro b k' hbk
  by_cases e:b=d
  ·subst e
   rw[List.getElem?_set] at hbk
   simp only[if_true] at hbk
   split at hbk
   ·cases hbk;exact hb
   ·cases hbk
  ·have hbk':=old b k' e hbk
   refine RB.mono kp (Env.wg ?_) ?_ (fun _ g hg=>by simpa[Env.at,e] using hg) (h.cj b k' hbk')
   ·intro hm
    cases hm with
    |head=>exact e rfl
    |tail _ hm=>exact aaH b k' hbk' hm
   ·intro i hi
    exact hold i (h.below hbk' hi)
 ·intro b b' k1 k2 i hb hb' h1 h2
  by_cases e:b=d<;>by_cases e':b'=d
  ·rw[e,e']
  ·subst e
   have h1:=hg i (Env.ir.1 h1)
   have:=h.below (old b' k2 e' hb') ((Env.fV e').1 h2)
   omega
  ·subst e'
   have h2:=hg i (Env.ir.1 h2)
   have:=h.below (old b k1 e hb) ((Env.fV e).1 h1)
   omega
  ·exact h.dc b b' k1 k2 i (old b k1 e hb) (old b' k2 e' hb') ((Env.fV e).1 h1) ((Env.fV e').1 h2)
 ·intro b k1 i hb h1 hs
  by_cases e:b=d
  ·subst e
   have:=hg i (Env.ir.1 h1)
   have:=h.slt i hs
   omega
  ·exact h.cN b k1 i (old b k1 e hb) ((Env.fV e).1 h1) hs
 ·intro i hs;exact Nat.lt_of_lt_of_le (h.slt i hs) hsz
 ·intro b k1 i hb h1
  by_cases e:b=d
  ·subst e;simp[Env.at] at h1
  ·have h1:E.P b i:=by simpa[Env.at,e] using h1
   exact Nat.lt_of_lt_of_le (h.nT b k1 i (old b k1 e hb) h1) hsz
theorem HW.write{gl:Ctx}{E:Env}{w w':World}{hp:List (Option aI)}(h:HW gl E w hp){b:Nat}{k k':aI}(hb:hp[b]? =some (some k))(hsz:w'.heap.size=w.heap.size)
 (hold:∀i,E.g b≠some i→w'.heap[i]? =w.heap[i]?) (hk:RB E w' b k'):HW gl E w' (hp.set b (some k')):=by
 have kp:bC E w E w':=⟨fun i hi=>hold i (fun e=>h.ik b k i hb e hi),fun b hb=>hb⟩
 have old:∀(b':Nat)(k2:aI),b'≠b→(hp.set b (some k'))[b']? =some (some k2)→hp[b']? =some (some k2):=by
  intro b' k2 hne hb'
  rw[List.getElem?_set,if_neg (fun e=>hne e.symm)] at hb'
  exact hb'
 have any:∀(b':Nat)(k2:aI),(hp.set b (some k'))[b']? =some (some k2)→∃k3:aI,hp[b']? =some (some k3):=by
  intro b' k2 hb'
  by_cases e:b'=b
  ·subst e;exact⟨k,hb⟩
  ·exact⟨k2,old b' k2 e hb'⟩
 refine⟨?_,?_,?_,?_,h.eD kp,?_⟩
 ·intro b' k2 hb'
  by_cases e:b'=b
  ·subst e
   rw[List.getElem?_set] at hb'
   simp only[if_true] at hb'
   split at hb'
   ·cases hb';exact hk
   ·cases hb'
  ·have hb2:=old b' k2 e hb'
   refine RB.mono kp (fun x _=>⟨rfl,rfl,rfl⟩) ?_ (fun _ _ h=>h) (h.cj b' k2 hb2)
   intro i hi
   exact hold i (fun e'=>e (h.dc b' b k2 k i hb2 hb hi (Or.inl e')))
 ·intro b1 b2 k1 k2 i h1 h2 g1 g2
  obtain⟨k3,h3⟩:=any b1 k1 h1
  obtain⟨k4,h4⟩:=any b2 k2 h2
  exact h.dc b1 b2 k3 k4 i h3 h4 g1 g2
 ·intro b1 k1 i h1 g1
  obtain⟨k3,h3⟩:=any b1 k1 h1
  exact h.cN b1 k3 i h3 g1
 ·intro i hi;rw[hsz];exact h.slt i hi
 ·intro b1 k1 i h1 g1
  obtain⟨k3,h3⟩:=any b1 k1 h1
  rw[hsz];exact h.nT b1 k3 i h3 g1
theorem Own.set{hp:List (Option aI)}{E:Env}{b:Nat}{k k':aI}(hb:hp[b]? =some (some k)){i:Nat}(h:Own (hp.set b (some k')) E i):Own hp E i:=by
 obtain⟨b',k2,hb',hg⟩:=h
 by_cases e:b'=b
 ·subst e;exact⟨b',k,hb,hg⟩
 ·rw[List.getElem?_set,if_neg (fun e'=>e e'.symm)] at hb'
  exact⟨b',k2,hb',hg⟩
end Go.Ax
namespace Go.Ax
structure MS where
 name:String
 f:FuncId
 st:Option (TypeId×Nat×TypeId)
structure TD where
 ty:Ty
 e:TypeId:=0
 e2:TypeId:=0
 ms:List MS:=[]
abbrev bH:=List (Option TD)
def bH.at(G:bH)(t:TypeId):Option TD:=(G[t]?).join
def eB.zero:eB→AV
 | .ptr=>.eT
 | .map=>.di
 | .func=>.dX
 | .iface=>.fA
 | .sl=>.aX
def Ty.zero:Ty→AV
 | .slice _ _=>.aX
 | .pair a b=>.cons a.zero b.zero
 | .unit=>.nil
 | .aN k=>eB.zero k
 | .map _ _=>.di
 |t=>.val t t.aB
def Ty.pure:Ty→Bool
 | .arr _ t=>t.pure
 | .slice _ t=>t.pure
 | .pair a b=>a.pure&&b.pure
 | .aN _| .fns _=>false
 | .map k v=>k.pure&&v.pure
 |_=>true
def C1:Value→Bool
 | .nilFunc=>true
 |_=>false
def isZero:Ty→Value→Bool
 | .int k,.int k' n=>Nat.beq (IntKind.code k) (IntKind.code k')&&decide (n=0)
 | .bool,.bool b=> !b
 | .str,.string s=>s.data.toList.isEmpty
 | .slice _ _,.slice a n c=>a.isNone&&Nat.beq n 0&&Nat.beq c 0
 | .aN .ptr,.pointer a=>a.isNone
 | .aN .map,.map a=>a.isNone
 | .map _ _,.map a=>a.isNone
 | .aN .func,.nilFunc=>true
 | .aN .iface,.nilIface=>true
 | .aN .sl,.slice a n c=>a.isNone&&Nat.beq n 0&&Nat.beq c 0
 |_,_=>false
def iK:Ty→List Value→Bool
 | .arr n t,cs=>Nat.beq cs.length (n*t.size)&&t.pure&&(List.range n).all fun i=>iK t ((cs.drop (i*t.size)).take t.size)
 | .pair a b,cs=>Nat.ble a.size cs.length&&iK a (cs.take a.size)&&iK b (cs.drop a.size)
 | .unit,cs=>cs.isEmpty
 | .fns n,cs=>Nat.beq cs.length n&&cs.all C1
 |t,[v]=>isZero t v
 |_,_=>false
theorem gE{E:Env}{w:World}{t:Ty}{v:Value}(ha:t.isAgg=false)(h:isZero t v=true):RC E w t.zero [v]∧(t.pure=true→Rel w E.S t [v] t.aB):=by
 cases t with
 |
  int k=>
  cases v<;>simp[isZero] at h
  obtain⟨h1,h2⟩:=h
  have:=IntKind.fM h1
  subst this;subst h2
  refine⟨⟨rfl,?_,?_⟩,fun _=>⟨rfl,?_,?_⟩⟩<;>(cases k<;>decide)
 |
  bool=>
  cases v<;>simp[isZero] at h
  subst h
  exact⟨rfl,fun _=>rfl⟩
 |
  str=>
  cases v with
  |
   string s=>
   simp[isZero] at h
   have:s=⟨#[]⟩:=by cases s;simp_all
   subst this
   exact⟨⟨rfl,by simp[aC,Ty.aB]⟩,fun _=>⟨rfl,by simp[aC,Ty.aB]⟩⟩
  |_=>simp[isZero] at h
 |
  slice bs t=>
  cases v with
  |
   slice a n c=>
   simp[isZero] at h
   obtain⟨⟨h1,h2⟩,h3⟩:=h
   subst h1;subst h2;subst h3
   exact⟨rfl,fun _=>⟨none,0,rfl,Nat.le_refl _,by simp[Ty.aB],by simp[Ty.aB],Or.inl rfl⟩⟩
  |_=>simp[isZero] at h
 |
  map k e=>
  cases v<;>simp[isZero] at h
  subst h
  exact⟨rfl,fun _=>⟨none,rfl,Or.inl ⟨rfl,rfl⟩⟩⟩
 |
  aN k=>
  refine⟨?_,fun hp=>by simp[Ty.pure] at hp⟩
  cases k<;>cases v<;>simp[isZero] at h<;>first|rfl|(subst h;rfl)|(obtain⟨⟨h1,h2⟩,h3⟩:=h;subst h1;subst h2;subst h3;rfl)
 |_=>simp[Ty.isAgg] at ha
theorem aQ.wi{α:Type}{r:List Value→α→Prop}(x:α)(k:Nat):∀(n:Nat)(cs:List Value),cs.length=n*k→(∀i,i<n→r ((cs.drop (i*k)).take k) x)→aQ r cs (List.replicate n x):=by
 intro n
 induction n with
 |zero=>intro cs hl _;simp at hl;simp[aQ,hl]
 |
  succ n ih=>
  intro cs hl h
  rw[List.replicate_succ]
  rw[Nat.add_mul,Nat.one_mul] at hl
  refine⟨cs.take k,cs.drop k,(List.take_append_drop k cs).symm,by have:=h 0 (by omega);simpa using this,ih _ (by simp;omega) ?_⟩
  intro i hi
  have:=h (i+1) (by omega)
  rw[List.drop_drop]
  rw[Nat.add_mul,Nat.one_mul,Nat.add_comm] at this
  exact this
theorem dY{E:Env}{w:World}:∀{t:Ty}{cs:List Value},iK t cs=true→RC E w t.zero cs∧(t.pure=true→Rel w E.S t cs t.aB):=by
 intro t
 induction t with
 |
  arr n t ih=>
  intro cs h
  simp only[iK,Bool.and_eq_true,List.all_eq_true,List.mem_range] at h
  obtain⟨⟨h1,h2⟩,h3⟩:=h
  have h1':cs.length=n*t.size:=Nat.eq_of_beq_eq_true h1
  have:Rel w E.S (.arr n t) cs (Ty.aB (.arr n t)):=
   ⟨by simp[Ty.aB],aQ.wi t.aB t.size n cs h1' (fun i hi=>(ih (h3 i hi)).2 h2)⟩
  exact⟨this,fun _=>this⟩
 |
  pair a b ih1 ih2=>
  intro cs h
  simp only[iK,Bool.and_eq_true] at h
  obtain⟨⟨_,h1⟩,h2⟩:=h
  have e:=(List.take_append_drop a.size cs).symm
  refine⟨⟨_,_,e,(ih1 h1).1,(ih2 h2).1⟩,fun hp=>?_⟩
  simp only[Ty.pure,Bool.and_eq_true] at hp
  exact⟨_,_,e,(ih1 h1).2 hp.1,(ih2 h2).2 hp.2⟩
 |unit=>intro cs h;simp[iK] at h;exact⟨h,fun _=>h⟩
 |
  fns n=>
  intro cs h
  simp only[iK,Bool.and_eq_true,List.all_eq_true] at h
  have hl:=Nat.eq_of_beq_eq_true h.1
  have e:cs=(List.replicate n none).map xY:=by
   apply List.ext_getElem
   ·simp[hl]
   ·intro i h1 h2
    have:=h.2 _ (List.getElem_mem h1)
    simp only[List.getElem_map,List.getElem_replicate,xY]
    revert this
    cases cs[i]<;>simp[C1]
  have:Rel w E.S (.fns n) cs (Ty.aB (.fns n)):=⟨by simp[Ty.aB],e⟩
  exact⟨this,fun _=>this⟩
 |int k=>intro cs h;match cs,h with|[v],h=>exact gE rfl h
 |bool=>intro cs h;match cs,h with|[v],h=>exact gE rfl h
 |str=>intro cs h;match cs,h with|[v],h=>exact gE rfl h
 |slice bs t=>intro cs h;match cs,h with|[v],h=>exact gE rfl h
 |aN k=>intro cs h;match cs,h with|[v],h=>exact gE rfl h
 |map k v=>intro cs h;match cs,h with|[v],h=>exact gE rfl h
theorem Ty.nj(t:Ty):t.zero.bK t=true:=by
 induction t with
 |pair a b ih1 ih2=>simp[Ty.zero,AV.bK,ih1,ih2]
 |aN k=>cases k<;>rfl
 |map _ _=>rfl
 |slice bs t=>rfl
 |unit=>rfl
 |_=>exact Ty.cC _
def bF(G:bH):List Field→Nat→Ty→Bool
 |[],_,.unit=>true
 |f::fs,off,.pair a b=>(match G.at f.type with|some td=>Ty.same td.ty a|none=>false)&&Nat.beq f.offset off&&Nat.blt 0 a.size&&bF G fs (off+a.size) b
 |_,_,_=>false
def bR(P:Program)(G:bH)(td:TD):TypeDesc→Bool
 | .bool=>Ty.same td.ty .bool
 | .int k=>Ty.same td.ty (.int k)
 | .string=>Ty.same td.ty .str
 | .slice e=>Ty.same td.ty (.aN .sl)||Nat.beq td.e e&&(match td.ty,G.at e,P.info? e with| .slice bs t,some te,some ie=>Ty.same te.ty t&&Nat.beq ie.bytes bs&&Nat.blt 0 t.size&&Nat.blt 0 bs|_,_,_=>false)
 | .array n e=>(match td.ty,G.at e with| .fns m,some te=>Nat.beq td.e e&&Nat.beq m n&&Ty.same te.ty (.aN .func)|_,_=>false)||Nat.beq td.e e&&(match td.ty,G.at e,P.info? e with| .arr m t,some te,some ie=>Ty.same te.ty t&&Nat.beq m n&&Nat.beq ie.bytes td.e2|_,_,_=>false)
 | .struct fs=>bF G fs.toList 0 td.ty
 | .pointer _=>Ty.same td.ty (.aN .ptr)
 | .map k e=>(Ty.same td.ty (.aN .map)||(match td.ty,G.at k,G.at e with| .map a b,some ta,some tb=>Ty.same ta.ty a&&Ty.same tb.ty b|_,_,_=>false))&&Nat.beq td.e k&&Nat.beq td.e2 e
 | .func _ _ _=>Ty.same td.ty (.aN .func)
 | .interface _=>Ty.same td.ty (.aN .iface)
 |_=>false
def Ty.isMap:Ty→Bool
 | .aN .map| .map _ _=>true
 |_=>false
theorem gr{P:Program}{G:bH}{td:TD}{k e:TypeId}(h:bR P G td (.map k e)=true):td.ty.isMap=true∧td.e=k∧td.e2=e:=by
 simp only[bR,Bool.and_eq_true,Bool.or_eq_true] at h
 obtain⟨⟨h,h1⟩,h2⟩:=h
 refine⟨?_,Nat.eq_of_beq_eq_true h1,Nat.eq_of_beq_eq_true h2⟩
 rcases h with h|h
 ·rw[Ty.aA h];rfl
 ·split at h
  ·rename_i e1 _ _;rw[e1];rfl
  ·cases h
def wj:Value→Bool
 | .agg _=>true
 |_=>false
def cP:TypeDesc→Bool
 | .struct _| .array _ _=>true
 |_=>false
def tS:TypeDesc→Bool
 | .pointer _=>true
 |_=>false
def lz(P:Program)(G:bH)(t:TypeId)(pr:Bool):Option (TypeId×Nat×TypeId)→List FieldStep→Bool
 |
  none,[]=>match P.underlying t with
  |some d=>tS d==pr
  |none=>false
 |
  some (s,i,ft),[x]=> !pr&&x.deref&&Nat.beq x.struct s&&Nat.beq x.index i&&(match P.underlying s,P.underlying ft with
  |
   some (.struct fs),some d=> !tS d&&(match fs[i]? with
   |some f=>Nat.beq f.type ft
   |none=>false)
  |_,_=>false)&&(match G.at s with
  |
   some td=>(match td.ty.sub [.bZ i] with
   |some _=>true
   |none=>false)
  |none=>false)
 |_,_=>false
def LD(P:Program)(G:bH)(t:TypeId)(ii:TypeInfo)(m:MS):Bool:=
 match ii.methods.find? (fun x=>x.name==m.name) with
 |
  some r=>(match r.func with
  |some (f,pr)=>Nat.beq f m.f&&lz P G t pr m.st r.path.toList
  |none=>false)
 |none=>false
def Iz(P:Program)(G:bH)(t:TypeId)(td:TD):Bool:=
 match P.info? t,P.underlying t with
 |some i,some d=>td.ms.all (LD P G t i)&&(Nat.beq i.size td.ty.size&&(match i.zero with|some z=>iK td.ty z.cells.toList&&(wj z==td.ty.isAgg)|none=>false)&&bR P G td d)
 |_,_=>false
def qg(P:Program)(G:bH):Nat→List (Option TD)→Bool
 |_,[]=>true
 |i,none::l=>qg P G (i+1) l
 |i,some td::l=>Iz P G i td&&qg P G (i+1) l
theorem nk(P:Program)(G:bH):∀(l:List (Option TD))(i:Nat),qg P G i l=true→∀j td,l[j]? =some (some td)→Iz P G (i+j) td=true
 |[],_,_,j,td,h=>by simp at h
 |
  none::l,i,h,j,td,hj=>by
  cases j with
  |zero=>simp at hj
  |succ j=>have:=nk P G l (i+1) h j td (by simpa using hj);rw[show i+(j+1)=i+1+j from by omega];exact this
 |
  some x::l,i,h,j,td,hj=>by
  simp only[qg,Bool.and_eq_true] at h
  cases j with
  |zero=>simp at hj;subst hj;exact h.1
  |succ j=>have:=nk P G l (i+1) h.2 j td (by simpa using hj);rw[show i+(j+1)=i+1+j from by omega];exact this
structure aY(P:Program)(G:bH):Prop where
 Iz:∀t td,G.at t=some td→Iz P G t td=true
 Jz:P.follows .mixedOrders=true
theorem aY.mk'{P:Program}{G:bH}(h:qg P G 0 G=true)(ho:P.follows .mixedOrders=true):aY P G:=
 ⟨fun t td ht=>by
  have:G[t]? =some (some td):=by
   unfold bH.at at ht
   cases hg:G[t]? with
   |none=>rw[hg] at ht;cases ht
   |some x=>rw[hg] at ht;simp at ht;rw[ht]
  have:=nk P G G 0 h t td this
  simpa using this,ho⟩
section
variable{P:Program} {G:bH} (T:aY P G) {t:TypeId} {td:TD} (h:G.at t=some td)
include T h
theorem aY.info:∃i d,P.info? t=some i∧P.underlying t=some d∧i.size=td.ty.size∧bR P G td d=true∧∃z,i.zero=some z∧iK td.ty z.cells.toList=true∧wj z=td.ty.isAgg:=by
 have:=T.Iz t td h
 unfold Ax.Iz at this
 split at this
 ·rename_i i d hi hd
  simp only[Bool.and_eq_true] at this
  obtain⟨_,⟨h1,h2⟩,h3⟩:=this
  split at h2
  ·rename_i z hz
   simp only[Bool.and_eq_true,beq_iff_eq] at h2
   exact⟨i,d,hi,hd,Nat.eq_of_beq_eq_true h1,h3,z,hz,h2.1,h2.2⟩
  ·cases h2
 ·cases this
theorem aY.Rq{m:MS}(hm:m∈td.ms):∃i r f pr,P.info? t=some i∧i.methods.find? (fun x=>x.name==m.name)=some r∧r.func=some (f,pr)∧f=m.f∧lz P G t pr m.st r.path.toList=true:=by
 have:=T.Iz t td h
 unfold Ax.Iz at this
 split at this
 ·rename_i i d hi hd
  simp only[Bool.and_eq_true,List.all_eq_true] at this
  have:=this.1 m hm
  unfold LD at this
  split at this
  ·rename_i r hr
   split at this
   ·rename_i f pr hf
    simp only[Bool.and_eq_true] at this
    exact⟨i,r,f,pr,hi,hr,hf,Nat.eq_of_beq_eq_true this.1,this.2⟩
   ·cases this
  ·cases this
 ·cases this
theorem aY.size(w:World):(sizeOf t).run P w= .ok td.ty.size w:=by
 obtain⟨i,d,h1,_,h2,_⟩:=T.info h
 simp[sizeOf,typeInfo,h1,h2]
end
theorem cL{P:Program}{G:bH}{td:TD}{d:TypeDesc}(h:bR P G td d=true):cP d=td.ty.isAgg:=by
 cases d<;>simp only[bR] at h<;>try (first|(have:=Ty.aA h;rw[this];rfl)|cases h)
 ·rw[Bool.or_eq_true] at h
  rcases h with h|h
  ·have:=Ty.aA h;rw[this];rfl
  ·simp only[Bool.and_eq_true] at h
   obtain⟨_,h⟩:=h
   split at h
   ·rename_i h1 _ _;rw[h1];rfl
   ·cases h
 ·rw[Bool.or_eq_true] at h
  rcases h with h|h
  ·split at h
   ·rename_i h1 _;rw[h1];rfl
   ·cases h
  ·simp only[Bool.and_eq_true] at h
   obtain⟨_,h⟩:=h
   split at h
   ·rename_i h1 _ _;rw[h1];rfl
   ·cases h
 ·simp only[Bool.and_eq_true,Bool.or_eq_true] at h
  rcases h.1.1 with h|h
  ·have:=Ty.aA h;rw[this];rfl
  ·split at h
   ·rename_i h1 _ _;rw[h1];rfl
   ·cases h
 ·rename_i fs
  show true=_
  revert h
  generalize fs.toList=l
  intro h
  cases l with
  |nil=>cases ht:td.ty<;>rw[ht] at h<;>simp[bF] at h;rfl
  |cons f l=>cases ht:td.ty<;>rw[ht] at h<;>simp[bF] at h;rfl
theorem aY.isAgg{P:Program}{G:bH}(T:aY P G){t:TypeId}{td:TD}(h:G.at t=some td)(w:World):(isAgg t).run P w= .ok td.ty.isAgg w:=by
 obtain⟨i,d,_,h1,_,h2,_⟩:=T.info h
 have:=cL h2
 unfold Go.isAgg
 simp only[Sem.run_bind,underlying,run_program,Result.andThen_ok,h1,Sem.run_pure]
 cases d<;>simp[cP] at this ⊢ <;>exact this
theorem aY.zero{P:Program}{G:bH}(T:aY P G){t:TypeId}{td:TD}(h:G.at t=some td)(w:World):∃z,(zeroValue t).run P w= .ok z w∧iK td.ty z.cells.toList=true∧wj z=td.ty.isAgg:=by
 obtain⟨i,d,h1,_,_,_,z,hz,h3,h4⟩:=T.info h
 exact⟨z,by simp[zeroValue,typeInfo,h1,hz],h3,h4⟩
end Go.Ax
namespace Go.Ax
def ma:Value→AV
 | .bool b=>.val .bool b
 | .int k n=>if decide (k.min≤n)&&decide (n≤k.max) then .val (.int k) n else .bot
 | .string s=>if Nat.ble s.data.toList.length aC then .val .str s.data.toList else .bot
 | .slice none 0 0=>.aX
 | .pointer none=>.eT
 | .map none=>.di
 | .nilFunc=>.dX
 | .nilIface=>.fA
 |_=>.bot
def nn:List BA→Nat→AV
 |[],_=>.bot
 |x::l,g=>if Nat.beq x.g g then .bD x.t x.x else nn l g
def bw(gl:Ctx)(tm:List AV):Operand→AV
 | .tmp t=>(tm[t]?).getD .bot
 | .const v=>ma v
 | .global g=>nn gl.gl g
 | .func f=>.func (.func f) .nil .nil
theorem RV.de{E:Env}{w:World}{x:AV}{v:Value}(h:cd E w x v):RV E w x v:=by
 cases x with
 |bot=>trivial
 |eU l=>rcases h with⟨h,_⟩|⟨_,h⟩<;>simp[AV.isAgg,RC] at h
 |opt c a=>rcases h with⟨h,_⟩|⟨_,h⟩<;>simp[AV.isAgg,RC] at h
 |_=>exact h
def AV.plain:AV→Bool
 | .bot| .eU _| .opt _ _=>false
 |_=>true
theorem RV.gF{E:Env}{w:World}{x:AV}{v:Value}(hp:x.plain=true)(h:RV E w x v):cd E w x v:=by
 cases x<;>first|exact h|(simp[AV.plain] at hp)
theorem RV.atom{E:Env}{w:World}{x:AV}{v:Value}(hp:x.atom=true)(h:RV E w x v):RC E w x [v]:=by
 cases x<;>first
  |(simp[AV.atom] at hp;done)
  |(
   rcases h with⟨h1,_⟩|⟨_,h2⟩
   ·simp[AV.isAgg,AV.atom] at h1 hp;(try rw[h1] at hp;simp at hp)
   ·exact h2)
theorem ya{E:Env}{w:World}(v:Value):RV E w (ma v) v:=by
 unfold ma
 split
 ·exact Or.inr ⟨rfl,rfl⟩
 ·rename_i k n
  split
  ·rename_i h
   simp at h
   exact Or.inr ⟨rfl,rfl,h.1,h.2⟩
  ·trivial
 ·rename_i s
  split
  ·rename_i h
   refine Or.inr ⟨rfl,?_,Nat.le_of_ble_eq_true h⟩
   cases s;rfl
  ·trivial
 ·exact Or.inr ⟨rfl,rfl⟩
 ·exact Or.inr ⟨rfl,rfl⟩
 ·exact Or.inr ⟨rfl,rfl⟩
 ·exact Or.inr ⟨rfl,rfl⟩
 ·exact Or.inr ⟨rfl,rfl⟩
 ·trivial
theorem BB{E:Env}{w:World}{gl:List BA}(h:∀x∈gl,E.S x.g∧∃cs,lT w ⟨x.g,0,none⟩ cs∧Rel w E.S x.t cs x.x)(g:Nat):RV E w (nn gl g) (.pointer (some ⟨g,0,none⟩)):=by
 induction gl with
 |nil=>trivial
 |
  cons x l ih=>
  unfold nn
  split
  ·rename_i hg
   have hg:=Nat.eq_of_beq_eq_true hg
   obtain⟨h1,cs,h2,h3⟩:=h x (List.mem_cons_self ..)
   subst hg
   exact Or.inr ⟨rfl,x.g,0,cs,rfl,h1,h2,h3⟩
  ·exact ih (fun y hy=>h y (List.mem_cons_of_mem _ hy))
theorem eI{gl:Ctx}{σ:St}{E:Env}{a:Act}{w:World}(h:bO gl σ E a w)(x:Operand):RV E w (bw gl σ.tm x) (a.eval x):=by
 cases x with
 |
  tmp t=>
  simp only[bw,Act.eval]
  cases hx:σ.tm[t]? with
  |none=>trivial
  |
   some y=>
   have hlt:t<a.tmps.size:=by rw[h.len];exact(List.getElem?_eq_some_iff.1 hx).1
   have:=h.tm t y hx a.tmps[t] (by simp[hlt])
   simpa[Array.getD,hlt] using this
 |const v=>exact ya v
 |global g=>exact BB h.hw.gl.1 g
 |func f=>exact Or.inr ⟨rfl, #[], #[],rfl,rfl,rfl,rfl,rfl⟩
theorem cU(k:IntKind)(n:Int):k.min≤k.wrap n∧k.wrap n≤k.max:=by
 cases k<;>simp only[IntKind.wrap,IntKind.min,IntKind.max,IntKind.bits,IntKind.signed]<;>(simp;(try split))<;>omega
theorem IntKind.range(k:IntKind):k.min≤0∧0≤k.max:=by cases k<;>decide
theorem RV.int{E:Env}{w:World}{k:IntKind}{n:Int}(h:k.min≤n∧n≤k.max):RV E w (.val (.int k) n) (.int k n):=Or.inr ⟨rfl,rfl,h.1,h.2⟩
theorem RV.bool{E:Env}{w:World}{b:Bool}:RV E w (.val .bool b) (.bool b):=Or.inr ⟨rfl,rfl⟩
theorem RV.cG{E:Env}{w:World}{k:IntKind}{n:Int}{v:Value}(h:RV E w (.val (.int k) n) v):v= .int k n∧k.min≤n∧n≤k.max:=by
 rcases h with⟨h,_⟩|⟨_,h,h2⟩
 ·simp[AV.isAgg,Ty.isAgg] at h
 ·simp at h;exact⟨h,h2⟩
theorem RV.dj{E:Env}{w:World}{b:Bool}{v:Value}(h:RV E w (.val .bool b) v):v= .bool b:=by
 rcases h with⟨h,_⟩|⟨_,h⟩
 ·simp[AV.isAgg,Ty.isAgg] at h
 ·simpa[RC,Rel] using h
theorem RV.eQ{E:Env}{w:World}{s:List UInt8}{v:Value}(h:RV E w (.val .str s) v):v= .string ⟨s.toArray⟩∧s.length≤aC:=by
 rcases h with⟨h,_⟩|⟨_,h,h2⟩
 ·simp[AV.isAgg,Ty.isAgg] at h
 ·simp at h;exact⟨h,h2⟩
theorem RV.str{E:Env}{w:World}{s:List UInt8}(h:s.length≤aC):RV E w (.val .str s) (.string ⟨s.toArray⟩):=Or.inr ⟨rfl,rfl,h⟩
def dZ(op:BinOp)(k:IntKind)(x y:Int):Int:=
 let a:=BitVec.ofInt k.bits x
 let b:=BitVec.ofInt k.bits y
 match op with
 | .and=>k.wrap (a &&& b).toNat
 | .or=>k.wrap (a ||| b).toNat
 | .xor=>k.wrap (a ^^^ b).toNat
 |_=>k.wrap (a &&& ~~~b).toNat
structure VC where
 p:Prop
 d:Decidable p
abbrev vc(p:Prop)[d:Decidable p]:VC:=⟨p,d⟩
def cX:List VC→Prop
 |[]=>True
 |v::l=>v.p∧cX l
def oR:Option TypeDesc→Bool
 |some .bool=>true
 |_=>false
theorem qh{x:Option TypeDesc}(h:oR x=true):x=some .bool:=by
 unfold oR at h
 split at h
 ·rfl
 ·cases h
def qi(op:BinOp)(k:IntKind)(a:Int)(k':IntKind)(b:Int):Option (AV×List VC):=
 match op with
 | .shl=>some (.val (.int k) (k.wrap (a*2^(min b.toNat k.bits))),[vc (0≤b)])
 | .shr=>some (.val (.int k) (a.fdiv (2^(min b.toNat k.bits))),[vc (0≤b)])
 |
  _=>
  if Nat.beq (IntKind.code k) (IntKind.code k') then
   match op with
   | .add=>some (.val (.int k) (k.wrap (a+b)),[])
   | .sub=>some (.val (.int k) (k.wrap (a -b)),[])
   | .mul=>some (.val (.int k) (k.wrap (a*b)),[])
   | .quo=>some (.val (.int k) (k.wrap (a.tdiv b)),[vc (b≠0)])
   | .rem=>some (.val (.int k) (a.tmod b),[vc (b≠0)])
   | .and=>some (.val (.int k) (dZ .and k a b),[])
   | .or=>some (.val (.int k) (dZ .or k a b),[])
   | .xor=>some (.val (.int k) (dZ .xor k a b),[])
   | .andNot=>some (.val (.int k) (dZ .andNot k a b),[])
   | .eql=>some (.val .bool (decide (a=b)),[])
   | .neq=>some (.val .bool (!decide (a=b)),[])
   | .lss=>some (.val .bool (decide (a<b)),[])
   | .leq=>some (.val .bool (decide (a≤b)),[])
   | .gtr=>some (.val .bool (decide (b<a)),[])
   | .geq=>some (.val .bool (decide (b≤a)),[])
   |_=>none
  else none
def wm(P:Program)(t:TypeId)(op:BinOp):AV→AV→Option (AV×List VC)
 | .val (.int k) a,.val (.int k') b=>qi op k a k' b
 |
  .val .bool a,.val .bool b=>
  match op with
  | .eql=>some (.val .bool (a==b),[vc (oR (P.underlying t)=true)])
  | .neq=>some (.val .bool (!(a==b)),[vc (oR (P.underlying t)=true)])
  |_=>none
 |
  .val .str a,.val .str b=>
  match op with
  | .add=>some (.val .str (a++b),[vc (a.length+b.length≤aC)])
  | .eql=>some (.val .bool (decide (a=b)),[])
  | .neq=>some (.val .bool (!decide (a=b)),[])
  | .lss=>some (.val .bool (Op.bytesLess a b),[])
  | .leq=>some (.val .bool (Op.bytesLess a b||decide (a=b)),[])
  | .gtr=>some (.val .bool (!(Op.bytesLess a b||decide (a=b))),[])
  | .geq=>some (.val .bool (!Op.bytesLess a b),[])
  |_=>none
 |_,_=>none
theorem eR{a b:Int}(ha:0≤a)(hb:0≤b):a % b≤a:=by
 rcases Int.lt_or_eq_of_le hb with h|h
 ·have:=Int.emod_add_mul_ediv a b
  have h1:0≤a / b:=Int.ediv_nonneg ha hb
  have h2:0≤b*(a / b):=Int.mul_nonneg hb h1
  omega
 ·subst h;simp
theorem yb(k:IntKind)(a b:Int)(ha:k.min≤a∧a≤k.max):k.min≤a.tmod b∧a.tmod b≤k.max:=by
 have hr:=IntKind.range k
 rcases Int.le_total 0 a with h|h
 ·have h1:=Int.tmod_nonneg b h
  have h2:a.tmod b≤a:=by
   rcases Int.le_total 0 b with hb|hb
   ·rw[Int.tmod_eq_emod_of_nonneg h];exact eR h hb
   ·have:a.tmod b=a.tmod (-b):=by rw[Int.tmod_neg]
    rw[this,Int.tmod_eq_emod_of_nonneg h];exact eR h (by omega)
  omega
 ·have h1:(-a).tmod b= -(a.tmod b):=Int.neg_tmod ..
  have h2:0≤-a:=by omega
  have h3:=Int.tmod_nonneg b h2
  have h4:(-a).tmod b≤-a:=by
   rcases Int.le_total 0 b with hb|hb
   ·rw[Int.tmod_eq_emod_of_nonneg h2];exact eR h2 hb
   ·have:(-a).tmod b=(-a).tmod (-b):=by rw[Int.tmod_neg]
    rw[this,Int.tmod_eq_emod_of_nonneg h2];exact eR h2 (by omega)
  omega
theorem yc(k:IntKind)(a:Int)(n:Nat)(ha:k.min≤a∧a≤k.max):k.min≤a.fdiv (2^n)∧a.fdiv (2^n)≤k.max:=by
 have hr:=IntKind.range k
 have hp:(1:Int)≤2^n:=by
  have:=Int.pow_pos (n:=2) (m:=n) (by omega)
  omega
 rw[Int.fdiv_eq_ediv_of_nonneg _ (by omega)]
 rcases Int.le_total 0 a with h|h
 ·have h1:0≤a / 2^n:=Int.ediv_nonneg h (by omega)
  have h2:a / 2^n≤a:=Int.ediv_le_self _ h
  omega
 ·have h1:a / 2^n≤0:=by
   have:=Int.ediv_le_ediv (c:=2^n) (by omega) h
   simpa using this
  have h2:a≤a / 2^n:=by
   rw[Int.le_ediv_iff_mul_le (by omega)]
   have:=Int.mul_le_mul_of_nonpos_left h hp
   omega
  omega
theorem wo{P:Program}{E:Env}{w:World}{op:BinOp}{t:TypeId}{k k':IntKind}{a b:Int}{r:AV}{vc:List VC}(ha:k.min≤a∧a≤k.max)(h:qi op k a k' b=some (r,vc))(hvc:cX vc):
 ∃v,(binOp op t (.int k a) (.int k' b)).run P w= .ok v w∧RV E w r v:=by
 unfold qi at h
 split at h
 ·cases h
  exact⟨_,by simp[binOp,Op.shift,show¬b<0 from by have:=hvc.1;omega],RV.int (cU k _)⟩
 ·cases h
  exact⟨_,by simp[binOp,Op.shift,show¬b<0 from by have:=hvc.1;omega],RV.int (yc k _ _ ha)⟩
 ·rename_i h1 h2
  split at h
  ·rename_i hk
   have:=IntKind.fM (Nat.eq_of_beq_eq_true hk)
   subst this
   split at h<;>cases h
   ·exact⟨_,by simp[binOp,Op.intArith],RV.int (cU k _)⟩
   ·exact⟨_,by simp[binOp,Op.intArith],RV.int (cU k _)⟩
   ·exact⟨_,by simp[binOp,Op.intArith],RV.int (cU k _)⟩
   ·exact⟨_,by simp[binOp,Op.intDiv,show b≠0 from hvc.1],RV.int (cU k _)⟩
   ·exact⟨_,by simp[binOp,Op.intDiv,show b≠0 from hvc.1],RV.int (yb k _ _ ha)⟩
   ·exact⟨.int k (dZ .and k a b),by simp[binOp,Op.intBits,dZ],RV.int (cU k _)⟩
   ·exact⟨.int k (dZ .or k a b),by simp[binOp,Op.intBits,dZ],RV.int (cU k _)⟩
   ·exact⟨.int k (dZ .xor k a b),by simp[binOp,Op.intBits,dZ],RV.int (cU k _)⟩
   ·exact⟨.int k (dZ .andNot k a b),by simp[binOp,Op.intBits,dZ],RV.int (cU k _)⟩
   ·exact⟨_,by simp[binOp,Op.intCmp];rfl,RV.bool⟩
   ·exact⟨_,by simp[binOp,Op.intCmp];rfl,RV.bool⟩
   ·exact⟨_,by simp[binOp,Op.intCmp],RV.bool⟩
   ·exact⟨_,by simp[binOp,Op.intCmp],RV.bool⟩
   ·exact⟨_,by simp[binOp,Op.intCmp],RV.bool⟩
   ·exact⟨_,by simp[binOp,Op.intCmp],RV.bool⟩
  ·cases h
theorem C3{P:Program}{E:Env}{w:World}{op:BinOp}{t:TypeId}{x y:AV}{vx vy:Value}{r:AV}{vc:List VC}(hx:RV E w x vx)(hy:RV E w y vy)(h:wm P t op x y=some (r,vc))(hvc:cX vc):
 ∃v,(binOp op t vx vy).run P w= .ok v w∧RV E w r v:=by
 unfold wm at h
 split at h
 ·obtain⟨rfl,h1⟩:=RV.cG hx
  obtain⟨rfl,h2⟩:=RV.cG hy
  exact wo h1 h hvc
 ·have:=RV.dj hx;subst this
  have:=RV.dj hy;subst this
  split at h
  ·cases h
   have hb:=hvc.1
   exact⟨_,by simp[binOp,run_equal_bool w t _ _ (qh hb)],RV.bool⟩
  ·cases h
   have hb:=hvc.1
   exact⟨_,by simp[binOp,run_equal_bool w t _ _ (qh hb)],RV.bool⟩
  ·cases h
 ·obtain⟨rfl,h1⟩:=RV.eQ hx
  obtain⟨rfl,h2⟩:=RV.eQ hy
  have beq:∀(a b:List UInt8),(a==b)=decide (a=b):=fun a b=>by
   by_cases h:a=b
   ·subst h;simp
   ·simp[h]
  split at h<;>cases h
  ·rename_i a b _
   have hb:List.length a+List.length b≤aC:=hvc.1
   refine⟨.string ⟨(List.append a b).toArray⟩,?_,RV.str (by show(List.append a b).length≤aC;rw[List.append_eq,List.length_append];exact hb)⟩
   have sz:∀l:List UInt8,(ByteArray.mk l.toArray).size=l.length:=fun l=>by show l.toArray.size=_;simp
   have hmax:IntKind.i64.max=9223372036854775807:=by decide
   have hn:¬(((ByteArray.size ⟨List.toArray a⟩+ByteArray.size ⟨List.toArray b⟩:Nat):Int)>IntKind.i64.max):=by
    rw[sz,sz,hmax];unfold aC at hb;omega
   have happ:(⟨List.toArray a⟩:ByteArray)++⟨List.toArray b⟩=⟨(List.append a b).toArray⟩:=by
    apply ByteArray.ext
    simp
   simp only[binOp,Op.stringOp,if_neg hn,Sem.run_pure,happ]
  all_goals(refine⟨_,?_,RV.bool⟩;simp[binOp,Op.stringOp,beq])
 ·cases h
end Go.Ax
namespace Go.Ax
def fN:aI→Ty
 | .var t _=>t
 | .row _ _ t xs=>.arr xs.length t
 | .bN _ _ t xs i _=>im i xs.length t
 | .cm _ _ t xs _ f=>k8 xs.length t f
 |_=>.unit
def aI.mem:aI→Bool
 | .var _ _| .row _ _ _ _| .bN _ _ _ _ _ _| .cm _ _ _ _ _ _=>true
 |_=>false
def iL:aI→Path→Option AV
 | .var _ v,p=>v.get p
 | .row _ _ t xs,.idx i::p=>dq (.arr xs.length t) xs (.idx i::p)
 | .bN _ _ _ _ _ v,.bZ 1::p=>v.get p
 | .cm _ _ _ _ _ (some (_,v)),.bZ 1::p=>v.get p
 |_,_=>none
theorem RB.bt{E:Env}{w:World}{b:Nat}{k:aI}(h:RB E w b k)(hm:k.mem=true):E.bt b=fN k:=by
 cases k with
 |var t v=>exact h.1
 |row e bs t xs=>exact h.1
 |bN e bs t xs i v=>exact h.1
 |cm e bs t xs e2 f=>exact h.1
 |_=>cases hm
theorem lT.of_heap{w:World}{g:Nat}{c:Array Value}{e:TypeId}{fr:Nat×Nat}(h:w.heap[g]? =some (.cells c e fr))(o n:Nat):lT w ⟨g,o,none⟩ ((c.toList.drop o).take n):=by
 intro j v hj
 have e1:((⟨g,o,none⟩:Addr).add j)=⟨g,o+j,none⟩:=by unfold Addr.add;split<;>simp_all
 rw[e1]
 simp only[World.cell?,h]
 rw[List.getElem?_take] at hj
 split at hj
 ·rw[List.getElem?_drop] at hj
  simpa using hj
 ·cases hj
theorem lT.sub{w:World}{g o:Nat}{cs:List Value}(h:lT w ⟨g,o,none⟩ cs)(k n:Nat):lT w ⟨g,o+k,none⟩ ((cs.drop k).take n):=by
 intro j v hj
 have e1:∀o,((⟨g,o,none⟩:Addr).add j)=⟨g,o+j,none⟩:=by intro o;unfold Addr.add;split<;>simp_all
 have e2:((⟨g,o,none⟩:Addr).add (k+j))=⟨g,o+(k+j),none⟩:=by unfold Addr.add;split<;>simp_all
 rw[e1]
 rw[List.getElem?_take] at hj
 split at hj
 ·rw[List.getElem?_drop] at hj
  have:=h (k+j) v hj
  rw[e2] at this
  rw[Nat.add_assoc];exact this
 ·cases hj
theorem mb{E:Env}{w:World}{b:Nat}{k:aI}{p:Path}{u:AV}(h:RB E w b k)(hv:(E.bt b).valid p)(hr:iL k p=some u):
 ∃g s cs,E.g b=some g∧(E.bt b).sub p=some s∧u.bK s=true∧lT w ⟨g,(E.bt b).off p,none⟩ cs∧RC E w u cs:=by
 cases k with
 |
  var t v=>
  obtain⟨h1,h2,g,c,e,h3,h4,h5⟩:=h
  rw[h1] at hv ⊢
  obtain⟨s,e1,e2,e3,e4⟩:=AV.dO h5 h2 hv hr
  exact⟨g,s,_,h3,e1,e2,lT.of_heap h4 _ _,e4⟩
 |
  row e bs t xs=>
  obtain⟨h1,h2,h3,h4,a,cap,h5,h6,h7⟩:=h
  rw[h1] at hv ⊢
  cases p with
  |nil=>simp[iL] at hr
  |
   cons s p=>
   cases s with
   |bZ k=>simp[iL] at hr
   |
    idx i=>
    have hi:i<xs.length:=hv.1
    rcases h7 with⟨_,_,h9⟩|⟨g,c,h7,h8,h9,h10,h11,h12⟩
    ·subst h9;simp at hi
    ·have hR:Rel w E.S (.arr xs.length t) (c.toList.take (xs.length*t.size)) xs:=⟨rfl,h12⟩
     obtain⟨s,e1,e2,e3,e4⟩:=ni hR hv hr
     refine⟨g,s,_,h7,e1,e2,?_,e4⟩
     have hlen:xs.length*t.size≤c.toList.length:=by
      rw[show c.toList.length=c.size from Array.length_toList,h10];exact Nat.mul_le_mul_right _ h11
     simp only[List.length_take] at e3
     rw[List.drop_take,List.take_take,Nat.min_eq_left (by omega)]
     exact lT.of_heap h9 _ _
 |
  bN e bs t xs i v=>
  obtain⟨h1,h2,h3,h4,h5,h6,g,cap,c,q1,q2,q3,q4,q5,q6,q7,q8,q9⟩:=h
  rw[h1] at hv ⊢
  unfold iL at hr
  split at hr
  ·rename_i hk;cases hk
  ·rename_i hk;cases hk
  ·rename_i p hk
   cases hk
   have hv':t.valid p:=hv
   obtain⟨s,e1,e2,e3,e4⟩:=AV.dO q8 h6 hv' hr
   refine⟨g,s,_,q3,e1,e2,?_,e4⟩
   rw[List.length_take,List.length_drop] at e3
   rw[List.drop_take,List.take_take,Nat.min_eq_left (by omega),List.drop_drop]
   have:=lT.of_heap q4 (i*t.size+t.off p) s.size
   exact this
  ·rename_i hk;cases hk
  ·cases hr
 |
  cm e bs t xs e2 f=>
  obtain⟨h1,h2,h3,h4,h5,g,cap,c,og,q1,q2,q3,q4,q5,q6,q7,q8⟩:=h
  unfold iL at hr
  split at hr
  ·rename_i hk;cases hk
  ·rename_i hk;cases hk
  ·rename_i hk;cases hk
  ·rename_i _ _ _ _ _ i v p hk
   cases hk
   obtain⟨hi,hconf⟩:=h5 i v rfl
   obtain⟨u',r1,r2,_⟩:=q8 i (xs.getD i t.aB) (by rw[List.getD_eq_getElem?_getD,List.getElem?_eq_getElem hi];rfl)
   obtain⟨_,r2⟩:=r2 v rfl
   rw[h1] at hv ⊢
   have hv':t.valid p:=hv
   obtain⟨s,e1,e2,e3,e4⟩:=AV.dO r2 hconf hv' hr
   have hmid:(c.toList.drop (i*t.size)).take t.size= [u']:=by
    rw[h2,Nat.mul_one]
    have hc:c.toList[i]? =some u':=by simpa using r1
    obtain⟨hlt,hc⟩:=List.getElem?_eq_some_iff.1 hc
    rw[List.drop_eq_getElem_cons hlt,hc];rfl
   rw[←hmid] at e3 e4
   refine⟨g,s,_,q3,e1,e2,?_,e4⟩
   rw[List.length_take,List.length_drop] at e3
   rw[List.drop_take,List.take_take,Nat.min_eq_left (by omega),List.drop_drop]
   have:=lT.of_heap q4 (i*t.size+t.off p) s.size
   have ho:(k8 xs.length t (some (i,v))).off (.bZ 1::p)=i*t.size+t.off p:=by simp[k8,im,Ty.off,Ty.size]
   rw[ho]
   exact this
  ·cases hr
 |_=>simp[iL] at hr
theorem iM{P:Program}{G:bH}(T:aY P G){t:TypeId}{td:TD}(ht:G.at t=some td){E:Env}{w:World}{a:Addr}{cs:List Value}{u:AV}(hr:lT w a cs)(hc:RC E w u cs)(hu:u.bK td.ty=true):
 ∃v,(Instr.loadAt t (.pointer (some a))).run P w= .ok v w∧RV E w u v:=by
 have hl:=RC.len hc
 have hs:=AV.dg hu
 have ha:=AV.fC hu
 have hcells:=run_loadCells_list (P:=P) w a cs hr
 by_cases aab:td.ty.isAgg=true
 ·refine⟨.agg cs.toArray,?_,RV.de (Or.inl ⟨by rw[ha];exact aab,cs.toArray,rfl,by simpa using hc⟩)⟩
  have:cs.length=td.ty.size:=by omega
  simp[Instr.loadAt,Instr.sureAddr,loadVar,T.isAgg ht,T.size ht,aab,←this,hcells]
 ·have hagg':td.ty.isAgg=false:=by simpa using aab
  have h1:td.ty.size=1:=by cases h:td.ty<;>rw[h] at hagg'<;>simp[Ty.isAgg] at hagg'<;>rfl
  obtain⟨v,rfl⟩:∃v,cs= [v]:=by
   match cs,hl with
   |[v],_=>exact⟨v,rfl⟩
   |[],hl=>simp at hl;omega
   |_::_::_,hl=>simp at hl;omega
  have h0:w.cell? a=some v:=by
   have:=hr 0 v rfl
   simpa[Addr.add] using this
  exact⟨v,by simp[Instr.loadAt,Instr.sureAddr,loadVar,T.isAgg ht,hagg',h0],RV.de (Or.inr ⟨by rw[ha];exact hagg',hc⟩)⟩
def qj(G:bH)(hb:Nat→Option aI)(t:TypeId):AV→Option AV
 |
  .ptr b p=>match G.at t,hb b with
  |
   some td,some k=>match iL k p with
   |some u=>if u.bK td.ty then some u else none
   |none=>none
  |_,_=>none
 |
  .bD u x=>match G.at t with
  |some td=>if Ty.same u td.ty then some (.val u x) else none
  |none=>none
 |_=>none
def HB(hb:Nat→Option aI)(hp:List (Option aI)):Prop:=∀b k,hb b=some k→hp[b]? =some (some k)
theorem np{P:Program}{G:bH}(T:aY P G){gl:Ctx}{E:Env}{w:World}{hp:List (Option aI)}(hw:HW gl E w hp){hb:Nat→Option aI}(hB:HB hb hp){t:TypeId}{x u:AV}{vx:Value}(hx:RV E w x vx)(h:qj G hb t x=some u):
 ∃v,(Instr.loadAt t vx).run P w= .ok v w∧RV E w u v:=by
 unfold qj at h
 split at h
 ·rename_i b p
  split at h
  ·rename_i td k ht hk
   split at h
   ·rename_i y hy
    split at h
    ·rename_i hc
     cases h
     have hx:=RV.atom rfl hx
     obtain⟨g,hg,e,hv⟩:=hx
     simp at e;subst e
     obtain⟨g',s,cs,h1,h2,h3,h4,h5⟩:=mb (hw.cj b k (hB b k hk)) hv hy
     rw[hg] at h1;cases h1
     exact iM T ht h4 h5 hc
    ·cases h
   ·cases h
  ·cases h
 ·rename_i ty x
  split at h
  ·rename_i td ht
   split at h
   ·rename_i hc
    cases h
    have hx:=RV.atom rfl hx
    obtain⟨b,o,cs,e,h1,h2,h3⟩:=hx
    simp at e;subst e
    exact iM T ht h2 (u:=.val ty x) h3 hc
   ·cases h
  ·cases h
 ·cases h
theorem Ty.jc:∀{t s:Ty}{p q:Path},t.sub p=some s→t.sub (p++q)=s.sub q∧t.off (p++q)=t.off p+s.off q∧(t.valid p→s.valid q→t.valid (p++q)):=by
 intro t
 have base:∀{t s:Ty}{q:Path},t.sub []=some s→t.sub ([]++q)=s.sub q∧t.off ([]++q)=t.off []+s.off q∧(t.valid []→s.valid q→t.valid ([]++q)):=by
  intro t s q h
  have:t=s:=by cases t<;>simpa[Ty.sub] using h
  subst this
  exact⟨rfl,by cases t<;>simp[Ty.off],fun _ h=>h⟩
 induction t with
 |
  pair a b ih1 ih2=>
  intro s p q h
  cases p with
  |nil=>exact base h
  |
   cons x p=>
   cases x with
   |
    bZ k=>
    cases k with
    |
     zero=>
     obtain⟨h1,h2,h3⟩:=ih1 (q:=q) h
     exact⟨h1,h2,h3⟩
    |
     succ k=>
     obtain⟨h1,h2,h3⟩:=ih2 (q:=q) (p:=.bZ k::p) h
     refine⟨h1,?_,h3⟩
     simp only[List.cons_append,Ty.off] at h2 ⊢
     rw[h2];omega
   |idx i=>simp[Ty.sub] at h
 |
  arr n t ih=>
  intro s p q h
  cases p with
  |nil=>exact base h
  |
   cons x p=>
   cases x with
   |bZ k=>simp[Ty.sub] at h
   |
    idx i=>
    obtain⟨h1,h2,h3⟩:=ih (q:=q) h
    refine⟨h1,?_,fun⟨hi,hv⟩ hq=>⟨hi,h3 hv hq⟩⟩
    simp only[List.cons_append,Ty.off]
    rw[h2];omega
 |
  fns n=>
  intro s p q h
  cases p with
  |nil=>exact base h
  |
   cons x p=>
   cases x with
   |bZ k=>simp[Ty.sub] at h
   |
    idx i=>
    cases p with
    |cons _ _=>simp[Ty.sub] at h
    |
     nil=>
     cases h
     cases q with
     |nil=>exact⟨rfl,rfl,fun h _=>h⟩
     |cons y q=>exact⟨by simp[Ty.sub],by simp[Ty.off],fun _ h=>by cases h⟩
 |
  _=>
  intro s p q h
  cases p with
  |nil=>exact base h
  |cons x p=>simp[Ty.sub] at h
theorem jd{G:bH}:∀{fs:List Field}{o:Nat}{t:Ty}{i:Nat}{s:Ty},bF G fs o t=true→t.sub [.bZ i]=some s→
 ∃f td,fs[i]? =some f∧G.at f.type=some td∧td.ty=s∧f.offset=o+t.off [.bZ i]∧0<s.size∧t.valid [.bZ i]
 |
  [],o,t,i,s,h,hs=>by
  cases t<;>simp[bF] at h
  simp[Ty.sub] at hs
 |
  f::fs,o,t,i,s,h,hs=>by
  cases t with
  |
   pair a b=>
   simp only[bF,Bool.and_eq_true] at h
   obtain⟨⟨⟨h1,h2⟩,h3⟩,h4⟩:=h
   cases i with
   |
    zero=>
    split at h1
    ·rename_i td htd
     have:a=s:=by
      simp only[Ty.sub] at hs
      cases hs;rfl
     subst this
     have ho:a.off []=0:=by cases a<;>rfl
     refine⟨f,td,rfl,htd,Ty.aA h1,?_,by simp[Nat.blt] at h3;omega,?_⟩
     ·simp only[Ty.off,ho];exact Nat.eq_of_beq_eq_true h2
     ·simp only[Ty.valid]
    ·cases h1
   |
    succ i=>
    obtain⟨f',td,e1,e2,e3,e4,e5,e6⟩:=jd h4 (i:=i) hs
    refine⟨f',td,by simpa using e1,e2,e3,?_,e5,e6⟩
    simp only[Ty.off];omega
  |_=>simp[bF] at h
theorem aY.struct{P:Program}{G:bH}(T:aY P G){t:TypeId}{td:TD}(h:G.at t=some td){i:Nat}{s:Ty}(hs:td.ty.sub [.bZ i]=some s):
 ∃fs f tf,P.underlying t=some (.struct fs)∧fs[i]? =some f∧G.at f.type=some tf∧tf.ty=s∧f.offset=td.ty.off [.bZ i]∧0<s.size∧td.ty.valid [.bZ i]:=by
 obtain⟨ii,d,_,h1,_,h2,_⟩:=T.info h
 have aab:=cL h2
 cases hd:d with
 |
  struct fs=>
  subst hd
  obtain⟨f,tf,e1,e2,e3,e4,e5,e6⟩:=jd (fs:=fs.toList) (o:=0) h2 hs
  exact⟨fs,f,tf,h1,by simpa using e1,e2,e3,by omega,e5,e6⟩
 |
  array n e=>
  subst hd
  simp only[bR] at h2
  rw[Bool.or_eq_true] at h2
  rcases h2 with h2|h2
  ·split at h2
   ·rename_i e1 _;rw[e1] at hs;simp[Ty.sub] at hs
   ·cases h2
  simp only[Bool.and_eq_true] at h2
  obtain⟨_,h2⟩:=h2
  split at h2
  ·rename_i e1 _ _;rw[e1] at hs;simp[Ty.sub] at hs
  ·cases h2
 |
  _=>
  subst hd
  simp only[cP] at aab
  cases ht:td.ty<;>rw[ht] at aab hs<;>simp[Ty.isAgg] at aab<;>simp[Ty.sub] at hs
theorem nU{P:Program}{G:bH}(T:aY P G){t:TypeId}{td:TD}(h:G.at t=some td){i:Nat}{s:Ty}(hs:td.ty.sub [.bZ i]=some s)(w:World)(g o:Nat):
 (Instr.fieldAt t (.pointer (some ⟨g,o,none⟩)) i).run P w= .ok (.pointer (some ⟨g,o+td.ty.off [.bZ i],none⟩)) w:=by
 obtain⟨fs,f,tf,h1,h2,h3,h4,h5,h6,_⟩:=T.struct h hs
 have hsz:=T.size h3 w
 rw[h4] at hsz
 have hne:¬s.size=0:=by omega
 have ha:((⟨g,o,none⟩:Addr).add f.offset)=⟨g,o+td.ty.off [.bZ i],none⟩:=by
  rw[h5];unfold Addr.add;split<;>simp_all
 simp[Instr.fieldAt,underlying,h1,h2,Instr.sureAddr,fieldPlace,hsz,hne,ha]
def fa(G:bH)(hb:Nat→Option aI)(t:TypeId)(i:Nat):AV→Option AV
 |
  .ptr b p=>match G.at t,hb b with
  |
   some td,some k=>match(fN k).sub p,td.ty.sub [.bZ i] with
   |some u,some _=>if Ty.same u td.ty then some (.ptr b (p++[.bZ i])) else none
   |_,_=>none
  |_,_=>none
 |
  .bD u x=>match G.at t with
  |
   some td=>match td.ty.sub [.bZ i],dq u x [.bZ i] with
   |some _,some (.val v y)=>if Ty.same u td.ty then some (.bD v y) else none
   |_,_=>none
  |none=>none
 |_=>none
theorem kJ{k:aI}{p:Path}{q:PS}{u:Ty}{s:Ty}(h:(fN k).sub p=some u)(hs:u.sub [q]=some s):k.mem=true:=by
 cases k with
 |var t v=>rfl
 |row e bs t xs=>rfl
 |bN e bs t xs i v=>rfl
 |cm e bs t xs e2 f=>rfl
 |
  _=>cases p with
  |nil=>simp[fN,Ty.sub] at h;subst h;simp[Ty.sub] at hs
  |cons a p=>simp[fN,Ty.sub] at h
theorem jY{P:Program}{G:bH}(T:aY P G){gl:Ctx}{E:Env}{w:World}{hp:List (Option aI)}(hw:HW gl E w hp){hb:Nat→Option aI}(hB:HB hb hp){t:TypeId}{i:Nat}{x u:AV}{vx:Value}(hx:RV E w x vx)(h:fa G hb t i x=some u):
 ∃v,(Instr.fieldAt t vx i).run P w= .ok v w∧RV E w u v:=by
 unfold fa at h
 split at h
 ·rename_i b p
  split at h
  ·rename_i td k ht hk
   split at h
   ·rename_i u' s hu hs
    split at h
    ·rename_i hsame
     cases h
     have:=Ty.aA hsame;subst this
     obtain⟨g,hg,e,hv⟩:=RV.atom rfl hx
     simp at e;subst e
     have hbt:=RB.bt (hw.cj b k (hB b k hk)) (kJ hu hs)
     rw[←hbt] at hu
     obtain⟨_,h2,h3⟩:=Ty.jc (q:=[.bZ i]) hu
     obtain⟨_,_,_,_,_,_,_,_,_,hval⟩:=T.struct ht hs
     exact⟨_,nU T ht hs w g _,RV.de (Or.inr ⟨rfl,g,hg,by rw[h2],h3 hv hval⟩)⟩
    ·cases h
   ·cases h
  ·cases h
 ·rename_i ty y
  split at h
  ·rename_i td ht
   split at h
   ·rename_i s v' y' hs hg
    split at h
    ·rename_i hsame
     cases h
     have:=Ty.aA hsame;subst this
     obtain⟨b,o,cs,e,h1,h2,h3⟩:=RV.atom rfl hx
     simp at e;subst e
     obtain⟨_,_,_,_,_,_,_,_,_,hval⟩:=T.struct ht hs
     obtain⟨s',e1,e2,e3,e4⟩:=ni (E:=E) h3 hval hg
     exact⟨_,nU T ht hs w b o,RV.de (Or.inr ⟨rfl,b,_,_,rfl,h1,h2.sub _ _,e4⟩)⟩
    ·cases h
   ·cases h
  ·cases h
 ·cases h
end Go.Ax
namespace Go.Ax
theorem aY.cn{P:Program}{G:bH}(T:aY P G){t:TypeId}{td:TD}(h:G.at t=some td){bs:Nat}{u:Ty}(hs:td.ty= .slice bs u):
 ∃te ie,P.underlying t=some (.slice td.e)∧G.at td.e=some te∧te.ty=u∧P.info? td.e=some ie∧ie.bytes=bs∧0<u.size∧0<bs:=by
 obtain⟨ii,d,_,h1,_,h2,_⟩:=T.info h
 have aab:=cL h2
 cases hd:d with
 |
  slice e=>
  subst hd
  simp only[bR] at h2
  rw[Bool.or_eq_true] at h2
  rcases h2 with h2|h2
  ·have:=Ty.aA h2;rw[hs] at this;cases this
  simp only[Bool.and_eq_true] at h2
  obtain⟨h3,h2⟩:=h2
  have h3:=Nat.eq_of_beq_eq_true h3
  subst h3
  split at h2
  ·rename_i bs' u' te ie e1 e2 e3
   rw[hs] at e1;cases e1
   simp only[Bool.and_eq_true] at h2
   obtain⟨⟨⟨h4,h5⟩,h6⟩,h7⟩:=h2
   exact⟨te,ie,h1,e2,Ty.aA h4,e3,Nat.eq_of_beq_eq_true h5,by simp[Nat.blt] at h6;omega,by simp[Nat.blt] at h7;omega⟩
  ·cases h2
 |
  struct fs=>
  subst hd
  simp only[cP] at aab
  rw[hs] at aab;cases aab
 |
  array n e=>
  subst hd
  simp only[cP] at aab
  rw[hs] at aab;cases aab
 |
  map k e=>
  subst hd
  have:=(gr h2).1;rw[hs] at this;cases this
 |
  _=>
  subst hd
  simp only[bR] at h2
  first
   |(have:=Ty.aA h2;rw[hs] at this;cases this)
   |cases h2
theorem aY.mc{P:Program}{G:bH}(T:aY P G){t:TypeId}{td:TD}(h:G.at t=some td){n:Nat}{u:Ty}(hs:td.ty= .arr n u):
 ∃te,P.underlying t=some (.array n td.e)∧G.at td.e=some te∧te.ty=u:=by
 obtain⟨ii,d,_,h1,_,h2,_⟩:=T.info h
 have aab:=cL h2
 cases hd:d with
 |
  array m e=>
  subst hd
  simp only[bR] at h2
  rw[Bool.or_eq_true] at h2
  rcases h2 with h2|h2
  ·split at h2
   ·rename_i e1 _;rw[hs] at e1;cases e1
   ·cases h2
  simp only[Bool.and_eq_true] at h2
  obtain⟨h3,h2⟩:=h2
  have h3:=Nat.eq_of_beq_eq_true h3
  subst h3
  split at h2
  ·rename_i m' u' te ie e1 e2 e3
   rw[hs] at e1;cases e1
   simp only[Bool.and_eq_true] at h2
   have:=Nat.eq_of_beq_eq_true h2.1.2
   subst this
   exact⟨te,h1,e2,Ty.aA h2.1.1⟩
  ·cases h2
 |
  struct fs=>
  subst hd
  simp only[bR] at h2
  rw[hs] at h2
  revert h2
  generalize fs.toList=l
  intro h2
  cases l<;>simp[bF] at h2
 |
  _=>
  subst hd
  simp only[cP] at aab
  rw[hs] at aab;cases aab
theorem dw{P:Program}{G:bH}(T:aY P G){t:TypeId}{td:TD}(h:G.at t=some td){bs:Nat}{u:Ty}(hs:td.ty= .slice bs u)(w:World)(g o len cap:Nat)(k:IntKind)(i:Int)(hi:0≤i∧i<len):
 (Instr.indexAt t (.slice (some ⟨g,o,none⟩) len cap) (.int k i)).run P w= .ok (.pointer (some ⟨g,o+i.toNat*u.size,none⟩)) w:=by
 obtain⟨te,ie,h1,h2,h3,_⟩:=T.cn h hs
 have hsz:=T.size h2 w
 rw[h3] at hsz
 have ha:((⟨g,o,none⟩:Addr).add (i.toNat*u.size))=⟨g,o+i.toNat*u.size,none⟩:=by
  unfold Addr.add;split<;>simp_all
 simp[Instr.indexAt,underlying,h1,asIntOf,hi,hsz,ha]
theorem jZ{P:Program}{G:bH}(T:aY P G){t:TypeId}{td:TD}(h:G.at t=some td){n:Nat}{u:Ty}(hs:td.ty= .arr n u)(w:World)(g o:Nat)(k:IntKind)(i:Int)(hi:0≤i∧i<n):
 (Instr.indexAt t (.pointer (some ⟨g,o,none⟩)) (.int k i)).run P w= .ok (.pointer (some ⟨g,o+i.toNat*u.size,none⟩)) w:=by
 obtain⟨te,h1,h2,h3⟩:=T.mc h hs
 have hsz:=T.size h2 w
 rw[h3] at hsz
 have ha:((⟨g,o,none⟩:Addr).add (i.toNat*u.size))=⟨g,o+i.toNat*u.size,none⟩:=by
  unfold Addr.add;split<;>simp_all
 simp[Instr.indexAt,underlying,h1,asIntOf,hi,hsz,ha,Instr.sureAddr]
theorem aY.C4{P:Program}{G:bH}(T:aY P G){t:TypeId}{td:TD}(h:G.at t=some td){n:Nat}(hs:td.ty= .fns n):
 ∃te,P.underlying t=some (.array n td.e)∧G.at td.e=some te∧te.ty= .aN .func:=by
 obtain⟨ii,d,_,h1,_,h2,_⟩:=T.info h
 have aab:=cL h2
 cases hd:d with
 |
  array m e=>
  subst hd
  simp only[bR] at h2
  rw[Bool.or_eq_true] at h2
  rcases h2 with h2|h2
  ·split at h2
   ·rename_i m' te e1 e2
    rw[hs] at e1;cases e1
    simp only[Bool.and_eq_true] at h2
    obtain⟨⟨h3,h4⟩,h5⟩:=h2
    have h3:=Nat.eq_of_beq_eq_true h3
    have h4:=Nat.eq_of_beq_eq_true h4
    subst h3;subst h4
    exact⟨te,h1,e2,Ty.aA h5⟩
   ·cases h2
  ·simp only[Bool.and_eq_true] at h2
   obtain⟨_,h2⟩:=h2
   split at h2
   ·rename_i e1 _ _;rw[hs] at e1;cases e1
   ·cases h2
 |
  struct fs=>
  subst hd
  simp only[bR] at h2
  rw[hs] at h2
  revert h2
  generalize fs.toList=l
  intro h2
  cases l<;>simp[bF] at h2
 |
  _=>
  subst hd
  simp only[cP] at aab
  rw[hs] at aab;cases aab
theorem qk{P:Program}{G:bH}(T:aY P G){t:TypeId}{td:TD}(h:G.at t=some td){n:Nat}(hs:td.ty= .fns n)(w:World)(g o:Nat)(k:IntKind)(i:Int)(hi:0≤i∧i<n):
 (Instr.indexAt t (.pointer (some ⟨g,o,none⟩)) (.int k i)).run P w= .ok (.pointer (some ⟨g,o+i.toNat,none⟩)) w:=by
 obtain⟨te,h1,h2,h3⟩:=T.C4 h hs
 have hsz:=T.size h2 w
 rw[h3] at hsz
 have ha:((⟨g,o,none⟩:Addr).add (i.toNat))=⟨g,o+i.toNat,none⟩:=by
  unfold Addr.add;split<;>simp_all
 simp[Instr.indexAt,underlying,h1,asIntOf,hi,hsz,ha,Instr.sureAddr,Ty.size]
def gu(G:bH)(hb:Nat→Option aI)(t:TypeId)(x:AV)(i:Int):Option (AV×List VC):=
 match G.at t with
 |
  some td=>
  match td.ty,x with
  | .slice bs u,.val (.slice bs' u') xs=>if Nat.beq bs bs'&&Ty.same u u' then some (.bD u' (xs.getD i.toNat u'.aB),[vc (0≤i),vc (i<xs.length)]) else none
  |
   .slice _ u,.own b=>match hb b with
   |some (.row _ _ u' xs)=>if Ty.same u u' then some (.ptr b [.idx i.toNat],[vc (0≤i),vc (i<xs.length)]) else none
   |some (.bN _ _ u' _xs j _)=>if Ty.same u u' then some (.ptr b [.bZ 1],[vc (0≤i),vc (i.toNat=j)]) else none
   |some (.cm _ _ u' _ _ (some (j,_)))=>if Ty.same u u' then some (.ptr b [.bZ 1],[vc (0≤i),vc (i.toNat=j)]) else none
   |_=>none
  |
   .slice _ u,.ig b lo len=>match hb b with
   |some (.row _ _ u' _)=>if Ty.same u u' then some (.ptr b [.idx (lo+i.toNat)],[vc (0≤i),vc (i<len)]) else none
   |_=>none
  |
   .slice _ u,.gn b p lo len=>match hb b with
   |
    some (.var tt _)=>match tt.sub p with
    |some (.arr _ u')=>if Ty.same u u' then some (.ptr b (p++[.idx (lo+i.toNat)]),[vc (0≤i),vc (i<len)]) else none
    |_=>none
   |_=>none
  |
   .arr n u,.ptr b p=>match hb b with
   |
    some k=>match(fN k).sub p with
    |some (.arr n' u')=>if Ty.same u u'&&Nat.beq n n' then some (.ptr b (p++[.idx i.toNat]),[vc (0≤i),vc (i<n)]) else none
    |_=>none
   |_=>none
  |
   .fns n,.ptr b p=>match hb b with
   |
    some k=>match(fN k).sub p with
    |some (.fns n')=>if Nat.beq n n' then some (.ptr b (p++[.idx i.toNat]),[vc (0≤i),vc (i<n)]) else none
    |_=>none
   |_=>none
  | .arr n u,.bD (.arr n' u') xs=>if Ty.same u u'&&Nat.beq n n' then some (.bD u' (List.getD xs i.toNat u'.aB),[vc (0≤i),vc (i<n)]) else none
  |_,_=>none
 |none=>none
def iu(G:bH)(hb:Nat→Option aI)(t:TypeId)(x:AV):AV→Option (AV×List VC)
 | .val (.int _) i=>gu G hb t x i
 |_=>none
theorem Ty.gv(t:Ty):t.off []=0:=by cases t<;>rfl
theorem Ty.fb(t:Ty):t.valid []:=by cases t<;>trivial
theorem Ty.zY(t:Ty):t.sub []=some t:=by cases t<;>rfl
theorem oC{P:Program}{G:bH}(T:aY P G){gl:Ctx}{E:Env}{w:World}{hp:List (Option aI)}(hw:HW gl E w hp){hb:Nat→Option aI}(hB:HB hb hp){t:TypeId}{x u:AV}{vx:Value}{k:IntKind}{i:Int}{vc:List VC}(hx:RV E w x vx)(h:gu G hb t x i=some (u,vc))(hvc0:cX vc):
 ∃v,(Instr.indexAt t vx (.int k i)).run P w= .ok v w∧RV E w u v:=by
 unfold gu at h
 split at h
 ·rename_i td ht
  split at h
  ·rename_i bs u bs' u' xs hty
   split at h
   ·rename_i hc
    cases h
    have hvc:=And.intro hvc0.1 hvc0.2.1
    simp only[Bool.and_eq_true] at hc
    have:=Nat.eq_of_beq_eq_true hc.1;subst this
    have:=Ty.aA hc.2;subst this
    obtain⟨a,cap,e,h1,h2,h3,h4⟩:=RV.atom rfl hx
    simp at e;subst e
    rcases h4 with h4|⟨b,o,cs,e1,e2,e3,e4⟩
    ·subst h4;simp at hvc;exact absurd hvc.2 (by omega)
    ·subst e1
     have hlt:i.toNat<xs.length:=by omega
     have aam:=aQ.get (fun _ _=>Rel.len) u.aB i.toNat e4 hlt
     exact⟨_,dw T ht hty w b o _ cap k i hvc,RV.de (Or.inr ⟨rfl,b,_,_,rfl,e2,e3.sub _ _,aam⟩)⟩
   ·cases h
  ·rename_i bs u b hty
   split at h
   ·rename_i e bs2 u' xs hk
    split at h
    ·rename_i hc
     cases h
     have hvc:=And.intro hvc0.1 hvc0.2.1
     have:=Ty.aA hc;subst this
     have hx:=RV.atom rfl hx
     simp only[RC,List.cons.injEq,and_true] at hx
     have hx:=hx.1
     subst hx
     obtain⟨h1,h2,h3,h4,a,cap,h5,h6,h7⟩:=hw.cj b _ (hB b _ hk)
     rw[h5]
     rcases h7 with⟨_,_,h9⟩|⟨g,c,h7,h8,h9,h10,h11,h12⟩
     ·subst h9;simp at hvc;exact absurd hvc.2 (by omega)
     ·subst h8
      refine⟨_,dw T ht hty w g 0 _ cap k i hvc,RV.de (Or.inr ⟨rfl,g,h7,?_,?_⟩)⟩
      ·rw[h1];simp[Ty.off,Ty.gv]
      ·rw[h1];exact⟨by omega,Ty.fb _⟩
    ·cases h
   ·rename_i e bs2 u' xs j v hk
    split at h
    ·rename_i hc
     cases h
     have hvc:=And.intro hvc0.1 hvc0.2.1
     have:=Ty.aA hc;subst this
     have hx:=RV.atom rfl hx
     simp only[RC,List.cons.injEq,and_true] at hx
     have hx:=hx.1
     subst hx
     obtain⟨h1,h2,h3,h4,h5,h6,g,cap,c,q1,q2,q3,q4,q5,q6,q7,q8,q9⟩:=hw.cj b _ (hB b _ hk)
     rw[q1]
     have hij:i.toNat=j:=hvc.2
     have h0:0≤i:=hvc.1
     refine⟨_,dw T ht hty w g 0 _ cap k i ⟨h0,by omega⟩,RV.de (Or.inr ⟨rfl,g,q3,?_,?_⟩)⟩
     ·rw[h1,hij];simp[im,Ty.off,Ty.gv,Ty.size]
     ·rw[h1];exact Ty.fb u
    ·cases h
   ·rename_i e bs2 u' xs e2 j v hk
    split at h
    ·rename_i hc
     cases h
     have hvc:=And.intro hvc0.1 hvc0.2.1
     have:=Ty.aA hc;subst this
     have hx:=RV.atom rfl hx
     simp only[RC,List.cons.injEq,and_true] at hx
     have hx:=hx.1
     subst hx
     obtain⟨h1,h2,h3,h4,h5,g,cap,c,og,q1,q2,q3,q4,q5,q6,q7,q8⟩:=hw.cj b _ (hB b _ hk)
     rw[q1]
     have hij:i.toNat=j:=hvc.2
     have h0:0≤i:=hvc.1
     have hj:=(h5 j v rfl).1
     refine⟨_,dw T ht hty w g 0 _ cap k i ⟨h0,by omega⟩,RV.de (Or.inr ⟨rfl,g,q3,?_,?_⟩)⟩
     ·rw[h1,hij];simp[k8,im,Ty.off,Ty.gv,Ty.size]
     ·rw[h1];exact Ty.fb u
    ·cases h
   ·cases h
  ·rename_i bs u b lo len hty
   split at h
   ·rename_i e bs2 u' xs hk
    split at h
    ·rename_i hc
     cases h
     have hvc:=And.intro hvc0.1 hvc0.2.1
     have:=Ty.aA hc;subst this
     obtain⟨a,c0,n,tt,r1,r2,r3,r4,a2,e,r6⟩:=RV.atom rfl hx
     simp at e;subst e
     obtain⟨h1,h2,h3,h4,a',cap,h5,h6,h7⟩:=hw.cj b _ (hB b _ hk)
     rw[h1] at r1;cases r1
     rw[h5] at r2;cases r2
     rcases h7 with⟨_,_,h9⟩|⟨g,c,h7,h8,h9,h10,h11,h12⟩
     ·subst h9;simp at r3;exact absurd hvc.2 (by omega)
     ·subst h8
      have had:a2=some ⟨g,lo*u.size,none⟩:=by
       rcases r6 with r6|r6
       ·omega
       ·rw[r6];simp only[Option.map_some,Option.some.injEq];unfold Addr.add;split<;>simp_all
      rw[had]
      refine⟨_,dw T ht hty w g _ _ _ k i hvc,RV.de (Or.inr ⟨rfl,g,h7,?_,?_⟩)⟩
      ·rw[h1];simp only[Ty.off,Ty.gv];rw[Nat.add_mul];simp
      ·rw[h1];exact⟨by omega,Ty.fb _⟩
    ·cases h
   ·cases h
  ·rename_i bs u b p lo len hty
   split at h
   ·rename_i tt v hk
    split at h
    ·rename_i n u' aaw
     split at h
     ·rename_i hc
      cases h
      have hvc:=And.intro hvc0.1 hvc0.2.1
      have:=Ty.aA hc;subst this
      obtain⟨n2,t2,r1,r2,r3,a,cap,e,r4,r5⟩:=RV.atom rfl hx
      simp at e;subst e
      obtain⟨h1,h2,g,c,e2,h3,h4,h5⟩:=hw.cj b _ (hB b _ hk)
      rw[h1,aaw] at r1;cases r1
      rcases r5 with r5|⟨g',r5,r6⟩
      ·subst r5;omega
      ·rw[h3] at r5;cases r5
       subst r6
       obtain⟨q1,q2,q3⟩:=Ty.jc (q:=[.idx (lo+i.toNat)]) aaw
       refine⟨_,dw T ht hty w g _ _ _ k i hvc,RV.de (Or.inr ⟨rfl,g,h3,?_,?_⟩)⟩
       ·rw[h1,q2];simp only[Ty.off,Ty.gv];rw[Nat.add_mul];simp;omega
       ·rw[h1];refine q3 (by rw[←h1];exact r2) ⟨by omega,Ty.fb _⟩
     ·cases h
    ·cases h
   ·cases h
  ·rename_i n u b p hty
   split at h
   ·rename_i kk hk
    split at h
    ·rename_i n' u' aaw
     split at h
     ·rename_i hc
      cases h
      have hvc:=And.intro hvc0.1 hvc0.2.1
      simp only[Bool.and_eq_true] at hc
      have:=Ty.aA hc.1;subst this
      have:=Nat.eq_of_beq_eq_true hc.2;subst this
      obtain⟨g,hg,e,hv⟩:=RV.atom rfl hx
      simp at e;subst e
      have hbt:=RB.bt (hw.cj b kk (hB b kk hk)) (kJ (q:=.idx 0) (s:=u) aaw (by simp[Ty.sub,Ty.zY]))
      rw[←hbt] at aaw
      obtain⟨q1,q2,q3⟩:=Ty.jc (q:=[.idx i.toNat]) aaw
      refine⟨_,jZ T ht hty w g _ k i hvc,RV.de (Or.inr ⟨rfl,g,hg,?_,?_⟩)⟩
      ·rw[q2];simp only[Ty.off,Ty.gv];simp
      ·exact q3 hv ⟨by omega,Ty.fb _⟩
     ·cases h
    ·cases h
   ·cases h
  ·rename_i n b p hty
   split at h
   ·rename_i kk hk
    split at h
    ·rename_i n' aaw
     split at h
     ·rename_i hc
      cases h
      have hvc:=And.intro hvc0.1 hvc0.2.1
      have:=Nat.eq_of_beq_eq_true hc;subst this
      obtain⟨g,hg,e,hv⟩:=RV.atom rfl hx
      simp at e;subst e
      have hbt:=RB.bt (hw.cj b kk (hB b kk hk)) (kJ (q:=.idx 0) (s:=.aN .func) aaw rfl)
      rw[←hbt] at aaw
      obtain⟨q1,q2,q3⟩:=Ty.jc (q:=[.idx i.toNat]) aaw
      refine⟨_,qk T ht hty w g _ k i hvc,RV.de (Or.inr ⟨rfl,g,hg,?_,?_⟩)⟩
      ·rw[q2];simp only[Ty.off]
      ·exact q3 hv (by show i.toNat<n;omega)
     ·cases h
    ·cases h
   ·cases h
  ·rename_i n u n' u' xs hty
   split at h
   ·rename_i hc
    cases h
    have hvc:=And.intro hvc0.1 hvc0.2.1
    simp only[Bool.and_eq_true] at hc
    have:=Ty.aA hc.1;subst this
    have:=Nat.eq_of_beq_eq_true hc.2;subst this
    obtain⟨b,o,cs,e,h1,h2,h3⟩:=RV.atom rfl hx
    simp at e;subst e
    obtain⟨hn,h3⟩:=h3
    have hlt:i.toNat<List.length xs:=by omega
    have aam:=aQ.get (fun _ _=>Rel.len) u.aB i.toNat h3 hlt
    exact⟨_,jZ T ht hty w b o k i hvc,RV.de (Or.inr ⟨rfl,b,_,_,rfl,h1,h2.sub _ _,aam⟩)⟩
   ·cases h
  ·cases h
 ·cases h
theorem ql{P:Program}{G:bH}(T:aY P G){gl:Ctx}{E:Env}{w:World}{hp:List (Option aI)}(hw:HW gl E w hp){hb:Nat→Option aI}(hB:HB hb hp){t:TypeId}{x y u:AV}{vx vy:Value}{vc:List VC}(hx:RV E w x vx)(hy:RV E w y vy)(h:iu G hb t x y=some (u,vc))(hvc:cX vc):
 ∃v,(Instr.indexAt t vx vy).run P w= .ok v w∧RV E w u v:=by
 unfold iu at h
 split at h
 ·obtain⟨rfl,_⟩:=RV.cG hy
  exact oC T hw hB hx h hvc
 ·cases h
theorem oS(l:List UInt8):(ByteArray.mk l.toArray).size=l.length:=by show l.toArray.size=_;simp
def gi(n:Nat):AV:=.val (.int .i64) (n:Int)
def C5(G:bH)(hb:Nat→Option aI)(t:TypeId)(x:AV):Option AV:=
 match G.at t with
 |
  some td=>
  match td.ty,x with
  | .slice _ _,.val (.slice _ _) xs=>some (gi xs.length)
  | .slice _ _,.aX=>some (gi 0)
  |
   .slice _ _,.own b=>match hb b with
   |some (.row _ _ _ xs)=>some (gi xs.length)
   |some (.bN _ _ _ xs _ _)=>some (gi xs.length)
   |some (.cm _ _ _ xs _ _)=>some (gi xs.length)
   |_=>none
  |
   .slice _ _,.ig b _ len=>match hb b with
   |some (.row _ _ _ xs)=>if Nat.ble 1 1 then some (gi len) else(some (gi xs.length))
   |_=>none
  |
   .slice _ _,.gn b p _ len=>match hb b with
   |
    some (.var tt _)=>match tt.sub p with
    |some (.arr n _)=>if Nat.ble n aC then some (gi len) else none
    |_=>none
   |_=>none
  | .str,.val .str s=>some (gi s.length)
  | .aN .map,.di=>some (gi 0)
  |
   .aN .map,.mp b=>match hb b with
   |some (.map _ _ es)=>some (gi es.length)
   |_=>none
  | .map _ _,.di=>some (gi 0)
  |
   .map _ _,.mp b=>match hb b with
   |some (.map _ _ es)=>some (gi es.length)
   |_=>none
  | .map _ _,.val (.map _ _) y=>some (gi (List.length (bT y)))
  |_,_=>none
 |none=>none
theorem RV.len{E:Env}{w:World}{n:Nat}(h:n≤aC):RV E w (gi n) (goInt n):=by
 refine RV.int (k:=.i64) ?_
 unfold aC at h
 have h1:IntKind.i64.min= -9223372036854775808:=by decide
 have h2:IntKind.i64.max=9223372036854775807:=by decide
 omega
theorem RM.len{E:Env}{w:World}{k v:Ty}:∀{l:List MapEntry}{xs:List (k.den×v.den)},RM E w k v l xs→l.length=xs.length
 |[],[],_=>rfl
 |[],_::_,h=>h.elim
 |_::_,[],h=>h.elim
 |_::l,_::xs,h=>by simp[RM.len h.2.2]
theorem aY.strOf{P:Program}{G:bH}(T:aY P G){t:TypeId}{td:TD}(h:G.at t=some td)(hs:td.ty= .str):P.underlying t=some .string:=by
 obtain⟨ii,d,_,h1,_,h2,_⟩:=T.info h
 have aab:=cL h2
 rw[h1]
 cases hd:d with
 |string=>rfl
 |struct fs=>subst hd;simp only[cP] at aab;rw[hs] at aab;cases aab
 |array n e=>subst hd;simp only[cP] at aab;rw[hs] at aab;cases aab
 |
  slice e=>
  subst hd
  simp only[bR] at h2
  rw[Bool.or_eq_true] at h2
  rcases h2 with h2|h2
  ·have:=Ty.aA h2;rw[hs] at this;cases this
  simp only[Bool.and_eq_true] at h2
  obtain⟨_,h2⟩:=h2
  split at h2
  ·rename_i e1 _ _;rw[hs] at e1;cases e1
  ·cases h2
 |map k e=>subst hd;have:=(gr h2).1;rw[hs] at this;cases this
 |
  _=>
  subst hd
  simp only[bR] at h2
  first
   |(have:=Ty.aA h2;rw[hs] at this;cases this)
   |cases h2
theorem aY.mapOf{P:Program}{G:bH}(T:aY P G){t:TypeId}{td:TD}(h:G.at t=some td)(hs:td.ty.isMap=true):P.underlying t=some (.map td.e td.e2):=by
 obtain⟨ii,d,_,h1,_,h2,_⟩:=T.info h
 have aab:=cL h2
 rw[h1]
 cases hd:d with
 |
  map k e=>
  subst hd
  obtain⟨_,e1,e2⟩:=gr h2
  rw[e1,e2]
 |struct fs=>subst hd;simp only[cP] at aab;revert hs aab;cases td.ty<;>simp[Ty.isMap,Ty.isAgg]
 |array n e=>subst hd;simp only[cP] at aab;revert hs aab;cases td.ty<;>simp[Ty.isMap,Ty.isAgg]
 |
  slice e=>
  subst hd
  simp only[bR] at h2
  rw[Bool.or_eq_true] at h2
  rcases h2 with h2|h2
  ·have:=Ty.aA h2;rw[this] at hs;simp[Ty.isMap] at hs
  simp only[Bool.and_eq_true] at h2
  obtain⟨_,h2⟩:=h2
  split at h2
  ·rename_i e1 _ _;rw[e1] at hs;simp[Ty.isMap] at hs
  ·cases h2
 |
  _=>
  subst hd
  simp only[bR] at h2
  first
   |(have:=Ty.aA h2;rw[this] at hs;simp[Ty.isMap] at hs)
   |cases h2
theorem C6{P:Program}{G:bH}(T:aY P G){gl:Ctx}{E:Env}{w:World}{hp:List (Option aI)}(hw:HW gl E w hp){hb:Nat→Option aI}(hB:HB hb hp){t ty:TypeId}{x u:AV}{vx:Value}(hx:RV E w x vx)(h:C5 G hb t x=some u):
 ∃v,(Builtin.len_ #[t] ty #[vx]).run P w= .ok v w∧RV E w u v:=by
 unfold C5 at h
 split at h
 ·rename_i td ht
  split at h
  ·rename_i bs u' bs' u2 xs hty
   cases h
   obtain⟨te,ie,h1,_⟩:=T.cn ht hty
   obtain⟨a,cap,e,_,_,h3,_⟩:=RV.atom rfl hx
   simp at e;subst e
   exact⟨_,by simp[Builtin.len_,underlying,h1],RV.len h3⟩
  ·rename_i bs u' hty
   cases h
   obtain⟨te,ie,h1,_⟩:=T.cn ht hty
   have hx:=RV.atom rfl hx
   simp[RC] at hx;subst hx
   exact⟨_,by simp[Builtin.len_,underlying,h1],RV.len (by unfold aC;omega)⟩
  ·rename_i bs u' b hty
   split at h
   ·rename_i e2 bs2 t2 xs hk
    cases h
    obtain⟨te,ie,h1,_⟩:=T.cn ht hty
    have hx:=RV.atom rfl hx
    simp only[RC,List.cons.injEq,and_true] at hx
    have hx:=hx.1
    subst hx
    obtain⟨_,_,h3,_,a,cap,h5,_⟩:=hw.cj b _ (hB b _ hk)
    rw[h5]
    exact⟨_,by simp[Builtin.len_,underlying,h1],RV.len h3⟩
   ·rename_i e2 bs2 t2 xs j v hk
    cases h
    obtain⟨te,ie,h1,_⟩:=T.cn ht hty
    have hx:=RV.atom rfl hx
    simp only[RC,List.cons.injEq,and_true] at hx
    have hx:=hx.1
    subst hx
    obtain⟨_,_,_,h3,_,_,g,cap,c,h5,_⟩:=hw.cj b _ (hB b _ hk)
    rw[h5]
    exact⟨_,by simp[Builtin.len_,underlying,h1],RV.len h3⟩
   ·rename_i e2 bs2 t2 xs e3 f hk
    cases h
    obtain⟨te,ie,h1,_⟩:=T.cn ht hty
    have hx:=RV.atom rfl hx
    simp only[RC,List.cons.injEq,and_true] at hx
    have hx:=hx.1
    subst hx
    obtain⟨_,_,_,h3,_,g,cap,c,og,h5,_⟩:=hw.cj b _ (hB b _ hk)
    rw[h5]
    exact⟨_,by simp[Builtin.len_,underlying,h1],RV.len h3⟩
   ·cases h
  ·rename_i bs u' b lo len hty
   split at h
   ·rename_i e2 bs2 t2 xs hk
    simp at h;subst h
    obtain⟨te,ie,h1,_⟩:=T.cn ht hty
    obtain⟨a,c,n,tt,r1,r2,r3,r4,a2,e,_⟩:=RV.atom rfl hx
    simp at e;subst e
    obtain⟨q1,_,h3,_,a',cap,h5,_⟩:=hw.cj b _ (hB b _ hk)
    rw[r1] at q1;cases q1
    exact⟨_,by simp[Builtin.len_,underlying,h1],RV.len (by omega)⟩
   ·cases h
  ·rename_i bs u' b p lo len hty
   split at h
   ·rename_i tt v hk
    split at h
    ·rename_i n0 u0 aaw
     split at h
     ·rename_i hn
      cases h
      obtain⟨te,ie,h1,_⟩:=T.cn ht hty
      obtain⟨n,t2,r1,r2,r3,a,cap,e,r4,r5⟩:=RV.atom rfl hx
      simp at e;subst e
      obtain⟨q1,_⟩:=hw.cj b _ (hB b _ hk)
      rw[q1,aaw] at r1;cases r1
      have:=Nat.le_of_ble_eq_true hn
      exact⟨_,by simp[Builtin.len_,underlying,h1],RV.len (by omega)⟩
     ·cases h
    ·cases h
   ·cases h
  ·rename_i s hty
   cases h
   have h1:=T.strOf ht hty
   obtain⟨rfl,h2⟩:=RV.eQ hx
   exact⟨goInt s.length,by simp[Builtin.len_,underlying,h1,oS],RV.len h2⟩
  ·rename_i hty
   cases h
   have h1:=T.mapOf ht (by rw[hty];rfl)
   have hx:=RV.atom rfl hx
   simp[RC] at hx;subst hx
   exact⟨_,by simp[Builtin.len_,underlying,h1],RV.len (by unfold aC;omega)⟩
  ·rename_i b hty
   split at h
   ·rename_i kt vt es hk
    cases h
    have h1:=T.mapOf ht (by rw[hty];rfl)
    obtain⟨g,hg,e⟩:=RV.atom rfl hx
    simp at e;subst e
    obtain⟨_,h2,g',en,clock,h3,h4,h5,_⟩:=hw.cj b _ (hB b _ hk)
    rw[hg] at h3;cases h3
    have hl:=RM.len h5
    refine⟨goInt es.length,?_,RV.len h2⟩
    simp[Builtin.len_,underlying,h1,getObj,Sem.run,h4,←hl]
   ·cases h
  ·rename_i _ _ hty
   cases h
   have h1:=T.mapOf ht (by rw[hty];rfl)
   have hx:=RV.atom rfl hx
   simp[RC] at hx;subst hx
   exact⟨_,by simp[Builtin.len_,underlying,h1],RV.len (by unfold aC;omega)⟩
  ·rename_i _ _ b hty
   split at h
   ·rename_i kt vt es hk
    cases h
    have h1:=T.mapOf ht (by rw[hty];rfl)
    obtain⟨g,hg,e⟩:=RV.atom rfl hx
    simp at e;subst e
    obtain⟨_,h2,g',en,clock,h3,h4,h5,_⟩:=hw.cj b _ (hB b _ hk)
    rw[hg] at h3;cases h3
    have hl:=RM.len h5
    refine⟨goInt es.length,?_,RV.len h2⟩
    simp[Builtin.len_,underlying,h1,getObj,Sem.run,h4,←hl]
   ·cases h
  ·rename_i _ _ k' v' y hty
   cases h
   have h1:=T.mapOf ht (by rw[hty];rfl)
   obtain⟨a,e,hr⟩:=RV.atom rfl hx
   simp at e;subst e
   rcases hr with⟨rfl,rfl⟩|⟨es,g,en,clock,rfl,rfl,_,h4,h5,_,h6,_⟩
   ·exact⟨_,by simp[Builtin.len_,underlying,h1],RV.len (n:=0) (by unfold aC;omega)⟩
   ·have hl:=ij.len h5
    exact⟨goInt es.length,by simp[Builtin.len_,underlying,h1,getObj,Sem.run,h4,←hl],RV.len h6⟩
  ·cases h
 ·cases h
end Go.Ax
namespace Go.Ax
def St.fresh(σ:St)(d:Nat):Prop:=d∉σ.ids∧(∀k,σ.hp[d]? ≠some (some k))∧16≤d
def cq:Nat→List Nat→Bool
 |_,[]=>false
 |d,x::l=>Nat.beq d x||cq d l
theorem dC{d:Nat}:∀{l:List Nat},cq d l=false→d∉l
 |[],_=>by simp
 |
  x::l,h=>by
  simp only[cq,Bool.or_eq_false_iff] at h
  intro hm
  cases hm with
  |head=>simp at h
  |tail _ hm=>exact dC h.2 hm
def St.dQ(σ:St)(d:Nat):Bool:=
 Nat.ble 16 d&& !cq d σ.ids&&(match σ.hp[d]? with|some (some _)=>false|_=>true)
theorem St.cY{σ:St}{d:Nat}(h:σ.dQ d=true):σ.fresh d:=by
 simp only[St.dQ,Bool.and_eq_true] at h
 refine⟨dC (by simpa using h.1.2),?_,Nat.le_of_ble_eq_true h.1.1⟩
 intro k hk
 rw[hk] at h
 exact absurd h.2 (by simp)
theorem bO.fresh{gl:Ctx}{σ:St}{E:Env}{a:Act}{w w':World}(h:bO gl σ E a w){d:Nat}(hf:σ.fresh d){g:Option Nat}{sv:Value}{t:Ty}{k:aI}
 (hos:w'.os=w.os) (hta:Tp gl.md w w') (hou:w'.output=w.output) (hsz:w.heap.size≤w'.heap.size) (hold:∀i,i<w.heap.size→w'.heap[i]? =w.heap[i]?)
 (hg:∀i,g=some i→w.heap.size≤i) (hb:RB (E.at d g sv t) w' d k):
 bO gl (σ.cj d (some k)) (E.at d g sv t) a w'∧Ext gl.md (Own σ.hp E) E w (Own (σ.cj d (some k)).hp (E.at d g sv t)) (E.at d g sv t) w':=by
 have kp:bC E w (E.at d g sv t) w':=⟨fun b hb=>hold b (h.hw.slt b hb),fun b hb=>hb⟩
 have hw:=h.hw.fresh (d:=d) hsz hold hf.2.1 (fun b k' hk hm=>hf.1 (St.tR hk d hm)) hg hb
 refine⟨h.carry kp (Env.wg hf.1) hw,hos,hta,hou,hsz,fun i hi _=>hold i hi,fun i hi=>hi,fun i hi=>Or.inl hi,?_,Env.C0 hf.2.2⟩
 rintro i ⟨b,k',hbk,hgi⟩
 by_cases e:b=d
 ·subst e
  exact Or.inr (hg i (Env.ir.1 hgi))
 ·have hgi:=(Env.fV e).1 hgi
  simp only[St.cj] at hbk
  rw[List.getElem?_set,if_neg (fun e'=>e e'.symm)] at hbk
  exact Or.inl ⟨b,k',hbk,hgi⟩
theorem fJ(w:World)(o:Obj)(i:Nat)(hi:i<w.heap.size):({w with heap:=w.heap.push o}:World).heap[i]? =w.heap[i]? :=by
 show(w.heap.push o)[i]? =_
 rw[Array.getElem?_push,if_neg (by omega)]
theorem k9(w:World)(o:Obj):({w with heap:=w.heap.push o}:World).heap[w.heap.size]? =some o:=by
 show(w.heap.push o)[w.heap.size]? =_
 simp
theorem bO.newVar{P:Program}{gl:Ctx}{σ:St}{E:Env}{a:Act}{w:World}(h:bO gl σ E a w){d:Nat}(hf:σ.fresh d){t:Ty}{x:AV}{v:Value}(e:TypeId)(hr:RC E w x v.cells.toList)(hc:x.bK t=true)(hx:d∉x.ids):
 ∃w' E',(Go.newVar e v).run P w= .ok ⟨w.heap.size,0,none⟩ w'∧bO gl (σ.cj d (some (.var t x))) E' a w'∧RV E' w' (.ptr d []) (.pointer (some ⟨w.heap.size,0,none⟩))∧Ext gl.md (Own σ.hp E) E w (Own (σ.cj d (some (.var t x))).hp E') E' w':=by
 refine⟨{w with heap:=w.heap.push (.cells v.cells e)},E.at d (some w.heap.size) undef t,by simp[Go.newVar,newRow],?_⟩
 have kp:bC E w (E.at d (some w.heap.size) undef t) {w with heap:=w.heap.push (.cells v.cells e)}:=⟨fun b hb=>fJ _ _ _ (h.hw.slt b hb),fun b hb=>hb⟩
 obtain⟨h1,h2⟩:=h.fresh hf (w':={w with heap:=w.heap.push (.cells v.cells e)}) (g:=some w.heap.size) (sv:=undef) (t:=t) (k:=.var t x) rfl (Tp.r rfl rfl) rfl (by simp) (fun i hi=>fJ _ _ _ hi) (fun i hi=>by cases hi;exact Nat.le_refl _)
  ⟨by simp[Env.at],hc,w.heap.size,v.cells,e,by simp[Env.at],k9 _ _,RC.mono kp (Env.wg hx) hr⟩
 exact⟨h1,RV.de (Or.inr ⟨rfl,w.heap.size,by simp[Env.at],by simp[Env.at,Ty.gv],Ty.fb _⟩),h2⟩
theorem wq(v:Value):(ma v).ids= []:=by
 unfold ma
 split<;>try rfl
 all_goals(split<;>rfl)
theorem yd(gl:List BA)(g:Nat):(nn gl g).ids= []:=by
 induction gl with
 |nil=>rfl
 |cons x l ih=>unfold nn;split;rfl;exact ih
theorem sm{gl:Ctx}{σ:St}{x:Operand}:∀b∈(bw gl σ.tm x).ids,b∈σ.ids:=by
 intro b hb
 cases x with
 |
  tmp t=>
  simp only[bw] at hb
  cases hx:σ.tm[t]? with
  |none=>rw[hx] at hb;simp[AV.ids] at hb
  |some y=>rw[hx] at hb;exact St.xZ hx b hb
 |const v=>simp only[bw,wq] at hb;cases hb
 |global g=>simp only[bw,yd] at hb;cases hb
 |func f=>simp[bw,AV.ids] at hb
theorem Ty.C7(t:Ty):t.zero.ids= []:=by
 induction t with
 |pair a b ih1 ih2=>simp[Ty.zero,AV.ids,ih1,ih2]
 |aN k=>cases k<;>rfl
 |_=>rfl
theorem BC{P:Program}{G:bH}(T:aY P G){gl:Ctx}{σ:St}{E:Env}{a:Act}{w:World}(h:bO gl σ E a w){d:Nat}(hf:σ.fresh d){e:TypeId}{td:TD}(he:G.at e=some td)(old:Value):
 ∃v w' E',(Instr.alloc e true old).run P w= .ok v w'∧bO gl (σ.cj d (some (.var td.ty td.ty.zero))) E' a w'∧RV E' w' (.ptr d []) v∧Ext gl.md (Own σ.hp E) E w (Own (σ.cj d (some (.var td.ty td.ty.zero))).hp E') E' w':=by
 obtain⟨z,hz,h1,h2⟩:=T.zero he w
 obtain⟨w',E',h3,h4,h5,h6⟩:=h.newVar (P:=P) hf (t:=td.ty) (x:=td.ty.zero) (v:=z) e (dY h1).1 (Ty.nj _) (by rw[Ty.C7];simp)
 exact⟨_,w',E',by simp[Instr.alloc,hz,h3],h4,h5,h6⟩
theorem FZ{P:Program}{gl:Ctx}{σ:St}{E:Env}{a:Act}{w:World}(h:bO gl σ E a w){d:Nat}(hf:σ.fresh d){e:TypeId}{t:Ty}{x:AV}{v:Value}(hr:cd E w x v)(hc:x.bK t=true)(hx:d∉x.ids):
 ∃u w' E',(Instr.box e v).run P w= .ok u w'∧bO gl (σ.cj d (some (.var t x))) E' a w'∧RV E' w' (.ptr d []) u∧Ext gl.md (Own σ.hp E) E w (Own (σ.cj d (some (.var t x))).hp E') E' w':=by
 obtain⟨w',E',h3,h4,h5,h6⟩:=h.newVar (P:=P) hf (t:=t) (x:=x) (v:=v) e hr.cells hc hx
 exact⟨_,w',E',by simp[Instr.box,h3],h4,h5,h6⟩
def IA(e:TypeId)(bs:Nat)(t:Ty)(xs:List t.den)(i:Nat)(p:Path)(x:AV):Option aI:=
 match eC t (xs.getD i t.aB) p x with
 |
  some y=>match y.bA t with
  |some z=>some (.row e bs t (xs.set i z))
  |none=>none
 |none=>none
def la:aI→Path→AV→Option aI
 |
  .var t v,p,x=>match v.set p x with
  |some u=>if u.bK t then some (.var t u) else none
  |none=>none
 | .row e bs t xs,.idx i::p,x=>IA e bs t xs i p x
 |
  .bN e bs t xs i v,.bZ 1::p,x=>match v.set p x with
  |some u=>if u.bK t then some (.bN e bs t xs i u) else none
  |none=>none
 |
  .cm e bs t xs e2 (some (i,v)),.bZ 1::p,x=>match v.set p x with
  |some u=>if u.bK t then some (.cm e bs t xs e2 (some (i,u))) else none
  |none=>none
 |_,_,_=>none
theorem wu{L us:List Value}{a o n:Nat}(h:o+us.length≤n)(hl:a+n≤L.length):
 (L.take (a+o)++us++L.drop (a+o+us.length)).take a=L.take a∧((L.take (a+o)++us++L.drop (a+o+us.length)).drop a).take n=((L.drop a).take n).take o++us++((L.drop a).take n).drop (o+us.length)∧
  (L.take (a+o)++us++L.drop (a+o+us.length)).drop (a+n)=L.drop (a+n):=by
 obtain⟨A,M,B,hA,hM,rfl⟩:∃A M B,A.length=a∧M.length=n∧L=A++(M++B):=
  ⟨L.take a,(L.drop a).take n,L.drop (a+n),by simp;omega,by simp;omega,by rw[←List.drop_drop,List.take_append_drop,List.take_append_drop]⟩
 subst hA;subst hM
 have e1:(A++(M++B)).take (A.length+o)=A++M.take o:=by rw[List.take_length_add_append,List.take_append_of_le_length (by omega)]
 have e2:(A++(M++B)).drop (A.length+o+us.length)=M.drop (o+us.length)++B:=by rw[Nat.add_assoc,List.drop_length_add_append,List.drop_append_of_le_length (by omega)]
 have e3:((A++(M++B)).drop A.length).take M.length=M:=by simp
 have hml:(M.take o++us++M.drop (o+us.length)).length=M.length:=by simp;omega
 have e4:(A++(M++B)).take (A.length+o)++us++(A++(M++B)).drop (A.length+o+us.length)=A++((M.take o++us++M.drop (o+us.length))++B):=by rw[e1,e2];simp
 rw[e3,e4]
 refine⟨by simp,?_,?_⟩
 ·rw[List.drop_left',List.take_left' hml];rfl
 ·rw[List.drop_length_add_append,List.drop_length_add_append,List.drop_left' hml,List.drop_left' rfl]
theorem BD(l us:List Value)(o m:Nat)(h:o+us.length≤m)(hm:m≤l.length):(l.take o++us++l.drop (o+us.length)).take m=(l.take m).take o++us++(l.take m).drop (o+us.length):=by
 have e1:(l.take m).take o=l.take o:=by rw[List.take_take,Nat.min_eq_left (by omega)]
 have e2:(l.take m).drop (o+us.length)=(l.drop (o+us.length)).take (m -(o+us.length)):=by rw[List.drop_take]
 rw[e1,e2,List.take_append,List.take_of_length_le (l:=l.take o++us) (by simp;omega)]
 congr 2
 simp;omega
theorem C8{P:Program}{gl:Ctx}{E:Env}{w:World}{hp:List (Option aI)}(hw:HW gl E w hp){b:Nat}{k k':aI}{p:Path}{x:AV}{us:List Value}(hb:hp[b]? =some (some k))(hv:(E.bt b).valid p)(hx:RC E w x us)
 (aaw:∀s,(E.bt b).sub p=some s→us.length=s.size) (h:la k p x=some k'):
 ∃g w',E.g b=some g∧(storeCells ⟨g,(E.bt b).off p,none⟩ us 0).run P w= .ok () w'∧w'.os=w.os∧Tp gl.md w w'∧w'.output=w.output∧w'.heap.size=w.heap.size∧(∀i,i≠g→w'.heap[i]? =w.heap[i]?)∧RB E w' b k':=by
 have hk:=hw.cj b k hb
 cases k with
 |
  var t v=>
  obtain⟨h1,h2,g,c,e,h3,h4,h5⟩:=hk
  rw[h1] at hv aaw ⊢
  simp only[la] at h
  split at h
  ·rename_i u hu
   split at h
   ·rename_i hconf
    cases h
    obtain⟨s,e1,e2,e3,e4⟩:=AV.jb hx h5 h2 hv aaw hu
    rw[←e2] at e3 e4
    have hst:=run_storeCells_at P g (t.off p) e us 0 c w h4 (by simpa using e3) (RC.one hx)
    refine⟨g,_,h3,hst,rfl,Tp.r rfl rfl,rfl,by simp,fun i hi=>setRow_other w g i _ hi,?_⟩
    have kp:bC E w E (w.setRow g (c.toList.take (t.off p+0)++us++c.toList.drop (t.off p+0+us.length)).toArray):=
     ⟨fun i hi=>setRow_other w g i _ (fun e=>hw.ik b _ g hb h3 (e▸hi)),fun _ h=>h⟩
    refine⟨h1,hconf,g,_,e,h3,setRow_heap w g c _ e _ h4,?_⟩
    have:=RC.mono kp (fun _ _=>⟨rfl,rfl,rfl⟩) e4
    simpa using this
   ·cases h
  ·cases h
 |
  row e bs t xs=>
  obtain⟨h1,h2,h3,h4,a,cap,h5,h6,h7⟩:=hk
  cases p with
  |nil=>simp[la] at h
  |
   cons ps p=>
   cases ps with
   |bZ k=>simp[la] at h
   |
    idx i=>
    rw[h1] at hv aaw ⊢
    have hi:i<xs.length:=hv.1
    rcases h7 with⟨_,_,h9⟩|⟨g,c,h7,h8,h9,h10,h11,h12⟩
    ·subst h9;simp at hi
    ·have hR:Rel w E.S (.arr xs.length t) (c.toList.take (xs.length*t.size)) xs:=⟨rfl,h12⟩
     simp only[la,IA] at h
     split at h
     ·rename_i y hy
      split at h
      ·rename_i z hz
       cases h
       have aL:eC (.arr xs.length t) xs (.idx i::p) x=some (.val (.arr xs.length t) (List.set xs i z)):=by
        simp only[eC]
        rw[hy];simp only;rw[hz]
       obtain⟨s,e1,e2,e3,e4⟩:=sk hx hR hv aL
       have hlen:xs.length*t.size≤c.toList.length:=by
        rw[show c.toList.length=c.size from Array.length_toList,h10];exact Nat.mul_le_mul_right _ h11
       have e3':=e3
       rw[List.length_take,Nat.min_eq_left hlen,←e2] at e3'
       have hst:=run_storeCells_at P g ((Ty.arr xs.length t).off (.idx i::p)) e us 0 c w h9 (by rw[show c.toList.length=c.size from Array.length_toList] at hlen;omega) (RC.one hx)
       refine⟨g,_,h7,hst,rfl,Tp.r rfl rfl,rfl,by simp,fun i hi=>setRow_other w g i _ hi,?_⟩
       have kp:bC E w E (w.setRow g (c.toList.take ((Ty.arr xs.length t).off (.idx i::p)+0)++us++c.toList.drop ((Ty.arr xs.length t).off (.idx i::p)+0+us.length)).toArray):=
        ⟨fun i hi=>setRow_other w g i _ (fun e=>hw.ik b _ g hb h7 (e▸hi)),fun _ h=>h⟩
       refine⟨by rw[List.length_set];exact h1,by rw[List.length_set];exact h2,by rw[List.length_set];exact h3,h4,a,cap,by rw[List.length_set];exact h5,h6,Or.inr ⟨g,_,h7,h8,setRow_heap w g c _ e _ h9,?_,by rw[List.length_set];exact h11,?_⟩⟩
       ·rw[←h10];simp only[List.size_toArray,List.length_append,List.length_take,List.length_drop]
        rw[show c.toList.length=c.size from Array.length_toList] at hlen ⊢;omega
       ·have:=RC.mono kp (fun _ _=>⟨rfl,rfl,rfl⟩) e4
        rw[←e2] at this
        have hh:=this.2
        simp only[Nat.add_zero,List.length_set]
        rw[BD _ _ _ _ (by omega) hlen]
        exact hh
      ·cases h
     ·cases h
 |
  bN e bs t xs i v=>
  obtain⟨h1,h2,h3,h4,h5,h6,g,cap,c,q1,q2,q3,q4,q5,q6,q7,q8,q9⟩:=hk
  rw[h1] at hv aaw ⊢
  unfold la at h
  split at h
  ·rename_i hk;cases hk
  ·rename_i hk;cases hk
  ·rename_i p hk
   cases hk
   split at h
   ·rename_i u hu
    split at h
    ·rename_i hconf
     cases h
     have hv':t.valid p:=hv
     obtain⟨s,e1,e2,e3,e4⟩:=AV.jb hx q8 h6 hv' aaw hu
     rw[←e2] at e3 e4
     rw[List.length_take,List.length_drop] at e3
     have hoff:(im i xs.length t).off (.bZ 1::p)=i*t.size+t.off p:=by simp[im,Ty.off,Ty.size]
     have hlen:i*t.size+t.size≤c.toList.length:=by
      rw[show c.toList.length=c.size from Array.length_toList,q5]
      calc i*t.size+t.size=(i+1)*t.size:=by rw[Nat.add_mul];omega
       _≤cap*t.size:=Nat.mul_le_mul_right _ (by omega)
     obtain⟨m1,m2,m3⟩:=wu (L:=c.toList) (us:=us) (a:=i*t.size) (o:=t.off p) (n:=t.size) (by omega) hlen
     have hst:=run_storeCells_at P g (i*t.size+t.off p) e us 0 c w q4 (by rw[show c.toList.length=c.size from Array.length_toList] at hlen;omega) (RC.one hx)
     rw[hoff]
     refine⟨g,_,q3,hst,rfl,Tp.r rfl rfl,rfl,by simp,fun i hi=>setRow_other w g i _ hi,?_⟩
     have kp:bC E w E (w.setRow g (c.toList.take (i*t.size+t.off p+0)++us++c.toList.drop (i*t.size+t.off p+0+us.length)).toArray):=
      ⟨fun i hi=>setRow_other w g i _ (fun e=>hw.ik b _ g hb q3 (e▸hi)),fun _ h=>h⟩
     refine⟨h1,h2,h3,h4,h5,hconf,g,cap,_,q1,q2,q3,setRow_heap w g c _ e _ q4,?_,q6,?_,?_,?_⟩
     ·rw[←q5];simp only[List.size_toArray,List.length_append,List.length_take,List.length_drop]
      rw[show c.toList.length=c.size from Array.length_toList] at hlen ⊢;omega
     ·simp only[Nat.add_zero]
      rw[m1]
      exact aQ.mono (fun _ _=>Rel.mono kp.w kp.S) q7
     ·simp only[Nat.add_zero] at kp ⊢
      rw[m2]
      exact RC.mono kp (fun _ _=>⟨rfl,rfl,rfl⟩) e4
     ·simp only[Nat.add_zero] at kp ⊢
      rw[show(i+1)*t.size=i*t.size+t.size from by rw[Nat.add_mul];omega] at q9 ⊢
      rw[m3]
      exact aQ.mono (fun _ _=>Rel.mono kp.w kp.S) q9
    ·cases h
   ·cases h
  ·rename_i hk;cases hk
  ·cases h
 |
  cm e bs t xs e2' f=>
  obtain⟨h1,h2,h3,h4,h5,g,cap,c,og,q1,q2,q3,q4,q5,q6,q7,q8⟩:=hk
  unfold la at h
  split at h
  ·rename_i hk;cases hk
  ·rename_i hk;cases hk
  ·rename_i hk;cases hk
  ·rename_i i v p hk
   cases hk
   split at h
   ·rename_i u hu
    split at h
    ·rename_i hconf
     cases h
     obtain⟨hi,hcv⟩:=h5 i v rfl
     obtain⟨u',r1,r2,_⟩:=q8 i (xs.getD i t.aB) (by rw[List.getD_eq_getElem?_getD,List.getElem?_eq_getElem hi];rfl)
     obtain⟨r0,r2⟩:=r2 v rfl
     rw[h1] at hv aaw ⊢
     have hv':t.valid p:=hv
     have hc:c.toList[i]? =some u':=by simpa using r1
     have hmid:(c.toList.drop (i*t.size)).take t.size= [u']:=by
      rw[h2,Nat.mul_one]
      obtain⟨hlt,hc⟩:=List.getElem?_eq_some_iff.1 hc
      rw[List.drop_eq_getElem_cons hlt,hc];rfl
     rw[←hmid] at r2
     obtain⟨s,e1,e2,e3,e4⟩:=AV.jb hx r2 hcv hv' aaw hu
     rw[←e2] at e3 e4
     rw[List.length_take,List.length_drop] at e3
     have hoff:(k8 xs.length t (some (i,v))).off (.bZ 1::p)=i*t.size+t.off p:=by simp[k8,im,Ty.off,Ty.size]
     have hlen:i*t.size+t.size≤c.toList.length:=by
      rw[show c.toList.length=c.size from Array.length_toList,q5,h2];omega
     obtain⟨m1,m2,m3⟩:=wu (L:=c.toList) (us:=us) (a:=i*t.size) (o:=t.off p) (n:=t.size) (by omega) hlen
     have hst:=run_storeCells_at P g (i*t.size+t.off p) e us 0 c w q4 (by rw[show c.toList.length=c.size from Array.length_toList] at hlen;omega) (RC.one hx)
     rw[hoff]
     refine⟨g,_,q3,hst,rfl,Tp.r rfl rfl,rfl,by simp,fun i hi=>setRow_other w g i _ hi,?_⟩
     have kp:bC E w E (w.setRow g (c.toList.take (i*t.size+t.off p+0)++us++c.toList.drop (i*t.size+t.off p+0+us.length)).toArray):=
      ⟨fun i hi=>setRow_other w g i _ (fun e=>hw.ik b _ g hb q3 (e▸hi)),fun _ h=>h⟩
     simp only[Nat.add_zero] at kp ⊢
     rw[h2,Nat.mul_one] at m1 m2 m3 kp hlen ⊢
     have hsz:(c.toList.take (i+t.off p)++us++c.toList.drop (i+t.off p+us.length)).length=c.toList.length:=by
      rw[show c.toList.length=c.size from Array.length_toList] at hlen ⊢
      simp only[List.length_append,List.length_take,List.length_drop,Array.length_toList];omega
     refine⟨h1,h2,h3,h4,fun i' v' hv'=>by cases hv';exact⟨hi,hconf⟩,g,cap,_,og,q1,q2,q3,setRow_heap w g c _ e _ q4,?_,q6,q7,?_⟩
     ·rw[←q5,List.size_toArray,hsz];exact Array.length_toList
     ·intro i' x' hx'
      obtain⟨z,s1,s2,s3⟩:=q8 i' x' hx'
      by_cases e:i'=i
      ·subst e
       rw[h2,Nat.mul_one] at e4 hmid
       rw[←m2] at e4
       have hlt:i'<(c.toList.take (i'+t.off p)++us++c.toList.drop (i'+t.off p+us.length)).length:=by rw[hsz];omega
       have e5:((c.toList.take (i'+t.off p)++us++c.toList.drop (i'+t.off p+us.length)).drop i').take 1= [(c.toList.take (i'+t.off p)++us++c.toList.drop (i'+t.off p+us.length))[i']]:=by
        rw[List.drop_eq_getElem_cons hlt];rfl
       rw[e5] at e4
       refine⟨(c.toList.take (i'+t.off p)++us++c.toList.drop (i'+t.off p+us.length))[i'],by rw[List.getElem?_toArray,List.getElem?_eq_getElem hlt],fun v' hv'=>?_,fun hv'=>absurd rfl (hv' u)⟩
       cases hv'
       exact⟨r0,RC.mono kp (fun _ _=>⟨rfl,rfl,rfl⟩) e4⟩
      ·refine⟨z,?_,fun v' hv'=>by cases hv';exact absurd rfl e,fun _=>?_⟩
       ·have s1:c.toList[i']? =some z:=by simpa using s1
        have hnew:(c.toList.take (i+t.off p)++us++c.toList.drop (i+t.off p+us.length))[i']? =some z:=by
         rcases Nat.lt_or_gt_of_ne e with hl|hl
         ·have a1:((c.toList.take (i+t.off p)++us++c.toList.drop (i+t.off p+us.length)).take i)[i']? =(c.toList.take i)[i']? :=by rw[m1]
          rw[List.getElem?_take,if_pos hl,List.getElem?_take,if_pos hl] at a1
          rw[a1];exact s1
         ·have a1:((c.toList.take (i+t.off p)++us++c.toList.drop (i+t.off p+us.length)).drop (i+1))[i' -(i+1)]? =(c.toList.drop (i+1))[i' -(i+1)]? :=by rw[m3]
          rw[List.getElem?_drop,List.getElem?_drop,show i+1+(i' -(i+1))=i' from by omega] at a1
          rw[a1];exact s1
        simpa using hnew
       ·have s4:=s3 (fun v' hv'=>by cases hv';exact e rfl)
        refine cE.mono kp.w kp.S (fun gg hgg=>?_) s4
        exact setRow_other w g gg _ (q7.own i' gg hgg).2
    ·cases h
   ·cases h
  ·cases h
 |_=>simp[la] at h
def tT(G:bH)(hb:Nat→Option aI)(t:TypeId)(x y:AV):Option (Nat×aI):=
 match x,G.at t with
 |
  .ptr b p,some td=>match hb b with
  |
   some k=>match(fN k).sub p with
   |some s=>if Ty.same s td.ty&&Nat.beq y.size td.ty.size then(la k p y).map fun k'=>(b,k') else none
   |none=>none
  |none=>none
 |_,_=>none
theorem Own.j0{hp:List (Option aI)}{E:Env}{b:Nat}{k k':aI}(hb:hp[b]? =some (some k)){i:Nat}:Own (hp.set b (some k')) E i→Own hp E i:=Own.set hb
theorem wv{P:Program}{G:bH}(T:aY P G){gl:Ctx}{σ:St}{E:Env}{a:Act}{w:World}(h:bO gl σ E a w){hb:Nat→Option aI}(hB:HB hb σ.hp){t:TypeId}{x y:AV}{vx vy:Value}(hx:RV E w x vx)(hy:cd E w y vy){b:Nat}{k':aI}
 (hev:tT G hb t x y=some (b,k')):
 ∃w',(Instr.storeAt t vx vy).run P w= .ok () w'∧bO gl (σ.cj b (some k')) E a w'∧Ext gl.md (Own σ.hp E) E w (Own (σ.cj b (some k')).hp E) E w':=by
 unfold tT at hev
 split at hev
 ·rename_i b' p td ht
  split at hev
  ·rename_i k hk
   split at hev
   ·rename_i s hs
    split at hev
    ·rename_i hc
     simp only[Bool.and_eq_true] at hc
     simp only[Option.map_eq_some_iff] at hev
     obtain⟨k2,hk2,e⟩:=hev
     cases e
     have:=Ty.aA hc.1;subst this
     obtain⟨g,hg,e,hv⟩:=RV.atom rfl hx
     simp at e;subst e
     have hkb:=h.hw.cj b k (hB b k hk)
     have hbt:E.bt b=fN k:=by
      refine RB.bt hkb ?_
      cases k<;>first|rfl|simp[la] at hk2
     have hyc:=hy.cells
     have hlen:=RC.len hyc
     have hsz:=Nat.eq_of_beq_eq_true hc.2
     obtain⟨g',w',h1,h2,h3,h4,h5,h6,h7,h8⟩:=C8 (P:=P) h.hw (hB b k hk) hv hyc (fun s' hs'=>by rw[hbt,hs] at hs';cases hs';omega) hk2
     rw[hg] at h1;cases h1
     have aao:(Instr.storeAt t (.pointer (some ⟨g,(E.bt b).off p,none⟩)) vy).run P w= .ok () w':=by
      have:vy.cells.size=td.ty.size:=by rw[←hsz,←hlen,Array.length_toList]
      simp[Instr.storeAt,Instr.sureAddr,storeVar,T.size ht,this,h2]
     have kp:bC E w E w':=⟨fun i hi=>h7 i (fun e=>h.hw.ik b k g (hB b k hk) hg (e▸hi)),fun _ h=>h⟩
     have hhw:=h.hw.write (w':=w') (k':=k') (hB b k hk) h6 (fun i hi=>h7 i (fun e=>hi (e▸hg))) h8
     refine⟨w',aao,h.carry kp (fun _ _=>⟨rfl,rfl,rfl⟩) hhw,h3,h4,h5,by omega,?_,fun _ h=>h,fun _ h=>Or.inl h,fun i hi=>Or.inl (Own.set (hB b k hk) hi),fun _ _=>⟨rfl,rfl,rfl⟩⟩
     intro i hi ho
     exact h7 i (fun e=>ho ⟨b,k,hB b k hk,Or.inl (e▸hg)⟩)
    ·cases hev
   ·cases hev
  ·cases hev
 ·cases hev
end Go.Ax
namespace Go.Ax
structure aS where
 rt:List Nat
 rb:List Nat
 fr:List Nat
 dst:Option Nat
 v:AV
 hw:List (Nat×Option aI)
def aL(hp:List (Option aI)):List (Nat×Option aI)→List (Option aI)
 |[]=>hp
 |(b,k)::l=>aL (hp.set b k) l
def St.app(σ:St)(f:aS):St:=({σ with hp:=aL σ.hp f.hw}:St).put f.dst f.v
structure gR(σ σ':St)(rt rb:List Nat):Prop where
 tl:σ'.tm.length=σ.tm.length
 hl:σ'.hp.length=σ.hp.length
 tm:∀t∈rt,σ'.tm[t]? =σ.tm[t]?
 hp:∀b∈rb,σ'.hp[b]? =σ.hp[b]?
theorem gR.refl(σ:St)(rt rb:List Nat):gR σ σ rt rb:=⟨rfl,rfl,fun _ _=>rfl,fun _ _=>rfl⟩
def rO(P:Program)(gl:Ctx)(ops:Array Oper)(i:Nat)(f:aS)(σ:St):Prop:=
 ∀σ',gR σ σ' f.rt f.rb→(∀d∈f.fr,σ'.fresh d)→∀E a w,bO gl σ' E a w→∀(K:Act→World→Prop)(Q:Exit→Act→World→Prop),
  (∀E' a' w',bO gl (σ'.app f) E' a' w'→Ext gl.md (Own σ'.hp E) E w (Own (σ'.app f).hp E') E' w'→K a' w')→wpOpIn (Wd gl) 0 P ops Q i K a w
def bS(OK:Nat→aS→St→Prop):Nat→List aS→St→St→Prop
 |_,[],σ,σ'=>σ'=σ
 |i,f::fs,σ,σ'=>OK i f σ∧(∀d∈f.fr,σ.fresh d)∧bS OK (i+1) fs (σ.app f) σ'
abbrev me(P:Program)(gl:Ctx)(ops:Array Oper):Nat→List aS→St→St→Prop:=bS (rO P gl ops)
theorem bS.mono{OK OK':Nat→aS→St→Prop}(hm:∀i f σ,OK i f σ→OK' i f σ):∀{fs:List aS}{i:Nat}{σ σ':St},bS OK i fs σ σ'→bS OK' i fs σ σ'
 |[],_,_,_,h=>h
 |_::_,_,_,_,⟨h1,h2,h3⟩=>⟨hm _ _ _ h1,h2,h3.mono hm⟩
theorem iN:∀(l:List (Nat×Option aI))(hp:List (Option aI)),(aL hp l).length=hp.length
 |[],_=>rfl
 |(b,k)::l,hp=>by rw[aL,iN l,List.length_set]
def wrote:List (Nat×Option aI)→List Nat
 |[]=>[]
 |(b,_)::l=>b::wrote l
theorem dr{b:Nat}:∀{l:List (Nat×Option aI)}{hp:List (Option aI)},b∉wrote l→(aL hp l)[b]? =hp[b]?
 |[],_,_=>rfl
 |
  (c,k)::l,hp,h=>by
  simp only[wrote,List.mem_cons,not_or] at h
  rw[aL,dr h.2,List.getElem?_set,if_neg (fun e=>h.1 e.symm)]
theorem nr(σ:St)(f:aS):(σ.app f).tm.length=σ.tm.length:=by
 unfold St.app St.put;split<;>simp
theorem nu(σ:St)(f:aS):(σ.app f).hp.length=σ.hp.length:=by
 unfold St.app St.put;split<;>simp[iN]
theorem eE(σ:St)(f:aS):(σ.app f).hp=aL σ.hp f.hw:=by
 unfold St.app St.put;split<;>rfl
theorem qm(σ:St)(f:aS):(σ.app f).df=σ.df:=by
 unfold St.app St.put;split<;>rfl
theorem fk{σ:St}{f:aS}{t:Nat}(h:f.dst≠some t):(σ.app f).tm[t]? =σ.tm[t]? :=by
 unfold St.app St.put
 split
 ·rename_i d hd
  simp only[List.getElem?_set]
  rw[if_neg (fun e=>h (by rw[hd,e]))]
 ·rfl
structure tU(gl:Ctx)(DS WB:List Nat)(σ0:St)(E0:Env)(w0:World)(σ:St)(E:Env)(w:World):Prop where
 df:σ.df=σ0.df
 tl:σ.tm.length=σ0.tm.length
 hl:σ.hp.length=σ0.hp.length
 tm:∀t,t∉DS→σ.tm[t]? =σ0.tm[t]?
 hp:∀b,b∉WB→σ.hp[b]? =σ0.hp[b]?
 ext:Ext gl.md (Own σ0.hp E0) E0 w0 (Own σ.hp E) E w
theorem tU.refl{gl:Ctx}{DS WB:List Nat}(σ:St)(E:Env)(w:World):tU gl DS WB σ E w σ E w:=⟨rfl,rfl,rfl,fun _ _=>rfl,fun _ _=>rfl,Ext.refl _ _ _⟩
def Np(DS WB:List Nat)(f:aS):Prop:=(∀d,f.dst=some d→d∈DS)∧∀b∈wrote f.hw,b∈WB
theorem tU.app{gl:Ctx}{DS WB:List Nat}{σ0 σ:St}{E0 E E':Env}{w0 w w':World}{f:aS}(h:tU gl DS WB σ0 E0 w0 σ E w)(hf:Np DS WB f)(hx:Ext gl.md (Own σ.hp E) E w (Own (σ.app f).hp E') E' w'):tU gl DS WB σ0 E0 w0 (σ.app f) E' w' where
 df:=(qm _ _).trans h.df
 tl:=(nr _ _).trans h.tl
 hl:=(nu _ _).trans h.hl
 tm:=fun t ht=>(fk (fun e=>ht (hf.1 t e))).trans (h.tm t ht)
 hp:=fun b hb=>by rw[eE,dr (fun e=>hb (hf.2 b e))];exact h.hp b hb
 ext:=h.ext.trans hx
def JA(P:Program)(gl:Ctx)(ops:Array Oper)(Q:Exit→Act→World→Prop)(V:St→Env→World→Prop)(i:Nat)(f:aS)(σ:St):Prop:=
 ∀σ',gR σ σ' f.rt f.rb→(∀d∈f.fr,σ'.fresh d)→∀E a w,bO gl σ' E a w→V σ' E w→∀(K:Act→World→Prop),
  (∀E' a' w',bO gl (σ'.app f) E' a' w'→Ext gl.md (Own σ'.hp E) E w (Own (σ'.app f).hp E') E' w'→K a' w')→wpOpIn (Wd gl) 0 P ops Q i K a w
theorem rO.q{P:Program}{gl:Ctx}{ops:Array Oper}{Q:Exit→Act→World→Prop}{V:St→Env→World→Prop}{i:Nat}{f:aS}{σ:St}(h:rO P gl ops i f σ):JA P gl ops Q V i f σ:=
 fun σ' h1 h2 E a w hg _ K hk=>h σ' h1 h2 E a w hg K Q hk
section
variable{P:Program} {gl:Ctx} {ops:Array Oper} {Q:Exit→Act→World→Prop} {DS WB:List Nat} {σ0:St} {E0:Env} {w0:World}
theorem C9.wp{σ':St}(hq:∀E' a' w',bO gl σ' E' a' w'→tU gl DS WB σ0 E0 w0 σ' E' w'→Q .normal a' w'):∀{fs:List aS}{i:Nat}{σ:St},(∀f∈fs,Np DS WB f)→bS (JA P gl ops Q (tU gl DS WB σ0 E0 w0)) i fs σ σ'→∀{E:Env}{a:Act}{w:World},bO gl σ E a w→tU gl DS WB σ0 E0 w0 σ E w→
 wpOpsIn (Wd gl) 0 P ops Q ((List.range fs.length).map (·+i)) a w
 |
  [],i,σ,_,h,E,a,w,hg,hv=>by
  simp only[bS] at h;subst h
  exact hq E a w hg hv
 |
  f::fs,i,σ,hi,⟨h1,h2,h3⟩,E,a,w,hg,hv=>by
  have e:(List.range (f::fs).length).map (·+i)=i::(List.range fs.length).map (·+(i+1)):=by
   rw[List.length_cons,List.range_succ_eq_map]
   simp only[List.map_cons,Nat.zero_add,List.map_map]
   congr 1
   apply List.map_congr_left
   intro x _
   simp;omega
  rw[e,wpOpsIn_cons]
  refine h1 σ (gR.refl _ _ _) h2 E a w hg hv _ ?_
  intro E' a' w' hg' hx
  exact C9.wp hq (fun g hm=>hi g (List.mem_cons_of_mem _ hm)) h3 hg' (hv.app (hi f (List.mem_cons_self ..)) hx)
end
def dstsOf(fs:List aS):List Nat:=fs.flatMap fun f=>f.dst.toList
def je(fs:List aS):List Nat:=fs.flatMap fun f=>wrote f.hw
theorem Da{fs:List aS}:∀f∈fs,Np (dstsOf fs) (je fs) f:=fun f hf=>
 ⟨fun d hd=>List.mem_flatMap.2 ⟨f,hf,by simp[hd]⟩,fun b hb=>List.mem_flatMap.2 ⟨f,hf,hb⟩⟩
theorem nV{P:Program}{gl:Ctx}{ops:Array Oper}{id:Nat}{fs:List aS}{σ σ':St}{Q:Exit→Act→World→Prop}{E:Env}{a:Act}{w:World}(hn:fs.length=ops.size)(h:bS (JA P gl ops Q (tU gl (dstsOf fs) (je fs) σ E w)) 0 fs σ σ')(hg:bO gl σ E a w)
 (hq:∀E' a' w',bO gl σ' E' a' w'→tU gl (dstsOf fs) (je fs) σ E w σ' E' w'→Q .normal a' w'):(Code.region id ops false).wpIn (Wd gl) 0 P Q a w:=by
 refine wpIn_region ?_
 have:=C9.wp hq Da h hg (tU.refl _ _ _)
 rw[hn] at this
 simpa using this
theorem ye{P:Program}{gl:Ctx}{ops:Array Oper}{id:Nat}{fs:List aS}{σ σ':St}(hn:fs.length=ops.size)(h:me P gl ops 0 fs σ σ'){Q:Exit→Act→World→Prop}{E:Env}{a:Act}{w:World}(hg:bO gl σ E a w)
 (hq:∀E' a' w',bO gl σ' E' a' w'→Ext gl.md (Own σ.hp E) E w (Own σ'.hp E') E' w'→Q .normal a' w'):(Code.region id ops false).wpIn (Wd gl) 0 P Q a w:=
 nV hn (h.mono fun _ _ _=>rO.q) hg (fun E' a' w' h1 h2=>hq E' a' w' h1 h2.ext)
theorem fD{b:Nat}:∀{l:List (Nat×Option aI)}{hp hp':List (Option aI)},hp.length=hp'.length→hp[b]? =hp'[b]? →(aL hp l)[b]? =(aL hp' l)[b]?
 |[],_,_,_,h=>h
 |
  (c,k)::l,hp,hp',hl,h=>by
  rw[aL,aL]
  refine fD (by simp[hl]) ?_
  rw[List.getElem?_set,List.getElem?_set,hl,h]
theorem qn{b:Nat}:∀{l:List (Nat×Option aI)}{hp hp':List (Option aI)},hp.length=hp'.length→b∈wrote l→(aL hp l)[b]? =(aL hp' l)[b]?
 |[],_,_,_,h=>by cases h
 |
  (c,k)::l,hp,hp',hl,h=>by
  rw[aL,aL]
  by_cases hb:b∈wrote l
  ·exact qn (by simp[hl]) hb
  ·simp only[wrote,List.mem_cons] at h
   have e:b=c:=h.resolve_right hb
   subst e
   rw[dr hb,dr hb,List.getElem?_set,List.getElem?_set,hl]
   simp
theorem wx{σ σ':St}{f:aS}{t:Nat}(hl:σ.tm.length=σ'.tm.length)(h:σ.tm[t]? =σ'.tm[t]?):(σ.app f).tm[t]? =(σ'.app f).tm[t]? :=by
 unfold St.app St.put
 split
 ·simp only[List.getElem?_set]
  rw[hl,h]
 ·exact h
theorem tV{σ σ':St}{f:aS}{t:Nat}(hl:σ.tm.length=σ'.tm.length)(h:f.dst=some t):(σ.app f).tm[t]? =(σ'.app f).tm[t]? :=by
 unfold St.app St.put
 rw[h]
 simp only[List.getElem?_set]
 rw[hl];simp
def cI(X:Nat→Bool):Nat→List aS→St→St
 |_,[],σ=>σ
 |i,f::fs,σ=>cI X (i+1) fs (if X i then σ.app f else σ)
theorem oT(X:Nat→Bool):∀(fs:List aS)(i:Nat)(σ:St),(cI X i fs σ).tm.length=σ.tm.length
 |[],_,_=>rfl
 |f::fs,i,σ=>by rw[cI,oT X fs];split<;>simp[nr]
theorem oU(X:Nat→Bool):∀(fs:List aS)(i:Nat)(σ:St),(cI X i fs σ).hp.length=σ.hp.length
 |[],_,_=>rfl
 |f::fs,i,σ=>by rw[cI,oU X fs];split<;>simp[nu]
theorem tW(X:Nat→Bool):∀(fs:List aS)(i:Nat)(σ:St),(cI X i fs σ).df=σ.df
 |[],_,_=>rfl
 |f::fs,i,σ=>by rw[cI,tW X fs];split<;>simp[qm]
theorem oV{X Y:Nat→Bool}{t:Nat}:∀{fs:List aS}{i:Nat}{σ σ':St},σ.tm.length=σ'.tm.length→σ.tm[t]? =σ'.tm[t]? →(∀(k:Nat)(f:aS),fs[k]? =some f→X (i+k)≠Y (i+k)→f.dst≠some t)→
 (cI X i fs σ).tm[t]? =(cI Y i fs σ').tm[t]?
 |[],_,_,_,_,h,_=>h
 |
  f::fs,i,σ,σ',hl,h,hd=>by
  rw[cI,cI]
  refine oV ?_ ?_ (fun k g hk hne=>hd (k+1) g (by simpa using hk) (by rw[show i+(k+1)=i+1+k from by omega];exact hne))
  ·split<;>split<;>simp[nr,hl]
  ·by_cases hx:X i=Y i
   ·rw[hx];split
    ·exact wx hl h
    ·exact h
   ·have:=hd 0 f rfl (by simpa using hx)
    split<;>split<;>simp_all[fk]
theorem oW{X Y:Nat→Bool}{b:Nat}:∀{fs:List aS}{i:Nat}{σ σ':St},σ.hp.length=σ'.hp.length→σ.hp[b]? =σ'.hp[b]? →(∀(k:Nat)(f:aS),fs[k]? =some f→X (i+k)≠Y (i+k)→b∉wrote f.hw)→
 (cI X i fs σ).hp[b]? =(cI Y i fs σ').hp[b]?
 |[],_,_,_,_,h,_=>h
 |
  f::fs,i,σ,σ',hl,h,hd=>by
  rw[cI,cI]
  refine oW ?_ ?_ (fun k g hk hne=>hd (k+1) g (by simpa using hk) (by rw[show i+(k+1)=i+1+k from by omega];exact hne))
  ·split<;>split<;>simp[nu,hl]
  ·by_cases hx:X i=Y i
   ·rw[hx];split
    ·rw[eE,eE];exact fD hl h
    ·exact h
   ·have:=hd 0 f rfl (by simpa using hx)
    split<;>split<;>simp_all[eE,dr]
theorem mf{X:Nat→Bool}{t:Nat}{fi:aS}(hw:fi.dst=some t):∀{fs:List aS}{i j:Nat}{σ σ':St},σ.tm.length=σ'.tm.length→fs[j]? =some fi→X (i+j)=true→(∀(k:Nat)(f:aS),fs[k]? =some f→j<k→X (i+k)=true→f.dst≠some t)→
 (cI X i fs σ).tm[t]? =(σ'.app fi).tm[t]?
 |[],_,_,_,_,_,h,_,_=>by simp at h
 |
  f::fs,i,0,σ,σ',hl,hf,hx,hd=>by
  simp at hf;subst hf
  rw[cI]
  simp only[Nat.add_zero] at hx
  rw[hx]
  have:(cI X (i+1) fs (σ.app f)).tm[t]? =(cI (fun _=>false) (i+1) fs (σ'.app f)).tm[t]? :=by
   refine oV (by simp[nr,hl]) (tV hl hw) (fun k g hk hne=>?_)
   refine hd (k+1) g (by simpa using hk) (by omega) ?_
   rw[show i+(k+1)=i+1+k from by omega]
   simpa using hne
  rw[if_pos rfl,this]
  have hid:∀(fs:List aS)(i:Nat)(σ:St),cI (fun _=>false) i fs σ=σ:=by
   intro fs
   induction fs with
   |nil=>intro i σ;rfl
   |cons f fs ih=>intro i σ;rw[cI];simp only[Bool.false_eq_true,if_false];exact ih _ _
  rw[hid]
 |
  f::fs,i,j+1,σ,σ',hl,hf,hx,hd=>by
  rw[cI]
  refine mf hw (j:=j) ?_ (by simpa using hf) (by rw[show i+1+j=i+(j+1) from by omega];exact hx) (fun k g hk hjk hxk=>hd (k+1) g (by simpa using hk) (by omega) (by rw[show i+(k+1)=i+1+k from by omega];exact hxk))
  split<;>simp[nr,hl]
theorem mh{X:Nat→Bool}{b:Nat}{fi:aS}(hw:b∈wrote fi.hw):∀{fs:List aS}{i j:Nat}{σ σ':St},σ.hp.length=σ'.hp.length→fs[j]? =some fi→X (i+j)=true→(∀(k:Nat)(f:aS),fs[k]? =some f→j<k→X (i+k)=true→b∉wrote f.hw)→
 (cI X i fs σ).hp[b]? =(σ'.app fi).hp[b]?
 |[],_,_,_,_,_,h,_,_=>by simp at h
 |
  f::fs,i,0,σ,σ',hl,hf,hx,hd=>by
  simp at hf;subst hf
  rw[cI]
  simp only[Nat.add_zero] at hx
  rw[hx]
  have:(cI X (i+1) fs (σ.app f)).hp[b]? =(cI (fun _=>false) (i+1) fs (σ'.app f)).hp[b]? :=by
   refine oW (by simp[nu,hl]) (by rw[eE,eE];exact qn hl hw) (fun k g hk hne=>?_)
   refine hd (k+1) g (by simpa using hk) (by omega) ?_
   rw[show i+(k+1)=i+1+k from by omega]
   simpa using hne
  rw[if_pos rfl,this]
  have hid:∀(fs:List aS)(i:Nat)(σ:St),cI (fun _=>false) i fs σ=σ:=by
   intro fs
   induction fs with
   |nil=>intro i σ;rfl
   |cons f fs ih=>intro i σ;rw[cI];simp only[Bool.false_eq_true,if_false];exact ih _ _
  rw[hid]
 |
  f::fs,i,j+1,σ,σ',hl,hf,hx,hd=>by
  rw[cI]
  refine mh hw (j:=j) ?_ (by simpa using hf) (by rw[show i+1+j=i+(j+1) from by omega];exact hx) (fun k g hk hjk hxk=>hd (k+1) g (by simpa using hk) (by omega) (by rw[show i+(k+1)=i+1+k from by omega];exact hxk))
  split<;>simp[nu,hl]
end Go.Ax
namespace Go.Ax
def JB:Option aI→List Nat
 |some k=>k.ids
 |none=>[]
def zZ:List (Nat×Option aI)→List Nat
 |[]=>[]
 |(_,k)::l=>JB k++zZ l
def aS.IB(f:aS):List Nat:=f.v.ids++zZ f.hw
theorem jf{σ:St}{d:Nat}:d∉σ.ids↔(∀(i:Nat)(x:AV),σ.tm[i]? =some x→d∉x.ids)∧(∀x∈σ.df,d∉x.ids)∧(∀(i:Nat)(k:aI),σ.hp[i]? =some (some k)→d∉k.ids):=by
 constructor
 ·intro h
  exact⟨fun i x hx hm=>h (St.xZ hx d hm),fun x hx hm=>h (St.CZ hx d hm),fun i k hk hm=>h (St.tR hk d hm)⟩
 ·rintro⟨h1,h2,h3⟩ hm
  simp only[St.ids,List.mem_append,List.mem_flatMap,List.mem_filterMap] at hm
  rcases hm with(⟨x,hx,hd⟩|⟨x,hx,hd⟩)|⟨k,⟨o,ho,e⟩,hd⟩
  ·obtain⟨i,hi⟩:=List.getElem?_of_mem hx
   exact h1 i x hi hd
  ·exact h2 x hx hd
  ·simp at e;subst e
   obtain⟨i,hi⟩:=List.getElem?_of_mem ho
   exact h3 i k hi hd
theorem wy{d:Nat}:∀{l:List (Nat×Option aI)}{hp:List (Option aI)},(∀(i:Nat)(k:aI),hp[i]? =some (some k)→d∉k.ids)→d∉zZ l→∀(i:Nat)(k:aI),(aL hp l)[i]? =some (some k)→d∉k.ids
 |[],_,h,_=>h
 |
  (b,o)::l,hp,h,hm=>by
  simp only[zZ,List.mem_append,not_or] at hm
  refine wy (l:=l) (hp:=hp.set b o) ?_ hm.2
  intro i k hk
  rw[List.getElem?_set] at hk
  split at hk
  ·split at hk
   ·simp at hk;subst hk;exact hm.1
   ·cases hk
  ·exact h i k hk
theorem BE{σ:St}{f:aS}{d:Nat}(h:σ.fresh d)(hm:d∉f.IB)(hw:d∉wrote f.hw):(σ.app f).fresh d:=by
 simp only[aS.IB,List.mem_append,not_or] at hm
 obtain⟨h1,h2,h3⟩:=h
 rw[jf] at h1
 obtain⟨a1,a2,a3⟩:=h1
 refine⟨?_,?_,h3⟩
 ·rw[jf]
  refine⟨?_,?_,?_⟩
  ·intro i x hx
   by_cases e:f.dst=some i
   ·unfold St.app St.put at hx
    rw[e] at hx
    simp only[List.getElem?_set] at hx
    simp only[if_true] at hx
    split at hx
    ·cases hx;exact hm.1
    ·cases hx
   ·rw[fk e] at hx;exact a1 i x hx
  ·rw[qm];exact a2
  ·rw[eE];exact wy a3 hm.2
 ·intro k
  rw[eE,dr hw];exact h2 k
theorem qo{X:Nat→Bool}{d:Nat}:∀{fs:List aS}{i:Nat}{σ:St},σ.fresh d→(∀(k:Nat)(f:aS),fs[k]? =some f→X (i+k)=true→d∉f.IB∧d∉wrote f.hw)→(cI X i fs σ).fresh d
 |[],_,_,h,_=>h
 |
  f::fs,i,σ,h,hd=>by
  rw[cI]
  refine qo ?_ (fun k g hk hx=>hd (k+1) g (by simpa using hk) (by rw[show i+(k+1)=i+1+k from by omega];exact hx))
  split
  ·rename_i hx
   have:=hd 0 f rfl (by simpa using hx)
   exact BE h this.1 this.2
  ·exact h
def LF(acc:List Nat)(o:Oper):Nat:=
 o.after.toList.foldl (fun s e=>if Region.binds .any e then s ||| 2^e.on ||| acc.getD e.on 0 else s) 0
def nv:List Oper→List Nat→List Nat
 |[],acc=>acc
 |o::l,acc=>nv l (acc++[LF acc o])
theorem qp{X:Nat→Bool}{acc:List Nat}(hacc:∀j k,X j=true→(acc.getD j 0).testBit k=true→X k=true):∀(l:List Edge)(s:Nat),(∀e∈l,Region.binds .any e=true→X e.on=true)→(∀k,s.testBit k=true→X k=true)→
 ∀k,(l.foldl (fun s e=>if Region.binds .any e then s ||| 2^e.on ||| acc.getD e.on 0 else s) s).testBit k=true→X k=true
 |[],s,_,hs=>hs
 |
  e::l,s,hl,hs=>by
  refine qp hacc l _ (fun e' he'=>hl e' (List.mem_cons_of_mem _ he')) ?_
  intro k hk
  simp only at hk
  split at hk
  ·rename_i hb
   have hX:=hl e (List.mem_cons_self ..) hb
   simp only[Nat.testBit_or,Bool.or_eq_true,Nat.testBit_two_pow] at hk
   rcases hk with(hk|hk)|hk
   ·exact hs k hk
   ·have:=of_decide_eq_true hk;subst this;exact hX
   ·exact hacc e.on k hX hk
  ·exact hs k hk
theorem sn{X:Nat→Bool}:∀(l:List Oper)(acc:List Nat),(∀j k,X j=true→(acc.getD j 0).testBit k=true→X k=true)→
 (∀j o,l[j]? =some o→X (acc.length+j)=true→∀e∈o.after.toList,Region.binds .any e=true→X e.on=true)→
 ∀j k,X j=true→((nv l acc).getD j 0).testBit k=true→X k=true
 |[],_,h,_=>h
 |
  o::l,acc,h,hc=>by
  refine sn l _ ?_ ?_
  ·intro j k hj hk
   rw[List.getD_eq_getElem?_getD,List.getElem?_append] at hk
   split at hk
   ·rw[←List.getD_eq_getElem?_getD] at hk;exact h j k hj hk
   ·by_cases e:j=acc.length
    ·subst e
     simp at hk
     exact qp h o.after.toList 0 (hc 0 o rfl (by simpa using hj)) (fun k hk=>by simp at hk) k hk
    ·rw[List.getElem?_eq_none (by simp;omega)] at hk
     simp at hk
  ·intro j o' ho hx
   exact hc (j+1) o' (by simpa using ho) (by rw[List.length_append,List.length_singleton] at hx;rw[show acc.length+(j+1)=acc.length+1+j from by omega];exact hx)
def eS:List Nat→List Nat→Bool
 |[],_=>false
 |x::l,m=>cq x m||eS l m
theorem j4{d:Nat}:∀{l:List Nat},d∈l→cq d l=true
 |
  x::l,h=>by
  simp only[cq,Bool.or_eq_true]
  cases h with
  |head=>exact Or.inl (Nat.beq_refl d)
  |tail _ h=>exact Or.inr (j4 h)
theorem mi{d:Nat}:∀{l m:List Nat},d∈l→d∈m→eS l m=true
 |
  x::l,m,h,hm=>by
  simp only[eS,Bool.or_eq_true]
  cases h with
  |head=>exact Or.inl (j4 hm)
  |tail _ h=>exact Or.inr (mi h hm)
def aS.wt(f:aS):List Nat:=f.dst.toList
def aS.wb(f:aS):List Nat:=wrote f.hw++f.fr
def mj(f g:aS):Bool:=
 eS f.wt (g.rt++g.wt)||eS f.rt g.wt||eS f.wb (g.rb++g.wb)||eS f.rb g.wb||eS f.fr g.IB
def j5(masks:Nat)(g:aS):Nat→List aS→Bool
 |_,[]=>true
 |i,f::fs=>(!mj f g||masks.testBit i)&& !eS g.fr (f.IB++wrote f.hw)&&j5 masks g (i+1) fs
def ml(masks:List Nat)(all:List aS):Nat→List aS→Bool
 |_,[]=>true
 |j,g::fs=>j5 (masks.getD j 0) g 0 (all.take j)&&ml masks all (j+1) fs
theorem nW{m:Nat}{g:aS}:∀{fs:List aS}{i:Nat},j5 m g i fs=true→∀k f,fs[k]? =some f→(mj f g=true→m.testBit (i+k)=true)∧eS g.fr (f.IB++wrote f.hw)=false
 |[],_,_,k,f,h=>by simp at h
 |
  f0::fs,i,h,k,f,hk=>by
  simp only[j5,Bool.and_eq_true,Bool.or_eq_true,Bool.not_eq_true'] at h
  cases k with
  |zero=>simp at hk;subst hk;exact⟨fun hc=>by rcases h.1.1 with h1|h1;rw[hc] at h1;cases h1;exact h1,h.1.2⟩
  |succ k=>have:=nW h.2 k f (by simpa using hk);rw[show i+(k+1)=i+1+k from by omega];exact this
theorem nX{masks:List Nat}{all:List aS}:∀{fs:List aS}{j:Nat},ml masks all j fs=true→∀k g,fs[k]? =some g→j5 (masks.getD (j+k) 0) g 0 (all.take (j+k))=true
 |[],_,_,k,g,h=>by simp at h
 |
  g0::fs,j,h,k,g,hk=>by
  simp only[ml,Bool.and_eq_true] at h
  cases k with
  |zero=>simp at hk;subst hk;exact h.1
  |succ k=>have:=nX h.2 k g (by simpa using hk);rw[show j+(k+1)=j+1+k from by omega];exact this
def so(ops:List Oper):Nat→Bool:=fun j=>match ops[j]? with
 |some o=>o.after.toList.all fun e=> !Region.binds .any e||Nat.blt e.on j
 |none=>true
def jD(ops:Array Oper)(fs:List aS):Bool:=
 Nat.beq fs.length ops.size&&ml (nv ops.toList []) fs 0 fs&&(List.range ops.size).all (so ops.toList)
theorem bS.nth{OK:Nat→aS→St→Prop}:∀{fs:List aS}{i:Nat}{σ σ':St},bS OK i fs σ σ'→∀(k:Nat)(f:aS),fs[k]? =some f→OK (i+k) f (cI (fun x=>decide (x<i+k)) i fs σ)
 |[],_,_,_,_,k,f,h=>by simp at h
 |
  g::fs,i,σ,σ',⟨h1,h2,h3⟩,k,f,hk=>by
  cases k with
  |
   zero=>
   simp at hk;subst hk
   rw[cI]
   simp only[Nat.add_zero,Nat.lt_irrefl,decide_false,Bool.false_eq_true,if_false]
   have hid:∀(fs:List aS)(j:Nat)(σ:St),i<j→cI (fun x=>decide (x<i)) j fs σ=σ:=by
    intro fs
    induction fs with
    |nil=>intro j σ _;rfl
    |cons f fs ih=>intro j σ hj;rw[cI,if_neg (by simp;omega)];exact ih _ _ (by omega)
   rw[hid fs (i+1) σ (by omega)];exact h1
  |
   succ k=>
   have:=bS.nth h3 k f (by simpa using hk)
   rw[cI,if_pos (by simp)]
   rw[show i+(k+1)=i+1+k from by omega]
   exact this
theorem bS.last{OK:Nat→aS→St→Prop}:∀{fs:List aS}{i:Nat}{σ σ':St},bS OK i fs σ σ'→∀{X:Nat→Bool},(∀k,i≤k→k<i+fs.length→X k=true)→σ'=cI X i fs σ
 |[],_,_,_,h,_,_=>h
 |
  f::fs,i,σ,σ',⟨_,_,h⟩,X,hX=>by
  rw[cI,if_pos (hX i (Nat.le_refl _) (by simp))]
  exact bS.last h (fun k h1 h2=>hX k (by omega) (by simp;omega))
theorem dN{l m:List Nat}(h:eS l m=false){d:Nat}(hd:d∈l):d∉m:=fun hm=>by
 rw[mi hd hm] at h;cases h
section
variable{ops:Array Oper} {fs:List aS} {σ:St}
theorem yf(eM:jD ops fs=true)(hfr:∀(k:Nat)(f:aS),fs[k]? =some f→∀d∈f.fr,σ.fresh d)
 {X:Nat→Bool} (hX:∀j o,ops[j]? =some o→X j=true→∀e∈o.after.toList,Region.binds .any e=true→X e.on=true)
 {i:Nat} {o:Oper} (ho:ops[i]? =some o) (hi:X i=false) (hpre:∀e∈o.after.toList,Region.binds .any e=true→X e.on=true) {f:aS} (hf:fs[i]? =some f):
 gR (cI (fun x=>decide (x<i)) 0 fs σ) (cI X 0 fs σ) f.rt f.rb∧(∀d∈f.fr,(cI X 0 fs σ).fresh d)∧(cI X 0 fs σ).app f=cI (fun x=>X x||x==i) 0 fs σ:=by
 simp only[jD,Bool.and_eq_true] at eM
 obtain⟨⟨hlen,hconf⟩,hedge⟩:=eM
 have hmask:∀(Y:Nat→Bool),(∀j o,ops[j]? =some o→Y j=true→∀e∈o.after.toList,Region.binds .any e=true→Y e.on=true)→∀j k,Y j=true→((nv ops.toList []).getD j 0).testBit k=true→Y k=true:=by
  intro Y hY
  refine sn ops.toList [] (fun j k _ hk=>by simp at hk) ?_
  intro j o' ho' hj
  simp only[List.length_nil,Nat.zero_add] at hj
  exact hY j o' (by simpa using ho') hj
 have pair:∀(k j:Nat)(g h:aS),k<j→fs[k]? =some g→fs[j]? =some h→(mj g h=true→((nv ops.toList []).getD j 0).testBit k=true)∧eS h.fr (g.IB++wrote g.hw)=false:=by
  intro k j g h hkj hg hh
  have:=nX hconf j h hh
  have:=nW this k g (by rw[List.getElem?_take,if_pos (by omega)];exact hg)
  simpa using this
 have early:∀(k:Nat)(g:aS),fs[k]? =some g→k<i→X k=false→mj g f=false:=by
  intro k g hg hki hXk
  cases hcf:mj g f with
  |false=>rfl
  |
   true=>
   have hm:=(pair k i g f hki hg hf).1 hcf
   have:=hmask (fun x=>X x||x==i) (by
    intro j o' ho' hj e he hb
    simp only[Bool.or_eq_true,beq_iff_eq] at hj ⊢
    rcases hj with hj|hj
    ·exact Or.inl (hX j o' ho' hj e he hb)
    ·subst hj;rw[ho] at ho';cases ho';exact Or.inl (hpre e he hb)) i k (by simp) hm
   simp only[Bool.or_eq_true,beq_iff_eq] at this
   rcases this with h|h
   ·rw[hXk] at h;cases h
   ·omega
 have late:∀(k:Nat)(g:aS),fs[k]? =some g→i<k→X k=true→mj f g=false:=by
  intro k g hg hki hXk
  cases hcf:mj f g with
  |false=>rfl
  |
   true=>
   have hm:=(pair i k f g hki hf hg).1 hcf
   have:=hmask X hX k i hXk hm
   rw[hi] at this;cases this
 have cf:∀{g h:aS},mj g h=false→(∀t,g.dst=some t→t∉h.rt∧h.dst≠some t)∧(∀t,h.dst=some t→t∉g.rt)∧(∀b∈g.wb,b∉h.rb∧b∉h.wb)∧(∀b∈h.wb,b∉g.rb)∧(∀b∈g.fr,b∉h.IB):=by
  intro g h hc
  simp only[mj,Bool.or_eq_false_iff] at hc
  obtain⟨⟨⟨⟨h1,h2⟩,h3⟩,h4⟩,h5⟩:=hc
  refine⟨?_,?_,?_,?_,fun b hb=>dN h5 hb⟩
  ·intro t ht
   have:=dN h1 (d:=t) (by simp[aS.wt,ht])
   simp only[List.mem_append,not_or,aS.wt,Option.mem_toList] at this
   exact⟨this.1,this.2⟩
  ·intro t ht hm
   exact dN h2 hm (by simp[aS.wt,ht])
  ·intro b hb
   have:=dN h3 hb
   simpa using this
  ·intro b hb hm
   exact dN h4 hm hb
 refine⟨⟨?_,?_,?_,?_⟩,?_,?_⟩
 ·rw[oT,oT]
 ·rw[oU,oU]
 ·intro t ht
  refine oV rfl rfl (fun k g hg hne=>?_)
  simp only[Nat.zero_add] at hne
  intro hd
  rcases Nat.lt_trichotomy k i with h|h|h
  ·have hXk:X k=false:=by
    cases hx:X k with
    |false=>rfl
    |true=>simp[hx,h] at hne
   exact((cf (early k g hg h hXk)).1 t hd).1 ht
  ·subst h;simp[hi] at hne
  ·have hXk:X k=true:=by
    cases hx:X k with
    |true=>rfl
    |false=>simp[hx] at hne;omega
   exact(cf (late k g hg h hXk)).2.1 t hd ht
 ·intro b hb
  refine oW rfl rfl (fun k g hg hne=>?_)
  simp only[Nat.zero_add] at hne
  intro hd
  rcases Nat.lt_trichotomy k i with h|h|h
  ·have hXk:X k=false:=by
    cases hx:X k with
    |false=>rfl
    |true=>simp[hx,h] at hne
   exact((cf (early k g hg h hXk)).2.2.1 b (by simp[aS.wb,hd])).1 hb
  ·subst h;simp[hi] at hne
  ·have hXk:X k=true:=by
    cases hx:X k with
    |true=>rfl
    |false=>simp[hx] at hne;omega
   exact(cf (late k g hg h hXk)).2.2.2.1 b (by simp[aS.wb,hd]) hb
 ·intro d hd
  refine qo (hfr i f hf d hd) (fun k g hg hx=>?_)
  simp only[Nat.zero_add] at hx
  rcases Nat.lt_trichotomy k i with h|h|h
  ·have hp:=pair k i g f h hg hf
   have:=dN hp.2 hd
   simpa using this
  ·subst h;rw[hi] at hx;cases hx
  ·have:=cf (late k g hg h hx)
   refine⟨fun hm=>this.2.2.2.2 d hd hm,fun hw=>(this.2.2.1 d (by simp[aS.wb,hd])).2 (by simp[aS.wb,hw])⟩
 ·have hlt:i<fs.length:=(List.getElem?_eq_some_iff.1 hf).1
  have tmEq:∀t:Nat,((cI X 0 fs σ).app f).tm[t]? =(cI (fun x=>X x||x==i) 0 fs σ).tm[t]? :=by
   intro t
   by_cases hd:f.dst=some t
   ·symm
    refine mf hd (j:=i) (by rw[oT]) hf (by simp) (fun k g hg hik hxk=>?_)
    simp only[Nat.zero_add,Bool.or_eq_true,beq_iff_eq] at hxk
    have hXk:X k=true:=hxk.resolve_right (by omega)
    exact((cf (late k g hg hik hXk)).1 t hd).2
   ·rw[fk hd]
    refine oV rfl rfl (fun k g hg hne=>?_)
    simp only[Nat.zero_add] at hne
    have:k=i:=by
     by_cases e:k=i
     ·exact e
     ·simp[e] at hne
    subst this
    rw[hf] at hg;cases hg
    exact hd
  have hpEq:∀b:Nat,((cI X 0 fs σ).app f).hp[b]? =(cI (fun x=>X x||x==i) 0 fs σ).hp[b]? :=by
   intro b
   by_cases hd:b∈wrote f.hw
   ·symm
    refine mh hd (j:=i) (by rw[oU]) hf (by simp) (fun k g hg hik hxk=>?_)
    simp only[Nat.zero_add,Bool.or_eq_true,beq_iff_eq] at hxk
    have hXk:X k=true:=hxk.resolve_right (by omega)
    intro hw
    exact((cf (late k g hg hik hXk)).2.2.1 b (by simp[aS.wb,hd])).2 (by simp[aS.wb,hw])
   ·rw[eE,dr hd]
    refine oW rfl rfl (fun k g hg hne=>?_)
    simp only[Nat.zero_add] at hne
    have:k=i:=by
     by_cases e:k=i
     ·exact e
     ·simp[e] at hne
    subst this
    rw[hf] at hg;cases hg
    exact hd
  have e1:=List.ext_getElem? tmEq
  have e2:=List.ext_getElem? hpEq
  have e3:((cI X 0 fs σ).app f).df=(cI (fun x=>X x||x==i) 0 fs σ).df:=by rw[qm,tW,tW]
  cases h1:(cI X 0 fs σ).app f
  cases h2:cI (fun x=>X x||x==i) 0 fs σ
  rw[h1] at e1 e2 e3
  rw[h2] at e1 e2 e3
  simp only at e1 e2 e3
  rw[e1,e2,e3]
end
def gS(l:Array Bool):Nat:=(l.toList.filter (·==false)).length
theorem lb:∀(m:List Bool)(i:Nat),m[i]? =some false→((m.set i true).filter (·==false)).length+1=(m.filter (·==false)).length
 |[],_,h=>by simp at h
 |x::m,0,h=>by simp at h;subst h;simp
 |
  x::m,i+1,h=>by
  have:=lb m i (by simpa using h)
  simp only[List.set_cons_succ,List.filter_cons]
  cases x<;>simp<;>simpa using this
theorem tX{l:Array Bool}{i:Nat}(h:l.getD i true=false):gS (l.setIfInBounds i true)+1=gS l:=by
 have hi:i<l.size:=by
  rcases Nat.lt_or_ge i l.size with h'|h'
  ·exact h'
  ·simp[Array.getElem?_eq_none h'] at h
 have hv:l[i]? =some false:=by
  simp[hi] at h ⊢;exact h
 unfold gS
 rw[Array.toList_setIfInBounds]
 exact lb _ i (by simpa using hv)
theorem rP{l:Array Bool}(h:gS l=0){i:Nat}(hi:i<l.size):l.getD i false=true:=by
 unfold gS at h
 rw[List.length_eq_zero_iff,List.filter_eq_nil_iff] at h
 have:=h l[i] (by simp)
 simp[hi] at this ⊢
 exact this
theorem wz{P:Program}{gl:Ctx}{ops:Array Oper}{fs:List aS}{σ σ':St}{DS WB:List Nat}{σ0:St}{E0:Env}{w0:World}{Q:Exit→Act→World→Prop}(hi:∀f∈fs,Np DS WB f)(eM:jD ops fs=true)(hc:bS (JA P gl ops Q (tU gl DS WB σ0 E0 w0)) 0 fs σ σ')(hfr:∀(k:Nat)(f:aS),fs[k]? =some f→∀d∈f.fr,σ.fresh d)
 (hq:∀E' a' w',bO gl σ' E' a' w'→tU gl DS WB σ0 E0 w0 σ' E' w'→Q .normal a' w'):
 ∀(fuel:Nat)(listed:Array Bool),listed.size=ops.size→gS listed≤fuel→
  (∀j o,ops[j]? =some o→listed.getD j false=true→∀e∈o.after.toList,Region.binds .any e=true→listed.getD e.on false=true)→
  ∀{E:Env}{a:Act}{w:World},bO gl (cI (fun x=>listed.getD x false) 0 fs σ) E a w→tU gl DS WB σ0 E0 w0 (cI (fun x=>listed.getD x false) 0 fs σ) E w→wpAnyIn (Wd gl) 0 P .any ops Q fuel listed a w:=by
 have hlen:fs.length=ops.size:=by
  simp only[jD,Bool.and_eq_true] at eM;exact Nat.eq_of_beq_eq_true eM.1.1
 have hedge:∀j o,ops[j]? =some o→∀e∈o.after.toList,Region.binds .any e=true→e.on<j:=by
  intro j o ho e he hb
  simp only[jD,Bool.and_eq_true,List.all_eq_true,List.mem_range] at eM
  have hj:j<ops.size:=(Array.getElem?_eq_some_iff.1 ho).1
  have:=eM.2 j hj
  unfold so at this
  rw[show ops.toList[j]? =some o from by simpa using ho] at this
  simp only[List.all_eq_true] at this
  have:=this e he
  simp only[hb,Bool.not_true,Bool.false_or] at this
  simp[Nat.blt] at this;omega
 have done:∀listed:Array Bool,listed.size=ops.size→Region.ready .any ops listed= []→∀k,k<ops.size→listed.getD k false=true:=by
  intro listed hs hr
  have key:∀n k,k<n→k<ops.size→listed.getD k false=true:=by
   intro n
   induction n with
   |zero=>intro k hk;omega
   |
    succ n ih=>
    intro k hk hks
    cases hl:listed.getD k false with
    |true=>rfl
    |
     false=>
     exfalso
     have hm:k∈Region.ready .any ops listed:=by
      rw[mem_ready]
      refine⟨?_,ops[k],by simp[hks],?_⟩
      ·simp[hs▸hks] at hl ⊢;exact hl
      ·intro e he hb
       have hlt:=hedge k ops[k] (by simp[hks]) e (by simpa using he) hb
       exact ih e.on (by omega) (by omega)
     rw[hr] at hm;cases hm
  exact fun k hk=>key (k+1) k (by omega) hk
 have fin:∀listed:Array Bool,listed.size=ops.size→Region.ready .any ops listed= []→σ'=cI (fun x=>listed.getD x false) 0 fs σ:=by
  intro listed hs hr
  exact hc.last (fun k _ hk=>done listed hs hr k (by omega))
 intro fuel
 induction fuel with
 |
  zero=>
  intro listed hs hu hcl E a w hg hv
  have hall:∀k,k<ops.size→listed.getD k false=true:=fun k hk=>rP (by omega) (by omega)
  have hr:Region.ready .any ops listed= []:=by
   rw[List.eq_nil_iff_forall_not_mem]
   intro k hk
   rw[mem_ready] at hk
   obtain⟨h1,o,h2,_⟩:=hk
   have hlt:k<ops.size:=(Array.getElem?_eq_some_iff.1 h2).1
   have:=hall k hlt
   simp[hs▸hlt] at h1 this
   rw[this] at h1;cases h1
  refine⟨hr,?_⟩
  have e:=fin listed hs hr
  rw[←e] at hg hv
  exact hq E a w hg hv
 |
  succ fuel ih=>
  intro listed hs hu hcl E a w hg hv
  refine⟨fun hr=>?_,fun i hi=>?_⟩
  ·have e:=fin listed hs hr
   rw[←e] at hg hv
   exact hq E a w hg hv
  ·rw[mem_ready] at hi
   obtain⟨h1,o,h2,h3⟩:=hi
   have hlt:i<ops.size:=(Array.getElem?_eq_some_iff.1 h2).1
   have hif:listed.getD i false=false:=by simp[hs▸hlt] at h1 ⊢;exact h1
   obtain⟨f,hf⟩:∃f,fs[i]? =some f:=⟨fs[i]'(by omega),by simp[hlen,hlt]⟩
   obtain⟨hA,hF,hR⟩:=yf eM hfr (X:=fun x=>listed.getD x false) hcl h2 hif (fun e he hb=>h3 e (by simpa using he) hb) hf
   have hop:=hc.nth i f hf
   simp only[Nat.zero_add] at hop
   refine hop _ hA hF E a w hg hv _ ?_
   intro E' a' w' hg' hx
   have hv':=hv.app (hi f (List.mem_of_getElem? hf)) hx
   have aL:∀x,(listed.getD x false||x==i)=(listed.setIfInBounds i true).getD x false:=by
    intro x
    by_cases e:x=i
    ·subst e;simp[hs,hlt]
    ·rw[getD_set_ne false (fun h=>e h.symm)];simp[e]
   have hfun:(fun x=>listed.getD x false||x==i)=fun x=>(listed.setIfInBounds i true).getD x false:=funext aL
   rw[hR,hfun] at hg' hv'
   refine ih (listed.setIfInBounds i true) (by simp[hs]) (by have:=tX h1;omega) ?_ hg' hv'
   intro j o' ho' hj e he hb
   by_cases e':j=i
   ·subst e'
    rw[h2] at ho';cases ho'
    exact getD_set_true (h3 e (by simpa using he) hb)
   ·rw[getD_set_ne false (fun h=>e' h.symm)] at hj
    exact getD_set_true (hcl j o' ho' hj e he hb)
def fO(σ:St)(fs:List aS):Bool:=fs.all fun f=>f.fr.all fun d=>σ.dQ d
theorem bO.drew{gl:Ctx}{σ:St}{E:Env}{a:Act}{w:World}(h:bO gl σ E a w):bO gl σ E a {w with drawn:=w.drawn+1}∧Ext gl.md (Own σ.hp E) E w (Own σ.hp E) E {w with drawn:=w.drawn+1}:=by
 have kp:bC E w E {w with drawn:=w.drawn+1}:=⟨fun _ _=>rfl,fun _ h=>h⟩
 refine⟨h.carry (hp:=σ.hp) kp (fun _ _=>⟨rfl,rfl,rfl⟩) ⟨fun b k hb=>RB.mono kp (fun _ _=>⟨rfl,rfl,rfl⟩) (fun _ _=>rfl) (fun _ _ h=>h) (h.hw.cj b k hb),h.hw.dc,h.hw.cN,h.hw.slt,h.hw.eD kp,h.hw.nT⟩,⟨rfl,Tp.s rfl rfl,rfl,Nat.le_refl _,fun _ _ _=>rfl,fun _ h=>h,fun _ h=>Or.inl h,fun _ h=>Or.inl h,fun _ _=>⟨rfl,rfl,rfl⟩⟩⟩
theorem nY{P:Program}{G:bH}(T:aY P G){gl:Ctx}{ops:Array Oper}{id:Nat}{fs:List aS}{σ σ':St}{Q:Exit→Act→World→Prop}{E:Env}{a:Act}{w:World}(eM:jD ops fs=true)(hfr:fO σ fs=true)(hc:bS (JA P gl ops Q (tU gl (dstsOf fs) (je fs) σ E w)) 0 fs σ σ')(hg:bO gl σ E a w)
 (hq:∀E' a' w',bO gl σ' E' a' w'→tU gl (dstsOf fs) (je fs) σ E w σ' E' w'→Q .normal a' w'):(Code.region id ops true).wpIn (Wd gl) 0 P Q a w:=by
 refine wpIn_region_any T.Jz ?_
 have hfr':∀(k:Nat)(f:aS),fs[k]? =some f→∀d∈f.fr,σ.fresh d:=by
  intro k f hk d hd
  simp only[fO,List.all_eq_true] at hfr
  exact St.cY (hfr f (List.mem_of_getElem? hk) d hd)
 obtain⟨hg',hx'⟩:=hg.drew
 have hid:∀(fs:List aS)(i:Nat)(σ:St),cI (fun x=>(Array.replicate ops.size false).getD x false) i fs σ=σ:=by
  intro fs
  induction fs with
  |nil=>intro i σ;rfl
  |
   cons f fs ih=>
   intro i σ
   rw[cI]
   have:(Array.replicate ops.size false).getD i false=false:=by
    rcases Nat.lt_or_ge i ops.size with h|h<;>simp[h]
   rw[this];simp only[Bool.false_eq_true,if_false];exact ih _ _
 refine wz Da eM hc hfr' hq ops.size _ (by simp) ?_ ?_ (E:=E) (by rw[hid];exact hg') (by rw[hid];exact⟨rfl,rfl,rfl,fun _ _=>rfl,fun _ _=>rfl,hx'⟩)
 ·unfold gS;simp
 ·intro j o ho hj
  have:(Array.replicate ops.size false).getD j false=false:=by
   rcases Nat.lt_or_ge j ops.size with h|h<;>simp[h]
  rw[this] at hj;cases hj
theorem yg{P:Program}{G:bH}(T:aY P G){gl:Ctx}{ops:Array Oper}{id:Nat}{fs:List aS}{σ σ':St}(eM:jD ops fs=true)(hfr:fO σ fs=true)(hc:me P gl ops 0 fs σ σ'){Q:Exit→Act→World→Prop}{E:Env}{a:Act}{w:World}(hg:bO gl σ E a w)
 (hq:∀E' a' w',bO gl σ' E' a' w'→Ext gl.md (Own σ.hp E) E w (Own σ'.hp E') E' w'→Q .normal a' w'):(Code.region id ops true).wpIn (Wd gl) 0 P Q a w:=
 nY T eM hfr (hc.mono fun _ _ _=>rO.q) hg (fun E' a' w' h1 h2=>hq E' a' w' h1 h2.ext)
end Go.Ax
