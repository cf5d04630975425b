/- The machines: what it means to be walked or run, part 1. No condition. -/
import Derived.Orders
import Derived.OrdersIn
import Derived.RangeFuncIn
import Derived.Laws.Cells
import Derived.Laws.AppendOwn
import Derived.Laws.Strings
import Derived.Laws.Small
import Derived.Laws.CopyRow
namespace Go.Ax
inductive dC where
 |ptr|map|func|iface|sl
 deriving DecidableEq
inductive Ty where
 |int (k:IntKind)
 |bool
 |str
 |arr (n:Nat) (t:Ty)
 |slice (bs:Nat) (t:Ty)
 |pair (a b:Ty)
 |unit
 |aK (k:dC)
 |fns (n:Nat)
 |map (k v:Ty)
 deriving DecidableEq
def IntKind.code:IntKind→Nat
 | .i8=>0| .i16=>1| .i32=>2| .i64=>3| .u8=>4| .u16=>5| .u32=>6| .u64=>7
def dC.code:dC→Nat
 | .ptr=>0| .map=>1| .func=>2| .iface=>3| .sl=>4
theorem IntKind.eZ{a b:IntKind}(h:IntKind.code a=IntKind.code b):a=b:=by
 cases a<;>cases b<;>first|rfl|(simp[IntKind.code] at h)
theorem dC.eZ{a b:dC}(h:dC.code a=dC.code b):a=b:=by
 cases a<;>cases b<;>first|rfl|(simp[dC.code] at h)
def Ty.same:Ty→Ty→Bool
 | .int k,.int k'=>Nat.beq (IntKind.code k) (IntKind.code k')
 | .bool,.bool=>true
 | .str,.str=>true
 | .arr n t,.arr n' t'=>Nat.beq n n'&&Ty.same t t'
 | .slice n t,.slice n' t'=>Nat.beq n n'&&Ty.same t t'
 | .pair a b,.pair a' b'=>Ty.same a a'&&Ty.same b b'
 | .unit,.unit=>true
 | .aK k,.aK k'=>Nat.beq (dC.code k) (dC.code k')
 | .fns n,.fns n'=>Nat.beq n n'
 | .map a b,.map a' b'=>Ty.same a a'&&Ty.same b b'
 |_,_=>false
theorem Ty.aA:∀{a b:Ty},Ty.same a b=true→a=b:=by
 intro a
 induction a with
 |int k=>intro b h;cases b<;>simp[Ty.same] at h ⊢;exact IntKind.eZ h
 |bool=>intro b h;cases b<;>simp[Ty.same] at h ⊢
 |str=>intro b h;cases b<;>simp[Ty.same] at h ⊢
 |arr n t ih=>intro b h;cases b<;>simp[Ty.same] at h ⊢;exact⟨h.1,ih h.2⟩
 |slice n t ih=>intro b h;cases b<;>simp[Ty.same] at h ⊢;exact⟨h.1,ih h.2⟩
 |pair x y RI RG=>intro b h;cases b<;>simp[Ty.same] at h ⊢;exact⟨RI h.1,RG h.2⟩
 |unit=>intro b h;cases b<;>simp[Ty.same] at h ⊢
 |aK k=>intro b h;cases b<;>simp[Ty.same] at h ⊢;exact dC.eZ h
 |fns n=>intro b h;cases b<;>simp[Ty.same] at h ⊢;exact h
 |map x y RI RG=>intro b h;cases b<;>simp[Ty.same] at h ⊢;exact⟨RI h.1,RG h.2⟩
theorem Ty.bW(a:Ty):Ty.same a a=true:=by
 induction a<;>simp_all[Ty.same]
@[reducible] def Ty.den:Ty→Type
 | .int _=>Int
 | .bool=>Bool
 | .str=>List UInt8
 | .arr _ t=>List t.den
 | .slice _ t=>List t.den
 | .pair a b=>a.den×b.den
 | .unit=>Unit
 | .aK _=>Unit
 | .fns _=>List (Option Nat)
 | .map k v=>Option (List (k.den×v.den))
def Ty.size:Ty→Nat
 | .arr n t=>n*t.size
 | .pair a b=>a.size+b.size
 | .unit=>0
 | .fns n=>n
 |_=>1
def Ty.isAgg:Ty→Bool
 | .arr _ _| .pair _ _| .unit| .fns _=>true
 |_=>false
def Ty.bL:(t:Ty)→t.den
 | .int _=>(0:Int)
 | .bool=>false
 | .str=>([]:List UInt8)
 | .arr n t=>List.replicate n t.bL
 | .slice _ _=>[]
 | .pair a b=>(a.bL,b.bL)
 | .unit=>()
 | .aK _=>()
 | .fns n=>List.replicate n none
 | .map _ _=>none
def Ty.flat:Ty→Bool
 | .int _| .bool| .str| .unit=>true
 | .arr _ t=>t.flat
 | .pair a b=>a.flat&&b.flat
 |_=>false
def aF:Nat:=140737488355328
def ka(w:World)(a:Addr)(cs:List Value):Prop:=∀j v,cs[j]? =some v→w.cell? (a.add j)=some v
def aI{α:Type}(r:List Value→α→Prop):List Value→List α→Prop
 |vs,[]=>vs= []
 |vs,x::xs=>∃v1 v2,vs=v1++v2∧r v1 x∧aI r v2 xs
def fS{α β:Type}(r:Value→α→Prop)(s:Value→β→Prop):List MapEntry→List (α×β)→Prop
 |[],[]=>True
 |e::es,x::xs=>r e.key x.1∧s e.val x.2∧fS r s es xs
 |_,_=>False
theorem fS.mono{α β:Type}{r r':Value→α→Prop}{s s':Value→β→Prop}(h:∀v x,r v x→r' v x)(k:∀v x,s v x→s' v x):∀{es:List MapEntry}{xs:List (α×β)},fS r s es xs→fS r' s' es xs
 |[],[],_=>trivial
 |[],_::_,g=>g.elim
 |_::_,[],g=>g.elim
 |_::_,_::_,⟨g1,g2,g3⟩=>⟨h _ _ g1,k _ _ g2,fS.mono h k g3⟩
theorem fS.len{α β:Type}{r:Value→α→Prop}{s:Value→β→Prop}:∀{es:List MapEntry}{xs:List (α×β)},fS r s es xs→es.length=xs.length
 |[],[],_=>rfl
 |[],_::_,g=>g.elim
 |_::_,[],g=>g.elim
 |_::es,_::xs,⟨_,_,g3⟩=>by rw[List.length_cons,List.length_cons,fS.len g3]
theorem fS.all{α β:Type}{r:Value→α→Prop}{s:Value→β→Prop}{p:α→Prop}{q:β→Prop}(h:∀v x,r v x→p x)(k:∀v x,s v x→q x):∀{es:List MapEntry}{xs:List (α×β)},fS r s es xs→∀x∈xs,p x.1∧q x.2
 |[],[],_,x,hx=>by cases hx
 |[],_::_,g,_,_=>g.elim
 |_::_,[],g,_,_=>g.elim
 |
  _::_,y::ys,⟨g1,g2,g3⟩,x,hx=>by
  cases hx with
  |head=>exact⟨h _ _ g1,k _ _ g2⟩
  |tail _ hx=>exact fS.all h k g3 x hx
def ew{α:Type}:Option (List α)→List α
 |none=>[]
 |some l=>l
def eo(agg:Bool){α:Type}(r:List Value→α→Prop)(v:Value)(x:α):Prop:=(agg=true∧∃cs,v= .agg cs∧r cs.toList x)∨(agg=false∧r [v] x)
theorem eo.mono{agg:Bool}{α:Type}{r r':List Value→α→Prop}(h:∀vs x,r vs x→r' vs x){v:Value}{x:α}(g:eo agg r v x):eo agg r' v x:=by
 rcases g with⟨a,cs,e,g⟩|⟨a,g⟩
 ·exact Or.inl ⟨a,cs,e,h _ _ g⟩
 ·exact Or.inr ⟨a,h _ _ g⟩
theorem eo.all{agg:Bool}{α:Type}{r:List Value→α→Prop}{p:α→Prop}(h:∀vs x,r vs x→p x){v:Value}{x:α}(g:eo agg r v x):p x:=by
 rcases g with⟨a,cs,e,g⟩|⟨a,g⟩
 ·exact h _ _ g
 ·exact h _ _ g
def uL:Option Nat→Value
 |none=>.nilFunc
 |some f=>.func (.func f) #[] #[]
def Rel(w:World)(S:Nat→Prop):(t:Ty)→List Value→t.den→Prop
 | .int k,vs,n=>vs= [.int k n]∧k.min≤n∧n≤k.max
 | .bool,vs,b=>vs= [.bool b]
 | .str,vs,s=>vs= [.string ⟨s.toArray⟩]∧s.length≤aF
 | .arr n t,vs,xs=>xs.length=n∧aI (Rel w S t) vs xs
 | .slice bs t,vs,xs=>∃a cap,vs= [.slice a xs.length cap]∧xs.length≤cap∧xs.length*bs≤aF∧xs.length≤aF∧
  (xs= []∨∃b o cs,a=some ⟨b,o,none⟩∧S b∧ka w ⟨b,o,none⟩ cs∧aI (Rel w S t) cs xs)
 | .pair a b,vs,x=>∃v1 v2,vs=v1++v2∧Rel w S a v1 x.1∧Rel w S b v2 x.2
 | .unit,vs,_=>vs= []
 | .aK _,_,_=>False
 | .fns n,vs,xs=>xs.length=n∧vs=xs.map uL
 | .map k v,vs,x=>∃a,vs= [.map a]∧((x=none∧a=none)∨∃es g en clock,x=some es∧a=some g∧S g∧w.heap[g]? =some (.map en clock)∧
  fS (eo k.isAgg (Rel w S k)) (eo v.isAgg (Rel w S v)) en.toList es∧(es.map (·.1)).Nodup∧es.length≤aF∧(∀x∈en.toList,x.born<clock)∧(en.toList.map (·.born)).Nodup)
def wf:(t:Ty)→t.den→Prop
 | .int k,n=>k.min≤n∧n≤k.max
 | .bool,_=>True
 | .str,s=>List.length s≤aF
 | .arr n t,xs=>List.length xs=n∧∀x∈xs,wf t x
 | .slice bs t,xs=>List.length xs*bs≤aF∧List.length xs≤aF∧∀x∈xs,wf t x
 | .pair a b,x=>wf a x.1∧wf b x.2
 | .unit,_=>True
 | .aK _,_=>False
 | .fns n,xs=>List.length xs=n
 | .map k v,x=>∀es,x=some es→(es.map (·.1)).Nodup∧List.length es≤aF∧∀p∈es,wf k p.1∧wf v p.2
theorem aI.mono{α:Type}{r r':List Value→α→Prop}(h:∀vs x,r vs x→r' vs x):∀{xs:List α}{vs:List Value},aI r vs xs→aI r' vs xs
 |[],_,hh=>hh
 |_::_,_,⟨v1,v2,e,h1,h2⟩=>⟨v1,v2,e,h _ _ h1,aI.mono h h2⟩
theorem aI.all{α:Type}{r:List Value→α→Prop}{p:α→Prop}(h:∀vs x,r vs x→p x):∀{xs:List α}{vs:List Value},aI r vs xs→∀x∈xs,p x
 |[],_,_,x,hx=>by cases hx
 |
  y::ys,_,⟨_,_,_,h1,h2⟩,x,hx=>by
  cases hx with
  |head=>exact h _ _ h1
  |tail _ hx=>exact aI.all h h2 x hx
theorem aI.len{α:Type}{r:List Value→α→Prop}{n:Nat}(h:∀vs x,r vs x→vs.length=n):∀{xs:List α}{vs:List Value},aI r vs xs→vs.length=xs.length*n
 |[],_,hh=>by simp[aI] at hh;simp[hh]
 |
  _::xs,_,⟨v1,v2,e,h1,h2⟩=>by
  subst e
  rw[List.length_append,h _ _ h1,aI.len h h2,List.length_cons,Nat.add_mul];omega
theorem aI.append{α:Type}{r:List Value→α→Prop}:∀{xs ys:List α}{vs us:List Value},aI r vs xs→aI r us ys→aI r (vs++us) (xs++ys)
 |[],_,_,_,h,k=>by simp[aI] at h;subst h;simpa using k
 |
  _::_,_,_,_,⟨v1,v2,e,h1,h2⟩,k=>by
  subst e
  exact⟨v1,v2++_,by simp,h1,aI.append h2 k⟩
theorem aI.get{α:Type}{r:List Value→α→Prop}{n:Nat}(hn:∀vs x,r vs x→vs.length=n)(d:α):∀{xs:List α}{vs:List Value}(i:Nat),aI r vs xs→i<xs.length→r ((vs.drop (i*n)).take n) (xs.getD i d)
 |[],_,i,_,hi=>by simp at hi
 |
  x::xs,_,0,⟨v1,v2,e,h1,_⟩,_=>by
  subst e
  have:=hn _ _ h1
  simp[←this];exact h1
 |
  x::xs,_,i+1,⟨v1,v2,e,h1,h2⟩,hi=>by
  subst e
  have hl:=hn _ _ h1
  have:=aI.get hn d i h2 (by simpa using hi)
  have e:(v1++v2).drop ((i+1)*n)=v2.drop (i*n):=by
   rw[List.drop_append,List.drop_of_length_le (by rw[hl,Nat.add_mul];omega),List.nil_append,hl,Nat.add_mul]
   congr 1;omega
  rw[e]
  simpa using this
theorem aI.set{α:Type}{r:List Value→α→Prop}{n:Nat}(hn:∀vs x,r vs x→vs.length=n){us:List Value}{y:α}(hu:r us y):∀{xs:List α}{vs:List Value}(i:Nat),aI r vs xs→i<xs.length→aI r (vs.take (i*n)++us++vs.drop (i*n+n)) (xs.set i y)
 |[],_,i,_,hi=>by simp at hi
 |
  x::xs,_,0,⟨v1,v2,e,h1,h2⟩,_=>by
  subst e
  have:=hn _ _ h1
  refine⟨us,v2,?_,hu,h2⟩
  simp[←this]
 |
  x::xs,_,i+1,⟨v1,v2,e,h1,h2⟩,hi=>by
  subst e
  have hl:=hn _ _ h1
  have:=aI.set hn hu i h2 (by simpa using hi)
  refine⟨v1,v2.take (i*n)++us++v2.drop (i*n+n),?_,h1,this⟩
  have e1:(v1++v2).take ((i+1)*n)=v1++v2.take (i*n):=by
   rw[List.take_append,List.take_of_length_le (by rw[hl,Nat.add_mul];omega),hl,Nat.add_mul]
   congr 2;omega
  have e2:(v1++v2).drop ((i+1)*n+n)=v2.drop (i*n+n):=by
   rw[List.drop_append,List.drop_of_length_le (by rw[hl,Nat.add_mul];omega),List.nil_append,hl,Nat.add_mul]
   congr 1;omega
  rw[e1,e2];simp
theorem Rel.len{w:World}{S:Nat→Prop}:∀{t:Ty}{vs:List Value}{x:t.den},Rel w S t vs x→vs.length=t.size:=by
 intro t
 induction t with
 |int k=>intro vs x h;simp[Rel] at h;simp[h.1,Ty.size]
 |bool=>intro vs x h;simp[Rel] at h;simp[h,Ty.size]
 |str=>intro vs x h;simp[Rel] at h;simp[h.1,Ty.size]
 |arr n t ih=>intro vs x h;obtain⟨h1,h2⟩:=h;rw[aI.len (fun _ _=>ih) h2,h1,Ty.size]
 |slice bs t ih=>intro vs x h;obtain⟨a,cap,e,_⟩:=h;simp[e,Ty.size]
 |pair a b RI RG=>intro vs x h;obtain⟨v1,v2,e,h1,h2⟩:=h;subst e;rw[List.length_append,RI h1,RG h2,Ty.size]
 |unit=>intro vs x h;simp[Rel] at h;simp[h,Ty.size]
 |aK k=>intro vs x h;exact h.elim
 |fns n=>intro vs x h;obtain⟨h1,h2⟩:=h;rw[h2,List.length_map,h1,Ty.size]
 |map k v=>intro vs x h;obtain⟨a,e,_⟩:=h;simp[e,Ty.size]
theorem Rel.wf{w:World}{S:Nat→Prop}:∀{t:Ty}{vs:List Value}{x:t.den},Rel w S t vs x→wf t x:=by
 intro t
 induction t with
 |int k=>intro vs x h;exact h.2
 |bool=>intro vs x h;trivial
 |str=>intro vs x h;exact h.2
 |arr n t ih=>intro vs x h;exact⟨h.1,aI.all (p:=Ax.wf t) (fun _ _ h=>ih h) h.2⟩
 |
  slice bs t ih=>
  intro vs x h
  obtain⟨a,cap,e,h1,h2,h3,h4⟩:=h
  refine⟨h2,h3,?_⟩
  rcases h4 with h4|⟨b,o,cs,_,_,_,h5⟩
  ·subst h4;intro y hy;cases hy
  ·exact aI.all (p:=Ax.wf t) (fun _ _ h=>ih h) h5
 |pair a b RI RG=>intro vs x h;obtain⟨v1,v2,e,h1,h2⟩:=h;exact⟨RI h1,RG h2⟩
 |unit=>intro vs x h;trivial
 |aK k=>intro vs x h;exact h.elim
 |fns n=>intro vs x h;exact h.1
 |
  map k v RI RG=>
  intro vs x h es he
  obtain⟨a,e,h⟩:=h
  rcases h with⟨h,_⟩|⟨es',g,en,clock,h1,_,_,_,h2,h3,h4,_⟩
  ·rw[h] at he;cases he
  ·rw[h1] at he;cases he
   exact⟨h3,h4,fS.all (fun _ _ h=>eo.all (p:=Ax.wf k) (fun _ _ h=>RI h) h) (fun _ _ h=>eo.all (p:=Ax.wf v) (fun _ _ h=>RG h) h) h2⟩
theorem ka.mono{w w':World}{a:Addr}{cs:List Value}(h:ka w a cs)(hb:w'.heap[a.block]? =w.heap[a.block]?):ka w' a cs:=by
 intro j v hj
 rw[←h j v hj]
 exact World.cell?_of_block (by rw[show(a.add j).block=a.block by unfold Addr.add;split<;>rfl];exact hb)
theorem Rel.mono{w w':World}{S S':Nat→Prop}(hw:∀b,S b→w'.heap[b]? =w.heap[b]?)(hS:∀b,S b→S' b):∀{t:Ty}{vs:List Value}{x:t.den},Rel w S t vs x→Rel w' S' t vs x:=by
 intro t
 induction t with
 |int k=>intro vs x h;exact h
 |bool=>intro vs x h;exact h
 |str=>intro vs x h;exact h
 |arr n t ih=>intro vs x h;exact⟨h.1,aI.mono (fun _ _=>ih) h.2⟩
 |
  slice bs t ih=>
  intro vs x h
  obtain⟨a,cap,e,h1,h2,h3,h4⟩:=h
  refine⟨a,cap,e,h1,h2,h3,?_⟩
  rcases h4 with h4|⟨b,o,cs,ha,hs,hr,h5⟩
  ·exact Or.inl h4
  ·exact Or.inr ⟨b,o,cs,ha,hS b hs,hr.mono (hw b hs),aI.mono (fun _ _=>ih) h5⟩
 |pair a b RI RG=>intro vs x h;obtain⟨v1,v2,e,h1,h2⟩:=h;exact⟨v1,v2,e,RI h1,RG h2⟩
 |unit=>intro vs x h;exact h
 |aK k=>intro vs x h;exact h
 |fns n=>intro vs x h;exact h
 |
  map k v RI RG=>
  intro vs x h
  obtain⟨a,e,h⟩:=h
  refine⟨a,e,?_⟩
  rcases h with h|⟨es,g,en,clock,h1,h2,h3,h4,h5,h6⟩
  ·exact Or.inl h
  ·exact Or.inr ⟨es,g,en,clock,h1,h2,hS g h3,by rw[hw g h3];exact h4,fS.mono (fun _ _=>eo.mono (fun _ _=>RI)) (fun _ _=>eo.mono (fun _ _=>RG)) h5,h6⟩
theorem Rel.flat{w w':World}{S S':Nat→Prop}:∀{t:Ty}{vs:List Value}{x:t.den},t.flat=true→Rel w S t vs x→Rel w' S' t vs x:=by
 intro t
 induction t with
 |int k=>intro vs x _ h;exact h
 |bool=>intro vs x _ h;exact h
 |str=>intro vs x _ h;exact h
 |arr n t ih=>intro vs x hf h;exact⟨h.1,aI.mono (fun _ _=>ih hf) h.2⟩
 |slice bs t ih=>intro vs x hf;simp[Ty.flat] at hf
 |
  pair a b RI RG=>
  intro vs x hf h
  simp[Ty.flat] at hf
  obtain⟨v1,v2,e,h1,h2⟩:=h;exact⟨v1,v2,e,RI hf.1 h1,RG hf.2 h2⟩
 |unit=>intro vs x _ h;exact h
 |aK k=>intro vs x hf;simp[Ty.flat] at hf
 |fns n=>intro vs x hf;simp[Ty.flat] at hf
 |map k v=>intro vs x hf;simp[Ty.flat] at hf
end Go.Ax
namespace Go.Ax
inductive PS where
 |cB (n:Nat)
 |idx (i:Nat)
abbrev Path:=List PS
def Ty.off:Ty→Path→Nat
 | .pair a _,.cB 0::p=>a.off p
 | .pair a b,.cB (k+1)::p=>a.size+b.off (.cB k::p)
 | .arr _ t,.idx i::p=>i*t.size+t.off p
 | .fns _,.idx i::_=>i
 |_,_=>0
def Ty.sub:Ty→Path→Option Ty
 | .pair a _,.cB 0::p=>a.sub p
 | .pair _ b,.cB (k+1)::p=>b.sub (.cB k::p)
 | .arr _ t,.idx _::p=>t.sub p
 | .fns _,[.idx _]=>some (.aK .func)
 |t,[]=>some t
 |_,_=>none
def Ty.valid:Ty→Path→Prop
 | .pair a _,.cB 0::p=>a.valid p
 | .pair _ b,.cB (k+1)::p=>b.valid (.cB k::p)
 | .arr n t,.idx i::p=>i<n∧t.valid p
 | .fns n,[.idx i]=>i<n
 |_,[]=>True
 |_,_=>False
inductive AV where
 |bot
 |val (t:Ty) (x:t.den)
 |aS
 |own (b:Nat)
 |fQ (b lo len:Nat)
 |fp (b:Nat) (p:Path) (lo len:Nat)
 |ptr (b:Nat) (p:Path)
 |aZ (t:Ty) (x:t.den)
 |mp (b:Nat)
 |dW
 |cO
 |dt
 |eI
 |func (fn:Fn) (fs cs:AV)
 |iface (t:TypeId) (v:AV)
 |cons (a b:AV)
 |nil
 |dX (l:AV)
 |opt (c:Bool) (v:AV)
 |fx
 |ck (f:FuncId) (t:Ty) (x:t.den)
 |di (t:Ty)
 |nq (c:Bool)
 |dc (b:Nat)
structure YC where
 l:Nat
 gs:Nat→Nat
 rc:Nat→Loop
inductive aC where
 |var (t:Ty) (v:AV)
 |row (e:TypeId) (bs:Nat) (t:Ty) (xs:List t.den)
 |map (k v:Ty) (es:List (k.den×v.den))
 |lp (y:YC) (j:Nat)
 |nR
 |tv (g:Nat) (t:Ty) (v:AV)
 |cu (e:TypeId) (bs:Nat) (t:Ty) (xs:List t.den) (i:Nat) (v:AV)
 |bQ (e:TypeId) (bs:Nat) (t:Ty) (xs:List t.den) (e2:TypeId) (f:Option (Nat×AV))
 |pmap (k t:Ty) (es:List (k.den×t.den)) (e2:TypeId) (f:Option (k.den×AV×Bool))
 |iG (k v:Ty) (rest:List (k.den×v.den)) (cur:Option (k.den×v.den))
 |dM (k t:Ty) (es:List (k.den×t.den)) (e2:TypeId) (kx:k.den) (v:AV) (pr:Bool)
 |eC (k:Ty) (l:List (k.den×AV))
structure Env where
 g:Nat→Option Nat
 sv:Nat→Value
 bt:Nat→Ty
 S:Nat→Prop
 P:Nat→Nat→Prop
def Env.has(E:Env)(b g:Nat):Prop:=E.g b=some g∨E.P b g
def AV.isAgg:AV→Bool
 | .val t _=>t.isAgg
 | .di t=>t.isAgg
 | .cons _ _| .nil=>true
 |_=>false
def AV.size:AV→Nat
 | .val t _=>t.size
 | .di t=>t.size
 | .cons a b=>a.size+b.size
 | .nil=>0
 |_=>1
def AV.atom:AV→Bool
 | .val t _=> !t.isAgg
 | .bot| .cons _ _| .nil| .dX _| .opt _ _| .di _=>false
 |_=>true
def AV.atoms:AV→Bool
 | .cons a b=>a.atom&&b.atoms
 | .nil=>true
 |_=>false
def AV.bz:AV→Ty→Bool
 | .val t _,u=>Ty.same t u
 | .di t,u=>Ty.same t u
 | .aS,.slice _ _=>true
 | .aS,.aK .sl=>true
 | .own _,.slice _ _=>true
 | .fQ _ _ _,.slice _ _=>true
 | .fp _ _ _ _,.slice _ _=>true
 | .ptr _ _,.aK .ptr=>true
 | .aZ _ _,.aK .ptr=>true
 | .dW,.aK .ptr=>true
 | .mp _,.aK .map=>true
 | .mp _,.map _ _=>true
 | .cO,.aK .map=>true
 | .cO,.map _ _=>true
 | .func _ _ _,.aK .func=>true
 | .dt,.aK .func=>true
 | .fx,.aK .func=>true
 | .ck _ _ _,.aK .func=>true
 | .iface _ _,.aK .iface=>true
 | .eI,.aK .iface=>true
 | .cons a b,.pair t u=>a.bz t&&b.bz u
 | .nil,.unit=>true
 |_,_=>false
def AV.ids:AV→List Nat
 | .own b| .fQ b _ _| .fp b _ _ _| .ptr b _| .mp b| .dc b=>[b]
 | .func _ fs cs=>fs.ids++cs.ids
 | .iface _ v=>v.ids
 | .cons a b=>a.ids++b.ids
 | .dX l=>l.ids
 | .opt _ v=>v.ids
 |_=>[]
def RC(E:Env)(w:World):AV→List Value→Prop
 | .val t x,vs=>Rel w E.S t vs x
 | .aS,vs=>vs= [.slice none 0 0]
 | .own b,vs=>vs= [E.sv b]∧∃a n c,E.sv b= .slice a n c
 | .fQ b lo len,vs=>∃a c n t,E.bt b= .arr n t∧E.sv b= .slice a n c∧lo+len≤n∧n≤c∧∃a',vs= [.slice a' len (c -lo)]∧((len=0∧lo≠0)∨a'=a.map (·.add (lo*t.size)))
 | .fp b p lo len,vs=>∃n t,(E.bt b).sub p=some (.arr n t)∧(E.bt b).valid p∧lo+len≤n∧∃a cap,vs= [.slice a len cap]∧len≤cap∧
  (len=0∨∃g,E.g b=some g∧a=some ⟨g,(E.bt b).off p+lo*t.size,none⟩)
 | .ptr b p,vs=>∃g,E.g b=some g∧vs= [.pointer (some ⟨g,(E.bt b).off p,none⟩)]∧(E.bt b).valid p
 | .aZ t x,vs=>∃b o cs,vs= [.pointer (some ⟨b,o,none⟩)]∧E.S b∧ka w ⟨b,o,none⟩ cs∧Rel w E.S t cs x
 | .mp b,vs=>∃g,E.g b=some g∧vs= [.map (some g)]
 | .dW,vs=>vs= [.pointer none]
 | .cO,vs=>vs= [.map none]
 | .dt,vs=>vs= [.nilFunc]
 | .eI,vs=>vs= [.nilIface]
 | .func fn fs cs,vs=>∃f c,vs= [.func fn f c]∧RC E w fs f.toList∧RC E w cs c.toList∧fs.atoms=true∧cs.atoms=true
 | .iface t v,vs=>∃x,vs= [.iface t x]∧((v.isAgg=true∧∃cs,x= .agg cs∧RC E w v cs.toList)∨(v.isAgg=false∧RC E w v [x]))
 | .cons a b,vs=>∃v1 v2,vs=v1++v2∧RC E w a v1∧RC E w b v2
 | .nil,vs=>vs= []
 | .fx,vs=>∃fn f c,vs= [.func fn f c]
 | .di t,vs=>vs.length=t.size∧∀v∈vs,v.oneCell'=true
 | .nq c,vs=>∃a:Option Nat,vs= [.map a]∧(a=none↔c=true)
 | .dc b,vs=>vs= [E.sv b]∧∃n:Int,E.sv b= .int .i64 n
 | .ck f t x,vs=>t.isAgg=true∧∃cs,vs= [.func (.func f) #[.agg cs] #[]]∧Rel w E.S t cs.toList x
 | .bot,_=>False
 | .dX _,_=>False
 | .opt _ _,_=>False
def bN(E:Env)(w:World)(a:AV)(v:Value):Prop:=
 (a.isAgg=true∧∃cs,v= .agg cs∧RC E w a cs.toList)∨(a.isAgg=false∧RC E w a [v])
def RT(E:Env)(w:World):AV→List Value→Prop
 | .cons a b,v::vs=>bN E w a v∧RT E w b vs
 | .nil,vs=>vs= []
 |_,_=>False
def RV(E:Env)(w:World):AV→Value→Prop
 | .bot,_=>True
 | .dX l,v=>∃vs,v= .tuple vs∧RT E w l vs.toList
 | .opt c a,v=>(c=true∧bN E w a v)∨(c=false∧v=undef)
 |a,v=>bN E w a v
def Env.on(E E':Env)(ids:List Nat):Prop:=∀b∈ids,E'.g b=E.g b∧E'.sv b=E.sv b∧E'.bt b=E.bt b
theorem Env.on.left{E E':Env}{a b:List Nat}(h:E.on E' (a++b)):E.on E' a:=fun x hx=>h x (by simp[hx])
theorem Env.on.right{E E':Env}{a b:List Nat}(h:E.on E' (a++b)):E.on E' b:=fun x hx=>h x (by simp[hx])
structure aV(E:Env)(w:World)(E':Env)(w':World):Prop where
 w:∀b,E.S b→w'.heap[b]? =w.heap[b]?
 S:∀b,E.S b→E'.S b
theorem RC.mono{E E':Env}{w w':World}(k:aV E w E' w'):∀{a:AV}{vs:List Value},E.on E' a.ids→RC E w a vs→RC E' w' a vs:=by
 intro a
 induction a with
 |bot=>intro vs _ h;exact h
 |fx=>intro vs _ h;exact h
 |di t=>intro vs _ h;exact h
 |nq c=>intro vs _ h;exact h
 |dc b=>intro vs ho h;simp only[RC] at h ⊢;rw[(ho b (by simp[AV.ids])).2.1];exact h
 |ck f t x=>intro vs _ h;obtain⟨ha,cs,h1,h2⟩:=h;exact⟨ha,cs,h1,Rel.mono k.w k.S h2⟩
 |val t x=>intro vs _ h;exact Rel.mono k.w k.S h
 |aS=>intro vs _ h;exact h
 |own b=>intro vs ho h;simp only[RC] at h ⊢;rw[(ho b (by simp[AV.ids])).2.1];exact h
 |
  fQ b lo len=>
  intro vs ho h
  obtain⟨_,h2,h3⟩:=ho b (by simp[AV.ids])
  obtain⟨a,c,n,t,h⟩:=h
  exact⟨a,c,n,t,by rw[h3,h2];exact h⟩
 |
  fp b p lo len=>
  intro vs ho h
  obtain⟨h1,h2,h3⟩:=ho b (by simp[AV.ids])
  obtain⟨n,t,h⟩:=h
  refine⟨n,t,?_⟩
  rw[h3,h1];exact h
 |
  ptr b p=>
  intro vs ho h
  obtain⟨h1,h2,h3⟩:=ho b (by simp[AV.ids])
  obtain⟨g,h⟩:=h
  exact⟨g,by rw[h1,h3];exact h⟩
 |
  aZ t x=>
  intro vs _ h
  obtain⟨b,o,cs,h1,h2,h3,h4⟩:=h
  exact⟨b,o,cs,h1,k.S b h2,h3.mono (k.w b h2),Rel.mono k.w k.S h4⟩
 |
  mp b=>
  intro vs ho h
  obtain⟨h1,h2,h3⟩:=ho b (by simp[AV.ids])
  obtain⟨g,h⟩:=h
  exact⟨g,by rw[h1];exact h⟩
 |dW=>intro vs _ h;exact h
 |cO=>intro vs _ h;exact h
 |dt=>intro vs _ h;exact h
 |eI=>intro vs _ h;exact h
 |
  func fn fs cs RI RG=>
  intro vs ho h
  obtain⟨f,c,e,h1,h2,h3,h4⟩:=h
  exact⟨f,c,e,RI ho.left h1,RG ho.right h2,h3,h4⟩
 |
  iface t v ih=>
  intro vs ho h
  obtain⟨x,e,h⟩:=h
  refine⟨x,e,?_⟩
  rcases h with⟨h1,cs,h2,h3⟩|⟨h1,h2⟩
  ·exact Or.inl ⟨h1,cs,h2,ih ho h3⟩
  ·exact Or.inr ⟨h1,ih ho h2⟩
 |
  cons a b RI RG=>
  intro vs ho h
  obtain⟨v1,v2,e,h1,h2⟩:=h
  exact⟨v1,v2,e,RI ho.left h1,RG ho.right h2⟩
 |nil=>intro vs _ h;exact h
 |dX l ih=>intro vs _ h;exact h
 |opt c v ih=>intro vs _ h;exact h
theorem bN.mono{E E':Env}{w w':World}(k:aV E w E' w'){a:AV}{v:Value}(ho:E.on E' a.ids)(h:bN E w a v):bN E' w' a v:=by
 rcases h with⟨h1,cs,h2,h3⟩|⟨h1,h2⟩
 ·exact Or.inl ⟨h1,cs,h2,RC.mono k ho h3⟩
 ·exact Or.inr ⟨h1,RC.mono k ho h2⟩
theorem RT.mono{E E':Env}{w w':World}(k:aV E w E' w'):∀{a:AV}{vs:List Value},E.on E' a.ids→RT E w a vs→RT E' w' a vs:=by
 intro a
 induction a with
 |
  cons a b RI RG=>
  intro vs ho h
  cases vs with
  |nil=>exact h.elim
  |cons v vs=>exact⟨bN.mono k ho.left h.1,RG ho.right h.2⟩
 |nil=>intro vs _ h;exact h
 |_=>intro vs _ h;exact h.elim
theorem RV.mono{E E':Env}{w w':World}(k:aV E w E' w'){a:AV}{v:Value}(ho:E.on E' a.ids)(h:RV E w a v):RV E' w' a v:=by
 cases a with
 |bot=>trivial
 |dX l=>obtain⟨vs,e,h⟩:=h;exact⟨vs,e,RT.mono k ho h⟩
 |
  opt c a=>
  rcases h with⟨h1,h2⟩|h
  ·exact Or.inl ⟨h1,bN.mono k ho h2⟩
  ·exact Or.inr h
 |_=>exact bN.mono k ho h
theorem RC.len{E:Env}{w:World}:∀{a:AV}{vs:List Value},RC E w a vs→vs.length=a.size:=by
 intro a
 induction a with
 |val t x=>intro vs h;exact Rel.len h
 |aS=>intro vs h;simp only[RC] at h;simp[h,AV.size]
 |own b=>intro vs h;simp only[RC] at h;simp[h.1,AV.size]
 |fQ b lo len=>intro vs h;obtain⟨_,_,_,_,_,_,_,_,_,e,_⟩:=h;simp[e,AV.size]
 |fp b p lo len=>intro vs h;obtain⟨_,_,_,_,_,_,_,e,_⟩:=h;simp[e,AV.size]
 |ptr b p=>intro vs h;obtain⟨_,_,e,_⟩:=h;simp[e,AV.size]
 |aZ t x=>intro vs h;obtain⟨_,_,_,e,_⟩:=h;simp[e,AV.size]
 |mp b=>intro vs h;obtain⟨_,_,e⟩:=h;simp[e,AV.size]
 |dW=>intro vs h;simp only[RC] at h;simp[h,AV.size]
 |cO=>intro vs h;simp only[RC] at h;simp[h,AV.size]
 |dt=>intro vs h;simp only[RC] at h;simp[h,AV.size]
 |eI=>intro vs h;simp only[RC] at h;simp[h,AV.size]
 |func fn fs cs=>intro vs h;obtain⟨_,_,e,_⟩:=h;simp[e,AV.size]
 |iface t v=>intro vs h;obtain⟨_,e,_⟩:=h;simp[e,AV.size]
 |cons a b RI RG=>intro vs h;obtain⟨v1,v2,e,h1,h2⟩:=h;subst e;rw[List.length_append,RI h1,RG h2,AV.size]
 |nil=>intro vs h;simp only[RC] at h;simp[h,AV.size]
 |bot=>intro vs h;exact h.elim
 |fx=>intro vs h;obtain⟨_,_,_,e⟩:=h;simp[e,AV.size]
 |di t=>intro vs h;exact h.1
 |nq c=>intro vs h;obtain⟨_,e,_⟩:=h;simp[e,AV.size]
 |dc b=>intro vs h;obtain⟨e,_⟩:=h;simp[e,AV.size]
 |ck f t x=>intro vs h;obtain⟨_,_,e,_⟩:=h;simp[e,AV.size]
 |dX l=>intro vs h;exact h.elim
 |opt c v=>intro vs h;exact h.elim
theorem Rel.one{w:World}{S:Nat→Prop}:∀{t:Ty}{vs:List Value}{x:t.den},Rel w S t vs x→∀v∈vs,v.oneCell'=true:=by
 intro t
 induction t with
 |int k=>intro vs x h v hv;simp[Rel] at h;rw[h.1] at hv;simp at hv;subst hv;rfl
 |bool=>intro vs x h v hv;simp[Rel] at h;rw[h] at hv;simp at hv;subst hv;rfl
 |str=>intro vs x h v hv;simp[Rel] at h;rw[h.1] at hv;simp at hv;subst hv;rfl
 |
  arr n t ih=>
  intro vs x h
  have key:∀{xs:List t.den}{vs:List Value},aI (Rel w S t) vs xs→∀v∈vs,v.oneCell'=true:=by
   intro xs
   induction xs with
   |nil=>intro vs h v hv;simp[aI] at h;subst h;cases hv
   |
    cons y ys RG=>
    intro vs h v hv
    obtain⟨v1,v2,e,h1,h2⟩:=h
    subst e
    rcases List.mem_append.1 hv with h|h
    ·exact ih h1 v h
    ·exact RG h2 v h
  exact key h.2
 |slice bs t=>intro vs x h v hv;obtain⟨a,cap,e,_⟩:=h;rw[e] at hv;simp at hv;subst hv;rfl
 |
  pair a b RI RG=>
  intro vs x h v hv
  obtain⟨v1,v2,e,h1,h2⟩:=h
  subst e
  rcases List.mem_append.1 hv with h|h
  ·exact RI h1 v h
  ·exact RG h2 v h
 |unit=>intro vs x h v hv;simp[Rel] at h;subst h;cases hv
 |aK k=>intro vs x h;exact h.elim
 |
  fns n=>
  intro vs x h v hv
  obtain⟨_,h2⟩:=h
  rw[h2] at hv
  obtain⟨o,_,e⟩:=List.mem_map.1 hv
  subst e
  cases o<;>rfl
 |map k v=>intro vs x h v hv;obtain⟨a,e,_⟩:=h;rw[e] at hv;simp at hv;subst hv;rfl
theorem RC.one{E:Env}{w:World}:∀{a:AV}{vs:List Value},RC E w a vs→∀v∈vs,v.oneCell'=true:=by
 intro a
 induction a with
 |val t x=>intro vs h;exact Rel.one h
 |aS=>intro vs h v hv;simp only[RC] at h;rw[h] at hv;simp at hv;subst hv;rfl
 |own b=>intro vs h v hv;obtain⟨e,a,n,c,e2⟩:=h;rw[e,e2] at hv;simp at hv;subst hv;rfl
 |fQ b lo len=>intro vs h v hv;obtain⟨_,_,_,_,_,_,_,_,_,e,_⟩:=h;rw[e] at hv;simp at hv;subst hv;rfl
 |fp b p lo len=>intro vs h v hv;obtain⟨_,_,_,_,_,_,_,e,_⟩:=h;rw[e] at hv;simp at hv;subst hv;rfl
 |ptr b p=>intro vs h v hv;obtain⟨_,_,e,_⟩:=h;rw[e] at hv;simp at hv;subst hv;rfl
 |aZ t x=>intro vs h v hv;obtain⟨_,_,_,e,_⟩:=h;rw[e] at hv;simp at hv;subst hv;rfl
 |mp b=>intro vs h v hv;obtain⟨_,_,e⟩:=h;rw[e] at hv;simp at hv;subst hv;rfl
 |dW=>intro vs h v hv;simp only[RC] at h;rw[h] at hv;simp at hv;subst hv;rfl
 |cO=>intro vs h v hv;simp only[RC] at h;rw[h] at hv;simp at hv;subst hv;rfl
 |dt=>intro vs h v hv;simp only[RC] at h;rw[h] at hv;simp at hv;subst hv;rfl
 |fx=>intro vs h v hv;obtain⟨_,_,_,e⟩:=h;rw[e] at hv;simp at hv;subst hv;rfl
 |di t=>intro vs h v hv;exact h.2 v hv
 |nq c=>intro vs h v hv;obtain⟨_,e,_⟩:=h;rw[e] at hv;simp at hv;subst hv;rfl
 |dc b=>intro vs h v hv;obtain⟨e,n,e2⟩:=h;rw[e,e2] at hv;simp at hv;subst hv;rfl
 |ck f t x=>intro vs h v hv;obtain⟨_,_,e,_⟩:=h;rw[e] at hv;simp at hv;subst hv;rfl
 |eI=>intro vs h v hv;simp only[RC] at h;rw[h] at hv;simp at hv;subst hv;rfl
 |func fn fs cs=>intro vs h v hv;obtain⟨_,_,e,_⟩:=h;rw[e] at hv;simp at hv;subst hv;rfl
 |iface t x=>intro vs h v hv;obtain⟨_,e,_⟩:=h;rw[e] at hv;simp at hv;subst hv;rfl
 |
  cons a b RI RG=>
  intro vs h v hv
  obtain⟨v1,v2,e,h1,h2⟩:=h
  subst e
  rcases List.mem_append.1 hv with h|h
  ·exact RI h1 v h
  ·exact RG h2 v h
 |nil=>intro vs h v hv;simp only[RC] at h;subst h;cases hv
 |bot=>intro vs h;exact h.elim
 |dX l=>intro vs h;exact h.elim
 |opt c v=>intro vs h;exact h.elim
theorem bN.cells{E:Env}{w:World}{a:AV}{v:Value}(h:bN E w a v):RC E w a v.cells.toList:=by
 rcases h with⟨_,cs,e,h⟩|⟨_,h⟩
 ·subst e;exact h
 ·have h1:=RC.one h v (by simp)
  have:v.cells= #[v]:=by cases v<;>first|rfl|(simp[Value.oneCell'] at h1)
  rw[this];exact h
theorem AV.cL:∀{a:AV}{t:Ty},a.bz t=true→a.size=t.size:=by
 intro a
 induction a with
 |val u x=>intro t h;have:=Ty.aA (by simpa[AV.bz] using h);subst this;rfl
 |di u=>intro t h;have:=Ty.aA (by simpa[AV.bz] using h);subst this;rfl
 |
  cons a b RI RG=>
  intro t h
  cases t<;>simp[AV.bz] at h
  rw[AV.size,Ty.size,RI h.1,RG h.2]
 |nil=>intro t h;cases t<;>simp[AV.bz] at h;rfl
 |aS=>intro t h;cases t with|slice _ _=>rfl|aK k=>cases k<;>simp[AV.bz] at h<;>rfl|_=>simp[AV.bz] at h
 |_=>intro t h;first|(cases t<;>simp[AV.bz] at h<;>rfl)|(cases t with|aK k=>cases k<;>simp[AV.bz] at h<;>rfl|map _ _=>(first|rfl|simp[AV.bz] at h)|_=>simp[AV.bz] at h)
theorem AV.eJ:∀{a:AV}{t:Ty},a.bz t=true→a.isAgg=t.isAgg:=by
 intro a t h
 cases a with
 |val u x=>have:=Ty.aA (by simpa[AV.bz] using h);subst this;rfl
 |di u=>have:=Ty.aA (by simpa[AV.bz] using h);subst this;rfl
 |cons a b=>cases t<;>simp[AV.bz] at h;rfl
 |nil=>cases t<;>simp[AV.bz] at h;rfl
 |aS=>cases t with|slice _ _=>rfl|aK k=>cases k<;>simp[AV.bz] at h<;>rfl|_=>simp[AV.bz] at h
 |_=>first|(cases t<;>simp[AV.bz] at h<;>rfl)|(cases t with|aK k=>cases k<;>simp[AV.bz] at h<;>rfl|map _ _=>(first|rfl|simp[AV.bz] at h)|_=>simp[AV.bz] at h)
def zp:Option Nat→AV
 |none=>.dt
 |some f=>.func (.func f) .nil .nil
def cS:(t:Ty)→t.den→Path→Option AV
 | .pair a _,x,.cB 0::p=>cS a x.1 p
 | .pair _ b,x,.cB (k+1)::p=>cS b x.2 (.cB k::p)
 | .arr _ t,x,.idx i::p=>cS t (List.getD x i t.bL) p
 | .fns _,x,[.idx i]=>some (zp (List.getD x i none))
 |t,x,[]=>some (.val t x)
 |_,_,_=>none
def AV.get:AV→Path→Option AV
 | .val t x,p=>cS t x p
 | .cons a _,.cB 0::p=>a.get p
 | .cons _ b,.cB (k+1)::p=>b.get (.cB k::p)
 |a,[]=>some a
 |_,_=>none
def AV.aU:AV→(t:Ty)→Option t.den
 | .val u x,t=>if h:Ty.same u t=true then some (Ty.aA h▸x) else none
 | .aS,.slice _ _=>some []
 | .cO,.map _ _=>some none
 |
  .cons a b,.pair t u=>match a.aU t,b.aU u with
  |some x,some y=>some (x,y)
  |_,_=>none
 | .nil,.unit=>some ()
 |_,_=>none
def AV.GO:AV→Bool
 | .aS=>true
 |_=>false
def AV.BE(v:AV)(t:Ty):Option AV:=
 match v.GO&&v.bz t with
 |true=>some v
 |
  false=>match v.aU t with
  |some y=>some (.val t y)
  |none=>if v.bz t then some v else none
def dE:(t:Ty)→t.den→Path→AV→Option AV
 |
  .pair a b,x,.cB 0::p,v=>match dE a x.1 p v with
  |some (.val u y)=>if h:Ty.same u a=true then some (.val (.pair a b) (Ty.aA h▸y,x.2)) else none
  |some y=>some (.cons y (.val b x.2))
  |none=>none
 |
  .pair a b,x,.cB (k+1)::p,v=>match dE b x.2 (.cB k::p) v with
  |some (.val u y)=>if h:Ty.same u b=true then some (.val (.pair a b) (x.1,Ty.aA h▸y)) else none
  |some y=>some (.cons (.val a x.1) y)
  |none=>none
 |
  .arr n t,x,.idx i::p,v=>match dE t (List.getD x i t.bL) p v with
  |
   some y=>match y.aU t with
   |some z=>some (.val (.arr n t) (List.set x i z))
   |none=>none
  |none=>none
 |t,_,[],v=>v.BE t
 |_,_,_,_=>none
def AV.set:AV→Path→AV→Option AV
 | .val t x,p,v=>dE t x p v
 | .cons a b,.cB 0::p,v=>(a.set p v).map fun y=>.cons y b
 | .cons a b,.cB (k+1)::p,v=>(b.set (.cB k::p) v).map fun y=>.cons a y
 |_,[],v=>some v
 |_,_,_=>none
theorem RC.aU{E:Env}{w:World}:∀{a:AV}{t:Ty}{x:t.den}{vs:List Value},a.aU t=some x→RC E w a vs→Rel w E.S t vs x:=by
 intro a
 induction a with
 |
  val u y=>
  intro t x vs h hr
  simp only[AV.aU] at h
  split at h
  ·rename_i hs
   have e:=Ty.aA hs
   subst e
   simp at h;subst h;exact hr
  ·cases h
 |
  aS=>
  intro t x vs h hr
  cases t<;>simp[AV.aU] at h
  subst h
  exact⟨none,0,by simpa[RC] using hr,Nat.le_refl _,by simp,by simp,Or.inl rfl⟩
 |
  cO=>
  intro t x vs h hr
  cases t<;>simp[AV.aU] at h
  subst h
  exact⟨none,by simpa[RC] using hr,Or.inl ⟨rfl,rfl⟩⟩
 |
  cons a b RI RG=>
  intro t x vs h hr
  cases t with
  |
   pair t u=>
   obtain⟨v1,v2,e,h1,h2⟩:=hr
   simp only[AV.aU] at h
   split at h
   ·rename_i y z hy hz
    cases h
    exact⟨v1,v2,e,RI hy h1,RG hz h2⟩
   ·cases h
  |_=>simp[AV.aU] at h
 |
  nil=>
  intro t x vs h hr
  cases t<;>simp[AV.aU] at h
  exact hr
 |_=>intro t x vs h;cases t<;>simp[AV.aU] at h
theorem bN.aU{E:Env}{w:World}{a:AV}{t:Ty}{x:t.den}{v:Value}(h:a.aU t=some x)(hr:bN E w a v):bN E w (.val t x) v:=by
 rcases hr with⟨h1,cs,h2,h3⟩|⟨h1,h2⟩
 ·refine Or.inl ⟨?_,cs,h2,RC.aU h h3⟩
  cases a with
  |
   val u y=>
   simp only[AV.aU] at h
   split at h
   ·rename_i hs;have e:=Ty.aA hs;subst e;exact h1
   ·cases h
  |cons a b=>cases t<;>simp[AV.aU] at h;rfl
  |nil=>cases t<;>simp[AV.aU] at h;rfl
  |di u=>cases t<;>simp[AV.aU] at h
  |_=>simp[AV.isAgg] at h1
 ·refine Or.inr ⟨?_,RC.aU h h2⟩
  cases a with
  |
   val u y=>
   simp only[AV.aU] at h
   split at h
   ·rename_i hs;have e:=Ty.aA hs;subst e;exact h1
   ·cases h
  |aS=>cases t<;>simp[AV.aU] at h;rfl
  |cO=>cases t<;>simp[AV.aU] at h;rfl
  |cons a b=>simp[AV.isAgg] at h1
  |nil=>simp[AV.isAgg] at h1
  |_=>cases t<;>simp[AV.aU] at h
end Go.Ax
namespace Go.Ax
theorem jC{α:Type}(v1 v2:List α)(k n:Nat)(hk:v1.length≤k):((v1++v2).drop k).take n=(v2.drop (k -v1.length)).take n:=by
 rw[List.drop_append,List.drop_of_length_le hk,List.nil_append]
theorem jD{α:Type}(v1 v2:List α)(k n:Nat)(hk:k+n≤v1.length):((v1++v2).drop k).take n=(v1.drop k).take n:=by
 rw[List.drop_append,List.take_append]
 simp;omega
theorem lr{E:Env}{w:World}:∀{t:Ty}{x:t.den}{cs:List Value}{p:Path}{u:AV},Rel w E.S t cs x→t.valid p→cS t x p=some u→
 ∃s,t.sub p=some s∧u.bz s=true∧t.off p+s.size≤cs.length∧RC E w u ((cs.drop (t.off p)).take s.size):=by
 intro t
 induction t with
 |
  pair a b RI RG=>
  intro x cs p u hr hv hg
  cases p with
  |
   nil=>
   simp only[cS,Option.some.injEq] at hg;subst hg
   have hl:=Rel.len hr
   exact⟨_,rfl,Ty.bW _,by simp[Ty.off,hl],by simp only[Ty.off,List.drop_zero];rw[List.take_of_length_le (by omega)];exact hr⟩
  |
   cons s p=>
   obtain⟨v1,v2,e,h1,h2⟩:=hr
   subst e
   cases s with
   |
    cB k=>
    cases k with
    |
     zero=>
     obtain⟨s,e1,e2,e3,e4⟩:=RI h1 hv hg
     refine⟨s,e1,e2,by simp only[Ty.off,List.length_append];omega,?_⟩
     simp only[Ty.off]
     rw[jD _ _ _ _ e3];exact e4
    |
     succ k=>
     obtain⟨s,e1,e2,e3,e4⟩:=RG h2 hv hg
     have hl:=Rel.len h1
     refine⟨s,e1,e2,by simp only[Ty.off,List.length_append];omega,?_⟩
     simp only[Ty.off]
     rw[jC _ _ _ _ (by omega),hl,Nat.add_sub_cancel_left];exact e4
   |idx i=>simp[cS] at hg
 |
  arr n t ih=>
  intro x cs p u hr hv hg
  cases p with
  |
   nil=>
   simp only[cS,Option.some.injEq] at hg;subst hg
   have hl:=Rel.len hr
   exact⟨_,rfl,Ty.bW _,by simp[Ty.off,hl],by simp only[Ty.off,List.drop_zero];rw[List.take_of_length_le (by omega)];exact hr⟩
  |
   cons s p=>
   cases s with
   |cB k=>simp[cS] at hg
   |
    idx i=>
    have hl:=Rel.len hr
    obtain⟨hn,hr⟩:=hr
    obtain⟨hi,hv⟩:=hv
    have hx:i<List.length x:=by rw[hn];exact hi
    have:=aI.get (fun _ _=>Rel.len) t.bL i hr hx
    obtain⟨s,e1,e2,e3,e4⟩:=ih this hv hg
    have hb:(i+1)*t.size≤n*t.size:=Nat.mul_le_mul_right _ hi
    rw[Nat.add_mul,Nat.one_mul] at hb
    have hle:t.off p+s.size≤t.size:=by
     have:=e3
     simp only[List.length_take,List.length_drop] at this
     omega
    refine⟨s,e1,e2,?_,?_⟩
    ·simp only[Ty.off];rw[hl,Ty.size];omega
    ·simp only[Ty.off]
     rw[List.drop_take,List.take_take,List.drop_drop,Nat.min_eq_left (by omega)] at e4
     exact e4
 |
  int k=>intro x cs p u hr hv hg;cases p with
  |nil=>simp only[cS,Option.some.injEq] at hg;subst hg;have hl:=Rel.len hr;exact⟨_,rfl,Ty.bW _,by simp[Ty.off,hl],by simp only[Ty.off,List.drop_zero];rw[List.take_of_length_le (by omega)];exact hr⟩
  |cons s p=>simp[Ty.valid] at hv
 |
  bool=>intro x cs p u hr hv hg;cases p with
  |nil=>simp only[cS,Option.some.injEq] at hg;subst hg;have hl:=Rel.len hr;exact⟨_,rfl,Ty.bW _,by simp[Ty.off,hl],by simp only[Ty.off,List.drop_zero];rw[List.take_of_length_le (by omega)];exact hr⟩
  |cons s p=>simp[Ty.valid] at hv
 |
  str=>intro x cs p u hr hv hg;cases p with
  |nil=>simp only[cS,Option.some.injEq] at hg;subst hg;have hl:=Rel.len hr;exact⟨_,rfl,Ty.bW _,by simp[Ty.off,hl],by simp only[Ty.off,List.drop_zero];rw[List.take_of_length_le (by omega)];exact hr⟩
  |cons s p=>simp[Ty.valid] at hv
 |
  slice bs t=>intro x cs p u hr hv hg;cases p with
  |nil=>simp only[cS,Option.some.injEq] at hg;subst hg;have hl:=Rel.len hr;exact⟨_,rfl,Ty.bW _,by simp[Ty.off,hl],by simp only[Ty.off,List.drop_zero];rw[List.take_of_length_le (by omega)];exact hr⟩
  |cons s p=>simp[Ty.valid] at hv
 |
  unit=>intro x cs p u hr hv hg;cases p with
  |nil=>simp only[cS,Option.some.injEq] at hg;subst hg;have hl:=Rel.len hr;exact⟨_,rfl,Ty.bW _,by simp[Ty.off,hl],by simp only[Ty.off,List.drop_zero];rw[List.take_of_length_le (by omega)];exact hr⟩
  |cons s p=>simp[Ty.valid] at hv
 |
  fns n=>intro x cs p u hr hv hg;cases p with
  |nil=>simp only[cS,Option.some.injEq] at hg;subst hg;have hl:=Rel.len hr;exact⟨_,rfl,Ty.bW _,by simp[Ty.off,hl],by simp only[Ty.off,List.drop_zero];rw[List.take_of_length_le (by omega)];exact hr⟩
  |
   cons s p=>
   cases s with
   |cB k=>simp[cS] at hg
   |
    idx i=>
    cases p with
    |cons _ _=>simp[cS] at hg
    |
     nil=>
     simp only[cS,Option.some.injEq] at hg
     subst hg
     obtain⟨h1,rfl⟩:=hr
     have hi:i<List.length x:=by rw[h1];exact hv
     refine⟨.aK .func,rfl,?_,by simp[Ty.off,Ty.size];omega,?_⟩
     ·cases(List.getD x i none)<;>rfl
     ·have e:((x.map uL).drop i).take 1= [uL (List.getD x i none)]:=by
       rw[List.drop_eq_getElem_cons (by simpa using hi)]
       simp[List.getD_eq_getElem?_getD,hi]
      simp only[Ty.off,Ty.size]
      rw[e]
      cases(List.getD x i none) with
      |none=>rfl
      |some f=>exact⟨#[], #[],rfl,rfl,rfl,rfl,rfl⟩
 |
  map k v=>intro x cs p u hr hv hg;cases p with
  |nil=>simp only[cS,Option.some.injEq] at hg;subst hg;have hl:=Rel.len hr;exact⟨_,rfl,Ty.bW _,by simp[Ty.off,hl],by simp only[Ty.off,List.drop_zero];rw[List.take_of_length_le (by omega)];exact hr⟩
  |cons s p=>simp[Ty.valid] at hv
 |aK k=>intro x cs p u hr hv hg;exact hr.elim
theorem AV.dj{E:Env}{w:World}:∀{a:AV}{t:Ty}{cs:List Value}{p:Path}{u:AV},RC E w a cs→a.bz t=true→t.valid p→a.get p=some u→
 ∃s,t.sub p=some s∧u.bz s=true∧t.off p+s.size≤cs.length∧RC E w u ((cs.drop (t.off p)).take s.size):=by
 intro a
 have base:∀{a:AV}{t:Ty}{cs:List Value}{u:AV},RC E w a cs→a.bz t=true→some a=some u→
  ∃s,t.sub []=some s∧u.bz s=true∧t.off []+s.size≤cs.length∧RC E w u ((cs.drop (t.off [])).take s.size):=by
  intro a t cs u hr hc e
  cases e
  have hl:=RC.len hr
  have hs:=AV.cL hc
  have RX:t.sub []=some t:=by cases t<;>rfl
  have hoff:t.off []=0:=by cases t<;>rfl
  exact⟨t,RX,hc,by omega,by rw[hoff,List.drop_zero,List.take_of_length_le (by omega)];exact hr⟩
 induction a with
 |
  val u x=>
  intro t cs p v hr hc hv hg
  have:=Ty.aA (by simpa[AV.bz] using hc);subst this
  exact lr hr hv hg
 |
  cons a b RI RG=>
  intro t cs p u hr hc hv hg
  cases p with
  |nil=>exact base hr hc hg
  |
   cons s p=>
   cases t with
   |
    pair t1 t2=>
    simp only[AV.bz,Bool.and_eq_true] at hc
    obtain⟨v1,v2,e,h1,h2⟩:=hr
    subst e
    cases s with
    |
     cB k=>
     cases k with
     |
      zero=>
      obtain⟨s,e1,e2,e3,e4⟩:=RI h1 hc.1 hv hg
      refine⟨s,e1,e2,by simp only[Ty.off,List.length_append];omega,?_⟩
      simp only[Ty.off]
      rw[jD _ _ _ _ e3];exact e4
     |
      succ k=>
      obtain⟨s,e1,e2,e3,e4⟩:=RG h2 hc.2 hv hg
      have hl:=RC.len h1
      have hs:=AV.cL hc.1
      refine⟨s,e1,e2,by simp only[Ty.off,List.length_append];omega,?_⟩
      simp only[Ty.off]
      rw[jC _ _ _ _ (by omega),hl,hs,Nat.add_sub_cancel_left];exact e4
    |idx i=>simp[AV.get] at hg
   |_=>simp[AV.bz] at hc
 |
  _=>
  intro t cs p u hr hc hv hg
  cases p with
  |nil=>exact base hr hc hg
  |cons s p=>simp[AV.get] at hg
theorem fI{α:Type}(v1 v2 us:List α)(k n:Nat)(hk:k+n≤v1.length):(v1++v2).take k++us++(v1++v2).drop (k+n)=(v1.take k++us++v1.drop (k+n))++v2:=by
 rw[List.take_append_of_le_length (by omega),List.drop_append_of_le_length (by omega)];simp
theorem fJ{α:Type}(v1 v2 us:List α)(k n:Nat)(hk:v1.length≤k):(v1++v2).take k++us++(v1++v2).drop (k+n)=v1++(v2.take (k -v1.length)++us++v2.drop (k -v1.length+n)):=by
 rw[List.take_append,List.take_of_length_le hk,List.drop_append,List.drop_of_length_le (by omega)]
 simp only[List.nil_append,List.append_assoc]
 congr 4;omega
theorem Rel.cast{w:World}{S:Nat→Prop}{u t:Ty}{x:u.den}{cs:List Value}(h:Ty.same u t=true)(hr:Rel w S u cs x):Rel w S t cs (Ty.aA h▸x):=by
 have e:=Ty.aA h
 subst e
 exact hr
theorem pq{E:Env}{w:World}{v:AV}{us:List Value}(hv:RC E w v us):∀{t:Ty}{x:t.den}{cs:List Value}{p:Path}{u:AV},Rel w E.S t cs x→t.valid p→dE t x p v=some u→
 ∃s,t.sub p=some s∧us.length=s.size∧t.off p+s.size≤cs.length∧RC E w u (cs.take (t.off p)++us++cs.drop (t.off p+s.size)):=by
 intro t
 have base:∀{t:Ty}{x:t.den}{cs:List Value}{u:AV},Rel w E.S t cs x→dE t x [] v=some u→
  ∃s,t.sub []=some s∧us.length=s.size∧t.off []+s.size≤cs.length∧RC E w u (cs.take (t.off [])++us++cs.drop (t.off []+s.size)):=by
  intro t x cs u hr hs
  have hl:=Rel.len hr
  have RX:t.sub []=some t:=by cases t<;>rfl
  have hoff:t.off []=0:=by cases t<;>rfl
  have key:v.BE t=some u:=by
   cases t<;>simpa only[dE] using hs
  unfold AV.BE at key
  split at key
  ·rename_i hc
   simp only[Bool.and_eq_true] at hc
   cases key
   have hlu:=RC.len hv
   have:=AV.cL hc.2
   exact⟨t,RX,by omega,by omega,by rw[hoff,Nat.zero_add,List.take_zero,List.nil_append,List.drop_of_length_le (by omega),List.append_nil];exact hv⟩
  split at key
  ·rename_i y hy
   cases key
   have:=RC.aU hy hv
   have hlu:=Rel.len this
   exact⟨t,RX,hlu,by omega,by rw[hoff,Nat.zero_add,List.take_zero,List.nil_append,List.drop_of_length_le (by omega),List.append_nil];exact this⟩
  ·split at key
   ·rename_i hc
    cases key
    have hlu:=RC.len hv
    have:=AV.cL hc
    exact⟨t,RX,by omega,by omega,by rw[hoff,Nat.zero_add,List.take_zero,List.nil_append,List.drop_of_length_le (by omega),List.append_nil];exact hv⟩
   ·cases key
 induction t with
 |
  pair a b RI RG=>
  intro x cs p u hr Sb hs
  cases p with
  |nil=>exact base hr hs
  |
   cons s p=>
   obtain⟨v1,v2,e,h1,h2⟩:=hr
   subst e
   have hl:=Rel.len h1
   cases s with
   |
    cB k=>
    cases k with
    |
     zero=>
     simp only[dE] at hs
     split at hs
     ·rename_i ty y hy
      split at hs
      ·rename_i hsame
       cases hs
       obtain⟨s,e1,e2,e3,e4⟩:=RI h1 Sb hy
       refine⟨s,e1,e2,by simp only[Ty.off,List.length_append];omega,?_⟩
       simp only[Ty.off]
       rw[fI _ _ _ _ _ e3]
       exact⟨_,v2,rfl,Rel.cast hsame e4,h2⟩
      ·cases hs
     ·rename_i y _ hy
      cases hs
      obtain⟨s,e1,e2,e3,e4⟩:=RI h1 Sb hy
      refine⟨s,e1,e2,by simp only[Ty.off,List.length_append];omega,?_⟩
      simp only[Ty.off]
      rw[fI _ _ _ _ _ e3]
      exact⟨_,v2,rfl,e4,h2⟩
     ·cases hs
    |
     succ k=>
     simp only[dE] at hs
     split at hs
     ·rename_i ty y hy
      split at hs
      ·rename_i hsame
       cases hs
       obtain⟨s,e1,e2,e3,e4⟩:=RG h2 Sb hy
       refine⟨s,e1,e2,by simp only[Ty.off,List.length_append];omega,?_⟩
       simp only[Ty.off]
       rw[fJ _ _ _ _ _ (by omega),hl,Nat.add_sub_cancel_left]
       exact⟨v1,_,rfl,h1,Rel.cast hsame e4⟩
      ·cases hs
     ·rename_i y _ hy
      cases hs
      obtain⟨s,e1,e2,e3,e4⟩:=RG h2 Sb hy
      refine⟨s,e1,e2,by simp only[Ty.off,List.length_append];omega,?_⟩
      simp only[Ty.off]
      rw[fJ _ _ _ _ _ (by omega),hl,Nat.add_sub_cancel_left]
      exact⟨v1,_,rfl,h1,e4⟩
     ·cases hs
   |idx i=>simp[dE] at hs
 |
  arr n t ih=>
  intro x cs p u hr Sb hs
  cases p with
  |nil=>exact base hr hs
  |
   cons s p=>
   cases s with
   |cB k=>simp[dE] at hs
   |
    idx i=>
    have hl:=Rel.len hr
    obtain⟨hn,hr⟩:=hr
    obtain⟨hi,Sb⟩:=Sb
    have hx:i<List.length x:=by rw[hn];exact hi
    have hg:=aI.get (fun _ _=>Rel.len) t.bL i hr hx
    simp only[dE] at hs
    split at hs
    ·rename_i y hy
     split at hs
     ·rename_i z hz
      cases hs
      obtain⟨s,e1,e2,e3,e4⟩:=ih hg Sb hy
      have hb:(i+1)*t.size≤n*t.size:=Nat.mul_le_mul_right _ hi
      rw[Nat.add_mul,Nat.one_mul] at hb
      have hle:t.off p+s.size≤t.size:=by
       have:=e3
       simp only[List.length_take,List.length_drop] at this
       omega
      have aD:=aI.set (r:=Rel w E.S t) (n:=t.size) (fun _ _ h=>Rel.len h) (us:=_) (y:=z) (RC.aU hz e4) i hr hx
      refine⟨s,e1,e2,?_,?_⟩
      ·simp only[Ty.off];rw[hl,Ty.size];omega
      ·simp only[Ty.off]
       refine⟨by simp[hn],?_⟩
       have key:cs.take (i*t.size)++(((cs.drop (i*t.size)).take t.size).take (t.off p)++us++((cs.drop (i*t.size)).take t.size).drop (t.off p+s.size))++cs.drop (i*t.size+t.size)
        =cs.take (i*t.size+t.off p)++us++cs.drop (i*t.size+t.off p+s.size):=by
        rw[List.take_take,Nat.min_eq_left (by omega),List.drop_take,List.drop_drop]
        have a1:cs.take (i*t.size+t.off p)=cs.take (i*t.size)++(cs.drop (i*t.size)).take (t.off p):=by
         rw[List.take_add]
        have a2:cs.drop (i*t.size+t.off p+s.size)=(cs.drop (i*t.size+(t.off p+s.size))).take (t.size -(t.off p+s.size))++cs.drop (i*t.size+t.size):=by
         have:=List.take_append_drop (t.size -(t.off p+s.size)) (cs.drop (i*t.size+(t.off p+s.size)))
         rw[List.drop_drop] at this
         rw[show i*t.size+(t.off p+s.size)+(t.size -(t.off p+s.size))=i*t.size+t.size from by omega] at this
         rw[this];congr 1;omega
        rw[a1,a2];simp only[List.append_assoc]
       rw[←key];exact aD
     ·cases hs
    ·cases hs
 |
  int k=>intro x cs p u hr Sb hs;cases p with
  |nil=>exact base hr hs
  |cons s p=>simp[Ty.valid] at Sb
 |
  bool=>intro x cs p u hr Sb hs;cases p with
  |nil=>exact base hr hs
  |cons s p=>simp[Ty.valid] at Sb
 |
  str=>intro x cs p u hr Sb hs;cases p with
  |nil=>exact base hr hs
  |cons s p=>simp[Ty.valid] at Sb
 |
  slice bs t=>intro x cs p u hr Sb hs;cases p with
  |nil=>exact base hr hs
  |cons s p=>simp[Ty.valid] at Sb
 |
  unit=>intro x cs p u hr Sb hs;cases p with
  |nil=>exact base hr hs
  |cons s p=>simp[Ty.valid] at Sb
 |
  fns n=>intro x cs p u hr Sb hs;cases p with
  |nil=>exact base hr hs
  |cons s p=>cases s<;>simp[dE] at hs
 |
  map k v=>intro x cs p u hr Sb hs;cases p with
  |nil=>exact base hr hs
  |cons s p=>simp[Ty.valid] at Sb
 |aK k=>intro x cs p u hr;exact hr.elim
theorem AV.hU{E:Env}{w:World}{v:AV}{us:List Value}(hv:RC E w v us):∀{a:AV}{t:Ty}{cs:List Value}{p:Path}{u:AV},RC E w a cs→a.bz t=true→t.valid p→(∀s,t.sub p=some s→us.length=s.size)→a.set p v=some u→
 ∃s,t.sub p=some s∧us.length=s.size∧t.off p+s.size≤cs.length∧RC E w u (cs.take (t.off p)++us++cs.drop (t.off p+s.size)):=by
 intro a
 have base:∀{a:AV}{t:Ty}{cs:List Value}{u:AV},RC E w a cs→a.bz t=true→(∀s,t.sub []=some s→us.length=s.size)→some v=some u→
  ∃s,t.sub []=some s∧us.length=s.size∧t.off []+s.size≤cs.length∧RC E w u (cs.take (t.off [])++us++cs.drop (t.off []+s.size)):=by
  intro a t cs u hr hc hlen e
  cases e
  have hl:=RC.len hr
  have hs:=AV.cL hc
  have RX:t.sub []=some t:=by cases t<;>rfl
  have hoff:t.off []=0:=by cases t<;>rfl
  have:=hlen t RX
  exact⟨t,RX,this,by omega,by rw[hoff,Nat.zero_add,List.take_zero,List.nil_append,List.drop_of_length_le (by omega),List.append_nil];exact hv⟩
 induction a with
 |
  val u x=>
  intro t cs p y hr hc Sb _ hs
  have:=Ty.aA (by simpa[AV.bz] using hc);subst this
  exact pq hv hr Sb hs
 |
  cons a b RI RG=>
  intro t cs p u hr hc Sb hlen hs
  cases p with
  |nil=>exact base hr hc hlen hs
  |
   cons s p=>
   cases t with
   |
    pair t1 t2=>
    simp only[AV.bz,Bool.and_eq_true] at hc
    obtain⟨v1,v2,e,h1,h2⟩:=hr
    subst e
    have hl:=RC.len h1
    have RA:=AV.cL hc.1
    cases s with
    |
     cB k=>
     cases k with
     |
      zero=>
      simp only[AV.set,Option.map_eq_some_iff] at hs
      obtain⟨y,hy,e⟩:=hs
      subst e
      obtain⟨s,e1,e2,e3,e4⟩:=RI h1 hc.1 Sb hlen hy
      refine⟨s,e1,e2,by simp only[Ty.off,List.length_append];omega,?_⟩
      simp only[Ty.off]
      rw[fI _ _ _ _ _ e3]
      exact⟨_,v2,rfl,e4,h2⟩
     |
      succ k=>
      simp only[AV.set,Option.map_eq_some_iff] at hs
      obtain⟨y,hy,e⟩:=hs
      subst e
      obtain⟨s,e1,e2,e3,e4⟩:=RG h2 hc.2 Sb hlen hy
      refine⟨s,e1,e2,by simp only[Ty.off,List.length_append];omega,?_⟩
      simp only[Ty.off]
      rw[fJ _ _ _ _ _ (by omega),hl,RA,Nat.add_sub_cancel_left]
      exact⟨v1,_,rfl,h1,e4⟩
    |idx i=>simp[AV.set] at hs
   |_=>simp[AV.bz] at hc
 |
  _=>
  intro t cs p u hr hc Sb hlen hs
  cases p with
  |nil=>exact base hr hc hlen hs
  |cons s p=>simp[AV.set] at hs
end Go.Ax
namespace Go.Ax
structure zq where
 g:Nat
 t:Ty
 x:t.den
structure Ctx where
 gl:List zq
 B:(Nat→Prop)→World→Prop
 mono:∀{S S':Nat→Prop}{w w':World},(∀b,S b→w'.heap[b]? =w.heap[b]?)→(∀b,S b→S' b)→B S w→B S' w'
 ro:Option Nat
 md:Prop
def Ctx.of(l:List zq):Ctx:=⟨l,fun _ _=>True,fun _ _ _=>trivial,none,False⟩
abbrev Wd(gl:Ctx):Fence:={fn:=fun _=>True,depth:=none,alive:=false,round:=gl.ro}
structure St where
 tm:List AV
 hp:List (Option aC)
 df:List AV
def aC.ids:aC→List Nat
 | .var _ v=>v.ids
 | .tv _ _ v=>v.ids
 | .cu _ _ _ _ _ v=>v.ids
 | .bQ _ _ _ _ _ (some (_,v))=>v.ids
 | .pmap _ _ _ _ (some (_,v,_))=>v.ids
 | .dM _ _ _ _ _ v _=>v.ids
 | .eC _ l=>l.flatMap fun x=>x.2.ids
 |_=>[]
def aC.BF:aC→Bool
 | .bQ .. | .pmap .. | .dM .. =>true
 |_=>false
def RM(E:Env)(w:World)(k v:Ty):List MapEntry→List (k.den×v.den)→Prop
 |[],[]=>True
 |e::es,x::xs=>bN E w (.val k x.1) e.key∧bN E w (.val v x.2) e.val∧RM E w k v es xs
 |_,_=>False
theorem RM.of{E:Env}{w:World}{kt vt:Ty}:∀{en:List MapEntry}{es:List (kt.den×vt.den)},fS (eo kt.isAgg (Rel w E.S kt)) (eo vt.isAgg (Rel w E.S vt)) en es→RM E w kt vt en es
 |[],[],_=>trivial
 |[],_::_,h=>h.elim
 |_::_,[],h=>h.elim
 |_::_,_::_,⟨h1,h2,h3⟩=>⟨h1,h2,RM.of h3⟩
theorem RM.to{E:Env}{w:World}{kt vt:Ty}:∀{en:List MapEntry}{es:List (kt.den×vt.den)},RM E w kt vt en es→fS (eo kt.isAgg (Rel w E.S kt)) (eo vt.isAgg (Rel w E.S vt)) en es
 |[],[],_=>trivial
 |[],_::_,h=>h.elim
 |_::_,[],h=>h.elim
 |_::_,_::_,⟨h1,h2,h3⟩=>⟨h1,h2,RM.to h3⟩
def fV(i n:Nat)(t:Ty):Ty:=.pair (.arr i t) (.pair t (.pair (.arr (n -i -1) t) .unit))
def EZ(w:World)(S:Nat→Prop)(e:TypeId)(bs:Nat)(t:Ty)(v:Value)(og:Option Nat)(xs:List t.den):Prop:=
 xs.length*bs≤aF∧xs.length≤aF∧0<t.size∧∃a cap,v= .slice a xs.length cap∧cap≤maxLen∧
  (
   ((cap=0∧a=none)∧og=none∧xs= [])∨
   (∃g c,og=some g∧a=some ⟨g,0,none⟩∧w.heap[g]? =some (.cells c e (0,0))∧c.size=cap*t.size∧xs.length≤cap∧aI (Rel w S t) (c.toList.take (xs.length*t.size)) xs))
def IW(w:World)(S:Nat→Prop)(k v:Ty)(u:Value)(og:Option Nat)(es:List (k.den×v.den)):Prop:=
 (es.map (·.1)).Nodup∧es.length≤aF∧∃g en clock,og=some g∧u= .map (some g)∧w.heap[g]? =some (.map en clock)∧
  fS (eo k.isAgg (Rel w S k)) (eo v.isAgg (Rel w S v)) en.toList es∧(∀x∈en.toList,x.born<clock)∧(en.toList.map (·.born)).Nodup
def bX(w:World)(S:Nat→Prop)(e:TypeId):(t:Ty)→Value→Option Nat→t.den→Prop
 | .slice bs t,v,og,xs=>EZ w S e bs t v og xs
 | .map k v,u,og,x=>∃es,x=some es∧IW w S k v u og es
 |_,_,_,_=>False
def zeroV:Ty→Value
 | .map _ _=>.map none
 |_=>.slice none 0 0
structure BG(P:Nat→Prop)(g:Nat)(og:Nat→Option Nat):Prop where
 own:∀i u,og i=some u→P u∧u≠g
 inj:∀i j u,og i=some u→og j=some u→i=j
theorem BG.mono{P P':Nat→Prop}{g:Nat}{og:Nat→Option Nat}(h:BG P g og)(hP:∀u,P u→P' u):BG P' g og:=
 ⟨fun i u e=>⟨hP u (h.own i u e).1,(h.own i u e).2⟩,h.inj⟩
def jE(n:Nat)(t:Ty):Option (Nat×AV)→Ty
 |none=>.arr n t
 |some (i,_)=>fV i n t
theorem bX.mono{w w':World}{S S':Nat→Prop}{e:TypeId}(hw:∀b,S b→w'.heap[b]? =w.heap[b]?)(hS:∀b,S b→S' b):∀{t:Ty}{v:Value}{og:Option Nat}{x:t.den},(∀g,og=some g→w'.heap[g]? =w.heap[g]?)→bX w S e t v og x→bX w' S' e t v og x:=by
 intro t v og x ho h
 cases t with
 |
  slice bs t=>
  obtain⟨h1,h2,h3,a,cap,h4,h5,h6⟩:=h
  refine⟨h1,h2,h3,a,cap,h4,h5,h6.imp id ?_⟩
  rintro⟨g,c,k1,k2,k3,k4,k5,k6⟩
  exact⟨g,c,k1,k2,by rw[ho g k1];exact k3,k4,k5,aI.mono (fun _ _=>Rel.mono hw hS) k6⟩
 |
  map k u=>
  obtain⟨es,h0,h1,h2,g,en,clock,h3,h4,h5,h6,h7⟩:=h
  exact⟨es,h0,h1,h2,g,en,clock,h3,h4,by rw[ho g h3];exact h5,fS.mono (fun _ _=>eo.mono (fun _ _=>Rel.mono hw hS)) (fun _ _=>eo.mono (fun _ _=>Rel.mono hw hS)) h6,h7⟩
 |_=>exact h.elim
def fW(es:Array MapEntry)(seen:Array Nat):Array MapEntry:=es.filter fun e=> !seen.contains e.born
def PM(E:Env)(w:World)(b:Nat)(k t:Ty)(es:List (k.den×t.den))(e2:TypeId)(f:Option (k.den×AV×Bool)):Prop:=
 (es.map (·.1)).Nodup∧es.length≤aF∧(∀kx v pr,f=some (kx,v,pr)→v.bz t=true)∧∃g en clock og,E.g b=some g∧w.heap[g]? =some (.map en clock)∧(∀x∈en.toList,x.born<clock)∧(en.toList.map (·.born)).Nodup∧BG (E.P b) g og∧en.size=es.length∧
  (∀i x,es[i]? =some x→∃m,en[i]? =some m∧bN E w (.val k x.1) m.key∧(∀v pr,f=some (x.1,v,pr)→og i=none∧RC E w v [m.val])∧((∀v pr,f≠some (x.1,v,pr))→bX w E.S e2 t m.val (og i) x.2))∧
  ∀kx v,(f=some (kx,v,false)→kx∉es.map (·.1)→RC E w v [zeroV t])∧(f=some (kx,v,true)→kx∈es.map (·.1))
def RF(E:Env)(w:World)(k:Ty):List MapEntry→List (k.den×AV)→Prop
 |[],[]=>True
 |e::es,x::xs=>bN E w (.val k x.1) e.key∧RC E w x.2 [e.val]∧x.2.isAgg=false∧RF E w k es xs
 |_,_=>False
def RB(
 E:Env) (w:World) (b:Nat):aC→Prop
 | .iG k v rest cur=>∃g om since seen c0,E.g b=some g∧w.heap[g]? =some (.mapIter om since seen c0)∧((om=none∧rest= []∧cur=none)∨
  ∃bm en,om=some bm∧E.S bm∧w.heap[bm]? =some (.map en c0)∧since=c0∧(∀x∈en.toList,x.born<c0)∧(en.toList.map (·.born)).Nodup∧RM E w k v (fW en seen).toList rest∧
   ∀x,cur=some x→∃e s0,seen=Array.push s0 e.born∧e∈en.toList∧bN E w (.val k x.1) e.key∧bN E w (.val v x.2) e.val)
 | .bQ e bs t xs e2 f=>E.bt b=jE xs.length t f∧t.size=1∧xs.length*bs≤aF∧xs.length≤aF∧(∀i v,f=some (i,v)→i<xs.length∧v.bz t=true)∧∃g cap c og,E.sv b= .slice (some ⟨g,0,none⟩) xs.length cap∧cap≤maxLen∧E.g b=some g∧
  w.heap[g]? =some (.cells c e (0,0))∧c.size=cap∧xs.length≤cap∧BG (E.P b) g og∧
  ∀i x,xs[i]? =some x→∃u,c[i]? =some u∧(∀v,f=some (i,v)→og i=none∧RC E w v [u])∧((∀v,f≠some (i,v))→bX w E.S e2 t u (og i) x)
 | .pmap k t es e2 f=>PM E w b k t es e2 f
 | .dM k t es e2 kx v pr=>PM E w b k t es e2 (some (kx,v,pr))∧∃(n:Nat)(g:Nat)(en:Array MapEntry)(clock:Nat),E.sv b= .int .i64 n∧E.g b=some g∧w.heap[g]? =some (.map en clock)∧(kx∉es.map (·.1)→n=clock)∧
  ∀(i:Nat)(m:MapEntry)(y:t.den),es[i]? =some (kx,y)→en[i]? =some m→m.born=n
 | .eC k l=>(l.map (·.1)).Nodup∧l.length≤aF∧∃g en clock,E.g b=some g∧w.heap[g]? =some (.map en clock)∧RF E w k en.toList l
 | .var t v=>E.bt b=t∧v.bz t=true∧∃g c e,E.g b=some g∧w.heap[g]? =some (.cells c e (0,0))∧RC E w v c.toList
 | .row e bs t xs=>E.bt b= .arr xs.length t∧xs.length*bs≤aF∧xs.length≤aF∧0<t.size∧∃a cap,E.sv b= .slice a xs.length cap∧cap≤maxLen∧
  (
   ((cap=0∧a=none)∧E.g b=none∧xs= [])∨
   (∃g c,E.g b=some g∧a=some ⟨g,0,none⟩∧w.heap[g]? =some (.cells c e (0,0))∧c.size=cap*t.size∧xs.length≤cap∧aI (Rel w E.S t) (c.toList.take (xs.length*t.size)) xs))
 | .map k v es=>(es.map (·.1)).Nodup∧es.length≤aF∧∃g en clock,E.g b=some g∧w.heap[g]? =some (.map en clock)∧RM E w k v en.toList es∧(∀x∈en.toList,x.born<clock)∧(en.toList.map (·.born)).Nodup
 | .lp y j=>E.g b=some y.l∧w.heap[y.l]? =some (.loop (y.rc j))
 | .nR=>∃g,E.g b=some g∧w.heap[g]? =some (.deferred (some []))
 | .tv g t v=>E.g b=some g∧E.bt b=t∧v.bz t=true∧∃c e,w.heap[g]? =some (.cells c e (0,0))∧RC E w v c.toList
 | .cu e bs t xs i v=>E.bt b=fV i xs.length t∧i<xs.length∧xs.length*bs≤aF∧xs.length≤aF∧0<t.size∧v.bz t=true∧∃g cap c,E.sv b= .slice (some ⟨g,0,none⟩) xs.length cap∧cap≤maxLen∧E.g b=some g∧
  w.heap[g]? =some (.cells c e (0,0))∧c.size=cap*t.size∧xs.length≤cap∧aI (Rel w E.S t) (c.toList.take (i*t.size)) (xs.take i)∧RC E w v ((c.toList.drop (i*t.size)).take t.size)∧
  aI (Rel w E.S t) ((c.toList.drop ((i+1)*t.size)).take ((xs.length -(i+1))*t.size)) (xs.drop (i+1))
def BH(gl:Ctx)(E:Env)(w:World):Prop:=(∀x∈gl.gl,E.S x.g∧∃cs,ka w ⟨x.g,0,none⟩ cs∧Rel w E.S x.t cs x.x)∧gl.B E.S w
structure HW(gl:Ctx)(E:Env)(w:World)(hp:List (Option aC)):Prop where
 bP:∀b k,hp[b]? =some (some k)→RB E w b k
 cH:∀b b' k k' g,hp[b]? =some (some k)→hp[b']? =some (some k')→E.has b g→E.has b' g→b=b'
 cg:∀b k g,hp[b]? =some (some k)→E.has b g→¬E.S g
 slt:∀g,E.S g→g<w.heap.size
 gl:BH gl E w
 lS:∀b k g,hp[b]? =some (some k)→E.P b g→g<w.heap.size
theorem HW.sep{gl:Ctx}{E:Env}{w:World}{hp:List (Option aC)}(h:HW gl E w hp)(b b':Nat)(k k':aC)(g:Nat)(h1:hp[b]? =some (some k))(h2:hp[b']? =some (some k'))(h3:E.g b=some g)(h4:E.g b'=some g):b=b':=h.cH b b' k k' g h1 h2 (Or.inl h3) (Or.inl h4)
theorem HW.fT{gl:Ctx}{E:Env}{w:World}{hp:List (Option aC)}(h:HW gl E w hp)(b:Nat)(k:aC)(g:Nat)(h1:hp[b]? =some (some k))(h3:E.g b=some g):¬E.S g:=h.cg b k g h1 (Or.inl h3)
def Own(hp:List (Option aC))(E:Env)(g:Nat):Prop:=∃b k,hp[b]? =some (some k)∧E.has b g
def Tp(md:Prop)(w w':World):Prop:=w'.tape=w.tape∧(md→w.drawn≤w'.drawn)
theorem Tp.r{md:Prop}{w w':World}(h:w'.tape=w.tape)(k:w'.drawn=w.drawn):Tp md w w':=⟨h,fun _=>Nat.le_of_eq k.symm⟩
theorem Tp.s{md:Prop}{w w':World}(h:w'.tape=w.tape)(k:w'.drawn=w.drawn+1):Tp md w w':=⟨h,fun _=>k▸Nat.le_succ _⟩
theorem Tp.trans{md:Prop}{w v u:World}(h:Tp md w v)(k:Tp md v u):Tp md w u:=⟨k.1.trans h.1,fun m=>Nat.le_trans (h.2 m) (k.2 m)⟩
structure Ext(md:Prop)(O:Nat→Prop)(E:Env)(w:World)(O':Nat→Prop)(E':Env)(w':World):Prop where
 os:w'.os=w.os
 tape:Tp md w w'
 output:w'.output=w.output
 size:w.heap.size≤w'.heap.size
 kept:∀g,g<w.heap.size→¬O g→w'.heap[g]? =w.heap[g]?
 sle:∀g,E.S g→E'.S g
 iy:∀g,E'.S g→E.S g∨O g∨w.heap.size≤g
 own:∀g,O' g→O g∨w.heap.size≤g
 xX:∀b,b<16→E'.g b=E.g b∧E'.sv b=E.sv b∧E'.bt b=E.bt b
theorem Ext.refl{md:Prop}(O:Nat→Prop)(E:Env)(w:World):Ext md O E w O E w:=
 ⟨rfl,Tp.r rfl rfl,rfl,Nat.le_refl _,fun _ _ _=>rfl,fun _ h=>h,fun _ h=>Or.inl h,fun _ h=>Or.inl h,fun _ _=>⟨rfl,rfl,rfl⟩⟩
theorem Ext.trans{md:Prop}{O O1 O2:Nat→Prop}{E E1 E2:Env}{w w1 w2:World}(h:Ext md O E w O1 E1 w1)(k:Ext md O1 E1 w1 O2 E2 w2):Ext md O E w O2 E2 w2 where
 os:=k.os.trans h.os
 tape:=h.tape.trans k.tape
 output:=k.output.trans h.output
 size:=Nat.le_trans h.size k.size
 kept:=fun g hg ho=>by
  rw[k.kept g (Nat.lt_of_lt_of_le hg h.size) (fun h1=>(h.own g h1).elim ho (fun h2=>by omega)),h.kept g hg ho]
 sle:=fun g hg=>k.sle g (h.sle g hg)
 iy:=fun g hg=>by
  rcases k.iy g hg with h1|h1|h1
  ·exact h.iy g h1
  ·exact(h.own g h1).elim (fun x=>Or.inr (Or.inl x)) (fun x=>Or.inr (Or.inr x))
  ·exact Or.inr (Or.inr (Nat.le_trans h.size h1))
 own:=fun g hg=>by
  rcases k.own g hg with h1|h1
  ·exact h.own g h1
  ·exact Or.inr (Nat.le_trans h.size h1)
 xX:=fun b hb=>⟨(k.xX b hb).1.trans (h.xX b hb).1,(k.xX b hb).2.1.trans (h.xX b hb).2.1,(k.xX b hb).2.2.trans (h.xX b hb).2.2⟩
def RD(E:Env)(w:World):List AV→List Deferred→Prop
 |[],[]=>True
 | .mp b::l,d::ds=>(∃g,E.g b=some g∧d={target:=.collected g,args:= #[]})∧RD E w l ds
 | .func fn fs cs::l,d::ds=>(∃f c,d={target:=.fn fn c,args:=f}∧RC E w fs f.toList∧RC E w cs c.toList∧fs.atoms=true∧cs.atoms=true)∧RD E w l ds
 |_,_=>False
theorem RD.mono{E E':Env}{w w':World}(k:aV E w E' w'):∀{l:List AV}{ds:List Deferred},(∀a∈l,E.on E' a.ids)→RD E w l ds→RD E' w' l ds
 |[],[],_,_=>trivial
 |[],_::_,_,h=>h.elim
 |a::l,[],_,h=>by cases a<;>exact h.elim
 |
  a::l,d::ds,ho,h=>by
  cases a with
  |
   func fn fs cs=>
   obtain⟨⟨f,c,e,h1,h2,h3,h4⟩,h5⟩:=h
   have:=ho _ (List.mem_cons_self ..)
   exact⟨⟨f,c,e,RC.mono k this.left h1,RC.mono k this.right h2,h3,h4⟩,RD.mono k (fun a ha=>ho a (List.mem_cons_of_mem _ ha)) h5⟩
  |
   mp b=>
   obtain⟨⟨g,e1,e2⟩,h5⟩:=h
   have:=ho _ (List.mem_cons_self ..) b (by simp[AV.ids])
   exact⟨⟨g,by rw[this.1];exact e1,e2⟩,RD.mono k (fun a ha=>ho a (List.mem_cons_of_mem _ ha)) h5⟩
  |_=>exact h.elim
structure bD(gl:Ctx)(σ:St)(E:Env)(a:Act)(w:World):Prop where
 len:a.tmps.size=σ.tm.length
 tm:∀(i:Nat)(x:AV),σ.tm[i]? =some x→∀v,a.tmps[i]? =some v→RV E w x v
 hw:HW gl E w σ.hp
 df:RD E w σ.df a.defers
theorem HW.kept{gl:Ctx}{E E':Env}{w w':World}{hp:List (Option aC)}{O':Nat→Prop}(h:HW gl E w hp)(x:Ext gl.md (Own hp E) E w O' E' w'):aV E w E' w' where
 w:=fun b hb=>x.kept b (h.slt b hb) (fun⟨c,k,hc,hg⟩=>h.cg c k b hc hg hb)
 S:=x.sle
theorem RM.mono{E E':Env}{w w':World}(k:aV E w E' w'){kt vt:Ty}:∀{l:List MapEntry}{xs:List (kt.den×vt.den)},RM E w kt vt l xs→RM E' w' kt vt l xs
 |[],[],_=>trivial
 |[],_::_,h=>h.elim
 |_::_,[],h=>h.elim
 |e::l,x::xs,h=>⟨bN.mono k (fun b hb=>by cases hb) h.1,bN.mono k (fun b hb=>by cases hb) h.2.1,RM.mono k h.2.2⟩
theorem PM.mono{E E':Env}{w w':World}{b:Nat}{kt t:Ty}{es:List (kt.den×t.den)}{Si:TypeId}{f:Option (kt.den×AV×Bool)}(kp:aV E w E' w')(ho':E.on E' (aC.pmap kt t es Si f).ids)(hkA:∀g,E.has b g→w'.heap[g]? =w.heap[g]?)(e1:E'.g b=E.g b)(hP:∀g,E.P b g→E'.P b g)(h:PM E w b kt t es Si f):PM E' w' b kt t es Si f:=by
 have hk:∀g,E.g b=some g→w'.heap[g]? =w.heap[g]? :=fun g h=>hkA g (Or.inl h)
 obtain⟨h1,h2,h3,g,en,clock,og,q1,q2,q3,q4,q5,q6,q7,q8⟩:=h
 refine⟨h1,h2,h3,g,en,clock,og,by rw[e1];exact q1,by rw[hk g q1];exact q2,q3,q4,q5.mono hP,q6,fun i x hx=>?_,fun kx v=>⟨fun hf hn=>?_,(q8 kx v).2⟩⟩
 ·obtain⟨m,r1,r2,r3,r4⟩:=q7 i x hx
  refine⟨m,r1,bN.mono kp (fun _ hb=>by cases hb) r2,fun v pr hv=>⟨(r3 v pr hv).1,?_⟩,fun hv=>bX.mono kp.w kp.S (fun gg hgg=>hkA gg (Or.inr (q5.own i gg hgg).1)) (r4 hv)⟩
  subst hv
  exact RC.mono kp ho' (r3 v pr rfl).2
 ·subst hf
  exact RC.mono kp ho' ((q8 kx v).1 rfl hn)
theorem RF.mono{E E':Env}{w w':World}(k:aV E w E' w'){kt:Ty}:∀{l:List MapEntry}{xs:List (kt.den×AV)},E.on E' (xs.flatMap fun x=>x.2.ids)→RF E w kt l xs→RF E' w' kt l xs
 |[],[],_,_=>trivial
 |[],_::_,_,h=>h.elim
 |_::_,[],_,h=>h.elim
 |e::l,x::xs,ho,h=>⟨bN.mono k (fun b hb=>by cases hb) h.1,RC.mono k (Env.on.left (by simpa using ho)) h.2.1,h.2.2.1,RF.mono k (Env.on.right (a:=x.2.ids) (by simpa using ho)) h.2.2.2⟩
theorem RB.mono{E E':Env}{w w':World}{b:Nat}{k:aC}(kp:aV E w E' w')(ho:E.on E' (b::k.ids))(hk:∀g,E.has b g→w'.heap[g]? =w.heap[g]?)(hP:k.BF=true→∀g,E.P b g→E'.P b g)(h:RB E w b k):RB E' w' b k:=by
 have hkA:=hk
 have hk:∀g,E.g b=some g→w'.heap[g]? =w.heap[g]? :=fun g h=>hk g (Or.inl h)
 obtain⟨e1,e2,e3⟩:=ho b (List.mem_cons_self ..)
 have ho':E.on E' k.ids:=fun x hx=>ho x (List.mem_cons_of_mem _ hx)
 cases k with
 |
  var t v=>
  obtain⟨h1,h2,g,c,e,h3,h4,h5⟩:=h
  exact⟨by rw[e3];exact h1,h2,g,c,e,by rw[e1];exact h3,by rw[hk g h3];exact h4,RC.mono kp ho' h5⟩
 |
  row e bs t xs=>
  obtain⟨h1,h2,h3,h4,a,cap,h5,h6,h7⟩:=h
  refine⟨by rw[e3];exact h1,h2,h3,h4,a,cap,by rw[e2];exact h5,h6,?_⟩
  rcases h7 with⟨h7,h8,h9⟩|⟨g,c,h7,h8,h9,Sy,h11,Sz⟩
  ·exact Or.inl ⟨h7,by rw[e1];exact h8,h9⟩
  ·exact Or.inr ⟨g,c,by rw[e1];exact h7,h8,by rw[hk g h7];exact h9,Sy,h11,aI.mono (fun _ _=>Rel.mono kp.w kp.S) Sz⟩
 |
  map kt vt es=>
  obtain⟨h1,h1',g,en,clock,h2,h3,h4,h5,h6⟩:=h
  exact⟨h1,h1',g,en,clock,by rw[e1];exact h2,by rw[hk g h2];exact h3,RM.mono kp h4,h5,h6⟩
 |
  iG k v rest cur=>
  obtain⟨g,om,since,seen,c0,q1,q2,q3⟩:=h
  refine⟨g,om,since,seen,c0,by rw[e1];exact q1,by rw[hk g q1];exact q2,q3.imp id ?_⟩
  rintro⟨bm,en,r1,r2,r3,r4,r5,r6,r7,r8⟩
  refine⟨bm,en,r1,kp.S bm r2,by rw[kp.w bm r2];exact r3,r4,r5,r6,RM.mono kp r7,fun x hx=>?_⟩
  obtain⟨e,s0,t1,t2,t3,t4⟩:=r8 x hx
  exact⟨e,s0,t1,t2,bN.mono kp (fun _ hb=>by cases hb) t3,bN.mono kp (fun _ hb=>by cases hb) t4⟩
 |
  bQ e bs t xs Si f=>
  obtain⟨h1,h2,h3,h4,h5,g,cap,c,og,q1,q2,q3,q4,q5,q6,q7,q8⟩:=h
  refine⟨by rw[e3];exact h1,h2,h3,h4,h5,g,cap,c,og,by rw[e2];exact q1,q2,by rw[e1];exact q3,by rw[hk g q3];exact q4,q5,q6,q7.mono (hP rfl),fun i x hx=>?_⟩
  obtain⟨u,r1,r2,r3⟩:=q8 i x hx
  refine⟨u,r1,fun v hv=>⟨(r2 v hv).1,?_⟩,fun hv=>bX.mono kp.w kp.S (fun gg hgg=>hkA gg (Or.inr (q7.own i gg hgg).1)) (r3 hv)⟩
  subst hv
  exact RC.mono kp ho' (r2 v rfl).2
 |pmap kt t es Si f=>exact PM.mono kp (by cases f with|none=>exact fun _ hx=>(by cases hx)|some f=>exact ho') hkA e1 (hP rfl) h
 |
  dM kt t es Si kx v pr=>
  obtain⟨h1,n,g,en,clock,q1,q2,q3,q4,q5⟩:=h
  exact⟨PM.mono kp ho' hkA e1 (hP rfl) h1,n,g,en,clock,by rw[e2];exact q1,by rw[e1];exact q2,by rw[hk g q2];exact q3,q4,q5⟩
 |
  eC kt l=>
  obtain⟨h1,h2,g,en,clock,q1,q2,q3⟩:=h
  exact⟨h1,h2,g,en,clock,by rw[e1];exact q1,by rw[hk g q1];exact q2,RF.mono kp ho' q3⟩
 |lp l r=>exact⟨by rw[e1];exact h.1,by rw[hk l.l h.1];exact h.2⟩
 |nR=>obtain⟨g,h1,h2⟩:=h;exact⟨g,by rw[e1];exact h1,by rw[hk g h1];exact h2⟩
 |
  tv g t v=>
  obtain⟨h0,h1,h2,c,e,h4,h5⟩:=h
  exact⟨by rw[e1];exact h0,by rw[e3];exact h1,h2,c,e,by rw[hk g h0];exact h4,RC.mono kp ho' h5⟩
 |
  cu e bs t xs i v=>
  obtain⟨h1,h2,h3,h4,h5,h6,g,cap,c,q1,q2,q3,q4,q5,q6,q7,q8,q9⟩:=h
  exact⟨by rw[e3];exact h1,h2,h3,h4,h5,h6,g,cap,c,by rw[e2];exact q1,q2,by rw[e1];exact q3,by rw[hk g q3];exact q4,q5,q6,aI.mono (fun _ _=>Rel.mono kp.w kp.S) q7,RC.mono kp ho' q8,aI.mono (fun _ _=>Rel.mono kp.w kp.S) q9⟩
def St.put(σ:St)(dst:Option Nat)(x:AV):St:=
 match dst with
 |some d=>{σ with tm:=σ.tm.set d x}
 |none=>σ
def St.bP(σ:St)(b:Nat)(k:Option aC):St:={σ with hp:=σ.hp.set b k}
theorem bD.put{gl:Ctx}{σ:St}{E:Env}{a:Act}{w:World}(h:bD gl σ E a w)(dst:Option Nat){x:AV}{v:Value}(hv:RV E w x v):bD gl (σ.put dst x) E (a.put dst v) w:=by
 cases dst with
 |none=>exact h
 |
  some d=>
  refine⟨by simp[Act.put,St.put,h.len],?_,h.hw,h.df⟩
  intro i y hi u hu
  simp only[St.put,List.getElem?_set] at hi
  simp only[Act.put,Array.getElem?_setIfInBounds] at hu
  by_cases e:d=i
  ·subst e
   simp only[if_true] at hi hu
   split at hi
   ·cases hi
    rename_i Ru
    rw[if_pos (by rw[h.len];exact Ru)] at hu
    cases hu
    exact hv
   ·cases hi
  ·simp only[e,if_false] at hi hu
   exact h.tm i y hi u hu
def St.ids(σ:St):List Nat:=σ.tm.flatMap AV.ids++σ.df.flatMap AV.ids++(σ.hp.filterMap id).flatMap aC.ids
theorem St.uM{σ:St}{i:Nat}{x:AV}(h:σ.tm[i]? =some x):∀b∈x.ids,b∈σ.ids:=fun b hb=>by
 simp only[St.ids,List.mem_append,List.mem_flatMap]
 exact Or.inl (Or.inl ⟨x,List.mem_of_getElem? h,hb⟩)
theorem St.BI{σ:St}{x:AV}(h:x∈σ.df):∀b∈x.ids,b∈σ.ids:=fun b hb=>by
 simp only[St.ids,List.mem_append,List.mem_flatMap]
 exact Or.inl (Or.inr ⟨x,h,hb⟩)
theorem St.qP{σ:St}{i:Nat}{k:aC}(h:σ.hp[i]? =some (some k)):∀b∈k.ids,b∈σ.ids:=fun b hb=>by
 simp only[St.ids,List.mem_append,List.mem_flatMap]
 exact Or.inr ⟨k,List.mem_filterMap.2 ⟨some k,List.mem_of_getElem? h,rfl⟩,hb⟩
theorem bD.carry{gl:Ctx}{σ:St}{E E':Env}{a:Act}{w w':World}(h:bD gl σ E a w)(k:aV E w E' w')(ho:E.on E' σ.ids){hp:List (Option aC)}(hw:HW gl E' w' hp):bD gl {σ with hp:=hp} E' a w':=
 ⟨h.len,fun i x hi v hv=>RV.mono k (fun b hb=>ho b (St.uM (σ:=σ) hi b hb)) (h.tm i x hi v hv),hw,RD.mono k (fun _x hx b hb=>ho b (St.BI (σ:=σ) hx b hb)) h.df⟩
def Env.at(E:Env)(d:Nat)(g:Option Nat)(sv:Value)(t:Ty):Env:=
 {E with g:=fun b=>if b=d then g else E.g b,sv:=fun b=>if b=d then sv else E.sv b,bt:=fun b=>if b=d then t else E.bt b,P:=fun b=>if b=d then fun _=>False else E.P b}
theorem Env.BJ{E:Env}{d:Nat}{g:Option Nat}{sv:Value}{t:Ty}(h:16≤d):∀b,b<16→(E.at d g sv t).g b=E.g b∧(E.at d g sv t).sv b=E.sv b∧(E.at d g sv t).bt b=E.bt b:=fun b hb=>by
 have:b≠d:=by omega
 simp[Env.at,this]
theorem Env.sx{E:Env}{d:Nat}{g:Option Nat}{sv:Value}{t:Ty}{ids:List Nat}(h:d∉ids):E.on (E.at d g sv t) ids:=fun b hb=>by
 have:b≠d:=fun e=>h (e▸hb)
 simp[Env.at,this]
theorem HW.dF{gl:Ctx}{E E':Env}{w w':World}{hp:List (Option aC)}(h:HW gl E w hp)(k:aV E w E' w'):BH gl E' w':=
 ⟨fun x hx=>by
  obtain⟨h1,cs,h2,h3⟩:=h.gl.1 x hx
  exact⟨k.S _ h1,cs,h2.mono (k.w _ h1),Rel.mono k.w k.S h3⟩,gl.mono k.w k.S h.gl.2⟩
theorem HW.below{gl:Ctx}{E:Env}{w:World}{hp:List (Option aC)}(h:HW gl E w hp){b i:Nat}{k':aC}(hb:hp[b]? =some (some k'))(R0:E.has b i):i<w.heap.size:=by
 rcases R0 with R0|R0
 case inr=>exact h.lS b k' i hb R0
 have:=h.bP b k' hb
 cases k' with
 |var t v=>obtain⟨_,_,g,c,e,h3,h4,_⟩:=this;rw[R0] at h3;cases h3;exact(Array.getElem?_eq_some_iff.1 h4).1
 |
  row e bs t xs=>
  obtain⟨_,_,_,_,a,cap,_,_,h7⟩:=this
  rcases h7 with⟨_,h8,_⟩|⟨g,c,h7,_,h9,_⟩
  ·rw[R0] at h8;cases h8
  ·rw[R0] at h7;cases h7;exact(Array.getElem?_eq_some_iff.1 h9).1
 |map kt vt es=>obtain⟨_,_,g,en,clock,h2,h3,_⟩:=this;rw[R0] at h2;cases h2;exact(Array.getElem?_eq_some_iff.1 h3).1
 |iG k v rest cur=>obtain⟨g,_,_,_,_,h3,h4,_⟩:=this;rw[R0] at h3;cases h3;exact(Array.getElem?_eq_some_iff.1 h4).1
 |bQ e bs t xs e2 f=>obtain⟨_,_,_,_,_,g,cap,c,og,_,_,h3,h4,_⟩:=this;rw[R0] at h3;cases h3;exact(Array.getElem?_eq_some_iff.1 h4).1
 |pmap kt t es e2 f=>obtain⟨_,_,_,g,en,clock,og,h3,h4,_⟩:=this;rw[R0] at h3;cases h3;exact(Array.getElem?_eq_some_iff.1 h4).1
 |dM kt t es e2 kx v pr=>obtain⟨_,n,g,en,clock,_,h3,h4,_⟩:=this;rw[R0] at h3;cases h3;exact(Array.getElem?_eq_some_iff.1 h4).1
 |eC kt l=>obtain⟨_,_,g,en,clock,h3,h4,_⟩:=this;rw[R0] at h3;cases h3;exact(Array.getElem?_eq_some_iff.1 h4).1
 |lp l r=>obtain⟨h2,h3⟩:=this;rw[R0] at h2;cases h2;exact(Array.getElem?_eq_some_iff.1 h3).1
 |nR=>obtain⟨g,h2,h3⟩:=this;rw[R0] at h2;cases h2;exact(Array.getElem?_eq_some_iff.1 h3).1
 |tv g t v=>obtain⟨h2,_,_,c,e,h3,_⟩:=this;rw[R0] at h2;cases h2;exact(Array.getElem?_eq_some_iff.1 h3).1
 |cu e bs t xs i v=>obtain⟨_,_,_,_,_,_,g,cap,c,_,_,h3,h4,_⟩:=this;rw[R0] at h3;cases h3;exact(Array.getElem?_eq_some_iff.1 h4).1
theorem Own.below{gl:Ctx}{E:Env}{w:World}{hp:List (Option aC)}(h:HW gl E w hp){i:Nat}(ho:Own hp E i):i<w.heap.size:=by
 obtain⟨b,k',hb,R0⟩:=ho
 exact h.below hb R0
theorem Env.ff{E:Env}{d:Nat}{g:Option Nat}{sv:Value}{t:Ty}{b i:Nat}(Rw:b≠d):(E.at d g sv t).has b i↔E.has b i:=by simp[Env.has,Env.at,Rw]
theorem Env.fX{E:Env}{d:Nat}{g:Option Nat}{sv:Value}{t:Ty}{i:Nat}:(E.at d g sv t).has d i↔g=some i:=by simp[Env.has,Env.at]
theorem HW.fresh{gl:Ctx}{E:Env}{w w':World}{hp:List (Option aC)}(h:HW gl E w hp){d:Nat}{g:Option Nat}{sv:Value}{t:Ty}{k:aC}
 (RA:w.heap.size≤w'.heap.size) (hold:∀i,i<w.heap.size→w'.heap[i]? =w.heap[i]?)
 (hd:∀k',hp[d]? ≠some (some k')) (R8:∀(b:Nat)(k':aC),hp[b]? =some (some k')→d∉k'.ids) (hg:∀i,g=some i→w.heap.size≤i) (hb:RB (E.at d g sv t) w' d k):HW gl (E.at d g sv t) w' (hp.set d (some k)):=by
 have kp:aV E w (E.at d g sv t) w':=⟨fun b hb=>hold b (h.slt b hb),fun b hb=>hb⟩
 have Sg:∀(b:Nat)(k':aC),b≠d→(hp.set d (some k))[b]? =some (some k')→hp[b]? =some (some k'):=by
  intro b k' Rw hb
  rw[List.getElem?_set,if_neg (fun e=>Rw e.symm)] at hb
  exact hb
 refine⟨?_,?_,?_,?_,h.dF kp,?_⟩
 ·intro b k' RJ
  by_cases e:b=d
  ·subst e
   rw[List.getElem?_set] at RJ
   simp only[if_true] at RJ
   split at RJ
   ·cases RJ;exact hb
   ·cases RJ
  ·have hbk':=Sg b k' e RJ
   refine RB.mono kp (Env.sx ?_) ?_ (fun _ g hg=>by simpa[Env.at,e] using hg) (h.bP b k' hbk')
   ·intro hm
    cases hm with
    |head=>exact e rfl
    |tail _ hm=>exact R8 b k' hbk' hm
   ·intro i hi
    exact hold i (h.below hbk' hi)
 ·intro b b' k1 k2 i hb RR h1 h2
  by_cases e:b=d<;>by_cases e':b'=d
  ·rw[e,e']
  ·subst e
   have h1:=hg i (Env.fX.1 h1)
   have:=h.below (Sg b' k2 e' RR) ((Env.ff e').1 h2)
   omega
  ·subst e'
   have h2:=hg i (Env.fX.1 h2)
   have:=h.below (Sg b k1 e hb) ((Env.ff e).1 h1)
   omega
  ·exact h.cH b b' k1 k2 i (Sg b k1 e hb) (Sg b' k2 e' RR) ((Env.ff e).1 h1) ((Env.ff e').1 h2)
 ·intro b k1 i hb h1 hs
  by_cases e:b=d
  ·subst e
   have:=hg i (Env.fX.1 h1)
   have:=h.slt i hs
   omega
  ·exact h.cg b k1 i (Sg b k1 e hb) ((Env.ff e).1 h1) hs
 ·intro i hs;exact Nat.lt_of_lt_of_le (h.slt i hs) RA
 ·intro b k1 i hb h1
  by_cases e:b=d
  ·subst e;simp[Env.at] at h1
  ·have h1:E.P b i:=by simpa[Env.at,e] using h1
   exact Nat.lt_of_lt_of_le (h.lS b k1 i (Sg b k1 e hb) h1) RA
theorem HW.write{gl:Ctx}{E:Env}{w w':World}{hp:List (Option aC)}(h:HW gl E w hp){b:Nat}{k k':aC}(hb:hp[b]? =some (some k))(RA:w'.heap.size=w.heap.size)
 (hold:∀i,E.g b≠some i→w'.heap[i]? =w.heap[i]?) (hk:RB E w' b k'):HW gl E w' (hp.set b (some k')):=by
 have kp:aV E w E w':=⟨fun i hi=>hold i (fun e=>h.fT b k i hb e hi),fun b hb=>hb⟩
 have Sg:∀(b':Nat)(k2:aC),b'≠b→(hp.set b (some k'))[b']? =some (some k2)→hp[b']? =some (some k2):=by
  intro b' k2 Rw RR
  rw[List.getElem?_set,if_neg (fun e=>Rw e.symm)] at RR
  exact RR
 have any:∀(b':Nat)(k2:aC),(hp.set b (some k'))[b']? =some (some k2)→∃k3:aC,hp[b']? =some (some k3):=by
  intro b' k2 RR
  by_cases e:b'=b
  ·subst e;exact⟨k,hb⟩
  ·exact⟨k2,Sg b' k2 e RR⟩
 refine⟨?_,?_,?_,?_,h.dF kp,?_⟩
 ·intro b' k2 RR
  by_cases e:b'=b
  ·subst e
   rw[List.getElem?_set] at RR
   simp only[if_true] at RR
   split at RR
   ·cases RR;exact hk
   ·cases RR
  ·have hb2:=Sg b' k2 e RR
   refine RB.mono kp (fun x _=>⟨rfl,rfl,rfl⟩) ?_ (fun _ _ h=>h) (h.bP b' k2 hb2)
   intro i hi
   exact hold i (fun e'=>e (h.cH b' b k2 k i hb2 hb hi (Or.inl e')))
 ·intro b1 b2 k1 k2 i h1 h2 g1 g2
  obtain⟨k3,h3⟩:=any b1 k1 h1
  obtain⟨k4,h4⟩:=any b2 k2 h2
  exact h.cH b1 b2 k3 k4 i h3 h4 g1 g2
 ·intro b1 k1 i h1 g1
  obtain⟨k3,h3⟩:=any b1 k1 h1
  exact h.cg b1 k3 i h3 g1
 ·intro i hi;rw[RA];exact h.slt i hi
 ·intro b1 k1 i h1 g1
  obtain⟨k3,h3⟩:=any b1 k1 h1
  rw[RA];exact h.lS b1 k3 i h3 g1
theorem Own.set{hp:List (Option aC)}{E:Env}{b:Nat}{k k':aC}(hb:hp[b]? =some (some k)){i:Nat}(h:Own (hp.set b (some k')) E i):Own hp E i:=by
 obtain⟨b',k2,RR,hg⟩:=h
 by_cases e:b'=b
 ·subst e;exact⟨b',k,hb,hg⟩
 ·rw[List.getElem?_set,if_neg (fun e'=>e e'.symm)] at RR
  exact⟨b',k2,RR,hg⟩
end Go.Ax
namespace Go.Ax
structure MS where
 name:String
 f:FuncId
 st:Option (TypeId×Nat×TypeId)
structure TD where
 ty:Ty
 e:TypeId:=0
 e2:TypeId:=0
 ms:List MS:=[]
abbrev bu:=List (Option TD)
def bu.at(G:bu)(t:TypeId):Option TD:=(G[t]?).join
def dC.zero:dC→AV
 | .ptr=>.dW
 | .map=>.cO
 | .func=>.dt
 | .iface=>.eI
 | .sl=>.aS
def Ty.zero:Ty→AV
 | .slice _ _=>.aS
 | .pair a b=>.cons a.zero b.zero
 | .unit=>.nil
 | .aK k=>dC.zero k
 | .map _ _=>.cO
 |t=>.val t t.bL
def Ty.pure:Ty→Bool
 | .arr _ t=>t.pure
 | .slice _ t=>t.pure
 | .pair a b=>a.pure&&b.pure
 | .aK _| .fns _=>false
 | .map k v=>k.pure&&v.pure
 |_=>true
def BK:Value→Bool
 | .nilFunc=>true
 |_=>false
def isZero:Ty→Value→Bool
 | .int k,.int k' n=>Nat.beq (IntKind.code k) (IntKind.code k')&&decide (n=0)
 | .bool,.bool b=> !b
 | .str,.string s=>s.data.toList.isEmpty
 | .slice _ _,.slice a n c=>a.isNone&&Nat.beq n 0&&Nat.beq c 0
 | .aK .ptr,.pointer a=>a.isNone
 | .aK .map,.map a=>a.isNone
 | .map _ _,.map a=>a.isNone
 | .aK .func,.nilFunc=>true
 | .aK .iface,.nilIface=>true
 | .aK .sl,.slice a n c=>a.isNone&&Nat.beq n 0&&Nat.beq c 0
 |_,_=>false
def gJ:Ty→List Value→Bool
 | .arr n t,cs=>Nat.beq cs.length (n*t.size)&&t.pure&&(List.range n).all fun i=>gJ t ((cs.drop (i*t.size)).take t.size)
 | .pair a b,cs=>Nat.ble a.size cs.length&&gJ a (cs.take a.size)&&gJ b (cs.drop a.size)
 | .unit,cs=>cs.isEmpty
 | .fns n,cs=>Nat.beq cs.length n&&cs.all BK
 |t,[v]=>isZero t v
 |_,_=>false
theorem fA{E:Env}{w:World}{t:Ty}{v:Value}(ha:t.isAgg=false)(h:isZero t v=true):RC E w t.zero [v]∧(t.pure=true→Rel w E.S t [v] t.bL):=by
 cases t with
 |
  int k=>
  cases v<;>simp[isZero] at h
  obtain⟨h1,h2⟩:=h
  have:=IntKind.eZ h1
  subst this;subst h2
  refine⟨⟨rfl,?_,?_⟩,fun _=>⟨rfl,?_,?_⟩⟩<;>(cases k<;>decide)
 |
  bool=>
  cases v<;>simp[isZero] at h
  subst h
  exact⟨rfl,fun _=>rfl⟩
 |
  str=>
  cases v with
  |
   string s=>
   simp[isZero] at h
   have:s=⟨#[]⟩:=by cases s;simp_all
   subst this
   exact⟨⟨rfl,by simp[aF,Ty.bL]⟩,fun _=>⟨rfl,by simp[aF,Ty.bL]⟩⟩
  |_=>simp[isZero] at h
 |
  slice bs t=>
  cases v with
  |
   slice a n c=>
   simp[isZero] at h
   obtain⟨⟨h1,h2⟩,h3⟩:=h
   subst h1;subst h2;subst h3
   exact⟨rfl,fun _=>⟨none,0,rfl,Nat.le_refl _,by simp[Ty.bL],by simp[Ty.bL],Or.inl rfl⟩⟩
  |_=>simp[isZero] at h
 |
  map k e=>
  cases v<;>simp[isZero] at h
  subst h
  exact⟨rfl,fun _=>⟨none,rfl,Or.inl ⟨rfl,rfl⟩⟩⟩
 |
  aK k=>
  refine⟨?_,fun hp=>by simp[Ty.pure] at hp⟩
  cases k<;>cases v<;>simp[isZero] at h<;>first|rfl|(subst h;rfl)|(obtain⟨⟨h1,h2⟩,h3⟩:=h;subst h1;subst h2;subst h3;rfl)
 |_=>simp[Ty.isAgg] at ha
theorem aI.sy{α:Type}{r:List Value→α→Prop}(x:α)(k:Nat):∀(n:Nat)(cs:List Value),cs.length=n*k→(∀i,i<n→r ((cs.drop (i*k)).take k) x)→aI r cs (List.replicate n x):=by
 intro n
 induction n with
 |zero=>intro cs hl _;simp at hl;simp[aI,hl]
 |
  succ n ih=>
  intro cs hl h
  rw[List.replicate_succ]
  rw[Nat.add_mul,Nat.one_mul] at hl
  refine⟨cs.take k,cs.drop k,(List.take_append_drop k cs).symm,by have:=h 0 (by omega);simpa using this,ih _ (by simp;omega) ?_⟩
  intro i hi
  have:=h (i+1) (by omega)
  rw[List.drop_drop]
  rw[Nat.add_mul,Nat.one_mul,Nat.add_comm] at this
  exact this
theorem du{E:Env}{w:World}:∀{t:Ty}{cs:List Value},gJ t cs=true→RC E w t.zero cs∧(t.pure=true→Rel w E.S t cs t.bL):=by
 intro t
 induction t with
 |
  arr n t ih=>
  intro cs h
  simp only[gJ,Bool.and_eq_true,List.all_eq_true,List.mem_range] at h
  obtain⟨⟨h1,h2⟩,h3⟩:=h
  have h1':cs.length=n*t.size:=Nat.eq_of_beq_eq_true h1
  have:Rel w E.S (.arr n t) cs (Ty.bL (.arr n t)):=
   ⟨by simp[Ty.bL],aI.sy t.bL t.size n cs h1' (fun i hi=>(ih (h3 i hi)).2 h2)⟩
  exact⟨this,fun _=>this⟩
 |
  pair a b RI RG=>
  intro cs h
  simp only[gJ,Bool.and_eq_true] at h
  obtain⟨⟨_,h1⟩,h2⟩:=h
  have e:=(List.take_append_drop a.size cs).symm
  refine⟨⟨_,_,e,(RI h1).1,(RG h2).1⟩,fun hp=>?_⟩
  simp only[Ty.pure,Bool.and_eq_true] at hp
  exact⟨_,_,e,(RI h1).2 hp.1,(RG h2).2 hp.2⟩
 |unit=>intro cs h;simp[gJ] at h;exact⟨h,fun _=>h⟩
 |
  fns n=>
  intro cs h
  simp only[gJ,Bool.and_eq_true,List.all_eq_true] at h
  have hl:=Nat.eq_of_beq_eq_true h.1
  have e:cs=(List.replicate n none).map uL:=by
   apply List.ext_getElem
   ·simp[hl]
   ·intro i h1 h2
    have:=h.2 _ (List.getElem_mem h1)
    simp only[List.getElem_map,List.getElem_replicate,uL]
    revert this
    cases cs[i]<;>simp[BK]
  have:Rel w E.S (.fns n) cs (Ty.bL (.fns n)):=⟨by simp[Ty.bL],e⟩
  exact⟨this,fun _=>this⟩
 |int k=>intro cs h;match cs,h with|[v],h=>exact fA rfl h
 |bool=>intro cs h;match cs,h with|[v],h=>exact fA rfl h
 |str=>intro cs h;match cs,h with|[v],h=>exact fA rfl h
 |slice bs t=>intro cs h;match cs,h with|[v],h=>exact fA rfl h
 |aK k=>intro cs h;match cs,h with|[v],h=>exact fA rfl h
 |map k v=>intro cs h;match cs,h with|[v],h=>exact fA rfl h
theorem Ty.lu(t:Ty):t.zero.bz t=true:=by
 induction t with
 |pair a b RI RG=>simp[Ty.zero,AV.bz,RI,RG]
 |aK k=>cases k<;>rfl
 |map _ _=>rfl
 |slice bs t=>rfl
 |unit=>rfl
 |_=>exact Ty.bW _
def aX(G:bu):List Field→Nat→Ty→Bool
 |[],_,.unit=>true
 |f::fs,off,.pair a b=>(match G.at f.type with|some td=>Ty.same td.ty a|none=>false)&&Nat.beq f.offset off&&Nat.blt 0 a.size&&aX G fs (off+a.size) b
 |_,_,_=>false
def bF(P:Program)(G:bu)(td:TD):TypeDesc→Bool
 | .bool=>Ty.same td.ty .bool
 | .int k=>Ty.same td.ty (.int k)
 | .string=>Ty.same td.ty .str
 | .slice e=>Ty.same td.ty (.aK .sl)||Nat.beq td.e e&&(match td.ty,G.at e,P.info? e with| .slice bs t,some te,some ie=>Ty.same te.ty t&&Nat.beq ie.bytes bs&&Nat.blt 0 t.size&&Nat.blt 0 bs|_,_,_=>false)
 | .array n e=>(match td.ty,G.at e with| .fns m,some te=>Nat.beq td.e e&&Nat.beq m n&&Ty.same te.ty (.aK .func)|_,_=>false)||Nat.beq td.e e&&(match td.ty,G.at e,P.info? e with| .arr m t,some te,some ie=>Ty.same te.ty t&&Nat.beq m n&&Nat.beq ie.bytes td.e2|_,_,_=>false)
 | .struct fs=>aX G fs.toList 0 td.ty
 | .pointer _=>Ty.same td.ty (.aK .ptr)
 | .map k e=>(Ty.same td.ty (.aK .map)||(match td.ty,G.at k,G.at e with| .map a b,some ta,some tb=>Ty.same ta.ty a&&Ty.same tb.ty b|_,_,_=>false))&&Nat.beq td.e k&&Nat.beq td.e2 e
 | .func _ _ _=>Ty.same td.ty (.aK .func)
 | .interface _=>Ty.same td.ty (.aK .iface)
 |_=>false
def Ty.isMap:Ty→Bool
 | .aK .map| .map _ _=>true
 |_=>false
theorem fq{P:Program}{G:bu}{td:TD}{k e:TypeId}(h:bF P G td (.map k e)=true):td.ty.isMap=true∧td.e=k∧td.e2=e:=by
 simp only[bF,Bool.and_eq_true,Bool.or_eq_true] at h
 obtain⟨⟨h,h1⟩,h2⟩:=h
 refine⟨?_,Nat.eq_of_beq_eq_true h1,Nat.eq_of_beq_eq_true h2⟩
 rcases h with h|h
 ·rw[Ty.aA h];rfl
 ·split at h
  ·rename_i e1 _ _;rw[e1];rfl
  ·cases h
def sA:Value→Bool
 | .agg _=>true
 |_=>false
def cm:TypeDesc→Bool
 | .struct _| .array _ _=>true
 |_=>false
def qQ:TypeDesc→Bool
 | .pointer _=>true
 |_=>false
def j4(P:Program)(G:bu)(t:TypeId)(pr:Bool):Option (TypeId×Nat×TypeId)→List FieldStep→Bool
 |
  none,[]=>match P.underlying t with
  |some d=>qQ d==pr
  |none=>false
 |
  some (s,i,ft),[x]=> !pr&&x.deref&&Nat.beq x.struct s&&Nat.beq x.index i&&(match P.underlying s,P.underlying ft with
  |
   some (.struct fs),some d=> !qQ d&&(match fs[i]? with
   |some f=>Nat.beq f.type ft
   |none=>false)
  |_,_=>false)&&(match G.at s with
  |
   some td=>(match td.ty.sub [.cB i] with
   |some _=>true
   |none=>false)
  |none=>false)
 |_,_=>false
def IX(P:Program)(G:bu)(t:TypeId)(ii:TypeInfo)(m:MS):Bool:=
 match ii.methods.find? (fun x=>x.name==m.name) with
 |
  some r=>(match r.func with
  |some (f,pr)=>Nat.beq f m.f&&j4 P G t pr m.st r.path.toList
  |none=>false)
 |none=>false
def E6(P:Program)(G:bu)(t:TypeId)(td:TD):Bool:=
 match P.info? t,P.underlying t with
 |some i,some d=>td.ms.all (IX P G t i)&&(Nat.beq i.size td.ty.size&&(match i.zero with|some z=>gJ td.ty z.cells.toList&&(sA z==td.ty.isAgg)|none=>false)&&bF P G td d)
 |_,_=>false
def nS(P:Program)(G:bu):Nat→List (Option TD)→Bool
 |_,[]=>true
 |i,none::l=>nS P G (i+1) l
 |i,some td::l=>E6 P G i td&&nS P G (i+1) l
theorem lv(P:Program)(G:bu):∀(l:List (Option TD))(i:Nat),nS P G i l=true→∀j td,l[j]? =some (some td)→E6 P G (i+j) td=true
 |[],_,_,j,td,h=>by simp at h
 |
  none::l,i,h,j,td,hj=>by
  cases j with
  |zero=>simp at hj
  |succ j=>have:=lv P G l (i+1) h j td (by simpa using hj);rw[show i+(j+1)=i+1+j from by omega];exact this
 |
  some x::l,i,h,j,td,hj=>by
  simp only[nS,Bool.and_eq_true] at h
  cases j with
  |zero=>simp at hj;subst hj;exact h.1
  |succ j=>have:=lv P G l (i+1) h.2 j td (by simpa using hj);rw[show i+(j+1)=i+1+j from by omega];exact this
structure aN(P:Program)(G:bu):Prop where
 E6:∀t td,G.at t=some td→E6 P G t td=true
 GP:P.follows .mixedOrders=true
theorem aN.mk'{P:Program}{G:bu}(h:nS P G 0 G=true)(ho:P.follows .mixedOrders=true):aN P G:=
 ⟨fun t td ht=>by
  have:G[t]? =some (some td):=by
   unfold bu.at at ht
   cases hg:G[t]? with
   |none=>rw[hg] at ht;cases ht
   |some x=>rw[hg] at ht;simp at ht;rw[ht]
  have:=lv P G G 0 h t td this
  simpa using this,ho⟩
section
variable{P:Program} {G:bu} (T:aN P G) {t:TypeId} {td:TD} (h:G.at t=some td)
include T h
theorem aN.info:∃i d,P.info? t=some i∧P.underlying t=some d∧i.size=td.ty.size∧bF P G td d=true∧∃z,i.zero=some z∧gJ td.ty z.cells.toList=true∧sA z=td.ty.isAgg:=by
 have:=T.E6 t td h
 unfold Ax.E6 at this
 split at this
 ·rename_i i d hi hd
  simp only[Bool.and_eq_true] at this
  obtain⟨_,⟨h1,h2⟩,h3⟩:=this
  split at h2
  ·rename_i z hz
   simp only[Bool.and_eq_true,beq_iff_eq] at h2
   exact⟨i,d,hi,hd,Nat.eq_of_beq_eq_true h1,h3,z,hz,h2.1,h2.2⟩
  ·cases h2
 ·cases this
theorem aN.M0{m:MS}(hm:m∈td.ms):∃i r f pr,P.info? t=some i∧i.methods.find? (fun x=>x.name==m.name)=some r∧r.func=some (f,pr)∧f=m.f∧j4 P G t pr m.st r.path.toList=true:=by
 have:=T.E6 t td h
 unfold Ax.E6 at this
 split at this
 ·rename_i i d hi hd
  simp only[Bool.and_eq_true,List.all_eq_true] at this
  have:=this.1 m hm
  unfold IX at this
  split at this
  ·rename_i r hr
   split at this
   ·rename_i f pr hf
    simp only[Bool.and_eq_true] at this
    exact⟨i,r,f,pr,hi,hr,hf,Nat.eq_of_beq_eq_true this.1,this.2⟩
   ·cases this
  ·cases this
 ·cases this
theorem aN.size(w:World):(sizeOf t).run P w= .ok td.ty.size w:=by
 obtain⟨i,d,h1,_,h2,_⟩:=T.info h
 simp[sizeOf,typeInfo,h1,h2]
end
theorem cd{P:Program}{G:bu}{td:TD}{d:TypeDesc}(h:bF P G td d=true):cm d=td.ty.isAgg:=by
 cases d<;>simp only[bF] at h<;>try (first|(have:=Ty.aA h;rw[this];rfl)|cases h)
 ·rw[Bool.or_eq_true] at h
  rcases h with h|h
  ·have:=Ty.aA h;rw[this];rfl
  ·simp only[Bool.and_eq_true] at h
   obtain⟨_,h⟩:=h
   split at h
   ·rename_i h1 _ _;rw[h1];rfl
   ·cases h
 ·rw[Bool.or_eq_true] at h
  rcases h with h|h
  ·split at h
   ·rename_i h1 _;rw[h1];rfl
   ·cases h
  ·simp only[Bool.and_eq_true] at h
   obtain⟨_,h⟩:=h
   split at h
   ·rename_i h1 _ _;rw[h1];rfl
   ·cases h
 ·simp only[Bool.and_eq_true,Bool.or_eq_true] at h
  rcases h.1.1 with h|h
  ·have:=Ty.aA h;rw[this];rfl
  ·split at h
   ·rename_i h1 _ _;rw[h1];rfl
   ·cases h
 ·rename_i fs
  show true=_
  revert h
  generalize fs.toList=l
  intro h
  cases l with
  |nil=>cases ht:td.ty<;>rw[ht] at h<;>simp[aX] at h;rfl
  |cons f l=>cases ht:td.ty<;>rw[ht] at h<;>simp[aX] at h;rfl
theorem aN.isAgg{P:Program}{G:bu}(T:aN P G){t:TypeId}{td:TD}(h:G.at t=some td)(w:World):(isAgg t).run P w= .ok td.ty.isAgg w:=by
 obtain⟨i,d,_,h1,_,h2,_⟩:=T.info h
 have:=cd h2
 unfold Go.isAgg
 simp only[Sem.run_bind,underlying,run_program,Result.andThen_ok,h1,Sem.run_pure]
 cases d<;>simp[cm] at this ⊢ <;>exact this
theorem aN.zero{P:Program}{G:bu}(T:aN P G){t:TypeId}{td:TD}(h:G.at t=some td)(w:World):∃z,(zeroValue t).run P w= .ok z w∧gJ td.ty z.cells.toList=true∧sA z=td.ty.isAgg:=by
 obtain⟨i,d,h1,_,_,_,z,hz,h3,h4⟩:=T.info h
 exact⟨z,by simp[zeroValue,typeInfo,h1,hz],h3,h4⟩
end Go.Ax
namespace Go.Ax
def kF:Value→AV
 | .bool b=>.val .bool b
 | .int k n=>if decide (k.min≤n)&&decide (n≤k.max) then .val (.int k) n else .bot
 | .string s=>if Nat.ble s.data.toList.length aF then .val .str s.data.toList else .bot
 | .slice none 0 0=>.aS
 | .pointer none=>.dW
 | .map none=>.cO
 | .nilFunc=>.dt
 | .nilIface=>.eI
 |_=>.bot
def lz:List zq→Nat→AV
 |[],_=>.bot
 |x::l,g=>if Nat.beq x.g g then .aZ x.t x.x else lz l g
def aQ(gl:Ctx)(tm:List AV):Operand→AV
 | .tmp t=>(tm[t]?).getD .bot
 | .const v=>kF v
 | .global g=>lz gl.gl g
 | .func f=>.func (.func f) .nil .nil
theorem RV.cJ{E:Env}{w:World}{x:AV}{v:Value}(h:bN E w x v):RV E w x v:=by
 cases x with
 |bot=>trivial
 |dX l=>rcases h with⟨h,_⟩|⟨_,h⟩<;>simp[AV.isAgg,RC] at h
 |opt c a=>rcases h with⟨h,_⟩|⟨_,h⟩<;>simp[AV.isAgg,RC] at h
 |_=>exact h
def AV.plain:AV→Bool
 | .bot| .dX _| .opt _ _=>false
 |_=>true
theorem RV.fB{E:Env}{w:World}{x:AV}{v:Value}(hp:x.plain=true)(h:RV E w x v):bN E w x v:=by
 cases x<;>first|exact h|(simp[AV.plain] at hp)
theorem RV.atom{E:Env}{w:World}{x:AV}{v:Value}(hp:x.atom=true)(h:RV E w x v):RC E w x [v]:=by
 cases x<;>first
  |(simp[AV.atom] at hp;done)
  |(
   rcases h with⟨h1,_⟩|⟨_,h2⟩
   ·simp[AV.isAgg,AV.atom] at h1 hp;(try rw[h1] at hp;simp at hp)
   ·exact h2)
theorem uN{E:Env}{w:World}(v:Value):RV E w (kF v) v:=by
 unfold kF
 split
 ·exact Or.inr ⟨rfl,rfl⟩
 ·rename_i k n
  split
  ·rename_i h
   simp at h
   exact Or.inr ⟨rfl,rfl,h.1,h.2⟩
  ·trivial
 ·rename_i s
  split
  ·rename_i h
   refine Or.inr ⟨rfl,?_,Nat.le_of_ble_eq_true h⟩
   cases s;rfl
  ·trivial
 ·exact Or.inr ⟨rfl,rfl⟩
 ·exact Or.inr ⟨rfl,rfl⟩
 ·exact Or.inr ⟨rfl,rfl⟩
 ·exact Or.inr ⟨rfl,rfl⟩
 ·exact Or.inr ⟨rfl,rfl⟩
 ·trivial
theorem zr{E:Env}{w:World}{gl:List zq}(h:∀x∈gl,E.S x.g∧∃cs,ka w ⟨x.g,0,none⟩ cs∧Rel w E.S x.t cs x.x)(g:Nat):RV E w (lz gl g) (.pointer (some ⟨g,0,none⟩)):=by
 induction gl with
 |nil=>trivial
 |
  cons x l ih=>
  unfold lz
  split
  ·rename_i hg
   have hg:=Nat.eq_of_beq_eq_true hg
   obtain⟨h1,cs,h2,h3⟩:=h x (List.mem_cons_self ..)
   subst hg
   exact Or.inr ⟨rfl,x.g,0,cs,rfl,h1,h2,h3⟩
  ·exact ih (fun y hy=>h y (List.mem_cons_of_mem _ hy))
theorem dN{gl:Ctx}{σ:St}{E:Env}{a:Act}{w:World}(h:bD gl σ E a w)(x:Operand):RV E w (aQ gl σ.tm x) (a.eval x):=by
 cases x with
 |
  tmp t=>
  simp only[aQ,Act.eval]
  cases hx:σ.tm[t]? with
  |none=>trivial
  |
   some y=>
   have Ru:t<a.tmps.size:=by rw[h.len];exact(List.getElem?_eq_some_iff.1 hx).1
   have:=h.tm t y hx a.tmps[t] (by simp[Ru])
   simpa[Array.getD,Ru] using this
 |const v=>exact uN v
 |global g=>exact zr h.hw.gl.1 g
 |func f=>exact Or.inr ⟨rfl, #[], #[],rfl,rfl,rfl,rfl,rfl⟩
theorem cw(k:IntKind)(n:Int):k.min≤k.wrap n∧k.wrap n≤k.max:=by
 cases k<;>simp only[IntKind.wrap,IntKind.min,IntKind.max,IntKind.bits,IntKind.signed]<;>(simp;(try split))<;>omega
theorem IntKind.range(k:IntKind):k.min≤0∧0≤k.max:=by cases k<;>decide
theorem RV.int{E:Env}{w:World}{k:IntKind}{n:Int}(h:k.min≤n∧n≤k.max):RV E w (.val (.int k) n) (.int k n):=Or.inr ⟨rfl,rfl,h.1,h.2⟩
theorem RV.bool{E:Env}{w:World}{b:Bool}:RV E w (.val .bool b) (.bool b):=Or.inr ⟨rfl,rfl⟩
theorem RV.bY{E:Env}{w:World}{k:IntKind}{n:Int}{v:Value}(h:RV E w (.val (.int k) n) v):v= .int k n∧k.min≤n∧n≤k.max:=by
 rcases h with⟨h,_⟩|⟨_,h,h2⟩
 ·simp[AV.isAgg,Ty.isAgg] at h
 ·simp at h;exact⟨h,h2⟩
theorem RV.cP{E:Env}{w:World}{b:Bool}{v:Value}(h:RV E w (.val .bool b) v):v= .bool b:=by
 rcases h with⟨h,_⟩|⟨_,h⟩
 ·simp[AV.isAgg,Ty.isAgg] at h
 ·simpa[RC,Rel] using h
theorem RV.dR{E:Env}{w:World}{s:List UInt8}{v:Value}(h:RV E w (.val .str s) v):v= .string ⟨s.toArray⟩∧s.length≤aF:=by
 rcases h with⟨h,_⟩|⟨_,h,h2⟩
 ·simp[AV.isAgg,Ty.isAgg] at h
 ·simp at h;exact⟨h,h2⟩
theorem RV.str{E:Env}{w:World}{s:List UInt8}(h:s.length≤aF):RV E w (.val .str s) (.string ⟨s.toArray⟩):=Or.inr ⟨rfl,rfl,h⟩
def eK(op:BinOp)(k:IntKind)(x y:Int):Int:=
 let a:=BitVec.ofInt k.bits x
 let b:=BitVec.ofInt k.bits y
 match op with
 | .and=>k.wrap (a &&& b).toNat
 | .or=>k.wrap (a ||| b).toNat
 | .xor=>k.wrap (a ^^^ b).toNat
 |_=>k.wrap (a &&& ~~~b).toNat
structure VC where
 p:Prop
 d:Decidable p
abbrev vc(p:Prop)[d:Decidable p]:VC:=⟨p,d⟩
def cD:List VC→Prop
 |[]=>True
 |v::l=>v.p∧cD l
def mE:Option TypeDesc→Bool
 |some .bool=>true
 |_=>false
theorem nT{x:Option TypeDesc}(h:mE x=true):x=some .bool:=by
 unfold mE at h
 split at h
 ·rfl
 ·cases h
def nU(op:BinOp)(k:IntKind)(a:Int)(k':IntKind)(b:Int):Option (AV×List VC):=
 match op with
 | .shl=>some (.val (.int k) (k.wrap (a*2^(min b.toNat k.bits))),[vc (0≤b)])
 | .shr=>some (.val (.int k) (a.fdiv (2^(min b.toNat k.bits))),[vc (0≤b)])
 |
  _=>
  if Nat.beq (IntKind.code k) (IntKind.code k') then
   match op with
   | .add=>some (.val (.int k) (k.wrap (a+b)),[])
   | .sub=>some (.val (.int k) (k.wrap (a -b)),[])
   | .mul=>some (.val (.int k) (k.wrap (a*b)),[])
   | .quo=>some (.val (.int k) (k.wrap (a.tdiv b)),[vc (b≠0)])
   | .rem=>some (.val (.int k) (a.tmod b),[vc (b≠0)])
   | .and=>some (.val (.int k) (eK .and k a b),[])
   | .or=>some (.val (.int k) (eK .or k a b),[])
   | .xor=>some (.val (.int k) (eK .xor k a b),[])
   | .andNot=>some (.val (.int k) (eK .andNot k a b),[])
   | .eql=>some (.val .bool (decide (a=b)),[])
   | .neq=>some (.val .bool (!decide (a=b)),[])
   | .lss=>some (.val .bool (decide (a<b)),[])
   | .leq=>some (.val .bool (decide (a≤b)),[])
   | .gtr=>some (.val .bool (decide (b<a)),[])
   | .geq=>some (.val .bool (decide (b≤a)),[])
   |_=>none
  else none
def sB(P:Program)(t:TypeId)(op:BinOp):AV→AV→Option (AV×List VC)
 | .val (.int k) a,.val (.int k') b=>nU op k a k' b
 |
  .val .bool a,.val .bool b=>
  match op with
  | .eql=>some (.val .bool (a==b),[vc (mE (P.underlying t)=true)])
  | .neq=>some (.val .bool (!(a==b)),[vc (mE (P.underlying t)=true)])
  |_=>none
 |
  .val .str a,.val .str b=>
  match op with
  | .add=>some (.val .str (a++b),[vc (a.length+b.length≤aF)])
  | .eql=>some (.val .bool (decide (a=b)),[])
  | .neq=>some (.val .bool (!decide (a=b)),[])
  | .lss=>some (.val .bool (Op.bytesLess a b),[])
  | .leq=>some (.val .bool (Op.bytesLess a b||decide (a=b)),[])
  | .gtr=>some (.val .bool (!(Op.bytesLess a b||decide (a=b))),[])
  | .geq=>some (.val .bool (!Op.bytesLess a b),[])
  |_=>none
 |_,_=>none
theorem dS{a b:Int}(ha:0≤a)(hb:0≤b):a % b≤a:=by
 rcases Int.lt_or_eq_of_le hb with h|h
 ·have:=Int.emod_add_mul_ediv a b
  have h1:0≤a / b:=Int.ediv_nonneg ha hb
  have h2:0≤b*(a / b):=Int.mul_nonneg hb h1
  omega
 ·subst h;simp
theorem uO(k:IntKind)(a b:Int)(ha:k.min≤a∧a≤k.max):k.min≤a.tmod b∧a.tmod b≤k.max:=by
 have hr:=IntKind.range k
 rcases Int.le_total 0 a with h|h
 ·have h1:=Int.tmod_nonneg b h
  have h2:a.tmod b≤a:=by
   rcases Int.le_total 0 b with hb|hb
   ·rw[Int.tmod_eq_emod_of_nonneg h];exact dS h hb
   ·have:a.tmod b=a.tmod (-b):=by rw[Int.tmod_neg]
    rw[this,Int.tmod_eq_emod_of_nonneg h];exact dS h (by omega)
  omega
 ·have h1:(-a).tmod b= -(a.tmod b):=Int.neg_tmod ..
  have h2:0≤-a:=by omega
  have h3:=Int.tmod_nonneg b h2
  have h4:(-a).tmod b≤-a:=by
   rcases Int.le_total 0 b with hb|hb
   ·rw[Int.tmod_eq_emod_of_nonneg h2];exact dS h2 hb
   ·have:(-a).tmod b=(-a).tmod (-b):=by rw[Int.tmod_neg]
    rw[this,Int.tmod_eq_emod_of_nonneg h2];exact dS h2 (by omega)
  omega
theorem uP(k:IntKind)(a:Int)(n:Nat)(ha:k.min≤a∧a≤k.max):k.min≤a.fdiv (2^n)∧a.fdiv (2^n)≤k.max:=by
 have hr:=IntKind.range k
 have hp:(1:Int)≤2^n:=by
  have:=Int.pow_pos (n:=2) (m:=n) (by omega)
  omega
 rw[Int.fdiv_eq_ediv_of_nonneg _ (by omega)]
 rcases Int.le_total 0 a with h|h
 ·have h1:0≤a / 2^n:=Int.ediv_nonneg h (by omega)
  have h2:a / 2^n≤a:=Int.ediv_le_self _ h
  omega
 ·have h1:a / 2^n≤0:=by
   have:=Int.ediv_le_ediv (c:=2^n) (by omega) h
   simpa using this
  have h2:a≤a / 2^n:=by
   rw[Int.le_ediv_iff_mul_le (by omega)]
   have:=Int.mul_le_mul_of_nonpos_left h hp
   omega
  omega
theorem sC{P:Program}{E:Env}{w:World}{op:BinOp}{t:TypeId}{k k':IntKind}{a b:Int}{r:AV}{vc:List VC}(ha:k.min≤a∧a≤k.max)(h:nU op k a k' b=some (r,vc))(Rx:cD vc):
 ∃v,(binOp op t (.int k a) (.int k' b)).run P w= .ok v w∧RV E w r v:=by
 unfold nU at h
 split at h
 ·cases h
  exact⟨_,by simp[binOp,Op.shift,show¬b<0 from by have:=Rx.1;omega],RV.int (cw k _)⟩
 ·cases h
  exact⟨_,by simp[binOp,Op.shift,show¬b<0 from by have:=Rx.1;omega],RV.int (uP k _ _ ha)⟩
 ·rename_i h1 h2
  split at h
  ·rename_i hk
   have:=IntKind.eZ (Nat.eq_of_beq_eq_true hk)
   subst this
   split at h<;>cases h
   ·exact⟨_,by simp[binOp,Op.intArith],RV.int (cw k _)⟩
   ·exact⟨_,by simp[binOp,Op.intArith],RV.int (cw k _)⟩
   ·exact⟨_,by simp[binOp,Op.intArith],RV.int (cw k _)⟩
   ·exact⟨_,by simp[binOp,Op.intDiv,show b≠0 from Rx.1],RV.int (cw k _)⟩
   ·exact⟨_,by simp[binOp,Op.intDiv,show b≠0 from Rx.1],RV.int (uO k _ _ ha)⟩
   ·exact⟨.int k (eK .and k a b),by simp[binOp,Op.intBits,eK],RV.int (cw k _)⟩
   ·exact⟨.int k (eK .or k a b),by simp[binOp,Op.intBits,eK],RV.int (cw k _)⟩
   ·exact⟨.int k (eK .xor k a b),by simp[binOp,Op.intBits,eK],RV.int (cw k _)⟩
   ·exact⟨.int k (eK .andNot k a b),by simp[binOp,Op.intBits,eK],RV.int (cw k _)⟩
   ·exact⟨_,by simp[binOp,Op.intCmp];rfl,RV.bool⟩
   ·exact⟨_,by simp[binOp,Op.intCmp];rfl,RV.bool⟩
   ·exact⟨_,by simp[binOp,Op.intCmp],RV.bool⟩
   ·exact⟨_,by simp[binOp,Op.intCmp],RV.bool⟩
   ·exact⟨_,by simp[binOp,Op.intCmp],RV.bool⟩
   ·exact⟨_,by simp[binOp,Op.intCmp],RV.bool⟩
  ·cases h
theorem BL{P:Program}{E:Env}{w:World}{op:BinOp}{t:TypeId}{x y:AV}{vx vy:Value}{r:AV}{vc:List VC}(hx:RV E w x vx)(hy:RV E w y vy)(h:sB P t op x y=some (r,vc))(Rx:cD vc):
 ∃v,(binOp op t vx vy).run P w= .ok v w∧RV E w r v:=by
 unfold sB at h
 split at h
 ·obtain⟨rfl,h1⟩:=RV.bY hx
  obtain⟨rfl,h2⟩:=RV.bY hy
  exact sC h1 h Rx
 ·have:=RV.cP hx;subst this
  have:=RV.cP hy;subst this
  split at h
  ·cases h
   have hb:=Rx.1
   exact⟨_,by simp[binOp,run_equal_bool w t _ _ (nT hb)],RV.bool⟩
  ·cases h
   have hb:=Rx.1
   exact⟨_,by simp[binOp,run_equal_bool w t _ _ (nT hb)],RV.bool⟩
  ·cases h
 ·obtain⟨rfl,h1⟩:=RV.dR hx
  obtain⟨rfl,h2⟩:=RV.dR hy
  have beq:∀(a b:List UInt8),(a==b)=decide (a=b):=fun a b=>by
   by_cases h:a=b
   ·subst h;simp
   ·simp[h]
  split at h<;>cases h
  ·rename_i a b _
   have hb:List.length a+List.length b≤aF:=Rx.1
   refine⟨.string ⟨(List.append a b).toArray⟩,?_,RV.str (by show(List.append a b).length≤aF;rw[List.append_eq,List.length_append];exact hb)⟩
   have sz:∀l:List UInt8,(ByteArray.mk l.toArray).size=l.length:=fun l=>by show l.toArray.size=_;simp
   have hmax:IntKind.i64.max=9223372036854775807:=by decide
   have hn:¬(((ByteArray.size ⟨List.toArray a⟩+ByteArray.size ⟨List.toArray b⟩:Nat):Int)>IntKind.i64.max):=by
    rw[sz,sz,hmax];unfold aF at hb;omega
   have happ:(⟨List.toArray a⟩:ByteArray)++⟨List.toArray b⟩=⟨(List.append a b).toArray⟩:=by
    apply ByteArray.ext
    simp
   simp only[binOp,Op.stringOp,if_neg hn,Sem.run_pure,happ]
  all_goals(refine⟨_,?_,RV.bool⟩;simp[binOp,Op.stringOp,beq])
 ·cases h
end Go.Ax
namespace Go.Ax
def fa:aC→Ty
 | .var t _=>t
 | .row _ _ t xs=>.arr xs.length t
 | .cu _ _ t xs i _=>fV i xs.length t
 | .bQ _ _ t xs _ f=>jE xs.length t f
 |_=>.unit
def aC.mem:aC→Bool
 | .var _ _| .row _ _ _ _| .cu _ _ _ _ _ _| .bQ _ _ _ _ _ _=>true
 |_=>false
def gK:aC→Path→Option AV
 | .var _ v,p=>v.get p
 | .row _ _ t xs,.idx i::p=>cS (.arr xs.length t) xs (.idx i::p)
 | .cu _ _ _ _ _ v,.cB 1::p=>v.get p
 | .bQ _ _ _ _ _ (some (_,v)),.cB 1::p=>v.get p
 |_,_=>none
theorem RB.bt{E:Env}{w:World}{b:Nat}{k:aC}(h:RB E w b k)(hm:k.mem=true):E.bt b=fa k:=by
 cases k with
 |var t v=>exact h.1
 |row e bs t xs=>exact h.1
 |cu e bs t xs i v=>exact h.1
 |bQ e bs t xs e2 f=>exact h.1
 |_=>cases hm
theorem ka.of_heap{w:World}{g:Nat}{c:Array Value}{e:TypeId}{fr:Nat×Nat}(h:w.heap[g]? =some (.cells c e fr))(o n:Nat):ka w ⟨g,o,none⟩ ((c.toList.drop o).take n):=by
 intro j v hj
 have e1:((⟨g,o,none⟩:Addr).add j)=⟨g,o+j,none⟩:=by unfold Addr.add;split<;>simp_all
 rw[e1]
 simp only[World.cell?,h]
 rw[List.getElem?_take] at hj
 split at hj
 ·rw[List.getElem?_drop] at hj
  simpa using hj
 ·cases hj
theorem ka.sub{w:World}{g o:Nat}{cs:List Value}(h:ka w ⟨g,o,none⟩ cs)(k n:Nat):ka w ⟨g,o+k,none⟩ ((cs.drop k).take n):=by
 intro j v hj
 have e1:∀o,((⟨g,o,none⟩:Addr).add j)=⟨g,o+j,none⟩:=by intro o;unfold Addr.add;split<;>simp_all
 have e2:((⟨g,o,none⟩:Addr).add (k+j))=⟨g,o+(k+j),none⟩:=by unfold Addr.add;split<;>simp_all
 rw[e1]
 rw[List.getElem?_take] at hj
 split at hj
 ·rw[List.getElem?_drop] at hj
  have:=h (k+j) v hj
  rw[e2] at this
  rw[Nat.add_assoc];exact this
 ·cases hj
theorem kG{E:Env}{w:World}{b:Nat}{k:aC}{p:Path}{u:AV}(h:RB E w b k)(hv:(E.bt b).valid p)(hr:gK k p=some u):
 ∃g s cs,E.g b=some g∧(E.bt b).sub p=some s∧u.bz s=true∧ka w ⟨g,(E.bt b).off p,none⟩ cs∧RC E w u cs:=by
 cases k with
 |
  var t v=>
  obtain⟨h1,h2,g,c,e,h3,h4,h5⟩:=h
  rw[h1] at hv ⊢
  obtain⟨s,e1,e2,e3,e4⟩:=AV.dj h5 h2 hv hr
  exact⟨g,s,_,h3,e1,e2,ka.of_heap h4 _ _,e4⟩
 |
  row e bs t xs=>
  obtain⟨h1,h2,h3,h4,a,cap,h5,h6,h7⟩:=h
  rw[h1] at hv ⊢
  cases p with
  |nil=>simp[gK] at hr
  |
   cons s p=>
   cases s with
   |cB k=>simp[gK] at hr
   |
    idx i=>
    have hi:i<xs.length:=hv.1
    rcases h7 with⟨_,_,h9⟩|⟨g,c,h7,h8,h9,Sy,h11,Sz⟩
    ·subst h9;simp at hi
    ·have hR:Rel w E.S (.arr xs.length t) (c.toList.take (xs.length*t.size)) xs:=⟨rfl,Sz⟩
     obtain⟨s,e1,e2,e3,e4⟩:=lr hR hv hr
     refine⟨g,s,_,h7,e1,e2,?_,e4⟩
     have hlen:xs.length*t.size≤c.toList.length:=by
      rw[show c.toList.length=c.size from Array.length_toList,Sy];exact Nat.mul_le_mul_right _ h11
     simp only[List.length_take] at e3
     rw[List.drop_take,List.take_take,Nat.min_eq_left (by omega)]
     exact ka.of_heap h9 _ _
 |
  cu e bs t xs i v=>
  obtain⟨h1,h2,h3,h4,h5,h6,g,cap,c,q1,q2,q3,q4,q5,q6,q7,q8,q9⟩:=h
  rw[h1] at hv ⊢
  unfold gK at hr
  split at hr
  ·rename_i hk;cases hk
  ·rename_i hk;cases hk
  ·rename_i p hk
   cases hk
   have RE:t.valid p:=hv
   obtain⟨s,e1,e2,e3,e4⟩:=AV.dj q8 h6 RE hr
   refine⟨g,s,_,q3,e1,e2,?_,e4⟩
   rw[List.length_take,List.length_drop] at e3
   rw[List.drop_take,List.take_take,Nat.min_eq_left (by omega),List.drop_drop]
   have:=ka.of_heap q4 (i*t.size+t.off p) s.size
   exact this
  ·rename_i hk;cases hk
  ·cases hr
 |
  bQ e bs t xs e2 f=>
  obtain⟨h1,h2,h3,h4,h5,g,cap,c,og,q1,q2,q3,q4,q5,q6,q7,q8⟩:=h
  unfold gK at hr
  split at hr
  ·rename_i hk;cases hk
  ·rename_i hk;cases hk
  ·rename_i hk;cases hk
  ·rename_i _ _ _ _ _ i v p hk
   cases hk
   obtain⟨hi,hconf⟩:=h5 i v rfl
   obtain⟨u',r1,r2,_⟩:=q8 i (xs.getD i t.bL) (by rw[List.getD_eq_getElem?_getD,List.getElem?_eq_getElem hi];rfl)
   obtain⟨_,r2⟩:=r2 v rfl
   rw[h1] at hv ⊢
   have RE:t.valid p:=hv
   obtain⟨s,e1,e2,e3,e4⟩:=AV.dj r2 hconf RE hr
   have hmid:(c.toList.drop (i*t.size)).take t.size= [u']:=by
    rw[h2,Nat.mul_one]
    have hc:c.toList[i]? =some u':=by simpa using r1
    obtain⟨Ru,hc⟩:=List.getElem?_eq_some_iff.1 hc
    rw[List.drop_eq_getElem_cons Ru,hc];rfl
   rw[←hmid] at e3 e4
   refine⟨g,s,_,q3,e1,e2,?_,e4⟩
   rw[List.length_take,List.length_drop] at e3
   rw[List.drop_take,List.take_take,Nat.min_eq_left (by omega),List.drop_drop]
   have:=ka.of_heap q4 (i*t.size+t.off p) s.size
   have ho:(jE xs.length t (some (i,v))).off (.cB 1::p)=i*t.size+t.off p:=by simp[jE,fV,Ty.off,Ty.size]
   rw[ho]
   exact this
  ·cases hr
 |_=>simp[gK] at hr
theorem gL{P:Program}{G:bu}(T:aN P G){t:TypeId}{td:TD}(ht:G.at t=some td){E:Env}{w:World}{a:Addr}{cs:List Value}{u:AV}(hr:ka w a cs)(hc:RC E w u cs)(hu:u.bz td.ty=true):
 ∃v,(Instr.loadAt t (.pointer (some a))).run P w= .ok v w∧RV E w u v:=by
 have hl:=RC.len hc
 have hs:=AV.cL hu
 have ha:=AV.eJ hu
 have hcells:=run_loadCells_list (P:=P) w a cs hr
 by_cases Rv:td.ty.isAgg=true
 ·refine⟨.agg cs.toArray,?_,RV.cJ (Or.inl ⟨by rw[ha];exact Rv,cs.toArray,rfl,by simpa using hc⟩)⟩
  have:cs.length=td.ty.size:=by omega
  simp[Instr.loadAt,Instr.sureAddr,loadVar,T.isAgg ht,T.size ht,Rv,←this,hcells]
 ·have hagg':td.ty.isAgg=false:=by simpa using Rv
  have h1:td.ty.size=1:=by cases h:td.ty<;>rw[h] at hagg'<;>simp[Ty.isAgg] at hagg'<;>rfl
  obtain⟨v,rfl⟩:∃v,cs= [v]:=by
   match cs,hl with
   |[v],_=>exact⟨v,rfl⟩
   |[],hl=>simp at hl;omega
   |_::_::_,hl=>simp at hl;omega
  have h0:w.cell? a=some v:=by
   have:=hr 0 v rfl
   simpa[Addr.add] using this
  exact⟨v,by simp[Instr.loadAt,Instr.sureAddr,loadVar,T.isAgg ht,hagg',h0],RV.cJ (Or.inr ⟨by rw[ha];exact hagg',hc⟩)⟩
def nV(G:bu)(hb:Nat→Option aC)(t:TypeId):AV→Option AV
 |
  .ptr b p=>match G.at t,hb b with
  |
   some td,some k=>match gK k p with
   |some u=>if u.bz td.ty then some u else none
   |none=>none
  |_,_=>none
 |
  .aZ u x=>match G.at t with
  |some td=>if Ty.same u td.ty then some (.val u x) else none
  |none=>none
 |_=>none
def HB(hb:Nat→Option aC)(hp:List (Option aC)):Prop:=∀b k,hb b=some k→hp[b]? =some (some k)
theorem lA{P:Program}{G:bu}(T:aN P G){gl:Ctx}{E:Env}{w:World}{hp:List (Option aC)}(hw:HW gl E w hp){hb:Nat→Option aC}(hB:HB hb hp){t:TypeId}{x u:AV}{vx:Value}(hx:RV E w x vx)(h:nV G hb t x=some u):
 ∃v,(Instr.loadAt t vx).run P w= .ok v w∧RV E w u v:=by
 unfold nV at h
 split at h
 ·rename_i b p
  split at h
  ·rename_i td k ht hk
   split at h
   ·rename_i y hy
    split at h
    ·rename_i hc
     cases h
     have hx:=RV.atom rfl hx
     obtain⟨g,hg,e,hv⟩:=hx
     simp at e;subst e
     obtain⟨g',s,cs,h1,h2,h3,h4,h5⟩:=kG (hw.bP b k (hB b k hk)) hv hy
     rw[hg] at h1;cases h1
     exact gL T ht h4 h5 hc
    ·cases h
   ·cases h
  ·cases h
 ·rename_i ty x
  split at h
  ·rename_i td ht
   split at h
   ·rename_i hc
    cases h
    have hx:=RV.atom rfl hx
    obtain⟨b,o,cs,e,h1,h2,h3⟩:=hx
    simp at e;subst e
    exact gL T ht h2 (u:=.val ty x) h3 hc
   ·cases h
  ·cases h
 ·cases h
theorem Ty.hZ:∀{t s:Ty}{p q:Path},t.sub p=some s→t.sub (p++q)=s.sub q∧t.off (p++q)=t.off p+s.off q∧(t.valid p→s.valid q→t.valid (p++q)):=by
 intro t
 have base:∀{t s:Ty}{q:Path},t.sub []=some s→t.sub ([]++q)=s.sub q∧t.off ([]++q)=t.off []+s.off q∧(t.valid []→s.valid q→t.valid ([]++q)):=by
  intro t s q h
  have:t=s:=by cases t<;>simpa[Ty.sub] using h
  subst this
  exact⟨rfl,by cases t<;>simp[Ty.off],fun _ h=>h⟩
 induction t with
 |
  pair a b RI RG=>
  intro s p q h
  cases p with
  |nil=>exact base h
  |
   cons x p=>
   cases x with
   |
    cB k=>
    cases k with
    |
     zero=>
     obtain⟨h1,h2,h3⟩:=RI (q:=q) h
     exact⟨h1,h2,h3⟩
    |
     succ k=>
     obtain⟨h1,h2,h3⟩:=RG (q:=q) (p:=.cB k::p) h
     refine⟨h1,?_,h3⟩
     simp only[List.cons_append,Ty.off] at h2 ⊢
     rw[h2];omega
   |idx i=>simp[Ty.sub] at h
 |
  arr n t ih=>
  intro s p q h
  cases p with
  |nil=>exact base h
  |
   cons x p=>
   cases x with
   |cB k=>simp[Ty.sub] at h
   |
    idx i=>
    obtain⟨h1,h2,h3⟩:=ih (q:=q) h
    refine⟨h1,?_,fun⟨hi,hv⟩ hq=>⟨hi,h3 hv hq⟩⟩
    simp only[List.cons_append,Ty.off]
    rw[h2];omega
 |
  fns n=>
  intro s p q h
  cases p with
  |nil=>exact base h
  |
   cons x p=>
   cases x with
   |cB k=>simp[Ty.sub] at h
   |
    idx i=>
    cases p with
    |cons _ _=>simp[Ty.sub] at h
    |
     nil=>
     cases h
     cases q with
     |nil=>exact⟨rfl,rfl,fun h _=>h⟩
     |cons y q=>exact⟨by simp[Ty.sub],by simp[Ty.off],fun _ h=>by cases h⟩
 |
  _=>
  intro s p q h
  cases p with
  |nil=>exact base h
  |cons x p=>simp[Ty.sub] at h
theorem ia{G:bu}:∀{fs:List Field}{o:Nat}{t:Ty}{i:Nat}{s:Ty},aX G fs o t=true→t.sub [.cB i]=some s→
 ∃f td,fs[i]? =some f∧G.at f.type=some td∧td.ty=s∧f.offset=o+t.off [.cB i]∧0<s.size∧t.valid [.cB i]
 |
  [],o,t,i,s,h,hs=>by
  cases t<;>simp[aX] at h
  simp[Ty.sub] at hs
 |
  f::fs,o,t,i,s,h,hs=>by
  cases t with
  |
   pair a b=>
   simp only[aX,Bool.and_eq_true] at h
   obtain⟨⟨⟨h1,h2⟩,h3⟩,h4⟩:=h
   cases i with
   |
    zero=>
    split at h1
    ·rename_i td Sq
     have:a=s:=by
      simp only[Ty.sub] at hs
      cases hs;rfl
     subst this
     have ho:a.off []=0:=by cases a<;>rfl
     refine⟨f,td,rfl,Sq,Ty.aA h1,?_,by simp[Nat.blt] at h3;omega,?_⟩
     ·simp only[Ty.off,ho];exact Nat.eq_of_beq_eq_true h2
     ·simp only[Ty.valid]
    ·cases h1
   |
    succ i=>
    obtain⟨f',td,e1,e2,e3,e4,e5,e6⟩:=ia h4 (i:=i) hs
    refine⟨f',td,by simpa using e1,e2,e3,?_,e5,e6⟩
    simp only[Ty.off];omega
  |_=>simp[aX] at h
theorem aN.struct{P:Program}{G:bu}(T:aN P G){t:TypeId}{td:TD}(h:G.at t=some td){i:Nat}{s:Ty}(hs:td.ty.sub [.cB i]=some s):
 ∃fs f tf,P.underlying t=some (.struct fs)∧fs[i]? =some f∧G.at f.type=some tf∧tf.ty=s∧f.offset=td.ty.off [.cB i]∧0<s.size∧td.ty.valid [.cB i]:=by
 obtain⟨ii,d,_,h1,_,h2,_⟩:=T.info h
 have Rv:=cd h2
 cases hd:d with
 |
  struct fs=>
  subst hd
  obtain⟨f,tf,e1,e2,e3,e4,e5,e6⟩:=ia (fs:=fs.toList) (o:=0) h2 hs
  exact⟨fs,f,tf,h1,by simpa using e1,e2,e3,by omega,e5,e6⟩
 |
  array n e=>
  subst hd
  simp only[bF] at h2
  rw[Bool.or_eq_true] at h2
  rcases h2 with h2|h2
  ·split at h2
   ·rename_i e1 _;rw[e1] at hs;simp[Ty.sub] at hs
   ·cases h2
  simp only[Bool.and_eq_true] at h2
  obtain⟨_,h2⟩:=h2
  split at h2
  ·rename_i e1 _ _;rw[e1] at hs;simp[Ty.sub] at hs
  ·cases h2
 |
  _=>
  subst hd
  simp only[cm] at Rv
  cases ht:td.ty<;>rw[ht] at Rv hs<;>simp[Ty.isAgg] at Rv<;>simp[Ty.sub] at hs
theorem lT{P:Program}{G:bu}(T:aN P G){t:TypeId}{td:TD}(h:G.at t=some td){i:Nat}{s:Ty}(hs:td.ty.sub [.cB i]=some s)(w:World)(g o:Nat):
 (Instr.fieldAt t (.pointer (some ⟨g,o,none⟩)) i).run P w= .ok (.pointer (some ⟨g,o+td.ty.off [.cB i],none⟩)) w:=by
 obtain⟨fs,f,tf,h1,h2,h3,h4,h5,h6,_⟩:=T.struct h hs
 have RA:=T.size h3 w
 rw[h4] at RA
 have Rw:¬s.size=0:=by omega
 have ha:((⟨g,o,none⟩:Addr).add f.offset)=⟨g,o+td.ty.off [.cB i],none⟩:=by
  rw[h5];unfold Addr.add;split<;>simp_all
 simp[Instr.fieldAt,underlying,h1,h2,Instr.sureAddr,fieldPlace,RA,Rw,ha]
def ec(G:bu)(hb:Nat→Option aC)(t:TypeId)(i:Nat):AV→Option AV
 |
  .ptr b p=>match G.at t,hb b with
  |
   some td,some k=>match(fa k).sub p,td.ty.sub [.cB i] with
   |some u,some _=>if Ty.same u td.ty then some (.ptr b (p++[.cB i])) else none
   |_,_=>none
  |_,_=>none
 |
  .aZ u x=>match G.at t with
  |
   some td=>match td.ty.sub [.cB i],cS u x [.cB i] with
   |some _,some (.val v y)=>if Ty.same u td.ty then some (.aZ v y) else none
   |_,_=>none
  |none=>none
 |_=>none
theorem jo{k:aC}{p:Path}{q:PS}{u:Ty}{s:Ty}(h:(fa k).sub p=some u)(hs:u.sub [q]=some s):k.mem=true:=by
 cases k with
 |var t v=>rfl
 |row e bs t xs=>rfl
 |cu e bs t xs i v=>rfl
 |bQ e bs t xs e2 f=>rfl
 |
  _=>cases p with
  |nil=>simp[fa,Ty.sub] at h;subst h;simp[Ty.sub] at hs
  |cons a p=>simp[fa,Ty.sub] at h
theorem iS{P:Program}{G:bu}(T:aN P G){gl:Ctx}{E:Env}{w:World}{hp:List (Option aC)}(hw:HW gl E w hp){hb:Nat→Option aC}(hB:HB hb hp){t:TypeId}{i:Nat}{x u:AV}{vx:Value}(hx:RV E w x vx)(h:ec G hb t i x=some u):
 ∃v,(Instr.fieldAt t vx i).run P w= .ok v w∧RV E w u v:=by
 unfold ec at h
 split at h
 ·rename_i b p
  split at h
  ·rename_i td k ht hk
   split at h
   ·rename_i u' s hu hs
    split at h
    ·rename_i hsame
     cases h
     have:=Ty.aA hsame;subst this
     obtain⟨g,hg,e,hv⟩:=RV.atom rfl hx
     simp at e;subst e
     have SB:=RB.bt (hw.bP b k (hB b k hk)) (jo hu hs)
     rw[←SB] at hu
     obtain⟨_,h2,h3⟩:=Ty.hZ (q:=[.cB i]) hu
     obtain⟨_,_,_,_,_,_,_,_,_,hval⟩:=T.struct ht hs
     exact⟨_,lT T ht hs w g _,RV.cJ (Or.inr ⟨rfl,g,hg,by rw[h2],h3 hv hval⟩)⟩
    ·cases h
   ·cases h
  ·cases h
 ·rename_i ty y
  split at h
  ·rename_i td ht
   split at h
   ·rename_i s v' y' hs hg
    split at h
    ·rename_i hsame
     cases h
     have:=Ty.aA hsame;subst this
     obtain⟨b,o,cs,e,h1,h2,h3⟩:=RV.atom rfl hx
     simp at e;subst e
     obtain⟨_,_,_,_,_,_,_,_,_,hval⟩:=T.struct ht hs
     obtain⟨s',e1,e2,e3,e4⟩:=lr (E:=E) h3 hval hg
     exact⟨_,lT T ht hs w b o,RV.cJ (Or.inr ⟨rfl,b,_,_,rfl,h1,h2.sub _ _,e4⟩)⟩
    ·cases h
   ·cases h
  ·cases h
 ·cases h
end Go.Ax
namespace Go.Ax
theorem aN.bR{P:Program}{G:bu}(T:aN P G){t:TypeId}{td:TD}(h:G.at t=some td){bs:Nat}{u:Ty}(hs:td.ty= .slice bs u):
 ∃te ie,P.underlying t=some (.slice td.e)∧G.at td.e=some te∧te.ty=u∧P.info? td.e=some ie∧ie.bytes=bs∧0<u.size∧0<bs:=by
 obtain⟨ii,d,_,h1,_,h2,_⟩:=T.info h
 have Rv:=cd h2
 cases hd:d with
 |
  slice e=>
  subst hd
  simp only[bF] at h2
  rw[Bool.or_eq_true] at h2
  rcases h2 with h2|h2
  ·have:=Ty.aA h2;rw[hs] at this;cases this
  simp only[Bool.and_eq_true] at h2
  obtain⟨h3,h2⟩:=h2
  have h3:=Nat.eq_of_beq_eq_true h3
  subst h3
  split at h2
  ·rename_i Sk u' te ie e1 e2 e3
   rw[hs] at e1;cases e1
   simp only[Bool.and_eq_true] at h2
   obtain⟨⟨⟨h4,h5⟩,h6⟩,h7⟩:=h2
   exact⟨te,ie,h1,e2,Ty.aA h4,e3,Nat.eq_of_beq_eq_true h5,by simp[Nat.blt] at h6;omega,by simp[Nat.blt] at h7;omega⟩
  ·cases h2
 |
  struct fs=>
  subst hd
  simp only[cm] at Rv
  rw[hs] at Rv;cases Rv
 |
  array n e=>
  subst hd
  simp only[cm] at Rv
  rw[hs] at Rv;cases Rv
 |
  map k e=>
  subst hd
  have:=(fq h2).1;rw[hs] at this;cases this
 |
  _=>
  subst hd
  simp only[bF] at h2
  first
   |(have:=Ty.aA h2;rw[hs] at this;cases this)
   |cases h2
theorem aN.kH{P:Program}{G:bu}(T:aN P G){t:TypeId}{td:TD}(h:G.at t=some td){n:Nat}{u:Ty}(hs:td.ty= .arr n u):
 ∃te,P.underlying t=some (.array n td.e)∧G.at td.e=some te∧te.ty=u:=by
 obtain⟨ii,d,_,h1,_,h2,_⟩:=T.info h
 have Rv:=cd h2
 cases hd:d with
 |
  array m e=>
  subst hd
  simp only[bF] at h2
  rw[Bool.or_eq_true] at h2
  rcases h2 with h2|h2
  ·split at h2
   ·rename_i e1 _;rw[hs] at e1;cases e1
   ·cases h2
  simp only[Bool.and_eq_true] at h2
  obtain⟨h3,h2⟩:=h2
  have h3:=Nat.eq_of_beq_eq_true h3
  subst h3
  split at h2
  ·rename_i m' u' te ie e1 e2 e3
   rw[hs] at e1;cases e1
   simp only[Bool.and_eq_true] at h2
   have:=Nat.eq_of_beq_eq_true h2.1.2
   subst this
   exact⟨te,h1,e2,Ty.aA h2.1.1⟩
  ·cases h2
 |
  struct fs=>
  subst hd
  simp only[bF] at h2
  rw[hs] at h2
  revert h2
  generalize fs.toList=l
  intro h2
  cases l<;>simp[aX] at h2
 |
  _=>
  subst hd
  simp only[cm] at Rv
  rw[hs] at Rv;cases Rv
theorem cX{P:Program}{G:bu}(T:aN P G){t:TypeId}{td:TD}(h:G.at t=some td){bs:Nat}{u:Ty}(hs:td.ty= .slice bs u)(w:World)(g o len cap:Nat)(k:IntKind)(i:Int)(hi:0≤i∧i<len):
 (Instr.indexAt t (.slice (some ⟨g,o,none⟩) len cap) (.int k i)).run P w= .ok (.pointer (some ⟨g,o+i.toNat*u.size,none⟩)) w:=by
 obtain⟨te,ie,h1,h2,h3,_⟩:=T.bR h hs
 have RA:=T.size h2 w
 rw[h3] at RA
 have ha:((⟨g,o,none⟩:Addr).add (i.toNat*u.size))=⟨g,o+i.toNat*u.size,none⟩:=by
  unfold Addr.add;split<;>simp_all
 simp[Instr.indexAt,underlying,h1,asIntOf,hi,RA,ha]
theorem iT{P:Program}{G:bu}(T:aN P G){t:TypeId}{td:TD}(h:G.at t=some td){n:Nat}{u:Ty}(hs:td.ty= .arr n u)(w:World)(g o:Nat)(k:IntKind)(i:Int)(hi:0≤i∧i<n):
 (Instr.indexAt t (.pointer (some ⟨g,o,none⟩)) (.int k i)).run P w= .ok (.pointer (some ⟨g,o+i.toNat*u.size,none⟩)) w:=by
 obtain⟨te,h1,h2,h3⟩:=T.kH h hs
 have RA:=T.size h2 w
 rw[h3] at RA
 have ha:((⟨g,o,none⟩:Addr).add (i.toNat*u.size))=⟨g,o+i.toNat*u.size,none⟩:=by
  unfold Addr.add;split<;>simp_all
 simp[Instr.indexAt,underlying,h1,asIntOf,hi,RA,ha,Instr.sureAddr]
theorem aN.BM{P:Program}{G:bu}(T:aN P G){t:TypeId}{td:TD}(h:G.at t=some td){n:Nat}(hs:td.ty= .fns n):
 ∃te,P.underlying t=some (.array n td.e)∧G.at td.e=some te∧te.ty= .aK .func:=by
 obtain⟨ii,d,_,h1,_,h2,_⟩:=T.info h
 have Rv:=cd h2
 cases hd:d with
 |
  array m e=>
  subst hd
  simp only[bF] at h2
  rw[Bool.or_eq_true] at h2
  rcases h2 with h2|h2
  ·split at h2
   ·rename_i m' te e1 e2
    rw[hs] at e1;cases e1
    simp only[Bool.and_eq_true] at h2
    obtain⟨⟨h3,h4⟩,h5⟩:=h2
    have h3:=Nat.eq_of_beq_eq_true h3
    have h4:=Nat.eq_of_beq_eq_true h4
    subst h3;subst h4
    exact⟨te,h1,e2,Ty.aA h5⟩
   ·cases h2
  ·simp only[Bool.and_eq_true] at h2
   obtain⟨_,h2⟩:=h2
   split at h2
   ·rename_i e1 _ _;rw[hs] at e1;cases e1
   ·cases h2
 |
  struct fs=>
  subst hd
  simp only[bF] at h2
  rw[hs] at h2
  revert h2
  generalize fs.toList=l
  intro h2
  cases l<;>simp[aX] at h2
 |
  _=>
  subst hd
  simp only[cm] at Rv
  rw[hs] at Rv;cases Rv
theorem nW{P:Program}{G:bu}(T:aN P G){t:TypeId}{td:TD}(h:G.at t=some td){n:Nat}(hs:td.ty= .fns n)(w:World)(g o:Nat)(k:IntKind)(i:Int)(hi:0≤i∧i<n):
 (Instr.indexAt t (.pointer (some ⟨g,o,none⟩)) (.int k i)).run P w= .ok (.pointer (some ⟨g,o+i.toNat,none⟩)) w:=by
 obtain⟨te,h1,h2,h3⟩:=T.BM h hs
 have RA:=T.size h2 w
 rw[h3] at RA
 have ha:((⟨g,o,none⟩:Addr).add (i.toNat))=⟨g,o+i.toNat,none⟩:=by
  unfold Addr.add;split<;>simp_all
 simp[Instr.indexAt,underlying,h1,asIntOf,hi,RA,ha,Instr.sureAddr,Ty.size]
def fu(G:bu)(hb:Nat→Option aC)(t:TypeId)(x:AV)(i:Int):Option (AV×List VC):=
 match G.at t with
 |
  some td=>
  match td.ty,x with
  | .slice bs u,.val (.slice Sk u') xs=>if Nat.beq bs Sk&&Ty.same u u' then some (.aZ u' (xs.getD i.toNat u'.bL),[vc (0≤i),vc (i<xs.length)]) else none
  |
   .slice _ u,.own b=>match hb b with
   |some (.row _ _ u' xs)=>if Ty.same u u' then some (.ptr b [.idx i.toNat],[vc (0≤i),vc (i<xs.length)]) else none
   |some (.cu _ _ u' _xs j _)=>if Ty.same u u' then some (.ptr b [.cB 1],[vc (0≤i),vc (i.toNat=j)]) else none
   |some (.bQ _ _ u' _ _ (some (j,_)))=>if Ty.same u u' then some (.ptr b [.cB 1],[vc (0≤i),vc (i.toNat=j)]) else none
   |_=>none
  |
   .slice _ u,.fQ b lo len=>match hb b with
   |some (.row _ _ u' _)=>if Ty.same u u' then some (.ptr b [.idx (lo+i.toNat)],[vc (0≤i),vc (i<len)]) else none
   |_=>none
  |
   .slice _ u,.fp b p lo len=>match hb b with
   |
    some (.var tt _)=>match tt.sub p with
    |some (.arr _ u')=>if Ty.same u u' then some (.ptr b (p++[.idx (lo+i.toNat)]),[vc (0≤i),vc (i<len)]) else none
    |_=>none
   |_=>none
  |
   .arr n u,.ptr b p=>match hb b with
   |
    some k=>match(fa k).sub p with
    |some (.arr n' u')=>if Ty.same u u'&&Nat.beq n n' then some (.ptr b (p++[.idx i.toNat]),[vc (0≤i),vc (i<n)]) else none
    |_=>none
   |_=>none
  |
   .fns n,.ptr b p=>match hb b with
   |
    some k=>match(fa k).sub p with
    |some (.fns n')=>if Nat.beq n n' then some (.ptr b (p++[.idx i.toNat]),[vc (0≤i),vc (i<n)]) else none
    |_=>none
   |_=>none
  | .arr n u,.aZ (.arr n' u') xs=>if Ty.same u u'&&Nat.beq n n' then some (.aZ u' (List.getD xs i.toNat u'.bL),[vc (0≤i),vc (i<n)]) else none
  |_,_=>none
 |none=>none
def fY(G:bu)(hb:Nat→Option aC)(t:TypeId)(x:AV):AV→Option (AV×List VC)
 | .val (.int _) i=>fu G hb t x i
 |_=>none
theorem Ty.fv(t:Ty):t.off []=0:=by cases t<;>rfl
theorem Ty.ee(t:Ty):t.valid []:=by cases t<;>trivial
theorem Ty.xY(t:Ty):t.sub []=some t:=by cases t<;>rfl
theorem mj{P:Program}{G:bu}(T:aN P G){gl:Ctx}{E:Env}{w:World}{hp:List (Option aC)}(hw:HW gl E w hp){hb:Nat→Option aC}(hB:HB hb hp){t:TypeId}{x u:AV}{vx:Value}{k:IntKind}{i:Int}{vc:List VC}(hx:RV E w x vx)(h:fu G hb t x i=some (u,vc))(hvc0:cD vc):
 ∃v,(Instr.indexAt t vx (.int k i)).run P w= .ok v w∧RV E w u v:=by
 unfold fu at h
 split at h
 ·rename_i td ht
  split at h
  ·rename_i bs u Sk u' xs RL
   split at h
   ·rename_i hc
    cases h
    have Rx:=And.intro hvc0.1 hvc0.2.1
    simp only[Bool.and_eq_true] at hc
    have:=Nat.eq_of_beq_eq_true hc.1;subst this
    have:=Ty.aA hc.2;subst this
    obtain⟨a,cap,e,h1,h2,h3,h4⟩:=RV.atom rfl hx
    simp at e;subst e
    rcases h4 with h4|⟨b,o,cs,e1,e2,e3,e4⟩
    ·subst h4;simp at Rx;exact absurd Rx.2 (by omega)
    ·subst e1
     have Ru:i.toNat<xs.length:=by omega
     have RQ:=aI.get (fun _ _=>Rel.len) u.bL i.toNat e4 Ru
     exact⟨_,cX T ht RL w b o _ cap k i Rx,RV.cJ (Or.inr ⟨rfl,b,_,_,rfl,e2,e3.sub _ _,RQ⟩)⟩
   ·cases h
  ·rename_i bs u b RL
   split at h
   ·rename_i e Sm u' xs hk
    split at h
    ·rename_i hc
     cases h
     have Rx:=And.intro hvc0.1 hvc0.2.1
     have:=Ty.aA hc;subst this
     have hx:=RV.atom rfl hx
     simp only[RC,List.cons.injEq,and_true] at hx
     have hx:=hx.1
     subst hx
     obtain⟨h1,h2,h3,h4,a,cap,h5,h6,h7⟩:=hw.bP b _ (hB b _ hk)
     rw[h5]
     rcases h7 with⟨_,_,h9⟩|⟨g,c,h7,h8,h9,Sy,h11,Sz⟩
     ·subst h9;simp at Rx;exact absurd Rx.2 (by omega)
     ·subst h8
      refine⟨_,cX T ht RL w g 0 _ cap k i Rx,RV.cJ (Or.inr ⟨rfl,g,h7,?_,?_⟩)⟩
      ·rw[h1];simp[Ty.off,Ty.fv]
      ·rw[h1];exact⟨by omega,Ty.ee _⟩
    ·cases h
   ·rename_i e Sm u' xs j v hk
    split at h
    ·rename_i hc
     cases h
     have Rx:=And.intro hvc0.1 hvc0.2.1
     have:=Ty.aA hc;subst this
     have hx:=RV.atom rfl hx
     simp only[RC,List.cons.injEq,and_true] at hx
     have hx:=hx.1
     subst hx
     obtain⟨h1,h2,h3,h4,h5,h6,g,cap,c,q1,q2,q3,q4,q5,q6,q7,q8,q9⟩:=hw.bP b _ (hB b _ hk)
     rw[q1]
     have hij:i.toNat=j:=Rx.2
     have h0:0≤i:=Rx.1
     refine⟨_,cX T ht RL w g 0 _ cap k i ⟨h0,by omega⟩,RV.cJ (Or.inr ⟨rfl,g,q3,?_,?_⟩)⟩
     ·rw[h1,hij];simp[fV,Ty.off,Ty.fv,Ty.size]
     ·rw[h1];exact Ty.ee u
    ·cases h
   ·rename_i e Sm u' xs e2 j v hk
    split at h
    ·rename_i hc
     cases h
     have Rx:=And.intro hvc0.1 hvc0.2.1
     have:=Ty.aA hc;subst this
     have hx:=RV.atom rfl hx
     simp only[RC,List.cons.injEq,and_true] at hx
     have hx:=hx.1
     subst hx
     obtain⟨h1,h2,h3,h4,h5,g,cap,c,og,q1,q2,q3,q4,q5,q6,q7,q8⟩:=hw.bP b _ (hB b _ hk)
     rw[q1]
     have hij:i.toNat=j:=Rx.2
     have h0:0≤i:=Rx.1
     have hj:=(h5 j v rfl).1
     refine⟨_,cX T ht RL w g 0 _ cap k i ⟨h0,by omega⟩,RV.cJ (Or.inr ⟨rfl,g,q3,?_,?_⟩)⟩
     ·rw[h1,hij];simp[jE,fV,Ty.off,Ty.fv,Ty.size]
     ·rw[h1];exact Ty.ee u
    ·cases h
   ·cases h
  ·rename_i bs u b lo len RL
   split at h
   ·rename_i e Sm u' xs hk
    split at h
    ·rename_i hc
     cases h
     have Rx:=And.intro hvc0.1 hvc0.2.1
     have:=Ty.aA hc;subst this
     obtain⟨a,c0,n,tt,r1,r2,r3,r4,a2,e,r6⟩:=RV.atom rfl hx
     simp at e;subst e
     obtain⟨h1,h2,h3,h4,a',cap,h5,h6,h7⟩:=hw.bP b _ (hB b _ hk)
     rw[h1] at r1;cases r1
     rw[h5] at r2;cases r2
     rcases h7 with⟨_,_,h9⟩|⟨g,c,h7,h8,h9,Sy,h11,Sz⟩
     ·subst h9;simp at r3;exact absurd Rx.2 (by omega)
     ·subst h8
      have had:a2=some ⟨g,lo*u.size,none⟩:=by
       rcases r6 with r6|r6
       ·omega
       ·rw[r6];simp only[Option.map_some,Option.some.injEq];unfold Addr.add;split<;>simp_all
      rw[had]
      refine⟨_,cX T ht RL w g _ _ _ k i Rx,RV.cJ (Or.inr ⟨rfl,g,h7,?_,?_⟩)⟩
      ·rw[h1];simp only[Ty.off,Ty.fv];rw[Nat.add_mul];simp
      ·rw[h1];exact⟨by omega,Ty.ee _⟩
    ·cases h
   ·cases h
  ·rename_i bs u b p lo len RL
   split at h
   ·rename_i tt v hk
    split at h
    ·rename_i n u' RX
     split at h
     ·rename_i hc
      cases h
      have Rx:=And.intro hvc0.1 hvc0.2.1
      have:=Ty.aA hc;subst this
      obtain⟨n2,t2,r1,r2,r3,a,cap,e,r4,r5⟩:=RV.atom rfl hx
      simp at e;subst e
      obtain⟨h1,h2,g,c,e2,h3,h4,h5⟩:=hw.bP b _ (hB b _ hk)
      rw[h1,RX] at r1;cases r1
      rcases r5 with r5|⟨g',r5,r6⟩
      ·subst r5;omega
      ·rw[h3] at r5;cases r5
       subst r6
       obtain⟨q1,q2,q3⟩:=Ty.hZ (q:=[.idx (lo+i.toNat)]) RX
       refine⟨_,cX T ht RL w g _ _ _ k i Rx,RV.cJ (Or.inr ⟨rfl,g,h3,?_,?_⟩)⟩
       ·rw[h1,q2];simp only[Ty.off,Ty.fv];rw[Nat.add_mul];simp;omega
       ·rw[h1];refine q3 (by rw[←h1];exact r2) ⟨by omega,Ty.ee _⟩
     ·cases h
    ·cases h
   ·cases h
  ·rename_i n u b p RL
   split at h
   ·rename_i kk hk
    split at h
    ·rename_i n' u' RX
     split at h
     ·rename_i hc
      cases h
      have Rx:=And.intro hvc0.1 hvc0.2.1
      simp only[Bool.and_eq_true] at hc
      have:=Ty.aA hc.1;subst this
      have:=Nat.eq_of_beq_eq_true hc.2;subst this
      obtain⟨g,hg,e,hv⟩:=RV.atom rfl hx
      simp at e;subst e
      have SB:=RB.bt (hw.bP b kk (hB b kk hk)) (jo (q:=.idx 0) (s:=u) RX (by simp[Ty.sub,Ty.xY]))
      rw[←SB] at RX
      obtain⟨q1,q2,q3⟩:=Ty.hZ (q:=[.idx i.toNat]) RX
      refine⟨_,iT T ht RL w g _ k i Rx,RV.cJ (Or.inr ⟨rfl,g,hg,?_,?_⟩)⟩
      ·rw[q2];simp only[Ty.off,Ty.fv];simp
      ·exact q3 hv ⟨by omega,Ty.ee _⟩
     ·cases h
    ·cases h
   ·cases h
  ·rename_i n b p RL
   split at h
   ·rename_i kk hk
    split at h
    ·rename_i n' RX
     split at h
     ·rename_i hc
      cases h
      have Rx:=And.intro hvc0.1 hvc0.2.1
      have:=Nat.eq_of_beq_eq_true hc;subst this
      obtain⟨g,hg,e,hv⟩:=RV.atom rfl hx
      simp at e;subst e
      have SB:=RB.bt (hw.bP b kk (hB b kk hk)) (jo (q:=.idx 0) (s:=.aK .func) RX rfl)
      rw[←SB] at RX
      obtain⟨q1,q2,q3⟩:=Ty.hZ (q:=[.idx i.toNat]) RX
      refine⟨_,nW T ht RL w g _ k i Rx,RV.cJ (Or.inr ⟨rfl,g,hg,?_,?_⟩)⟩
      ·rw[q2];simp only[Ty.off]
      ·exact q3 hv (by show i.toNat<n;omega)
     ·cases h
    ·cases h
   ·cases h
  ·rename_i n u n' u' xs RL
   split at h
   ·rename_i hc
    cases h
    have Rx:=And.intro hvc0.1 hvc0.2.1
    simp only[Bool.and_eq_true] at hc
    have:=Ty.aA hc.1;subst this
    have:=Nat.eq_of_beq_eq_true hc.2;subst this
    obtain⟨b,o,cs,e,h1,h2,h3⟩:=RV.atom rfl hx
    simp at e;subst e
    obtain⟨hn,h3⟩:=h3
    have Ru:i.toNat<List.length xs:=by omega
    have RQ:=aI.get (fun _ _=>Rel.len) u.bL i.toNat h3 Ru
    exact⟨_,iT T ht RL w b o k i Rx,RV.cJ (Or.inr ⟨rfl,b,_,_,rfl,h1,h2.sub _ _,RQ⟩)⟩
   ·cases h
  ·cases h
 ·cases h
theorem nX{P:Program}{G:bu}(T:aN P G){gl:Ctx}{E:Env}{w:World}{hp:List (Option aC)}(hw:HW gl E w hp){hb:Nat→Option aC}(hB:HB hb hp){t:TypeId}{x y u:AV}{vx vy:Value}{vc:List VC}(hx:RV E w x vx)(hy:RV E w y vy)(h:fY G hb t x y=some (u,vc))(Rx:cD vc):
 ∃v,(Instr.indexAt t vx vy).run P w= .ok v w∧RV E w u v:=by
 unfold fY at h
 split at h
 ·obtain⟨rfl,_⟩:=RV.bY hy
  exact mj T hw hB hx h Rx
 ·cases h
theorem mF(l:List UInt8):(ByteArray.mk l.toArray).size=l.length:=by show l.toArray.size=_;simp
def fh(n:Nat):AV:=.val (.int .i64) (n:Int)
def BN(G:bu)(hb:Nat→Option aC)(t:TypeId)(x:AV):Option AV:=
 match G.at t with
 |
  some td=>
  match td.ty,x with
  | .slice _ _,.val (.slice _ _) xs=>some (fh xs.length)
  | .slice _ _,.aS=>some (fh 0)
  |
   .slice _ _,.own b=>match hb b with
   |some (.row _ _ _ xs)=>some (fh xs.length)
   |some (.cu _ _ _ xs _ _)=>some (fh xs.length)
   |some (.bQ _ _ _ xs _ _)=>some (fh xs.length)
   |_=>none
  |
   .slice _ _,.fQ b _ len=>match hb b with
   |some (.row _ _ _ xs)=>if Nat.ble 1 1 then some (fh len) else(some (fh xs.length))
   |_=>none
  |
   .slice _ _,.fp b p _ len=>match hb b with
   |
    some (.var tt _)=>match tt.sub p with
    |some (.arr n _)=>if Nat.ble n aF then some (fh len) else none
    |_=>none
   |_=>none
  | .str,.val .str s=>some (fh s.length)
  | .aK .map,.cO=>some (fh 0)
  |
   .aK .map,.mp b=>match hb b with
   |some (.map _ _ es)=>some (fh es.length)
   |_=>none
  | .map _ _,.cO=>some (fh 0)
  |
   .map _ _,.mp b=>match hb b with
   |some (.map _ _ es)=>some (fh es.length)
   |_=>none
  | .map _ _,.val (.map _ _) y=>some (fh (List.length (ew y)))
  |_,_=>none
 |none=>none
theorem RV.len{E:Env}{w:World}{n:Nat}(h:n≤aF):RV E w (fh n) (goInt n):=by
 refine RV.int (k:=.i64) ?_
 unfold aF at h
 have h1:IntKind.i64.min= -9223372036854775808:=by decide
 have h2:IntKind.i64.max=9223372036854775807:=by decide
 omega
theorem RM.len{E:Env}{w:World}{k v:Ty}:∀{l:List MapEntry}{xs:List (k.den×v.den)},RM E w k v l xs→l.length=xs.length
 |[],[],_=>rfl
 |[],_::_,h=>h.elim
 |_::_,[],h=>h.elim
 |_::l,_::xs,h=>by simp[RM.len h.2.2]
theorem aN.strOf{P:Program}{G:bu}(T:aN P G){t:TypeId}{td:TD}(h:G.at t=some td)(hs:td.ty= .str):P.underlying t=some .string:=by
 obtain⟨ii,d,_,h1,_,h2,_⟩:=T.info h
 have Rv:=cd h2
 rw[h1]
 cases hd:d with
 |string=>rfl
 |struct fs=>subst hd;simp only[cm] at Rv;rw[hs] at Rv;cases Rv
 |array n e=>subst hd;simp only[cm] at Rv;rw[hs] at Rv;cases Rv
 |
  slice e=>
  subst hd
  simp only[bF] at h2
  rw[Bool.or_eq_true] at h2
  rcases h2 with h2|h2
  ·have:=Ty.aA h2;rw[hs] at this;cases this
  simp only[Bool.and_eq_true] at h2
  obtain⟨_,h2⟩:=h2
  split at h2
  ·rename_i e1 _ _;rw[hs] at e1;cases e1
  ·cases h2
 |map k e=>subst hd;have:=(fq h2).1;rw[hs] at this;cases this
 |
  _=>
  subst hd
  simp only[bF] at h2
  first
   |(have:=Ty.aA h2;rw[hs] at this;cases this)
   |cases h2
theorem aN.mapOf{P:Program}{G:bu}(T:aN P G){t:TypeId}{td:TD}(h:G.at t=some td)(hs:td.ty.isMap=true):P.underlying t=some (.map td.e td.e2):=by
 obtain⟨ii,d,_,h1,_,h2,_⟩:=T.info h
 have Rv:=cd h2
 rw[h1]
 cases hd:d with
 |
  map k e=>
  subst hd
  obtain⟨_,e1,e2⟩:=fq h2
  rw[e1,e2]
 |struct fs=>subst hd;simp only[cm] at Rv;revert hs Rv;cases td.ty<;>simp[Ty.isMap,Ty.isAgg]
 |array n e=>subst hd;simp only[cm] at Rv;revert hs Rv;cases td.ty<;>simp[Ty.isMap,Ty.isAgg]
 |
  slice e=>
  subst hd
  simp only[bF] at h2
  rw[Bool.or_eq_true] at h2
  rcases h2 with h2|h2
  ·have:=Ty.aA h2;rw[this] at hs;simp[Ty.isMap] at hs
  simp only[Bool.and_eq_true] at h2
  obtain⟨_,h2⟩:=h2
  split at h2
  ·rename_i e1 _ _;rw[e1] at hs;simp[Ty.isMap] at hs
  ·cases h2
 |
  _=>
  subst hd
  simp only[bF] at h2
  first
   |(have:=Ty.aA h2;rw[this] at hs;simp[Ty.isMap] at hs)
   |cases h2
theorem BO{P:Program}{G:bu}(T:aN P G){gl:Ctx}{E:Env}{w:World}{hp:List (Option aC)}(hw:HW gl E w hp){hb:Nat→Option aC}(hB:HB hb hp){t ty:TypeId}{x u:AV}{vx:Value}(hx:RV E w x vx)(h:BN G hb t x=some u):
 ∃v,(Builtin.len_ #[t] ty #[vx]).run P w= .ok v w∧RV E w u v:=by
 unfold BN at h
 split at h
 ·rename_i td ht
  split at h
  ·rename_i bs u' Sk u2 xs RL
   cases h
   obtain⟨te,ie,h1,_⟩:=T.bR ht RL
   obtain⟨a,cap,e,_,_,h3,_⟩:=RV.atom rfl hx
   simp at e;subst e
   exact⟨_,by simp[Builtin.len_,underlying,h1],RV.len h3⟩
  ·rename_i bs u' RL
   cases h
   obtain⟨te,ie,h1,_⟩:=T.bR ht RL
   have hx:=RV.atom rfl hx
   simp[RC] at hx;subst hx
   exact⟨_,by simp[Builtin.len_,underlying,h1],RV.len (by unfold aF;omega)⟩
  ·rename_i bs u' b RL
   split at h
   ·rename_i e2 Sm t2 xs hk
    cases h
    obtain⟨te,ie,h1,_⟩:=T.bR ht RL
    have hx:=RV.atom rfl hx
    simp only[RC,List.cons.injEq,and_true] at hx
    have hx:=hx.1
    subst hx
    obtain⟨_,_,h3,_,a,cap,h5,_⟩:=hw.bP b _ (hB b _ hk)
    rw[h5]
    exact⟨_,by simp[Builtin.len_,underlying,h1],RV.len h3⟩
   ·rename_i e2 Sm t2 xs j v hk
    cases h
    obtain⟨te,ie,h1,_⟩:=T.bR ht RL
    have hx:=RV.atom rfl hx
    simp only[RC,List.cons.injEq,and_true] at hx
    have hx:=hx.1
    subst hx
    obtain⟨_,_,_,h3,_,_,g,cap,c,h5,_⟩:=hw.bP b _ (hB b _ hk)
    rw[h5]
    exact⟨_,by simp[Builtin.len_,underlying,h1],RV.len h3⟩
   ·rename_i e2 Sm t2 xs e3 f hk
    cases h
    obtain⟨te,ie,h1,_⟩:=T.bR ht RL
    have hx:=RV.atom rfl hx
    simp only[RC,List.cons.injEq,and_true] at hx
    have hx:=hx.1
    subst hx
    obtain⟨_,_,_,h3,_,g,cap,c,og,h5,_⟩:=hw.bP b _ (hB b _ hk)
    rw[h5]
    exact⟨_,by simp[Builtin.len_,underlying,h1],RV.len h3⟩
   ·cases h
  ·rename_i bs u' b lo len RL
   split at h
   ·rename_i e2 Sm t2 xs hk
    simp at h;subst h
    obtain⟨te,ie,h1,_⟩:=T.bR ht RL
    obtain⟨a,c,n,tt,r1,r2,r3,r4,a2,e,_⟩:=RV.atom rfl hx
    simp at e;subst e
    obtain⟨q1,_,h3,_,a',cap,h5,_⟩:=hw.bP b _ (hB b _ hk)
    rw[r1] at q1;cases q1
    exact⟨_,by simp[Builtin.len_,underlying,h1],RV.len (by omega)⟩
   ·cases h
  ·rename_i bs u' b p lo len RL
   split at h
   ·rename_i tt v hk
    split at h
    ·rename_i n0 u0 RX
     split at h
     ·rename_i hn
      cases h
      obtain⟨te,ie,h1,_⟩:=T.bR ht RL
      obtain⟨n,t2,r1,r2,r3,a,cap,e,r4,r5⟩:=RV.atom rfl hx
      simp at e;subst e
      obtain⟨q1,_⟩:=hw.bP b _ (hB b _ hk)
      rw[q1,RX] at r1;cases r1
      have:=Nat.le_of_ble_eq_true hn
      exact⟨_,by simp[Builtin.len_,underlying,h1],RV.len (by omega)⟩
     ·cases h
    ·cases h
   ·cases h
  ·rename_i s RL
   cases h
   have h1:=T.strOf ht RL
   obtain⟨rfl,h2⟩:=RV.dR hx
   exact⟨goInt s.length,by simp[Builtin.len_,underlying,h1,mF],RV.len h2⟩
  ·rename_i RL
   cases h
   have h1:=T.mapOf ht (by rw[RL];rfl)
   have hx:=RV.atom rfl hx
   simp[RC] at hx;subst hx
   exact⟨_,by simp[Builtin.len_,underlying,h1],RV.len (by unfold aF;omega)⟩
  ·rename_i b RL
   split at h
   ·rename_i kt vt es hk
    cases h
    have h1:=T.mapOf ht (by rw[RL];rfl)
    obtain⟨g,hg,e⟩:=RV.atom rfl hx
    simp at e;subst e
    obtain⟨_,h2,g',en,clock,h3,h4,h5,_⟩:=hw.bP b _ (hB b _ hk)
    rw[hg] at h3;cases h3
    have hl:=RM.len h5
    refine⟨goInt es.length,?_,RV.len h2⟩
    simp[Builtin.len_,underlying,h1,getObj,Sem.run,h4,←hl]
   ·cases h
  ·rename_i _ _ RL
   cases h
   have h1:=T.mapOf ht (by rw[RL];rfl)
   have hx:=RV.atom rfl hx
   simp[RC] at hx;subst hx
   exact⟨_,by simp[Builtin.len_,underlying,h1],RV.len (by unfold aF;omega)⟩
  ·rename_i _ _ b RL
   split at h
   ·rename_i kt vt es hk
    cases h
    have h1:=T.mapOf ht (by rw[RL];rfl)
    obtain⟨g,hg,e⟩:=RV.atom rfl hx
    simp at e;subst e
    obtain⟨_,h2,g',en,clock,h3,h4,h5,_⟩:=hw.bP b _ (hB b _ hk)
    rw[hg] at h3;cases h3
    have hl:=RM.len h5
    refine⟨goInt es.length,?_,RV.len h2⟩
    simp[Builtin.len_,underlying,h1,getObj,Sem.run,h4,←hl]
   ·cases h
  ·rename_i _ _ k' v' y RL
   cases h
   have h1:=T.mapOf ht (by rw[RL];rfl)
   obtain⟨a,e,hr⟩:=RV.atom rfl hx
   simp at e;subst e
   rcases hr with⟨rfl,rfl⟩|⟨es,g,en,clock,rfl,rfl,_,h4,h5,_,h6,_⟩
   ·exact⟨_,by simp[Builtin.len_,underlying,h1],RV.len (n:=0) (by unfold aF;omega)⟩
   ·have hl:=fS.len h5
    exact⟨goInt es.length,by simp[Builtin.len_,underlying,h1,getObj,Sem.run,h4,←hl],RV.len h6⟩
  ·cases h
 ·cases h
end Go.Ax
namespace Go.Ax
def St.fresh(σ:St)(d:Nat):Prop:=d∉σ.ids∧(∀k,σ.hp[d]? ≠some (some k))∧16≤d
def bT:Nat→List Nat→Bool
 |_,[]=>false
 |d,x::l=>Nat.beq d x||bT d l
theorem cZ{d:Nat}:∀{l:List Nat},bT d l=false→d∉l
 |[],_=>by simp
 |
  x::l,h=>by
  simp only[bT,Bool.or_eq_false_iff] at h
  intro hm
  cases hm with
  |head=>simp at h
  |tail _ hm=>exact cZ h.2 hm
def St.dk(σ:St)(d:Nat):Bool:=
 Nat.ble 16 d&& !bT d σ.ids&&(match σ.hp[d]? with|some (some _)=>false|_=>true)
theorem St.cG{σ:St}{d:Nat}(h:σ.dk d=true):σ.fresh d:=by
 simp only[St.dk,Bool.and_eq_true] at h
 refine⟨cZ (by simpa using h.1.2),?_,Nat.le_of_ble_eq_true h.1.1⟩
 intro k hk
 rw[hk] at h
 exact absurd h.2 (by simp)
theorem bD.fresh{gl:Ctx}{σ:St}{E:Env}{a:Act}{w w':World}(h:bD gl σ E a w){d:Nat}(hf:σ.fresh d){g:Option Nat}{sv:Value}{t:Ty}{k:aC}
 (hos:w'.os=w.os) (hta:Tp gl.md w w') (hou:w'.output=w.output) (RA:w.heap.size≤w'.heap.size) (hold:∀i,i<w.heap.size→w'.heap[i]? =w.heap[i]?)
 (hg:∀i,g=some i→w.heap.size≤i) (hb:RB (E.at d g sv t) w' d k):
 bD gl (σ.bP d (some k)) (E.at d g sv t) a w'∧Ext gl.md (Own σ.hp E) E w (Own (σ.bP d (some k)).hp (E.at d g sv t)) (E.at d g sv t) w':=by
 have kp:aV E w (E.at d g sv t) w':=⟨fun b hb=>hold b (h.hw.slt b hb),fun b hb=>hb⟩
 have hw:=h.hw.fresh (d:=d) RA hold hf.2.1 (fun b k' hk hm=>hf.1 (St.qP hk d hm)) hg hb
 refine⟨h.carry kp (Env.sx hf.1) hw,hos,hta,hou,RA,fun i hi _=>hold i hi,fun i hi=>hi,fun i hi=>Or.inl hi,?_,Env.BJ hf.2.2⟩
 rintro i ⟨b,k',RJ,R0⟩
 by_cases e:b=d
 ·subst e
  exact Or.inr (hg i (Env.fX.1 R0))
 ·have R0:=(Env.ff e).1 R0
  simp only[St.bP] at RJ
  rw[List.getElem?_set,if_neg (fun e'=>e e'.symm)] at RJ
  exact Or.inl ⟨b,k',RJ,R0⟩
theorem eQ(w:World)(o:Obj)(i:Nat)(hi:i<w.heap.size):({w with heap:=w.heap.push o}:World).heap[i]? =w.heap[i]? :=by
 show(w.heap.push o)[i]? =_
 rw[Array.getElem?_push,if_neg (by omega)]
theorem jF(w:World)(o:Obj):({w with heap:=w.heap.push o}:World).heap[w.heap.size]? =some o:=by
 show(w.heap.push o)[w.heap.size]? =_
 simp
theorem bD.newVar{P:Program}{gl:Ctx}{σ:St}{E:Env}{a:Act}{w:World}(h:bD gl σ E a w){d:Nat}(hf:σ.fresh d){t:Ty}{x:AV}{v:Value}(e:TypeId)(hr:RC E w x v.cells.toList)(hc:x.bz t=true)(hx:d∉x.ids):
 ∃w' E',(Go.newVar e v).run P w= .ok ⟨w.heap.size,0,none⟩ w'∧bD gl (σ.bP d (some (.var t x))) E' a w'∧RV E' w' (.ptr d []) (.pointer (some ⟨w.heap.size,0,none⟩))∧Ext gl.md (Own σ.hp E) E w (Own (σ.bP d (some (.var t x))).hp E') E' w':=by
 refine⟨{w with heap:=w.heap.push (.cells v.cells e)},E.at d (some w.heap.size) undef t,by simp[Go.newVar,newRow],?_⟩
 have kp:aV E w (E.at d (some w.heap.size) undef t) {w with heap:=w.heap.push (.cells v.cells e)}:=⟨fun b hb=>eQ _ _ _ (h.hw.slt b hb),fun b hb=>hb⟩
 obtain⟨h1,h2⟩:=h.fresh hf (w':={w with heap:=w.heap.push (.cells v.cells e)}) (g:=some w.heap.size) (sv:=undef) (t:=t) (k:=.var t x) rfl (Tp.r rfl rfl) rfl (by simp) (fun i hi=>eQ _ _ _ hi) (fun i hi=>by cases hi;exact Nat.le_refl _)
  ⟨by simp[Env.at],hc,w.heap.size,v.cells,e,by simp[Env.at],jF _ _,RC.mono kp (Env.sx hx) hr⟩
 exact⟨h1,RV.cJ (Or.inr ⟨rfl,w.heap.size,by simp[Env.at],by simp[Env.at,Ty.fv],Ty.ee _⟩),h2⟩
theorem sD(v:Value):(kF v).ids= []:=by
 unfold kF
 split<;>try rfl
 all_goals(split<;>rfl)
theorem uQ(gl:List zq)(g:Nat):(lz gl g).ids= []:=by
 induction gl with
 |nil=>rfl
 |cons x l ih=>unfold lz;split;rfl;exact ih
theorem pt{gl:Ctx}{σ:St}{x:Operand}:∀b∈(aQ gl σ.tm x).ids,b∈σ.ids:=by
 intro b hb
 cases x with
 |
  tmp t=>
  simp only[aQ] at hb
  cases hx:σ.tm[t]? with
  |none=>rw[hx] at hb;simp[AV.ids] at hb
  |some y=>rw[hx] at hb;exact St.uM hx b hb
 |const v=>simp only[aQ,sD] at hb;cases hb
 |global g=>simp only[aQ,uQ] at hb;cases hb
 |func f=>simp[aQ,AV.ids] at hb
theorem Ty.BP(t:Ty):t.zero.ids= []:=by
 induction t with
 |pair a b RI RG=>simp[Ty.zero,AV.ids,RI,RG]
 |aK k=>cases k<;>rfl
 |_=>rfl
theorem zt{P:Program}{G:bu}(T:aN P G){gl:Ctx}{σ:St}{E:Env}{a:Act}{w:World}(h:bD gl σ E a w){d:Nat}(hf:σ.fresh d){e:TypeId}{td:TD}(he:G.at e=some td)(Sg:Value):
 ∃v w' E',(Instr.alloc e true Sg).run P w= .ok v w'∧bD gl (σ.bP d (some (.var td.ty td.ty.zero))) E' a w'∧RV E' w' (.ptr d []) v∧Ext gl.md (Own σ.hp E) E w (Own (σ.bP d (some (.var td.ty td.ty.zero))).hp E') E' w':=by
 obtain⟨z,hz,h1,h2⟩:=T.zero he w
 obtain⟨w',E',h3,h4,h5,h6⟩:=h.newVar (P:=P) hf (t:=td.ty) (x:=td.ty.zero) (v:=z) e (du h1).1 (Ty.lu _) (by rw[Ty.BP];simp)
 exact⟨_,w',E',by simp[Instr.alloc,hz,h3],h4,h5,h6⟩
theorem Ez{P:Program}{gl:Ctx}{σ:St}{E:Env}{a:Act}{w:World}(h:bD gl σ E a w){d:Nat}(hf:σ.fresh d){e:TypeId}{t:Ty}{x:AV}{v:Value}(hr:bN E w x v)(hc:x.bz t=true)(hx:d∉x.ids):
 ∃u w' E',(Instr.box e v).run P w= .ok u w'∧bD gl (σ.bP d (some (.var t x))) E' a w'∧RV E' w' (.ptr d []) u∧Ext gl.md (Own σ.hp E) E w (Own (σ.bP d (some (.var t x))).hp E') E' w':=by
 obtain⟨w',E',h3,h4,h5,h6⟩:=h.newVar (P:=P) hf (t:=t) (x:=x) (v:=v) e hr.cells hc hx
 exact⟨_,w',E',by simp[Instr.box,h3],h4,h5,h6⟩
def E7(e:TypeId)(bs:Nat)(t:Ty)(xs:List t.den)(i:Nat)(p:Path)(x:AV):Option aC:=
 match dE t (xs.getD i t.bL) p x with
 |
  some y=>match y.aU t with
  |some z=>some (.row e bs t (xs.set i z))
  |none=>none
 |none=>none
def jG:aC→Path→AV→Option aC
 |
  .var t v,p,x=>match v.set p x with
  |some u=>if u.bz t then some (.var t u) else none
  |none=>none
 | .row e bs t xs,.idx i::p,x=>E7 e bs t xs i p x
 |
  .cu e bs t xs i v,.cB 1::p,x=>match v.set p x with
  |some u=>if u.bz t then some (.cu e bs t xs i u) else none
  |none=>none
 |
  .bQ e bs t xs e2 (some (i,v)),.cB 1::p,x=>match v.set p x with
  |some u=>if u.bz t then some (.bQ e bs t xs e2 (some (i,u))) else none
  |none=>none
 |_,_,_=>none
theorem sE{L us:List Value}{a o n:Nat}(h:o+us.length≤n)(hl:a+n≤L.length):
 (L.take (a+o)++us++L.drop (a+o+us.length)).take a=L.take a∧((L.take (a+o)++us++L.drop (a+o+us.length)).drop a).take n=((L.drop a).take n).take o++us++((L.drop a).take n).drop (o+us.length)∧
  (L.take (a+o)++us++L.drop (a+o+us.length)).drop (a+n)=L.drop (a+n):=by
 obtain⟨A,M,B,hA,hM,rfl⟩:∃A M B,A.length=a∧M.length=n∧L=A++(M++B):=
  ⟨L.take a,(L.drop a).take n,L.drop (a+n),by simp;omega,by simp;omega,by rw[←List.drop_drop,List.take_append_drop,List.take_append_drop]⟩
 subst hA;subst hM
 have e1:(A++(M++B)).take (A.length+o)=A++M.take o:=by rw[List.take_length_add_append,List.take_append_of_le_length (by omega)]
 have e2:(A++(M++B)).drop (A.length+o+us.length)=M.drop (o+us.length)++B:=by rw[Nat.add_assoc,List.drop_length_add_append,List.drop_append_of_le_length (by omega)]
 have e3:((A++(M++B)).drop A.length).take M.length=M:=by simp
 have hml:(M.take o++us++M.drop (o+us.length)).length=M.length:=by simp;omega
 have e4:(A++(M++B)).take (A.length+o)++us++(A++(M++B)).drop (A.length+o+us.length)=A++((M.take o++us++M.drop (o+us.length))++B):=by rw[e1,e2];simp
 rw[e3,e4]
 refine⟨by simp,?_,?_⟩
 ·rw[List.drop_left',List.take_left' hml];rfl
 ·rw[List.drop_length_add_append,List.drop_length_add_append,List.drop_left' hml,List.drop_left' rfl]
theorem zu(l us:List Value)(o m:Nat)(h:o+us.length≤m)(hm:m≤l.length):(l.take o++us++l.drop (o+us.length)).take m=(l.take m).take o++us++(l.take m).drop (o+us.length):=by
 have e1:(l.take m).take o=l.take o:=by rw[List.take_take,Nat.min_eq_left (by omega)]
 have e2:(l.take m).drop (o+us.length)=(l.drop (o+us.length)).take (m -(o+us.length)):=by rw[List.drop_take]
 rw[e1,e2,List.take_append,List.take_of_length_le (l:=l.take o++us) (by simp;omega)]
 congr 2
 simp;omega
theorem BQ{P:Program}{gl:Ctx}{E:Env}{w:World}{hp:List (Option aC)}(hw:HW gl E w hp){b:Nat}{k k':aC}{p:Path}{x:AV}{us:List Value}(hb:hp[b]? =some (some k))(hv:(E.bt b).valid p)(hx:RC E w x us)
 (RX:∀s,(E.bt b).sub p=some s→us.length=s.size) (h:jG k p x=some k'):
 ∃g w',E.g b=some g∧(storeCells ⟨g,(E.bt b).off p,none⟩ us 0).run P w= .ok () w'∧w'.os=w.os∧Tp gl.md w w'∧w'.output=w.output∧w'.heap.size=w.heap.size∧(∀i,i≠g→w'.heap[i]? =w.heap[i]?)∧RB E w' b k':=by
 have hk:=hw.bP b k hb
 cases k with
 |
  var t v=>
  obtain⟨h1,h2,g,c,e,h3,h4,h5⟩:=hk
  rw[h1] at hv RX ⊢
  simp only[jG] at h
  split at h
  ·rename_i u hu
   split at h
   ·rename_i hconf
    cases h
    obtain⟨s,e1,e2,e3,e4⟩:=AV.hU hx h5 h2 hv RX hu
    rw[←e2] at e3 e4
    have hst:=run_storeCells_at P g (t.off p) e us 0 c w h4 (by simpa using e3) (RC.one hx)
    refine⟨g,_,h3,hst,rfl,Tp.r rfl rfl,rfl,by simp,fun i hi=>setRow_other w g i _ hi,?_⟩
    have kp:aV E w E (w.setRow g (c.toList.take (t.off p+0)++us++c.toList.drop (t.off p+0+us.length)).toArray):=
     ⟨fun i hi=>setRow_other w g i _ (fun e=>hw.fT b _ g hb h3 (e▸hi)),fun _ h=>h⟩
    refine⟨h1,hconf,g,_,e,h3,setRow_heap w g c _ e _ h4,?_⟩
    have:=RC.mono kp (fun _ _=>⟨rfl,rfl,rfl⟩) e4
    simpa using this
   ·cases h
  ·cases h
 |
  row e bs t xs=>
  obtain⟨h1,h2,h3,h4,a,cap,h5,h6,h7⟩:=hk
  cases p with
  |nil=>simp[jG] at h
  |
   cons ps p=>
   cases ps with
   |cB k=>simp[jG] at h
   |
    idx i=>
    rw[h1] at hv RX ⊢
    have hi:i<xs.length:=hv.1
    rcases h7 with⟨_,_,h9⟩|⟨g,c,h7,h8,h9,Sy,h11,Sz⟩
    ·subst h9;simp at hi
    ·have hR:Rel w E.S (.arr xs.length t) (c.toList.take (xs.length*t.size)) xs:=⟨rfl,Sz⟩
     simp only[jG,E7] at h
     split at h
     ·rename_i y hy
      split at h
      ·rename_i z hz
       cases h
       have aD:dE (.arr xs.length t) xs (.idx i::p) x=some (.val (.arr xs.length t) (List.set xs i z)):=by
        simp only[dE]
        rw[hy];simp only;rw[hz]
       obtain⟨s,e1,e2,e3,e4⟩:=pq hx hR hv aD
       have hlen:xs.length*t.size≤c.toList.length:=by
        rw[show c.toList.length=c.size from Array.length_toList,Sy];exact Nat.mul_le_mul_right _ h11
       have e3':=e3
       rw[List.length_take,Nat.min_eq_left hlen,←e2] at e3'
       have hst:=run_storeCells_at P g ((Ty.arr xs.length t).off (.idx i::p)) e us 0 c w h9 (by rw[show c.toList.length=c.size from Array.length_toList] at hlen;omega) (RC.one hx)
       refine⟨g,_,h7,hst,rfl,Tp.r rfl rfl,rfl,by simp,fun i hi=>setRow_other w g i _ hi,?_⟩
       have kp:aV E w E (w.setRow g (c.toList.take ((Ty.arr xs.length t).off (.idx i::p)+0)++us++c.toList.drop ((Ty.arr xs.length t).off (.idx i::p)+0+us.length)).toArray):=
        ⟨fun i hi=>setRow_other w g i _ (fun e=>hw.fT b _ g hb h7 (e▸hi)),fun _ h=>h⟩
       refine⟨by rw[List.length_set];exact h1,by rw[List.length_set];exact h2,by rw[List.length_set];exact h3,h4,a,cap,by rw[List.length_set];exact h5,h6,Or.inr ⟨g,_,h7,h8,setRow_heap w g c _ e _ h9,?_,by rw[List.length_set];exact h11,?_⟩⟩
       ·rw[←Sy];simp only[List.size_toArray,List.length_append,List.length_take,List.length_drop]
        rw[show c.toList.length=c.size from Array.length_toList] at hlen ⊢;omega
       ·have:=RC.mono kp (fun _ _=>⟨rfl,rfl,rfl⟩) e4
        rw[←e2] at this
        have hh:=this.2
        simp only[Nat.add_zero,List.length_set]
        rw[zu _ _ _ _ (by omega) hlen]
        exact hh
      ·cases h
     ·cases h
 |
  cu e bs t xs i v=>
  obtain⟨h1,h2,h3,h4,h5,h6,g,cap,c,q1,q2,q3,q4,q5,q6,q7,q8,q9⟩:=hk
  rw[h1] at hv RX ⊢
  unfold jG at h
  split at h
  ·rename_i hk;cases hk
  ·rename_i hk;cases hk
  ·rename_i p hk
   cases hk
   split at h
   ·rename_i u hu
    split at h
    ·rename_i hconf
     cases h
     have RE:t.valid p:=hv
     obtain⟨s,e1,e2,e3,e4⟩:=AV.hU hx q8 h6 RE RX hu
     rw[←e2] at e3 e4
     rw[List.length_take,List.length_drop] at e3
     have hoff:(fV i xs.length t).off (.cB 1::p)=i*t.size+t.off p:=by simp[fV,Ty.off,Ty.size]
     have hlen:i*t.size+t.size≤c.toList.length:=by
      rw[show c.toList.length=c.size from Array.length_toList,q5]
      calc i*t.size+t.size=(i+1)*t.size:=by rw[Nat.add_mul];omega
       _≤cap*t.size:=Nat.mul_le_mul_right _ (by omega)
     obtain⟨m1,m2,m3⟩:=sE (L:=c.toList) (us:=us) (a:=i*t.size) (o:=t.off p) (n:=t.size) (by omega) hlen
     have hst:=run_storeCells_at P g (i*t.size+t.off p) e us 0 c w q4 (by rw[show c.toList.length=c.size from Array.length_toList] at hlen;omega) (RC.one hx)
     rw[hoff]
     refine⟨g,_,q3,hst,rfl,Tp.r rfl rfl,rfl,by simp,fun i hi=>setRow_other w g i _ hi,?_⟩
     have kp:aV E w E (w.setRow g (c.toList.take (i*t.size+t.off p+0)++us++c.toList.drop (i*t.size+t.off p+0+us.length)).toArray):=
      ⟨fun i hi=>setRow_other w g i _ (fun e=>hw.fT b _ g hb q3 (e▸hi)),fun _ h=>h⟩
     refine⟨h1,h2,h3,h4,h5,hconf,g,cap,_,q1,q2,q3,setRow_heap w g c _ e _ q4,?_,q6,?_,?_,?_⟩
     ·rw[←q5];simp only[List.size_toArray,List.length_append,List.length_take,List.length_drop]
      rw[show c.toList.length=c.size from Array.length_toList] at hlen ⊢;omega
     ·simp only[Nat.add_zero]
      rw[m1]
      exact aI.mono (fun _ _=>Rel.mono kp.w kp.S) q7
     ·simp only[Nat.add_zero] at kp ⊢
      rw[m2]
      exact RC.mono kp (fun _ _=>⟨rfl,rfl,rfl⟩) e4
     ·simp only[Nat.add_zero] at kp ⊢
      rw[show(i+1)*t.size=i*t.size+t.size from by rw[Nat.add_mul];omega] at q9 ⊢
      rw[m3]
      exact aI.mono (fun _ _=>Rel.mono kp.w kp.S) q9
    ·cases h
   ·cases h
  ·rename_i hk;cases hk
  ·cases h
 |
  bQ e bs t xs Si f=>
  obtain⟨h1,h2,h3,h4,h5,g,cap,c,og,q1,q2,q3,q4,q5,q6,q7,q8⟩:=hk
  unfold jG at h
  split at h
  ·rename_i hk;cases hk
  ·rename_i hk;cases hk
  ·rename_i hk;cases hk
  ·rename_i i v p hk
   cases hk
   split at h
   ·rename_i u hu
    split at h
    ·rename_i hconf
     cases h
     obtain⟨hi,hcv⟩:=h5 i v rfl
     obtain⟨u',r1,r2,_⟩:=q8 i (xs.getD i t.bL) (by rw[List.getD_eq_getElem?_getD,List.getElem?_eq_getElem hi];rfl)
     obtain⟨r0,r2⟩:=r2 v rfl
     rw[h1] at hv RX ⊢
     have RE:t.valid p:=hv
     have hc:c.toList[i]? =some u':=by simpa using r1
     have hmid:(c.toList.drop (i*t.size)).take t.size= [u']:=by
      rw[h2,Nat.mul_one]
      obtain⟨Ru,hc⟩:=List.getElem?_eq_some_iff.1 hc
      rw[List.drop_eq_getElem_cons Ru,hc];rfl
     rw[←hmid] at r2
     obtain⟨s,e1,e2,e3,e4⟩:=AV.hU hx r2 hcv RE RX hu
     rw[←e2] at e3 e4
     rw[List.length_take,List.length_drop] at e3
     have hoff:(jE xs.length t (some (i,v))).off (.cB 1::p)=i*t.size+t.off p:=by simp[jE,fV,Ty.off,Ty.size]
     have hlen:i*t.size+t.size≤c.toList.length:=by
      rw[show c.toList.length=c.size from Array.length_toList,q5,h2];omega
     obtain⟨m1,m2,m3⟩:=sE (L:=c.toList) (us:=us) (a:=i*t.size) (o:=t.off p) (n:=t.size) (by omega) hlen
     have hst:=run_storeCells_at P g (i*t.size+t.off p) e us 0 c w q4 (by rw[show c.toList.length=c.size from Array.length_toList] at hlen;omega) (RC.one hx)
     rw[hoff]
     refine⟨g,_,q3,hst,rfl,Tp.r rfl rfl,rfl,by simp,fun i hi=>setRow_other w g i _ hi,?_⟩
     have kp:aV E w E (w.setRow g (c.toList.take (i*t.size+t.off p+0)++us++c.toList.drop (i*t.size+t.off p+0+us.length)).toArray):=
      ⟨fun i hi=>setRow_other w g i _ (fun e=>hw.fT b _ g hb q3 (e▸hi)),fun _ h=>h⟩
     simp only[Nat.add_zero] at kp ⊢
     rw[h2,Nat.mul_one] at m1 m2 m3 kp hlen ⊢
     have RA:(c.toList.take (i+t.off p)++us++c.toList.drop (i+t.off p+us.length)).length=c.toList.length:=by
      rw[show c.toList.length=c.size from Array.length_toList] at hlen ⊢
      simp only[List.length_append,List.length_take,List.length_drop,Array.length_toList];omega
     refine⟨h1,h2,h3,h4,fun i' v' RE=>by cases RE;exact⟨hi,hconf⟩,g,cap,_,og,q1,q2,q3,setRow_heap w g c _ e _ q4,?_,q6,q7,?_⟩
     ·rw[←q5,List.size_toArray,RA];exact Array.length_toList
     ·intro i' x' Ss
      obtain⟨z,s1,s2,s3⟩:=q8 i' x' Ss
      by_cases e:i'=i
      ·subst e
       rw[h2,Nat.mul_one] at e4 hmid
       rw[←m2] at e4
       have Ru:i'<(c.toList.take (i'+t.off p)++us++c.toList.drop (i'+t.off p+us.length)).length:=by rw[RA];omega
       have e5:((c.toList.take (i'+t.off p)++us++c.toList.drop (i'+t.off p+us.length)).drop i').take 1= [(c.toList.take (i'+t.off p)++us++c.toList.drop (i'+t.off p+us.length))[i']]:=by
        rw[List.drop_eq_getElem_cons Ru];rfl
       rw[e5] at e4
       refine⟨(c.toList.take (i'+t.off p)++us++c.toList.drop (i'+t.off p+us.length))[i'],by rw[List.getElem?_toArray,List.getElem?_eq_getElem Ru],fun v' RE=>?_,fun RE=>absurd rfl (RE u)⟩
       cases RE
       exact⟨r0,RC.mono kp (fun _ _=>⟨rfl,rfl,rfl⟩) e4⟩
      ·refine⟨z,?_,fun v' RE=>by cases RE;exact absurd rfl e,fun _=>?_⟩
       ·have s1:c.toList[i']? =some z:=by simpa using s1
        have hnew:(c.toList.take (i+t.off p)++us++c.toList.drop (i+t.off p+us.length))[i']? =some z:=by
         rcases Nat.lt_or_gt_of_ne e with hl|hl
         ·have a1:((c.toList.take (i+t.off p)++us++c.toList.drop (i+t.off p+us.length)).take i)[i']? =(c.toList.take i)[i']? :=by rw[m1]
          rw[List.getElem?_take,if_pos hl,List.getElem?_take,if_pos hl] at a1
          rw[a1];exact s1
         ·have a1:((c.toList.take (i+t.off p)++us++c.toList.drop (i+t.off p+us.length)).drop (i+1))[i' -(i+1)]? =(c.toList.drop (i+1))[i' -(i+1)]? :=by rw[m3]
          rw[List.getElem?_drop,List.getElem?_drop,show i+1+(i' -(i+1))=i' from by omega] at a1
          rw[a1];exact s1
        simpa using hnew
       ·have s4:=s3 (fun v' RE=>by cases RE;exact e rfl)
        refine bX.mono kp.w kp.S (fun gg hgg=>?_) s4
        exact setRow_other w g gg _ (q7.own i' gg hgg).2
    ·cases h
   ·cases h
  ·cases h
 |_=>simp[jG] at h
def qR(G:bu)(hb:Nat→Option aC)(t:TypeId)(x y:AV):Option (Nat×aC):=
 match x,G.at t with
 |
  .ptr b p,some td=>match hb b with
  |
   some k=>match(fa k).sub p with
   |some s=>if Ty.same s td.ty&&Nat.beq y.size td.ty.size then(jG k p y).map fun k'=>(b,k') else none
   |none=>none
  |none=>none
 |_,_=>none
theorem Own.iU{hp:List (Option aC)}{E:Env}{b:Nat}{k k':aC}(hb:hp[b]? =some (some k)){i:Nat}:Own (hp.set b (some k')) E i→Own hp E i:=Own.set hb
theorem sF{P:Program}{G:bu}(T:aN P G){gl:Ctx}{σ:St}{E:Env}{a:Act}{w:World}(h:bD gl σ E a w){hb:Nat→Option aC}(hB:HB hb σ.hp){t:TypeId}{x y:AV}{vx vy:Value}(hx:RV E w x vx)(hy:bN E w y vy){b:Nat}{k':aC}
 (Rz:qR G hb t x y=some (b,k')):
 ∃w',(Instr.storeAt t vx vy).run P w= .ok () w'∧bD gl (σ.bP b (some k')) E a w'∧Ext gl.md (Own σ.hp E) E w (Own (σ.bP b (some k')).hp E) E w':=by
 unfold qR at Rz
 split at Rz
 ·rename_i b' p td ht
  split at Rz
  ·rename_i k hk
   split at Rz
   ·rename_i s hs
    split at Rz
    ·rename_i hc
     simp only[Bool.and_eq_true] at hc
     simp only[Option.map_eq_some_iff] at Rz
     obtain⟨k2,hk2,e⟩:=Rz
     cases e
     have:=Ty.aA hc.1;subst this
     obtain⟨g,hg,e,hv⟩:=RV.atom rfl hx
     simp at e;subst e
     have hkb:=h.hw.bP b k (hB b k hk)
     have SB:E.bt b=fa k:=by
      refine RB.bt hkb ?_
      cases k<;>first|rfl|simp[jG] at hk2
     have hyc:=hy.cells
     have hlen:=RC.len hyc
     have RA:=Nat.eq_of_beq_eq_true hc.2
     obtain⟨g',w',h1,h2,h3,h4,h5,h6,h7,h8⟩:=BQ (P:=P) h.hw (hB b k hk) hv hyc (fun s' Sx=>by rw[SB,hs] at Sx;cases Sx;omega) hk2
     rw[hg] at h1;cases h1
     have RN:(Instr.storeAt t (.pointer (some ⟨g,(E.bt b).off p,none⟩)) vy).run P w= .ok () w':=by
      have:vy.cells.size=td.ty.size:=by rw[←RA,←hlen,Array.length_toList]
      simp[Instr.storeAt,Instr.sureAddr,storeVar,T.size ht,this,h2]
     have kp:aV E w E w':=⟨fun i hi=>h7 i (fun e=>h.hw.fT b k g (hB b k hk) hg (e▸hi)),fun _ h=>h⟩
     have hhw:=h.hw.write (w':=w') (k':=k') (hB b k hk) h6 (fun i hi=>h7 i (fun e=>hi (e▸hg))) h8
     refine⟨w',RN,h.carry kp (fun _ _=>⟨rfl,rfl,rfl⟩) hhw,h3,h4,h5,by omega,?_,fun _ h=>h,fun _ h=>Or.inl h,fun i hi=>Or.inl (Own.set (hB b k hk) hi),fun _ _=>⟨rfl,rfl,rfl⟩⟩
     intro i hi ho
     exact h7 i (fun e=>ho ⟨b,k,hB b k hk,Or.inl (e▸hg)⟩)
    ·cases Rz
   ·cases Rz
  ·cases Rz
 ·cases Rz
end Go.Ax
namespace Go.Ax
structure aJ where
 rt:List Nat
 rb:List Nat
 fr:List Nat
 dst:Option Nat
 v:AV
 hw:List (Nat×Option aC)
def aD(hp:List (Option aC)):List (Nat×Option aC)→List (Option aC)
 |[]=>hp
 |(b,k)::l=>aD (hp.set b k) l
def St.app(σ:St)(f:aJ):St:=({σ with hp:=aD σ.hp f.hw}:St).put f.dst f.v
structure fK(σ σ':St)(rt rb:List Nat):Prop where
 tl:σ'.tm.length=σ.tm.length
 hl:σ'.hp.length=σ.hp.length
 tm:∀t∈rt,σ'.tm[t]? =σ.tm[t]?
 hp:∀b∈rb,σ'.hp[b]? =σ.hp[b]?
theorem fK.refl(σ:St)(rt rb:List Nat):fK σ σ rt rb:=⟨rfl,rfl,fun _ _=>rfl,fun _ _=>rfl⟩
def oS(P:Program)(gl:Ctx)(ops:Array Oper)(i:Nat)(f:aJ)(σ:St):Prop:=
 ∀σ',fK σ σ' f.rt f.rb→(∀d∈f.fr,σ'.fresh d)→∀E a w,bD gl σ' E a w→∀(K:Act→World→Prop)(Q:Exit→Act→World→Prop),
  (∀E' a' w',bD gl (σ'.app f) E' a' w'→Ext gl.md (Own σ'.hp E) E w (Own (σ'.app f).hp E') E' w'→K a' w')→wpOpIn (Wd gl) 0 P ops Q i K a w
def bG(OK:Nat→aJ→St→Prop):Nat→List aJ→St→St→Prop
 |_,[],σ,σ'=>σ'=σ
 |i,f::fs,σ,σ'=>OK i f σ∧(∀d∈f.fr,σ.fresh d)∧bG OK (i+1) fs (σ.app f) σ'
abbrev kI(P:Program)(gl:Ctx)(ops:Array Oper):Nat→List aJ→St→St→Prop:=bG (oS P gl ops)
theorem bG.mono{OK OK':Nat→aJ→St→Prop}(hm:∀i f σ,OK i f σ→OK' i f σ):∀{fs:List aJ}{i:Nat}{σ σ':St},bG OK i fs σ σ'→bG OK' i fs σ σ'
 |[],_,_,_,h=>h
 |_::_,_,_,_,⟨h1,h2,h3⟩=>⟨hm _ _ _ h1,h2,h3.mono hm⟩
theorem gM:∀(l:List (Nat×Option aC))(hp:List (Option aC)),(aD hp l).length=hp.length
 |[],_=>rfl
 |(b,k)::l,hp=>by rw[aD,gM l,List.length_set]
def wrote:List (Nat×Option aC)→List Nat
 |[]=>[]
 |(b,_)::l=>b::wrote l
theorem cT{b:Nat}:∀{l:List (Nat×Option aC)}{hp:List (Option aC)},b∉wrote l→(aD hp l)[b]? =hp[b]?
 |[],_,_=>rfl
 |
  (c,k)::l,hp,h=>by
  simp only[wrote,List.mem_cons,not_or] at h
  rw[aD,cT h.2,List.getElem?_set,if_neg (fun e=>h.1 e.symm)]
theorem lB(σ:St)(f:aJ):(σ.app f).tm.length=σ.tm.length:=by
 unfold St.app St.put;split<;>simp
theorem lC(σ:St)(f:aJ):(σ.app f).hp.length=σ.hp.length:=by
 unfold St.app St.put;split<;>simp[gM]
theorem dG(σ:St)(f:aJ):(σ.app f).hp=aD σ.hp f.hw:=by
 unfold St.app St.put;split<;>rfl
theorem nY(σ:St)(f:aJ):(σ.app f).df=σ.df:=by
 unfold St.app St.put;split<;>rfl
theorem eA{σ:St}{f:aJ}{t:Nat}(h:f.dst≠some t):(σ.app f).tm[t]? =σ.tm[t]? :=by
 unfold St.app St.put
 split
 ·rename_i d hd
  simp only[List.getElem?_set]
  rw[if_neg (fun e=>h (by rw[hd,e]))]
 ·rfl
structure qS(gl:Ctx)(DS WB:List Nat)(σ0:St)(E0:Env)(w0:World)(σ:St)(E:Env)(w:World):Prop where
 df:σ.df=σ0.df
 tl:σ.tm.length=σ0.tm.length
 hl:σ.hp.length=σ0.hp.length
 tm:∀t,t∉DS→σ.tm[t]? =σ0.tm[t]?
 hp:∀b,b∉WB→σ.hp[b]? =σ0.hp[b]?
 ext:Ext gl.md (Own σ0.hp E0) E0 w0 (Own σ.hp E) E w
theorem qS.refl{gl:Ctx}{DS WB:List Nat}(σ:St)(E:Env)(w:World):qS gl DS WB σ E w σ E w:=⟨rfl,rfl,rfl,fun _ _=>rfl,fun _ _=>rfl,Ext.refl _ _ _⟩
def JB(DS WB:List Nat)(f:aJ):Prop:=(∀d,f.dst=some d→d∈DS)∧∀b∈wrote f.hw,b∈WB
theorem qS.app{gl:Ctx}{DS WB:List Nat}{σ0 σ:St}{E0 E E':Env}{w0 w w':World}{f:aJ}(h:qS gl DS WB σ0 E0 w0 σ E w)(hf:JB DS WB f)(hx:Ext gl.md (Own σ.hp E) E w (Own (σ.app f).hp E') E' w'):qS gl DS WB σ0 E0 w0 (σ.app f) E' w' where
 df:=(nY _ _).trans h.df
 tl:=(lB _ _).trans h.tl
 hl:=(lC _ _).trans h.hl
 tm:=fun t ht=>(eA (fun e=>ht (hf.1 t e))).trans (h.tm t ht)
 hp:=fun b hb=>by rw[dG,cT (fun e=>hb (hf.2 b e))];exact h.hp b hb
 ext:=h.ext.trans hx
def GQ(P:Program)(gl:Ctx)(ops:Array Oper)(Q:Exit→Act→World→Prop)(V:St→Env→World→Prop)(i:Nat)(f:aJ)(σ:St):Prop:=
 ∀σ',fK σ σ' f.rt f.rb→(∀d∈f.fr,σ'.fresh d)→∀E a w,bD gl σ' E a w→V σ' E w→∀(K:Act→World→Prop),
  (∀E' a' w',bD gl (σ'.app f) E' a' w'→Ext gl.md (Own σ'.hp E) E w (Own (σ'.app f).hp E') E' w'→K a' w')→wpOpIn (Wd gl) 0 P ops Q i K a w
theorem oS.q{P:Program}{gl:Ctx}{ops:Array Oper}{Q:Exit→Act→World→Prop}{V:St→Env→World→Prop}{i:Nat}{f:aJ}{σ:St}(h:oS P gl ops i f σ):GQ P gl ops Q V i f σ:=
 fun σ' h1 h2 E a w hg _ K hk=>h σ' h1 h2 E a w hg K Q hk
section
variable{P:Program} {gl:Ctx} {ops:Array Oper} {Q:Exit→Act→World→Prop} {DS WB:List Nat} {σ0:St} {E0:Env} {w0:World}
theorem BR.wp{σ':St}(hq:∀E' a' w',bD gl σ' E' a' w'→qS gl DS WB σ0 E0 w0 σ' E' w'→Q .normal a' w'):∀{fs:List aJ}{i:Nat}{σ:St},(∀f∈fs,JB DS WB f)→bG (GQ P gl ops Q (qS gl DS WB σ0 E0 w0)) i fs σ σ'→∀{E:Env}{a:Act}{w:World},bD gl σ E a w→qS gl DS WB σ0 E0 w0 σ E w→
 wpOpsIn (Wd gl) 0 P ops Q ((List.range fs.length).map (·+i)) a w
 |
  [],i,σ,_,h,E,a,w,hg,hv=>by
  simp only[bG] at h;subst h
  exact hq E a w hg hv
 |
  f::fs,i,σ,hi,⟨h1,h2,h3⟩,E,a,w,hg,hv=>by
  have e:(List.range (f::fs).length).map (·+i)=i::(List.range fs.length).map (·+(i+1)):=by
   rw[List.length_cons,List.range_succ_eq_map]
   simp only[List.map_cons,Nat.zero_add,List.map_map]
   congr 1
   apply List.map_congr_left
   intro x _
   simp;omega
  rw[e,wpOpsIn_cons]
  refine h1 σ (fK.refl _ _ _) h2 E a w hg hv _ ?_
  intro E' a' w' R4 hx
  exact BR.wp hq (fun g hm=>hi g (List.mem_cons_of_mem _ hm)) h3 R4 (hv.app (hi f (List.mem_cons_self ..)) hx)
end
def dstsOf(fs:List aJ):List Nat:=fs.flatMap fun f=>f.dst.toList
def ib(fs:List aJ):List Nat:=fs.flatMap fun f=>wrote f.hw
theorem BS{fs:List aJ}:∀f∈fs,JB (dstsOf fs) (ib fs) f:=fun f hf=>
 ⟨fun d hd=>List.mem_flatMap.2 ⟨f,hf,by simp[hd]⟩,fun b hb=>List.mem_flatMap.2 ⟨f,hf,hb⟩⟩
theorem lU{P:Program}{gl:Ctx}{ops:Array Oper}{id:Nat}{fs:List aJ}{σ σ':St}{Q:Exit→Act→World→Prop}{E:Env}{a:Act}{w:World}(hn:fs.length=ops.size)(h:bG (GQ P gl ops Q (qS gl (dstsOf fs) (ib fs) σ E w)) 0 fs σ σ')(hg:bD gl σ E a w)
 (hq:∀E' a' w',bD gl σ' E' a' w'→qS gl (dstsOf fs) (ib fs) σ E w σ' E' w'→Q .normal a' w'):(Code.region id ops false).wpIn (Wd gl) 0 P Q a w:=by
 refine wpIn_region ?_
 have:=BR.wp hq BS h hg (qS.refl _ _ _)
 rw[hn] at this
 simpa using this
theorem uR{P:Program}{gl:Ctx}{ops:Array Oper}{id:Nat}{fs:List aJ}{σ σ':St}(hn:fs.length=ops.size)(h:kI P gl ops 0 fs σ σ'){Q:Exit→Act→World→Prop}{E:Env}{a:Act}{w:World}(hg:bD gl σ E a w)
 (hq:∀E' a' w',bD gl σ' E' a' w'→Ext gl.md (Own σ.hp E) E w (Own σ'.hp E') E' w'→Q .normal a' w'):(Code.region id ops false).wpIn (Wd gl) 0 P Q a w:=
 lU hn (h.mono fun _ _ _=>oS.q) hg (fun E' a' w' h1 h2=>hq E' a' w' h1 h2.ext)
theorem eL{b:Nat}:∀{l:List (Nat×Option aC)}{hp Sl:List (Option aC)},hp.length=Sl.length→hp[b]? =Sl[b]? →(aD hp l)[b]? =(aD Sl l)[b]?
 |[],_,_,_,h=>h
 |
  (c,k)::l,hp,Sl,hl,h=>by
  rw[aD,aD]
  refine eL (by simp[hl]) ?_
  rw[List.getElem?_set,List.getElem?_set,hl,h]
theorem nZ{b:Nat}:∀{l:List (Nat×Option aC)}{hp Sl:List (Option aC)},hp.length=Sl.length→b∈wrote l→(aD hp l)[b]? =(aD Sl l)[b]?
 |[],_,_,_,h=>by cases h
 |
  (c,k)::l,hp,Sl,hl,h=>by
  rw[aD,aD]
  by_cases hb:b∈wrote l
  ·exact nZ (by simp[hl]) hb
  ·simp only[wrote,List.mem_cons] at h
   have e:b=c:=h.resolve_right hb
   subst e
   rw[cT hb,cT hb,List.getElem?_set,List.getElem?_set,hl]
   simp
theorem sG{σ σ':St}{f:aJ}{t:Nat}(hl:σ.tm.length=σ'.tm.length)(h:σ.tm[t]? =σ'.tm[t]?):(σ.app f).tm[t]? =(σ'.app f).tm[t]? :=by
 unfold St.app St.put
 split
 ·simp only[List.getElem?_set]
  rw[hl,h]
 ·exact h
theorem qT{σ σ':St}{f:aJ}{t:Nat}(hl:σ.tm.length=σ'.tm.length)(h:f.dst=some t):(σ.app f).tm[t]? =(σ'.app f).tm[t]? :=by
 unfold St.app St.put
 rw[h]
 simp only[List.getElem?_set]
 rw[hl];simp
def b0(X:Nat→Bool):Nat→List aJ→St→St
 |_,[],σ=>σ
 |i,f::fs,σ=>b0 X (i+1) fs (if X i then σ.app f else σ)
theorem mG(X:Nat→Bool):∀(fs:List aJ)(i:Nat)(σ:St),(b0 X i fs σ).tm.length=σ.tm.length
 |[],_,_=>rfl
 |f::fs,i,σ=>by rw[b0,mG X fs];split<;>simp[lB]
theorem mH(X:Nat→Bool):∀(fs:List aJ)(i:Nat)(σ:St),(b0 X i fs σ).hp.length=σ.hp.length
 |[],_,_=>rfl
 |f::fs,i,σ=>by rw[b0,mH X fs];split<;>simp[lC]
theorem qU(X:Nat→Bool):∀(fs:List aJ)(i:Nat)(σ:St),(b0 X i fs σ).df=σ.df
 |[],_,_=>rfl
 |f::fs,i,σ=>by rw[b0,qU X fs];split<;>simp[nY]
theorem mI{X Y:Nat→Bool}{t:Nat}:∀{fs:List aJ}{i:Nat}{σ σ':St},σ.tm.length=σ'.tm.length→σ.tm[t]? =σ'.tm[t]? →(∀(k:Nat)(f:aJ),fs[k]? =some f→X (i+k)≠Y (i+k)→f.dst≠some t)→
 (b0 X i fs σ).tm[t]? =(b0 Y i fs σ').tm[t]?
 |[],_,_,_,_,h,_=>h
 |
  f::fs,i,σ,σ',hl,h,hd=>by
  rw[b0,b0]
  refine mI ?_ ?_ (fun k g hk Rw=>hd (k+1) g (by simpa using hk) (by rw[show i+(k+1)=i+1+k from by omega];exact Rw))
  ·split<;>split<;>simp[lB,hl]
  ·by_cases hx:X i=Y i
   ·rw[hx];split
    ·exact sG hl h
    ·exact h
   ·have:=hd 0 f rfl (by simpa using hx)
    split<;>split<;>simp_all[eA]
theorem mJ{X Y:Nat→Bool}{b:Nat}:∀{fs:List aJ}{i:Nat}{σ σ':St},σ.hp.length=σ'.hp.length→σ.hp[b]? =σ'.hp[b]? →(∀(k:Nat)(f:aJ),fs[k]? =some f→X (i+k)≠Y (i+k)→b∉wrote f.hw)→
 (b0 X i fs σ).hp[b]? =(b0 Y i fs σ').hp[b]?
 |[],_,_,_,_,h,_=>h
 |
  f::fs,i,σ,σ',hl,h,hd=>by
  rw[b0,b0]
  refine mJ ?_ ?_ (fun k g hk Rw=>hd (k+1) g (by simpa using hk) (by rw[show i+(k+1)=i+1+k from by omega];exact Rw))
  ·split<;>split<;>simp[lC,hl]
  ·by_cases hx:X i=Y i
   ·rw[hx];split
    ·rw[dG,dG];exact eL hl h
    ·exact h
   ·have:=hd 0 f rfl (by simpa using hx)
    split<;>split<;>simp_all[dG,cT]
theorem kJ{X:Nat→Bool}{t:Nat}{fi:aJ}(hw:fi.dst=some t):∀{fs:List aJ}{i j:Nat}{σ σ':St},σ.tm.length=σ'.tm.length→fs[j]? =some fi→X (i+j)=true→(∀(k:Nat)(f:aJ),fs[k]? =some f→j<k→X (i+k)=true→f.dst≠some t)→
 (b0 X i fs σ).tm[t]? =(σ'.app fi).tm[t]?
 |[],_,_,_,_,_,h,_,_=>by simp at h
 |
  f::fs,i,0,σ,σ',hl,hf,hx,hd=>by
  simp at hf;subst hf
  rw[b0]
  simp only[Nat.add_zero] at hx
  rw[hx]
  have:(b0 X (i+1) fs (σ.app f)).tm[t]? =(b0 (fun _=>false) (i+1) fs (σ'.app f)).tm[t]? :=by
   refine mI (by simp[lB,hl]) (qT hl hw) (fun k g hk Rw=>?_)
   refine hd (k+1) g (by simpa using hk) (by omega) ?_
   rw[show i+(k+1)=i+1+k from by omega]
   simpa using Rw
  rw[if_pos rfl,this]
  have hid:∀(fs:List aJ)(i:Nat)(σ:St),b0 (fun _=>false) i fs σ=σ:=by
   intro fs
   induction fs with
   |nil=>intro i σ;rfl
   |cons f fs ih=>intro i σ;rw[b0];simp only[Bool.false_eq_true,if_false];exact ih _ _
  rw[hid]
 |
  f::fs,i,j+1,σ,σ',hl,hf,hx,hd=>by
  rw[b0]
  refine kJ hw (j:=j) ?_ (by simpa using hf) (by rw[show i+1+j=i+(j+1) from by omega];exact hx) (fun k g hk hjk hxk=>hd (k+1) g (by simpa using hk) (by omega) (by rw[show i+(k+1)=i+1+k from by omega];exact hxk))
  split<;>simp[lB,hl]
theorem kK{X:Nat→Bool}{b:Nat}{fi:aJ}(hw:b∈wrote fi.hw):∀{fs:List aJ}{i j:Nat}{σ σ':St},σ.hp.length=σ'.hp.length→fs[j]? =some fi→X (i+j)=true→(∀(k:Nat)(f:aJ),fs[k]? =some f→j<k→X (i+k)=true→b∉wrote f.hw)→
 (b0 X i fs σ).hp[b]? =(σ'.app fi).hp[b]?
 |[],_,_,_,_,_,h,_,_=>by simp at h
 |
  f::fs,i,0,σ,σ',hl,hf,hx,hd=>by
  simp at hf;subst hf
  rw[b0]
  simp only[Nat.add_zero] at hx
  rw[hx]
  have:(b0 X (i+1) fs (σ.app f)).hp[b]? =(b0 (fun _=>false) (i+1) fs (σ'.app f)).hp[b]? :=by
   refine mJ (by simp[lC,hl]) (by rw[dG,dG];exact nZ hl hw) (fun k g hk Rw=>?_)
   refine hd (k+1) g (by simpa using hk) (by omega) ?_
   rw[show i+(k+1)=i+1+k from by omega]
   simpa using Rw
  rw[if_pos rfl,this]
  have hid:∀(fs:List aJ)(i:Nat)(σ:St),b0 (fun _=>false) i fs σ=σ:=by
   intro fs
   induction fs with
   |nil=>intro i σ;rfl
   |cons f fs ih=>intro i σ;rw[b0];simp only[Bool.false_eq_true,if_false];exact ih _ _
  rw[hid]
 |
  f::fs,i,j+1,σ,σ',hl,hf,hx,hd=>by
  rw[b0]
  refine kK hw (j:=j) ?_ (by simpa using hf) (by rw[show i+1+j=i+(j+1) from by omega];exact hx) (fun k g hk hjk hxk=>hd (k+1) g (by simpa using hk) (by omega) (by rw[show i+(k+1)=i+1+k from by omega];exact hxk))
  split<;>simp[lC,hl]
end Go.Ax
namespace Go.Ax
def GR:Option aC→List Nat
 |some k=>k.ids
 |none=>[]
def xZ:List (Nat×Option aC)→List Nat
 |[]=>[]
 |(_,k)::l=>GR k++xZ l
def aJ.E8(f:aJ):List Nat:=f.v.ids++xZ f.hw
theorem ig{σ:St}{d:Nat}:d∉σ.ids↔(∀(i:Nat)(x:AV),σ.tm[i]? =some x→d∉x.ids)∧(∀x∈σ.df,d∉x.ids)∧(∀(i:Nat)(k:aC),σ.hp[i]? =some (some k)→d∉k.ids):=by
 constructor
 ·intro h
  exact⟨fun i x hx hm=>h (St.uM hx d hm),fun x hx hm=>h (St.BI hx d hm),fun i k hk hm=>h (St.qP hk d hm)⟩
 ·rintro⟨h1,h2,h3⟩ hm
  simp only[St.ids,List.mem_append,List.mem_flatMap,List.mem_filterMap] at hm
  rcases hm with(⟨x,hx,hd⟩|⟨x,hx,hd⟩)|⟨k,⟨o,ho,e⟩,hd⟩
  ·obtain⟨i,hi⟩:=List.getElem?_of_mem hx
   exact h1 i x hi hd
  ·exact h2 x hx hd
  ·simp at e;subst e
   obtain⟨i,hi⟩:=List.getElem?_of_mem ho
   exact h3 i k hi hd
theorem sH{d:Nat}:∀{l:List (Nat×Option aC)}{hp:List (Option aC)},(∀(i:Nat)(k:aC),hp[i]? =some (some k)→d∉k.ids)→d∉xZ l→∀(i:Nat)(k:aC),(aD hp l)[i]? =some (some k)→d∉k.ids
 |[],_,h,_=>h
 |
  (b,o)::l,hp,h,hm=>by
  simp only[xZ,List.mem_append,not_or] at hm
  refine sH (l:=l) (hp:=hp.set b o) ?_ hm.2
  intro i k hk
  rw[List.getElem?_set] at hk
  split at hk
  ·split at hk
   ·simp at hk;subst hk;exact hm.1
   ·cases hk
  ·exact h i k hk
theorem zv{σ:St}{f:aJ}{d:Nat}(h:σ.fresh d)(hm:d∉f.E8)(hw:d∉wrote f.hw):(σ.app f).fresh d:=by
 simp only[aJ.E8,List.mem_append,not_or] at hm
 obtain⟨h1,h2,h3⟩:=h
 rw[ig] at h1
 obtain⟨a1,a2,a3⟩:=h1
 refine⟨?_,?_,h3⟩
 ·rw[ig]
  refine⟨?_,?_,?_⟩
  ·intro i x hx
   by_cases e:f.dst=some i
   ·unfold St.app St.put at hx
    rw[e] at hx
    simp only[List.getElem?_set] at hx
    simp only[if_true] at hx
    split at hx
    ·cases hx;exact hm.1
    ·cases hx
   ·rw[eA e] at hx;exact a1 i x hx
  ·rw[nY];exact a2
  ·rw[dG];exact sH a3 hm.2
 ·intro k
  rw[dG,cT hw];exact h2 k
theorem oc{X:Nat→Bool}{d:Nat}:∀{fs:List aJ}{i:Nat}{σ:St},σ.fresh d→(∀(k:Nat)(f:aJ),fs[k]? =some f→X (i+k)=true→d∉f.E8∧d∉wrote f.hw)→(b0 X i fs σ).fresh d
 |[],_,_,h,_=>h
 |
  f::fs,i,σ,h,hd=>by
  rw[b0]
  refine oc ?_ (fun k g hk hx=>hd (k+1) g (by simpa using hk) (by rw[show i+(k+1)=i+1+k from by omega];exact hx))
  split
  ·rename_i hx
   have:=hd 0 f rfl (by simpa using hx)
   exact zv h this.1 this.2
  ·exact h
def IY(acc:List Nat)(o:Oper):Nat:=
 o.after.toList.foldl (fun s e=>if Region.binds .any e then s ||| 2^e.on ||| acc.getD e.on 0 else s) 0
def lD:List Oper→List Nat→List Nat
 |[],acc=>acc
 |o::l,acc=>lD l (acc++[IY acc o])
theorem od{X:Nat→Bool}{acc:List Nat}(hacc:∀j k,X j=true→(acc.getD j 0).testBit k=true→X k=true):∀(l:List Edge)(s:Nat),(∀e∈l,Region.binds .any e=true→X e.on=true)→(∀k,s.testBit k=true→X k=true)→
 ∀k,(l.foldl (fun s e=>if Region.binds .any e then s ||| 2^e.on ||| acc.getD e.on 0 else s) s).testBit k=true→X k=true
 |[],s,_,hs=>hs
 |
  e::l,s,hl,hs=>by
  refine od hacc l _ (fun e' he'=>hl e' (List.mem_cons_of_mem _ he')) ?_
  intro k hk
  simp only at hk
  split at hk
  ·rename_i hb
   have hX:=hl e (List.mem_cons_self ..) hb
   simp only[Nat.testBit_or,Bool.or_eq_true,Nat.testBit_two_pow] at hk
   rcases hk with(hk|hk)|hk
   ·exact hs k hk
   ·have:=of_decide_eq_true hk;subst this;exact hX
   ·exact hacc e.on k hX hk
  ·exact hs k hk
theorem pv{X:Nat→Bool}:∀(l:List Oper)(acc:List Nat),(∀j k,X j=true→(acc.getD j 0).testBit k=true→X k=true)→
 (∀j o,l[j]? =some o→X (acc.length+j)=true→∀e∈o.after.toList,Region.binds .any e=true→X e.on=true)→
 ∀j k,X j=true→((lD l acc).getD j 0).testBit k=true→X k=true
 |[],_,h,_=>h
 |
  o::l,acc,h,hc=>by
  refine pv l _ ?_ ?_
  ·intro j k hj hk
   rw[List.getD_eq_getElem?_getD,List.getElem?_append] at hk
   split at hk
   ·rw[←List.getD_eq_getElem?_getD] at hk;exact h j k hj hk
   ·by_cases e:j=acc.length
    ·subst e
     simp at hk
     exact od h o.after.toList 0 (hc 0 o rfl (by simpa using hj)) (fun k hk=>by simp at hk) k hk
    ·rw[List.getElem?_eq_none (by simp;omega)] at hk
     simp at hk
  ·intro j o' ho hx
   exact hc (j+1) o' (by simpa using ho) (by rw[List.length_append,List.length_singleton] at hx;rw[show acc.length+(j+1)=acc.length+1+j from by omega];exact hx)
def dT:List Nat→List Nat→Bool
 |[],_=>false
 |x::l,m=>bT x m||dT l m
theorem iV{d:Nat}:∀{l:List Nat},d∈l→bT d l=true
 |
  x::l,h=>by
  simp only[bT,Bool.or_eq_true]
  cases h with
  |head=>exact Or.inl (Nat.beq_refl d)
  |tail _ h=>exact Or.inr (iV h)
theorem kL{d:Nat}:∀{l m:List Nat},d∈l→d∈m→dT l m=true
 |
  x::l,m,h,hm=>by
  simp only[dT,Bool.or_eq_true]
  cases h with
  |head=>exact Or.inl (iV hm)
  |tail _ h=>exact Or.inr (kL h hm)
def aJ.wt(f:aJ):List Nat:=f.dst.toList
def aJ.wb(f:aJ):List Nat:=wrote f.hw++f.fr
def kM(f g:aJ):Bool:=
 dT f.wt (g.rt++g.wt)||dT f.rt g.wt||dT f.wb (g.rb++g.wb)||dT f.rb g.wb||dT f.fr g.E8
def iW(masks:Nat)(g:aJ):Nat→List aJ→Bool
 |_,[]=>true
 |i,f::fs=>(!kM f g||masks.testBit i)&& !dT g.fr (f.E8++wrote f.hw)&&iW masks g (i+1) fs
def kN(masks:List Nat)(all:List aJ):Nat→List aJ→Bool
 |_,[]=>true
 |j,g::fs=>iW (masks.getD j 0) g 0 (all.take j)&&kN masks all (j+1) fs
theorem lV{m:Nat}{g:aJ}:∀{fs:List aJ}{i:Nat},iW m g i fs=true→∀k f,fs[k]? =some f→(kM f g=true→m.testBit (i+k)=true)∧dT g.fr (f.E8++wrote f.hw)=false
 |[],_,_,k,f,h=>by simp at h
 |
  f0::fs,i,h,k,f,hk=>by
  simp only[iW,Bool.and_eq_true,Bool.or_eq_true,Bool.not_eq_true'] at h
  cases k with
  |zero=>simp at hk;subst hk;exact⟨fun hc=>by rcases h.1.1 with h1|h1;rw[hc] at h1;cases h1;exact h1,h.1.2⟩
  |succ k=>have:=lV h.2 k f (by simpa using hk);rw[show i+(k+1)=i+1+k from by omega];exact this
theorem lW{masks:List Nat}{all:List aJ}:∀{fs:List aJ}{j:Nat},kN masks all j fs=true→∀k g,fs[k]? =some g→iW (masks.getD (j+k) 0) g 0 (all.take (j+k))=true
 |[],_,_,k,g,h=>by simp at h
 |
  g0::fs,j,h,k,g,hk=>by
  simp only[kN,Bool.and_eq_true] at h
  cases k with
  |zero=>simp at hk;subst hk;exact h.1
  |succ k=>have:=lW h.2 k g (by simpa using hk);rw[show j+(k+1)=j+1+k from by omega];exact this
def pw(ops:List Oper):Nat→Bool:=fun j=>match ops[j]? with
 |some o=>o.after.toList.all fun e=> !Region.binds .any e||Nat.blt e.on j
 |none=>true
def iz(ops:Array Oper)(fs:List aJ):Bool:=
 Nat.beq fs.length ops.size&&kN (lD ops.toList []) fs 0 fs&&(List.range ops.size).all (pw ops.toList)
theorem bG.nth{OK:Nat→aJ→St→Prop}:∀{fs:List aJ}{i:Nat}{σ σ':St},bG OK i fs σ σ'→∀(k:Nat)(f:aJ),fs[k]? =some f→OK (i+k) f (b0 (fun x=>decide (x<i+k)) i fs σ)
 |[],_,_,_,_,k,f,h=>by simp at h
 |
  g::fs,i,σ,σ',⟨h1,h2,h3⟩,k,f,hk=>by
  cases k with
  |
   zero=>
   simp at hk;subst hk
   rw[b0]
   simp only[Nat.add_zero,Nat.lt_irrefl,decide_false,Bool.false_eq_true,if_false]
   have hid:∀(fs:List aJ)(j:Nat)(σ:St),i<j→b0 (fun x=>decide (x<i)) j fs σ=σ:=by
    intro fs
    induction fs with
    |nil=>intro j σ _;rfl
    |cons f fs ih=>intro j σ hj;rw[b0,if_neg (by simp;omega)];exact ih _ _ (by omega)
   rw[hid fs (i+1) σ (by omega)];exact h1
  |
   succ k=>
   have:=bG.nth h3 k f (by simpa using hk)
   rw[b0,if_pos (by simp)]
   rw[show i+(k+1)=i+1+k from by omega]
   exact this
theorem bG.last{OK:Nat→aJ→St→Prop}:∀{fs:List aJ}{i:Nat}{σ σ':St},bG OK i fs σ σ'→∀{X:Nat→Bool},(∀k,i≤k→k<i+fs.length→X k=true)→σ'=b0 X i fs σ
 |[],_,_,_,h,_,_=>h
 |
  f::fs,i,σ,σ',⟨_,_,h⟩,X,hX=>by
  rw[b0,if_pos (hX i (Nat.le_refl _) (by simp))]
  exact bG.last h (fun k h1 h2=>hX k (by omega) (by simp;omega))
theorem dg{l m:List Nat}(h:dT l m=false){d:Nat}(hd:d∈l):d∉m:=fun hm=>by
 rw[kL hd hm] at h;cases h
section
variable{ops:Array Oper} {fs:List aJ} {σ:St}
theorem uS(dY:iz ops fs=true)(RU:∀(k:Nat)(f:aJ),fs[k]? =some f→∀d∈f.fr,σ.fresh d)
 {X:Nat→Bool} (hX:∀j o,ops[j]? =some o→X j=true→∀e∈o.after.toList,Region.binds .any e=true→X e.on=true)
 {i:Nat} {o:Oper} (ho:ops[i]? =some o) (hi:X i=false) (hpre:∀e∈o.after.toList,Region.binds .any e=true→X e.on=true) {f:aJ} (hf:fs[i]? =some f):
 fK (b0 (fun x=>decide (x<i)) 0 fs σ) (b0 X 0 fs σ) f.rt f.rb∧(∀d∈f.fr,(b0 X 0 fs σ).fresh d)∧(b0 X 0 fs σ).app f=b0 (fun x=>X x||x==i) 0 fs σ:=by
 simp only[iz,Bool.and_eq_true] at dY
 obtain⟨⟨hlen,hconf⟩,hedge⟩:=dY
 have hmask:∀(Y:Nat→Bool),(∀j o,ops[j]? =some o→Y j=true→∀e∈o.after.toList,Region.binds .any e=true→Y e.on=true)→∀j k,Y j=true→((lD ops.toList []).getD j 0).testBit k=true→Y k=true:=by
  intro Y hY
  refine pv ops.toList [] (fun j k _ hk=>by simp at hk) ?_
  intro j o' ho' hj
  simp only[List.length_nil,Nat.zero_add] at hj
  exact hY j o' (by simpa using ho') hj
 have pair:∀(k j:Nat)(g h:aJ),k<j→fs[k]? =some g→fs[j]? =some h→(kM g h=true→((lD ops.toList []).getD j 0).testBit k=true)∧dT h.fr (g.E8++wrote g.hw)=false:=by
  intro k j g h hkj hg hh
  have:=lW hconf j h hh
  have:=lV this k g (by rw[List.getElem?_take,if_pos (by omega)];exact hg)
  simpa using this
 have early:∀(k:Nat)(g:aJ),fs[k]? =some g→k<i→X k=false→kM g f=false:=by
  intro k g hg hki hXk
  cases hcf:kM g f with
  |false=>rfl
  |
   true=>
   have hm:=(pair k i g f hki hg hf).1 hcf
   have:=hmask (fun x=>X x||x==i) (by
    intro j o' ho' hj e he hb
    simp only[Bool.or_eq_true,beq_iff_eq] at hj ⊢
    rcases hj with hj|hj
    ·exact Or.inl (hX j o' ho' hj e he hb)
    ·subst hj;rw[ho] at ho';cases ho';exact Or.inl (hpre e he hb)) i k (by simp) hm
   simp only[Bool.or_eq_true,beq_iff_eq] at this
   rcases this with h|h
   ·rw[hXk] at h;cases h
   ·omega
 have late:∀(k:Nat)(g:aJ),fs[k]? =some g→i<k→X k=true→kM f g=false:=by
  intro k g hg hki hXk
  cases hcf:kM f g with
  |false=>rfl
  |
   true=>
   have hm:=(pair i k f g hki hf hg).1 hcf
   have:=hmask X hX k i hXk hm
   rw[hi] at this;cases this
 have cf:∀{g h:aJ},kM g h=false→(∀t,g.dst=some t→t∉h.rt∧h.dst≠some t)∧(∀t,h.dst=some t→t∉g.rt)∧(∀b∈g.wb,b∉h.rb∧b∉h.wb)∧(∀b∈h.wb,b∉g.rb)∧(∀b∈g.fr,b∉h.E8):=by
  intro g h hc
  simp only[kM,Bool.or_eq_false_iff] at hc
  obtain⟨⟨⟨⟨h1,h2⟩,h3⟩,h4⟩,h5⟩:=hc
  refine⟨?_,?_,?_,?_,fun b hb=>dg h5 hb⟩
  ·intro t ht
   have:=dg h1 (d:=t) (by simp[aJ.wt,ht])
   simp only[List.mem_append,not_or,aJ.wt,Option.mem_toList] at this
   exact⟨this.1,this.2⟩
  ·intro t ht hm
   exact dg h2 hm (by simp[aJ.wt,ht])
  ·intro b hb
   have:=dg h3 hb
   simpa using this
  ·intro b hb hm
   exact dg h4 hm hb
 refine⟨⟨?_,?_,?_,?_⟩,?_,?_⟩
 ·rw[mG,mG]
 ·rw[mH,mH]
 ·intro t ht
  refine mI rfl rfl (fun k g hg Rw=>?_)
  simp only[Nat.zero_add] at Rw
  intro hd
  rcases Nat.lt_trichotomy k i with h|h|h
  ·have hXk:X k=false:=by
    cases hx:X k with
    |false=>rfl
    |true=>simp[hx,h] at Rw
   exact((cf (early k g hg h hXk)).1 t hd).1 ht
  ·subst h;simp[hi] at Rw
  ·have hXk:X k=true:=by
    cases hx:X k with
    |true=>rfl
    |false=>simp[hx] at Rw;omega
   exact(cf (late k g hg h hXk)).2.1 t hd ht
 ·intro b hb
  refine mJ rfl rfl (fun k g hg Rw=>?_)
  simp only[Nat.zero_add] at Rw
  intro hd
  rcases Nat.lt_trichotomy k i with h|h|h
  ·have hXk:X k=false:=by
    cases hx:X k with
    |false=>rfl
    |true=>simp[hx,h] at Rw
   exact((cf (early k g hg h hXk)).2.2.1 b (by simp[aJ.wb,hd])).1 hb
  ·subst h;simp[hi] at Rw
  ·have hXk:X k=true:=by
    cases hx:X k with
    |true=>rfl
    |false=>simp[hx] at Rw;omega
   exact(cf (late k g hg h hXk)).2.2.2.1 b (by simp[aJ.wb,hd]) hb
 ·intro d hd
  refine oc (RU i f hf d hd) (fun k g hg hx=>?_)
  simp only[Nat.zero_add] at hx
  rcases Nat.lt_trichotomy k i with h|h|h
  ·have hp:=pair k i g f h hg hf
   have:=dg hp.2 hd
   simpa using this
  ·subst h;rw[hi] at hx;cases hx
  ·have:=cf (late k g hg h hx)
   refine⟨fun hm=>this.2.2.2.2 d hd hm,fun hw=>(this.2.2.1 d (by simp[aJ.wb,hd])).2 (by simp[aJ.wb,hw])⟩
 ·have Ru:i<fs.length:=(List.getElem?_eq_some_iff.1 hf).1
  have tmEq:∀t:Nat,((b0 X 0 fs σ).app f).tm[t]? =(b0 (fun x=>X x||x==i) 0 fs σ).tm[t]? :=by
   intro t
   by_cases hd:f.dst=some t
   ·symm
    refine kJ hd (j:=i) (by rw[mG]) hf (by simp) (fun k g hg hik hxk=>?_)
    simp only[Nat.zero_add,Bool.or_eq_true,beq_iff_eq] at hxk
    have hXk:X k=true:=hxk.resolve_right (by omega)
    exact((cf (late k g hg hik hXk)).1 t hd).2
   ·rw[eA hd]
    refine mI rfl rfl (fun k g hg Rw=>?_)
    simp only[Nat.zero_add] at Rw
    have:k=i:=by
     by_cases e:k=i
     ·exact e
     ·simp[e] at Rw
    subst this
    rw[hf] at hg;cases hg
    exact hd
  have hpEq:∀b:Nat,((b0 X 0 fs σ).app f).hp[b]? =(b0 (fun x=>X x||x==i) 0 fs σ).hp[b]? :=by
   intro b
   by_cases hd:b∈wrote f.hw
   ·symm
    refine kK hd (j:=i) (by rw[mH]) hf (by simp) (fun k g hg hik hxk=>?_)
    simp only[Nat.zero_add,Bool.or_eq_true,beq_iff_eq] at hxk
    have hXk:X k=true:=hxk.resolve_right (by omega)
    intro hw
    exact((cf (late k g hg hik hXk)).2.2.1 b (by simp[aJ.wb,hd])).2 (by simp[aJ.wb,hw])
   ·rw[dG,cT hd]
    refine mJ rfl rfl (fun k g hg Rw=>?_)
    simp only[Nat.zero_add] at Rw
    have:k=i:=by
     by_cases e:k=i
     ·exact e
     ·simp[e] at Rw
    subst this
    rw[hf] at hg;cases hg
    exact hd
  have e1:=List.ext_getElem? tmEq
  have e2:=List.ext_getElem? hpEq
  have e3:((b0 X 0 fs σ).app f).df=(b0 (fun x=>X x||x==i) 0 fs σ).df:=by rw[nY,qU,qU]
  cases h1:(b0 X 0 fs σ).app f
  cases h2:b0 (fun x=>X x||x==i) 0 fs σ
  rw[h1] at e1 e2 e3
  rw[h2] at e1 e2 e3
  simp only at e1 e2 e3
  rw[e1,e2,e3]
end
def fL(l:Array Bool):Nat:=(l.toList.filter (·==false)).length
theorem jH:∀(m:List Bool)(i:Nat),m[i]? =some false→((m.set i true).filter (·==false)).length+1=(m.filter (·==false)).length
 |[],_,h=>by simp at h
 |x::m,0,h=>by simp at h;subst h;simp
 |
  x::m,i+1,h=>by
  have:=jH m i (by simpa using h)
  simp only[List.set_cons_succ,List.filter_cons]
  cases x<;>simp<;>simpa using this
theorem qV{l:Array Bool}{i:Nat}(h:l.getD i true=false):fL (l.setIfInBounds i true)+1=fL l:=by
 have hi:i<l.size:=by
  rcases Nat.lt_or_ge i l.size with h'|h'
  ·exact h'
  ·simp[Array.getElem?_eq_none h'] at h
 have hv:l[i]? =some false:=by
  simp[hi] at h ⊢;exact h
 unfold fL
 rw[Array.toList_setIfInBounds]
 exact jH _ i (by simpa using hv)
theorem oT{l:Array Bool}(h:fL l=0){i:Nat}(hi:i<l.size):l.getD i false=true:=by
 unfold fL at h
 rw[List.length_eq_zero_iff,List.filter_eq_nil_iff] at h
 have:=h l[i] (by simp)
 simp[hi] at this ⊢
 exact this
theorem sI{P:Program}{gl:Ctx}{ops:Array Oper}{fs:List aJ}{σ σ':St}{DS WB:List Nat}{σ0:St}{E0:Env}{w0:World}{Q:Exit→Act→World→Prop}(hi:∀f∈fs,JB DS WB f)(dY:iz ops fs=true)(hc:bG (GQ P gl ops Q (qS gl DS WB σ0 E0 w0)) 0 fs σ σ')(RU:∀(k:Nat)(f:aJ),fs[k]? =some f→∀d∈f.fr,σ.fresh d)
 (hq:∀E' a' w',bD gl σ' E' a' w'→qS gl DS WB σ0 E0 w0 σ' E' w'→Q .normal a' w'):
 ∀(fuel:Nat)(listed:Array Bool),listed.size=ops.size→fL listed≤fuel→
  (∀j o,ops[j]? =some o→listed.getD j false=true→∀e∈o.after.toList,Region.binds .any e=true→listed.getD e.on false=true)→
  ∀{E:Env}{a:Act}{w:World},bD gl (b0 (fun x=>listed.getD x false) 0 fs σ) E a w→qS gl DS WB σ0 E0 w0 (b0 (fun x=>listed.getD x false) 0 fs σ) E w→wpAnyIn (Wd gl) 0 P .any ops Q fuel listed a w:=by
 have hlen:fs.length=ops.size:=by
  simp only[iz,Bool.and_eq_true] at dY;exact Nat.eq_of_beq_eq_true dY.1.1
 have hedge:∀j o,ops[j]? =some o→∀e∈o.after.toList,Region.binds .any e=true→e.on<j:=by
  intro j o ho e he hb
  simp only[iz,Bool.and_eq_true,List.all_eq_true,List.mem_range] at dY
  have hj:j<ops.size:=(Array.getElem?_eq_some_iff.1 ho).1
  have:=dY.2 j hj
  unfold pw at this
  rw[show ops.toList[j]? =some o from by simpa using ho] at this
  simp only[List.all_eq_true] at this
  have:=this e he
  simp only[hb,Bool.not_true,Bool.false_or] at this
  simp[Nat.blt] at this;omega
 have done:∀listed:Array Bool,listed.size=ops.size→Region.ready .any ops listed= []→∀k,k<ops.size→listed.getD k false=true:=by
  intro listed hs hr
  have key:∀n k,k<n→k<ops.size→listed.getD k false=true:=by
   intro n
   induction n with
   |zero=>intro k hk;omega
   |
    succ n ih=>
    intro k hk hks
    cases hl:listed.getD k false with
    |true=>rfl
    |
     false=>
     exfalso
     have hm:k∈Region.ready .any ops listed:=by
      rw[mem_ready]
      refine⟨?_,ops[k],by simp[hks],?_⟩
      ·simp[hs▸hks] at hl ⊢;exact hl
      ·intro e he hb
       have Ru:=hedge k ops[k] (by simp[hks]) e (by simpa using he) hb
       exact ih e.on (by omega) (by omega)
     rw[hr] at hm;cases hm
  exact fun k hk=>key (k+1) k (by omega) hk
 have fin:∀listed:Array Bool,listed.size=ops.size→Region.ready .any ops listed= []→σ'=b0 (fun x=>listed.getD x false) 0 fs σ:=by
  intro listed hs hr
  exact hc.last (fun k _ hk=>done listed hs hr k (by omega))
 intro fuel
 induction fuel with
 |
  zero=>
  intro listed hs hu SA E a w hg hv
  have hall:∀k,k<ops.size→listed.getD k false=true:=fun k hk=>oT (by omega) (by omega)
  have hr:Region.ready .any ops listed= []:=by
   rw[List.eq_nil_iff_forall_not_mem]
   intro k hk
   rw[mem_ready] at hk
   obtain⟨h1,o,h2,_⟩:=hk
   have Ru:k<ops.size:=(Array.getElem?_eq_some_iff.1 h2).1
   have:=hall k Ru
   simp[hs▸Ru] at h1 this
   rw[this] at h1;cases h1
  refine⟨hr,?_⟩
  have e:=fin listed hs hr
  rw[←e] at hg hv
  exact hq E a w hg hv
 |
  succ fuel ih=>
  intro listed hs hu SA E a w hg hv
  refine⟨fun hr=>?_,fun i hi=>?_⟩
  ·have e:=fin listed hs hr
   rw[←e] at hg hv
   exact hq E a w hg hv
  ·rw[mem_ready] at hi
   obtain⟨h1,o,h2,h3⟩:=hi
   have Ru:i<ops.size:=(Array.getElem?_eq_some_iff.1 h2).1
   have hif:listed.getD i false=false:=by simp[hs▸Ru] at h1 ⊢;exact h1
   obtain⟨f,hf⟩:∃f,fs[i]? =some f:=⟨fs[i]'(by omega),by simp[hlen,Ru]⟩
   obtain⟨hA,hF,hR⟩:=uS dY RU (X:=fun x=>listed.getD x false) SA h2 hif (fun e he hb=>h3 e (by simpa using he) hb) hf
   have Rs:=hc.nth i f hf
   simp only[Nat.zero_add] at Rs
   refine Rs _ hA hF E a w hg hv _ ?_
   intro E' a' w' R4 hx
   have RE:=hv.app (hi f (List.mem_of_getElem? hf)) hx
   have aD:∀x,(listed.getD x false||x==i)=(listed.setIfInBounds i true).getD x false:=by
    intro x
    by_cases e:x=i
    ·subst e;simp[hs,Ru]
    ·rw[getD_set_ne false (fun h=>e h.symm)];simp[e]
   have hfun:(fun x=>listed.getD x false||x==i)=fun x=>(listed.setIfInBounds i true).getD x false:=funext aD
   rw[hR,hfun] at R4 RE
   refine ih (listed.setIfInBounds i true) (by simp[hs]) (by have:=qV h1;omega) ?_ R4 RE
   intro j o' ho' hj e he hb
   by_cases e':j=i
   ·subst e'
    rw[h2] at ho';cases ho'
    exact getD_set_true (h3 e (by simpa using he) hb)
   ·rw[getD_set_ne false (fun h=>e' h.symm)] at hj
    exact getD_set_true (SA j o' ho' hj e he hb)
def fb(σ:St)(fs:List aJ):Bool:=fs.all fun f=>f.fr.all fun d=>σ.dk d
theorem bD.drew{gl:Ctx}{σ:St}{E:Env}{a:Act}{w:World}(h:bD gl σ E a w):bD gl σ E a {w with drawn:=w.drawn+1}∧Ext gl.md (Own σ.hp E) E w (Own σ.hp E) E {w with drawn:=w.drawn+1}:=by
 have kp:aV E w E {w with drawn:=w.drawn+1}:=⟨fun _ _=>rfl,fun _ h=>h⟩
 refine⟨h.carry (hp:=σ.hp) kp (fun _ _=>⟨rfl,rfl,rfl⟩) ⟨fun b k hb=>RB.mono kp (fun _ _=>⟨rfl,rfl,rfl⟩) (fun _ _=>rfl) (fun _ _ h=>h) (h.hw.bP b k hb),h.hw.cH,h.hw.cg,h.hw.slt,h.hw.dF kp,h.hw.lS⟩,⟨rfl,Tp.s rfl rfl,rfl,Nat.le_refl _,fun _ _ _=>rfl,fun _ h=>h,fun _ h=>Or.inl h,fun _ h=>Or.inl h,fun _ _=>⟨rfl,rfl,rfl⟩⟩⟩
theorem lY{P:Program}{G:bu}(T:aN P G){gl:Ctx}{ops:Array Oper}{id:Nat}{fs:List aJ}{σ σ':St}{Q:Exit→Act→World→Prop}{E:Env}{a:Act}{w:World}(dY:iz ops fs=true)(RU:fb σ fs=true)(hc:bG (GQ P gl ops Q (qS gl (dstsOf fs) (ib fs) σ E w)) 0 fs σ σ')(hg:bD gl σ E a w)
 (hq:∀E' a' w',bD gl σ' E' a' w'→qS gl (dstsOf fs) (ib fs) σ E w σ' E' w'→Q .normal a' w'):(Code.region id ops true).wpIn (Wd gl) 0 P Q a w:=by
 refine wpIn_region_any T.GP ?_
 have hfr':∀(k:Nat)(f:aJ),fs[k]? =some f→∀d∈f.fr,σ.fresh d:=by
  intro k f hk d hd
  simp only[fb,List.all_eq_true] at RU
  exact St.cG (RU f (List.mem_of_getElem? hk) d hd)
 obtain⟨R4,Ss⟩:=hg.drew
 have hid:∀(fs:List aJ)(i:Nat)(σ:St),b0 (fun x=>(Array.replicate ops.size false).getD x false) i fs σ=σ:=by
  intro fs
  induction fs with
  |nil=>intro i σ;rfl
  |
   cons f fs ih=>
   intro i σ
   rw[b0]
   have:(Array.replicate ops.size false).getD i false=false:=by
    rcases Nat.lt_or_ge i ops.size with h|h<;>simp[h]
   rw[this];simp only[Bool.false_eq_true,if_false];exact ih _ _
 refine sI BS dY hc hfr' hq ops.size _ (by simp) ?_ ?_ (E:=E) (by rw[hid];exact R4) (by rw[hid];exact⟨rfl,rfl,rfl,fun _ _=>rfl,fun _ _=>rfl,Ss⟩)
 ·unfold fL;simp
 ·intro j o ho hj
  have:(Array.replicate ops.size false).getD j false=false:=by
   rcases Nat.lt_or_ge j ops.size with h|h<;>simp[h]
  rw[this] at hj;cases hj
theorem uT{P:Program}{G:bu}(T:aN P G){gl:Ctx}{ops:Array Oper}{id:Nat}{fs:List aJ}{σ σ':St}(dY:iz ops fs=true)(RU:fb σ fs=true)(hc:kI P gl ops 0 fs σ σ'){Q:Exit→Act→World→Prop}{E:Env}{a:Act}{w:World}(hg:bD gl σ E a w)
 (hq:∀E' a' w',bD gl σ' E' a' w'→Ext gl.md (Own σ.hp E) E w (Own σ'.hp E') E' w'→Q .normal a' w'):(Code.region id ops true).wpIn (Wd gl) 0 P Q a w:=
 lY T dY RU (hc.mono fun _ _ _=>oS.q) hg (fun E' a' w' h1 h2=>hq E' a' w' h1 h2.ext)
end Go.Ax
