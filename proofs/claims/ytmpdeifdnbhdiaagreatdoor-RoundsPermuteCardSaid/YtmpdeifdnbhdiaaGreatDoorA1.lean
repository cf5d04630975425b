/- The machines: what it means to be walked or run, part 1. No condition. -/
import Derived.Orders
import Derived.OrdersIn
import Derived.RangeFuncIn
import Derived.Laws.Cells
import Derived.Laws.AppendOwn
import Derived.Laws.Strings
import Derived.Laws.Small
import Derived.Laws.CopyRow
namespace Go.Abs
inductive dG where
 |ptr|map|func|iface|sl
 deriving DecidableEq
inductive Ty where
 |int (k:IntKind)
 |bool
 |str
 |arr (n:Nat) (t:Ty)
 |slice (bs:Nat) (t:Ty)
 |pair (a b:Ty)
 |unit
 |av (k:dG)
 |fns (n:Nat)
 deriving DecidableEq
def IntKind.code:IntKind→Nat
 | .i8=>0| .i16=>1| .i32=>2| .i64=>3| .u8=>4| .u16=>5| .u32=>6| .u64=>7
def dG.code:dG→Nat
 | .ptr=>0| .map=>1| .func=>2| .iface=>3| .sl=>4
theorem IntKind.fg{a b:IntKind}(h:IntKind.code a=IntKind.code b):a=b:=by
 cases a<;>cases b<;>first|rfl|(simp[IntKind.code] at h)
theorem dG.fg{a b:dG}(h:dG.code a=dG.code b):a=b:=by
 cases a<;>cases b<;>first|rfl|(simp[dG.code] at h)
def Ty.same:Ty→Ty→Bool
 | .int k,.int k'=>Nat.beq (IntKind.code k) (IntKind.code k')
 | .bool,.bool=>true
 | .str,.str=>true
 | .arr n t,.arr n' t'=>Nat.beq n n'&&Ty.same t t'
 | .slice n t,.slice n' t'=>Nat.beq n n'&&Ty.same t t'
 | .pair a b,.pair a' b'=>Ty.same a a'&&Ty.same b b'
 | .unit,.unit=>true
 | .av k,.av k'=>Nat.beq (dG.code k) (dG.code k')
 | .fns n,.fns n'=>Nat.beq n n'
 |_,_=>false
theorem Ty.ae:∀{a b:Ty},Ty.same a b=true→a=b:=by
 intro a
 induction a with
 |int k=>intro b h;cases b<;>simp[Ty.same] at h ⊢;exact IntKind.fg h
 |bool=>intro b h;cases b<;>simp[Ty.same] at h ⊢
 |str=>intro b h;cases b<;>simp[Ty.same] at h ⊢
 |arr n t ih=>intro b h;cases b<;>simp[Ty.same] at h ⊢;exact⟨h.1,ih h.2⟩
 |slice n t ih=>intro b h;cases b<;>simp[Ty.same] at h ⊢;exact⟨h.1,ih h.2⟩
 |pair x y ih1 ih2=>intro b h;cases b<;>simp[Ty.same] at h ⊢;exact⟨ih1 h.1,ih2 h.2⟩
 |unit=>intro b h;cases b<;>simp[Ty.same] at h ⊢
 |av k=>intro b h;cases b<;>simp[Ty.same] at h ⊢;exact dG.fg h
 |fns n=>intro b h;cases b<;>simp[Ty.same] at h ⊢;exact h
theorem Ty.cA(a:Ty):Ty.same a a=true:=by
 induction a<;>simp_all[Ty.same]
@[reducible] def Ty.den:Ty→Type
 | .int _=>Int
 | .bool=>Bool
 | .str=>List UInt8
 | .arr _ t=>List t.den
 | .slice _ t=>List t.den
 | .pair a b=>a.den×b.den
 | .unit=>Unit
 | .av _=>Unit
 | .fns _=>List (Option Nat)
def Ty.size:Ty→Nat
 | .arr n t=>n*t.size
 | .pair a b=>a.size+b.size
 | .unit=>0
 | .fns n=>n
 |_=>1
def Ty.isAgg:Ty→Bool
 | .arr _ _| .pair _ _| .unit| .fns _=>true
 |_=>false
def Ty.bu:(t:Ty)→t.den
 | .int _=>(0:Int)
 | .bool=>false
 | .str=>([]:List UInt8)
 | .arr n t=>List.replicate n t.bu
 | .slice _ _=>[]
 | .pair a b=>(a.bu,b.bu)
 | .unit=>()
 | .av _=>()
 | .fns n=>List.replicate n none
def Ty.flat:Ty→Bool
 | .int _| .bool| .str| .unit=>true
 | .arr _ t=>t.flat
 | .pair a b=>a.flat&&b.flat
 |_=>false
def aO:Nat:=140737488355328
def kD(w:World)(a:Addr)(cs:List Value):Prop:=∀j v,cs[j]? =some v→w.cell? (a.add j)=some v
def aB{α:Type}(r:List Value→α→Prop):List Value→List α→Prop
 |vs,[]=>vs= []
 |vs,x::xs=>∃v1 v2,vs=v1++v2∧r v1 x∧aB r v2 xs
def zq:Option Nat→Value
 |none=>.nilFunc
 |some f=>.func (.func f) #[] #[]
def Rel(w:World)(S:Nat→Prop):(t:Ty)→List Value→t.den→Prop
 | .int k,vs,n=>vs= [.int k n]∧k.min≤n∧n≤k.max
 | .bool,vs,b=>vs= [.bool b]
 | .str,vs,s=>vs= [.string ⟨s.toArray⟩]∧s.length≤aO
 | .arr n t,vs,xs=>xs.length=n∧aB (Rel w S t) vs xs
 | .slice bs t,vs,xs=>∃a cap,vs= [.slice a xs.length cap]∧xs.length≤cap∧xs.length*bs≤aO∧xs.length≤aO∧
  (xs= []∨∃b o cs,a=some ⟨b,o,none⟩∧S b∧kD w ⟨b,o,none⟩ cs∧aB (Rel w S t) cs xs)
 | .pair a b,vs,x=>∃v1 v2,vs=v1++v2∧Rel w S a v1 x.1∧Rel w S b v2 x.2
 | .unit,vs,_=>vs= []
 | .av _,_,_=>False
 | .fns n,vs,xs=>xs.length=n∧vs=xs.map zq
def wf:(t:Ty)→t.den→Prop
 | .int k,n=>k.min≤n∧n≤k.max
 | .bool,_=>True
 | .str,s=>List.length s≤aO
 | .arr n t,xs=>List.length xs=n∧∀x∈xs,wf t x
 | .slice bs t,xs=>List.length xs*bs≤aO∧List.length xs≤aO∧∀x∈xs,wf t x
 | .pair a b,x=>wf a x.1∧wf b x.2
 | .unit,_=>True
 | .av _,_=>False
 | .fns n,xs=>List.length xs=n
theorem aB.mono{α:Type}{r r':List Value→α→Prop}(h:∀vs x,r vs x→r' vs x):∀{xs:List α}{vs:List Value},aB r vs xs→aB r' vs xs
 |[],_,hh=>hh
 |_::_,_,⟨v1,v2,e,h1,h2⟩=>⟨v1,v2,e,h _ _ h1,aB.mono h h2⟩
theorem aB.all{α:Type}{r:List Value→α→Prop}{p:α→Prop}(h:∀vs x,r vs x→p x):∀{xs:List α}{vs:List Value},aB r vs xs→∀x∈xs,p x
 |[],_,_,x,hx=>by cases hx
 |
  y::ys,_,⟨_,_,_,h1,h2⟩,x,hx=>by
  cases hx with
  |head=>exact h _ _ h1
  |tail _ hx=>exact aB.all h h2 x hx
theorem aB.len{α:Type}{r:List Value→α→Prop}{n:Nat}(h:∀vs x,r vs x→vs.length=n):∀{xs:List α}{vs:List Value},aB r vs xs→vs.length=xs.length*n
 |[],_,hh=>by simp[aB] at hh;simp[hh]
 |
  _::xs,_,⟨v1,v2,e,h1,h2⟩=>by
  subst e
  rw[List.length_append,h _ _ h1,aB.len h h2,List.length_cons,Nat.add_mul];omega
theorem aB.append{α:Type}{r:List Value→α→Prop}:∀{xs ys:List α}{vs us:List Value},aB r vs xs→aB r us ys→aB r (vs++us) (xs++ys)
 |[],_,_,_,h,k=>by simp[aB] at h;subst h;simpa using k
 |
  _::_,_,_,_,⟨v1,v2,e,h1,h2⟩,k=>by
  subst e
  exact⟨v1,v2++_,by simp,h1,aB.append h2 k⟩
theorem aB.get{α:Type}{r:List Value→α→Prop}{n:Nat}(hn:∀vs x,r vs x→vs.length=n)(d:α):∀{xs:List α}{vs:List Value}(i:Nat),aB r vs xs→i<xs.length→r ((vs.drop (i*n)).take n) (xs.getD i d)
 |[],_,i,_,hi=>by simp at hi
 |
  x::xs,_,0,⟨v1,v2,e,h1,_⟩,_=>by
  subst e
  have:=hn _ _ h1
  simp[←this];exact h1
 |
  x::xs,_,i+1,⟨v1,v2,e,h1,h2⟩,hi=>by
  subst e
  have hl:=hn _ _ h1
  have:=aB.get hn d i h2 (by simpa using hi)
  have e:(v1++v2).drop ((i+1)*n)=v2.drop (i*n):=by
   rw[List.drop_append,List.drop_of_length_le (by rw[hl,Nat.add_mul];omega),List.nil_append,hl,Nat.add_mul]
   congr 1;omega
  rw[e]
  simpa using this
theorem aB.set{α:Type}{r:List Value→α→Prop}{n:Nat}(hn:∀vs x,r vs x→vs.length=n){us:List Value}{y:α}(hu:r us y):∀{xs:List α}{vs:List Value}(i:Nat),aB r vs xs→i<xs.length→aB r (vs.take (i*n)++us++vs.drop (i*n+n)) (xs.set i y)
 |[],_,i,_,hi=>by simp at hi
 |
  x::xs,_,0,⟨v1,v2,e,h1,h2⟩,_=>by
  subst e
  have:=hn _ _ h1
  refine⟨us,v2,?_,hu,h2⟩
  simp[←this]
 |
  x::xs,_,i+1,⟨v1,v2,e,h1,h2⟩,hi=>by
  subst e
  have hl:=hn _ _ h1
  have:=aB.set hn hu i h2 (by simpa using hi)
  refine⟨v1,v2.take (i*n)++us++v2.drop (i*n+n),?_,h1,this⟩
  have e1:(v1++v2).take ((i+1)*n)=v1++v2.take (i*n):=by
   rw[List.take_append,List.take_of_length_le (by rw[hl,Nat.add_mul];omega),hl,Nat.add_mul]
   congr 2;omega
  have e2:(v1++v2).drop ((i+1)*n+n)=v2.drop (i*n+n):=by
   rw[List.drop_append,List.drop_of_length_le (by rw[hl,Nat.add_mul];omega),List.nil_append,hl,Nat.add_mul]
   congr 1;omega
  rw[e1,e2];simp
theorem Rel.len{w:World}{S:Nat→Prop}:∀{t:Ty}{vs:List Value}{x:t.den},Rel w S t vs x→vs.length=t.size:=by
 intro t
 induction t with
 |int k=>intro vs x h;simp[Rel] at h;simp[h.1,Ty.size]
 |bool=>intro vs x h;simp[Rel] at h;simp[h,Ty.size]
 |str=>intro vs x h;simp[Rel] at h;simp[h.1,Ty.size]
 |arr n t ih=>intro vs x h;obtain⟨h1,h2⟩:=h;rw[aB.len (fun _ _=>ih) h2,h1,Ty.size]
 |slice bs t ih=>intro vs x h;obtain⟨a,cap,e,_⟩:=h;simp[e,Ty.size]
 |pair a b ih1 ih2=>intro vs x h;obtain⟨v1,v2,e,h1,h2⟩:=h;subst e;rw[List.length_append,ih1 h1,ih2 h2,Ty.size]
 |unit=>intro vs x h;simp[Rel] at h;simp[h,Ty.size]
 |av k=>intro vs x h;exact h.elim
 |fns n=>intro vs x h;obtain⟨h1,h2⟩:=h;rw[h2,List.length_map,h1,Ty.size]
theorem Rel.wf{w:World}{S:Nat→Prop}:∀{t:Ty}{vs:List Value}{x:t.den},Rel w S t vs x→wf t x:=by
 intro t
 induction t with
 |int k=>intro vs x h;exact h.2
 |bool=>intro vs x h;trivial
 |str=>intro vs x h;exact h.2
 |arr n t ih=>intro vs x h;exact⟨h.1,aB.all (p:=Abs.wf t) (fun _ _ h=>ih h) h.2⟩
 |
  slice bs t ih=>
  intro vs x h
  obtain⟨a,cap,e,h1,h2,h3,h4⟩:=h
  refine⟨h2,h3,?_⟩
  rcases h4 with h4|⟨b,o,cs,_,_,_,h5⟩
  ·subst h4;intro y hy;cases hy
  ·exact aB.all (p:=Abs.wf t) (fun _ _ h=>ih h) h5
 |pair a b ih1 ih2=>intro vs x h;obtain⟨v1,v2,e,h1,h2⟩:=h;exact⟨ih1 h1,ih2 h2⟩
 |unit=>intro vs x h;trivial
 |av k=>intro vs x h;exact h.elim
 |fns n=>intro vs x h;exact h.1
theorem kD.mono{w w':World}{a:Addr}{cs:List Value}(h:kD w a cs)(hb:w'.heap[a.block]? =w.heap[a.block]?):kD w' a cs:=by
 intro j v hj
 rw[←h j v hj]
 exact World.cell?_of_block (by rw[show(a.add j).block=a.block by unfold Addr.add;split<;>rfl];exact hb)
theorem Rel.mono{w w':World}{S S':Nat→Prop}(hw:∀b,S b→w'.heap[b]? =w.heap[b]?)(hS:∀b,S b→S' b):∀{t:Ty}{vs:List Value}{x:t.den},Rel w S t vs x→Rel w' S' t vs x:=by
 intro t
 induction t with
 |int k=>intro vs x h;exact h
 |bool=>intro vs x h;exact h
 |str=>intro vs x h;exact h
 |arr n t ih=>intro vs x h;exact⟨h.1,aB.mono (fun _ _=>ih) h.2⟩
 |
  slice bs t ih=>
  intro vs x h
  obtain⟨a,cap,e,h1,h2,h3,h4⟩:=h
  refine⟨a,cap,e,h1,h2,h3,?_⟩
  rcases h4 with h4|⟨b,o,cs,ha,hs,hr,h5⟩
  ·exact Or.inl h4
  ·exact Or.inr ⟨b,o,cs,ha,hS b hs,hr.mono (hw b hs),aB.mono (fun _ _=>ih) h5⟩
 |pair a b ih1 ih2=>intro vs x h;obtain⟨v1,v2,e,h1,h2⟩:=h;exact⟨v1,v2,e,ih1 h1,ih2 h2⟩
 |unit=>intro vs x h;exact h
 |av k=>intro vs x h;exact h
 |fns n=>intro vs x h;exact h
theorem Rel.flat{w w':World}{S S':Nat→Prop}:∀{t:Ty}{vs:List Value}{x:t.den},t.flat=true→Rel w S t vs x→Rel w' S' t vs x:=by
 intro t
 induction t with
 |int k=>intro vs x _ h;exact h
 |bool=>intro vs x _ h;exact h
 |str=>intro vs x _ h;exact h
 |arr n t ih=>intro vs x hf h;exact⟨h.1,aB.mono (fun _ _=>ih hf) h.2⟩
 |slice bs t ih=>intro vs x hf;simp[Ty.flat] at hf
 |
  pair a b ih1 ih2=>
  intro vs x hf h
  simp[Ty.flat] at hf
  obtain⟨v1,v2,e,h1,h2⟩:=h;exact⟨v1,v2,e,ih1 hf.1 h1,ih2 hf.2 h2⟩
 |unit=>intro vs x _ h;exact h
 |av k=>intro vs x hf;simp[Ty.flat] at hf
 |fns n=>intro vs x hf;simp[Ty.flat] at hf
end Go.Abs
namespace Go.Abs
inductive PS where
 |fq (n:Nat)
 |idx (i:Nat)
abbrev Path:=List PS
def Ty.off:Ty→Path→Nat
 | .pair a _,.fq 0::p=>a.off p
 | .pair a b,.fq (k+1)::p=>a.size+b.off (.fq k::p)
 | .arr _ t,.idx i::p=>i*t.size+t.off p
 |_,_=>0
def Ty.sub:Ty→Path→Option Ty
 | .pair a _,.fq 0::p=>a.sub p
 | .pair _ b,.fq (k+1)::p=>b.sub (.fq k::p)
 | .arr _ t,.idx _::p=>t.sub p
 |t,[]=>some t
 |_,_=>none
def Ty.valid:Ty→Path→Prop
 | .pair a _,.fq 0::p=>a.valid p
 | .pair _ b,.fq (k+1)::p=>b.valid (.fq k::p)
 | .arr n t,.idx i::p=>i<n∧t.valid p
 |_,[]=>True
 |_,_=>False
inductive AV where
 |bot
 |val (t:Ty) (x:t.den)
 |dR
 |own (b:Nat)
 |lF (b lo len:Nat)
 |iT (b:Nat) (p:Path) (lo len:Nat)
 |ptr (b:Nat) (p:Path)
 |dJ (t:Ty) (x:t.den)
 |mp (b:Nat)
 |gV
 |lA
 |gW
 |nn
 |func (fn:Fn) (fs cs:AV)
 |iface (t:TypeId) (v:AV)
 |cons (a b:AV)
 |nil
 |bJ (l:AV)
 |opt (c:Bool) (v:AV)
 |fx
inductive ah where
 |var (t:Ty) (v:AV)
 |row (e:TypeId) (bs:Nat) (t:Ty) (xs:List t.den)
 |map (k v:Ty) (es:List (k.den×v.den))
 |lp (l:Nat) (r:Loop)
 |uP
 |tv (g:Nat) (t:Ty) (v:AV)
structure Env where
 g:Nat→Option Nat
 sv:Nat→Value
 bt:Nat→Ty
 S:Nat→Prop
def AV.isAgg:AV→Bool
 | .val t _=>t.isAgg
 | .cons _ _| .nil=>true
 |_=>false
def AV.size:AV→Nat
 | .val t _=>t.size
 | .cons a b=>a.size+b.size
 | .nil=>0
 |_=>1
def AV.atom:AV→Bool
 | .val t _=> !t.isAgg
 | .bot| .cons _ _| .nil| .bJ _| .opt _ _=>false
 |_=>true
def AV.atoms:AV→Bool
 | .cons a b=>a.atom&&b.atoms
 | .nil=>true
 |_=>false
def AV.bB:AV→Ty→Bool
 | .val t _,u=>Ty.same t u
 | .dR,.slice _ _=>true
 | .dR,.av .sl=>true
 | .own _,.slice _ _=>true
 | .lF _ _ _,.slice _ _=>true
 | .iT _ _ _ _,.slice _ _=>true
 | .ptr _ _,.av .ptr=>true
 | .dJ _ _,.av .ptr=>true
 | .gV,.av .ptr=>true
 | .mp _,.av .map=>true
 | .lA,.av .map=>true
 | .func _ _ _,.av .func=>true
 | .gW,.av .func=>true
 | .fx,.av .func=>true
 | .iface _ _,.av .iface=>true
 | .nn,.av .iface=>true
 | .cons a b,.pair t u=>a.bB t&&b.bB u
 | .nil,.unit=>true
 |_,_=>false
def AV.ids:AV→List Nat
 | .own b| .lF b _ _| .iT b _ _ _| .ptr b _| .mp b=>[b]
 | .func _ fs cs=>fs.ids++cs.ids
 | .iface _ v=>v.ids
 | .cons a b=>a.ids++b.ids
 | .bJ l=>l.ids
 | .opt _ v=>v.ids
 |_=>[]
def RC(E:Env)(w:World):AV→List Value→Prop
 | .val t x,vs=>Rel w E.S t vs x
 | .dR,vs=>vs= [.slice none 0 0]
 | .own b,vs=>vs= [E.sv b]∧∃a n c,E.sv b= .slice a n c
 | .lF b lo len,vs=>∃a c n t,E.bt b= .arr n t∧E.sv b= .slice a n c∧lo+len≤n∧n≤c∧∃a',vs= [.slice a' len (c -lo)]∧(len=0∨a'=a.map (·.add (lo*t.size)))
 | .iT b p lo len,vs=>∃n t,(E.bt b).sub p=some (.arr n t)∧(E.bt b).valid p∧lo+len≤n∧∃a cap,vs= [.slice a len cap]∧len≤cap∧
  (len=0∨∃g,E.g b=some g∧a=some ⟨g,(E.bt b).off p+lo*t.size,none⟩)
 | .ptr b p,vs=>∃g,E.g b=some g∧vs= [.pointer (some ⟨g,(E.bt b).off p,none⟩)]∧(E.bt b).valid p
 | .dJ t x,vs=>∃b o cs,vs= [.pointer (some ⟨b,o,none⟩)]∧E.S b∧kD w ⟨b,o,none⟩ cs∧Rel w E.S t cs x
 | .mp b,vs=>∃g,E.g b=some g∧vs= [.map (some g)]
 | .gV,vs=>vs= [.pointer none]
 | .lA,vs=>vs= [.map none]
 | .gW,vs=>vs= [.nilFunc]
 | .nn,vs=>vs= [.nilIface]
 | .func fn fs cs,vs=>∃f c,vs= [.func fn f c]∧RC E w fs f.toList∧RC E w cs c.toList∧fs.atoms=true∧cs.atoms=true
 | .iface t v,vs=>∃x,vs= [.iface t x]∧((v.isAgg=true∧∃cs,x= .agg cs∧RC E w v cs.toList)∨(v.isAgg=false∧RC E w v [x]))
 | .cons a b,vs=>∃v1 v2,vs=v1++v2∧RC E w a v1∧RC E w b v2
 | .nil,vs=>vs= []
 | .fx,vs=>∃fn f c,vs= [.func fn f c]
 | .bot,_=>False
 | .bJ _,_=>False
 | .opt _ _,_=>False
def cN(E:Env)(w:World)(a:AV)(v:Value):Prop:=
 (a.isAgg=true∧∃cs,v= .agg cs∧RC E w a cs.toList)∨(a.isAgg=false∧RC E w a [v])
def RT(E:Env)(w:World):AV→List Value→Prop
 | .cons a b,v::vs=>cN E w a v∧RT E w b vs
 | .nil,vs=>vs= []
 |_,_=>False
def RV(E:Env)(w:World):AV→Value→Prop
 | .bot,_=>True
 | .bJ l,v=>∃vs,v= .tuple vs∧RT E w l vs.toList
 | .opt c a,v=>(c=true∧cN E w a v)∨(c=false∧v=undef)
 |a,v=>cN E w a v
def Env.on(E E':Env)(ids:List Nat):Prop:=∀b∈ids,E'.g b=E.g b∧E'.sv b=E.sv b∧E'.bt b=E.bt b
theorem Env.on.left{E E':Env}{a b:List Nat}(h:E.on E' (a++b)):E.on E' a:=fun x hx=>h x (by simp[hx])
theorem Env.on.right{E E':Env}{a b:List Nat}(h:E.on E' (a++b)):E.on E' b:=fun x hx=>h x (by simp[hx])
structure bh(E:Env)(w:World)(E':Env)(w':World):Prop where
 w:∀b,E.S b→w'.heap[b]? =w.heap[b]?
 S:∀b,E.S b→E'.S b
theorem RC.mono{E E':Env}{w w':World}(k:bh E w E' w'):∀{a:AV}{vs:List Value},E.on E' a.ids→RC E w a vs→RC E' w' a vs:=by
 intro a
 induction a with
 |bot=>intro vs _ h;exact h
 |fx=>intro vs _ h;exact h
 |val t x=>intro vs _ h;exact Rel.mono k.w k.S h
 |dR=>intro vs _ h;exact h
 |own b=>intro vs ho h;simp only[RC] at h ⊢;rw[(ho b (by simp[AV.ids])).2.1];exact h
 |
  lF b lo len=>
  intro vs ho h
  obtain⟨_,h2,h3⟩:=ho b (by simp[AV.ids])
  obtain⟨a,c,n,t,h⟩:=h
  exact⟨a,c,n,t,by rw[h3,h2];exact h⟩
 |
  iT b p lo len=>
  intro vs ho h
  obtain⟨h1,h2,h3⟩:=ho b (by simp[AV.ids])
  obtain⟨n,t,h⟩:=h
  refine⟨n,t,?_⟩
  rw[h3,h1];exact h
 |
  ptr b p=>
  intro vs ho h
  obtain⟨h1,h2,h3⟩:=ho b (by simp[AV.ids])
  obtain⟨g,h⟩:=h
  exact⟨g,by rw[h1,h3];exact h⟩
 |
  dJ t x=>
  intro vs _ h
  obtain⟨b,o,cs,h1,h2,h3,h4⟩:=h
  exact⟨b,o,cs,h1,k.S b h2,h3.mono (k.w b h2),Rel.mono k.w k.S h4⟩
 |
  mp b=>
  intro vs ho h
  obtain⟨h1,h2,h3⟩:=ho b (by simp[AV.ids])
  obtain⟨g,h⟩:=h
  exact⟨g,by rw[h1];exact h⟩
 |gV=>intro vs _ h;exact h
 |lA=>intro vs _ h;exact h
 |gW=>intro vs _ h;exact h
 |nn=>intro vs _ h;exact h
 |
  func fn fs cs ih1 ih2=>
  intro vs ho h
  obtain⟨f,c,e,h1,h2,h3,h4⟩:=h
  exact⟨f,c,e,ih1 ho.left h1,ih2 ho.right h2,h3,h4⟩
 |
  iface t v ih=>
  intro vs ho h
  obtain⟨x,e,h⟩:=h
  refine⟨x,e,?_⟩
  rcases h with⟨h1,cs,h2,h3⟩|⟨h1,h2⟩
  ·exact Or.inl ⟨h1,cs,h2,ih ho h3⟩
  ·exact Or.inr ⟨h1,ih ho h2⟩
 |
  cons a b ih1 ih2=>
  intro vs ho h
  obtain⟨v1,v2,e,h1,h2⟩:=h
  exact⟨v1,v2,e,ih1 ho.left h1,ih2 ho.right h2⟩
 |nil=>intro vs _ h;exact h
 |bJ l ih=>intro vs _ h;exact h
 |opt c v ih=>intro vs _ h;exact h
theorem cN.mono{E E':Env}{w w':World}(k:bh E w E' w'){a:AV}{v:Value}(ho:E.on E' a.ids)(h:cN E w a v):cN E' w' a v:=by
 rcases h with⟨h1,cs,h2,h3⟩|⟨h1,h2⟩
 ·exact Or.inl ⟨h1,cs,h2,RC.mono k ho h3⟩
 ·exact Or.inr ⟨h1,RC.mono k ho h2⟩
theorem RT.mono{E E':Env}{w w':World}(k:bh E w E' w'):∀{a:AV}{vs:List Value},E.on E' a.ids→RT E w a vs→RT E' w' a vs:=by
 intro a
 induction a with
 |
  cons a b ih1 ih2=>
  intro vs ho h
  cases vs with
  |nil=>exact h.elim
  |cons v vs=>exact⟨cN.mono k ho.left h.1,ih2 ho.right h.2⟩
 |nil=>intro vs _ h;exact h
 |_=>intro vs _ h;exact h.elim
theorem RV.mono{E E':Env}{w w':World}(k:bh E w E' w'){a:AV}{v:Value}(ho:E.on E' a.ids)(h:RV E w a v):RV E' w' a v:=by
 cases a with
 |bot=>trivial
 |bJ l=>obtain⟨vs,e,h⟩:=h;exact⟨vs,e,RT.mono k ho h⟩
 |
  opt c a=>
  rcases h with⟨h1,h2⟩|h
  ·exact Or.inl ⟨h1,cN.mono k ho h2⟩
  ·exact Or.inr h
 |_=>exact cN.mono k ho h
theorem RC.len{E:Env}{w:World}:∀{a:AV}{vs:List Value},RC E w a vs→vs.length=a.size:=by
 intro a
 induction a with
 |val t x=>intro vs h;exact Rel.len h
 |dR=>intro vs h;simp only[RC] at h;simp[h,AV.size]
 |own b=>intro vs h;simp only[RC] at h;simp[h.1,AV.size]
 |lF b lo len=>intro vs h;obtain⟨_,_,_,_,_,_,_,_,_,e,_⟩:=h;simp[e,AV.size]
 |iT b p lo len=>intro vs h;obtain⟨_,_,_,_,_,_,_,e,_⟩:=h;simp[e,AV.size]
 |ptr b p=>intro vs h;obtain⟨_,_,e,_⟩:=h;simp[e,AV.size]
 |dJ t x=>intro vs h;obtain⟨_,_,_,e,_⟩:=h;simp[e,AV.size]
 |mp b=>intro vs h;obtain⟨_,_,e⟩:=h;simp[e,AV.size]
 |gV=>intro vs h;simp only[RC] at h;simp[h,AV.size]
 |lA=>intro vs h;simp only[RC] at h;simp[h,AV.size]
 |gW=>intro vs h;simp only[RC] at h;simp[h,AV.size]
 |nn=>intro vs h;simp only[RC] at h;simp[h,AV.size]
 |func fn fs cs=>intro vs h;obtain⟨_,_,e,_⟩:=h;simp[e,AV.size]
 |iface t v=>intro vs h;obtain⟨_,e,_⟩:=h;simp[e,AV.size]
 |cons a b ih1 ih2=>intro vs h;obtain⟨v1,v2,e,h1,h2⟩:=h;subst e;rw[List.length_append,ih1 h1,ih2 h2,AV.size]
 |nil=>intro vs h;simp only[RC] at h;simp[h,AV.size]
 |bot=>intro vs h;exact h.elim
 |fx=>intro vs h;obtain⟨_,_,_,e⟩:=h;simp[e,AV.size]
 |bJ l=>intro vs h;exact h.elim
 |opt c v=>intro vs h;exact h.elim
theorem Rel.one{w:World}{S:Nat→Prop}:∀{t:Ty}{vs:List Value}{x:t.den},Rel w S t vs x→∀v∈vs,v.oneCell'=true:=by
 intro t
 induction t with
 |int k=>intro vs x h v hv;simp[Rel] at h;rw[h.1] at hv;simp at hv;subst hv;rfl
 |bool=>intro vs x h v hv;simp[Rel] at h;rw[h] at hv;simp at hv;subst hv;rfl
 |str=>intro vs x h v hv;simp[Rel] at h;rw[h.1] at hv;simp at hv;subst hv;rfl
 |
  arr n t ih=>
  intro vs x h
  have key:∀{xs:List t.den}{vs:List Value},aB (Rel w S t) vs xs→∀v∈vs,v.oneCell'=true:=by
   intro xs
   induction xs with
   |nil=>intro vs h v hv;simp[aB] at h;subst h;cases hv
   |
    cons y ys ih2=>
    intro vs h v hv
    obtain⟨v1,v2,e,h1,h2⟩:=h
    subst e
    rcases List.mem_append.1 hv with h|h
    ·exact ih h1 v h
    ·exact ih2 h2 v h
  exact key h.2
 |slice bs t=>intro vs x h v hv;obtain⟨a,cap,e,_⟩:=h;rw[e] at hv;simp at hv;subst hv;rfl
 |
  pair a b ih1 ih2=>
  intro vs x h v hv
  obtain⟨v1,v2,e,h1,h2⟩:=h
  subst e
  rcases List.mem_append.1 hv with h|h
  ·exact ih1 h1 v h
  ·exact ih2 h2 v h
 |unit=>intro vs x h v hv;simp[Rel] at h;subst h;cases hv
 |av k=>intro vs x h;exact h.elim
 |
  fns n=>
  intro vs x h v hv
  obtain⟨_,h2⟩:=h
  rw[h2] at hv
  obtain⟨o,_,e⟩:=List.mem_map.1 hv
  subst e
  cases o<;>rfl
theorem RC.one{E:Env}{w:World}:∀{a:AV}{vs:List Value},RC E w a vs→∀v∈vs,v.oneCell'=true:=by
 intro a
 induction a with
 |val t x=>intro vs h;exact Rel.one h
 |dR=>intro vs h v hv;simp only[RC] at h;rw[h] at hv;simp at hv;subst hv;rfl
 |own b=>intro vs h v hv;obtain⟨e,a,n,c,e2⟩:=h;rw[e,e2] at hv;simp at hv;subst hv;rfl
 |lF b lo len=>intro vs h v hv;obtain⟨_,_,_,_,_,_,_,_,_,e,_⟩:=h;rw[e] at hv;simp at hv;subst hv;rfl
 |iT b p lo len=>intro vs h v hv;obtain⟨_,_,_,_,_,_,_,e,_⟩:=h;rw[e] at hv;simp at hv;subst hv;rfl
 |ptr b p=>intro vs h v hv;obtain⟨_,_,e,_⟩:=h;rw[e] at hv;simp at hv;subst hv;rfl
 |dJ t x=>intro vs h v hv;obtain⟨_,_,_,e,_⟩:=h;rw[e] at hv;simp at hv;subst hv;rfl
 |mp b=>intro vs h v hv;obtain⟨_,_,e⟩:=h;rw[e] at hv;simp at hv;subst hv;rfl
 |gV=>intro vs h v hv;simp only[RC] at h;rw[h] at hv;simp at hv;subst hv;rfl
 |lA=>intro vs h v hv;simp only[RC] at h;rw[h] at hv;simp at hv;subst hv;rfl
 |gW=>intro vs h v hv;simp only[RC] at h;rw[h] at hv;simp at hv;subst hv;rfl
 |fx=>intro vs h v hv;obtain⟨_,_,_,e⟩:=h;rw[e] at hv;simp at hv;subst hv;rfl
 |nn=>intro vs h v hv;simp only[RC] at h;rw[h] at hv;simp at hv;subst hv;rfl
 |func fn fs cs=>intro vs h v hv;obtain⟨_,_,e,_⟩:=h;rw[e] at hv;simp at hv;subst hv;rfl
 |iface t x=>intro vs h v hv;obtain⟨_,e,_⟩:=h;rw[e] at hv;simp at hv;subst hv;rfl
 |
  cons a b ih1 ih2=>
  intro vs h v hv
  obtain⟨v1,v2,e,h1,h2⟩:=h
  subst e
  rcases List.mem_append.1 hv with h|h
  ·exact ih1 h1 v h
  ·exact ih2 h2 v h
 |nil=>intro vs h v hv;simp only[RC] at h;subst h;cases hv
 |bot=>intro vs h;exact h.elim
 |bJ l=>intro vs h;exact h.elim
 |opt c v=>intro vs h;exact h.elim
theorem cN.cells{E:Env}{w:World}{a:AV}{v:Value}(h:cN E w a v):RC E w a v.cells.toList:=by
 rcases h with⟨_,cs,e,h⟩|⟨_,h⟩
 ·subst e;exact h
 ·have h1:=RC.one h v (by simp)
  have:v.cells= #[v]:=by cases v<;>first|rfl|(simp[Value.oneCell'] at h1)
  rw[this];exact h
theorem AV.eO:∀{a:AV}{t:Ty},a.bB t=true→a.size=t.size:=by
 intro a
 induction a with
 |val u x=>intro t h;have:=Ty.ae (by simpa[AV.bB] using h);subst this;rfl
 |
  cons a b ih1 ih2=>
  intro t h
  cases t<;>simp[AV.bB] at h
  rw[AV.size,Ty.size,ih1 h.1,ih2 h.2]
 |nil=>intro t h;cases t<;>simp[AV.bB] at h;rfl
 |dR=>intro t h;cases t with|slice _ _=>rfl|av k=>cases k<;>simp[AV.bB] at h<;>rfl|_=>simp[AV.bB] at h
 |_=>intro t h;first|(cases t<;>simp[AV.bB] at h<;>rfl)|(cases t with|av k=>cases k<;>simp[AV.bB] at h<;>rfl|_=>simp[AV.bB] at h)
theorem AV.lB:∀{a:AV}{t:Ty},a.bB t=true→a.isAgg=t.isAgg:=by
 intro a t h
 cases a with
 |val u x=>have:=Ty.ae (by simpa[AV.bB] using h);subst this;rfl
 |cons a b=>cases t<;>simp[AV.bB] at h;rfl
 |nil=>cases t<;>simp[AV.bB] at h;rfl
 |dR=>cases t with|slice _ _=>rfl|av k=>cases k<;>simp[AV.bB] at h<;>rfl|_=>simp[AV.bB] at h
 |_=>first|(cases t<;>simp[AV.bB] at h<;>rfl)|(cases t with|av k=>cases k<;>simp[AV.bB] at h<;>rfl|_=>simp[AV.bB] at h)
def dx:(t:Ty)→t.den→Path→Option AV
 | .pair a _,x,.fq 0::p=>dx a x.1 p
 | .pair _ b,x,.fq (k+1)::p=>dx b x.2 (.fq k::p)
 | .arr _ t,x,.idx i::p=>dx t (List.getD x i t.bu) p
 |t,x,[]=>some (.val t x)
 |_,_,_=>none
def AV.get:AV→Path→Option AV
 | .val t x,p=>dx t x p
 | .cons a _,.fq 0::p=>a.get p
 | .cons _ b,.fq (k+1)::p=>b.get (.fq k::p)
 |a,[]=>some a
 |_,_=>none
def AV.a8:AV→(t:Ty)→Option t.den
 | .val u x,t=>if h:Ty.same u t=true then some (Ty.ae h▸x) else none
 | .dR,.slice _ _=>some []
 |
  .cons a b,.pair t u=>match a.a8 t,b.a8 u with
  |some x,some y=>some (x,y)
  |_,_=>none
 | .nil,.unit=>some ()
 |_,_=>none
def AV.BQ(v:AV)(t:Ty):Option AV:=
 match v.a8 t with
 |some y=>some (.val t y)
 |none=>if v.bB t then some v else none
def eo:(t:Ty)→t.den→Path→AV→Option AV
 |
  .pair a b,x,.fq 0::p,v=>match eo a x.1 p v with
  |some (.val u y)=>if h:Ty.same u a=true then some (.val (.pair a b) (Ty.ae h▸y,x.2)) else none
  |some y=>some (.cons y (.val b x.2))
  |none=>none
 |
  .pair a b,x,.fq (k+1)::p,v=>match eo b x.2 (.fq k::p) v with
  |some (.val u y)=>if h:Ty.same u b=true then some (.val (.pair a b) (x.1,Ty.ae h▸y)) else none
  |some y=>some (.cons (.val a x.1) y)
  |none=>none
 |
  .arr n t,x,.idx i::p,v=>match eo t (List.getD x i t.bu) p v with
  |
   some y=>match y.a8 t with
   |some z=>some (.val (.arr n t) (List.set x i z))
   |none=>none
  |none=>none
 |t,_,[],v=>v.BQ t
 |_,_,_,_=>none
def AV.set:AV→Path→AV→Option AV
 | .val t x,p,v=>eo t x p v
 | .cons a b,.fq 0::p,v=>(a.set p v).map fun y=>.cons y b
 | .cons a b,.fq (k+1)::p,v=>(b.set (.fq k::p) v).map fun y=>.cons a y
 |_,[],v=>some v
 |_,_,_=>none
theorem RC.a8{E:Env}{w:World}:∀{a:AV}{t:Ty}{x:t.den}{vs:List Value},a.a8 t=some x→RC E w a vs→Rel w E.S t vs x:=by
 intro a
 induction a with
 |
  val u y=>
  intro t x vs h hr
  simp only[AV.a8] at h
  split at h
  ·rename_i hs
   have e:=Ty.ae hs
   subst e
   simp at h;subst h;exact hr
  ·cases h
 |
  dR=>
  intro t x vs h hr
  cases t<;>simp[AV.a8] at h
  subst h
  exact⟨none,0,by simpa[RC] using hr,Nat.le_refl _,by simp,by simp,Or.inl rfl⟩
 |
  cons a b ih1 ih2=>
  intro t x vs h hr
  cases t with
  |
   pair t u=>
   obtain⟨v1,v2,e,h1,h2⟩:=hr
   simp only[AV.a8] at h
   split at h
   ·rename_i y z hy hz
    cases h
    exact⟨v1,v2,e,ih1 hy h1,ih2 hz h2⟩
   ·cases h
  |_=>simp[AV.a8] at h
 |
  nil=>
  intro t x vs h hr
  cases t<;>simp[AV.a8] at h
  exact hr
 |_=>intro t x vs h;cases t<;>simp[AV.a8] at h
theorem cN.a8{E:Env}{w:World}{a:AV}{t:Ty}{x:t.den}{v:Value}(h:a.a8 t=some x)(hr:cN E w a v):cN E w (.val t x) v:=by
 rcases hr with⟨h1,cs,h2,h3⟩|⟨h1,h2⟩
 ·refine Or.inl ⟨?_,cs,h2,RC.a8 h h3⟩
  cases a with
  |
   val u y=>
   simp only[AV.a8] at h
   split at h
   ·rename_i hs;have e:=Ty.ae hs;subst e;exact h1
   ·cases h
  |cons a b=>cases t<;>simp[AV.a8] at h;rfl
  |nil=>cases t<;>simp[AV.a8] at h;rfl
  |_=>simp[AV.isAgg] at h1
 ·refine Or.inr ⟨?_,RC.a8 h h2⟩
  cases a with
  |
   val u y=>
   simp only[AV.a8] at h
   split at h
   ·rename_i hs;have e:=Ty.ae hs;subst e;exact h1
   ·cases h
  |dR=>cases t<;>simp[AV.a8] at h;rfl
  |cons a b=>simp[AV.isAgg] at h1
  |nil=>simp[AV.isAgg] at h1
  |_=>cases t<;>simp[AV.a8] at h
end Go.Abs
namespace Go.Abs
theorem kN{α:Type}(v1 v2:List α)(k n:Nat)(hk:v1.length≤k):((v1++v2).drop k).take n=(v2.drop (k -v1.length)).take n:=by
 rw[List.drop_append,List.drop_of_length_le hk,List.nil_append]
theorem kO{α:Type}(v1 v2:List α)(k n:Nat)(hk:k+n≤v1.length):((v1++v2).drop k).take n=(v1.drop k).take n:=by
 rw[List.drop_append,List.take_append]
 simp;omega
theorem nq{E:Env}{w:World}:∀{t:Ty}{x:t.den}{cs:List Value}{p:Path}{u:AV},Rel w E.S t cs x→t.valid p→dx t x p=some u→
 ∃s,t.sub p=some s∧u.bB s=true∧t.off p+s.size≤cs.length∧RC E w u ((cs.drop (t.off p)).take s.size):=by
 intro t
 induction t with
 |
  pair a b ih1 ih2=>
  intro x cs p u hr hv hg
  cases p with
  |
   nil=>
   simp only[dx,Option.some.injEq] at hg;subst hg
   have hl:=Rel.len hr
   exact⟨_,rfl,Ty.cA _,by simp[Ty.off,hl],by simp only[Ty.off,List.drop_zero];rw[List.take_of_length_le (by omega)];exact hr⟩
  |
   cons s p=>
   obtain⟨v1,v2,e,h1,h2⟩:=hr
   subst e
   cases s with
   |
    fq k=>
    cases k with
    |
     zero=>
     obtain⟨s,e1,e2,e3,e4⟩:=ih1 h1 hv hg
     refine⟨s,e1,e2,by simp only[Ty.off,List.length_append];omega,?_⟩
     simp only[Ty.off]
     rw[kO _ _ _ _ e3];exact e4
    |
     succ k=>
     obtain⟨s,e1,e2,e3,e4⟩:=ih2 h2 hv hg
     have hl:=Rel.len h1
     refine⟨s,e1,e2,by simp only[Ty.off,List.length_append];omega,?_⟩
     simp only[Ty.off]
     rw[kN _ _ _ _ (by omega),hl,Nat.add_sub_cancel_left];exact e4
   |idx i=>simp[dx] at hg
 |
  arr n t ih=>
  intro x cs p u hr hv hg
  cases p with
  |
   nil=>
   simp only[dx,Option.some.injEq] at hg;subst hg
   have hl:=Rel.len hr
   exact⟨_,rfl,Ty.cA _,by simp[Ty.off,hl],by simp only[Ty.off,List.drop_zero];rw[List.take_of_length_le (by omega)];exact hr⟩
  |
   cons s p=>
   cases s with
   |fq k=>simp[dx] at hg
   |
    idx i=>
    have hl:=Rel.len hr
    obtain⟨hn,hr⟩:=hr
    obtain⟨hi,hv⟩:=hv
    have hx:i<List.length x:=by rw[hn];exact hi
    have:=aB.get (fun _ _=>Rel.len) t.bu i hr hx
    obtain⟨s,e1,e2,e3,e4⟩:=ih this hv hg
    have hb:(i+1)*t.size≤n*t.size:=Nat.mul_le_mul_right _ hi
    rw[Nat.add_mul,Nat.one_mul] at hb
    have hle:t.off p+s.size≤t.size:=by
     have:=e3
     simp only[List.length_take,List.length_drop] at this
     omega
    refine⟨s,e1,e2,?_,?_⟩
    ·simp only[Ty.off];rw[hl,Ty.size];omega
    ·simp only[Ty.off]
     rw[List.drop_take,List.take_take,List.drop_drop,Nat.min_eq_left (by omega)] at e4
     exact e4
 |
  int k=>intro x cs p u hr hv hg;cases p with
  |nil=>simp only[dx,Option.some.injEq] at hg;subst hg;have hl:=Rel.len hr;exact⟨_,rfl,Ty.cA _,by simp[Ty.off,hl],by simp only[Ty.off,List.drop_zero];rw[List.take_of_length_le (by omega)];exact hr⟩
  |cons s p=>simp[Ty.valid] at hv
 |
  bool=>intro x cs p u hr hv hg;cases p with
  |nil=>simp only[dx,Option.some.injEq] at hg;subst hg;have hl:=Rel.len hr;exact⟨_,rfl,Ty.cA _,by simp[Ty.off,hl],by simp only[Ty.off,List.drop_zero];rw[List.take_of_length_le (by omega)];exact hr⟩
  |cons s p=>simp[Ty.valid] at hv
 |
  str=>intro x cs p u hr hv hg;cases p with
  |nil=>simp only[dx,Option.some.injEq] at hg;subst hg;have hl:=Rel.len hr;exact⟨_,rfl,Ty.cA _,by simp[Ty.off,hl],by simp only[Ty.off,List.drop_zero];rw[List.take_of_length_le (by omega)];exact hr⟩
  |cons s p=>simp[Ty.valid] at hv
 |
  slice bs t=>intro x cs p u hr hv hg;cases p with
  |nil=>simp only[dx,Option.some.injEq] at hg;subst hg;have hl:=Rel.len hr;exact⟨_,rfl,Ty.cA _,by simp[Ty.off,hl],by simp only[Ty.off,List.drop_zero];rw[List.take_of_length_le (by omega)];exact hr⟩
  |cons s p=>simp[Ty.valid] at hv
 |
  unit=>intro x cs p u hr hv hg;cases p with
  |nil=>simp only[dx,Option.some.injEq] at hg;subst hg;have hl:=Rel.len hr;exact⟨_,rfl,Ty.cA _,by simp[Ty.off,hl],by simp only[Ty.off,List.drop_zero];rw[List.take_of_length_le (by omega)];exact hr⟩
  |cons s p=>simp[Ty.valid] at hv
 |
  fns n=>intro x cs p u hr hv hg;cases p with
  |nil=>simp only[dx,Option.some.injEq] at hg;subst hg;have hl:=Rel.len hr;exact⟨_,rfl,Ty.cA _,by simp[Ty.off,hl],by simp only[Ty.off,List.drop_zero];rw[List.take_of_length_le (by omega)];exact hr⟩
  |cons s p=>simp[Ty.valid] at hv
 |av k=>intro x cs p u hr hv hg;exact hr.elim
theorem AV.ql{E:Env}{w:World}:∀{a:AV}{t:Ty}{cs:List Value}{p:Path}{u:AV},RC E w a cs→a.bB t=true→t.valid p→a.get p=some u→
 ∃s,t.sub p=some s∧u.bB s=true∧t.off p+s.size≤cs.length∧RC E w u ((cs.drop (t.off p)).take s.size):=by
 intro a
 have base:∀{a:AV}{t:Ty}{cs:List Value}{u:AV},RC E w a cs→a.bB t=true→some a=some u→
  ∃s,t.sub []=some s∧u.bB s=true∧t.off []+s.size≤cs.length∧RC E w u ((cs.drop (t.off [])).take s.size):=by
  intro a t cs u hr hc e
  cases e
  have hl:=RC.len hr
  have hs:=AV.eO hc
  have hsub:t.sub []=some t:=by cases t<;>rfl
  have hoff:t.off []=0:=by cases t<;>rfl
  exact⟨t,hsub,hc,by omega,by rw[hoff,List.drop_zero,List.take_of_length_le (by omega)];exact hr⟩
 induction a with
 |
  val u x=>
  intro t cs p v hr hc hv hg
  have:=Ty.ae (by simpa[AV.bB] using hc);subst this
  exact nq hr hv hg
 |
  cons a b ih1 ih2=>
  intro t cs p u hr hc hv hg
  cases p with
  |nil=>exact base hr hc hg
  |
   cons s p=>
   cases t with
   |
    pair t1 t2=>
    simp only[AV.bB,Bool.and_eq_true] at hc
    obtain⟨v1,v2,e,h1,h2⟩:=hr
    subst e
    cases s with
    |
     fq k=>
     cases k with
     |
      zero=>
      obtain⟨s,e1,e2,e3,e4⟩:=ih1 h1 hc.1 hv hg
      refine⟨s,e1,e2,by simp only[Ty.off,List.length_append];omega,?_⟩
      simp only[Ty.off]
      rw[kO _ _ _ _ e3];exact e4
     |
      succ k=>
      obtain⟨s,e1,e2,e3,e4⟩:=ih2 h2 hc.2 hv hg
      have hl:=RC.len h1
      have hs:=AV.eO hc.1
      refine⟨s,e1,e2,by simp only[Ty.off,List.length_append];omega,?_⟩
      simp only[Ty.off]
      rw[kN _ _ _ _ (by omega),hl,hs,Nat.add_sub_cancel_left];exact e4
    |idx i=>simp[AV.get] at hg
   |_=>simp[AV.bB] at hc
 |
  _=>
  intro t cs p u hr hc hv hg
  cases p with
  |nil=>exact base hr hc hg
  |cons s p=>simp[AV.get] at hg
theorem gO{α:Type}(v1 v2 us:List α)(k n:Nat)(hk:k+n≤v1.length):(v1++v2).take k++us++(v1++v2).drop (k+n)=(v1.take k++us++v1.drop (k+n))++v2:=by
 rw[List.take_append_of_le_length (by omega),List.drop_append_of_le_length (by omega)];simp
theorem gP{α:Type}(v1 v2 us:List α)(k n:Nat)(hk:v1.length≤k):(v1++v2).take k++us++(v1++v2).drop (k+n)=v1++(v2.take (k -v1.length)++us++v2.drop (k -v1.length+n)):=by
 rw[List.take_append,List.take_of_length_le hk,List.drop_append,List.drop_of_length_le (by omega)]
 simp only[List.nil_append,List.append_assoc]
 congr 4;omega
theorem Rel.cast{w:World}{S:Nat→Prop}{u t:Ty}{x:u.den}{cs:List Value}(h:Ty.same u t=true)(hr:Rel w S u cs x):Rel w S t cs (Ty.ae h▸x):=by
 have e:=Ty.ae h
 subst e
 exact hr
theorem rV{E:Env}{w:World}{v:AV}{us:List Value}(hv:RC E w v us):∀{t:Ty}{x:t.den}{cs:List Value}{p:Path}{u:AV},Rel w E.S t cs x→t.valid p→eo t x p v=some u→
 ∃s,t.sub p=some s∧us.length=s.size∧t.off p+s.size≤cs.length∧RC E w u (cs.take (t.off p)++us++cs.drop (t.off p+s.size)):=by
 intro t
 have base:∀{t:Ty}{x:t.den}{cs:List Value}{u:AV},Rel w E.S t cs x→eo t x [] v=some u→
  ∃s,t.sub []=some s∧us.length=s.size∧t.off []+s.size≤cs.length∧RC E w u (cs.take (t.off [])++us++cs.drop (t.off []+s.size)):=by
  intro t x cs u hr hs
  have hl:=Rel.len hr
  have hsub:t.sub []=some t:=by cases t<;>rfl
  have hoff:t.off []=0:=by cases t<;>rfl
  have key:v.BQ t=some u:=by
   cases t<;>simpa only[eo] using hs
  unfold AV.BQ at key
  split at key
  ·rename_i y hy
   cases key
   have:=RC.a8 hy hv
   have hlu:=Rel.len this
   exact⟨t,hsub,hlu,by omega,by rw[hoff,Nat.zero_add,List.take_zero,List.nil_append,List.drop_of_length_le (by omega),List.append_nil];exact this⟩
  ·split at key
   ·rename_i hc
    cases key
    have hlu:=RC.len hv
    have:=AV.eO hc
    exact⟨t,hsub,by omega,by omega,by rw[hoff,Nat.zero_add,List.take_zero,List.nil_append,List.drop_of_length_le (by omega),List.append_nil];exact hv⟩
   ·cases key
 induction t with
 |
  pair a b ih1 ih2=>
  intro x cs p u hr hva hs
  cases p with
  |nil=>exact base hr hs
  |
   cons s p=>
   obtain⟨v1,v2,e,h1,h2⟩:=hr
   subst e
   have hl:=Rel.len h1
   cases s with
   |
    fq k=>
    cases k with
    |
     zero=>
     simp only[eo] at hs
     split at hs
     ·rename_i ty y hy
      split at hs
      ·rename_i hsame
       cases hs
       obtain⟨s,e1,e2,e3,e4⟩:=ih1 h1 hva hy
       refine⟨s,e1,e2,by simp only[Ty.off,List.length_append];omega,?_⟩
       simp only[Ty.off]
       rw[gO _ _ _ _ _ e3]
       exact⟨_,v2,rfl,Rel.cast hsame e4,h2⟩
      ·cases hs
     ·rename_i y _ hy
      cases hs
      obtain⟨s,e1,e2,e3,e4⟩:=ih1 h1 hva hy
      refine⟨s,e1,e2,by simp only[Ty.off,List.length_append];omega,?_⟩
      simp only[Ty.off]
      rw[gO _ _ _ _ _ e3]
      exact⟨_,v2,rfl,e4,h2⟩
     ·cases hs
    |
     succ k=>
     simp only[eo] at hs
     split at hs
     ·rename_i ty y hy
      split at hs
      ·rename_i hsame
       cases hs
       obtain⟨s,e1,e2,e3,e4⟩:=ih2 h2 hva hy
       refine⟨s,e1,e2,by simp only[Ty.off,List.length_append];omega,?_⟩
       simp only[Ty.off]
       rw[gP _ _ _ _ _ (by omega),hl,Nat.add_sub_cancel_left]
       exact⟨v1,_,rfl,h1,Rel.cast hsame e4⟩
      ·cases hs
     ·rename_i y _ hy
      cases hs
      obtain⟨s,e1,e2,e3,e4⟩:=ih2 h2 hva hy
      refine⟨s,e1,e2,by simp only[Ty.off,List.length_append];omega,?_⟩
      simp only[Ty.off]
      rw[gP _ _ _ _ _ (by omega),hl,Nat.add_sub_cancel_left]
      exact⟨v1,_,rfl,h1,e4⟩
     ·cases hs
   |idx i=>simp[eo] at hs
 |
  arr n t ih=>
  intro x cs p u hr hva hs
  cases p with
  |nil=>exact base hr hs
  |
   cons s p=>
   cases s with
   |fq k=>simp[eo] at hs
   |
    idx i=>
    have hl:=Rel.len hr
    obtain⟨hn,hr⟩:=hr
    obtain⟨hi,hva⟩:=hva
    have hx:i<List.length x:=by rw[hn];exact hi
    have hg:=aB.get (fun _ _=>Rel.len) t.bu i hr hx
    simp only[eo] at hs
    split at hs
    ·rename_i y hy
     split at hs
     ·rename_i z hz
      cases hs
      obtain⟨s,e1,e2,e3,e4⟩:=ih hg hva hy
      have hb:(i+1)*t.size≤n*t.size:=Nat.mul_le_mul_right _ hi
      rw[Nat.add_mul,Nat.one_mul] at hb
      have hle:t.off p+s.size≤t.size:=by
       have:=e3
       simp only[List.length_take,List.length_drop] at this
       omega
      have aq:=aB.set (r:=Rel w E.S t) (n:=t.size) (fun _ _ h=>Rel.len h) (us:=_) (y:=z) (RC.a8 hz e4) i hr hx
      refine⟨s,e1,e2,?_,?_⟩
      ·simp only[Ty.off];rw[hl,Ty.size];omega
      ·simp only[Ty.off]
       refine⟨by simp[hn],?_⟩
       have key:cs.take (i*t.size)++(((cs.drop (i*t.size)).take t.size).take (t.off p)++us++((cs.drop (i*t.size)).take t.size).drop (t.off p+s.size))++cs.drop (i*t.size+t.size)
        =cs.take (i*t.size+t.off p)++us++cs.drop (i*t.size+t.off p+s.size):=by
        rw[List.take_take,Nat.min_eq_left (by omega),List.drop_take,List.drop_drop]
        have a1:cs.take (i*t.size+t.off p)=cs.take (i*t.size)++(cs.drop (i*t.size)).take (t.off p):=by
         rw[List.take_add]
        have a2:cs.drop (i*t.size+t.off p+s.size)=(cs.drop (i*t.size+(t.off p+s.size))).take (t.size -(t.off p+s.size))++cs.drop (i*t.size+t.size):=by
         have:=List.take_append_drop (t.size -(t.off p+s.size)) (cs.drop (i*t.size+(t.off p+s.size)))
         rw[List.drop_drop] at this
         rw[show i*t.size+(t.off p+s.size)+(t.size -(t.off p+s.size))=i*t.size+t.size from by omega] at this
         rw[this];congr 1;omega
        rw[a1,a2];simp only[List.append_assoc]
       rw[←key];exact aq
     ·cases hs
    ·cases hs
 |
  int k=>intro x cs p u hr hva hs;cases p with
  |nil=>exact base hr hs
  |cons s p=>simp[Ty.valid] at hva
 |
  bool=>intro x cs p u hr hva hs;cases p with
  |nil=>exact base hr hs
  |cons s p=>simp[Ty.valid] at hva
 |
  str=>intro x cs p u hr hva hs;cases p with
  |nil=>exact base hr hs
  |cons s p=>simp[Ty.valid] at hva
 |
  slice bs t=>intro x cs p u hr hva hs;cases p with
  |nil=>exact base hr hs
  |cons s p=>simp[Ty.valid] at hva
 |
  unit=>intro x cs p u hr hva hs;cases p with
  |nil=>exact base hr hs
  |cons s p=>simp[Ty.valid] at hva
 |
  fns n=>intro x cs p u hr hva hs;cases p with
  |nil=>exact base hr hs
  |cons s p=>simp[Ty.valid] at hva
 |av k=>intro x cs p u hr;exact hr.elim
theorem AV.tF{E:Env}{w:World}{v:AV}{us:List Value}(hv:RC E w v us):∀{a:AV}{t:Ty}{cs:List Value}{p:Path}{u:AV},RC E w a cs→a.bB t=true→t.valid p→(∀s,t.sub p=some s→us.length=s.size)→a.set p v=some u→
 ∃s,t.sub p=some s∧us.length=s.size∧t.off p+s.size≤cs.length∧RC E w u (cs.take (t.off p)++us++cs.drop (t.off p+s.size)):=by
 intro a
 have base:∀{a:AV}{t:Ty}{cs:List Value}{u:AV},RC E w a cs→a.bB t=true→(∀s,t.sub []=some s→us.length=s.size)→some v=some u→
  ∃s,t.sub []=some s∧us.length=s.size∧t.off []+s.size≤cs.length∧RC E w u (cs.take (t.off [])++us++cs.drop (t.off []+s.size)):=by
  intro a t cs u hr hc hlen e
  cases e
  have hl:=RC.len hr
  have hs:=AV.eO hc
  have hsub:t.sub []=some t:=by cases t<;>rfl
  have hoff:t.off []=0:=by cases t<;>rfl
  have:=hlen t hsub
  exact⟨t,hsub,this,by omega,by rw[hoff,Nat.zero_add,List.take_zero,List.nil_append,List.drop_of_length_le (by omega),List.append_nil];exact hv⟩
 induction a with
 |
  val u x=>
  intro t cs p y hr hc hva _ hs
  have:=Ty.ae (by simpa[AV.bB] using hc);subst this
  exact rV hv hr hva hs
 |
  cons a b ih1 ih2=>
  intro t cs p u hr hc hva hlen hs
  cases p with
  |nil=>exact base hr hc hlen hs
  |
   cons s p=>
   cases t with
   |
    pair t1 t2=>
    simp only[AV.bB,Bool.and_eq_true] at hc
    obtain⟨v1,v2,e,h1,h2⟩:=hr
    subst e
    have hl:=RC.len h1
    have hsz:=AV.eO hc.1
    cases s with
    |
     fq k=>
     cases k with
     |
      zero=>
      simp only[AV.set,Option.map_eq_some_iff] at hs
      obtain⟨y,hy,e⟩:=hs
      subst e
      obtain⟨s,e1,e2,e3,e4⟩:=ih1 h1 hc.1 hva hlen hy
      refine⟨s,e1,e2,by simp only[Ty.off,List.length_append];omega,?_⟩
      simp only[Ty.off]
      rw[gO _ _ _ _ _ e3]
      exact⟨_,v2,rfl,e4,h2⟩
     |
      succ k=>
      simp only[AV.set,Option.map_eq_some_iff] at hs
      obtain⟨y,hy,e⟩:=hs
      subst e
      obtain⟨s,e1,e2,e3,e4⟩:=ih2 h2 hc.2 hva hlen hy
      refine⟨s,e1,e2,by simp only[Ty.off,List.length_append];omega,?_⟩
      simp only[Ty.off]
      rw[gP _ _ _ _ _ (by omega),hl,hsz,Nat.add_sub_cancel_left]
      exact⟨v1,_,rfl,h1,e4⟩
    |idx i=>simp[AV.set] at hs
   |_=>simp[AV.bB] at hc
 |
  _=>
  intro t cs p u hr hc hva hlen hs
  cases p with
  |nil=>exact base hr hc hlen hs
  |cons s p=>simp[AV.set] at hs
end Go.Abs
namespace Go.Abs
structure BR where
 g:Nat
 t:Ty
 x:t.den
structure Ctx where
 gl:List BR
 B:(Nat→Prop)→World→Prop
 mono:∀{S S':Nat→Prop}{w w':World},(∀b,S b→w'.heap[b]? =w.heap[b]?)→(∀b,S b→S' b)→B S w→B S' w'
 ro:Option Nat
 md:Prop
def Ctx.of(l:List BR):Ctx:=⟨l,fun _ _=>True,fun _ _ _=>trivial,none,False⟩
abbrev Wd(gl:Ctx):Fence:={fn:=fun _=>True,depth:=none,alive:=false,round:=gl.ro}
structure St where
 tm:List AV
 hp:List (Option ah)
 df:List AV
def ah.ids:ah→List Nat
 | .var _ v=>v.ids
 | .tv _ _ v=>v.ids
 |_=>[]
def RM(E:Env)(w:World)(k v:Ty):List MapEntry→List (k.den×v.den)→Prop
 |[],[]=>True
 |e::es,x::xs=>cN E w (.val k x.1) e.key∧cN E w (.val v x.2) e.val∧RM E w k v es xs
 |_,_=>False
def RB(E:Env)(w:World)(b:Nat):ah→Prop
 | .var t v=>E.bt b=t∧v.bB t=true∧∃g c e,E.g b=some g∧w.heap[g]? =some (.cells c e (0,0))∧RC E w v c.toList
 | .row e bs t xs=>E.bt b= .arr xs.length t∧xs.length*bs≤aO∧xs.length≤aO∧0<t.size∧∃a cap,E.sv b= .slice a xs.length cap∧cap≤maxLen∧
  (
   ((cap=0∧a=none)∧E.g b=none∧xs= [])∨
   (∃g c,E.g b=some g∧a=some ⟨g,0,none⟩∧w.heap[g]? =some (.cells c e (0,0))∧c.size=cap*t.size∧xs.length≤cap∧aB (Rel w E.S t) (c.toList.take (xs.length*t.size)) xs))
 | .map k v es=>(es.map (·.1)).Nodup∧es.length≤aO∧∃g en clock,E.g b=some g∧w.heap[g]? =some (.map en clock)∧RM E w k v en.toList es∧(∀x∈en.toList,x.born<clock)∧(en.toList.map (·.born)).Nodup
 | .lp l r=>E.g b=some l∧w.heap[l]? =some (.loop r)
 | .uP=>∃g,E.g b=some g∧w.heap[g]? =some (.deferred (some []))
 | .tv g t v=>E.g b=some g∧E.bt b=t∧v.bB t=true∧∃c e,w.heap[g]? =some (.cells c e (0,0))∧RC E w v c.toList
def qK(gl:Ctx)(E:Env)(w:World):Prop:=(∀x∈gl.gl,E.S x.g∧∃cs,kD w ⟨x.g,0,none⟩ cs∧Rel w E.S x.t cs x.x)∧gl.B E.S w
structure HW(gl:Ctx)(E:Env)(w:World)(hp:List (Option ah)):Prop where
 bp:∀b k,hp[b]? =some (some k)→RB E w b k
 sep:∀b b' k k' g,hp[b]? =some (some k)→hp[b']? =some (some k')→E.g b=some g→E.g b'=some g→b=b'
 eV:∀b k g,hp[b]? =some (some k)→E.g b=some g→¬E.S g
 slt:∀g,E.S g→g<w.heap.size
 gl:qK gl E w
def Own(hp:List (Option ah))(E:Env)(g:Nat):Prop:=∃b k,hp[b]? =some (some k)∧E.g b=some g
def Tp(md:Prop)(w w':World):Prop:=w'.tape=w.tape∧(md→w.drawn≤w'.drawn)
theorem Tp.r{md:Prop}{w w':World}(h:w'.tape=w.tape)(k:w'.drawn=w.drawn):Tp md w w':=⟨h,fun _=>Nat.le_of_eq k.symm⟩
theorem Tp.s{md:Prop}{w w':World}(h:w'.tape=w.tape)(k:w'.drawn=w.drawn+1):Tp md w w':=⟨h,fun _=>k▸Nat.le_succ _⟩
theorem Tp.trans{md:Prop}{w v u:World}(h:Tp md w v)(k:Tp md v u):Tp md w u:=⟨k.1.trans h.1,fun m=>Nat.le_trans (h.2 m) (k.2 m)⟩
structure Ext(md:Prop)(O:Nat→Prop)(E:Env)(w:World)(O':Nat→Prop)(E':Env)(w':World):Prop where
 os:w'.os=w.os
 tape:Tp md w w'
 output:w'.output=w.output
 size:w.heap.size≤w'.heap.size
 kept:∀g,g<w.heap.size→¬O g→w'.heap[g]? =w.heap[g]?
 sle:∀g,E.S g→E'.S g
 vO:∀g,E'.S g→E.S g∨O g∨w.heap.size≤g
 own:∀g,O' g→O g∨w.heap.size≤g
 Ea:∀b,b<16→E'.g b=E.g b∧E'.sv b=E.sv b∧E'.bt b=E.bt b
theorem Ext.refl{md:Prop}(O:Nat→Prop)(E:Env)(w:World):Ext md O E w O E w:=
 ⟨rfl,Tp.r rfl rfl,rfl,Nat.le_refl _,fun _ _ _=>rfl,fun _ h=>h,fun _ h=>Or.inl h,fun _ h=>Or.inl h,fun _ _=>⟨rfl,rfl,rfl⟩⟩
theorem Ext.trans{md:Prop}{O O1 O2:Nat→Prop}{E E1 E2:Env}{w w1 w2:World}(h:Ext md O E w O1 E1 w1)(k:Ext md O1 E1 w1 O2 E2 w2):Ext md O E w O2 E2 w2 where
 os:=k.os.trans h.os
 tape:=h.tape.trans k.tape
 output:=k.output.trans h.output
 size:=Nat.le_trans h.size k.size
 kept:=fun g hg ho=>by
  rw[k.kept g (Nat.lt_of_lt_of_le hg h.size) (fun h1=>(h.own g h1).elim ho (fun h2=>by omega)),h.kept g hg ho]
 sle:=fun g hg=>k.sle g (h.sle g hg)
 vO:=fun g hg=>by
  rcases k.vO g hg with h1|h1|h1
  ·exact h.vO g h1
  ·exact(h.own g h1).elim (fun x=>Or.inr (Or.inl x)) (fun x=>Or.inr (Or.inr x))
  ·exact Or.inr (Or.inr (Nat.le_trans h.size h1))
 own:=fun g hg=>by
  rcases k.own g hg with h1|h1
  ·exact h.own g h1
  ·exact Or.inr (Nat.le_trans h.size h1)
 Ea:=fun b hb=>⟨(k.Ea b hb).1.trans (h.Ea b hb).1,(k.Ea b hb).2.1.trans (h.Ea b hb).2.1,(k.Ea b hb).2.2.trans (h.Ea b hb).2.2⟩
def RD(E:Env)(w:World):List AV→List Deferred→Prop
 |[],[]=>True
 | .mp b::l,d::ds=>(∃g,E.g b=some g∧d={target:=.collected g,args:= #[]})∧RD E w l ds
 | .func fn fs cs::l,d::ds=>(∃f c,d={target:=.fn fn c,args:=f}∧RC E w fs f.toList∧RC E w cs c.toList∧fs.atoms=true∧cs.atoms=true)∧RD E w l ds
 |_,_=>False
theorem RD.mono{E E':Env}{w w':World}(k:bh E w E' w'):∀{l:List AV}{ds:List Deferred},(∀a∈l,E.on E' a.ids)→RD E w l ds→RD E' w' l ds
 |[],[],_,_=>trivial
 |[],_::_,_,h=>h.elim
 |a::l,[],_,h=>by cases a<;>exact h.elim
 |
  a::l,d::ds,ho,h=>by
  cases a with
  |
   func fn fs cs=>
   obtain⟨⟨f,c,e,h1,h2,h3,h4⟩,h5⟩:=h
   have:=ho _ (List.mem_cons_self ..)
   exact⟨⟨f,c,e,RC.mono k this.left h1,RC.mono k this.right h2,h3,h4⟩,RD.mono k (fun a ha=>ho a (List.mem_cons_of_mem _ ha)) h5⟩
  |
   mp b=>
   obtain⟨⟨g,e1,e2⟩,h5⟩:=h
   have:=ho _ (List.mem_cons_self ..) b (by simp[AV.ids])
   exact⟨⟨g,by rw[this.1];exact e1,e2⟩,RD.mono k (fun a ha=>ho a (List.mem_cons_of_mem _ ha)) h5⟩
  |_=>exact h.elim
structure cE(gl:Ctx)(σ:St)(E:Env)(a:Act)(w:World):Prop where
 len:a.tmps.size=σ.tm.length
 tm:∀(i:Nat)(x:AV),σ.tm[i]? =some x→∀v,a.tmps[i]? =some v→RV E w x v
 hw:HW gl E w σ.hp
 df:RD E w σ.df a.defers
theorem RM.mono{E E':Env}{w w':World}(k:bh E w E' w'){kt vt:Ty}:∀{l:List MapEntry}{xs:List (kt.den×vt.den)},RM E w kt vt l xs→RM E' w' kt vt l xs
 |[],[],_=>trivial
 |[],_::_,h=>h.elim
 |_::_,[],h=>h.elim
 |e::l,x::xs,h=>⟨cN.mono k (fun b hb=>by cases hb) h.1,cN.mono k (fun b hb=>by cases hb) h.2.1,RM.mono k h.2.2⟩
theorem RB.mono{E E':Env}{w w':World}{b:Nat}{k:ah}(kp:bh E w E' w')(ho:E.on E' (b::k.ids))(hk:∀g,E.g b=some g→w'.heap[g]? =w.heap[g]?)(h:RB E w b k):RB E' w' b k:=by
 obtain⟨e1,e2,e3⟩:=ho b (List.mem_cons_self ..)
 have ho':E.on E' k.ids:=fun x hx=>ho x (List.mem_cons_of_mem _ hx)
 cases k with
 |
  var t v=>
  obtain⟨h1,h2,g,c,e,h3,h4,h5⟩:=h
  exact⟨by rw[e3];exact h1,h2,g,c,e,by rw[e1];exact h3,by rw[hk g h3];exact h4,RC.mono kp ho' h5⟩
 |
  row e bs t xs=>
  obtain⟨h1,h2,h3,h4,a,cap,h5,h6,h7⟩:=h
  refine⟨by rw[e3];exact h1,h2,h3,h4,a,cap,by rw[e2];exact h5,h6,?_⟩
  rcases h7 with⟨h7,h8,h9⟩|⟨g,c,h7,h8,h9,h10,h11,h12⟩
  ·exact Or.inl ⟨h7,by rw[e1];exact h8,h9⟩
  ·exact Or.inr ⟨g,c,by rw[e1];exact h7,h8,by rw[hk g h7];exact h9,h10,h11,aB.mono (fun _ _=>Rel.mono kp.w kp.S) h12⟩
 |
  map kt vt es=>
  obtain⟨h1,h1',g,en,clock,h2,h3,h4,h5,h6⟩:=h
  exact⟨h1,h1',g,en,clock,by rw[e1];exact h2,by rw[hk g h2];exact h3,RM.mono kp h4,h5,h6⟩
 |lp l r=>exact⟨by rw[e1];exact h.1,by rw[hk l h.1];exact h.2⟩
 |uP=>obtain⟨g,h1,h2⟩:=h;exact⟨g,by rw[e1];exact h1,by rw[hk g h1];exact h2⟩
 |
  tv g t v=>
  obtain⟨h0,h1,h2,c,e,h4,h5⟩:=h
  exact⟨by rw[e1];exact h0,by rw[e3];exact h1,h2,c,e,by rw[hk g h0];exact h4,RC.mono kp ho' h5⟩
def St.put(σ:St)(dst:Option Nat)(x:AV):St:=
 match dst with
 |some d=>{σ with tm:=σ.tm.set d x}
 |none=>σ
def St.bp(σ:St)(b:Nat)(k:Option ah):St:={σ with hp:=σ.hp.set b k}
theorem cE.put{gl:Ctx}{σ:St}{E:Env}{a:Act}{w:World}(h:cE gl σ E a w)(dst:Option Nat){x:AV}{v:Value}(hv:RV E w x v):cE gl (σ.put dst x) E (a.put dst v) w:=by
 cases dst with
 |none=>exact h
 |
  some d=>
  refine⟨by simp[Act.put,St.put,h.len],?_,h.hw,h.df⟩
  intro i y hi u hu
  simp only[St.put,List.getElem?_set] at hi
  simp only[Act.put,Array.getElem?_setIfInBounds] at hu
  by_cases e:d=i
  ·subst e
   simp only[if_true] at hi hu
   split at hi
   ·cases hi
    rename_i hlt
    rw[if_pos (by rw[h.len];exact hlt)] at hu
    cases hu
    exact hv
   ·cases hi
  ·simp only[e,if_false] at hi hu
   exact h.tm i y hi u hu
def St.ids(σ:St):List Nat:=σ.tm.flatMap AV.ids++σ.df.flatMap AV.ids++(σ.hp.filterMap id).flatMap ah.ids
theorem St.xb{σ:St}{i:Nat}{x:AV}(h:σ.tm[i]? =some x):∀b∈x.ids,b∈σ.ids:=fun b hb=>by
 simp only[St.ids,List.mem_append,List.mem_flatMap]
 exact Or.inl (Or.inl ⟨x,List.mem_of_getElem? h,hb⟩)
theorem St.BS{σ:St}{x:AV}(h:x∈σ.df):∀b∈x.ids,b∈σ.ids:=fun b hb=>by
 simp only[St.ids,List.mem_append,List.mem_flatMap]
 exact Or.inl (Or.inr ⟨x,h,hb⟩)
theorem St.tG{σ:St}{i:Nat}{k:ah}(h:σ.hp[i]? =some (some k)):∀b∈k.ids,b∈σ.ids:=fun b hb=>by
 simp only[St.ids,List.mem_append,List.mem_flatMap]
 exact Or.inr ⟨k,List.mem_filterMap.2 ⟨some k,List.mem_of_getElem? h,rfl⟩,hb⟩
theorem cE.carry{gl:Ctx}{σ:St}{E E':Env}{a:Act}{w w':World}(h:cE gl σ E a w)(k:bh E w E' w')(ho:E.on E' σ.ids){hp:List (Option ah)}(hw:HW gl E' w' hp):cE gl {σ with hp:=hp} E' a w':=
 ⟨h.len,fun i x hi v hv=>RV.mono k (fun b hb=>ho b (St.xb (σ:=σ) hi b hb)) (h.tm i x hi v hv),hw,RD.mono k (fun _x hx b hb=>ho b (St.BS (σ:=σ) hx b hb)) h.df⟩
def Env.at(E:Env)(d:Nat)(g:Option Nat)(sv:Value)(t:Ty):Env:=
 {E with g:=fun b=>if b=d then g else E.g b,sv:=fun b=>if b=d then sv else E.sv b,bt:=fun b=>if b=d then t else E.bt b}
theorem Env.BT{E:Env}{d:Nat}{g:Option Nat}{sv:Value}{t:Ty}(h:16≤d):∀b,b<16→(E.at d g sv t).g b=E.g b∧(E.at d g sv t).sv b=E.sv b∧(E.at d g sv t).bt b=E.bt b:=fun b hb=>by
 have:b≠d:=by omega
 simp[Env.at,this]
theorem Env.vP{E:Env}{d:Nat}{g:Option Nat}{sv:Value}{t:Ty}{ids:List Nat}(h:d∉ids):E.on (E.at d g sv t) ids:=fun b hb=>by
 have:b≠d:=fun e=>h (e▸hb)
 simp[Env.at,this]
theorem HW.gQ{gl:Ctx}{E E':Env}{w w':World}{hp:List (Option ah)}(h:HW gl E w hp)(k:bh E w E' w'):qK gl E' w':=
 ⟨fun x hx=>by
  obtain⟨h1,cs,h2,h3⟩:=h.gl.1 x hx
  exact⟨k.S _ h1,cs,h2.mono (k.w _ h1),Rel.mono k.w k.S h3⟩,gl.mono k.w k.S h.gl.2⟩
theorem HW.fresh{gl:Ctx}{E:Env}{w w':World}{hp:List (Option ah)}(h:HW gl E w hp){d:Nat}{g:Option Nat}{sv:Value}{t:Ty}{k:ah}
 (hsz:w.heap.size≤w'.heap.size) (hold:∀i,i<w.heap.size→w'.heap[i]? =w.heap[i]?)
 (hd:∀k',hp[d]? ≠some (some k')) (hids:∀(b:Nat)(k':ah),hp[b]? =some (some k')→d∉k'.ids) (hg:∀i,g=some i→w.heap.size≤i) (hb:RB (E.at d g sv t) w' d k):HW gl (E.at d g sv t) w' (hp.set d (some k)):=by
 have kp:bh E w (E.at d g sv t) w':=⟨fun b hb=>hold b (h.slt b hb),fun b hb=>hb⟩
 have old:∀(b:Nat)(k':ah),b≠d→(hp.set d (some k))[b]? =some (some k')→hp[b]? =some (some k'):=by
  intro b k' hne hb
  rw[List.getElem?_set,if_neg (fun e=>hne e.symm)] at hb
  exact hb
 have hEg:∀b,b≠d→(E.at d g sv t).g b=E.g b:=fun b hne=>by simp[Env.at,hne]
 have hEd:(E.at d g sv t).g d=g:=by simp[Env.at]
 have below:∀b k' i,b≠d→hp[b]? =some (some k')→E.g b=some i→i<w.heap.size:=by
  intro b k' i hne hb hgi
  have:=h.bp b k' hb
  cases k' with
  |var t v=>obtain⟨_,_,g,c,e,h3,h4,_⟩:=this;rw[hgi] at h3;cases h3;exact(Array.getElem?_eq_some_iff.1 h4).1
  |
   row e bs t xs=>
   obtain⟨_,_,_,_,a,cap,_,_,h7⟩:=this
   rcases h7 with⟨_,h8,_⟩|⟨g,c,h7,_,h9,_⟩
   ·rw[hgi] at h8;cases h8
   ·rw[hgi] at h7;cases h7;exact(Array.getElem?_eq_some_iff.1 h9).1
  |map kt vt es=>obtain⟨_,_,g,en,clock,h2,h3,_⟩:=this;rw[hgi] at h2;cases h2;exact(Array.getElem?_eq_some_iff.1 h3).1
  |lp l r=>obtain⟨h2,h3⟩:=this;rw[hgi] at h2;cases h2;exact(Array.getElem?_eq_some_iff.1 h3).1
  |uP=>obtain⟨g,h2,h3⟩:=this;rw[hgi] at h2;cases h2;exact(Array.getElem?_eq_some_iff.1 h3).1
  |tv g t v=>obtain⟨h2,_,_,c,e,h3,_⟩:=this;rw[hgi] at h2;cases h2;exact(Array.getElem?_eq_some_iff.1 h3).1
 refine⟨?_,?_,?_,?_,h.gQ kp⟩
 ·intro b k' hbk
  by_cases e:b=d
  ·subst e
   rw[List.getElem?_set] at hbk
   simp only[if_true] at hbk
   split at hbk
   ·cases hbk;exact hb
   ·cases hbk
  ·have hbk':=old b k' e hbk
   refine RB.mono kp (Env.vP ?_) ?_ (h.bp b k' hbk')
   ·intro hm
    cases hm with
    |head=>exact e rfl
    |tail _ hm=>exact hids b k' hbk' hm
   ·intro i hi
    exact hold i (below b k' i e hbk' hi)
 ·intro b b' k1 k2 i hb hb' h1 h2
  by_cases e:b=d<;>by_cases e':b'=d
  ·rw[e,e']
  ·subst e
   rw[hEd] at h1
   rw[hEg b' e'] at h2
   have:=below b' k2 i e' (old b' k2 e' hb') h2
   have:=hg i h1
   omega
  ·subst e'
   rw[hEd] at h2
   rw[hEg b e] at h1
   have:=below b k1 i e (old b k1 e hb) h1
   have:=hg i h2
   omega
  ·rw[hEg b e] at h1;rw[hEg b' e'] at h2
   exact h.sep b b' k1 k2 i (old b k1 e hb) (old b' k2 e' hb') h1 h2
 ·intro b k1 i hb h1 hs
  by_cases e:b=d
  ·subst e
   rw[hEd] at h1
   have:=hg i h1
   have:=h.slt i hs
   omega
  ·rw[hEg b e] at h1
   exact h.eV b k1 i (old b k1 e hb) h1 hs
 ·intro i hs;exact Nat.lt_of_lt_of_le (h.slt i hs) hsz
theorem Own.below{gl:Ctx}{E:Env}{w:World}{hp:List (Option ah)}(h:HW gl E w hp){i:Nat}(ho:Own hp E i):i<w.heap.size:=by
 obtain⟨b,k',hb,hgi⟩:=ho
 have:=h.bp b k' hb
 cases k' with
 |var t v=>obtain⟨_,_,g,c,e,h3,h4,_⟩:=this;rw[hgi] at h3;cases h3;exact(Array.getElem?_eq_some_iff.1 h4).1
 |
  row e bs t xs=>
  obtain⟨_,_,_,_,a,cap,_,_,h7⟩:=this
  rcases h7 with⟨_,h8,_⟩|⟨g,c,h7,_,h9,_⟩
  ·rw[hgi] at h8;cases h8
  ·rw[hgi] at h7;cases h7;exact(Array.getElem?_eq_some_iff.1 h9).1
 |map kt vt es=>obtain⟨_,_,g,en,clock,h2,h3,_⟩:=this;rw[hgi] at h2;cases h2;exact(Array.getElem?_eq_some_iff.1 h3).1
 |lp l r=>obtain⟨h2,h3⟩:=this;rw[hgi] at h2;cases h2;exact(Array.getElem?_eq_some_iff.1 h3).1
 |uP=>obtain⟨g,h2,h3⟩:=this;rw[hgi] at h2;cases h2;exact(Array.getElem?_eq_some_iff.1 h3).1
 |tv g t v=>obtain⟨h2,_,_,c,e,h3,_⟩:=this;rw[hgi] at h2;cases h2;exact(Array.getElem?_eq_some_iff.1 h3).1
theorem HW.write{gl:Ctx}{E:Env}{w w':World}{hp:List (Option ah)}(h:HW gl E w hp){b:Nat}{k k':ah}(hb:hp[b]? =some (some k))(hsz:w'.heap.size=w.heap.size)
 (hold:∀i,E.g b≠some i→w'.heap[i]? =w.heap[i]?) (hk:RB E w' b k'):HW gl E w' (hp.set b (some k')):=by
 have kp:bh E w E w':=⟨fun i hi=>hold i (fun e=>h.eV b k i hb e hi),fun b hb=>hb⟩
 have old:∀(b':Nat)(k2:ah),b'≠b→(hp.set b (some k'))[b']? =some (some k2)→hp[b']? =some (some k2):=by
  intro b' k2 hne hb'
  rw[List.getElem?_set,if_neg (fun e=>hne e.symm)] at hb'
  exact hb'
 have any:∀(b':Nat)(k2:ah),(hp.set b (some k'))[b']? =some (some k2)→∃k3:ah,hp[b']? =some (some k3):=by
  intro b' k2 hb'
  by_cases e:b'=b
  ·subst e;exact⟨k,hb⟩
  ·exact⟨k2,old b' k2 e hb'⟩
 refine⟨?_,?_,?_,?_,h.gQ kp⟩
 ·intro b' k2 hb'
  by_cases e:b'=b
  ·subst e
   rw[List.getElem?_set] at hb'
   simp only[if_true] at hb'
   split at hb'
   ·cases hb';exact hk
   ·cases hb'
  ·have hb2:=old b' k2 e hb'
   refine RB.mono kp (fun x _=>⟨rfl,rfl,rfl⟩) ?_ (h.bp b' k2 hb2)
   intro i hi
   exact hold i (fun e'=>e (h.sep b' b k2 k i hb2 hb hi e'))
 ·intro b1 b2 k1 k2 i h1 h2 g1 g2
  obtain⟨k3,h3⟩:=any b1 k1 h1
  obtain⟨k4,h4⟩:=any b2 k2 h2
  exact h.sep b1 b2 k3 k4 i h3 h4 g1 g2
 ·intro b1 k1 i h1 g1
  obtain⟨k3,h3⟩:=any b1 k1 h1
  exact h.eV b1 k3 i h3 g1
 ·intro i hi;rw[hsz];exact h.slt i hi
theorem Own.set{hp:List (Option ah)}{E:Env}{b:Nat}{k k':ah}(hb:hp[b]? =some (some k)){i:Nat}(h:Own (hp.set b (some k')) E i):Own hp E i:=by
 obtain⟨b',k2,hb',hg⟩:=h
 by_cases e:b'=b
 ·subst e;exact⟨b',k,hb,hg⟩
 ·rw[List.getElem?_set,if_neg (fun e'=>e e'.symm)] at hb'
  exact⟨b',k2,hb',hg⟩
end Go.Abs
namespace Go.Abs
structure TD where
 ty:Ty
 e:TypeId:=0
 e2:TypeId:=0
abbrev bF:=List (Option TD)
def bF.at(G:bF)(t:TypeId):Option TD:=(G[t]?).join
def dG.zero:dG→AV
 | .ptr=>.gV
 | .map=>.lA
 | .func=>.gW
 | .iface=>.nn
 | .sl=>.dR
def Ty.zero:Ty→AV
 | .slice _ _=>.dR
 | .pair a b=>.cons a.zero b.zero
 | .unit=>.nil
 | .av k=>dG.zero k
 |t=>.val t t.bu
def Ty.pure:Ty→Bool
 | .arr _ t=>t.pure
 | .slice _ t=>t.pure
 | .pair a b=>a.pure&&b.pure
 | .av _| .fns _=>false
 |_=>true
def BU:Value→Bool
 | .nilFunc=>true
 |_=>false
def isZero:Ty→Value→Bool
 | .int k,.int k' n=>Nat.beq (IntKind.code k) (IntKind.code k')&&decide (n=0)
 | .bool,.bool b=> !b
 | .str,.string s=>s.data.toList.isEmpty
 | .slice _ _,.slice a n c=>a.isNone&&Nat.beq n 0&&Nat.beq c 0
 | .av .ptr,.pointer a=>a.isNone
 | .av .map,.map a=>a.isNone
 | .av .func,.nilFunc=>true
 | .av .iface,.nilIface=>true
 | .av .sl,.slice a n c=>a.isNone&&Nat.beq n 0&&Nat.beq c 0
 |_,_=>false
def cO:Ty→List Value→Bool
 | .arr n t,cs=>Nat.beq cs.length (n*t.size)&&t.pure&&(List.range n).all fun i=>cO t ((cs.drop (i*t.size)).take t.size)
 | .pair a b,cs=>Nat.ble a.size cs.length&&cO a (cs.take a.size)&&cO b (cs.drop a.size)
 | .unit,cs=>cs.isEmpty
 | .fns n,cs=>Nat.beq cs.length n&&cs.all BU
 |t,[v]=>isZero t v
 |_,_=>false
theorem iU{E:Env}{w:World}{t:Ty}{v:Value}(ha:t.isAgg=false)(h:isZero t v=true):RC E w t.zero [v]∧(t.pure=true→Rel w E.S t [v] t.bu):=by
 cases t with
 |
  int k=>
  cases v<;>simp[isZero] at h
  obtain⟨h1,h2⟩:=h
  have:=IntKind.fg h1
  subst this;subst h2
  refine⟨⟨rfl,?_,?_⟩,fun _=>⟨rfl,?_,?_⟩⟩<;>(cases k<;>decide)
 |
  bool=>
  cases v<;>simp[isZero] at h
  subst h
  exact⟨rfl,fun _=>rfl⟩
 |
  str=>
  cases v with
  |
   string s=>
   simp[isZero] at h
   have:s=⟨#[]⟩:=by cases s;simp_all
   subst this
   exact⟨⟨rfl,by simp[aO,Ty.bu]⟩,fun _=>⟨rfl,by simp[aO,Ty.bu]⟩⟩
  |_=>simp[isZero] at h
 |
  slice bs t=>
  cases v with
  |
   slice a n c=>
   simp[isZero] at h
   obtain⟨⟨h1,h2⟩,h3⟩:=h
   subst h1;subst h2;subst h3
   exact⟨rfl,fun _=>⟨none,0,rfl,Nat.le_refl _,by simp[Ty.bu],by simp[Ty.bu],Or.inl rfl⟩⟩
  |_=>simp[isZero] at h
 |
  av k=>
  refine⟨?_,fun hp=>by simp[Ty.pure] at hp⟩
  cases k<;>cases v<;>simp[isZero] at h<;>first|rfl|(subst h;rfl)|(obtain⟨⟨h1,h2⟩,h3⟩:=h;subst h1;subst h2;subst h3;rfl)
 |_=>simp[Ty.isAgg] at ha
theorem aB.vQ{α:Type}{r:List Value→α→Prop}(x:α)(k:Nat):∀(n:Nat)(cs:List Value),cs.length=n*k→(∀i,i<n→r ((cs.drop (i*k)).take k) x)→aB r cs (List.replicate n x):=by
 intro n
 induction n with
 |zero=>intro cs hl _;simp at hl;simp[aB,hl]
 |
  succ n ih=>
  intro cs hl h
  rw[List.replicate_succ]
  rw[Nat.add_mul,Nat.one_mul] at hl
  refine⟨cs.take k,cs.drop k,(List.take_append_drop k cs).symm,by have:=h 0 (by omega);simpa using this,ih _ (by simp;omega) ?_⟩
  intro i hi
  have:=h (i+1) (by omega)
  rw[List.drop_drop]
  rw[Nat.add_mul,Nat.one_mul,Nat.add_comm] at this
  exact this
theorem fh{E:Env}{w:World}:∀{t:Ty}{cs:List Value},cO t cs=true→RC E w t.zero cs∧(t.pure=true→Rel w E.S t cs t.bu):=by
 intro t
 induction t with
 |
  arr n t ih=>
  intro cs h
  simp only[cO,Bool.and_eq_true,List.all_eq_true,List.mem_range] at h
  obtain⟨⟨h1,h2⟩,h3⟩:=h
  have h1':cs.length=n*t.size:=Nat.eq_of_beq_eq_true h1
  have:Rel w E.S (.arr n t) cs (Ty.bu (.arr n t)):=
   ⟨by simp[Ty.bu],aB.vQ t.bu t.size n cs h1' (fun i hi=>(ih (h3 i hi)).2 h2)⟩
  exact⟨this,fun _=>this⟩
 |
  pair a b ih1 ih2=>
  intro cs h
  simp only[cO,Bool.and_eq_true] at h
  obtain⟨⟨_,h1⟩,h2⟩:=h
  have e:=(List.take_append_drop a.size cs).symm
  refine⟨⟨_,_,e,(ih1 h1).1,(ih2 h2).1⟩,fun hp=>?_⟩
  simp only[Ty.pure,Bool.and_eq_true] at hp
  exact⟨_,_,e,(ih1 h1).2 hp.1,(ih2 h2).2 hp.2⟩
 |unit=>intro cs h;simp[cO] at h;exact⟨h,fun _=>h⟩
 |
  fns n=>
  intro cs h
  simp only[cO,Bool.and_eq_true,List.all_eq_true] at h
  have hl:=Nat.eq_of_beq_eq_true h.1
  have e:cs=(List.replicate n none).map zq:=by
   apply List.ext_getElem
   ·simp[hl]
   ·intro i h1 h2
    have:=h.2 _ (List.getElem_mem h1)
    simp only[List.getElem_map,List.getElem_replicate,zq]
    revert this
    cases cs[i]<;>simp[BU]
  have:Rel w E.S (.fns n) cs (Ty.bu (.fns n)):=⟨by simp[Ty.bu],e⟩
  exact⟨this,fun _=>this⟩
 |int k=>intro cs h;match cs,h with|[v],h=>exact iU rfl h
 |bool=>intro cs h;match cs,h with|[v],h=>exact iU rfl h
 |str=>intro cs h;match cs,h with|[v],h=>exact iU rfl h
 |slice bs t=>intro cs h;match cs,h with|[v],h=>exact iU rfl h
 |av k=>intro cs h;match cs,h with|[v],h=>exact iU rfl h
theorem Ty.nr(t:Ty):t.zero.bB t=true:=by
 induction t with
 |pair a b ih1 ih2=>simp[Ty.zero,AV.bB,ih1,ih2]
 |av k=>cases k<;>rfl
 |slice bs t=>rfl
 |unit=>rfl
 |_=>exact Ty.cA _
def aQ(G:bF):List Field→Nat→Ty→Bool
 |[],_,.unit=>true
 |f::fs,off,.pair a b=>(match G.at f.type with|some td=>Ty.same td.ty a|none=>false)&&Nat.beq f.offset off&&Nat.blt 0 a.size&&aQ G fs (off+a.size) b
 |_,_,_=>false
def aX(P:Program)(G:bF)(td:TD):TypeDesc→Bool
 | .bool=>Ty.same td.ty .bool
 | .int k=>Ty.same td.ty (.int k)
 | .string=>Ty.same td.ty .str
 | .slice e=>Ty.same td.ty (.av .sl)||Nat.beq td.e e&&(match td.ty,G.at e,P.info? e with| .slice bs t,some te,some ie=>Ty.same te.ty t&&Nat.beq ie.bytes bs&&Nat.blt 0 t.size&&Nat.blt 0 bs|_,_,_=>false)
 | .array n e=>(match td.ty,G.at e with| .fns m,some te=>Nat.beq td.e e&&Nat.beq m n&&Ty.same te.ty (.av .func)|_,_=>false)||Nat.beq td.e e&&(match td.ty,G.at e,P.info? e with| .arr m t,some te,some ie=>Ty.same te.ty t&&Nat.beq m n&&Nat.beq ie.bytes td.e2|_,_,_=>false)
 | .struct fs=>aQ G fs.toList 0 td.ty
 | .pointer _=>Ty.same td.ty (.av .ptr)
 | .map k e=>Ty.same td.ty (.av .map)&&Nat.beq td.e k&&Nat.beq td.e2 e
 | .func _ _ _=>Ty.same td.ty (.av .func)
 | .interface _=>Ty.same td.ty (.av .iface)
 |_=>false
def BV:Value→Bool
 | .agg _=>true
 |_=>false
def cd:TypeDesc→Bool
 | .struct _| .array _ _=>true
 |_=>false
def oS(P:Program)(G:bF)(t:TypeId)(td:TD):Bool:=
 match P.info? t,P.underlying t with
 |some i,some d=>Nat.beq i.size td.ty.size&&(match i.zero with|some z=>cO td.ty z.cells.toList&&(BV z==td.ty.isAgg)|none=>false)&&aX P G td d
 |_,_=>false
def qm(P:Program)(G:bF):Nat→List (Option TD)→Bool
 |_,[]=>true
 |i,none::l=>qm P G (i+1) l
 |i,some td::l=>oS P G i td&&qm P G (i+1) l
theorem nt(P:Program)(G:bF):∀(l:List (Option TD))(i:Nat),qm P G i l=true→∀j td,l[j]? =some (some td)→oS P G (i+j) td=true
 |[],_,_,j,td,h=>by simp at h
 |
  none::l,i,h,j,td,hj=>by
  cases j with
  |zero=>simp at hj
  |succ j=>have:=nt P G l (i+1) h j td (by simpa using hj);rw[show i+(j+1)=i+1+j from by omega];exact this
 |
  some x::l,i,h,j,td,hj=>by
  simp only[qm,Bool.and_eq_true] at h
  cases j with
  |zero=>simp at hj;subst hj;exact h.1
  |succ j=>have:=nt P G l (i+1) h.2 j td (by simpa using hj);rw[show i+(j+1)=i+1+j from by omega];exact this
structure aV(P:Program)(G:bF):Prop where
 oS:∀t td,G.at t=some td→oS P G t td=true
 bm:P.follows .mixedOrders=true
theorem aV.mk'{P:Program}{G:bF}(h:qm P G 0 G=true)(ho:P.follows .mixedOrders=true):aV P G:=
 ⟨fun t td ht=>by
  have:G[t]? =some (some td):=by
   unfold bF.at at ht
   cases hg:G[t]? with
   |none=>rw[hg] at ht;cases ht
   |some x=>rw[hg] at ht;simp at ht;rw[ht]
  have:=nt P G G 0 h t td this
  simpa using this,ho⟩
section
variable{P:Program} {G:bF} (T:aV P G) {t:TypeId} {td:TD} (h:G.at t=some td)
include T h
theorem aV.info:∃i d,P.info? t=some i∧P.underlying t=some d∧i.size=td.ty.size∧aX P G td d=true∧∃z,i.zero=some z∧cO td.ty z.cells.toList=true∧BV z=td.ty.isAgg:=by
 have:=T.oS t td h
 unfold Abs.oS at this
 split at this
 ·rename_i i d hi hd
  simp only[Bool.and_eq_true] at this
  obtain⟨⟨h1,h2⟩,h3⟩:=this
  split at h2
  ·rename_i z hz
   simp only[Bool.and_eq_true,beq_iff_eq] at h2
   exact⟨i,d,hi,hd,Nat.eq_of_beq_eq_true h1,h3,z,hz,h2.1,h2.2⟩
  ·cases h2
 ·cases this
theorem aV.size(w:World):(sizeOf t).run P w= .ok td.ty.size w:=by
 obtain⟨i,d,h1,_,h2,_⟩:=T.info h
 simp[sizeOf,typeInfo,h1,h2]
end
theorem cg{P:Program}{G:bF}{td:TD}{d:TypeDesc}(h:aX P G td d=true):cd d=td.ty.isAgg:=by
 cases d<;>simp only[aX] at h<;>try (first|(have:=Ty.ae h;rw[this];rfl)|cases h)
 ·rw[Bool.or_eq_true] at h
  rcases h with h|h
  ·have:=Ty.ae h;rw[this];rfl
  ·simp only[Bool.and_eq_true] at h
   obtain⟨_,h⟩:=h
   split at h
   ·rename_i h1 _ _;rw[h1];rfl
   ·cases h
 ·rw[Bool.or_eq_true] at h
  rcases h with h|h
  ·split at h
   ·rename_i h1 _;rw[h1];rfl
   ·cases h
  ·simp only[Bool.and_eq_true] at h
   obtain⟨_,h⟩:=h
   split at h
   ·rename_i h1 _ _;rw[h1];rfl
   ·cases h
 ·simp only[Bool.and_eq_true] at h
  have:=Ty.ae h.1.1;rw[this];rfl
 ·rename_i fs
  show true=_
  revert h
  generalize fs.toList=l
  intro h
  cases l with
  |nil=>cases ht:td.ty<;>rw[ht] at h<;>simp[aQ] at h;rfl
  |cons f l=>cases ht:td.ty<;>rw[ht] at h<;>simp[aQ] at h;rfl
theorem aV.isAgg{P:Program}{G:bF}(T:aV P G){t:TypeId}{td:TD}(h:G.at t=some td)(w:World):(isAgg t).run P w= .ok td.ty.isAgg w:=by
 obtain⟨i,d,_,h1,_,h2,_⟩:=T.info h
 have:=cg h2
 unfold Go.isAgg
 simp only[Sem.run_bind,underlying,run_program,Result.andThen_ok,h1,Sem.run_pure]
 cases d<;>simp[cd] at this ⊢ <;>exact this
theorem aV.zero{P:Program}{G:bF}(T:aV P G){t:TypeId}{td:TD}(h:G.at t=some td)(w:World):∃z,(zeroValue t).run P w= .ok z w∧cO td.ty z.cells.toList=true∧BV z=td.ty.isAgg:=by
 obtain⟨i,d,h1,_,_,_,z,hz,h3,h4⟩:=T.info h
 exact⟨z,by simp[zeroValue,typeInfo,h1,hz],h3,h4⟩
end Go.Abs
namespace Go.Abs
def mo:Value→AV
 | .bool b=>.val .bool b
 | .int k n=>if decide (k.min≤n)&&decide (n≤k.max) then .val (.int k) n else .bot
 | .string s=>if Nat.ble s.data.toList.length aO then .val .str s.data.toList else .bot
 | .slice none 0 0=>.dR
 | .pointer none=>.gV
 | .map none=>.lA
 | .nilFunc=>.gW
 | .nilIface=>.nn
 |_=>.bot
def nu:List BR→Nat→AV
 |[],_=>.bot
 |x::l,g=>if Nat.beq x.g g then .dJ x.t x.x else nu l g
def bI(gl:Ctx)(tm:List AV):Operand→AV
 | .tmp t=>(tm[t]?).getD .bot
 | .const v=>mo v
 | .global g=>nu gl.gl g
 | .func f=>.func (.func f) .nil .nil
theorem RV.ft{E:Env}{w:World}{x:AV}{v:Value}(h:cN E w x v):RV E w x v:=by
 cases x with
 |bot=>trivial
 |bJ l=>rcases h with⟨h,_⟩|⟨_,h⟩<;>simp[AV.isAgg,RC] at h
 |opt c a=>rcases h with⟨h,_⟩|⟨_,h⟩<;>simp[AV.isAgg,RC] at h
 |_=>exact h
def AV.plain:AV→Bool
 | .bot| .bJ _| .opt _ _=>false
 |_=>true
theorem RV.lG{E:Env}{w:World}{x:AV}{v:Value}(hp:x.plain=true)(h:RV E w x v):cN E w x v:=by
 cases x<;>first|exact h|(simp[AV.plain] at hp)
theorem RV.atom{E:Env}{w:World}{x:AV}{v:Value}(hp:x.atom=true)(h:RV E w x v):RC E w x [v]:=by
 cases x<;>first
  |(simp[AV.atom] at hp;done)
  |(
   rcases h with⟨h1,_⟩|⟨_,h2⟩
   ·simp[AV.isAgg,AV.atom] at h1 hp;(try rw[h1] at hp;simp at hp)
   ·exact h2)
theorem xc{E:Env}{w:World}(v:Value):RV E w (mo v) v:=by
 unfold mo
 split
 ·exact Or.inr ⟨rfl,rfl⟩
 ·rename_i k n
  split
  ·rename_i h
   simp at h
   exact Or.inr ⟨rfl,rfl,h.1,h.2⟩
  ·trivial
 ·rename_i s
  split
  ·rename_i h
   refine Or.inr ⟨rfl,?_,Nat.le_of_ble_eq_true h⟩
   cases s;rfl
  ·trivial
 ·exact Or.inr ⟨rfl,rfl⟩
 ·exact Or.inr ⟨rfl,rfl⟩
 ·exact Or.inr ⟨rfl,rfl⟩
 ·exact Or.inr ⟨rfl,rfl⟩
 ·exact Or.inr ⟨rfl,rfl⟩
 ·trivial
theorem zr{E:Env}{w:World}{gl:List BR}(h:∀x∈gl,E.S x.g∧∃cs,kD w ⟨x.g,0,none⟩ cs∧Rel w E.S x.t cs x.x)(g:Nat):RV E w (nu gl g) (.pointer (some ⟨g,0,none⟩)):=by
 induction gl with
 |nil=>trivial
 |
  cons x l ih=>
  unfold nu
  split
  ·rename_i hg
   have hg:=Nat.eq_of_beq_eq_true hg
   obtain⟨h1,cs,h2,h3⟩:=h x (List.mem_cons_self ..)
   subst hg
   exact Or.inr ⟨rfl,x.g,0,cs,rfl,h1,h2,h3⟩
  ·exact ih (fun y hy=>h y (List.mem_cons_of_mem _ hy))
theorem qn{gl:Ctx}{σ:St}{E:Env}{a:Act}{w:World}(h:cE gl σ E a w)(x:Operand):RV E w (bI gl σ.tm x) (a.eval x):=by
 cases x with
 |
  tmp t=>
  simp only[bI,Act.eval]
  cases hx:σ.tm[t]? with
  |none=>trivial
  |
   some y=>
   have hlt:t<a.tmps.size:=by rw[h.len];exact(List.getElem?_eq_some_iff.1 hx).1
   have:=h.tm t y hx a.tmps[t] (by simp[hlt])
   simpa[Array.getD,hlt] using this
 |const v=>exact xc v
 |global g=>exact zr h.hw.gl.1 g
 |func f=>exact Or.inr ⟨rfl, #[], #[],rfl,rfl,rfl,rfl,rfl⟩
theorem cj(k:IntKind)(n:Int):k.min≤k.wrap n∧k.wrap n≤k.max:=by
 cases k<;>simp only[IntKind.wrap,IntKind.min,IntKind.max,IntKind.bits,IntKind.signed]<;>(simp;(try split))<;>omega
theorem IntKind.range(k:IntKind):k.min≤0∧0≤k.max:=by cases k<;>decide
theorem RV.int{E:Env}{w:World}{k:IntKind}{n:Int}(h:k.min≤n∧n≤k.max):RV E w (.val (.int k) n) (.int k n):=Or.inr ⟨rfl,rfl,h.1,h.2⟩
theorem RV.bool{E:Env}{w:World}{b:Bool}:RV E w (.val .bool b) (.bool b):=Or.inr ⟨rfl,rfl⟩
theorem RV.bM{E:Env}{w:World}{k:IntKind}{n:Int}{v:Value}(h:RV E w (.val (.int k) n) v):v= .int k n∧k.min≤n∧n≤k.max:=by
 rcases h with⟨h,_⟩|⟨_,h,h2⟩
 ·simp[AV.isAgg,Ty.isAgg] at h
 ·simp at h;exact⟨h,h2⟩
theorem RV.cC{E:Env}{w:World}{b:Bool}{v:Value}(h:RV E w (.val .bool b) v):v= .bool b:=by
 rcases h with⟨h,_⟩|⟨_,h⟩
 ·simp[AV.isAgg,Ty.isAgg] at h
 ·simpa[RC,Rel] using h
theorem RV.dW{E:Env}{w:World}{s:List UInt8}{v:Value}(h:RV E w (.val .str s) v):v= .string ⟨s.toArray⟩∧s.length≤aO:=by
 rcases h with⟨h,_⟩|⟨_,h,h2⟩
 ·simp[AV.isAgg,Ty.isAgg] at h
 ·simp at h;exact⟨h,h2⟩
theorem RV.str{E:Env}{w:World}{s:List UInt8}(h:s.length≤aO):RV E w (.val .str s) (.string ⟨s.toArray⟩):=Or.inr ⟨rfl,rfl,h⟩
def an(op:BinOp)(k:IntKind)(x y:Int):Int:=
 let a:=BitVec.ofInt k.bits x
 let b:=BitVec.ofInt k.bits y
 match op with
 | .and=>k.wrap (a &&& b).toNat
 | .or=>k.wrap (a ||| b).toNat
 | .xor=>k.wrap (a ^^^ b).toNat
 |_=>k.wrap (a &&& ~~~b).toNat
def eW:List Prop→Prop
 |[]=>True
 |p::l=>p∧eW l
def qo(op:BinOp)(k:IntKind)(a:Int)(k':IntKind)(b:Int):Option (AV×List Prop):=
 match op with
 | .shl=>some (.val (.int k) (k.wrap (a*2^(min b.toNat k.bits))),[0≤b])
 | .shr=>some (.val (.int k) (a.fdiv (2^(min b.toNat k.bits))),[0≤b])
 |
  _=>
  if Nat.beq (IntKind.code k) (IntKind.code k') then
   match op with
   | .add=>some (.val (.int k) (k.wrap (a+b)),[])
   | .sub=>some (.val (.int k) (k.wrap (a -b)),[])
   | .mul=>some (.val (.int k) (k.wrap (a*b)),[])
   | .quo=>some (.val (.int k) (k.wrap (a.tdiv b)),[b≠0])
   | .rem=>some (.val (.int k) (a.tmod b),[b≠0])
   | .and=>some (.val (.int k) (an .and k a b),[])
   | .or=>some (.val (.int k) (an .or k a b),[])
   | .xor=>some (.val (.int k) (an .xor k a b),[])
   | .andNot=>some (.val (.int k) (an .andNot k a b),[])
   | .eql=>some (.val .bool (decide (a=b)),[])
   | .neq=>some (.val .bool (!decide (a=b)),[])
   | .lss=>some (.val .bool (decide (a<b)),[])
   | .leq=>some (.val .bool (decide (a≤b)),[])
   | .gtr=>some (.val .bool (decide (b<a)),[])
   | .geq=>some (.val .bool (decide (b≤a)),[])
   |_=>none
  else none
def nK(P:Program)(t:TypeId)(op:BinOp):AV→AV→Option (AV×List Prop)
 | .val (.int k) a,.val (.int k') b=>qo op k a k' b
 |
  .val .bool a,.val .bool b=>
  match op with
  | .eql=>some (.val .bool (a==b),[P.underlying t=some .bool])
  | .neq=>some (.val .bool (!(a==b)),[P.underlying t=some .bool])
  |_=>none
 |
  .val .str a,.val .str b=>
  match op with
  | .add=>some (.val .str (a++b),[a.length+b.length≤aO])
  | .eql=>some (.val .bool (decide (a=b)),[])
  | .neq=>some (.val .bool (!decide (a=b)),[])
  | .lss=>some (.val .bool (Op.bytesLess a b),[])
  | .leq=>some (.val .bool (Op.bytesLess a b||decide (a=b)),[])
  | .gtr=>some (.val .bool (!(Op.bytesLess a b||decide (a=b))),[])
  | .geq=>some (.val .bool (!Op.bytesLess a b),[])
  |_=>none
 |_,_=>none
theorem dX{a b:Int}(ha:0≤a)(hb:0≤b):a % b≤a:=by
 rcases Int.lt_or_eq_of_le hb with h|h
 ·have:=Int.emod_add_mul_ediv a b
  have h1:0≤a / b:=Int.ediv_nonneg ha hb
  have h2:0≤b*(a / b):=Int.mul_nonneg hb h1
  omega
 ·subst h;simp
theorem xd(k:IntKind)(a b:Int)(ha:k.min≤a∧a≤k.max):k.min≤a.tmod b∧a.tmod b≤k.max:=by
 have hr:=IntKind.range k
 rcases Int.le_total 0 a with h|h
 ·have h1:=Int.tmod_nonneg b h
  have h2:a.tmod b≤a:=by
   rcases Int.le_total 0 b with hb|hb
   ·rw[Int.tmod_eq_emod_of_nonneg h];exact dX h hb
   ·have:a.tmod b=a.tmod (-b):=by rw[Int.tmod_neg]
    rw[this,Int.tmod_eq_emod_of_nonneg h];exact dX h (by omega)
  omega
 ·have h1:(-a).tmod b= -(a.tmod b):=Int.neg_tmod ..
  have h2:0≤-a:=by omega
  have h3:=Int.tmod_nonneg b h2
  have h4:(-a).tmod b≤-a:=by
   rcases Int.le_total 0 b with hb|hb
   ·rw[Int.tmod_eq_emod_of_nonneg h2];exact dX h2 hb
   ·have:(-a).tmod b=(-a).tmod (-b):=by rw[Int.tmod_neg]
    rw[this,Int.tmod_eq_emod_of_nonneg h2];exact dX h2 (by omega)
  omega
theorem xe(k:IntKind)(a:Int)(n:Nat)(ha:k.min≤a∧a≤k.max):k.min≤a.fdiv (2^n)∧a.fdiv (2^n)≤k.max:=by
 have hr:=IntKind.range k
 have hp:(1:Int)≤2^n:=by
  have:=Int.pow_pos (n:=2) (m:=n) (by omega)
  omega
 rw[Int.fdiv_eq_ediv_of_nonneg _ (by omega)]
 rcases Int.le_total 0 a with h|h
 ·have h1:0≤a / 2^n:=Int.ediv_nonneg h (by omega)
  have h2:a / 2^n≤a:=Int.ediv_le_self _ h
  omega
 ·have h1:a / 2^n≤0:=by
   have:=Int.ediv_le_ediv (c:=2^n) (by omega) h
   simpa using this
  have h2:a≤a / 2^n:=by
   rw[Int.le_ediv_iff_mul_le (by omega)]
   have:=Int.mul_le_mul_of_nonpos_left h hp
   omega
  omega
theorem vR{P:Program}{E:Env}{w:World}{op:BinOp}{t:TypeId}{k k':IntKind}{a b:Int}{r:AV}{vc:List Prop}(ha:k.min≤a∧a≤k.max)(h:qo op k a k' b=some (r,vc))(hvc:eW vc):
 ∃v,(binOp op t (.int k a) (.int k' b)).run P w= .ok v w∧RV E w r v:=by
 unfold qo at h
 split at h
 ·cases h
  exact⟨_,by simp[binOp,Op.shift,show¬b<0 from by have:=hvc.1;omega],RV.int (cj k _)⟩
 ·cases h
  exact⟨_,by simp[binOp,Op.shift,show¬b<0 from by have:=hvc.1;omega],RV.int (xe k _ _ ha)⟩
 ·rename_i h1 h2
  split at h
  ·rename_i hk
   have:=IntKind.fg (Nat.eq_of_beq_eq_true hk)
   subst this
   split at h<;>cases h
   ·exact⟨_,by simp[binOp,Op.intArith],RV.int (cj k _)⟩
   ·exact⟨_,by simp[binOp,Op.intArith],RV.int (cj k _)⟩
   ·exact⟨_,by simp[binOp,Op.intArith],RV.int (cj k _)⟩
   ·exact⟨_,by simp[binOp,Op.intDiv,show b≠0 from hvc.1],RV.int (cj k _)⟩
   ·exact⟨_,by simp[binOp,Op.intDiv,show b≠0 from hvc.1],RV.int (xd k _ _ ha)⟩
   ·exact⟨.int k (an .and k a b),by simp[binOp,Op.intBits,an],RV.int (cj k _)⟩
   ·exact⟨.int k (an .or k a b),by simp[binOp,Op.intBits,an],RV.int (cj k _)⟩
   ·exact⟨.int k (an .xor k a b),by simp[binOp,Op.intBits,an],RV.int (cj k _)⟩
   ·exact⟨.int k (an .andNot k a b),by simp[binOp,Op.intBits,an],RV.int (cj k _)⟩
   ·exact⟨_,by simp[binOp,Op.intCmp];rfl,RV.bool⟩
   ·exact⟨_,by simp[binOp,Op.intCmp];rfl,RV.bool⟩
   ·exact⟨_,by simp[binOp,Op.intCmp],RV.bool⟩
   ·exact⟨_,by simp[binOp,Op.intCmp],RV.bool⟩
   ·exact⟨_,by simp[binOp,Op.intCmp],RV.bool⟩
   ·exact⟨_,by simp[binOp,Op.intCmp],RV.bool⟩
  ·cases h
theorem pQ{P:Program}{E:Env}{w:World}{op:BinOp}{t:TypeId}{x y:AV}{vx vy:Value}{r:AV}{vc:List Prop}(hx:RV E w x vx)(hy:RV E w y vy)(h:nK P t op x y=some (r,vc))(hvc:eW vc):
 ∃v,(binOp op t vx vy).run P w= .ok v w∧RV E w r v:=by
 unfold nK at h
 split at h
 ·obtain⟨rfl,h1⟩:=RV.bM hx
  obtain⟨rfl,h2⟩:=RV.bM hy
  exact vR h1 h hvc
 ·have:=RV.cC hx;subst this
  have:=RV.cC hy;subst this
  split at h
  ·cases h
   have hb:=hvc.1
   exact⟨_,by simp[binOp,run_equal_bool w t _ _ hb],RV.bool⟩
  ·cases h
   have hb:=hvc.1
   exact⟨_,by simp[binOp,run_equal_bool w t _ _ hb],RV.bool⟩
  ·cases h
 ·obtain⟨rfl,h1⟩:=RV.dW hx
  obtain⟨rfl,h2⟩:=RV.dW hy
  have beq:∀(a b:List UInt8),(a==b)=decide (a=b):=fun a b=>by
   by_cases h:a=b
   ·subst h;simp
   ·simp[h]
  split at h<;>cases h
  ·rename_i a b _
   have hb:List.length a+List.length b≤aO:=hvc.1
   refine⟨.string ⟨(List.append a b).toArray⟩,?_,RV.str (by show(List.append a b).length≤aO;rw[List.append_eq,List.length_append];exact hb)⟩
   have sz:∀l:List UInt8,(ByteArray.mk l.toArray).size=l.length:=fun l=>by show l.toArray.size=_;simp
   have hmax:IntKind.i64.max=9223372036854775807:=by decide
   have hn:¬(((ByteArray.size ⟨List.toArray a⟩+ByteArray.size ⟨List.toArray b⟩:Nat):Int)>IntKind.i64.max):=by
    rw[sz,sz,hmax];unfold aO at hb;omega
   have happ:(⟨List.toArray a⟩:ByteArray)++⟨List.toArray b⟩=⟨(List.append a b).toArray⟩:=by
    apply ByteArray.ext
    simp
   simp only[binOp,Op.stringOp,if_neg hn,Sem.run_pure,happ]
  all_goals(refine⟨_,?_,RV.bool⟩;simp[binOp,Op.stringOp,beq])
 ·cases h
end Go.Abs
namespace Go.Abs
def gR:ah→Ty
 | .var t _=>t
 | .row _ _ t xs=>.arr xs.length t
 |_=>.unit
def ah.mem:ah→Bool
 | .var _ _| .row _ _ _ _=>true
 |_=>false
def j6:ah→Path→Option AV
 | .var _ v,p=>v.get p
 | .row _ _ t xs,.idx i::p=>dx (.arr xs.length t) xs (.idx i::p)
 |_,_=>none
theorem RB.bt{E:Env}{w:World}{b:Nat}{k:ah}(h:RB E w b k)(hm:k.mem=true):E.bt b=gR k:=by
 cases k with
 |var t v=>exact h.1
 |row e bs t xs=>exact h.1
 |_=>cases hm
theorem kD.of_heap{w:World}{g:Nat}{c:Array Value}{e:TypeId}{fr:Nat×Nat}(h:w.heap[g]? =some (.cells c e fr))(o n:Nat):kD w ⟨g,o,none⟩ ((c.toList.drop o).take n):=by
 intro j v hj
 have e1:((⟨g,o,none⟩:Addr).add j)=⟨g,o+j,none⟩:=by unfold Addr.add;split<;>simp_all
 rw[e1]
 simp only[World.cell?,h]
 rw[List.getElem?_take] at hj
 split at hj
 ·rw[List.getElem?_drop] at hj
  simpa using hj
 ·cases hj
theorem kD.sub{w:World}{g o:Nat}{cs:List Value}(h:kD w ⟨g,o,none⟩ cs)(k n:Nat):kD w ⟨g,o+k,none⟩ ((cs.drop k).take n):=by
 intro j v hj
 have e1:∀o,((⟨g,o,none⟩:Addr).add j)=⟨g,o+j,none⟩:=by intro o;unfold Addr.add;split<;>simp_all
 have e2:((⟨g,o,none⟩:Addr).add (k+j))=⟨g,o+(k+j),none⟩:=by unfold Addr.add;split<;>simp_all
 rw[e1]
 rw[List.getElem?_take] at hj
 split at hj
 ·rw[List.getElem?_drop] at hj
  have:=h (k+j) v hj
  rw[e2] at this
  rw[Nat.add_assoc];exact this
 ·cases hj
theorem mq{E:Env}{w:World}{b:Nat}{k:ah}{p:Path}{u:AV}(h:RB E w b k)(hv:(E.bt b).valid p)(hr:j6 k p=some u):
 ∃g s cs,E.g b=some g∧(E.bt b).sub p=some s∧u.bB s=true∧kD w ⟨g,(E.bt b).off p,none⟩ cs∧RC E w u cs:=by
 cases k with
 |
  var t v=>
  obtain⟨h1,h2,g,c,e,h3,h4,h5⟩:=h
  rw[h1] at hv ⊢
  obtain⟨s,e1,e2,e3,e4⟩:=AV.ql h5 h2 hv hr
  exact⟨g,s,_,h3,e1,e2,kD.of_heap h4 _ _,e4⟩
 |
  row e bs t xs=>
  obtain⟨h1,h2,h3,h4,a,cap,h5,h6,h7⟩:=h
  rw[h1] at hv ⊢
  cases p with
  |nil=>simp[j6] at hr
  |
   cons s p=>
   cases s with
   |fq k=>simp[j6] at hr
   |
    idx i=>
    have hi:i<xs.length:=hv.1
    rcases h7 with⟨_,_,h9⟩|⟨g,c,h7,h8,h9,h10,h11,h12⟩
    ·subst h9;simp at hi
    ·have hR:Rel w E.S (.arr xs.length t) (c.toList.take (xs.length*t.size)) xs:=⟨rfl,h12⟩
     obtain⟨s,e1,e2,e3,e4⟩:=nq hR hv hr
     refine⟨g,s,_,h7,e1,e2,?_,e4⟩
     have hlen:xs.length*t.size≤c.toList.length:=by
      rw[show c.toList.length=c.size from Array.length_toList,h10];exact Nat.mul_le_mul_right _ h11
     simp only[List.length_take] at e3
     rw[List.drop_take,List.take_take,Nat.min_eq_left (by omega)]
     exact kD.of_heap h9 _ _
 |_=>simp[j6] at hr
theorem iV{P:Program}{G:bF}(T:aV P G){t:TypeId}{td:TD}(ht:G.at t=some td){E:Env}{w:World}{a:Addr}{cs:List Value}{u:AV}(hr:kD w a cs)(hc:RC E w u cs)(hu:u.bB td.ty=true):
 ∃v,(Instr.loadAt t (.pointer (some a))).run P w= .ok v w∧RV E w u v:=by
 have hl:=RC.len hc
 have hs:=AV.eO hu
 have ha:=AV.lB hu
 have hcells:=run_loadCells_list (P:=P) w a cs hr
 by_cases hagg:td.ty.isAgg=true
 ·refine⟨.agg cs.toArray,?_,RV.ft (Or.inl ⟨by rw[ha];exact hagg,cs.toArray,rfl,by simpa using hc⟩)⟩
  have:cs.length=td.ty.size:=by omega
  simp[Instr.loadAt,Instr.sureAddr,loadVar,T.isAgg ht,T.size ht,hagg,←this,hcells]
 ·have hagg':td.ty.isAgg=false:=by simpa using hagg
  have h1:td.ty.size=1:=by cases h:td.ty<;>rw[h] at hagg'<;>simp[Ty.isAgg] at hagg'<;>rfl
  obtain⟨v,rfl⟩:∃v,cs= [v]:=by
   match cs,hl with
   |[v],_=>exact⟨v,rfl⟩
   |[],hl=>simp at hl;omega
   |_::_::_,hl=>simp at hl;omega
  have h0:w.cell? a=some v:=by
   have:=hr 0 v rfl
   simpa[Addr.add] using this
  exact⟨v,by simp[Instr.loadAt,Instr.sureAddr,loadVar,T.isAgg ht,hagg',h0],RV.ft (Or.inr ⟨by rw[ha];exact hagg',hc⟩)⟩
def du(G:bF)(hb:Nat→Option ah)(t:TypeId):AV→Option AV
 |
  .ptr b p=>match G.at t,hb b with
  |
   some td,some k=>match j6 k p with
   |some u=>if u.bB td.ty then some u else none
   |none=>none
  |_,_=>none
 |
  .dJ u x=>match G.at t with
  |some td=>if Ty.same u td.ty then some (.val u x) else none
  |none=>none
 |_=>none
def HB(hb:Nat→Option ah)(hp:List (Option ah)):Prop:=∀b k,hb b=some k→hp[b]? =some (some k)
theorem gC{P:Program}{G:bF}(T:aV P G){gl:Ctx}{E:Env}{w:World}{hp:List (Option ah)}(hw:HW gl E w hp){hb:Nat→Option ah}(hB:HB hb hp){t:TypeId}{x u:AV}{vx:Value}(hx:RV E w x vx)(h:du G hb t x=some u):
 ∃v,(Instr.loadAt t vx).run P w= .ok v w∧RV E w u v:=by
 unfold du at h
 split at h
 ·rename_i b p
  split at h
  ·rename_i td k ht hk
   split at h
   ·rename_i y hy
    split at h
    ·rename_i hc
     cases h
     have hx:=RV.atom rfl hx
     obtain⟨g,hg,e,hv⟩:=hx
     simp at e;subst e
     obtain⟨g',s,cs,h1,h2,h3,h4,h5⟩:=mq (hw.bp b k (hB b k hk)) hv hy
     rw[hg] at h1;cases h1
     exact iV T ht h4 h5 hc
    ·cases h
   ·cases h
  ·cases h
 ·rename_i ty x
  split at h
  ·rename_i td ht
   split at h
   ·rename_i hc
    cases h
    have hx:=RV.atom rfl hx
    obtain⟨b,o,cs,e,h1,h2,h3⟩:=hx
    simp at e;subst e
    exact iV T ht h2 (u:=.val ty x) h3 hc
   ·cases h
  ·cases h
 ·cases h
theorem Ty.lC:∀{t s:Ty}{p q:Path},t.sub p=some s→t.sub (p++q)=s.sub q∧t.off (p++q)=t.off p+s.off q∧(t.valid p→s.valid q→t.valid (p++q)):=by
 intro t
 have base:∀{t s:Ty}{q:Path},t.sub []=some s→t.sub ([]++q)=s.sub q∧t.off ([]++q)=t.off []+s.off q∧(t.valid []→s.valid q→t.valid ([]++q)):=by
  intro t s q h
  have:t=s:=by cases t<;>simpa[Ty.sub] using h
  subst this
  exact⟨rfl,by cases t<;>simp[Ty.off],fun _ h=>h⟩
 induction t with
 |
  pair a b ih1 ih2=>
  intro s p q h
  cases p with
  |nil=>exact base h
  |
   cons x p=>
   cases x with
   |
    fq k=>
    cases k with
    |
     zero=>
     obtain⟨h1,h2,h3⟩:=ih1 (q:=q) h
     exact⟨h1,h2,h3⟩
    |
     succ k=>
     obtain⟨h1,h2,h3⟩:=ih2 (q:=q) (p:=.fq k::p) h
     refine⟨h1,?_,h3⟩
     simp only[List.cons_append,Ty.off] at h2 ⊢
     rw[h2];omega
   |idx i=>simp[Ty.sub] at h
 |
  arr n t ih=>
  intro s p q h
  cases p with
  |nil=>exact base h
  |
   cons x p=>
   cases x with
   |fq k=>simp[Ty.sub] at h
   |
    idx i=>
    obtain⟨h1,h2,h3⟩:=ih (q:=q) h
    refine⟨h1,?_,fun⟨hi,hv⟩ hq=>⟨hi,h3 hv hq⟩⟩
    simp only[List.cons_append,Ty.off]
    rw[h2];omega
 |
  _=>
  intro s p q h
  cases p with
  |nil=>exact base h
  |cons x p=>simp[Ty.sub] at h
theorem jC{G:bF}:∀{fs:List Field}{o:Nat}{t:Ty}{i:Nat}{s:Ty},aQ G fs o t=true→t.sub [.fq i]=some s→
 ∃f td,fs[i]? =some f∧G.at f.type=some td∧td.ty=s∧f.offset=o+t.off [.fq i]∧0<s.size∧t.valid [.fq i]
 |
  [],o,t,i,s,h,hs=>by
  cases t<;>simp[aQ] at h
  simp[Ty.sub] at hs
 |
  f::fs,o,t,i,s,h,hs=>by
  cases t with
  |
   pair a b=>
   simp only[aQ,Bool.and_eq_true] at h
   obtain⟨⟨⟨h1,h2⟩,h3⟩,h4⟩:=h
   cases i with
   |
    zero=>
    split at h1
    ·rename_i td htd
     have:a=s:=by
      simp only[Ty.sub] at hs
      cases hs;rfl
     subst this
     have ho:a.off []=0:=by cases a<;>rfl
     refine⟨f,td,rfl,htd,Ty.ae h1,?_,by simp[Nat.blt] at h3;omega,?_⟩
     ·simp only[Ty.off,ho];exact Nat.eq_of_beq_eq_true h2
     ·simp only[Ty.valid]
    ·cases h1
   |
    succ i=>
    obtain⟨f',td,e1,e2,e3,e4,e5,e6⟩:=jC h4 (i:=i) hs
    refine⟨f',td,by simpa using e1,e2,e3,?_,e5,e6⟩
    simp only[Ty.off];omega
  |_=>simp[aQ] at h
theorem aV.struct{P:Program}{G:bF}(T:aV P G){t:TypeId}{td:TD}(h:G.at t=some td){i:Nat}{s:Ty}(hs:td.ty.sub [.fq i]=some s):
 ∃fs f tf,P.underlying t=some (.struct fs)∧fs[i]? =some f∧G.at f.type=some tf∧tf.ty=s∧f.offset=td.ty.off [.fq i]∧0<s.size∧td.ty.valid [.fq i]:=by
 obtain⟨ii,d,_,h1,_,h2,_⟩:=T.info h
 have hagg:=cg h2
 cases hd:d with
 |
  struct fs=>
  subst hd
  obtain⟨f,tf,e1,e2,e3,e4,e5,e6⟩:=jC (fs:=fs.toList) (o:=0) h2 hs
  exact⟨fs,f,tf,h1,by simpa using e1,e2,e3,by omega,e5,e6⟩
 |
  array n e=>
  subst hd
  simp only[aX] at h2
  rw[Bool.or_eq_true] at h2
  rcases h2 with h2|h2
  ·split at h2
   ·rename_i e1 _;rw[e1] at hs;simp[Ty.sub] at hs
   ·cases h2
  simp only[Bool.and_eq_true] at h2
  obtain⟨_,h2⟩:=h2
  split at h2
  ·rename_i e1 _ _;rw[e1] at hs;simp[Ty.sub] at hs
  ·cases h2
 |
  _=>
  subst hd
  simp only[cd] at hagg
  cases ht:td.ty<;>rw[ht] at hagg hs<;>simp[Ty.isAgg] at hagg<;>simp[Ty.sub] at hs
theorem nO{P:Program}{G:bF}(T:aV P G){t:TypeId}{td:TD}(h:G.at t=some td){i:Nat}{s:Ty}(hs:td.ty.sub [.fq i]=some s)(w:World)(g o:Nat):
 (Instr.fieldAt t (.pointer (some ⟨g,o,none⟩)) i).run P w= .ok (.pointer (some ⟨g,o+td.ty.off [.fq i],none⟩)) w:=by
 obtain⟨fs,f,tf,h1,h2,h3,h4,h5,h6,_⟩:=T.struct h hs
 have hsz:=T.size h3 w
 rw[h4] at hsz
 have hne:¬s.size=0:=by omega
 have ha:((⟨g,o,none⟩:Addr).add f.offset)=⟨g,o+td.ty.off [.fq i],none⟩:=by
  rw[h5];unfold Addr.add;split<;>simp_all
 simp[Instr.fieldAt,underlying,h1,h2,Instr.sureAddr,fieldPlace,hsz,hne,ha]
def dv(G:bF)(hb:Nat→Option ah)(t:TypeId)(i:Nat):AV→Option AV
 |
  .ptr b p=>match G.at t,hb b with
  |
   some td,some k=>match(gR k).sub p,td.ty.sub [.fq i] with
   |some u,some _=>if Ty.same u td.ty then some (.ptr b (p++[.fq i])) else none
   |_,_=>none
  |_,_=>none
 |
  .dJ u x=>match G.at t with
  |
   some td=>match td.ty.sub [.fq i],dx u x [.fq i] with
   |some _,some (.val v y)=>if Ty.same u td.ty then some (.dJ v y) else none
   |_,_=>none
  |none=>none
 |_=>none
theorem nv{k:ah}{p:Path}{q:PS}{u:Ty}{s:Ty}(h:(gR k).sub p=some u)(hs:u.sub [q]=some s):k.mem=true:=by
 cases k with
 |var t v=>rfl
 |row e bs t xs=>rfl
 |
  _=>cases p with
  |nil=>simp[gR,Ty.sub] at h;subst h;simp[Ty.sub] at hs
  |cons a p=>simp[gR,Ty.sub] at h
theorem gM{P:Program}{G:bF}(T:aV P G){gl:Ctx}{E:Env}{w:World}{hp:List (Option ah)}(hw:HW gl E w hp){hb:Nat→Option ah}(hB:HB hb hp){t:TypeId}{i:Nat}{x u:AV}{vx:Value}(hx:RV E w x vx)(h:dv G hb t i x=some u):
 ∃v,(Instr.fieldAt t vx i).run P w= .ok v w∧RV E w u v:=by
 unfold dv at h
 split at h
 ·rename_i b p
  split at h
  ·rename_i td k ht hk
   split at h
   ·rename_i u' s hu hs
    split at h
    ·rename_i hsame
     cases h
     have:=Ty.ae hsame;subst this
     obtain⟨g,hg,e,hv⟩:=RV.atom rfl hx
     simp at e;subst e
     have hbt:=RB.bt (hw.bp b k (hB b k hk)) (nv hu hs)
     rw[←hbt] at hu
     obtain⟨_,h2,h3⟩:=Ty.lC (q:=[.fq i]) hu
     obtain⟨_,_,_,_,_,_,_,_,_,hval⟩:=T.struct ht hs
     exact⟨_,nO T ht hs w g _,RV.ft (Or.inr ⟨rfl,g,hg,by rw[h2],h3 hv hval⟩)⟩
    ·cases h
   ·cases h
  ·cases h
 ·rename_i ty y
  split at h
  ·rename_i td ht
   split at h
   ·rename_i s v' y' hs hg
    split at h
    ·rename_i hsame
     cases h
     have:=Ty.ae hsame;subst this
     obtain⟨b,o,cs,e,h1,h2,h3⟩:=RV.atom rfl hx
     simp at e;subst e
     obtain⟨_,_,_,_,_,_,_,_,_,hval⟩:=T.struct ht hs
     obtain⟨s',e1,e2,e3,e4⟩:=nq (E:=E) h3 hval hg
     exact⟨_,nO T ht hs w b o,RV.ft (Or.inr ⟨rfl,b,_,_,rfl,h1,h2.sub _ _,e4⟩)⟩
    ·cases h
   ·cases h
  ·cases h
 ·cases h
end Go.Abs
namespace Go.Abs
theorem aV.bU{P:Program}{G:bF}(T:aV P G){t:TypeId}{td:TD}(h:G.at t=some td){bs:Nat}{u:Ty}(hs:td.ty= .slice bs u):
 ∃te ie,P.underlying t=some (.slice td.e)∧G.at td.e=some te∧te.ty=u∧P.info? td.e=some ie∧ie.bytes=bs∧0<u.size∧0<bs:=by
 obtain⟨ii,d,_,h1,_,h2,_⟩:=T.info h
 have hagg:=cg h2
 cases hd:d with
 |
  slice e=>
  subst hd
  simp only[aX] at h2
  rw[Bool.or_eq_true] at h2
  rcases h2 with h2|h2
  ·have:=Ty.ae h2;rw[hs] at this;cases this
  simp only[Bool.and_eq_true] at h2
  obtain⟨h3,h2⟩:=h2
  have h3:=Nat.eq_of_beq_eq_true h3
  subst h3
  split at h2
  ·rename_i bs' u' te ie e1 e2 e3
   rw[hs] at e1;cases e1
   simp only[Bool.and_eq_true] at h2
   obtain⟨⟨⟨h4,h5⟩,h6⟩,h7⟩:=h2
   exact⟨te,ie,h1,e2,Ty.ae h4,e3,Nat.eq_of_beq_eq_true h5,by simp[Nat.blt] at h6;omega,by simp[Nat.blt] at h7;omega⟩
  ·cases h2
 |
  struct fs=>
  subst hd
  simp only[cd] at hagg
  rw[hs] at hagg;cases hagg
 |
  array n e=>
  subst hd
  simp only[cd] at hagg
  rw[hs] at hagg;cases hagg
 |
  map k e=>
  subst hd
  simp only[aX,Bool.and_eq_true] at h2
  have:=Ty.ae h2.1.1;rw[hs] at this;cases this
 |
  _=>
  subst hd
  simp only[aX] at h2
  first
   |(have:=Ty.ae h2;rw[hs] at this;cases this)
   |cases h2
theorem aV.mr{P:Program}{G:bF}(T:aV P G){t:TypeId}{td:TD}(h:G.at t=some td){n:Nat}{u:Ty}(hs:td.ty= .arr n u):
 ∃te,P.underlying t=some (.array n td.e)∧G.at td.e=some te∧te.ty=u:=by
 obtain⟨ii,d,_,h1,_,h2,_⟩:=T.info h
 have hagg:=cg h2
 cases hd:d with
 |
  array m e=>
  subst hd
  simp only[aX] at h2
  rw[Bool.or_eq_true] at h2
  rcases h2 with h2|h2
  ·split at h2
   ·rename_i e1 _;rw[hs] at e1;cases e1
   ·cases h2
  simp only[Bool.and_eq_true] at h2
  obtain⟨h3,h2⟩:=h2
  have h3:=Nat.eq_of_beq_eq_true h3
  subst h3
  split at h2
  ·rename_i m' u' te ie e1 e2 e3
   rw[hs] at e1;cases e1
   simp only[Bool.and_eq_true] at h2
   have:=Nat.eq_of_beq_eq_true h2.1.2
   subst this
   exact⟨te,h1,e2,Ty.ae h2.1.1⟩
  ·cases h2
 |
  struct fs=>
  subst hd
  simp only[aX] at h2
  rw[hs] at h2
  revert h2
  generalize fs.toList=l
  intro h2
  cases l<;>simp[aQ] at h2
 |
  _=>
  subst hd
  simp only[cd] at hagg
  rw[hs] at hagg;cases hagg
theorem fj{P:Program}{G:bF}(T:aV P G){t:TypeId}{td:TD}(h:G.at t=some td){bs:Nat}{u:Ty}(hs:td.ty= .slice bs u)(w:World)(g o len cap:Nat)(k:IntKind)(i:Int)(hi:0≤i∧i<len):
 (Instr.indexAt t (.slice (some ⟨g,o,none⟩) len cap) (.int k i)).run P w= .ok (.pointer (some ⟨g,o+i.toNat*u.size,none⟩)) w:=by
 obtain⟨te,ie,h1,h2,h3,_⟩:=T.bU h hs
 have hsz:=T.size h2 w
 rw[h3] at hsz
 have ha:((⟨g,o,none⟩:Addr).add (i.toNat*u.size))=⟨g,o+i.toNat*u.size,none⟩:=by
  unfold Addr.add;split<;>simp_all
 simp[Instr.indexAt,underlying,h1,asIntOf,hi,hsz,ha]
theorem j7{P:Program}{G:bF}(T:aV P G){t:TypeId}{td:TD}(h:G.at t=some td){n:Nat}{u:Ty}(hs:td.ty= .arr n u)(w:World)(g o:Nat)(k:IntKind)(i:Int)(hi:0≤i∧i<n):
 (Instr.indexAt t (.pointer (some ⟨g,o,none⟩)) (.int k i)).run P w= .ok (.pointer (some ⟨g,o+i.toNat*u.size,none⟩)) w:=by
 obtain⟨te,h1,h2,h3⟩:=T.mr h hs
 have hsz:=T.size h2 w
 rw[h3] at hsz
 have ha:((⟨g,o,none⟩:Addr).add (i.toNat*u.size))=⟨g,o+i.toNat*u.size,none⟩:=by
  unfold Addr.add;split<;>simp_all
 simp[Instr.indexAt,underlying,h1,asIntOf,hi,hsz,ha,Instr.sureAddr]
def jD(G:bF)(hb:Nat→Option ah)(t:TypeId)(x:AV)(i:Int):Option (AV×List Prop):=
 match G.at t with
 |
  some td=>
  match td.ty,x with
  | .slice bs u,.val (.slice bs' u') xs=>if Nat.beq bs bs'&&Ty.same u u' then some (.dJ u' (xs.getD i.toNat u'.bu),[0≤i,i<xs.length]) else none
  |
   .slice _ u,.own b=>match hb b with
   |some (.row _ _ u' xs)=>if Ty.same u u' then some (.ptr b [.idx i.toNat],[0≤i,i<xs.length]) else none
   |_=>none
  |
   .slice _ u,.lF b lo len=>match hb b with
   |some (.row _ _ u' _)=>if Ty.same u u' then some (.ptr b [.idx (lo+i.toNat)],[0≤i,i<len]) else none
   |_=>none
  |
   .slice _ u,.iT b p lo len=>match hb b with
   |
    some (.var tt _)=>match tt.sub p with
    |some (.arr _ u')=>if Ty.same u u' then some (.ptr b (p++[.idx (lo+i.toNat)]),[0≤i,i<len]) else none
    |_=>none
   |_=>none
  |
   .arr n u,.ptr b p=>match hb b with
   |
    some k=>match(gR k).sub p with
    |some (.arr n' u')=>if Ty.same u u'&&Nat.beq n n' then some (.ptr b (p++[.idx i.toNat]),[0≤i,i<n]) else none
    |_=>none
   |_=>none
  | .arr n u,.dJ (.arr n' u') xs=>if Ty.same u u'&&Nat.beq n n' then some (.dJ u' (List.getD xs i.toNat u'.bu),[0≤i,i<n]) else none
  |_,_=>none
 |none=>none
def eL(G:bF)(hb:Nat→Option ah)(t:TypeId)(x:AV):AV→Option (AV×List Prop)
 | .val (.int _) i=>jD G hb t x i
 |_=>none
theorem Ty.mu(t:Ty):t.off []=0:=by cases t<;>rfl
theorem Ty.iW(t:Ty):t.valid []:=by cases t<;>trivial
theorem Ty.yx(t:Ty):t.sub []=some t:=by cases t<;>rfl
theorem nZ{P:Program}{G:bF}(T:aV P G){gl:Ctx}{E:Env}{w:World}{hp:List (Option ah)}(hw:HW gl E w hp){hb:Nat→Option ah}(hB:HB hb hp){t:TypeId}{x u:AV}{vx:Value}{k:IntKind}{i:Int}{vc:List Prop}(hx:RV E w x vx)(h:jD G hb t x i=some (u,vc))(hvc0:eW vc):
 ∃v,(Instr.indexAt t vx (.int k i)).run P w= .ok v w∧RV E w u v:=by
 unfold jD at h
 split at h
 ·rename_i td ht
  split at h
  ·rename_i bs u bs' u' xs hty
   split at h
   ·rename_i hc
    cases h
    have hvc:=And.intro hvc0.1 hvc0.2.1
    simp only[Bool.and_eq_true] at hc
    have:=Nat.eq_of_beq_eq_true hc.1;subst this
    have:=Ty.ae hc.2;subst this
    obtain⟨a,cap,e,h1,h2,h3,h4⟩:=RV.atom rfl hx
    simp at e;subst e
    rcases h4 with h4|⟨b,o,cs,e1,e2,e3,e4⟩
    ·subst h4;simp at hvc;exact absurd hvc.2 (by omega)
    ·subst e1
     have hlt:i.toNat<xs.length:=by omega
     have hget:=aB.get (fun _ _=>Rel.len) u.bu i.toNat e4 hlt
     exact⟨_,fj T ht hty w b o _ cap k i hvc,RV.ft (Or.inr ⟨rfl,b,_,_,rfl,e2,e3.sub _ _,hget⟩)⟩
   ·cases h
  ·rename_i bs u b hty
   split at h
   ·rename_i e bs2 u' xs hk
    split at h
    ·rename_i hc
     cases h
     have hvc:=And.intro hvc0.1 hvc0.2.1
     have:=Ty.ae hc;subst this
     have hx:=RV.atom rfl hx
     simp only[RC,List.cons.injEq,and_true] at hx
     have hx:=hx.1
     subst hx
     obtain⟨h1,h2,h3,h4,a,cap,h5,h6,h7⟩:=hw.bp b _ (hB b _ hk)
     rw[h5]
     rcases h7 with⟨_,_,h9⟩|⟨g,c,h7,h8,h9,h10,h11,h12⟩
     ·subst h9;simp at hvc;exact absurd hvc.2 (by omega)
     ·subst h8
      refine⟨_,fj T ht hty w g 0 _ cap k i hvc,RV.ft (Or.inr ⟨rfl,g,h7,?_,?_⟩)⟩
      ·rw[h1];simp[Ty.off,Ty.mu]
      ·rw[h1];exact⟨by omega,Ty.iW _⟩
    ·cases h
   ·cases h
  ·rename_i bs u b lo len hty
   split at h
   ·rename_i e bs2 u' xs hk
    split at h
    ·rename_i hc
     cases h
     have hvc:=And.intro hvc0.1 hvc0.2.1
     have:=Ty.ae hc;subst this
     obtain⟨a,c0,n,tt,r1,r2,r3,r4,a2,e,r6⟩:=RV.atom rfl hx
     simp at e;subst e
     obtain⟨h1,h2,h3,h4,a',cap,h5,h6,h7⟩:=hw.bp b _ (hB b _ hk)
     rw[h1] at r1;cases r1
     rw[h5] at r2;cases r2
     rcases h7 with⟨_,_,h9⟩|⟨g,c,h7,h8,h9,h10,h11,h12⟩
     ·subst h9;simp at r3;exact absurd hvc.2 (by omega)
     ·subst h8
      have had:a2=some ⟨g,lo*u.size,none⟩:=by
       rcases r6 with r6|r6
       ·omega
       ·rw[r6];simp only[Option.map_some,Option.some.injEq];unfold Addr.add;split<;>simp_all
      rw[had]
      refine⟨_,fj T ht hty w g _ _ _ k i hvc,RV.ft (Or.inr ⟨rfl,g,h7,?_,?_⟩)⟩
      ·rw[h1];simp only[Ty.off,Ty.mu];rw[Nat.add_mul];simp
      ·rw[h1];exact⟨by omega,Ty.iW _⟩
    ·cases h
   ·cases h
  ·rename_i bs u b p lo len hty
   split at h
   ·rename_i tt v hk
    split at h
    ·rename_i n u' hsub
     split at h
     ·rename_i hc
      cases h
      have hvc:=And.intro hvc0.1 hvc0.2.1
      have:=Ty.ae hc;subst this
      obtain⟨n2,t2,r1,r2,r3,a,cap,e,r4,r5⟩:=RV.atom rfl hx
      simp at e;subst e
      obtain⟨h1,h2,g,c,e2,h3,h4,h5⟩:=hw.bp b _ (hB b _ hk)
      rw[h1,hsub] at r1;cases r1
      rcases r5 with r5|⟨g',r5,r6⟩
      ·subst r5;omega
      ·rw[h3] at r5;cases r5
       subst r6
       obtain⟨q1,q2,q3⟩:=Ty.lC (q:=[.idx (lo+i.toNat)]) hsub
       refine⟨_,fj T ht hty w g _ _ _ k i hvc,RV.ft (Or.inr ⟨rfl,g,h3,?_,?_⟩)⟩
       ·rw[h1,q2];simp only[Ty.off,Ty.mu];rw[Nat.add_mul];simp;omega
       ·rw[h1];refine q3 (by rw[←h1];exact r2) ⟨by omega,Ty.iW _⟩
     ·cases h
    ·cases h
   ·cases h
  ·rename_i n u b p hty
   split at h
   ·rename_i kk hk
    split at h
    ·rename_i n' u' hsub
     split at h
     ·rename_i hc
      cases h
      have hvc:=And.intro hvc0.1 hvc0.2.1
      simp only[Bool.and_eq_true] at hc
      have:=Ty.ae hc.1;subst this
      have:=Nat.eq_of_beq_eq_true hc.2;subst this
      obtain⟨g,hg,e,hv⟩:=RV.atom rfl hx
      simp at e;subst e
      have hbt:=RB.bt (hw.bp b kk (hB b kk hk)) (nv (q:=.idx 0) (s:=u) hsub (by simp[Ty.sub,Ty.yx]))
      rw[←hbt] at hsub
      obtain⟨q1,q2,q3⟩:=Ty.lC (q:=[.idx i.toNat]) hsub
      refine⟨_,j7 T ht hty w g _ k i hvc,RV.ft (Or.inr ⟨rfl,g,hg,?_,?_⟩)⟩
      ·rw[q2];simp only[Ty.off,Ty.mu];simp
      ·exact q3 hv ⟨by omega,Ty.iW _⟩
     ·cases h
    ·cases h
   ·cases h
  ·rename_i n u n' u' xs hty
   split at h
   ·rename_i hc
    cases h
    have hvc:=And.intro hvc0.1 hvc0.2.1
    simp only[Bool.and_eq_true] at hc
    have:=Ty.ae hc.1;subst this
    have:=Nat.eq_of_beq_eq_true hc.2;subst this
    obtain⟨b,o,cs,e,h1,h2,h3⟩:=RV.atom rfl hx
    simp at e;subst e
    obtain⟨hn,h3⟩:=h3
    have hlt:i.toNat<List.length xs:=by omega
    have hget:=aB.get (fun _ _=>Rel.len) u.bu i.toNat h3 hlt
    exact⟨_,j7 T ht hty w b o k i hvc,RV.ft (Or.inr ⟨rfl,b,_,_,rfl,h1,h2.sub _ _,hget⟩)⟩
   ·cases h
  ·cases h
 ·cases h
theorem gN{P:Program}{G:bF}(T:aV P G){gl:Ctx}{E:Env}{w:World}{hp:List (Option ah)}(hw:HW gl E w hp){hb:Nat→Option ah}(hB:HB hb hp){t:TypeId}{x y u:AV}{vx vy:Value}{vc:List Prop}(hx:RV E w x vx)(hy:RV E w y vy)(h:eL G hb t x y=some (u,vc))(hvc:eW vc):
 ∃v,(Instr.indexAt t vx vy).run P w= .ok v w∧RV E w u v:=by
 unfold eL at h
 split at h
 ·obtain⟨rfl,_⟩:=RV.bM hy
  exact nZ T hw hB hx h hvc
 ·cases h
theorem mw(l:List UInt8):(ByteArray.mk l.toArray).size=l.length:=by show l.toArray.size=_;simp
def j8(n:Nat):AV:=.val (.int .i64) (n:Int)
def rU(G:bF)(hb:Nat→Option ah)(t:TypeId)(x:AV):Option AV:=
 match G.at t with
 |
  some td=>
  match td.ty,x with
  | .slice _ _,.val (.slice _ _) xs=>some (j8 xs.length)
  | .slice _ _,.dR=>some (j8 0)
  |
   .slice _ _,.own b=>match hb b with
   |some (.row _ _ _ xs)=>some (j8 xs.length)
   |_=>none
  |
   .slice _ _,.lF b _ len=>match hb b with
   |some (.row _ _ _ xs)=>if Nat.ble 1 1 then some (j8 len) else(some (j8 xs.length))
   |_=>none
  |
   .slice _ _,.iT b p _ len=>match hb b with
   |
    some (.var tt _)=>match tt.sub p with
    |some (.arr n _)=>if Nat.ble n aO then some (j8 len) else none
    |_=>none
   |_=>none
  | .str,.val .str s=>some (j8 s.length)
  | .av .map,.lA=>some (j8 0)
  |
   .av .map,.mp b=>match hb b with
   |some (.map _ _ es)=>some (j8 es.length)
   |_=>none
  |_,_=>none
 |none=>none
theorem RV.len{E:Env}{w:World}{n:Nat}(h:n≤aO):RV E w (j8 n) (goInt n):=by
 refine RV.int (k:=.i64) ?_
 unfold aO at h
 have h1:IntKind.i64.min= -9223372036854775808:=by decide
 have h2:IntKind.i64.max=9223372036854775807:=by decide
 omega
theorem RM.len{E:Env}{w:World}{k v:Ty}:∀{l:List MapEntry}{xs:List (k.den×v.den)},RM E w k v l xs→l.length=xs.length
 |[],[],_=>rfl
 |[],_::_,h=>h.elim
 |_::_,[],h=>h.elim
 |_::l,_::xs,h=>by simp[RM.len h.2.2]
theorem aV.strOf{P:Program}{G:bF}(T:aV P G){t:TypeId}{td:TD}(h:G.at t=some td)(hs:td.ty= .str):P.underlying t=some .string:=by
 obtain⟨ii,d,_,h1,_,h2,_⟩:=T.info h
 have hagg:=cg h2
 rw[h1]
 cases hd:d with
 |string=>rfl
 |struct fs=>subst hd;simp only[cd] at hagg;rw[hs] at hagg;cases hagg
 |array n e=>subst hd;simp only[cd] at hagg;rw[hs] at hagg;cases hagg
 |
  slice e=>
  subst hd
  simp only[aX] at h2
  rw[Bool.or_eq_true] at h2
  rcases h2 with h2|h2
  ·have:=Ty.ae h2;rw[hs] at this;cases this
  simp only[Bool.and_eq_true] at h2
  obtain⟨_,h2⟩:=h2
  split at h2
  ·rename_i e1 _ _;rw[hs] at e1;cases e1
  ·cases h2
 |map k e=>subst hd;simp only[aX,Bool.and_eq_true] at h2;have:=Ty.ae h2.1.1;rw[hs] at this;cases this
 |
  _=>
  subst hd
  simp only[aX] at h2
  first
   |(have:=Ty.ae h2;rw[hs] at this;cases this)
   |cases h2
theorem aV.mapOf{P:Program}{G:bF}(T:aV P G){t:TypeId}{td:TD}(h:G.at t=some td)(hs:td.ty= .av .map):P.underlying t=some (.map td.e td.e2):=by
 obtain⟨ii,d,_,h1,_,h2,_⟩:=T.info h
 have hagg:=cg h2
 rw[h1]
 cases hd:d with
 |
  map k e=>
  subst hd
  simp only[aX,Bool.and_eq_true] at h2
  rw[Nat.eq_of_beq_eq_true h2.1.2,Nat.eq_of_beq_eq_true h2.2]
 |struct fs=>subst hd;simp only[cd] at hagg;rw[hs] at hagg;cases hagg
 |array n e=>subst hd;simp only[cd] at hagg;rw[hs] at hagg;cases hagg
 |
  slice e=>
  subst hd
  simp only[aX] at h2
  rw[Bool.or_eq_true] at h2
  rcases h2 with h2|h2
  ·have:=Ty.ae h2;rw[hs] at this;cases this
  simp only[Bool.and_eq_true] at h2
  obtain⟨_,h2⟩:=h2
  split at h2
  ·rename_i e1 _ _;rw[hs] at e1;cases e1
  ·cases h2
 |
  _=>
  subst hd
  simp only[aX] at h2
  first
   |(have:=Ty.ae h2;rw[hs] at this;cases this)
   |cases h2
theorem qk{P:Program}{G:bF}(T:aV P G){gl:Ctx}{E:Env}{w:World}{hp:List (Option ah)}(hw:HW gl E w hp){hb:Nat→Option ah}(hB:HB hb hp){t ty:TypeId}{x u:AV}{vx:Value}(hx:RV E w x vx)(h:rU G hb t x=some u):
 ∃v,(Builtin.len_ #[t] ty #[vx]).run P w= .ok v w∧RV E w u v:=by
 unfold rU at h
 split at h
 ·rename_i td ht
  split at h
  ·rename_i bs u' bs' u2 xs hty
   cases h
   obtain⟨te,ie,h1,_⟩:=T.bU ht hty
   obtain⟨a,cap,e,_,_,h3,_⟩:=RV.atom rfl hx
   simp at e;subst e
   exact⟨_,by simp[Builtin.len_,underlying,h1],RV.len h3⟩
  ·rename_i bs u' hty
   cases h
   obtain⟨te,ie,h1,_⟩:=T.bU ht hty
   have hx:=RV.atom rfl hx
   simp[RC] at hx;subst hx
   exact⟨_,by simp[Builtin.len_,underlying,h1],RV.len (by unfold aO;omega)⟩
  ·rename_i bs u' b hty
   split at h
   ·rename_i e2 bs2 t2 xs hk
    cases h
    obtain⟨te,ie,h1,_⟩:=T.bU ht hty
    have hx:=RV.atom rfl hx
    simp only[RC,List.cons.injEq,and_true] at hx
    have hx:=hx.1
    subst hx
    obtain⟨_,_,h3,_,a,cap,h5,_⟩:=hw.bp b _ (hB b _ hk)
    rw[h5]
    exact⟨_,by simp[Builtin.len_,underlying,h1],RV.len h3⟩
   ·cases h
  ·rename_i bs u' b lo len hty
   split at h
   ·rename_i e2 bs2 t2 xs hk
    simp at h;subst h
    obtain⟨te,ie,h1,_⟩:=T.bU ht hty
    obtain⟨a,c,n,tt,r1,r2,r3,r4,a2,e,_⟩:=RV.atom rfl hx
    simp at e;subst e
    obtain⟨q1,_,h3,_,a',cap,h5,_⟩:=hw.bp b _ (hB b _ hk)
    rw[r1] at q1;cases q1
    exact⟨_,by simp[Builtin.len_,underlying,h1],RV.len (by omega)⟩
   ·cases h
  ·rename_i bs u' b p lo len hty
   split at h
   ·rename_i tt v hk
    split at h
    ·rename_i n0 u0 hsub
     split at h
     ·rename_i hn
      cases h
      obtain⟨te,ie,h1,_⟩:=T.bU ht hty
      obtain⟨n,t2,r1,r2,r3,a,cap,e,r4,r5⟩:=RV.atom rfl hx
      simp at e;subst e
      obtain⟨q1,_⟩:=hw.bp b _ (hB b _ hk)
      rw[q1,hsub] at r1;cases r1
      have:=Nat.le_of_ble_eq_true hn
      exact⟨_,by simp[Builtin.len_,underlying,h1],RV.len (by omega)⟩
     ·cases h
    ·cases h
   ·cases h
  ·rename_i s hty
   cases h
   have h1:=T.strOf ht hty
   obtain⟨rfl,h2⟩:=RV.dW hx
   exact⟨goInt s.length,by simp[Builtin.len_,underlying,h1,mw],RV.len h2⟩
  ·rename_i hty
   cases h
   have h1:=T.mapOf ht hty
   have hx:=RV.atom rfl hx
   simp[RC] at hx;subst hx
   exact⟨_,by simp[Builtin.len_,underlying,h1],RV.len (by unfold aO;omega)⟩
  ·rename_i b hty
   split at h
   ·rename_i kt vt es hk
    cases h
    have h1:=T.mapOf ht hty
    obtain⟨g,hg,e⟩:=RV.atom rfl hx
    simp at e;subst e
    obtain⟨_,h2,g',en,clock,h3,h4,h5,_⟩:=hw.bp b _ (hB b _ hk)
    rw[hg] at h3;cases h3
    have hl:=RM.len h5
    refine⟨goInt es.length,?_,RV.len h2⟩
    simp[Builtin.len_,underlying,h1,getObj,Sem.run,h4,←hl]
   ·cases h
  ·cases h
 ·cases h
end Go.Abs
namespace Go.Abs
def St.fresh(σ:St)(d:Nat):Prop:=d∉σ.ids∧(∀k,σ.hp[d]? ≠some (some k))∧16≤d
def bQ:Nat→List Nat→Bool
 |_,[]=>false
 |d,x::l=>Nat.beq d x||bQ d l
theorem cU{d:Nat}:∀{l:List Nat},bQ d l=false→d∉l
 |[],_=>by simp
 |
  x::l,h=>by
  simp only[bQ,Bool.or_eq_false_iff] at h
  intro hm
  cases hm with
  |head=>simp at h
  |tail _ hm=>exact cU h.2 hm
def St.ny(σ:St)(d:Nat):Bool:=
 Nat.ble 16 d&& !bQ d σ.ids&&(match σ.hp[d]? with|some (some _)=>false|_=>true)
theorem St.my{σ:St}{d:Nat}(h:σ.ny d=true):σ.fresh d:=by
 simp only[St.ny,Bool.and_eq_true] at h
 refine⟨cU (by simpa using h.1.2),?_,Nat.le_of_ble_eq_true h.1.1⟩
 intro k hk
 rw[hk] at h
 exact absurd h.2 (by simp)
theorem cE.fresh{gl:Ctx}{σ:St}{E:Env}{a:Act}{w w':World}(h:cE gl σ E a w){d:Nat}(hf:σ.fresh d){g:Option Nat}{sv:Value}{t:Ty}{k:ah}
 (hos:w'.os=w.os) (hta:Tp gl.md w w') (hou:w'.output=w.output) (hsz:w.heap.size≤w'.heap.size) (hold:∀i,i<w.heap.size→w'.heap[i]? =w.heap[i]?)
 (hg:∀i,g=some i→w.heap.size≤i) (hb:RB (E.at d g sv t) w' d k):
 cE gl (σ.bp d (some k)) (E.at d g sv t) a w'∧Ext gl.md (Own σ.hp E) E w (Own (σ.bp d (some k)).hp (E.at d g sv t)) (E.at d g sv t) w':=by
 have kp:bh E w (E.at d g sv t) w':=⟨fun b hb=>hold b (h.hw.slt b hb),fun b hb=>hb⟩
 have hw:=h.hw.fresh (d:=d) hsz hold hf.2.1 (fun b k' hk hm=>hf.1 (St.tG hk d hm)) hg hb
 refine⟨h.carry kp (Env.vP hf.1) hw,hos,hta,hou,hsz,fun i hi _=>hold i hi,fun i hi=>hi,fun i hi=>Or.inl hi,?_,Env.BT hf.2.2⟩
 rintro i ⟨b,k',hbk,hgi⟩
 by_cases e:b=d
 ·subst e
  simp only[Env.at,if_true] at hgi
  exact Or.inr (hg i hgi)
 ·simp only[Env.at,e,if_false] at hgi
  simp only[St.bp] at hbk
  rw[List.getElem?_set,if_neg (fun e'=>e e'.symm)] at hbk
  exact Or.inl ⟨b,k',hbk,hgi⟩
theorem fK(w:World)(o:Obj)(i:Nat)(hi:i<w.heap.size):({w with heap:=w.heap.push o}:World).heap[i]? =w.heap[i]? :=by
 show(w.heap.push o)[i]? =_
 rw[Array.getElem?_push,if_neg (by omega)]
theorem kP(w:World)(o:Obj):({w with heap:=w.heap.push o}:World).heap[w.heap.size]? =some o:=by
 show(w.heap.push o)[w.heap.size]? =_
 simp
theorem cE.newVar{P:Program}{gl:Ctx}{σ:St}{E:Env}{a:Act}{w:World}(h:cE gl σ E a w){d:Nat}(hf:σ.fresh d){t:Ty}{x:AV}{v:Value}(e:TypeId)(hr:RC E w x v.cells.toList)(hc:x.bB t=true)(hx:d∉x.ids):
 ∃w' E',(Go.newVar e v).run P w= .ok ⟨w.heap.size,0,none⟩ w'∧cE gl (σ.bp d (some (.var t x))) E' a w'∧RV E' w' (.ptr d []) (.pointer (some ⟨w.heap.size,0,none⟩))∧Ext gl.md (Own σ.hp E) E w (Own (σ.bp d (some (.var t x))).hp E') E' w':=by
 refine⟨{w with heap:=w.heap.push (.cells v.cells e)},E.at d (some w.heap.size) undef t,by simp[Go.newVar,newRow],?_⟩
 have kp:bh E w (E.at d (some w.heap.size) undef t) {w with heap:=w.heap.push (.cells v.cells e)}:=⟨fun b hb=>fK _ _ _ (h.hw.slt b hb),fun b hb=>hb⟩
 obtain⟨h1,h2⟩:=h.fresh hf (w':={w with heap:=w.heap.push (.cells v.cells e)}) (g:=some w.heap.size) (sv:=undef) (t:=t) (k:=.var t x) rfl (Tp.r rfl rfl) rfl (by simp) (fun i hi=>fK _ _ _ hi) (fun i hi=>by cases hi;exact Nat.le_refl _)
  ⟨by simp[Env.at],hc,w.heap.size,v.cells,e,by simp[Env.at],kP _ _,RC.mono kp (Env.vP hx) hr⟩
 exact⟨h1,RV.ft (Or.inr ⟨rfl,w.heap.size,by simp[Env.at],by simp[Env.at,Ty.mu],Ty.iW _⟩),h2⟩
theorem vS(v:Value):(mo v).ids= []:=by
 unfold mo
 split<;>try rfl
 all_goals(split<;>rfl)
theorem xg(gl:List BR)(g:Nat):(nu gl g).ids= []:=by
 induction gl with
 |nil=>rfl
 |cons x l ih=>unfold nu;split;rfl;exact ih
theorem rW{gl:Ctx}{σ:St}{x:Operand}:∀b∈(bI gl σ.tm x).ids,b∈σ.ids:=by
 intro b hb
 cases x with
 |
  tmp t=>
  simp only[bI] at hb
  cases hx:σ.tm[t]? with
  |none=>rw[hx] at hb;simp[AV.ids] at hb
  |some y=>rw[hx] at hb;exact St.xb hx b hb
 |const v=>simp only[bI,vS] at hb;cases hb
 |global g=>simp only[bI,xg] at hb;cases hb
 |func f=>simp[bI,AV.ids] at hb
theorem Ty.BW(t:Ty):t.zero.ids= []:=by
 induction t with
 |pair a b ih1 ih2=>simp[Ty.zero,AV.ids,ih1,ih2]
 |av k=>cases k<;>rfl
 |_=>rfl
theorem zt{P:Program}{G:bF}(T:aV P G){gl:Ctx}{σ:St}{E:Env}{a:Act}{w:World}(h:cE gl σ E a w){d:Nat}(hf:σ.fresh d){e:TypeId}{td:TD}(he:G.at e=some td)(old:Value):
 ∃v w' E',(Instr.alloc e true old).run P w= .ok v w'∧cE gl (σ.bp d (some (.var td.ty td.ty.zero))) E' a w'∧RV E' w' (.ptr d []) v∧Ext gl.md (Own σ.hp E) E w (Own (σ.bp d (some (.var td.ty td.ty.zero))).hp E') E' w':=by
 obtain⟨z,hz,h1,h2⟩:=T.zero he w
 obtain⟨w',E',h3,h4,h5,h6⟩:=h.newVar (P:=P) hf (t:=td.ty) (x:=td.ty.zero) (v:=z) e (fh h1).1 (Ty.nr _) (by rw[Ty.BW];simp)
 exact⟨_,w',E',by simp[Instr.alloc,hz,h3],h4,h5,h6⟩
theorem DL{P:Program}{gl:Ctx}{σ:St}{E:Env}{a:Act}{w:World}(h:cE gl σ E a w){d:Nat}(hf:σ.fresh d){e:TypeId}{t:Ty}{x:AV}{v:Value}(hr:cN E w x v)(hc:x.bB t=true)(hx:d∉x.ids):
 ∃u w' E',(Instr.box e v).run P w= .ok u w'∧cE gl (σ.bp d (some (.var t x))) E' a w'∧RV E' w' (.ptr d []) u∧Ext gl.md (Own σ.hp E) E w (Own (σ.bp d (some (.var t x))).hp E') E' w':=by
 obtain⟨w',E',h3,h4,h5,h6⟩:=h.newVar (P:=P) hf (t:=t) (x:=x) (v:=v) e hr.cells hc hx
 exact⟨_,w',E',by simp[Instr.box,h3],h4,h5,h6⟩
def Eb(e:TypeId)(bs:Nat)(t:Ty)(xs:List t.den)(i:Nat)(p:Path)(x:AV):Option ah:=
 match eo t (xs.getD i t.bu) p x with
 |
  some y=>match y.a8 t with
  |some z=>some (.row e bs t (xs.set i z))
  |none=>none
 |none=>none
def nP:ah→Path→AV→Option ah
 |
  .var t v,p,x=>match v.set p x with
  |some u=>if u.bB t then some (.var t u) else none
  |none=>none
 | .row e bs t xs,.idx i::p,x=>Eb e bs t xs i p x
 |_,_,_=>none
theorem zu(l us:List Value)(o m:Nat)(h:o+us.length≤m)(hm:m≤l.length):(l.take o++us++l.drop (o+us.length)).take m=(l.take m).take o++us++(l.take m).drop (o+us.length):=by
 have e1:(l.take m).take o=l.take o:=by rw[List.take_take,Nat.min_eq_left (by omega)]
 have e2:(l.take m).drop (o+us.length)=(l.drop (o+us.length)).take (m -(o+us.length)):=by rw[List.drop_take]
 rw[e1,e2,List.take_append,List.take_of_length_le (l:=l.take o++us) (by simp;omega)]
 congr 2
 simp;omega
theorem BX{P:Program}{gl:Ctx}{E:Env}{w:World}{hp:List (Option ah)}(hw:HW gl E w hp){b:Nat}{k k':ah}{p:Path}{x:AV}{us:List Value}(hb:hp[b]? =some (some k))(hv:(E.bt b).valid p)(hx:RC E w x us)
 (hsub:∀s,(E.bt b).sub p=some s→us.length=s.size) (h:nP k p x=some k'):
 ∃g w',E.g b=some g∧(storeCells ⟨g,(E.bt b).off p,none⟩ us 0).run P w= .ok () w'∧w'.os=w.os∧Tp gl.md w w'∧w'.output=w.output∧w'.heap.size=w.heap.size∧(∀i,i≠g→w'.heap[i]? =w.heap[i]?)∧RB E w' b k':=by
 have hk:=hw.bp b k hb
 cases k with
 |
  var t v=>
  obtain⟨h1,h2,g,c,e,h3,h4,h5⟩:=hk
  rw[h1] at hv hsub ⊢
  simp only[nP] at h
  split at h
  ·rename_i u hu
   split at h
   ·rename_i hconf
    cases h
    obtain⟨s,e1,e2,e3,e4⟩:=AV.tF hx h5 h2 hv hsub hu
    rw[←e2] at e3 e4
    have hst:=run_storeCells_at P g (t.off p) e us 0 c w h4 (by simpa using e3) (RC.one hx)
    refine⟨g,_,h3,hst,rfl,Tp.r rfl rfl,rfl,by simp,fun i hi=>setRow_other w g i _ hi,?_⟩
    have kp:bh E w E (w.setRow g (c.toList.take (t.off p+0)++us++c.toList.drop (t.off p+0+us.length)).toArray):=
     ⟨fun i hi=>setRow_other w g i _ (fun e=>hw.eV b _ g hb h3 (e▸hi)),fun _ h=>h⟩
    refine⟨h1,hconf,g,_,e,h3,setRow_heap w g c _ e _ h4,?_⟩
    have:=RC.mono kp (fun _ _=>⟨rfl,rfl,rfl⟩) e4
    simpa using this
   ·cases h
  ·cases h
 |
  row e bs t xs=>
  obtain⟨h1,h2,h3,h4,a,cap,h5,h6,h7⟩:=hk
  cases p with
  |nil=>simp[nP] at h
  |
   cons ps p=>
   cases ps with
   |fq k=>simp[nP] at h
   |
    idx i=>
    rw[h1] at hv hsub ⊢
    have hi:i<xs.length:=hv.1
    rcases h7 with⟨_,_,h9⟩|⟨g,c,h7,h8,h9,h10,h11,h12⟩
    ·subst h9;simp at hi
    ·have hR:Rel w E.S (.arr xs.length t) (c.toList.take (xs.length*t.size)) xs:=⟨rfl,h12⟩
     simp only[nP,Eb] at h
     split at h
     ·rename_i y hy
      split at h
      ·rename_i z hz
       cases h
       have aq:eo (.arr xs.length t) xs (.idx i::p) x=some (.val (.arr xs.length t) (List.set xs i z)):=by
        simp only[eo]
        rw[hy];simp only;rw[hz]
       obtain⟨s,e1,e2,e3,e4⟩:=rV hx hR hv aq
       have hlen:xs.length*t.size≤c.toList.length:=by
        rw[show c.toList.length=c.size from Array.length_toList,h10];exact Nat.mul_le_mul_right _ h11
       have e3':=e3
       rw[List.length_take,Nat.min_eq_left hlen,←e2] at e3'
       have hst:=run_storeCells_at P g ((Ty.arr xs.length t).off (.idx i::p)) e us 0 c w h9 (by rw[show c.toList.length=c.size from Array.length_toList] at hlen;omega) (RC.one hx)
       refine⟨g,_,h7,hst,rfl,Tp.r rfl rfl,rfl,by simp,fun i hi=>setRow_other w g i _ hi,?_⟩
       have kp:bh E w E (w.setRow g (c.toList.take ((Ty.arr xs.length t).off (.idx i::p)+0)++us++c.toList.drop ((Ty.arr xs.length t).off (.idx i::p)+0+us.length)).toArray):=
        ⟨fun i hi=>setRow_other w g i _ (fun e=>hw.eV b _ g hb h7 (e▸hi)),fun _ h=>h⟩
       refine⟨by rw[List.length_set];exact h1,by rw[List.length_set];exact h2,by rw[List.length_set];exact h3,h4,a,cap,by rw[List.length_set];exact h5,h6,Or.inr ⟨g,_,h7,h8,setRow_heap w g c _ e _ h9,?_,by rw[List.length_set];exact h11,?_⟩⟩
       ·rw[←h10];simp only[List.size_toArray,List.length_append,List.length_take,List.length_drop]
        rw[show c.toList.length=c.size from Array.length_toList] at hlen ⊢;omega
       ·have:=RC.mono kp (fun _ _=>⟨rfl,rfl,rfl⟩) e4
        rw[←e2] at this
        have hh:=this.2
        simp only[Nat.add_zero,List.length_set]
        rw[zu _ _ _ _ (by omega) hlen]
        exact hh
      ·cases h
     ·cases h
 |_=>simp[nP] at h
def kq(G:bF)(hb:Nat→Option ah)(t:TypeId)(x y:AV):Option (Nat×ah):=
 match x,G.at t with
 |
  .ptr b p,some td=>match hb b with
  |
   some k=>match(gR k).sub p with
   |some s=>if Ty.same s td.ty&&Nat.beq y.size td.ty.size then(nP k p y).map fun k'=>(b,k') else none
   |none=>none
  |none=>none
 |_,_=>none
theorem Own.xh{hp:List (Option ah)}{E:Env}{b:Nat}{k k':ah}(hb:hp[b]? =some (some k)){i:Nat}:Own (hp.set b (some k')) E i→Own hp E i:=Own.set hb
theorem vT{P:Program}{G:bF}(T:aV P G){gl:Ctx}{σ:St}{E:Env}{a:Act}{w:World}(h:cE gl σ E a w){hb:Nat→Option ah}(hB:HB hb σ.hp){t:TypeId}{x y:AV}{vx vy:Value}(hx:RV E w x vx)(hy:cN E w y vy){b:Nat}{k':ah}
 (hev:kq G hb t x y=some (b,k')):
 ∃w',(Instr.storeAt t vx vy).run P w= .ok () w'∧cE gl (σ.bp b (some k')) E a w'∧Ext gl.md (Own σ.hp E) E w (Own (σ.bp b (some k')).hp E) E w':=by
 unfold kq at hev
 split at hev
 ·rename_i b' p td ht
  split at hev
  ·rename_i k hk
   split at hev
   ·rename_i s hs
    split at hev
    ·rename_i hc
     simp only[Bool.and_eq_true] at hc
     simp only[Option.map_eq_some_iff] at hev
     obtain⟨k2,hk2,e⟩:=hev
     cases e
     have:=Ty.ae hc.1;subst this
     obtain⟨g,hg,e,hv⟩:=RV.atom rfl hx
     simp at e;subst e
     have hkb:=h.hw.bp b k (hB b k hk)
     have hbt:E.bt b=gR k:=by
      refine RB.bt hkb ?_
      cases k<;>first|rfl|simp[nP] at hk2
     have hyc:=hy.cells
     have hlen:=RC.len hyc
     have hsz:=Nat.eq_of_beq_eq_true hc.2
     obtain⟨g',w',h1,h2,h3,h4,h5,h6,h7,h8⟩:=BX (P:=P) h.hw (hB b k hk) hv hyc (fun s' hs'=>by rw[hbt,hs] at hs';cases hs';omega) hk2
     rw[hg] at h1;cases h1
     have hrun:(Instr.storeAt t (.pointer (some ⟨g,(E.bt b).off p,none⟩)) vy).run P w= .ok () w':=by
      have:vy.cells.size=td.ty.size:=by rw[←hsz,←hlen,Array.length_toList]
      simp[Instr.storeAt,Instr.sureAddr,storeVar,T.size ht,this,h2]
     have kp:bh E w E w':=⟨fun i hi=>h7 i (fun e=>h.hw.eV b k g (hB b k hk) hg (e▸hi)),fun _ h=>h⟩
     have hhw:=h.hw.write (w':=w') (k':=k') (hB b k hk) h6 (fun i hi=>h7 i (fun e=>hi (e▸hg))) h8
     refine⟨w',hrun,h.carry kp (fun _ _=>⟨rfl,rfl,rfl⟩) hhw,h3,h4,h5,by omega,?_,fun _ h=>h,fun _ h=>Or.inl h,fun i hi=>Or.inl (Own.set (hB b k hk) hi),fun _ _=>⟨rfl,rfl,rfl⟩⟩
     intro i hi ho
     exact h7 i (fun e=>ho ⟨b,k,hB b k hk,e▸hg⟩)
    ·cases hev
   ·cases hev
  ·cases hev
 ·cases hev
end Go.Abs
namespace Go.Abs
structure aZ where
 rt:List Nat
 rb:List Nat
 fr:List Nat
 dst:Option Nat
 v:AV
 hw:List (Nat×Option ah)
def aq(hp:List (Option ah)):List (Nat×Option ah)→List (Option ah)
 |[]=>hp
 |(b,k)::l=>aq (hp.set b k) l
def St.app(σ:St)(f:aZ):St:=({σ with hp:=aq σ.hp f.hw}:St).put f.dst f.v
structure kQ(σ σ':St)(rt rb:List Nat):Prop where
 tl:σ'.tm.length=σ.tm.length
 hl:σ'.hp.length=σ.hp.length
 tm:∀t∈rt,σ'.tm[t]? =σ.tm[t]?
 hp:∀b∈rb,σ'.hp[b]? =σ.hp[b]?
theorem kQ.refl(σ:St)(rt rb:List Nat):kQ σ σ rt rb:=⟨rfl,rfl,fun _ _=>rfl,fun _ _=>rfl⟩
def FH(P:Program)(gl:Ctx)(ops:Array Oper)(i:Nat)(f:aZ)(σ:St):Prop:=
 ∀σ',kQ σ σ' f.rt f.rb→(∀d∈f.fr,σ'.fresh d)→∀E a w,cE gl σ' E a w→∀(K:Act→World→Prop)(Q:Exit→Act→World→Prop),
  (∀E' a' w',cE gl (σ'.app f) E' a' w'→Ext gl.md (Own σ'.hp E) E w (Own (σ'.app f).hp E') E' w'→K a' w')→wpOpIn (Wd gl) 0 P ops Q i K a w
def gf(P:Program)(gl:Ctx)(ops:Array Oper):Nat→List aZ→St→St→Prop
 |_,[],σ,σ'=>σ'=σ
 |i,f::fs,σ,σ'=>FH P gl ops i f σ∧(∀d∈f.fr,σ.fresh d)∧gf P gl ops (i+1) fs (σ.app f) σ'
theorem gf.wp{P:Program}{gl:Ctx}{ops:Array Oper}{Q:Exit→Act→World→Prop}:∀{fs:List aZ}{i:Nat}{σ σ':St},gf P gl ops i fs σ σ'→∀{E:Env}{a:Act}{w:World},cE gl σ E a w→
 (∀E' a' w',cE gl σ' E' a' w'→Ext gl.md (Own σ.hp E) E w (Own σ'.hp E') E' w'→Q .normal a' w')→wpOpsIn (Wd gl) 0 P ops Q ((List.range fs.length).map (·+i)) a w
 |
  [],i,σ,σ',h,E,a,w,hg,hq=>by
  simp only[gf] at h;subst h
  exact hq E a w hg (Ext.refl _ _ _)
 |
  f::fs,i,σ,σ',⟨h1,h2,h3⟩,E,a,w,hg,hq=>by
  have e:(List.range (f::fs).length).map (·+i)=i::(List.range fs.length).map (·+(i+1)):=by
   rw[List.length_cons,List.range_succ_eq_map]
   simp only[List.map_cons,Nat.zero_add,List.map_map]
   congr 1
   apply List.map_congr_left
   intro x _
   simp;omega
  rw[e,wpOpsIn_cons]
  refine h1 σ (kQ.refl _ _ _) h2 E a w hg _ Q ?_
  intro E' a' w' hg' hx
  exact gf.wp h3 hg' (fun E2 a2 w2 hg2 hx2=>hq E2 a2 w2 hg2 (hx.trans hx2))
theorem xi{P:Program}{gl:Ctx}{ops:Array Oper}{id:Nat}{fs:List aZ}{σ σ':St}(hn:fs.length=ops.size)(h:gf P gl ops 0 fs σ σ'){Q:Exit→Act→World→Prop}{E:Env}{a:Act}{w:World}(hg:cE gl σ E a w)
 (hq:∀E' a' w',cE gl σ' E' a' w'→Ext gl.md (Own σ.hp E) E w (Own σ'.hp E') E' w'→Q .normal a' w'):(Code.region id ops false).wpIn (Wd gl) 0 P Q a w:=by
 refine wpIn_region ?_
 have:=gf.wp (Q:=Q) h hg hq
 rw[hn] at this
 simpa using this
def wrote:List (Nat×Option ah)→List Nat
 |[]=>[]
 |(b,_)::l=>b::wrote l
theorem qp:∀(l:List (Nat×Option ah))(hp:List (Option ah)),(aq hp l).length=hp.length
 |[],_=>rfl
 |(b,k)::l,hp=>by rw[aq,qp l,List.length_set]
theorem ep{b:Nat}:∀{l:List (Nat×Option ah)}{hp:List (Option ah)},b∉wrote l→(aq hp l)[b]? =hp[b]?
 |[],_,_=>rfl
 |
  (c,k)::l,hp,h=>by
  simp only[wrote,List.mem_cons,not_or] at h
  rw[aq,ep h.2,List.getElem?_set,if_neg (fun e=>h.1 e.symm)]
theorem nz{b:Nat}:∀{l:List (Nat×Option ah)}{hp hp':List (Option ah)},hp.length=hp'.length→hp[b]? =hp'[b]? →(aq hp l)[b]? =(aq hp' l)[b]?
 |[],_,_,_,h=>h
 |
  (c,k)::l,hp,hp',hl,h=>by
  rw[aq,aq]
  refine nz (by simp[hl]) ?_
  rw[List.getElem?_set,List.getElem?_set,hl,h]
theorem qq{b:Nat}:∀{l:List (Nat×Option ah)}{hp hp':List (Option ah)},hp.length=hp'.length→b∈wrote l→(aq hp l)[b]? =(aq hp' l)[b]?
 |[],_,_,_,h=>by cases h
 |
  (c,k)::l,hp,hp',hl,h=>by
  rw[aq,aq]
  by_cases hb:b∈wrote l
  ·exact qq (by simp[hl]) hb
  ·simp only[wrote,List.mem_cons] at h
   have e:b=c:=h.resolve_right hb
   subst e
   rw[ep hb,ep hb,List.getElem?_set,List.getElem?_set,hl]
   simp
theorem tH(σ:St)(f:aZ):(σ.app f).tm.length=σ.tm.length:=by
 unfold St.app St.put;split<;>simp
theorem tI(σ:St)(f:aZ):(σ.app f).hp.length=σ.hp.length:=by
 unfold St.app St.put;split<;>simp[qp]
theorem gS(σ:St)(f:aZ):(σ.app f).hp=aq σ.hp f.hw:=by
 unfold St.app St.put;split<;>rfl
theorem xj(σ:St)(f:aZ):(σ.app f).df=σ.df:=by
 unfold St.app St.put;split<;>rfl
theorem jE{σ:St}{f:aZ}{t:Nat}(h:f.dst≠some t):(σ.app f).tm[t]? =σ.tm[t]? :=by
 unfold St.app St.put
 split
 ·rename_i d hd
  simp only[List.getElem?_set]
  rw[if_neg (fun e=>h (by rw[hd,e]))]
 ·rfl
theorem vU{σ σ':St}{f:aZ}{t:Nat}(hl:σ.tm.length=σ'.tm.length)(h:σ.tm[t]? =σ'.tm[t]?):(σ.app f).tm[t]? =(σ'.app f).tm[t]? :=by
 unfold St.app St.put
 split
 ·simp only[List.getElem?_set]
  rw[hl,h]
 ·exact h
theorem tJ{σ σ':St}{f:aZ}{t:Nat}(hl:σ.tm.length=σ'.tm.length)(h:f.dst=some t):(σ.app f).tm[t]? =(σ'.app f).tm[t]? :=by
 unfold St.app St.put
 rw[h]
 simp only[List.getElem?_set]
 rw[hl];simp
def bP(X:Nat→Bool):Nat→List aZ→St→St
 |_,[],σ=>σ
 |i,f::fs,σ=>bP X (i+1) fs (if X i then σ.app f else σ)
theorem oF(X:Nat→Bool):∀(fs:List aZ)(i:Nat)(σ:St),(bP X i fs σ).tm.length=σ.tm.length
 |[],_,_=>rfl
 |f::fs,i,σ=>by rw[bP,oF X fs];split<;>simp[tH]
theorem oG(X:Nat→Bool):∀(fs:List aZ)(i:Nat)(σ:St),(bP X i fs σ).hp.length=σ.hp.length
 |[],_,_=>rfl
 |f::fs,i,σ=>by rw[bP,oG X fs];split<;>simp[tI]
theorem tK(X:Nat→Bool):∀(fs:List aZ)(i:Nat)(σ:St),(bP X i fs σ).df=σ.df
 |[],_,_=>rfl
 |f::fs,i,σ=>by rw[bP,tK X fs];split<;>simp[xj]
theorem oH{X Y:Nat→Bool}{t:Nat}:∀{fs:List aZ}{i:Nat}{σ σ':St},σ.tm.length=σ'.tm.length→σ.tm[t]? =σ'.tm[t]? →(∀(k:Nat)(f:aZ),fs[k]? =some f→X (i+k)≠Y (i+k)→f.dst≠some t)→
 (bP X i fs σ).tm[t]? =(bP Y i fs σ').tm[t]?
 |[],_,_,_,_,h,_=>h
 |
  f::fs,i,σ,σ',hl,h,hd=>by
  rw[bP,bP]
  refine oH ?_ ?_ (fun k g hk hne=>hd (k+1) g (by simpa using hk) (by rw[show i+(k+1)=i+1+k from by omega];exact hne))
  ·split<;>split<;>simp[tH,hl]
  ·by_cases hx:X i=Y i
   ·rw[hx];split
    ·exact vU hl h
    ·exact h
   ·have:=hd 0 f rfl (by simpa using hx)
    split<;>split<;>simp_all[jE]
theorem oI{X Y:Nat→Bool}{b:Nat}:∀{fs:List aZ}{i:Nat}{σ σ':St},σ.hp.length=σ'.hp.length→σ.hp[b]? =σ'.hp[b]? →(∀(k:Nat)(f:aZ),fs[k]? =some f→X (i+k)≠Y (i+k)→b∉wrote f.hw)→
 (bP X i fs σ).hp[b]? =(bP Y i fs σ').hp[b]?
 |[],_,_,_,_,h,_=>h
 |
  f::fs,i,σ,σ',hl,h,hd=>by
  rw[bP,bP]
  refine oI ?_ ?_ (fun k g hk hne=>hd (k+1) g (by simpa using hk) (by rw[show i+(k+1)=i+1+k from by omega];exact hne))
  ·split<;>split<;>simp[tI,hl]
  ·by_cases hx:X i=Y i
   ·rw[hx];split
    ·rw[gS,gS];exact nz hl h
    ·exact h
   ·have:=hd 0 f rfl (by simpa using hx)
    split<;>split<;>simp_all[gS,ep]
theorem mz{X:Nat→Bool}{t:Nat}{fi:aZ}(hw:fi.dst=some t):∀{fs:List aZ}{i j:Nat}{σ σ':St},σ.tm.length=σ'.tm.length→fs[j]? =some fi→X (i+j)=true→(∀(k:Nat)(f:aZ),fs[k]? =some f→j<k→X (i+k)=true→f.dst≠some t)→
 (bP X i fs σ).tm[t]? =(σ'.app fi).tm[t]?
 |[],_,_,_,_,_,h,_,_=>by simp at h
 |
  f::fs,i,0,σ,σ',hl,hf,hx,hd=>by
  simp at hf;subst hf
  rw[bP]
  simp only[Nat.add_zero] at hx
  rw[hx]
  have:(bP X (i+1) fs (σ.app f)).tm[t]? =(bP (fun _=>false) (i+1) fs (σ'.app f)).tm[t]? :=by
   refine oH (by simp[tH,hl]) (tJ hl hw) (fun k g hk hne=>?_)
   refine hd (k+1) g (by simpa using hk) (by omega) ?_
   rw[show i+(k+1)=i+1+k from by omega]
   simpa using hne
  rw[if_pos rfl,this]
  have hid:∀(fs:List aZ)(i:Nat)(σ:St),bP (fun _=>false) i fs σ=σ:=by
   intro fs
   induction fs with
   |nil=>intro i σ;rfl
   |cons f fs ih=>intro i σ;rw[bP];simp only[Bool.false_eq_true,if_false];exact ih _ _
  rw[hid]
 |
  f::fs,i,j+1,σ,σ',hl,hf,hx,hd=>by
  rw[bP]
  refine mz hw (j:=j) ?_ (by simpa using hf) (by rw[show i+1+j=i+(j+1) from by omega];exact hx) (fun k g hk hjk hxk=>hd (k+1) g (by simpa using hk) (by omega) (by rw[show i+(k+1)=i+1+k from by omega];exact hxk))
  split<;>simp[tH,hl]
theorem mA{X:Nat→Bool}{b:Nat}{fi:aZ}(hw:b∈wrote fi.hw):∀{fs:List aZ}{i j:Nat}{σ σ':St},σ.hp.length=σ'.hp.length→fs[j]? =some fi→X (i+j)=true→(∀(k:Nat)(f:aZ),fs[k]? =some f→j<k→X (i+k)=true→b∉wrote f.hw)→
 (bP X i fs σ).hp[b]? =(σ'.app fi).hp[b]?
 |[],_,_,_,_,_,h,_,_=>by simp at h
 |
  f::fs,i,0,σ,σ',hl,hf,hx,hd=>by
  simp at hf;subst hf
  rw[bP]
  simp only[Nat.add_zero] at hx
  rw[hx]
  have:(bP X (i+1) fs (σ.app f)).hp[b]? =(bP (fun _=>false) (i+1) fs (σ'.app f)).hp[b]? :=by
   refine oI (by simp[tI,hl]) (by rw[gS,gS];exact qq hl hw) (fun k g hk hne=>?_)
   refine hd (k+1) g (by simpa using hk) (by omega) ?_
   rw[show i+(k+1)=i+1+k from by omega]
   simpa using hne
  rw[if_pos rfl,this]
  have hid:∀(fs:List aZ)(i:Nat)(σ:St),bP (fun _=>false) i fs σ=σ:=by
   intro fs
   induction fs with
   |nil=>intro i σ;rfl
   |cons f fs ih=>intro i σ;rw[bP];simp only[Bool.false_eq_true,if_false];exact ih _ _
  rw[hid]
 |
  f::fs,i,j+1,σ,σ',hl,hf,hx,hd=>by
  rw[bP]
  refine mA hw (j:=j) ?_ (by simpa using hf) (by rw[show i+1+j=i+(j+1) from by omega];exact hx) (fun k g hk hjk hxk=>hd (k+1) g (by simpa using hk) (by omega) (by rw[show i+(k+1)=i+1+k from by omega];exact hxk))
  split<;>simp[tI,hl]
end Go.Abs
namespace Go.Abs
def FI:Option ah→List Nat
 |some k=>k.ids
 |none=>[]
def yy:List (Nat×Option ah)→List Nat
 |[]=>[]
 |(_,k)::l=>FI k++yy l
def aZ.Ec(f:aZ):List Nat:=f.v.ids++yy f.hw
theorem oJ{σ:St}{d:Nat}:d∉σ.ids↔(∀(i:Nat)(x:AV),σ.tm[i]? =some x→d∉x.ids)∧(∀x∈σ.df,d∉x.ids)∧(∀(i:Nat)(k:ah),σ.hp[i]? =some (some k)→d∉k.ids):=by
 constructor
 ·intro h
  exact⟨fun i x hx hm=>h (St.xb hx d hm),fun x hx hm=>h (St.BS hx d hm),fun i k hk hm=>h (St.tG hk d hm)⟩
 ·rintro⟨h1,h2,h3⟩ hm
  simp only[St.ids,List.mem_append,List.mem_flatMap,List.mem_filterMap] at hm
  rcases hm with(⟨x,hx,hd⟩|⟨x,hx,hd⟩)|⟨k,⟨o,ho,e⟩,hd⟩
  ·obtain⟨i,hi⟩:=List.getElem?_of_mem hx
   exact h1 i x hi hd
  ·exact h2 x hx hd
  ·simp at e;subst e
   obtain⟨i,hi⟩:=List.getElem?_of_mem ho
   exact h3 i k hi hd
theorem vV{d:Nat}:∀{l:List (Nat×Option ah)}{hp:List (Option ah)},(∀(i:Nat)(k:ah),hp[i]? =some (some k)→d∉k.ids)→d∉yy l→∀(i:Nat)(k:ah),(aq hp l)[i]? =some (some k)→d∉k.ids
 |[],_,h,_=>h
 |
  (b,o)::l,hp,h,hm=>by
  simp only[yy,List.mem_append,not_or] at hm
  refine vV (l:=l) (hp:=hp.set b o) ?_ hm.2
  intro i k hk
  rw[List.getElem?_set] at hk
  split at hk
  ·split at hk
   ·simp at hk;subst hk;exact hm.1
   ·cases hk
  ·exact h i k hk
theorem zw{σ:St}{f:aZ}{d:Nat}(h:σ.fresh d)(hm:d∉f.Ec)(hw:d∉wrote f.hw):(σ.app f).fresh d:=by
 simp only[aZ.Ec,List.mem_append,not_or] at hm
 obtain⟨h1,h2,h3⟩:=h
 rw[oJ] at h1
 obtain⟨a1,a2,a3⟩:=h1
 refine⟨?_,?_,h3⟩
 ·rw[oJ]
  refine⟨?_,?_,?_⟩
  ·intro i x hx
   by_cases e:f.dst=some i
   ·unfold St.app St.put at hx
    rw[e] at hx
    simp only[List.getElem?_set] at hx
    simp only[if_true] at hx
    split at hx
    ·cases hx;exact hm.1
    ·cases hx
   ·rw[jE e] at hx;exact a1 i x hx
  ·rw[xj];exact a2
  ·rw[gS];exact vV a3 hm.2
 ·intro k
  rw[gS,ep hw];exact h2 k
theorem qs{X:Nat→Bool}{d:Nat}:∀{fs:List aZ}{i:Nat}{σ:St},σ.fresh d→(∀(k:Nat)(f:aZ),fs[k]? =some f→X (i+k)=true→d∉f.Ec∧d∉wrote f.hw)→(bP X i fs σ).fresh d
 |[],_,_,h,_=>h
 |
  f::fs,i,σ,h,hd=>by
  rw[bP]
  refine qs ?_ (fun k g hk hx=>hd (k+1) g (by simpa using hk) (by rw[show i+(k+1)=i+1+k from by omega];exact hx))
  split
  ·rename_i hx
   have:=hd 0 f rfl (by simpa using hx)
   exact zw h this.1 this.2
  ·exact h
def Ie(acc:List Nat)(o:Oper):Nat:=
 o.after.toList.foldl (fun s e=>if Region.binds .any e then s ||| 2^e.on ||| acc.getD e.on 0 else s) 0
def nA:List Oper→List Nat→List Nat
 |[],acc=>acc
 |o::l,acc=>nA l (acc++[Ie acc o])
theorem qt{X:Nat→Bool}{acc:List Nat}(hacc:∀j k,X j=true→(acc.getD j 0).testBit k=true→X k=true):∀(l:List Edge)(s:Nat),(∀e∈l,Region.binds .any e=true→X e.on=true)→(∀k,s.testBit k=true→X k=true)→
 ∀k,(l.foldl (fun s e=>if Region.binds .any e then s ||| 2^e.on ||| acc.getD e.on 0 else s) s).testBit k=true→X k=true
 |[],s,_,hs=>hs
 |
  e::l,s,hl,hs=>by
  refine qt hacc l _ (fun e' he'=>hl e' (List.mem_cons_of_mem _ he')) ?_
  intro k hk
  simp only at hk
  split at hk
  ·rename_i hb
   have hX:=hl e (List.mem_cons_self ..) hb
   simp only[Nat.testBit_or,Bool.or_eq_true,Nat.testBit_two_pow] at hk
   rcases hk with(hk|hk)|hk
   ·exact hs k hk
   ·have:=of_decide_eq_true hk;subst this;exact hX
   ·exact hacc e.on k hX hk
  ·exact hs k hk
theorem kv{X:Nat→Bool}:∀(l:List Oper)(acc:List Nat),(∀j k,X j=true→(acc.getD j 0).testBit k=true→X k=true)→
 (∀j o,l[j]? =some o→X (acc.length+j)=true→∀e∈o.after.toList,Region.binds .any e=true→X e.on=true)→
 ∀j k,X j=true→((nA l acc).getD j 0).testBit k=true→X k=true
 |[],_,h,_=>h
 |
  o::l,acc,h,hc=>by
  refine kv l _ ?_ ?_
  ·intro j k hj hk
   rw[List.getD_eq_getElem?_getD,List.getElem?_append] at hk
   split at hk
   ·rw[←List.getD_eq_getElem?_getD] at hk;exact h j k hj hk
   ·by_cases e:j=acc.length
    ·subst e
     simp at hk
     exact qt h o.after.toList 0 (hc 0 o rfl (by simpa using hj)) (fun k hk=>by simp at hk) k hk
    ·rw[List.getElem?_eq_none (by simp;omega)] at hk
     simp at hk
  ·intro j o' ho hx
   exact hc (j+1) o' (by simpa using ho) (by rw[List.length_append,List.length_singleton] at hx;rw[show acc.length+(j+1)=acc.length+1+j from by omega];exact hx)
def dY:List Nat→List Nat→Bool
 |[],_=>false
 |x::l,m=>bQ x m||dY l m
theorem nQ{d:Nat}:∀{l:List Nat},d∈l→bQ d l=true
 |
  x::l,h=>by
  simp only[bQ,Bool.or_eq_true]
  cases h with
  |head=>exact Or.inl (Nat.beq_refl d)
  |tail _ h=>exact Or.inr (nQ h)
theorem mB{d:Nat}:∀{l m:List Nat},d∈l→d∈m→dY l m=true
 |
  x::l,m,h,hm=>by
  simp only[dY,Bool.or_eq_true]
  cases h with
  |head=>exact Or.inl (nQ hm)
  |tail _ h=>exact Or.inr (mB h hm)
def aZ.wt(f:aZ):List Nat:=f.dst.toList
def aZ.wb(f:aZ):List Nat:=wrote f.hw++f.fr
def mC(f g:aZ):Bool:=
 dY f.wt (g.rt++g.wt)||dY f.rt g.wt||dY f.wb (g.rb++g.wb)||dY f.rb g.wb||dY f.fr g.Ec
def j9(masks:Nat)(g:aZ):Nat→List aZ→Bool
 |_,[]=>true
 |i,f::fs=>(!mC f g||masks.testBit i)&& !dY g.fr (f.Ec++wrote f.hw)&&j9 masks g (i+1) fs
def mD(masks:List Nat)(all:List aZ):Nat→List aZ→Bool
 |_,[]=>true
 |j,g::fs=>j9 (masks.getD j 0) g 0 (all.take j)&&mD masks all (j+1) fs
theorem nR{m:Nat}{g:aZ}:∀{fs:List aZ}{i:Nat},j9 m g i fs=true→∀k f,fs[k]? =some f→(mC f g=true→m.testBit (i+k)=true)∧dY g.fr (f.Ec++wrote f.hw)=false
 |[],_,_,k,f,h=>by simp at h
 |
  f0::fs,i,h,k,f,hk=>by
  simp only[j9,Bool.and_eq_true,Bool.or_eq_true,Bool.not_eq_true'] at h
  cases k with
  |zero=>simp at hk;subst hk;exact⟨fun hc=>by rcases h.1.1 with h1|h1;rw[hc] at h1;cases h1;exact h1,h.1.2⟩
  |succ k=>have:=nR h.2 k f (by simpa using hk);rw[show i+(k+1)=i+1+k from by omega];exact this
theorem nS{masks:List Nat}{all:List aZ}:∀{fs:List aZ}{j:Nat},mD masks all j fs=true→∀k g,fs[k]? =some g→j9 (masks.getD (j+k) 0) g 0 (all.take (j+k))=true
 |[],_,_,k,g,h=>by simp at h
 |
  g0::fs,j,h,k,g,hk=>by
  simp only[mD,Bool.and_eq_true] at h
  cases k with
  |zero=>simp at hk;subst hk;exact h.1
  |succ k=>have:=nS h.2 k g (by simpa using hk);rw[show j+(k+1)=j+1+k from by omega];exact this
def rX(ops:List Oper):Nat→Bool:=fun j=>match ops[j]? with
 |some o=>o.after.toList.all fun e=> !Region.binds .any e||Nat.blt e.on j
 |none=>true
def qu(ops:Array Oper)(fs:List aZ):Bool:=
 Nat.beq fs.length ops.size&&mD (nA ops.toList []) fs 0 fs&&(List.range ops.size).all (rX ops.toList)
theorem gf.nth{P:Program}{gl:Ctx}{ops:Array Oper}:∀{fs:List aZ}{i:Nat}{σ σ':St},gf P gl ops i fs σ σ'→∀(k:Nat)(f:aZ),fs[k]? =some f→FH P gl ops (i+k) f (bP (fun x=>decide (x<i+k)) i fs σ)
 |[],_,_,_,_,k,f,h=>by simp at h
 |
  g::fs,i,σ,σ',⟨h1,h2,h3⟩,k,f,hk=>by
  cases k with
  |
   zero=>
   simp at hk;subst hk
   rw[bP]
   simp only[Nat.add_zero,Nat.lt_irrefl,decide_false,Bool.false_eq_true,if_false]
   have hid:∀(fs:List aZ)(j:Nat)(σ:St),i<j→bP (fun x=>decide (x<i)) j fs σ=σ:=by
    intro fs
    induction fs with
    |nil=>intro j σ _;rfl
    |cons f fs ih=>intro j σ hj;rw[bP,if_neg (by simp;omega)];exact ih _ _ (by omega)
   rw[hid fs (i+1) σ (by omega)];exact h1
  |
   succ k=>
   have:=gf.nth h3 k f (by simpa using hk)
   rw[bP,if_pos (by simp)]
   rw[show i+(k+1)=i+1+k from by omega]
   exact this
theorem gf.last{P:Program}{gl:Ctx}{ops:Array Oper}:∀{fs:List aZ}{i:Nat}{σ σ':St},gf P gl ops i fs σ σ'→∀{X:Nat→Bool},(∀k,i≤k→k<i+fs.length→X k=true)→σ'=bP X i fs σ
 |[],_,_,_,h,_,_=>h
 |
  f::fs,i,σ,σ',⟨_,_,h⟩,X,hX=>by
  rw[bP,if_pos (hX i (Nat.le_refl _) (by simp))]
  exact gf.last h (fun k h1 h2=>hX k (by omega) (by simp;omega))
theorem c9{l m:List Nat}(h:dY l m=false){d:Nat}(hd:d∈l):d∉m:=fun hm=>by
 rw[mB hd hm] at h;cases h
section
variable{P:Program} {gl:Ctx} {ops:Array Oper} {fs:List aZ} {σ σ':St}
theorem xk(hok:qu ops fs=true)(_hc:gf P gl ops 0 fs σ σ')(hfr:∀(k:Nat)(f:aZ),fs[k]? =some f→∀d∈f.fr,σ.fresh d)
 {X:Nat→Bool} (hX:∀j o,ops[j]? =some o→X j=true→∀e∈o.after.toList,Region.binds .any e=true→X e.on=true)
 {i:Nat} {o:Oper} (ho:ops[i]? =some o) (hi:X i=false) (hpre:∀e∈o.after.toList,Region.binds .any e=true→X e.on=true) {f:aZ} (hf:fs[i]? =some f):
 kQ (bP (fun x=>decide (x<i)) 0 fs σ) (bP X 0 fs σ) f.rt f.rb∧(∀d∈f.fr,(bP X 0 fs σ).fresh d)∧(bP X 0 fs σ).app f=bP (fun x=>X x||x==i) 0 fs σ:=by
 simp only[qu,Bool.and_eq_true] at hok
 obtain⟨⟨hlen,hconf⟩,hedge⟩:=hok
 have hmask:∀(Y:Nat→Bool),(∀j o,ops[j]? =some o→Y j=true→∀e∈o.after.toList,Region.binds .any e=true→Y e.on=true)→∀j k,Y j=true→((nA ops.toList []).getD j 0).testBit k=true→Y k=true:=by
  intro Y hY
  refine kv ops.toList [] (fun j k _ hk=>by simp at hk) ?_
  intro j o' ho' hj
  simp only[List.length_nil,Nat.zero_add] at hj
  exact hY j o' (by simpa using ho') hj
 have pair:∀(k j:Nat)(g h:aZ),k<j→fs[k]? =some g→fs[j]? =some h→(mC g h=true→((nA ops.toList []).getD j 0).testBit k=true)∧dY h.fr (g.Ec++wrote g.hw)=false:=by
  intro k j g h hkj hg hh
  have:=nS hconf j h hh
  have:=nR this k g (by rw[List.getElem?_take,if_pos (by omega)];exact hg)
  simpa using this
 have early:∀(k:Nat)(g:aZ),fs[k]? =some g→k<i→X k=false→mC g f=false:=by
  intro k g hg hki hXk
  cases hcf:mC g f with
  |false=>rfl
  |
   true=>
   have hm:=(pair k i g f hki hg hf).1 hcf
   have:=hmask (fun x=>X x||x==i) (by
    intro j o' ho' hj e he hb
    simp only[Bool.or_eq_true,beq_iff_eq] at hj ⊢
    rcases hj with hj|hj
    ·exact Or.inl (hX j o' ho' hj e he hb)
    ·subst hj;rw[ho] at ho';cases ho';exact Or.inl (hpre e he hb)) i k (by simp) hm
   simp only[Bool.or_eq_true,beq_iff_eq] at this
   rcases this with h|h
   ·rw[hXk] at h;cases h
   ·omega
 have late:∀(k:Nat)(g:aZ),fs[k]? =some g→i<k→X k=true→mC f g=false:=by
  intro k g hg hki hXk
  cases hcf:mC f g with
  |false=>rfl
  |
   true=>
   have hm:=(pair i k f g hki hf hg).1 hcf
   have:=hmask X hX k i hXk hm
   rw[hi] at this;cases this
 have cf:∀{g h:aZ},mC g h=false→(∀t,g.dst=some t→t∉h.rt∧h.dst≠some t)∧(∀t,h.dst=some t→t∉g.rt)∧(∀b∈g.wb,b∉h.rb∧b∉h.wb)∧(∀b∈h.wb,b∉g.rb)∧(∀b∈g.fr,b∉h.Ec):=by
  intro g h hc
  simp only[mC,Bool.or_eq_false_iff] at hc
  obtain⟨⟨⟨⟨h1,h2⟩,h3⟩,h4⟩,h5⟩:=hc
  refine⟨?_,?_,?_,?_,fun b hb=>c9 h5 hb⟩
  ·intro t ht
   have:=c9 h1 (d:=t) (by simp[aZ.wt,ht])
   simp only[List.mem_append,not_or,aZ.wt,Option.mem_toList] at this
   exact⟨this.1,this.2⟩
  ·intro t ht hm
   exact c9 h2 hm (by simp[aZ.wt,ht])
  ·intro b hb
   have:=c9 h3 hb
   simpa using this
  ·intro b hb hm
   exact c9 h4 hm hb
 refine⟨⟨?_,?_,?_,?_⟩,?_,?_⟩
 ·rw[oF,oF]
 ·rw[oG,oG]
 ·intro t ht
  refine oH rfl rfl (fun k g hg hne=>?_)
  simp only[Nat.zero_add] at hne
  intro hd
  rcases Nat.lt_trichotomy k i with h|h|h
  ·have hXk:X k=false:=by
    cases hx:X k with
    |false=>rfl
    |true=>simp[hx,h] at hne
   exact((cf (early k g hg h hXk)).1 t hd).1 ht
  ·subst h;simp[hi] at hne
  ·have hXk:X k=true:=by
    cases hx:X k with
    |true=>rfl
    |false=>simp[hx] at hne;omega
   exact(cf (late k g hg h hXk)).2.1 t hd ht
 ·intro b hb
  refine oI rfl rfl (fun k g hg hne=>?_)
  simp only[Nat.zero_add] at hne
  intro hd
  rcases Nat.lt_trichotomy k i with h|h|h
  ·have hXk:X k=false:=by
    cases hx:X k with
    |false=>rfl
    |true=>simp[hx,h] at hne
   exact((cf (early k g hg h hXk)).2.2.1 b (by simp[aZ.wb,hd])).1 hb
  ·subst h;simp[hi] at hne
  ·have hXk:X k=true:=by
    cases hx:X k with
    |true=>rfl
    |false=>simp[hx] at hne;omega
   exact(cf (late k g hg h hXk)).2.2.2.1 b (by simp[aZ.wb,hd]) hb
 ·intro d hd
  refine qs (hfr i f hf d hd) (fun k g hg hx=>?_)
  simp only[Nat.zero_add] at hx
  rcases Nat.lt_trichotomy k i with h|h|h
  ·have hp:=pair k i g f h hg hf
   have:=c9 hp.2 hd
   simpa using this
  ·subst h;rw[hi] at hx;cases hx
  ·have:=cf (late k g hg h hx)
   refine⟨fun hm=>this.2.2.2.2 d hd hm,fun hw=>(this.2.2.1 d (by simp[aZ.wb,hd])).2 (by simp[aZ.wb,hw])⟩
 ·have hlt:i<fs.length:=(List.getElem?_eq_some_iff.1 hf).1
  have tmEq:∀t:Nat,((bP X 0 fs σ).app f).tm[t]? =(bP (fun x=>X x||x==i) 0 fs σ).tm[t]? :=by
   intro t
   by_cases hd:f.dst=some t
   ·symm
    refine mz hd (j:=i) (by rw[oF]) hf (by simp) (fun k g hg hik hxk=>?_)
    simp only[Nat.zero_add,Bool.or_eq_true,beq_iff_eq] at hxk
    have hXk:X k=true:=hxk.resolve_right (by omega)
    exact((cf (late k g hg hik hXk)).1 t hd).2
   ·rw[jE hd]
    refine oH rfl rfl (fun k g hg hne=>?_)
    simp only[Nat.zero_add] at hne
    have:k=i:=by
     by_cases e:k=i
     ·exact e
     ·simp[e] at hne
    subst this
    rw[hf] at hg;cases hg
    exact hd
  have hpEq:∀b:Nat,((bP X 0 fs σ).app f).hp[b]? =(bP (fun x=>X x||x==i) 0 fs σ).hp[b]? :=by
   intro b
   by_cases hd:b∈wrote f.hw
   ·symm
    refine mA hd (j:=i) (by rw[oG]) hf (by simp) (fun k g hg hik hxk=>?_)
    simp only[Nat.zero_add,Bool.or_eq_true,beq_iff_eq] at hxk
    have hXk:X k=true:=hxk.resolve_right (by omega)
    intro hw
    exact((cf (late k g hg hik hXk)).2.2.1 b (by simp[aZ.wb,hd])).2 (by simp[aZ.wb,hw])
   ·rw[gS,ep hd]
    refine oI rfl rfl (fun k g hg hne=>?_)
    simp only[Nat.zero_add] at hne
    have:k=i:=by
     by_cases e:k=i
     ·exact e
     ·simp[e] at hne
    subst this
    rw[hf] at hg;cases hg
    exact hd
  have e1:=List.ext_getElem? tmEq
  have e2:=List.ext_getElem? hpEq
  have e3:((bP X 0 fs σ).app f).df=(bP (fun x=>X x||x==i) 0 fs σ).df:=by rw[xj,tK,tK]
  cases h1:(bP X 0 fs σ).app f
  cases h2:bP (fun x=>X x||x==i) 0 fs σ
  rw[h1] at e1 e2 e3
  rw[h2] at e1 e2 e3
  simp only at e1 e2 e3
  rw[e1,e2,e3]
end
def fm(l:Array Bool):Nat:=(l.toList.filter (·==false)).length
theorem kR:∀(m:List Bool)(i:Nat),m[i]? =some false→((m.set i true).filter (·==false)).length+1=(m.filter (·==false)).length
 |[],_,h=>by simp at h
 |x::m,0,h=>by simp at h;subst h;simp
 |
  x::m,i+1,h=>by
  have:=kR m i (by simpa using h)
  simp only[List.set_cons_succ,List.filter_cons]
  cases x<;>simp<;>simpa using this
theorem jF{l:Array Bool}{i:Nat}(h:l.getD i true=false):fm (l.setIfInBounds i true)+1=fm l:=by
 have hi:i<l.size:=by
  rcases Nat.lt_or_ge i l.size with h'|h'
  ·exact h'
  ·simp[Array.getElem?_eq_none h'] at h
 have hv:l[i]? =some false:=by
  simp[hi] at h ⊢;exact h
 unfold fm
 rw[Array.toList_setIfInBounds]
 exact kR _ i (by simpa using hv)
theorem kS{l:Array Bool}(h:fm l=0){i:Nat}(hi:i<l.size):l.getD i false=true:=by
 unfold fm at h
 rw[List.length_eq_zero_iff,List.filter_eq_nil_iff] at h
 have:=h l[i] (by simp)
 simp[hi] at this ⊢
 exact this
theorem vW{P:Program}{gl:Ctx}{ops:Array Oper}{fs:List aZ}{σ σ':St}(hok:qu ops fs=true)(hc:gf P gl ops 0 fs σ σ')(hfr:∀(k:Nat)(f:aZ),fs[k]? =some f→∀d∈f.fr,σ.fresh d){Q:Exit→Act→World→Prop}:
 ∀(fuel:Nat)(listed:Array Bool),listed.size=ops.size→fm listed≤fuel→
  (∀j o,ops[j]? =some o→listed.getD j false=true→∀e∈o.after.toList,Region.binds .any e=true→listed.getD e.on false=true)→
  ∀{E:Env}{a:Act}{w:World},cE gl (bP (fun x=>listed.getD x false) 0 fs σ) E a w→
   (∀E' a' w',cE gl σ' E' a' w'→Ext gl.md (Own (bP (fun x=>listed.getD x false) 0 fs σ).hp E) E w (Own σ'.hp E') E' w'→Q .normal a' w')→wpAnyIn (Wd gl) 0 P .any ops Q fuel listed a w:=by
 have hlen:fs.length=ops.size:=by
  simp only[qu,Bool.and_eq_true] at hok;exact Nat.eq_of_beq_eq_true hok.1.1
 have hedge:∀j o,ops[j]? =some o→∀e∈o.after.toList,Region.binds .any e=true→e.on<j:=by
  intro j o ho e he hb
  simp only[qu,Bool.and_eq_true,List.all_eq_true,List.mem_range] at hok
  have hj:j<ops.size:=(Array.getElem?_eq_some_iff.1 ho).1
  have:=hok.2 j hj
  unfold rX at this
  rw[show ops.toList[j]? =some o from by simpa using ho] at this
  simp only[List.all_eq_true] at this
  have:=this e he
  simp only[hb,Bool.not_true,Bool.false_or] at this
  simp[Nat.blt] at this;omega
 have done:∀listed:Array Bool,listed.size=ops.size→Region.ready .any ops listed= []→∀k,k<ops.size→listed.getD k false=true:=by
  intro listed hs hr
  have key:∀n k,k<n→k<ops.size→listed.getD k false=true:=by
   intro n
   induction n with
   |zero=>intro k hk;omega
   |
    succ n ih=>
    intro k hk hks
    cases hl:listed.getD k false with
    |true=>rfl
    |
     false=>
     exfalso
     have hm:k∈Region.ready .any ops listed:=by
      rw[mem_ready]
      refine⟨?_,ops[k],by simp[hks],?_⟩
      ·simp[hs▸hks] at hl ⊢;exact hl
      ·intro e he hb
       have hlt:=hedge k ops[k] (by simp[hks]) e (by simpa using he) hb
       exact ih e.on (by omega) (by omega)
     rw[hr] at hm;cases hm
  exact fun k hk=>key (k+1) k (by omega) hk
 have fin:∀listed:Array Bool,listed.size=ops.size→Region.ready .any ops listed= []→σ'=bP (fun x=>listed.getD x false) 0 fs σ:=by
  intro listed hs hr
  exact hc.last (fun k _ hk=>done listed hs hr k (by omega))
 intro fuel
 induction fuel with
 |
  zero=>
  intro listed hs hu hcl E a w hg hq
  have hall:∀k,k<ops.size→listed.getD k false=true:=fun k hk=>kS (by omega) (by omega)
  have hr:Region.ready .any ops listed= []:=by
   rw[List.eq_nil_iff_forall_not_mem]
   intro k hk
   rw[mem_ready] at hk
   obtain⟨h1,o,h2,_⟩:=hk
   have hlt:k<ops.size:=(Array.getElem?_eq_some_iff.1 h2).1
   have:=hall k hlt
   simp[hs▸hlt] at h1 this
   rw[this] at h1;cases h1
  refine⟨hr,?_⟩
  have e:=fin listed hs hr
  rw[←e] at hg hq
  exact hq E a w hg (Ext.refl _ _ _)
 |
  succ fuel ih=>
  intro listed hs hu hcl E a w hg hq
  refine⟨fun hr=>?_,fun i hi=>?_⟩
  ·have e:=fin listed hs hr
   rw[←e] at hg hq
   exact hq E a w hg (Ext.refl _ _ _)
  ·rw[mem_ready] at hi
   obtain⟨h1,o,h2,h3⟩:=hi
   have hlt:i<ops.size:=(Array.getElem?_eq_some_iff.1 h2).1
   have hif:listed.getD i false=false:=by simp[hs▸hlt] at h1 ⊢;exact h1
   obtain⟨f,hf⟩:∃f,fs[i]? =some f:=⟨fs[i]'(by omega),by simp[hlen,hlt]⟩
   obtain⟨hA,hF,hR⟩:=xk hok hc hfr (X:=fun x=>listed.getD x false) hcl h2 hif (fun e he hb=>h3 e (by simpa using he) hb) hf
   have hop:=hc.nth i f hf
   simp only[Nat.zero_add] at hop
   refine hop _ hA hF E a w hg _ Q ?_
   intro E' a' w' hg' hx
   have aq:∀x,(listed.getD x false||x==i)=(listed.setIfInBounds i true).getD x false:=by
    intro x
    by_cases e:x=i
    ·subst e;simp[hs,hlt]
    ·rw[getD_set_ne false (fun h=>e h.symm)];simp[e]
   have hfun:(fun x=>listed.getD x false||x==i)=fun x=>(listed.setIfInBounds i true).getD x false:=funext aq
   rw[hR,hfun] at hg' hx
   refine ih (listed.setIfInBounds i true) (by simp[hs]) (by have:=jF h1;omega) ?_ hg' (fun E2 a2 w2 hg2 hx2=>hq E2 a2 w2 hg2 (hx.trans hx2))
   intro j o' ho' hj e he hb
   by_cases e':j=i
   ·subst e'
    rw[h2] at ho';cases ho'
    exact getD_set_true (h3 e (by simpa using he) hb)
   ·rw[getD_set_ne false (fun h=>e' h.symm)] at hj
    exact getD_set_true (hcl j o' ho' hj e he hb)
def qv(σ:St)(fs:List aZ):Bool:=fs.all fun f=>f.fr.all fun d=>σ.ny d
theorem cE.drew{gl:Ctx}{σ:St}{E:Env}{a:Act}{w:World}(h:cE gl σ E a w):cE gl σ E a {w with drawn:=w.drawn+1}∧Ext gl.md (Own σ.hp E) E w (Own σ.hp E) E {w with drawn:=w.drawn+1}:=by
 have kp:bh E w E {w with drawn:=w.drawn+1}:=⟨fun _ _=>rfl,fun _ h=>h⟩
 refine⟨h.carry (hp:=σ.hp) kp (fun _ _=>⟨rfl,rfl,rfl⟩) ⟨fun b k hb=>RB.mono kp (fun _ _=>⟨rfl,rfl,rfl⟩) (fun _ _=>rfl) (h.hw.bp b k hb),h.hw.sep,h.hw.eV,h.hw.slt,h.hw.gQ kp⟩,⟨rfl,Tp.s rfl rfl,rfl,Nat.le_refl _,fun _ _ _=>rfl,fun _ h=>h,fun _ h=>Or.inl h,fun _ h=>Or.inl h,fun _ _=>⟨rfl,rfl,rfl⟩⟩⟩
theorem xl{P:Program}{G:bF}(T:aV P G){gl:Ctx}{ops:Array Oper}{id:Nat}{fs:List aZ}{σ σ':St}(hok:qu ops fs=true)(hfr:qv σ fs=true)(hc:gf P gl ops 0 fs σ σ'){Q:Exit→Act→World→Prop}{E:Env}{a:Act}{w:World}(hg:cE gl σ E a w)
 (hq:∀E' a' w',cE gl σ' E' a' w'→Ext gl.md (Own σ.hp E) E w (Own σ'.hp E') E' w'→Q .normal a' w'):(Code.region id ops true).wpIn (Wd gl) 0 P Q a w:=by
 refine wpIn_region_any T.bm ?_
 have hfr':∀(k:Nat)(f:aZ),fs[k]? =some f→∀d∈f.fr,σ.fresh d:=by
  intro k f hk d hd
  simp only[qv,List.all_eq_true] at hfr
  exact St.my (hfr f (List.mem_of_getElem? hk) d hd)
 obtain⟨hg',hx'⟩:=hg.drew
 have hid:∀(fs:List aZ)(i:Nat)(σ:St),bP (fun x=>(Array.replicate ops.size false).getD x false) i fs σ=σ:=by
  intro fs
  induction fs with
  |nil=>intro i σ;rfl
  |
   cons f fs ih=>
   intro i σ
   rw[bP]
   have:(Array.replicate ops.size false).getD i false=false:=by
    rcases Nat.lt_or_ge i ops.size with h|h<;>simp[h]
   rw[this];simp only[Bool.false_eq_true,if_false];exact ih _ _
 refine vW hok hc hfr' ops.size _ (by simp) ?_ ?_ (E:=E) (by rw[hid];exact hg') (by rw[hid];exact fun E2 a2 w2 h1 h2=>hq E2 a2 w2 h1 (hx'.trans h2))
 ·unfold fm;simp
 ·intro j o ho hj
  have:(Array.replicate ops.size false).getD j false=false:=by
   rcases Nat.lt_or_ge j ops.size with h|h<;>simp[h]
  rw[this] at hj;cases hj
end Go.Abs
namespace Go.Abs
structure bx where
 v:AV
 hw:List (Nat×Option ah)
 fr:List Nat
 vc:List Prop
def bx.one(v:AV):bx:=⟨v,[],[],[]⟩
def bx.FZ(x:AV×List Prop):bx:=⟨x.1,[],[],x.2⟩
def za(op:UnOp):AV→Option AV
 |
  .val .bool b=>match op with
  | .not=>some (.val .bool (!b))
  |_=>none
 |
  .val (.int k) n=>match op with
  | .neg=>some (.val (.int k) (k.wrap (0 -n)))
  | .xor=>some (.val (.int k) (an .xor k (if k.signed then-1 else k.max) n))
  |_=>none
 |_=>none
def mX(G:bF)(s d:TypeId)(x:AV):Option AV:=
 match x,G.at s,G.at d with
 |
  .val (.int _) n,some _,some td=>match td.ty with
  | .int k=>some (.val (.int k) (k.wrap n))
  |_=>none
 |_,_,_=>none
def AV.nth:AV→Nat→Option AV
 | .cons a _,0=>some a
 | .cons _ b,n+1=>b.nth n
 |_,_=>none
def AV.DM:AV→Bool
 | .bot| .opt _ _=>false
 |_=>true
def lq(P:Program)(G:bF)(d:Nat)(op:Op)(ev:Operand→AV)(hb:Nat→Option ah):Option bx:=
 match op with
 | .move x| .assign x=>if(ev x).DM then some (.one (ev x)) else none
 | .alloc e=>(G.at e).map fun td=>⟨.ptr d [],[(d,some (.var td.ty td.ty.zero))],[d],[]⟩
 |
  .box e x=>match G.at e with
  |some td=>if(ev x).plain&&(ev x).bB td.ty then some ⟨.ptr d [],[(d,some (.var td.ty (ev x)))],[d],[]⟩ else none
  |none=>none
 | .load t a=>(du G hb t (ev a)).map .one
 | .store t a x=>if(ev x).plain then(kq G hb t (ev a) (ev x)).map fun y=>⟨.bot,[(y.1,some y.2)],[],[]⟩ else none
 |
  .nilCheck x=>match ev x with
  | .ptr b p=>some (.one (.ptr b p))
  | .dJ t y=>some (.one (.dJ t y))
  |_=>none
 | .binOp o t x y _=>(nK P t o (ev x) (ev y)).map .FZ
 | .unOp o _ x=>(za o (ev x)).map .one
 | .convert s t x=>(mX G s t (ev x)).map .one
 | .fieldAddr t x i=>(dv G hb t i (ev x)).map .one
 | .indexAddr t x i=>(eL G hb t (ev x) (ev i)).map .FZ
 |
  .extract x i=>match ev x with
  | .bJ l=>(l.nth i).map .one
  |_=>none
 |
  .pick c x y=>match ev c with
  | .val .bool true=>if(ev x).plain then some (.one (ev x)) else none
  | .val .bool false=>if(ev y).plain then some (.one (ev y)) else none
  |_=>none
 | .call {callee:=.builtin .len,args:=⟨[x]⟩,argTypes:=⟨[t]⟩}=>(rU G hb t (ev x)).map .one
 |_=>none
def vX(op:Op)(ev:Operand→AV):List Nat:=
 match op with
 | .load _ a| .store _ a _| .fieldAddr _ a _| .indexAddr _ a _| .slice _ a _ _ _| .convert _ _ a| .lookup _ a _ _| .mapUpdate _ a _ _| .insert _ a _ _=>(ev a).ids
 | .call c=>c.operands.toList.flatMap fun x=>(ev x).ids
 |_=>[]
def bw(P:Program)(gl:Ctx)(σ:St)(E:Env)(a:Act)(w:World)(o:Oper)(r:bx):Prop:=
 ∃nx v w' E',(execOp a.eval o).run P w= .ok nx w'∧(nx= .value v∨(nx= .skip∧v=undef))∧cE gl {σ with hp:=aq σ.hp r.hw} E' a w'∧RV E' w' r.v v∧
  Ext gl.md (Own σ.hp E) E w (Own (aq σ.hp r.hw) E') E' w'
theorem bw.same{P:Program}{gl:Ctx}{σ:St}{E:Env}{a:Act}{w:World}{o:Oper}{x:AV}{vc:List Prop}(h:cE gl σ E a w){v:Value}(hr:(execOp a.eval o).run P w= .ok (.value v) w)(hv:RV E w x v):bw P gl σ E a w o ⟨x,[],[],vc⟩:=
 ⟨_,v,w,E,hr,Or.inl rfl,h,hv,Ext.refl _ _ _⟩
theorem sW{P:Program}{E:Env}{w:World}{op:UnOp}{x r:AV}{vx:Value}(hx:RV E w x vx)(h:za op x=some r):∃v,(Op.unary op vx).run P w= .ok v w∧RV E w r v:=by
 unfold za at h
 split at h
 ·have:=RV.cC hx;subst this
  split at h<;>cases h
  exact⟨_,by simp[Op.unary],RV.bool⟩
 ·obtain⟨rfl,_⟩:=RV.bM hx
  split at h<;>cases h
  ·exact⟨_,by simp[Op.unary,Op.intArith],RV.int (cj _ _)⟩
  ·exact⟨_,by simp[Op.unary,Op.intBits];rfl,RV.int (cj _ _)⟩
 ·cases h
theorem aV.intOf{P:Program}{G:bF}(T:aV P G){t:TypeId}{td:TD}(h:G.at t=some td){k:IntKind}(hs:td.ty= .int k):P.underlying t=some (.int k):=by
 obtain⟨ii,d,_,h1,_,h2,_⟩:=T.info h
 have hagg:=cg h2
 rw[h1]
 cases hd:d with
 |int k'=>subst hd;simp only[aX] at h2;have:=Ty.ae h2;rw[hs] at this;cases this;rfl
 |struct fs=>subst hd;simp only[cd] at hagg;rw[hs] at hagg;cases hagg
 |array n e=>subst hd;simp only[cd] at hagg;rw[hs] at hagg;cases hagg
 |
  slice e=>
  subst hd
  simp only[aX] at h2
  rw[Bool.or_eq_true] at h2
  rcases h2 with h2|h2
  ·have:=Ty.ae h2;rw[hs] at this;cases this
  simp only[Bool.and_eq_true] at h2
  obtain⟨_,h2⟩:=h2
  split at h2
  ·rename_i e1 _ _;rw[hs] at e1;cases e1
  ·cases h2
 |map k e=>subst hd;simp only[aX,Bool.and_eq_true] at h2;have:=Ty.ae h2.1.1;rw[hs] at this;cases this
 |
  _=>
  subst hd
  simp only[aX] at h2
  first
   |(have:=Ty.ae h2;rw[hs] at this;cases this)
   |cases h2
theorem nb{P:Program}{G:bF}(T:aV P G){E:Env}{w:World}{s d:TypeId}{x r:AV}{vx:Value}(hx:RV E w x vx)(h:mX G s d x=some r):∃v,(convert s d vx).run P w= .ok v w∧RV E w r v:=by
 unfold mX at h
 split at h
 ·rename_i k n ts td hs hd
  split at h
  ·rename_i k' hk
   cases h
   obtain⟨rfl,_⟩:=RV.bM hx
   obtain⟨_,ds,_,h1,_⟩:=T.info hs
   have h2:=T.intOf hd hk
   exact⟨_,by simp[convert,underlying,h1,h2,Conv.intToInt],RV.int (cj _ _)⟩
  ·cases h
 ·cases h
theorem RT.nth{E:Env}{w:World}:∀{l:AV}{vs:List Value}{i:Nat}{x:AV},RT E w l vs→l.nth i=some x→∃v,vs[i]? =some v∧cN E w x v:=by
 intro l
 induction l with
 |
  cons a b ih1 ih2=>
  intro vs i x h hn
  cases vs with
  |nil=>exact h.elim
  |
   cons v vs=>
   cases i with
   |zero=>cases hn;exact⟨v,rfl,h.1⟩
   |succ i=>obtain⟨u,h1,h2⟩:=ih2 h.2 hn;exact⟨u,by simpa using h1,h2⟩
 |_=>intro vs i x h hn;simp[AV.nth] at hn
theorem qL{P:Program}{E:Env}{w:World}{op:BinOp}{t:TypeId}{x y:Operand}{vx vy:Value}{ax ay r:AV}{vc:List Prop}(hx:RV E w ax vx)(hy:RV E w ay vy)(h:nK P t op ax ay=some (r,vc)):(eqGuard op t x y vx vy).run P w= .ok () w:=by
 unfold nK at h
 split at h
 ·obtain⟨rfl,_⟩:=RV.bM hx
  obtain⟨rfl,_⟩:=RV.bM hy
  unfold eqGuard;split<;>simp
 ·have:=RV.cC hx;subst this
  have:=RV.cC hy;subst this
  unfold eqGuard;split<;>simp
 ·obtain⟨rfl,_⟩:=RV.dW hx
  obtain⟨rfl,_⟩:=RV.dW hy
  unfold eqGuard;split<;>simp
 ·cases h
theorem BY{P:Program}{G:bF}(T:aV P G){gl:Ctx}{σ:St}{E:Env}{a:Act}{w:World}(h:cE gl σ E a w){o:Oper}{d:Nat}{ev:Operand→AV}{hb:Nat→Option ah}(hB:HB hb σ.hp){r:bx}
 (hev:∀x∈o.op.operands.toList,RV E w (ev x) (a.eval x)) (hids:∀x∈o.op.operands.toList,∀b∈(ev x).ids,b∈σ.ids) (he:lq P G d o.op ev hb=some r) (hvc:eW r.vc) (hfr:∀b∈r.fr,σ.fresh b):bw P gl σ E a w o r:=by
 unfold lq at he
 split at he
 ·rename_i x hop
  split at he
  ·rename_i hp
   cases he
   exact bw.same h (v:=a.eval x) (by simp[execOp,hop]) (hev x (by simp[hop,Op.operands]))
  ·cases he
 ·rename_i x hop
  split at he
  ·rename_i hp
   cases he
   exact bw.same h (v:=a.eval x) (by simp[execOp,hop]) (hev x (by simp[hop,Op.operands]))
  ·cases he
 ·rename_i e hop
  simp only[Option.map_eq_some_iff] at he
  obtain⟨td,htd,rfl⟩:=he
  obtain⟨v,w',E',h1,h2,h3,h4⟩:=zt T h (hfr d (by simp)) htd (.tuple #[])
  exact⟨_,v,w',E',by simp[execOp,hop,h1],Or.inl rfl,h2,h3,h4⟩
 ·rename_i e x hop
  split at he
  ·rename_i td htd
   split at he
   ·rename_i hc
    cases he
    simp only[Bool.and_eq_true] at hc
    have hf:=hfr d (by simp)
    obtain⟨v,w',E',h1,h2,h3,h4⟩:=DL (P:=P) (e:=e) h hf (RV.lG hc.1 (hev x (by simp[hop,Op.operands]))) hc.2 (fun hm=>hf.1 (hids x (by simp[hop,Op.operands]) d hm))
    exact⟨_,v,w',E',by simp[execOp,hop,h1],Or.inl rfl,h2,h3,h4⟩
   ·cases he
  ·cases he
 ·rename_i t x hop
  simp only[Option.map_eq_some_iff] at he
  obtain⟨u,hu,rfl⟩:=he
  obtain⟨v,h1,h2⟩:=gC T h.hw hB (hev x (by simp[hop,Op.operands])) hu
  exact bw.same h (v:=v) (by simp[execOp,hop,h1]) h2
 ·rename_i t x y hop
  split at he
  ·rename_i hp
   simp only[Option.map_eq_some_iff] at he
   obtain⟨⟨b,k⟩,hk,rfl⟩:=he
   obtain⟨w',h1,h2,h3⟩:=vT T h hB (hev x (by simp[hop,Op.operands])) (RV.lG hp (hev y (by simp[hop,Op.operands]))) hk
   exact⟨_,undef,w',E,by simp[execOp,hop,h1],Or.inr ⟨rfl,rfl⟩,h2,trivial,h3⟩
  ·cases he
 ·rename_i x hop
  split at he
  ·rename_i b p hx
   cases he
   have hr:=hev x (by simp[hop,Op.operands])
   rw[hx] at hr
   obtain⟨g,hg,e,_⟩:=RV.atom rfl hr
   simp at e
   exact bw.same h (v:=a.eval x) (by simp[execOp,hop,e]) hr
  ·rename_i t y hx
   cases he
   have hr:=hev x (by simp[hop,Op.operands])
   rw[hx] at hr
   obtain⟨b,o',cs,e,_⟩:=RV.atom rfl hr
   simp at e
   exact bw.same h (v:=a.eval x) (by simp[execOp,hop,e]) hr
  ·cases he
 ·rename_i bo t x y t2 hop
  simp only[Option.map_eq_some_iff] at he
  obtain⟨⟨u,vc⟩,hu,rfl⟩:=he
  obtain⟨v,h1,h2⟩:=pQ (P:=P) (t:=t) (hev x (by simp[hop,Op.operands])) (hev y (by simp[hop,Op.operands])) hu hvc
  have hgd:=qL (P:=P) (t:=t) (x:=x) (y:=y) (hev x (by simp[hop,Op.operands])) (hev y (by simp[hop,Op.operands])) hu
  exact bw.same h (v:=v) (by simp[execOp,hop,hgd,h1]) h2
 ·rename_i uo t x hop
  simp only[Option.map_eq_some_iff] at he
  obtain⟨u,hu,rfl⟩:=he
  obtain⟨v,h1,h2⟩:=sW (P:=P) (hev x (by simp[hop,Op.operands])) hu
  exact bw.same h (v:=v) (by simp[execOp,hop,h1]) h2
 ·rename_i s t x hop
  simp only[Option.map_eq_some_iff] at he
  obtain⟨u,hu,rfl⟩:=he
  obtain⟨v,h1,h2⟩:=nb T (hev x (by simp[hop,Op.operands])) hu
  exact bw.same h (v:=v) (by simp[execOp,hop,h1]) h2
 ·rename_i t x i hop
  simp only[Option.map_eq_some_iff] at he
  obtain⟨u,hu,rfl⟩:=he
  obtain⟨v,h1,h2⟩:=gM T h.hw hB (hev x (by simp[hop,Op.operands])) hu
  exact bw.same h (v:=v) (by simp[execOp,hop,h1]) h2
 ·rename_i t x i hop
  simp only[Option.map_eq_some_iff] at he
  obtain⟨⟨u,vc⟩,hu,rfl⟩:=he
  obtain⟨v,h1,h2⟩:=gN T h.hw hB (hev x (by simp[hop,Op.operands])) (hev i (by simp[hop,Op.operands])) hu hvc
  exact bw.same h (v:=v) (by simp[execOp,hop,h1]) h2
 ·rename_i x i hop
  split at he
  ·rename_i l hx
   simp only[Option.map_eq_some_iff] at he
   obtain⟨u,hu,rfl⟩:=he
   have hr:=hev x (by simp[hop,Op.operands])
   rw[hx] at hr
   obtain⟨vs,e,hr⟩:=hr
   obtain⟨v,h1,h2⟩:=RT.nth hr hu
   exact bw.same h (v:=v) (by simp[execOp,hop,Instr.extract,e];rw[show vs[i]? =some v from by simpa using h1];simp) (RV.ft h2)
  ·cases he
 ·rename_i c x y hop
  split at he
  ·rename_i hc
   split at he
   ·cases he
    have hr:=hev c (by simp[hop,Op.operands])
    rw[hc] at hr
    have hb:=RV.cC hr
    exact bw.same h (v:=a.eval x) (by simp[execOp,hop,hb,asBool]) (hev x (by simp[hop,Op.operands]))
   ·cases he
  ·rename_i hc
   split at he
   ·cases he
    have hr:=hev c (by simp[hop,Op.operands])
    rw[hc] at hr
    have hb:=RV.cC hr
    exact bw.same h (v:=a.eval y) (by simp[execOp,hop,hb,asBool]) (hev y (by simp[hop,Op.operands]))
   ·cases he
  ·cases he
 ·rename_i x t hop
  simp only[Option.map_eq_some_iff] at he
  obtain⟨u,hu,rfl⟩:=he
  obtain⟨v,h1,h2⟩:=qk T (ty:=o.type) h.hw hB (hev x (by simp[hop,Op.operands,Call.operands])) hu
  refine bw.same h (v:=v) ?_ h2
  simp[execOp,hop,resolve,invoke,builtin,h1]
 ·cases he
def pK(P:Program)(gl:Ctx)(σ:St)(E:Env)(a:Act)(w:World)(o:Oper)(r:bx):Prop:=
 ∀(K:Act→World→Prop)(Q:Exit→Act→World→Prop),(∀E' v w',cE gl {σ with hp:=aq σ.hp r.hw} E' a w'→RV E' w' r.v v→Ext gl.md (Own σ.hp E) E w (Own (aq σ.hp r.hw) E') E' w'→K (a.put o.dst v) w')→o.wpIn (Wd gl) 0 P a w K Q
theorem bw.to{P:Program}{gl:Ctx}{σ:St}{E:Env}{a:Act}{w:World}{o:Oper}{r:bx}(h:bw P gl σ E a w o r)(hnd:∀c,o.op≠.defer c):pK P gl σ E a w o r:=by
 intro K Q hk
 obtain⟨nx,v,w',E',h1,h2,h3,h4,h5⟩:=h
 unfold Oper.wpIn
 refine⟨fun _ _=>trivial,?_⟩
 rw[Oper.semAt_eq _ _ _ hnd,h1]
 rcases h2 with h2|⟨h2,h2'⟩
 ·subst h2;exact hk E' v w' h3 h4 h5
 ·subst h2;subst h2';exact hk E' undef w' h3 h4 h5
def aD(E:Env)(w:World):List AV→List Value→Prop
 |[],[]=>True
 |x::xs,v::vs=>RV E w x v∧aD E w xs vs
 |_,_=>False
inductive qM where
 |ret (x:AV)
 |Ka (x:AV)
def FJ(E:Env)(w:World):qM→Ending→Prop
 | .ret x,.returned v=>RV E w x v
 | .Ka x,.panicked chain=>∃u,chain= [{v:=u,recovered:=false}]∧cN E w x u
 |_,_=>False
def dq(P:Program)(gl:Ctx)(f:FuncId)(args:List AV)(H:List (Option ah))(r:qM)(H':List (Option ah)):Prop:=
 ∀E w vs,aD E w args vs→HW gl E w H→Calls P f vs.toArray w (fun e w'=>∃E',FJ E' w' r e∧HW gl E' w' H'∧Ext gl.md (Own H E) E w (Own H' E') E' w')
theorem aD.get{E:Env}{w:World}:∀{xs:List AV}{vs:List Value},aD E w xs vs→xs.length=vs.length∧∀(i:Nat)(x:AV)(v:Value),xs[i]? =some x→vs[i]? =some v→RV E w x v
 |[],[],_=>⟨rfl,fun i x v h=>by simp at h⟩
 |[],_::_,h=>h.elim
 |_::_,[],h=>h.elim
 |
  x::xs,v::vs,⟨h1,h2⟩=>by
  obtain⟨e,hh⟩:=aD.get h2
  refine⟨by simp[e],?_⟩
  intro i y u hy hu
  cases i with
  |zero=>simp at hy hu;subst hy;subst hu;exact h1
  |succ i=>exact hh i y u (by simpa using hy) (by simpa using hu)
def Fc(P:Program)(gl:Ctx)(f:FuncId)(args:List AV)(H:List (Option ah))(r:qM)(H':List (Option ah)):Prop:=
 (∀vs w,(callFunc f vs).run P w= .ok (.enter f vs) w)∧dq P gl f args H r H'
def Fy(P:Program)(gl:Ctx)(l:Nat)(args:List AV)(H:List (Option ah))(r:qM)(H':List (Option ah)):Prop:=
 ∀E w vs,aD E w args vs→HW gl E w H→∃fn tmps assign body,(Instr.yield l vs.toArray).run P w= .ok (.round l fn tmps assign body) w∧
  RoundIn Fence.wide 0 P l fn tmps assign body w (fun e w'=>∃E',FJ E' w' r e∧HW gl E' w' H'∧Ext gl.md (Own H E) E w (Own H' E') E' w')
def KJ(P:Program)(gl:Ctx)(fn:Fn)(args:List AV)(H:List (Option ah))(r:qM)(H':List (Option ah)):Prop:=
 match fn with
 | .func f=>Fc P gl f args H r H'
 | .yield l=>Fy P gl l args H r H'
 |_=>False
def Ig:Fn→AV→AV→Bool
 | .func _,_,_=>true
 | .yield _,.nil,.nil=>true
 |_,_,_=>false
def AV.toList:AV→List AV
 | .cons a b=>a::b.toList
 |_=>[]
def dj(hb:Nat→Option ah)(b:Nat):Option ((_:Nat)×(t:Ty)×List t.den):=
 match hb b with
 |some (.row _ bs t xs)=>some ⟨bs,t,xs⟩
 |_=>none
def view(hb:Nat→Option ah):AV→Bool→Ty→Option (AV×List Nat)
 | .val t x,_,_=>some (.val t x,[])
 | .dR,_,.slice bs t=>some (.val (.slice bs t) [],[])
 |
  .own b,_,_=>match dj hb b with
  |some ⟨bs,t,xs⟩=>some (.val (.slice bs t) xs,[b])
  |none=>none
 |
  .lF b lo len,_,_=>match dj hb b with
  |some ⟨bs,t,xs⟩=>some (.val (.slice bs t) ((xs.drop lo).take len),[b])
  |none=>none
 |
  .iT b p lo len,_,.slice bs _=>match hb b with
  |
   some (.var _ v)=>match v.get p with
   |some (.val (.arr n t) xs)=>if Nat.ble (n*bs) aO&&Nat.ble n aO then some (.val (.slice bs t) ((List.drop lo xs).take len),[b]) else none
   |_=>none
  |_=>none
 |
  .ptr b p,_,_=>match hb b with
  |
   some k=>match j6 k p,(gR k).sub p with
   |
    some u,some s=>match u.a8 s with
    |some y=>some (.dJ s y,[b])
    |none=>none
   |_,_=>none
  |none=>none
 | .dJ t x,_,_=>some (.dJ t x,[])
 |
  .func fn fs cs,_,_=>match view hb fs true .unit,view hb cs true .unit with
  |some (f,l),some (c,m)=>if f.atoms&&c.atoms then some (.func fn f c,l++m) else none
  |_,_=>none
 |
  .cons a b,true,_=>match view hb a false .unit,view hb b true .unit with
  |some (x,l),some (y,m)=>some (.cons x y,l++m)
  |_,_=>none
 |
  .cons a b,false,.pair s t=>match view hb a false s,view hb b false t with
  |some (.val s' x,l),some (.val t' y,m)=>some (.val (.pair s' t') (x,y),l++m)
  |_,_=>none
 | .nil,true,_=>some (.nil,[])
 | .nil,false,_=>some (.val .unit (),[])
 | .gV,_,_=>some (.gV,[])
 | .gW,_,_=>some (.gW,[])
 |_,_,_=>none
def Env.bX(E:Env)(l:List Nat):Env:={E with S:=fun g=>E.S g∨∃b∈l,E.g b=some g}
theorem Env.dm{E:Env}{w:World}(l:List Nat):bh E w (E.bX l) w:=⟨fun _ _=>rfl,fun _ h=>Or.inl h⟩
theorem Env.fF{E:Env}{w:World}{l m:List Nat}(h:∀b∈l,b∈m):bh (E.bX l) w (E.bX m) w:=
 ⟨fun _ _=>rfl,fun _g hg=>hg.imp id (fun⟨b,hb,e⟩=>⟨b,h b hb,e⟩)⟩
theorem kD.take{w:World}{a:Addr}{cs:List Value}(h:kD w a cs)(n:Nat):kD w a (cs.take n):=by
 intro j v hj
 rw[List.getElem?_take] at hj
 split at hj
 ·exact h j v hj
 ·cases hj
theorem aB.drop{α:Type}{r:List Value→α→Prop}{n:Nat}(hn:∀vs x,r vs x→vs.length=n):∀{xs:List α}{vs:List Value}(k:Nat),aB r vs xs→aB r (vs.drop (k*n)) (xs.drop k)
 |xs,vs,0,h=>by simpa using h
 |[],vs,k+1,h=>by simp[aB] at h;subst h;simp[aB]
 |
  x::xs,vs,k+1,⟨v1,v2,e,h1,h2⟩=>by
  subst e
  have:=aB.drop hn k h2
  rw[List.drop_succ_cons,List.drop_append,List.drop_of_length_le (by rw[hn _ _ h1,Nat.add_mul];omega),List.nil_append,hn _ _ h1]
  rw[show(k+1)*n -n=k*n from by rw[Nat.add_mul];omega]
  exact this
theorem aB.take{α:Type}{r:List Value→α→Prop}{n:Nat}(hn:∀vs x,r vs x→vs.length=n):∀{xs:List α}{vs:List Value}(k:Nat),aB r vs xs→aB r (vs.take (k*n)) (xs.take k)
 |xs,vs,0,h=>by simp[aB]
 |[],vs,k+1,h=>by simp[aB] at h;subst h;simp[aB]
 |
  x::xs,vs,k+1,⟨v1,v2,e,h1,h2⟩=>by
  subst e
  have:=aB.take hn k h2
  rw[List.take_succ_cons]
  refine⟨v1,v2.take (k*n),?_,h1,this⟩
  rw[List.take_append,List.take_of_length_le (by rw[hn _ _ h1,Nat.add_mul];omega),hn _ _ h1]
  congr 2
  rw[Nat.add_mul];omega
theorem aB.part{w:World}{S:Nat→Prop}{t:Ty}{xs:List t.den}{g o:Nat}{cs:List Value}(hr:kD w ⟨g,o,none⟩ cs)(h:aB (Rel w S t) cs xs)(lo len:Nat):
 ∃cs',kD w ⟨g,o+lo*t.size,none⟩ cs'∧aB (Rel w S t) cs' ((xs.drop lo).take len):=
 ⟨_,hr.sub (lo*t.size) (len*t.size),aB.take (fun _ _ h=>Rel.len h) len (aB.drop (fun _ _ h=>Rel.len h) lo h)⟩
end Go.Abs
namespace Go.Abs
theorem gw{hb:Nat→Option ah}{b bs:Nat}{t:Ty}{xs:List t.den}(h:dj hb b=some ⟨bs,t,xs⟩):∃e,hb b=some (.row e bs t xs):=by
 unfold dj at h
 split at h
 ·rename_i e bs' t' xs' hk
  cases h
  exact⟨e,hk⟩
 ·cases h
theorem kx{gl:Ctx}{E:Env}{w:World}{hp:List (Option ah)}(hw:HW gl E w hp){hb:Nat→Option ah}(hB:HB hb hp):∀{x:AV}{m:Bool}{t:Ty}{y:AV}{l:List Nat}{vs:List Value},view hb x m t=some (y,l)→RC E w x vs→RC (E.bX l) w y vs:=by
 intro x
 induction x with
 |val t x=>intro m u y l vs h hr;simp only[view,Option.some.injEq,Prod.mk.injEq] at h;obtain⟨rfl,rfl⟩:=h;exact RC.mono (Env.dm []) (fun b hb=>by cases hb) (a:=.val t x) hr
 |
  dR=>
  intro m u y l vs h hr
  cases u with
  |
   slice bs t=>
   cases m<;>(simp only[view,Option.some.injEq,Prod.mk.injEq] at h;obtain⟨rfl,rfl⟩:=h;exact⟨none,0,by simpa[RC] using hr,Nat.le_refl _,by simp,by simp,Or.inl rfl⟩)
  |_=>cases m<;>simp[view] at h
 |
  own b=>
  intro m u y l vs h hr
  have h':(match dj hb b with|some ⟨bs,t,xs⟩=>some (AV.val (.slice bs t) xs,[b])|none=>none)=some (y,l):=by cases m<;>cases u<;>exact h
  split at h'
  ·rename_i bs t xs hv
   cases h'
   obtain⟨e,hk⟩:=gw hv
   obtain⟨h1,h2,h3,h4,a,cap,h5,h6,h7⟩:=hw.bp b _ (hB b _ hk)
   obtain⟨hr,_⟩:=hr
   rw[h5] at hr
   rcases h7 with⟨h7,h8,h9⟩|⟨g,c,h7,h8,h9,h10,h11,h12⟩
   ·subst h9;obtain⟨rfl,rfl⟩:=h7
    exact⟨none,0,hr,by simp,h2,h3,Or.inl rfl⟩
   ·refine⟨a,cap,hr,h11,h2,h3,Or.inr ⟨g,0,_,h8,Or.inr ⟨b,by simp,h7⟩,?_,aB.mono (fun _ _ h=>Rel.mono (Env.dm [b]).w (Env.dm [b] (w:=w)).S h) h12⟩⟩
    have:=kD.of_heap h9 0 (xs.length*t.size)
    simpa using this
  ·cases h'
 |
  lF b lo len=>
  intro m u y l vs h hr
  have h':(match dj hb b with|some ⟨bs,t,xs⟩=>some (AV.val (.slice bs t) ((xs.drop lo).take len),[b])|none=>none)=some (y,l):=by cases m<;>cases u<;>exact h
  split at h'
  ·rename_i bs t xs hv
   cases h'
   obtain⟨e,hk⟩:=gw hv
   obtain⟨h1,h2,h3,h4,a,cap,h5,h6,h7⟩:=hw.bp b _ (hB b _ hk)
   obtain⟨a',c',n,tt,r1,r2,r3,r4,a2,r5,r6⟩:=hr
   rw[h1] at r1;cases r1
   rw[h5] at r2;cases r2
   have hlen:((xs.drop lo).take len).length=len:=by simp;omega
   have hb1:len*bs≤aO:=Nat.le_trans (Nat.mul_le_mul_right _ (by omega)) h2
   refine⟨_,_,by rw[hlen];exact r5,by rw[hlen];omega,by rw[hlen];exact hb1,by rw[hlen];omega,?_⟩
   rcases Nat.eq_zero_or_pos len with hz|hz
   ·subst hz;exact Or.inl (by simp)
   ·rcases h7 with⟨h7,h8,h9⟩|⟨g,c,h7,h8,h9,h10,h11,h12⟩
    ·subst h9;simp at r3;omega
    ·subst h8
     have hr0:=kD.of_heap h9 0 (xs.length*t.size)
     simp only[List.drop_zero] at hr0
     obtain⟨cs',q1,q2⟩:=aB.part hr0 h12 lo len
     refine Or.inr ⟨g,0+lo*t.size,cs',?_,Or.inr ⟨b,by simp,h7⟩,q1,aB.mono (fun _ _ h=>Rel.mono (Env.dm [b]).w (Env.dm [b] (w:=w)).S h) q2⟩
     rcases r6 with r6|r6
     ·omega
     ·rw[r6]
      simp only[Option.map_some,Option.some.injEq]
      unfold Addr.add;split<;>simp_all
  ·cases h'
 |
  iT b p lo len=>
  intro m u y l vs h hr
  cases u with
  |
   slice bs u=>
   have h':(match hb b with
    |
     some (.var _ v)=>match v.get p with
     |some (.val (.arr n t) xs)=>if Nat.ble (n*bs) aO&&Nat.ble n aO then some (AV.val (.slice bs t) ((List.drop lo xs).take len),[b]) else none
     |_=>none
    |_=>none)=some (y,l):=by cases m<;>exact h
   split at h'
   ·rename_i tt v hk
    split at h'
    ·rename_i n t xs hv
     split at h'
     ·rename_i hc
      cases h'
      simp only[Bool.and_eq_true] at hc
      have hc1:=Nat.le_of_ble_eq_true hc.1
      have hc2:=Nat.le_of_ble_eq_true hc.2
      obtain⟨n2,t2,r1,r2,r3,a,cap,e,r4,r5⟩:=hr
      have hkb:=hw.bp b _ (hB b _ hk)
      obtain⟨g,s,cs,q1,q2,q3,q4,q5⟩:=mq hkb r2 (u:=.val (.arr n t) xs) hv
      rw[r1] at q2;cases q2
      have:=Ty.ae (by simpa[AV.bB] using q3)
      cases this
      obtain⟨q5a,q5b⟩:=q5
      have hlen:((List.drop lo xs).take len).length=len:=by simp;omega
      have hb1:len*bs≤aO:=Nat.le_trans (Nat.mul_le_mul_right _ (by omega)) hc1
      refine⟨a,cap,by rw[hlen];exact e,by rw[hlen];exact r4,by rw[hlen];exact hb1,by rw[hlen];omega,?_⟩
      rcases r5 with r5|⟨g',r5,r6⟩
      ·subst r5;exact Or.inl (by simp)
      ·rw[q1] at r5;cases r5
       obtain⟨cs',z1,z2⟩:=aB.part q4 q5b lo len
       exact Or.inr ⟨g,_,cs',r6,Or.inr ⟨b,by simp,q1⟩,z1,aB.mono (fun _ _ h=>Rel.mono (Env.dm [b]).w (Env.dm [b] (w:=w)).S h) z2⟩
     ·cases h'
    ·cases h'
   ·cases h'
  |_=>cases m<;>simp[view] at h
 |
  ptr b p=>
  intro m u y l vs h hr
  have h':(match hb b with
   |
    some k=>match j6 k p,(gR k).sub p with
    |
     some u,some s=>match u.a8 s with
     |some y=>some (AV.dJ s y,[b])
     |none=>none
    |_,_=>none
   |none=>none)=some (y,l):=by cases m<;>cases u<;>exact h
  split at h'
  ·rename_i k hk
   split at h'
   ·rename_i u' s hu hs
    split at h'
    ·rename_i z hz
     cases h'
     obtain⟨g,r1,r2,r3⟩:=hr
     obtain⟨g',s',cs,q1,q2,q3,q4,q5⟩:=mq (hw.bp b _ (hB b _ hk)) r3 hu
     rw[r1] at q1;cases q1
     exact⟨g,_,cs,r2,Or.inr ⟨b,by simp,r1⟩,q4,Rel.mono (Env.dm [b]).w (Env.dm [b] (w:=w)).S (RC.a8 hz q5)⟩
    ·cases h'
   ·cases h'
  ·cases h'
 |
  dJ t x=>
  intro m u y l vs h hr
  have h':some (AV.dJ t x,([]:List Nat))=some (y,l):=by cases m<;>cases u<;>exact h
  cases h'
  exact RC.mono (Env.dm []) (fun b hb=>by cases hb) hr
 |
  func fn fs cs ih1 ih2=>
  intro m u y l vs h hr
  have h':(match view hb fs true .unit,view hb cs true .unit with
   |some (f,l),some (c,m)=>if f.atoms&&c.atoms then some (AV.func fn f c,l++m) else none
   |_,_=>none)=some (y,l):=by cases m<;>cases u<;>exact h
  split at h'
  ·rename_i f l1 c l2 hf hc
   split at h'
   ·rename_i ha
    cases h'
    simp only[Bool.and_eq_true] at ha
    obtain⟨f',c',e,r1,r2,r3,r4⟩:=hr
    have q1:=RC.mono (Env.fF (by simp;intro b h;exact Or.inl h):bh (E.bX l1) w (E.bX (l1++l2)) w) (fun _ _=>⟨rfl,rfl,rfl⟩) (ih1 hf r1)
    have q2:=RC.mono (Env.fF (by simp;intro b h;exact Or.inr h):bh (E.bX l2) w (E.bX (l1++l2)) w) (fun _ _=>⟨rfl,rfl,rfl⟩) (ih2 hc r2)
    exact⟨f',c',e,q1,q2,ha.1,ha.2⟩
   ·cases h'
  ·cases h'
 |
  cons a b ih1 ih2=>
  intro m u y l vs h hr
  obtain⟨v1,v2,e,r1,r2⟩:=hr
  cases m with
  |
   true=>
   have h':(match view hb a false .unit,view hb b true .unit with
    |some (x,l),some (y,m)=>some (AV.cons x y,l++m)
    |_,_=>none)=some (y,l):=by cases u<;>exact h
   split at h'
   ·rename_i x l1 z l2 h1 h2
    cases h'
    have q1:=RC.mono (Env.fF (by simp;intro b h;exact Or.inl h):bh (E.bX l1) w (E.bX (l1++l2)) w) (fun _ _=>⟨rfl,rfl,rfl⟩) (ih1 h1 r1)
    have q2:=RC.mono (Env.fF (by simp;intro b h;exact Or.inr h):bh (E.bX l2) w (E.bX (l1++l2)) w) (fun _ _=>⟨rfl,rfl,rfl⟩) (ih2 h2 r2)
    exact⟨v1,v2,e,q1,q2⟩
   ·cases h'
  |
   false=>
   cases u with
   |
    pair s t=>
    simp only[view] at h
    split at h
    ·rename_i s' x l1 t' z l2 h1 h2
     cases h
     have q1:=RC.mono (Env.fF (by simp;intro b h;exact Or.inl h):bh (E.bX l1) w (E.bX (l1++l2)) w) (fun _ _=>⟨rfl,rfl,rfl⟩) (ih1 h1 r1)
     have q2:=RC.mono (Env.fF (by simp;intro b h;exact Or.inr h):bh (E.bX l2) w (E.bX (l1++l2)) w) (fun _ _=>⟨rfl,rfl,rfl⟩) (ih2 h2 r2)
     exact⟨v1,v2,e,q1,q2⟩
    ·cases h
   |_=>simp[view] at h
 |
  nil=>
  intro m u y l vs h hr
  cases m with
  |true=>
   have h':some (AV.nil,([]:List Nat))=some (y,l):=by cases u<;>exact h
   cases h';exact hr
  |false=>
   have h':some (AV.val .unit (),([]:List Nat))=some (y,l):=by cases u<;>exact h
   cases h';exact hr
 |gV=>
  intro m u y l vs h hr;have h':some (AV.gV,([]:List Nat))=some (y,l):=by cases m<;>cases u<;>exact h
  cases h';exact hr
 |gW=>
  intro m u y l vs h hr;have h':some (AV.gW,([]:List Nat))=some (y,l):=by cases m<;>cases u<;>exact h
  cases h';exact hr
 |_=>intro m u y l vs h hr;cases m<;>cases u<;>simp[view] at h
theorem gT{hb:Nat→Option ah}{x y:AV}{t:Ty}{l:List Nat}(h:view hb x false t=some (y,l)):y.isAgg=x.isAgg:=by
 cases x with
 |val t x=>simp only[view,Option.some.injEq,Prod.mk.injEq] at h;rw[←h.1]
 |dR=>cases t<;>simp[view] at h;rw[←h.1];rfl
 |
  own b=>
  have h':(match dj hb b with|some ⟨bs,t,xs⟩=>some (AV.val (.slice bs t) xs,[b])|none=>none)=some (y,l):=by cases t<;>exact h
  split at h'<;>cases h';rfl
 |
  lF b lo len=>
  have h':(match dj hb b with|some ⟨bs,t,xs⟩=>some (AV.val (.slice bs t) ((xs.drop lo).take len),[b])|none=>none)=some (y,l):=by cases t<;>exact h
  split at h'<;>cases h';rfl
 |
  iT b p lo len=>
  cases t with
  |
   slice bs t=>
   simp only[view] at h
   split at h
   ·split at h
    ·split at h
     ·cases h;rfl
     ·cases h
    ·cases h
   ·cases h
  |_=>simp[view] at h
 |
  ptr b p=>
  have h':(match hb b with
   |
    some k=>match j6 k p,(gR k).sub p with
    |
     some u,some s=>match u.a8 s with
     |some y=>some (AV.dJ s y,[b])
     |none=>none
    |_,_=>none
   |none=>none)=some (y,l):=by cases t<;>exact h
  split at h'
  ·split at h'
   ·split at h'
    ·cases h';rfl
    ·cases h'
   ·cases h'
  ·cases h'
 |dJ t' x=>
  have h':some (AV.dJ t' x,([]:List Nat))=some (y,l):=by cases t<;>exact h
  cases h';rfl
 |
  func fn fs cs=>
  have h':(match view hb fs true .unit,view hb cs true .unit with
   |some (f,l),some (c,m)=>if f.atoms&&c.atoms then some (AV.func fn f c,l++m) else none
   |_,_=>none)=some (y,l):=by cases t<;>exact h
  split at h'
  ·split at h'
   ·cases h';rfl
   ·cases h'
  ·cases h'
 |
  cons a b=>
  cases t with
  |
   pair s t=>
   simp only[view] at h
   split at h
   ·cases h;rfl
   ·cases h
  |_=>simp[view] at h
 |nil=>
  have h':some (AV.val .unit (),([]:List Nat))=some (y,l):=by cases t<;>exact h
  cases h';rfl
 |gV=>
  have h':some (AV.gV,([]:List Nat))=some (y,l):=by cases t<;>exact h
  cases h';rfl
 |gW=>
  have h':some (AV.gW,([]:List Nat))=some (y,l):=by cases t<;>exact h
  cases h';rfl
 |_=>cases t<;>simp[view] at h
theorem vY{gl:Ctx}{E:Env}{w:World}{hp:List (Option ah)}(hw:HW gl E w hp){hb:Nat→Option ah}(hB:HB hb hp){x y:AV}{t:Ty}{l:List Nat}{v:Value}(h:view hb x false t=some (y,l))(hr:cN E w x v):cN (E.bX l) w y v:=by
 have ha:=gT h
 rcases hr with⟨h1,cs,e,h2⟩|⟨h1,h2⟩
 ·exact Or.inl ⟨by rw[ha];exact h1,cs,e,kx hw hB h h2⟩
 ·exact Or.inr ⟨by rw[ha];exact h1,kx hw hB h h2⟩
theorem nB{hb:Nat→Option ah}:∀{x:AV}{m:Bool}{t:Ty}{y:AV}{l:List Nat},view hb x m t=some (y,l)→∀b∈l,∃k,hb b=some k:=by
 intro x
 induction x with
 |
  own b=>
  intro m t y l h
  have h':(match dj hb b with|some ⟨bs,t,xs⟩=>some (AV.val (.slice bs t) xs,[b])|none=>none)=some (y,l):=by cases m<;>cases t<;>exact h
  split at h'<;>cases h'
  rename_i hv
  obtain⟨e,hk⟩:=gw hv
  intro c hc;simp at hc;subst hc;exact⟨_,hk⟩
 |
  lF b lo len=>
  intro m t y l h
  have h':(match dj hb b with|some ⟨bs,t,xs⟩=>some (AV.val (.slice bs t) ((xs.drop lo).take len),[b])|none=>none)=some (y,l):=by cases m<;>cases t<;>exact h
  split at h'<;>cases h'
  rename_i hv
  obtain⟨e,hk⟩:=gw hv
  intro c hc;simp at hc;subst hc;exact⟨_,hk⟩
 |
  iT b p lo len=>
  intro m t y l h
  cases t with
  |
   slice bs u=>
   have h':(match hb b with
    |
     some (.var _ v)=>match v.get p with
     |some (.val (.arr n t) xs)=>if Nat.ble (n*bs) aO&&Nat.ble n aO then some (AV.val (.slice bs t) ((List.drop lo xs).take len),[b]) else none
     |_=>none
    |_=>none)=some (y,l):=by cases m<;>exact h
   split at h'
   ·rename_i hk
    split at h'
    ·split at h'
     ·cases h';intro c hc;simp at hc;subst hc;exact⟨_,hk⟩
     ·cases h'
    ·cases h'
   ·cases h'
  |_=>cases m<;>simp[view] at h
 |
  ptr b p=>
  intro m t y l h
  have h':(match hb b with
   |
    some k=>match j6 k p,(gR k).sub p with
    |
     some u,some s=>match u.a8 s with
     |some y=>some (AV.dJ s y,[b])
     |none=>none
    |_,_=>none
   |none=>none)=some (y,l):=by cases m<;>cases t<;>exact h
  split at h'
  ·rename_i hk
   split at h'
   ·split at h'
    ·cases h';intro c hc;simp at hc;subst hc;exact⟨_,hk⟩
    ·cases h'
   ·cases h'
  ·cases h'
 |
  func fn fs cs ih1 ih2=>
  intro m t y l h
  have h':(match view hb fs true .unit,view hb cs true .unit with
   |some (f,l),some (c,m)=>if f.atoms&&c.atoms then some (AV.func fn f c,l++m) else none
   |_,_=>none)=some (y,l):=by cases m<;>cases t<;>exact h
  split at h'
  ·rename_i h1 h2
   split at h'
   ·cases h'
    intro c hc
    rcases List.mem_append.1 hc with hc|hc
    ·exact ih1 h1 c hc
    ·exact ih2 h2 c hc
   ·cases h'
  ·cases h'
 |
  cons a b ih1 ih2=>
  intro m t y l h
  cases m with
  |
   true=>
   have h':(match view hb a false .unit,view hb b true .unit with
    |some (x,l),some (y,m)=>some (AV.cons x y,l++m)
    |_,_=>none)=some (y,l):=by cases t<;>exact h
   split at h'
   ·rename_i h1 h2
    cases h'
    intro c hc
    rcases List.mem_append.1 hc with hc|hc
    ·exact ih1 h1 c hc
    ·exact ih2 h2 c hc
   ·cases h'
  |
   false=>
   cases t with
   |
    pair s t=>
    simp only[view] at h
    split at h
    ·rename_i h1 h2
     cases h
     intro c hc
     rcases List.mem_append.1 hc with hc|hc
     ·exact ih1 h1 c hc
     ·exact ih2 h2 c hc
    ·cases h
   |_=>simp[view] at h
 |
  _=>
  intro m t y l h
  cases m<;>cases t<;>simp[view] at h<;>(try (intro b hb;rw[h.2] at hb;cases hb))
def AV.eH:AV→Bool
 | .val t _=>t.flat
 | .cons a b=>a.eH&&b.eH
 | .nil=>true
 | .bJ l=>l.eH
 | .gV| .lA| .gW| .nn| .dR=>true
 |_=>false
theorem RC.flat{E E':Env}{w w':World}:∀{a:AV}{vs:List Value},a.eH=true→RC E w a vs→RC E' w' a vs:=by
 intro a
 induction a with
 |val t x=>intro vs hf h;exact Rel.flat hf h
 |
  cons a b ih1 ih2=>
  intro vs hf h
  simp only[AV.eH,Bool.and_eq_true] at hf
  obtain⟨v1,v2,e,h1,h2⟩:=h
  exact⟨v1,v2,e,ih1 hf.1 h1,ih2 hf.2 h2⟩
 |nil=>intro vs _ h;exact h
 |gV=>intro vs _ h;exact h
 |lA=>intro vs _ h;exact h
 |gW=>intro vs _ h;exact h
 |nn=>intro vs _ h;exact h
 |dR=>intro vs _ h;exact h
 |bJ l ih=>intro vs _ h;exact h.elim
 |_=>intro vs hf;simp[AV.eH] at hf
theorem cN.flat{E E':Env}{w w':World}{a:AV}{v:Value}(hf:a.eH=true)(h:cN E w a v):cN E' w' a v:=by
 rcases h with⟨h1,cs,e,h2⟩|⟨h1,h2⟩
 ·exact Or.inl ⟨h1,cs,e,RC.flat hf h2⟩
 ·exact Or.inr ⟨h1,RC.flat hf h2⟩
theorem RT.flat{E E':Env}{w w':World}:∀{a:AV}{vs:List Value},a.eH=true→RT E w a vs→RT E' w' a vs:=by
 intro a
 induction a with
 |
  cons a b ih1 ih2=>
  intro vs hf h
  simp only[AV.eH,Bool.and_eq_true] at hf
  cases vs with
  |nil=>exact h.elim
  |cons v vs=>exact⟨cN.flat hf.1 h.1,ih2 hf.2 h.2⟩
 |nil=>intro vs _ h;exact h
 |_=>intro vs _ h;exact h.elim
theorem RV.flat{E E':Env}{w w':World}{a:AV}{v:Value}(hf:a.eH=true)(h:RV E w a v):RV E' w' a v:=by
 cases a with
 |bot=>trivial
 |bJ l=>obtain⟨vs,e,h⟩:=h;exact⟨vs,e,RT.flat hf h⟩
 |opt c a=>simp[AV.eH] at hf
 |_=>exact cN.flat hf h
def BZ(G:bF)(ev:Operand→AV)(x:Operand×TypeId):AV×Ty:=(ev x.1,match x.1,G.at x.2 with| .const _,_=>.unit|_,some td=>td.ty|_,none=>.unit)
theorem aD.append{E:Env}{w:World}:∀{xs ys:List AV}{vs us:List Value},aD E w xs vs→aD E w ys us→aD E w (xs++ys) (vs++us)
 |[],_,[],_,_,h=>h
 |[],_,_::_,_,h,_=>h.elim
 |_::_,_,[],_,h,_=>h.elim
 |_::_,_,_::_,_,h,k=>⟨h.1,aD.append h.2 k⟩
theorem aD.atoms{E:Env}{w:World}:∀{l:AV}{vs:List Value},l.atoms=true→RC E w l vs→aD E w l.toList vs:=by
 intro l
 induction l with
 |
  cons a b ih1 ih2=>
  intro vs ha h
  simp only[AV.atoms,Bool.and_eq_true] at ha
  obtain⟨v1,v2,e,h1,h2⟩:=h
  subst e
  have hl:=RC.len h1
  have hs:a.size=1:=by
   cases a with
   |val t x=>cases t<;>simp[AV.atom,Ty.isAgg] at ha<;>rfl
   |_=>first|rfl|simp[AV.atom] at ha
  rw[hs] at hl
  obtain⟨v,rfl⟩:∃v,v1= [v]:=by
   match v1,hl with
   |[v],_=>exact⟨v,rfl⟩
  refine⟨RV.ft (Or.inr ⟨?_,h1⟩),ih2 ha.2 h2⟩
  cases a with
  |val t x=>cases t<;>simp[AV.atom,Ty.isAgg] at ha<;>rfl
  |_=>first|rfl|simp[AV.atom] at ha
 |nil=>intro vs _ h;simp only[RC] at h;subst h;trivial
 |_=>intro vs ha;simp[AV.atoms] at ha
theorem aD.map{E:Env}{w:World}{ev:Operand→AV}{ρ:Operand→Value}:∀(l:List Operand),(∀x∈l,RV E w (ev x) (ρ x))→aD E w (l.map ev) (l.map ρ)
 |[],_=>trivial
 |x::l,h=>⟨h x (List.mem_cons_self ..),aD.map l (fun y hy=>h y (List.mem_cons_of_mem _ hy))⟩
end Go.Abs
namespace Go.Abs
theorem rY(off:Nat):∀(cs:List Value)(k:Nat)(c:Array Value),off+k+cs.length≤c.size→
 ((cs.zipIdx k).foldl (fun(cs:Array Value)(x:Value×Nat)=>cs.setIfInBounds (off+x.2) x.1) c).toList=c.toList.take (off+k)++cs++c.toList.drop (off+k+cs.length)
 |[],k,c,_=>by simp
 |
  x::cs,k,c,h=>by
  simp only[List.length_cons] at h
  rw[List.zipIdx_cons,List.foldl_cons,rY off cs (k+1) _ (by simp;omega)]
  simp only[Array.toList_setIfInBounds,List.length_cons]
  have hl:off+k<c.toList.length:=by simp;omega
  rw[show off+(k+1)=off+k+1 from by omega,List.take_set,List.drop_set_of_lt (by omega)]
  rw[show off+k+1+cs.length=off+k+(cs.length+1) from by omega]
  rw[List.take_succ_eq_append_getElem hl]
  rw[List.set_append_right _ _ (by simp;omega)]
  simp only[List.length_take]
  rw[Nat.min_eq_left (by omega)]
  simp
theorem ky(place:Nat→Option (Nat×Nat))(cells:Array Value)(i off size:Nat)(v:Value)(rest:List (Nat×Value))(hp:place i=some (off,size))(hs:v.cells.size=size)(hb:off+size≤cells.size):
 ∃cells':Array Value,Instr.fill place cells ((i,v)::rest)=Instr.fill place cells' rest∧cells'.toList=cells.toList.take off++v.cells.toList++cells.toList.drop (off+size):=by
 refine⟨(v.cells.toList.zipIdx 0).foldl (fun(cs:Array Value)(x:Value×Nat)=>cs.setIfInBounds (off+x.2) x.1) cells,?_,?_⟩
 rotate_left
 ·have:=rY off v.cells.toList 0 cells (by simpa[hs] using hb)
  simp only[Nat.add_zero,Array.length_toList,hs] at this
  exact this
 ·simp only[Instr.fill,hp]
  rw[if_neg (by simp[hs];omega)]
  congr 1
  rw[←Array.foldl_toList]
  congr 1
  simp
def RP(E:Env)(w:World):List (Nat×AV)→List (Nat×Value)→Prop
 |[],[]=>True
 |x::xs,v::vs=>x.1=v.1∧RV E w x.2 v.2∧RP E w xs vs
 |_,_=>False
def yz(t:Ty):AV→List (Nat×AV)→Option AV
 |a,[]=>some a
 |
  a,(i,v)::l=>match t.sub [.fq i] with
  |
   some s=>if v.plain&&Nat.beq v.size s.size then(match a.set [.fq i] v with
   |some a'=>if a'.bB t then yz t a' l else none
   |none=>none) else none
  |none=>none
def vZ(t:Ty):List t.den→List (Nat×AV)→Option (List t.den)
 |xs,[]=>some xs
 |
  xs,(i,v)::l=>if v.plain then(match v.a8 t with
  |some y=>if Nat.blt i xs.length then vZ t (xs.set i y) l else none
  |none=>none) else none
def AV.xn:AV→Bool
 | .dR=>true
 | .cons a b=>a.xn||b.xn
 |_=>false
def AV.norm(a:AV)(t:Ty):AV:=if a.xn then a else match a.a8 t with
 |some y=>.val t y
 |none=>a
def ku(G:bF)(t:TypeId)(ps:List (Nat×AV)):Option AV:=
 match G.at t with
 |
  some td=>match td.ty with
  | .arr n u=>if u.pure then(vZ u (List.replicate n u.bu) ps).map fun xs=>.val (.arr n u) xs else none
  | .pair a b=>(yz (.pair a b) (Ty.zero (.pair a b)) ps).map (AV.norm · (.pair a b))
  |_=>none
 |none=>none
theorem v7{E:Env}{w:World}{t:Ty}{place:Nat→Option (Nat×Nat)}(hpl:∀i s,t.sub [.fq i]=some s→place i=some (t.off [.fq i],s.size)∧t.valid [.fq i]):
 ∀{ps:List (Nat×AV)}{vs:List (Nat×Value)}{a r:AV}{cells:Array Value},RP E w ps vs→RC E w a cells.toList→a.bB t=true→yz t a ps=some r→
  ∃cells',Instr.fill place cells vs=some cells'∧RC E w r cells'.toList∧r.bB t=true
 |
  [],[],a,r,cells,_,hr,hc,h=>by
  cases h;exact⟨cells,rfl,hr,hc⟩
 |[],_::_,_,_,_,h,_,_,_=>h.elim
 |_::_,[],_,_,_,h,_,_,_=>h.elim
 |
  (i,x)::ps,(j,v)::vs,a,r,cells,⟨e,hx,hps⟩,hr,hc,h=>by
  simp only at e;subst e
  simp only[yz] at h
  split at h
  ·rename_i s hs
   split at h
   ·rename_i hcond
    simp only[Bool.and_eq_true] at hcond
    split at h
    ·rename_i a' ha'
     split at h
     ·rename_i hc'
      obtain⟨p1,p2⟩:=hpl i s hs
      have hxc:=(RV.lG hcond.1 hx).cells
      have hlen:=RC.len hxc
      have hsz:=Nat.eq_of_beq_eq_true hcond.2
      obtain⟨s',e1,e2,e3,e4⟩:=AV.tF hxc hr hc p2 (fun s' hs'=>by rw[hs] at hs';cases hs';omega) ha'
      rw[hs] at e1;cases e1
      obtain⟨cells',f1,f2⟩:=ky place cells i _ s.size v vs p1 (by rw[←e2,Array.length_toList]) (by simpa using e3)
      rw[f1]
      rw[←f2] at e4
      exact v7 hpl hps e4 hc' h
     ·cases h
    ·cases h
   ·cases h
  ·cases h
theorem qw{E:Env}{w:World}{t:Ty}:
 ∀{ps:List (Nat×AV)}{vs:List (Nat×Value)}{xs ys:List t.den}{cells:Array Value},RP E w ps vs→aB (Rel w E.S t) cells.toList xs→vZ t xs ps=some ys→
  ∃cells',Instr.fill (fun i=>some (i*t.size,t.size)) cells vs=some cells'∧aB (Rel w E.S t) cells'.toList ys∧ys.length=xs.length
 |
  [],[],xs,ys,cells,_,hr,h=>by
  cases h;exact⟨cells,rfl,hr,rfl⟩
 |[],_::_,_,_,_,h,_,_=>h.elim
 |_::_,[],_,_,_,h,_,_=>h.elim
 |
  (i,x)::ps,(j,v)::vs,xs,ys,cells,⟨e,hx,hps⟩,hr,h=>by
  simp only at e;subst e
  simp only[vZ] at h
  split at h
  ·rename_i hpl
   split at h
   ·rename_i y hy
    split at h
    ·rename_i hi
     have hi:i<xs.length:=by simp[Nat.blt] at hi;omega
     have hxc:=(RV.lG hpl hx).cells
     have hrel:=RC.a8 hy hxc
     have aq:=aB.set (r:=Rel w E.S t) (n:=t.size) (fun _ _ h=>Rel.len h) hrel i hr hi
     have hlen:=Rel.len hrel
     have hcl:=aB.len (n:=t.size) (fun _ _ h=>Rel.len h) hr
     have hb:(i+1)*t.size≤xs.length*t.size:=Nat.mul_le_mul_right _ hi
     rw[Nat.add_mul,Nat.one_mul] at hb
     obtain⟨cells',f1,f2⟩:=ky (fun i=>some (i*t.size,t.size)) cells i (i*t.size) t.size v vs rfl (by rw[←hlen,Array.length_toList]) (by rw[←Array.length_toList,hcl];exact hb)
     rw[f1]
     rw[←f2] at aq
     obtain⟨c2,g1,g2,g3⟩:=qw hps aq h
     exact⟨c2,g1,g2,by rw[g3,List.length_set]⟩
    ·cases h
   ·cases h
  ·cases h
theorem AV.zx{a:AV}{t:Ty}(h:a.bB t=true):(a.norm t).bB t=true:=by
 unfold AV.norm;split
 ·exact h
 split
 ·exact Ty.cA _
 ·exact h
theorem RC.norm{E:Env}{w:World}{a:AV}{t:Ty}{cs:List Value}(h:RC E w a cs):RC E w (a.norm t) cs:=by
 unfold AV.norm;split
 ·exact h
 split
 ·rename_i y hy;exact RC.a8 hy h
 ·exact h
theorem aV.structOf{P:Program}{G:bF}(T:aV P G){t:TypeId}{td:TD}(h:G.at t=some td){a b:Ty}(hs:td.ty= .pair a b):∃fs,P.underlying t=some (.struct fs)∧aQ G fs.toList 0 td.ty=true:=by
 obtain⟨ii,d,_,h1,_,h2,_⟩:=T.info h
 have hagg:=cg h2
 cases hd:d with
 |struct fs=>subst hd;exact⟨fs,h1,h2⟩
 |
  array n e=>
  subst hd
  simp only[aX] at h2
  rw[Bool.or_eq_true] at h2
  rcases h2 with h2|h2
  ·split at h2
   ·rename_i e1 _;rw[hs] at e1;cases e1
   ·cases h2
  simp only[Bool.and_eq_true] at h2
  obtain⟨_,h2⟩:=h2
  split at h2
  ·rename_i e1 _ _;rw[hs] at e1;cases e1
  ·cases h2
 |
  _=>
  subst hd
  simp only[cd] at hagg
  rw[hs] at hagg;cases hagg
theorem mE{G:bF}:∀{fs:List Field}{o:Nat}{t:Ty},aQ G fs o t=true→∀f∈fs,∃td,G.at f.type=some td
 |[],_,_,_,f,hf=>by cases hf
 |
  g::fs,o,t,h,f,hf=>by
  cases t with
  |
   pair a b=>
   simp only[aQ,Bool.and_eq_true] at h
   obtain⟨⟨⟨h1,_⟩,_⟩,h4⟩:=h
   cases hf with
   |
    head=>
    split at h1
    ·rename_i td htd;exact⟨td,htd⟩
    ·cases h1
   |tail _ hf=>exact mE h4 f hf
  |_=>simp[aQ] at h
theorem kT{α β:Type}{P:Program}{w:World}(g:α→Sem β)(f:α→β):∀(l:List α),(∀x∈l,(g x).run P w= .ok (f x) w)→(l.mapM g).run P w= .ok (l.map f) w
 |[],_=>by simp
 |
  x::l,h=>by
  simp only[List.mapM_cons,Sem.run_bind,h x (List.mem_cons_self ..),Result.andThen_ok,kT g f l (fun y hy=>h y (List.mem_cons_of_mem _ hy)),Sem.run_pure,List.map_cons]
theorem v8{α β:Type}{P:Program}{w:World}(g:α→Sem β)(f:α→β)(l:Array α)(h:∀x∈l.toList,(g x).run P w= .ok (f x) w):(l.mapM g).run P w= .ok (l.map f) w:=by
 rw[Array.mapM_eq_mapM_toList,Sem.run_map,kT g f l.toList h]
 simp only[Result.andThen_ok]
 congr 1
 apply Array.ext'
 simp
theorem run_build{P:Program}{G:bF}(T:aV P G){E:Env}{w:World}{t:TypeId}{ps:List (Nat×AV)}{vs:Array (Nat×Value)}(hp:RP E w ps vs.toList){r:AV}(h:ku G t ps=some r):
 ∃v,(Instr.build t vs).run P w= .ok v w∧RV E w r v:=by
 unfold ku at h
 split at h
 ·rename_i td ht
  obtain⟨z,hz,hz1,hz2⟩:=T.zero ht w
  split at h
  ·rename_i n u hty
   split at h
   ·rename_i hpure
    simp only[Option.map_eq_some_iff] at h
    obtain⟨xs,hxs,rfl⟩:=h
    obtain⟨te,h1,h2,h3⟩:=T.mr ht hty
    have hsz:=T.size h2 w
    rw[h3] at hsz
    rw[hty] at hz1
    have hrel:=(fh (E:=E) (w:=w) hz1).2 hpure
    obtain⟨cells',f1,f2,f3⟩:=qw hp hrel.2 (xs:=List.replicate n u.bu) hxs
    refine⟨.agg cells',?_,RV.ft (Or.inl ⟨rfl,cells',rfl,⟨by rw[f3,List.length_replicate],f2⟩⟩)⟩
    simp[Instr.build,hz,underlying,h1,hsz,f1]
   ·cases h
  ·rename_i a b hty
   simp only[Option.map_eq_some_iff] at h
   obtain⟨r',hr',rfl⟩:=h
   obtain⟨fs,h1,h2⟩:=T.structOf ht hty
   rw[hty] at hz1 h2
   have hrc:=(fh (E:=E) (w:=w) hz1).1
   have hpl:∀i s,(Ty.pair a b).sub [.fq i]=some s→((fs.map fun f=>(f.offset,((G.at f.type).map (·.ty.size)).getD 0))[i]?)=some ((Ty.pair a b).off [.fq i],s.size)∧(Ty.pair a b).valid [.fq i]:=by
    intro i s hs
    obtain⟨f,tf,e1,e2,e3,e4,e5,e6⟩:=jC h2 hs
    refine⟨?_,e6⟩
    have e1':fs[i]? =some f:=by simpa using e1
    simp only[Array.getElem?_map,e1',Option.map_some,e2,Option.getD_some,e3,e4,Nat.zero_add]
   have hm:(fs.mapM fun f=>do pure (f.offset,←sizeOf f.type):Sem _).run P w= .ok (fs.map fun f=>(f.offset,((G.at f.type).map (·.ty.size)).getD 0)) w:=by
    refine v8 _ _ fs ?_
    intro f hf
    obtain⟨tf,htf⟩:=mE h2 f hf
    simp[T.size htf,htf]
   obtain⟨cells',f1,f2,f3⟩:=v7 hpl hp hrc (Ty.nr _) hr'
   refine⟨.agg cells',?_,RV.ft (Or.inl ⟨?_,cells',rfl,RC.norm f2⟩)⟩
   ·simp only[Instr.build,Sem.run_bind,hz,Result.andThen_ok,underlying,run_program,h1,Sem.run_pure,hm]
    rw[f1]
    simp
   ·rw[AV.lB (AV.zx f3)];rfl
  ·cases h
 ·cases h
def dD(G:bF)(d:Nat)(t:TypeId)(len:Nat)(ps:List (Nat×AV)):Option (AV×ah):=
 match G.at t with
 |
  some td=>match td.ty with
  | .slice bs u=>if u.pure&&Nat.ble (len*u.size) 16777216&&Nat.ble (len*bs) aO&&Nat.ble len aO then(vZ u (List.replicate len u.bu) ps).map fun xs=>(.own d,.row td.e bs u xs) else none
  |_=>none
 |none=>none
theorem nC{w:World}{S:Nat→Prop}{u:Ty}{z:List Value}(hz:Rel w S u z u.bu)(_hu:0<u.size)(len:Nat)(zc:Array Value)(hzc:zc.toList=z):
 aB (Rel w S u) ((Array.range (len*u.size)).map (zc[· % zc.size]!)).toList (List.replicate len u.bu):=by
 have hl:=Rel.len hz
 have hs:zc.size=u.size:=by rw[←hl,←hzc,Array.length_toList]
 refine aB.vQ u.bu u.size len _ (by simp) ?_
 intro i hi
 have:((((Array.range (len*u.size)).map (zc[· % zc.size]!)).toList.drop (i*u.size)).take u.size)=z:=by
  apply List.ext_getElem?
  intro j
  rw[List.getElem?_take]
  by_cases hj:j<u.size
  ·rw[if_pos hj,List.getElem?_drop]
   have hb:(i+1)*u.size≤len*u.size:=Nat.mul_le_mul_right _ hi
   rw[Nat.add_mul,Nat.one_mul] at hb
   have hij:i*u.size+j<len*u.size:=by omega
   simp only[Array.getElem?_toList,Array.getElem?_map]
   rw[Array.getElem?_range,if_pos hij]
   simp only[Option.map_some]
   have hm:(i*u.size+j) % u.size=j:=by rw[Nat.mul_comm,Nat.mul_add_mod];exact Nat.mod_eq_of_lt hj
   rw[hs,hm,←hzc,Array.getElem?_toList]
   have hjz:j<zc.size:=by omega
   simp[hjz]
  ·rw[if_neg hj]
   rw[List.getElem?_eq_none (by omega)]
 rw[this];exact hz
theorem od{P:Program}{G:bF}(T:aV P G){gl:Ctx}{σ:St}{E:Env}{a:Act}{w:World}(h:cE gl σ E a w){d:Nat}(hf:σ.fresh d){t:TypeId}{len:Nat}{ps:List (Nat×AV)}{vs:Array (Nat×Value)}(hp:RP E w ps vs.toList){r:AV}{k:ah}(hb:dD G d t len ps=some (r,k)):
 ∃v w' E',(Instr.buildSlice t len vs).run P w= .ok v w'∧cE gl (σ.bp d (some k)) E' a w'∧RV E' w' r v∧Ext gl.md (Own σ.hp E) E w (Own (σ.bp d (some k)).hp E') E' w':=by
 unfold dD at hb
 split at hb
 ·rename_i td ht
  split at hb
  ·rename_i bs u hty
   split at hb
   ·rename_i hc
    simp only[Bool.and_eq_true] at hc
    obtain⟨⟨⟨hpure,hc1⟩,hc2⟩,hc3⟩:=hc
    have hc1:=Nat.le_of_ble_eq_true hc1
    have hc2:=Nat.le_of_ble_eq_true hc2
    have hc3:=Nat.le_of_ble_eq_true hc3
    simp only[Option.map_eq_some_iff] at hb
    obtain⟨xs,hxs,e⟩:=hb
    cases e
    obtain⟨te,ie,h1,h2,h3,h4,h5,h6,h7⟩:=T.bU ht hty
    obtain⟨z,hz,hz1,hz2⟩:=T.zero h2 w
    have hsz:=T.size h2 w
    rw[h3] at hsz hz1
    have hrel:=(fh (E:=E) (w:=w) hz1).2 hpure
    have hmade:=nC hrel h6 len z.cells rfl
    obtain⟨cells',f1,f2,f3⟩:=qw hp hmade hxs
    rw[List.length_replicate] at f3
    have hcl:cells'.size=len*u.size:=by
     have:=aB.len (n:=u.size) (fun _ _ h=>Rel.len h) f2
     rw[Array.length_toList] at this;rw[this,f3]
    have hrun:(Instr.buildSlice t len vs).run P w= .ok (.slice (some ⟨w.heap.size,0,none⟩) len len) {w with heap:=w.heap.push (.cells cells' td.e)}:=by
     have hns:¬(len*u.size>2^24):=by
      show¬(len*u.size>16777216);omega
     by_cases hn:len*u.size=0
     ·have e0:len=0:=by
       rcases Nat.mul_eq_zero.1 hn with h|h
       ·exact h
       ·omega
      subst e0
      have f1':Instr.fill (fun i=>some (i*u.size,u.size)) ((Array.range (0*u.size)).map ((#[]:Array Value)[· % (#[]:Array Value).size]!)) vs.toList=some cells':=by
       have:(Array.range (0*u.size)).map (z.cells[· % z.cells.size]!)= #[]:=by simp
       rw[this] at f1
       have:(Array.range (0*u.size)).map ((#[]:Array Value)[· % (#[]:Array Value).size]!)= #[]:=by simp
       rw[this];exact f1
      simp only[Instr.buildSlice,Sem.run_bind,underlying,run_program,Result.andThen_ok,h1,Sem.run_pure,hsz,if_neg hns,if_pos hn]
      rw[f1']
      simp[newRow]
     ·simp only[Instr.buildSlice,Sem.run_bind,underlying,run_program,Result.andThen_ok,h1,Sem.run_pure,hsz,if_neg hns,if_neg hn,hz]
      rw[f1]
      simp[newRow]
    have kp:bh E w (E.at d (some w.heap.size) (.slice (some ⟨w.heap.size,0,none⟩) len len) (.arr len u)) {w with heap:=w.heap.push (.cells cells' td.e)}:=⟨fun b hb=>fK _ _ _ (h.hw.slt b hb),fun b hb=>hb⟩
    obtain⟨q1,q2⟩:=h.fresh hf (w':={w with heap:=w.heap.push (.cells cells' td.e)}) (g:=some w.heap.size) (sv:=.slice (some ⟨w.heap.size,0,none⟩) len len) (t:=.arr len u) (k:=.row td.e bs u xs) rfl (Tp.r rfl rfl) rfl (by simp) (fun i hi=>fK _ _ _ hi) (fun i hi=>by cases hi;exact Nat.le_refl _)
     (by
      refine⟨by simp[Env.at,f3],by rw[f3];exact hc2,by rw[f3];exact hc3,h6,some ⟨w.heap.size,0,none⟩,len,by simp[Env.at,f3],?_,Or.inr ⟨w.heap.size,cells',by simp[Env.at],rfl,kP _ _,hcl,by omega,?_⟩⟩
      ·unfold aO at hc3;unfold maxLen;omega
      ·rw[f3,←hcl,List.take_of_length_le (by simp)]
       exact aB.mono (fun _ _=>Rel.mono kp.w kp.S) f2)
    exact⟨_,_,_,hrun,q1,RV.ft (Or.inr ⟨rfl,by simp[Env.at],some ⟨w.heap.size,0,none⟩,len,len,by simp[Env.at]⟩),q2⟩
   ·cases hb
  ·cases hb
 ·cases hb
end Go.Abs
