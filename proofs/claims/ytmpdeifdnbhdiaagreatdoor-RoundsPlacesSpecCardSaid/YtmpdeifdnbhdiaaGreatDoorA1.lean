/- The machines: what it means to be walked or run, part 1. No condition. -/
import Derived.Orders
import Derived.OrdersIn
import Derived.RangeFuncIn
import Derived.Laws.Cells
import Derived.Laws.AppendOwn
import Derived.Laws.Strings
import Derived.Laws.Small
import Derived.Laws.CopyRow
namespace Go.Abs
inductive dW where
 |ptr|map|func|iface|sl
 deriving DecidableEq
inductive Ty where
 |int (k:IntKind)
 |bool
 |str
 |arr (n:Nat) (t:Ty)
 |slice (bs:Nat) (t:Ty)
 |pair (a b:Ty)
 |unit
 |au (k:dW)
 |fns (n:Nat)
 deriving DecidableEq
def IntKind.code:IntKind→Nat
 | .i8=>0| .i16=>1| .i32=>2| .i64=>3| .u8=>4| .u16=>5| .u32=>6| .u64=>7
def dW.code:dW→Nat
 | .ptr=>0| .map=>1| .func=>2| .iface=>3| .sl=>4
theorem IntKind.fA{a b:IntKind}(h:IntKind.code a=IntKind.code b):a=b:=by
 cases a<;>cases b<;>first|rfl|(simp[IntKind.code] at h)
theorem dW.fA{a b:dW}(h:dW.code a=dW.code b):a=b:=by
 cases a<;>cases b<;>first|rfl|(simp[dW.code] at h)
def Ty.same:Ty→Ty→Bool
 | .int k,.int k'=>Nat.beq (IntKind.code k) (IntKind.code k')
 | .bool,.bool=>true
 | .str,.str=>true
 | .arr n t,.arr n' t'=>Nat.beq n n'&&Ty.same t t'
 | .slice n t,.slice n' t'=>Nat.beq n n'&&Ty.same t t'
 | .pair a b,.pair a' b'=>Ty.same a a'&&Ty.same b b'
 | .unit,.unit=>true
 | .au k,.au k'=>Nat.beq (dW.code k) (dW.code k')
 | .fns n,.fns n'=>Nat.beq n n'
 |_,_=>false
theorem Ty.af:∀{a b:Ty},Ty.same a b=true→a=b:=by
 intro a
 induction a with
 |int k=>intro b h;cases b<;>simp[Ty.same] at h ⊢;exact IntKind.fA h
 |bool=>intro b h;cases b<;>simp[Ty.same] at h ⊢
 |str=>intro b h;cases b<;>simp[Ty.same] at h ⊢
 |arr n t ih=>intro b h;cases b<;>simp[Ty.same] at h ⊢;exact⟨h.1,ih h.2⟩
 |slice n t ih=>intro b h;cases b<;>simp[Ty.same] at h ⊢;exact⟨h.1,ih h.2⟩
 |pair x y Sn Sk=>intro b h;cases b<;>simp[Ty.same] at h ⊢;exact⟨Sn h.1,Sk h.2⟩
 |unit=>intro b h;cases b<;>simp[Ty.same] at h ⊢
 |au k=>intro b h;cases b<;>simp[Ty.same] at h ⊢;exact dW.fA h
 |fns n=>intro b h;cases b<;>simp[Ty.same] at h ⊢;exact h
theorem Ty.cF(a:Ty):Ty.same a a=true:=by
 induction a<;>simp_all[Ty.same]
@[reducible] def Ty.den:Ty→Type
 | .int _=>Int
 | .bool=>Bool
 | .str=>List UInt8
 | .arr _ t=>List t.den
 | .slice _ t=>List t.den
 | .pair a b=>a.den×b.den
 | .unit=>Unit
 | .au _=>Unit
 | .fns _=>List (Option Nat)
def Ty.size:Ty→Nat
 | .arr n t=>n*t.size
 | .pair a b=>a.size+b.size
 | .unit=>0
 | .fns n=>n
 |_=>1
def Ty.isAgg:Ty→Bool
 | .arr _ _| .pair _ _| .unit| .fns _=>true
 |_=>false
def Ty.aX:(t:Ty)→t.den
 | .int _=>(0:Int)
 | .bool=>false
 | .str=>([]:List UInt8)
 | .arr n t=>List.replicate n t.aX
 | .slice _ _=>[]
 | .pair a b=>(a.aX,b.aX)
 | .unit=>()
 | .au _=>()
 | .fns n=>List.replicate n none
def Ty.flat:Ty→Bool
 | .int _| .bool| .str| .unit=>true
 | .arr _ t=>t.flat
 | .pair a b=>a.flat&&b.flat
 |_=>false
def az:Nat:=140737488355328
def lj(w:World)(a:Addr)(cs:List Value):Prop:=∀j v,cs[j]? =some v→w.cell? (a.add j)=some v
def aC{α:Type}(r:List Value→α→Prop):List Value→List α→Prop
 |vs,[]=>vs= []
 |vs,x::xs=>∃v1 v2,vs=v1++v2∧r v1 x∧aC r v2 xs
def A4:Option Nat→Value
 |none=>.nilFunc
 |some f=>.func (.func f) #[] #[]
def Rel(w:World)(S:Nat→Prop):(t:Ty)→List Value→t.den→Prop
 | .int k,vs,n=>vs= [.int k n]∧k.min≤n∧n≤k.max
 | .bool,vs,b=>vs= [.bool b]
 | .str,vs,s=>vs= [.string ⟨s.toArray⟩]∧s.length≤az
 | .arr n t,vs,xs=>xs.length=n∧aC (Rel w S t) vs xs
 | .slice bs t,vs,xs=>∃a cap,vs= [.slice a xs.length cap]∧xs.length≤cap∧xs.length*bs≤az∧xs.length≤az∧
  (xs= []∨∃b o cs,a=some ⟨b,o,none⟩∧S b∧lj w ⟨b,o,none⟩ cs∧aC (Rel w S t) cs xs)
 | .pair a b,vs,x=>∃v1 v2,vs=v1++v2∧Rel w S a v1 x.1∧Rel w S b v2 x.2
 | .unit,vs,_=>vs= []
 | .au _,_,_=>False
 | .fns n,vs,xs=>xs.length=n∧vs=xs.map A4
def wf:(t:Ty)→t.den→Prop
 | .int k,n=>k.min≤n∧n≤k.max
 | .bool,_=>True
 | .str,s=>List.length s≤az
 | .arr n t,xs=>List.length xs=n∧∀x∈xs,wf t x
 | .slice bs t,xs=>List.length xs*bs≤az∧List.length xs≤az∧∀x∈xs,wf t x
 | .pair a b,x=>wf a x.1∧wf b x.2
 | .unit,_=>True
 | .au _,_=>False
 | .fns n,xs=>List.length xs=n
theorem aC.mono{α:Type}{r r':List Value→α→Prop}(h:∀vs x,r vs x→r' vs x):∀{xs:List α}{vs:List Value},aC r vs xs→aC r' vs xs
 |[],_,hh=>hh
 |_::_,_,⟨v1,v2,e,h1,h2⟩=>⟨v1,v2,e,h _ _ h1,aC.mono h h2⟩
theorem aC.all{α:Type}{r:List Value→α→Prop}{p:α→Prop}(h:∀vs x,r vs x→p x):∀{xs:List α}{vs:List Value},aC r vs xs→∀x∈xs,p x
 |[],_,_,x,hx=>by cases hx
 |
  y::ys,_,⟨_,_,_,h1,h2⟩,x,hx=>by
  cases hx with
  |head=>exact h _ _ h1
  |tail _ hx=>exact aC.all h h2 x hx
theorem aC.len{α:Type}{r:List Value→α→Prop}{n:Nat}(h:∀vs x,r vs x→vs.length=n):∀{xs:List α}{vs:List Value},aC r vs xs→vs.length=xs.length*n
 |[],_,hh=>by simp[aC] at hh;simp[hh]
 |
  _::xs,_,⟨v1,v2,e,h1,h2⟩=>by
  subst e
  rw[List.length_append,h _ _ h1,aC.len h h2,List.length_cons,Nat.add_mul];omega
theorem aC.append{α:Type}{r:List Value→α→Prop}:∀{xs ys:List α}{vs us:List Value},aC r vs xs→aC r us ys→aC r (vs++us) (xs++ys)
 |[],_,_,_,h,k=>by simp[aC] at h;subst h;simpa using k
 |
  _::_,_,_,_,⟨v1,v2,e,h1,h2⟩,k=>by
  subst e
  exact⟨v1,v2++_,by simp,h1,aC.append h2 k⟩
theorem aC.get{α:Type}{r:List Value→α→Prop}{n:Nat}(hn:∀vs x,r vs x→vs.length=n)(d:α):∀{xs:List α}{vs:List Value}(i:Nat),aC r vs xs→i<xs.length→r ((vs.drop (i*n)).take n) (xs.getD i d)
 |[],_,i,_,hi=>by simp at hi
 |
  x::xs,_,0,⟨v1,v2,e,h1,_⟩,_=>by
  subst e
  have:=hn _ _ h1
  simp[←this];exact h1
 |
  x::xs,_,i+1,⟨v1,v2,e,h1,h2⟩,hi=>by
  subst e
  have hl:=hn _ _ h1
  have:=aC.get hn d i h2 (by simpa using hi)
  have e:(v1++v2).drop ((i+1)*n)=v2.drop (i*n):=by
   rw[List.drop_append,List.drop_of_length_le (by rw[hl,Nat.add_mul];omega),List.nil_append,hl,Nat.add_mul]
   congr 1;omega
  rw[e]
  simpa using this
theorem aC.set{α:Type}{r:List Value→α→Prop}{n:Nat}(hn:∀vs x,r vs x→vs.length=n){us:List Value}{y:α}(hu:r us y):∀{xs:List α}{vs:List Value}(i:Nat),aC r vs xs→i<xs.length→aC r (vs.take (i*n)++us++vs.drop (i*n+n)) (xs.set i y)
 |[],_,i,_,hi=>by simp at hi
 |
  x::xs,_,0,⟨v1,v2,e,h1,h2⟩,_=>by
  subst e
  have:=hn _ _ h1
  refine⟨us,v2,?_,hu,h2⟩
  simp[←this]
 |
  x::xs,_,i+1,⟨v1,v2,e,h1,h2⟩,hi=>by
  subst e
  have hl:=hn _ _ h1
  have:=aC.set hn hu i h2 (by simpa using hi)
  refine⟨v1,v2.take (i*n)++us++v2.drop (i*n+n),?_,h1,this⟩
  have e1:(v1++v2).take ((i+1)*n)=v1++v2.take (i*n):=by
   rw[List.take_append,List.take_of_length_le (by rw[hl,Nat.add_mul];omega),hl,Nat.add_mul]
   congr 2;omega
  have e2:(v1++v2).drop ((i+1)*n+n)=v2.drop (i*n+n):=by
   rw[List.drop_append,List.drop_of_length_le (by rw[hl,Nat.add_mul];omega),List.nil_append,hl,Nat.add_mul]
   congr 1;omega
  rw[e1,e2];simp
theorem Rel.len{w:World}{S:Nat→Prop}:∀{t:Ty}{vs:List Value}{x:t.den},Rel w S t vs x→vs.length=t.size:=by
 intro t
 induction t with
 |int k=>intro vs x h;simp[Rel] at h;simp[h.1,Ty.size]
 |bool=>intro vs x h;simp[Rel] at h;simp[h,Ty.size]
 |str=>intro vs x h;simp[Rel] at h;simp[h.1,Ty.size]
 |arr n t ih=>intro vs x h;obtain⟨h1,h2⟩:=h;rw[aC.len (fun _ _=>ih) h2,h1,Ty.size]
 |slice bs t ih=>intro vs x h;obtain⟨a,cap,e,_⟩:=h;simp[e,Ty.size]
 |pair a b Sn Sk=>intro vs x h;obtain⟨v1,v2,e,h1,h2⟩:=h;subst e;rw[List.length_append,Sn h1,Sk h2,Ty.size]
 |unit=>intro vs x h;simp[Rel] at h;simp[h,Ty.size]
 |au k=>intro vs x h;exact h.elim
 |fns n=>intro vs x h;obtain⟨h1,h2⟩:=h;rw[h2,List.length_map,h1,Ty.size]
theorem Rel.wf{w:World}{S:Nat→Prop}:∀{t:Ty}{vs:List Value}{x:t.den},Rel w S t vs x→wf t x:=by
 intro t
 induction t with
 |int k=>intro vs x h;exact h.2
 |bool=>intro vs x h;trivial
 |str=>intro vs x h;exact h.2
 |arr n t ih=>intro vs x h;exact⟨h.1,aC.all (p:=Abs.wf t) (fun _ _ h=>ih h) h.2⟩
 |
  slice bs t ih=>
  intro vs x h
  obtain⟨a,cap,e,h1,h2,h3,h4⟩:=h
  refine⟨h2,h3,?_⟩
  rcases h4 with h4|⟨b,o,cs,_,_,_,h5⟩
  ·subst h4;intro y hy;cases hy
  ·exact aC.all (p:=Abs.wf t) (fun _ _ h=>ih h) h5
 |pair a b Sn Sk=>intro vs x h;obtain⟨v1,v2,e,h1,h2⟩:=h;exact⟨Sn h1,Sk h2⟩
 |unit=>intro vs x h;trivial
 |au k=>intro vs x h;exact h.elim
 |fns n=>intro vs x h;exact h.1
theorem lj.mono{w w':World}{a:Addr}{cs:List Value}(h:lj w a cs)(hb:w'.heap[a.block]? =w.heap[a.block]?):lj w' a cs:=by
 intro j v hj
 rw[←h j v hj]
 exact World.cell?_of_block (by rw[show(a.add j).block=a.block by unfold Addr.add;split<;>rfl];exact hb)
theorem Rel.mono{w w':World}{S S':Nat→Prop}(hw:∀b,S b→w'.heap[b]? =w.heap[b]?)(hS:∀b,S b→S' b):∀{t:Ty}{vs:List Value}{x:t.den},Rel w S t vs x→Rel w' S' t vs x:=by
 intro t
 induction t with
 |int k=>intro vs x h;exact h
 |bool=>intro vs x h;exact h
 |str=>intro vs x h;exact h
 |arr n t ih=>intro vs x h;exact⟨h.1,aC.mono (fun _ _=>ih) h.2⟩
 |
  slice bs t ih=>
  intro vs x h
  obtain⟨a,cap,e,h1,h2,h3,h4⟩:=h
  refine⟨a,cap,e,h1,h2,h3,?_⟩
  rcases h4 with h4|⟨b,o,cs,ha,hs,hr,h5⟩
  ·exact Or.inl h4
  ·exact Or.inr ⟨b,o,cs,ha,hS b hs,hr.mono (hw b hs),aC.mono (fun _ _=>ih) h5⟩
 |pair a b Sn Sk=>intro vs x h;obtain⟨v1,v2,e,h1,h2⟩:=h;exact⟨v1,v2,e,Sn h1,Sk h2⟩
 |unit=>intro vs x h;exact h
 |au k=>intro vs x h;exact h
 |fns n=>intro vs x h;exact h
theorem Rel.flat{w w':World}{S S':Nat→Prop}:∀{t:Ty}{vs:List Value}{x:t.den},t.flat=true→Rel w S t vs x→Rel w' S' t vs x:=by
 intro t
 induction t with
 |int k=>intro vs x _ h;exact h
 |bool=>intro vs x _ h;exact h
 |str=>intro vs x _ h;exact h
 |arr n t ih=>intro vs x hf h;exact⟨h.1,aC.mono (fun _ _=>ih hf) h.2⟩
 |slice bs t ih=>intro vs x hf;simp[Ty.flat] at hf
 |
  pair a b Sn Sk=>
  intro vs x hf h
  simp[Ty.flat] at hf
  obtain⟨v1,v2,e,h1,h2⟩:=h;exact⟨v1,v2,e,Sn hf.1 h1,Sk hf.2 h2⟩
 |unit=>intro vs x _ h;exact h
 |au k=>intro vs x hf;simp[Ty.flat] at hf
 |fns n=>intro vs x hf;simp[Ty.flat] at hf
end Go.Abs
namespace Go.Abs
inductive PS where
 |fG (n:Nat)
 |idx (i:Nat)
abbrev Path:=List PS
def Ty.off:Ty→Path→Nat
 | .pair a _,.fG 0::p=>a.off p
 | .pair a b,.fG (k+1)::p=>a.size+b.off (.fG k::p)
 | .arr _ t,.idx i::p=>i*t.size+t.off p
 |_,_=>0
def Ty.sub:Ty→Path→Option Ty
 | .pair a _,.fG 0::p=>a.sub p
 | .pair _ b,.fG (k+1)::p=>b.sub (.fG k::p)
 | .arr _ t,.idx _::p=>t.sub p
 |t,[]=>some t
 |_,_=>none
def Ty.valid:Ty→Path→Prop
 | .pair a _,.fG 0::p=>a.valid p
 | .pair _ b,.fG (k+1)::p=>b.valid (.fG k::p)
 | .arr n t,.idx i::p=>i<n∧t.valid p
 |_,[]=>True
 |_,_=>False
inductive AV where
 |bot
 |val (t:Ty) (x:t.den)
 |dS
 |own (b:Nat)
 |mo (b lo len:Nat)
 |ka (b:Nat) (p:Path) (lo len:Nat)
 |ptr (b:Nat) (p:Path)
 |ec (t:Ty) (x:t.den)
 |mp (b:Nat)
 |iw
 |mh
 |ix
 |oq
 |func (fn:Fn) (fs cs:AV)
 |iface (t:TypeId) (v:AV)
 |cons (a b:AV)
 |nil
 |bU (l:AV)
 |opt (c:Bool) (v:AV)
 |fx
inductive aj where
 |var (t:Ty) (v:AV)
 |row (e:TypeId) (bs:Nat) (t:Ty) (xs:List t.den)
 |map (k v:Ty) (es:List (k.den×v.den))
 |lp (l:Nat) (r:Loop)
 |wE
 |tv (g:Nat) (t:Ty) (v:AV)
structure Env where
 g:Nat→Option Nat
 sv:Nat→Value
 bt:Nat→Ty
 S:Nat→Prop
def AV.isAgg:AV→Bool
 | .val t _=>t.isAgg
 | .cons _ _| .nil=>true
 |_=>false
def AV.size:AV→Nat
 | .val t _=>t.size
 | .cons a b=>a.size+b.size
 | .nil=>0
 |_=>1
def AV.atom:AV→Bool
 | .val t _=> !t.isAgg
 | .bot| .cons _ _| .nil| .bU _| .opt _ _=>false
 |_=>true
def AV.atoms:AV→Bool
 | .cons a b=>a.atom&&b.atoms
 | .nil=>true
 |_=>false
def AV.bB:AV→Ty→Bool
 | .val t _,u=>Ty.same t u
 | .dS,.slice _ _=>true
 | .dS,.au .sl=>true
 | .own _,.slice _ _=>true
 | .mo _ _ _,.slice _ _=>true
 | .ka _ _ _ _,.slice _ _=>true
 | .ptr _ _,.au .ptr=>true
 | .ec _ _,.au .ptr=>true
 | .iw,.au .ptr=>true
 | .mp _,.au .map=>true
 | .mh,.au .map=>true
 | .func _ _ _,.au .func=>true
 | .ix,.au .func=>true
 | .fx,.au .func=>true
 | .iface _ _,.au .iface=>true
 | .oq,.au .iface=>true
 | .cons a b,.pair t u=>a.bB t&&b.bB u
 | .nil,.unit=>true
 |_,_=>false
def AV.ids:AV→List Nat
 | .own b| .mo b _ _| .ka b _ _ _| .ptr b _| .mp b=>[b]
 | .func _ fs cs=>fs.ids++cs.ids
 | .iface _ v=>v.ids
 | .cons a b=>a.ids++b.ids
 | .bU l=>l.ids
 | .opt _ v=>v.ids
 |_=>[]
def RC(E:Env)(w:World):AV→List Value→Prop
 | .val t x,vs=>Rel w E.S t vs x
 | .dS,vs=>vs= [.slice none 0 0]
 | .own b,vs=>vs= [E.sv b]∧∃a n c,E.sv b= .slice a n c
 | .mo b lo len,vs=>∃a c n t,E.bt b= .arr n t∧E.sv b= .slice a n c∧lo+len≤n∧n≤c∧∃a',vs= [.slice a' len (c -lo)]∧(len=0∨a'=a.map (·.add (lo*t.size)))
 | .ka b p lo len,vs=>∃n t,(E.bt b).sub p=some (.arr n t)∧(E.bt b).valid p∧lo+len≤n∧∃a cap,vs= [.slice a len cap]∧len≤cap∧
  (len=0∨∃g,E.g b=some g∧a=some ⟨g,(E.bt b).off p+lo*t.size,none⟩)
 | .ptr b p,vs=>∃g,E.g b=some g∧vs= [.pointer (some ⟨g,(E.bt b).off p,none⟩)]∧(E.bt b).valid p
 | .ec t x,vs=>∃b o cs,vs= [.pointer (some ⟨b,o,none⟩)]∧E.S b∧lj w ⟨b,o,none⟩ cs∧Rel w E.S t cs x
 | .mp b,vs=>∃g,E.g b=some g∧vs= [.map (some g)]
 | .iw,vs=>vs= [.pointer none]
 | .mh,vs=>vs= [.map none]
 | .ix,vs=>vs= [.nilFunc]
 | .oq,vs=>vs= [.nilIface]
 | .func fn fs cs,vs=>∃f c,vs= [.func fn f c]∧RC E w fs f.toList∧RC E w cs c.toList∧fs.atoms=true∧cs.atoms=true
 | .iface t v,vs=>∃x,vs= [.iface t x]∧((v.isAgg=true∧∃cs,x= .agg cs∧RC E w v cs.toList)∨(v.isAgg=false∧RC E w v [x]))
 | .cons a b,vs=>∃v1 v2,vs=v1++v2∧RC E w a v1∧RC E w b v2
 | .nil,vs=>vs= []
 | .fx,vs=>∃fn f c,vs= [.func fn f c]
 | .bot,_=>False
 | .bU _,_=>False
 | .opt _ _,_=>False
def cZ(E:Env)(w:World)(a:AV)(v:Value):Prop:=
 (a.isAgg=true∧∃cs,v= .agg cs∧RC E w a cs.toList)∨(a.isAgg=false∧RC E w a [v])
def RT(E:Env)(w:World):AV→List Value→Prop
 | .cons a b,v::vs=>cZ E w a v∧RT E w b vs
 | .nil,vs=>vs= []
 |_,_=>False
def RV(E:Env)(w:World):AV→Value→Prop
 | .bot,_=>True
 | .bU l,v=>∃vs,v= .tuple vs∧RT E w l vs.toList
 | .opt c a,v=>(c=true∧cZ E w a v)∨(c=false∧v=undef)
 |a,v=>cZ E w a v
def Env.on(E E':Env)(ids:List Nat):Prop:=∀b∈ids,E'.g b=E.g b∧E'.sv b=E.sv b∧E'.bt b=E.bt b
theorem Env.on.left{E E':Env}{a b:List Nat}(h:E.on E' (a++b)):E.on E' a:=fun x hx=>h x (by simp[hx])
theorem Env.on.right{E E':Env}{a b:List Nat}(h:E.on E' (a++b)):E.on E' b:=fun x hx=>h x (by simp[hx])
structure bm(E:Env)(w:World)(E':Env)(w':World):Prop where
 w:∀b,E.S b→w'.heap[b]? =w.heap[b]?
 S:∀b,E.S b→E'.S b
theorem RC.mono{E E':Env}{w w':World}(k:bm E w E' w'):∀{a:AV}{vs:List Value},E.on E' a.ids→RC E w a vs→RC E' w' a vs:=by
 intro a
 induction a with
 |bot=>intro vs _ h;exact h
 |fx=>intro vs _ h;exact h
 |val t x=>intro vs _ h;exact Rel.mono k.w k.S h
 |dS=>intro vs _ h;exact h
 |own b=>intro vs ho h;simp only[RC] at h ⊢;rw[(ho b (by simp[AV.ids])).2.1];exact h
 |
  mo b lo len=>
  intro vs ho h
  obtain⟨_,h2,h3⟩:=ho b (by simp[AV.ids])
  obtain⟨a,c,n,t,h⟩:=h
  exact⟨a,c,n,t,by rw[h3,h2];exact h⟩
 |
  ka b p lo len=>
  intro vs ho h
  obtain⟨h1,h2,h3⟩:=ho b (by simp[AV.ids])
  obtain⟨n,t,h⟩:=h
  refine⟨n,t,?_⟩
  rw[h3,h1];exact h
 |
  ptr b p=>
  intro vs ho h
  obtain⟨h1,h2,h3⟩:=ho b (by simp[AV.ids])
  obtain⟨g,h⟩:=h
  exact⟨g,by rw[h1,h3];exact h⟩
 |
  ec t x=>
  intro vs _ h
  obtain⟨b,o,cs,h1,h2,h3,h4⟩:=h
  exact⟨b,o,cs,h1,k.S b h2,h3.mono (k.w b h2),Rel.mono k.w k.S h4⟩
 |
  mp b=>
  intro vs ho h
  obtain⟨h1,h2,h3⟩:=ho b (by simp[AV.ids])
  obtain⟨g,h⟩:=h
  exact⟨g,by rw[h1];exact h⟩
 |iw=>intro vs _ h;exact h
 |mh=>intro vs _ h;exact h
 |ix=>intro vs _ h;exact h
 |oq=>intro vs _ h;exact h
 |
  func fn fs cs Sn Sk=>
  intro vs ho h
  obtain⟨f,c,e,h1,h2,h3,h4⟩:=h
  exact⟨f,c,e,Sn ho.left h1,Sk ho.right h2,h3,h4⟩
 |
  iface t v ih=>
  intro vs ho h
  obtain⟨x,e,h⟩:=h
  refine⟨x,e,?_⟩
  rcases h with⟨h1,cs,h2,h3⟩|⟨h1,h2⟩
  ·exact Or.inl ⟨h1,cs,h2,ih ho h3⟩
  ·exact Or.inr ⟨h1,ih ho h2⟩
 |
  cons a b Sn Sk=>
  intro vs ho h
  obtain⟨v1,v2,e,h1,h2⟩:=h
  exact⟨v1,v2,e,Sn ho.left h1,Sk ho.right h2⟩
 |nil=>intro vs _ h;exact h
 |bU l ih=>intro vs _ h;exact h
 |opt c v ih=>intro vs _ h;exact h
theorem cZ.mono{E E':Env}{w w':World}(k:bm E w E' w'){a:AV}{v:Value}(ho:E.on E' a.ids)(h:cZ E w a v):cZ E' w' a v:=by
 rcases h with⟨h1,cs,h2,h3⟩|⟨h1,h2⟩
 ·exact Or.inl ⟨h1,cs,h2,RC.mono k ho h3⟩
 ·exact Or.inr ⟨h1,RC.mono k ho h2⟩
theorem RT.mono{E E':Env}{w w':World}(k:bm E w E' w'):∀{a:AV}{vs:List Value},E.on E' a.ids→RT E w a vs→RT E' w' a vs:=by
 intro a
 induction a with
 |
  cons a b Sn Sk=>
  intro vs ho h
  cases vs with
  |nil=>exact h.elim
  |cons v vs=>exact⟨cZ.mono k ho.left h.1,Sk ho.right h.2⟩
 |nil=>intro vs _ h;exact h
 |_=>intro vs _ h;exact h.elim
theorem RV.mono{E E':Env}{w w':World}(k:bm E w E' w'){a:AV}{v:Value}(ho:E.on E' a.ids)(h:RV E w a v):RV E' w' a v:=by
 cases a with
 |bot=>trivial
 |bU l=>obtain⟨vs,e,h⟩:=h;exact⟨vs,e,RT.mono k ho h⟩
 |
  opt c a=>
  rcases h with⟨h1,h2⟩|h
  ·exact Or.inl ⟨h1,cZ.mono k ho h2⟩
  ·exact Or.inr h
 |_=>exact cZ.mono k ho h
theorem RC.len{E:Env}{w:World}:∀{a:AV}{vs:List Value},RC E w a vs→vs.length=a.size:=by
 intro a
 induction a with
 |val t x=>intro vs h;exact Rel.len h
 |dS=>intro vs h;simp only[RC] at h;simp[h,AV.size]
 |own b=>intro vs h;simp only[RC] at h;simp[h.1,AV.size]
 |mo b lo len=>intro vs h;obtain⟨_,_,_,_,_,_,_,_,_,e,_⟩:=h;simp[e,AV.size]
 |ka b p lo len=>intro vs h;obtain⟨_,_,_,_,_,_,_,e,_⟩:=h;simp[e,AV.size]
 |ptr b p=>intro vs h;obtain⟨_,_,e,_⟩:=h;simp[e,AV.size]
 |ec t x=>intro vs h;obtain⟨_,_,_,e,_⟩:=h;simp[e,AV.size]
 |mp b=>intro vs h;obtain⟨_,_,e⟩:=h;simp[e,AV.size]
 |iw=>intro vs h;simp only[RC] at h;simp[h,AV.size]
 |mh=>intro vs h;simp only[RC] at h;simp[h,AV.size]
 |ix=>intro vs h;simp only[RC] at h;simp[h,AV.size]
 |oq=>intro vs h;simp only[RC] at h;simp[h,AV.size]
 |func fn fs cs=>intro vs h;obtain⟨_,_,e,_⟩:=h;simp[e,AV.size]
 |iface t v=>intro vs h;obtain⟨_,e,_⟩:=h;simp[e,AV.size]
 |cons a b Sn Sk=>intro vs h;obtain⟨v1,v2,e,h1,h2⟩:=h;subst e;rw[List.length_append,Sn h1,Sk h2,AV.size]
 |nil=>intro vs h;simp only[RC] at h;simp[h,AV.size]
 |bot=>intro vs h;exact h.elim
 |fx=>intro vs h;obtain⟨_,_,_,e⟩:=h;simp[e,AV.size]
 |bU l=>intro vs h;exact h.elim
 |opt c v=>intro vs h;exact h.elim
theorem Rel.one{w:World}{S:Nat→Prop}:∀{t:Ty}{vs:List Value}{x:t.den},Rel w S t vs x→∀v∈vs,v.oneCell'=true:=by
 intro t
 induction t with
 |int k=>intro vs x h v hv;simp[Rel] at h;rw[h.1] at hv;simp at hv;subst hv;rfl
 |bool=>intro vs x h v hv;simp[Rel] at h;rw[h] at hv;simp at hv;subst hv;rfl
 |str=>intro vs x h v hv;simp[Rel] at h;rw[h.1] at hv;simp at hv;subst hv;rfl
 |
  arr n t ih=>
  intro vs x h
  have key:∀{xs:List t.den}{vs:List Value},aC (Rel w S t) vs xs→∀v∈vs,v.oneCell'=true:=by
   intro xs
   induction xs with
   |nil=>intro vs h v hv;simp[aC] at h;subst h;cases hv
   |
    cons y ys Sk=>
    intro vs h v hv
    obtain⟨v1,v2,e,h1,h2⟩:=h
    subst e
    rcases List.mem_append.1 hv with h|h
    ·exact ih h1 v h
    ·exact Sk h2 v h
  exact key h.2
 |slice bs t=>intro vs x h v hv;obtain⟨a,cap,e,_⟩:=h;rw[e] at hv;simp at hv;subst hv;rfl
 |
  pair a b Sn Sk=>
  intro vs x h v hv
  obtain⟨v1,v2,e,h1,h2⟩:=h
  subst e
  rcases List.mem_append.1 hv with h|h
  ·exact Sn h1 v h
  ·exact Sk h2 v h
 |unit=>intro vs x h v hv;simp[Rel] at h;subst h;cases hv
 |au k=>intro vs x h;exact h.elim
 |
  fns n=>
  intro vs x h v hv
  obtain⟨_,h2⟩:=h
  rw[h2] at hv
  obtain⟨o,_,e⟩:=List.mem_map.1 hv
  subst e
  cases o<;>rfl
theorem RC.one{E:Env}{w:World}:∀{a:AV}{vs:List Value},RC E w a vs→∀v∈vs,v.oneCell'=true:=by
 intro a
 induction a with
 |val t x=>intro vs h;exact Rel.one h
 |dS=>intro vs h v hv;simp only[RC] at h;rw[h] at hv;simp at hv;subst hv;rfl
 |own b=>intro vs h v hv;obtain⟨e,a,n,c,e2⟩:=h;rw[e,e2] at hv;simp at hv;subst hv;rfl
 |mo b lo len=>intro vs h v hv;obtain⟨_,_,_,_,_,_,_,_,_,e,_⟩:=h;rw[e] at hv;simp at hv;subst hv;rfl
 |ka b p lo len=>intro vs h v hv;obtain⟨_,_,_,_,_,_,_,e,_⟩:=h;rw[e] at hv;simp at hv;subst hv;rfl
 |ptr b p=>intro vs h v hv;obtain⟨_,_,e,_⟩:=h;rw[e] at hv;simp at hv;subst hv;rfl
 |ec t x=>intro vs h v hv;obtain⟨_,_,_,e,_⟩:=h;rw[e] at hv;simp at hv;subst hv;rfl
 |mp b=>intro vs h v hv;obtain⟨_,_,e⟩:=h;rw[e] at hv;simp at hv;subst hv;rfl
 |iw=>intro vs h v hv;simp only[RC] at h;rw[h] at hv;simp at hv;subst hv;rfl
 |mh=>intro vs h v hv;simp only[RC] at h;rw[h] at hv;simp at hv;subst hv;rfl
 |ix=>intro vs h v hv;simp only[RC] at h;rw[h] at hv;simp at hv;subst hv;rfl
 |fx=>intro vs h v hv;obtain⟨_,_,_,e⟩:=h;rw[e] at hv;simp at hv;subst hv;rfl
 |oq=>intro vs h v hv;simp only[RC] at h;rw[h] at hv;simp at hv;subst hv;rfl
 |func fn fs cs=>intro vs h v hv;obtain⟨_,_,e,_⟩:=h;rw[e] at hv;simp at hv;subst hv;rfl
 |iface t x=>intro vs h v hv;obtain⟨_,e,_⟩:=h;rw[e] at hv;simp at hv;subst hv;rfl
 |
  cons a b Sn Sk=>
  intro vs h v hv
  obtain⟨v1,v2,e,h1,h2⟩:=h
  subst e
  rcases List.mem_append.1 hv with h|h
  ·exact Sn h1 v h
  ·exact Sk h2 v h
 |nil=>intro vs h v hv;simp only[RC] at h;subst h;cases hv
 |bot=>intro vs h;exact h.elim
 |bU l=>intro vs h;exact h.elim
 |opt c v=>intro vs h;exact h.elim
theorem cZ.cells{E:Env}{w:World}{a:AV}{v:Value}(h:cZ E w a v):RC E w a v.cells.toList:=by
 rcases h with⟨_,cs,e,h⟩|⟨_,h⟩
 ·subst e;exact h
 ·have h1:=RC.one h v (by simp)
  have:v.cells= #[v]:=by cases v<;>first|rfl|(simp[Value.oneCell'] at h1)
  rw[this];exact h
theorem AV.fe:∀{a:AV}{t:Ty},a.bB t=true→a.size=t.size:=by
 intro a
 induction a with
 |val u x=>intro t h;have:=Ty.af (by simpa[AV.bB] using h);subst this;rfl
 |
  cons a b Sn Sk=>
  intro t h
  cases t<;>simp[AV.bB] at h
  rw[AV.size,Ty.size,Sn h.1,Sk h.2]
 |nil=>intro t h;cases t<;>simp[AV.bB] at h;rfl
 |dS=>intro t h;cases t with|slice _ _=>rfl|au k=>cases k<;>simp[AV.bB] at h<;>rfl|_=>simp[AV.bB] at h
 |_=>intro t h;first|(cases t<;>simp[AV.bB] at h<;>rfl)|(cases t with|au k=>cases k<;>simp[AV.bB] at h<;>rfl|_=>simp[AV.bB] at h)
theorem AV.mi:∀{a:AV}{t:Ty},a.bB t=true→a.isAgg=t.isAgg:=by
 intro a t h
 cases a with
 |val u x=>have:=Ty.af (by simpa[AV.bB] using h);subst this;rfl
 |cons a b=>cases t<;>simp[AV.bB] at h;rfl
 |nil=>cases t<;>simp[AV.bB] at h;rfl
 |dS=>cases t with|slice _ _=>rfl|au k=>cases k<;>simp[AV.bB] at h<;>rfl|_=>simp[AV.bB] at h
 |_=>first|(cases t<;>simp[AV.bB] at h<;>rfl)|(cases t with|au k=>cases k<;>simp[AV.bB] at h<;>rfl|_=>simp[AV.bB] at h)
def dL:(t:Ty)→t.den→Path→Option AV
 | .pair a _,x,.fG 0::p=>dL a x.1 p
 | .pair _ b,x,.fG (k+1)::p=>dL b x.2 (.fG k::p)
 | .arr _ t,x,.idx i::p=>dL t (List.getD x i t.aX) p
 |t,x,[]=>some (.val t x)
 |_,_,_=>none
def AV.get:AV→Path→Option AV
 | .val t x,p=>dL t x p
 | .cons a _,.fG 0::p=>a.get p
 | .cons _ b,.fG (k+1)::p=>b.get (.fG k::p)
 |a,[]=>some a
 |_,_=>none
def AV.bc:AV→(t:Ty)→Option t.den
 | .val u x,t=>if h:Ty.same u t=true then some (Ty.af h▸x) else none
 | .dS,.slice _ _=>some []
 |
  .cons a b,.pair t u=>match a.bc t,b.bc u with
  |some x,some y=>some (x,y)
  |_,_=>none
 | .nil,.unit=>some ()
 |_,_=>none
def AV.Dz(v:AV)(t:Ty):Option AV:=
 match v.bc t with
 |some y=>some (.val t y)
 |none=>if v.bB t then some v else none
def eL:(t:Ty)→t.den→Path→AV→Option AV
 |
  .pair a b,x,.fG 0::p,v=>match eL a x.1 p v with
  |some (.val u y)=>if h:Ty.same u a=true then some (.val (.pair a b) (Ty.af h▸y,x.2)) else none
  |some y=>some (.cons y (.val b x.2))
  |none=>none
 |
  .pair a b,x,.fG (k+1)::p,v=>match eL b x.2 (.fG k::p) v with
  |some (.val u y)=>if h:Ty.same u b=true then some (.val (.pair a b) (x.1,Ty.af h▸y)) else none
  |some y=>some (.cons (.val a x.1) y)
  |none=>none
 |
  .arr n t,x,.idx i::p,v=>match eL t (List.getD x i t.aX) p v with
  |
   some y=>match y.bc t with
   |some z=>some (.val (.arr n t) (List.set x i z))
   |none=>none
  |none=>none
 |t,_,[],v=>v.Dz t
 |_,_,_,_=>none
def AV.set:AV→Path→AV→Option AV
 | .val t x,p,v=>eL t x p v
 | .cons a b,.fG 0::p,v=>(a.set p v).map fun y=>.cons y b
 | .cons a b,.fG (k+1)::p,v=>(b.set (.fG k::p) v).map fun y=>.cons a y
 |_,[],v=>some v
 |_,_,_=>none
theorem RC.bc{E:Env}{w:World}:∀{a:AV}{t:Ty}{x:t.den}{vs:List Value},a.bc t=some x→RC E w a vs→Rel w E.S t vs x:=by
 intro a
 induction a with
 |
  val u y=>
  intro t x vs h hr
  simp only[AV.bc] at h
  split at h
  ·rename_i hs
   have e:=Ty.af hs
   subst e
   simp at h;subst h;exact hr
  ·cases h
 |
  dS=>
  intro t x vs h hr
  cases t<;>simp[AV.bc] at h
  subst h
  exact⟨none,0,by simpa[RC] using hr,Nat.le_refl _,by simp,by simp,Or.inl rfl⟩
 |
  cons a b Sn Sk=>
  intro t x vs h hr
  cases t with
  |
   pair t u=>
   obtain⟨v1,v2,e,h1,h2⟩:=hr
   simp only[AV.bc] at h
   split at h
   ·rename_i y z hy hz
    cases h
    exact⟨v1,v2,e,Sn hy h1,Sk hz h2⟩
   ·cases h
  |_=>simp[AV.bc] at h
 |
  nil=>
  intro t x vs h hr
  cases t<;>simp[AV.bc] at h
  exact hr
 |_=>intro t x vs h;cases t<;>simp[AV.bc] at h
theorem cZ.bc{E:Env}{w:World}{a:AV}{t:Ty}{x:t.den}{v:Value}(h:a.bc t=some x)(hr:cZ E w a v):cZ E w (.val t x) v:=by
 rcases hr with⟨h1,cs,h2,h3⟩|⟨h1,h2⟩
 ·refine Or.inl ⟨?_,cs,h2,RC.bc h h3⟩
  cases a with
  |
   val u y=>
   simp only[AV.bc] at h
   split at h
   ·rename_i hs;have e:=Ty.af hs;subst e;exact h1
   ·cases h
  |cons a b=>cases t<;>simp[AV.bc] at h;rfl
  |nil=>cases t<;>simp[AV.bc] at h;rfl
  |_=>simp[AV.isAgg] at h1
 ·refine Or.inr ⟨?_,RC.bc h h2⟩
  cases a with
  |
   val u y=>
   simp only[AV.bc] at h
   split at h
   ·rename_i hs;have e:=Ty.af hs;subst e;exact h1
   ·cases h
  |dS=>cases t<;>simp[AV.bc] at h;rfl
  |cons a b=>simp[AV.isAgg] at h1
  |nil=>simp[AV.isAgg] at h1
  |_=>cases t<;>simp[AV.bc] at h
end Go.Abs
namespace Go.Abs
theorem lC{α:Type}(v1 v2:List α)(k n:Nat)(hk:v1.length≤k):((v1++v2).drop k).take n=(v2.drop (k -v1.length)).take n:=by
 rw[List.drop_append,List.drop_of_length_le hk,List.nil_append]
theorem lD{α:Type}(v1 v2:List α)(k n:Nat)(hk:k+n≤v1.length):((v1++v2).drop k).take n=(v1.drop k).take n:=by
 rw[List.drop_append,List.take_append]
 simp;omega
theorem ot{E:Env}{w:World}:∀{t:Ty}{x:t.den}{cs:List Value}{p:Path}{u:AV},Rel w E.S t cs x→t.valid p→dL t x p=some u→
 ∃s,t.sub p=some s∧u.bB s=true∧t.off p+s.size≤cs.length∧RC E w u ((cs.drop (t.off p)).take s.size):=by
 intro t
 induction t with
 |
  pair a b Sn Sk=>
  intro x cs p u hr hv hg
  cases p with
  |
   nil=>
   simp only[dL,Option.some.injEq] at hg;subst hg
   have hl:=Rel.len hr
   exact⟨_,rfl,Ty.cF _,by simp[Ty.off,hl],by simp only[Ty.off,List.drop_zero];rw[List.take_of_length_le (by omega)];exact hr⟩
  |
   cons s p=>
   obtain⟨v1,v2,e,h1,h2⟩:=hr
   subst e
   cases s with
   |
    fG k=>
    cases k with
    |
     zero=>
     obtain⟨s,e1,e2,e3,e4⟩:=Sn h1 hv hg
     refine⟨s,e1,e2,by simp only[Ty.off,List.length_append];omega,?_⟩
     simp only[Ty.off]
     rw[lD _ _ _ _ e3];exact e4
    |
     succ k=>
     obtain⟨s,e1,e2,e3,e4⟩:=Sk h2 hv hg
     have hl:=Rel.len h1
     refine⟨s,e1,e2,by simp only[Ty.off,List.length_append];omega,?_⟩
     simp only[Ty.off]
     rw[lC _ _ _ _ (by omega),hl,Nat.add_sub_cancel_left];exact e4
   |idx i=>simp[dL] at hg
 |
  arr n t ih=>
  intro x cs p u hr hv hg
  cases p with
  |
   nil=>
   simp only[dL,Option.some.injEq] at hg;subst hg
   have hl:=Rel.len hr
   exact⟨_,rfl,Ty.cF _,by simp[Ty.off,hl],by simp only[Ty.off,List.drop_zero];rw[List.take_of_length_le (by omega)];exact hr⟩
  |
   cons s p=>
   cases s with
   |fG k=>simp[dL] at hg
   |
    idx i=>
    have hl:=Rel.len hr
    obtain⟨hn,hr⟩:=hr
    obtain⟨hi,hv⟩:=hv
    have hx:i<List.length x:=by rw[hn];exact hi
    have:=aC.get (fun _ _=>Rel.len) t.aX i hr hx
    obtain⟨s,e1,e2,e3,e4⟩:=ih this hv hg
    have hb:(i+1)*t.size≤n*t.size:=Nat.mul_le_mul_right _ hi
    rw[Nat.add_mul,Nat.one_mul] at hb
    have hle:t.off p+s.size≤t.size:=by
     have:=e3
     simp only[List.length_take,List.length_drop] at this
     omega
    refine⟨s,e1,e2,?_,?_⟩
    ·simp only[Ty.off];rw[hl,Ty.size];omega
    ·simp only[Ty.off]
     rw[List.drop_take,List.take_take,List.drop_drop,Nat.min_eq_left (by omega)] at e4
     exact e4
 |
  int k=>intro x cs p u hr hv hg;cases p with
  |nil=>simp only[dL,Option.some.injEq] at hg;subst hg;have hl:=Rel.len hr;exact⟨_,rfl,Ty.cF _,by simp[Ty.off,hl],by simp only[Ty.off,List.drop_zero];rw[List.take_of_length_le (by omega)];exact hr⟩
  |cons s p=>simp[Ty.valid] at hv
 |
  bool=>intro x cs p u hr hv hg;cases p with
  |nil=>simp only[dL,Option.some.injEq] at hg;subst hg;have hl:=Rel.len hr;exact⟨_,rfl,Ty.cF _,by simp[Ty.off,hl],by simp only[Ty.off,List.drop_zero];rw[List.take_of_length_le (by omega)];exact hr⟩
  |cons s p=>simp[Ty.valid] at hv
 |
  str=>intro x cs p u hr hv hg;cases p with
  |nil=>simp only[dL,Option.some.injEq] at hg;subst hg;have hl:=Rel.len hr;exact⟨_,rfl,Ty.cF _,by simp[Ty.off,hl],by simp only[Ty.off,List.drop_zero];rw[List.take_of_length_le (by omega)];exact hr⟩
  |cons s p=>simp[Ty.valid] at hv
 |
  slice bs t=>intro x cs p u hr hv hg;cases p with
  |nil=>simp only[dL,Option.some.injEq] at hg;subst hg;have hl:=Rel.len hr;exact⟨_,rfl,Ty.cF _,by simp[Ty.off,hl],by simp only[Ty.off,List.drop_zero];rw[List.take_of_length_le (by omega)];exact hr⟩
  |cons s p=>simp[Ty.valid] at hv
 |
  unit=>intro x cs p u hr hv hg;cases p with
  |nil=>simp only[dL,Option.some.injEq] at hg;subst hg;have hl:=Rel.len hr;exact⟨_,rfl,Ty.cF _,by simp[Ty.off,hl],by simp only[Ty.off,List.drop_zero];rw[List.take_of_length_le (by omega)];exact hr⟩
  |cons s p=>simp[Ty.valid] at hv
 |
  fns n=>intro x cs p u hr hv hg;cases p with
  |nil=>simp only[dL,Option.some.injEq] at hg;subst hg;have hl:=Rel.len hr;exact⟨_,rfl,Ty.cF _,by simp[Ty.off,hl],by simp only[Ty.off,List.drop_zero];rw[List.take_of_length_le (by omega)];exact hr⟩
  |cons s p=>simp[Ty.valid] at hv
 |au k=>intro x cs p u hr hv hg;exact hr.elim
theorem AV.rz{E:Env}{w:World}:∀{a:AV}{t:Ty}{cs:List Value}{p:Path}{u:AV},RC E w a cs→a.bB t=true→t.valid p→a.get p=some u→
 ∃s,t.sub p=some s∧u.bB s=true∧t.off p+s.size≤cs.length∧RC E w u ((cs.drop (t.off p)).take s.size):=by
 intro a
 have base:∀{a:AV}{t:Ty}{cs:List Value}{u:AV},RC E w a cs→a.bB t=true→some a=some u→
  ∃s,t.sub []=some s∧u.bB s=true∧t.off []+s.size≤cs.length∧RC E w u ((cs.drop (t.off [])).take s.size):=by
  intro a t cs u hr hc e
  cases e
  have hl:=RC.len hr
  have hs:=AV.fe hc
  have Sl:t.sub []=some t:=by cases t<;>rfl
  have hoff:t.off []=0:=by cases t<;>rfl
  exact⟨t,Sl,hc,by omega,by rw[hoff,List.drop_zero,List.take_of_length_le (by omega)];exact hr⟩
 induction a with
 |
  val u x=>
  intro t cs p v hr hc hv hg
  have:=Ty.af (by simpa[AV.bB] using hc);subst this
  exact ot hr hv hg
 |
  cons a b Sn Sk=>
  intro t cs p u hr hc hv hg
  cases p with
  |nil=>exact base hr hc hg
  |
   cons s p=>
   cases t with
   |
    pair t1 t2=>
    simp only[AV.bB,Bool.and_eq_true] at hc
    obtain⟨v1,v2,e,h1,h2⟩:=hr
    subst e
    cases s with
    |
     fG k=>
     cases k with
     |
      zero=>
      obtain⟨s,e1,e2,e3,e4⟩:=Sn h1 hc.1 hv hg
      refine⟨s,e1,e2,by simp only[Ty.off,List.length_append];omega,?_⟩
      simp only[Ty.off]
      rw[lD _ _ _ _ e3];exact e4
     |
      succ k=>
      obtain⟨s,e1,e2,e3,e4⟩:=Sk h2 hc.2 hv hg
      have hl:=RC.len h1
      have hs:=AV.fe hc.1
      refine⟨s,e1,e2,by simp only[Ty.off,List.length_append];omega,?_⟩
      simp only[Ty.off]
      rw[lC _ _ _ _ (by omega),hl,hs,Nat.add_sub_cancel_left];exact e4
    |idx i=>simp[AV.get] at hg
   |_=>simp[AV.bB] at hc
 |
  _=>
  intro t cs p u hr hc hv hg
  cases p with
  |nil=>exact base hr hc hg
  |cons s p=>simp[AV.get] at hg
theorem ig{α:Type}(v1 v2 us:List α)(k n:Nat)(hk:k+n≤v1.length):(v1++v2).take k++us++(v1++v2).drop (k+n)=(v1.take k++us++v1.drop (k+n))++v2:=by
 rw[List.take_append_of_le_length (by omega),List.drop_append_of_le_length (by omega)];simp
theorem ij{α:Type}(v1 v2 us:List α)(k n:Nat)(hk:v1.length≤k):(v1++v2).take k++us++(v1++v2).drop (k+n)=v1++(v2.take (k -v1.length)++us++v2.drop (k -v1.length+n)):=by
 rw[List.take_append,List.take_of_length_le hk,List.drop_append,List.drop_of_length_le (by omega)]
 simp only[List.nil_append,List.append_assoc]
 congr 4;omega
theorem Rel.cast{w:World}{S:Nat→Prop}{u t:Ty}{x:u.den}{cs:List Value}(h:Ty.same u t=true)(hr:Rel w S u cs x):Rel w S t cs (Ty.af h▸x):=by
 have e:=Ty.af h
 subst e
 exact hr
theorem tF{E:Env}{w:World}{v:AV}{us:List Value}(hv:RC E w v us):∀{t:Ty}{x:t.den}{cs:List Value}{p:Path}{u:AV},Rel w E.S t cs x→t.valid p→eL t x p v=some u→
 ∃s,t.sub p=some s∧us.length=s.size∧t.off p+s.size≤cs.length∧RC E w u (cs.take (t.off p)++us++cs.drop (t.off p+s.size)):=by
 intro t
 have base:∀{t:Ty}{x:t.den}{cs:List Value}{u:AV},Rel w E.S t cs x→eL t x [] v=some u→
  ∃s,t.sub []=some s∧us.length=s.size∧t.off []+s.size≤cs.length∧RC E w u (cs.take (t.off [])++us++cs.drop (t.off []+s.size)):=by
  intro t x cs u hr hs
  have hl:=Rel.len hr
  have Sl:t.sub []=some t:=by cases t<;>rfl
  have hoff:t.off []=0:=by cases t<;>rfl
  have key:v.Dz t=some u:=by
   cases t<;>simpa only[eL] using hs
  unfold AV.Dz at key
  split at key
  ·rename_i y hy
   cases key
   have:=RC.bc hy hv
   have hlu:=Rel.len this
   exact⟨t,Sl,hlu,by omega,by rw[hoff,Nat.zero_add,List.take_zero,List.nil_append,List.drop_of_length_le (by omega),List.append_nil];exact this⟩
  ·split at key
   ·rename_i hc
    cases key
    have hlu:=RC.len hv
    have:=AV.fe hc
    exact⟨t,Sl,by omega,by omega,by rw[hoff,Nat.zero_add,List.take_zero,List.nil_append,List.drop_of_length_le (by omega),List.append_nil];exact hv⟩
   ·cases key
 induction t with
 |
  pair a b Sn Sk=>
  intro x cs p u hr hva hs
  cases p with
  |nil=>exact base hr hs
  |
   cons s p=>
   obtain⟨v1,v2,e,h1,h2⟩:=hr
   subst e
   have hl:=Rel.len h1
   cases s with
   |
    fG k=>
    cases k with
    |
     zero=>
     simp only[eL] at hs
     split at hs
     ·rename_i ty y hy
      split at hs
      ·rename_i SB
       cases hs
       obtain⟨s,e1,e2,e3,e4⟩:=Sn h1 hva hy
       refine⟨s,e1,e2,by simp only[Ty.off,List.length_append];omega,?_⟩
       simp only[Ty.off]
       rw[ig _ _ _ _ _ e3]
       exact⟨_,v2,rfl,Rel.cast SB e4,h2⟩
      ·cases hs
     ·rename_i y _ hy
      cases hs
      obtain⟨s,e1,e2,e3,e4⟩:=Sn h1 hva hy
      refine⟨s,e1,e2,by simp only[Ty.off,List.length_append];omega,?_⟩
      simp only[Ty.off]
      rw[ig _ _ _ _ _ e3]
      exact⟨_,v2,rfl,e4,h2⟩
     ·cases hs
    |
     succ k=>
     simp only[eL] at hs
     split at hs
     ·rename_i ty y hy
      split at hs
      ·rename_i SB
       cases hs
       obtain⟨s,e1,e2,e3,e4⟩:=Sk h2 hva hy
       refine⟨s,e1,e2,by simp only[Ty.off,List.length_append];omega,?_⟩
       simp only[Ty.off]
       rw[ij _ _ _ _ _ (by omega),hl,Nat.add_sub_cancel_left]
       exact⟨v1,_,rfl,h1,Rel.cast SB e4⟩
      ·cases hs
     ·rename_i y _ hy
      cases hs
      obtain⟨s,e1,e2,e3,e4⟩:=Sk h2 hva hy
      refine⟨s,e1,e2,by simp only[Ty.off,List.length_append];omega,?_⟩
      simp only[Ty.off]
      rw[ij _ _ _ _ _ (by omega),hl,Nat.add_sub_cancel_left]
      exact⟨v1,_,rfl,h1,e4⟩
     ·cases hs
   |idx i=>simp[eL] at hs
 |
  arr n t ih=>
  intro x cs p u hr hva hs
  cases p with
  |nil=>exact base hr hs
  |
   cons s p=>
   cases s with
   |fG k=>simp[eL] at hs
   |
    idx i=>
    have hl:=Rel.len hr
    obtain⟨hn,hr⟩:=hr
    obtain⟨hi,hva⟩:=hva
    have hx:i<List.length x:=by rw[hn];exact hi
    have hg:=aC.get (fun _ _=>Rel.len) t.aX i hr hx
    simp only[eL] at hs
    split at hs
    ·rename_i y hy
     split at hs
     ·rename_i z hz
      cases hs
      obtain⟨s,e1,e2,e3,e4⟩:=ih hg hva hy
      have hb:(i+1)*t.size≤n*t.size:=Nat.mul_le_mul_right _ hi
      rw[Nat.add_mul,Nat.one_mul] at hb
      have hle:t.off p+s.size≤t.size:=by
       have:=e3
       simp only[List.length_take,List.length_drop] at this
       omega
      have aA:=aC.set (r:=Rel w E.S t) (n:=t.size) (fun _ _ h=>Rel.len h) (us:=_) (y:=z) (RC.bc hz e4) i hr hx
      refine⟨s,e1,e2,?_,?_⟩
      ·simp only[Ty.off];rw[hl,Ty.size];omega
      ·simp only[Ty.off]
       refine⟨by simp[hn],?_⟩
       have key:cs.take (i*t.size)++(((cs.drop (i*t.size)).take t.size).take (t.off p)++us++((cs.drop (i*t.size)).take t.size).drop (t.off p+s.size))++cs.drop (i*t.size+t.size)
        =cs.take (i*t.size+t.off p)++us++cs.drop (i*t.size+t.off p+s.size):=by
        rw[List.take_take,Nat.min_eq_left (by omega),List.drop_take,List.drop_drop]
        have a1:cs.take (i*t.size+t.off p)=cs.take (i*t.size)++(cs.drop (i*t.size)).take (t.off p):=by
         rw[List.take_add]
        have a2:cs.drop (i*t.size+t.off p+s.size)=(cs.drop (i*t.size+(t.off p+s.size))).take (t.size -(t.off p+s.size))++cs.drop (i*t.size+t.size):=by
         have:=List.take_append_drop (t.size -(t.off p+s.size)) (cs.drop (i*t.size+(t.off p+s.size)))
         rw[List.drop_drop] at this
         rw[show i*t.size+(t.off p+s.size)+(t.size -(t.off p+s.size))=i*t.size+t.size from by omega] at this
         rw[this];congr 1;omega
        rw[a1,a2];simp only[List.append_assoc]
       rw[←key];exact aA
     ·cases hs
    ·cases hs
 |
  int k=>intro x cs p u hr hva hs;cases p with
  |nil=>exact base hr hs
  |cons s p=>simp[Ty.valid] at hva
 |
  bool=>intro x cs p u hr hva hs;cases p with
  |nil=>exact base hr hs
  |cons s p=>simp[Ty.valid] at hva
 |
  str=>intro x cs p u hr hva hs;cases p with
  |nil=>exact base hr hs
  |cons s p=>simp[Ty.valid] at hva
 |
  slice bs t=>intro x cs p u hr hva hs;cases p with
  |nil=>exact base hr hs
  |cons s p=>simp[Ty.valid] at hva
 |
  unit=>intro x cs p u hr hva hs;cases p with
  |nil=>exact base hr hs
  |cons s p=>simp[Ty.valid] at hva
 |
  fns n=>intro x cs p u hr hva hs;cases p with
  |nil=>exact base hr hs
  |cons s p=>simp[Ty.valid] at hva
 |au k=>intro x cs p u hr;exact hr.elim
theorem AV.u9{E:Env}{w:World}{v:AV}{us:List Value}(hv:RC E w v us):∀{a:AV}{t:Ty}{cs:List Value}{p:Path}{u:AV},RC E w a cs→a.bB t=true→t.valid p→(∀s,t.sub p=some s→us.length=s.size)→a.set p v=some u→
 ∃s,t.sub p=some s∧us.length=s.size∧t.off p+s.size≤cs.length∧RC E w u (cs.take (t.off p)++us++cs.drop (t.off p+s.size)):=by
 intro a
 have base:∀{a:AV}{t:Ty}{cs:List Value}{u:AV},RC E w a cs→a.bB t=true→(∀s,t.sub []=some s→us.length=s.size)→some v=some u→
  ∃s,t.sub []=some s∧us.length=s.size∧t.off []+s.size≤cs.length∧RC E w u (cs.take (t.off [])++us++cs.drop (t.off []+s.size)):=by
  intro a t cs u hr hc hlen e
  cases e
  have hl:=RC.len hr
  have hs:=AV.fe hc
  have Sl:t.sub []=some t:=by cases t<;>rfl
  have hoff:t.off []=0:=by cases t<;>rfl
  have:=hlen t Sl
  exact⟨t,Sl,this,by omega,by rw[hoff,Nat.zero_add,List.take_zero,List.nil_append,List.drop_of_length_le (by omega),List.append_nil];exact hv⟩
 induction a with
 |
  val u x=>
  intro t cs p y hr hc hva _ hs
  have:=Ty.af (by simpa[AV.bB] using hc);subst this
  exact tF hv hr hva hs
 |
  cons a b Sn Sk=>
  intro t cs p u hr hc hva hlen hs
  cases p with
  |nil=>exact base hr hc hlen hs
  |
   cons s p=>
   cases t with
   |
    pair t1 t2=>
    simp only[AV.bB,Bool.and_eq_true] at hc
    obtain⟨v1,v2,e,h1,h2⟩:=hr
    subst e
    have hl:=RC.len h1
    have Sd:=AV.fe hc.1
    cases s with
    |
     fG k=>
     cases k with
     |
      zero=>
      simp only[AV.set,Option.map_eq_some_iff] at hs
      obtain⟨y,hy,e⟩:=hs
      subst e
      obtain⟨s,e1,e2,e3,e4⟩:=Sn h1 hc.1 hva hlen hy
      refine⟨s,e1,e2,by simp only[Ty.off,List.length_append];omega,?_⟩
      simp only[Ty.off]
      rw[ig _ _ _ _ _ e3]
      exact⟨_,v2,rfl,e4,h2⟩
     |
      succ k=>
      simp only[AV.set,Option.map_eq_some_iff] at hs
      obtain⟨y,hy,e⟩:=hs
      subst e
      obtain⟨s,e1,e2,e3,e4⟩:=Sk h2 hc.2 hva hlen hy
      refine⟨s,e1,e2,by simp only[Ty.off,List.length_append];omega,?_⟩
      simp only[Ty.off]
      rw[ij _ _ _ _ _ (by omega),hl,Sd,Nat.add_sub_cancel_left]
      exact⟨v1,_,rfl,h1,e4⟩
    |idx i=>simp[AV.set] at hs
   |_=>simp[AV.bB] at hc
 |
  _=>
  intro t cs p u hr hc hva hlen hs
  cases p with
  |nil=>exact base hr hc hlen hs
  |cons s p=>simp[AV.set] at hs
end Go.Abs
namespace Go.Abs
structure DA where
 g:Nat
 t:Ty
 x:t.den
structure Ctx where
 gl:List DA
 B:(Nat→Prop)→World→Prop
 mono:∀{S S':Nat→Prop}{w w':World},(∀b,S b→w'.heap[b]? =w.heap[b]?)→(∀b,S b→S' b)→B S w→B S' w'
 ro:Option Nat
 md:Prop
def Ctx.of(l:List DA):Ctx:=⟨l,fun _ _=>True,fun _ _ _=>trivial,none,False⟩
abbrev Wd(gl:Ctx):Fence:={fn:=fun _=>True,depth:=none,alive:=false,round:=gl.ro}
structure St where
 tm:List AV
 hp:List (Option aj)
 df:List AV
def aj.ids:aj→List Nat
 | .var _ v=>v.ids
 | .tv _ _ v=>v.ids
 |_=>[]
def RM(E:Env)(w:World)(k v:Ty):List MapEntry→List (k.den×v.den)→Prop
 |[],[]=>True
 |e::es,x::xs=>cZ E w (.val k x.1) e.key∧cZ E w (.val v x.2) e.val∧RM E w k v es xs
 |_,_=>False
def RB(E:Env)(w:World)(b:Nat):aj→Prop
 | .var t v=>E.bt b=t∧v.bB t=true∧∃g c e,E.g b=some g∧w.heap[g]? =some (.cells c e (0,0))∧RC E w v c.toList
 | .row e bs t xs=>E.bt b= .arr xs.length t∧xs.length*bs≤az∧xs.length≤az∧0<t.size∧∃a cap,E.sv b= .slice a xs.length cap∧cap≤maxLen∧
  (
   ((cap=0∧a=none)∧E.g b=none∧xs= [])∨
   (∃g c,E.g b=some g∧a=some ⟨g,0,none⟩∧w.heap[g]? =some (.cells c e (0,0))∧c.size=cap*t.size∧xs.length≤cap∧aC (Rel w E.S t) (c.toList.take (xs.length*t.size)) xs))
 | .map k v es=>(es.map (·.1)).Nodup∧es.length≤az∧∃g en clock,E.g b=some g∧w.heap[g]? =some (.map en clock)∧RM E w k v en.toList es∧(∀x∈en.toList,x.born<clock)∧(en.toList.map (·.born)).Nodup
 | .lp l r=>E.g b=some l∧w.heap[l]? =some (.loop r)
 | .wE=>∃g,E.g b=some g∧w.heap[g]? =some (.deferred (some []))
 | .tv g t v=>E.g b=some g∧E.bt b=t∧v.bB t=true∧∃c e,w.heap[g]? =some (.cells c e (0,0))∧RC E w v c.toList
def rZ(gl:Ctx)(E:Env)(w:World):Prop:=(∀x∈gl.gl,E.S x.g∧∃cs,lj w ⟨x.g,0,none⟩ cs∧Rel w E.S x.t cs x.x)∧gl.B E.S w
structure HW(gl:Ctx)(E:Env)(w:World)(hp:List (Option aj)):Prop where
 bh:∀b k,hp[b]? =some (some k)→RB E w b k
 sep:∀b b' k k' g,hp[b]? =some (some k)→hp[b']? =some (some k')→E.g b=some g→E.g b'=some g→b=b'
 fo:∀b k g,hp[b]? =some (some k)→E.g b=some g→¬E.S g
 slt:∀g,E.S g→g<w.heap.size
 gl:rZ gl E w
def Own(hp:List (Option aj))(E:Env)(g:Nat):Prop:=∃b k,hp[b]? =some (some k)∧E.g b=some g
def Tp(md:Prop)(w w':World):Prop:=w'.tape=w.tape∧(md→w.drawn≤w'.drawn)
theorem Tp.r{md:Prop}{w w':World}(h:w'.tape=w.tape)(k:w'.drawn=w.drawn):Tp md w w':=⟨h,fun _=>Nat.le_of_eq k.symm⟩
theorem Tp.s{md:Prop}{w w':World}(h:w'.tape=w.tape)(k:w'.drawn=w.drawn+1):Tp md w w':=⟨h,fun _=>k▸Nat.le_succ _⟩
theorem Tp.trans{md:Prop}{w v u:World}(h:Tp md w v)(k:Tp md v u):Tp md w u:=⟨k.1.trans h.1,fun m=>Nat.le_trans (h.2 m) (k.2 m)⟩
structure Ext(md:Prop)(O:Nat→Prop)(E:Env)(w:World)(O':Nat→Prop)(E':Env)(w':World):Prop where
 os:w'.os=w.os
 tape:Tp md w w'
 output:w'.output=w.output
 size:w.heap.size≤w'.heap.size
 kept:∀g,g<w.heap.size→¬O g→w'.heap[g]? =w.heap[g]?
 sle:∀g,E.S g→E'.S g
 xj:∀g,E'.S g→E.S g∨O g∨w.heap.size≤g
 own:∀g,O' g→O g∨w.heap.size≤g
 IA:∀b,b<16→E'.g b=E.g b∧E'.sv b=E.sv b∧E'.bt b=E.bt b
theorem Ext.refl{md:Prop}(O:Nat→Prop)(E:Env)(w:World):Ext md O E w O E w:=
 ⟨rfl,Tp.r rfl rfl,rfl,Nat.le_refl _,fun _ _ _=>rfl,fun _ h=>h,fun _ h=>Or.inl h,fun _ h=>Or.inl h,fun _ _=>⟨rfl,rfl,rfl⟩⟩
theorem Ext.trans{md:Prop}{O O1 O2:Nat→Prop}{E E1 E2:Env}{w w1 w2:World}(h:Ext md O E w O1 E1 w1)(k:Ext md O1 E1 w1 O2 E2 w2):Ext md O E w O2 E2 w2 where
 os:=k.os.trans h.os
 tape:=h.tape.trans k.tape
 output:=k.output.trans h.output
 size:=Nat.le_trans h.size k.size
 kept:=fun g hg ho=>by
  rw[k.kept g (Nat.lt_of_lt_of_le hg h.size) (fun h1=>(h.own g h1).elim ho (fun h2=>by omega)),h.kept g hg ho]
 sle:=fun g hg=>k.sle g (h.sle g hg)
 xj:=fun g hg=>by
  rcases k.xj g hg with h1|h1|h1
  ·exact h.xj g h1
  ·exact(h.own g h1).elim (fun x=>Or.inr (Or.inl x)) (fun x=>Or.inr (Or.inr x))
  ·exact Or.inr (Or.inr (Nat.le_trans h.size h1))
 own:=fun g hg=>by
  rcases k.own g hg with h1|h1
  ·exact h.own g h1
  ·exact Or.inr (Nat.le_trans h.size h1)
 IA:=fun b hb=>⟨(k.IA b hb).1.trans (h.IA b hb).1,(k.IA b hb).2.1.trans (h.IA b hb).2.1,(k.IA b hb).2.2.trans (h.IA b hb).2.2⟩
def RD(E:Env)(w:World):List AV→List Deferred→Prop
 |[],[]=>True
 | .mp b::l,d::ds=>(∃g,E.g b=some g∧d={target:=.collected g,args:= #[]})∧RD E w l ds
 | .func fn fs cs::l,d::ds=>(∃f c,d={target:=.fn fn c,args:=f}∧RC E w fs f.toList∧RC E w cs c.toList∧fs.atoms=true∧cs.atoms=true)∧RD E w l ds
 |_,_=>False
theorem RD.mono{E E':Env}{w w':World}(k:bm E w E' w'):∀{l:List AV}{ds:List Deferred},(∀a∈l,E.on E' a.ids)→RD E w l ds→RD E' w' l ds
 |[],[],_,_=>trivial
 |[],_::_,_,h=>h.elim
 |a::l,[],_,h=>by cases a<;>exact h.elim
 |
  a::l,d::ds,ho,h=>by
  cases a with
  |
   func fn fs cs=>
   obtain⟨⟨f,c,e,h1,h2,h3,h4⟩,h5⟩:=h
   have:=ho _ (List.mem_cons_self ..)
   exact⟨⟨f,c,e,RC.mono k this.left h1,RC.mono k this.right h2,h3,h4⟩,RD.mono k (fun a ha=>ho a (List.mem_cons_of_mem _ ha)) h5⟩
  |
   mp b=>
   obtain⟨⟨g,e1,e2⟩,h5⟩:=h
   have:=ho _ (List.mem_cons_self ..) b (by simp[AV.ids])
   exact⟨⟨g,by rw[this.1];exact e1,e2⟩,RD.mono k (fun a ha=>ho a (List.mem_cons_of_mem _ ha)) h5⟩
  |_=>exact h.elim
structure cK(gl:Ctx)(σ:St)(E:Env)(a:Act)(w:World):Prop where
 len:a.tmps.size=σ.tm.length
 tm:∀(i:Nat)(x:AV),σ.tm[i]? =some x→∀v,a.tmps[i]? =some v→RV E w x v
 hw:HW gl E w σ.hp
 df:RD E w σ.df a.defers
theorem RM.mono{E E':Env}{w w':World}(k:bm E w E' w'){kt vt:Ty}:∀{l:List MapEntry}{xs:List (kt.den×vt.den)},RM E w kt vt l xs→RM E' w' kt vt l xs
 |[],[],_=>trivial
 |[],_::_,h=>h.elim
 |_::_,[],h=>h.elim
 |e::l,x::xs,h=>⟨cZ.mono k (fun b hb=>by cases hb) h.1,cZ.mono k (fun b hb=>by cases hb) h.2.1,RM.mono k h.2.2⟩
theorem RB.mono{E E':Env}{w w':World}{b:Nat}{k:aj}(kp:bm E w E' w')(ho:E.on E' (b::k.ids))(hk:∀g,E.g b=some g→w'.heap[g]? =w.heap[g]?)(h:RB E w b k):RB E' w' b k:=by
 obtain⟨e1,e2,e3⟩:=ho b (List.mem_cons_self ..)
 have ho':E.on E' k.ids:=fun x hx=>ho x (List.mem_cons_of_mem _ hx)
 cases k with
 |
  var t v=>
  obtain⟨h1,h2,g,c,e,h3,h4,h5⟩:=h
  exact⟨by rw[e3];exact h1,h2,g,c,e,by rw[e1];exact h3,by rw[hk g h3];exact h4,RC.mono kp ho' h5⟩
 |
  row e bs t xs=>
  obtain⟨h1,h2,h3,h4,a,cap,h5,h6,h7⟩:=h
  refine⟨by rw[e3];exact h1,h2,h3,h4,a,cap,by rw[e2];exact h5,h6,?_⟩
  rcases h7 with⟨h7,h8,h9⟩|⟨g,c,h7,h8,h9,SW,Sy,h12⟩
  ·exact Or.inl ⟨h7,by rw[e1];exact h8,h9⟩
  ·exact Or.inr ⟨g,c,by rw[e1];exact h7,h8,by rw[hk g h7];exact h9,SW,Sy,aC.mono (fun _ _=>Rel.mono kp.w kp.S) h12⟩
 |
  map kt vt es=>
  obtain⟨h1,h1',g,en,clock,h2,h3,h4,h5,h6⟩:=h
  exact⟨h1,h1',g,en,clock,by rw[e1];exact h2,by rw[hk g h2];exact h3,RM.mono kp h4,h5,h6⟩
 |lp l r=>exact⟨by rw[e1];exact h.1,by rw[hk l h.1];exact h.2⟩
 |wE=>obtain⟨g,h1,h2⟩:=h;exact⟨g,by rw[e1];exact h1,by rw[hk g h1];exact h2⟩
 |
  tv g t v=>
  obtain⟨h0,h1,h2,c,e,h4,h5⟩:=h
  exact⟨by rw[e1];exact h0,by rw[e3];exact h1,h2,c,e,by rw[hk g h0];exact h4,RC.mono kp ho' h5⟩
def St.put(σ:St)(dst:Option Nat)(x:AV):St:=
 match dst with
 |some d=>{σ with tm:=σ.tm.set d x}
 |none=>σ
def St.bh(σ:St)(b:Nat)(k:Option aj):St:={σ with hp:=σ.hp.set b k}
theorem cK.put{gl:Ctx}{σ:St}{E:Env}{a:Act}{w:World}(h:cK gl σ E a w)(dst:Option Nat){x:AV}{v:Value}(hv:RV E w x v):cK gl (σ.put dst x) E (a.put dst v) w:=by
 cases dst with
 |none=>exact h
 |
  some d=>
  refine⟨by simp[Act.put,St.put,h.len],?_,h.hw,h.df⟩
  intro i y hi u hu
  simp only[St.put,List.getElem?_set] at hi
  simp only[Act.put,Array.getElem?_setIfInBounds] at hu
  by_cases e:d=i
  ·subst e
   simp only[if_true] at hi hu
   split at hi
   ·cases hi
    rename_i Sg
    rw[if_pos (by rw[h.len];exact Sg)] at hu
    cases hu
    exact hv
   ·cases hi
  ·simp only[e,if_false] at hi hu
   exact h.tm i y hi u hu
def St.ids(σ:St):List Nat:=σ.tm.flatMap AV.ids++σ.df.flatMap AV.ids++(σ.hp.filterMap id).flatMap aj.ids
theorem St.yD{σ:St}{i:Nat}{x:AV}(h:σ.tm[i]? =some x):∀b∈x.ids,b∈σ.ids:=fun b hb=>by
 simp only[St.ids,List.mem_append,List.mem_flatMap]
 exact Or.inl (Or.inl ⟨x,List.mem_of_getElem? h,hb⟩)
theorem St.DB{σ:St}{x:AV}(h:x∈σ.df):∀b∈x.ids,b∈σ.ids:=fun b hb=>by
 simp only[St.ids,List.mem_append,List.mem_flatMap]
 exact Or.inl (Or.inr ⟨x,h,hb⟩)
theorem St.va{σ:St}{i:Nat}{k:aj}(h:σ.hp[i]? =some (some k)):∀b∈k.ids,b∈σ.ids:=fun b hb=>by
 simp only[St.ids,List.mem_append,List.mem_flatMap]
 exact Or.inr ⟨k,List.mem_filterMap.2 ⟨some k,List.mem_of_getElem? h,rfl⟩,hb⟩
theorem cK.carry{gl:Ctx}{σ:St}{E E':Env}{a:Act}{w w':World}(h:cK gl σ E a w)(k:bm E w E' w')(ho:E.on E' σ.ids){hp:List (Option aj)}(hw:HW gl E' w' hp):cK gl {σ with hp:=hp} E' a w':=
 ⟨h.len,fun i x hi v hv=>RV.mono k (fun b hb=>ho b (St.yD (σ:=σ) hi b hb)) (h.tm i x hi v hv),hw,RD.mono k (fun _x hx b hb=>ho b (St.DB (σ:=σ) hx b hb)) h.df⟩
def Env.at(E:Env)(d:Nat)(g:Option Nat)(sv:Value)(t:Ty):Env:=
 {E with g:=fun b=>if b=d then g else E.g b,sv:=fun b=>if b=d then sv else E.sv b,bt:=fun b=>if b=d then t else E.bt b}
theorem Env.DC{E:Env}{d:Nat}{g:Option Nat}{sv:Value}{t:Ty}(h:16≤d):∀b,b<16→(E.at d g sv t).g b=E.g b∧(E.at d g sv t).sv b=E.sv b∧(E.at d g sv t).bt b=E.bt b:=fun b hb=>by
 have:b≠d:=by omega
 simp[Env.at,this]
theorem Env.xk{E:Env}{d:Nat}{g:Option Nat}{sv:Value}{t:Ty}{ids:List Nat}(h:d∉ids):E.on (E.at d g sv t) ids:=fun b hb=>by
 have:b≠d:=fun e=>h (e▸hb)
 simp[Env.at,this]
theorem HW.ik{gl:Ctx}{E E':Env}{w w':World}{hp:List (Option aj)}(h:HW gl E w hp)(k:bm E w E' w'):rZ gl E' w':=
 ⟨fun x hx=>by
  obtain⟨h1,cs,h2,h3⟩:=h.gl.1 x hx
  exact⟨k.S _ h1,cs,h2.mono (k.w _ h1),Rel.mono k.w k.S h3⟩,gl.mono k.w k.S h.gl.2⟩
theorem HW.fresh{gl:Ctx}{E:Env}{w w':World}{hp:List (Option aj)}(h:HW gl E w hp){d:Nat}{g:Option Nat}{sv:Value}{t:Ty}{k:aj}
 (Sd:w.heap.size≤w'.heap.size) (hold:∀i,i<w.heap.size→w'.heap[i]? =w.heap[i]?)
 (hd:∀k',hp[d]? ≠some (some k')) (hids:∀(b:Nat)(k':aj),hp[b]? =some (some k')→d∉k'.ids) (hg:∀i,g=some i→w.heap.size≤i) (hb:RB (E.at d g sv t) w' d k):HW gl (E.at d g sv t) w' (hp.set d (some k)):=by
 have kp:bm E w (E.at d g sv t) w':=⟨fun b hb=>hold b (h.slt b hb),fun b hb=>hb⟩
 have old:∀(b:Nat)(k':aj),b≠d→(hp.set d (some k))[b]? =some (some k')→hp[b]? =some (some k'):=by
  intro b k' R7 hb
  rw[List.getElem?_set,if_neg (fun e=>R7 e.symm)] at hb
  exact hb
 have hEg:∀b,b≠d→(E.at d g sv t).g b=E.g b:=fun b R7=>by simp[Env.at,R7]
 have hEd:(E.at d g sv t).g d=g:=by simp[Env.at]
 have below:∀b k' i,b≠d→hp[b]? =some (some k')→E.g b=some i→i<w.heap.size:=by
  intro b k' i R7 hb SY
  have:=h.bh b k' hb
  cases k' with
  |var t v=>obtain⟨_,_,g,c,e,h3,h4,_⟩:=this;rw[SY] at h3;cases h3;exact(Array.getElem?_eq_some_iff.1 h4).1
  |
   row e bs t xs=>
   obtain⟨_,_,_,_,a,cap,_,_,h7⟩:=this
   rcases h7 with⟨_,h8,_⟩|⟨g,c,h7,_,h9,_⟩
   ·rw[SY] at h8;cases h8
   ·rw[SY] at h7;cases h7;exact(Array.getElem?_eq_some_iff.1 h9).1
  |map kt vt es=>obtain⟨_,_,g,en,clock,h2,h3,_⟩:=this;rw[SY] at h2;cases h2;exact(Array.getElem?_eq_some_iff.1 h3).1
  |lp l r=>obtain⟨h2,h3⟩:=this;rw[SY] at h2;cases h2;exact(Array.getElem?_eq_some_iff.1 h3).1
  |wE=>obtain⟨g,h2,h3⟩:=this;rw[SY] at h2;cases h2;exact(Array.getElem?_eq_some_iff.1 h3).1
  |tv g t v=>obtain⟨h2,_,_,c,e,h3,_⟩:=this;rw[SY] at h2;cases h2;exact(Array.getElem?_eq_some_iff.1 h3).1
 refine⟨?_,?_,?_,?_,h.ik kp⟩
 ·intro b k' hbk
  by_cases e:b=d
  ·subst e
   rw[List.getElem?_set] at hbk
   simp only[if_true] at hbk
   split at hbk
   ·cases hbk;exact hb
   ·cases hbk
  ·have hbk':=old b k' e hbk
   refine RB.mono kp (Env.xk ?_) ?_ (h.bh b k' hbk')
   ·intro hm
    cases hm with
    |head=>exact e rfl
    |tail _ hm=>exact hids b k' hbk' hm
   ·intro i hi
    exact hold i (below b k' i e hbk' hi)
 ·intro b b' k1 k2 i hb Sb h1 h2
  by_cases e:b=d<;>by_cases e':b'=d
  ·rw[e,e']
  ·subst e
   rw[hEd] at h1
   rw[hEg b' e'] at h2
   have:=below b' k2 i e' (old b' k2 e' Sb) h2
   have:=hg i h1
   omega
  ·subst e'
   rw[hEd] at h2
   rw[hEg b e] at h1
   have:=below b k1 i e (old b k1 e hb) h1
   have:=hg i h2
   omega
  ·rw[hEg b e] at h1;rw[hEg b' e'] at h2
   exact h.sep b b' k1 k2 i (old b k1 e hb) (old b' k2 e' Sb) h1 h2
 ·intro b k1 i hb h1 hs
  by_cases e:b=d
  ·subst e
   rw[hEd] at h1
   have:=hg i h1
   have:=h.slt i hs
   omega
  ·rw[hEg b e] at h1
   exact h.fo b k1 i (old b k1 e hb) h1 hs
 ·intro i hs;exact Nat.lt_of_lt_of_le (h.slt i hs) Sd
theorem Own.below{gl:Ctx}{E:Env}{w:World}{hp:List (Option aj)}(h:HW gl E w hp){i:Nat}(ho:Own hp E i):i<w.heap.size:=by
 obtain⟨b,k',hb,SY⟩:=ho
 have:=h.bh b k' hb
 cases k' with
 |var t v=>obtain⟨_,_,g,c,e,h3,h4,_⟩:=this;rw[SY] at h3;cases h3;exact(Array.getElem?_eq_some_iff.1 h4).1
 |
  row e bs t xs=>
  obtain⟨_,_,_,_,a,cap,_,_,h7⟩:=this
  rcases h7 with⟨_,h8,_⟩|⟨g,c,h7,_,h9,_⟩
  ·rw[SY] at h8;cases h8
  ·rw[SY] at h7;cases h7;exact(Array.getElem?_eq_some_iff.1 h9).1
 |map kt vt es=>obtain⟨_,_,g,en,clock,h2,h3,_⟩:=this;rw[SY] at h2;cases h2;exact(Array.getElem?_eq_some_iff.1 h3).1
 |lp l r=>obtain⟨h2,h3⟩:=this;rw[SY] at h2;cases h2;exact(Array.getElem?_eq_some_iff.1 h3).1
 |wE=>obtain⟨g,h2,h3⟩:=this;rw[SY] at h2;cases h2;exact(Array.getElem?_eq_some_iff.1 h3).1
 |tv g t v=>obtain⟨h2,_,_,c,e,h3,_⟩:=this;rw[SY] at h2;cases h2;exact(Array.getElem?_eq_some_iff.1 h3).1
theorem HW.write{gl:Ctx}{E:Env}{w w':World}{hp:List (Option aj)}(h:HW gl E w hp){b:Nat}{k k':aj}(hb:hp[b]? =some (some k))(Sd:w'.heap.size=w.heap.size)
 (hold:∀i,E.g b≠some i→w'.heap[i]? =w.heap[i]?) (hk:RB E w' b k'):HW gl E w' (hp.set b (some k')):=by
 have kp:bm E w E w':=⟨fun i hi=>hold i (fun e=>h.fo b k i hb e hi),fun b hb=>hb⟩
 have old:∀(b':Nat)(k2:aj),b'≠b→(hp.set b (some k'))[b']? =some (some k2)→hp[b']? =some (some k2):=by
  intro b' k2 R7 Sb
  rw[List.getElem?_set,if_neg (fun e=>R7 e.symm)] at Sb
  exact Sb
 have any:∀(b':Nat)(k2:aj),(hp.set b (some k'))[b']? =some (some k2)→∃k3:aj,hp[b']? =some (some k3):=by
  intro b' k2 Sb
  by_cases e:b'=b
  ·subst e;exact⟨k,hb⟩
  ·exact⟨k2,old b' k2 e Sb⟩
 refine⟨?_,?_,?_,?_,h.ik kp⟩
 ·intro b' k2 Sb
  by_cases e:b'=b
  ·subst e
   rw[List.getElem?_set] at Sb
   simp only[if_true] at Sb
   split at Sb
   ·cases Sb;exact hk
   ·cases Sb
  ·have hb2:=old b' k2 e Sb
   refine RB.mono kp (fun x _=>⟨rfl,rfl,rfl⟩) ?_ (h.bh b' k2 hb2)
   intro i hi
   exact hold i (fun e'=>e (h.sep b' b k2 k i hb2 hb hi e'))
 ·intro b1 b2 k1 k2 i h1 h2 g1 g2
  obtain⟨k3,h3⟩:=any b1 k1 h1
  obtain⟨k4,h4⟩:=any b2 k2 h2
  exact h.sep b1 b2 k3 k4 i h3 h4 g1 g2
 ·intro b1 k1 i h1 g1
  obtain⟨k3,h3⟩:=any b1 k1 h1
  exact h.fo b1 k3 i h3 g1
 ·intro i hi;rw[Sd];exact h.slt i hi
theorem Own.set{hp:List (Option aj)}{E:Env}{b:Nat}{k k':aj}(hb:hp[b]? =some (some k)){i:Nat}(h:Own (hp.set b (some k')) E i):Own hp E i:=by
 obtain⟨b',k2,Sb,hg⟩:=h
 by_cases e:b'=b
 ·subst e;exact⟨b',k,hb,hg⟩
 ·rw[List.getElem?_set,if_neg (fun e'=>e e'.symm)] at Sb
  exact⟨b',k2,Sb,hg⟩
end Go.Abs
namespace Go.Abs
structure TD where
 ty:Ty
 e:TypeId:=0
 e2:TypeId:=0
abbrev bH:=List (Option TD)
def bH.at(G:bH)(t:TypeId):Option TD:=(G[t]?).join
def dW.zero:dW→AV
 | .ptr=>.iw
 | .map=>.mh
 | .func=>.ix
 | .iface=>.oq
 | .sl=>.dS
def Ty.zero:Ty→AV
 | .slice _ _=>.dS
 | .pair a b=>.cons a.zero b.zero
 | .unit=>.nil
 | .au k=>dW.zero k
 |t=>.val t t.aX
def Ty.pure:Ty→Bool
 | .arr _ t=>t.pure
 | .slice _ t=>t.pure
 | .pair a b=>a.pure&&b.pure
 | .au _| .fns _=>false
 |_=>true
def DD:Value→Bool
 | .nilFunc=>true
 |_=>false
def isZero:Ty→Value→Bool
 | .int k,.int k' n=>Nat.beq (IntKind.code k) (IntKind.code k')&&decide (n=0)
 | .bool,.bool b=> !b
 | .str,.string s=>s.data.toList.isEmpty
 | .slice _ _,.slice a n c=>a.isNone&&Nat.beq n 0&&Nat.beq c 0
 | .au .ptr,.pointer a=>a.isNone
 | .au .map,.map a=>a.isNone
 | .au .func,.nilFunc=>true
 | .au .iface,.nilIface=>true
 | .au .sl,.slice a n c=>a.isNone&&Nat.beq n 0&&Nat.beq c 0
 |_,_=>false
def cD:Ty→List Value→Bool
 | .arr n t,cs=>Nat.beq cs.length (n*t.size)&&t.pure&&(List.range n).all fun i=>cD t ((cs.drop (i*t.size)).take t.size)
 | .pair a b,cs=>Nat.ble a.size cs.length&&cD a (cs.take a.size)&&cD b (cs.drop a.size)
 | .unit,cs=>cs.isEmpty
 | .fns n,cs=>Nat.beq cs.length n&&cs.all DD
 |t,[v]=>isZero t v
 |_,_=>false
theorem jr{E:Env}{w:World}{t:Ty}{v:Value}(ha:t.isAgg=false)(h:isZero t v=true):RC E w t.zero [v]∧(t.pure=true→Rel w E.S t [v] t.aX):=by
 cases t with
 |
  int k=>
  cases v<;>simp[isZero] at h
  obtain⟨h1,h2⟩:=h
  have:=IntKind.fA h1
  subst this;subst h2
  refine⟨⟨rfl,?_,?_⟩,fun _=>⟨rfl,?_,?_⟩⟩<;>(cases k<;>decide)
 |
  bool=>
  cases v<;>simp[isZero] at h
  subst h
  exact⟨rfl,fun _=>rfl⟩
 |
  str=>
  cases v with
  |
   string s=>
   simp[isZero] at h
   have:s=⟨#[]⟩:=by cases s;simp_all
   subst this
   exact⟨⟨rfl,by simp[az,Ty.aX]⟩,fun _=>⟨rfl,by simp[az,Ty.aX]⟩⟩
  |_=>simp[isZero] at h
 |
  slice bs t=>
  cases v with
  |
   slice a n c=>
   simp[isZero] at h
   obtain⟨⟨h1,h2⟩,h3⟩:=h
   subst h1;subst h2;subst h3
   exact⟨rfl,fun _=>⟨none,0,rfl,Nat.le_refl _,by simp[Ty.aX],by simp[Ty.aX],Or.inl rfl⟩⟩
  |_=>simp[isZero] at h
 |
  au k=>
  refine⟨?_,fun hp=>by simp[Ty.pure] at hp⟩
  cases k<;>cases v<;>simp[isZero] at h<;>first|rfl|(subst h;rfl)|(obtain⟨⟨h1,h2⟩,h3⟩:=h;subst h1;subst h2;subst h3;rfl)
 |_=>simp[Ty.isAgg] at ha
theorem aC.xl{α:Type}{r:List Value→α→Prop}(x:α)(k:Nat):∀(n:Nat)(cs:List Value),cs.length=n*k→(∀i,i<n→r ((cs.drop (i*k)).take k) x)→aC r cs (List.replicate n x):=by
 intro n
 induction n with
 |zero=>intro cs hl _;simp at hl;simp[aC,hl]
 |
  succ n ih=>
  intro cs hl h
  rw[List.replicate_succ]
  rw[Nat.add_mul,Nat.one_mul] at hl
  refine⟨cs.take k,cs.drop k,(List.take_append_drop k cs).symm,by have:=h 0 (by omega);simpa using this,ih _ (by simp;omega) ?_⟩
  intro i hi
  have:=h (i+1) (by omega)
  rw[List.drop_drop]
  rw[Nat.add_mul,Nat.one_mul,Nat.add_comm] at this
  exact this
theorem fB{E:Env}{w:World}:∀{t:Ty}{cs:List Value},cD t cs=true→RC E w t.zero cs∧(t.pure=true→Rel w E.S t cs t.aX):=by
 intro t
 induction t with
 |
  arr n t ih=>
  intro cs h
  simp only[cD,Bool.and_eq_true,List.all_eq_true,List.mem_range] at h
  obtain⟨⟨h1,h2⟩,h3⟩:=h
  have h1':cs.length=n*t.size:=Nat.eq_of_beq_eq_true h1
  have:Rel w E.S (.arr n t) cs (Ty.aX (.arr n t)):=
   ⟨by simp[Ty.aX],aC.xl t.aX t.size n cs h1' (fun i hi=>(ih (h3 i hi)).2 h2)⟩
  exact⟨this,fun _=>this⟩
 |
  pair a b Sn Sk=>
  intro cs h
  simp only[cD,Bool.and_eq_true] at h
  obtain⟨⟨_,h1⟩,h2⟩:=h
  have e:=(List.take_append_drop a.size cs).symm
  refine⟨⟨_,_,e,(Sn h1).1,(Sk h2).1⟩,fun hp=>?_⟩
  simp only[Ty.pure,Bool.and_eq_true] at hp
  exact⟨_,_,e,(Sn h1).2 hp.1,(Sk h2).2 hp.2⟩
 |unit=>intro cs h;simp[cD] at h;exact⟨h,fun _=>h⟩
 |
  fns n=>
  intro cs h
  simp only[cD,Bool.and_eq_true,List.all_eq_true] at h
  have hl:=Nat.eq_of_beq_eq_true h.1
  have e:cs=(List.replicate n none).map A4:=by
   apply List.ext_getElem
   ·simp[hl]
   ·intro i h1 h2
    have:=h.2 _ (List.getElem_mem h1)
    simp only[List.getElem_map,List.getElem_replicate,A4]
    revert this
    cases cs[i]<;>simp[DD]
  have:Rel w E.S (.fns n) cs (Ty.aX (.fns n)):=⟨by simp[Ty.aX],e⟩
  exact⟨this,fun _=>this⟩
 |int k=>intro cs h;match cs,h with|[v],h=>exact jr rfl h
 |bool=>intro cs h;match cs,h with|[v],h=>exact jr rfl h
 |str=>intro cs h;match cs,h with|[v],h=>exact jr rfl h
 |slice bs t=>intro cs h;match cs,h with|[v],h=>exact jr rfl h
 |au k=>intro cs h;match cs,h with|[v],h=>exact jr rfl h
theorem Ty.ou(t:Ty):t.zero.bB t=true:=by
 induction t with
 |pair a b Sn Sk=>simp[Ty.zero,AV.bB,Sn,Sk]
 |au k=>cases k<;>rfl
 |slice bs t=>rfl
 |unit=>rfl
 |_=>exact Ty.cF _
def aR(G:bH):List Field→Nat→Ty→Bool
 |[],_,.unit=>true
 |f::fs,off,.pair a b=>(match G.at f.type with|some td=>Ty.same td.ty a|none=>false)&&Nat.beq f.offset off&&Nat.blt 0 a.size&&aR G fs (off+a.size) b
 |_,_,_=>false
def a8(P:Program)(G:bH)(td:TD):TypeDesc→Bool
 | .bool=>Ty.same td.ty .bool
 | .int k=>Ty.same td.ty (.int k)
 | .string=>Ty.same td.ty .str
 | .slice e=>Ty.same td.ty (.au .sl)||Nat.beq td.e e&&(match td.ty,G.at e,P.info? e with| .slice bs t,some te,some ie=>Ty.same te.ty t&&Nat.beq ie.bytes bs&&Nat.blt 0 t.size&&Nat.blt 0 bs|_,_,_=>false)
 | .array n e=>(match td.ty,G.at e with| .fns m,some te=>Nat.beq td.e e&&Nat.beq m n&&Ty.same te.ty (.au .func)|_,_=>false)||Nat.beq td.e e&&(match td.ty,G.at e,P.info? e with| .arr m t,some te,some ie=>Ty.same te.ty t&&Nat.beq m n&&Nat.beq ie.bytes td.e2|_,_,_=>false)
 | .struct fs=>aR G fs.toList 0 td.ty
 | .pointer _=>Ty.same td.ty (.au .ptr)
 | .map k e=>Ty.same td.ty (.au .map)&&Nat.beq td.e k&&Nat.beq td.e2 e
 | .func _ _ _=>Ty.same td.ty (.au .func)
 | .interface _=>Ty.same td.ty (.au .iface)
 |_=>false
def DE:Value→Bool
 | .agg _=>true
 |_=>false
def cm:TypeDesc→Bool
 | .struct _| .array _ _=>true
 |_=>false
def pV(P:Program)(G:bH)(t:TypeId)(td:TD):Bool:=
 match P.info? t,P.underlying t with
 |some i,some d=>Nat.beq i.size td.ty.size&&(match i.zero with|some z=>cD td.ty z.cells.toList&&(DE z==td.ty.isAgg)|none=>false)&&a8 P G td d
 |_,_=>false
def rA(P:Program)(G:bH):Nat→List (Option TD)→Bool
 |_,[]=>true
 |i,none::l=>rA P G (i+1) l
 |i,some td::l=>pV P G i td&&rA P G (i+1) l
theorem ov(P:Program)(G:bH):∀(l:List (Option TD))(i:Nat),rA P G i l=true→∀j td,l[j]? =some (some td)→pV P G (i+j) td=true
 |[],_,_,j,td,h=>by simp at h
 |
  none::l,i,h,j,td,hj=>by
  cases j with
  |zero=>simp at hj
  |succ j=>have:=ov P G l (i+1) h j td (by simpa using hj);rw[show i+(j+1)=i+1+j from by omega];exact this
 |
  some x::l,i,h,j,td,hj=>by
  simp only[rA,Bool.and_eq_true] at h
  cases j with
  |zero=>simp at hj;subst hj;exact h.1
  |succ j=>have:=ov P G l (i+1) h.2 j td (by simpa using hj);rw[show i+(j+1)=i+1+j from by omega];exact this
structure aW(P:Program)(G:bH):Prop where
 pV:∀t td,G.at t=some td→pV P G t td=true
 bp:P.follows .mixedOrders=true
theorem aW.mk'{P:Program}{G:bH}(h:rA P G 0 G=true)(ho:P.follows .mixedOrders=true):aW P G:=
 ⟨fun t td ht=>by
  have:G[t]? =some (some td):=by
   unfold bH.at at ht
   cases hg:G[t]? with
   |none=>rw[hg] at ht;cases ht
   |some x=>rw[hg] at ht;simp at ht;rw[ht]
  have:=ov P G G 0 h t td this
  simpa using this,ho⟩
section
variable{P:Program} {G:bH} (T:aW P G) {t:TypeId} {td:TD} (h:G.at t=some td)
include T h
theorem aW.info:∃i d,P.info? t=some i∧P.underlying t=some d∧i.size=td.ty.size∧a8 P G td d=true∧∃z,i.zero=some z∧cD td.ty z.cells.toList=true∧DE z=td.ty.isAgg:=by
 have:=T.pV t td h
 unfold Abs.pV at this
 split at this
 ·rename_i i d hi hd
  simp only[Bool.and_eq_true] at this
  obtain⟨⟨h1,h2⟩,h3⟩:=this
  split at h2
  ·rename_i z hz
   simp only[Bool.and_eq_true,beq_iff_eq] at h2
   exact⟨i,d,hi,hd,Nat.eq_of_beq_eq_true h1,h3,z,hz,h2.1,h2.2⟩
  ·cases h2
 ·cases this
theorem aW.size(w:World):(sizeOf t).run P w= .ok td.ty.size w:=by
 obtain⟨i,d,h1,_,h2,_⟩:=T.info h
 simp[sizeOf,typeInfo,h1,h2]
end
theorem cn{P:Program}{G:bH}{td:TD}{d:TypeDesc}(h:a8 P G td d=true):cm d=td.ty.isAgg:=by
 cases d<;>simp only[a8] at h<;>try (first|(have:=Ty.af h;rw[this];rfl)|cases h)
 ·rw[Bool.or_eq_true] at h
  rcases h with h|h
  ·have:=Ty.af h;rw[this];rfl
  ·simp only[Bool.and_eq_true] at h
   obtain⟨_,h⟩:=h
   split at h
   ·rename_i h1 _ _;rw[h1];rfl
   ·cases h
 ·rw[Bool.or_eq_true] at h
  rcases h with h|h
  ·split at h
   ·rename_i h1 _;rw[h1];rfl
   ·cases h
  ·simp only[Bool.and_eq_true] at h
   obtain⟨_,h⟩:=h
   split at h
   ·rename_i h1 _ _;rw[h1];rfl
   ·cases h
 ·simp only[Bool.and_eq_true] at h
  have:=Ty.af h.1.1;rw[this];rfl
 ·rename_i fs
  show true=_
  revert h
  generalize fs.toList=l
  intro h
  cases l with
  |nil=>cases ht:td.ty<;>rw[ht] at h<;>simp[aR] at h;rfl
  |cons f l=>cases ht:td.ty<;>rw[ht] at h<;>simp[aR] at h;rfl
theorem aW.isAgg{P:Program}{G:bH}(T:aW P G){t:TypeId}{td:TD}(h:G.at t=some td)(w:World):(isAgg t).run P w= .ok td.ty.isAgg w:=by
 obtain⟨i,d,_,h1,_,h2,_⟩:=T.info h
 have:=cn h2
 unfold Go.isAgg
 simp only[Sem.run_bind,underlying,run_program,Result.andThen_ok,h1,Sem.run_pure]
 cases d<;>simp[cm] at this ⊢ <;>exact this
theorem aW.zero{P:Program}{G:bH}(T:aW P G){t:TypeId}{td:TD}(h:G.at t=some td)(w:World):∃z,(zeroValue t).run P w= .ok z w∧cD td.ty z.cells.toList=true∧DE z=td.ty.isAgg:=by
 obtain⟨i,d,h1,_,_,_,z,hz,h3,h4⟩:=T.info h
 exact⟨z,by simp[zeroValue,typeInfo,h1,hz],h3,h4⟩
end Go.Abs
namespace Go.Abs
def mY:Value→AV
 | .bool b=>.val .bool b
 | .int k n=>if decide (k.min≤n)&&decide (n≤k.max) then .val (.int k) n else .bot
 | .string s=>if Nat.ble s.data.toList.length az then .val .str s.data.toList else .bot
 | .slice none 0 0=>.dS
 | .pointer none=>.iw
 | .map none=>.mh
 | .nilFunc=>.ix
 | .nilIface=>.oq
 |_=>.bot
def ow:List DA→Nat→AV
 |[],_=>.bot
 |x::l,g=>if Nat.beq x.g g then .ec x.t x.x else ow l g
def bD(gl:Ctx)(tm:List AV):Operand→AV
 | .tmp t=>(tm[t]?).getD .bot
 | .const v=>mY v
 | .global g=>ow gl.gl g
 | .func f=>.func (.func f) .nil .nil
theorem RV.fD{E:Env}{w:World}{x:AV}{v:Value}(h:cZ E w x v):RV E w x v:=by
 cases x with
 |bot=>trivial
 |bU l=>rcases h with⟨h,_⟩|⟨_,h⟩<;>simp[AV.isAgg,RC] at h
 |opt c a=>rcases h with⟨h,_⟩|⟨_,h⟩<;>simp[AV.isAgg,RC] at h
 |_=>exact h
def AV.plain:AV→Bool
 | .bot| .bU _| .opt _ _=>false
 |_=>true
theorem RV.mq{E:Env}{w:World}{x:AV}{v:Value}(hp:x.plain=true)(h:RV E w x v):cZ E w x v:=by
 cases x<;>first|exact h|(simp[AV.plain] at hp)
theorem RV.atom{E:Env}{w:World}{x:AV}{v:Value}(hp:x.atom=true)(h:RV E w x v):RC E w x [v]:=by
 cases x<;>first
  |(simp[AV.atom] at hp;done)
  |(
   rcases h with⟨h1,_⟩|⟨_,h2⟩
   ·simp[AV.isAgg,AV.atom] at h1 hp;(try rw[h1] at hp;simp at hp)
   ·exact h2)
theorem yE{E:Env}{w:World}(v:Value):RV E w (mY v) v:=by
 unfold mY
 split
 ·exact Or.inr ⟨rfl,rfl⟩
 ·rename_i k n
  split
  ·rename_i h
   simp at h
   exact Or.inr ⟨rfl,rfl,h.1,h.2⟩
  ·trivial
 ·rename_i s
  split
  ·rename_i h
   refine Or.inr ⟨rfl,?_,Nat.le_of_ble_eq_true h⟩
   cases s;rfl
  ·trivial
 ·exact Or.inr ⟨rfl,rfl⟩
 ·exact Or.inr ⟨rfl,rfl⟩
 ·exact Or.inr ⟨rfl,rfl⟩
 ·exact Or.inr ⟨rfl,rfl⟩
 ·exact Or.inr ⟨rfl,rfl⟩
 ·trivial
theorem A5{E:Env}{w:World}{gl:List DA}(h:∀x∈gl,E.S x.g∧∃cs,lj w ⟨x.g,0,none⟩ cs∧Rel w E.S x.t cs x.x)(g:Nat):RV E w (ow gl g) (.pointer (some ⟨g,0,none⟩)):=by
 induction gl with
 |nil=>trivial
 |
  cons x l ih=>
  unfold ow
  split
  ·rename_i hg
   have hg:=Nat.eq_of_beq_eq_true hg
   obtain⟨h1,cs,h2,h3⟩:=h x (List.mem_cons_self ..)
   subst hg
   exact Or.inr ⟨rfl,x.g,0,cs,rfl,h1,h2,h3⟩
  ·exact ih (fun y hy=>h y (List.mem_cons_of_mem _ hy))
theorem mZ{gl:Ctx}{σ:St}{E:Env}{a:Act}{w:World}(h:cK gl σ E a w)(x:Operand):RV E w (bD gl σ.tm x) (a.eval x):=by
 cases x with
 |
  tmp t=>
  simp only[bD,Act.eval]
  cases hx:σ.tm[t]? with
  |none=>trivial
  |
   some y=>
   have Sg:t<a.tmps.size:=by rw[h.len];exact(List.getElem?_eq_some_iff.1 hx).1
   have:=h.tm t y hx a.tmps[t] (by simp[Sg])
   simpa[Array.getD,Sg] using this
 |const v=>exact yE v
 |global g=>exact A5 h.hw.gl.1 g
 |func f=>exact Or.inr ⟨rfl, #[], #[],rfl,rfl,rfl,rfl,rfl⟩
theorem cp(k:IntKind)(n:Int):k.min≤k.wrap n∧k.wrap n≤k.max:=by
 cases k<;>simp only[IntKind.wrap,IntKind.min,IntKind.max,IntKind.bits,IntKind.signed]<;>(simp;(try split))<;>omega
theorem IntKind.range(k:IntKind):k.min≤0∧0≤k.max:=by cases k<;>decide
theorem RV.int{E:Env}{w:World}{k:IntKind}{n:Int}(h:k.min≤n∧n≤k.max):RV E w (.val (.int k) n) (.int k n):=Or.inr ⟨rfl,rfl,h.1,h.2⟩
theorem RV.bool{E:Env}{w:World}{b:Bool}:RV E w (.val .bool b) (.bool b):=Or.inr ⟨rfl,rfl⟩
theorem RV.bM{E:Env}{w:World}{k:IntKind}{n:Int}{v:Value}(h:RV E w (.val (.int k) n) v):v= .int k n∧k.min≤n∧n≤k.max:=by
 rcases h with⟨h,_⟩|⟨_,h,h2⟩
 ·simp[AV.isAgg,Ty.isAgg] at h
 ·simp at h;exact⟨h,h2⟩
theorem RV.cI{E:Env}{w:World}{b:Bool}{v:Value}(h:RV E w (.val .bool b) v):v= .bool b:=by
 rcases h with⟨h,_⟩|⟨_,h⟩
 ·simp[AV.isAgg,Ty.isAgg] at h
 ·simpa[RC,Rel] using h
theorem RV.eF{E:Env}{w:World}{s:List UInt8}{v:Value}(h:RV E w (.val .str s) v):v= .string ⟨s.toArray⟩∧s.length≤az:=by
 rcases h with⟨h,_⟩|⟨_,h,h2⟩
 ·simp[AV.isAgg,Ty.isAgg] at h
 ·simp at h;exact⟨h,h2⟩
theorem RV.str{E:Env}{w:World}{s:List UInt8}(h:s.length≤az):RV E w (.val .str s) (.string ⟨s.toArray⟩):=Or.inr ⟨rfl,rfl,h⟩
def aq(op:BinOp)(k:IntKind)(x y:Int):Int:=
 let a:=BitVec.ofInt k.bits x
 let b:=BitVec.ofInt k.bits y
 match op with
 | .and=>k.wrap (a &&& b).toNat
 | .or=>k.wrap (a ||| b).toNat
 | .xor=>k.wrap (a ^^^ b).toNat
 |_=>k.wrap (a &&& ~~~b).toNat
def dT:List Prop→Prop
 |[]=>True
 |p::l=>p∧dT l
def rB(op:BinOp)(k:IntKind)(a:Int)(k':IntKind)(b:Int):Option (AV×List Prop):=
 match op with
 | .shl=>some (.val (.int k) (k.wrap (a*2^(min b.toNat k.bits))),[0≤b])
 | .shr=>some (.val (.int k) (a.fdiv (2^(min b.toNat k.bits))),[0≤b])
 |
  _=>
  if Nat.beq (IntKind.code k) (IntKind.code k') then
   match op with
   | .add=>some (.val (.int k) (k.wrap (a+b)),[])
   | .sub=>some (.val (.int k) (k.wrap (a -b)),[])
   | .mul=>some (.val (.int k) (k.wrap (a*b)),[])
   | .quo=>some (.val (.int k) (k.wrap (a.tdiv b)),[b≠0])
   | .rem=>some (.val (.int k) (a.tmod b),[b≠0])
   | .and=>some (.val (.int k) (aq .and k a b),[])
   | .or=>some (.val (.int k) (aq .or k a b),[])
   | .xor=>some (.val (.int k) (aq .xor k a b),[])
   | .andNot=>some (.val (.int k) (aq .andNot k a b),[])
   | .eql=>some (.val .bool (decide (a=b)),[])
   | .neq=>some (.val .bool (!decide (a=b)),[])
   | .lss=>some (.val .bool (decide (a<b)),[])
   | .leq=>some (.val .bool (decide (a≤b)),[])
   | .gtr=>some (.val .bool (decide (b<a)),[])
   | .geq=>some (.val .bool (decide (b≤a)),[])
   |_=>none
  else none
def oM(P:Program)(t:TypeId)(op:BinOp):AV→AV→Option (AV×List Prop)
 | .val (.int k) a,.val (.int k') b=>rB op k a k' b
 |
  .val .bool a,.val .bool b=>
  match op with
  | .eql=>some (.val .bool (a==b),[P.underlying t=some .bool])
  | .neq=>some (.val .bool (!(a==b)),[P.underlying t=some .bool])
  |_=>none
 |
  .val .str a,.val .str b=>
  match op with
  | .add=>some (.val .str (a++b),[a.length+b.length≤az])
  | .eql=>some (.val .bool (decide (a=b)),[])
  | .neq=>some (.val .bool (!decide (a=b)),[])
  | .lss=>some (.val .bool (Op.bytesLess a b),[])
  | .leq=>some (.val .bool (Op.bytesLess a b||decide (a=b)),[])
  | .gtr=>some (.val .bool (!(Op.bytesLess a b||decide (a=b))),[])
  | .geq=>some (.val .bool (!Op.bytesLess a b),[])
  |_=>none
 |_,_=>none
theorem eG{a b:Int}(ha:0≤a)(hb:0≤b):a % b≤a:=by
 rcases Int.lt_or_eq_of_le hb with h|h
 ·have:=Int.emod_add_mul_ediv a b
  have h1:0≤a / b:=Int.ediv_nonneg ha hb
  have h2:0≤b*(a / b):=Int.mul_nonneg hb h1
  omega
 ·subst h;simp
theorem yF(k:IntKind)(a b:Int)(ha:k.min≤a∧a≤k.max):k.min≤a.tmod b∧a.tmod b≤k.max:=by
 have hr:=IntKind.range k
 rcases Int.le_total 0 a with h|h
 ·have h1:=Int.tmod_nonneg b h
  have h2:a.tmod b≤a:=by
   rcases Int.le_total 0 b with hb|hb
   ·rw[Int.tmod_eq_emod_of_nonneg h];exact eG h hb
   ·have:a.tmod b=a.tmod (-b):=by rw[Int.tmod_neg]
    rw[this,Int.tmod_eq_emod_of_nonneg h];exact eG h (by omega)
  omega
 ·have h1:(-a).tmod b= -(a.tmod b):=Int.neg_tmod ..
  have h2:0≤-a:=by omega
  have h3:=Int.tmod_nonneg b h2
  have h4:(-a).tmod b≤-a:=by
   rcases Int.le_total 0 b with hb|hb
   ·rw[Int.tmod_eq_emod_of_nonneg h2];exact eG h2 hb
   ·have:(-a).tmod b=(-a).tmod (-b):=by rw[Int.tmod_neg]
    rw[this,Int.tmod_eq_emod_of_nonneg h2];exact eG h2 (by omega)
  omega
theorem yG(k:IntKind)(a:Int)(n:Nat)(ha:k.min≤a∧a≤k.max):k.min≤a.fdiv (2^n)∧a.fdiv (2^n)≤k.max:=by
 have hr:=IntKind.range k
 have hp:(1:Int)≤2^n:=by
  have:=Int.pow_pos (n:=2) (m:=n) (by omega)
  omega
 rw[Int.fdiv_eq_ediv_of_nonneg _ (by omega)]
 rcases Int.le_total 0 a with h|h
 ·have h1:0≤a / 2^n:=Int.ediv_nonneg h (by omega)
  have h2:a / 2^n≤a:=Int.ediv_le_self _ h
  omega
 ·have h1:a / 2^n≤0:=by
   have:=Int.ediv_le_ediv (c:=2^n) (by omega) h
   simpa using this
  have h2:a≤a / 2^n:=by
   rw[Int.le_ediv_iff_mul_le (by omega)]
   have:=Int.mul_le_mul_of_nonpos_left h hp
   omega
  omega
theorem xn{P:Program}{E:Env}{w:World}{op:BinOp}{t:TypeId}{k k':IntKind}{a b:Int}{r:AV}{vc:List Prop}(ha:k.min≤a∧a≤k.max)(h:rB op k a k' b=some (r,vc))(Sm:dT vc):
 ∃v,(binOp op t (.int k a) (.int k' b)).run P w= .ok v w∧RV E w r v:=by
 unfold rB at h
 split at h
 ·cases h
  exact⟨_,by simp[binOp,Op.shift,show¬b<0 from by have:=Sm.1;omega],RV.int (cp k _)⟩
 ·cases h
  exact⟨_,by simp[binOp,Op.shift,show¬b<0 from by have:=Sm.1;omega],RV.int (yG k _ _ ha)⟩
 ·rename_i h1 h2
  split at h
  ·rename_i hk
   have:=IntKind.fA (Nat.eq_of_beq_eq_true hk)
   subst this
   split at h<;>cases h
   ·exact⟨_,by simp[binOp,Op.intArith],RV.int (cp k _)⟩
   ·exact⟨_,by simp[binOp,Op.intArith],RV.int (cp k _)⟩
   ·exact⟨_,by simp[binOp,Op.intArith],RV.int (cp k _)⟩
   ·exact⟨_,by simp[binOp,Op.intDiv,show b≠0 from Sm.1],RV.int (cp k _)⟩
   ·exact⟨_,by simp[binOp,Op.intDiv,show b≠0 from Sm.1],RV.int (yF k _ _ ha)⟩
   ·exact⟨.int k (aq .and k a b),by simp[binOp,Op.intBits,aq],RV.int (cp k _)⟩
   ·exact⟨.int k (aq .or k a b),by simp[binOp,Op.intBits,aq],RV.int (cp k _)⟩
   ·exact⟨.int k (aq .xor k a b),by simp[binOp,Op.intBits,aq],RV.int (cp k _)⟩
   ·exact⟨.int k (aq .andNot k a b),by simp[binOp,Op.intBits,aq],RV.int (cp k _)⟩
   ·exact⟨_,by simp[binOp,Op.intCmp];rfl,RV.bool⟩
   ·exact⟨_,by simp[binOp,Op.intCmp];rfl,RV.bool⟩
   ·exact⟨_,by simp[binOp,Op.intCmp],RV.bool⟩
   ·exact⟨_,by simp[binOp,Op.intCmp],RV.bool⟩
   ·exact⟨_,by simp[binOp,Op.intCmp],RV.bool⟩
   ·exact⟨_,by simp[binOp,Op.intCmp],RV.bool⟩
  ·cases h
theorem qL{P:Program}{E:Env}{w:World}{op:BinOp}{t:TypeId}{x y:AV}{vx vy:Value}{r:AV}{vc:List Prop}(hx:RV E w x vx)(hy:RV E w y vy)(h:oM P t op x y=some (r,vc))(Sm:dT vc):
 ∃v,(binOp op t vx vy).run P w= .ok v w∧RV E w r v:=by
 unfold oM at h
 split at h
 ·obtain⟨rfl,h1⟩:=RV.bM hx
  obtain⟨rfl,h2⟩:=RV.bM hy
  exact xn h1 h Sm
 ·have:=RV.cI hx;subst this
  have:=RV.cI hy;subst this
  split at h
  ·cases h
   have hb:=Sm.1
   exact⟨_,by simp[binOp,run_equal_bool w t _ _ hb],RV.bool⟩
  ·cases h
   have hb:=Sm.1
   exact⟨_,by simp[binOp,run_equal_bool w t _ _ hb],RV.bool⟩
  ·cases h
 ·obtain⟨rfl,h1⟩:=RV.eF hx
  obtain⟨rfl,h2⟩:=RV.eF hy
  have beq:∀(a b:List UInt8),(a==b)=decide (a=b):=fun a b=>by
   by_cases h:a=b
   ·subst h;simp
   ·simp[h]
  split at h<;>cases h
  ·rename_i a b _
   have hb:List.length a+List.length b≤az:=Sm.1
   refine⟨.string ⟨(List.append a b).toArray⟩,?_,RV.str (by show(List.append a b).length≤az;rw[List.append_eq,List.length_append];exact hb)⟩
   have sz:∀l:List UInt8,(ByteArray.mk l.toArray).size=l.length:=fun l=>by show l.toArray.size=_;simp
   have hmax:IntKind.i64.max=9223372036854775807:=by decide
   have hn:¬(((ByteArray.size ⟨List.toArray a⟩+ByteArray.size ⟨List.toArray b⟩:Nat):Int)>IntKind.i64.max):=by
    rw[sz,sz,hmax];unfold az at hb;omega
   have happ:(⟨List.toArray a⟩:ByteArray)++⟨List.toArray b⟩=⟨(List.append a b).toArray⟩:=by
    apply ByteArray.ext
    simp
   simp only[binOp,Op.stringOp,if_neg hn,Sem.run_pure,happ]
  all_goals(refine⟨_,?_,RV.bool⟩;simp[binOp,Op.stringOp,beq])
 ·cases h
end Go.Abs
namespace Go.Abs
def im:aj→Ty
 | .var t _=>t
 | .row _ _ t xs=>.arr xs.length t
 |_=>.unit
def aj.mem:aj→Bool
 | .var _ _| .row _ _ _ _=>true
 |_=>false
def kH:aj→Path→Option AV
 | .var _ v,p=>v.get p
 | .row _ _ t xs,.idx i::p=>dL (.arr xs.length t) xs (.idx i::p)
 |_,_=>none
theorem RB.bt{E:Env}{w:World}{b:Nat}{k:aj}(h:RB E w b k)(hm:k.mem=true):E.bt b=im k:=by
 cases k with
 |var t v=>exact h.1
 |row e bs t xs=>exact h.1
 |_=>cases hm
theorem lj.of_heap{w:World}{g:Nat}{c:Array Value}{e:TypeId}{fr:Nat×Nat}(h:w.heap[g]? =some (.cells c e fr))(o n:Nat):lj w ⟨g,o,none⟩ ((c.toList.drop o).take n):=by
 intro j v hj
 have e1:((⟨g,o,none⟩:Addr).add j)=⟨g,o+j,none⟩:=by unfold Addr.add;split<;>simp_all
 rw[e1]
 simp only[World.cell?,h]
 rw[List.getElem?_take] at hj
 split at hj
 ·rw[List.getElem?_drop] at hj
  simpa using hj
 ·cases hj
theorem lj.sub{w:World}{g o:Nat}{cs:List Value}(h:lj w ⟨g,o,none⟩ cs)(k n:Nat):lj w ⟨g,o+k,none⟩ ((cs.drop k).take n):=by
 intro j v hj
 have e1:∀o,((⟨g,o,none⟩:Addr).add j)=⟨g,o+j,none⟩:=by intro o;unfold Addr.add;split<;>simp_all
 have e2:((⟨g,o,none⟩:Addr).add (k+j))=⟨g,o+(k+j),none⟩:=by unfold Addr.add;split<;>simp_all
 rw[e1]
 rw[List.getElem?_take] at hj
 split at hj
 ·rw[List.getElem?_drop] at hj
  have:=h (k+j) v hj
  rw[e2] at this
  rw[Nat.add_assoc];exact this
 ·cases hj
theorem m8{E:Env}{w:World}{b:Nat}{k:aj}{p:Path}{u:AV}(h:RB E w b k)(hv:(E.bt b).valid p)(hr:kH k p=some u):
 ∃g s cs,E.g b=some g∧(E.bt b).sub p=some s∧u.bB s=true∧lj w ⟨g,(E.bt b).off p,none⟩ cs∧RC E w u cs:=by
 cases k with
 |
  var t v=>
  obtain⟨h1,h2,g,c,e,h3,h4,h5⟩:=h
  rw[h1] at hv ⊢
  obtain⟨s,e1,e2,e3,e4⟩:=AV.rz h5 h2 hv hr
  exact⟨g,s,_,h3,e1,e2,lj.of_heap h4 _ _,e4⟩
 |
  row e bs t xs=>
  obtain⟨h1,h2,h3,h4,a,cap,h5,h6,h7⟩:=h
  rw[h1] at hv ⊢
  cases p with
  |nil=>simp[kH] at hr
  |
   cons s p=>
   cases s with
   |fG k=>simp[kH] at hr
   |
    idx i=>
    have hi:i<xs.length:=hv.1
    rcases h7 with⟨_,_,h9⟩|⟨g,c,h7,h8,h9,SW,Sy,h12⟩
    ·subst h9;simp at hi
    ·have hR:Rel w E.S (.arr xs.length t) (c.toList.take (xs.length*t.size)) xs:=⟨rfl,h12⟩
     obtain⟨s,e1,e2,e3,e4⟩:=ot hR hv hr
     refine⟨g,s,_,h7,e1,e2,?_,e4⟩
     have hlen:xs.length*t.size≤c.toList.length:=by
      rw[show c.toList.length=c.size from Array.length_toList,SW];exact Nat.mul_le_mul_right _ Sy
     simp only[List.length_take] at e3
     rw[List.drop_take,List.take_take,Nat.min_eq_left (by omega)]
     exact lj.of_heap h9 _ _
 |_=>simp[kH] at hr
theorem js{P:Program}{G:bH}(T:aW P G){t:TypeId}{td:TD}(ht:G.at t=some td){E:Env}{w:World}{a:Addr}{cs:List Value}{u:AV}(hr:lj w a cs)(hc:RC E w u cs)(hu:u.bB td.ty=true):
 ∃v,(Instr.loadAt t (.pointer (some a))).run P w= .ok v w∧RV E w u v:=by
 have hl:=RC.len hc
 have hs:=AV.fe hu
 have ha:=AV.mi hu
 have hcells:=run_loadCells_list (P:=P) w a cs hr
 by_cases Sc:td.ty.isAgg=true
 ·refine⟨.agg cs.toArray,?_,RV.fD (Or.inl ⟨by rw[ha];exact Sc,cs.toArray,rfl,by simpa using hc⟩)⟩
  have:cs.length=td.ty.size:=by omega
  simp[Instr.loadAt,Instr.sureAddr,loadVar,T.isAgg ht,T.size ht,Sc,←this,hcells]
 ·have hagg':td.ty.isAgg=false:=by simpa using Sc
  have h1:td.ty.size=1:=by cases h:td.ty<;>rw[h] at hagg'<;>simp[Ty.isAgg] at hagg'<;>rfl
  obtain⟨v,rfl⟩:∃v,cs= [v]:=by
   match cs,hl with
   |[v],_=>exact⟨v,rfl⟩
   |[],hl=>simp at hl;omega
   |_::_::_,hl=>simp at hl;omega
  have h0:w.cell? a=some v:=by
   have:=hr 0 v rfl
   simpa[Addr.add] using this
  exact⟨v,by simp[Instr.loadAt,Instr.sureAddr,loadVar,T.isAgg ht,hagg',h0],RV.fD (Or.inr ⟨by rw[ha];exact hagg',hc⟩)⟩
def dJ(G:bH)(hb:Nat→Option aj)(t:TypeId):AV→Option AV
 |
  .ptr b p=>match G.at t,hb b with
  |
   some td,some k=>match kH k p with
   |some u=>if u.bB td.ty then some u else none
   |none=>none
  |_,_=>none
 |
  .ec u x=>match G.at t with
  |some td=>if Ty.same u td.ty then some (.val u x) else none
  |none=>none
 |_=>none
def HB(hb:Nat→Option aj)(hp:List (Option aj)):Prop:=∀b k,hb b=some k→hp[b]? =some (some k)
theorem gS{P:Program}{G:bH}(T:aW P G){gl:Ctx}{E:Env}{w:World}{hp:List (Option aj)}(hw:HW gl E w hp){hb:Nat→Option aj}(hB:HB hb hp){t:TypeId}{x u:AV}{vx:Value}(hx:RV E w x vx)(h:dJ G hb t x=some u):
 ∃v,(Instr.loadAt t vx).run P w= .ok v w∧RV E w u v:=by
 unfold dJ at h
 split at h
 ·rename_i b p
  split at h
  ·rename_i td k ht hk
   split at h
   ·rename_i y hy
    split at h
    ·rename_i hc
     cases h
     have hx:=RV.atom rfl hx
     obtain⟨g,hg,e,hv⟩:=hx
     simp at e;subst e
     obtain⟨g',s,cs,h1,h2,h3,h4,h5⟩:=m8 (hw.bh b k (hB b k hk)) hv hy
     rw[hg] at h1;cases h1
     exact js T ht h4 h5 hc
    ·cases h
   ·cases h
  ·cases h
 ·rename_i ty x
  split at h
  ·rename_i td ht
   split at h
   ·rename_i hc
    cases h
    have hx:=RV.atom rfl hx
    obtain⟨b,o,cs,e,h1,h2,h3⟩:=hx
    simp at e;subst e
    exact js T ht h2 (u:=.val ty x) h3 hc
   ·cases h
  ·cases h
 ·cases h
theorem Ty.mj:∀{t s:Ty}{p q:Path},t.sub p=some s→t.sub (p++q)=s.sub q∧t.off (p++q)=t.off p+s.off q∧(t.valid p→s.valid q→t.valid (p++q)):=by
 intro t
 have base:∀{t s:Ty}{q:Path},t.sub []=some s→t.sub ([]++q)=s.sub q∧t.off ([]++q)=t.off []+s.off q∧(t.valid []→s.valid q→t.valid ([]++q)):=by
  intro t s q h
  have:t=s:=by cases t<;>simpa[Ty.sub] using h
  subst this
  exact⟨rfl,by cases t<;>simp[Ty.off],fun _ h=>h⟩
 induction t with
 |
  pair a b Sn Sk=>
  intro s p q h
  cases p with
  |nil=>exact base h
  |
   cons x p=>
   cases x with
   |
    fG k=>
    cases k with
    |
     zero=>
     obtain⟨h1,h2,h3⟩:=Sn (q:=q) h
     exact⟨h1,h2,h3⟩
    |
     succ k=>
     obtain⟨h1,h2,h3⟩:=Sk (q:=q) (p:=.fG k::p) h
     refine⟨h1,?_,h3⟩
     simp only[List.cons_append,Ty.off] at h2 ⊢
     rw[h2];omega
   |idx i=>simp[Ty.sub] at h
 |
  arr n t ih=>
  intro s p q h
  cases p with
  |nil=>exact base h
  |
   cons x p=>
   cases x with
   |fG k=>simp[Ty.sub] at h
   |
    idx i=>
    obtain⟨h1,h2,h3⟩:=ih (q:=q) h
    refine⟨h1,?_,fun⟨hi,hv⟩ hq=>⟨hi,h3 hv hq⟩⟩
    simp only[List.cons_append,Ty.off]
    rw[h2];omega
 |
  _=>
  intro s p q h
  cases p with
  |nil=>exact base h
  |cons x p=>simp[Ty.sub] at h
theorem jX{G:bH}:∀{fs:List Field}{o:Nat}{t:Ty}{i:Nat}{s:Ty},aR G fs o t=true→t.sub [.fG i]=some s→
 ∃f td,fs[i]? =some f∧G.at f.type=some td∧td.ty=s∧f.offset=o+t.off [.fG i]∧0<s.size∧t.valid [.fG i]
 |
  [],o,t,i,s,h,hs=>by
  cases t<;>simp[aR] at h
  simp[Ty.sub] at hs
 |
  f::fs,o,t,i,s,h,hs=>by
  cases t with
  |
   pair a b=>
   simp only[aR,Bool.and_eq_true] at h
   obtain⟨⟨⟨h1,h2⟩,h3⟩,h4⟩:=h
   cases i with
   |
    zero=>
    split at h1
    ·rename_i td htd
     have:a=s:=by
      simp only[Ty.sub] at hs
      cases hs;rfl
     subst this
     have ho:a.off []=0:=by cases a<;>rfl
     refine⟨f,td,rfl,htd,Ty.af h1,?_,by simp[Nat.blt] at h3;omega,?_⟩
     ·simp only[Ty.off,ho];exact Nat.eq_of_beq_eq_true h2
     ·simp only[Ty.valid]
    ·cases h1
   |
    succ i=>
    obtain⟨f',td,e1,e2,e3,e4,e5,e6⟩:=jX h4 (i:=i) hs
    refine⟨f',td,by simpa using e1,e2,e3,?_,e5,e6⟩
    simp only[Ty.off];omega
  |_=>simp[aR] at h
theorem aW.struct{P:Program}{G:bH}(T:aW P G){t:TypeId}{td:TD}(h:G.at t=some td){i:Nat}{s:Ty}(hs:td.ty.sub [.fG i]=some s):
 ∃fs f tf,P.underlying t=some (.struct fs)∧fs[i]? =some f∧G.at f.type=some tf∧tf.ty=s∧f.offset=td.ty.off [.fG i]∧0<s.size∧td.ty.valid [.fG i]:=by
 obtain⟨ii,d,_,h1,_,h2,_⟩:=T.info h
 have Sc:=cn h2
 cases hd:d with
 |
  struct fs=>
  subst hd
  obtain⟨f,tf,e1,e2,e3,e4,e5,e6⟩:=jX (fs:=fs.toList) (o:=0) h2 hs
  exact⟨fs,f,tf,h1,by simpa using e1,e2,e3,by omega,e5,e6⟩
 |
  array n e=>
  subst hd
  simp only[a8] at h2
  rw[Bool.or_eq_true] at h2
  rcases h2 with h2|h2
  ·split at h2
   ·rename_i e1 _;rw[e1] at hs;simp[Ty.sub] at hs
   ·cases h2
  simp only[Bool.and_eq_true] at h2
  obtain⟨_,h2⟩:=h2
  split at h2
  ·rename_i e1 _ _;rw[e1] at hs;simp[Ty.sub] at hs
  ·cases h2
 |
  _=>
  subst hd
  simp only[cm] at Sc
  cases ht:td.ty<;>rw[ht] at Sc hs<;>simp[Ty.isAgg] at Sc<;>simp[Ty.sub] at hs
theorem oS{P:Program}{G:bH}(T:aW P G){t:TypeId}{td:TD}(h:G.at t=some td){i:Nat}{s:Ty}(hs:td.ty.sub [.fG i]=some s)(w:World)(g o:Nat):
 (Instr.fieldAt t (.pointer (some ⟨g,o,none⟩)) i).run P w= .ok (.pointer (some ⟨g,o+td.ty.off [.fG i],none⟩)) w:=by
 obtain⟨fs,f,tf,h1,h2,h3,h4,h5,h6,_⟩:=T.struct h hs
 have Sd:=T.size h3 w
 rw[h4] at Sd
 have R7:¬s.size=0:=by omega
 have ha:((⟨g,o,none⟩:Addr).add f.offset)=⟨g,o+td.ty.off [.fG i],none⟩:=by
  rw[h5];unfold Addr.add;split<;>simp_all
 simp[Instr.fieldAt,underlying,h1,h2,Instr.sureAddr,fieldPlace,Sd,R7,ha]
def dK(G:bH)(hb:Nat→Option aj)(t:TypeId)(i:Nat):AV→Option AV
 |
  .ptr b p=>match G.at t,hb b with
  |
   some td,some k=>match(im k).sub p,td.ty.sub [.fG i] with
   |some u,some _=>if Ty.same u td.ty then some (.ptr b (p++[.fG i])) else none
   |_,_=>none
  |_,_=>none
 |
  .ec u x=>match G.at t with
  |
   some td=>match td.ty.sub [.fG i],dL u x [.fG i] with
   |some _,some (.val v y)=>if Ty.same u td.ty then some (.ec v y) else none
   |_,_=>none
  |none=>none
 |_=>none
theorem oz{k:aj}{p:Path}{q:PS}{u:Ty}{s:Ty}(h:(im k).sub p=some u)(hs:u.sub [q]=some s):k.mem=true:=by
 cases k with
 |var t v=>rfl
 |row e bs t xs=>rfl
 |
  _=>cases p with
  |nil=>simp[im,Ty.sub] at h;subst h;simp[Ty.sub] at hs
  |cons a p=>simp[im,Ty.sub] at h
theorem hO{P:Program}{G:bH}(T:aW P G){gl:Ctx}{E:Env}{w:World}{hp:List (Option aj)}(hw:HW gl E w hp){hb:Nat→Option aj}(hB:HB hb hp){t:TypeId}{i:Nat}{x u:AV}{vx:Value}(hx:RV E w x vx)(h:dK G hb t i x=some u):
 ∃v,(Instr.fieldAt t vx i).run P w= .ok v w∧RV E w u v:=by
 unfold dK at h
 split at h
 ·rename_i b p
  split at h
  ·rename_i td k ht hk
   split at h
   ·rename_i u' s hu hs
    split at h
    ·rename_i SB
     cases h
     have:=Ty.af SB;subst this
     obtain⟨g,hg,e,hv⟩:=RV.atom rfl hx
     simp at e;subst e
     have hbt:=RB.bt (hw.bh b k (hB b k hk)) (oz hu hs)
     rw[←hbt] at hu
     obtain⟨_,h2,h3⟩:=Ty.mj (q:=[.fG i]) hu
     obtain⟨_,_,_,_,_,_,_,_,_,hval⟩:=T.struct ht hs
     exact⟨_,oS T ht hs w g _,RV.fD (Or.inr ⟨rfl,g,hg,by rw[h2],h3 hv hval⟩)⟩
    ·cases h
   ·cases h
  ·cases h
 ·rename_i ty y
  split at h
  ·rename_i td ht
   split at h
   ·rename_i s v' y' hs hg
    split at h
    ·rename_i SB
     cases h
     have:=Ty.af SB;subst this
     obtain⟨b,o,cs,e,h1,h2,h3⟩:=RV.atom rfl hx
     simp at e;subst e
     obtain⟨_,_,_,_,_,_,_,_,_,hval⟩:=T.struct ht hs
     obtain⟨s',e1,e2,e3,e4⟩:=ot (E:=E) h3 hval hg
     exact⟨_,oS T ht hs w b o,RV.fD (Or.inr ⟨rfl,b,_,_,rfl,h1,h2.sub _ _,e4⟩)⟩
    ·cases h
   ·cases h
  ·cases h
 ·cases h
end Go.Abs
namespace Go.Abs
theorem aW.bX{P:Program}{G:bH}(T:aW P G){t:TypeId}{td:TD}(h:G.at t=some td){bs:Nat}{u:Ty}(hs:td.ty= .slice bs u):
 ∃te ie,P.underlying t=some (.slice td.e)∧G.at td.e=some te∧te.ty=u∧P.info? td.e=some ie∧ie.bytes=bs∧0<u.size∧0<bs:=by
 obtain⟨ii,d,_,h1,_,h2,_⟩:=T.info h
 have Sc:=cn h2
 cases hd:d with
 |
  slice e=>
  subst hd
  simp only[a8] at h2
  rw[Bool.or_eq_true] at h2
  rcases h2 with h2|h2
  ·have:=Ty.af h2;rw[hs] at this;cases this
  simp only[Bool.and_eq_true] at h2
  obtain⟨h3,h2⟩:=h2
  have h3:=Nat.eq_of_beq_eq_true h3
  subst h3
  split at h2
  ·rename_i bs' u' te ie e1 e2 e3
   rw[hs] at e1;cases e1
   simp only[Bool.and_eq_true] at h2
   obtain⟨⟨⟨h4,h5⟩,h6⟩,h7⟩:=h2
   exact⟨te,ie,h1,e2,Ty.af h4,e3,Nat.eq_of_beq_eq_true h5,by simp[Nat.blt] at h6;omega,by simp[Nat.blt] at h7;omega⟩
  ·cases h2
 |
  struct fs=>
  subst hd
  simp only[cm] at Sc
  rw[hs] at Sc;cases Sc
 |
  array n e=>
  subst hd
  simp only[cm] at Sc
  rw[hs] at Sc;cases Sc
 |
  map k e=>
  subst hd
  simp only[a8,Bool.and_eq_true] at h2
  have:=Ty.af h2.1.1;rw[hs] at this;cases this
 |
  _=>
  subst hd
  simp only[a8] at h2
  first
   |(have:=Ty.af h2;rw[hs] at this;cases this)
   |cases h2
theorem aW.m9{P:Program}{G:bH}(T:aW P G){t:TypeId}{td:TD}(h:G.at t=some td){n:Nat}{u:Ty}(hs:td.ty= .arr n u):
 ∃te,P.underlying t=some (.array n td.e)∧G.at td.e=some te∧te.ty=u:=by
 obtain⟨ii,d,_,h1,_,h2,_⟩:=T.info h
 have Sc:=cn h2
 cases hd:d with
 |
  array m e=>
  subst hd
  simp only[a8] at h2
  rw[Bool.or_eq_true] at h2
  rcases h2 with h2|h2
  ·split at h2
   ·rename_i e1 _;rw[hs] at e1;cases e1
   ·cases h2
  simp only[Bool.and_eq_true] at h2
  obtain⟨h3,h2⟩:=h2
  have h3:=Nat.eq_of_beq_eq_true h3
  subst h3
  split at h2
  ·rename_i m' u' te ie e1 e2 e3
   rw[hs] at e1;cases e1
   simp only[Bool.and_eq_true] at h2
   have:=Nat.eq_of_beq_eq_true h2.1.2
   subst this
   exact⟨te,h1,e2,Ty.af h2.1.1⟩
  ·cases h2
 |
  struct fs=>
  subst hd
  simp only[a8] at h2
  rw[hs] at h2
  revert h2
  generalize fs.toList=l
  intro h2
  cases l<;>simp[aR] at h2
 |
  _=>
  subst hd
  simp only[cm] at Sc
  rw[hs] at Sc;cases Sc
theorem fE{P:Program}{G:bH}(T:aW P G){t:TypeId}{td:TD}(h:G.at t=some td){bs:Nat}{u:Ty}(hs:td.ty= .slice bs u)(w:World)(g o len cap:Nat)(k:IntKind)(i:Int)(hi:0≤i∧i<len):
 (Instr.indexAt t (.slice (some ⟨g,o,none⟩) len cap) (.int k i)).run P w= .ok (.pointer (some ⟨g,o+i.toNat*u.size,none⟩)) w:=by
 obtain⟨te,ie,h1,h2,h3,_⟩:=T.bX h hs
 have Sd:=T.size h2 w
 rw[h3] at Sd
 have ha:((⟨g,o,none⟩:Addr).add (i.toNat*u.size))=⟨g,o+i.toNat*u.size,none⟩:=by
  unfold Addr.add;split<;>simp_all
 simp[Instr.indexAt,underlying,h1,asIntOf,hi,Sd,ha]
theorem kI{P:Program}{G:bH}(T:aW P G){t:TypeId}{td:TD}(h:G.at t=some td){n:Nat}{u:Ty}(hs:td.ty= .arr n u)(w:World)(g o:Nat)(k:IntKind)(i:Int)(hi:0≤i∧i<n):
 (Instr.indexAt t (.pointer (some ⟨g,o,none⟩)) (.int k i)).run P w= .ok (.pointer (some ⟨g,o+i.toNat*u.size,none⟩)) w:=by
 obtain⟨te,h1,h2,h3⟩:=T.m9 h hs
 have Sd:=T.size h2 w
 rw[h3] at Sd
 have ha:((⟨g,o,none⟩:Addr).add (i.toNat*u.size))=⟨g,o+i.toNat*u.size,none⟩:=by
  unfold Addr.add;split<;>simp_all
 simp[Instr.indexAt,underlying,h1,asIntOf,hi,Sd,ha,Instr.sureAddr]
def jY(G:bH)(hb:Nat→Option aj)(t:TypeId)(x:AV)(i:Int):Option (AV×List Prop):=
 match G.at t with
 |
  some td=>
  match td.ty,x with
  | .slice bs u,.val (.slice bs' u') xs=>if Nat.beq bs bs'&&Ty.same u u' then some (.ec u' (xs.getD i.toNat u'.aX),[0≤i,i<xs.length]) else none
  |
   .slice _ u,.own b=>match hb b with
   |some (.row _ _ u' xs)=>if Ty.same u u' then some (.ptr b [.idx i.toNat],[0≤i,i<xs.length]) else none
   |_=>none
  |
   .slice _ u,.mo b lo len=>match hb b with
   |some (.row _ _ u' _)=>if Ty.same u u' then some (.ptr b [.idx (lo+i.toNat)],[0≤i,i<len]) else none
   |_=>none
  |
   .slice _ u,.ka b p lo len=>match hb b with
   |
    some (.var tt _)=>match tt.sub p with
    |some (.arr _ u')=>if Ty.same u u' then some (.ptr b (p++[.idx (lo+i.toNat)]),[0≤i,i<len]) else none
    |_=>none
   |_=>none
  |
   .arr n u,.ptr b p=>match hb b with
   |
    some k=>match(im k).sub p with
    |some (.arr n' u')=>if Ty.same u u'&&Nat.beq n n' then some (.ptr b (p++[.idx i.toNat]),[0≤i,i<n]) else none
    |_=>none
   |_=>none
  | .arr n u,.ec (.arr n' u') xs=>if Ty.same u u'&&Nat.beq n n' then some (.ec u' (List.getD xs i.toNat u'.aX),[0≤i,i<n]) else none
  |_,_=>none
 |none=>none
def fb(G:bH)(hb:Nat→Option aj)(t:TypeId)(x:AV):AV→Option (AV×List Prop)
 | .val (.int _) i=>jY G hb t x i
 |_=>none
theorem Ty.na(t:Ty):t.off []=0:=by cases t<;>rfl
theorem Ty.jt(t:Ty):t.valid []:=by cases t<;>trivial
theorem Ty.Ad(t:Ty):t.sub []=some t:=by cases t<;>rfl
theorem pg{P:Program}{G:bH}(T:aW P G){gl:Ctx}{E:Env}{w:World}{hp:List (Option aj)}(hw:HW gl E w hp){hb:Nat→Option aj}(hB:HB hb hp){t:TypeId}{x u:AV}{vx:Value}{k:IntKind}{i:Int}{vc:List Prop}(hx:RV E w x vx)(h:jY G hb t x i=some (u,vc))(hvc0:dT vc):
 ∃v,(Instr.indexAt t vx (.int k i)).run P w= .ok v w∧RV E w u v:=by
 unfold jY at h
 split at h
 ·rename_i td ht
  split at h
  ·rename_i bs u bs' u' xs Su
   split at h
   ·rename_i hc
    cases h
    have Sm:=And.intro hvc0.1 hvc0.2.1
    simp only[Bool.and_eq_true] at hc
    have:=Nat.eq_of_beq_eq_true hc.1;subst this
    have:=Ty.af hc.2;subst this
    obtain⟨a,cap,e,h1,h2,h3,h4⟩:=RV.atom rfl hx
    simp at e;subst e
    rcases h4 with h4|⟨b,o,cs,e1,e2,e3,e4⟩
    ·subst h4;simp at Sm;exact absurd Sm.2 (by omega)
    ·subst e1
     have Sg:i.toNat<xs.length:=by omega
     have SU:=aC.get (fun _ _=>Rel.len) u.aX i.toNat e4 Sg
     exact⟨_,fE T ht Su w b o _ cap k i Sm,RV.fD (Or.inr ⟨rfl,b,_,_,rfl,e2,e3.sub _ _,SU⟩)⟩
   ·cases h
  ·rename_i bs u b Su
   split at h
   ·rename_i e bs2 u' xs hk
    split at h
    ·rename_i hc
     cases h
     have Sm:=And.intro hvc0.1 hvc0.2.1
     have:=Ty.af hc;subst this
     have hx:=RV.atom rfl hx
     simp only[RC,List.cons.injEq,and_true] at hx
     have hx:=hx.1
     subst hx
     obtain⟨h1,h2,h3,h4,a,cap,h5,h6,h7⟩:=hw.bh b _ (hB b _ hk)
     rw[h5]
     rcases h7 with⟨_,_,h9⟩|⟨g,c,h7,h8,h9,SW,Sy,h12⟩
     ·subst h9;simp at Sm;exact absurd Sm.2 (by omega)
     ·subst h8
      refine⟨_,fE T ht Su w g 0 _ cap k i Sm,RV.fD (Or.inr ⟨rfl,g,h7,?_,?_⟩)⟩
      ·rw[h1];simp[Ty.off,Ty.na]
      ·rw[h1];exact⟨by omega,Ty.jt _⟩
    ·cases h
   ·cases h
  ·rename_i bs u b lo len Su
   split at h
   ·rename_i e bs2 u' xs hk
    split at h
    ·rename_i hc
     cases h
     have Sm:=And.intro hvc0.1 hvc0.2.1
     have:=Ty.af hc;subst this
     obtain⟨a,c0,n,tt,r1,r2,r3,r4,a2,e,r6⟩:=RV.atom rfl hx
     simp at e;subst e
     obtain⟨h1,h2,h3,h4,a',cap,h5,h6,h7⟩:=hw.bh b _ (hB b _ hk)
     rw[h1] at r1;cases r1
     rw[h5] at r2;cases r2
     rcases h7 with⟨_,_,h9⟩|⟨g,c,h7,h8,h9,SW,Sy,h12⟩
     ·subst h9;simp at r3;exact absurd Sm.2 (by omega)
     ·subst h8
      have had:a2=some ⟨g,lo*u.size,none⟩:=by
       rcases r6 with r6|r6
       ·omega
       ·rw[r6];simp only[Option.map_some,Option.some.injEq];unfold Addr.add;split<;>simp_all
      rw[had]
      refine⟨_,fE T ht Su w g _ _ _ k i Sm,RV.fD (Or.inr ⟨rfl,g,h7,?_,?_⟩)⟩
      ·rw[h1];simp only[Ty.off,Ty.na];rw[Nat.add_mul];simp
      ·rw[h1];exact⟨by omega,Ty.jt _⟩
    ·cases h
   ·cases h
  ·rename_i bs u b p lo len Su
   split at h
   ·rename_i tt v hk
    split at h
    ·rename_i n u' Sl
     split at h
     ·rename_i hc
      cases h
      have Sm:=And.intro hvc0.1 hvc0.2.1
      have:=Ty.af hc;subst this
      obtain⟨n2,t2,r1,r2,r3,a,cap,e,r4,r5⟩:=RV.atom rfl hx
      simp at e;subst e
      obtain⟨h1,h2,g,c,e2,h3,h4,h5⟩:=hw.bh b _ (hB b _ hk)
      rw[h1,Sl] at r1;cases r1
      rcases r5 with r5|⟨g',r5,r6⟩
      ·subst r5;omega
      ·rw[h3] at r5;cases r5
       subst r6
       obtain⟨q1,q2,q3⟩:=Ty.mj (q:=[.idx (lo+i.toNat)]) Sl
       refine⟨_,fE T ht Su w g _ _ _ k i Sm,RV.fD (Or.inr ⟨rfl,g,h3,?_,?_⟩)⟩
       ·rw[h1,q2];simp only[Ty.off,Ty.na];rw[Nat.add_mul];simp;omega
       ·rw[h1];refine q3 (by rw[←h1];exact r2) ⟨by omega,Ty.jt _⟩
     ·cases h
    ·cases h
   ·cases h
  ·rename_i n u b p Su
   split at h
   ·rename_i kk hk
    split at h
    ·rename_i n' u' Sl
     split at h
     ·rename_i hc
      cases h
      have Sm:=And.intro hvc0.1 hvc0.2.1
      simp only[Bool.and_eq_true] at hc
      have:=Ty.af hc.1;subst this
      have:=Nat.eq_of_beq_eq_true hc.2;subst this
      obtain⟨g,hg,e,hv⟩:=RV.atom rfl hx
      simp at e;subst e
      have hbt:=RB.bt (hw.bh b kk (hB b kk hk)) (oz (q:=.idx 0) (s:=u) Sl (by simp[Ty.sub,Ty.Ad]))
      rw[←hbt] at Sl
      obtain⟨q1,q2,q3⟩:=Ty.mj (q:=[.idx i.toNat]) Sl
      refine⟨_,kI T ht Su w g _ k i Sm,RV.fD (Or.inr ⟨rfl,g,hg,?_,?_⟩)⟩
      ·rw[q2];simp only[Ty.off,Ty.na];simp
      ·exact q3 hv ⟨by omega,Ty.jt _⟩
     ·cases h
    ·cases h
   ·cases h
  ·rename_i n u n' u' xs Su
   split at h
   ·rename_i hc
    cases h
    have Sm:=And.intro hvc0.1 hvc0.2.1
    simp only[Bool.and_eq_true] at hc
    have:=Ty.af hc.1;subst this
    have:=Nat.eq_of_beq_eq_true hc.2;subst this
    obtain⟨b,o,cs,e,h1,h2,h3⟩:=RV.atom rfl hx
    simp at e;subst e
    obtain⟨hn,h3⟩:=h3
    have Sg:i.toNat<List.length xs:=by omega
    have SU:=aC.get (fun _ _=>Rel.len) u.aX i.toNat h3 Sg
    exact⟨_,kI T ht Su w b o k i Sm,RV.fD (Or.inr ⟨rfl,b,_,_,rfl,h1,h2.sub _ _,SU⟩)⟩
   ·cases h
  ·cases h
 ·cases h
theorem ic{P:Program}{G:bH}(T:aW P G){gl:Ctx}{E:Env}{w:World}{hp:List (Option aj)}(hw:HW gl E w hp){hb:Nat→Option aj}(hB:HB hb hp){t:TypeId}{x y u:AV}{vx vy:Value}{vc:List Prop}(hx:RV E w x vx)(hy:RV E w y vy)(h:fb G hb t x y=some (u,vc))(Sm:dT vc):
 ∃v,(Instr.indexAt t vx vy).run P w= .ok v w∧RV E w u v:=by
 unfold fb at h
 split at h
 ·obtain⟨rfl,_⟩:=RV.bM hy
  exact pg T hw hB hx h Sm
 ·cases h
theorem nb(l:List UInt8):(ByteArray.mk l.toArray).size=l.length:=by show l.toArray.size=_;simp
def kJ(n:Nat):AV:=.val (.int .i64) (n:Int)
def tD(G:bH)(hb:Nat→Option aj)(t:TypeId)(x:AV):Option AV:=
 match G.at t with
 |
  some td=>
  match td.ty,x with
  | .slice _ _,.val (.slice _ _) xs=>some (kJ xs.length)
  | .slice _ _,.dS=>some (kJ 0)
  |
   .slice _ _,.own b=>match hb b with
   |some (.row _ _ _ xs)=>some (kJ xs.length)
   |_=>none
  |
   .slice _ _,.mo b _ len=>match hb b with
   |some (.row _ _ _ xs)=>if Nat.ble 1 1 then some (kJ len) else(some (kJ xs.length))
   |_=>none
  |
   .slice _ _,.ka b p _ len=>match hb b with
   |
    some (.var tt _)=>match tt.sub p with
    |some (.arr n _)=>if Nat.ble n az then some (kJ len) else none
    |_=>none
   |_=>none
  | .str,.val .str s=>some (kJ s.length)
  | .au .map,.mh=>some (kJ 0)
  |
   .au .map,.mp b=>match hb b with
   |some (.map _ _ es)=>some (kJ es.length)
   |_=>none
  |_,_=>none
 |none=>none
theorem RV.len{E:Env}{w:World}{n:Nat}(h:n≤az):RV E w (kJ n) (goInt n):=by
 refine RV.int (k:=.i64) ?_
 unfold az at h
 have h1:IntKind.i64.min= -9223372036854775808:=by decide
 have h2:IntKind.i64.max=9223372036854775807:=by decide
 omega
theorem RM.len{E:Env}{w:World}{k v:Ty}:∀{l:List MapEntry}{xs:List (k.den×v.den)},RM E w k v l xs→l.length=xs.length
 |[],[],_=>rfl
 |[],_::_,h=>h.elim
 |_::_,[],h=>h.elim
 |_::l,_::xs,h=>by simp[RM.len h.2.2]
theorem aW.strOf{P:Program}{G:bH}(T:aW P G){t:TypeId}{td:TD}(h:G.at t=some td)(hs:td.ty= .str):P.underlying t=some .string:=by
 obtain⟨ii,d,_,h1,_,h2,_⟩:=T.info h
 have Sc:=cn h2
 rw[h1]
 cases hd:d with
 |string=>rfl
 |struct fs=>subst hd;simp only[cm] at Sc;rw[hs] at Sc;cases Sc
 |array n e=>subst hd;simp only[cm] at Sc;rw[hs] at Sc;cases Sc
 |
  slice e=>
  subst hd
  simp only[a8] at h2
  rw[Bool.or_eq_true] at h2
  rcases h2 with h2|h2
  ·have:=Ty.af h2;rw[hs] at this;cases this
  simp only[Bool.and_eq_true] at h2
  obtain⟨_,h2⟩:=h2
  split at h2
  ·rename_i e1 _ _;rw[hs] at e1;cases e1
  ·cases h2
 |map k e=>subst hd;simp only[a8,Bool.and_eq_true] at h2;have:=Ty.af h2.1.1;rw[hs] at this;cases this
 |
  _=>
  subst hd
  simp only[a8] at h2
  first
   |(have:=Ty.af h2;rw[hs] at this;cases this)
   |cases h2
theorem aW.mapOf{P:Program}{G:bH}(T:aW P G){t:TypeId}{td:TD}(h:G.at t=some td)(hs:td.ty= .au .map):P.underlying t=some (.map td.e td.e2):=by
 obtain⟨ii,d,_,h1,_,h2,_⟩:=T.info h
 have Sc:=cn h2
 rw[h1]
 cases hd:d with
 |
  map k e=>
  subst hd
  simp only[a8,Bool.and_eq_true] at h2
  rw[Nat.eq_of_beq_eq_true h2.1.2,Nat.eq_of_beq_eq_true h2.2]
 |struct fs=>subst hd;simp only[cm] at Sc;rw[hs] at Sc;cases Sc
 |array n e=>subst hd;simp only[cm] at Sc;rw[hs] at Sc;cases Sc
 |
  slice e=>
  subst hd
  simp only[a8] at h2
  rw[Bool.or_eq_true] at h2
  rcases h2 with h2|h2
  ·have:=Ty.af h2;rw[hs] at this;cases this
  simp only[Bool.and_eq_true] at h2
  obtain⟨_,h2⟩:=h2
  split at h2
  ·rename_i e1 _ _;rw[hs] at e1;cases e1
  ·cases h2
 |
  _=>
  subst hd
  simp only[a8] at h2
  first
   |(have:=Ty.af h2;rw[hs] at this;cases this)
   |cases h2
theorem ru{P:Program}{G:bH}(T:aW P G){gl:Ctx}{E:Env}{w:World}{hp:List (Option aj)}(hw:HW gl E w hp){hb:Nat→Option aj}(hB:HB hb hp){t ty:TypeId}{x u:AV}{vx:Value}(hx:RV E w x vx)(h:tD G hb t x=some u):
 ∃v,(Builtin.len_ #[t] ty #[vx]).run P w= .ok v w∧RV E w u v:=by
 unfold tD at h
 split at h
 ·rename_i td ht
  split at h
  ·rename_i bs u' bs' u2 xs Su
   cases h
   obtain⟨te,ie,h1,_⟩:=T.bX ht Su
   obtain⟨a,cap,e,_,_,h3,_⟩:=RV.atom rfl hx
   simp at e;subst e
   exact⟨_,by simp[Builtin.len_,underlying,h1],RV.len h3⟩
  ·rename_i bs u' Su
   cases h
   obtain⟨te,ie,h1,_⟩:=T.bX ht Su
   have hx:=RV.atom rfl hx
   simp[RC] at hx;subst hx
   exact⟨_,by simp[Builtin.len_,underlying,h1],RV.len (by unfold az;omega)⟩
  ·rename_i bs u' b Su
   split at h
   ·rename_i e2 bs2 t2 xs hk
    cases h
    obtain⟨te,ie,h1,_⟩:=T.bX ht Su
    have hx:=RV.atom rfl hx
    simp only[RC,List.cons.injEq,and_true] at hx
    have hx:=hx.1
    subst hx
    obtain⟨_,_,h3,_,a,cap,h5,_⟩:=hw.bh b _ (hB b _ hk)
    rw[h5]
    exact⟨_,by simp[Builtin.len_,underlying,h1],RV.len h3⟩
   ·cases h
  ·rename_i bs u' b lo len Su
   split at h
   ·rename_i e2 bs2 t2 xs hk
    simp at h;subst h
    obtain⟨te,ie,h1,_⟩:=T.bX ht Su
    obtain⟨a,c,n,tt,r1,r2,r3,r4,a2,e,_⟩:=RV.atom rfl hx
    simp at e;subst e
    obtain⟨q1,_,h3,_,a',cap,h5,_⟩:=hw.bh b _ (hB b _ hk)
    rw[r1] at q1;cases q1
    exact⟨_,by simp[Builtin.len_,underlying,h1],RV.len (by omega)⟩
   ·cases h
  ·rename_i bs u' b p lo len Su
   split at h
   ·rename_i tt v hk
    split at h
    ·rename_i n0 u0 Sl
     split at h
     ·rename_i hn
      cases h
      obtain⟨te,ie,h1,_⟩:=T.bX ht Su
      obtain⟨n,t2,r1,r2,r3,a,cap,e,r4,r5⟩:=RV.atom rfl hx
      simp at e;subst e
      obtain⟨q1,_⟩:=hw.bh b _ (hB b _ hk)
      rw[q1,Sl] at r1;cases r1
      have:=Nat.le_of_ble_eq_true hn
      exact⟨_,by simp[Builtin.len_,underlying,h1],RV.len (by omega)⟩
     ·cases h
    ·cases h
   ·cases h
  ·rename_i s Su
   cases h
   have h1:=T.strOf ht Su
   obtain⟨rfl,h2⟩:=RV.eF hx
   exact⟨goInt s.length,by simp[Builtin.len_,underlying,h1,nb],RV.len h2⟩
  ·rename_i Su
   cases h
   have h1:=T.mapOf ht Su
   have hx:=RV.atom rfl hx
   simp[RC] at hx;subst hx
   exact⟨_,by simp[Builtin.len_,underlying,h1],RV.len (by unfold az;omega)⟩
  ·rename_i b Su
   split at h
   ·rename_i kt vt es hk
    cases h
    have h1:=T.mapOf ht Su
    obtain⟨g,hg,e⟩:=RV.atom rfl hx
    simp at e;subst e
    obtain⟨_,h2,g',en,clock,h3,h4,h5,_⟩:=hw.bh b _ (hB b _ hk)
    rw[hg] at h3;cases h3
    have hl:=RM.len h5
    refine⟨goInt es.length,?_,RV.len h2⟩
    simp[Builtin.len_,underlying,h1,getObj,Sem.run,h4,←hl]
   ·cases h
  ·cases h
 ·cases h
end Go.Abs
namespace Go.Abs
def St.fresh(σ:St)(d:Nat):Prop:=d∉σ.ids∧(∀k,σ.hp[d]? ≠some (some k))∧16≤d
def bS:Nat→List Nat→Bool
 |_,[]=>false
 |d,x::l=>Nat.beq d x||bS d l
theorem c9{d:Nat}:∀{l:List Nat},bS d l=false→d∉l
 |[],_=>by simp
 |
  x::l,h=>by
  simp only[bS,Bool.or_eq_false_iff] at h
  intro hm
  cases hm with
  |head=>simp at h
  |tail _ hm=>exact c9 h.2 hm
def St.oA(σ:St)(d:Nat):Bool:=
 Nat.ble 16 d&& !bS d σ.ids&&(match σ.hp[d]? with|some (some _)=>false|_=>true)
theorem St.nc{σ:St}{d:Nat}(h:σ.oA d=true):σ.fresh d:=by
 simp only[St.oA,Bool.and_eq_true] at h
 refine⟨c9 (by simpa using h.1.2),?_,Nat.le_of_ble_eq_true h.1.1⟩
 intro k hk
 rw[hk] at h
 exact absurd h.2 (by simp)
theorem cK.fresh{gl:Ctx}{σ:St}{E:Env}{a:Act}{w w':World}(h:cK gl σ E a w){d:Nat}(hf:σ.fresh d){g:Option Nat}{sv:Value}{t:Ty}{k:aj}
 (hos:w'.os=w.os) (hta:Tp gl.md w w') (hou:w'.output=w.output) (Sd:w.heap.size≤w'.heap.size) (hold:∀i,i<w.heap.size→w'.heap[i]? =w.heap[i]?)
 (hg:∀i,g=some i→w.heap.size≤i) (hb:RB (E.at d g sv t) w' d k):
 cK gl (σ.bh d (some k)) (E.at d g sv t) a w'∧Ext gl.md (Own σ.hp E) E w (Own (σ.bh d (some k)).hp (E.at d g sv t)) (E.at d g sv t) w':=by
 have kp:bm E w (E.at d g sv t) w':=⟨fun b hb=>hold b (h.hw.slt b hb),fun b hb=>hb⟩
 have hw:=h.hw.fresh (d:=d) Sd hold hf.2.1 (fun b k' hk hm=>hf.1 (St.va hk d hm)) hg hb
 refine⟨h.carry kp (Env.xk hf.1) hw,hos,hta,hou,Sd,fun i hi _=>hold i hi,fun i hi=>hi,fun i hi=>Or.inl hi,?_,Env.DC hf.2.2⟩
 rintro i ⟨b,k',hbk,SY⟩
 by_cases e:b=d
 ·subst e
  simp only[Env.at,if_true] at SY
  exact Or.inr (hg i SY)
 ·simp only[Env.at,e,if_false] at SY
  simp only[St.bh] at hbk
  rw[List.getElem?_set,if_neg (fun e'=>e e'.symm)] at hbk
  exact Or.inl ⟨b,k',hbk,SY⟩
theorem gr(w:World)(o:Obj)(i:Nat)(hi:i<w.heap.size):({w with heap:=w.heap.push o}:World).heap[i]? =w.heap[i]? :=by
 show(w.heap.push o)[i]? =_
 rw[Array.getElem?_push,if_neg (by omega)]
theorem lF(w:World)(o:Obj):({w with heap:=w.heap.push o}:World).heap[w.heap.size]? =some o:=by
 show(w.heap.push o)[w.heap.size]? =_
 simp
theorem cK.newVar{P:Program}{gl:Ctx}{σ:St}{E:Env}{a:Act}{w:World}(h:cK gl σ E a w){d:Nat}(hf:σ.fresh d){t:Ty}{x:AV}{v:Value}(e:TypeId)(hr:RC E w x v.cells.toList)(hc:x.bB t=true)(hx:d∉x.ids):
 ∃w' E',(Go.newVar e v).run P w= .ok ⟨w.heap.size,0,none⟩ w'∧cK gl (σ.bh d (some (.var t x))) E' a w'∧RV E' w' (.ptr d []) (.pointer (some ⟨w.heap.size,0,none⟩))∧Ext gl.md (Own σ.hp E) E w (Own (σ.bh d (some (.var t x))).hp E') E' w':=by
 refine⟨{w with heap:=w.heap.push (.cells v.cells e)},E.at d (some w.heap.size) undef t,by simp[Go.newVar,newRow],?_⟩
 have kp:bm E w (E.at d (some w.heap.size) undef t) {w with heap:=w.heap.push (.cells v.cells e)}:=⟨fun b hb=>gr _ _ _ (h.hw.slt b hb),fun b hb=>hb⟩
 obtain⟨h1,h2⟩:=h.fresh hf (w':={w with heap:=w.heap.push (.cells v.cells e)}) (g:=some w.heap.size) (sv:=undef) (t:=t) (k:=.var t x) rfl (Tp.r rfl rfl) rfl (by simp) (fun i hi=>gr _ _ _ hi) (fun i hi=>by cases hi;exact Nat.le_refl _)
  ⟨by simp[Env.at],hc,w.heap.size,v.cells,e,by simp[Env.at],lF _ _,RC.mono kp (Env.xk hx) hr⟩
 exact⟨h1,RV.fD (Or.inr ⟨rfl,w.heap.size,by simp[Env.at],by simp[Env.at,Ty.na],Ty.jt _⟩),h2⟩
theorem xo(v:Value):(mY v).ids= []:=by
 unfold mY
 split<;>try rfl
 all_goals(split<;>rfl)
theorem yH(gl:List DA)(g:Nat):(ow gl g).ids= []:=by
 induction gl with
 |nil=>rfl
 |cons x l ih=>unfold ow;split;rfl;exact ih
theorem tG{gl:Ctx}{σ:St}{x:Operand}:∀b∈(bD gl σ.tm x).ids,b∈σ.ids:=by
 intro b hb
 cases x with
 |
  tmp t=>
  simp only[bD] at hb
  cases hx:σ.tm[t]? with
  |none=>rw[hx] at hb;simp[AV.ids] at hb
  |some y=>rw[hx] at hb;exact St.yD hx b hb
 |const v=>simp only[bD,xo] at hb;cases hb
 |global g=>simp only[bD,yH] at hb;cases hb
 |func f=>simp[bD,AV.ids] at hb
theorem Ty.DF(t:Ty):t.zero.ids= []:=by
 induction t with
 |pair a b Sn Sk=>simp[Ty.zero,AV.ids,Sn,Sk]
 |au k=>cases k<;>rfl
 |_=>rfl
theorem A6{P:Program}{G:bH}(T:aW P G){gl:Ctx}{σ:St}{E:Env}{a:Act}{w:World}(h:cK gl σ E a w){d:Nat}(hf:σ.fresh d){e:TypeId}{td:TD}(he:G.at e=some td)(old:Value):
 ∃v w' E',(Instr.alloc e true old).run P w= .ok v w'∧cK gl (σ.bh d (some (.var td.ty td.ty.zero))) E' a w'∧RV E' w' (.ptr d []) v∧Ext gl.md (Own σ.hp E) E w (Own (σ.bh d (some (.var td.ty td.ty.zero))).hp E') E' w':=by
 obtain⟨z,hz,h1,h2⟩:=T.zero he w
 obtain⟨w',E',h3,h4,h5,h6⟩:=h.newVar (P:=P) hf (t:=td.ty) (x:=td.ty.zero) (v:=z) e (fB h1).1 (Ty.ou _) (by rw[Ty.DF];simp)
 exact⟨_,w',E',by simp[Instr.alloc,hz,h3],h4,h5,h6⟩
theorem FP{P:Program}{gl:Ctx}{σ:St}{E:Env}{a:Act}{w:World}(h:cK gl σ E a w){d:Nat}(hf:σ.fresh d){e:TypeId}{t:Ty}{x:AV}{v:Value}(hr:cZ E w x v)(hc:x.bB t=true)(hx:d∉x.ids):
 ∃u w' E',(Instr.box e v).run P w= .ok u w'∧cK gl (σ.bh d (some (.var t x))) E' a w'∧RV E' w' (.ptr d []) u∧Ext gl.md (Own σ.hp E) E w (Own (σ.bh d (some (.var t x))).hp E') E' w':=by
 obtain⟨w',E',h3,h4,h5,h6⟩:=h.newVar (P:=P) hf (t:=t) (x:=x) (v:=v) e hr.cells hc hx
 exact⟨_,w',E',by simp[Instr.box,h3],h4,h5,h6⟩
def IB(e:TypeId)(bs:Nat)(t:Ty)(xs:List t.den)(i:Nat)(p:Path)(x:AV):Option aj:=
 match eL t (xs.getD i t.aX) p x with
 |
  some y=>match y.bc t with
  |some z=>some (.row e bs t (xs.set i z))
  |none=>none
 |none=>none
def oT:aj→Path→AV→Option aj
 |
  .var t v,p,x=>match v.set p x with
  |some u=>if u.bB t then some (.var t u) else none
  |none=>none
 | .row e bs t xs,.idx i::p,x=>IB e bs t xs i p x
 |_,_,_=>none
theorem A7(l us:List Value)(o m:Nat)(h:o+us.length≤m)(hm:m≤l.length):(l.take o++us++l.drop (o+us.length)).take m=(l.take m).take o++us++(l.take m).drop (o+us.length):=by
 have e1:(l.take m).take o=l.take o:=by rw[List.take_take,Nat.min_eq_left (by omega)]
 have e2:(l.take m).drop (o+us.length)=(l.drop (o+us.length)).take (m -(o+us.length)):=by rw[List.drop_take]
 rw[e1,e2,List.take_append,List.take_of_length_le (l:=l.take o++us) (by simp;omega)]
 congr 2
 simp;omega
theorem DG{P:Program}{gl:Ctx}{E:Env}{w:World}{hp:List (Option aj)}(hw:HW gl E w hp){b:Nat}{k k':aj}{p:Path}{x:AV}{us:List Value}(hb:hp[b]? =some (some k))(hv:(E.bt b).valid p)(hx:RC E w x us)
 (Sl:∀s,(E.bt b).sub p=some s→us.length=s.size) (h:oT k p x=some k'):
 ∃g w',E.g b=some g∧(storeCells ⟨g,(E.bt b).off p,none⟩ us 0).run P w= .ok () w'∧w'.os=w.os∧Tp gl.md w w'∧w'.output=w.output∧w'.heap.size=w.heap.size∧(∀i,i≠g→w'.heap[i]? =w.heap[i]?)∧RB E w' b k':=by
 have hk:=hw.bh b k hb
 cases k with
 |
  var t v=>
  obtain⟨h1,h2,g,c,e,h3,h4,h5⟩:=hk
  rw[h1] at hv Sl ⊢
  simp only[oT] at h
  split at h
  ·rename_i u hu
   split at h
   ·rename_i hconf
    cases h
    obtain⟨s,e1,e2,e3,e4⟩:=AV.u9 hx h5 h2 hv Sl hu
    rw[←e2] at e3 e4
    have hst:=run_storeCells_at P g (t.off p) e us 0 c w h4 (by simpa using e3) (RC.one hx)
    refine⟨g,_,h3,hst,rfl,Tp.r rfl rfl,rfl,by simp,fun i hi=>setRow_other w g i _ hi,?_⟩
    have kp:bm E w E (w.setRow g (c.toList.take (t.off p+0)++us++c.toList.drop (t.off p+0+us.length)).toArray):=
     ⟨fun i hi=>setRow_other w g i _ (fun e=>hw.fo b _ g hb h3 (e▸hi)),fun _ h=>h⟩
    refine⟨h1,hconf,g,_,e,h3,setRow_heap w g c _ e _ h4,?_⟩
    have:=RC.mono kp (fun _ _=>⟨rfl,rfl,rfl⟩) e4
    simpa using this
   ·cases h
  ·cases h
 |
  row e bs t xs=>
  obtain⟨h1,h2,h3,h4,a,cap,h5,h6,h7⟩:=hk
  cases p with
  |nil=>simp[oT] at h
  |
   cons ps p=>
   cases ps with
   |fG k=>simp[oT] at h
   |
    idx i=>
    rw[h1] at hv Sl ⊢
    have hi:i<xs.length:=hv.1
    rcases h7 with⟨_,_,h9⟩|⟨g,c,h7,h8,h9,SW,Sy,h12⟩
    ·subst h9;simp at hi
    ·have hR:Rel w E.S (.arr xs.length t) (c.toList.take (xs.length*t.size)) xs:=⟨rfl,h12⟩
     simp only[oT,IB] at h
     split at h
     ·rename_i y hy
      split at h
      ·rename_i z hz
       cases h
       have aA:eL (.arr xs.length t) xs (.idx i::p) x=some (.val (.arr xs.length t) (List.set xs i z)):=by
        simp only[eL]
        rw[hy];simp only;rw[hz]
       obtain⟨s,e1,e2,e3,e4⟩:=tF hx hR hv aA
       have hlen:xs.length*t.size≤c.toList.length:=by
        rw[show c.toList.length=c.size from Array.length_toList,SW];exact Nat.mul_le_mul_right _ Sy
       have e3':=e3
       rw[List.length_take,Nat.min_eq_left hlen,←e2] at e3'
       have hst:=run_storeCells_at P g ((Ty.arr xs.length t).off (.idx i::p)) e us 0 c w h9 (by rw[show c.toList.length=c.size from Array.length_toList] at hlen;omega) (RC.one hx)
       refine⟨g,_,h7,hst,rfl,Tp.r rfl rfl,rfl,by simp,fun i hi=>setRow_other w g i _ hi,?_⟩
       have kp:bm E w E (w.setRow g (c.toList.take ((Ty.arr xs.length t).off (.idx i::p)+0)++us++c.toList.drop ((Ty.arr xs.length t).off (.idx i::p)+0+us.length)).toArray):=
        ⟨fun i hi=>setRow_other w g i _ (fun e=>hw.fo b _ g hb h7 (e▸hi)),fun _ h=>h⟩
       refine⟨by rw[List.length_set];exact h1,by rw[List.length_set];exact h2,by rw[List.length_set];exact h3,h4,a,cap,by rw[List.length_set];exact h5,h6,Or.inr ⟨g,_,h7,h8,setRow_heap w g c _ e _ h9,?_,by rw[List.length_set];exact Sy,?_⟩⟩
       ·rw[←SW];simp only[List.size_toArray,List.length_append,List.length_take,List.length_drop]
        rw[show c.toList.length=c.size from Array.length_toList] at hlen ⊢;omega
       ·have:=RC.mono kp (fun _ _=>⟨rfl,rfl,rfl⟩) e4
        rw[←e2] at this
        have hh:=this.2
        simp only[Nat.add_zero,List.length_set]
        rw[A7 _ _ _ _ (by omega) hlen]
        exact hh
      ·cases h
     ·cases h
 |_=>simp[oT] at h
def kU(G:bH)(hb:Nat→Option aj)(t:TypeId)(x y:AV):Option (Nat×aj):=
 match x,G.at t with
 |
  .ptr b p,some td=>match hb b with
  |
   some k=>match(im k).sub p with
   |some s=>if Ty.same s td.ty&&Nat.beq y.size td.ty.size then(oT k p y).map fun k'=>(b,k') else none
   |none=>none
  |none=>none
 |_,_=>none
theorem Own.yI{hp:List (Option aj)}{E:Env}{b:Nat}{k k':aj}(hb:hp[b]? =some (some k)){i:Nat}:Own (hp.set b (some k')) E i→Own hp E i:=Own.set hb
theorem xp{P:Program}{G:bH}(T:aW P G){gl:Ctx}{σ:St}{E:Env}{a:Act}{w:World}(h:cK gl σ E a w){hb:Nat→Option aj}(hB:HB hb σ.hp){t:TypeId}{x y:AV}{vx vy:Value}(hx:RV E w x vx)(hy:cZ E w y vy){b:Nat}{k':aj}
 (Sj:kU G hb t x y=some (b,k')):
 ∃w',(Instr.storeAt t vx vy).run P w= .ok () w'∧cK gl (σ.bh b (some k')) E a w'∧Ext gl.md (Own σ.hp E) E w (Own (σ.bh b (some k')).hp E) E w':=by
 unfold kU at Sj
 split at Sj
 ·rename_i b' p td ht
  split at Sj
  ·rename_i k hk
   split at Sj
   ·rename_i s hs
    split at Sj
    ·rename_i hc
     simp only[Bool.and_eq_true] at hc
     simp only[Option.map_eq_some_iff] at Sj
     obtain⟨k2,hk2,e⟩:=Sj
     cases e
     have:=Ty.af hc.1;subst this
     obtain⟨g,hg,e,hv⟩:=RV.atom rfl hx
     simp at e;subst e
     have hkb:=h.hw.bh b k (hB b k hk)
     have hbt:E.bt b=im k:=by
      refine RB.bt hkb ?_
      cases k<;>first|rfl|simp[oT] at hk2
     have hyc:=hy.cells
     have hlen:=RC.len hyc
     have Sd:=Nat.eq_of_beq_eq_true hc.2
     obtain⟨g',w',h1,h2,h3,h4,h5,h6,h7,h8⟩:=DG (P:=P) h.hw (hB b k hk) hv hyc (fun s' hs'=>by rw[hbt,hs] at hs';cases hs';omega) hk2
     rw[hg] at h1;cases h1
     have Ss:(Instr.storeAt t (.pointer (some ⟨g,(E.bt b).off p,none⟩)) vy).run P w= .ok () w':=by
      have:vy.cells.size=td.ty.size:=by rw[←Sd,←hlen,Array.length_toList]
      simp[Instr.storeAt,Instr.sureAddr,storeVar,T.size ht,this,h2]
     have kp:bm E w E w':=⟨fun i hi=>h7 i (fun e=>h.hw.fo b k g (hB b k hk) hg (e▸hi)),fun _ h=>h⟩
     have hhw:=h.hw.write (w':=w') (k':=k') (hB b k hk) h6 (fun i hi=>h7 i (fun e=>hi (e▸hg))) h8
     refine⟨w',Ss,h.carry kp (fun _ _=>⟨rfl,rfl,rfl⟩) hhw,h3,h4,h5,by omega,?_,fun _ h=>h,fun _ h=>Or.inl h,fun i hi=>Or.inl (Own.set (hB b k hk) hi),fun _ _=>⟨rfl,rfl,rfl⟩⟩
     intro i hi ho
     exact h7 i (fun e=>ho ⟨b,k,hB b k hk,e▸hg⟩)
    ·cases Sj
   ·cases Sj
  ·cases Sj
 ·cases Sj
end Go.Abs
namespace Go.Abs
structure ba where
 rt:List Nat
 rb:List Nat
 fr:List Nat
 dst:Option Nat
 v:AV
 hw:List (Nat×Option aj)
def aA(hp:List (Option aj)):List (Nat×Option aj)→List (Option aj)
 |[]=>hp
 |(b,k)::l=>aA (hp.set b k) l
def St.app(σ:St)(f:ba):St:=({σ with hp:=aA σ.hp f.hw}:St).put f.dst f.v
structure lG(σ σ':St)(rt rb:List Nat):Prop where
 tl:σ'.tm.length=σ.tm.length
 hl:σ'.hp.length=σ.hp.length
 tm:∀t∈rt,σ'.tm[t]? =σ.tm[t]?
 hp:∀b∈rb,σ'.hp[b]? =σ.hp[b]?
theorem lG.refl(σ:St)(rt rb:List Nat):lG σ σ rt rb:=⟨rfl,rfl,fun _ _=>rfl,fun _ _=>rfl⟩
def J3(P:Program)(gl:Ctx)(ops:Array Oper)(i:Nat)(f:ba)(σ:St):Prop:=
 ∀σ',lG σ σ' f.rt f.rb→(∀d∈f.fr,σ'.fresh d)→∀E a w,cK gl σ' E a w→∀(K:Act→World→Prop)(Q:Exit→Act→World→Prop),
  (∀E' a' w',cK gl (σ'.app f) E' a' w'→Ext gl.md (Own σ'.hp E) E w (Own (σ'.app f).hp E') E' w'→K a' w')→wpOpIn (Wd gl) 0 P ops Q i K a w
def gG(P:Program)(gl:Ctx)(ops:Array Oper):Nat→List ba→St→St→Prop
 |_,[],σ,σ'=>σ'=σ
 |i,f::fs,σ,σ'=>J3 P gl ops i f σ∧(∀d∈f.fr,σ.fresh d)∧gG P gl ops (i+1) fs (σ.app f) σ'
theorem gG.wp{P:Program}{gl:Ctx}{ops:Array Oper}{Q:Exit→Act→World→Prop}:∀{fs:List ba}{i:Nat}{σ σ':St},gG P gl ops i fs σ σ'→∀{E:Env}{a:Act}{w:World},cK gl σ E a w→
 (∀E' a' w',cK gl σ' E' a' w'→Ext gl.md (Own σ.hp E) E w (Own σ'.hp E') E' w'→Q .normal a' w')→wpOpsIn (Wd gl) 0 P ops Q ((List.range fs.length).map (·+i)) a w
 |
  [],i,σ,σ',h,E,a,w,hg,hq=>by
  simp only[gG] at h;subst h
  exact hq E a w hg (Ext.refl _ _ _)
 |
  f::fs,i,σ,σ',⟨h1,h2,h3⟩,E,a,w,hg,hq=>by
  have e:(List.range (f::fs).length).map (·+i)=i::(List.range fs.length).map (·+(i+1)):=by
   rw[List.length_cons,List.range_succ_eq_map]
   simp only[List.map_cons,Nat.zero_add,List.map_map]
   congr 1
   apply List.map_congr_left
   intro x _
   simp;omega
  rw[e,wpOpsIn_cons]
  refine h1 σ (lG.refl _ _ _) h2 E a w hg _ Q ?_
  intro E' a' w' hg' hx
  exact gG.wp h3 hg' (fun E2 a2 w2 hg2 hx2=>hq E2 a2 w2 hg2 (hx.trans hx2))
theorem yJ{P:Program}{gl:Ctx}{ops:Array Oper}{id:Nat}{fs:List ba}{σ σ':St}(hn:fs.length=ops.size)(h:gG P gl ops 0 fs σ σ'){Q:Exit→Act→World→Prop}{E:Env}{a:Act}{w:World}(hg:cK gl σ E a w)
 (hq:∀E' a' w',cK gl σ' E' a' w'→Ext gl.md (Own σ.hp E) E w (Own σ'.hp E') E' w'→Q .normal a' w'):(Code.region id ops false).wpIn (Wd gl) 0 P Q a w:=by
 refine wpIn_region ?_
 have:=gG.wp (Q:=Q) h hg hq
 rw[hn] at this
 simpa using this
def wrote:List (Nat×Option aj)→List Nat
 |[]=>[]
 |(b,_)::l=>b::wrote l
theorem rC:∀(l:List (Nat×Option aj))(hp:List (Option aj)),(aA hp l).length=hp.length
 |[],_=>rfl
 |(b,k)::l,hp=>by rw[aA,rC l,List.length_set]
theorem eM{b:Nat}:∀{l:List (Nat×Option aj)}{hp:List (Option aj)},b∉wrote l→(aA hp l)[b]? =hp[b]?
 |[],_,_=>rfl
 |
  (c,k)::l,hp,h=>by
  simp only[wrote,List.mem_cons,not_or] at h
  rw[aA,eM h.2,List.getElem?_set,if_neg (fun e=>h.1 e.symm)]
theorem oB{b:Nat}:∀{l:List (Nat×Option aj)}{hp R0:List (Option aj)},hp.length=R0.length→hp[b]? =R0[b]? →(aA hp l)[b]? =(aA R0 l)[b]?
 |[],_,_,_,h=>h
 |
  (c,k)::l,hp,R0,hl,h=>by
  rw[aA,aA]
  refine oB (by simp[hl]) ?_
  rw[List.getElem?_set,List.getElem?_set,hl,h]
theorem rD{b:Nat}:∀{l:List (Nat×Option aj)}{hp R0:List (Option aj)},hp.length=R0.length→b∈wrote l→(aA hp l)[b]? =(aA R0 l)[b]?
 |[],_,_,_,h=>by cases h
 |
  (c,k)::l,hp,R0,hl,h=>by
  rw[aA,aA]
  by_cases hb:b∈wrote l
  ·exact rD (by simp[hl]) hb
  ·simp only[wrote,List.mem_cons] at h
   have e:b=c:=h.resolve_right hb
   subst e
   rw[eM hb,eM hb,List.getElem?_set,List.getElem?_set,hl]
   simp
theorem vj(σ:St)(f:ba):(σ.app f).tm.length=σ.tm.length:=by
 unfold St.app St.put;split<;>simp
theorem vn(σ:St)(f:ba):(σ.app f).hp.length=σ.hp.length:=by
 unfold St.app St.put;split<;>simp[rC]
theorem iq(σ:St)(f:ba):(σ.app f).hp=aA σ.hp f.hw:=by
 unfold St.app St.put;split<;>rfl
theorem yK(σ:St)(f:ba):(σ.app f).df=σ.df:=by
 unfold St.app St.put;split<;>rfl
theorem jZ{σ:St}{f:ba}{t:Nat}(h:f.dst≠some t):(σ.app f).tm[t]? =σ.tm[t]? :=by
 unfold St.app St.put
 split
 ·rename_i d hd
  simp only[List.getElem?_set]
  rw[if_neg (fun e=>h (by rw[hd,e]))]
 ·rfl
theorem xq{σ σ':St}{f:ba}{t:Nat}(hl:σ.tm.length=σ'.tm.length)(h:σ.tm[t]? =σ'.tm[t]?):(σ.app f).tm[t]? =(σ'.app f).tm[t]? :=by
 unfold St.app St.put
 split
 ·simp only[List.getElem?_set]
  rw[hl,h]
 ·exact h
theorem vo{σ σ':St}{f:ba}{t:Nat}(hl:σ.tm.length=σ'.tm.length)(h:f.dst=some t):(σ.app f).tm[t]? =(σ'.app f).tm[t]? :=by
 unfold St.app St.put
 rw[h]
 simp only[List.getElem?_set]
 rw[hl];simp
def bR(X:Nat→Bool):Nat→List ba→St→St
 |_,[],σ=>σ
 |i,f::fs,σ=>bR X (i+1) fs (if X i then σ.app f else σ)
theorem pJ(X:Nat→Bool):∀(fs:List ba)(i:Nat)(σ:St),(bR X i fs σ).tm.length=σ.tm.length
 |[],_,_=>rfl
 |f::fs,i,σ=>by rw[bR,pJ X fs];split<;>simp[vj]
theorem pK(X:Nat→Bool):∀(fs:List ba)(i:Nat)(σ:St),(bR X i fs σ).hp.length=σ.hp.length
 |[],_,_=>rfl
 |f::fs,i,σ=>by rw[bR,pK X fs];split<;>simp[vn]
theorem vp(X:Nat→Bool):∀(fs:List ba)(i:Nat)(σ:St),(bR X i fs σ).df=σ.df
 |[],_,_=>rfl
 |f::fs,i,σ=>by rw[bR,vp X fs];split<;>simp[yK]
theorem pL{X Y:Nat→Bool}{t:Nat}:∀{fs:List ba}{i:Nat}{σ σ':St},σ.tm.length=σ'.tm.length→σ.tm[t]? =σ'.tm[t]? →(∀(k:Nat)(f:ba),fs[k]? =some f→X (i+k)≠Y (i+k)→f.dst≠some t)→
 (bR X i fs σ).tm[t]? =(bR Y i fs σ').tm[t]?
 |[],_,_,_,_,h,_=>h
 |
  f::fs,i,σ,σ',hl,h,hd=>by
  rw[bR,bR]
  refine pL ?_ ?_ (fun k g hk R7=>hd (k+1) g (by simpa using hk) (by rw[show i+(k+1)=i+1+k from by omega];exact R7))
  ·split<;>split<;>simp[vj,hl]
  ·by_cases hx:X i=Y i
   ·rw[hx];split
    ·exact xq hl h
    ·exact h
   ·have:=hd 0 f rfl (by simpa using hx)
    split<;>split<;>simp_all[jZ]
theorem pM{X Y:Nat→Bool}{b:Nat}:∀{fs:List ba}{i:Nat}{σ σ':St},σ.hp.length=σ'.hp.length→σ.hp[b]? =σ'.hp[b]? →(∀(k:Nat)(f:ba),fs[k]? =some f→X (i+k)≠Y (i+k)→b∉wrote f.hw)→
 (bR X i fs σ).hp[b]? =(bR Y i fs σ').hp[b]?
 |[],_,_,_,_,h,_=>h
 |
  f::fs,i,σ,σ',hl,h,hd=>by
  rw[bR,bR]
  refine pM ?_ ?_ (fun k g hk R7=>hd (k+1) g (by simpa using hk) (by rw[show i+(k+1)=i+1+k from by omega];exact R7))
  ·split<;>split<;>simp[vn,hl]
  ·by_cases hx:X i=Y i
   ·rw[hx];split
    ·rw[iq,iq];exact oB hl h
    ·exact h
   ·have:=hd 0 f rfl (by simpa using hx)
    split<;>split<;>simp_all[iq,eM]
theorem ng{X:Nat→Bool}{t:Nat}{fi:ba}(hw:fi.dst=some t):∀{fs:List ba}{i j:Nat}{σ σ':St},σ.tm.length=σ'.tm.length→fs[j]? =some fi→X (i+j)=true→(∀(k:Nat)(f:ba),fs[k]? =some f→j<k→X (i+k)=true→f.dst≠some t)→
 (bR X i fs σ).tm[t]? =(σ'.app fi).tm[t]?
 |[],_,_,_,_,_,h,_,_=>by simp at h
 |
  f::fs,i,0,σ,σ',hl,hf,hx,hd=>by
  simp at hf;subst hf
  rw[bR]
  simp only[Nat.add_zero] at hx
  rw[hx]
  have:(bR X (i+1) fs (σ.app f)).tm[t]? =(bR (fun _=>false) (i+1) fs (σ'.app f)).tm[t]? :=by
   refine pL (by simp[vj,hl]) (vo hl hw) (fun k g hk R7=>?_)
   refine hd (k+1) g (by simpa using hk) (by omega) ?_
   rw[show i+(k+1)=i+1+k from by omega]
   simpa using R7
  rw[if_pos rfl,this]
  have hid:∀(fs:List ba)(i:Nat)(σ:St),bR (fun _=>false) i fs σ=σ:=by
   intro fs
   induction fs with
   |nil=>intro i σ;rfl
   |cons f fs ih=>intro i σ;rw[bR];simp only[Bool.false_eq_true,if_false];exact ih _ _
  rw[hid]
 |
  f::fs,i,j+1,σ,σ',hl,hf,hx,hd=>by
  rw[bR]
  refine ng hw (j:=j) ?_ (by simpa using hf) (by rw[show i+1+j=i+(j+1) from by omega];exact hx) (fun k g hk hjk hxk=>hd (k+1) g (by simpa using hk) (by omega) (by rw[show i+(k+1)=i+1+k from by omega];exact hxk))
  split<;>simp[vj,hl]
theorem nj{X:Nat→Bool}{b:Nat}{fi:ba}(hw:b∈wrote fi.hw):∀{fs:List ba}{i j:Nat}{σ σ':St},σ.hp.length=σ'.hp.length→fs[j]? =some fi→X (i+j)=true→(∀(k:Nat)(f:ba),fs[k]? =some f→j<k→X (i+k)=true→b∉wrote f.hw)→
 (bR X i fs σ).hp[b]? =(σ'.app fi).hp[b]?
 |[],_,_,_,_,_,h,_,_=>by simp at h
 |
  f::fs,i,0,σ,σ',hl,hf,hx,hd=>by
  simp at hf;subst hf
  rw[bR]
  simp only[Nat.add_zero] at hx
  rw[hx]
  have:(bR X (i+1) fs (σ.app f)).hp[b]? =(bR (fun _=>false) (i+1) fs (σ'.app f)).hp[b]? :=by
   refine pM (by simp[vn,hl]) (by rw[iq,iq];exact rD hl hw) (fun k g hk R7=>?_)
   refine hd (k+1) g (by simpa using hk) (by omega) ?_
   rw[show i+(k+1)=i+1+k from by omega]
   simpa using R7
  rw[if_pos rfl,this]
  have hid:∀(fs:List ba)(i:Nat)(σ:St),bR (fun _=>false) i fs σ=σ:=by
   intro fs
   induction fs with
   |nil=>intro i σ;rfl
   |cons f fs ih=>intro i σ;rw[bR];simp only[Bool.false_eq_true,if_false];exact ih _ _
  rw[hid]
 |
  f::fs,i,j+1,σ,σ',hl,hf,hx,hd=>by
  rw[bR]
  refine nj hw (j:=j) ?_ (by simpa using hf) (by rw[show i+1+j=i+(j+1) from by omega];exact hx) (fun k g hk hjk hxk=>hd (k+1) g (by simpa using hk) (by omega) (by rw[show i+(k+1)=i+1+k from by omega];exact hxk))
  split<;>simp[vn,hl]
end Go.Abs
namespace Go.Abs
def J4:Option aj→List Nat
 |some k=>k.ids
 |none=>[]
def Ae:List (Nat×Option aj)→List Nat
 |[]=>[]
 |(_,k)::l=>J4 k++Ae l
def ba.IC(f:ba):List Nat:=f.v.ids++Ae f.hw
theorem pN{σ:St}{d:Nat}:d∉σ.ids↔(∀(i:Nat)(x:AV),σ.tm[i]? =some x→d∉x.ids)∧(∀x∈σ.df,d∉x.ids)∧(∀(i:Nat)(k:aj),σ.hp[i]? =some (some k)→d∉k.ids):=by
 constructor
 ·intro h
  exact⟨fun i x hx hm=>h (St.yD hx d hm),fun x hx hm=>h (St.DB hx d hm),fun i k hk hm=>h (St.va hk d hm)⟩
 ·rintro⟨h1,h2,h3⟩ hm
  simp only[St.ids,List.mem_append,List.mem_flatMap,List.mem_filterMap] at hm
  rcases hm with(⟨x,hx,hd⟩|⟨x,hx,hd⟩)|⟨k,⟨o,ho,e⟩,hd⟩
  ·obtain⟨i,hi⟩:=List.getElem?_of_mem hx
   exact h1 i x hi hd
  ·exact h2 x hx hd
  ·simp at e;subst e
   obtain⟨i,hi⟩:=List.getElem?_of_mem ho
   exact h3 i k hi hd
theorem xr{d:Nat}:∀{l:List (Nat×Option aj)}{hp:List (Option aj)},(∀(i:Nat)(k:aj),hp[i]? =some (some k)→d∉k.ids)→d∉Ae l→∀(i:Nat)(k:aj),(aA hp l)[i]? =some (some k)→d∉k.ids
 |[],_,h,_=>h
 |
  (b,o)::l,hp,h,hm=>by
  simp only[Ae,List.mem_append,not_or] at hm
  refine xr (l:=l) (hp:=hp.set b o) ?_ hm.2
  intro i k hk
  rw[List.getElem?_set] at hk
  split at hk
  ·split at hk
   ·simp at hk;subst hk;exact hm.1
   ·cases hk
  ·exact h i k hk
theorem A8{σ:St}{f:ba}{d:Nat}(h:σ.fresh d)(hm:d∉f.IC)(hw:d∉wrote f.hw):(σ.app f).fresh d:=by
 simp only[ba.IC,List.mem_append,not_or] at hm
 obtain⟨h1,h2,h3⟩:=h
 rw[pN] at h1
 obtain⟨a1,a2,a3⟩:=h1
 refine⟨?_,?_,h3⟩
 ·rw[pN]
  refine⟨?_,?_,?_⟩
  ·intro i x hx
   by_cases e:f.dst=some i
   ·unfold St.app St.put at hx
    rw[e] at hx
    simp only[List.getElem?_set] at hx
    simp only[if_true] at hx
    split at hx
    ·cases hx;exact hm.1
    ·cases hx
   ·rw[jZ e] at hx;exact a1 i x hx
  ·rw[yK];exact a2
  ·rw[iq];exact xr a3 hm.2
 ·intro k
  rw[iq,eM hw];exact h2 k
theorem rE{X:Nat→Bool}{d:Nat}:∀{fs:List ba}{i:Nat}{σ:St},σ.fresh d→(∀(k:Nat)(f:ba),fs[k]? =some f→X (i+k)=true→d∉f.IC∧d∉wrote f.hw)→(bR X i fs σ).fresh d
 |[],_,_,h,_=>h
 |
  f::fs,i,σ,h,hd=>by
  rw[bR]
  refine rE ?_ (fun k g hk hx=>hd (k+1) g (by simpa using hk) (by rw[show i+(k+1)=i+1+k from by omega];exact hx))
  split
  ·rename_i hx
   have:=hd 0 f rfl (by simpa using hx)
   exact A8 h this.1 this.2
  ·exact h
def N1(acc:List Nat)(o:Oper):Nat:=
 o.after.toList.foldl (fun s e=>if Region.binds .any e then s ||| 2^e.on ||| acc.getD e.on 0 else s) 0
def oC:List Oper→List Nat→List Nat
 |[],acc=>acc
 |o::l,acc=>oC l (acc++[N1 acc o])
theorem rF{X:Nat→Bool}{acc:List Nat}(hacc:∀j k,X j=true→(acc.getD j 0).testBit k=true→X k=true):∀(l:List Edge)(s:Nat),(∀e∈l,Region.binds .any e=true→X e.on=true)→(∀k,s.testBit k=true→X k=true)→
 ∀k,(l.foldl (fun s e=>if Region.binds .any e then s ||| 2^e.on ||| acc.getD e.on 0 else s) s).testBit k=true→X k=true
 |[],s,_,hs=>hs
 |
  e::l,s,hl,hs=>by
  refine rF hacc l _ (fun e' he'=>hl e' (List.mem_cons_of_mem _ he')) ?_
  intro k hk
  simp only at hk
  split at hk
  ·rename_i hb
   have hX:=hl e (List.mem_cons_self ..) hb
   simp only[Nat.testBit_or,Bool.or_eq_true,Nat.testBit_two_pow] at hk
   rcases hk with(hk|hk)|hk
   ·exact hs k hk
   ·have:=of_decide_eq_true hk;subst this;exact hX
   ·exact hacc e.on k hX hk
  ·exact hs k hk
theorem kX{X:Nat→Bool}:∀(l:List Oper)(acc:List Nat),(∀j k,X j=true→(acc.getD j 0).testBit k=true→X k=true)→
 (∀j o,l[j]? =some o→X (acc.length+j)=true→∀e∈o.after.toList,Region.binds .any e=true→X e.on=true)→
 ∀j k,X j=true→((oC l acc).getD j 0).testBit k=true→X k=true
 |[],_,h,_=>h
 |
  o::l,acc,h,hc=>by
  refine kX l _ ?_ ?_
  ·intro j k hj hk
   rw[List.getD_eq_getElem?_getD,List.getElem?_append] at hk
   split at hk
   ·rw[←List.getD_eq_getElem?_getD] at hk;exact h j k hj hk
   ·by_cases e:j=acc.length
    ·subst e
     simp at hk
     exact rF h o.after.toList 0 (hc 0 o rfl (by simpa using hj)) (fun k hk=>by simp at hk) k hk
    ·rw[List.getElem?_eq_none (by simp;omega)] at hk
     simp at hk
  ·intro j o' ho hx
   exact hc (j+1) o' (by simpa using ho) (by rw[List.length_append,List.length_singleton] at hx;rw[show acc.length+(j+1)=acc.length+1+j from by omega];exact hx)
def eH:List Nat→List Nat→Bool
 |[],_=>false
 |x::l,m=>bS x m||eH l m
theorem oU{d:Nat}:∀{l:List Nat},d∈l→bS d l=true
 |
  x::l,h=>by
  simp only[bS,Bool.or_eq_true]
  cases h with
  |head=>exact Or.inl (Nat.beq_refl d)
  |tail _ h=>exact Or.inr (oU h)
theorem nk{d:Nat}:∀{l m:List Nat},d∈l→d∈m→eH l m=true
 |
  x::l,m,h,hm=>by
  simp only[eH,Bool.or_eq_true]
  cases h with
  |head=>exact Or.inl (oU hm)
  |tail _ h=>exact Or.inr (nk h hm)
def ba.wt(f:ba):List Nat:=f.dst.toList
def ba.wb(f:ba):List Nat:=wrote f.hw++f.fr
def nn(f g:ba):Bool:=
 eH f.wt (g.rt++g.wt)||eH f.rt g.wt||eH f.wb (g.rb++g.wb)||eH f.rb g.wb||eH f.fr g.IC
def kK(masks:Nat)(g:ba):Nat→List ba→Bool
 |_,[]=>true
 |i,f::fs=>(!nn f g||masks.testBit i)&& !eH g.fr (f.IC++wrote f.hw)&&kK masks g (i+1) fs
def nq(masks:List Nat)(all:List ba):Nat→List ba→Bool
 |_,[]=>true
 |j,g::fs=>kK (masks.getD j 0) g 0 (all.take j)&&nq masks all (j+1) fs
theorem oV{m:Nat}{g:ba}:∀{fs:List ba}{i:Nat},kK m g i fs=true→∀k f,fs[k]? =some f→(nn f g=true→m.testBit (i+k)=true)∧eH g.fr (f.IC++wrote f.hw)=false
 |[],_,_,k,f,h=>by simp at h
 |
  f0::fs,i,h,k,f,hk=>by
  simp only[kK,Bool.and_eq_true,Bool.or_eq_true,Bool.not_eq_true'] at h
  cases k with
  |zero=>simp at hk;subst hk;exact⟨fun hc=>by rcases h.1.1 with h1|h1;rw[hc] at h1;cases h1;exact h1,h.1.2⟩
  |succ k=>have:=oV h.2 k f (by simpa using hk);rw[show i+(k+1)=i+1+k from by omega];exact this
theorem oW{masks:List Nat}{all:List ba}:∀{fs:List ba}{j:Nat},nq masks all j fs=true→∀k g,fs[k]? =some g→kK (masks.getD (j+k) 0) g 0 (all.take (j+k))=true
 |[],_,_,k,g,h=>by simp at h
 |
  g0::fs,j,h,k,g,hk=>by
  simp only[nq,Bool.and_eq_true] at h
  cases k with
  |zero=>simp at hk;subst hk;exact h.1
  |succ k=>have:=oW h.2 k g (by simpa using hk);rw[show j+(k+1)=j+1+k from by omega];exact this
def tH(ops:List Oper):Nat→Bool:=fun j=>match ops[j]? with
 |some o=>o.after.toList.all fun e=> !Region.binds .any e||Nat.blt e.on j
 |none=>true
def rG(ops:Array Oper)(fs:List ba):Bool:=
 Nat.beq fs.length ops.size&&nq (oC ops.toList []) fs 0 fs&&(List.range ops.size).all (tH ops.toList)
theorem gG.nth{P:Program}{gl:Ctx}{ops:Array Oper}:∀{fs:List ba}{i:Nat}{σ σ':St},gG P gl ops i fs σ σ'→∀(k:Nat)(f:ba),fs[k]? =some f→J3 P gl ops (i+k) f (bR (fun x=>decide (x<i+k)) i fs σ)
 |[],_,_,_,_,k,f,h=>by simp at h
 |
  g::fs,i,σ,σ',⟨h1,h2,h3⟩,k,f,hk=>by
  cases k with
  |
   zero=>
   simp at hk;subst hk
   rw[bR]
   simp only[Nat.add_zero,Nat.lt_irrefl,decide_false,Bool.false_eq_true,if_false]
   have hid:∀(fs:List ba)(j:Nat)(σ:St),i<j→bR (fun x=>decide (x<i)) j fs σ=σ:=by
    intro fs
    induction fs with
    |nil=>intro j σ _;rfl
    |cons f fs ih=>intro j σ hj;rw[bR,if_neg (by simp;omega)];exact ih _ _ (by omega)
   rw[hid fs (i+1) σ (by omega)];exact h1
  |
   succ k=>
   have:=gG.nth h3 k f (by simpa using hk)
   rw[bR,if_pos (by simp)]
   rw[show i+(k+1)=i+1+k from by omega]
   exact this
theorem gG.last{P:Program}{gl:Ctx}{ops:Array Oper}:∀{fs:List ba}{i:Nat}{σ σ':St},gG P gl ops i fs σ σ'→∀{X:Nat→Bool},(∀k,i≤k→k<i+fs.length→X k=true)→σ'=bR X i fs σ
 |[],_,_,_,h,_,_=>h
 |
  f::fs,i,σ,σ',⟨_,_,h⟩,X,hX=>by
  rw[bR,if_pos (hX i (Nat.le_refl _) (by simp))]
  exact gG.last h (fun k h1 h2=>hX k (by omega) (by simp;omega))
theorem du{l m:List Nat}(h:eH l m=false){d:Nat}(hd:d∈l):d∉m:=fun hm=>by
 rw[nk hd hm] at h;cases h
section
variable{P:Program} {gl:Ctx} {ops:Array Oper} {fs:List ba} {σ σ':St}
theorem yL(R9:rG ops fs=true)(_hc:gG P gl ops 0 fs σ σ')(SK:∀(k:Nat)(f:ba),fs[k]? =some f→∀d∈f.fr,σ.fresh d)
 {X:Nat→Bool} (hX:∀j o,ops[j]? =some o→X j=true→∀e∈o.after.toList,Region.binds .any e=true→X e.on=true)
 {i:Nat} {o:Oper} (ho:ops[i]? =some o) (hi:X i=false) (hpre:∀e∈o.after.toList,Region.binds .any e=true→X e.on=true) {f:ba} (hf:fs[i]? =some f):
 lG (bR (fun x=>decide (x<i)) 0 fs σ) (bR X 0 fs σ) f.rt f.rb∧(∀d∈f.fr,(bR X 0 fs σ).fresh d)∧(bR X 0 fs σ).app f=bR (fun x=>X x||x==i) 0 fs σ:=by
 simp only[rG,Bool.and_eq_true] at R9
 obtain⟨⟨hlen,hconf⟩,hedge⟩:=R9
 have hmask:∀(Y:Nat→Bool),(∀j o,ops[j]? =some o→Y j=true→∀e∈o.after.toList,Region.binds .any e=true→Y e.on=true)→∀j k,Y j=true→((oC ops.toList []).getD j 0).testBit k=true→Y k=true:=by
  intro Y hY
  refine kX ops.toList [] (fun j k _ hk=>by simp at hk) ?_
  intro j o' ho' hj
  simp only[List.length_nil,Nat.zero_add] at hj
  exact hY j o' (by simpa using ho') hj
 have pair:∀(k j:Nat)(g h:ba),k<j→fs[k]? =some g→fs[j]? =some h→(nn g h=true→((oC ops.toList []).getD j 0).testBit k=true)∧eH h.fr (g.IC++wrote g.hw)=false:=by
  intro k j g h hkj hg hh
  have:=oW hconf j h hh
  have:=oV this k g (by rw[List.getElem?_take,if_pos (by omega)];exact hg)
  simpa using this
 have early:∀(k:Nat)(g:ba),fs[k]? =some g→k<i→X k=false→nn g f=false:=by
  intro k g hg hki hXk
  cases hcf:nn g f with
  |false=>rfl
  |
   true=>
   have hm:=(pair k i g f hki hg hf).1 hcf
   have:=hmask (fun x=>X x||x==i) (by
    intro j o' ho' hj e he hb
    simp only[Bool.or_eq_true,beq_iff_eq] at hj ⊢
    rcases hj with hj|hj
    ·exact Or.inl (hX j o' ho' hj e he hb)
    ·subst hj;rw[ho] at ho';cases ho';exact Or.inl (hpre e he hb)) i k (by simp) hm
   simp only[Bool.or_eq_true,beq_iff_eq] at this
   rcases this with h|h
   ·rw[hXk] at h;cases h
   ·omega
 have late:∀(k:Nat)(g:ba),fs[k]? =some g→i<k→X k=true→nn f g=false:=by
  intro k g hg hki hXk
  cases hcf:nn f g with
  |false=>rfl
  |
   true=>
   have hm:=(pair i k f g hki hf hg).1 hcf
   have:=hmask X hX k i hXk hm
   rw[hi] at this;cases this
 have cf:∀{g h:ba},nn g h=false→(∀t,g.dst=some t→t∉h.rt∧h.dst≠some t)∧(∀t,h.dst=some t→t∉g.rt)∧(∀b∈g.wb,b∉h.rb∧b∉h.wb)∧(∀b∈h.wb,b∉g.rb)∧(∀b∈g.fr,b∉h.IC):=by
  intro g h hc
  simp only[nn,Bool.or_eq_false_iff] at hc
  obtain⟨⟨⟨⟨h1,h2⟩,h3⟩,h4⟩,h5⟩:=hc
  refine⟨?_,?_,?_,?_,fun b hb=>du h5 hb⟩
  ·intro t ht
   have:=du h1 (d:=t) (by simp[ba.wt,ht])
   simp only[List.mem_append,not_or,ba.wt,Option.mem_toList] at this
   exact⟨this.1,this.2⟩
  ·intro t ht hm
   exact du h2 hm (by simp[ba.wt,ht])
  ·intro b hb
   have:=du h3 hb
   simpa using this
  ·intro b hb hm
   exact du h4 hm hb
 refine⟨⟨?_,?_,?_,?_⟩,?_,?_⟩
 ·rw[pJ,pJ]
 ·rw[pK,pK]
 ·intro t ht
  refine pL rfl rfl (fun k g hg R7=>?_)
  simp only[Nat.zero_add] at R7
  intro hd
  rcases Nat.lt_trichotomy k i with h|h|h
  ·have hXk:X k=false:=by
    cases hx:X k with
    |false=>rfl
    |true=>simp[hx,h] at R7
   exact((cf (early k g hg h hXk)).1 t hd).1 ht
  ·subst h;simp[hi] at R7
  ·have hXk:X k=true:=by
    cases hx:X k with
    |true=>rfl
    |false=>simp[hx] at R7;omega
   exact(cf (late k g hg h hXk)).2.1 t hd ht
 ·intro b hb
  refine pM rfl rfl (fun k g hg R7=>?_)
  simp only[Nat.zero_add] at R7
  intro hd
  rcases Nat.lt_trichotomy k i with h|h|h
  ·have hXk:X k=false:=by
    cases hx:X k with
    |false=>rfl
    |true=>simp[hx,h] at R7
   exact((cf (early k g hg h hXk)).2.2.1 b (by simp[ba.wb,hd])).1 hb
  ·subst h;simp[hi] at R7
  ·have hXk:X k=true:=by
    cases hx:X k with
    |true=>rfl
    |false=>simp[hx] at R7;omega
   exact(cf (late k g hg h hXk)).2.2.2.1 b (by simp[ba.wb,hd]) hb
 ·intro d hd
  refine rE (SK i f hf d hd) (fun k g hg hx=>?_)
  simp only[Nat.zero_add] at hx
  rcases Nat.lt_trichotomy k i with h|h|h
  ·have hp:=pair k i g f h hg hf
   have:=du hp.2 hd
   simpa using this
  ·subst h;rw[hi] at hx;cases hx
  ·have:=cf (late k g hg h hx)
   refine⟨fun hm=>this.2.2.2.2 d hd hm,fun hw=>(this.2.2.1 d (by simp[ba.wb,hd])).2 (by simp[ba.wb,hw])⟩
 ·have Sg:i<fs.length:=(List.getElem?_eq_some_iff.1 hf).1
  have tmEq:∀t:Nat,((bR X 0 fs σ).app f).tm[t]? =(bR (fun x=>X x||x==i) 0 fs σ).tm[t]? :=by
   intro t
   by_cases hd:f.dst=some t
   ·symm
    refine ng hd (j:=i) (by rw[pJ]) hf (by simp) (fun k g hg hik hxk=>?_)
    simp only[Nat.zero_add,Bool.or_eq_true,beq_iff_eq] at hxk
    have hXk:X k=true:=hxk.resolve_right (by omega)
    exact((cf (late k g hg hik hXk)).1 t hd).2
   ·rw[jZ hd]
    refine pL rfl rfl (fun k g hg R7=>?_)
    simp only[Nat.zero_add] at R7
    have:k=i:=by
     by_cases e:k=i
     ·exact e
     ·simp[e] at R7
    subst this
    rw[hf] at hg;cases hg
    exact hd
  have hpEq:∀b:Nat,((bR X 0 fs σ).app f).hp[b]? =(bR (fun x=>X x||x==i) 0 fs σ).hp[b]? :=by
   intro b
   by_cases hd:b∈wrote f.hw
   ·symm
    refine nj hd (j:=i) (by rw[pK]) hf (by simp) (fun k g hg hik hxk=>?_)
    simp only[Nat.zero_add,Bool.or_eq_true,beq_iff_eq] at hxk
    have hXk:X k=true:=hxk.resolve_right (by omega)
    intro hw
    exact((cf (late k g hg hik hXk)).2.2.1 b (by simp[ba.wb,hd])).2 (by simp[ba.wb,hw])
   ·rw[iq,eM hd]
    refine pM rfl rfl (fun k g hg R7=>?_)
    simp only[Nat.zero_add] at R7
    have:k=i:=by
     by_cases e:k=i
     ·exact e
     ·simp[e] at R7
    subst this
    rw[hf] at hg;cases hg
    exact hd
  have e1:=List.ext_getElem? tmEq
  have e2:=List.ext_getElem? hpEq
  have e3:((bR X 0 fs σ).app f).df=(bR (fun x=>X x||x==i) 0 fs σ).df:=by rw[yK,vp,vp]
  cases h1:(bR X 0 fs σ).app f
  cases h2:bR (fun x=>X x||x==i) 0 fs σ
  rw[h1] at e1 e2 e3
  rw[h2] at e1 e2 e3
  simp only at e1 e2 e3
  rw[e1,e2,e3]
end
def fF(l:Array Bool):Nat:=(l.toList.filter (·==false)).length
theorem lH:∀(m:List Bool)(i:Nat),m[i]? =some false→((m.set i true).filter (·==false)).length+1=(m.filter (·==false)).length
 |[],_,h=>by simp at h
 |x::m,0,h=>by simp at h;subst h;simp
 |
  x::m,i+1,h=>by
  have:=lH m i (by simpa using h)
  simp only[List.set_cons_succ,List.filter_cons]
  cases x<;>simp<;>simpa using this
theorem j0{l:Array Bool}{i:Nat}(h:l.getD i true=false):fF (l.setIfInBounds i true)+1=fF l:=by
 have hi:i<l.size:=by
  rcases Nat.lt_or_ge i l.size with h'|h'
  ·exact h'
  ·simp[Array.getElem?_eq_none h'] at h
 have hv:l[i]? =some false:=by
  simp[hi] at h ⊢;exact h
 unfold fF
 rw[Array.toList_setIfInBounds]
 exact lH _ i (by simpa using hv)
theorem lJ{l:Array Bool}(h:fF l=0){i:Nat}(hi:i<l.size):l.getD i false=true:=by
 unfold fF at h
 rw[List.length_eq_zero_iff,List.filter_eq_nil_iff] at h
 have:=h l[i] (by simp)
 simp[hi] at this ⊢
 exact this
theorem xu{P:Program}{gl:Ctx}{ops:Array Oper}{fs:List ba}{σ σ':St}(R9:rG ops fs=true)(hc:gG P gl ops 0 fs σ σ')(SK:∀(k:Nat)(f:ba),fs[k]? =some f→∀d∈f.fr,σ.fresh d){Q:Exit→Act→World→Prop}:
 ∀(fuel:Nat)(listed:Array Bool),listed.size=ops.size→fF listed≤fuel→
  (∀j o,ops[j]? =some o→listed.getD j false=true→∀e∈o.after.toList,Region.binds .any e=true→listed.getD e.on false=true)→
  ∀{E:Env}{a:Act}{w:World},cK gl (bR (fun x=>listed.getD x false) 0 fs σ) E a w→
   (∀E' a' w',cK gl σ' E' a' w'→Ext gl.md (Own (bR (fun x=>listed.getD x false) 0 fs σ).hp E) E w (Own σ'.hp E') E' w'→Q .normal a' w')→wpAnyIn (Wd gl) 0 P .any ops Q fuel listed a w:=by
 have hlen:fs.length=ops.size:=by
  simp only[rG,Bool.and_eq_true] at R9;exact Nat.eq_of_beq_eq_true R9.1.1
 have hedge:∀j o,ops[j]? =some o→∀e∈o.after.toList,Region.binds .any e=true→e.on<j:=by
  intro j o ho e he hb
  simp only[rG,Bool.and_eq_true,List.all_eq_true,List.mem_range] at R9
  have hj:j<ops.size:=(Array.getElem?_eq_some_iff.1 ho).1
  have:=R9.2 j hj
  unfold tH at this
  rw[show ops.toList[j]? =some o from by simpa using ho] at this
  simp only[List.all_eq_true] at this
  have:=this e he
  simp only[hb,Bool.not_true,Bool.false_or] at this
  simp[Nat.blt] at this;omega
 have done:∀listed:Array Bool,listed.size=ops.size→Region.ready .any ops listed= []→∀k,k<ops.size→listed.getD k false=true:=by
  intro listed hs hr
  have key:∀n k,k<n→k<ops.size→listed.getD k false=true:=by
   intro n
   induction n with
   |zero=>intro k hk;omega
   |
    succ n ih=>
    intro k hk hks
    cases hl:listed.getD k false with
    |true=>rfl
    |
     false=>
     exfalso
     have hm:k∈Region.ready .any ops listed:=by
      rw[mem_ready]
      refine⟨?_,ops[k],by simp[hks],?_⟩
      ·simp[hs▸hks] at hl ⊢;exact hl
      ·intro e he hb
       have Sg:=hedge k ops[k] (by simp[hks]) e (by simpa using he) hb
       exact ih e.on (by omega) (by omega)
     rw[hr] at hm;cases hm
  exact fun k hk=>key (k+1) k (by omega) hk
 have fin:∀listed:Array Bool,listed.size=ops.size→Region.ready .any ops listed= []→σ'=bR (fun x=>listed.getD x false) 0 fs σ:=by
  intro listed hs hr
  exact hc.last (fun k _ hk=>done listed hs hr k (by omega))
 intro fuel
 induction fuel with
 |
  zero=>
  intro listed hs hu hcl E a w hg hq
  have hall:∀k,k<ops.size→listed.getD k false=true:=fun k hk=>lJ (by omega) (by omega)
  have hr:Region.ready .any ops listed= []:=by
   rw[List.eq_nil_iff_forall_not_mem]
   intro k hk
   rw[mem_ready] at hk
   obtain⟨h1,o,h2,_⟩:=hk
   have Sg:k<ops.size:=(Array.getElem?_eq_some_iff.1 h2).1
   have:=hall k Sg
   simp[hs▸Sg] at h1 this
   rw[this] at h1;cases h1
  refine⟨hr,?_⟩
  have e:=fin listed hs hr
  rw[←e] at hg hq
  exact hq E a w hg (Ext.refl _ _ _)
 |
  succ fuel ih=>
  intro listed hs hu hcl E a w hg hq
  refine⟨fun hr=>?_,fun i hi=>?_⟩
  ·have e:=fin listed hs hr
   rw[←e] at hg hq
   exact hq E a w hg (Ext.refl _ _ _)
  ·rw[mem_ready] at hi
   obtain⟨h1,o,h2,h3⟩:=hi
   have Sg:i<ops.size:=(Array.getElem?_eq_some_iff.1 h2).1
   have hif:listed.getD i false=false:=by simp[hs▸Sg] at h1 ⊢;exact h1
   obtain⟨f,hf⟩:∃f,fs[i]? =some f:=⟨fs[i]'(by omega),by simp[hlen,Sg]⟩
   obtain⟨hA,hF,hR⟩:=yL R9 hc SK (X:=fun x=>listed.getD x false) hcl h2 hif (fun e he hb=>h3 e (by simpa using he) hb) hf
   have R5:=hc.nth i f hf
   simp only[Nat.zero_add] at R5
   refine R5 _ hA hF E a w hg _ Q ?_
   intro E' a' w' hg' hx
   have aA:∀x,(listed.getD x false||x==i)=(listed.setIfInBounds i true).getD x false:=by
    intro x
    by_cases e:x=i
    ·subst e;simp[hs,Sg]
    ·rw[getD_set_ne false (fun h=>e h.symm)];simp[e]
   have hfun:(fun x=>listed.getD x false||x==i)=fun x=>(listed.setIfInBounds i true).getD x false:=funext aA
   rw[hR,hfun] at hg' hx
   refine ih (listed.setIfInBounds i true) (by simp[hs]) (by have:=j0 h1;omega) ?_ hg' (fun E2 a2 w2 hg2 hx2=>hq E2 a2 w2 hg2 (hx.trans hx2))
   intro j o' ho' hj e he hb
   by_cases e':j=i
   ·subst e'
    rw[h2] at ho';cases ho'
    exact getD_set_true (h3 e (by simpa using he) hb)
   ·rw[getD_set_ne false (fun h=>e' h.symm)] at hj
    exact getD_set_true (hcl j o' ho' hj e he hb)
def rH(σ:St)(fs:List ba):Bool:=fs.all fun f=>f.fr.all fun d=>σ.oA d
theorem cK.drew{gl:Ctx}{σ:St}{E:Env}{a:Act}{w:World}(h:cK gl σ E a w):cK gl σ E a {w with drawn:=w.drawn+1}∧Ext gl.md (Own σ.hp E) E w (Own σ.hp E) E {w with drawn:=w.drawn+1}:=by
 have kp:bm E w E {w with drawn:=w.drawn+1}:=⟨fun _ _=>rfl,fun _ h=>h⟩
 refine⟨h.carry (hp:=σ.hp) kp (fun _ _=>⟨rfl,rfl,rfl⟩) ⟨fun b k hb=>RB.mono kp (fun _ _=>⟨rfl,rfl,rfl⟩) (fun _ _=>rfl) (h.hw.bh b k hb),h.hw.sep,h.hw.fo,h.hw.slt,h.hw.ik kp⟩,⟨rfl,Tp.s rfl rfl,rfl,Nat.le_refl _,fun _ _ _=>rfl,fun _ h=>h,fun _ h=>Or.inl h,fun _ h=>Or.inl h,fun _ _=>⟨rfl,rfl,rfl⟩⟩⟩
theorem yM{P:Program}{G:bH}(T:aW P G){gl:Ctx}{ops:Array Oper}{id:Nat}{fs:List ba}{σ σ':St}(R9:rG ops fs=true)(SK:rH σ fs=true)(hc:gG P gl ops 0 fs σ σ'){Q:Exit→Act→World→Prop}{E:Env}{a:Act}{w:World}(hg:cK gl σ E a w)
 (hq:∀E' a' w',cK gl σ' E' a' w'→Ext gl.md (Own σ.hp E) E w (Own σ'.hp E') E' w'→Q .normal a' w'):(Code.region id ops true).wpIn (Wd gl) 0 P Q a w:=by
 refine wpIn_region_any T.bp ?_
 have hfr':∀(k:Nat)(f:ba),fs[k]? =some f→∀d∈f.fr,σ.fresh d:=by
  intro k f hk d hd
  simp only[rH,List.all_eq_true] at SK
  exact St.nc (SK f (List.mem_of_getElem? hk) d hd)
 obtain⟨hg',hx'⟩:=hg.drew
 have hid:∀(fs:List ba)(i:Nat)(σ:St),bR (fun x=>(Array.replicate ops.size false).getD x false) i fs σ=σ:=by
  intro fs
  induction fs with
  |nil=>intro i σ;rfl
  |
   cons f fs ih=>
   intro i σ
   rw[bR]
   have:(Array.replicate ops.size false).getD i false=false:=by
    rcases Nat.lt_or_ge i ops.size with h|h<;>simp[h]
   rw[this];simp only[Bool.false_eq_true,if_false];exact ih _ _
 refine xu R9 hc hfr' ops.size _ (by simp) ?_ ?_ (E:=E) (by rw[hid];exact hg') (by rw[hid];exact fun E2 a2 w2 h1 h2=>hq E2 a2 w2 h1 (hx'.trans h2))
 ·unfold fF;simp
 ·intro j o ho hj
  have:(Array.replicate ops.size false).getD j false=false:=by
   rcases Nat.lt_or_ge j ops.size with h|h<;>simp[h]
  rw[this] at hj;cases hj
end Go.Abs
namespace Go.Abs
structure bw where
 v:AV
 hw:List (Nat×Option aj)
 fr:List Nat
 vc:List Prop
def bw.one(v:AV):bw:=⟨v,[],[],[]⟩
def bw.Kl(x:AV×List Prop):bw:=⟨x.1,[],[],x.2⟩
def AN(op:UnOp):AV→Option AV
 |
  .val .bool b=>match op with
  | .not=>some (.val .bool (!b))
  |_=>none
 |
  .val (.int k) n=>match op with
  | .neg=>some (.val (.int k) (k.wrap (0 -n)))
  | .xor=>some (.val (.int k) (aq .xor k (if k.signed then-1 else k.max) n))
  |_=>none
 |_=>none
def nU(G:bH)(s d:TypeId)(x:AV):Option AV:=
 match x,G.at s,G.at d with
 |
  .val (.int _) n,some _,some td=>match td.ty with
  | .int k=>some (.val (.int k) (k.wrap n))
  |_=>none
 |_,_,_=>none
def AV.nth:AV→Nat→Option AV
 | .cons a _,0=>some a
 | .cons _ b,n+1=>b.nth n
 |_,_=>none
def AV.FQ:AV→Bool
 | .bot| .opt _ _=>false
 |_=>true
def l8(P:Program)(G:bH)(d:Nat)(op:Op)(ev:Operand→AV)(hb:Nat→Option aj):Option bw:=
 match op with
 | .move x| .assign x=>if(ev x).FQ then some (.one (ev x)) else none
 | .alloc e=>(G.at e).map fun td=>⟨.ptr d [],[(d,some (.var td.ty td.ty.zero))],[d],[]⟩
 |
  .box e x=>match G.at e with
  |some td=>if(ev x).plain&&(ev x).bB td.ty then some ⟨.ptr d [],[(d,some (.var td.ty (ev x)))],[d],[]⟩ else none
  |none=>none
 | .load t a=>(dJ G hb t (ev a)).map .one
 | .store t a x=>if(ev x).plain then(kU G hb t (ev a) (ev x)).map fun y=>⟨.bot,[(y.1,some y.2)],[],[]⟩ else none
 |
  .nilCheck x=>match ev x with
  | .ptr b p=>some (.one (.ptr b p))
  | .ec t y=>some (.one (.ec t y))
  |_=>none
 | .binOp o t x y _=>(oM P t o (ev x) (ev y)).map .Kl
 | .unOp o _ x=>(AN o (ev x)).map .one
 | .convert s t x=>(nU G s t (ev x)).map .one
 | .fieldAddr t x i=>(dK G hb t i (ev x)).map .one
 | .indexAddr t x i=>(fb G hb t (ev x) (ev i)).map .Kl
 |
  .extract x i=>match ev x with
  | .bU l=>(l.nth i).map .one
  |_=>none
 |
  .pick c x y=>match ev c with
  | .val .bool true=>if(ev x).plain then some (.one (ev x)) else none
  | .val .bool false=>if(ev y).plain then some (.one (ev y)) else none
  |_=>none
 | .call {callee:=.builtin .len,args:=⟨[x]⟩,argTypes:=⟨[t]⟩}=>(tD G hb t (ev x)).map .one
 |_=>none
def xv(op:Op)(ev:Operand→AV):List Nat:=
 match op with
 | .load _ a| .store _ a _| .fieldAddr _ a _| .indexAddr _ a _| .slice _ a _ _ _| .convert _ _ a| .lookup _ a _ _| .mapUpdate _ a _ _| .insert _ a _ _=>(ev a).ids
 | .call c=>c.operands.toList.flatMap fun x=>(ev x).ids
 |_=>[]
def bu(P:Program)(gl:Ctx)(σ:St)(E:Env)(a:Act)(w:World)(o:Oper)(r:bw):Prop:=
 ∃nx v w' E',(execOp a.eval o).run P w= .ok nx w'∧(nx= .value v∨(nx= .skip∧v=undef))∧cK gl {σ with hp:=aA σ.hp r.hw} E' a w'∧RV E' w' r.v v∧
  Ext gl.md (Own σ.hp E) E w (Own (aA σ.hp r.hw) E') E' w'
theorem bu.same{P:Program}{gl:Ctx}{σ:St}{E:Env}{a:Act}{w:World}{o:Oper}{x:AV}{vc:List Prop}(h:cK gl σ E a w){v:Value}(hr:(execOp a.eval o).run P w= .ok (.value v) w)(hv:RV E w x v):bu P gl σ E a w o ⟨x,[],[],vc⟩:=
 ⟨_,v,w,E,hr,Or.inl rfl,h,hv,Ext.refl _ _ _⟩
theorem uE{P:Program}{E:Env}{w:World}{op:UnOp}{x r:AV}{vx:Value}(hx:RV E w x vx)(h:AN op x=some r):∃v,(Op.unary op vx).run P w= .ok v w∧RV E w r v:=by
 unfold AN at h
 split at h
 ·have:=RV.cI hx;subst this
  split at h<;>cases h
  exact⟨_,by simp[Op.unary],RV.bool⟩
 ·obtain⟨rfl,_⟩:=RV.bM hx
  split at h<;>cases h
  ·exact⟨_,by simp[Op.unary,Op.intArith],RV.int (cp _ _)⟩
  ·exact⟨_,by simp[Op.unary,Op.intBits];rfl,RV.int (cp _ _)⟩
 ·cases h
theorem aW.intOf{P:Program}{G:bH}(T:aW P G){t:TypeId}{td:TD}(h:G.at t=some td){k:IntKind}(hs:td.ty= .int k):P.underlying t=some (.int k):=by
 obtain⟨ii,d,_,h1,_,h2,_⟩:=T.info h
 have Sc:=cn h2
 rw[h1]
 cases hd:d with
 |int k'=>subst hd;simp only[a8] at h2;have:=Ty.af h2;rw[hs] at this;cases this;rfl
 |struct fs=>subst hd;simp only[cm] at Sc;rw[hs] at Sc;cases Sc
 |array n e=>subst hd;simp only[cm] at Sc;rw[hs] at Sc;cases Sc
 |
  slice e=>
  subst hd
  simp only[a8] at h2
  rw[Bool.or_eq_true] at h2
  rcases h2 with h2|h2
  ·have:=Ty.af h2;rw[hs] at this;cases this
  simp only[Bool.and_eq_true] at h2
  obtain⟨_,h2⟩:=h2
  split at h2
  ·rename_i e1 _ _;rw[hs] at e1;cases e1
  ·cases h2
 |map k e=>subst hd;simp only[a8,Bool.and_eq_true] at h2;have:=Ty.af h2.1.1;rw[hs] at this;cases this
 |
  _=>
  subst hd
  simp only[a8] at h2
  first
   |(have:=Ty.af h2;rw[hs] at this;cases this)
   |cases h2
theorem od{P:Program}{G:bH}(T:aW P G){E:Env}{w:World}{s d:TypeId}{x r:AV}{vx:Value}(hx:RV E w x vx)(h:nU G s d x=some r):∃v,(convert s d vx).run P w= .ok v w∧RV E w r v:=by
 unfold nU at h
 split at h
 ·rename_i k n ts td hs hd
  split at h
  ·rename_i k' hk
   cases h
   obtain⟨rfl,_⟩:=RV.bM hx
   obtain⟨_,ds,_,h1,_⟩:=T.info hs
   have h2:=T.intOf hd hk
   exact⟨_,by simp[convert,underlying,h1,h2,Conv.intToInt],RV.int (cp _ _)⟩
  ·cases h
 ·cases h
theorem RT.nth{E:Env}{w:World}:∀{l:AV}{vs:List Value}{i:Nat}{x:AV},RT E w l vs→l.nth i=some x→∃v,vs[i]? =some v∧cZ E w x v:=by
 intro l
 induction l with
 |
  cons a b Sn Sk=>
  intro vs i x h hn
  cases vs with
  |nil=>exact h.elim
  |
   cons v vs=>
   cases i with
   |zero=>cases hn;exact⟨v,rfl,h.1⟩
   |succ i=>obtain⟨u,h1,h2⟩:=Sk h.2 hn;exact⟨u,by simpa using h1,h2⟩
 |_=>intro vs i x h hn;simp[AV.nth] at hn
theorem r9{P:Program}{E:Env}{w:World}{op:BinOp}{t:TypeId}{x y:Operand}{vx vy:Value}{ax ay r:AV}{vc:List Prop}(hx:RV E w ax vx)(hy:RV E w ay vy)(h:oM P t op ax ay=some (r,vc)):(eqGuard op t x y vx vy).run P w= .ok () w:=by
 unfold oM at h
 split at h
 ·obtain⟨rfl,_⟩:=RV.bM hx
  obtain⟨rfl,_⟩:=RV.bM hy
  unfold eqGuard;split<;>simp
 ·have:=RV.cI hx;subst this
  have:=RV.cI hy;subst this
  unfold eqGuard;split<;>simp
 ·obtain⟨rfl,_⟩:=RV.eF hx
  obtain⟨rfl,_⟩:=RV.eF hy
  unfold eqGuard;split<;>simp
 ·cases h
theorem DH{P:Program}{G:bH}(T:aW P G){gl:Ctx}{σ:St}{E:Env}{a:Act}{w:World}(h:cK gl σ E a w){o:Oper}{d:Nat}{ev:Operand→AV}{hb:Nat→Option aj}(hB:HB hb σ.hp){r:bw}
 (Sj:∀x∈o.op.operands.toList,RV E w (ev x) (a.eval x)) (hids:∀x∈o.op.operands.toList,∀b∈(ev x).ids,b∈σ.ids) (he:l8 P G d o.op ev hb=some r) (Sm:dT r.vc) (SK:∀b∈r.fr,σ.fresh b):bu P gl σ E a w o r:=by
 unfold l8 at he
 split at he
 ·rename_i x R5
  split at he
  ·rename_i hp
   cases he
   exact bu.same h (v:=a.eval x) (by simp[execOp,R5]) (Sj x (by simp[R5,Op.operands]))
  ·cases he
 ·rename_i x R5
  split at he
  ·rename_i hp
   cases he
   exact bu.same h (v:=a.eval x) (by simp[execOp,R5]) (Sj x (by simp[R5,Op.operands]))
  ·cases he
 ·rename_i e R5
  simp only[Option.map_eq_some_iff] at he
  obtain⟨td,htd,rfl⟩:=he
  obtain⟨v,w',E',h1,h2,h3,h4⟩:=A6 T h (SK d (by simp)) htd (.tuple #[])
  exact⟨_,v,w',E',by simp[execOp,R5,h1],Or.inl rfl,h2,h3,h4⟩
 ·rename_i e x R5
  split at he
  ·rename_i td htd
   split at he
   ·rename_i hc
    cases he
    simp only[Bool.and_eq_true] at hc
    have hf:=SK d (by simp)
    obtain⟨v,w',E',h1,h2,h3,h4⟩:=FP (P:=P) (e:=e) h hf (RV.mq hc.1 (Sj x (by simp[R5,Op.operands]))) hc.2 (fun hm=>hf.1 (hids x (by simp[R5,Op.operands]) d hm))
    exact⟨_,v,w',E',by simp[execOp,R5,h1],Or.inl rfl,h2,h3,h4⟩
   ·cases he
  ·cases he
 ·rename_i t x R5
  simp only[Option.map_eq_some_iff] at he
  obtain⟨u,hu,rfl⟩:=he
  obtain⟨v,h1,h2⟩:=gS T h.hw hB (Sj x (by simp[R5,Op.operands])) hu
  exact bu.same h (v:=v) (by simp[execOp,R5,h1]) h2
 ·rename_i t x y R5
  split at he
  ·rename_i hp
   simp only[Option.map_eq_some_iff] at he
   obtain⟨⟨b,k⟩,hk,rfl⟩:=he
   obtain⟨w',h1,h2,h3⟩:=xp T h hB (Sj x (by simp[R5,Op.operands])) (RV.mq hp (Sj y (by simp[R5,Op.operands]))) hk
   exact⟨_,undef,w',E,by simp[execOp,R5,h1],Or.inr ⟨rfl,rfl⟩,h2,trivial,h3⟩
  ·cases he
 ·rename_i x R5
  split at he
  ·rename_i b p hx
   cases he
   have hr:=Sj x (by simp[R5,Op.operands])
   rw[hx] at hr
   obtain⟨g,hg,e,_⟩:=RV.atom rfl hr
   simp at e
   exact bu.same h (v:=a.eval x) (by simp[execOp,R5,e]) hr
  ·rename_i t y hx
   cases he
   have hr:=Sj x (by simp[R5,Op.operands])
   rw[hx] at hr
   obtain⟨b,o',cs,e,_⟩:=RV.atom rfl hr
   simp at e
   exact bu.same h (v:=a.eval x) (by simp[execOp,R5,e]) hr
  ·cases he
 ·rename_i bo t x y t2 R5
  simp only[Option.map_eq_some_iff] at he
  obtain⟨⟨u,vc⟩,hu,rfl⟩:=he
  obtain⟨v,h1,h2⟩:=qL (P:=P) (t:=t) (Sj x (by simp[R5,Op.operands])) (Sj y (by simp[R5,Op.operands])) hu Sm
  have hgd:=r9 (P:=P) (t:=t) (x:=x) (y:=y) (Sj x (by simp[R5,Op.operands])) (Sj y (by simp[R5,Op.operands])) hu
  exact bu.same h (v:=v) (by simp[execOp,R5,hgd,h1]) h2
 ·rename_i uo t x R5
  simp only[Option.map_eq_some_iff] at he
  obtain⟨u,hu,rfl⟩:=he
  obtain⟨v,h1,h2⟩:=uE (P:=P) (Sj x (by simp[R5,Op.operands])) hu
  exact bu.same h (v:=v) (by simp[execOp,R5,h1]) h2
 ·rename_i s t x R5
  simp only[Option.map_eq_some_iff] at he
  obtain⟨u,hu,rfl⟩:=he
  obtain⟨v,h1,h2⟩:=od T (Sj x (by simp[R5,Op.operands])) hu
  exact bu.same h (v:=v) (by simp[execOp,R5,h1]) h2
 ·rename_i t x i R5
  simp only[Option.map_eq_some_iff] at he
  obtain⟨u,hu,rfl⟩:=he
  obtain⟨v,h1,h2⟩:=hO T h.hw hB (Sj x (by simp[R5,Op.operands])) hu
  exact bu.same h (v:=v) (by simp[execOp,R5,h1]) h2
 ·rename_i t x i R5
  simp only[Option.map_eq_some_iff] at he
  obtain⟨⟨u,vc⟩,hu,rfl⟩:=he
  obtain⟨v,h1,h2⟩:=ic T h.hw hB (Sj x (by simp[R5,Op.operands])) (Sj i (by simp[R5,Op.operands])) hu Sm
  exact bu.same h (v:=v) (by simp[execOp,R5,h1]) h2
 ·rename_i x i R5
  split at he
  ·rename_i l hx
   simp only[Option.map_eq_some_iff] at he
   obtain⟨u,hu,rfl⟩:=he
   have hr:=Sj x (by simp[R5,Op.operands])
   rw[hx] at hr
   obtain⟨vs,e,hr⟩:=hr
   obtain⟨v,h1,h2⟩:=RT.nth hr hu
   exact bu.same h (v:=v) (by simp[execOp,R5,Instr.extract,e];rw[show vs[i]? =some v from by simpa using h1];simp) (RV.fD h2)
  ·cases he
 ·rename_i c x y R5
  split at he
  ·rename_i hc
   split at he
   ·cases he
    have hr:=Sj c (by simp[R5,Op.operands])
    rw[hc] at hr
    have hb:=RV.cI hr
    exact bu.same h (v:=a.eval x) (by simp[execOp,R5,hb,asBool]) (Sj x (by simp[R5,Op.operands]))
   ·cases he
  ·rename_i hc
   split at he
   ·cases he
    have hr:=Sj c (by simp[R5,Op.operands])
    rw[hc] at hr
    have hb:=RV.cI hr
    exact bu.same h (v:=a.eval y) (by simp[execOp,R5,hb,asBool]) (Sj y (by simp[R5,Op.operands]))
   ·cases he
  ·cases he
 ·rename_i x t R5
  simp only[Option.map_eq_some_iff] at he
  obtain⟨u,hu,rfl⟩:=he
  obtain⟨v,h1,h2⟩:=ru T (ty:=o.type) h.hw hB (Sj x (by simp[R5,Op.operands,Call.operands])) hu
  refine bu.same h (v:=v) ?_ h2
  simp[execOp,R5,resolve,invoke,builtin,h1]
 ·cases he
def qF(P:Program)(gl:Ctx)(σ:St)(E:Env)(a:Act)(w:World)(o:Oper)(r:bw):Prop:=
 ∀(K:Act→World→Prop)(Q:Exit→Act→World→Prop),(∀E' v w',cK gl {σ with hp:=aA σ.hp r.hw} E' a w'→RV E' w' r.v v→Ext gl.md (Own σ.hp E) E w (Own (aA σ.hp r.hw) E') E' w'→K (a.put o.dst v) w')→o.wpIn (Wd gl) 0 P a w K Q
theorem bu.to{P:Program}{gl:Ctx}{σ:St}{E:Env}{a:Act}{w:World}{o:Oper}{r:bw}(h:bu P gl σ E a w o r)(hnd:∀c,o.op≠.defer c):qF P gl σ E a w o r:=by
 intro K Q hk
 obtain⟨nx,v,w',E',h1,h2,h3,h4,h5⟩:=h
 unfold Oper.wpIn
 refine⟨fun _ _=>trivial,?_⟩
 rw[Oper.semAt_eq _ _ _ hnd,h1]
 rcases h2 with h2|⟨h2,h2'⟩
 ·subst h2;exact hk E' v w' h3 h4 h5
 ·subst h2;subst h2';exact hk E' undef w' h3 h4 h5
def aH(E:Env)(w:World):List AV→List Value→Prop
 |[],[]=>True
 |x::xs,v::vs=>RV E w x v∧aH E w xs vs
 |_,_=>False
inductive sa where
 |ret (x:AV)
 |Qt (x:AV)
def J5(E:Env)(w:World):sa→Ending→Prop
 | .ret x,.returned v=>RV E w x v
 | .Qt x,.panicked chain=>∃u,chain= [{v:=u,recovered:=false}]∧cZ E w x u
 |_,_=>False
def bW(P:Program)(gl:Ctx)(f:FuncId)(args:List AV)(H:List (Option aj))(r:sa)(H':List (Option aj)):Prop:=
 ∀E w vs,aH E w args vs→HW gl E w H→Calls P f vs.toArray w (fun e w'=>∃E',J5 E' w' r e∧HW gl E' w' H'∧Ext gl.md (Own H E) E w (Own H' E') E' w')
theorem aH.get{E:Env}{w:World}:∀{xs:List AV}{vs:List Value},aH E w xs vs→xs.length=vs.length∧∀(i:Nat)(x:AV)(v:Value),xs[i]? =some x→vs[i]? =some v→RV E w x v
 |[],[],_=>⟨rfl,fun i x v h=>by simp at h⟩
 |[],_::_,h=>h.elim
 |_::_,[],h=>h.elim
 |
  x::xs,v::vs,⟨h1,h2⟩=>by
  obtain⟨e,hh⟩:=aH.get h2
  refine⟨by simp[e],?_⟩
  intro i y u hy hu
  cases i with
  |zero=>simp at hy hu;subst hy;subst hu;exact h1
  |succ i=>exact hh i y u (by simpa using hy) (by simpa using hu)
def Fc(P:Program)(gl:Ctx)(f:FuncId)(args:List AV)(H:List (Option aj))(r:sa)(H':List (Option aj)):Prop:=
 (∀vs w,(callFunc f vs).run P w= .ok (.enter f vs) w)∧bW P gl f args H r H'
def Fy(P:Program)(gl:Ctx)(l:Nat)(args:List AV)(H:List (Option aj))(r:sa)(H':List (Option aj)):Prop:=
 ∀E w vs,aH E w args vs→HW gl E w H→∃fn tmps assign body,(Instr.yield l vs.toArray).run P w= .ok (.round l fn tmps assign body) w∧
  RoundIn Fence.wide 0 P l fn tmps assign body w (fun e w'=>∃E',J5 E' w' r e∧HW gl E' w' H'∧Ext gl.md (Own H E) E w (Own H' E') E' w')
def Q7(P:Program)(gl:Ctx)(fn:Fn)(args:List AV)(H:List (Option aj))(r:sa)(H':List (Option aj)):Prop:=
 match fn with
 | .func f=>Fc P gl f args H r H'
 | .yield l=>Fy P gl l args H r H'
 |_=>False
def N2:Fn→AV→AV→Bool
 | .func _,_,_=>true
 | .yield _,.nil,.nil=>true
 |_,_,_=>false
def AV.toList:AV→List AV
 | .cons a b=>a::b.toList
 |_=>[]
def dE(hb:Nat→Option aj)(b:Nat):Option ((_:Nat)×(t:Ty)×List t.den):=
 match hb b with
 |some (.row _ bs t xs)=>some ⟨bs,t,xs⟩
 |_=>none
def view(hb:Nat→Option aj):AV→Bool→Ty→Option (AV×List Nat)
 | .val t x,_,_=>some (.val t x,[])
 | .dS,_,.slice bs t=>some (.val (.slice bs t) [],[])
 |
  .own b,_,_=>match dE hb b with
  |some ⟨bs,t,xs⟩=>some (.val (.slice bs t) xs,[b])
  |none=>none
 |
  .mo b lo len,_,_=>match dE hb b with
  |some ⟨bs,t,xs⟩=>some (.val (.slice bs t) ((xs.drop lo).take len),[b])
  |none=>none
 |
  .ka b p lo len,_,.slice bs _=>match hb b with
  |
   some (.var _ v)=>match v.get p with
   |some (.val (.arr n t) xs)=>if Nat.ble (n*bs) az&&Nat.ble n az then some (.val (.slice bs t) ((List.drop lo xs).take len),[b]) else none
   |_=>none
  |_=>none
 |
  .ptr b p,_,_=>match hb b with
  |
   some k=>match kH k p,(im k).sub p with
   |
    some u,some s=>match u.bc s with
    |some y=>some (.ec s y,[b])
    |none=>none
   |_,_=>none
  |none=>none
 | .ec t x,_,_=>some (.ec t x,[])
 |
  .func fn fs cs,_,_=>match view hb fs true .unit,view hb cs true .unit with
  |some (f,l),some (c,m)=>if f.atoms&&c.atoms then some (.func fn f c,l++m) else none
  |_,_=>none
 |
  .cons a b,true,_=>match view hb a false .unit,view hb b true .unit with
  |some (x,l),some (y,m)=>some (.cons x y,l++m)
  |_,_=>none
 |
  .cons a b,false,.pair s t=>match view hb a false s,view hb b false t with
  |some (.val s' x,l),some (.val t' y,m)=>some (.val (.pair s' t') (x,y),l++m)
  |_,_=>none
 | .nil,true,_=>some (.nil,[])
 | .nil,false,_=>some (.val .unit (),[])
 | .iw,_,_=>some (.iw,[])
 | .ix,_,_=>some (.ix,[])
 |_,_,_=>none
def Env.bZ(E:Env)(l:List Nat):Env:={E with S:=fun g=>E.S g∨∃b∈l,E.g b=some g}
theorem Env.dF{E:Env}{w:World}(l:List Nat):bm E w (E.bZ l) w:=⟨fun _ _=>rfl,fun _ h=>Or.inl h⟩
theorem Env.fY{E:Env}{w:World}{l m:List Nat}(h:∀b∈l,b∈m):bm (E.bZ l) w (E.bZ m) w:=
 ⟨fun _ _=>rfl,fun _g hg=>hg.imp id (fun⟨b,hb,e⟩=>⟨b,h b hb,e⟩)⟩
theorem lj.take{w:World}{a:Addr}{cs:List Value}(h:lj w a cs)(n:Nat):lj w a (cs.take n):=by
 intro j v hj
 rw[List.getElem?_take] at hj
 split at hj
 ·exact h j v hj
 ·cases hj
theorem aC.drop{α:Type}{r:List Value→α→Prop}{n:Nat}(hn:∀vs x,r vs x→vs.length=n):∀{xs:List α}{vs:List Value}(k:Nat),aC r vs xs→aC r (vs.drop (k*n)) (xs.drop k)
 |xs,vs,0,h=>by simpa using h
 |[],vs,k+1,h=>by simp[aC] at h;subst h;simp[aC]
 |
  x::xs,vs,k+1,⟨v1,v2,e,h1,h2⟩=>by
  subst e
  have:=aC.drop hn k h2
  rw[List.drop_succ_cons,List.drop_append,List.drop_of_length_le (by rw[hn _ _ h1,Nat.add_mul];omega),List.nil_append,hn _ _ h1]
  rw[show(k+1)*n -n=k*n from by rw[Nat.add_mul];omega]
  exact this
theorem aC.take{α:Type}{r:List Value→α→Prop}{n:Nat}(hn:∀vs x,r vs x→vs.length=n):∀{xs:List α}{vs:List Value}(k:Nat),aC r vs xs→aC r (vs.take (k*n)) (xs.take k)
 |xs,vs,0,h=>by simp[aC]
 |[],vs,k+1,h=>by simp[aC] at h;subst h;simp[aC]
 |
  x::xs,vs,k+1,⟨v1,v2,e,h1,h2⟩=>by
  subst e
  have:=aC.take hn k h2
  rw[List.take_succ_cons]
  refine⟨v1,v2.take (k*n),?_,h1,this⟩
  rw[List.take_append,List.take_of_length_le (by rw[hn _ _ h1,Nat.add_mul];omega),hn _ _ h1]
  congr 2
  rw[Nat.add_mul];omega
theorem aC.part{w:World}{S:Nat→Prop}{t:Ty}{xs:List t.den}{g o:Nat}{cs:List Value}(hr:lj w ⟨g,o,none⟩ cs)(h:aC (Rel w S t) cs xs)(lo len:Nat):
 ∃SE,lj w ⟨g,o+lo*t.size,none⟩ SE∧aC (Rel w S t) SE ((xs.drop lo).take len):=
 ⟨_,hr.sub (lo*t.size) (len*t.size),aC.take (fun _ _ h=>Rel.len h) len (aC.drop (fun _ _ h=>Rel.len h) lo h)⟩
end Go.Abs
namespace Go.Abs
theorem gP{hb:Nat→Option aj}{b bs:Nat}{t:Ty}{xs:List t.den}(h:dE hb b=some ⟨bs,t,xs⟩):∃e,hb b=some (.row e bs t xs):=by
 unfold dE at h
 split at h
 ·rename_i e bs' t' xs' hk
  cases h
  exact⟨e,hk⟩
 ·cases h
theorem kY{gl:Ctx}{E:Env}{w:World}{hp:List (Option aj)}(hw:HW gl E w hp){hb:Nat→Option aj}(hB:HB hb hp):∀{x:AV}{m:Bool}{t:Ty}{y:AV}{l:List Nat}{vs:List Value},view hb x m t=some (y,l)→RC E w x vs→RC (E.bZ l) w y vs:=by
 intro x
 induction x with
 |val t x=>intro m u y l vs h hr;simp only[view,Option.some.injEq,Prod.mk.injEq] at h;obtain⟨rfl,rfl⟩:=h;exact RC.mono (Env.dF []) (fun b hb=>by cases hb) (a:=.val t x) hr
 |
  dS=>
  intro m u y l vs h hr
  cases u with
  |
   slice bs t=>
   cases m<;>(simp only[view,Option.some.injEq,Prod.mk.injEq] at h;obtain⟨rfl,rfl⟩:=h;exact⟨none,0,by simpa[RC] using hr,Nat.le_refl _,by simp,by simp,Or.inl rfl⟩)
  |_=>cases m<;>simp[view] at h
 |
  own b=>
  intro m u y l vs h hr
  have h':(match dE hb b with|some ⟨bs,t,xs⟩=>some (AV.val (.slice bs t) xs,[b])|none=>none)=some (y,l):=by cases m<;>cases u<;>exact h
  split at h'
  ·rename_i bs t xs hv
   cases h'
   obtain⟨e,hk⟩:=gP hv
   obtain⟨h1,h2,h3,h4,a,cap,h5,h6,h7⟩:=hw.bh b _ (hB b _ hk)
   obtain⟨hr,_⟩:=hr
   rw[h5] at hr
   rcases h7 with⟨h7,h8,h9⟩|⟨g,c,h7,h8,h9,SW,Sy,h12⟩
   ·subst h9;obtain⟨rfl,rfl⟩:=h7
    exact⟨none,0,hr,by simp,h2,h3,Or.inl rfl⟩
   ·refine⟨a,cap,hr,Sy,h2,h3,Or.inr ⟨g,0,_,h8,Or.inr ⟨b,by simp,h7⟩,?_,aC.mono (fun _ _ h=>Rel.mono (Env.dF [b]).w (Env.dF [b] (w:=w)).S h) h12⟩⟩
    have:=lj.of_heap h9 0 (xs.length*t.size)
    simpa using this
  ·cases h'
 |
  mo b lo len=>
  intro m u y l vs h hr
  have h':(match dE hb b with|some ⟨bs,t,xs⟩=>some (AV.val (.slice bs t) ((xs.drop lo).take len),[b])|none=>none)=some (y,l):=by cases m<;>cases u<;>exact h
  split at h'
  ·rename_i bs t xs hv
   cases h'
   obtain⟨e,hk⟩:=gP hv
   obtain⟨h1,h2,h3,h4,a,cap,h5,h6,h7⟩:=hw.bh b _ (hB b _ hk)
   obtain⟨a',c',n,tt,r1,r2,r3,r4,a2,r5,r6⟩:=hr
   rw[h1] at r1;cases r1
   rw[h5] at r2;cases r2
   have hlen:((xs.drop lo).take len).length=len:=by simp;omega
   have hb1:len*bs≤az:=Nat.le_trans (Nat.mul_le_mul_right _ (by omega)) h2
   refine⟨_,_,by rw[hlen];exact r5,by rw[hlen];omega,by rw[hlen];exact hb1,by rw[hlen];omega,?_⟩
   rcases Nat.eq_zero_or_pos len with hz|hz
   ·subst hz;exact Or.inl (by simp)
   ·rcases h7 with⟨h7,h8,h9⟩|⟨g,c,h7,h8,h9,SW,Sy,h12⟩
    ·subst h9;simp at r3;omega
    ·subst h8
     have hr0:=lj.of_heap h9 0 (xs.length*t.size)
     simp only[List.drop_zero] at hr0
     obtain⟨SE,q1,q2⟩:=aC.part hr0 h12 lo len
     refine Or.inr ⟨g,0+lo*t.size,SE,?_,Or.inr ⟨b,by simp,h7⟩,q1,aC.mono (fun _ _ h=>Rel.mono (Env.dF [b]).w (Env.dF [b] (w:=w)).S h) q2⟩
     rcases r6 with r6|r6
     ·omega
     ·rw[r6]
      simp only[Option.map_some,Option.some.injEq]
      unfold Addr.add;split<;>simp_all
  ·cases h'
 |
  ka b p lo len=>
  intro m u y l vs h hr
  cases u with
  |
   slice bs u=>
   have h':(match hb b with
    |
     some (.var _ v)=>match v.get p with
     |some (.val (.arr n t) xs)=>if Nat.ble (n*bs) az&&Nat.ble n az then some (AV.val (.slice bs t) ((List.drop lo xs).take len),[b]) else none
     |_=>none
    |_=>none)=some (y,l):=by cases m<;>exact h
   split at h'
   ·rename_i tt v hk
    split at h'
    ·rename_i n t xs hv
     split at h'
     ·rename_i hc
      cases h'
      simp only[Bool.and_eq_true] at hc
      have hc1:=Nat.le_of_ble_eq_true hc.1
      have hc2:=Nat.le_of_ble_eq_true hc.2
      obtain⟨n2,t2,r1,r2,r3,a,cap,e,r4,r5⟩:=hr
      have hkb:=hw.bh b _ (hB b _ hk)
      obtain⟨g,s,cs,q1,q2,q3,q4,q5⟩:=m8 hkb r2 (u:=.val (.arr n t) xs) hv
      rw[r1] at q2;cases q2
      have:=Ty.af (by simpa[AV.bB] using q3)
      cases this
      obtain⟨q5a,q5b⟩:=q5
      have hlen:((List.drop lo xs).take len).length=len:=by simp;omega
      have hb1:len*bs≤az:=Nat.le_trans (Nat.mul_le_mul_right _ (by omega)) hc1
      refine⟨a,cap,by rw[hlen];exact e,by rw[hlen];exact r4,by rw[hlen];exact hb1,by rw[hlen];omega,?_⟩
      rcases r5 with r5|⟨g',r5,r6⟩
      ·subst r5;exact Or.inl (by simp)
      ·rw[q1] at r5;cases r5
       obtain⟨SE,z1,z2⟩:=aC.part q4 q5b lo len
       exact Or.inr ⟨g,_,SE,r6,Or.inr ⟨b,by simp,q1⟩,z1,aC.mono (fun _ _ h=>Rel.mono (Env.dF [b]).w (Env.dF [b] (w:=w)).S h) z2⟩
     ·cases h'
    ·cases h'
   ·cases h'
  |_=>cases m<;>simp[view] at h
 |
  ptr b p=>
  intro m u y l vs h hr
  have h':(match hb b with
   |
    some k=>match kH k p,(im k).sub p with
    |
     some u,some s=>match u.bc s with
     |some y=>some (AV.ec s y,[b])
     |none=>none
    |_,_=>none
   |none=>none)=some (y,l):=by cases m<;>cases u<;>exact h
  split at h'
  ·rename_i k hk
   split at h'
   ·rename_i u' s hu hs
    split at h'
    ·rename_i z hz
     cases h'
     obtain⟨g,r1,r2,r3⟩:=hr
     obtain⟨g',s',cs,q1,q2,q3,q4,q5⟩:=m8 (hw.bh b _ (hB b _ hk)) r3 hu
     rw[r1] at q1;cases q1
     exact⟨g,_,cs,r2,Or.inr ⟨b,by simp,r1⟩,q4,Rel.mono (Env.dF [b]).w (Env.dF [b] (w:=w)).S (RC.bc hz q5)⟩
    ·cases h'
   ·cases h'
  ·cases h'
 |
  ec t x=>
  intro m u y l vs h hr
  have h':some (AV.ec t x,([]:List Nat))=some (y,l):=by cases m<;>cases u<;>exact h
  cases h'
  exact RC.mono (Env.dF []) (fun b hb=>by cases hb) hr
 |
  func fn fs cs Sn Sk=>
  intro m u y l vs h hr
  have h':(match view hb fs true .unit,view hb cs true .unit with
   |some (f,l),some (c,m)=>if f.atoms&&c.atoms then some (AV.func fn f c,l++m) else none
   |_,_=>none)=some (y,l):=by cases m<;>cases u<;>exact h
  split at h'
  ·rename_i f l1 c l2 hf hc
   split at h'
   ·rename_i ha
    cases h'
    simp only[Bool.and_eq_true] at ha
    obtain⟨f',c',e,r1,r2,r3,r4⟩:=hr
    have q1:=RC.mono (Env.fY (by simp;intro b h;exact Or.inl h):bm (E.bZ l1) w (E.bZ (l1++l2)) w) (fun _ _=>⟨rfl,rfl,rfl⟩) (Sn hf r1)
    have q2:=RC.mono (Env.fY (by simp;intro b h;exact Or.inr h):bm (E.bZ l2) w (E.bZ (l1++l2)) w) (fun _ _=>⟨rfl,rfl,rfl⟩) (Sk hc r2)
    exact⟨f',c',e,q1,q2,ha.1,ha.2⟩
   ·cases h'
  ·cases h'
 |
  cons a b Sn Sk=>
  intro m u y l vs h hr
  obtain⟨v1,v2,e,r1,r2⟩:=hr
  cases m with
  |
   true=>
   have h':(match view hb a false .unit,view hb b true .unit with
    |some (x,l),some (y,m)=>some (AV.cons x y,l++m)
    |_,_=>none)=some (y,l):=by cases u<;>exact h
   split at h'
   ·rename_i x l1 z l2 h1 h2
    cases h'
    have q1:=RC.mono (Env.fY (by simp;intro b h;exact Or.inl h):bm (E.bZ l1) w (E.bZ (l1++l2)) w) (fun _ _=>⟨rfl,rfl,rfl⟩) (Sn h1 r1)
    have q2:=RC.mono (Env.fY (by simp;intro b h;exact Or.inr h):bm (E.bZ l2) w (E.bZ (l1++l2)) w) (fun _ _=>⟨rfl,rfl,rfl⟩) (Sk h2 r2)
    exact⟨v1,v2,e,q1,q2⟩
   ·cases h'
  |
   false=>
   cases u with
   |
    pair s t=>
    simp only[view] at h
    split at h
    ·rename_i s' x l1 t' z l2 h1 h2
     cases h
     have q1:=RC.mono (Env.fY (by simp;intro b h;exact Or.inl h):bm (E.bZ l1) w (E.bZ (l1++l2)) w) (fun _ _=>⟨rfl,rfl,rfl⟩) (Sn h1 r1)
     have q2:=RC.mono (Env.fY (by simp;intro b h;exact Or.inr h):bm (E.bZ l2) w (E.bZ (l1++l2)) w) (fun _ _=>⟨rfl,rfl,rfl⟩) (Sk h2 r2)
     exact⟨v1,v2,e,q1,q2⟩
    ·cases h
   |_=>simp[view] at h
 |
  nil=>
  intro m u y l vs h hr
  cases m with
  |true=>
   have h':some (AV.nil,([]:List Nat))=some (y,l):=by cases u<;>exact h
   cases h';exact hr
  |false=>
   have h':some (AV.val .unit (),([]:List Nat))=some (y,l):=by cases u<;>exact h
   cases h';exact hr
 |iw=>
  intro m u y l vs h hr;have h':some (AV.iw,([]:List Nat))=some (y,l):=by cases m<;>cases u<;>exact h
  cases h';exact hr
 |ix=>
  intro m u y l vs h hr;have h':some (AV.ix,([]:List Nat))=some (y,l):=by cases m<;>cases u<;>exact h
  cases h';exact hr
 |_=>intro m u y l vs h hr;cases m<;>cases u<;>simp[view] at h
theorem ir{hb:Nat→Option aj}{x y:AV}{t:Ty}{l:List Nat}(h:view hb x false t=some (y,l)):y.isAgg=x.isAgg:=by
 cases x with
 |val t x=>simp only[view,Option.some.injEq,Prod.mk.injEq] at h;rw[←h.1]
 |dS=>cases t<;>simp[view] at h;rw[←h.1];rfl
 |
  own b=>
  have h':(match dE hb b with|some ⟨bs,t,xs⟩=>some (AV.val (.slice bs t) xs,[b])|none=>none)=some (y,l):=by cases t<;>exact h
  split at h'<;>cases h';rfl
 |
  mo b lo len=>
  have h':(match dE hb b with|some ⟨bs,t,xs⟩=>some (AV.val (.slice bs t) ((xs.drop lo).take len),[b])|none=>none)=some (y,l):=by cases t<;>exact h
  split at h'<;>cases h';rfl
 |
  ka b p lo len=>
  cases t with
  |
   slice bs t=>
   simp only[view] at h
   split at h
   ·split at h
    ·split at h
     ·cases h;rfl
     ·cases h
    ·cases h
   ·cases h
  |_=>simp[view] at h
 |
  ptr b p=>
  have h':(match hb b with
   |
    some k=>match kH k p,(im k).sub p with
    |
     some u,some s=>match u.bc s with
     |some y=>some (AV.ec s y,[b])
     |none=>none
    |_,_=>none
   |none=>none)=some (y,l):=by cases t<;>exact h
  split at h'
  ·split at h'
   ·split at h'
    ·cases h';rfl
    ·cases h'
   ·cases h'
  ·cases h'
 |ec t' x=>
  have h':some (AV.ec t' x,([]:List Nat))=some (y,l):=by cases t<;>exact h
  cases h';rfl
 |
  func fn fs cs=>
  have h':(match view hb fs true .unit,view hb cs true .unit with
   |some (f,l),some (c,m)=>if f.atoms&&c.atoms then some (AV.func fn f c,l++m) else none
   |_,_=>none)=some (y,l):=by cases t<;>exact h
  split at h'
  ·split at h'
   ·cases h';rfl
   ·cases h'
  ·cases h'
 |
  cons a b=>
  cases t with
  |
   pair s t=>
   simp only[view] at h
   split at h
   ·cases h;rfl
   ·cases h
  |_=>simp[view] at h
 |nil=>
  have h':some (AV.val .unit (),([]:List Nat))=some (y,l):=by cases t<;>exact h
  cases h';rfl
 |iw=>
  have h':some (AV.iw,([]:List Nat))=some (y,l):=by cases t<;>exact h
  cases h';rfl
 |ix=>
  have h':some (AV.ix,([]:List Nat))=some (y,l):=by cases t<;>exact h
  cases h';rfl
 |_=>cases t<;>simp[view] at h
theorem xw{gl:Ctx}{E:Env}{w:World}{hp:List (Option aj)}(hw:HW gl E w hp){hb:Nat→Option aj}(hB:HB hb hp){x y:AV}{t:Ty}{l:List Nat}{v:Value}(h:view hb x false t=some (y,l))(hr:cZ E w x v):cZ (E.bZ l) w y v:=by
 have ha:=ir h
 rcases hr with⟨h1,cs,e,h2⟩|⟨h1,h2⟩
 ·exact Or.inl ⟨by rw[ha];exact h1,cs,e,kY hw hB h h2⟩
 ·exact Or.inr ⟨by rw[ha];exact h1,kY hw hB h h2⟩
theorem oD{hb:Nat→Option aj}:∀{x:AV}{m:Bool}{t:Ty}{y:AV}{l:List Nat},view hb x m t=some (y,l)→∀b∈l,∃k,hb b=some k:=by
 intro x
 induction x with
 |
  own b=>
  intro m t y l h
  have h':(match dE hb b with|some ⟨bs,t,xs⟩=>some (AV.val (.slice bs t) xs,[b])|none=>none)=some (y,l):=by cases m<;>cases t<;>exact h
  split at h'<;>cases h'
  rename_i hv
  obtain⟨e,hk⟩:=gP hv
  intro c hc;simp at hc;subst hc;exact⟨_,hk⟩
 |
  mo b lo len=>
  intro m t y l h
  have h':(match dE hb b with|some ⟨bs,t,xs⟩=>some (AV.val (.slice bs t) ((xs.drop lo).take len),[b])|none=>none)=some (y,l):=by cases m<;>cases t<;>exact h
  split at h'<;>cases h'
  rename_i hv
  obtain⟨e,hk⟩:=gP hv
  intro c hc;simp at hc;subst hc;exact⟨_,hk⟩
 |
  ka b p lo len=>
  intro m t y l h
  cases t with
  |
   slice bs u=>
   have h':(match hb b with
    |
     some (.var _ v)=>match v.get p with
     |some (.val (.arr n t) xs)=>if Nat.ble (n*bs) az&&Nat.ble n az then some (AV.val (.slice bs t) ((List.drop lo xs).take len),[b]) else none
     |_=>none
    |_=>none)=some (y,l):=by cases m<;>exact h
   split at h'
   ·rename_i hk
    split at h'
    ·split at h'
     ·cases h';intro c hc;simp at hc;subst hc;exact⟨_,hk⟩
     ·cases h'
    ·cases h'
   ·cases h'
  |_=>cases m<;>simp[view] at h
 |
  ptr b p=>
  intro m t y l h
  have h':(match hb b with
   |
    some k=>match kH k p,(im k).sub p with
    |
     some u,some s=>match u.bc s with
     |some y=>some (AV.ec s y,[b])
     |none=>none
    |_,_=>none
   |none=>none)=some (y,l):=by cases m<;>cases t<;>exact h
  split at h'
  ·rename_i hk
   split at h'
   ·split at h'
    ·cases h';intro c hc;simp at hc;subst hc;exact⟨_,hk⟩
    ·cases h'
   ·cases h'
  ·cases h'
 |
  func fn fs cs Sn Sk=>
  intro m t y l h
  have h':(match view hb fs true .unit,view hb cs true .unit with
   |some (f,l),some (c,m)=>if f.atoms&&c.atoms then some (AV.func fn f c,l++m) else none
   |_,_=>none)=some (y,l):=by cases m<;>cases t<;>exact h
  split at h'
  ·rename_i h1 h2
   split at h'
   ·cases h'
    intro c hc
    rcases List.mem_append.1 hc with hc|hc
    ·exact Sn h1 c hc
    ·exact Sk h2 c hc
   ·cases h'
  ·cases h'
 |
  cons a b Sn Sk=>
  intro m t y l h
  cases m with
  |
   true=>
   have h':(match view hb a false .unit,view hb b true .unit with
    |some (x,l),some (y,m)=>some (AV.cons x y,l++m)
    |_,_=>none)=some (y,l):=by cases t<;>exact h
   split at h'
   ·rename_i h1 h2
    cases h'
    intro c hc
    rcases List.mem_append.1 hc with hc|hc
    ·exact Sn h1 c hc
    ·exact Sk h2 c hc
   ·cases h'
  |
   false=>
   cases t with
   |
    pair s t=>
    simp only[view] at h
    split at h
    ·rename_i h1 h2
     cases h
     intro c hc
     rcases List.mem_append.1 hc with hc|hc
     ·exact Sn h1 c hc
     ·exact Sk h2 c hc
    ·cases h
   |_=>simp[view] at h
 |
  _=>
  intro m t y l h
  cases m<;>cases t<;>simp[view] at h<;>(try (intro b hb;rw[h.2] at hb;cases hb))
def AV.eY:AV→Bool
 | .val t _=>t.flat
 | .cons a b=>a.eY&&b.eY
 | .nil=>true
 | .bU l=>l.eY
 | .iw| .mh| .ix| .oq| .dS=>true
 |_=>false
theorem RC.flat{E E':Env}{w w':World}:∀{a:AV}{vs:List Value},a.eY=true→RC E w a vs→RC E' w' a vs:=by
 intro a
 induction a with
 |val t x=>intro vs hf h;exact Rel.flat hf h
 |
  cons a b Sn Sk=>
  intro vs hf h
  simp only[AV.eY,Bool.and_eq_true] at hf
  obtain⟨v1,v2,e,h1,h2⟩:=h
  exact⟨v1,v2,e,Sn hf.1 h1,Sk hf.2 h2⟩
 |nil=>intro vs _ h;exact h
 |iw=>intro vs _ h;exact h
 |mh=>intro vs _ h;exact h
 |ix=>intro vs _ h;exact h
 |oq=>intro vs _ h;exact h
 |dS=>intro vs _ h;exact h
 |bU l ih=>intro vs _ h;exact h.elim
 |_=>intro vs hf;simp[AV.eY] at hf
theorem cZ.flat{E E':Env}{w w':World}{a:AV}{v:Value}(hf:a.eY=true)(h:cZ E w a v):cZ E' w' a v:=by
 rcases h with⟨h1,cs,e,h2⟩|⟨h1,h2⟩
 ·exact Or.inl ⟨h1,cs,e,RC.flat hf h2⟩
 ·exact Or.inr ⟨h1,RC.flat hf h2⟩
theorem RT.flat{E E':Env}{w w':World}:∀{a:AV}{vs:List Value},a.eY=true→RT E w a vs→RT E' w' a vs:=by
 intro a
 induction a with
 |
  cons a b Sn Sk=>
  intro vs hf h
  simp only[AV.eY,Bool.and_eq_true] at hf
  cases vs with
  |nil=>exact h.elim
  |cons v vs=>exact⟨cZ.flat hf.1 h.1,Sk hf.2 h.2⟩
 |nil=>intro vs _ h;exact h
 |_=>intro vs _ h;exact h.elim
theorem RV.flat{E E':Env}{w w':World}{a:AV}{v:Value}(hf:a.eY=true)(h:RV E w a v):RV E' w' a v:=by
 cases a with
 |bot=>trivial
 |bU l=>obtain⟨vs,e,h⟩:=h;exact⟨vs,e,RT.flat hf h⟩
 |opt c a=>simp[AV.eY] at hf
 |_=>exact cZ.flat hf h
def DI(G:bH)(ev:Operand→AV)(x:Operand×TypeId):AV×Ty:=(ev x.1,match x.1,G.at x.2 with| .const _,_=>.unit|_,some td=>td.ty|_,none=>.unit)
theorem aH.append{E:Env}{w:World}:∀{xs ys:List AV}{vs us:List Value},aH E w xs vs→aH E w ys us→aH E w (xs++ys) (vs++us)
 |[],_,[],_,_,h=>h
 |[],_,_::_,_,h,_=>h.elim
 |_::_,_,[],_,h,_=>h.elim
 |_::_,_,_::_,_,h,k=>⟨h.1,aH.append h.2 k⟩
theorem aH.atoms{E:Env}{w:World}:∀{l:AV}{vs:List Value},l.atoms=true→RC E w l vs→aH E w l.toList vs:=by
 intro l
 induction l with
 |
  cons a b Sn Sk=>
  intro vs ha h
  simp only[AV.atoms,Bool.and_eq_true] at ha
  obtain⟨v1,v2,e,h1,h2⟩:=h
  subst e
  have hl:=RC.len h1
  have hs:a.size=1:=by
   cases a with
   |val t x=>cases t<;>simp[AV.atom,Ty.isAgg] at ha<;>rfl
   |_=>first|rfl|simp[AV.atom] at ha
  rw[hs] at hl
  obtain⟨v,rfl⟩:∃v,v1= [v]:=by
   match v1,hl with
   |[v],_=>exact⟨v,rfl⟩
  refine⟨RV.fD (Or.inr ⟨?_,h1⟩),Sk ha.2 h2⟩
  cases a with
  |val t x=>cases t<;>simp[AV.atom,Ty.isAgg] at ha<;>rfl
  |_=>first|rfl|simp[AV.atom] at ha
 |nil=>intro vs _ h;simp only[RC] at h;subst h;trivial
 |_=>intro vs ha;simp[AV.atoms] at ha
theorem aH.map{E:Env}{w:World}{ev:Operand→AV}{ρ:Operand→Value}:∀(l:List Operand),(∀x∈l,RV E w (ev x) (ρ x))→aH E w (l.map ev) (l.map ρ)
 |[],_=>trivial
 |x::l,h=>⟨h x (List.mem_cons_self ..),aH.map l (fun y hy=>h y (List.mem_cons_of_mem _ hy))⟩
end Go.Abs
namespace Go.Abs
theorem tI(off:Nat):∀(cs:List Value)(k:Nat)(c:Array Value),off+k+cs.length≤c.size→
 ((cs.zipIdx k).foldl (fun(cs:Array Value)(x:Value×Nat)=>cs.setIfInBounds (off+x.2) x.1) c).toList=c.toList.take (off+k)++cs++c.toList.drop (off+k+cs.length)
 |[],k,c,_=>by simp
 |
  x::cs,k,c,h=>by
  simp only[List.length_cons] at h
  rw[List.zipIdx_cons,List.foldl_cons,tI off cs (k+1) _ (by simp;omega)]
  simp only[Array.toList_setIfInBounds,List.length_cons]
  have hl:off+k<c.toList.length:=by simp;omega
  rw[show off+(k+1)=off+k+1 from by omega,List.take_set,List.drop_set_of_lt (by omega)]
  rw[show off+k+1+cs.length=off+k+(cs.length+1) from by omega]
  rw[List.take_succ_eq_append_getElem hl]
  rw[List.set_append_right _ _ (by simp;omega)]
  simp only[List.length_take]
  rw[Nat.min_eq_left (by omega)]
  simp
theorem kZ(place:Nat→Option (Nat×Nat))(cells:Array Value)(i off size:Nat)(v:Value)(rest:List (Nat×Value))(hp:place i=some (off,size))(hs:v.cells.size=size)(hb:off+size≤cells.size):
 ∃R6:Array Value,Instr.fill place cells ((i,v)::rest)=Instr.fill place R6 rest∧R6.toList=cells.toList.take off++v.cells.toList++cells.toList.drop (off+size):=by
 refine⟨(v.cells.toList.zipIdx 0).foldl (fun(cs:Array Value)(x:Value×Nat)=>cs.setIfInBounds (off+x.2) x.1) cells,?_,?_⟩
 rotate_left
 ·have:=tI off v.cells.toList 0 cells (by simpa[hs] using hb)
  simp only[Nat.add_zero,Array.length_toList,hs] at this
  exact this
 ·simp only[Instr.fill,hp]
  rw[if_neg (by simp[hs];omega)]
  congr 1
  rw[←Array.foldl_toList]
  congr 1
  simp
def RP(E:Env)(w:World):List (Nat×AV)→List (Nat×Value)→Prop
 |[],[]=>True
 |x::xs,v::vs=>x.1=v.1∧RV E w x.2 v.2∧RP E w xs vs
 |_,_=>False
def Af(t:Ty):AV→List (Nat×AV)→Option AV
 |a,[]=>some a
 |
  a,(i,v)::l=>match t.sub [.fG i] with
  |
   some s=>if v.plain&&Nat.beq v.size s.size then(match a.set [.fG i] v with
   |some a'=>if a'.bB t then Af t a' l else none
   |none=>none) else none
  |none=>none
def xx(t:Ty):List t.den→List (Nat×AV)→Option (List t.den)
 |xs,[]=>some xs
 |
  xs,(i,v)::l=>if v.plain then(match v.bc t with
  |some y=>if Nat.blt i xs.length then xx t (xs.set i y) l else none
  |none=>none) else none
def AV.yN:AV→Bool
 | .dS=>true
 | .cons a b=>a.yN||b.yN
 |_=>false
def AV.norm(a:AV)(t:Ty):AV:=if a.yN then a else match a.bc t with
 |some y=>.val t y
 |none=>a
def kW(G:bH)(t:TypeId)(ps:List (Nat×AV)):Option AV:=
 match G.at t with
 |
  some td=>match td.ty with
  | .arr n u=>if u.pure then(xx u (List.replicate n u.aX) ps).map fun xs=>.val (.arr n u) xs else none
  | .pair a b=>(Af (.pair a b) (Ty.zero (.pair a b)) ps).map (AV.norm · (.pair a b))
  |_=>none
 |none=>none
theorem xy{E:Env}{w:World}{t:Ty}{place:Nat→Option (Nat×Nat)}(hpl:∀i s,t.sub [.fG i]=some s→place i=some (t.off [.fG i],s.size)∧t.valid [.fG i]):
 ∀{ps:List (Nat×AV)}{vs:List (Nat×Value)}{a r:AV}{cells:Array Value},RP E w ps vs→RC E w a cells.toList→a.bB t=true→Af t a ps=some r→
  ∃R6,Instr.fill place cells vs=some R6∧RC E w r R6.toList∧r.bB t=true
 |
  [],[],a,r,cells,_,hr,hc,h=>by
  cases h;exact⟨cells,rfl,hr,hc⟩
 |[],_::_,_,_,_,h,_,_,_=>h.elim
 |_::_,[],_,_,_,h,_,_,_=>h.elim
 |
  (i,x)::ps,(j,v)::vs,a,r,cells,⟨e,hx,hps⟩,hr,hc,h=>by
  simp only at e;subst e
  simp only[Af] at h
  split at h
  ·rename_i s hs
   split at h
   ·rename_i hcond
    simp only[Bool.and_eq_true] at hcond
    split at h
    ·rename_i a' ha'
     split at h
     ·rename_i hc'
      obtain⟨p1,p2⟩:=hpl i s hs
      have hxc:=(RV.mq hcond.1 hx).cells
      have hlen:=RC.len hxc
      have Sd:=Nat.eq_of_beq_eq_true hcond.2
      obtain⟨s',e1,e2,e3,e4⟩:=AV.u9 hxc hr hc p2 (fun s' hs'=>by rw[hs] at hs';cases hs';omega) ha'
      rw[hs] at e1;cases e1
      obtain⟨R6,f1,f2⟩:=kZ place cells i _ s.size v vs p1 (by rw[←e2,Array.length_toList]) (by simpa using e3)
      rw[f1]
      rw[←f2] at e4
      exact xy hpl hps e4 hc' h
     ·cases h
    ·cases h
   ·cases h
  ·cases h
theorem rI{E:Env}{w:World}{t:Ty}:
 ∀{ps:List (Nat×AV)}{vs:List (Nat×Value)}{xs ys:List t.den}{cells:Array Value},RP E w ps vs→aC (Rel w E.S t) cells.toList xs→xx t xs ps=some ys→
  ∃R6,Instr.fill (fun i=>some (i*t.size,t.size)) cells vs=some R6∧aC (Rel w E.S t) R6.toList ys∧ys.length=xs.length
 |
  [],[],xs,ys,cells,_,hr,h=>by
  cases h;exact⟨cells,rfl,hr,rfl⟩
 |[],_::_,_,_,_,h,_,_=>h.elim
 |_::_,[],_,_,_,h,_,_=>h.elim
 |
  (i,x)::ps,(j,v)::vs,xs,ys,cells,⟨e,hx,hps⟩,hr,h=>by
  simp only at e;subst e
  simp only[xx] at h
  split at h
  ·rename_i hpl
   split at h
   ·rename_i y hy
    split at h
    ·rename_i hi
     have hi:i<xs.length:=by simp[Nat.blt] at hi;omega
     have hxc:=(RV.mq hpl hx).cells
     have SO:=RC.bc hy hxc
     have aA:=aC.set (r:=Rel w E.S t) (n:=t.size) (fun _ _ h=>Rel.len h) SO i hr hi
     have hlen:=Rel.len SO
     have hcl:=aC.len (n:=t.size) (fun _ _ h=>Rel.len h) hr
     have hb:(i+1)*t.size≤xs.length*t.size:=Nat.mul_le_mul_right _ hi
     rw[Nat.add_mul,Nat.one_mul] at hb
     obtain⟨R6,f1,f2⟩:=kZ (fun i=>some (i*t.size,t.size)) cells i (i*t.size) t.size v vs rfl (by rw[←hlen,Array.length_toList]) (by rw[←Array.length_toList,hcl];exact hb)
     rw[f1]
     rw[←f2] at aA
     obtain⟨c2,g1,g2,g3⟩:=rI hps aA h
     exact⟨c2,g1,g2,by rw[g3,List.length_set]⟩
    ·cases h
   ·cases h
  ·cases h
theorem AV.A9{a:AV}{t:Ty}(h:a.bB t=true):(a.norm t).bB t=true:=by
 unfold AV.norm;split
 ·exact h
 split
 ·exact Ty.cF _
 ·exact h
theorem RC.norm{E:Env}{w:World}{a:AV}{t:Ty}{cs:List Value}(h:RC E w a cs):RC E w (a.norm t) cs:=by
 unfold AV.norm;split
 ·exact h
 split
 ·rename_i y hy;exact RC.bc hy h
 ·exact h
theorem aW.structOf{P:Program}{G:bH}(T:aW P G){t:TypeId}{td:TD}(h:G.at t=some td){a b:Ty}(hs:td.ty= .pair a b):∃fs,P.underlying t=some (.struct fs)∧aR G fs.toList 0 td.ty=true:=by
 obtain⟨ii,d,_,h1,_,h2,_⟩:=T.info h
 have Sc:=cn h2
 cases hd:d with
 |struct fs=>subst hd;exact⟨fs,h1,h2⟩
 |
  array n e=>
  subst hd
  simp only[a8] at h2
  rw[Bool.or_eq_true] at h2
  rcases h2 with h2|h2
  ·split at h2
   ·rename_i e1 _;rw[hs] at e1;cases e1
   ·cases h2
  simp only[Bool.and_eq_true] at h2
  obtain⟨_,h2⟩:=h2
  split at h2
  ·rename_i e1 _ _;rw[hs] at e1;cases e1
  ·cases h2
 |
  _=>
  subst hd
  simp only[cm] at Sc
  rw[hs] at Sc;cases Sc
theorem nr{G:bH}:∀{fs:List Field}{o:Nat}{t:Ty},aR G fs o t=true→∀f∈fs,∃td,G.at f.type=some td
 |[],_,_,_,f,hf=>by cases hf
 |
  g::fs,o,t,h,f,hf=>by
  cases t with
  |
   pair a b=>
   simp only[aR,Bool.and_eq_true] at h
   obtain⟨⟨⟨h1,_⟩,_⟩,h4⟩:=h
   cases hf with
   |
    head=>
    split at h1
    ·rename_i td htd;exact⟨td,htd⟩
    ·cases h1
   |tail _ hf=>exact nr h4 f hf
  |_=>simp[aR] at h
theorem lK{α β:Type}{P:Program}{w:World}(g:α→Sem β)(f:α→β):∀(l:List α),(∀x∈l,(g x).run P w= .ok (f x) w)→(l.mapM g).run P w= .ok (l.map f) w
 |[],_=>by simp
 |
  x::l,h=>by
  simp only[List.mapM_cons,Sem.run_bind,h x (List.mem_cons_self ..),Result.andThen_ok,lK g f l (fun y hy=>h y (List.mem_cons_of_mem _ hy)),Sem.run_pure,List.map_cons]
theorem xz{α β:Type}{P:Program}{w:World}(g:α→Sem β)(f:α→β)(l:Array α)(h:∀x∈l.toList,(g x).run P w= .ok (f x) w):(l.mapM g).run P w= .ok (l.map f) w:=by
 rw[Array.mapM_eq_mapM_toList,Sem.run_map,lK g f l.toList h]
 simp only[Result.andThen_ok]
 congr 1
 apply Array.ext'
 simp
theorem run_build{P:Program}{G:bH}(T:aW P G){E:Env}{w:World}{t:TypeId}{ps:List (Nat×AV)}{vs:Array (Nat×Value)}(hp:RP E w ps vs.toList){r:AV}(h:kW G t ps=some r):
 ∃v,(Instr.build t vs).run P w= .ok v w∧RV E w r v:=by
 unfold kW at h
 split at h
 ·rename_i td ht
  obtain⟨z,hz,hz1,hz2⟩:=T.zero ht w
  split at h
  ·rename_i n u Su
   split at h
   ·rename_i hpure
    simp only[Option.map_eq_some_iff] at h
    obtain⟨xs,hxs,rfl⟩:=h
    obtain⟨te,h1,h2,h3⟩:=T.m9 ht Su
    have Sd:=T.size h2 w
    rw[h3] at Sd
    rw[Su] at hz1
    have SO:=(fB (E:=E) (w:=w) hz1).2 hpure
    obtain⟨R6,f1,f2,f3⟩:=rI hp SO.2 (xs:=List.replicate n u.aX) hxs
    refine⟨.agg R6,?_,RV.fD (Or.inl ⟨rfl,R6,rfl,⟨by rw[f3,List.length_replicate],f2⟩⟩)⟩
    simp[Instr.build,hz,underlying,h1,Sd,f1]
   ·cases h
  ·rename_i a b Su
   simp only[Option.map_eq_some_iff] at h
   obtain⟨r',hr',rfl⟩:=h
   obtain⟨fs,h1,h2⟩:=T.structOf ht Su
   rw[Su] at hz1 h2
   have hrc:=(fB (E:=E) (w:=w) hz1).1
   have hpl:∀i s,(Ty.pair a b).sub [.fG i]=some s→((fs.map fun f=>(f.offset,((G.at f.type).map (·.ty.size)).getD 0))[i]?)=some ((Ty.pair a b).off [.fG i],s.size)∧(Ty.pair a b).valid [.fG i]:=by
    intro i s hs
    obtain⟨f,tf,e1,e2,e3,e4,e5,e6⟩:=jX h2 hs
    refine⟨?_,e6⟩
    have e1':fs[i]? =some f:=by simpa using e1
    simp only[Array.getElem?_map,e1',Option.map_some,e2,Option.getD_some,e3,e4,Nat.zero_add]
   have hm:(fs.mapM fun f=>do pure (f.offset,←sizeOf f.type):Sem _).run P w= .ok (fs.map fun f=>(f.offset,((G.at f.type).map (·.ty.size)).getD 0)) w:=by
    refine xz _ _ fs ?_
    intro f hf
    obtain⟨tf,htf⟩:=nr h2 f hf
    simp[T.size htf,htf]
   obtain⟨R6,f1,f2,f3⟩:=xy hpl hp hrc (Ty.ou _) hr'
   refine⟨.agg R6,?_,RV.fD (Or.inl ⟨?_,R6,rfl,RC.norm f2⟩)⟩
   ·simp only[Instr.build,Sem.run_bind,hz,Result.andThen_ok,underlying,run_program,h1,Sem.run_pure,hm]
    rw[f1]
    simp
   ·rw[AV.mi (AV.A9 f3)];rfl
  ·cases h
 ·cases h
def dR(G:bH)(d:Nat)(t:TypeId)(len:Nat)(ps:List (Nat×AV)):Option (AV×aj):=
 match G.at t with
 |
  some td=>match td.ty with
  | .slice bs u=>if u.pure&&Nat.ble (len*u.size) 16777216&&Nat.ble (len*bs) az&&Nat.ble len az then(xx u (List.replicate len u.aX) ps).map fun xs=>(.own d,.row td.e bs u xs) else none
  |_=>none
 |none=>none
theorem oE{w:World}{S:Nat→Prop}{u:Ty}{z:List Value}(hz:Rel w S u z u.aX)(_hu:0<u.size)(len:Nat)(zc:Array Value)(hzc:zc.toList=z):
 aC (Rel w S u) ((Array.range (len*u.size)).map (zc[· % zc.size]!)).toList (List.replicate len u.aX):=by
 have hl:=Rel.len hz
 have hs:zc.size=u.size:=by rw[←hl,←hzc,Array.length_toList]
 refine aC.xl u.aX u.size len _ (by simp) ?_
 intro i hi
 have:((((Array.range (len*u.size)).map (zc[· % zc.size]!)).toList.drop (i*u.size)).take u.size)=z:=by
  apply List.ext_getElem?
  intro j
  rw[List.getElem?_take]
  by_cases hj:j<u.size
  ·rw[if_pos hj,List.getElem?_drop]
   have hb:(i+1)*u.size≤len*u.size:=Nat.mul_le_mul_right _ hi
   rw[Nat.add_mul,Nat.one_mul] at hb
   have hij:i*u.size+j<len*u.size:=by omega
   simp only[Array.getElem?_toList,Array.getElem?_map]
   rw[Array.getElem?_range,if_pos hij]
   simp only[Option.map_some]
   have hm:(i*u.size+j) % u.size=j:=by rw[Nat.mul_comm,Nat.mul_add_mod];exact Nat.mod_eq_of_lt hj
   rw[hs,hm,←hzc,Array.getElem?_toList]
   have hjz:j<zc.size:=by omega
   simp[hjz]
  ·rw[if_neg hj]
   rw[List.getElem?_eq_none (by omega)]
 rw[this];exact hz
theorem ph{P:Program}{G:bH}(T:aW P G){gl:Ctx}{σ:St}{E:Env}{a:Act}{w:World}(h:cK gl σ E a w){d:Nat}(hf:σ.fresh d){t:TypeId}{len:Nat}{ps:List (Nat×AV)}{vs:Array (Nat×Value)}(hp:RP E w ps vs.toList){r:AV}{k:aj}(hb:dR G d t len ps=some (r,k)):
 ∃v w' E',(Instr.buildSlice t len vs).run P w= .ok v w'∧cK gl (σ.bh d (some k)) E' a w'∧RV E' w' r v∧Ext gl.md (Own σ.hp E) E w (Own (σ.bh d (some k)).hp E') E' w':=by
 unfold dR at hb
 split at hb
 ·rename_i td ht
  split at hb
  ·rename_i bs u Su
   split at hb
   ·rename_i hc
    simp only[Bool.and_eq_true] at hc
    obtain⟨⟨⟨hpure,hc1⟩,hc2⟩,hc3⟩:=hc
    have hc1:=Nat.le_of_ble_eq_true hc1
    have hc2:=Nat.le_of_ble_eq_true hc2
    have hc3:=Nat.le_of_ble_eq_true hc3
    simp only[Option.map_eq_some_iff] at hb
    obtain⟨xs,hxs,e⟩:=hb
    cases e
    obtain⟨te,ie,h1,h2,h3,h4,h5,h6,h7⟩:=T.bX ht Su
    obtain⟨z,hz,hz1,hz2⟩:=T.zero h2 w
    have Sd:=T.size h2 w
    rw[h3] at Sd hz1
    have SO:=(fB (E:=E) (w:=w) hz1).2 hpure
    have hmade:=oE SO h6 len z.cells rfl
    obtain⟨R6,f1,f2,f3⟩:=rI hp hmade hxs
    rw[List.length_replicate] at f3
    have hcl:R6.size=len*u.size:=by
     have:=aC.len (n:=u.size) (fun _ _ h=>Rel.len h) f2
     rw[Array.length_toList] at this;rw[this,f3]
    have Ss:(Instr.buildSlice t len vs).run P w= .ok (.slice (some ⟨w.heap.size,0,none⟩) len len) {w with heap:=w.heap.push (.cells R6 td.e)}:=by
     have hns:¬(len*u.size>2^24):=by
      show¬(len*u.size>16777216);omega
     by_cases hn:len*u.size=0
     ·have e0:len=0:=by
       rcases Nat.mul_eq_zero.1 hn with h|h
       ·exact h
       ·omega
      subst e0
      have f1':Instr.fill (fun i=>some (i*u.size,u.size)) ((Array.range (0*u.size)).map ((#[]:Array Value)[· % (#[]:Array Value).size]!)) vs.toList=some R6:=by
       have:(Array.range (0*u.size)).map (z.cells[· % z.cells.size]!)= #[]:=by simp
       rw[this] at f1
       have:(Array.range (0*u.size)).map ((#[]:Array Value)[· % (#[]:Array Value).size]!)= #[]:=by simp
       rw[this];exact f1
      simp only[Instr.buildSlice,Sem.run_bind,underlying,run_program,Result.andThen_ok,h1,Sem.run_pure,Sd,if_neg hns,if_pos hn]
      rw[f1']
      simp[newRow]
     ·simp only[Instr.buildSlice,Sem.run_bind,underlying,run_program,Result.andThen_ok,h1,Sem.run_pure,Sd,if_neg hns,if_neg hn,hz]
      rw[f1]
      simp[newRow]
    have kp:bm E w (E.at d (some w.heap.size) (.slice (some ⟨w.heap.size,0,none⟩) len len) (.arr len u)) {w with heap:=w.heap.push (.cells R6 td.e)}:=⟨fun b hb=>gr _ _ _ (h.hw.slt b hb),fun b hb=>hb⟩
    obtain⟨q1,q2⟩:=h.fresh hf (w':={w with heap:=w.heap.push (.cells R6 td.e)}) (g:=some w.heap.size) (sv:=.slice (some ⟨w.heap.size,0,none⟩) len len) (t:=.arr len u) (k:=.row td.e bs u xs) rfl (Tp.r rfl rfl) rfl (by simp) (fun i hi=>gr _ _ _ hi) (fun i hi=>by cases hi;exact Nat.le_refl _)
     (by
      refine⟨by simp[Env.at,f3],by rw[f3];exact hc2,by rw[f3];exact hc3,h6,some ⟨w.heap.size,0,none⟩,len,by simp[Env.at,f3],?_,Or.inr ⟨w.heap.size,R6,by simp[Env.at],rfl,lF _ _,hcl,by omega,?_⟩⟩
      ·unfold az at hc3;unfold maxLen;omega
      ·rw[f3,←hcl,List.take_of_length_le (by simp)]
       exact aC.mono (fun _ _=>Rel.mono kp.w kp.S) f2)
    exact⟨_,_,_,Ss,q1,RV.fD (Or.inr ⟨rfl,by simp[Env.at],some ⟨w.heap.size,0,none⟩,len,len,by simp[Env.at]⟩),q2⟩
   ·cases hb
  ·cases hb
 ·cases hb
end Go.Abs
