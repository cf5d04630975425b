/- The machines: what it means to be walked or run, part 5. No condition. -/
import Derived.Test.YtpmlkhjpbjnagaaGreatA4
import Derived.Shelf.SlSortCmp.NoneTotal
import Derived.Deep.DeepHandedRow
import Derived.OpenShut
import Derived.ChangeArms
namespace Go.Ax
def W{R:Type}(x:Option R)(P:R→Prop):Prop:=∃r,x=some r∧P r
def CT{U R:Type}(B:U→Prop)(Q:R→Prop):cL U R→Prop
 | .brk d=>B d
 | .ret r=>Q r
def ST{A B:Type}(P:A→Prop)(Q:B→Prop):Sum A B→Prop
 | .inl a=>P a
 | .inr b=>Q b
variable{U:Type}{B:U→Prop}
theorem iG{R:Type}{Q:R→Prop}{d:U}:CT B Q (.brk d)↔B d:=Iff.rfl
theorem pz{R:Type}{a:R}{P:R→Prop}:W (some a) P↔P a:=⟨fun⟨_,h,p⟩=>(by grind),fun h=>⟨a,rfl,h⟩⟩
variable{A:Type}
theorem pA{R:Type}{x:Option A}{f:A→Option R}{P:R→Prop}:W (Option.bind x f) P↔W x fun a=>W (f a) P:=by
 cases x with
 |none=>exact⟨fun⟨_,h,_⟩=>(by cases h),fun⟨_,h,_⟩=>(by cases h)⟩
 |some a=>exact⟨fun⟨r,h,p⟩=>⟨a,rfl,r,h,p⟩,fun⟨a',h,r,h2,p⟩=>(by cases h;exact⟨r,h2,p⟩)⟩
theorem bL{R:Type}{x:Option (cL U R)}{f:U→Option R}{P:R→Prop}:W (aI x f) P↔W x (CT (fun d=>W (f d) P) P):=by
 unfold aI
 rw[pA]
 refine⟨fun⟨c,h,p⟩=>⟨c,h,?_⟩,fun⟨c,h,p⟩=>⟨c,h,?_⟩⟩
 ·cases c with
  |brk d=>exact p
  |ret r=>exact(pz (a:=r) (P:=P)).1 p
 ·cases c with
  |brk d=>exact p
  |ret r=>exact(pz (a:=r) (P:=P)).2 p
theorem lC{B R:Type}{x:Option (Sum A B)}{kp:A→Option R}{k:B→Option R}{P:R→Prop}:W (fh x kp k) P↔W x (ST (fun a=>W (kp a) P) fun b=>W (k b) P):=by
 unfold fh
 rw[pA]
 refine⟨fun⟨c,h,p⟩=>⟨c,h,?_⟩,fun⟨c,h,p⟩=>⟨c,h,?_⟩⟩<;>cases c<;>exact p
theorem W.mono{R:Type}{x:Option R}{P Q:R→Prop}(h:W x P)(hq:∀r,P r→Q r):W x Q:=h.imp fun r h=>⟨h.1,hq r h.2⟩
variable{B':U→Prop}
theorem CT.mono{R:Type}{Q Q':R→Prop}(hb:∀d,B d→B' d)(hq:∀r,Q r→Q' r)(c:cL U R)(h:CT B Q c):CT B' Q' c:=by
 cases c with
 |brk d=>exact hb d h
 |ret r=>exact hq r h
theorem W.ct{R:Type}{x:Option (cL U R)}{Q Q':R→Prop}(h:W x (CT B Q))(hb:∀d,B d→B' d)(hq:∀r,Q r→Q' r):W x (CT B' Q'):=h.mono (CT.mono hb hq)
theorem W.st{B:Type}{x:Option (Sum A B)}{P P':A→Prop}{Q Q':B→Prop}(h:W x (ST P Q))(hp:∀a,P a→P' a)(hq:∀b,Q b→Q' b):W x (ST P' Q'):=
 h.mono fun c hc=>by cases c with
  |inl a=>exact hp a hc
  |inr b=>exact hq b hc
theorem W.iter{R:Type}{F:(U→Option R)→U→Option R}{P:R→Prop}(I:U→Prop)(μ:U→Nat)
 (h:∀rec u,I u→(∀u',I u'→μ u'<μ u→W (rec u') P)→W (F rec u) P):∀n u,I u→μ u<n→W (aL F n u) P:=
 Ms I μ (fun _ x=>W x P) h
theorem dc{t:Ty}{l:List t.den}{a:Int}(h0:0≤a)(h1:a<(l.length:Int)):nth t l a∈l:=by
 have h:a.toNat<l.length:=by omega
 grind [cK]
variable{β:Type}
theorem HQ{R:Type}{F:(U→Option (cL β R))→U→Option (cL β R)}{f:β→Option R}{n:Nat}(Q:Option R→Prop)(len:Nat)(at_:Nat→U)(b:β)(C:Nat→Prop)(P:R→Prop)
 (hn:len<n)
 (step:∀rec i,i<len→(C i∧F rec (at_ i)=rec (at_ (i+1)))∨∃r,P r∧F rec (at_ i)=some (.ret r))
 (stop:∀rec,F rec (at_ len)=some (.brk b)) (h1:(∀j,j<len→C j)→Q (f b)) (h2:∀r,P r→Q (some r)):Q (aI (aL F n (at_ 0)) f):=by
 rcases ua (L:=aL F) rfl len at_ b C P step stop n hn with⟨h3,e⟩|⟨r,h3,e⟩
 ·rw[e,aG];grind
 ·rw[e,dp];grind
theorem qI{t:Ty}{l:List t.den}{i:Nat}(h:i<l.length):nth t l (i:Int)∈l:=cK (t:=t) h▸eT h
theorem Pv{E:Type}(t:Ty)(p:t.den→E→Option (Bool×E))(l:List t.den)(e0:E)(q:t.den→Bool)(hp:∀x∈l,p x e0=some (q x,e0))(hl:l.length≤aH):
 ∃r:Int,aI (U:=E) ((aL fun rec(u:List t.den×Int×Int×E)=>match u with|⟨e,d,c,f⟩=>if(decide (c<d))=true then(if 0≤c then(if c<(List.length e:Int) then(Option.bind (p (nth t e c) f) fun⟨a,b⟩=>if a=true then(bU (some (c,b))) else(rec (e,d,bq (c+(1:Int)),b))) else none) else none) else(some (.brk f))) (Int.toNat (List.length l:Int)+1) (l,(List.length l:Int),(0:Int),e0)) (fun v1=>some ((-1:Int),v1))=some (r,e0)∧(0≤r↔∃x∈l,q x=true):=by
 have hB:aH=140737488355328:=rfl
 refine HQ (fun z=>∃r:Int,z=some (r,e0)∧(0≤r↔∃x∈l,q x=true)) l.length (fun i=>(l,(l.length:Int),(i:Int),e0)) e0 (fun i=>∀h:i<l.length,q l[i]=false) (fun r:Int×E=>∃i,∃h:i<l.length,q l[i]=true∧r=((i:Int),e0)) (by omega) ?step ?stop ?h1 ?h2
 case step=>
  intro rec i hi
  dsimp only
  have d1:decide ((i:Int)<(l.length:Int))=true:=cE (by omega)
  rw[aA d1,aA (dE i),aA (show(i:Int)<(l.length:Int) by omega),hp _ (qI hi),aM]
  dsimp only
  rw[cK (t:=t) hi]
  cases hq:q l[i] with
  |true=>exact Or.inr ⟨_,⟨i,hi,hq,rfl⟩,rfl⟩
  |
   false=>
   rw[aC (by decide),aY (by omega)]
   grind
 case stop=>
  grind
 case h1=>
  intro h1
  refine⟨-1,rfl,?_⟩
  constructor
  ·grind
  ·rintro⟨x,hx,hq⟩
   obtain⟨j,hj,rfl⟩:=jn hx
   grind
 case h2=>
  rintro _ ⟨i,hi,hq,rfl⟩<;>grind
theorem adl(t:Ty)(p:t.den→Option Bool)(l:List t.den)(q:t.den→Bool)(hp:∀x∈l,p x=some (q x))(hl:l.length≤aH):
 ∃r:Int,aI (U:=Unit) ((aL fun rec(u:List t.den×Int×Int)=>match u with|⟨c,b,a⟩=>if(decide (a<b))=true then(if 0≤a then(if a<(List.length c:Int) then(Option.bind (p (nth t c a)) fun y4=>if y4=true then(bU (some a)) else(rec (c,b,bq (a+(1:Int))))) else none) else none) else(some (.brk ()))) (Int.toNat (List.length l:Int)+1) (l,(List.length l:Int),(0:Int))) (fun _=>some (-1:Int))=some r∧(0≤r↔∃x∈l,q x=true):=by
 have hB:aH=140737488355328:=rfl
 refine HQ (fun z=>∃r:Int,z=some r∧(0≤r↔∃x∈l,q x=true)) l.length (fun i=>(l,(l.length:Int),(i:Int))) () (fun i=>∀h:i<l.length,q l[i]=false) (fun r:Int=>∃i,∃h:i<l.length,q l[i]=true∧r=(i:Int)) (by omega) ?step ?stop ?h1 ?h2
 case step=>
  intro rec i hi
  dsimp only
  have d1:decide ((i:Int)<(l.length:Int))=true:=cE (by omega)
  rw[aA d1,aA (dE i),aA (show(i:Int)<(l.length:Int) by omega),hp _ (qI hi),aM,cK (t:=t) hi]
  cases hq:q l[i] with
  |true=>exact Or.inr ⟨_,⟨i,hi,hq,rfl⟩,rfl⟩
  |
   false=>
   rw[aC (by decide),aY (by omega)]
   grind
 case stop=>
  grind
 case h1=>
  intro h1
  refine⟨-1,rfl,?_⟩
  constructor
  ·grind
  ·rintro⟨x,hx,hq⟩
   obtain⟨j,hj,rfl⟩:=jn hx
   grind
 grind
theorem WU(t:Ty)(p:t.den→t.den→Option Bool)(x y:List t.den)(hp:∀a∈x,∀b∈y,∃r,p a b=some r)(hl:x.length=y.length→x.length≤aH):
 ∃r:Bool,(if(!decide ((List.length x:Int)=(List.length y:Int)))=true then(some false) else(aI (U:=Unit) ((aL fun rec(u:List t.den×List t.den×Int×Int)=>match u with|⟨d,c,b,a⟩=>if(decide (a<b))=true then(if 0≤a then(if a<(List.length c:Int) then(if 0≤a then(if a<(List.length d:Int) then(Option.bind (p (nth t c a) (nth t d a)) fun y4=>if(!y4)=true then(bU (some false)) else(rec (d,c,b,bq (a+(1:Int))))) else none) else none) else none) else none) else(some (.brk ()))) (Int.toNat (List.length x:Int)+1) (y,x,(List.length x:Int),(0:Int))) fun _=>some true))=some r:=by
 have hB:aH=140737488355328:=rfl
 by_cases hxy:x.length=y.length
 ·have hl:=hl hxy
  rw[aC (by grind)]
  refine HQ (fun z=>∃r:Bool,z=some r) x.length (fun i=>(y,x,(x.length:Int),(i:Int))) () (fun _=>True) (fun _:Bool=>True) (by omega) ?step ?stop ?h1 ?h2
  case step=>
   intro rec i hi
   dsimp only
   obtain⟨r,hr⟩:=hp _ (qI hi) _ (qI (t:=t) (l:=y) (i:=i) (by omega))
   rw[aA (cE (by omega)),aA (dE i),aA (by omega),aA (dE i),aA (by omega),hr,aM]
   cases r with
   |false=>exact Or.inr ⟨false,trivial,rfl⟩
   |
    true=>
    rw[aC (by decide),aY (by omega)]
    grind
  case stop=>
   grind
  case h1=>grind
  grind
 ·exact⟨false,aA (by grind)⟩
theorem Pw(t:Ty)(q:t.den→t.den→Bool)(x y:List t.den)(hl:x.length=y.length→x.length≤aH):
 ∃r:Bool,(if(!decide ((List.length x:Int)=(List.length y:Int)))=true then(some false) else(aI (U:=Unit) ((aL fun rec(u:List t.den×List t.den×Int×Int)=>match u with|⟨c,d,b,a⟩=>if(decide (a<b))=true then(if 0≤a then(if a<(List.length c:Int) then(if 0≤a then(if a<(List.length d:Int) then(if(!q (nth t c a) (nth t d a))=true then(bU (some false)) else(rec (c,d,b,bq (a+(1:Int))))) else none) else none) else none) else none) else(some (.brk ()))) (Int.toNat (List.length x:Int)+1) (x,y,(List.length x:Int),(0:Int))) fun _=>some true))=some r:=by
 have hB:aH=140737488355328:=rfl
 by_cases hxy:x.length=y.length
 ·have hl:=hl hxy
  rw[aC (by grind)]
  refine HQ (fun z=>∃r:Bool,z=some r) x.length (fun i=>(x,y,(x.length:Int),(i:Int))) () (fun _=>True) (fun _:Bool=>True) (by omega) ?step ?stop ?h1 ?h2
  case step=>
   intro rec i hi
   dsimp only
   rw[aA (cE (by omega)),aA (dE i),aA (by omega),aA (dE i),aA (by omega)]
   cases q (nth t x i) (nth t y i) with
   |false=>exact Or.inr ⟨false,trivial,rfl⟩
   |
    true=>
    rw[aC (by decide),aY (by omega)]
    grind
  case stop=>
   grind
  case h1=>grind
  grind
 ·exact⟨false,aA (by grind)⟩
variable{α:Type}
theorem fq{kt:Ty}{k:kt.den}{v:α}:∀{es:List (kt.den×α)}{p:kt.den×α},p∈aZ kt k v es→p=(k,v)∨p∈es
 |
  [],p,h=>by
  grind [aZ]
 |
  e::es,p,h=>by
  unfold aZ at h
  split at h
  ·rcases List.mem_cons.1 h with h|h
   ·exact Or.inl h
   ·exact Or.inr (dj _ h)
  ·rcases List.mem_cons.1 h with h|h
   ·exact Or.inr (h▸cm ..)
   ·rcases fq h with h|h
    ·exact Or.inl h
    ·exact Or.inr (dj _ h)
def VR(n:Nat)(M:List (List UInt8×Int)):Prop:=∀p∈M,0≤p.2∧p.2<(n:Int)
theorem VR.get{n:Nat}{M:List (List UInt8×Int)}(h:VR n M){k:List UInt8}(hk:bT .str k M=true):0≤aP .str (.int .i64) k M∧aP .str (.int .i64) k M<(n:Int):=by
 obtain⟨i,hi⟩:=rm (kt:=.str) (vt:=.int .i64) rfl hk
 exact h _ (kL hi)
theorem kR(t:Ty)(nm:t.den→Option (List UInt8))(g:t.den→List UInt8)(hn:∀x,nm x=some (g x))(l:List t.den)(hl:l.length≤aH):
 ∃M b,VR l.length M∧aI (U:=Bool×List (List UInt8×Int)) ((aL fun rec(u:Bool×List t.den×Int×Int×List (List UInt8×Int))=>match u with|⟨e,c,b,a,d⟩=>if(decide (a<b))=true then(if 0≤a then(if a<(List.length c:Int) then(Option.bind (nm (nth t c a)) fun y4=>if(bT .str y4 d)=true then(rec (true,c,b,bq (a+(1:Int)),d)) else(Option.bind (nm (nth t c a)) fun y5=>if List.length d+1≤aH then(rec (e,c,b,bq (a+(1:Int)),aZ .str y5 a d)) else none)) else none) else none) else(some (.brk (e,d))):Nat→_→Option (cL (Bool×List (List UInt8×Int)) (Option (List (List UInt8×Int))×Bool))) (Int.toNat (List.length l:Int)+1) (false,l,(List.length l:Int),(0:Int),([]:List (List UInt8×Int)))) (fun u=>match u with|⟨b,a⟩=>some (some a,b))=some (some M,b):=by
 have hB:aH=140737488355328:=rfl
 suffices key:∀(n i:Nat)(e:Bool)(d:List (List UInt8×Int)),l.length -i<n→i≤l.length→d.length≤i→VR l.length d→∃M b,VR l.length M∧aI (U:=Bool×List (List UInt8×Int)) ((aL fun rec(u:Bool×List t.den×Int×Int×List (List UInt8×Int))=>match u with|⟨e,c,b,a,d⟩=>if(decide (a<b))=true then(if 0≤a then(if a<(List.length c:Int) then(Option.bind (nm (nth t c a)) fun y4=>if(bT .str y4 d)=true then(rec (true,c,b,bq (a+(1:Int)),d)) else(Option.bind (nm (nth t c a)) fun y5=>if List.length d+1≤aH then(rec (e,c,b,bq (a+(1:Int)),aZ .str y5 a d)) else none)) else none) else none) else(some (.brk (e,d))):Nat→_→Option (cL (Bool×List (List UInt8×Int)) (Option (List (List UInt8×Int))×Bool))) n (e,l,(List.length l:Int),(i:Int),d)) (fun u=>match u with|⟨b,a⟩=>some (some a,b))=some (some M,b) from
  key _ 0 false [] (by omega) (by omega) (by simp) fun p hp=>by cases hp
 intro n
 induction n with
 |zero=>grind
 |
  succ n ih=>
  intro i e d hn' hi hd hv
  rw[aN]
  generalize aL _ n=rec at ih ⊢
  dsimp only
  by_cases h:i<l.length
  ·rw[aA (cE (by omega)),aA (dE i),aA (show(i:Int)<(l.length:Int) by omega),hn,aM,aY (by omega)]
   split
   ·exact ih (i+1) true d (by omega) (by omega) (by omega) hv
   ·rw[aM,aA (by omega)]
    refine ih (i+1) e _ (by omega) (by omega) (dh (dy (kt:=.str)) (by omega)) fun p hp=>?_
    rcases fq (kt:=.str) hp with rfl|hp
    ·grind
    ·exact hv p hp
  ·rw[aC (by grind)]
   exact⟨d,e,hv,rfl⟩
variable{S:Type}
theorem bX{R:Type}{L:Nat→U→Option R}{F:(U→Option R)→U→Option R}(e:L=aL F)(P:R→Prop)(len:Nat)(st:Nat→S→U)(I:Nat→S→Prop)
 (step:∀rec i s,i<len→I i s→(∀s',I (i+1) s'→W (rec (st (i+1) s')) P)→W (F rec (st i s)) P)
 (stop:∀rec s,I len s→W (F rec (st len s)) P):∀n i s,len -i<n→i≤len→I i s→W (L n (st i s)) P:=by
 subst e
 intro n
 induction n with
 |zero=>grind
 |
  succ n ih=>
  grind [aN]
theorem W.tot{R:Type}{x:Option R}{P:R→Prop}(h:∃r,x=some r)(hp:∀r,P r):W x P:=h.imp fun r h=>⟨h,hp r⟩
theorem W.bt{R:Type}{x:Option A}{f:A→Option R}{P:R→Prop}(h:∃r,x=some r)(hp:∀r,W (f r) P):W (Option.bind x f) P:=pA.2 (W.tot h hp)
theorem iH(l:List α)(c:Nat)(h:l.length*c≤aH):(if(List.length ([]:List α)+List.length l)*c≤aH then some l else none)=some l:=by
 grind
theorem sE{R:Type}{L:Nat→U→Option R}{F:(U→Option R)→U→Option R}(e:L=aL F)(Q:Nat→S→R→Prop)(len:Nat)(st:Nat→S→U)(I:Nat→S→Prop)
 (step:∀rec i s,i<len→I i s→(∀s',I (i+1) s'→W (rec (st (i+1) s')) (Q (i+1) s'))→W (F rec (st i s)) (Q i s))
 (stop:∀rec s,I len s→W (F rec (st len s)) (Q len s)):∀n i s,len -i<n→i≤len→I i s→W (L n (st i s)) (Q i s):=by
 subst e
 intro n
 induction n with
 |zero=>intro i s h;omega
 |
  succ n ih=>
  intro i s hn hi hI
  rw[aN]
  by_cases h:i<len
  ·exact step _ i s h hI fun s' h'=>ih (i+1) s' (by omega) (by omega) h'
  ·have:i=len:=by omega
   subst this
   exact stop _ s hI
section
variable{α:Type}
def AM(lt:α→α→Bool)(x:α):List α→List α
 |[]=>[x]
 |y::l=>if lt y x=true then y::AM lt x l else x::y::l
def kT(lt:α→α→Bool):List α→List α
 |[]=>[]
 |x::l=>AM lt x (kT lt l)
def chain(lt:α→α→Bool):List α→Bool
 |[]=>true
 |x::l=> !lt x x&&(l.all (fun y=>lt x y&& !lt y x)&&chain lt l)
variable{lt:α→α→Bool}
theorem nW{x:α}:∀{l:List α},(AM lt x l).Perm (x::l)
 |[]=>List.Perm.refl _
 |
  y::l=>by
  unfold AM
  split
  ·exact(List.Perm.cons y nW).trans (List.Perm.swap ..)
  ·exact List.Perm.refl _
theorem dn:∀{l:List α},(kT lt l).Perm l
 |[]=>List.Perm.refl _
 |x::_=>nW.trans (List.Perm.cons x dn)
structure gF(lt:α→α→Bool)(l:List α):Prop where
 Fh:∀x∈l,lt x x=false
 XM:∀x∈l,∀y∈l,x=y∨lt x y= !lt y x
 tr:∀x∈l,∀y∈l,∀z∈l,lt x y=true→lt y z=true→lt x z=true
theorem jK{x:α}{l:List α}:chain lt (x::l)=true↔lt x x=false∧(∀y∈l,lt x y=true∧lt y x=false)∧chain lt l=true:=by
 simp[chain]
theorem wJ:∀{l:List α},chain lt l=true→gF lt l
 |[],_=>⟨by simp,by simp,by simp⟩
 |
  a::l,h=>by
  obtain⟨h1,h2,h3⟩:=jK.1 h
  have ih:=wJ h3
  refine⟨?_,?_,?_⟩
  ·intro x hx
   rcases List.mem_cons.1 hx with rfl|hx
   ·exact h1
   ·exact ih.Fh x hx
  ·intro x hx y hy
   rcases List.mem_cons.1 hx with e|hx'<;>rcases List.mem_cons.1 hy with e'|hy'
   ·exact .inl (e.trans e'.symm)
   ·exact .inr (by rw[e,(h2 y hy').1,(h2 y hy').2];rfl)
   ·exact .inr (by rw[e',(h2 x hx').1,(h2 x hx').2];rfl)
   ·exact ih.XM x hx' y hy'
  ·intro x hx y hy z hz p q
   have ht:=ih.tr
   grind
theorem gF.sub{l m:List α}(h:gF lt l)(hs:∀x∈m,x∈l):gF lt m:=
 ⟨fun x hx=>h.Fh x (hs x hx),fun x hx y hy=>h.XM x (hs x hx) y (hs y hy),fun x hx y hy z hz=>h.tr x (hs x hx) y (hs y hy) z (hs z hz)⟩
theorem gF.ntr{l:List α}(h:gF lt l):∀x∈l,∀y∈l,∀z∈l,lt x y=false→lt y z=false→lt x z=false:=by
 intro x hx y hy z hz p q
 rcases h.XM x hx y hy with e|e
 ·grind
 ·rcases h.XM y hy z hz with e'|e'
  ·grind
  ·have a:lt y x=true:=by grind
   have b:lt z y=true:=by grind
   have d:=h.tr z hz y hy x hx b a
   cases hh:lt x z with
   |false=>rfl
   |true=>have:=h.tr x hx z hz x hx hh d;rw[h.Fh x hx] at this;grind
theorem gF.uniq{l m:List α}(h:gF lt l)(hp:m.Perm l)(hm:m.Pairwise fun x y=>lt y x=false)(hl:l.Pairwise fun x y=>lt y x=false):m=l:=by
 refine List.Perm.eq_of_pairwise (le:=fun x y=>lt y x=false) ?_ hm hl hp
 intro a b ha hb h1 h2
 rcases h.XM a (hp.mem_iff.1 ha) b hb with e|e<;>grind
theorem wK:∀{l:List α},chain lt l=true→l.Pairwise fun x y=>lt y x=false
 |[],_=>List.Pairwise.nil
 |
  x::l,h=>by
  obtain⟨_,h2,h3⟩:=jK.1 h
  exact List.Pairwise.cons (fun y hy=>(h2 y hy).2) (wK h3)
theorem HR{x:α}{L:List α}(h:gF lt L)(hx:x∈L):∀{l:List α},(∀y∈l,y∈L)→l.Pairwise (fun x y=>lt y x=false)→(AM lt x l).Pairwise fun x y=>lt y x=false
 |[],_,_=>List.pairwise_singleton ..
 |
  y::l,hs,hl=>by
  obtain⟨h1,h2⟩:=List.pairwise_cons.1 hl
  unfold AM
  split
  ·rename_i hyx
   refine List.Pairwise.cons ?_ (HR h hx (fun z hz=>hs z (dj _ hz)) h2)
   intro z hz
   rcases List.mem_cons.1 (nW.mem_iff.1 hz) with rfl|hz
   ·cases hh:lt z y with
    |false=>rfl
    |true=>have:=h.tr y (hs y (cm ..)) z hx y (hs y (cm ..)) hyx hh;rw[h.Fh y (hs y (cm ..))] at this;grind
   grind
  ·rename_i hyx
   refine List.Pairwise.cons ?_ hl
   intro z hz
   rcases List.mem_cons.1 hz with rfl|hz'
   ·grind
   ·exact h.ntr z (hs z hz) y (hs y (cm ..)) x hx (h1 z hz') (by grind)
theorem wL{L:List α}(h:gF lt L):∀{l:List α},(∀y∈l,y∈L)→(kT lt l).Pairwise fun x y=>lt y x=false
 |[],_=>List.Pairwise.nil
 |x::_,hs=>HR h (hs x (cm ..)) (fun _ hy=>hs _ (dj _ (dn.mem_iff.1 hy))) (wL h fun y hy=>hs y (dj _ hy))
theorem Dk{l m:List α}(h:gF lt l)(hp:m.Perm l):kT lt m=kT lt l:=
 (h.sub fun _ hx=>dn.mem_iff.1 hx).uniq ((dn.trans hp).trans dn.symm) (wL h fun _ hy=>hp.mem_iff.1 hy) (wL h fun _ hy=>hy)
def HS(c:α→α→Option Int)(x y:α):Bool:=decide ((c x y).getD 0<0)
def kU(c:α→α→Option Int)(xs:List α):Option (List α):=
 if(xs.all fun x=>xs.all fun y=>(c x y).isSome)&&chain (HS c) (kT (HS c) xs) then some (kT (HS c) xs) else none
theorem Fi{c:α→α→Option Int}{xs ys:List α}(h:kU c xs=some ys):
 ys.Perm xs∧(∀x∈xs,∀y∈xs,∃r,c x y=some r)∧gF (HS c) xs∧ys.Pairwise fun x y=>HS c y x=false:=by
 unfold kU at h
 split at h
 ·rename_i hh
  cases h
  simp only[bj,j6,Option.isSome_iff_exists] at hh
  exact⟨dn,hh.1,(wJ hh.2).sub fun _ hx=>dn.mem_iff.2 hx,wK hh.2⟩
 grind
end
open Go.Proofs Go.Sort Go.Shelf
variable{w:World}
theorem Dl{w1:World}(ho:w1.os=w.os)(ht:w1.tape=w.tape)(hd:w.drawn≤w1.drawn)(hu:w1.output=w.output)(hs:w.heap.size≤w1.heap.size)(hk:∀g,g<w.heap.size→w1.heap[g]? =w.heap[g]?):
 ∃q os',w1=grow (w.drewN q) os':=by
 refine⟨w1.drawn -w.drawn,w1.heap.extract w.heap.size w1.heap.size,?_⟩
 have hh:w1.heap=w.heap++w1.heap.extract w.heap.size w1.heap.size:=by
  grind
 cases w1 with
 |
  mk h t d o u=>
  simp only at ho ht hu hd hh ⊢
  subst ho ht hu
  unfold grow World.drewN
  simp only[World.mk.injEq,and_true]
  grind
abbrev Km(w:World)(S:Nat→Prop)(t:Ty)(L:List t.den):Type:={p:List Value×t.den // Rel w S t p.1 p.2∧p.2∈L}
def jZ{w:World}{S:Nat→Prop}{t:Ty}{L:List t.den}(x:Km w S t L):List Value:=x.1.1
def Dm{w:World}{S:Nat→Prop}{t:Ty}{L:List t.den}(x:Km w S t L):t.den:=x.1.2
section
variable{w:World} {S:Nat→Prop} {t:Ty} {L:List t.den}
theorem qJ(x:Km w S t L):(jZ x).length=t.size:=Rel.len x.2.1
theorem Dn:∀{xs:List t.den}{vs:List Value},bk (Rel w S t) vs xs→(∀x∈xs,x∈L)→∃l:List (Km w S t L),l.map Dm=xs∧l.flatMap jZ=vs
 |[],_,h,_=>⟨[],rfl,h.symm⟩
 |
  x::xs,_,⟨v1,v2,e,h1,h2⟩,hL=>by
  obtain⟨l,hl1,hl2⟩:=Dn h2 fun y hy=>hL y (dj _ hy)
  exact⟨⟨(v1,x),h1,hL x (cm ..)⟩::l,by rw[dA,hl1];rfl,by rw[List.flatMap_cons,hl2,e];rfl⟩
theorem Dp{w':World}(hw:∀b,S b→w'.heap[b]? =w.heap[b]?):∀(l:List (Km w S t L)),bk (Rel w' S t) (l.flatMap jZ) (l.map Dm)
 |[]=>rfl
 |x::l=>⟨jZ x,l.flatMap jZ,by grind,Rel.mono hw (fun _ h=>h) x.2.1,Dp hw l⟩
theorem Dq{α:Type}{enc:α→List Value}{k:Nat}(hk:∀x,(enc x).length=k)(h0:0<k):∀(l:List α)(j:Nat),(l.flatMap enc)[j]? =(l[j / k]?).bind fun x=>(enc x)[j % k]?
 |[],j=>by simp
 |
  x::l,j=>by
  rw[List.flatMap_cons,List.getElem?_append,hk]
  split
  ·grind [Nat.div_eq_of_lt,Nat.mod_eq_of_lt]
  ·rename_i h
   rw[Dq hk h0 l (j -k)]
   obtain⟨q,rfl⟩:∃q,j=q+k:=⟨j -k,by omega⟩
   simp_all
theorem Dr{α:Type}[Inhabited α]{enc:α→List Value}{k:Nat}(hk:∀x,(enc x).length=k)(h0:0<k)(d:Array α):flatK enc k d=(d.toList.flatMap enc).toArray:=by
 apply Array.ext_getElem?
 intro j
 have e1:(d.toList.flatMap enc).toArray[j]? =(d.toList.flatMap enc)[j]? :=by simp
 rw[e1,Dq hk h0]
 by_cases h:j<d.size*k
 ·have hq:j / k<d.size:=by rw[Nat.div_lt_iff_lt_mul h0];exact h
  have hm:j % k<(enc d[j / k]).length:=by rw[hk];exact Nat.mod_lt _ h0
  rw[Array.getElem?_toList,Array.getElem?_eq_getElem hq,Array.getElem?_eq_getElem (by simp_all)]
  show some _=(enc d[j / k])[j % k]?
  rw[yP hm]
  congr 1
  have:=get_flatK enc k d j h
  grind
 grind [Nat.le_div_iff_mul_le,size_flatK]
end
def HT(P:Program)(E:Env)(w:World)(g:FuncId)(cb:Array Value)(t:Ty)(xs:List t.den)(c:t.den→t.den→Option Int):Prop:=
 ∀w1:World,(∀b,b<w.heap.size→E.g 0≠some b→w1.heap[b]? =w.heap[b]?)→w.heap.size≤w1.heap.size→
  ∀x∈xs,∀y∈xs,∀vx vy,Rel w E.S t vx x→Rel w E.S t vy y→∀r,c x y=some r→
   Calls P g (#[.agg vx.toArray,.agg vy.toArray]++cb) w1 fun e w'=>e= .returned (.int .i64 r)∧∃q os',w'=grow (w1.drewN q) os'
variable{E:Env}
theorem HW.grown{gl:Ctx}{w':World}{hp:List (Option aO)}(h:HW gl E w hp)(hs:w.heap.size≤w'.heap.size)(hold:∀i,i<w.heap.size→w'.heap[i]? =w.heap[i]?):HW gl E w' hp:=by
 have kp:bE E w E w':=⟨fun b hb=>hold b (h.slt b hb),fun b hb=>hb⟩
 exact⟨fun b k hb=>RB.mono kp (fun x _=>⟨rfl,rfl,rfl⟩) (fun i hi=>hold i (h.below hb hi)) (fun _ _ h=>h) (h.cQ b k hb),h.ew,h.dC,fun g hg=>mK (h.slt g hg) hs,h.gJ kp,fun b k g hb hg=>mK (h.uu b k g hb hg) hs⟩
variable{cs:AV}{ρ:Ren}{bs:Nat}
theorem LD{P:Program}(L:SlLaysF0.n6 P ρ){gl:Ctx}(aE:∀w,(isAgg (ρ.t 24)).run P w= .ok true w){t:Ty}(zE:∀w,(Go.sizeOf (ρ.t 24)).run P w= .ok t.size w)(hent:∀vs w,(callFunc (ρ.f 6) vs).run P w= .ok (.enter (ρ.f 6) vs) w)
 {g:FuncId} (eg:∀vs w,(callFunc g vs).run P w= .ok (.enter g vs) w)  {c:t.den→t.den→Option Int} {e:TypeId}  {xs ys:List t.den} (hs:kU c xs=some ys) {H:List (Option aO)} (h0:H[0]? =some (some (.row e bs t xs)))
 (hc:∀E w,HW gl E w H→∀cb:Array Value,RC E w cs cb.toList→HT P E w g cb t xs c):
 Fc P gl (ρ.f 6) [.own 0,.func (.func g) .nil cs] H (.ret (.fU .nil)) (H.set 0 (some (.row e bs t ys))):=by
 refine⟨hent,?_⟩
 intro E w vs hvs hw
 obtain⟨hperm0,hhas,hch,hpw⟩:=Fi hs
 have hlen:ys.length=xs.length:=hperm0.length_eq
 match vs,hvs with
 |
  [v0,v1],⟨h1,h2,_⟩=>
  obtain⟨r1,r2,r3,r4,a,cap,r5,r6,r7⟩:=hw.cQ 0 _ h0
  have h1:bZ E w (.own 0) v0:=h1
  rcases h1 with⟨hx,_⟩|⟨_,h1,_⟩
  ·cases hx
  have hv0:v0=E.sv 0:=by grind
  have h2:bZ E w (.func (.func g) .nil cs) v1:=h2
  rcases h2 with⟨hx,_⟩|⟨_,f,cb,q1,q2,q3,_,_⟩
  ·cases hx
  have hv1:v1= .func (.func g) f cb:=by grind
  have hf:f= #[]:=by
   have q2:f.toList= []:=q2
   grind
  subst hf
  rcases r7 with⟨⟨p1,p2⟩,p3,p4⟩|⟨gb,cells,g1,g2,g3,g4,g5,g6⟩
  ·
   subst p4
   have:ys= []:=List.length_eq_zero_iff.1 hlen
   subst this
   have hargs:[v0,v1].toArray= #[.slice a 0 cap,.func (.func g) #[] cb]:=by grind
   rw[hargs]
   refine(AnyF.slices_SortFunc_none L a cap _ w).mono ?_
   rintro e1 w1 ⟨rfl,rfl⟩
   have hH:H.set 0 (some (.row e bs t []))=H:=by
    apply List.ext_getElem?
    grind
   rw[hH]
   exact⟨E,⟨#[],rfl,rfl⟩,hw,Ext.refl ..⟩
  ·have hlt:gb<w.heap.size:=(Array.getElem?_eq_some_iff.1 g3).1
   have nS:¬E.S gb:=hw.jI 0 _ gb h0 g1
   by_cases hne:xs= []
   ·subst hne
    have:ys= []:=List.length_eq_zero_iff.1 hlen
    subst this
    have hargs:[v0,v1].toArray= #[.slice a 0 cap,.func (.func g) #[] cb]:=by grind
    rw[hargs]
    refine(AnyF.slices_SortFunc_none L a cap _ w).mono ?_
    rintro e1 w1 ⟨rfl,rfl⟩
    have hH:H.set 0 (some (.row e bs t []))=H:=by
     apply List.ext_getElem?
     grind
    rw[hH]
    exact⟨E,⟨#[],rfl,rfl⟩,hw,Ext.refl ..⟩
   obtain⟨l,hl1,hl2⟩:=Dn (L:=xs) g6 fun _ h=>h
   have hll:l.length=xs.length:=by grind
   obtain⟨x0,hx0⟩:∃x0:Km w E.S t xs,x0∈l:=by
    cases l<;>grind
   have inst:Inhabited (Km w E.S t xs):=⟨x0⟩
   let cf:Km w E.S t xs→Km w E.S t xs→Int:=fun x y=>(c (Dm x) (Dm y)).getD 0
   have ltE:∀x y,Go.Proofs.ltOf cf x y=HS c (Dm x) (Dm y):=fun _ _=>rfl
   have swo:SWO (Go.Proofs.ltOf cf):=
    ⟨fun x=>hch.Fh _ x.2.2,fun x y z p q=>hch.tr _ x.2.2 _ y.2.2 _ z.2.2 p q,fun x y z p q=>hch.ntr _ x.2.2 _ y.2.2 _ z.2.2 p q⟩
   have dsz:l.toArray.size=xs.length:=by grind
   have flen:(l.flatMap jZ).length=xs.length*t.size:=by
    simp_all
   have hcell:∀j,j<xs.length*t.size→cells[j]? =(l.flatMap jZ)[j]? :=by
    grind
   have hH:HoldsK jZ t.size w gb 0 l.toArray:=by
    unfold HoldsK
    rw[Dr qJ r4]
    intro j hj
    grind [World.cell?,World.frozen?]
   have hN:xs.length<4611686018427387904:=by
    have:aH=140737488355328:=rfl
    omega
   have swk:∀(m:Nat)(dk:Array (Km w E.S t xs))(os:Array Obj) b,b<w.heap.size→b≠gb→(sortWorldK jZ t.size w gb 0 m dk os).heap[b]? =w.heap[b]? :=by
    grind [sortWorldK,grow,putRowK,putRow,mapBlock,Go.Sort.ahead]
   have sws:∀(m:Nat)(dk:Array (Km w E.S t xs))(os:Array Obj),w.heap.size≤(sortWorldK jZ t.size w gb 0 m dk os).heap.size:=by
    grind [sortWorldK,grow,putRowK,putRow,mapBlock,Go.Sort.ahead]
   have hcmp:CmpLays P g cb jZ t.size cf gb 0 l.toArray.size w:=by
    intro m os dk hdk x y
    obtain⟨r,hr⟩:=hhas _ x.2.2 _ y.2.2
    have hcx:cf x y=r:=by show(c x.1.2 y.1.2).getD 0=r;grind
    rw[hcx]
    exact hc E w hw cb q3 _ (fun b hb hne=>swk m dk os b hb fun e=>hne (e▸g1)) (sws m dk os) _ x.2.2 _ y.2.2 _ _ x.2.1 y.2.1 r hr
   have main:=AnyQ.slices_SortFunc L t.size aE zE jZ qJ (fun x v hv=>Rel.one x.2.1 v hv) cf swo g cb gb 0 cap l.toArray w eg hcmp hH hlt (by grind)
   have hargs:[v0,v1].toArray= #[.slice (some ⟨gb,0,none⟩) l.toArray.size cap,.func (.func g) #[] cb]:=by
    grind
   rw[hargs]
   refine main.mono ?_
   rintro e1 w1 ⟨rfl,d',n,os,hperm,hsort,rfl⟩
   obtain⟨p1,_,p2⟩:=hperm
   rw[dsz] at p1
   have hex:∀(d:Array (Km w E.S t xs)),d.size=xs.length→(d.extract 0 l.toArray.size).toList=d.toList:=by
    grind [Array.extract_size]
   rw[hex _ p1,hex _ dsz] at p2
   have hys:d'.toList.map Dm=ys:=by
    refine(hch.sub fun _ h=>hperm0.mem_iff.1 h).uniq ?_ ?_ hpw
    ·have:=p2.map Dm
     rw[List.toList_toArray,hl1] at this
     exact this.trans hperm0.symm
    ·rw[List.pairwise_map,List.pairwise_iff_getElem]
     intro i j hi hj hij
     rw[pv] at hi hj
     have:=hsort i j (gY _) hij (by grind)
     grind
   have fl':(d'.toList.flatMap jZ).length=xs.length*t.size:=by
    simp_all[qJ,List.map_const']
   let w1:=putRowK jZ t.size (Go.Sort.ahead w n) gb 0 d'
   have w1s:w1.heap.size=w.heap.size:=by
    show(putRowK jZ t.size (Go.Sort.ahead w n) gb 0 d').heap.size=_
    simp_all[putRowK]
   have w1g:w1.heap[gb]? =some (.cells (putCells id 0 (flatK jZ t.size d') cells) e (0,0)):=by
    show(putRowK jZ t.size (Go.Sort.ahead w n) gb 0 d').heap[gb]? =_
    unfold putRowK putRow mapBlock
    simp only
    rw[Array.getElem?_modify,aA rfl]
    show Option.map _ w.heap[gb]? =_
    rw[g3];rfl
   have w1o:∀b,b≠gb→w1.heap[b]? =w.heap[b]? :=by
    intro b hb
    show(putRowK jZ t.size (Go.Sort.ahead w n) gb 0 d').heap[b]? =_
    simp_all[putRowK,putRow,mapBlock,Array.getElem?_modify,Ne.symm]
   have hcells:bk (Rel w1 E.S t) ((putCells id 0 (flatK jZ t.size d') cells).toList.take (ys.length*t.size)) ys:=by
    have key:=Dp (w':=w1) (S:=E.S) (t:=t) (L:=xs) (fun b hb=>w1o b fun e=>nS (e▸hb)) d'.toList
    rw[hys] at key
    have:(putCells id 0 (flatK jZ t.size d') cells).toList.take (ys.length*t.size)=d'.toList.flatMap jZ:=by
     apply List.ext_getElem?
     intro i
     rw[List.getElem?_take,hlen]
     split
     ·rename_i hi
      have hic:i<cells.size:=by grind
      rw[Array.getElem?_toList]
      unfold putCells
      rw[Array.getElem?_mapIdx,Array.getElem?_eq_getElem hic,Dr qJ r4]
      grind
     grind
    grind
   have hw1:HW gl E w1 (H.set 0 (some (.row e bs t ys))):=by
    refine hw.write h0 w1s (fun i hi=>w1o i fun e=>hi (e▸g1)) ?_
    refine⟨by grind,by grind,by grind,r4,a,cap,by grind,r6,Or.inr ⟨gb,putCells id 0 (flatK jZ t.size d') cells,g1,g2,w1g,?_,by grind,hcells⟩⟩
    grind [putCells]
   have ownH:∀g',bx (H.set 0 (some (.row e bs t ys))) E g'→bx H E g':=by
    rintro g' ⟨b,k,hb,hg⟩
    by_cases hb0:b=0
    ·subst hb0;exact⟨0,_,h0,hg⟩
    ·rw[List.getElem?_set_ne (Ne.symm hb0)] at hb;exact⟨b,k,hb,hg⟩
   refine⟨E,⟨#[],rfl,rfl⟩,hw1.grown ?_ ?_,?_⟩
   ·grind
   ·intro i hi
    show(grow w1 os).heap[i]? =_
    grind [grow]
   ·exact⟨rfl,⟨rfl,fun _=>Nat.le_add_right _ _⟩,rfl,sws n d' os,fun g' hg' ho=>swk n d' os g' hg' fun e=>ho ⟨0,_,h0,Or.inl (e▸g1)⟩,fun _ h=>h,fun _ h=>Or.inl h,fun g' hg'=>Or.inl (ownH g' hg'),fun _ _=>⟨rfl,rfl,rfl⟩⟩
theorem qK{m b:Nat}{k:aO}:(aS (List.replicate m none) [])[b]? ≠some (some k):=by
 intro h
 have h:(List.replicate m (none:Option aO))[b]? =some (some k):=h
 grind
theorem HT.of{P:Program}{gl:Ctx}(hm:gl.md){H:List (Option aO)}(hw:HW gl E w H){k0:aO}(h0:H[0]? =some (some k0)){g:FuncId}(_hci:cs.ids= [])(hca:cs.atoms=true){cb:Array Value}(hcb:RC E w cs cb.toList){t:Ty}(amH:t.isAgg=true){xs:List t.den}{c:t.den→t.den→Option Int}{k:Nat}
 (h:∀x∈xs,∀y∈xs,∀r,c x y=some r→Fc P gl g ([.val t x,.val t y]++cs.toList) (aS (List.replicate k none) []) (.ret (.val (.int .i64) r)) (cY k [])):HT P E w g cb t xs c:=by
 intro w1 hk hs x hx y hy vx vy rx ry r hr
 have kp:bE E w E w1:=⟨fun b hb=>hk b (hw.slt b hb) fun e=>hw.jI 0 _ b h0 e hb,fun _ h=>h⟩
 have hw1:HW gl E w1 (aS (List.replicate k none) []):=
  ⟨fun b k' hb=>absurd hb qK,fun b b' k' k'' g' hb=>absurd hb qK,fun b k' g' hb=>absurd hb qK,fun b hb=>mK (hw.slt b hb) hs,hw.gJ kp,fun b k' g' hb=>absurd hb qK⟩
 have hcap:lz E w1 cs.toList cb.toList:=lz.atoms hca (RC.mono kp (fun b hb=>by grind) hcb)
 have am7:lz E w1 ([.val t x,.val t y]++cs.toList) ([.agg vx.toArray,.agg vy.toArray]++cb.toList):=
  ⟨Or.inl ⟨amH,_,rfl,Rel.mono kp.w kp.S rx⟩,Or.inl ⟨amH,_,rfl,Rel.mono kp.w kp.S ry⟩,hcap⟩
 have:=(h x hx y hy r hr).2 E _ _ am7 hw1
 have earr:(#[.agg vx.toArray,.agg vy.toArray]++cb:Array Value)=([Value.agg vx.toArray,Value.agg vy.toArray]++cb.toList).toArray:=by simp
 rw[earr]
 refine this.mono ?_
 rintro e1 w2 ⟨E1,k1,_,k3⟩
 refine⟨?_,?_⟩
 ·cases e1 with
  |
   returned v=>
   have k1:bZ E1 w2 (.val (.int .i64) r) v:=k1
   rcases k1 with⟨hx,_⟩|⟨_,hx,_⟩
   ·cases hx
   grind
  |_=>trivial
 ·exact Dl k3.os k3.tape.1 (k3.tape.2 hm) k3.output k3.size (fun g' hg'=>k3.kept g' hg' (fun⟨b,k',hb,_⟩=>qK hb))
def Fj:List AV→AV
 |[_,.func _ _ cs]=>cs
 |_=>.nil
theorem LF{P:Program}(L:SlLaysF0.n6 P ρ){gl:Ctx}(hm:gl.md)(aE:∀w,(isAgg (ρ.t 24)).run P w= .ok true w){t:Ty}(zE:∀w,(Go.sizeOf (ρ.t 24)).run P w= .ok t.size w)(hent:∀vs w,(callFunc (ρ.f 6) vs).run P w= .ok (.enter (ρ.f 6) vs) w)
 {g:FuncId} (eg:∀vs w,(callFunc g vs).run P w= .ok (.enter g vs) w) (amH:t.isAgg=true)  (hci:cs.ids= []) (hca:cs.atoms=true) {e:TypeId} {k m:Nat} (hm0:0<m) {c:t.den→t.den→Option Int} {xs ys:List t.den} (hs:kU c xs=some ys)
 (hc:∀x y r,c x y=some r→Fc P gl g ([.val t x,.val t y]++cs.toList) (aS (List.replicate k none) []) (.ret (.val (.int .i64) r)) (cY k [])):
 Fc P gl (ρ.f 6) [.own 0,.func (.func g) .nil cs] (aS (List.replicate m none) [(0,some (.row e bs t xs))]) (.ret (.fU .nil)) (cY m [(0,.row e bs t ys)]):=by
 have h0:(aS (List.replicate m none) [(0,some (aO.row e bs t xs))])[0]? =some (some (.row e bs t xs)):=by
  show((List.replicate m (none:Option aO)).set 0 _)[0]? =_
  grind
 have key:=LD L aE zE hent eg hs h0 fun E w hw cb hcb=>HT.of hm hw h0 hci hca hcb amH fun x _ y _ r hr=>hc x y r hr
 grind [aS,cY,List.set_set]
def Le{R:Type}(x y:Option R):Prop:=∀r,x=some r→y=some r
theorem Le.refl{R:Type}(x:Option R):Le x x:=fun _ h=>h
theorem Le.bind{R:Type}{x y:Option A}{f g:A→Option R}(h:Le x y)(k:∀a,Le (f a) (g a)):Le (Option.bind x f) (Option.bind y g):=by
 intro r hr
 obtain⟨a,h1,h2⟩:=bind_some hr
 rw[h a h1]
 exact k a r h2
theorem Le.ite{R:Type}{c:Prop}[Decidable c]{x y x' y':Option R}(h:c→Le x x')(k:¬c→Le y y'):Le (if c then x else y) (if c then x' else y'):=by
 grind
theorem Le.iter{R:Type}{F G:(U→Option R)→U→Option R}(h:∀r s,(∀u,Le (r u) (s u))→∀u,Le (F r u) (G s u)):∀n u,Le (aL F n u) (aL G n u)
 |0,_=>Le.refl _
 |n+1,u=>h _ _ (Le.iter h n) u
def Tb{U R:Type}(u:DecidableEq U)(r:DecidableEq R):DecidableEq (cL U R)
 |
  .brk a,.brk b=>match u a b with
  |isTrue h=>isTrue (by rw[h])
  |isFalse h=>isFalse (fun e=>by grind)
 |
  .ret a,.ret b=>match r a b with
  |isTrue h=>isTrue (by rw[h])
  |isFalse h=>isFalse (fun e=>by grind)
 | .brk _,.ret _=>isFalse (fun e=>by cases e)
 | .ret _,.brk _=>isFalse (fun e=>by cases e)
def wM{A R:Type}[DecidableEq R]:List A→(A→List A→Option R)→Option R
 |[],_=>none
 |
  x::l,K=>match K x l with
  |none=>none
  |some r=>if(List.range l.length).all (fun i=>match(x::l)[i+1]? with
   |some y=>decide (K y ((x::l).eraseIdx (i+1))=some r)
   |none=>true)=true then some r else none
theorem nX{R:Type}{_:DecidableEq R}{xs:List A}{K:A→List A→Option R}{r:R}(h:wM xs K=some r):xs≠[]∧∀i(hi:i<xs.length),K xs[i] (xs.eraseIdx i)=some r:=by
 match xs,h with
 |
  x::l,h=>
  simp only[wM] at h
  split at h
  ·cases h
  ·rename_i r' h0
   split at h
   ·rename_i am7
    cases h
    refine⟨by simp,fun i hi=>?_⟩
    cases i with
    |zero=>exact h0
    |
     succ i=>
     have hi':i<l.length:=by grind
     have:=List.all_eq_true.1 am7 i (List.mem_range.2 hi')
     grind
   grind
theorem Le.any{R:Type}{_:DecidableEq R}{xs:List A}{K K':A→List A→Option R}(h:∀x l,Le (K x l) (K' x l)):Le (wM xs K) (ux xs K'):=by
 intro r hr
 obtain⟨h1,h2⟩:=nX hr
 exact qT h1 (fun i hi=>h _ _ r (h2 i hi))
def wN{A R:Type}[DecidableEq R]:Nat→List A→(List A→Option R)→Option R
 |_,[],K=>K []
 |0,_::_,_=>none
 |n+1,x::l,K=>wM (x::l) fun y m=>wN n m fun ys=>K (y::ys)
theorem gQ:∀(l:List A)(i:Nat)(hi:i<l.length),l.Perm (l[i]::l.eraseIdx i)
 |x::l,0,_=>List.Perm.refl _
 |x::l,i+1,hi=>((gQ l i (by grind)).cons x).trans (List.Perm.swap ..)
theorem pB{R:Type}{_:DecidableEq R}:∀{n:Nat}{xs:List A}{K:List A→Option R}{r:R},wN n xs K=some r→∀ys:List A,ys.Perm xs→K ys=some r
 |
  _,[],K,r,h,ys,hp=>by
  have:=List.perm_nil.1 hp
  subst this
  cases ‹Nat› <;>exact h
 |0,_::_,_,_,h,_,_=>by cases h
 |
  n+1,x::l,K,r,h,ys,hp=>by
  obtain⟨_,h2⟩:=nX h
  cases ys with
  |nil=>exact absurd hp.symm.eq_nil (by simp)
  |
   cons y ys=>
   have hm:y∈x::l:=hp.mem_iff.1 (by simp)
   obtain⟨i,hi,e⟩:=jn hm
   have h3:=h2 i hi
   rw[e] at h3
   refine pB h3 ys ?_
   have:(y::ys).Perm (y::(x::l).eraseIdx i):=by
    refine hp.trans ?_
    rw[←e]
    exact gQ (x::l) i hi
   exact this.cons_inv
theorem Le.perm{R:Type}{_:DecidableEq R}{n:Nat}{xs:List A}{K K':List A→Option R}(h:∀ys,Le (K ys) (K' ys)):Le (wN n xs K) (ue xs K'):=
 fun r hr=>MZ (fun ys hp=>h ys r (pB hr ys hp))
section
variable{α:Type} {lt:α→α→Bool}
theorem yZ(Fh:∀x,lt x x=false)(tr:∀x y z,lt x y=true→lt y z=true→lt x z=true){x:α}:∀{l:List α},chain lt l=true→(∀y∈l,lt x y=true∨lt y x=true)→chain lt (AM lt x l)=true
 |[],_,_=>by simp[AM,chain,Fh]
 |
  y::l,h,ht=>by
  have zq:∀a b,lt a b=true→lt b a=false:=fun a b h1=>by
   cases h2:lt b a with
   |false=>rfl
   |true=>have:=tr a b a h1 h2;rw[Fh] at this;cases this
  obtain⟨h1,h2,h3⟩:=jK.1 h
  unfold AM
  split
  ·rename_i hy
   refine jK.2 ⟨h1,fun z hz=>?_,yZ Fh tr h3 fun z hz=>ht z (dj _ hz)⟩
   rcases List.mem_cons.1 (nW.mem_iff.1 hz) with e|hz
   ·rw[e];exact⟨hy,zq _ _ hy⟩
   ·exact h2 z hz
  ·rename_i hy
   have hx:lt x y=true:=(ht y (cm ..)).resolve_right hy
   refine jK.2 ⟨Fh x,fun z hz=>?_,h⟩
   rcases List.mem_cons.1 hz with e|hz
   ·rw[e];exact⟨hx,zq _ _ hx⟩
   ·have:=tr _ _ _ hx (h2 z hz).1
    exact⟨this,zq _ _ this⟩
theorem tS(Fh:∀x,lt x x=false)(tr:∀x y z,lt x y=true→lt y z=true→lt x z=true):∀{l:List α},l.Pairwise (fun x y=>lt x y=true∨lt y x=true)→chain lt (kT lt l)=true
 |[],_=>rfl
 |
  x::l,h=>by
  obtain⟨h1,h2⟩:=List.pairwise_cons.1 h
  exact yZ Fh tr (tS Fh tr h2) fun y hy=>h1 y (dn.mem_iff.1 hy)
theorem Ds{c:α→α→Option Int}(Fh:∀x,¬(c x x).getD 0<0)(tr:∀x y z,(c x y).getD 0<0→(c y z).getD 0<0→(c x z).getD 0<0){xs:List α}(hc:∀x∈xs,∀y∈xs,∃r,c x y=some r)(h:xs.Pairwise fun x y=>(c x y).getD 0<0∨(c y x).getD 0<0):kU c xs=some (kT (HS c) xs)∧chain (HS c) (kT (HS c) xs)=true:=by
 have el:∀x y,HS c x y=true↔(c x y).getD 0<0:=fun x y=>decide_eq_true_iff
 have hw:chain (HS c) (kT (HS c) xs)=true:=tS (fun x=>by
  grind) (fun x y z=>by grind) (h.imp fun hh=>by grind)
 refine⟨?_,hw⟩
 unfold kU
 grind
theorem zb{c:α→α→Option Int}{f:α→α→Int}(hc:∀x y,c x y=some (f x y))(Fh:∀x,¬f x x<0)(tr:∀x y z,f x y<0→f y z<0→f x z<0){xs:List α}(h:xs.Pairwise fun x y=>f x y<0∨f y x<0):∃ys,ys.Perm xs∧∀zs,zs.Perm xs→kU c zs=some ys:=by
 have eg:∀x y,(c x y).getD 0=f x y:=fun x y=>by grind
 have hw:=fun(l:List α)(hl:l.Perm xs)=>Ds (c:=c) (fun x=>by grind) (fun x y z=>by grind) (xs:=l) (fun x _ y _=>⟨_,hc x y⟩) (((hl.pairwise_iff (fun h=>h.symm)).2 h).imp fun hh=>by grind)
 exact⟨kT (HS c) xs,dn,fun zs hz=>(hw zs hz).1.trans (congrArg some (Dk ((wJ (hw xs (List.Perm.refl _)).2).sub fun _ hx=>dn.mem_iff.2 hx) hz))⟩
end
def tT(W:World):Env:=⟨fun _=>none,fun _=>undef,fun _=>.unit,fun g=>g<W.heap.size,fun _ _=>False⟩
theorem bk.collect{r:List Value→α→Prop}{k:Nat}:∀(n:Nat)(cs:List Value),cs.length=n*k→(∀i,i<n→∃y,r ((cs.drop (i*k)).take k) y)→∃ys,ys.length=n∧bk r cs ys
 |0,cs,hl,_=>⟨[],rfl,List.eq_nil_of_length_eq_zero (by grind)⟩
 |
  n+1,cs,hl,h=>by
  obtain⟨y,hy⟩:=h 0 (by omega)
  rw[Nat.zero_mul,iV] at hy
  obtain⟨ys,h1,h2⟩:=bk.collect (k:=k) n (cs.drop k) (by grind) (fun i hi=>by
   obtain⟨z,hz⟩:=h (i+1) (by omega)
   refine⟨z,?_⟩
   rw[mc]
   rw[show k+i*k=(i+1)*k from by grind]
   exact hz)
  exact⟨y::ys,by simp[h1],cs.take k,cs.drop k,(kH k cs).symm,hy,h2⟩
theorem cells?_get{base:Nat}{a:Addr}{n:Nat}{cs:List Value}(h:w.cells? base a n=some cs):cs.length=n∧∀j v,cs[j]? =some v→w.cell? (a.add j)=some v:=by
 unfold World.cells? at h
 split at h
 ·have hl:=mapM_some_length h
  refine⟨by grind,fun j v hj=>?_⟩
  have hlt:j<n:=by
   grind
  have:=mapM_some_get h j j (by grind)
  grind
 grind
theorem Addr.add_add(a:Addr)(i j:Nat):(a.add i).add j=a.add (i+j):=by
 grind [Addr.add]
theorem bk.LG{r:List Value→α→Prop}{a:Addr}{k:Nat}:∀(n s:Nat),(∀i,i<n→∃c y,w.cells? 0 (a.add ((s+i)*k)) k=some c∧r c y)→∃cs ys,ys.length=n∧bk r cs ys∧∀j v,cs[j]? =some v→w.cell? (a.add (s*k+j))=some v
 |0,s,_=>⟨[],[],rfl,rfl,fun j v hj=>by simp at hj⟩
 |
  n+1,s,h=>by
  obtain⟨c,y,h1,h2⟩:=h 0 (by omega)
  rw[Nat.add_zero] at h1
  obtain⟨hl,hc⟩:=cells?_get h1
  obtain⟨cs,ys,g1,g2,g3⟩:=bk.LG n (s+1) (fun i hi=>by
   obtain⟨c',y',q1,q2⟩:=h (i+1) (by omega)
   exact⟨c',y',by rw[show s+1+i=s+(i+1) from by omega];exact q1,q2⟩)
  refine⟨c++cs,y::ys,by simp[g1],⟨c,cs,rfl,h2,g2⟩,?_⟩
  intro j v hj
  rw[List.getElem?_append] at hj
  split at hj
  ·have:=hc j v hj
   rwa [Addr.add_add] at this
  ·rename_i hge
   have:=g3 _ v hj
   rw[hl] at this hge
   rw[show(s+1)*k+(j -k)=s*k+j from by rw[gX,Nat.one_mul];omega] at this
   exact this
section
variable{H:Type} {enc:TypeId×Value→H} {P:Program} {G:bN} (T:bA P G) {W:World} {spare:Nat→Bool} {held:Bool}
include T
theorem bA.cellsOf{t:TypeId}{td:TD}(h:G.at t=some td):P.cellsOf t=td.ty.size:=by
 obtain⟨i,_,h1,_,h2,_⟩:=T.info h
 simp[Program.cellsOf,h1,h2]
theorem bA.LJ{t:TypeId}{td:TD}(ht:G.at t=some td)(hs:td.ty= .bool):P.underlying t=some .bool:=by
 obtain⟨ii,dd,_,h1,_,h2,_⟩:=T.info ht
 have amH:=dm h2
 rw[h1]
 cases hd:dd with
 |bool=>rfl
 |struct fs=>grind [dr,Ty.isAgg]
 |array n e=>grind [dr,Ty.isAgg]
 |slice e=>grind [ck,Ty.same]
 |map k e=>grind [ck,Ty.same]
 |_=>subst hd;simp[ck,Ty.same,hs] at h2
def Ty.cT:Ty→Bool
 | .arr _ t=>t.cT
 | .slice _ t=>t.cT
 | .pair a b=>a.cT&&b.cT
 | .aT _| .fns _| .map _ _=>false
 |_=>true
theorem Dt:∀(fuel:Nat)(t:TypeId)(td:TD)(cs:List Value)(d:DataW H)(ps:List MemPlace),G.at t=some td→td.ty.cT=true→DataW.trod enc P W 0 spare held fuel t cs=some (d,ps)→(∀n∈d.weights P t,n≤aH)→
 ∃x:td.ty.den,Rel W (fun g=>g<W.heap.size) td.ty cs x
 |0,t,td,cs,d,ps,_,_,h,_=>by trivial
 |
  fuel+1,t,td,cs,d,ps,ht,hp,h,hw=>by
  have ih:=fun t td cs d ps=>Dt fuel t td cs d ps
  obtain⟨ty,te,te2⟩:=td
  simp only at hp
  cases ty with
  |
   int k=>
   obtain⟨n,e1,e2,e3⟩:=DataW.trod_int (T.intOf ht rfl) h
   simp only[Lit.wf,bj,j5] at e3
   exact⟨n,e1,e3⟩
  |
   bool=>
   obtain⟨b,e1,e2⟩:=DataW.trod_bool (T.LJ ht rfl) h
   exact⟨b,e1⟩
  |
   str=>
   have hu:=T.strOf ht rfl
   unfold DataW.trod at h
   rw[hu] at h
   split at h<;>simp_all
   obtain⟨_,e1,e2⟩:=h
   subst e1
   rename_i s _
   have hlen:s.data.toList.length≤aH:=hw s.data.toList.length (by simp[DataW.weights])
   exact⟨s.data.toList,by simp,hlen⟩
  |
   arr n u=>
   obtain⟨tde,h1,h2,h3⟩:=T.wv ht rfl
   simp only at h1 h2 h3
   subst h3
   obtain⟨xs,m,e1,e2,e3,e4,e5⟩:=DataW.trod_array h1 h
   cases e1;cases e2
   have hcz:=T.cellsOf h2
   have am7:∀i,i<n→∃y,Rel W (fun g=>g<W.heap.size) tde.ty ((cs.drop (i*tde.ty.size)).take tde.ty.size) y:=by
    intro i hi
    have hx:=e5 i hi
    have hlt:i<xs.length:=by omega
    rw[yP hlt,hcz] at hx
    refine ih te tde _ xs[i].1 xs[i].2 h2 hp hx (fun q hq=>hw q ?_)
    have key:∀(l:List (DataW H))(i:Nat)(d:DataW H),l[i]? =some d→∀q∈d.weights P te,q∈DataW.weightsAll P te l:=by
     intro l
     induction l with
     |nil=>grind
     |
      cons a l ihl=>
      grind [DataW.weightsAll]
    simp only[DataW.weights,h1]
    exact key _ i _ (by grind) q hq
   have hl:cs.length=n*tde.ty.size:=by
    rw[e3];exact T.cellsOf ht
   obtain⟨ys,y1,y2⟩:=bk.collect n cs hl am7
   exact⟨ys,y1,y2⟩
  |
   slice bs u=>
   obtain⟨te',ie,h1,h2,h3,h4,h5,h6,h7⟩:=T.eW ht rfl
   simp only at h1 h2 h4
   subst h3
   have hcz:=T.cellsOf h2
   rcases DataW.trod_slice h1 h with⟨e1,e2⟩|⟨a,len,cap,elems,rest,m,e1,e2,e3,e4,e5,e6,e7,e8,_⟩
   ·exact⟨[],none,0,e1,dP _,by simp,by simp,Or.inl rfl⟩
   ·cases e1;cases e3
    have hb:P.bytesOf te=bs:=by simp[Program.bytesOf,h4,h5]
    have hw0:(elems.length+rest.length)*bs≤aH:=by
     simp_all[DataW.weights]
    have hlb:len*bs≤aH:=dh (ji _ (by omega)) hw0
    have hlm:len≤aH:=dh (Nat.le_mul_of_pos_right _ h7) hlb
    have am7:∀i,i<len→∃c y,W.cells? 0 (a.add ((0+i)*te'.ty.size)) te'.ty.size=some c∧Rel W (fun g=>g<W.heap.size) te'.ty c y:=by
     intro i hi
     have hx:=e8 i hi
     have hlt:i<elems.length:=by omega
     rw[yP hlt,hcz] at hx
     simp only[tJ] at hx
     obtain⟨c,c1,c2⟩:=hx
     obtain⟨y,hy⟩:=ih te te' c elems[i].1 elems[i].2 h2 hp c2 (fun q hq=>hw q (by
      have key:∀(l:List (DataW H))(i:Nat)(d:DataW H),l[i]? =some d→∀q∈d.weights P te,q∈DataW.weightsAll P te l:=by
       intro l
       induction l with
       |nil=>grind
       |
        cons a l ihl=>
        grind [DataW.weightsAll]
      simp only[DataW.weights,h1,fg,jb]
      exact Or.inr (Or.inl (key _ i _ (by grind) q hq))))
     grind
    obtain⟨cs',ys,g1,g2,g3⟩:=bk.LG (w:=W) (a:=a) len 0 am7
    subst g1
    rw[e2]
    refine⟨ys,some a,cap,rfl,e5,hlb,hlm,?_⟩
    cases hys:ys with
    |nil=>grind
    |
     cons y0 ys0=>
     right
     have hcl:=bk.len (n:=te'.ty.size) (fun _ _ h=>Rel.len h) g2
     have hpos:0<cs'.length:=by simp_all
     have hc0:=g3 0 cs'[0] (by grind)
     simp only[Nat.zero_mul,Nat.add_zero,Addr.add,cj] at hc0
     have hspot:a.spot=none∧a.block<W.heap.size:=by
      unfold World.cell? at hc0
      split at hc0
      ·rename_i c _ _ hh
       split at hc0
       ·cases hc0
       ·rename_i hs
        exact⟨by simp_all,(Array.getElem?_eq_some_iff.1 hh).1⟩
      grind
     obtain⟨b,o,sp⟩:=a
     simp only at hspot
     obtain⟨hs,hblt⟩:=hspot
     subst hs
     refine⟨b,o,cs',rfl,hblt,?_,by grind⟩
     intro j v hj
     grind
  |
   pair ta tb=>
   obtain⟨fs,h1,h2⟩:=T.structOf ht rfl
   obtain⟨xs,m,e1,e2,e3,e4,e5⟩:=DataW.trod_struct h1 h
   cases e1;cases e2
   have hl:cs.length=(Ty.pair ta tb).size:=by rw[e3];exact T.cellsOf ht
   have key:∀(l:List Field)(ty:Ty)(off:Nat)(ys:List (DataW H×List MemPlace)),cc G l off ty=true→ty.cT=true→off+ty.size≤cs.length→ys.length=l.length→
    (∀(i:Nat)(f:Field),l[i]? =some f→DataW.trod enc P W 0 spare held fuel f.type ((cs.drop f.offset).take (P.cellsOf f.type))=ys[i]?)→
    (∀n∈DataW.weightsEach P (l.map (·.type)) (ys.map (·.1)),n≤aH)→∃x:ty.den,Rel W (fun g=>g<W.heap.size) ty ((cs.drop off).take ty.size) x:=by
    intro l
    induction l with
    |
     nil=>
     intro ty off ys hf _ _ _ _ _
     cases ty<;>simp[cc] at hf
     exact⟨(),by trivial⟩
    |
     cons f l ihl=>
     intro ty off ys hf hpu hle hyl hrd hwe
     cases ty with
     |
      pair a b=>
      simp only[cc,bj] at hf
      obtain⟨⟨⟨g1,g2⟩,g3⟩,g4⟩:=hf
      simp only[Ty.cT,bj] at hpu
      cases ys with
      |nil=>grind
      |
       cons y ys=>
       split at g1
       ·rename_i td htd
        have:=Ty.aB g1;subst this
        have g2:=bM g2
        have hcz:=T.cellsOf htd
        simp only[Ty.size] at hle
        have hr0:=hrd 0 f rfl
        rw[g2,hcz] at hr0
        simp only[List.getElem?_cons_zero] at hr0
        simp only[dA,DataW.weightsEach,jb] at hwe
        obtain⟨x1,hx1⟩:=ih f.type td _ y.1 y.2 htd hpu.1 hr0 (fun n hn=>hwe n (Or.inl hn))
        obtain⟨x2,hx2⟩:=ihl b (off+td.ty.size) ys g4 hpu.2 (by omega) (by grind) (fun i f' hf'=>by
         have:=hrd (i+1) f' (by grind)
         grind) (fun n hn=>hwe n (Or.inr hn))
        refine⟨(x1,x2),(cs.drop off).take td.ty.size,(cs.drop (off+td.ty.size)).take b.size,?_,hx1,hx2⟩
        simp_all[Ty.size,List.take_add]
       grind
     |_=>trivial
   grind [DataW.weights]
  |
   unit=>
   obtain⟨ii,dd,_,hu,hsz,hdo,_⟩:=T.info ht
   cases dd with
   |
    struct fs=>
    obtain⟨xs,m,e1,e2,e3,e4,e5⟩:=DataW.trod_struct hu h
    have hl:cs.length=0:=by rw[e3];exact T.cellsOf ht
    exact⟨(),List.eq_nil_of_length_eq_zero hl⟩
   |slice e=>simp[ck,Ty.same] at hdo
   |array n e=>simp[ck] at hdo
   |map k e=>trivial
   |_=>trivial
  |aT k=>trivial
  |fns n=>trivial
  |map k v=>trivial
theorem qL{base:Nat}{t:TypeId}{td:TD}{v:Value}{d:DataW H}{p:List MemPlace}(ht:G.at t=some td)(hp:td.ty.cT=true)(fT:Value.okWide P W .any base t v)(h:DataW.Trod enc P W 0 spare held t v d p)(hw:∀n∈d.weights P t,n≤aH):
 ∃x:td.ty.den,RV (tT W) W (.val td.ty x) v∧wf td.ty x:=by
 obtain⟨fuel,h⟩:=h
 obtain⟨x,hx⟩:=Dt T fuel t td _ d p ht hp h hw
 refine⟨x,RV.eS ?_,Rel.wf hx⟩
 obtain⟨ii,dd,_,hu,_,hdo,_⟩:=T.info ht
 have amH:=dm hdo
 cases ha:td.ty.isAgg with
 |
  true=>
  rw[ha] at amH
  unfold Value.okWide at fT
  rw[hu] at fT
  cases dd<;>simp[dr] at amH<;>(obtain⟨cs,e,_⟩:=fT;subst e;exact Or.inl ⟨ha,cs,rfl,hx⟩)
 |
  false=>
  rw[ha] at amH
  refine Or.inr ⟨ha,?_⟩
  cases v with
  |
   agg cs=>
   unfold Value.okWide at fT
   rw[hu] at fT
   cases dd<;>simp[dr] at amH<;>simp[Cell.okWide,Cell.ok,hu] at fT
  |_=>trivial
end
theorem mapM_mono{f g:α→Option β}:∀{l:List α}{r:List β},(∀x∈l,∀y,f x=some y→g x=some y)→l.mapM f=some r→l.mapM g=some r
 |[],r,_,h=>by grind
 |
  x::l,r,hm,h=>by
  simp only[List.mapM_cons,Option.bind_eq_bind,tJ,Option.pure_def,cX] at h ⊢
  obtain⟨y,h1,ys,h2,h3⟩:=h
  exact⟨y,hm x (by simp) y h1,ys,mapM_mono (fun z hz=>hm z (by simp[hz])) h2,h3⟩
theorem cells?_stay{W W':World}(hs:∀b,b<W.heap.size→W'.heap[b]? =W.heap[b]?){a:Addr}{n:Nat}{cs:List Value}(h:W.cells? 0 a n=some cs):W'.cells? 0 a n=some cs:=by
 unfold World.cells? at h ⊢
 split at h
 ·rename_i hb
  rw[aA hb]
  grind [mapM_mono,World.cell?]
 grind
section
variable{H:Type} {enc:TypeId×Value→H} {P:Program} {G:bN} (T:bA P G) {W W':World} (hs:∀b,b<W.heap.size→W'.heap[b]? =W.heap[b]?)
include T hs
theorem zd:∀(fuel:Nat)(t:TypeId)(td:TD)(cs:List Value)(x:DataW H×List MemPlace),G.at t=some td→td.ty.cT=true→DataW.trod enc P W 0 (fun _=>true) true fuel t cs=some x→DataW.trod enc P W' 0 (fun b=>decide (b<W.heap.size)) true fuel t cs=some x
 |0,t,td,cs,x,_,_,h=>by trivial
 |
  fuel+1,t,td,cs,x,ht,hp,h=>by
  have ih:=fun t td cs x=>zd fuel t td cs x
  obtain⟨ty,te,te2⟩:=td
  simp only at hp
  cases ty with
  |
   int k=>
   have hu:=T.intOf ht rfl
   unfold DataW.trod at h ⊢
   rw[hu] at h ⊢
   split at h<;>simp_all
  |
   bool=>
   have hu:=T.LJ ht rfl
   unfold DataW.trod at h ⊢
   rw[hu] at h ⊢
   split at h<;>simp_all
  |
   str=>
   have hu:=T.strOf ht rfl
   unfold DataW.trod at h ⊢
   rw[hu] at h ⊢
   split at h<;>simp_all
  |
   arr n u=>
   obtain⟨tde,h1,h2,h3⟩:=T.wv ht rfl
   simp only at h1 h2 h3
   subst h3
   unfold DataW.trod at h ⊢
   rw[h1] at h ⊢
   simp only at h ⊢
   split at h
   ·rename_i hl
    rw[aA hl]
    simp only[gW] at h ⊢
    obtain⟨xs,g1,g2⟩:=h
    exact⟨xs,mapM_mono (fun i _ y hy=>ih te tde _ y h2 hp hy) g1,g2⟩
   grind
  |
   slice bs u=>
   obtain⟨te',ie,h1,h2,h3,h4,h5,h6,h7⟩:=T.eW ht rfl
   simp only at h1 h2 h4
   subst h3
   have hcz:=T.cellsOf h2
   unfold DataW.trod at h ⊢
   rw[h1] at h ⊢
   split at h
   all_goals first
    |(cases h;rfl)
    |skip
   all_goals try (simp_all;done)
   rename_i e0 a len cap heq0
   have he0:e0=te:=by grind
   subst he0
   simp only[cj] at h
   simp only
   split at h
   ·rename_i hc
    rw[aA hc]
    simp only[tJ,gW] at h ⊢
    obtain⟨elems,g1,rest,g2,g3⟩:=h
    have step:∀(i:Nat)(y:DataW H×List MemPlace),(W.cells? 0 (a.add (i*P.cellsOf e0)) (P.cellsOf e0)).bind (DataW.trod enc P W 0 (fun _=>true) true fuel e0)=some y→(W'.cells? 0 (a.add (i*P.cellsOf e0)) (P.cellsOf e0)).bind (DataW.trod enc P W' 0 (fun b=>decide (b<W.heap.size)) true fuel e0)=some y:=by
     intro i y hy
     simp only[tJ] at hy ⊢
     obtain⟨c,c1,c2⟩:=hy
     exact⟨c,cells?_stay hs c1,ih e0 te' c y h2 hp c2⟩
    refine⟨elems,mapM_mono (fun i _ y hy=>step i y hy) g1,rest,?_,g3⟩
    by_cases hz:cap -len=0
    ·grind
    ·have hblk:a.block<W.heap.size:=by
      obtain⟨k,hk⟩:∃k,cap -len=k+1:=⟨cap -len -1,by omega⟩
      rw[hk,List.range_succ_eq_map] at g2
      simp only[List.mapM_cons,Option.bind_eq_bind,tJ] at g2
      obtain⟨y,⟨c,c1,_⟩,_⟩:=g2
      obtain⟨l1,l2⟩:=cells?_get c1
      have hpos:0<c.length:=by grind
      have:=l2 0 c[0] (by grind)
      grind [World.cell?,Addr.add]
     simp only[hblk,decide_true,cj]
     grind [mapM_mono]
   grind
  |
   pair ta tb=>
   obtain⟨fs,h1,h2⟩:=T.structOf ht rfl
   unfold DataW.trod at h ⊢
   rw[h1] at h ⊢
   simp only at h ⊢
   split at h
   ·rename_i hl
    rw[aA hl]
    simp only[gW] at h ⊢
    obtain⟨xs,g1,g2⟩:=h
    refine⟨xs,mapM_mono (fun f hf y hy=>?_) g1,g2⟩
    have key:∀(l:List Field)(ty:Ty)(off:Nat),cc G l off ty=true→ty.cT=true→∀f∈l,∃td,G.at f.type=some td∧td.ty.cT=true:=by
     intro l
     induction l with
     |nil=>grind
     |
      cons f0 l ihl=>
      intro ty off hfo hpu f hf
      cases ty with
      |
       pair a b=>
       simp only[cc,bj] at hfo
       obtain⟨⟨⟨q1,q2⟩,q3⟩,q4⟩:=hfo
       simp only[Ty.cT,bj] at hpu
       grind [Ty.aB]
      |_=>trivial
    grind
   grind
  |
   unit=>
   obtain⟨ii,dd,_,hu,hsz,hdo,_⟩:=T.info ht
   cases dd with
   |
    struct fs=>
    have hfs:fs.toList= []:=by
     grind [ck,cc]
    simp_all[DataW.trod]
   |slice e=>simp[ck,Ty.same] at hdo
   |array n e=>simp[ck] at hdo
   |map k e=>trivial
   |_=>trivial
  |aT k=>trivial
  |fns n=>trivial
  |map k v=>trivial
theorem qM:∀(ts:List TypeId)(vs:List Value)(ds:List (DataW H))(ps:List MemPlace),(∀t∈ts,∃td,G.at t=some td∧td.ty.cT=true)→DataW.TrodAll enc P W 0 (fun _=>true) true ts vs ds ps→DataW.TrodAll enc P W' 0 (fun b=>decide (b<W.heap.size)) true ts vs ds ps
 |
  [],vs,ds,ps,_,h=>by
  cases vs<;>cases ds<;>first|exact h|exact h.elim
 |
  t::ts,vs,ds,ps,ht,h=>by
  cases vs with
  |nil=>cases ds<;>exact h.elim
  |
   cons v vs=>
   cases ds with
   |nil=>exact h.elim
   |
    cons d ds=>
    obtain⟨p,q,⟨fuel,h1⟩,h2,h3⟩:=h
    obtain⟨td,htd,hpd⟩:=ht t (by simp)
    exact⟨p,q,⟨fuel,zd T hs fuel t td _ _ htd hpd h1⟩,qM ts vs ds q (fun t' ht'=>ht t' (by simp[ht'])) h2,h3⟩
end
theorem HW.bare{gl:Ctx}{W:World}(n:Nat)(hg:Lo gl (tT W) W):HW gl (tT W) W (aS (List.replicate n none) []):=by
 have no:∀(b:Nat)(k:aO),(aS (List.replicate n (none:Option aO)) [])[b]? ≠some (some k):=by
  grind [aS]
 exact⟨fun b k h=>absurd h (no b k),fun b _ k _ _ h=>absurd h (no b k),fun b k _ h=>absurd h (no b k),fun g hg=>hg,hg,fun b k _ h=>absurd h (no b k)⟩
theorem LK{H:Type}{enc:TypeId×Value→H}{P:Program}{G:bN}(T:bA P G){gl:Ctx}{f:FuncId}{fn:Func}{s:ChangeSpec}{W:World}{args:Array Value}{ds gs:List (DataW H)}{before:List MemPlace}{avs:List AV}{m:Nat}{bt:TypeId}
 (hc:Fc P gl f avs (aS (List.replicate m none) []) (.ret (.val .bool true)) (cY m [])) (hv:lz (tT W) W avs args.toList) (hg:Lo gl (tT W) W)
 (hW:DataW.Whole enc P fn.params.toList s.vars false W args.toList ds gs before) (hvars:s.vars= []) (hpt:∀t∈fn.params.toList,∃td,G.at t=some td∧td.ty.cT=true)
 (hrt:fn.resultTypes= #[bt]) (hbt:P.underlying bt=some .bool) (hspec:∀gs,gs= []→(s.fn H (ds++gs)).results= [.lit (.bool true)]∧(s.fn H (ds++gs)).args=ds∧(s.fn H (ds++gs)).vars= []):
 Calls P f args W fun e W'=>∃v,e= .returned v∧s.post enc P fn false true false false W args v W':=by
 have amV:=hc.2 (tT W) W args.toList hv (HW.bare m hg)
 have e0:args.toList.toArray=args:=by simp
 rw[e0] at amV
 refine amV.mono ?_
 rintro e W' ⟨E',hR,_,hX⟩
 cases e with
 |panicked ch=>trivial
 |outgrown=>trivial
 |
  returned v=>
  have hv':=RV.dY hR
  subst hv'
  refine⟨_,rfl,?_⟩
  have noO:∀g,¬bx (aS (List.replicate m (none:Option aO)) []) (tT W) g:=by
   rintro g ⟨b,k,hb,_⟩
   grind [aS]
  have stay:∀b,b<W.heap.size→W'.heap[b]? =W.heap[b]? :=fun b hb=>hX.kept b hb (noO b)
  have hW0:=hW
  obtain⟨p,q,hA,hV,hpq,hfz,hnd⟩:=hW
  rw[hvars] at hV
  have hgs:gs= []∧q= []:=by
   cases gs with
   |nil=>trivial
   |cons _ _=>trivial
  obtain⟨hgs,hq⟩:=hgs
  obtain⟨s1,s2,s3⟩:=hspec gs hgs
  refine⟨ds,gs,before,[],p,[],hW0,?_,?_,?_,?_,fun h=>by cases h⟩
  ·rw[s1,hrt]
   refine⟨[],[],⟨1,?_⟩,rfl,rfl⟩
   simp[DataW.trod,hbt,Value.cells]
  ·grind [qM]
  ·rw[s3,hvars];rfl
  ·refine⟨hX.os,hX.output,fun i hi=>?_⟩<;>grind
theorem cz{c:Prop}[Decidable c]{x y:α}(h:c):(if decide c=true then x else y)=x:=if_pos (decide_eq_true h)
theorem dV(n:Nat){x y:α}:(if 0≤(n:Int) then x else y)=x:=if_pos (Int.natCast_nonneg n)
theorem nY(c:Nat)(h:c≤4611686018427387904):bq ((c:Int)+(1:Int))=((c+1:Nat):Int):=aY h
end Go.Ax
