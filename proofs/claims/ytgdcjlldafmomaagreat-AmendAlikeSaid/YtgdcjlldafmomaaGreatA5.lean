/- The machines: what it means to be walked or run, part 5. No condition. -/
import Derived.Test.YtgdcjlldafmomaaGreatA4
import Derived.RecoverIn
import Derived.Shelf.SlSortCmp.Whole1
import Derived.Shelf.SlIterI.Collect
import Derived.Shelf.SlIterI.Sorted
import Derived.Deep.DeepHandedRow
import Derived.OpenShut
import Derived.ChangeArms
noncomputable section
namespace Go.Ax
def y0:YC:=⟨0,fun n=>n,fun _=>default⟩
inductive CF(D T:Type) where
 |bH (f:D→Option T)
 |kr (s:Sh) (f:D→Option (Sum (prod (s.H [])) T))
def eO{A B R:Type}(x:Option (Sum A B))(kp:A→Option R)(k:B→Option R):Option R:=
 Option.bind x fun r=>match r with
  | .inl a=>kp a
  | .inr b=>k b
theorem Dh{A B R:Type}{x:Option (Sum A B)}{kp:A→Option R}{k:B→Option R}{r:R}(h:eO x kp k=some r):(∃a,x=some (.inl a)∧kp a=some r)∨∃b,x=some (.inr b)∧k b=some r:=by
 unfold eO at h
 cases x with
 |none=>cases h
 |
  some y=>
  cases y with
  |inl a=>exact Or.inl ⟨a,rfl,h⟩
  |inr b=>exact Or.inr ⟨b,rfl,h⟩
def CF.run{D T R:Type}:CF D T→D→(T→Option R)→(AV→Option R)→Option R
 | .bH f,d,K,_=>Option.bind (f d) fun r=>K r
 | .kr s f,d,K,KP=>eO (f d) (fun p=>KP (s.V y0 p)) fun r=>K r
def CF.MY{D T:Type}:CF D T→D→T→Prop
 | .bH f,d,r=>f d=some r
 | .kr _ f,d,r=>f d=some (.inr r)
def CF.MZ{D T:Type}:CF D T→D→AV→Prop
 | .bH _,_,_=>False
 | .kr s f,d,x=>∃p,f d=some (.inl p)∧x=s.V y0 p
theorem CF.yi{D T R:Type}{c:CF D T}{d:D}{K:T→Option R}{KP:AV→Option R}{r:R}(h:c.run d K KP=some r):(∃y,c.MY d y∧K y=some r)∨∃x,c.MZ d x∧KP x=some r:=by
 cases c with
 |bH f=>obtain⟨y,h1,h2⟩:=bind_some h;exact Or.inl ⟨y,h1,h2⟩
 |
  kr s f=>
  rcases Dh h with⟨p,h1,h2⟩|⟨y,h1,h2⟩
  ·exact Or.inr ⟨_,⟨p,h1,rfl⟩,h2⟩
  ·exact Or.inl ⟨y,h1,h2⟩
structure aW where
 fn:Fn
 A:List Sh
 B:List (Nat×fg)
 m:Nat
 F:SS
 res:F.T→AV
 out:F.T→List (Nat×aN)
 f:CF (prod (rq A (iy B []))) F.T
abbrev aW.D(C:aW):Type:=prod (rq C.A (iy C.B []))
def aW.args(C:aW)(d:C.D):List AV:=xC y0 C.A d
def aW.ins(C:aW)(d:C.D):List (Nat×Option aN):=di (nC y0 C.B (xD C.A d))
structure aW.holds(P:Program)(gl:Ctx)(C:aW):Prop where
 ret:∀d r,C.f.MY d r→Eo P gl C.fn (C.args d) (aO (List.replicate C.m none) (C.ins d)) (.ret (C.res r)) (dk C.m (C.out r))
 kr:∀d x,C.f.MZ d x→Eo P gl C.fn (C.args d) (aO (List.replicate C.m none) (C.ins d)) (.kr x) (dk C.m [])
def zS:(m:List (Nat×fg))→{l:List Type}→List (Nat×Option aN)→prod l→Option (prod (iy m l))
 |[],_,[],d=>some d
 |
  (i,s)::m,_,(j,some k)::hp,d=>if Nat.beq i j then(match zS m hp d with
  |some e=>s.G k e
  |none=>none) else none
 |_,_,_,_=>none
theorem vS(y:YC):∀{m:List (Nat×fg)}{l:List Type}{hp:List (Nat×Option aN)}{d:prod l}{e:prod (iy m l)},zS m hp d=some e→di (nC y m e)=hp∧MN m e=d
 |
  [],l,hp,d,e,h=>by
  cases hp with
  |nil=>cases h;exact⟨rfl,rfl⟩
  |cons _ _=>simp[zS] at h
 |
  (i,s)::m,l,hp,d,e,h=>by
  match hp,h with
  |[],h=>simp[zS] at h
  |(j,none)::hp,h=>simp[zS] at h
  |
   (j,some k)::hp,h=>
   obtain⟨hs,h0⟩:=bS h
   have:=bQ hs;subst this
   split at h0
   ·rename_i e' he
    obtain⟨h1,h2⟩:=vS y he
    obtain⟨g1,g2⟩:=fg.uF y h0
    exact⟨by simp only[nC,di];rw[g1,g2,h1],by simp only[MN];rw[g2,h2]⟩
   ·exact no h0
def aW.get(C:aW)(L:List AV)(I:List (Nat×Option aN)):Option C.D:=
 match zS C.B (l:=[]) I () with
 |some d=>Kk C.A L d
 |none=>none
theorem aW.eV{C:aW}{L:List AV}{I:List (Nat×Option aN)}{d:C.D}(h:C.get L I=some d):C.args d=L∧C.ins d=I:=by
 unfold aW.get at h
 split at h
 ·rename_i d1 h1
  obtain⟨a1,a2⟩:=vS y0 h1
  obtain⟨b1,b2⟩:=xE y0 h
  exact⟨b1,by unfold aW.ins;rw[b2,a1]⟩
 ·cases h
structure CH where
 MH:List Nat
 ps:List (Nat×Nat)
 ns:List (Nat×Nat)
 ks:List (Nat×Nat):=[]
 us:List Nat:=[]
def CH.al(ch:CH):List (Nat×Nat):=match ch.ks with
 |[]=>ch.ps
 |k::ks=>ch.ps++k::ks
inductive KS where
 |t (s:Nat)
 |c (s:Nat) (p:Path)
def KS.get(σ:St):KS→Option AV
 | .t s=>σ.tm[s]?
 |
  .c s p=>match σ.tm[s]? with
  |
   some (.ptr b q)=>match eC σ.hp b with
   |some (.var _ v)=>v.get (q++p)
   |_=>none
  |_=>none
inductive PF where
 |row (b d:Nat) (k:KS)
 |map (mode b d:Nat) (k:KS)
 |eP (b:Nat)
structure RH where
 pre:List Gh
 zs:List (Nat×Nat×Ty)
 cs:List CH
 mg:Option (List (Nat×Ty)):=none
 X0:List (Nat×Nat):=[]
 pf:List PF:=[]
 post:List Gh:=[]
structure LH where
 S:SS
 fuel:S.T→Nat
structure GC where
 ic:Nat
 dI:Nat
 lI:Nat
 ti:List (Nat×Ty)
 m:List (Nat×Nat)
 jl:List Code
 ps:List (Nat×Nat)
 ns:List (Nat×Nat)
 S:SS
 E:SS
structure Hs where
 X1:List (Nat×RH)
 join:List (Nat×SS)
 cH:List (Nat×SS)
 loop:List (Nat×LH)
 X2:List (Nat×Nat)
 zP:List (Nat×GC):=[]
def ifs{R:Type}:List VC→Option R→Option R
 |[],x=>x
 |v::l,x=>@ite _ v.p v.d (ifs l x) none
theorem fq{R:Type}{r:R}:∀{l:List VC}{x:Option R},ifs l x=some r→dH l∧x=some r
 |[],x,h=>⟨trivial,h⟩
 |
  v::l,x,h=>by
  unfold ifs at h
  by_cases hp:v.p
  ·rw[@if_pos _ v.d hp] at h
   obtain⟨h1,h2⟩:=fq h
   exact⟨⟨hp,h1⟩,h2⟩
  ·rw[@if_neg _ v.d hp] at h;cases h
def oz(G:bT)(al ps:List (Nat×Nat))(ev:Operand→AV)(hb:Nat→Option aN)(c:Call):Option (Fn×List AV×List (Nat×Option aN)):=
 match c.callee with
 |
  .value cf=>match Dy (ev cf) with
  |
   some (fn,fl,cl)=>
   match lO (swp al) hb (fl.map (fun x=>(x,Ty.unit))++(c.args.toList.zip c.argTypes.toList).map (rf G ev)++cl.map (fun x=>(x,Ty.unit))),iZ (swp al) hb ps with
   |some (L,_),some ins=>some (fn,L,ins)
   |_,_=>none
  |_=>none
 |
  .invoke rv name=>match Ci G hb name (ev rv) with
  |
   some (f,x,xt)=>
   match lO (swp al) hb ((x,xt)::(c.args.toList.zip c.argTypes.toList).map (rf G ev)),iZ (swp al) hb ps with
   |some (L,_),some ins=>some (.func f,L,ins)
   |_,_=>none
  |_=>none
 |_=>none
def Di(P:Program)(gl:Ctx)(cr:CR)(x:Option (Fn×List AV×List (Nat×Option aN))):Prop:=
 ∀fn L ins,x=some (fn,L,ins)→Eo P gl fn L (aO (List.replicate cr.m none) ins) cr.fin (dk cr.m cr.out)
theorem sE{P:Program}{G:bT}{gl:Ctx}{cr:CR}{ev:Operand→AV}{hb:Nat→Option aN}{c:Call}{e:fj}{ob:List Prop}(h:nR P G gl cr ev hb c=some (e,ob))(hob:Di P gl cr (oz G cr.al cr.ps ev hb c)):∀p∈ob,p:=by
 unfold nR at h
 split at h
 ·rename_i cf hcf
  split at h
  ·rename_i fn fl cl hfv
   split at h
   ·rename_i L lent ins r' hL jg hr'
    split at h
    ·cases h
     intro p hp
     simp only[l9] at hp
     subst hp
     refine hob fn L ins ?_
     unfold oz
     rw[hcf]
     simp only
     rw[hfv]
     simp only
     rw[hL,jg]
    ·cases h
   ·cases h
  ·cases h
 ·rename_i rv name hcf
  split at h
  ·rename_i f x xt hfv
   split at h
   ·rename_i L lent ins r' hL jg hr'
    split at h
    ·cases h
     intro p hp
     simp only[l9] at hp
     subst hp
     refine hob (.func f) L ins ?_
     unfold oz
     rw[hcf]
     simp only
     rw[hfv]
     simp only
     rw[hL,jg]
    ·cases h
   ·cases h
  ·cases h
 ·cases h
def sF(G:bT)(gl:Ctx)(ops:Array Oper)(al ps:List (Nat×Nat))(z:List (Nat×Ty))(σ:St)(i:Nat):Option (Fn×List AV×List (Nat×Option aN)):=
 match ops[i]? with
 |none=>none
 |
  some o=>match o.op with
  |
   .call c=>match z with
   |[]=>oz G al ps (bG gl σ.tm) (gi (qZ o.op (bG gl σ.tm)++ps.map (·.2)) σ.hp) c
   |z=>oz G al ps (DG (gi (lR (bG gl σ.tm) z) σ.hp) z (bG gl σ.tm)) (gi (qZ o.op (DG (gi (lR (bG gl σ.tm) z) σ.hp) z (bG gl σ.tm))++ps.map (·.2)) (aO σ.hp (ep (kJ (gi (lR (bG gl σ.tm) z) σ.hp) (bG gl σ.tm) z)))) c
  |_=>none
theorem yk{P:Program}{G:bT}{gl:Ctx}{d:Nat}{cr:CR}{op:Op}{ev:Operand→AV}{hb:Nat→Option aN}{e:fj}{ob:List Prop}(h:mq P G gl d cr op ev hb=some (e,ob)):
 ob= []∨∃c e',op= .call c∧ld op=true∧nR P G gl cr ev hb c=some (e',ob):=by
 unfold mq at h
 split at h
 ·rename_i c
  split at h
  ·simp only[fm,ff] at h
   obtain⟨_,_,_,rfl⟩:=h
   exact Or.inl rfl
  ·rename_i hb
   simp only[qC] at h
   obtain⟨⟨e',ob'⟩,h,hk⟩:=h
   have:=IJ hk
   simp only at this
   subst this
   refine Or.inr ⟨c,e',rfl,?_,h⟩
   obtain⟨callee,args,tys⟩:=c
   cases callee with
   |builtin b=>exact absurd rfl (hb b)
   |value _=>rfl
   |invoke _ _=>rfl
 ·simp only[fm,ff] at h
  obtain⟨_,_,_,rfl⟩:=h
  exact Or.inl rfl
theorem mI{P:Program}{G:bT}{gl:Ctx}{ops:Array Oper}{cr:CR}{z:List (Nat×Ty)}{σ:St}{i:Nat}{f:aU}{vc:List VC}{ob:List Prop}(h:ei P G gl ops cr z σ i=some (f,vc,ob))(hob:tM ops i=true→Di P gl cr (sF G gl ops cr.al cr.ps z σ i)):∀p∈ob,p:=by
 unfold ei at h
 split at h
 ·cases h
 ·rename_i o ho
  have hat:tM ops i=ld o.op:=by unfold tM;rw[ho]
  split at h
  ·cases h
  ·cases h;intro p hp;cases hp
  ·split at h
   ·split at h
    ·cases h
    ·rename_i e ob' he
     cases h
     rcases yk he with rfl|⟨c,e',hop,hc,he'⟩
     ·intro p hp;cases hp
     ·refine sE he' ?_
      have:=hob (by rw[hat];exact hc)
      unfold sF at this
      rw[ho] at this
      simp only at this
      split at this
      ·rename_i c' hop'
       rw[hop] at hop'
       cases hop'
       rw[hop] at this ⊢
       exact this
      ·rename_i hno;exact absurd hop (hno c)
   ·rename_i hz
    split at h
    ·cases h
    ·rename_i e ob' he
     cases h
     rcases yk he with rfl|⟨c,e',hop,hc,he'⟩
     ·intro p hp;cases hp
     ·refine sE he' ?_
      have:=hob (by rw[hat];exact hc)
      unfold sF at this
      rw[ho] at this
      simp only at this
      split at this
      ·rename_i c' hop'
       rw[hop] at hop'
       cases hop'
       rw[hop] at this ⊢
       cases z with
       |nil=>exact absurd rfl hz
       |cons z1 z2=>exact this
      ·rename_i hno;exact absurd hop (hno c)
def OY{R:Type}:Fn→Fn→Option R→Option R→Option R
 | .func f,.func g,K,E=>if Nat.beq f g then K else E
 | .yield l,.yield l',K,_=>ifs [vc (l=l')] K
 |_,_,_,E=>E
theorem yl{R:Type}{f g:Fn}{K E:Option R}{r:R}(h:OY f g K E=some r):(f=g∧K=some r)∨E=some r:=by
 cases f with
 |
  func f=>
  cases g with
  |
   func g=>
   simp only[OY] at h
   split at h
   ·rename_i hb;exact Or.inl ⟨by rw[bQ hb],h⟩
   ·exact Or.inr h
  |_=>exact Or.inr h
 |
  yield l=>
  cases g with
  |
   yield l'=>
   obtain⟨h1,h2⟩:=fq h
   exact Or.inl ⟨by rw[h1.1],h2⟩
  |_=>exact Or.inr h
 |_=>exact Or.inr h
noncomputable def ym(a b:aN){R:Type}(x:Option R):Option R:=@ite _ (some a=some b) (Classical.propDecidable _) x none
theorem eI{a:aN}{R:Type}{x:Option R}:ym a a x=x:=aA rfl
def yn{R:Type}(Γ:List aW)(ps ns ks:List (Nat×Nat))(us:List Nat)(fn:Fn)(L:List AV)(I:List (Nat×Option aN))(K:CR→Option R):List Nat→Option R
 |[]=>none
 |
  c::l=>match Γ[c]? with
  |
   some C=>OY fn C.fn (match C.get L I with
   |some d=>C.f.run d (fun r=>K ⟨C.res r,ps,ns,C.out r,C.m,false,ks,us⟩) fun x=>K ⟨x,ps,[],[],C.m,true,ks,[]⟩
   |none=>yn Γ ps ns ks us fn L I K l) (yn Γ ps ns ks us fn L I K l)
  |none=>none
def D9(Γ:List aW)(ch:CH)(x:Option (Fn×List AV×List (Nat×Option aN))){R:Type}(K:CR→Option R):Option R:=
 match x with
 |some (fn,L,I)=>yn Γ ch.ps ch.ns ch.ks ch.us fn L I K ch.MH
 |none=>none
theorem sG{P:Program}{gl:Ctx}{Γ:List aW}(hΓ:∀C∈Γ,C.holds P gl){ps ns ks:List (Nat×Nat)}{us:List Nat}{fn:Fn}{L:List AV}{I:List (Nat×Option aN)}{R:Type}{K:CR→Option R}{r:R}:∀{l:List Nat},yn Γ ps ns ks us fn L I K l=some r→
 ∃cr,K cr=some r∧cr.ps=ps∧cr.ks=ks∧Di P gl cr (some (fn,L,I))
 |[],h=>by cases h
 |
  c::l,h=>by
  unfold yn at h
  split at h
  ·rename_i C hC
   rcases yl h with⟨hf,h⟩|h
   ·split at h
    ·rename_i d hd
     obtain⟨h1,h2⟩:=aW.eV hd
     have hC:=hΓ C (fP hC)
     have key:∀(cr:CR),K cr=some r→cr.ps=ps→cr.ks=ks→Eo P gl C.fn (C.args d) (aO (List.replicate cr.m none) (C.ins d)) cr.fin (dk cr.m cr.out)→∃cr,K cr=some r∧cr.ps=ps∧cr.ks=ks∧Di P gl cr (some (fn,L,I)):=by
      intro cr h hp hk hh
      refine⟨cr,h,hp,hk,?_⟩
      intro fn' L' I' e
      cases e
      rw[hf,←h1,←h2]
      exact hh
     rcases CF.yi h with⟨y,hy,h⟩|⟨x,hx,h⟩
     ·exact key _ h rfl rfl (hC.ret d y hy)
     ·exact key _ h rfl rfl (hC.kr d x hx)
    ·exact sG hΓ h
   ·exact sG hΓ h
  ·cases h
theorem Ea{P:Program}{gl:Ctx}{Γ:List aW}(hΓ:∀C∈Γ,C.holds P gl){ch:CH}{x:Option (Fn×List AV×List (Nat×Option aN))}{R:Type}{K:CR→Option R}{r:R}(h:D9 Γ ch x K=some r):
 ∃cr,K cr=some r∧cr.ps=ch.ps∧cr.ks=ch.ks∧Di P gl cr x:=by
 unfold D9 at h
 split at h
 ·exact sG hΓ h
 ·cases h
theorem CH.J5{ch:CH}{cr:CR}(h1:cr.ps=ch.ps)(h2:cr.ks=ch.ks):cr.al=ch.al:=by
 obtain⟨_,ps,_,_,_,_,ks,_⟩:=cr
 obtain⟨_,ps',_,ks',_⟩:=ch
 cases h1
 cases h2
 cases ks<;>rfl
def OZ:CR:=⟨.bot,[],[],[],0,false,[],[]⟩
def GD{R:Type}(s:Bool)(f:aU)(K:aU→Option R):Option R:=
 match s with
 |false=>K f
 |
  true=>match f.v with
  | .val .bool e=>if e=true then K {f with v:=.val .bool true} else K {f with v:=.val .bool false}
  |_=>K f
theorem uJ{R:Type}{s:Bool}{f:aU}{K:aU→Option R}{r:R}(h:GD s f K=some r):K f=some r:=by
 unfold GD at h
 split at h
 ·exact h
 ·split at h
  ·rename_i e he
   obtain⟨rt,rb,fr,dst,v,hw⟩:=f
   simp only at he
   subst he
   rcases FD h with⟨he,h⟩|⟨he,h⟩<;>(subst he;exact h)
  ·exact h
def GF{R:Type}:List (Option Nat)→Nat→Int→aU→(aU→Option R)→Option R
 |[],_,_,_,_=>none
 |g::gs,n,e,f,K=>if e=(n:Int) then K {f with v:=Ds g} else GF gs (n+1) e f K
def Eb{R:Type}(ok:Bool)(k0:Ty)(k:k0.den)(f:aU)(K:aU→Option R):List (k0.den×AV)→Option R
 |[]=>K {f with v:=okF ok .fy false}
 |x::l=>if aX k0 k x.1=true then K {f with v:=okF ok x.2 true} else Eb ok k0 k f K l
theorem uK{R:Type}{ok:Bool}{k0:Ty}{k:k0.den}{f:aU}{K:aU→Option R}{r:R}:∀{l:List (k0.den×AV)},f.v=lK ok k0 k l→Eb ok k0 k f K l=some r→K f=some r
 |
  [],hv,h=>by
  simp only[lK] at hv
  simp only[Eb] at h
  rw[←hv] at h;exact h
 |
  x::l,hv,h=>by
  simp only[lK] at hv
  simp only[Eb] at h
  split at h
  ·rename_i hb;rw[aA hb] at hv;rw[←hv] at h;exact h
  ·rename_i hb;rw[aC hb] at hv;exact uK hv h
def GH{R:Type}(b:Nat)(p:Path):Nat→Nat→Int→aU→(aU→Option R)→Option R
 |0,_,_,_,_=>none
 |m+1,n,e,f,K=>if e=(n:Int) then K {f with v:=.ptr b (p++[.idx n])} else GH b p m (n+1) e f K
theorem uL{R:Type}{f:aU}{K:aU→Option R}{r:R}{b:Nat}{p:Path}{e:Int}(hv:f.v= .ptr b (p++[.idx e.toNat])):∀{m n:Nat},GH b p m n e f K=some r→K f=some r
 |0,_,h=>by cases h
 |
  m+1,n,h=>by
  unfold GH at h
  split at h
  ·rename_i he
   subst he
   rw[dJ] at hv
   rw[←hv] at h
   exact h
  ·exact uL hv h
def M0(hb:Nat→Option aN)(b:Nat)(p:Path):Option Nat:=
 match hb b with
 |
  some k=>match(iP k).sub p with
  |some (.fns n)=>some n
  |_=>none
 |none=>none
theorem Dj{P:Program}{G:bT}{d:Nat}{t:TypeId}{x j:Operand}{ev:Operand→AV}{hb:Nat→Option aN}{r:fj}{b:Nat}{p:Path}{k:IntKind}{e:Int}(h:mo P G d (.indexAddr t x j) ev hb=some r)(hx:ev x= .ptr b p)(hj:ev j= .val (.int k) e):r.v= .ptr b (p++[.idx e.toNat]):=by
 simp only[mo,BF,uw,tD,tF,tG,tH,tJ,hx,hj,j5] at h
 split at h
 ·rename_i r' h
  cases h
  rename_i h
  obtain⟨⟨u,vc⟩,h,rfl⟩:=Option.map_eq_some_iff.1 h
  unfold jd at h
  split at h
  ·split at h
   ·rename_i h2;cases h2
   ·rename_i h2;cases h2
   ·rename_i h2;cases h2
   ·rename_i h2;cases h2
   ·rename_i h2
    cases h2
    split at h
    ·split at h
     ·split at h
      ·cases h;rfl
      ·cases h
     ·cases h
    ·cases h
   ·rename_i h2
    cases h2
    split at h
    ·split at h
     ·split at h
      ·cases h;rfl
      ·cases h
     ·cases h
    ·cases h
   ·rename_i h2;cases h2
   ·cases h
  ·cases h
 ·cases h
def KG{R:Type}(gl:Ctx)(ops:Array Oper)(σ:St)(i:Nat)(f:aU)(K:aU→Option R):Option R:=
 match ops[i]? with
 |
  some o=>match o.guard,o.op with
  |
   none,.indexAddr _ x j=>match bG gl σ.tm x,bG gl σ.tm j with
   |
    .ptr b p,.val (.int _) e=>match M0 (eC σ.hp) b p with
    |some n=>GH b p n 0 e f K
    |none=>K f
   |_,_=>K f
  |
   none,.index _ x j=>match bG gl σ.tm x,bG gl σ.tm j with
   | .val (.fns _) xs,.val (.int _) e=>GF xs 0 e f K
   |_,_=>K f
  |
   none,.lookup _ x k ok=>match bG gl σ.tm x with
   |
    .mp b=>match eC σ.hp b with
    |
     some (.ig k0 l)=>match(bG gl σ.tm k).bL k0 with
     |some k'=>Eb ok k0 k' f K l
     |none=>K f
    |_=>K f
   |_=>K f
  |_,_=>K f
 |none=>K f
theorem uM{R:Type}{f:aU}{K:aU→Option R}{r:R}{ys:List (Option Nat)}{e:Int}(hv:f.v=Ds (ys.getD e.toNat none)):∀{xs:List (Option Nat)}{n:Nat},(∀k,ys.getD (n+k) none=xs.getD k none)→GF xs n e f K=some r→K f=some r
 |[],_,_,h=>by cases h
 |
  g::gs,n,hx,h=>by
  unfold GF at h
  split at h
  ·rename_i he
   subst he
   have:ys.getD n none=g:=by simpa using hx 0
   rw[dJ,this] at hv
   rw[←hv] at h
   exact h
  ·refine uM hv (fun k=>?_) h
   have:=hx (k+1)
   rw[show n+1+k=n+(k+1) by omega,this]
   simp
theorem Dl{P:Program}{G:bT}{R:Type}{gl:Ctx}{ops:Array Oper}{cr:CR}{σ:St}{i:Nat}{f:aU}{vc:List VC}{ob:List Prop}{K:aU→Option R}{r:R}(hs:ei P G gl ops cr [] σ i=some (f,vc,ob))(h:KG gl ops σ i f K=some r):K f=some r:=by
 unfold KG at h
 split at h
 ·rename_i o ho
  split at h
  ·rename_i t x j hg hop
   split at h
   ·rename_i b p k e hx hj
    split at h
    ·rename_i n hn
     have hv:f.v= .ptr b (p++[.idx e.toNat]):=by
      unfold ei at hs
      rw[ho] at hs
      simp only[guardOf,hg] at hs
      split at hs
      ·cases hs
      ·rename_i e' ob' he
       cases hs
       rw[hop] at he
       simp only[mq,fm] at he
       obtain⟨e2,h2,he⟩:=he
       cases he
       exact Dj h2 hx hj
     exact uL hv h
    ·exact h
   ·exact h
  ·rename_i t x j hg hop
   split at h
   ·rename_i n xs k e hx hj
    have hv:f.v=Ds (xs.getD e.toNat none):=by
     unfold ei at hs
     rw[ho] at hs
     simp only[guardOf,hg,hop] at hs
     simp only[mq,mo,BF,uw,tD,tF,tG,tH,tJ,hx,hj] at hs
     split at hs
     ·cases hs
     ·rename_i e' ob' he
      cases hs
      simp only[fm,ff] at he
      obtain⟨a,ha,rfl,rfl⟩:=he
      split at ha
      case h_2=>cases ha
      rename_i a' ha'
      cases ha
      simp only[fm] at ha'
      obtain⟨b,hb,rfl⟩:=ha'
      unfold sc at hb
      split at hb
      ·split at hb
       ·rename_i h2 h3;cases h2
       ·rename_i m m' ys k' n' h1 h2 h3
        cases h2;cases h3
        split at hb
        ·cases hb;rfl
        ·cases hb
       ·rename_i h1 h2 h3;cases h2
       ·cases hb
      ·cases hb
    exact uM hv (fun k=>by simp) h
   ·exact h
  ·rename_i t x k ok hg hop
   split at h
   ·rename_i b hx
    split at h
    ·rename_i k0 l hbk
     split at h
     ·rename_i k' hk
      have hv:f.v=lK ok k0 k' l:=by
       unfold ei at hs
       rw[ho] at hs
       simp only[guardOf,hg] at hs
       split at hs
       ·cases hs
       ·rename_i e' ob' he
        cases hs
        rw[hop] at he
        simp only[mq,fm] at he
        obtain⟨e2,h2,he⟩:=he
        cases he
        refine yY h2 hx (fun kb hkb=>?_) hk
        have hkb:eC σ.hp b=some kb:=by
         unfold gi at hkb
         split at hkb
         ·exact hkb
         ·cases hkb
        rw[hbk] at hkb
        exact(iL hkb).symm
      exact uK hv h
     ·exact h
    ·exact h
   ·exact h
  ·exact h
 ·exact h
def M5{R:Type}(gl:Ctx)(ops:Array Oper)(σ:St)(i:Nat)(z:List (Nat×Ty))(f:aU)(K:aU→Option R):Option R:=
 match z with
 |[]=>KG gl ops σ i f (fun f=>GD (Fp ops.toList i) f K)
 |_::_=>GD (Fp ops.toList i) f K
section
variable(P:Program) (G:bT) (gl:Ctx) (Γ:List aW)
def pK(ops:Array Oper)(σ:St)(i:Nat):Bool:=
 match ops[i]? with
 |
  some o=>match guardOf ops σ.tm o with
  |some b=>b
  |none=>false
 |none=>false
def yo(ops:Array Oper){R:Type}(i:Nat)(σ:St)(z:List (Nat×Ty))(x:Option (aU×List VC×List Prop))(K:aU→Option R):Option R:=
 match x with
 |some (f,vcs,_)=>if f.fr.all σ.eY then ifs vcs (M5 gl ops σ i z f K) else none
 |none=>none
def Ec(gl:Ctx)(ops:Array Oper)(σ:St)(i:Nat):Option aU:=
 match ops[i]? with
 |
  some o=>match o.guard,o.op with
  |
   none,.panic x=>match bG gl σ.tm x with
   | .iface t v=>some ⟨slotsOf [x],[],[],none,.iface t v,[]⟩
   |_=>none
  |_,_=>none
 |none=>none
def M6{R:Type}(x:Option (aU×List VC×List Prop))(KP:aU→Option R):Option R:=
 match x with
 |some (f,_,_)=>if f.fr.isEmpty then KP f else none
 |none=>none
def kT(ops:Array Oper)(zs:List (Nat×Nat×Ty)){R:Type}(K:List aU→St→Option R)(KP:List aU→aU→St→Option R):Nat→Nat→List CH→St→List aU→Option R
 |0,_,_,σ,fs=>K fs σ
 |
  n+1,i,cs,σ,fs=>
  if tM ops i&&pK ops σ i then(match cs with
   |
    ch::cs'=>D9 Γ ch (sF G gl ops ch.al ch.ps (Ki zs i) σ i) fun cr=>match cr.kr with
    |false=>yo gl ops i σ (Ki zs i) (ei P G gl ops cr (Ki zs i) σ i) fun f=>kT ops zs K KP n (i+1) cs' (σ.app f) (f::fs)
    |true=>M6 (ei P G gl ops cr (Ki zs i) σ i) fun f=>KP fs f σ
   |[]=>none)
  else match Ec gl ops σ i with
  |some f=>KP fs f σ
  |none=>yo gl ops i σ (Ki zs i) (ei P G gl ops OZ (Ki zs i) σ i) fun f=>kT ops zs K KP n (i+1) (if tM ops i then cs.tail else cs) (σ.app f) (f::fs)
end
theorem sH{P:Program}{G:bT}{gl:Ctx}{ops:Array Oper}{cr:CR}{z:List (Nat×Ty)}{σ:St}{i:Nat}{f:aU}{vc:List VC}{ob:List Prop}{o:Oper}(h:ei P G gl ops cr z σ i=some (f,vc,ob))(ho:ops[i]? =some o):f.dst=o.dst:=by
 unfold ei at h
 rw[ho] at h
 simp only at h
 split at h
 ·cases h
 ·cases h;rfl
 ·split at h
  ·split at h
   ·cases h
   ·cases h;rfl
  ·split at h
   ·cases h
   ·cases h;rfl
theorem yp{P:Program}{G:bT}{gl:Ctx}{ops:Array Oper}{R:Type}{i:Nat}{σ:St}{cr:CR}{z:List (Nat×Ty)}{K:aU→Option R}{r:R}{f:aU}{vc:List VC}{ob:List Prop}(hs:ei P G gl ops cr z σ i=some (f,vc,ob))(h:M5 gl ops σ i z f K=some r):K f=some r:=by
 cases z with
 |nil=>exact uJ (Dl hs h)
 |cons _ _=>exact uJ h
theorem sI{P:Program}{G:bT}(T:bB P G){gl:Ctx}{ops:Array Oper}{R:Type}{i:Nat}{σ:St}{cr:CR}{z:List (Nat×Ty)}{K:aU→Option R}{r:R}(ab4:cr.kr=false)(hob:tM ops i=true→Di P gl cr (sF G gl ops cr.al cr.ps z σ i))(h:yo gl ops i σ z (ei P G gl ops cr z σ i) K=some r):
 ∃f,(uz P gl ops i f σ∧∀o,ops[i]? =some o→f.dst=o.dst)∧(∀d∈f.fr,σ.fresh d)∧K f=some r:=by
 unfold yo at h
 split at h
 ·rename_i f vcs ob hs
  obtain⟨hf,h⟩:=bS h
  obtain⟨hv,h⟩:=fq h
  refine⟨f,⟨mR T ab4 hs hv (mI hs hob),fun o ho=>sH hs ho⟩,?_,yp hs h⟩
  intro d hd
  simp only[ky] at hf
  exact St.dK (hf d hd)
 ·cases h
theorem GI{P:Program}{G:bT}{gl:Ctx}{ops:Array Oper}{σ:St}{i:Nat}{cr:CR}{z:List (Nat×Ty)}{f:aU}{vc:List VC}{ob:List Prop}(h:ei P G gl ops cr z σ i=some (f,vc,ob))(hg:pK ops σ i=false):ob= []:=by
 unfold ei at h
 unfold pK at hg
 split at h
 ·cases h
 ·rename_i o ho
  rw[ho] at hg
  simp only at hg
  split at h
  ·cases h
  ·cases h;rfl
  ·rename_i hgd
   rw[hgd] at hg
   cases hg
theorem Ed{P:Program}{gl:Ctx}{ops:Array Oper}{σ:St}{i:Nat}{f:aU}(h:Ec gl ops σ i=some f):zd P gl ops i f σ:=by
 unfold Ec at h
 split at h
 ·rename_i o ho
  split at h
  ·rename_i x hgd hop
   split at h
   ·rename_i t v hx
    cases h
    intro σ' ha E a w hg K Q hQ
    unfold wpOpIn
    simp only[ho]
    have hw:=fH hg (ops:=ops) (o:=o) (c:=true) (by unfold guardOf;rw[hgd])
    rw[hw]
    simp only[bC]
    have hv:=fZ hg x
    rw[iR ha (x:=x) (fun t ht=>by simp only[slotsOf,List.flatMap_cons,List.flatMap_nil,eG];exact ht),hx] at hv
    obtain⟨u,e,_⟩:=RV.atom rfl hv
    simp at e
    unfold Oper.wpIn
    refine⟨fun _ _=>trivial,?_⟩
    rw[Oper.semAt_eq _ _ _ (by rw[hop];intro c h;cases h)]
    have abW:(execOp a.eval o).run P w= .halt (.panic (a.eval x)) w:=by
     simp[execOp,hop,e,Instr.panic]
    rw[abW]
    exact hQ E (a.eval x) w hg hv (Ext.refl _ _ _)
   ·cases h
  ·cases h
 ·cases h
theorem yq{ops:Array Oper}{σ:St}{i:Nat}(h1:tM ops i=true)(h2:pK ops σ i=true):∃o,ops[i]? =some o∧guardOf ops σ.tm o=some true∧ld o.op=true:=by
 unfold pK at h2
 unfold tM at h1
 split at h2
 ·rename_i o ho
  rw[ho] at h1
  split at h2
  ·rename_i b hb
   subst h2
   exact⟨o,ho,hb,h1⟩
  ·cases h2
 ·cases h2
theorem nM{P:Program}{G:bT}(T:bB P G){gl:Ctx}{Γ:List aW}(hΓ:∀C∈Γ,C.holds P gl){ops:Array Oper}{zs:List (Nat×Nat×Ty)}{R:Type}{K:List aU→St→Option R}{KP:List aU→aU→St→Option R}{r:R}:
 ∀{n i:Nat}{cs:List CH}{σ:St}{fs:List aU},kT P G gl Γ ops zs K KP n i cs σ fs=some r→
  (∃gs σ',oR P gl ops i gs σ σ'∧gs.length=n∧(∀(k:Nat)(f:aU)(o:Oper),gs[k]? =some f→ops[i+k]? =some o→f.dst=o.dst)∧K (gs.reverse++fs) σ'=some r)∨
  ∃gs f σ',oR P gl ops i gs σ σ'∧gs.length<n∧zd P gl ops (i+gs.length) f σ'∧KP (gs.reverse++fs) f σ'=some r
 |0,i,cs,σ,fs,h=>Or.inl ⟨[],σ,rfl,rfl,(fun k f o h=>by simp at h),h⟩
 |
  n+1,i,cs,σ,fs,h=>by
  unfold kT at h
  have fin:∀{f:aU}{cs':List CH},(uz P gl ops i f σ∧∀o,ops[i]? =some o→f.dst=o.dst)→(∀d∈f.fr,σ.fresh d)→kT P G gl Γ ops zs K KP n (i+1) cs' (σ.app f) (f::fs)=some r→
   (∃gs σ',oR P gl ops i gs σ σ'∧gs.length=n+1∧(∀(k:Nat)(f:aU)(o:Oper),gs[k]? =some f→ops[i+k]? =some o→f.dst=o.dst)∧K (gs.reverse++fs) σ'=some r)∨
   ∃gs f σ',oR P gl ops i gs σ σ'∧gs.length<n+1∧zd P gl ops (i+gs.length) f σ'∧KP (gs.reverse++fs) f σ'=some r:=by
   intro f cs' h1 h2 h3
   rcases nM T hΓ h3 with⟨gs,σ',k1,k2,kd,k3⟩|⟨gs,f',σ',k1,k2,kp,k3⟩
   ·refine Or.inl ⟨f::gs,σ',⟨h1.1,h2,k1⟩,by simp[k2],?_,by simpa using k3⟩
    intro k f' o hf ho
    cases k with
    |zero=>simp at hf;subst hf;exact h1.2 o ho
    |succ k=>exact kd k f' o (by simpa using hf) (by rw[←ho];congr 1;omega)
   ·exact Or.inr ⟨f::gs,f',σ',⟨h1.1,h2,k1⟩,by simp;omega,by rw[dE,show i+(gs.length+1)=i+1+gs.length from by omega];exact kp,by simpa using k3⟩
  split at h
  ·rename_i hcg
   simp only[aV] at hcg
   split at h
   ·rename_i ch cs'
    obtain⟨cr,h,hps,hks,hob⟩:=Ea hΓ h
    split at h
    ·rename_i ab4
     obtain⟨f,h1,h2,h3⟩:=sI T ab4 (fun _=>by rw[hps,CH.J5 hps hks];exact hob) h
     exact fin h1 h2 h3
    ·rename_i ab4
     unfold M6 at h
     split at h
     ·rename_i f vcs ob hs
      obtain⟨hf,h⟩:=bS h
      obtain⟨o,ho,hgd,hcl⟩:=yq hcg.1 hcg.2
      exact Or.inr ⟨[],f,σ,rfl,by simp,A1 T ab4 ho hgd hcl hs (mI hs (fun _=>by rw[hps,CH.J5 hps hks];exact hob)) (by simpa using hf),by simpa using h⟩
     ·cases h
   ·cases h
  ·rename_i hc
   split at h
   ·rename_i f hf
    exact Or.inr ⟨[],f,σ,rfl,by simp,Ed hf,by simpa using h⟩
   ·cases ho:tM ops i with
    |
     false=>
     rw[ho] at h
     obtain⟨f,h1,h2,h3⟩:=sI T rfl (fun e=>by rw[ho] at e;cases e) h
     exact fin h1 h2 h3
    |
     true=>
     rw[ho] at h hc
     have hg:pK ops σ i=false:=by simpa using hc
     unfold yo at h
     split at h
     ·rename_i f vcs ob hs
      obtain⟨hf,h⟩:=bS h
      obtain⟨hv,h⟩:=fq h
      refine fin ⟨mR T rfl hs hv (by rw[GI hs hg];intro p hp;cases hp),fun o ho=>sH hs ho⟩ ?_ (yp hs h)
      intro d hd
      simp only[ky] at hf
      exact St.dK (hf d hd)
     ·cases h
section
variable(P:Program) (G:bT) (gl:Ctx)
def mJ(ops:Array Oper)(draw:Bool)(z p:Nat)(masks:List Nat){R:Type}(K:List aU→Option R):Nat→Nat→St→List aU→Option R
 |0,_,_,gs=>K gs.reverse
 |
  n+1,j,σ,gs=>if !draw||(masks.getD j 0).testBit p then mJ ops draw z p masks K n (j+1) σ (CI z::gs)
  else if tM ops j then none else match ei P G gl ops OZ [] σ j with
   |some (f,vcs,_)=>if f.fr.isEmpty&&IT z [f] then ifs vcs (mJ ops draw z p masks K n (j+1) (σ.app f) (f::gs)) else none
   |none=>none
end
theorem nN{P:Program}{G:bT}(T:bB P G){gl:Ctx}{ops:Array Oper}{draw:Bool}{z p:Nat}{masks:List Nat}{R:Type}{K:List aU→Option R}{r:R}:∀{n j:Nat}{σ:St}{gs:List aU},mJ P G gl ops draw z p masks K n j σ gs=some r→
 ∃ms σ',(σ.hp[z]? =some (some Bc)→ck (Bd P gl ops z) j ms σ σ')∧ms.length=n∧IT z ms=true∧K (gs.reverse++ms)=some r
 |0,j,σ,gs,h=>⟨[],σ,fun _=>rfl,rfl,rfl,by simpa[mJ] using h⟩
 |
  n+1,j,σ,gs,h=>by
  unfold mJ at h
  split at h
  ·obtain⟨ms,σ',h1,h2,h3,h4⟩:=nN T h
   refine⟨CI z::ms,σ',fun hz=>⟨Or.inr ⟨rfl,hz⟩,(fun d hd=>by cases hd),h1 hz⟩,by simp[h2],by simp only[IT,List.all_cons,aV] at h3 ⊢;exact⟨rfl,h3⟩,by simpa using h4⟩
  ·split at h
   ·cases h
   ·rename_i ho
    split at h
    ·rename_i f vcs ob hs
     obtain⟨hf,h⟩:=bS h
     obtain⟨hv,h⟩:=fq h
     simp only[aV,List.isEmpty_iff] at hf
     obtain⟨ms,σ',h1,h2,h3,h4⟩:=nN T h
     have hob:=mI (cr:=OZ) hs (fun e=>absurd e ho)
     have hnz:IT z (f::ms)=true:=by
      have:=hf.2
      simp only[IT,List.all_cons,List.all_nil,Bool.and_true,aV] at this h3 ⊢
      exact⟨this,h3⟩
     refine⟨f::ms,σ',fun hz=>⟨Or.inl (mR T rfl hs hv hob),(fun d hd=>by rw[hf.1] at hd;cases hd),h1 ?_⟩,by simp[h2],hnz,by simpa using h4⟩
     have hq:ck (fun _ _ _=>True) j [f] σ (σ.app f):=⟨trivial,(fun d hd=>by rw[hf.1] at hd;cases hd),rfl⟩
     exact ck.at hq hf.2 hz
    ·cases h
def O0{α:Type}:List (Nat×α)→Nat→Option α
 |[],_=>none
 |(i,x)::l,j=>if Nat.beq i j then some x else O0 l j
def pL:Code→Option Nat
 | .region id _ _=>some id
 |
  .seq a b=>match pL a with
  |some i=>some i
  |none=>pL b
 |
  .cond _ a b=>match pL a with
  |some i=>some i
  |none=>pL b
 | .block _ c| .loop c| .scope c=>pL c
 |_=>none
def GJ{α:Type}(l:List (Nat×α))(c:Code):Option α:=
 match pL c with
 |some i=>O0 l i
 |none=>none
def aK{U R:Type}(F:(U→Option R)→U→Option R)(n:Nat):U→Option R:=
 @Nat.rec (fun _=>U→Option R) (fun _=>none) (fun _ ih=>F ih) n
def aG{U R:Type}(x:Option (cW U R))(f:U→Option R):Option R:=
 Option.bind x fun o=>match o with
  | .brk d=>f d
  | .ret r=>some r
def cn{U R:Type}(x:Option R):Option (cW U R):=x.map .ret
theorem zT{U R:Type}{x:Option (cW U R)}{f:U→Option R}{r:R}(h:aG x f=some r):(∃d,x=some (.brk d)∧f d=some r)∨x=some (.ret r):=by
 obtain⟨o,ho,h⟩:=bind_some h
 cases o with
 |brk d=>exact Or.inl ⟨d,ho,h⟩
 |ret r'=>cases h;exact Or.inr ho
def GK(ops:Array Oper):Bool:=ops.toList.any fun o=>match o.op with
 | .defer _=>true
 |_=>false
def sJ{R:Type}(F:YC→Option R):Option R:=
 @dite _ (∃r,∀y,F y=some r) (Classical.propDecidable _) (fun h=>some h.choose) fun _=>none
theorem Dm{R:Type}{F:YC→Option R}{r:R}(h:sJ F=some r)(y:YC):F y=some r:=by
 unfold sJ at h
 split at h
 ·rename_i hx
  cases h
  exact hx.choose_spec y
 ·cases h
def DZ{R:Type}(a b:YC)(x:Option R):Option R:=@ite _ (a=b) (Classical.propDecidable _) x none
structure IC where
 A:List Sh
 B:List (Nat×fg)
 m:Nat
 k0:Nat
 R:List (Nat×fg)
 MH:Nat→(prod (rq A (iy B []))→Option (gC (Bool::YC::Nat::iy R [])))→aW
def IC.T(C:IC):List Type:=Bool::YC::Nat::iy C.R []
def IC.Y(C:IC)(l:Nat)(f:prod (rq C.A (iy C.B []))→Option (gC C.T)):aW:=
 ⟨.yield l,C.A,C.B,C.m,⟨1,C.m,[(0,.val .bool)],(C.k0,.lp)::C.R,[]⟩,fun r=>.val .bool (pI C.T r).1,fun r=>(C.k0,.lp (pI C.T r).2.1 (pI C.T r).2.2.1)::nC y0 C.R (pI C.T r).2.2.2,.bH f⟩
def IC.holds(P:Program)(gl:Ctx)(C:IC):Prop:=∀B hB l f,(C.Y l f).holds P (gl.wB B hB)→(C.MH l f).holds P (gl.wB B hB)
def ux:Option aN→Bool
 |some (.tv _ _ _)=>true
 |_=>false
def uy:List (Option aN)→Bool
 |[]=>true
 |x::l=> !ux x&&uy l
theorem BN:∀{l:List (Option aN)},uy l=true→∀(i g:Nat)(t:Ty)(v:AV),l[i]? ≠some (some (.tv g t v))
 |[],_,i,g,t,v=>by simp
 |
  x::l,h,i,g,t,v=>by
  simp only[uy,aV] at h
  cases i with
  |zero=>intro e;simp at e;subst e;exact absurd h.1 (by simp[ux])
  |succ i=>simpa using BN h.2 i g t v
def Ee(y:YC)(ti:List (Nat×Ty))(k0:Nat):Nat→List (Option aN)→Option (List VC×List (Option aN))
 |_,[]=>some ([],[])
 |
  i,x::l=>match Ee y ti k0 (i+1) l with
  |none=>none
  |
   some (vs,H)=>if Nat.beq i k0 then(match x with
    |some (.lp y' j)=>some (⟨y'=y,Classical.propDecidable _⟩::vc (j=0)::vs,none::H)
    |_=>none)
   else match x with
    |none=>some (vs,none::H)
    |some (.tv g t v)=>if lS i ti then some (vc (g=y.gs i)::vs,some (.var t v)::H) else none
    |some (.var t v)=>if lS i ti then none else some (vs,some (.var t v)::H)
    |some k=>some (vs,some k::H)
theorem rG{y:YC}{ti:List (Nat×Ty)}{k0:Nat}:∀{X:List (Option aN)}{s:Nat}{vs:List VC}{H:List (Option aN)},Ee y ti k0 s X=some (vs,H)→dH vs→
 H.length=X.length∧(∀i,s+i=k0→i<X.length→X[i]? =some (some (.lp y 0))∧H[i]? =some none)∧(∀i,s+i≠k0→X[i]? =(tie y.gs ti s H)[i]?)∧uy H=true
 |[],s,vs,H,h,_=>by cases h;exact⟨rfl,fun i _ hi=>by simp at hi,fun i _=>rfl,rfl⟩
 |
  x::l,s,vs,H,h,hv=>by
  unfold Ee at h
  split at h
  ·cases h
  ·rename_i vs' H' hr
   have step:∀{k:Option aN}{k':Option aN},dH vs'→Nat.beq s k0=false→x=k→(∀L,(tie y.gs ti s (k'::L))=k::tie y.gs ti (s+1) L)→ux k'=false→(k'::H').length=(x::l).length∧(∀i,s+i=k0→i<(x::l).length→(x::l)[i]? =some (some (.lp y 0))∧(k'::H')[i]? =some none)∧(∀i,s+i≠k0→(x::l)[i]? =(tie y.gs ti s (k'::H'))[i]?)∧uy (k'::H')=true:=by
    intro k k' hv' hb hx ht hnt
    obtain⟨h1,h2,h3,h4⟩:=rG hr hv'
    have hne:s≠k0:=fun e=>by rw[e,Nat.beq_refl] at hb;cases hb
    refine⟨by simp[h1],?_,?_,by simp[uy,hnt,h4]⟩
    ·intro i hi hl
     cases i with
     |zero=>exact absurd hi hne
     |succ i=>exact h2 i (by omega) (by simpa using hl)
    ·intro i hi
     rw[ht,hx]
     cases i with
     |zero=>rfl
     |succ i=>simpa using h3 i (by omega)
   split at h
   ·rename_i hb
    have hs:=bQ hb
    subst hs
    split at h
    ·rename_i y' j
     cases h
     obtain⟨e1,e2,hv'⟩:=hv
     have e1:y'=y:=e1
     have e2:j=0:=e2
     subst e1;subst e2
     obtain⟨h1,h2,h3,h4⟩:=rG hr hv'
     refine⟨by simp[h1],?_,?_,by simp[uy,ux,h4]⟩
     ·intro i hi _
      have:i=0:=by omega
      subst this
      exact⟨rfl,rfl⟩
     ·intro i hi
      cases i with
      |zero=>exact absurd rfl hi
      |succ i=>simpa[tie] using h3 i (by omega)
    ·cases h
   ·rename_i hb
    have hb:Nat.beq s k0=false:=by cases hq:Nat.beq s k0 with|false=>rfl|true=>exact absurd hq hb
    split at h
    ·cases h;exact step hv hb rfl (fun L=>rfl) rfl
    ·rename_i g t v
     obtain⟨ht,h⟩:=bS h
     cases h
     obtain⟨e1,hv'⟩:=hv
     have e1:g=y.gs s:=e1
     subst e1
     exact step hv' hb rfl (fun L=>by simp[tie,mB,ht]) rfl
    ·rename_i t v
     split at h
     ·cases h
     ·rename_i ht
      cases h;exact step hv hb rfl (fun L=>by simp[tie,mB,ht]) rfl
    ·rename_i k n1 n2
     cases h
     refine step hv hb rfl (fun L=>?_) ?_
     ·cases k with
      |var t v=>exact absurd rfl (n2 t v)
      |_=>rfl
     ·cases k with
      |tv g t v=>exact absurd rfl (n1 g t v)
      |_=>rfl
def uN(p:Code→Bool):List Code→Nat→Option Nat
 |[],_=>none
 |c::l,n=>if p c then some n else uN p l (n+1)
def J6:Code→Bool
 | .ret=>true
 |_=>false
def Ef(i:Nat):Code→Bool
 | .exit j=>Nat.beq i j
 |_=>false
def GL(jl:List Code):fI→Option Nat
 | .normal=>some 0
 | .ret=>uN J6 jl 1
 | .exit i=>uN (Ef i) jl 1
 | .panic _=>none
theorem yr{p:Code→Bool}:∀{l:List Code}{n j:Nat},uN p l n=some j→n≤j∧∃c,l[j -n]? =some c∧p c=true
 |[],_,_,h=>by cases h
 |
  c::l,n,j,h=>by
  unfold uN at h
  split at h
  ·rename_i hp;cases h;exact⟨cq _,c,by simp,hp⟩
  ·obtain⟨h1,c',h2,h3⟩:=yr h
   refine⟨by omega,c',?_,h3⟩
   rw[show j -n=(j -(n+1))+1 by omega]
   simpa using h2
theorem uO{p:Code→Bool}{jl:List Code}{j:Nat}(h:uN p jl 1=some j):j≠0∧∃c,jmp jl j=some c∧p c=true:=by
 obtain⟨h1,c,h2,h3⟩:=yr h
 refine⟨by omega,c,?_,h3⟩
 cases j with
 |zero=>omega
 |succ j=>simpa[jmp] using h2
def KH{R:Type}(c:Code)(σ:St)(k:fI→St→Option R):Option R:=
 match c with
 | .ret=>k .ret σ
 | .exit i=>k (.exit i) σ
 |_=>none
def GM{R:Type}(σ:St)(k:fI→St→Option R)(j:Nat):List Code→Nat→Option R
 |[],_=>none
 |c::l,n=>if j=n then KH c σ k else GM σ k j l (n+1)
def KJ{R:Type}(jl:List Code)(j:Nat)(σ:St)(k:fI→St→Option R):Option R:=if j=0 then k .normal σ else GM σ k j jl 1
theorem BO{R:Type}{σ:St}{k:fI→St→Option R}{j:Nat}{r:R}:∀{l:List Code}{n:Nat},GM σ k j l n=some r→n≤j∧∃c,l[j -n]? =some c∧KH c σ k=some r
 |[],_,h=>by cases h
 |
  c::l,n,h=>by
  unfold GM at h
  split at h
  ·rename_i hp;subst hp;exact⟨cq _,c,by simp,h⟩
  ·obtain⟨h1,c',h2,h3⟩:=BO h
   refine⟨by omega,c',?_,h3⟩
   rw[show j -n=(j -(n+1))+1 by omega]
   simpa using h2
theorem GN{P:Program}{gl:Ctx}{R:Type}{jl:List Code}{j:Nat}{σ:St}{k:fI→St→Option R}{r:R}(h:KJ jl j σ k=some r):match jmp jl j with
 |none=>k .normal σ=some r
 |some c=>cX P gl c σ (fun e σ'=>k e σ'=some r):=by
 unfold KJ at h
 split at h
 ·rename_i hj;subst hj;exact h
 ·obtain⟨h1,c,h2,h3⟩:=BO h
  have hj:jmp jl j=some c:=by
   cases j with
   |zero=>omega
   |succ j=>simpa[jmp] using h2
  rw[hj]
  simp only
  unfold KH at h3
  split at h3
  ·exact cX.ret h3
  ·exact cX.exit h3
  ·cases h3
def Eg(y:YC)(rh:GC)(C:IC):fI→St→Option (gC (Nat::iy C.R [])):=fun e σ=>
 match GL rh.jl e,rh.E.sg σ with
 |
  some j,some u=>if uy (rh.E.st y0 u).hp&&Nat.ble C.m (rh.E.st y0 u).hp.length then(match NF C.R (l:=[]) (tie y.gs rh.ti 0 (rh.E.st y0 u).hp) () with
  |some e=>some (Kj (Nat::iy C.R []) (j,e))
  |none=>none) else none
 |_,_=>none
def MI(y:YC)(rh:GC)(C:IC)(ps:Array Tmp)(σ:St)(wA wB:St→(fI→St→Option (gC (Nat::iy C.R [])))→Option (gC (Nat::iy C.R []))):prod (rq C.A (iy C.B []))→Option (gC C.T):=fun d=>
 match Ee y rh.ti C.k0 0 (aO (List.replicate C.m none) (di (nC y0 C.B (xD C.A d)))) with
 |
  some (vcs,H0)=>ifs vcs (if Nat.beq ps.size (xC y0 C.A d).length&&pw H0 rh.ti then(Option.bind (wA ⟨nD (ps.toList.zip (xC y0 C.A d)) (D2 rh.m σ.tm),H0,[]⟩ (fun e σ1=>match e with
  | .normal=>wB σ1 (Eg y rh C)
  |_=>none)) fun r=>match Ee y rh.ti C.m 0 (dk C.m (nC y0 C.R (pI (Nat::iy C.R []) r).2)) with
  |some (vs,H1)=>ifs vs (if pw H1 rh.ti then some (Kj C.T (Nat.beq (pI (Nat::iy C.R []) r).1 0,y,(pI (Nat::iy C.R []) r).1,(pI (Nat::iy C.R []) r).2)) else none)
  |none=>none) else none)
 |none=>none
def KK(σ:St)(rh:GC)(C:IC)(cs:AV):Bool:=
 σ.eY rh.dI&&σ.eY rh.lI&& !Nat.beq rh.dI rh.lI&&Nat.blt C.k0 16&&Nat.blt C.k0 C.m&& !lS C.k0 rh.ti&&NP σ.hp rh.ti rh.m&&kq (rh.m.map (·.2))&&cs.atoms&&C.R.all fun x=> !Nat.beq x.1 C.k0
def J7(σ:St)(y:YC)(rh:GC)(cr:CR){R:Type}(k:fI→St→Option R):Option R:=
 match cr.r with
 |
  .gC .nil=>if xi cr []&&((cr.ns.map (·.2)).all (fun b=>({σ with hp:=qg y rh.m rh.dI rh.lI σ.hp,df:=.mp rh.dI::σ.df}:St).eY b)) then(match(aO (qg y rh.m rh.dI rh.lI σ.hp) (lQ (cr.al++cr.ns) cr.out (cr.ps++cr.ns)))[rh.lI]? with
  |some (some (.lp y' j))=>ifs [⟨y'=y,Classical.propDecidable _⟩] (KJ rh.jl j ⟨σ.tm,D3 ((aO (qg y rh.m rh.dI rh.lI σ.hp) (lQ (cr.al++cr.ns) cr.out (cr.ps++cr.ns))).set rh.lI none),.mp rh.dI::σ.df⟩ k)
  |_=>none) else none
 |_=>none
def KL(σ:St)(y:YC)(rh:GC)(gf:FuncId)(cs:AV)(C2:aW){R:Type}(k:fI→St→Option R):Option R:=
 match lO (swp rh.ps) (eC (qg y rh.m rh.dI rh.lI σ.hp)) (((.func (.yield y.l) .nil .nil,Ty.unit))::cs.toList.map (fun x=>(x,Ty.unit))),iZ (swp rh.ps) (eC (qg y rh.m rh.dI rh.lI σ.hp)) rh.ps with
 |
  some (L,[]),some ins=>OY (.func gf) C2.fn (match C2.get L ins with
  |some d=>C2.f.run d (fun r=>J7 σ y rh ⟨C2.res r,rh.ps,rh.ns,C2.out r,C2.m,false,[],[]⟩ k) (fun _=>none)
  |none=>none) none
 |_,_=>none
section
variable(P:Program) (G:bT) (gl:Ctx) (fr:Bool) (H:Hs) (Γ:List aW)
def forget:List Oper→List AV→List AV
 |[],tm=>tm
 |
  o::l,tm=>forget l (match o.dst with
  |some d=>tm.set d .bot
  |none=>tm)
def KM:List (Nat×Ty)→List Type
 |[]=>[]
 |(_,t)::l=>t.den::KM l
def O3:(l:List (Nat×Ty))→List AV→Option (prod (KM l))
 |[],_=>some ()
 |
  (i,t)::l,tm=>match tm[i]? with
  |
   some (.val u x)=>if h:Ty.same u t=true then(match O3 l tm with
   |some d=>some (tR h x,d)
   |none=>none) else none
  |_=>none
def O4:(l:List (Nat×Ty))→prod (KM l)→List (Nat×AV)
 |[],_=>[]
 |(i,t)::l,d=>(i,.val t d.1)::O4 l d.2
def KN(ops:Array Oper)(l:List (Nat×Ty))(σ:St)(t:gC (KM l)):St:={σ with tm:=mA (O4 l (pI (KM l) t)) (forget ops.toList σ.tm)}
def GO{R:Type}(ops:Array Oper)(draw:Bool)(σ:St)(k:St→Option R)(fs:List aU)(σ':St):Option R:=
 if draw then(if lH ops fs.reverse&&iQ σ fs.reverse then k σ' else none) else k σ'
def Dn(fs:List aU):Bool:=fs.all fun f=>f.hw.isEmpty
def Eh{R:Type}(ops:Array Oper)(draw:Bool)(σ:St)(k:fI→St→Option R)(fs:List aU)(f:aU)(σp:St):Option R:=
 if Nat.blt (σ.hp.length -1) σ.hp.length&&f.v.plain then
  mJ P G gl ops draw (σ.hp.length -1) fs.length (if draw then qb ops.toList [] else[]) (fun gs=>
   if draw then(if lH ops (jL fs.reverse f (σ.hp.length -1) gs)&&iQ σ (jL fs.reverse f (σ.hp.length -1) gs) then k (.panic f.v) (tW fs.reverse f (σ.hp.length -1) gs σ) else none)
   else k (.panic f.v) (tW fs.reverse f (σ.hp.length -1) gs σ)) (ops.size -fs.length -1) (fs.length+1) (σp.app (tV f (σ.hp.length -1))) [] else none
def zU(ops:Array Oper)(draw:Bool)(σ:St):Option St:=
 match draw,ops with
 |
  false,⟨[o0,o1]⟩=>if ld o0.op then none else match ei P G gl ops OZ [] σ 0 with
  |
   some (f,[],_)=>match f.fr.all σ.eY,o1.op,o1.guard,o1.dst with
   |
    true,.defer {callee:=.value x,args:=⟨[]⟩,argTypes:=⟨[]⟩},none,none=>match bG gl (σ.app f).tm x with
    | .func fn .nil cs=>some {σ.app f with df:=.func fn .nil cs::(σ.app f).df}
    |_=>none
   |_,_,_,_=>none
  |_=>none
 |_,_=>none
def zV(ops:Array Oper):Option (Nat×Nat×Nat):=
 match ops with
 |
  ⟨[o0,o1]⟩=>match o0.op,o0.guard,o0.dst,o1.op,o1.guard,o1.dst with
  | .next (.tmp s) false,none,some d,.extract (.tmp d') 0,none,some d1=>if Nat.beq d' d then some (s,d,d1) else none
  |_,_,_,_,_,_=>none
 |_=>none
def Ei(s d d1:Nat){R:Type}(σ:St)(k:fI→St→Option R):Option R:=
 match σ.tm[s]? with
 |
  some (.ptr b [])=>match eC σ.hp b with
  |
   some (.lP kt vt rest _)=>if Nat.blt d σ.tm.length then(if rest.isEmpty=true then k .normal ((σ.put (some d) .bot).put (some d1) (.val .bool false))
   else DJ rest fun x l=>k .normal ((({σ with hp:=σ.hp.set b (some (.lP kt vt l (some x)))}:St).put (some d) .bot).put (some d1) (.val .bool true))) else none
  |_=>none
 |_=>none
def oA(ops:Array Oper)(draw:Bool)(zs:List (Nat×Nat×Ty))(cs:List CH)(mg:Option (List (Nat×Ty))){R:Type}(σ:St)(k:fI→St→Option R):Option R:=
 if GK ops then(if fr then(match zU P G gl ops draw σ with
  |some σ'=>k .normal σ'
  |none=>none) else none) else
 match if draw then none else zV ops with
 |some (s,d,d1)=>Ei s d d1 σ k
 |none=>match mg with
 |none=>kT P G gl Γ ops zs (GO ops draw σ (k .normal)) (Eh P G gl ops draw σ k) ops.size 0 cs σ []
 |some l=>Option.bind (kT P G gl Γ ops zs (fun fs σ'=>if Dn fs then GO ops draw σ (fun σ'=>(O3 l σ'.tm).map (Kj (KM l))) fs σ' else none) (fun _ _ _=>none) ops.size 0 cs σ []) fun d=>k .normal (KN ops l σ d)
def Ej{R:Type}:List (Nat×Nat)→St→(St→Option R)→Option R
 |[],σ,K=>K σ
 |
  (b,s)::l,σ,K=>match σ.tm[s]?,eC σ.hp b with
  |
   some (.val (.int _) n),some (.row _ _ _ xs)=>ifs [vc (0≤n),vc (n<xs.length)] (match vp b n.toNat σ with
   |some σ'=>Ej l σ' K
   |none=>none)
  |
   some (.ptr c [.idx i]),some (.row _ _ _ _)=>if Nat.beq c b then(match vp b i σ with
   |some σ'=>Ej l {σ' with tm:=σ'.tm.set s (.ptr b [.cD 1])} K
   |none=>none) else none
  |_,_=>none
def J8{R:Type}:List PF→St→(St→Option R)→Option R
 |[],σ,K=>K σ
 |
  .row b d k::l,σ,K=>match k.get σ,eC σ.hp b with
  |
   some (.val (.int _) n),some (.cL _ _ _ xs _ _)=>ifs [vc (0≤n),vc (n<xs.length)] (match Fw b n.toNat d σ with
   |some σ'=>J8 l σ' K
   |none=>none)
  |_,_=>none
 |
  .map mode b d k::l,σ,K=>match k.get σ with
  |
   some (.val t x)=>match FA mode b d t x σ with
   |some (vcs,σ')=>ifs vcs (J8 l σ' K)
   |none=>none
  |_=>none
 |
  .eP b::l,σ,K=>match oc b σ with
  |some σ'=>J8 l σ' K
  |none=>none
def J9{R:Type}(l:List Gh)(k:fI→St→Option R):fI→St→Option R
 |
  .normal,σ=>match ML l σ with
  |some σ'=>k .normal σ'
  |none=>none
 |e,σ=>k e σ
def vT(id:Nat)(ops:Array Oper)(draw:Bool){R:Type}(σ:St)(k:fI→St→Option R):Option R:=
 match O0 H.X1 id with
 |none=>oA P G gl fr Γ ops draw [] [] none σ k
 |
  some rh=>match ML rh.pre σ with
  |some σ0=>Ej rh.X0 σ0 fun σ0=>J8 rh.pf σ0 fun σ0=>oA P G gl fr Γ ops draw rh.zs rh.cs rh.mg σ0 (J9 rh.post k)
  |none=>none
def X3{R:Type}(S:SS)(k:fI→St→Option R):fI→St→Option (cW S.T R)
 | .normal,σ=>(S.sg σ).map .brk
 |e,σ=>cn (k e σ)
def Xe{R:Type}(id:Nat)(S:SS)(k:fI→St→Option R):fI→St→Option (cW S.T R)
 | .normal,σ=>(S.sg σ).map .brk
 | .exit i,σ=>if Nat.beq i id then(S.sg σ).map .brk else cn (k (.exit i) σ)
 |e,σ=>cn (k e σ)
def Xf{R:Type}(id:Nat)(k:fI→St→Option R):fI→St→Option R
 | .exit i,σ=>if Nat.beq i id then k .normal σ else k (.exit i) σ
 |e,σ=>k e σ
def BP{R:Type}(w:St→(fI→St→Option R)→Option R)(k:fI→St→Option R):Nat→St→Option R
 |0,_=>none
 |
  n+1,σ=>w σ fun e σ'=>match e with
  | .normal=>BP w k n σ'
  |e=>k e σ'
end
section
variable(P:Program) (G:bT) (I:List IC) (H:Hs) (Γ:List aW)
def walk:Code→Ctx→Bool→{R:Type}→St→(fI→St→Option R)→Option R
 | .skip,_,_,_,σ,k=>k .normal σ
 | .label _,_,_,_,σ,k=>k .normal σ
 | .scope c,gl,fr,_,σ,k=>walk c gl fr σ k
 | .exit i,_,_,_,σ,k=>k (.exit i) σ
 | .ret,_,_,_,σ,k=>k .ret σ
 | .region id ops draw,gl,fr,_,σ,k=>vT P G gl fr H Γ id ops draw σ k
 |
  .seq x z,gl,fr,_,σ,k=>match GJ H.join z with
  |
   none=>walk x gl fr σ fun e σ'=>match e with
   | .normal=>walk z gl fr σ' k
   |e=>k e σ'
  |some S=>aG (walk x gl fr σ (X3 S k)) fun d=>walk z gl fr (S.st y0 d) k
 |
  .cond c x z,gl,fr,_,σ,k=>match bG gl σ.tm c with
  | .val .bool b=>if b=true then walk x gl fr σ k else walk z gl fr σ k
  |_=>none
 |
  .block id c,gl,fr,_,σ,k=>match O0 H.cH id with
  |none=>walk c gl fr σ (Xf id k)
  |some S=>aG (walk c gl fr σ (Xe id S k)) fun d=>k .normal (S.st y0 d)
 |
  .loop c,gl,fr,_,σ,k=>match GJ H.X2 c with
  |some n=>BP (fun σ k=>walk c gl fr σ k) k n σ
  |
   none=>match GJ H.loop c with
   |none=>none
   |
    some L=>match L.S.sg σ with
    |none=>none
    |
     some u=>aK (fun rec u=>walk c gl fr (L.S.st y0 u) fun e σ'=>match e with
     | .normal=>Option.bind (L.S.sg σ') rec
     |e=>k e σ') (L.fuel u) u
 |
  .rangeFunc g ps assign body,gl,fr,_,σ,k=>if fr then(match GJ H.zP body with
  |none=>none
  |
   some rh=>match I[rh.ic]?,rh.S.sg σ with
   |
    some C,some u=>match bG gl (rh.S.st y0 u).tm g with
    |
     .func (.func gf) .nil cs=>if KK (rh.S.st y0 u) rh C cs then
      sJ fun y=>KL (rh.S.st y0 u) y rh gf cs (C.MH y.l (MI y rh C ps (rh.S.st y0 u) (fun σ1 k1=>walk assign (gl.ru y.l) false σ1 k1) (fun σ1 k1=>walk body (gl.ru y.l) false σ1 k1))) k
     else none
    |_=>none
   |_,_=>none) else none
 |_,_,_,_,_,_=>none
end
theorem sK:∀{l:List Oper}{tm:List AV},(forget l tm).length=tm.length
 |[],_=>rfl
 |
  o::l,tm=>by
  unfold forget
  rw[sK]
  split<;>simp
theorem sL{i:Nat}{x:AV}:∀{l:List Oper}{tm:List AV},(forget l tm)[i]? =some x→x= .bot∨(tm[i]? =some x∧∀o∈l,o.dst≠some i)
 |[],_,h=>Or.inr ⟨h,fun _ ho=>by cases ho⟩
 |
  o::l,tm,h=>by
  unfold forget at h
  rcases sL h with h|⟨h,hl⟩
  ·exact Or.inl h
  ·split at h
   ·rename_i d hd
    rw[bK] at h
    split at h
    ·split at h
     ·cases h;exact Or.inl rfl
     ·cases h
    ·rename_i hne
     refine Or.inr ⟨h,?_⟩
     intro o' ho
     rcases List.mem_cons.1 ho with rfl|ho
     ·rw[hd];intro e;cases e;exact hne rfl
     ·exact hl o' ho
   ·rename_i hd
    refine Or.inr ⟨h,?_⟩
    intro o' ho
    rcases List.mem_cons.1 ho with rfl|ho
    ·rw[hd];exact fun e=>by cases e
    ·exact hl o' ho
theorem Ek:∀{l:List (Nat×Ty)}{tm:List AV}{d:prod (KM l)},O3 l tm=some d→∀i x,(i,x)∈O4 l d→tm[i]? =some x
 |[],_,_,_,i,x,hx=>by cases hx
 |
  (j,t)::l,tm,d,h,i,x,hx=>by
  unfold O3 at h
  split at h
  ·rename_i u z hz
   split at h
   ·rename_i hs
    split at h
    ·rename_i d' hd'
     cases h
     simp only[O4,eA,ff] at hx
     rcases hx with⟨rfl,rfl⟩|hx
     ·rw[hz,vz hs]
     ·exact Ek hd' i x hx
    ·cases h
   ·cases h
  ·cases h
theorem yu{P:Program}{gl:Ctx}{ops:Array Oper}:∀{fs:List aU}{i:Nat}{σ σ':St},oR P gl ops i fs σ σ'→Dn fs=true→(∀(k:Nat)(f:aU)(o:Oper),fs[k]? =some f→ops[i+k]? =some o→f.dst=o.dst)→i+fs.length≤ops.size→
 σ'.hp=σ.hp∧σ'.df=σ.df∧σ'.tm.length=σ.tm.length∧∀t,(∀o∈ops.toList,o.dst≠some t)→σ'.tm[t]? =σ.tm[t]?
 |[],i,σ,σ',h,_,_,_=>by simp only[ck] at h;subst h;exact⟨rfl,rfl,rfl,fun _ _=>rfl⟩
 |
  f::fs,i,σ,σ',⟨_,_,h3⟩,hn,hd,hl=>by
  simp only[Dn,List.all_cons,aV,List.isEmpty_iff] at hn
  obtain⟨a,b,c,d⟩:=yu h3 (by simpa[Dn] using hn.2) (fun k f' o h1 h2=>hd (k+1) f' o (by simpa using h1) (by rw[←h2];congr 1;omega)) (by simp at hl;omega)
  refine⟨by rw[a,fU,hn.1];rfl,by rw[b,sZ],by rw[c,pZ],?_⟩
  intro t ht
  rw[d t ht]
  have hlt:i<ops.size:=by simp at hl;omega
  have:=hd 0 f ops[i] rfl (by simp[hlt])
  exact gR (by rw[this];exact ht _ (by simp))
theorem map_some{α β:Type}{x:Option α}{f:α→β}{r:β}(h:x.map f=some r):∃a,x=some a∧f a=r:=by
 cases x with
 |none=>cases h
 |some a=>exact⟨a,rfl,iL h⟩
theorem cX.M7{P:Program}{gl:Ctx}{c:Code}{σ:St}{Q:fI→St→Prop}(h:cX P gl c σ (fun e σ'=>match e with| .panic v=>Q (.panic v) σ'|e=>∃σ2,Wk gl σ' σ2∧Q e σ2)):cX P gl c σ Q:=by
 intro E a w hg
 refine wpIn_mono (h E a w hg) ?_
 rintro ex a' w' ⟨x,σ',E',h1,h2,h3,h4⟩
 cases x with
 |panic v=>exact⟨_,σ',E',h1,h2,h3,h4⟩
 |
  normal=>
  obtain⟨σ2,hw,hq⟩:=h2
  obtain⟨E2,g2,x2⟩:=hw E' a' w' h3
  cases ex<;>first|exact h1.elim|exact⟨.normal,σ2,E2,trivial,hq,g2,h4.trans x2⟩
 |
  exit i=>
  obtain⟨σ2,hw,hq⟩:=h2
  obtain⟨E2,g2,x2⟩:=hw E' a' w' h3
  cases ex<;>first|exact h1.elim|exact⟨.exit i,σ2,E2,h1,hq,g2,h4.trans x2⟩
 |
  ret=>
  obtain⟨σ2,hw,hq⟩:=h2
  obtain⟨E2,g2,x2⟩:=hw E' a' w' h3
  cases ex<;>first|exact h1.elim|exact⟨.ret,σ2,E2,trivial,hq,g2,h4.trans x2⟩
section
variable{P:Program} {G:bT} (T:bB P G) {gl:Ctx} {fr:Bool} {H:Hs} {Γ:List aW} (hΓ:∀C∈Γ,C.holds P gl)
include T hΓ
omit hΓ T in
theorem BQ{ops:Array Oper}{draw:Bool}{R:Type}{σ σ':St}{k:St→Option R}{fs:List aU}{r:R}(h:GO ops draw σ k fs σ'=some r):(draw=true→(lH ops fs.reverse&&iQ σ fs.reverse)=true)∧k σ'=some r:=by
 unfold GO at h
 cases draw with
 |false=>exact⟨fun e=>(qD e).elim,h⟩
 |
  true=>
  rw[aA rfl] at h
  obtain⟨h1,h2⟩:=bS h
  exact⟨fun _=>h1,h2⟩
omit hΓ in
theorem Dp{id:Nat}{ops:Array Oper}{draw:Bool}{σ σ':St}{Q:fI→St→Prop}(hro:gl.ro=none)(h:zU P G gl ops draw σ=some σ')(hq:Q .normal σ'):cX P gl (.region id ops draw) σ Q:=by
 unfold zU at h
 split at h
 ·rename_i o0 o1
  split at h
  ·cases h
  rename_i hcl
  split at h
  ·rename_i f ob h0
   split at h
   ·rename_i x hfr ho hg hd
    split at h
    ·rename_i fn cs hv
     cases h
     intro E a w hgm
     refine wpIn_region ?_
     show wpOpsIn _ _ _ _ _ [0,1] _ _
     rw[wpOpsIn_cons]
     have hob:∀p∈ob,p:=mI h0 (fun e=>absurd e (by simpa[tM] using hcl))
     refine mR T rfl h0 trivial hob σ (jF.refl _ _ _) (fun d hd=>St.dK ((List.all_eq_true.1 hfr) d hd)) E a w hgm _ _ ?_
     intro E1 a1 w1 hg1 hx1
     rw[wpOpsIn_cons]
     have e1:(#[o0,o1]:Array Oper)[1]? =some o1:=rfl
     unfold wpOpIn
     simp only[e1]
     have hw:Region.wanted o1 (yielded #[o0,o1] a1.tmps)=true:=by simp[Region.wanted,hg]
     rw[aA hw]
     have hv1:=fZ hg1 x
     rw[hv] at hv1
     obtain⟨f',c',ev,r1,r2,r3,r4⟩:∃f' c',a1.eval x= .func fn f' c'∧RC E1 w1 .nil f'.toList∧RC E1 w1 cs c'.toList∧AV.nil.atoms=true∧cs.atoms=true:=by
      rcases RV.js rfl hv1 with⟨hh,_⟩|⟨_,hh⟩
      ·cases hh
      ·obtain⟨f',c',e,q⟩:=hh
       exact⟨f',c',(List.cons.inj e).1,q⟩
     have hf':f'= #[]:=by apply fw;simpa[RC] using r1
     subst hf'
     refine⟨fun _ _=>trivial,?_⟩
     have hs:(o1.semAt (Wd gl).round a1.eval).run P w1= .ok (.defer {target:=.fn fn c',args:= #[]}) w1:=by
      rw[show(Wd gl).round=none from hro,Oper.semAt_none]
      simp[execOp,ho,resolve,ev,Deferred.ofValue]
     rw[hs,Oper.uponIn_defer,hd]
     have hg2:cd gl {σ.app f with df:=.func fn .nil cs::(σ.app f).df} E1 {a1 with defers:={target:=.fn fn c',args:= #[]}::a1.defers} w1:=
      ⟨hg1.len,hg1.tm,hg1.hw,⟨⟨#[],c',rfl,r1,r2,r3,r4⟩,hg1.df⟩⟩
     exact⟨.normal,_,E1,trivial,hq,hg2,hx1⟩
    ·cases h
   ·cases h
  ·cases h
 ·cases h
omit T hΓ in
theorem El{id:Nat}{ops:Array Oper}{s d d1:Nat}(hn:zV ops=some (s,d,d1)){R:Type}{σ:St}{k:fI→St→Option R}{r:R}(h:Ei s d d1 σ k=some r):cX P gl (.region id ops false) σ (fun e σ'=>k e σ'=some r):=by
 unfold zV at hn
 split at hn
 ·rename_i o0 o1
  split at hn
  ·rename_i s' d' d'' d1' h0 hg0 hd0 h1 hg1 hd1
   obtain⟨hd,hn⟩:=bS hn
   cases hn
   have hd:=bQ hd
   subst hd
   unfold Ei at h
   split at h
   ·rename_i b hs
    split at h
    ·rename_i kt vt rest cur hb
     obtain⟨hl,h⟩:=bS h
     refine cX.next h0 hg0 hd0 h1 hg1 hd1 hs (cw _ b _ hb) hl ?_ ?_
     ·intro e
      rw[aA (by rw[e];rfl)] at h
      exact h
     ·intro i hi
      rw[aC (by cases rest with
       |nil=>simp at hi
       |cons _ _=>simp)] at h
      exact DK h i hi
    ·cases h
   ·cases h
  ·cases hn
 ·cases hn
variable(hro:fr=true→gl.ro=none)
include hro
theorem qy{id:Nat}{ops:Array Oper}{draw:Bool}{zs:List (Nat×Nat×Ty)}{cs:List CH}{mg:Option (List (Nat×Ty))}{R:Type}{σ:St}{k:fI→St→Option R}{r:R}(h:oA P G gl fr Γ ops draw zs cs mg σ k=some r):cX P gl (.region id ops draw) σ (fun e σ'=>k e σ'=some r):=by
 have key:∀{gs:List aU}{σ':St}{Q:fI→St→Prop},oR P gl ops 0 gs σ σ'→gs.length=ops.size→(draw=true→(lH ops gs&&iQ σ gs)=true)→Q .normal σ'→cX P gl (.region id ops draw) σ Q:=by
  intro gs σ' Q hc hn fV hq
  cases draw with
  |false=>exact fun E _ _ hg=>Au hn hc hg (fun E' _ _ h1 h2=>⟨.normal,σ',E',trivial,hq,h1,h2⟩)
  |
   true=>
   have fV:=fV rfl
   simp only[aV] at fV
   exact fun E _ _ hg=>Aw T fV.1 fV.2 hc hg (fun E' _ _ h1 h2=>⟨.normal,σ',E',trivial,hq,h1,h2⟩)
 unfold oA at h
 split at h
 ·obtain⟨hf,h⟩:=bS h
  split at h
  ·rename_i σ' hd
   exact Dp T (hro hf) hd h
  ·cases h
 split at h
 ·rename_i s d d1 hn
  cases draw with
  |true=>rw[aA rfl] at hn;cases hn
  |false=>rw[aC qD] at hn;exact El hn h
 split at h
 ·rcases nM T hΓ h with⟨gs,σ',hc,hn,_,hk⟩|⟨gs,f,σ',hc,hn,hp,hk⟩
  ·simp only[eG] at hk
   obtain⟨h1,h2⟩:=BQ hk
   simp only[List.reverse_reverse] at h1
   exact key hc hn h1 h2
  ·simp only[eG] at hk
   unfold Eh at hk
   simp only[List.reverse_reverse,List.length_reverse] at hk
   obtain⟨h1,h2⟩:=bS hk
   simp only[aV] at h1
   rw[cZ] at hp
   have hz:σ.hp.length -1<σ.hp.length:=by have:=h1.1;simp[Nat.blt] at this;omega
   obtain⟨ms,σe,k1,k2,k3,k4⟩:=nN T h2
   simp only[List.reverse_nil,gO] at k4
   have hze:(σ'.app (tV f (σ.hp.length -1))).hp[σ.hp.length -1]? =some (some Bc):=by
    rw[fU]
    simp only[tV,aO,bK,bC]
    rw[aA (by rw[ck.hl hc];exact hz)]
   have k1:=k1 hze
   cases draw with
   |false=>exact tX T hc hp k1 k3 hz (by omega) (fun e=>(qD e).elim) h1.2 k4
   |
    true=>
    rw[aA rfl] at k4
    obtain⟨q3,q4⟩:=bS k4
    exact tX T hc hp k1 k3 hz (by omega) (fun _=>q3) h1.2 q4
 ·rename_i l
  obtain⟨d,hd,h⟩:=bind_some h
  rcases nM T hΓ hd with⟨gs,σ',hc,hn,hdst,hk⟩|⟨_,_,_,_,_,_,hk⟩
  case inr=>cases hk
  simp only[eG] at hk
  obtain⟨hw,hk⟩:=bS hk
  obtain⟨h1,h2⟩:=BQ hk
  simp only[List.reverse_reverse] at h1
  have hw':Dn gs=true:=by simpa[Dn] using hw
  obtain⟨e1,e2,e3,e4⟩:=yu hc hw' hdst (by omega)
  obtain⟨t,ht,rfl⟩:=map_some h2
  refine cX.M7 (key hc hn h1 ⟨_,?_,h⟩)
  refine Wk.sub ?_ ?_ ?_ ?_
  ·simp only[KN,od,sK,e3]
  ·intro i x hx
   simp only[KN] at hx
   rw[pv] at hx
   rcases lh hx with hx|hx
   ·exact Or.inr (Ek ht i x hx)
   ·rcases sL hx with hx|⟨hx,ho⟩
    ·exact Or.inl hx
    ·exact Or.inr (by rw[e4 i ho];exact hx)
  ·intro b k hk;rw[e1];exact hk
  ·rw[e2];rfl
omit T hΓ hro in
theorem vU{R:Type}{r:R}{K:St→Option R}:∀{l:List (Nat×Nat)}{σ:St},Ej l σ K=some r→∃σ',Wk gl σ σ'∧K σ'=some r
 |[],σ,h=>⟨σ,Wk.refl gl σ,h⟩
 |
  (b,s)::l,σ,h=>by
  unfold Ej at h
  split at h
  ·rename_i k n e bs t xs hs hb
   obtain⟨hv,h⟩:=fq h
   split at h
   ·rename_i σ1 h1
    obtain⟨σ',h2,h3⟩:=vU h
    refine⟨σ',Wk.trans (Wk.T6 h1 ?_) h2,h3⟩
    intro e' bs' t' xs' hb'
    rw[hb] at hb'
    cases hb'
    exact(Int.toNat_lt hv.1).2 hv.2.1
   ·cases h
  ·rename_i c i e bs t xs hs hb
   obtain⟨hc,h⟩:=bS h
   have hc:=bQ hc
   subst hc
   split at h
   ·rename_i σ1 h1
    obtain⟨σ',h2,h3⟩:=vU h
    exact⟨σ',Wk.trans (Wk.T8 hs h1) h2,h3⟩
   ·cases h
  ·cases h
omit T hΓ hro in
theorem vV{R:Type}{r:R}{K:St→Option R}:∀{l:List PF}{σ:St},J8 l σ K=some r→∃σ',Wk gl σ σ'∧K σ'=some r
 |[],σ,h=>⟨σ,Wk.refl gl σ,h⟩
 |
  .row b d k::l,σ,h=>by
  unfold J8 at h
  split at h
  ·rename_i kk n e bs t xs e2 f hs hb
   obtain⟨hv,h⟩:=fq h
   split at h
   ·rename_i σ1 h1
    obtain⟨σ',h2,h3⟩:=vV h
    refine⟨σ',Wk.trans (Wk.Fw h1 ?_) h2,h3⟩
    intro e' bs' t' xs' e2' f' hb'
    rw[hb] at hb'
    cases hb'
    exact(Int.toNat_lt hv.1).2 hv.2.1
   ·cases h
  ·cases h
 |
  .map mode b d k::l,σ,h=>by
  unfold J8 at h
  split at h
  ·rename_i t x hs
   split at h
   ·rename_i vcs σ1 h1
    obtain⟨hv,h⟩:=fq h
    obtain⟨σ',h2,h3⟩:=vV h
    exact⟨σ',Wk.trans (Wk.FA h1 hv) h2,h3⟩
   ·cases h
  ·cases h
 |
  .eP b::l,σ,h=>by
  unfold J8 at h
  split at h
  ·rename_i σ1 h1
   obtain⟨σ',h2,h3⟩:=vV h
   exact⟨σ',Wk.trans (Wk.oc h1) h2,h3⟩
  ·cases h
theorem zW{id:Nat}{ops:Array Oper}{draw:Bool}{R:Type}{σ:St}{k:fI→St→Option R}{r:R}(h:vT P G gl fr H Γ id ops draw σ k=some r):cX P gl (.region id ops draw) σ (fun e σ'=>k e σ'=some r):=by
 unfold vT at h
 split at h
 ·exact qy T hΓ hro h
 ·split at h
  ·rename_i σ0 h0
   obtain⟨σ1,h1,h2⟩:=vU (gl:=gl) h
   obtain⟨σ2,h3,h4⟩:=vV (gl:=gl) h2
   refine cX.post (cX.gh _ h0 (cX.wk h1 (cX.wk h3 (qy T hΓ hro h4)))) ?_ ?_
   ·intro e σ' hne he
    cases e with
    |normal=>exact absurd rfl hne
    |_=>exact he
   ·intro σ' he
    simp only[J9] at he
    split at he
    ·rename_i σ2 hg;exact⟨σ2,A6 hg,he⟩
    ·cases he
  ·cases h
omit hΓ T hro in
theorem Em{c:Code}{R:Type}{w:St→(fI→St→Option R)→Option R}(ih:∀{σ:St}{k:fI→St→Option R}{r:R},w σ k=some r→cX P gl c σ (fun e σ'=>k e σ'=some r)){k:fI→St→Option R}{r:R}{n:Nat}{σ:St}
 (h:BP w k n σ=some r):cX P gl (.loop c) σ (fun e σ'=>k e σ'=some r):=by
 refine cX.loop (fun n σ=>BP w k n σ=some r) ?_ h
 intro n σ1 hn
 cases n with
 |zero=>cases hn
 |
  succ n=>
  refine cX.mono (ih hn) ?_
  intro e σ2 he
  cases e with
  |normal=>exact⟨n,Nat.lt_succ_self n,he⟩
  |_=>exact he
omit hΓ T hro in
theorem En{c:Code}{R U:Type}{r:R}{k:fI→St→Option R}{F:(U→Option R)→U→Option R}{st:U→St}{sg:St→Option U}(hm:∀σ u,sg σ=some u→Wk gl σ (st u))
 (ih:∀{rec:U→Option R}{u:U},F rec u=some r→cX P gl c (st u) (fun e σ'=>(match e with| .normal=>Option.bind (sg σ') rec|e=>k e σ')=some r)) {n:Nat} {σ:St} {u:U} (hu:sg σ=some u)
 (h:aK F n u=some r):cX P gl (.loop c) σ (fun e σ'=>k e σ'=some r):=by
 refine cX.loop (fun n σ=>∃u,Wk gl σ (st u)∧aK F n u=some r) ?_ ⟨u,hm σ u hu,h⟩
 rintro n σ1 ⟨u1,hw,hn⟩
 cases n with
 |zero=>cases hn
 |
  succ n=>
  refine cX.wk hw (cX.mono (ih hn) ?_)
  intro e σ2 he
  cases e with
  |
   normal=>
   obtain⟨u2,h1,h2⟩:=bind_some he
   exact⟨n,Nat.lt_succ_self n,u2,hm σ2 u2 h1,h2⟩
  |_=>exact he
end
theorem Fy.up{P:Program}{C C':Ctx}{l:Nat}{A:List AV}{H H':List (Option aN)}{r:uf}(hg:C'.gl=C.gl)(hC:∀S w,C.B S w)(h:Fy P C l A H r H')(hm:C'.md=C.md):Fy P C' l A H r H':=by
 intro E w vs hv hw
 obtain⟨fn,tm,asz,bd,h1,h2⟩:=h E w vs hv (hw.ctx hg.symm (hC _ _))
 refine⟨fn,tm,asz,bd,h1,RoundIn.mono h2 ?_⟩
 rintro e w' ⟨E',r1,r2,r3⟩
 rw[←hm] at r3
 exact⟨E',r1,r2.ctx hg (hw.fT (hw.kept r3)).2,r3⟩
theorem Eo.up{P:Program}{C C':Ctx}{fn:Fn}{A:List AV}{H H':List (Option aN)}{r:uf}(hg:C'.gl=C.gl)(hC:∀S w,C.B S w)(h:Eo P C fn A H r H')(hm:C'.md=C.md):Eo P C' fn A H r H':=by
 cases fn with
 |func f=>exact Fc.up hg hC h hm
 |yield l=>exact Fy.up hg hC h hm
 |_=>exact h.elim
theorem aW.holds.up{P:Program}{gl gl':Ctx}{C:aW}(h:C.holds P gl)(hg:gl'.gl=gl.gl)(hB:∀S w,gl.B S w)(hm:gl'.md=gl.md:=by rfl):C.holds P gl':=
 ⟨fun d r hd=>Eo.up hg hB (h.ret d r hd) hm,fun d x hd=>Eo.up hg hB (h.kr d x hd) hm⟩
theorem Fy.less{P:Program}{C:Ctx}{l:Nat}{A:List AV}{H H1 H2:List (Option aN)}{r:uf}(h:Fy P C l A H r H1)(hs:∀(b:Nat)(k:aN),H2[b]? =some (some k)→H1[b]? =some (some k)):Fy P C l A H r H2:=by
 intro E w vs hv hw
 obtain⟨fn,tm,asz,bd,h1,h2⟩:=h E w vs hv hw
 refine⟨fn,tm,asz,bd,h1,RoundIn.mono h2 ?_⟩
 rintro e w' ⟨E',r1,r2,r3⟩
 exact⟨E',r1,r2.less hs,{r3 with own:=fun g ⟨b,k,hb,hg⟩=>r3.own g ⟨b,k,hs b k hb,hg⟩}⟩
theorem uP:∀{l H:List (Option aN)},H.length≤l.length→(∀(b:Nat)(k:aN),H[b]? =some (some k)→l[b]? =some (some k))→∃m,prune l m=H
 |l,[],_,_=>⟨[],by cases l<;>rfl⟩
 |[],x::H,h,_=>by simp at h
 |
  y::l,x::H,h,hs=>by
  obtain⟨m,hm⟩:=uP (l:=l) (H:=H) (by simpa using h) (fun b k hb=>by simpa using hs (b+1) k (by simpa using hb))
  cases x with
  |none=>exact⟨false::m,by simp[prune,hm]⟩
  |
   some k=>
   have:y=some k:=by simpa using hs 0 k rfl
   exact⟨true::m,by simp[prune,hm,this]⟩
theorem sM{gs:Nat→Nat}{ti:List (Nat×Ty)}:∀{l:List (Option aN)}{s i:Nat},(tie gs ti s l)[i]? =some none→l[i]? =some none
 |[],s,i,h=>by simp[tie] at h
 |none::l,s,0,h=>rfl
 |some x::l,s,0,h=>by simp[tie] at h
 |none::l,s,i+1,h=>by simpa using sM (l:=l) (by simpa[tie] using h)
 |some x::l,s,i+1,h=>by simpa using sM (l:=l) (by simpa[tie] using h)
theorem Ep{gs:Nat→Nat}{ti:List (Nat×Ty)}{i:Nat}{k k':aN}(h1:ux (some k)=false)(h2:ux (some k')=false)(h:mB gs ti i k=mB gs ti i k'):k=k':=by
 cases k with
 |
  var t v=>
  cases k' with
  |
   var t' v'=>
   simp only[mB] at h
   split at h
   ·cases h;rfl
   ·exact h
  |tv=>simp[ux] at h2
  |_=>simp only[mB] at h;split at h<;>cases h
 |tv=>simp[ux] at h1
 |
  _=>
  cases k' with
  |var t' v'=>simp only[mB] at h;split at h<;>cases h
  |tv=>simp[ux] at h2
  |_=>exact h
theorem BR{y:YC}:∀{m:List (Nat×fg)}{l:List Type}{d:prod (iy m l)}{b:Nat}{k:aN},(b,k)∈nC y m d→∃s,(b,s)∈m
 |[],_,_,_,_,h=>by cases h
 |
  (i,s)::m,_,d,b,k,h=>by
  simp only[nC,eA,ff] at h
  rcases h with⟨rfl,_⟩|h
  ·exact⟨s,cK ..⟩
  ·obtain⟨s',hs⟩:=BR h
   exact⟨s',dr _ hs⟩
theorem eQ{m:Nat}{out:List (Nat×aN)}{b:Nat}{k:aN}(h:(dk m out)[b]? =some (some k)):(b,k)∈out:=by
 unfold dk at h
 rcases dS h with h|⟨_,h⟩
 ·simp only[List.mem_map] at h
  obtain⟨⟨i,k'⟩,hm,e⟩:=h
  simp only[ff,cE] at e
  obtain⟨rfl,rfl⟩:=e
  exact hm
 ·rw[jX] at h
  split at h<;>cases h
theorem sN{m:Nat}{out:List (Nat×aN)}:(dk m out).length=m:=by unfold dk;rw[kE,fO]
theorem sO{i:Nat}:∀{out:List (Nat×aN)},i∈wrote (out.map fun x=>(x.1,some x.2))→∃k,(i,k)∈out
 |[],h=>by cases h
 |
  (j,k)::out,h=>by
  simp only[dp,wrote,eA] at h
  rcases h with rfl|h
  ·exact⟨k,cK ..⟩
  ·obtain⟨k',hk⟩:=sO h
   exact⟨k',dr _ hk⟩
theorem Dq{m i b:Nat}{x:aN}{out:List (Nat×aN)}(hi:∀k,(i,k)∉out)(hm:i<m):(dk m ((i,x)::out))[b]? =if b=i then some (some x) else(dk m out)[b]? :=by
 have hw:i∉wrote (out.map fun x=>(x.1,some x.2)):=by
  intro h
  obtain⟨k,hk⟩:=sO h
  exact hi k hk
 unfold dk
 simp only[dp,aO]
 split
 ·rename_i e
  subst e
  rw[ee hw,bK,aA rfl,aA (by simpa using hm)]
 ·rename_i e
  exact iw (by simp) (by rw[bK,aC (fun e'=>e e'.symm)])
theorem Er{gl:Ctx}{y:YC}{rh:GC}{C:IC}{e:fI}{σ:St}{r:gC (Nat::iy C.R [])}(h:Eg y rh C e σ=some r):∃σE,GL rh.jl e=some (pI (Nat::iy C.R []) r).1∧Wk gl σ σE∧uy σE.hp=true∧C.m≤σE.hp.length∧
 ∀i x,(i,x)∈nC y0 C.R (pI (Nat::iy C.R []) r).2→(tie y.gs rh.ti 0 σE.hp)[i]? =some (some x):=by
 unfold Eg at h
 split at h
 ·rename_i j u hj hu
  obtain⟨hc,h⟩:=bS h
  simp only[aV] at hc
  split at h
  ·rename_i d hd
   cases h
   rw[pv]
   exact⟨_,hj,SS.iz hu,hc.1,fc hc.2,(A9 y0 hd).1⟩
  ·cases h
 ·cases h
theorem KQ{P:Program}{gl Cx:Ctx}{y:YC}{rh:GC}{C:IC}{ps:Array Tmp}{assign body:Code}{σ:St}{wA wB:St→(fI→St→Option (gC (Nat::iy C.R [])))→Option (gC (Nat::iy C.R []))}
 (hA:∀σ1 k1 r1,wA σ1 k1=some r1→cX P (gl.ru y.l) assign σ1 (fun e σ'=>k1 e σ'=some r1)) (hB:∀σ1 k1 r1,wB σ1 k1=some r1→cX P (gl.ru y.l) body σ1 (fun e σ'=>k1 e σ'=some r1))
 (hk:C.k0<C.m) (hR:(C.R.all fun x=> !Nat.beq x.1 C.k0)=true) (hof:Bf P gl σ.tm ps assign body C.k0 rh.ti rh.m rh.jl Cx y):(C.Y y.l (MI y rh C ps σ wA wB)).holds P Cx:=by
 refine⟨?_,fun _ _ h=>h.elim⟩
 intro d r hd
 have hd':MI y rh C ps σ wA wB d=some r:=hd
 unfold MI at hd'
 split at hd'
 case h_2=>cases hd'
 rename_i vcs H0 htok
 obtain⟨hv,hd'⟩:=fq hd'
 obtain⟨hc,hd'⟩:=bS hd'
 simp only[aV] at hc
 obtain⟨r0,hw,hd'⟩:=bind_some hd'
 split at hd'
 case h_2=>cases hd'
 rename_i vs H1 htok1
 obtain⟨hv1,hd'⟩:=fq hd'
 obtain⟨hto,hd'⟩:=bS hd'
 have er:=iL hd'
 obtain⟨t1,t2,t3,t4⟩:=rG htok hv
 obtain⟨u1,u2,u3,u4⟩:=rG htok1 hv1
 rw[sN] at u1
 have lX:(aO (List.replicate C.m none) (di (nC y0 C.B (xD C.A d)))).length=C.m:=by rw[kE,fO]
 rw[lX] at t1
 have hnk:∀k,(C.k0,k)∉nC y0 C.R (pI (Nat::iy C.R []) r0).2:=by
  intro k hm
  obtain⟨s,hs⟩:=BR hm
  have:=(List.all_eq_true.1 hR) _ hs
  simp at this
 have hX0:(dk C.m (nC y0 C.R (pI (Nat::iy C.R []) r0).2))[C.k0]? =some none:=by
  cases h:(dk C.m (nC y0 C.R (pI (Nat::iy C.R []) r0).2))[C.k0]? with
  |none=>rw[List.getElem?_eq_none_iff,sN] at h;omega
  |
   some x=>
   cases x with
   |none=>rfl
   |some k=>exact absurd (eQ h) (hnk k)
 have h10:H1[C.k0]? =some none:=by
  have:=u3 C.k0 (by omega)
  rw[hX0] at this
  exact sM this.symm
 have hX1:∀i:Nat,(dk C.m (nC y0 C.R (pI (Nat::iy C.R []) r0).2))[i]? =(tie y.gs rh.ti 0 H1)[i]? :=by
  intro i
  by_cases hi:i=C.m
  ·subst hi
   rw[List.getElem?_eq_none_iff.2 (by rw[sN];exact cq _),List.getElem?_eq_none_iff.2 (by rw[lk,u1];exact cq _)]
  ·exact u3 i (by omega)
 have hF:=hof (xC y0 C.A d) H0 H1 (pI (Nat::iy C.R []) r0).1 (bQ hc.1) (t2 C.k0 (by omega) (by rw[lX];exact hk)).2 h10 hc.2 hto ?_
 ·show Fy P Cx y.l (xC y0 C.A d) (aO (List.replicate C.m none) (di (nC y0 C.B (xD C.A d)))) (.ret (.val .bool (pI C.T r).1)) (dk C.m ((C.k0,.lp (pI C.T r).2.1 (pI C.T r).2.2.1)::nC y0 C.R (pI C.T r).2.2.2))
  have e1:pI C.T r=(Nat.beq (pI (Nat::iy C.R []) r0).1 0,y,(pI (Nat::iy C.R []) r0).1,(pI (Nat::iy C.R []) r0).2):=by rw[←er];exact pv C.T _
  rw[e1]
  have eX:(tie y.gs rh.ti 0 H0).set C.k0 (some (.lp y 0))=aO (List.replicate C.m none) (di (nC y0 C.B (xD C.A d))):=by
   apply List.ext_getElem?
   intro i
   rw[bK]
   split
   ·rename_i e
    subst e
    rw[aA (by rw[lk,t1];exact hk)]
    exact(t2 C.k0 (by omega) (by rw[lX];exact hk)).1.symm
   ·rename_i e
    exact(t3 i (by omega)).symm
  rw[eX] at hF
  refine hF.less ?_
  intro b k hb
  rw[Dq hnk hk] at hb
  rw[bK]
  split at hb
  ·rename_i e
   subst e
   rw[aA rfl,aA (by rw[lk,u1];exact hk)]
   exact hb
  ·rename_i e
   rw[aC (fun e'=>e e'.symm),←hX1]
   exact hb
 ·refine cX.mono (hA _ _ _ hw) ?_
  intro e σ1 he
  cases e with
  |
   normal=>
   refine cX.mono (hB _ _ _ he) ?_
   intro e σ2 he
   obtain⟨σE,q1,q2,q3,q4,q5⟩:=Er (gl:=gl.ru y.l) he
   have hpr:∃m,prune σE.hp m=H1:=by
    refine uP (by rw[u1];exact q4) ?_
    intro b k hb
    have hx:=hX1 b
    rw[xH hb,cZ] at hx
    have:=q5 b _ (eQ hx)
    obtain⟨k0,p1,p2⟩:=iG this
    rw[cZ] at p2
    rw[p1]
    have nt:∀{l:List (Option aN)}{k:aN},uy l=true→l[b]? =some (some k)→ux (some k)=false:=by
     intro l k hn hk
     cases k with
     |tv g t v=>exact absurd hk (BN hn b g t v)
     |_=>rfl
    rw[Ep (nt u4 hb) (nt q3 p1) p2]
   obtain⟨m,hm⟩:=hpr
   cases e with
   |normal=>exact⟨by simpa[GL] using q1.symm,σE,m,q2,hm⟩
   |
    ret=>
    obtain⟨j1,c,j2,j3⟩:=uO q1
    refine⟨⟨j1,?_⟩,σE,m,q2,hm⟩
    rw[j2]
    cases c<;>simp[J6] at j3
    rfl
   |
    exit i=>
    obtain⟨j1,c,j2,j3⟩:=uO q1
    refine⟨⟨j1,?_⟩,σE,m,q2,hm⟩
    rw[j2]
    cases c<;>simp[Ef] at j3
    rw[j3]
   |panic v=>simp[GL] at q1
  |_=>cases he
theorem M8{P:Program}{gl:Ctx}{σ:St}{g:Operand}{ps:Array Tmp}{assign body:Code}(hro:gl.ro=none){gf:FuncId}{cs:AV}(hg:bG gl σ.tm g= .func (.func gf) .nil cs){rh:GC}{C:IC}(fV:KK σ rh C cs=true)(hC:C.holds P gl)
 {wA wB:YC→St→(fI→St→Option (gC (Nat::iy C.R [])))→Option (gC (Nat::iy C.R []))}
 (hA:∀y σ1 k1 r1,wA y σ1 k1=some r1→cX P (gl.ru y.l) assign σ1 (fun e σ'=>k1 e σ'=some r1)) (hB:∀y σ1 k1 r1,wB y σ1 k1=some r1→cX P (gl.ru y.l) body σ1 (fun e σ'=>k1 e σ'=some r1))
 {R:Type} {k:fI→St→Option R} {r:R} (h:sJ (fun y=>KL σ y rh gf cs (C.MH y.l (MI y rh C ps σ (wA y) (wB y))) k)=some r):cX P gl (.rangeFunc g ps assign body) σ (fun e σ'=>k e σ'=some r):=by
 unfold KK at fV
 simp only[aV,iM] at fV
 obtain⟨⟨⟨⟨⟨⟨⟨⟨⟨c1,c2⟩,c3⟩,c4⟩,c5⟩,c6⟩,c7⟩,c8⟩,c9⟩,P8⟩:=fV
 refine cX.rangeFunc hro hg rh.dI rh.lI C.k0 c1 c2 c3 c4 rh.ti rh.m c6 c7 c8 rh.jl c9 ?_
 intro y
 have hy:=Dm h y
 unfold KL at hy
 split at hy
 case h_2=>cases hy
 rename_i L ins hL jg
 rcases yl hy with⟨hfn,hy⟩|hy
 case inr=>cases hy
 split at hy
 case h_2=>cases hy
 rename_i d hd
 rcases CF.yi hy with⟨q,hq,hy⟩|⟨x,hx,hy⟩
 case inr=>cases hy
 obtain⟨d1,d2⟩:=aW.eV hd
 unfold J7 at hy
 split at hy
 case h_2=>cases hy
 rename_i hr
 obtain⟨hcr,hy⟩:=bS hy
 simp only[aV] at hcr
 split at hy
 case h_2=>cases hy
 rename_i y' j hlp
 obtain⟨hv,hy⟩:=fq hy
 have hv:y'=y:=hv.1
 subst hv
 refine⟨j,_,L,ins,_,⟨hr,hL,jg,hcr.1,hcr.2,hlp,rfl⟩,?_,?_⟩
 ·intro B hB' hof
  have hh:=hC B hB' y'.l _ (KQ (wA:=wA y') (wB:=wB y') (hA y') (hB y') (by have:=c5;simp[Nat.blt] at this;omega) P8 hof)
  have:=hh.ret d q hq
  rw[←hfn,d1,d2] at this
  rw[show(C.MH y'.l (MI y' rh C ps σ (wA y') (wB y'))).res q= .gC .nil from hr] at this
  exact this
 ·have:=GN (P:=P) (gl:=gl) hy
  revert this
  cases jmp rh.jl j with
  |none=>exact id
  |some c=>exact id
section
variable{P:Program} {G:bT} (T:bB P G) {I:List IC} {H:Hs} {Γ:List aW}
include T
theorem jU:∀{c:Code}{gl:Ctx}{fr:Bool}(_hΓ:∀C∈Γ,C.holds P gl)(_hro:fr=true→gl.ro=none)(_hI:fr=true→∀C∈I,C.holds P gl∧∀S w,gl.B S w){R:Type}{σ:St}{k:fI→St→Option R}{r:R},walk P G I H Γ c gl fr σ k=some r→cX P gl c σ (fun e σ'=>k e σ'=some r):=by
 intro c
 induction c with
 |skip=>intro gl fr hΓ hro hI R σ k r h;exact cX.skip h
 |label l=>intro gl fr hΓ hro hI R σ k r h;exact cX.label h
 |scope c ih=>intro gl fr hΓ hro hI R σ k r h;exact cX.scope (ih hΓ hro hI h)
 |exit i=>intro gl fr hΓ hro hI R σ k r h;exact cX.exit h
 |ret=>intro gl fr hΓ hro hI R σ k r h;exact cX.ret h
 |region id ops draw=>intro gl fr hΓ hro hI R σ k r h;exact zW T hΓ hro h
 |
  seq x z ih1 ih2=>
  intro gl fr hΓ hro hI R σ k r h
  unfold walk at h
  split at h
  ·refine cX.seq (cX.mono (ih1 hΓ hro hI h) ?_)
   intro e σ' he
   cases e with
   |normal=>exact ih2 hΓ hro hI he
   |_=>exact he
  ·rename_i S hS
   unfold aG at h
   obtain⟨o,ho,h⟩:=bind_some h
   refine cX.seq (cX.mono (ih1 hΓ hro hI ho) ?_)
   intro e σ' he
   cases e with
   |
    normal=>
    obtain⟨d,hd,e⟩:=map_some he
    subst e
    exact cX.wk (SS.iz hd) (ih2 hΓ hro hI h)
   |
    _=>
    obtain⟨d,hd,e⟩:=map_some he
    subst e
    cases h
    exact hd
 |
  cond c x z ih1 ih2=>
  intro gl fr hΓ hro hI R σ k r h
  unfold walk at h
  split at h
  ·rename_i b hb
   refine cX.cond hb (fun e=>ih1 hΓ hro hI ?_) (fun e=>ih2 hΓ hro hI ?_)
   ·rw[aA e] at h;exact h
   ·rw[aC (by rw[e];exact qD)] at h;exact h
  ·cases h
 |
  block id c ih=>
  intro gl fr hΓ hro hI R σ k r h
  unfold walk at h
  split at h
  ·refine cX.block (cX.mono (ih hΓ hro hI h) ?_)
   intro e σ' he
   cases e with
   |
    exit i=>
    simp only[Xf] at he
    simp only[xy]
    split at he
    ·rename_i hb;rw[aA (bQ hb)];exact he
    ·rename_i hb;rw[aC (fun e=>hb (by subst e;exact Nat.beq_refl _))];exact he
   |_=>exact he
  ·rename_i S hS
   unfold aG at h
   obtain⟨o,ho,h⟩:=bind_some h
   have fin:∀{σ':St},(S.sg σ').map cW.brk=some o→∃σ2,Wk gl σ' σ2∧k .normal σ2=some r:=by
    intro σ' he
    obtain⟨d,hd,e⟩:=map_some he
    subst e
    exact⟨_,SS.iz hd,h⟩
   have oth:∀{e:fI}{σ':St},(k e σ').map cW.ret=some o→k e σ'=some r:=by
    intro e σ' he
    obtain⟨d,hd,e⟩:=map_some he
    subst e
    cases h
    exact hd
   refine cX.M7 (cX.block (cX.mono (ih hΓ hro hI ho) ?_))
   intro e σ' he
   cases e with
   |normal=>exact fin he
   |
    exit i=>
    simp only[Xe] at he
    simp only[xy]
    split at he
    ·rename_i hb;rw[aA (bQ hb)];exact fin he
    ·rename_i hb;rw[aC (fun e=>hb (by subst e;exact Nat.beq_refl _))];exact⟨σ',Wk.refl gl σ',oth he⟩
   |ret=>exact⟨σ',Wk.refl gl σ',oth he⟩
   |panic v=>exact oth he
 |
  loop c ih=>
  intro gl fr hΓ hro hI R σ k r h
  unfold walk at h
  split at h
  ·exact Em (fun h=>ih hΓ hro hI h) h
  ·split at h
   ·cases h
   ·split at h
    ·cases h
    ·rename_i u hu
     exact En (fun σ u=>SS.iz) (fun h=>ih hΓ hro hI h) hu h
 |
  rangeFunc g ps assign body ih1 ih2=>
  intro gl fr hΓ hro hI R σ k r h
  unfold walk at h
  obtain⟨hfr,h⟩:=bS h
  split at h
  ·cases h
  ·rename_i rh hrh
   split at h
   case h_2=>cases h
   rename_i C u hC hu
   split at h
   ·rename_i gf cs hg
    obtain⟨fV,h⟩:=bS h
    obtain⟨hC1,hB⟩:=hI hfr C (fP hC)
    have hA:∀(y:YC)(σ1:St) k1 r1,walk P G I H Γ assign (gl.ru y.l) false (R:=gC (Nat::iy C.R [])) σ1 k1=some r1→cX P (gl.ru y.l) assign σ1 (fun e σ'=>k1 e σ'=some r1):=
     fun y σ1 k1 r1 h1=>@ih1 (gl.ru y.l) false (fun D hD=>(hΓ D hD).up rfl hB) (fun e=>(qD e).elim) (fun e=>(qD e).elim) _ _ _ _ h1
    have hB':∀(y:YC)(σ1:St) k1 r1,walk P G I H Γ body (gl.ru y.l) false (R:=gC (Nat::iy C.R [])) σ1 k1=some r1→cX P (gl.ru y.l) body σ1 (fun e σ'=>k1 e σ'=some r1):=
     fun y σ1 k1 r1 h1=>@ih2 (gl.ru y.l) false (fun D hD=>(hΓ D hD).up rfl hB) (fun e=>(qD e).elim) (fun e=>(qD e).elim) _ _ _ _ h1
    exact cX.wk (SS.iz hu) <| M8 (wA:=fun y σ1 k1=>walk P G I H Γ assign (gl.ru y.l) false σ1 k1) (wB:=fun y σ1 k1=>walk P G I H Γ body (gl.ru y.l) false σ1 k1) (hro hfr) hg fV hC1 hA hB' h
   ·cases h
 |_=>intro gl fr hΓ hro hI R σ k r h;simp[walk] at h
end
end Go.Ax
namespace Go.Ax
def pick:List Nat→List (Option aN)→List (Nat×aN)
 |[],_=>[]
 |
  b::l,hp=>match hp[b]? with
  |some (some k)=>(b,k)::pick l hp
  |_=>pick l hp
theorem jv{hp:List (Option aN)}:∀{l:List Nat}{b:Nat}{k:aN},(b,k)∈pick l hp→hp[b]? =some (some k)
 |[],_,_,h=>by cases h
 |
  c::l,b,k,h=>by
  simp only[pick] at h
  split at h
  ·rename_i k' hk
   rcases List.mem_cons.1 h with h|h
   ·cases h;exact hk
   ·exact jv h
  ·exact jv h
def aF(G:bT)(rs:List ResultVar)(kj:FuncId)(A:List Sh)(B:List (Nat×fg))(m:Nat)(F:SS)(ob:List Nat)(f:CF (prod (rq A (iy B []))) F.T):aW:=
 ⟨.func kj,A,B,m,F,fun r=>(ja G rs (F.st y0 r)).getD .bot,fun r=>pick ob (F.st y0 r).hp,f⟩
def KR(F:SS):fI→St→Option F.T
 | .ret,σ=>F.sg σ
 | .normal,σ=>F.sg σ
 |_,_=>none
def zX(σ:St):Option St:=
 match marks σ.df σ.hp with
 |some hp=>some ⟨σ.tm,hp,[]⟩
 |none=>none
def zY(F:SS):fI→St→Option F.T
 |
  .ret,σ=>match zX σ with
  |some σ=>F.sg σ
  |none=>none
 |
  .normal,σ=>match zX σ with
  |some σ=>F.sg σ
  |none=>none
 |_,_=>none
def lW(nt m:Nat)(args:List AV)(ins:List (Nat×Option aN)):St:=⟨args++List.replicate (nt -args.length) .bot,aO (List.replicate m none) ins,[]⟩
def Es{α:Type}:Option α→Bool
 |some _=>true
 |none=>false
theorem lY{x:Option AV}(h:Es x=true):x=some (x.getD .bot):=by
 cases x with
 |none=>cases h
 |some y=>rfl
theorem rH{gl:Ctx}{F:SS}{e:fI}{σ:St}{r:F.T}(h:zY F e σ=some r):(e= .ret∨e= .normal)∧∃σ1,zX σ=some σ1∧Wk gl σ1 (F.st y0 r):=by
 cases e with
 |
  ret=>
  simp only[zY] at h
  split at h
  ·rename_i σ1 h1;exact⟨Or.inl rfl,σ1,h1,SS.iz h⟩
  ·cases h
 |
  normal=>
  simp only[zY] at h
  split at h
  ·rename_i σ1 h1;exact⟨Or.inr rfl,σ1,h1,SS.iz h⟩
  ·cases h
 |_=>exact no h
theorem rj.vW{P:Program}{G:bT}(T:bB P G){gl:Ctx}{f:FuncId}{fn:Func}{c:Code}(hf:P.funcs[f]? =some fn)(hb:fn.body=some c)(hro:gl.ro=none){args:List AV}{ins:List (Nat×Option aN)}{m:Nat}{x:AV}{out:List (Nat×aN)}{σe:St}
 (h:cX P gl c (lW fn.ntmps m args ins) (fun e σ=>(e= .ret∨e= .normal)∧∃σ1,zX σ=some σ1∧Wk gl σ1 σe)) (_hd:σe.df= []) (acj:ja G fn.results.toList σe=some x) (hout:∀b k,(b,k)∈out→σe.hp[b]? =some (some k)):
 rj P gl f args (aO (List.replicate m none) ins) (.ret x) (dk m out):=by
 intro E w vs hv hw
 obtain⟨hl,abT⟩:=hv.get
 refine CallsIn.calls (F:=Wd gl) (n:=0) (callsIn_of_wp_marks hf hb trivial ?_ hro) (fun k d hd=>by cases hd)
 have hg:cd gl (lW fn.ntmps m args ins) E {tmps:=vs.toArray++Array.replicate (fn.ntmps -vs.toArray.size) undef,defers:=[]} w:=by
  refine⟨?_,?_,hw,trivial⟩
  ·simp only[lW,Array.size_append,oJ,Array.size_replicate,cN,fO]
   rw[hl]
  ·intro i x hx v hv'
   simp only[lW] at hx
   rw[Array.getElem?_append] at hv'
   simp only[List.getElem?_append] at hx
   split at hx
   ·rename_i hi
    rw[aA (by simpa[hl] using hi)] at hv'
    exact abT i x v hx (by simpa using hv')
   ·rw[jX] at hx
    split at hx
    ·cases hx;trivial
    ·cases hx
 refine wpIn_mono (h E _ w hg) ?_
 rintro ex a' w' ⟨e,σ',E',h1,⟨he,σ1,ho,hwk⟩,h3,h4⟩
 have main:LeavesInM (Wd gl) 0 P fn a'.tmps (fun e w'=>∃E',uI E' w' (.ret x) e∧HW gl E' w' (dk m out)∧Ext gl.md (Own (aO (List.replicate m none) ins) E) E w (Own (dk m out) E') E' w') a'.defers .returning w':=by
  unfold zX at ho
  split at ho
  ·rename_i hp1 hm
   cases ho
   refine CJ σ'.df h3 hm (fun w3 k1 k2=>?_)
   obtain⟨E2,g2,x2⟩:=hwk E' _ w3 k1
   obtain⟨v,k3,k4⟩:=ph T g2 acj
   have hw2:HW gl E2 w3 (dk m out):=g2.hw.less (fun b k hb=>hout b k (eQ hb))
   have hx:Ext gl.md (Own (aO (List.replicate m none) ins) E) E w (Own (dk m out) E2) E2 w3:=
    {(h4.trans k2).trans x2 with own:=fun g ⟨b,k,hb,hgb⟩=>((h4.trans k2).trans x2).own g ⟨b,k,hout b k (eQ hb),hgb⟩}
   exact⟨v,k3,E2,k4,hw2,hx⟩
  ·cases ho
 rcases he with rfl|rfl
 ·cases ex with
  |ret=>exact main
  |_=>exact h1.elim
 ·cases ex with
  |normal=>exact main
  |_=>exact h1.elim
theorem aW.of{P:Program}{G:bT}(T:bB P G){gl:Ctx}{I:List IC}{H:Hs}{Γ:List aW}(hΓ:∀C∈Γ,C.holds P gl)(hI:∀C∈I,C.holds P gl∧∀S w,gl.B S w)(hro:gl.ro=none){rs:List ResultVar}{kj:FuncId}{A:List Sh}{B:List (Nat×fg)}{m nt:Nat}{F:SS}{ob:List Nat}{f:prod (rq A (iy B []))→Option F.T}
 {fn:Func} {c:Code} (ab3:∀vs w,(callFunc kj vs).run P w= .ok (.enter kj vs) w) (hf:P.funcs[kj]? =some fn) (hb:fn.body=some c) (hrs:fn.results.toList=rs) (hnt:fn.ntmps=nt) (hF:F.df= [])
 (acj:∀r:F.T,Es (ja G rs (F.st y0 r))=true)
 (h:∀d,f d=walk P G I H Γ c gl true (lW nt m (xC y0 A d) (di (nC y0 B (xD A d)))) (zY F)):
 (aF G rs kj A B m F ob (.bH f)).holds P gl:=by
 refine⟨?_,fun _ _ h=>h.elim⟩
 intro d r hd
 have hd':f d=some r:=hd
 rw[h d] at hd'
 refine⟨ab3,?_⟩
 have abW:=jU T hΓ (fun _=>hro) (fun _=>hI) hd'
 subst hnt
 refine rj.vW T hf hb hro (σe:=F.st y0 r) (cX.mono abW ?_) ?_ ?_ ?_
 ·intro e σ he
  exact rH he
 ·show(F.st y0 r).df= []
  simp only[SS.st,SS.lW]
  obtain⟨nt',nh,tm,hp,df⟩:=F
  simp only at hF
  subst hF
  rfl
 ·rw[hrs];exact lY (acj r)
 ·intro b k hbk;exact jv hbk
def sP(s:Sh)(F:SS):fI→St→Option (Sum (prod (s.H [])) F.T)
 |
  .ret,σ=>match zX σ with
  |some σ=>(F.sg σ).map .inr
  |none=>none
 |
  .normal,σ=>match zX σ with
  |some σ=>(F.sg σ).map .inr
  |none=>none
 |
  .panic v,σ=>match σ.df with
  |[]=>(s.G (l:=[]) v ()).map .inl
  |_=>none
 |_,_=>none
theorem rj.Et{P:Program}{gl:Ctx}{f:FuncId}{fn:Func}{c:Code}(hf:P.funcs[f]? =some fn)(hb:fn.body=some c)(hro:gl.ro=none){args:List AV}{ins:List (Nat×Option aN)}{m:Nat}{x:AV}
 (h:cX P gl c (lW fn.ntmps m args ins) (fun e σ=>e= .panic x∧σ.df= [])):
 rj P gl f args (aO (List.replicate m none) ins) (.kr x) (dk m []):=by
 intro E w vs hv hw
 obtain⟨hl,abT⟩:=hv.get
 refine CallsIn.calls (F:=Wd gl) (n:=0) (callsIn_of_wp hf hb trivial ?_ hro) (fun k d hd=>by cases hd)
 have hg:cd gl (lW fn.ntmps m args ins) E {tmps:=vs.toArray++Array.replicate (fn.ntmps -vs.toArray.size) undef,defers:=[]} w:=by
  refine⟨?_,?_,hw,trivial⟩
  ·simp only[lW,Array.size_append,oJ,Array.size_replicate,cN,fO]
   rw[hl]
  ·intro i x hx v hv'
   simp only[lW] at hx
   rw[Array.getElem?_append] at hv'
   simp only[List.getElem?_append] at hx
   split at hx
   ·rename_i hi
    rw[aA (by simpa[hl] using hi)] at hv'
    exact abT i x v hx (by simpa using hv')
   ·rw[jX] at hx
    split at hx
    ·cases hx;trivial
    ·cases hx
 refine wpIn_mono (h E _ w hg) ?_
 rintro ex a' w' ⟨e,σ',E',h1,⟨rfl,hd⟩,h3,h4⟩
 have hdf:a'.defers= []:=by
  have:=h3.df
  rw[hd] at this
  cases hds:a'.defers with
  |nil=>rfl
  |cons d l=>rw[hds] at this;exact this.elim
 have hw2:HW gl E' w' (dk m []):=h3.hw.less (fun b k hb=>absurd (eQ hb) (by simp))
 have hx:Ext gl.md (Own (aO (List.replicate m none) ins) E) E w (Own (dk m []) E') E' w':=
  {h4 with own:=fun g ⟨b,k,hb,hgb⟩=>absurd (eQ hb) (by simp)}
 cases ex with
 |panic ch=>exact⟨hdf,E',h1,hw2,hx⟩
 |_=>exact h1.elim
theorem aW.D0{P:Program}{G:bT}(T:bB P G){gl:Ctx}{I:List IC}{H:Hs}{Γ:List aW}(hΓ:∀C∈Γ,C.holds P gl)(hI:∀C∈I,C.holds P gl∧∀S w,gl.B S w)(hro:gl.ro=none){rs:List ResultVar}{kj:FuncId}{A:List Sh}{B:List (Nat×fg)}{m nt:Nat}{s:Sh}{F:SS}{ob:List Nat}{f:prod (rq A (iy B []))→Option (Sum (prod (s.H [])) F.T)}
 {fn:Func} {c:Code} (ab3:∀vs w,(callFunc kj vs).run P w= .ok (.enter kj vs) w) (hf:P.funcs[kj]? =some fn) (hb:fn.body=some c) (hrs:fn.results.toList=rs) (hnt:fn.ntmps=nt) (hF:F.df= [])
 (acj:∀r:F.T,Es (ja G rs (F.st y0 r))=true)
 (h:∀d,f d=walk P G I H Γ c gl true (lW nt m (xC y0 A d) (di (nC y0 B (xD A d)))) (sP s F)):
 (aF G rs kj A B m F ob (.kr s f)).holds P gl:=by
 refine⟨?_,?_⟩
 ·intro d r hd
  have hd':f d=some (.inr r):=hd
  rw[h d] at hd'
  refine⟨ab3,?_⟩
  have abW:=jU T hΓ (fun _=>hro) (fun _=>hI) hd'
  subst hnt
  refine rj.vW T hf hb hro (σe:=F.st y0 r) (cX.mono abW ?_) ?_ ?_ ?_
  ·intro e σ he
   cases e with
   |
    ret=>
    simp only[sP] at he
    split at he
    ·rename_i σ1 h1
     obtain⟨y,hy,e⟩:=map_some he
     cases e
     exact⟨Or.inl rfl,σ1,h1,SS.iz hy⟩
    ·cases he
   |
    normal=>
    simp only[sP] at he
    split at he
    ·rename_i σ1 h1
     obtain⟨y,hy,e⟩:=map_some he
     cases e
     exact⟨Or.inr rfl,σ1,h1,SS.iz hy⟩
    ·cases he
   |
    panic v=>
    simp only[sP] at he
    split at he
    ·obtain⟨y,hy,e⟩:=map_some he
     cases e
    ·cases he
   |exit i=>exact no he
  ·show(F.st y0 r).df= []
   simp only[SS.st,SS.lW]
   obtain⟨nt',nh,tm,hp,df⟩:=F
   simp only at hF
   subst hF
   rfl
  ·rw[hrs];exact lY (acj r)
  ·intro b k hbk;exact jv hbk
 ·rintro d x ⟨p,hd,rfl⟩
  have hd':f d=some (.inl p):=hd
  rw[h d] at hd'
  refine⟨ab3,?_⟩
  have abW:=jU T hΓ (fun _=>hro) (fun _=>hI) hd'
  subst hnt
  refine rj.Et hf hb hro (cX.mono abW ?_)
  intro e σ he
  cases e with
  |
   ret=>
   simp only[sP] at he
   split at he
   ·obtain⟨y,hy,e⟩:=map_some he;cases e
   ·cases he
  |
   normal=>
   simp only[sP] at he
   split at he
   ·obtain⟨y,hy,e⟩:=map_some he;cases e
   ·cases he
  |
   panic v=>
   simp only[sP] at he
   split at he
   ·rename_i hdf
    obtain⟨y,hy,e⟩:=map_some he
    cases e
    exact⟨by rw[(Sh.uF y0 hy).1],hdf⟩
   ·cases he
  |exit i=>exact no he
theorem aW.M9{P:Program}{gl:Ctx}{G:bT}{rs:List ResultVar}{kj:FuncId}{A:List Sh}{B:List (Nat×fg)}{m:Nat}{F:SS}{ob:List Nat}:(aF G rs kj A B m F ob (.bH fun _=>none)).holds P gl:=
 ⟨fun _ _ h=>(by cases(h:none=some _)),fun _ _ h=>h.elim⟩
theorem aW.sub{P:Program}{gl:Ctx}{G:bT}{rs:List ResultVar}{kj:FuncId}{A:List Sh}{B:List (Nat×fg)}{m:Nat}{F:SS}{ob:List Nat}{f g:prod (rq A (iy B []))→Option F.T}(h:(aF G rs kj A B m F ob (.bH f)).holds P gl)(hs:∀d r,g d=some r→f d=some r):(aF G rs kj A B m F ob (.bH g)).holds P gl:=
 ⟨fun d r hd=>h.ret d r (hs d r hd),fun _ _ h=>h.elim⟩
def Ka(P:Program)(gl:Ctx):List aW→Prop
 |[]=>True
 |C::l=>C.holds P gl∧Ka P gl l
theorem hold{P:Program}{gl:Ctx}:∀{l:List aW},Ka P gl l→∀C∈l,C.holds P gl
 |[],_,C,h=>by cases h
 |
  D::l,h,C,hC=>by
  rcases List.mem_cons.1 hC with rfl|hC
  ·exact h.1
  ·exact hold h.2 C hC
def Kb(P:Program)(gl:Ctx):List IC→Prop
 |[]=>True
 |C::l=>C.holds P gl∧Kb P gl l
theorem uQ{P:Program}{l:List Dt}:∀{L:List IC},Kb P (Ctx.of l) L→∀C∈L,C.holds P (Ctx.of l)∧∀S w,(Ctx.of l).B S w
 |[],_,C,h=>by cases h
 |
  D::L,h,C,hC=>by
  rcases List.mem_cons.1 hC with rfl|hC
  ·exact⟨h.1,fun _ _=>trivial⟩
  ·exact uQ h.2 C hC
theorem aJ{P:Program}{gl:Ctx}:∀C∈([]:List IC),C.holds P gl∧∀S w,gl.B S w:=fun C h=>by cases h
end Go.Ax
namespace Go.Ax
def uR(pm:Bool)(u:Value):FrameMode:=if pm then .panicking [{v:=u,recovered:=false}] else .returning
def lZ(pm:Bool)(u:Value):FrameMode:=if pm then .panicking [{v:=u,recovered:=true}] else .returning
def KT(P:Program)(gl:Ctx)(f:FuncId)(pm:Bool)(x:AV)(args:List AV)(H H':List (Option aN)):Prop:=
 (∀vs w,(callFunc f vs).run P w= .ok (.enter f vs) w)∧∀E w vs u,kN E w args vs→cF E w x u→(pm=false→u= .nilIface)→HW gl E w H→
  CallsDIn (Wd gl) 0 P f vs.toArray (uR pm u) w fun e m w'=>m=lZ pm u∧(∃v,e= .returned v)∧∃E',HW gl E' w' H'∧Ext gl.md (Own H E) E w (Own H' E') E' w'
theorem KT.KU{P:Program}{G:bT}(T:bB P G){gl:Ctx}{f:FuncId}{pm:Bool}{x:AV}{fn:Func}{ops:Array Oper}{rid:Nat}{rest:Code}{t5 t2:Nat}{ts:Array TypeId}{o0 o1:Oper}(hcf:∀vs w,(callFunc f vs).run P w= .ok (.enter f vs) w)(hf:P.funcs[f]? =some fn)
 (hb:fn.body=some (.seq (.region rid ops false) rest)) (hro:gl.ro=none) (hops:ops= #[o0,o1]) (h0:o0.op= .call {callee:=.builtin .recover,args:= #[],argTypes:=ts}) (h0d:o0.dst=some t5) (h0g:o0.guard=none)
 (h1:o1.op= .assign (.tmp t5)) (h1d:o1.dst=some t2) (h1g:o1.guard=none) {args:List AV} {ins:List (Nat×Option aN)} {m:Nat} {out:List (Nat×aN)} {σe:St} {r:AV} (ht5:Nat.blt t5 fn.ntmps=true)
 (h:cX P gl rest (((lW fn.ntmps m args ins).put (some t5) x).put (some t2) x) (fun e σ=>(e= .ret∨e= .normal)∧Wk gl σ σe)) (hd:σe.df= []) (acj:ja G fn.results.toList σe=some r) (hout:∀b k,(b,k)∈out→σe.hp[b]? =some (some k)):
 KT P gl f pm x args (aO (List.replicate m none) ins) (dk m out):=by
 refine⟨hcf,?_⟩
 intro E w vs u hv hx hpm hw
 obtain⟨hl,abT⟩:=hv.get
 refine callsDIn_of_wpSIn hf hb trivial ?_
 intro c0 cs hm
 have hg:cd gl (lW fn.ntmps m args ins) E {tmps:=vs.toArray++Array.replicate (fn.ntmps -vs.toArray.size) undef,defers:=[]} w:=by
  refine⟨?_,?_,hw,trivial⟩
  ·simp only[lW,Array.size_append,oJ,Array.size_replicate,cN,fO]
   rw[hl]
  ·intro i x hx v hv'
   simp only[lW] at hx
   rw[Array.getElem?_append] at hv'
   simp only[List.getElem?_append] at hx
   split at hx
   ·rename_i hi
    rw[aA (by simpa[hl] using hi)] at hv'
    exact abT i x v hx (by simpa using hv')
   ·rw[jX] at hx
    split at hx
    ·cases hx;trivial
    ·cases hx
 refine wpSIn_seq (wpSIn_region ?_)
 subst hops
 show wpOpsSIn _ _ _ _ _ [0,1] _ _ _
 have w0:∀y,Region.wanted o0 y=true:=by intro y;simp[Region.wanted,h0g]
 have w1:∀y,Region.wanted o1 y=true:=by intro y;simp[Region.wanted,h1g]
 have x0:∀ρ:Operand→Value,(execOp ρ o0).run P w= .ok .recover w:=by
  intro ρ
  simp[execOp,h0,resolve,invoke,builtin]
 have ei0:(#[o0,o1]:Array Oper)[0]? =some o0:=rfl
 have ei1:(#[o0,o1]:Array Oper)[1]? =some o1:=rfl
 have hu:RV E w x u:=RV.dO hx
 have hg1:=hg.put (some t5) hu
 have hlt:t5<fn.ntmps:=by simp[Nat.blt] at ht5;omega
 have hev:((({tmps:=vs.toArray++Array.replicate (fn.ntmps -vs.toArray.size) undef,defers:=[]}:Act).put o0.dst u).eval (.tmp t5))=u:=by
  rw[h0d]
  have hsz:t5<(vs.toArray++Array.replicate (fn.ntmps -vs.toArray.size) undef).size:=by
   simp only[Array.size_append,Array.size_replicate];omega
  simp[Act.put,Act.eval]
  intro hh
  omega
 have x1:(execOp (({tmps:=vs.toArray++Array.replicate (fn.ntmps -vs.toArray.size) undef,defers:=[]}:Act).put o0.dst u).eval o1).run P w= .ok (.value u) w:=by
  simp only[execOp,h1]
  rw[hev]
  rfl
 have hg2:=hg1.put (some t2) hu
 suffices hfin:rest.wpSIn (Wd gl) 0 P (bodyPostS P fn c0 cs fun e m_1 w'=>m_1=lZ pm u∧(∃v,e= .returned v)∧∃E',HW gl E' w' (dk m out)∧Ext gl.md (Own (aO (List.replicate m none) ins) E) E w (Own (dk m out) E') E' w')
  ((({tmps:=vs.toArray++Array.replicate (fn.ntmps -vs.toArray.size) undef,defers:=[]}:Act).put o0.dst u).put o1.dst u) ({c0 with mode:=lZ pm u}::cs) w by
  cases pm with
  |
   true=>
   have hrc:recoverD (c0::cs)=some (u,{c0 with mode:=lZ true u}::cs):=by
    simp only[uR,lZ,bC] at hm ⊢
    simp only[recoverD,hm]
   simp only[wpOpsSIn,ei0,ei1,w0,w1,bC,x0,hrc]
   refine⟨fun _ _=>trivial,fun _ _=>trivial,?_⟩
   rw[x1]
   exact hfin
  |
   false=>
   have hu0:=hpm rfl
   subst hu0
   have hrc:recoverD (c0::cs)=none:=by
    simp only[uR,cm,bP] at hm
    simp[recoverD,hm]
   have hcc:({c0 with mode:=lZ false .nilIface}:Frame)=c0:=by
    simp only[uR,lZ,cm,bP] at hm ⊢
    rw[←hm]
   rw[hcc] at hfin
   simp only[wpOpsSIn,ei0,ei1,w0,w1,bC,x0,hrc]
   refine⟨fun _ _=>trivial,fun _ _=>trivial,?_⟩
   rw[x1]
   exact hfin
 rw[h0d,h1d]
 refine wpSIn_of_wpIn (F:=Wd gl) hro (wpIn_mono (h E _ w hg2) ?_)
 rintro ex a' w' ⟨e,σ',E',q1,⟨he,hwk⟩,q3,q4⟩
 obtain⟨E2,g2,x2⟩:=hwk E' a' w' q3
 obtain⟨v,k1,k2⟩:=ph T g2 acj
 have hdf:a'.defers= []:=by
  have:=g2.df
  rw[hd] at this
  cases hds:a'.defers with
  |nil=>rfl
  |cons d l=>rw[hds] at this;exact this.elim
 have hw2:HW gl E2 w' (dk m out):=g2.hw.less (fun b k hb=>hout b k (eQ hb))
 have hxx:Ext gl.md (Own (aO (List.replicate m none) ins) E) E w (Own (dk m out) E2) E2 w':=by
  have q4':Ext gl.md (Own (aO (List.replicate m none) ins) E) E w (Own σ'.hp E') E' w':=q4
  exact{q4'.trans x2 with own:=fun g ⟨b,k,hb,hgb⟩=>(q4'.trans x2).own g ⟨b,k,hout b k (eQ hb),hgb⟩}
 rcases he with rfl|rfl
 ·cases ex with
  |ret=>exact⟨hdf,lZ pm u,rfl,v,k1,rfl,⟨v,rfl⟩,E2,hw2,hxx⟩
  |_=>exact q1.elim
 ·cases ex with
  |normal=>exact⟨hdf,lZ pm u,rfl,v,k1,rfl,⟨v,rfl⟩,E2,hw2,hxx⟩
  |_=>exact q1.elim
structure fW where
 kj:FuncId
 A:List Sh
 B:List (Nat×fg)
 m:Nat
 s:Sh
 F:SS
 out:F.T→List (Nat×aN)
 n:prod (rq A (iy B []))→Option F.T
 p:prod (rq A (iy B []))→prod (s.H [])→Option F.T
abbrev fW.D(C:fW):Type:=prod (rq C.A (iy C.B []))
def fW.args(C:fW)(d:C.D):List AV:=xC y0 C.A d
def fW.ins(C:fW)(d:C.D):List (Nat×Option aN):=di (nC y0 C.B (xD C.A d))
structure fW.holds(P:Program)(gl:Ctx)(C:fW):Prop where
 n:∀d r,C.n d=some r→KT P gl C.kj false .iu (C.args d) (aO (List.replicate C.m none) (C.ins d)) (dk C.m (C.out r))
 p:∀d q r,C.p d q=some r→KT P gl C.kj true (C.s.V y0 q) (C.args d) (aO (List.replicate C.m none) (C.ins d)) (dk C.m (C.out r))
def fW.get(C:fW)(L:List AV)(I:List (Nat×Option aN)):Option C.D:=
 match zS C.B (l:=[]) I () with
 |some d=>Kk C.A L d
 |none=>none
theorem fW.eV{C:fW}{L:List AV}{I:List (Nat×Option aN)}{d:C.D}(h:C.get L I=some d):C.args d=L∧C.ins d=I:=by
 unfold fW.get at h
 split at h
 ·rename_i d1 h1
  obtain⟨a1,a2⟩:=vS y0 h1
  obtain⟨b1,b2⟩:=xE y0 h
  exact⟨b1,by unfold fW.ins;rw[b2,a1]⟩
 ·cases h
section
variable{P:Program} {G:bT} (T:bB P G) {gl:Ctx} {H:Hs} {Γ:List aW} (hΓ:∀C∈Γ,C.holds P gl) (hro:gl.ro=none) {rs:List ResultVar} {kj:FuncId} {A:List Sh} {B:List (Nat×fg)} {m nt:Nat} {s:Sh} {F:SS} {ob:List Nat}
 {n:prod (rq A (iy B []))→Option F.T} {p:prod (rq A (iy B []))→prod (s.H [])→Option F.T} {fn:Func} {ops:Array Oper} {rid:Nat} {rest:Code} {t5 t2:Nat} {ts:Array TypeId} {o0 o1:Oper}
 (ab3:∀vs w,(callFunc kj vs).run P w= .ok (.enter kj vs) w) (hf:P.funcs[kj]? =some fn) (hb:fn.body=some (.seq (.region rid ops false) rest)) (hrs:fn.results.toList=rs) (hnt:fn.ntmps=nt)
 (hops:ops= #[o0,o1]) (h0:o0.op= .call {callee:=.builtin .recover,args:= #[],argTypes:=ts}) (h0d:o0.dst=some t5) (h0g:o0.guard=none) (h1:o1.op= .assign (.tmp t5)) (h1d:o1.dst=some t2) (h1g:o1.guard=none) (ht5:Nat.blt t5 nt=true)
 (hF:F.df= []) (acj:∀r:F.T,Es (ja G rs (F.st y0 r))=true)
include T hΓ hro ab3 hf hb hrs hnt hops h0 h0d h0g h1 h1d h1g ht5 hF acj
theorem fW.Xg{pm:Bool}{x:AV}{args:List AV}{ins:List (Nat×Option aN)}{r:F.T}(hw:walk P G [] H Γ rest gl true (((lW nt m args ins).put (some t5) x).put (some t2) x) (KR F)=some r):
 KT P gl kj pm x args (aO (List.replicate m none) ins) (dk m (pick ob (F.st y0 r).hp)):=by
 have hdf:(F.st y0 r).df= []:=by
  simp only[SS.st,SS.lW]
  obtain⟨nt',nh,tm,hp,df⟩:=F
  simp only at hF
  subst hF
  rfl
 subst hnt
 refine KT.KU T ab3 hf hb hro hops h0 h0d h0g h1 h1d h1g ht5 (cX.mono (jU T hΓ (fun _=>hro) (fun _=>aJ) hw) ?_) hdf (by rw[hrs];exact lY (acj r)) (fun b k hbk=>jv hbk)
 intro e σ he
 cases e with
 |ret=>exact⟨Or.inl rfl,SS.iz he⟩
 |normal=>exact⟨Or.inr rfl,SS.iz he⟩
 |_=>exact no he
theorem fW.X4(hn:∀d,n d=walk P G [] H Γ rest gl true (((lW nt m (xC y0 A d) (di (nC y0 B (xD A d)))).put (some t5) .iu).put (some t2) .iu) (KR F)):
 (⟨kj,A,B,m,s,F,fun r=>pick ob (F.st y0 r).hp,n,fun _ _=>none⟩:fW).holds P gl:=by
 refine⟨?_,fun _ _ r h=>no (e:=r) h⟩
 intro d r hd
 have hd':n d=some r:=hd
 rw[hn d] at hd'
 exact fW.Xg T hΓ hro ab3 hf hb hrs hnt hops h0 h0d h0g h1 h1d h1g ht5 hF acj hd'
theorem fW.D0(hp:∀d q,p d q=walk P G [] H Γ rest gl true (((lW nt m (xC y0 A d) (di (nC y0 B (xD A d)))).put (some t5) (s.V y0 q)).put (some t2) (s.V y0 q)) (KR F)):
 (⟨kj,A,B,m,s,F,fun r=>pick ob (F.st y0 r).hp,fun _=>none,p⟩:fW).holds P gl:=by
 refine⟨fun _ r h=>no (e:=r) h,?_⟩
 intro d q r hd
 have hd':p d q=some r:=hd
 rw[hp d q] at hd'
 exact fW.Xg T hΓ hro ab3 hf hb hrs hnt hops h0 h0d h0g h1 h1d h1g ht5 hF acj hd'
end
def BT:List Nat→List (Option aN)→List (Option aN)
 |[],hp=>hp
 |
  b::l,hp=>BT l (match hp[b]? with
  |some (some (.var t _))=>hp.set b (some (.var t (.eW t)))
  |_=>hp)
theorem Wk.eW{gl:Ctx}:∀{l:List Nat}{σ:St},Wk gl σ {σ with hp:=BT l σ.hp}
 |[],σ=>Wk.refl gl σ
 |
  b::l,σ=>by
  unfold BT
  split
  ·rename_i t v hb
   have h1:Wk gl σ {σ with hp:=σ.hp.set b (some (.var t (.eW t)))}:=by
    intro E a w h
    obtain⟨h1,h2,g,c,e,h3,h4,h5⟩:=h.hw.cH b _ hb
    have hlen:=RC.len h5
    have hw:=h.hw.write (w':=w) (k':=.var t (.eW t)) hb rfl (fun _ _=>rfl) ⟨h1,Ty.db t,g,c,e,h3,h4,⟨by rw[hlen];exact AV.dR h2,RC.one h5⟩⟩
    refine⟨E,⟨h.len,h.tm,hw,h.df⟩,{Ext.refl (Own σ.hp E) E w with own:=?_ }⟩
    intro g' hg'
    exact Or.inl (Own.set hb hg')
   exact h1.trans (Wk.eW (l:=l) (σ:={σ with hp:=σ.hp.set b (some (.var t (.eW t)))}))
  ·exact Wk.eW (l:=l) (σ:=σ)
def Eu(C:fW)(ps:List (Nat×Nat))(F:SS)(h:C.D→Option C.F.T)(σ:St):Option F.T:=
 match σ.df with
 |
  [.func (.func fd) .nil cs]=>match lO (swp ps) (eC σ.hp) (cs.toList.map (fun x=>(x,Ty.unit))),iZ (swp ps) (eC σ.hp) ps with
  |
   some (L,lent),some ins=>if Nat.beq fd C.kj&&cs.atoms then(match C.get L ins with
   |some d=>Option.bind (h d) fun r=>if xi ⟨.bot,ps,[],C.out r,C.m,false,[],[]⟩ lent then F.sg {σ with hp:=aO σ.hp (lQ ps (C.out r) ps),df:=[]} else none
   |none=>none) else none
  |_,_=>none
 |_=>none
def Kc(C:fW)(ps:List (Nat×Nat))(D:fW)(qs:List (Nat×Nat))(jk:List Nat)(F:SS):fI→St→Option F.T
 |
  .ret,σ| .normal,σ=>match σ.df with
  |[]=>F.sg σ
  |_=>Eu C ps F C.n σ
 |
  .panic v,σ=>match v.ids,D.s.G (l:=[]) v () with
  |[],some q=>Eu D qs F (fun d=>D.p d q) {σ with hp:=BT jk σ.hp}
  |_,_=>none
 |_,_=>none
theorem BU{P:Program}{G:bT}(T:bB P G){gl:Ctx}{C:fW}{ps:List (Nat×Nat)}{F:SS}{h:C.D→Option C.F.T}{σ:St}{r:F.T}(hr:Eu C ps F h σ=some r){pm:Bool}{x:AV}(hx:x.ids= [])
 (hC:∀d y,h d=some y→KT P gl C.kj pm x (C.args d) (aO (List.replicate C.m none) (C.ins d)) (dk C.m (C.out y))) {fn:Func} {z:AV} (hF:F.df= []) (acj:ja G fn.results.toList (F.st y0 r)=some z) {out:List (Nat×aN)} (hout:∀b k,(b,k)∈out→(F.st y0 r).hp[b]? =some (some k)) {m:Nat}
 {E:Env} {a:Act} {w:World} (hg:cd gl σ E a w) {u:Value} (hu:cF E w x u) (hpm:pm=false→u= .nilIface) {O:Nat→Prop} {E0:Env} {w0:World} (hX0:Ext gl.md O E0 w0 (Own σ.hp E) E w):
 LeavesIn (Wd gl) 0 P fn a.tmps (fun e w'=>∃E',uI E' w' (.ret z) e∧HW gl E' w' (dk m out)∧Ext gl.md O E0 w0 (Own (dk m out) E') E' w') a.defers (uR pm u) w:=by
 have hdfF:(F.st y0 r).df= []:=by
  simp only[SS.st,SS.lW]
  obtain⟨nt',nh,tm,hp,df⟩:=F
  simp only at hF
  subst hF
  rfl
 unfold Eu at hr
 split at hr
 ·rename_i fd cs hdf
  split at hr
  ·rename_i L lent ins hL jg
   obtain⟨hc,hr1⟩:=bS hr
   clear hr
   simp only[aV] at hc
   obtain⟨hfd,hca⟩:=hc
   have hfd:=bQ hfd
   subst hfd
   split at hr1
   ·rename_i d hd
    obtain⟨y,hy,hr2⟩:=bind_some hr1
    obtain⟨fV,hr3⟩:=bS hr2
    obtain⟨e1,e2⟩:=fW.eV hd
    obtain⟨hcf,hM⟩:=hC d y hy
    rw[e1,e2] at hM
    have gdf:=hg.df
    rw[hdf] at gdf
    cases hads:a.defers with
    |nil=>rw[hads] at gdf;exact gdf.elim
    |
     cons dd ds=>
     rw[hads] at gdf
     obtain⟨⟨f',c',ed,q1,q2,_,_⟩,hrest⟩:=gdf
     have hds:ds= []:=by
      cases ds with
      |nil=>rfl
      |cons _ _=>exact hrest.elim
     subst hds
     have hf':f'= #[]:=by apply fw;simpa[RC] using q1
     subst hf'
     subst ed
     have hB:=cw σ.hp
     have hlent:=lD hL
     obtain⟨hφ,hw1⟩:=sa (cr:=⟨.bot,ps,[],C.out y,C.m,false,[],[]⟩) hg hB hlent jg fV
     have hmap:(cs.toList.map (fun x=>(x,Ty.unit))).map (·.1)=cs.toList:=by
      simp[oK]
     have hvv:=mG hg.hw hB hφ hL (fun g hg=>hg) (by rw[hmap];exact kN.atoms hca q2)
     have hu':cF (E.to ps (E.cU lent).S) w x u:=cF.mono (E:=E) ⟨fun _ _=>rfl,fun _ h=>Or.inl h⟩ (fun b hb=>by rw[hx] at hb;cases hb) hu
     have ab3:=hM _ w _ u hvv hu' hpm hw1
     refine leavesIn_cons (F:=Wd gl) (by unfold uR;split<;>simp) (fun h=>by cases h) (args:=c'.toList.toArray) ?_ (fun _ _=>trivial) (CallsDIn.mono ab3 ?_)
     ·simp only[invoke,Array.empty_append]
      exact hcf c' w
     ·rintro e u1 w2 ⟨rfl,⟨v,rfl⟩,E2,hW2,hX2⟩
      obtain⟨E3,g3,_,x3⟩:=kH (cr:=⟨.bot,ps,[],C.out y,C.m,false,[],[]⟩) hg hB hlent jg fV (fun b hb=>by simp at hb) hW2 hX2 (v:=v) (r':=.bot) rfl trivial
      simp only[eG] at g3 x3
      have g4:cd gl {σ with hp:=aO σ.hp (lQ ps (C.out y) ps),df:=[]} E3 {a with defers:=[]} w2:=⟨g3.len,g3.tm,g3.hw,trivial⟩
      obtain⟨E5,g5,x5⟩:=SS.iz (gl:=gl) hr3 E3 _ w2 g4
      obtain⟨v2,k1,k2⟩:=ph T g5 acj
      have aO:settle (lZ pm u)= .returning:=by
       unfold lZ
       cases pm<;>simp[settle]
      show LeavesIn _ _ _ _ _ _ _ _ _
      rw[aO]
      have hw5:HW gl E5 w2 (dk m out):=g5.hw.less (fun b k hb=>hout b k (eQ hb))
      have X5:=(hX0.trans x3).trans x5
      exact⟨v2,k1,E5,k2,hw5,{X5 with own:=fun g ⟨b,k,hb,hgb⟩=>X5.own g ⟨b,k,hout b k (eQ hb),hgb⟩}⟩
   ·cases hr1
  ·cases hr
 ·cases hr
theorem aW.X6{P:Program}{G:bT}(T:bB P G){gl:Ctx}{H:Hs}{Γ:List aW}(hΓ:∀C∈Γ,C.holds P gl){C:fW}(hC:C.holds P gl){ps:List (Nat×Nat)}{D:fW}(hD:D.holds P gl){qs:List (Nat×Nat)}{jk:List Nat}(hro:gl.ro=none){rs:List ResultVar}{kj:FuncId}{A:List Sh}{B:List (Nat×fg)}{m nt:Nat}{F:SS}{ob:List Nat}{f:prod (rq A (iy B []))→Option F.T}
 {fn:Func} {c:Code} (ab3:∀vs w,(callFunc kj vs).run P w= .ok (.enter kj vs) w) (hf:P.funcs[kj]? =some fn) (hb:fn.body=some c) (hrs:fn.results.toList=rs) (hnt:fn.ntmps=nt) (hF:F.df= [])
 (acj:∀r:F.T,Es (ja G rs (F.st y0 r))=true)
 (h:∀d,f d=walk P G [] H Γ c gl true (lW nt m (xC y0 A d) (di (nC y0 B (xD A d)))) (Kc C ps D qs jk F)):
 (aF G rs kj A B m F ob (.bH f)).holds P gl:=by
 refine⟨?_,fun _ _ h=>h.elim⟩
 intro d r hd
 have hd':f d=some r:=hd
 rw[h d] at hd'
 refine⟨ab3,?_⟩
 have abW:=jU T hΓ (fun _=>hro) (fun _=>aJ) hd'
 subst hnt
 have hz:ja G fn.results.toList (F.st y0 r)=some ((ja G rs (F.st y0 r)).getD .bot):=by rw[hrs];exact lY (acj r)
 have hout:∀b k,(b,k)∈pick ob (F.st y0 r).hp→(F.st y0 r).hp[b]? =some (some k):=fun b k hbk=>jv hbk
 intro E w vs hv hw
 obtain⟨hl,abT⟩:=hv.get
 refine CallsIn.calls (F:=Wd gl) (n:=0) (callsIn_of_wp_defers hf hb trivial ?_ hro) (fun k d hd=>by cases hd)
 have hg:cd gl (lW fn.ntmps m (xC y0 A d) (di (nC y0 B (xD A d)))) E {tmps:=vs.toArray++Array.replicate (fn.ntmps -vs.toArray.size) undef,defers:=[]} w:=by
  refine⟨?_,?_,hw,trivial⟩
  ·simp only[lW,Array.size_append,oJ,Array.size_replicate,cN,fO]
   rw[←hl];rfl
  ·intro i x hx v hv'
   simp only[lW] at hx
   rw[Array.getElem?_append] at hv'
   simp only[List.getElem?_append] at hx
   split at hx
   ·rename_i hi
    have hl':(xC y0 A d).length=vs.length:=hl
    rw[aA (by simpa[hl'] using hi)] at hv'
    exact abT i x v hx (by simpa using hv')
   ·rw[jX] at hx
    split at hx
    ·cases hx;trivial
    ·cases hx
 refine wpIn_mono (abW E _ w hg) ?_
 rintro ex a' w' ⟨e,σ',E',h1,he,h3,h4⟩
 have plain:∀{σ:St},σ.df= []→F.sg σ'=some r→cd gl σ' E' a' w'→a'.defers= []→LeavesIn (Wd gl) 0 P fn a'.tmps (fun e w'=>∃E',uI E' w' (.ret ((ja G rs (F.st y0 r)).getD .bot)) e∧HW gl E' w' (dk m (pick ob (F.st y0 r).hp))∧Ext gl.md (Own (aO (List.replicate m none) (di (nC y0 B (xD A d)))) E) E w (Own (dk m (pick ob (F.st y0 r).hp)) E') E' w') a'.defers .returning w':=by
  intro σ _ hm hg' hds
  obtain⟨E5,g5,x5⟩:=SS.iz (gl:=gl) hm E' a' w' hg'
  obtain⟨v2,k1,k2⟩:=ph T g5 hz
  rw[hds]
  have hw5:HW gl E5 w' (dk m (pick ob (F.st y0 r).hp)):=g5.hw.less (fun b k hb=>hout b k (eQ hb))
  have X5:=h4.trans x5
  exact⟨v2,k1,E5,k2,hw5,{X5 with own:=fun g ⟨b,k,hb,hgb⟩=>X5.own g ⟨b,k,hout b k (eQ hb),hgb⟩}⟩
 have leave:(match σ'.df with
  |[]=>F.sg σ'
  |_=>Eu C ps F C.n σ')=some r→LeavesIn (Wd gl) 0 P fn a'.tmps (fun e w'=>∃E',uI E' w' (.ret ((ja G rs (F.st y0 r)).getD .bot)) e∧HW gl E' w' (dk m (pick ob (F.st y0 r).hp))∧Ext gl.md (Own (aO (List.replicate m none) (di (nC y0 B (xD A d)))) E) E w (Own (dk m (pick ob (F.st y0 r).hp)) E') E' w') a'.defers .returning w':=by
  intro he
  cases hd0:σ'.df with
  |
   nil=>
   rw[hd0] at he
   have hds:a'.defers= []:=by
    have:=h3.df
    rw[hd0] at this
    cases hds:a'.defers with
    |nil=>rfl
    |cons d l=>rw[hds] at this;exact this.elim
   exact plain (σ:=σ') hd0 he h3 hds
  |
   cons x l=>
   rw[hd0] at he
   exact BU T (pm:=false) (x:=.iu) he rfl (fun d y hy=>hC.n d y hy) hF hz hout h3 (u:=.nilIface) (Or.inr ⟨rfl,rfl⟩) (fun _=>rfl) h4
 cases e with
 |
  ret=>cases ex with
  |ret=>exact leave he
  |_=>exact h1.elim
 |
  normal=>cases ex with
  |normal=>exact leave he
  |_=>exact h1.elim
 |exit i=>exact no he
 |
  panic v=>
  cases ex with
  |
   panic ch=>
   obtain⟨u,e,hu⟩:=h1
   subst e
   simp only[Kc] at he
   split at he
   ·rename_i q ack hq
    have hV:=(Sh.uF y0 hq).1
    obtain⟨E2,g2,x2⟩:=Wk.eW (gl:=gl) (l:=jk) (σ:=σ') E' a' w' h3
    have hu2:cF E2 w' v u:=cF.mono (E:=E') (w:=w') ⟨fun b hb=>rfl,x2.sle⟩ (fun b hb=>by rw[ack] at hb;cases hb) hu
    exact BU T (pm:=true) (x:=v) he ack (fun d y hy=>by have:=hD.p d q y hy;rw[hV] at this;exact this) hF hz hout g2 hu2 (fun e=>by cases e) (h4.trans x2)
   ·cases he
  |_=>exact h1.elim
end Go.Ax
namespace Go.Ax
def Qb:fI→St→Option St
 | .normal,σ=>some σ
 |_,_=>none
def Qc(F:SS):fI→St→Option F.T
 | .ret,σ=>zY F .ret σ
 |_,_=>none
theorem aW.jw{P:Program}{G:bT}(T:bB P G){gl:Ctx}{H:Hs}{Γ:List aW}(hΓ:∀C∈Γ,C.holds P gl)(hro:gl.ro=none){rs:List ResultVar}{kj:FuncId}{A:List Sh}{B:List (Nat×fg)}{m nt:Nat}{F:SS}{ob:List Nat}{f:prod (rq A (iy B []))→Option F.T}
 {fn:Func} {c0 X Y:Code} {rid:Nat} {o1 o2:Oper} (x:Operand) (d1 d2:Nat) (t t2 e:TypeId) (bs:Nat) (u:Ty) (xs:prod (rq A (iy B []))→List u.den) (σ1:prod (rq A (iy B []))→St)
 (ab3:∀vs w,(callFunc kj vs).run P w= .ok (.enter kj vs) w) (hf:P.funcs[kj]? =some fn) (hb:fn.body=some (.seq c0 (.seq (.seq (.region rid #[o1,o2] false) (.cond (.tmp d2) X .skip)) Y))) (hrs:fn.results.toList=rs) (hnt:fn.ntmps=nt) (hF:F.df= [])
 (h1:o1.op= .move x) (hd1:o1.dst=some d1) (hg1:o1.guard=none) (h2:o2.op= .binOp .eql t (.tmp d1) (.const (.slice none 0 0)) t2) (hd2:o2.dst=some d2) (hg2:o2.guard=none) (ht:P.underlying t=some (.slice e))
 (acj:∀r:F.T,Es (ja G rs (F.st y0 r))=true)
 (hA:∀d,walk P G [] H Γ c0 gl true (lW nt m (xC y0 A d) (di (nC y0 B (xD A d)))) Qb=some (σ1 d))
 (hx:∀d,bG gl (σ1 d).tm x= .val (.slice bs u) (xs d)) (hl:∀d,Nat.blt d1 (σ1 d).tm.length=true) (hl2:∀d b,bG gl (((σ1 d).put (some d1) (.val (.slice bs u) (xs d))).put (some d2) (.val .bool b)).tm (.tmp d2)= .val .bool b)
 (hX:∀d,xs d= []→f d=walk P G [] H Γ X gl true (((σ1 d).put (some d1) (.val (.slice bs u) (xs d))).put (some d2) (.val .bool true)) (Qc F))
 (hY:∀d,f d=walk P G [] H Γ Y gl true (((σ1 d).put (some d1) (.val (.slice bs u) (xs d))).put (some d2) (.val .bool false)) (zY F)):
 (aF G rs kj A B m F ob (.bH f)).holds P gl:=by
 refine⟨?_,fun _ _ h=>h.elim⟩
 intro d r hd
 have hd':f d=some r:=hd
 refine⟨ab3,?_⟩
 subst hnt
 refine rj.vW T hf hb hro (σe:=F.st y0 r) ?_ ?_ ?_ ?_
 ·refine cX.seq (cX.mono (jU T hΓ (fun _=>hro) (fun _=>aJ) (hA d)) ?_)
  intro e' σ he
  cases e' with
  |
   normal=>
   have:σ=σ1 d:=iL he
   subst this
   refine cX.seq ?_
   refine cX.IU x d1 d2 t t2 e bs u (xs d) h1 hd1 hg1 h2 hd2 hg2 (hx d) ht (hl d) ?_
   intro b hbx
   cases b with
   |
    true=>
    refine cX.cond (hl2 d true) (fun _=>?_) (fun e=>by cases e)
    have hw:=hX d (hbx rfl)
    rw[hd'] at hw
    refine cX.mono (jU T hΓ (fun _=>hro) (fun _=>aJ) hw.symm) ?_
    intro e2 σ2 he2
    cases e2 with
    |ret=>exact rH he2
    |_=>exact no he2
   |
    false=>
    refine cX.cond (hl2 d false) (fun e=>by cases e) (fun _=>cX.skip ?_)
    have hw:=hY d
    rw[hd'] at hw
    refine cX.mono (jU T hΓ (fun _=>hro) (fun _=>aJ) hw.symm) ?_
    intro e2 σ2 he2
    cases e2 with
    |ret=>exact rH he2
    |normal=>exact rH he2
    |_=>exact no he2
  |_=>exact no he
 ·show(F.st y0 r).df= []
  simp only[SS.st,SS.lW]
  obtain⟨nt',nh,tm,hp,df⟩:=F
  simp only at hF
  subst hF
  rfl
 ·rw[hrs];exact lY (acj r)
 ·intro b k hbk;exact jv hbk
end Go.Ax
namespace Go.Ax
theorem fu{x:Int}(h1:-9223372036854775808≤x)(h2:x≤9223372036854775807):aZ x=x:=by
 show IntKind.i64.wrap x=x
 simp only[IntKind.wrap,IntKind.bits,IntKind.signed]
 simp
 omega
theorem bw{i:Nat}(h:i≤4611686018427387904):aZ ((i:Int)+1)=((i+1:Nat):Int):=by
 rw[fu (by omega) (by omega)];rfl
theorem KV{t:Ty}{xs:List t.den}{i:Nat}(h:i<xs.length):nth t xs (i:Int)=xs[i]:=by
 simp[nth,List.getD,h]
theorem ir{kt:Ty}(hk:kt.keyed=true)(k:kt.den):aX kt k k=true:=(cu hk k k).2 rfl
theorem oB{kt:Ty}(hk:kt.keyed=true){p k:kt.den}(h:p≠k):aX kt p k=false:=by
 cases he:aX kt p k with
 |false=>rfl
 |true=>exact absurd ((cu hk p k).1 he) h
theorem l0{α:Type}{kt:Ty}(hk:kt.keyed=true)(k:kt.den)(v:α):∀es:List (kt.den×α),cJ kt k (bE kt k v es)=true
 |[]=>by simp[bE,cJ,ir hk]
 |
  e::es=>by
  simp only[bE]
  split
  ·simp[cJ,ir hk]
  ·simp[cJ,l0 hk k v es]
theorem kU{α:Type}{kt:Ty}(hk:kt.keyed=true){p k:kt.den}(h:p≠k)(v:α):∀es:List (kt.den×α),cJ kt p (bE kt k v es)=cJ kt p es
 |[]=>by simp[bE,cJ,oB hk h]
 |
  e::es=>by
  simp only[bE]
  split
  ·rename_i he
   have:=(cu hk k e.1).1 he
   rw[this] at h
   simp[cJ,this,oB hk h]
  ·simp[cJ,kU hk h v es]
theorem ew{kt vt:Ty}(hk:kt.keyed=true)(k:kt.den)(v:vt.den):∀es:List (kt.den×vt.den),bz kt vt k (bE kt k v es)=v
 |[]=>by simp[bE,bz,ir hk]
 |
  e::es=>by
  simp only[bE]
  split
  ·simp[bz,ir hk]
  ·rename_i he
   simp[bz,he,ew hk k v es]
theorem dB{kt vt:Ty}(hk:kt.keyed=true){p k:kt.den}(h:p≠k)(v:vt.den):∀es:List (kt.den×vt.den),bz kt vt p (bE kt k v es)=bz kt vt p es
 |[]=>by simp[bE,bz,oB hk h]
 |
  e::es=>by
  simp only[bE]
  split
  ·rename_i he
   have:=(cu hk k e.1).1 he
   rw[this] at h
   simp[bz,this,oB hk h]
  ·simp[bz,dB hk h v es]
end Go.Ax
namespace Go.Ax
theorem aM{U R:Type}(F:(U→Option R)→U→Option R)(n:Nat)(u:U):aK F (n+1) u=F (aK F n) u:=rfl
theorem Ev{U R:Type}{F:(U→Option R)→U→Option R}(I:U→Prop)(μ:U→Nat)(Q:U→Option R→Prop)
 (h:∀rec u,I u→(∀u',I u'→μ u'<μ u→Q u' (rec u'))→Q u (F rec u)):∀n u,I u→μ u<n→Q u (aK F n u):=by
 intro n
 induction n with
 |zero=>intro u _ hn;omega
 |
  succ n ih=>
  intro u hu hn
  rw[aM]
  exact h _ u hu fun u' hu' hlt=>ih u' hu' (by omega)
theorem aI{U R:Type}(d:U)(f:U→Option R):aG (some (.brk d)) f=f d:=rfl
theorem dP{U R:Type}(r:R)(f:U→Option R):aG (some (.ret r)) f=some r:=rfl
theorem Na{U R:Type}(r:R):(cn (some r):Option (cW U R))=some (.ret r):=rfl
theorem eR{R:Type}(y:YC)(x:Option R):DZ y y x=x:=by unfold DZ;rw[aA rfl]
theorem mK{R:Type}{F:YC→Option R}{r:R}(h:∀y,F y=some r):sJ F=some r:=by
 unfold sJ
 rw[dif_pos ⟨r,h⟩]
 have hc:=Classical.choose_spec (⟨r,h⟩:∃r,∀y,F y=some r)
 have:=hc y0
 rw[h] at this
 exact this.symm▸rfl
theorem GP{A R:Type}{xs:List A}{K:A→List A→Option R}{r:R}(hne:xs≠[])(h:∀i(hi:i<xs.length),K xs[i] (xs.eraseIdx i)=some r):DJ xs K=some r:=by
 unfold DJ
 rw[dif_pos ⟨r,h⟩]
 have hc:=Classical.choose_spec (⟨r,h⟩:∃r,∀i(h:i<xs.length),K xs[i] (xs.eraseIdx i)=some r)
 have h0:0<xs.length:=List.length_pos_iff.2 hne
 have:=hc 0 h0
 rw[h 0 h0] at this
 exact this.symm▸rfl
theorem gd{α:Type}{c:Prop}[Decidable c]{x y:α}(h:c):(if c then x else y)=x:=aA h
theorem dg{t:Ty}{xs:List t.den}{i:Nat}(h:i<xs.length):nth t xs (i:Int)=xs[i]:=KV h
theorem scan{U R β:Type}{F:(U→Option (cW β R))→U→Option (cW β R)}(len:Nat)(at_:Nat→U)(b:β)(C:Nat→Prop)(P:R→Prop)
 (step:∀rec i,i<len→(C i∧F rec (at_ i)=rec (at_ (i+1)))∨∃r,P r∧F rec (at_ i)=some (.ret r))
 (stop:∀rec,F rec (at_ len)=some (.brk b)):
 ∀n i,i≤len→len -i<n→((∀j,i≤j→j<len→C j)∧aK F n (at_ i)=some (.brk b))∨∃r,P r∧aK F n (at_ i)=some (.ret r):=by
 intro n
 induction n with
 |zero=>intro i _ h;omega
 |
  succ n ih=>
  intro i hi hn
  rw[aM]
  by_cases h:i<len
  ·rcases step (aK F n) i h with⟨hc,e⟩|⟨r,hp,e⟩
   ·rw[e]
    rcases ih (i+1) (by omega) (by omega) with⟨h1,h2⟩|h2
    ·refine Or.inl ⟨fun j h3 h4=>?_,h2⟩
     by_cases hj:j=i
     ·subst hj;exact hc
     ·exact h1 j (by omega) h4
    ·exact Or.inr h2
   ·exact Or.inr ⟨r,hp,e⟩
  ·have:i=len:=by omega
   subst this
   exact Or.inl ⟨fun j h3 h4=>absurd h4 (by omega),stop _⟩
theorem zZ{n:Nat}(h:n≤aE):n<fJ:=by
 have h1:aE=140737488355328:=rfl
 have h2:fJ=18446744073709551616:=rfl
 omega
end Go.Ax
namespace Go.Ax
theorem Nb{U R β:Type}{F:(U→Option (cW β R))→U→Option (cW β R)}{L:Nat→U→Option (cW β R)}(hL:L=aK F)(len:Nat)(at_:Nat→U)(b:β)(C:Nat→Prop)(P:R→Prop)
 (step:∀rec i,i<len→(C i∧F rec (at_ i)=rec (at_ (i+1)))∨∃r,P r∧F rec (at_ i)=some (.ret r))
 (stop:∀rec,F rec (at_ len)=some (.brk b)) (n:Nat) (hn:len<n):((∀j,j<len→C j)∧L n (at_ 0)=some (.brk b))∨∃r,P r∧L n (at_ 0)=some (.ret r):=by
 subst hL
 rcases scan len at_ b C P step stop n 0 (by omega) (by omega) with⟨h1,h2⟩|h
 ·exact Or.inl ⟨fun j hj=>h1 j (by omega) hj,h2⟩
 ·exact Or.inr h
theorem Xh{U R β S:Type}{F:(U→Option (cW β R))→U→Option (cW β R)}{L:Nat→U→Option (cW β R)}(hL:L=aK F)(len:Nat)(at_:Nat→S→U)(end_:S→β)(g:Nat→S→S)(I:Nat→S→Prop)
 (step:∀rec i s,i<len→I i s→F rec (at_ i s)=rec (at_ (i+1) (g i s))∧I (i+1) (g i s))
 (stop:∀rec s,I len s→F rec (at_ len s)=some (.brk (end_ s))):
 ∀n i s,i≤len→len -i<n→I i s→∃s',s'=(List.range' i (len -i)).foldl (fun s j=>g j s) s∧I len s'∧L n (at_ i s)=some (.brk (end_ s')):=by
 subst hL
 intro n
 induction n with
 |zero=>intro i s _ h;omega
 |
  succ n ih=>
  intro i s hi hn hI
  rw[aM]
  by_cases h:i<len
  ·obtain⟨e,hI'⟩:=step (aK F n) i s h hI
   rw[e]
   obtain⟨s',h1,h2,h3⟩:=ih (i+1) (g i s) (by omega) (by omega) hI'
   refine⟨s',?_,h2,h3⟩
   rw[show len -i=(len -(i+1))+1 from by omega,List.range'_succ,List.foldl_cons]
   exact h1
  ·have:i=len:=by omega
   subst this
   refine⟨s,by simp,hI,stop _ s hI⟩
end Go.Ax
namespace Go.Ax
def W{R:Type}(x:Option R)(P:R→Prop):Prop:=∃r,x=some r∧P r
def CT{U R:Type}(B:U→Prop)(Q:R→Prop):cW U R→Prop
 | .brk d=>B d
 | .ret r=>Q r
def ST{A B:Type}(P:A→Prop)(Q:B→Prop):Sum A B→Prop
 | .inl a=>P a
 | .inr b=>Q b
theorem jx{U R:Type}{B:U→Prop}{Q:R→Prop}{d:U}:CT B Q (.brk d)↔B d:=Iff.rfl
theorem Qd{U R:Type}{B:U→Prop}{Q:R→Prop}{r:R}:CT B Q (.ret r)↔Q r:=Iff.rfl
theorem Qe{A B:Type}{P:A→Prop}{Q:B→Prop}{a:A}:ST P Q (.inl a)↔P a:=Iff.rfl
theorem Qf{A B:Type}{P:A→Prop}{Q:B→Prop}{b:B}:ST P Q (.inr b)↔Q b:=Iff.rfl
theorem pM{R:Type}{a:R}{P:R→Prop}:W (some a) P↔P a:=⟨fun⟨_,h,p⟩=>(by cases h;exact p),fun h=>⟨a,rfl,h⟩⟩
theorem Qg{R:Type}{P:R→Prop}:W (none:Option R) P↔False:=⟨fun⟨_,h,_⟩=>(by cases h),False.elim⟩
theorem vX{A R:Type}{x:Option A}{f:A→Option R}{P:R→Prop}:W (Option.bind x f) P↔W x fun a=>W (f a) P:=by
 cases x with
 |none=>exact⟨fun⟨_,h,_⟩=>(by cases h),fun⟨_,h,_⟩=>(by cases h)⟩
 |some a=>exact⟨fun⟨r,h,p⟩=>⟨a,rfl,r,h,p⟩,fun⟨a',h,r,h2,p⟩=>(by cases h;exact⟨r,h2,p⟩)⟩
theorem Xi{R:Type}{c:Prop}[Decidable c]{x y:Option R}{P:R→Prop}:W (if c then x else y) P↔(c→W x P)∧(¬c→W y P):=by
 by_cases h:c
 ·rw[aA h];exact⟨fun w=>⟨fun _=>w,fun n=>absurd h n⟩,fun w=>w.1 h⟩
 ·rw[aC h];exact⟨fun w=>⟨fun n=>absurd n h,fun _=>w⟩,fun w=>w.2 h⟩
theorem bY{U R:Type}{x:Option (cW U R)}{f:U→Option R}{P:R→Prop}:W (aG x f) P↔W x (CT (fun d=>W (f d) P) P):=by
 unfold aG
 rw[vX]
 refine⟨fun⟨c,h,p⟩=>⟨c,h,?_⟩,fun⟨c,h,p⟩=>⟨c,h,?_⟩⟩
 ·cases c with
  |brk d=>exact p
  |ret r=>exact(pM (a:=r) (P:=P)).1 p
 ·cases c with
  |brk d=>exact p
  |ret r=>exact(pM (a:=r) (P:=P)).2 p
theorem X7{U R:Type}{x:Option R}{Q:cW U R→Prop}:W (cn x) Q↔W x fun r=>Q (.ret r):=by
 cases x with
 |none=>exact⟨fun⟨_,h,_⟩=>(by cases h),fun⟨_,h,_⟩=>(by cases h)⟩
 |some a=>exact⟨fun⟨r,h,p⟩=>(by cases h;exact⟨a,rfl,p⟩),fun⟨r,h,p⟩=>(by cases h;exact⟨_,rfl,p⟩)⟩
theorem kV{A B R:Type}{x:Option (Sum A B)}{kp:A→Option R}{k:B→Option R}{P:R→Prop}:W (eO x kp k) P↔W x (ST (fun a=>W (kp a) P) fun b=>W (k b) P):=by
 unfold eO
 rw[vX]
 refine⟨fun⟨c,h,p⟩=>⟨c,h,?_⟩,fun⟨c,h,p⟩=>⟨c,h,?_⟩⟩<;>cases c<;>exact p
theorem W.mono{R:Type}{x:Option R}{P Q:R→Prop}(h:W x P)(hq:∀r,P r→Q r):W x Q:=h.imp fun r h=>⟨h.1,hq r h.2⟩
theorem CT.mono{U R:Type}{B B':U→Prop}{Q Q':R→Prop}(hb:∀d,B d→B' d)(hq:∀r,Q r→Q' r)(c:cW U R)(h:CT B Q c):CT B' Q' c:=by
 cases c with
 |brk d=>exact hb d h
 |ret r=>exact hq r h
theorem W.ct{U R:Type}{x:Option (cW U R)}{B B':U→Prop}{Q Q':R→Prop}(h:W x (CT B Q))(hb:∀d,B d→B' d)(hq:∀r,Q r→Q' r):W x (CT B' Q'):=h.mono (CT.mono hb hq)
theorem W.st{A B:Type}{x:Option (Sum A B)}{P P':A→Prop}{Q Q':B→Prop}(h:W x (ST P Q))(hp:∀a,P a→P' a)(hq:∀b,Q b→Q' b):W x (ST P' Q'):=
 h.mono fun c hc=>by cases c with
  |inl a=>exact hp a hc
  |inr b=>exact hq b hc
theorem W.iter{U R:Type}{F:(U→Option R)→U→Option R}{P:R→Prop}(I:U→Prop)(μ:U→Nat)
 (h:∀rec u,I u→(∀u',I u'→μ u'<μ u→W (rec u') P)→W (F rec u) P):∀n u,I u→μ u<n→W (aK F n u) P:=
 Ev I μ (fun _ x=>W x P) h
theorem dM{t:Ty}{l:List t.den}{a:Int}(h0:0≤a)(h1:a<(l.length:Int)):nth t l a∈l:=by
 have h:a.toNat<l.length:=by omega
 have e:a=(a.toNat:Int):=by omega
 rw[e,dg h]
 exact ij h
end Go.Ax
namespace Go.Ax
theorem yv{U R β:Type}{F:(U→Option (cW β R))→U→Option (cW β R)}{f:β→Option R}{n:Nat}(Q:Option R→Prop)(len:Nat)(at_:Nat→U)(b:β)(C:Nat→Prop)(P:R→Prop)
 (hn:len<n)
 (step:∀rec i,i<len→(C i∧F rec (at_ i)=rec (at_ (i+1)))∨∃r,P r∧F rec (at_ i)=some (.ret r))
 (stop:∀rec,F rec (at_ len)=some (.brk b)) (h1:(∀j,j<len→C j)→Q (f b)) (h2:∀r,P r→Q (some r)):Q (aG (aK F n (at_ 0)) f):=by
 rcases Nb (L:=aK F) rfl len at_ b C P step stop n hn with⟨h3,e⟩|⟨r,h3,e⟩
 ·rw[e,aI];exact h1 h3
 ·rw[e,dP];exact h2 r h3
theorem l6{t:Ty}{l:List t.den}{i:Nat}(h:i<l.length):nth t l (i:Int)∈l:=dg (t:=t) h▸ij h
theorem GQ{E:Type}(t:Ty)(p:t.den→E→Option (Bool×E))(l:List t.den)(e0:E)(q:t.den→Bool)(hp:∀x∈l,p x e0=some (q x,e0))(hl:l.length≤aE):
 ∃r:Int,aG (U:=E) ((aK fun rec(u:List t.den×Int×Int×E)=>match u with|⟨e,d,c,f⟩=>if(decide (c<d))=true then(if 0≤c then(if c<(List.length e:Int) then(Option.bind (p (nth t e c) f) fun⟨a,b⟩=>if a=true then(cn (some (c,b))) else(rec (e,d,aZ (c+(1:Int)),b))) else none) else none) else(some (.brk f))) (Int.toNat (List.length l:Int)+1) (l,(List.length l:Int),(0:Int),e0)) (fun v1=>some ((-1:Int),v1))=some (r,e0)∧(0≤r↔∃x∈l,q x=true):=by
 have hB:aE=140737488355328:=rfl
 refine yv (fun z=>∃r:Int,z=some (r,e0)∧(0≤r↔∃x∈l,q x=true)) l.length (fun i=>(l,(l.length:Int),(i:Int),e0)) e0 (fun i=>∀h:i<l.length,q l[i]=false) (fun r:Int×E=>∃i,∃h:i<l.length,q l[i]=true∧r=((i:Int),e0)) (by omega) ?step ?stop ?h1 ?h2
 case step=>
  intro rec i hi
  dsimp only
  have d1:decide ((i:Int)<(l.length:Int))=true:=cC (by omega)
  rw[aA d1,aA (dD i),aA (show(i:Int)<(l.length:Int) by omega),hp _ (l6 hi),aH]
  dsimp only
  rw[dg (t:=t) hi]
  cases hq:q l[i] with
  |true=>exact Or.inr ⟨_,⟨i,hi,hq,rfl⟩,rfl⟩
  |
   false=>
   rw[aC (by decide),bw (by omega)]
   exact Or.inl ⟨fun _=>hq,rfl⟩
 case stop=>
  intro rec
  dsimp only
  rw[aC (by simp only[ik];omega)]
 case h1=>
  intro h1
  refine⟨-1,rfl,?_⟩
  constructor
  ·intro h;omega
  ·rintro⟨x,hx,hq⟩
   obtain⟨j,hj,rfl⟩:=iJ hx
   rw[h1 j hj hj] at hq
   cases hq
 case h2=>
  rintro _ ⟨i,hi,hq,rfl⟩
  exact⟨(i:Int),rfl,⟨fun _=>⟨_,ij hi,hq⟩,fun _=>dD i⟩⟩
theorem Qh{E:Type}(t:Ty)(p:t.den→E→Option Bool)(l:List t.den)(e0:E)(q:t.den→Bool)(hp:∀x∈l,p x e0=some (q x))(hl:l.length≤aE):
 ∃r:Int,aG (U:=Unit) ((aK fun rec(u:List t.den×E×Int×Int)=>match u with|⟨c,d,b,a⟩=>if(decide (a<b))=true then(if 0≤a then(if a<(List.length c:Int) then(Option.bind (p (nth t c a) d) fun y4=>if y4=true then(cn (some a)) else(rec (c,d,b,aZ (a+(1:Int))))) else none) else none) else(some (.brk ()))) (Int.toNat (List.length l:Int)+1) (l,e0,(List.length l:Int),(0:Int))) (fun _=>some (-1:Int))=some r∧(0≤r↔∃x∈l,q x=true):=by
 have hB:aE=140737488355328:=rfl
 refine yv (fun z=>∃r:Int,z=some r∧(0≤r↔∃x∈l,q x=true)) l.length (fun i=>(l,e0,(l.length:Int),(i:Int))) () (fun i=>∀h:i<l.length,q l[i]=false) (fun r:Int=>∃i,∃h:i<l.length,q l[i]=true∧r=(i:Int)) (by omega) ?step ?stop ?h1 ?h2
 case step=>
  intro rec i hi
  dsimp only
  have d1:decide ((i:Int)<(l.length:Int))=true:=cC (by omega)
  rw[aA d1,aA (dD i),aA (show(i:Int)<(l.length:Int) by omega),hp _ (l6 hi),aH,dg (t:=t) hi]
  cases hq:q l[i] with
  |true=>exact Or.inr ⟨_,⟨i,hi,hq,rfl⟩,rfl⟩
  |
   false=>
   rw[aC (by decide),bw (by omega)]
   exact Or.inl ⟨fun _=>hq,rfl⟩
 case stop=>
  intro rec
  dsimp only
  rw[aC (by simp only[ik];omega)]
 case h1=>
  intro h1
  refine⟨-1,rfl,?_⟩
  constructor
  ·intro h;omega
  ·rintro⟨x,hx,hq⟩
   obtain⟨j,hj,rfl⟩:=iJ hx
   rw[h1 j hj hj] at hq
   cases hq
 case h2=>
  rintro _ ⟨i,hi,hq,rfl⟩
  exact⟨(i:Int),rfl,⟨fun _=>⟨_,ij hi,hq⟩,fun _=>dD i⟩⟩
theorem Qi(t:Ty)(p:t.den→Option Bool)(l:List t.den)(q:t.den→Bool)(hp:∀x∈l,p x=some (q x))(hl:l.length≤aE):
 ∃r:Int,aG (U:=Unit) ((aK fun rec(u:List t.den×Int×Int)=>match u with|⟨c,b,a⟩=>if(decide (a<b))=true then(if 0≤a then(if a<(List.length c:Int) then(Option.bind (p (nth t c a)) fun y4=>if y4=true then(cn (some a)) else(rec (c,b,aZ (a+(1:Int))))) else none) else none) else(some (.brk ()))) (Int.toNat (List.length l:Int)+1) (l,(List.length l:Int),(0:Int))) (fun _=>some (-1:Int))=some r∧(0≤r↔∃x∈l,q x=true):=by
 have hB:aE=140737488355328:=rfl
 refine yv (fun z=>∃r:Int,z=some r∧(0≤r↔∃x∈l,q x=true)) l.length (fun i=>(l,(l.length:Int),(i:Int))) () (fun i=>∀h:i<l.length,q l[i]=false) (fun r:Int=>∃i,∃h:i<l.length,q l[i]=true∧r=(i:Int)) (by omega) ?step ?stop ?h1 ?h2
 case step=>
  intro rec i hi
  dsimp only
  have d1:decide ((i:Int)<(l.length:Int))=true:=cC (by omega)
  rw[aA d1,aA (dD i),aA (show(i:Int)<(l.length:Int) by omega),hp _ (l6 hi),aH,dg (t:=t) hi]
  cases hq:q l[i] with
  |true=>exact Or.inr ⟨_,⟨i,hi,hq,rfl⟩,rfl⟩
  |
   false=>
   rw[aC (by decide),bw (by omega)]
   exact Or.inl ⟨fun _=>hq,rfl⟩
 case stop=>
  intro rec
  dsimp only
  rw[aC (by simp only[ik];omega)]
 case h1=>
  intro h1
  refine⟨-1,rfl,?_⟩
  constructor
  ·intro h;omega
  ·rintro⟨x,hx,hq⟩
   obtain⟨j,hj,rfl⟩:=iJ hx
   rw[h1 j hj hj] at hq
   cases hq
 case h2=>
  rintro _ ⟨i,hi,hq,rfl⟩
  exact⟨(i:Int),rfl,⟨fun _=>⟨_,ij hi,hq⟩,fun _=>dD i⟩⟩
theorem MJ(t:Ty)(p:t.den→t.den→Option Bool)(x y:List t.den)(hp:∀a∈x,∀b∈y,∃r,p a b=some r)(hl:x.length=y.length→x.length≤aE):
 ∃r:Bool,(if(!decide ((List.length x:Int)=(List.length y:Int)))=true then(some false) else(aG (U:=Unit) ((aK fun rec(u:List t.den×List t.den×Int×Int)=>match u with|⟨d,c,b,a⟩=>if(decide (a<b))=true then(if 0≤a then(if a<(List.length c:Int) then(if 0≤a then(if a<(List.length d:Int) then(Option.bind (p (nth t c a) (nth t d a)) fun y4=>if(!y4)=true then(cn (some false)) else(rec (d,c,b,aZ (a+(1:Int))))) else none) else none) else none) else none) else(some (.brk ()))) (Int.toNat (List.length x:Int)+1) (y,x,(List.length x:Int),(0:Int))) fun _=>some true))=some r:=by
 have hB:aE=140737488355328:=rfl
 by_cases hxy:x.length=y.length
 ·have hl:=hl hxy
  rw[aC (by simp[hxy])]
  refine yv (fun z=>∃r:Bool,z=some r) x.length (fun i=>(y,x,(x.length:Int),(i:Int))) () (fun _=>True) (fun _:Bool=>True) (by omega) ?step ?stop ?h1 ?h2
  case step=>
   intro rec i hi
   dsimp only
   obtain⟨r,hr⟩:=hp _ (l6 hi) _ (l6 (t:=t) (l:=y) (i:=i) (by omega))
   rw[aA (cC (by omega)),aA (dD i),aA (by omega),aA (dD i),aA (by omega),hr,aH]
   cases r with
   |false=>exact Or.inr ⟨false,trivial,rfl⟩
   |
    true=>
    rw[aC (by decide),bw (by omega)]
    exact Or.inl ⟨trivial,rfl⟩
  case stop=>
   intro rec
   dsimp only
   rw[aC (by simp only[ik];omega)]
  case h1=>exact fun _=>⟨true,rfl⟩
  case h2=>exact fun r _=>⟨r,rfl⟩
 ·exact⟨false,aA (by simp;omega)⟩
theorem Gu(t:Ty)(q:t.den→t.den→Bool)(x y:List t.den)(hl:x.length=y.length→x.length≤aE):
 ∃r:Bool,(if(!decide ((List.length x:Int)=(List.length y:Int)))=true then(some false) else(aG (U:=Unit) ((aK fun rec(u:List t.den×List t.den×Int×Int)=>match u with|⟨c,d,b,a⟩=>if(decide (a<b))=true then(if 0≤a then(if a<(List.length c:Int) then(if 0≤a then(if a<(List.length d:Int) then(if(!q (nth t c a) (nth t d a))=true then(cn (some false)) else(rec (c,d,b,aZ (a+(1:Int))))) else none) else none) else none) else none) else(some (.brk ()))) (Int.toNat (List.length x:Int)+1) (x,y,(List.length x:Int),(0:Int))) fun _=>some true))=some r:=by
 have hB:aE=140737488355328:=rfl
 by_cases hxy:x.length=y.length
 ·have hl:=hl hxy
  rw[aC (by simp[hxy])]
  refine yv (fun z=>∃r:Bool,z=some r) x.length (fun i=>(x,y,(x.length:Int),(i:Int))) () (fun _=>True) (fun _:Bool=>True) (by omega) ?step ?stop ?h1 ?h2
  case step=>
   intro rec i hi
   dsimp only
   rw[aA (cC (by omega)),aA (dD i),aA (by omega),aA (dD i),aA (by omega)]
   cases q (nth t x i) (nth t y i) with
   |false=>exact Or.inr ⟨false,trivial,rfl⟩
   |
    true=>
    rw[aC (by decide),bw (by omega)]
    exact Or.inl ⟨trivial,rfl⟩
  case stop=>
   intro rec
   dsimp only
   rw[aC (by simp only[ik];omega)]
  case h1=>exact fun _=>⟨true,rfl⟩
  case h2=>exact fun r _=>⟨r,rfl⟩
 ·exact⟨false,aA (by simp;omega)⟩
end Go.Ax
namespace Go.Ax
theorem fX{α:Type}{kt:Ty}{k:kt.den}{v:α}:∀{es:List (kt.den×α)}{p:kt.den×α},p∈bE kt k v es→p=(k,v)∨p∈es
 |
  [],p,h=>by
  simp only[bE,l9] at h
  exact Or.inl h
 |
  e::es,p,h=>by
  unfold bE at h
  split at h
  ·rcases List.mem_cons.1 h with h|h
   ·exact Or.inl h
   ·exact Or.inr (dr _ h)
  ·rcases List.mem_cons.1 h with h|h
   ·exact Or.inr (h▸cK ..)
   ·rcases fX h with h|h
    ·exact Or.inl h
    ·exact Or.inr (dr _ h)
def VR(n:Nat)(M:List (List UInt8×Int)):Prop:=∀p∈M,0≤p.2∧p.2<(n:Int)
theorem VR.get{n:Nat}{M:List (List UInt8×Int)}(h:VR n M){k:List UInt8}(hk:cJ .str k M=true):0≤bz .str (.int .i64) k M∧bz .str (.int .i64) k M<(n:Int):=by
 obtain⟨i,hi⟩:=pq (kt:=.str) (vt:=.int .i64) rfl hk
 exact h _ (fP hi)
theorem kv(t:Ty)(nm:t.den→Option (List UInt8))(g:t.den→List UInt8)(hn:∀x,nm x=some (g x))(l:List t.den)(hl:l.length≤aE):
 ∃M b,VR l.length M∧aG (U:=Bool×List (List UInt8×Int)) ((aK fun rec(u:Bool×List t.den×Int×Int×List (List UInt8×Int))=>match u with|⟨e,c,b,a,d⟩=>if(decide (a<b))=true then(if 0≤a then(if a<(List.length c:Int) then(Option.bind (nm (nth t c a)) fun y4=>if(cJ .str y4 d)=true then(rec (true,c,b,aZ (a+(1:Int)),d)) else(Option.bind (nm (nth t c a)) fun y5=>if List.length d+1≤aE then(rec (e,c,b,aZ (a+(1:Int)),bE .str y5 a d)) else none)) else none) else none) else(some (.brk (e,d))):Nat→_→Option (cW (Bool×List (List UInt8×Int)) (Option (List (List UInt8×Int))×Bool))) (Int.toNat (List.length l:Int)+1) (false,l,(List.length l:Int),(0:Int),([]:List (List UInt8×Int)))) (fun u=>match u with|⟨b,a⟩=>some (some a,b))=some (some M,b):=by
 have hB:aE=140737488355328:=rfl
 suffices key:∀(n i:Nat)(e:Bool)(d:List (List UInt8×Int)),l.length -i<n→i≤l.length→d.length≤i→VR l.length d→∃M b,VR l.length M∧aG (U:=Bool×List (List UInt8×Int)) ((aK fun rec(u:Bool×List t.den×Int×Int×List (List UInt8×Int))=>match u with|⟨e,c,b,a,d⟩=>if(decide (a<b))=true then(if 0≤a then(if a<(List.length c:Int) then(Option.bind (nm (nth t c a)) fun y4=>if(cJ .str y4 d)=true then(rec (true,c,b,aZ (a+(1:Int)),d)) else(Option.bind (nm (nth t c a)) fun y5=>if List.length d+1≤aE then(rec (e,c,b,aZ (a+(1:Int)),bE .str y5 a d)) else none)) else none) else none) else(some (.brk (e,d))):Nat→_→Option (cW (Bool×List (List UInt8×Int)) (Option (List (List UInt8×Int))×Bool))) n (e,l,(List.length l:Int),(i:Int),d)) (fun u=>match u with|⟨b,a⟩=>some (some a,b))=some (some M,b) from
  key _ 0 false [] (by omega) (by omega) (by simp) fun p hp=>by cases hp
 intro n
 induction n with
 |zero=>intro i e d h;omega
 |
  succ n ih=>
  intro i e d hn' hi hd hv
  rw[aM]
  generalize aK _ n=rec at ih ⊢
  dsimp only
  by_cases h:i<l.length
  ·rw[aA (cC (by omega)),aA (dD i),aA (show(i:Int)<(l.length:Int) by omega),hn,aH,bw (by omega)]
   split
   ·exact ih (i+1) true d (by omega) (by omega) (by omega) hv
   ·rw[aH,aA (by omega)]
    refine ih (i+1) e _ (by omega) (by omega) (da (dA (kt:=.str)) (by omega)) fun p hp=>?_
    rcases fX (kt:=.str) hp with rfl|hp
    ·exact⟨dD i,by show(i:Int)<_;omega⟩
    ·exact hv p hp
  ·rw[aC (by simp only[ik];omega)]
   exact⟨d,e,hv,rfl⟩
end Go.Ax
namespace Go.Ax
theorem cG{S U R:Type}{L:Nat→U→Option R}{F:(U→Option R)→U→Option R}(e:L=aK F)(P:R→Prop)(len:Nat)(st:Nat→S→U)(I:Nat→S→Prop)
 (step:∀rec i s,i<len→I i s→(∀s',I (i+1) s'→W (rec (st (i+1) s')) P)→W (F rec (st i s)) P)
 (stop:∀rec s,I len s→W (F rec (st len s)) P):∀n i s,len -i<n→i≤len→I i s→W (L n (st i s)) P:=by
 subst e
 intro n
 induction n with
 |zero=>intro i s h;omega
 |
  succ n ih=>
  intro i s hn hi hI
  rw[aM]
  by_cases h:i<len
  ·exact step _ i s h hI fun s' h'=>ih (i+1) s' (by omega) (by omega) h'
  ·have:i=len:=by omega
   subst this
   exact stop _ s hI
theorem W.Xj{R:Type}{x:Option R}{P:R→Prop}(h:∃r,x=some r)(hp:∀r,P r):W x P:=h.imp fun r h=>⟨h,hp r⟩
theorem W.bt{A R:Type}{x:Option A}{f:A→Option R}{P:R→Prop}(h:∃r,x=some r)(hp:∀r,W (f r) P):W (Option.bind x f) P:=vX.2 (W.Xj h hp)
theorem gL{α:Type}(l:List α)(c:Nat)(h:l.length*c≤aE):(if(List.length ([]:List α)+List.length l)*c≤aE then some l else none)=some l:=by
 rw[jA,cZ,aA h]
end Go.Ax
namespace Go.Ax
theorem z8{S U1 U2 R1 R2:Type}{L1:Nat→U1→Option R1}{F1:(U1→Option R1)→U1→Option R1}(e1:L1=aK F1){L2:Nat→U2→Option R2}{F2:(U2→Option R2)→U2→Option R2}(e2:L2=aK F2)
 (Q:S→R1→Option R2→Prop) (len:Nat) (st1:Nat→S→U1) (st2:Nat→S→U2) (I:Nat→S→Prop)
 (step:∀rec1 rec2 i s,i<len→I i s→(∀s',I (i+1) s'→W (rec1 (st1 (i+1) s')) fun r=>Q s' r (rec2 (st2 (i+1) s')))→W (F1 rec1 (st1 i s)) fun r=>Q s r (F2 rec2 (st2 i s)))
 (stop:∀rec1 rec2 s,I len s→W (F1 rec1 (st1 len s)) fun r=>Q s r (F2 rec2 (st2 len s))):∀n i s,len -i<n→i≤len→I i s→W (L1 n (st1 i s)) fun r=>Q s r (L2 n (st2 i s)):=by
 subst e1
 subst e2
 intro n
 induction n with
 |zero=>intro i s h;omega
 |
  succ n ih=>
  intro i s hn hi hI
  rw[aM,aM]
  by_cases h:i<len
  ·exact step _ _ i s h hI fun s' h'=>ih (i+1) s' (by omega) (by omega) h'
  ·have:i=len:=by omega
   subst this
   exact stop _ _ s hI
end Go.Ax
namespace Go.Ax
open Go.Proofs Go.Sort Go.Shelf
def MK(c:Int→Int→Option Int)(x y:Int):Bool:=decide ((c x y).getD 0<0)
structure Xk(c:Int→Int→Option Int)(xs:List Int):Prop where
 ne:xs≠[]
 irr:∀x∈xs,MK c x x=false
 has:∀x∈xs,∀y∈xs,∃r,c x y=some r
 Xj:∀x∈xs,∀y∈xs,x=y∨MK c x y= !MK c y x
 tr:∀x∈xs,∀y∈xs,∀z∈xs,MK c x y=true→MK c y z=true→MK c x z=true
section
variable{c:Int→Int→Option Int} {xs:List Int}
end
theorem qz{w:World}{S:Nat→Prop}{k:IntKind}:∀{xs:List Int},(∀x∈xs,k.min≤x∧x≤k.max)→aT (Rel w S (.int k)) (xs.map (Value.int k)) xs
 |[],_=>rfl
 |x::xs,h=>⟨[.int k x],xs.map (Value.int k),rfl,⟨rfl,h x (cK ..)⟩,qz fun y hy=>h y (dr _ hy)⟩
end Go.Ax
namespace Go.Ax
open Go.Proofs Go.Sort Go.Shelf Go.Maps
def jy{β:Type}(es:List (Int×β)):List Int:=(es.map (·.1)).mergeSort fun x y=>decide (x≤y)
def yw{β:Type}(es:List (Int×β)):Option (List Int):=if es.length*8≤aE then some (jy es) else none
theorem BV{E:Env}{w:World}{v:Ty}:∀{en:List MapEntry}{es:List (Int×v.den)},RM E w (.int .i64) v en es→en.map (·.key)=es.map (fun x=>Value.int .i64 x.1)∧(∀x∈es,IntKind.i64.min≤x.1∧x.1≤IntKind.i64.max)
 |[],[],_=>⟨rfl,fun x hx=>by cases hx⟩
 |[],_::_,h=>h.elim
 |_::_,[],h=>h.elim
 |
  e::en,x::es,⟨h1,_,h3⟩=>by
  obtain⟨k1,k2⟩:=BV h3
  have hk:e.key= .int .i64 x.1∧IntKind.i64.min≤x.1∧x.1≤IntKind.i64.max:=by
   rcases h1 with⟨hx,_⟩|⟨_,hx,hb⟩
   ·cases hx
   ·exact⟨by simpa using hx,hb⟩
  refine⟨by rw[dp,dp,k1,hk.1],fun y hy=>?_⟩
  rcases List.mem_cons.1 hy with rfl|hy
  ·exact hk.2
  ·exact k2 y hy
theorem Ew{m b:Nat}{k k' k'':aN}(h:(aO (List.replicate m none) [(0,some k),(1,some k')])[b]? =some (some k'')):(b=0∧k''=k)∨(b=1∧k''=k'):=by
 rcases dS h with h|⟨_,h⟩
 ·simpa using h
 ·rw[jX] at h
  split at h<;>cases h
theorem kW{m b X:Nat}{k k' k2 k'':aN}(h:(aO (List.replicate m none) [(0,some k),(1,some k'),(X,some k2)])[b]? =some (some k'')):(b=0∧k''=k)∨(b=1∧k''=k')∨(b=X∧k''=k2):=by
 rcases dS h with h|⟨_,h⟩
 ·simpa using h
 ·rw[jX] at h
  split at h<;>cases h
def yx(_:Value):Option (DataW Unit×List MemPlace):=some (.nil,[])
theorem GR{P:Program}{ρa ρb:Ren}(L10:SlLaysZI.n10 P ρa)(L6:SlLaysZI.n6 P ρb)(hsorts:AnyZI.SortsIn P ρb Fence.wide 4){gl:Ctx}(hmd:¬gl.md)
 (hent:∀vs w,(callFunc (ρb.f 6) vs).run P w= .ok (.enter (ρb.f 6) vs) w) (e9:∀vs w,(callFunc (ρb.f 9) vs).run P w= .ok (.enter (ρb.f 9) vs) w) (eg:∀vs w,(callFunc (ρa.f 10) vs).run P w= .ok (.enter (ρa.f 10) vs) w)
 {tv vt:Ty} {es:List (Int×vt.den)} {ys:List Int} (hs:yw es=some ys) (m X:Nat) (hm:1<m) (hX:X<m) (hX2:16≤X):
 Fc P gl (ρb.f 6) [.func (.func (ρa.f 10)) .nil (.cons (.ptr 0 []) .nil)] (aO (List.replicate m none) [(0,some (.var tv (.mp 1))),(1,some (.map (.int .i64) vt es))]) (.ret (.own X)) (dk m [(0,.var tv (.mp 1)),(1,.map (.int .i64) vt es),(X,.row (ρb.t 26) 8 (.int .i64) ys)]):=by
 refine⟨hent,?_⟩
 unfold yw at hs
 split at hs
 ·rename_i hlen
  cases hs
  refine rj.mu (fun b k hb=>by rcases Ew hb with⟨_,rfl⟩|⟨_,rfl⟩<;>rfl) ?_
  intro E w vs hP hvs hw
  match vs,hvs with
  |
   [v0],⟨h0,_⟩=>
   have at0:(aO (List.replicate m none) [(0,some (aN.var tv (.mp 1))),(1,some (.map (.int .i64) vt es))])[0]? =some (some (.var tv (.mp 1))):=by
    simp[aO,show 0<m by omega]
   have at1:(aO (List.replicate m none) [(0,some (aN.var tv (.mp 1))),(1,some (.map (.int .i64) vt es))])[1]? =some (some (.map (.int .i64) vt es)):=by
    simp[aO,hm]
   obtain⟨n1,_,gm,en,clock,m1,m2,m3,m4,m5⟩:=hw.cH 1 _ at1
   obtain⟨b1,_,gb,cells,eb,b2,b3,b4⟩:=hw.cH 0 _ at0
   have h0:cF E w (.func (.func (ρa.f 10)) .nil (.cons (.ptr 0 []) .nil)) v0:=h0
   rcases h0 with⟨hx,_⟩|⟨_,f,cb,q1,q2,q3,_,_⟩
   ·cases hx
   have q2:f.toList= []:=q2
   have hf:f= #[]:=by
    cases f with
    |mk l=>simp at q2;subst q2;rfl
   subst hf
   obtain⟨v1,v2,q4,⟨gp,q5,q6,_⟩,q7⟩:=q3
   rw[b2] at q5;cases q5
   have q7:v2= []:=q7
   have hoff:(E.bt 0).off []=0:=Ty.je _
   have hcb:cb= #[.pointer (some ⟨gb,0,none⟩)]:=by
    cases cb with
    |
     mk l=>
     have:l=v1++v2:=q4
     rw[this,q6,q7,hoff];rfl
   have hv0:v0= .func (.func (ρa.f 10)) #[] #[.pointer (some ⟨gb,0,none⟩)]:=by
    rw[←hcb];simpa using q1
   obtain⟨gq,b5,b6⟩:=b4
   rw[m1] at b5;cases b5
   have hgb:gb<w.heap.size:=(Array.getElem?_eq_some_iff.1 b3).1
   have hcell:w.cell? ⟨gb,0,none⟩=some (.map (some gm)):=by
    unfold World.cell?
    rw[b3]
    have:cells= #[.map (some gm)]:=by
     cases cells with
     |mk l=>have:l= [.map (some gm)]:=b6;rw[this]
    simp[this]
   obtain⟨k1,k2⟩:=BV m3
   have hesz:en.size=es.length:=by
    have:=cV List.length k1
    simpa using this
   have hmx:aE=140737488355328:=rfl
   have hml:maxLen=9223372036854775807:=rfl
   have u26:P.underlying (ρa.t 26)=some (.int .i64):=L10.t26
   have hkey:∀x∈en.toList,∃z:Int,keyOf P (ρa.t 26) x.key=some (.int .i64 z)∧x.key= .int .i64 z:=by
    intro x hx
    have:x.key∈en.toList.map (·.key):=List.mem_map.2 ⟨x,hx,rfl⟩
    rw[k1] at this
    obtain⟨y,hy,e⟩:=List.mem_map.1 this
    refine⟨y.1,?_,e.symm⟩
    rw[←e]
    have hw:(Lit.int .i64 y.1).wf=true:=by
     have:=k2 y hy
     simp only[Lit.wf]
     rw[cC this.1,cC this.2];rfl
    simp[keyOf,u26,mapKey,hw]
   have hrd:∀x∈en.toList,∀z:Int,x.key= .int .i64 z→Go.WideElems.rd P (ρa.t 26) yx x=some (.int .i64 z,.nil):=by
    intro x hx z hz
    obtain⟨z',h1,h2⟩:=hkey x hx
    rw[hz] at h2;cases h2
    simp[Go.WideElems.rd,h1,yx]
   have hown:w.ownsMap P (ρa.t 26) yx gm en.size (.map ((en.toList.map (Go.WideElems.rg P (ρa.t 26) yx)).foldr DataW.insert [])):=by
    refine⟨en,clock,m2,⟨by rw[hesz];omega,⟨m4,m5,?_⟩,fun x hx=>?_⟩,cq _,rfl⟩
    ·rw[k1]
     exact List.pairwise_map.2 ((List.pairwise_map.1 n1).imp fun h e=>h (by simpa using e))
    ·obtain⟨z,_,hz⟩:=hkey x hx
     exact⟨_,hrd x hx z hz⟩
   have hD:∀ss:List Int,ss.Perm (intKeys (.map ((en.toList.map (Go.WideElems.rg P (ρa.t 26) yx)).foldr DataW.insert [])))→ss.Perm (es.map (·.1)):=by
    intro ss hss
    refine hss.trans ?_
    have p1:=(WideShapes.sorted_perm (en.toList.map (Go.WideElems.rg P (ρa.t 26) yx))).map (fun p=>intOf p.1)
    refine List.Perm.trans p1 (List.Perm.of_eq ?_)
    rw[jC]
    have:en.toList.map ((fun p:Lit×DataW Unit=>intOf p.1)∘Go.WideElems.rg P (ρa.t 26) yx)=(en.toList.map (·.key)).map fun v=>match v with| .int _ z=>z|_=>0:=by
     rw[jC]
     apply List.map_congr_left
     intro x hx
     obtain⟨z,_,hz⟩:=hkey x hx
     simp only[Function.comp,Go.WideElems.rg_of (hrd x hx z hz),hz]
     rfl
    rw[this,k1,jC]
    rfl
   have hDs:Maps.size (DataW.map ((en.toList.map (Go.WideElems.rg P (ρa.t 26) yx)).foldr DataW.insert []))=es.length:=by
    show List.length _=_
    rw[length_read,hesz]
   have hseq:=AnyZI.keys_gives L10 (H:=Unit) Fence.wide 2 trivial rfl (by omega) gb gm en.size _ w hgb hcell hown
   rw[hDs] at hseq
   have main:=AnyZI.sorted_in L6 Fence.wide 5 trivial trivial trivial trivial rfl (by omega) hsorts e9 (ρa.f 10) #[.pointer (some ⟨gb,0,none⟩)] trivial eg _ es.length (by omega) (by omega) w hseq
   have hargs:[v0].toArray= #[.func (.func (ρa.f 10)) #[] #[.pointer (some ⟨gb,0,none⟩)]]:=by rw[hv0]
   rw[hargs]
   refine(callsIn_wide.1 main).mono ?_
   rintro e1 w1 ⟨v,ss,rfl,hS,hrow,_,hb⟩
   have hperm:=hD ss hS
   have hsort:(ss.mergeSort fun x y=>decide (x≤y))=jy es:=mergeSort_of_perm_i hperm
   rw[hsort] at hrow
   have hsl:ss.length=es.length:=by rw[hperm.length_eq,iK]
   have hyl:(jy es).length=es.length:=by unfold jy;rw[List.length_mergeSort,iK]
   have hsame:∀g,g<w.heap.size→w1.heap[g]? =w.heap[g]? :=fun g hg=>hb.block g hg
   have hb2:∀z∈jy es,IntKind.i64.min≤z∧z≤IntKind.i64.max:=by
    intro z hz
    have:z∈es.map (·.1):=(List.mergeSort_perm _ _).mem_iff.1 hz
    obtain⟨y,hy,rfl⟩:=List.mem_map.1 this
    exact k2 y hy
   rw[hsl,←hyl] at hrow
   obtain⟨og,hEv,hog,hRB⟩:∃og:Option Nat,(∃a n c,v= .slice a n c)∧(∀g,og=some g→w.heap.size≤g)∧∀E':Env,E'.g X=og→E'.sv X=v→E'.bt X= .arr (jy es).length (.int .i64)→RB E' w1 X (.row (ρb.t 26) 8 (.int .i64) (jy es)):=by
    rcases hrow.2 with⟨hv,hz⟩|⟨g,cap,cur,hv,r0,r1,r2,r3,r4,r5⟩
    ·have hn:jy es= []:=nk hz
     refine⟨none,⟨_,_,_,hv⟩,(fun g hg=>by cases hg),fun E' h1 h2 h3=>?_⟩
     rw[hn] at h3 ⊢
     exact⟨h3,by simp,by simp,Nat.one_pos,none,0,by rw[h2,hv];rfl,gG _,Or.inl ⟨⟨rfl,rfl⟩,h1,rfl⟩⟩
    ·refine⟨some g,⟨_,_,_,hv⟩,(fun g' hg=>by cases hg;exact r0),fun E' h1 h2 h3=>?_⟩
     refine⟨h3,by rw[hyl];exact hlen,by rw[hyl];omega,Nat.one_pos,some ⟨g,0,none⟩,cap,by rw[h2,hv],r3,Or.inr ⟨g,cur,h1,rfl,r1,r4,r2,?_⟩⟩
     have hsz:Ty.size (.int .i64)=1:=rfl
     rw[hsz,r5]
     exact qz hb2
   have hX0:X≠0:=by omega
   have hX1:X≠1:=by omega
   let E':Env:={E with g:=fun b=>if b=X then og else E.g b,sv:=fun b=>if b=X then v else E.sv b,bt:=fun b=>if b=X then .arr (jy es).length (.int .i64) else E.bt b}
   have outE:dk m [(0,.var tv (.mp 1)),(1,.map (.int .i64) vt es),(X,.row (ρb.t 26) 8 (.int .i64) (jy es))]=aO (List.replicate m none) [(0,some (.var tv (.mp 1))),(1,some (.map (.int .i64) vt es)),(X,some (.row (ρb.t 26) 8 (.int .i64) (jy es)))]:=rfl
   have kp:bM E w E' w1:=⟨fun b hb'=>hsame b (hw.slt b hb'),fun _ h=>h⟩
   have eX:E'.g X=og∧E'.sv X=v∧E'.bt X= .arr (jy es).length (.int .i64):=⟨aA rfl,aA rfl,aA rfl⟩
   have eN:∀b,b≠X→E'.g b=E.g b∧E'.sv b=E.sv b∧E'.bt b=E.bt b:=fun b h=>⟨aC h,aC h,aC h⟩
   have gm_lt:gm<w.heap.size:=(Array.getElem?_eq_some_iff.1 m2).1
   have g_old:∀b g,b=0∨b=1→E'.g b=some g→g<w.heap.size∧E.g b=some g:=by
    intro b g hb' hg
    rcases hb' with rfl|rfl
    ·rw[(eN 0 hX0.symm).1] at hg
     refine⟨?_,hg⟩
     rw[b2] at hg;cases hg;exact hgb
    ·rw[(eN 1 hX1.symm).1] at hg
     refine⟨?_,hg⟩
     rw[m1] at hg;cases hg;exact gm_lt
   refine⟨E',?_,?_,?_⟩
   ·show cF _ _ _ _
    obtain⟨a,n,c,hv⟩:=hEv
    exact Or.inr ⟨rfl,by show[v]= [E'.sv X];rw[eX.2.1],a,n,c,by rw[eX.2.1,hv]⟩
   ·rw[outE]
    refine⟨fun b k hb'=>?_,fun b b' k k' g hb1 hb2 hg1 hg2=>(have hg1:=hg1.resolve_right (hP _ _);have hg2:=hg2.resolve_right (hP _ _);?_),fun b k g hb' hg hS'=>(have hg:=hg.resolve_right (hP _ _);?_),fun g hg=>sR (hw.slt g hg) hb.size,hw.fT kp,fun b _ g _ h=>absurd h (hP b g)⟩
    ·rcases kW hb' with⟨rfl,rfl⟩|⟨rfl,rfl⟩|⟨rfl,rfl⟩
     ·refine RB.mono kp (fun c hc=>?_) (fun g hg=>hsame g (have hg:=hg.resolve_right (hP _ _);?_)) (fun hp=>by cases hp) (hw.cH 0 _ at0)
      ·have:c=0∨c=1:=by simpa[aN.ids,AV.ids] using hc
       rcases this with rfl|rfl
       ·exact eN 0 hX0.symm
       ·exact eN 1 hX1.symm
      ·rw[b2] at hg;cases hg;exact hgb
     ·refine RB.mono kp (fun c hc=>?_) (fun g hg=>hsame g (have hg:=hg.resolve_right (hP _ _);?_)) (fun hp=>by cases hp) (hw.cH 1 _ at1)
      ·have:c=1:=by simpa[aN.ids] using hc
       subst this
       exact eN 1 hX1.symm
      ·rw[m1] at hg;cases hg;exact gm_lt
     ·exact hRB E' eX.1 eX.2.1 eX.2.2
    ·have old:∀b k,(aO (List.replicate m none) [(0,some (aN.var tv (.mp 1))),(1,some (.map (.int .i64) vt es)),(X,some (.row (ρb.t 26) 8 (.int .i64) (jy es)))])[b]? =some (some k)→b≠X→b=0∨b=1:=by
      intro b k h hne
      rcases kW h with⟨h,_⟩|⟨h,_⟩|⟨h,_⟩
      ·exact Or.inl h
      ·exact Or.inr h
      ·exact absurd h hne
     by_cases e1:b=X
     ·by_cases e2:b'=X
      ·rw[e1,e2]
      ·have o2:=g_old b' g (old b' k' hb2 e2) hg2
       rw[e1,eX.1] at hg1
       have:=hog g hg1
       omega
     ·by_cases e2:b'=X
      ·have o1:=g_old b g (old b k hb1 e1) hg1
       rw[e2,eX.1] at hg2
       have:=hog g hg2
       omega
      ·have o1:=(g_old b g (old b k hb1 e1) hg1).2
       have o2:=(g_old b' g (old b' k' hb2 e2) hg2).2
       rcases old b k hb1 e1 with rfl|rfl<;>rcases old b' k' hb2 e2 with rfl|rfl
       ·rfl
       ·exact hw.sep 0 1 _ _ g at0 at1 o1 o2
       ·exact hw.sep 1 0 _ _ g at1 at0 o1 o2
       ·rfl
    ·rcases kW hb' with⟨rfl,_⟩|⟨rfl,_⟩|⟨rfl,_⟩
     ·exact hw.jT 0 _ g at0 (g_old 0 g (Or.inl rfl) hg).2 hS'
     ·exact hw.jT 1 _ g at1 (g_old 1 g (Or.inr rfl) hg).2 hS'
     ·rw[eX.1] at hg
      have:=hog g hg
      have:=hw.slt g hS'
      omega
   ·rw[outE]
    refine⟨hb.os,⟨hb.tape,fun m=>absurd m hmd⟩,hb.output,hb.size,fun g hg _=>hsame g hg,fun _ h=>h,fun g hg=>Or.inl hg,fun g hg=>?_,fun b hb16=>eN b (by omega)⟩
    obtain⟨b,k,hbk,hg⟩:=hg
    have hg:=hg.resolve_right (hP _ _)
    rcases kW hbk with⟨rfl,_⟩|⟨rfl,_⟩|⟨rfl,_⟩
    ·exact Or.inl ⟨0,_,at0,Or.inl (g_old 0 g (Or.inl rfl) hg).2⟩
    ·exact Or.inl ⟨1,_,at1,Or.inl (g_old 1 g (Or.inr rfl) hg).2⟩
    ·rw[eX.1] at hg;exact Or.inr (hog g hg)
 ·cases hs
end Go.Ax
namespace Go.Ax
def qA(W:World):Env:=⟨fun _=>none,fun _=>undef,fun _=>.unit,fun g=>g<W.heap.size,fun _ _=>False⟩
theorem aT.collect{α:Type}{r:List Value→α→Prop}{k:Nat}:∀(n:Nat)(cs:List Value),cs.length=n*k→(∀i,i<n→∃y,r ((cs.drop (i*k)).take k) y)→∃ys,ys.length=n∧aT r cs ys
 |0,cs,hl,_=>⟨[],rfl,nk (by simpa using hl)⟩
 |
  n+1,cs,hl,h=>by
  obtain⟨y,hy⟩:=h 0 (by omega)
  rw[Nat.zero_mul,eS] at hy
  obtain⟨ys,h1,h2⟩:=aT.collect (k:=k) n (cs.drop k) (by rw[jY,hl,cM,Nat.one_mul];omega) (fun i hi=>by
   obtain⟨z,hz⟩:=h (i+1) (by omega)
   refine⟨z,?_⟩
   rw[gP]
   rw[show k+i*k=(i+1)*k from by rw[cM];omega]
   exact hz)
  exact⟨y::ys,by simp[h1],cs.take k,cs.drop k,(iI k cs).symm,hy,h2⟩
theorem cells?_get{w:World}{base:Nat}{a:Addr}{n:Nat}{cs:List Value}(h:w.cells? base a n=some cs):cs.length=n∧∀j v,cs[j]? =some v→w.cell? (a.add j)=some v:=by
 unfold World.cells? at h
 split at h
 ·have hl:=mapM_some_length h
  refine⟨by simpa using hl,fun j v hj=>?_⟩
  have hlt:j<n:=by
   have:=(List.getElem?_eq_some_iff.1 hj).1
   rw[hl] at this;simpa using this
  have:=mapM_some_get h j j (by simp[hlt])
  rw[this,hj]
 ·cases h
theorem Addr.add_add(a:Addr)(i j:Nat):(a.add i).add j=a.add (i+j):=by
 unfold Addr.add
 by_cases hi:i=0
 ·subst hi;simp
 ·by_cases hj:j=0
  ·subst hj;simp
  ·have:i+j≠0:=by omega
   simp[hi,hj,Nat.add_assoc]
theorem aT.Ex{α:Type}{w:World}{r:List Value→α→Prop}{a:Addr}{k:Nat}:∀(n s:Nat),(∀i,i<n→∃c y,w.cells? 0 (a.add ((s+i)*k)) k=some c∧r c y)→∃cs ys,ys.length=n∧aT r cs ys∧∀j v,cs[j]? =some v→w.cell? (a.add (s*k+j))=some v
 |0,s,_=>⟨[],[],rfl,rfl,fun j v hj=>by simp at hj⟩
 |
  n+1,s,h=>by
  obtain⟨c,y,h1,h2⟩:=h 0 (by omega)
  rw[Nat.add_zero] at h1
  obtain⟨hl,hc⟩:=cells?_get h1
  obtain⟨cs,ys,g1,g2,g3⟩:=aT.Ex n (s+1) (fun i hi=>by
   obtain⟨c',y',q1,q2⟩:=h (i+1) (by omega)
   exact⟨c',y',by rw[show s+1+i=s+(i+1) from by omega];exact q1,q2⟩)
  refine⟨c++cs,y::ys,by simp[g1],⟨c,cs,rfl,h2,g2⟩,?_⟩
  intro j v hj
  rw[List.getElem?_append] at hj
  split at hj
  ·have:=hc j v hj
   rwa [Addr.add_add] at this
  ·rename_i hge
   have:=g3 _ v hj
   rw[hl] at this hge
   rw[show(s+1)*k+(j -k)=s*k+j from by rw[cM,Nat.one_mul];omega] at this
   exact this
section
variable{H:Type} {enc:TypeId×Value→H} {P:Program} {G:bT} (T:bB P G) {W:World} {spare:Nat→Bool} {held:Bool}
include T
theorem bB.cellsOf{t:TypeId}{td:TD}(h:G.at t=some td):P.cellsOf t=td.ty.size:=by
 obtain⟨i,_,h1,_,h2,_⟩:=T.info h
 simp[Program.cellsOf,h1,h2]
theorem bB.Ey{t:TypeId}{td:TD}(ht:G.at t=some td)(hs:td.ty= .bool):P.underlying t=some .bool:=by
 obtain⟨ii,dd,_,h1,_,h2,_⟩:=T.info ht
 have abJ:=dm h2
 rw[h1]
 cases hd:dd with
 |bool=>rfl
 |struct fs=>subst hd;rw[hs] at abJ;simp[dt,Ty.isAgg] at abJ
 |array n e=>subst hd;rw[hs] at abJ;simp[dt,Ty.isAgg] at abJ
 |slice e=>subst hd;simp[cj,Ty.same,hs] at h2
 |map k e=>subst hd;simp[cj,Ty.same,hs] at h2
 |_=>subst hd;simp[cj,Ty.same,hs] at h2
def Ty.cL:Ty→Bool
 | .arr _ t=>t.cL
 | .slice _ t=>t.cL
 | .pair a b=>a.cL&&b.cL
 | .aR _| .fns _| .map _ _=>false
 |_=>true
theorem yy:∀(fuel:Nat)(t:TypeId)(td:TD)(cs:List Value)(d:DataW H)(ps:List MemPlace),G.at t=some td→td.ty.cL=true→DataW.trod enc P W 0 spare held fuel t cs=some (d,ps)→(∀n∈d.weights P t,n≤aE)→
 ∃x:td.ty.den,Rel W (fun g=>g<W.heap.size) td.ty cs x
 |0,t,td,cs,d,ps,_,_,h,_=>by simp[DataW.trod] at h
 |
  fuel+1,t,td,cs,d,ps,ht,hp,h,hw=>by
  have ih:=fun t td cs d ps=>yy fuel t td cs d ps
  obtain⟨ty,te,te2⟩:=td
  simp only at hp
  cases ty with
  |
   int k=>
   obtain⟨n,e1,e2,e3⟩:=DataW.trod_int (T.intOf ht rfl) h
   simp only[Lit.wf,aV,ik] at e3
   exact⟨n,e1,e3⟩
  |
   bool=>
   obtain⟨b,e1,e2⟩:=DataW.trod_bool (T.Ey ht rfl) h
   exact⟨b,e1⟩
  |
   str=>
   have hu:=T.strOf ht rfl
   unfold DataW.trod at h
   rw[hu] at h
   split at h<;>simp_all
   obtain⟨_,e1,e2⟩:=h
   subst e1
   rename_i s _
   have hlen:s.data.toList.length≤aE:=hw s.data.toList.length (by simp[DataW.weights])
   exact⟨s.data.toList,by simp,hlen⟩
  |
   arr n u=>
   obtain⟨tde,h1,h2,h3⟩:=T.oQ ht rfl
   simp only at h1 h2 h3
   subst h3
   obtain⟨xs,m,e1,e2,e3,e4,e5⟩:=DataW.trod_array h1 h
   cases e1;cases e2
   have hcz:=T.cellsOf h2
   have hall:∀i,i<n→∃y,Rel W (fun g=>g<W.heap.size) tde.ty ((cs.drop (i*tde.ty.size)).take tde.ty.size) y:=by
    intro i hi
    have hx:=e5 i hi
    have hlt:i<xs.length:=by omega
    rw[il hlt,hcz] at hx
    refine ih te tde _ xs[i].1 xs[i].2 h2 hp hx (fun q hq=>hw q ?_)
    have key:∀(l:List (DataW H))(i:Nat)(d:DataW H),l[i]? =some d→∀q∈d.weights P te,q∈DataW.weightsAll P te l:=by
     intro l
     induction l with
     |nil=>intro i d h;simp at h
     |
      cons a l ihl=>
      intro i d h q hq
      simp only[DataW.weightsAll,gA]
      cases i with
      |zero=>simp at h;subst h;exact Or.inl hq
      |succ i=>exact Or.inr (ihl i d (by simpa using h) q hq)
    simp only[DataW.weights,h1]
    exact key _ i _ (by simp[hlt]) q hq
   have hl:cs.length=n*tde.ty.size:=by
    rw[e3];exact T.cellsOf ht
   obtain⟨ys,y1,y2⟩:=aT.collect n cs hl hall
   exact⟨ys,y1,y2⟩
  |
   slice bs u=>
   obtain⟨te',ie,h1,h2,h3,h4,h5,h6,h7⟩:=T.cP ht rfl
   simp only at h1 h2 h4
   subst h3
   have hcz:=T.cellsOf h2
   rcases DataW.trod_slice h1 h with⟨e1,e2⟩|⟨a,len,cap,elems,rest,m,e1,e2,e3,e4,e5,e6,e7,e8,_⟩
   ·exact⟨[],none,0,e1,cq _,by simp,by simp,Or.inl rfl⟩
   ·cases e1;cases e3
    have hb:P.bytesOf te=bs:=by simp[Program.bytesOf,h4,h5]
    have hw0:(elems.length+rest.length)*bs≤aE:=by
     refine hw _ ?_
     simp only[DataW.weights,h1,hb]
     simp
    have hlb:len*bs≤aE:=da (fv _ (by omega)) hw0
    have hlm:len≤aE:=da (Nat.le_mul_of_pos_right _ h7) hlb
    have hall:∀i,i<len→∃c y,W.cells? 0 (a.add ((0+i)*te'.ty.size)) te'.ty.size=some c∧Rel W (fun g=>g<W.heap.size) te'.ty c y:=by
     intro i hi
     have hx:=e8 i hi
     have hlt:i<elems.length:=by omega
     rw[il hlt,hcz] at hx
     simp only[qC] at hx
     obtain⟨c,c1,c2⟩:=hx
     obtain⟨y,hy⟩:=ih te te' c elems[i].1 elems[i].2 h2 hp c2 (fun q hq=>hw q (by
      have key:∀(l:List (DataW H))(i:Nat)(d:DataW H),l[i]? =some d→∀q∈d.weights P te,q∈DataW.weightsAll P te l:=by
       intro l
       induction l with
       |nil=>intro i d h;simp at h
       |
        cons a l ihl=>
        intro i d h q hq
        simp only[DataW.weightsAll,gA]
        cases i with
        |zero=>simp at h;subst h;exact Or.inl hq
        |succ i=>exact Or.inr (ihl i d (by simpa using h) q hq)
      simp only[DataW.weights,h1,eA,gA]
      exact Or.inr (Or.inl (key _ i _ (by simp[hlt]) q hq))))
     exact⟨c,y,by rw[cZ];exact c1,hy⟩
    obtain⟨cs',ys,g1,g2,g3⟩:=aT.Ex (w:=W) (a:=a) len 0 hall
    subst g1
    rw[e2]
    refine⟨ys,some a,cap,rfl,e5,hlb,hlm,?_⟩
    cases hys:ys with
    |nil=>exact Or.inl rfl
    |
     cons y0 ys0=>
     right
     have hcl:=aT.len (n:=te'.ty.size) (fun _ _ h=>Rel.len h) g2
     have hpos:0<cs'.length:=by rw[hcl,hys];simp;exact h6
     have hc0:=g3 0 cs'[0] (by simp[hpos])
     simp only[Nat.zero_mul,Nat.add_zero,Addr.add,bC] at hc0
     have hspot:a.spot=none∧a.block<W.heap.size:=by
      unfold World.cell? at hc0
      split at hc0
      ·rename_i c _ _ hh
       split at hc0
       ·cases hc0
       ·rename_i hs
        exact⟨by simpa using hs,(Array.getElem?_eq_some_iff.1 hh).1⟩
      ·cases hc0
     obtain⟨b,o,sp⟩:=a
     simp only at hspot
     obtain⟨hs,hblt⟩:=hspot
     subst hs
     refine⟨b,o,cs',rfl,hblt,?_,by rw[←hys];exact g2⟩
     intro j v hj
     have:=g3 j v hj
     rwa [Nat.zero_mul,cZ] at this
  |
   pair ta tb=>
   obtain⟨fs,h1,h2⟩:=T.structOf ht rfl
   obtain⟨xs,m,e1,e2,e3,e4,e5⟩:=DataW.trod_struct h1 h
   cases e1;cases e2
   have hl:cs.length=(Ty.pair ta tb).size:=by rw[e3];exact T.cellsOf ht
   have key:∀(l:List Field)(ty:Ty)(off:Nat)(ys:List (DataW H×List MemPlace)),bR G l off ty=true→ty.cL=true→off+ty.size≤cs.length→ys.length=l.length→
    (∀(i:Nat)(f:Field),l[i]? =some f→DataW.trod enc P W 0 spare held fuel f.type ((cs.drop f.offset).take (P.cellsOf f.type))=ys[i]?)→
    (∀n∈DataW.weightsEach P (l.map (·.type)) (ys.map (·.1)),n≤aE)→∃x:ty.den,Rel W (fun g=>g<W.heap.size) ty ((cs.drop off).take ty.size) x:=by
    intro l
    induction l with
    |
     nil=>
     intro ty off ys hf _ _ _ _ _
     cases ty<;>simp[bR] at hf
     exact⟨(),by simp[Rel,Ty.size]⟩
    |
     cons f l ihl=>
     intro ty off ys hf hpu hle hyl hrd hwe
     cases ty with
     |
      pair a b=>
      simp only[bR,aV] at hf
      obtain⟨⟨⟨g1,g2⟩,g3⟩,g4⟩:=hf
      simp only[Ty.cL,aV] at hpu
      cases ys with
      |nil=>simp at hyl
      |
       cons y ys=>
       split at g1
       ·rename_i td htd
        have:=Ty.aB g1;subst this
        have g2:=bQ g2
        have hcz:=T.cellsOf htd
        simp only[Ty.size] at hle
        have hr0:=hrd 0 f rfl
        rw[g2,hcz] at hr0
        simp only[oL] at hr0
        simp only[dp,DataW.weightsEach,gA] at hwe
        obtain⟨x1,hx1⟩:=ih f.type td _ y.1 y.2 htd hpu.1 hr0 (fun n hn=>hwe n (Or.inl hn))
        obtain⟨x2,hx2⟩:=ihl b (off+td.ty.size) ys g4 hpu.2 (by omega) (by simpa using hyl) (fun i f' hf'=>by
         have:=hrd (i+1) f' (by simpa using hf')
         simpa using this) (fun n hn=>hwe n (Or.inr hn))
        refine⟨(x1,x2),(cs.drop off).take td.ty.size,(cs.drop (off+td.ty.size)).take b.size,?_,hx1,hx2⟩
        simp only[Ty.size]
        rw[List.take_add,gP]
       ·cases g1
     |_=>simp[bR] at hf
   obtain⟨x,hx⟩:=key fs.toList (.pair ta tb) 0 xs h2 hp (by omega) (by simpa using e4) (fun i f hf=>e5 i f (by simpa using hf)) (fun n hn=>hw n (by
    simp only[DataW.weights,h1];exact hn))
   rw[eS,fb (by omega)] at hx
   exact⟨x,hx⟩
  |
   unit=>
   obtain⟨ii,dd,_,hu,hsz,hdo,_⟩:=T.info ht
   cases dd with
   |
    struct fs=>
    obtain⟨xs,m,e1,e2,e3,e4,e5⟩:=DataW.trod_struct hu h
    have hl:cs.length=0:=by rw[e3];exact T.cellsOf ht
    exact⟨(),nk hl⟩
   |slice e=>simp[cj,Ty.same] at hdo
   |array n e=>simp[cj] at hdo
   |map k e=>simp[cj,Ty.same] at hdo
   |_=>simp[cj,Ty.same] at hdo
  |aR k=>simp[Ty.cL] at hp
  |fns n=>simp[Ty.cL] at hp
  |map k v=>simp[Ty.cL] at hp
theorem rI{base:Nat}{t:TypeId}{td:TD}{v:Value}{d:DataW H}{p:List MemPlace}(ht:G.at t=some td)(hp:td.ty.cL=true)(fV:Value.okWide P W .any base t v)(h:DataW.Trod enc P W 0 spare held t v d p)(hw:∀n∈d.weights P t,n≤aE):
 ∃x:td.ty.den,RV (qA W) W (.val td.ty x) v∧wf td.ty x:=by
 obtain⟨fuel,h⟩:=h
 obtain⟨x,hx⟩:=yy T fuel t td _ d p ht hp h hw
 refine⟨x,RV.dO ?_,Rel.wf hx⟩
 obtain⟨ii,dd,_,hu,_,hdo,_⟩:=T.info ht
 have abJ:=dm hdo
 cases ha:td.ty.isAgg with
 |
  true=>
  rw[ha] at abJ
  unfold Value.okWide at fV
  rw[hu] at fV
  cases dd<;>simp[dt] at abJ<;>(obtain⟨cs,e,_⟩:=fV;subst e;exact Or.inl ⟨ha,cs,rfl,hx⟩)
 |
  false=>
  rw[ha] at abJ
  refine Or.inr ⟨ha,?_⟩
  cases v with
  |
   agg cs=>
   unfold Value.okWide at fV
   rw[hu] at fV
   cases dd<;>simp[dt] at abJ<;>simp[Cell.okWide,Cell.ok,hu] at fV
  |_=>simp[Value.cells] at hx;exact hx
end
theorem mapM_mono{α β:Type}{f g:α→Option β}:∀{l:List α}{r:List β},(∀x∈l,∀y,f x=some y→g x=some y)→l.mapM f=some r→l.mapM g=some r
 |[],r,_,h=>by simpa using h
 |
  x::l,r,hm,h=>by
  simp only[List.mapM_cons,Option.bind_eq_bind,qC,Option.pure_def,cE] at h ⊢
  obtain⟨y,h1,ys,h2,h3⟩:=h
  exact⟨y,hm x (by simp) y h1,ys,mapM_mono (fun z hz=>hm z (by simp[hz])) h2,h3⟩
theorem cells?_stay{W W':World}(hs:∀b,b<W.heap.size→W'.heap[b]? =W.heap[b]?){a:Addr}{n:Nat}{cs:List Value}(h:W.cells? 0 a n=some cs):W'.cells? 0 a n=some cs:=by
 unfold World.cells? at h ⊢
 split at h
 ·rename_i hb
  rw[aA hb]
  refine mapM_mono ?_ h
  intro i _ y hy
  unfold World.cell? at hy ⊢
  split at hy
  ·rename_i c t fr hh
   rw[hs _ (Array.getElem?_eq_some_iff.1 hh).1,hh]
   exact hy
  ·cases hy
 ·cases h
section
variable{H:Type} {enc:TypeId×Value→H} {P:Program} {G:bT} (T:bB P G) {W W':World} (hs:∀b,b<W.heap.size→W'.heap[b]? =W.heap[b]?)
include T hs
theorem uS:∀(fuel:Nat)(t:TypeId)(td:TD)(cs:List Value)(x:DataW H×List MemPlace),G.at t=some td→td.ty.cL=true→DataW.trod enc P W 0 (fun _=>true) true fuel t cs=some x→DataW.trod enc P W' 0 (fun b=>decide (b<W.heap.size)) true fuel t cs=some x
 |0,t,td,cs,x,_,_,h=>by simp[DataW.trod] at h
 |
  fuel+1,t,td,cs,x,ht,hp,h=>by
  have ih:=fun t td cs x=>uS fuel t td cs x
  obtain⟨ty,te,te2⟩:=td
  simp only at hp
  cases ty with
  |
   int k=>
   have hu:=T.intOf ht rfl
   unfold DataW.trod at h ⊢
   rw[hu] at h ⊢
   split at h<;>simp_all
  |
   bool=>
   have hu:=T.Ey ht rfl
   unfold DataW.trod at h ⊢
   rw[hu] at h ⊢
   split at h<;>simp_all
  |
   str=>
   have hu:=T.strOf ht rfl
   unfold DataW.trod at h ⊢
   rw[hu] at h ⊢
   split at h<;>simp_all
  |
   arr n u=>
   obtain⟨tde,h1,h2,h3⟩:=T.oQ ht rfl
   simp only at h1 h2 h3
   subst h3
   unfold DataW.trod at h ⊢
   rw[h1] at h ⊢
   simp only at h ⊢
   split at h
   ·rename_i hl
    rw[aA hl]
    simp only[fm] at h ⊢
    obtain⟨xs,g1,g2⟩:=h
    exact⟨xs,mapM_mono (fun i _ y hy=>ih te tde _ y h2 hp hy) g1,g2⟩
   ·cases h
  |
   slice bs u=>
   obtain⟨te',ie,h1,h2,h3,h4,h5,h6,h7⟩:=T.cP ht rfl
   simp only at h1 h2 h4
   subst h3
   have hcz:=T.cellsOf h2
   unfold DataW.trod at h ⊢
   rw[h1] at h ⊢
   split at h
   all_goals first
    |(cases h;rfl)
    |skip
   all_goals try (simp_all;done)
   rename_i e0 a len cap heq0
   have he0:e0=te:=by simpa using heq0.symm
   subst he0
   simp only[bC] at h
   simp only
   split at h
   ·rename_i hc
    rw[aA hc]
    simp only[qC,fm] at h ⊢
    obtain⟨elems,g1,rest,g2,g3⟩:=h
    have step:∀(i:Nat)(y:DataW H×List MemPlace),(W.cells? 0 (a.add (i*P.cellsOf e0)) (P.cellsOf e0)).bind (DataW.trod enc P W 0 (fun _=>true) true fuel e0)=some y→(W'.cells? 0 (a.add (i*P.cellsOf e0)) (P.cellsOf e0)).bind (DataW.trod enc P W' 0 (fun b=>decide (b<W.heap.size)) true fuel e0)=some y:=by
     intro i y hy
     simp only[qC] at hy ⊢
     obtain⟨c,c1,c2⟩:=hy
     exact⟨c,cells?_stay hs c1,ih e0 te' c y h2 hp c2⟩
    refine⟨elems,mapM_mono (fun i _ y hy=>step i y hy) g1,rest,?_,g3⟩
    by_cases hz:cap -len=0
    ·rw[hz] at g2 ⊢
     simp at g2
     subst g2
     split<;>simp
    ·have hblk:a.block<W.heap.size:=by
      obtain⟨k,hk⟩:∃k,cap -len=k+1:=⟨cap -len -1,by omega⟩
      rw[hk,List.range_succ_eq_map] at g2
      simp only[List.mapM_cons,Option.bind_eq_bind,qC] at g2
      obtain⟨y,⟨c,c1,_⟩,_⟩:=g2
      obtain⟨l1,l2⟩:=cells?_get c1
      have hpos:0<c.length:=by rw[l1,hcz];exact h6
      have:=l2 0 c[0] (by simp[hpos])
      unfold World.cell? at this
      split at this
      ·rename_i hh
       have hlt:=(Array.getElem?_eq_some_iff.1 hh).1
       have e:∀(a:Addr) n,(a.add n).block=a.block:=by intro a n;unfold Addr.add;split<;>rfl
       rw[e,e] at hlt
       exact hlt
      ·cases this
     simp only[hblk,decide_true,bC]
     exact mapM_mono (fun i _ y hy=>step (len+i) y hy) g2
   ·cases h
  |
   pair ta tb=>
   obtain⟨fs,h1,h2⟩:=T.structOf ht rfl
   unfold DataW.trod at h ⊢
   rw[h1] at h ⊢
   simp only at h ⊢
   split at h
   ·rename_i hl
    rw[aA hl]
    simp only[fm] at h ⊢
    obtain⟨xs,g1,g2⟩:=h
    refine⟨xs,mapM_mono (fun f hf y hy=>?_) g1,g2⟩
    have key:∀(l:List Field)(ty:Ty)(off:Nat),bR G l off ty=true→ty.cL=true→∀f∈l,∃td,G.at f.type=some td∧td.ty.cL=true:=by
     intro l
     induction l with
     |nil=>intro ty off _ _ f hf;cases hf
     |
      cons f0 l ihl=>
      intro ty off hfo hpu f hf
      cases ty with
      |
       pair a b=>
       simp only[bR,aV] at hfo
       obtain⟨⟨⟨q1,q2⟩,q3⟩,q4⟩:=hfo
       simp only[Ty.cL,aV] at hpu
       rcases List.mem_cons.1 hf with e|hf
       ·subst e
        split at q1
        ·rename_i td htd
         exact⟨td,htd,by rw[Ty.aB q1];exact hpu.1⟩
        ·cases q1
       ·exact ihl b _ q4 hpu.2 f hf
      |_=>simp[bR] at hfo
    obtain⟨td,htd,hpd⟩:=key fs.toList (.pair ta tb) 0 h2 hp f hf
    exact ih f.type td _ y htd hpd hy
   ·cases h
  |
   unit=>
   obtain⟨ii,dd,_,hu,hsz,hdo,_⟩:=T.info ht
   cases dd with
   |
    struct fs=>
    have hfs:fs.toList= []:=by
     simp only[cj] at hdo
     cases hl:fs.toList with
     |nil=>rfl
     |cons f l=>rw[hl] at hdo;simp[bR] at hdo
    unfold DataW.trod at h ⊢
    rw[hu] at h ⊢
    simp only[hfs] at h ⊢
    exact h
   |slice e=>simp[cj,Ty.same] at hdo
   |array n e=>simp[cj] at hdo
   |map k e=>simp[cj,Ty.same] at hdo
   |_=>simp[cj,Ty.same] at hdo
  |aR k=>simp[Ty.cL] at hp
  |fns n=>simp[Ty.cL] at hp
  |map k v=>simp[Ty.cL] at hp
theorem oC:∀(ts:List TypeId)(vs:List Value)(ds:List (DataW H))(ps:List MemPlace),(∀t∈ts,∃td,G.at t=some td∧td.ty.cL=true)→DataW.TrodAll enc P W 0 (fun _=>true) true ts vs ds ps→DataW.TrodAll enc P W' 0 (fun b=>decide (b<W.heap.size)) true ts vs ds ps
 |
  [],vs,ds,ps,_,h=>by
  cases vs<;>cases ds<;>first|exact h|exact h.elim
 |
  t::ts,vs,ds,ps,ht,h=>by
  cases vs with
  |nil=>cases ds<;>exact h.elim
  |
   cons v vs=>
   cases ds with
   |nil=>exact h.elim
   |
    cons d ds=>
    obtain⟨p,q,⟨fuel,h1⟩,h2,h3⟩:=h
    obtain⟨td,htd,hpd⟩:=ht t (by simp)
    exact⟨p,q,⟨fuel,uS T hs fuel t td _ _ htd hpd h1⟩,oC ts vs ds q (fun t' ht'=>ht t' (by simp[ht'])) h2,h3⟩
end
theorem HW.bare{gl:Ctx}{W:World}(n:Nat)(hg:EE gl (qA W) W):HW gl (qA W) W (aO (List.replicate n none) []):=by
 have no:∀(b:Nat)(k:aN),(aO (List.replicate n (none:Option aN)) [])[b]? ≠some (some k):=by
  intro b k h
  simp only[aO,jX] at h
  split at h<;>cases h
 exact⟨fun b k h=>absurd h (no b k),fun b _ k _ _ h=>absurd h (no b k),fun b k _ h=>absurd h (no b k),fun g hg=>hg,hg,fun b k _ h=>absurd h (no b k)⟩
theorem Ez{H:Type}{enc:TypeId×Value→H}{P:Program}{G:bT}(T:bB P G){gl:Ctx}{f:FuncId}{fn:Func}{s:ChangeSpec}{W:World}{args:Array Value}{ds gs:List (DataW H)}{before:List MemPlace}{avs:List AV}{m:Nat}{bt:TypeId}
 (hc:Fc P gl f avs (aO (List.replicate m none) []) (.ret (.val .bool true)) (dk m [])) (hv:kN (qA W) W avs args.toList) (hg:EE gl (qA W) W)
 (hW:DataW.Whole enc P fn.params.toList s.vars false W args.toList ds gs before) (hvars:s.vars= []) (hpt:∀t∈fn.params.toList,∃td,G.at t=some td∧td.ty.cL=true)
 (hrt:fn.resultTypes= #[bt]) (hbt:P.underlying bt=some .bool) (hspec:∀gs,gs= []→(s.fn H (ds++gs)).results= [.lit (.bool true)]∧(s.fn H (ds++gs)).args=ds∧(s.fn H (ds++gs)).vars= []):
 Calls P f args W fun e W'=>∃v,e= .returned v∧s.post enc P fn false true false false W args v W':=by
 have ab3:=hc.2 (qA W) W args.toList hv (HW.bare m hg)
 have e0:args.toList.toArray=args:=by simp
 rw[e0] at ab3
 refine ab3.mono ?_
 rintro e W' ⟨E',hR,_,hX⟩
 cases e with
 |panicked ch=>exact hR.elim
 |outgrown=>exact hR.elim
 |
  returned v=>
  have hv':=RV.dU hR
  subst hv'
  refine⟨_,rfl,?_⟩
  have noO:∀g,¬Own (aO (List.replicate m (none:Option aN)) []) (qA W) g:=by
   rintro g ⟨b,k,hb,_⟩
   simp only[aO,jX] at hb
   split at hb<;>cases hb
  have stay:∀b,b<W.heap.size→W'.heap[b]? =W.heap[b]? :=fun b hb=>hX.kept b hb (noO b)
  have hW0:=hW
  obtain⟨p,q,hA,hV,hpq,hfz,hnd⟩:=hW
  rw[hvars] at hV
  have hgs:gs= []∧q= []:=by
   cases gs with
   |nil=>exact⟨rfl,hV⟩
   |cons _ _=>exact hV.elim
  obtain⟨hgs,hq⟩:=hgs
  obtain⟨s1,s2,s3⟩:=hspec gs hgs
  refine⟨ds,gs,before,[],p,[],hW0,?_,?_,?_,?_,fun h=>by cases h⟩
  ·rw[s1,hrt]
   refine⟨[],[],⟨1,?_⟩,rfl,rfl⟩
   simp[DataW.trod,hbt,Value.cells]
  ·rw[s2];exact oC T stay _ _ _ _ hpt hA
  ·rw[s3,hvars];rfl
  ·refine⟨hX.os,hX.output,fun i hi=>?_⟩
   rw[stay i hi]
   cases hh:W.heap[i]? with
   |none=>rfl
   |
    some o=>
    cases o with
    |cells c t fr=>exact⟨rfl,rfl,rfl,fun _ _=>rfl⟩
    |map es clock=>exact Or.inr ⟨rfl,rfl⟩
    |_=>rfl
end Go.Ax
namespace Go.Ax
end Go.Ax
namespace Go.Ax
theorem cI{c:Prop}[Decidable c]{α:Type}{x y:α}(h:c):(if decide c=true then x else y)=x:=if_pos (decide_eq_true h)
theorem gK{a b:Int}{α:Type}{x y:α}(h:¬a<b):(if decide (a<b)=true then x else y)=y:=if_neg fun e=>h (of_decide_eq_true e)
theorem dQ(n:Nat){α:Type}{x y:α}:(if 0≤(n:Int) then x else y)=x:=if_pos (Int.natCast_nonneg n)
theorem ku(c:Nat)(h:c≤4611686018427387904):aZ ((c:Int)+(1:Int))=((c+1:Nat):Int):=bw h
end Go.Ax
