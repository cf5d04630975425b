/- The machines: what it means to be walked or run, part 5. No condition. -/
import Derived.Test.YtgdcjlldafmomaaGreatA4
import Derived.RecoverIn
import Derived.Shelf.SlSortCmp.Whole1
import Derived.Shelf.SlIterI.Collect
import Derived.Shelf.SlIterI.Sorted
import Derived.Deep.DeepHandedRow
import Derived.OpenShut
import Derived.ChangeArms
noncomputable section
namespace Go.Ax
def y0:YC:=⟨0,fun n=>n,fun _=>default⟩
inductive CF(D T:Type) where
 |bx (f:D→Option T)
 |iH (s:Sh) (f:D→Option (Sum (prod (s.H [])) T))
def dG{A B R:Type}(x:Option (Sum A B))(kp:A→Option R)(k:B→Option R):Option R:=
 Option.bind x fun r=>match r with
  | .inl a=>kp a
  | .inr b=>k b
theorem Bq{A B R:Type}{x:Option (Sum A B)}{kp:A→Option R}{k:B→Option R}{r:R}(h:dG x kp k=some r):(∃a,x=some (.inl a)∧kp a=some r)∨∃b,x=some (.inr b)∧k b=some r:=by
 unfold dG at h
 cases x with
 |none=>cases h
 |
  some y=>
  cases y with
  |inl a=>exact Or.inl ⟨a,rfl,h⟩
  |inr b=>exact Or.inr ⟨b,rfl,h⟩
def CF.run{D T R:Type}:CF D T→D→(T→Option R)→(AV→Option R)→Option R
 | .bx f,d,K,_=>Option.bind (f d) fun r=>K r
 | .iH s f,d,K,KP=>dG (f d) (fun p=>KP (s.V y0 p)) fun r=>K r
def CF.Lm{D T:Type}:CF D T→D→T→Prop
 | .bx f,d,r=>f d=some r
 | .iH _ f,d,r=>f d=some (.inr r)
def CF.Ln{D T:Type}:CF D T→D→AV→Prop
 | .bx _,_,_=>False
 | .iH s f,d,x=>∃p,f d=some (.inl p)∧x=s.V y0 p
theorem CF.vP{D T R:Type}{c:CF D T}{d:D}{K:T→Option R}{KP:AV→Option R}{r:R}(h:c.run d K KP=some r):(∃y,c.Lm d y∧K y=some r)∨∃x,c.Ln d x∧KP x=some r:=by
 cases c with
 |bx f=>obtain⟨y,h1,h2⟩:=bind_some h;exact Or.inl ⟨y,h1,h2⟩
 |
  iH s f=>
  rcases Bq h with⟨p,h1,h2⟩|⟨y,h1,h2⟩
  ·exact Or.inr ⟨_,⟨p,h1,rfl⟩,h2⟩
  ·exact Or.inl ⟨y,h1,h2⟩
structure aT where
 fn:Fn
 A:List Sh
 B:List (Nat×dS)
 m:Nat
 F:SS
 res:F.T→AV
 out:F.T→List (Nat×aI)
 f:CF (prod (oE A (fE B []))) F.T
abbrev aT.D(C:aT):Type:=prod (oE C.A (fE C.B []))
def aT.args(C:aT)(d:C.D):List AV:=uS y0 C.A d
def aT.ins(C:aT)(d:C.D):List (Nat×Option aI):=cH (lg y0 C.B (uT C.A d))
structure aT.holds(P:Program)(gl:Ctx)(C:aT):Prop where
 ret:∀d r,C.f.Lm d r→CE P gl C.fn (C.args d) (aL (List.replicate C.m none) (C.ins d)) (.ret (C.res r)) (cJ C.m (C.out r))
 iH:∀d x,C.f.Ln d x→CE P gl C.fn (C.args d) (aL (List.replicate C.m none) (C.ins d)) (.iH x) (cJ C.m [])
def xC:(m:List (Nat×dS))→{l:List Type}→List (Nat×Option aI)→prod l→Option (prod (fE m l))
 |[],_,[],d=>some d
 |
  (i,s)::m,_,(j,some k)::hp,d=>if Nat.beq i j then(match xC m hp d with
  |some e=>s.G k e
  |none=>none) else none
 |_,_,_,_=>none
theorem sZ(y:YC):∀{m:List (Nat×dS)}{l:List Type}{hp:List (Nat×Option aI)}{d:prod l}{e:prod (fE m l)},xC m hp d=some e→cH (lg y m e)=hp∧La m e=d
 |
  [],l,hp,d,e,h=>by
  cases hp with
  |nil=>cases h;exact⟨rfl,rfl⟩
  |cons _ _=>simp[xC] at h
 |
  (i,s)::m,l,hp,d,e,h=>by
  match hp,h with
  |[],h=>simp[xC] at h
  |(j,none)::hp,h=>simp[xC] at h
  |
   (j,some k)::hp,h=>
   obtain⟨hs,h0⟩:=bG h
   have:=Nat.eq_of_beq_eq_true hs;subst this
   split at h0
   ·rename_i e' he
    obtain⟨h1,h2⟩:=sZ y he
    obtain⟨g1,g2⟩:=dS.rU y h0
    exact⟨by simp only[lg,cH];rw[g1,g2,h1],by simp only[La];rw[g2,h2]⟩
   ·exact no h0
def aT.get(C:aT)(L:List AV)(I:List (Nat×Option aI)):Option C.D:=
 match xC C.B (l:=[]) I () with
 |some d=>IG C.A L d
 |none=>none
theorem aT.dO{C:aT}{L:List AV}{I:List (Nat×Option aI)}{d:C.D}(h:C.get L I=some d):C.args d=L∧C.ins d=I:=by
 unfold aT.get at h
 split at h
 ·rename_i d1 h1
  obtain⟨a1,a2⟩:=sZ y0 h1
  obtain⟨b1,b2⟩:=uU y0 h
  exact⟨b1,by unfold aT.ins;rw[b2,a1]⟩
 ·cases h
structure CH where
 K4:List Nat
 ps:List (Nat×Nat)
 ns:List (Nat×Nat)
 ks:List (Nat×Nat):=[]
 us:List Nat:=[]
def CH.al(ch:CH):List (Nat×Nat):=match ch.ks with
 |[]=>ch.ps
 |k::ks=>ch.ps++k::ks
inductive KS where
 |t (s:Nat)
 |c (s:Nat) (p:Path)
def KS.get(σ:St):KS→Option AV
 | .t s=>σ.tm[s]?
 |
  .c s p=>match σ.tm[s]? with
  |
   some (.ptr b q)=>match dx σ.hp b with
   |some (.var _ v)=>v.get (q++p)
   |_=>none
  |_=>none
inductive PF where
 |row (b d:Nat) (k:KS)
 |map (mode b d:Nat) (k:KS)
 |dH (b:Nat)
structure RH where
 pre:List Gh
 zs:List (Nat×Nat×Ty)
 cs:List CH
 mg:Option (List (Nat×Ty)):=none
 Wr:List (Nat×Nat):=[]
 pf:List PF:=[]
 post:List Gh:=[]
structure LH where
 S:SS
 fuel:S.T→Nat
structure EG where
 ic:Nat
 dI:Nat
 lI:Nat
 ti:List (Nat×Ty)
 m:List (Nat×Nat)
 jl:List Code
 ps:List (Nat×Nat)
 ns:List (Nat×Nat)
 S:SS
 E:SS
structure Hs where
 Ws:List (Nat×RH)
 join:List (Nat×SS)
 cj:List (Nat×SS)
 loop:List (Nat×LH)
 Wt:List (Nat×Nat)
 xx:List (Nat×EG):=[]
def ifs{R:Type}:List VC→Option R→Option R
 |[],x=>x
 |v::l,x=>@ite _ v.p v.d (ifs l x) none
theorem dW{R:Type}{r:R}:∀{l:List VC}{x:Option R},ifs l x=some r→cX l∧x=some r
 |[],x,h=>⟨trivial,h⟩
 |
  v::l,x,h=>by
  unfold ifs at h
  by_cases hp:v.p
  ·rw[@if_pos _ v.d hp] at h
   obtain⟨h1,h2⟩:=dW h
   exact⟨⟨hp,h1⟩,h2⟩
  ·rw[@if_neg _ v.d hp] at h;cases h
def lV(G:bH)(al ps:List (Nat×Nat))(ev:Operand→AV)(hb:Nat→Option aI)(c:Call):Option (Fn×List AV×List (Nat×Option aI)):=
 match c.callee with
 |
  .value cf=>match BF (ev cf) with
  |
   some (fn,fl,cl)=>
   match jK (swp al) hb (fl.map (fun x=>(x,Ty.unit))++(c.args.toList.zip c.argTypes.toList).map (oz G ev)++cl.map (fun x=>(x,Ty.unit))),fZ (swp al) hb ps with
   |some (L,_),some ins=>some (fn,L,ins)
   |_,_=>none
  |_=>none
 |
  .invoke rv name=>match As G hb name (ev rv) with
  |
   some (f,x,xt)=>
   match jK (swp al) hb ((x,xt)::(c.args.toList.zip c.argTypes.toList).map (oz G ev)),fZ (swp al) hb ps with
   |some (L,_),some ins=>some (.func f,L,ins)
   |_,_=>none
  |_=>none
 |_=>none
def Br(P:Program)(gl:Ctx)(cr:CR)(x:Option (Fn×List AV×List (Nat×Option aI))):Prop:=
 ∀fn L ins,x=some (fn,L,ins)→CE P gl fn L (aL (List.replicate cr.m none) ins) cr.fin (cJ cr.m cr.out)
theorem pQ{P:Program}{G:bH}{gl:Ctx}{cr:CR}{ev:Operand→AV}{hb:Nat→Option aI}{c:Call}{e:dU}{ob:List Prop}(h:lC P G gl cr ev hb c=some (e,ob))(hob:Br P gl cr (lV G cr.al cr.ps ev hb c)):∀p∈ob,p:=by
 unfold lC at h
 split at h
 ·rename_i cf hcf
  split at h
  ·rename_i fn fl cl hfv
   split at h
   ·rename_i L lent ins r' hL gz hr'
    split at h
    ·cases h
     intro p hp
     simp only[List.mem_singleton] at hp
     subst hp
     refine hob fn L ins ?_
     unfold lV
     rw[hcf]
     simp only
     rw[hfv]
     simp only
     rw[hL,gz]
    ·cases h
   ·cases h
  ·cases h
 ·rename_i rv name hcf
  split at h
  ·rename_i f x xt hfv
   split at h
   ·rename_i L lent ins r' hL gz hr'
    split at h
    ·cases h
     intro p hp
     simp only[List.mem_singleton] at hp
     subst hp
     refine hob (.func f) L ins ?_
     unfold lV
     rw[hcf]
     simp only
     rw[hfv]
     simp only
     rw[hL,gz]
    ·cases h
   ·cases h
  ·cases h
 ·cases h
def pS(G:bH)(gl:Ctx)(ops:Array Oper)(al ps:List (Nat×Nat))(z:List (Nat×Ty))(σ:St)(i:Nat):Option (Fn×List AV×List (Nat×Option aI)):=
 match ops[i]? with
 |none=>none
 |
  some o=>match o.op with
  |
   .call c=>match z with
   |[]=>lV G al ps (bw gl σ.tm) (eJ (ow o.op (bw gl σ.tm)++ps.map (·.2)) σ.hp) c
   |z=>lV G al ps (BO (eJ (jN (bw gl σ.tm) z) σ.hp) z (bw gl σ.tm)) (eJ (ow o.op (BO (eJ (jN (bw gl σ.tm) z) σ.hp) z (bw gl σ.tm))++ps.map (·.2)) (aL σ.hp (dv (iS (eJ (jN (bw gl σ.tm) z) σ.hp) (bw gl σ.tm) z)))) c
  |_=>none
theorem vQ{P:Program}{G:bH}{gl:Ctx}{d:Nat}{cr:CR}{op:Op}{ev:Operand→AV}{hb:Nat→Option aI}{e:dU}{ob:List Prop}(h:ka P G gl d cr op ev hb=some (e,ob)):
 ob= []∨∃c e',op= .call c∧jj op=true∧lC P G gl cr ev hb c=some (e',ob):=by
 unfold ka at h
 split at h
 ·rename_i c
  split at h
  ·simp only[Option.map_eq_some_iff,Prod.mk.injEq] at h
   obtain⟨_,_,_,rfl⟩:=h
   exact Or.inl rfl
  ·rename_i hb
   simp only[Option.bind_eq_some_iff] at h
   obtain⟨⟨e',ob'⟩,h,hk⟩:=h
   have:=GX hk
   simp only at this
   subst this
   refine Or.inr ⟨c,e',rfl,?_,h⟩
   obtain⟨callee,args,tys⟩:=c
   cases callee with
   |builtin b=>exact absurd rfl (hb b)
   |value _=>rfl
   |invoke _ _=>rfl
 ·simp only[Option.map_eq_some_iff,Prod.mk.injEq] at h
  obtain⟨_,_,_,rfl⟩:=h
  exact Or.inl rfl
theorem kC{P:Program}{G:bH}{gl:Ctx}{ops:Array Oper}{cr:CR}{z:List (Nat×Ty)}{σ:St}{i:Nat}{f:aS}{vc:List VC}{ob:List Prop}(h:dt P G gl ops cr z σ i=some (f,vc,ob))(hob:qK ops i=true→Br P gl cr (pS G gl ops cr.al cr.ps z σ i)):∀p∈ob,p:=by
 unfold dt at h
 split at h
 ·cases h
 ·rename_i o ho
  have hat:qK ops i=jj o.op:=by unfold qK;rw[ho]
  split at h
  ·cases h
  ·cases h;intro p hp;cases hp
  ·split at h
   ·split at h
    ·cases h
    ·rename_i e ob' he
     cases h
     rcases vQ he with rfl|⟨c,e',hop,hc,he'⟩
     ·intro p hp;cases hp
     ·refine pQ he' ?_
      have:=hob (by rw[hat];exact hc)
      unfold pS at this
      rw[ho] at this
      simp only at this
      split at this
      ·rename_i c' hop'
       rw[hop] at hop'
       cases hop'
       rw[hop] at this ⊢
       exact this
      ·rename_i hno;exact absurd hop (hno c)
   ·rename_i hz
    split at h
    ·cases h
    ·rename_i e ob' he
     cases h
     rcases vQ he with rfl|⟨c,e',hop,hc,he'⟩
     ·intro p hp;cases hp
     ·refine pQ he' ?_
      have:=hob (by rw[hat];exact hc)
      unfold pS at this
      rw[ho] at this
      simp only at this
      split at this
      ·rename_i c' hop'
       rw[hop] at hop'
       cases hop'
       rw[hop] at this ⊢
       cases z with
       |nil=>exact absurd rfl hz
       |cons z1 z2=>exact this
      ·rename_i hno;exact absurd hop (hno c)
def Nj{R:Type}:Fn→Fn→Option R→Option R→Option R
 | .func f,.func g,K,E=>if Nat.beq f g then K else E
 | .yield l,.yield l',K,_=>ifs [vc (l=l')] K
 |_,_,_,E=>E
theorem vR{R:Type}{f g:Fn}{K E:Option R}{r:R}(h:Nj f g K E=some r):(f=g∧K=some r)∨E=some r:=by
 cases f with
 |
  func f=>
  cases g with
  |
   func g=>
   simp only[Nj] at h
   split at h
   ·rename_i hb;exact Or.inl ⟨by rw[Nat.eq_of_beq_eq_true hb],h⟩
   ·exact Or.inr h
  |_=>exact Or.inr h
 |
  yield l=>
  cases g with
  |
   yield l'=>
   obtain⟨h1,h2⟩:=dW h
   exact Or.inl ⟨by rw[h1.1],h2⟩
  |_=>exact Or.inr h
 |_=>exact Or.inr h
noncomputable def vS(a b:aI){R:Type}(x:Option R):Option R:=@ite _ (some a=some b) (Classical.propDecidable _) x none
theorem gJ{a:aI}{R:Type}{x:Option R}:vS a a x=x:=if_pos rfl
def vT{R:Type}(Γ:List aT)(ps ns ks:List (Nat×Nat))(us:List Nat)(fn:Fn)(L:List AV)(I:List (Nat×Option aI))(K:CR→Option R):List Nat→Option R
 |[]=>none
 |
  c::l=>match Γ[c]? with
  |
   some C=>Nj fn C.fn (match C.get L I with
   |some d=>C.f.run d (fun r=>K ⟨C.res r,ps,ns,C.out r,C.m,false,ks,us⟩) fun x=>K ⟨x,ps,[],[],C.m,true,ks,[]⟩
   |none=>vT Γ ps ns ks us fn L I K l) (vT Γ ps ns ks us fn L I K l)
  |none=>none
def Co(Γ:List aT)(ch:CH)(x:Option (Fn×List AV×List (Nat×Option aI))){R:Type}(K:CR→Option R):Option R:=
 match x with
 |some (fn,L,I)=>vT Γ ch.ps ch.ns ch.ks ch.us fn L I K ch.K4
 |none=>none
theorem pT{P:Program}{gl:Ctx}{Γ:List aT}(hΓ:∀C∈Γ,C.holds P gl){ps ns ks:List (Nat×Nat)}{us:List Nat}{fn:Fn}{L:List AV}{I:List (Nat×Option aI)}{R:Type}{K:CR→Option R}{r:R}:∀{l:List Nat},vT Γ ps ns ks us fn L I K l=some r→
 ∃cr,K cr=some r∧cr.ps=ps∧cr.ks=ks∧Br P gl cr (some (fn,L,I))
 |[],h=>by cases h
 |
  c::l,h=>by
  unfold vT at h
  split at h
  ·rename_i C hC
   rcases vR h with⟨hf,h⟩|h
   ·split at h
    ·rename_i d hd
     obtain⟨h1,h2⟩:=aT.dO hd
     have hC:=hΓ C (List.mem_of_getElem? hC)
     have key:∀(cr:CR),K cr=some r→cr.ps=ps→cr.ks=ks→CE P gl C.fn (C.args d) (aL (List.replicate cr.m none) (C.ins d)) cr.fin (cJ cr.m cr.out)→∃cr,K cr=some r∧cr.ps=ps∧cr.ks=ks∧Br P gl cr (some (fn,L,I)):=by
      intro cr h hp hk hh
      refine⟨cr,h,hp,hk,?_⟩
      intro fn' L' I' e
      cases e
      rw[hf,←h1,←h2]
      exact hh
     rcases CF.vP h with⟨y,hy,h⟩|⟨x,hx,h⟩
     ·exact key _ h rfl rfl (hC.ret d y hy)
     ·exact key _ h rfl rfl (hC.iH d x hx)
    ·exact pT hΓ h
   ·exact pT hΓ h
  ·cases h
theorem Cp{P:Program}{gl:Ctx}{Γ:List aT}(hΓ:∀C∈Γ,C.holds P gl){ch:CH}{x:Option (Fn×List AV×List (Nat×Option aI))}{R:Type}{K:CR→Option R}{r:R}(h:Co Γ ch x K=some r):
 ∃cr,K cr=some r∧cr.ps=ch.ps∧cr.ks=ch.ks∧Br P gl cr x:=by
 unfold Co at h
 split at h
 ·exact pT hΓ h
 ·cases h
theorem CH.Ip{ch:CH}{cr:CR}(h1:cr.ps=ch.ps)(h2:cr.ks=ch.ks):cr.al=ch.al:=by
 obtain⟨_,ps,_,_,_,_,ks,_⟩:=cr
 obtain⟨_,ps',_,ks',_⟩:=ch
 cases h1
 cases h2
 cases ks<;>rfl
def Nk:CR:=⟨.bot,[],[],[],0,false,[],[]⟩
def EH{R:Type}(s:Bool)(f:aS)(K:aS→Option R):Option R:=
 match s with
 |false=>K f
 |
  true=>match f.v with
  | .val .bool e=>if e=true then K {f with v:=.val .bool true} else K {f with v:=.val .bool false}
  |_=>K f
theorem rZ{R:Type}{s:Bool}{f:aS}{K:aS→Option R}{r:R}(h:EH s f K=some r):K f=some r:=by
 unfold EH at h
 split at h
 ·exact h
 ·split at h
  ·rename_i e he
   obtain⟨rt,rb,fr,dst,v,hw⟩:=f
   simp only at he
   subst he
   rcases DO h with⟨he,h⟩|⟨he,h⟩<;>(subst he;exact h)
  ·exact h
def EI{R:Type}:List (Option Nat)→Nat→Int→aS→(aS→Option R)→Option R
 |[],_,_,_,_=>none
 |g::gs,n,e,f,K=>if e=(n:Int) then K {f with v:=Bz g} else EI gs (n+1) e f K
def Cq{R:Type}(ok:Bool)(k0:Ty)(k:k0.den)(f:aS)(K:aS→Option R):List (k0.den×AV)→Option R
 |[]=>K {f with v:=okF ok .dX false}
 |x::l=>if aU k0 k x.1=true then K {f with v:=okF ok x.2 true} else Cq ok k0 k f K l
theorem r9{R:Type}{ok:Bool}{k0:Ty}{k:k0.den}{f:aS}{K:aS→Option R}{r:R}:∀{l:List (k0.den×AV)},f.v=jF ok k0 k l→Cq ok k0 k f K l=some r→K f=some r
 |
  [],hv,h=>by
  simp only[jF] at hv
  simp only[Cq] at h
  rw[←hv] at h;exact h
 |
  x::l,hv,h=>by
  simp only[jF] at hv
  simp only[Cq] at h
  split at h
  ·rename_i hb;rw[if_pos hb] at hv;rw[←hv] at h;exact h
  ·rename_i hb;rw[if_neg hb] at hv;exact r9 hv h
def EJ{R:Type}(b:Nat)(p:Path):Nat→Nat→Int→aS→(aS→Option R)→Option R
 |0,_,_,_,_=>none
 |m+1,n,e,f,K=>if e=(n:Int) then K {f with v:=.ptr b (p++[.idx n])} else EJ b p m (n+1) e f K
theorem sa{R:Type}{f:aS}{K:aS→Option R}{r:R}{b:Nat}{p:Path}{e:Int}(hv:f.v= .ptr b (p++[.idx e.toNat])):∀{m n:Nat},EJ b p m n e f K=some r→K f=some r
 |0,_,h=>by cases h
 |
  m+1,n,h=>by
  unfold EJ at h
  split at h
  ·rename_i he
   subst he
   rw[Int.toNat_natCast] at hv
   rw[←hv] at h
   exact h
  ·exact sa hv h
def Lo(hb:Nat→Option aI)(b:Nat)(p:Path):Option Nat:=
 match hb b with
 |
  some k=>match(fN k).sub p with
  |some (.fns n)=>some n
  |_=>none
 |none=>none
theorem Bs{P:Program}{G:bH}{d:Nat}{t:TypeId}{x j:Operand}{ev:Operand→AV}{hb:Nat→Option aI}{r:dU}{b:Nat}{p:Path}{k:IntKind}{e:Int}(h:j9 P G d (.indexAddr t x j) ev hb=some r)(hx:ev x= .ptr b p)(hj:ev j= .val (.int k) e):r.v= .ptr b (p++[.idx e.toNat]):=by
 simp only[j9,zE,rL,qC,qE,qF,qG,qH,hx,hj,iu] at h
 split at h
 ·rename_i r' h
  cases h
  rename_i h
  simp only[Option.map_eq_some_iff] at h
  obtain⟨⟨u,vc⟩,h,rfl⟩:=h
  unfold gu at h
  split at h
  ·split at h
   ·rename_i h2;cases h2
   ·rename_i h2;cases h2
   ·rename_i h2;cases h2
   ·rename_i h2;cases h2
   ·rename_i h2
    cases h2
    split at h
    ·split at h
     ·split at h
      ·cases h;rfl
      ·cases h
     ·cases h
    ·cases h
   ·rename_i h2
    cases h2
    split at h
    ·split at h
     ·split at h
      ·cases h;rfl
      ·cases h
     ·cases h
    ·cases h
   ·rename_i h2;cases h2
   ·cases h
  ·cases h
 ·cases h
def I7{R:Type}(gl:Ctx)(ops:Array Oper)(σ:St)(i:Nat)(f:aS)(K:aS→Option R):Option R:=
 match ops[i]? with
 |
  some o=>match o.guard,o.op with
  |
   none,.indexAddr _ x j=>match bw gl σ.tm x,bw gl σ.tm j with
   |
    .ptr b p,.val (.int _) e=>match Lo (dx σ.hp) b p with
    |some n=>EJ b p n 0 e f K
    |none=>K f
   |_,_=>K f
  |
   none,.index _ x j=>match bw gl σ.tm x,bw gl σ.tm j with
   | .val (.fns _) xs,.val (.int _) e=>EI xs 0 e f K
   |_,_=>K f
  |
   none,.lookup _ x k ok=>match bw gl σ.tm x with
   |
    .mp b=>match dx σ.hp b with
    |
     some (.fu k0 l)=>match(bw gl σ.tm k).bA k0 with
     |some k'=>Cq ok k0 k' f K l
     |none=>K f
    |_=>K f
   |_=>K f
  |_,_=>K f
 |none=>K f
theorem sc{R:Type}{f:aS}{K:aS→Option R}{r:R}{ys:List (Option Nat)}{e:Int}(hv:f.v=Bz (ys.getD e.toNat none)):∀{xs:List (Option Nat)}{n:Nat},(∀k,ys.getD (n+k) none=xs.getD k none)→EI xs n e f K=some r→K f=some r
 |[],_,_,h=>by cases h
 |
  g::gs,n,hx,h=>by
  unfold EI at h
  split at h
  ·rename_i he
   subst he
   have:ys.getD n none=g:=by simpa using hx 0
   rw[Int.toNat_natCast,this] at hv
   rw[←hv] at h
   exact h
  ·refine sc hv (fun k=>?_) h
   have:=hx (k+1)
   rw[show n+1+k=n+(k+1) by omega,this]
   simp
theorem Bt{P:Program}{G:bH}{R:Type}{gl:Ctx}{ops:Array Oper}{cr:CR}{σ:St}{i:Nat}{f:aS}{vc:List VC}{ob:List Prop}{K:aS→Option R}{r:R}(hs:dt P G gl ops cr [] σ i=some (f,vc,ob))(h:I7 gl ops σ i f K=some r):K f=some r:=by
 unfold I7 at h
 split at h
 ·rename_i o ho
  split at h
  ·rename_i t x j hg hop
   split at h
   ·rename_i b p k e hx hj
    split at h
    ·rename_i n hn
     have hv:f.v= .ptr b (p++[.idx e.toNat]):=by
      unfold dt at hs
      rw[ho] at hs
      simp only[guardOf,hg] at hs
      split at hs
      ·cases hs
      ·rename_i e' ob' he
       cases hs
       rw[hop] at he
       simp only[ka,Option.map_eq_some_iff] at he
       obtain⟨e2,h2,he⟩:=he
       cases he
       exact Bs h2 hx hj
     exact sa hv h
    ·exact h
   ·exact h
  ·rename_i t x j hg hop
   split at h
   ·rename_i n xs k e hx hj
    have hv:f.v=Bz (xs.getD e.toNat none):=by
     unfold dt at hs
     rw[ho] at hs
     simp only[guardOf,hg,hop] at hs
     simp only[ka,j9,zE,rL,qC,qE,qF,qG,qH,hx,hj] at hs
     split at hs
     ·cases hs
     ·rename_i e' ob' he
      cases hs
      simp only[Option.map_eq_some_iff,Prod.mk.injEq] at he
      obtain⟨a,ha,rfl,rfl⟩:=he
      split at ha
      case h_2=>cases ha
      rename_i a' ha'
      cases ha
      simp only[Option.map_eq_some_iff] at ha'
      obtain⟨b,hb,rfl⟩:=ha'
      unfold po at hb
      split at hb
      ·split at hb
       ·rename_i h2 h3;cases h2
       ·rename_i m m' ys k' n' h1 h2 h3
        cases h2;cases h3
        split at hb
        ·cases hb;rfl
        ·cases hb
       ·rename_i h1 h2 h3;cases h2
       ·cases hb
      ·cases hb
    exact sc hv (fun k=>by simp) h
   ·exact h
  ·rename_i t x k ok hg hop
   split at h
   ·rename_i b hx
    split at h
    ·rename_i k0 l hbk
     split at h
     ·rename_i k' hk
      have hv:f.v=jF ok k0 k' l:=by
       unfold dt at hs
       rw[ho] at hs
       simp only[guardOf,hg] at hs
       split at hs
       ·cases hs
       ·rename_i e' ob' he
        cases hs
        rw[hop] at he
        simp only[ka,Option.map_eq_some_iff] at he
        obtain⟨e2,h2,he⟩:=he
        cases he
        refine wP h2 hx (fun kb hkb=>?_) hk
        have hkb:dx σ.hp b=some kb:=by
         unfold eJ at hkb
         split at hkb
         ·exact hkb
         ·cases hkb
        rw[hbk] at hkb
        exact(Option.some.inj hkb).symm
      exact r9 hv h
     ·exact h
    ·exact h
   ·exact h
  ·exact h
 ·exact h
def Lp{R:Type}(gl:Ctx)(ops:Array Oper)(σ:St)(i:Nat)(z:List (Nat×Ty))(f:aS)(K:aS→Option R):Option R:=
 match z with
 |[]=>I7 gl ops σ i f (fun f=>EH (DB ops.toList i) f K)
 |_::_=>EH (DB ops.toList i) f K
section
variable(P:Program) (G:bH) (gl:Ctx) (Γ:List aT)
def mW(ops:Array Oper)(σ:St)(i:Nat):Bool:=
 match ops[i]? with
 |
  some o=>match guardOf ops σ.tm o with
  |some b=>b
  |none=>false
 |none=>false
def vU(ops:Array Oper){R:Type}(i:Nat)(σ:St)(z:List (Nat×Ty))(x:Option (aS×List VC×List Prop))(K:aS→Option R):Option R:=
 match x with
 |some (f,vcs,_)=>if f.fr.all σ.dQ then ifs vcs (Lp gl ops σ i z f K) else none
 |none=>none
def Cr(gl:Ctx)(ops:Array Oper)(σ:St)(i:Nat):Option aS:=
 match ops[i]? with
 |
  some o=>match o.guard,o.op with
  |
   none,.panic x=>match bw gl σ.tm x with
   | .iface t v=>some ⟨slotsOf [x],[],[],none,.iface t v,[]⟩
   |_=>none
  |_,_=>none
 |none=>none
def Lq{R:Type}(x:Option (aS×List VC×List Prop))(KP:aS→Option R):Option R:=
 match x with
 |some (f,_,_)=>if f.fr.isEmpty then KP f else none
 |none=>none
def i6(ops:Array Oper)(zs:List (Nat×Nat×Ty)){R:Type}(K:List aS→St→Option R)(KP:List aS→aS→St→Option R):Nat→Nat→List CH→St→List aS→Option R
 |0,_,_,σ,fs=>K fs σ
 |
  n+1,i,cs,σ,fs=>
  if qK ops i&&mW ops σ i then(match cs with
   |
    ch::cs'=>Co Γ ch (pS G gl ops ch.al ch.ps (IE zs i) σ i) fun cr=>match cr.iH with
    |false=>vU gl ops i σ (IE zs i) (dt P G gl ops cr (IE zs i) σ i) fun f=>i6 ops zs K KP n (i+1) cs' (σ.app f) (f::fs)
    |true=>Lq (dt P G gl ops cr (IE zs i) σ i) fun f=>KP fs f σ
   |[]=>none)
  else match Cr gl ops σ i with
  |some f=>KP fs f σ
  |none=>vU gl ops i σ (IE zs i) (dt P G gl ops Nk (IE zs i) σ i) fun f=>i6 ops zs K KP n (i+1) (if qK ops i then cs.tail else cs) (σ.app f) (f::fs)
end
theorem pU{P:Program}{G:bH}{gl:Ctx}{ops:Array Oper}{cr:CR}{z:List (Nat×Ty)}{σ:St}{i:Nat}{f:aS}{vc:List VC}{ob:List Prop}{o:Oper}(h:dt P G gl ops cr z σ i=some (f,vc,ob))(ho:ops[i]? =some o):f.dst=o.dst:=by
 unfold dt at h
 rw[ho] at h
 simp only at h
 split at h
 ·cases h
 ·cases h;rfl
 ·split at h
  ·split at h
   ·cases h
   ·cases h;rfl
  ·split at h
   ·cases h
   ·cases h;rfl
theorem vV{P:Program}{G:bH}{gl:Ctx}{ops:Array Oper}{R:Type}{i:Nat}{σ:St}{cr:CR}{z:List (Nat×Ty)}{K:aS→Option R}{r:R}{f:aS}{vc:List VC}{ob:List Prop}(hs:dt P G gl ops cr z σ i=some (f,vc,ob))(h:Lp gl ops σ i z f K=some r):K f=some r:=by
 cases z with
 |nil=>exact rZ (Bt hs h)
 |cons _ _=>exact rZ h
theorem pW{P:Program}{G:bH}(T:aY P G){gl:Ctx}{ops:Array Oper}{R:Type}{i:Nat}{σ:St}{cr:CR}{z:List (Nat×Ty)}{K:aS→Option R}{r:R}(aau:cr.iH=false)(hob:qK ops i=true→Br P gl cr (pS G gl ops cr.al cr.ps z σ i))(h:vU gl ops i σ z (dt P G gl ops cr z σ i) K=some r):
 ∃f,(rO P gl ops i f σ∧∀o,ops[i]? =some o→f.dst=o.dst)∧(∀d∈f.fr,σ.fresh d)∧K f=some r:=by
 unfold vU at h
 split at h
 ·rename_i f vcs ob hs
  obtain⟨hf,h⟩:=bG h
  obtain⟨hv,h⟩:=dW h
  refine⟨f,⟨kL T aau hs hv (kC hs hob),fun o ho=>pU hs ho⟩,?_,vV hs h⟩
  intro d hd
  simp only[List.all_eq_true] at hf
  exact St.cY (hf d hd)
 ·cases h
theorem EK{P:Program}{G:bH}{gl:Ctx}{ops:Array Oper}{σ:St}{i:Nat}{cr:CR}{z:List (Nat×Ty)}{f:aS}{vc:List VC}{ob:List Prop}(h:dt P G gl ops cr z σ i=some (f,vc,ob))(hg:mW ops σ i=false):ob= []:=by
 unfold dt at h
 unfold mW at hg
 split at h
 ·cases h
 ·rename_i o ho
  rw[ho] at hg
  simp only at hg
  split at h
  ·cases h
  ·cases h;rfl
  ·rename_i hgd
   rw[hgd] at hg
   cases hg
theorem Cs{P:Program}{gl:Ctx}{ops:Array Oper}{σ:St}{i:Nat}{f:aS}(h:Cr gl ops σ i=some f):wS P gl ops i f σ:=by
 unfold Cr at h
 split at h
 ·rename_i o ho
  split at h
  ·rename_i x hgd hop
   split at h
   ·rename_i t v hx
    cases h
    intro σ' ha E a w hg K Q hQ
    unfold wpOpIn
    simp only[ho]
    have hw:=ek hg (ops:=ops) (o:=o) (c:=true) (by unfold guardOf;rw[hgd])
    rw[hw]
    simp only[if_true]
    have hv:=eI hg x
    rw[fP ha (x:=x) (fun t ht=>by simp only[slotsOf,List.flatMap_cons,List.flatMap_nil,List.append_nil];exact ht),hx] at hv
    obtain⟨u,e,_⟩:=RV.atom rfl hv
    simp at e
    unfold Oper.wpIn
    refine⟨fun _ _=>trivial,?_⟩
    rw[Oper.semAt_eq _ _ _ (by rw[hop];intro c h;cases h)]
    have aao:(execOp a.eval o).run P w= .halt (.panic (a.eval x)) w:=by
     simp[execOp,hop,e,Instr.panic]
    rw[aao]
    exact hQ E (a.eval x) w hg hv (Ext.refl _ _ _)
   ·cases h
  ·cases h
 ·cases h
theorem vW{ops:Array Oper}{σ:St}{i:Nat}(h1:qK ops i=true)(h2:mW ops σ i=true):∃o,ops[i]? =some o∧guardOf ops σ.tm o=some true∧jj o.op=true:=by
 unfold mW at h2
 unfold qK at h1
 split at h2
 ·rename_i o ho
  rw[ho] at h1
  split at h2
  ·rename_i b hb
   subst h2
   exact⟨o,ho,hb,h1⟩
  ·cases h2
 ·cases h2
theorem lu{P:Program}{G:bH}(T:aY P G){gl:Ctx}{Γ:List aT}(hΓ:∀C∈Γ,C.holds P gl){ops:Array Oper}{zs:List (Nat×Nat×Ty)}{R:Type}{K:List aS→St→Option R}{KP:List aS→aS→St→Option R}{r:R}:
 ∀{n i:Nat}{cs:List CH}{σ:St}{fs:List aS},i6 P G gl Γ ops zs K KP n i cs σ fs=some r→
  (∃gs σ',me P gl ops i gs σ σ'∧gs.length=n∧(∀(k:Nat)(f:aS)(o:Oper),gs[k]? =some f→ops[i+k]? =some o→f.dst=o.dst)∧K (gs.reverse++fs) σ'=some r)∨
  ∃gs f σ',me P gl ops i gs σ σ'∧gs.length<n∧wS P gl ops (i+gs.length) f σ'∧KP (gs.reverse++fs) f σ'=some r
 |0,i,cs,σ,fs,h=>Or.inl ⟨[],σ,rfl,rfl,(fun k f o h=>by simp at h),h⟩
 |
  n+1,i,cs,σ,fs,h=>by
  unfold i6 at h
  have fin:∀{f:aS}{cs':List CH},(rO P gl ops i f σ∧∀o,ops[i]? =some o→f.dst=o.dst)→(∀d∈f.fr,σ.fresh d)→i6 P G gl Γ ops zs K KP n (i+1) cs' (σ.app f) (f::fs)=some r→
   (∃gs σ',me P gl ops i gs σ σ'∧gs.length=n+1∧(∀(k:Nat)(f:aS)(o:Oper),gs[k]? =some f→ops[i+k]? =some o→f.dst=o.dst)∧K (gs.reverse++fs) σ'=some r)∨
   ∃gs f σ',me P gl ops i gs σ σ'∧gs.length<n+1∧wS P gl ops (i+gs.length) f σ'∧KP (gs.reverse++fs) f σ'=some r:=by
   intro f cs' h1 h2 h3
   rcases lu T hΓ h3 with⟨gs,σ',k1,k2,kd,k3⟩|⟨gs,f',σ',k1,k2,kp,k3⟩
   ·refine Or.inl ⟨f::gs,σ',⟨h1.1,h2,k1⟩,by simp[k2],?_,by simpa using k3⟩
    intro k f' o hf ho
    cases k with
    |zero=>simp at hf;subst hf;exact h1.2 o ho
    |succ k=>exact kd k f' o (by simpa using hf) (by rw[←ho];congr 1;omega)
   ·exact Or.inr ⟨f::gs,f',σ',⟨h1.1,h2,k1⟩,by simp;omega,by rw[List.length_cons,show i+(gs.length+1)=i+1+gs.length from by omega];exact kp,by simpa using k3⟩
  split at h
  ·rename_i hcg
   simp only[Bool.and_eq_true] at hcg
   split at h
   ·rename_i ch cs'
    obtain⟨cr,h,hps,hks,hob⟩:=Cp hΓ h
    split at h
    ·rename_i aau
     obtain⟨f,h1,h2,h3⟩:=pW T aau (fun _=>by rw[hps,CH.Ip hps hks];exact hob) h
     exact fin h1 h2 h3
    ·rename_i aau
     unfold Lq at h
     split at h
     ·rename_i f vcs ob hs
      obtain⟨hf,h⟩:=bG h
      obtain⟨o,ho,hgd,hcl⟩:=vW hcg.1 hcg.2
      exact Or.inr ⟨[],f,σ,rfl,by simp,yJ T aau ho hgd hcl hs (kC hs (fun _=>by rw[hps,CH.Ip hps hks];exact hob)) (by simpa using hf),by simpa using h⟩
     ·cases h
   ·cases h
  ·rename_i hc
   split at h
   ·rename_i f hf
    exact Or.inr ⟨[],f,σ,rfl,by simp,Cs hf,by simpa using h⟩
   ·cases ho:qK ops i with
    |
     false=>
     rw[ho] at h
     obtain⟨f,h1,h2,h3⟩:=pW T rfl (fun e=>by rw[ho] at e;cases e) h
     exact fin h1 h2 h3
    |
     true=>
     rw[ho] at h hc
     have hg:mW ops σ i=false:=by simpa using hc
     unfold vU at h
     split at h
     ·rename_i f vcs ob hs
      obtain⟨hf,h⟩:=bG h
      obtain⟨hv,h⟩:=dW h
      refine fin ⟨kL T rfl hs hv (by rw[EK hs hg];intro p hp;cases hp),fun o ho=>pU hs ho⟩ ?_ (vV hs h)
      intro d hd
      simp only[List.all_eq_true] at hf
      exact St.cY (hf d hd)
     ·cases h
section
variable(P:Program) (G:bH) (gl:Ctx)
def kD(ops:Array Oper)(draw:Bool)(z p:Nat)(masks:List Nat){R:Type}(K:List aS→Option R):Nat→Nat→St→List aS→Option R
 |0,_,_,gs=>K gs.reverse
 |
  n+1,j,σ,gs=>if !draw||(masks.getD j 0).testBit p then kD ops draw z p masks K n (j+1) σ (AQ z::gs)
  else if qK ops j then none else match dt P G gl ops Nk [] σ j with
   |some (f,vcs,_)=>if f.fr.isEmpty&&G5 z [f] then ifs vcs (kD ops draw z p masks K n (j+1) (σ.app f) (f::gs)) else none
   |none=>none
end
theorem lv{P:Program}{G:bH}(T:aY P G){gl:Ctx}{ops:Array Oper}{draw:Bool}{z p:Nat}{masks:List Nat}{R:Type}{K:List aS→Option R}{r:R}:∀{n j:Nat}{σ:St}{gs:List aS},kD P G gl ops draw z p masks K n j σ gs=some r→
 ∃ms σ',(σ.hp[z]? =some (some yV)→bS (yW P gl ops z) j ms σ σ')∧ms.length=n∧G5 z ms=true∧K (gs.reverse++ms)=some r
 |0,j,σ,gs,h=>⟨[],σ,fun _=>rfl,rfl,rfl,by simpa[kD] using h⟩
 |
  n+1,j,σ,gs,h=>by
  unfold kD at h
  split at h
  ·obtain⟨ms,σ',h1,h2,h3,h4⟩:=lv T h
   refine⟨AQ z::ms,σ',fun hz=>⟨Or.inr ⟨rfl,hz⟩,(fun d hd=>by cases hd),h1 hz⟩,by simp[h2],by simp only[G5,List.all_cons,Bool.and_eq_true] at h3 ⊢;exact⟨rfl,h3⟩,by simpa using h4⟩
  ·split at h
   ·cases h
   ·rename_i ho
    split at h
    ·rename_i f vcs ob hs
     obtain⟨hf,h⟩:=bG h
     obtain⟨hv,h⟩:=dW h
     simp only[Bool.and_eq_true,List.isEmpty_iff] at hf
     obtain⟨ms,σ',h1,h2,h3,h4⟩:=lv T h
     have hob:=kC (cr:=Nk) hs (fun e=>absurd e ho)
     have hnz:G5 z (f::ms)=true:=by
      have:=hf.2
      simp only[G5,List.all_cons,List.all_nil,Bool.and_true,Bool.and_eq_true] at this h3 ⊢
      exact⟨this,h3⟩
     refine⟨f::ms,σ',fun hz=>⟨Or.inl (kL T rfl hs hv hob),(fun d hd=>by rw[hf.1] at hd;cases hd),h1 ?_⟩,by simp[h2],hnz,by simpa using h4⟩
     have hq:bS (fun _ _ _=>True) j [f] σ (σ.app f):=⟨trivial,(fun d hd=>by rw[hf.1] at hd;cases hd),rfl⟩
     exact bS.at hq hf.2 hz
    ·cases h
def Nl{α:Type}:List (Nat×α)→Nat→Option α
 |[],_=>none
 |(i,x)::l,j=>if Nat.beq i j then some x else Nl l j
def mX:Code→Option Nat
 | .region id _ _=>some id
 |
  .seq a b=>match mX a with
  |some i=>some i
  |none=>mX b
 |
  .cond _ a b=>match mX a with
  |some i=>some i
  |none=>mX b
 | .block _ c| .loop c| .scope c=>mX c
 |_=>none
def EL{α:Type}(l:List (Nat×α))(c:Code):Option α:=
 match mX c with
 |some i=>Nl l i
 |none=>none
def aH{U R:Type}(F:(U→Option R)→U→Option R)(n:Nat):U→Option R:=
 @Nat.rec (fun _=>U→Option R) (fun _=>none) (fun _ ih=>F ih) n
def aE{U R:Type}(x:Option (cz U R))(f:U→Option R):Option R:=
 Option.bind x fun o=>match o with
  | .brk d=>f d
  | .ret r=>some r
def bP{U R:Type}(x:Option R):Option (cz U R):=x.map .ret
theorem xD{U R:Type}{x:Option (cz U R)}{f:U→Option R}{r:R}(h:aE x f=some r):(∃d,x=some (.brk d)∧f d=some r)∨x=some (.ret r):=by
 obtain⟨o,ho,h⟩:=bind_some h
 cases o with
 |brk d=>exact Or.inl ⟨d,ho,h⟩
 |ret r'=>cases h;exact Or.inr ho
def EM(ops:Array Oper):Bool:=ops.toList.any fun o=>match o.op with
 | .defer _=>true
 |_=>false
def pX{R:Type}(F:YC→Option R):Option R:=
 @dite _ (∃r,∀y,F y=some r) (Classical.propDecidable _) (fun h=>some h.choose) fun _=>none
theorem Bu{R:Type}{F:YC→Option R}{r:R}(h:pX F=some r)(y:YC):F y=some r:=by
 unfold pX at h
 split at h
 ·rename_i hx
  cases h
  exact hx.choose_spec y
 ·cases h
def Ca{R:Type}(a b:YC)(x:Option R):Option R:=@ite _ (a=b) (Classical.propDecidable _) x none
structure IC where
 A:List Sh
 B:List (Nat×dS)
 m:Nat
 k0:Nat
 R:List (Nat×dS)
 K4:Nat→(prod (oE A (fE B []))→Option (eU (Bool::YC::Nat::fE R [])))→aT
def IC.T(C:IC):List Type:=Bool::YC::Nat::fE C.R []
def IC.Y(C:IC)(l:Nat)(f:prod (oE C.A (fE C.B []))→Option (eU C.T)):aT:=
 ⟨.yield l,C.A,C.B,C.m,⟨1,C.m,[(0,.val .bool)],(C.k0,.lp)::C.R,[]⟩,fun r=>.val .bool (mT C.T r).1,fun r=>(C.k0,.lp (mT C.T r).2.1 (mT C.T r).2.2.1)::lg y0 C.R (mT C.T r).2.2.2,.bx f⟩
def IC.holds(P:Program)(gl:Ctx)(C:IC):Prop:=∀B hB l f,(C.Y l f).holds P (gl.wB B hB)→(C.K4 l f).holds P (gl.wB B hB)
def rM:Option aI→Bool
 |some (.tv _ _ _)=>true
 |_=>false
def rN:List (Option aI)→Bool
 |[]=>true
 |x::l=> !rM x&&rN l
theorem zP:∀{l:List (Option aI)},rN l=true→∀(i g:Nat)(t:Ty)(v:AV),l[i]? ≠some (some (.tv g t v))
 |[],_,i,g,t,v=>by simp
 |
  x::l,h,i,g,t,v=>by
  simp only[rN,Bool.and_eq_true] at h
  cases i with
  |zero=>intro e;simp at e;subst e;exact absurd h.1 (by simp[rM])
  |succ i=>simpa using zP h.2 i g t v
def Ct(y:YC)(ti:List (Nat×Ty))(k0:Nat):Nat→List (Option aI)→Option (List VC×List (Option aI))
 |_,[]=>some ([],[])
 |
  i,x::l=>match Ct y ti k0 (i+1) l with
  |none=>none
  |
   some (vs,H)=>if Nat.beq i k0 then(match x with
    |some (.lp y' j)=>some (⟨y'=y,Classical.propDecidable _⟩::vc (j=0)::vs,none::H)
    |_=>none)
   else match x with
    |none=>some (vs,none::H)
    |some (.tv g t v)=>if jO i ti then some (vc (g=y.gs i)::vs,some (.var t v)::H) else none
    |some (.var t v)=>if jO i ti then none else some (vs,some (.var t v)::H)
    |some k=>some (vs,some k::H)
theorem oM{y:YC}{ti:List (Nat×Ty)}{k0:Nat}:∀{X:List (Option aI)}{s:Nat}{vs:List VC}{H:List (Option aI)},Ct y ti k0 s X=some (vs,H)→cX vs→
 H.length=X.length∧(∀i,s+i=k0→i<X.length→X[i]? =some (some (.lp y 0))∧H[i]? =some none)∧(∀i,s+i≠k0→X[i]? =(tie y.gs ti s H)[i]?)∧rN H=true
 |[],s,vs,H,h,_=>by cases h;exact⟨rfl,fun i _ hi=>by simp at hi,fun i _=>rfl,rfl⟩
 |
  x::l,s,vs,H,h,hv=>by
  unfold Ct at h
  split at h
  ·cases h
  ·rename_i vs' H' hr
   have step:∀{k:Option aI}{k':Option aI},cX vs'→Nat.beq s k0=false→x=k→(∀L,(tie y.gs ti s (k'::L))=k::tie y.gs ti (s+1) L)→rM k'=false→(k'::H').length=(x::l).length∧(∀i,s+i=k0→i<(x::l).length→(x::l)[i]? =some (some (.lp y 0))∧(k'::H')[i]? =some none)∧(∀i,s+i≠k0→(x::l)[i]? =(tie y.gs ti s (k'::H'))[i]?)∧rN (k'::H')=true:=by
    intro k k' hv' hb hx ht hnt
    obtain⟨h1,h2,h3,h4⟩:=oM hr hv'
    have hne:s≠k0:=fun e=>by rw[e,Nat.beq_refl] at hb;cases hb
    refine⟨by simp[h1],?_,?_,by simp[rN,hnt,h4]⟩
    ·intro i hi hl
     cases i with
     |zero=>exact absurd hi hne
     |succ i=>exact h2 i (by omega) (by simpa using hl)
    ·intro i hi
     rw[ht,hx]
     cases i with
     |zero=>rfl
     |succ i=>simpa using h3 i (by omega)
   split at h
   ·rename_i hb
    have hs:=Nat.eq_of_beq_eq_true hb
    subst hs
    split at h
    ·rename_i y' j
     cases h
     obtain⟨e1,e2,hv'⟩:=hv
     have e1:y'=y:=e1
     have e2:j=0:=e2
     subst e1;subst e2
     obtain⟨h1,h2,h3,h4⟩:=oM hr hv'
     refine⟨by simp[h1],?_,?_,by simp[rN,rM,h4]⟩
     ·intro i hi _
      have:i=0:=by omega
      subst this
      exact⟨rfl,rfl⟩
     ·intro i hi
      cases i with
      |zero=>exact absurd rfl hi
      |succ i=>simpa[tie] using h3 i (by omega)
    ·cases h
   ·rename_i hb
    have hb:Nat.beq s k0=false:=by cases hq:Nat.beq s k0 with|false=>rfl|true=>exact absurd hq hb
    split at h
    ·cases h;exact step hv hb rfl (fun L=>rfl) rfl
    ·rename_i g t v
     obtain⟨ht,h⟩:=bG h
     cases h
     obtain⟨e1,hv'⟩:=hv
     have e1:g=y.gs s:=e1
     subst e1
     exact step hv' hb rfl (fun L=>by simp[tie,kq,ht]) rfl
    ·rename_i t v
     split at h
     ·cases h
     ·rename_i ht
      cases h;exact step hv hb rfl (fun L=>by simp[tie,kq,ht]) rfl
    ·rename_i k n1 n2
     cases h
     refine step hv hb rfl (fun L=>?_) ?_
     ·cases k with
      |var t v=>exact absurd rfl (n2 t v)
      |_=>rfl
     ·cases k with
      |tv g t v=>exact absurd rfl (n1 g t v)
      |_=>rfl
def sd(p:Code→Bool):List Code→Nat→Option Nat
 |[],_=>none
 |c::l,n=>if p c then some n else sd p l (n+1)
def Iq:Code→Bool
 | .ret=>true
 |_=>false
def Cu(i:Nat):Code→Bool
 | .exit j=>Nat.beq i j
 |_=>false
def EN(jl:List Code):eo→Option Nat
 | .normal=>some 0
 | .ret=>sd Iq jl 1
 | .exit i=>sd (Cu i) jl 1
 | .panic _=>none
theorem vX{p:Code→Bool}:∀{l:List Code}{n j:Nat},sd p l n=some j→n≤j∧∃c,l[j -n]? =some c∧p c=true
 |[],_,_,h=>by cases h
 |
  c::l,n,j,h=>by
  unfold sd at h
  split at h
  ·rename_i hp;cases h;exact⟨Nat.le_refl _,c,by simp,hp⟩
  ·obtain⟨h1,c',h2,h3⟩:=vX h
   refine⟨by omega,c',?_,h3⟩
   rw[show j -n=(j -(n+1))+1 by omega]
   simpa using h2
theorem sf{p:Code→Bool}{jl:List Code}{j:Nat}(h:sd p jl 1=some j):j≠0∧∃c,jmp jl j=some c∧p c=true:=by
 obtain⟨h1,c,h2,h3⟩:=vX h
 refine⟨by omega,c,?_,h3⟩
 cases j with
 |zero=>omega
 |succ j=>simpa[jmp] using h2
def I8{R:Type}(c:Code)(σ:St)(k:eo→St→Option R):Option R:=
 match c with
 | .ret=>k .ret σ
 | .exit i=>k (.exit i) σ
 |_=>none
def EO{R:Type}(σ:St)(k:eo→St→Option R)(j:Nat):List Code→Nat→Option R
 |[],_=>none
 |c::l,n=>if j=n then I8 c σ k else EO σ k j l (n+1)
def I9{R:Type}(jl:List Code)(j:Nat)(σ:St)(k:eo→St→Option R):Option R:=if j=0 then k .normal σ else EO σ k j jl 1
theorem zQ{R:Type}{σ:St}{k:eo→St→Option R}{j:Nat}{r:R}:∀{l:List Code}{n:Nat},EO σ k j l n=some r→n≤j∧∃c,l[j -n]? =some c∧I8 c σ k=some r
 |[],_,h=>by cases h
 |
  c::l,n,h=>by
  unfold EO at h
  split at h
  ·rename_i hp;subst hp;exact⟨Nat.le_refl _,c,by simp,h⟩
  ·obtain⟨h1,c',h2,h3⟩:=zQ h
   refine⟨by omega,c',?_,h3⟩
   rw[show j -n=(j -(n+1))+1 by omega]
   simpa using h2
theorem EP{P:Program}{gl:Ctx}{R:Type}{jl:List Code}{j:Nat}{σ:St}{k:eo→St→Option R}{r:R}(h:I9 jl j σ k=some r):match jmp jl j with
 |none=>k .normal σ=some r
 |some c=>cw P gl c σ (fun e σ'=>k e σ'=some r):=by
 unfold I9 at h
 split at h
 ·rename_i hj;subst hj;exact h
 ·obtain⟨h1,c,h2,h3⟩:=zQ h
  have hj:jmp jl j=some c:=by
   cases j with
   |zero=>omega
   |succ j=>simpa[jmp] using h2
  rw[hj]
  simp only
  unfold I8 at h3
  split at h3
  ·exact cw.ret h3
  ·exact cw.exit h3
  ·cases h3
def Cv(y:YC)(rh:EG)(C:IC):eo→St→Option (eU (Nat::fE C.R [])):=fun e σ=>
 match EN rh.jl e,rh.E.pv σ with
 |
  some j,some u=>if rN (rh.E.st y0 u).hp&&Nat.ble C.m (rh.E.st y0 u).hp.length then(match LY C.R (l:=[]) (tie y.gs rh.ti 0 (rh.E.st y0 u).hp) () with
  |some e=>some (IF (Nat::fE C.R []) (j,e))
  |none=>none) else none
 |_,_=>none
def K5(y:YC)(rh:EG)(C:IC)(ps:Array Tmp)(σ:St)(wA wB:St→(eo→St→Option (eU (Nat::fE C.R [])))→Option (eU (Nat::fE C.R []))):prod (oE C.A (fE C.B []))→Option (eU C.T):=fun d=>
 match Ct y rh.ti C.k0 0 (aL (List.replicate C.m none) (cH (lg y0 C.B (uT C.A d)))) with
 |
  some (vcs,H0)=>ifs vcs (if Nat.beq ps.size (uS y0 C.A d).length&&mI H0 rh.ti then(Option.bind (wA ⟨lh (ps.toList.zip (uS y0 C.A d)) (Cd rh.m σ.tm),H0,[]⟩ (fun e σ1=>match e with
  | .normal=>wB σ1 (Cv y rh C)
  |_=>none)) fun r=>match Ct y rh.ti C.m 0 (cJ C.m (lg y0 C.R (mT (Nat::fE C.R []) r).2)) with
  |some (vs,H1)=>ifs vs (if mI H1 rh.ti then some (IF C.T (Nat.beq (mT (Nat::fE C.R []) r).1 0,y,(mT (Nat::fE C.R []) r).1,(mT (Nat::fE C.R []) r).2)) else none)
  |none=>none) else none)
 |none=>none
def Ja(σ:St)(rh:EG)(C:IC)(cs:AV):Bool:=
 σ.dQ rh.dI&&σ.dQ rh.lI&& !Nat.beq rh.dI rh.lI&&Nat.blt C.k0 16&&Nat.blt C.k0 C.m&& !jO C.k0 rh.ti&&L9 σ.hp rh.ti rh.m&&iG (rh.m.map (·.2))&&cs.atoms&&C.R.all fun x=> !Nat.beq x.1 C.k0
def Ir(σ:St)(y:YC)(rh:EG)(cr:CR){R:Type}(k:eo→St→Option R):Option R:=
 match cr.r with
 |
  .eU .nil=>if uC cr []&&((cr.ns.map (·.2)).all (fun b=>({σ with hp:=nB y rh.m rh.dI rh.lI σ.hp,df:=.mp rh.dI::σ.df}:St).dQ b)) then(match(aL (nB y rh.m rh.dI rh.lI σ.hp) (jM (cr.al++cr.ns) cr.out (cr.ps++cr.ns)))[rh.lI]? with
  |some (some (.lp y' j))=>ifs [⟨y'=y,Classical.propDecidable _⟩] (I9 rh.jl j ⟨σ.tm,Ce ((aL (nB y rh.m rh.dI rh.lI σ.hp) (jM (cr.al++cr.ns) cr.out (cr.ps++cr.ns))).set rh.lI none),.mp rh.dI::σ.df⟩ k)
  |_=>none) else none
 |_=>none
def Jb(σ:St)(y:YC)(rh:EG)(gf:FuncId)(cs:AV)(C2:aT){R:Type}(k:eo→St→Option R):Option R:=
 match jK (swp rh.ps) (dx (nB y rh.m rh.dI rh.lI σ.hp)) (((.func (.yield y.l) .nil .nil,Ty.unit))::cs.toList.map (fun x=>(x,Ty.unit))),fZ (swp rh.ps) (dx (nB y rh.m rh.dI rh.lI σ.hp)) rh.ps with
 |
  some (L,[]),some ins=>Nj (.func gf) C2.fn (match C2.get L ins with
  |some d=>C2.f.run d (fun r=>Ir σ y rh ⟨C2.res r,rh.ps,rh.ns,C2.out r,C2.m,false,[],[]⟩ k) (fun _=>none)
  |none=>none) none
 |_,_=>none
section
variable(P:Program) (G:bH) (gl:Ctx) (fr:Bool) (H:Hs) (Γ:List aT)
def forget:List Oper→List AV→List AV
 |[],tm=>tm
 |
  o::l,tm=>forget l (match o.dst with
  |some d=>tm.set d .bot
  |none=>tm)
def Jc:List (Nat×Ty)→List Type
 |[]=>[]
 |(_,t)::l=>t.den::Jc l
def Nn:(l:List (Nat×Ty))→List AV→Option (prod (Jc l))
 |[],_=>some ()
 |
  (i,t)::l,tm=>match tm[i]? with
  |
   some (.val u x)=>if h:Ty.same u t=true then(match Nn l tm with
   |some d=>some (qO h x,d)
   |none=>none) else none
  |_=>none
def No:(l:List (Nat×Ty))→prod (Jc l)→List (Nat×AV)
 |[],_=>[]
 |(i,t)::l,d=>(i,.val t d.1)::No l d.2
def Jd(ops:Array Oper)(l:List (Nat×Ty))(σ:St)(t:eU (Jc l)):St:={σ with tm:=ko (No l (mT (Jc l) t)) (forget ops.toList σ.tm)}
def ER{R:Type}(ops:Array Oper)(draw:Bool)(σ:St)(k:St→Option R)(fs:List aS)(σ':St):Option R:=
 if draw then(if jD ops fs.reverse&&fO σ fs.reverse then k σ' else none) else k σ'
def Bv(fs:List aS):Bool:=fs.all fun f=>f.hw.isEmpty
def Cw{R:Type}(ops:Array Oper)(draw:Bool)(σ:St)(k:eo→St→Option R)(fs:List aS)(f:aS)(σp:St):Option R:=
 if Nat.blt (σ.hp.length -1) σ.hp.length&&f.v.plain then
  kD P G gl ops draw (σ.hp.length -1) fs.length (if draw then nv ops.toList [] else[]) (fun gs=>
   if draw then(if jD ops (gX fs.reverse f (σ.hp.length -1) gs)&&fO σ (gX fs.reverse f (σ.hp.length -1) gs) then k (.panic f.v) (qT fs.reverse f (σ.hp.length -1) gs σ) else none)
   else k (.panic f.v) (qT fs.reverse f (σ.hp.length -1) gs σ)) (ops.size -fs.length -1) (fs.length+1) (σp.app (qS f (σ.hp.length -1))) [] else none
def xE(ops:Array Oper)(draw:Bool)(σ:St):Option St:=
 match draw,ops with
 |
  false,⟨[o0,o1]⟩=>if jj o0.op then none else match dt P G gl ops Nk [] σ 0 with
  |
   some (f,[],_)=>match f.fr.all σ.dQ,o1.op,o1.guard,o1.dst with
   |
    true,.defer {callee:=.value x,args:=⟨[]⟩,argTypes:=⟨[]⟩},none,none=>match bw gl (σ.app f).tm x with
    | .func fn .nil cs=>some {σ.app f with df:=.func fn .nil cs::(σ.app f).df}
    |_=>none
   |_,_,_,_=>none
  |_=>none
 |_,_=>none
def xF(ops:Array Oper):Option (Nat×Nat×Nat):=
 match ops with
 |
  ⟨[o0,o1]⟩=>match o0.op,o0.guard,o0.dst,o1.op,o1.guard,o1.dst with
  | .next (.tmp s) false,none,some d,.extract (.tmp d') 0,none,some d1=>if Nat.beq d' d then some (s,d,d1) else none
  |_,_,_,_,_,_=>none
 |_=>none
def Cy(s d d1:Nat){R:Type}(σ:St)(k:eo→St→Option R):Option R:=
 match σ.tm[s]? with
 |
  some (.ptr b [])=>match dx σ.hp b with
  |
   some (.jL kt vt rest _)=>if Nat.blt d σ.tm.length then(if rest.isEmpty=true then k .normal ((σ.put (some d) .bot).put (some d1) (.val .bool false))
   else BR rest fun x l=>k .normal ((({σ with hp:=σ.hp.set b (some (.jL kt vt l (some x)))}:St).put (some d) .bot).put (some d1) (.val .bool true))) else none
  |_=>none
 |_=>none
def lW(ops:Array Oper)(draw:Bool)(zs:List (Nat×Nat×Ty))(cs:List CH)(mg:Option (List (Nat×Ty))){R:Type}(σ:St)(k:eo→St→Option R):Option R:=
 if EM ops then(if fr then(match xE P G gl ops draw σ with
  |some σ'=>k .normal σ'
  |none=>none) else none) else
 match if draw then none else xF ops with
 |some (s,d,d1)=>Cy s d d1 σ k
 |none=>match mg with
 |none=>i6 P G gl Γ ops zs (ER ops draw σ (k .normal)) (Cw P G gl ops draw σ k) ops.size 0 cs σ []
 |some l=>Option.bind (i6 P G gl Γ ops zs (fun fs σ'=>if Bv fs then ER ops draw σ (fun σ'=>(Nn l σ'.tm).map (IF (Jc l))) fs σ' else none) (fun _ _ _=>none) ops.size 0 cs σ []) fun d=>k .normal (Jd ops l σ d)
def Cz{R:Type}:List (Nat×Nat)→St→(St→Option R)→Option R
 |[],σ,K=>K σ
 |
  (b,s)::l,σ,K=>match σ.tm[s]?,dx σ.hp b with
  |
   some (.val (.int _) n),some (.row _ _ _ xs)=>ifs [vc (0≤n),vc (n<xs.length)] (match sD b n.toNat σ with
   |some σ'=>Cz l σ' K
   |none=>none)
  |
   some (.ptr c [.idx i]),some (.row _ _ _ _)=>if Nat.beq c b then(match sD b i σ with
   |some σ'=>Cz l {σ' with tm:=σ'.tm.set s (.ptr b [.bZ 1])} K
   |none=>none) else none
  |_,_=>none
def Is{R:Type}:List PF→St→(St→Option R)→Option R
 |[],σ,K=>K σ
 |
  .row b d k::l,σ,K=>match k.get σ,dx σ.hp b with
  |
   some (.val (.int _) n),some (.cm _ _ _ xs _ _)=>ifs [vc (0≤n),vc (n<xs.length)] (match DH b n.toNat d σ with
   |some σ'=>Is l σ' K
   |none=>none)
  |_,_=>none
 |
  .map mode b d k::l,σ,K=>match k.get σ with
  |
   some (.val t x)=>match DK mode b d t x σ with
   |some (vcs,σ')=>ifs vcs (Is l σ' K)
   |none=>none
  |_=>none
 |
  .dH b::l,σ,K=>match lL b σ with
  |some σ'=>Is l σ' K
  |none=>none
def It{R:Type}(l:List Gh)(k:eo→St→Option R):eo→St→Option R
 |
  .normal,σ=>match K8 l σ with
  |some σ'=>k .normal σ'
  |none=>none
 |e,σ=>k e σ
def tc(id:Nat)(ops:Array Oper)(draw:Bool){R:Type}(σ:St)(k:eo→St→Option R):Option R:=
 match Nl H.Ws id with
 |none=>lW P G gl fr Γ ops draw [] [] none σ k
 |
  some rh=>match K8 rh.pre σ with
  |some σ0=>Cz rh.Wr σ0 fun σ0=>Is rh.pf σ0 fun σ0=>lW P G gl fr Γ ops draw rh.zs rh.cs rh.mg σ0 (It rh.post k)
  |none=>none
def Wu{R:Type}(S:SS)(k:eo→St→Option R):eo→St→Option (cz S.T R)
 | .normal,σ=>(S.pv σ).map .brk
 |e,σ=>bP (k e σ)
def Vx{R:Type}(id:Nat)(S:SS)(k:eo→St→Option R):eo→St→Option (cz S.T R)
 | .normal,σ=>(S.pv σ).map .brk
 | .exit i,σ=>if Nat.beq i id then(S.pv σ).map .brk else bP (k (.exit i) σ)
 |e,σ=>bP (k e σ)
def Vy{R:Type}(id:Nat)(k:eo→St→Option R):eo→St→Option R
 | .exit i,σ=>if Nat.beq i id then k .normal σ else k (.exit i) σ
 |e,σ=>k e σ
def zR{R:Type}(w:St→(eo→St→Option R)→Option R)(k:eo→St→Option R):Nat→St→Option R
 |0,_=>none
 |
  n+1,σ=>w σ fun e σ'=>match e with
  | .normal=>zR w k n σ'
  |e=>k e σ'
end
section
variable(P:Program) (G:bH) (I:List IC) (H:Hs) (Γ:List aT)
def walk:Code→Ctx→Bool→{R:Type}→St→(eo→St→Option R)→Option R
 | .skip,_,_,_,σ,k=>k .normal σ
 | .label _,_,_,_,σ,k=>k .normal σ
 | .scope c,gl,fr,_,σ,k=>walk c gl fr σ k
 | .exit i,_,_,_,σ,k=>k (.exit i) σ
 | .ret,_,_,_,σ,k=>k .ret σ
 | .region id ops draw,gl,fr,_,σ,k=>tc P G gl fr H Γ id ops draw σ k
 |
  .seq x z,gl,fr,_,σ,k=>match EL H.join z with
  |
   none=>walk x gl fr σ fun e σ'=>match e with
   | .normal=>walk z gl fr σ' k
   |e=>k e σ'
  |some S=>aE (walk x gl fr σ (Wu S k)) fun d=>walk z gl fr (S.st y0 d) k
 |
  .cond c x z,gl,fr,_,σ,k=>match bw gl σ.tm c with
  | .val .bool b=>if b=true then walk x gl fr σ k else walk z gl fr σ k
  |_=>none
 |
  .block id c,gl,fr,_,σ,k=>match Nl H.cj id with
  |none=>walk c gl fr σ (Vy id k)
  |some S=>aE (walk c gl fr σ (Vx id S k)) fun d=>k .normal (S.st y0 d)
 |
  .loop c,gl,fr,_,σ,k=>match EL H.Wt c with
  |some n=>zR (fun σ k=>walk c gl fr σ k) k n σ
  |
   none=>match EL H.loop c with
   |none=>none
   |
    some L=>match L.S.pv σ with
    |none=>none
    |
     some u=>aH (fun rec u=>walk c gl fr (L.S.st y0 u) fun e σ'=>match e with
     | .normal=>Option.bind (L.S.pv σ') rec
     |e=>k e σ') (L.fuel u) u
 |
  .rangeFunc g ps assign body,gl,fr,_,σ,k=>if fr then(match EL H.xx body with
  |none=>none
  |
   some rh=>match I[rh.ic]?,rh.S.pv σ with
   |
    some C,some u=>match bw gl (rh.S.st y0 u).tm g with
    |
     .func (.func gf) .nil cs=>if Ja (rh.S.st y0 u) rh C cs then
      pX fun y=>Jb (rh.S.st y0 u) y rh gf cs (C.K4 y.l (K5 y rh C ps (rh.S.st y0 u) (fun σ1 k1=>walk assign (gl.oF y.l) false σ1 k1) (fun σ1 k1=>walk body (gl.oF y.l) false σ1 k1))) k
     else none
    |_=>none
   |_,_=>none) else none
 |_,_,_,_,_,_=>none
end
theorem pY:∀{l:List Oper}{tm:List AV},(forget l tm).length=tm.length
 |[],_=>rfl
 |
  o::l,tm=>by
  unfold forget
  rw[pY]
  split<;>simp
theorem pZ{i:Nat}{x:AV}:∀{l:List Oper}{tm:List AV},(forget l tm)[i]? =some x→x= .bot∨(tm[i]? =some x∧∀o∈l,o.dst≠some i)
 |[],_,h=>Or.inr ⟨h,fun _ ho=>by cases ho⟩
 |
  o::l,tm,h=>by
  unfold forget at h
  rcases pZ h with h|⟨h,hl⟩
  ·exact Or.inl h
  ·split at h
   ·rename_i d hd
    rw[List.getElem?_set] at h
    split at h
    ·split at h
     ·cases h;exact Or.inl rfl
     ·cases h
    ·rename_i hne
     refine Or.inr ⟨h,?_⟩
     intro o' ho
     rcases List.mem_cons.1 ho with rfl|ho
     ·rw[hd];intro e;cases e;exact hne rfl
     ·exact hl o' ho
   ·rename_i hd
    refine Or.inr ⟨h,?_⟩
    intro o' ho
    rcases List.mem_cons.1 ho with rfl|ho
    ·rw[hd];exact fun e=>by cases e
    ·exact hl o' ho
theorem CA:∀{l:List (Nat×Ty)}{tm:List AV}{d:prod (Jc l)},Nn l tm=some d→∀i x,(i,x)∈No l d→tm[i]? =some x
 |[],_,_,_,i,x,hx=>by cases hx
 |
  (j,t)::l,tm,d,h,i,x,hx=>by
  unfold Nn at h
  split at h
  ·rename_i u z hz
   split at h
   ·rename_i hs
    split at h
    ·rename_i d' hd'
     cases h
     simp only[No,List.mem_cons,Prod.mk.injEq] at hx
     rcases hx with⟨rfl,rfl⟩|hx
     ·rw[hz,sI hs]
     ·exact CA hd' i x hx
    ·cases h
   ·cases h
  ·cases h
theorem vY{P:Program}{gl:Ctx}{ops:Array Oper}:∀{fs:List aS}{i:Nat}{σ σ':St},me P gl ops i fs σ σ'→Bv fs=true→(∀(k:Nat)(f:aS)(o:Oper),fs[k]? =some f→ops[i+k]? =some o→f.dst=o.dst)→i+fs.length≤ops.size→
 σ'.hp=σ.hp∧σ'.df=σ.df∧σ'.tm.length=σ.tm.length∧∀t,(∀o∈ops.toList,o.dst≠some t)→σ'.tm[t]? =σ.tm[t]?
 |[],i,σ,σ',h,_,_,_=>by simp only[bS] at h;subst h;exact⟨rfl,rfl,rfl,fun _ _=>rfl⟩
 |
  f::fs,i,σ,σ',⟨_,_,h3⟩,hn,hd,hl=>by
  simp only[Bv,List.all_cons,Bool.and_eq_true,List.isEmpty_iff] at hn
  obtain⟨a,b,c,d⟩:=vY h3 (by simpa[Bv] using hn.2) (fun k f' o h1 h2=>hd (k+1) f' o (by simpa using h1) (by rw[←h2];congr 1;omega)) (by simp at hl;omega)
  refine⟨by rw[a,eE,hn.1];rfl,by rw[b,qm],by rw[c,nr],?_⟩
  intro t ht
  rw[d t ht]
  have hlt:i<ops.size:=by simp at hl;omega
  have:=hd 0 f ops[i] rfl (by simp[hlt])
  exact fk (by rw[this];exact ht _ (by simp))
theorem map_some{α β:Type}{x:Option α}{f:α→β}{r:β}(h:x.map f=some r):∃a,x=some a∧f a=r:=by
 cases x with
 |none=>cases h
 |some a=>exact⟨a,rfl,Option.some.inj h⟩
theorem cw.Lr{P:Program}{gl:Ctx}{c:Code}{σ:St}{Q:eo→St→Prop}(h:cw P gl c σ (fun e σ'=>match e with| .panic v=>Q (.panic v) σ'|e=>∃σ2,Wk gl σ' σ2∧Q e σ2)):cw P gl c σ Q:=by
 intro E a w hg
 refine wpIn_mono (h E a w hg) ?_
 rintro ex a' w' ⟨x,σ',E',h1,h2,h3,h4⟩
 cases x with
 |panic v=>exact⟨_,σ',E',h1,h2,h3,h4⟩
 |
  normal=>
  obtain⟨σ2,hw,hq⟩:=h2
  obtain⟨E2,g2,x2⟩:=hw E' a' w' h3
  cases ex<;>first|exact h1.elim|exact⟨.normal,σ2,E2,trivial,hq,g2,h4.trans x2⟩
 |
  exit i=>
  obtain⟨σ2,hw,hq⟩:=h2
  obtain⟨E2,g2,x2⟩:=hw E' a' w' h3
  cases ex<;>first|exact h1.elim|exact⟨.exit i,σ2,E2,h1,hq,g2,h4.trans x2⟩
 |
  ret=>
  obtain⟨σ2,hw,hq⟩:=h2
  obtain⟨E2,g2,x2⟩:=hw E' a' w' h3
  cases ex<;>first|exact h1.elim|exact⟨.ret,σ2,E2,trivial,hq,g2,h4.trans x2⟩
section
variable{P:Program} {G:bH} (T:aY P G) {gl:Ctx} {fr:Bool} {H:Hs} {Γ:List aT} (hΓ:∀C∈Γ,C.holds P gl)
include T hΓ
omit hΓ T in
theorem zS{ops:Array Oper}{draw:Bool}{R:Type}{σ σ':St}{k:St→Option R}{fs:List aS}{r:R}(h:ER ops draw σ k fs σ'=some r):(draw=true→(jD ops fs.reverse&&fO σ fs.reverse)=true)∧k σ'=some r:=by
 unfold ER at h
 cases draw with
 |false=>exact⟨fun e=>(Bool.false_ne_true e).elim,h⟩
 |
  true=>
  rw[if_pos rfl] at h
  obtain⟨h1,h2⟩:=bG h
  exact⟨fun _=>h1,h2⟩
omit hΓ in
theorem Bw{id:Nat}{ops:Array Oper}{draw:Bool}{σ σ':St}{Q:eo→St→Prop}(hro:gl.ro=none)(h:xE P G gl ops draw σ=some σ')(hq:Q .normal σ'):cw P gl (.region id ops draw) σ Q:=by
 unfold xE at h
 split at h
 ·rename_i o0 o1
  split at h
  ·cases h
  rename_i hcl
  split at h
  ·rename_i f ob h0
   split at h
   ·rename_i x hfr ho hg hd
    split at h
    ·rename_i fn cs hv
     cases h
     intro E a w hgm
     refine wpIn_region ?_
     show wpOpsIn _ _ _ _ _ [0,1] _ _
     rw[wpOpsIn_cons]
     have hob:∀p∈ob,p:=kC h0 (fun e=>absurd e (by simpa[qK] using hcl))
     refine kL T rfl h0 trivial hob σ (gR.refl _ _ _) (fun d hd=>St.cY ((List.all_eq_true.1 hfr) d hd)) E a w hgm _ _ ?_
     intro E1 a1 w1 hg1 hx1
     rw[wpOpsIn_cons]
     have e1:(#[o0,o1]:Array Oper)[1]? =some o1:=rfl
     unfold wpOpIn
     simp only[e1]
     have hw:Region.wanted o1 (yielded #[o0,o1] a1.tmps)=true:=by simp[Region.wanted,hg]
     rw[if_pos hw]
     have hv1:=eI hg1 x
     rw[hv] at hv1
     obtain⟨f',c',ev,r1,r2,r3,r4⟩:∃f' c',a1.eval x= .func fn f' c'∧RC E1 w1 .nil f'.toList∧RC E1 w1 cs c'.toList∧AV.nil.atoms=true∧cs.atoms=true:=by
      rcases RV.gF rfl hv1 with⟨hh,_⟩|⟨_,hh⟩
      ·cases hh
      ·obtain⟨f',c',e,q⟩:=hh
       exact⟨f',c',(List.cons.inj e).1,q⟩
     have hf':f'= #[]:=by apply Array.ext';simpa[RC] using r1
     subst hf'
     refine⟨fun _ _=>trivial,?_⟩
     have hs:(o1.semAt (Wd gl).round a1.eval).run P w1= .ok (.defer {target:=.fn fn c',args:= #[]}) w1:=by
      rw[show(Wd gl).round=none from hro,Oper.semAt_none]
      simp[execOp,ho,resolve,ev,Deferred.ofValue]
     rw[hs,Oper.uponIn_defer,hd]
     have hg2:bO gl {σ.app f with df:=.func fn .nil cs::(σ.app f).df} E1 {a1 with defers:={target:=.fn fn c',args:= #[]}::a1.defers} w1:=
      ⟨hg1.len,hg1.tm,hg1.hw,⟨⟨#[],c',rfl,r1,r2,r3,r4⟩,hg1.df⟩⟩
     exact⟨.normal,_,E1,trivial,hq,hg2,hx1⟩
    ·cases h
   ·cases h
  ·cases h
 ·cases h
omit T hΓ in
theorem CB{id:Nat}{ops:Array Oper}{s d d1:Nat}(hn:xF ops=some (s,d,d1)){R:Type}{σ:St}{k:eo→St→Option R}{r:R}(h:Cy s d d1 σ k=some r):cw P gl (.region id ops false) σ (fun e σ'=>k e σ'=some r):=by
 unfold xF at hn
 split at hn
 ·rename_i o0 o1
  split at hn
  ·rename_i s' d' d'' d1' h0 hg0 hd0 h1 hg1 hd1
   obtain⟨hd,hn⟩:=bG hn
   cases hn
   have hd:=Nat.eq_of_beq_eq_true hd
   subst hd
   unfold Cy at h
   split at h
   ·rename_i b hs
    split at h
    ·rename_i kt vt rest cur hb
     obtain⟨hl,h⟩:=bG h
     refine cw.next h0 hg0 hd0 h1 hg1 hd1 hs (bX _ b _ hb) hl ?_ ?_
     ·intro e
      rw[if_pos (by rw[e];rfl)] at h
      exact h
     ·intro i hi
      rw[if_neg (by cases rest with
       |nil=>simp at hi
       |cons _ _=>simp)] at h
      exact BT h i hi
    ·cases h
   ·cases h
  ·cases hn
 ·cases hn
variable(hro:fr=true→gl.ro=none)
include hro
theorem nQ{id:Nat}{ops:Array Oper}{draw:Bool}{zs:List (Nat×Nat×Ty)}{cs:List CH}{mg:Option (List (Nat×Ty))}{R:Type}{σ:St}{k:eo→St→Option R}{r:R}(h:lW P G gl fr Γ ops draw zs cs mg σ k=some r):cw P gl (.region id ops draw) σ (fun e σ'=>k e σ'=some r):=by
 have key:∀{gs:List aS}{σ':St}{Q:eo→St→Prop},me P gl ops 0 gs σ σ'→gs.length=ops.size→(draw=true→(jD ops gs&&fO σ gs)=true)→Q .normal σ'→cw P gl (.region id ops draw) σ Q:=by
  intro gs σ' Q hc hn eM hq
  cases draw with
  |false=>exact fun E _ _ hg=>ye hn hc hg (fun E' _ _ h1 h2=>⟨.normal,σ',E',trivial,hq,h1,h2⟩)
  |
   true=>
   have eM:=eM rfl
   simp only[Bool.and_eq_true] at eM
   exact fun E _ _ hg=>yg T eM.1 eM.2 hc hg (fun E' _ _ h1 h2=>⟨.normal,σ',E',trivial,hq,h1,h2⟩)
 unfold lW at h
 split at h
 ·obtain⟨hf,h⟩:=bG h
  split at h
  ·rename_i σ' hd
   exact Bw T (hro hf) hd h
  ·cases h
 split at h
 ·rename_i s d d1 hn
  cases draw with
  |true=>rw[if_pos rfl] at hn;cases hn
  |false=>rw[if_neg Bool.false_ne_true] at hn;exact CB hn h
 split at h
 ·rcases lu T hΓ h with⟨gs,σ',hc,hn,_,hk⟩|⟨gs,f,σ',hc,hn,hp,hk⟩
  ·simp only[List.append_nil] at hk
   obtain⟨h1,h2⟩:=zS hk
   simp only[List.reverse_reverse] at h1
   exact key hc hn h1 h2
  ·simp only[List.append_nil] at hk
   unfold Cw at hk
   simp only[List.reverse_reverse,List.length_reverse] at hk
   obtain⟨h1,h2⟩:=bG hk
   simp only[Bool.and_eq_true] at h1
   rw[Nat.zero_add] at hp
   have hz:σ.hp.length -1<σ.hp.length:=by have:=h1.1;simp[Nat.blt] at this;omega
   obtain⟨ms,σe,k1,k2,k3,k4⟩:=lv T h2
   simp only[List.reverse_nil,List.nil_append] at k4
   have hze:(σ'.app (qS f (σ.hp.length -1))).hp[σ.hp.length -1]? =some (some yV):=by
    rw[eE]
    simp only[qS,aL,List.getElem?_set,if_true]
    rw[if_pos (by rw[bS.hl hc];exact hz)]
   have k1:=k1 hze
   cases draw with
   |false=>exact qU T hc hp k1 k3 hz (by omega) (fun e=>(Bool.false_ne_true e).elim) h1.2 k4
   |
    true=>
    rw[if_pos rfl] at k4
    obtain⟨q3,q4⟩:=bG k4
    exact qU T hc hp k1 k3 hz (by omega) (fun _=>q3) h1.2 q4
 ·rename_i l
  obtain⟨d,hd,h⟩:=bind_some h
  rcases lu T hΓ hd with⟨gs,σ',hc,hn,hdst,hk⟩|⟨_,_,_,_,_,_,hk⟩
  case inr=>cases hk
  simp only[List.append_nil] at hk
  obtain⟨hw,hk⟩:=bG hk
  obtain⟨h1,h2⟩:=zS hk
  simp only[List.reverse_reverse] at h1
  have hw':Bv gs=true:=by simpa[Bv] using hw
  obtain⟨e1,e2,e3,e4⟩:=vY hc hw' hdst (by omega)
  obtain⟨t,ht,rfl⟩:=map_some h2
  refine cw.Lr (key hc hn h1 ⟨_,?_,h⟩)
  refine Wk.sub ?_ ?_ ?_ ?_
  ·simp only[Jd,lM,pY,e3]
  ·intro i x hx
   simp only[Jd] at hx
   rw[mH] at hx
   rcases jq hx with hx|hx
   ·exact Or.inr (CA ht i x hx)
   ·rcases pZ hx with hx|⟨hx,ho⟩
    ·exact Or.inl hx
    ·exact Or.inr (by rw[e4 i ho];exact hx)
  ·intro b k hk;rw[e1];exact hk
  ·rw[e2];rfl
omit T hΓ hro in
theorem th{R:Type}{r:R}{K:St→Option R}:∀{l:List (Nat×Nat)}{σ:St},Cz l σ K=some r→∃σ',Wk gl σ σ'∧K σ'=some r
 |[],σ,h=>⟨σ,Wk.refl gl σ,h⟩
 |
  (b,s)::l,σ,h=>by
  unfold Cz at h
  split at h
  ·rename_i k n e bs t xs hs hb
   obtain⟨hv,h⟩:=dW h
   split at h
   ·rename_i σ1 h1
    obtain⟨σ',h2,h3⟩:=th h
    refine⟨σ',Wk.trans (Wk.Su h1 ?_) h2,h3⟩
    intro e' bs' t' xs' hb'
    rw[hb] at hb'
    cases hb'
    exact(Int.toNat_lt hv.1).2 hv.2.1
   ·cases h
  ·rename_i c i e bs t xs hs hb
   obtain⟨hc,h⟩:=bG h
   have hc:=Nat.eq_of_beq_eq_true hc
   subst hc
   split at h
   ·rename_i σ1 h1
    obtain⟨σ',h2,h3⟩:=th h
    exact⟨σ',Wk.trans (Wk.Sv hs h1) h2,h3⟩
   ·cases h
  ·cases h
omit T hΓ hro in
theorem tj{R:Type}{r:R}{K:St→Option R}:∀{l:List PF}{σ:St},Is l σ K=some r→∃σ',Wk gl σ σ'∧K σ'=some r
 |[],σ,h=>⟨σ,Wk.refl gl σ,h⟩
 |
  .row b d k::l,σ,h=>by
  unfold Is at h
  split at h
  ·rename_i kk n e bs t xs e2 f hs hb
   obtain⟨hv,h⟩:=dW h
   split at h
   ·rename_i σ1 h1
    obtain⟨σ',h2,h3⟩:=tj h
    refine⟨σ',Wk.trans (Wk.DH h1 ?_) h2,h3⟩
    intro e' bs' t' xs' e2' f' hb'
    rw[hb] at hb'
    cases hb'
    exact(Int.toNat_lt hv.1).2 hv.2.1
   ·cases h
  ·cases h
 |
  .map mode b d k::l,σ,h=>by
  unfold Is at h
  split at h
  ·rename_i t x hs
   split at h
   ·rename_i vcs σ1 h1
    obtain⟨hv,h⟩:=dW h
    obtain⟨σ',h2,h3⟩:=tj h
    exact⟨σ',Wk.trans (Wk.DK h1 hv) h2,h3⟩
   ·cases h
  ·cases h
 |
  .dH b::l,σ,h=>by
  unfold Is at h
  split at h
  ·rename_i σ1 h1
   obtain⟨σ',h2,h3⟩:=tj h
   exact⟨σ',Wk.trans (Wk.lL h1) h2,h3⟩
  ·cases h
theorem xG{id:Nat}{ops:Array Oper}{draw:Bool}{R:Type}{σ:St}{k:eo→St→Option R}{r:R}(h:tc P G gl fr H Γ id ops draw σ k=some r):cw P gl (.region id ops draw) σ (fun e σ'=>k e σ'=some r):=by
 unfold tc at h
 split at h
 ·exact nQ T hΓ hro h
 ·split at h
  ·rename_i σ0 h0
   obtain⟨σ1,h1,h2⟩:=th (gl:=gl) h
   obtain⟨σ2,h3,h4⟩:=tj (gl:=gl) h2
   refine cw.post (cw.gh _ h0 (cw.wk h1 (cw.wk h3 (nQ T hΓ hro h4)))) ?_ ?_
   ·intro e σ' hne he
    cases e with
    |normal=>exact absurd rfl hne
    |_=>exact he
   ·intro σ' he
    simp only[It] at he
    split at he
    ·rename_i σ2 hg;exact⟨σ2,yP hg,he⟩
    ·cases he
  ·cases h
omit hΓ T hro in
theorem CC{c:Code}{R:Type}{w:St→(eo→St→Option R)→Option R}(ih:∀{σ:St}{k:eo→St→Option R}{r:R},w σ k=some r→cw P gl c σ (fun e σ'=>k e σ'=some r)){k:eo→St→Option R}{r:R}{n:Nat}{σ:St}
 (h:zR w k n σ=some r):cw P gl (.loop c) σ (fun e σ'=>k e σ'=some r):=by
 refine cw.loop (fun n σ=>zR w k n σ=some r) ?_ h
 intro n σ1 hn
 cases n with
 |zero=>cases hn
 |
  succ n=>
  refine cw.mono (ih hn) ?_
  intro e σ2 he
  cases e with
  |normal=>exact⟨n,Nat.lt_succ_self n,he⟩
  |_=>exact he
omit hΓ T hro in
theorem CD{c:Code}{R U:Type}{r:R}{k:eo→St→Option R}{F:(U→Option R)→U→Option R}{st:U→St}{pv:St→Option U}(hm:∀σ u,pv σ=some u→Wk gl σ (st u))
 (ih:∀{rec:U→Option R}{u:U},F rec u=some r→cw P gl c (st u) (fun e σ'=>(match e with| .normal=>Option.bind (pv σ') rec|e=>k e σ')=some r)) {n:Nat} {σ:St} {u:U} (hu:pv σ=some u)
 (h:aH F n u=some r):cw P gl (.loop c) σ (fun e σ'=>k e σ'=some r):=by
 refine cw.loop (fun n σ=>∃u,Wk gl σ (st u)∧aH F n u=some r) ?_ ⟨u,hm σ u hu,h⟩
 rintro n σ1 ⟨u1,hw,hn⟩
 cases n with
 |zero=>cases hn
 |
  succ n=>
  refine cw.wk hw (cw.mono (ih hn) ?_)
  intro e σ2 he
  cases e with
  |
   normal=>
   obtain⟨u2,h1,h2⟩:=bind_some he
   exact⟨n,Nat.lt_succ_self n,u2,hm σ2 u2 h1,h2⟩
  |_=>exact he
end
theorem Fy.up{P:Program}{C C':Ctx}{l:Nat}{A:List AV}{H H':List (Option aI)}{r:rz}(hg:C'.gl=C.gl)(hC:∀S w,C.B S w)(h:Fy P C l A H r H')(hm:C'.md=C.md):Fy P C' l A H r H':=by
 intro E w vs hv hw
 obtain⟨fn,tm,asz,bd,h1,h2⟩:=h E w vs hv (hw.ctx hg.symm (hC _ _))
 refine⟨fn,tm,asz,bd,h1,RoundIn.mono h2 ?_⟩
 rintro e w' ⟨E',r1,r2,r3⟩
 rw[←hm] at r3
 exact⟨E',r1,r2.ctx hg (hw.eD (hw.kept r3)).2,r3⟩
theorem CE.up{P:Program}{C C':Ctx}{fn:Fn}{A:List AV}{H H':List (Option aI)}{r:rz}(hg:C'.gl=C.gl)(hC:∀S w,C.B S w)(h:CE P C fn A H r H')(hm:C'.md=C.md):CE P C' fn A H r H':=by
 cases fn with
 |func f=>exact Fc.up hg hC h hm
 |yield l=>exact Fy.up hg hC h hm
 |_=>exact h.elim
theorem aT.holds.up{P:Program}{gl gl':Ctx}{C:aT}(h:C.holds P gl)(hg:gl'.gl=gl.gl)(hB:∀S w,gl.B S w)(hm:gl'.md=gl.md:=by rfl):C.holds P gl':=
 ⟨fun d r hd=>CE.up hg hB (h.ret d r hd) hm,fun d x hd=>CE.up hg hB (h.iH d x hd) hm⟩
theorem Fy.less{P:Program}{C:Ctx}{l:Nat}{A:List AV}{H H1 H2:List (Option aI)}{r:rz}(h:Fy P C l A H r H1)(hs:∀(b:Nat)(k:aI),H2[b]? =some (some k)→H1[b]? =some (some k)):Fy P C l A H r H2:=by
 intro E w vs hv hw
 obtain⟨fn,tm,asz,bd,h1,h2⟩:=h E w vs hv hw
 refine⟨fn,tm,asz,bd,h1,RoundIn.mono h2 ?_⟩
 rintro e w' ⟨E',r1,r2,r3⟩
 exact⟨E',r1,r2.less hs,{r3 with own:=fun g ⟨b,k,hb,hg⟩=>r3.own g ⟨b,k,hs b k hb,hg⟩}⟩
theorem sg:∀{l H:List (Option aI)},H.length≤l.length→(∀(b:Nat)(k:aI),H[b]? =some (some k)→l[b]? =some (some k))→∃m,prune l m=H
 |l,[],_,_=>⟨[],by cases l<;>rfl⟩
 |[],x::H,h,_=>by simp at h
 |
  y::l,x::H,h,hs=>by
  obtain⟨m,hm⟩:=sg (l:=l) (H:=H) (by simpa using h) (fun b k hb=>by simpa using hs (b+1) k (by simpa using hb))
  cases x with
  |none=>exact⟨false::m,by simp[prune,hm]⟩
  |
   some k=>
   have:y=some k:=by simpa using hs 0 k rfl
   exact⟨true::m,by simp[prune,hm,this]⟩
theorem qa{gs:Nat→Nat}{ti:List (Nat×Ty)}:∀{l:List (Option aI)}{s i:Nat},(tie gs ti s l)[i]? =some none→l[i]? =some none
 |[],s,i,h=>by simp[tie] at h
 |none::l,s,0,h=>rfl
 |some x::l,s,0,h=>by simp[tie] at h
 |none::l,s,i+1,h=>by simpa using qa (l:=l) (by simpa[tie] using h)
 |some x::l,s,i+1,h=>by simpa using qa (l:=l) (by simpa[tie] using h)
theorem CI{gs:Nat→Nat}{ti:List (Nat×Ty)}{i:Nat}{k k':aI}(h1:rM (some k)=false)(h2:rM (some k')=false)(h:kq gs ti i k=kq gs ti i k'):k=k':=by
 cases k with
 |
  var t v=>
  cases k' with
  |
   var t' v'=>
   simp only[kq] at h
   split at h
   ·cases h;rfl
   ·exact h
  |tv=>simp[rM] at h2
  |_=>simp only[kq] at h;split at h<;>cases h
 |tv=>simp[rM] at h1
 |
  _=>
  cases k' with
  |var t' v'=>simp only[kq] at h;split at h<;>cases h
  |tv=>simp[rM] at h2
  |_=>exact h
theorem zT{y:YC}:∀{m:List (Nat×dS)}{l:List Type}{d:prod (fE m l)}{b:Nat}{k:aI},(b,k)∈lg y m d→∃s,(b,s)∈m
 |[],_,_,_,_,h=>by cases h
 |
  (i,s)::m,_,d,b,k,h=>by
  simp only[lg,List.mem_cons,Prod.mk.injEq] at h
  rcases h with⟨rfl,_⟩|h
  ·exact⟨s,List.mem_cons_self ..⟩
  ·obtain⟨s',hs⟩:=zT h
   exact⟨s',List.mem_cons_of_mem _ hs⟩
theorem dJ{m:Nat}{out:List (Nat×aI)}{b:Nat}{k:aI}(h:(cJ m out)[b]? =some (some k)):(b,k)∈out:=by
 unfold cJ at h
 rcases dh h with h|⟨_,h⟩
 ·simp only[List.mem_map] at h
  obtain⟨⟨i,k'⟩,hm,e⟩:=h
  simp only[Prod.mk.injEq,Option.some.injEq] at e
  obtain⟨rfl,rfl⟩:=e
  exact hm
 ·rw[List.getElem?_replicate] at h
  split at h<;>cases h
theorem qb{m:Nat}{out:List (Nat×aI)}:(cJ m out).length=m:=by unfold cJ;rw[iN,List.length_replicate]
theorem qc{i:Nat}:∀{out:List (Nat×aI)},i∈wrote (out.map fun x=>(x.1,some x.2))→∃k,(i,k)∈out
 |[],h=>by cases h
 |
  (j,k)::out,h=>by
  simp only[List.map_cons,wrote,List.mem_cons] at h
  rcases h with rfl|h
  ·exact⟨k,List.mem_cons_self ..⟩
  ·obtain⟨k',hk⟩:=qc h
   exact⟨k',List.mem_cons_of_mem _ hk⟩
theorem Bx{m i b:Nat}{x:aI}{out:List (Nat×aI)}(hi:∀k,(i,k)∉out)(hm:i<m):(cJ m ((i,x)::out))[b]? =if b=i then some (some x) else(cJ m out)[b]? :=by
 have hw:i∉wrote (out.map fun x=>(x.1,some x.2)):=by
  intro h
  obtain⟨k,hk⟩:=qc h
  exact hi k hk
 unfold cJ
 simp only[List.map_cons,aL]
 split
 ·rename_i e
  subst e
  rw[dr hw,List.getElem?_set,if_pos rfl,if_pos (by simpa using hm)]
 ·rename_i e
  exact fD (by simp) (by rw[List.getElem?_set,if_neg (fun e'=>e e'.symm)])
theorem CJ{gl:Ctx}{y:YC}{rh:EG}{C:IC}{e:eo}{σ:St}{r:eU (Nat::fE C.R [])}(h:Cv y rh C e σ=some r):∃σE,EN rh.jl e=some (mT (Nat::fE C.R []) r).1∧Wk gl σ σE∧rN σE.hp=true∧C.m≤σE.hp.length∧
 ∀i x,(i,x)∈lg y0 C.R (mT (Nat::fE C.R []) r).2→(tie y.gs rh.ti 0 σE.hp)[i]? =some (some x):=by
 unfold Cv at h
 split at h
 ·rename_i j u hj hu
  obtain⟨hc,h⟩:=bG h
  simp only[Bool.and_eq_true] at hc
  split at h
  ·rename_i d hd
   cases h
   rw[mH]
   exact⟨_,hj,SS.fF hu,hc.1,Nat.le_of_ble_eq_true hc.2,(yS y0 hd).1⟩
  ·cases h
 ·cases h
theorem Je{P:Program}{gl Cx:Ctx}{y:YC}{rh:EG}{C:IC}{ps:Array Tmp}{assign body:Code}{σ:St}{wA wB:St→(eo→St→Option (eU (Nat::fE C.R [])))→Option (eU (Nat::fE C.R []))}
 (hA:∀σ1 k1 r1,wA σ1 k1=some r1→cw P (gl.oF y.l) assign σ1 (fun e σ'=>k1 e σ'=some r1)) (hB:∀σ1 k1 r1,wB σ1 k1=some r1→cw P (gl.oF y.l) body σ1 (fun e σ'=>k1 e σ'=some r1))
 (hk:C.k0<C.m) (hR:(C.R.all fun x=> !Nat.beq x.1 C.k0)=true) (hof:yY P gl σ.tm ps assign body C.k0 rh.ti rh.m rh.jl Cx y):(C.Y y.l (K5 y rh C ps σ wA wB)).holds P Cx:=by
 refine⟨?_,fun _ _ h=>h.elim⟩
 intro d r hd
 have hd':K5 y rh C ps σ wA wB d=some r:=hd
 unfold K5 at hd'
 split at hd'
 case h_2=>cases hd'
 rename_i vcs H0 htok
 obtain⟨hv,hd'⟩:=dW hd'
 obtain⟨hc,hd'⟩:=bG hd'
 simp only[Bool.and_eq_true] at hc
 obtain⟨r0,hw,hd'⟩:=bind_some hd'
 split at hd'
 case h_2=>cases hd'
 rename_i vs H1 htok1
 obtain⟨hv1,hd'⟩:=dW hd'
 obtain⟨hto,hd'⟩:=bG hd'
 have er:=Option.some.inj hd'
 obtain⟨t1,t2,t3,t4⟩:=oM htok hv
 obtain⟨u1,u2,u3,u4⟩:=oM htok1 hv1
 rw[qb] at u1
 have lX:(aL (List.replicate C.m none) (cH (lg y0 C.B (uT C.A d)))).length=C.m:=by rw[iN,List.length_replicate]
 rw[lX] at t1
 have hnk:∀k,(C.k0,k)∉lg y0 C.R (mT (Nat::fE C.R []) r0).2:=by
  intro k hm
  obtain⟨s,hs⟩:=zT hm
  have:=(List.all_eq_true.1 hR) _ hs
  simp at this
 have hX0:(cJ C.m (lg y0 C.R (mT (Nat::fE C.R []) r0).2))[C.k0]? =some none:=by
  cases h:(cJ C.m (lg y0 C.R (mT (Nat::fE C.R []) r0).2))[C.k0]? with
  |none=>rw[List.getElem?_eq_none_iff,qb] at h;omega
  |
   some x=>
   cases x with
   |none=>rfl
   |some k=>exact absurd (dJ h) (hnk k)
 have h10:H1[C.k0]? =some none:=by
  have:=u3 C.k0 (by omega)
  rw[hX0] at this
  exact qa this.symm
 have hX1:∀i:Nat,(cJ C.m (lg y0 C.R (mT (Nat::fE C.R []) r0).2))[i]? =(tie y.gs rh.ti 0 H1)[i]? :=by
  intro i
  by_cases hi:i=C.m
  ·subst hi
   rw[List.getElem?_eq_none_iff.2 (by rw[qb];exact Nat.le_refl _),List.getElem?_eq_none_iff.2 (by rw[js,u1];exact Nat.le_refl _)]
  ·exact u3 i (by omega)
 have hF:=hof (uS y0 C.A d) H0 H1 (mT (Nat::fE C.R []) r0).1 (Nat.eq_of_beq_eq_true hc.1) (t2 C.k0 (by omega) (by rw[lX];exact hk)).2 h10 hc.2 hto ?_
 ·show Fy P Cx y.l (uS y0 C.A d) (aL (List.replicate C.m none) (cH (lg y0 C.B (uT C.A d)))) (.ret (.val .bool (mT C.T r).1)) (cJ C.m ((C.k0,.lp (mT C.T r).2.1 (mT C.T r).2.2.1)::lg y0 C.R (mT C.T r).2.2.2))
  have e1:mT C.T r=(Nat.beq (mT (Nat::fE C.R []) r0).1 0,y,(mT (Nat::fE C.R []) r0).1,(mT (Nat::fE C.R []) r0).2):=by rw[←er];exact mH C.T _
  rw[e1]
  have eX:(tie y.gs rh.ti 0 H0).set C.k0 (some (.lp y 0))=aL (List.replicate C.m none) (cH (lg y0 C.B (uT C.A d))):=by
   apply List.ext_getElem?
   intro i
   rw[List.getElem?_set]
   split
   ·rename_i e
    subst e
    rw[if_pos (by rw[js,t1];exact hk)]
    exact(t2 C.k0 (by omega) (by rw[lX];exact hk)).1.symm
   ·rename_i e
    exact(t3 i (by omega)).symm
  rw[eX] at hF
  refine hF.less ?_
  intro b k hb
  rw[Bx hnk hk] at hb
  rw[List.getElem?_set]
  split at hb
  ·rename_i e
   subst e
   rw[if_pos rfl,if_pos (by rw[js,u1];exact hk)]
   exact hb
  ·rename_i e
   rw[if_neg (fun e'=>e e'.symm),←hX1]
   exact hb
 ·refine cw.mono (hA _ _ _ hw) ?_
  intro e σ1 he
  cases e with
  |
   normal=>
   refine cw.mono (hB _ _ _ he) ?_
   intro e σ2 he
   obtain⟨σE,q1,q2,q3,q4,q5⟩:=CJ (gl:=gl.oF y.l) he
   have hpr:∃m,prune σE.hp m=H1:=by
    refine sg (by rw[u1];exact q4) ?_
    intro b k hb
    have hx:=hX1 b
    rw[uX hb,Nat.zero_add] at hx
    have:=q5 b _ (dJ hx)
    obtain⟨k0,p1,p2⟩:=fK this
    rw[Nat.zero_add] at p2
    rw[p1]
    have nt:∀{l:List (Option aI)}{k:aI},rN l=true→l[b]? =some (some k)→rM (some k)=false:=by
     intro l k hn hk
     cases k with
     |tv g t v=>exact absurd hk (zP hn b g t v)
     |_=>rfl
    rw[CI (nt u4 hb) (nt q3 p1) p2]
   obtain⟨m,hm⟩:=hpr
   cases e with
   |normal=>exact⟨by simpa[EN] using q1.symm,σE,m,q2,hm⟩
   |
    ret=>
    obtain⟨j1,c,j2,j3⟩:=sf q1
    refine⟨⟨j1,?_⟩,σE,m,q2,hm⟩
    rw[j2]
    cases c<;>simp[Iq] at j3
    rfl
   |
    exit i=>
    obtain⟨j1,c,j2,j3⟩:=sf q1
    refine⟨⟨j1,?_⟩,σE,m,q2,hm⟩
    rw[j2]
    cases c<;>simp[Cu] at j3
    rw[j3]
   |panic v=>simp[EN] at q1
  |_=>cases he
theorem Ls{P:Program}{gl:Ctx}{σ:St}{g:Operand}{ps:Array Tmp}{assign body:Code}(hro:gl.ro=none){gf:FuncId}{cs:AV}(hg:bw gl σ.tm g= .func (.func gf) .nil cs){rh:EG}{C:IC}(eM:Ja σ rh C cs=true)(hC:C.holds P gl)
 {wA wB:YC→St→(eo→St→Option (eU (Nat::fE C.R [])))→Option (eU (Nat::fE C.R []))}
 (hA:∀y σ1 k1 r1,wA y σ1 k1=some r1→cw P (gl.oF y.l) assign σ1 (fun e σ'=>k1 e σ'=some r1)) (hB:∀y σ1 k1 r1,wB y σ1 k1=some r1→cw P (gl.oF y.l) body σ1 (fun e σ'=>k1 e σ'=some r1))
 {R:Type} {k:eo→St→Option R} {r:R} (h:pX (fun y=>Jb σ y rh gf cs (C.K4 y.l (K5 y rh C ps σ (wA y) (wB y))) k)=some r):cw P gl (.rangeFunc g ps assign body) σ (fun e σ'=>k e σ'=some r):=by
 unfold Ja at eM
 simp only[Bool.and_eq_true,Bool.not_eq_true'] at eM
 obtain⟨⟨⟨⟨⟨⟨⟨⟨⟨c1,c2⟩,c3⟩,c4⟩,c5⟩,c6⟩,c7⟩,c8⟩,c9⟩,c10⟩:=eM
 refine cw.rangeFunc hro hg rh.dI rh.lI C.k0 c1 c2 c3 c4 rh.ti rh.m c6 c7 c8 rh.jl c9 ?_
 intro y
 have hy:=Bu h y
 unfold Jb at hy
 split at hy
 case h_2=>cases hy
 rename_i L ins hL gz
 rcases vR hy with⟨hfn,hy⟩|hy
 case inr=>cases hy
 split at hy
 case h_2=>cases hy
 rename_i d hd
 rcases CF.vP hy with⟨q,hq,hy⟩|⟨x,hx,hy⟩
 case inr=>cases hy
 obtain⟨d1,d2⟩:=aT.dO hd
 unfold Ir at hy
 split at hy
 case h_2=>cases hy
 rename_i hr
 obtain⟨hcr,hy⟩:=bG hy
 simp only[Bool.and_eq_true] at hcr
 split at hy
 case h_2=>cases hy
 rename_i y' j hlp
 obtain⟨hv,hy⟩:=dW hy
 have hv:y'=y:=hv.1
 subst hv
 refine⟨j,_,L,ins,_,⟨hr,hL,gz,hcr.1,hcr.2,hlp,rfl⟩,?_,?_⟩
 ·intro B hB' hof
  have hh:=hC B hB' y'.l _ (Je (wA:=wA y') (wB:=wB y') (hA y') (hB y') (by have:=c5;simp[Nat.blt] at this;omega) c10 hof)
  have:=hh.ret d q hq
  rw[←hfn,d1,d2] at this
  rw[show(C.K4 y'.l (K5 y' rh C ps σ (wA y') (wB y'))).res q= .eU .nil from hr] at this
  exact this
 ·have:=EP (P:=P) (gl:=gl) hy
  revert this
  cases jmp rh.jl j with
  |none=>exact id
  |some c=>exact id
section
variable{P:Program} {G:bH} (T:aY P G) {I:List IC} {H:Hs} {Γ:List aT}
include T
theorem il:∀{c:Code}{gl:Ctx}{fr:Bool}(_hΓ:∀C∈Γ,C.holds P gl)(_hro:fr=true→gl.ro=none)(_hI:fr=true→∀C∈I,C.holds P gl∧∀S w,gl.B S w){R:Type}{σ:St}{k:eo→St→Option R}{r:R},walk P G I H Γ c gl fr σ k=some r→cw P gl c σ (fun e σ'=>k e σ'=some r):=by
 intro c
 induction c with
 |skip=>intro gl fr hΓ hro hI R σ k r h;exact cw.skip h
 |label l=>intro gl fr hΓ hro hI R σ k r h;exact cw.label h
 |scope c ih=>intro gl fr hΓ hro hI R σ k r h;exact cw.scope (ih hΓ hro hI h)
 |exit i=>intro gl fr hΓ hro hI R σ k r h;exact cw.exit h
 |ret=>intro gl fr hΓ hro hI R σ k r h;exact cw.ret h
 |region id ops draw=>intro gl fr hΓ hro hI R σ k r h;exact xG T hΓ hro h
 |
  seq x z ih1 ih2=>
  intro gl fr hΓ hro hI R σ k r h
  unfold walk at h
  split at h
  ·refine cw.seq (cw.mono (ih1 hΓ hro hI h) ?_)
   intro e σ' he
   cases e with
   |normal=>exact ih2 hΓ hro hI he
   |_=>exact he
  ·rename_i S hS
   unfold aE at h
   obtain⟨o,ho,h⟩:=bind_some h
   refine cw.seq (cw.mono (ih1 hΓ hro hI ho) ?_)
   intro e σ' he
   cases e with
   |
    normal=>
    obtain⟨d,hd,e⟩:=map_some he
    subst e
    exact cw.wk (SS.fF hd) (ih2 hΓ hro hI h)
   |
    _=>
    obtain⟨d,hd,e⟩:=map_some he
    subst e
    cases h
    exact hd
 |
  cond c x z ih1 ih2=>
  intro gl fr hΓ hro hI R σ k r h
  unfold walk at h
  split at h
  ·rename_i b hb
   refine cw.cond hb (fun e=>ih1 hΓ hro hI ?_) (fun e=>ih2 hΓ hro hI ?_)
   ·rw[if_pos e] at h;exact h
   ·rw[if_neg (by rw[e];exact Bool.false_ne_true)] at h;exact h
  ·cases h
 |
  block id c ih=>
  intro gl fr hΓ hro hI R σ k r h
  unfold walk at h
  split at h
  ·refine cw.block (cw.mono (ih hΓ hro hI h) ?_)
   intro e σ' he
   cases e with
   |
    exit i=>
    simp only[Vy] at he
    simp only[uO]
    split at he
    ·rename_i hb;rw[if_pos (Nat.eq_of_beq_eq_true hb)];exact he
    ·rename_i hb;rw[if_neg (fun e=>hb (by subst e;exact Nat.beq_refl _))];exact he
   |_=>exact he
  ·rename_i S hS
   unfold aE at h
   obtain⟨o,ho,h⟩:=bind_some h
   have fin:∀{σ':St},(S.pv σ').map cz.brk=some o→∃σ2,Wk gl σ' σ2∧k .normal σ2=some r:=by
    intro σ' he
    obtain⟨d,hd,e⟩:=map_some he
    subst e
    exact⟨_,SS.fF hd,h⟩
   have oth:∀{e:eo}{σ':St},(k e σ').map cz.ret=some o→k e σ'=some r:=by
    intro e σ' he
    obtain⟨d,hd,e⟩:=map_some he
    subst e
    cases h
    exact hd
   refine cw.Lr (cw.block (cw.mono (ih hΓ hro hI ho) ?_))
   intro e σ' he
   cases e with
   |normal=>exact fin he
   |
    exit i=>
    simp only[Vx] at he
    simp only[uO]
    split at he
    ·rename_i hb;rw[if_pos (Nat.eq_of_beq_eq_true hb)];exact fin he
    ·rename_i hb;rw[if_neg (fun e=>hb (by subst e;exact Nat.beq_refl _))];exact⟨σ',Wk.refl gl σ',oth he⟩
   |ret=>exact⟨σ',Wk.refl gl σ',oth he⟩
   |panic v=>exact oth he
 |
  loop c ih=>
  intro gl fr hΓ hro hI R σ k r h
  unfold walk at h
  split at h
  ·exact CC (fun h=>ih hΓ hro hI h) h
  ·split at h
   ·cases h
   ·split at h
    ·cases h
    ·rename_i u hu
     exact CD (fun σ u=>SS.fF) (fun h=>ih hΓ hro hI h) hu h
 |
  rangeFunc g ps assign body ih1 ih2=>
  intro gl fr hΓ hro hI R σ k r h
  unfold walk at h
  obtain⟨hfr,h⟩:=bG h
  split at h
  ·cases h
  ·rename_i rh hrh
   split at h
   case h_2=>cases h
   rename_i C u hC hu
   split at h
   ·rename_i gf cs hg
    obtain⟨eM,h⟩:=bG h
    obtain⟨hC1,hB⟩:=hI hfr C (List.mem_of_getElem? hC)
    have hA:∀(y:YC)(σ1:St) k1 r1,walk P G I H Γ assign (gl.oF y.l) false (R:=eU (Nat::fE C.R [])) σ1 k1=some r1→cw P (gl.oF y.l) assign σ1 (fun e σ'=>k1 e σ'=some r1):=
     fun y σ1 k1 r1 h1=>@ih1 (gl.oF y.l) false (fun D hD=>(hΓ D hD).up rfl hB) (fun e=>(Bool.false_ne_true e).elim) (fun e=>(Bool.false_ne_true e).elim) _ _ _ _ h1
    have hB':∀(y:YC)(σ1:St) k1 r1,walk P G I H Γ body (gl.oF y.l) false (R:=eU (Nat::fE C.R [])) σ1 k1=some r1→cw P (gl.oF y.l) body σ1 (fun e σ'=>k1 e σ'=some r1):=
     fun y σ1 k1 r1 h1=>@ih2 (gl.oF y.l) false (fun D hD=>(hΓ D hD).up rfl hB) (fun e=>(Bool.false_ne_true e).elim) (fun e=>(Bool.false_ne_true e).elim) _ _ _ _ h1
    exact cw.wk (SS.fF hu) <| Ls (wA:=fun y σ1 k1=>walk P G I H Γ assign (gl.oF y.l) false σ1 k1) (wB:=fun y σ1 k1=>walk P G I H Γ body (gl.oF y.l) false σ1 k1) (hro hfr) hg eM hC1 hA hB' h
   ·cases h
 |_=>intro gl fr hΓ hro hI R σ k r h;simp[walk] at h
end
end Go.Ax
namespace Go.Ax
def pick:List Nat→List (Option aI)→List (Nat×aI)
 |[],_=>[]
 |
  b::l,hp=>match hp[b]? with
  |some (some k)=>(b,k)::pick l hp
  |_=>pick l hp
theorem gK{hp:List (Option aI)}:∀{l:List Nat}{b:Nat}{k:aI},(b,k)∈pick l hp→hp[b]? =some (some k)
 |[],_,_,h=>by cases h
 |
  c::l,b,k,h=>by
  simp only[pick] at h
  split at h
  ·rename_i k' hk
   rcases List.mem_cons.1 h with h|h
   ·cases h;exact hk
   ·exact gK h
  ·exact gK h
def aD(G:bH)(rs:List ResultVar)(iE:FuncId)(A:List Sh)(B:List (Nat×dS))(m:Nat)(F:SS)(ob:List Nat)(f:CF (prod (oE A (fE B []))) F.T):aT:=
 ⟨.func iE,A,B,m,F,fun r=>(gk G rs (F.st y0 r)).getD .bot,fun r=>pick ob (F.st y0 r).hp,f⟩
def Jf(F:SS):eo→St→Option F.T
 | .ret,σ=>F.pv σ
 | .normal,σ=>F.pv σ
 |_,_=>none
def xH(σ:St):Option St:=
 match marks σ.df σ.hp with
 |some hp=>some ⟨σ.tm,hp,[]⟩
 |none=>none
def xI(F:SS):eo→St→Option F.T
 |
  .ret,σ=>match xH σ with
  |some σ=>F.pv σ
  |none=>none
 |
  .normal,σ=>match xH σ with
  |some σ=>F.pv σ
  |none=>none
 |_,_=>none
def jS(nt m:Nat)(args:List AV)(ins:List (Nat×Option aI)):St:=⟨args++List.replicate (nt -args.length) .bot,aL (List.replicate m none) ins,[]⟩
def CK{α:Type}:Option α→Bool
 |some _=>true
 |none=>false
theorem jT{x:Option AV}(h:CK x=true):x=some (x.getD .bot):=by
 cases x with
 |none=>cases h
 |some y=>rfl
theorem oN{gl:Ctx}{F:SS}{e:eo}{σ:St}{r:F.T}(h:xI F e σ=some r):(e= .ret∨e= .normal)∧∃σ1,xH σ=some σ1∧Wk gl σ1 (F.st y0 r):=by
 cases e with
 |
  ret=>
  simp only[xI] at h
  split at h
  ·rename_i σ1 h1;exact⟨Or.inl rfl,σ1,h1,SS.fF h⟩
  ·cases h
 |
  normal=>
  simp only[xI] at h
  split at h
  ·rename_i σ1 h1;exact⟨Or.inr rfl,σ1,h1,SS.fF h⟩
  ·cases h
 |_=>exact no h
theorem oB.tk{P:Program}{G:bH}(T:aY P G){gl:Ctx}{f:FuncId}{fn:Func}{c:Code}(hf:P.funcs[f]? =some fn)(hb:fn.body=some c)(hro:gl.ro=none){args:List AV}{ins:List (Nat×Option aI)}{m:Nat}{x:AV}{out:List (Nat×aI)}{σe:St}
 (h:cw P gl c (jS fn.ntmps m args ins) (fun e σ=>(e= .ret∨e= .normal)∧∃σ1,xH σ=some σ1∧Wk gl σ1 σe)) (_hd:σe.df= []) (aaG:gk G fn.results.toList σe=some x) (hout:∀b k,(b,k)∈out→σe.hp[b]? =some (some k)):
 oB P gl f args (aL (List.replicate m none) ins) (.ret x) (cJ m out):=by
 intro E w vs hv hw
 obtain⟨hl,aam⟩:=hv.get
 refine CallsIn.calls (F:=Wd gl) (n:=0) (callsIn_of_wp_marks hf hb trivial ?_ hro) (fun k d hd=>by cases hd)
 have hg:bO gl (jS fn.ntmps m args ins) E {tmps:=vs.toArray++Array.replicate (fn.ntmps -vs.toArray.size) undef,defers:=[]} w:=by
  refine⟨?_,?_,hw,trivial⟩
  ·simp only[jS,Array.size_append,List.size_toArray,Array.size_replicate,List.length_append,List.length_replicate]
   rw[hl]
  ·intro i x hx v hv'
   simp only[jS] at hx
   rw[Array.getElem?_append] at hv'
   simp only[List.getElem?_append] at hx
   split at hx
   ·rename_i hi
    rw[if_pos (by simpa[hl] using hi)] at hv'
    exact aam i x v hx (by simpa using hv')
   ·rw[List.getElem?_replicate] at hx
    split at hx
    ·cases hx;trivial
    ·cases hx
 refine wpIn_mono (h E _ w hg) ?_
 rintro ex a' w' ⟨e,σ',E',h1,⟨he,σ1,ho,hwk⟩,h3,h4⟩
 have main:LeavesInM (Wd gl) 0 P fn a'.tmps (fun e w'=>∃E',rY E' w' (.ret x) e∧HW gl E' w' (cJ m out)∧Ext gl.md (Own (aL (List.replicate m none) ins) E) E w (Own (cJ m out) E') E' w') a'.defers .returning w':=by
  unfold xH at ho
  split at ho
  ·rename_i hp1 hm
   cases ho
   refine AR σ'.df h3 hm (fun w3 k1 k2=>?_)
   obtain⟨E2,g2,x2⟩:=hwk E' _ w3 k1
   obtain⟨v,k3,k4⟩:=mA T g2 aaG
   have hw2:HW gl E2 w3 (cJ m out):=g2.hw.less (fun b k hb=>hout b k (dJ hb))
   have hx:Ext gl.md (Own (aL (List.replicate m none) ins) E) E w (Own (cJ m out) E2) E2 w3:=
    {(h4.trans k2).trans x2 with own:=fun g ⟨b,k,hb,hgb⟩=>((h4.trans k2).trans x2).own g ⟨b,k,hout b k (dJ hb),hgb⟩}
   exact⟨v,k3,E2,k4,hw2,hx⟩
  ·cases ho
 rcases he with rfl|rfl
 ·cases ex with
  |ret=>exact main
  |_=>exact h1.elim
 ·cases ex with
  |normal=>exact main
  |_=>exact h1.elim
theorem aT.of{P:Program}{G:bH}(T:aY P G){gl:Ctx}{I:List IC}{H:Hs}{Γ:List aT}(hΓ:∀C∈Γ,C.holds P gl)(hI:∀C∈I,C.holds P gl∧∀S w,gl.B S w)(hro:gl.ro=none){rs:List ResultVar}{iE:FuncId}{A:List Sh}{B:List (Nat×dS)}{m nt:Nat}{F:SS}{ob:List Nat}{f:prod (oE A (fE B []))→Option F.T}
 {fn:Func} {c:Code} (aat:∀vs w,(callFunc iE vs).run P w= .ok (.enter iE vs) w) (hf:P.funcs[iE]? =some fn) (hb:fn.body=some c) (hrs:fn.results.toList=rs) (hnt:fn.ntmps=nt) (hF:F.df= [])
 (aaG:∀r:F.T,CK (gk G rs (F.st y0 r))=true)
 (h:∀d,f d=walk P G I H Γ c gl true (jS nt m (uS y0 A d) (cH (lg y0 B (uT A d)))) (xI F)):
 (aD G rs iE A B m F ob (.bx f)).holds P gl:=by
 refine⟨?_,fun _ _ h=>h.elim⟩
 intro d r hd
 have hd':f d=some r:=hd
 rw[h d] at hd'
 refine⟨aat,?_⟩
 have aao:=il T hΓ (fun _=>hro) (fun _=>hI) hd'
 subst hnt
 refine oB.tk T hf hb hro (σe:=F.st y0 r) (cw.mono aao ?_) ?_ ?_ ?_
 ·intro e σ he
  exact oN he
 ·show(F.st y0 r).df= []
  simp only[SS.st,SS.jS]
  obtain⟨nt',nh,tm,hp,df⟩:=F
  simp only at hF
  subst hF
  rfl
 ·rw[hrs];exact jT (aaG r)
 ·intro b k hbk;exact gK hbk
def qd(s:Sh)(F:SS):eo→St→Option (Sum (prod (s.H [])) F.T)
 |
  .ret,σ=>match xH σ with
  |some σ=>(F.pv σ).map .inr
  |none=>none
 |
  .normal,σ=>match xH σ with
  |some σ=>(F.pv σ).map .inr
  |none=>none
 |
  .panic v,σ=>match σ.df with
  |[]=>(s.G (l:=[]) v ()).map .inl
  |_=>none
 |_,_=>none
theorem oB.CL{P:Program}{gl:Ctx}{f:FuncId}{fn:Func}{c:Code}(hf:P.funcs[f]? =some fn)(hb:fn.body=some c)(hro:gl.ro=none){args:List AV}{ins:List (Nat×Option aI)}{m:Nat}{x:AV}
 (h:cw P gl c (jS fn.ntmps m args ins) (fun e σ=>e= .panic x∧σ.df= [])):
 oB P gl f args (aL (List.replicate m none) ins) (.iH x) (cJ m []):=by
 intro E w vs hv hw
 obtain⟨hl,aam⟩:=hv.get
 refine CallsIn.calls (F:=Wd gl) (n:=0) (callsIn_of_wp hf hb trivial ?_ hro) (fun k d hd=>by cases hd)
 have hg:bO gl (jS fn.ntmps m args ins) E {tmps:=vs.toArray++Array.replicate (fn.ntmps -vs.toArray.size) undef,defers:=[]} w:=by
  refine⟨?_,?_,hw,trivial⟩
  ·simp only[jS,Array.size_append,List.size_toArray,Array.size_replicate,List.length_append,List.length_replicate]
   rw[hl]
  ·intro i x hx v hv'
   simp only[jS] at hx
   rw[Array.getElem?_append] at hv'
   simp only[List.getElem?_append] at hx
   split at hx
   ·rename_i hi
    rw[if_pos (by simpa[hl] using hi)] at hv'
    exact aam i x v hx (by simpa using hv')
   ·rw[List.getElem?_replicate] at hx
    split at hx
    ·cases hx;trivial
    ·cases hx
 refine wpIn_mono (h E _ w hg) ?_
 rintro ex a' w' ⟨e,σ',E',h1,⟨rfl,hd⟩,h3,h4⟩
 have hdf:a'.defers= []:=by
  have:=h3.df
  rw[hd] at this
  cases hds:a'.defers with
  |nil=>rfl
  |cons d l=>rw[hds] at this;exact this.elim
 have hw2:HW gl E' w' (cJ m []):=h3.hw.less (fun b k hb=>absurd (dJ hb) (by simp))
 have hx:Ext gl.md (Own (aL (List.replicate m none) ins) E) E w (Own (cJ m []) E') E' w':=
  {h4 with own:=fun g ⟨b,k,hb,hgb⟩=>absurd (dJ hb) (by simp)}
 cases ex with
 |panic ch=>exact⟨hdf,E',h1,hw2,hx⟩
 |_=>exact h1.elim
theorem aT.Cb{P:Program}{G:bH}(T:aY P G){gl:Ctx}{I:List IC}{H:Hs}{Γ:List aT}(hΓ:∀C∈Γ,C.holds P gl)(hI:∀C∈I,C.holds P gl∧∀S w,gl.B S w)(hro:gl.ro=none){rs:List ResultVar}{iE:FuncId}{A:List Sh}{B:List (Nat×dS)}{m nt:Nat}{s:Sh}{F:SS}{ob:List Nat}{f:prod (oE A (fE B []))→Option (Sum (prod (s.H [])) F.T)}
 {fn:Func} {c:Code} (aat:∀vs w,(callFunc iE vs).run P w= .ok (.enter iE vs) w) (hf:P.funcs[iE]? =some fn) (hb:fn.body=some c) (hrs:fn.results.toList=rs) (hnt:fn.ntmps=nt) (hF:F.df= [])
 (aaG:∀r:F.T,CK (gk G rs (F.st y0 r))=true)
 (h:∀d,f d=walk P G I H Γ c gl true (jS nt m (uS y0 A d) (cH (lg y0 B (uT A d)))) (qd s F)):
 (aD G rs iE A B m F ob (.iH s f)).holds P gl:=by
 refine⟨?_,?_⟩
 ·intro d r hd
  have hd':f d=some (.inr r):=hd
  rw[h d] at hd'
  refine⟨aat,?_⟩
  have aao:=il T hΓ (fun _=>hro) (fun _=>hI) hd'
  subst hnt
  refine oB.tk T hf hb hro (σe:=F.st y0 r) (cw.mono aao ?_) ?_ ?_ ?_
  ·intro e σ he
   cases e with
   |
    ret=>
    simp only[qd] at he
    split at he
    ·rename_i σ1 h1
     obtain⟨y,hy,e⟩:=map_some he
     cases e
     exact⟨Or.inl rfl,σ1,h1,SS.fF hy⟩
    ·cases he
   |
    normal=>
    simp only[qd] at he
    split at he
    ·rename_i σ1 h1
     obtain⟨y,hy,e⟩:=map_some he
     cases e
     exact⟨Or.inr rfl,σ1,h1,SS.fF hy⟩
    ·cases he
   |
    panic v=>
    simp only[qd] at he
    split at he
    ·obtain⟨y,hy,e⟩:=map_some he
     cases e
    ·cases he
   |exit i=>exact no he
  ·show(F.st y0 r).df= []
   simp only[SS.st,SS.jS]
   obtain⟨nt',nh,tm,hp,df⟩:=F
   simp only at hF
   subst hF
   rfl
  ·rw[hrs];exact jT (aaG r)
  ·intro b k hbk;exact gK hbk
 ·rintro d x ⟨p,hd,rfl⟩
  have hd':f d=some (.inl p):=hd
  rw[h d] at hd'
  refine⟨aat,?_⟩
  have aao:=il T hΓ (fun _=>hro) (fun _=>hI) hd'
  subst hnt
  refine oB.CL hf hb hro (cw.mono aao ?_)
  intro e σ he
  cases e with
  |
   ret=>
   simp only[qd] at he
   split at he
   ·obtain⟨y,hy,e⟩:=map_some he;cases e
   ·cases he
  |
   normal=>
   simp only[qd] at he
   split at he
   ·obtain⟨y,hy,e⟩:=map_some he;cases e
   ·cases he
  |
   panic v=>
   simp only[qd] at he
   split at he
   ·rename_i hdf
    obtain⟨y,hy,e⟩:=map_some he
    cases e
    exact⟨by rw[(Sh.rU y0 hy).1],hdf⟩
   ·cases he
  |exit i=>exact no he
theorem aT.Lt{P:Program}{gl:Ctx}{G:bH}{rs:List ResultVar}{iE:FuncId}{A:List Sh}{B:List (Nat×dS)}{m:Nat}{F:SS}{ob:List Nat}:(aD G rs iE A B m F ob (.bx fun _=>none)).holds P gl:=
 ⟨fun _ _ h=>(by cases(h:none=some _)),fun _ _ h=>h.elim⟩
theorem aT.sub{P:Program}{gl:Ctx}{G:bH}{rs:List ResultVar}{iE:FuncId}{A:List Sh}{B:List (Nat×dS)}{m:Nat}{F:SS}{ob:List Nat}{f g:prod (oE A (fE B []))→Option F.T}(h:(aD G rs iE A B m F ob (.bx f)).holds P gl)(hs:∀d r,g d=some r→f d=some r):(aD G rs iE A B m F ob (.bx g)).holds P gl:=
 ⟨fun d r hd=>h.ret d r (hs d r hd),fun _ _ h=>h.elim⟩
def Iu(P:Program)(gl:Ctx):List aT→Prop
 |[]=>True
 |C::l=>C.holds P gl∧Iu P gl l
theorem hold{P:Program}{gl:Ctx}:∀{l:List aT},Iu P gl l→∀C∈l,C.holds P gl
 |[],_,C,h=>by cases h
 |
  D::l,h,C,hC=>by
  rcases List.mem_cons.1 hC with rfl|hC
  ·exact h.1
  ·exact hold h.2 C hC
def Iv(P:Program)(gl:Ctx):List IC→Prop
 |[]=>True
 |C::l=>C.holds P gl∧Iv P gl l
theorem sh{P:Program}{l:List BA}:∀{L:List IC},Iv P (Ctx.of l) L→∀C∈L,C.holds P (Ctx.of l)∧∀S w,(Ctx.of l).B S w
 |[],_,C,h=>by cases h
 |
  D::L,h,C,hC=>by
  rcases List.mem_cons.1 hC with rfl|hC
  ·exact⟨h.1,fun _ _=>trivial⟩
  ·exact sh h.2 C hC
theorem aF{P:Program}{gl:Ctx}:∀C∈([]:List IC),C.holds P gl∧∀S w,gl.B S w:=fun C h=>by cases h
end Go.Ax
namespace Go.Ax
def si(pm:Bool)(u:Value):FrameMode:=if pm then .panicking [{v:=u,recovered:=false}] else .returning
def jU(pm:Bool)(u:Value):FrameMode:=if pm then .panicking [{v:=u,recovered:=true}] else .returning
def Jg(P:Program)(gl:Ctx)(f:FuncId)(pm:Bool)(x:AV)(args:List AV)(H H':List (Option aI)):Prop:=
 (∀vs w,(callFunc f vs).run P w= .ok (.enter f vs) w)∧∀E w vs u,iW E w args vs→cd E w x u→(pm=false→u= .nilIface)→HW gl E w H→
  CallsDIn (Wd gl) 0 P f vs.toArray (si pm u) w fun e m w'=>m=jU pm u∧(∃v,e= .returned v)∧∃E',HW gl E' w' H'∧Ext gl.md (Own H E) E w (Own H' E') E' w'
theorem Jg.Jh{P:Program}{G:bH}(T:aY P G){gl:Ctx}{f:FuncId}{pm:Bool}{x:AV}{fn:Func}{ops:Array Oper}{rid:Nat}{rest:Code}{t5 t2:Nat}{ts:Array TypeId}{o0 o1:Oper}(hcf:∀vs w,(callFunc f vs).run P w= .ok (.enter f vs) w)(hf:P.funcs[f]? =some fn)
 (hb:fn.body=some (.seq (.region rid ops false) rest)) (hro:gl.ro=none) (hops:ops= #[o0,o1]) (h0:o0.op= .call {callee:=.builtin .recover,args:= #[],argTypes:=ts}) (h0d:o0.dst=some t5) (h0g:o0.guard=none)
 (h1:o1.op= .assign (.tmp t5)) (h1d:o1.dst=some t2) (h1g:o1.guard=none) {args:List AV} {ins:List (Nat×Option aI)} {m:Nat} {out:List (Nat×aI)} {σe:St} {r:AV} (ht5:Nat.blt t5 fn.ntmps=true)
 (h:cw P gl rest (((jS fn.ntmps m args ins).put (some t5) x).put (some t2) x) (fun e σ=>(e= .ret∨e= .normal)∧Wk gl σ σe)) (hd:σe.df= []) (aaG:gk G fn.results.toList σe=some r) (hout:∀b k,(b,k)∈out→σe.hp[b]? =some (some k)):
 Jg P gl f pm x args (aL (List.replicate m none) ins) (cJ m out):=by
 refine⟨hcf,?_⟩
 intro E w vs u hv hx hpm hw
 obtain⟨hl,aam⟩:=hv.get
 refine callsDIn_of_wpSIn hf hb trivial ?_
 intro c0 cs hm
 have hg:bO gl (jS fn.ntmps m args ins) E {tmps:=vs.toArray++Array.replicate (fn.ntmps -vs.toArray.size) undef,defers:=[]} w:=by
  refine⟨?_,?_,hw,trivial⟩
  ·simp only[jS,Array.size_append,List.size_toArray,Array.size_replicate,List.length_append,List.length_replicate]
   rw[hl]
  ·intro i x hx v hv'
   simp only[jS] at hx
   rw[Array.getElem?_append] at hv'
   simp only[List.getElem?_append] at hx
   split at hx
   ·rename_i hi
    rw[if_pos (by simpa[hl] using hi)] at hv'
    exact aam i x v hx (by simpa using hv')
   ·rw[List.getElem?_replicate] at hx
    split at hx
    ·cases hx;trivial
    ·cases hx
 refine wpSIn_seq (wpSIn_region ?_)
 subst hops
 show wpOpsSIn _ _ _ _ _ [0,1] _ _ _
 have w0:∀y,Region.wanted o0 y=true:=by intro y;simp[Region.wanted,h0g]
 have w1:∀y,Region.wanted o1 y=true:=by intro y;simp[Region.wanted,h1g]
 have x0:∀ρ:Operand→Value,(execOp ρ o0).run P w= .ok .recover w:=by
  intro ρ
  simp[execOp,h0,resolve,invoke,builtin]
 have ei0:(#[o0,o1]:Array Oper)[0]? =some o0:=rfl
 have ei1:(#[o0,o1]:Array Oper)[1]? =some o1:=rfl
 have hu:RV E w x u:=RV.de hx
 have hg1:=hg.put (some t5) hu
 have hlt:t5<fn.ntmps:=by simp[Nat.blt] at ht5;omega
 have hev:((({tmps:=vs.toArray++Array.replicate (fn.ntmps -vs.toArray.size) undef,defers:=[]}:Act).put o0.dst u).eval (.tmp t5))=u:=by
  rw[h0d]
  have hsz:t5<(vs.toArray++Array.replicate (fn.ntmps -vs.toArray.size) undef).size:=by
   simp only[Array.size_append,Array.size_replicate];omega
  simp[Act.put,Act.eval]
  intro hh
  omega
 have x1:(execOp (({tmps:=vs.toArray++Array.replicate (fn.ntmps -vs.toArray.size) undef,defers:=[]}:Act).put o0.dst u).eval o1).run P w= .ok (.value u) w:=by
  simp only[execOp,h1]
  rw[hev]
  rfl
 have hg2:=hg1.put (some t2) hu
 suffices hfin:rest.wpSIn (Wd gl) 0 P (bodyPostS P fn c0 cs fun e m_1 w'=>m_1=jU pm u∧(∃v,e= .returned v)∧∃E',HW gl E' w' (cJ m out)∧Ext gl.md (Own (aL (List.replicate m none) ins) E) E w (Own (cJ m out) E') E' w')
  ((({tmps:=vs.toArray++Array.replicate (fn.ntmps -vs.toArray.size) undef,defers:=[]}:Act).put o0.dst u).put o1.dst u) ({c0 with mode:=jU pm u}::cs) w by
  cases pm with
  |
   true=>
   have hrc:recoverD (c0::cs)=some (u,{c0 with mode:=jU true u}::cs):=by
    simp only[si,jU,if_true] at hm ⊢
    simp only[recoverD,hm]
   simp only[wpOpsSIn,ei0,ei1,w0,w1,if_true,x0,hrc]
   refine⟨fun _ _=>trivial,fun _ _=>trivial,?_⟩
   rw[x1]
   exact hfin
  |
   false=>
   have hu0:=hpm rfl
   subst hu0
   have hrc:recoverD (c0::cs)=none:=by
    simp only[si,Bool.false_eq_true,if_false] at hm
    simp[recoverD,hm]
   have hcc:({c0 with mode:=jU false .nilIface}:Frame)=c0:=by
    simp only[si,jU,Bool.false_eq_true,if_false] at hm ⊢
    rw[←hm]
   rw[hcc] at hfin
   simp only[wpOpsSIn,ei0,ei1,w0,w1,if_true,x0,hrc]
   refine⟨fun _ _=>trivial,fun _ _=>trivial,?_⟩
   rw[x1]
   exact hfin
 rw[h0d,h1d]
 refine wpSIn_of_wpIn (F:=Wd gl) hro (wpIn_mono (h E _ w hg2) ?_)
 rintro ex a' w' ⟨e,σ',E',q1,⟨he,hwk⟩,q3,q4⟩
 obtain⟨E2,g2,x2⟩:=hwk E' a' w' q3
 obtain⟨v,k1,k2⟩:=mA T g2 aaG
 have hdf:a'.defers= []:=by
  have:=g2.df
  rw[hd] at this
  cases hds:a'.defers with
  |nil=>rfl
  |cons d l=>rw[hds] at this;exact this.elim
 have hw2:HW gl E2 w' (cJ m out):=g2.hw.less (fun b k hb=>hout b k (dJ hb))
 have hxx:Ext gl.md (Own (aL (List.replicate m none) ins) E) E w (Own (cJ m out) E2) E2 w':=by
  have q4':Ext gl.md (Own (aL (List.replicate m none) ins) E) E w (Own σ'.hp E') E' w':=q4
  exact{q4'.trans x2 with own:=fun g ⟨b,k,hb,hgb⟩=>(q4'.trans x2).own g ⟨b,k,hout b k (dJ hb),hgb⟩}
 rcases he with rfl|rfl
 ·cases ex with
  |ret=>exact⟨hdf,jU pm u,rfl,v,k1,rfl,⟨v,rfl⟩,E2,hw2,hxx⟩
  |_=>exact q1.elim
 ·cases ex with
  |normal=>exact⟨hdf,jU pm u,rfl,v,k1,rfl,⟨v,rfl⟩,E2,hw2,hxx⟩
  |_=>exact q1.elim
structure eF where
 iE:FuncId
 A:List Sh
 B:List (Nat×dS)
 m:Nat
 s:Sh
 F:SS
 out:F.T→List (Nat×aI)
 n:prod (oE A (fE B []))→Option F.T
 p:prod (oE A (fE B []))→prod (s.H [])→Option F.T
abbrev eF.D(C:eF):Type:=prod (oE C.A (fE C.B []))
def eF.args(C:eF)(d:C.D):List AV:=uS y0 C.A d
def eF.ins(C:eF)(d:C.D):List (Nat×Option aI):=cH (lg y0 C.B (uT C.A d))
structure eF.holds(P:Program)(gl:Ctx)(C:eF):Prop where
 n:∀d r,C.n d=some r→Jg P gl C.iE false .fA (C.args d) (aL (List.replicate C.m none) (C.ins d)) (cJ C.m (C.out r))
 p:∀d q r,C.p d q=some r→Jg P gl C.iE true (C.s.V y0 q) (C.args d) (aL (List.replicate C.m none) (C.ins d)) (cJ C.m (C.out r))
def eF.get(C:eF)(L:List AV)(I:List (Nat×Option aI)):Option C.D:=
 match xC C.B (l:=[]) I () with
 |some d=>IG C.A L d
 |none=>none
theorem eF.dO{C:eF}{L:List AV}{I:List (Nat×Option aI)}{d:C.D}(h:C.get L I=some d):C.args d=L∧C.ins d=I:=by
 unfold eF.get at h
 split at h
 ·rename_i d1 h1
  obtain⟨a1,a2⟩:=sZ y0 h1
  obtain⟨b1,b2⟩:=uU y0 h
  exact⟨b1,by unfold eF.ins;rw[b2,a1]⟩
 ·cases h
section
variable{P:Program} {G:bH} (T:aY P G) {gl:Ctx} {H:Hs} {Γ:List aT} (hΓ:∀C∈Γ,C.holds P gl) (hro:gl.ro=none) {rs:List ResultVar} {iE:FuncId} {A:List Sh} {B:List (Nat×dS)} {m nt:Nat} {s:Sh} {F:SS} {ob:List Nat}
 {n:prod (oE A (fE B []))→Option F.T} {p:prod (oE A (fE B []))→prod (s.H [])→Option F.T} {fn:Func} {ops:Array Oper} {rid:Nat} {rest:Code} {t5 t2:Nat} {ts:Array TypeId} {o0 o1:Oper}
 (aat:∀vs w,(callFunc iE vs).run P w= .ok (.enter iE vs) w) (hf:P.funcs[iE]? =some fn) (hb:fn.body=some (.seq (.region rid ops false) rest)) (hrs:fn.results.toList=rs) (hnt:fn.ntmps=nt)
 (hops:ops= #[o0,o1]) (h0:o0.op= .call {callee:=.builtin .recover,args:= #[],argTypes:=ts}) (h0d:o0.dst=some t5) (h0g:o0.guard=none) (h1:o1.op= .assign (.tmp t5)) (h1d:o1.dst=some t2) (h1g:o1.guard=none) (ht5:Nat.blt t5 nt=true)
 (hF:F.df= []) (aaG:∀r:F.T,CK (gk G rs (F.st y0 r))=true)
include T hΓ hro aat hf hb hrs hnt hops h0 h0d h0g h1 h1d h1g ht5 hF aaG
theorem eF.Vz{pm:Bool}{x:AV}{args:List AV}{ins:List (Nat×Option aI)}{r:F.T}(hw:walk P G [] H Γ rest gl true (((jS nt m args ins).put (some t5) x).put (some t2) x) (Jf F)=some r):
 Jg P gl iE pm x args (aL (List.replicate m none) ins) (cJ m (pick ob (F.st y0 r).hp)):=by
 have hdf:(F.st y0 r).df= []:=by
  simp only[SS.st,SS.jS]
  obtain⟨nt',nh,tm,hp,df⟩:=F
  simp only at hF
  subst hF
  rfl
 subst hnt
 refine Jg.Jh T aat hf hb hro hops h0 h0d h0g h1 h1d h1g ht5 (cw.mono (il T hΓ (fun _=>hro) (fun _=>aF) hw) ?_) hdf (by rw[hrs];exact jT (aaG r)) (fun b k hbk=>gK hbk)
 intro e σ he
 cases e with
 |ret=>exact⟨Or.inl rfl,SS.fF he⟩
 |normal=>exact⟨Or.inr rfl,SS.fF he⟩
 |_=>exact no he
theorem eF.Wv(hn:∀d,n d=walk P G [] H Γ rest gl true (((jS nt m (uS y0 A d) (cH (lg y0 B (uT A d)))).put (some t5) .fA).put (some t2) .fA) (Jf F)):
 (⟨iE,A,B,m,s,F,fun r=>pick ob (F.st y0 r).hp,n,fun _ _=>none⟩:eF).holds P gl:=by
 refine⟨?_,fun _ _ r h=>no (e:=r) h⟩
 intro d r hd
 have hd':n d=some r:=hd
 rw[hn d] at hd'
 exact eF.Vz T hΓ hro aat hf hb hrs hnt hops h0 h0d h0g h1 h1d h1g ht5 hF aaG hd'
theorem eF.Cb(hp:∀d q,p d q=walk P G [] H Γ rest gl true (((jS nt m (uS y0 A d) (cH (lg y0 B (uT A d)))).put (some t5) (s.V y0 q)).put (some t2) (s.V y0 q)) (Jf F)):
 (⟨iE,A,B,m,s,F,fun r=>pick ob (F.st y0 r).hp,fun _=>none,p⟩:eF).holds P gl:=by
 refine⟨fun _ r h=>no (e:=r) h,?_⟩
 intro d q r hd
 have hd':p d q=some r:=hd
 rw[hp d q] at hd'
 exact eF.Vz T hΓ hro aat hf hb hrs hnt hops h0 h0d h0g h1 h1d h1g ht5 hF aaG hd'
end
def zU:List Nat→List (Option aI)→List (Option aI)
 |[],hp=>hp
 |
  b::l,hp=>zU l (match hp[b]? with
  |some (some (.var t _))=>hp.set b (some (.var t (.dP t)))
  |_=>hp)
theorem Wk.dP{gl:Ctx}:∀{l:List Nat}{σ:St},Wk gl σ {σ with hp:=zU l σ.hp}
 |[],σ=>Wk.refl gl σ
 |
  b::l,σ=>by
  unfold zU
  split
  ·rename_i t v hb
   have h1:Wk gl σ {σ with hp:=σ.hp.set b (some (.var t (.dP t)))}:=by
    intro E a w h
    obtain⟨h1,h2,g,c,e,h3,h4,h5⟩:=h.hw.cj b _ hb
    have hlen:=RC.len h5
    have hw:=h.hw.write (w':=w) (k':=.var t (.dP t)) hb rfl (fun _ _=>rfl) ⟨h1,Ty.cC t,g,c,e,h3,h4,⟨by rw[hlen];exact AV.dg h2,RC.one h5⟩⟩
    refine⟨E,⟨h.len,h.tm,hw,h.df⟩,{Ext.refl (Own σ.hp E) E w with own:=?_ }⟩
    intro g' hg'
    exact Or.inl (Own.set hb hg')
   exact h1.trans (Wk.dP (l:=l) (σ:={σ with hp:=σ.hp.set b (some (.var t (.dP t)))}))
  ·exact Wk.dP (l:=l) (σ:=σ)
def CM(C:eF)(ps:List (Nat×Nat))(F:SS)(h:C.D→Option C.F.T)(σ:St):Option F.T:=
 match σ.df with
 |
  [.func (.func fd) .nil cs]=>match jK (swp ps) (dx σ.hp) (cs.toList.map (fun x=>(x,Ty.unit))),fZ (swp ps) (dx σ.hp) ps with
  |
   some (L,lent),some ins=>if Nat.beq fd C.iE&&cs.atoms then(match C.get L ins with
   |some d=>Option.bind (h d) fun r=>if uC ⟨.bot,ps,[],C.out r,C.m,false,[],[]⟩ lent then F.pv {σ with hp:=aL σ.hp (jM ps (C.out r) ps),df:=[]} else none
   |none=>none) else none
  |_,_=>none
 |_=>none
def Iw(C:eF)(ps:List (Nat×Nat))(D:eF)(qs:List (Nat×Nat))(jk:List Nat)(F:SS):eo→St→Option F.T
 |
  .ret,σ| .normal,σ=>match σ.df with
  |[]=>F.pv σ
  |_=>CM C ps F C.n σ
 |
  .panic v,σ=>match v.ids,D.s.G (l:=[]) v () with
  |[],some q=>CM D qs F (fun d=>D.p d q) {σ with hp:=zU jk σ.hp}
  |_,_=>none
 |_,_=>none
theorem zV{P:Program}{G:bH}(T:aY P G){gl:Ctx}{C:eF}{ps:List (Nat×Nat)}{F:SS}{h:C.D→Option C.F.T}{σ:St}{r:F.T}(hr:CM C ps F h σ=some r){pm:Bool}{x:AV}(hx:x.ids= [])
 (hC:∀d y,h d=some y→Jg P gl C.iE pm x (C.args d) (aL (List.replicate C.m none) (C.ins d)) (cJ C.m (C.out y))) {fn:Func} {z:AV} (hF:F.df= []) (aaG:gk G fn.results.toList (F.st y0 r)=some z) {out:List (Nat×aI)} (hout:∀b k,(b,k)∈out→(F.st y0 r).hp[b]? =some (some k)) {m:Nat}
 {E:Env} {a:Act} {w:World} (hg:bO gl σ E a w) {u:Value} (hu:cd E w x u) (hpm:pm=false→u= .nilIface) {O:Nat→Prop} {E0:Env} {w0:World} (hX0:Ext gl.md O E0 w0 (Own σ.hp E) E w):
 LeavesIn (Wd gl) 0 P fn a.tmps (fun e w'=>∃E',rY E' w' (.ret z) e∧HW gl E' w' (cJ m out)∧Ext gl.md O E0 w0 (Own (cJ m out) E') E' w') a.defers (si pm u) w:=by
 have hdfF:(F.st y0 r).df= []:=by
  simp only[SS.st,SS.jS]
  obtain⟨nt',nh,tm,hp,df⟩:=F
  simp only at hF
  subst hF
  rfl
 unfold CM at hr
 split at hr
 ·rename_i fd cs hdf
  split at hr
  ·rename_i L lent ins hL gz
   obtain⟨hc,hr1⟩:=bG hr
   clear hr
   simp only[Bool.and_eq_true] at hc
   obtain⟨hfd,hca⟩:=hc
   have hfd:=Nat.eq_of_beq_eq_true hfd
   subst hfd
   split at hr1
   ·rename_i d hd
    obtain⟨y,hy,hr2⟩:=bind_some hr1
    obtain⟨eM,hr3⟩:=bG hr2
    obtain⟨e1,e2⟩:=eF.dO hd
    obtain⟨hcf,hM⟩:=hC d y hy
    rw[e1,e2] at hM
    have gdf:=hg.df
    rw[hdf] at gdf
    cases hads:a.defers with
    |nil=>rw[hads] at gdf;exact gdf.elim
    |
     cons dd ds=>
     rw[hads] at gdf
     obtain⟨⟨f',c',ed,q1,q2,_,_⟩,hrest⟩:=gdf
     have hds:ds= []:=by
      cases ds with
      |nil=>rfl
      |cons _ _=>exact hrest.elim
     subst hds
     have hf':f'= #[]:=by apply Array.ext';simpa[RC] using q1
     subst hf'
     subst ed
     have hB:=bX σ.hp
     have hlent:=jB hL
     obtain⟨hφ,hw1⟩:=pn (cr:=⟨.bot,ps,[],C.out y,C.m,false,[],[]⟩) hg hB hlent gz eM
     have hmap:(cs.toList.map (fun x=>(x,Ty.unit))).map (·.1)=cs.toList:=by
      simp[List.map_map,Function.comp_def]
     have hvv:=kA hg.hw hB hφ hL (fun g hg=>hg) (by rw[hmap];exact iW.atoms hca q2)
     have hu':cd (E.to ps (E.cu lent).S) w x u:=cd.mono (E:=E) ⟨fun _ _=>rfl,fun _ h=>Or.inl h⟩ (fun b hb=>by rw[hx] at hb;cases hb) hu
     have aat:=hM _ w _ u hvv hu' hpm hw1
     refine leavesIn_cons (F:=Wd gl) (by unfold si;split<;>simp) (fun h=>by cases h) (args:=c'.toList.toArray) ?_ (fun _ _=>trivial) (CallsDIn.mono aat ?_)
     ·simp only[invoke,Array.empty_append]
      exact hcf c' w
     ·rintro e u1 w2 ⟨rfl,⟨v,rfl⟩,E2,hW2,hX2⟩
      obtain⟨E3,g3,_,x3⟩:=iQ (cr:=⟨.bot,ps,[],C.out y,C.m,false,[],[]⟩) hg hB hlent gz eM (fun b hb=>by simp at hb) hW2 hX2 (v:=v) (r':=.bot) rfl trivial
      simp only[List.append_nil] at g3 x3
      have g4:bO gl {σ with hp:=aL σ.hp (jM ps (C.out y) ps),df:=[]} E3 {a with defers:=[]} w2:=⟨g3.len,g3.tm,g3.hw,trivial⟩
      obtain⟨E5,g5,x5⟩:=SS.fF (gl:=gl) hr3 E3 _ w2 g4
      obtain⟨v2,k1,k2⟩:=mA T g5 aaG
      have aL:settle (jU pm u)= .returning:=by
       unfold jU
       cases pm<;>simp[settle]
      show LeavesIn _ _ _ _ _ _ _ _ _
      rw[aL]
      have hw5:HW gl E5 w2 (cJ m out):=g5.hw.less (fun b k hb=>hout b k (dJ hb))
      have X5:=(hX0.trans x3).trans x5
      exact⟨v2,k1,E5,k2,hw5,{X5 with own:=fun g ⟨b,k,hb,hgb⟩=>X5.own g ⟨b,k,hout b k (dJ hb),hgb⟩}⟩
   ·cases hr1
  ·cases hr
 ·cases hr
theorem aT.Ww{P:Program}{G:bH}(T:aY P G){gl:Ctx}{H:Hs}{Γ:List aT}(hΓ:∀C∈Γ,C.holds P gl){C:eF}(hC:C.holds P gl){ps:List (Nat×Nat)}{D:eF}(hD:D.holds P gl){qs:List (Nat×Nat)}{jk:List Nat}(hro:gl.ro=none){rs:List ResultVar}{iE:FuncId}{A:List Sh}{B:List (Nat×dS)}{m nt:Nat}{F:SS}{ob:List Nat}{f:prod (oE A (fE B []))→Option F.T}
 {fn:Func} {c:Code} (aat:∀vs w,(callFunc iE vs).run P w= .ok (.enter iE vs) w) (hf:P.funcs[iE]? =some fn) (hb:fn.body=some c) (hrs:fn.results.toList=rs) (hnt:fn.ntmps=nt) (hF:F.df= [])
 (aaG:∀r:F.T,CK (gk G rs (F.st y0 r))=true)
 (h:∀d,f d=walk P G [] H Γ c gl true (jS nt m (uS y0 A d) (cH (lg y0 B (uT A d)))) (Iw C ps D qs jk F)):
 (aD G rs iE A B m F ob (.bx f)).holds P gl:=by
 refine⟨?_,fun _ _ h=>h.elim⟩
 intro d r hd
 have hd':f d=some r:=hd
 rw[h d] at hd'
 refine⟨aat,?_⟩
 have aao:=il T hΓ (fun _=>hro) (fun _=>aF) hd'
 subst hnt
 have hz:gk G fn.results.toList (F.st y0 r)=some ((gk G rs (F.st y0 r)).getD .bot):=by rw[hrs];exact jT (aaG r)
 have hout:∀b k,(b,k)∈pick ob (F.st y0 r).hp→(F.st y0 r).hp[b]? =some (some k):=fun b k hbk=>gK hbk
 intro E w vs hv hw
 obtain⟨hl,aam⟩:=hv.get
 refine CallsIn.calls (F:=Wd gl) (n:=0) (callsIn_of_wp_defers hf hb trivial ?_ hro) (fun k d hd=>by cases hd)
 have hg:bO gl (jS fn.ntmps m (uS y0 A d) (cH (lg y0 B (uT A d)))) E {tmps:=vs.toArray++Array.replicate (fn.ntmps -vs.toArray.size) undef,defers:=[]} w:=by
  refine⟨?_,?_,hw,trivial⟩
  ·simp only[jS,Array.size_append,List.size_toArray,Array.size_replicate,List.length_append,List.length_replicate]
   rw[←hl];rfl
  ·intro i x hx v hv'
   simp only[jS] at hx
   rw[Array.getElem?_append] at hv'
   simp only[List.getElem?_append] at hx
   split at hx
   ·rename_i hi
    have hl':(uS y0 A d).length=vs.length:=hl
    rw[if_pos (by simpa[hl'] using hi)] at hv'
    exact aam i x v hx (by simpa using hv')
   ·rw[List.getElem?_replicate] at hx
    split at hx
    ·cases hx;trivial
    ·cases hx
 refine wpIn_mono (aao E _ w hg) ?_
 rintro ex a' w' ⟨e,σ',E',h1,he,h3,h4⟩
 have plain:∀{σ:St},σ.df= []→F.pv σ'=some r→bO gl σ' E' a' w'→a'.defers= []→LeavesIn (Wd gl) 0 P fn a'.tmps (fun e w'=>∃E',rY E' w' (.ret ((gk G rs (F.st y0 r)).getD .bot)) e∧HW gl E' w' (cJ m (pick ob (F.st y0 r).hp))∧Ext gl.md (Own (aL (List.replicate m none) (cH (lg y0 B (uT A d)))) E) E w (Own (cJ m (pick ob (F.st y0 r).hp)) E') E' w') a'.defers .returning w':=by
  intro σ _ hm hg' hds
  obtain⟨E5,g5,x5⟩:=SS.fF (gl:=gl) hm E' a' w' hg'
  obtain⟨v2,k1,k2⟩:=mA T g5 hz
  rw[hds]
  have hw5:HW gl E5 w' (cJ m (pick ob (F.st y0 r).hp)):=g5.hw.less (fun b k hb=>hout b k (dJ hb))
  have X5:=h4.trans x5
  exact⟨v2,k1,E5,k2,hw5,{X5 with own:=fun g ⟨b,k,hb,hgb⟩=>X5.own g ⟨b,k,hout b k (dJ hb),hgb⟩}⟩
 have leave:(match σ'.df with
  |[]=>F.pv σ'
  |_=>CM C ps F C.n σ')=some r→LeavesIn (Wd gl) 0 P fn a'.tmps (fun e w'=>∃E',rY E' w' (.ret ((gk G rs (F.st y0 r)).getD .bot)) e∧HW gl E' w' (cJ m (pick ob (F.st y0 r).hp))∧Ext gl.md (Own (aL (List.replicate m none) (cH (lg y0 B (uT A d)))) E) E w (Own (cJ m (pick ob (F.st y0 r).hp)) E') E' w') a'.defers .returning w':=by
  intro he
  cases hd0:σ'.df with
  |
   nil=>
   rw[hd0] at he
   have hds:a'.defers= []:=by
    have:=h3.df
    rw[hd0] at this
    cases hds:a'.defers with
    |nil=>rfl
    |cons d l=>rw[hds] at this;exact this.elim
   exact plain (σ:=σ') hd0 he h3 hds
  |
   cons x l=>
   rw[hd0] at he
   exact zV T (pm:=false) (x:=.fA) he rfl (fun d y hy=>hC.n d y hy) hF hz hout h3 (u:=.nilIface) (Or.inr ⟨rfl,rfl⟩) (fun _=>rfl) h4
 cases e with
 |
  ret=>cases ex with
  |ret=>exact leave he
  |_=>exact h1.elim
 |
  normal=>cases ex with
  |normal=>exact leave he
  |_=>exact h1.elim
 |exit i=>exact no he
 |
  panic v=>
  cases ex with
  |
   panic ch=>
   obtain⟨u,e,hu⟩:=h1
   subst e
   simp only[Iw] at he
   split at he
   ·rename_i q aaH hq
    have hV:=(Sh.rU y0 hq).1
    obtain⟨E2,g2,x2⟩:=Wk.dP (gl:=gl) (l:=jk) (σ:=σ') E' a' w' h3
    have hu2:cd E2 w' v u:=cd.mono (E:=E') (w:=w') ⟨fun b hb=>rfl,x2.sle⟩ (fun b hb=>by rw[aaH] at hb;cases hb) hu
    exact zV T (pm:=true) (x:=v) he aaH (fun d y hy=>by have:=hD.p d q y hy;rw[hV] at this;exact this) hF hz hout g2 hu2 (fun e=>by cases e) (h4.trans x2)
   ·cases he
  |_=>exact h1.elim
end Go.Ax
namespace Go.Ax
def Oz:eo→St→Option St
 | .normal,σ=>some σ
 |_,_=>none
def OA(F:SS):eo→St→Option F.T
 | .ret,σ=>xI F .ret σ
 |_,_=>none
theorem aT.gL{P:Program}{G:bH}(T:aY P G){gl:Ctx}{H:Hs}{Γ:List aT}(hΓ:∀C∈Γ,C.holds P gl)(hro:gl.ro=none){rs:List ResultVar}{iE:FuncId}{A:List Sh}{B:List (Nat×dS)}{m nt:Nat}{F:SS}{ob:List Nat}{f:prod (oE A (fE B []))→Option F.T}
 {fn:Func} {c0 X Y:Code} {rid:Nat} {o1 o2:Oper} (x:Operand) (d1 d2:Nat) (t t2 e:TypeId) (bs:Nat) (u:Ty) (xs:prod (oE A (fE B []))→List u.den) (σ1:prod (oE A (fE B []))→St)
 (aat:∀vs w,(callFunc iE vs).run P w= .ok (.enter iE vs) w) (hf:P.funcs[iE]? =some fn) (hb:fn.body=some (.seq c0 (.seq (.seq (.region rid #[o1,o2] false) (.cond (.tmp d2) X .skip)) Y))) (hrs:fn.results.toList=rs) (hnt:fn.ntmps=nt) (hF:F.df= [])
 (h1:o1.op= .move x) (hd1:o1.dst=some d1) (hg1:o1.guard=none) (h2:o2.op= .binOp .eql t (.tmp d1) (.const (.slice none 0 0)) t2) (hd2:o2.dst=some d2) (hg2:o2.guard=none) (ht:P.underlying t=some (.slice e))
 (aaG:∀r:F.T,CK (gk G rs (F.st y0 r))=true)
 (hA:∀d,walk P G [] H Γ c0 gl true (jS nt m (uS y0 A d) (cH (lg y0 B (uT A d)))) Oz=some (σ1 d))
 (hx:∀d,bw gl (σ1 d).tm x= .val (.slice bs u) (xs d)) (hl:∀d,Nat.blt d1 (σ1 d).tm.length=true) (hl2:∀d b,bw gl (((σ1 d).put (some d1) (.val (.slice bs u) (xs d))).put (some d2) (.val .bool b)).tm (.tmp d2)= .val .bool b)
 (hX:∀d,xs d= []→f d=walk P G [] H Γ X gl true (((σ1 d).put (some d1) (.val (.slice bs u) (xs d))).put (some d2) (.val .bool true)) (OA F))
 (hY:∀d,f d=walk P G [] H Γ Y gl true (((σ1 d).put (some d1) (.val (.slice bs u) (xs d))).put (some d2) (.val .bool false)) (xI F)):
 (aD G rs iE A B m F ob (.bx f)).holds P gl:=by
 refine⟨?_,fun _ _ h=>h.elim⟩
 intro d r hd
 have hd':f d=some r:=hd
 refine⟨aat,?_⟩
 subst hnt
 refine oB.tk T hf hb hro (σe:=F.st y0 r) ?_ ?_ ?_ ?_
 ·refine cw.seq (cw.mono (il T hΓ (fun _=>hro) (fun _=>aF) (hA d)) ?_)
  intro e' σ he
  cases e' with
  |
   normal=>
   have:σ=σ1 d:=Option.some.inj he
   subst this
   refine cw.seq ?_
   refine cw.G6 x d1 d2 t t2 e bs u (xs d) h1 hd1 hg1 h2 hd2 hg2 (hx d) ht (hl d) ?_
   intro b hbx
   cases b with
   |
    true=>
    refine cw.cond (hl2 d true) (fun _=>?_) (fun e=>by cases e)
    have hw:=hX d (hbx rfl)
    rw[hd'] at hw
    refine cw.mono (il T hΓ (fun _=>hro) (fun _=>aF) hw.symm) ?_
    intro e2 σ2 he2
    cases e2 with
    |ret=>exact oN he2
    |_=>exact no he2
   |
    false=>
    refine cw.cond (hl2 d false) (fun e=>by cases e) (fun _=>cw.skip ?_)
    have hw:=hY d
    rw[hd'] at hw
    refine cw.mono (il T hΓ (fun _=>hro) (fun _=>aF) hw.symm) ?_
    intro e2 σ2 he2
    cases e2 with
    |ret=>exact oN he2
    |normal=>exact oN he2
    |_=>exact no he2
  |_=>exact no he
 ·show(F.st y0 r).df= []
  simp only[SS.st,SS.jS]
  obtain⟨nt',nh,tm,hp,df⟩:=F
  simp only at hF
  subst hF
  rfl
 ·rw[hrs];exact jT (aaG r)
 ·intro b k hbk;exact gK hbk
end Go.Ax
namespace Go.Ax
theorem fT{x:Int}(h1:-9223372036854775808≤x)(h2:x≤9223372036854775807):aV x=x:=by
 show IntKind.i64.wrap x=x
 simp only[IntKind.wrap,IntKind.bits,IntKind.signed]
 simp
 omega
theorem aJ{i:Nat}(h:i≤4611686018427387904):aV ((i:Int)+1)=((i+1:Nat):Int):=by
 rw[fT (by omega) (by omega)];rfl
theorem Ji{t:Ty}{xs:List t.den}{i:Nat}(h:i<xs.length):nth t xs (i:Int)=xs[i]:=by
 simp[nth,List.getD,h]
theorem fw{kt:Ty}(hk:kt.keyed=true)(k:kt.den):aU kt k k=true:=(bW hk k k).2 rfl
theorem lY{kt:Ty}(hk:kt.keyed=true){p k:kt.den}(h:p≠k):aU kt p k=false:=by
 cases he:aU kt p k with
 |false=>rfl
 |true=>exact absurd ((bW hk p k).1 he) h
theorem jV{α:Type}{kt:Ty}(hk:kt.keyed=true)(k:kt.den)(v:α):∀es:List (kt.den×α),cp kt k (bz kt k v es)=true
 |[]=>by simp[bz,cp,fw hk]
 |
  e::es=>by
  simp only[bz]
  split
  ·simp[cp,fw hk]
  ·simp[cp,jV hk k v es]
theorem lZ{α:Type}{kt:Ty}(hk:kt.keyed=true){p k:kt.den}(h:p≠k)(v:α):∀es:List (kt.den×α),cp kt p (bz kt k v es)=cp kt p es
 |[]=>by simp[bz,cp,lY hk h]
 |
  e::es=>by
  simp only[bz]
  split
  ·rename_i he
   have:=(bW hk k e.1).1 he
   rw[this] at h
   simp[cp,this,lY hk h]
  ·simp[cp,lZ hk h v es]
theorem gM{kt vt:Ty}(hk:kt.keyed=true)(k:kt.den)(v:vt.den):∀es:List (kt.den×vt.den),bJ kt vt k (bz kt k v es)=v
 |[]=>by simp[bz,bJ,fw hk]
 |
  e::es=>by
  simp only[bz]
  split
  ·simp[bJ,fw hk]
  ·rename_i he
   simp[bJ,he,gM hk k v es]
theorem fh{kt vt:Ty}(hk:kt.keyed=true){p k:kt.den}(h:p≠k)(v:vt.den):∀es:List (kt.den×vt.den),bJ kt vt p (bz kt k v es)=bJ kt vt p es
 |[]=>by simp[bz,bJ,lY hk h]
 |
  e::es=>by
  simp only[bz]
  split
  ·rename_i he
   have:=(bW hk k e.1).1 he
   rw[this] at h
   simp[bJ,this,lY hk h]
  ·simp[bJ,fh hk h v es]
end Go.Ax
namespace Go.Ax
theorem aP{U R:Type}(F:(U→Option R)→U→Option R)(n:Nat)(u:U):aH F (n+1) u=F (aH F n) u:=rfl
theorem CN{U R:Type}{F:(U→Option R)→U→Option R}(I:U→Prop)(μ:U→Nat)(Q:U→Option R→Prop)
 (h:∀rec u,I u→(∀u',I u'→μ u'<μ u→Q u' (rec u'))→Q u (F rec u)):∀n u,I u→μ u<n→Q u (aH F n u):=by
 intro n
 induction n with
 |zero=>intro u _ hn;omega
 |
  succ n ih=>
  intro u hu hn
  rw[aP]
  exact h _ u hu fun u' hu' hlt=>ih u' hu' (by omega)
theorem aG{U R:Type}(d:U)(f:U→Option R):aE (some (.brk d)) f=f d:=rfl
theorem dM{U R:Type}(r:R)(f:U→Option R):aE (some (.ret r)) f=some r:=rfl
theorem Lu{U R:Type}(r:R):(bP (some r):Option (cz U R))=some (.ret r):=rfl
theorem dK{R:Type}(y:YC)(x:Option R):Ca y y x=x:=by unfold Ca;rw[if_pos rfl]
theorem kE{R:Type}{F:YC→Option R}{r:R}(h:∀y,F y=some r):pX F=some r:=by
 unfold pX
 rw[dif_pos ⟨r,h⟩]
 have hc:=Classical.choose_spec (⟨r,h⟩:∃r,∀y,F y=some r)
 have:=hc y0
 rw[h] at this
 exact this.symm▸rfl
theorem ES{A R:Type}{xs:List A}{K:A→List A→Option R}{r:R}(hne:xs≠[])(h:∀i(hi:i<xs.length),K xs[i] (xs.eraseIdx i)=some r):BR xs K=some r:=by
 unfold BR
 rw[dif_pos ⟨r,h⟩]
 have hc:=Classical.choose_spec (⟨r,h⟩:∃r,∀i(h:i<xs.length),K xs[i] (xs.eraseIdx i)=some r)
 have h0:0<xs.length:=List.length_pos_iff.2 hne
 have:=hc 0 h0
 rw[h 0 h0] at this
 exact this.symm▸rfl
theorem gd{α:Type}{c:Prop}[Decidable c]{x y:α}(h:c):(if c then x else y)=x:=if_pos h
theorem db{t:Ty}{xs:List t.den}{i:Nat}(h:i<xs.length):nth t xs (i:Int)=xs[i]:=Ji h
theorem scan{U R β:Type}{F:(U→Option (cz β R))→U→Option (cz β R)}(len:Nat)(at_:Nat→U)(b:β)(C:Nat→Prop)(P:R→Prop)
 (step:∀rec i,i<len→(C i∧F rec (at_ i)=rec (at_ (i+1)))∨∃r,P r∧F rec (at_ i)=some (.ret r))
 (stop:∀rec,F rec (at_ len)=some (.brk b)):
 ∀n i,i≤len→len -i<n→((∀j,i≤j→j<len→C j)∧aH F n (at_ i)=some (.brk b))∨∃r,P r∧aH F n (at_ i)=some (.ret r):=by
 intro n
 induction n with
 |zero=>intro i _ h;omega
 |
  succ n ih=>
  intro i hi hn
  rw[aP]
  by_cases h:i<len
  ·rcases step (aH F n) i h with⟨hc,e⟩|⟨r,hp,e⟩
   ·rw[e]
    rcases ih (i+1) (by omega) (by omega) with⟨h1,h2⟩|h2
    ·refine Or.inl ⟨fun j h3 h4=>?_,h2⟩
     by_cases hj:j=i
     ·subst hj;exact hc
     ·exact h1 j (by omega) h4
    ·exact Or.inr h2
   ·exact Or.inr ⟨r,hp,e⟩
  ·have:i=len:=by omega
   subst this
   exact Or.inl ⟨fun j h3 h4=>absurd h4 (by omega),stop _⟩
theorem xJ{n:Nat}(h:n≤aC):n<ff:=by
 have h1:aC=140737488355328:=rfl
 have h2:ff=18446744073709551616:=rfl
 omega
end Go.Ax
namespace Go.Ax
theorem Lv{U R β:Type}{F:(U→Option (cz β R))→U→Option (cz β R)}{L:Nat→U→Option (cz β R)}(hL:L=aH F)(len:Nat)(at_:Nat→U)(b:β)(C:Nat→Prop)(P:R→Prop)
 (step:∀rec i,i<len→(C i∧F rec (at_ i)=rec (at_ (i+1)))∨∃r,P r∧F rec (at_ i)=some (.ret r))
 (stop:∀rec,F rec (at_ len)=some (.brk b)) (n:Nat) (hn:len<n):((∀j,j<len→C j)∧L n (at_ 0)=some (.brk b))∨∃r,P r∧L n (at_ 0)=some (.ret r):=by
 subst hL
 rcases scan len at_ b C P step stop n 0 (by omega) (by omega) with⟨h1,h2⟩|h
 ·exact Or.inl ⟨fun j hj=>h1 j (by omega) hj,h2⟩
 ·exact Or.inr h
theorem VA{U R β S:Type}{F:(U→Option (cz β R))→U→Option (cz β R)}{L:Nat→U→Option (cz β R)}(hL:L=aH F)(len:Nat)(at_:Nat→S→U)(end_:S→β)(g:Nat→S→S)(I:Nat→S→Prop)
 (step:∀rec i s,i<len→I i s→F rec (at_ i s)=rec (at_ (i+1) (g i s))∧I (i+1) (g i s))
 (stop:∀rec s,I len s→F rec (at_ len s)=some (.brk (end_ s))):
 ∀n i s,i≤len→len -i<n→I i s→∃s',s'=(List.range' i (len -i)).foldl (fun s j=>g j s) s∧I len s'∧L n (at_ i s)=some (.brk (end_ s')):=by
 subst hL
 intro n
 induction n with
 |zero=>intro i s _ h;omega
 |
  succ n ih=>
  intro i s hi hn hI
  rw[aP]
  by_cases h:i<len
  ·obtain⟨e,hI'⟩:=step (aH F n) i s h hI
   rw[e]
   obtain⟨s',h1,h2,h3⟩:=ih (i+1) (g i s) (by omega) (by omega) hI'
   refine⟨s',?_,h2,h3⟩
   rw[show len -i=(len -(i+1))+1 from by omega,List.range'_succ,List.foldl_cons]
   exact h1
  ·have:i=len:=by omega
   subst this
   refine⟨s,by simp,hI,stop _ s hI⟩
end Go.Ax
namespace Go.Ax
def W{R:Type}(x:Option R)(P:R→Prop):Prop:=∃r,x=some r∧P r
def CT{U R:Type}(B:U→Prop)(Q:R→Prop):cz U R→Prop
 | .brk d=>B d
 | .ret r=>Q r
def ST{A B:Type}(P:A→Prop)(Q:B→Prop):Sum A B→Prop
 | .inl a=>P a
 | .inr b=>Q b
theorem fU{U R:Type}{B:U→Prop}{Q:R→Prop}{d:U}:CT B Q (.brk d)↔B d:=Iff.rfl
theorem OB{U R:Type}{B:U→Prop}{Q:R→Prop}{r:R}:CT B Q (.ret r)↔Q r:=Iff.rfl
theorem OC{A B:Type}{P:A→Prop}{Q:B→Prop}{a:A}:ST P Q (.inl a)↔P a:=Iff.rfl
theorem OD{A B:Type}{P:A→Prop}{Q:B→Prop}{b:B}:ST P Q (.inr b)↔Q b:=Iff.rfl
theorem mY{R:Type}{a:R}{P:R→Prop}:W (some a) P↔P a:=⟨fun⟨_,h,p⟩=>(by cases h;exact p),fun h=>⟨a,rfl,h⟩⟩
theorem OE{R:Type}{P:R→Prop}:W (none:Option R) P↔False:=⟨fun⟨_,h,_⟩=>(by cases h),False.elim⟩
theorem gN{A R:Type}{x:Option A}{f:A→Option R}{P:R→Prop}:W (Option.bind x f) P↔W x fun a=>W (f a) P:=by
 cases x with
 |none=>exact⟨fun⟨_,h,_⟩=>(by cases h),fun⟨_,h,_⟩=>(by cases h)⟩
 |some a=>exact⟨fun⟨r,h,p⟩=>⟨a,rfl,r,h,p⟩,fun⟨a',h,r,h2,p⟩=>(by cases h;exact⟨r,h2,p⟩)⟩
theorem VB{R:Type}{c:Prop}[Decidable c]{x y:Option R}{P:R→Prop}:W (if c then x else y) P↔(c→W x P)∧(¬c→W y P):=by
 by_cases h:c
 ·rw[if_pos h];exact⟨fun w=>⟨fun _=>w,fun n=>absurd h n⟩,fun w=>w.1 h⟩
 ·rw[if_neg h];exact⟨fun w=>⟨fun n=>absurd n h,fun _=>w⟩,fun w=>w.2 h⟩
theorem bQ{U R:Type}{x:Option (cz U R)}{f:U→Option R}{P:R→Prop}:W (aE x f) P↔W x (CT (fun d=>W (f d) P) P):=by
 unfold aE
 rw[gN]
 refine⟨fun⟨c,h,p⟩=>⟨c,h,?_⟩,fun⟨c,h,p⟩=>⟨c,h,?_⟩⟩
 ·cases c with
  |brk d=>exact p
  |ret r=>exact(mY (a:=r) (P:=P)).1 p
 ·cases c with
  |brk d=>exact p
  |ret r=>exact(mY (a:=r) (P:=P)).2 p
theorem OF{U R:Type}{x:Option R}{Q:cz U R→Prop}:W (bP x) Q↔W x fun r=>Q (.ret r):=by
 cases x with
 |none=>exact⟨fun⟨_,h,_⟩=>(by cases h),fun⟨_,h,_⟩=>(by cases h)⟩
 |some a=>exact⟨fun⟨r,h,p⟩=>(by cases h;exact⟨a,rfl,p⟩),fun⟨r,h,p⟩=>(by cases h;exact⟨_,rfl,p⟩)⟩
theorem i7{A B R:Type}{x:Option (Sum A B)}{kp:A→Option R}{k:B→Option R}{P:R→Prop}:W (dG x kp k) P↔W x (ST (fun a=>W (kp a) P) fun b=>W (k b) P):=by
 unfold dG
 rw[gN]
 refine⟨fun⟨c,h,p⟩=>⟨c,h,?_⟩,fun⟨c,h,p⟩=>⟨c,h,?_⟩⟩<;>cases c<;>exact p
theorem W.mono{R:Type}{x:Option R}{P Q:R→Prop}(h:W x P)(hq:∀r,P r→Q r):W x Q:=h.imp fun r h=>⟨h.1,hq r h.2⟩
theorem CT.mono{U R:Type}{B B':U→Prop}{Q Q':R→Prop}(hb:∀d,B d→B' d)(hq:∀r,Q r→Q' r)(c:cz U R)(h:CT B Q c):CT B' Q' c:=by
 cases c with
 |brk d=>exact hb d h
 |ret r=>exact hq r h
theorem W.ct{U R:Type}{x:Option (cz U R)}{B B':U→Prop}{Q Q':R→Prop}(h:W x (CT B Q))(hb:∀d,B d→B' d)(hq:∀r,Q r→Q' r):W x (CT B' Q'):=h.mono (CT.mono hb hq)
theorem W.st{A B:Type}{x:Option (Sum A B)}{P P':A→Prop}{Q Q':B→Prop}(h:W x (ST P Q))(hp:∀a,P a→P' a)(hq:∀b,Q b→Q' b):W x (ST P' Q'):=
 h.mono fun c hc=>by cases c with
  |inl a=>exact hp a hc
  |inr b=>exact hq b hc
theorem W.iter{U R:Type}{F:(U→Option R)→U→Option R}{P:R→Prop}(I:U→Prop)(μ:U→Nat)
 (h:∀rec u,I u→(∀u',I u'→μ u'<μ u→W (rec u') P)→W (F rec u) P):∀n u,I u→μ u<n→W (aH F n u) P:=
 CN I μ (fun _ x=>W x P) h
theorem da{t:Ty}{l:List t.den}{a:Int}(h0:0≤a)(h1:a<(l.length:Int)):nth t l a∈l:=by
 have h:a.toNat<l.length:=by omega
 have e:a=(a.toNat:Int):=by omega
 rw[e,db h]
 exact List.getElem_mem h
end Go.Ax
namespace Go.Ax
theorem vZ{U R β:Type}{F:(U→Option (cz β R))→U→Option (cz β R)}{f:β→Option R}{n:Nat}(Q:Option R→Prop)(len:Nat)(at_:Nat→U)(b:β)(C:Nat→Prop)(P:R→Prop)
 (hn:len<n)
 (step:∀rec i,i<len→(C i∧F rec (at_ i)=rec (at_ (i+1)))∨∃r,P r∧F rec (at_ i)=some (.ret r))
 (stop:∀rec,F rec (at_ len)=some (.brk b)) (h1:(∀j,j<len→C j)→Q (f b)) (h2:∀r,P r→Q (some r)):Q (aE (aH F n (at_ 0)) f):=by
 rcases Lv (L:=aH F) rfl len at_ b C P step stop n hn with⟨h3,e⟩|⟨r,h3,e⟩
 ·rw[e,aG];exact h1 h3
 ·rw[e,dM];exact h2 r h3
theorem jW{t:Ty}{l:List t.den}{i:Nat}(h:i<l.length):nth t l (i:Int)∈l:=db (t:=t) h▸List.getElem_mem h
theorem ET{E:Type}(t:Ty)(p:t.den→E→Option (Bool×E))(l:List t.den)(e0:E)(q:t.den→Bool)(hp:∀x∈l,p x e0=some (q x,e0))(hl:l.length≤aC):
 ∃r:Int,aE (U:=E) ((aH fun rec(u:List t.den×Int×Int×E)=>match u with|⟨e,d,c,f⟩=>if(decide (c<d))=true then(if 0≤c then(if c<(List.length e:Int) then(Option.bind (p (nth t e c) f) fun⟨a,b⟩=>if a=true then(bP (some (c,b))) else(rec (e,d,aV (c+(1:Int)),b))) else none) else none) else(some (.brk f))) (Int.toNat (List.length l:Int)+1) (l,(List.length l:Int),(0:Int),e0)) (fun v1=>some ((-1:Int),v1))=some (r,e0)∧(0≤r↔∃x∈l,q x=true):=by
 have hB:aC=140737488355328:=rfl
 refine vZ (fun z=>∃r:Int,z=some (r,e0)∧(0≤r↔∃x∈l,q x=true)) l.length (fun i=>(l,(l.length:Int),(i:Int),e0)) e0 (fun i=>∀h:i<l.length,q l[i]=false) (fun r:Int×E=>∃i,∃h:i<l.length,q l[i]=true∧r=((i:Int),e0)) (by omega) ?step ?stop ?h1 ?h2
 case step=>
  intro rec i hi
  dsimp only
  have d1:decide ((i:Int)<(l.length:Int))=true:=decide_eq_true (by omega)
  rw[if_pos d1,if_pos (Int.natCast_nonneg i),if_pos (show(i:Int)<(l.length:Int) by omega),hp _ (jW hi),Option.bind_some]
  dsimp only
  rw[db (t:=t) hi]
  cases hq:q l[i] with
  |true=>exact Or.inr ⟨_,⟨i,hi,hq,rfl⟩,rfl⟩
  |
   false=>
   rw[if_neg (by decide),aJ (by omega)]
   exact Or.inl ⟨fun _=>hq,rfl⟩
 case stop=>
  intro rec
  dsimp only
  rw[if_neg (by simp only[decide_eq_true_eq];omega)]
 case h1=>
  intro h1
  refine⟨-1,rfl,?_⟩
  constructor
  ·intro h;omega
  ·rintro⟨x,hx,hq⟩
   obtain⟨j,hj,rfl⟩:=List.getElem_of_mem hx
   rw[h1 j hj hj] at hq
   cases hq
 case h2=>
  rintro _ ⟨i,hi,hq,rfl⟩
  exact⟨(i:Int),rfl,⟨fun _=>⟨_,List.getElem_mem hi,hq⟩,fun _=>Int.natCast_nonneg i⟩⟩
theorem OG{E:Type}(t:Ty)(p:t.den→E→Option Bool)(l:List t.den)(e0:E)(q:t.den→Bool)(hp:∀x∈l,p x e0=some (q x))(hl:l.length≤aC):
 ∃r:Int,aE (U:=Unit) ((aH fun rec(u:List t.den×E×Int×Int)=>match u with|⟨c,d,b,a⟩=>if(decide (a<b))=true then(if 0≤a then(if a<(List.length c:Int) then(Option.bind (p (nth t c a) d) fun y4=>if y4=true then(bP (some a)) else(rec (c,d,b,aV (a+(1:Int))))) else none) else none) else(some (.brk ()))) (Int.toNat (List.length l:Int)+1) (l,e0,(List.length l:Int),(0:Int))) (fun _=>some (-1:Int))=some r∧(0≤r↔∃x∈l,q x=true):=by
 have hB:aC=140737488355328:=rfl
 refine vZ (fun z=>∃r:Int,z=some r∧(0≤r↔∃x∈l,q x=true)) l.length (fun i=>(l,e0,(l.length:Int),(i:Int))) () (fun i=>∀h:i<l.length,q l[i]=false) (fun r:Int=>∃i,∃h:i<l.length,q l[i]=true∧r=(i:Int)) (by omega) ?step ?stop ?h1 ?h2
 case step=>
  intro rec i hi
  dsimp only
  have d1:decide ((i:Int)<(l.length:Int))=true:=decide_eq_true (by omega)
  rw[if_pos d1,if_pos (Int.natCast_nonneg i),if_pos (show(i:Int)<(l.length:Int) by omega),hp _ (jW hi),Option.bind_some,db (t:=t) hi]
  cases hq:q l[i] with
  |true=>exact Or.inr ⟨_,⟨i,hi,hq,rfl⟩,rfl⟩
  |
   false=>
   rw[if_neg (by decide),aJ (by omega)]
   exact Or.inl ⟨fun _=>hq,rfl⟩
 case stop=>
  intro rec
  dsimp only
  rw[if_neg (by simp only[decide_eq_true_eq];omega)]
 case h1=>
  intro h1
  refine⟨-1,rfl,?_⟩
  constructor
  ·intro h;omega
  ·rintro⟨x,hx,hq⟩
   obtain⟨j,hj,rfl⟩:=List.getElem_of_mem hx
   rw[h1 j hj hj] at hq
   cases hq
 case h2=>
  rintro _ ⟨i,hi,hq,rfl⟩
  exact⟨(i:Int),rfl,⟨fun _=>⟨_,List.getElem_mem hi,hq⟩,fun _=>Int.natCast_nonneg i⟩⟩
theorem OH(t:Ty)(p:t.den→Option Bool)(l:List t.den)(q:t.den→Bool)(hp:∀x∈l,p x=some (q x))(hl:l.length≤aC):
 ∃r:Int,aE (U:=Unit) ((aH fun rec(u:List t.den×Int×Int)=>match u with|⟨c,b,a⟩=>if(decide (a<b))=true then(if 0≤a then(if a<(List.length c:Int) then(Option.bind (p (nth t c a)) fun y4=>if y4=true then(bP (some a)) else(rec (c,b,aV (a+(1:Int))))) else none) else none) else(some (.brk ()))) (Int.toNat (List.length l:Int)+1) (l,(List.length l:Int),(0:Int))) (fun _=>some (-1:Int))=some r∧(0≤r↔∃x∈l,q x=true):=by
 have hB:aC=140737488355328:=rfl
 refine vZ (fun z=>∃r:Int,z=some r∧(0≤r↔∃x∈l,q x=true)) l.length (fun i=>(l,(l.length:Int),(i:Int))) () (fun i=>∀h:i<l.length,q l[i]=false) (fun r:Int=>∃i,∃h:i<l.length,q l[i]=true∧r=(i:Int)) (by omega) ?step ?stop ?h1 ?h2
 case step=>
  intro rec i hi
  dsimp only
  have d1:decide ((i:Int)<(l.length:Int))=true:=decide_eq_true (by omega)
  rw[if_pos d1,if_pos (Int.natCast_nonneg i),if_pos (show(i:Int)<(l.length:Int) by omega),hp _ (jW hi),Option.bind_some,db (t:=t) hi]
  cases hq:q l[i] with
  |true=>exact Or.inr ⟨_,⟨i,hi,hq,rfl⟩,rfl⟩
  |
   false=>
   rw[if_neg (by decide),aJ (by omega)]
   exact Or.inl ⟨fun _=>hq,rfl⟩
 case stop=>
  intro rec
  dsimp only
  rw[if_neg (by simp only[decide_eq_true_eq];omega)]
 case h1=>
  intro h1
  refine⟨-1,rfl,?_⟩
  constructor
  ·intro h;omega
  ·rintro⟨x,hx,hq⟩
   obtain⟨j,hj,rfl⟩:=List.getElem_of_mem hx
   rw[h1 j hj hj] at hq
   cases hq
 case h2=>
  rintro _ ⟨i,hi,hq,rfl⟩
  exact⟨(i:Int),rfl,⟨fun _=>⟨_,List.getElem_mem hi,hq⟩,fun _=>Int.natCast_nonneg i⟩⟩
theorem K6(t:Ty)(p:t.den→t.den→Option Bool)(x y:List t.den)(hp:∀a∈x,∀b∈y,∃r,p a b=some r)(hl:x.length=y.length→x.length≤aC):
 ∃r:Bool,(if(!decide ((List.length x:Int)=(List.length y:Int)))=true then(some false) else(aE (U:=Unit) ((aH fun rec(u:List t.den×List t.den×Int×Int)=>match u with|⟨d,c,b,a⟩=>if(decide (a<b))=true then(if 0≤a then(if a<(List.length c:Int) then(if 0≤a then(if a<(List.length d:Int) then(Option.bind (p (nth t c a) (nth t d a)) fun y4=>if(!y4)=true then(bP (some false)) else(rec (d,c,b,aV (a+(1:Int))))) else none) else none) else none) else none) else(some (.brk ()))) (Int.toNat (List.length x:Int)+1) (y,x,(List.length x:Int),(0:Int))) fun _=>some true))=some r:=by
 have hB:aC=140737488355328:=rfl
 by_cases hxy:x.length=y.length
 ·have hl:=hl hxy
  rw[if_neg (by simp[hxy])]
  refine vZ (fun z=>∃r:Bool,z=some r) x.length (fun i=>(y,x,(x.length:Int),(i:Int))) () (fun _=>True) (fun _:Bool=>True) (by omega) ?step ?stop ?h1 ?h2
  case step=>
   intro rec i hi
   dsimp only
   obtain⟨r,hr⟩:=hp _ (jW hi) _ (jW (t:=t) (l:=y) (i:=i) (by omega))
   rw[if_pos (decide_eq_true (by omega)),if_pos (Int.natCast_nonneg i),if_pos (by omega),if_pos (Int.natCast_nonneg i),if_pos (by omega),hr,Option.bind_some]
   cases r with
   |false=>exact Or.inr ⟨false,trivial,rfl⟩
   |
    true=>
    rw[if_neg (by decide),aJ (by omega)]
    exact Or.inl ⟨trivial,rfl⟩
  case stop=>
   intro rec
   dsimp only
   rw[if_neg (by simp only[decide_eq_true_eq];omega)]
  case h1=>exact fun _=>⟨true,rfl⟩
  case h2=>exact fun r _=>⟨r,rfl⟩
 ·exact⟨false,if_pos (by simp;omega)⟩
theorem Ev(t:Ty)(q:t.den→t.den→Bool)(x y:List t.den)(hl:x.length=y.length→x.length≤aC):
 ∃r:Bool,(if(!decide ((List.length x:Int)=(List.length y:Int)))=true then(some false) else(aE (U:=Unit) ((aH fun rec(u:List t.den×List t.den×Int×Int)=>match u with|⟨c,d,b,a⟩=>if(decide (a<b))=true then(if 0≤a then(if a<(List.length c:Int) then(if 0≤a then(if a<(List.length d:Int) then(if(!q (nth t c a) (nth t d a))=true then(bP (some false)) else(rec (c,d,b,aV (a+(1:Int))))) else none) else none) else none) else none) else(some (.brk ()))) (Int.toNat (List.length x:Int)+1) (x,y,(List.length x:Int),(0:Int))) fun _=>some true))=some r:=by
 have hB:aC=140737488355328:=rfl
 by_cases hxy:x.length=y.length
 ·have hl:=hl hxy
  rw[if_neg (by simp[hxy])]
  refine vZ (fun z=>∃r:Bool,z=some r) x.length (fun i=>(x,y,(x.length:Int),(i:Int))) () (fun _=>True) (fun _:Bool=>True) (by omega) ?step ?stop ?h1 ?h2
  case step=>
   intro rec i hi
   dsimp only
   rw[if_pos (decide_eq_true (by omega)),if_pos (Int.natCast_nonneg i),if_pos (by omega),if_pos (Int.natCast_nonneg i),if_pos (by omega)]
   cases q (nth t x i) (nth t y i) with
   |false=>exact Or.inr ⟨false,trivial,rfl⟩
   |
    true=>
    rw[if_neg (by decide),aJ (by omega)]
    exact Or.inl ⟨trivial,rfl⟩
  case stop=>
   intro rec
   dsimp only
   rw[if_neg (by simp only[decide_eq_true_eq];omega)]
  case h1=>exact fun _=>⟨true,rfl⟩
  case h2=>exact fun r _=>⟨r,rfl⟩
 ·exact⟨false,if_pos (by simp;omega)⟩
end Go.Ax
namespace Go.Ax
theorem eG{α:Type}{kt:Ty}{k:kt.den}{v:α}:∀{es:List (kt.den×α)}{p:kt.den×α},p∈bz kt k v es→p=(k,v)∨p∈es
 |
  [],p,h=>by
  simp only[bz,List.mem_singleton] at h
  exact Or.inl h
 |
  e::es,p,h=>by
  unfold bz at h
  split at h
  ·rcases List.mem_cons.1 h with h|h
   ·exact Or.inl h
   ·exact Or.inr (List.mem_cons_of_mem _ h)
  ·rcases List.mem_cons.1 h with h|h
   ·exact Or.inr (h▸List.mem_cons_self ..)
   ·rcases eG h with h|h
    ·exact Or.inl h
    ·exact Or.inr (List.mem_cons_of_mem _ h)
def VR(n:Nat)(M:List (List UInt8×Int)):Prop:=∀p∈M,0≤p.2∧p.2<(n:Int)
theorem VR.get{n:Nat}{M:List (List UInt8×Int)}(h:VR n M){k:List UInt8}(hk:cp .str k M=true):0≤bJ .str (.int .i64) k M∧bJ .str (.int .i64) k M<(n:Int):=by
 obtain⟨i,hi⟩:=mF (kt:=.str) (vt:=.int .i64) rfl hk
 exact h _ (List.mem_of_getElem? hi)
theorem iJ(t:Ty)(nm:t.den→Option (List UInt8))(g:t.den→List UInt8)(hn:∀x,nm x=some (g x))(l:List t.den)(hl:l.length≤aC):
 ∃M b,VR l.length M∧aE (U:=Bool×List (List UInt8×Int)) ((aH fun rec(u:Bool×List t.den×Int×Int×List (List UInt8×Int))=>match u with|⟨e,c,b,a,d⟩=>if(decide (a<b))=true then(if 0≤a then(if a<(List.length c:Int) then(Option.bind (nm (nth t c a)) fun y4=>if(cp .str y4 d)=true then(rec (true,c,b,aV (a+(1:Int)),d)) else(Option.bind (nm (nth t c a)) fun y5=>if List.length d+1≤aC then(rec (e,c,b,aV (a+(1:Int)),bz .str y5 a d)) else none)) else none) else none) else(some (.brk (e,d))):Nat→_→Option (cz (Bool×List (List UInt8×Int)) (Option (List (List UInt8×Int))×Bool))) (Int.toNat (List.length l:Int)+1) (false,l,(List.length l:Int),(0:Int),([]:List (List UInt8×Int)))) (fun u=>match u with|⟨b,a⟩=>some (some a,b))=some (some M,b):=by
 have hB:aC=140737488355328:=rfl
 suffices key:∀(n i:Nat)(e:Bool)(d:List (List UInt8×Int)),l.length -i<n→i≤l.length→d.length≤i→VR l.length d→∃M b,VR l.length M∧aE (U:=Bool×List (List UInt8×Int)) ((aH fun rec(u:Bool×List t.den×Int×Int×List (List UInt8×Int))=>match u with|⟨e,c,b,a,d⟩=>if(decide (a<b))=true then(if 0≤a then(if a<(List.length c:Int) then(Option.bind (nm (nth t c a)) fun y4=>if(cp .str y4 d)=true then(rec (true,c,b,aV (a+(1:Int)),d)) else(Option.bind (nm (nth t c a)) fun y5=>if List.length d+1≤aC then(rec (e,c,b,aV (a+(1:Int)),bz .str y5 a d)) else none)) else none) else none) else(some (.brk (e,d))):Nat→_→Option (cz (Bool×List (List UInt8×Int)) (Option (List (List UInt8×Int))×Bool))) n (e,l,(List.length l:Int),(i:Int),d)) (fun u=>match u with|⟨b,a⟩=>some (some a,b))=some (some M,b) from
  key _ 0 false [] (by omega) (by omega) (by simp) fun p hp=>by cases hp
 intro n
 induction n with
 |zero=>intro i e d h;omega
 |
  succ n ih=>
  intro i e d hn' hi hd hv
  rw[aP]
  generalize aH _ n=rec at ih ⊢
  dsimp only
  by_cases h:i<l.length
  ·rw[if_pos (decide_eq_true (by omega)),if_pos (Int.natCast_nonneg i),if_pos (show(i:Int)<(l.length:Int) by omega),hn,Option.bind_some,aJ (by omega)]
   split
   ·exact ih (i+1) true d (by omega) (by omega) (by omega) hv
   ·rw[Option.bind_some,if_pos (by omega)]
    refine ih (i+1) e _ (by omega) (by omega) (Nat.le_trans (dA (kt:=.str)) (by omega)) fun p hp=>?_
    rcases eG (kt:=.str) hp with rfl|hp
    ·exact⟨Int.natCast_nonneg i,by show(i:Int)<_;omega⟩
    ·exact hv p hp
  ·rw[if_neg (by simp only[decide_eq_true_eq];omega)]
   exact⟨d,e,hv,rfl⟩
end Go.Ax
namespace Go.Ax
theorem ck{S U R:Type}{L:Nat→U→Option R}{F:(U→Option R)→U→Option R}(e:L=aH F)(P:R→Prop)(len:Nat)(st:Nat→S→U)(I:Nat→S→Prop)
 (step:∀rec i s,i<len→I i s→(∀s',I (i+1) s'→W (rec (st (i+1) s')) P)→W (F rec (st i s)) P)
 (stop:∀rec s,I len s→W (F rec (st len s)) P):∀n i s,len -i<n→i≤len→I i s→W (L n (st i s)) P:=by
 subst e
 intro n
 induction n with
 |zero=>intro i s h;omega
 |
  succ n ih=>
  intro i s hn hi hI
  rw[aP]
  by_cases h:i<len
  ·exact step _ i s h hI fun s' h'=>ih (i+1) s' (by omega) (by omega) h'
  ·have:i=len:=by omega
   subst this
   exact stop _ s hI
theorem W.VD{R:Type}{x:Option R}{P:R→Prop}(h:∃r,x=some r)(hp:∀r,P r):W x P:=h.imp fun r h=>⟨h,hp r⟩
theorem W.bt{A R:Type}{x:Option A}{f:A→Option R}{P:R→Prop}(h:∃r,x=some r)(hp:∀r,W (f r) P):W (Option.bind x f) P:=gN.2 (W.VD h hp)
theorem fy{α:Type}(l:List α)(c:Nat)(h:l.length*c≤aC):(if(List.length ([]:List α)+List.length l)*c≤aC then some l else none)=some l:=by
 rw[List.length_nil,Nat.zero_add,if_pos h]
end Go.Ax
namespace Go.Ax
open Go.Proofs Go.Sort Go.Shelf
def K7(c:Int→Int→Option Int)(x y:Int):Bool:=decide ((c x y).getD 0<0)
structure VE(c:Int→Int→Option Int)(xs:List Int):Prop where
 ne:xs≠[]
 Z7:∀x∈xs,K7 c x x=false
 has:∀x∈xs,∀y∈xs,∃r,c x y=some r
 VD:∀x∈xs,∀y∈xs,x=y∨K7 c x y= !K7 c y x
 tr:∀x∈xs,∀y∈xs,∀z∈xs,K7 c x y=true→K7 c y z=true→K7 c x z=true
section
variable{c:Int→Int→Option Int} {xs:List Int}
end
theorem nR{w:World}{S:Nat→Prop}{k:IntKind}:∀{xs:List Int},(∀x∈xs,k.min≤x∧x≤k.max)→aQ (Rel w S (.int k)) (xs.map (Value.int k)) xs
 |[],_=>rfl
 |x::xs,h=>⟨[.int k x],xs.map (Value.int k),rfl,⟨rfl,h x (List.mem_cons_self ..)⟩,nR fun y hy=>h y (List.mem_cons_of_mem _ hy)⟩
end Go.Ax
namespace Go.Ax
open Go.Proofs Go.Sort Go.Shelf Go.Maps
def gO{β:Type}(es:List (Int×β)):List Int:=(es.map (·.1)).mergeSort fun x y=>decide (x≤y)
def wa{β:Type}(es:List (Int×β)):Option (List Int):=if es.length*8≤aC then some (gO es) else none
theorem zW{E:Env}{w:World}{v:Ty}:∀{en:List MapEntry}{es:List (Int×v.den)},RM E w (.int .i64) v en es→en.map (·.key)=es.map (fun x=>Value.int .i64 x.1)∧(∀x∈es,IntKind.i64.min≤x.1∧x.1≤IntKind.i64.max)
 |[],[],_=>⟨rfl,fun x hx=>by cases hx⟩
 |[],_::_,h=>h.elim
 |_::_,[],h=>h.elim
 |
  e::en,x::es,⟨h1,_,h3⟩=>by
  obtain⟨k1,k2⟩:=zW h3
  have hk:e.key= .int .i64 x.1∧IntKind.i64.min≤x.1∧x.1≤IntKind.i64.max:=by
   rcases h1 with⟨hx,_⟩|⟨_,hx,hb⟩
   ·cases hx
   ·exact⟨by simpa using hx,hb⟩
  refine⟨by rw[List.map_cons,List.map_cons,k1,hk.1],fun y hy=>?_⟩
  rcases List.mem_cons.1 hy with rfl|hy
  ·exact hk.2
  ·exact k2 y hy
theorem CO{m b:Nat}{k k' k'':aI}(h:(aL (List.replicate m none) [(0,some k),(1,some k')])[b]? =some (some k'')):(b=0∧k''=k)∨(b=1∧k''=k'):=by
 rcases dh h with h|⟨_,h⟩
 ·simpa using h
 ·rw[List.getElem?_replicate] at h
  split at h<;>cases h
theorem ja{m b X:Nat}{k k' k2 k'':aI}(h:(aL (List.replicate m none) [(0,some k),(1,some k'),(X,some k2)])[b]? =some (some k'')):(b=0∧k''=k)∨(b=1∧k''=k')∨(b=X∧k''=k2):=by
 rcases dh h with h|⟨_,h⟩
 ·simpa using h
 ·rw[List.getElem?_replicate] at h
  split at h<;>cases h
def wc(_:Value):Option (DataW Unit×List MemPlace):=some (.nil,[])
theorem EU{P:Program}{ρa ρb:Ren}(L10:SlLaysZI.n10 P ρa)(L6:SlLaysZI.n6 P ρb)(hsorts:AnyZI.SortsIn P ρb Fence.wide 4){gl:Ctx}(hmd:¬gl.md)
 (hent:∀vs w,(callFunc (ρb.f 6) vs).run P w= .ok (.enter (ρb.f 6) vs) w) (e9:∀vs w,(callFunc (ρb.f 9) vs).run P w= .ok (.enter (ρb.f 9) vs) w) (eg:∀vs w,(callFunc (ρa.f 10) vs).run P w= .ok (.enter (ρa.f 10) vs) w)
 {tv vt:Ty} {es:List (Int×vt.den)} {ys:List Int} (hs:wa es=some ys) (m X:Nat) (hm:1<m) (hX:X<m) (hX2:16≤X):
 Fc P gl (ρb.f 6) [.func (.func (ρa.f 10)) .nil (.cons (.ptr 0 []) .nil)] (aL (List.replicate m none) [(0,some (.var tv (.mp 1))),(1,some (.map (.int .i64) vt es))]) (.ret (.own X)) (cJ m [(0,.var tv (.mp 1)),(1,.map (.int .i64) vt es),(X,.row (ρb.t 26) 8 (.int .i64) ys)]):=by
 refine⟨hent,?_⟩
 unfold wa at hs
 split at hs
 ·rename_i hlen
  cases hs
  refine oB.kf (fun b k hb=>by rcases CO hb with⟨_,rfl⟩|⟨_,rfl⟩<;>rfl) ?_
  intro E w vs hP hvs hw
  match vs,hvs with
  |
   [v0],⟨h0,_⟩=>
   have at0:(aL (List.replicate m none) [(0,some (aI.var tv (.mp 1))),(1,some (.map (.int .i64) vt es))])[0]? =some (some (.var tv (.mp 1))):=by
    simp[aL,show 0<m by omega]
   have at1:(aL (List.replicate m none) [(0,some (aI.var tv (.mp 1))),(1,some (.map (.int .i64) vt es))])[1]? =some (some (.map (.int .i64) vt es)):=by
    simp[aL,hm]
   obtain⟨n1,_,gm,en,clock,m1,m2,m3,m4,m5⟩:=hw.cj 1 _ at1
   obtain⟨b1,_,gb,cells,eb,b2,b3,b4⟩:=hw.cj 0 _ at0
   have h0:cd E w (.func (.func (ρa.f 10)) .nil (.cons (.ptr 0 []) .nil)) v0:=h0
   rcases h0 with⟨hx,_⟩|⟨_,f,cb,q1,q2,q3,_,_⟩
   ·cases hx
   have q2:f.toList= []:=q2
   have hf:f= #[]:=by
    cases f with
    |mk l=>simp at q2;subst q2;rfl
   subst hf
   obtain⟨v1,v2,q4,⟨gp,q5,q6,_⟩,q7⟩:=q3
   rw[b2] at q5;cases q5
   have q7:v2= []:=q7
   have hoff:(E.bt 0).off []=0:=Ty.gv _
   have hcb:cb= #[.pointer (some ⟨gb,0,none⟩)]:=by
    cases cb with
    |
     mk l=>
     have:l=v1++v2:=q4
     rw[this,q6,q7,hoff];rfl
   have hv0:v0= .func (.func (ρa.f 10)) #[] #[.pointer (some ⟨gb,0,none⟩)]:=by
    rw[←hcb];simpa using q1
   obtain⟨gq,b5,b6⟩:=b4
   rw[m1] at b5;cases b5
   have hgb:gb<w.heap.size:=(Array.getElem?_eq_some_iff.1 b3).1
   have hcell:w.cell? ⟨gb,0,none⟩=some (.map (some gm)):=by
    unfold World.cell?
    rw[b3]
    have:cells= #[.map (some gm)]:=by
     cases cells with
     |mk l=>have:l= [.map (some gm)]:=b6;rw[this]
    simp[this]
   obtain⟨k1,k2⟩:=zW m3
   have hesz:en.size=es.length:=by
    have:=congrArg List.length k1
    simpa using this
   have hmx:aC=140737488355328:=rfl
   have hml:maxLen=9223372036854775807:=rfl
   have u26:P.underlying (ρa.t 26)=some (.int .i64):=L10.t26
   have hkey:∀x∈en.toList,∃z:Int,keyOf P (ρa.t 26) x.key=some (.int .i64 z)∧x.key= .int .i64 z:=by
    intro x hx
    have:x.key∈en.toList.map (·.key):=List.mem_map.2 ⟨x,hx,rfl⟩
    rw[k1] at this
    obtain⟨y,hy,e⟩:=List.mem_map.1 this
    refine⟨y.1,?_,e.symm⟩
    rw[←e]
    have hw:(Lit.int .i64 y.1).wf=true:=by
     have:=k2 y hy
     simp only[Lit.wf]
     rw[decide_eq_true this.1,decide_eq_true this.2];rfl
    simp[keyOf,u26,mapKey,hw]
   have hrd:∀x∈en.toList,∀z:Int,x.key= .int .i64 z→Go.WideElems.rd P (ρa.t 26) wc x=some (.int .i64 z,.nil):=by
    intro x hx z hz
    obtain⟨z',h1,h2⟩:=hkey x hx
    rw[hz] at h2;cases h2
    simp[Go.WideElems.rd,h1,wc]
   have hown:w.ownsMap P (ρa.t 26) wc gm en.size (.map ((en.toList.map (Go.WideElems.rg P (ρa.t 26) wc)).foldr DataW.insert [])):=by
    refine⟨en,clock,m2,⟨by rw[hesz];omega,⟨m4,m5,?_⟩,fun x hx=>?_⟩,Nat.le_refl _,rfl⟩
    ·rw[k1]
     exact List.pairwise_map.2 ((List.pairwise_map.1 n1).imp fun h e=>h (by simpa using e))
    ·obtain⟨z,_,hz⟩:=hkey x hx
     exact⟨_,hrd x hx z hz⟩
   have hD:∀ss:List Int,ss.Perm (intKeys (.map ((en.toList.map (Go.WideElems.rg P (ρa.t 26) wc)).foldr DataW.insert [])))→ss.Perm (es.map (·.1)):=by
    intro ss hss
    refine hss.trans ?_
    have p1:=(WideShapes.sorted_perm (en.toList.map (Go.WideElems.rg P (ρa.t 26) wc))).map (fun p=>intOf p.1)
    refine List.Perm.trans p1 (List.Perm.of_eq ?_)
    rw[List.map_map]
    have:en.toList.map ((fun p:Lit×DataW Unit=>intOf p.1)∘Go.WideElems.rg P (ρa.t 26) wc)=(en.toList.map (·.key)).map fun v=>match v with| .int _ z=>z|_=>0:=by
     rw[List.map_map]
     apply List.map_congr_left
     intro x hx
     obtain⟨z,_,hz⟩:=hkey x hx
     simp only[Function.comp,Go.WideElems.rg_of (hrd x hx z hz),hz]
     rfl
    rw[this,k1,List.map_map]
    rfl
   have hDs:Maps.size (DataW.map ((en.toList.map (Go.WideElems.rg P (ρa.t 26) wc)).foldr DataW.insert []))=es.length:=by
    show List.length _=_
    rw[length_read,hesz]
   have hseq:=AnyZI.keys_gives L10 (H:=Unit) Fence.wide 2 trivial rfl (by omega) gb gm en.size _ w hgb hcell hown
   rw[hDs] at hseq
   have main:=AnyZI.sorted_in L6 Fence.wide 5 trivial trivial trivial trivial rfl (by omega) hsorts e9 (ρa.f 10) #[.pointer (some ⟨gb,0,none⟩)] trivial eg _ es.length (by omega) (by omega) w hseq
   have hargs:[v0].toArray= #[.func (.func (ρa.f 10)) #[] #[.pointer (some ⟨gb,0,none⟩)]]:=by rw[hv0]
   rw[hargs]
   refine(callsIn_wide.1 main).mono ?_
   rintro e1 w1 ⟨v,ss,rfl,hS,hrow,_,hb⟩
   have hperm:=hD ss hS
   have hsort:(ss.mergeSort fun x y=>decide (x≤y))=gO es:=mergeSort_of_perm_i hperm
   rw[hsort] at hrow
   have hsl:ss.length=es.length:=by rw[hperm.length_eq,List.length_map]
   have hyl:(gO es).length=es.length:=by unfold gO;rw[List.length_mergeSort,List.length_map]
   have hsame:∀g,g<w.heap.size→w1.heap[g]? =w.heap[g]? :=fun g hg=>hb.block g hg
   have hb2:∀z∈gO es,IntKind.i64.min≤z∧z≤IntKind.i64.max:=by
    intro z hz
    have:z∈es.map (·.1):=(List.mergeSort_perm _ _).mem_iff.1 hz
    obtain⟨y,hy,rfl⟩:=List.mem_map.1 this
    exact k2 y hy
   rw[hsl,←hyl] at hrow
   obtain⟨og,hEv,hog,hRB⟩:∃og:Option Nat,(∃a n c,v= .slice a n c)∧(∀g,og=some g→w.heap.size≤g)∧∀E':Env,E'.g X=og→E'.sv X=v→E'.bt X= .arr (gO es).length (.int .i64)→RB E' w1 X (.row (ρb.t 26) 8 (.int .i64) (gO es)):=by
    rcases hrow.2 with⟨hv,hz⟩|⟨g,cap,cur,hv,r0,r1,r2,r3,r4,r5⟩
    ·have hn:gO es= []:=List.eq_nil_of_length_eq_zero hz
     refine⟨none,⟨_,_,_,hv⟩,(fun g hg=>by cases hg),fun E' h1 h2 h3=>?_⟩
     rw[hn] at h3 ⊢
     exact⟨h3,by simp,by simp,Nat.one_pos,none,0,by rw[h2,hv];rfl,Nat.zero_le _,Or.inl ⟨⟨rfl,rfl⟩,h1,rfl⟩⟩
    ·refine⟨some g,⟨_,_,_,hv⟩,(fun g' hg=>by cases hg;exact r0),fun E' h1 h2 h3=>?_⟩
     refine⟨h3,by rw[hyl];exact hlen,by rw[hyl];omega,Nat.one_pos,some ⟨g,0,none⟩,cap,by rw[h2,hv],r3,Or.inr ⟨g,cur,h1,rfl,r1,r4,r2,?_⟩⟩
     have hsz:Ty.size (.int .i64)=1:=rfl
     rw[hsz,r5]
     exact nR hb2
   have hX0:X≠0:=by omega
   have hX1:X≠1:=by omega
   let E':Env:={E with g:=fun b=>if b=X then og else E.g b,sv:=fun b=>if b=X then v else E.sv b,bt:=fun b=>if b=X then .arr (gO es).length (.int .i64) else E.bt b}
   have outE:cJ m [(0,.var tv (.mp 1)),(1,.map (.int .i64) vt es),(X,.row (ρb.t 26) 8 (.int .i64) (gO es))]=aL (List.replicate m none) [(0,some (.var tv (.mp 1))),(1,some (.map (.int .i64) vt es)),(X,some (.row (ρb.t 26) 8 (.int .i64) (gO es)))]:=rfl
   have kp:bC E w E' w1:=⟨fun b hb'=>hsame b (hw.slt b hb'),fun _ h=>h⟩
   have eX:E'.g X=og∧E'.sv X=v∧E'.bt X= .arr (gO es).length (.int .i64):=⟨if_pos rfl,if_pos rfl,if_pos rfl⟩
   have eN:∀b,b≠X→E'.g b=E.g b∧E'.sv b=E.sv b∧E'.bt b=E.bt b:=fun b h=>⟨if_neg h,if_neg h,if_neg h⟩
   have gm_lt:gm<w.heap.size:=(Array.getElem?_eq_some_iff.1 m2).1
   have g_old:∀b g,b=0∨b=1→E'.g b=some g→g<w.heap.size∧E.g b=some g:=by
    intro b g hb' hg
    rcases hb' with rfl|rfl
    ·rw[(eN 0 hX0.symm).1] at hg
     refine⟨?_,hg⟩
     rw[b2] at hg;cases hg;exact hgb
    ·rw[(eN 1 hX1.symm).1] at hg
     refine⟨?_,hg⟩
     rw[m1] at hg;cases hg;exact gm_lt
   refine⟨E',?_,?_,?_⟩
   ·show cd _ _ _ _
    obtain⟨a,n,c,hv⟩:=hEv
    exact Or.inr ⟨rfl,by show[v]= [E'.sv X];rw[eX.2.1],a,n,c,by rw[eX.2.1,hv]⟩
   ·rw[outE]
    refine⟨fun b k hb'=>?_,fun b b' k k' g hb1 hb2 hg1 hg2=>(have hg1:=hg1.resolve_right (hP _ _);have hg2:=hg2.resolve_right (hP _ _);?_),fun b k g hb' hg hS'=>(have hg:=hg.resolve_right (hP _ _);?_),fun g hg=>Nat.lt_of_lt_of_le (hw.slt g hg) hb.size,hw.eD kp,fun b _ g _ h=>absurd h (hP b g)⟩
    ·rcases ja hb' with⟨rfl,rfl⟩|⟨rfl,rfl⟩|⟨rfl,rfl⟩
     ·refine RB.mono kp (fun c hc=>?_) (fun g hg=>hsame g (have hg:=hg.resolve_right (hP _ _);?_)) (fun hp=>by cases hp) (hw.cj 0 _ at0)
      ·have:c=0∨c=1:=by simpa[aI.ids,AV.ids] using hc
       rcases this with rfl|rfl
       ·exact eN 0 hX0.symm
       ·exact eN 1 hX1.symm
      ·rw[b2] at hg;cases hg;exact hgb
     ·refine RB.mono kp (fun c hc=>?_) (fun g hg=>hsame g (have hg:=hg.resolve_right (hP _ _);?_)) (fun hp=>by cases hp) (hw.cj 1 _ at1)
      ·have:c=1:=by simpa[aI.ids] using hc
       subst this
       exact eN 1 hX1.symm
      ·rw[m1] at hg;cases hg;exact gm_lt
     ·exact hRB E' eX.1 eX.2.1 eX.2.2
    ·have old:∀b k,(aL (List.replicate m none) [(0,some (aI.var tv (.mp 1))),(1,some (.map (.int .i64) vt es)),(X,some (.row (ρb.t 26) 8 (.int .i64) (gO es)))])[b]? =some (some k)→b≠X→b=0∨b=1:=by
      intro b k h hne
      rcases ja h with⟨h,_⟩|⟨h,_⟩|⟨h,_⟩
      ·exact Or.inl h
      ·exact Or.inr h
      ·exact absurd h hne
     by_cases e1:b=X
     ·by_cases e2:b'=X
      ·rw[e1,e2]
      ·have o2:=g_old b' g (old b' k' hb2 e2) hg2
       rw[e1,eX.1] at hg1
       have:=hog g hg1
       omega
     ·by_cases e2:b'=X
      ·have o1:=g_old b g (old b k hb1 e1) hg1
       rw[e2,eX.1] at hg2
       have:=hog g hg2
       omega
      ·have o1:=(g_old b g (old b k hb1 e1) hg1).2
       have o2:=(g_old b' g (old b' k' hb2 e2) hg2).2
       rcases old b k hb1 e1 with rfl|rfl<;>rcases old b' k' hb2 e2 with rfl|rfl
       ·rfl
       ·exact hw.sep 0 1 _ _ g at0 at1 o1 o2
       ·exact hw.sep 1 0 _ _ g at1 at0 o1 o2
       ·rfl
    ·rcases ja hb' with⟨rfl,_⟩|⟨rfl,_⟩|⟨rfl,_⟩
     ·exact hw.ik 0 _ g at0 (g_old 0 g (Or.inl rfl) hg).2 hS'
     ·exact hw.ik 1 _ g at1 (g_old 1 g (Or.inr rfl) hg).2 hS'
     ·rw[eX.1] at hg
      have:=hog g hg
      have:=hw.slt g hS'
      omega
   ·rw[outE]
    refine⟨hb.os,⟨hb.tape,fun m=>absurd m hmd⟩,hb.output,hb.size,fun g hg _=>hsame g hg,fun _ h=>h,fun g hg=>Or.inl hg,fun g hg=>?_,fun b hb16=>eN b (by omega)⟩
    obtain⟨b,k,hbk,hg⟩:=hg
    have hg:=hg.resolve_right (hP _ _)
    rcases ja hbk with⟨rfl,_⟩|⟨rfl,_⟩|⟨rfl,_⟩
    ·exact Or.inl ⟨0,_,at0,Or.inl (g_old 0 g (Or.inl rfl) hg).2⟩
    ·exact Or.inl ⟨1,_,at1,Or.inl (g_old 1 g (Or.inr rfl) hg).2⟩
    ·rw[eX.1] at hg;exact Or.inr (hog g hg)
 ·cases hs
end Go.Ax
namespace Go.Ax
def nS(W:World):Env:=⟨fun _=>none,fun _=>undef,fun _=>.unit,fun g=>g<W.heap.size,fun _ _=>False⟩
theorem aQ.collect{α:Type}{r:List Value→α→Prop}{k:Nat}:∀(n:Nat)(cs:List Value),cs.length=n*k→(∀i,i<n→∃y,r ((cs.drop (i*k)).take k) y)→∃ys,ys.length=n∧aQ r cs ys
 |0,cs,hl,_=>⟨[],rfl,List.eq_nil_of_length_eq_zero (by simpa using hl)⟩
 |
  n+1,cs,hl,h=>by
  obtain⟨y,hy⟩:=h 0 (by omega)
  rw[Nat.zero_mul,List.drop_zero] at hy
  obtain⟨ys,h1,h2⟩:=aQ.collect (k:=k) n (cs.drop k) (by rw[List.length_drop,hl,Nat.add_mul,Nat.one_mul];omega) (fun i hi=>by
   obtain⟨z,hz⟩:=h (i+1) (by omega)
   refine⟨z,?_⟩
   rw[List.drop_drop]
   rw[show k+i*k=(i+1)*k from by rw[Nat.add_mul];omega]
   exact hz)
  exact⟨y::ys,by simp[h1],cs.take k,cs.drop k,(List.take_append_drop k cs).symm,hy,h2⟩
theorem cells?_get{w:World}{base:Nat}{a:Addr}{n:Nat}{cs:List Value}(h:w.cells? base a n=some cs):cs.length=n∧∀j v,cs[j]? =some v→w.cell? (a.add j)=some v:=by
 unfold World.cells? at h
 split at h
 ·have hl:=mapM_some_length h
  refine⟨by simpa using hl,fun j v hj=>?_⟩
  have hlt:j<n:=by
   have:=(List.getElem?_eq_some_iff.1 hj).1
   rw[hl] at this;simpa using this
  have:=mapM_some_get h j j (by simp[hlt])
  rw[this,hj]
 ·cases h
theorem Addr.add_add(a:Addr)(i j:Nat):(a.add i).add j=a.add (i+j):=by
 unfold Addr.add
 by_cases hi:i=0
 ·subst hi;simp
 ·by_cases hj:j=0
  ·subst hj;simp
  ·have:i+j≠0:=by omega
   simp[hi,hj,Nat.add_assoc]
theorem aQ.CP{α:Type}{w:World}{r:List Value→α→Prop}{a:Addr}{k:Nat}:∀(n s:Nat),(∀i,i<n→∃c y,w.cells? 0 (a.add ((s+i)*k)) k=some c∧r c y)→∃cs ys,ys.length=n∧aQ r cs ys∧∀j v,cs[j]? =some v→w.cell? (a.add (s*k+j))=some v
 |0,s,_=>⟨[],[],rfl,rfl,fun j v hj=>by simp at hj⟩
 |
  n+1,s,h=>by
  obtain⟨c,y,h1,h2⟩:=h 0 (by omega)
  rw[Nat.add_zero] at h1
  obtain⟨hl,hc⟩:=cells?_get h1
  obtain⟨cs,ys,g1,g2,g3⟩:=aQ.CP n (s+1) (fun i hi=>by
   obtain⟨c',y',q1,q2⟩:=h (i+1) (by omega)
   exact⟨c',y',by rw[show s+1+i=s+(i+1) from by omega];exact q1,q2⟩)
  refine⟨c++cs,y::ys,by simp[g1],⟨c,cs,rfl,h2,g2⟩,?_⟩
  intro j v hj
  rw[List.getElem?_append] at hj
  split at hj
  ·have:=hc j v hj
   rwa [Addr.add_add] at this
  ·rename_i hge
   have:=g3 _ v hj
   rw[hl] at this hge
   rw[show(s+1)*k+(j -k)=s*k+j from by rw[Nat.add_mul,Nat.one_mul];omega] at this
   exact this
section
variable{H:Type} {enc:TypeId×Value→H} {P:Program} {G:bH} (T:aY P G) {W:World} {spare:Nat→Bool} {held:Bool}
include T
theorem aY.cellsOf{t:TypeId}{td:TD}(h:G.at t=some td):P.cellsOf t=td.ty.size:=by
 obtain⟨i,_,h1,_,h2,_⟩:=T.info h
 simp[Program.cellsOf,h1,h2]
theorem aY.CQ{t:TypeId}{td:TD}(ht:G.at t=some td)(hs:td.ty= .bool):P.underlying t=some .bool:=by
 obtain⟨ii,dd,_,h1,_,h2,_⟩:=T.info ht
 have aab:=cL h2
 rw[h1]
 cases hd:dd with
 |bool=>rfl
 |struct fs=>subst hd;rw[hs] at aab;simp[cP,Ty.isAgg] at aab
 |array n e=>subst hd;rw[hs] at aab;simp[cP,Ty.isAgg] at aab
 |slice e=>subst hd;simp[bR,Ty.same,hs] at h2
 |map k e=>subst hd;simp[bR,Ty.same,hs] at h2
 |_=>subst hd;simp[bR,Ty.same,hs] at h2
def Ty.cm:Ty→Bool
 | .arr _ t=>t.cm
 | .slice _ t=>t.cm
 | .pair a b=>a.cm&&b.cm
 | .aN _| .fns _| .map _ _=>false
 |_=>true
theorem we:∀(fuel:Nat)(t:TypeId)(td:TD)(cs:List Value)(d:DataW H)(ps:List MemPlace),G.at t=some td→td.ty.cm=true→DataW.trod enc P W 0 spare held fuel t cs=some (d,ps)→(∀n∈d.weights P t,n≤aC)→
 ∃x:td.ty.den,Rel W (fun g=>g<W.heap.size) td.ty cs x
 |0,t,td,cs,d,ps,_,_,h,_=>by simp[DataW.trod] at h
 |
  fuel+1,t,td,cs,d,ps,ht,hp,h,hw=>by
  have ih:=fun t td cs d ps=>we fuel t td cs d ps
  obtain⟨ty,te,te2⟩:=td
  simp only at hp
  cases ty with
  |
   int k=>
   obtain⟨n,e1,e2,e3⟩:=DataW.trod_int (T.intOf ht rfl) h
   simp only[Lit.wf,Bool.and_eq_true,decide_eq_true_eq] at e3
   exact⟨n,e1,e3⟩
  |
   bool=>
   obtain⟨b,e1,e2⟩:=DataW.trod_bool (T.CQ ht rfl) h
   exact⟨b,e1⟩
  |
   str=>
   have hu:=T.strOf ht rfl
   unfold DataW.trod at h
   rw[hu] at h
   split at h<;>simp_all
   obtain⟨_,e1,e2⟩:=h
   subst e1
   rename_i s _
   have hlen:s.data.toList.length≤aC:=hw s.data.toList.length (by simp[DataW.weights])
   exact⟨s.data.toList,by simp,hlen⟩
  |
   arr n u=>
   obtain⟨tde,h1,h2,h3⟩:=T.mc ht rfl
   simp only at h1 h2 h3
   subst h3
   obtain⟨xs,m,e1,e2,e3,e4,e5⟩:=DataW.trod_array h1 h
   cases e1;cases e2
   have hcz:=T.cellsOf h2
   have hall:∀i,i<n→∃y,Rel W (fun g=>g<W.heap.size) tde.ty ((cs.drop (i*tde.ty.size)).take tde.ty.size) y:=by
    intro i hi
    have hx:=e5 i hi
    have hlt:i<xs.length:=by omega
    rw[List.getElem?_eq_getElem hlt,hcz] at hx
    refine ih te tde _ xs[i].1 xs[i].2 h2 hp hx (fun q hq=>hw q ?_)
    have key:∀(l:List (DataW H))(i:Nat)(d:DataW H),l[i]? =some d→∀q∈d.weights P te,q∈DataW.weightsAll P te l:=by
     intro l
     induction l with
     |nil=>intro i d h;simp at h
     |
      cons a l ihl=>
      intro i d h q hq
      simp only[DataW.weightsAll,List.mem_append]
      cases i with
      |zero=>simp at h;subst h;exact Or.inl hq
      |succ i=>exact Or.inr (ihl i d (by simpa using h) q hq)
    simp only[DataW.weights,h1]
    exact key _ i _ (by simp[hlt]) q hq
   have hl:cs.length=n*tde.ty.size:=by
    rw[e3];exact T.cellsOf ht
   obtain⟨ys,y1,y2⟩:=aQ.collect n cs hl hall
   exact⟨ys,y1,y2⟩
  |
   slice bs u=>
   obtain⟨te',ie,h1,h2,h3,h4,h5,h6,h7⟩:=T.cn ht rfl
   simp only at h1 h2 h4
   subst h3
   have hcz:=T.cellsOf h2
   rcases DataW.trod_slice h1 h with⟨e1,e2⟩|⟨a,len,cap,elems,rest,m,e1,e2,e3,e4,e5,e6,e7,e8,_⟩
   ·exact⟨[],none,0,e1,Nat.le_refl _,by simp,by simp,Or.inl rfl⟩
   ·cases e1;cases e3
    have hb:P.bytesOf te=bs:=by simp[Program.bytesOf,h4,h5]
    have hw0:(elems.length+rest.length)*bs≤aC:=by
     refine hw _ ?_
     simp only[DataW.weights,h1,hb]
     simp
    have hlb:len*bs≤aC:=Nat.le_trans (Nat.mul_le_mul_right _ (by omega)) hw0
    have hlm:len≤aC:=Nat.le_trans (Nat.le_mul_of_pos_right _ h7) hlb
    have hall:∀i,i<len→∃c y,W.cells? 0 (a.add ((0+i)*te'.ty.size)) te'.ty.size=some c∧Rel W (fun g=>g<W.heap.size) te'.ty c y:=by
     intro i hi
     have hx:=e8 i hi
     have hlt:i<elems.length:=by omega
     rw[List.getElem?_eq_getElem hlt,hcz] at hx
     simp only[Option.bind_eq_some_iff] at hx
     obtain⟨c,c1,c2⟩:=hx
     obtain⟨y,hy⟩:=ih te te' c elems[i].1 elems[i].2 h2 hp c2 (fun q hq=>hw q (by
      have key:∀(l:List (DataW H))(i:Nat)(d:DataW H),l[i]? =some d→∀q∈d.weights P te,q∈DataW.weightsAll P te l:=by
       intro l
       induction l with
       |nil=>intro i d h;simp at h
       |
        cons a l ihl=>
        intro i d h q hq
        simp only[DataW.weightsAll,List.mem_append]
        cases i with
        |zero=>simp at h;subst h;exact Or.inl hq
        |succ i=>exact Or.inr (ihl i d (by simpa using h) q hq)
      simp only[DataW.weights,h1,List.mem_cons,List.mem_append]
      exact Or.inr (Or.inl (key _ i _ (by simp[hlt]) q hq))))
     exact⟨c,y,by rw[Nat.zero_add];exact c1,hy⟩
    obtain⟨cs',ys,g1,g2,g3⟩:=aQ.CP (w:=W) (a:=a) len 0 hall
    subst g1
    rw[e2]
    refine⟨ys,some a,cap,rfl,e5,hlb,hlm,?_⟩
    cases hys:ys with
    |nil=>exact Or.inl rfl
    |
     cons y0 ys0=>
     right
     have hcl:=aQ.len (n:=te'.ty.size) (fun _ _ h=>Rel.len h) g2
     have hpos:0<cs'.length:=by rw[hcl,hys];simp;exact h6
     have hc0:=g3 0 cs'[0] (by simp[hpos])
     simp only[Nat.zero_mul,Nat.add_zero,Addr.add,if_true] at hc0
     have hspot:a.spot=none∧a.block<W.heap.size:=by
      unfold World.cell? at hc0
      split at hc0
      ·rename_i c _ _ hh
       split at hc0
       ·cases hc0
       ·rename_i hs
        exact⟨by simpa using hs,(Array.getElem?_eq_some_iff.1 hh).1⟩
      ·cases hc0
     obtain⟨b,o,sp⟩:=a
     simp only at hspot
     obtain⟨hs,hblt⟩:=hspot
     subst hs
     refine⟨b,o,cs',rfl,hblt,?_,by rw[←hys];exact g2⟩
     intro j v hj
     have:=g3 j v hj
     rwa [Nat.zero_mul,Nat.zero_add] at this
  |
   pair ta tb=>
   obtain⟨fs,h1,h2⟩:=T.structOf ht rfl
   obtain⟨xs,m,e1,e2,e3,e4,e5⟩:=DataW.trod_struct h1 h
   cases e1;cases e2
   have hl:cs.length=(Ty.pair ta tb).size:=by rw[e3];exact T.cellsOf ht
   have key:∀(l:List Field)(ty:Ty)(off:Nat)(ys:List (DataW H×List MemPlace)),bF G l off ty=true→ty.cm=true→off+ty.size≤cs.length→ys.length=l.length→
    (∀(i:Nat)(f:Field),l[i]? =some f→DataW.trod enc P W 0 spare held fuel f.type ((cs.drop f.offset).take (P.cellsOf f.type))=ys[i]?)→
    (∀n∈DataW.weightsEach P (l.map (·.type)) (ys.map (·.1)),n≤aC)→∃x:ty.den,Rel W (fun g=>g<W.heap.size) ty ((cs.drop off).take ty.size) x:=by
    intro l
    induction l with
    |
     nil=>
     intro ty off ys hf _ _ _ _ _
     cases ty<;>simp[bF] at hf
     exact⟨(),by simp[Rel,Ty.size]⟩
    |
     cons f l ihl=>
     intro ty off ys hf hpu hle hyl hrd hwe
     cases ty with
     |
      pair a b=>
      simp only[bF,Bool.and_eq_true] at hf
      obtain⟨⟨⟨g1,g2⟩,g3⟩,g4⟩:=hf
      simp only[Ty.cm,Bool.and_eq_true] at hpu
      cases ys with
      |nil=>simp at hyl
      |
       cons y ys=>
       split at g1
       ·rename_i td htd
        have:=Ty.aA g1;subst this
        have g2:=Nat.eq_of_beq_eq_true g2
        have hcz:=T.cellsOf htd
        simp only[Ty.size] at hle
        have hr0:=hrd 0 f rfl
        rw[g2,hcz] at hr0
        simp only[List.getElem?_cons_zero] at hr0
        simp only[List.map_cons,DataW.weightsEach,List.mem_append] at hwe
        obtain⟨x1,hx1⟩:=ih f.type td _ y.1 y.2 htd hpu.1 hr0 (fun n hn=>hwe n (Or.inl hn))
        obtain⟨x2,hx2⟩:=ihl b (off+td.ty.size) ys g4 hpu.2 (by omega) (by simpa using hyl) (fun i f' hf'=>by
         have:=hrd (i+1) f' (by simpa using hf')
         simpa using this) (fun n hn=>hwe n (Or.inr hn))
        refine⟨(x1,x2),(cs.drop off).take td.ty.size,(cs.drop (off+td.ty.size)).take b.size,?_,hx1,hx2⟩
        simp only[Ty.size]
        rw[List.take_add,List.drop_drop]
       ·cases g1
     |_=>simp[bF] at hf
   obtain⟨x,hx⟩:=key fs.toList (.pair ta tb) 0 xs h2 hp (by omega) (by simpa using e4) (fun i f hf=>e5 i f (by simpa using hf)) (fun n hn=>hw n (by
    simp only[DataW.weights,h1];exact hn))
   rw[List.drop_zero,List.take_of_length_le (by omega)] at hx
   exact⟨x,hx⟩
  |
   unit=>
   obtain⟨ii,dd,_,hu,hsz,hdo,_⟩:=T.info ht
   cases dd with
   |
    struct fs=>
    obtain⟨xs,m,e1,e2,e3,e4,e5⟩:=DataW.trod_struct hu h
    have hl:cs.length=0:=by rw[e3];exact T.cellsOf ht
    exact⟨(),List.eq_nil_of_length_eq_zero hl⟩
   |slice e=>simp[bR,Ty.same] at hdo
   |array n e=>simp[bR] at hdo
   |map k e=>simp[bR,Ty.same] at hdo
   |_=>simp[bR,Ty.same] at hdo
  |aN k=>simp[Ty.cm] at hp
  |fns n=>simp[Ty.cm] at hp
  |map k v=>simp[Ty.cm] at hp
theorem oO{base:Nat}{t:TypeId}{td:TD}{v:Value}{d:DataW H}{p:List MemPlace}(ht:G.at t=some td)(hp:td.ty.cm=true)(eM:Value.okWide P W .any base t v)(h:DataW.Trod enc P W 0 spare held t v d p)(hw:∀n∈d.weights P t,n≤aC):
 ∃x:td.ty.den,RV (nS W) W (.val td.ty x) v∧wf td.ty x:=by
 obtain⟨fuel,h⟩:=h
 obtain⟨x,hx⟩:=we T fuel t td _ d p ht hp h hw
 refine⟨x,RV.de ?_,Rel.wf hx⟩
 obtain⟨ii,dd,_,hu,_,hdo,_⟩:=T.info ht
 have aab:=cL hdo
 cases ha:td.ty.isAgg with
 |
  true=>
  rw[ha] at aab
  unfold Value.okWide at eM
  rw[hu] at eM
  cases dd<;>simp[cP] at aab<;>(obtain⟨cs,e,_⟩:=eM;subst e;exact Or.inl ⟨ha,cs,rfl,hx⟩)
 |
  false=>
  rw[ha] at aab
  refine Or.inr ⟨ha,?_⟩
  cases v with
  |
   agg cs=>
   unfold Value.okWide at eM
   rw[hu] at eM
   cases dd<;>simp[cP] at aab<;>simp[Cell.okWide,Cell.ok,hu] at eM
  |_=>simp[Value.cells] at hx;exact hx
end
theorem mapM_mono{α β:Type}{f g:α→Option β}:∀{l:List α}{r:List β},(∀x∈l,∀y,f x=some y→g x=some y)→l.mapM f=some r→l.mapM g=some r
 |[],r,_,h=>by simpa using h
 |
  x::l,r,hm,h=>by
  simp only[List.mapM_cons,Option.bind_eq_bind,Option.bind_eq_some_iff,Option.pure_def,Option.some.injEq] at h ⊢
  obtain⟨y,h1,ys,h2,h3⟩:=h
  exact⟨y,hm x (by simp) y h1,ys,mapM_mono (fun z hz=>hm z (by simp[hz])) h2,h3⟩
theorem cells?_stay{W W':World}(hs:∀b,b<W.heap.size→W'.heap[b]? =W.heap[b]?){a:Addr}{n:Nat}{cs:List Value}(h:W.cells? 0 a n=some cs):W'.cells? 0 a n=some cs:=by
 unfold World.cells? at h ⊢
 split at h
 ·rename_i hb
  rw[if_pos hb]
  refine mapM_mono ?_ h
  intro i _ y hy
  unfold World.cell? at hy ⊢
  split at hy
  ·rename_i c t fr hh
   rw[hs _ (Array.getElem?_eq_some_iff.1 hh).1,hh]
   exact hy
  ·cases hy
 ·cases h
section
variable{H:Type} {enc:TypeId×Value→H} {P:Program} {G:bH} (T:aY P G) {W W':World} (hs:∀b,b<W.heap.size→W'.heap[b]? =W.heap[b]?)
include T hs
theorem sj:∀(fuel:Nat)(t:TypeId)(td:TD)(cs:List Value)(x:DataW H×List MemPlace),G.at t=some td→td.ty.cm=true→DataW.trod enc P W 0 (fun _=>true) true fuel t cs=some x→DataW.trod enc P W' 0 (fun b=>decide (b<W.heap.size)) true fuel t cs=some x
 |0,t,td,cs,x,_,_,h=>by simp[DataW.trod] at h
 |
  fuel+1,t,td,cs,x,ht,hp,h=>by
  have ih:=fun t td cs x=>sj fuel t td cs x
  obtain⟨ty,te,te2⟩:=td
  simp only at hp
  cases ty with
  |
   int k=>
   have hu:=T.intOf ht rfl
   unfold DataW.trod at h ⊢
   rw[hu] at h ⊢
   split at h<;>simp_all
  |
   bool=>
   have hu:=T.CQ ht rfl
   unfold DataW.trod at h ⊢
   rw[hu] at h ⊢
   split at h<;>simp_all
  |
   str=>
   have hu:=T.strOf ht rfl
   unfold DataW.trod at h ⊢
   rw[hu] at h ⊢
   split at h<;>simp_all
  |
   arr n u=>
   obtain⟨tde,h1,h2,h3⟩:=T.mc ht rfl
   simp only at h1 h2 h3
   subst h3
   unfold DataW.trod at h ⊢
   rw[h1] at h ⊢
   simp only at h ⊢
   split at h
   ·rename_i hl
    rw[if_pos hl]
    simp only[Option.map_eq_some_iff] at h ⊢
    obtain⟨xs,g1,g2⟩:=h
    exact⟨xs,mapM_mono (fun i _ y hy=>ih te tde _ y h2 hp hy) g1,g2⟩
   ·cases h
  |
   slice bs u=>
   obtain⟨te',ie,h1,h2,h3,h4,h5,h6,h7⟩:=T.cn ht rfl
   simp only at h1 h2 h4
   subst h3
   have hcz:=T.cellsOf h2
   unfold DataW.trod at h ⊢
   rw[h1] at h ⊢
   split at h
   all_goals first
    |(cases h;rfl)
    |skip
   all_goals try (simp_all;done)
   rename_i e0 a len cap heq0
   have he0:e0=te:=by simpa using heq0.symm
   subst he0
   simp only[if_true] at h
   simp only
   split at h
   ·rename_i hc
    rw[if_pos hc]
    simp only[Option.bind_eq_some_iff,Option.map_eq_some_iff] at h ⊢
    obtain⟨elems,g1,rest,g2,g3⟩:=h
    have step:∀(i:Nat)(y:DataW H×List MemPlace),(W.cells? 0 (a.add (i*P.cellsOf e0)) (P.cellsOf e0)).bind (DataW.trod enc P W 0 (fun _=>true) true fuel e0)=some y→(W'.cells? 0 (a.add (i*P.cellsOf e0)) (P.cellsOf e0)).bind (DataW.trod enc P W' 0 (fun b=>decide (b<W.heap.size)) true fuel e0)=some y:=by
     intro i y hy
     simp only[Option.bind_eq_some_iff] at hy ⊢
     obtain⟨c,c1,c2⟩:=hy
     exact⟨c,cells?_stay hs c1,ih e0 te' c y h2 hp c2⟩
    refine⟨elems,mapM_mono (fun i _ y hy=>step i y hy) g1,rest,?_,g3⟩
    by_cases hz:cap -len=0
    ·rw[hz] at g2 ⊢
     simp at g2
     subst g2
     split<;>simp
    ·have hblk:a.block<W.heap.size:=by
      obtain⟨k,hk⟩:∃k,cap -len=k+1:=⟨cap -len -1,by omega⟩
      rw[hk,List.range_succ_eq_map] at g2
      simp only[List.mapM_cons,Option.bind_eq_bind,Option.bind_eq_some_iff] at g2
      obtain⟨y,⟨c,c1,_⟩,_⟩:=g2
      obtain⟨l1,l2⟩:=cells?_get c1
      have hpos:0<c.length:=by rw[l1,hcz];exact h6
      have:=l2 0 c[0] (by simp[hpos])
      unfold World.cell? at this
      split at this
      ·rename_i hh
       have hlt:=(Array.getElem?_eq_some_iff.1 hh).1
       have e:∀(a:Addr) n,(a.add n).block=a.block:=by intro a n;unfold Addr.add;split<;>rfl
       rw[e,e] at hlt
       exact hlt
      ·cases this
     simp only[hblk,decide_true,if_true]
     exact mapM_mono (fun i _ y hy=>step (len+i) y hy) g2
   ·cases h
  |
   pair ta tb=>
   obtain⟨fs,h1,h2⟩:=T.structOf ht rfl
   unfold DataW.trod at h ⊢
   rw[h1] at h ⊢
   simp only at h ⊢
   split at h
   ·rename_i hl
    rw[if_pos hl]
    simp only[Option.map_eq_some_iff] at h ⊢
    obtain⟨xs,g1,g2⟩:=h
    refine⟨xs,mapM_mono (fun f hf y hy=>?_) g1,g2⟩
    have key:∀(l:List Field)(ty:Ty)(off:Nat),bF G l off ty=true→ty.cm=true→∀f∈l,∃td,G.at f.type=some td∧td.ty.cm=true:=by
     intro l
     induction l with
     |nil=>intro ty off _ _ f hf;cases hf
     |
      cons f0 l ihl=>
      intro ty off hfo hpu f hf
      cases ty with
      |
       pair a b=>
       simp only[bF,Bool.and_eq_true] at hfo
       obtain⟨⟨⟨q1,q2⟩,q3⟩,q4⟩:=hfo
       simp only[Ty.cm,Bool.and_eq_true] at hpu
       rcases List.mem_cons.1 hf with e|hf
       ·subst e
        split at q1
        ·rename_i td htd
         exact⟨td,htd,by rw[Ty.aA q1];exact hpu.1⟩
        ·cases q1
       ·exact ihl b _ q4 hpu.2 f hf
      |_=>simp[bF] at hfo
    obtain⟨td,htd,hpd⟩:=key fs.toList (.pair ta tb) 0 h2 hp f hf
    exact ih f.type td _ y htd hpd hy
   ·cases h
  |
   unit=>
   obtain⟨ii,dd,_,hu,hsz,hdo,_⟩:=T.info ht
   cases dd with
   |
    struct fs=>
    have hfs:fs.toList= []:=by
     simp only[bR] at hdo
     cases hl:fs.toList with
     |nil=>rfl
     |cons f l=>rw[hl] at hdo;simp[bF] at hdo
    unfold DataW.trod at h ⊢
    rw[hu] at h ⊢
    simp only[hfs] at h ⊢
    exact h
   |slice e=>simp[bR,Ty.same] at hdo
   |array n e=>simp[bR] at hdo
   |map k e=>simp[bR,Ty.same] at hdo
   |_=>simp[bR,Ty.same] at hdo
  |aN k=>simp[Ty.cm] at hp
  |fns n=>simp[Ty.cm] at hp
  |map k v=>simp[Ty.cm] at hp
theorem l0:∀(ts:List TypeId)(vs:List Value)(ds:List (DataW H))(ps:List MemPlace),(∀t∈ts,∃td,G.at t=some td∧td.ty.cm=true)→DataW.TrodAll enc P W 0 (fun _=>true) true ts vs ds ps→DataW.TrodAll enc P W' 0 (fun b=>decide (b<W.heap.size)) true ts vs ds ps
 |
  [],vs,ds,ps,_,h=>by
  cases vs<;>cases ds<;>first|exact h|exact h.elim
 |
  t::ts,vs,ds,ps,ht,h=>by
  cases vs with
  |nil=>cases ds<;>exact h.elim
  |
   cons v vs=>
   cases ds with
   |nil=>exact h.elim
   |
    cons d ds=>
    obtain⟨p,q,⟨fuel,h1⟩,h2,h3⟩:=h
    obtain⟨td,htd,hpd⟩:=ht t (by simp)
    exact⟨p,q,⟨fuel,sj T hs fuel t td _ _ htd hpd h1⟩,l0 ts vs ds q (fun t' ht'=>ht t' (by simp[ht'])) h2,h3⟩
end
theorem HW.bare{gl:Ctx}{W:World}(n:Nat)(hg:CY gl (nS W) W):HW gl (nS W) W (aL (List.replicate n none) []):=by
 have no:∀(b:Nat)(k:aI),(aL (List.replicate n (none:Option aI)) [])[b]? ≠some (some k):=by
  intro b k h
  simp only[aL,List.getElem?_replicate] at h
  split at h<;>cases h
 exact⟨fun b k h=>absurd h (no b k),fun b _ k _ _ h=>absurd h (no b k),fun b k _ h=>absurd h (no b k),fun g hg=>hg,hg,fun b k _ h=>absurd h (no b k)⟩
theorem CS{H:Type}{enc:TypeId×Value→H}{P:Program}{G:bH}(T:aY P G){gl:Ctx}{f:FuncId}{fn:Func}{s:ChangeSpec}{W:World}{args:Array Value}{ds gs:List (DataW H)}{before:List MemPlace}{avs:List AV}{m:Nat}{bt:TypeId}
 (hc:Fc P gl f avs (aL (List.replicate m none) []) (.ret (.val .bool true)) (cJ m [])) (hv:iW (nS W) W avs args.toList) (hg:CY gl (nS W) W)
 (hW:DataW.Whole enc P fn.params.toList s.vars false W args.toList ds gs before) (hvars:s.vars= []) (hpt:∀t∈fn.params.toList,∃td,G.at t=some td∧td.ty.cm=true)
 (hrt:fn.resultTypes= #[bt]) (hbt:P.underlying bt=some .bool) (hspec:∀gs,gs= []→(s.fn H (ds++gs)).results= [.lit (.bool true)]∧(s.fn H (ds++gs)).args=ds∧(s.fn H (ds++gs)).vars= []):
 Calls P f args W fun e W'=>∃v,e= .returned v∧s.post enc P fn false true false false W args v W':=by
 have aat:=hc.2 (nS W) W args.toList hv (HW.bare m hg)
 have e0:args.toList.toArray=args:=by simp
 rw[e0] at aat
 refine aat.mono ?_
 rintro e W' ⟨E',hR,_,hX⟩
 cases e with
 |panicked ch=>exact hR.elim
 |outgrown=>exact hR.elim
 |
  returned v=>
  have hv':=RV.dj hR
  subst hv'
  refine⟨_,rfl,?_⟩
  have noO:∀g,¬Own (aL (List.replicate m (none:Option aI)) []) (nS W) g:=by
   rintro g ⟨b,k,hb,_⟩
   simp only[aL,List.getElem?_replicate] at hb
   split at hb<;>cases hb
  have stay:∀b,b<W.heap.size→W'.heap[b]? =W.heap[b]? :=fun b hb=>hX.kept b hb (noO b)
  have hW0:=hW
  obtain⟨p,q,hA,hV,hpq,hfz,hnd⟩:=hW
  rw[hvars] at hV
  have hgs:gs= []∧q= []:=by
   cases gs with
   |nil=>exact⟨rfl,hV⟩
   |cons _ _=>exact hV.elim
  obtain⟨hgs,hq⟩:=hgs
  obtain⟨s1,s2,s3⟩:=hspec gs hgs
  refine⟨ds,gs,before,[],p,[],hW0,?_,?_,?_,?_,fun h=>by cases h⟩
  ·rw[s1,hrt]
   refine⟨[],[],⟨1,?_⟩,rfl,rfl⟩
   simp[DataW.trod,hbt,Value.cells]
  ·rw[s2];exact l0 T stay _ _ _ _ hpt hA
  ·rw[s3,hvars];rfl
  ·refine⟨hX.os,hX.output,fun i hi=>?_⟩
   rw[stay i hi]
   cases hh:W.heap[i]? with
   |none=>rfl
   |
    some o=>
    cases o with
    |cells c t fr=>exact⟨rfl,rfl,rfl,fun _ _=>rfl⟩
    |map es clock=>exact Or.inr ⟨rfl,rfl⟩
    |_=>rfl
end Go.Ax
namespace Go.Ax
end Go.Ax
