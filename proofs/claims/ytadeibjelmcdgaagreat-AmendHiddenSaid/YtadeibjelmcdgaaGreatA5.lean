/- The machines: what it means to be walked or run, part 5. No condition. -/
import Derived.Test.YtadeibjelmcdgaaGreatA4
import Derived.RecoverIn
import Derived.Shelf.SlSortCmp.Whole1
import Derived.Shelf.SlIterI.Collect
import Derived.Shelf.SlIterI.Sorted
import Derived.Deep.DeepHandedRow
import Derived.OpenShut
import Derived.ChangeArms
noncomputable section
namespace Go.Ax
def y0:YC:=⟨0,fun n=>n,fun _=>default⟩
inductive CF(D T:Type) where
 |bE (f:D→Option T)
 |je (s:Sh) (f:D→Option (Sum (prod (s.H [])) T))
def BT{A B R:Type}(x:Option (Sum A B))(kp:A→Option R)(k:B→Option R):Option R:=
 Option.bind x fun r=>match r with
  | .inl a=>kp a
  | .inr b=>k b
theorem zw{A B R:Type}{x:Option (Sum A B)}{kp:A→Option R}{k:B→Option R}{r:R}(h:BT x kp k=some r):(∃a,x=some (.inl a)∧kp a=some r)∨∃b,x=some (.inr b)∧k b=some r:=by
 unfold BT at h
 cases x with
 |none=>cases h
 |
  some y=>
  cases y with
  |inl a=>exact Or.inl ⟨a,rfl,h⟩
  |inr b=>exact Or.inr ⟨b,rfl,h⟩
def CF.run{D T R:Type}:CF D T→D→(T→Option R)→(AV→Option R)→Option R
 | .bE f,d,K,_=>Option.bind (f d) fun r=>K r
 | .je s f,d,K,KP=>BT (f d) (fun p=>KP (s.V y0 p)) fun r=>K r
def CF.I0{D T:Type}:CF D T→D→T→Prop
 | .bE f,d,r=>f d=some r
 | .je _ f,d,r=>f d=some (.inr r)
def CF.I1{D T:Type}:CF D T→D→AV→Prop
 | .bE _,_,_=>False
 | .je s f,d,x=>∃p,f d=some (.inl p)∧x=s.V y0 p
theorem CF.sK{D T R:Type}{c:CF D T}{d:D}{K:T→Option R}{KP:AV→Option R}{r:R}(h:c.run d K KP=some r):(∃y,c.I0 d y∧K y=some r)∨∃x,c.I1 d x∧KP x=some r:=by
 cases c with
 |bE f=>obtain⟨y,h1,h2⟩:=bind_some h;exact Or.inl ⟨y,h1,h2⟩
 |
  je s f=>
  rcases zw h with⟨p,h1,h2⟩|⟨y,h1,h2⟩
  ·exact Or.inr ⟨_,⟨p,h1,rfl⟩,h2⟩
  ·exact Or.inl ⟨y,h1,h2⟩
structure aH where
 fn:Fn
 A:List Sh
 B:List (Nat×dB)
 m:Nat
 F:SS
 res:F.T→AV
 out:F.T→List (Nat×aC)
 f:CF (prod (mQ A (eR B []))) F.T
abbrev aH.D(C:aH):Type:=prod (mQ C.A (eR C.B []))
def aH.args(C:aH)(d:C.D):List AV:=rz y0 C.A d
def aH.ins(C:aH)(d:C.D):List (Nat×Option aC):=cn (j8 y0 C.B (rA C.A d))
structure aH.holds(P:Program)(gl:Ctx)(C:aH):Prop where
 ret:∀d r,C.f.I0 d r→zU P gl C.fn (C.args d) (aD (List.replicate C.m none) (C.ins d)) (.ret (C.res r)) (bZ C.m (C.out r))
 je:∀d x,C.f.I1 d x→zU P gl C.fn (C.args d) (aD (List.replicate C.m none) (C.ins d)) (.je x) (bZ C.m [])
def uU:(m:List (Nat×dB))→{l:List Type}→List (Nat×Option aC)→prod l→Option (prod (eR m l))
 |[],_,[],d=>some d
 |
  (i,s)::m,_,(j,some k)::hp,d=>if Nat.beq i j then(match uU m hp d with
  |some e=>s.G k e
  |none=>none) else none
 |_,_,_,_=>none
theorem qX(y:YC):∀{m:List (Nat×dB)}{l:List Type}{hp:List (Nat×Option aC)}{d:prod l}{e:prod (eR m l)},uU m hp d=some e→cn (j8 y m e)=hp∧Hw m e=d
 |
  [],l,hp,d,e,h=>by
  cases hp with
  |nil=>cases h;exact⟨rfl,rfl⟩
  |cons _ _=>simp[uU] at h
 |
  (i,s)::m,l,hp,d,e,h=>by
  match hp,h with
  |[],h=>simp[uU] at h
  |(j,none)::hp,h=>simp[uU] at h
  |
   (j,some k)::hp,h=>
   obtain⟨hs,h0⟩:=aY h
   have:=Nat.eq_of_beq_eq_true hs;subst this
   split at h0
   ·rename_i e' he
    obtain⟨h1,h2⟩:=qX y he
    obtain⟨g1,g2⟩:=dB.oW y h0
    exact⟨by simp only[j8,cn];rw[g1,g2,h1],by simp only[Hw];rw[g2,h2]⟩
   ·exact no h0
def aH.get(C:aH)(L:List AV)(I:List (Nat×Option aC)):Option C.D:=
 match uU C.B (l:=[]) I () with
 |some d=>Fp C.A L d
 |none=>none
theorem aH.dj{C:aH}{L:List AV}{I:List (Nat×Option aC)}{d:C.D}(h:C.get L I=some d):C.args d=L∧C.ins d=I:=by
 unfold aH.get at h
 split at h
 ·rename_i d1 h1
  obtain⟨a1,a2⟩:=qX y0 h1
  obtain⟨b1,b2⟩:=rm y0 h
  exact⟨b1,by unfold aH.ins;rw[b2,a1]⟩
 ·cases h
structure CH where
 Hp:List Nat
 ps:List (Nat×Nat)
 ns:List (Nat×Nat)
 ks:List (Nat×Nat):=[]
 us:List Nat:=[]
def CH.al(ch:CH):List (Nat×Nat):=match ch.ks with
 |[]=>ch.ps
 |k::ks=>ch.ps++k::ks
inductive KS where
 |t (s:Nat)
 |c (s:Nat) (p:Path)
def KS.get(σ:St):KS→Option AV
 | .t s=>σ.tm[s]?
 |
  .c s p=>match σ.tm[s]? with
  |
   some (.ptr b q)=>match cW σ.hp b with
   |some (.var _ v)=>v.get (q++p)
   |_=>none
  |_=>none
inductive PF where
 |row (b d:Nat) (k:KS)
 |map (mode b d:Nat) (k:KS)
 |dc (b:Nat)
structure RH where
 pre:List Gh
 zs:List (Nat×Nat×Ty)
 cs:List CH
 mg:Option (List (Nat×Ty)):=none
 Rb:List (Nat×Nat):=[]
 pf:List PF:=[]
 post:List Gh:=[]
structure LH where
 S:SS
 fuel:S.T→Nat
structure EA where
 ic:Nat
 dI:Nat
 lI:Nat
 ti:List (Nat×Ty)
 m:List (Nat×Nat)
 jl:List Code
 ps:List (Nat×Nat)
 ns:List (Nat×Nat)
 S:SS
 E:SS
structure Hs where
 Rc:List (Nat×RH)
 join:List (Nat×SS)
 bP:List (Nat×SS)
 loop:List (Nat×LH)
 Re:List (Nat×Nat)
 Rf:List (Nat×EA):=[]
def ifs{R:Type}:List VC→Option R→Option R
 |[],x=>x
 |v::l,x=>@ite _ v.p v.d (ifs l x) none
theorem dv{R:Type}{r:R}:∀{l:List VC}{x:Option R},ifs l x=some r→cD l∧x=some r
 |[],x,h=>⟨trivial,h⟩
 |
  v::l,x,h=>by
  unfold ifs at h
  by_cases hp:v.p
  ·rw[@if_pos _ v.d hp] at h
   obtain⟨h1,h2⟩:=dv h
   exact⟨⟨hp,h1⟩,h2⟩
  ·rw[@if_neg _ v.d hp] at h;cases h
def kO(G:bu)(al ps:List (Nat×Nat))(ev:Operand→AV)(hb:Nat→Option aC)(c:Call):Option (Fn×List AV×List (Nat×Option aC)):=
 match c.callee with
 |
  .value cf=>match yU (ev cf) with
  |
   some (fn,fl,cl)=>
   match iu (swp al) hb (fl.map (fun x=>(x,Ty.unit))++(c.args.toList.zip c.argTypes.toList).map (lM G ev)++cl.map (fun x=>(x,Ty.unit))),fc (swp al) hb ps with
   |some (L,_),some ins=>some (fn,L,ins)
   |_,_=>none
  |_=>none
 |
  .invoke rv name=>match vV G hb name (ev rv) with
  |
   some (f,x,xt)=>
   match iu (swp al) hb ((x,xt)::(c.args.toList.zip c.argTypes.toList).map (lM G ev)),fc (swp al) hb ps with
   |some (L,_),some ins=>some (.func f,L,ins)
   |_,_=>none
  |_=>none
 |_=>none
def zx(P:Program)(gl:Ctx)(cr:CR)(x:Option (Fn×List AV×List (Nat×Option aC))):Prop:=
 ∀fn L ins,x=some (fn,L,ins)→zU P gl fn L (aD (List.replicate cr.m none) ins) cr.fin (bZ cr.m cr.out)
theorem oe{P:Program}{G:bu}{gl:Ctx}{cr:CR}{ev:Operand→AV}{hb:Nat→Option aC}{c:Call}{e:dm}{ob:List Prop}(h:jS P G gl cr ev hb c=some (e,ob))(SC:zx P gl cr (kO G cr.al cr.ps ev hb c)):∀p∈ob,p:=by
 unfold jS at h
 split at h
 ·rename_i cf hcf
  split at h
  ·rename_i fn fl cl hfv
   split at h
   ·rename_i L lent ins r' hL fw SF
    split at h
    ·cases h
     intro p hp
     simp only[List.mem_singleton] at hp
     subst hp
     refine SC fn L ins ?_
     unfold kO
     rw[hcf]
     simp only
     rw[hfv]
     simp only
     rw[hL,fw]
    ·cases h
   ·cases h
  ·cases h
 ·rename_i rv name hcf
  split at h
  ·rename_i f x xt hfv
   split at h
   ·rename_i L lent ins r' hL fw SF
    split at h
    ·cases h
     intro p hp
     simp only[List.mem_singleton] at hp
     subst hp
     refine SC (.func f) L ins ?_
     unfold kO
     rw[hcf]
     simp only
     rw[hfv]
     simp only
     rw[hL,fw]
    ·cases h
   ·cases h
  ·cases h
 ·cases h
def oh(G:bu)(gl:Ctx)(ops:Array Oper)(al ps:List (Nat×Nat))(z:List (Nat×Ty))(σ:St)(i:Nat):Option (Fn×List AV×List (Nat×Option aC)):=
 match ops[i]? with
 |none=>none
 |
  some o=>match o.op with
  |
   .call c=>match z with
   |[]=>kO G al ps (aQ gl σ.tm) (dJ (lL o.op (aQ gl σ.tm)++ps.map (·.2)) σ.hp) c
   |z=>kO G al ps (zf (dJ (iE (aQ gl σ.tm) z) σ.hp) z (aQ gl σ.tm)) (dJ (lL o.op (zf (dJ (iE (aQ gl σ.tm) z) σ.hp) z (aQ gl σ.tm))++ps.map (·.2)) (aD σ.hp (cV (gB (dJ (iE (aQ gl σ.tm) z) σ.hp) (aQ gl σ.tm) z)))) c
  |_=>none
theorem sL{P:Program}{G:bu}{gl:Ctx}{d:Nat}{cr:CR}{op:Op}{ev:Operand→AV}{hb:Nat→Option aC}{e:dm}{ob:List Prop}(h:iP P G gl d cr op ev hb=some (e,ob)):
 ob= []∨∃c e',op= .call c∧gZ op=true∧jS P G gl cr ev hb c=some (e',ob):=by
 unfold iP at h
 split at h
 ·rename_i c
  split at h
  ·simp only[Option.map_eq_some_iff,Prod.mk.injEq] at h
   obtain⟨_,_,_,rfl⟩:=h
   exact Or.inl rfl
  ·rename_i hb
   simp only[Option.bind_eq_some_iff] at h
   obtain⟨⟨e',ob'⟩,h,hk⟩:=h
   have:=Dt hk
   simp only at this
   subst this
   refine Or.inr ⟨c,e',rfl,?_,h⟩
   obtain⟨callee,args,tys⟩:=c
   cases callee with
   |builtin b=>exact absurd rfl (hb b)
   |value _=>rfl
   |invoke _ _=>rfl
 ·simp only[Option.map_eq_some_iff,Prod.mk.injEq] at h
  obtain⟨_,_,_,rfl⟩:=h
  exact Or.inl rfl
theorem jq{P:Program}{G:bu}{gl:Ctx}{ops:Array Oper}{cr:CR}{z:List (Nat×Ty)}{σ:St}{i:Nat}{f:aJ}{vc:List VC}{ob:List Prop}(h:cR P G gl ops cr z σ i=some (f,vc,ob))(SC:nK ops i=true→zx P gl cr (oh G gl ops cr.al cr.ps z σ i)):∀p∈ob,p:=by
 unfold cR at h
 split at h
 ·cases h
 ·rename_i o ho
  have hat:nK ops i=gZ o.op:=by unfold nK;rw[ho]
  split at h
  ·cases h
  ·cases h;intro p hp;cases hp
  ·split at h
   ·split at h
    ·cases h
    ·rename_i e ob' he
     cases h
     rcases sL he with rfl|⟨c,e',Rs,hc,he'⟩
     ·intro p hp;cases hp
     ·refine oe he' ?_
      have:=SC (by rw[hat];exact hc)
      unfold oh at this
      rw[ho] at this
      simp only at this
      split at this
      ·rename_i c' hop'
       rw[Rs] at hop'
       cases hop'
       rw[Rs] at this ⊢
       exact this
      ·rename_i hno;exact absurd Rs (hno c)
   ·rename_i hz
    split at h
    ·cases h
    ·rename_i e ob' he
     cases h
     rcases sL he with rfl|⟨c,e',Rs,hc,he'⟩
     ·intro p hp;cases hp
     ·refine oe he' ?_
      have:=SC (by rw[hat];exact hc)
      unfold oh at this
      rw[ho] at this
      simp only at this
      split at this
      ·rename_i c' hop'
       rw[Rs] at hop'
       cases hop'
       rw[Rs] at this ⊢
       cases z with
       |nil=>exact absurd rfl hz
       |cons z1 z2=>exact this
      ·rename_i hno;exact absurd Rs (hno c)
def JC{R:Type}:Fn→Fn→Option R→Option R→Option R
 | .func f,.func g,K,E=>if Nat.beq f g then K else E
 | .yield l,.yield l',K,_=>ifs [vc (l=l')] K
 |_,_,_,E=>E
theorem sM{R:Type}{f g:Fn}{K E:Option R}{r:R}(h:JC f g K E=some r):(f=g∧K=some r)∨E=some r:=by
 cases f with
 |
  func f=>
  cases g with
  |
   func g=>
   simp only[JC] at h
   split at h
   ·rename_i hb;exact Or.inl ⟨by rw[Nat.eq_of_beq_eq_true hb],h⟩
   ·exact Or.inr h
  |_=>exact Or.inr h
 |
  yield l=>
  cases g with
  |
   yield l'=>
   obtain⟨h1,h2⟩:=dv h
   exact Or.inl ⟨by rw[h1.1],h2⟩
  |_=>exact Or.inr h
 |_=>exact Or.inr h
noncomputable def sN(a b:aC){R:Type}(x:Option R):Option R:=@ite _ (some a=some b) (Classical.propDecidable _) x none
theorem uV{a:aC}{R:Type}{x:Option R}:sN a a x=x:=if_pos rfl
def sO{R:Type}(Γ:List aH)(ps ns ks:List (Nat×Nat))(us:List Nat)(fn:Fn)(L:List AV)(I:List (Nat×Option aC))(K:CR→Option R):List Nat→Option R
 |[]=>none
 |
  c::l=>match Γ[c]? with
  |
   some C=>JC fn C.fn (match C.get L I with
   |some d=>C.f.run d (fun r=>K ⟨C.res r,ps,ns,C.out r,C.m,false,ks,us⟩) fun x=>K ⟨x,ps,[],[],C.m,true,ks,[]⟩
   |none=>sO Γ ps ns ks us fn L I K l) (sO Γ ps ns ks us fn L I K l)
  |none=>none
def BU(Γ:List aH)(ch:CH)(x:Option (Fn×List AV×List (Nat×Option aC))){R:Type}(K:CR→Option R):Option R:=
 match x with
 |some (fn,L,I)=>sO Γ ch.ps ch.ns ch.ks ch.us fn L I K ch.Hp
 |none=>none
theorem oi{P:Program}{gl:Ctx}{Γ:List aH}(hΓ:∀C∈Γ,C.holds P gl){ps ns ks:List (Nat×Nat)}{us:List Nat}{fn:Fn}{L:List AV}{I:List (Nat×Option aC)}{R:Type}{K:CR→Option R}{r:R}:∀{l:List Nat},sO Γ ps ns ks us fn L I K l=some r→
 ∃cr,K cr=some r∧cr.ps=ps∧cr.ks=ks∧zx P gl cr (some (fn,L,I))
 |[],h=>by cases h
 |
  c::l,h=>by
  unfold sO at h
  split at h
  ·rename_i C hC
   rcases sM h with⟨hf,h⟩|h
   ·split at h
    ·rename_i d hd
     obtain⟨h1,h2⟩:=aH.dj hd
     have hC:=hΓ C (List.mem_of_getElem? hC)
     have key:∀(cr:CR),K cr=some r→cr.ps=ps→cr.ks=ks→zU P gl C.fn (C.args d) (aD (List.replicate cr.m none) (C.ins d)) cr.fin (bZ cr.m cr.out)→∃cr,K cr=some r∧cr.ps=ps∧cr.ks=ks∧zx P gl cr (some (fn,L,I)):=by
      intro cr h hp hk hh
      refine⟨cr,h,hp,hk,?_⟩
      intro fn' L' I' e
      cases e
      rw[hf,←h1,←h2]
      exact hh
     rcases CF.sK h with⟨y,hy,h⟩|⟨x,hx,h⟩
     ·exact key _ h rfl rfl (hC.ret d y hy)
     ·exact key _ h rfl rfl (hC.je d x hx)
    ·exact oi hΓ h
   ·exact oi hΓ h
  ·cases h
theorem BV{P:Program}{gl:Ctx}{Γ:List aH}(hΓ:∀C∈Γ,C.holds P gl){ch:CH}{x:Option (Fn×List AV×List (Nat×Option aC))}{R:Type}{K:CR→Option R}{r:R}(h:BU Γ ch x K=some r):
 ∃cr,K cr=some r∧cr.ps=ch.ps∧cr.ks=ch.ks∧zx P gl cr x:=by
 unfold BU at h
 split at h
 ·exact oi hΓ h
 ·cases h
theorem CH.Fa{ch:CH}{cr:CR}(h1:cr.ps=ch.ps)(h2:cr.ks=ch.ks):cr.al=ch.al:=by
 obtain⟨_,ps,_,_,_,_,ks,_⟩:=cr
 obtain⟨_,ps',_,ks',_⟩:=ch
 cases h1
 cases h2
 cases ks<;>rfl
def JD:CR:=⟨.bot,[],[],[],0,false,[],[]⟩
def EB{R:Type}(s:Bool)(f:aJ)(K:aJ→Option R):Option R:=
 match s with
 |false=>K f
 |
  true=>match f.v with
  | .val .bool e=>if e=true then K {f with v:=.val .bool true} else K {f with v:=.val .bool false}
  |_=>K f
theorem px{R:Type}{s:Bool}{f:aJ}{K:aJ→Option R}{r:R}(h:EB s f K=some r):K f=some r:=by
 unfold EB at h
 split at h
 ·exact h
 ·split at h
  ·rename_i e he
   obtain⟨rt,rb,fr,dst,v,hw⟩:=f
   simp only at he
   subst he
   rcases Cw h with⟨he,h⟩|⟨he,h⟩<;>(subst he;exact h)
  ·exact h
def EC{R:Type}:List (Option Nat)→Nat→Int→aJ→(aJ→Option R)→Option R
 |[],_,_,_,_=>none
 |g::gs,n,e,f,K=>if e=(n:Int) then K {f with v:=zp g} else EC gs (n+1) e f K
def BW{R:Type}(ok:Bool)(k0:Ty)(k:k0.den)(f:aJ)(K:aJ→Option R):List (k0.den×AV)→Option R
 |[]=>K {f with v:=okF ok .dt false}
 |x::l=>if aO k0 k x.1=true then K {f with v:=okF ok x.2 true} else BW ok k0 k f K l
theorem py{R:Type}{ok:Bool}{k0:Ty}{k:k0.den}{f:aJ}{K:aJ→Option R}{r:R}:∀{l:List (k0.den×AV)},f.v=iw ok k0 k l→BW ok k0 k f K l=some r→K f=some r
 |
  [],hv,h=>by
  simp only[iw] at hv
  simp only[BW] at h
  rw[←hv] at h;exact h
 |
  x::l,hv,h=>by
  simp only[iw] at hv
  simp only[BW] at h
  split at h
  ·rename_i hb;rw[if_pos hb] at hv;rw[←hv] at h;exact h
  ·rename_i hb;rw[if_neg hb] at hv;exact py hv h
def ED{R:Type}(b:Nat)(p:Path):Nat→Nat→Int→aJ→(aJ→Option R)→Option R
 |0,_,_,_,_=>none
 |m+1,n,e,f,K=>if e=(n:Int) then K {f with v:=.ptr b (p++[.idx n])} else ED b p m (n+1) e f K
theorem pz{R:Type}{f:aJ}{K:aJ→Option R}{r:R}{b:Nat}{p:Path}{e:Int}(hv:f.v= .ptr b (p++[.idx e.toNat])):∀{m n:Nat},ED b p m n e f K=some r→K f=some r
 |0,_,h=>by cases h
 |
  m+1,n,h=>by
  unfold ED at h
  split at h
  ·rename_i he
   subst he
   rw[Int.toNat_natCast] at hv
   rw[←hv] at h
   exact h
  ·exact pz hv h
def I2(hb:Nat→Option aC)(b:Nat)(p:Path):Option Nat:=
 match hb b with
 |
  some k=>match(fa k).sub p with
  |some (.fns n)=>some n
  |_=>none
 |none=>none
theorem zz{P:Program}{G:bu}{d:Nat}{t:TypeId}{x j:Operand}{ev:Operand→AV}{hb:Nat→Option aC}{r:dm}{b:Nat}{p:Path}{k:IntKind}{e:Int}(h:iO P G d (.indexAddr t x j) ev hb=some r)(hx:ev x= .ptr b p)(hj:ev j= .val (.int k) e):r.v= .ptr b (p++[.idx e.toNat]):=by
 simp only[iO,tp,nm,nD,nF,nG,nH,nI,hx,hj,fY] at h
 split at h
 ·rename_i r' h
  cases h
  rename_i h
  simp only[Option.map_eq_some_iff] at h
  obtain⟨⟨u,vc⟩,h,rfl⟩:=h
  unfold fu at h
  split at h
  ·split at h
   ·rename_i h2;cases h2
   ·rename_i h2;cases h2
   ·rename_i h2;cases h2
   ·rename_i h2;cases h2
   ·rename_i h2
    cases h2
    split at h
    ·split at h
     ·split at h
      ·cases h;rfl
      ·cases h
     ·cases h
    ·cases h
   ·rename_i h2
    cases h2
    split at h
    ·split at h
     ·split at h
      ·cases h;rfl
      ·cases h
     ·cases h
    ·cases h
   ·rename_i h2;cases h2
   ·cases h
  ·cases h
 ·cases h
def GW{R:Type}(gl:Ctx)(ops:Array Oper)(σ:St)(i:Nat)(f:aJ)(K:aJ→Option R):Option R:=
 match ops[i]? with
 |
  some o=>match o.guard,o.op with
  |
   none,.indexAddr _ x j=>match aQ gl σ.tm x,aQ gl σ.tm j with
   |
    .ptr b p,.val (.int _) e=>match I2 (cW σ.hp) b p with
    |some n=>ED b p n 0 e f K
    |none=>K f
   |_,_=>K f
  |
   none,.index _ x j=>match aQ gl σ.tm x,aQ gl σ.tm j with
   | .val (.fns _) xs,.val (.int _) e=>EC xs 0 e f K
   |_,_=>K f
  |
   none,.lookup _ x k ok=>match aQ gl σ.tm x with
   |
    .mp b=>match cW σ.hp b with
    |
     some (.eC k0 l)=>match(aQ gl σ.tm k).aU k0 with
     |some k'=>BW ok k0 k' f K l
     |none=>K f
    |_=>K f
   |_=>K f
  |_,_=>K f
 |none=>K f
theorem pA{R:Type}{f:aJ}{K:aJ→Option R}{r:R}{ys:List (Option Nat)}{e:Int}(hv:f.v=zp (ys.getD e.toNat none)):∀{xs:List (Option Nat)}{n:Nat},(∀k,ys.getD (n+k) none=xs.getD k none)→EC xs n e f K=some r→K f=some r
 |[],_,_,h=>by cases h
 |
  g::gs,n,hx,h=>by
  unfold EC at h
  split at h
  ·rename_i he
   subst he
   have:ys.getD n none=g:=by simpa using hx 0
   rw[Int.toNat_natCast,this] at hv
   rw[←hv] at h
   exact h
  ·refine pA hv (fun k=>?_) h
   have:=hx (k+1)
   rw[show n+1+k=n+(k+1) by omega,this]
   simp
theorem zA{P:Program}{G:bu}{R:Type}{gl:Ctx}{ops:Array Oper}{cr:CR}{σ:St}{i:Nat}{f:aJ}{vc:List VC}{ob:List Prop}{K:aJ→Option R}{r:R}(hs:cR P G gl ops cr [] σ i=some (f,vc,ob))(h:GW gl ops σ i f K=some r):K f=some r:=by
 unfold GW at h
 split at h
 ·rename_i o ho
  split at h
  ·rename_i t x j hg Rs
   split at h
   ·rename_i b p k e hx hj
    split at h
    ·rename_i n hn
     have hv:f.v= .ptr b (p++[.idx e.toNat]):=by
      unfold cR at hs
      rw[ho] at hs
      simp only[guardOf,hg] at hs
      split at hs
      ·cases hs
      ·rename_i e' ob' he
       cases hs
       rw[Rs] at he
       simp only[iP,Option.map_eq_some_iff] at he
       obtain⟨e2,h2,he⟩:=he
       cases he
       exact zz h2 hx hj
     exact pz hv h
    ·exact h
   ·exact h
  ·rename_i t x j hg Rs
   split at h
   ·rename_i n xs k e hx hj
    have hv:f.v=zp (xs.getD e.toNat none):=by
     unfold cR at hs
     rw[ho] at hs
     simp only[guardOf,hg,Rs] at hs
     simp only[iP,iO,tp,nm,nD,nF,nG,nH,nI,hx,hj] at hs
     split at hs
     ·cases hs
     ·rename_i e' ob' he
      cases hs
      simp only[Option.map_eq_some_iff,Prod.mk.injEq] at he
      obtain⟨a,ha,rfl,rfl⟩:=he
      split at ha
      case h_2=>cases ha
      rename_i a' ha'
      cases ha
      simp only[Option.map_eq_some_iff] at ha'
      obtain⟨b,hb,rfl⟩:=ha'
      unfold my at hb
      split at hb
      ·split at hb
       ·rename_i h2 h3;cases h2
       ·rename_i m m' ys k' n' h1 h2 h3
        cases h2;cases h3
        split at hb
        ·cases hb;rfl
        ·cases hb
       ·rename_i h1 h2 h3;cases h2
       ·cases hb
      ·cases hb
    exact pA hv (fun k=>by simp) h
   ·exact h
  ·rename_i t x k ok hg Rs
   split at h
   ·rename_i b hx
    split at h
    ·rename_i k0 l RJ
     split at h
     ·rename_i k' hk
      have hv:f.v=iw ok k0 k' l:=by
       unfold cR at hs
       rw[ho] at hs
       simp only[guardOf,hg] at hs
       split at hs
       ·cases hs
       ·rename_i e' ob' he
        cases hs
        rw[Rs] at he
        simp only[iP,Option.map_eq_some_iff] at he
        obtain⟨e2,h2,he⟩:=he
        cases he
        refine sa h2 hx (fun kb hkb=>?_) hk
        have hkb:cW σ.hp b=some kb:=by
         unfold dJ at hkb
         split at hkb
         ·exact hkb
         ·cases hkb
        rw[RJ] at hkb
        exact(Option.some.inj hkb).symm
      exact py hv h
     ·exact h
    ·exact h
   ·exact h
  ·exact h
 ·exact h
def I3{R:Type}(gl:Ctx)(ops:Array Oper)(σ:St)(i:Nat)(z:List (Nat×Ty))(f:aJ)(K:aJ→Option R):Option R:=
 match z with
 |[]=>GW gl ops σ i f (fun f=>EB (Bc ops.toList i) f K)
 |_::_=>EB (Bc ops.toList i) f K
section
variable(P:Program) (G:bu) (gl:Ctx) (Γ:List aH)
def lE(ops:Array Oper)(σ:St)(i:Nat):Bool:=
 match ops[i]? with
 |
  some o=>match guardOf ops σ.tm o with
  |some b=>b
  |none=>false
 |none=>false
def sP(ops:Array Oper){R:Type}(i:Nat)(σ:St)(z:List (Nat×Ty))(x:Option (aJ×List VC×List Prop))(K:aJ→Option R):Option R:=
 match x with
 |some (f,vcs,_)=>if f.fr.all σ.dk then ifs vcs (I3 gl ops σ i z f K) else none
 |none=>none
def BX(gl:Ctx)(ops:Array Oper)(σ:St)(i:Nat):Option aJ:=
 match ops[i]? with
 |
  some o=>match o.guard,o.op with
  |
   none,.panic x=>match aQ gl σ.tm x with
   | .iface t v=>some ⟨slotsOf [x],[],[],none,.iface t v,[]⟩
   |_=>none
  |_,_=>none
 |none=>none
def I4{R:Type}(x:Option (aJ×List VC×List Prop))(KP:aJ→Option R):Option R:=
 match x with
 |some (f,_,_)=>if f.fr.isEmpty then KP f else none
 |none=>none
def ij(ops:Array Oper)(zs:List (Nat×Nat×Ty)){R:Type}(K:List aJ→St→Option R)(KP:List aJ→aJ→St→Option R):Nat→Nat→List CH→St→List aJ→Option R
 |0,_,_,σ,fs=>K fs σ
 |
  n+1,i,cs,σ,fs=>
  if nK ops i&&lE ops σ i then(match cs with
   |
    ch::Sr=>BU Γ ch (oh G gl ops ch.al ch.ps (EY zs i) σ i) fun cr=>match cr.je with
    |false=>sP gl ops i σ (EY zs i) (cR P G gl ops cr (EY zs i) σ i) fun f=>ij ops zs K KP n (i+1) Sr (σ.app f) (f::fs)
    |true=>I4 (cR P G gl ops cr (EY zs i) σ i) fun f=>KP fs f σ
   |[]=>none)
  else match BX gl ops σ i with
  |some f=>KP fs f σ
  |none=>sP gl ops i σ (EY zs i) (cR P G gl ops JD (EY zs i) σ i) fun f=>ij ops zs K KP n (i+1) (if nK ops i then cs.tail else cs) (σ.app f) (f::fs)
end
theorem oj{P:Program}{G:bu}{gl:Ctx}{ops:Array Oper}{cr:CR}{z:List (Nat×Ty)}{σ:St}{i:Nat}{f:aJ}{vc:List VC}{ob:List Prop}{o:Oper}(h:cR P G gl ops cr z σ i=some (f,vc,ob))(ho:ops[i]? =some o):f.dst=o.dst:=by
 unfold cR at h
 rw[ho] at h
 simp only at h
 split at h
 ·cases h
 ·cases h;rfl
 ·split at h
  ·split at h
   ·cases h
   ·cases h;rfl
  ·split at h
   ·cases h
   ·cases h;rfl
theorem sQ{P:Program}{G:bu}{gl:Ctx}{ops:Array Oper}{R:Type}{i:Nat}{σ:St}{cr:CR}{z:List (Nat×Ty)}{K:aJ→Option R}{r:R}{f:aJ}{vc:List VC}{ob:List Prop}(hs:cR P G gl ops cr z σ i=some (f,vc,ob))(h:I3 gl ops σ i z f K=some r):K f=some r:=by
 cases z with
 |nil=>exact px (zA hs h)
 |cons _ _=>exact px h
theorem oo{P:Program}{G:bu}(T:aN P G){gl:Ctx}{ops:Array Oper}{R:Type}{i:Nat}{σ:St}{cr:CR}{z:List (Nat×Ty)}{K:aJ→Option R}{r:R}(RW:cr.je=false)(SC:nK ops i=true→zx P gl cr (oh G gl ops cr.al cr.ps z σ i))(h:sP gl ops i σ z (cR P G gl ops cr z σ i) K=some r):
 ∃f,(oS P gl ops i f σ∧∀o,ops[i]? =some o→f.dst=o.dst)∧(∀d∈f.fr,σ.fresh d)∧K f=some r:=by
 unfold sP at h
 split at h
 ·rename_i f vcs ob hs
  obtain⟨hf,h⟩:=aY h
  obtain⟨hv,h⟩:=dv h
  refine⟨f,⟨jn T RW hs hv (jq hs SC),fun o ho=>oj hs ho⟩,?_,sQ hs h⟩
  intro d hd
  simp only[List.all_eq_true] at hf
  exact St.cG (hf d hd)
 ·cases h
theorem EE{P:Program}{G:bu}{gl:Ctx}{ops:Array Oper}{σ:St}{i:Nat}{cr:CR}{z:List (Nat×Ty)}{f:aJ}{vc:List VC}{ob:List Prop}(h:cR P G gl ops cr z σ i=some (f,vc,ob))(hg:lE ops σ i=false):ob= []:=by
 unfold cR at h
 unfold lE at hg
 split at h
 ·cases h
 ·rename_i o ho
  rw[ho] at hg
  simp only at hg
  split at h
  ·cases h
  ·cases h;rfl
  ·rename_i hgd
   rw[hgd] at hg
   cases hg
theorem BY{P:Program}{gl:Ctx}{ops:Array Oper}{σ:St}{i:Nat}{f:aJ}(h:BX gl ops σ i=some f):sd P gl ops i f σ:=by
 unfold BX at h
 split at h
 ·rename_i o ho
  split at h
  ·rename_i x hgd Rs
   split at h
   ·rename_i t v hx
    cases h
    intro σ' ha E a w hg K Q hQ
    unfold wpOpIn
    simp only[ho]
    have hw:=dx hg (ops:=ops) (o:=o) (c:=true) (by unfold guardOf;rw[hgd])
    rw[hw]
    simp only[if_true]
    have hv:=dN hg x
    rw[eV ha (x:=x) (fun t ht=>by simp only[slotsOf,List.flatMap_cons,List.flatMap_nil,List.append_nil];exact ht),hx] at hv
    obtain⟨u,e,_⟩:=RV.atom rfl hv
    simp at e
    unfold Oper.wpIn
    refine⟨fun _ _=>trivial,?_⟩
    rw[Oper.semAt_eq _ _ _ (by rw[Rs];intro c h;cases h)]
    have RN:(execOp a.eval o).run P w= .halt (.panic (a.eval x)) w:=by
     simp[execOp,Rs,e,Instr.panic]
    rw[RN]
    exact hQ E (a.eval x) w hg hv (Ext.refl _ _ _)
   ·cases h
  ·cases h
 ·cases h
theorem sR{ops:Array Oper}{σ:St}{i:Nat}(h1:nK ops i=true)(h2:lE ops σ i=true):∃o,ops[i]? =some o∧guardOf ops σ.tm o=some true∧gZ o.op=true:=by
 unfold lE at h2
 unfold nK at h1
 split at h2
 ·rename_i o ho
  rw[ho] at h1
  split at h2
  ·rename_i b hb
   subst h2
   exact⟨o,ho,hb,h1⟩
  ·cases h2
 ·cases h2
theorem j5{P:Program}{G:bu}(T:aN P G){gl:Ctx}{Γ:List aH}(hΓ:∀C∈Γ,C.holds P gl){ops:Array Oper}{zs:List (Nat×Nat×Ty)}{R:Type}{K:List aJ→St→Option R}{KP:List aJ→aJ→St→Option R}{r:R}:
 ∀{n i:Nat}{cs:List CH}{σ:St}{fs:List aJ},ij P G gl Γ ops zs K KP n i cs σ fs=some r→
  (∃gs σ',kI P gl ops i gs σ σ'∧gs.length=n∧(∀(k:Nat)(f:aJ)(o:Oper),gs[k]? =some f→ops[i+k]? =some o→f.dst=o.dst)∧K (gs.reverse++fs) σ'=some r)∨
  ∃gs f σ',kI P gl ops i gs σ σ'∧gs.length<n∧sd P gl ops (i+gs.length) f σ'∧KP (gs.reverse++fs) f σ'=some r
 |0,i,cs,σ,fs,h=>Or.inl ⟨[],σ,rfl,rfl,(fun k f o h=>by simp at h),h⟩
 |
  n+1,i,cs,σ,fs,h=>by
  unfold ij at h
  have fin:∀{f:aJ}{Sr:List CH},(oS P gl ops i f σ∧∀o,ops[i]? =some o→f.dst=o.dst)→(∀d∈f.fr,σ.fresh d)→ij P G gl Γ ops zs K KP n (i+1) Sr (σ.app f) (f::fs)=some r→
   (∃gs σ',kI P gl ops i gs σ σ'∧gs.length=n+1∧(∀(k:Nat)(f:aJ)(o:Oper),gs[k]? =some f→ops[i+k]? =some o→f.dst=o.dst)∧K (gs.reverse++fs) σ'=some r)∨
   ∃gs f σ',kI P gl ops i gs σ σ'∧gs.length<n+1∧sd P gl ops (i+gs.length) f σ'∧KP (gs.reverse++fs) f σ'=some r:=by
   intro f Sr h1 h2 h3
   rcases j5 T hΓ h3 with⟨gs,σ',k1,k2,kd,k3⟩|⟨gs,f',σ',k1,k2,kp,k3⟩
   ·refine Or.inl ⟨f::gs,σ',⟨h1.1,h2,k1⟩,by simp[k2],?_,by simpa using k3⟩
    intro k f' o hf ho
    cases k with
    |zero=>simp at hf;subst hf;exact h1.2 o ho
    |succ k=>exact kd k f' o (by simpa using hf) (by rw[←ho];congr 1;omega)
   ·exact Or.inr ⟨f::gs,f',σ',⟨h1.1,h2,k1⟩,by simp;omega,by rw[List.length_cons,show i+(gs.length+1)=i+1+gs.length from by omega];exact kp,by simpa using k3⟩
  split at h
  ·rename_i hcg
   simp only[Bool.and_eq_true] at hcg
   split at h
   ·rename_i ch Sr
    obtain⟨cr,h,hps,hks,SC⟩:=BV hΓ h
    split at h
    ·rename_i RW
     obtain⟨f,h1,h2,h3⟩:=oo T RW (fun _=>by rw[hps,CH.Fa hps hks];exact SC) h
     exact fin h1 h2 h3
    ·rename_i RW
     unfold I4 at h
     split at h
     ·rename_i f vcs ob hs
      obtain⟨hf,h⟩:=aY h
      obtain⟨o,ho,hgd,SA⟩:=sR hcg.1 hcg.2
      exact Or.inr ⟨[],f,σ,rfl,by simp,ud T RW ho hgd SA hs (jq hs (fun _=>by rw[hps,CH.Fa hps hks];exact SC)) (by simpa using hf),by simpa using h⟩
     ·cases h
   ·cases h
  ·rename_i hc
   split at h
   ·rename_i f hf
    exact Or.inr ⟨[],f,σ,rfl,by simp,BY hf,by simpa using h⟩
   ·cases ho:nK ops i with
    |
     false=>
     rw[ho] at h
     obtain⟨f,h1,h2,h3⟩:=oo T rfl (fun e=>by rw[ho] at e;cases e) h
     exact fin h1 h2 h3
    |
     true=>
     rw[ho] at h hc
     have hg:lE ops σ i=false:=by simpa using hc
     unfold sP at h
     split at h
     ·rename_i f vcs ob hs
      obtain⟨hf,h⟩:=aY h
      obtain⟨hv,h⟩:=dv h
      refine fin ⟨jn T rfl hs hv (by rw[EE hs hg];intro p hp;cases hp),fun o ho=>oj hs ho⟩ ?_ (sQ hs h)
      intro d hd
      simp only[List.all_eq_true] at hf
      exact St.cG (hf d hd)
     ·cases h
section
variable(P:Program) (G:bu) (gl:Ctx)
def jr(ops:Array Oper)(draw:Bool)(z p:Nat)(masks:List Nat){R:Type}(K:List aJ→Option R):Nat→Nat→St→List aJ→Option R
 |0,_,_,gs=>K gs.reverse
 |
  n+1,j,σ,gs=>if !draw||(masks.getD j 0).testBit p then jr ops draw z p masks K n (j+1) σ (yx z::gs)
  else if nK ops j then none else match cR P G gl ops JD [] σ j with
   |some (f,vcs,_)=>if f.fr.isEmpty&&ET z [f] then ifs vcs (jr ops draw z p masks K n (j+1) (σ.app f) (f::gs)) else none
   |none=>none
end
theorem j6{P:Program}{G:bu}(T:aN P G){gl:Ctx}{ops:Array Oper}{draw:Bool}{z p:Nat}{masks:List Nat}{R:Type}{K:List aJ→Option R}{r:R}:∀{n j:Nat}{σ:St}{gs:List aJ},jr P G gl ops draw z p masks K n j σ gs=some r→
 ∃ms σ',(σ.hp[z]? =some (some vw)→bG (vz P gl ops z) j ms σ σ')∧ms.length=n∧ET z ms=true∧K (gs.reverse++ms)=some r
 |0,j,σ,gs,h=>⟨[],σ,fun _=>rfl,rfl,rfl,by simpa[jr] using h⟩
 |
  n+1,j,σ,gs,h=>by
  unfold jr at h
  split at h
  ·obtain⟨ms,σ',h1,h2,h3,h4⟩:=j6 T h
   refine⟨yx z::ms,σ',fun hz=>⟨Or.inr ⟨rfl,hz⟩,(fun d hd=>by cases hd),h1 hz⟩,by simp[h2],by simp only[ET,List.all_cons,Bool.and_eq_true] at h3 ⊢;exact⟨rfl,h3⟩,by simpa using h4⟩
  ·split at h
   ·cases h
   ·rename_i ho
    split at h
    ·rename_i f vcs ob hs
     obtain⟨hf,h⟩:=aY h
     obtain⟨hv,h⟩:=dv h
     simp only[Bool.and_eq_true,List.isEmpty_iff] at hf
     obtain⟨ms,σ',h1,h2,h3,h4⟩:=j6 T h
     have SC:=jq (cr:=JD) hs (fun e=>absurd e ho)
     have hnz:ET z (f::ms)=true:=by
      have:=hf.2
      simp only[ET,List.all_cons,List.all_nil,Bool.and_true,Bool.and_eq_true] at this h3 ⊢
      exact⟨this,h3⟩
     refine⟨f::ms,σ',fun hz=>⟨Or.inl (jn T rfl hs hv SC),(fun d hd=>by rw[hf.1] at hd;cases hd),h1 ?_⟩,by simp[h2],hnz,by simpa using h4⟩
     have hq:bG (fun _ _ _=>True) j [f] σ (σ.app f):=⟨trivial,(fun d hd=>by rw[hf.1] at hd;cases hd),rfl⟩
     exact bG.at hq hf.2 hz
    ·cases h
def JE{α:Type}:List (Nat×α)→Nat→Option α
 |[],_=>none
 |(i,x)::l,j=>if Nat.beq i j then some x else JE l j
def lF:Code→Option Nat
 | .region id _ _=>some id
 |
  .seq a b=>match lF a with
  |some i=>some i
  |none=>lF b
 |
  .cond _ a b=>match lF a with
  |some i=>some i
  |none=>lF b
 | .block _ c| .loop c| .scope c=>lF c
 |_=>none
def EF{α:Type}(l:List (Nat×α))(c:Code):Option α:=
 match lF c with
 |some i=>JE l i
 |none=>none
def aL{U R:Type}(F:(U→Option R)→U→Option R)(n:Nat):U→Option R:=
 @Nat.rec (fun _=>U→Option R) (fun _=>none) (fun _ ih=>F ih) n
def aG{U R:Type}(x:Option (ct U R))(f:U→Option R):Option R:=
 Option.bind x fun o=>match o with
  | .brk d=>f d
  | .ret r=>some r
def ei{U R:Type}(x:Option R):Option (ct U R):=x.map .ret
theorem uW{U R:Type}{x:Option (ct U R)}{f:U→Option R}{r:R}(h:aG x f=some r):(∃d,x=some (.brk d)∧f d=some r)∨x=some (.ret r):=by
 obtain⟨o,ho,h⟩:=bind_some h
 cases o with
 |brk d=>exact Or.inl ⟨d,ho,h⟩
 |ret r'=>cases h;exact Or.inr ho
def EG(ops:Array Oper):Bool:=ops.toList.any fun o=>match o.op with
 | .defer _=>true
 |_=>false
def oq{R:Type}(F:YC→Option R):Option R:=
 @dite _ (∃r,∀y,F y=some r) (Classical.propDecidable _) (fun h=>some h.choose) fun _=>none
theorem zB{R:Type}{F:YC→Option R}{r:R}(h:oq F=some r)(y:YC):F y=some r:=by
 unfold oq at h
 split at h
 ·rename_i hx
  cases h
  exact hx.choose_spec y
 ·cases h
def zN{R:Type}(a b:YC)(x:Option R):Option R:=@ite _ (a=b) (Classical.propDecidable _) x none
structure IC where
 A:List Sh
 B:List (Nat×dB)
 m:Nat
 k0:Nat
 R:List (Nat×dB)
 Hp:Nat→(prod (mQ A (eR B []))→Option (dX (Bool::YC::Nat::eR R [])))→aH
def IC.T(C:IC):List Type:=Bool::YC::Nat::eR C.R []
def IC.Y(C:IC)(l:Nat)(f:prod (mQ C.A (eR C.B []))→Option (dX C.T)):aH:=
 ⟨.yield l,C.A,C.B,C.m,⟨1,C.m,[(0,.val .bool)],(C.k0,.lp)::C.R,[]⟩,fun r=>.val .bool (k7 C.T r).1,fun r=>(C.k0,.lp (k7 C.T r).2.1 (k7 C.T r).2.2.1)::j8 y0 C.R (k7 C.T r).2.2.2,.bE f⟩
def IC.holds(P:Program)(gl:Ctx)(C:IC):Prop:=∀B hB l f,(C.Y l f).holds P (gl.wB B hB)→(C.Hp l f).holds P (gl.wB B hB)
def oU:Option aC→Bool
 |some (.tv _ _ _)=>true
 |_=>false
def oV:List (Option aC)→Bool
 |[]=>true
 |x::l=> !oU x&&oV l
theorem ya:∀{l:List (Option aC)},oV l=true→∀(i g:Nat)(t:Ty)(v:AV),l[i]? ≠some (some (.tv g t v))
 |[],_,i,g,t,v=>by simp
 |
  x::l,h,i,g,t,v=>by
  simp only[oV,Bool.and_eq_true] at h
  cases i with
  |zero=>intro e;simp at e;subst e;exact absurd h.1 (by simp[oU])
  |succ i=>simpa using ya h.2 i g t v
def BZ(y:YC)(ti:List (Nat×Ty))(k0:Nat):Nat→List (Option aC)→Option (List VC×List (Option aC))
 |_,[]=>some ([],[])
 |
  i,x::l=>match BZ y ti k0 (i+1) l with
  |none=>none
  |
   some (vs,H)=>if Nat.beq i k0 then(match x with
    |some (.lp y' j)=>some (⟨y'=y,Classical.propDecidable _⟩::vc (j=0)::vs,none::H)
    |_=>none)
   else match x with
    |none=>some (vs,none::H)
    |some (.tv g t v)=>if iH i ti then some (vc (g=y.gs i)::vs,some (.var t v)::H) else none
    |some (.var t v)=>if iH i ti then none else some (vs,some (.var t v)::H)
    |some k=>some (vs,some k::H)
theorem mK{y:YC}{ti:List (Nat×Ty)}{k0:Nat}:∀{X:List (Option aC)}{s:Nat}{vs:List VC}{H:List (Option aC)},BZ y ti k0 s X=some (vs,H)→cD vs→
 H.length=X.length∧(∀i,s+i=k0→i<X.length→X[i]? =some (some (.lp y 0))∧H[i]? =some none)∧(∀i,s+i≠k0→X[i]? =(tie y.gs ti s H)[i]?)∧oV H=true
 |[],s,vs,H,h,_=>by cases h;exact⟨rfl,fun i _ hi=>by simp at hi,fun i _=>rfl,rfl⟩
 |
  x::l,s,vs,H,h,hv=>by
  unfold BZ at h
  split at h
  ·cases h
  ·rename_i vs' H' hr
   have step:∀{k:Option aC}{k':Option aC},cD vs'→Nat.beq s k0=false→x=k→(∀L,(tie y.gs ti s (k'::L))=k::tie y.gs ti (s+1) L)→oU k'=false→(k'::H').length=(x::l).length∧(∀i,s+i=k0→i<(x::l).length→(x::l)[i]? =some (some (.lp y 0))∧(k'::H')[i]? =some none)∧(∀i,s+i≠k0→(x::l)[i]? =(tie y.gs ti s (k'::H'))[i]?)∧oV (k'::H')=true:=by
    intro k k' RE hb hx ht hnt
    obtain⟨h1,h2,h3,h4⟩:=mK hr RE
    have Rw:s≠k0:=fun e=>by rw[e,Nat.beq_refl] at hb;cases hb
    refine⟨by simp[h1],?_,?_,by simp[oV,hnt,h4]⟩
    ·intro i hi hl
     cases i with
     |zero=>exact absurd hi Rw
     |succ i=>exact h2 i (by omega) (by simpa using hl)
    ·intro i hi
     rw[ht,hx]
     cases i with
     |zero=>rfl
     |succ i=>simpa using h3 i (by omega)
   split at h
   ·rename_i hb
    have hs:=Nat.eq_of_beq_eq_true hb
    subst hs
    split at h
    ·rename_i y' j
     cases h
     obtain⟨e1,e2,RE⟩:=hv
     have e1:y'=y:=e1
     have e2:j=0:=e2
     subst e1;subst e2
     obtain⟨h1,h2,h3,h4⟩:=mK hr RE
     refine⟨by simp[h1],?_,?_,by simp[oV,oU,h4]⟩
     ·intro i hi _
      have:i=0:=by omega
      subst this
      exact⟨rfl,rfl⟩
     ·intro i hi
      cases i with
      |zero=>exact absurd rfl hi
      |succ i=>simpa[tie] using h3 i (by omega)
    ·cases h
   ·rename_i hb
    have hb:Nat.beq s k0=false:=by cases hq:Nat.beq s k0 with|false=>rfl|true=>exact absurd hq hb
    split at h
    ·cases h;exact step hv hb rfl (fun L=>rfl) rfl
    ·rename_i g t v
     obtain⟨ht,h⟩:=aY h
     cases h
     obtain⟨e1,RE⟩:=hv
     have e1:g=y.gs s:=e1
     subst e1
     exact step RE hb rfl (fun L=>by simp[tie,jd,ht]) rfl
    ·rename_i t v
     split at h
     ·cases h
     ·rename_i ht
      cases h;exact step hv hb rfl (fun L=>by simp[tie,jd,ht]) rfl
    ·rename_i k n1 n2
     cases h
     refine step hv hb rfl (fun L=>?_) ?_
     ·cases k with
      |var t v=>exact absurd rfl (n2 t v)
      |_=>rfl
     ·cases k with
      |tv g t v=>exact absurd rfl (n1 g t v)
      |_=>rfl
def pB(p:Code→Bool):List Code→Nat→Option Nat
 |[],_=>none
 |c::l,n=>if p c then some n else pB p l (n+1)
def Fb:Code→Bool
 | .ret=>true
 |_=>false
def B0(i:Nat):Code→Bool
 | .exit j=>Nat.beq i j
 |_=>false
def EH(jl:List Code):dy→Option Nat
 | .normal=>some 0
 | .ret=>pB Fb jl 1
 | .exit i=>pB (B0 i) jl 1
 | .panic _=>none
theorem sS{p:Code→Bool}:∀{l:List Code}{n j:Nat},pB p l n=some j→n≤j∧∃c,l[j -n]? =some c∧p c=true
 |[],_,_,h=>by cases h
 |
  c::l,n,j,h=>by
  unfold pB at h
  split at h
  ·rename_i hp;cases h;exact⟨Nat.le_refl _,c,by simp,hp⟩
  ·obtain⟨h1,c',h2,h3⟩:=sS h
   refine⟨by omega,c',?_,h3⟩
   rw[show j -n=(j -(n+1))+1 by omega]
   simpa using h2
theorem pC{p:Code→Bool}{jl:List Code}{j:Nat}(h:pB p jl 1=some j):j≠0∧∃c,jmp jl j=some c∧p c=true:=by
 obtain⟨h1,c,h2,h3⟩:=sS h
 refine⟨by omega,c,?_,h3⟩
 cases j with
 |zero=>omega
 |succ j=>simpa[jmp] using h2
def GX{R:Type}(c:Code)(σ:St)(k:dy→St→Option R):Option R:=
 match c with
 | .ret=>k .ret σ
 | .exit i=>k (.exit i) σ
 |_=>none
def EI{R:Type}(σ:St)(k:dy→St→Option R)(j:Nat):List Code→Nat→Option R
 |[],_=>none
 |c::l,n=>if j=n then GX c σ k else EI σ k j l (n+1)
def GY{R:Type}(jl:List Code)(j:Nat)(σ:St)(k:dy→St→Option R):Option R:=if j=0 then k .normal σ else EI σ k j jl 1
theorem yb{R:Type}{σ:St}{k:dy→St→Option R}{j:Nat}{r:R}:∀{l:List Code}{n:Nat},EI σ k j l n=some r→n≤j∧∃c,l[j -n]? =some c∧GX c σ k=some r
 |[],_,h=>by cases h
 |
  c::l,n,h=>by
  unfold EI at h
  split at h
  ·rename_i hp;subst hp;exact⟨Nat.le_refl _,c,by simp,h⟩
  ·obtain⟨h1,c',h2,h3⟩:=yb h
   refine⟨by omega,c',?_,h3⟩
   rw[show j -n=(j -(n+1))+1 by omega]
   simpa using h2
theorem EJ{P:Program}{gl:Ctx}{R:Type}{jl:List Code}{j:Nat}{σ:St}{k:dy→St→Option R}{r:R}(h:GY jl j σ k=some r):match jmp jl j with
 |none=>k .normal σ=some r
 |some c=>bV P gl c σ (fun e σ'=>k e σ'=some r):=by
 unfold GY at h
 split at h
 ·rename_i hj;subst hj;exact h
 ·obtain⟨h1,c,h2,h3⟩:=yb h
  have hj:jmp jl j=some c:=by
   cases j with
   |zero=>omega
   |succ j=>simpa[jmp] using h2
  rw[hj]
  simp only
  unfold GX at h3
  split at h3
  ·exact bV.ret h3
  ·exact bV.exit h3
  ·cases h3
def B1(y:YC)(rh:EA)(C:IC):dy→St→Option (dX (Nat::eR C.R [])):=fun e σ=>
 match EH rh.jl e,rh.E.mR σ with
 |
  some j,some u=>if oV (rh.E.st y0 u).hp&&Nat.ble C.m (rh.E.st y0 u).hp.length then(match Jj C.R (l:=[]) (tie y.gs rh.ti 0 (rh.E.st y0 u).hp) () with
  |some e=>some (Fo (Nat::eR C.R []) (j,e))
  |none=>none) else none
 |_,_=>none
def Hq(y:YC)(rh:EA)(C:IC)(ps:Array Tmp)(σ:St)(wA wB:St→(dy→St→Option (dX (Nat::eR C.R [])))→Option (dX (Nat::eR C.R []))):prod (mQ C.A (eR C.B []))→Option (dX C.T):=fun d=>
 match BZ y rh.ti C.k0 0 (aD (List.replicate C.m none) (cn (j8 y0 C.B (rA C.A d)))) with
 |
  some (vcs,H0)=>ifs vcs (if Nat.beq ps.size (rz y0 C.A d).length&&kY H0 rh.ti then(Option.bind (wA ⟨jL (ps.toList.zip (rz y0 C.A d)) (zP rh.m σ.tm),H0,[]⟩ (fun e σ1=>match e with
  | .normal=>wB σ1 (B1 y rh C)
  |_=>none)) fun r=>match BZ y rh.ti C.m 0 (bZ C.m (j8 y0 C.R (k7 (Nat::eR C.R []) r).2)) with
  |some (vs,H1)=>ifs vs (if kY H1 rh.ti then some (Fo C.T (Nat.beq (k7 (Nat::eR C.R []) r).1 0,y,(k7 (Nat::eR C.R []) r).1,(k7 (Nat::eR C.R []) r).2)) else none)
  |none=>none) else none)
 |none=>none
def GZ(σ:St)(rh:EA)(C:IC)(cs:AV):Bool:=
 σ.dk rh.dI&&σ.dk rh.lI&& !Nat.beq rh.dI rh.lI&&Nat.blt C.k0 16&&Nat.blt C.k0 C.m&& !iH C.k0 rh.ti&&Js σ.hp rh.ti rh.m&&gj (rh.m.map (·.2))&&cs.atoms&&C.R.all fun x=> !Nat.beq x.1 C.k0
def Fe(σ:St)(y:YC)(rh:EA)(cr:CR){R:Type}(k:dy→St→Option R):Option R:=
 match cr.r with
 |
  .dX .nil=>if qo cr []&&((cr.ns.map (·.2)).all (fun b=>({σ with hp:=lK y rh.m rh.dI rh.lI σ.hp,df:=.mp rh.dI::σ.df}:St).dk b)) then(match(aD (lK y rh.m rh.dI rh.lI σ.hp) (iD (cr.al++cr.ns) cr.out (cr.ps++cr.ns)))[rh.lI]? with
  |some (some (.lp y' j))=>ifs [⟨y'=y,Classical.propDecidable _⟩] (GY rh.jl j ⟨σ.tm,zQ ((aD (lK y rh.m rh.dI rh.lI σ.hp) (iD (cr.al++cr.ns) cr.out (cr.ps++cr.ns))).set rh.lI none),.mp rh.dI::σ.df⟩ k)
  |_=>none) else none
 |_=>none
def G0(σ:St)(y:YC)(rh:EA)(gf:FuncId)(cs:AV)(C2:aH){R:Type}(k:dy→St→Option R):Option R:=
 match iu (swp rh.ps) (cW (lK y rh.m rh.dI rh.lI σ.hp)) (((.func (.yield y.l) .nil .nil,Ty.unit))::cs.toList.map (fun x=>(x,Ty.unit))),fc (swp rh.ps) (cW (lK y rh.m rh.dI rh.lI σ.hp)) rh.ps with
 |
  some (L,[]),some ins=>JC (.func gf) C2.fn (match C2.get L ins with
  |some d=>C2.f.run d (fun r=>Fe σ y rh ⟨C2.res r,rh.ps,rh.ns,C2.out r,C2.m,false,[],[]⟩ k) (fun _=>none)
  |none=>none) none
 |_,_=>none
section
variable(P:Program) (G:bu) (gl:Ctx) (fr:Bool) (H:Hs) (Γ:List aH)
def forget:List Oper→List AV→List AV
 |[],tm=>tm
 |
  o::l,tm=>forget l (match o.dst with
  |some d=>tm.set d .bot
  |none=>tm)
def G1:List (Nat×Ty)→List Type
 |[]=>[]
 |(_,t)::l=>t.den::G1 l
def JF:(l:List (Nat×Ty))→List AV→Option (prod (G1 l))
 |[],_=>some ()
 |
  (i,t)::l,tm=>match tm[i]? with
  |
   some (.val u x)=>if h:Ty.same u t=true then(match JF l tm with
   |some d=>some (oD h x,d)
   |none=>none) else none
  |_=>none
def JG:(l:List (Nat×Ty))→prod (G1 l)→List (Nat×AV)
 |[],_=>[]
 |(i,t)::l,d=>(i,.val t d.1)::JG l d.2
def G2(ops:Array Oper)(l:List (Nat×Ty))(σ:St)(t:dX (G1 l)):St:={σ with tm:=jc (JG l (k7 (G1 l) t)) (forget ops.toList σ.tm)}
def EK{R:Type}(ops:Array Oper)(draw:Bool)(σ:St)(k:St→Option R)(fs:List aJ)(σ':St):Option R:=
 if draw then(if iz ops fs.reverse&&fb σ fs.reverse then k σ' else none) else k σ'
def zC(fs:List aJ):Bool:=fs.all fun f=>f.hw.isEmpty
def B2{R:Type}(ops:Array Oper)(draw:Bool)(σ:St)(k:dy→St→Option R)(fs:List aJ)(f:aJ)(σp:St):Option R:=
 if Nat.blt (σ.hp.length -1) σ.hp.length&&f.v.plain then
  jr P G gl ops draw (σ.hp.length -1) fs.length (if draw then lD ops.toList [] else[]) (fun gs=>
   if draw then(if iz ops (fP fs.reverse f (σ.hp.length -1) gs)&&fb σ (fP fs.reverse f (σ.hp.length -1) gs) then k (.panic f.v) (oI fs.reverse f (σ.hp.length -1) gs σ) else none)
   else k (.panic f.v) (oI fs.reverse f (σ.hp.length -1) gs σ)) (ops.size -fs.length -1) (fs.length+1) (σp.app (oH f (σ.hp.length -1))) [] else none
def uX(ops:Array Oper)(draw:Bool)(σ:St):Option St:=
 match draw,ops with
 |
  false,⟨[o0,o1]⟩=>if gZ o0.op then none else match cR P G gl ops JD [] σ 0 with
  |
   some (f,[],_)=>match f.fr.all σ.dk,o1.op,o1.guard,o1.dst with
   |
    true,.defer {callee:=.value x,args:=⟨[]⟩,argTypes:=⟨[]⟩},none,none=>match aQ gl (σ.app f).tm x with
    | .func fn .nil cs=>some {σ.app f with df:=.func fn .nil cs::(σ.app f).df}
    |_=>none
   |_,_,_,_=>none
  |_=>none
 |_,_=>none
def uY(ops:Array Oper):Option (Nat×Nat×Nat):=
 match ops with
 |
  ⟨[o0,o1]⟩=>match o0.op,o0.guard,o0.dst,o1.op,o1.guard,o1.dst with
  | .next (.tmp s) false,none,some d,.extract (.tmp d') 0,none,some d1=>if Nat.beq d' d then some (s,d,d1) else none
  |_,_,_,_,_,_=>none
 |_=>none
def B3(s d d1:Nat){R:Type}(σ:St)(k:dy→St→Option R):Option R:=
 match σ.tm[s]? with
 |
  some (.ptr b [])=>match cW σ.hp b with
  |
   some (.iG kt vt rest _)=>if Nat.blt d σ.tm.length then(if rest.isEmpty=true then k .normal ((σ.put (some d) .bot).put (some d1) (.val .bool false))
   else zJ rest fun x l=>k .normal ((({σ with hp:=σ.hp.set b (some (.iG kt vt l (some x)))}:St).put (some d) .bot).put (some d1) (.val .bool true))) else none
  |_=>none
 |_=>none
def kP(ops:Array Oper)(draw:Bool)(zs:List (Nat×Nat×Ty))(cs:List CH)(mg:Option (List (Nat×Ty))){R:Type}(σ:St)(k:dy→St→Option R):Option R:=
 if EG ops then(if fr then(match uX P G gl ops draw σ with
  |some σ'=>k .normal σ'
  |none=>none) else none) else
 match if draw then none else uY ops with
 |some (s,d,d1)=>B3 s d d1 σ k
 |none=>match mg with
 |none=>ij P G gl Γ ops zs (EK ops draw σ (k .normal)) (B2 P G gl ops draw σ k) ops.size 0 cs σ []
 |some l=>Option.bind (ij P G gl Γ ops zs (fun fs σ'=>if zC fs then EK ops draw σ (fun σ'=>(JF l σ'.tm).map (Fo (G1 l))) fs σ' else none) (fun _ _ _=>none) ops.size 0 cs σ []) fun d=>k .normal (G2 ops l σ d)
def B4{R:Type}:List (Nat×Nat)→St→(St→Option R)→Option R
 |[],σ,K=>K σ
 |
  (b,s)::l,σ,K=>match σ.tm[s]?,cW σ.hp b with
  |
   some (.val (.int _) n),some (.row _ _ _ xs)=>ifs [vc (0≤n),vc (n<xs.length)] (match pn b n.toNat σ with
   |some σ'=>B4 l σ' K
   |none=>none)
  |
   some (.ptr c [.idx i]),some (.row _ _ _ _)=>if Nat.beq c b then(match pn b i σ with
   |some σ'=>B4 l {σ' with tm:=σ'.tm.set s (.ptr b [.cB 1])} K
   |none=>none) else none
  |_,_=>none
def Ff{R:Type}:List PF→St→(St→Option R)→Option R
 |[],σ,K=>K σ
 |
  .row b d k::l,σ,K=>match k.get σ,cW σ.hp b with
  |
   some (.val (.int _) n),some (.bQ _ _ _ xs _ _)=>ifs [vc (0≤n),vc (n<xs.length)] (match Cq b n.toNat d σ with
   |some σ'=>Ff l σ' K
   |none=>none)
  |_,_=>none
 |
  .map mode b d k::l,σ,K=>match k.get σ with
  |
   some (.val t x)=>match Ct mode b d t x σ with
   |some (vcs,σ')=>ifs vcs (Ff l σ' K)
   |none=>none
  |_=>none
 |
  .dc b::l,σ,K=>match j7 b σ with
  |some σ'=>Ff l σ' K
  |none=>none
def Fg{R:Type}(l:List Gh)(k:dy→St→Option R):dy→St→Option R
 |
  .normal,σ=>match Hu l σ with
  |some σ'=>k .normal σ'
  |none=>none
 |e,σ=>k e σ
def qY(id:Nat)(ops:Array Oper)(draw:Bool){R:Type}(σ:St)(k:dy→St→Option R):Option R:=
 match JE H.Rc id with
 |none=>kP P G gl fr Γ ops draw [] [] none σ k
 |
  some rh=>match Hu rh.pre σ with
  |some σ0=>B4 rh.Rb σ0 fun σ0=>Ff rh.pf σ0 fun σ0=>kP P G gl fr Γ ops draw rh.zs rh.cs rh.mg σ0 (Fg rh.post k)
  |none=>none
def Rg{R:Type}(S:SS)(k:dy→St→Option R):dy→St→Option (ct S.T R)
 | .normal,σ=>(S.mR σ).map .brk
 |e,σ=>ei (k e σ)
def OR{R:Type}(id:Nat)(S:SS)(k:dy→St→Option R):dy→St→Option (ct S.T R)
 | .normal,σ=>(S.mR σ).map .brk
 | .exit i,σ=>if Nat.beq i id then(S.mR σ).map .brk else ei (k (.exit i) σ)
 |e,σ=>ei (k e σ)
def OS{R:Type}(id:Nat)(k:dy→St→Option R):dy→St→Option R
 | .exit i,σ=>if Nat.beq i id then k .normal σ else k (.exit i) σ
 |e,σ=>k e σ
def yc{R:Type}(w:St→(dy→St→Option R)→Option R)(k:dy→St→Option R):Nat→St→Option R
 |0,_=>none
 |
  n+1,σ=>w σ fun e σ'=>match e with
  | .normal=>yc w k n σ'
  |e=>k e σ'
end
section
variable(P:Program) (G:bu) (I:List IC) (H:Hs) (Γ:List aH)
def walk:Code→Ctx→Bool→{R:Type}→St→(dy→St→Option R)→Option R
 | .skip,_,_,_,σ,k=>k .normal σ
 | .label _,_,_,_,σ,k=>k .normal σ
 | .scope c,gl,fr,_,σ,k=>walk c gl fr σ k
 | .exit i,_,_,_,σ,k=>k (.exit i) σ
 | .ret,_,_,_,σ,k=>k .ret σ
 | .region id ops draw,gl,fr,_,σ,k=>qY P G gl fr H Γ id ops draw σ k
 |
  .seq x z,gl,fr,_,σ,k=>match EF H.join z with
  |
   none=>walk x gl fr σ fun e σ'=>match e with
   | .normal=>walk z gl fr σ' k
   |e=>k e σ'
  |some S=>aG (walk x gl fr σ (Rg S k)) fun d=>walk z gl fr (S.st y0 d) k
 |
  .cond c x z,gl,fr,_,σ,k=>match aQ gl σ.tm c with
  | .val .bool b=>if b=true then walk x gl fr σ k else walk z gl fr σ k
  |_=>none
 |
  .block id c,gl,fr,_,σ,k=>match JE H.bP id with
  |none=>walk c gl fr σ (OS id k)
  |some S=>aG (walk c gl fr σ (OR id S k)) fun d=>k .normal (S.st y0 d)
 |
  .loop c,gl,fr,_,σ,k=>match EF H.Re c with
  |some n=>yc (fun σ k=>walk c gl fr σ k) k n σ
  |
   none=>match EF H.loop c with
   |none=>none
   |
    some L=>match L.S.mR σ with
    |none=>none
    |
     some u=>aL (fun rec u=>walk c gl fr (L.S.st y0 u) fun e σ'=>match e with
     | .normal=>Option.bind (L.S.mR σ') rec
     |e=>k e σ') (L.fuel u) u
 |
  .rangeFunc g ps assign body,gl,fr,_,σ,k=>if fr then(match EF H.Rf body with
  |none=>none
  |
   some rh=>match I[rh.ic]?,rh.S.mR σ with
   |
    some C,some u=>match aQ gl (rh.S.st y0 u).tm g with
    |
     .func (.func gf) .nil cs=>if GZ (rh.S.st y0 u) rh C cs then
      oq fun y=>G0 (rh.S.st y0 u) y rh gf cs (C.Hp y.l (Hq y rh C ps (rh.S.st y0 u) (fun σ1 k1=>walk assign (gl.mn y.l) false σ1 k1) (fun σ1 k1=>walk body (gl.mn y.l) false σ1 k1))) k
     else none
    |_=>none
   |_,_=>none) else none
 |_,_,_,_,_,_=>none
end
theorem ot:∀{l:List Oper}{tm:List AV},(forget l tm).length=tm.length
 |[],_=>rfl
 |
  o::l,tm=>by
  unfold forget
  rw[ot]
  split<;>simp
theorem ou{i:Nat}{x:AV}:∀{l:List Oper}{tm:List AV},(forget l tm)[i]? =some x→x= .bot∨(tm[i]? =some x∧∀o∈l,o.dst≠some i)
 |[],_,h=>Or.inr ⟨h,fun _ ho=>by cases ho⟩
 |
  o::l,tm,h=>by
  unfold forget at h
  rcases ou h with h|⟨h,hl⟩
  ·exact Or.inl h
  ·split at h
   ·rename_i d hd
    rw[List.getElem?_set] at h
    split at h
    ·split at h
     ·cases h;exact Or.inl rfl
     ·cases h
    ·rename_i Rw
     refine Or.inr ⟨h,?_⟩
     intro o' ho
     rcases List.mem_cons.1 ho with rfl|ho
     ·rw[hd];intro e;cases e;exact Rw rfl
     ·exact hl o' ho
   ·rename_i hd
    refine Or.inr ⟨h,?_⟩
    intro o' ho
    rcases List.mem_cons.1 ho with rfl|ho
    ·rw[hd];exact fun e=>by cases e
    ·exact hl o' ho
theorem B5:∀{l:List (Nat×Ty)}{tm:List AV}{d:prod (G1 l)},JF l tm=some d→∀i x,(i,x)∈JG l d→tm[i]? =some x
 |[],_,_,_,i,x,hx=>by cases hx
 |
  (j,t)::l,tm,d,h,i,x,hx=>by
  unfold JF at h
  split at h
  ·rename_i u z hz
   split at h
   ·rename_i hs
    split at h
    ·rename_i d' Sc
     cases h
     simp only[JG,List.mem_cons,Prod.mk.injEq] at hx
     rcases hx with⟨rfl,rfl⟩|hx
     ·rw[hz,pO hs]
     ·exact B5 Sc i x hx
    ·cases h
   ·cases h
  ·cases h
theorem sT{P:Program}{gl:Ctx}{ops:Array Oper}:∀{fs:List aJ}{i:Nat}{σ σ':St},kI P gl ops i fs σ σ'→zC fs=true→(∀(k:Nat)(f:aJ)(o:Oper),fs[k]? =some f→ops[i+k]? =some o→f.dst=o.dst)→i+fs.length≤ops.size→
 σ'.hp=σ.hp∧σ'.df=σ.df∧σ'.tm.length=σ.tm.length∧∀t,(∀o∈ops.toList,o.dst≠some t)→σ'.tm[t]? =σ.tm[t]?
 |[],i,σ,σ',h,_,_,_=>by simp only[bG] at h;subst h;exact⟨rfl,rfl,rfl,fun _ _=>rfl⟩
 |
  f::fs,i,σ,σ',⟨_,_,h3⟩,hn,hd,hl=>by
  simp only[zC,List.all_cons,Bool.and_eq_true,List.isEmpty_iff] at hn
  obtain⟨a,b,c,d⟩:=sT h3 (by simpa[zC] using hn.2) (fun k f' o h1 h2=>hd (k+1) f' o (by simpa using h1) (by rw[←h2];congr 1;omega)) (by simp at hl;omega)
  refine⟨by rw[a,dG,hn.1];rfl,by rw[b,nY],by rw[c,lB],?_⟩
  intro t ht
  rw[d t ht]
  have Ru:i<ops.size:=by simp at hl;omega
  have:=hd 0 f ops[i] rfl (by simp[Ru])
  exact eA (by rw[this];exact ht _ (by simp))
theorem map_some{α β:Type}{x:Option α}{f:α→β}{r:β}(h:x.map f=some r):∃a,x=some a∧f a=r:=by
 cases x with
 |none=>cases h
 |some a=>exact⟨a,rfl,Option.some.inj h⟩
theorem bV.I5{P:Program}{gl:Ctx}{c:Code}{σ:St}{Q:dy→St→Prop}(h:bV P gl c σ (fun e σ'=>match e with| .panic v=>Q (.panic v) σ'|e=>∃σ2,Wk gl σ' σ2∧Q e σ2)):bV P gl c σ Q:=by
 intro E a w hg
 refine wpIn_mono (h E a w hg) ?_
 rintro ex a' w' ⟨x,σ',E',h1,h2,h3,h4⟩
 cases x with
 |panic v=>exact⟨_,σ',E',h1,h2,h3,h4⟩
 |
  normal=>
  obtain⟨σ2,hw,hq⟩:=h2
  obtain⟨E2,g2,x2⟩:=hw E' a' w' h3
  cases ex<;>first|exact h1.elim|exact⟨.normal,σ2,E2,trivial,hq,g2,h4.trans x2⟩
 |
  exit i=>
  obtain⟨σ2,hw,hq⟩:=h2
  obtain⟨E2,g2,x2⟩:=hw E' a' w' h3
  cases ex<;>first|exact h1.elim|exact⟨.exit i,σ2,E2,h1,hq,g2,h4.trans x2⟩
 |
  ret=>
  obtain⟨σ2,hw,hq⟩:=h2
  obtain⟨E2,g2,x2⟩:=hw E' a' w' h3
  cases ex<;>first|exact h1.elim|exact⟨.ret,σ2,E2,trivial,hq,g2,h4.trans x2⟩
section
variable{P:Program} {G:bu} (T:aN P G) {gl:Ctx} {fr:Bool} {H:Hs} {Γ:List aH} (hΓ:∀C∈Γ,C.holds P gl)
include T hΓ
omit hΓ T in
theorem yd{ops:Array Oper}{draw:Bool}{R:Type}{σ σ':St}{k:St→Option R}{fs:List aJ}{r:R}(h:EK ops draw σ k fs σ'=some r):(draw=true→(iz ops fs.reverse&&fb σ fs.reverse)=true)∧k σ'=some r:=by
 unfold EK at h
 cases draw with
 |false=>exact⟨fun e=>(Bool.false_ne_true e).elim,h⟩
 |
  true=>
  rw[if_pos rfl] at h
  obtain⟨h1,h2⟩:=aY h
  exact⟨fun _=>h1,h2⟩
omit hΓ in
theorem zD{id:Nat}{ops:Array Oper}{draw:Bool}{σ σ':St}{Q:dy→St→Prop}(RZ:gl.ro=none)(h:uX P G gl ops draw σ=some σ')(hq:Q .normal σ'):bV P gl (.region id ops draw) σ Q:=by
 unfold uX at h
 split at h
 ·rename_i o0 o1
  split at h
  ·cases h
  rename_i SA
  split at h
  ·rename_i f ob h0
   split at h
   ·rename_i x RU ho hg hd
    split at h
    ·rename_i fn cs hv
     cases h
     intro E a w hgm
     refine wpIn_region ?_
     show wpOpsIn _ _ _ _ _ [0,1] _ _
     rw[wpOpsIn_cons]
     have SC:∀p∈ob,p:=jq h0 (fun e=>absurd e (by simpa[nK] using SA))
     refine jn T rfl h0 trivial SC σ (fK.refl _ _ _) (fun d hd=>St.cG ((List.all_eq_true.1 RU) d hd)) E a w hgm _ _ ?_
     intro E1 a1 w1 SD hx1
     rw[wpOpsIn_cons]
     have e1:(#[o0,o1]:Array Oper)[1]? =some o1:=rfl
     unfold wpOpIn
     simp only[e1]
     have hw:Region.wanted o1 (yielded #[o0,o1] a1.tmps)=true:=by simp[Region.wanted,hg]
     rw[if_pos hw]
     have hv1:=dN SD x
     rw[hv] at hv1
     obtain⟨f',c',ev,r1,r2,r3,r4⟩:∃f' c',a1.eval x= .func fn f' c'∧RC E1 w1 .nil f'.toList∧RC E1 w1 cs c'.toList∧AV.nil.atoms=true∧cs.atoms=true:=by
      rcases RV.fB rfl hv1 with⟨hh,_⟩|⟨_,hh⟩
      ·cases hh
      ·obtain⟨f',c',e,q⟩:=hh
       exact⟨f',c',(List.cons.inj e).1,q⟩
     have hf':f'= #[]:=by apply Array.ext';simpa[RC] using r1
     subst hf'
     refine⟨fun _ _=>trivial,?_⟩
     have hs:(o1.semAt (Wd gl).round a1.eval).run P w1= .ok (.defer {target:=.fn fn c',args:= #[]}) w1:=by
      rw[show(Wd gl).round=none from RZ,Oper.semAt_none]
      simp[execOp,ho,resolve,ev,Deferred.ofValue]
     rw[hs,Oper.uponIn_defer,hd]
     have hg2:bD gl {σ.app f with df:=.func fn .nil cs::(σ.app f).df} E1 {a1 with defers:={target:=.fn fn c',args:= #[]}::a1.defers} w1:=
      ⟨SD.len,SD.tm,SD.hw,⟨⟨#[],c',rfl,r1,r2,r3,r4⟩,SD.df⟩⟩
     exact⟨.normal,_,E1,trivial,hq,hg2,hx1⟩
    ·cases h
   ·cases h
  ·cases h
 ·cases h
omit T hΓ in
theorem B6{id:Nat}{ops:Array Oper}{s d d1:Nat}(hn:uY ops=some (s,d,d1)){R:Type}{σ:St}{k:dy→St→Option R}{r:R}(h:B3 s d d1 σ k=some r):bV P gl (.region id ops false) σ (fun e σ'=>k e σ'=some r):=by
 unfold uY at hn
 split at hn
 ·rename_i o0 o1
  split at hn
  ·rename_i s' d' d'' d1' h0 Sj hd0 h1 SD hd1
   obtain⟨hd,hn⟩:=aY hn
   cases hn
   have hd:=Nat.eq_of_beq_eq_true hd
   subst hd
   unfold B3 at h
   split at h
   ·rename_i b hs
    split at h
    ·rename_i kt vt rest cur hb
     obtain⟨hl,h⟩:=aY h
     refine bV.next h0 Sj hd0 h1 SD hd1 hs (bI _ b _ hb) hl ?_ ?_
     ·intro e
      rw[if_pos (by rw[e];rfl)] at h
      exact h
     ·intro i hi
      rw[if_neg (by cases rest with
       |nil=>simp at hi
       |cons _ _=>simp)] at h
      exact zK h i hi
    ·cases h
   ·cases h
  ·cases hn
 ·cases hn
variable(RZ:fr=true→gl.ro=none)
include RZ
theorem lZ{id:Nat}{ops:Array Oper}{draw:Bool}{zs:List (Nat×Nat×Ty)}{cs:List CH}{mg:Option (List (Nat×Ty))}{R:Type}{σ:St}{k:dy→St→Option R}{r:R}(h:kP P G gl fr Γ ops draw zs cs mg σ k=some r):bV P gl (.region id ops draw) σ (fun e σ'=>k e σ'=some r):=by
 have key:∀{gs:List aJ}{σ':St}{Q:dy→St→Prop},kI P gl ops 0 gs σ σ'→gs.length=ops.size→(draw=true→(iz ops gs&&fb σ gs)=true)→Q .normal σ'→bV P gl (.region id ops draw) σ Q:=by
  intro gs σ' Q hc hn dY hq
  cases draw with
  |false=>exact fun E _ _ hg=>uR hn hc hg (fun E' _ _ h1 h2=>⟨.normal,σ',E',trivial,hq,h1,h2⟩)
  |
   true=>
   have dY:=dY rfl
   simp only[Bool.and_eq_true] at dY
   exact fun E _ _ hg=>uT T dY.1 dY.2 hc hg (fun E' _ _ h1 h2=>⟨.normal,σ',E',trivial,hq,h1,h2⟩)
 unfold kP at h
 split at h
 ·obtain⟨hf,h⟩:=aY h
  split at h
  ·rename_i σ' hd
   exact zD T (RZ hf) hd h
  ·cases h
 split at h
 ·rename_i s d d1 hn
  cases draw with
  |true=>rw[if_pos rfl] at hn;cases hn
  |false=>rw[if_neg Bool.false_ne_true] at hn;exact B6 hn h
 split at h
 ·rcases j5 T hΓ h with⟨gs,σ',hc,hn,_,hk⟩|⟨gs,f,σ',hc,hn,hp,hk⟩
  ·simp only[List.append_nil] at hk
   obtain⟨h1,h2⟩:=yd hk
   simp only[List.reverse_reverse] at h1
   exact key hc hn h1 h2
  ·simp only[List.append_nil] at hk
   unfold B2 at hk
   simp only[List.reverse_reverse,List.length_reverse] at hk
   obtain⟨h1,h2⟩:=aY hk
   simp only[Bool.and_eq_true] at h1
   rw[Nat.zero_add] at hp
   have hz:σ.hp.length -1<σ.hp.length:=by have:=h1.1;simp[Nat.blt] at this;omega
   obtain⟨ms,σe,k1,k2,k3,k4⟩:=j6 T h2
   simp only[List.reverse_nil,List.nil_append] at k4
   have hze:(σ'.app (oH f (σ.hp.length -1))).hp[σ.hp.length -1]? =some (some vw):=by
    rw[dG]
    simp only[oH,aD,List.getElem?_set,if_true]
    rw[if_pos (by rw[bG.hl hc];exact hz)]
   have k1:=k1 hze
   cases draw with
   |false=>exact oJ T hc hp k1 k3 hz (by omega) (fun e=>(Bool.false_ne_true e).elim) h1.2 k4
   |
    true=>
    rw[if_pos rfl] at k4
    obtain⟨q3,q4⟩:=aY k4
    exact oJ T hc hp k1 k3 hz (by omega) (fun _=>q3) h1.2 q4
 ·rename_i l
  obtain⟨d,hd,h⟩:=bind_some h
  rcases j5 T hΓ hd with⟨gs,σ',hc,hn,hdst,hk⟩|⟨_,_,_,_,_,_,hk⟩
  case inr=>cases hk
  simp only[List.append_nil] at hk
  obtain⟨hw,hk⟩:=aY hk
  obtain⟨h1,h2⟩:=yd hk
  simp only[List.reverse_reverse] at h1
  have hw':zC gs=true:=by simpa[zC] using hw
  obtain⟨e1,e2,e3,e4⟩:=sT hc hw' hdst (by omega)
  obtain⟨t,ht,rfl⟩:=map_some h2
  refine bV.I5 (key hc hn h1 ⟨_,?_,h⟩)
  refine Wk.sub ?_ ?_ ?_ ?_
  ·simp only[G2,j9,ot,e3]
  ·intro i x hx
   simp only[G2] at hx
   rw[kX] at hx
   rcases im hx with hx|hx
   ·exact Or.inr (B5 ht i x hx)
   ·rcases ou hx with hx|⟨hx,ho⟩
    ·exact Or.inl hx
    ·exact Or.inr (by rw[e4 i ho];exact hx)
  ·intro b k hk;rw[e1];exact hk
  ·rw[e2];rfl
omit T hΓ RZ in
theorem qZ{R:Type}{r:R}{K:St→Option R}:∀{l:List (Nat×Nat)}{σ:St},B4 l σ K=some r→∃σ',Wk gl σ σ'∧K σ'=some r
 |[],σ,h=>⟨σ,Wk.refl gl σ,h⟩
 |
  (b,s)::l,σ,h=>by
  unfold B4 at h
  split at h
  ·rename_i k n e bs t xs hs hb
   obtain⟨hv,h⟩:=dv h
   split at h
   ·rename_i σ1 h1
    obtain⟨σ',h2,h3⟩:=qZ h
    refine⟨σ',Wk.trans (Wk.K9 h1 ?_) h2,h3⟩
    intro e' Sk t' xs' RR
    rw[hb] at RR
    cases RR
    exact(Int.toNat_lt hv.1).2 hv.2.1
   ·cases h
  ·rename_i c i e bs t xs hs hb
   obtain⟨hc,h⟩:=aY h
   have hc:=Nat.eq_of_beq_eq_true hc
   subst hc
   split at h
   ·rename_i σ1 h1
    obtain⟨σ',h2,h3⟩:=qZ h
    exact⟨σ',Wk.trans (Wk.La hs h1) h2,h3⟩
   ·cases h
  ·cases h
omit T hΓ RZ in
theorem rf{R:Type}{r:R}{K:St→Option R}:∀{l:List PF}{σ:St},Ff l σ K=some r→∃σ',Wk gl σ σ'∧K σ'=some r
 |[],σ,h=>⟨σ,Wk.refl gl σ,h⟩
 |
  .row b d k::l,σ,h=>by
  unfold Ff at h
  split at h
  ·rename_i kk n e bs t xs e2 f hs hb
   obtain⟨hv,h⟩:=dv h
   split at h
   ·rename_i σ1 h1
    obtain⟨σ',h2,h3⟩:=rf h
    refine⟨σ',Wk.trans (Wk.Cq h1 ?_) h2,h3⟩
    intro e' Sk t' xs' Si f' RR
    rw[hb] at RR
    cases RR
    exact(Int.toNat_lt hv.1).2 hv.2.1
   ·cases h
  ·cases h
 |
  .map mode b d k::l,σ,h=>by
  unfold Ff at h
  split at h
  ·rename_i t x hs
   split at h
   ·rename_i vcs σ1 h1
    obtain⟨hv,h⟩:=dv h
    obtain⟨σ',h2,h3⟩:=rf h
    exact⟨σ',Wk.trans (Wk.Ct h1 hv) h2,h3⟩
   ·cases h
  ·cases h
 |
  .dc b::l,σ,h=>by
  unfold Ff at h
  split at h
  ·rename_i σ1 h1
   obtain⟨σ',h2,h3⟩:=rf h
   exact⟨σ',Wk.trans (Wk.j7 h1) h2,h3⟩
  ·cases h
theorem uZ{id:Nat}{ops:Array Oper}{draw:Bool}{R:Type}{σ:St}{k:dy→St→Option R}{r:R}(h:qY P G gl fr H Γ id ops draw σ k=some r):bV P gl (.region id ops draw) σ (fun e σ'=>k e σ'=some r):=by
 unfold qY at h
 split at h
 ·exact lZ T hΓ RZ h
 ·split at h
  ·rename_i σ0 h0
   obtain⟨σ1,h1,h2⟩:=qZ (gl:=gl) h
   obtain⟨σ2,h3,h4⟩:=rf (gl:=gl) h2
   refine bV.post (bV.gh _ h0 (bV.wk h1 (bV.wk h3 (lZ T hΓ RZ h4)))) ?_ ?_
   ·intro e σ' Rw he
    cases e with
    |normal=>exact absurd rfl Rw
    |_=>exact he
   ·intro σ' he
    simp only[Fg] at he
    split at he
    ·rename_i σ2 hg;exact⟨σ2,vn hg,he⟩
    ·cases he
  ·cases h
omit hΓ T RZ in
theorem B7{c:Code}{R:Type}{w:St→(dy→St→Option R)→Option R}(ih:∀{σ:St}{k:dy→St→Option R}{r:R},w σ k=some r→bV P gl c σ (fun e σ'=>k e σ'=some r)){k:dy→St→Option R}{r:R}{n:Nat}{σ:St}
 (h:yc w k n σ=some r):bV P gl (.loop c) σ (fun e σ'=>k e σ'=some r):=by
 refine bV.loop (fun n σ=>yc w k n σ=some r) ?_ h
 intro n σ1 hn
 cases n with
 |zero=>cases hn
 |
  succ n=>
  refine bV.mono (ih hn) ?_
  intro e σ2 he
  cases e with
  |normal=>exact⟨n,Nat.lt_succ_self n,he⟩
  |_=>exact he
omit hΓ T RZ in
theorem B8{c:Code}{R U:Type}{r:R}{k:dy→St→Option R}{F:(U→Option R)→U→Option R}{st:U→St}{mR:St→Option U}(hm:∀σ u,mR σ=some u→Wk gl σ (st u))
 (ih:∀{rec:U→Option R}{u:U},F rec u=some r→bV P gl c (st u) (fun e σ'=>(match e with| .normal=>Option.bind (mR σ') rec|e=>k e σ')=some r)) {n:Nat} {σ:St} {u:U} (hu:mR σ=some u)
 (h:aL F n u=some r):bV P gl (.loop c) σ (fun e σ'=>k e σ'=some r):=by
 refine bV.loop (fun n σ=>∃u,Wk gl σ (st u)∧aL F n u=some r) ?_ ⟨u,hm σ u hu,h⟩
 rintro n σ1 ⟨u1,hw,hn⟩
 cases n with
 |zero=>cases hn
 |
  succ n=>
  refine bV.wk hw (bV.mono (ih hn) ?_)
  intro e σ2 he
  cases e with
  |
   normal=>
   obtain⟨u2,h1,h2⟩:=bind_some he
   exact⟨n,Nat.lt_succ_self n,u2,hm σ2 u2 h1,h2⟩
  |_=>exact he
end
theorem Fy.up{P:Program}{C C':Ctx}{l:Nat}{A:List AV}{H H':List (Option aC)}{r:mU}(hg:C'.gl=C.gl)(hC:∀S w,C.B S w)(h:Fy P C l A H r H')(hm:C'.md=C.md):Fy P C' l A H r H':=by
 intro E w vs hv hw
 obtain⟨fn,tm,asz,bd,h1,h2⟩:=h E w vs hv (hw.ctx hg.symm (hC _ _))
 refine⟨fn,tm,asz,bd,h1,RoundIn.mono h2 ?_⟩
 rintro e w' ⟨E',r1,r2,r3⟩
 rw[←hm] at r3
 exact⟨E',r1,r2.ctx hg (hw.dF (hw.kept r3)).2,r3⟩
theorem zU.up{P:Program}{C C':Ctx}{fn:Fn}{A:List AV}{H H':List (Option aC)}{r:mU}(hg:C'.gl=C.gl)(hC:∀S w,C.B S w)(h:zU P C fn A H r H')(hm:C'.md=C.md):zU P C' fn A H r H':=by
 cases fn with
 |func f=>exact Fc.up hg hC h hm
 |yield l=>exact Fy.up hg hC h hm
 |_=>exact h.elim
theorem aH.holds.up{P:Program}{gl gl':Ctx}{C:aH}(h:C.holds P gl)(hg:gl'.gl=gl.gl)(hB:∀S w,gl.B S w)(hm:gl'.md=gl.md:=by rfl):C.holds P gl':=
 ⟨fun d r hd=>zU.up hg hB (h.ret d r hd) hm,fun d x hd=>zU.up hg hB (h.je d x hd) hm⟩
theorem Fy.less{P:Program}{C:Ctx}{l:Nat}{A:List AV}{H H1 H2:List (Option aC)}{r:mU}(h:Fy P C l A H r H1)(hs:∀(b:Nat)(k:aC),H2[b]? =some (some k)→H1[b]? =some (some k)):Fy P C l A H r H2:=by
 intro E w vs hv hw
 obtain⟨fn,tm,asz,bd,h1,h2⟩:=h E w vs hv hw
 refine⟨fn,tm,asz,bd,h1,RoundIn.mono h2 ?_⟩
 rintro e w' ⟨E',r1,r2,r3⟩
 exact⟨E',r1,r2.less hs,{r3 with own:=fun g ⟨b,k,hb,hg⟩=>r3.own g ⟨b,k,hs b k hb,hg⟩}⟩
theorem pD:∀{l H:List (Option aC)},H.length≤l.length→(∀(b:Nat)(k:aC),H[b]? =some (some k)→l[b]? =some (some k))→∃m,prune l m=H
 |l,[],_,_=>⟨[],by cases l<;>rfl⟩
 |[],x::H,h,_=>by simp at h
 |
  y::l,x::H,h,hs=>by
  obtain⟨m,hm⟩:=pD (l:=l) (H:=H) (by simpa using h) (fun b k hb=>by simpa using hs (b+1) k (by simpa using hb))
  cases x with
  |none=>exact⟨false::m,by simp[prune,hm]⟩
  |
   some k=>
   have:y=some k:=by simpa using hs 0 k rfl
   exact⟨true::m,by simp[prune,hm,this]⟩
theorem ov{gs:Nat→Nat}{ti:List (Nat×Ty)}:∀{l:List (Option aC)}{s i:Nat},(tie gs ti s l)[i]? =some none→l[i]? =some none
 |[],s,i,h=>by simp[tie] at h
 |none::l,s,0,h=>rfl
 |some x::l,s,0,h=>by simp[tie] at h
 |none::l,s,i+1,h=>by simpa using ov (l:=l) (by simpa[tie] using h)
 |some x::l,s,i+1,h=>by simpa using ov (l:=l) (by simpa[tie] using h)
theorem B9{gs:Nat→Nat}{ti:List (Nat×Ty)}{i:Nat}{k k':aC}(h1:oU (some k)=false)(h2:oU (some k')=false)(h:jd gs ti i k=jd gs ti i k'):k=k':=by
 cases k with
 |
  var t v=>
  cases k' with
  |
   var t' v'=>
   simp only[jd] at h
   split at h
   ·cases h;rfl
   ·exact h
  |tv=>simp[oU] at h2
  |_=>simp only[jd] at h;split at h<;>cases h
 |tv=>simp[oU] at h1
 |
  _=>
  cases k' with
  |var t' v'=>simp only[jd] at h;split at h<;>cases h
  |tv=>simp[oU] at h2
  |_=>exact h
theorem ye{y:YC}:∀{m:List (Nat×dB)}{l:List Type}{d:prod (eR m l)}{b:Nat}{k:aC},(b,k)∈j8 y m d→∃s,(b,s)∈m
 |[],_,_,_,_,h=>by cases h
 |
  (i,s)::m,_,d,b,k,h=>by
  simp only[j8,List.mem_cons,Prod.mk.injEq] at h
  rcases h with⟨rfl,_⟩|h
  ·exact⟨s,List.mem_cons_self ..⟩
  ·obtain⟨s',hs⟩:=ye h
   exact⟨s',List.mem_cons_of_mem _ hs⟩
theorem de{m:Nat}{out:List (Nat×aC)}{b:Nat}{k:aC}(h:(bZ m out)[b]? =some (some k)):(b,k)∈out:=by
 unfold bZ at h
 rcases cK h with h|⟨_,h⟩
 ·simp only[List.mem_map] at h
  obtain⟨⟨i,k'⟩,hm,e⟩:=h
  simp only[Prod.mk.injEq,Option.some.injEq] at e
  obtain⟨rfl,rfl⟩:=e
  exact hm
 ·rw[List.getElem?_replicate] at h
  split at h<;>cases h
theorem ow{m:Nat}{out:List (Nat×aC)}:(bZ m out).length=m:=by unfold bZ;rw[gM,List.length_replicate]
theorem oz{i:Nat}:∀{out:List (Nat×aC)},i∈wrote (out.map fun x=>(x.1,some x.2))→∃k,(i,k)∈out
 |[],h=>by cases h
 |
  (j,k)::out,h=>by
  simp only[List.map_cons,wrote,List.mem_cons] at h
  rcases h with rfl|h
  ·exact⟨k,List.mem_cons_self ..⟩
  ·obtain⟨k',hk⟩:=oz h
   exact⟨k',List.mem_cons_of_mem _ hk⟩
theorem zE{m i b:Nat}{x:aC}{out:List (Nat×aC)}(hi:∀k,(i,k)∉out)(hm:i<m):(bZ m ((i,x)::out))[b]? =if b=i then some (some x) else(bZ m out)[b]? :=by
 have hw:i∉wrote (out.map fun x=>(x.1,some x.2)):=by
  intro h
  obtain⟨k,hk⟩:=oz h
  exact hi k hk
 unfold bZ
 simp only[List.map_cons,aD]
 split
 ·rename_i e
  subst e
  rw[cT hw,List.getElem?_set,if_pos rfl,if_pos (by simpa using hm)]
 ·rename_i e
  exact eL (by simp) (by rw[List.getElem?_set,if_neg (fun e'=>e e'.symm)])
theorem Ca{gl:Ctx}{y:YC}{rh:EA}{C:IC}{e:dy}{σ:St}{r:dX (Nat::eR C.R [])}(h:B1 y rh C e σ=some r):∃σE,EH rh.jl e=some (k7 (Nat::eR C.R []) r).1∧Wk gl σ σE∧oV σE.hp=true∧C.m≤σE.hp.length∧
 ∀i x,(i,x)∈j8 y0 C.R (k7 (Nat::eR C.R []) r).2→(tie y.gs rh.ti 0 σE.hp)[i]? =some (some x):=by
 unfold B1 at h
 split at h
 ·rename_i j u hj hu
  obtain⟨hc,h⟩:=aY h
  simp only[Bool.and_eq_true] at hc
  split at h
  ·rename_i d hd
   cases h
   rw[kX]
   exact⟨_,hj,SS.eM hu,hc.1,Nat.le_of_ble_eq_true hc.2,(vq y0 hd).1⟩
  ·cases h
 ·cases h
theorem G3{P:Program}{gl Cx:Ctx}{y:YC}{rh:EA}{C:IC}{ps:Array Tmp}{assign body:Code}{σ:St}{wA wB:St→(dy→St→Option (dX (Nat::eR C.R [])))→Option (dX (Nat::eR C.R []))}
 (hA:∀σ1 k1 r1,wA σ1 k1=some r1→bV P (gl.mn y.l) assign σ1 (fun e σ'=>k1 e σ'=some r1)) (hB:∀σ1 k1 r1,wB σ1 k1=some r1→bV P (gl.mn y.l) body σ1 (fun e σ'=>k1 e σ'=some r1))
 (hk:C.k0<C.m) (hR:(C.R.all fun x=> !Nat.beq x.1 C.k0)=true) (hof:vB P gl σ.tm ps assign body C.k0 rh.ti rh.m rh.jl Cx y):(C.Y y.l (Hq y rh C ps σ wA wB)).holds P Cx:=by
 refine⟨?_,fun _ _ h=>h.elim⟩
 intro d r hd
 have Sc:Hq y rh C ps σ wA wB d=some r:=hd
 unfold Hq at Sc
 split at Sc
 case h_2=>cases Sc
 rename_i vcs H0 htok
 obtain⟨hv,Sc⟩:=dv Sc
 obtain⟨hc,Sc⟩:=aY Sc
 simp only[Bool.and_eq_true] at hc
 obtain⟨r0,hw,Sc⟩:=bind_some Sc
 split at Sc
 case h_2=>cases Sc
 rename_i vs H1 htok1
 obtain⟨hv1,Sc⟩:=dv Sc
 obtain⟨hto,Sc⟩:=aY Sc
 have er:=Option.some.inj Sc
 obtain⟨t1,t2,t3,t4⟩:=mK htok hv
 obtain⟨u1,u2,u3,u4⟩:=mK htok1 hv1
 rw[ow] at u1
 have lX:(aD (List.replicate C.m none) (cn (j8 y0 C.B (rA C.A d)))).length=C.m:=by rw[gM,List.length_replicate]
 rw[lX] at t1
 have hnk:∀k,(C.k0,k)∉j8 y0 C.R (k7 (Nat::eR C.R []) r0).2:=by
  intro k hm
  obtain⟨s,hs⟩:=ye hm
  have:=(List.all_eq_true.1 hR) _ hs
  simp at this
 have hX0:(bZ C.m (j8 y0 C.R (k7 (Nat::eR C.R []) r0).2))[C.k0]? =some none:=by
  cases h:(bZ C.m (j8 y0 C.R (k7 (Nat::eR C.R []) r0).2))[C.k0]? with
  |none=>rw[List.getElem?_eq_none_iff,ow] at h;omega
  |
   some x=>
   cases x with
   |none=>rfl
   |some k=>exact absurd (de h) (hnk k)
 have Sy:H1[C.k0]? =some none:=by
  have:=u3 C.k0 (by omega)
  rw[hX0] at this
  exact ov this.symm
 have hX1:∀i:Nat,(bZ C.m (j8 y0 C.R (k7 (Nat::eR C.R []) r0).2))[i]? =(tie y.gs rh.ti 0 H1)[i]? :=by
  intro i
  by_cases hi:i=C.m
  ·subst hi
   rw[List.getElem?_eq_none_iff.2 (by rw[ow];exact Nat.le_refl _),List.getElem?_eq_none_iff.2 (by rw[ir,u1];exact Nat.le_refl _)]
  ·exact u3 i (by omega)
 have hF:=hof (rz y0 C.A d) H0 H1 (k7 (Nat::eR C.R []) r0).1 (Nat.eq_of_beq_eq_true hc.1) (t2 C.k0 (by omega) (by rw[lX];exact hk)).2 Sy hc.2 hto ?_
 ·show Fy P Cx y.l (rz y0 C.A d) (aD (List.replicate C.m none) (cn (j8 y0 C.B (rA C.A d)))) (.ret (.val .bool (k7 C.T r).1)) (bZ C.m ((C.k0,.lp (k7 C.T r).2.1 (k7 C.T r).2.2.1)::j8 y0 C.R (k7 C.T r).2.2.2))
  have e1:k7 C.T r=(Nat.beq (k7 (Nat::eR C.R []) r0).1 0,y,(k7 (Nat::eR C.R []) r0).1,(k7 (Nat::eR C.R []) r0).2):=by rw[←er];exact kX C.T _
  rw[e1]
  have eX:(tie y.gs rh.ti 0 H0).set C.k0 (some (.lp y 0))=aD (List.replicate C.m none) (cn (j8 y0 C.B (rA C.A d))):=by
   apply List.ext_getElem?
   intro i
   rw[List.getElem?_set]
   split
   ·rename_i e
    subst e
    rw[if_pos (by rw[ir,t1];exact hk)]
    exact(t2 C.k0 (by omega) (by rw[lX];exact hk)).1.symm
   ·rename_i e
    exact(t3 i (by omega)).symm
  rw[eX] at hF
  refine hF.less ?_
  intro b k hb
  rw[zE hnk hk] at hb
  rw[List.getElem?_set]
  split at hb
  ·rename_i e
   subst e
   rw[if_pos rfl,if_pos (by rw[ir,u1];exact hk)]
   exact hb
  ·rename_i e
   rw[if_neg (fun e'=>e e'.symm),←hX1]
   exact hb
 ·refine bV.mono (hA _ _ _ hw) ?_
  intro e σ1 he
  cases e with
  |
   normal=>
   refine bV.mono (hB _ _ _ he) ?_
   intro e σ2 he
   obtain⟨σE,q1,q2,q3,q4,q5⟩:=Ca (gl:=gl.mn y.l) he
   have hpr:∃m,prune σE.hp m=H1:=by
    refine pD (by rw[u1];exact q4) ?_
    intro b k hb
    have hx:=hX1 b
    rw[rq hb,Nat.zero_add] at hx
    have:=q5 b _ (de hx)
    obtain⟨k0,p1,p2⟩:=eS this
    rw[Nat.zero_add] at p2
    rw[p1]
    have nt:∀{l:List (Option aC)}{k:aC},oV l=true→l[b]? =some (some k)→oU (some k)=false:=by
     intro l k hn hk
     cases k with
     |tv g t v=>exact absurd hk (ya hn b g t v)
     |_=>rfl
    rw[B9 (nt u4 hb) (nt q3 p1) p2]
   obtain⟨m,hm⟩:=hpr
   cases e with
   |normal=>exact⟨by simpa[EH] using q1.symm,σE,m,q2,hm⟩
   |
    ret=>
    obtain⟨j1,c,j2,j3⟩:=pC q1
    refine⟨⟨j1,?_⟩,σE,m,q2,hm⟩
    rw[j2]
    cases c<;>simp[Fb] at j3
    rfl
   |
    exit i=>
    obtain⟨j1,c,j2,j3⟩:=pC q1
    refine⟨⟨j1,?_⟩,σE,m,q2,hm⟩
    rw[j2]
    cases c<;>simp[B0] at j3
    rw[j3]
   |panic v=>simp[EH] at q1
  |_=>cases he
theorem I6{P:Program}{gl:Ctx}{σ:St}{g:Operand}{ps:Array Tmp}{assign body:Code}(RZ:gl.ro=none){gf:FuncId}{cs:AV}(hg:aQ gl σ.tm g= .func (.func gf) .nil cs){rh:EA}{C:IC}(dY:GZ σ rh C cs=true)(hC:C.holds P gl)
 {wA wB:YC→St→(dy→St→Option (dX (Nat::eR C.R [])))→Option (dX (Nat::eR C.R []))}
 (hA:∀y σ1 k1 r1,wA y σ1 k1=some r1→bV P (gl.mn y.l) assign σ1 (fun e σ'=>k1 e σ'=some r1)) (hB:∀y σ1 k1 r1,wB y σ1 k1=some r1→bV P (gl.mn y.l) body σ1 (fun e σ'=>k1 e σ'=some r1))
 {R:Type} {k:dy→St→Option R} {r:R} (h:oq (fun y=>G0 σ y rh gf cs (C.Hp y.l (Hq y rh C ps σ (wA y) (wB y))) k)=some r):bV P gl (.rangeFunc g ps assign body) σ (fun e σ'=>k e σ'=some r):=by
 unfold GZ at dY
 simp only[Bool.and_eq_true,Bool.not_eq_true'] at dY
 obtain⟨⟨⟨⟨⟨⟨⟨⟨⟨c1,c2⟩,c3⟩,c4⟩,c5⟩,c6⟩,c7⟩,c8⟩,c9⟩,Ho⟩:=dY
 refine bV.rangeFunc RZ hg rh.dI rh.lI C.k0 c1 c2 c3 c4 rh.ti rh.m c6 c7 c8 rh.jl c9 ?_
 intro y
 have hy:=zB h y
 unfold G0 at hy
 split at hy
 case h_2=>cases hy
 rename_i L ins hL fw
 rcases sM hy with⟨hfn,hy⟩|hy
 case inr=>cases hy
 split at hy
 case h_2=>cases hy
 rename_i d hd
 rcases CF.sK hy with⟨q,hq,hy⟩|⟨x,hx,hy⟩
 case inr=>cases hy
 obtain⟨d1,d2⟩:=aH.dj hd
 unfold Fe at hy
 split at hy
 case h_2=>cases hy
 rename_i hr
 obtain⟨hcr,hy⟩:=aY hy
 simp only[Bool.and_eq_true] at hcr
 split at hy
 case h_2=>cases hy
 rename_i y' j hlp
 obtain⟨hv,hy⟩:=dv hy
 have hv:y'=y:=hv.1
 subst hv
 refine⟨j,_,L,ins,_,⟨hr,hL,fw,hcr.1,hcr.2,hlp,rfl⟩,?_,?_⟩
 ·intro B hB' hof
  have hh:=hC B hB' y'.l _ (G3 (wA:=wA y') (wB:=wB y') (hA y') (hB y') (by have:=c5;simp[Nat.blt] at this;omega) Ho hof)
  have:=hh.ret d q hq
  rw[←hfn,d1,d2] at this
  rw[show(C.Hp y'.l (Hq y' rh C ps σ (wA y') (wB y'))).res q= .dX .nil from hr] at this
  exact this
 ·have:=EJ (P:=P) (gl:=gl) hy
  revert this
  cases jmp rh.jl j with
  |none=>exact id
  |some c=>exact id
section
variable{P:Program} {G:bu} (T:aN P G) {I:List IC} {H:Hs} {Γ:List aH}
include T
theorem fZ:∀{c:Code}{gl:Ctx}{fr:Bool}(_hΓ:∀C∈Γ,C.holds P gl)(_hro:fr=true→gl.ro=none)(_hI:fr=true→∀C∈I,C.holds P gl∧∀S w,gl.B S w){R:Type}{σ:St}{k:dy→St→Option R}{r:R},walk P G I H Γ c gl fr σ k=some r→bV P gl c σ (fun e σ'=>k e σ'=some r):=by
 intro c
 induction c with
 |skip=>intro gl fr hΓ RZ hI R σ k r h;exact bV.skip h
 |label l=>intro gl fr hΓ RZ hI R σ k r h;exact bV.label h
 |scope c ih=>intro gl fr hΓ RZ hI R σ k r h;exact bV.scope (ih hΓ RZ hI h)
 |exit i=>intro gl fr hΓ RZ hI R σ k r h;exact bV.exit h
 |ret=>intro gl fr hΓ RZ hI R σ k r h;exact bV.ret h
 |region id ops draw=>intro gl fr hΓ RZ hI R σ k r h;exact uZ T hΓ RZ h
 |
  seq x z RI RG=>
  intro gl fr hΓ RZ hI R σ k r h
  unfold walk at h
  split at h
  ·refine bV.seq (bV.mono (RI hΓ RZ hI h) ?_)
   intro e σ' he
   cases e with
   |normal=>exact RG hΓ RZ hI he
   |_=>exact he
  ·rename_i S hS
   unfold aG at h
   obtain⟨o,ho,h⟩:=bind_some h
   refine bV.seq (bV.mono (RI hΓ RZ hI ho) ?_)
   intro e σ' he
   cases e with
   |
    normal=>
    obtain⟨d,hd,e⟩:=map_some he
    subst e
    exact bV.wk (SS.eM hd) (RG hΓ RZ hI h)
   |
    _=>
    obtain⟨d,hd,e⟩:=map_some he
    subst e
    cases h
    exact hd
 |
  cond c x z RI RG=>
  intro gl fr hΓ RZ hI R σ k r h
  unfold walk at h
  split at h
  ·rename_i b hb
   refine bV.cond hb (fun e=>RI hΓ RZ hI ?_) (fun e=>RG hΓ RZ hI ?_)
   ·rw[if_pos e] at h;exact h
   ·rw[if_neg (by rw[e];exact Bool.false_ne_true)] at h;exact h
  ·cases h
 |
  block id c ih=>
  intro gl fr hΓ RZ hI R σ k r h
  unfold walk at h
  split at h
  ·refine bV.block (bV.mono (ih hΓ RZ hI h) ?_)
   intro e σ' he
   cases e with
   |
    exit i=>
    simp only[OS] at he
    simp only[qC]
    split at he
    ·rename_i hb;rw[if_pos (Nat.eq_of_beq_eq_true hb)];exact he
    ·rename_i hb;rw[if_neg (fun e=>hb (by subst e;exact Nat.beq_refl _))];exact he
   |_=>exact he
  ·rename_i S hS
   unfold aG at h
   obtain⟨o,ho,h⟩:=bind_some h
   have fin:∀{σ':St},(S.mR σ').map ct.brk=some o→∃σ2,Wk gl σ' σ2∧k .normal σ2=some r:=by
    intro σ' he
    obtain⟨d,hd,e⟩:=map_some he
    subst e
    exact⟨_,SS.eM hd,h⟩
   have oth:∀{e:dy}{σ':St},(k e σ').map ct.ret=some o→k e σ'=some r:=by
    intro e σ' he
    obtain⟨d,hd,e⟩:=map_some he
    subst e
    cases h
    exact hd
   refine bV.I5 (bV.block (bV.mono (ih hΓ RZ hI ho) ?_))
   intro e σ' he
   cases e with
   |normal=>exact fin he
   |
    exit i=>
    simp only[OR] at he
    simp only[qC]
    split at he
    ·rename_i hb;rw[if_pos (Nat.eq_of_beq_eq_true hb)];exact fin he
    ·rename_i hb;rw[if_neg (fun e=>hb (by subst e;exact Nat.beq_refl _))];exact⟨σ',Wk.refl gl σ',oth he⟩
   |ret=>exact⟨σ',Wk.refl gl σ',oth he⟩
   |panic v=>exact oth he
 |
  loop c ih=>
  intro gl fr hΓ RZ hI R σ k r h
  unfold walk at h
  split at h
  ·exact B7 (fun h=>ih hΓ RZ hI h) h
  ·split at h
   ·cases h
   ·split at h
    ·cases h
    ·rename_i u hu
     exact B8 (fun σ u=>SS.eM) (fun h=>ih hΓ RZ hI h) hu h
 |
  rangeFunc g ps assign body RI RG=>
  intro gl fr hΓ RZ hI R σ k r h
  unfold walk at h
  obtain⟨RU,h⟩:=aY h
  split at h
  ·cases h
  ·rename_i rh hrh
   split at h
   case h_2=>cases h
   rename_i C u hC hu
   split at h
   ·rename_i gf cs hg
    obtain⟨dY,h⟩:=aY h
    obtain⟨hC1,hB⟩:=hI RU C (List.mem_of_getElem? hC)
    have hA:∀(y:YC)(σ1:St) k1 r1,walk P G I H Γ assign (gl.mn y.l) false (R:=dX (Nat::eR C.R [])) σ1 k1=some r1→bV P (gl.mn y.l) assign σ1 (fun e σ'=>k1 e σ'=some r1):=
     fun y σ1 k1 r1 h1=>@RI (gl.mn y.l) false (fun D hD=>(hΓ D hD).up rfl hB) (fun e=>(Bool.false_ne_true e).elim) (fun e=>(Bool.false_ne_true e).elim) _ _ _ _ h1
    have hB':∀(y:YC)(σ1:St) k1 r1,walk P G I H Γ body (gl.mn y.l) false (R:=dX (Nat::eR C.R [])) σ1 k1=some r1→bV P (gl.mn y.l) body σ1 (fun e σ'=>k1 e σ'=some r1):=
     fun y σ1 k1 r1 h1=>@RG (gl.mn y.l) false (fun D hD=>(hΓ D hD).up rfl hB) (fun e=>(Bool.false_ne_true e).elim) (fun e=>(Bool.false_ne_true e).elim) _ _ _ _ h1
    exact bV.wk (SS.eM hu) <| I6 (wA:=fun y σ1 k1=>walk P G I H Γ assign (gl.mn y.l) false σ1 k1) (wB:=fun y σ1 k1=>walk P G I H Γ body (gl.mn y.l) false σ1 k1) (RZ RU) hg dY hC1 hA hB' h
   ·cases h
 |_=>intro gl fr hΓ RZ hI R σ k r h;simp[walk] at h
end
end Go.Ax
namespace Go.Ax
def pick:List Nat→List (Option aC)→List (Nat×aC)
 |[],_=>[]
 |
  b::l,hp=>match hp[b]? with
  |some (some k)=>(b,k)::pick l hp
  |_=>pick l hp
theorem fM{hp:List (Option aC)}:∀{l:List Nat}{b:Nat}{k:aC},(b,k)∈pick l hp→hp[b]? =some (some k)
 |[],_,_,h=>by cases h
 |
  c::l,b,k,h=>by
  simp only[pick] at h
  split at h
  ·rename_i k' hk
   rcases List.mem_cons.1 h with h|h
   ·cases h;exact hk
   ·exact fM h
  ·exact fM h
def aB(G:bu)(rs:List ResultVar)(iA:FuncId)(A:List Sh)(B:List (Nat×dB))(m:Nat)(F:SS)(ob:List Nat)(f:CF (prod (mQ A (eR B []))) F.T):aH:=
 ⟨.func iA,A,B,m,F,fun r=>(fD G rs (F.st y0 r)).getD .bot,fun r=>pick ob (F.st y0 r).hp,f⟩
def G4(F:SS):dy→St→Option F.T
 | .ret,σ=>F.mR σ
 | .normal,σ=>F.mR σ
 |_,_=>none
def vb(σ:St):Option St:=
 match marks σ.df σ.hp with
 |some hp=>some ⟨σ.tm,hp,[]⟩
 |none=>none
def zG(F:SS):dy→St→Option F.T
 |
  .ret,σ=>match vb σ with
  |some σ=>F.mR σ
  |none=>none
 |
  .normal,σ=>match vb σ with
  |some σ=>F.mR σ
  |none=>none
 |_,_=>none
def iX(nt m:Nat)(args:List AV)(ins:List (Nat×Option aC)):St:=⟨args++List.replicate (nt -args.length) .bot,aD (List.replicate m none) ins,[]⟩
def CM{α:Type}:Option α→Bool
 |some _=>true
 |none=>false
theorem iY{x:Option AV}(h:CM x=true):x=some (x.getD .bot):=by
 cases x with
 |none=>cases h
 |some y=>rfl
theorem mL{gl:Ctx}{F:SS}{e:dy}{σ:St}{r:F.T}(h:zG F e σ=some r):(e= .ret∨e= .normal)∧∃σ1,vb σ=some σ1∧Wk gl σ1 (F.st y0 r):=by
 cases e with
 |
  ret=>
  simp only[zG] at h
  split at h
  ·rename_i σ1 h1;exact⟨Or.inl rfl,σ1,h1,SS.eM h⟩
  ·cases h
 |
  normal=>
  simp only[zG] at h
  split at h
  ·rename_i σ1 h1;exact⟨Or.inr rfl,σ1,h1,SS.eM h⟩
  ·cases h
 |_=>exact no h
theorem mb.ri{P:Program}{G:bu}(T:aN P G){gl:Ctx}{f:FuncId}{fn:Func}{c:Code}(hf:P.funcs[f]? =some fn)(hb:fn.body=some c)(RZ:gl.ro=none){args:List AV}{ins:List (Nat×Option aC)}{m:Nat}{x:AV}{out:List (Nat×aC)}{σe:St}
 (h:bV P gl c (iX fn.ntmps m args ins) (fun e σ=>(e= .ret∨e= .normal)∧∃σ1,vb σ=some σ1∧Wk gl σ1 σe)) (_hd:σe.df= []) (hres:fD G fn.results.toList σe=some x) (hout:∀b k,(b,k)∈out→σe.hp[b]? =some (some k)):
 mb P gl f args (aD (List.replicate m none) ins) (.ret x) (bZ m out):=by
 intro E w vs hv hw
 obtain⟨hl,RQ⟩:=hv.get
 refine CallsIn.calls (F:=Wd gl) (n:=0) (callsIn_of_wp_marks hf hb trivial ?_ RZ) (fun k d hd=>by cases hd)
 have hg:bD gl (iX fn.ntmps m args ins) E {tmps:=vs.toArray++Array.replicate (fn.ntmps -vs.toArray.size) undef,defers:=[]} w:=by
  refine⟨?_,?_,hw,trivial⟩
  ·simp only[iX,Array.size_append,List.size_toArray,Array.size_replicate,List.length_append,List.length_replicate]
   rw[hl]
  ·intro i x hx v RE
   simp only[iX] at hx
   rw[Array.getElem?_append] at RE
   simp only[List.getElem?_append] at hx
   split at hx
   ·rename_i hi
    rw[if_pos (by simpa[hl] using hi)] at RE
    exact RQ i x v hx (by simpa using RE)
   ·rw[List.getElem?_replicate] at hx
    split at hx
    ·cases hx;trivial
    ·cases hx
 refine wpIn_mono (h E _ w hg) ?_
 rintro ex a' w' ⟨e,σ',E',h1,⟨he,σ1,ho,hwk⟩,h3,h4⟩
 have main:LeavesInM (Wd gl) 0 P fn a'.tmps (fun e w'=>∃E',oM E' w' (.ret x) e∧HW gl E' w' (bZ m out)∧Ext gl.md (Own (aD (List.replicate m none) ins) E) E w (Own (bZ m out) E') E' w') a'.defers .returning w':=by
  unfold vb at ho
  split at ho
  ·rename_i hp1 hm
   cases ho
   refine yy σ'.df h3 hm (fun w3 k1 k2=>?_)
   obtain⟨E2,g2,x2⟩:=hwk E' _ w3 k1
   obtain⟨v,k3,k4⟩:=kB T g2 hres
   have Sp:HW gl E2 w3 (bZ m out):=g2.hw.less (fun b k hb=>hout b k (de hb))
   have hx:Ext gl.md (Own (aD (List.replicate m none) ins) E) E w (Own (bZ m out) E2) E2 w3:=
    {(h4.trans k2).trans x2 with own:=fun g ⟨b,k,hb,hgb⟩=>((h4.trans k2).trans x2).own g ⟨b,k,hout b k (de hb),hgb⟩}
   exact⟨v,k3,E2,k4,Sp,hx⟩
  ·cases ho
 rcases he with rfl|rfl
 ·cases ex with
  |ret=>exact main
  |_=>exact h1.elim
 ·cases ex with
  |normal=>exact main
  |_=>exact h1.elim
theorem aH.of{P:Program}{G:bu}(T:aN P G){gl:Ctx}{I:List IC}{H:Hs}{Γ:List aH}(hΓ:∀C∈Γ,C.holds P gl)(hI:∀C∈I,C.holds P gl∧∀S w,gl.B S w)(RZ:gl.ro=none){rs:List ResultVar}{iA:FuncId}{A:List Sh}{B:List (Nat×dB)}{m nt:Nat}{F:SS}{ob:List Nat}{f:prod (mQ A (eR B []))→Option F.T}
 {fn:Func} {c:Code} (RY:∀vs w,(callFunc iA vs).run P w= .ok (.enter iA vs) w) (hf:P.funcs[iA]? =some fn) (hb:fn.body=some c) (hrs:fn.results.toList=rs) (hnt:fn.ntmps=nt) (hF:F.df= [])
 (hres:∀r:F.T,CM (fD G rs (F.st y0 r))=true)
 (h:∀d,f d=walk P G I H Γ c gl true (iX nt m (rz y0 A d) (cn (j8 y0 B (rA A d)))) (zG F)):
 (aB G rs iA A B m F ob (.bE f)).holds P gl:=by
 refine⟨?_,fun _ _ h=>h.elim⟩
 intro d r hd
 have Sc:f d=some r:=hd
 rw[h d] at Sc
 refine⟨RY,?_⟩
 have RN:=fZ T hΓ (fun _=>RZ) (fun _=>hI) Sc
 subst hnt
 refine mb.ri T hf hb RZ (σe:=F.st y0 r) (bV.mono RN ?_) ?_ ?_ ?_
 ·intro e σ he
  exact mL he
 ·show(F.st y0 r).df= []
  simp only[SS.st,SS.iX]
  obtain⟨nt',nh,tm,hp,df⟩:=F
  simp only at hF
  subst hF
  rfl
 ·rw[hrs];exact iY (hres r)
 ·intro b k RJ;exact fM RJ
def oA(s:Sh)(F:SS):dy→St→Option (Sum (prod (s.H [])) F.T)
 |
  .ret,σ=>match vb σ with
  |some σ=>(F.mR σ).map .inr
  |none=>none
 |
  .normal,σ=>match vb σ with
  |some σ=>(F.mR σ).map .inr
  |none=>none
 |
  .panic v,σ=>match σ.df with
  |[]=>(s.G (l:=[]) v ()).map .inl
  |_=>none
 |_,_=>none
theorem mb.Cb{P:Program}{gl:Ctx}{f:FuncId}{fn:Func}{c:Code}(hf:P.funcs[f]? =some fn)(hb:fn.body=some c)(RZ:gl.ro=none){args:List AV}{ins:List (Nat×Option aC)}{m:Nat}{x:AV}
 (h:bV P gl c (iX fn.ntmps m args ins) (fun e σ=>e= .panic x∧σ.df= [])):
 mb P gl f args (aD (List.replicate m none) ins) (.je x) (bZ m []):=by
 intro E w vs hv hw
 obtain⟨hl,RQ⟩:=hv.get
 refine CallsIn.calls (F:=Wd gl) (n:=0) (callsIn_of_wp hf hb trivial ?_ RZ) (fun k d hd=>by cases hd)
 have hg:bD gl (iX fn.ntmps m args ins) E {tmps:=vs.toArray++Array.replicate (fn.ntmps -vs.toArray.size) undef,defers:=[]} w:=by
  refine⟨?_,?_,hw,trivial⟩
  ·simp only[iX,Array.size_append,List.size_toArray,Array.size_replicate,List.length_append,List.length_replicate]
   rw[hl]
  ·intro i x hx v RE
   simp only[iX] at hx
   rw[Array.getElem?_append] at RE
   simp only[List.getElem?_append] at hx
   split at hx
   ·rename_i hi
    rw[if_pos (by simpa[hl] using hi)] at RE
    exact RQ i x v hx (by simpa using RE)
   ·rw[List.getElem?_replicate] at hx
    split at hx
    ·cases hx;trivial
    ·cases hx
 refine wpIn_mono (h E _ w hg) ?_
 rintro ex a' w' ⟨e,σ',E',h1,⟨rfl,hd⟩,h3,h4⟩
 have hdf:a'.defers= []:=by
  have:=h3.df
  rw[hd] at this
  cases hds:a'.defers with
  |nil=>rfl
  |cons d l=>rw[hds] at this;exact this.elim
 have Sp:HW gl E' w' (bZ m []):=h3.hw.less (fun b k hb=>absurd (de hb) (by simp))
 have hx:Ext gl.md (Own (aD (List.replicate m none) ins) E) E w (Own (bZ m []) E') E' w':=
  {h4 with own:=fun g ⟨b,k,hb,hgb⟩=>absurd (de hb) (by simp)}
 cases ex with
 |panic ch=>exact⟨hdf,E',h1,Sp,hx⟩
 |_=>exact h1.elim
theorem aH.JH{P:Program}{G:bu}(T:aN P G){gl:Ctx}{I:List IC}{H:Hs}{Γ:List aH}(hΓ:∀C∈Γ,C.holds P gl)(hI:∀C∈I,C.holds P gl∧∀S w,gl.B S w)(RZ:gl.ro=none){rs:List ResultVar}{iA:FuncId}{A:List Sh}{B:List (Nat×dB)}{m nt:Nat}{s:Sh}{F:SS}{ob:List Nat}{f:prod (mQ A (eR B []))→Option (Sum (prod (s.H [])) F.T)}
 {fn:Func} {c:Code} (RY:∀vs w,(callFunc iA vs).run P w= .ok (.enter iA vs) w) (hf:P.funcs[iA]? =some fn) (hb:fn.body=some c) (hrs:fn.results.toList=rs) (hnt:fn.ntmps=nt) (hF:F.df= [])
 (hres:∀r:F.T,CM (fD G rs (F.st y0 r))=true)
 (h:∀d,f d=walk P G I H Γ c gl true (iX nt m (rz y0 A d) (cn (j8 y0 B (rA A d)))) (oA s F)):
 (aB G rs iA A B m F ob (.je s f)).holds P gl:=by
 refine⟨?_,?_⟩
 ·intro d r hd
  have Sc:f d=some (.inr r):=hd
  rw[h d] at Sc
  refine⟨RY,?_⟩
  have RN:=fZ T hΓ (fun _=>RZ) (fun _=>hI) Sc
  subst hnt
  refine mb.ri T hf hb RZ (σe:=F.st y0 r) (bV.mono RN ?_) ?_ ?_ ?_
  ·intro e σ he
   cases e with
   |
    ret=>
    simp only[oA] at he
    split at he
    ·rename_i σ1 h1
     obtain⟨y,hy,e⟩:=map_some he
     cases e
     exact⟨Or.inl rfl,σ1,h1,SS.eM hy⟩
    ·cases he
   |
    normal=>
    simp only[oA] at he
    split at he
    ·rename_i σ1 h1
     obtain⟨y,hy,e⟩:=map_some he
     cases e
     exact⟨Or.inr rfl,σ1,h1,SS.eM hy⟩
    ·cases he
   |
    panic v=>
    simp only[oA] at he
    split at he
    ·obtain⟨y,hy,e⟩:=map_some he
     cases e
    ·cases he
   |exit i=>exact no he
  ·show(F.st y0 r).df= []
   simp only[SS.st,SS.iX]
   obtain⟨nt',nh,tm,hp,df⟩:=F
   simp only at hF
   subst hF
   rfl
  ·rw[hrs];exact iY (hres r)
  ·intro b k RJ;exact fM RJ
 ·rintro d x ⟨p,hd,rfl⟩
  have Sc:f d=some (.inl p):=hd
  rw[h d] at Sc
  refine⟨RY,?_⟩
  have RN:=fZ T hΓ (fun _=>RZ) (fun _=>hI) Sc
  subst hnt
  refine mb.Cb hf hb RZ (bV.mono RN ?_)
  intro e σ he
  cases e with
  |
   ret=>
   simp only[oA] at he
   split at he
   ·obtain⟨y,hy,e⟩:=map_some he;cases e
   ·cases he
  |
   normal=>
   simp only[oA] at he
   split at he
   ·obtain⟨y,hy,e⟩:=map_some he;cases e
   ·cases he
  |
   panic v=>
   simp only[oA] at he
   split at he
   ·rename_i hdf
    obtain⟨y,hy,e⟩:=map_some he
    cases e
    exact⟨by rw[(Sh.oW y0 hy).1],hdf⟩
   ·cases he
  |exit i=>exact no he
theorem aH.M1{P:Program}{gl:Ctx}{G:bu}{rs:List ResultVar}{iA:FuncId}{A:List Sh}{B:List (Nat×dB)}{m:Nat}{F:SS}{ob:List Nat}:(aB G rs iA A B m F ob (.bE fun _=>none)).holds P gl:=
 ⟨fun _ _ h=>(by cases(h:none=some _)),fun _ _ h=>h.elim⟩
theorem aH.sub{P:Program}{gl:Ctx}{G:bu}{rs:List ResultVar}{iA:FuncId}{A:List Sh}{B:List (Nat×dB)}{m:Nat}{F:SS}{ob:List Nat}{f g:prod (mQ A (eR B []))→Option F.T}(h:(aB G rs iA A B m F ob (.bE f)).holds P gl)(hs:∀d r,g d=some r→f d=some r):(aB G rs iA A B m F ob (.bE g)).holds P gl:=
 ⟨fun d r hd=>h.ret d r (hs d r hd),fun _ _ h=>h.elim⟩
def Fh(P:Program)(gl:Ctx):List aH→Prop
 |[]=>True
 |C::l=>C.holds P gl∧Fh P gl l
theorem hold{P:Program}{gl:Ctx}:∀{l:List aH},Fh P gl l→∀C∈l,C.holds P gl
 |[],_,C,h=>by cases h
 |
  D::l,h,C,hC=>by
  rcases List.mem_cons.1 hC with rfl|hC
  ·exact h.1
  ·exact hold h.2 C hC
def Fi(P:Program)(gl:Ctx):List IC→Prop
 |[]=>True
 |C::l=>C.holds P gl∧Fi P gl l
theorem pE{P:Program}{l:List zq}:∀{L:List IC},Fi P (Ctx.of l) L→∀C∈L,C.holds P (Ctx.of l)∧∀S w,(Ctx.of l).B S w
 |[],_,C,h=>by cases h
 |
  D::L,h,C,hC=>by
  rcases List.mem_cons.1 hC with rfl|hC
  ·exact⟨h.1,fun _ _=>trivial⟩
  ·exact pE h.2 C hC
theorem aE{P:Program}{gl:Ctx}:∀C∈([]:List IC),C.holds P gl∧∀S w,gl.B S w:=fun C h=>by cases h
end Go.Ax
namespace Go.Ax
def pF(pm:Bool)(u:Value):FrameMode:=if pm then .panicking [{v:=u,recovered:=false}] else .returning
def iZ(pm:Bool)(u:Value):FrameMode:=if pm then .panicking [{v:=u,recovered:=true}] else .returning
def G5(P:Program)(gl:Ctx)(f:FuncId)(pm:Bool)(x:AV)(args:List AV)(H H':List (Option aC)):Prop:=
 (∀vs w,(callFunc f vs).run P w= .ok (.enter f vs) w)∧∀E w vs u,gu E w args vs→bN E w x u→(pm=false→u= .nilIface)→HW gl E w H→
  CallsDIn (Wd gl) 0 P f vs.toArray (pF pm u) w fun e m w'=>m=iZ pm u∧(∃v,e= .returned v)∧∃E',HW gl E' w' H'∧Ext gl.md (Own H E) E w (Own H' E') E' w'
theorem G5.G6{P:Program}{G:bu}(T:aN P G){gl:Ctx}{f:FuncId}{pm:Bool}{x:AV}{fn:Func}{ops:Array Oper}{rid:Nat}{rest:Code}{t5 t2:Nat}{ts:Array TypeId}{o0 o1:Oper}(hcf:∀vs w,(callFunc f vs).run P w= .ok (.enter f vs) w)(hf:P.funcs[f]? =some fn)
 (hb:fn.body=some (.seq (.region rid ops false) rest)) (RZ:gl.ro=none) (hops:ops= #[o0,o1]) (h0:o0.op= .call {callee:=.builtin .recover,args:= #[],argTypes:=ts}) (h0d:o0.dst=some t5) (h0g:o0.guard=none)
 (h1:o1.op= .assign (.tmp t5)) (h1d:o1.dst=some t2) (h1g:o1.guard=none) {args:List AV} {ins:List (Nat×Option aC)} {m:Nat} {out:List (Nat×aC)} {σe:St} {r:AV} (ht5:Nat.blt t5 fn.ntmps=true)
 (h:bV P gl rest (((iX fn.ntmps m args ins).put (some t5) x).put (some t2) x) (fun e σ=>(e= .ret∨e= .normal)∧Wk gl σ σe)) (hd:σe.df= []) (hres:fD G fn.results.toList σe=some r) (hout:∀b k,(b,k)∈out→σe.hp[b]? =some (some k)):
 G5 P gl f pm x args (aD (List.replicate m none) ins) (bZ m out):=by
 refine⟨hcf,?_⟩
 intro E w vs u hv hx hpm hw
 obtain⟨hl,RQ⟩:=hv.get
 refine callsDIn_of_wpSIn hf hb trivial ?_
 intro c0 cs hm
 have hg:bD gl (iX fn.ntmps m args ins) E {tmps:=vs.toArray++Array.replicate (fn.ntmps -vs.toArray.size) undef,defers:=[]} w:=by
  refine⟨?_,?_,hw,trivial⟩
  ·simp only[iX,Array.size_append,List.size_toArray,Array.size_replicate,List.length_append,List.length_replicate]
   rw[hl]
  ·intro i x hx v RE
   simp only[iX] at hx
   rw[Array.getElem?_append] at RE
   simp only[List.getElem?_append] at hx
   split at hx
   ·rename_i hi
    rw[if_pos (by simpa[hl] using hi)] at RE
    exact RQ i x v hx (by simpa using RE)
   ·rw[List.getElem?_replicate] at hx
    split at hx
    ·cases hx;trivial
    ·cases hx
 refine wpSIn_seq (wpSIn_region ?_)
 subst hops
 show wpOpsSIn _ _ _ _ _ [0,1] _ _ _
 have w0:∀y,Region.wanted o0 y=true:=by intro y;simp[Region.wanted,h0g]
 have w1:∀y,Region.wanted o1 y=true:=by intro y;simp[Region.wanted,h1g]
 have x0:∀ρ:Operand→Value,(execOp ρ o0).run P w= .ok .recover w:=by
  intro ρ
  simp[execOp,h0,resolve,invoke,builtin]
 have ei0:(#[o0,o1]:Array Oper)[0]? =some o0:=rfl
 have ei1:(#[o0,o1]:Array Oper)[1]? =some o1:=rfl
 have hu:RV E w x u:=RV.cJ hx
 have SD:=hg.put (some t5) hu
 have Ru:t5<fn.ntmps:=by simp[Nat.blt] at ht5;omega
 have Rz:((({tmps:=vs.toArray++Array.replicate (fn.ntmps -vs.toArray.size) undef,defers:=[]}:Act).put o0.dst u).eval (.tmp t5))=u:=by
  rw[h0d]
  have RA:t5<(vs.toArray++Array.replicate (fn.ntmps -vs.toArray.size) undef).size:=by
   simp only[Array.size_append,Array.size_replicate];omega
  simp[Act.put,Act.eval]
  intro hh
  omega
 have x1:(execOp (({tmps:=vs.toArray++Array.replicate (fn.ntmps -vs.toArray.size) undef,defers:=[]}:Act).put o0.dst u).eval o1).run P w= .ok (.value u) w:=by
  simp only[execOp,h1]
  rw[Rz]
  rfl
 have hg2:=SD.put (some t2) hu
 suffices hfin:rest.wpSIn (Wd gl) 0 P (bodyPostS P fn c0 cs fun e m_1 w'=>m_1=iZ pm u∧(∃v,e= .returned v)∧∃E',HW gl E' w' (bZ m out)∧Ext gl.md (Own (aD (List.replicate m none) ins) E) E w (Own (bZ m out) E') E' w')
  ((({tmps:=vs.toArray++Array.replicate (fn.ntmps -vs.toArray.size) undef,defers:=[]}:Act).put o0.dst u).put o1.dst u) ({c0 with mode:=iZ pm u}::cs) w by
  cases pm with
  |
   true=>
   have hrc:recoverD (c0::cs)=some (u,{c0 with mode:=iZ true u}::cs):=by
    simp only[pF,iZ,if_true] at hm ⊢
    simp only[recoverD,hm]
   simp only[wpOpsSIn,ei0,ei1,w0,w1,if_true,x0,hrc]
   refine⟨fun _ _=>trivial,fun _ _=>trivial,?_⟩
   rw[x1]
   exact hfin
  |
   false=>
   have hu0:=hpm rfl
   subst hu0
   have hrc:recoverD (c0::cs)=none:=by
    simp only[pF,Bool.false_eq_true,if_false] at hm
    simp[recoverD,hm]
   have hcc:({c0 with mode:=iZ false .nilIface}:Frame)=c0:=by
    simp only[pF,iZ,Bool.false_eq_true,if_false] at hm ⊢
    rw[←hm]
   rw[hcc] at hfin
   simp only[wpOpsSIn,ei0,ei1,w0,w1,if_true,x0,hrc]
   refine⟨fun _ _=>trivial,fun _ _=>trivial,?_⟩
   rw[x1]
   exact hfin
 rw[h0d,h1d]
 refine wpSIn_of_wpIn (F:=Wd gl) RZ (wpIn_mono (h E _ w hg2) ?_)
 rintro ex a' w' ⟨e,σ',E',q1,⟨he,hwk⟩,q3,q4⟩
 obtain⟨E2,g2,x2⟩:=hwk E' a' w' q3
 obtain⟨v,k1,k2⟩:=kB T g2 hres
 have hdf:a'.defers= []:=by
  have:=g2.df
  rw[hd] at this
  cases hds:a'.defers with
  |nil=>rfl
  |cons d l=>rw[hds] at this;exact this.elim
 have Sp:HW gl E2 w' (bZ m out):=g2.hw.less (fun b k hb=>hout b k (de hb))
 have hxx:Ext gl.md (Own (aD (List.replicate m none) ins) E) E w (Own (bZ m out) E2) E2 w':=by
  have q4':Ext gl.md (Own (aD (List.replicate m none) ins) E) E w (Own σ'.hp E') E' w':=q4
  exact{q4'.trans x2 with own:=fun g ⟨b,k,hb,hgb⟩=>(q4'.trans x2).own g ⟨b,k,hout b k (de hb),hgb⟩}
 rcases he with rfl|rfl
 ·cases ex with
  |ret=>exact⟨hdf,iZ pm u,rfl,v,k1,rfl,⟨v,rfl⟩,E2,Sp,hxx⟩
  |_=>exact q1.elim
 ·cases ex with
  |normal=>exact⟨hdf,iZ pm u,rfl,v,k1,rfl,⟨v,rfl⟩,E2,Sp,hxx⟩
  |_=>exact q1.elim
structure dO where
 iA:FuncId
 A:List Sh
 B:List (Nat×dB)
 m:Nat
 s:Sh
 F:SS
 out:F.T→List (Nat×aC)
 n:prod (mQ A (eR B []))→Option F.T
 p:prod (mQ A (eR B []))→prod (s.H [])→Option F.T
abbrev dO.D(C:dO):Type:=prod (mQ C.A (eR C.B []))
def dO.args(C:dO)(d:C.D):List AV:=rz y0 C.A d
def dO.ins(C:dO)(d:C.D):List (Nat×Option aC):=cn (j8 y0 C.B (rA C.A d))
structure dO.holds(P:Program)(gl:Ctx)(C:dO):Prop where
 n:∀d r,C.n d=some r→G5 P gl C.iA false .eI (C.args d) (aD (List.replicate C.m none) (C.ins d)) (bZ C.m (C.out r))
 p:∀d q r,C.p d q=some r→G5 P gl C.iA true (C.s.V y0 q) (C.args d) (aD (List.replicate C.m none) (C.ins d)) (bZ C.m (C.out r))
def dO.get(C:dO)(L:List AV)(I:List (Nat×Option aC)):Option C.D:=
 match uU C.B (l:=[]) I () with
 |some d=>Fp C.A L d
 |none=>none
theorem dO.dj{C:dO}{L:List AV}{I:List (Nat×Option aC)}{d:C.D}(h:C.get L I=some d):C.args d=L∧C.ins d=I:=by
 unfold dO.get at h
 split at h
 ·rename_i d1 h1
  obtain⟨a1,a2⟩:=qX y0 h1
  obtain⟨b1,b2⟩:=rm y0 h
  exact⟨b1,by unfold dO.ins;rw[b2,a1]⟩
 ·cases h
section
variable{P:Program} {G:bu} (T:aN P G) {gl:Ctx} {H:Hs} {Γ:List aH} (hΓ:∀C∈Γ,C.holds P gl) (RZ:gl.ro=none) {rs:List ResultVar} {iA:FuncId} {A:List Sh} {B:List (Nat×dB)} {m nt:Nat} {s:Sh} {F:SS} {ob:List Nat}
 {n:prod (mQ A (eR B []))→Option F.T} {p:prod (mQ A (eR B []))→prod (s.H [])→Option F.T} {fn:Func} {ops:Array Oper} {rid:Nat} {rest:Code} {t5 t2:Nat} {ts:Array TypeId} {o0 o1:Oper}
 (RY:∀vs w,(callFunc iA vs).run P w= .ok (.enter iA vs) w) (hf:P.funcs[iA]? =some fn) (hb:fn.body=some (.seq (.region rid ops false) rest)) (hrs:fn.results.toList=rs) (hnt:fn.ntmps=nt)
 (hops:ops= #[o0,o1]) (h0:o0.op= .call {callee:=.builtin .recover,args:= #[],argTypes:=ts}) (h0d:o0.dst=some t5) (h0g:o0.guard=none) (h1:o1.op= .assign (.tmp t5)) (h1d:o1.dst=some t2) (h1g:o1.guard=none) (ht5:Nat.blt t5 nt=true)
 (hF:F.df= []) (hres:∀r:F.T,CM (fD G rs (F.st y0 r))=true)
include T hΓ RZ RY hf hb hrs hnt hops h0 h0d h0g h1 h1d h1g ht5 hF hres
theorem dO.OT{pm:Bool}{x:AV}{args:List AV}{ins:List (Nat×Option aC)}{r:F.T}(hw:walk P G [] H Γ rest gl true (((iX nt m args ins).put (some t5) x).put (some t2) x) (G4 F)=some r):
 G5 P gl iA pm x args (aD (List.replicate m none) ins) (bZ m (pick ob (F.st y0 r).hp)):=by
 have hdf:(F.st y0 r).df= []:=by
  simp only[SS.st,SS.iX]
  obtain⟨nt',nh,tm,hp,df⟩:=F
  simp only at hF
  subst hF
  rfl
 subst hnt
 refine G5.G6 T RY hf hb RZ hops h0 h0d h0g h1 h1d h1g ht5 (bV.mono (fZ T hΓ (fun _=>RZ) (fun _=>aE) hw) ?_) hdf (by rw[hrs];exact iY (hres r)) (fun b k RJ=>fM RJ)
 intro e σ he
 cases e with
 |ret=>exact⟨Or.inl rfl,SS.eM he⟩
 |normal=>exact⟨Or.inr rfl,SS.eM he⟩
 |_=>exact no he
theorem dO.Rh(hn:∀d,n d=walk P G [] H Γ rest gl true (((iX nt m (rz y0 A d) (cn (j8 y0 B (rA A d)))).put (some t5) .eI).put (some t2) .eI) (G4 F)):
 (⟨iA,A,B,m,s,F,fun r=>pick ob (F.st y0 r).hp,n,fun _ _=>none⟩:dO).holds P gl:=by
 refine⟨?_,fun _ _ r h=>no (e:=r) h⟩
 intro d r hd
 have Sc:n d=some r:=hd
 rw[hn d] at Sc
 exact dO.OT T hΓ RZ RY hf hb hrs hnt hops h0 h0d h0g h1 h1d h1g ht5 hF hres Sc
theorem dO.JH(hp:∀d q,p d q=walk P G [] H Γ rest gl true (((iX nt m (rz y0 A d) (cn (j8 y0 B (rA A d)))).put (some t5) (s.V y0 q)).put (some t2) (s.V y0 q)) (G4 F)):
 (⟨iA,A,B,m,s,F,fun r=>pick ob (F.st y0 r).hp,fun _=>none,p⟩:dO).holds P gl:=by
 refine⟨fun _ r h=>no (e:=r) h,?_⟩
 intro d q r hd
 have Sc:p d q=some r:=hd
 rw[hp d q] at Sc
 exact dO.OT T hΓ RZ RY hf hb hrs hnt hops h0 h0d h0g h1 h1d h1g ht5 hF hres Sc
end
def yf:List Nat→List (Option aC)→List (Option aC)
 |[],hp=>hp
 |
  b::l,hp=>yf l (match hp[b]? with
  |some (some (.var t _))=>hp.set b (some (.var t (.di t)))
  |_=>hp)
theorem Wk.di{gl:Ctx}:∀{l:List Nat}{σ:St},Wk gl σ {σ with hp:=yf l σ.hp}
 |[],σ=>Wk.refl gl σ
 |
  b::l,σ=>by
  unfold yf
  split
  ·rename_i t v hb
   have h1:Wk gl σ {σ with hp:=σ.hp.set b (some (.var t (.di t)))}:=by
    intro E a w h
    obtain⟨h1,h2,g,c,e,h3,h4,h5⟩:=h.hw.bP b _ hb
    have hlen:=RC.len h5
    have hw:=h.hw.write (w':=w) (k':=.var t (.di t)) hb rfl (fun _ _=>rfl) ⟨h1,Ty.bW t,g,c,e,h3,h4,⟨by rw[hlen];exact AV.cL h2,RC.one h5⟩⟩
    refine⟨E,⟨h.len,h.tm,hw,h.df⟩,{Ext.refl (Own σ.hp E) E w with own:=?_ }⟩
    intro g' R4
    exact Or.inl (Own.set hb R4)
   exact h1.trans (Wk.di (l:=l) (σ:={σ with hp:=σ.hp.set b (some (.var t (.di t)))}))
  ·exact Wk.di (l:=l) (σ:=σ)
def Cc(C:dO)(ps:List (Nat×Nat))(F:SS)(h:C.D→Option C.F.T)(σ:St):Option F.T:=
 match σ.df with
 |
  [.func (.func fd) .nil cs]=>match iu (swp ps) (cW σ.hp) (cs.toList.map (fun x=>(x,Ty.unit))),fc (swp ps) (cW σ.hp) ps with
  |
   some (L,lent),some ins=>if Nat.beq fd C.iA&&cs.atoms then(match C.get L ins with
   |some d=>Option.bind (h d) fun r=>if qo ⟨.bot,ps,[],C.out r,C.m,false,[],[]⟩ lent then F.mR {σ with hp:=aD σ.hp (iD ps (C.out r) ps),df:=[]} else none
   |none=>none) else none
  |_,_=>none
 |_=>none
def Fj(C:dO)(ps:List (Nat×Nat))(D:dO)(qs:List (Nat×Nat))(jk:List Nat)(F:SS):dy→St→Option F.T
 |
  .ret,σ| .normal,σ=>match σ.df with
  |[]=>F.mR σ
  |_=>Cc C ps F C.n σ
 |
  .panic v,σ=>match v.ids,D.s.G (l:=[]) v () with
  |[],some q=>Cc D qs F (fun d=>D.p d q) {σ with hp:=yf jk σ.hp}
  |_,_=>none
 |_,_=>none
theorem yg{P:Program}{G:bu}(T:aN P G){gl:Ctx}{C:dO}{ps:List (Nat×Nat)}{F:SS}{h:C.D→Option C.F.T}{σ:St}{r:F.T}(hr:Cc C ps F h σ=some r){pm:Bool}{x:AV}(hx:x.ids= [])
 (hC:∀d y,h d=some y→G5 P gl C.iA pm x (C.args d) (aD (List.replicate C.m none) (C.ins d)) (bZ C.m (C.out y))) {fn:Func} {z:AV} (hF:F.df= []) (hres:fD G fn.results.toList (F.st y0 r)=some z) {out:List (Nat×aC)} (hout:∀b k,(b,k)∈out→(F.st y0 r).hp[b]? =some (some k)) {m:Nat}
 {E:Env} {a:Act} {w:World} (hg:bD gl σ E a w) {u:Value} (hu:bN E w x u) (hpm:pm=false→u= .nilIface) {O:Nat→Prop} {E0:Env} {w0:World} (hX0:Ext gl.md O E0 w0 (Own σ.hp E) E w):
 LeavesIn (Wd gl) 0 P fn a.tmps (fun e w'=>∃E',oM E' w' (.ret z) e∧HW gl E' w' (bZ m out)∧Ext gl.md O E0 w0 (Own (bZ m out) E') E' w') a.defers (pF pm u) w:=by
 have hdfF:(F.st y0 r).df= []:=by
  simp only[SS.st,SS.iX]
  obtain⟨nt',nh,tm,hp,df⟩:=F
  simp only at hF
  subst hF
  rfl
 unfold Cc at hr
 split at hr
 ·rename_i fd cs hdf
  split at hr
  ·rename_i L lent ins hL fw
   obtain⟨hc,hr1⟩:=aY hr
   clear hr
   simp only[Bool.and_eq_true] at hc
   obtain⟨hfd,hca⟩:=hc
   have hfd:=Nat.eq_of_beq_eq_true hfd
   subst hfd
   split at hr1
   ·rename_i d hd
    obtain⟨y,hy,hr2⟩:=bind_some hr1
    obtain⟨dY,hr3⟩:=aY hr2
    obtain⟨e1,e2⟩:=dO.dj hd
    obtain⟨hcf,hM⟩:=hC d y hy
    rw[e1,e2] at hM
    have gdf:=hg.df
    rw[hdf] at gdf
    cases hads:a.defers with
    |nil=>rw[hads] at gdf;exact gdf.elim
    |
     cons dd ds=>
     rw[hads] at gdf
     obtain⟨⟨f',c',ed,q1,q2,_,_⟩,hrest⟩:=gdf
     have hds:ds= []:=by
      cases ds with
      |nil=>rfl
      |cons _ _=>exact hrest.elim
     subst hds
     have hf':f'= #[]:=by apply Array.ext';simpa[RC] using q1
     subst hf'
     subst ed
     have hB:=bI σ.hp
     have hlent:=gW hL
     obtain⟨hφ,hw1⟩:=mw (cr:=⟨.bot,ps,[],C.out y,C.m,false,[],[]⟩) hg hB hlent fw dY
     have hmap:(cs.toList.map (fun x=>(x,Ty.unit))).map (·.1)=cs.toList:=by
      simp[List.map_map,Function.comp_def]
     have hvv:=iL hg.hw hB hφ hL (fun g hg=>hg) (by rw[hmap];exact gu.atoms hca q2)
     have hu':bN (E.to ps (E.bU lent).S) w x u:=bN.mono (E:=E) ⟨fun _ _=>rfl,fun _ h=>Or.inl h⟩ (fun b hb=>by rw[hx] at hb;cases hb) hu
     have RY:=hM _ w _ u hvv hu' hpm hw1
     refine leavesIn_cons (F:=Wd gl) (by unfold pF;split<;>simp) (fun h=>by cases h) (args:=c'.toList.toArray) ?_ (fun _ _=>trivial) (CallsDIn.mono RY ?_)
     ·simp only[invoke,Array.empty_append]
      exact hcf c' w
     ·rintro e u1 w2 ⟨rfl,⟨v,rfl⟩,E2,hW2,hX2⟩
      obtain⟨E3,g3,_,x3⟩:=gz (cr:=⟨.bot,ps,[],C.out y,C.m,false,[],[]⟩) hg hB hlent fw dY (fun b hb=>by simp at hb) hW2 hX2 (v:=v) (r':=.bot) rfl trivial
      simp only[List.append_nil] at g3 x3
      have g4:bD gl {σ with hp:=aD σ.hp (iD ps (C.out y) ps),df:=[]} E3 {a with defers:=[]} w2:=⟨g3.len,g3.tm,g3.hw,trivial⟩
      obtain⟨E5,g5,x5⟩:=SS.eM (gl:=gl) hr3 E3 _ w2 g4
      obtain⟨v2,k1,k2⟩:=kB T g5 hres
      have aD:settle (iZ pm u)= .returning:=by
       unfold iZ
       cases pm<;>simp[settle]
      show LeavesIn _ _ _ _ _ _ _ _ _
      rw[aD]
      have hw5:HW gl E5 w2 (bZ m out):=g5.hw.less (fun b k hb=>hout b k (de hb))
      have X5:=(hX0.trans x3).trans x5
      exact⟨v2,k1,E5,k2,hw5,{X5 with own:=fun g ⟨b,k,hb,hgb⟩=>X5.own g ⟨b,k,hout b k (de hb),hgb⟩}⟩
   ·cases hr1
  ·cases hr
 ·cases hr
theorem aH.Ri{P:Program}{G:bu}(T:aN P G){gl:Ctx}{H:Hs}{Γ:List aH}(hΓ:∀C∈Γ,C.holds P gl){C:dO}(hC:C.holds P gl){ps:List (Nat×Nat)}{D:dO}(hD:D.holds P gl){qs:List (Nat×Nat)}{jk:List Nat}(RZ:gl.ro=none){rs:List ResultVar}{iA:FuncId}{A:List Sh}{B:List (Nat×dB)}{m nt:Nat}{F:SS}{ob:List Nat}{f:prod (mQ A (eR B []))→Option F.T}
 {fn:Func} {c:Code} (RY:∀vs w,(callFunc iA vs).run P w= .ok (.enter iA vs) w) (hf:P.funcs[iA]? =some fn) (hb:fn.body=some c) (hrs:fn.results.toList=rs) (hnt:fn.ntmps=nt) (hF:F.df= [])
 (hres:∀r:F.T,CM (fD G rs (F.st y0 r))=true)
 (h:∀d,f d=walk P G [] H Γ c gl true (iX nt m (rz y0 A d) (cn (j8 y0 B (rA A d)))) (Fj C ps D qs jk F)):
 (aB G rs iA A B m F ob (.bE f)).holds P gl:=by
 refine⟨?_,fun _ _ h=>h.elim⟩
 intro d r hd
 have Sc:f d=some r:=hd
 rw[h d] at Sc
 refine⟨RY,?_⟩
 have RN:=fZ T hΓ (fun _=>RZ) (fun _=>aE) Sc
 subst hnt
 have hz:fD G fn.results.toList (F.st y0 r)=some ((fD G rs (F.st y0 r)).getD .bot):=by rw[hrs];exact iY (hres r)
 have hout:∀b k,(b,k)∈pick ob (F.st y0 r).hp→(F.st y0 r).hp[b]? =some (some k):=fun b k RJ=>fM RJ
 intro E w vs hv hw
 obtain⟨hl,RQ⟩:=hv.get
 refine CallsIn.calls (F:=Wd gl) (n:=0) (callsIn_of_wp_defers hf hb trivial ?_ RZ) (fun k d hd=>by cases hd)
 have hg:bD gl (iX fn.ntmps m (rz y0 A d) (cn (j8 y0 B (rA A d)))) E {tmps:=vs.toArray++Array.replicate (fn.ntmps -vs.toArray.size) undef,defers:=[]} w:=by
  refine⟨?_,?_,hw,trivial⟩
  ·simp only[iX,Array.size_append,List.size_toArray,Array.size_replicate,List.length_append,List.length_replicate]
   rw[←hl];rfl
  ·intro i x hx v RE
   simp only[iX] at hx
   rw[Array.getElem?_append] at RE
   simp only[List.getElem?_append] at hx
   split at hx
   ·rename_i hi
    have hl':(rz y0 A d).length=vs.length:=hl
    rw[if_pos (by simpa[hl'] using hi)] at RE
    exact RQ i x v hx (by simpa using RE)
   ·rw[List.getElem?_replicate] at hx
    split at hx
    ·cases hx;trivial
    ·cases hx
 refine wpIn_mono (RN E _ w hg) ?_
 rintro ex a' w' ⟨e,σ',E',h1,he,h3,h4⟩
 have plain:∀{σ:St},σ.df= []→F.mR σ'=some r→bD gl σ' E' a' w'→a'.defers= []→LeavesIn (Wd gl) 0 P fn a'.tmps (fun e w'=>∃E',oM E' w' (.ret ((fD G rs (F.st y0 r)).getD .bot)) e∧HW gl E' w' (bZ m (pick ob (F.st y0 r).hp))∧Ext gl.md (Own (aD (List.replicate m none) (cn (j8 y0 B (rA A d)))) E) E w (Own (bZ m (pick ob (F.st y0 r).hp)) E') E' w') a'.defers .returning w':=by
  intro σ _ hm R4 hds
  obtain⟨E5,g5,x5⟩:=SS.eM (gl:=gl) hm E' a' w' R4
  obtain⟨v2,k1,k2⟩:=kB T g5 hz
  rw[hds]
  have hw5:HW gl E5 w' (bZ m (pick ob (F.st y0 r).hp)):=g5.hw.less (fun b k hb=>hout b k (de hb))
  have X5:=h4.trans x5
  exact⟨v2,k1,E5,k2,hw5,{X5 with own:=fun g ⟨b,k,hb,hgb⟩=>X5.own g ⟨b,k,hout b k (de hb),hgb⟩}⟩
 have leave:(match σ'.df with
  |[]=>F.mR σ'
  |_=>Cc C ps F C.n σ')=some r→LeavesIn (Wd gl) 0 P fn a'.tmps (fun e w'=>∃E',oM E' w' (.ret ((fD G rs (F.st y0 r)).getD .bot)) e∧HW gl E' w' (bZ m (pick ob (F.st y0 r).hp))∧Ext gl.md (Own (aD (List.replicate m none) (cn (j8 y0 B (rA A d)))) E) E w (Own (bZ m (pick ob (F.st y0 r).hp)) E') E' w') a'.defers .returning w':=by
  intro he
  cases hd0:σ'.df with
  |
   nil=>
   rw[hd0] at he
   have hds:a'.defers= []:=by
    have:=h3.df
    rw[hd0] at this
    cases hds:a'.defers with
    |nil=>rfl
    |cons d l=>rw[hds] at this;exact this.elim
   exact plain (σ:=σ') hd0 he h3 hds
  |
   cons x l=>
   rw[hd0] at he
   exact yg T (pm:=false) (x:=.eI) he rfl (fun d y hy=>hC.n d y hy) hF hz hout h3 (u:=.nilIface) (Or.inr ⟨rfl,rfl⟩) (fun _=>rfl) h4
 cases e with
 |
  ret=>cases ex with
  |ret=>exact leave he
  |_=>exact h1.elim
 |
  normal=>cases ex with
  |normal=>exact leave he
  |_=>exact h1.elim
 |exit i=>exact no he
 |
  panic v=>
  cases ex with
  |
   panic ch=>
   obtain⟨u,e,hu⟩:=h1
   subst e
   simp only[Fj] at he
   split at he
   ·rename_i q R8 hq
    have hV:=(Sh.oW y0 hq).1
    obtain⟨E2,g2,x2⟩:=Wk.di (gl:=gl) (l:=jk) (σ:=σ') E' a' w' h3
    have hu2:bN E2 w' v u:=bN.mono (E:=E') (w:=w') ⟨fun b hb=>rfl,x2.sle⟩ (fun b hb=>by rw[R8] at hb;cases hb) hu
    exact yg T (pm:=true) (x:=v) he R8 (fun d y hy=>by have:=hD.p d q y hy;rw[hV] at this;exact this) hF hz hout g2 hu2 (fun e=>by cases e) (h4.trans x2)
   ·cases he
  |_=>exact h1.elim
end Go.Ax
namespace Go.Ax
def M3:dy→St→Option St
 | .normal,σ=>some σ
 |_,_=>none
def M4(F:SS):dy→St→Option F.T
 | .ret,σ=>zG F .ret σ
 |_,_=>none
theorem aH.jI{P:Program}{G:bu}(T:aN P G){gl:Ctx}{H:Hs}{Γ:List aH}(hΓ:∀C∈Γ,C.holds P gl)(RZ:gl.ro=none){rs:List ResultVar}{iA:FuncId}{A:List Sh}{B:List (Nat×dB)}{m nt:Nat}{F:SS}{ob:List Nat}{f:prod (mQ A (eR B []))→Option F.T}
 {fn:Func} {c0 X Y:Code} {rid:Nat} {o1 o2:Oper} (x:Operand) (d1 d2:Nat) (t t2 e:TypeId) (bs:Nat) (u:Ty) (xs:prod (mQ A (eR B []))→List u.den) (σ1:prod (mQ A (eR B []))→St)
 (RY:∀vs w,(callFunc iA vs).run P w= .ok (.enter iA vs) w) (hf:P.funcs[iA]? =some fn) (hb:fn.body=some (.seq c0 (.seq (.seq (.region rid #[o1,o2] false) (.cond (.tmp d2) X .skip)) Y))) (hrs:fn.results.toList=rs) (hnt:fn.ntmps=nt) (hF:F.df= [])
 (h1:o1.op= .move x) (hd1:o1.dst=some d1) (SD:o1.guard=none) (h2:o2.op= .binOp .eql t (.tmp d1) (.const (.slice none 0 0)) t2) (hd2:o2.dst=some d2) (hg2:o2.guard=none) (ht:P.underlying t=some (.slice e))
 (hres:∀r:F.T,CM (fD G rs (F.st y0 r))=true)
 (hA:∀d,walk P G [] H Γ c0 gl true (iX nt m (rz y0 A d) (cn (j8 y0 B (rA A d)))) M3=some (σ1 d))
 (hx:∀d,aQ gl (σ1 d).tm x= .val (.slice bs u) (xs d)) (hl:∀d,Nat.blt d1 (σ1 d).tm.length=true) (hl2:∀d b,aQ gl (((σ1 d).put (some d1) (.val (.slice bs u) (xs d))).put (some d2) (.val .bool b)).tm (.tmp d2)= .val .bool b)
 (hX:∀d,xs d= []→f d=walk P G [] H Γ X gl true (((σ1 d).put (some d1) (.val (.slice bs u) (xs d))).put (some d2) (.val .bool true)) (M4 F))
 (hY:∀d,f d=walk P G [] H Γ Y gl true (((σ1 d).put (some d1) (.val (.slice bs u) (xs d))).put (some d2) (.val .bool false)) (zG F)):
 (aB G rs iA A B m F ob (.bE f)).holds P gl:=by
 refine⟨?_,fun _ _ h=>h.elim⟩
 intro d r hd
 have Sc:f d=some r:=hd
 refine⟨RY,?_⟩
 subst hnt
 refine mb.ri T hf hb RZ (σe:=F.st y0 r) ?_ ?_ ?_ ?_
 ·refine bV.seq (bV.mono (fZ T hΓ (fun _=>RZ) (fun _=>aE) (hA d)) ?_)
  intro e' σ he
  cases e' with
  |
   normal=>
   have:σ=σ1 d:=Option.some.inj he
   subst this
   refine bV.seq ?_
   refine bV.EU x d1 d2 t t2 e bs u (xs d) h1 hd1 SD h2 hd2 hg2 (hx d) ht (hl d) ?_
   intro b hbx
   cases b with
   |
    true=>
    refine bV.cond (hl2 d true) (fun _=>?_) (fun e=>by cases e)
    have hw:=hX d (hbx rfl)
    rw[Sc] at hw
    refine bV.mono (fZ T hΓ (fun _=>RZ) (fun _=>aE) hw.symm) ?_
    intro e2 σ2 he2
    cases e2 with
    |ret=>exact mL he2
    |_=>exact no he2
   |
    false=>
    refine bV.cond (hl2 d false) (fun e=>by cases e) (fun _=>bV.skip ?_)
    have hw:=hY d
    rw[Sc] at hw
    refine bV.mono (fZ T hΓ (fun _=>RZ) (fun _=>aE) hw.symm) ?_
    intro e2 σ2 he2
    cases e2 with
    |ret=>exact mL he2
    |normal=>exact mL he2
    |_=>exact no he2
  |_=>exact no he
 ·show(F.st y0 r).df= []
  simp only[SS.st,SS.iX]
  obtain⟨nt',nh,tm,hp,df⟩:=F
  simp only at hF
  subst hF
  rfl
 ·rw[hrs];exact iY (hres r)
 ·intro b k RJ;exact fM RJ
end Go.Ax
namespace Go.Ax
theorem ik{x:Int}(h1:-9223372036854775808≤x)(h2:x≤9223372036854775807):bM x=x:=by
 show IntKind.i64.wrap x=x
 simp only[IntKind.wrap,IntKind.bits,IntKind.signed]
 simp
 omega
theorem eB{i:Nat}(h:i≤4611686018427387904):bM ((i:Int)+1)=((i+1:Nat):Int):=by
 rw[ik (by omega) (by omega)];rfl
theorem G7{t:Ty}{xs:List t.den}{i:Nat}(h:i<xs.length):nth t xs (i:Int)=xs[i]:=by
 simp[nth,List.getD,h]
theorem G8{kt:Ty}(hk:kt.keyed=true)(k:kt.den):aO kt k k=true:=(bO hk k k).2 rfl
end Go.Ax
namespace Go.Ax
theorem bx{U R:Type}(F:(U→Option R)→U→Option R)(n:Nat)(u:U):aL F (n+1) u=F (aL F n) u:=rfl
theorem I7{U R:Type}{F:(U→Option R)→U→Option R}(I:U→Prop)(μ:U→Nat)(Q:U→Option R→Prop)
 (h:∀rec u,I u→(∀u',I u'→μ u'<μ u→Q u' (rec u'))→Q u (F rec u)):∀n u,I u→μ u<n→Q u (aL F n u):=by
 intro n
 induction n with
 |zero=>intro u _ hn;omega
 |
  succ n ih=>
  intro u hu hn
  rw[bx]
  exact h _ u hu fun u' hu' Ru=>ih u' hu' (by omega)
theorem aR{U R:Type}(d:U)(f:U→Option R):aG (some (.brk d)) f=f d:=rfl
theorem Hr{U R:Type}(r:R)(f:U→Option R):aG (some (.ret r)) f=some r:=rfl
theorem I8{U R:Type}(r:R):(ei (some r):Option (ct U R))=some (.ret r):=rfl
theorem dP{R:Type}(y:YC)(x:Option R):zN y y x=x:=by unfold zN;rw[if_pos rfl]
theorem kQ{R:Type}{F:YC→Option R}{r:R}(h:∀y,F y=some r):oq F=some r:=by
 unfold oq
 rw[dif_pos ⟨r,h⟩]
 have hc:=Classical.choose_spec (⟨r,h⟩:∃r,∀y,F y=some r)
 have:=hc y0
 rw[h] at this
 exact this.symm▸rfl
theorem JI{A R:Type}{xs:List A}{K:A→List A→Option R}{r:R}(Rw:xs≠[])(h:∀i(hi:i<xs.length),K xs[i] (xs.eraseIdx i)=some r):zJ xs K=some r:=by
 unfold zJ
 rw[dif_pos ⟨r,h⟩]
 have hc:=Classical.choose_spec (⟨r,h⟩:∃r,∀i(h:i<xs.length),K xs[i] (xs.eraseIdx i)=some r)
 have h0:0<xs.length:=List.length_pos_iff.2 Rw
 have:=hc 0 h0
 rw[h 0 h0] at this
 exact this.symm▸rfl
theorem gd{α:Type}{c:Prop}[Decidable c]{x y:α}(h:c):(if c then x else y)=x:=if_pos h
theorem ml{t:Ty}{xs:List t.den}{i:Nat}(h:i<xs.length):nth t xs (i:Int)=xs[i]:=G7 h
theorem scan{U R β:Type}{F:(U→Option (ct β R))→U→Option (ct β R)}(len:Nat)(at_:Nat→U)(b:β)(C:Nat→Prop)(P:R→Prop)
 (step:∀rec i,i<len→(C i∧F rec (at_ i)=rec (at_ (i+1)))∨∃r,P r∧F rec (at_ i)=some (.ret r))
 (stop:∀rec,F rec (at_ len)=some (.brk b)):
 ∀n i,i≤len→len -i<n→((∀j,i≤j→j<len→C j)∧aL F n (at_ i)=some (.brk b))∨∃r,P r∧aL F n (at_ i)=some (.ret r):=by
 intro n
 induction n with
 |zero=>intro i _ h;omega
 |
  succ n ih=>
  intro i hi hn
  rw[bx]
  by_cases h:i<len
  ·rcases step (aL F n) i h with⟨hc,e⟩|⟨r,hp,e⟩
   ·rw[e]
    rcases ih (i+1) (by omega) (by omega) with⟨h1,h2⟩|h2
    ·refine Or.inl ⟨fun j h3 h4=>?_,h2⟩
     by_cases hj:j=i
     ·subst hj;exact hc
     ·exact h1 j (by omega) h4
    ·exact Or.inr h2
   ·exact Or.inr ⟨r,hp,e⟩
  ·have:i=len:=by omega
   subst this
   exact Or.inl ⟨fun j h3 h4=>absurd h4 (by omega),stop _⟩
theorem i1{n:Nat}(h:n≤aF):n<dQ:=by
 have h1:aF=140737488355328:=rfl
 have h2:dQ=18446744073709551616:=rfl
 omega
end Go.Ax
namespace Go.Ax
open Go.Proofs Go.Sort Go.Shelf
def Ht(c:Int→Int→Option Int)(x y:Int):Bool:=decide ((c x y).getD 0<0)
structure OU(c:Int→Int→Option Int)(xs:List Int):Prop where
 ne:xs≠[]
 Rq:∀x∈xs,Ht c x x=false
 has:∀x∈xs,∀y∈xs,∃r,c x y=some r
 Rr:∀x∈xs,∀y∈xs,x=y∨Ht c x y= !Ht c y x
 tr:∀x∈xs,∀y∈xs,∀z∈xs,Ht c x y=true→Ht c y z=true→Ht c x z=true
section
variable{c:Int→Int→Option Int} {xs:List Int}
end
theorem l3{w:World}{S:Nat→Prop}{k:IntKind}:∀{xs:List Int},(∀x∈xs,k.min≤x∧x≤k.max)→aI (Rel w S (.int k)) (xs.map (Value.int k)) xs
 |[],_=>rfl
 |x::xs,h=>⟨[.int k x],xs.map (Value.int k),rfl,⟨rfl,h x (List.mem_cons_self ..)⟩,l3 fun y hy=>h y (List.mem_cons_of_mem _ hy)⟩
end Go.Ax
namespace Go.Ax
open Go.Proofs Go.Sort Go.Shelf Go.Maps
def fN{β:Type}(es:List (Int×β)):List Int:=(es.map (·.1)).mergeSort fun x y=>decide (x≤y)
def sU{β:Type}(es:List (Int×β)):Option (List Int):=if es.length*8≤aF then some (fN es) else none
theorem yh{E:Env}{w:World}{v:Ty}:∀{en:List MapEntry}{es:List (Int×v.den)},RM E w (.int .i64) v en es→en.map (·.key)=es.map (fun x=>Value.int .i64 x.1)∧(∀x∈es,IntKind.i64.min≤x.1∧x.1≤IntKind.i64.max)
 |[],[],_=>⟨rfl,fun x hx=>by cases hx⟩
 |[],_::_,h=>h.elim
 |_::_,[],h=>h.elim
 |
  e::en,x::es,⟨h1,_,h3⟩=>by
  obtain⟨k1,k2⟩:=yh h3
  have hk:e.key= .int .i64 x.1∧IntKind.i64.min≤x.1∧x.1≤IntKind.i64.max:=by
   rcases h1 with⟨hx,_⟩|⟨_,hx,hb⟩
   ·cases hx
   ·exact⟨by simpa using hx,hb⟩
  refine⟨by rw[List.map_cons,List.map_cons,k1,hk.1],fun y hy=>?_⟩
  rcases List.mem_cons.1 hy with rfl|hy
  ·exact hk.2
  ·exact k2 y hy
theorem Cd{m b:Nat}{k k' k'':aC}(h:(aD (List.replicate m none) [(0,some k),(1,some k')])[b]? =some (some k'')):(b=0∧k''=k)∨(b=1∧k''=k'):=by
 rcases cK h with h|⟨_,h⟩
 ·simpa using h
 ·rw[List.getElem?_replicate] at h
  split at h<;>cases h
theorem il{m b X:Nat}{k k' k2 k'':aC}(h:(aD (List.replicate m none) [(0,some k),(1,some k'),(X,some k2)])[b]? =some (some k'')):(b=0∧k''=k)∨(b=1∧k''=k')∨(b=X∧k''=k2):=by
 rcases cK h with h|⟨_,h⟩
 ·simpa using h
 ·rw[List.getElem?_replicate] at h
  split at h<;>cases h
def sV(_:Value):Option (DataW Unit×List MemPlace):=some (.nil,[])
theorem EL{P:Program}{ρa ρb:Ren}(L10:SlLaysZI.n10 P ρa)(L6:SlLaysZI.n6 P ρb)(hsorts:AnyZI.SortsIn P ρb Fence.wide 4){gl:Ctx}(hmd:¬gl.md)
 (hent:∀vs w,(callFunc (ρb.f 6) vs).run P w= .ok (.enter (ρb.f 6) vs) w) (e9:∀vs w,(callFunc (ρb.f 9) vs).run P w= .ok (.enter (ρb.f 9) vs) w) (eg:∀vs w,(callFunc (ρa.f 10) vs).run P w= .ok (.enter (ρa.f 10) vs) w)
 {tv vt:Ty} {es:List (Int×vt.den)} {ys:List Int} (hs:sU es=some ys) (m X:Nat) (hm:1<m) (hX:X<m) (hX2:16≤X):
 Fc P gl (ρb.f 6) [.func (.func (ρa.f 10)) .nil (.cons (.ptr 0 []) .nil)] (aD (List.replicate m none) [(0,some (.var tv (.mp 1))),(1,some (.map (.int .i64) vt es))]) (.ret (.own X)) (bZ m [(0,.var tv (.mp 1)),(1,.map (.int .i64) vt es),(X,.row (ρb.t 26) 8 (.int .i64) ys)]):=by
 refine⟨hent,?_⟩
 unfold sU at hs
 split at hs
 ·rename_i hlen
  cases hs
  refine mb.iR (fun b k hb=>by rcases Cd hb with⟨_,rfl⟩|⟨_,rfl⟩<;>rfl) ?_
  intro E w vs hP hvs hw
  match vs,hvs with
  |
   [v0],⟨h0,_⟩=>
   have at0:(aD (List.replicate m none) [(0,some (aC.var tv (.mp 1))),(1,some (.map (.int .i64) vt es))])[0]? =some (some (.var tv (.mp 1))):=by
    simp[aD,show 0<m by omega]
   have at1:(aD (List.replicate m none) [(0,some (aC.var tv (.mp 1))),(1,some (.map (.int .i64) vt es))])[1]? =some (some (.map (.int .i64) vt es)):=by
    simp[aD,hm]
   obtain⟨n1,_,gm,en,clock,m1,m2,m3,m4,m5⟩:=hw.bP 1 _ at1
   obtain⟨b1,_,gb,cells,eb,b2,b3,b4⟩:=hw.bP 0 _ at0
   have h0:bN E w (.func (.func (ρa.f 10)) .nil (.cons (.ptr 0 []) .nil)) v0:=h0
   rcases h0 with⟨hx,_⟩|⟨_,f,cb,q1,q2,q3,_,_⟩
   ·cases hx
   have q2:f.toList= []:=q2
   have hf:f= #[]:=by
    cases f with
    |mk l=>simp at q2;subst q2;rfl
   subst hf
   obtain⟨v1,v2,q4,⟨gp,q5,q6,_⟩,q7⟩:=q3
   rw[b2] at q5;cases q5
   have q7:v2= []:=q7
   have hoff:(E.bt 0).off []=0:=Ty.fv _
   have hcb:cb= #[.pointer (some ⟨gb,0,none⟩)]:=by
    cases cb with
    |
     mk l=>
     have:l=v1++v2:=q4
     rw[this,q6,q7,hoff];rfl
   have hv0:v0= .func (.func (ρa.f 10)) #[] #[.pointer (some ⟨gb,0,none⟩)]:=by
    rw[←hcb];simpa using q1
   obtain⟨gq,b5,b6⟩:=b4
   rw[m1] at b5;cases b5
   have hgb:gb<w.heap.size:=(Array.getElem?_eq_some_iff.1 b3).1
   have hcell:w.cell? ⟨gb,0,none⟩=some (.map (some gm)):=by
    unfold World.cell?
    rw[b3]
    have:cells= #[.map (some gm)]:=by
     cases cells with
     |mk l=>have:l= [.map (some gm)]:=b6;rw[this]
    simp[this]
   obtain⟨k1,k2⟩:=yh m3
   have hesz:en.size=es.length:=by
    have:=congrArg List.length k1
    simpa using this
   have hmx:aF=140737488355328:=rfl
   have hml:maxLen=9223372036854775807:=rfl
   have u26:P.underlying (ρa.t 26)=some (.int .i64):=L10.t26
   have hkey:∀x∈en.toList,∃z:Int,keyOf P (ρa.t 26) x.key=some (.int .i64 z)∧x.key= .int .i64 z:=by
    intro x hx
    have:x.key∈en.toList.map (·.key):=List.mem_map.2 ⟨x,hx,rfl⟩
    rw[k1] at this
    obtain⟨y,hy,e⟩:=List.mem_map.1 this
    refine⟨y.1,?_,e.symm⟩
    rw[←e]
    have hw:(Lit.int .i64 y.1).wf=true:=by
     have:=k2 y hy
     simp only[Lit.wf]
     rw[decide_eq_true this.1,decide_eq_true this.2];rfl
    simp[keyOf,u26,mapKey,hw]
   have hrd:∀x∈en.toList,∀z:Int,x.key= .int .i64 z→Go.WideElems.rd P (ρa.t 26) sV x=some (.int .i64 z,.nil):=by
    intro x hx z hz
    obtain⟨z',h1,h2⟩:=hkey x hx
    rw[hz] at h2;cases h2
    simp[Go.WideElems.rd,h1,sV]
   have hown:w.ownsMap P (ρa.t 26) sV gm en.size (.map ((en.toList.map (Go.WideElems.rg P (ρa.t 26) sV)).foldr DataW.insert [])):=by
    refine⟨en,clock,m2,⟨by rw[hesz];omega,⟨m4,m5,?_⟩,fun x hx=>?_⟩,Nat.le_refl _,rfl⟩
    ·rw[k1]
     exact List.pairwise_map.2 ((List.pairwise_map.1 n1).imp fun h e=>h (by simpa using e))
    ·obtain⟨z,_,hz⟩:=hkey x hx
     exact⟨_,hrd x hx z hz⟩
   have hD:∀ss:List Int,ss.Perm (intKeys (.map ((en.toList.map (Go.WideElems.rg P (ρa.t 26) sV)).foldr DataW.insert [])))→ss.Perm (es.map (·.1)):=by
    intro ss hss
    refine hss.trans ?_
    have p1:=(WideShapes.sorted_perm (en.toList.map (Go.WideElems.rg P (ρa.t 26) sV))).map (fun p=>intOf p.1)
    refine List.Perm.trans p1 (List.Perm.of_eq ?_)
    rw[List.map_map]
    have:en.toList.map ((fun p:Lit×DataW Unit=>intOf p.1)∘Go.WideElems.rg P (ρa.t 26) sV)=(en.toList.map (·.key)).map fun v=>match v with| .int _ z=>z|_=>0:=by
     rw[List.map_map]
     apply List.map_congr_left
     intro x hx
     obtain⟨z,_,hz⟩:=hkey x hx
     simp only[Function.comp,Go.WideElems.rg_of (hrd x hx z hz),hz]
     rfl
    rw[this,k1,List.map_map]
    rfl
   have hDs:Maps.size (DataW.map ((en.toList.map (Go.WideElems.rg P (ρa.t 26) sV)).foldr DataW.insert []))=es.length:=by
    show List.length _=_
    rw[length_read,hesz]
   have hseq:=AnyZI.keys_gives L10 (H:=Unit) Fence.wide 2 trivial rfl (by omega) gb gm en.size _ w hgb hcell hown
   rw[hDs] at hseq
   have main:=AnyZI.sorted_in L6 Fence.wide 5 trivial trivial trivial trivial rfl (by omega) hsorts e9 (ρa.f 10) #[.pointer (some ⟨gb,0,none⟩)] trivial eg _ es.length (by omega) (by omega) w hseq
   have hargs:[v0].toArray= #[.func (.func (ρa.f 10)) #[] #[.pointer (some ⟨gb,0,none⟩)]]:=by rw[hv0]
   rw[hargs]
   refine(callsIn_wide.1 main).mono ?_
   rintro e1 w1 ⟨v,ss,rfl,hS,hrow,_,hb⟩
   have hperm:=hD ss hS
   have hsort:(ss.mergeSort fun x y=>decide (x≤y))=fN es:=mergeSort_of_perm_i hperm
   rw[hsort] at hrow
   have hsl:ss.length=es.length:=by rw[hperm.length_eq,List.length_map]
   have hyl:(fN es).length=es.length:=by unfold fN;rw[List.length_mergeSort,List.length_map]
   have hsame:∀g,g<w.heap.size→w1.heap[g]? =w.heap[g]? :=fun g hg=>hb.block g hg
   have hb2:∀z∈fN es,IntKind.i64.min≤z∧z≤IntKind.i64.max:=by
    intro z hz
    have:z∈es.map (·.1):=(List.mergeSort_perm _ _).mem_iff.1 hz
    obtain⟨y,hy,rfl⟩:=List.mem_map.1 this
    exact k2 y hy
   rw[hsl,←hyl] at hrow
   obtain⟨og,hEv,hog,hRB⟩:∃og:Option Nat,(∃a n c,v= .slice a n c)∧(∀g,og=some g→w.heap.size≤g)∧∀E':Env,E'.g X=og→E'.sv X=v→E'.bt X= .arr (fN es).length (.int .i64)→RB E' w1 X (.row (ρb.t 26) 8 (.int .i64) (fN es)):=by
    rcases hrow.2 with⟨hv,hz⟩|⟨g,cap,cur,hv,r0,r1,r2,r3,r4,r5⟩
    ·have hn:fN es= []:=List.eq_nil_of_length_eq_zero hz
     refine⟨none,⟨_,_,_,hv⟩,(fun g hg=>by cases hg),fun E' h1 h2 h3=>?_⟩
     rw[hn] at h3 ⊢
     exact⟨h3,by simp,by simp,Nat.one_pos,none,0,by rw[h2,hv];rfl,Nat.zero_le _,Or.inl ⟨⟨rfl,rfl⟩,h1,rfl⟩⟩
    ·refine⟨some g,⟨_,_,_,hv⟩,(fun g' hg=>by cases hg;exact r0),fun E' h1 h2 h3=>?_⟩
     refine⟨h3,by rw[hyl];exact hlen,by rw[hyl];omega,Nat.one_pos,some ⟨g,0,none⟩,cap,by rw[h2,hv],r3,Or.inr ⟨g,cur,h1,rfl,r1,r4,r2,?_⟩⟩
     have RA:Ty.size (.int .i64)=1:=rfl
     rw[RA,r5]
     exact l3 hb2
   have hX0:X≠0:=by omega
   have hX1:X≠1:=by omega
   let E':Env:={E with g:=fun b=>if b=X then og else E.g b,sv:=fun b=>if b=X then v else E.sv b,bt:=fun b=>if b=X then .arr (fN es).length (.int .i64) else E.bt b}
   have outE:bZ m [(0,.var tv (.mp 1)),(1,.map (.int .i64) vt es),(X,.row (ρb.t 26) 8 (.int .i64) (fN es))]=aD (List.replicate m none) [(0,some (.var tv (.mp 1))),(1,some (.map (.int .i64) vt es)),(X,some (.row (ρb.t 26) 8 (.int .i64) (fN es)))]:=rfl
   have kp:aV E w E' w1:=⟨fun b RR=>hsame b (hw.slt b RR),fun _ h=>h⟩
   have eX:E'.g X=og∧E'.sv X=v∧E'.bt X= .arr (fN es).length (.int .i64):=⟨if_pos rfl,if_pos rfl,if_pos rfl⟩
   have eN:∀b,b≠X→E'.g b=E.g b∧E'.sv b=E.sv b∧E'.bt b=E.bt b:=fun b h=>⟨if_neg h,if_neg h,if_neg h⟩
   have gm_lt:gm<w.heap.size:=(Array.getElem?_eq_some_iff.1 m2).1
   have g_old:∀b g,b=0∨b=1→E'.g b=some g→g<w.heap.size∧E.g b=some g:=by
    intro b g RR hg
    rcases RR with rfl|rfl
    ·rw[(eN 0 hX0.symm).1] at hg
     refine⟨?_,hg⟩
     rw[b2] at hg;cases hg;exact hgb
    ·rw[(eN 1 hX1.symm).1] at hg
     refine⟨?_,hg⟩
     rw[m1] at hg;cases hg;exact gm_lt
   refine⟨E',?_,?_,?_⟩
   ·show bN _ _ _ _
    obtain⟨a,n,c,hv⟩:=hEv
    exact Or.inr ⟨rfl,by show[v]= [E'.sv X];rw[eX.2.1],a,n,c,by rw[eX.2.1,hv]⟩
   ·rw[outE]
    refine⟨fun b k RR=>?_,fun b b' k k' g hb1 hb2 SD hg2=>(have SD:=SD.resolve_right (hP _ _);have hg2:=hg2.resolve_right (hP _ _);?_),fun b k g RR hg hS'=>(have hg:=hg.resolve_right (hP _ _);?_),fun g hg=>Nat.lt_of_lt_of_le (hw.slt g hg) hb.size,hw.dF kp,fun b _ g _ h=>absurd h (hP b g)⟩
    ·rcases il RR with⟨rfl,rfl⟩|⟨rfl,rfl⟩|⟨rfl,rfl⟩
     ·refine RB.mono kp (fun c hc=>?_) (fun g hg=>hsame g (have hg:=hg.resolve_right (hP _ _);?_)) (fun hp=>by cases hp) (hw.bP 0 _ at0)
      ·have:c=0∨c=1:=by simpa[aC.ids,AV.ids] using hc
       rcases this with rfl|rfl
       ·exact eN 0 hX0.symm
       ·exact eN 1 hX1.symm
      ·rw[b2] at hg;cases hg;exact hgb
     ·refine RB.mono kp (fun c hc=>?_) (fun g hg=>hsame g (have hg:=hg.resolve_right (hP _ _);?_)) (fun hp=>by cases hp) (hw.bP 1 _ at1)
      ·have:c=1:=by simpa[aC.ids] using hc
       subst this
       exact eN 1 hX1.symm
      ·rw[m1] at hg;cases hg;exact gm_lt
     ·exact hRB E' eX.1 eX.2.1 eX.2.2
    ·have Sg:∀b k,(aD (List.replicate m none) [(0,some (aC.var tv (.mp 1))),(1,some (.map (.int .i64) vt es)),(X,some (.row (ρb.t 26) 8 (.int .i64) (fN es)))])[b]? =some (some k)→b≠X→b=0∨b=1:=by
      intro b k h Rw
      rcases il h with⟨h,_⟩|⟨h,_⟩|⟨h,_⟩
      ·exact Or.inl h
      ·exact Or.inr h
      ·exact absurd h Rw
     by_cases e1:b=X
     ·by_cases e2:b'=X
      ·rw[e1,e2]
      ·have o2:=g_old b' g (Sg b' k' hb2 e2) hg2
       rw[e1,eX.1] at SD
       have:=hog g SD
       omega
     ·by_cases e2:b'=X
      ·have o1:=g_old b g (Sg b k hb1 e1) SD
       rw[e2,eX.1] at hg2
       have:=hog g hg2
       omega
      ·have o1:=(g_old b g (Sg b k hb1 e1) SD).2
       have o2:=(g_old b' g (Sg b' k' hb2 e2) hg2).2
       rcases Sg b k hb1 e1 with rfl|rfl<;>rcases Sg b' k' hb2 e2 with rfl|rfl
       ·rfl
       ·exact hw.sep 0 1 _ _ g at0 at1 o1 o2
       ·exact hw.sep 1 0 _ _ g at1 at0 o1 o2
       ·rfl
    ·rcases il RR with⟨rfl,_⟩|⟨rfl,_⟩|⟨rfl,_⟩
     ·exact hw.fT 0 _ g at0 (g_old 0 g (Or.inl rfl) hg).2 hS'
     ·exact hw.fT 1 _ g at1 (g_old 1 g (Or.inr rfl) hg).2 hS'
     ·rw[eX.1] at hg
      have:=hog g hg
      have:=hw.slt g hS'
      omega
   ·rw[outE]
    refine⟨hb.os,⟨hb.tape,fun m=>absurd m hmd⟩,hb.output,hb.size,fun g hg _=>hsame g hg,fun _ h=>h,fun g hg=>Or.inl hg,fun g hg=>?_,fun b hb16=>eN b (by omega)⟩
    obtain⟨b,k,RJ,hg⟩:=hg
    have hg:=hg.resolve_right (hP _ _)
    rcases il RJ with⟨rfl,_⟩|⟨rfl,_⟩|⟨rfl,_⟩
    ·exact Or.inl ⟨0,_,at0,Or.inl (g_old 0 g (Or.inl rfl) hg).2⟩
    ·exact Or.inl ⟨1,_,at1,Or.inl (g_old 1 g (Or.inr rfl) hg).2⟩
    ·rw[eX.1] at hg;exact Or.inr (hog g hg)
 ·cases hs
end Go.Ax
namespace Go.Ax
theorem i6{U R β:Type}{F:(U→Option (ct β R))→U→Option (ct β R)}{L:Nat→U→Option (ct β R)}(hL:L=aL F)(len:Nat)(at_:Nat→U)(b:β)(C:Nat→Prop)(P:R→Prop)
 (step:∀rec i,i<len→(C i∧F rec (at_ i)=rec (at_ (i+1)))∨∃r,P r∧F rec (at_ i)=some (.ret r))
 (stop:∀rec,F rec (at_ len)=some (.brk b)) (n:Nat) (hn:len<n):((∀j,j<len→C j)∧L n (at_ 0)=some (.brk b))∨∃r,P r∧L n (at_ 0)=some (.ret r):=by
 subst hL
 rcases scan len at_ b C P step stop n 0 (by omega) (by omega) with⟨h1,h2⟩|h
 ·exact Or.inl ⟨fun j hj=>h1 j (by omega) hj,h2⟩
 ·exact Or.inr h
theorem OV{U R β S:Type}{F:(U→Option (ct β R))→U→Option (ct β R)}{L:Nat→U→Option (ct β R)}(hL:L=aL F)(len:Nat)(at_:Nat→S→U)(end_:S→β)(g:Nat→S→S)(I:Nat→S→Prop)
 (step:∀rec i s,i<len→I i s→F rec (at_ i s)=rec (at_ (i+1) (g i s))∧I (i+1) (g i s))
 (stop:∀rec s,I len s→F rec (at_ len s)=some (.brk (end_ s))):
 ∀n i s,i≤len→len -i<n→I i s→∃s',s'=(List.range' i (len -i)).foldl (fun s j=>g j s) s∧I len s'∧L n (at_ i s)=some (.brk (end_ s')):=by
 subst hL
 intro n
 induction n with
 |zero=>intro i s _ h;omega
 |
  succ n ih=>
  intro i s hi hn hI
  rw[bx]
  by_cases h:i<len
  ·obtain⟨e,hI'⟩:=step (aL F n) i s h hI
   rw[e]
   obtain⟨s',h1,h2,h3⟩:=ih (i+1) (g i s) (by omega) (by omega) hI'
   refine⟨s',?_,h2,h3⟩
   rw[show len -i=(len -(i+1))+1 from by omega,List.range'_succ,List.foldl_cons]
   exact h1
  ·have:i=len:=by omega
   subst this
   refine⟨s,by simp,hI,stop _ s hI⟩
end Go.Ax
namespace Go.Ax
def l4(W:World):Env:=⟨fun _=>none,fun _=>undef,fun _=>.unit,fun g=>g<W.heap.size,fun _ _=>False⟩
theorem aI.collect{α:Type}{r:List Value→α→Prop}{k:Nat}:∀(n:Nat)(cs:List Value),cs.length=n*k→(∀i,i<n→∃y,r ((cs.drop (i*k)).take k) y)→∃ys,ys.length=n∧aI r cs ys
 |0,cs,hl,_=>⟨[],rfl,List.eq_nil_of_length_eq_zero (by simpa using hl)⟩
 |
  n+1,cs,hl,h=>by
  obtain⟨y,hy⟩:=h 0 (by omega)
  rw[Nat.zero_mul,List.drop_zero] at hy
  obtain⟨ys,h1,h2⟩:=aI.collect (k:=k) n (cs.drop k) (by rw[List.length_drop,hl,Nat.add_mul,Nat.one_mul];omega) (fun i hi=>by
   obtain⟨z,hz⟩:=h (i+1) (by omega)
   refine⟨z,?_⟩
   rw[List.drop_drop]
   rw[show k+i*k=(i+1)*k from by rw[Nat.add_mul];omega]
   exact hz)
  exact⟨y::ys,by simp[h1],cs.take k,cs.drop k,(List.take_append_drop k cs).symm,hy,h2⟩
theorem cells?_get{w:World}{base:Nat}{a:Addr}{n:Nat}{cs:List Value}(h:w.cells? base a n=some cs):cs.length=n∧∀j v,cs[j]? =some v→w.cell? (a.add j)=some v:=by
 unfold World.cells? at h
 split at h
 ·have hl:=mapM_some_length h
  refine⟨by simpa using hl,fun j v hj=>?_⟩
  have Ru:j<n:=by
   have:=(List.getElem?_eq_some_iff.1 hj).1
   rw[hl] at this;simpa using this
  have:=mapM_some_get h j j (by simp[Ru])
  rw[this,hj]
 ·cases h
theorem Addr.add_add(a:Addr)(i j:Nat):(a.add i).add j=a.add (i+j):=by
 unfold Addr.add
 by_cases hi:i=0
 ·subst hi;simp
 ·by_cases hj:j=0
  ·subst hj;simp
  ·have:i+j≠0:=by omega
   simp[hi,hj,Nat.add_assoc]
theorem aI.Ce{α:Type}{w:World}{r:List Value→α→Prop}{a:Addr}{k:Nat}:∀(n s:Nat),(∀i,i<n→∃c y,w.cells? 0 (a.add ((s+i)*k)) k=some c∧r c y)→∃cs ys,ys.length=n∧aI r cs ys∧∀j v,cs[j]? =some v→w.cell? (a.add (s*k+j))=some v
 |0,s,_=>⟨[],[],rfl,rfl,fun j v hj=>by simp at hj⟩
 |
  n+1,s,h=>by
  obtain⟨c,y,h1,h2⟩:=h 0 (by omega)
  rw[Nat.add_zero] at h1
  obtain⟨hl,hc⟩:=cells?_get h1
  obtain⟨cs,ys,g1,g2,g3⟩:=aI.Ce n (s+1) (fun i hi=>by
   obtain⟨c',y',q1,q2⟩:=h (i+1) (by omega)
   exact⟨c',y',by rw[show s+1+i=s+(i+1) from by omega];exact q1,q2⟩)
  refine⟨c++cs,y::ys,by simp[g1],⟨c,cs,rfl,h2,g2⟩,?_⟩
  intro j v hj
  rw[List.getElem?_append] at hj
  split at hj
  ·have:=hc j v hj
   rwa [Addr.add_add] at this
  ·rename_i hge
   have:=g3 _ v hj
   rw[hl] at this hge
   rw[show(s+1)*k+(j -k)=s*k+j from by rw[Nat.add_mul,Nat.one_mul];omega] at this
   exact this
section
variable{H:Type} {enc:TypeId×Value→H} {P:Program} {G:bu} (T:aN P G) {W:World} {spare:Nat→Bool} {held:Bool}
include T
theorem aN.cellsOf{t:TypeId}{td:TD}(h:G.at t=some td):P.cellsOf t=td.ty.size:=by
 obtain⟨i,_,h1,_,h2,_⟩:=T.info h
 simp[Program.cellsOf,h1,h2]
theorem aN.Cf{t:TypeId}{td:TD}(ht:G.at t=some td)(hs:td.ty= .bool):P.underlying t=some .bool:=by
 obtain⟨ii,dd,_,h1,_,h2,_⟩:=T.info ht
 have Rv:=cd h2
 rw[h1]
 cases hd:dd with
 |bool=>rfl
 |struct fs=>subst hd;rw[hs] at Rv;simp[cm,Ty.isAgg] at Rv
 |array n e=>subst hd;rw[hs] at Rv;simp[cm,Ty.isAgg] at Rv
 |slice e=>subst hd;simp[bF,Ty.same,hs] at h2
 |map k e=>subst hd;simp[bF,Ty.same,hs] at h2
 |_=>subst hd;simp[bF,Ty.same,hs] at h2
def Ty.bQ:Ty→Bool
 | .arr _ t=>t.bQ
 | .slice _ t=>t.bQ
 | .pair a b=>a.bQ&&b.bQ
 | .aK _| .fns _| .map _ _=>false
 |_=>true
theorem sW:∀(fuel:Nat)(t:TypeId)(td:TD)(cs:List Value)(d:DataW H)(ps:List MemPlace),G.at t=some td→td.ty.bQ=true→DataW.trod enc P W 0 spare held fuel t cs=some (d,ps)→(∀n∈d.weights P t,n≤aF)→
 ∃x:td.ty.den,Rel W (fun g=>g<W.heap.size) td.ty cs x
 |0,t,td,cs,d,ps,_,_,h,_=>by simp[DataW.trod] at h
 |
  fuel+1,t,td,cs,d,ps,ht,hp,h,hw=>by
  have ih:=fun t td cs d ps=>sW fuel t td cs d ps
  obtain⟨ty,te,te2⟩:=td
  simp only at hp
  cases ty with
  |
   int k=>
   obtain⟨n,e1,e2,e3⟩:=DataW.trod_int (T.intOf ht rfl) h
   simp only[Lit.wf,Bool.and_eq_true,decide_eq_true_eq] at e3
   exact⟨n,e1,e3⟩
  |
   bool=>
   obtain⟨b,e1,e2⟩:=DataW.trod_bool (T.Cf ht rfl) h
   exact⟨b,e1⟩
  |
   str=>
   have hu:=T.strOf ht rfl
   unfold DataW.trod at h
   rw[hu] at h
   split at h<;>simp_all
   obtain⟨_,e1,e2⟩:=h
   subst e1
   rename_i s _
   have hlen:s.data.toList.length≤aF:=hw s.data.toList.length (by simp[DataW.weights])
   exact⟨s.data.toList,by simp,hlen⟩
  |
   arr n u=>
   obtain⟨tde,h1,h2,h3⟩:=T.kH ht rfl
   simp only at h1 h2 h3
   subst h3
   obtain⟨xs,m,e1,e2,e3,e4,e5⟩:=DataW.trod_array h1 h
   cases e1;cases e2
   have hcz:=T.cellsOf h2
   have hall:∀i,i<n→∃y,Rel W (fun g=>g<W.heap.size) tde.ty ((cs.drop (i*tde.ty.size)).take tde.ty.size) y:=by
    intro i hi
    have hx:=e5 i hi
    have Ru:i<xs.length:=by omega
    rw[List.getElem?_eq_getElem Ru,hcz] at hx
    refine ih te tde _ xs[i].1 xs[i].2 h2 hp hx (fun q hq=>hw q ?_)
    have key:∀(l:List (DataW H))(i:Nat)(d:DataW H),l[i]? =some d→∀q∈d.weights P te,q∈DataW.weightsAll P te l:=by
     intro l
     induction l with
     |nil=>intro i d h;simp at h
     |
      cons a l ihl=>
      intro i d h q hq
      simp only[DataW.weightsAll,List.mem_append]
      cases i with
      |zero=>simp at h;subst h;exact Or.inl hq
      |succ i=>exact Or.inr (ihl i d (by simpa using h) q hq)
    simp only[DataW.weights,h1]
    exact key _ i _ (by simp[Ru]) q hq
   have hl:cs.length=n*tde.ty.size:=by
    rw[e3];exact T.cellsOf ht
   obtain⟨ys,y1,y2⟩:=aI.collect n cs hl hall
   exact⟨ys,y1,y2⟩
  |
   slice bs u=>
   obtain⟨te',ie,h1,h2,h3,h4,h5,h6,h7⟩:=T.bR ht rfl
   simp only at h1 h2 h4
   subst h3
   have hcz:=T.cellsOf h2
   rcases DataW.trod_slice h1 h with⟨e1,e2⟩|⟨a,len,cap,elems,rest,m,e1,e2,e3,e4,e5,e6,e7,e8,_⟩
   ·exact⟨[],none,0,e1,Nat.le_refl _,by simp,by simp,Or.inl rfl⟩
   ·cases e1;cases e3
    have hb:P.bytesOf te=bs:=by simp[Program.bytesOf,h4,h5]
    have hw0:(elems.length+rest.length)*bs≤aF:=by
     refine hw _ ?_
     simp only[DataW.weights,h1,hb]
     simp
    have hlb:len*bs≤aF:=Nat.le_trans (Nat.mul_le_mul_right _ (by omega)) hw0
    have hlm:len≤aF:=Nat.le_trans (Nat.le_mul_of_pos_right _ h7) hlb
    have hall:∀i,i<len→∃c y,W.cells? 0 (a.add ((0+i)*te'.ty.size)) te'.ty.size=some c∧Rel W (fun g=>g<W.heap.size) te'.ty c y:=by
     intro i hi
     have hx:=e8 i hi
     have Ru:i<elems.length:=by omega
     rw[List.getElem?_eq_getElem Ru,hcz] at hx
     simp only[Option.bind_eq_some_iff] at hx
     obtain⟨c,c1,c2⟩:=hx
     obtain⟨y,hy⟩:=ih te te' c elems[i].1 elems[i].2 h2 hp c2 (fun q hq=>hw q (by
      have key:∀(l:List (DataW H))(i:Nat)(d:DataW H),l[i]? =some d→∀q∈d.weights P te,q∈DataW.weightsAll P te l:=by
       intro l
       induction l with
       |nil=>intro i d h;simp at h
       |
        cons a l ihl=>
        intro i d h q hq
        simp only[DataW.weightsAll,List.mem_append]
        cases i with
        |zero=>simp at h;subst h;exact Or.inl hq
        |succ i=>exact Or.inr (ihl i d (by simpa using h) q hq)
      simp only[DataW.weights,h1,List.mem_cons,List.mem_append]
      exact Or.inr (Or.inl (key _ i _ (by simp[Ru]) q hq))))
     exact⟨c,y,by rw[Nat.zero_add];exact c1,hy⟩
    obtain⟨Sr,ys,g1,g2,g3⟩:=aI.Ce (w:=W) (a:=a) len 0 hall
    subst g1
    rw[e2]
    refine⟨ys,some a,cap,rfl,e5,hlb,hlm,?_⟩
    cases hys:ys with
    |nil=>exact Or.inl rfl
    |
     cons y0 ys0=>
     right
     have SA:=aI.len (n:=te'.ty.size) (fun _ _ h=>Rel.len h) g2
     have hpos:0<Sr.length:=by rw[SA,hys];simp;exact h6
     have hc0:=g3 0 Sr[0] (by simp[hpos])
     simp only[Nat.zero_mul,Nat.add_zero,Addr.add,if_true] at hc0
     have hspot:a.spot=none∧a.block<W.heap.size:=by
      unfold World.cell? at hc0
      split at hc0
      ·rename_i c _ _ hh
       split at hc0
       ·cases hc0
       ·rename_i hs
        exact⟨by simpa using hs,(Array.getElem?_eq_some_iff.1 hh).1⟩
      ·cases hc0
     obtain⟨b,o,sp⟩:=a
     simp only at hspot
     obtain⟨hs,hblt⟩:=hspot
     subst hs
     refine⟨b,o,Sr,rfl,hblt,?_,by rw[←hys];exact g2⟩
     intro j v hj
     have:=g3 j v hj
     rwa [Nat.zero_mul,Nat.zero_add] at this
  |
   pair ta tb=>
   obtain⟨fs,h1,h2⟩:=T.structOf ht rfl
   obtain⟨xs,m,e1,e2,e3,e4,e5⟩:=DataW.trod_struct h1 h
   cases e1;cases e2
   have hl:cs.length=(Ty.pair ta tb).size:=by rw[e3];exact T.cellsOf ht
   have key:∀(l:List Field)(ty:Ty)(off:Nat)(ys:List (DataW H×List MemPlace)),aX G l off ty=true→ty.bQ=true→off+ty.size≤cs.length→ys.length=l.length→
    (∀(i:Nat)(f:Field),l[i]? =some f→DataW.trod enc P W 0 spare held fuel f.type ((cs.drop f.offset).take (P.cellsOf f.type))=ys[i]?)→
    (∀n∈DataW.weightsEach P (l.map (·.type)) (ys.map (·.1)),n≤aF)→∃x:ty.den,Rel W (fun g=>g<W.heap.size) ty ((cs.drop off).take ty.size) x:=by
    intro l
    induction l with
    |
     nil=>
     intro ty off ys hf _ _ _ _ _
     cases ty<;>simp[aX] at hf
     exact⟨(),by simp[Rel,Ty.size]⟩
    |
     cons f l ihl=>
     intro ty off ys hf hpu hle hyl hrd hwe
     cases ty with
     |
      pair a b=>
      simp only[aX,Bool.and_eq_true] at hf
      obtain⟨⟨⟨g1,g2⟩,g3⟩,g4⟩:=hf
      simp only[Ty.bQ,Bool.and_eq_true] at hpu
      cases ys with
      |nil=>simp at hyl
      |
       cons y ys=>
       split at g1
       ·rename_i td Sq
        have:=Ty.aA g1;subst this
        have g2:=Nat.eq_of_beq_eq_true g2
        have hcz:=T.cellsOf Sq
        simp only[Ty.size] at hle
        have hr0:=hrd 0 f rfl
        rw[g2,hcz] at hr0
        simp only[List.getElem?_cons_zero] at hr0
        simp only[List.map_cons,DataW.weightsEach,List.mem_append] at hwe
        obtain⟨x1,hx1⟩:=ih f.type td _ y.1 y.2 Sq hpu.1 hr0 (fun n hn=>hwe n (Or.inl hn))
        obtain⟨x2,hx2⟩:=ihl b (off+td.ty.size) ys g4 hpu.2 (by omega) (by simpa using hyl) (fun i f' hf'=>by
         have:=hrd (i+1) f' (by simpa using hf')
         simpa using this) (fun n hn=>hwe n (Or.inr hn))
        refine⟨(x1,x2),(cs.drop off).take td.ty.size,(cs.drop (off+td.ty.size)).take b.size,?_,hx1,hx2⟩
        simp only[Ty.size]
        rw[List.take_add,List.drop_drop]
       ·cases g1
     |_=>simp[aX] at hf
   obtain⟨x,hx⟩:=key fs.toList (.pair ta tb) 0 xs h2 hp (by omega) (by simpa using e4) (fun i f hf=>e5 i f (by simpa using hf)) (fun n hn=>hw n (by
    simp only[DataW.weights,h1];exact hn))
   rw[List.drop_zero,List.take_of_length_le (by omega)] at hx
   exact⟨x,hx⟩
  |
   unit=>
   obtain⟨ii,dd,_,hu,RA,hdo,_⟩:=T.info ht
   cases dd with
   |
    struct fs=>
    obtain⟨xs,m,e1,e2,e3,e4,e5⟩:=DataW.trod_struct hu h
    have hl:cs.length=0:=by rw[e3];exact T.cellsOf ht
    exact⟨(),List.eq_nil_of_length_eq_zero hl⟩
   |slice e=>simp[bF,Ty.same] at hdo
   |array n e=>simp[bF] at hdo
   |map k e=>simp[bF,Ty.same] at hdo
   |_=>simp[bF,Ty.same] at hdo
  |aK k=>simp[Ty.bQ] at hp
  |fns n=>simp[Ty.bQ] at hp
  |map k v=>simp[Ty.bQ] at hp
theorem mM{base:Nat}{t:TypeId}{td:TD}{v:Value}{d:DataW H}{p:List MemPlace}(ht:G.at t=some td)(hp:td.ty.bQ=true)(dY:Value.okWide P W .any base t v)(h:DataW.Trod enc P W 0 spare held t v d p)(hw:∀n∈d.weights P t,n≤aF):
 ∃x:td.ty.den,RV (l4 W) W (.val td.ty x) v∧wf td.ty x:=by
 obtain⟨fuel,h⟩:=h
 obtain⟨x,hx⟩:=sW T fuel t td _ d p ht hp h hw
 refine⟨x,RV.cJ ?_,Rel.wf hx⟩
 obtain⟨ii,dd,_,hu,_,hdo,_⟩:=T.info ht
 have Rv:=cd hdo
 cases ha:td.ty.isAgg with
 |
  true=>
  rw[ha] at Rv
  unfold Value.okWide at dY
  rw[hu] at dY
  cases dd<;>simp[cm] at Rv<;>(obtain⟨cs,e,_⟩:=dY;subst e;exact Or.inl ⟨ha,cs,rfl,hx⟩)
 |
  false=>
  rw[ha] at Rv
  refine Or.inr ⟨ha,?_⟩
  cases v with
  |
   agg cs=>
   unfold Value.okWide at dY
   rw[hu] at dY
   cases dd<;>simp[cm] at Rv<;>simp[Cell.okWide,Cell.ok,hu] at dY
  |_=>simp[Value.cells] at hx;exact hx
end
theorem mapM_mono{α β:Type}{f g:α→Option β}:∀{l:List α}{r:List β},(∀x∈l,∀y,f x=some y→g x=some y)→l.mapM f=some r→l.mapM g=some r
 |[],r,_,h=>by simpa using h
 |
  x::l,r,hm,h=>by
  simp only[List.mapM_cons,Option.bind_eq_bind,Option.bind_eq_some_iff,Option.pure_def,Option.some.injEq] at h ⊢
  obtain⟨y,h1,ys,h2,h3⟩:=h
  exact⟨y,hm x (by simp) y h1,ys,mapM_mono (fun z hz=>hm z (by simp[hz])) h2,h3⟩
theorem cells?_stay{W W':World}(hs:∀b,b<W.heap.size→W'.heap[b]? =W.heap[b]?){a:Addr}{n:Nat}{cs:List Value}(h:W.cells? 0 a n=some cs):W'.cells? 0 a n=some cs:=by
 unfold World.cells? at h ⊢
 split at h
 ·rename_i hb
  rw[if_pos hb]
  refine mapM_mono ?_ h
  intro i _ y hy
  unfold World.cell? at hy ⊢
  split at hy
  ·rename_i c t fr hh
   rw[hs _ (Array.getElem?_eq_some_iff.1 hh).1,hh]
   exact hy
  ·cases hy
 ·cases h
section
variable{H:Type} {enc:TypeId×Value→H} {P:Program} {G:bu} (T:aN P G) {W W':World} (hs:∀b,b<W.heap.size→W'.heap[b]? =W.heap[b]?)
include T hs
theorem pI:∀(fuel:Nat)(t:TypeId)(td:TD)(cs:List Value)(x:DataW H×List MemPlace),G.at t=some td→td.ty.bQ=true→DataW.trod enc P W 0 (fun _=>true) true fuel t cs=some x→DataW.trod enc P W' 0 (fun b=>decide (b<W.heap.size)) true fuel t cs=some x
 |0,t,td,cs,x,_,_,h=>by simp[DataW.trod] at h
 |
  fuel+1,t,td,cs,x,ht,hp,h=>by
  have ih:=fun t td cs x=>pI fuel t td cs x
  obtain⟨ty,te,te2⟩:=td
  simp only at hp
  cases ty with
  |
   int k=>
   have hu:=T.intOf ht rfl
   unfold DataW.trod at h ⊢
   rw[hu] at h ⊢
   split at h<;>simp_all
  |
   bool=>
   have hu:=T.Cf ht rfl
   unfold DataW.trod at h ⊢
   rw[hu] at h ⊢
   split at h<;>simp_all
  |
   str=>
   have hu:=T.strOf ht rfl
   unfold DataW.trod at h ⊢
   rw[hu] at h ⊢
   split at h<;>simp_all
  |
   arr n u=>
   obtain⟨tde,h1,h2,h3⟩:=T.kH ht rfl
   simp only at h1 h2 h3
   subst h3
   unfold DataW.trod at h ⊢
   rw[h1] at h ⊢
   simp only at h ⊢
   split at h
   ·rename_i hl
    rw[if_pos hl]
    simp only[Option.map_eq_some_iff] at h ⊢
    obtain⟨xs,g1,g2⟩:=h
    exact⟨xs,mapM_mono (fun i _ y hy=>ih te tde _ y h2 hp hy) g1,g2⟩
   ·cases h
  |
   slice bs u=>
   obtain⟨te',ie,h1,h2,h3,h4,h5,h6,h7⟩:=T.bR ht rfl
   simp only at h1 h2 h4
   subst h3
   have hcz:=T.cellsOf h2
   unfold DataW.trod at h ⊢
   rw[h1] at h ⊢
   split at h
   all_goals first
    |(cases h;rfl)
    |skip
   all_goals try (simp_all;done)
   rename_i e0 a len cap heq0
   have he0:e0=te:=by simpa using heq0.symm
   subst he0
   simp only[if_true] at h
   simp only
   split at h
   ·rename_i hc
    rw[if_pos hc]
    simp only[Option.bind_eq_some_iff,Option.map_eq_some_iff] at h ⊢
    obtain⟨elems,g1,rest,g2,g3⟩:=h
    have step:∀(i:Nat)(y:DataW H×List MemPlace),(W.cells? 0 (a.add (i*P.cellsOf e0)) (P.cellsOf e0)).bind (DataW.trod enc P W 0 (fun _=>true) true fuel e0)=some y→(W'.cells? 0 (a.add (i*P.cellsOf e0)) (P.cellsOf e0)).bind (DataW.trod enc P W' 0 (fun b=>decide (b<W.heap.size)) true fuel e0)=some y:=by
     intro i y hy
     simp only[Option.bind_eq_some_iff] at hy ⊢
     obtain⟨c,c1,c2⟩:=hy
     exact⟨c,cells?_stay hs c1,ih e0 te' c y h2 hp c2⟩
    refine⟨elems,mapM_mono (fun i _ y hy=>step i y hy) g1,rest,?_,g3⟩
    by_cases hz:cap -len=0
    ·rw[hz] at g2 ⊢
     simp at g2
     subst g2
     split<;>simp
    ·have hblk:a.block<W.heap.size:=by
      obtain⟨k,hk⟩:∃k,cap -len=k+1:=⟨cap -len -1,by omega⟩
      rw[hk,List.range_succ_eq_map] at g2
      simp only[List.mapM_cons,Option.bind_eq_bind,Option.bind_eq_some_iff] at g2
      obtain⟨y,⟨c,c1,_⟩,_⟩:=g2
      obtain⟨l1,l2⟩:=cells?_get c1
      have hpos:0<c.length:=by rw[l1,hcz];exact h6
      have:=l2 0 c[0] (by simp[hpos])
      unfold World.cell? at this
      split at this
      ·rename_i hh
       have Ru:=(Array.getElem?_eq_some_iff.1 hh).1
       have e:∀(a:Addr) n,(a.add n).block=a.block:=by intro a n;unfold Addr.add;split<;>rfl
       rw[e,e] at Ru
       exact Ru
      ·cases this
     simp only[hblk,decide_true,if_true]
     exact mapM_mono (fun i _ y hy=>step (len+i) y hy) g2
   ·cases h
  |
   pair ta tb=>
   obtain⟨fs,h1,h2⟩:=T.structOf ht rfl
   unfold DataW.trod at h ⊢
   rw[h1] at h ⊢
   simp only at h ⊢
   split at h
   ·rename_i hl
    rw[if_pos hl]
    simp only[Option.map_eq_some_iff] at h ⊢
    obtain⟨xs,g1,g2⟩:=h
    refine⟨xs,mapM_mono (fun f hf y hy=>?_) g1,g2⟩
    have key:∀(l:List Field)(ty:Ty)(off:Nat),aX G l off ty=true→ty.bQ=true→∀f∈l,∃td,G.at f.type=some td∧td.ty.bQ=true:=by
     intro l
     induction l with
     |nil=>intro ty off _ _ f hf;cases hf
     |
      cons f0 l ihl=>
      intro ty off hfo hpu f hf
      cases ty with
      |
       pair a b=>
       simp only[aX,Bool.and_eq_true] at hfo
       obtain⟨⟨⟨q1,q2⟩,q3⟩,q4⟩:=hfo
       simp only[Ty.bQ,Bool.and_eq_true] at hpu
       rcases List.mem_cons.1 hf with e|hf
       ·subst e
        split at q1
        ·rename_i td Sq
         exact⟨td,Sq,by rw[Ty.aA q1];exact hpu.1⟩
        ·cases q1
       ·exact ihl b _ q4 hpu.2 f hf
      |_=>simp[aX] at hfo
    obtain⟨td,Sq,hpd⟩:=key fs.toList (.pair ta tb) 0 h2 hp f hf
    exact ih f.type td _ y Sq hpd hy
   ·cases h
  |
   unit=>
   obtain⟨ii,dd,_,hu,RA,hdo,_⟩:=T.info ht
   cases dd with
   |
    struct fs=>
    have hfs:fs.toList= []:=by
     simp only[bF] at hdo
     cases hl:fs.toList with
     |nil=>rfl
     |cons f l=>rw[hl] at hdo;simp[aX] at hdo
    unfold DataW.trod at h ⊢
    rw[hu] at h ⊢
    simp only[hfs] at h ⊢
    exact h
   |slice e=>simp[bF,Ty.same] at hdo
   |array n e=>simp[bF] at hdo
   |map k e=>simp[bF,Ty.same] at hdo
   |_=>simp[bF,Ty.same] at hdo
  |aK k=>simp[Ty.bQ] at hp
  |fns n=>simp[Ty.bQ] at hp
  |map k v=>simp[Ty.bQ] at hp
theorem kR:∀(ts:List TypeId)(vs:List Value)(ds:List (DataW H))(ps:List MemPlace),(∀t∈ts,∃td,G.at t=some td∧td.ty.bQ=true)→DataW.TrodAll enc P W 0 (fun _=>true) true ts vs ds ps→DataW.TrodAll enc P W' 0 (fun b=>decide (b<W.heap.size)) true ts vs ds ps
 |
  [],vs,ds,ps,_,h=>by
  cases vs<;>cases ds<;>first|exact h|exact h.elim
 |
  t::ts,vs,ds,ps,ht,h=>by
  cases vs with
  |nil=>cases ds<;>exact h.elim
  |
   cons v vs=>
   cases ds with
   |nil=>exact h.elim
   |
    cons d ds=>
    obtain⟨p,q,⟨fuel,h1⟩,h2,h3⟩:=h
    obtain⟨td,Sq,hpd⟩:=ht t (by simp)
    exact⟨p,q,⟨fuel,pI T hs fuel t td _ _ Sq hpd h1⟩,kR ts vs ds q (fun t' ht'=>ht t' (by simp[ht'])) h2,h3⟩
end
theorem HW.bare{gl:Ctx}{W:World}(n:Nat)(hg:BH gl (l4 W) W):HW gl (l4 W) W (aD (List.replicate n none) []):=by
 have no:∀(b:Nat)(k:aC),(aD (List.replicate n (none:Option aC)) [])[b]? ≠some (some k):=by
  intro b k h
  simp only[aD,List.getElem?_replicate] at h
  split at h<;>cases h
 exact⟨fun b k h=>absurd h (no b k),fun b _ k _ _ h=>absurd h (no b k),fun b k _ h=>absurd h (no b k),fun g hg=>hg,hg,fun b k _ h=>absurd h (no b k)⟩
theorem Cg{H:Type}{enc:TypeId×Value→H}{P:Program}{G:bu}(T:aN P G){gl:Ctx}{f:FuncId}{fn:Func}{s:ChangeSpec}{W:World}{args:Array Value}{ds gs:List (DataW H)}{before:List MemPlace}{avs:List AV}{m:Nat}{bt:TypeId}
 (hc:Fc P gl f avs (aD (List.replicate m none) []) (.ret (.val .bool true)) (bZ m [])) (hv:gu (l4 W) W avs args.toList) (hg:BH gl (l4 W) W)
 (hW:DataW.Whole enc P fn.params.toList s.vars false W args.toList ds gs before) (hvars:s.vars= []) (hpt:∀t∈fn.params.toList,∃td,G.at t=some td∧td.ty.bQ=true)
 (hrt:fn.resultTypes= #[bt]) (SB:P.underlying bt=some .bool) (hspec:∀gs,gs= []→(s.fn H (ds++gs)).results= [.lit (.bool true)]∧(s.fn H (ds++gs)).args=ds∧(s.fn H (ds++gs)).vars= []):
 Calls P f args W fun e W'=>∃v,e= .returned v∧s.post enc P fn false true false false W args v W':=by
 have RY:=hc.2 (l4 W) W args.toList hv (HW.bare m hg)
 have e0:args.toList.toArray=args:=by simp
 rw[e0] at RY
 refine RY.mono ?_
 rintro e W' ⟨E',hR,_,hX⟩
 cases e with
 |panicked ch=>exact hR.elim
 |outgrown=>exact hR.elim
 |
  returned v=>
  have RE:=RV.cP hR
  subst RE
  refine⟨_,rfl,?_⟩
  have noO:∀g,¬Own (aD (List.replicate m (none:Option aC)) []) (l4 W) g:=by
   rintro g ⟨b,k,hb,_⟩
   simp only[aD,List.getElem?_replicate] at hb
   split at hb<;>cases hb
  have stay:∀b,b<W.heap.size→W'.heap[b]? =W.heap[b]? :=fun b hb=>hX.kept b hb (noO b)
  have hW0:=hW
  obtain⟨p,q,hA,hV,hpq,hfz,hnd⟩:=hW
  rw[hvars] at hV
  have hgs:gs= []∧q= []:=by
   cases gs with
   |nil=>exact⟨rfl,hV⟩
   |cons _ _=>exact hV.elim
  obtain⟨hgs,hq⟩:=hgs
  obtain⟨s1,s2,s3⟩:=hspec gs hgs
  refine⟨ds,gs,before,[],p,[],hW0,?_,?_,?_,?_,fun h=>by cases h⟩
  ·rw[s1,hrt]
   refine⟨[],[],⟨1,?_⟩,rfl,rfl⟩
   simp[DataW.trod,SB,Value.cells]
  ·rw[s2];exact kR T stay _ _ _ _ hpt hA
  ·rw[s3,hvars];rfl
  ·refine⟨hX.os,hX.output,fun i hi=>?_⟩
   rw[stay i hi]
   cases hh:W.heap[i]? with
   |none=>rfl
   |
    some o=>
    cases o with
    |cells c t fr=>exact⟨rfl,rfl,rfl,fun _ _=>rfl⟩
    |map es clock=>exact Or.inr ⟨rfl,rfl⟩
    |_=>rfl
end Go.Ax
namespace Go.Ax
end Go.Ax
