/- The machines: what it means to be walked or run, part 3. No condition. -/
import Derived.Test.YtgdcjlldafmomaaGreatA2
import Derived.Laws.IdiomRangeMap
namespace Go.Ax
structure CR where
 r:AV
 ps:List (Nat×Nat)
 ns:List (Nat×Nat)
 out:List (Nat×aN)
 m:Nat
 kr:Bool:=false
 ks:List (Nat×Nat):=[]
 us:List Nat:=[]
def CR.al(cr:CR):List (Nat×Nat):=match cr.ks with
 |[]=>cr.ps
 |k::ks=>cr.ps++k::ks
theorem CR.sub{cr:CR}{x:Nat×Nat}(h:x∈cr.ps):x∈cr.al:=by
 unfold CR.al
 split
 ·exact h
 ·exact List.mem_append.2 (Or.inl h)
theorem CR.Nu(cr:CR):cr.ps.Sublist cr.al:=by
 unfold CR.al
 split
 ·exact List.Sublist.refl _
 ·exact List.sublist_append_left _ _
def CR.fin(cr:CR):uf:=if cr.kr then .kr cr.r else .ret cr.r
def Ty.uY:Ty→Bool
 | .slice _ t=>t.flat
 | .map k v=>k.flat&&v.flat
 |_=>false
theorem gQ.flat{w w':World}{S S':Nat→Prop}{t:Ty}(hf:t.flat=true){v:Value}{x:t.den}(h:gQ t.isAgg (Rel w S t) v x):gQ t.isAgg (Rel w' S' t) v x:=gQ.mono (fun _ _=>Rel.flat hf) h
theorem de.flat{w:World}{S S':Nat→Prop}{e:TypeId}{t:Ty}{v:Value}{og:Option Nat}{x:t.den}(hf:t.uY=true)(h:de w S e t v og x):de w S' e t v og x:=by
 cases t with
 |
  slice bs t=>
  obtain⟨h1,h2,h3,a,cap,h4,h5,h6⟩:=h
  refine⟨h1,h2,h3,a,cap,h4,h5,h6.imp id ?_⟩
  rintro⟨g,c,k1,k2,k3,k4,k5,k6⟩
  exact⟨g,c,k1,k2,k3,k4,k5,aT.mono (fun _ _=>Rel.flat hf) k6⟩
 |
  map k u=>
  simp only[Ty.uY,aV] at hf
  obtain⟨es,h0,h1,h2,g,en,clock,h3,h4,h5,h6,h7⟩:=h
  exact⟨es,h0,h1,h2,g,en,clock,h3,h4,h5,jS.mono (fun _ _=>gQ.flat hf.1) (fun _ _=>gQ.flat hf.2) h6,h7⟩
 |_=>exact h.elim
def aN.eT:aN→Bool
 | .var _ v=>v.eT
 | .tv _ _ v=>v.eT
 | .bZ _ _ t _ _ v=>t.flat&&v.eT
 | .row _ _ t _=>t.flat
 | .map k v _=>k.flat&&v.flat
 | .lP _ _ _ _=>false
 | .fY _ _ _ _ _ _ _=>false
 | .ig _ _=>false
 | .cL _ _ t _ _ f=>t.uY&&f.isNone
 | .pmap k t _ _ f=>k.flat&&t.uY&&f.isNone
 |_=>true
theorem RM.flat{E E':Env}{w w':World}{k v:Ty}(hk:k.flat=true)(hv:v.flat=true):∀{l:List MapEntry}{xs:List (k.den×v.den)},RM E w k v l xs→RM E' w' k v l xs
 |[],[],_=>trivial
 |[],_::_,h=>h.elim
 |_::_,[],h=>h.elim
 |_::_,_::_,h=>⟨cF.flat (a:=.val k _) hk h.1,cF.flat (a:=.val v _) hv h.2.1,RM.flat hk hv h.2.2⟩
theorem RB.flat{E:Env}{w:World}{S:Nat→Prop}{b:Nat}{k:aN}(hf:k.eT=true)(h:RB E w b k):RB {E with S:=S} w b k:=by
 cases k with
 |
  var t v=>
  obtain⟨h1,h2,g,c,e,h3,h4,h5⟩:=h
  exact⟨h1,h2,g,c,e,h3,h4,RC.flat hf h5⟩
 |
  row e bs t xs=>
  obtain⟨h1,h2,h3,h4,a,cap,h5,h6,h7⟩:=h
  refine⟨h1,h2,h3,h4,a,cap,h5,h6,h7.imp id ?_⟩
  rintro⟨g,c,h7,h8,h9,h10,h11,h12⟩
  exact⟨g,c,h7,h8,h9,h10,h11,aT.mono (fun _ _=>Rel.flat hf) h12⟩
 |
  map kt vt es=>
  simp only[aN.eT,aV] at hf
  obtain⟨h1,h1',g,en,clock,h2,h3,h4,h5⟩:=h
  exact⟨h1,h1',g,en,clock,h2,h3,RM.flat hf.1 hf.2 h4,h5⟩
 |lP k v rest cur=>cases hf
 |fY kt t es e2' kx v pr=>cases hf
 |ig kt l=>cases hf
 |
  cL e bs t xs e2' f=>
  simp only[aN.eT,aV,Option.isNone_iff_eq_none] at hf
  obtain⟨hf,hn⟩:=hf
  subst hn
  obtain⟨h1,h2,h3,h4,h5,g,cap,c',og,q1,q2,q3,q4,q5,q6,q7,q8⟩:=h
  refine⟨h1,h2,h3,h4,h5,g,cap,c',og,q1,q2,q3,q4,q5,q6,q7,fun i x hx=>?_⟩
  obtain⟨u,r1,r2,r3⟩:=q8 i x hx
  exact⟨u,r1,fun v hv=>(by cases hv),fun hv=>de.flat hf (r3 (fun v hv=>by cases hv))⟩
 |
  pmap kt t es e2' f=>
  simp only[aN.eT,aV,Option.isNone_iff_eq_none] at hf
  obtain⟨⟨hk,hf⟩,hn⟩:=hf
  subst hn
  obtain⟨h1,h2,h3,g,en,clock,og,q1,q2,q3,q4,q5,q6,q7,q8⟩:=h
  refine⟨h1,h2,h3,g,en,clock,og,q1,q2,q3,q4,q5,q6,fun i x hx=>?_,fun kx v=>⟨fun hf=>(by cases hf),fun hf=>(by cases hf)⟩⟩
  obtain⟨m,r1,r2,r3,r4⟩:=q7 i x hx
  exact⟨m,r1,cF.flat (a:=.val kt _) hk r2,fun v pr hv=>(by cases hv),fun hv=>de.flat hf (r4 (fun v pr hv=>by cases hv))⟩
 |lp l r=>exact h
 |sS=>exact h
 |
  tv g t v=>
  obtain⟨h0,h1,h2,c,e,h4,h5⟩:=h
  exact⟨h0,h1,h2,c,e,h4,RC.flat hf h5⟩
 |
  bZ e bs t xs i v=>
  simp only[aN.eT,aV] at hf
  obtain⟨h1,h2,h3,h4,h5,h6,g,cap,c,q1,q2,q3,q4,q5,q6,q7,q8,q9⟩:=h
  exact⟨h1,h2,h3,h4,h5,h6,g,cap,c,q1,q2,q3,q4,q5,q6,aT.mono (fun _ _=>Rel.flat hf.1) q7,RC.flat hf.2 q8,aT.mono (fun _ _=>Rel.flat hf.1) q9⟩
def ET(ψ:List (Nat×Nat))(out:List (Nat×aN))(i:Nat):Option aN:=
 match Ph out i with
 |some k=>k.dY ψ
 |none=>none
def lQ(ψ:List (Nat×Nat))(out:List (Nat×aN)):List (Nat×Nat)→List (Nat×Option aN)
 |[]=>[]
 |(i,b)::l=>(b,ET ψ out i)::lQ ψ out l
theorem yN{ψ:List (Nat×Nat)}{out:List (Nat×aN)}:∀{l:List (Nat×Nat)}{c:Nat}{k:aN},(c,some k)∈lQ ψ out l→∃i,(i,c)∈l∧ET ψ out i=some k
 |[],c,k,h=>by cases h
 |
  (i,b)::l,c,k,h=>by
  unfold lQ at h
  rcases List.mem_cons.1 h with h|h
  ·simp only[ff] at h
   exact⟨i,by rw[h.1];exact cK ..,h.2.symm⟩
  ·obtain⟨j,h1,h2⟩:=yN h
   exact⟨j,dr _ h1,h2⟩
theorem nQ{ψ:List (Nat×Nat)}{out:List (Nat×aN)}:∀{l:List (Nat×Nat)}{i b:Nat},(i,b)∈l→b∈wrote (lQ ψ out l)
 |
  (j,c)::l,i,b,h=>by
  unfold lQ
  simp only[wrote,eA]
  cases h with
  |head=>exact Or.inl rfl
  |tail _ h=>exact Or.inr (nQ h)
def T3:List Nat→List Nat→Bool
 |[],_=>true
 |x::l,m=>cT x m&&T3 l m
def yO(n:Nat):List Nat→Bool
 |[]=>true
 |x::l=>Nat.blt x n&&yO n l
theorem o9{n:Nat}:∀{l:List Nat},yO n l=true→∀x∈l,x<n
 |[],_,x,hx=>by cases hx
 |
  y::l,h,x,hx=>by
  simp only[yO,aV] at h
  cases hx with
  |head=>have:=h.1;simp[Nat.blt] at this;omega
  |tail _ hx=>exact o9 h.2 x hx
def Ch:List Nat→List Nat→Bool
 |[],_=>true
 |x::l,m=> !cT x m&&Ch l m
theorem yP:∀{l m:List Nat},Ch l m=true→∀x∈l,x∉m
 |[],_,_,x,hx=>by cases hx
 |
  y::l,m,h,x,hx=>by
  simp only[Ch,aV,iM] at h
  cases hx with
  |head=>exact eJ h.1
  |tail _ hx=>exact yP h.2 x hx
def pa:List (Nat×aN)→Bool
 |[]=>true
 |(_,k)::l=>k.eT&&pa l
theorem tq:∀{l:List (Nat×aN)},pa l=true→∀i k,(i,k)∈l→k.eT=true
 |[],_,i,k,h=>by cases h
 |
  (j,k')::l,hf,i,k,h=>by
  simp only[pa,aV] at hf
  cases h with
  |head=>exact hf.1
  |tail _ h=>exact tq hf.2 i k h
def xi(cr:CR)(lent:List Nat):Bool:=
 kq (cr.al.map (·.1))&&kq ((cr.al++cr.ns).map (·.2))&&yO 16 (cr.al.map (·.1))&&kq (cr.out.map (·.1))&&yO cr.m (cr.out.map (·.1))&&Ch lent (cr.ps.map (·.2))&&kq ((cr.al++cr.ns).map (·.1))&&
  (lent.isEmpty||(cr.r.eT&&pa cr.out))
def Dy:AV→Option (Fn×List AV×List AV)
 | .func fn fs cs=>if MC fn fs cs&&fs.atoms&&cs.atoms then some (fn,fs.toList,cs.toList) else none
 | .dc f t x=>some (.func f,[.val t x],[])
 |_=>none
theorem IG{E:Env}{w:World}{a:AV}{v:Value}{fn:Fn}{fl cl:List AV}(h:Dy a=some (fn,fl,cl))(hr:RV E w a v):∃f c,v= .func fn f c∧kN E w fl f.toList∧kN E w cl c.toList∧((∃g,fn= .func g)∨(∃l,fn= .yield l)∧fl= []∧cl= []):=by
 cases a with
 |
  func fn' fs cs=>
  simp only[Dy] at h
  split at h
  ·rename_i hc
   cases h
   simp only[aV] at hc
   obtain⟨f',c',e,r1,r2,_,_⟩:=RV.atom rfl hr
   simp at e
   refine⟨f',c',e,kN.atoms hc.1.2 r1,kN.atoms hc.2 r2,?_⟩
   cases fn with
   |func g=>exact Or.inl ⟨g,rfl⟩
   |
    yield l=>
    cases fs<;>simp[MC] at hc
    cases cs<;>simp at hc
    exact Or.inr ⟨⟨l,rfl⟩,rfl,rfl⟩
   |_=>simp[MC] at hc
  ·cases h
 |
  dc f t x=>
  simp only[Dy,cE,ff] at h
  obtain⟨rfl,rfl,rfl⟩:=h
  obtain⟨ha,cs,e,acf⟩:=RV.atom rfl hr
  simp at e
  exact⟨#[.agg cs], #[],e,⟨RV.dO (Or.inl ⟨ha,cs,rfl,acf⟩),trivial⟩,trivial,Or.inl ⟨f,rfl⟩⟩
 |_=>simp[Dy] at h
def O6(n:String):List MS→Option MS
 |[]=>none
 |m::l=>if m.name==n then some m else O6 n l
theorem EU{n:String}:∀{l:List MS}{m:MS},O6 n l=some m→m∈l∧m.name=n
 |[],_,h=>by cases h
 |
  x::l,m,h=>by
  simp only[O6] at h
  split at h
  ·rename_i e;cases h;exact⟨cK ..,by simpa using e⟩
  ·obtain⟨h1,h2⟩:=EU h;exact⟨dr _ h1,h2⟩
def Ci(G:bT)(hb:Nat→Option aN)(name:String):AV→Option (FuncId×AV×Ty)
 |
  .iface t v=>match G.at t with
  |
   some td=>match O6 name td.ms with
   |
    some m=>match m.st with
    |none=>if v.plain then some (m.f,v,td.ty) else none
    |
     some (s,i,ft)=>match gH G hb s i v,G.at ft with
     |
      some a,some tf=>match sW G hb ft a with
      |some x=>if x.plain then some (m.f,x,tf.ty) else none
      |none=>none
     |_,_=>none
   |none=>none
  |none=>none
 |_=>none
def nR(P:Program)(G:bT)(gl:Ctx)(cr:CR)(ev:Operand→AV)(hb:Nat→Option aN)(c:Call):Option (fj×List Prop):=
 match c.callee with
 |
  .value cf=>match Dy (ev cf) with
  |
   some (fn,fl,cl)=>
   match lO (swp cr.al) hb (fl.map (fun x=>(x,Ty.unit))++(c.args.toList.zip c.argTypes.toList).map (rf G ev)++cl.map (fun x=>(x,Ty.unit))),iZ (swp cr.al) hb cr.ps,cr.r.dY (cr.al++cr.ns) with
   |some (L,lent),some ins,some r'=>if Nat.beq c.args.toList.length c.argTypes.toList.length&&xi cr lent then
    some (⟨r',lQ (cr.al++cr.ns) cr.out (cr.ps++cr.ns),cr.ns.map (·.2),[]⟩,[Eo P gl fn L (aO (List.replicate cr.m none) ins) cr.fin (dk cr.m cr.out)]) else none
   |_,_,_=>none
  |_=>none
 |
  .invoke rv name=>match Ci G hb name (ev rv) with
  |
   some (f,x,xt)=>
   match lO (swp cr.al) hb ((x,xt)::(c.args.toList.zip c.argTypes.toList).map (rf G ev)),iZ (swp cr.al) hb cr.ps,cr.r.dY (cr.al++cr.ns) with
   |some (L,lent),some ins,some r'=>if Nat.beq c.args.toList.length c.argTypes.toList.length&&xi cr lent then
    some (⟨r',lQ (cr.al++cr.ns) cr.out (cr.ps++cr.ns),cr.ns.map (·.2),[]⟩,[Eo P gl (.func f) L (aO (List.replicate cr.m none) ins) cr.fin (dk cr.m cr.out)]) else none
   |_,_,_=>none
  |_=>none
 |_=>none
def Env.to(E:Env)(ps:List (Nat×Nat))(S:Nat→Prop):Env where
 g:=fun i=>match kR ps i with|some b=>E.g b|none=>none
 sv:=fun i=>match kR ps i with|some b=>E.sv b|none=>undef
 bt:=fun i=>match kR ps i with|some b=>E.bt b|none=>.unit
 S:=S
 P:=fun i=>match kR ps i with|some b=>E.P b|none=>fun _=>False
def Env.back(E E1:Env)(sns sall:List (Nat×Nat))(S:Nat→Prop):Env where
 g:=fun b=>match kR sns b with|some i=>E1.g i|none=>E.g b
 sv:=fun b=>match kR sns b with|some i=>E1.sv i|none=>E.sv b
 bt:=fun b=>match kR sns b with|some i=>E1.bt i|none=>E.bt b
 S:=S
 P:=fun b=>match kR sall b with|some i=>E1.P i|none=>E.P b
theorem tu{l:List (Nat×Nat)}{a:Nat}(h:a∉l.map (·.1)):kR l a=none:=by
 cases hl:kR l a with
 |none=>rfl
 |some b=>exact absurd (List.mem_map.2 ⟨(a,b),pF hl,rfl⟩) h
theorem Lh{l m:List (Nat×Nat)}{a b:Nat}(h:kR (l++m) a=some b):kR l a=some b∨(a∉l.map (·.1)∧kR m a=some b):=by
 induction l with
 |nil=>exact Or.inr ⟨by simp,h⟩
 |
  cons x l ih=>
  obtain⟨x,y⟩:=x
  simp only[List.cons_append,kR] at h ⊢
  split at h
  ·rename_i e;rw[aA e];exact Or.inl h
  ·rename_i e
   rw[aC e]
   rcases ih h with h1|⟨h1,h2⟩
   ·exact Or.inl h1
   ·refine Or.inr ⟨?_,h2⟩
    simp only[dp,eA,not_or]
    exact⟨fun e'=>e (by rw[e'];simp),h1⟩
section
variable{P:Program} {gl:Ctx} {σ:St} {E:Env} {a:Act} {w:World} {hb:Nat→Option aN} {cr:CR} {lent:List Nat}
theorem sa(h:cd gl σ E a w)(hB:HB hb σ.hp)(hlent:∀b∈lent,∃k,hb b=some k){ins:List (Nat×Option aN)}(jg:iZ (swp cr.al) hb cr.ps=some ins)(fV:xi cr lent=true):
 (∀b c,kR (swp cr.al) b=some c→(E.to cr.al (E.cU lent).S).g c=E.g b∧(E.to cr.al (E.cU lent).S).sv c=E.sv b∧(E.to cr.al (E.cU lent).S).bt c=E.bt b)∧
 HW gl (E.to cr.al (E.cU lent).S) w (aO (List.replicate cr.m none) ins):=by
 simp only[xi,aV] at fV
 obtain⟨⟨⟨⟨⟨⟨⟨o1,o2⟩,o3⟩,o4⟩,o5⟩,o6⟩,o7⟩,o8⟩:=fV
 have n1:=fN o1
 have n2:=fN o2
 rw[np] at n2
 have n2':=(List.nodup_append.1 n2).1
 have at0:∀b c,kR (swp cr.al) b=some c→(E.to cr.al (E.cU lent).S).g c=E.g b∧(E.to cr.al (E.cU lent).S).sv c=E.sv b∧(E.to cr.al (E.cU lent).S).bt c=E.bt b:=by
  intro b c hbc
  have:=dX n1 (jo.1 (pF hbc))
  simp[Env.to,this]
 refine⟨at0,?_⟩
 have kp:bM E w (E.to cr.al (E.cU lent).S) w:=⟨fun _ _=>rfl,fun g hg=>Or.inl hg⟩
 have rep:∀(b:Nat)(k:aN),(List.replicate cr.m (none:Option aN))[b]? ≠some (some k):=by
  intro b k hb
  rw[jX] at hb
  split at hb<;>cases hb
 have get:∀(i:Nat)(k:aN),(aO (List.replicate cr.m none) ins)[i]? =some (some k)→∃b k0,(i,b)∈cr.ps∧hb b=some k0∧k0.dY (swp cr.al)=some k:=by
  intro i k hk
  rcases dS hk with h1|⟨_,h2⟩
  ·exact oq jg h1
  ·exact absurd h2 (rep i k)
 have gat:∀i b,(i,b)∈cr.ps→(E.to cr.al (E.cU lent).S).g i=E.g b∧(E.to cr.al (E.cU lent).S).sv i=E.sv b∧(E.to cr.al (E.cU lent).S).bt i=E.bt b:=by
  intro i b hib
  have:=dX n1 (CR.sub hib)
  simp[Env.to,this]
 have hasAt:∀i b,(i,b)∈cr.ps→∀g,(E.to cr.al (E.cU lent).S).has i g↔E.has b g:=by
  intro i b hib g
  have:=dX n1 (CR.sub hib)
  simp[Env.has,Env.to,this]
 refine⟨?_,?_,?_,?_,?_,?_⟩
 ·intro i k hk
  obtain⟨b,k0,h1,h2,h3⟩:=get i k hk
  exact RB.dY ⟨at0,kp.S⟩ (gat i b h1) (fun _ g hp=>by have:=dX n1 (CR.sub h1);simpa[Env.to,this] using hp) h3 (h.hw.cH b k0 (hB b k0 h2))
 ·intro i i' k k' g hi hi' g1 g2
  obtain⟨b,k0,h1,h2,h3⟩:=get i k hi
  obtain⟨b',k0',h1',h2',h3'⟩:=get i' k' hi'
  have e:=h.hw.dN b b' k0 k0' g (hB _ _ h2) (hB _ _ h2') ((hasAt i b h1 g).1 g1) ((hasAt i' b' h1' g).1 g2)
  subst e
  have q1:=dX (l:=swp cr.al) (by simpa[swp,jC,oK] using n2') (jo.2 (CR.sub h1))
  have q2:=dX (l:=swp cr.al) (by simpa[swp,jC,oK] using n2') (jo.2 (CR.sub h1'))
  rw[q1] at q2;cases q2;rfl
 ·intro i k g hi g1 hs
  obtain⟨b,k0,h1,h2,h3⟩:=get i k hi
  have g1:=(hasAt i b h1 g).1 g1
  rcases hs with hs|⟨c,hc,hg⟩
  ·exact h.hw.dq b k0 g (hB _ _ h2) g1 hs
  ·obtain⟨k1,hk1⟩:=hlent c hc
   have e:=h.hw.dN c b k1 k0 g (hB _ _ hk1) (hB _ _ h2) (Or.inl hg) g1
   subst e
   exact yP o6 c hc (List.mem_map.2 ⟨(i,c),h1,rfl⟩)
 ·rintro g (hg|⟨b,hb',e⟩)
  ·exact h.hw.slt g hg
  ·obtain⟨k,hk⟩:=hlent b hb'
   exact Own.below h.hw ⟨b,k,hB b k hk,Or.inl e⟩
 ·exact h.hw.fT kp
 ·intro i k g hi g1
  obtain⟨b,k0,h1,h2,h3⟩:=get i k hi
  exact h.hw.below (hB _ _ h2) ((hasAt i b h1 g).1 (Or.inr g1))
theorem kH(h:cd gl σ E a w)(hB:HB hb σ.hp)(hlent:∀b∈lent,∃k,hb b=some k){ins:List (Nat×Option aN)}(jg:iZ (swp cr.al) hb cr.ps=some ins)(fV:xi cr lent=true)(hfr:∀b∈cr.ns.map (·.2),σ.fresh b)
 {E1:Env} {w1:World} (hW:HW gl E1 w1 (dk cr.m cr.out)) (hX:Ext gl.md (Own (aO (List.replicate cr.m none) ins) (E.to cr.al (E.cU lent).S)) (E.to cr.al (E.cU lent).S) w (Own (dk cr.m cr.out) E1) E1 w1)
 {v:Value} {r':AV} (hr':cr.r.dY (cr.al++cr.ns)=some r') (hR:RV E1 w1 cr.r v):
 ∃E',cd gl {σ with hp:=aO σ.hp (lQ (cr.al++cr.ns) cr.out (cr.ps++cr.ns))} E' a w1∧RV E' w1 r' v∧Ext gl.md (Own σ.hp E) E w (Own (aO σ.hp (lQ (cr.al++cr.ns) cr.out (cr.ps++cr.ns))) E') E' w1:=by
 have hok0:=fV
 simp only[xi,aV] at fV
 obtain⟨⟨⟨⟨⟨⟨⟨o1,o2⟩,o3⟩,o4⟩,o5⟩,o6⟩,o7⟩,o8⟩:=fV
 have n1:=fN o1
 have n2:=fN o2
 rw[np] at n2
 have n2a:=(List.nodup_append.1 n2).1
 have n2b:=(List.nodup_append.1 n2).2.1
 have n4:=fN o4
 have nall0:((swp (cr.al++cr.ns)).map (·.1)).Nodup:=by
  simp only[swp,jC,oK]
  rw[np];exact n2
 have nall:((swp (cr.ps++cr.ns)).map (·.1)).Nodup:=
  List.Nodup.sublist (List.Sublist.map _ (List.Sublist.map _ (List.Sublist.append cr.Nu (List.Sublist.refl _)))) nall0
 have uniq:∀i j b,(i,b)∈cr.ps++cr.ns→(j,b)∈cr.ps++cr.ns→i=j:=by
  intro i j b h1 h2
  have q1:=dX nall (jo.2 h1)
  have q2:=dX nall (jo.2 h2)
  rw[q1] at q2;cases q2;rfl
 have disj:∀b,b∈cr.al.map (·.2)→b∉cr.ns.map (·.2):=fun b h1 h2=>(List.nodup_append.1 n2).2.2 b h1 b h2 rfl
 let S':Nat→Prop:=if lent.isEmpty then E1.S else E.S
 let E':Env:=E.back E1 (swp cr.ns) (swp (cr.ps++cr.ns)) S'
 have hS1:lent= []→S'=E1.S:=fun e=>by simp[S',e]
 have hS2:lent≠[]→S'=E.S:=fun e=>by
  have:lent.isEmpty=false:=by cases lent<;>simp_all
  simp[S',this]
 have inOwn:∀g,Own (aO (List.replicate cr.m none) ins) (E.to cr.al (E.cU lent).S) g→∃i b k,(i,b)∈cr.ps∧hb b=some k∧E.has b g:=by
  rintro g ⟨i,k,hik,hg⟩
  rcases dS hik with q1|⟨_,q2⟩
  ·obtain⟨b,k0,z1,z2,z3⟩:=oq jg q1
   refine⟨i,b,k0,z1,z2,?_⟩
   have:=dX n1 (CR.sub z1)
   simpa[Env.has,Env.to,this] using hg
  ·rw[jX] at q2
   split at q2<;>cases q2
 have inOwn':∀g,Own (aO (List.replicate cr.m none) ins) (E.to cr.al (E.cU lent).S) g→Own σ.hp E g:=fun g hg=>by
  obtain⟨i,b,k,_,z2,z3⟩:=inOwn g hg
  exact⟨b,k,hB b k z2,z3⟩
 have heapS:∀g,E.S g→w1.heap[g]? =w.heap[g]? :=fun g hg=>hX.kept g (h.hw.slt g hg) (fun ho=>by
  obtain⟨i,b,k,_,z2,z3⟩:=inOwn g ho
  exact h.hw.dq b k g (hB b k z2) z3 hg)
 have SS':∀g,E.S g→S' g:=fun g hg=>by
  by_cases hl:lent= []
  ·rw[hS1 hl];exact hX.sle g (Or.inl hg)
  ·rw[hS2 hl];exact hg
 have S'1:∀g,S' g→E1.S g:=fun g hg=>by
  by_cases hl:lent= []
  ·rwa [hS1 hl] at hg
  ·rw[hS2 hl] at hg;exact hX.sle g (Or.inl hg)
 have kp:bM E w E' w1:=⟨heapS,SS'⟩
 have gns:∀i b,(i,b)∈cr.ns→E'.g b=E1.g i∧E'.sv b=E1.sv i∧E'.bt b=E1.bt i:=fun i b hm=>by
  have:=dX (l:=swp cr.ns) (by simpa[swp,jC,oK] using n2b) (jo.2 hm)
  simp[E',Env.back,this]
 have gold:∀b,b∉cr.ns.map (·.2)→E'.g b=E.g b∧E'.sv b=E.sv b∧E'.bt b=E.bt b:=fun b hm=>by
  have:kR (swp cr.ns) b=none:=tu (by simpa[swp,jC,oK] using hm)
  simp[E',Env.back,this]
 have gps:∀i b,(i,b)∈cr.al→E'.g b=E1.g i∧E'.sv b=E1.sv i∧E'.bt b=E1.bt i:=fun i b hm=>by
  have hi:i<16:=o9 o3 i (List.mem_map.2 ⟨(i,b),hm,rfl⟩)
  obtain⟨p1,p2,p3⟩:=hX.BW i hi
  obtain⟨q1,q2,q3⟩:=gold b (disj b (List.mem_map.2 ⟨(i,b),hm,rfl⟩))
  have:=dX n1 hm
  rw[q1,q2,q3,p1,p2,p3]
  simp[Env.to,this]
 have gall0:∀i b,(i,b)∈cr.al++cr.ns→E'.g b=E1.g i∧E'.sv b=E1.sv i∧E'.bt b=E1.bt i:=fun i b hm=>(List.mem_append.1 hm).elim (gps i b) (gns i b)
 have gall:∀i b,(i,b)∈cr.ps++cr.ns→E'.g b=E1.g i∧E'.sv b=E1.sv i∧E'.bt b=E1.bt i:=fun i b hm=>gall0 i b ((List.mem_append.1 hm).elim (fun h=>List.mem_append.2 (Or.inl (CR.sub h))) (fun h=>List.mem_append.2 (Or.inr h)))
 have hasAll:∀i b,(i,b)∈cr.ps++cr.ns→∀g,E'.has b g↔E1.has i g:=fun i b hm g=>by
  have:=dX nall (jo.2 hm)
  unfold Env.has
  rw[(gall i b hm).1]
  simp[E',Env.back,this]
 have hasOld:∀b,b∉cr.ns.map (·.2)→b∉cr.ps.map (·.2)→∀g,E'.has b g↔E.has b g:=fun b h1 h2 g=>by
  have:kR (swp (cr.ps++cr.ns)) b=none:=tu (by
   simp only[swp,jC,oK,np,gA,not_or]
   exact⟨h2,h1⟩)
  unfold Env.has
  rw[(gold b h1).1]
  simp[E',Env.back,this]
 have rn:Rn (cr.al++cr.ns) {E1 with S:=S'} E':=⟨fun i b hl=>gall0 i b (pF hl),fun g hg=>hg⟩
 have uY:∀i k,(i,k)∈cr.out→RB {E1 with S:=S'} w1 i k:=fun i k hm=>by
  have hlt:i<(List.replicate cr.m (none:Option aN)).length:=by rw[fO];exact o9 o5 i (List.mem_map.2 ⟨(i,k),hm,rfl⟩)
  have hb1:=hW.cH i k (yd (m:=cr.m) n4 hm hlt)
  by_cases hl:lent= []
  ·rw[hS1 hl];exact hb1
  ·have hf:pa cr.out=true:=by
    have:=o8
    simp only[ek,aV,List.isEmpty_iff] at this
    exact(this.resolve_left hl).2
   exact RB.flat (tq hf i k hm) hb1
 have outMem:∀c k,(c,some k)∈lQ (cr.al++cr.ns) cr.out (cr.ps++cr.ns)→∃i k0,(i,c)∈cr.ps++cr.ns∧(i,k0)∈cr.out∧k0.dY (cr.al++cr.ns)=some k:=fun c k hm=>by
  obtain⟨i,z1,z2⟩:=yN hm
  unfold ET at z2
  split at z2
  ·rename_i k0 hk0;exact⟨i,k0,z1,Dg hk0,z2⟩
  ·cases z2
 have outAt1:∀i k,(i,k)∈cr.out→(dk cr.m cr.out)[i]? =some (some k):=fun i k hm=>
  yd (m:=cr.m) n4 hm (by rw[fO];exact o9 o5 i (List.mem_map.2 ⟨(i,k),hm,rfl⟩))
 have oldNot:∀c,c∉wrote (lQ (cr.al++cr.ns) cr.out (cr.ps++cr.ns))→c∉cr.ns.map (·.2)∧c∉cr.ps.map (·.2):=fun c hc=>by
  constructor
  ·intro hm
   obtain⟨⟨i,b⟩,z1,z2⟩:=List.mem_map.1 hm
   simp only at z2;subst z2
   exact hc (nQ (List.mem_append.2 (Or.inr z1)))
  ·intro hm
   obtain⟨⟨i,b⟩,z1,z2⟩:=List.mem_map.1 hm
   simp only at z2;subst z2
   exact hc (nQ (List.mem_append.2 (Or.inl z1)))
 have notIn:∀c k g,σ.hp[c]? =some (some k)→c∉cr.ps.map (·.2)→E.has c g→¬Own (aO (List.replicate cr.m none) ins) (E.to cr.al (E.cU lent).S) g:=fun c k g hc hn hg ho=>by
  obtain⟨i,b,k',z1,z2,z3⟩:=inOwn g ho
  have e:=h.hw.dN c b k k' g hc (hB b k' z2) hg z3
  subst e
  exact hn (List.mem_map.2 ⟨(i,c),z1,rfl⟩)
 have on':∀ids:List Nat,(∀b∈ids,b∈σ.ids)→E.on E' ids:=fun ids ack b hb'=>gold b (fun hm=>(hfr b hm).1 (ack b hb'))
 have hwn:HW gl E' w1 (aO σ.hp (lQ (cr.al++cr.ns) cr.out (cr.ps++cr.ns))):=by
  refine⟨?_,?_,?_,?_,h.hw.fT kp,?_⟩
  ·intro c k hc
   rcases dS hc with h1|⟨h1,h2⟩
   ·obtain⟨i,k0,z1,z2,z3⟩:=outMem c k h1
    exact RB.dY rn (gall i c z1) (fun _ g hp=>by have:=dX nall (jo.2 z1);simpa[E',Env.back,this] using hp) z3 (uY i k0 z2)
   ·obtain⟨q1,q2⟩:=oldNot c h1
    refine RB.mono kp ?_ ?_ (fun _ g hp=>by
     have:kR (swp (cr.ps++cr.ns)) c=none:=tu (by
      simp only[swp,jC,oK,np,gA,not_or]
      exact⟨q2,q1⟩)
     simpa[E',Env.back,this] using hp) (h.hw.cH c k h2)
    ·intro b hb'
     rcases List.mem_cons.1 hb' with e|hb'
     ·rw[e];exact gold c q1
     ·exact gold b (fun hm=>(hfr b hm).1 (St.wH h2 b hb'))
    ·intro g hg
     exact hX.kept g (Own.below h.hw ⟨c,k,h2,hg⟩) (notIn c k g h2 q2 hg)
  ·intro c c' k k' g hc hc' g1 g2
   rcases dS hc with h1|⟨h1,h2⟩<;>rcases dS hc' with h1'|⟨h1',h2'⟩
   ·obtain⟨i,k0,z1,z2,z3⟩:=outMem c k h1
    obtain⟨i',k0',z1',z2',z3'⟩:=outMem c' k' h1'
    have e:=hW.dN i i' k0 k0' g (outAt1 i k0 z2) (outAt1 i' k0' z2') ((hasAll i c z1 g).1 g1) ((hasAll i' c' z1' g).1 g2)
    subst e
    have o7':((cr.ps++cr.ns).map (·.1)).Nodup:=List.Nodup.sublist (List.Sublist.map _ (List.Sublist.append cr.Nu (List.Sublist.refl _))) (fN o7)
    have q1:=dX o7' z1
    have q2:=dX o7' z1'
    rw[q1] at q2;cases q2;rfl
   ·obtain⟨i,k0,z1,z2,z3⟩:=outMem c k h1
    obtain⟨q1,q2⟩:=oldNot c' h1'
    have g1:=(hasAll i c z1 g).1 g1
    have g2:=(hasOld c' q1 q2 g).1 g2
    rcases hX.own g ⟨i,k0,outAt1 i k0 z2,g1⟩ with y|y
    ·exact absurd y (notIn c' k' g h2' q2 g2)
    ·have:=Own.below h.hw ⟨c',k',h2',g2⟩;omega
   ·obtain⟨i,k0,z1,z2,z3⟩:=outMem c' k' h1'
    obtain⟨q1,q2⟩:=oldNot c h1
    have g2:=(hasAll i c' z1 g).1 g2
    have g1:=(hasOld c q1 q2 g).1 g1
    rcases hX.own g ⟨i,k0,outAt1 i k0 z2,g2⟩ with y|y
    ·exact absurd y (notIn c k g h2 q2 g1)
    ·have:=Own.below h.hw ⟨c,k,h2,g1⟩;omega
   ·exact h.hw.dN c c' k k' g h2 h2' ((hasOld c (oldNot c h1).1 (oldNot c h1).2 g).1 g1) ((hasOld c' (oldNot c' h1').1 (oldNot c' h1').2 g).1 g2)
  ·intro c k g hc g1 hs
   rcases dS hc with h1|⟨h1,h2⟩
   ·obtain⟨i,k0,z1,z2,z3⟩:=outMem c k h1
    exact hW.dq i k0 g (outAt1 i k0 z2) ((hasAll i c z1 g).1 g1) (S'1 g hs)
   ·obtain⟨q1,q2⟩:=oldNot c h1
    have g1:=(hasOld c q1 q2 g).1 g1
    by_cases hl:lent= []
    ·have hs':E1.S g:=S'1 g hs
     rcases hX.lG g hs' with y|y|y
     ·rcases y with y|⟨b,hb',_⟩
      ·exact h.hw.dq c k g h2 g1 y
      ·rw[hl] at hb';cases hb'
     ·exact notIn c k g h2 q2 g1 y
     ·have:=Own.below h.hw ⟨c,k,h2,g1⟩;omega
    ·have hs':E.S g:=by have:=hs;change S' g at this;rwa [hS2 hl] at this
     exact h.hw.dq c k g h2 g1 hs'
  ·intro g hg;exact hW.slt g (S'1 g hg)
  ·intro c k g hc g1
   rcases dS hc with h1|⟨h1,h2⟩
   ·obtain⟨i,k0,z1,z2,z3⟩:=outMem c k h1
    exact hW.below (outAt1 i k0 z2) ((hasAll i c z1 g).1 (Or.inr g1))
   ·obtain⟨q1,q2⟩:=oldNot c h1
    exact sR (h.hw.below h2 ((hasOld c q1 q2 g).1 (Or.inr g1))) hX.size
 refine⟨E',h.carry kp (on' _ (fun b hb'=>hb')) hwn,?_,hX.os,hX.tape,hX.output,hX.size,?_,SS',?_,?_,?_⟩
 ·have hR':RV {E1 with S:=S'} w1 cr.r v:=by
   by_cases hl:lent= []
   ·rw[hS1 hl];exact hR
   ·have hf:cr.r.eT=true:=by
     have:=o8
     simp only[ek,aV,List.isEmpty_iff] at this
     exact(this.resolve_left hl).1
    exact RV.flat hf hR
  exact RV.dY rn hr' hR'
 ·intro g hg hn
  exact hX.kept g hg (fun ho=>hn (inOwn' g ho))
 ·intro g hg
  by_cases hl:lent= []
  ·rcases hX.lG g (S'1 g hg) with y|y|y
   ·rcases y with y|⟨b,hb',_⟩
    ·exact Or.inl y
    ·rw[hl] at hb';cases hb'
   ·exact Or.inr (Or.inl (inOwn' g y))
   ·exact Or.inr (Or.inr y)
  ·have hs':E.S g:=by have:=hg;change S' g at this;rwa [hS2 hl] at this
   exact Or.inl hs'
 ·rintro g ⟨c,k,hc,hg⟩
  rcases dS hc with h1|⟨h1,h2⟩
  ·obtain⟨i,k0,z1,z2,z3⟩:=outMem c k h1
   have hg:=(hasAll i c z1 g).1 hg
   exact(hX.own g ⟨i,k0,outAt1 i k0 z2,hg⟩).imp (inOwn' g) id
  ·have hg:=(hasOld c (oldNot c h1).1 (oldNot c h1).2 g).1 hg
   exact Or.inl ⟨c,k,h2,hg⟩
 ·intro b hb'
  exact gold b (fun hm=>by have:=(hfr b hm).2.2;omega)
end
theorem EV{P:Program}{G:bT}(T:bB P G){gl:Ctx}{E:Env}{w:World}{hp:List (Option aN)}(hw:HW gl E w hp){hb:Nat→Option aN}(hB:HB hb hp){name:String}{a x:AV}{xt:Ty}{f:FuncId}{v:Value}(h:Ci G hb name a=some (f,x,xt))(hr:RV E w a v):
 ∃r,RV E w x r∧∀args,(callMethod v name args).run P w=(callFunc f (#[r]++args)).run P w:=by
 unfold Ci at h
 split at h
 ·rename_i t u
  split at h
  ·rename_i td htd
   split at h
   ·rename_i m hm
    obtain⟨hm1,hm2⟩:=EU hm
    obtain⟨ii,r,f',pr,hi,hr1,hr2,hr3,hr4⟩:=T.Tf htd hm1
    subst hr3
    rw[hm2] at hr1
    obtain⟨y,e,hy⟩:=RV.atom rfl hr
    simp at e
    subst e
    have hy0:cF E w u y:=by
     rcases hy with⟨h1,cs,e,h2⟩|⟨h1,h2⟩
     ·exact Or.inl ⟨h1,cs,e,h2⟩
     ·exact Or.inr ⟨h1,h2⟩
    have hsz:∃n,P.types.size+Made.depth=n+1:=by
     refine⟨P.types.size+Made.depth -1,?_⟩
     have:0<P.types.size+Made.depth:=by
      have:0<Made.depth:=by decide
      omega
     omega
    obtain⟨n,hn⟩:=hsz
    split at h
    ·rename_i hst
     rw[hst] at hr4
     split at h
     ·cases h
      refine⟨y,RV.dO hy0,fun args=>?_⟩
      have hpath:r.path= #[]:=by
       cases hp:r.path.toList with
       |nil=>apply fw;simpa using hp
       |cons _ _=>rw[hp] at hr4;simp[nO] at hr4
      obtain⟨i',d,_,hd,_⟩:=T.info htd
      rw[hpath] at hr4
      simp only[nO,hd] at hr4
      have hrec:(receiverAt t (.val y) pr (if r.path.isEmpty then some ((name.splitOn ".").getLastD name) else none)).run P w= .ok y w:=by
       unfold receiverAt
       cases d<;>cases pr<;>simp[wI] at hr4<;>simp[underlying,hd,Place.get]
      simp only[callMethod,Sem.run_bind,run_program,Result.andThen_ok,hn,method,typeInfo,hi,Sem.run_pure,hr1,hpath,follow,hr2]
      simp only[hpath] at hrec
      rw[hrec]
      simp
     ·cases h
    ·rename_i s i ft hst
     rw[hst] at hr4
     split at h
     ·rename_i a tf ha htf
      split at h
      ·rename_i x' hx
       split at h
       ·cases h
        obtain⟨va,q1,q2⟩:=mc T hw hB (RV.dO hy0) ha
        obtain⟨vx,q3,q4⟩:=pY T hw hB q2 hx
        refine⟨vx,q4,fun args=>?_⟩
        obtain⟨st,hpath⟩:∃st,r.path= #[st]:=by
         cases hp:r.path.toList with
         |nil=>rw[hp] at hr4;simp[nO] at hr4
         |
          cons st l=>
          cases l with
          |nil=>exact⟨st,by apply fw;simpa using hp⟩
          |cons _ _=>rw[hp] at hr4;simp[nO] at hr4
        rw[hpath] at hr4
        simp only[nO,aV,iM] at hr4
        obtain⟨⟨⟨⟨⟨p1,p2⟩,p3⟩,p4⟩,p5⟩,p6⟩:=hr4
        have p3:=bQ p3
        have p4:=bQ p4
        subst p1
        split at p5
        ·rename_i fs d hs hd
         simp only[aV,iM] at p5
         obtain⟨p5,p7⟩:=p5
         split at p7
         ·rename_i fl hfl
          have p7:=bQ p7
          have hfa:∃ad b,y= .pointer (some ad)∧va= .pointer (some b)∧(fieldPlace ad fl).run P w= .ok b w:=by
           have hyp:∃ad,y= .pointer (some ad):=by
            unfold gH at ha
            split at ha
            ·obtain⟨g,_,e,_⟩:=RV.atom rfl (RV.dO hy0);simp at e;exact⟨_,e⟩
            ·obtain⟨b',o',cs,e,_⟩:=RV.atom rfl (RV.dO hy0);simp at e;exact⟨_,e⟩
            ·cases ha
           obtain⟨ad,rfl⟩:=hyp
           have hvp:∃b,va= .pointer (some b):=by
            have ht:(∃b' p',a= .ptr b' p')∨∃u' x',a= .bN u' x':=by
             unfold gH at ha
             split at ha
             ·split at ha
              ·split at ha
               ·split at ha
                ·cases ha;exact Or.inl ⟨_,_,rfl⟩
                ·cases ha
               ·cases ha
              ·cases ha
             ·split at ha
              ·split at ha
               ·split at ha
                ·cases ha;exact Or.inr ⟨_,_,rfl⟩
                ·cases ha
               ·cases ha
              ·cases ha
             ·cases ha
            rcases ht with⟨b',p',rfl⟩|⟨u',x',rfl⟩
            ·obtain⟨g,_,e,_⟩:=RV.atom rfl q2;simp at e;exact⟨_,e⟩
            ·obtain⟨b'',o',cs,e,_⟩:=RV.atom rfl q2;simp at e;exact⟨_,e⟩
           obtain⟨b,rfl⟩:=hvp
           refine⟨ad,b,rfl,rfl,?_⟩
           simp only[Instr.fieldAt,underlying,Sem.run_bind,run_program,Result.andThen_ok,hs,Sem.run_pure,hfl,Instr.sureAddr] at q1
           cases hfp:(fieldPlace ad fl).run P w with
           |
            ok z w2=>
            rw[hfp] at q1
            simp at q1
            obtain⟨q1,rfl⟩:=q1
            rw[q1]
           |halt z w2=>rw[hfp] at q1;simp at q1
          obtain⟨ad,b,rfl,rfl,hfp⟩:=hfa
          have hld:(loadVar ft b).run P w= .ok vx w:=by simpa[Instr.loadAt,Instr.sureAddr] using q3
          have hrec:∀wr,(receiverAt ft (.var b) false wr).run P w= .ok vx w:=by
           intro wr
           unfold receiverAt
           cases d<;>simp[wI] at p5<;>simp[underlying,hd,Place.get,hld]
          have hfol:(follow [st] t (.val (.pointer (some ad)))).run P w= .ok (ft,.var b) w:=by
           simp only[follow,underlying,Sem.run_bind,run_program,Result.andThen_ok,p3,hs,Sem.run_pure,p4,hfl,p2,bC,Place.get,asAddr,hfp,p7]
          simp only[callMethod,Sem.run_bind,run_program,Result.andThen_ok,hn,method,typeInfo,hi,Sem.run_pure,hr1,hpath,hfol,hr2,hrec]
         ·cases p7
        ·cases p5
       ·cases h
      ·cases h
     ·cases h
   ·cases h
  ·cases h
 ·cases h
theorem tx{P:Program}{G:bT}(T:bB P G){gl:Ctx}{σ:St}{E:Env}{a:Act}{w:World}(h:cd gl σ E a w){o:Oper}{c:Call}(hop:o.op= .call c){ev:Operand→AV}{hb:Nat→Option aN}(hB:HB hb σ.hp){cr:CR}{r:fj}
 (hev:∀x∈o.op.operands.toList,RV E w (ev x) (a.eval x)) {ob:List Prop} (he:nR P G gl cr ev hb c=some (r,ob)) (hvc:∀p∈ob,p) (hfr:∀b∈r.fr,σ.fresh b) {K:Act→World→Prop} {Q:Exit→Act→World→Prop}
 (hK:cr.kr=false→∀E' v w',cd gl {σ with hp:=aO σ.hp r.hw} E' a w'→RV E' w' r.v v→Ext gl.md (Own σ.hp E) E w (Own (aO σ.hp r.hw) E') E' w'→K (a.put o.dst v) w')
 (hQ:cr.kr=true→∀E' v w',cd gl {σ with hp:=aO σ.hp r.hw} E' a w'→RV E' w' r.v v→Ext gl.md (Own σ.hp E) E w (Own (aO σ.hp r.hw) E') E' w'→Q (.panic [{v:=v,recovered:=false}]) a w'):o.wpIn (Wd gl) 0 P a w K Q:=by
 unfold nR at he
 split at he
 ·rename_i cf hcf
  split at he
  ·rename_i fn fl cl hfv
   split at he
   ·rename_i L lent ins r' hL jg hr'
    split at he
    ·rename_i hcond
     cases he
     simp only[aV] at hcond
     obtain⟨hlen,fV⟩:=hcond
     have hfc:=hvc _ (cK ..)
     have hopd:o.op.operands= #[cf]++c.args:=by rw[hop];simp only[Op.operands,Call.operands,hcf]
     have hcfv:=hev cf (by rw[hopd];simp)
     obtain⟨f',c',e,r1,r2,hfn0⟩:=IG hfv hcfv
     have hargs:kN E w (c.args.toList.map ev) (c.args.toList.map a.eval):=kN.map _ (fun x hx=>hev x (by rw[hopd];simp only[Array.toList_append,gA];exact Or.inr hx))
     have hall:=kN.append (kN.append r1 hargs) r2
     have hmap:(fl.map (fun x=>(x,Ty.unit))++(c.args.toList.zip c.argTypes.toList).map (rf G ev)++cl.map (fun x=>(x,Ty.unit))).map (·.1)=fl++c.args.toList.map ev++cl:=by
      simp only[np,jC]
      have e1:∀l:List AV,l.map ((fun x:AV×Ty=>x.1)∘fun x=>(x,Ty.unit))=l:=by intro l;induction l<;>simp_all
      have e2:∀(l:List Operand)(m:List TypeId),l.length=m.length→(l.zip m).map ((fun x:AV×Ty=>x.1)∘rf G ev)=l.map ev:=by
       intro l
       induction l with
       |nil=>intro m _;rfl
       |
        cons x l ih=>
        intro m hm
        cases m with
        |nil=>simp at hm
        |
         cons y m=>
         simp only[List.zip_cons_cons,dp]
         rw[ih m (by simpa using hm)];rfl
      rw[e1,e1,e2 _ _ (bQ hlen)]
     have hlent:=lD hL
     obtain⟨hφ,hw1⟩:=sa h hB hlent jg fV
     have hv:=mG h.hw hB hφ hL (fun g hg=>hg) (by rw[hmap];exact hall)
     unfold Oper.wpIn
     refine⟨fun _ _=>trivial,?_⟩
     rw[Oper.semAt_eq _ _ _ (by rw[hop];intro c h;cases h)]
     have post:∀(ed:Ending)(w':World),(∃E',uI E' w' cr.fin ed∧HW gl E' w' (dk cr.m cr.out)∧Ext gl.md (Own (aO (List.replicate cr.m none) ins) (E.to cr.al (E.cU lent).S)) (E.to cr.al (E.cU lent).S) w (Own (dk cr.m cr.out) E') E' w')→
      (match ed,w' with
       | .returned v,w''=>K (a.put o.dst v) w''
       | .panicked chain,w''=>Q (.panic chain) a w''
       | .outgrown,_=>LetsOut Q):=by
      rintro ed w' ⟨E',hR,hW',hX⟩
      cases ed with
      |
       returned v=>
       cases ab4:cr.kr with
       |true=>simp only[CR.fin,ab4,bC] at hR;exact hR.elim
       |
        false=>
        simp only[CR.fin,ab4,cm,bP] at hR
        obtain⟨E2,g1,g2,g3⟩:=kH h hB hlent jg fV hfr hW' hX hr' hR
        exact hK ab4 E2 v w' g1 g2 g3
      |
       panicked ch=>
       cases ab4:cr.kr with
       |
        true=>
        simp only[CR.fin,ab4,bC] at hR
        obtain⟨u,e,hR⟩:=hR
        obtain⟨E2,g1,g2,g3⟩:=kH h hB hlent jg fV hfr hW' hX hr' (RV.dO hR)
        subst e
        exact hQ ab4 E2 u w' g1 g2 g3
       |false=>simp only[CR.fin,ab4,cm,bP] at hR;exact hR.elim
      |outgrown=>cases ab4:cr.kr<;>simp only[CR.fin,ab4,bC,cm,bP] at hR<;>exact hR.elim
     cases fn with
     |
      func f=>
      obtain⟨ab3,hfn⟩:=hfc
      have abW:(execOp a.eval o).run P w= .ok (.enter f (f'.toList++c.args.toList.map a.eval++c'.toList).toArray) w:=by
       have:=ab3 (f'++c.args.map a.eval++c') w
       simp only[execOp,hop,resolve,hcf,e,Sem.run_bind,Deferred.ofValue,Sem.run_pure,Result.andThen_ok,invoke]
       rw[this]
       congr 2
       apply fw
       simp
      rw[abW]
      simp only[Oper.uponIn]
      refine⟨fun h=>(by cases h),?_⟩
      have h1:CallsIn Fence.wide 0 P f _ w _:=callsIn_wide.2 (hfn _ w _ hv hw1)
      exact CallsIn.mono (F:=Wd gl) h1 post
     |
      yield l=>
      rcases hfn0 with⟨g,hg⟩|⟨_,e1,e2⟩
      ·cases hg
      subst e1;subst e2
      have hn:∀{vs:List Value},kN E w [] vs→vs= []:=by intro vs h;cases vs with
       |nil=>rfl
       |cons _ _=>exact h.elim
      have hf':f'= #[]:=by apply fw;exact hn r1
      have hc':c'= #[]:=by apply fw;exact hn r2
      subst hf';subst hc'
      obtain⟨fn,tmps,assign,body,hy,hr⟩:=hfc _ w _ hv hw1
      have abW:(execOp a.eval o).run P w= .ok (.round l fn tmps assign body) w:=by
       simp only[execOp,hop,resolve,hcf,e,Sem.run_bind,Deferred.ofValue,Sem.run_pure,Result.andThen_ok,invoke]
       rw[←hy]
       congr 2
       apply fw
       simp
      rw[abW]
      simp only[Oper.uponIn]
      refine⟨fun h=>(by cases h),?_⟩
      exact RoundIn.mono (F:=Wd gl) hr post
     |_=>exact hfc.elim
    ·cases he
   ·cases he
  ·cases he
 ·rename_i rv name hcf
  split at he
  ·rename_i f x xt hfv
   split at he
   ·rename_i L lent ins r' hL jg hr'
    split at he
    ·rename_i hcond
     cases he
     simp only[aV] at hcond
     obtain⟨hlen,fV⟩:=hcond
     have hfc:=hvc _ (cK ..)
     have hopd:o.op.operands= #[rv]++c.args:=by rw[hop];simp only[Op.operands,Call.operands,hcf]
     obtain⟨rc,hrc,hcm⟩:=EV T h.hw hB hfv (hev rv (by rw[hopd];simp))
     have hargs:kN E w (c.args.toList.map ev) (c.args.toList.map a.eval):=kN.map _ (fun x hx=>hev x (by rw[hopd];simp only[Array.toList_append,gA];exact Or.inr hx))
     have hall:kN E w (x::c.args.toList.map ev) (rc::c.args.toList.map a.eval):=⟨hrc,hargs⟩
     have hmap:((x,xt)::(c.args.toList.zip c.argTypes.toList).map (rf G ev)).map (·.1)=x::c.args.toList.map ev:=by
      simp only[dp,jC]
      have e2:∀(l:List Operand)(m:List TypeId),l.length=m.length→(l.zip m).map ((fun x:AV×Ty=>x.1)∘rf G ev)=l.map ev:=by
       intro l
       induction l with
       |nil=>intro m _;rfl
       |
        cons x l ih=>
        intro m hm
        cases m with
        |nil=>simp at hm
        |
         cons y m=>
         simp only[List.zip_cons_cons,dp]
         rw[ih m (by simpa using hm)];rfl
      rw[e2 _ _ (bQ hlen)]
     have hlent:=lD hL
     obtain⟨hφ,hw1⟩:=sa h hB hlent jg fV
     have hv:=mG h.hw hB hφ hL (fun g hg=>hg) (by rw[hmap];exact hall)
     unfold Oper.wpIn
     refine⟨fun _ _=>trivial,?_⟩
     rw[Oper.semAt_eq _ _ _ (by rw[hop];intro c h;cases h)]
     have post:∀(ed:Ending)(w':World),(∃E',uI E' w' cr.fin ed∧HW gl E' w' (dk cr.m cr.out)∧Ext gl.md (Own (aO (List.replicate cr.m none) ins) (E.to cr.al (E.cU lent).S)) (E.to cr.al (E.cU lent).S) w (Own (dk cr.m cr.out) E') E' w')→
      (match ed,w' with
       | .returned v,w''=>K (a.put o.dst v) w''
       | .panicked chain,w''=>Q (.panic chain) a w''
       | .outgrown,_=>LetsOut Q):=by
      rintro ed w' ⟨E',hR,hW',hX⟩
      cases ed with
      |
       returned v=>
       cases ab4:cr.kr with
       |true=>simp only[CR.fin,ab4,bC] at hR;exact hR.elim
       |
        false=>
        simp only[CR.fin,ab4,cm,bP] at hR
        obtain⟨E2,g1,g2,g3⟩:=kH h hB hlent jg fV hfr hW' hX hr' hR
        exact hK ab4 E2 v w' g1 g2 g3
      |
       panicked ch=>
       cases ab4:cr.kr with
       |
        true=>
        simp only[CR.fin,ab4,bC] at hR
        obtain⟨u,e,hR⟩:=hR
        obtain⟨E2,g1,g2,g3⟩:=kH h hB hlent jg fV hfr hW' hX hr' (RV.dO hR)
        subst e
        exact hQ ab4 E2 u w' g1 g2 g3
       |false=>simp only[CR.fin,ab4,cm,bP] at hR;exact hR.elim
      |outgrown=>cases ab4:cr.kr<;>simp only[CR.fin,ab4,bC,cm,bP] at hR<;>exact hR.elim
     obtain⟨ab3,hfn⟩:=hfc
     have abW:(execOp a.eval o).run P w= .ok (.enter f (rc::c.args.toList.map a.eval).toArray) w:=by
      have hq:=hcm (c.args.map a.eval)
      rw[ab3] at hq
      simp only[execOp,hop,resolve,hcf,Sem.run_bind,Sem.run_pure,Result.andThen_ok,invoke]
      have e0:(#[a.eval rv]++c.args.map a.eval)[0]? =some (a.eval rv):=by rw[Array.getElem?_append_left (by simp)];rfl
      have e1:(#[a.eval rv]++c.args.map a.eval).extract 1 (#[a.eval rv]++c.args.map a.eval).size=c.args.map a.eval:=by
       apply fw;simp
       exact fb (by simp)
      rw[e0]
      show(callMethod (a.eval rv) name ((#[a.eval rv]++c.args.map a.eval).extract 1 (#[a.eval rv]++c.args.map a.eval).size)).run P w=_
      rw[e1,hq]
      congr 2
      apply fw
      simp
     rw[abW]
     simp only[Oper.uponIn]
     refine⟨fun h=>(by cases h),?_⟩
     have h1:CallsIn Fence.wide 0 P f _ w _:=callsIn_wide.2 (hfn _ w _ hv hw1)
     exact CallsIn.mono (F:=Wd gl) h1 post
    ·cases he
   ·cases he
  ·cases he
 ·cases he
theorem Dz{P:Program}{G:bT}(T:bB P G){gl:Ctx}{σ:St}{E:Env}{a:Act}{w:World}(h:cd gl σ E a w){o:Oper}{c:Call}(hop:o.op= .call c){ev:Operand→AV}{hb:Nat→Option aN}(hB:HB hb σ.hp){cr:CR}(ab4:cr.kr=false){r:fj}
 (hev:∀x∈o.op.operands.toList,RV E w (ev x) (a.eval x)) {ob:List Prop} (he:nR P G gl cr ev hb c=some (r,ob)) (hvc:∀p∈ob,p) (hfr:∀b∈r.fr,σ.fresh b):tL P gl σ E a w o r:=fun _K _Q hK=>
 tx T h hop hB hev he hvc hfr (fun _=>hK) (fun e=>by rw[ab4] at e;cases e)
end Go.Ax
namespace Go.Ax
def nS(a b:Int):Int:=if b<a then b else a
def imax(a b:Int):Int:=if a<b then b else a
def EW:AV→AV→Option AV
 | .val (.int k) a,.val (.int k') b=>if Nat.beq (IntKind.code k) (IntKind.code k') then some (.val (.int k) (nS a b)) else none
 |_,_=>none
def EX:AV→AV→Option AV
 | .val (.int k) a,.val (.int k') b=>if Nat.beq (IntKind.code k) (IntKind.code k') then some (.val (.int k) (imax a b)) else none
 |_,_=>none
theorem EY{P:Program}{E:Env}{w:World}{x y r:AV}{vx vy:Value}{ts:Array TypeId}{t:TypeId}(hx:RV E w x vx)(hy:RV E w y vy)(h:EW x y=some r):∃v,(Builtin.min_ ts t #[vx,vy]).run P w= .ok v w∧RV E w r v:=by
 unfold EW at h
 split at h
 ·rename_i k a k' b
  split at h
  ·rename_i hk
   cases h
   have:=IntKind.iO (bQ hk)
   subst this
   obtain⟨rfl,h1⟩:=RV.dh hx
   obtain⟨rfl,h2⟩:=RV.dh hy
   refine⟨.int k (nS a b),by simp[Builtin.min_,Builtin.min2,nS],RV.int ?_⟩
   unfold nS
   split
   ·exact h2
   ·exact h1
  ·cases h
 ·cases h
theorem EZ{P:Program}{E:Env}{w:World}{x y r:AV}{vx vy:Value}{ts:Array TypeId}{t:TypeId}(hx:RV E w x vx)(hy:RV E w y vy)(h:EX x y=some r):∃v,(Builtin.max_ ts t #[vx,vy]).run P w= .ok v w∧RV E w r v:=by
 unfold EX at h
 split at h
 ·rename_i k a k' b
  split at h
  ·rename_i hk
   cases h
   have:=IntKind.iO (bQ hk)
   subst this
   obtain⟨rfl,h1⟩:=RV.dh hx
   obtain⟨rfl,h2⟩:=RV.dh hy
   refine⟨.int k (imax a b),by simp[Builtin.max_,Builtin.max2,imax],RV.int ?_⟩
   unfold imax
   split
   ·exact h2
   ·exact h1
  ·cases h
 ·cases h
def Li(s:List UInt8)(i:Int):Int:=((s.getD i.toNat 0).toNat:Int)
def sc(G:bT)(t:TypeId)(x i:AV):Option (AV×List VC):=
 match G.at t with
 |
  some td=>match td.ty,x,i with
  | .str,.val .str s,.val (.int _) n=>some (.val (.int .u8) (Li s n),[vc ((0:Int)≤n),vc (@LT.lt Int _ n (List.length s:Int))])
  | .fns m,.val (.fns m') xs,.val (.int _) n=>if Nat.beq m m' then some (Ds (List.getD xs (Int.toNat n) none),[vc ((0:Int)≤n),vc (@LT.lt Int _ n (m:Int))]) else none
  | .arr m u,.val (.arr m' u') xs,.val (.int _) n=>if Nat.beq m m'&&Ty.same u u' then some (.val u' (List.getD xs (Int.toNat n) u'.aD),[vc ((0:Int)≤n),vc (@LT.lt Int _ n (m:Int))]) else none
  |_,_,_=>none
 |none=>none
theorem IH{E:Env}{w:World}(o:Option Nat):RV E w (Ds o) (An o):=by
 cases o with
 |none=>exact RV.dO (Or.inr ⟨rfl,rfl⟩)
 |some f=>exact RV.dO (Or.inr ⟨rfl, #[], #[],rfl,rfl,rfl,rfl,rfl⟩)
theorem RV.E6{E:Env}{w:World}{s:List UInt8}{v:Value}(h:RV E w (.val .str s) v):v= .string ⟨s.toArray⟩:=by
 rcases RV.js rfl h with⟨hh,_⟩|⟨_,hh⟩
 ·cases hh
 ·have:=hh.1
  simpa using this
theorem E7{P:Program}{G:bT}(T:bB P G){t:TypeId}{td:TD}(ht:G.at t=some td){E:Env}{w:World}{cs:Array Value}{off:Nat}{u:AV}(hc:RC E w u ((cs.toList.drop off).take td.ty.size))(hu:u.bW td.ty=true)(hb:off+td.ty.size≤cs.size):
 ∃v,(part t cs off).run P w= .ok v w∧RV E w u v:=by
 have ha:=AV.iv hu
 by_cases abJ:td.ty.isAgg=true
 ·refine⟨.agg (cs.extract off (off+td.ty.size)),?_,RV.dO (Or.inl ⟨by rw[ha];exact abJ,_,rfl,?_⟩)⟩
  ·simp[part,T.isAgg ht,T.size ht,abJ]
  ·rw[Array.toList_extract,List.extract_eq_take_drop,show off+td.ty.size -off=td.ty.size by omega];exact hc
 ·have hagg':td.ty.isAgg=false:=by simpa using abJ
  have h1:td.ty.size=1:=by cases h:td.ty<;>rw[h] at hagg'<;>simp[Ty.isAgg] at hagg'<;>rfl
  rw[h1] at hc hb
  have hlt:off<cs.size:=by omega
  have e:(cs.toList.drop off).take 1= [cs[off]]:=by
   rw[jz (by simpa using hlt)];simp
  rw[e] at hc
  exact⟨cs[off],by simp[part,T.isAgg ht,hagg',Array.getElem?_eq_getElem hlt],RV.dO (Or.inr ⟨by rw[ha];exact hagg',hc⟩)⟩
theorem AG{P:Program}{G:bT}(T:bB P G){E:Env}{w:World}{t:TypeId}{x i r:AV}{vx vi:Value}{vc:List VC}(hx:RV E w x vx)(hi:RV E w i vi)(h:sc G t x i=some (r,vc))(hvc:dH vc):
 ∃v,(Instr.index t vx vi).run P w= .ok v w∧RV E w r v:=by
 unfold sc at h
 split at h
 ·rename_i td ht
  split at h
  ·rename_i s k n hty
   cases h
   obtain⟨q1,q2,_⟩:=hvc
   replace q1:(0:Int)≤_:=q1
   obtain⟨rfl,_⟩:=RV.dh hi
   have:=RV.E6 hx
   subst this
   have hu:=T.strOf ht hty
   have hl:n.toNat<s.length:=by omega
   have hg:(⟨s.toArray⟩:ByteArray)[n.toNat]? =some s[n.toNat]:=by
    show(if h:n.toNat<s.toArray.size then some _ else none)=_
    rw[dif_pos (by simpa using hl)]
    rfl
   refine⟨.int .u8 (s[n.toNat].toNat:Int),?_,?_⟩
   ·simp[Instr.index,asIntOf,run_underlying hu,q1,hg]
   ·have:Li s n=(s[n.toNat].toNat:Int):=by
     unfold Li
     rw[jB,il hl];rfl
    rw[this]
    refine RV.int ?_
    have:=s[n.toNat].toNat_lt
    have h1:IntKind.u8.min=0:=by decide
    have h2:IntKind.u8.max=255:=by decide
    omega
  ·rename_i m m' xs k n hty
   split at h
   ·rename_i hm
    cases h
    have:=bQ hm
    subst this
    obtain⟨q1,q2,_⟩:=hvc
    replace q1:(0:Int)≤_:=q1
    obtain⟨rfl,_⟩:=RV.dh hi
    obtain⟨te,hu,he,hte⟩:=T.EJ ht hty
    rcases RV.js rfl hx with⟨_,cs,rfl,hr⟩|⟨hh,_⟩
    ·obtain⟨hl,hcs⟩:=hr
     have hl':n.toNat<xs.length:=by omega
     have hsz:=T.size he w
     rw[hte] at hsz
     have hag:=T.isAgg he w
     rw[hte] at hag
     have hc:cs[n.toNat]? =some (An (List.getD xs n.toNat none)):=by
      rw[←Array.getElem?_toList,hcs,List.getElem?_map,jB,il hl']
      rfl
     refine⟨An (List.getD xs n.toNat none),?_,IH _⟩
     have hin:(0:Int)≤n∧n<(m:Int):=⟨q1,q2⟩
     simp[Instr.index,asIntOf,run_underlying hu,hin,part,hag,hsz,Ty.size,Ty.isAgg,hc]
    ·cases hh
   ·cases h
  ·rename_i m u m' u' xs k n hty
   split at h
   ·rename_i hm
    cases h
    simp only[aV] at hm
    have e1:=bQ hm.1
    have e2:=Ty.aB hm.2
    subst e1;subst e2
    obtain⟨q1,q2,_⟩:=hvc
    replace q1:(0:Int)≤_:=q1
    obtain⟨rfl,_⟩:=RV.dh hi
    obtain⟨te,hu,he,hte⟩:=T.oQ ht hty
    rcases RV.js rfl hx with⟨_,cs,rfl,hr⟩|⟨hh,_⟩
    ·obtain⟨hl,hcs⟩:=hr
     have hl':n.toNat<xs.length:=by omega
     have abT:=aT.get (r:=Rel w E.S u) (n:=u.size) (fun _ _ h=>Rel.len h) u.aD n.toNat hcs hl'
     have hlen:=aT.len (n:=u.size) (fun _ _ h=>Rel.len h) hcs
     have hb:n.toNat*te.ty.size+te.ty.size≤cs.size:=by
      rw[hte,←fR,hlen]
      have:=fv u.size hl'
      rw[Nat.succ_mul] at this
      exact this
     have hsz:=T.size he w
     obtain⟨v,hv,hrv⟩:=E7 (P:=P) T he (E:=E) (w:=w) (cs:=cs) (off:=n.toNat*te.ty.size) (u:=.val u (List.getD xs n.toNat u.aD)) (by rw[hte];exact abT) (by rw[hte];exact Ty.db _) hb
     refine⟨v,?_,hrv⟩
     have hin:(0:Int)≤n∧n<(m:Int):=⟨q1,q2⟩
     simp[Instr.index,asIntOf,run_underlying hu,hin,hsz,hv]
    ·cases hh
   ·cases h
  ·cases h
 ·cases h
def xj{α:Type}:Option α→Bool
 |none=>true
 |some _=>false
def AH:AV→AV→Option (Bool×fQ)
 | .iu,.iu=>some (true,.iface)
 | .iface _ _,.iu=>some (false,.iface)
 | .gB,.gB=>some (true,.ptr)
 | .ptr _ _,.gB=>some (false,.ptr)
 | .bN _ _,.gB=>some (false,.ptr)
 | .dT,.dT=>some (true,.map)
 | .mp _,.dT=>some (false,.map)
 | .val (.map _ _) y,.dT=>some (xj y,.map)
 | .fy,.fy=>some (true,.func)
 | .func _ _ _,.fy=>some (false,.func)
 | .nq c,.dT=>some (c,.map)
 |_,_=>none
def dV:TypeDesc→Option fQ
 | .interface _=>some .iface
 | .pointer _=>some .ptr
 | .map _ _=>some .map
 | .func _ _ _=>some .func
 |_=>none
def isConst:Operand→Bool
 | .const _=>true
 |_=>false
def xl(d:TypeDesc)(k:fQ):Bool:=
 match dV d with
 |some k'=>Nat.beq (fQ.code k) (fQ.code k')
 |none=>false
theorem uZ{d:TypeDesc}{k:fQ}(h:xl d k=true):dV d=some k:=by
 unfold xl at h
 split at h
 ·rename_i k' hk'
  have:=fQ.iO (bQ h)
  rw[this];exact hk'
 ·cases h
def E8(P:Program)(t:TypeId)(op:BinOp)(oy:Operand)(x y:AV):Option AV:=
 match op,AH x y,P.underlying t with
 | .eql,some (b,k),some d=>if isConst oy&&xl d k then some (.val .bool b) else none
 | .neq,some (b,k),some d=>if isConst oy&&xl d k then some (.val .bool (!b)) else none
 |_,_,_=>none
theorem RV.tz{E:Env}{w:World}{v:Value}(h:RV E w .iu v):v= .nilIface:=by
 rcases RV.js rfl h with⟨hh,_⟩|⟨_,hh⟩
 ·cases hh
 ·simpa[RC] using hh
theorem RV.pb{E:Env}{w:World}{v:Value}(h:RV E w .gB v):v= .pointer none:=by
 rcases RV.js rfl h with⟨hh,_⟩|⟨_,hh⟩
 ·cases hh
 ·simpa[RC] using hh
theorem RV.ml{E:Env}{w:World}{v:Value}(h:RV E w .dT v):v= .map none:=by
 rcases RV.js rfl h with⟨hh,_⟩|⟨_,hh⟩
 ·cases hh
 ·simpa[RC] using hh
theorem RV.tA{E:Env}{w:World}{v:Value}(h:RV E w .fy v):v= .nilFunc:=by
 rcases RV.js rfl h with⟨hh,_⟩|⟨_,hh⟩
 ·cases hh
 ·simpa[RC] using hh
theorem vb{P:Program}{E:Env}{w:World}{t:TypeId}{d:TypeDesc}{x y:AV}{vx vy:Value}{b:Bool}{k:fQ}(hu:P.underlying t=some d)(hk:dV d=some k)(hx:RV E w x vx)(hy:RV E w y vy)(h:AH x y=some (b,k)):
 (Op.equal t vx vy).run P w= .ok b w∧(∀(op:BinOp)(ox oy:Operand),isConst oy=true→(eqGuard op t ox oy vx vy).run P w= .ok () w)∧(binOp .eql t vx vy).run P w= .ok (.bool b) w∧(binOp .neq t vx vy).run P w= .ok (.bool (!b)) w:=by
 have e0:Op.maxDepth=9999+1:=rfl
 have fin:(Op.equal t vx vy).run P w= .ok b w→(∀(op:BinOp)(ox oy:Operand),isConst oy=true→(eqGuard op t ox oy vx vy).run P w= .ok () w)→binOp .eql t vx vy=(do pure (.bool (←Op.equal t vx vy)))→binOp .neq t vx vy=(do pure (.bool (!(←Op.equal t vx vy))))→
  (Op.equal t vx vy).run P w= .ok b w∧(∀(op:BinOp)(ox oy:Operand),isConst oy=true→(eqGuard op t ox oy vx vy).run P w= .ok () w)∧(binOp .eql t vx vy).run P w= .ok (.bool b) w∧(binOp .neq t vx vy).run P w= .ok (.bool (!b)) w:=by
  intro h1 h2 h3 h4
  refine⟨h1,h2,?_,?_⟩
  ·rw[h3];simp[h1]
  ·rw[h4];simp[h1]
 have gd:∀(op:BinOp)(ox oy:Operand),isConst oy=true→(eqGuard op t ox oy .nilIface .nilIface).run P w= .ok () w:=by
  intro op ox oy hc
  cases oy with
  |const c=>cases op<;>simp[eqGuard]
  |_=>simp[isConst] at hc
 unfold AH at h
 split at h<;>cases h
 ·obtain rfl:=RV.tz hx
  obtain rfl:=RV.tz hy
  cases d<;>simp[dV] at hk
  exact fin (by rw[Op.equal,e0,Op.equalIn];simp[run_underlying hu]) gd rfl rfl
 ·rename_i ti v
  obtain⟨u,rfl⟩:∃u,vx= .iface ti u:=by
   rcases RV.js rfl hx with⟨hh,_⟩|⟨_,hh⟩
   ·cases hh
   ·obtain⟨u,e,_⟩:=hh;exact⟨u,by simpa using e⟩
  obtain rfl:=RV.tz hy
  cases d<;>simp[dV] at hk
  exact fin (by rw[Op.equal,e0,Op.equalIn];simp[run_underlying hu]) (by intro op ox oy _;cases op<;>simp[eqGuard]) rfl rfl
 ·obtain rfl:=RV.pb hx
  obtain rfl:=RV.pb hy
  cases d<;>simp[dV] at hk
  exact fin (by rw[Op.equal,e0,Op.equalIn];simp[run_underlying hu]) (by intro op ox oy _;cases op<;>simp[eqGuard]) rfl rfl
 ·obtain⟨a,rfl⟩:∃a,vx= .pointer (some a):=by
   rcases RV.js rfl hx with⟨hh,_⟩|⟨_,hh⟩
   ·cases hh
   ·obtain⟨g,_,e,_⟩:=hh;exact⟨_,by simpa using e⟩
  obtain rfl:=RV.pb hy
  cases d<;>simp[dV] at hk
  exact fin (by rw[Op.equal,e0,Op.equalIn];simp[run_underlying hu]) (by intro op ox oy _;cases op<;>simp[eqGuard]) rfl rfl
 ·obtain⟨a,rfl⟩:∃a,vx= .pointer (some a):=by
   rcases RV.js rfl hx with⟨hh,_⟩|⟨_,hh⟩
   ·cases hh
   ·obtain⟨bb,o,cs,e,_⟩:=hh;exact⟨_,by simpa using e⟩
  obtain rfl:=RV.pb hy
  cases d<;>simp[dV] at hk
  exact fin (by rw[Op.equal,e0,Op.equalIn];simp[run_underlying hu]) (by intro op ox oy _;cases op<;>simp[eqGuard]) rfl rfl
 ·obtain rfl:=RV.ml hx
  obtain rfl:=RV.ml hy
  cases d<;>simp[dV] at hk
  exact fin (by rw[Op.equal,e0,Op.equalIn];simp[run_underlying hu]) (by intro op ox oy _;cases op<;>simp[eqGuard]) rfl rfl
 ·obtain⟨a,rfl⟩:∃a,vx= .map (some a):=by
   rcases RV.js rfl hx with⟨hh,_⟩|⟨_,hh⟩
   ·cases hh
   ·obtain⟨g,_,e⟩:=hh;exact⟨_,by simpa using e⟩
  obtain rfl:=RV.ml hy
  cases d<;>simp[dV] at hk
  exact fin (by rw[Op.equal,e0,Op.equalIn];simp[run_underlying hu]) (by intro op ox oy _;cases op<;>simp[eqGuard]) rfl rfl
 ·rename_i k' v' y'
  obtain⟨a,e,hr⟩:=RV.atom rfl hx
  simp at e;subst e
  obtain rfl:=RV.ml hy
  cases d<;>simp[dV] at hk
  rcases hr with⟨rfl,rfl⟩|⟨es,g,en,clock,rfl,rfl,_⟩
  ·exact fin (by rw[Op.equal,e0,Op.equalIn];simp[run_underlying hu,xj]) (by intro op ox oy _;cases op<;>simp[eqGuard]) rfl rfl
  ·exact fin (by rw[Op.equal,e0,Op.equalIn];simp[run_underlying hu,xj]) (by intro op ox oy _;cases op<;>simp[eqGuard]) rfl rfl
 ·obtain rfl:=RV.tA hx
  obtain rfl:=RV.tA hy
  cases d<;>simp[dV] at hk
  exact fin (by rw[Op.equal,e0,Op.equalIn];simp[run_underlying hu]) (by intro op ox oy _;cases op<;>simp[eqGuard]) rfl rfl
 ·obtain⟨f,c1,c2,rfl⟩:∃f c1 c2,vx= .func f c1 c2:=by
   rcases RV.js rfl hx with⟨hh,_⟩|⟨_,hh⟩
   ·cases hh
   ·obtain⟨c1,c2,e,_⟩:=hh;exact⟨_,_,_,by simpa using e⟩
  obtain rfl:=RV.tA hy
  cases d<;>simp[dV] at hk
  exact fin (by rw[Op.equal,e0,Op.equalIn];simp[run_underlying hu]) (by intro op ox oy _;cases op<;>simp[eqGuard]) rfl rfl
 ·obtain⟨a,rfl,ha⟩:∃a:Option Nat,vx= .map a∧(a=none↔b=true):=by
   rcases RV.js rfl hx with⟨hh,_⟩|⟨_,hh⟩
   ·cases hh
   ·obtain⟨a,e,ha⟩:=hh;exact⟨a,by simpa using e,ha⟩
  obtain rfl:=RV.ml hy
  cases d<;>simp[dV] at hk
  cases a with
  |
   none=>
   have hb:=ha.1 rfl;subst hb
   exact fin (by rw[Op.equal,e0,Op.equalIn];simp[run_underlying hu]) (by intro op ox oy _;cases op<;>simp[eqGuard]) rfl rfl
  |
   some g=>
   have hb:b=false:=by
    cases b with
    |false=>rfl
    |true=>have:=ha.2 rfl;cases this
   subst hb
   exact fin (by rw[Op.equal,e0,Op.equalIn];simp[run_underlying hu]) (by intro op ox oy _;cases op<;>simp[eqGuard]) rfl rfl
theorem E9{P:Program}{E:Env}{w:World}{t:TypeId}{op:BinOp}{ox oy:Operand}{x y r:AV}{vx vy:Value}(hx:RV E w x vx)(hy:RV E w y vy)(h:E8 P t op oy x y=some r):
 (eqGuard op t ox oy vx vy).run P w= .ok () w∧∃v,(binOp op t vx vy).run P w= .ok v w∧RV E w r v:=by
 unfold E8 at h
 split at h
 ·rename_i b k d hn hd
  split at h
  ·rename_i hc
   cases h
   simp only[aV] at hc
   obtain⟨hc1,hc2⟩:=hc
   obtain⟨_,h2,h3,_⟩:=vb hd (uZ hc2) hx hy hn
   exact⟨h2 _ ox oy hc1,_,h3,RV.bool⟩
  ·cases h
 ·rename_i b k d hn hd
  split at h
  ·rename_i hc
   cases h
   simp only[aV] at hc
   obtain⟨hc1,hc2⟩:=hc
   obtain⟨_,h2,_,h3⟩:=vb hd (uZ hc2) hx hy hn
   exact⟨h2 _ ox oy hc1,_,h3,RV.bool⟩
  ·cases h
 ·cases h
def AV.xm:AV→Option Nat
 | .func (.func f) .nil .nil=>some f
 |_=>none
theorem AI{E:Env}{w:World}{x:AV}{v:Value}{f:Nat}(h:x.xm=some f)(hx:RV E w x v):v=An (some f):=by
 unfold AV.xm at h
 split at h
 ·cases h
  rcases RV.js rfl hx with⟨hh,_⟩|⟨_,hh⟩
  ·cases hh
  ·obtain⟨a,b,e,h1,h2,_⟩:=hh
   have ha:a= #[]:=by apply fw;simpa[RC] using h1
   have hb:b= #[]:=by apply fw;simpa[RC] using h2
   subst ha;subst hb
   exact(List.cons.inj e).1
 ·cases h
def Cj:List (Option Nat)→List (Nat×AV)→Option (List (Option Nat))
 |xs,[]=>some xs
 |
  xs,(i,v)::l=>match v.xm with
  |some f=>if Nat.blt i xs.length then Cj (xs.set i (some f)) l else none
  |none=>none
theorem yQ{E:Env}{w:World}:
 ∀{ps:List (Nat×AV)}{vs:List (Nat×Value)}{xs ys:List (Option Nat)}{cells:Array Value},RP E w ps vs→cells.toList=xs.map An→Cj xs ps=some ys→
  ∃abM,Instr.fill (fun i=>some (i*1,1)) cells vs=some abM∧abM.toList=ys.map An∧ys.length=xs.length
 |
  [],[],xs,ys,cells,_,hr,h=>by
  cases h;exact⟨cells,rfl,hr,rfl⟩
 |[],_::_,_,_,_,h,_,_=>h.elim
 |_::_,[],_,_,_,h,_,_=>h.elim
 |
  (i,x)::ps,(j,v)::vs,xs,ys,cells,⟨e,hx,hps⟩,hr,h=>by
  simp only at e;subst e
  simp only[Cj] at h
  split at h
  ·rename_i f hf
   split at h
   ·rename_i hi
    have hi:i<xs.length:=by simp[Nat.blt] at hi;omega
    have hv:v=An (some f):=AI hf hx
    have hsz:cells.size=xs.length:=by rw[←fR,hr,iK]
    obtain⟨abM,f1,f2⟩:=qt (fun i=>some (i*1,1)) cells i (i*1) 1 v vs rfl (by rw[hv];rfl) (by omega)
    rw[f1]
    have aO:abM.toList=(xs.set i (some f)).map An:=by
     rw[f2,hr,Nat.mul_one,List.map_set,hv]
     rw[List.set_eq_take_append_cons_drop,aA (by simpa using hi)]
     simp[An,Value.cells]
    obtain⟨c2,g1,g2,g3⟩:=yQ hps aO h
    exact⟨c2,g1,g2,by rw[g3,bF]⟩
   ·cases h
  ·cases h
def tC(G:bT)(t:TypeId)(ps:List (Nat×AV)):Option AV:=
 match G.at t with
 |
  some td=>match td.ty with
  | .fns n=>(Cj (List.replicate n none) ps).map fun xs=>.val (.fns n) xs
  |_=>none
 |none=>none
theorem AJ{P:Program}{G:bT}(T:bB P G){E:Env}{w:World}{t:TypeId}{ps:List (Nat×AV)}{vs:Array (Nat×Value)}(hp:RP E w ps vs.toList){r:AV}(h:tC G t ps=some r):
 ∃v,(Instr.build t vs).run P w= .ok v w∧RV E w r v:=by
 unfold tC at h
 split at h
 ·rename_i td ht
  obtain⟨z,hz,hz1,hz2⟩:=T.zero ht w
  split at h
  ·rename_i n hty
   obtain⟨xs,hxs,rfl⟩:=Option.map_eq_some_iff.1 h
   obtain⟨te,h1,h2,h3⟩:=T.EJ ht hty
   have hsz:=T.size h2 w
   rw[h3] at hsz
   rw[hty] at hz1
   have acf:RC E w (Ty.zero (.fns n)) z.cells.toList:=(fA (E:=E) (w:=w) hz1).1
   have hrel2:z.cells.toList=(List.replicate n none).map An:=acf.2
   obtain⟨abM,f1,f2,f3⟩:=yQ hp hrel2 hxs
   refine⟨.agg abM,?_,RV.dO (Or.inl ⟨rfl,abM,rfl,⟨by rw[f3,fO],f2⟩⟩)⟩
   simp only[Nat.mul_one] at f1
   simp[Instr.build,hz,underlying,h1,hsz,Ty.size,f1]
  ·cases h
 ·cases h
def Ck(G:bT)(t:TypeId):Option (Ty×Ty):=
 match G.at t with
 |
  some td=>match G.at td.e,G.at td.e2 with
  |some k,some v=>if td.ty.isMap&&k.ty.keyed then some (k.ty,v.ty) else none
  |_,_=>none
 |none=>none
def isInt:AV→Bool
 | .val (.int _) _=>true
 |_=>false
def AK:Option AV→Bool
 |some y=>isInt y
 |none=>true
def nT(G:bT)(d:Nat)(t:TypeId)(x:Option AV):Option fj:=
 match Ck G t with
 |some (kt,vt)=>if AK x then some ⟨.mp d,[(d,some (.map kt vt []))],[d],[]⟩ else none
 |none=>none
theorem uC{P:Program}{G:bT}(T:bB P G){gl:Ctx}{σ:St}{E:Env}{a:Act}{w:World}(h:cd gl σ E a w){d:Nat}{t:TypeId}{r:fj}{x:Option AV}{rs:Option Value}(hrs:RO E w x rs)(he:nT G d t x=some r)(hfr:∀b∈r.fr,σ.fresh b):
 ∃v w' E',(Instr.makeMap t rs).run P w= .ok v w'∧cd gl {σ with hp:=aO σ.hp r.hw} E' a w'∧RV E' w' r.v v∧Ext gl.md (Own σ.hp E) E w (Own (aO σ.hp r.hw) E') E' w':=by
 unfold nT at he
 split at he
 ·rename_i kt vt hm
  split at he
  ·rename_i hx
   cases he
   have h1:∃ke ve,P.underlying t=some (.map ke ve):=by
    unfold Ck at hm
    split at hm
    ·rename_i td ht
     split at hm
     ·rename_i k v hk hv
      split at hm
      ·rename_i hc
       cases hm
       simp only[aV] at hc
       exact⟨_,_,T.mapOf ht hc.1⟩
      ·cases hm
     ·cases hm
    ·cases hm
   obtain⟨ke,ve,h1⟩:=h1
   have hf:=hfr d (by simp)
   obtain⟨g1,x1⟩:=h.fresh (w':=w.alloc (.map #[] 0)) hf (g:=some w.heap.size) (sv:=undef) (t:=.unit) (k:=.map kt vt []) rfl (Tp.r rfl rfl) rfl (by simp) (fun i hi=>by first|exact heap_alloc_old w _ i hi|exact heap_alloc_old w _ hi) (fun i hi=>by cases hi;exact cq _)
    ⟨by simp,by simp[aE],w.heap.size, #[],0,by simp[Env.at],heap_alloc_new w _,trivial,by simp,by simp⟩
   refine⟨.map (some w.heap.size),_,_,?_,g1,RV.dO (Or.inr ⟨rfl,w.heap.size,by simp[Env.at],rfl⟩),x1⟩
   cases rs with
   |none=>simp[Instr.makeMap]
   |
    some v=>
    cases x with
    |none=>exact hrs.elim
    |
     some y=>
     have hv:RV E w y v:=hrs
     cases y with
     |
      val ty n=>
      cases ty with
      |
       int k=>
       obtain⟨rfl,_⟩:=RV.dh hv
       simp[Instr.makeMap,run_underlying h1,asInt,asIntOf]
      |_=>simp[AK,isInt] at hx
     |_=>simp[AK,isInt] at hx
  ·cases he
 ·cases he
def tD(P:Program)(G:bT)(d:Nat)(op:Op)(ev:Operand→AV):Option fj:=
 match op with
 | .build t ps=>(tC G t (ni ev ps)).map .one
 | .binOp o t x y _=>(E8 P t o y (ev x) (ev y)).map .one
 | .index t x i=>(sc G t (ev x) (ev i)).map .Gw
 | .makeMap t x=>nT G d t (x.map ev)
 | .call {callee:=.builtin .min,args:=⟨[x,y]⟩,argTypes:=_}=>(EW (ev x) (ev y)).map .one
 | .call {callee:=.builtin .max,args:=⟨[x,y]⟩,argTypes:=_}=>(EX (ev x) (ev y)).map .one
 | .makeFunc (.func _) _ _=>some (.one .fx)
 |_=>none
theorem Fa{P:Program}{G:bT}(T:bB P G){gl:Ctx}{σ:St}{E:Env}{a:Act}{w:World}(h:cd gl σ E a w){o:Oper}{d:Nat}{ev:Operand→AV}{r:fj}
 (hev:∀x∈o.op.operands.toList,RV E w (ev x) (a.eval x)) (he:tD P G d o.op ev=some r) (hvc:dH r.vc) (hfr:∀b∈r.fr,σ.fresh b):bX P gl σ E a w o r:=by
 unfold tD at he
 split at he
 ·rename_i t ps hop
  obtain⟨u,hu,rfl⟩:=Option.map_eq_some_iff.1 he
  have hp:RP E w (ni ev ps) (ps.map fun(i,x)=>(i,a.eval x)).toList:=by
   rw[Array.toList_map]
   refine lC (fun x hx=>hev x.2 ?_)
   simp only[hop,Op.operands,List.mem_map]
   exact⟨x,hx,rfl⟩
  obtain⟨v,h1,h2⟩:=AJ T hp hu
  exact bX.same h (v:=v) (by simp[execOp,hop,h1]) h2
 ·rename_i bo t x y t2 hop
  obtain⟨u,hu,rfl⟩:=Option.map_eq_some_iff.1 he
  obtain⟨h0,v,h1,h2⟩:=E9 (P:=P) (ox:=x) (hev x (by simp[hop,Op.operands])) (hev y (by simp[hop,Op.operands])) hu
  exact bX.same h (v:=v) (by simp[execOp,hop,h0,h1]) h2
 ·rename_i t x i hop
  obtain⟨⟨u,vc⟩,hu,rfl⟩:=Option.map_eq_some_iff.1 he
  obtain⟨v,h1,h2⟩:=AG T (hev x (by simp[hop,Op.operands])) (hev i (by simp[hop,Op.operands])) hu hvc
  exact bX.same h (v:=v) (by simp[execOp,hop,h1]) h2
 ·rename_i t x hop
  obtain⟨v,w',E',h1,h2,h3,h4⟩:=uC T h (rs:=x.map a.eval) (yc (fun y hy=>hev y (by simp[hop,Op.operands,hy]))) he hfr
  exact⟨_,v,w',E',by simp[execOp,hop,h1],Or.inl rfl,h2,h3,h4⟩
 ·rename_i x y ts hop
  obtain⟨u,hu,rfl⟩:=Option.map_eq_some_iff.1 he
  obtain⟨v,h1,h2⟩:=EY (P:=P) (ts:=ts) (t:=o.type) (hev x (by simp[hop,Op.operands,Call.operands])) (hev y (by simp[hop,Op.operands,Call.operands])) hu
  exact bX.same h (v:=v) (by simp[execOp,hop,resolve,invoke,builtin,h1]) h2
 ·rename_i x y ts hop
  obtain⟨u,hu,rfl⟩:=Option.map_eq_some_iff.1 he
  obtain⟨v,h1,h2⟩:=EZ (P:=P) (ts:=ts) (t:=o.type) (hev x (by simp[hop,Op.operands,Call.operands])) (hev y (by simp[hop,Op.operands,Call.operands])) hu
  exact bX.same h (v:=v) (by simp[execOp,hop,resolve,invoke,builtin,h1]) h2
 ·rename_i f fs cs hop
  cases he
  exact bX.same h (v:=.func (.func f) (fs.map a.eval) (cs.map a.eval)) (by simp[execOp,hop,Instr.makeFunc]) (RV.dO (Or.inr ⟨rfl,_,_,_,rfl⟩))
 ·cases he
end Go.Ax
namespace Go.Ax
def xn(G:bT)(t:TypeId)(x:AV):Option AV:=
 match G.at t with
 |some td=>if x.plain&& !Ty.same td.ty (.aR .iface) then some (.iface t x) else none
 |none=>none
def tE(G:bT)(x:AV)(s:TypeId):Option AV:=
 match x,G.at s with
 | .iface t v,some td=>if Nat.beq t s&&v.plain&& !Ty.same td.ty (.aR .iface) then some (.gC (.cons v (.cons (.val .bool true) .nil))) else none
 |_,_=>none
def tF(G:bT)(op:Op)(ev:Operand→AV):Option fj:=
 match op with
 | .makeInterface t x=>(xn G t (ev x)).map .one
 | .typeAssert x _ s true=>(tE G (ev x) s).map .one
 |_=>none
theorem bB.Cn{P:Program}{G:bT}(T:bB P G){t:TypeId}{td:TD}(h:G.at t=some td)(hn:Ty.same td.ty (.aR .iface)=false):∃d,P.underlying t=some d∧∀x,d≠.interface x:=by
 obtain⟨ii,d,_,h1,_,h2,_⟩:=T.info h
 refine⟨d,h1,?_⟩
 intro x e
 subst e
 simp only[cj] at h2
 rw[hn] at h2;cases h2
theorem AL{P:Program}{G:bT}(T:bB P G){E:Env}{w:World}{t:TypeId}{x r:AV}{v:Value}(hx:RV E w x v)(h:xn G t x=some r):∃u,(Instr.makeInterface t v).run P w= .ok u w∧RV E w r u:=by
 unfold xn at h
 split at h
 ·rename_i td htd
  split at h
  ·rename_i hc
   cases h
   simp only[aV,iM] at hc
   obtain⟨d,h1,h2⟩:=T.Cn htd hc.2
   refine⟨.iface t v,?_,?_⟩
   ·cases d<;>first|exact absurd rfl (h2 _)|simp[Instr.makeInterface,underlying,h1]
   ·refine RV.dO (Or.inr ⟨rfl,v,rfl,?_⟩)
    rcases RV.js hc.1 hx with⟨e,cs,e1,e2⟩|⟨e,e2⟩
    ·exact Or.inl ⟨e,cs,e1,e2⟩
    ·exact Or.inr ⟨e,e2⟩
  ·cases h
 ·cases h
theorem yR{P:Program}{G:bT}(T:bB P G){E:Env}{w:World}{s xt:TypeId}{x r:AV}{v:Value}(hx:RV E w x v)(h:tE G x s=some r):∃u,(Instr.typeAssert v xt s true).run P w= .ok u w∧RV E w r u:=by
 unfold tE at h
 split at h
 ·rename_i t a td htd
  split at h
  ·rename_i hc
   cases h
   simp only[aV,iM] at hc
   obtain⟨⟨hc1,hc2⟩,hc3⟩:=hc
   have hc1:=bQ hc1
   subst hc1
   obtain⟨d,h1,h2⟩:=T.Cn htd hc3
   obtain⟨y,e,hy⟩:=RV.atom rfl hx
   simp at e
   subst e
   have hy0:cF E w a y:=by
    rcases hy with⟨h1,cs,e,h2⟩|⟨h1,h2⟩
    ·exact Or.inl ⟨h1,cs,e,h2⟩
    ·exact Or.inr ⟨h1,h2⟩
   refine⟨.tuple #[y,.bool true],?_,?_⟩
   ·cases d<;>first|exact absurd rfl (h2 _)|simp[Instr.typeAssert,underlying,h1]
   ·exact⟨#[y,.bool true],rfl,hy0,Or.inr ⟨rfl,by simp[RC,Rel]⟩,rfl⟩
  ·cases h
 ·cases h
theorem Fb{P:Program}{G:bT}(T:bB P G){gl:Ctx}{σ:St}{E:Env}{a:Act}{w:World}(h:cd gl σ E a w){o:Oper}{ev:Operand→AV}{r:fj}
 (hev:∀x∈o.op.operands.toList,RV E w (ev x) (a.eval x)) (he:tF G o.op ev=some r):bX P gl σ E a w o r:=by
 unfold tF at he
 split at he
 ·rename_i t x hop
  obtain⟨u,hu,rfl⟩:=Option.map_eq_some_iff.1 he
  obtain⟨v,h1,h2⟩:=AL T (hev x (by simp[hop,Op.operands])) hu
  exact bX.same h (v:=v) (by simp[execOp,hop,h1]) h2
 ·rename_i x xt s hop
  obtain⟨u,hu,rfl⟩:=Option.map_eq_some_iff.1 he
  obtain⟨v,h1,h2⟩:=yR (xt:=xt) T (hev x (by simp[hop,Op.operands])) hu
  exact bX.same h (v:=v) (by simp[execOp,hop,h1]) h2
 ·cases he
end Go.Ax
namespace Go.Ax
section
variable{P:Program} {G:bT} (T:bB P G) {E:Env} {w:World} {α:Type} {kt:Ty}
def RK(E:Env)(w:World)(kt:Ty):List MapEntry→List (kt.den×α)→Prop
 |[],[]=>True
 |e::es,x::xs=>cF E w (.val kt x.1) e.key∧RK E w kt es xs
 |_,_=>False
theorem RK.at:∀{es:List (kt.den×α)}{en:List MapEntry},en.length=es.length→(∀(i:Nat) x,es[i]? =some x→∃m,en[i]? =some m∧cF E w (.val kt x.1) m.key)→RK E w kt en es
 |[],[],_,_=>trivial
 |[],_::_,hl,_=>by simp at hl
 |_::_,[],hl,_=>by simp at hl
 |
  x::es,m::en,hl,h=>by
  obtain⟨u,h1,h2⟩:=h 0 x rfl
  simp at h1;subst h1
  exact⟨h2,RK.at (by simpa using hl) (fun i y hy=>by simpa using h (i+1) y (by simpa using hy))⟩
def vf(l:List MapEntry)(i0:Nat):Option (Nat×α)→Option (Nat×Value)→Prop
 |none,none=>True
 |some x,some y=>x.1=y.1∧i0≤x.1∧∃e,l[x.1 -i0]? =some e∧e.val=y.2
 |_,_=>False
theorem vf.up{e:MapEntry}{l:List MapEntry}{i:Nat}{x:Option (Nat×α)}{y:Option (Nat×Value)}(h:vf l (i+1) x y):vf (e::l) i x y:=by
 cases x with
 |
  none=>cases y with
  |none=>trivial
  |some _=>exact h.elim
 |
  some x=>cases y with
  |none=>exact h.elim
  |
   some y=>
   obtain⟨h1,h2,m,h3,h4⟩:=h
   refine⟨h1,by omega,m,?_,h4⟩
   rw[show x.1 -i=(x.1 -(i+1))+1 from by omega]
   simpa using h3
include T in
theorem qO{t:TypeId}{td:TD}(ht:G.at t=some td)(he:iS P G 40 t td.ty=true){k:td.ty.den}{v:Value}(hv:cF E w (.val td.ty k) v):∀{l:List MapEntry}{es:List (td.ty.den×α)}(i:Nat),RK E w td.ty l es→
 ∃r,(Instr.findAsking t v l i).run P w= .ok r w∧vf l i (dG td.ty k es i) r
 |[],[],i,_=>⟨none,by simp[Instr.findAsking],trivial⟩
 |[],_::_,_,h=>h.elim
 |_::_,[],_,h=>h.elim
 |
  e::l,x::es,i,⟨h1,h3⟩=>by
  have hq:(Op.equal t v e.key).run P w= .ok (aX td.ty k x.1) w:=sA T (E:=E) (w:=w) (Op.maxDepth -40) 40 t td ht he k x.1 v e.key hv h1
  cases hb:aX td.ty k x.1 with
  |true=>exact⟨some (i,e.val),by simp[Instr.findAsking,hq,hb],by simp only[dG,hb,bC];exact⟨rfl,cq _,e,by simp,rfl⟩⟩
  |
   false=>
   obtain⟨r,r1,r2⟩:=qO ht he hv (i+1) h3
   exact⟨r,by simp[Instr.findAsking,hq,hb,r1],by simp only[dG,hb];exact r2.up⟩
theorem yS{d:TypeDesc}{k:kt.den}{v:Value}(hv:cF E w (.val kt k) v):∀{l:List MapEntry}{es:List (kt.den×α)}(i:Nat){r:Option (Nat×Value)},RK E w kt l es→Instr.findNow d v l i=some r→vf l i (dG kt k es i) r
 |[],[],i,r,_,h=>by simp[Instr.findNow] at h;subst h;trivial
 |[],_::_,_,_,h,_=>h.elim
 |_::_,[],_,_,h,_=>h.elim
 |
  e::l,x::es,i,r,⟨h1,h3⟩,h=>by
  simp only[Instr.findNow] at h
  split at h
  ·rename_i hs
   have:=lB hv h1 hs
   cases h
   simp only[dG,←this,bC];exact⟨rfl,cq _,e,by simp,rfl⟩
  ·rename_i hs
   have:=lB hv h1 hs
   simp only[dG,←this,cm,bP]
   exact(yS hv (i+1) h3 h).up
  ·cases h
include T in
theorem yT{t:TypeId}{td:TD}(ht:G.at t=some td)(he:iS P G 40 t td.ty=true){k:td.ty.den}{v:Value}(hv:cF E w (.val td.ty k) v){l:List MapEntry}{es:List (td.ty.den×α)}(h:RK E w td.ty l es):
 ∃r,(Instr.findKey t v l).run P w= .ok r w∧vf l 0 (dG td.ty k es 0) r:=by
 obtain⟨ii,dd,_,hu,_⟩:=T.info ht
 unfold Instr.findKey
 simp only[Sem.run_bind,run_underlying hu,Result.andThen_ok]
 split
 ·rename_i r hr
  exact⟨r,rfl,yS hv 0 h hr⟩
 ·exact qO T ht he hv 0 h
end
theorem nU{α:Type}{kt:Ty}(hk:kt.keyed=true){k:kt.den}:∀{es:List (kt.den×α)}{i j:Nat}{y:α},dG kt k es i=some (j,y)→i≤j∧es[j -i]? =some (k,y)
 |[],i,j,y,h=>by simp[dG] at h
 |
  x::es,i,j,y,h=>by
  simp only[dG] at h
  split at h
  ·rename_i hb
   cases h
   have:=(cu hk _ _).1 hb
   exact⟨cq _,by rw[Nat.sub_self];simp only[oL];rw[this]⟩
  ·obtain⟨h1,h2⟩:=nU hk h
   exact⟨by omega,by rw[show j -i=(j -(i+1))+1 from by omega];simpa using h2⟩
theorem nV{α:Type}{kt:Ty}(hk:kt.keyed=true){k:kt.den}:∀{es:List (kt.den×α)}{i:Nat},dG kt k es i=none→k∉es.map (·.1)
 |[],i,h=>by simp
 |
  x::es,i,h=>by
  simp only[dG] at h
  split at h
  ·cases h
  ·rename_i hb
   have h2:=nV hk h
   simp only[dp,eA,not_or]
   exact⟨fun e=>hb ((cu hk _ _).2 e),h2⟩
theorem xo{α:Type}{kt:Ty}(hk:kt.keyed=true){k:kt.den}{y:α}:∀{es:List (kt.den×α)}{i:Nat}{z:α},(es.map (·.1)).Nodup→es[i]? =some (k,z)→bE kt k y es=es.set i (k,y)
 |[],i,z,_,h=>by simp at h
 |
  x::es,0,z,_,h=>by
  simp at h;subst h
  simp[bE,(cu hk k k).2 rfl]
 |
  x::es,i+1,z,hn,h=>by
  simp only[qF] at h
  simp only[dp,nn] at hn
  have hne:aX kt k x.1=false:=by
   cases hb:aX kt k x.1 with
   |false=>rfl
   |
    true=>
    have e:=(cu hk _ _).1 hb
    exact absurd (List.mem_map.2 ⟨_,fP h,e⟩) hn.1
  simp only[bE,hne,List.set_cons_succ]
  rw[xo hk hn.2 h];rfl
theorem mn{α:Type}{kt:Ty}(hk:kt.keyed=true){k:kt.den}{y:α}:∀{es:List (kt.den×α)},k∉es.map (·.1)→bE kt k y es=es++[(k,y)]
 |[],_=>rfl
 |
  x::es,h=>by
  simp only[dp,eA,not_or] at h
  have hne:aX kt k x.1=false:=by
   cases hb:aX kt k x.1 with
   |false=>rfl
   |true=>exact absurd ((cu hk _ _).1 hb) h.1
  simp only[bE,hne]
  rw[mn hk h.2];rfl
theorem nW{α:Type}{kt:Ty}{k:kt.den}{es:List (kt.den×α)}(hn:(es.map (·.1)).Nodup){i j:Nat}{y z:α}(h1:es[i]? =some (k,y))(h2:es[j]? =some (k,z)):i=j:=by
 have hi:i<(es.map (·.1)).length:=by rw[iK];exact(List.getElem?_eq_some_iff.1 h1).1
 have e1:(es.map (·.1))[i]? =some k:=by rw[List.getElem?_map,h1];rfl
 have e2:(es.map (·.1))[j]? =some k:=by rw[List.getElem?_map,h2];rfl
 exact(List.getElem?_inj hi hn).1 (by rw[e1,e2])
theorem fD{α:Type}{kt:Ty}(hk:kt.keyed=true){k:kt.den}:∀{es:List (kt.den×α)},cJ kt k es=true↔k∈es.map (·.1)
 |[]=>by simp[cJ]
 |
  x::es=>by
  simp only[cJ,ek,dp,eA,fD hk,cu hk]
end Go.Ax
namespace Go.Ax
def Ty.Fe:Ty→Bool
 | .map _ _| .slice _ _=>true
 |_=>false
def Ty.uD:Ty→Bool
 | .map _ _=>true
 |_=>false
theorem xp{P:Program}{G:bT}(T:bB P G){t:TypeId}{td:TD}(ht:G.at t=some td)(hs:td.ty.Fe=true)(w:World):(zeroValue t).run P w= .ok (zeroV td.ty) w:=by
 obtain⟨z,z1,z2,z3⟩:=T.zero ht w
 rw[z1]
 congr 1
 cases hty:td.ty with
 |
  slice bs u=>
  rw[hty] at z2 z3
  cases z with
  |agg cs=>simp[yB,Ty.isAgg] at z3
  |
   slice a n c=>
   have z2:isZero (.slice bs u) (.slice a n c)=true:=z2
   cases a with
   |some _=>simp[isZero] at z2
   |
    none=>
    simp only[isZero,aV] at z2
    have e1:=bQ z2.1.2;have e2:=bQ z2.2
    subst e1;subst e2;rfl
  |_=>have z2:isZero (.slice bs u) _=true:=z2;simp[isZero] at z2
 |
  map k u=>
  rw[hty] at z2 z3
  cases z with
  |agg cs=>simp[yB,Ty.isAgg] at z3
  |
   map a=>
   have z2:isZero (.map k u) (.map a)=true:=z2
   cases a with
   |some _=>simp[isZero] at z2
   |none=>rfl
  |_=>have z2:isZero (.map k u) _=true:=z2;simp[isZero] at z2
 |_=>rw[hty] at hs;simp[Ty.Fe] at hs
theorem de.T4{w:World}{S:Nat→Prop}{e:TypeId}{t:Ty}{v:Value}{og:Option Nat}{x:t.den}(ht:t.uD=true)(h:de w S e t v og x):∃g,v= .map (some g):=by
 cases t with
 |map k u=>obtain⟨es',_,_,_,gg,_,_,_,e,_⟩:=h;exact⟨gg,e⟩
 |_=>cases ht
theorem vg{t:Ty}(ht:t.uD=true):zeroV t= .map none:=by
 cases t with
 |map k u=>rfl
 |_=>cases ht
theorem Ff{t:Ty}(ht:t.uD=true):t.Fe=true:=by
 cases t with
 |map k u=>rfl
 |_=>cases ht
def pd(P:Program)(G:bT)(hb:Nat→Option aN)(t:TypeId)(x i:AV):Option (AV×List VC):=
 match jQ G t,x with
 |
  some (ke,_,kt,vt),.mp b=>match hb b with
  |some (.pmap k u es _ f)=>if h:Ty.same k kt=true∧Ty.same u vt=true then(match i.bL kt,f with
   |some k',some (kx,v,_)=>if i.plain&&v.plain&& !v.isAgg&&u.Fe then some (v,[vc (iS P G 40 ke kt=true),vc (aX kt k' (Ty.aB h.1▸kx:kt.den)=true)]) else none
   |some k',none=>if i.plain&&u.uD then some (.nq (!(cJ kt k' (Ty.aB h.1▸es:List (kt.den×u.den)))),[vc (iS P G 40 ke kt=true)]) else none
   |_,_=>none) else none
  |_=>none
 |_,_=>none
theorem mQ{P:Program}{G:bT}(T:bB P G){E:Env}{w:World}{b:Nat}{ke:TypeId}{kd:TD}{vt:Ty}{es:List (kd.ty.den×vt.den)}{e2:TypeId}{f:Option (kd.ty.den×AV×Bool)}(hk:kd.ty.keyed=true)(h4:G.at ke=some kd)(he:iS P G 40 ke kd.ty=true)
 (hrb:RB E w b (.pmap kd.ty vt es e2 f)) {k':kd.ty.den} {vi:Value} (hkv:cF E w (.val kd.ty k') vi):
 ∃g en clock r,E.g b=some g∧w.heap[g]? =some (.map en clock)∧(∀em,(Instr.checkKey em 10000 ke vi).run P w= .ok () w)∧(Instr.findKey ke vi en.toList).run P w= .ok r w∧
  ((r=none∧k'∉es.map (·.1))∨∃i y m,r=some (i,m.val)∧es[i]? =some (k',y)∧en[i]? =some m):=by
 obtain⟨h1,h2,h3,g,en,clock,og,q1,q2,q3,q4,q5,q6,q7,q8⟩:=hrb
 have hrk:RK E w kd.ty en.toList es:=RK.at (by rw[fR];exact q6) (fun i x hx=>by
  obtain⟨m,p1,p2,_⟩:=q7 i x hx
  exact⟨m,by simpa using p1,p2⟩)
 obtain⟨r,r1,r2⟩:=yT T h4 he hkv hrk
 refine⟨g,en,clock,r,q1,q2,fun em=>iT T (E:=E) (w:=w) em 9960 40 ke kd h4 he k' vi hkv,r1,?_⟩
 cases hf:dG kd.ty k' es 0 with
 |
  none=>
  rw[hf] at r2
  cases r with
  |none=>exact Or.inl ⟨rfl,nV hk hf⟩
  |some _=>exact r2.elim
 |
  some p=>
  obtain⟨i,y⟩:=p
  rw[hf] at r2
  cases r with
  |none=>exact r2.elim
  |
   some q=>
   obtain⟨i',u⟩:=q
   obtain⟨e1,_,m,e2,e3⟩:=r2
   simp only[Nat.sub_zero] at e1 e2 e3
   subst e1;subst e3
   have:=(nU hk hf).2
   exact Or.inr ⟨i,y,m,rfl,by simpa using this,by simpa using e2⟩
theorem AM{P:Program}{G:bT}(T:bB P G){gl:Ctx}{E:Env}{w:World}{hp:List (Option aN)}(hw:HW gl E w hp){hb:Nat→Option aN}(hB:HB hb hp){t:TypeId}{x i:AV}{vx vi:Value}(hx:RV E w x vx)(hi:RV E w i vi){r:AV}{vcs:List VC}(h:pd P G hb t x i=some (r,vcs))(hvc:dH vcs):
 ∃v,(Instr.lookup t vx vi false).run P w= .ok v w∧RV E w r v:=by
 unfold pd at h
 split at h
 ·rename_i ke ve kt vt b hm
  obtain⟨hu,hke,_,⟨kd,h4,h5⟩,⟨vd,h6,h7⟩⟩:=iE T hm
  subst h5;subst h7
  split at h
  ·rename_i k u es e2 f hbk
   split at h
   ·rename_i hc
    obtain⟨c1,c2⟩:=hc
    have e1:=Ty.aB c1;subst e1
    have e2':=Ty.aB c2;subst e2'
    have hrb:=hw.cH b _ (hB b _ hbk)
    obtain⟨g0,hg0,ex⟩:=RV.atom rfl hx
    simp at ex;subst ex
    split at h
    ·rename_i k' kx v pr hk'
     split at h
     ·rename_i hpl
      simp only[cE,ff] at h
      obtain⟨er,ev⟩:=h
      subst ev
      rw[←er]
      simp only[aV,iM] at hpl
      obtain⟨⟨⟨p1,p2⟩,p3⟩,p4⟩:=hpl
      obtain⟨he,hkx,_⟩:=hvc
      have hkx:k'=kx:=(cu hke _ _).1 hkx
      subst hkx
      have hkv:=cF.bL hk' (RV.js p1 hi)
      obtain⟨g,en,clock,r,q1,q2,q3,q4,q5⟩:=mQ T hke h4 he hrb hkv
      rw[q1] at hg0
      have hg0:=iL hg0
      subst hg0
      have abT:(getObj g).run P w= .ok (.map en clock) w:=by simp[getObj,Sem.run,q2]
      obtain⟨z1,z2,z3,g',en',ab0,og,y1,y2,y3,y4,y5,y6,y7,y8⟩:=hrb
      rw[q1] at y1;cases y1
      rw[q2] at y2;cases y2
      rcases q5 with⟨e,hn⟩|⟨j,y,m,e,s1,s2⟩
      ·subst e
       refine⟨zeroV vd.ty,by simp only[Instr.lookup,Sem.run_bind,run_underlying hu,Result.andThen_ok,Sem.run_pure,abT,q3,q4,xp T h6 p4];rfl,RV.dO (Or.inr ⟨p3,?_⟩)⟩
       cases pr with
       |false=>exact(y8 _ v).1 rfl hn
       |true=>exact absurd ((y8 _ v).2 rfl) hn
      ·subst e
       obtain⟨m',t1,_,t3,_⟩:=y7 j _ s1
       rw[s2] at t1;cases t1
       exact⟨m.val,by simp only[Instr.lookup,Sem.run_bind,run_underlying hu,Result.andThen_ok,Sem.run_pure,abT,q3,q4];rfl,RV.dO (Or.inr ⟨p3,(t3 v pr rfl).2⟩)⟩
     ·cases h
    ·rename_i k' hk'
     split at h
     ·rename_i hpl
      cases h
      simp only[aV] at hpl
      obtain⟨p1,p4⟩:=hpl
      obtain⟨he,_⟩:=hvc
      have hkv:=cF.bL hk' (RV.js p1 hi)
      obtain⟨g,en,clock,r,q1,q2,q3,q4,q5⟩:=mQ T hke h4 he hrb hkv
      rw[q1] at hg0
      have hg0:=iL hg0
      subst hg0
      have abT:(getObj g).run P w= .ok (.map en clock) w:=by simp[getObj,Sem.run,q2]
      obtain⟨z1,z2,z3,g',en',ab0,og,y1,y2,y3,y4,y5,y6,y7,y8⟩:=hrb
      rw[q1] at y1;cases y1
      rw[q2] at y2;cases y2
      have hz:=xp T h6 (Ff p4) w
      rcases q5 with⟨e,hn⟩|⟨j,y,m,e,s1,s2⟩
      ·subst e
       refine⟨zeroV vd.ty,by simp only[Instr.lookup,Sem.run_bind,run_underlying hu,Result.andThen_ok,Sem.run_pure,abT,q3,q4,hz];rfl,RV.dO (Or.inr ⟨rfl,none,by rw[vg p4],?_⟩)⟩
       have hm:cJ kd.ty k' es=false:=by
        cases hh:cJ kd.ty k' es with
        |false=>rfl
        |true=>exact absurd ((fD hke).1 hh) hn
       show none=none↔(!(cJ kd.ty k' es))=true
       rw[hm];simp
      ·subst e
       obtain⟨m',t1,_,_,t4⟩:=y7 j _ s1
       rw[s2] at t1;cases t1
       obtain⟨gg,hmv⟩:=(t4 (fun v pr hv=>by cases hv)).T4 p4
       refine⟨m.val,by simp only[Instr.lookup,Sem.run_bind,run_underlying hu,Result.andThen_ok,Sem.run_pure,abT,q3,q4];rfl,RV.dO (Or.inr ⟨rfl,some gg,by rw[hmv],?_⟩)⟩
       have hm:cJ kd.ty k' es=true:=(fD hke).2 (List.mem_map.2 ⟨_,fP s1,rfl⟩)
       show some gg=none↔(!(cJ kd.ty k' es))=true
       rw[hm];simp
     ·cases h
    ·cases h
   ·cases h
  ·cases h
 ·cases h
end Go.Ax
namespace Go.Ax
def lJ(kt vt:Ty)(kx:kt.den)(es:List (kt.den×vt.den)):Bool→List (kt.den×vt.den)
 |true=>es
 |false=>bE kt kx vt.aD es
def AO(P:Program)(G:bT)(hb:Nat→Option aN)(t:TypeId)(x k v:AV):Option fj:=
 match jQ G t,x with
 |
  some (ke,_,kt,vt),.mp b=>match hb b with
  |some (.pmap k0 u es e2 (some (kx,_,pr)))=>if h:Ty.same k0 kt=true∧Ty.same u vt=true then(match k.bL kt with
   |some k'=>if k.plain&&v.plain&& !v.isAgg&&v.bW u then some ⟨.bot,[(b,some (.pmap k0 u (lJ k0 u kx es pr) e2 (some (kx,v,true))))],[],[vc (iS P G 40 ke kt=true),vc (aX kt k' (Ty.aB h.1▸kx:kt.den)=true),vc (es.length+1≤aE)]⟩ else none
   |none=>none) else none
  |_=>none
 |_,_=>none
theorem qP{en:Array MapEntry}{i:Nat}{f:MapEntry→MapEntry}(hf:∀e,(f e).born=e.born):(en.modify i f).toList.map (·.born)=en.toList.map (·.born):=by
 rw[Array.toList_modify]
 apply List.ext_getElem?
 intro j
 simp only[List.getElem?_map,List.getElem?_modify]
 cases en.toList[j]? with
 |none=>rfl
 |some z=>simp;split<;>simp[hf]
theorem Co{E:Env}{w:World}{b:Nat}{kt vt:Ty}{es:List (kt.den×vt.den)}{e2:TypeId}{v0 v:AV}{pr:Bool}{kx:kt.den}(hke:kt.keyed=true)(hrb:PM E w b kt vt es e2 (some (kx,v0,pr))){g:Nat}{en:Array MapEntry}{clock:Nat}(q1:E.g b=some g)(q2:w.heap[g]? =some (.map en clock))(hn:kx∉es.map (·.1))
 {vk vv:Value} (hkv:cF E w (.val kt kx) vk) (hvv:RC E w v [vv]) (hc:v.bW vt=true) (hlen:es.length+1≤aE) (kpo:∀o,bM E w E (w.putObj g o)):
 pr=false∧es.length=en.size∧PM E (w.putObj g (.map (en.push {key:=vk,val:=vv,born:=clock}) (clock+1))) b kt vt (bE kt kx vt.aD es) e2 (some (kx,v,true)):=by
 obtain⟨z1,z2,z3,g',en',ab0,og,y1,y2,y3,y4,y5,y6,y7,y8⟩:=hrb
 rw[q1] at y1;cases y1
 rw[q2] at y2;cases y2
 have hlt:g<w.heap.size:=(Array.getElem?_eq_some_iff.1 q2).1
 have sub:∀o j(t:Ty)(u:Value)(x:t.den),de w E.S e2 t u (og j) x→de (w.putObj g o) E.S e2 t u (og j) x:=fun o j t u x hs=>
  de.mono (kpo o).w (kpo o).S (fun gg hgg=>World.putObj_heap_other (y5.own j gg hgg).2) hs
 have hpr:pr=false:=by
  cases pr with
  |false=>rfl
  |true=>exact absurd ((y8 _ v0).2 rfl) hn
 refine⟨hpr,y6.symm,?_⟩
 have hes:bE kt kx vt.aD es=es++[(kx,vt.aD)]:=mn hke hn
 refine⟨dL hke z1,da dA hlen,fun kx' v' pr' hv'=>by cases hv';exact hc,g,_,_,fun j=>if j=es.length then none else og j,q1,World.putObj_heap_same hlt,?_,?_,⟨?_,?_⟩,?_,?_,?_⟩
 ·intro x hx
  rw[Array.toList_push] at hx
  rcases List.mem_append.1 hx with hx|hx
  ·exact Nat.lt_succ_of_lt (y3 x hx)
  ·simp at hx;subst hx;exact Nat.lt_succ_self _
 ·rw[Array.toList_push,np]
  refine List.nodup_append.2 ⟨y4,by simp,?_⟩
  intro x hx y hy
  simp at hy
  obtain⟨z,hz,ez⟩:=List.mem_map.1 hx
  have:=y3 z hz
  omega
 ·intro j u hj
  have hj:(if j=es.length then none else og j)=some u:=hj
  split at hj
  ·cases hj
  ·exact y5.own j u hj
 ·intro j j' u hj hj'
  have hj:(if j=es.length then none else og j)=some u:=hj
  have hj':(if j'=es.length then none else og j')=some u:=hj'
  split at hj
  ·cases hj
  ·split at hj'
   ·cases hj'
   ·exact y5.inj j j' u hj hj'
 ·rw[hes,Array.size_push,y6,cN];rfl
 ·rw[hes]
  intro j x hx
  by_cases hj:j<es.length
  ·rw[List.getElem?_append_left hj] at hx
   obtain⟨m,t1,t2,t3,t4⟩:=y7 j x hx
   have hne:j≠es.length:=by omega
   have hxk:x.1≠kx:=fun e=>hn (List.mem_map.2 ⟨x,fP hx,e⟩)
   refine⟨m,by rw[Array.getElem?_push_lt (by rw[y6];exact hj)];have t1:=t1;rw[Array.getElem?_eq_getElem (by rw[y6];exact hj)] at t1;exact t1,cF.mono (kpo _) (fun _ hb=>by cases hb) t2,fun v' pr' hv'=>(by cases hv';exact absurd rfl hxk),fun _=>?_⟩
   simp only[hne,bP]
   exact sub _ j _ _ _ (t4 (fun v' pr' hv'=>by cases hv';exact hxk rfl))
  ·have hj2:j=es.length:=by
    have:=(List.getElem?_eq_some_iff.1 hx).1
    simp at this;omega
   subst hj2
   simp at hx;subst hx
   refine⟨{key:=vk,val:=vv,born:=clock},by rw[←y6];simp,cF.mono (kpo _) (fun _ hb=>by cases hb) hkv,fun v' pr' hv'=>?_,fun hv'=>absurd rfl (hv' v true)⟩
   cases hv'
   exact⟨aA rfl,RC.mono (kpo _) (fun _ _=>⟨rfl,rfl,rfl⟩) hvv⟩
 ·intro kx' v'
  refine⟨fun hf=>(by cases hf),fun hf=>?_⟩
  cases hf
  rw[hes];simp
theorem AP{E:Env}{w:World}{b:Nat}{kt vt:Ty}{es:List (kt.den×vt.den)}{e2:TypeId}{v0 v:AV}{pr:Bool}{kx:kt.den}(hke:kt.keyed=true)(hrb:PM E w b kt vt es e2 (some (kx,v0,pr))){g:Nat}{en:Array MapEntry}{clock:Nat}(q1:E.g b=some g)(q2:w.heap[g]? =some (.map en clock))
 {i:Nat} {y:vt.den} {m:MapEntry} (s1:es[i]? =some (kx,y)) (s2:en[i]? =some m) (f:MapEntry→MapEntry) (hf:∀e,(f e).born=e.born) (hkv:cF E w (.val kt kx) (f m).key) (hvv:RC E w v [(f m).val]) (hc:v.bW vt=true) (kpo:∀o,bM E w E (w.putObj g o)):
 (∃y',lJ kt vt kx es pr=es.set i (kx,y'))∧cF E w (.val kt kx) m.key∧RC E w v0 [m.val]∧PM E (w.putObj g (.map (en.modify i f) clock)) b kt vt (lJ kt vt kx es pr) e2 (some (kx,v,true)):=by
 obtain⟨z1,z2,z3,g',en',ab0,og,y1,y2,y3,y4,y5,y6,y7,y8⟩:=hrb
 rw[q1] at y1;cases y1
 rw[q2] at y2;cases y2
 have hlt:g<w.heap.size:=(Array.getElem?_eq_some_iff.1 q2).1
 have sub:∀o j(t:Ty)(u:Value)(x:t.den),de w E.S e2 t u (og j) x→de (w.putObj g o) E.S e2 t u (og j) x:=fun o j t u x hs=>
  de.mono (kpo o).w (kpo o).S (fun gg hgg=>World.putObj_heap_other (y5.own j gg hgg).2) hs
 obtain⟨m',t1,t2,t3,t4⟩:=y7 i _ s1
 rw[s2] at t1;cases t1
 have hi:i<es.length:=(List.getElem?_eq_some_iff.1 s1).1
 have hog:og i=none:=(t3 v0 pr rfl).1
 have hes:∃y',lJ kt vt kx es pr=es.set i (kx,y'):=by
  cases pr with
  |
   true=>
   refine⟨y,?_⟩
   show es=_
   apply List.ext_getElem?
   intro j
   rw[bK]
   by_cases e:i=j
   ·subst e;rw[aA rfl,aA hi];exact s1
   ·rw[aC e]
  |false=>exact⟨vt.aD,xo hke z1 s1⟩
 refine⟨hes,t2,(t3 v0 pr rfl).2,?_⟩
 obtain⟨y',hes⟩:=hes
 have hnd:((lJ kt vt kx es pr).map (·.1)).Nodup:=by
  cases pr with
  |true=>exact z1
  |false=>exact dL hke z1
 refine⟨hnd,by rw[hes,bF];exact z2,fun kx' v' pr' hv'=>by cases hv';exact hc,g,_,_,og,q1,World.putObj_heap_same hlt,?_,?_,y5,?_,?_,?_⟩
 ·intro x hx
  have hb:x.born∈(en.modify i f).toList.map (·.born):=List.mem_map.2 ⟨x,hx,rfl⟩
  rw[qP hf] at hb
  obtain⟨z,hz,ez⟩:=List.mem_map.1 hb
  rw[←ez];exact y3 z hz
 ·rw[qP hf];exact y4
 ·rw[Array.size_modify,y6,hes,bF]
 ·rw[hes]
  intro j x hx
  rw[bK] at hx
  by_cases hne:i=j
  ·subst hne
   rw[aA rfl,aA hi] at hx
   cases hx
   refine⟨f m,by rw[Array.getElem?_modify,aA rfl,s2];rfl,cF.mono (kpo _) (fun _ hb=>by cases hb) hkv,fun v' pr' hv'=>?_,fun hv'=>absurd rfl (hv' v true)⟩
   cases hv'
   exact⟨hog,RC.mono (kpo _) (fun _ _=>⟨rfl,rfl,rfl⟩) hvv⟩
  ·rw[aC hne] at hx
   obtain⟨m2,t1,t2,t3,t4⟩:=y7 j x hx
   have hxk:x.1≠kx:=fun e=>by
    obtain⟨xk,xv⟩:=x
    simp only at e
    subst e
    exact hne (nW z1 s1 hx)
   refine⟨m2,by rw[Array.getElem?_modify,aC hne];exact t1,cF.mono (kpo _) (fun _ hb=>by cases hb) t2,fun v' pr' hv'=>(by cases hv';exact absurd rfl hxk),fun _=>?_⟩
   exact sub _ j _ _ _ (t4 (fun v' pr' hv'=>by cases hv';exact hxk rfl))
 ·intro kx' v'
  refine⟨fun hf=>(by cases hf),fun hf=>?_⟩
  cases hf
  rw[hes]
  exact List.mem_map.2 ⟨(kx,y'),fP (i:=i) (by rw[bK,aA rfl,aA hi]),rfl⟩
theorem DA{P:Program}{G:bT}(T:bB P G){gl:Ctx}{σ:St}{E:Env}{a:Act}{w:World}(h:cd gl σ E a w){hb:Nat→Option aN}(hB:HB hb σ.hp){t:TypeId}{x k v:AV}{vx vk vv:Value}(hx:RV E w x vx)(hk:RV E w k vk)(hv:RV E w v vv){r:fj}(he:AO P G hb t x k v=some r)(hvc:dH r.vc):
 ∃w',(Instr.mapUpdate t vx vk vv).run P w= .ok () w'∧cd gl {σ with hp:=aO σ.hp r.hw} E a w'∧RV E w' r.v undef∧Ext gl.md (Own σ.hp E) E w (Own (aO σ.hp r.hw) E) E w':=by
 unfold AO at he
 split at he
 ·rename_i ke ve kt vt b hm
  obtain⟨hu,hke,_,⟨kd,h4,h5⟩,⟨vd,h6,h7⟩⟩:=iE T hm
  subst h5;subst h7
  split at he
  ·rename_i k0 u es e2 kx v0 pr hbk0
   split at he
   ·rename_i hc
    obtain⟨c1,c2⟩:=hc
    have e1:=Ty.aB c1;subst e1
    have e2':=Ty.aB c2;subst e2'
    split at he
    ·rename_i k' hk'
     split at he
     ·rename_i hpl
      cases he
      simp only[aV,iM] at hpl
      obtain⟨⟨⟨p1,p2⟩,p3⟩,p4⟩:=hpl
      obtain⟨he,hkx,hlen,_⟩:=hvc
      have hkx:k'=kx:=(cu hke _ _).1 hkx
      subst hkx
      have hkv:cF E w (.val kd.ty k') vk:=cF.bL hk' (RV.js p1 hk)
      have hvv:RC E w v [vv]:=by
       rcases RV.js p2 hv with⟨hh,_⟩|⟨_,hh⟩
       ·rw[p3] at hh;cases hh
       ·exact hh
      have hbk:=hB b _ hbk0
      have hrb:=h.hw.cH b _ hbk
      obtain⟨g0,hg0,ex⟩:=RV.atom rfl hx
      simp at ex;subst ex
      obtain⟨g,en,clock,r,q1,q2,q3,q4,q5⟩:=mQ T hke h4 he hrb hkv
      rw[q1] at hg0
      have hg0:=iL hg0
      subst hg0
      have abT:(getObj g).run P w= .ok (.map en clock) w:=by simp[getObj,Sem.run,q2]
      have aO:∀o,(setObj g o).run P w= .ok () (w.putObj g o):=fun o=>by simp[setObj,Sem.run,q2,World.putObj]
      have kpo:∀o,bM E w E (w.putObj g o):=fun o=>⟨fun i hi=>World.putObj_heap_other (fun e=>h.hw.jT b _ g hbk q1 (e▸hi)),fun _ h=>h⟩
      have key:∃en' ab0,(Instr.mapUpdate t (.map (some g)) vk vv).run P w= .ok () (w.putObj g (.map en' ab0))∧RB E (w.putObj g (.map en' ab0)) b (.pmap kd.ty vd.ty (lJ kd.ty vd.ty k' es pr) e2 (some (k',v,true))):=by
       rcases q5 with⟨e,hn⟩|⟨i,y,m,e,s1,s2⟩
       ·subst e
        obtain⟨hpr,_,hpm⟩:=Co hke hrb q1 q2 hn hkv hvv p4 hlen kpo
        subst hpr
        exact⟨_,_,by simp only[Instr.mapUpdate,Sem.run_bind,run_underlying hu,Result.andThen_ok,abT,q3,q4,aO],hpm⟩
       ·subst e
        obtain⟨_,t2,_,hpm⟩:=AP hke hrb q1 q2 s1 s2 (fun e=>{e with key:=vk,val:=vv}) (fun _=>rfl) hkv hvv p4 kpo
        obtain⟨f1,f2⟩:=cF.fn hke t2 hkv
        have hold:((en[i]?).map (·.key)).getD vk=m.key:=by rw[s2];rfl
        have hstay:(Instr.keyThatStays (((en[i]?).map (·.key)).getD vk) vk).run P w= .ok vk w:=by
         rw[hold,Instr.keyThatStays,←f1,aA f2];simp
        exact⟨_,_,by simp only[Instr.mapUpdate,Sem.run_bind,run_underlying hu,Result.andThen_ok,abT,q3,q4,hstay,aO],hpm⟩
      obtain⟨en',ab0,k1,hrb2⟩:=key
      have kp:=kpo (.map en' ab0)
      have hw2:=h.hw.write hbk (by simp) (fun i hi=>World.putObj_heap_other (fun e=>hi (by rw[e];exact q1))) hrb2
      refine⟨_,k1,h.carry kp (fun _ _=>⟨rfl,rfl,rfl⟩) hw2,trivial,⟨rfl,Tp.r rfl rfl,rfl,by simp,?_,fun _ h=>h,fun _ h=>Or.inl h,fun i hi=>Or.inl (Own.mf hbk hi),fun _ _=>⟨rfl,rfl,rfl⟩⟩⟩
      intro i hi ho
      exact World.putObj_heap_other (fun e=>ho ⟨b,_,hbk,by rw[e];exact Or.inl q1⟩)
     ·cases he
    ·cases he
   ·cases he
  ·cases he
 ·cases he
end Go.Ax
namespace Go.Ax
def tG(P:Program)(G:bT)(op:Op)(ev:Operand→AV)(hb:Nat→Option aN):Option fj:=
 match op with
 | .lookup t x i false=>(pd P G hb t (ev x) (ev i)).map .Gw
 | .mapUpdate t x k v=>AO P G hb t (ev x) (ev k) (ev v)
 |_=>none
theorem Fg{P:Program}{G:bT}(T:bB P G){gl:Ctx}{σ:St}{E:Env}{a:Act}{w:World}(h:cd gl σ E a w){o:Oper}{ev:Operand→AV}{hb:Nat→Option aN}(hB:HB hb σ.hp){r:fj}
 (hev:∀x∈o.op.operands.toList,RV E w (ev x) (a.eval x)) (he:tG P G o.op ev hb=some r) (hvc:dH r.vc):bX P gl σ E a w o r:=by
 unfold tG at he
 split at he
 ·rename_i t x i hop
  obtain⟨⟨u,vc⟩,hu,rfl⟩:=Option.map_eq_some_iff.1 he
  obtain⟨v,h1,h2⟩:=AM T h.hw hB (hev x (by simp[hop,Op.operands])) (hev i (by simp[hop,Op.operands])) hu hvc
  exact bX.same h (v:=v) (by simp[execOp,hop,h1]) h2
 ·rename_i t x k v hop
  obtain⟨w',h1,h2,h3,h4⟩:=DA T h hB (hev x (by simp[hop,Op.operands])) (hev k (by simp[hop,Op.operands])) (hev v (by simp[hop,Op.operands])) he hvc
  exact⟨_,undef,w',E,by simp[execOp,hop,h1],Or.inr ⟨rfl,rfl⟩,h2,h3,h4⟩
 ·cases he
end Go.Ax
namespace Go.Ax
def xq(G:bT)(d:Nat)(t:TypeId)(x:AV):Option fj:=
 match jQ G t with
 |
  some (_,_,kt,vt)=>match x with
  | .val (.map k v) y=>some ⟨.ptr d [],[(d,some (.lP k v (bU y) none))],[d],[]⟩
  | .dT=>some ⟨.ptr d [],[(d,some (.lP kt vt [] none))],[d],[]⟩
  |_=>none
 |none=>none
def xr(hb:Nat→Option aN)(x:AV):Option AV:=
 match x with
 |
  .ptr b []=>match hb b with
  |some (.lP k v _ (some c))=>some (.gC (.cons (.val k c.1) (.cons (.val v c.2) .nil)))
  |_=>none
 |_=>none
theorem DB(en:Array MapEntry):j0 en #[]=en:=by simp[j0]
theorem run_entry_at{P:Program}(w:World)(g bm since:Nat)(seen:Array Nat)(es:Array MapEntry)(clock:Nat)(e:MapEntry)(hg:w.heap[g]? =some (.mapIter (some bm) since (seen.push e.born) clock))(hb:w.heap[bm]? =some (.map es clock))(he:e∈es.toList)(hn:(es.toList.map (·.born)).Nodup):
 (Instr.entry (.pointer (some ⟨g,0,none⟩))).run P w= .ok (.tuple #[e.key,e.val]) w:=by
 have hf:es.find? (·.born==e.born)=some e:=by rw[←Array.find?_toList];exact find_born e es.toList hn he
 simp only[Instr.entry,getObj,Sem.run_bind,Sem.run,hg,hb,Result.andThen,Array.back?_push,bne_self_eq_false,cm,bP,hf]
 rfl
theorem AQ{P:Program}{G:bT}(T:bB P G){gl:Ctx}{σ:St}{E:Env}{a:Act}{w:World}(h:cd gl σ E a w){d:Nat}{t:TypeId}{x:AV}{vx:Value}{r:fj}(hx:RV E w x vx)(he:xq G d t x=some r)(hfr:∀b∈r.fr,σ.fresh b):
 ∃v w' E',(Instr.range t vx).run P w= .ok v w'∧cd gl {σ with hp:=aO σ.hp r.hw} E' a w'∧RV E' w' r.v v∧Ext gl.md (Own σ.hp E) E w (Own (aO σ.hp r.hw) E') E' w':=by
 unfold xq at he
 split at he
 ·rename_i ke ve kt vt hm
  obtain⟨hu,_⟩:=iE T hm
  have nilc:∀(k v:Ty),(∀b∈[d],σ.fresh b)→∃v' w' E',(Instr.range t (.map none)).run P w= .ok v' w'∧cd gl {σ with hp:=aO σ.hp [(d,some (.lP k v [] none))]} E' a w'∧RV E' w' (.ptr d []) v'∧Ext gl.md (Own σ.hp E) E w (Own (aO σ.hp [(d,some (.lP k v [] none))]) E') E' w':=by
   intro k v hf
   have hf:=hf d (by simp)
   obtain⟨g1,x1⟩:=h.fresh (w':=w.alloc (.mapIter none 0 #[] 0)) hf (g:=some w.heap.size) (sv:=undef) (t:=.unit) (k:=.lP k v [] none) rfl (Tp.r rfl rfl) rfl (by simp) (fun i hi=>heap_alloc_old w _ hi) (fun i hi=>by cases hi;exact cq _)
    ⟨w.heap.size,none,0, #[],0,by simp[Env.at],heap_alloc_new w _,Or.inl ⟨rfl,rfl,rfl⟩⟩
   exact⟨_,_,_,run_range_nilMap w t ke ve hu,g1,RV.dO (Or.inr ⟨rfl,w.heap.size,by simp[Env.at],by simp[Env.at,Ty.off],by simp[Env.at,Ty.valid]⟩),x1⟩
  split at he
  ·rename_i k v y
   cases he
   obtain⟨a',e,hr⟩:=RV.atom rfl hx
   simp at e;subst e
   rcases hr with⟨rfl,rfl⟩|⟨es,g,en,clock,rfl,rfl,r1,r2,r3,_,_,r4,r5⟩
   ·exact nilc k v hfr
   ·have hf:=hfr d (by simp)
    have hgl:=h.hw.slt g r1
    have kp:bM E w (E.at d (some w.heap.size) undef .unit) (w.alloc (.mapIter (some g) clock #[] clock)):=⟨fun b hb=>heap_alloc_old w _ (h.hw.slt b hb),fun b hb=>hb⟩
    obtain⟨g1,x1⟩:=h.fresh (w':=w.alloc (.mapIter (some g) clock #[] clock)) hf (g:=some w.heap.size) (sv:=undef) (t:=.unit) (k:=.lP k v es none) rfl (Tp.r rfl rfl) rfl (by simp) (fun i hi=>heap_alloc_old w _ hi) (fun i hi=>by cases hi;exact cq _)
     ⟨w.heap.size,some g,clock, #[],clock,by simp[Env.at],heap_alloc_new w _,Or.inr ⟨g,en,rfl,r1,by rw[heap_alloc_old w _ hgl];exact r2,rfl,r4,r5,by rw[DB];exact RM.mono kp (RM.of r3),fun x hx=>by cases hx⟩⟩
    exact⟨_,_,_,run_range_map w t ke ve g en clock hu r2,g1,RV.dO (Or.inr ⟨rfl,w.heap.size,by simp[Env.at],by simp[Env.at,Ty.off],by simp[Env.at,Ty.valid]⟩),x1⟩
  ·cases he
   obtain rfl:vx= .map none:=by have:=RV.atom rfl hx;simpa[RC] using this
   exact nilc kt vt hfr
  ·cases he
 ·cases he
theorem AR{P:Program}{gl:Ctx}{E:Env}{w:World}{hp:List (Option aN)}(hw:HW gl E w hp){hb:Nat→Option aN}(hB:HB hb hp){x r:AV}{vx:Value}(hx:RV E w x vx)(he:xr hb x=some r):∃v,(Instr.entry vx).run P w= .ok v w∧RV E w r v:=by
 unfold xr at he
 split at he
 ·rename_i b
  split at he
  ·rename_i k v rest c hk
   cases he
   obtain⟨g,om,since,seen,c0,q1,q2,q3⟩:=hw.cH b _ (hB b _ hk)
   obtain⟨g',hg',ev,_⟩:=RV.atom rfl hx
   rw[q1] at hg';cases hg'
   simp at ev;subst ev
   rcases q3 with⟨_,_,h⟩|⟨bm,en,rfl,r2,r3,rfl,r5,r6,r7,r8⟩
   ·cases h
   ·obtain⟨e,s0,rfl,t2,t3,t4⟩:=r8 c rfl
    exact⟨_,by simpa[Ty.off] using run_entry_at w g bm since s0 en since e q2 r3 t2 r6, #[e.key,e.val],rfl,t3,t4,rfl⟩
  ·cases he
 ·cases he
def tH(G:bT)(d:Nat)(op:Op)(ev:Operand→AV)(hb:Nat→Option aN):Option fj:=
 match op with
 | .range t x=>xq G d t (ev x)
 | .entry x=>(xr hb (ev x)).map .one
 |_=>none
theorem Fh{P:Program}{G:bT}(T:bB P G){gl:Ctx}{σ:St}{E:Env}{a:Act}{w:World}(h:cd gl σ E a w){o:Oper}{d:Nat}{ev:Operand→AV}{hb:Nat→Option aN}(hB:HB hb σ.hp){r:fj}
 (hev:∀x∈o.op.operands.toList,RV E w (ev x) (a.eval x)) (he:tH G d o.op ev hb=some r) (hfr:∀b∈r.fr,σ.fresh b):bX P gl σ E a w o r:=by
 unfold tH at he
 split at he
 ·rename_i t x hop
  obtain⟨v,w',E',h1,h2,h3,h4⟩:=AQ T (P:=P) h (hev x (by simp[hop,Op.operands])) he hfr
  exact⟨_,v,w',E',by simp[execOp,hop,h1],Or.inl rfl,h2,h3,h4⟩
 ·rename_i x hop
  obtain⟨u,hu,rfl⟩:=Option.map_eq_some_iff.1 he
  obtain⟨v,h1,h2⟩:=AR (P:=P) h.hw hB (hev x (by simp[hop,Op.operands])) hu
  exact bX.same h (v:=v) (by simp[execOp,hop,h1]) h2
 ·cases he
end Go.Ax
namespace Go.Ax
def xu(G:bT)(hb:Nat→Option aN)(s d:TypeId)(x:AV):Option fj:=
 match G.at s,x with
 |
  some ts,.own b=>match ts.ty,hb b with
  | .slice 1 (.int .u8),some (.row _ 1 (.int .u8) xs)=>if Nat.beq s d then some ⟨.val (.slice 1 (.int .u8)) xs,[(b,none)],[],[vc (0<xs.length)]⟩ else none
  |_,_=>none
 |_,_=>none
theorem cd.gone{gl:Ctx}{σ:St}{E:Env}{a:Act}{w w':World}(h:cd gl σ E a w){b:Nat}{k:aN}(hbk:σ.hp[b]? =some (some k)){g:Nat}(hg:E.g b=some g)(hos:w'.os=w.os)(hta:Tp gl.md w w')(hou:w'.output=w.output)(hsz:w'.heap.size=w.heap.size)
 (hold:∀i,i≠g→w'.heap[i]? =w.heap[i]?):
 cd gl {σ with hp:=σ.hp.set b none} {E with S:=fun i=>E.S i∨i=g} a w'∧Ext gl.md (Own σ.hp E) E w (Own (σ.hp.set b none) {E with S:=fun i=>E.S i∨i=g}) {E with S:=fun i=>E.S i∨i=g} w':=by
 have hng:∀i,E.S i→i≠g:=fun i hi e=>h.hw.jT b k i hbk (by rw[e];exact hg) hi
 have kp:bM E w {E with S:=fun i=>E.S i∨i=g} w':=⟨fun i hi=>hold i (hng i hi),fun b hb=>Or.inl hb⟩
 have get:∀(c:Nat)(k':aN),(σ.hp.set b none)[c]? =some (some k')→c≠b∧σ.hp[c]? =some (some k'):=by
  intro c k' hc
  rw[bK] at hc
  split at hc
  ·split at hc<;>cases hc
  ·rename_i hne;exact⟨fun e=>hne e.symm,hc⟩
 have ne:∀(c:Nat)(k':aN)(g':Nat),(σ.hp.set b none)[c]? =some (some k')→E.has c g'→g'≠g:=by
  intro c k' g' hc hg' e
  obtain⟨h1,h2⟩:=get c k' hc
  subst e
  exact h1 (h.hw.dN c b k' k g' h2 hbk hg' (Or.inl hg))
 have hw:HW gl {E with S:=fun i=>E.S i∨i=g} w' (σ.hp.set b none):=by
  refine⟨fun c k' hc=>RB.mono kp (fun _ _=>⟨rfl,rfl,rfl⟩) (fun g' hg'=>hold g' (ne c k' g' hc hg')) (fun _ _ h=>h) (h.hw.cH c k' (get c k' hc).2),fun c c' k1 k2 g' h1 h2=>h.hw.dN c c' k1 k2 g' (get c k1 h1).2 (get c' k2 h2).2,?_,?_,h.hw.fT kp,fun c k' g' hc hg'=>by have:=h.hw.qG c k' g' (get c k' hc).2 hg';omega⟩
  ·rintro c k' g' hc hg' (hs|hs)
   ·exact h.hw.dq c k' g' (get c k' hc).2 hg' hs
   ·exact ne c k' g' hc hg' hs
  ·rintro g' (hs|hs)
   ·have:=h.hw.slt g' hs;omega
   ·have:=Own.below h.hw ⟨b,k,hbk,Or.inl hg⟩;omega
 refine⟨h.carry kp (fun _ _=>⟨rfl,rfl,rfl⟩) hw,hos,hta,hou,by omega,fun g' _ hn=>hold g' (fun e=>hn ⟨b,k,hbk,by rw[e];exact Or.inl hg⟩),fun g' hg'=>Or.inl hg',?_,?_,fun _ _=>⟨rfl,rfl,rfl⟩⟩
 ·rintro g' (hs|hs)
  ·exact Or.inl hs
  ·subst hs;exact Or.inr (Or.inl ⟨b,k,hbk,Or.inl hg⟩)
 ·rintro g' ⟨c,k',hc,hg'⟩
  exact Or.inl ⟨c,k',(get c k' hc).2,hg'⟩
theorem AT{P:Program}{G:bT}(T:bB P G){gl:Ctx}{σ:St}{E:Env}{a:Act}{w:World}(h:cd gl σ E a w){hb:Nat→Option aN}(hB:HB hb σ.hp){s d:TypeId}{x:AV}{r:fj}{vx:Value}(hx:RV E w x vx)(he:xu G hb s d x=some r)(hvc:dH r.vc):
 ∃v w' E',(convert s d vx).run P w= .ok v w'∧cd gl {σ with hp:=aO σ.hp r.hw} E' a w'∧RV E' w' r.v v∧Ext gl.md (Own σ.hp E) E w (Own (aO σ.hp r.hw) E') E' w':=by
 unfold xu at he
 split at he
 ·rename_i ts b hs
  split at he
  ·rename_i e xs h1 hk
   split at he
   ·rename_i hsd
    cases he
    have hsd:=bQ hsd
    subst hsd
    have hlen:0<List.length xs:=hvc.1
    have hbk:=hB b _ hk
    obtain⟨_,r1,r2,_,ad,cap,r3,r4,r5⟩:=h.hw.cH b _ hbk
    rcases r5 with⟨_,_,r5⟩|⟨g,c,q1,q2,q3,q4,q5,q6⟩
    ·rw[r5] at hlen;cases hlen
    subst q2
    have hvx:vx= .slice (some ⟨g,0,none⟩) (List.length xs) cap:=by
     have:=RV.atom rfl hx
     simp[RC] at this
     rw[this.1,r3]
    subst hvx
    obtain⟨te,ie,u1,u2,u3,u4,u5,_⟩:=T.cP hs h1
    have u6:=T.intOf u2 u3
    have hlt:g<w.heap.size:=Own.below h.hw ⟨b,_,hbk,Or.inl q1⟩
    have hsame:(w.freeze ⟨g,c.size,none⟩ 1).heap[g]? =some (.cells c e (c.size,c.size+1)):=by
     simp only[World.freeze,Nat.one_ne_zero,bP,Array.getElem?_modify,bC,q3]
     rfl
    have hold:∀i,i≠g→(w.freeze ⟨g,c.size,none⟩ 1).heap[i]? =w.heap[i]? :=by
     intro i hi
     simp only[World.freeze,Nat.one_ne_zero,bP,Array.getElem?_modify,aC (fun e=>hi (Eq.symm e))]
    have hsz:(w.freeze ⟨g,c.size,none⟩ 1).heap.size=w.heap.size:=by
     simp[World.freeze]
    obtain⟨g1,g2⟩:=h.gone hbk q1 (w':=w.freeze ⟨g,c.size,none⟩ 1) (by simp[World.freeze]) (Tp.r (by simp[World.freeze]) (by simp[World.freeze])) (by simp[World.freeze]) hsz hold
    refine⟨.slice (some ⟨g,0,none⟩) (List.length xs) cap,w.freeze ⟨g,c.size,none⟩ 1,_,?_,g1,?_,g2⟩
    ·have hsh:w.shape? g=some (e,c.size):=by simp[World.shape?,q3]
     simp[convert,underlying,u1,u6,markStringish,hsh]
    ·have q7:c.size=cap:=by rw[q4];show cap*1=cap;omega
     refine RV.dO (Or.inr ⟨rfl,some ⟨g,0,none⟩,cap,rfl,q5,r1,r2,Or.inr ⟨g,0,c.toList.take (List.length xs*Ty.size (.int .u8)),rfl,Or.inr rfl,?_,aT.mono (fun _ _=>Rel.flat rfl) q6⟩⟩)
     intro j v hj
     rw[Addr.gr,cZ]
     show World.cell? _ _=_
     unfold World.cell?
     rw[hsame]
     simp only[Option.isSome_none,cm,bP]
     rw[oN] at hj
     split at hj
     ·simpa using hj
     ·cases hj
   ·cases he
  ·cases he
 ·cases he
end Go.Ax
namespace Go.Ax
def xw(G:bT)(t:TypeId)(x:AV)(i:Nat):Option AV:=
 match G.at t with
 |
  some td=>match td.ty.sub [.cD i],x.get [.cD i] with
  |some _,some u=>if x.plain&&x.bW td.ty then some u else none
  |_,_=>none
 |none=>none
theorem AU{P:Program}{G:bT}(T:bB P G){E:Env}{w:World}{t:TypeId}{x u:AV}{i:Nat}{vx:Value}(hx:RV E w x vx)(h:xw G t x i=some u):
 ∃v,(Instr.field t vx i).run P w= .ok v w∧RV E w u v:=by
 unfold xw at h
 split at h
 ·rename_i td ht
  split at h
  ·rename_i s u' hs hg
   split at h
   ·rename_i hc
    cases h
    simp only[aV] at hc
    obtain⟨fs,f,tf,h1,h2,h3,h4,h5,h6,hval⟩:=T.struct ht hs
    have abJ:td.ty.isAgg=true:=by
     cases hty:td.ty with
     |pair a b=>rfl
     |arr n a=>rfl
     |_=>rw[hty] at hs;simp[Ty.sub] at hs
    rcases RV.js hc.1 hx with⟨_,cs,rfl,hrc⟩|⟨ha,_⟩
    ·obtain⟨s',e1,e2,e3,e4⟩:=AV.eV hrc hc.2 hval hg
     rw[hs] at e1;cases e1
     rw[←h5] at e3 e4
     have hl:=RC.len e4
     by_cases ha:s.isAgg=true
     ·refine⟨.agg (cs.extract f.offset (f.offset+s.size)),?_,RV.dO (Or.inl ⟨by rw[AV.iv e2];exact ha,_,rfl,?_⟩)⟩
      ·simp[Instr.field,underlying,h1,h2,asAgg,part,T.isAgg h3,T.size h3,h4,ha]
      ·rw[Array.toList_extract]
       simpa[List.extract] using e4
     ·have ha':s.isAgg=false:=by simpa using ha
      have hs1:s.size=1:=by cases hh:s<;>rw[hh] at ha'<;>simp[Ty.isAgg] at ha'<;>rfl
      rw[hs1] at e3 e4
      have hlt:f.offset<cs.size:=by
       have:cs.toList.length=cs.size:=by simp
       omega
      have e5:(cs.toList.drop f.offset).take 1= [cs[f.offset]]:=by
       rw[jz (by simpa using hlt)]
       simp
      rw[e5] at e4
      refine⟨cs[f.offset],?_,RV.dO (Or.inr ⟨by rw[AV.iv e2];exact ha',e4⟩)⟩
      simp[Instr.field,underlying,h1,h2,asAgg,part,T.isAgg h3,h4,ha',hlt]
    ·rw[AV.iv hc.2,abJ] at ha;cases ha
   ·cases h
  ·cases h
 ·cases h
end Go.Ax
namespace Go.Ax
def AW(P:Program)(G:bT)(hb:Nat→Option aN)(t:TypeId)(x k:AV):Option fj:=
 match jQ G t,x with
 |
  some (ke,_,kt,vt),.mp b=>match hb b with
  |some (.fY k0 u es e2 kx v pr)=>if h:Ty.same k0 kt=true∧Ty.same u vt=true then(match k.bL kt with
   |some k'=>if k.plain&&v.plain&& !v.isAgg&&v.bW u&&u.Fe then some ⟨.gC (.cons v (.cons (.eP b) .nil)),[(b,some (.fY k0 u (lJ k0 u kx es pr) e2 kx v true))],[],[vc (iS P G 40 ke kt=true),vc (aX kt k' (Ty.aB h.1▸kx:kt.den)=true),vc (es.length+1≤aE)]⟩ else none
   |none=>none) else none
  |_=>none
 |_,_=>none
theorem xx{P:Program}{w:World}{t ke ve:TypeId}{vk:Value}{g clock:Nat}{en:Array MapEntry}(hu:P.underlying t=some (.map ke ve))(abT:w.heap[g]? =some (.map en clock))(q3:(Instr.checkKey false 10000 ke vk).run P w= .ok () w):
 (∀z,(zeroValue ve).run P w= .ok z w→(Instr.findKey ke vk en.toList).run P w= .ok none w→(Instr.mapEntry t (.map (some g)) vk).run P w= .ok (.tuple #[z,goInt clock]) (w.putObj g (.map (en.push {key:=vk,val:=z,born:=clock}) (clock+1))))∧
 ∀i m,en[i]? =some m→(Instr.findKey ke vk en.toList).run P w= .ok (some (i,m.val)) w→(Instr.keyThatStays m.key vk).run P w= .ok vk w→(Instr.mapEntry t (.map (some g)) vk).run P w= .ok (.tuple #[m.val,goInt m.born]) (w.putObj g (.map (en.modify i fun e=>{e with key:=vk}) clock)):=by
 have h1:(getObj g).run P w= .ok (.map en clock) w:=by simp[getObj,Sem.run,abT]
 have aO:∀o,(setObj g o).run P w= .ok () (w.putObj g o):=fun o=>by simp[setObj,Sem.run,abT,World.putObj]
 constructor
 ·intro z hz hf
  simp only[Instr.mapEntry,Sem.run_bind,run_underlying hu,Result.andThen_ok,h1,q3,hf,hz,aO,Sem.run_pure]
 ·intro i m hm hf hk
  have e1:((en[i]?).map (·.key)).getD vk=m.key:=by rw[hm];rfl
  simp only[Instr.mapEntry,Sem.run_bind,run_underlying hu,Result.andThen_ok,h1,q3,hf,e1,hk,aO,Sem.run_pure]
  rw[hm];rfl
theorem DC{P:Program}{G:bT}(T:bB P G){gl:Ctx}{σ:St}{E:Env}{a:Act}{w:World}(h:cd gl σ E a w){hb:Nat→Option aN}(hB:HB hb σ.hp){t:TypeId}{x k:AV}{vx vk:Value}(hx:RV E w x vx)(hk:RV E w k vk){r:fj}(he:AW P G hb t x k=some r)(hvc:dH r.vc):
 ∃v w',(Instr.mapEntry t vx vk).run P w= .ok v w'∧cd gl {σ with hp:=aO σ.hp r.hw} E a w'∧RV E w' r.v v∧Ext gl.md (Own σ.hp E) E w (Own (aO σ.hp r.hw) E) E w':=by
 unfold AW at he
 split at he
 case h_2=>cases he
 rename_i ke ve kt vt b hm
 obtain⟨hu,hke,_,⟨kd,h4,h5⟩,⟨vd,h6,h7⟩⟩:=iE T hm
 subst h5;subst h7
 split at he
 case h_2=>cases he
 rename_i k0 u es e2 kx v pr hbk0
 split at he
 case isFalse=>cases he
 rename_i hc
 obtain⟨c1,c2⟩:=hc
 have e1:=Ty.aB c1;subst e1
 have e2':=Ty.aB c2;subst e2'
 split at he
 case h_2=>cases he
 rename_i k' hk'
 split at he
 case isFalse=>cases he
 rename_i hpl
 cases he
 simp only[aV,iM] at hpl
 obtain⟨⟨⟨⟨p1,p2⟩,p3⟩,p4⟩,p5⟩:=hpl
 obtain⟨he,hkx,hlen,_⟩:=hvc
 have hkx:k'=kx:=(cu hke _ _).1 hkx
 subst hkx
 have hkv:cF E w (.val kd.ty k') vk:=cF.bL hk' (RV.js p1 hk)
 have hbk:=hB b _ hbk0
 obtain⟨hrb,n,g9,en9,clock9,n1,n2,n3,n4,n5⟩:=h.hw.cH b _ hbk
 obtain⟨g0,hg0,ex⟩:=RV.atom rfl hx
 simp at ex;subst ex
 obtain⟨g,en,clock,r,q1,q2,q3,q4,q5⟩:=mQ T hke h4 he hrb hkv
 rw[q1] at hg0;have hg0:=iL hg0;subst hg0
 rw[q1] at n2;have n2:=iL n2;subst n2
 rw[q2] at n3;cases n3
 have kpo:∀o,bM E w E (w.putObj g o):=fun o=>⟨fun i hi=>World.putObj_heap_other (fun e=>h.hw.jT b _ g hbk q1 (e▸hi)),fun _ h=>h⟩
 have hlt:g<w.heap.size:=(Array.getElem?_eq_some_iff.1 q2).1
 obtain⟨R1,R2⟩:=xx hu q2 (q3 false)
 have tupOK:∀(w':World)(vv:Value),RC E w' v [vv]→RV E w' (.gC (.cons v (.cons (.eP b) .nil))) (.tuple #[vv,goInt n]):=by
  intro w' vv hv
  exact⟨#[vv,goInt n],rfl,Or.inr ⟨p3,hv⟩,Or.inr ⟨rfl,by rw[n1];rfl,n,n1⟩,rfl⟩
 have fin:∀(vv:Value)(en':Array MapEntry)(ab0:Nat),RC E w v [vv]→(Instr.mapEntry t (.map (some g)) vk).run P w= .ok (.tuple #[vv,goInt n]) (w.putObj g (.map en' ab0))→RB E (w.putObj g (.map en' ab0)) b (.fY kd.ty vd.ty (lJ kd.ty vd.ty k' es pr) e2 k' v true)→
  ∃v' w',(Instr.mapEntry t (.map (some g)) vk).run P w= .ok v' w'∧cd gl {σ with hp:=aO σ.hp [(b,some (.fY kd.ty vd.ty (lJ kd.ty vd.ty k' es pr) e2 k' v true))]} E a w'∧RV E w' (.gC (.cons v (.cons (.eP b) .nil))) v'∧Ext gl.md (Own σ.hp E) E w (Own (aO σ.hp [(b,some (.fY kd.ty vd.ty (lJ kd.ty vd.ty k' es pr) e2 k' v true))]) E) E w':=by
  intro vv en' ab0 hv abW hrb2
  have hw2:=h.hw.write hbk (by simp) (fun i hi=>World.putObj_heap_other (fun e=>hi (by rw[e];exact q1))) hrb2
  refine⟨_,_,abW,h.carry (kpo _) (fun _ _=>⟨rfl,rfl,rfl⟩) hw2,tupOK _ _ (RC.mono (kpo _) (fun _ _=>⟨rfl,rfl,rfl⟩) hv),⟨rfl,Tp.r rfl rfl,rfl,by simp,?_,fun _ h=>h,fun _ h=>Or.inl h,fun i hi=>Or.inl (Own.mf hbk hi),fun _ _=>⟨rfl,rfl,rfl⟩⟩⟩
  intro i hi ho
  exact World.putObj_heap_other (fun e=>ho ⟨b,_,hbk,by rw[e];exact Or.inl q1⟩)
 have hpm:=hrb
 obtain⟨z1,z2,z3,g',en',ab0,og,y1,y2,y3,y4,y5,y6,y7,y8⟩:=hpm
 rw[q1] at y1;cases y1
 rw[q2] at y2;cases y2
 rcases q5 with⟨e,hn⟩|⟨i,y,m,e,s1,s2⟩
 ·subst e
  have hpr:pr=false:=by
   cases pr with
   |false=>rfl
   |true=>exact absurd ((y8 _ v).2 rfl) hn
  subst hpr
  have hvv:RC E w v [zeroV vd.ty]:=(y8 _ v).1 rfl hn
  obtain⟨_,hsz,hpm⟩:=Co hke hrb q1 q2 hn hkv hvv p4 hlen kpo
  have hnc:=n4 hn
  refine fin (zeroV vd.ty) _ _ hvv (by rw[hnc];exact R1 _ (xp T h6 p5 w) q4) ⟨hpm,n,g,_,_,n1,q1,World.putObj_heap_same hlt,?_,?_⟩
  ·intro hh;exact absurd (by show k'∈(bE kd.ty k' vd.ty.aD es).map (·.1);rw[mn hke hn];simp) hh
  ·intro j m' y' hj hm'
   have hj:(bE kd.ty k' vd.ty.aD es)[j]? =some (k',y'):=hj
   have hz1:((bE kd.ty k' vd.ty.aD es).map (·.1)).Nodup:=dL hke z1
   have h2:(bE kd.ty k' vd.ty.aD es)[es.length]? =some (k',vd.ty.aD):=by rw[mn hke hn];simp
   have:=nW hz1 hj h2
   subst this
   rw[hsz] at hm'
   simp at hm'
   rw[←hm',hnc]
 ·subst e
  obtain⟨m',t1,t2,t3,t4⟩:=y7 i _ s1
  rw[s2] at t1;cases t1
  have hvv:=(t3 v pr rfl).2
  obtain⟨f1,f2⟩:=cF.fn hke t2 hkv
  have hstay:(Instr.keyThatStays m.key vk).run P w= .ok vk w:=by
   rw[Instr.keyThatStays,←f1,aA f2];simp
  have hb:=n5 i m y s1 s2
  obtain⟨⟨y',hes⟩,_,_,hpm⟩:=AP hke hrb q1 q2 s1 s2 (fun e=>{e with key:=vk}) (fun _=>rfl) hkv hvv p4 kpo
  have hi:i<es.length:=(List.getElem?_eq_some_iff.1 s1).1
  refine fin m.val _ _ hvv (by rw[←hb];exact R2 i m s2 q4 hstay) ⟨hpm,n,g,_,_,n1,q1,World.putObj_heap_same hlt,?_,?_⟩
  ·intro hh
   refine absurd ?_ hh
   rw[hes]
   exact List.mem_map.2 ⟨(k',y'),fP (i:=i) (by rw[bK,aA rfl,aA hi]),rfl⟩
  ·intro j m' y2 hj hm'
   have hz1:((lJ kd.ty vd.ty k' es pr).map (·.1)).Nodup:=hpm.1
   have h2:(lJ kd.ty vd.ty k' es pr)[i]? =some (k',y'):=by rw[hes,bK,aA rfl,aA hi]
   have:=nW hz1 hj h2
   subst this
   rw[Array.getElem?_modify,aA rfl,s2] at hm'
   simp at hm'
   rw[←hm'];exact hb
def AX(hb:Nat→Option aN)(x s y:AV):Option fj:=
 match x,s with
 |
  .mp b,.eP c=>match hb b with
  |some (.fY k0 u es e2 kx _ true)=>if Nat.beq b c&&k0.keyed&&y.plain&& !y.isAgg&&y.bW u then some ⟨.bot,[(b,some (.fY k0 u es e2 kx y true))],[],[]⟩ else none
  |_=>none
 |_,_=>none
theorem AY{en:Array MapEntry}(h:(en.toList.map (·.born)).Nodup){i j:Nat}{m m':MapEntry}(h1:en[i]? =some m)(h2:en[j]? =some m')(hb:m.born=m'.born):i=j:=by
 have e1:(en.toList.map (·.born))[i]? =some m.born:=by simp[h1]
 have e2:(en.toList.map (·.born))[j]? =some m.born:=by simp[h2,hb]
 obtain⟨l1,k1⟩:=List.getElem?_eq_some_iff.1 e1
 obtain⟨l2,k2⟩:=List.getElem?_eq_some_iff.1 e2
 have hp:=List.pairwise_iff_getElem.1 h
 rcases Nat.lt_trichotomy i j with hij|hij|hij
 ·exact absurd (k1.trans k2.symm) (hp i j l1 l2 hij)
 ·exact hij
 ·exact absurd (k2.trans k1.symm) (hp j i l2 l1 hij)
theorem DD{P:Program}{gl:Ctx}{σ:St}{E:Env}{a:Act}{w:World}(h:cd gl σ E a w){hb:Nat→Option aN}(hB:HB hb σ.hp){t:TypeId}{x s y:AV}{vx vs vy:Value}(hx:RV E w x vx)(hs:RV E w s vs)(hy:RV E w y vy){r:fj}(he:AX hb x s y=some r):
 ∃w',(Instr.entryStore t vx vs vy).run P w= .ok () w'∧cd gl {σ with hp:=aO σ.hp r.hw} E a w'∧RV E w' r.v undef∧Ext gl.md (Own σ.hp E) E w (Own (aO σ.hp r.hw) E) E w':=by
 unfold AX at he
 split at he
 case h_2=>cases he
 rename_i b c
 split at he
 case h_2=>cases he
 rename_i k0 u es e2 kx v0 hbk0
 split at he
 case isFalse=>cases he
 rename_i hpl
 cases he
 simp only[aV,iM] at hpl
 obtain⟨⟨⟨⟨p0,hke⟩,p2⟩,p3⟩,p4⟩:=hpl
 have p0:=bQ p0;subst p0
 have hyv:RC E w y [vy]:=by
  rcases RV.js p2 hy with⟨hh,_⟩|⟨_,hh⟩
  ·rw[p3] at hh;cases hh
  ·exact hh
 have hbk:=hB b _ hbk0
 obtain⟨hrb,n,g,en,clock,n1,q1,q2,n4,n5⟩:=h.hw.cH b _ hbk
 obtain⟨g0,hg0,ex⟩:=RV.atom rfl hx
 simp at ex;subst ex
 rw[q1] at hg0;have hg0:=iL hg0;subst hg0
 obtain⟨es1,_⟩:=RV.atom rfl hs
 simp at es1;subst es1
 have kpo:∀o,bM E w E (w.putObj g o):=fun o=>⟨fun i hi=>World.putObj_heap_other (fun e=>h.hw.jT b _ g hbk q1 (e▸hi)),fun _ h=>h⟩
 have hlt:g<w.heap.size:=(Array.getElem?_eq_some_iff.1 q2).1
 have hpm:=hrb
 obtain⟨z1,z2,z3,g',en',ab0,og,y1,y2,y3,y4,y5,y6,y7,y8⟩:=hpm
 rw[q1] at y1;cases y1
 rw[q2] at y2;cases y2
 have hin:=(y8 kx v0).2 rfl
 obtain⟨z,hz,ez⟩:=List.mem_map.1 hin
 obtain⟨zk,zy⟩:=z
 simp only at ez;subst ez
 obtain⟨i,s1⟩:=List.getElem?_of_mem hz
 obtain⟨m,s2,t2,t3,t4⟩:=y7 i _ s1
 have hb:=n5 i m zy s1 s2
 obtain⟨⟨y',hes⟩,_,_,hpm⟩:=AP hke hrb q1 q2 s1 s2 (fun e=>{e with val:=vy}) (fun _=>rfl) t2 hyv p4 kpo
 have hfind:en.findIdx? (fun e=>(e.born:Int)==(n:Int))=some i:=by
  rw[Array.findIdx?_eq_some_iff_getElem]
  obtain⟨hi,hm⟩:=Array.getElem?_eq_some_iff.1 s2
  refine⟨hi,by rw[hm];simp[hb],fun j hj=>?_⟩
  intro hbj
  have hj2:en[j]? =some en[j]:=by simp
  have:en[j].born=n:=by simp at hbj;omega
  have:=AY y4 hj2 s2 (by rw[this,hb])
  omega
 have h1:(getObj g).run P w= .ok (.map en clock) w:=by simp[getObj,Sem.run,q2]
 have aO:∀o,(setObj g o).run P w= .ok () (w.putObj g o):=fun o=>by simp[setObj,Sem.run,q2,World.putObj]
 have abW:(Instr.entryStore t (.map (some g)) (E.sv b) vy).run P w= .ok () (w.putObj g (.map (en.modify i fun e=>{e with val:=vy}) clock)):=by
  rw[n1]
  simp only[Instr.entryStore,Sem.run_bind,Sem.run_pure,Result.andThen_ok,h1,asInt,asIntOf,hfind,aO]
 have hw2:=h.hw.write (k':=.fY k0 u es e2 zk y true) hbk (by simp) (fun i hi=>World.putObj_heap_other (fun e=>hi (by rw[e];exact q1))) (w':=w.putObj g (.map (en.modify i fun e=>{e with val:=vy}) clock)) ⟨hpm,n,g,_,_,n1,q1,World.putObj_heap_same hlt,fun hh=>absurd hin hh,by
  intro j m' y2 hj hm'
  have:=nW z1 hj s1
  subst this
  rw[Array.getElem?_modify,aA rfl,s2] at hm'
  simp at hm'
  rw[←hm'];exact hb⟩
 refine⟨_,abW,h.carry (kpo _) (fun _ _=>⟨rfl,rfl,rfl⟩) hw2,trivial,⟨rfl,Tp.r rfl rfl,rfl,by simp,?_,fun _ h=>h,fun _ h=>Or.inl h,fun i hi=>Or.inl (Own.mf hbk hi),fun _ _=>⟨rfl,rfl,rfl⟩⟩⟩
 intro i hi ho
 exact World.putObj_heap_other (fun e=>ho ⟨b,_,hbk,by rw[e];exact Or.inl q1⟩)
end Go.Ax
namespace Go.Ax
def Cp:Ty→Bool
 | .aR .func=>true
 |_=>false
theorem Fi{t:Ty}(h:Cp t=true):t= .aR .func:=by
 unfold Cp at h
 split at h
 ·rfl
 ·cases h
def Lj(k0:Ty)(k:k0.den):List (k0.den×AV)→List VC
 |[]=>[]
 |x::l=>vc (aX k0 k x.1=false)::Lj k0 k l
def II(P:Program)(G:bT)(td:TD)(b:Nat)(k0:Ty)(l:List (k0.den×AV))(k v:AV):Option fj:=
 match G.at td.e,k.bL k0 with
 |some kd,some k'=>if td.ty.isMap&&k0.keyed&&Ty.same k0 kd.ty&&k.plain&&v.plain&& !v.isAgg then some ⟨.bot,[(b,some (.ig k0 (l++[(k',v)])))],[],vc (iS P G 40 td.e k0=true)::vc (l.length+1≤aE)::Lj k0 k' l⟩ else none
 |_,_=>none
def AZ(P:Program)(G:bT)(hb:Nat→Option aN)(t:TypeId)(x k v:AV):Option fj:=
 match G.at t,x with
 |
  some td,.mp b=>match hb b with
  |some (.map k0 u [])=>if Cp u then II P G td b k0 [] k v else none
  |some (.ig k0 l)=>II P G td b k0 l k v
  |_=>none
 |_,_=>none
def okF(ok:Bool)(x:AV)(b:Bool):AV:=match ok with
 |true=>.gC (.cons x (.cons (.val .bool b) .nil))
 |false=>x
def lK(ok:Bool)(k0:Ty)(k:k0.den):List (k0.den×AV)→AV
 |[]=>okF ok .fy false
 |x::l=>if aX k0 k x.1=true then okF ok x.2 true else lK ok k0 k l
def sd(P:Program)(G:bT)(hb:Nat→Option aN)(ok:Bool)(t:TypeId)(x k:AV):Option (AV×List VC):=
 match G.at t,x with
 |
  some td,.mp b=>match hb b with
  |
   some (.ig k0 l)=>match G.at td.e,G.at td.e2,k.bL k0 with
   |some kd,some vd,some k'=>if td.ty.isMap&&k0.keyed&&Ty.same k0 kd.ty&&k.plain&&Cp vd.ty then some (lK ok k0 k' l,[vc (iS P G 40 td.e k0=true)]) else none
   |_,_,_=>none
  |_=>none
 |_,_=>none
theorem RF.rk{E:Env}{w:World}{k:Ty}:∀{en:List MapEntry}{l:List (k.den×AV)},RF E w k en l→RK E w k en l
 |[],[],_=>trivial
 |[],_::_,h=>h.elim
 |_::_,[],h=>h.elim
 |_::_,_::_,h=>⟨h.1,RF.rk h.2.2.2⟩
theorem RF.get{E:Env}{w:World}{k:Ty}:∀{en:List MapEntry}{l:List (k.den×AV)}{i:Nat}{x:k.den×AV},RF E w k en l→l[i]? =some x→∃m,en[i]? =some m∧RC E w x.2 [m.val]∧x.2.isAgg=false
 |[],[],i,x,_,hx=>by simp at hx
 |[],_::_,_,_,h,_=>h.elim
 |_::_,[],_,_,h,_=>h.elim
 |m::_,_::_,0,x,h,hx=>by simp at hx;subst hx;exact⟨m,rfl,h.2.1,h.2.2.1⟩
 |_::_,_::_,i+1,x,h,hx=>by simpa using RF.get h.2.2.2 (by simpa using hx)
theorem RF.snoc{E:Env}{w:World}{k:Ty}{m:MapEntry}{x:k.den×AV}(h1:cF E w (.val k x.1) m.key)(h2:RC E w x.2 [m.val])(h3:x.2.isAgg=false):∀{en:List MapEntry}{l:List (k.den×AV)},RF E w k en l→RF E w k (en++[m]) (l++[x])
 |[],[],_=>⟨h1,h2,h3,trivial⟩
 |[],_::_,h=>h.elim
 |_::_,[],h=>h.elim
 |_::_,_::_,h=>⟨h.1,h.2.1,h.2.2.1,RF.snoc h1 h2 h3 h.2.2.2⟩
theorem Cq{k0:Ty}(hk:k0.keyed=true){k:k0.den}:∀{l:List (k0.den×AV)},dH (Lj k0 k l)→k∉l.map (·.1)
 |[],_=>by simp
 |
  x::l,⟨h1,h2⟩=>by
  have h1:aX k0 k x.1=false:=h1
  simp only[dp,eA,not_or]
  refine⟨fun e=>?_,Cq hk h2⟩
  rw[(cu hk _ _).2 e] at h1;cases h1
theorem yU{ok:Bool}{k0:Ty}(hk:k0.keyed=true){k:k0.den}:∀{l:List (k0.den×AV)}{i:Nat}{v:AV},(l.map (·.1)).Nodup→l[i]? =some (k,v)→lK ok k0 k l=okF ok v true
 |[],i,v,_,h=>by simp at h
 |x::l,0,v,_,h=>by simp at h;subst h;simp only[lK];rw[aA ((cu hk _ _).2 rfl)]
 |
  x::l,i+1,v,hn,h=>by
  simp only[dp,nn] at hn
  have hm:l[i]? =some (k,v):=by simpa using h
  have hne:¬aX k0 k x.1=true:=fun e=>hn.1 (by rw[←(cu hk _ _).1 e];exact List.mem_map.2 ⟨_,fP hm,rfl⟩)
  simp only[lK];rw[aC hne];exact yU hk hn.2 hm
theorem yV{ok:Bool}{k0:Ty}(hk:k0.keyed=true){k:k0.den}:∀{l:List (k0.den×AV)},k∉l.map (·.1)→lK ok k0 k l=okF ok .fy false
 |[],_=>rfl
 |
  x::l,h=>by
  simp only[dp,eA,not_or] at h
  simp only[lK];rw[aC (fun e=>h.1 ((cu hk _ _).1 e))];exact yV hk h.2
theorem Cr{P:Program}{G:bT}(T:bB P G){E:Env}{w:World}{td kd:TD}{k0:Ty}{l:List (k0.den×AV)}{en:List MapEntry}(hk:k0.keyed=true)(h4:G.at td.e=some kd)(hs:Ty.same k0 kd.ty=true)(he:iS P G 40 td.e k0=true)(hr:RF E w k0 en l){k':k0.den}{vk:Value}(hkv:cF E w (.val k0 k') vk):
 (∀em,(Instr.checkKey em 10000 td.e vk).run P w= .ok () w)∧∃r,(Instr.findKey td.e vk en).run P w= .ok r w∧((r=none∧k'∉l.map (·.1))∨∃i v m,r=some (i,m.val)∧l[i]? =some (k',v)∧en[i]? =some m):=by
 have e:=Ty.aB hs
 subst e
 refine⟨fun em=>iT T (E:=E) (w:=w) em 9960 40 _ kd h4 he k' vk hkv,?_⟩
 obtain⟨r,r1,r2⟩:=yT T h4 he hkv hr.rk
 refine⟨r,r1,?_⟩
 cases hf:dG kd.ty k' l 0 with
 |
  none=>
  rw[hf] at r2
  cases r with
  |none=>exact Or.inl ⟨rfl,nV hk hf⟩
  |some _=>exact r2.elim
 |
  some p=>
  obtain⟨i,y⟩:=p
  rw[hf] at r2
  cases r with
  |none=>exact r2.elim
  |
   some q=>
   obtain⟨i',u⟩:=q
   obtain⟨e1,_,m,e2,e3⟩:=r2
   simp only[Nat.sub_zero] at e1 e2 e3
   subst e1;subst e3
   have:=(nU hk hf).2
   exact Or.inr ⟨i,y,m,rfl,by simpa using this,by simpa using e2⟩
theorem Cs{P:Program}{G:bT}(T:bB P G){gl:Ctx}{σ:St}{E:Env}{a:Act}{w:World}(h:cd gl σ E a w){t:TypeId}{td:TD}(ht:G.at t=some td){b:Nat}{k0:Ty}{l:List (k0.den×AV)}{k v:AV}{vk vv:Value}(hk:RV E w k vk)(hv:RV E w v vv){r:fj}(he:II P G td b k0 l k v=some r)(hvc:dH r.vc)
 {kb:aN} (hbk:σ.hp[b]? =some (some kb)) (hrb:RB E w b (.ig k0 l)) {g:Nat} (hg:E.g b=some g):
 ∃w',(Instr.mapUpdate t (.map (some g)) vk vv).run P w= .ok () w'∧cd gl {σ with hp:=aO σ.hp r.hw} E a w'∧RV E w' r.v undef∧Ext gl.md (Own σ.hp E) E w (Own (aO σ.hp r.hw) E) E w':=by
 unfold II at he
 split at he
 case h_2=>cases he
 rename_i kd k' h4 hk'
 split at he
 case isFalse=>cases he
 rename_i hc
 cases he
 simp only[aV,iM] at hc
 obtain⟨⟨⟨⟨⟨c1,c2⟩,c3⟩,c4⟩,c5⟩,c6⟩:=hc
 obtain⟨he,hlen,hdif⟩:=hvc
 have hn:=Cq c2 hdif
 have hu:=T.mapOf ht c1
 have hkv:cF E w (.val k0 k') vk:=cF.bL hk' (RV.js c4 hk)
 have hvv:RC E w v [vv]:=by
  rcases RV.js c5 hv with⟨hh,_⟩|⟨_,hh⟩
  ·rw[c6] at hh;cases hh
  ·exact hh
 obtain⟨z1,z2,g',en,clock,q1,q2,q3⟩:=hrb
 rw[hg] at q1;cases q1
 obtain⟨k1,r,k2,k3⟩:=Cr T c2 h4 c3 he q3 hkv
 rcases k3 with⟨e,_⟩|⟨i,y,m,_,s1,_⟩
 case inr=>exact absurd (List.mem_map.2 ⟨_,fP s1,rfl⟩) hn
 subst e
 have h1:(getObj g).run P w= .ok (.map en clock) w:=by simp[getObj,Sem.run,q2]
 have aO:∀o,(setObj g o).run P w= .ok () (w.putObj g o):=fun o=>by simp[setObj,Sem.run,q2,World.putObj]
 have hlt:g<w.heap.size:=(Array.getElem?_eq_some_iff.1 q2).1
 have kpo:∀o,bM E w E (w.putObj g o):=fun o=>⟨fun i hi=>World.putObj_heap_other (fun e=>h.hw.jT b _ g hbk hg (e▸hi)),fun _ h=>h⟩
 have abW:(Instr.mapUpdate t (.map (some g)) vk vv).run P w= .ok () (w.putObj g (.map (en.push {key:=vk,val:=vv,born:=clock}) (clock+1))):=by
  simp only[Instr.mapUpdate,Sem.run_bind,run_underlying hu,Result.andThen_ok,h1,k1,k2,aO]
 have hw2:=h.hw.write (k':=.ig k0 (l++[(k',v)])) hbk (by simp) (fun i hi=>World.putObj_heap_other (fun e=>hi (by rw[e];exact hg))) (w':=w.putObj g (.map (en.push {key:=vk,val:=vv,born:=clock}) (clock+1))) ⟨by
  rw[np]
  refine List.nodup_append.2 ⟨z1,by simp,?_⟩
  intro x hx y hy
  simp at hy;subst hy
  exact fun e=>hn (e▸hx),by simpa using hlen,g,_,_,hg,World.putObj_heap_same hlt,by
  rw[Array.toList_push]
  exact RF.snoc (cF.mono (kpo _) (fun _ hb=>by cases hb) hkv) (RC.mono (kpo _) (fun _ _=>⟨rfl,rfl,rfl⟩) hvv) c6 (RF.mono (kpo _) (fun _ _=>⟨rfl,rfl,rfl⟩) q3)⟩
 refine⟨_,abW,h.carry (kpo _) (fun _ _=>⟨rfl,rfl,rfl⟩) hw2,trivial,⟨rfl,Tp.r rfl rfl,rfl,by simp,?_,fun _ h=>h,fun _ h=>Or.inl h,fun i hi=>Or.inl (Own.mf hbk hi),fun _ _=>⟨rfl,rfl,rfl⟩⟩⟩
 intro i hi ho
 exact World.putObj_heap_other (fun e=>ho ⟨b,_,hbk,by rw[e];exact Or.inl hg⟩)
theorem DE{P:Program}{G:bT}(T:bB P G){gl:Ctx}{σ:St}{E:Env}{a:Act}{w:World}(h:cd gl σ E a w){hb:Nat→Option aN}(hB:HB hb σ.hp){t:TypeId}{x k v:AV}{vx vk vv:Value}(hx:RV E w x vx)(hk:RV E w k vk)(hv:RV E w v vv){r:fj}(he:AZ P G hb t x k v=some r)(hvc:dH r.vc):
 ∃w',(Instr.mapUpdate t vx vk vv).run P w= .ok () w'∧cd gl {σ with hp:=aO σ.hp r.hw} E a w'∧RV E w' r.v undef∧Ext gl.md (Own σ.hp E) E w (Own (aO σ.hp r.hw) E) E w':=by
 unfold AZ at he
 split at he
 case h_2=>cases he
 rename_i td b ht
 obtain⟨g0,hg0,ex⟩:=RV.atom rfl hx
 simp at ex;subst ex
 split at he
 ·rename_i k0 u hbk0
  split at he
  case isFalse=>cases he
  have hbk:=hB b _ hbk0
  obtain⟨z1,z2,g,en,clock,q1,q2,q3,_⟩:=h.hw.cH b _ hbk
  refine Cs T h ht hk hv he hvc hbk ⟨by simp,by simp,g,en,clock,q1,q2,?_⟩ hg0
  cases hen:en.toList with
  |nil=>trivial
  |cons m l=>rw[hen] at q3;exact q3.elim
 ·rename_i k0 l hbk0
  have hbk:=hB b _ hbk0
  exact Cs T h ht hk hv he hvc hbk (h.hw.cH b _ hbk) hg0
 ·cases he
theorem A0{P:Program}{G:bT}(T:bB P G){gl:Ctx}{E:Env}{w:World}{hp:List (Option aN)}(hw:HW gl E w hp){hb:Nat→Option aN}(hB:HB hb hp){ok:Bool}{t:TypeId}{x k:AV}{vx vk:Value}(hx:RV E w x vx)(hk:RV E w k vk){r:AV}{vcs:List VC}(h:sd P G hb ok t x k=some (r,vcs))(hvc:dH vcs):
 ∃v,(Instr.lookup t vx vk ok).run P w= .ok v w∧RV E w r v:=by
 unfold sd at h
 split at h
 case h_2=>cases h
 rename_i td b ht
 split at h
 case h_2=>cases h
 rename_i k0 l hbk0
 split at h
 case h_2=>cases h
 rename_i kd vd k' h4 h6 hk'
 split at h
 case isFalse=>cases h
 rename_i hc
 cases h
 simp only[aV] at hc
 obtain⟨⟨⟨⟨c1,c2⟩,c3⟩,c4⟩,c5⟩:=hc
 obtain⟨he,_⟩:=hvc
 have hu:=T.mapOf ht c1
 have hkv:cF E w (.val k0 k') vk:=cF.bL hk' (RV.js c4 hk)
 obtain⟨g0,hg0,ex⟩:=RV.atom rfl hx
 simp at ex;subst ex
 obtain⟨z1,z2,g,en,clock,q1,q2,q3⟩:=hw.cH b _ (hB b _ hbk0)
 rw[q1] at hg0;cases hg0
 obtain⟨k1,rr,k2,k3⟩:=Cr T c2 h4 c3 he q3 hkv
 have h1:(getObj g0).run P w= .ok (.map en clock) w:=by simp[getObj,Sem.run,q2]
 rcases k3 with⟨e,hn⟩|⟨i,y,m,e,s1,s2⟩
 ·subst e
  obtain⟨z,y1,y2,y3⟩:=T.zero h6 w
  have hz:=Fi c5
  rw[hz] at y2 y3
  have hzz:RC E w .fy [z]:=by
   have:=(fA (E:=E) (w:=w) y2).1
   cases z with
   |agg cs=>simp[yB,Ty.isAgg] at y3
   |_=>exact this
  rw[yV c2 hn]
  cases ok with
  |
   true=>
   refine⟨.tuple #[z,.bool false],by simp only[Instr.lookup,Sem.run_bind,run_underlying hu,Result.andThen_ok,Sem.run_pure,h1,k1,k2,y1];rfl,?_⟩
   exact⟨#[z,.bool false],rfl,Or.inr ⟨rfl,hzz⟩,RV.bool,rfl⟩
  |
   false=>
   refine⟨z,by simp only[Instr.lookup,Sem.run_bind,run_underlying hu,Result.andThen_ok,Sem.run_pure,h1,k1,k2,y1];rfl,?_⟩
   exact RV.dO (Or.inr ⟨rfl,hzz⟩)
 ·subst e
  obtain⟨m',r1,r2,r3⟩:=RF.get q3 s1
  rw[s2] at r1;cases r1
  rw[yU c2 z1 s1]
  cases ok with
  |
   true=>
   refine⟨.tuple #[m.val,.bool true],by simp only[Instr.lookup,Sem.run_bind,run_underlying hu,Result.andThen_ok,Sem.run_pure,h1,k1,k2];rfl,?_⟩
   exact⟨#[m.val,.bool true],rfl,Or.inr ⟨r3,r2⟩,RV.bool,rfl⟩
  |
   false=>
   refine⟨m.val,by simp only[Instr.lookup,Sem.run_bind,run_underlying hu,Result.andThen_ok,Sem.run_pure,h1,k1,k2];rfl,?_⟩
   exact RV.dO (Or.inr ⟨r3,r2⟩)
def tJ(P:Program)(G:bT)(op:Op)(ev:Operand→AV)(hb:Nat→Option aN):Option fj:=
 match op with
 | .mapEntry t x k=>AW P G hb t (ev x) (ev k)
 | .entryStore _ x s y=>AX hb (ev x) (ev s) (ev y)
 | .insert t x k v=>AZ P G hb t (ev x) (ev k) (ev v)
 | .lookup t x k ok=>(sd P G hb ok t (ev x) (ev k)).map .Gw
 | .convert s d x=>xu G hb s d (ev x)
 | .field t x i=>(xw G t (ev x) i).map .one
 |_=>none
theorem Fj{P:Program}{G:bT}(T:bB P G){gl:Ctx}{σ:St}{E:Env}{a:Act}{w:World}(h:cd gl σ E a w){o:Oper}{ev:Operand→AV}{hb:Nat→Option aN}(hB:HB hb σ.hp){r:fj}
 (hev:∀x∈o.op.operands.toList,RV E w (ev x) (a.eval x)) (he:tJ P G o.op ev hb=some r) (hvc:dH r.vc):bX P gl σ E a w o r:=by
 unfold tJ at he
 split at he
 ·rename_i t x k hop
  obtain⟨v,w',h1,h2,h3,h4⟩:=DC T h hB (hev x (by simp[hop,Op.operands])) (hev k (by simp[hop,Op.operands])) he hvc
  exact⟨_,v,w',E,by simp[execOp,hop,h1],Or.inl rfl,h2,h3,h4⟩
 ·rename_i t x s y hop
  obtain⟨w',h1,h2,h3,h4⟩:=DD (P:=P) (t:=t) h hB (hev x (by simp[hop,Op.operands])) (hev s (by simp[hop,Op.operands])) (hev y (by simp[hop,Op.operands])) he
  exact⟨_,undef,w',E,by simp[execOp,hop,h1],Or.inr ⟨rfl,rfl⟩,h2,h3,h4⟩
 ·rename_i t x k v hop
  obtain⟨w',h1,h2,h3,h4⟩:=DE T h hB (hev x (by simp[hop,Op.operands])) (hev k (by simp[hop,Op.operands])) (hev v (by simp[hop,Op.operands])) he hvc
  exact⟨_,undef,w',E,by simp[execOp,hop,h1],Or.inr ⟨rfl,rfl⟩,h2,h3,h4⟩
 ·rename_i t x k ok hop
  obtain⟨⟨u,vc⟩,hu,rfl⟩:=Option.map_eq_some_iff.1 he
  obtain⟨v,h1,h2⟩:=A0 T h.hw hB (hev x (by simp[hop,Op.operands])) (hev k (by simp[hop,Op.operands])) hu hvc
  exact bX.same h (v:=v) (by simp[execOp,hop,h1]) h2
 ·rename_i s d x hop
  obtain⟨v,w',E',h1,h2,h3,h4⟩:=AT T h hB (hev x (by simp[hop,Op.operands])) he hvc
  exact⟨_,v,w',E',by simp[execOp,hop,h1],Or.inl rfl,h2,h3,h4⟩
 ·rename_i t x i hop
  obtain⟨u,hu,rfl⟩:=Option.map_eq_some_iff.1 he
  obtain⟨v,h1,h2⟩:=AU T (hev x (by simp[hop,Op.operands])) hu
  exact bX.same h (v:=v) (by simp[execOp,hop,h1]) h2
 ·cases he
end Go.Ax
noncomputable section
namespace Go.Ax
theorem qQ:∀{l m:List VC},dH (l++m)→dH l∧dH m
 |[],_,h=>⟨trivial,h⟩
 |_::_l,_,h=>⟨⟨h.1,(qQ h.2).1⟩,(qQ h.2).2⟩
def gi(need:List Nat)(hp:List (Option aN))(b:Nat):Option aN:=if cT b need then(hp[b]?).join else none
def Fk:Operand→List Nat
 | .tmp t=>[t]
 |_=>[]
def slotsOf(l:List Operand):List Nat:=l.flatMap Fk
def kI(ops:Array Oper)(o:Oper):Option Nat:=
 match o.guard with
 |none=>none
 |some (j,_)=>(ops[j]?).bind (·.dst)
def Nv:Bool→Bool→Bool
 |true,b=>b
 |false,b=> !b
def guardOf(ops:Array Oper)(tm:List AV)(o:Oper):Option Bool:=
 match o.guard with
 |none=>some true
 |
  some (j,want)=>match(ops[j]?).bind (·.dst) with
  |
   some t=>match tm[t]? with
   |some (.val .bool b)=>some (Nv b want)
   |some (.gC .nil)=>some false
   |_=>none
  |none=>none
def Kh:Option Nat→Nat
 |some d=>d+16
 |none=>16
def ld:Op→Bool
 | .call {callee:=.builtin _, .. }=>false
 | .call _=>true
 |_=>false
def mo(P:Program)(G:bT)(d:Nat)(op:Op)(ev:Operand→AV)(hb:Nat→Option aN):Option fj:=
 match BF P G d op ev hb with
 |some e=>some e
 |
  none=>match uw P G d op ev hb with
  |some e=>some e
  |
   none=>match tD P G d op ev with
   |some e=>some e
   |
    none=>match tF G op ev with
    |some e=>some e
    |
     none=>match tG P G op ev hb with
     |some e=>some e
     |
      none=>match tH G d op ev hb with
      |some e=>some e
      |none=>tJ P G op ev hb
theorem yW{P:Program}{G:bT}{d:Nat}{op:Op}{ev:Operand→AV}{hb:Nat→Option aN}{r:fj}(h:mo P G d op ev hb=some r):∀c,op≠.defer c:=by
 intro c e;subst e;simp[mo,BF,uw,tD,tF,tG,tH,tJ] at h
theorem yX{P:Program}{G:bT}(T:bB P G){gl:Ctx}{σ:St}{E:Env}{a:Act}{w:World}(h:cd gl σ E a w){o:Oper}{d:Nat}{ev:Operand→AV}{hb:Nat→Option aN}(hB:HB hb σ.hp){r:fj}
 (hev:∀x∈o.op.operands.toList,RV E w (ev x) (a.eval x)) (ack:∀x∈o.op.operands.toList,∀b∈(ev x).ids,b∈σ.ids) (he:mo P G d o.op ev hb=some r) (hvc:dH r.vc) (hfr:∀b∈r.fr,σ.fresh b):bX P gl σ E a w o r:=by
 unfold mo at he
 split at he
 ·rename_i e h1;cases he;exact Gk T h hB hev ack h1 hvc hfr
 ·split at he
  ·rename_i e h1;cases he;exact Gt T h hB hev h1 hvc hfr
  ·split at he
   ·rename_i e h1;cases he;exact Fa T h hev h1 hvc hfr
   ·split at he
    ·rename_i e h1;cases he;exact Fb T h hev h1
    ·split at he
     ·rename_i e h1;cases he;exact Fg T h hB hev h1 hvc
     ·split at he
      ·rename_i e h1;cases he;exact Fh T h hB hev h1 hfr
      ·exact Fj T h hB hev he hvc
theorem yY{P:Program}{G:bT}{d:Nat}{ok:Bool}{t:TypeId}{x k:Operand}{ev:Operand→AV}{hb:Nat→Option aN}{r:fj}(h:mo P G d (.lookup t x k ok) ev hb=some r){b:Nat}{k0:Ty}{l:List (k0.den×AV)}{k':k0.den}(hx:ev x= .mp b)(hbk:∀kb,hb b=some kb→kb= .ig k0 l)(hk:(ev k).bL k0=some k'):r.v=lK ok k0 k' l:=by
 have h2:uw P G d (.lookup t x k ok) ev hb=none:=by
  show(mE P G hb t (ev x) (ev k) ok).map fj.Gw=none
  unfold mE
  rw[hx]
  cases jQ G t with
  |none=>rfl
  |
   some m=>
   obtain⟨ke,ve,kt,vt⟩:=m
   simp only[vO]
   cases hh:hb b with
   |none=>rfl
   |some kb=>rw[hbk kb hh];rfl
 have h5:tG P G (.lookup t x k ok) ev hb=none:=by
  cases ok with
  |true=>rfl
  |
   false=>
   show(pd P G hb t (ev x) (ev k)).map fj.Gw=none
   unfold pd
   rw[hx]
   cases jQ G t with
   |none=>rfl
   |
    some m=>
    obtain⟨ke,ve,kt,vt⟩:=m
    cases hh:hb b with
    |none=>simp only[hh];rfl
    |some kb=>simp only[hh,hbk kb hh];rfl
 unfold mo at h
 rw[show BF P G d (.lookup t x k ok) ev hb=none from rfl,h2,show tD P G d (.lookup t x k ok) ev=none from rfl,show tF G (.lookup t x k ok) ev=none from rfl,h5,show tH G d (.lookup t x k ok) ev hb=none from rfl] at h
 simp only[tJ,fm] at h
 obtain⟨⟨u,vc⟩,hu,rfl⟩:=h
 unfold sd at hu
 rw[hx] at hu
 split at hu
 case h_2=>cases hu
 rename_i td b' ht heq
 cases heq
 split at hu
 case h_2=>cases hu
 rename_i k0' l' hh
 have:=hbk _ hh
 cases this
 split at hu
 case h_2=>cases hu
 rename_i kd vd k2 _ _ hk2
 rw[hk] at hk2;cases hk2
 split at hu
 ·cases hu;rfl
 ·cases hu
def i7(us:List Nat)(hb:Nat→Option aN):List (Nat×Option aN)→List (Nat×Option aN)×List VC
 |[]=>([],[])
 |
  x::l=>match x.2 with
  |some k=>if cT x.1 us then((i7 us hb l).1,⟨hb x.1=some k,Classical.propDecidable _⟩::(i7 us hb l).2) else(x::(i7 us hb l).1,(i7 us hb l).2)
  |none=>(x::(i7 us hb l).1,(i7 us hb l).2)
theorem nX{us:List Nat}{hb:Nat→Option aN}{hp0:List (Option aN)}(hB:HB hb hp0):∀{l:List (Nat×Option aN)}{hp:List (Option aN)},(∀b∈l.map (·.1),hp[b]? =hp0[b]?)→(l.map (·.1)).Nodup→dH (i7 us hb l).2→aO hp (i7 us hb l).1=aO hp l
 |[],_,_,_,_=>rfl
 |
  (b,k)::l,hp,h,hn,hv=>by
  simp only[dp,nn] at hn
  have zf:dH (i7 us hb l).2→aO (hp.set b k) (i7 us hb l).1=aO (hp.set b k) l:=fun hv=>nX hB (fun c hc=>by
   have:b≠c:=fun e=>hn.1 (e▸hc)
   rw[List.getElem?_set_ne this]
   exact h c (dr _ hc)) hn.2 hv
  cases k with
  |none=>simp only[i7] at hv ⊢;exact zf hv
  |
   some k=>
   by_cases hu:cT b us=true
   ·simp only[i7,aA hu] at hv ⊢
    have e:hp[b]? =some (some k):=by
     rw[h b (cK ..)]
     exact hB b k hv.1
    have e2:hp.set b (some k)=hp:=by
     apply List.ext_getElem?
     intro i
     rw[bK]
     split
     ·rename_i hi;subst hi
      obtain⟨hlt,_⟩:=List.getElem?_eq_some_iff.1 e
      rw[aA hlt,e]
     ·rfl
    show aO hp (i7 us hb l).1=aO (hp.set b (some k)) l
    rw[e2]
    exact nX hB (fun c hc=>h c (dr _ hc)) hn.2 hv.2
   ·simp only[i7,aC hu] at hv ⊢
    exact zf hv
theorem dH.app:∀{l m:List VC},dH (l++m)→dH l∧dH m
 |[],_,h=>⟨trivial,h⟩
 |_::_,_,h=>⟨⟨h.1,(dH.app h.2).1⟩,(dH.app h.2).2⟩
def tK(r:CR)(hb:Nat→Option aN)(x:fj×List Prop):Option (fj×List Prop):=match r.us with
 |[]=>some x
 |us=>if !r.kr&&kq (x.1.hw.map (·.1)) then some (⟨x.1.v,(i7 us hb x.1.hw).1,x.1.fr,x.1.vc++(i7 us hb x.1.hw).2⟩,x.2) else none
theorem Fl{r:CR}{hb:Nat→Option aN}{hp:List (Option aN)}(hB:HB hb hp){x y:fj×List Prop}(h:tK r hb x=some y)(hv:dH y.1.vc):y.1.v=x.1.v∧y.1.fr=x.1.fr∧y.2=x.2∧aO hp y.1.hw=aO hp x.1.hw:=by
 unfold tK at h
 split at h
 ·cases h;exact⟨rfl,rfl,rfl,rfl⟩
 ·split at h
  ·rename_i hc
   cases h
   simp only[aV] at hc
   exact⟨rfl,rfl,rfl,nX hB (fun _ _=>rfl) (fN hc.2) (dH.app hv).2⟩
  ·cases h
theorem IJ{r:CR}{hb:Nat→Option aN}{x y:fj×List Prop}(h:tK r hb x=some y):y.2=x.2:=by
 unfold tK at h
 split at h
 ·cases h;rfl
 ·split at h
  ·cases h;rfl
  ·cases h
theorem DF{r:CR}(hp:r.kr=true){hb:Nat→Option aN}{x y:fj×List Prop}(h:tK r hb x=some y):y=x:=by
 unfold tK at h
 split at h
 ·cases h;rfl
 ·simp[hp] at h
def mq(P:Program)(G:bT)(gl:Ctx)(d:Nat)(r:CR)(op:Op)(ev:Operand→AV)(hb:Nat→Option aN):Option (fj×List Prop):=
 match op with
 |
  .call c=>match c.callee with
  | .builtin _=>(mo P G d (.call c) ev hb).map fun e=>(e,[])
  |_=>Option.bind (nR P G gl r ev hb c) (tK r hb)
 |op=>(mo P G d op ev hb).map fun e=>(e,[])
def O7:List (Nat×Ty)→Nat→Option Ty
 |[],_=>none
 |(t,ty)::l,x=>if Nat.beq t x then some ty else O7 l x
def DG(hb:Nat→Option aN)(z:List (Nat×Ty))(ev:Operand→AV):Operand→AV
 |
  .tmp t=>match O7 z t with
  |
   some ty=>match view hb (ev (.tmp t)) false ty with
   |some (y,_)=>if(ev (.tmp t)).plain then y else .bot
   |none=>.bot
  |none=>ev (.tmp t)
 |x=>ev x
def kJ(hb:Nat→Option aN)(ev:Operand→AV):List (Nat×Ty)→List Nat
 |[]=>[]
 |
  (t,ty)::l=>(match view hb (ev (.tmp t)) false ty with
  |some (_,m)=>m
  |none=>[])++kJ hb ev l
def lR(ev:Operand→AV):List (Nat×Ty)→List Nat
 |[]=>[]
 |(t,_)::l=>(ev (.tmp t)).ids++lR ev l
def ep:List Nat→List (Nat×Option aN)
 |[]=>[]
 |b::l=>(b,none)::ep l
def Fm:List (Nat×Ty)→List Nat
 |[]=>[]
 |(t,_)::l=>t::Fm l
def Ki:List (Nat×Nat×Ty)→Nat→List (Nat×Ty)
 |[],_=>[]
 |(j,t,ty)::l,i=>if Nat.beq j i then(t,ty)::Ki l i else Ki l i
def ei(P:Program)(G:bT)(gl:Ctx)(ops:Array Oper)(r:CR)(z:List (Nat×Ty))(σ:St)(i:Nat):Option (aU×List VC×List Prop):=
 match ops[i]? with
 |none=>none
 |
  some o=>
  match guardOf ops σ.tm o with
  |none=>none
  |some false=>some (⟨(kI ops o).toList,[],[],o.dst,.gC .nil,[]⟩,[],[])
  |
   some true=>
   match z with
   |
    []=>(match mq P G gl (Kh o.dst) r o.op (bG gl σ.tm) (gi (qZ o.op (bG gl σ.tm)++r.ps.map (·.2)) σ.hp) with
    |none=>none
    |some (e,ob)=>some (⟨slotsOf o.op.operands.toList++(kI ops o).toList,qZ o.op (bG gl σ.tm)++r.ps.map (·.2),e.fr,o.dst,e.v,e.hw⟩,e.vc,ob))
   |
    z=>(match mq P G gl (Kh o.dst) r o.op (DG (gi (lR (bG gl σ.tm) z) σ.hp) z (bG gl σ.tm)) (gi (qZ o.op (DG (gi (lR (bG gl σ.tm) z) σ.hp) z (bG gl σ.tm))++r.ps.map (·.2)) (aO σ.hp (ep (kJ (gi (lR (bG gl σ.tm) z) σ.hp) (bG gl σ.tm) z)))) with
    |none=>none
    |some (e,ob)=>some (⟨slotsOf o.op.operands.toList++Fm z++(kI ops o).toList,lR (bG gl σ.tm) z++(qZ o.op (DG (gi (lR (bG gl σ.tm) z) σ.hp) z (bG gl σ.tm))++r.ps.map (·.2)),e.fr,o.dst,e.v,ep (kJ (gi (lR (bG gl σ.tm) z) σ.hp) (bG gl σ.tm) z)++e.hw⟩,e.vc,ob))
theorem fH{gl:Ctx}{σ:St}{E:Env}{a:Act}{w:World}(h:cd gl σ E a w){ops:Array Oper}{o:Oper}{c:Bool}(hc:guardOf ops σ.tm o=some c):Region.wanted o (yielded ops a.tmps)=c:=by
 unfold guardOf at hc
 unfold Region.wanted
 split at hc
 ·rename_i hg
  cases hc;rw[hg]
 ·rename_i j want hg
  rw[hg]
  split at hc
  ·rename_i t ht
   have hy:∀v,a.tmps[t]? =some v→yielded ops a.tmps j=(match v with| .bool b=>some b|_=>none):=by
    intro v hv
    unfold yielded
    rw[ht];simp only[aH,hv]
    cases v<;>rfl
   split at hc
   ·rename_i b hb
    cases hc
    have hlt:t<a.tmps.size:=by rw[h.len];exact(List.getElem?_eq_some_iff.1 hb).1
    have hr:=h.tm t _ hb a.tmps[t] (by simp[hlt])
    have hv:=RV.dU hr
    simp only
    rw[hy a.tmps[t] (by simp[hlt]),hv]
    cases want<;>cases b<;>rfl
   ·rename_i hb
    cases hc
    have hlt:t<a.tmps.size:=by rw[h.len];exact(List.getElem?_eq_some_iff.1 hb).1
    obtain⟨vs,e,_⟩:=h.tm t _ hb a.tmps[t] (by simp[hlt])
    simp only
    rw[hy a.tmps[t] (by simp[hlt]),e]
    rfl
   ·cases hc
  ·cases hc
theorem iR{gl:Ctx}{σ σ':St}{rt rb:List Nat}(ha:jF σ σ' rt rb){x:Operand}(hx:∀t∈Fk x,t∈rt):bG gl σ'.tm x=bG gl σ.tm x:=by
 cases x with
 |tmp t=>simp only[bG];rw[ha.tm t (hx t (by simp[Fk]))]
 |_=>rfl
theorem gj{σ σ':St}{rt rb:List Nat}(ha:jF σ σ' rt rb){ops:Array Oper}{o:Oper}(hx:∀t∈(kI ops o).toList,t∈rt):guardOf ops σ'.tm o=guardOf ops σ.tm o:=by
 unfold guardOf
 unfold kI at hx
 split
 ·rfl
 ·rename_i j want hg
  rw[hg] at hx
  simp only at hx
  split
  ·rename_i t ht
   rw[ht] at hx
   rw[ha.tm t (hx t (by simp))]
  ·rfl
theorem kK{σ σ':St}{rt need:List Nat}(ha:jF σ σ' rt need):HB (gi need σ.hp) σ'.hp:=by
 intro b k hk
 unfold gi at hk
 split at hk
 ·rename_i hn
  have hm:b∈need:=by
   have key:∀l:List Nat,cT b l=true→b∈l:=by
    intro l
    induction l with
    |nil=>intro h;cases h
    |
     cons x l ih=>
     intro h
     simp only[cT,ek] at h
     rcases h with h|h
     ·rw[bQ h];exact cK ..
     ·exact dr _ (ih h)
   exact key need hn
  rw[ha.hp b hm]
  cases hx:σ.hp[b]? with
  |none=>rw[hx] at hk;cases hk
  |some y=>rw[hx] at hk;simp at hk;rw[hk]
 ·cases hk
theorem tL.wp{P:Program}{gl:Ctx}{σ:St}{E:Env}{a:Act}{w:World}{o:Oper}{r:fj}(h:tL P gl σ E a w o r){K:Act→World→Prop}{Q:Exit→Act→World→Prop}{x:AV}
 (hx:∀E' w' v,RV E' w' r.v v→RV E' w' x v) (hk:∀E' a' w',cd gl (({σ with hp:=aO σ.hp r.hw}:St).put o.dst x) E' a' w'→Ext gl.md (Own σ.hp E) E w (Own (aO σ.hp r.hw) E') E' w'→K a' w'):o.wpIn (Wd gl) 0 P a w K Q:=
 h K Q (fun E' v w' h1 h2 h3=>hk E' _ w' (h1.put o.dst (hx E' w' v h2)) h3)
theorem yZ{P:Program}{G:bT}(T:bB P G){gl:Ctx}{σ:St}{E:Env}{a:Act}{w:World}(h:cd gl σ E a w){o:Oper}{d:Nat}{x:CR}(ab4:x.kr=false){ev:Operand→AV}{hb:Nat→Option aN}(hB:HB hb σ.hp){r:fj}{ob:List Prop}
 (hev:∀x∈o.op.operands.toList,RV E w (ev x) (a.eval x)) (ack:∀x∈o.op.operands.toList,∀b∈(ev x).ids,b∈σ.ids) (he:mq P G gl d x o.op ev hb=some (r,ob)) (hvc:dH r.vc) (hob:∀p∈ob,p) (hfr:∀b∈r.fr,σ.fresh b):tL P gl σ E a w o r:=by
 unfold mq at he
 split at he
 ·rename_i c hop
  split at he
  ·simp only[fm,ff] at he
   obtain⟨e,he,rfl,_⟩:=he
   exact(yX T h hB hev ack (by rw[hop];exact he) hvc hfr).to (by rw[hop];exact yW he)
  ·simp only[qC] at he
   obtain⟨⟨e,ob'⟩,he,hk⟩:=he
   obtain⟨k1,k2,k3,k4⟩:=Fl hB hk hvc
   simp only at k1 k2 k3 k4
   subst k3
   have:=Dz T h hop hB ab4 hev he hob (by rw[←k2];exact hfr)
   intro K Q hK
   refine this K Q ?_
   rw[←k4,←k1]
   exact hK
 ·simp only[fm,ff] at he
  obtain⟨e,he,rfl,_⟩:=he
  exact(yX T h hB hev ack he hvc hfr).to (yW he)
theorem mr:∀(l m:List (Nat×Option aN))(hp:List (Option aN)),aO hp (l++m)=aO (aO hp l) m
 |[],_,_=>rfl
 |(b,k)::l,m,hp=>by simp only[List.cons_append,aO];exact mr l m _
theorem dv:∀{l:List Nat}{hp:List (Option aN)}{b:Nat}{k:aN},(aO hp (ep l))[b]? =some (some k)→b∉l∧hp[b]? =some (some k)
 |[],hp,b,k,h=>⟨by simp,h⟩
 |
  c::l,hp,b,k,h=>by
  simp only[ep,aO] at h
  obtain⟨h1,h2⟩:=dv h
  rw[bK] at h2
  split at h2
  ·split at h2<;>cases h2
  ·rename_i hne;exact⟨by simp only[eA,not_or];exact⟨fun e=>hne e.symm,h1⟩,h2⟩
theorem cd.Xu{gl:Ctx}{σ:St}{E:Env}{a:Act}{w:World}(h:cd gl σ E a w){l:List Nat}(hl:∀b∈l,∃k,σ.hp[b]? =some (some k)):
 cd gl {σ with hp:=aO σ.hp (ep l)} (E.cU l) a w∧Ext gl.md (Own σ.hp E) E w (Own (aO σ.hp (ep l)) (E.cU l)) (E.cU l) w:=by
 have hk:bM E w (E.cU l) w:=Env.dC l
 have on:∀ids,E.on (E.cU l) ids:=fun ids b _=>⟨rfl,rfl,rfl⟩
 refine⟨⟨h.len,fun i x hi v hv=>RV.mono hk (on _) (h.tm i x hi v hv),⟨?_,?_,?_,?_,h.hw.fT hk,fun b k g hb=>h.hw.qG b k g (dv hb).2⟩,RD.mono hk (fun _ _=>on _) h.df⟩,⟨rfl,Tp.r rfl rfl,rfl,cq _,fun _ _ _=>rfl,fun g hg=>Or.inl hg,?_,?_,fun _ _=>⟨rfl,rfl,rfl⟩⟩⟩
 ·intro b k hb
  exact RB.mono hk (on _) (fun _ _=>rfl) (fun _ _ h=>h) (h.hw.cH b k (dv hb).2)
 ·intro b b' k k' g hb hb' h1 h2
  exact h.hw.dN b b' k k' g (dv hb).2 (dv hb').2 h1 h2
 ·intro b k g hb hg hs
  obtain⟨h1,h2⟩:=dv hb
  rcases hs with hs|⟨c,hc,e⟩
  ·exact h.hw.dq b k g h2 hg hs
  ·obtain⟨k',hk'⟩:=hl c hc
   have:=h.hw.dN c b k' k g hk' h2 (Or.inl e) hg
   subst this;exact h1 hc
 ·rintro g (hs|⟨c,hc,e⟩)
  ·exact h.hw.slt g hs
  ·obtain⟨k',hk'⟩:=hl c hc
   exact Own.below h.hw ⟨c,k',hk',Or.inl e⟩
 ·rintro g (hs|⟨c,hc,e⟩)
  ·exact Or.inl hs
  ·obtain⟨k',hk'⟩:=hl c hc
   exact Or.inr (Or.inl ⟨c,k',hk',Or.inl e⟩)
 ·rintro g ⟨b,k,hb,hg⟩
  exact Or.inl ⟨b,k,(dv hb).2,hg⟩
theorem nY{hb:Nat→Option aN}{ev:Operand→AV}:∀{z:List (Nat×Ty)}{b:Nat},b∈kJ hb ev z→∃k,hb b=some k
 |[],b,h=>by cases h
 |
  (t,ty)::l,b,h=>by
  simp only[kJ,gA] at h
  rcases h with h|h
  ·split at h
   ·rename_i y m hv;exact qq hv b h
   ·cases h
  ·exact nY h
theorem zb{hb:Nat→Option aN}{ev:Operand→AV}{t:Nat}{ty:Ty}{y:AV}{m:List Nat}(hv:view hb (ev (.tmp t)) false ty=some (y,m)):∀{z:List (Nat×Ty)},O7 z t=some ty→∀b∈m,b∈kJ hb ev z
 |[],h,b,hbm=>by cases h
 |
  (t',ty')::l,h,b,hbm=>by
  simp only[O7] at h
  simp only[kJ,gA]
  split at h
  ·rename_i e
   have e:=bQ e
   subst e;cases h
   left;rw[hv];exact hbm
  ·exact Or.inr (zb hv h b hbm)
theorem Fo{gl:Ctx}{σ:St}{E:Env}{a:Act}{w:World}(h:cd gl σ E a w){hb:Nat→Option aN}(hB:HB hb σ.hp){z:List (Nat×Ty)}{ev:Operand→AV}{x:Operand}(hx:RV E w (ev x) (a.eval x)):RV (E.cU (kJ hb ev z)) w (DG hb z ev x) (a.eval x):=by
 have hk:bM E w (E.cU (kJ hb ev z)) w:=Env.dC _
 have triv:RV (E.cU (kJ hb ev z)) w (ev x) (a.eval x):=RV.mono hk (fun b _=>⟨rfl,rfl,rfl⟩) hx
 unfold DG
 split
 ·rename_i t
  split
  ·rename_i ty hty
   split
   ·rename_i y m hv
    split
    ·rename_i hp
     have h1:=zE h.hw hB hv (RV.js hp hx)
     refine RV.dO (cF.mono (E:=E.cU m) (Env.iC (fun b hb'=>zb hv hty b hb')) (fun b _=>⟨rfl,rfl,rfl⟩) h1)
    ·trivial
   ·trivial
  ·exact triv
 ·exact triv
theorem IK{hb:Nat→Option aN}{z:List (Nat×Ty)}{ev:Operand→AV}{x:Operand}:∀b∈(DG hb z ev x).ids,b∈(ev x).ids:=by
 unfold DG
 intro b hb'
 split at hb'
 ·split at hb'
  ·split at hb'
   ·rename_i y m hv
    split at hb'
    ·rw[qx hv] at hb';cases hb'
    ·cases hb'
   ·cases hb'
  ·exact hb'
 ·exact hb'
theorem DH{σ:St}{l:List Nat}{d:Nat}(h:σ.fresh d):({σ with hp:=aO σ.hp (ep l)}:St).fresh d:=by
 refine⟨?_,fun k hk=>h.2.1 k (dv hk).2,h.2.2⟩
 have h1:=k8.1 h.1
 exact k8.2 ⟨h1.1,h1.2.1,fun i k hk=>h1.2.2 i k (dv hk).2⟩
theorem mR{P:Program}{G:bT}(T:bB P G){gl:Ctx}{ops:Array Oper}{r:CR}(ab4:r.kr=false){z:List (Nat×Ty)}{σ:St}{i:Nat}{f:aU}{vc:List VC}{ob:List Prop}(h:ei P G gl ops r z σ i=some (f,vc,ob))(hvc:dH vc)(hob:∀p∈ob,p):uz P gl ops i f σ:=by
 unfold ei at h
 split at h
 ·cases h
 ·rename_i o ho
  split at h
  ·cases h
  ·rename_i hc
   cases h
   intro σ' ha hfr E a w hg K Q hK
   unfold wpOpIn
   simp only[ho]
   have hw:=fH hg (ops:=ops) (o:=o) (c:=false) (by rw[gj ha (fun t ht=>ht)];exact hc)
   rw[hw]
   simp only[cm,bP]
   exact⟨fun _ _=>trivial,hK E _ w (hg.put o.dst ⟨#[],rfl,rfl⟩) (by rw[fU];exact Ext.refl _ _ _)⟩
  ·rename_i hc
   split at h
   ·split at h
    ·cases h
    ·rename_i e ob he
     cases h
     intro σ' ha hfr E a w hg K Q hK
     unfold wpOpIn
     simp only[ho]
     have hw:=fH hg (ops:=ops) (o:=o) (c:=true) (by rw[gj ha (fun t ht=>by simp at ht ⊢;exact Or.inr ht)];exact hc)
     rw[hw]
     simp only[bC]
     have ex:∀u,u∈o.op.operands.toList→bG gl σ'.tm u=bG gl σ.tm u:=fun u hu=>iR ha (fun t ht=>by simp only[gA,slotsOf,qE];exact Or.inl ⟨u,hu,ht⟩)
     have hs:tL P gl σ' E a w o e:=by
      refine yZ T hg ab4 (kK ha) (ev:=bG gl σ.tm) ?_ ?_ he hvc hob hfr
      ·intro x hx
       have:=fZ hg x
       rw[ex x hx] at this
       exact this
      ·intro x hx b hb
       rw[←ex x hx] at hb
       exact uV b hb
     exact hs.wp (x:=e.v) (fun _ _ _ h=>h) (fun E' a' w' h1 h2=>hK E' a' w' h1 (by rw[fU];exact h2))
   ·split at h
    ·cases h
    ·rename_i e ob he
     cases h
     intro σ' ha hfr E a w hg K Q hK
     unfold wpOpIn
     simp only[ho]
     have hw:=fH hg (ops:=ops) (o:=o) (c:=true) (by rw[gj ha (fun t ht=>by simp at ht ⊢;exact Or.inr (Or.inr ht))];exact hc)
     rw[hw]
     simp only[bC]
     have ex:∀u,u∈o.op.operands.toList→bG gl σ'.tm u=bG gl σ.tm u:=fun u hu=>iR ha (fun t ht=>by simp only[gA,slotsOf,qE];exact Or.inl (Or.inl ⟨u,hu,ht⟩))
     have ha1:jF σ σ' [] (lR (bG gl σ.tm) z):=⟨ha.tl,ha.hl,fun _ h=>(List.not_mem_nil h).elim,fun b hb=>ha.hp b (List.mem_append.2 (Or.inl hb))⟩
     have hB1:=kK ha1
     generalize hl:kJ (gi (lR (bG gl σ.tm) z) σ.hp) (bG gl σ.tm) z=l at he hK
     have hlk:∀b∈l,∃k,σ'.hp[b]? =some (some k):=by
      intro b hb
      rw[←hl] at hb
      obtain⟨k,hk⟩:=nY hb
      exact⟨k,hB1 b k hk⟩
     obtain⟨g1,x1⟩:=hg.Xu hlk
     have ha2:jF {σ with hp:=aO σ.hp (ep l)} {σ' with hp:=aO σ'.hp (ep l)} [] (qZ o.op (DG (gi (lR (bG gl σ.tm) z) σ.hp) z (bG gl σ.tm))++r.ps.map (·.2)):=
      ⟨ha.tl,by simp only[kE];exact ha.hl,fun _ h=>(List.not_mem_nil h).elim,fun b hb=>iw ha.hl (ha.hp b (List.mem_append.2 (Or.inr hb)))⟩
     have hs:tL P gl {σ' with hp:=aO σ'.hp (ep l)} (E.cU l) a w o e:=by
      refine yZ T g1 ab4 (kK ha2) (ev:=DG (gi (lR (bG gl σ.tm) z) σ.hp) z (bG gl σ.tm)) ?_ ?_ he hvc hob (fun b hb=>DH (hfr b hb))
      ·intro x hx
       have h0:=fZ hg x
       rw[ex x hx] at h0
       have h1:=Fo (z:=z) hg hB1 h0
       rw[hl] at h1
       exact h1
      ·intro x hx b hb
       have hb:=IK b hb
       rw[←ex x hx] at hb
       exact uV (σ:={σ' with hp:=aO σ'.hp (ep l)}) b hb
     refine hs.wp (x:=e.v) (fun _ _ _ h=>h) (fun E' a' w' h1 h2=>hK E' a' w' ?_ ?_)
     ·simp only[mr,St.app] at h1 ⊢;exact h1
     ·rw[fU];simp only[mr];exact x1.trans h2
def zd(P:Program)(gl:Ctx)(ops:Array Oper)(i:Nat)(f:aU)(σ:St):Prop:=
 ∀σ',jF σ σ' f.rt f.rb→∀E a w,cd gl σ' E a w→∀(K:Act→World→Prop)(Q:Exit→Act→World→Prop),
  (∀E' u w',cd gl {σ' with hp:=aO σ'.hp f.hw} E' a w'→RV E' w' f.v u→Ext gl.md (Own σ'.hp E) E w (Own (aO σ'.hp f.hw) E') E' w'→Q (.panic [{v:=u,recovered:=false}]) a w')→wpOpIn (Wd gl) 0 P ops Q i K a w
theorem vj{P:Program}{G:bT}(T:bB P G){gl:Ctx}{σ:St}{E:Env}{a:Act}{w:World}(h:cd gl σ E a w){o:Oper}{d:Nat}{x:CR}(ab4:x.kr=true)(hcl:ld o.op=true){ev:Operand→AV}{hb:Nat→Option aN}(hB:HB hb σ.hp){r:fj}{ob:List Prop}
 (hev:∀x∈o.op.operands.toList,RV E w (ev x) (a.eval x)) (he:mq P G gl d x o.op ev hb=some (r,ob)) (hob:∀p∈ob,p) (hfr:∀b∈r.fr,σ.fresh b) {K:Act→World→Prop} {Q:Exit→Act→World→Prop}
 (hQ:∀E' v w',cd gl {σ with hp:=aO σ.hp r.hw} E' a w'→RV E' w' r.v v→Ext gl.md (Own σ.hp E) E w (Own (aO σ.hp r.hw) E') E' w'→Q (.panic [{v:=v,recovered:=false}]) a w'):o.wpIn (Wd gl) 0 P a w K Q:=by
 unfold mq at he
 split at he
 ·rename_i c hop
  split at he
  ·rename_i b hb'
   rw[hop] at hcl
   obtain⟨ca,asz,ts⟩:=c
   simp only at hb'
   subst hb'
   simp[ld] at hcl
  ·simp only[qC] at he
   obtain⟨x',he,hk⟩:=he
   cases DF ab4 hk
   exact tx T h hop hB hev he hob hfr (fun e=>by rw[ab4] at e;cases e) (fun _=>hQ)
 ·rename_i hno
  cases hop:o.op with
  |call c=>exact absurd hop (hno c)
  |_=>rw[hop] at hcl;simp[ld] at hcl
theorem A1{P:Program}{G:bT}(T:bB P G){gl:Ctx}{ops:Array Oper}{r:CR}(ab4:r.kr=true){z:List (Nat×Ty)}{σ:St}{i:Nat}{f:aU}{vc:List VC}{ob:List Prop}{o:Oper}(ho:ops[i]? =some o)(hgd:guardOf ops σ.tm o=some true)(hcl:ld o.op=true)
 (h:ei P G gl ops r z σ i=some (f,vc,ob)) (hob:∀p∈ob,p) (hnf:f.fr= []):zd P gl ops i f σ:=by
 unfold ei at h
 simp only[ho,hgd] at h
 split at h
 ·split at h
  ·cases h
  ·rename_i e ob he
   cases h
   simp only at hnf
   intro σ' ha E a w hg K Q hQ
   unfold wpOpIn
   simp only[ho]
   have hw:=fH hg (ops:=ops) (o:=o) (c:=true) (by rw[gj ha (fun t ht=>by simp at ht ⊢;exact Or.inr ht)];exact hgd)
   rw[hw]
   simp only[bC]
   have ex:∀u,u∈o.op.operands.toList→bG gl σ'.tm u=bG gl σ.tm u:=fun u hu=>iR ha (fun t ht=>by simp only[gA,slotsOf,qE];exact Or.inl ⟨u,hu,ht⟩)
   refine vj T hg ab4 hcl (kK ha) (ev:=bG gl σ.tm) ?_ he hob (fun b hb=>by rw[hnf] at hb;cases hb) hQ
   intro x hx
   have:=fZ hg x
   rw[ex x hx] at this
   exact this
 ·split at h
  ·cases h
  ·rename_i e ob he
   cases h
   simp only at hnf
   intro σ' ha E a w hg K Q hQ
   unfold wpOpIn
   simp only[ho]
   have hw:=fH hg (ops:=ops) (o:=o) (c:=true) (by rw[gj ha (fun t ht=>by simp at ht ⊢;exact Or.inr (Or.inr ht))];exact hgd)
   rw[hw]
   simp only[bC]
   have ex:∀u,u∈o.op.operands.toList→bG gl σ'.tm u=bG gl σ.tm u:=fun u hu=>iR ha (fun t ht=>by simp only[gA,slotsOf,qE];exact Or.inl (Or.inl ⟨u,hu,ht⟩))
   have ha1:jF σ σ' [] (lR (bG gl σ.tm) z):=⟨ha.tl,ha.hl,fun _ h=>(List.not_mem_nil h).elim,fun b hb=>ha.hp b (List.mem_append.2 (Or.inl hb))⟩
   have hB1:=kK ha1
   generalize hl:kJ (gi (lR (bG gl σ.tm) z) σ.hp) (bG gl σ.tm) z=l at he hQ
   have hlk:∀b∈l,∃k,σ'.hp[b]? =some (some k):=by
    intro b hb
    rw[←hl] at hb
    obtain⟨k,hk⟩:=nY hb
    exact⟨k,hB1 b k hk⟩
   obtain⟨g1,x1⟩:=hg.Xu hlk
   have ha2:jF {σ with hp:=aO σ.hp (ep l)} {σ' with hp:=aO σ'.hp (ep l)} [] (qZ o.op (DG (gi (lR (bG gl σ.tm) z) σ.hp) z (bG gl σ.tm))++r.ps.map (·.2)):=
    ⟨ha.tl,by simp only[kE];exact ha.hl,fun _ h=>(List.not_mem_nil h).elim,fun b hb=>iw ha.hl (ha.hp b (List.mem_append.2 (Or.inr hb)))⟩
   refine vj T g1 ab4 hcl (kK ha2) (ev:=DG (gi (lR (bG gl σ.tm) z) σ.hp) z (bG gl σ.tm)) ?_ he hob (fun b hb=>by rw[hnf] at hb;cases hb) ?_
   ·intro x hx
    have h0:=fZ hg x
    rw[ex x hx] at h0
    have h1:=Fo (z:=z) hg hB1 h0
    rw[hl] at h1
    exact h1
   ·intro E' u w' q1 q2 q3
    refine hQ E' u w' ?_ q2 ?_
    ·simp only[mr] at q1 ⊢;exact q1
    ·simp only[mr];exact x1.trans q3
def tM(ops:Array Oper)(i:Nat):Bool:=
 match ops[i]? with
 |some o=>ld o.op
 |none=>false
def Fp:List Oper→Nat→Bool
 |[],_=>false
 |o::l,i=>(match o.guard with|some (j,_)=>Nat.beq i j|none=>false)||Fp l i
end Go.Ax
namespace Go.Ax
section
variable{P:Program} {b:Frame} {a:Act} {k:List Item} {cs:List Frame} {w:World}
theorem gJ{c:Code}:step P (lone (b.atR a (.code (.scope c)::k)) cs w)= .next (lone (b.atR a (.code c::.inScope c::k)) cs w):=
 step_lone_go (by simp[stepG,stepG.exec,Frame.atR])
theorem uE{c:Code}:step P (lone (b.atR a (.inScope c::k)) cs w)= .next (lone (b.atR a k) cs w):=
 step_lone_go (by simp[stepG,stepG.exec,Frame.atR])
def noGoto(Q:Exit→Act→World→Prop):Exit→Act→World→Prop
 | .goto _,_,_=>False
 |e,a,w=>Q e a w
theorem A2{F:Fence}{n:Nat}{Q:Exit→Act→World→Prop}{c:Code}(h:c.wpIn F n P (noGoto Q) a w):(Code.scope c).wpIn F n P Q a w:=by
 intro b k cs hro hb hr
 have h0:(lone (b.atR a (.code (.scope c)::k)) cs w).fenced P F:=fenced_calm hb hr rfl
 obtain⟨e,a₁,w₁,hq,acb⟩:=h b (.inScope c::k) cs hro hb hr
 cases e with
 |normal=>exact⟨.normal,a₁,w₁,hq,.head h0 gJ (StepsIn.trans acb (.one (fenced_calm hb hr rfl) uE))⟩
 |
  exit id=>
  have hx:exitTo id (.inScope c::k)=exitTo id k:=by simp[exitTo]
  exact⟨.exit id,a₁,w₁,hq,fun k' hk=>.head h0 gJ (acb.1 k' (by rw[hx];exact hk)),
   fun hr' hk=>let⟨k₁,h1,h2⟩:=acb.2 hr' (by rw[hx];exact hk);⟨k₁,h1,.head h0 gJ h2⟩⟩
 |goto l=>exact hq.elim
 |ret=>exact⟨_,a₁,w₁,hq,.of_steps (.one h0 gJ) acb⟩
 |panic ch=>exact⟨_,a₁,w₁,hq,.of_steps (.one h0 gJ) acb⟩
 |outgrown=>exact⟨_,a₁,w₁,hq,.of_steps (.one h0 gJ) acb⟩
end
inductive fI where
 |normal
 |exit (id:Nat)
 |ret
 |panic (v:AV)
def ExR(E:Env)(w:World):fI→Exit→Prop
 | .normal,.normal=>True
 | .exit i,.exit j=>i=j
 | .ret,.ret=>True
 | .panic x,.panic chain=>∃u,chain= [{v:=u,recovered:=false}]∧cF E w x u
 |_,_=>False
def pg(gl:Ctx)(Q:fI→St→Prop)(σ:St)(E:Env)(w:World)(ex:Exit)(a':Act)(w':World):Prop:=
 ∃x σ' E',ExR E' w' x ex∧Q x σ'∧cd gl σ' E' a' w'∧Ext gl.md (Own σ.hp E) E w (Own σ'.hp E') E' w'
def cX(P:Program)(gl:Ctx)(c:Code)(σ:St)(Q:fI→St→Prop):Prop:=
 ∀E a w,cd gl σ E a w→c.wpIn (Wd gl) 0 P (pg gl Q σ E w) a w
section
variable{P:Program} {gl:Ctx} {σ:St} {Q:fI→St→Prop}
theorem cX.mono{c:Code}{Q':fI→St→Prop}(h:cX P gl c σ Q)(hq:∀x σ',Q x σ'→Q' x σ'):cX P gl c σ Q':=
 fun E a w hg=>wpIn_mono (h E a w hg) (fun _ _ _ ⟨x,σ',E',h1,h2,h3⟩=>⟨x,σ',E',h1,hq _ _ h2,h3⟩)
theorem cX.skip(h:Q .normal σ):cX P gl .skip σ Q:=fun E _a _w hg=>wpIn_skip ⟨.normal,σ,E,trivial,h,hg,Ext.refl _ _ _⟩
theorem cX.label{l:Nat}(h:Q .normal σ):cX P gl (.label l) σ Q:=fun E _a _w hg=>wpIn_label ⟨.normal,σ,E,trivial,h,hg,Ext.refl _ _ _⟩
theorem cX.scope{c:Code}(h:cX P gl c σ Q):cX P gl (.scope c) σ Q:=fun E a w hg=>A2 (wpIn_mono (h E a w hg) fun ex a' w' hp=>by
 cases ex with
 |goto l=>obtain⟨x,_,_,h1,_⟩:=hp;cases x<;>exact h1.elim
 |_=>exact hp)
theorem cX.exit{i:Nat}(h:Q (.exit i) σ):cX P gl (.exit i) σ Q:=fun E _a _w hg=>wpIn_exit ⟨.exit i,σ,E,rfl,h,hg,Ext.refl _ _ _⟩
theorem cX.ret(h:Q .ret σ):cX P gl .ret σ Q:=fun E _a _w hg=>wpIn_ret ⟨.ret,σ,E,trivial,h,hg,Ext.refl _ _ _⟩
def Nw(P:Program)(gl:Ctx)(y:Code)(Q:fI→St→Prop):fI→St→Prop
 | .normal,σ=>cX P gl y σ Q
 |x,σ=>Q x σ
theorem cX.seq{x y:Code}(h:cX P gl x σ (Nw P gl y Q)):cX P gl (.seq x y) σ Q:=by
 intro E a w hg
 refine wpIn_seq (wpIn_mono (h E a w hg) ?_)
 rintro ex a1 w1 ⟨x1,σ1,E1,h1,h2,h3,h4⟩
 cases ex with
 |
  normal=>
  cases x1 with
  |
   normal=>
   refine wpIn_mono (h2 E1 a1 w1 h3) ?_
   rintro e2 a2 w2 ⟨x2,σ2,E2,k1,k2,k3,k4⟩
   exact⟨x2,σ2,E2,k1,k2,k3,h4.trans k4⟩
  |_=>exact h1.elim
 |
  _=>
  cases x1 with
  |normal=>exact h1.elim
  |_=>exact⟨_,σ1,E1,h1,h2,h3,h4⟩
theorem cX.cond{c:Operand}{x y:Code}{b:Bool}(hc:bG gl σ.tm c= .val .bool b)(ht:b=true→cX P gl x σ Q)(hf:b=false→cX P gl y σ Q):cX P gl (.cond c x y) σ Q:=by
 intro E a w hg
 have hv:=fZ hg c
 rw[hc] at hv
 exact wpIn_cond_split (RV.dU hv) (fun h=>ht h E a w hg) (fun h=>hf h E a w hg)
def xy(id:Nat)(Q:fI→St→Prop):fI→St→Prop
 | .exit i,σ=>if i=id then Q .normal σ else Q (.exit i) σ
 |x,σ=>Q x σ
theorem cX.block{id:Nat}{c:Code}(h:cX P gl c σ (xy id Q)):cX P gl (.block id c) σ Q:=by
 intro E a w hg
 refine wpIn_block (wpIn_mono (h E a w hg) ?_)
 rintro ex a1 w1 ⟨x1,σ1,E1,h1,h2,h3,h4⟩
 cases ex with
 |
  exit i=>
  cases x1 with
  |
   exit j=>
   have e:j=i:=h1
   subst e
   simp only[xy] at h2
   simp only[Exit.inBlock]
   split
   ·rename_i e;rw[aA e] at h2;exact⟨.normal,σ1,E1,trivial,h2,h3,h4⟩
   ·rename_i e;rw[aC e] at h2;exact⟨.exit j,σ1,E1,rfl,h2,h3,h4⟩
  |_=>exact h1.elim
 |_=>cases x1<;>first|exact h1.elim|exact⟨_,σ1,E1,h1,h2,h3,h4⟩
def Nx(R:Nat→St→Prop)(n:Nat)(Q:fI→St→Prop):fI→St→Prop
 | .normal,σ=>∃m,m<n∧R m σ
 |x,σ=>Q x σ
theorem cX.loop{c:Code}(R:Nat→St→Prop)(hR:∀n σ,R n σ→cX P gl c σ (Nx R n Q)){n:Nat}(h0:R n σ):cX P gl (.loop c) σ Q:=by
 intro E0 a0 w0 hg0 b k cs hro hb hr0
 have key:∀n σ1 E1 a1 w1,R n σ1→cd gl σ1 E1 a1 w1→Ext gl.md (Own σ.hp E0) E0 w0 (Own σ1.hp E1) E1 w1→
  ∃e a' w',pg gl Q σ E0 w0 e a' w'∧ArrivesIn (Machine.fenced P (Wd gl)) P (lone (b.atR a1 (.code c::.inLoop c::k)) cs w1) b k cs e a' w':=by
  intro n
  induction n using Nat.strongRecOn with
  |
   _ n ih=>
   intro σ1 E1 a1 w1 hr hg hx
   obtain⟨e,a2,w2,⟨x,σ2,E2,h1,h2,h3,h4⟩,acb⟩:=hR n σ1 hr E1 a1 w1 hg b (.inLoop c::k) cs hro hb hr0
   cases e with
   |
    normal=>
    cases x with
    |
     normal=>
     obtain⟨m,hm,hr2⟩:=h2
     obtain⟨e₂,a₂,w₂,hq₂,harr₂⟩:=ih m hm σ2 E2 a2 w2 hr2 h3 (hx.trans h4)
     exact⟨e₂,a₂,w₂,hq₂,.of_steps (StepsIn.trans acb (.one (fenced_calm hb hr0 rfl) stepR_inLoop)) harr₂⟩
    |_=>exact h1.elim
   |exit id=>exact⟨_,a2,w2,⟨x,σ2,E2,h1,by cases x<;>first|exact h1.elim|exact h2,h3,hx.trans h4⟩,.pass (x:=.inLoop c) rfl (fun _ _=>.inl (by simp)) acb⟩
   |goto l=>cases x<;>exact h1.elim
   |ret=>exact⟨_,a2,w2,⟨x,σ2,E2,h1,by cases x<;>first|exact h1.elim|exact h2,h3,hx.trans h4⟩,.pass (x:=.inLoop c) rfl (fun _ _=>.inl (by simp)) acb⟩
   |panic ch=>exact⟨_,a2,w2,⟨x,σ2,E2,h1,by cases x<;>first|exact h1.elim|exact h2,h3,hx.trans h4⟩,.pass (x:=.inLoop c) rfl (fun _ _=>.inl (by simp)) acb⟩
   |outgrown=>cases x<;>exact h1.elim
 obtain⟨e,a',w',hq,acb⟩:=key n σ E0 a0 w0 h0 hg0 (Ext.refl _ _ _)
 exact⟨e,a',w',hq,.of_steps (.one (fenced_calm hb hr0 rfl) stepR_loop) acb⟩
def lf(G:bT)(σ:St):List ResultVar→Option (List AV)
 |[]=>some []
 |
  .tmp t::l=>match σ.tm[t]?,lf G σ l with
  |some x,some xs=>if x.plain then some (x::xs) else none
  |_,_=>none
 |
  .cell t ty::l=>match σ.tm[t]?,lf G σ l with
  |
   some x,some xs=>match sW G (fun b=>(σ.hp[b]?).join) ty x with
   |some y=>if y.plain then some (y::xs) else none
   |none=>none
  |_,_=>none
def AV.ofList:List AV→AV
 |[]=>.nil
 |x::l=>.cons x (AV.ofList l)
def ja(G:bT)(rs:List ResultVar)(σ:St):Option AV:=
 match lf G σ rs with
 |some [x]=>some x
 |some l=>some (.gC (AV.ofList l))
 |none=>none
def prune:List (Option aN)→List Bool→List (Option aN)
 |x::l,true::m=>x::prune l m
 |_::l,false::m=>none::prune l m
 |_,[]=>[]
 |[],_=>[]
theorem jt{b:Nat}{k:aN}:∀{l:List (Option aN)}{m:List Bool},(prune l m)[b]? =some (some k)→l[b]? =some (some k):=by
 intro l
 induction l generalizing b with
 |nil=>intro m h;cases m<;>simp[prune] at h
 |
  cons x l ih=>
  intro m h
  cases m with
  |nil=>simp[prune] at h
  |
   cons y m=>
   cases b with
   |zero=>cases y<;>simp[prune] at h;simpa using h
   |succ b=>cases y<;>simp[prune] at h<;>simpa using ih h
theorem HW.prune{E:Env}{w:World}{hp:List (Option aN)}(h:HW gl E w hp)(m:List Bool):HW gl E w (Ax.prune hp m) where
 cH:=fun b k hb=>h.cH b k (jt hb)
 dN:=fun b b' k k' g h1 h2=>h.dN b b' k k' g (jt h1) (jt h2)
 dq:=fun b k g h1=>h.dq b k g (jt h1)
 qG:=fun b k g h1=>h.qG b k g (jt h1)
 slt:=h.slt
 gl:=h.gl
def ze(tmps:Array Value):ResultVar→Sem Value
 | .tmp t=>pure (tmps.getD t undef)
 | .cell c t=>do loadVar t (←asAddr (tmps.getD c undef))
theorem tN(fn:Func)(tmps:Array Value):results fn tmps=(do
 let vs ←fn.results.mapM (ze tmps)
 pure (if h:vs.size=1 then vs[0] else .tuple vs)):=by
 unfold results
 congr 2
theorem nZ{G:bT}(T:bB P G){E:Env}{a:Act}{w:World}(hg:cd gl σ E a w):∀{rs:List ResultVar}{xs:List AV},lf G σ rs=some xs→
 ∃vs:List Value,(rs.mapM (ze a.tmps)).run P w= .ok vs w∧RT E w (AV.ofList xs) vs∧vs.length=xs.length
 |[],xs,h=>by cases h;exact⟨[],by simp,rfl,rfl⟩
 |
  .tmp t::l,xs,h=>by
  unfold lf at h
  split at h
  ·rename_i x xs' hx hl
   split at h
   ·rename_i hp
    cases h
    obtain⟨vs,h1,h2,h3⟩:=nZ T hg hl
    have hlt:t<a.tmps.size:=by rw[hg.len];exact(List.getElem?_eq_some_iff.1 hx).1
    have hv:=hg.tm t _ hx a.tmps[t] (by simp[hlt])
    refine⟨a.tmps[t]::vs,?_,⟨RV.js hp hv,h2⟩,by simp[h3]⟩
    simp only[List.mapM_cons,Sem.run_bind,ze,Sem.run_pure,Result.andThen_ok,h1]
    simp[hlt]
   ·cases h
  ·cases h
 |
  .cell t ty::l,xs,h=>by
  unfold lf at h
  split at h
  ·rename_i x xs' hx hl
   split at h
   ·rename_i y hy
    split at h
    ·rename_i hp
     cases h
     obtain⟨vs,h1,h2,h3⟩:=nZ T hg hl
     have hlt:t<a.tmps.size:=by rw[hg.len];exact(List.getElem?_eq_some_iff.1 hx).1
     have hv:=hg.tm t _ hx a.tmps[t] (by simp[hlt])
     have hB:HB (fun b=>(σ.hp[b]?).join) σ.hp:=by
      intro b k hk
      cases hh:σ.hp[b]? with
      |none=>simp[hh] at hk
      |some z=>simp[hh] at hk;rw[hk]
     obtain⟨u,h4,h5⟩:=pY T hg.hw hB hv hy
     have h4':(do loadVar ty (←asAddr (a.tmps.getD t undef)):Sem Value).run P w= .ok u w:=by
      have e:a.tmps.getD t undef=a.tmps[t]:=by simp[hlt]
      rw[e]
      simp only[Instr.loadAt,Sem.run_bind] at h4 ⊢
      cases hq:a.tmps[t] with
      |
       pointer p=>
       cases p with
       |some ad=>rw[hq] at h4;simpa[Instr.sureAddr,asAddr] using h4
       |none=>rw[hq] at h4;simp[Instr.sureAddr] at h4
      |_=>rw[hq] at h4;simp[Instr.sureAddr] at h4
     refine⟨u::vs,?_,⟨RV.js hp h5,h2⟩,by simp[h3]⟩
     simp only[List.mapM_cons,Sem.run_bind,ze]
     simp only[Sem.run_bind] at h4'
     rw[h4']
     simp only[Result.andThen_ok,h1,Sem.run_pure]
    ·cases h
   ·cases h
  ·cases h
end
end Go.Ax
namespace Go.Ax
theorem ph{P:Program}{G:bT}(T:bB P G){gl:Ctx}{σ:St}{E:Env}{a:Act}{w:World}(hg:cd gl σ E a w){fn:Func}{x:AV}(h:ja G fn.results.toList σ=some x):∃v,(results fn a.tmps).run P w= .ok v w∧RV E w x v:=by
 have key:∀xs,lf G σ fn.results.toList=some xs→∃vs:Array Value,(fn.results.mapM (ze a.tmps)).run P w= .ok vs w∧RT E w (AV.ofList xs) vs.toList∧vs.toList.length=xs.length:=by
  intro xs hx
  obtain⟨vs,h1,h2,h3⟩:=nZ T hg hx
  refine⟨vs.toArray,?_,by simpa using h2,by simpa using h3⟩
  rw[Array.mapM_eq_mapM_toList]
  simp only[Sem.run_map]
  rw[h1];rfl
 unfold ja at h
 split at h
 ·rename_i y hy
  cases h
  obtain⟨vs,h1,h2,h3⟩:=key _ hy
  obtain⟨l⟩:=vs
  cases l with
  |nil=>simp at h3
  |
   cons v l=>
   cases l with
   |cons _ _=>simp at h3
   |
    nil=>
    refine⟨v,?_,RV.dO h2.1⟩
    rw[tN]
    simp only[Sem.run_bind]
    rw[h1]
    simp
 ·rename_i xs hne hxs
  cases h
  obtain⟨vs,h1,h2,h3⟩:=key _ hxs
  refine⟨.tuple vs,?_,⟨vs,rfl,h2⟩⟩
  rw[tN]
  simp only[Sem.run_bind]
  rw[h1]
  have:¬vs.size=1:=by
   intro e
   rw[fR,e] at h3
   match xs,h3 with
   |[y],_=>exact hne y rfl
  simp[this]
 ·cases h
end Go.Ax
namespace Go.Ax
def Wk(gl:Ctx)(σ σ':St):Prop:=
 ∀E a w,cd gl σ E a w→∃E',cd gl σ' E' a w∧Ext gl.md (Own σ.hp E) E w (Own σ'.hp E') E' w
theorem Wk.refl(gl:Ctx)(σ:St):Wk gl σ σ:=fun E _ _ h=>⟨E,h,Ext.refl _ _ _⟩
theorem Wk.trans{gl:Ctx}{σ σ1 σ2:St}(h:Wk gl σ σ1)(k:Wk gl σ1 σ2):Wk gl σ σ2:=fun E a w hg=>by
 obtain⟨E1,g1,x1⟩:=h E a w hg
 obtain⟨E2,g2,x2⟩:=k E1 a w g1
 exact⟨E2,g2,x1.trans x2⟩
def pj(ts:List Nat):Nat→List AV→List AV
 |_,[]=>[]
 |i,x::l=>(if cT i ts then x else .bot)::pj ts (i+1) l
def tO(bs:List Nat):Nat→List (Option aN)→List (Option aN)
 |_,[]=>[]
 |i,x::l=>(if cT i bs then x else none)::tO bs (i+1) l
theorem vn{ts:List Nat}:∀{l:List AV}{i j:Nat}{x:AV},(pj ts i l)[j]? =some x→x= .bot∨l[j]? =some x
 |[],i,j,x,h=>by simp[pj] at h
 |
  y::l,i,0,x,h=>by
  simp only[pj,oL,cE] at h
  split at h
  ·exact Or.inr (by simp[h])
  ·exact Or.inl h.symm
 |
  y::l,i,j+1,x,h=>by
  simp only[pj,qF] at h
  simpa using vn h
theorem vo{ts:List Nat}:∀{l:List AV}{i:Nat},(pj ts i l).length=l.length
 |[],_=>rfl
 |_::l,i=>by simp[pj,vo (l:=l)]
theorem qc{bs:List Nat}{k:aN}:∀{l:List (Option aN)}{i j:Nat},(tO bs i l)[j]? =some (some k)→l[j]? =some (some k)
 |[],i,j,h=>by simp[tO] at h
 |
  y::l,i,0,h=>by
  simp only[tO,oL,cE] at h
  split at h
  ·simp[h]
  ·cases h
 |
  y::l,i,j+1,h=>by
  simp only[tO,qF] at h
  simpa using qc h
theorem HW.less{gl:Ctx}{E:Env}{w:World}{hp hp':List (Option aN)}(h:HW gl E w hp)(hs:∀(b:Nat)(k:aN),hp'[b]? =some (some k)→hp[b]? =some (some k)):HW gl E w hp' where
 cH:=fun b k hb=>h.cH b k (hs b k hb)
 dN:=fun b b' k k' g h1 h2=>h.dN b b' k k' g (hs _ _ h1) (hs _ _ h2)
 dq:=fun b k g h1=>h.dq b k g (hs _ _ h1)
 qG:=fun b k g h1=>h.qG b k g (hs _ _ h1)
 slt:=h.slt
 gl:=h.gl
theorem Wk.zf(gl:Ctx)(σ:St)(ts bs:List Nat):Wk gl σ ⟨pj ts 0 σ.tm,tO bs 0 σ.hp,σ.df⟩:=by
 intro E a w h
 refine⟨E,⟨by rw[vo];exact h.len,?_,h.hw.less (fun b k hb=>qc hb),h.df⟩,{Ext.refl (Own σ.hp E) E w with own:=?_ }⟩
 ·intro i x hx v hv
  rcases vn hx with e|e
  ·subst e;trivial
  ·exact h.tm i x e v hv
 ·rintro g ⟨b,k,hb,hg⟩
  exact Or.inl ⟨b,k,qc hb,hg⟩
theorem Wk.Fq{gl:Ctx}{σ:St}{s:Nat}{t:Ty}{x:AV}{y:t.den}(hx:σ.tm[s]? =some x)(hy:x.bL t=some y):Wk gl σ {σ with tm:=σ.tm.set s (.val t y)}:=by
 intro E a w h
 refine⟨E,⟨by simp[h.len],?_,h.hw,h.df⟩,Ext.refl _ _ _⟩
 intro i z hz v hv
 rw[bK] at hz
 split at hz
 ·rename_i e;subst e
  split at hz
  ·cases hz
   have hr:=h.tm s x hx v hv
   have hp:x.plain=true:=by cases x<;>first|rfl|(cases t<;>simp[AV.bL] at hy)
   exact RV.dO (cF.bL hy (RV.js hp hr))
  ·cases hz
 ·exact h.tm i z hz v hv
theorem Wk.A3{gl:Ctx}{σ:St}{b:Nat}{t:Ty}{v:AV}{y:t.den}(hb:σ.hp[b]? =some (some (.var t v)))(hy:v.bL t=some y):Wk gl σ {σ with hp:=σ.hp.set b (some (.var t (.val t y)))}:=by
 intro E a w h
 have hk:=h.hw.cH b _ hb
 obtain⟨h1,h2,g,c,e,h3,h4,h5⟩:=hk
 have hw:=h.hw.write (w':=w) (k':=.var t (.val t y)) hb rfl (fun _ _=>rfl) ⟨h1,Ty.db t,g,c,e,h3,h4,RC.bL hy h5⟩
 refine⟨E,⟨h.len,h.tm,hw,h.df⟩,{Ext.refl (Own σ.hp E) E w with own:=?_ }⟩
 intro g' hg'
 exact Or.inl (Own.set hb hg')
theorem Wk.T5{gl:Ctx}{σ:St}{b:Nat}{e:TypeId}{bs:Nat}{t:Ty}{xs:List t.den}{i:Nat}{v:AV}{y:t.den}(hb:σ.hp[b]? =some (some (.bZ e bs t xs i v)))(hy:v.bL t=some y):Wk gl σ {σ with hp:=σ.hp.set b (some (.bZ e bs t xs i (.val t y)))}:=by
 intro E a w h
 obtain⟨h1,h2,h3,h4,h5,h6,g,cap,c,q1,q2,q3,q4,q5,q6,q7,q8,q9⟩:=h.hw.cH b _ hb
 have hw:=h.hw.write (w':=w) (k':=.bZ e bs t xs i (.val t y)) hb rfl (fun _ _=>rfl) ⟨h1,h2,h3,h4,h5,Ty.db t,g,cap,c,q1,q2,q3,q4,q5,q6,q7,RC.bL hy q8,q9⟩
 refine⟨E,⟨h.len,h.tm,hw,h.df⟩,{Ext.refl (Own σ.hp E) E w with own:=?_ }⟩
 intro g' hg'
 exact Or.inl (Own.set hb hg')
theorem Wk.mcl{gl:Ctx}{σ:St}{b:Nat}{k v:Ty}{rest:List (k.den×v.den)}{c:Option (k.den×v.den)}(hb:σ.hp[b]? =some (some (.lP k v rest c))):Wk gl σ {σ with hp:=σ.hp.set b (some (.lP k v rest none))}:=by
 intro E a w h
 obtain⟨g,om,since,seen,c0,q1,q2,q3⟩:=h.hw.cH b _ hb
 have hw:=h.hw.write (w':=w) (k':=.lP k v rest none) hb rfl (fun _ _=>rfl) ⟨g,om,since,seen,c0,q1,q2,q3.imp (fun h=>⟨h.1,h.2.1,rfl⟩) (fun⟨bm,en,r1,r2,r3,r4,r5,r6,r7,_⟩=>⟨bm,en,r1,r2,r3,r4,r5,r6,r7,fun x hx=>by cases hx⟩)⟩
 refine⟨E,⟨h.len,h.tm,hw,h.df⟩,{Ext.refl (Own σ.hp E) E w with own:=?_ }⟩
 intro g' hg'
 exact Or.inl (Own.set hb hg')
def zg(φ:AV→Option AV):List AV→List AV
 |[]=>[]
 |x::l=>(if x.plain then(match φ x with|some y=>y|none=>.bot) else .bot)::zg φ l
def Xv:AV→AV→Bool
 | .mp _,.mp _=>true
 | .mp _,_=>false
 |_,_=>true
def uD(φ:AV→Option AV):List AV→Option (List AV)
 |[]=>some []
 |
  x::l=>match φ x,uD φ l with
  |some y,some m=>if Xv x y then some (y::m) else none
  |_,_=>none
def IL{K:Type}(φ:AV→Option AV):List (K×AV)→Option (List (K×AV))
 |[]=>some []
 |
  (k,x)::l=>match φ x,IL φ l with
  |some y,some m=>some ((k,y)::m)
  |_,_=>none
def iV(φ:AV→Option AV):Option aN→Option (Option aN)
 |
  some (.var t v)=>match φ v with
  |some u=>if u.bW t then some (some (.var t u)) else none
  |none=>none
 |
  some (.tv g t v)=>match φ v with
  |some u=>if u.bW t then some (some (.tv g t u)) else none
  |none=>none
 |
  some (.bZ e bs t xs i v)=>match φ v with
  |some u=>if u.bW t then some (some (.bZ e bs t xs i u)) else none
  |none=>none
 |
  some (.cL e bs t xs e2 (some (i,v)))=>match φ v with
  |some u=>if u.bW t then some (some (.cL e bs t xs e2 (some (i,u)))) else none
  |none=>none
 |
  some (.pmap k t es e2 (some (i,v,p)))=>match φ v with
  |some u=>if u.bW t then some (some (.pmap k t es e2 (some (i,u,p)))) else none
  |none=>none
 |some (.fY ..)=>none
 |some (.ig k l)=>(IL φ l).map fun l=>some (.ig k l)
 |k=>some k
def IM(φ:AV→Option AV):List (Option aN)→Option (List (Option aN))
 |[]=>some []
 |
  k::l=>match iV φ k,IM φ l with
  |some k',some m=>some (k'::m)
  |_,_=>none
theorem jH{φ:AV→Option AV}:∀{l:List AV},(zg φ l).length=l.length
 |[]=>rfl
 |_::l=>by simp[zg,jH (l:=l)]
theorem jI{φ:AV→Option AV}:∀{l:List AV}{i:Nat}{y:AV},(zg φ l)[i]? =some y→y= .bot∨∃x,l[i]? =some x∧x.plain=true∧φ x=some y
 |[],i,y,h=>by simp[zg] at h
 |
  x::l,0,y,h=>by
  simp only[zg,oL,cE] at h
  split at h
  ·rename_i hp
   split at h
   ·rename_i z hz;exact Or.inr ⟨x,rfl,hp,by rw[hz,h]⟩
   ·exact Or.inl h.symm
  ·exact Or.inl h.symm
 |
  x::l,i+1,y,h=>by
  simp only[zg,qF] at h
  simpa using jI h
theorem jJ{φ:AV→Option AV}:∀{l m:List (Option aN)},IM φ l=some m→∀{i:Nat}{k:aN},m[i]? =some (some k)→∃k0,l[i]? =some (some k0)∧iV φ (some k0)=some (some k)
 |[],m,h,i,k,hk=>by cases h;simp at hk
 |
  x::l,m,h,i,k,hk=>by
  simp only[IM] at h
  split at h
  ·rename_i k' m' h1 h2
   cases h
   cases i with
   |
    zero=>
    simp at hk
    subst hk
    cases x with
    |none=>simp[iV] at h1
    |some x=>exact⟨x,rfl,h1⟩
   |succ i=>obtain⟨k0,e1,e2⟩:=jJ h2 (i:=i) (by simpa using hk);exact⟨k0,by simpa using e1,e2⟩
  ·cases h
def St.gk(φ:AV→Option AV)(σ:St):Option St:=
 match IM φ σ.hp,uD φ σ.df with
 |some hp,some df=>some ⟨zg φ σ.tm,hp,df⟩
 |_,_=>none
structure Good(E E':Env)(w:World)(φ:AV→Option AV):Prop where
 rc:∀x y vs,φ x=some y→RC E w x vs→RC E' w y vs
 agg:∀x y,φ x=some y→y.isAgg=x.isAgg
 fn:∀fn fs cs y,φ (.func fn fs cs)=some y→∃fs' cs',y= .func fn fs' cs'∧φ fs=some fs'∧φ cs=some cs'∧fs'.atoms=true∧cs'.atoms=true
 mp:∀b b',φ (.mp b)=some (.mp b')→E'.g b'=E.g b
theorem Good.RV{E E':Env}{w:World}{φ:AV→Option AV}(g:Good E E' w φ){x y:AV}{v:Value}(h:φ x=some y)(hr:cF E w x v):cF E' w y v:=by
 rcases hr with⟨h1,cs,e,h2⟩|⟨h1,h2⟩
 ·exact Or.inl ⟨by rw[g.agg x y h];exact h1,cs,e,g.rc x y _ h h2⟩
 ·exact Or.inr ⟨by rw[g.agg x y h];exact h1,g.rc x y _ h h2⟩
theorem Good.RD{E E':Env}{w:World}{φ:AV→Option AV}(g:Good E E' w φ):∀{l m:List AV}{ds:List Deferred},uD φ l=some m→Ax.RD E w l ds→Ax.RD E' w m ds
 |
  [],m,ds,h,hr=>by
  cases h
  cases ds with
  |nil=>trivial
  |cons _ _=>exact hr.elim
 |
  x::l,m,ds,h,hr=>by
  simp only[uD] at h
  split at h
  ·rename_i y m' h1 h2
   split at h
   case isFalse=>cases h
   rename_i fV
   cases h
   cases ds with
   |nil=>cases x<;>exact hr.elim
   |
    cons d ds=>
    cases x with
    |
     func fn fs cs=>
     obtain⟨fs',cs',e,k1,k2,k3,k4⟩:=g.fn fn fs cs y h1
     subst e
     obtain⟨⟨f,c,e,r1,r2,r3,r4⟩,r5⟩:=hr
     exact⟨⟨f,c,e,g.rc _ _ _ k1 r1,g.rc _ _ _ k2 r2,k3,k4⟩,g.RD h2 r5⟩
    |
     mp b=>
     cases y<;>simp[Xv] at fV
     rename_i b'
     have k1:=g.mp b b' h1
     obtain⟨⟨i,e1,e2⟩,r5⟩:=hr
     exact⟨⟨i,by rw[k1];exact e1,e2⟩,g.RD h2 r5⟩
    |_=>exact hr.elim
  ·cases h
theorem Good.RF{E E':Env}{w:World}{φ:AV→Option AV}(g:Good E E' w φ)(hS:∀b,E.S b→E'.S b){kt:Ty}:∀{en:List MapEntry}{l l':List (kt.den×AV)},IL φ l=some l'→Ax.RF E w kt en l→Ax.RF E' w kt en l'∧l'.map (·.1)=l.map (·.1)
 |[],[],l',h,hr=>by cases h;exact⟨trivial,rfl⟩
 |[],_::_,_,h,hr=>hr.elim
 |_::_,[],_,h,hr=>hr.elim
 |
  e::en,(k,x)::l,l',h,hr=>by
  simp only[IL] at h
  split at h
  ·rename_i y m h1 h2
   cases h
   obtain⟨r1,r2,r3,r4⟩:=hr
   obtain⟨q1,q2⟩:=g.RF hS h2 r4
   exact⟨⟨cF.mono ⟨fun _ _=>rfl,hS⟩ (fun _ hb=>by cases hb) r1,g.rc _ _ _ h1 r2,by rw[g.agg _ _ h1];exact r3,q1⟩,by simp[q2]⟩
  ·cases h
theorem Good.RB{E E':Env}{w:World}{φ:AV→Option AV}(g:Good E E' w φ)(hS:∀b,E.S b→E'.S b){b b':Nat}{k k':aN}(hg:E'.g b'=E.g b)(hsv:E'.sv b'=E.sv b)(hbt:E'.bt b'=E.bt b)(hP:k.EC=true→∀g,E.P b g→E'.P b' g)(hk:iV φ (some k)=some (some k'))(h:Ax.RB E w b k):Ax.RB E' w b' k':=by
 have kp:bM E w E' w:=⟨fun _ _=>rfl,hS⟩
 cases k with
 |
  var t v=>
  simp only[iV] at hk
  split at hk
  ·rename_i u hu
   split at hk
   ·rename_i hc
    cases hk
    obtain⟨h1,h2,i,c,e,h3,h4,h5⟩:=h
    exact⟨by rw[hbt];exact h1,hc,i,c,e,by rw[hg];exact h3,h4,g.rc v u _ hu h5⟩
   ·cases hk
  ·cases hk
 |
  row e bs t xs=>
  simp only[iV,cE] at hk;subst hk
  obtain⟨h1,h2,h3,h4,a,cap,h5,h6,h7⟩:=h
  refine⟨by rw[hbt];exact h1,h2,h3,h4,a,cap,by rw[hsv];exact h5,h6,?_⟩
  rcases h7 with⟨h7,h8,h9⟩|⟨i,c,h7,h8,h9,h10,h11,h12⟩
  ·exact Or.inl ⟨h7,by rw[hg];exact h8,h9⟩
  ·exact Or.inr ⟨i,c,by rw[hg];exact h7,h8,h9,h10,h11,aT.mono (fun _ _=>Rel.mono kp.w kp.S) h12⟩
 |
  map kt vt es=>
  simp only[iV,cE] at hk;subst hk
  obtain⟨h1,h1',i,en,clock,h2,h3,h4,h5,h6⟩:=h
  exact⟨h1,h1',i,en,clock,by rw[hg];exact h2,h3,RM.mono kp h4,h5,h6⟩
 |
  lP k v rest cur=>
  simp only[iV,cE] at hk;subst hk
  obtain⟨gg,om,since,seen,c0,q1,q2,q3⟩:=h
  refine⟨gg,om,since,seen,c0,by rw[hg];exact q1,q2,q3.imp id ?_⟩
  rintro⟨bm,en,r1,r2,r3,r4,r5,r6,r7,r8⟩
  refine⟨bm,en,r1,kp.S bm r2,r3,r4,r5,r6,RM.mono kp r7,fun x hx=>?_⟩
  obtain⟨e,s0,t1,t2,t3,t4⟩:=r8 x hx
  exact⟨e,s0,t1,t2,cF.mono kp (fun _ hb=>by cases hb) t3,cF.mono kp (fun _ hb=>by cases hb) t4⟩
 |
  cL e bs t xs e2' f=>
  cases f with
  |
   none=>
   simp only[iV,cE] at hk;subst hk
   obtain⟨h1,h2,h3,h4,h5,gg,cap,c,og,q1,q2,q3,q4,q5,q6,q7,q8⟩:=h
   refine⟨by rw[hbt];exact h1,h2,h3,h4,h5,gg,cap,c,og,by rw[hsv];exact q1,q2,by rw[hg];exact q3,q4,q5,q6,q7.mono (hP rfl),fun i x hx=>?_⟩
   obtain⟨u,r1,r2,r3⟩:=q8 i x hx
   exact⟨u,r1,fun v hv=>(by cases hv),fun hv=>de.mono kp.w kp.S (fun _ _=>rfl) (r3 (fun v hv=>by cases hv))⟩
  |
   some f=>
   obtain⟨j,v⟩:=f
   simp only[iV] at hk
   split at hk
   ·rename_i u hu
    split at hk
    ·rename_i hc
     cases hk
     obtain⟨h1,h2,h3,h4,h5,gg,cap,c,og,q1,q2,q3,q4,q5,q6,q7,q8⟩:=h
     refine⟨by rw[hbt];exact h1,h2,h3,h4,fun i v' hv=>by cases hv;exact⟨(h5 _ _ rfl).1,hc⟩,gg,cap,c,og,by rw[hsv];exact q1,q2,by rw[hg];exact q3,q4,q5,q6,q7.mono (hP rfl),fun i x hx=>?_⟩
     obtain⟨u',r1,r2,r3⟩:=q8 i x hx
     refine⟨u',r1,fun v' hv=>?_,fun hv=>de.mono kp.w kp.S (fun _ _=>rfl) (r3 (fun v' hv'=>by cases hv';exact hv u rfl))⟩
     cases hv
     exact⟨(r2 v rfl).1,g.rc v u _ hu (r2 v rfl).2⟩
    ·cases hk
   ·cases hk
 |
  pmap kt t es e2' f=>
  cases f with
  |
   none=>
   simp only[iV,cE] at hk;subst hk
   obtain⟨h1,h2,h3,gg,en,clock,og,q1,q2,q3,q4,q5,q6,q7,q8⟩:=h
   refine⟨h1,h2,h3,gg,en,clock,og,by rw[hg];exact q1,q2,q3,q4,q5.mono (hP rfl),q6,fun i x hx=>?_,fun kx v=>⟨fun hf=>(by cases hf),fun hf=>(by cases hf)⟩⟩
   obtain⟨m,r1,r2,r3,r4⟩:=q7 i x hx
   exact⟨m,r1,cF.mono kp (fun _ hb=>by cases hb) r2,fun v pr hv=>(by cases hv),fun hv=>de.mono kp.w kp.S (fun _ _=>rfl) (r4 (fun v pr hv=>by cases hv))⟩
  |
   some f=>
   obtain⟨j,v,p⟩:=f
   simp only[iV] at hk
   split at hk
   ·rename_i u hu
    split at hk
    ·rename_i hc
     cases hk
     obtain⟨h1,h2,h3,gg,en,clock,og,q1,q2,q3,q4,q5,q6,q7,q8⟩:=h
     refine⟨h1,h2,fun kx v' pr hv=>by cases hv;exact hc,gg,en,clock,og,by rw[hg];exact q1,q2,q3,q4,q5.mono (hP rfl),q6,fun i x hx=>?_,fun kx v'=>⟨fun hf hn=>?_,fun hf=>?_⟩⟩
     ·obtain⟨m,r1,r2,r3,r4⟩:=q7 i x hx
      refine⟨m,r1,cF.mono kp (fun _ hb=>by cases hb) r2,fun v' pr hv=>?_,fun hv=>de.mono kp.w kp.S (fun _ _=>rfl) (r4 (fun v' pr hv'=>by cases hv';exact hv u _ rfl))⟩
      cases hv
      exact⟨(r3 v _ rfl).1,g.rc v u _ hu (r3 v _ rfl).2⟩
     ·cases hf
      exact g.rc v u _ hu ((q8 _ v).1 rfl hn)
     ·cases hf
      exact(q8 _ v).2 rfl
    ·cases hk
   ·cases hk
 |fY k t es e2' kx v pr=>simp[iV] at hk
 |
  ig kt l=>
  simp only[iV,fm] at hk
  obtain⟨l',hl,e⟩:=hk
  cases e
  obtain⟨h1,h2,gg,en,clock,q1,q2,q3⟩:=h
  obtain⟨r1,r2⟩:=g.RF hS hl q3
  refine⟨by rw[r2];exact h1,?_,gg,en,clock,by rw[hg];exact q1,q2,r1⟩
  have:=cV List.length r2
  simp only[iK] at this
  rw[this];exact h2
 |lp l r=>simp only[iV,cE] at hk;subst hk;exact⟨by rw[hg];exact h.1,h.2⟩
 |sS=>simp only[iV,cE] at hk;subst hk;obtain⟨i,h1,h2⟩:=h;exact⟨i,by rw[hg];exact h1,h2⟩
 |
  tv gg t v=>
  simp only[iV] at hk
  split at hk
  ·rename_i u hu
   split at hk
   ·rename_i hc
    cases hk
    obtain⟨h0,h1,h2,c,e,h4,h5⟩:=h
    exact⟨by rw[hg];exact h0,by rw[hbt];exact h1,hc,c,e,h4,g.rc v u _ hu h5⟩
   ·cases hk
  ·cases hk
 |
  bZ e bs t xs i v=>
  simp only[iV] at hk
  split at hk
  ·rename_i u hu
   split at hk
   ·rename_i hc
    cases hk
    obtain⟨h1,h2,h3,h4,h5,h6,gg,cap,c,q1,q2,q3,q4,q5,q6,q7,q8,q9⟩:=h
    exact⟨by rw[hbt];exact h1,h2,h3,h4,h5,hc,gg,cap,c,by rw[hsv];exact q1,q2,by rw[hg];exact q3,q4,q5,q6,aT.mono (fun _ _=>Rel.mono kp.w kp.S) q7,g.rc v u _ hu q8,aT.mono (fun _ _=>Rel.mono kp.w kp.S) q9⟩
   ·cases hk
  ·cases hk
def fz(hb:Nat→Option aN)(b:Nat)(t:Ty):AV→Option AV
 | .own c=>if Nat.beq c b then(view hb (.own c) false t).map (·.1) else some (.own c)
 | .jR c lo len=>if Nat.beq c b then(view hb (.jR c lo len) false t).map (·.1) else some (.jR c lo len)
 | .jb c p lo len=>if Nat.beq c b then(view hb (.jb c p lo len) false t).map (·.1) else some (.jb c p lo len)
 | .ptr c p=>if Nat.beq c b then(view hb (.ptr c p) false t).map (·.1) else some (.ptr c p)
 | .mp c=>if Nat.beq c b then(view hb (.mp c) false t).map (·.1) else some (.mp c)
 |
  .func fn fs cs=>match fz hb b t fs,fz hb b t cs with
  |some f,some c=>if f.atoms&&c.atoms then some (.func fn f c) else none
  |_,_=>none
 |
  .iface u v=>match fz hb b t v with
  |some x=>some (.iface u x)
  |none=>none
 |
  .cons x y=>match fz hb b t x,fz hb b t y with
  |some u,some v=>some (.cons u v)
  |_,_=>none
 | .bot=>none
 | .gC _=>none
 | .opt _ _=>none
 |x=>some x
theorem lg{hb:Nat→Option aN}{x y:AV}{t:Ty}{l:List Nat}{b:Nat}(hx:x= .own b∨(∃lo len,x= .jR b lo len)∨(∃p lo len,x= .jb b p lo len)∨(∃p,x= .ptr b p))(h:view hb x false t=some (y,l)):l= [b]:=by
 rcases hx with rfl|⟨lo,len,rfl⟩|⟨p,lo,len,rfl⟩|⟨p,rfl⟩
 ·have h':(match fk hb b with|some ⟨bs,t,xs⟩=>some (AV.val (.slice bs t) xs,[b])|none=>none)=some (y,l):=by cases t<;>exact h
  split at h'<;>cases h';rfl
 ·have h':(match fk hb b with|some ⟨bs,t,xs⟩=>some (AV.val (.slice bs t) ((xs.drop lo).take len),[b])|none=>none)=some (y,l):=by cases t<;>exact h
  split at h'<;>cases h';rfl
 ·cases t with
  |
   slice bs t=>
   simp only[view] at h
   split at h
   ·split at h
    ·split at h
     ·cases h;rfl
     ·cases h
    ·cases h
   ·cases h
  |_=>simp[view] at h
 ·have h':(match hb b with
   |
    some k=>match kC k p,(iP k).sub p with
    |
     some u,some s=>match u.bL s with
     |some y=>some (AV.bN s y,[b])
     |none=>none
    |_,_=>none
   |none=>none)=some (y,l):=by cases t<;>exact h
  split at h'
  ·split at h'
   ·split at h'
    ·cases h';rfl
    ·cases h'
   ·cases h'
  ·cases h'
theorem IN{gl:Ctx}{E:Env}{w:World}{hp:List (Option aN)}(hw:HW gl E w hp){hb:Nat→Option aN}(hB:HB hb hp)(b:Nat)(t:Ty):Good E (E.cU [b]) w (fz hb b t) where
 mp:=by
  intro c y h
  simp only[fz] at h
  split at h
  ·obtain⟨⟨z,l⟩,h1,h2⟩:=Option.map_eq_some_iff.1 h
   have:=qx h1
   simp only at h2
   subst h2
   simp[AV.ids] at this
  ·cases h;rfl
 rc:=
  by
  have kp:bM E w (E.cU [b]) w:=Env.dC [b]
  intro x
  induction x with
  |
   own c=>
   intro y vs h hr
   simp only[fz] at h
   split at h
   ·rename_i e;have e:=bQ e;subst e
    obtain⟨⟨z,l⟩,h1,rfl⟩:=Option.map_eq_some_iff.1 h
    have:=lg (Or.inl rfl) h1;subst this
    exact lu hw hB h1 hr
   ·cases h;exact RC.mono kp (fun _ _=>⟨rfl,rfl,rfl⟩) hr
  |
   jR c lo len=>
   intro y vs h hr
   simp only[fz] at h
   split at h
   ·rename_i e;have e:=bQ e;subst e
    obtain⟨⟨z,l⟩,h1,rfl⟩:=Option.map_eq_some_iff.1 h
    have:=lg (Or.inr (Or.inl ⟨lo,len,rfl⟩)) h1;subst this
    exact lu hw hB h1 hr
   ·cases h;exact RC.mono kp (fun _ _=>⟨rfl,rfl,rfl⟩) hr
  |
   jb c p lo len=>
   intro y vs h hr
   simp only[fz] at h
   split at h
   ·rename_i e;have e:=bQ e;subst e
    obtain⟨⟨z,l⟩,h1,rfl⟩:=Option.map_eq_some_iff.1 h
    have:=lg (Or.inr (Or.inr (Or.inl ⟨p,lo,len,rfl⟩))) h1;subst this
    exact lu hw hB h1 hr
   ·cases h;exact RC.mono kp (fun _ _=>⟨rfl,rfl,rfl⟩) hr
  |
   ptr c p=>
   intro y vs h hr
   simp only[fz] at h
   split at h
   ·rename_i e;have e:=bQ e;subst e
    obtain⟨⟨z,l⟩,h1,rfl⟩:=Option.map_eq_some_iff.1 h
    have:=lg (Or.inr (Or.inr (Or.inr ⟨p,rfl⟩))) h1;subst this
    exact lu hw hB h1 hr
   ·cases h;exact RC.mono kp (fun _ _=>⟨rfl,rfl,rfl⟩) hr
  |
   mp c=>
   intro y vs h hr
   simp only[fz] at h
   split at h
   ·rename_i e;have e:=bQ e;subst e
    obtain⟨⟨z,l⟩,h1,rfl⟩:=Option.map_eq_some_iff.1 h
    have:l= [c]:=by
     have h':(match hb c with
      |some (.map k v es)=>some (AV.val (.map k v) (some es),[c])
      |_=>none)=some (z,l):=by cases t<;>exact h1
     split at h'<;>cases h';rfl
    subst this
    exact lu hw hB h1 hr
   ·cases h;exact RC.mono kp (fun _ _=>⟨rfl,rfl,rfl⟩) hr
  |
   func fn fs cs ih1 ih2=>
   intro y vs h hr
   simp only[fz] at h
   split at h
   ·rename_i f c h1 h2
    split at h
    ·rename_i ha
     cases h
     simp only[aV] at ha
     obtain⟨f',c',e,r1,r2,_,_⟩:=hr
     exact⟨f',c',e,ih1 f _ h1 r1,ih2 c _ h2 r2,ha.1,ha.2⟩
    ·cases h
   ·cases h
  |
   iface u v ih=>
   intro y vs h hr
   simp only[fz] at h
   split at h
   ·rename_i z hz
    cases h
    obtain⟨x,e,hr⟩:=hr
    refine⟨x,e,?_⟩
    have abJ:=fzAgg v z hz
    rcases hr with⟨h1,cs,e2,h3⟩|⟨h1,h3⟩
    ·exact Or.inl ⟨by rw[abJ];exact h1,cs,e2,ih z _ hz h3⟩
    ·exact Or.inr ⟨by rw[abJ];exact h1,ih z _ hz h3⟩
   ·cases h
  |
   cons a c ih1 ih2=>
   intro y vs h hr
   simp only[fz] at h
   split at h
   ·rename_i u v h1 h2
    cases h
    obtain⟨v1,v2,e,r1,r2⟩:=hr
    exact⟨v1,v2,e,ih1 u _ h1 r1,ih2 v _ h2 r2⟩
   ·cases h
  |bot=>intro y vs h;simp[fz] at h
  |gC l=>intro y vs h;simp[fz] at h
  |opt c v=>intro y vs h;simp[fz] at h
  |_=>intro y vs h hr;simp only[fz,cE] at h;subst h;exact RC.mono kp (fun _ _=>⟨rfl,rfl,rfl⟩) hr
 agg:=fun x y h=>fzAgg x y h
 fn:=
  by
  intro fn fs cs y h
  simp only[fz] at h
  split at h
  ·rename_i f c h1 h2
   split at h
   ·rename_i ha
    cases h
    simp only[aV] at ha
    exact⟨f,c,rfl,h1,h2,ha.1,ha.2⟩
   ·cases h
  ·cases h
where
 fzAgg {hb:Nat→Option aN} {b:Nat} {t:Ty} (x y:AV) (h:fz hb b t x=some y):y.isAgg=x.isAgg:=by
  cases x with
  |
   own c=>
   simp only[fz] at h
   split at h
   ·simp only[fm] at h;obtain⟨⟨z,l⟩,h1,rfl⟩:=h;exact iD h1
   ·cases h;rfl
  |
   jR c lo len=>
   simp only[fz] at h
   split at h
   ·simp only[fm] at h;obtain⟨⟨z,l⟩,h1,rfl⟩:=h;exact iD h1
   ·cases h;rfl
  |
   jb c p lo len=>
   simp only[fz] at h
   split at h
   ·simp only[fm] at h;obtain⟨⟨z,l⟩,h1,rfl⟩:=h;exact iD h1
   ·cases h;rfl
  |
   ptr c p=>
   simp only[fz] at h
   split at h
   ·simp only[fm] at h;obtain⟨⟨z,l⟩,h1,rfl⟩:=h;exact iD h1
   ·cases h;rfl
  |
   mp c=>
   simp only[fz] at h
   split at h
   ·simp only[fm] at h;obtain⟨⟨z,l⟩,h1,rfl⟩:=h;exact iD h1
   ·cases h;rfl
  |
   func fn fs cs=>
   simp only[fz] at h
   split at h
   ·split at h
    ·cases h;rfl
    ·cases h
   ·cases h
  |
   iface u v=>
   simp only[fz] at h
   split at h
   ·cases h;rfl
   ·cases h
  |
   cons a c=>
   simp only[fz] at h
   split at h
   ·cases h;rfl
   ·cases h
  |bot=>simp[fz] at h
  |gC l=>simp[fz] at h
  |opt c v=>simp[fz] at h
  |_=>simp only[fz,cE] at h;subst h;rfl
def eC(hp:List (Option aN))(b:Nat):Option aN:=(hp[b]?).join
theorem cw(hp:List (Option aN)):HB (eC hp) hp:=by
 intro b k hk
 unfold eC at hk
 cases hh:hp[b]? with
 |none=>simp[hh] at hk
 |some z=>simp[hh] at hk;rw[hk]
def freeze(b:Nat)(t:Ty)(σ:St):Option St:=
 match eC σ.hp b with
 |some _=>St.gk (fz (eC σ.hp) b t) {σ with hp:=σ.hp.set b none}
 |none=>none
theorem Wk.freeze{gl:Ctx}{b:Nat}{t:Ty}{σ σ':St}(h:Ax.freeze b t σ=some σ'):Wk gl σ σ':=by
 intro E a w hg
 unfold Ax.freeze at h
 split at h
 ·rename_i k hk
  have hbk:=cw σ.hp b k hk
  unfold St.gk at h
  split at h
  ·rename_i hp' df' h1 h2
   cases h
   have acg:=IN hg.hw (cw σ.hp) b t
   have hSle:∀i,E.S i→(E.cU [b]).S i:=fun i hi=>Or.inl hi
   have src:∀(i:Nat)(k':aN),hp'[i]? =some (some k')→∃k0,i≠b∧σ.hp[i]? =some (some k0)∧iV (fz (eC σ.hp) b t) (some k0)=some (some k'):=by
    intro i k' hi
    obtain⟨k0,e1,e2⟩:=jJ h1 hi
    simp only[bK] at e1
    split at e1
    ·split at e1<;>cases e1
    ·rename_i hne;exact⟨k0,fun e=>hne e.symm,e1,e2⟩
   refine⟨E.cU [b],⟨?_,?_,⟨?_,?_,?_,?_,hg.hw.fT (Env.dC [b]),fun i k' g' hi hp=>by obtain⟨k0,_,e1,_⟩:=src i k' hi;exact hg.hw.qG i k0 g' e1 hp⟩,acg.RD h2 hg.df⟩,⟨rfl,Tp.r rfl rfl,rfl,cq _,fun _ _ _=>rfl,hSle,?_,?_,fun _ _=>⟨rfl,rfl,rfl⟩⟩⟩
   ·simp only[jH];exact hg.len
   ·intro i y hy v hv
    rcases jI hy with e|⟨x,e1,e2,e3⟩
    ·subst e;trivial
    ·exact RV.dO (acg.RV e3 (RV.js e2 (hg.tm i x e1 v hv)))
   ·intro i k' hi
    obtain⟨k0,_,e1,e2⟩:=src i k' hi
    exact acg.RB hSle (b:=i) (b':=i) rfl rfl rfl (fun _ _ h=>h) e2 (hg.hw.cH i k0 e1)
   ·intro i j k1 k2 g' hi hj g1 g2
    obtain⟨k3,_,e1,_⟩:=src i k1 hi
    obtain⟨k4,_,e2,_⟩:=src j k2 hj
    exact hg.hw.dN i j k3 k4 g' e1 e2 g1 g2
   ·intro i k' g' hi hgi hs
    obtain⟨k0,hne,e1,_⟩:=src i k' hi
    rcases hs with hs|⟨c,hc,e⟩
    ·exact hg.hw.dq i k0 g' e1 hgi hs
    ·simp at hc;subst hc
     exact hne (hg.hw.dN i c k0 k g' e1 hbk hgi (Or.inl e))
   ·intro g' hs
    rcases hs with hs|⟨c,hc,e⟩
    ·exact hg.hw.slt g' hs
    ·simp at hc;subst hc
     exact Own.below hg.hw ⟨c,k,hbk,Or.inl e⟩
   ·intro g' hs
    rcases hs with hs|⟨c,hc,e⟩
    ·exact Or.inl hs
    ·simp at hc;subst hc
     exact Or.inr (Or.inl ⟨c,k,hbk,Or.inl e⟩)
   ·rintro g' ⟨i,k',hi,hgi⟩
    obtain⟨k0,_,e1,_⟩:=src i k' hi
    exact Or.inl ⟨i,k0,e1,hgi⟩
  ·cases h
 ·cases h
end Go.Ax
namespace Go.Ax
def mu(b:Nat):AV→Bool
 | .jR c _ _| .jb c _ _ _| .ptr c _=> !Nat.beq c b
 | .func _ fs cs=>mu b fs&&mu b cs&&fs.atoms&&cs.atoms
 | .iface _ v=>mu b v
 | .cons a c=>mu b a&&mu b c
 | .bot| .gC _| .opt _ _=>false
 |_=>true
def im(b:Nat)(x:AV):Option AV:=if mu b x then some x else none
def Env.re(E:Env)(b:Nat)(t:Ty):Env:={E with bt:=fun c=>if c=b then t else E.bt c}
theorem Env.zh{E:Env}{b c:Nat}{t:Ty}(h:c≠b):(E.re b t).bt c=E.bt c:=by simp[Env.re,h]
theorem Env.Ct{E:Env}{b:Nat}{t:Ty}:(E.re b t).bt b=t:=by simp[Env.re]
theorem Fs{E:Env}{w:World}{b:Nat}{t:Ty}:∀{x:AV}{vs:List Value},mu b x=true→RC E w x vs→RC (E.re b t) w x vs:=by
 intro x
 have ne:∀{c:Nat},(!Nat.beq c b)=true→c≠b:=fun h e=>by subst e;simp at h
 induction x with
 |jR c lo len=>intro vs h hr;simp only[RC];rw[Env.zh (ne h)];exact hr
 |jb c p lo len=>intro vs h hr;simp only[RC];rw[Env.zh (ne h)];exact hr
 |ptr c p=>intro vs h hr;simp only[RC];rw[Env.zh (ne h)];exact hr
 |
  func fn fs cs ih1 ih2=>
  intro vs h hr
  simp only[mu,aV] at h
  obtain⟨f,c,e,h1,h2,h3,h4⟩:=hr
  exact⟨f,c,e,ih1 h.1.1.1 h1,ih2 h.1.1.2 h2,h3,h4⟩
 |
  iface u v ih=>
  intro vs h hr
  obtain⟨x,e,hr⟩:=hr
  refine⟨x,e,?_⟩
  rcases hr with⟨h1,cs,e2,h3⟩|⟨h1,h3⟩
  ·exact Or.inl ⟨h1,cs,e2,ih h h3⟩
  ·exact Or.inr ⟨h1,ih h h3⟩
 |
  cons a c ih1 ih2=>
  intro vs h hr
  simp only[mu,aV] at h
  obtain⟨v1,v2,e,h1,h2⟩:=hr
  exact⟨v1,v2,e,ih1 h.1 h1,ih2 h.2 h2⟩
 |bot=>intro vs h;simp[mu] at h
 |gC l=>intro vs h;simp[mu] at h
 |opt c v=>intro vs h;simp[mu] at h
 |_=>intro vs h hr;exact hr
theorem xz{E:Env}{w:World}{b:Nat}{t:Ty}:Good E (E.re b t) w (im b) where
 rc:=by
  intro x y vs h hr
  unfold im at h
  split at h
  ·rename_i hn;cases h;exact Fs hn hr
  ·cases h
 agg:=by
  intro x y h
  unfold im at h
  split at h
  ·cases h;rfl
  ·cases h
 mp:=by
  intro c y h
  unfold im at h
  split at h
  ·cases h;rfl
  ·cases h
 fn:=by
  intro fn fs cs y h
  unfold im at h
  split at h
  ·rename_i hn
   cases h
   simp only[mu,aV] at hn
   exact⟨fs,cs,rfl,by unfold im;rw[aA hn.1.1.1],by unfold im;rw[aA hn.1.1.2],hn.1.2,hn.2⟩
  ·cases h
theorem cd.re{gl:Ctx}{σ:St}{E:Env}{a:Act}{w:World}(hg:cd gl σ E a w){b:Nat}{k k':aN}{ty:Ty}{σ1:St}(hb:σ.hp[b]? =some (some k))(h16:16≤b)(hm:St.gk (im b) {σ with hp:=σ.hp.set b none}=some σ1)(hk:RB (E.re b ty) w b k'):
 cd gl {σ1 with hp:=σ1.hp.set b (some k')} (E.re b ty) a w∧Ext gl.md (Own σ.hp E) E w (Own (σ1.hp.set b (some k')) (E.re b ty)) (E.re b ty) w:=by
 have acg:=xz (E:=E) (w:=w) (b:=b) (t:=ty)
 unfold St.gk at hm
 split at hm
 ·rename_i hp' df' h3 h4
  cases hm
  have src:∀(i:Nat)(k2:aN),(hp'.set b (some k'))[i]? =some (some k2)→(i=b∧k'=k2)∨(i≠b∧∃k0,σ.hp[i]? =some (some k0)∧iV (im b) (some k0)=some (some k2)):=by
   intro i k2 hi
   rw[bK] at hi
   split at hi
   ·rename_i e;subst e
    split at hi
    ·cases hi;exact Or.inl ⟨rfl,rfl⟩
    ·cases hi
   ·rename_i hne
    obtain⟨k0,e1,e2⟩:=jJ h3 hi
    simp only[bK] at e1
    rw[aC hne] at e1
    exact Or.inr ⟨fun e=>hne e.symm,k0,e1,e2⟩
  have any:∀(i:Nat)(k2:aN),(hp'.set b (some k'))[i]? =some (some k2)→∃k0,σ.hp[i]? =some (some k0):=by
   intro i k2 hi
   rcases src i k2 hi with⟨e,_⟩|⟨_,k0,e,_⟩
   ·subst e;exact⟨k,hb⟩
   ·exact⟨k0,e⟩
  refine⟨⟨?_,?_,⟨?_,?_,?_,hg.hw.slt,hg.hw.gl,?_⟩,acg.RD h4 hg.df⟩,⟨rfl,Tp.r rfl rfl,rfl,cq _,fun _ _ _=>rfl,fun _ h=>h,fun _ h=>Or.inl h,?_,fun i hi=>⟨rfl,rfl,Env.zh (by omega)⟩⟩⟩
  ·simp only[jH];exact hg.len
  ·intro i y hy v hv
   rcases jI hy with e|⟨x,e1,e2,e3⟩
   ·subst e;trivial
   ·exact RV.dO (acg.RV e3 (RV.js e2 (hg.tm i x e1 v hv)))
  ·intro i k2 hi
   rcases src i k2 hi with⟨e,e'⟩|⟨e1,k0,e3,e4⟩
   ·subst e;subst e';exact hk
   ·exact acg.RB (fun _ h=>h) (b:=i) (b':=i) rfl rfl (Env.zh e1) (fun _ _ h=>h) e4 (hg.hw.cH i k0 e3)
  ·intro i j k2 k3 g hi hj g1 g2
   obtain⟨k4,e1⟩:=any i k2 hi
   obtain⟨k5,e2⟩:=any j k3 hj
   exact hg.hw.dN i j k4 k5 g e1 e2 g1 g2
  ·intro i k2 g hi hgi hs
   obtain⟨k4,e1⟩:=any i k2 hi
   exact hg.hw.dq i k4 g e1 hgi hs
  ·intro i k2 g hi hgi
   obtain⟨k4,e1⟩:=any i k2 hi
   exact hg.hw.qG i k4 g e1 hgi
  ·rintro g ⟨i,k2,hi,hgi⟩
   obtain⟨k4,e1⟩:=any i k2 hi
   exact Or.inl ⟨i,k4,e1,hgi⟩
 ·cases hm
def pk(b:Nat):Bool:=Nat.ble 16 b
def kL(b:Nat)(σ:St):Option St:=
 match eC σ.hp b with
 |
  some (.bZ e bs t xs i v)=>match v.bL t with
  |
   some y=>if pk b then(match St.gk (im b) {σ with hp:=σ.hp.set b none} with
   |some σ1=>some {σ1 with hp:=σ1.hp.set b (some (.row e bs t (xs.set i y)))}
   |none=>none) else none
  |none=>none
 |_=>none
theorem aT.join{α:Type}{r:List Value→α→Prop}:∀{xs ys:List α}{vs us:List Value},aT r vs xs→aT r us ys→aT r (vs++us) (xs++ys)
 |[],ys,vs,us,h,k=>by simp[aT] at h;subst h;simpa using k
 |
  x::xs,ys,vs,us,⟨v1,v2,e,h1,h2⟩,k=>by
  subst e
  exact⟨v1,v2++us,by simp,h1,aT.join h2 k⟩
theorem DI{α:Type}{xs:List α}{i:Nat}{y:α}(h:i<xs.length):xs.set i y=xs.take i++y::xs.drop (i+1):=by
 rw[List.set_eq_take_append_cons_drop,aA h]
theorem Wk.kL{gl:Ctx}{b:Nat}{σ σ':St}(h:Ax.kL b σ=some σ'):Wk gl σ σ':=by
 intro E a w hg
 unfold Ax.kL at h
 split at h
 ·rename_i e bs t xs i v hb
  have hb:=cw σ.hp b _ hb
  split at h
  ·rename_i y hy
   split at h
   ·rename_i h16
    split at h
    ·rename_i σ1 hm
     cases h
     obtain⟨h1,h2,h3,h4,h5,h6,g,cap,c,q1,q2,q3,q4,q5,q6,q7,q8,q9⟩:=hg.hw.cH b _ hb
     obtain⟨r1,r2⟩:=hg.re (k':=.row e bs t (xs.set i y)) (ty:=.arr xs.length t) hb (fc h16) hm (by
      refine⟨by rw[Env.Ct,bF],by rw[bF];exact h3,by rw[bF];exact h4,h5,some ⟨g,0,none⟩,cap,by rw[bF];exact q1,q2,Or.inr ⟨g,c,q3,rfl,q4,q5,by rw[bF];exact q6,?_⟩⟩
      rw[bF,DI h2]
      have hmid:Rel w E.S t ((c.toList.drop (i*t.size)).take t.size) y:=RC.bL hy q8
      have hsp:c.toList.take (xs.length*t.size)=c.toList.take (i*t.size)++((c.toList.drop (i*t.size)).take t.size++(c.toList.drop ((i+1)*t.size)).take ((xs.length -(i+1))*t.size)):=by
       have e1:xs.length*t.size=i*t.size+(t.size+(xs.length -(i+1))*t.size):=by
        rw[←Nat.add_assoc,show i*t.size+t.size=(i+1)*t.size from by rw[cM];omega,←cM]
        congr 1;omega
       rw[e1,List.take_add,List.take_add,gP,show(i+1)*t.size=i*t.size+t.size from by rw[cM];omega]
      rw[hsp]
      exact aT.join q7 ⟨_,_,rfl,hmid,q9⟩)
     exact⟨_,r1,r2⟩
    ·cases h
   ·cases h
  ·cases h
 ·cases h
def vp(b i:Nat)(σ:St):Option St:=
 match eC σ.hp b with
 |some (.row e bs t xs)=>if pk b then(match St.gk (im b) {σ with hp:=σ.hp.set b none} with
  |some σ1=>some {σ1 with hp:=σ1.hp.set b (some (.bZ e bs t xs i (.val t (xs.getD i t.aD))))}
  |none=>none) else none
 |_=>none
theorem aT.split{w:World}{S:Nat→Prop}{t:Ty}{xs:List t.den}{cs:List Value}{i:Nat}(h:aT (Rel w S t) cs xs)(hi:i<xs.length):
 aT (Rel w S t) (cs.take (i*t.size)) (xs.take i)∧Rel w S t ((cs.drop (i*t.size)).take t.size) (xs.getD i t.aD)∧aT (Rel w S t) (cs.drop ((i+1)*t.size)) (xs.drop (i+1)):=
 ⟨aT.take (fun _ _=>Rel.len) i h,by have:=aT.get (r:=Rel w S t) (fun _ _=>Rel.len) t.aD i h hi;exact this,aT.drop (fun _ _=>Rel.len) (i+1) h⟩
theorem zi{gl:Ctx}{b i:Nat}{σ σ':St}(h:vp b i σ=some σ'){E:Env}{a:Act}{w:World}(hg:cd gl σ E a w)(hi:∀e bs t xs,eC σ.hp b=some (.row e bs t xs)→i<xs.length):
 ∃n t,E.bt b= .arr n t∧cd gl σ' (E.re b (jZ i n t)) a w∧Ext gl.md (Own σ.hp E) E w (Own σ'.hp (E.re b (jZ i n t))) (E.re b (jZ i n t)) w:=by
 unfold vp at h
 split at h
 ·rename_i e bs t xs hb0
  have hb:=cw σ.hp b _ hb0
  have hi:=hi _ _ _ _ hb0
  split at h
  ·rename_i h16
   split at h
   ·rename_i σ1 hm
    cases h
    obtain⟨h1,h2,h3,h4,ad,cap,h5,h6,h7⟩:=hg.hw.cH b _ hb
    rcases h7 with⟨_,_,h9⟩|⟨g,c,h7,h8,h9,h10,h11,h12⟩
    ·subst h9;simp at hi
    ·subst h8
     refine⟨xs.length,t,h1,?_⟩
     refine hg.re hb (fc h16) hm ⟨Env.Ct,hi,h2,h3,h4,Ty.db t,g,cap,c,h5,h6,h7,h9,h10,h11,?_,?_,?_⟩
     ·obtain⟨q1,_,_⟩:=aT.split h12 hi
      rw[kz,iN (fv _ (by omega))] at q1
      exact q1
     ·obtain⟨_,q2,_⟩:=aT.split h12 hi
      rw[lF,kz,iN (by rw[←Nat.sub_mul];exact Nat.le_mul_of_pos_left _ (by omega))] at q2
      exact q2
     ·obtain⟨_,_,q3⟩:=aT.split h12 hi
      rw[lF,←Nat.sub_mul] at q3
      exact q3
   ·cases h
  ·cases h
 ·cases h
theorem Wk.T6{gl:Ctx}{b i:Nat}{σ σ':St}(h:vp b i σ=some σ')(hi:∀e bs t xs,eC σ.hp b=some (.row e bs t xs)→i<xs.length):Wk gl σ σ':=by
 intro E a w hg
 obtain⟨n,t,_,h1,h2⟩:=zi h hg hi
 exact⟨_,h1,h2⟩
theorem Wk.T8{gl:Ctx}{b i s:Nat}{σ σ':St}(hs:σ.tm[s]? =some (.ptr b [.idx i]))(h:vp b i σ=some σ'):Wk gl σ {σ' with tm:=σ'.tm.set s (.ptr b [.cD 1])}:=by
 intro E a w hg
 have hlt:s<a.tmps.size:=by rw[hg.len];exact(List.getElem?_eq_some_iff.1 hs).1
 obtain⟨g,hgb,e,hv⟩:=RV.atom rfl (hg.tm s _ hs a.tmps[s] (by simp[hlt]))
 obtain⟨n,t,hbt,h1,h2⟩:=zi h hg (fun e bs t xs hb=>by
  have hk:=hg.hw.cH b _ (cw σ.hp b _ hb)
  have:=hk.1
  rw[this] at hv
  exact hv.1)
 refine⟨_,⟨by simp only[bF];exact h1.len,?_,h1.hw,h1.df⟩,h2⟩
 intro j x hx v hv'
 simp only[bK] at hx
 split at hx
 ·rename_i e';subst e'
  split at hx
  ·cases hx
   rw[Array.getElem?_eq_getElem hlt] at hv'
   cases hv'
   simp at e
   refine RV.dO (Or.inr ⟨rfl,g,hgb,?_,?_⟩)
   ·rw[e,Env.Ct,hbt];simp[jZ,Ty.off,Ty.je,Ty.size]
   ·rw[Env.Ct];exact Ty.gI t
  ·cases hx
 ·exact h1.tm j x hx v hv'
end Go.Ax
