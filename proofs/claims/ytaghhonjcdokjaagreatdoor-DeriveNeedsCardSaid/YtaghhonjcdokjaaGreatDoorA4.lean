/- The machines: what it means to be walked or run, part 4. No condition. -/
import Derived.Test.YtaghhonjcdokjaaGreatDoorA3
import Derived.Laws.Cover3
import Derived.RangeFuncRecord
namespace Go.Ax
def K2(b b' c:Nat):Nat:=if Nat.beq c b then b' else c
def rn(b b':Nat):AV→Option AV
 | .own c=>some (.own (K2 b b' c))
 | .jV c lo len=>some (.jV (K2 b b' c) lo len)
 | .jy c p lo len=>some (.jy (K2 b b' c) p lo len)
 | .ptr c p=>some (.ptr (K2 b b' c) p)
 | .mp c=>some (.mp (K2 b b' c))
 |
  .func fn fs cs=>match rn b b' fs,rn b b' cs with
  |some f,some c=>if f.atoms&&c.atoms then some (.func fn f c) else none
  |_,_=>none
 |
  .iface u v=>match rn b b' v with
  |some x=>some (.iface u x)
  |none=>none
 |
  .cons x y=>match rn b b' x,rn b b' y with
  |some u,some v=>some (.cons u v)
  |_,_=>none
 | .bot=>none
 | .gJ _=>none
 | .opt _ _=>none
 | .fE _=>none
 |x=>some x
def Env.mv(E:Env)(b b':Nat):Env:={E with P:=fun c=>if c=b' then E.P b else E.P c,g:=fun c=>if c=b' then E.g b else E.g c,sv:=fun c=>if c=b' then E.sv b else E.sv c,bt:=fun c=>if c=b' then E.bt b else E.bt c}
theorem wV{E:Env}{b b' c:Nat}(h:c≠b'):(E.mv b b').g (K2 b b' c)=E.g c∧(E.mv b b').sv (K2 b b' c)=E.sv c∧(E.mv b b').bt (K2 b b' c)=E.bt c:=by
 grind [K2,bP,Env.mv]
theorem HZ(b b':Nat)(x y:AV)(h:rn b b' x=some y):y.isAgg=x.isAgg:=by
 cases x with
 |
  func fn fs cs=>
  simp only[rn] at h
  split at h
  ·split at h
   ·cases h;rfl
   grind
  grind
 |
  iface u v=>
  simp only[rn] at h
  split at h
  ·cases h;rfl
  grind
 |
  cons a c=>
  simp only[rn] at h
  split at h
  ·cases h;rfl
  grind
 |bot=>trivial
 |gJ l=>trivial
 |opt c v=>trivial
 |fE c=>trivial
 |_=>simp only[rn,dn] at h;subst h;rfl
theorem S1{E:Env}{w:World}{b b':Nat}:∀{x y:AV}{vs:List Value},b'∉x.ids→rn b b' x=some y→RC E w x vs→RC (E.mv b b') w y vs:=by
 intro x
 induction x with
 |own c=>
  intro y vs hi h hr;simp only[rn,dn] at h;subst h
  obtain⟨_,e2,_⟩:=wV (E:=E) (b:=b) (b':=b') (c:=c) (fun e=>hi (by simp[AV.ids,e]))
  simp only[RC];rw[e2];exact hr
 |jV c lo len=>
  intro y vs hi h hr;simp only[rn,dn] at h;subst h
  obtain⟨_,e2,e3⟩:=wV (E:=E) (b:=b) (b':=b') (c:=c) (fun e=>hi (by simp[AV.ids,e]))
  simp only[RC];rw[e2,e3];exact hr
 |jy c p lo len=>
  intro y vs hi h hr;simp only[rn,dn] at h;subst h
  obtain⟨e1,_,e3⟩:=wV (E:=E) (b:=b) (b':=b') (c:=c) (fun e=>hi (by simp[AV.ids,e]))
  simp only[RC];rw[e1,e3];exact hr
 |ptr c p=>grind [rn,wV,AV.ids,RC]
 |mp c=>grind [rn,wV,AV.ids,RC]
 |
  func fn fs cs ih1 ih2=>
  intro y vs hi h hr
  simp only[rn] at h
  simp only[AV.ids,i7,not_or] at hi
  split at h
  ·rename_i f c h1 h2
   split at h
   ·rename_i ha
    cases h
    simp only[aW] at ha
    obtain⟨f',c',e,r1,r2,_,_⟩:=hr
    exact⟨f',c',e,ih1 hi.1 h1 r1,ih2 hi.2 h2 r2,ha.1,ha.2⟩
   grind
  grind
 |
  iface u v ih=>
  intro y vs hi h hr
  simp only[rn] at h
  split at h
  ·rename_i z hz
   cases h
   obtain⟨x,e,hr⟩:=hr
   refine⟨x,e,?_⟩
   have ahE:=HZ b b' v z hz
   rcases hr with⟨h1,cs,e2,h3⟩|⟨h1,h3⟩
   ·exact Or.inl ⟨by grind,cs,e2,ih hi hz h3⟩
   ·exact Or.inr ⟨by grind,ih hi hz h3⟩
  grind
 |
  cons a c ih1 ih2=>
  intro y vs hi h hr
  simp only[rn] at h
  simp only[AV.ids,i7,not_or] at hi
  split at h
  ·rename_i u v h1 h2
   cases h
   obtain⟨v1,v2,e,r1,r2⟩:=hr
   exact⟨v1,v2,e,ih1 hi.1 h1 r1,ih2 hi.2 h2 r2⟩
  grind
 |bot=>intro y vs _ h;trivial
 |gJ l=>intro y vs _ h;trivial
 |opt c v=>intro y vs _ h;trivial
 |fE c=>intro y vs _ h;trivial
 |_=>intro y vs _ h hr;simp only[rn,dn] at h;subst h;exact hr
theorem PW{E:Env}{w:World}{b b':Nat}:Good E (E.mv b b') w (fun x=>if cL b' x.ids then none else rn b b' x) where
 mp:=by
  intro c y h
  split at h
  ·cases h
  ·rename_i hn
   have hn:=fh (show cL b' (AV.mp c).ids=false by grind)
   grind [rn,wV,AV.ids]
 rc:=by
  grind [S1,fh]
 agg:=by
  grind [HZ]
 fn:=
  by
  intro fn fs cs y h
  split at h
  ·cases h
  ·rename_i hn
   have hn:=fh (show cL b' (AV.func fn fs cs).ids=false by grind)
   simp only[AV.ids,i7,not_or] at hn
   simp only[rn] at h
   have f1:cL b' fs.ids=false:=by
    cases hh:cL b' fs.ids with
    |false=>rfl
    |true=>exact absurd (hasNatMem hh) hn.1
   have f2:cL b' cs.ids=false:=by
    cases hh:cL b' cs.ids with
    |false=>rfl
    |true=>exact absurd (hasNatMem hh) hn.2
   grind
where
 hasNatMem {d:Nat}:∀{l:List Nat},cL d l=true→d∈l
  |[],h=>by cases h
  |
   x::l,h=>by
   simp only[cL,gi] at h
   rcases h with h|h
   ·simp_all
   ·exact eH _ (hasNatMem h)
def rename(b b':Nat)(σ:St):Option St:=
 match eS σ.hp b,eS σ.hp b' with
 |
  some k,none=>if Nat.beq b b'||Nat.blt b' 16 then none else
  match St.gA (fun x=>if cL b' x.ids then none else rn b b' x) {σ with hp:=σ.hp.set b none},jA (fun x=>if cL b' x.ids then none else rn b b' x) (some k) with
  |some σ',some k'=>some {σ' with hp:=σ'.hp.set b' k'}
  |_,_=>none
 |_,_=>none
theorem Wk.rename{gl:Ctx}{b b':Nat}{σ σ':St}(h:Ax.rename b b' σ=some σ'):Wk gl σ σ':=by
 intro E a w hg
 unfold Ax.rename at h
 split at h
 ·rename_i k hk hk'
  have hbk:=cC σ.hp b k hk
  split at h
  ·cases h
  ·rename_i hne0
   have hne:b≠b':=fun e=>hne0 (by simp[e])
   have h16:16≤b':=by
    simp_all
   split at h
   ·rename_i σ1 k1 h1 h2
    cases h
    unfold St.gA at h1
    split at h1
    ·rename_i hp' df' h3 h4
     cases h1
     have ah2:=PW (E:=E) (w:=w) (b:=b) (b':=b')
     have hEh:∀i j,(i=b'→j=b)→(i≠b'→j=i)→∀x,(E.mv b b').has i x↔E.has j x:=by
      grind [Env.has,Env.mv]
     have hEo:∀i,i≠b'→(E.mv b b').g i=E.g i∧(E.mv b b').sv i=E.sv i∧(E.mv b b').bt i=E.bt i:=fun i hi=>by simp[Env.mv,hi]
     have hEn:(E.mv b b').g b'=E.g b∧(E.mv b b').sv b'=E.sv b∧(E.mv b b').bt b'=E.bt b:=by simp[Env.mv]
     have src:∀(i:Nat)(k':aN),(hp'.set b' k1)[i]? =some (some k')→(i=b'∧k1=some k')∨(i≠b'∧i≠b∧∃k0,σ.hp[i]? =some (some k0)∧jA (fun x=>if cL b' x.ids then none else rn b b' x) (some k0)=some (some k')):=by
      intro i k' hi
      rw[dA] at hi
      split at hi
      ·grind
      grind [jO]
     have gOf:∀(i:Nat)(k':aN),(hp'.set b' k1)[i]? =some (some k')→∃j k0,σ.hp[j]? =some (some k0)∧(∀x,(E.mv b b').has i x↔E.has j x)∧(i=b'→j=b)∧(i≠b'→j=i):=by
      grind
     refine⟨E.mv b b',⟨?_,?_,⟨?_,?_,?_,hg.hw.slt,hg.hw.gl,?_⟩,ah2.RD h4 hg.df⟩,⟨rfl,Tp.r rfl rfl,rfl,dD _,fun _ _ _=>rfl,fun _ h=>h,fun _ h=>Or.inl h,?_,fun i hi=>hEo i (by omega)⟩⟩
     ·simp only[jM];exact hg.len
     ·intro i y hy v hv
      rcases jN hy with e|⟨x,e1,e2,e3⟩
      ·subst e;trivial
      ·exact RV.ef (ah2.RV e3 (RV.jD e2 (hg.tm i x e1 v hv)))
     ·intro i k' hi
      rcases src i k' hi with⟨e,e'⟩|⟨e1,e2,k0,e3,e4⟩
      ·subst e
       rw[e'] at h2
       exact ah2.RB (fun _ h=>h) (b:=b) (b':=i) hEn.1 hEn.2.1 hEn.2.2 (fun _ g hp=>by simpa[Env.mv] using hp) h2 (hg.hw.cM b k hbk)
      ·exact ah2.RB (fun _ h=>h) (b:=i) (b':=i) (hEo i e1).1 (hEo i e1).2.1 (hEo i e1).2.2 (fun _ g hp=>by simpa[Env.mv,e1] using hp) e4 (hg.hw.cM i k0 e3)
     ·intro i j k2 k3 g' hi hj g1 g2
      obtain⟨i',k4,e1,e2,e3,e4⟩:=gOf i k2 hi
      obtain⟨j',k5,f1,f2,f3,f4⟩:=gOf j k3 hj
      have g1:=(e2 _).1 g1;have g2:=(f2 _).1 g2
      have hij:=hg.hw.dW i' j' k4 k5 g' e1 f1 g1 g2
      grind
     ·intro i k' g' hi hgi hs
      obtain⟨i',k4,e1,e2,_,_⟩:=gOf i k' hi
      exact hg.hw.du i' k4 g' e1 ((e2 _).1 hgi) hs
     ·intro i k' g' hi hgi
      obtain⟨i',k4,e1,e2,_,_⟩:=gOf i k' hi
      rcases(e2 _).1 (Or.inr hgi) with q|q
      ·exact Own.below hg.hw ⟨i',k4,e1,Or.inl q⟩
      ·exact hg.hw.sh i' k4 g' e1 q
     ·rintro g' ⟨i,k',hi,hgi⟩
      obtain⟨i',k4,e1,e2,_,_⟩:=gOf i k' hi
      exact Or.inl ⟨i',k4,e1,(e2 _).1 hgi⟩
    grind
   grind
 grind
def yh(s b:Nat)(e:TypeId)(bs:Nat)(t:Ty)(σ:St):Option St:=
 match σ.tm[s]? with
 |some .aF=>if σ.fD b&&Nat.blt 0 t.size then some {σ with tm:=σ.tm.set s (.own b),hp:=σ.hp.set b (some (.row e bs t []))} else none
 |_=>none
theorem Wk.yh{gl:Ctx}{s b:Nat}{e:TypeId}{bs:Nat}{t:Ty}{σ σ':St}(h:Ax.yh s b e bs t σ=some σ'):Wk gl σ σ':=by
 intro E a w hg
 unfold Ax.yh at h
 split at h
 ·rename_i hs
  split at h
  ·rename_i hc
   cases h
   simp only[aW] at hc
   have hlt:s<a.tmps.size:=by rw[hg.len];grind
   have ha:=RV.atom rfl (hg.tm s _ hs a.tmps[s] (by grind))
   simp[RC] at ha
   have hsz:0<t.size:=by simp_all
   obtain⟨g1,x1⟩:=hg.fresh (w':=w) (St.dQ hc.1) (g:=none) (sv:=.slice none 0 0) (t:=.arr 0 t) (k:=.row e bs t []) rfl (Tp.r rfl rfl) rfl (dD _) (fun _ _=>rfl) (fun i hi=>by cases hi)
    ⟨by simp[Env.at],by simp,by simp,hsz,none,0,by simp[Env.at],by grind,Or.inl ⟨⟨rfl,rfl⟩,by simp[Env.at],rfl⟩⟩
   refine⟨_,⟨by simp[hg.len],?_,g1.hw,g1.df⟩,x1⟩
   intro i x hx v hv
   rw[dA] at hx
   split at hx
   ·rename_i e';subst e'
    split at hx
    ·cases hx
     have:v= .slice none 0 0:=by grind
     subst this
     exact RV.ef (Or.inr ⟨rfl,by simp[Env.at],none,0,0,by simp[Env.at]⟩)
    grind
   ·exact g1.tm i x hx v hv
  grind
 grind
def kB:Ty→Path→Bool
 | .pair a _,.cF 0::p=>kB a p
 | .pair _ b,.cF (k+1)::p=>kB b (.cF k::p)
 |_,[]=>true
 |_,_=>false
theorem nw:∀{t:Ty}{p:Path},kB t p=true→t.valid p:=by
 intro t
 induction t with
 |
  pair a b ih1 ih2=>
  intro p h
  cases p with
  |nil=>trivial
  |
   cons s p=>
   cases s with
   |
    cF k=>cases k with
    |zero=>grind [kB,Ty.valid]
    |succ k=>grind [kB,Ty.valid]
   |idx i=>trivial
 |
  _=>
  grind [Ty.valid,kB]
def uj(c:Nat)(p:Path)(b:Nat)(e:TypeId)(bs:Nat)(t:Ty)(σ:St):Option St:=
 match eS σ.hp c with
 |
  some (.var tt v)=>match v.get p,v.set p (.own b) with
  |some .aF,some u=>if σ.fD b&&Nat.blt 0 t.size&&u.cE tt&&kB tt p&& !Nat.beq c b then some {σ with hp:=(σ.hp.set b (some (.row e bs t []))).set c (some (.var tt u))} else none
  |_,_=>none
 |
  some (.bW e2 bs2 tt xs i v)=>match v.get p,v.set p (.own b) with
  |some .aF,some u=>if σ.fD b&&Nat.blt 0 t.size&&u.cE tt&&kB tt p&& !Nat.beq c b then some {σ with hp:=(σ.hp.set b (some (.row e bs t []))).set c (some (.bW e2 bs2 tt xs i u))} else none
  |_,_=>none
 |_=>none
theorem Wk.uj{gl:Ctx}{c:Nat}{p:Path}{b:Nat}{e:TypeId}{bs:Nat}{t:Ty}{σ σ':St}(h:Ax.uj c p b e bs t σ=some σ'):Wk gl σ σ':=by
 intro E a w hg
 unfold Ax.uj at h
 split at h
 ·rename_i tt v hc
  have hbk:=cC σ.hp c _ hc
  split at h
  ·rename_i u ahQ aR
   split at h
   ·rename_i hk
    cases h
    simp only[aW] at hk
    obtain⟨⟨⟨⟨k1,k2⟩,k3⟩,k4⟩,k5⟩:=hk
    have hcb:c≠b:=fun e'=>by simp_all
    have hsz:0<t.size:=by simp_all
    obtain⟨g1,x1⟩:=hg.fresh (w':=w) (St.dQ k1) (g:=none) (sv:=.slice none 0 0) (t:=.arr 0 t) (k:=.row e bs t []) rfl (Tp.r rfl rfl) rfl (dD _) (fun _ _=>rfl) (fun i hi=>by cases hi)
     ⟨by simp[Env.at],by simp,by simp,hsz,none,0,by simp[Env.at],by grind,Or.inl ⟨⟨rfl,rfl⟩,by simp[Env.at],rfl⟩⟩
    have hb1:(σ.hp.set b (some (.row e bs t [])))[c]? =some (some (.var tt v)):=by
     grind
    obtain⟨r1,r2,g,cs,e',r3,r4,r5⟩:=g1.hw.cM c _ hb1
    have hva:=nw k4
    obtain⟨s,q1,q2,q3,q4⟩:=AV.fy r5 r2 hva ahQ
    have hs1:s.size=1:=AV.eo q2▸rfl
    have hown:RC (E.at b none (.slice none 0 0) (.arr 0 t)) w (.own b) [.slice none 0 0]:=⟨by simp[Env.at],none,0,0,by simp[Env.at]⟩
    obtain⟨s',p1,p2,p3,p4⟩:=AV.lJ hown r5 r2 hva (fun s' hs'=>by grind) aR
    rw[q1] at p1;cases p1
    simp only[RC] at q4
    have hcs:cs.toList.take (tt.off p)++[Value.slice none 0 0]++cs.toList.drop (tt.off p+s.size)=cs.toList:=by
     grind [kT]
    rw[hcs] at p4
    have hw2:=g1.hw.write (w':=w) (k':=.var tt u) hb1 rfl (fun _ _=>rfl) ⟨r1,k3,g,cs,e',r3,r4,p4⟩
    refine⟨_,⟨g1.len,g1.tm,hw2,g1.df⟩,{x1 with own:=?_ }⟩
    intro g' hg'
    exact x1.own g' (Own.na hb1 hg')
   grind
  grind
 ·rename_i e2 bs2 tt xs i v hc
  have hbk:=cC σ.hp c _ hc
  split at h
  ·rename_i u ahQ aR
   split at h
   ·rename_i hk
    cases h
    simp only[aW] at hk
    obtain⟨⟨⟨⟨k1,k2⟩,k3⟩,k4⟩,k5⟩:=hk
    have hcb:c≠b:=fun e'=>by simp_all
    have hsz:0<t.size:=by simp_all
    obtain⟨g1,x1⟩:=hg.fresh (w':=w) (St.dQ k1) (g:=none) (sv:=.slice none 0 0) (t:=.arr 0 t) (k:=.row e bs t []) rfl (Tp.r rfl rfl) rfl (dD _) (fun _ _=>rfl) (fun i hi=>by cases hi)
     ⟨by simp[Env.at],by simp,by simp,hsz,none,0,by simp[Env.at],by grind,Or.inl ⟨⟨rfl,rfl⟩,by simp[Env.at],rfl⟩⟩
    have hb1:(σ.hp.set b (some (.row e bs t [])))[c]? =some (some (.bW e2 bs2 tt xs i v)):=by
     grind
    obtain⟨h1,h2,h3,h4,h5,r2,g,cap,cs,z1,z2,z3,z4,z5,z6,z7,r5,z9⟩:=g1.hw.cM c _ hb1
    have hva:=nw k4
    obtain⟨s,q1,q2,q3,q4⟩:=AV.fy r5 r2 hva ahQ
    have hs1:s.size=1:=AV.eo q2▸rfl
    have hown:RC (E.at b none (.slice none 0 0) (.arr 0 t)) w (.own b) [.slice none 0 0]:=⟨by simp[Env.at],none,0,0,by simp[Env.at]⟩
    obtain⟨s',p1,p2,p3,p4⟩:=AV.lJ hown r5 r2 hva (fun s' hs'=>by grind) aR
    rw[q1] at p1;cases p1
    simp only[RC] at q4
    have hcs:((cs.toList.drop (i*tt.size)).take tt.size).take (tt.off p)++[Value.slice none 0 0]++((cs.toList.drop (i*tt.size)).take tt.size).drop (tt.off p+s.size)=(cs.toList.drop (i*tt.size)).take tt.size:=by
     grind [kj,kT]
    rw[hcs] at p4
    have hw2:=g1.hw.write (w':=w) (k':=.bW e2 bs2 tt xs i u) hb1 rfl (fun _ _=>rfl) ⟨h1,h2,h3,h4,h5,k3,g,cap,cs,z1,z2,z3,z4,z5,z6,z7,p4,z9⟩
    refine⟨_,⟨g1.len,g1.tm,hw2,g1.df⟩,{x1 with own:=?_ }⟩
    intro g' hg'
    exact x1.own g' (Own.na hb1 hg')
   grind
  grind
 grind
def Env.tr(E:Env)(b d:Nat)(v:Value)(t:Ty):Env:=
 {E with P:=fun c=>if c=d then E.P b else E.P c,g:=fun c=>if c=d then E.g b else E.g c,sv:=fun c=>if c=d then v else E.sv c,bt:=fun c=>if c=d then t else E.bt c}
theorem Env.Ex{E:Env}{b d:Nat}{v:Value}{t:Ty}{ids:List Nat}(h:d∉ids):E.on (E.tr b d v t) ids:=fun c hc=>by
 grind [Env.tr]
def oh(c:Nat)(p:Path)(d:Nat)(σ:St):Option St:=
 match eS σ.hp c with
 |
  some (.var tt v)=>match v.get p,v.set p (.own d) with
  |
   some (.jV b 0 len),some u=>match eS σ.hp b with
   |some (.row e bs t xs)=>if σ.fD d&&u.cE tt&&kB tt p&& !Nat.beq c b then some {σ with hp:=((σ.hp.set b none).set d (some (.row e bs t (xs.take len)))).set c (some (.var tt u))} else none
   |_=>none
  |_,_=>none
 |_=>none
theorem Wk.oh{gl:Ctx}{c:Nat}{p:Path}{d:Nat}{σ σ':St}(h:Ax.oh c p d σ=some σ'):Wk gl σ σ':=by
 intro E a w hg
 unfold Ax.oh at h
 split at h
 case h_2=>cases h
 rename_i tt v hc
 have hbk:=cC σ.hp c _ hc
 split at h
 case h_2=>cases h
 rename_i b len u ahQ aR
 split at h
 case h_2=>cases h
 rename_i e bs t xs hb
 have hbr:=cC σ.hp b _ hb
 split at h
 case isFalse=>cases h
 rename_i hk
 cases h
 simp only[aW] at hk
 obtain⟨⟨⟨k1,k2⟩,k3⟩,k4⟩:=hk
 have hcb:c≠b:=fun e'=>by grind
 have hfr:=St.dQ k1
 have hids:=lM.1 hfr.1
 have hdb:d≠b:=fun e'=>hfr.2.1 _ (e'▸hbr)
 have hdc:d≠c:=fun e'=>hfr.2.1 _ (e'▸hbk)
 have hdv:d∉v.ids:=hids.2.2 c _ hbk
 have h16:16≤d:=hfr.2.2
 obtain⟨r1,r2,g,cs,e',r3,r4,r5⟩:=hg.hw.cM c _ hbk
 obtain⟨s1,s2,s3,s4,ra,cap,s5,s6,s7⟩:=hg.hw.cM b _ hbr
 have hva:=nw k3
 obtain⟨s,q1,q2,q3,q4⟩:=AV.fy r5 r2 hva ahQ
 have hs1:s.size=1:=AV.eo q2▸rfl
 obtain⟨a1,c1,n1,t1,z1,z2,z3,z4,a',z5,z6⟩:=q4
 rw[s5] at z2;cases z2
 have za:a'=ra:=by
  rcases z6 with z6|z6
  ·grind
  grind [Addr.gu]
 rw[za] at z5
 have hlen:(xs.take len).length=len:=by grind
 have kp:bL E w (E.tr b d (.slice ra len cap) (.arr (xs.take len).length t)) w:=⟨fun _ _=>rfl,fun _ h=>h⟩
 have hEh:∀i j,(i=d→j=b)→(i≠d→j=i)→∀x,(E.tr b d (.slice ra len cap) (.arr (xs.take len).length t)).has i x↔E.has j x:=by
  grind [Env.has,Env.tr]
 have src:∀(i:Nat)(k':aN),((((σ.hp.set b none).set d (some (.row e bs t (xs.take len)))).set c (some (.var tt u)))[i]? =some (some k'))→
  (i=c∧k'= .var tt u)∨(i=d∧k'= .row e bs t (xs.take len))∨(i≠c∧i≠d∧i≠b∧σ.hp[i]? =some (some k')):=by
  grind
 have gOf:∀(i:Nat)(k':aN),((((σ.hp.set b none).set d (some (.row e bs t (xs.take len)))).set c (some (.var tt u)))[i]? =some (some k'))→
  ∃j k0,σ.hp[j]? =some (some k0)∧(∀x,(E.tr b d (.slice ra len cap) (.arr (xs.take len).length t)).has i x↔E.has j x)∧(i=d→j=b)∧(i≠d→j=i):=by
  grind
 refine⟨E.tr b d (.slice ra len cap) (.arr (xs.take len).length t),⟨hg.len,?_,⟨?_,?_,?_,hg.hw.slt,hg.hw.gj kp,?_⟩,RD.mono kp (fun x hx=>Env.Ex (fun hd=>hids.2.1 x hx hd)) hg.df⟩,
  ⟨rfl,Tp.r rfl rfl,rfl,dD _,fun _ _ _=>rfl,fun _ h=>h,fun _ h=>Or.inl h,?_,fun i hi=>by grind [Env.tr]⟩⟩
 ·intro i x hx v hv
  exact RV.mono kp (Env.Ex (fun hd=>hids.1 i x hx hd)) (hg.tm i x hx v hv)
 ·intro i k' hi
  rcases src i k' hi with⟨rfl,rfl⟩|⟨rfl,rfl⟩|⟨e1,e2,e3,e4⟩
  ·have r5':=RC.mono kp (Env.Ex hdv) r5
   have hown:RC (E.tr b d (.slice ra len cap) (.arr (xs.take len).length t)) w (.own d) [.slice ra len cap]:=⟨by simp[Env.tr],ra,len,cap,by simp[Env.tr]⟩
   obtain⟨s',p1,p2,p3,p4⟩:=AV.lJ hown r5' r2 hva (fun s' hs'=>by grind) aR
   rw[q1] at p1;cases p1
   have z5':List.take s.size (List.drop (tt.off p) cs.toList)= [.slice ra len cap]:=by grind
   have hcs:cs.toList.take (tt.off p)++[Value.slice ra len cap]++cs.toList.drop (tt.off p+s.size)=cs.toList:=by
    grind [kj,kT]
   rw[hcs] at p4
   exact⟨by simpa[Env.tr,Ne.symm hdc] using r1,k2,g,cs,e',by simpa[Env.tr,Ne.symm hdc] using r3,r4,p4⟩
  ·refine⟨by simp[Env.tr],by rw[hlen];exact dp (gB _ (by omega)) s2,by grind,s4,ra,cap,by simp[Env.tr,hlen],s6,?_⟩
   rcases s7 with⟨x1,x2,x3⟩|⟨g',c',x1,x2,x3,x4,x5,x6⟩
   ·grind [Env.tr]
   ·refine Or.inr ⟨g',c',by simpa[Env.tr] using x1,x2,x3,x4,by grind,?_⟩
    have:=aV.take (fun vs x=>Rel.len) len x6
    rw[sf,qj (gB _ (by omega))] at this
    rw[hlen];trivial
  ·exact RB.mono kp (Env.Ex (by grind)) (fun _ _=>rfl) (fun _ g hp=>by simpa[Env.tr,e2] using hp) (hg.hw.cM i k' e4)
 ·intro i j k2 k3 g' hi hj g1 g2
  obtain⟨i',k4,e1,e2,e3,e4⟩:=gOf i k2 hi
  obtain⟨j',k5,f1,f2,f3,f4⟩:=gOf j k3 hj
  have hij:=hg.hw.dW i' j' k4 k5 g' e1 f1 ((e2 _).1 g1) ((f2 _).1 g2)
  grind
 ·intro i k' g' hi hgi hs
  obtain⟨i',k4,e1,e2,_,_⟩:=gOf i k' hi
  exact hg.hw.du i' k4 g' e1 ((e2 _).1 hgi) hs
 ·intro i k' g' hi hgi
  obtain⟨i',k4,e1,e2,_,_⟩:=gOf i k' hi
  rcases(e2 _).1 (Or.inr hgi) with q|q
  ·exact Own.below hg.hw ⟨i',k4,e1,Or.inl q⟩
  ·exact hg.hw.sh i' k4 g' e1 q
 ·rintro g' ⟨i,k',hi,hgi⟩
  obtain⟨i',k4,e1,e2,_,_⟩:=gOf i k' hi
  exact Or.inl ⟨i',k4,e1,(e2 _).1 hgi⟩
def py(c:Nat)(p:Path)(σ:St):Option St:=
 match eS σ.hp c with
 |
  some (.var tt v)=>match tt.sub p,v.get p with
  |
   some u,some _=>match v.set p (.dU u) with
   |some v'=>if v'.cE tt&&kB tt p then some {σ with hp:=σ.hp.set c (some (.var tt v'))} else none
   |none=>none
  |_,_=>none
 |_=>none
theorem Wk.py{gl:Ctx}{c:Nat}{p:Path}{σ σ':St}(h:Ax.py c p σ=some σ'):Wk gl σ σ':=by
 intro E a w hg
 unfold Ax.py at h
 split at h
 case h_2=>cases h
 rename_i tt v hc
 have hbk:=cC σ.hp c _ hc
 split at h
 case h_2=>cases h
 rename_i u x0 hu ahQ
 split at h
 case h_2=>cases h
 rename_i v' aR
 split at h
 case isFalse=>cases h
 rename_i hk
 cases h
 simp only[aW] at hk
 obtain⟨r1,r2,g,cs,e,r3,r4,r5⟩:=hg.hw.cM c _ hbk
 have hva:=nw hk.2
 obtain⟨s,q1,q2,q3,q4⟩:=AV.fy r5 r2 hva ahQ
 rw[hu] at q1;cases q1
 have hj:RC E w (.dU u) (List.take u.size (List.drop (tt.off p) cs.toList)):=by
  refine⟨by grind,fun x hx=>RC.one r5 x (List.mem_of_mem_drop (List.mem_of_mem_take hx))⟩
 obtain⟨s',p1,p2,p3,p4⟩:=AV.lJ hj r5 r2 hva (fun s' hs'=>by grind) aR
 rw[hu] at p1;cases p1
 have hcs:cs.toList.take (tt.off p)++List.take u.size (List.drop (tt.off p) cs.toList)++cs.toList.drop (tt.off p+u.size)=cs.toList:=by
  grind [kT]
 rw[hcs] at p4
 have hw:=hg.hw.write (w':=w) (k':=.var tt v') hbk rfl (fun _ _=>rfl) ⟨r1,hk.1,g,cs,e,r3,r4,p4⟩
 exact⟨E,hg.carry ⟨fun _ _=>rfl,fun _ h=>h⟩ (fun _ _=>⟨rfl,rfl,rfl⟩) hw,{Ext.refl (md:=gl.md) (Own σ.hp E) E w with own:=fun g hg'=>Or.inl (Own.set hbk hg')}⟩
inductive Gh where
 |AD (ts bs:List Nat)
 |H3 (s:Nat) (t:Ty)
 |Cb (b:Nat)
 |freeze (b:Nat) (t:Ty)
 |ren (b b':Nat)
 |yh (s b:Nat) (e:TypeId) (bs:Nat) (t:Ty)
 |uj (c:Nat) (p:Path) (b:Nat) (e:TypeId) (bs:Nat) (t:Ty)
 |kH (b:Nat)
 |H4 (b:Nat)
 |KM (b:Nat) (e:TypeId)
 |pz (b:Nat)
 |mz (b:Nat)
 |oh (c:Nat) (p:Path) (d:Nat)
 |fE (b:Nat)
 |yi (b:Nat)
 |py (c:Nat) (p:Path)
def Gh.go(σ:St):Gh→Option St
 | .AD ts bs=>some ⟨rY ts 0 σ.tm,xq bs 0 σ.hp,σ.df⟩
 |
  .H3 s t=>match σ.tm[s]? with
  |
   some x=>match x.bM t with
   |some y=>some {σ with tm:=σ.tm.set s (.val t y)}
   |none=>none
  |none=>none
 |
  .Cb b=>match σ.hp[b]? with
  |
   some (some (.var t v))=>match v.bM t with
   |some y=>some {σ with hp:=σ.hp.set b (some (.var t (.val t y)))}
   |none=>none
  |
   some (some (.bW e bs t xs i v))=>match v.bM t with
   |some y=>some {σ with hp:=σ.hp.set b (some (.bW e bs t xs i (.val t y)))}
   |none=>none
  |some (some (.mf k v rest (some _)))=>some {σ with hp:=σ.hp.set b (some (.mf k v rest none))}
  |_=>none
 | .freeze b t=>Ax.freeze b t σ
 | .ren b b'=>rename b b' σ
 | .yh s b e bs t=>Ax.yh s b e bs t σ
 | .uj c p b e bs t=>Ax.uj c p b e bs t σ
 | .kH b=>Ax.kH b σ
 | .H4 b=>Ax.H4 b σ
 | .KM b e=>Ax.KM b e σ
 | .pz b=>Ax.pz b σ
 | .mz b=>Ax.mz b σ
 | .oh c p d=>Ax.oh c p d σ
 | .fE b=>oV b σ
 | .yi b=>mP b σ
 | .py c p=>Ax.py c p σ
def SI:List Gh→St→Option St
 |[],σ=>some σ
 |
  g::l,σ=>match g.go σ with
  |some σ'=>SI l σ'
  |none=>none
theorem Gh.ok{gl:Ctx}{g:Gh}{σ σ':St}(h:g.go σ=some σ'):Wk gl σ σ':=by
 cases g with
 |AD ts bs=>cases h;exact Wk.AD gl σ ts bs
 |
  H3 s t=>
  grind [Gh.go,Wk.H3]
 |
  Cb b=>
  grind [Gh.go,Wk.Cb,Wk.Yn,Wk.mcl]
 |freeze b t=>exact Wk.freeze h
 |ren b b'=>exact Wk.rename h
 |yh s b e bs t=>exact Wk.yh h
 |uj c p b e bs t=>exact Wk.uj h
 |kH b=>exact Wk.kH h
 |H4 b=>exact Wk.H4 h
 |KM b e=>exact Wk.KM h
 |pz b=>exact Wk.pz h
 |mz b=>exact Wk.mz h
 |oh c p d=>exact Wk.oh h
 |fE b=>exact Wk.oV h
 |yi b=>exact Wk.mP h
 |py c p=>exact Wk.py h
theorem Cc{gl:Ctx}:∀{l:List Gh}{σ σ':St},SI l σ=some σ'→Wk gl σ σ'
 |[],σ,σ',h=>by cases h;exact Wk.refl gl σ
 |
  g::l,σ,σ',h=>by
  simp only[SI] at h
  split at h
  ·rename_i σ1 h1;exact(Gh.ok h1).trans (Cc h)
  ·cases h
section
variable{P:Program} {gl:Ctx} {σ:St} {Q:fY→St→Prop}
theorem cZ.wk{c:Code}{σ':St}(h:Wk gl σ σ')(hr:cZ P gl c σ' Q):cZ P gl c σ Q:=by
 intro E a w hg
 obtain⟨E1,g1,x1⟩:=h E a w hg
 refine wpIn_mono (hr E1 a w g1) ?_
 rintro ex a2 w2 ⟨x,σ2,E2,h1,h2,h3,h4⟩
 exact⟨x,σ2,E2,h1,h2,h3,x1.trans h4⟩
theorem cZ.post{c:Code}{Q':fY→St→Prop}(hr:cZ P gl c σ Q')(hn:∀e σ',e≠.normal→Q' e σ'→Q e σ')(h:∀σ',Q' .normal σ'→∃σ2,Wk gl σ' σ2∧Q .normal σ2):cZ P gl c σ Q:=by
 intro E a w hg
 refine wpIn_mono (hr E a w hg) ?_
 rintro ex a2 w2 ⟨x,σ2,E2,h1,h2,h3,h4⟩
 by_cases e:x= .normal
 ·subst e
  obtain⟨σ3,h5,h6⟩:=h σ2 h2
  obtain⟨E3,g3,x3⟩:=h5 E2 a2 w2 h3
  exact⟨.normal,σ3,E3,by cases ex<;>first|exact h1|exact h1.elim,h6,g3,h4.trans x3⟩
 ·exact⟨x,σ2,E2,h1,hn x σ2 e h2,h3,h4⟩
theorem cZ.gh{c:Code}(l:List Gh){σ':St}(h:SI l σ=some σ')(hr:cZ P gl c σ' Q):cZ P gl c σ Q:=cZ.wk (Cc h) hr
end
structure Cl(gl:Ctx)(Q:fY→St→Prop):Prop where
 n:∀σ σ',Wk gl σ σ'→Q .normal σ'→Q .normal σ
 e:∀i σ σ',Wk gl σ σ'→Q (.exit i) σ'→Q (.exit i) σ
theorem bN{α:Type}{p:Prop}[Decidable p]{k:Option α}{r:α}(h:(if p then k else none)=some r):p∧k=some r:=by
 grind
theorem bind_some{α β:Type}{x:Option α}{f:α→Option β}{r:β}(h:x.bind f=some r):∃y,x=some y∧f y=some r:=by
 cases x<;>grind
inductive cV(β ρ:Type) where
 |brk (b:β)
 |ret (r:ρ)
def mA{α:Type}:List (Nat×α)→List α→List α
 |[],l=>l
 |(i,x)::m,l=>mA m (l.set i x)
def gn:Nat:=18446744073709551616
abbrev bB(n:Int):Int:=IntKind.i64.wrap n
def nth(t:Ty)(xs:List t.den)(i:Int):t.den:=xs.getD i.toNat t.aC
end Go.Ax
namespace Go.Ax
@[reducible] def prod:List Type→Type
 |[]=>Unit
 |t::l=>t×prod l
@[reducible] def gJ:List Type→Type
 |[]=>Unit
 |[t]=>t
 |t::u::l=>t×gJ (u::l)
def Ph:(l:List Type)→prod l→gJ l
 |[],_=>()
 |[_],d=>d.1
 |_::u::l,d=>(d.1,Ph (u::l) d.2)
def qF:(l:List Type)→gJ l→prod l
 |[],_=>()
 |[_],d=>(d,())
 |_::u::l,d=>(d.1,qF (u::l) d.2)
theorem no{α:Type}{e:α}{p:Prop}(h:(none:Option α)=some e):p:=by cases h
theorem pA:∀(l:List Type)(d:prod l),qF l (Ph l d)=d
 |[],_=>rfl
 |[_],_=>rfl
 |_::u::l,d=>by show(d.1,qF (u::l) (Ph (u::l) d.2))=d;rw[pA (u::l) d.2]
inductive PX where
 |cF (n:Nat)
 |idx
inductive Sh where
 |val (t:Ty)
 |aF
 |own (b:Nat)
 |jV (b:Nat)
 |jy (b:Nat) (p:List PX)
 |ptr (b:Nat) (p:List PX)
 |cI (t:Ty)
 |mp (b:Nat)
 |gK
 |ep
 |fN
 |hJ
 |func (f:FuncId) (fs cs:Sh)
 |B0
 |iface (t:TypeId) (v:Sh)
 |cons (a b:Sh)
 |nil
 |Vo
 |dU (t:Ty)
 |dg (f:FuncId) (t:Ty)
inductive gr where
 |var (t:Ty) (s:Sh)
 |row (e:TypeId) (bs:Nat) (t:Ty)
 |map (k v:Ty)
 |lp
 |wu
 |tv (t:Ty) (s:Sh)
 |bW (e:TypeId) (bs:Nat) (t:Ty) (s:Sh)
 |da (e:TypeId) (bs:Nat) (t:Ty) (e2:TypeId)
 |pmap (k t:Ty) (e2:TypeId)
 |mf (k v:Ty)
 |ia (k:Ty) (l:List (k.den×FuncId))
def pH:List PX→List Type→List Type
 |[],l=>l
 | .cF _::p,l=>pH p l
 | .idx::p,l=>Nat::pH p l
def pV:(p:List PX)→{l:List Type}→prod (pH p l)→Path
 |[],_,_=>[]
 | .cF n::p,_,d=>.cF n::pV p d
 | .idx::p,_,d=>.idx d.1::pV p d.2
def pR:(p:List PX)→{l:List Type}→prod (pH p l)→prod l
 |[],_,d=>d
 | .cF _::p,_,d=>pR p d
 | .idx::p,_,d=>pR p d.2
def pG:(p:List PX)→{l:List Type}→Path→prod l→Option (prod (pH p l))
 |[],_,[],d=>some d
 | .cF n::p,_,.cF m::q,d=>if Nat.beq n m then pG p q d else none
 |
  .idx::p,_,.idx i::q,d=>match pG p q d with
  |some e=>some (i,e)
  |none=>none
 |_,_,_,_=>none
theorem Ey:∀{p:List PX}{l:List Type}{q:Path}{d:prod l}{e:prod (pH p l)},pG p q d=some e→pV p e=q∧pR p e=d
 |
  [],l,q,d,e,h=>by
  cases q with
  |nil=>cases(ja h:d=e);trivial
  |cons s q=>trivial
 |
  .cF n::p,l,q,d,e,h=>by
  cases q with
  |nil=>trivial
  |
   cons s q=>
   cases s with
   |
    cF m=>
    obtain⟨hb,h0⟩:=bN h
    have hb:=bP hb
    subst hb
    obtain⟨h1,h2⟩:=Ey (p:=p) h0
    exact⟨by simp only[pV];rw[h1],h2⟩
   |idx i=>trivial
 |
  .idx::p,l,q,d,e,h=>by
  cases q with
  |nil=>simp[pG] at h
  |
   cons s q=>
   cases s with
   |cF m=>simp[pG] at h
   |
    idx i=>
    simp only[pG] at h
    split at h
    ·rename_i e' he
     cases h
     obtain⟨h1,h2⟩:=Ey (p:=p) he
     exact⟨by simp only[pV];rw[h1],h2⟩
    ·cases h
def Sh.H:Sh→List Type→List Type
 | .val t,l=>t.den::l
 | .dg _ t,l=>t.den::l
 | .jV _,l=>Nat::Nat::l
 | .jy _ p,l=>pH p (Nat::Nat::l)
 | .ptr _ p,l=>pH p l
 | .cI t,l=>t.den::l
 | .B0,l=>Nat::l
 | .func _ fs cs,l=>fs.H (cs.H l)
 | .iface _ v,l=>v.H l
 | .cons a b,l=>a.H (b.H l)
 |_,l=>l
def Sh.R:(s:Sh)→{l:List Type}→prod (s.H l)→prod l
 | .val _,_,d=>d.2
 | .dg _ _,_,d=>d.2
 | .jV _,_,d=>d.2.2
 | .jy _ p,_,d=>(pR p d).2.2
 | .ptr _ p,_,d=>pR p d
 | .cI _,_,d=>d.2
 | .B0,_,d=>d.2
 | .func _ fs cs,_,d=>cs.R (fs.R d)
 | .iface _ v,_,d=>v.R d
 | .cons a b,_,d=>b.R (a.R d)
 | .aF,_,d| .own _,_,d| .mp _,_,d| .gK,_,d| .ep,_,d| .fN,_,d| .hJ,_,d| .nil,_,d| .dU _,_,d| .Vo,_,d=>d
def Sh.V(y:YC):(s:Sh)→{l:List Type}→prod (s.H l)→AV
 | .val t,_,d=>.val t d.1
 | .dg f t,_,d=>.dg f t d.1
 | .jV b,_,d=>.jV b d.1 d.2.1
 | .jy b p,_,d=>.jy b (pV p d) (pR p d).1 (pR p d).2.1
 | .ptr b p,_,d=>.ptr b (pV p d)
 | .cI t,_,d=>.cI t d.1
 | .func f fs cs,_,d=>.func (.func f) (fs.V y d) (cs.V y (fs.R d))
 | .iface t v,_,d=>.iface t (v.V y d)
 | .cons a b,_,d=>.cons (a.V y d) (b.V y (a.R d))
 | .aF,_,_=>.aF
 | .own b,_,_=>.own b
 | .mp b,_,_=>.mp b
 | .gK,_,_=>.gK
 | .ep,_,_=>.ep
 | .fN,_,_=>.fN
 | .hJ,_,_=>.hJ
 | .B0,_,d=>.func (.yield d.1) .nil .nil
 | .nil,_,_=>.nil
 | .Vo,_,_=>.fx
 | .dU t,_,_=>.dU t
def pB{t u:Ty}(h:Ty.same u t=true)(x:u.den):t.den:=Ty.aB h▸x
theorem wW{t u:Ty}(h:Ty.same u t=true)(x:u.den):AV.val t (pB h x)= .val u x:=by
 have e:=Ty.aB h
 subst e;rfl
theorem Cd{f:FuncId}{t u:Ty}(h:Ty.same u t=true)(x:u.den):AV.dg f t (pB h x)= .dg f u x:=by
 have e:=Ty.aB h
 subst e;rfl
theorem Ce{t u:Ty}(h:Ty.same u t=true)(x:u.den):AV.cI t (pB h x)= .cI u x:=by
 have e:=Ty.aB h
 subst e;rfl
def Sh.G:(s:Sh)→{l:List Type}→AV→prod l→Option (prod (s.H l))
 | .val t,_,.val u x,d=>if h:Ty.same u t=true then some (pB h x,d) else none
 | .dg f t,_,.dg g u x,d=>if Nat.beq f g then(if h:Ty.same u t=true then some (pB h x,d) else none) else none
 | .cI t,_,.cI u x,d=>if h:Ty.same u t=true then some (pB h x,d) else none
 | .jV b,_,.jV c i j,d=>if Nat.beq b c then some (i,j,d) else none
 | .jy b p,l,.jy c q i j,d=>if Nat.beq b c then pG p (l:=Nat::Nat::l) q (i,j,d) else none
 | .ptr b p,_,.ptr c q,d=>if Nat.beq b c then pG p q d else none
 |
  .func f fs cs,_,.func (.func g) xs ys,d=>if Nat.beq f g then(match cs.G ys d with
  |some e=>fs.G xs e
  |none=>none) else none
 | .B0,_,.func (.yield g) .nil .nil,d=>some (g,d)
 | .iface t v,_,.iface u x,d=>if Nat.beq t u then v.G x d else none
 |
  .cons a b,_,.cons x y,d=>match b.G y d with
  |some e=>a.G x e
  |none=>none
 | .aF,_,.aF,d| .gK,_,.gK,d| .ep,_,.ep,d| .fN,_,.fN,d| .hJ,_,.hJ,d| .nil,_,.nil,d| .Vo,_,.fx,d=>some d
 | .own b,_,.own c,d=>if Nat.beq b c then some d else none
 | .mp b,_,.mp c,d=>if Nat.beq b c then some d else none
 | .dU t,_,.dU u,d=>if Ty.same t u then some d else none
 |_,_,_,_=>none
theorem Sh.wv(y:YC):∀{s:Sh}{l:List Type}{x:AV}{d:prod l}{e:prod (s.H l)},s.G x d=some e→s.V y e=x∧s.R e=d:=by
 intro s
 induction s with
 |
  val t=>
  intro l x d e h
  cases x<;>simp only[Sh.G] at h<;>try cases h
  split at h
  ·rename_i hs;cases h;exact⟨wW hs _,rfl⟩
  grind
 |
  cI t=>
  intro l x d e h
  cases x<;>simp only[Sh.G] at h<;>try cases h
  split at h
  ·rename_i hs;cases h;exact⟨Ce hs _,rfl⟩
  grind
 |
  dg f t=>
  intro l x d e h
  cases x<;>simp only[Sh.G] at h<;>try cases h
  split at h
  ·rename_i hf
   have:=bP hf;subst this
   split at h
   ·rename_i hs;cases h;exact⟨Cd hs _,rfl⟩
   grind
  grind
 |
  jV b=>
  intro l x d e h
  cases x<;>simp only[Sh.G] at h<;>try cases h
  split at h
  ·rename_i hs;cases h;have:=bP hs;subst this;trivial
  grind
 |
  jy b p=>
  intro l x d e h
  cases x<;>simp only[Sh.G] at h<;>try cases h
  obtain⟨hs,h0⟩:=bN h
  grind [bP,Ey,Sh.V,Sh.R]
 |
  ptr b p=>
  intro l x d e h
  cases x<;>simp only[Sh.G] at h<;>try cases h
  obtain⟨hs,h0⟩:=bN h
  have:=bP hs;subst this
  obtain⟨h1,h2⟩:=Ey h0
  exact⟨by simp only[Sh.V];rw[h1],h2⟩
 |
  func f fs cs ih1 ih2=>
  intro l x d e h
  cases x with
  |
   func g xs ys=>
   cases g with
   |
    func g=>
    simp only[Sh.G] at h
    split at h
    ·rename_i hs
     have:=bP hs;subst this
     split at h
     ·rename_i e' he
      obtain⟨a1,a2⟩:=ih2 he
      obtain⟨b1,b2⟩:=ih1 h
      grind [Sh.V,Sh.R]
     grind
    grind
   |_=>trivial
  |_=>trivial
 |
  iface t v ih=>
  intro l x d e h
  cases x<;>simp only[Sh.G] at h<;>try cases h
  obtain⟨hs,h0⟩:=bN h
  have:=bP hs;subst this
  obtain⟨b1,b2⟩:=ih h0
  exact⟨by simp only[Sh.V];rw[b1],b2⟩
 |
  cons a b ih1 ih2=>
  intro l x d e h
  cases x<;>simp only[Sh.G] at h<;>try cases h
  split at h
  ·rename_i e' he
   obtain⟨a1,a2⟩:=ih2 he
   obtain⟨b1,b2⟩:=ih1 h
   grind [Sh.V,Sh.R]
  grind
 |
  own b=>
  intro l x d e h
  cases x<;>simp only[Sh.G] at h<;>try cases h
  split at h
  ·rename_i hs;cases h;have:=bP hs;subst this;trivial
  grind
 |
  mp b=>
  intro l x d e h
  cases x<;>simp only[Sh.G] at h<;>try cases h
  split at h
  ·rename_i hs;cases h;have:=bP hs;subst this;trivial
  grind
 |
  dU t=>
  intro l x d e h
  cases x<;>simp only[Sh.G] at h<;>try cases h
  split at h
  ·rename_i hs;cases h;have:=Ty.aB hs;subst this;trivial
  grind
 |
  B0=>
  intro l x d e h
  cases x with
  |
   func g xs ys=>
   cases g with
   |yield g=>cases xs<;>cases ys<;>simp only[Sh.G] at h<;>cases h;trivial
   |_=>trivial
  |_=>trivial
 |_=>intro l x d e h;cases x<;>simp only[Sh.G] at h<;>cases h<;>exact⟨rfl,rfl⟩
def gr.H:gr→List Type→List Type
 | .var _ s,l=>s.H l
 | .row _ _ t,l=>List t.den::l
 | .map k v,l=>List (k.den×v.den)::l
 | .lp,l=>YC::Nat::l
 | .wu,l=>l
 | .tv _ s,l=>Nat::s.H l
 | .bW _ _ t s,l=>List t.den::Nat::s.H l
 | .da _ _ t _,l=>List t.den::l
 | .pmap k t _,l=>List (k.den×t.den)::l
 | .mf k v,l=>List (k.den×v.den)::l
 | .ia _ _,l=>l
def gr.R:(s:gr)→{l:List Type}→prod (s.H l)→prod l
 | .var _ s,_,d=>s.R d
 | .row _ _ _,_,d=>d.2
 | .map _ _,_,d=>d.2
 | .lp,_,d=>d.2.2
 | .wu,_,d=>d
 | .tv _ s,_,d=>s.R d.2
 | .bW _ _ _ s,_,d=>s.R d.2.2
 | .da _ _ _ _,_,d=>d.2
 | .pmap _ _ _,_,d=>d.2
 | .mf _ _,_,d=>d.2
 | .ia _ _,_,d=>d
def S2{k:Ty}:List (k.den×FuncId)→List (k.den×AV)
 |[]=>[]
 |x::l=>(x.1,.func (.func x.2) .nil .nil)::S2 l
def K3{k:Ty}:List (k.den×AV)→List (k.den×FuncId)→Bool
 |[],[]=>true
 |
  x::l,z::m=>(match x.2 with
  | .func (.func f) .nil .nil=>Nat.beq f z.2
  |_=>false)&&aY k x.1 z.1&&K3 l m
 |_,_=>false
theorem Ez{k:Ty}(hk:k.keyed=true):∀{l:List (k.den×AV)}{m:List (k.den×FuncId)},K3 l m=true→S2 m=l
 |[],[],_=>rfl
 |[],_::_,h=>by cases h
 |_::_,[],h=>by cases h
 |
  x::l,z::m,h=>by
  simp only[K3,aW] at h
  obtain⟨⟨h1,h2⟩,h3⟩:=h
  have e:=(cu hk _ _).1 h2
  obtain⟨x1,x2⟩:=x
  simp only at e h1
  split at h1
  ·have:=bP h1
   subst this;subst e
   simp only[S2]
   rw[Ez hk h3]
  ·cases h1
def gr.V(y:YC):(s:gr)→{l:List Type}→prod (s.H l)→aN
 | .var t s,_,d=>.var t (s.V y d)
 | .row e bs t,_,d=>.row e bs t d.1
 | .map k v,_,d=>.map k v d.1
 | .lp,_,d=>.lp d.1 d.2.1
 | .wu,_,_=>.wu
 | .tv t s,_,d=>.tv d.1 t (s.V y d.2)
 | .bW e bs t s,_,d=>.bW e bs t d.1 d.2.1 (s.V y d.2.2)
 | .da e bs t e2,_,d=>.da e bs t d.1 e2 none
 | .pmap k t e2,_,d=>.pmap k t d.1 e2 none
 | .mf k v,_,d=>.mf k v d.1 none
 | .ia k l,_,_=>.ia k (S2 l)
def H5{t u:Ty}(h:Ty.same u t=true)(x:List u.den):List t.den:=Ty.aB h▸x
def H6{t u t' u':Ty}(h:Ty.same u t=true)(h':Ty.same u' t'=true)(x:List (u.den×u'.den)):List (t.den×t'.den):=Ty.aB h▸Ty.aB h'▸x
def S3{t u:Ty}(h:Ty.same u t=true)(x:List (u.den×AV)):List (t.den×AV):=Ty.aB h▸x
def gr.G:(s:gr)→{l:List Type}→aN→prod l→Option (prod (s.H l))
 | .var t s,_,.var u x,d=>if Ty.same u t then s.G x d else none
 | .row e bs t,_,.row e' bs' u xs,d=>if Nat.beq e e'&&Nat.beq bs bs' then(if h:Ty.same u t=true then some (H5 h xs,d) else none) else none
 | .map k v,_,.map k' v' es,d=>if h:Ty.same k' k=true then(if h':Ty.same v' v=true then some (H6 h h' es,d) else none) else none
 | .wu,_,.wu,d=>some d
 | .lp,_,.lp y j,d=>some (y,j,d)
 |
  .tv t s,_,.tv g u x,d=>if Ty.same u t then(match s.G x d with
  |some r=>some (g,r)
  |none=>none) else none
 |
  .bW e bs t s,_,.bW e' bs' u xs i x,d=>if Nat.beq e e'&&Nat.beq bs bs' then(if h:Ty.same u t=true then(match s.G x d with
  |some r=>some (H5 h xs,i,r)
  |none=>none) else none) else none
 | .da e bs t e2,_,.da e' bs' u xs e2' none,d=>if Nat.beq e e'&&Nat.beq bs bs'&&Nat.beq e2 e2' then(if h:Ty.same u t=true then some (H5 h xs,d) else none) else none
 | .pmap k t e2,_,.pmap k' t' es e2' none,d=>if Nat.beq e2 e2' then(if h:Ty.same k' k=true then(if h':Ty.same t' t=true then some (H6 h h' es,d) else none) else none) else none
 | .mf k v,_,.mf k' v' es none,d=>if h:Ty.same k' k=true then(if h':Ty.same v' v=true then some (H6 h h' es,d) else none) else none
 | .ia k l,_,.ia k' l',d=>if h:Ty.same k' k=true then(if k.keyed&&K3 (S3 h l') l then some d else none) else none
 |_,_,_,_=>none
theorem gr.wv(y:YC){s:gr}{l:List Type}{x:aN}{d:prod l}{e:prod (s.H l)}(h:s.G x d=some e):s.V y e=x∧s.R e=d:=by
 cases s with
 |
  var t s=>
  cases x<;>simp only[gr.G] at h<;>try cases h
  obtain⟨hs,h0⟩:=bN h
  have:=Ty.aB hs;subst this
  obtain⟨h1,h2⟩:=Sh.wv y h0
  exact⟨by simp only[gr.V];rw[h1],h2⟩
 |
  row e bs t=>
  cases x<;>simp only[gr.G] at h<;>try cases h
  split at h
  ·rename_i hs
   simp only[aW] at hs
   have e1:=bP hs.1;subst e1
   have e2:=bP hs.2;subst e2
   split at h
   ·rename_i ht
    cases h
    have e3:=Ty.aB ht;subst e3
    trivial
   grind
  grind
 |
  map k v=>
  cases x<;>simp only[gr.G] at h<;>try cases h
  split at h
  ·rename_i hs
   split at h
   ·rename_i ht
    cases h
    have e1:=Ty.aB hs;subst e1
    have e3:=Ty.aB ht;subst e3
    trivial
   grind
  grind
 |wu=>cases x<;>simp only[gr.G] at h<;>cases h;trivial
 |lp=>cases x<;>simp only[gr.G] at h<;>cases h;trivial
 |
  tv t s=>
  cases x<;>simp only[gr.G] at h<;>try cases h
  obtain⟨hs,h0⟩:=bN h
  have:=Ty.aB hs;subst this
  split at h0
  ·rename_i r hr
   cases h0
   obtain⟨h1,h2⟩:=Sh.wv y hr
   exact⟨by simp only[gr.V];rw[h1],h2⟩
  grind
 |
  bW e0 bs t s=>
  cases x with
  |
   bW e' bs' u xs i v=>
   simp only[gr.G] at h
   obtain⟨hs,h0⟩:=bN h
   clear h
   simp only[aW] at hs
   have e1:=bP hs.1;subst e1
   have e2:=bP hs.2;subst e2
   by_cases ht:Ty.same u t=true
   ·rw[dif_pos ht] at h0
    cases hr:s.G v d with
    |none=>grind
    |
     some r=>
     rw[hr] at h0
     cases h0
     have e3:=Ty.aB ht;subst e3
     obtain⟨g1,g2⟩:=Sh.wv y hr
     exact⟨by simp only[gr.V];rw[g1];rfl,g2⟩
   grind
  |_=>trivial
 |
  da e bs t e2=>
  cases x with
  |
   da e' bs' u xs e2' f=>
   cases f with
   |some f=>trivial
   |
    none=>
    simp only[gr.G] at h
    obtain⟨hs,h0⟩:=bN h
    clear h
    simp only[aW] at hs
    have e1:=bP hs.1.1;subst e1
    have e2:=bP hs.1.2;subst e2
    have e3:=bP hs.2;subst e3
    by_cases ht:Ty.same u t=true
    ·rw[dif_pos ht] at h0
     cases h0
     have e3:=Ty.aB ht;subst e3
     trivial
    grind
  |_=>trivial
 |
  pmap k t e2=>
  cases x with
  |
   pmap k' t' es e2' f=>
   cases f with
   |some f=>trivial
   |
    none=>
    simp only[gr.G] at h
    obtain⟨hs,h0⟩:=bN h
    clear h
    have e3:=bP hs;subst e3
    by_cases ht:Ty.same k' k=true
    ·rw[dif_pos ht] at h0
     by_cases ht':Ty.same t' t=true
     ·rw[dif_pos ht'] at h0
      cases h0
      have e3:=Ty.aB ht;subst e3
      have e4:=Ty.aB ht';subst e4
      trivial
     grind
    grind
  |_=>trivial
 |
  mf k v=>
  cases x with
  |
   mf k' v' es c=>
   cases c with
   |some c=>trivial
   |
    none=>
    simp only[gr.G] at h
    by_cases ht:Ty.same k' k=true
    ·rw[dif_pos ht] at h
     by_cases ht':Ty.same v' v=true
     ·rw[dif_pos ht'] at h
      cases h
      have e3:=Ty.aB ht;subst e3
      have e4:=Ty.aB ht';subst e4
      trivial
     grind
    grind
  |_=>trivial
 |
  ia k l=>
  cases x with
  |
   ia k' l'=>
   simp only[gr.G] at h
   by_cases ht:Ty.same k' k=true
   ·rw[dif_pos ht] at h
    split at h
    ·rename_i hc
     cases h
     simp only[aW] at hc
     have e3:=Ty.aB ht;subst e3
     refine⟨?_,rfl⟩
     show aN.ia _ (S2 l)=_
     rw[Ez hc.1 hc.2]
     rfl
    grind
   grind
  |_=>trivial
def SK:List (Nat×Sh)→List Type→List Type
 |[],l=>l
 |(_,s)::m,l=>s.H (SK m l)
def U7(y:YC):(m:List (Nat×Sh))→{l:List Type}→prod (SK m l)→List (Nat×AV)
 |[],_,_=>[]
 |(i,s)::m,_,d=>(i,s.V y d)::U7 y m (s.R d)
def S4:(m:List (Nat×Sh))→{l:List Type}→prod (SK m l)→prod l
 |[],_,d=>d
 |(_,s)::m,_,d=>S4 m (s.R d)
def U8:(m:List (Nat×Sh))→{l:List Type}→List AV→prod l→Option (prod (SK m l))
 |[],_,_,d=>some d
 |
  (i,s)::m,_,tm,d=>match tm[i]? with
  |
   some x=>match U8 m tm d with
   |some e=>s.G x e
   |none=>none
  |none=>none
theorem H7(y:YC):∀{m:List (Nat×Sh)}{l:List Type}{tm:List AV}{d:prod l}{e:prod (SK m l)},U8 m tm d=some e→(∀i x,(i,x)∈U7 y m e→tm[i]? =some x)∧S4 m e=d
 |[],l,tm,d,e,h=>by cases h;exact⟨(fun i x hx=>by cases hx),rfl⟩
 |
  (i,s)::m,l,tm,d,e,h=>by
  simp only[U8] at h
  split at h
  ·rename_i x hx
   split at h
   ·rename_i e' he
    obtain⟨h1,h2⟩:=H7 y he
    obtain⟨g1,g2⟩:=Sh.wv y h
    refine⟨?_,by simp only[S4];grind⟩
    intro j z hz
    simp only[U7,fa,il] at hz
    grind
   grind
  grind
def iI:List (Nat×gr)→List Type→List Type
 |[],l=>l
 |(_,s)::m,l=>s.H (iI m l)
def oi(y:YC):(m:List (Nat×gr))→{l:List Type}→prod (iI m l)→List (Nat×aN)
 |[],_,_=>[]
 |(i,s)::m,_,d=>(i,s.V y d)::oi y m (s.R d)
def SL:(m:List (Nat×gr))→{l:List Type}→prod (iI m l)→prod l
 |[],_,d=>d
 |(_,s)::m,_,d=>SL m (s.R d)
def S5:(m:List (Nat×gr))→{l:List Type}→List (Option aN)→prod l→Option (prod (iI m l))
 |[],_,_,d=>some d
 |
  (i,s)::m,_,hp,d=>match hp[i]? with
  |
   some (some x)=>match S5 m hp d with
   |some e=>s.G x e
   |none=>none
  |_=>none
theorem Cf(y:YC):∀{m:List (Nat×gr)}{l:List Type}{hp:List (Option aN)}{d:prod l}{e:prod (iI m l)},S5 m hp d=some e→(∀i x,(i,x)∈oi y m e→hp[i]? =some (some x))∧SL m e=d
 |[],l,hp,d,e,h=>by cases h;exact⟨(fun i x hx=>by cases hx),rfl⟩
 |
  (i,s)::m,l,hp,d,e,h=>by
  simp only[S5] at h
  split at h
  ·rename_i x hx
   split at h
   ·rename_i e' he
    obtain⟨h1,h2⟩:=Cf y he
    obtain⟨g1,g2⟩:=gr.wv y h
    refine⟨?_,by simp only[SL];grind⟩
    intro j z hz
    simp only[oi,fa,il] at hz
    grind
   grind
  grind
def sM:List Sh→List Type→List Type
 |[],l=>l
 |s::m,l=>s.H (sM m l)
def yk(y:YC):(m:List Sh)→{l:List Type}→prod (sM m l)→List AV
 |[],_,_=>[]
 |s::m,_,d=>s.V y d::yk y m (s.R d)
def yl:(m:List Sh)→{l:List Type}→prod (sM m l)→prod l
 |[],_,d=>d
 |s::m,_,d=>yl m (s.R d)
def PY:(m:List Sh)→{l:List Type}→List AV→prod l→Option (prod (sM m l))
 |[],_,[],d=>some d
 |
  s::m,_,x::xs,d=>match PY m xs d with
  |some e=>s.G x e
  |none=>none
 |_,_,_,_=>none
theorem ym(y:YC):∀{m:List Sh}{l:List Type}{xs:List AV}{d:prod l}{e:prod (sM m l)},PY m xs d=some e→yk y m e=xs∧yl m e=d
 |
  [],l,xs,d,e,h=>by
  cases xs with
  |nil=>cases h;trivial
  |cons _ _=>trivial
 |
  s::m,l,xs,d,e,h=>by
  cases xs with
  |nil=>simp[PY] at h
  |
   cons x xs=>
   simp only[PY] at h
   split at h
   ·rename_i e' he
    obtain⟨h1,h2⟩:=ym y he
    obtain⟨g1,g2⟩:=Sh.wv y h
    exact⟨by simp only[yk];rw[g1,g2,h1],by simp only[yl];rw[g2,h2]⟩
   ·cases h
structure SS where
 nt:Nat
 nh:Nat
 tm:List (Nat×Sh)
 hp:List (Nat×gr)
 df:List Sh
def SS.H(S:SS):List Type:=SK S.tm (iI S.hp (sM S.df []))
@[reducible] def SS.T (S:SS):Type:=gJ S.H
def dj:List (Nat×aN)→List (Nat×Option aN)
 |[]=>[]
 |(i,k)::l=>(i,some k)::dj l
theorem rO{i:Nat}{k:Option aN}:∀{l:List (Nat×aN)},(i,k)∈dj l→∃b,k=some b∧(i,b)∈l
 |[],h=>by cases h
 |
  (j,b)::l,h=>by
  simp only[dj,fa,il] at h
  rcases h with⟨rfl,rfl⟩|h
  ·grind
  ·obtain⟨b',e,hm⟩:=rO h
   exact⟨b',e,eH _ hm⟩
def SS.mn(S:SS)(y:YC)(d:prod S.H):St:=
 ⟨mA (U7 y S.tm d) (List.replicate S.nt .bot),mA (dj (oi y S.hp (Ax.S4 S.tm d))) (List.replicate S.nh none),yk y S.df (SL S.hp (Ax.S4 S.tm d))⟩
def SS.st(S:SS)(y:YC)(t:S.T):St:=S.mn y (qF S.H t)
def SS.get(S:SS)(σ:St):Option S.T:=
 if Nat.beq σ.tm.length S.nt&&Nat.beq σ.hp.length S.nh then(match PY S.df (l:=[]) σ.df () with
  |
   some d1=>match S5 S.hp σ.hp d1 with
   |
    some d2=>match U8 S.tm σ.tm d2 with
    |some d3=>some (Ph S.H d3)
    |none=>none
   |none=>none
  |none=>none) else none
theorem oI{α:Type}:∀{l:List (Nat×α)}{m:List α},(mA l m).length=m.length
 |[],_=>rfl
 |(i,x)::l,m=>by rw[mA,oI,bU]
theorem ln{α:Type}{i:Nat}{x:α}:∀{l:List (Nat×α)}{m:List α},(mA l m)[i]? =some x→(i,x)∈l∨m[i]? =some x
 |[],_,h=>Or.inr h
 |
  (j,z)::l,m,h=>by
  rw[mA] at h
  rcases ln h with h|h
  ·exact Or.inl (eH _ h)
  ·rw[dA] at h
   split at h
   ·rename_i e
    split at h
    ·cases h;subst e;exact Or.inl (dK ..)
    ·cases h
   ·exact Or.inr h
theorem Wk.sub{gl:Ctx}{σ σ':St}(hl:σ'.tm.length=σ.tm.length)(ht:∀(i:Nat)(x:AV),σ'.tm[i]? =some x→x= .bot∨σ.tm[i]? =some x)
 (hh:∀(b:Nat)(k:aN),σ'.hp[b]? =some (some k)→σ.hp[b]? =some (some k)) (hd:σ'.df=σ.df):Wk gl σ σ':=by
 intro E a w h
 refine⟨E,⟨by rw[hl];exact h.len,?_,h.hw.less hh,by rw[hd];exact h.df⟩,{Ext.refl (Own σ.hp E) E w with own:=?_ }⟩
 ·intro i x hx v hv
  rcases ht i x hx with e|e
  ·subst e;trivial
  ·exact h.tm i x e v hv
 ·rintro g ⟨b,k,hb,hg⟩
  exact Or.inl ⟨b,k,hh b k hb,hg⟩
theorem SS.fy{gl:Ctx}{S:SS}{y:YC}{σ:St}{t:S.T}(h:S.get σ=some t):Wk gl σ (S.st y t):=by
 unfold SS.get at h
 split at h
 ·rename_i hc
  simp only[aW] at hc
  have l1:=bP hc.1
  have l2:=bP hc.2
  split at h
  ·rename_i d1 h1
   split at h
   ·rename_i d2 h2
    split at h
    ·rename_i d3 h3
     cases h
     have e0:S.st y (Ph S.H d3)=S.mn y d3:=congrArg (S.mn y) (pA S.H d3)
     refine Eq.mpr (congrArg (Wk gl σ) e0) ?_
     obtain⟨a1,a2⟩:=ym y h1
     obtain⟨b1,b2⟩:=Cf y h2
     obtain⟨c1,c2⟩:=H7 y h3
     refine Wk.sub ?_ ?_ ?_ ?_
     ·grind [SS.mn,oI]
     ·intro i x hx
      simp only[SS.mn] at hx
      rcases ln hx with hx|hx<;>grind
     ·intro b k hk
      simp only[SS.mn] at hk
      rcases ln hk with hk|hk
      ·grind [rO]
      grind
     grind [SS.mn]
    grind
   grind
  grind
 grind
end Go.Ax
namespace Go.Ax
inductive Nd where
 |U9 (b:Nat) (t:Ty)
 |As (c b:Nat)
 |own (c:Nat) (p:Path)
 |Va
def AV.owned:AV→Option Nat
 | .own b| .jV b _ _| .jy b _ _ _| .mp b=>some b
 |
  .cons a b=>match a.owned with
  |some c=>some c
  |none=>b.owned
 |_=>none
def Vp:Path→Path
 | .cF n::p=>.cF (n+1)::p
 |p=>p
def Cg:List Nd→List Nd
 |[]=>[]
 | .own c p::l=>.own c (Vp p)::Cg l
 |n::l=>n::Cg l
def H8:List Nd→List Nd
 |[]=>[]
 | .own c p::l=>.own c (.cF 0::p)::H8 l
 |n::l=>n::H8 l
def lW:Sh→AV→List Nd
 |
  .val t,x=>match x.owned with
  |some b=>[.U9 b t]
  |
   none=>match x with
   | .val _ _=>[]
   |_=>[.Va]
 | .cI t,.ptr b _=>[.U9 b t]
 | .own c,.own b=>[.As c b]
 | .own c,.aF=>[.own c []]
 | .ptr c _,.ptr b _=>[.As c b]
 | .jV c,.jV b _ _=>[.As c b]
 | .jy c _,.jy b _ _ _=>[.As c b]
 | .mp c,.mp b=>[.As c b]
 | .cons a b,.cons x y=>H8 (lW a x)++Cg (lW b y)
 | .func _ a b,.func _ x y=>lW a x++lW b y
 | .iface _ a,.iface _ x=>lW a x
 |_,_=>[]
def EA:gr→aN→List Nd
 | .var _ s,.var _ x=>lW s x
 | .tv _ s,.tv _ _ x=>lW s x
 | .bW _ _ _ s,.bW _ _ _ _ _ x=>lW s x
 | .mf _ _,.mf _ _ _ (some _)=>[.Va]
 |_,_=>[]
def Vb{α:Type}:List (Nat×α)→Nat→Option α
 |[],_=>none
 |(i,x)::l,j=>if Nat.beq i j then some x else Vb l j
def EB:List Nd→List (Nat×Nat)
 |[]=>[]
 | .As c b::l=>(c,b)::EB l
 |_::l=>EB l
def S6:List Nd→Option (Nat×Ty)
 |[]=>none
 | .U9 b t::_=>some (b,t)
 |_::l=>S6 l
def Pj:List (Nat×Sh)→List AV→List Nd
 |[],_=>[]
 |
  (i,s)::l,tm=>(match tm[i]? with
  |some x=>lW s x
  |none=>[])++Pj l tm
def Pk:List Sh→List AV→List Nd
 |s::l,x::xs=>lW s x++Pk l xs
 |_,_=>[]
def EC(hp:List (Nat×gr))(σ:List (Option aN)):Nat→List (Nat×Nat)→List (Nat×Nat)→List Nd→List (Nat×Nat)×List Nd
 |0,_,done,nd=>(done,nd)
 |_+1,[],done,nd=>(done,nd)
 |
  n+1,(c,b)::todo,done,nd=>
  match Vb done c with
  |some _=>EC hp σ n todo done nd
  |
   none=>
   match Vb hp c,σ[b]? with
   |some s,some (some k)=>EC hp σ n (EB (EA s k)++todo) ((c,b)::done) (nd++EA s k)
   |_,_=>EC hp σ n todo ((c,b)::done) nd
def pinned:List (Nat×gr)→List (Option aN)→List (Nat×Nat)
 |[],_=>[]
 |
  (c,s)::l,σ=>if Nat.blt c 16 then(c,c)::pinned l σ else(match s with
  | .wu=>(c,c)::pinned l σ
  |_=>pinned l σ)
def ED(S:SS)(σ:St):List (Nat×Nat)×List Nd:=
 let n0:=Pj S.tm σ.tm++Pk S.df σ.df
 EC S.hp σ.hp 200 (EB n0++pinned S.hp σ.hp) [] n0
def Vq(hp:List (Option aN))(b:Nat)(t:Ty):Ty:=
 match hp[b]? with
 |some (some (.row _ bs u _))=>.slice bs u
 |
  _=>match t with
  | .slice bs u=>.slice bs u
  |_=>.slice 1 (.int .u8)
def EE(S:SS):Nat→St→Option St
 |0,_=>none
 |
  n+1,σ=>match S6 (ED S σ).2 with
  |none=>some σ
  |
   some (b,t)=>match freeze b (Vq σ.hp b t) σ with
   |some σ'=>EE S n σ'
   |none=>none
def PZ:List AV→List Nat
 |[]=>[]
 |x::l=>x.ids++PZ l
def P0:List (Option aN)→Nat→List Nat
 |[],_=>[]
 |some k::l,i=>i::(k.ids++P0 l (i+1))
 |none::l,i=>P0 l (i+1)
def H9:List (Nat×Nat)→List (Nat×Nat)
 |[]=>[]
 |(c,b)::l=>if Nat.beq c b then H9 l else(c,b)::H9 l
def Ia(used:List Nat):List (Nat×Nat)→List (Nat×Nat)→Option (Nat×Nat×List (Nat×Nat))
 |[],_=>none
 |(c,b)::l,acc=>if cL c used then Ia used l ((c,b)::acc) else some (c,b,acc++l)
def S7(b x:Nat):List (Nat×Nat)→List (Nat×Nat)
 |[]=>[]
 |(c,d)::l=>(c,if Nat.beq d b then x else d)::S7 b x l
def wX(top:Nat):Nat→List (Nat×Nat)→St→Option St
 |_,[],σ=>some σ
 |0,_,_=>none
 |
  n+1,(c,b)::mv,σ=>
  match Ia (PZ σ.tm++PZ σ.df++P0 σ.hp 0) ((c,b)::mv) [] with
  |
   some (c',b',rest)=>match rename b' c' σ with
   |some σ'=>wX top n rest σ'
   |none=>none
  |
   none=>match rename b top σ with
   |some σ'=>wX top n (S7 b top ((c,b)::mv)) σ'
   |none=>none
def Ib(hp:List (Nat×gr))(c:Nat)(f:TypeId→Nat→Ty→Gh)(σ:St):Option St:=
 match Vb hp c with
 |some (.row e bs t)=>(f e bs t).go σ
 |_=>none
def wY(hp:List (Nat×gr))(f:Nat→Path→TypeId→Nat→Ty→Gh):List Nd→St→Option St
 |[],σ=>some σ
 |
  .own c p::l,σ=>match Ib hp c (f c p) σ with
  |some σ'=>wY hp f l σ'
  |none=>none
 |_::l,σ=>wY hp f l σ
def yn(hp:List (Nat×gr)):List (Nat×Sh)→St→Option St
 |[],σ=>some σ
 |
  (i,s)::l,σ=>match σ.tm[i]? with
  |
   some x=>match wY hp (fun c _ e bs t=>.yh i c e bs t) (lW s x) σ with
   |some σ'=>yn hp l σ'
   |none=>none
  |none=>none
def uk(hp:List (Nat×gr)):List (Nat×gr)→St→Option St
 |[],σ=>some σ
 |
  (i,s)::l,σ=>match σ.hp[i]? with
  |
   some (some k)=>match wY hp (fun c p e bs t=>.uj i p c e bs t) (EA s k) σ with
   |some σ'=>uk hp l σ'
   |none=>none
  |_=>uk hp l σ
def Ch:List Nd→Bool
 |[]=>false
 | .Va::_=>true
 |_::l=>Ch l
def qL:List (Nat×Sh)→St→Option St
 |[],σ=>some σ
 |
  (i,.val t)::l,σ=>match σ.tm[i]? with
  |
   some x=>if Ch (lW (.val t) x) then(match(Gh.H3 i t).go σ with
   |some σ'=>qL l σ'
   |none=>none) else qL l σ
  |none=>none
 |_::l,σ=>qL l σ
def qM:List (Nat×gr)→St→Option St
 |[],σ=>some σ
 |
  (i,s)::l,σ=>match σ.hp[i]? with
  |
   some (some k)=>if Ch (EA s k) then(match(Gh.Cb i).go σ with
   |some σ'=>qM l σ'
   |none=>none) else qM l σ
  |_=>qM l σ
def S8:List (Nat×Sh)→List Nat
 |[]=>[]
 |(i,_)::l=>i::S8 l
def S9:List (Nat×Nat)→List Nat
 |[]=>[]
 |(_,b)::l=>b::S9 l
def SS.sW(
 S:SS) (σ:St):Option S.T:=
 match EE S 40 σ with
 |none=>none
 |
  some σ1=>
  let m:=(ED S σ1).1
  match(Gh.AD (S8 S.tm) (S9 m)).go σ1 with
  |none=>none
  |
   some σ2=>match wX (S.nh -1) 60 (H9 m) σ2 with
   |none=>none
   |
    some σ3=>match yn S.hp S.tm σ3 with
    |none=>none
    |
     some σ4=>match uk S.hp S.hp σ4 with
     |none=>none
     |
      some σ5=>match qL S.tm σ5 with
      |none=>none
      |
       some σ6=>match qM S.hp σ6 with
       |none=>none
       |some σ7=>S.get σ7
section
variable{gl:Ctx}
theorem AE{S:SS}:∀{n:Nat}{σ σ':St},EE S n σ=some σ'→Wk gl σ σ'
 |0,_,_,h=>by cases h
 |
  n+1,σ,σ',h=>by
  simp only[EE] at h
  split at h
  ·cases h;exact Wk.refl gl σ
  ·split at h
   ·rename_i σ1 h1;exact(Wk.freeze h1).trans (AE h)
   ·cases h
theorem um{top:Nat}:∀{n:Nat}{mv:List (Nat×Nat)}{σ σ':St},wX top n mv σ=some σ'→Wk gl σ σ'
 |
  _,[],σ,σ',h=>by
  grind [wX,Wk.refl]
 |0,_::_,_,_,h=>by trivial
 |
  n+1,(c,b)::mv,σ,σ',h=>by
  simp only[wX] at h
  split at h
  ·split at h
   ·rename_i σ1 h1;exact(Wk.rename h1).trans (um h)
   ·cases h
  ·split at h
   ·rename_i σ1 h1;exact(Wk.rename h1).trans (um h)
   ·cases h
theorem kI{hp:List (Nat×gr)}{f:Nat→Path→TypeId→Nat→Ty→Gh}:∀{l:List Nd}{σ σ':St},wY hp f l σ=some σ'→Wk gl σ σ'
 |[],σ,σ',h=>by cases h;exact Wk.refl gl σ
 |
  .own c p::l,σ,σ',h=>by
  simp only[wY] at h
  split at h
  ·rename_i σ1 h1
   unfold Ib at h1
   split at h1
   ·exact(Gh.ok h1).trans (kI h)
   ·cases h1
  ·cases h
 | .U9 _ _::l,σ,σ',h=>kI (l:=l) h
 | .As _ _::l,σ,σ',h=>kI (l:=l) h
 | .Va::l,σ,σ',h=>kI (l:=l) h
theorem wZ{hp:List (Nat×gr)}:∀{l:List (Nat×Sh)}{σ σ':St},yn hp l σ=some σ'→Wk gl σ σ'
 |[],σ,σ',h=>by cases h;exact Wk.refl gl σ
 |
  (i,s)::l,σ,σ',h=>by
  simp only[yn] at h
  split at h
  ·split at h
   ·rename_i σ1 h1;exact(kI h1).trans (wZ h)
   ·cases h
  ·cases h
theorem qN{hp:List (Nat×gr)}:∀{l:List (Nat×gr)}{σ σ':St},uk hp l σ=some σ'→Wk gl σ σ'
 |[],σ,σ',h=>by cases h;exact Wk.refl gl σ
 |
  (i,s)::l,σ,σ',h=>by
  simp only[uk] at h
  split at h
  ·split at h
   ·rename_i σ1 h1;exact(kI h1).trans (qN h)
   ·cases h
  ·exact qN (l:=l) h
theorem ny:∀{l:List (Nat×Sh)}{σ σ':St},qL l σ=some σ'→Wk gl σ σ'
 |[],σ,σ',h=>by cases h;exact Wk.refl gl σ
 |
  (i,s)::l,σ,σ',h=>by
  cases s with
  |
   val t=>
   simp only[qL] at h
   split at h
   ·split at h
    ·split at h
     ·rename_i σ1 h1;exact(Gh.ok h1).trans (ny h)
     ·cases h
    ·exact ny (l:=l) h
   ·cases h
  |_=>exact ny (l:=l) h
theorem nz:∀{l:List (Nat×gr)}{σ σ':St},qM l σ=some σ'→Wk gl σ σ'
 |[],σ,σ',h=>by cases h;exact Wk.refl gl σ
 |
  (i,s)::l,σ,σ',h=>by
  simp only[qM] at h
  split at h
  ·split at h
   ·split at h
    ·rename_i σ1 h1;exact(Gh.ok h1).trans (nz h)
    ·cases h
   ·exact nz (l:=l) h
  ·exact nz (l:=l) h
theorem SS.iJ{S:SS}{y:YC}{σ:St}{t:S.T}(h:S.sW σ=some t):Wk gl σ (S.st y t):=by
 unfold SS.sW at h
 split at h
 ·cases h
 rename_i σ1 h1
 simp only at h
 split at h
 ·cases h
 rename_i σ2 h2
 split at h
 ·cases h
 rename_i σ3 h3
 split at h
 ·cases h
 rename_i σ4 h4
 split at h
 ·cases h
 rename_i σ5 h5
 split at h
 ·cases h
 rename_i σ6 h6
 split at h
 ·cases h
 rename_i σ7 h7
 exact((((((AE h1).trans (Gh.ok h2)).trans (um h3)).trans (wZ h4)).trans (qN h5)).trans (ny h6)).trans ((nz h7).trans (SS.fy h))
end
end Go.Ax
namespace Go.Ax
def Ci:aN:=.row 0 0 .unit []
theorem EF{E:Env}{w:World}{b:Nat}(h:RB E w b Ci):False:=by
 have h:=h.2.2.2.1
 trivial
def uq(f:aT)(z:Nat):aT:=⟨f.rt,f.rb,[],none,.bot,[(z,some Ci)]⟩
def EG(z:Nat):aT:=⟨[],[z],[],none,.bot,[]⟩
def jH(fs:List aT)(f:aT)(z:Nat)(gs:List aT):List aT:=fs++uq f z::gs
def Cj(P:Program)(gl:Ctx)(ops:Array Oper)(z:Nat)(j:Nat)(g:aT)(σ:St):Prop:=o9 P gl ops j g σ∨(g=EG z∧σ.hp[z]? =some (some Ci))
def nA:List Nat→List AV→List AV
 |[],tm=>tm
 |d::l,tm=>nA l (tm.set d .bot)
theorem rP:∀{l:List Nat}{tm:List AV},(nA l tm).length=tm.length
 |[],_=>rfl
 |d::l,tm=>by unfold nA;rw[rP];simp
theorem rQ{i:Nat}{x:AV}:∀{l:List Nat}{tm:List AV},(nA l tm)[i]? =some x→x= .bot∨(i∉l∧tm[i]? =some x)
 |[],_,h=>Or.inr ⟨by simp,h⟩
 |
  d::l,tm,h=>by
  unfold nA at h
  rcases rQ h with h|⟨hl,h⟩<;>grind
def ur(fs:List aT)(f:aT)(z:Nat)(gs:List aT)(σ:St):St:=
 ⟨nA (dstsOf (jH fs f z gs)) σ.tm,aR (aR σ.hp f.hw) (eK (kE (jH fs f z gs))),σ.df⟩
theorem cq.app{OK:Nat→aT→St→Prop}:∀{fs gs:List aT}{i:Nat}{σ σ1 σ':St},cq OK i fs σ σ1→cq OK (i+fs.length) gs σ1 σ'→cq OK i (fs++gs) σ σ'
 |[],gs,i,σ,σ1,σ',h,k=>by grind [cq]
 |f::fs,gs,i,σ,σ1,σ',⟨h1,h2,h3⟩,k=>⟨h1,h2,cq.app h3 (by grind)⟩
theorem cq.hl{OK:Nat→aT→St→Prop}:∀{fs:List aT}{i:Nat}{σ σ':St},cq OK i fs σ σ'→σ'.hp.length=σ.hp.length
 |[],_,_,_,h=>by simp only[cq] at h;grind
 |f::fs,_,σ,_,⟨_,_,h⟩=>by rw[cq.hl h,rA]
def K4(z:Nat)(gs:List aT):Bool:=gs.all fun g=> !cL z (wrote g.hw)
theorem cq.at{OK:Nat→aT→St→Prop}{z:Nat}{k:Option aN}:∀{fs:List aT}{i:Nat}{σ σ':St},cq OK i fs σ σ'→K4 z fs=true→σ.hp[z]? =some k→σ'.hp[z]? =some k
 |[],_,_,_,h,_,hz=>by grind [cq]
 |
  f::fs,_,σ,_,⟨_,_,h⟩,hn,hz=>by
  simp only[K4,List.all_cons,aW,iE] at hn
  refine cq.at h (by simpa[K4] using hn.2) ?_
  rw[iq,eF (fun hm=>by rw[nc hm] at hn;cases hn.1)]
  exact hz
theorem uu{P:Program}{G:bR}(T:bD P G){gl:Ctx}{ops:Array Oper}{id:Nat}{draw:Bool}{fs gs:List aT}{f:aT}{z:Nat}{σ σp σe:St}{Q:fY→St→Prop}
 (hc:qn P gl ops 0 fs σ σp) (hp:Bd P gl ops fs.length f σp) (hg2:cq (Cj P gl ops z) (fs.length+1) gs (σp.app (uq f z)) σe) (hnz:K4 z gs=true) (hz:z<σ.hp.length) (hn:fs.length+1+gs.length=ops.size) (gL:draw=true→(ma none ops (jH fs f z gs)&&jd σ (jH fs f z gs))=true)
 (hpl:f.v.plain=true) (hq:Q (.panic f.v) (ur fs f z gs σ)):cZ P gl (.region id ops draw) σ Q:=by
 intro E a w hg
 have hzp:(σp.app (uq f z)).hp[z]? =some (some Ci):=by
  rw[iq]
  simp only[uq,aR,dA,bZ]
  rw[aA (by rw[cq.hl hc];exact hz)]
 have hze:=cq.at hg2 hnz hzp
 have hlen:(jH fs f z gs).length=ops.size:=by simp[jH];omega
 have rest:∀(V:St→Env→World→Prop)(Q:Exit→Act→World→Prop) j g σ1,Cj P gl ops z j g σ1→KR P gl ops Q V j g σ1:=by
  intro V Q j g σ1 h
  rcases h with h|⟨rfl,h⟩
  ·exact h.q
  ·intro σ' ha _ E a w hg
   have:σ'.hp[z]? =some (some Ci):=by rw[ha.hp z (by simp[EG]),h]
   exact(EF (hg.hw.cM z _ this)).elim
 have total:∀Q':Exit→Act→World→Prop,(∀σ2 E2 w2 E' u w',wo gl (dstsOf (jH fs f z gs)) (kE (jH fs f z gs)) σ E w σ2 E2 w2→∀a',bX gl {σ2 with hp:=aR σ2.hp f.hw} E' a' w'→RV E' w' f.v u→Ext gl.md (Own σ2.hp E2) E2 w2 (Own (aR σ2.hp f.hw) E') E' w'→Q' (.panic [{v:=u,recovered:=false}]) a' w')→
  cq (KR P gl ops Q' (wo gl (dstsOf (jH fs f z gs)) (kE (jH fs f z gs)) σ E w)) 0 (jH fs f z gs) σ σe:=by
  intro Q' hQ'
  refine cq.app (hc.mono fun _ _ _=>o9.q) ⟨?_,(fun d hd=>by cases hd),?_⟩
  ·rw[dY]
   intro σ2 ha _ E2 a2 w2 hg2 hv2 K _
   exact hp σ2 ha E2 a2 w2 hg2 K Q' (fun E' u w' q1 q2 q3=>hQ' σ2 E2 w2 E' u w' hv2 a2 q1 q2 q3)
  ·rw[dY]
   exact hg2.mono (rest _ _)
 have post:∀σ2 E2 w2 E' u w',wo gl (dstsOf (jH fs f z gs)) (kE (jH fs f z gs)) σ E w σ2 E2 w2→∀a',bX gl {σ2 with hp:=aR σ2.hp f.hw} E' a' w'→RV E' w' f.v u→Ext gl.md (Own σ2.hp E2) E2 w2 (Own (aR σ2.hp f.hw) E') E' w'→pQ gl Q σ E w (.panic [{v:=u,recovered:=false}]) a' w':=by
  intro σ2 E2 w2 E' u w' hv a' q1 q2 q3
  have hwk2:bX gl (ur fs f z gs σ) E' a' w'∧Ext gl.md (Own (aR σ2.hp f.hw) E') E' w' (Own (ur fs f z gs σ).hp E') E' w':=by
   refine⟨⟨?_,?_,q1.hw.less ?_,?_⟩,{Ext.refl (Own (aR σ2.hp f.hw) E') E' w' with own:=?_ }⟩
   ·simp only[ur,rP];rw[q1.len];exact hv.tl
   ·intro i x hx v hv'
    rcases rQ hx with hx|⟨hi,hx⟩
    ·subst hx;trivial
    ·exact q1.tm i x (by show σ2.tm[i]? =some x;rw[hv.tm i hi];exact hx) v hv'
   ·intro b k hk
    obtain⟨hb,hk⟩:=dz hk
    show(aR σ2.hp f.hw)[b]? =_
    rw[iP hv.hl (hv.hp b hb)]
    exact hk
   ·show RD E' w' σ.df a'.defers
    rw[←hv.df];exact q1.df
   ·rintro g ⟨b,k,hk,hgb⟩
    obtain⟨hb,hk⟩:=dz hk
    refine Or.inl ⟨b,k,?_,hgb⟩
    rw[iP hv.hl (hv.hp b hb)]
    exact hk
  exact⟨.panic f.v,ur fs f z gs σ,E',⟨u,rfl,RV.jD hpl q2⟩,hq,hwk2.1,(hv.ext.trans q3).trans hwk2.2⟩
 have noend:∀E' a' w',bX gl σe E' a' w'→False:=fun E' a' w' h=>EF (h.hw.cM z _ hze)
 cases draw with
 |false=>exact sk hlen (total _ post) hg (fun E' a' w' h _=>(noend E' a' w' h).elim)
 |
  true=>
  have gL:=gL rfl
  simp only[aW] at gL
  exact sq T gL.1 gL.2 (fun _ _ _ _ h=>by cases h) (total _ post) hg (fun E' a' w' h _=>(noend E' a' w' h).elim)
end Go.Ax
namespace Go.Ax
theorem Ic{P:Program}{w:World}{g:Nat}{a:Option Nat}{b:Nat}{c:Array Nat}{d:Nat}{o':Obj}(h:w.heap[g]? =some (.mapIter a b c d)):(setObj g o').run P w= .ok () (w.putObj g o'):=by simp[setObj,Sem.run,h,World.putObj]
theorem run_next_at{P:Program}(w:World)(ty:TypeId)(g bm since c0:Nat)(seen:Array Nat)(es:Array MapEntry)(clock:Nat)(hg:w.heap[g]? =some (.mapIter (some bm) since seen c0))(hb:w.heap[bm]? =some (.map es clock))(hold:∀x∈es.toList,x.born<since)(hsc:since≤c0):
 ((leftOf es seen).size=0∧(Instr.next (.pointer (some ⟨g,0,none⟩)) false ty).run P w= .ok (.tuple #[.bool false]) w)∨
 ∃e∈(leftOf es seen).toList,∃w1:World,(w1=w∨w1=w.drew)∧(Instr.next (.pointer (some ⟨g,0,none⟩)) false ty).run P w= .ok (.tuple #[.bool true,e.key,e.val]) (w1.putObj g (.mapIter (some bm) since (seen.push e.born) clock)):=by
 simp only[Instr.next,getObj,Sem.run_bind,Sem.run,hg,hb,Result.andThen,next_test_false seen es since c0 hold hsc,dL,cW]
 unfold leftOf
 have hmem:∀x∈(Array.filter (fun e=> !seen.contains e.born) es).toList,x.born<since:=fun x hx=>hold x (by grind)
 generalize Array.filter (fun e=> !seen.contains e.born) es=L at hmem ⊢
 have e1:L.filter (fun x=>decide (x.born<since))=L:=Array.filter_eq_self.2 (fun x hx=>by grind)
 have e2:L.filter (fun x=>decide (x.born≥since))= #[]:=by
  simp_all
 simp only[e1,e2,Array.append_empty]
 by_cases h0:L.size=0
 ·simp_all[Question.forced]
 ·right
  have hne:L.isEmpty=false:=by grind
  simp only[hne,dL,cW,Array.empty_append,Array.size_map]
  have hch:∃(j:Nat)(w1:World),j<L.size∧(w1=w∨w1=w.drew)∧(choose (Question.mapNext L.size)).run P w= .ok j w1:=by
   by_cases hf:L.size≤1
   ·exact⟨0,w,by omega,Or.inl rfl,by simp[choose,Sem.run,Question.forced,hf]⟩
   ·exact⟨_,w.drew,Nat.mod_lt _ (by omega),Or.inr rfl,by
     simp only[choose,Sem.run,Question.forced,mT,hf,cW,Question.cut]
     rfl⟩
  obtain⟨j,w1,hj,hal,ahL⟩:=hch
  refine⟨L[j],by simp,w1,hal,?_⟩
  have hg1:w1.heap[g]? =some (.mapIter (some bm) since seen c0):=by
   rcases hal with e|e
   ·grind
   ·rw[e];exact hg
  simp only[ahL,Array.getElem?_map,Array.getElem?_eq_getElem hj,Option.map_some,Sem.run_bind,Ic hg1,Result.andThen]
  rfl
theorem Ck{en:Array MapEntry}{seen:Array Nat}(hn:(en.toList.map (·.born)).Nodup){i:Nat}{e:MapEntry}(he:(ko en seen).toList[i]? =some e):(ko en (seen.push e.born)).toList=(ko en seen).toList.eraseIdx i:=by
 have key:∀(l:List MapEntry)(i:Nat)(e:MapEntry),(l.map (·.born)).Nodup→l[i]? =some e→l.filter (fun x=> !(x.born==e.born))=l.eraseIdx i:=by
  intro l
  induction l with
  |nil=>grind
  |
   cons x l ih=>
   intro i e hn h
   have hn':x.born∉l.map (·.born)∧(l.map (·.born)).Nodup:=List.nodup_cons.1 hn
   cases i with
   |
    zero=>
    simp_all
   |
    succ i=>
    grind
 have hl:(ko en (seen.push e.born)).toList=(ko en seen).toList.filter (fun x=> !(x.born==e.born)):=by
  simp only[ko,Array.toList_filter,List.filter_filter]
  grind
 grind [ko]
theorem RM.ats{E:Env}{w:World}{k v:Ty}:∀{es:List MapEntry}{xs:List (k.den×v.den)},RM E w k v es xs→es.length=xs.length∧(∀(i:Nat)(e:MapEntry)(x:k.den×v.den),es[i]? =some e→xs[i]? =some x→cK E w (.val k x.1) e.key∧cK E w (.val v x.2) e.val)∧∀i,RM E w k v (es.eraseIdx i) (xs.eraseIdx i)
 |[],[],_=>⟨rfl,fun i e x h=>by simp at h,fun i=>by simp[RM]⟩
 |[],_::_,h=>h.elim
 |_::_,[],h=>h.elim
 |
  e::es,x::xs,⟨h1,h2,h3⟩=>by
  obtain⟨a,b,c⟩:=RM.ats h3
  refine⟨by simp[a],?_,?_⟩
  ·grind
  ·intro i
   cases i with
   |zero=>grind
   |succ i=>simpa using⟨h1,h2,c i⟩
noncomputable def GI{A R:Type}(xs:List A)(K:A→List A→Option R):Option R:=
 @dite _ (∃r,∀i(h:i<xs.length),K xs[i] (xs.eraseIdx i)=some r) (Classical.propDecidable _) (fun h=>some h.choose) (fun _=>none)
theorem GJ{A R:Type}{xs:List A}{K:A→List A→Option R}{r:R}(h:GI xs K=some r)(i:Nat)(hi:i<xs.length):K xs[i] (xs.eraseIdx i)=some r:=by
 unfold GI at h
 split at h<;>grind
theorem cZ.next{P:Program}{gl:Ctx}{σ:St}{Q:fY→St→Prop}{id:Nat}{o0 o1:Oper}{s d d1 b:Nat}{kt vt:Ty}{rest:List (kt.den×vt.den)}{cur:Option (kt.den×vt.den)}
 (h0:o0.op= .next (.tmp s) false) (hg0:o0.guard=none) (hd0:o0.dst=some d) (h1:o1.op= .extract (.tmp d) 0) (hg1:o1.guard=none) (hd1:o1.dst=some d1)
 (hs:σ.tm[s]? =some (.ptr b [])) (hb:σ.hp[b]? =some (some (.mf kt vt rest cur))) (hl:Nat.blt d σ.tm.length=true)
 (hq0:rest= []→Q .normal ((σ.put (some d) .bot).put (some d1) (.val .bool false)))
 (hq1:∀i(hi:i<rest.length),Q .normal ((({σ with hp:=σ.hp.set b (some (.mf kt vt (rest.eraseIdx i) (some rest[i])))}:St).put (some d) .bot).put (some d1) (.val .bool true))):
 cZ P gl (.region id #[o0,o1] false) σ Q:=by
 intro E a w hg
 obtain⟨g,om,since,seen,c0,q1,q2,q3⟩:=hg.hw.cM b _ hb
 have hlt:d<a.tmps.size:=by rw[hg.len];simp_all
 have hx:a.eval (.tmp s)= .pointer (some ⟨g,0,none⟩):=by
  have hv:=gF hg (.tmp s)
  have:bH gl σ.tm (.tmp s)= .ptr b []:=by simp[bH,hs]
  rw[this] at hv
  obtain⟨g',hg',ev,_⟩:=RV.atom rfl hv
  grind [Ty.off]
 have w0:∀z,Region.wanted o0 z=true:=fun z=>by simp[Region.wanted,hg0]
 have w1:∀z,Region.wanted o1 z=true:=fun z=>by simp[Region.wanted,hg1]
 refine wpIn_region ?_
 have hr:List.range (#[o0,o1]:Array Oper).size= [0,1]:=rfl
 rw[hr]
 have fin:∀(vs:Array Value)(x:Bool)(w':World)(σ':St),(Instr.next (.pointer (some ⟨g,0,none⟩)) false o0.type).run P w= .ok (.tuple vs) w'→vs[0]? =some (.bool x)→bX gl σ' E a w'→Ext gl.md (Own σ.hp E) E w (Own σ'.hp E) E w'→
  Q .normal ((σ'.put (some d) .bot).put (some d1) (.val .bool x))→wpOpsIn (Wd gl) 0 P #[o0,o1] (pQ gl Q σ E w) [0,1] a w:=by
  intro vs x w' σ' ahL hv0 hg' hext hq
  simp only[wpOpsIn,List.getElem?_toArray,List.getElem?_cons_zero,vu,w0,bZ]
  refine⟨fun _ _=>trivial,?_⟩
  rw[Oper.semAt_eq _ _ _ (by grind)]
  have r1:(execOp a.eval o0).run P w= .ok (.value (.tuple vs)) w':=by simp[execOp,h0,hx,ahL]
  rw[r1,Oper.uponIn_value,hd0]
  simp only[w1,bZ]
  refine⟨fun _ _=>trivial,?_⟩
  rw[Oper.semAt_eq _ _ _ (by grind)]
  have hev:(a.put (some d) (.tuple vs)).eval (.tmp d)= .tuple vs:=by simp[Act.eval,Act.put,hlt]
  have r2:(execOp (a.put (some d) (.tuple vs)).eval o1).run P w'= .ok (.value (.bool x)) w':=by
   simp_all[execOp,Instr.extract]
  rw[r2,Oper.uponIn_value,hd1]
  have ga:=hg'.put (some d) (x:=.bot) (v:=.tuple vs) trivial
  have gb:=ga.put (some d1) (x:=.val .bool x) (v:=.bool x) RV.bool
  exact⟨.normal,_,E,trivial,hq,gb,hext⟩
 have nextNil:om=none→rest= []→wpOpsIn (Wd gl) 0 P #[o0,o1] (pQ gl Q σ E w) [0,1] a w:=by
  intro e1 e2
  subst e1
  refine fin #[.bool false] false w σ ?_ rfl hg (Ext.refl _ _ _) (hq0 e2)
  simp only[Instr.next,getObj,Sem.run_bind,Sem.run,q2,Result.andThen]
  rfl
 rcases q3 with⟨e1,e2,_⟩|⟨bm,en,e1,r2,r3,e4,r5,r6,r7,r8⟩
 ·grind
 ·subst e1;subst e4
  obtain⟨m1,m2,m3⟩:=RM.ats r7
  rcases run_next_at (P:=P) w o0.type g bm since since seen en since q2 r3 r5 (dD _) with⟨z,ahL⟩|⟨e,he,w1',hw1,ahL⟩
  ·have hr0:rest= []:=by
    grind [leftOf,ko]
   exact fin #[.bool false] false w σ ahL rfl hg (Ext.refl _ _ _) (hq0 hr0)
  ·have he:e∈(ko en seen).toList:=he
   obtain⟨i,hi,hie⟩:=List.mem_iff_getElem.1 he
   have hie':(ko en seen).toList[i]? =some e:=by grind
   have hir:i<rest.length:=by grind
   have hrm:=Ck r6 hie'
   have hen:e∈en.toList:=by
    grind [ko]
   obtain⟨k1,k2⟩:=m2 i e rest[i] hie' (qg hir)
   have hh:w1'.heap=w.heap:=by rcases hw1 with e|e<;>rw[e]<;>rfl
   have hlg:g<w1'.heap.size:=by grind
   have hne:bm≠g:=fun e=>by grind
   have hoth:∀j,j≠g→(w1'.putObj g (.mapIter (some bm) since (seen.push e.born) since)).heap[j]? =w.heap[j]? :=fun j hj=>by
    grind [World.putObj_heap_other]
   have kp:bL E w E (w1'.putObj g (.mapIter (some bm) since (seen.push e.born) since)):=⟨fun j hj=>hoth j (fun e=>hg.hw.jY b _ g hb q1 (e▸hj)),fun _ h=>h⟩
   have hrb:RB E (w1'.putObj g (.mapIter (some bm) since (seen.push e.born) since)) b (.mf kt vt (rest.eraseIdx i) (some rest[i])):=by
    refine⟨g,some bm,since,seen.push e.born,since,q1,World.putObj_heap_same hlg,Or.inr ⟨bm,en,rfl,r2,by grind,rfl,r5,r6,?_,?_⟩⟩
    ·rw[hrm];exact RM.mono kp (m3 i)
    ·intro x hx
     cases hx
     exact⟨e,seen,rfl,hen,cK.mono kp (fun _ hb=>by cases hb) k1,cK.mono kp (fun _ hb=>by cases hb) k2⟩
   have hw2:=hg.hw.write (w':=w1'.putObj g (.mapIter (some bm) since (seen.push e.born) since)) hb (by simp_all) (fun j hj=>hoth j (fun e=>hj (by grind))) hrb
   refine fin #[.bool true,e.key,e.val] true _ {σ with hp:=σ.hp.set b (some (.mf kt vt (rest.eraseIdx i) (some rest[i])))} ahL rfl (hg.carry kp (fun _ _=>⟨rfl,rfl,rfl⟩) hw2) ⟨?_,?_,?_,?_,?_,fun _ h=>h,fun _ h=>Or.inl h,fun i hi=>Or.inl (Own.set hb hi),fun _ _=>⟨rfl,rfl,rfl⟩⟩ (hq1 i hir)
   ·rcases hw1 with e|e<;>rw[e]<;>rfl
   ·rcases hw1 with e|e
    ·rw[e];exact Tp.r rfl rfl
    ·rw[e];exact Tp.s rfl rfl
   ·rcases hw1 with e|e<;>rw[e]<;>rfl
   ·simp_all
   ·intro j hj ho
    exact hoth j (fun e=>ho ⟨b,_,hb,by rw[e];exact Or.inl q1⟩)
end Go.Ax
namespace Go.Ax
theorem cZ.K5{P:Program}{gl:Ctx}{σ:St}{Q:fY→St→Prop}{id:Nat}{o1 o2:Oper}{y:Code}(x:Operand)(d1 d2:Nat)(t t2 e:TypeId)(bs:Nat)(u:Ty)(xs:List u.den)
 (h1:o1.op= .move x) (hd1:o1.dst=some d1) (hg1:o1.guard=none) (h2:o2.op= .binOp .eql t (.tmp d1) (.const (.slice none 0 0)) t2) (hd2:o2.dst=some d2) (hg2:o2.guard=none)
 (hx:bH gl σ.tm x= .val (.slice bs u) xs) (ht:P.underlying t=some (.slice e)) (hl:Nat.blt d1 σ.tm.length=true)
 (h:∀b:Bool,(b=true→xs= [])→cZ P gl y ((σ.put (some d1) (.val (.slice bs u) xs)).put (some d2) (.val .bool b)) Q):cZ P gl (.seq (.region id #[o1,o2] false) y) σ Q:=by
 intro E a w hg
 have hv:=gF hg x
 rw[hx] at hv
 obtain⟨ad,cap,hve,_,_,_,hor⟩:=RV.atom rfl hv
 simp at hve
 have hlt:d1<a.tmps.size:=by rw[hg.len];simp[Nat.blt] at hl;omega
 refine wpIn_seq (wpIn_region ?_)
 have hr:List.range (#[o1,o2]:Array Oper).size= [0,1]:=rfl
 rw[hr]
 have w1:∀z,Region.wanted o1 z=true:=fun z=>by simp[Region.wanted,hg1]
 have w2:∀z,Region.wanted o2 z=true:=fun z=>by simp[Region.wanted,hg2]
 have ga:=hg.put (some d1) hv
 have hb:ad.isNone=true→xs= []:=by
  intro hn
  rcases hor with h0|⟨b,o,cs,e1,_⟩
  ·exact h0
  ·subst e1;cases hn
 have gb:=ga.put (some d2) (x:=.val .bool ad.isNone) (v:=.bool ad.isNone) (RV.ef (Or.inr ⟨rfl,rfl⟩))
 have hfin:=h ad.isNone hb E _ w gb
 simp only[wpOpsIn,List.getElem?_toArray,List.getElem?_cons_zero,vu,w1,bZ]
 refine⟨fun _ _=>trivial,?_⟩
 rw[Oper.semAt_eq _ _ _ (by rw[h1];intro c hc;cases hc)]
 have r1:(execOp a.eval o1).run P w= .ok (.value (a.eval x)) w:=by simp[execOp,h1]
 rw[r1,Oper.uponIn_value,hd1]
 simp only[w2,bZ]
 refine⟨fun _ _=>trivial,?_⟩
 rw[Oper.semAt_eq _ _ _ (by rw[h2];intro c hc;cases hc)]
 have hev:(a.put (some d1) (a.eval x)).eval (.tmp d1)= .slice ad xs.length cap:=by
  have:(a.put (some d1) (a.eval x)).eval (.tmp d1)=a.eval x:=by
   generalize a.eval x=v
   simp[Act.eval,Act.put,hlt]
  rw[this,hve]
 have r2:(execOp (a.put (some d1) (a.eval x)).eval o2).run P w= .ok (.value (.bool ad.isNone)) w:=by
  have hq:=run_equal_slice_nil (P:=P) w t e ad xs.length cap ht
  have hc:(a.put (some d1) (a.eval x)).eval (.const (.slice none 0 0))= .slice none 0 0:=rfl
  simp[execOp,h2,hev,hc,eqGuard,binOp,hq]
 rw[r2,Oper.uponIn_value,hd2]
 simp only[Exit.then]
 refine wpIn_mono hfin ?_
 rintro ex a' w' ⟨x',σ',E',k1,k2,k3,k4⟩
 exact⟨x',σ',E',k1,k2,k3,k4⟩
end Go.Ax
namespace Go.Ax
theorem HW.frame{gl:Ctx}{E:Env}{w:World}{hp:List (Option aN)}(h:HW gl E w hp){g:Nat}{o:Obj}(hS:¬E.S g)(hO:¬Own hp E g):bL E w E (w.putObj g o)∧HW gl E (w.putObj g o) hp:=by
 have kp:bL E w E (w.putObj g o):=⟨fun b hb=>World.putObj_heap_other (fun e=>hS (e▸hb)),fun _ h=>h⟩
 exact⟨kp,fun b k hb=>RB.mono kp (fun _ _=>⟨rfl,rfl,rfl⟩) (fun i hi=>World.putObj_heap_other (fun e=>hO ⟨b,k,hb,by grind⟩)) (fun _ _ h=>h) (h.cM b k hb),h.dW,h.du,fun i hi=>by simpa using h.slt i hi,h.gj kp,fun b k g hb hg=>by simpa using h.sh b k g hb hg⟩
theorem bX.frame{gl:Ctx}{σ:St}{E:Env}{a:Act}{w:World}(h:bX gl σ E a w){g:Nat}{o:Obj}(hS:¬E.S g)(hO:¬Own σ.hp E g):bX gl σ E a (w.putObj g o):=by
 obtain⟨kp,hw⟩:=h.hw.frame (o:=o) hS hO
 exact h.carry kp (fun _ _=>⟨rfl,rfl,rfl⟩) hw
def Env.oj(E:Env):Env:={E with P:=fun _ _=>False}
theorem Env.sX{E:Env}{b g:Nat}(h:E.oj.has b g):E.has b g:=h.elim Or.inl False.elim
theorem Own.oj{hp:List (Option aN)}{E:Env}{g:Nat}(h:Own hp E.oj g):Own hp E g:=by
 obtain⟨b,k,h1,h2⟩:=h
 exact⟨b,k,h1,Env.sX h2⟩
theorem HW.oj{gl:Ctx}{E:Env}{w:World}{hp:List (Option aN)}(hn:∀(b:Nat)(k:aN),hp[b]? =some (some k)→k.JF=false)(h:HW gl E w hp):HW gl E.oj w hp:=
 have kp:bL E w E.oj w:=⟨fun _ _=>rfl,fun _ hg=>hg⟩
 ⟨fun b k hb=>RB.mono kp (fun _ _=>⟨rfl,rfl,rfl⟩) (fun _ _=>rfl) (fun hp=>by grind) (h.cM b k hb),fun b b' k k' g h1 h2 h3 h4=>h.dW b b' k k' g h1 h2 (Env.sX h3) (Env.sX h4),fun b k g h1 h2=>h.du b k g h1 (Env.sX h2),h.slt,h.gl,fun _ _ _ _ h=>h.elim⟩
theorem kF.oj{E:Env}{w:World}:∀{xs:List AV}{vs:List Value},kF E w xs vs→kF E.oj w xs vs
 |[],[],_=>trivial
 |[],_::_,h=>h.elim
 |_::_,[],h=>h.elim
 |_::_,_::_,⟨h1,h2⟩=>⟨RV.mono (E:=E) (E':=E.oj) (w:=w) ⟨fun _ _=>rfl,fun _ hg=>hg⟩ (fun _ _=>⟨rfl,rfl,rfl⟩) h1,kF.oj h2⟩
theorem sN.oj{P:Program}{gl:Ctx}{f:FuncId}{args:List AV}{H:List (Option aN)}{r:vO}{H':List (Option aN)}
 (hn:∀(b:Nat)(k:aN),H[b]? =some (some k)→k.JF=false) (h:∀E w vs,(∀b g,¬E.P b g)→kF E w args vs→HW gl E w H→Calls P f vs.toArray w (fun e w'=>∃E',wI E' w' r e∧HW gl E' w' H'∧Ext gl.md (Own H E) E w (Own H' E') E' w')):sN P gl f args H r H':=by
 intro E w vs hv hw
 refine Calls.mono (h E.oj w vs (fun _ _ h=>h) hv.oj (hw.oj hn)) ?_
 rintro e w' ⟨E',h1,h2,h3⟩
 exact⟨E',h1,h2,⟨h3.os,h3.tape,h3.output,h3.size,fun g hg ho=>h3.kept g hg (fun x=>ho x.oj),h3.sle,fun g hg=>(h3.l9 g hg).imp id (fun x=>x.imp Own.oj id),fun g hg=>(h3.own g hg).imp Own.oj id,h3.FJ⟩⟩
theorem Ext.put{gl:Ctx}{O:Nat→Prop}{E:Env}{w:World}{g:Nat}{o:Obj}(h:O g):Ext gl.md O E w O E (w.putObj g o):=
 ⟨rfl,Tp.r rfl rfl,rfl,by simp,fun i _ hi=>World.putObj_heap_other (fun e=>hi (e▸h)),fun _ h=>h,fun _ h=>Or.inl h,fun _ h=>Or.inl h,fun _ _=>⟨rfl,rfl,rfl⟩⟩
theorem lq{hp:List (Option aN)}{b c:Nat}{k:aN}(h:(hp.set b none)[c]? =some (some k)):c≠b∧hp[c]? =some (some k):=by
 grind
theorem HW.drop{gl:Ctx}{E:Env}{w:World}{hp:List (Option aN)}(h:HW gl E w hp)(b:Nat):HW gl E w (hp.set b none):=h.less (fun _ _ hc=>(lq hc).2)
theorem Own.drop{E:Env}{hp:List (Option aN)}{b g:Nat}(h:Own (hp.set b none) E g):Own hp E g:=by
 obtain⟨c,k,h1,h2⟩:=h
 exact⟨c,k,(lq h1).2,h2⟩
theorem bX.shut{gl:Ctx}{σ:St}{E:Env}{a:Act}{w:World}(h:bX gl σ E a w){b g:Nat}{k:aN}(hb:σ.hp[b]? =some (some k))(hg:E.g b=some g)(o:Obj):
 bX gl {σ with hp:=σ.hp.set b none} E a (w.putObj g o)∧Ext gl.md (Own σ.hp E) E w (Own (σ.hp.set b none) E) E (w.putObj g o):=by
 have hS:¬E.S g:=h.hw.jY b k g hb hg
 have hO:¬Own (σ.hp.set b none) E g:=by
  rintro⟨c,k',hc,hgc⟩
  obtain⟨h1,h2⟩:=lq hc
  exact h1 (h.hw.dW c b k' k g h2 hb hgc (Or.inl hg))
 have h1:bX gl {σ with hp:=σ.hp.set b none} E a w:=⟨h.len,h.tm,h.hw.drop b,h.df⟩
 refine⟨h1.frame hS hO,?_⟩
 have:=Ext.put (gl:=gl) (O:=Own σ.hp E) (E:=E) (w:=w) (o:=o) ⟨b,k,hb,Or.inl hg⟩
 exact{this with own:=fun i hi=>Or.inl (Own.drop hi)}
def marks:List AV→List (Option aN)→Option (List (Option aN))
 |[],hp=>some hp
 |
  .mp b::l,hp=>match eS hp b with
  |some .wu=>marks l (hp.set b none)
  |_=>none
 |_,_=>none
theorem EH{P:Program}{gl:Ctx}{fn:Func}{R:Ending→World→Prop}{tmps:Array Value}:∀(df:List AV){tm:List AV}{hp hp':List (Option aN)}{E:Env}{ds:List Deferred}{w:World},
 bX gl ⟨tm,hp,df⟩ E ⟨tmps,ds⟩ w→marks df hp=some hp'→(∀w',bX gl ⟨tm,hp',[]⟩ E ⟨tmps,[]⟩ w'→Ext gl.md (Own hp E) E w (Own hp' E) E w'→LeavesIn (Wd gl) 0 P fn tmps R [] .returning w')→LeavesInM (Wd gl) 0 P fn tmps R ds .returning w
 |
  [],tm,hp,hp',E,ds,w,h,hm,hk=>by
  cases hm
  have:ds= []:=by
   have:=h.df
   cases ds with
   |nil=>rfl
   |cons _ _=>trivial
  subst this
  exact hk w h (Ext.refl _ _ _)
 |
  x::l,tm,hp,hp',E,ds,w,h,hm,hk=>by
  cases x with
  |
   mp b=>
   simp only[marks] at hm
   split at hm
   ·rename_i hb
    have hbk:=cC hp b _ hb
    cases ds with
    |nil=>exact h.df.elim
    |
     cons d ds=>
     obtain⟨⟨g,hg,hd⟩,hrest⟩:=h.df
     obtain⟨g',hg',hh⟩:=h.hw.cM b _ hbk
     rw[hg] at hg';cases hg'
     have h0:bX gl ⟨tm,hp,l⟩ E ⟨tmps,ds⟩ w:=⟨h.len,h.tm,h.hw,hrest⟩
     obtain⟨g1,x1⟩:=h0.shut hbk hg (.deferred none)
     refine⟨by simp,Or.inl ⟨g,_,by rw[hd],run_takeDeferred hh,?_⟩⟩
     exact EH l g1 hm (fun w' k1 k2=>hk w' k1 (x1.trans k2))
   ·cases hm
  |_=>simp[marks] at hm
end Go.Ax
namespace Go.Ax
def Ctx.wB(gl:Ctx)(B:(Nat→Prop)→World→Prop)(hB:∀{S S':Nat→Prop}{w w':World},(∀b,S b→w'.heap[b]? =w.heap[b]?)→(∀b,S b→S' b)→B S w→B S' w'):Ctx:=⟨gl.gl,B,hB,none,gl.md⟩
def Ctx.sO(gl:Ctx)(l:Nat):Ctx:=⟨gl.gl,fun _ _=>True,fun _ _ _=>trivial,some l,gl.md⟩
def jmp(jl:List Code):Nat→Option Code
 |0=>none
 |j+1=>jl[j]?
def fF(fn:FuncId)(tmps:Array Value)(ps:Array Tmp)(assign body:Code)(D:Nat)(jl:List Code)(j:Nat):Loop:=
 {state:=if Nat.beq j 0 then .ready else .done,pending:=jmp jl j,fn,tmps,params:=ps,assign,body,defers:=D}
def AV.nT(m:List (Nat×Nat)):AV→Option AV
 | .ptr b p=>(k8 m b).map fun c=>.ptr c p
 | .jy b p lo len=>(k8 m b).map fun c=>.jy c p lo len
 |
  .func fn fs cs=>match fs.nT m,cs.nT m with
  |some f,some c=>if f.atoms&&c.atoms then some (.func fn f c) else none
  |_,_=>none
 |
  .cons a b=>match a.nT m,b.nT m with
  |some x,some y=>some (.cons x y)
  |_,_=>none
 | .val t x=>some (.val t x)
 | .cI t x=>some (.cI t x)
 | .aF=>some .aF
 | .gK=>some .gK
 | .ep=>some .ep
 | .fN=>some .fN
 | .dg f t x=>some (.dg f t x)
 | .hJ=>some .hJ
 | .nil=>some .nil
 |_=>none
structure Vr(m:List (Nat×Nat))(E:Env)(w:World)(E':Env)(w':World):Prop where
 at':∀b c,k8 m b=some c→E'.g c=E.g b∧E'.bt c=E.bt b
 k:bL E w E' w'
theorem AV.EI{m:List (Nat×Nat)}{x y:AV}(h:x.nT m=some y):y.isAgg=x.isAgg:=by
 cases x with
 |ptr b p=>simp only[AV.nT,fL] at h;obtain⟨c,_,rfl⟩:=h;rfl
 |jy b p lo len=>simp only[AV.nT,fL] at h;obtain⟨c,_,rfl⟩:=h;rfl
 |
  func fn fs cs=>
  simp only[AV.nT] at h
  split at h
  ·split at h
   ·cases h;rfl
   grind
  grind
 |
  cons a b=>
  simp only[AV.nT] at h
  split at h
  ·cases h;rfl
  grind
 |_=>simp[AV.nT] at h<;>subst h<;>rfl
theorem RC.nT{m:List (Nat×Nat)}{E E':Env}{w w':World}(r:Vr m E w E' w'):∀{x y:AV}{vs:List Value},x.nT m=some y→RC E w x vs→RC E' w' y vs:=by
 intro x
 induction x with
 |
  ptr b p=>
  intro y vs h hr
  simp only[AV.nT,fL] at h
  obtain⟨c,hc,rfl⟩:=h
  obtain⟨e1,e2⟩:=r.at' b c hc
  obtain⟨g,h1,h2,h3⟩:=hr
  exact⟨g,by grind,by grind,by grind⟩
 |
  jy b p lo len=>
  intro y vs h hr
  simp only[AV.nT,fL] at h
  obtain⟨c,hc,rfl⟩:=h
  obtain⟨e1,e2⟩:=r.at' b c hc
  obtain⟨n,t,h1,h2,h3,a,cap,h4,h5,h6⟩:=hr
  refine⟨n,t,by rw[e2];exact h1,by rw[e2];exact h2,h3,a,cap,h4,h5,h6.imp id ?_⟩<;>grind
 |
  func fn fs cs ih1 ih2=>
  intro y vs h hr
  simp only[AV.nT] at h
  split at h
  ·rename_i f c h1 h2
   split at h
   ·rename_i ha
    cases h
    simp only[aW] at ha
    obtain⟨f',c',e,r1,r2,_,_⟩:=hr
    exact⟨f',c',e,ih1 h1 r1,ih2 h2 r2,ha.1,ha.2⟩
   grind
  grind
 |
  cons a b ih1 ih2=>
  intro y vs h hr
  simp only[AV.nT] at h
  split at h
  ·rename_i x y h1 h2
   cases h
   obtain⟨v1,v2,e,r1,r2⟩:=hr
   exact⟨v1,v2,e,ih1 h1 r1,ih2 h2 r2⟩
  grind
 |val t x=>intro y vs h hr;simp only[AV.nT,dn] at h;subst h;exact RC.mono (a:=.val t x) r.k (fun _ hb=>by cases hb) hr
 |cI t x=>intro y vs h hr;simp only[AV.nT,dn] at h;subst h;exact RC.mono (a:=.cI t x) r.k (fun _ hb=>by cases hb) hr
 |aF=>intro y vs h hr;simp only[AV.nT,dn] at h;subst h;exact hr
 |gK=>intro y vs h hr;simp only[AV.nT,dn] at h;subst h;exact hr
 |ep=>intro y vs h hr;simp only[AV.nT,dn] at h;subst h;exact hr
 |fN=>intro y vs h hr;simp only[AV.nT,dn] at h;subst h;exact hr
 |dg f t x=>intro y vs h hr;simp only[AV.nT,dn] at h;subst h;obtain⟨ha,cs,h1,h2⟩:=hr;exact⟨ha,cs,h1,Rel.mono r.k.w r.k.S h2⟩
 |hJ=>intro y vs h hr;simp only[AV.nT,dn] at h;subst h;exact hr
 |nil=>intro y vs h hr;simp only[AV.nT,dn] at h;subst h;exact hr
 |_=>intro y vs h hr;trivial
theorem RV.nT{m:List (Nat×Nat)}{E E':Env}{w w':World}(r:Vr m E w E' w'){x y:AV}{v:Value}(h:x.nT m=some y)(hr:RV E w x v):RV E' w' y v:=by
 have hp:x.plain=true:=by cases x<;>simp[AV.nT] at h<;>rfl
 have h0:=RV.jD hp hr
 refine RV.ef ?_
 rcases h0 with⟨h1,cs,e,h2⟩|⟨h1,h2⟩
 ·exact Or.inl ⟨by rw[AV.EI h];exact h1,cs,e,RC.nT r h h2⟩
 ·exact Or.inr ⟨by rw[AV.EI h];exact h1,RC.nT r h h2⟩
def Ie(m:List (Nat×Nat)):List AV→List AV
 |[]=>[]
 |x::l=>(match x.nT m with|some y=>y|none=>.bot)::Ie m l
theorem EJ{m:List (Nat×Nat)}:∀{l:List AV},(Ie m l).length=l.length
 |[]=>rfl
 |_::l=>by simp[Ie,EJ (l:=l)]
theorem EK{m:List (Nat×Nat)}:∀{l:List AV}{i:Nat}{y:AV},(Ie m l)[i]? =some y→y= .bot∨∃x,l[i]? =some x∧x.nT m=some y
 |[],i,y,h=>by trivial
 |
  x::l,0,y,h=>by
  simp only[Ie,List.getElem?_cons_zero,dn] at h
  grind
 |
  x::l,i+1,y,h=>by
  simp only[Ie,vu] at h
  simpa using EK h
def rR:List (Nat×AV)→List AV→List AV
 |[],l=>l
 |(t,x)::r,l=>rR r (l.set t x)
theorem AF{E:Env}{w:World}:∀{ps:List Nat}{args:List AV}{vs:List Value}{tm:List AV}{tmps:Array Value},kF E w args vs→tmps.size=tm.length→(∀(i:Nat)(x:AV),tm[i]? =some x→∀v,tmps[i]? =some v→RV E w x v)→
 ((ps.zip vs).foldl (fun t(p:Nat×Value)=>t.setIfInBounds p.1 p.2) tmps).size=(rR (ps.zip args) tm).length∧
 (∀(i:Nat)(x:AV),(rR (ps.zip args) tm)[i]? =some x→∀v,((ps.zip vs).foldl (fun t(p:Nat×Value)=>t.setIfInBounds p.1 p.2) tmps)[i]? =some v→RV E w x v)
 |[],args,vs,tm,tmps,_,hs,ht=>by trivial
 |p::ps,[],[],tm,tmps,_,hs,ht=>by trivial
 |p::ps,[],_::_,tm,tmps,h,hs,ht=>h.elim
 |p::ps,_::_,[],tm,tmps,h,hs,ht=>h.elim
 |
  p::ps,a::args,v::vs,tm,tmps,⟨h1,h2⟩,hs,ht=>by
  simp only[List.zip_cons_cons,List.foldl_cons,rR]
  refine AF h2 (by simp[hs]) ?_<;>grind
def mh(i:Nat):List (Nat×Ty)→Bool
 |[]=>false
 |(j,_)::l=>Nat.beq i j||mh i l
def mB(gs:Nat→Nat)(ti:List (Nat×Ty))(i:Nat):aN→aN
 | .var t v=>if mh i ti then .tv (gs i) t v else .var t v
 |k=>k
def tie(gs:Nat→Nat)(ti:List (Nat×Ty)):Nat→List (Option aN)→List (Option aN)
 |_,[]=>[]
 |s,none::l=>none::tie gs ti (s+1) l
 |s,some k::l=>some (mB gs ti s k)::tie gs ti (s+1) l
theorem nB{gs:Nat→Nat}{ti:List (Nat×Ty)}:∀{l:List (Option aN)}{s:Nat},(tie gs ti s l).length=l.length
 |[],_=>rfl
 |none::l,s=>by simp[tie,nB (l:=l)]
 |some _::l,s=>by simp[tie,nB (l:=l)]
theorem iV{gs:Nat→Nat}{ti:List (Nat×Ty)}:∀{l:List (Option aN)}{s i:Nat}{k:aN},(tie gs ti s l)[i]? =some (some k)→∃k0,l[i]? =some (some k0)∧k=mB gs ti (s+i) k0
 |[],s,i,k,h=>by trivial
 |none::l,s,0,k,h=>by simp[tie] at h
 |some x::l,s,0,k,h=>by simp_all[tie]
 |
  none::l,s,i+1,k,h=>by
  obtain⟨k0,h1,h2⟩:=iV (l:=l) (by simpa[tie] using h)
  exact⟨k0,by simpa using h1,by rw[h2];congr 1;omega⟩
 |
  some x::l,s,i+1,k,h=>by
  obtain⟨k0,h1,h2⟩:=iV (l:=l) (by simpa[tie] using h)
  exact⟨k0,by simpa using h1,by rw[h2];congr 1;omega⟩
theorem yo{gs:Nat→Nat}{ti:List (Nat×Ty)}:∀{l:List (Option aN)}{s i:Nat}{k:aN},l[i]? =some (some k)→(tie gs ti s l)[i]? =some (some (mB gs ti (s+i) k))
 |[],s,i,k,h=>by simp at h
 |none::l,s,0,k,h=>by simp at h
 |some x::l,s,0,k,h=>by simp at h;subst h;rfl
 |
  none::l,s,i+1,k,h=>by
  have:=yo (gs:=gs) (ti:=ti) (s:=s+1) (l:=l) (i:=i) (k:=k) (by grind)
  grind [tie]
 |
  some x::l,s,i+1,k,h=>by
  have:=yo (gs:=gs) (ti:=ti) (s:=s+1) (l:=l) (i:=i) (k:=k) (by grind)
  grind [tie]
theorem RB.Ta{gs:Nat→Nat}{ti:List (Nat×Ty)}{E:Env}{w:World}{i:Nat}{k:aN}(h:RB E w i (mB gs ti i k)):RB E w i k:=by
 cases k with
 |
  var t v=>
  simp only[mB] at h
  split at h
  ·obtain⟨h0,h1,h2,c,e,h4,h5⟩:=h;exact⟨h1,h2,_,c,e,h0,h4,h5⟩
  grind
 |_=>exact h
theorem RB.tie{gs:Nat→Nat}{ti:List (Nat×Ty)}{E:Env}{w:World}{i:Nat}{k:aN}(h:RB E w i k)(hg:mh i ti=true→E.g i=some (gs i)):RB E w i (mB gs ti i k):=by
 cases k with
 |
  var t v=>
  simp only[mB]
  split
  ·rename_i hh
   obtain⟨h1,h2,g,c,e,h3,h4,h5⟩:=h
   have:=hg hh
   rw[this] at h3;cases h3
   exact⟨this,h1,h2,c,e,h4,h5⟩
  grind
 |_=>exact h
def pC(hp:List (Option aN)):List (Nat×Ty)→Bool
 |[]=>true
 |(i,t)::l=>(match hp[i]? with|some (some (.var t' _))=>Ty.same t' t|_=>false)&&Nat.blt i 16&&pC hp l
theorem uv{hp:List (Option aN)}{i:Nat}:∀{ti:List (Nat×Ty)},pC hp ti=true→mh i ti=true→i<16∧∃t v,hp[i]? =some (some (.var t v))∧(i,t)∈ti
 |[],_,h=>by cases h
 |
  (j,t)::l,h,hi=>by
  simp only[pC,aW] at h
  simp only[mh,gi] at hi
  rcases hi with hi|hi
  ·have e:=bP hi;subst e
   refine⟨by simp_all,?_⟩
   grind [Ty.aB]
  ·obtain⟨h1,t',v,h2,h3⟩:=uv h.2 hi
   grind
def Tb(P:Program)(gl:Ctx)(y:Code)(Q:fY→St→Prop):fY→St→Prop
 | .normal,σ=>cZ P gl y σ Q
 |_,_=>False
def Tc(gl:Ctx)(jl:List Code)(j:Nat)(H:List (Option aN)):fY→St→Prop
 | .normal,σ=>j=0∧∃σ' m,Wk gl σ σ'∧prune σ'.hp m=H
 | .ret,σ=>(j≠0∧jmp jl j=some .ret)∧∃σ' m,Wk gl σ σ'∧prune σ'.hp m=H
 | .exit i,σ=>(j≠0∧jmp jl j=some (.exit i))∧∃σ' m,Wk gl σ σ'∧prune σ'.hp m=H
 |_,_=>False
theorem HW.ctx{C C':Ctx}{E:Env}{w:World}{hp:List (Option aN)}(h:HW C E w hp)(hg:C'.gl=C.gl)(hb:C'.B E.S w):HW C' E w hp:=
 ⟨h.cM,h.dW,h.du,h.slt,⟨by rw[hg];exact h.gl.1,hb⟩,h.sh⟩
theorem Ext.add{gl:Ctx}{O O':Nat→Prop}{E E':Env}{w w':World}(h:Ext gl.md O E w O' E' w')(l:Nat):Ext gl.md (fun g=>O g∨g=l) E w (fun g=>O' g∨g=l) E' w' where
 os:=h.os
 tape:=h.tape
 output:=h.output
 size:=h.size
 kept:=fun g hg ho=>h.kept g hg (fun x=>ho (Or.inl x))
 sle:=h.sle
 l9:=fun g hg=>(h.l9 g hg).imp id (fun x=>x.imp Or.inl id)
 own:=fun g hg=>by
  rcases hg with hg|hg
  ·exact(h.own g hg).imp Or.inl id
  grind
 FJ:=h.FJ
theorem Fy.K6{P:Program}{gl:Ctx}{σ:St}{E:Env}{a:Act}{w:World}(hg:bX gl σ E a w){B:(Nat→Prop)→World→Prop}{hB:∀{S S':Nat→Prop}{w w':World},(∀b,S b→w'.heap[b]? =w.heap[b]?)→(∀b,S b→S' b)→B S w→B S' w'}
 (hBu:∀S' w',B S' w'→(∀b,E.S b→S' b)∧(∀b,E.S b→w'.heap[b]? =w.heap[b]?)) {l D k0:Nat} {fn:FuncId} {ps:Array Tmp} {assign body:Code} {gs:Nat→Nat} {ti:List (Nat×Ty)} {m:List (Nat×Nat)} {jl:List Code}
 (hti:∀b i,k8 m b=some i→mh i ti=true∧E.g b=some (gs i)∧∀t,(i,t)∈ti→E.bt b=t)
 {args:List AV} {H H':List (Option aN)} {j:Nat} (hps:ps.size=args.length) (hk:Nat.blt k0 16=true) (hkt:mh k0 ti=false) (h0:H[k0]? =some none) (h0':H'[k0]? =some none) (ht:pC H ti=true) (_ht':pC H' ti=true)
 (ahL:cZ P (gl.sO l) assign ⟨rR (ps.toList.zip args) (Ie m σ.tm),H,[]⟩ (Tb P (gl.sO l) body (Tc (gl.sO l) jl j H'))):
 Fy P (gl.wB B hB) l args ((tie gs ti 0 H).set k0 (some (.lp ⟨l,gs,fF fn a.tmps ps assign body D jl⟩ 0))) (.ret (.val .bool (Nat.beq j 0))) ((tie gs ti 0 H').set k0 (some (.lp ⟨l,gs,fF fn a.tmps ps assign body D jl⟩ j))):=by
 intro E1 w1 vs hv hW
 have hk16:k0<16:=by simp_all
 have lenH:k0<(tie gs ti 0 H).length:=by grind [nB]
 have lenH':k0<(tie gs ti 0 H').length:=by grind [nB]
 have hlp:((tie gs ti 0 H).set k0 (some (.lp ⟨l,gs,fF fn a.tmps ps assign body D jl⟩ 0)))[k0]? =some (some (.lp ⟨l,gs,fF fn a.tmps ps assign body D jl⟩ 0)):=by
  grind
 obtain⟨hgl,hrec⟩:E1.g k0=some l∧w1.heap[l]? =some (.loop (fF fn a.tmps ps assign body D jl 0)):=hW.cM k0 _ hlp
 have at1:∀(i:Nat)(k:aN),H[i]? =some (some k)→i≠k0∧((tie gs ti 0 H).set k0 (some (.lp ⟨l,gs,fF fn a.tmps ps assign body D jl⟩ 0)))[i]? =some (some (mB gs ti i k)):=by
  intro i k hi
  have hne:i≠k0:=fun e=>by grind
  refine⟨hne,?_⟩
  rw[dA,aD (fun e=>hne e.symm)]
  simp_all[yo]
 have hSl:¬E1.S l:=hW.jY k0 _ l hlp hgl
 have hW1:HW (gl.sO l) E1 w1 H:=by
  refine⟨?_,?_,?_,hW.slt,⟨hW.gl.1,trivial⟩,fun i k g hi=>hW.sh i _ g (at1 i k hi).2⟩
  ·intro i k hi;exact(hW.cM i _ (at1 i k hi).2).Ta
  ·intro i i' k k' g hi hi' g1 g2;exact hW.dW i i' _ _ g (at1 i k hi).2 (at1 i' k' hi').2 g1 g2
  ·intro i k g hi g1;exact hW.du i _ g (at1 i k hi).2 g1
 have hOl:¬Own H E1 l:=by
  rintro⟨i,k,hi,hgi⟩
  exact(at1 i k hi).1 (hW.dW i k0 _ _ l (at1 i k hi).2 hlp hgi (Or.inl hgl))
 have hgi:∀i,mh i ti=true→i<16∧E1.g i=some (gs i):=by
  intro i hi
  obtain⟨h1,t,v,h2,_⟩:=uv ht hi
  have:=hW.cM i _ (at1 i _ h2).2
  simp only[mB,hi,bZ] at this
  exact⟨h1,this.1⟩
 obtain⟨b1,b2⟩:=hBu E1.S w1 hW.gl.2
 have hrnp:Vr m E w E1 w1:=by
  refine⟨?_,⟨b2,b1⟩⟩
  intro b i hbi
  obtain⟨c1,c2,c3⟩:=hti b i hbi
  obtain⟨_,t,v,h2,h3⟩:=uv ht c1
  have:=hW1.cM i _ h2
  exact⟨by grind,by rw[this.1,c3 t h3]⟩
 obtain⟨hl,_⟩:=hv.get
 have hframe:bX (gl.sO l) ⟨rR (ps.toList.zip args) (Ie m σ.tm),H,[]⟩ E1 {tmps:=(ps.zip vs.toArray).foldl (fun t (p,v)=>t.setIfInBounds p v) a.tmps,defers:=[]} w1:=by
  have hzip:(ps.zip vs.toArray).foldl (fun t (p,v)=>t.setIfInBounds p v) a.tmps=(ps.toList.zip vs).foldl (fun t(p:Nat×Value)=>t.setIfInBounds p.1 p.2) a.tmps:=by
   rw[←Array.foldl_toList]
   congr 1
   simp
  have:=AF (ps:=ps.toList) (tm:=Ie m σ.tm) (tmps:=a.tmps) hv (by rw[EJ];exact hg.len) (fun i x hx v hv'=>by
   rcases EK hx with e|⟨y,h1,h2⟩
   ·subst e;trivial
   ·exact RV.nT hrnp h2 (hg.tm i y h1 v hv'))
  rw[hzip]
  exact⟨this.1,this.2,hW1,trivial⟩
 refine⟨fn,_,assign,body,run_yield hrec (by simp[fF,←hl,hps]),roundIn_of_wpIn (F:=Fence.wide) trivial ?_⟩
 refine wpIn_mono (ahL E1 _ w1 hframe) ?_
 rintro ex a2 w2 ⟨x,σ2,E2,q1,q2,q3,q4⟩
 cases ex with
 |
  normal=>
  cases x with
  |
   normal=>
   simp only[Exit.then]
   have hlt:l<w1.heap.size:=(Array.getElem?_eq_some_iff.1 hrec).1
   have hrec2:w2.heap[l]? =some (.loop (fF fn a.tmps ps assign body D jl 0)):=by rw[q4.kept l hlt hOl];grind
   have notO:∀{hp:List (Option aN)}{E':Env}{w':World},Ext gl.md (Own H E1) E1 w1 (Own hp E') E' w'→¬Own hp E' l∧¬E'.S l:=by
    intro hp E' w' hx
    constructor
    ·intro ho;rcases hx.own l ho with h|h<;>grind
    ·intro hs;rcases hx.l9 l hs with h|h|h<;>grind
   obtain⟨n1,n2⟩:=notO q4
   refine⟨w2.putObj l (.loop {fF fn a.tmps ps assign body D jl 0 with state:=.busy}),run_beginRound hrec2 rfl,?_⟩
   have g2:=q3.frame (o:=.loop {fF fn a.tmps ps assign body D jl 0 with state:=.busy}) n2 n1
   refine wpIn_mono (q2 E2 a2 _ g2) ?_
   rintro ex a3 w3 ⟨x3,σ3,E3,r1,r2,r3,r4⟩
   have lt2:l<w2.heap.size:=(Array.getElem?_eq_some_iff.1 hrec2).1
   have hbusy:w3.heap[l]? =some (.loop {fF fn a.tmps ps assign body D jl 0 with state:=.busy}):=by
    rw[r4.kept l (by simpa using lt2) n1]
    exact World.putObj_heap_same lt2
   have fin:∀(jump:Option Code),jump=jmp jl j→(jump.isNone=Nat.beq j 0)→(∃σ' mm,Wk (gl.sO l) σ3 σ'∧prune σ'.hp mm=H')→
    ∃v w',(Instr.endRound l jump).run P w3= .ok v w'∧∃E',wI E' w' (.ret (.val .bool (Nat.beq j 0))) (.returned v)∧HW (gl.wB B hB) E' w' ((tie gs ti 0 H').set k0 (some (.lp ⟨l,gs,fF fn a.tmps ps assign body D jl⟩ j)))∧
     Ext gl.md (Own ((tie gs ti 0 H).set k0 (some (.lp ⟨l,gs,fF fn a.tmps ps assign body D jl⟩ 0))) E1) E1 w1 (Own ((tie gs ti 0 H').set k0 (some (.lp ⟨l,gs,fF fn a.tmps ps assign body D jl⟩ j))) E') E' w':=by
    rintro jump hj hjn ⟨σ4,mm,hwk,hpr⟩
    obtain⟨E4,g4,x4⟩:=hwk E3 a3 w3 r3
    have hlt3:l<w3.heap.size:=(Array.getElem?_eq_some_iff.1 hbusy).1
    have hnew:({({fF fn a.tmps ps assign body D jl 0 with state:=.busy}:Loop) with state:=if jump.isNone then .ready else .done,pending:=jump}:Loop)=fF fn a.tmps ps assign body D jl j:=by
     grind [fF]
    have hend:=run_endRound (P:=P) jump hbusy
    rw[hnew,hjn] at hend
    have X:=((((q4.add l).trans (Ext.put (o:=.loop {fF fn a.tmps ps assign body D jl 0 with state:=.busy}) (Or.inr rfl))).trans (r4.add l)).trans (x4.add l)).trans (Ext.put (o:=.loop (fF fn a.tmps ps assign body D jl j)) (Or.inr rfl))
    have w4:HW (gl.sO l) E4 w3 H':=by rw[←hpr];exact g4.hw.prune mm
    have sub4:∀g,Own H' E4 g→Own σ4.hp E4 g:=by
     rintro g ⟨b,k,hb,hgb⟩
     rw[←hpr] at hb
     exact⟨b,k,jF hb,hgb⟩
    have n4:¬Own H' E4 l∧¬E4.S l:=by
     have hx:Ext gl.md (Own H E1) E1 w1 (Own σ2.hp E2) E2 w2:=q4
     obtain⟨m1,m2⟩:=notO hx
     have m3:¬Own σ3.hp E3 l∧¬E3.S l:=by
      constructor
      ·intro ho;rcases r4.own l ho with h|h
       ·grind
       ·simp at h;omega
      ·intro hs;rcases r4.l9 l hs with h|h|h
       ·grind
       ·grind
       ·simp at h;omega
     constructor
     ·intro ho;rcases x4.own l (sub4 l ho) with h|h<;>grind
     ·intro hs;rcases x4.l9 l hs with h|h|h<;>grind
    obtain⟨kp,wf⟩:=w4.frame (o:=.loop (fF fn a.tmps ps assign body D jl j)) n4.2 n4.1
    have gk0:E4.g k0=some l:=by rw[(X.FJ k0 hk16).1];exact hgl
    have at4:∀(i:Nat)(k:aN),((tie gs ti 0 H').set k0 (some (.lp ⟨l,gs,fF fn a.tmps ps assign body D jl⟩ j)))[i]? =some (some k)→(i=k0∧k= .lp ⟨l,gs,fF fn a.tmps ps assign body D jl⟩ j)∨(i≠k0∧∃k',H'[i]? =some (some k')∧k=mB gs ti i k'):=by
     intro i k hi
     rw[dA] at hi
     split at hi
     ·grind
     ·rename_i e
      obtain⟨k',h1,h2⟩:=iV hi
      grind
    have ne4:∀(i:Nat)(k:aN),H'[i]? =some (some k)→¬E4.has i l:=fun i k hi e=>n4.1 ⟨i,k,hi,e⟩
    obtain⟨E5,hE5⟩:∃E5:Env,E5={E4 with P:=fun b g=>b≠k0∧E4.P b g}:=⟨_,rfl⟩
    have e5g:∀b,E5.g b=E4.g b:=fun b=>by rw[hE5]
    have e5S:E5.S=E4.S:=by rw[hE5]
    have e5h:∀b g,E5.has b g→E4.has b g:=fun b g h=>h.imp (fun x=>by grind) (fun x=>by rw[hE5] at x;exact x.2)
    have e5k:∀g,E5.has k0 g→g=l:=fun g h=>by
     rcases h with h|h
     ·grind
     ·rw[hE5] at h;grind
    have kp5:∀w:World,bL E4 w E5 w:=fun w=>⟨fun _ _=>rfl,fun g hg=>by grind⟩
    refine⟨_,_,hend,E5,RV.bool,⟨?_,?_,?_,fun g hg=>wf.slt g (by grind),⟨fun x hx=>?_,?_⟩,?_⟩,?_⟩
    ·intro i k hi
     rcases at4 i k hi with⟨e1,e2⟩|⟨hne,k',h1,h2⟩
     ·subst e1;subst e2
      exact⟨by grind,World.putObj_heap_same hlt3⟩
     ·subst h2
      exact RB.mono (kp5 _) (fun b _=>by rw[hE5];grind) (fun _ _=>rfl) (fun _ g hg=>by rw[hE5];grind) ((wf.cM i k' h1).tie (fun hh=>by obtain⟨c1,c2⟩:=hgi i hh;rw[(X.FJ i c1).1];exact c2))
    ·intro i i' k k' g hi hi' j1 j2
     rcases at4 i k hi with⟨e1,e2⟩|⟨hne,k2,h1,h2⟩
     ·grind
     ·rcases at4 i' k' hi' with⟨e1',e2'⟩|⟨hne',k2',h1',h2'⟩
      ·grind
      ·exact wf.dW i i' k2 k2' g h1 h1' (e5h _ _ j1) (e5h _ _ j2)
    ·intro i k g hi g1
     rw[e5S]
     rcases at4 i k hi with⟨e1,e2⟩|⟨hne,k2,h1,h2⟩
     ·grind
     ·exact wf.du i k2 g h1 (e5h _ _ g1)
    ·obtain⟨y1,y2⟩:=wf.gl.1 x hx
     grind
    ·refine hB ?_ (fun b hb=>by rw[e5S];exact X.sle b hb) hW.gl.2
     intro b hb
     refine X.kept b (hW.slt b hb) ?_
     rintro(⟨i,k,hi,hgi'⟩|e)
     ·exact hW.du i _ b (at1 i k hi).2 hgi' hb
     grind
    ·intro i k g hi g1
     rcases at4 i k hi with⟨e1,e2⟩|⟨hne,k2,h1,h2⟩
     ·subst e1;grind
     ·exact wf.sh i k2 g h1 (by rw[hE5] at g1;grind)
    ·refine⟨X.os,X.tape,X.output,X.size,?_,fun g hg=>by rw[e5S];exact X.sle g hg,?_,?_,fun b hb=>by rw[hE5];exact X.FJ b hb⟩
     ·intro g hgl' ho
      refine X.kept g hgl' ?_
      rintro(⟨i,k,hi,hgi'⟩|e)
      ·exact ho ⟨i,_,(at1 i k hi).2,hgi'⟩
      ·subst e;exact ho ⟨k0,_,hlp,Or.inl hgl⟩
     ·intro g hs
      rw[e5S] at hs
      rcases X.l9 g hs with h|h|h
      ·grind
      ·rcases h with⟨i,k,hi,hgi'⟩|e
       ·exact Or.inr (Or.inl ⟨i,_,(at1 i k hi).2,hgi'⟩)
       grind
      grind
     ·rintro g ⟨i,k,hi,hgi'⟩
      have:Own σ4.hp E4 g∨g=l:=by
       rcases at4 i k hi with⟨e1,e2⟩|⟨hne,k2,h1,h2⟩
       ·grind
       ·exact Or.inl (sub4 g ⟨i,k2,h1,e5h _ _ hgi'⟩)
      rcases X.own g this with h|h
      ·rcases h with⟨i,k,hi,hgi'⟩|e
       ·exact Or.inl ⟨i,_,(at1 i k hi).2,hgi'⟩
       ·subst e;exact Or.inl ⟨k0,_,hlp,Or.inl hgl⟩
      grind
   cases ex with
   |
    normal=>
    cases x3 with
    |normal=>obtain⟨e,hh⟩:=r2;subst e;exact fin none rfl rfl hh
    |_=>trivial
   |
    ret=>
    cases x3 with
    |
     ret=>
     obtain⟨⟨e,e2⟩,hh⟩:=r2
     exact fin (some .ret) e2.symm (by cases j with|zero=>grind|succ j=>rfl) hh
    |_=>trivial
   |
    exit i=>
    cases x3 with
    |
     exit i'=>
     have e0:i'=i:=r1
     subst e0
     obtain⟨⟨e,e2⟩,hh⟩:=r2
     exact fin (some (.exit i')) e2.symm (by cases j with|zero=>grind|succ j=>rfl) hh
    |_=>trivial
   |panic chain=>cases x3<;>first|trivial|trivial
   |goto t=>cases x3<;>exact r1.elim
   |outgrown=>cases x3<;>exact r1.elim
  |_=>trivial
 |ret=>cases x<;>first|trivial|trivial
 |exit i=>cases x<;>first|trivial|trivial
 |panic chain=>cases x<;>first|trivial|trivial
 |goto t=>cases x<;>exact q1.elim
 |outgrown=>cases x<;>exact q1.elim
end Go.Ax
namespace Go.Ax
def Cn(P:Program)(gl:Ctx)(tm:List AV)(ps:Array Tmp)(assign body:Code)(k0:Nat)(ti:List (Nat×Ty))(m:List (Nat×Nat))(jl:List Code)(C:Ctx)(y:YC):Prop:=
 ∀(args:List AV)(H H':List (Option aN))(j:Nat),ps.size=args.length→H[k0]? =some none→H'[k0]? =some none→pC H ti=true→pC H' ti=true→
  cZ P (gl.sO y.l) assign ⟨rR (ps.toList.zip args) (Ie m tm),H,[]⟩ (Tb P (gl.sO y.l) body (Tc (gl.sO y.l) jl j H'))→
  Fy P C y.l args ((tie y.gs ti 0 H).set k0 (some (.lp y 0))) (.ret (.val .bool (Nat.beq j 0))) ((tie y.gs ti 0 H').set k0 (some (.lp y j)))
def Vs(gs:Nat→Nat)(m:List (Nat×Nat))(b:Nat):Nat:=match k8 m b with|some i=>gs i|none=>0
def Td:List (Nat×Nat)→List (Nat×Ty)
 |[]=>[]
 |(b,_)::l=>(b,.unit)::Td l
theorem AG{b:Nat}:∀{m:List (Nat×Nat)},mh b (Td m)=true→∃i,k8 m b=some i
 |[],h=>by cases h
 |
  (c,i)::l,h=>by
  simp only[Td,mh,gi] at h
  unfold k8
  split
  ·grind
  ·rename_i hn
   rcases h with h|h
   ·exact absurd (by rw[bP h];exact Nat.beq_refl c) hn
   ·exact AG h
def Te(hp:List (Option aN))(ti:List (Nat×Ty)):List (Nat×Nat)→Bool
 |[]=>true
 |(b,i)::l=>(match hp[b]? with|some (some (.var t _))=>mh i ti&&(ti.all fun x=> !Nat.beq x.1 i||Ty.same x.2 t)|_=>false)&&Te hp ti l
theorem Ig{hp:List (Option aN)}{ti:List (Nat×Ty)}:∀{m:List (Nat×Nat)},Te hp ti m=true→∀b i,(b,i)∈m→mh i ti=true∧∃t v,hp[b]? =some (some (.var t v))∧∀t',(i,t')∈ti→t'=t
 |[],_,b,i,h=>by cases h
 |
  (c,k)::l,hm,b,i,h=>by
  simp only[Te,aW] at hm
  rcases List.mem_cons.1 h with e|h
  ·cases e
   have h1:=hm.1
   split at h1
   ·rename_i t v hv
    simp only[aW,l4] at h1
    refine⟨h1.1,t,v,hv,fun t' ht'=>?_⟩
    have:=h1.2 _ ht'
    simp at this
    exact Ty.aB this
   grind
  ·exact Ig hm.2 b i h
def Ih:List (Option aN)→List (Option aN)
 |[]=>[]
 |some (.tv _ t v)::l=>some (.var t v)::Ih l
 |x::l=>x::Ih l
theorem j5:∀{l:List (Option aN)}{i:Nat}{k:aN},(Ih l)[i]? =some (some k)→∃k',l[i]? =some (some k')∧(k'=k∨∃g t v,k'= .tv g t v∧k= .var t v)
 |[],i,k,h=>by trivial
 |
  x::l,0,k,h=>by
  unfold Ih at h
  grind
 |
  x::l,i+1,k,h=>by
  unfold Ih at h
  split at h
  ·cases(by assumption:_=_)
  ·rename_i heq;cases heq;simpa using j5 (by simpa using h)
  ·rename_i heq;cases heq;simpa using j5 (by simpa using h)
theorem bX.Ih{gl:Ctx}{σ:St}{E:Env}{a:Act}{w:World}(h:bX gl σ E a w):bX gl {σ with hp:=Ax.Ih σ.hp} E a w∧Ext gl.md (Own σ.hp E) E w (Own (Ax.Ih σ.hp) E) E w:=by
 refine⟨⟨h.len,h.tm,⟨?_,?_,?_,h.hw.slt,h.hw.gl,?_⟩,h.df⟩,{Ext.refl (Own σ.hp E) E w with own:=?_ }⟩
 ·intro b k hb
  obtain⟨k',h1,h2⟩:=j5 hb
  have:=h.hw.cM b k' h1
  rcases h2 with e|⟨g,t,v,e1,e2⟩
  ·grind
  ·subst e1;subst e2
   obtain⟨q0,q1,q2,c,e,q4,q5⟩:=this
   exact⟨q1,q2,g,c,e,q0,q4,q5⟩
 ·intro b b' k k' g hb hb' g1 g2
  obtain⟨k1,h1,_⟩:=j5 hb
  obtain⟨k2,h2,_⟩:=j5 hb'
  exact h.hw.dW b b' k1 k2 g h1 h2 g1 g2
 ·intro b k g hb g1
  obtain⟨k1,h1,_⟩:=j5 hb
  exact h.hw.du b k1 g h1 g1
 ·intro b k g hb g1
  obtain⟨k1,h1,_⟩:=j5 hb
  exact h.hw.sh b k1 g h1 g1
 ·rintro g ⟨b,k,hb,g1⟩
  obtain⟨k1,h1,_⟩:=j5 hb
  exact Or.inl ⟨b,k1,h1,g1⟩
theorem bX.tie{gl:Ctx}{σ:St}{E:Env}{a:Act}{w:World}(h:bX gl σ E a w){gs:Nat→Nat}{ti:List (Nat×Ty)}(hg:∀b,mh b ti=true→E.g b=some (gs b)):bX gl {σ with hp:=Ax.tie gs ti 0 σ.hp} E a w∧Ext gl.md (Own σ.hp E) E w (Own (Ax.tie gs ti 0 σ.hp) E) E w:=by
 refine⟨⟨h.len,h.tm,⟨?_,?_,?_,h.hw.slt,h.hw.gl,?_⟩,h.df⟩,{Ext.refl (Own σ.hp E) E w with own:=?_ }⟩
 ·intro b k hb
  obtain⟨k',h1,h2⟩:=iV hb
  rw[dY] at h2
  subst h2
  exact(h.hw.cM b k' h1).tie (hg b)
 ·intro b b' k k' g hb hb' g1 g2
  obtain⟨k1,h1,_⟩:=iV hb
  obtain⟨k2,h2,_⟩:=iV hb'
  exact h.hw.dW b b' k1 k2 g h1 h2 g1 g2
 ·intro b k g hb g1
  obtain⟨k1,h1,_⟩:=iV hb
  exact h.hw.du b k1 g h1 g1
 ·intro b k g hb g1
  obtain⟨k1,h1,_⟩:=iV hb
  exact h.hw.sh b k1 g h1 g1
 ·rintro g ⟨b,k,hb,g1⟩
  obtain⟨k1,h1,_⟩:=iV hb
  exact Or.inl ⟨b,k1,h1,g1⟩
theorem Co{σ:St}{d e:Nat}{k:aN}(hk:k.ids= [])(h:σ.fresh d)(hne:d≠e):({σ with hp:=σ.hp.set e (some k)}:St).fresh d:=by
 have h1:=lM.1 h.1
 refine⟨lM.2 ⟨h1.1,h1.2.1,?_⟩,?_,h.2.2⟩
 ·grind
 ·intro k' hi
  rw[dA,aD (fun x=>hne x.symm)] at hi
  exact h.2.1 k' hi
def qO(y:YC)(m:List (Nat×Nat))(dI lI:Nat)(hp:List (Option aN)):List (Option aN):=tie (Vs y.gs m) (Td m) 0 ((hp.set dI (some .wu)).set lI (some (.lp y 0)))
structure Vt(σ:St)(y:YC)(m:List (Nat×Nat))(dI lI j:Nat)(cs:AV)(cr:CR)(L:List AV)(ins:List (Nat×Option aN))(hpF:List (Option aN)):Prop where
 hr:cr.r= .gJ .nil
 hL:lV (swp cr.al) (eS (qO y m dI lI σ.hp)) (((.func (.yield y.l) .nil .nil,Ty.unit))::cs.toList.map (fun x=>(x,Ty.unit)))=some (L,[])
 jW:ji (swp cr.al) (eS (qO y m dI lI σ.hp)) cr.ps=some ins
 gL:yg cr []=true
 Vc:((cr.ns.map (·.2)).all (fun b=>({σ with hp:=qO y m dI lI σ.hp,df:=.mp dI::σ.df}:St).fD b))=true
 hF1:(aR (qO y m dI lI σ.hp) (me (cr.al++cr.ns) cr.out (cr.ps++cr.ns)))[lI]? =some (some (.lp y j))
 hF2:Ih ((aR (qO y m dI lI σ.hp) (me (cr.al++cr.ns) cr.out (cr.ps++cr.ns))).set lI none)=hpF
theorem cZ.rangeFunc{P:Program}{gl:Ctx}{σ:St}{Q:fY→St→Prop}{g:Operand}{ps:Array Tmp}{assign body:Code}(hro:gl.ro=none){gf:FuncId}{cs:AV}(hg:bH gl σ.tm g= .func (.func gf) .nil cs)
 (dI lI k0:Nat) (hd:σ.fD dI=true) (hl:σ.fD lI=true) (hne:Nat.beq dI lI=false) (hk:Nat.blt k0 16=true)
 (ti:List (Nat×Ty)) (m:List (Nat×Nat)) (hkt:mh k0 ti=false) (hm:Te σ.hp ti m=true) (hmn:kA (m.map (·.2))=true) (jl:List Code) (hcs:cs.atoms=true)
 (hy:∀y:YC,∃j cr L ins hpF,Vt σ y m dI lI j cs cr L ins hpF∧
  (∀B hB,Cn P gl σ.tm ps assign body k0 ti m jl (gl.wB B hB) y→Fc P (gl.wB B hB) gf L (aR (List.replicate cr.m none) ins) (.ret (.gJ .nil)) (dm cr.m cr.out))∧
  (match jmp jl j with|none=>Q .normal ⟨σ.tm,hpF,.mp dI::σ.df⟩|some c=>cZ P gl c ⟨σ.tm,hpF,.mp dI::σ.df⟩ Q)):cZ P gl (.rangeFunc g ps assign body) σ Q:=by
 intro E a w hG
 refine wpIn_rangeFunc ?_
 intro fn _
 have hfd:=St.dQ hd
 have hfl:=St.dQ hl
 have hnd:lI≠dI:=fun e=>by simp_all
 obtain⟨rec,hrec⟩:∃rec:Nat→Loop,rec=fF fn a.tmps ps assign body w.heap.size jl:=⟨_,rfl⟩
 have hrec0:rec 0={state:=.ready,pending:=none,fn:=fn,tmps:=a.tmps,params:=ps,assign:=assign,body:=body,defers:=w.heap.size}:=by rw[hrec];rfl
 obtain⟨gs,hgs⟩:∃gs:Nat→Nat,gs=fun i=>match k8 (swp m) i with|some b=>(E.g b).getD 0|none=>0:=⟨_,rfl⟩
 obtain⟨j,cr,L,ins,hpF,⟨hr,hL,jW,gL,Vc,hF1,hF2⟩,hit,hq⟩:=hy ⟨w.heap.size+1,gs,rec⟩
 obtain⟨g1,x1⟩:=hG.fresh (w':=w.alloc (.deferred (some []))) hfd (g:=some w.heap.size) (sv:=undef) (t:=.unit) (k:=.wu) rfl (Tp.r rfl rfl) rfl (by simp) (fun i hi=>heap_alloc_old w _ hi) (fun i hi=>by grind)
  ⟨w.heap.size,by simp[Env.at],heap_alloc_new w _⟩
 have hs1:(w.alloc (.deferred (some []))).heap.size=w.heap.size+1:=by simp
 obtain⟨g2,x2⟩:=g1.fresh (w':=(w.alloc (.deferred (some []))).alloc (.loop (rec 0))) (d:=lI) (Co rfl hfl hnd) (g:=some (w.heap.size+1)) (sv:=undef) (t:=.unit) (k:=.lp ⟨w.heap.size+1,gs,rec⟩ 0) rfl (Tp.r rfl rfl) rfl (by simp) (fun i hi=>heap_alloc_old _ _ hi) (fun i hi=>by grind)
  ⟨by simp[Env.at],by have:=heap_alloc_new (w.alloc (.deferred (some []))) (.loop (rec 0));grind⟩
 generalize hw2:(w.alloc (.deferred (some []))).alloc (.loop (rec 0))=w2 at g2 x2
 generalize hE2:(E.at dI (some w.heap.size) undef .unit).at lI (some (w.heap.size+1)) undef .unit=E2 at g2 x2
 have hE2g:∀b,b≠dI→b≠lI→E2.g b=E.g b:=fun b h1 h2=>by rw[←hE2];simp[Env.at,h1,h2]
 have hE2d:E2.g dI=some w.heap.size:=by rw[←hE2];simp[Env.at,Ne.symm hnd]
 have hE2S:E2.S=E.S:=by rw[←hE2];rfl
 have Vi:=x1.trans x2
 have hmu:∀b i,k8 m b=some i→mh i ti=true∧E.g b=some (gs i)∧(∀t,(i,t)∈ti→E.bt b=t)∧b≠dI∧b≠lI:=by
  intro b i hbi
  have hmem:=pt hbi
  obtain⟨h1,t,v,h2,h3⟩:=Ig hm b i hmem
  obtain⟨r1,r2,gg,c,e,r3,_⟩:=hG.hw.cM b _ h2
  have hlk:k8 (swp m) i=some b:=eJ (by grind [fV,swp,Function.comp_def]) (j0.2 hmem)
  refine⟨h1,by grind,fun t' ht'=>by grind,fun e=>?_,fun e=>?_⟩
  ·subst e;exact hfd.2.1 _ h2
  ·subst e;exact hfl.2.1 _ h2
 obtain⟨g3,x3⟩:=g2.tie (gs:=Vs gs m) (ti:=Td m) (by
  grind [AG,Vs])
 have g4:bX gl ⟨σ.tm,qO ⟨w.heap.size+1,gs,rec⟩ m dI lI σ.hp,.mp dI::σ.df⟩ E2 {a with defers:={target:=.collected w.heap.size,args:= #[]}::a.defers} w2:=
  ⟨g3.len,g3.tm,g3.hw,⟨⟨w.heap.size,hE2d,rfl⟩,g3.df⟩⟩
 have hv0:=gF g4 g
 simp only at hv0
 rw[hg] at hv0
 obtain⟨f',c',hev,r1,r2,_,_⟩:=RV.atom rfl hv0
 simp at hev
 have hf':f'= #[]:=by apply l6;exact r1
 subst hf'
 have hav:a.eval g= .func (.func gf) #[] c':=by trivial
 obtain⟨B,hBd⟩:∃B:(Nat→Prop)→World→Prop,B=fun S' w'=>(∀b,E.S b→S' b)∧(∀b,E.S b→w'.heap[b]? =w.heap[b]?):=⟨_,rfl⟩
 have hB:∀{S S':Nat→Prop}{w w':World},(∀b,S b→w'.heap[b]? =w.heap[b]?)→(∀b,S b→S' b)→B S w→B S' w':=by
  simp_all
 have hof:Cn P gl σ.tm ps assign body k0 ti m jl (gl.wB B hB) ⟨w.heap.size+1,gs,rec⟩:=by
  intro args H H' j' h1 h2 h3 h4 h5 h6
  rw[hrec]
  exact Fy.K6 hG (fun S' w' h=>by grind) (fun b i hbi=>⟨(hmu b i hbi).1,(hmu b i hbi).2.1,(hmu b i hbi).2.2.1⟩) h1 hk hkt h2 h3 h4 h5 h6
 obtain⟨ahS,hfn⟩:=hit B hB hof
 have hbb:=cC (qO ⟨w.heap.size+1,gs,rec⟩ m dI lI σ.hp)
 obtain⟨hφ,hwi⟩:=sV (lent:=[]) g4 hbb (fun b hb=>by cases hb) (jW) (gL)
 have hargs:kF E2 w2 ((((.func (.yield (w.heap.size+1)) .nil .nil,Ty.unit))::cs.toList.map (fun x=>(x,Ty.unit))).map (·.1)) (Value.func (.yield (w.heap.size+1)) #[] #[]::c'.toList):=by
  refine⟨RV.ef (Or.inr ⟨rfl, #[], #[],rfl,rfl,rfl,rfl,rfl⟩),?_⟩
  have:=kF.atoms hcs r2
  have e1:∀l:List AV,(l.map (fun x=>(x,Ty.unit))).map (fun x:AV×Ty=>x.1)=l:=by intro l;induction l<;>simp_all
  grind
 have hv:=mw g4.hw hbb hφ (hL) (fun g hg=>hg) hargs
 have hSe:(E2.cX []).S=fun g=>E.S g∨∃b∈([]:List Nat),E2.g b=some g:=by simp only[Env.cX,hE2S]
 have hwB:HW (gl.wB B hB) (E2.to cr.al (E2.cX []).S) w2 (aR (List.replicate cr.m none) (ins)):=by
  refine hwi.ctx rfl ?_
  show B _ w2
  rw[hBd]
  refine⟨fun b hb=>by show(E2.cX []).S b;grind,fun b hb=>?_⟩
  exact Vi.kept b (hG.hw.slt b hb) (fun⟨c,k,hc,hgc⟩=>hG.hw.du c k b hc hgc hb)
 have hcalls:=hfn _ w2 _ hv hwB
 refine⟨w.heap.size+1,[{target:=.collected w.heap.size,args:= #[]}],w2,{target:=.fn (.func gf) c',args:= #[.func (.yield (w.heap.size+1)) #[] #[]]},w2,gf, #[.func (.yield (w.heap.size+1)) #[] #[]]++c',w2,?_,?_,fun _ _=>trivial,?_,fun h=>(by cases h),?_⟩
 ·simp_all[run_enterLoop_outer]
 ·simp only[resolve,hav]
  simp[go_sem]
 ·simp[invoke,ahS]
 ·have e0:(Value.func (.yield (w.heap.size+1)) #[] #[]::c'.toList).toArray= #[.func (.yield (w.heap.size+1)) #[] #[]]++c':=by simp_all
  rw[e0] at hcalls
  have h1:CallsIn Fence.wide 0 P gf _ w2 _:=callsIn_wide.2 hcalls
  refine CallsIn.mono (F:=Wd gl) h1 ?_
  rintro ed w3 ⟨E',hR,hW',hX⟩
  cases ed with
  |panicked ch=>trivial
  |outgrown=>trivial
  |
   returned v=>
   have hWg:HW gl E' w3 (dm cr.m cr.out):=by
    refine hW'.ctx rfl ?_
    have hbs:B E'.S w3:=hW'.gl.2
    rw[hBd] at hbs
    exact gl.mono hbs.2 hbs.1 hG.hw.gl.2
   have hfr:∀b∈cr.ns.map (·.2),(⟨σ.tm,qO ⟨w.heap.size+1,gs,rec⟩ m dI lI σ.hp,.mp dI::σ.df⟩:St).fresh b:=by
    grind [St.dQ]
   have hrr:=hr
   obtain⟨E3,k1,_,k3⟩:=kG (lent:=[]) g4 hbb (fun b hb=>by cases hb) (jW) (gL) hfr hWg hX (r':=.gJ .nil) (by rw[hrr];rfl) (v:=v) (by rw[hrr];exact hR)
   have f1:=hF1;have f2:=hF2
   obtain⟨q1,q2⟩:=k1.hw.cM lI _ f1
   obtain⟨k4,x4⟩:=k1.shut f1 q1 (.loop {rec j with state:=.exhausted})
   obtain⟨k5,x5⟩:=k4.Ih
   simp only[f2] at k5 x5
   have hst:(rec j).state≠.busy:=by rw[hrec];simp only[fF];grind
   refine⟨(rec j).pending,_,run_endLoop q2 hst,?_⟩
   have hpe:(rec j).pending=jmp jl j:=by rw[hrec];rfl
   have X:=(((Vi.trans x3).trans k3).trans x4).trans x5
   generalize hwF:w3.putObj (w.heap.size+1) (.loop {rec j with state:=.exhausted})=wF at k5 X
   generalize (rec j).pending=pe at hpe
   subst hpe
   revert hq
   cases jmp jl j with
   |
    none=>
    intro hq
    exact⟨.normal,_,E3,trivial,hq,k5,X⟩
   |
    some c=>
    intro hq
    refine wpIn_mono (hq E3 _ _ k5) ?_
    rintro ex a5 w5 ⟨x,σ5,E5,z1,z2,z3,z4⟩
    exact⟨x,σ5,E5,z1,z2,z3,X.trans z4⟩
end Go.Ax
namespace Go.Ax
theorem Fc.up{P:Program}{C C':Ctx}{f:FuncId}{A:List AV}{H H':List (Option aN)}{r:vO}(hg:C'.gl=C.gl)(hC:∀S w,C.B S w)(h:Fc P C f A H r H')(hm:C'.md=C.md:=by rfl):Fc P C' f A H r H':=by
 refine⟨h.1,fun E w vs hv hw=>?_⟩
 have:=h.2 E w vs hv (hw.ctx hg.symm (hC _ _))
 intro cs
 obtain⟨e,w',fr,⟨E',r1,r2,r3⟩,rest⟩:=this cs
 rw[←hm] at r3
 exact⟨e,w',fr,⟨E',r1,r2.ctx hg (hw.gj (hw.kept r3)).2,r3⟩,rest⟩
end Go.Ax
noncomputable section
namespace Go.Ax
def y0:YC:=⟨0,fun n=>n,fun _=>default⟩
inductive CF(D T:Type) where
 |bC (f:D→Option T)
 |j4 (s:Sh) (f:D→Option (Sum (prod (s.H [])) T))
def dV{A B R:Type}(x:Option (Sum A B))(kp:A→Option R)(k:B→Option R):Option R:=
 Option.bind x fun r=>match r with
  | .inl a=>kp a
  | .inr b=>k b
theorem GK{A B R:Type}{x:Option (Sum A B)}{kp:A→Option R}{k:B→Option R}{r:R}(h:dV x kp k=some r):(∃a,x=some (.inl a)∧kp a=some r)∨∃b,x=some (.inr b)∧k b=some r:=by
 unfold dV at h
 cases x<;>grind
def CF.run{D T R:Type}:CF D T→D→(T→Option R)→(AV→Option R)→Option R
 | .bC f,d,K,_=>Option.bind (f d) fun r=>K r
 | .j4 s f,d,K,KP=>dV (f d) (fun p=>KP (s.V y0 p)) fun r=>K r
def CF.Tf{D T:Type}:CF D T→D→T→Prop
 | .bC f,d,r=>f d=some r
 | .j4 _ f,d,r=>f d=some (.inr r)
def CF.Tg{D T:Type}:CF D T→D→AV→Prop
 | .bC _,_,_=>False
 | .j4 s f,d,x=>∃p,f d=some (.inl p)∧x=s.V y0 p
theorem CF.AH{D T R:Type}{c:CF D T}{d:D}{K:T→Option R}{KP:AV→Option R}{r:R}(h:c.run d K KP=some r):(∃y,c.Tf d y∧K y=some r)∨∃x,c.Tg d x∧KP x=some r:=by
 cases c with
 |bC f=>obtain⟨y,h1,h2⟩:=bind_some h;exact Or.inl ⟨y,h1,h2⟩
 |
  j4 s f=>
  rcases GK h with⟨p,h1,h2⟩|⟨y,h1,h2⟩
  ·exact Or.inr ⟨_,⟨p,h1,rfl⟩,h2⟩
  ·exact Or.inl ⟨y,h1,h2⟩
structure aX where
 fn:Fn
 A:List Sh
 B:List (Nat×gr)
 m:Nat
 F:SS
 res:F.T→AV
 out:F.T→List (Nat×aN)
 f:CF (prod (sM A (iI B []))) F.T
abbrev aX.D(C:aX):Type:=prod (sM C.A (iI C.B []))
def aX.args(C:aX)(d:C.D):List AV:=yk y0 C.A d
def aX.ins(C:aX)(d:C.D):List (Nat×Option aN):=dj (oi y0 C.B (yl C.A d))
structure aX.holds(P:Program)(gl:Ctx)(C:aX):Prop where
 ret:∀d r,C.f.Tf d r→IE P gl C.fn (C.args d) (aR (List.replicate C.m none) (C.ins d)) (.ret (C.res r)) (dm C.m (C.out r))
 j4:∀d x,C.f.Tg d x→IE P gl C.fn (C.args d) (aR (List.replicate C.m none) (C.ins d)) (.j4 x) (dm C.m [])
def K7:(m:List (Nat×gr))→{l:List Type}→List (Nat×Option aN)→prod l→Option (prod (iI m l))
 |[],_,[],d=>some d
 |
  (i,s)::m,_,(j,some k)::hp,d=>if Nat.beq i j then(match K7 m hp d with
  |some e=>s.G k e
  |none=>none) else none
 |_,_,_,_=>none
theorem yp(y:YC):∀{m:List (Nat×gr)}{l:List Type}{hp:List (Nat×Option aN)}{d:prod l}{e:prod (iI m l)},K7 m hp d=some e→dj (oi y m e)=hp∧SL m e=d
 |
  [],l,hp,d,e,h=>by
  cases hp with
  |nil=>cases h;trivial
  |cons _ _=>trivial
 |
  (i,s)::m,l,hp,d,e,h=>by
  match hp,h with
  |[],h=>trivial
  |(j,none)::hp,h=>trivial
  |
   (j,some k)::hp,h=>
   obtain⟨hs,h0⟩:=bN h
   have:=bP hs;subst this
   split at h0
   ·rename_i e' he
    obtain⟨h1,h2⟩:=yp y he
    obtain⟨g1,g2⟩:=gr.wv y h0
    exact⟨by simp only[oi,dj];rw[g1,g2,h1],by simp only[SL];rw[g2,h2]⟩
   grind
def aX.get(C:aX)(L:List AV)(I:List (Nat×Option aN)):Option C.D:=
 match K7 C.B (l:=[]) I () with
 |some d=>PY C.A L d
 |none=>none
theorem aX.fy{C:aX}{L:List AV}{I:List (Nat×Option aN)}{d:C.D}(h:C.get L I=some d):C.args d=L∧C.ins d=I:=by
 unfold aX.get at h
 split at h
 ·rename_i d1 h1
  obtain⟨a1,a2⟩:=yp y0 h1
  obtain⟨b1,b2⟩:=ym y0 h
  exact⟨b1,by unfold aX.ins;grind⟩
 grind
structure CH where
 SN:List Nat
 ps:List (Nat×Nat)
 ns:List (Nat×Nat)
 ks:List (Nat×Nat):=[]
 us:List Nat:=[]
def CH.al(ch:CH):List (Nat×Nat):=match ch.ks with
 |[]=>ch.ps
 |k::ks=>ch.ps++k::ks
inductive KS where
 |t (s:Nat)
 |c (s:Nat) (p:Path)
def KS.get(σ:St):KS→Option AV
 | .t s=>σ.tm[s]?
 |
  .c s p=>match σ.tm[s]? with
  |
   some (.ptr b q)=>match eS σ.hp b with
   |some (.var _ v)=>v.get (q++p)
   |_=>none
  |_=>none
inductive PF where
 |row (b d:Nat) (k:KS)
 |map (mode b d:Nat) (k:KS)
 |fE (b:Nat)
structure RH where
 pre:List Gh
 zs:List (Nat×Nat×Ty)
 cs:List CH
 mg:Option (List (Nat×Ty)):=none
 foc:List (Nat×Nat):=[]
 pf:List PF:=[]
 post:List Gh:=[]
structure LH where
 S:SS
 fuel:S.T→Nat
structure K8 where
 ic:Nat
 dI:Nat
 lI:Nat
 ti:List (Nat×Ty)
 m:List (Nat×Nat)
 jl:List Code
 ps:List (Nat×Nat)
 ns:List (Nat×Nat)
 S:SS
 E:SS
structure Hs where
 reg:List (Nat×RH)
 join:List (Nat×SS)
 cM:List (Nat×SS)
 loop:List (Nat×LH)
 unr:List (Nat×Nat)
 w6:List (Nat×K8):=[]
def ifs{R:Type}:List VC→Option R→Option R
 |[],x=>x
 |v::l,x=>@ite _ v.p v.d (ifs l x) none
theorem fk{R:Type}{r:R}:∀{l:List VC}{x:Option R},ifs l x=some r→dC l∧x=some r
 |[],x,h=>⟨trivial,h⟩
 |
  v::l,x,h=>by
  unfold ifs at h
  by_cases hp:v.p
  ·rw[@if_pos _ v.d hp] at h
   obtain⟨h1,h2⟩:=fk h
   trivial
  grind
def pD(G:bR)(al ps:List (Nat×Nat))(ev:Operand→AV)(hb:Nat→Option aN)(c:Call):Option (Fn×List AV×List (Nat×Option aN)):=
 match c.callee with
 |
  .value cf=>match HU (ev cf) with
  |
   some (fn,fl,cl)=>
   match lV (swp al) hb (fl.map (fun x=>(x,Ty.unit))++(c.args.toList.zip c.argTypes.toList).map (rM G ev)++cl.map (fun x=>(x,Ty.unit))),ji (swp al) hb ps with
   |some (L,_),some ins=>some (fn,L,ins)
   |_,_=>none
  |_=>none
 |
  .invoke rv name=>match Ew G hb name (ev rv) with
  |
   some (f,x,xt)=>
   match lV (swp al) hb ((x,xt)::(c.args.toList.zip c.argTypes.toList).map (rM G ev)),ji (swp al) hb ps with
   |some (L,_),some ins=>some (.func f,L,ins)
   |_,_=>none
  |_=>none
 |_=>none
def GL(P:Program)(gl:Ctx)(cr:CR)(x:Option (Fn×List AV×List (Nat×Option aN))):Prop:=
 ∀fn L ins,x=some (fn,L,ins)→IE P gl fn L (aR (List.replicate cr.m none) ins) cr.fin (dm cr.m cr.out)
theorem uw{P:Program}{G:bR}{gl:Ctx}{cr:CR}{ev:Operand→AV}{hb:Nat→Option aN}{c:Call}{e:fH}{ob:List Prop}(h:oH P G gl cr ev hb c=some (e,ob))(hob:GL P gl cr (pD G cr.al cr.ps ev hb c)):∀p∈ob,p:=by
 unfold oH at h
 split at h
 ·rename_i cf hcf
  split at h
  ·rename_i fn fl cl hfv
   split at h
   ·rename_i L lent ins r' hL jW hr'
    split at h
    ·cases h
     intro p hp
     simp only[jP] at hp
     subst hp
     refine hob fn L ins ?_
     grind [pD]
    grind
   grind
  grind
 ·rename_i rv name hcf
  split at h
  ·rename_i f x xt hfv
   split at h
   ·rename_i L lent ins r' hL jW hr'
    split at h
    ·cases h
     intro p hp
     simp only[jP] at hp
     subst hp
     refine hob (.func f) L ins ?_
     grind [pD]
    grind
   grind
  grind
 grind
def ux(G:bR)(gl:Ctx)(ops:Array Oper)(al ps:List (Nat×Nat))(z:List (Nat×Ty))(σ:St)(i:Nat):Option (Fn×List AV×List (Nat×Option aN)):=
 match ops[i]? with
 |none=>none
 |
  some o=>match o.op with
  |
   .call c=>match z with
   |[]=>pD G al ps (bH gl σ.tm) (gw (su o.op (bH gl σ.tm)++ps.map (·.2)) σ.hp) c
   |z=>pD G al ps (G3 (gw (ml (bH gl σ.tm) z) σ.hp) z (bH gl σ.tm)) (gw (su o.op (G3 (gw (ml (bH gl σ.tm) z) σ.hp) z (bH gl σ.tm))++ps.map (·.2)) (aR σ.hp (eK (kQ (gw (ml (bH gl σ.tm) z) σ.hp) (bH gl σ.tm) z)))) c
  |_=>none
theorem AI{P:Program}{G:bR}{gl:Ctx}{d:Nat}{cr:CR}{op:Op}{ev:Operand→AV}{hb:Nat→Option aN}{e:fH}{ob:List Prop}(h:mL P G gl d cr op ev hb=some (e,ob)):
 ob= []∨∃c e',op= .call c∧lB op=true∧oH P G gl cr ev hb c=some (e',ob):=by
 unfold mL at h
 split at h
 ·rename_i c
  split at h
  ·simp only[fL,il] at h
   grind
  ·rename_i hb
   simp only[sa] at h
   obtain⟨⟨e',ob'⟩,h,hk⟩:=h
   have:=L7 hk
   simp only at this
   subst this
   refine Or.inr ⟨c,e',rfl,?_,h⟩
   obtain⟨callee,args,tys⟩:=c
   cases callee with
   |builtin b=>grind
   |value _=>rfl
   |invoke _ _=>rfl
 ·simp only[fL,il] at h
  grind
theorem kJ{P:Program}{G:bR}{gl:Ctx}{ops:Array Oper}{cr:CR}{z:List (Nat×Ty)}{σ:St}{i:Nat}{f:aT}{vc:List VC}{ob:List Prop}(h:ee P G gl ops cr z σ i=some (f,vc,ob))(hob:vf ops i=true→GL P gl cr (ux G gl ops cr.al cr.ps z σ i)):∀p∈ob,p:=by
 unfold ee at h
 split at h
 ·cases h
 ·rename_i o ho
  have hat:vf ops i=lB o.op:=by unfold vf;rw[ho]
  split at h
  ·cases h
  ·grind
  ·split at h
   ·split at h
    ·cases h
    ·rename_i e ob' he
     cases h
     rcases AI he with rfl|⟨c,e',hop,hc,he'⟩
     ·grind
     grind [uw,ux]
   ·rename_i hz
    split at h
    ·cases h
    ·rename_i e ob' he
     cases h
     rcases AI he with rfl|⟨c,e',hop,hc,he'⟩
     ·grind
     ·refine uw he' ?_
      simp_all[ux]
def Vd{R:Type}:Fn→Fn→Option R→Option R→Option R
 | .func f,.func g,K,E=>if Nat.beq f g then K else E
 | .yield l,.yield l',K,_=>ifs [vc (l=l')] K
 |_,_,_,E=>E
theorem AJ{R:Type}{f g:Fn}{K E:Option R}{r:R}(h:Vd f g K E=some r):(f=g∧K=some r)∨E=some r:=by
 cases f with
 |
  func f=>
  cases g with
  |
   func g=>
   grind [Vd,bP]
  |_=>exact Or.inr h
 |
  yield l=>
  cases g with
  |
   yield l'=>
   obtain⟨h1,h2⟩:=fk h
   exact Or.inl ⟨by rw[h1.1],h2⟩
  |_=>exact Or.inr h
 |_=>exact Or.inr h
noncomputable def AK(a b:aN){R:Type}(x:Option R):Option R:=@ite _ (some a=some b) (Classical.propDecidable _) x none
theorem iK{a:aN}{R:Type}{x:Option R}:AK a a x=x:=aA rfl
def AL{R:Type}(Γ:List aX)(ps ns ks:List (Nat×Nat))(us:List Nat)(fn:Fn)(L:List AV)(I:List (Nat×Option aN))(K:CR→Option R):List Nat→Option R
 |[]=>none
 |
  c::l=>match Γ[c]? with
  |
   some C=>Vd fn C.fn (match C.get L I with
   |some d=>C.f.run d (fun r=>K ⟨C.res r,ps,ns,C.out r,C.m,false,ks,us⟩) fun x=>K ⟨x,ps,[],[],C.m,true,ks,[]⟩
   |none=>AL Γ ps ns ks us fn L I K l) (AL Γ ps ns ks us fn L I K l)
  |none=>none
def Ii(Γ:List aX)(ch:CH)(x:Option (Fn×List AV×List (Nat×Option aN))){R:Type}(K:CR→Option R):Option R:=
 match x with
 |some (fn,L,I)=>AL Γ ch.ps ch.ns ch.ks ch.us fn L I K ch.SN
 |none=>none
theorem uy{P:Program}{gl:Ctx}{Γ:List aX}(hΓ:∀C∈Γ,C.holds P gl){ps ns ks:List (Nat×Nat)}{us:List Nat}{fn:Fn}{L:List AV}{I:List (Nat×Option aN)}{R:Type}{K:CR→Option R}{r:R}:∀{l:List Nat},AL Γ ps ns ks us fn L I K l=some r→
 ∃cr,K cr=some r∧cr.ps=ps∧cr.ks=ks∧GL P gl cr (some (fn,L,I))
 |[],h=>by cases h
 |
  c::l,h=>by
  unfold AL at h
  split at h
  ·rename_i C hC
   rcases AJ h with⟨hf,h⟩|h
   ·split at h
    ·rename_i d hd
     obtain⟨h1,h2⟩:=aX.fy hd
     have hC:=hΓ C (mU hC)
     have key:∀(cr:CR),K cr=some r→cr.ps=ps→cr.ks=ks→IE P gl C.fn (C.args d) (aR (List.replicate cr.m none) (C.ins d)) cr.fin (dm cr.m cr.out)→∃cr,K cr=some r∧cr.ps=ps∧cr.ks=ks∧GL P gl cr (some (fn,L,I)):=by
      intro cr h hp hk hh
      refine⟨cr,h,hp,hk,?_⟩
      intro fn' L' I' e
      grind
     rcases CF.AH h with⟨y,hy,h⟩|⟨x,hx,h⟩
     ·exact key _ h rfl rfl (hC.ret d y hy)
     ·exact key _ h rfl rfl (hC.j4 d x hx)
    ·exact uy hΓ h
   ·exact uy hΓ h
  grind
theorem Ij{P:Program}{gl:Ctx}{Γ:List aX}(hΓ:∀C∈Γ,C.holds P gl){ch:CH}{x:Option (Fn×List AV×List (Nat×Option aN))}{R:Type}{K:CR→Option R}{r:R}(h:Ii Γ ch x K=some r):
 ∃cr,K cr=some r∧cr.ps=ch.ps∧cr.ks=ch.ks∧GL P gl cr x:=by
 unfold Ii at h
 split at h
 ·exact uy hΓ h
 grind
theorem CH.Pm{ch:CH}{cr:CR}(h1:cr.ps=ch.ps)(h2:cr.ks=ch.ks):cr.al=ch.al:=by
 obtain⟨_,ps,_,_,_,_,ks,_⟩:=cr
 obtain⟨_,ps',_,ks',_⟩:=ch
 cases h1
 cases h2
 trivial
def Th:CR:=⟨.bot,[],[],[],0,false,[],[]⟩
def K9{R:Type}(s:Bool)(f:aT)(K:aT→Option R):Option R:=
 match s with
 |false=>K f
 |
  true=>match f.v with
  | .val .bool e=>if e=true then K {f with v:=.val .bool true} else K {f with v:=.val .bool false}
  |_=>K f
theorem w7{R:Type}{s:Bool}{f:aT}{K:aT→Option R}{r:R}(h:K9 s f K=some r):K f=some r:=by
 unfold K9 at h
 split at h
 ·exact h
 ·split at h
  ·rename_i e he
   obtain⟨rt,rb,fr,dst,v,hw⟩:=f
   grind
  grind
def La{R:Type}:List (Option Nat)→Nat→Int→aT→(aT→Option R)→Option R
 |[],_,_,_,_=>none
 |g::gs,n,e,f,K=>if e=(n:Int) then K {f with v:=Ha g} else La gs (n+1) e f K
def Ik{R:Type}(ok:Bool)(k0:Ty)(k:k0.den)(f:aT)(K:aT→Option R):List (k0.den×AV)→Option R
 |[]=>K {f with v:=okF ok .fN false}
 |x::l=>if aY k0 k x.1=true then K {f with v:=okF ok x.2 true} else Ik ok k0 k f K l
theorem w8{R:Type}{ok:Bool}{k0:Ty}{k:k0.den}{f:aT}{K:aT→Option R}{r:R}:∀{l:List (k0.den×AV)},f.v=lY ok k0 k l→Ik ok k0 k f K l=some r→K f=some r
 |
  [],hv,h=>by
  simp only[lY] at hv
  simp only[Ik] at h
  rw[←hv] at h;exact h
 |
  x::l,hv,h=>by
  simp only[lY] at hv
  simp only[Ik] at h
  split at h
  ·rename_i hb;rw[aA hb] at hv;rw[←hv] at h;exact h
  ·rename_i hb;rw[aD hb] at hv;exact w8 hv h
def Lb{R:Type}(b:Nat)(p:Path):Nat→Nat→Int→aT→(aT→Option R)→Option R
 |0,_,_,_,_=>none
 |m+1,n,e,f,K=>if e=(n:Int) then K {f with v:=.ptr b (p++[.idx n])} else Lb b p m (n+1) e f K
theorem w9{R:Type}{f:aT}{K:aT→Option R}{r:R}{b:Nat}{p:Path}{e:Int}(hv:f.v= .ptr b (p++[.idx e.toNat])):∀{m n:Nat},Lb b p m n e f K=some r→K f=some r
 |0,_,h=>by cases h
 |
  m+1,n,h=>by
  unfold Lb at h
  split at h
  ·rename_i he
   subst he
   rw[fb] at hv
   rw[←hv] at h
   exact h
  ·exact w9 hv h
def Ti(hb:Nat→Option aN)(b:Nat)(p:Path):Option Nat:=
 match hb b with
 |
  some k=>match(jv k).sub p with
  |some (.fns n)=>some n
  |_=>none
 |none=>none
theorem GM{P:Program}{G:bR}{d:Nat}{t:TypeId}{x j:Operand}{ev:Operand→AV}{hb:Nat→Option aN}{r:fH}{b:Nat}{p:Path}{k:IntKind}{e:Int}(h:mK P G d (.indexAddr t x j) ev hb=some r)(hx:ev x= .ptr b p)(hj:ev j= .val (.int k) e):r.v= .ptr b (p++[.idx e.toNat]):=by
 simp only[mK,DI,uc,uT,uV,uW,uX,uY,hx,hj,kr] at h
 split at h
 ·rename_i r' h
  cases h
  rename_i h
  obtain⟨⟨u,vc⟩,h,rfl⟩:=Option.map_eq_some_iff.1 h
  unfold jE at h
  split at h
  ·split at h
   ·grind
   ·grind
   ·grind
   ·grind
   ·rename_i h2
    cases h2
    split at h
    ·split at h
     ·split at h
      ·cases h;rfl
      grind
     grind
    grind
   ·rename_i h2
    cases h2
    split at h
    ·split at h
     ·split at h
      ·cases h;rfl
      grind
     grind
    grind
   ·grind
   grind
  grind
 grind
def P1{R:Type}(gl:Ctx)(ops:Array Oper)(σ:St)(i:Nat)(f:aT)(K:aT→Option R):Option R:=
 match ops[i]? with
 |
  some o=>match o.guard,o.op with
  |
   none,.indexAddr _ x j=>match bH gl σ.tm x,bH gl σ.tm j with
   |
    .ptr b p,.val (.int _) e=>match Ti (eS σ.hp) b p with
    |some n=>Lb b p n 0 e f K
    |none=>K f
   |_,_=>K f
  |
   none,.index _ x j=>match bH gl σ.tm x,bH gl σ.tm j with
   | .val (.fns _) xs,.val (.int _) e=>La xs 0 e f K
   |_,_=>K f
  |
   none,.lookup _ x k ok=>match bH gl σ.tm x with
   |
    .mp b=>match eS σ.hp b with
    |
     some (.ia k0 l)=>match(bH gl σ.tm k).bM k0 with
     |some k'=>Ik ok k0 k' f K l
     |none=>K f
    |_=>K f
   |_=>K f
  |_,_=>K f
 |none=>K f
theorem xa{R:Type}{f:aT}{K:aT→Option R}{r:R}{ys:List (Option Nat)}{e:Int}(hv:f.v=Ha (ys.getD e.toNat none)):∀{xs:List (Option Nat)}{n:Nat},(∀k,ys.getD (n+k) none=xs.getD k none)→La xs n e f K=some r→K f=some r
 |[],_,_,h=>by cases h
 |
  g::gs,n,hx,h=>by
  unfold La at h
  split at h
  ·rename_i he
   subst he
   have:ys.getD n none=g:=by simpa using hx 0
   rw[fb,this] at hv
   rw[←hv] at h
   exact h
  ·refine xa hv (fun k=>?_) h
   have:=hx (k+1)
   rw[show n+1+k=n+(k+1) by omega,this]
   simp
theorem GN{P:Program}{G:bR}{R:Type}{gl:Ctx}{ops:Array Oper}{cr:CR}{σ:St}{i:Nat}{f:aT}{vc:List VC}{ob:List Prop}{K:aT→Option R}{r:R}(hs:ee P G gl ops cr [] σ i=some (f,vc,ob))(h:P1 gl ops σ i f K=some r):K f=some r:=by
 unfold P1 at h
 split at h
 ·rename_i o ho
  split at h
  ·rename_i t x j hg hop
   split at h
   ·rename_i b p k e hx hj
    split at h
    ·rename_i n hn
     have hv:f.v= .ptr b (p++[.idx e.toNat]):=by
      grind [ee,guardOf,mL,fL,GM]
     exact w9 hv h
    grind
   grind
  ·rename_i t x j hg hop
   split at h
   ·rename_i n xs k e hx hj
    have hv:f.v=Ha (xs.getD e.toNat none):=by
     unfold ee at hs
     rw[ho] at hs
     simp only[guardOf,hg,hop] at hs
     simp only[mL,mK,DI,uc,uT,uV,uW,uX,uY,hx,hj] at hs
     split at hs
     ·cases hs
     ·rename_i e' ob' he
      cases hs
      simp only[fL,il] at he
      obtain⟨a,ha,rfl,rfl⟩:=he
      split at ha
      case h_2=>cases ha
      rename_i a' ha'
      cases ha
      simp only[fL] at ha'
      obtain⟨b,hb,rfl⟩:=ha'
      unfold tk at hb
      split at hb
      ·split at hb
       ·grind
       ·rename_i m m' ys k' n' h1 h2 h3
        cases h2;cases h3
        split at hb
        ·cases hb;rfl
        grind
       ·grind
       grind
      grind
    exact xa hv (fun k=>by simp) h
   grind
  ·rename_i t x k ok hg hop
   split at h
   ·rename_i b hx
    split at h
    ·rename_i k0 l hbk
     split at h
     ·rename_i k' hk
      have hv:f.v=lY ok k0 k' l:=by
       grind [ee,guardOf,mL,fL,Ba,eS,gw]
      exact w8 hv h
     grind
    grind
   grind
  grind
 grind
def Tj{R:Type}(gl:Ctx)(ops:Array Oper)(σ:St)(i:Nat)(z:List (Nat×Ty))(f:aT)(K:aT→Option R):Option R:=
 match z with
 |[]=>P1 gl ops σ i f (fun f=>K9 (Jm ops.toList i) f K)
 |_::_=>K9 (Jm ops.toList i) f K
section
variable(P:Program) (G:bR) (gl:Ctx) (Γ:List aX)
def qP(ops:Array Oper)(σ:St)(i:Nat):Bool:=
 match ops[i]? with
 |
  some o=>match guardOf ops σ.tm o with
  |some b=>b
  |none=>false
 |none=>false
def AM(ops:Array Oper){R:Type}(i:Nat)(σ:St)(z:List (Nat×Ty))(x:Option (aT×List VC×List Prop))(K:aT→Option R):Option R:=
 match x with
 |some (f,vcs,_)=>if f.fr.all σ.fD then ifs vcs (Tj gl ops σ i z f K) else none
 |none=>none
def Il(gl:Ctx)(ops:Array Oper)(σ:St)(i:Nat):Option aT:=
 match ops[i]? with
 |
  some o=>match o.guard,o.op with
  |
   none,.panic x=>match bH gl σ.tm x with
   | .iface t v=>some ⟨slotsOf [x],[],[],none,.iface t v,[]⟩
   |_=>none
  |_,_=>none
 |none=>none
def Tk{R:Type}(x:Option (aT×List VC×List Prop))(KP:aT→Option R):Option R:=
 match x with
 |some (f,_,_)=>if f.fr.isEmpty then KP f else none
 |none=>none
def lr(ops:Array Oper)(zs:List (Nat×Nat×Ty)){R:Type}(K:List aT→St→Option R)(KP:List aT→aT→St→Option R):Nat→Nat→List CH→St→List aT→Option R
 |0,_,_,σ,fs=>K fs σ
 |
  n+1,i,cs,σ,fs=>
  if vf ops i&&qP ops σ i then(match cs with
   |
    ch::cs'=>Ii Γ ch (ux G gl ops ch.al ch.ps (PA zs i) σ i) fun cr=>match cr.j4 with
    |false=>AM gl ops i σ (PA zs i) (ee P G gl ops cr (PA zs i) σ i) fun f=>lr ops zs K KP n (i+1) cs' (σ.app f) (f::fs)
    |true=>Tk (ee P G gl ops cr (PA zs i) σ i) fun f=>KP fs f σ
   |[]=>none)
  else match Il gl ops σ i with
  |some f=>KP fs f σ
  |none=>AM gl ops i σ (PA zs i) (ee P G gl ops Th (PA zs i) σ i) fun f=>lr ops zs K KP n (i+1) (if vf ops i then cs.tail else cs) (σ.app f) (f::fs)
end
theorem uz{P:Program}{G:bR}{gl:Ctx}{ops:Array Oper}{cr:CR}{z:List (Nat×Ty)}{σ:St}{i:Nat}{f:aT}{vc:List VC}{ob:List Prop}{o:Oper}(h:ee P G gl ops cr z σ i=some (f,vc,ob))(ho:ops[i]? =some o):f.dst=o.dst:=by
 grind [ee]
theorem AN{P:Program}{G:bR}{gl:Ctx}{ops:Array Oper}{R:Type}{i:Nat}{σ:St}{cr:CR}{z:List (Nat×Ty)}{K:aT→Option R}{r:R}{f:aT}{vc:List VC}{ob:List Prop}(hs:ee P G gl ops cr z σ i=some (f,vc,ob))(h:Tj gl ops σ i z f K=some r):K f=some r:=by
 cases z with
 |nil=>exact w7 (GN hs h)
 |cons _ _=>exact w7 h
theorem uA{P:Program}{G:bR}(T:bD P G){gl:Ctx}{ops:Array Oper}{R:Type}{i:Nat}{σ:St}{cr:CR}{z:List (Nat×Ty)}{K:aT→Option R}{r:R}(ahY:cr.j4=false)(hob:vf ops i=true→GL P gl cr (ux G gl ops cr.al cr.ps z σ i))(h:AM gl ops i σ z (ee P G gl ops cr z σ i) K=some r):
 ∃f,(o9 P gl ops i f σ∧∀o,ops[i]? =some o→f.dst=o.dst)∧(∀d∈f.fr,σ.fresh d)∧K f=some r:=by
 unfold AM at h
 split at h
 ·rename_i f vcs ob hs
  obtain⟨hf,h⟩:=bN h
  grind [fk,kS,kJ,uz,AN,St.dQ]
 grind
theorem Lc{P:Program}{G:bR}{gl:Ctx}{ops:Array Oper}{σ:St}{i:Nat}{cr:CR}{z:List (Nat×Ty)}{f:aT}{vc:List VC}{ob:List Prop}(h:ee P G gl ops cr z σ i=some (f,vc,ob))(hg:qP ops σ i=false):ob= []:=by
 grind [ee,qP]
theorem Im{P:Program}{gl:Ctx}{ops:Array Oper}{σ:St}{i:Nat}{f:aT}(h:Il gl ops σ i=some f):Bd P gl ops i f σ:=by
 unfold Il at h
 split at h
 ·rename_i o ho
  split at h
  ·rename_i x hgd hop
   split at h
   ·rename_i t v hx
    cases h
    intro σ' ha E a w hg K Q hQ
    unfold wpOpIn
    simp only[ho]
    have hw:=fX hg (ops:=ops) (o:=o) (c:=true) (by unfold guardOf;rw[hgd])
    rw[hw]
    simp only[bZ]
    have hv:=gF hg x
    rw[i6 ha (x:=x) (fun t ht=>by grind [slotsOf]),hx] at hv
    obtain⟨u,e,_⟩:=RV.atom rfl hv
    simp at e
    unfold Oper.wpIn
    refine⟨fun _ _=>trivial,?_⟩
    rw[Oper.semAt_eq _ _ _ (by grind)]
    have ahL:(execOp a.eval o).run P w= .halt (.panic (a.eval x)) w:=by
     simp[execOp,hop,e,Instr.panic]
    rw[ahL]
    exact hQ E (a.eval x) w hg hv (Ext.refl _ _ _)
   grind
  grind
 grind
theorem AO{ops:Array Oper}{σ:St}{i:Nat}(h1:vf ops i=true)(h2:qP ops σ i=true):∃o,ops[i]? =some o∧guardOf ops σ.tm o=some true∧lB o.op=true:=by
 grind [qP,vf]
theorem oJ{P:Program}{G:bR}(T:bD P G){gl:Ctx}{Γ:List aX}(hΓ:∀C∈Γ,C.holds P gl){ops:Array Oper}{zs:List (Nat×Nat×Ty)}{R:Type}{K:List aT→St→Option R}{KP:List aT→aT→St→Option R}{r:R}:
 ∀{n i:Nat}{cs:List CH}{σ:St}{fs:List aT},lr P G gl Γ ops zs K KP n i cs σ fs=some r→
  (∃gs σ',qn P gl ops i gs σ σ'∧gs.length=n∧(∀(k:Nat)(f:aT)(o:Oper),gs[k]? =some f→ops[i+k]? =some o→f.dst=o.dst)∧K (gs.reverse++fs) σ'=some r)∨
  ∃gs f σ',qn P gl ops i gs σ σ'∧gs.length<n∧Bd P gl ops (i+gs.length) f σ'∧KP (gs.reverse++fs) f σ'=some r
 |0,i,cs,σ,fs,h=>Or.inl ⟨[],σ,rfl,rfl,(fun k f o h=>by simp at h),h⟩
 |
  n+1,i,cs,σ,fs,h=>by
  unfold lr at h
  have fin:∀{f:aT}{cs':List CH},(o9 P gl ops i f σ∧∀o,ops[i]? =some o→f.dst=o.dst)→(∀d∈f.fr,σ.fresh d)→lr P G gl Γ ops zs K KP n (i+1) cs' (σ.app f) (f::fs)=some r→
   (∃gs σ',qn P gl ops i gs σ σ'∧gs.length=n+1∧(∀(k:Nat)(f:aT)(o:Oper),gs[k]? =some f→ops[i+k]? =some o→f.dst=o.dst)∧K (gs.reverse++fs) σ'=some r)∨
   ∃gs f σ',qn P gl ops i gs σ σ'∧gs.length<n+1∧Bd P gl ops (i+gs.length) f σ'∧KP (gs.reverse++fs) f σ'=some r:=by
   intro f cs' h1 h2 h3
   rcases oJ T hΓ h3 with⟨gs,σ',k1,k2,kd,k3⟩|⟨gs,f',σ',k1,k2,kp,k3⟩
   ·refine Or.inl ⟨f::gs,σ',⟨h1.1,h2,k1⟩,by simp[k2],?_,by simpa using k3⟩<;>grind
   ·exact Or.inr ⟨f::gs,f',σ',⟨h1.1,h2,k1⟩,by grind,by grind,by grind⟩
  split at h
  ·rename_i hcg
   simp only[aW] at hcg
   split at h
   ·rename_i ch cs'
    obtain⟨cr,h,hps,hks,hob⟩:=Ij hΓ h
    split at h
    ·rename_i ahY
     obtain⟨f,h1,h2,h3⟩:=uA T ahY (fun _=>by rw[hps,CH.Pm hps hks];exact hob) h
     grind
    ·rename_i ahY
     unfold Tk at h
     split at h
     ·rename_i f vcs ob hs
      obtain⟨hf,h⟩:=bN h
      obtain⟨o,ho,hgd,hcl⟩:=AO hcg.1 hcg.2
      exact Or.inr ⟨[],f,σ,rfl,by simp,C6 T ahY ho hgd hcl hs (kJ hs (fun _=>by rw[hps,CH.Pm hps hks];exact hob)) (by grind),by grind⟩
     grind
   grind
  ·rename_i hc
   split at h
   ·rename_i f hf
    exact Or.inr ⟨[],f,σ,rfl,by simp,Im hf,by grind⟩
   ·cases ho:vf ops i with
    |
     false=>
     rw[ho] at h
     obtain⟨f,h1,h2,h3⟩:=uA T rfl (fun e=>by grind) h
     grind
    |
     true=>
     rw[ho] at h hc
     have hg:qP ops σ i=false:=by grind
     unfold AM at h
     split at h
     ·rename_i f vcs ob hs
      obtain⟨hf,h⟩:=bN h
      obtain⟨hv,h⟩:=fk h
      refine fin ⟨kS T rfl hs hv (by rw[Lc hs hg];grind),fun o ho=>uz hs ho⟩ ?_ (AN hs h)
      grind [St.dQ]
     grind
section
variable(P:Program) (G:bR) (gl:Ctx)
def nC(ops:Array Oper)(draw:Bool)(z p:Nat)(masks:List Nat){R:Type}(K:List aT→Option R):Nat→Nat→St→List aT→Option R
 |0,_,_,gs=>K gs.reverse
 |
  n+1,j,σ,gs=>if !draw||(masks.getD j 0).testBit p then nC ops draw z p masks K n (j+1) σ (EG z::gs)
  else if vf ops j then none else match ee P G gl ops Th [] σ j with
   |some (f,vcs,_)=>if f.fr.isEmpty&&K4 z [f] then ifs vcs (nC ops draw z p masks K n (j+1) (σ.app f) (f::gs)) else none
   |none=>none
end
theorem oK{P:Program}{G:bR}(T:bD P G){gl:Ctx}{ops:Array Oper}{draw:Bool}{z p:Nat}{masks:List Nat}{R:Type}{K:List aT→Option R}{r:R}:∀{n j:Nat}{σ:St}{gs:List aT},nC P G gl ops draw z p masks K n j σ gs=some r→
 ∃ms σ',(σ.hp[z]? =some (some Ci)→cq (Cj P gl ops z) j ms σ σ')∧ms.length=n∧K4 z ms=true∧K (gs.reverse++ms)=some r
 |0,j,σ,gs,h=>⟨[],σ,fun _=>rfl,rfl,rfl,by simpa[nC] using h⟩
 |
  n+1,j,σ,gs,h=>by
  unfold nC at h
  split at h
  ·obtain⟨ms,σ',h1,h2,h3,h4⟩:=oK T h
   refine⟨EG z::ms,σ',fun hz=>⟨Or.inr ⟨rfl,hz⟩,(fun d hd=>by cases hd),h1 hz⟩,by simp[h2],by simp only[K4,List.all_cons,aW] at h3 ⊢;exact⟨rfl,h3⟩,by simpa using h4⟩<;>grind
  ·split at h
   ·cases h
   ·rename_i ho
    split at h
    ·rename_i f vcs ob hs
     obtain⟨hf,h⟩:=bN h
     obtain⟨hv,h⟩:=fk h
     simp only[aW,List.isEmpty_iff] at hf
     obtain⟨ms,σ',h1,h2,h3,h4⟩:=oK T h
     have hob:=kJ (cr:=Th) hs (fun e=>absurd e ho)
     have hnz:K4 z (f::ms)=true:=by
      simp_all[K4]
     refine⟨f::ms,σ',fun hz=>⟨Or.inl (kS T rfl hs hv hob),(fun d hd=>by grind),h1 ?_⟩,by simp[h2],hnz,by grind⟩
     have hq:cq (fun _ _ _=>True) j [f] σ (σ.app f):=⟨trivial,(fun d hd=>by grind),rfl⟩
     exact cq.at hq hf.2 hz
    grind
def Tl{α:Type}:List (Nat×α)→Nat→Option α
 |[],_=>none
 |(i,x)::l,j=>if Nat.beq i j then some x else Tl l j
def qQ:Code→Option Nat
 | .region id _ _=>some id
 |
  .seq a b=>match qQ a with
  |some i=>some i
  |none=>qQ b
 |
  .cond _ a b=>match qQ a with
  |some i=>some i
  |none=>qQ b
 | .block _ c| .loop c| .scope c=>qQ c
 |_=>none
def Ld{α:Type}(l:List (Nat×α))(c:Code):Option α:=
 match qQ c with
 |some i=>Tl l i
 |none=>none
def aM{U R:Type}(F:(U→Option R)→U→Option R)(n:Nat):U→Option R:=
 @Nat.rec (fun _=>U→Option R) (fun _=>none) (fun _ ih=>F ih) n
def aI{U R:Type}(x:Option (cV U R))(f:U→Option R):Option R:=
 Option.bind x fun o=>match o with
  | .brk d=>f d
  | .ret r=>some r
def cw{U R:Type}(x:Option R):Option (cV U R):=x.map .ret
theorem Cp{U R:Type}{x:Option (cV U R)}{f:U→Option R}{r:R}(h:aI x f=some r):(∃d,x=some (.brk d)∧f d=some r)∨x=some (.ret r):=by
 obtain⟨o,ho,h⟩:=bind_some h
 grind
def Le(ops:Array Oper):Bool:=ops.toList.any fun o=>match o.op with
 | .defer _=>true
 |_=>false
def yq{R:Type}(F:YC→Option R):Option R:=
 @dite _ (∃r,∀y,F y=some r) (Classical.propDecidable _) (fun h=>some h.choose) fun _=>none
theorem GO{R:Type}{F:YC→Option R}{r:R}(h:yq F=some r)(y:YC):F y=some r:=by
 unfold yq at h
 split at h<;>grind
def Pn{R:Type}(a b:YC)(x:Option R):Option R:=@ite _ (a=b) (Classical.propDecidable _) x none
structure IC where
 A:List Sh
 B:List (Nat×gr)
 m:Nat
 k0:Nat
 R:List (Nat×gr)
 SN:Nat→(prod (sM A (iI B []))→Option (gJ (Bool::YC::Nat::iI R [])))→aX
def IC.T(C:IC):List Type:=Bool::YC::Nat::iI C.R []
def IC.Y(C:IC)(l:Nat)(f:prod (sM C.A (iI C.B []))→Option (gJ C.T)):aX:=
 ⟨.yield l,C.A,C.B,C.m,⟨1,C.m,[(0,.val .bool)],(C.k0,.lp)::C.R,[]⟩,fun r=>.val .bool (qF C.T r).1,fun r=>(C.k0,.lp (qF C.T r).2.1 (qF C.T r).2.2.1)::oi y0 C.R (qF C.T r).2.2.2,.bC f⟩
def IC.holds(P:Program)(gl:Ctx)(C:IC):Prop:=∀B hB l f,(C.Y l f).holds P (gl.wB B hB)→(C.SN l f).holds P (gl.wB B hB)
def Cq:Option aN→Bool
 |some (.tv _ _ _)=>true
 |_=>false
def wz:List (Option aN)→Bool
 |[]=>true
 |x::l=> !Cq x&&wz l
theorem EL:∀{l:List (Option aN)},wz l=true→∀(i g:Nat)(t:Ty)(v:AV),l[i]? ≠some (some (.tv g t v))
 |[],_,i,g,t,v=>by simp
 |
  x::l,h,i,g,t,v=>by
  simp only[wz,aW] at h
  cases i with
  |zero=>intro e;simp at e;subst e;exact absurd h.1 (by simp[Cq])
  |succ i=>simpa using EL h.2 i g t v
def Io(y:YC)(ti:List (Nat×Ty))(k0:Nat):Nat→List (Option aN)→Option (List VC×List (Option aN))
 |_,[]=>some ([],[])
 |
  i,x::l=>match Io y ti k0 (i+1) l with
  |none=>none
  |
   some (vs,H)=>if Nat.beq i k0 then(match x with
    |some (.lp y' j)=>some (⟨y'=y,Classical.propDecidable _⟩::vc (j=0)::vs,none::H)
    |_=>none)
   else match x with
    |none=>some (vs,none::H)
    |some (.tv g t v)=>if mh i ti then some (vc (g=y.gs i)::vs,some (.var t v)::H) else none
    |some (.var t v)=>if mh i ti then none else some (vs,some (.var t v)::H)
    |some k=>some (vs,some k::H)
theorem sY{y:YC}{ti:List (Nat×Ty)}{k0:Nat}:∀{X:List (Option aN)}{s:Nat}{vs:List VC}{H:List (Option aN)},Io y ti k0 s X=some (vs,H)→dC vs→
 H.length=X.length∧(∀i,s+i=k0→i<X.length→X[i]? =some (some (.lp y 0))∧H[i]? =some none)∧(∀i,s+i≠k0→X[i]? =(tie y.gs ti s H)[i]?)∧wz H=true
 |[],s,vs,H,h,_=>by cases h;exact⟨rfl,fun i _ hi=>by grind,fun i _=>rfl,rfl⟩
 |
  x::l,s,vs,H,h,hv=>by
  unfold Io at h
  split at h
  ·cases h
  ·rename_i vs' H' hr
   have step:∀{k:Option aN}{k':Option aN},dC vs'→Nat.beq s k0=false→x=k→(∀L,(tie y.gs ti s (k'::L))=k::tie y.gs ti (s+1) L)→Cq k'=false→(k'::H').length=(x::l).length∧(∀i,s+i=k0→i<(x::l).length→(x::l)[i]? =some (some (.lp y 0))∧(k'::H')[i]? =some none)∧(∀i,s+i≠k0→(x::l)[i]? =(tie y.gs ti s (k'::H'))[i]?)∧wz (k'::H')=true:=by
    intro k k' hv' hb hx ht hnt
    obtain⟨h1,h2,h3,h4⟩:=sY hr hv'
    have hne:s≠k0:=fun e=>by rw[e,Nat.beq_refl] at hb;cases hb
    refine⟨by simp[h1],?_,?_,by simp[wz,hnt,h4]⟩
    ·intro i hi hl
     cases i with
     |zero=>exact absurd hi hne
     |succ i=>exact h2 i (by omega) (by simpa using hl)
    ·intro i hi
     rw[ht,hx]
     cases i with
     |zero=>rfl
     |succ i=>simpa using h3 i (by omega)
   split at h
   ·rename_i hb
    have hs:=bP hb
    subst hs
    split at h
    ·rename_i y' j
     cases h
     obtain⟨e1,e2,hv'⟩:=hv
     have e1:y'=y:=e1
     have e2:j=0:=e2
     subst e1;subst e2
     obtain⟨h1,h2,h3,h4⟩:=sY hr hv'
     refine⟨by simp[h1],?_,?_,by simp[wz,Cq,h4]⟩
     ·intro i hi _
      have:i=0:=by omega
      subst this
      exact⟨rfl,rfl⟩
     ·intro i hi
      cases i with
      |zero=>exact absurd rfl hi
      |succ i=>simpa[tie] using h3 i (by omega)
    ·cases h
   ·rename_i hb
    have hb:Nat.beq s k0=false:=by cases hq:Nat.beq s k0 with|false=>rfl|true=>exact absurd hq hb
    split at h
    ·cases h;exact step hv hb rfl (fun L=>rfl) rfl
    ·rename_i g t v
     obtain⟨ht,h⟩:=bN h
     cases h
     obtain⟨e1,hv'⟩:=hv
     have e1:g=y.gs s:=e1
     subst e1
     exact step hv' hb rfl (fun L=>by simp[tie,mB,ht]) rfl
    ·rename_i t v
     split at h
     ·cases h
     ·rename_i ht
      cases h;exact step hv hb rfl (fun L=>by simp[tie,mB,ht]) rfl
    ·rename_i k n1 n2
     cases h
     refine step hv hb rfl (fun L=>?_) ?_
     ·cases k with
      |var t v=>exact absurd rfl (n2 t v)
      |_=>rfl
     ·cases k with
      |tv g t v=>exact absurd rfl (n1 g t v)
      |_=>rfl
def xb(p:Code→Bool):List Code→Nat→Option Nat
 |[],_=>none
 |c::l,n=>if p c then some n else xb p l (n+1)
def Po:Code→Bool
 | .ret=>true
 |_=>false
def Ip(i:Nat):Code→Bool
 | .exit j=>Nat.beq i j
 |_=>false
def P2(jl:List Code):fY→Option Nat
 | .normal=>some 0
 | .ret=>xb Po jl 1
 | .exit i=>xb (Ip i) jl 1
 | .panic _=>none
theorem AP{p:Code→Bool}:∀{l:List Code}{n j:Nat},xb p l n=some j→n≤j∧∃c,l[j -n]? =some c∧p c=true
 |[],_,_,h=>by cases h
 |
  c::l,n,j,h=>by
  unfold xb at h
  split at h
  ·grind
  ·obtain⟨h1,c',h2,h3⟩:=AP h
   grind
theorem xc{p:Code→Bool}{jl:List Code}{j:Nat}(h:xb p jl 1=some j):j≠0∧∃c,jmp jl j=some c∧p c=true:=by
 obtain⟨h1,c,h2,h3⟩:=AP h
 refine⟨by omega,c,?_,h3⟩
 cases j with
 |zero=>omega
 |succ j=>trivial
def P3{R:Type}(c:Code)(σ:St)(k:fY→St→Option R):Option R:=
 match c with
 | .ret=>k .ret σ
 | .exit i=>k (.exit i) σ
 |_=>none
def Lf{R:Type}(σ:St)(k:fY→St→Option R)(j:Nat):List Code→Nat→Option R
 |[],_=>none
 |c::l,n=>if j=n then P3 c σ k else Lf σ k j l (n+1)
def P4{R:Type}(jl:List Code)(j:Nat)(σ:St)(k:fY→St→Option R):Option R:=if j=0 then k .normal σ else Lf σ k j jl 1
theorem EM{R:Type}{σ:St}{k:fY→St→Option R}{j:Nat}{r:R}:∀{l:List Code}{n:Nat},Lf σ k j l n=some r→n≤j∧∃c,l[j -n]? =some c∧P3 c σ k=some r
 |[],_,h=>by cases h
 |
  c::l,n,h=>by
  unfold Lf at h
  split at h
  ·grind
  ·obtain⟨h1,c',h2,h3⟩:=EM h
   grind
theorem Lg{P:Program}{gl:Ctx}{R:Type}{jl:List Code}{j:Nat}{σ:St}{k:fY→St→Option R}{r:R}(h:P4 jl j σ k=some r):match jmp jl j with
 |none=>k .normal σ=some r
 |some c=>cZ P gl c σ (fun e σ'=>k e σ'=some r):=by
 unfold P4 at h
 split at h
 ·rename_i hj;subst hj;exact h
 ·obtain⟨h1,c,h2,h3⟩:=EM h
  have hj:jmp jl j=some c:=by
   cases j with
   |zero=>omega
   |succ j=>simpa[jmp] using h2
  rw[hj]
  simp only
  unfold P3 at h3
  split at h3
  ·exact cZ.ret h3
  ·exact cZ.exit h3
  ·cases h3
def Iq(y:YC)(rh:K8)(C:IC):fY→St→Option (gJ (Nat::iI C.R [])):=fun e σ=>
 match P2 rh.jl e,rh.E.sW σ with
 |
  some j,some u=>if wz (rh.E.st y0 u).hp&&Nat.ble C.m (rh.E.st y0 u).hp.length then(match S5 C.R (l:=[]) (tie y.gs rh.ti 0 (rh.E.st y0 u).hp) () with
  |some e=>some (Ph (Nat::iI C.R []) (j,e))
  |none=>none) else none
 |_,_=>none
def SO(y:YC)(rh:K8)(C:IC)(ps:Array Tmp)(σ:St)(wA wB:St→(fY→St→Option (gJ (Nat::iI C.R [])))→Option (gJ (Nat::iI C.R []))):prod (sM C.A (iI C.B []))→Option (gJ C.T):=fun d=>
 match Io y rh.ti C.k0 0 (aR (List.replicate C.m none) (dj (oi y0 C.B (yl C.A d)))) with
 |
  some (vcs,H0)=>ifs vcs (if Nat.beq ps.size (yk y0 C.A d).length&&pC H0 rh.ti then(Option.bind (wA ⟨rR (ps.toList.zip (yk y0 C.A d)) (Ie rh.m σ.tm),H0,[]⟩ (fun e σ1=>match e with
  | .normal=>wB σ1 (Iq y rh C)
  |_=>none)) fun r=>match Io y rh.ti C.m 0 (dm C.m (oi y0 C.R (qF (Nat::iI C.R []) r).2)) with
  |some (vs,H1)=>ifs vs (if pC H1 rh.ti then some (Ph C.T (Nat.beq (qF (Nat::iI C.R []) r).1 0,y,(qF (Nat::iI C.R []) r).1,(qF (Nat::iI C.R []) r).2)) else none)
  |none=>none) else none)
 |none=>none
def P5(σ:St)(rh:K8)(C:IC)(cs:AV):Bool:=
 σ.fD rh.dI&&σ.fD rh.lI&& !Nat.beq rh.dI rh.lI&&Nat.blt C.k0 16&&Nat.blt C.k0 C.m&& !mh C.k0 rh.ti&&Te σ.hp rh.ti rh.m&&kA (rh.m.map (·.2))&&cs.atoms&&C.R.all fun x=> !Nat.beq x.1 C.k0
def Pp(σ:St)(y:YC)(rh:K8)(cr:CR){R:Type}(k:fY→St→Option R):Option R:=
 match cr.r with
 |
  .gJ .nil=>if yg cr []&&((cr.ns.map (·.2)).all (fun b=>({σ with hp:=qO y rh.m rh.dI rh.lI σ.hp,df:=.mp rh.dI::σ.df}:St).fD b)) then(match(aR (qO y rh.m rh.dI rh.lI σ.hp) (me (cr.al++cr.ns) cr.out (cr.ps++cr.ns)))[rh.lI]? with
  |some (some (.lp y' j))=>ifs [⟨y'=y,Classical.propDecidable _⟩] (P4 rh.jl j ⟨σ.tm,Ih ((aR (qO y rh.m rh.dI rh.lI σ.hp) (me (cr.al++cr.ns) cr.out (cr.ps++cr.ns))).set rh.lI none),.mp rh.dI::σ.df⟩ k)
  |_=>none) else none
 |_=>none
def P6(σ:St)(y:YC)(rh:K8)(gf:FuncId)(cs:AV)(C2:aX){R:Type}(k:fY→St→Option R):Option R:=
 match lV (swp rh.ps) (eS (qO y rh.m rh.dI rh.lI σ.hp)) (((.func (.yield y.l) .nil .nil,Ty.unit))::cs.toList.map (fun x=>(x,Ty.unit))),ji (swp rh.ps) (eS (qO y rh.m rh.dI rh.lI σ.hp)) rh.ps with
 |
  some (L,[]),some ins=>Vd (.func gf) C2.fn (match C2.get L ins with
  |some d=>C2.f.run d (fun r=>Pp σ y rh ⟨C2.res r,rh.ps,rh.ns,C2.out r,C2.m,false,[],[]⟩ k) (fun _=>none)
  |none=>none) none
 |_,_=>none
section
variable(P:Program) (G:bR) (gl:Ctx) (fr:Bool) (H:Hs) (Γ:List aX)
def forget:List Oper→List AV→List AV
 |[],tm=>tm
 |
  o::l,tm=>forget l (match o.dst with
  |some d=>tm.set d .bot
  |none=>tm)
def P7:List (Nat×Ty)→List Type
 |[]=>[]
 |(_,t)::l=>t.den::P7 l
def Ve:(l:List (Nat×Ty))→List AV→Option (prod (P7 l))
 |[],_=>some ()
 |
  (i,t)::l,tm=>match tm[i]? with
  |
   some (.val u x)=>if h:Ty.same u t=true then(match Ve l tm with
   |some d=>some (pB h x,d)
   |none=>none) else none
  |_=>none
def Vf:(l:List (Nat×Ty))→prod (P7 l)→List (Nat×AV)
 |[],_=>[]
 |(i,t)::l,d=>(i,.val t d.1)::Vf l d.2
def Tm(ops:Array Oper)(l:List (Nat×Ty))(σ:St)(t:gJ (P7 l)):St:={σ with tm:=mA (Vf l (qF (P7 l) t)) (forget ops.toList σ.tm)}
def Ty.P8:(t:Ty)→DecidableEq t.den
 | .int _=>inferInstanceAs (DecidableEq Int)
 | .bool=>inferInstanceAs (DecidableEq Bool)
 | .str=>inferInstanceAs (DecidableEq (List UInt8))
 | .arr _ t=>@instDecidableEqList _ t.P8
 | .slice _ t=>@instDecidableEqList _ t.P8
 | .pair a b=>@instDecidableEqProd _ _ a.P8 b.P8
 | .unit=>inferInstanceAs (DecidableEq Unit)
 | .aP _=>inferInstanceAs (DecidableEq Unit)
 | .fns _=>inferInstanceAs (DecidableEq (List (Option Nat)))
 | .map k v=>@Option.instDecidableEq _ (@instDecidableEqList _ (@instDecidableEqProd _ _ k.P8 v.P8))
def sZ:Path→Path→Bool
 |[],[]=>true
 | .cF a::p,.cF b::q=>Nat.beq a b&&sZ p q
 |_,_=>false
theorem uB:∀{p q:Path},sZ p q=true→p=q
 |[],[],_=>rfl
 |
  .cF a::p,.cF b::q,h=>by
  simp only[sZ,aW] at h
  rw[bP h.1,uB h.2]
def Ir:AV→AV→Option (List VC)
 | .val t x,.val u y=>if h:Ty.same u t=true then some [⟨x=pB h y,t.P8 _ _⟩] else none
 | .aF,.aF=>some []
 | .own b,.own c=>if Nat.beq b c then some [] else none
 | .ptr b p,.ptr c q=>if Nat.beq b c&&sZ p q then some [] else none
 |_,_=>none
def EN{R:Type}(ops:Array Oper)(σ:St)(fs:List aT)(j:Nat)(K:Option R):List Nat→Option R
 |[]=>K
 |
  i::l=>if vf ops i then none else match fs[i]?,ee P G gl ops Th [] (cQ (fun x=>decide (x<j+1)) 0 fs σ) i with
  |
   some f,some (g,vcs,_)=>match Ir f.v g.v with
   |some vs=>if f.hw.isEmpty&&g.hw.isEmpty&&f.fr.isEmpty&&g.fr.isEmpty&&decide (f.rt=g.rt)&&decide (f.rb=g.rb)&&decide (f.dst=g.dst) then ifs (vcs++vs) (EN ops σ fs j K l) else none
   |none=>none
  |_,_=>none
def Is{R:Type}(lt:Option (List Nat×Nat))(ops:Array Oper)(σ:St)(fs:List aT)(K:Option R):Option R:=
 match lt with
 |none=>K
 |some (l,j)=>EN P G gl ops σ fs j K l
def Lh{R:Type}(lt:Option (List Nat×Nat))(ops:Array Oper)(draw:Bool)(σ:St)(k:St→Option R)(fs:List aT)(σ':St):Option R:=
 if draw then(if ma lt ops fs.reverse&&jd σ fs.reverse then Is P G gl lt ops σ fs.reverse (k σ') else none) else k σ'
def GP(fs:List aT):Bool:=fs.all fun f=>f.hw.isEmpty
def It{R:Type}(ops:Array Oper)(draw:Bool)(σ:St)(k:fY→St→Option R)(fs:List aT)(f:aT)(σp:St):Option R:=
 if Nat.blt (σ.hp.length -1) σ.hp.length&&f.v.plain then
  nC P G gl ops draw (σ.hp.length -1) fs.length (if draw then rC ops.toList [] else[]) (fun gs=>
   if draw then(if ma none ops (jH fs.reverse f (σ.hp.length -1) gs)&&jd σ (jH fs.reverse f (σ.hp.length -1) gs) then k (.panic f.v) (ur fs.reverse f (σ.hp.length -1) gs σ) else none)
   else k (.panic f.v) (ur fs.reverse f (σ.hp.length -1) gs σ)) (ops.size -fs.length -1) (fs.length+1) (σp.app (uq f (σ.hp.length -1))) [] else none
def Cr(ops:Array Oper)(draw:Bool)(σ:St):Option St:=
 match draw,ops with
 |
  false,⟨[o0,o1]⟩=>if lB o0.op then none else match ee P G gl ops Th [] σ 0 with
  |
   some (f,[],_)=>match f.fr.all σ.fD,o1.op,o1.guard,o1.dst with
   |
    true,.defer {callee:=.value x,args:=⟨[]⟩,argTypes:=⟨[]⟩},none,none=>match bH gl (σ.app f).tm x with
    | .func fn .nil cs=>some {σ.app f with df:=.func fn .nil cs::(σ.app f).df}
    |_=>none
   |_,_,_,_=>none
  |_=>none
 |_,_=>none
def Cs(ops:Array Oper):Option (Nat×Nat×Nat):=
 match ops with
 |
  ⟨[o0,o1]⟩=>match o0.op,o0.guard,o0.dst,o1.op,o1.guard,o1.dst with
  | .next (.tmp s) false,none,some d,.extract (.tmp d') 0,none,some d1=>if Nat.beq d' d then some (s,d,d1) else none
  |_,_,_,_,_,_=>none
 |_=>none
def Iu(s d d1:Nat){R:Type}(σ:St)(k:fY→St→Option R):Option R:=
 match σ.tm[s]? with
 |
  some (.ptr b [])=>match eS σ.hp b with
  |
   some (.mf kt vt rest _)=>if Nat.blt d σ.tm.length then(if rest.isEmpty=true then k .normal ((σ.put (some d) .bot).put (some d1) (.val .bool false))
   else GI rest fun x l=>k .normal ((({σ with hp:=σ.hp.set b (some (.mf kt vt l (some x)))}:St).put (some d) .bot).put (some d1) (.val .bool true))) else none
  |_=>none
 |_=>none
def pE(ops:Array Oper)(draw:Bool)(zs:List (Nat×Nat×Ty))(cs:List CH)(mg:Option (List (Nat×Ty)))(lt:Option (List Nat×Nat)){R:Type}(σ:St)(k:fY→St→Option R):Option R:=
 if Le ops then(if fr then(match Cr P G gl ops draw σ with
  |some σ'=>k .normal σ'
  |none=>none) else none) else
 match if draw then none else Cs ops with
 |some (s,d,d1)=>Iu s d d1 σ k
 |none=>match mg with
 |none=>lr P G gl Γ ops zs (Lh P G gl lt ops draw σ (k .normal)) (It P G gl ops draw σ k) ops.size 0 cs σ []
 |some l=>Option.bind (lr P G gl Γ ops zs (fun fs σ'=>if GP fs then Lh P G gl lt ops draw σ (fun σ'=>(Ve l σ'.tm).map (Ph (P7 l))) fs σ' else none) (fun _ _ _=>none) ops.size 0 cs σ []) fun d=>k .normal (Tm ops l σ d)
def Iv{R:Type}:List (Nat×Nat)→St→(St→Option R)→Option R
 |[],σ,K=>K σ
 |
  (b,s)::l,σ,K=>match σ.tm[s]?,eS σ.hp b with
  |
   some (.val (.int _) n),some (.row _ _ _ xs)=>ifs [vc (0≤n),vc (n<xs.length)] (match xw b n.toNat σ with
   |some σ'=>Iv l σ' K
   |none=>none)
  |
   some (.ptr c [.idx i]),some (.row _ _ _ _)=>if Nat.beq c b then(match xw b i σ with
   |some σ'=>Iv l {σ' with tm:=σ'.tm.set s (.ptr b [.cF 1])} K
   |none=>none) else none
  |_,_=>none
def Pq{R:Type}:List PF→St→(St→Option R)→Option R
 |[],σ,K=>K σ
 |
  .row b d k::l,σ,K=>match k.get σ,eS σ.hp b with
  |
   some (.val (.int _) n),some (.da _ _ _ xs _ _)=>ifs [vc (0≤n),vc (n<xs.length)] (match Jr b n.toNat d σ with
   |some σ'=>Pq l σ' K
   |none=>none)
  |_,_=>none
 |
  .map mode b d k::l,σ,K=>match k.get σ with
  |
   some (.val t x)=>match Jt mode b d t x σ with
   |some (vcs,σ')=>ifs vcs (Pq l σ' K)
   |none=>none
  |_=>none
 |
  .fE b::l,σ,K=>match oV b σ with
  |some σ'=>Pq l σ' K
  |none=>none
def Pr{R:Type}(l:List Gh)(k:fY→St→Option R):fY→St→Option R
 |
  .normal,σ=>match SI l σ with
  |some σ'=>k .normal σ'
  |none=>none
 |e,σ=>k e σ
def dig:Nat→Nat→List Nat
 |0,_=>[]
 |
  n+1,c=>match c with
  |0=>[]
  |c=>(c % 1000 -1)::dig n (c / 1000)
def ltOf(H:Hs)(id:Nat):Option (List Nat×Nat):=match Tl H.unr (1000000+id) with
 |some c=>some (dig 9 (c / 1000),c % 1000 -1)
 |none=>none
def yr(id:Nat)(ops:Array Oper)(draw:Bool){R:Type}(σ:St)(k:fY→St→Option R):Option R:=
 match Tl H.reg id with
 |none=>pE P G gl fr Γ ops draw [] [] none (ltOf H id) σ k
 |
  some rh=>match SI rh.pre σ with
  |some σ0=>Iv rh.foc σ0 fun σ0=>Pq rh.pf σ0 fun σ0=>pE P G gl fr Γ ops draw rh.zs rh.cs rh.mg (ltOf H id) σ0 (Pr rh.post k)
  |none=>none
def toJ{R:Type}(S:SS)(k:fY→St→Option R):fY→St→Option (cV S.T R)
 | .normal,σ=>(S.sW σ).map .brk
 |e,σ=>cw (k e σ)
def toB{R:Type}(id:Nat)(S:SS)(k:fY→St→Option R):fY→St→Option (cV S.T R)
 | .normal,σ=>(S.sW σ).map .brk
 | .exit i,σ=>if Nat.beq i id then(S.sW σ).map .brk else cw (k (.exit i) σ)
 |e,σ=>cw (k e σ)
def unB{R:Type}(id:Nat)(k:fY→St→Option R):fY→St→Option R
 | .exit i,σ=>if Nat.beq i id then k .normal σ else k (.exit i) σ
 |e,σ=>k e σ
def EO{R:Type}(w:St→(fY→St→Option R)→Option R)(k:fY→St→Option R):Nat→St→Option R
 |0,_=>none
 |
  n+1,σ=>w σ fun e σ'=>match e with
  | .normal=>EO w k n σ'
  |e=>k e σ'
end
section
variable(P:Program) (G:bR) (I:List IC) (H:Hs) (Γ:List aX)
def walk:Code→Ctx→Bool→{R:Type}→St→(fY→St→Option R)→Option R
 | .skip,_,_,_,σ,k=>k .normal σ
 | .label _,_,_,_,σ,k=>k .normal σ
 | .scope c,gl,fr,_,σ,k=>walk c gl fr σ k
 | .exit i,_,_,_,σ,k=>k (.exit i) σ
 | .ret,_,_,_,σ,k=>k .ret σ
 | .region id ops draw,gl,fr,_,σ,k=>yr P G gl fr H Γ id ops draw σ k
 |
  .seq x z,gl,fr,_,σ,k=>match Ld H.join z with
  |
   none=>walk x gl fr σ fun e σ'=>match e with
   | .normal=>walk z gl fr σ' k
   |e=>k e σ'
  |some S=>aI (walk x gl fr σ (toJ S k)) fun d=>walk z gl fr (S.st y0 d) k
 |
  .cond c x z,gl,fr,_,σ,k=>match bH gl σ.tm c with
  | .val .bool b=>if b=true then walk x gl fr σ k else walk z gl fr σ k
  |_=>none
 |
  .block id c,gl,fr,_,σ,k=>match Tl H.cM id with
  |none=>walk c gl fr σ (unB id k)
  |some S=>aI (walk c gl fr σ (toB id S k)) fun d=>k .normal (S.st y0 d)
 |
  .loop c,gl,fr,_,σ,k=>match Ld H.unr c with
  |some n=>EO (fun σ k=>walk c gl fr σ k) k n σ
  |
   none=>match Ld H.loop c with
   |none=>none
   |
    some L=>match L.S.sW σ with
    |none=>none
    |
     some u=>aM (fun rec u=>walk c gl fr (L.S.st y0 u) fun e σ'=>match e with
     | .normal=>Option.bind (L.S.sW σ') rec
     |e=>k e σ') (L.fuel u) u
 |
  .rangeFunc g ps assign body,gl,fr,_,σ,k=>if fr then(match Ld H.w6 body with
  |none=>none
  |
   some rh=>match I[rh.ic]?,rh.S.sW σ with
   |
    some C,some u=>match bH gl (rh.S.st y0 u).tm g with
    |
     .func (.func gf) .nil cs=>if P5 (rh.S.st y0 u) rh C cs then
      yq fun y=>P6 (rh.S.st y0 u) y rh gf cs (C.SN y.l (SO y rh C ps (rh.S.st y0 u) (fun σ1 k1=>walk assign (gl.sO y.l) false σ1 k1) (fun σ1 k1=>walk body (gl.sO y.l) false σ1 k1))) k
     else none
    |_=>none
   |_,_=>none) else none
 |_,_,_,_,_,_=>none
end
theorem uC:∀{l:List Oper}{tm:List AV},(forget l tm).length=tm.length
 |[],_=>rfl
 |
  o::l,tm=>by
  unfold forget
  rw[uC]
  split<;>simp
theorem uD{i:Nat}{x:AV}:∀{l:List Oper}{tm:List AV},(forget l tm)[i]? =some x→x= .bot∨(tm[i]? =some x∧∀o∈l,o.dst≠some i)
 |[],_,h=>Or.inr ⟨h,fun _ ho=>by cases ho⟩
 |
  o::l,tm,h=>by
  unfold forget at h
  rcases uD h with h|⟨h,hl⟩<;>grind
theorem Iw:∀{l:List (Nat×Ty)}{tm:List AV}{d:prod (P7 l)},Ve l tm=some d→∀i x,(i,x)∈Vf l d→tm[i]? =some x
 |[],_,_,_,i,x,hx=>by cases hx
 |
  (j,t)::l,tm,d,h,i,x,hx=>by
  unfold Ve at h
  split at h
  ·rename_i u z hz
   split at h
   ·rename_i hs
    split at h
    ·rename_i d' hd'
     cases h
     simp only[Vf,fa,il] at hx
     rcases hx with⟨rfl,rfl⟩|hx
     ·rw[hz,wW hs]
     ·exact Iw hd' i x hx
    grind
   grind
  grind
theorem AQ{P:Program}{gl:Ctx}{ops:Array Oper}:∀{fs:List aT}{i:Nat}{σ σ':St},qn P gl ops i fs σ σ'→GP fs=true→(∀(k:Nat)(f:aT)(o:Oper),fs[k]? =some f→ops[i+k]? =some o→f.dst=o.dst)→i+fs.length≤ops.size→
 σ'.hp=σ.hp∧σ'.df=σ.df∧σ'.tm.length=σ.tm.length∧∀t,(∀o∈ops.toList,o.dst≠some t)→σ'.tm[t]? =σ.tm[t]?
 |[],i,σ,σ',h,_,_,_=>by simp_all[cq]
 |
  f::fs,i,σ,σ',⟨_,_,h3⟩,hn,hd,hl=>by
  simp only[GP,List.all_cons,aW,List.isEmpty_iff] at hn
  obtain⟨a,b,c,d⟩:=AQ h3 (by simpa[GP] using hn.2) (fun k f' o h1 h2=>hd (k+1) f' o (by grind) (by grind)) (by grind)
  refine⟨by rw[a,iq,hn.1];rfl,by rw[b,vH],by rw[c,rz],?_⟩
  intro t ht
  rw[d t ht]
  have hlt:i<ops.size:=by grind
  have:=hd 0 f ops[i] rfl (by grind)
  grind [ir]
theorem map_some{α β:Type}{x:Option α}{f:α→β}{r:β}(h:x.map f=some r):∃a,x=some a∧f a=r:=by
 simp_all
theorem cZ.Tn{P:Program}{gl:Ctx}{c:Code}{σ:St}{Q:fY→St→Prop}(h:cZ P gl c σ (fun e σ'=>match e with| .panic v=>Q (.panic v) σ'|e=>∃σ2,Wk gl σ' σ2∧Q e σ2)):cZ P gl c σ Q:=by
 intro E a w hg
 refine wpIn_mono (h E a w hg) ?_
 rintro ex a' w' ⟨x,σ',E',h1,h2,h3,h4⟩
 cases x with
 |panic v=>exact⟨_,σ',E',h1,h2,h3,h4⟩
 |
  normal=>
  obtain⟨σ2,hw,hq⟩:=h2
  obtain⟨E2,g2,x2⟩:=hw E' a' w' h3
  cases ex<;>first|exact h1.elim|exact⟨.normal,σ2,E2,trivial,hq,g2,h4.trans x2⟩
 |
  exit i=>
  obtain⟨σ2,hw,hq⟩:=h2
  obtain⟨E2,g2,x2⟩:=hw E' a' w' h3
  cases ex<;>first|trivial|exact⟨.exit i,σ2,E2,h1,hq,g2,h4.trans x2⟩
 |
  ret=>
  obtain⟨σ2,hw,hq⟩:=h2
  obtain⟨E2,g2,x2⟩:=hw E' a' w' h3
  cases ex<;>first|trivial|exact⟨.ret,σ2,E2,trivial,hq,g2,h4.trans x2⟩
section
variable{P:Program} {G:bR} (T:bD P G) {gl:Ctx} {fr:Bool} {H:Hs} {Γ:List aX} (hΓ:∀C∈Γ,C.holds P gl)
include T hΓ
omit hΓ T in
theorem uE{l:List VC}:∀{vs:List VC},dC (vs++l)→dC vs∧dC l
 |[],h=>⟨trivial,h⟩
 |_::_,h=>⟨⟨h.1,(uE h.2).1⟩,(uE h.2).2⟩
omit hΓ T in
theorem Iy{a b:AV}{l:List VC}(h:Ir a b=some l)(hv:dC l):a=b:=by
 unfold Ir at h
 split at h
 ·split at h
  ·rename_i hs
   cases h
   have:=Ty.aB hs
   subst this
   have e:=hv.1
   simp only[pB] at e
   rw[e]
  ·cases h
 ·rfl
 ·split at h
  ·rename_i hb;rw[bP hb]
  ·cases h
 ·split at h
  ·rename_i hb
   simp only[aW] at hb
   rw[bP hb.1,uB hb.2]
  ·cases h
 ·cases h
omit hΓ in
theorem AR{ops:Array Oper}{R:Type}{σ:St}{fs:List aT}{j:Nat}{K:Option R}{r:R}:∀{l:List Nat},EN P G gl ops σ fs j K l=some r→(∀i f,i∈l→fs[i]? =some f→o9 P gl ops i f (cQ (fun x=>decide (x<j+1)) 0 fs σ))∧K=some r
 |[],h=>⟨fun i f hi=>(by cases hi),h⟩
 |
  i::l,h=>by
  unfold EN at h
  split at h
  ·cases h
  rename_i hno
  split at h
  ·rename_i f g vcs ob hf hs
   split at h
   ·rename_i l hl
    obtain⟨hc,h⟩:=bN h
    obtain⟨hv,h⟩:=fk h
    obtain⟨ih,hk⟩:=AR h
    simp only[aW,List.isEmpty_iff,mT] at hc
    obtain⟨⟨⟨⟨⟨⟨c1,c2⟩,c3⟩,c4⟩,c5⟩,c6⟩,c7⟩:=hc
    have hv1:=uE hv
    have ev:=Iy hl hv1.2
    have e:f=g:=by
     cases f;cases g;simp_all
    refine⟨fun i' f' e1 e2=>?_,hk⟩
    rcases List.mem_cons.1 e1 with rfl|e1
    ·rw[hf] at e2
     cases e2
     rw[e]
     exact kS T rfl hs hv1.1 (kJ hs fun h=>absurd h hno)
    ·exact ih i' f' e1 e2
   ·cases h
  ·cases h
omit hΓ in
theorem Iz{lt:Option (List Nat×Nat)}{ops:Array Oper}{R:Type}{σ:St}{fs:List aT}{K:Option R}{r:R}(h:Is P G gl lt ops σ fs K=some r):(∀l i j f,lt=some (l,j)→i∈l→fs[i]? =some f→o9 P gl ops i f (cQ (fun x=>decide (x<j+1)) 0 fs σ))∧K=some r:=by
 unfold Is at h
 split at h
 ·exact⟨fun l i j f e=>(by cases e),h⟩
 ·rename_i l j
  obtain⟨h1,h2⟩:=AR T h
  refine⟨fun l' i j' f e hi hf=>?_,h2⟩
  cases e
  exact h1 i f hi hf
omit hΓ in
theorem EP{lt:Option (List Nat×Nat)}{ops:Array Oper}{draw:Bool}{R:Type}{σ σ':St}{k:St→Option R}{fs:List aT}{r:R}(h:Lh P G gl lt ops draw σ k fs σ'=some r):(draw=true→(ma lt ops fs.reverse&&jd σ fs.reverse)=true∧∀l i j f,lt=some (l,j)→i∈l→fs.reverse[i]? =some f→o9 P gl ops i f (cQ (fun x=>decide (x<j+1)) 0 fs.reverse σ))∧k σ'=some r:=by
 unfold Lh at h
 cases draw with
 |false=>exact⟨fun e=>(vr e).elim,h⟩
 |
  true=>
  rw[aA rfl] at h
  obtain⟨h1,h2⟩:=bN h
  obtain⟨h3,h4⟩:=Iz T h2
  exact⟨fun _=>⟨h1,h3⟩,h4⟩
omit hΓ in
theorem GQ{id:Nat}{ops:Array Oper}{draw:Bool}{σ σ':St}{Q:fY→St→Prop}(hro:gl.ro=none)(h:Cr P G gl ops draw σ=some σ')(hq:Q .normal σ'):cZ P gl (.region id ops draw) σ Q:=by
 unfold Cr at h
 split at h
 ·rename_i o0 o1
  split at h
  ·cases h
  rename_i hcl
  split at h
  ·rename_i f ob h0
   split at h
   ·rename_i x hfr ho hg hd
    split at h
    ·rename_i fn cs hv
     cases h
     intro E a w hgm
     refine wpIn_region ?_
     show wpOpsIn _ _ _ _ _ [0,1] _ _
     rw[wpOpsIn_cons]
     have hob:∀p∈ob,p:=kJ h0 (fun e=>absurd e (by trivial))
     refine kS T rfl h0 trivial hob σ (jc.refl _ _ _) (fun d hd=>St.dQ ((List.all_eq_true.1 hfr) d hd)) E a w hgm _ _ ?_
     intro E1 a1 w1 hg1 hx1
     rw[wpOpsIn_cons]
     have e1:(#[o0,o1]:Array Oper)[1]? =some o1:=rfl
     unfold wpOpIn
     simp only[e1]
     have hw:Region.wanted o1 (yielded #[o0,o1] a1.tmps)=true:=by simp[Region.wanted,hg]
     rw[aA hw]
     have hv1:=gF hg1 x
     rw[hv] at hv1
     obtain⟨f',c',ev,r1,r2,r3,r4⟩:∃f' c',a1.eval x= .func fn f' c'∧RC E1 w1 .nil f'.toList∧RC E1 w1 cs c'.toList∧AV.nil.atoms=true∧cs.atoms=true:=by
      rcases RV.jD rfl hv1 with⟨hh,_⟩|⟨_,hh⟩
      ·cases hh
      ·obtain⟨f',c',e,q⟩:=hh
       grind
     have hf':f'= #[]:=by apply l6;trivial
     subst hf'
     refine⟨fun _ _=>trivial,?_⟩
     have hs:(o1.semAt (Wd gl).round a1.eval).run P w1= .ok (.defer {target:=.fn fn c',args:= #[]}) w1:=by
      simp_all[Oper.semAt_none,execOp,resolve,Deferred.ofValue]
     rw[hs,Oper.uponIn_defer,hd]
     have hg2:bX gl {σ.app f with df:=.func fn .nil cs::(σ.app f).df} E1 {a1 with defers:={target:=.fn fn c',args:= #[]}::a1.defers} w1:=
      ⟨hg1.len,hg1.tm,hg1.hw,⟨⟨#[],c',rfl,r1,r2,r3,r4⟩,hg1.df⟩⟩
     exact⟨.normal,_,E1,trivial,hq,hg2,hx1⟩
    grind
   grind
  grind
 grind
omit T hΓ in
theorem IA{id:Nat}{ops:Array Oper}{s d d1:Nat}(hn:Cs ops=some (s,d,d1)){R:Type}{σ:St}{k:fY→St→Option R}{r:R}(h:Iu s d d1 σ k=some r):cZ P gl (.region id ops false) σ (fun e σ'=>k e σ'=some r):=by
 unfold Cs at hn
 split at hn
 ·rename_i o0 o1
  split at hn
  ·rename_i s' d' d'' d1' h0 hg0 hd0 h1 hg1 hd1
   obtain⟨hd,hn⟩:=bN hn
   cases hn
   have hd:=bP hd
   subst hd
   unfold Iu at h
   split at h
   ·rename_i b hs
    split at h
    ·rename_i kt vt rest cur hb
     obtain⟨hl,h⟩:=bN h
     refine cZ.next h0 hg0 hd0 h1 hg1 hd1 hs (cC _ b _ hb) hl ?_ ?_
     ·grind
     ·intro i hi
      rw[aD (by grind)] at h
      exact GJ h i hi
    grind
   grind
  grind
 grind
variable(hro:fr=true→gl.ro=none)
include hro
theorem rS{id:Nat}{ops:Array Oper}{draw:Bool}{zs:List (Nat×Nat×Ty)}{cs:List CH}{mg:Option (List (Nat×Ty))}{lt:Option (List Nat×Nat)}{R:Type}{σ:St}{k:fY→St→Option R}{r:R}(h:pE P G gl fr Γ ops draw zs cs mg lt σ k=some r):cZ P gl (.region id ops draw) σ (fun e σ'=>k e σ'=some r):=by
 have key:∀{gs:List aT}{σ':St}{Q:fY→St→Prop},qn P gl ops 0 gs σ σ'→gs.length=ops.size→(draw=true→(ma lt ops gs&&jd σ gs)=true∧∀l i j f,lt=some (l,j)→i∈l→gs[i]? =some f→o9 P gl ops i f (cQ (fun x=>decide (x<j+1)) 0 gs σ))→Q .normal σ'→cZ P gl (.region id ops draw) σ Q:=by
  intro gs σ' Q hc hn gL hq
  cases draw with
  |false=>exact fun E _ _ hg=>DD hn hc hg (fun E' _ _ h1 h2=>⟨.normal,σ',E',trivial,hq,h1,h2⟩)
  |
   true=>
   obtain⟨gL,hL⟩:=gL rfl
   simp only[aW] at gL
   exact fun E _ _ hg=>DF T gL.1 gL.2 hL hc hg (fun E' _ _ h1 h2=>⟨.normal,σ',E',trivial,hq,h1,h2⟩)
 unfold pE at h
 split at h
 ·obtain⟨hf,h⟩:=bN h
  grind [GQ]
 split at h
 ·rename_i s d d1 hn
  cases draw with
  |true=>grind
  |false=>rw[aD vr] at hn;exact IA hn h
 split at h
 ·rcases oJ T hΓ h with⟨gs,σ',hc,hn,_,hk⟩|⟨gs,f,σ',hc,hn,hp,hk⟩
  ·simp only[ik] at hk
   obtain⟨h1,h2⟩:=EP T hk
   simp only[List.reverse_reverse] at h1
   exact key hc hn h1 h2
  ·simp only[ik] at hk
   unfold It at hk
   simp only[List.reverse_reverse,List.length_reverse] at hk
   obtain⟨h1,h2⟩:=bN hk
   simp only[aW] at h1
   rw[dY] at hp
   have hz:σ.hp.length -1<σ.hp.length:=by simp_all
   obtain⟨ms,σe,k1,k2,k3,k4⟩:=oK T h2
   simp only[List.reverse_nil,List.nil_append] at k4
   have hze:(σ'.app (uq f (σ.hp.length -1))).hp[σ.hp.length -1]? =some (some Ci):=by
    rw[iq]
    simp only[uq,aR,dA,bZ]
    rw[aA (by rw[cq.hl hc];exact hz)]
   have k1:=k1 hze
   cases draw with
   |false=>exact uu T hc hp k1 k3 hz (by omega) (fun e=>(vr e).elim) h1.2 k4
   |
    true=>
    rw[aA rfl] at k4
    obtain⟨q3,q4⟩:=bN k4
    grind [uu]
 ·rename_i l
  obtain⟨d,hd,h⟩:=bind_some h
  rcases oJ T hΓ hd with⟨gs,σ',hc,hn,hdst,hk⟩|⟨_,_,_,_,_,_,hk⟩
  case inr=>cases hk
  simp only[ik] at hk
  obtain⟨hw,hk⟩:=bN hk
  obtain⟨h1,h2⟩:=EP T hk
  simp only[List.reverse_reverse] at h1
  have hw':GP gs=true:=by simpa[GP] using hw
  obtain⟨e1,e2,e3,e4⟩:=AQ hc hw' hdst (by omega)
  obtain⟨t,ht,rfl⟩:=map_some h2
  refine cZ.Tn (key hc hn h1 ⟨_,?_,h⟩)
  grind [Wk.sub,Tm,oI,uC,pA,ln,Iw,uD]
omit T hΓ hro in
theorem yu{R:Type}{r:R}{K:St→Option R}:∀{l:List (Nat×Nat)}{σ:St},Iv l σ K=some r→∃σ',Wk gl σ σ'∧K σ'=some r
 |[],σ,h=>⟨σ,Wk.refl gl σ,h⟩
 |
  (b,s)::l,σ,h=>by
  unfold Iv at h
  split at h
  ·rename_i k n e bs t xs hs hb
   obtain⟨hv,h⟩:=fk h
   split at h
   ·rename_i σ1 h1
    obtain⟨σ',h2,h3⟩:=yu h
    refine⟨σ',Wk.trans (Wk.Yo h1 ?_) h2,h3⟩
    intro e' bs' t' xs' hb'
    rw[hb] at hb'
    cases hb'
    exact(Int.toNat_lt hv.1).2 hv.2.1
   ·cases h
  ·rename_i c i e bs t xs hs hb
   obtain⟨hc,h⟩:=bN h
   have hc:=bP hc
   subst hc
   split at h
   ·rename_i σ1 h1
    obtain⟨σ',h2,h3⟩:=yu h
    exact⟨σ',Wk.trans (Wk.Yp hs h1) h2,h3⟩
   ·cases h
  ·cases h
omit T hΓ hro in
theorem yv{R:Type}{r:R}{K:St→Option R}:∀{l:List PF}{σ:St},Pq l σ K=some r→∃σ',Wk gl σ σ'∧K σ'=some r
 |[],σ,h=>⟨σ,Wk.refl gl σ,h⟩
 |
  .row b d k::l,σ,h=>by
  unfold Pq at h
  split at h
  ·rename_i kk n e bs t xs e2 f hs hb
   obtain⟨hv,h⟩:=fk h
   split at h
   ·rename_i σ1 h1
    obtain⟨σ',h2,h3⟩:=yv h
    refine⟨σ',Wk.trans (Wk.Jr h1 ?_) h2,h3⟩
    intro e' bs' t' xs' e2' f' hb'
    rw[hb] at hb'
    cases hb'
    exact(Int.toNat_lt hv.1).2 hv.2.1
   grind
  grind
 |
  .map mode b d k::l,σ,h=>by
  unfold Pq at h
  split at h
  ·rename_i t x hs
   split at h
   ·rename_i vcs σ1 h1
    obtain⟨hv,h⟩:=fk h
    obtain⟨σ',h2,h3⟩:=yv h
    exact⟨σ',Wk.trans (Wk.Jt h1 hv) h2,h3⟩
   grind
  grind
 |
  .fE b::l,σ,h=>by
  unfold Pq at h
  split at h
  ·rename_i σ1 h1
   obtain⟨σ',h2,h3⟩:=yv h
   exact⟨σ',Wk.trans (Wk.oV h1) h2,h3⟩
  grind
theorem Ct{id:Nat}{ops:Array Oper}{draw:Bool}{R:Type}{σ:St}{k:fY→St→Option R}{r:R}(h:yr P G gl fr H Γ id ops draw σ k=some r):cZ P gl (.region id ops draw) σ (fun e σ'=>k e σ'=some r):=by
 unfold yr at h
 split at h
 ·exact rS T hΓ hro h
 ·split at h
  ·rename_i σ0 h0
   obtain⟨σ1,h1,h2⟩:=yu (gl:=gl) h
   obtain⟨σ2,h3,h4⟩:=yv (gl:=gl) h2
   refine cZ.post (cZ.gh _ h0 (cZ.wk h1 (cZ.wk h3 (rS T hΓ hro h4)))) ?_ ?_
   ·intro e σ' hne he
    cases e with
    |normal=>grind
    |_=>exact he
   grind [Pr,Cc]
  grind
omit hΓ T hro in
theorem IB{c:Code}{R:Type}{w:St→(fY→St→Option R)→Option R}(ih:∀{σ:St}{k:fY→St→Option R}{r:R},w σ k=some r→cZ P gl c σ (fun e σ'=>k e σ'=some r)){k:fY→St→Option R}{r:R}{n:Nat}{σ:St}
 (h:EO w k n σ=some r):cZ P gl (.loop c) σ (fun e σ'=>k e σ'=some r):=by
 refine cZ.loop (fun n σ=>EO w k n σ=some r) ?_ h
 intro n σ1 hn
 cases n with
 |zero=>cases hn
 |
  succ n=>
  refine cZ.mono (ih hn) ?_
  intro e σ2 he
  cases e with
  |normal=>exact⟨n,Nat.lt_succ_self n,he⟩
  |_=>exact he
omit hΓ T hro in
theorem ID{c:Code}{R U:Type}{r:R}{k:fY→St→Option R}{F:(U→Option R)→U→Option R}{st:U→St}{sW:St→Option U}(hm:∀σ u,sW σ=some u→Wk gl σ (st u))
 (ih:∀{rec:U→Option R}{u:U},F rec u=some r→cZ P gl c (st u) (fun e σ'=>(match e with| .normal=>Option.bind (sW σ') rec|e=>k e σ')=some r)) {n:Nat} {σ:St} {u:U} (hu:sW σ=some u)
 (h:aM F n u=some r):cZ P gl (.loop c) σ (fun e σ'=>k e σ'=some r):=by
 refine cZ.loop (fun n σ=>∃u,Wk gl σ (st u)∧aM F n u=some r) ?_ ⟨u,hm σ u hu,h⟩
 rintro n σ1 ⟨u1,hw,hn⟩
 cases n with
 |zero=>cases hn
 |
  succ n=>
  refine cZ.wk hw (cZ.mono (ih hn) ?_)
  intro e σ2 he
  cases e with
  |
   normal=>
   obtain⟨u2,h1,h2⟩:=bind_some he
   exact⟨n,Nat.lt_succ_self n,u2,hm σ2 u2 h1,h2⟩
  |_=>exact he
end
theorem Fy.up{P:Program}{C C':Ctx}{l:Nat}{A:List AV}{H H':List (Option aN)}{r:vO}(hg:C'.gl=C.gl)(hC:∀S w,C.B S w)(h:Fy P C l A H r H')(hm:C'.md=C.md):Fy P C' l A H r H':=by
 intro E w vs hv hw
 obtain⟨fn,tm,asz,bd,h1,h2⟩:=h E w vs hv (hw.ctx hg.symm (hC _ _))
 refine⟨fn,tm,asz,bd,h1,RoundIn.mono h2 ?_⟩
 rintro e w' ⟨E',r1,r2,r3⟩
 rw[←hm] at r3
 exact⟨E',r1,r2.ctx hg (hw.gj (hw.kept r3)).2,r3⟩
theorem IE.up{P:Program}{C C':Ctx}{fn:Fn}{A:List AV}{H H':List (Option aN)}{r:vO}(hg:C'.gl=C.gl)(hC:∀S w,C.B S w)(h:IE P C fn A H r H')(hm:C'.md=C.md):IE P C' fn A H r H':=by
 cases fn with
 |func f=>exact Fc.up hg hC h hm
 |yield l=>exact Fy.up hg hC h hm
 |_=>trivial
theorem aX.holds.up{P:Program}{gl gl':Ctx}{C:aX}(h:C.holds P gl)(hg:gl'.gl=gl.gl)(hB:∀S w,gl.B S w)(hm:gl'.md=gl.md:=by rfl):C.holds P gl':=
 ⟨fun d r hd=>IE.up hg hB (h.ret d r hd) hm,fun d x hd=>IE.up hg hB (h.j4 d x hd) hm⟩
theorem Fy.less{P:Program}{C:Ctx}{l:Nat}{A:List AV}{H H1 H2:List (Option aN)}{r:vO}(h:Fy P C l A H r H1)(hs:∀(b:Nat)(k:aN),H2[b]? =some (some k)→H1[b]? =some (some k)):Fy P C l A H r H2:=by
 intro E w vs hv hw
 obtain⟨fn,tm,asz,bd,h1,h2⟩:=h E w vs hv hw
 refine⟨fn,tm,asz,bd,h1,RoundIn.mono h2 ?_⟩
 rintro e w' ⟨E',r1,r2,r3⟩
 exact⟨E',r1,r2.less hs,{r3 with own:=fun g ⟨b,k,hb,hg⟩=>r3.own g ⟨b,k,hs b k hb,hg⟩}⟩
theorem xd:∀{l H:List (Option aN)},H.length≤l.length→(∀(b:Nat)(k:aN),H[b]? =some (some k)→l[b]? =some (some k))→∃m,prune l m=H
 |l,[],_,_=>⟨[],by cases l<;>rfl⟩
 |[],x::H,h,_=>by simp at h
 |
  y::l,x::H,h,hs=>by
  obtain⟨m,hm⟩:=xd (l:=l) (H:=H) (by simpa using h) (fun b k hb=>by simpa using hs (b+1) k (by simpa using hb))
  cases x with
  |none=>exact⟨false::m,by simp[prune,hm]⟩
  |
   some k=>
   have:y=some k:=by simpa using hs 0 k rfl
   exact⟨true::m,by simp[prune,hm,this]⟩
theorem uF{gs:Nat→Nat}{ti:List (Nat×Ty)}:∀{l:List (Option aN)}{s i:Nat},(tie gs ti s l)[i]? =some none→l[i]? =some none
 |[],s,i,h=>by trivial
 |none::l,s,0,h=>rfl
 |some x::l,s,0,h=>by simp[tie] at h
 |none::l,s,i+1,h=>by simpa using uF (l:=l) (by simpa[tie] using h)
 |some x::l,s,i+1,h=>by simpa using uF (l:=l) (by simpa[tie] using h)
theorem IF{gs:Nat→Nat}{ti:List (Nat×Ty)}{i:Nat}{k k':aN}(h1:Cq (some k)=false)(h2:Cq (some k')=false)(h:mB gs ti i k=mB gs ti i k'):k=k':=by
 cases k with
 |
  var t v=>
  cases k' with
  |
   var t' v'=>
   grind [mB]
  |tv=>trivial
  |_=>grind [mB]
 |tv=>trivial
 |
  _=>
  cases k' with
  |var t' v'=>grind [mB]
  |tv=>trivial
  |_=>exact h
theorem ER{y:YC}:∀{m:List (Nat×gr)}{l:List Type}{d:prod (iI m l)}{b:Nat}{k:aN},(b,k)∈oi y m d→∃s,(b,s)∈m
 |[],_,_,_,_,h=>by cases h
 |
  (i,s)::m,_,d,b,k,h=>by
  simp only[oi,fa,il] at h
  rcases h with⟨rfl,_⟩|h
  ·grind
  ·obtain⟨s',hs⟩:=ER h
   exact⟨s',eH _ hs⟩
theorem fm{m:Nat}{out:List (Nat×aN)}{b:Nat}{k:aN}(h:(dm m out)[b]? =some (some k)):(b,k)∈out:=by
 unfold dm at h
 rcases ei h with h|⟨_,h⟩<;>grind
theorem AT{m:Nat}{out:List (Nat×aN)}:(dm m out).length=m:=by unfold dm;rw[kX,l0]
theorem uG{i:Nat}:∀{out:List (Nat×aN)},i∈wrote (out.map fun x=>(x.1,some x.2))→∃k,(i,k)∈out
 |[],h=>by cases h
 |
  (j,k)::out,h=>by
  simp only[dX,wrote,fa] at h
  rcases h with rfl|h
  ·grind
  ·obtain⟨k',hk⟩:=uG h
   exact⟨k',eH _ hk⟩
theorem GR{m i b:Nat}{x:aN}{out:List (Nat×aN)}(hi:∀k,(i,k)∉out)(hm:i<m):(dm m ((i,x)::out))[b]? =if b=i then some (some x) else(dm m out)[b]? :=by
 have hw:i∉wrote (out.map fun x=>(x.1,some x.2)):=by
  grind [uG]
 unfold dm
 simp only[dX,aR]
 split
 ·rename_i e
  subst e
  rw[eF hw,dA,aA rfl,aA (by simpa using hm)]
 ·rename_i e
  exact iP (by simp) (by rw[dA,aD (fun e'=>e e'.symm)])
theorem IG{gl:Ctx}{y:YC}{rh:K8}{C:IC}{e:fY}{σ:St}{r:gJ (Nat::iI C.R [])}(h:Iq y rh C e σ=some r):∃σE,P2 rh.jl e=some (qF (Nat::iI C.R []) r).1∧Wk gl σ σE∧wz σE.hp=true∧C.m≤σE.hp.length∧
 ∀i x,(i,x)∈oi y0 C.R (qF (Nat::iI C.R []) r).2→(tie y.gs rh.ti 0 σE.hp)[i]? =some (some x):=by
 unfold Iq at h
 split at h
 ·rename_i j u hj hu
  obtain⟨hc,h⟩:=bN h
  simp only[aW] at hc
  split at h
  ·rename_i d hd
   cases h
   rw[pA]
   exact⟨_,hj,SS.iJ hu,hc.1,fG hc.2,(Cf y0 hd).1⟩
  grind
 grind
theorem P9{P:Program}{gl Cx:Ctx}{y:YC}{rh:K8}{C:IC}{ps:Array Tmp}{assign body:Code}{σ:St}{wA wB:St→(fY→St→Option (gJ (Nat::iI C.R [])))→Option (gJ (Nat::iI C.R []))}
 (hA:∀σ1 k1 r1,wA σ1 k1=some r1→cZ P (gl.sO y.l) assign σ1 (fun e σ'=>k1 e σ'=some r1)) (hB:∀σ1 k1 r1,wB σ1 k1=some r1→cZ P (gl.sO y.l) body σ1 (fun e σ'=>k1 e σ'=some r1))
 (hk:C.k0<C.m) (hR:(C.R.all fun x=> !Nat.beq x.1 C.k0)=true) (hof:Cn P gl σ.tm ps assign body C.k0 rh.ti rh.m rh.jl Cx y):(C.Y y.l (SO y rh C ps σ wA wB)).holds P Cx:=by
 refine⟨?_,fun _ _ h=>h.elim⟩
 intro d r hd
 have hd':SO y rh C ps σ wA wB d=some r:=hd
 unfold SO at hd'
 split at hd'
 case h_2=>cases hd'
 rename_i vcs H0 htok
 obtain⟨hv,hd'⟩:=fk hd'
 obtain⟨hc,hd'⟩:=bN hd'
 simp only[aW] at hc
 obtain⟨r0,hw,hd'⟩:=bind_some hd'
 split at hd'
 case h_2=>cases hd'
 rename_i vs H1 htok1
 obtain⟨hv1,hd'⟩:=fk hd'
 obtain⟨hto,hd'⟩:=bN hd'
 have er:=ja hd'
 obtain⟨t1,t2,t3,t4⟩:=sY htok hv
 obtain⟨u1,u2,u3,u4⟩:=sY htok1 hv1
 rw[AT] at u1
 have lX:(aR (List.replicate C.m none) (dj (oi y0 C.B (yl C.A d)))).length=C.m:=by rw[kX,l0]
 rw[lX] at t1
 have hnk:∀k,(C.k0,k)∉oi y0 C.R (qF (Nat::iI C.R []) r0).2:=by
  intro k hm
  obtain⟨s,hs⟩:=ER hm
  have:=(List.all_eq_true.1 hR) _ hs
  simp_all
 have hX0:(dm C.m (oi y0 C.R (qF (Nat::iI C.R []) r0).2))[C.k0]? =some none:=by
  cases h:(dm C.m (oi y0 C.R (qF (Nat::iI C.R []) r0).2))[C.k0]? with
  |none=>grind [AT]
  |
   some x=>
   cases x with
   |none=>rfl
   |some k=>exact absurd (fm h) (hnk k)
 have h10:H1[C.k0]? =some none:=by
  grind [uF]
 have hX1:∀i:Nat,(dm C.m (oi y0 C.R (qF (Nat::iI C.R []) r0).2))[i]? =(tie y.gs rh.ti 0 H1)[i]? :=by
  intro i
  by_cases hi:i=C.m
  ·simp_all[nB]
  grind
 have hF:=hof (yk y0 C.A d) H0 H1 (qF (Nat::iI C.R []) r0).1 (bP hc.1) (t2 C.k0 (by omega) (by grind)).2 h10 hc.2 hto ?_
 ·show Fy P Cx y.l (yk y0 C.A d) (aR (List.replicate C.m none) (dj (oi y0 C.B (yl C.A d)))) (.ret (.val .bool (qF C.T r).1)) (dm C.m ((C.k0,.lp (qF C.T r).2.1 (qF C.T r).2.2.1)::oi y0 C.R (qF C.T r).2.2.2))
  have e1:qF C.T r=(Nat.beq (qF (Nat::iI C.R []) r0).1 0,y,(qF (Nat::iI C.R []) r0).1,(qF (Nat::iI C.R []) r0).2):=by rw[←er];exact pA C.T _
  rw[e1]
  have eX:(tie y.gs rh.ti 0 H0).set C.k0 (some (.lp y 0))=aR (List.replicate C.m none) (dj (oi y0 C.B (yl C.A d))):=by
   apply List.ext_getElem?
   intro i
   rw[dA]
   split
   ·simp_all[nB]
   grind
  rw[eX] at hF
  refine hF.less ?_
  intro b k hb
  rw[GR hnk hk] at hb
  grind
 ·refine cZ.mono (hA _ _ _ hw) ?_
  intro e σ1 he
  cases e with
  |
   normal=>
   refine cZ.mono (hB _ _ _ he) ?_
   intro e σ2 he
   obtain⟨σE,q1,q2,q3,q4,q5⟩:=IG (gl:=gl.sO y.l) he
   have hpr:∃m,prune σE.hp m=H1:=by
    refine xd (by grind) ?_
    intro b k hb
    have hx:=hX1 b
    rw[yo hb,dY] at hx
    have:=q5 b _ (fm hx)
    obtain⟨k0,p1,p2⟩:=iV this
    rw[dY] at p2
    rw[p1]
    have nt:∀{l:List (Option aN)}{k:aN},wz l=true→l[b]? =some (some k)→Cq (some k)=false:=by
     intro l k hn hk
     cases k with
     |tv g t v=>exact absurd hk (EL hn b g t v)
     |_=>rfl
    rw[IF (nt u4 hb) (nt q3 p1) p2]
   obtain⟨m,hm⟩:=hpr
   cases e with
   |normal=>exact⟨by simpa[P2] using q1.symm,σE,m,q2,hm⟩
   |
    ret=>
    obtain⟨j1,c,j2,j3⟩:=xc q1
    refine⟨⟨j1,?_⟩,σE,m,q2,hm⟩
    grind [Po]
   |
    exit i=>
    obtain⟨j1,c,j2,j3⟩:=xc q1
    refine⟨⟨j1,?_⟩,σE,m,q2,hm⟩
    rw[j2]
    cases c<;>simp[Ip] at j3
    rw[j3]
   |panic v=>trivial
  |_=>cases he
theorem To{P:Program}{gl:Ctx}{σ:St}{g:Operand}{ps:Array Tmp}{assign body:Code}(hro:gl.ro=none){gf:FuncId}{cs:AV}(hg:bH gl σ.tm g= .func (.func gf) .nil cs){rh:K8}{C:IC}(gL:P5 σ rh C cs=true)(hC:C.holds P gl)
 {wA wB:YC→St→(fY→St→Option (gJ (Nat::iI C.R [])))→Option (gJ (Nat::iI C.R []))}
 (hA:∀y σ1 k1 r1,wA y σ1 k1=some r1→cZ P (gl.sO y.l) assign σ1 (fun e σ'=>k1 e σ'=some r1)) (hB:∀y σ1 k1 r1,wB y σ1 k1=some r1→cZ P (gl.sO y.l) body σ1 (fun e σ'=>k1 e σ'=some r1))
 {R:Type} {k:fY→St→Option R} {r:R} (h:yq (fun y=>P6 σ y rh gf cs (C.SN y.l (SO y rh C ps σ (wA y) (wB y))) k)=some r):cZ P gl (.rangeFunc g ps assign body) σ (fun e σ'=>k e σ'=some r):=by
 unfold P5 at gL
 simp only[aW,iE] at gL
 obtain⟨⟨⟨⟨⟨⟨⟨⟨⟨c1,c2⟩,c3⟩,c4⟩,c5⟩,c6⟩,c7⟩,c8⟩,c9⟩,c10⟩:=gL
 refine cZ.rangeFunc hro hg rh.dI rh.lI C.k0 c1 c2 c3 c4 rh.ti rh.m c6 c7 c8 rh.jl c9 ?_
 intro y
 have hy:=GO h y
 unfold P6 at hy
 split at hy
 case h_2=>cases hy
 rename_i L ins hL jW
 rcases AJ hy with⟨hfn,hy⟩|hy
 case inr=>cases hy
 split at hy
 case h_2=>cases hy
 rename_i d hd
 rcases CF.AH hy with⟨q,hq,hy⟩|⟨x,hx,hy⟩
 case inr=>cases hy
 obtain⟨d1,d2⟩:=aX.fy hd
 unfold Pp at hy
 split at hy
 case h_2=>cases hy
 rename_i hr
 obtain⟨hcr,hy⟩:=bN hy
 simp only[aW] at hcr
 split at hy
 case h_2=>cases hy
 rename_i y' j hlp
 obtain⟨hv,hy⟩:=fk hy
 have hv:y'=y:=hv.1
 subst hv
 refine⟨j,_,L,ins,_,⟨hr,hL,jW,hcr.1,hcr.2,hlp,rfl⟩,?_,?_⟩
 ·intro B hB' hof
  have hh:=hC B hB' y'.l _ (P9 (wA:=wA y') (wB:=wB y') (hA y') (hB y') (by simp_all) c10 hof)
  have:=hh.ret d q hq
  rw[←hfn,d1,d2] at this
  rw[show(C.SN y'.l (SO y' rh C ps σ (wA y') (wB y'))).res q= .gJ .nil from hr] at this
  trivial
 ·have:=Lg (P:=P) (gl:=gl) hy
  grind
section
variable{P:Program} {G:bR} (T:bD P G) {I:List IC} {H:Hs} {Γ:List aX}
include T
theorem j6:∀{c:Code}{gl:Ctx}{fr:Bool}(_hΓ:∀C∈Γ,C.holds P gl)(_hro:fr=true→gl.ro=none)(_hI:fr=true→∀C∈I,C.holds P gl∧∀S w,gl.B S w){R:Type}{σ:St}{k:fY→St→Option R}{r:R},walk P G I H Γ c gl fr σ k=some r→cZ P gl c σ (fun e σ'=>k e σ'=some r):=by
 intro c
 induction c with
 |skip=>intro gl fr hΓ hro hI R σ k r h;exact cZ.skip h
 |label l=>intro gl fr hΓ hro hI R σ k r h;exact cZ.label h
 |scope c ih=>intro gl fr hΓ hro hI R σ k r h;exact cZ.scope (ih hΓ hro hI h)
 |exit i=>intro gl fr hΓ hro hI R σ k r h;exact cZ.exit h
 |ret=>intro gl fr hΓ hro hI R σ k r h;exact cZ.ret h
 |region id ops draw=>intro gl fr hΓ hro hI R σ k r h;exact Ct T hΓ hro h
 |
  seq x z ih1 ih2=>
  intro gl fr hΓ hro hI R σ k r h
  unfold walk at h
  split at h
  ·refine cZ.seq (cZ.mono (ih1 hΓ hro hI h) ?_)
   intro e σ' he
   cases e with
   |normal=>exact ih2 hΓ hro hI he
   |_=>exact he
  ·rename_i S hS
   unfold aI at h
   obtain⟨o,ho,h⟩:=bind_some h
   refine cZ.seq (cZ.mono (ih1 hΓ hro hI ho) ?_)
   intro e σ' he
   cases e with
   |
    normal=>
    obtain⟨d,hd,e⟩:=map_some he
    subst e
    exact cZ.wk (SS.iJ hd) (ih2 hΓ hro hI h)
   |
    _=>
    obtain⟨d,hd,e⟩:=map_some he
    subst e
    cases h
    exact hd
 |
  cond c x z ih1 ih2=>
  intro gl fr hΓ hro hI R σ k r h
  unfold walk at h
  split at h
  ·rename_i b hb
   refine cZ.cond hb (fun e=>ih1 hΓ hro hI ?_) (fun e=>ih2 hΓ hro hI ?_)<;>grind
  grind
 |
  block id c ih=>
  intro gl fr hΓ hro hI R σ k r h
  unfold walk at h
  split at h
  ·refine cZ.block (cZ.mono (ih hΓ hro hI h) ?_)
   intro e σ' he
   cases e with
   |
    exit i=>
    simp only[unB] at he
    simp only[yR]
    split at he<;>simp_all
   |_=>exact he
  ·rename_i S hS
   unfold aI at h
   obtain⟨o,ho,h⟩:=bind_some h
   have fin:∀{σ':St},(S.sW σ').map cV.brk=some o→∃σ2,Wk gl σ' σ2∧k .normal σ2=some r:=by
    intro σ' he
    obtain⟨d,hd,e⟩:=map_some he
    grind [SS.iJ]
   have oth:∀{e:fY}{σ':St},(k e σ').map cV.ret=some o→k e σ'=some r:=by
    intro e σ' he
    obtain⟨d,hd,e⟩:=map_some he
    grind
   refine cZ.Tn (cZ.block (cZ.mono (ih hΓ hro hI ho) ?_))
   intro e σ' he
   cases e with
   |normal=>exact fin he
   |
    exit i=>
    simp only[toB] at he
    simp only[yR]
    split at he
    ·rename_i hb;rw[aA (bP hb)];grind
    ·rename_i hb;rw[aD (fun e=>hb (by simp_all))];exact⟨σ',Wk.refl gl σ',oth he⟩
   |ret=>exact⟨σ',Wk.refl gl σ',oth he⟩
   |panic v=>exact oth he
 |
  loop c ih=>
  intro gl fr hΓ hro hI R σ k r h
  unfold walk at h
  split at h
  ·grind [IB]
  ·split at h
   ·cases h
   ·split at h
    ·cases h
    ·rename_i u hu
     exact ID (fun σ u=>SS.iJ) (fun h=>ih hΓ hro hI h) hu h
 |
  rangeFunc g ps assign body ih1 ih2=>
  intro gl fr hΓ hro hI R σ k r h
  unfold walk at h
  obtain⟨hfr,h⟩:=bN h
  split at h
  ·cases h
  ·rename_i rh hrh
   split at h
   case h_2=>cases h
   rename_i C u hC hu
   split at h
   ·rename_i gf cs hg
    obtain⟨gL,h⟩:=bN h
    obtain⟨hC1,hB⟩:=hI hfr C (mU hC)
    have hA:∀(y:YC)(σ1:St) k1 r1,walk P G I H Γ assign (gl.sO y.l) false (R:=gJ (Nat::iI C.R [])) σ1 k1=some r1→cZ P (gl.sO y.l) assign σ1 (fun e σ'=>k1 e σ'=some r1):=
     fun y σ1 k1 r1 h1=>@ih1 (gl.sO y.l) false (fun D hD=>(hΓ D hD).up rfl hB) (fun e=>(vr e).elim) (fun e=>(vr e).elim) _ _ _ _ h1
    have hB':∀(y:YC)(σ1:St) k1 r1,walk P G I H Γ body (gl.sO y.l) false (R:=gJ (Nat::iI C.R [])) σ1 k1=some r1→cZ P (gl.sO y.l) body σ1 (fun e σ'=>k1 e σ'=some r1):=
     fun y σ1 k1 r1 h1=>@ih2 (gl.sO y.l) false (fun D hD=>(hΓ D hD).up rfl hB) (fun e=>(vr e).elim) (fun e=>(vr e).elim) _ _ _ _ h1
    exact cZ.wk (SS.iJ hu) <| To (wA:=fun y σ1 k1=>walk P G I H Γ assign (gl.sO y.l) false σ1 k1) (wB:=fun y σ1 k1=>walk P G I H Γ body (gl.sO y.l) false σ1 k1) (hro hfr) hg gL hC1 hA hB' h
   grind
 |_=>grind [walk]
end
end Go.Ax
namespace Go.Ax
def pick:List Nat→List (Option aN)→List (Nat×aN)
 |[],_=>[]
 |
  b::l,hp=>match hp[b]? with
  |some (some k)=>(b,k)::pick l hp
  |_=>pick l hp
theorem jI{hp:List (Option aN)}:∀{l:List Nat}{b:Nat}{k:aN},(b,k)∈pick l hp→hp[b]? =some (some k)
 |[],_,_,h=>by cases h
 |
  c::l,b,k,h=>by
  simp only[pick] at h
  split at h
  ·rename_i k' hk
   rcases List.mem_cons.1 h with h|h
   ·cases h;exact hk
   ·exact jI h
  ·exact jI h
def aE(G:bR)(rs:List ResultVar)(kC:FuncId)(A:List Sh)(B:List (Nat×gr))(m:Nat)(F:SS)(ob:List Nat)(f:CF (prod (sM A (iI B []))) F.T):aX:=
 ⟨.func kC,A,B,m,F,fun r=>(ju G rs (F.st y0 r)).getD .bot,fun r=>pick ob (F.st y0 r).hp,f⟩
def Qa(F:SS):fY→St→Option F.T
 | .ret,σ=>F.sW σ
 | .normal,σ=>F.sW σ
 |_,_=>none
def Cu(σ:St):Option St:=
 match marks σ.df σ.hp with
 |some hp=>some ⟨σ.tm,hp,[]⟩
 |none=>none
def Cv(F:SS):fY→St→Option F.T
 |
  .ret,σ=>match Cu σ with
  |some σ=>F.sW σ
  |none=>none
 |
  .normal,σ=>match Cu σ with
  |some σ=>F.sW σ
  |none=>none
 |_,_=>none
def mn(nt m:Nat)(args:List AV)(ins:List (Nat×Option aN)):St:=⟨args++List.replicate (nt -args.length) .bot,aR (List.replicate m none) ins,[]⟩
def IH{α:Type}:Option α→Bool
 |some _=>true
 |none=>false
theorem mC{x:Option AV}(h:IH x=true):x=some (x.getD .bot):=by
 cases x with
 |none=>cases h
 |some y=>rfl
theorem s8{gl:Ctx}{F:SS}{e:fY}{σ:St}{r:F.T}(h:Cv F e σ=some r):(e= .ret∨e= .normal)∧∃σ1,Cu σ=some σ1∧Wk gl σ1 (F.st y0 r):=by
 cases e with
 |
  ret=>
  simp only[Cv] at h
  split at h
  ·simp_all[SS.iJ]
  grind
 |
  normal=>
  simp only[Cv] at h
  split at h
  ·simp_all[SS.iJ]
  grind
 |_=>trivial
theorem sN.yw{P:Program}{G:bR}(T:bD P G){gl:Ctx}{f:FuncId}{fn:Func}{c:Code}(hf:P.funcs[f]? =some fn)(hb:fn.body=some c)(hro:gl.ro=none){args:List AV}{ins:List (Nat×Option aN)}{m:Nat}{x:AV}{out:List (Nat×aN)}{σe:St}
 (h:cZ P gl c (mn fn.ntmps m args ins) (fun e σ=>(e= .ret∨e= .normal)∧∃σ1,Cu σ=some σ1∧Wk gl σ1 σe)) (_hd:σe.df= []) (ah8:ju G fn.results.toList σe=some x) (hout:∀b k,(b,k)∈out→σe.hp[b]? =some (some k)):
 sN P gl f args (aR (List.replicate m none) ins) (.ret x) (dm m out):=by
 intro E w vs hv hw
 obtain⟨hl,ahQ⟩:=hv.get
 refine CallsIn.calls (F:=Wd gl) (n:=0) (callsIn_of_wp_marks hf hb trivial ?_ hro) (fun k d hd=>by cases hd)
 have hg:bX gl (mn fn.ntmps m args ins) E {tmps:=vs.toArray++Array.replicate (fn.ntmps -vs.toArray.size) undef,defers:=[]} w:=by
  refine⟨?_,?_,hw,trivial⟩
  ·grind [mn]
  ·intro i x hx v hv'
   simp only[mn] at hx
   rw[Array.getElem?_append] at hv'
   simp only[List.getElem?_append] at hx
   split at hx
   ·grind
   ·rw[List.getElem?_replicate] at hx
    split at hx
    ·cases hx;trivial
    grind
 refine wpIn_mono (h E _ w hg) ?_
 rintro ex a' w' ⟨e,σ',E',h1,⟨he,σ1,ho,hwk⟩,h3,h4⟩
 have main:LeavesInM (Wd gl) 0 P fn a'.tmps (fun e w'=>∃E',wI E' w' (.ret x) e∧HW gl E' w' (dm m out)∧Ext gl.md (Own (aR (List.replicate m none) ins) E) E w (Own (dm m out) E') E' w') a'.defers .returning w':=by
  unfold Cu at ho
  split at ho
  ·rename_i hp1 hm
   cases ho
   refine EH σ'.df h3 hm (fun w3 k1 k2=>?_)
   obtain⟨E2,g2,x2⟩:=hwk E' _ w3 k1
   obtain⟨v,k3,k4⟩:=pS T g2 ah8
   have hw2:HW gl E2 w3 (dm m out):=g2.hw.less (fun b k hb=>hout b k (fm hb))
   have hx:Ext gl.md (Own (aR (List.replicate m none) ins) E) E w (Own (dm m out) E2) E2 w3:=
    {(h4.trans k2).trans x2 with own:=fun g ⟨b,k,hb,hgb⟩=>((h4.trans k2).trans x2).own g ⟨b,k,hout b k (fm hb),hgb⟩}
   exact⟨v,k3,E2,k4,hw2,hx⟩
  grind
 rcases he with rfl|rfl
 ·cases ex with
  |ret=>trivial
  |_=>trivial
 ·cases ex with
  |normal=>trivial
  |_=>trivial
theorem aX.of{P:Program}{G:bR}(T:bD P G){gl:Ctx}{I:List IC}{H:Hs}{Γ:List aX}(hΓ:∀C∈Γ,C.holds P gl)(hI:∀C∈I,C.holds P gl∧∀S w,gl.B S w)(hro:gl.ro=none){rs:List ResultVar}{kC:FuncId}{A:List Sh}{B:List (Nat×gr)}{m nt:Nat}{F:SS}{ob:List Nat}{f:prod (sM A (iI B []))→Option F.T}
 {fn:Func} {c:Code} (ahS:∀vs w,(callFunc kC vs).run P w= .ok (.enter kC vs) w) (hf:P.funcs[kC]? =some fn) (hb:fn.body=some c) (hrs:fn.results.toList=rs) (hnt:fn.ntmps=nt) (hF:F.df= [])
 (ah8:∀r:F.T,IH (ju G rs (F.st y0 r))=true)
 (h:∀d,f d=walk P G I H Γ c gl true (mn nt m (yk y0 A d) (dj (oi y0 B (yl A d)))) (Cv F)):
 (aE G rs kC A B m F ob (.bC f)).holds P gl:=by
 refine⟨?_,fun _ _ h=>h.elim⟩
 intro d r hd
 have hd':f d=some r:=hd
 rw[h d] at hd'
 refine⟨ahS,?_⟩
 have ahL:=j6 T hΓ (fun _=>hro) (fun _=>hI) hd'
 subst hnt
 refine sN.yw T hf hb hro (σe:=F.st y0 r) (cZ.mono ahL ?_) ?_ ?_ ?_
 ·intro e σ he
  exact s8 he
 ·show(F.st y0 r).df= []
  simp only[SS.st,SS.mn]
  obtain⟨nt',nh,tm,hp,df⟩:=F
  simp only at hF
  subst hF
  rfl
 ·rw[hrs];exact mC (ah8 r)
 ·intro b k hbk;exact jI hbk
def uH(s:Sh)(F:SS):fY→St→Option (Sum (prod (s.H [])) F.T)
 |
  .ret,σ=>match Cu σ with
  |some σ=>(F.sW σ).map .inr
  |none=>none
 |
  .normal,σ=>match Cu σ with
  |some σ=>(F.sW σ).map .inr
  |none=>none
 |
  .panic v,σ=>match σ.df with
  |[]=>(s.G (l:=[]) v ()).map .inl
  |_=>none
 |_,_=>none
theorem sN.II{P:Program}{gl:Ctx}{f:FuncId}{fn:Func}{c:Code}(hf:P.funcs[f]? =some fn)(hb:fn.body=some c)(hro:gl.ro=none){args:List AV}{ins:List (Nat×Option aN)}{m:Nat}{x:AV}
 (h:cZ P gl c (mn fn.ntmps m args ins) (fun e σ=>e= .panic x∧σ.df= [])):
 sN P gl f args (aR (List.replicate m none) ins) (.j4 x) (dm m []):=by
 intro E w vs hv hw
 obtain⟨hl,ahQ⟩:=hv.get
 refine CallsIn.calls (F:=Wd gl) (n:=0) (callsIn_of_wp hf hb trivial ?_ hro) (fun k d hd=>by cases hd)
 have hg:bX gl (mn fn.ntmps m args ins) E {tmps:=vs.toArray++Array.replicate (fn.ntmps -vs.toArray.size) undef,defers:=[]} w:=by
  refine⟨?_,?_,hw,trivial⟩
  ·grind [mn]
  ·intro i x hx v hv'
   simp only[mn] at hx
   rw[Array.getElem?_append] at hv'
   simp only[List.getElem?_append] at hx
   split at hx
   ·grind
   ·rw[List.getElem?_replicate] at hx
    split at hx
    ·cases hx;trivial
    grind
 refine wpIn_mono (h E _ w hg) ?_
 rintro ex a' w' ⟨e,σ',E',h1,⟨rfl,hd⟩,h3,h4⟩
 have hdf:a'.defers= []:=by
  have:=h3.df
  rw[hd] at this
  cases hds:a'.defers with
  |nil=>rfl
  |cons d l=>rw[hds] at this;trivial
 have hw2:HW gl E' w' (dm m []):=h3.hw.less (fun b k hb=>absurd (fm hb) (by simp))
 have hx:Ext gl.md (Own (aR (List.replicate m none) ins) E) E w (Own (dm m []) E') E' w':=
  {h4 with own:=fun g ⟨b,k,hb,hgb⟩=>absurd (fm hb) (by simp)}
 cases ex with
 |panic ch=>exact⟨hdf,E',h1,hw2,hx⟩
 |_=>trivial
theorem aX.B1{P:Program}{G:bR}(T:bD P G){gl:Ctx}{I:List IC}{H:Hs}{Γ:List aX}(hΓ:∀C∈Γ,C.holds P gl)(hI:∀C∈I,C.holds P gl∧∀S w,gl.B S w)(hro:gl.ro=none){rs:List ResultVar}{kC:FuncId}{A:List Sh}{B:List (Nat×gr)}{m nt:Nat}{s:Sh}{F:SS}{ob:List Nat}{f:prod (sM A (iI B []))→Option (Sum (prod (s.H [])) F.T)}
 {fn:Func} {c:Code} (ahS:∀vs w,(callFunc kC vs).run P w= .ok (.enter kC vs) w) (hf:P.funcs[kC]? =some fn) (hb:fn.body=some c) (hrs:fn.results.toList=rs) (hnt:fn.ntmps=nt) (hF:F.df= [])
 (ah8:∀r:F.T,IH (ju G rs (F.st y0 r))=true)
 (h:∀d,f d=walk P G I H Γ c gl true (mn nt m (yk y0 A d) (dj (oi y0 B (yl A d)))) (uH s F)):
 (aE G rs kC A B m F ob (.j4 s f)).holds P gl:=by
 refine⟨?_,?_⟩
 ·intro d r hd
  have hd':f d=some (.inr r):=hd
  rw[h d] at hd'
  refine⟨ahS,?_⟩
  have ahL:=j6 T hΓ (fun _=>hro) (fun _=>hI) hd'
  subst hnt
  refine sN.yw T hf hb hro (σe:=F.st y0 r) (cZ.mono ahL ?_) ?_ ?_ ?_
  ·intro e σ he
   cases e with
   |
    ret=>
    simp only[uH] at he
    split at he
    ·rename_i σ1 h1
     obtain⟨y,hy,e⟩:=map_some he
     cases e
     exact⟨Or.inl rfl,σ1,h1,SS.iJ hy⟩
    grind
   |
    normal=>
    simp only[uH] at he
    split at he
    ·rename_i σ1 h1
     obtain⟨y,hy,e⟩:=map_some he
     cases e
     exact⟨Or.inr rfl,σ1,h1,SS.iJ hy⟩
    grind
   |
    panic v=>
    simp only[uH] at he
    split at he<;>simp_all
   |exit i=>trivial
  ·show(F.st y0 r).df= []
   simp only[SS.st,SS.mn]
   obtain⟨nt',nh,tm,hp,df⟩:=F
   simp only at hF
   subst hF
   rfl
  ·rw[hrs];exact mC (ah8 r)
  ·intro b k hbk;exact jI hbk
 ·rintro d x ⟨p,hd,rfl⟩
  have hd':f d=some (.inl p):=hd
  rw[h d] at hd'
  refine⟨ahS,?_⟩
  have ahL:=j6 T hΓ (fun _=>hro) (fun _=>hI) hd'
  subst hnt
  refine sN.II hf hb hro (cZ.mono ahL ?_)
  intro e σ he
  cases e with
  |
   ret=>
   simp only[uH] at he
   split at he<;>simp_all
  |
   normal=>
   simp only[uH] at he
   split at he<;>simp_all
  |
   panic v=>
   simp only[uH] at he
   split at he
   ·rename_i hdf
    obtain⟨y,hy,e⟩:=map_some he
    grind [Sh.wv]
   grind
  |exit i=>trivial
theorem aX.Tq{P:Program}{gl:Ctx}{G:bR}{rs:List ResultVar}{kC:FuncId}{A:List Sh}{B:List (Nat×gr)}{m:Nat}{F:SS}{ob:List Nat}:(aE G rs kC A B m F ob (.bC fun _=>none)).holds P gl:=
 ⟨fun _ _ h=>(by trivial),fun _ _ h=>h.elim⟩
theorem aX.sub{P:Program}{gl:Ctx}{G:bR}{rs:List ResultVar}{kC:FuncId}{A:List Sh}{B:List (Nat×gr)}{m:Nat}{F:SS}{ob:List Nat}{f g:prod (sM A (iI B []))→Option F.T}(h:(aE G rs kC A B m F ob (.bC f)).holds P gl)(hs:∀d r,g d=some r→f d=some r):(aE G rs kC A B m F ob (.bC g)).holds P gl:=
 ⟨fun d r hd=>h.ret d r (hs d r hd),fun _ _ h=>h.elim⟩
def Ps(P:Program)(gl:Ctx):List aX→Prop
 |[]=>True
 |C::l=>C.holds P gl∧Ps P gl l
theorem hold{P:Program}{gl:Ctx}:∀{l:List aX},Ps P gl l→∀C∈l,C.holds P gl
 |[],_,C,h=>by cases h
 |
  D::l,h,C,hC=>by
  rcases List.mem_cons.1 hC with rfl|hC
  ·exact h.1
  ·exact hold h.2 C hC
def Pt(P:Program)(gl:Ctx):List IC→Prop
 |[]=>True
 |C::l=>C.holds P gl∧Pt P gl l
theorem ES{P:Program}{l:List Hb}:∀{L:List IC},Pt P (Ctx.of l) L→∀C∈L,C.holds P (Ctx.of l)∧∀S w,(Ctx.of l).B S w
 |[],_,C,h=>by cases h
 |
  D::L,h,C,hC=>by
  rcases List.mem_cons.1 hC with rfl|hC
  ·exact⟨h.1,fun _ _=>trivial⟩
  ·exact ES h.2 C hC
theorem aH{P:Program}{gl:Ctx}:∀C∈([]:List IC),C.holds P gl∧∀S w,gl.B S w:=fun C h=>by cases h
end Go.Ax
