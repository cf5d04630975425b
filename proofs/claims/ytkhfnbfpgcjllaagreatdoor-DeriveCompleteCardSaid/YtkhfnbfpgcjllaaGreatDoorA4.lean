/- The machines: what it means to be walked or run, part 4. No condition. -/
import Derived.Test.YtkhfnbfpgcjllaaGreatDoorA3
import Derived.Laws.Cover3
import Derived.RangeFuncRecord
namespace Go.Ax
def SZ(b b' c:Nat):Nat:=if Nat.beq c b then b' else c
def rn(b b':Nat):AV→Option AV
 | .own c=>some (.own (SZ b b' c))
 | .nQ c lo len=>some (.nQ (SZ b b' c) lo len)
 | .mL c p lo len=>some (.mL (SZ b b' c) p lo len)
 | .ptr c p=>some (.ptr (SZ b b' c) p)
 | .mp c=>some (.mp (SZ b b' c))
 |
  .func fn fs cs=>match rn b b' fs,rn b b' cs with
  |some f,some c=>if f.atoms&&c.atoms then some (.func fn f c) else none
  |_,_=>none
 |
  .iface u v=>match rn b b' v with
  |some x=>some (.iface u x)
  |none=>none
 |
  .cons x y=>match rn b b' x,rn b b' y with
  |some u,some v=>some (.cons u v)
  |_,_=>none
 | .bot=>none
 | .ky _=>none
 | .opt _ _=>none
 | .jc _=>none
 |x=>some x
def Env.mv(E:Env)(b b':Nat):Env:={E with P:=fun c=>if c=b' then E.P b else E.P c,g:=fun c=>if c=b' then E.g b else E.g c,sv:=fun c=>if c=b' then E.sv b else E.sv c,bt:=fun c=>if c=b' then E.bt b else E.bt c}
theorem BE{E:Env}{b b' c:Nat}(h:c≠b'):(E.mv b b').g (SZ b b' c)=E.g c∧(E.mv b b').sv (SZ b b' c)=E.sv c∧(E.mv b b').bt (SZ b b' c)=E.bt c:=by
 grind [SZ,dm,Env.mv]
theorem NN(b b':Nat)(x y:AV)(h:rn b b' x=some y):y.isAgg=x.isAgg:=by
 cases x with
 |
  func fn fs cs=>
  simp only[rn] at h
  split at h
  ·split at h
   ·cases h;rfl
   grind
  grind
 |
  iface u v=>
  simp only[rn] at h
  split at h
  ·cases h;rfl
  grind
 |
  cons a c=>
  simp only[rn] at h
  split at h
  ·cases h;rfl
  grind
 |bot=>trivial
 |ky l=>trivial
 |opt c v=>trivial
 |jc c=>trivial
 |_=>simp only[rn,fG] at h;subst h;rfl
theorem aaC{E:Env}{w:World}{b b':Nat}:∀{x y:AV}{vs:List Value},b'∉x.ids→rn b b' x=some y→RC E w x vs→RC (E.mv b b') w y vs:=by
 intro x
 induction x with
 |own c=>
  intro y vs hi h hr;simp only[rn,fG] at h;subst h
  obtain⟨_,e2,_⟩:=BE (E:=E) (b:=b) (b':=b') (c:=c) (fun e=>hi (by simp[AV.ids,e]))
  simp only[RC];rw[e2];exact hr
 |nQ c lo len=>
  intro y vs hi h hr;simp only[rn,fG] at h;subst h
  obtain⟨_,e2,e3⟩:=BE (E:=E) (b:=b) (b':=b') (c:=c) (fun e=>hi (by simp[AV.ids,e]))
  simp only[RC];rw[e2,e3];exact hr
 |mL c p lo len=>
  intro y vs hi h hr;simp only[rn,fG] at h;subst h
  obtain⟨e1,_,e3⟩:=BE (E:=E) (b:=b) (b':=b') (c:=c) (fun e=>hi (by simp[AV.ids,e]))
  simp only[RC];rw[e1,e3];exact hr
 |ptr c p=>grind [rn,BE,AV.ids,RC]
 |mp c=>grind [rn,BE,AV.ids,RC]
 |
  func fn fs cs ih1 ih2=>
  intro y vs hi h hr
  simp only[rn] at h
  simp only[AV.ids,j5,not_or] at hi
  split at h
  ·rename_i f c h1 h2
   split at h
   ·rename_i ha
    cases h
    simp only[bP] at ha
    obtain⟨f',c',e,r1,r2,_,_⟩:=hr
    exact⟨f',c',e,ih1 hi.1 h1 r1,ih2 hi.2 h2 r2,ha.1,ha.2⟩
   grind
  grind
 |
  iface u v ih=>
  intro y vs hi h hr
  simp only[rn] at h
  split at h
  ·rename_i z hz
   cases h
   obtain⟨x,e,hr⟩:=hr
   refine⟨x,e,?_⟩
   have ao2:=NN b b' v z hz
   rcases hr with⟨h1,cs,e2,h3⟩|⟨h1,h3⟩
   ·exact Or.inl ⟨by grind,cs,e2,ih hi hz h3⟩
   ·exact Or.inr ⟨by grind,ih hi hz h3⟩
  grind
 |
  cons a c ih1 ih2=>
  intro y vs hi h hr
  simp only[rn] at h
  simp only[AV.ids,j5,not_or] at hi
  split at h
  ·rename_i u v h1 h2
   cases h
   obtain⟨v1,v2,e,r1,r2⟩:=hr
   exact⟨v1,v2,e,ih1 hi.1 h1 r1,ih2 hi.2 h2 r2⟩
  grind
 |bot=>intro y vs _ h;trivial
 |ky l=>intro y vs _ h;trivial
 |opt c v=>intro y vs _ h;trivial
 |jc c=>intro y vs _ h;trivial
 |_=>intro y vs _ h hr;simp only[rn,fG] at h;subst h;exact hr
theorem WK{E:Env}{w:World}{b b':Nat}:Good E (E.mv b b') w (fun x=>if eB b' x.ids then none else rn b b' x) where
 mp:=by
  intro c y h
  split at h
  ·cases h
  ·rename_i hn
   have hn:=i4 (show eB b' (AV.mp c).ids=false by grind)
   grind [rn,BE,AV.ids]
 rc:=by
  grind [aaC,i4]
 agg:=by
  grind [NN]
 fn:=
  by
  intro fn fs cs y h
  split at h
  ·cases h
  ·rename_i hn
   have hn:=i4 (show eB b' (AV.func fn fs cs).ids=false by grind)
   simp only[AV.ids,j5,not_or] at hn
   simp only[rn] at h
   have f1:eB b' fs.ids=false:=by
    cases hh:eB b' fs.ids with
    |false=>rfl
    |true=>exact absurd (hasNatMem hh) hn.1
   have f2:eB b' cs.ids=false:=by
    cases hh:eB b' cs.ids with
    |false=>rfl
    |true=>exact absurd (hasNatMem hh) hn.2
   grind
where
 hasNatMem {d:Nat}:∀{l:List Nat},eB d l=true→d∈l
  |[],h=>by cases h
  |
   x::l,h=>by
   simp only[eB,jV] at h
   rcases h with h|h
   ·simp_all
   ·exact dH _ (hasNatMem h)
def rename(b b':Nat)(σ:St):Option St:=
 match iS σ.hp b,iS σ.hp b' with
 |
  some k,none=>if Nat.beq b b'||Nat.blt b' 16 then none else
  match St.kj (fun x=>if eB b' x.ids then none else rn b b' x) {σ with hp:=σ.hp.set b none},mS (fun x=>if eB b' x.ids then none else rn b b' x) (some k) with
  |some σ',some k'=>some {σ' with hp:=σ'.hp.set b' k'}
  |_,_=>none
 |_,_=>none
theorem Wk.rename{gl:Ctx}{b b':Nat}{σ σ':St}(h:Ax.rename b b' σ=some σ'):Wk gl σ σ':=by
 intro E a w hg
 unfold Ax.rename at h
 split at h
 ·rename_i k hk hk'
  have hbk:=dU σ.hp b k hk
  split at h
  ·cases h
  ·rename_i hne0
   have hne:b≠b':=fun e=>hne0 (by simp[e])
   have h16:16≤b':=by
    simp_all
   split at h
   ·rename_i σ1 k1 h1 h2
    cases h
    unfold St.kj at h1
    split at h1
    ·rename_i hp' df' h3 h4
     cases h1
     have apx:=WK (E:=E) (w:=w) (b:=b) (b':=b')
     have hEh:∀i j,(i=b'→j=b)→(i≠b'→j=i)→∀x,(E.mv b b').has i x↔E.has j x:=by
      grind [Env.has,Env.mv]
     have hEo:∀i,i≠b'→(E.mv b b').g i=E.g i∧(E.mv b b').sv i=E.sv i∧(E.mv b b').bt i=E.bt i:=fun i hi=>by simp[Env.mv,hi]
     have hEn:(E.mv b b').g b'=E.g b∧(E.mv b b').sv b'=E.sv b∧(E.mv b b').bt b'=E.bt b:=by simp[Env.mv]
     have src:∀(i:Nat)(k':aX),(hp'.set b' k1)[i]? =some (some k')→(i=b'∧k1=some k')∨(i≠b'∧i≠b∧∃k0,σ.hp[i]? =some (some k0)∧mS (fun x=>if eB b' x.ids then none else rn b b' x) (some k0)=some (some k')):=by
      intro i k' hi
      rw[fY] at hi
      split at hi
      ·grind
      grind [nP]
     have gOf:∀(i:Nat)(k':aX),(hp'.set b' k1)[i]? =some (some k')→∃j k0,σ.hp[j]? =some (some k0)∧(∀x,(E.mv b b').has i x↔E.has j x)∧(i=b'→j=b)∧(i≠b'→j=i):=by
      grind
     refine⟨E.mv b b',⟨?_,?_,⟨?_,?_,?_,hg.hw.slt,hg.hw.gl,?_⟩,apx.RD h4 hg.df⟩,⟨rfl,Tp.r rfl rfl,rfl,cV _,fun _ _ _=>rfl,fun _ h=>h,fun _ h=>Or.inl h,?_,fun i hi=>hEo i (by omega)⟩⟩
     ·simp only[nN];exact hg.len
     ·intro i y hy v hv
      rcases nO hy with e|⟨x,e1,e2,e3⟩
      ·subst e;trivial
      ·exact RV.gZ (apx.RV e3 (RV.mN e2 (hg.tm i x e1 v hv)))
     ·intro i k' hi
      rcases src i k' hi with⟨e,e'⟩|⟨e1,e2,k0,e3,e4⟩
      ·subst e
       rw[e'] at h2
       exact apx.RB (fun _ h=>h) (b:=b) (b':=i) hEn.1 hEn.2.1 hEn.2.2 (fun _ g hp=>by simpa[Env.mv] using hp) h2 (hg.hw.eJ b k hbk)
      ·exact apx.RB (fun _ h=>h) (b:=i) (b':=i) (hEo i e1).1 (hEo i e1).2.1 (hEo i e1).2.2 (fun _ g hp=>by simpa[Env.mv,e1] using hp) e4 (hg.hw.eJ i k0 e3)
     ·intro i j k2 k3 g' hi hj g1 g2
      obtain⟨i',k4,e1,e2,e3,e4⟩:=gOf i k2 hi
      obtain⟨j',k5,f1,f2,f3,f4⟩:=gOf j k3 hj
      have g1:=(e2 _).1 g1;have g2:=(f2 _).1 g2
      have hij:=hg.hw.gY i' j' k4 k5 g' e1 f1 g1 g2
      grind
     ·intro i k' g' hi hgi hs
      obtain⟨i',k4,e1,e2,_,_⟩:=gOf i k' hi
      exact hg.hw.fZ i' k4 g' e1 ((e2 _).1 hgi) hs
     ·intro i k' g' hi hgi
      obtain⟨i',k4,e1,e2,_,_⟩:=gOf i k' hi
      rcases(e2 _).1 (Or.inr hgi) with q|q
      ·exact cU.below hg.hw ⟨i',k4,e1,Or.inl q⟩
      ·exact hg.hw.xi i' k4 g' e1 q
     ·rintro g' ⟨i,k',hi,hgi⟩
      obtain⟨i',k4,e1,e2,_,_⟩:=gOf i k' hi
      exact Or.inl ⟨i',k4,e1,(e2 _).1 hgi⟩
    grind
   grind
 grind
def DJ(s b:Nat)(e:TypeId)(bs:Nat)(t:Ty)(σ:St):Option St:=
 match σ.tm[s]? with
 |some .aM=>if σ.jo b&&Nat.blt 0 t.size then some {σ with tm:=σ.tm.set s (.own b),hp:=σ.hp.set b (some (.row e bs t []))} else none
 |_=>none
theorem Wk.DJ{gl:Ctx}{s b:Nat}{e:TypeId}{bs:Nat}{t:Ty}{σ σ':St}(h:Ax.DJ s b e bs t σ=some σ'):Wk gl σ σ':=by
 intro E a w hg
 unfold Ax.DJ at h
 split at h
 ·rename_i hs
  split at h
  ·rename_i hc
   cases h
   simp only[bP] at hc
   have hlt:s<a.tmps.size:=by rw[hg.len];grind
   have ha:=RV.atom rfl (hg.tm s _ hs a.tmps[s] (by grind))
   simp[RC] at ha
   have hsz:0<t.size:=by simp_all
   obtain⟨g1,x1⟩:=hg.fresh (w':=w) (St.gL hc.1) (g:=none) (sv:=.slice none 0 0) (t:=.arr 0 t) (k:=.row e bs t []) rfl (Tp.r rfl rfl) rfl (cV _) (fun _ _=>rfl) (fun i hi=>by cases hi)
    ⟨by simp[Env.at],by simp,by simp,hsz,none,0,by simp[Env.at],by grind,Or.inl ⟨⟨rfl,rfl⟩,by simp[Env.at],rfl⟩⟩
   refine⟨_,⟨by simp[hg.len],?_,g1.hw,g1.df⟩,x1⟩
   intro i x hx v hv
   rw[fY] at hx
   split at hx
   ·rename_i e';subst e'
    split at hx
    ·cases hx
     have:v= .slice none 0 0:=by grind
     subst this
     exact RV.gZ (Or.inr ⟨rfl,by simp[Env.at],none,0,0,by simp[Env.at]⟩)
    grind
   ·exact g1.tm i x hx v hv
  grind
 grind
def oF:Ty→Path→Bool
 | .pair a _,.d6 0::p=>oF a p
 | .pair _ b,.d6 (k+1)::p=>oF b (.d6 k::p)
 |_,[]=>true
 |_,_=>false
theorem sV:∀{t:Ty}{p:Path},oF t p=true→t.valid p:=by
 intro t
 induction t with
 |
  pair a b ih1 ih2=>
  intro p h
  cases p with
  |nil=>trivial
  |
   cons s p=>
   cases s with
   |
    d6 k=>cases k with
    |zero=>grind [oF,Ty.valid]
    |succ k=>grind [oF,Ty.valid]
   |idx i=>trivial
 |
  _=>
  grind [Ty.valid,oF]
def z8(c:Nat)(p:Path)(b:Nat)(e:TypeId)(bs:Nat)(t:Ty)(σ:St):Option St:=
 match iS σ.hp c with
 |
  some (.var tt v)=>match v.get p,v.set p (.own b) with
  |some .aM,some u=>if σ.jo b&&Nat.blt 0 t.size&&u.dY tt&&oF tt p&& !Nat.beq c b then some {σ with hp:=(σ.hp.set b (some (.row e bs t []))).set c (some (.var tt u))} else none
  |_,_=>none
 |
  some (.dB e2 bs2 tt xs i v)=>match v.get p,v.set p (.own b) with
  |some .aM,some u=>if σ.jo b&&Nat.blt 0 t.size&&u.dY tt&&oF tt p&& !Nat.beq c b then some {σ with hp:=(σ.hp.set b (some (.row e bs t []))).set c (some (.dB e2 bs2 tt xs i u))} else none
  |_,_=>none
 |_=>none
theorem Wk.z8{gl:Ctx}{c:Nat}{p:Path}{b:Nat}{e:TypeId}{bs:Nat}{t:Ty}{σ σ':St}(h:Ax.z8 c p b e bs t σ=some σ'):Wk gl σ σ':=by
 intro E a w hg
 unfold Ax.z8 at h
 split at h
 ·rename_i tt v hc
  have hbk:=dU σ.hp c _ hc
  split at h
  ·rename_i u apf bJ
   split at h
   ·rename_i hk
    cases h
    simp only[bP] at hk
    obtain⟨⟨⟨⟨k1,k2⟩,k3⟩,k4⟩,k5⟩:=hk
    have hcb:c≠b:=fun e'=>by simp_all
    have hsz:0<t.size:=by simp_all
    obtain⟨g1,x1⟩:=hg.fresh (w':=w) (St.gL k1) (g:=none) (sv:=.slice none 0 0) (t:=.arr 0 t) (k:=.row e bs t []) rfl (Tp.r rfl rfl) rfl (cV _) (fun _ _=>rfl) (fun i hi=>by cases hi)
     ⟨by simp[Env.at],by simp,by simp,hsz,none,0,by simp[Env.at],by grind,Or.inl ⟨⟨rfl,rfl⟩,by simp[Env.at],rfl⟩⟩
    have hb1:(σ.hp.set b (some (.row e bs t [])))[c]? =some (some (.var tt v)):=by
     grind
    obtain⟨r1,r2,g,cs,e',r3,r4,r5⟩:=g1.hw.eJ c _ hb1
    have hva:=sV k4
    obtain⟨s,q1,q2,q3,q4⟩:=AV.jn r5 r2 hva apf
    have hs1:s.size=1:=AV.hH q2▸rfl
    have hown:RC (E.at b none (.slice none 0 0) (.arr 0 t)) w (.own b) [.slice none 0 0]:=⟨by simp[Env.at],none,0,0,by simp[Env.at]⟩
    obtain⟨s',p1,p2,p3,p4⟩:=AV.pD hown r5 r2 hva (fun s' hs'=>by grind) bJ
    rw[q1] at p1;cases p1
    simp only[RC] at q4
    have hcs:cs.toList.take (tt.off p)++[Value.slice none 0 0]++cs.toList.drop (tt.off p+s.size)=cs.toList:=by
     grind [oL]
    rw[hcs] at p4
    have hw2:=g1.hw.write (w':=w) (k':=.var tt u) hb1 rfl (fun _ _=>rfl) ⟨r1,k3,g,cs,e',r3,r4,p4⟩
    refine⟨_,⟨g1.len,g1.tm,hw2,g1.df⟩,{x1 with own:=?_ }⟩
    intro g' hg'
    exact x1.own g' (cU.rN hb1 hg')
   grind
  grind
 ·rename_i e2 bs2 tt xs i v hc
  have hbk:=dU σ.hp c _ hc
  split at h
  ·rename_i u apf bJ
   split at h
   ·rename_i hk
    cases h
    simp only[bP] at hk
    obtain⟨⟨⟨⟨k1,k2⟩,k3⟩,k4⟩,k5⟩:=hk
    have hcb:c≠b:=fun e'=>by simp_all
    have hsz:0<t.size:=by simp_all
    obtain⟨g1,x1⟩:=hg.fresh (w':=w) (St.gL k1) (g:=none) (sv:=.slice none 0 0) (t:=.arr 0 t) (k:=.row e bs t []) rfl (Tp.r rfl rfl) rfl (cV _) (fun _ _=>rfl) (fun i hi=>by cases hi)
     ⟨by simp[Env.at],by simp,by simp,hsz,none,0,by simp[Env.at],by grind,Or.inl ⟨⟨rfl,rfl⟩,by simp[Env.at],rfl⟩⟩
    have hb1:(σ.hp.set b (some (.row e bs t [])))[c]? =some (some (.dB e2 bs2 tt xs i v)):=by
     grind
    obtain⟨h1,h2,h3,h4,h5,r2,g,cap,cs,z1,z2,z3,z4,z5,z6,z7,r5,z9⟩:=g1.hw.eJ c _ hb1
    have hva:=sV k4
    obtain⟨s,q1,q2,q3,q4⟩:=AV.jn r5 r2 hva apf
    have hs1:s.size=1:=AV.hH q2▸rfl
    have hown:RC (E.at b none (.slice none 0 0) (.arr 0 t)) w (.own b) [.slice none 0 0]:=⟨by simp[Env.at],none,0,0,by simp[Env.at]⟩
    obtain⟨s',p1,p2,p3,p4⟩:=AV.pD hown r5 r2 hva (fun s' hs'=>by grind) bJ
    rw[q1] at p1;cases p1
    simp only[RC] at q4
    have hcs:((cs.toList.drop (i*tt.size)).take tt.size).take (tt.off p)++[Value.slice none 0 0]++((cs.toList.drop (i*tt.size)).take tt.size).drop (tt.off p+s.size)=(cs.toList.drop (i*tt.size)).take tt.size:=by
     grind [oc,oL]
    rw[hcs] at p4
    have hw2:=g1.hw.write (w':=w) (k':=.dB e2 bs2 tt xs i u) hb1 rfl (fun _ _=>rfl) ⟨h1,h2,h3,h4,h5,k3,g,cap,cs,z1,z2,z3,z4,z5,z6,z7,p4,z9⟩
    refine⟨_,⟨g1.len,g1.tm,hw2,g1.df⟩,{x1 with own:=?_ }⟩
    intro g' hg'
    exact x1.own g' (cU.rN hb1 hg')
   grind
  grind
 grind
def Env.tr(E:Env)(b d:Nat)(v:Value)(t:Ty):Env:=
 {E with P:=fun c=>if c=d then E.P b else E.P c,g:=fun c=>if c=d then E.g b else E.g c,sv:=fun c=>if c=d then v else E.sv c,bt:=fun c=>if c=d then t else E.bt c}
theorem Env.Kf{E:Env}{b d:Nat}{v:Value}{t:Ty}{ids:List Nat}(h:d∉ids):E.on (E.tr b d v t) ids:=fun c hc=>by
 grind [Env.tr]
def tM(c:Nat)(p:Path)(d:Nat)(σ:St):Option St:=
 match iS σ.hp c with
 |
  some (.var tt v)=>match v.get p,v.set p (.own d) with
  |
   some (.nQ b 0 len),some u=>match iS σ.hp b with
   |some (.row e bs t xs)=>if σ.jo d&&u.dY tt&&oF tt p&& !Nat.beq c b then some {σ with hp:=((σ.hp.set b none).set d (some (.row e bs t (xs.take len)))).set c (some (.var tt u))} else none
   |_=>none
  |_,_=>none
 |_=>none
theorem Wk.tM{gl:Ctx}{c:Nat}{p:Path}{d:Nat}{σ σ':St}(h:Ax.tM c p d σ=some σ'):Wk gl σ σ':=by
 intro E a w hg
 unfold Ax.tM at h
 split at h
 case h_2=>cases h
 rename_i tt v hc
 have hbk:=dU σ.hp c _ hc
 split at h
 case h_2=>cases h
 rename_i b len u apf bJ
 split at h
 case h_2=>cases h
 rename_i e bs t xs hb
 have hbr:=dU σ.hp b _ hb
 split at h
 case isFalse=>cases h
 rename_i hk
 cases h
 simp only[bP] at hk
 obtain⟨⟨⟨k1,k2⟩,k3⟩,k4⟩:=hk
 have hcb:c≠b:=fun e'=>by grind
 have hfr:=St.gL k1
 have hids:=pJ.1 hfr.1
 have hdb:d≠b:=fun e'=>hfr.2.1 _ (e'▸hbr)
 have hdc:d≠c:=fun e'=>hfr.2.1 _ (e'▸hbk)
 have hdv:d∉v.ids:=hids.2.2 c _ hbk
 have h16:16≤d:=hfr.2.2
 obtain⟨r1,r2,g,cs,e',r3,r4,r5⟩:=hg.hw.eJ c _ hbk
 obtain⟨s1,s2,s3,s4,ra,cap,s5,s6,s7⟩:=hg.hw.eJ b _ hbr
 have hva:=sV k3
 obtain⟨s,q1,q2,q3,q4⟩:=AV.jn r5 r2 hva apf
 have hs1:s.size=1:=AV.hH q2▸rfl
 obtain⟨a1,c1,n1,t1,z1,z2,z3,z4,a',z5,z6⟩:=q4
 rw[s5] at z2;cases z2
 have za:a'=ra:=by
  rcases z6 with z6|z6
  ·grind
  grind [Addr.ka]
 rw[za] at z5
 have hlen:(xs.take len).length=len:=by grind
 have kp:di E w (E.tr b d (.slice ra len cap) (.arr (xs.take len).length t)) w:=⟨fun _ _=>rfl,fun _ h=>h⟩
 have hEh:∀i j,(i=d→j=b)→(i≠d→j=i)→∀x,(E.tr b d (.slice ra len cap) (.arr (xs.take len).length t)).has i x↔E.has j x:=by
  grind [Env.has,Env.tr]
 have src:∀(i:Nat)(k':aX),((((σ.hp.set b none).set d (some (.row e bs t (xs.take len)))).set c (some (.var tt u)))[i]? =some (some k'))→
  (i=c∧k'= .var tt u)∨(i=d∧k'= .row e bs t (xs.take len))∨(i≠c∧i≠d∧i≠b∧σ.hp[i]? =some (some k')):=by
  grind
 have gOf:∀(i:Nat)(k':aX),((((σ.hp.set b none).set d (some (.row e bs t (xs.take len)))).set c (some (.var tt u)))[i]? =some (some k'))→
  ∃j k0,σ.hp[j]? =some (some k0)∧(∀x,(E.tr b d (.slice ra len cap) (.arr (xs.take len).length t)).has i x↔E.has j x)∧(i=d→j=b)∧(i≠d→j=i):=by
  grind
 refine⟨E.tr b d (.slice ra len cap) (.arr (xs.take len).length t),⟨hg.len,?_,⟨?_,?_,?_,hg.hw.slt,hg.hw.kz kp,?_⟩,RD.mono kp (fun x hx=>Env.Kf (fun hd=>hids.2.1 x hx hd)) hg.df⟩,
  ⟨rfl,Tp.r rfl rfl,rfl,cV _,fun _ _ _=>rfl,fun _ h=>h,fun _ h=>Or.inl h,?_,fun i hi=>by grind [Env.tr]⟩⟩
 ·intro i x hx v hv
  exact RV.mono kp (Env.Kf (fun hd=>hids.1 i x hx hd)) (hg.tm i x hx v hv)
 ·intro i k' hi
  rcases src i k' hi with⟨rfl,rfl⟩|⟨rfl,rfl⟩|⟨e1,e2,e3,e4⟩
  ·have r5':=RC.mono kp (Env.Kf hdv) r5
   have hown:RC (E.tr b d (.slice ra len cap) (.arr (xs.take len).length t)) w (.own d) [.slice ra len cap]:=⟨by simp[Env.tr],ra,len,cap,by simp[Env.tr]⟩
   obtain⟨s',p1,p2,p3,p4⟩:=AV.pD hown r5' r2 hva (fun s' hs'=>by grind) bJ
   rw[q1] at p1;cases p1
   have z5':List.take s.size (List.drop (tt.off p) cs.toList)= [.slice ra len cap]:=by grind
   have hcs:cs.toList.take (tt.off p)++[Value.slice ra len cap]++cs.toList.drop (tt.off p+s.size)=cs.toList:=by
    grind [oc,oL]
   rw[hcs] at p4
   exact⟨by simpa[Env.tr,Ne.symm hdc] using r1,k2,g,cs,e',by simpa[Env.tr,Ne.symm hdc] using r3,r4,p4⟩
  ·refine⟨by simp[Env.tr],by rw[hlen];exact cW (ju _ (by omega)) s2,by grind,s4,ra,cap,by simp[Env.tr,hlen],s6,?_⟩
   rcases s7 with⟨x1,x2,x3⟩|⟨g',c',x1,x2,x3,x4,x5,x6⟩
   ·grind [Env.tr]
   ·refine Or.inr ⟨g',c',by simpa[Env.tr] using x1,x2,x3,x4,by grind,?_⟩
    have:=bO.take (fun vs x=>Rel.len) len x6
    rw[tB,rG (ju _ (by omega))] at this
    rw[hlen];trivial
  ·exact RB.mono kp (Env.Kf (by grind)) (fun _ _=>rfl) (fun _ g hp=>by simpa[Env.tr,e2] using hp) (hg.hw.eJ i k' e4)
 ·intro i j k2 k3 g' hi hj g1 g2
  obtain⟨i',k4,e1,e2,e3,e4⟩:=gOf i k2 hi
  obtain⟨j',k5,f1,f2,f3,f4⟩:=gOf j k3 hj
  have hij:=hg.hw.gY i' j' k4 k5 g' e1 f1 ((e2 _).1 g1) ((f2 _).1 g2)
  grind
 ·intro i k' g' hi hgi hs
  obtain⟨i',k4,e1,e2,_,_⟩:=gOf i k' hi
  exact hg.hw.fZ i' k4 g' e1 ((e2 _).1 hgi) hs
 ·intro i k' g' hi hgi
  obtain⟨i',k4,e1,e2,_,_⟩:=gOf i k' hi
  rcases(e2 _).1 (Or.inr hgi) with q|q
  ·exact cU.below hg.hw ⟨i',k4,e1,Or.inl q⟩
  ·exact hg.hw.xi i' k4 g' e1 q
 ·rintro g' ⟨i,k',hi,hgi⟩
  obtain⟨i',k4,e1,e2,_,_⟩:=gOf i k' hi
  exact Or.inl ⟨i',k4,e1,(e2 _).1 hgi⟩
def vq(c:Nat)(p:Path)(σ:St):Option St:=
 match iS σ.hp c with
 |
  some (.var tt v)=>match tt.sub p,v.get p with
  |
   some u,some _=>match v.set p (.gU u) with
   |some v'=>if v'.dY tt&&oF tt p then some {σ with hp:=σ.hp.set c (some (.var tt v'))} else none
   |none=>none
  |_,_=>none
 |_=>none
theorem Wk.vq{gl:Ctx}{c:Nat}{p:Path}{σ σ':St}(h:Ax.vq c p σ=some σ'):Wk gl σ σ':=by
 intro E a w hg
 unfold Ax.vq at h
 split at h
 case h_2=>cases h
 rename_i tt v hc
 have hbk:=dU σ.hp c _ hc
 split at h
 case h_2=>cases h
 rename_i u x0 hu apf
 split at h
 case h_2=>cases h
 rename_i v' bJ
 split at h
 case isFalse=>cases h
 rename_i hk
 cases h
 simp only[bP] at hk
 obtain⟨r1,r2,g,cs,e,r3,r4,r5⟩:=hg.hw.eJ c _ hbk
 have hva:=sV hk.2
 obtain⟨s,q1,q2,q3,q4⟩:=AV.jn r5 r2 hva apf
 rw[hu] at q1;cases q1
 have hj:RC E w (.gU u) (List.take u.size (List.drop (tt.off p) cs.toList)):=by
  refine⟨by grind,fun x hx=>RC.one r5 x (List.mem_of_mem_drop (List.mem_of_mem_take hx))⟩
 obtain⟨s',p1,p2,p3,p4⟩:=AV.pD hj r5 r2 hva (fun s' hs'=>by grind) bJ
 rw[hu] at p1;cases p1
 have hcs:cs.toList.take (tt.off p)++List.take u.size (List.drop (tt.off p) cs.toList)++cs.toList.drop (tt.off p+u.size)=cs.toList:=by
  grind [oL]
 rw[hcs] at p4
 have hw:=hg.hw.write (w':=w) (k':=.var tt v') hbk rfl (fun _ _=>rfl) ⟨r1,hk.1,g,cs,e,r3,r4,p4⟩
 exact⟨E,hg.carry ⟨fun _ _=>rfl,fun _ h=>h⟩ (fun _ _=>⟨rfl,rfl,rfl⟩) hw,{Ext.refl (md:=gl.md) (cU σ.hp E) E w with own:=fun g hg'=>Or.inl (cU.set hbk hg')}⟩
inductive Gh where
 |FA (ts bs:List Nat)
 |NO (s:Nat) (t:Ty)
 |Iw (b:Nat)
 |freeze (b:Nat) (t:Ty)
 |ren (b b':Nat)
 |DJ (s b:Nat) (e:TypeId) (bs:Nat) (t:Ty)
 |z8 (c:Nat) (p:Path) (b:Nat) (e:TypeId) (bs:Nat) (t:Ty)
 |oR (b:Nat)
 |Ms (b:Nat)
 |NP (b:Nat) (e:TypeId)
 |vr (b:Nat)
 |qT (b:Nat)
 |tM (c:Nat) (p:Path) (d:Nat)
 |jc (b:Nat)
 |yx (b:Nat)
 |vq (c:Nat) (p:Path)
def Gh.go(σ:St):Gh→Option St
 | .FA ts bs=>some ⟨xH ts 0 σ.tm,BX bs 0 σ.hp,σ.df⟩
 |
  .NO s t=>match σ.tm[s]? with
  |
   some x=>match x.de t with
   |some y=>some {σ with tm:=σ.tm.set s (.val t y)}
   |none=>none
  |none=>none
 |
  .Iw b=>match σ.hp[b]? with
  |
   some (some (.var t v))=>match v.de t with
   |some y=>some {σ with hp:=σ.hp.set b (some (.var t (.val t y)))}
   |none=>none
  |
   some (some (.dB e bs t xs i v))=>match v.de t with
   |some y=>some {σ with hp:=σ.hp.set b (some (.dB e bs t xs i (.val t y)))}
   |none=>none
  |some (some (.qX k v rest (some _)))=>some {σ with hp:=σ.hp.set b (some (.qX k v rest none))}
  |_=>none
 | .freeze b t=>Ax.freeze b t σ
 | .ren b b'=>rename b b' σ
 | .DJ s b e bs t=>Ax.DJ s b e bs t σ
 | .z8 c p b e bs t=>Ax.z8 c p b e bs t σ
 | .oR b=>Ax.oR b σ
 | .Ms b=>Ax.Ms b σ
 | .NP b e=>Ax.NP b e σ
 | .vr b=>Ax.vr b σ
 | .qT b=>Ax.qT b σ
 | .tM c p d=>Ax.tM c p d σ
 | .jc b=>uy b σ
 | .yx b=>sy b σ
 | .vq c p=>Ax.vq c p σ
def XV:List Gh→St→Option St
 |[],σ=>some σ
 |
  g::l,σ=>match g.go σ with
  |some σ'=>XV l σ'
  |none=>none
theorem Gh.ok{gl:Ctx}{g:Gh}{σ σ':St}(h:g.go σ=some σ'):Wk gl σ σ':=by
 cases g with
 |FA ts bs=>cases h;exact Wk.FA gl σ ts bs
 |
  NO s t=>
  grind [Gh.go,Wk.NO]
 |
  Iw b=>
  grind [Gh.go,Wk.Iw,Wk.aiY,Wk.mcl]
 |freeze b t=>exact Wk.freeze h
 |ren b b'=>exact Wk.rename h
 |DJ s b e bs t=>exact Wk.DJ h
 |z8 c p b e bs t=>exact Wk.z8 h
 |oR b=>exact Wk.oR h
 |Ms b=>exact Wk.Ms h
 |NP b e=>exact Wk.NP h
 |vr b=>exact Wk.vr h
 |qT b=>exact Wk.qT h
 |tM c p d=>exact Wk.tM h
 |jc b=>exact Wk.uy h
 |yx b=>exact Wk.sy h
 |vq c p=>exact Wk.vq h
theorem Iy{gl:Ctx}:∀{l:List Gh}{σ σ':St},XV l σ=some σ'→Wk gl σ σ'
 |[],σ,σ',h=>by cases h;exact Wk.refl gl σ
 |
  g::l,σ,σ',h=>by
  simp only[XV] at h
  split at h
  ·rename_i σ1 h1;exact(Gh.ok h1).trans (Iy h)
  ·cases h
section
variable{P:Program} {gl:Ctx} {σ:St} {Q:jU→St→Prop}
theorem eV.wk{c:Code}{σ':St}(h:Wk gl σ σ')(hr:eV P gl c σ' Q):eV P gl c σ Q:=by
 intro E a w hg
 obtain⟨E1,g1,x1⟩:=h E a w hg
 refine wpIn_mono (hr E1 a w g1) ?_
 rintro ex a2 w2 ⟨x,σ2,E2,h1,h2,h3,h4⟩
 exact⟨x,σ2,E2,h1,h2,h3,x1.trans h4⟩
theorem eV.post{c:Code}{Q':jU→St→Prop}(hr:eV P gl c σ Q')(hn:∀e σ',e≠.normal→Q' e σ'→Q e σ')(h:∀σ',Q' .normal σ'→∃σ2,Wk gl σ' σ2∧Q .normal σ2):eV P gl c σ Q:=by
 intro E a w hg
 refine wpIn_mono (hr E a w hg) ?_
 rintro ex a2 w2 ⟨x,σ2,E2,h1,h2,h3,h4⟩
 by_cases e:x= .normal
 ·subst e
  obtain⟨σ3,h5,h6⟩:=h σ2 h2
  obtain⟨E3,g3,x3⟩:=h5 E2 a2 w2 h3
  exact⟨.normal,σ3,E3,by cases ex<;>first|exact h1|exact h1.elim,h6,g3,h4.trans x3⟩
 ·exact⟨x,σ2,E2,h1,hn x σ2 e h2,h3,h4⟩
theorem eV.gh{c:Code}(l:List Gh){σ':St}(h:XV l σ=some σ')(hr:eV P gl c σ' Q):eV P gl c σ Q:=eV.wk (Iy h) hr
end
structure Cl(gl:Ctx)(Q:jU→St→Prop):Prop where
 n:∀σ σ',Wk gl σ σ'→Q .normal σ'→Q .normal σ
 e:∀i σ σ',Wk gl σ σ'→Q (.exit i) σ'→Q (.exit i) σ
theorem dn{α:Type}{p:Prop}[Decidable p]{k:Option α}{r:α}(h:(if p then k else none)=some r):p∧k=some r:=by
 grind
theorem bind_some{α β:Type}{x:Option α}{f:α→Option β}{r:β}(h:x.bind f=some r):∃y,x=some y∧f y=some r:=by
 cases x<;>grind
inductive dN(β ρ:Type) where
 |aS (b:β)
 |ret (r:ρ)
def rY{α:Type}:List (Nat×α)→List α→List α
 |[],l=>l
 |(i,x)::m,l=>rY m (l.set i x)
def dA:Nat:=18446744073709551616
abbrev aQ(n:Int):Int:=IntKind.i64.wrap n
def nth(t:Ty)(xs:List t.den)(i:Int):t.den:=xs.getD i.toNat t.aH
end Go.Ax
namespace Go.Ax
@[reducible] def prod:List Type→Type
 |[]=>Unit
 |t::l=>t×prod l
@[reducible] def ky:List Type→Type
 |[]=>Unit
 |[t]=>t
 |t::u::l=>t×ky (u::l)
def UF:(l:List Type)→prod l→ky l
 |[],_=>()
 |[_],d=>d.1
 |_::u::l,d=>(d.1,UF (u::l) d.2)
def vZ:(l:List Type)→ky l→prod l
 |[],_=>()
 |[_],d=>(d,())
 |_::u::l,d=>(d.1,vZ (u::l) d.2)
theorem no{α:Type}{e:α}{p:Prop}(h:(none:Option α)=some e):p:=by cases h
theorem vu:∀(l:List Type)(d:prod l),vZ l (UF l d)=d
 |[],_=>rfl
 |[_],_=>rfl
 |_::u::l,d=>by show(d.1,vZ (u::l) (UF (u::l) d.2))=d;rw[vu (u::l) d.2]
inductive WL where
 |d6 (n:Nat)
 |idx
inductive Sh where
 |val (t:Ty)
 |aM
 |own (b:Nat)
 |nQ (b:Nat)
 |mL (b:Nat) (p:List WL)
 |ptr (b:Nat) (p:List WL)
 |dk (t:Ty)
 |mp (b:Nat)
 |kv
 |ia
 |jD
 |kZ
 |func (f:FuncId) (fs cs:Sh)
 |Ey
 |iface (t:TypeId) (v:Sh)
 |cons (a b:Sh)
 |nil
 |fx0
 |gU (t:Ty)
 |fm (f:FuncId) (t:Ty)
inductive jY where
 |var (t:Ty) (s:Sh)
 |row (e:TypeId) (bs:Nat) (t:Ty)
 |map (k v:Ty)
 |lp
 |AZ
 |tv (t:Ty) (s:Sh)
 |dB (e:TypeId) (bs:Nat) (t:Ty) (s:Sh)
 |eW (e:TypeId) (bs:Nat) (t:Ty) (e2:TypeId)
 |pmap (k t:Ty) (e2:TypeId)
 |qX (k v:Ty)
 |k7 (k:Ty) (l:List (k.den×FuncId))
def pH:List WL→List Type→List Type
 |[],l=>l
 | .d6 _::p,l=>pH p l
 | .idx::p,l=>Nat::pH p l
def pV:(p:List WL)→{l:List Type}→prod (pH p l)→Path
 |[],_,_=>[]
 | .d6 n::p,_,d=>.d6 n::pV p d
 | .idx::p,_,d=>.idx d.1::pV p d.2
def pR:(p:List WL)→{l:List Type}→prod (pH p l)→prod l
 |[],_,d=>d
 | .d6 _::p,_,d=>pR p d
 | .idx::p,_,d=>pR p d.2
def pG:(p:List WL)→{l:List Type}→Path→prod l→Option (prod (pH p l))
 |[],_,[],d=>some d
 | .d6 n::p,_,.d6 m::q,d=>if Nat.beq n m then pG p q d else none
 |
  .idx::p,_,.idx i::q,d=>match pG p q d with
  |some e=>some (i,e)
  |none=>none
 |_,_,_,_=>none
theorem Kg:∀{p:List WL}{l:List Type}{q:Path}{d:prod l}{e:prod (pH p l)},pG p q d=some e→pV p e=q∧pR p e=d
 |
  [],l,q,d,e,h=>by
  cases q with
  |nil=>cases(fP h:d=e);trivial
  |cons s q=>trivial
 |
  .d6 n::p,l,q,d,e,h=>by
  cases q with
  |nil=>trivial
  |
   cons s q=>
   cases s with
   |
    d6 m=>
    obtain⟨hb,h0⟩:=dn h
    have hb:=dm hb
    subst hb
    obtain⟨h1,h2⟩:=Kg (p:=p) h0
    exact⟨by simp only[pV];rw[h1],h2⟩
   |idx i=>trivial
 |
  .idx::p,l,q,d,e,h=>by
  cases q with
  |nil=>simp[pG] at h
  |
   cons s q=>
   cases s with
   |d6 m=>simp[pG] at h
   |
    idx i=>
    simp only[pG] at h
    split at h
    ·rename_i e' he
     cases h
     obtain⟨h1,h2⟩:=Kg (p:=p) he
     exact⟨by simp only[pV];rw[h1],h2⟩
    ·cases h
def Sh.H:Sh→List Type→List Type
 | .val t,l=>t.den::l
 | .fm _ t,l=>t.den::l
 | .nQ _,l=>Nat::Nat::l
 | .mL _ p,l=>pH p (Nat::Nat::l)
 | .ptr _ p,l=>pH p l
 | .dk t,l=>t.den::l
 | .Ey,l=>Nat::l
 | .func _ fs cs,l=>fs.H (cs.H l)
 | .iface _ v,l=>v.H l
 | .cons a b,l=>a.H (b.H l)
 |_,l=>l
def Sh.R:(s:Sh)→{l:List Type}→prod (s.H l)→prod l
 | .val _,_,d=>d.2
 | .fm _ _,_,d=>d.2
 | .nQ _,_,d=>d.2.2
 | .mL _ p,_,d=>(pR p d).2.2
 | .ptr _ p,_,d=>pR p d
 | .dk _,_,d=>d.2
 | .Ey,_,d=>d.2
 | .func _ fs cs,_,d=>cs.R (fs.R d)
 | .iface _ v,_,d=>v.R d
 | .cons a b,_,d=>b.R (a.R d)
 | .aM,_,d| .own _,_,d| .mp _,_,d| .kv,_,d| .ia,_,d| .jD,_,d| .kZ,_,d| .nil,_,d| .gU _,_,d| .fx0,_,d=>d
def Sh.V(y:YC):(s:Sh)→{l:List Type}→prod (s.H l)→AV
 | .val t,_,d=>.val t d.1
 | .fm f t,_,d=>.fm f t d.1
 | .nQ b,_,d=>.nQ b d.1 d.2.1
 | .mL b p,_,d=>.mL b (pV p d) (pR p d).1 (pR p d).2.1
 | .ptr b p,_,d=>.ptr b (pV p d)
 | .dk t,_,d=>.dk t d.1
 | .func f fs cs,_,d=>.func (.func f) (fs.V y d) (cs.V y (fs.R d))
 | .iface t v,_,d=>.iface t (v.V y d)
 | .cons a b,_,d=>.cons (a.V y d) (b.V y (a.R d))
 | .aM,_,_=>.aM
 | .own b,_,_=>.own b
 | .mp b,_,_=>.mp b
 | .kv,_,_=>.kv
 | .ia,_,_=>.ia
 | .jD,_,_=>.jD
 | .kZ,_,_=>.kZ
 | .Ey,_,d=>.func (.yield d.1) .nil .nil
 | .nil,_,_=>.nil
 | .fx0,_,_=>.fx
 | .gU t,_,_=>.gU t
def vw{t u:Ty}(h:Ty.same u t=true)(x:u.den):t.den:=Ty.aE h▸x
theorem BF{t u:Ty}(h:Ty.same u t=true)(x:u.den):AV.val t (vw h x)= .val u x:=by
 have e:=Ty.aE h
 subst e;rfl
theorem Iz{f:FuncId}{t u:Ty}(h:Ty.same u t=true)(x:u.den):AV.fm f t (vw h x)= .fm f u x:=by
 have e:=Ty.aE h
 subst e;rfl
theorem IA{t u:Ty}(h:Ty.same u t=true)(x:u.den):AV.dk t (vw h x)= .dk u x:=by
 have e:=Ty.aE h
 subst e;rfl
def Sh.G:(s:Sh)→{l:List Type}→AV→prod l→Option (prod (s.H l))
 | .val t,_,.val u x,d=>if h:Ty.same u t=true then some (vw h x,d) else none
 | .fm f t,_,.fm g u x,d=>if Nat.beq f g then(if h:Ty.same u t=true then some (vw h x,d) else none) else none
 | .dk t,_,.dk u x,d=>if h:Ty.same u t=true then some (vw h x,d) else none
 | .nQ b,_,.nQ c i j,d=>if Nat.beq b c then some (i,j,d) else none
 | .mL b p,l,.mL c q i j,d=>if Nat.beq b c then pG p (l:=Nat::Nat::l) q (i,j,d) else none
 | .ptr b p,_,.ptr c q,d=>if Nat.beq b c then pG p q d else none
 |
  .func f fs cs,_,.func (.func g) xs ys,d=>if Nat.beq f g then(match cs.G ys d with
  |some e=>fs.G xs e
  |none=>none) else none
 | .Ey,_,.func (.yield g) .nil .nil,d=>some (g,d)
 | .iface t v,_,.iface u x,d=>if Nat.beq t u then v.G x d else none
 |
  .cons a b,_,.cons x y,d=>match b.G y d with
  |some e=>a.G x e
  |none=>none
 | .aM,_,.aM,d| .kv,_,.kv,d| .ia,_,.ia,d| .jD,_,.jD,d| .kZ,_,.kZ,d| .nil,_,.nil,d| .fx0,_,.fx,d=>some d
 | .own b,_,.own c,d=>if Nat.beq b c then some d else none
 | .mp b,_,.mp c,d=>if Nat.beq b c then some d else none
 | .gU t,_,.gU u,d=>if Ty.same t u then some d else none
 |_,_,_,_=>none
theorem Sh.Bf(y:YC):∀{s:Sh}{l:List Type}{x:AV}{d:prod l}{e:prod (s.H l)},s.G x d=some e→s.V y e=x∧s.R e=d:=by
 intro s
 induction s with
 |
  val t=>
  intro l x d e h
  cases x<;>simp only[Sh.G] at h<;>try cases h
  split at h
  ·rename_i hs;cases h;exact⟨BF hs _,rfl⟩
  grind
 |
  dk t=>
  intro l x d e h
  cases x<;>simp only[Sh.G] at h<;>try cases h
  split at h
  ·rename_i hs;cases h;exact⟨IA hs _,rfl⟩
  grind
 |
  fm f t=>
  intro l x d e h
  cases x<;>simp only[Sh.G] at h<;>try cases h
  split at h
  ·rename_i hf
   have:=dm hf;subst this
   split at h
   ·rename_i hs;cases h;exact⟨Iz hs _,rfl⟩
   grind
  grind
 |
  nQ b=>
  intro l x d e h
  cases x<;>simp only[Sh.G] at h<;>try cases h
  split at h
  ·rename_i hs;cases h;have:=dm hs;subst this;trivial
  grind
 |
  mL b p=>
  intro l x d e h
  cases x<;>simp only[Sh.G] at h<;>try cases h
  obtain⟨hs,h0⟩:=dn h
  grind [dm,Kg,Sh.V,Sh.R]
 |
  ptr b p=>
  intro l x d e h
  cases x<;>simp only[Sh.G] at h<;>try cases h
  obtain⟨hs,h0⟩:=dn h
  have:=dm hs;subst this
  obtain⟨h1,h2⟩:=Kg h0
  exact⟨by simp only[Sh.V];rw[h1],h2⟩
 |
  func f fs cs ih1 ih2=>
  intro l x d e h
  cases x with
  |
   func g xs ys=>
   cases g with
   |
    func g=>
    simp only[Sh.G] at h
    split at h
    ·rename_i hs
     have:=dm hs;subst this
     split at h
     ·rename_i e' he
      obtain⟨a1,a2⟩:=ih2 he
      obtain⟨b1,b2⟩:=ih1 h
      grind [Sh.V,Sh.R]
     grind
    grind
   |_=>trivial
  |_=>trivial
 |
  iface t v ih=>
  intro l x d e h
  cases x<;>simp only[Sh.G] at h<;>try cases h
  obtain⟨hs,h0⟩:=dn h
  have:=dm hs;subst this
  obtain⟨b1,b2⟩:=ih h0
  exact⟨by simp only[Sh.V];rw[b1],b2⟩
 |
  cons a b ih1 ih2=>
  intro l x d e h
  cases x<;>simp only[Sh.G] at h<;>try cases h
  split at h
  ·rename_i e' he
   obtain⟨a1,a2⟩:=ih2 he
   obtain⟨b1,b2⟩:=ih1 h
   grind [Sh.V,Sh.R]
  grind
 |
  own b=>
  intro l x d e h
  cases x<;>simp only[Sh.G] at h<;>try cases h
  split at h
  ·rename_i hs;cases h;have:=dm hs;subst this;trivial
  grind
 |
  mp b=>
  intro l x d e h
  cases x<;>simp only[Sh.G] at h<;>try cases h
  split at h
  ·rename_i hs;cases h;have:=dm hs;subst this;trivial
  grind
 |
  gU t=>
  intro l x d e h
  cases x<;>simp only[Sh.G] at h<;>try cases h
  split at h
  ·rename_i hs;cases h;have:=Ty.aE hs;subst this;trivial
  grind
 |
  Ey=>
  intro l x d e h
  cases x with
  |
   func g xs ys=>
   cases g with
   |yield g=>cases xs<;>cases ys<;>simp only[Sh.G] at h<;>cases h;trivial
   |_=>trivial
  |_=>trivial
 |_=>intro l x d e h;cases x<;>simp only[Sh.G] at h<;>cases h<;>exact⟨rfl,rfl⟩
def jY.H:jY→List Type→List Type
 | .var _ s,l=>s.H l
 | .row _ _ t,l=>List t.den::l
 | .map k v,l=>List (k.den×v.den)::l
 | .lp,l=>YC::Nat::l
 | .AZ,l=>l
 | .tv _ s,l=>Nat::s.H l
 | .dB _ _ t s,l=>List t.den::Nat::s.H l
 | .eW _ _ t _,l=>List t.den::l
 | .pmap k t _,l=>List (k.den×t.den)::l
 | .qX k v,l=>List (k.den×v.den)::l
 | .k7 _ _,l=>l
def jY.R:(s:jY)→{l:List Type}→prod (s.H l)→prod l
 | .var _ s,_,d=>s.R d
 | .row _ _ _,_,d=>d.2
 | .map _ _,_,d=>d.2
 | .lp,_,d=>d.2.2
 | .AZ,_,d=>d
 | .tv _ s,_,d=>s.R d.2
 | .dB _ _ _ s,_,d=>s.R d.2.2
 | .eW _ _ _ _,_,d=>d.2
 | .pmap _ _ _,_,d=>d.2
 | .qX _ _,_,d=>d.2
 | .k7 _ _,_,d=>d
def fmV{k:Ty}:List (k.den×FuncId)→List (k.den×AV)
 |[]=>[]
 |x::l=>(x.1,.func (.func x.2) .nil .nil)::fmV l
def S0{k:Ty}:List (k.den×AV)→List (k.den×FuncId)→Bool
 |[],[]=>true
 |
  x::l,z::m=>(match x.2 with
  | .func (.func f) .nil .nil=>Nat.beq f z.2
  |_=>false)&&bM k x.1 z.1&&S0 l m
 |_,_=>false
theorem Kh{k:Ty}(hk:k.keyed=true):∀{l:List (k.den×AV)}{m:List (k.den×FuncId)},S0 l m=true→fmV m=l
 |[],[],_=>rfl
 |[],_::_,h=>by cases h
 |_::_,[],h=>by cases h
 |
  x::l,z::m,h=>by
  simp only[S0,bP] at h
  obtain⟨⟨h1,h2⟩,h3⟩:=h
  have e:=(dT hk _ _).1 h2
  obtain⟨x1,x2⟩:=x
  simp only at e h1
  split at h1
  ·have:=dm h1
   subst this;subst e
   simp only[fmV]
   rw[Kh hk h3]
  ·cases h1
def jY.V(y:YC):(s:jY)→{l:List Type}→prod (s.H l)→aX
 | .var t s,_,d=>.var t (s.V y d)
 | .row e bs t,_,d=>.row e bs t d.1
 | .map k v,_,d=>.map k v d.1
 | .lp,_,d=>.lp d.1 d.2.1
 | .AZ,_,_=>.AZ
 | .tv t s,_,d=>.tv d.1 t (s.V y d.2)
 | .dB e bs t s,_,d=>.dB e bs t d.1 d.2.1 (s.V y d.2.2)
 | .eW e bs t e2,_,d=>.eW e bs t d.1 e2 none
 | .pmap k t e2,_,d=>.pmap k t d.1 e2 none
 | .qX k v,_,d=>.qX k v d.1 none
 | .k7 k l,_,_=>.k7 k (fmV l)
def NQ{t u:Ty}(h:Ty.same u t=true)(x:List u.den):List t.den:=Ty.aE h▸x
def NR{t u t' u':Ty}(h:Ty.same u t=true)(h':Ty.same u' t'=true)(x:List (u.den×u'.den)):List (t.den×t'.den):=Ty.aE h▸Ty.aE h'▸x
def aaE{t u:Ty}(h:Ty.same u t=true)(x:List (u.den×AV)):List (t.den×AV):=Ty.aE h▸x
def jY.G:(s:jY)→{l:List Type}→aX→prod l→Option (prod (s.H l))
 | .var t s,_,.var u x,d=>if Ty.same u t then s.G x d else none
 | .row e bs t,_,.row e' bs' u xs,d=>if Nat.beq e e'&&Nat.beq bs bs' then(if h:Ty.same u t=true then some (NQ h xs,d) else none) else none
 | .map k v,_,.map k' v' es,d=>if h:Ty.same k' k=true then(if h':Ty.same v' v=true then some (NR h h' es,d) else none) else none
 | .AZ,_,.AZ,d=>some d
 | .lp,_,.lp y j,d=>some (y,j,d)
 |
  .tv t s,_,.tv g u x,d=>if Ty.same u t then(match s.G x d with
  |some r=>some (g,r)
  |none=>none) else none
 |
  .dB e bs t s,_,.dB e' bs' u xs i x,d=>if Nat.beq e e'&&Nat.beq bs bs' then(if h:Ty.same u t=true then(match s.G x d with
  |some r=>some (NQ h xs,i,r)
  |none=>none) else none) else none
 | .eW e bs t e2,_,.eW e' bs' u xs e2' none,d=>if Nat.beq e e'&&Nat.beq bs bs'&&Nat.beq e2 e2' then(if h:Ty.same u t=true then some (NQ h xs,d) else none) else none
 | .pmap k t e2,_,.pmap k' t' es e2' none,d=>if Nat.beq e2 e2' then(if h:Ty.same k' k=true then(if h':Ty.same t' t=true then some (NR h h' es,d) else none) else none) else none
 | .qX k v,_,.qX k' v' es none,d=>if h:Ty.same k' k=true then(if h':Ty.same v' v=true then some (NR h h' es,d) else none) else none
 | .k7 k l,_,.k7 k' l',d=>if h:Ty.same k' k=true then(if k.keyed&&S0 (aaE h l') l then some d else none) else none
 |_,_,_,_=>none
theorem jY.Bf(y:YC){s:jY}{l:List Type}{x:aX}{d:prod l}{e:prod (s.H l)}(h:s.G x d=some e):s.V y e=x∧s.R e=d:=by
 cases s with
 |
  var t s=>
  cases x<;>simp only[jY.G] at h<;>try cases h
  obtain⟨hs,h0⟩:=dn h
  have:=Ty.aE hs;subst this
  obtain⟨h1,h2⟩:=Sh.Bf y h0
  exact⟨by simp only[jY.V];rw[h1],h2⟩
 |
  row e bs t=>
  cases x<;>simp only[jY.G] at h<;>try cases h
  split at h
  ·rename_i hs
   simp only[bP] at hs
   have e1:=dm hs.1;subst e1
   have e2:=dm hs.2;subst e2
   split at h
   ·rename_i ht
    cases h
    have e3:=Ty.aE ht;subst e3
    trivial
   grind
  grind
 |
  map k v=>
  cases x<;>simp only[jY.G] at h<;>try cases h
  split at h
  ·rename_i hs
   split at h
   ·rename_i ht
    cases h
    have e1:=Ty.aE hs;subst e1
    have e3:=Ty.aE ht;subst e3
    trivial
   grind
  grind
 |AZ=>cases x<;>simp only[jY.G] at h<;>cases h;trivial
 |lp=>cases x<;>simp only[jY.G] at h<;>cases h;trivial
 |
  tv t s=>
  cases x<;>simp only[jY.G] at h<;>try cases h
  obtain⟨hs,h0⟩:=dn h
  have:=Ty.aE hs;subst this
  split at h0
  ·rename_i r hr
   cases h0
   obtain⟨h1,h2⟩:=Sh.Bf y hr
   exact⟨by simp only[jY.V];rw[h1],h2⟩
  grind
 |
  dB e0 bs t s=>
  cases x with
  |
   dB e' bs' u xs i v=>
   simp only[jY.G] at h
   obtain⟨hs,h0⟩:=dn h
   clear h
   simp only[bP] at hs
   have e1:=dm hs.1;subst e1
   have e2:=dm hs.2;subst e2
   by_cases ht:Ty.same u t=true
   ·rw[dif_pos ht] at h0
    cases hr:s.G v d with
    |none=>grind
    |
     some r=>
     rw[hr] at h0
     cases h0
     have e3:=Ty.aE ht;subst e3
     obtain⟨g1,g2⟩:=Sh.Bf y hr
     exact⟨by simp only[jY.V];rw[g1];rfl,g2⟩
   grind
  |_=>trivial
 |
  eW e bs t e2=>
  cases x with
  |
   eW e' bs' u xs e2' f=>
   cases f with
   |some f=>trivial
   |
    none=>
    simp only[jY.G] at h
    obtain⟨hs,h0⟩:=dn h
    clear h
    simp only[bP] at hs
    have e1:=dm hs.1.1;subst e1
    have e2:=dm hs.1.2;subst e2
    have e3:=dm hs.2;subst e3
    by_cases ht:Ty.same u t=true
    ·rw[dif_pos ht] at h0
     cases h0
     have e3:=Ty.aE ht;subst e3
     trivial
    grind
  |_=>trivial
 |
  pmap k t e2=>
  cases x with
  |
   pmap k' t' es e2' f=>
   cases f with
   |some f=>trivial
   |
    none=>
    simp only[jY.G] at h
    obtain⟨hs,h0⟩:=dn h
    clear h
    have e3:=dm hs;subst e3
    by_cases ht:Ty.same k' k=true
    ·rw[dif_pos ht] at h0
     by_cases ht':Ty.same t' t=true
     ·rw[dif_pos ht'] at h0
      cases h0
      have e3:=Ty.aE ht;subst e3
      have e4:=Ty.aE ht';subst e4
      trivial
     grind
    grind
  |_=>trivial
 |
  qX k v=>
  cases x with
  |
   qX k' v' es c=>
   cases c with
   |some c=>trivial
   |
    none=>
    simp only[jY.G] at h
    by_cases ht:Ty.same k' k=true
    ·rw[dif_pos ht] at h
     by_cases ht':Ty.same v' v=true
     ·rw[dif_pos ht'] at h
      cases h
      have e3:=Ty.aE ht;subst e3
      have e4:=Ty.aE ht';subst e4
      trivial
     grind
    grind
  |_=>trivial
 |
  k7 k l=>
  cases x with
  |
   k7 k' l'=>
   simp only[jY.G] at h
   by_cases ht:Ty.same k' k=true
   ·rw[dif_pos ht] at h
    split at h
    ·rename_i hc
     cases h
     simp only[bP] at hc
     have e3:=Ty.aE ht;subst e3
     refine⟨?_,rfl⟩
     show aX.k7 _ (fmV l)=_
     rw[Kh hc.1 hc.2]
     rfl
    grind
   grind
  |_=>trivial
def XW:List (Nat×Sh)→List Type→List Type
 |[],l=>l
 |(_,s)::m,l=>s.H (XW m l)
def tmV(y:YC):(m:List (Nat×Sh))→{l:List Type}→prod (XW m l)→List (Nat×AV)
 |[],_,_=>[]
 |(i,s)::m,_,d=>(i,s.V y d)::tmV y m (s.R d)
def tmX:(m:List (Nat×Sh))→{l:List Type}→prod (XW m l)→prod l
 |[],_,d=>d
 |(_,s)::m,_,d=>tmX m (s.R d)
def tmG:(m:List (Nat×Sh))→{l:List Type}→List AV→prod l→Option (prod (XW m l))
 |[],_,_,d=>some d
 |
  (i,s)::m,_,tm,d=>match tm[i]? with
  |
   some x=>match tmG m tm d with
   |some e=>s.G x e
   |none=>none
  |none=>none
theorem NS(y:YC):∀{m:List (Nat×Sh)}{l:List Type}{tm:List AV}{d:prod l}{e:prod (XW m l)},tmG m tm d=some e→(∀i x,(i,x)∈tmV y m e→tm[i]? =some x)∧tmX m e=d
 |[],l,tm,d,e,h=>by cases h;exact⟨(fun i x hx=>by cases hx),rfl⟩
 |
  (i,s)::m,l,tm,d,e,h=>by
  simp only[tmG] at h
  split at h
  ·rename_i x hx
   split at h
   ·rename_i e' he
    obtain⟨h1,h2⟩:=NS y he
    obtain⟨g1,g2⟩:=Sh.Bf y h
    refine⟨?_,by simp only[tmX];grind⟩
    intro j z hz
    simp only[tmV,eN,jb] at hz
    grind
   grind
  grind
def l4:List (Nat×jY)→List Type→List Type
 |[],l=>l
 |(_,s)::m,l=>s.H (l4 m l)
def tN(y:YC):(m:List (Nat×jY))→{l:List Type}→prod (l4 m l)→List (Nat×aX)
 |[],_,_=>[]
 |(i,s)::m,_,d=>(i,s.V y d)::tN y m (s.R d)
def XX:(m:List (Nat×jY))→{l:List Type}→prod (l4 m l)→prod l
 |[],_,d=>d
 |(_,s)::m,_,d=>XX m (s.R d)
def hpG:(m:List (Nat×jY))→{l:List Type}→List (Option aX)→prod l→Option (prod (l4 m l))
 |[],_,_,d=>some d
 |
  (i,s)::m,_,hp,d=>match hp[i]? with
  |
   some (some x)=>match hpG m hp d with
   |some e=>s.G x e
   |none=>none
  |_=>none
theorem IB(y:YC):∀{m:List (Nat×jY)}{l:List Type}{hp:List (Option aX)}{d:prod l}{e:prod (l4 m l)},hpG m hp d=some e→(∀i x,(i,x)∈tN y m e→hp[i]? =some (some x))∧XX m e=d
 |[],l,hp,d,e,h=>by cases h;exact⟨(fun i x hx=>by cases hx),rfl⟩
 |
  (i,s)::m,l,hp,d,e,h=>by
  simp only[hpG] at h
  split at h
  ·rename_i x hx
   split at h
   ·rename_i e' he
    obtain⟨h1,h2⟩:=IB y he
    obtain⟨g1,g2⟩:=jY.Bf y h
    refine⟨?_,by simp only[XX];grind⟩
    intro j z hz
    simp only[tN,eN,jb] at hz
    grind
   grind
  grind
def xU:List Sh→List Type→List Type
 |[],l=>l
 |s::m,l=>s.H (xU m l)
def DK(y:YC):(m:List Sh)→{l:List Type}→prod (xU m l)→List AV
 |[],_,_=>[]
 |s::m,_,d=>s.V y d::DK y m (s.R d)
def DL:(m:List Sh)→{l:List Type}→prod (xU m l)→prod l
 |[],_,d=>d
 |s::m,_,d=>DL m (s.R d)
def WM:(m:List Sh)→{l:List Type}→List AV→prod l→Option (prod (xU m l))
 |[],_,[],d=>some d
 |
  s::m,_,x::xs,d=>match WM m xs d with
  |some e=>s.G x e
  |none=>none
 |_,_,_,_=>none
theorem DN(y:YC):∀{m:List Sh}{l:List Type}{xs:List AV}{d:prod l}{e:prod (xU m l)},WM m xs d=some e→DK y m e=xs∧DL m e=d
 |
  [],l,xs,d,e,h=>by
  cases xs with
  |nil=>cases h;trivial
  |cons _ _=>trivial
 |
  s::m,l,xs,d,e,h=>by
  cases xs with
  |nil=>simp[WM] at h
  |
   cons x xs=>
   simp only[WM] at h
   split at h
   ·rename_i e' he
    obtain⟨h1,h2⟩:=DN y he
    obtain⟨g1,g2⟩:=Sh.Bf y h
    exact⟨by simp only[DK];rw[g1,g2,h1],by simp only[DL];rw[g2,h2]⟩
   ·cases h
structure SS where
 nt:Nat
 nh:Nat
 tm:List (Nat×Sh)
 hp:List (Nat×jY)
 df:List Sh
def SS.H(S:SS):List Type:=XW S.tm (l4 S.hp (xU S.df []))
@[reducible] def SS.T (S:SS):Type:=ky S.H
def fC:List (Nat×aX)→List (Nat×Option aX)
 |[]=>[]
 |(i,k)::l=>(i,some k)::fC l
theorem xz{i:Nat}{k:Option aX}:∀{l:List (Nat×aX)},(i,k)∈fC l→∃b,k=some b∧(i,b)∈l
 |[],h=>by cases h
 |
  (j,b)::l,h=>by
  simp only[fC,eN,jb] at h
  rcases h with⟨rfl,rfl⟩|h
  ·grind
  ·obtain⟨b',e,hm⟩:=xz h
   exact⟨b',e,dH _ hm⟩
def SS.rz(S:SS)(y:YC)(d:prod S.H):St:=
 ⟨rY (tmV y S.tm d) (List.replicate S.nt .bot),rY (fC (tN y S.hp (Ax.tmX S.tm d))) (List.replicate S.nh none),DK y S.df (XX S.hp (Ax.tmX S.tm d))⟩
def SS.st(S:SS)(y:YC)(t:S.T):St:=S.rz y (vZ S.H t)
def SS.get(S:SS)(σ:St):Option S.T:=
 if Nat.beq σ.tm.length S.nt&&Nat.beq σ.hp.length S.nh then(match WM S.df (l:=[]) σ.df () with
  |
   some d1=>match hpG S.hp σ.hp d1 with
   |
    some d2=>match tmG S.tm σ.tm d2 with
    |some d3=>some (UF S.H d3)
    |none=>none
   |none=>none
  |none=>none) else none
theorem ug{α:Type}:∀{l:List (Nat×α)}{m:List α},(rY l m).length=m.length
 |[],_=>rfl
 |(i,x)::l,m=>by rw[rY,ug,cP]
theorem qq{α:Type}{i:Nat}{x:α}:∀{l:List (Nat×α)}{m:List α},(rY l m)[i]? =some x→(i,x)∈l∨m[i]? =some x
 |[],_,h=>Or.inr h
 |
  (j,z)::l,m,h=>by
  rw[rY] at h
  rcases qq h with h|h
  ·exact Or.inl (dH _ h)
  ·rw[fY] at h
   split at h
   ·rename_i e
    split at h
    ·cases h;subst e;exact Or.inl (dx ..)
    ·cases h
   ·exact Or.inr h
theorem Wk.sub{gl:Ctx}{σ σ':St}(hl:σ'.tm.length=σ.tm.length)(ht:∀(i:Nat)(x:AV),σ'.tm[i]? =some x→x= .bot∨σ.tm[i]? =some x)
 (hh:∀(b:Nat)(k:aX),σ'.hp[b]? =some (some k)→σ.hp[b]? =some (some k)) (hd:σ'.df=σ.df):Wk gl σ σ':=by
 intro E a w h
 refine⟨E,⟨by rw[hl];exact h.len,?_,h.hw.less hh,by rw[hd];exact h.df⟩,{Ext.refl (cU σ.hp E) E w with own:=?_ }⟩
 ·intro i x hx v hv
  rcases ht i x hx with e|e
  ·subst e;trivial
  ·exact h.tm i x e v hv
 ·rintro g ⟨b,k,hb,hg⟩
  exact Or.inl ⟨b,k,hh b k hb,hg⟩
theorem SS.jn{gl:Ctx}{S:SS}{y:YC}{σ:St}{t:S.T}(h:S.get σ=some t):Wk gl σ (S.st y t):=by
 unfold SS.get at h
 split at h
 ·rename_i hc
  simp only[bP] at hc
  have l1:=dm hc.1
  have l2:=dm hc.2
  split at h
  ·rename_i d1 h1
   split at h
   ·rename_i d2 h2
    split at h
    ·rename_i d3 h3
     cases h
     have e0:S.st y (UF S.H d3)=S.rz y d3:=congrArg (S.rz y) (vu S.H d3)
     refine Eq.mpr (congrArg (Wk gl σ) e0) ?_
     obtain⟨a1,a2⟩:=DN y h1
     obtain⟨b1,b2⟩:=IB y h2
     obtain⟨c1,c2⟩:=NS y h3
     refine Wk.sub ?_ ?_ ?_ ?_
     ·grind [SS.rz,ug]
     ·intro i x hx
      simp only[SS.rz] at hx
      rcases qq hx with hx|hx<;>grind
     ·intro b k hk
      simp only[SS.rz] at hk
      rcases qq hk with hk|hk
      ·grind [xz]
      grind
     grind [SS.rz]
    grind
   grind
  grind
 grind
end Go.Ax
namespace Go.Ax
inductive Nd where
 |frz (b:Nat) (t:Ty)
 |Fh (c b:Nat)
 |own (c:Nat) (p:Path)
 |pur
def AV.owned:AV→Option Nat
 | .own b| .nQ b _ _| .mL b _ _ _| .mp b=>some b
 |
  .cons a b=>match a.owned with
  |some c=>some c
  |none=>b.owned
 |_=>none
def aiS:Path→Path
 | .d6 n::p=>.d6 (n+1)::p
 |p=>p
def ID:List Nd→List Nd
 |[]=>[]
 | .own c p::l=>.own c (aiS p)::ID l
 |n::l=>n::ID l
def NT:List Nd→List Nd
 |[]=>[]
 | .own c p::l=>.own c (.d6 0::p)::NT l
 |n::l=>n::NT l
def qU:Sh→AV→List Nd
 |
  .val t,x=>match x.owned with
  |some b=>[.frz b t]
  |
   none=>match x with
   | .val _ _=>[]
   |_=>[.pur]
 | .dk t,.ptr b _=>[.frz b t]
 | .own c,.own b=>[.Fh c b]
 | .own c,.aM=>[.own c []]
 | .ptr c _,.ptr b _=>[.Fh c b]
 | .nQ c,.nQ b _ _=>[.Fh c b]
 | .mL c _,.mL b _ _ _=>[.Fh c b]
 | .mp c,.mp b=>[.Fh c b]
 | .cons a b,.cons x y=>NT (qU a x)++ID (qU b y)
 | .func _ a b,.func _ x y=>qU a x++qU b y
 | .iface _ a,.iface _ x=>qU a x
 |_,_=>[]
def Ki:jY→aX→List Nd
 | .var _ s,.var _ x=>qU s x
 | .tv _ s,.tv _ _ x=>qU s x
 | .dB _ _ _ s,.dB _ _ _ _ _ x=>qU s x
 | .qX _ _,.qX _ _ _ (some _)=>[.pur]
 |_,_=>[]
def lkN{α:Type}:List (Nat×α)→Nat→Option α
 |[],_=>none
 |(i,x)::l,j=>if Nat.beq i j then some x else lkN l j
def Kj:List Nd→List (Nat×Nat)
 |[]=>[]
 | .Fh c b::l=>(c,b)::Kj l
 |_::l=>Kj l
def aaH:List Nd→Option (Nat×Ty)
 |[]=>none
 | .frz b t::_=>some (b,t)
 |_::l=>aaH l
def UG:List (Nat×Sh)→List AV→List Nd
 |[],_=>[]
 |
  (i,s)::l,tm=>(match tm[i]? with
  |some x=>qU s x
  |none=>[])++UG l tm
def UH:List Sh→List AV→List Nd
 |s::l,x::xs=>qU s x++UH l xs
 |_,_=>[]
def Kk(hp:List (Nat×jY))(σ:List (Option aX)):Nat→List (Nat×Nat)→List (Nat×Nat)→List Nd→List (Nat×Nat)×List Nd
 |0,_,done,nd=>(done,nd)
 |_+1,[],done,nd=>(done,nd)
 |
  n+1,(c,b)::todo,done,nd=>
  match lkN done c with
  |some _=>Kk hp σ n todo done nd
  |
   none=>
   match lkN hp c,σ[b]? with
   |some s,some (some k)=>Kk hp σ n (Kj (Ki s k)++todo) ((c,b)::done) (nd++Ki s k)
   |_,_=>Kk hp σ n todo ((c,b)::done) nd
def pinned:List (Nat×jY)→List (Option aX)→List (Nat×Nat)
 |[],_=>[]
 |
  (c,s)::l,σ=>if Nat.blt c 16 then(c,c)::pinned l σ else(match s with
  | .AZ=>(c,c)::pinned l σ
  |_=>pinned l σ)
def Kl(S:SS)(σ:St):List (Nat×Nat)×List Nd:=
 let n0:=UG S.tm σ.tm++UH S.df σ.df
 Kk S.hp σ.hp 200 (Kj n0++pinned S.hp σ.hp) [] n0
def aiT(hp:List (Option aX))(b:Nat)(t:Ty):Ty:=
 match hp[b]? with
 |some (some (.row _ bs u _))=>.slice bs u
 |
  _=>match t with
  | .slice bs u=>.slice bs u
  |_=>.slice 1 (.int .u8)
def Km(S:SS):Nat→St→Option St
 |0,_=>none
 |
  n+1,σ=>match aaH (Kl S σ).2 with
  |none=>some σ
  |
   some (b,t)=>match freeze b (aiT σ.hp b t) σ with
   |some σ'=>Km S n σ'
   |none=>none
def WN:List AV→List Nat
 |[]=>[]
 |x::l=>x.ids++WN l
def WO:List (Option aX)→Nat→List Nat
 |[],_=>[]
 |some k::l,i=>i::(k.ids++WO l (i+1))
 |none::l,i=>WO l (i+1)
def NU:List (Nat×Nat)→List (Nat×Nat)
 |[]=>[]
 |(c,b)::l=>if Nat.beq c b then NU l else(c,b)::NU l
def NV(used:List Nat):List (Nat×Nat)→List (Nat×Nat)→Option (Nat×Nat×List (Nat×Nat))
 |[],_=>none
 |(c,b)::l,acc=>if eB c used then NV used l ((c,b)::acc) else some (c,b,acc++l)
def aaI(b x:Nat):List (Nat×Nat)→List (Nat×Nat)
 |[]=>[]
 |(c,d)::l=>(c,if Nat.beq d b then x else d)::aaI b x l
def BG(top:Nat):Nat→List (Nat×Nat)→St→Option St
 |_,[],σ=>some σ
 |0,_,_=>none
 |
  n+1,(c,b)::mv,σ=>
  match NV (WN σ.tm++WN σ.df++WO σ.hp 0) ((c,b)::mv) [] with
  |
   some (c',b',rest)=>match rename b' c' σ with
   |some σ'=>BG top n rest σ'
   |none=>none
  |
   none=>match rename b top σ with
   |some σ'=>BG top n (aaI b top ((c,b)::mv)) σ'
   |none=>none
def NW(hp:List (Nat×jY))(c:Nat)(f:TypeId→Nat→Ty→Gh)(σ:St):Option St:=
 match lkN hp c with
 |some (.row e bs t)=>(f e bs t).go σ
 |_=>none
def BH(hp:List (Nat×jY))(f:Nat→Path→TypeId→Nat→Ty→Gh):List Nd→St→Option St
 |[],σ=>some σ
 |
  .own c p::l,σ=>match NW hp c (f c p) σ with
  |some σ'=>BH hp f l σ'
  |none=>none
 |_::l,σ=>BH hp f l σ
def DO(hp:List (Nat×jY)):List (Nat×Sh)→St→Option St
 |[],σ=>some σ
 |
  (i,s)::l,σ=>match σ.tm[i]? with
  |
   some x=>match BH hp (fun c _ e bs t=>.DJ i c e bs t) (qU s x) σ with
   |some σ'=>DO hp l σ'
   |none=>none
  |none=>none
def Aa(hp:List (Nat×jY)):List (Nat×jY)→St→Option St
 |[],σ=>some σ
 |
  (i,s)::l,σ=>match σ.hp[i]? with
  |
   some (some k)=>match BH hp (fun c p e bs t=>.z8 i p c e bs t) (Ki s k) σ with
   |some σ'=>Aa hp l σ'
   |none=>none
  |_=>Aa hp l σ
def IE:List Nd→Bool
 |[]=>false
 | .pur::_=>true
 |_::l=>IE l
def wQ:List (Nat×Sh)→St→Option St
 |[],σ=>some σ
 |
  (i,.val t)::l,σ=>match σ.tm[i]? with
  |
   some x=>if IE (qU (.val t) x) then(match(Gh.NO i t).go σ with
   |some σ'=>wQ l σ'
   |none=>none) else wQ l σ
  |none=>none
 |_::l,σ=>wQ l σ
def wR:List (Nat×jY)→St→Option St
 |[],σ=>some σ
 |
  (i,s)::l,σ=>match σ.hp[i]? with
  |
   some (some k)=>if IE (Ki s k) then(match(Gh.Iw i).go σ with
   |some σ'=>wR l σ'
   |none=>none) else wR l σ
  |_=>wR l σ
def aaJ:List (Nat×Sh)→List Nat
 |[]=>[]
 |(i,_)::l=>i::aaJ l
def aaK:List (Nat×Nat)→List Nat
 |[]=>[]
 |(_,b)::l=>b::aaK l
def SS.yy(
 S:SS) (σ:St):Option S.T:=
 match Km S 40 σ with
 |none=>none
 |
  some σ1=>
  let m:=(Kl S σ1).1
  match(Gh.FA (aaJ S.tm) (aaK m)).go σ1 with
  |none=>none
  |
   some σ2=>match BG (S.nh -1) 60 (NU m) σ2 with
   |none=>none
   |
    some σ3=>match DO S.hp S.tm σ3 with
    |none=>none
    |
     some σ4=>match Aa S.hp S.hp σ4 with
     |none=>none
     |
      some σ5=>match wQ S.tm σ5 with
      |none=>none
      |
       some σ6=>match wR S.hp σ6 with
       |none=>none
       |some σ7=>S.get σ7
section
variable{gl:Ctx}
theorem FB{S:SS}:∀{n:Nat}{σ σ':St},Km S n σ=some σ'→Wk gl σ σ'
 |0,_,_,h=>by cases h
 |
  n+1,σ,σ',h=>by
  simp only[Km] at h
  split at h
  ·cases h;exact Wk.refl gl σ
  ·split at h
   ·rename_i σ1 h1;exact(Wk.freeze h1).trans (FB h)
   ·cases h
theorem Ab{top:Nat}:∀{n:Nat}{mv:List (Nat×Nat)}{σ σ':St},BG top n mv σ=some σ'→Wk gl σ σ'
 |
  _,[],σ,σ',h=>by
  grind [BG,Wk.refl]
 |0,_::_,_,_,h=>by trivial
 |
  n+1,(c,b)::mv,σ,σ',h=>by
  simp only[BG] at h
  split at h
  ·split at h
   ·rename_i σ1 h1;exact(Wk.rename h1).trans (Ab h)
   ·cases h
  ·split at h
   ·rename_i σ1 h1;exact(Wk.rename h1).trans (Ab h)
   ·cases h
theorem oS{hp:List (Nat×jY)}{f:Nat→Path→TypeId→Nat→Ty→Gh}:∀{l:List Nd}{σ σ':St},BH hp f l σ=some σ'→Wk gl σ σ'
 |[],σ,σ',h=>by cases h;exact Wk.refl gl σ
 |
  .own c p::l,σ,σ',h=>by
  simp only[BH] at h
  split at h
  ·rename_i σ1 h1
   unfold NW at h1
   split at h1
   ·exact(Gh.ok h1).trans (oS h)
   ·cases h1
  ·cases h
 | .frz _ _::l,σ,σ',h=>oS (l:=l) h
 | .Fh _ _::l,σ,σ',h=>oS (l:=l) h
 | .pur::l,σ,σ',h=>oS (l:=l) h
theorem BI{hp:List (Nat×jY)}:∀{l:List (Nat×Sh)}{σ σ':St},DO hp l σ=some σ'→Wk gl σ σ'
 |[],σ,σ',h=>by cases h;exact Wk.refl gl σ
 |
  (i,s)::l,σ,σ',h=>by
  simp only[DO] at h
  split at h
  ·split at h
   ·rename_i σ1 h1;exact(oS h1).trans (BI h)
   ·cases h
  ·cases h
theorem wS{hp:List (Nat×jY)}:∀{l:List (Nat×jY)}{σ σ':St},Aa hp l σ=some σ'→Wk gl σ σ'
 |[],σ,σ',h=>by cases h;exact Wk.refl gl σ
 |
  (i,s)::l,σ,σ',h=>by
  simp only[Aa] at h
  split at h
  ·split at h
   ·rename_i σ1 h1;exact(oS h1).trans (wS h)
   ·cases h
  ·exact wS (l:=l) h
theorem sW:∀{l:List (Nat×Sh)}{σ σ':St},wQ l σ=some σ'→Wk gl σ σ'
 |[],σ,σ',h=>by cases h;exact Wk.refl gl σ
 |
  (i,s)::l,σ,σ',h=>by
  cases s with
  |
   val t=>
   simp only[wQ] at h
   split at h
   ·split at h
    ·split at h
     ·rename_i σ1 h1;exact(Gh.ok h1).trans (sW h)
     ·cases h
    ·exact sW (l:=l) h
   ·cases h
  |_=>exact sW (l:=l) h
theorem sX:∀{l:List (Nat×jY)}{σ σ':St},wR l σ=some σ'→Wk gl σ σ'
 |[],σ,σ',h=>by cases h;exact Wk.refl gl σ
 |
  (i,s)::l,σ,σ',h=>by
  simp only[wR] at h
  split at h
  ·split at h
   ·split at h
    ·rename_i σ1 h1;exact(Gh.ok h1).trans (sX h)
    ·cases h
   ·exact sX (l:=l) h
  ·exact sX (l:=l) h
theorem SS.l6{S:SS}{y:YC}{σ:St}{t:S.T}(h:S.yy σ=some t):Wk gl σ (S.st y t):=by
 unfold SS.yy at h
 split at h
 ·cases h
 rename_i σ1 h1
 simp only at h
 split at h
 ·cases h
 rename_i σ2 h2
 split at h
 ·cases h
 rename_i σ3 h3
 split at h
 ·cases h
 rename_i σ4 h4
 split at h
 ·cases h
 rename_i σ5 h5
 split at h
 ·cases h
 rename_i σ6 h6
 split at h
 ·cases h
 rename_i σ7 h7
 exact((((((FB h1).trans (Gh.ok h2)).trans (Ab h3)).trans (BI h4)).trans (wS h5)).trans (sW h6)).trans ((sX h7).trans (SS.jn h))
end
end Go.Ax
namespace Go.Ax
def IF:aX:=.row 0 0 .unit []
theorem Kn{E:Env}{w:World}{b:Nat}(h:RB E w b IF):False:=by
 have h:=h.2.2.2.1
 trivial
def Ac(f:bL)(z:Nat):bL:=⟨f.rt,f.rb,[],none,.bot,[(z,some IF)]⟩
def Ko(z:Nat):bL:=⟨[],[z],[],none,.bot,[]⟩
def nG(fs:List bL)(f:bL)(z:Nat)(gs:List bL):List bL:=fs++Ac f z::gs
def IG(P:Program)(gl:Ctx)(ops:Array Oper)(z:Nat)(j:Nat)(g:bL)(σ:St):Prop:=tY P gl ops j g σ∨(g=Ko z∧σ.hp[z]? =some (some IF))
def sY:List Nat→List AV→List AV
 |[],tm=>tm
 |d::l,tm=>sY l (tm.set d .bot)
theorem xA:∀{l:List Nat}{tm:List AV},(sY l tm).length=tm.length
 |[],_=>rfl
 |d::l,tm=>by unfold sY;rw[xA];simp
theorem xB{i:Nat}{x:AV}:∀{l:List Nat}{tm:List AV},(sY l tm)[i]? =some x→x= .bot∨(i∉l∧tm[i]? =some x)
 |[],_,h=>Or.inr ⟨by simp,h⟩
 |
  d::l,tm,h=>by
  unfold sY at h
  rcases xB h with h|⟨hl,h⟩<;>grind
def Ad(fs:List bL)(f:bL)(z:Nat)(gs:List bL)(σ:St):St:=
 ⟨sY (dstsOf (nG fs f z gs)) σ.tm,bJ (bJ σ.hp f.hw) (iC (oC (nG fs f z gs))),σ.df⟩
theorem dL.app{OK:Nat→bL→St→Prop}:∀{fs gs:List bL}{i:Nat}{σ σ1 σ':St},dL OK i fs σ σ1→dL OK (i+fs.length) gs σ1 σ'→dL OK i (fs++gs) σ σ'
 |[],gs,i,σ,σ1,σ',h,k=>by grind [dL]
 |f::fs,gs,i,σ,σ1,σ',⟨h1,h2,h3⟩,k=>⟨h1,h2,dL.app h3 (by grind)⟩
theorem dL.hl{OK:Nat→bL→St→Prop}:∀{fs:List bL}{i:Nat}{σ σ':St},dL OK i fs σ σ'→σ'.hp.length=σ.hp.length
 |[],_,_,_,h=>by simp only[dL] at h;grind
 |f::fs,_,σ,_,⟨_,_,h⟩=>by rw[dL.hl h,wJ]
def S1(z:Nat)(gs:List bL):Bool:=gs.all fun g=> !eB z (wrote g.hw)
theorem dL.at{OK:Nat→bL→St→Prop}{z:Nat}{k:Option aX}:∀{fs:List bL}{i:Nat}{σ σ':St},dL OK i fs σ σ'→S1 z fs=true→σ.hp[z]? =some k→σ'.hp[z]? =some k
 |[],_,_,_,h,_,hz=>by grind [dL]
 |
  f::fs,_,σ,_,⟨_,_,h⟩,hn,hz=>by
  simp only[S1,List.all_cons,bP,lF] at hn
  refine dL.at h (by simpa[S1] using hn.2) ?_
  rw[k9,ir (fun hm=>by rw[rO hm] at hn;cases hn.1)]
  exact hz
theorem Ae{P:Program}{G:dq}(T:cQ P G){gl:Ctx}{ops:Array Oper}{id:Nat}{draw:Bool}{fs gs:List bL}{f:bL}{z:Nat}{σ σp σe:St}{Q:jU→St→Prop}
 (hc:uV P gl ops 0 fs σ σp) (hp:Ge P gl ops fs.length f σp) (hg2:dL (IG P gl ops z) (fs.length+1) gs (σp.app (Ac f z)) σe) (hnz:S1 z gs=true) (hz:z<σ.hp.length) (hn:fs.length+1+gs.length=ops.size) (iq:draw=true→(qQ none ops (nG fs f z gs)&&mq σ (nG fs f z gs))=true)
 (hpl:f.v.plain=true) (hq:Q (.panic f.v) (Ad fs f z gs σ)):eV P gl (.region id ops draw) σ Q:=by
 intro E a w hg
 have hzp:(σp.app (Ac f z)).hp[z]? =some (some IF):=by
  rw[k9]
  simp only[Ac,bJ,fY,cC]
  rw[aA (by rw[dL.hl hc];exact hz)]
 have hze:=dL.at hg2 hnz hzp
 have hlen:(nG fs f z gs).length=ops.size:=by simp[nG];omega
 have rest:∀(V:St→Env→World→Prop)(Q:Exit→Act→World→Prop) j g σ1,IG P gl ops z j g σ1→PB P gl ops Q V j g σ1:=by
  intro V Q j g σ1 h
  rcases h with h|⟨rfl,h⟩
  ·exact h.q
  ·intro σ' ha _ E a w hg
   have:σ'.hp[z]? =some (some IF):=by rw[ha.hp z (by simp[Ko]),h]
   exact(Kn (hg.hw.eJ z _ this)).elim
 have total:∀Q':Exit→Act→World→Prop,(∀σ2 E2 w2 E' u w',A0 gl (dstsOf (nG fs f z gs)) (oC (nG fs f z gs)) σ E w σ2 E2 w2→∀a',dE gl {σ2 with hp:=bJ σ2.hp f.hw} E' a' w'→RV E' w' f.v u→Ext gl.md (cU σ2.hp E2) E2 w2 (cU (bJ σ2.hp f.hw) E') E' w'→Q' (.panic [{v:=u,recovered:=false}]) a' w')→
  dL (PB P gl ops Q' (A0 gl (dstsOf (nG fs f z gs)) (oC (nG fs f z gs)) σ E w)) 0 (nG fs f z gs) σ σe:=by
  intro Q' hQ'
  refine dL.app (hc.mono fun _ _ _=>tY.q) ⟨?_,(fun d hd=>by cases hd),?_⟩
  ·rw[ek]
   intro σ2 ha _ E2 a2 w2 hg2 hv2 K _
   exact hp σ2 ha E2 a2 w2 hg2 K Q' (fun E' u w' q1 q2 q3=>hQ' σ2 E2 w2 E' u w' hv2 a2 q1 q2 q3)
  ·rw[ek]
   exact hg2.mono (rest _ _)
 have post:∀σ2 E2 w2 E' u w',A0 gl (dstsOf (nG fs f z gs)) (oC (nG fs f z gs)) σ E w σ2 E2 w2→∀a',dE gl {σ2 with hp:=bJ σ2.hp f.hw} E' a' w'→RV E' w' f.v u→Ext gl.md (cU σ2.hp E2) E2 w2 (cU (bJ σ2.hp f.hw) E') E' w'→vO gl Q σ E w (.panic [{v:=u,recovered:=false}]) a' w':=by
  intro σ2 E2 w2 E' u w' hv a' q1 q2 q3
  have hwk2:dE gl (Ad fs f z gs σ) E' a' w'∧Ext gl.md (cU (bJ σ2.hp f.hw) E') E' w' (cU (Ad fs f z gs σ).hp E') E' w':=by
   refine⟨⟨?_,?_,q1.hw.less ?_,?_⟩,{Ext.refl (cU (bJ σ2.hp f.hw) E') E' w' with own:=?_ }⟩
   ·simp only[Ad,xA];rw[q1.len];exact hv.tl
   ·intro i x hx v hv'
    rcases xB hx with hx|⟨hi,hx⟩
    ·subst hx;trivial
    ·exact q1.tm i x (by show σ2.tm[i]? =some x;rw[hv.tm i hi];exact hx) v hv'
   ·intro b k hk
    obtain⟨hb,hk⟩:=gk hk
    show(bJ σ2.hp f.hw)[b]? =_
    rw[lN hv.hl (hv.hp b hb)]
    exact hk
   ·show RD E' w' σ.df a'.defers
    rw[←hv.df];exact q1.df
   ·rintro g ⟨b,k,hk,hgb⟩
    obtain⟨hb,hk⟩:=gk hk
    refine Or.inl ⟨b,k,?_,hgb⟩
    rw[lN hv.hl (hv.hp b hb)]
    exact hk
  exact⟨.panic f.v,Ad fs f z gs σ,E',⟨u,rfl,RV.mN hpl q2⟩,hq,hwk2.1,(hv.ext.trans q3).trans hwk2.2⟩
 have noend:∀E' a' w',dE gl σe E' a' w'→False:=fun E' a' w' h=>Kn (h.hw.eJ z _ hze)
 cases draw with
 |false=>exact xl hlen (total _ post) hg (fun E' a' w' h _=>(noend E' a' w' h).elim)
 |
  true=>
  have iq:=iq rfl
  simp only[bP] at iq
  exact xo T iq.1 iq.2 (fun _ _ _ _ h=>by cases h) (total _ post) hg (fun E' a' w' h _=>(noend E' a' w' h).elim)
end Go.Ax
namespace Go.Ax
theorem NX{P:Program}{w:World}{g:Nat}{a:Option Nat}{b:Nat}{c:Array Nat}{d:Nat}{o':Obj}(h:w.heap[g]? =some (.mapIter a b c d)):(setObj g o').run P w= .ok () (w.putObj g o'):=by simp[setObj,Sem.run,h,World.putObj]
theorem FC{P:Program}(w:World)(ty:TypeId)(g bm since c0:Nat)(seen:Array Nat)(es:Array MapEntry)(clock:Nat)(hg:w.heap[g]? =some (.mapIter (some bm) since seen c0))(hb:w.heap[bm]? =some (.map es clock))(hold:∀x∈es.toList,x.born<since)(hsc:since≤c0):
 ((leftOf es seen).size=0∧(Instr.next (.pointer (some ⟨g,0,none⟩)) false ty).run P w= .ok (.tuple #[.bool false]) w)∨
 ∃e∈(leftOf es seen).toList,∃w1:World,(w1=w∨w1=w.drew)∧(Instr.next (.pointer (some ⟨g,0,none⟩)) false ty).run P w= .ok (.tuple #[.bool true,e.key,e.val]) (w1.putObj g (.mapIter (some bm) since (seen.push e.born) clock)):=by
 simp only[Instr.next,getObj,Sem.run_bind,Sem.run,hg,hb,Result.andThen,next_test_false seen es since c0 hold hsc,dv,dc]
 unfold leftOf
 have apM:∀x∈(Array.filter (fun e=> !seen.contains e.born) es).toList,x.born<since:=fun x hx=>hold x (by grind)
 generalize Array.filter (fun e=> !seen.contains e.born) es=L at apM ⊢
 have e1:L.filter (fun x=>decide (x.born<since))=L:=Array.filter_eq_self.2 (fun x hx=>by grind)
 have e2:L.filter (fun x=>decide (x.born≥since))= #[]:=by
  simp_all
 simp only[e1,e2,Array.append_empty]
 by_cases h0:L.size=0
 ·simp_all[Question.forced]
 ·right
  have hne:L.isEmpty=false:=by grind
  simp only[hne,dv,dc,Array.empty_append,Array.size_map]
  have hch:∃(j:Nat)(w1:World),j<L.size∧(w1=w∨w1=w.drew)∧(choose (Question.mapNext L.size)).run P w= .ok j w1:=by
   by_cases hf:L.size≤1
   ·exact⟨0,w,by omega,Or.inl rfl,by simp[choose,Sem.run,Question.forced,hf]⟩
   ·exact⟨_,w.drew,Nat.mod_lt _ (by omega),Or.inr rfl,by
     simp only[choose,Sem.run,Question.forced,rE,hf,dc,Question.cut]
     rfl⟩
  obtain⟨j,w1,hj,hal,apa⟩:=hch
  refine⟨L[j],by simp,w1,hal,?_⟩
  have hg1:w1.heap[g]? =some (.mapIter (some bm) since seen c0):=by
   rcases hal with e|e
   ·grind
   ·rw[e];exact hg
  simp only[apa,Array.getElem?_map,Array.getElem?_eq_getElem hj,Option.map_some,Sem.run_bind,NX hg1,Result.andThen]
  rfl
theorem IH{en:Array MapEntry}{seen:Array Nat}(hn:(en.toList.map (·.born)).Nodup){i:Nat}{e:MapEntry}(he:(od en seen).toList[i]? =some e):(od en (seen.push e.born)).toList=(od en seen).toList.eraseIdx i:=by
 have key:∀(l:List MapEntry)(i:Nat)(e:MapEntry),(l.map (·.born)).Nodup→l[i]? =some e→l.filter (fun x=> !(x.born==e.born))=l.eraseIdx i:=by
  intro l
  induction l with
  |nil=>grind
  |
   cons x l ih=>
   intro i e hn h
   have hn':x.born∉l.map (·.born)∧(l.map (·.born)).Nodup:=List.nodup_cons.1 hn
   cases i with
   |
    zero=>
    simp_all
   |
    succ i=>
    grind
 have hl:(od en (seen.push e.born)).toList=(od en seen).toList.filter (fun x=> !(x.born==e.born)):=by
  simp only[od,Array.toList_filter,List.filter_filter]
  grind
 grind [od]
theorem RM.ats{E:Env}{w:World}{k v:Ty}:∀{es:List MapEntry}{xs:List (k.den×v.den)},RM E w k v es xs→es.length=xs.length∧(∀(i:Nat)(e:MapEntry)(x:k.den×v.den),es[i]? =some e→xs[i]? =some x→ew E w (.val k x.1) e.key∧ew E w (.val v x.2) e.val)∧∀i,RM E w k v (es.eraseIdx i) (xs.eraseIdx i)
 |[],[],_=>⟨rfl,fun i e x h=>by simp at h,fun i=>by simp[RM]⟩
 |[],_::_,h=>h.elim
 |_::_,[],h=>h.elim
 |
  e::es,x::xs,⟨h1,h2,h3⟩=>by
  obtain⟨a,b,c⟩:=RM.ats h3
  refine⟨by simp[a],?_,?_⟩
  ·grind
  ·intro i
   cases i with
   |zero=>grind
   |succ i=>simpa using⟨h1,h2,c i⟩
noncomputable def L2{A R:Type}(xs:List A)(K:A→List A→Option R):Option R:=
 @dite _ (∃r,∀i(h:i<xs.length),K xs[i] (xs.eraseIdx i)=some r) (Classical.propDecidable _) (fun h=>some h.choose) (fun _=>none)
theorem L4{A R:Type}{xs:List A}{K:A→List A→Option R}{r:R}(h:L2 xs K=some r)(i:Nat)(hi:i<xs.length):K xs[i] (xs.eraseIdx i)=some r:=by
 unfold L2 at h
 split at h<;>grind
theorem eV.next{P:Program}{gl:Ctx}{σ:St}{Q:jU→St→Prop}{id:Nat}{o0 o1:Oper}{s d d1 b:Nat}{kt vt:Ty}{rest:List (kt.den×vt.den)}{cur:Option (kt.den×vt.den)}
 (h0:o0.op= .next (.tmp s) false) (hg0:o0.guard=none) (hd0:o0.dst=some d) (h1:o1.op= .extract (.tmp d) 0) (hg1:o1.guard=none) (hd1:o1.dst=some d1)
 (hs:σ.tm[s]? =some (.ptr b [])) (hb:σ.hp[b]? =some (some (.qX kt vt rest cur))) (hl:Nat.blt d σ.tm.length=true)
 (hq0:rest= []→Q .normal ((σ.put (some d) .bot).put (some d1) (.val .bool false)))
 (hq1:∀i(hi:i<rest.length),Q .normal ((({σ with hp:=σ.hp.set b (some (.qX kt vt (rest.eraseIdx i) (some rest[i])))}:St).put (some d) .bot).put (some d1) (.val .bool true))):
 eV P gl (.region id #[o0,o1] false) σ Q:=by
 intro E a w hg
 obtain⟨g,om,since,seen,c0,q1,q2,q3⟩:=hg.hw.eJ b _ hb
 have hlt:d<a.tmps.size:=by rw[hg.len];simp_all
 have hx:a.eval (.tmp s)= .pointer (some ⟨g,0,none⟩):=by
  have hv:=j9 hg (.tmp s)
  have:db gl σ.tm (.tmp s)= .ptr b []:=by simp[db,hs]
  rw[this] at hv
  obtain⟨g',hg',ev,_⟩:=RV.atom rfl hv
  grind [Ty.off]
 have w0:∀z,Region.wanted o0 z=true:=fun z=>by simp[Region.wanted,hg0]
 have w1:∀z,Region.wanted o1 z=true:=fun z=>by simp[Region.wanted,hg1]
 refine wpIn_region ?_
 have hr:List.range (#[o0,o1]:Array Oper).size= [0,1]:=rfl
 rw[hr]
 have fin:∀(vs:Array Value)(x:Bool)(w':World)(σ':St),(Instr.next (.pointer (some ⟨g,0,none⟩)) false o0.type).run P w= .ok (.tuple vs) w'→vs[0]? =some (.bool x)→dE gl σ' E a w'→Ext gl.md (cU σ.hp E) E w (cU σ'.hp E) E w'→
  Q .normal ((σ'.put (some d) .bot).put (some d1) (.val .bool x))→wpOpsIn (Wd gl) 0 P #[o0,o1] (vO gl Q σ E w) [0,1] a w:=by
  intro vs x w' σ' apa hv0 hg' hext hq
  simp only[wpOpsIn,List.getElem?_toArray,List.getElem?_cons_zero,zg,w0,cC]
  refine⟨fun _ _=>trivial,?_⟩
  rw[Oper.semAt_eq _ _ _ (by grind)]
  have r1:(execOp a.eval o0).run P w= .ok (.value (.tuple vs)) w':=by simp[execOp,h0,hx,apa]
  rw[r1,Oper.uponIn_value,hd0]
  simp only[w1,cC]
  refine⟨fun _ _=>trivial,?_⟩
  rw[Oper.semAt_eq _ _ _ (by grind)]
  have hev:(a.put (some d) (.tuple vs)).eval (.tmp d)= .tuple vs:=by simp[Act.eval,Act.put,hlt]
  have r2:(execOp (a.put (some d) (.tuple vs)).eval o1).run P w'= .ok (.value (.bool x)) w':=by
   simp_all[execOp,Instr.extract]
  rw[r2,Oper.uponIn_value,hd1]
  have ga:=hg'.put (some d) (x:=.bot) (v:=.tuple vs) trivial
  have gb:=ga.put (some d1) (x:=.val .bool x) (v:=.bool x) RV.bool
  exact⟨.normal,_,E,trivial,hq,gb,hext⟩
 have nextNil:om=none→rest= []→wpOpsIn (Wd gl) 0 P #[o0,o1] (vO gl Q σ E w) [0,1] a w:=by
  intro e1 e2
  subst e1
  refine fin #[.bool false] false w σ ?_ rfl hg (Ext.refl _ _ _) (hq0 e2)
  simp only[Instr.next,getObj,Sem.run_bind,Sem.run,q2,Result.andThen]
  rfl
 rcases q3 with⟨e1,e2,_⟩|⟨bm,en,e1,r2,r3,e4,r5,r6,r7,r8⟩
 ·grind
 ·subst e1;subst e4
  obtain⟨m1,m2,m3⟩:=RM.ats r7
  rcases FC (P:=P) w o0.type g bm since since seen en since q2 r3 r5 (cV _) with⟨z,apa⟩|⟨e,he,w1',hw1,apa⟩
  ·have hr0:rest= []:=by
    grind [leftOf,od]
   exact fin #[.bool false] false w σ apa rfl hg (Ext.refl _ _ _) (hq0 hr0)
  ·have he:e∈(od en seen).toList:=he
   obtain⟨i,hi,hie⟩:=List.mem_iff_getElem.1 he
   have hie':(od en seen).toList[i]? =some e:=by grind
   have hir:i<rest.length:=by grind
   have hrm:=IH r6 hie'
   have hen:e∈en.toList:=by
    grind [od]
   obtain⟨k1,k2⟩:=m2 i e rest[i] hie' (rF hir)
   have hh:w1'.heap=w.heap:=by rcases hw1 with e|e<;>rw[e]<;>rfl
   have hlg:g<w1'.heap.size:=by grind
   have hne:bm≠g:=fun e=>by grind
   have hoth:∀j,j≠g→(w1'.putObj g (.mapIter (some bm) since (seen.push e.born) since)).heap[j]? =w.heap[j]? :=fun j hj=>by
    grind [World.putObj_heap_other]
   have kp:di E w E (w1'.putObj g (.mapIter (some bm) since (seen.push e.born) since)):=⟨fun j hj=>hoth j (fun e=>hg.hw.oM b _ g hb q1 (e▸hj)),fun _ h=>h⟩
   have hrb:RB E (w1'.putObj g (.mapIter (some bm) since (seen.push e.born) since)) b (.qX kt vt (rest.eraseIdx i) (some rest[i])):=by
    refine⟨g,some bm,since,seen.push e.born,since,q1,World.putObj_heap_same hlg,Or.inr ⟨bm,en,rfl,r2,by grind,rfl,r5,r6,?_,?_⟩⟩
    ·rw[hrm];exact RM.mono kp (m3 i)
    ·intro x hx
     cases hx
     exact⟨e,seen,rfl,hen,ew.mono kp (fun _ hb=>by cases hb) k1,ew.mono kp (fun _ hb=>by cases hb) k2⟩
   have hw2:=hg.hw.write (w':=w1'.putObj g (.mapIter (some bm) since (seen.push e.born) since)) hb (by simp_all) (fun j hj=>hoth j (fun e=>hj (by grind))) hrb
   refine fin #[.bool true,e.key,e.val] true _ {σ with hp:=σ.hp.set b (some (.qX kt vt (rest.eraseIdx i) (some rest[i])))} apa rfl (hg.carry kp (fun _ _=>⟨rfl,rfl,rfl⟩) hw2) ⟨?_,?_,?_,?_,?_,fun _ h=>h,fun _ h=>Or.inl h,fun i hi=>Or.inl (cU.set hb hi),fun _ _=>⟨rfl,rfl,rfl⟩⟩ (hq1 i hir)
   ·rcases hw1 with e|e<;>rw[e]<;>rfl
   ·rcases hw1 with e|e
    ·rw[e];exact Tp.r rfl rfl
    ·rw[e];exact Tp.s rfl rfl
   ·rcases hw1 with e|e<;>rw[e]<;>rfl
   ·simp_all
   ·intro j hj ho
    exact hoth j (fun e=>ho ⟨b,_,hb,by rw[e];exact Or.inl q1⟩)
end Go.Ax
namespace Go.Ax
theorem eV.S2{P:Program}{gl:Ctx}{σ:St}{Q:jU→St→Prop}{id:Nat}{o1 o2:Oper}{y:Code}(x:Operand)(d1 d2:Nat)(t t2 e:TypeId)(bs:Nat)(u:Ty)(xs:List u.den)
 (h1:o1.op= .move x) (hd1:o1.dst=some d1) (hg1:o1.guard=none) (h2:o2.op= .binOp .eql t (.tmp d1) (.const (.slice none 0 0)) t2) (hd2:o2.dst=some d2) (hg2:o2.guard=none)
 (hx:db gl σ.tm x= .val (.slice bs u) xs) (ht:P.underlying t=some (.slice e)) (hl:Nat.blt d1 σ.tm.length=true)
 (h:∀b:Bool,(b=true→xs= [])→eV P gl y ((σ.put (some d1) (.val (.slice bs u) xs)).put (some d2) (.val .bool b)) Q):eV P gl (.seq (.region id #[o1,o2] false) y) σ Q:=by
 intro E a w hg
 have hv:=j9 hg x
 rw[hx] at hv
 obtain⟨ad,cap,hve,_,_,_,hor⟩:=RV.atom rfl hv
 simp at hve
 have hlt:d1<a.tmps.size:=by rw[hg.len];simp[Nat.blt] at hl;omega
 refine wpIn_seq (wpIn_region ?_)
 have hr:List.range (#[o1,o2]:Array Oper).size= [0,1]:=rfl
 rw[hr]
 have w1:∀z,Region.wanted o1 z=true:=fun z=>by simp[Region.wanted,hg1]
 have w2:∀z,Region.wanted o2 z=true:=fun z=>by simp[Region.wanted,hg2]
 have ga:=hg.put (some d1) hv
 have hb:ad.isNone=true→xs= []:=by
  intro hn
  rcases hor with h0|⟨b,o,cs,e1,_⟩
  ·exact h0
  ·subst e1;cases hn
 have gb:=ga.put (some d2) (x:=.val .bool ad.isNone) (v:=.bool ad.isNone) (RV.gZ (Or.inr ⟨rfl,rfl⟩))
 have hfin:=h ad.isNone hb E _ w gb
 simp only[wpOpsIn,List.getElem?_toArray,List.getElem?_cons_zero,zg,w1,cC]
 refine⟨fun _ _=>trivial,?_⟩
 rw[Oper.semAt_eq _ _ _ (by rw[h1];intro c hc;cases hc)]
 have r1:(execOp a.eval o1).run P w= .ok (.value (a.eval x)) w:=by simp[execOp,h1]
 rw[r1,Oper.uponIn_value,hd1]
 simp only[w2,cC]
 refine⟨fun _ _=>trivial,?_⟩
 rw[Oper.semAt_eq _ _ _ (by rw[h2];intro c hc;cases hc)]
 have hev:(a.put (some d1) (a.eval x)).eval (.tmp d1)= .slice ad xs.length cap:=by
  have:(a.put (some d1) (a.eval x)).eval (.tmp d1)=a.eval x:=by
   generalize a.eval x=v
   simp[Act.eval,Act.put,hlt]
  rw[this,hve]
 have r2:(execOp (a.put (some d1) (a.eval x)).eval o2).run P w= .ok (.value (.bool ad.isNone)) w:=by
  have hq:=run_equal_slice_nil (P:=P) w t e ad xs.length cap ht
  have hc:(a.put (some d1) (a.eval x)).eval (.const (.slice none 0 0))= .slice none 0 0:=rfl
  simp[execOp,h2,hev,hc,eqGuard,binOp,hq]
 rw[r2,Oper.uponIn_value,hd2]
 simp only[Exit.then]
 refine wpIn_mono hfin ?_
 rintro ex a' w' ⟨x',σ',E',k1,k2,k3,k4⟩
 exact⟨x',σ',E',k1,k2,k3,k4⟩
end Go.Ax
namespace Go.Ax
theorem HW.frame{gl:Ctx}{E:Env}{w:World}{hp:List (Option aX)}(h:HW gl E w hp){g:Nat}{o:Obj}(hS:¬E.S g)(hO:¬cU hp E g):di E w E (w.putObj g o)∧HW gl E (w.putObj g o) hp:=by
 have kp:di E w E (w.putObj g o):=⟨fun b hb=>World.putObj_heap_other (fun e=>hS (e▸hb)),fun _ h=>h⟩
 exact⟨kp,fun b k hb=>RB.mono kp (fun _ _=>⟨rfl,rfl,rfl⟩) (fun i hi=>World.putObj_heap_other (fun e=>hO ⟨b,k,hb,by grind⟩)) (fun _ _ h=>h) (h.eJ b k hb),h.gY,h.fZ,fun i hi=>by simpa using h.slt i hi,h.kz kp,fun b k g hb hg=>by simpa using h.xi b k g hb hg⟩
theorem dE.frame{gl:Ctx}{σ:St}{E:Env}{a:Act}{w:World}(h:dE gl σ E a w){g:Nat}{o:Obj}(hS:¬E.S g)(hO:¬cU σ.hp E g):dE gl σ E a (w.putObj g o):=by
 obtain⟨kp,hw⟩:=h.hw.frame (o:=o) hS hO
 exact h.carry kp (fun _ _=>⟨rfl,rfl,rfl⟩) hw
theorem Ext.put{gl:Ctx}{O:Nat→Prop}{E:Env}{w:World}{g:Nat}{o:Obj}(h:O g):Ext gl.md O E w O E (w.putObj g o):=
 ⟨rfl,Tp.r rfl rfl,rfl,by simp,fun i _ hi=>World.putObj_heap_other (fun e=>hi (e▸h)),fun _ h=>h,fun _ h=>Or.inl h,fun _ h=>Or.inl h,fun _ _=>⟨rfl,rfl,rfl⟩⟩
theorem qt{hp:List (Option aX)}{b c:Nat}{k:aX}(h:(hp.set b none)[c]? =some (some k)):c≠b∧hp[c]? =some (some k):=by
 grind
theorem HW.drop{gl:Ctx}{E:Env}{w:World}{hp:List (Option aX)}(h:HW gl E w hp)(b:Nat):HW gl E w (hp.set b none):=h.less (fun _ _ hc=>(qt hc).2)
theorem cU.drop{E:Env}{hp:List (Option aX)}{b g:Nat}(h:cU (hp.set b none) E g):cU hp E g:=by
 obtain⟨c,k,h1,h2⟩:=h
 exact⟨c,k,(qt h1).2,h2⟩
theorem dE.shut{gl:Ctx}{σ:St}{E:Env}{a:Act}{w:World}(h:dE gl σ E a w){b g:Nat}{k:aX}(hb:σ.hp[b]? =some (some k))(hg:E.g b=some g)(o:Obj):
 dE gl {σ with hp:=σ.hp.set b none} E a (w.putObj g o)∧Ext gl.md (cU σ.hp E) E w (cU (σ.hp.set b none) E) E (w.putObj g o):=by
 have hS:¬E.S g:=h.hw.oM b k g hb hg
 have hO:¬cU (σ.hp.set b none) E g:=by
  rintro⟨c,k',hc,hgc⟩
  obtain⟨h1,h2⟩:=qt hc
  exact h1 (h.hw.gY c b k' k g h2 hb hgc (Or.inl hg))
 have h1:dE gl {σ with hp:=σ.hp.set b none} E a w:=⟨h.len,h.tm,h.hw.drop b,h.df⟩
 refine⟨h1.frame hS hO,?_⟩
 have:=Ext.put (gl:=gl) (O:=cU σ.hp E) (E:=E) (w:=w) (o:=o) ⟨b,k,hb,Or.inl hg⟩
 exact{this with own:=fun i hi=>Or.inl (cU.drop hi)}
def marks:List AV→List (Option aX)→Option (List (Option aX))
 |[],hp=>some hp
 |
  .mp b::l,hp=>match iS hp b with
  |some .AZ=>marks l (hp.set b none)
  |_=>none
 |_,_=>none
theorem Kp{P:Program}{gl:Ctx}{fn:Func}{R:Ending→World→Prop}{tmps:Array Value}:∀(df:List AV){tm:List AV}{hp hp':List (Option aX)}{E:Env}{ds:List Deferred}{w:World},
 dE gl ⟨tm,hp,df⟩ E ⟨tmps,ds⟩ w→marks df hp=some hp'→(∀w',dE gl ⟨tm,hp',[]⟩ E ⟨tmps,[]⟩ w'→Ext gl.md (cU hp E) E w (cU hp' E) E w'→LeavesIn (Wd gl) 0 P fn tmps R [] .returning w')→LeavesInM (Wd gl) 0 P fn tmps R ds .returning w
 |
  [],tm,hp,hp',E,ds,w,h,hm,hk=>by
  cases hm
  have:ds= []:=by
   have:=h.df
   cases ds with
   |nil=>rfl
   |cons _ _=>trivial
  subst this
  exact hk w h (Ext.refl _ _ _)
 |
  x::l,tm,hp,hp',E,ds,w,h,hm,hk=>by
  cases x with
  |
   mp b=>
   simp only[marks] at hm
   split at hm
   ·rename_i hb
    have hbk:=dU hp b _ hb
    cases ds with
    |nil=>exact h.df.elim
    |
     cons d ds=>
     obtain⟨⟨g,hg,hd⟩,hrest⟩:=h.df
     obtain⟨g',hg',hh⟩:=h.hw.eJ b _ hbk
     rw[hg] at hg';cases hg'
     have h0:dE gl ⟨tm,hp,l⟩ E ⟨tmps,ds⟩ w:=⟨h.len,h.tm,h.hw,hrest⟩
     obtain⟨g1,x1⟩:=h0.shut hbk hg (.deferred none)
     refine⟨by simp,Or.inl ⟨g,_,by rw[hd],run_takeDeferred hh,?_⟩⟩
     exact Kp l g1 hm (fun w' k1 k2=>hk w' k1 (x1.trans k2))
   ·cases hm
  |_=>simp[marks] at hm
end Go.Ax
namespace Go.Ax
def Ctx.wB(gl:Ctx)(B:(Nat→Prop)→World→Prop)(hB:∀{S S':Nat→Prop}{w w':World},(∀b,S b→w'.heap[b]? =w.heap[b]?)→(∀b,S b→S' b)→B S w→B S' w'):Ctx:=⟨gl.gl,B,hB,none,gl.md⟩
def Ctx.xV(gl:Ctx)(l:Nat):Ctx:=⟨gl.gl,fun _ _=>True,fun _ _ _=>trivial,some l,gl.md⟩
def jmp(jl:List Code):Nat→Option Code
 |0=>none
 |j+1=>jl[j]?
def jy(fn:FuncId)(tmps:Array Value)(ps:Array Tmp)(assign body:Code)(D:Nat)(jl:List Code)(j:Nat):Loop:=
 {state:=if Nat.beq j 0 then .ready else .done,pending:=jmp jl j,fn,tmps,params:=ps,assign,body,defers:=D}
def AV.tu(m:List (Nat×Nat)):AV→Option AV
 | .ptr b p=>(pn m b).map fun c=>.ptr c p
 | .mL b p lo len=>(pn m b).map fun c=>.mL c p lo len
 |
  .func fn fs cs=>match fs.tu m,cs.tu m with
  |some f,some c=>if f.atoms&&c.atoms then some (.func fn f c) else none
  |_,_=>none
 |
  .cons a b=>match a.tu m,b.tu m with
  |some x,some y=>some (.cons x y)
  |_,_=>none
 | .val t x=>some (.val t x)
 | .dk t x=>some (.dk t x)
 | .aM=>some .aM
 | .kv=>some .kv
 | .ia=>some .ia
 | .jD=>some .jD
 | .fm f t x=>some (.fm f t x)
 | .kZ=>some .kZ
 | .nil=>some .nil
 |_=>none
structure RnP(m:List (Nat×Nat))(E:Env)(w:World)(E':Env)(w':World):Prop where
 at':∀b c,pn m b=some c→E'.g c=E.g b∧E'.bt c=E.bt b
 k:di E w E' w'
theorem AV.Kq{m:List (Nat×Nat)}{x y:AV}(h:x.tu m=some y):y.isAgg=x.isAgg:=by
 cases x with
 |ptr b p=>simp only[AV.tu,jz] at h;obtain⟨c,_,rfl⟩:=h;rfl
 |mL b p lo len=>simp only[AV.tu,jz] at h;obtain⟨c,_,rfl⟩:=h;rfl
 |
  func fn fs cs=>
  simp only[AV.tu] at h
  split at h
  ·split at h
   ·cases h;rfl
   grind
  grind
 |
  cons a b=>
  simp only[AV.tu] at h
  split at h
  ·cases h;rfl
  grind
 |_=>simp[AV.tu] at h<;>subst h<;>rfl
theorem RC.tu{m:List (Nat×Nat)}{E E':Env}{w w':World}(r:RnP m E w E' w'):∀{x y:AV}{vs:List Value},x.tu m=some y→RC E w x vs→RC E' w' y vs:=by
 intro x
 induction x with
 |
  ptr b p=>
  intro y vs h hr
  simp only[AV.tu,jz] at h
  obtain⟨c,hc,rfl⟩:=h
  obtain⟨e1,e2⟩:=r.at' b c hc
  obtain⟨g,h1,h2,h3⟩:=hr
  exact⟨g,by grind,by grind,by grind⟩
 |
  mL b p lo len=>
  intro y vs h hr
  simp only[AV.tu,jz] at h
  obtain⟨c,hc,rfl⟩:=h
  obtain⟨e1,e2⟩:=r.at' b c hc
  obtain⟨n,t,h1,h2,h3,a,cap,h4,h5,h6⟩:=hr
  refine⟨n,t,by rw[e2];exact h1,by rw[e2];exact h2,h3,a,cap,h4,h5,h6.imp id ?_⟩<;>grind
 |
  func fn fs cs ih1 ih2=>
  intro y vs h hr
  simp only[AV.tu] at h
  split at h
  ·rename_i f c h1 h2
   split at h
   ·rename_i ha
    cases h
    simp only[bP] at ha
    obtain⟨f',c',e,r1,r2,_,_⟩:=hr
    exact⟨f',c',e,ih1 h1 r1,ih2 h2 r2,ha.1,ha.2⟩
   grind
  grind
 |
  cons a b ih1 ih2=>
  intro y vs h hr
  simp only[AV.tu] at h
  split at h
  ·rename_i x y h1 h2
   cases h
   obtain⟨v1,v2,e,r1,r2⟩:=hr
   exact⟨v1,v2,e,ih1 h1 r1,ih2 h2 r2⟩
  grind
 |val t x=>intro y vs h hr;simp only[AV.tu,fG] at h;subst h;exact RC.mono (a:=.val t x) r.k (fun _ hb=>by cases hb) hr
 |dk t x=>intro y vs h hr;simp only[AV.tu,fG] at h;subst h;exact RC.mono (a:=.dk t x) r.k (fun _ hb=>by cases hb) hr
 |aM=>intro y vs h hr;simp only[AV.tu,fG] at h;subst h;exact hr
 |kv=>intro y vs h hr;simp only[AV.tu,fG] at h;subst h;exact hr
 |ia=>intro y vs h hr;simp only[AV.tu,fG] at h;subst h;exact hr
 |jD=>intro y vs h hr;simp only[AV.tu,fG] at h;subst h;exact hr
 |fm f t x=>intro y vs h hr;simp only[AV.tu,fG] at h;subst h;obtain⟨ha,cs,h1,h2⟩:=hr;exact⟨ha,cs,h1,Rel.mono r.k.w r.k.S h2⟩
 |kZ=>intro y vs h hr;simp only[AV.tu,fG] at h;subst h;exact hr
 |nil=>intro y vs h hr;simp only[AV.tu,fG] at h;subst h;exact hr
 |_=>intro y vs h hr;trivial
theorem RV.tu{m:List (Nat×Nat)}{E E':Env}{w w':World}(r:RnP m E w E' w'){x y:AV}{v:Value}(h:x.tu m=some y)(hr:RV E w x v):RV E' w' y v:=by
 have hp:x.plain=true:=by cases x<;>simp[AV.tu] at h<;>rfl
 have h0:=RV.mN hp hr
 refine RV.gZ ?_
 rcases h0 with⟨h1,cs,e,h2⟩|⟨h1,h2⟩
 ·exact Or.inl ⟨by rw[AV.Kq h];exact h1,cs,e,RC.tu r h h2⟩
 ·exact Or.inr ⟨by rw[AV.Kq h];exact h1,RC.tu r h h2⟩
def NY(m:List (Nat×Nat)):List AV→List AV
 |[]=>[]
 |x::l=>(match x.tu m with|some y=>y|none=>.bot)::NY m l
theorem Kr{m:List (Nat×Nat)}:∀{l:List AV},(NY m l).length=l.length
 |[]=>rfl
 |_::l=>by simp[NY,Kr (l:=l)]
theorem Ks{m:List (Nat×Nat)}:∀{l:List AV}{i:Nat}{y:AV},(NY m l)[i]? =some y→y= .bot∨∃x,l[i]? =some x∧x.tu m=some y
 |[],i,y,h=>by trivial
 |
  x::l,0,y,h=>by
  simp only[NY,List.getElem?_cons_zero,fG] at h
  grind
 |
  x::l,i+1,y,h=>by
  simp only[NY,zg] at h
  simpa using Ks h
def xC:List (Nat×AV)→List AV→List AV
 |[],l=>l
 |(t,x)::r,l=>xC r (l.set t x)
theorem FD{E:Env}{w:World}:∀{ps:List Nat}{args:List AV}{vs:List Value}{tm:List AV}{tmps:Array Value},ru E w args vs→tmps.size=tm.length→(∀(i:Nat)(x:AV),tm[i]? =some x→∀v,tmps[i]? =some v→RV E w x v)→
 ((ps.zip vs).foldl (fun t(p:Nat×Value)=>t.setIfInBounds p.1 p.2) tmps).size=(xC (ps.zip args) tm).length∧
 (∀(i:Nat)(x:AV),(xC (ps.zip args) tm)[i]? =some x→∀v,((ps.zip vs).foldl (fun t(p:Nat×Value)=>t.setIfInBounds p.1 p.2) tmps)[i]? =some v→RV E w x v)
 |[],args,vs,tm,tmps,_,hs,ht=>by trivial
 |p::ps,[],[],tm,tmps,_,hs,ht=>by trivial
 |p::ps,[],_::_,tm,tmps,h,hs,ht=>h.elim
 |p::ps,_::_,[],tm,tmps,h,hs,ht=>h.elim
 |
  p::ps,a::args,v::vs,tm,tmps,⟨h1,h2⟩,hs,ht=>by
  simp only[List.zip_cons_cons,List.foldl_cons,xC]
  refine FD h2 (by simp[hs]) ?_<;>grind
def rm(i:Nat):List (Nat×Ty)→Bool
 |[]=>false
 |(j,_)::l=>Nat.beq i j||rm i l
def rZ(gs:Nat→Nat)(ti:List (Nat×Ty))(i:Nat):aX→aX
 | .var t v=>if rm i ti then .tv (gs i) t v else .var t v
 |k=>k
def tie(gs:Nat→Nat)(ti:List (Nat×Ty)):Nat→List (Option aX)→List (Option aX)
 |_,[]=>[]
 |s,none::l=>none::tie gs ti (s+1) l
 |s,some k::l=>some (rZ gs ti s k)::tie gs ti (s+1) l
theorem sZ{gs:Nat→Nat}{ti:List (Nat×Ty)}:∀{l:List (Option aX)}{s:Nat},(tie gs ti s l).length=l.length
 |[],_=>rfl
 |none::l,s=>by simp[tie,sZ (l:=l)]
 |some _::l,s=>by simp[tie,sZ (l:=l)]
theorem me{gs:Nat→Nat}{ti:List (Nat×Ty)}:∀{l:List (Option aX)}{s i:Nat}{k:aX},(tie gs ti s l)[i]? =some (some k)→∃k0,l[i]? =some (some k0)∧k=rZ gs ti (s+i) k0
 |[],s,i,k,h=>by trivial
 |none::l,s,0,k,h=>by simp[tie] at h
 |some x::l,s,0,k,h=>by simp_all[tie]
 |
  none::l,s,i+1,k,h=>by
  obtain⟨k0,h1,h2⟩:=me (l:=l) (by simpa[tie] using h)
  exact⟨k0,by simpa using h1,by rw[h2];congr 1;omega⟩
 |
  some x::l,s,i+1,k,h=>by
  obtain⟨k0,h1,h2⟩:=me (l:=l) (by simpa[tie] using h)
  exact⟨k0,by simpa using h1,by rw[h2];congr 1;omega⟩
theorem DP{gs:Nat→Nat}{ti:List (Nat×Ty)}:∀{l:List (Option aX)}{s i:Nat}{k:aX},l[i]? =some (some k)→(tie gs ti s l)[i]? =some (some (rZ gs ti (s+i) k))
 |[],s,i,k,h=>by simp at h
 |none::l,s,0,k,h=>by simp at h
 |some x::l,s,0,k,h=>by simp at h;subst h;rfl
 |
  none::l,s,i+1,k,h=>by
  have:=DP (gs:=gs) (ti:=ti) (s:=s+1) (l:=l) (i:=i) (k:=k) (by grind)
  grind [tie]
 |
  some x::l,s,i+1,k,h=>by
  have:=DP (gs:=gs) (ti:=ti) (s:=s+1) (l:=l) (i:=i) (k:=k) (by grind)
  grind [tie]
theorem RB.aaL{gs:Nat→Nat}{ti:List (Nat×Ty)}{E:Env}{w:World}{i:Nat}{k:aX}(h:RB E w i (rZ gs ti i k)):RB E w i k:=by
 cases k with
 |
  var t v=>
  simp only[rZ] at h
  split at h
  ·obtain⟨h0,h1,h2,c,e,h4,h5⟩:=h;exact⟨h1,h2,_,c,e,h0,h4,h5⟩
  grind
 |_=>exact h
theorem RB.tie{gs:Nat→Nat}{ti:List (Nat×Ty)}{E:Env}{w:World}{i:Nat}{k:aX}(h:RB E w i k)(hg:rm i ti=true→E.g i=some (gs i)):RB E w i (rZ gs ti i k):=by
 cases k with
 |
  var t v=>
  simp only[rZ]
  split
  ·rename_i hh
   obtain⟨h1,h2,g,c,e,h3,h4,h5⟩:=h
   have:=hg hh
   rw[this] at h3;cases h3
   exact⟨this,h1,h2,c,e,h4,h5⟩
  grind
 |_=>exact h
def vz(hp:List (Option aX)):List (Nat×Ty)→Bool
 |[]=>true
 |(i,t)::l=>(match hp[i]? with|some (some (.var t' _))=>Ty.same t' t|_=>false)&&Nat.blt i 16&&vz hp l
theorem Af{hp:List (Option aX)}{i:Nat}:∀{ti:List (Nat×Ty)},vz hp ti=true→rm i ti=true→i<16∧∃t v,hp[i]? =some (some (.var t v))∧(i,t)∈ti
 |[],_,h=>by cases h
 |
  (j,t)::l,h,hi=>by
  simp only[vz,bP] at h
  simp only[rm,jV] at hi
  rcases hi with hi|hi
  ·have e:=dm hi;subst e
   refine⟨by simp_all,?_⟩
   grind [Ty.aE]
  ·obtain⟨h1,t',v,h2,h3⟩:=Af h.2 hi
   grind
def aaM(P:Program)(gl:Ctx)(y:Code)(Q:jU→St→Prop):jU→St→Prop
 | .normal,σ=>eV P gl y σ Q
 |_,_=>False
def aaN(gl:Ctx)(jl:List Code)(j:Nat)(H:List (Option aX)):jU→St→Prop
 | .normal,σ=>j=0∧∃σ' m,Wk gl σ σ'∧prune σ'.hp m=H
 | .ret,σ=>(j≠0∧jmp jl j=some .ret)∧∃σ' m,Wk gl σ σ'∧prune σ'.hp m=H
 | .exit i,σ=>(j≠0∧jmp jl j=some (.exit i))∧∃σ' m,Wk gl σ σ'∧prune σ'.hp m=H
 |_,_=>False
theorem HW.ctx{C C':Ctx}{E:Env}{w:World}{hp:List (Option aX)}(h:HW C E w hp)(hg:C'.gl=C.gl)(hb:C'.B E.S w):HW C' E w hp:=
 ⟨h.eJ,h.gY,h.fZ,h.slt,⟨by rw[hg];exact h.gl.1,hb⟩,h.xi⟩
theorem Ext.add{gl:Ctx}{O O':Nat→Prop}{E E':Env}{w w':World}(h:Ext gl.md O E w O' E' w')(l:Nat):Ext gl.md (fun g=>O g∨g=l) E w (fun g=>O' g∨g=l) E' w' where
 os:=h.os
 tape:=h.tape
 output:=h.output
 size:=h.size
 kept:=fun g hg ho=>h.kept g hg (fun x=>ho (Or.inl x))
 sle:=h.sle
 rI:=fun g hg=>(h.rI g hg).imp id (fun x=>x.imp Or.inl id)
 own:=fun g hg=>by
  rcases hg with hg|hg
  ·exact(h.own g hg).imp Or.inl id
  grind
 LK:=h.LK
theorem Fy.S3{P:Program}{gl:Ctx}{σ:St}{E:Env}{a:Act}{w:World}(hg:dE gl σ E a w){B:(Nat→Prop)→World→Prop}{hB:∀{S S':Nat→Prop}{w w':World},(∀b,S b→w'.heap[b]? =w.heap[b]?)→(∀b,S b→S' b)→B S w→B S' w'}
 (hBu:∀S' w',B S' w'→(∀b,E.S b→S' b)∧(∀b,E.S b→w'.heap[b]? =w.heap[b]?)) {l D k0:Nat} {fn:FuncId} {ps:Array Tmp} {assign body:Code} {gs:Nat→Nat} {ti:List (Nat×Ty)} {m:List (Nat×Nat)} {jl:List Code}
 (hti:∀b i,pn m b=some i→rm i ti=true∧E.g b=some (gs i)∧∀t,(i,t)∈ti→E.bt b=t)
 {args:List AV} {H H':List (Option aX)} {j:Nat} (hps:ps.size=args.length) (hk:Nat.blt k0 16=true) (hkt:rm k0 ti=false) (h0:H[k0]? =some none) (h0':H'[k0]? =some none) (ht:vz H ti=true) (_ht':vz H' ti=true)
 (apa:eV P (gl.xV l) assign ⟨xC (ps.toList.zip args) (NY m σ.tm),H,[]⟩ (aaM P (gl.xV l) body (aaN (gl.xV l) jl j H'))):
 Fy P (gl.wB B hB) l args ((tie gs ti 0 H).set k0 (some (.lp ⟨l,gs,jy fn a.tmps ps assign body D jl⟩ 0))) (.ret (.val .bool (Nat.beq j 0))) ((tie gs ti 0 H').set k0 (some (.lp ⟨l,gs,jy fn a.tmps ps assign body D jl⟩ j))):=by
 intro E1 w1 vs hv hW
 have hk16:k0<16:=by simp_all
 have lenH:k0<(tie gs ti 0 H).length:=by grind [sZ]
 have lenH':k0<(tie gs ti 0 H').length:=by grind [sZ]
 have hlp:((tie gs ti 0 H).set k0 (some (.lp ⟨l,gs,jy fn a.tmps ps assign body D jl⟩ 0)))[k0]? =some (some (.lp ⟨l,gs,jy fn a.tmps ps assign body D jl⟩ 0)):=by
  grind
 obtain⟨hgl,hrec⟩:E1.g k0=some l∧w1.heap[l]? =some (.loop (jy fn a.tmps ps assign body D jl 0)):=hW.eJ k0 _ hlp
 have at1:∀(i:Nat)(k:aX),H[i]? =some (some k)→i≠k0∧((tie gs ti 0 H).set k0 (some (.lp ⟨l,gs,jy fn a.tmps ps assign body D jl⟩ 0)))[i]? =some (some (rZ gs ti i k)):=by
  intro i k hi
  have hne:i≠k0:=fun e=>by grind
  refine⟨hne,?_⟩
  rw[fY,aB (fun e=>hne e.symm)]
  simp_all[DP]
 have hSl:¬E1.S l:=hW.oM k0 _ l hlp hgl
 have hW1:HW (gl.xV l) E1 w1 H:=by
  refine⟨?_,?_,?_,hW.slt,⟨hW.gl.1,trivial⟩,fun i k g hi=>hW.xi i _ g (at1 i k hi).2⟩
  ·intro i k hi;exact(hW.eJ i _ (at1 i k hi).2).aaL
  ·intro i i' k k' g hi hi' g1 g2;exact hW.gY i i' _ _ g (at1 i k hi).2 (at1 i' k' hi').2 g1 g2
  ·intro i k g hi g1;exact hW.fZ i _ g (at1 i k hi).2 g1
 have hOl:¬cU H E1 l:=by
  rintro⟨i,k,hi,hgi⟩
  exact(at1 i k hi).1 (hW.gY i k0 _ _ l (at1 i k hi).2 hlp hgi (Or.inl hgl))
 have hgi:∀i,rm i ti=true→i<16∧E1.g i=some (gs i):=by
  intro i hi
  obtain⟨h1,t,v,h2,_⟩:=Af ht hi
  have:=hW.eJ i _ (at1 i _ h2).2
  simp only[rZ,hi,cC] at this
  exact⟨h1,this.1⟩
 obtain⟨b1,b2⟩:=hBu E1.S w1 hW.gl.2
 have hrnp:RnP m E w E1 w1:=by
  refine⟨?_,⟨b2,b1⟩⟩
  intro b i hbi
  obtain⟨c1,c2,c3⟩:=hti b i hbi
  obtain⟨_,t,v,h2,h3⟩:=Af ht c1
  have:=hW1.eJ i _ h2
  exact⟨by grind,by rw[this.1,c3 t h3]⟩
 obtain⟨hl,_⟩:=hv.get
 have hframe:dE (gl.xV l) ⟨xC (ps.toList.zip args) (NY m σ.tm),H,[]⟩ E1 {tmps:=(ps.zip vs.toArray).foldl (fun t (p,v)=>t.setIfInBounds p v) a.tmps,defers:=[]} w1:=by
  have hzip:(ps.zip vs.toArray).foldl (fun t (p,v)=>t.setIfInBounds p v) a.tmps=(ps.toList.zip vs).foldl (fun t(p:Nat×Value)=>t.setIfInBounds p.1 p.2) a.tmps:=by
   rw[←Array.foldl_toList]
   congr 1
   simp
  have:=FD (ps:=ps.toList) (tm:=NY m σ.tm) (tmps:=a.tmps) hv (by rw[Kr];exact hg.len) (fun i x hx v hv'=>by
   rcases Ks hx with e|⟨y,h1,h2⟩
   ·subst e;trivial
   ·exact RV.tu hrnp h2 (hg.tm i y h1 v hv'))
  rw[hzip]
  exact⟨this.1,this.2,hW1,trivial⟩
 refine⟨fn,_,assign,body,run_yield hrec (by simp[jy,←hl,hps]),roundIn_of_wpIn (F:=Fence.wide) trivial ?_⟩
 refine wpIn_mono (apa E1 _ w1 hframe) ?_
 rintro ex a2 w2 ⟨x,σ2,E2,q1,q2,q3,q4⟩
 cases ex with
 |
  normal=>
  cases x with
  |
   normal=>
   simp only[Exit.then]
   have hlt:l<w1.heap.size:=(Array.getElem?_eq_some_iff.1 hrec).1
   have hrec2:w2.heap[l]? =some (.loop (jy fn a.tmps ps assign body D jl 0)):=by rw[q4.kept l hlt hOl];grind
   have notO:∀{hp:List (Option aX)}{E':Env}{w':World},Ext gl.md (cU H E1) E1 w1 (cU hp E') E' w'→¬cU hp E' l∧¬E'.S l:=by
    intro hp E' w' hx
    constructor
    ·intro ho;rcases hx.own l ho with h|h<;>grind
    ·intro hs;rcases hx.rI l hs with h|h|h<;>grind
   obtain⟨n1,n2⟩:=notO q4
   refine⟨w2.putObj l (.loop {jy fn a.tmps ps assign body D jl 0 with state:=.busy}),run_beginRound hrec2 rfl,?_⟩
   have g2:=q3.frame (o:=.loop {jy fn a.tmps ps assign body D jl 0 with state:=.busy}) n2 n1
   refine wpIn_mono (q2 E2 a2 _ g2) ?_
   rintro ex a3 w3 ⟨x3,σ3,E3,r1,r2,r3,r4⟩
   have lt2:l<w2.heap.size:=(Array.getElem?_eq_some_iff.1 hrec2).1
   have hbusy:w3.heap[l]? =some (.loop {jy fn a.tmps ps assign body D jl 0 with state:=.busy}):=by
    rw[r4.kept l (by simpa using lt2) n1]
    exact World.putObj_heap_same lt2
   have fin:∀(jump:Option Code),jump=jmp jl j→(jump.isNone=Nat.beq j 0)→(∃σ' mm,Wk (gl.xV l) σ3 σ'∧prune σ'.hp mm=H')→
    ∃v w',(Instr.endRound l jump).run P w3= .ok v w'∧∃E',C6 E' w' (.ret (.val .bool (Nat.beq j 0))) (.returned v)∧HW (gl.wB B hB) E' w' ((tie gs ti 0 H').set k0 (some (.lp ⟨l,gs,jy fn a.tmps ps assign body D jl⟩ j)))∧
     Ext gl.md (cU ((tie gs ti 0 H).set k0 (some (.lp ⟨l,gs,jy fn a.tmps ps assign body D jl⟩ 0))) E1) E1 w1 (cU ((tie gs ti 0 H').set k0 (some (.lp ⟨l,gs,jy fn a.tmps ps assign body D jl⟩ j))) E') E' w':=by
    rintro jump hj hjn ⟨σ4,mm,hwk,hpr⟩
    obtain⟨E4,g4,x4⟩:=hwk E3 a3 w3 r3
    have hlt3:l<w3.heap.size:=(Array.getElem?_eq_some_iff.1 hbusy).1
    have hnew:({({jy fn a.tmps ps assign body D jl 0 with state:=.busy}:Loop) with state:=if jump.isNone then .ready else .done,pending:=jump}:Loop)=jy fn a.tmps ps assign body D jl j:=by
     grind [jy]
    have hend:=run_endRound (P:=P) jump hbusy
    rw[hnew,hjn] at hend
    have X:=((((q4.add l).trans (Ext.put (o:=.loop {jy fn a.tmps ps assign body D jl 0 with state:=.busy}) (Or.inr rfl))).trans (r4.add l)).trans (x4.add l)).trans (Ext.put (o:=.loop (jy fn a.tmps ps assign body D jl j)) (Or.inr rfl))
    have w4:HW (gl.xV l) E4 w3 H':=by rw[←hpr];exact g4.hw.prune mm
    have sub4:∀g,cU H' E4 g→cU σ4.hp E4 g:=by
     rintro g ⟨b,k,hb,hgb⟩
     rw[←hpr] at hb
     exact⟨b,k,mW hb,hgb⟩
    have n4:¬cU H' E4 l∧¬E4.S l:=by
     have hx:Ext gl.md (cU H E1) E1 w1 (cU σ2.hp E2) E2 w2:=q4
     obtain⟨m1,m2⟩:=notO hx
     have m3:¬cU σ3.hp E3 l∧¬E3.S l:=by
      constructor
      ·intro ho;rcases r4.own l ho with h|h
       ·grind
       ·simp at h;omega
      ·intro hs;rcases r4.rI l hs with h|h|h
       ·grind
       ·grind
       ·simp at h;omega
     constructor
     ·intro ho;rcases x4.own l (sub4 l ho) with h|h<;>grind
     ·intro hs;rcases x4.rI l hs with h|h|h<;>grind
    obtain⟨kp,wf⟩:=w4.frame (o:=.loop (jy fn a.tmps ps assign body D jl j)) n4.2 n4.1
    have gk0:E4.g k0=some l:=by rw[(X.LK k0 hk16).1];exact hgl
    have at4:∀(i:Nat)(k:aX),((tie gs ti 0 H').set k0 (some (.lp ⟨l,gs,jy fn a.tmps ps assign body D jl⟩ j)))[i]? =some (some k)→(i=k0∧k= .lp ⟨l,gs,jy fn a.tmps ps assign body D jl⟩ j)∨(i≠k0∧∃k',H'[i]? =some (some k')∧k=rZ gs ti i k'):=by
     intro i k hi
     rw[fY] at hi
     split at hi
     ·grind
     ·rename_i e
      obtain⟨k',h1,h2⟩:=me hi
      grind
    have ne4:∀(i:Nat)(k:aX),H'[i]? =some (some k)→¬E4.has i l:=fun i k hi e=>n4.1 ⟨i,k,hi,e⟩
    obtain⟨E5,hE5⟩:∃E5:Env,E5={E4 with P:=fun b g=>b≠k0∧E4.P b g}:=⟨_,rfl⟩
    have e5g:∀b,E5.g b=E4.g b:=fun b=>by rw[hE5]
    have e5S:E5.S=E4.S:=by rw[hE5]
    have e5h:∀b g,E5.has b g→E4.has b g:=fun b g h=>h.imp (fun x=>by grind) (fun x=>by rw[hE5] at x;exact x.2)
    have e5k:∀g,E5.has k0 g→g=l:=fun g h=>by
     rcases h with h|h
     ·grind
     ·rw[hE5] at h;grind
    have kp5:∀w:World,di E4 w E5 w:=fun w=>⟨fun _ _=>rfl,fun g hg=>by grind⟩
    refine⟨_,_,hend,E5,RV.bool,⟨?_,?_,?_,fun g hg=>wf.slt g (by grind),⟨fun x hx=>?_,?_⟩,?_⟩,?_⟩
    ·intro i k hi
     rcases at4 i k hi with⟨e1,e2⟩|⟨hne,k',h1,h2⟩
     ·subst e1;subst e2
      exact⟨by grind,World.putObj_heap_same hlt3⟩
     ·subst h2
      exact RB.mono (kp5 _) (fun b _=>by rw[hE5];grind) (fun _ _=>rfl) (fun _ g hg=>by rw[hE5];grind) ((wf.eJ i k' h1).tie (fun hh=>by obtain⟨c1,c2⟩:=hgi i hh;rw[(X.LK i c1).1];exact c2))
    ·intro i i' k k' g hi hi' j1 j2
     rcases at4 i k hi with⟨e1,e2⟩|⟨hne,k2,h1,h2⟩
     ·grind
     ·rcases at4 i' k' hi' with⟨e1',e2'⟩|⟨hne',k2',h1',h2'⟩
      ·grind
      ·exact wf.gY i i' k2 k2' g h1 h1' (e5h _ _ j1) (e5h _ _ j2)
    ·intro i k g hi g1
     rw[e5S]
     rcases at4 i k hi with⟨e1,e2⟩|⟨hne,k2,h1,h2⟩
     ·grind
     ·exact wf.fZ i k2 g h1 (e5h _ _ g1)
    ·obtain⟨y1,y2⟩:=wf.gl.1 x hx
     grind
    ·refine hB ?_ (fun b hb=>by rw[e5S];exact X.sle b hb) hW.gl.2
     intro b hb
     refine X.kept b (hW.slt b hb) ?_
     rintro(⟨i,k,hi,hgi'⟩|e)
     ·exact hW.fZ i _ b (at1 i k hi).2 hgi' hb
     grind
    ·intro i k g hi g1
     rcases at4 i k hi with⟨e1,e2⟩|⟨hne,k2,h1,h2⟩
     ·subst e1;grind
     ·exact wf.xi i k2 g h1 (by rw[hE5] at g1;grind)
    ·refine⟨X.os,X.tape,X.output,X.size,?_,fun g hg=>by rw[e5S];exact X.sle g hg,?_,?_,fun b hb=>by rw[hE5];exact X.LK b hb⟩
     ·intro g hgl' ho
      refine X.kept g hgl' ?_
      rintro(⟨i,k,hi,hgi'⟩|e)
      ·exact ho ⟨i,_,(at1 i k hi).2,hgi'⟩
      ·subst e;exact ho ⟨k0,_,hlp,Or.inl hgl⟩
     ·intro g hs
      rw[e5S] at hs
      rcases X.rI g hs with h|h|h
      ·grind
      ·rcases h with⟨i,k,hi,hgi'⟩|e
       ·exact Or.inr (Or.inl ⟨i,_,(at1 i k hi).2,hgi'⟩)
       grind
      grind
     ·rintro g ⟨i,k,hi,hgi'⟩
      have:cU σ4.hp E4 g∨g=l:=by
       rcases at4 i k hi with⟨e1,e2⟩|⟨hne,k2,h1,h2⟩
       ·grind
       ·exact Or.inl (sub4 g ⟨i,k2,h1,e5h _ _ hgi'⟩)
      rcases X.own g this with h|h
      ·rcases h with⟨i,k,hi,hgi'⟩|e
       ·exact Or.inl ⟨i,_,(at1 i k hi).2,hgi'⟩
       ·subst e;exact Or.inl ⟨k0,_,hlp,Or.inl hgl⟩
      grind
   cases ex with
   |
    normal=>
    cases x3 with
    |normal=>obtain⟨e,hh⟩:=r2;subst e;exact fin none rfl rfl hh
    |_=>trivial
   |
    ret=>
    cases x3 with
    |
     ret=>
     obtain⟨⟨e,e2⟩,hh⟩:=r2
     exact fin (some .ret) e2.symm (by cases j with|zero=>grind|succ j=>rfl) hh
    |_=>trivial
   |
    exit i=>
    cases x3 with
    |
     exit i'=>
     have e0:i'=i:=r1
     subst e0
     obtain⟨⟨e,e2⟩,hh⟩:=r2
     exact fin (some (.exit i')) e2.symm (by cases j with|zero=>grind|succ j=>rfl) hh
    |_=>trivial
   |panic chain=>cases x3<;>first|trivial|trivial
   |goto t=>cases x3<;>exact r1.elim
   |outgrown=>cases x3<;>exact r1.elim
  |_=>trivial
 |ret=>cases x<;>first|trivial|trivial
 |exit i=>cases x<;>first|trivial|trivial
 |panic chain=>cases x<;>first|trivial|trivial
 |goto t=>cases x<;>exact q1.elim
 |outgrown=>cases x<;>exact q1.elim
end Go.Ax
namespace Go.Ax
def II(P:Program)(gl:Ctx)(tm:List AV)(ps:Array Tmp)(assign body:Code)(k0:Nat)(ti:List (Nat×Ty))(m:List (Nat×Nat))(jl:List Code)(C:Ctx)(y:YC):Prop:=
 ∀(args:List AV)(H H':List (Option aX))(j:Nat),ps.size=args.length→H[k0]? =some none→H'[k0]? =some none→vz H ti=true→vz H' ti=true→
  eV P (gl.xV y.l) assign ⟨xC (ps.toList.zip args) (NY m tm),H,[]⟩ (aaM P (gl.xV y.l) body (aaN (gl.xV y.l) jl j H'))→
  Fy P C y.l args ((tie y.gs ti 0 H).set k0 (some (.lp y 0))) (.ret (.val .bool (Nat.beq j 0))) ((tie y.gs ti 0 H').set k0 (some (.lp y j)))
def gsC(gs:Nat→Nat)(m:List (Nat×Nat))(b:Nat):Nat:=match pn m b with|some i=>gs i|none=>0
def mtC:List (Nat×Nat)→List (Nat×Ty)
 |[]=>[]
 |(b,_)::l=>(b,.unit)::mtC l
theorem FE{b:Nat}:∀{m:List (Nat×Nat)},rm b (mtC m)=true→∃i,pn m b=some i
 |[],h=>by cases h
 |
  (c,i)::l,h=>by
  simp only[mtC,rm,jV] at h
  unfold pn
  split
  ·grind
  ·rename_i hn
   rcases h with h|h
   ·exact absurd (by rw[dm h];exact Nat.beq_refl c) hn
   ·exact FE h
def mOK(hp:List (Option aX))(ti:List (Nat×Ty)):List (Nat×Nat)→Bool
 |[]=>true
 |(b,i)::l=>(match hp[b]? with|some (some (.var t _))=>rm i ti&&(ti.all fun x=> !Nat.beq x.1 i||Ty.same x.2 t)|_=>false)&&mOK hp ti l
theorem NZ{hp:List (Option aX)}{ti:List (Nat×Ty)}:∀{m:List (Nat×Nat)},mOK hp ti m=true→∀b i,(b,i)∈m→rm i ti=true∧∃t v,hp[b]? =some (some (.var t v))∧∀t',(i,t')∈ti→t'=t
 |[],_,b,i,h=>by cases h
 |
  (c,k)::l,hm,b,i,h=>by
  simp only[mOK,bP] at hm
  rcases List.mem_cons.1 h with e|h
  ·cases e
   have h1:=hm.1
   split at h1
   ·rename_i t v hv
    simp only[bP,ng] at h1
    refine⟨h1.1,t,v,hv,fun t' ht'=>?_⟩
    have:=h1.2 _ ht'
    simp at this
    exact Ty.aE this
   grind
  ·exact NZ hm.2 b i h
def N0:List (Option aX)→List (Option aX)
 |[]=>[]
 |some (.tv _ t v)::l=>some (.var t v)::N0 l
 |x::l=>x::N0 l
theorem ou:∀{l:List (Option aX)}{i:Nat}{k:aX},(N0 l)[i]? =some (some k)→∃k',l[i]? =some (some k')∧(k'=k∨∃g t v,k'= .tv g t v∧k= .var t v)
 |[],i,k,h=>by trivial
 |
  x::l,0,k,h=>by
  unfold N0 at h
  grind
 |
  x::l,i+1,k,h=>by
  unfold N0 at h
  split at h
  ·cases(by assumption:_=_)
  ·rename_i heq;cases heq;simpa using ou (by simpa using h)
  ·rename_i heq;cases heq;simpa using ou (by simpa using h)
theorem dE.N0{gl:Ctx}{σ:St}{E:Env}{a:Act}{w:World}(h:dE gl σ E a w):dE gl {σ with hp:=Ax.N0 σ.hp} E a w∧Ext gl.md (cU σ.hp E) E w (cU (Ax.N0 σ.hp) E) E w:=by
 refine⟨⟨h.len,h.tm,⟨?_,?_,?_,h.hw.slt,h.hw.gl,?_⟩,h.df⟩,{Ext.refl (cU σ.hp E) E w with own:=?_ }⟩
 ·intro b k hb
  obtain⟨k',h1,h2⟩:=ou hb
  have:=h.hw.eJ b k' h1
  rcases h2 with e|⟨g,t,v,e1,e2⟩
  ·grind
  ·subst e1;subst e2
   obtain⟨q0,q1,q2,c,e,q4,q5⟩:=this
   exact⟨q1,q2,g,c,e,q0,q4,q5⟩
 ·intro b b' k k' g hb hb' g1 g2
  obtain⟨k1,h1,_⟩:=ou hb
  obtain⟨k2,h2,_⟩:=ou hb'
  exact h.hw.gY b b' k1 k2 g h1 h2 g1 g2
 ·intro b k g hb g1
  obtain⟨k1,h1,_⟩:=ou hb
  exact h.hw.fZ b k1 g h1 g1
 ·intro b k g hb g1
  obtain⟨k1,h1,_⟩:=ou hb
  exact h.hw.xi b k1 g h1 g1
 ·rintro g ⟨b,k,hb,g1⟩
  obtain⟨k1,h1,_⟩:=ou hb
  exact Or.inl ⟨b,k1,h1,g1⟩
theorem dE.tie{gl:Ctx}{σ:St}{E:Env}{a:Act}{w:World}(h:dE gl σ E a w){gs:Nat→Nat}{ti:List (Nat×Ty)}(hg:∀b,rm b ti=true→E.g b=some (gs b)):dE gl {σ with hp:=Ax.tie gs ti 0 σ.hp} E a w∧Ext gl.md (cU σ.hp E) E w (cU (Ax.tie gs ti 0 σ.hp) E) E w:=by
 refine⟨⟨h.len,h.tm,⟨?_,?_,?_,h.hw.slt,h.hw.gl,?_⟩,h.df⟩,{Ext.refl (cU σ.hp E) E w with own:=?_ }⟩
 ·intro b k hb
  obtain⟨k',h1,h2⟩:=me hb
  rw[ek] at h2
  subst h2
  exact(h.hw.eJ b k' h1).tie (hg b)
 ·intro b b' k k' g hb hb' g1 g2
  obtain⟨k1,h1,_⟩:=me hb
  obtain⟨k2,h2,_⟩:=me hb'
  exact h.hw.gY b b' k1 k2 g h1 h2 g1 g2
 ·intro b k g hb g1
  obtain⟨k1,h1,_⟩:=me hb
  exact h.hw.fZ b k1 g h1 g1
 ·intro b k g hb g1
  obtain⟨k1,h1,_⟩:=me hb
  exact h.hw.xi b k1 g h1 g1
 ·rintro g ⟨b,k,hb,g1⟩
  obtain⟨k1,h1,_⟩:=me hb
  exact Or.inl ⟨b,k1,h1,g1⟩
theorem IJ{σ:St}{d e:Nat}{k:aX}(hk:k.ids= [])(h:σ.fresh d)(hne:d≠e):({σ with hp:=σ.hp.set e (some k)}:St).fresh d:=by
 have h1:=pJ.1 h.1
 refine⟨pJ.2 ⟨h1.1,h1.2.1,?_⟩,?_,h.2.2⟩
 ·grind
 ·intro k' hi
  rw[fY,aB (fun x=>hne x.symm)] at hi
  exact h.2.1 k' hi
def wT(y:YC)(m:List (Nat×Nat))(dI lI:Nat)(hp:List (Option aX)):List (Option aX):=tie (gsC y.gs m) (mtC m) 0 ((hp.set dI (some .AZ)).set lI (some (.lp y 0)))
structure aiW(σ:St)(y:YC)(m:List (Nat×Nat))(dI lI j:Nat)(cs:AV)(cr:CR)(L:List AV)(ins:List (Nat×Option aX))(hpF:List (Option aX)):Prop where
 hr:cr.r= .ky .nil
 hL:qR (qY cr.al) (iS (wT y m dI lI σ.hp)) (((.func (.yield y.l) .nil .nil,Ty.unit))::cs.toList.map (fun x=>(x,Ty.unit)))=some (L,[])
 nU:mE (qY cr.al) (iS (wT y m dI lI σ.hp)) cr.ps=some ins
 iq:Dj cr []=true
 hns:((cr.ns.map (·.2)).all (fun b=>({σ with hp:=wT y m dI lI σ.hp,df:=.mp dI::σ.df}:St).jo b))=true
 hF1:(bJ (wT y m dI lI σ.hp) (qZ (cr.al++cr.ns) cr.out (cr.ps++cr.ns)))[lI]? =some (some (.lp y j))
 hF2:N0 ((bJ (wT y m dI lI σ.hp) (qZ (cr.al++cr.ns) cr.out (cr.ps++cr.ns))).set lI none)=hpF
theorem eV.rangeFunc{P:Program}{gl:Ctx}{σ:St}{Q:jU→St→Prop}{g:Operand}{ps:Array Tmp}{assign body:Code}(hro:gl.ro=none){gf:FuncId}{cs:AV}(hg:db gl σ.tm g= .func (.func gf) .nil cs)
 (dI lI k0:Nat) (hd:σ.jo dI=true) (hl:σ.jo lI=true) (hne:Nat.beq dI lI=false) (hk:Nat.blt k0 16=true)
 (ti:List (Nat×Ty)) (m:List (Nat×Nat)) (hkt:rm k0 ti=false) (hm:mOK σ.hp ti m=true) (hmn:oD (m.map (·.2))=true) (jl:List Code) (hcs:cs.atoms=true)
 (hy:∀y:YC,∃j cr L ins hpF,aiW σ y m dI lI j cs cr L ins hpF∧
  (∀B hB,II P gl σ.tm ps assign body k0 ti m jl (gl.wB B hB) y→Fc P (gl.wB B hB) gf L (bJ (List.replicate cr.m none) ins) (.ret (.ky .nil)) (fu cr.m cr.out))∧
  (match jmp jl j with|none=>Q .normal ⟨σ.tm,hpF,.mp dI::σ.df⟩|some c=>eV P gl c ⟨σ.tm,hpF,.mp dI::σ.df⟩ Q)):eV P gl (.rangeFunc g ps assign body) σ Q:=by
 intro E a w hG
 refine wpIn_rangeFunc ?_
 intro fn _
 have hfd:=St.gL hd
 have hfl:=St.gL hl
 have hnd:lI≠dI:=fun e=>by simp_all
 obtain⟨rec,hrec⟩:∃rec:Nat→Loop,rec=jy fn a.tmps ps assign body w.heap.size jl:=⟨_,rfl⟩
 have hrec0:rec 0={state:=.ready,pending:=none,fn:=fn,tmps:=a.tmps,params:=ps,assign:=assign,body:=body,defers:=w.heap.size}:=by rw[hrec];rfl
 obtain⟨gs,hgs⟩:∃gs:Nat→Nat,gs=fun i=>match pn (qY m) i with|some b=>(E.g b).getD 0|none=>0:=⟨_,rfl⟩
 obtain⟨j,cr,L,ins,hpF,⟨hr,hL,nU,iq,hns,hF1,hF2⟩,hit,hq⟩:=hy ⟨w.heap.size+1,gs,rec⟩
 obtain⟨g1,x1⟩:=hG.fresh (w':=w.alloc (.deferred (some []))) hfd (g:=some w.heap.size) (sv:=undef) (t:=.unit) (k:=.AZ) rfl (Tp.r rfl rfl) rfl (by simp) (fun i hi=>heap_alloc_old w _ hi) (fun i hi=>by grind)
  ⟨w.heap.size,by simp[Env.at],heap_alloc_new w _⟩
 have hs1:(w.alloc (.deferred (some []))).heap.size=w.heap.size+1:=by simp
 obtain⟨g2,x2⟩:=g1.fresh (w':=(w.alloc (.deferred (some []))).alloc (.loop (rec 0))) (d:=lI) (IJ rfl hfl hnd) (g:=some (w.heap.size+1)) (sv:=undef) (t:=.unit) (k:=.lp ⟨w.heap.size+1,gs,rec⟩ 0) rfl (Tp.r rfl rfl) rfl (by simp) (fun i hi=>heap_alloc_old _ _ hi) (fun i hi=>by grind)
  ⟨by simp[Env.at],by have:=heap_alloc_new (w.alloc (.deferred (some []))) (.loop (rec 0));grind⟩
 generalize hw2:(w.alloc (.deferred (some []))).alloc (.loop (rec 0))=w2 at g2 x2
 generalize hE2:(E.at dI (some w.heap.size) undef .unit).at lI (some (w.heap.size+1)) undef .unit=E2 at g2 x2
 have hE2g:∀b,b≠dI→b≠lI→E2.g b=E.g b:=fun b h1 h2=>by rw[←hE2];simp[Env.at,h1,h2]
 have hE2d:E2.g dI=some w.heap.size:=by rw[←hE2];simp[Env.at,Ne.symm hnd]
 have hE2S:E2.S=E.S:=by rw[←hE2];rfl
 have x12:=x1.trans x2
 have hmu:∀b i,pn m b=some i→rm i ti=true∧E.g b=some (gs i)∧(∀t,(i,t)∈ti→E.bt b=t)∧b≠dI∧b≠lI:=by
  intro b i hbi
  have apM:=vn hbi
  obtain⟨h1,t,v,h2,h3⟩:=NZ hm b i apM
  obtain⟨r1,r2,gg,c,e,r3,_⟩:=hG.hw.eJ b _ h2
  have hlk:pn (qY m) i=some b:=iB (by grind [jR,qY,Function.comp_def]) (oo.2 apM)
  refine⟨h1,by grind,fun t' ht'=>by grind,fun e=>?_,fun e=>?_⟩
  ·subst e;exact hfd.2.1 _ h2
  ·subst e;exact hfl.2.1 _ h2
 obtain⟨g3,x3⟩:=g2.tie (gs:=gsC gs m) (ti:=mtC m) (by
  grind [FE,gsC])
 have g4:dE gl ⟨σ.tm,wT ⟨w.heap.size+1,gs,rec⟩ m dI lI σ.hp,.mp dI::σ.df⟩ E2 {a with defers:={target:=.collected w.heap.size,args:= #[]}::a.defers} w2:=
  ⟨g3.len,g3.tm,g3.hw,⟨⟨w.heap.size,hE2d,rfl⟩,g3.df⟩⟩
 have hv0:=j9 g4 g
 simp only at hv0
 rw[hg] at hv0
 obtain⟨f',c',hev,r1,r2,_,_⟩:=RV.atom rfl hv0
 simp at hev
 have hf':f'= #[]:=by apply ni;exact r1
 subst hf'
 have hav:a.eval g= .func (.func gf) #[] c':=by trivial
 obtain⟨B,hBd⟩:∃B:(Nat→Prop)→World→Prop,B=fun S' w'=>(∀b,E.S b→S' b)∧(∀b,E.S b→w'.heap[b]? =w.heap[b]?):=⟨_,rfl⟩
 have hB:∀{S S':Nat→Prop}{w w':World},(∀b,S b→w'.heap[b]? =w.heap[b]?)→(∀b,S b→S' b)→B S w→B S' w':=by
  simp_all
 have hof:II P gl σ.tm ps assign body k0 ti m jl (gl.wB B hB) ⟨w.heap.size+1,gs,rec⟩:=by
  intro args H H' j' h1 h2 h3 h4 h5 h6
  rw[hrec]
  exact Fy.S3 hG (fun S' w' h=>by grind) (fun b i hbi=>⟨(hmu b i hbi).1,(hmu b i hbi).2.1,(hmu b i hbi).2.2.1⟩) h1 hk hkt h2 h3 h4 h5 h6
 obtain⟨apg,hfn⟩:=hit B hB hof
 have hbb:=dU (wT ⟨w.heap.size+1,gs,rec⟩ m dI lI σ.hp)
 obtain⟨hφ,hwi⟩:=yk (lent:=[]) g4 hbb (fun b hb=>by cases hb) (nU) (iq)
 have hargs:ru E2 w2 ((((.func (.yield (w.heap.size+1)) .nil .nil,Ty.unit))::cs.toList.map (fun x=>(x,Ty.unit))).map (·.1)) (Value.func (.yield (w.heap.size+1)) #[] #[]::c'.toList):=by
  refine⟨RV.gZ (Or.inr ⟨rfl, #[], #[],rfl,rfl,rfl,rfl,rfl⟩),?_⟩
  have:=ru.atoms hcs r2
  have e1:∀l:List AV,(l.map (fun x=>(x,Ty.unit))).map (fun x:AV×Ty=>x.1)=l:=by intro l;induction l<;>simp_all
  grind
 have hv:=rT g4.hw hbb hφ (hL) (fun g hg=>hg) hargs
 have hSe:(E2.eQ []).S=fun g=>E.S g∨∃b∈([]:List Nat),E2.g b=some g:=by simp only[Env.eQ,hE2S]
 have hwB:HW (gl.wB B hB) (E2.to cr.al (E2.eQ []).S) w2 (bJ (List.replicate cr.m none) (ins)):=by
  refine hwi.ctx rfl ?_
  show B _ w2
  rw[hBd]
  refine⟨fun b hb=>by show(E2.eQ []).S b;grind,fun b hb=>?_⟩
  exact x12.kept b (hG.hw.slt b hb) (fun⟨c,k,hc,hgc⟩=>hG.hw.fZ c k b hc hgc hb)
 have hcalls:=hfn _ w2 _ hv hwB
 refine⟨w.heap.size+1,[{target:=.collected w.heap.size,args:= #[]}],w2,{target:=.fn (.func gf) c',args:= #[.func (.yield (w.heap.size+1)) #[] #[]]},w2,gf, #[.func (.yield (w.heap.size+1)) #[] #[]]++c',w2,?_,?_,fun _ _=>trivial,?_,fun h=>(by cases h),?_⟩
 ·simp_all[run_enterLoop_outer]
 ·simp only[resolve,hav]
  simp[go_sem]
 ·simp[invoke,apg]
 ·have e0:(Value.func (.yield (w.heap.size+1)) #[] #[]::c'.toList).toArray= #[.func (.yield (w.heap.size+1)) #[] #[]]++c':=by simp_all
  rw[e0] at hcalls
  have h1:CallsIn Fence.wide 0 P gf _ w2 _:=callsIn_wide.2 hcalls
  refine CallsIn.mono (F:=Wd gl) h1 ?_
  rintro ed w3 ⟨E',hR,hW',hX⟩
  cases ed with
  |panicked ch=>trivial
  |outgrown=>trivial
  |
   returned v=>
   have hWg:HW gl E' w3 (fu cr.m cr.out):=by
    refine hW'.ctx rfl ?_
    have hbs:B E'.S w3:=hW'.gl.2
    rw[hBd] at hbs
    exact gl.mono hbs.2 hbs.1 hG.hw.gl.2
   have hfr:∀b∈cr.ns.map (·.2),(⟨σ.tm,wT ⟨w.heap.size+1,gs,rec⟩ m dI lI σ.hp,.mp dI::σ.df⟩:St).fresh b:=by
    grind [St.gL]
   have hrr:=hr
   obtain⟨E3,k1,_,k3⟩:=oP (lent:=[]) g4 hbb (fun b hb=>by cases hb) (nU) (iq) hfr hWg hX (r':=.ky .nil) (by rw[hrr];rfl) (v:=v) (by rw[hrr];exact hR)
   have f1:=hF1;have f2:=hF2
   obtain⟨q1,q2⟩:=k1.hw.eJ lI _ f1
   obtain⟨k4,x4⟩:=k1.shut f1 q1 (.loop {rec j with state:=.exhausted})
   obtain⟨k5,x5⟩:=k4.N0
   simp only[f2] at k5 x5
   have hst:(rec j).state≠.busy:=by rw[hrec];simp only[jy];grind
   refine⟨(rec j).pending,_,run_endLoop q2 hst,?_⟩
   have hpe:(rec j).pending=jmp jl j:=by rw[hrec];rfl
   have X:=(((x12.trans x3).trans k3).trans x4).trans x5
   generalize hwF:w3.putObj (w.heap.size+1) (.loop {rec j with state:=.exhausted})=wF at k5 X
   generalize (rec j).pending=pe at hpe
   subst hpe
   revert hq
   cases jmp jl j with
   |
    none=>
    intro hq
    exact⟨.normal,_,E3,trivial,hq,k5,X⟩
   |
    some c=>
    intro hq
    refine wpIn_mono (hq E3 _ _ k5) ?_
    rintro ex a5 w5 ⟨x,σ5,E5,z1,z2,z3,z4⟩
    exact⟨x,σ5,E5,z1,z2,z3,X.trans z4⟩
end Go.Ax
namespace Go.Ax
theorem Fc.up{P:Program}{C C':Ctx}{f:FuncId}{A:List AV}{H H':List (Option aX)}{r:Bd}(hg:C'.gl=C.gl)(hC:∀S w,C.B S w)(h:Fc P C f A H r H')(hm:C'.md=C.md:=by rfl):Fc P C' f A H r H':=by
 refine⟨h.1,fun E w vs hv hw=>?_⟩
 have:=h.2 E w vs hv (hw.ctx hg.symm (hC _ _))
 intro cs
 obtain⟨e,w',fr,⟨E',r1,r2,r3⟩,rest⟩:=this cs
 rw[←hm] at r3
 exact⟨e,w',fr,⟨E',r1,r2.ctx hg (hw.kz (hw.kept r3)).2,r3⟩,rest⟩
end Go.Ax
noncomputable section
namespace Go.Ax
def y0:YC:=⟨0,fun n=>n,fun _=>default⟩
inductive CF(D T:Type) where
 |bZ (f:D→Option T)
 |oi (s:Sh) (f:D→Option (Sum (prod (s.H [])) T))
def gX{A B R:Type}(x:Option (Sum A B))(kp:A→Option R)(k:B→Option R):Option R:=
 Option.bind x fun r=>match r with
  | .inl a=>kp a
  | .inr b=>k b
theorem L5{A B R:Type}{x:Option (Sum A B)}{kp:A→Option R}{k:B→Option R}{r:R}(h:gX x kp k=some r):(∃a,x=some (.inl a)∧kp a=some r)∨∃b,x=some (.inr b)∧k b=some r:=by
 unfold gX at h
 cases x<;>grind
def CF.run{D T R:Type}:CF D T→D→(T→Option R)→(AV→Option R)→Option R
 | .bZ f,d,K,_=>Option.bind (f d) fun r=>K r
 | .oi s f,d,K,KP=>gX (f d) (fun p=>KP (s.V y0 p)) fun r=>K r
def CF.aaQ{D T:Type}:CF D T→D→T→Prop
 | .bZ f,d,r=>f d=some r
 | .oi _ f,d,r=>f d=some (.inr r)
def CF.aaR{D T:Type}:CF D T→D→AV→Prop
 | .bZ _,_,_=>False
 | .oi s f,d,x=>∃p,f d=some (.inl p)∧x=s.V y0 p
theorem CF.FF{D T R:Type}{c:CF D T}{d:D}{K:T→Option R}{KP:AV→Option R}{r:R}(h:c.run d K KP=some r):(∃y,c.aaQ d y∧K y=some r)∨∃x,c.aaR d x∧KP x=some r:=by
 cases c with
 |bZ f=>obtain⟨y,h1,h2⟩:=bind_some h;exact Or.inl ⟨y,h1,h2⟩
 |
  oi s f=>
  rcases L5 h with⟨p,h1,h2⟩|⟨y,h1,h2⟩
  ·exact Or.inr ⟨_,⟨p,h1,rfl⟩,h2⟩
  ·exact Or.inl ⟨y,h1,h2⟩
structure bH where
 fn:Fn
 A:List Sh
 B:List (Nat×jY)
 m:Nat
 F:SS
 res:F.T→AV
 out:F.T→List (Nat×aX)
 f:CF (prod (xU A (l4 B []))) F.T
abbrev bH.D(C:bH):Type:=prod (xU C.A (l4 C.B []))
def bH.args(C:bH)(d:C.D):List AV:=DK y0 C.A d
def bH.ins(C:bH)(d:C.D):List (Nat×Option aX):=fC (tN y0 C.B (DL C.A d))
structure bH.holds(P:Program)(gl:Ctx)(C:bH):Prop where
 ret:∀d r,C.f.aaQ d r→Nh P gl C.fn (C.args d) (bJ (List.replicate C.m none) (C.ins d)) (.ret (C.res r)) (fu C.m (C.out r))
 oi:∀d x,C.f.aaR d x→Nh P gl C.fn (C.args d) (bJ (List.replicate C.m none) (C.ins d)) (.oi x) (fu C.m [])
def S4:(m:List (Nat×jY))→{l:List Type}→List (Nat×Option aX)→prod l→Option (prod (l4 m l))
 |[],_,[],d=>some d
 |
  (i,s)::m,_,(j,some k)::hp,d=>if Nat.beq i j then(match S4 m hp d with
  |some e=>s.G k e
  |none=>none) else none
 |_,_,_,_=>none
theorem DQ(y:YC):∀{m:List (Nat×jY)}{l:List Type}{hp:List (Nat×Option aX)}{d:prod l}{e:prod (l4 m l)},S4 m hp d=some e→fC (tN y m e)=hp∧XX m e=d
 |
  [],l,hp,d,e,h=>by
  cases hp with
  |nil=>cases h;trivial
  |cons _ _=>trivial
 |
  (i,s)::m,l,hp,d,e,h=>by
  match hp,h with
  |[],h=>trivial
  |(j,none)::hp,h=>trivial
  |
   (j,some k)::hp,h=>
   obtain⟨hs,h0⟩:=dn h
   have:=dm hs;subst this
   split at h0
   ·rename_i e' he
    obtain⟨h1,h2⟩:=DQ y he
    obtain⟨g1,g2⟩:=jY.Bf y h0
    exact⟨by simp only[tN,fC];rw[g1,g2,h1],by simp only[XX];rw[g2,h2]⟩
   grind
def bH.get(C:bH)(L:List AV)(I:List (Nat×Option aX)):Option C.D:=
 match S4 C.B (l:=[]) I () with
 |some d=>WM C.A L d
 |none=>none
theorem bH.jn{C:bH}{L:List AV}{I:List (Nat×Option aX)}{d:C.D}(h:C.get L I=some d):C.args d=L∧C.ins d=I:=by
 unfold bH.get at h
 split at h
 ·rename_i d1 h1
  obtain⟨a1,a2⟩:=DQ y0 h1
  obtain⟨b1,b2⟩:=DN y0 h
  exact⟨b1,by unfold bH.ins;grind⟩
 grind
structure CH where
 XY:List Nat
 ps:List (Nat×Nat)
 ns:List (Nat×Nat)
 ks:List (Nat×Nat):=[]
 us:List Nat:=[]
def CH.al(ch:CH):List (Nat×Nat):=match ch.ks with
 |[]=>ch.ps
 |k::ks=>ch.ps++k::ks
inductive KS where
 |t (s:Nat)
 |c (s:Nat) (p:Path)
def KS.get(σ:St):KS→Option AV
 | .t s=>σ.tm[s]?
 |
  .c s p=>match σ.tm[s]? with
  |
   some (.ptr b q)=>match iS σ.hp b with
   |some (.var _ v)=>v.get (q++p)
   |_=>none
  |_=>none
inductive PF where
 |row (b d:Nat) (k:KS)
 |map (mode b d:Nat) (k:KS)
 |jc (b:Nat)
structure RH where
 pre:List Gh
 zs:List (Nat×Nat×Ty)
 cs:List CH
 mg:Option (List (Nat×Ty)):=none
 foc:List (Nat×Nat):=[]
 pf:List PF:=[]
 post:List Gh:=[]
structure LH where
 S:SS
 fuel:S.T→Nat
structure S5 where
 ic:Nat
 dI:Nat
 lI:Nat
 ti:List (Nat×Ty)
 m:List (Nat×Nat)
 jl:List Code
 ps:List (Nat×Nat)
 ns:List (Nat×Nat)
 S:SS
 E:SS
structure Hs where
 reg:List (Nat×RH)
 join:List (Nat×SS)
 eJ:List (Nat×SS)
 loop:List (Nat×LH)
 unr:List (Nat×Nat)
 A6:List (Nat×S5):=[]
def ifs{R:Type}:List VC→Option R→Option R
 |[],x=>x
 |v::l,x=>@ite _ v.p v.d (ifs l x) none
theorem jf{R:Type}{r:R}:∀{l:List VC}{x:Option R},ifs l x=some r→gm l∧x=some r
 |[],x,h=>⟨trivial,h⟩
 |
  v::l,x,h=>by
  unfold ifs at h
  by_cases hp:v.p
  ·rw[@if_pos _ v.d hp] at h
   obtain⟨h1,h2⟩:=jf h
   trivial
  grind
def vA(G:dq)(al ps:List (Nat×Nat))(ev:Operand→AV)(hb:Nat→Option aX)(c:Call):Option (Fn×List AV×List (Nat×Option aX)):=
 match c.callee with
 |
  .value cf=>match Nr (ev cf) with
  |
   some (fn,fl,cl)=>
   match qR (qY al) hb (fl.map (fun x=>(x,Ty.unit))++(c.args.toList.zip c.argTypes.toList).map (xr G ev)++cl.map (fun x=>(x,Ty.unit))),mE (qY al) hb ps with
   |some (L,_),some ins=>some (fn,L,ins)
   |_,_=>none
  |_=>none
 |
  .invoke rv name=>match JY G hb name (ev rv) with
  |
   some (f,x,xt)=>
   match qR (qY al) hb ((x,xt)::(c.args.toList.zip c.argTypes.toList).map (xr G ev)),mE (qY al) hb ps with
   |some (L,_),some ins=>some (.func f,L,ins)
   |_,_=>none
  |_=>none
 |_=>none
def L6(P:Program)(gl:Ctx)(cr:CR)(x:Option (Fn×List AV×List (Nat×Option aX))):Prop:=
 ∀fn L ins,x=some (fn,L,ins)→Nh P gl fn L (bJ (List.replicate cr.m none) ins) cr.fin (fu cr.m cr.out)
theorem Ag{P:Program}{G:dq}{gl:Ctx}{cr:CR}{ev:Operand→AV}{hb:Nat→Option aX}{c:Call}{e:jv}{ob:List Prop}(h:t8 P G gl cr ev hb c=some (e,ob))(hob:L6 P gl cr (vA G cr.al cr.ps ev hb c)):∀p∈ob,p:=by
 unfold t8 at h
 split at h
 ·rename_i cf hcf
  split at h
  ·rename_i fn fl cl hfv
   split at h
   ·rename_i L lent ins r' hL nU hr'
    split at h
    ·cases h
     intro p hp
     simp only[lC] at hp
     subst hp
     refine hob fn L ins ?_
     grind [vA]
    grind
   grind
  grind
 ·rename_i rv name hcf
  split at h
  ·rename_i f x xt hfv
   split at h
   ·rename_i L lent ins r' hL nU hr'
    split at h
    ·cases h
     intro p hp
     simp only[lC] at hp
     subst hp
     refine hob (.func f) L ins ?_
     grind [vA]
    grind
   grind
  grind
 grind
def Ah(G:dq)(gl:Ctx)(ops:Array Oper)(al ps:List (Nat×Nat))(z:List (Nat×Ty))(σ:St)(i:Nat):Option (Fn×List AV×List (Nat×Option aX)):=
 match ops[i]? with
 |none=>none
 |
  some o=>match o.op with
  |
   .call c=>match z with
   |[]=>vA G al ps (db gl σ.tm) (kg (xq o.op (db gl σ.tm)++ps.map (·.2)) σ.hp) c
   |z=>vA G al ps (Ml (kg (rq (db gl σ.tm) z) σ.hp) z (db gl σ.tm)) (kg (xq o.op (Ml (kg (rq (db gl σ.tm) z) σ.hp) z (db gl σ.tm))++ps.map (·.2)) (bJ σ.hp (iC (oY (kg (rq (db gl σ.tm) z) σ.hp) (db gl σ.tm) z)))) c
  |_=>none
theorem FH{P:Program}{G:dq}{gl:Ctx}{d:Nat}{cr:CR}{op:Op}{ev:Operand→AV}{hb:Nat→Option aX}{e:jv}{ob:List Prop}(h:sq P G gl d cr op ev hb=some (e,ob)):
 ob= []∨∃c e',op= .call c∧qC op=true∧t8 P G gl cr ev hb c=some (e',ob):=by
 unfold sq at h
 split at h
 ·rename_i c
  split at h
  ·simp only[jz,jb] at h
   grind
  ·rename_i hb
   simp only[xh] at h
   obtain⟨⟨e',ob'⟩,h,hk⟩:=h
   have:=Tl hk
   simp only at this
   subst this
   refine Or.inr ⟨c,e',rfl,?_,h⟩
   obtain⟨callee,args,tys⟩:=c
   cases callee with
   |builtin b=>grind
   |value _=>rfl
   |invoke _ _=>rfl
 ·simp only[jz,jb] at h
  grind
theorem oT{P:Program}{G:dq}{gl:Ctx}{ops:Array Oper}{cr:CR}{z:List (Nat×Ty)}{σ:St}{i:Nat}{f:bL}{vc:List VC}{ob:List Prop}(h:g7 P G gl ops cr z σ i=some (f,vc,ob))(hob:AN ops i=true→L6 P gl cr (Ah G gl ops cr.al cr.ps z σ i)):∀p∈ob,p:=by
 unfold g7 at h
 split at h
 ·cases h
 ·rename_i o ho
  have hat:AN ops i=qC o.op:=by unfold AN;rw[ho]
  split at h
  ·cases h
  ·grind
  ·split at h
   ·split at h
    ·cases h
    ·rename_i e ob' he
     cases h
     rcases FH he with rfl|⟨c,e',hop,hc,he'⟩
     ·grind
     grind [Ag,Ah]
   ·rename_i hz
    split at h
    ·cases h
    ·rename_i e ob' he
     cases h
     rcases FH he with rfl|⟨c,e',hop,hc,he'⟩
     ·grind
     ·refine Ag he' ?_
      simp_all[Ah]
def fnK{R:Type}:Fn→Fn→Option R→Option R→Option R
 | .func f,.func g,K,E=>if Nat.beq f g then K else E
 | .yield l,.yield l',K,_=>ifs [vc (l=l')] K
 |_,_,_,E=>E
theorem FJ{R:Type}{f g:Fn}{K E:Option R}{r:R}(h:fnK f g K E=some r):(f=g∧K=some r)∨E=some r:=by
 cases f with
 |
  func f=>
  cases g with
  |
   func g=>
   grind [fnK,dm]
  |_=>exact Or.inr h
 |
  yield l=>
  cases g with
  |
   yield l'=>
   obtain⟨h1,h2⟩:=jf h
   exact Or.inl ⟨by rw[h1.1],h2⟩
  |_=>exact Or.inr h
 |_=>exact Or.inr h
noncomputable def FK(a b:aX){R:Type}(x:Option R):Option R:=@ite _ (some a=some b) (Classical.propDecidable _) x none
theorem dW{a:aX}{R:Type}{x:Option R}:FK a a x=x:=aA rfl
def FL{R:Type}(Γ:List bH)(ps ns ks:List (Nat×Nat))(us:List Nat)(fn:Fn)(L:List AV)(I:List (Nat×Option aX))(K:CR→Option R):List Nat→Option R
 |[]=>none
 |
  c::l=>match Γ[c]? with
  |
   some C=>fnK fn C.fn (match C.get L I with
   |some d=>C.f.run d (fun r=>K ⟨C.res r,ps,ns,C.out r,C.m,false,ks,us⟩) fun x=>K ⟨x,ps,[],[],C.m,true,ks,[]⟩
   |none=>FL Γ ps ns ks us fn L I K l) (FL Γ ps ns ks us fn L I K l)
  |none=>none
def N1(Γ:List bH)(ch:CH)(x:Option (Fn×List AV×List (Nat×Option aX))){R:Type}(K:CR→Option R):Option R:=
 match x with
 |some (fn,L,I)=>FL Γ ch.ps ch.ns ch.ks ch.us fn L I K ch.XY
 |none=>none
theorem Ai{P:Program}{gl:Ctx}{Γ:List bH}(hΓ:∀C∈Γ,C.holds P gl){ps ns ks:List (Nat×Nat)}{us:List Nat}{fn:Fn}{L:List AV}{I:List (Nat×Option aX)}{R:Type}{K:CR→Option R}{r:R}:∀{l:List Nat},FL Γ ps ns ks us fn L I K l=some r→
 ∃cr,K cr=some r∧cr.ps=ps∧cr.ks=ks∧L6 P gl cr (some (fn,L,I))
 |[],h=>by cases h
 |
  c::l,h=>by
  unfold FL at h
  split at h
  ·rename_i C hC
   rcases FJ h with⟨hf,h⟩|h
   ·split at h
    ·rename_i d hd
     obtain⟨h1,h2⟩:=bH.jn hd
     have hC:=hΓ C (n8 hC)
     have key:∀(cr:CR),K cr=some r→cr.ps=ps→cr.ks=ks→Nh P gl C.fn (C.args d) (bJ (List.replicate cr.m none) (C.ins d)) cr.fin (fu cr.m cr.out)→∃cr,K cr=some r∧cr.ps=ps∧cr.ks=ks∧L6 P gl cr (some (fn,L,I)):=by
      intro cr h hp hk hh
      refine⟨cr,h,hp,hk,?_⟩
      intro fn' L' I' e
      grind
     rcases CF.FF h with⟨y,hy,h⟩|⟨x,hx,h⟩
     ·exact key _ h rfl rfl (hC.ret d y hy)
     ·exact key _ h rfl rfl (hC.oi d x hx)
    ·exact Ai hΓ h
   ·exact Ai hΓ h
  grind
theorem N2{P:Program}{gl:Ctx}{Γ:List bH}(hΓ:∀C∈Γ,C.holds P gl){ch:CH}{x:Option (Fn×List AV×List (Nat×Option aX))}{R:Type}{K:CR→Option R}{r:R}(h:N1 Γ ch x K=some r):
 ∃cr,K cr=some r∧cr.ps=ch.ps∧cr.ks=ch.ks∧L6 P gl cr x:=by
 unfold N1 at h
 split at h
 ·exact Ai hΓ h
 grind
theorem CH.UI{ch:CH}{cr:CR}(h1:cr.ps=ch.ps)(h2:cr.ks=ch.ks):cr.al=ch.al:=by
 obtain⟨_,ps,_,_,_,_,ks,_⟩:=cr
 obtain⟨_,ps',_,ks',_⟩:=ch
 cases h1
 cases h2
 trivial
def cr0:CR:=⟨.bot,[],[],[],0,false,[],[]⟩
def S6{R:Type}(s:Bool)(f:bL)(K:bL→Option R):Option R:=
 match s with
 |false=>K f
 |
  true=>match f.v with
  | .val .bool e=>if e=true then K {f with v:=.val .bool true} else K {f with v:=.val .bool false}
  |_=>K f
theorem BJ{R:Type}{s:Bool}{f:bL}{K:bL→Option R}{r:R}(h:S6 s f K=some r):K f=some r:=by
 unfold S6 at h
 split at h
 ·exact h
 ·split at h
  ·rename_i e he
   obtain⟨rt,rb,fr,dst,v,hw⟩:=f
   grind
  grind
def S7{R:Type}:List (Option Nat)→Nat→Int→bL→(bL→Option R)→Option R
 |[],_,_,_,_=>none
 |g::gs,n,e,f,K=>if e=(n:Int) then K {f with v:=LF g} else S7 gs (n+1) e f K
def N3{R:Type}(ok:Bool)(k0:Ty)(k:k0.den)(f:bL)(K:bL→Option R):List (k0.den×AV)→Option R
 |[]=>K {f with v:=okF ok .jD false}
 |x::l=>if bM k0 k x.1=true then K {f with v:=okF ok x.2 true} else N3 ok k0 k f K l
theorem BK{R:Type}{ok:Bool}{k0:Ty}{k:k0.den}{f:bL}{K:bL→Option R}{r:R}:∀{l:List (k0.den×AV)},f.v=qV ok k0 k l→N3 ok k0 k f K l=some r→K f=some r
 |
  [],hv,h=>by
  simp only[qV] at hv
  simp only[N3] at h
  rw[←hv] at h;exact h
 |
  x::l,hv,h=>by
  simp only[qV] at hv
  simp only[N3] at h
  split at h
  ·rename_i hb;rw[aA hb] at hv;rw[←hv] at h;exact h
  ·rename_i hb;rw[aB hb] at hv;exact BK hv h
def S8{R:Type}(b:Nat)(p:Path):Nat→Nat→Int→bL→(bL→Option R)→Option R
 |0,_,_,_,_=>none
 |m+1,n,e,f,K=>if e=(n:Int) then K {f with v:=.ptr b (p++[.idx n])} else S8 b p m (n+1) e f K
theorem BL{R:Type}{f:bL}{K:bL→Option R}{r:R}{b:Nat}{p:Path}{e:Int}(hv:f.v= .ptr b (p++[.idx e.toNat])):∀{m n:Nat},S8 b p m n e f K=some r→K f=some r
 |0,_,h=>by cases h
 |
  m+1,n,h=>by
  unfold S8 at h
  split at h
  ·rename_i he
   subst he
   rw[dV] at hv
   rw[←hv] at h
   exact h
  ·exact BL hv h
def aaT(hb:Nat→Option aX)(b:Nat)(p:Path):Option Nat:=
 match hb b with
 |
  some k=>match(mG k).sub p with
  |some (.fns n)=>some n
  |_=>none
 |none=>none
theorem L7{P:Program}{G:dq}{d:Nat}{t:TypeId}{x j:Operand}{ev:Operand→AV}{hb:Nat→Option aX}{r:jv}{b:Nat}{p:Path}{k:IntKind}{e:Int}(h:so P G d (.indexAddr t x j) ev hb=some r)(hx:ev x= .ptr b p)(hj:ev j= .val (.int k) e):r.v= .ptr b (p++[.idx e.toNat]):=by
 simp only[so,H5,zM,AG,AI,AJ,AK,AL,hx,hj,oh] at h
 split at h
 ·rename_i r' h
  cases h
  rename_i h
  obtain⟨⟨u,vc⟩,h,rfl⟩:=Option.map_eq_some_iff.1 h
  unfold mO at h
  split at h
  ·split at h
   ·grind
   ·grind
   ·grind
   ·grind
   ·rename_i h2
    cases h2
    split at h
    ·split at h
     ·split at h
      ·cases h;rfl
      grind
     grind
    grind
   ·rename_i h2
    cases h2
    split at h
    ·split at h
     ·split at h
      ·cases h;rfl
      grind
     grind
    grind
   ·grind
   grind
  grind
 grind
def WQ{R:Type}(gl:Ctx)(ops:Array Oper)(σ:St)(i:Nat)(f:bL)(K:bL→Option R):Option R:=
 match ops[i]? with
 |
  some o=>match o.guard,o.op with
  |
   none,.indexAddr _ x j=>match db gl σ.tm x,db gl σ.tm j with
   |
    .ptr b p,.val (.int _) e=>match aaT (iS σ.hp) b p with
    |some n=>S8 b p n 0 e f K
    |none=>K f
   |_,_=>K f
  |
   none,.index _ x j=>match db gl σ.tm x,db gl σ.tm j with
   | .val (.fns _) xs,.val (.int _) e=>S7 xs 0 e f K
   |_,_=>K f
  |
   none,.lookup _ x k ok=>match db gl σ.tm x with
   |
    .mp b=>match iS σ.hp b with
    |
     some (.k7 k0 l)=>match(db gl σ.tm k).de k0 with
     |some k'=>N3 ok k0 k' f K l
     |none=>K f
    |_=>K f
   |_=>K f
  |_,_=>K f
 |none=>K f
theorem BM{R:Type}{f:bL}{K:bL→Option R}{r:R}{ys:List (Option Nat)}{e:Int}(hv:f.v=LF (ys.getD e.toNat none)):∀{xs:List (Option Nat)}{n:Nat},(∀k,ys.getD (n+k) none=xs.getD k none)→S7 xs n e f K=some r→K f=some r
 |[],_,_,h=>by cases h
 |
  g::gs,n,hx,h=>by
  unfold S7 at h
  split at h
  ·rename_i he
   subst he
   have:ys.getD n none=g:=by simpa using hx 0
   rw[dV,this] at hv
   rw[←hv] at h
   exact h
  ·refine BM hv (fun k=>?_) h
   have:=hx (k+1)
   rw[show n+1+k=n+(k+1) by omega,this]
   simp
theorem L8{P:Program}{G:dq}{R:Type}{gl:Ctx}{ops:Array Oper}{cr:CR}{σ:St}{i:Nat}{f:bL}{vc:List VC}{ob:List Prop}{K:bL→Option R}{r:R}(hs:g7 P G gl ops cr [] σ i=some (f,vc,ob))(h:WQ gl ops σ i f K=some r):K f=some r:=by
 unfold WQ at h
 split at h
 ·rename_i o ho
  split at h
  ·rename_i t x j hg hop
   split at h
   ·rename_i b p k e hx hj
    split at h
    ·rename_i n hn
     have hv:f.v= .ptr b (p++[.idx e.toNat]):=by
      grind [g7,guardOf,sq,jz,L7]
     exact BL hv h
    grind
   grind
  ·rename_i t x j hg hop
   split at h
   ·rename_i n xs k e hx hj
    have hv:f.v=LF (xs.getD e.toNat none):=by
     unfold g7 at hs
     rw[ho] at hs
     simp only[guardOf,hg,hop] at hs
     simp only[sq,so,H5,zM,AG,AI,AJ,AK,AL,hx,hj] at hs
     split at hs
     ·cases hs
     ·rename_i e' ob' he
      cases hs
      simp only[jz,jb] at he
      obtain⟨a,ha,rfl,rfl⟩:=he
      split at ha
      case h_2=>cases ha
      rename_i a' ha'
      cases ha
      simp only[jz] at ha'
      obtain⟨b,hb,rfl⟩:=ha'
      unfold yE at hb
      split at hb
      ·split at hb
       ·grind
       ·rename_i m m' ys k' n' h1 h2 h3
        cases h2;cases h3
        split at hb
        ·cases hb;rfl
        grind
       ·grind
       grind
      grind
    exact BM hv (fun k=>by simp) h
   grind
  ·rename_i t x k ok hg hop
   split at h
   ·rename_i b hx
    split at h
    ·rename_i k0 l hbk
     split at h
     ·rename_i k' hk
      have hv:f.v=qV ok k0 k' l:=by
       grind [g7,guardOf,sq,jz,Ga,iS,kg]
      exact BK hv h
     grind
    grind
   grind
  grind
 grind
def aaU{R:Type}(gl:Ctx)(ops:Array Oper)(σ:St)(i:Nat)(z:List (Nat×Ty))(f:bL)(K:bL→Option R):Option R:=
 match z with
 |[]=>WQ gl ops σ i f (fun f=>S6 (OR ops.toList i) f K)
 |_::_=>S6 (OR ops.toList i) f K
section
variable(P:Program) (G:dq) (gl:Ctx) (Γ:List bH)
def wU(ops:Array Oper)(σ:St)(i:Nat):Bool:=
 match ops[i]? with
 |
  some o=>match guardOf ops σ.tm o with
  |some b=>b
  |none=>false
 |none=>false
def FN(ops:Array Oper){R:Type}(i:Nat)(σ:St)(z:List (Nat×Ty))(x:Option (bL×List VC×List Prop))(K:bL→Option R):Option R:=
 match x with
 |some (f,vcs,_)=>if f.fr.all σ.jo then ifs vcs (aaU gl ops σ i z f K) else none
 |none=>none
def N4(gl:Ctx)(ops:Array Oper)(σ:St)(i:Nat):Option bL:=
 match ops[i]? with
 |
  some o=>match o.guard,o.op with
  |
   none,.panic x=>match db gl σ.tm x with
   | .iface t v=>some ⟨slotsOf [x],[],[],none,.iface t v,[]⟩
   |_=>none
  |_,_=>none
 |none=>none
def aaV{R:Type}(x:Option (bL×List VC×List Prop))(KP:bL→Option R):Option R:=
 match x with
 |some (f,_,_)=>if f.fr.isEmpty then KP f else none
 |none=>none
def qv(ops:Array Oper)(zs:List (Nat×Nat×Ty)){R:Type}(K:List bL→St→Option R)(KP:List bL→bL→St→Option R):Nat→Nat→List CH→St→List bL→Option R
 |0,_,_,σ,fs=>K fs σ
 |
  n+1,i,cs,σ,fs=>
  if AN ops i&&wU ops σ i then(match cs with
   |
    ch::cs'=>N1 Γ ch (Ah G gl ops ch.al ch.ps (US zs i) σ i) fun cr=>match cr.oi with
    |false=>FN gl ops i σ (US zs i) (g7 P G gl ops cr (US zs i) σ i) fun f=>qv ops zs K KP n (i+1) cs' (σ.app f) (f::fs)
    |true=>aaV (g7 P G gl ops cr (US zs i) σ i) fun f=>KP fs f σ
   |[]=>none)
  else match N4 gl ops σ i with
  |some f=>KP fs f σ
  |none=>FN gl ops i σ (US zs i) (g7 P G gl ops cr0 (US zs i) σ i) fun f=>qv ops zs K KP n (i+1) (if AN ops i then cs.tail else cs) (σ.app f) (f::fs)
end
theorem Aj{P:Program}{G:dq}{gl:Ctx}{ops:Array Oper}{cr:CR}{z:List (Nat×Ty)}{σ:St}{i:Nat}{f:bL}{vc:List VC}{ob:List Prop}{o:Oper}(h:g7 P G gl ops cr z σ i=some (f,vc,ob))(ho:ops[i]? =some o):f.dst=o.dst:=by
 grind [g7]
theorem FP{P:Program}{G:dq}{gl:Ctx}{ops:Array Oper}{R:Type}{i:Nat}{σ:St}{cr:CR}{z:List (Nat×Ty)}{K:bL→Option R}{r:R}{f:bL}{vc:List VC}{ob:List Prop}(hs:g7 P G gl ops cr z σ i=some (f,vc,ob))(h:aaU gl ops σ i z f K=some r):K f=some r:=by
 cases z with
 |nil=>exact BJ (L8 hs h)
 |cons _ _=>exact BJ h
theorem Ak{P:Program}{G:dq}(T:cQ P G){gl:Ctx}{ops:Array Oper}{R:Type}{i:Nat}{σ:St}{cr:CR}{z:List (Nat×Ty)}{K:bL→Option R}{r:R}(apm:cr.oi=false)(hob:AN ops i=true→L6 P gl cr (Ah G gl ops cr.al cr.ps z σ i))(h:FN gl ops i σ z (g7 P G gl ops cr z σ i) K=some r):
 ∃f,(tY P gl ops i f σ∧∀o,ops[i]? =some o→f.dst=o.dst)∧(∀d∈f.fr,σ.fresh d)∧K f=some r:=by
 unfold FN at h
 split at h
 ·rename_i f vcs ob hs
  obtain⟨hf,h⟩:=dn h
  grind [jf,o9,oT,Aj,FP,St.gL]
 grind
theorem S9{P:Program}{G:dq}{gl:Ctx}{ops:Array Oper}{σ:St}{i:Nat}{cr:CR}{z:List (Nat×Ty)}{f:bL}{vc:List VC}{ob:List Prop}(h:g7 P G gl ops cr z σ i=some (f,vc,ob))(hg:wU ops σ i=false):ob= []:=by
 grind [g7,wU]
theorem N5{P:Program}{gl:Ctx}{ops:Array Oper}{σ:St}{i:Nat}{f:bL}(h:N4 gl ops σ i=some f):Ge P gl ops i f σ:=by
 unfold N4 at h
 split at h
 ·rename_i o ho
  split at h
  ·rename_i x hgd hop
   split at h
   ·rename_i t v hx
    cases h
    intro σ' ha E a w hg K Q hQ
    unfold wpOpIn
    simp only[ho]
    have hw:=jT hg (ops:=ops) (o:=o) (c:=true) (by unfold guardOf;rw[hgd])
    rw[hw]
    simp only[cC]
    have hv:=j9 hg x
    rw[mB ha (x:=x) (fun t ht=>by grind [slotsOf]),hx] at hv
    obtain⟨u,e,_⟩:=RV.atom rfl hv
    simp at e
    unfold Oper.wpIn
    refine⟨fun _ _=>trivial,?_⟩
    rw[Oper.semAt_eq _ _ _ (by grind)]
    have apa:(execOp a.eval o).run P w= .halt (.panic (a.eval x)) w:=by
     simp[execOp,hop,e,Instr.panic]
    rw[apa]
    exact hQ E (a.eval x) w hg hv (Ext.refl _ _ _)
   grind
  grind
 grind
theorem FQ{ops:Array Oper}{σ:St}{i:Nat}(h1:AN ops i=true)(h2:wU ops σ i=true):∃o,ops[i]? =some o∧guardOf ops σ.tm o=some true∧qC o.op=true:=by
 grind [wU,AN]
theorem uh{P:Program}{G:dq}(T:cQ P G){gl:Ctx}{Γ:List bH}(hΓ:∀C∈Γ,C.holds P gl){ops:Array Oper}{zs:List (Nat×Nat×Ty)}{R:Type}{K:List bL→St→Option R}{KP:List bL→bL→St→Option R}{r:R}:
 ∀{n i:Nat}{cs:List CH}{σ:St}{fs:List bL},qv P G gl Γ ops zs K KP n i cs σ fs=some r→
  (∃gs σ',uV P gl ops i gs σ σ'∧gs.length=n∧(∀(k:Nat)(f:bL)(o:Oper),gs[k]? =some f→ops[i+k]? =some o→f.dst=o.dst)∧K (gs.reverse++fs) σ'=some r)∨
  ∃gs f σ',uV P gl ops i gs σ σ'∧gs.length<n∧Ge P gl ops (i+gs.length) f σ'∧KP (gs.reverse++fs) f σ'=some r
 |0,i,cs,σ,fs,h=>Or.inl ⟨[],σ,rfl,rfl,(fun k f o h=>by simp at h),h⟩
 |
  n+1,i,cs,σ,fs,h=>by
  unfold qv at h
  have fin:∀{f:bL}{cs':List CH},(tY P gl ops i f σ∧∀o,ops[i]? =some o→f.dst=o.dst)→(∀d∈f.fr,σ.fresh d)→qv P G gl Γ ops zs K KP n (i+1) cs' (σ.app f) (f::fs)=some r→
   (∃gs σ',uV P gl ops i gs σ σ'∧gs.length=n+1∧(∀(k:Nat)(f:bL)(o:Oper),gs[k]? =some f→ops[i+k]? =some o→f.dst=o.dst)∧K (gs.reverse++fs) σ'=some r)∨
   ∃gs f σ',uV P gl ops i gs σ σ'∧gs.length<n+1∧Ge P gl ops (i+gs.length) f σ'∧KP (gs.reverse++fs) f σ'=some r:=by
   intro f cs' h1 h2 h3
   rcases uh T hΓ h3 with⟨gs,σ',k1,k2,kd,k3⟩|⟨gs,f',σ',k1,k2,kp,k3⟩
   ·refine Or.inl ⟨f::gs,σ',⟨h1.1,h2,k1⟩,by simp[k2],?_,by simpa using k3⟩<;>grind
   ·exact Or.inr ⟨f::gs,f',σ',⟨h1.1,h2,k1⟩,by grind,by grind,by grind⟩
  split at h
  ·rename_i hcg
   simp only[bP] at hcg
   split at h
   ·rename_i ch cs'
    obtain⟨cr,h,hps,hks,hob⟩:=N2 hΓ h
    split at h
    ·rename_i apm
     obtain⟨f,h1,h2,h3⟩:=Ak T apm (fun _=>by rw[hps,CH.UI hps hks];exact hob) h
     grind
    ·rename_i apm
     unfold aaV at h
     split at h
     ·rename_i f vcs ob hs
      obtain⟨hf,h⟩:=dn h
      obtain⟨o,ho,hgd,hcl⟩:=FQ hcg.1 hcg.2
      exact Or.inr ⟨[],f,σ,rfl,by simp,Jg T apm ho hgd hcl hs (oT hs (fun _=>by rw[hps,CH.UI hps hks];exact hob)) (by grind),by grind⟩
     grind
   grind
  ·rename_i hc
   split at h
   ·rename_i f hf
    exact Or.inr ⟨[],f,σ,rfl,by simp,N5 hf,by grind⟩
   ·cases ho:AN ops i with
    |
     false=>
     rw[ho] at h
     obtain⟨f,h1,h2,h3⟩:=Ak T rfl (fun e=>by grind) h
     grind
    |
     true=>
     rw[ho] at h hc
     have hg:wU ops σ i=false:=by grind
     unfold FN at h
     split at h
     ·rename_i f vcs ob hs
      obtain⟨hf,h⟩:=dn h
      obtain⟨hv,h⟩:=jf h
      refine fin ⟨o9 T rfl hs hv (by rw[S9 hs hg];grind),fun o ho=>Aj hs ho⟩ ?_ (FP hs h)
      grind [St.gL]
     grind
section
variable(P:Program) (G:dq) (gl:Ctx)
def s8(ops:Array Oper)(draw:Bool)(z p:Nat)(masks:List Nat){R:Type}(K:List bL→Option R):Nat→Nat→St→List bL→Option R
 |0,_,_,gs=>K gs.reverse
 |
  n+1,j,σ,gs=>if !draw||(masks.getD j 0).testBit p then s8 ops draw z p masks K n (j+1) σ (Ko z::gs)
  else if AN ops j then none else match g7 P G gl ops cr0 [] σ j with
   |some (f,vcs,_)=>if f.fr.isEmpty&&S1 z [f] then ifs vcs (s8 ops draw z p masks K n (j+1) (σ.app f) (f::gs)) else none
   |none=>none
end
theorem ui{P:Program}{G:dq}(T:cQ P G){gl:Ctx}{ops:Array Oper}{draw:Bool}{z p:Nat}{masks:List Nat}{R:Type}{K:List bL→Option R}{r:R}:∀{n j:Nat}{σ:St}{gs:List bL},s8 P G gl ops draw z p masks K n j σ gs=some r→
 ∃ms σ',(σ.hp[z]? =some (some IF)→dL (IG P gl ops z) j ms σ σ')∧ms.length=n∧S1 z ms=true∧K (gs.reverse++ms)=some r
 |0,j,σ,gs,h=>⟨[],σ,fun _=>rfl,rfl,rfl,by simpa[s8] using h⟩
 |
  n+1,j,σ,gs,h=>by
  unfold s8 at h
  split at h
  ·obtain⟨ms,σ',h1,h2,h3,h4⟩:=ui T h
   refine⟨Ko z::ms,σ',fun hz=>⟨Or.inr ⟨rfl,hz⟩,(fun d hd=>by cases hd),h1 hz⟩,by simp[h2],by simp only[S1,List.all_cons,bP] at h3 ⊢;exact⟨rfl,h3⟩,by simpa using h4⟩<;>grind
  ·split at h
   ·cases h
   ·rename_i ho
    split at h
    ·rename_i f vcs ob hs
     obtain⟨hf,h⟩:=dn h
     obtain⟨hv,h⟩:=jf h
     simp only[bP,List.isEmpty_iff] at hf
     obtain⟨ms,σ',h1,h2,h3,h4⟩:=ui T h
     have hob:=oT (cr:=cr0) hs (fun e=>absurd e ho)
     have hnz:S1 z (f::ms)=true:=by
      simp_all[S1]
     refine⟨f::ms,σ',fun hz=>⟨Or.inl (o9 T rfl hs hv hob),(fun d hd=>by grind),h1 ?_⟩,by simp[h2],hnz,by grind⟩
     have hq:dL (fun _ _ _=>True) j [f] σ (σ.app f):=⟨trivial,(fun d hd=>by grind),rfl⟩
     exact dL.at hq hf.2 hz
    grind
def lkH{α:Type}:List (Nat×α)→Nat→Option α
 |[],_=>none
 |(i,x)::l,j=>if Nat.beq i j then some x else lkH l j
def wV:Code→Option Nat
 | .region id _ _=>some id
 |
  .seq a b=>match wV a with
  |some i=>some i
  |none=>wV b
 |
  .cond _ a b=>match wV a with
  |some i=>some i
  |none=>wV b
 | .block _ c| .loop c| .scope c=>wV c
 |_=>none
def Ta{α:Type}(l:List (Nat×α))(c:Code):Option α:=
 match wV c with
 |some i=>lkH l i
 |none=>none
def aL{U R:Type}(F:(U→Option R)→U→Option R)(n:Nat):U→Option R:=
 @Nat.rec (fun _=>U→Option R) (fun _=>none) (fun _ ih=>F ih) n
def aG{U R:Type}(x:Option (dN U R))(f:U→Option R):Option R:=
 Option.bind x fun o=>match o with
  | .aS d=>f d
  | .ret r=>some r
def cN{U R:Type}(x:Option R):Option (dN U R):=x.map .ret
theorem IK{U R:Type}{x:Option (dN U R)}{f:U→Option R}{r:R}(h:aG x f=some r):(∃d,x=some (.aS d)∧f d=some r)∨x=some (.ret r):=by
 obtain⟨o,ho,h⟩:=bind_some h
 grind
def Tb(ops:Array Oper):Bool:=ops.toList.any fun o=>match o.op with
 | .defer _=>true
 |_=>false
def Bg{R:Type}(F:YC→Option R):Option R:=
 @dite _ (∃r,∀y,F y=some r) (Classical.propDecidable _) (fun h=>some h.choose) fun _=>none
theorem L9{R:Type}{F:YC→Option R}{r:R}(h:Bg F=some r)(y:YC):F y=some r:=by
 unfold Bg at h
 split at h<;>grind
def PE{R:Type}(a b:YC)(x:Option R):Option R:=@ite _ (a=b) (Classical.propDecidable _) x none
structure IC where
 A:List Sh
 B:List (Nat×jY)
 m:Nat
 k0:Nat
 R:List (Nat×jY)
 XY:Nat→(prod (xU A (l4 B []))→Option (ky (Bool::YC::Nat::l4 R [])))→bH
def IC.T(C:IC):List Type:=Bool::YC::Nat::l4 C.R []
def IC.Y(C:IC)(l:Nat)(f:prod (xU C.A (l4 C.B []))→Option (ky C.T)):bH:=
 ⟨.yield l,C.A,C.B,C.m,⟨1,C.m,[(0,.val .bool)],(C.k0,.lp)::C.R,[]⟩,fun r=>.val .bool (vZ C.T r).1,fun r=>(C.k0,.lp (vZ C.T r).2.1 (vZ C.T r).2.2.1)::tN y0 C.R (vZ C.T r).2.2.2,.bZ f⟩
def IC.holds(P:Program)(gl:Ctx)(C:IC):Prop:=∀B hB l f,(C.Y l f).holds P (gl.wB B hB)→(C.XY l f).holds P (gl.wB B hB)
def IL:Option aX→Bool
 |some (.tv _ _ _)=>true
 |_=>false
def Bh:List (Option aX)→Bool
 |[]=>true
 |x::l=> !IL x&&Bh l
theorem Kt:∀{l:List (Option aX)},Bh l=true→∀(i g:Nat)(t:Ty)(v:AV),l[i]? ≠some (some (.tv g t v))
 |[],_,i,g,t,v=>by simp
 |
  x::l,h,i,g,t,v=>by
  simp only[Bh,bP] at h
  cases i with
  |zero=>intro e;simp at e;subst e;exact absurd h.1 (by simp[IL])
  |succ i=>simpa using Kt h.2 i g t v
def N6(y:YC)(ti:List (Nat×Ty))(k0:Nat):Nat→List (Option aX)→Option (List VC×List (Option aX))
 |_,[]=>some ([],[])
 |
  i,x::l=>match N6 y ti k0 (i+1) l with
  |none=>none
  |
   some (vs,H)=>if Nat.beq i k0 then(match x with
    |some (.lp y' j)=>some (⟨y'=y,Classical.propDecidable _⟩::vc (j=0)::vs,none::H)
    |_=>none)
   else match x with
    |none=>some (vs,none::H)
    |some (.tv g t v)=>if rm i ti then some (vc (g=y.gs i)::vs,some (.var t v)::H) else none
    |some (.var t v)=>if rm i ti then none else some (vs,some (.var t v)::H)
    |some k=>some (vs,some k::H)
theorem yz{y:YC}{ti:List (Nat×Ty)}{k0:Nat}:∀{X:List (Option aX)}{s:Nat}{vs:List VC}{H:List (Option aX)},N6 y ti k0 s X=some (vs,H)→gm vs→
 H.length=X.length∧(∀i,s+i=k0→i<X.length→X[i]? =some (some (.lp y 0))∧H[i]? =some none)∧(∀i,s+i≠k0→X[i]? =(tie y.gs ti s H)[i]?)∧Bh H=true
 |[],s,vs,H,h,_=>by cases h;exact⟨rfl,fun i _ hi=>by grind,fun i _=>rfl,rfl⟩
 |
  x::l,s,vs,H,h,hv=>by
  unfold N6 at h
  split at h
  ·cases h
  ·rename_i vs' H' hr
   have step:∀{k:Option aX}{k':Option aX},gm vs'→Nat.beq s k0=false→x=k→(∀L,(tie y.gs ti s (k'::L))=k::tie y.gs ti (s+1) L)→IL k'=false→(k'::H').length=(x::l).length∧(∀i,s+i=k0→i<(x::l).length→(x::l)[i]? =some (some (.lp y 0))∧(k'::H')[i]? =some none)∧(∀i,s+i≠k0→(x::l)[i]? =(tie y.gs ti s (k'::H'))[i]?)∧Bh (k'::H')=true:=by
    intro k k' hv' hb hx ht hnt
    obtain⟨h1,h2,h3,h4⟩:=yz hr hv'
    have hne:s≠k0:=fun e=>by rw[e,Nat.beq_refl] at hb;cases hb
    refine⟨by simp[h1],?_,?_,by simp[Bh,hnt,h4]⟩
    ·intro i hi hl
     cases i with
     |zero=>exact absurd hi hne
     |succ i=>exact h2 i (by omega) (by simpa using hl)
    ·intro i hi
     rw[ht,hx]
     cases i with
     |zero=>rfl
     |succ i=>simpa using h3 i (by omega)
   split at h
   ·rename_i hb
    have hs:=dm hb
    subst hs
    split at h
    ·rename_i y' j
     cases h
     obtain⟨e1,e2,hv'⟩:=hv
     have e1:y'=y:=e1
     have e2:j=0:=e2
     subst e1;subst e2
     obtain⟨h1,h2,h3,h4⟩:=yz hr hv'
     refine⟨by simp[h1],?_,?_,by simp[Bh,IL,h4]⟩
     ·intro i hi _
      have:i=0:=by omega
      subst this
      exact⟨rfl,rfl⟩
     ·intro i hi
      cases i with
      |zero=>exact absurd rfl hi
      |succ i=>simpa[tie] using h3 i (by omega)
    ·cases h
   ·rename_i hb
    have hb:Nat.beq s k0=false:=by cases hq:Nat.beq s k0 with|false=>rfl|true=>exact absurd hq hb
    split at h
    ·cases h;exact step hv hb rfl (fun L=>rfl) rfl
    ·rename_i g t v
     obtain⟨ht,h⟩:=dn h
     cases h
     obtain⟨e1,hv'⟩:=hv
     have e1:g=y.gs s:=e1
     subst e1
     exact step hv' hb rfl (fun L=>by simp[tie,rZ,ht]) rfl
    ·rename_i t v
     split at h
     ·cases h
     ·rename_i ht
      cases h;exact step hv hb rfl (fun L=>by simp[tie,rZ,ht]) rfl
    ·rename_i k n1 n2
     cases h
     refine step hv hb rfl (fun L=>?_) ?_
     ·cases k with
      |var t v=>exact absurd rfl (n2 t v)
      |_=>rfl
     ·cases k with
      |tv g t v=>exact absurd rfl (n1 g t v)
      |_=>rfl
def BN(p:Code→Bool):List Code→Nat→Option Nat
 |[],_=>none
 |c::l,n=>if p c then some n else BN p l (n+1)
def UJ:Code→Bool
 | .ret=>true
 |_=>false
def N7(i:Nat):Code→Bool
 | .exit j=>Nat.beq i j
 |_=>false
def WR(jl:List Code):jU→Option Nat
 | .normal=>some 0
 | .ret=>BN UJ jl 1
 | .exit i=>BN (N7 i) jl 1
 | .panic _=>none
theorem FR{p:Code→Bool}:∀{l:List Code}{n j:Nat},BN p l n=some j→n≤j∧∃c,l[j -n]? =some c∧p c=true
 |[],_,_,h=>by cases h
 |
  c::l,n,j,h=>by
  unfold BN at h
  split at h
  ·grind
  ·obtain⟨h1,c',h2,h3⟩:=FR h
   grind
theorem BO{p:Code→Bool}{jl:List Code}{j:Nat}(h:BN p jl 1=some j):j≠0∧∃c,jmp jl j=some c∧p c=true:=by
 obtain⟨h1,c,h2,h3⟩:=FR h
 refine⟨by omega,c,?_,h3⟩
 cases j with
 |zero=>omega
 |succ j=>trivial
def WS{R:Type}(c:Code)(σ:St)(k:jU→St→Option R):Option R:=
 match c with
 | .ret=>k .ret σ
 | .exit i=>k (.exit i) σ
 |_=>none
def Tc{R:Type}(σ:St)(k:jU→St→Option R)(j:Nat):List Code→Nat→Option R
 |[],_=>none
 |c::l,n=>if j=n then WS c σ k else Tc σ k j l (n+1)
def WT{R:Type}(jl:List Code)(j:Nat)(σ:St)(k:jU→St→Option R):Option R:=if j=0 then k .normal σ else Tc σ k j jl 1
theorem Ku{R:Type}{σ:St}{k:jU→St→Option R}{j:Nat}{r:R}:∀{l:List Code}{n:Nat},Tc σ k j l n=some r→n≤j∧∃c,l[j -n]? =some c∧WS c σ k=some r
 |[],_,h=>by cases h
 |
  c::l,n,h=>by
  unfold Tc at h
  split at h
  ·grind
  ·obtain⟨h1,c',h2,h3⟩:=Ku h
   grind
theorem Td{P:Program}{gl:Ctx}{R:Type}{jl:List Code}{j:Nat}{σ:St}{k:jU→St→Option R}{r:R}(h:WT jl j σ k=some r):match jmp jl j with
 |none=>k .normal σ=some r
 |some c=>eV P gl c σ (fun e σ'=>k e σ'=some r):=by
 unfold WT at h
 split at h
 ·rename_i hj;subst hj;exact h
 ·obtain⟨h1,c,h2,h3⟩:=Ku h
  have hj:jmp jl j=some c:=by
   cases j with
   |zero=>omega
   |succ j=>simpa[jmp] using h2
  rw[hj]
  simp only
  unfold WS at h3
  split at h3
  ·exact eV.ret h3
  ·exact eV.exit h3
  ·cases h3
def N8(y:YC)(rh:S5)(C:IC):jU→St→Option (ky (Nat::l4 C.R [])):=fun e σ=>
 match WR rh.jl e,rh.E.yy σ with
 |
  some j,some u=>if Bh (rh.E.st y0 u).hp&&Nat.ble C.m (rh.E.st y0 u).hp.length then(match hpG C.R (l:=[]) (tie y.gs rh.ti 0 (rh.E.st y0 u).hp) () with
  |some e=>some (UF (Nat::l4 C.R []) (j,e))
  |none=>none) else none
 |_,_=>none
def XZ(y:YC)(rh:S5)(C:IC)(ps:Array Tmp)(σ:St)(wA wB:St→(jU→St→Option (ky (Nat::l4 C.R [])))→Option (ky (Nat::l4 C.R []))):prod (xU C.A (l4 C.B []))→Option (ky C.T):=fun d=>
 match N6 y rh.ti C.k0 0 (bJ (List.replicate C.m none) (fC (tN y0 C.B (DL C.A d)))) with
 |
  some (vcs,H0)=>ifs vcs (if Nat.beq ps.size (DK y0 C.A d).length&&vz H0 rh.ti then(Option.bind (wA ⟨xC (ps.toList.zip (DK y0 C.A d)) (NY rh.m σ.tm),H0,[]⟩ (fun e σ1=>match e with
  | .normal=>wB σ1 (N8 y rh C)
  |_=>none)) fun r=>match N6 y rh.ti C.m 0 (fu C.m (tN y0 C.R (vZ (Nat::l4 C.R []) r).2)) with
  |some (vs,H1)=>ifs vs (if vz H1 rh.ti then some (UF C.T (Nat.beq (vZ (Nat::l4 C.R []) r).1 0,y,(vZ (Nat::l4 C.R []) r).1,(vZ (Nat::l4 C.R []) r).2)) else none)
  |none=>none) else none)
 |none=>none
def WU(σ:St)(rh:S5)(C:IC)(cs:AV):Bool:=
 σ.jo rh.dI&&σ.jo rh.lI&& !Nat.beq rh.dI rh.lI&&Nat.blt C.k0 16&&Nat.blt C.k0 C.m&& !rm C.k0 rh.ti&&mOK σ.hp rh.ti rh.m&&oD (rh.m.map (·.2))&&cs.atoms&&C.R.all fun x=> !Nat.beq x.1 C.k0
def UK(σ:St)(y:YC)(rh:S5)(cr:CR){R:Type}(k:jU→St→Option R):Option R:=
 match cr.r with
 |
  .ky .nil=>if Dj cr []&&((cr.ns.map (·.2)).all (fun b=>({σ with hp:=wT y rh.m rh.dI rh.lI σ.hp,df:=.mp rh.dI::σ.df}:St).jo b)) then(match(bJ (wT y rh.m rh.dI rh.lI σ.hp) (qZ (cr.al++cr.ns) cr.out (cr.ps++cr.ns)))[rh.lI]? with
  |some (some (.lp y' j))=>ifs [⟨y'=y,Classical.propDecidable _⟩] (WT rh.jl j ⟨σ.tm,N0 ((bJ (wT y rh.m rh.dI rh.lI σ.hp) (qZ (cr.al++cr.ns) cr.out (cr.ps++cr.ns))).set rh.lI none),.mp rh.dI::σ.df⟩ k)
  |_=>none) else none
 |_=>none
def WV(σ:St)(y:YC)(rh:S5)(gf:FuncId)(cs:AV)(C2:bH){R:Type}(k:jU→St→Option R):Option R:=
 match qR (qY rh.ps) (iS (wT y rh.m rh.dI rh.lI σ.hp)) (((.func (.yield y.l) .nil .nil,Ty.unit))::cs.toList.map (fun x=>(x,Ty.unit))),mE (qY rh.ps) (iS (wT y rh.m rh.dI rh.lI σ.hp)) rh.ps with
 |
  some (L,[]),some ins=>fnK (.func gf) C2.fn (match C2.get L ins with
  |some d=>C2.f.run d (fun r=>UK σ y rh ⟨C2.res r,rh.ps,rh.ns,C2.out r,C2.m,false,[],[]⟩ k) (fun _=>none)
  |none=>none) none
 |_,_=>none
section
variable(P:Program) (G:dq) (gl:Ctx) (fr:Bool) (H:Hs) (Γ:List bH)
def forget:List Oper→List AV→List AV
 |[],tm=>tm
 |
  o::l,tm=>forget l (match o.dst with
  |some d=>tm.set d .bot
  |none=>tm)
def WW:List (Nat×Ty)→List Type
 |[]=>[]
 |(_,t)::l=>t.den::WW l
def mgG:(l:List (Nat×Ty))→List AV→Option (prod (WW l))
 |[],_=>some ()
 |
  (i,t)::l,tm=>match tm[i]? with
  |
   some (.val u x)=>if h:Ty.same u t=true then(match mgG l tm with
   |some d=>some (vw h x,d)
   |none=>none) else none
  |_=>none
def mgV:(l:List (Nat×Ty))→prod (WW l)→List (Nat×AV)
 |[],_=>[]
 |(i,t)::l,d=>(i,.val t d.1)::mgV l d.2
def aaX(ops:Array Oper)(l:List (Nat×Ty))(σ:St)(t:ky (WW l)):St:={σ with tm:=rY (mgV l (vZ (WW l) t)) (forget ops.toList σ.tm)}
def Ty.WZ:(t:Ty)→DecidableEq t.den
 | .int _=>inferInstanceAs (DecidableEq Int)
 | .bool=>inferInstanceAs (DecidableEq Bool)
 | .str=>inferInstanceAs (DecidableEq (List UInt8))
 | .arr _ t=>@instDecidableEqList _ t.WZ
 | .slice _ t=>@instDecidableEqList _ t.WZ
 | .pair a b=>@instDecidableEqProd _ _ a.WZ b.WZ
 | .unit=>inferInstanceAs (DecidableEq Unit)
 | .aY _=>inferInstanceAs (DecidableEq Unit)
 | .fns _=>inferInstanceAs (DecidableEq (List (Option Nat)))
 | .map k v=>@Option.instDecidableEq _ (@instDecidableEqList _ (@instDecidableEqProd _ _ k.WZ v.WZ))
def yA:Path→Path→Bool
 |[],[]=>true
 | .d6 a::p,.d6 b::q=>Nat.beq a b&&yA p q
 |_,_=>false
theorem Al:∀{p q:Path},yA p q=true→p=q
 |[],[],_=>rfl
 |
  .d6 a::p,.d6 b::q,h=>by
  simp only[yA,bP] at h
  rw[dm h.1,Al h.2]
def N9:AV→AV→Option (List VC)
 | .val t x,.val u y=>if h:Ty.same u t=true then some [⟨x=vw h y,t.WZ _ _⟩] else none
 | .aM,.aM=>some []
 | .own b,.own c=>if Nat.beq b c then some [] else none
 | .ptr b p,.ptr c q=>if Nat.beq b c&&yA p q then some [] else none
 |_,_=>none
def Kv{R:Type}(ops:Array Oper)(σ:St)(fs:List bL)(j:Nat)(K:Option R):List Nat→Option R
 |[]=>K
 |
  i::l=>if AN ops i then none else match fs[i]?,g7 P G gl ops cr0 [] (eC (fun x=>decide (x<j+1)) 0 fs σ) i with
  |
   some f,some (g,vcs,_)=>match N9 f.v g.v with
   |some vs=>if f.hw.isEmpty&&g.hw.isEmpty&&f.fr.isEmpty&&g.fr.isEmpty&&decide (f.rt=g.rt)&&decide (f.rb=g.rb)&&decide (f.dst=g.dst) then ifs (vcs++vs) (Kv ops σ fs j K l) else none
   |none=>none
  |_,_=>none
def Ob{R:Type}(lt:Option (List Nat×Nat))(ops:Array Oper)(σ:St)(fs:List bL)(K:Option R):Option R:=
 match lt with
 |none=>K
 |some (l,j)=>Kv P G gl ops σ fs j K l
def Tf{R:Type}(lt:Option (List Nat×Nat))(ops:Array Oper)(draw:Bool)(σ:St)(k:St→Option R)(fs:List bL)(σ':St):Option R:=
 if draw then(if qQ lt ops fs.reverse&&mq σ fs.reverse then Ob P G gl lt ops σ fs.reverse (k σ') else none) else k σ'
def Ma(fs:List bL):Bool:=fs.all fun f=>f.hw.isEmpty
def Oc{R:Type}(ops:Array Oper)(draw:Bool)(σ:St)(k:jU→St→Option R)(fs:List bL)(f:bL)(σp:St):Option R:=
 if Nat.blt (σ.hp.length -1) σ.hp.length&&f.v.plain then
  s8 P G gl ops draw (σ.hp.length -1) fs.length (if draw then wK ops.toList [] else[]) (fun gs=>
   if draw then(if qQ none ops (nG fs.reverse f (σ.hp.length -1) gs)&&mq σ (nG fs.reverse f (σ.hp.length -1) gs) then k (.panic f.v) (Ad fs.reverse f (σ.hp.length -1) gs σ) else none)
   else k (.panic f.v) (Ad fs.reverse f (σ.hp.length -1) gs σ)) (ops.size -fs.length -1) (fs.length+1) (σp.app (Ac f (σ.hp.length -1))) [] else none
def IM(ops:Array Oper)(draw:Bool)(σ:St):Option St:=
 match draw,ops with
 |
  false,⟨[o0,o1]⟩=>if qC o0.op then none else match g7 P G gl ops cr0 [] σ 0 with
  |
   some (f,[],_)=>match f.fr.all σ.jo,o1.op,o1.guard,o1.dst with
   |
    true,.defer {callee:=.value x,args:=⟨[]⟩,argTypes:=⟨[]⟩},none,none=>match db gl (σ.app f).tm x with
    | .func fn .nil cs=>some {σ.app f with df:=.func fn .nil cs::(σ.app f).df}
    |_=>none
   |_,_,_,_=>none
  |_=>none
 |_,_=>none
def IN(ops:Array Oper):Option (Nat×Nat×Nat):=
 match ops with
 |
  ⟨[o0,o1]⟩=>match o0.op,o0.guard,o0.dst,o1.op,o1.guard,o1.dst with
  | .next (.tmp s) false,none,some d,.extract (.tmp d') 0,none,some d1=>if Nat.beq d' d then some (s,d,d1) else none
  |_,_,_,_,_,_=>none
 |_=>none
def Od(s d d1:Nat){R:Type}(σ:St)(k:jU→St→Option R):Option R:=
 match σ.tm[s]? with
 |
  some (.ptr b [])=>match iS σ.hp b with
  |
   some (.qX kt vt rest _)=>if Nat.blt d σ.tm.length then(if rest.isEmpty=true then k .normal ((σ.put (some d) .bot).put (some d1) (.val .bool false))
   else L2 rest fun x l=>k .normal ((({σ with hp:=σ.hp.set b (some (.qX kt vt l (some x)))}:St).put (some d) .bot).put (some d1) (.val .bool true))) else none
  |_=>none
 |_=>none
def vC(ops:Array Oper)(draw:Bool)(zs:List (Nat×Nat×Ty))(cs:List CH)(mg:Option (List (Nat×Ty)))(lt:Option (List Nat×Nat)){R:Type}(σ:St)(k:jU→St→Option R):Option R:=
 if Tb ops then(if fr then(match IM P G gl ops draw σ with
  |some σ'=>k .normal σ'
  |none=>none) else none) else
 match if draw then none else IN ops with
 |some (s,d,d1)=>Od s d d1 σ k
 |none=>match mg with
 |none=>qv P G gl Γ ops zs (Tf P G gl lt ops draw σ (k .normal)) (Oc P G gl ops draw σ k) ops.size 0 cs σ []
 |some l=>Option.bind (qv P G gl Γ ops zs (fun fs σ'=>if Ma fs then Tf P G gl lt ops draw σ (fun σ'=>(mgG l σ'.tm).map (UF (WW l))) fs σ' else none) (fun _ _ _=>none) ops.size 0 cs σ []) fun d=>k .normal (aaX ops l σ d)
def Oe{R:Type}:List (Nat×Nat)→St→(St→Option R)→Option R
 |[],σ,K=>K σ
 |
  (b,s)::l,σ,K=>match σ.tm[s]?,iS σ.hp b with
  |
   some (.val (.int _) n),some (.row _ _ _ xs)=>ifs [vc (0≤n),vc (n<xs.length)] (match B0 b n.toNat σ with
   |some σ'=>Oe l σ' K
   |none=>none)
  |
   some (.ptr c [.idx i]),some (.row _ _ _ _)=>if Nat.beq c b then(match B0 b i σ with
   |some σ'=>Oe l {σ' with tm:=σ'.tm.set s (.ptr b [.d6 1])} K
   |none=>none) else none
  |_,_=>none
def UL{R:Type}:List PF→St→(St→Option R)→Option R
 |[],σ,K=>K σ
 |
  .row b d k::l,σ,K=>match k.get σ,iS σ.hp b with
  |
   some (.val (.int _) n),some (.eW _ _ _ xs _ _)=>ifs [vc (0≤n),vc (n<xs.length)] (match OW b n.toNat d σ with
   |some σ'=>UL l σ' K
   |none=>none)
  |_,_=>none
 |
  .map mode b d k::l,σ,K=>match k.get σ with
  |
   some (.val t x)=>match OY mode b d t x σ with
   |some (vcs,σ')=>ifs vcs (UL l σ' K)
   |none=>none
  |_=>none
 |
  .jc b::l,σ,K=>match uy b σ with
  |some σ'=>UL l σ' K
  |none=>none
def UM{R:Type}(l:List Gh)(k:jU→St→Option R):jU→St→Option R
 |
  .normal,σ=>match XV l σ with
  |some σ'=>k .normal σ'
  |none=>none
 |e,σ=>k e σ
def dig:Nat→Nat→List Nat
 |0,_=>[]
 |
  n+1,c=>match c with
  |0=>[]
  |c=>(c % 1000 -1)::dig n (c / 1000)
def aaY(H:Hs)(id:Nat):Option (List Nat×Nat):=match lkH H.unr (1000000+id) with
 |some c=>some (dig 9 (c / 1000),c % 1000 -1)
 |none=>none
def DT(id:Nat)(ops:Array Oper)(draw:Bool){R:Type}(σ:St)(k:jU→St→Option R):Option R:=
 match lkH H.reg id with
 |none=>vC P G gl fr Γ ops draw [] [] none (aaY H id) σ k
 |
  some rh=>match XV rh.pre σ with
  |some σ0=>Oe rh.foc σ0 fun σ0=>UL rh.pf σ0 fun σ0=>vC P G gl fr Γ ops draw rh.zs rh.cs rh.mg (aaY H id) σ0 (UM rh.post k)
  |none=>none
def toJ{R:Type}(S:SS)(k:jU→St→Option R):jU→St→Option (dN S.T R)
 | .normal,σ=>(S.yy σ).map .aS
 |e,σ=>cN (k e σ)
def toB{R:Type}(id:Nat)(S:SS)(k:jU→St→Option R):jU→St→Option (dN S.T R)
 | .normal,σ=>(S.yy σ).map .aS
 | .exit i,σ=>if Nat.beq i id then(S.yy σ).map .aS else cN (k (.exit i) σ)
 |e,σ=>cN (k e σ)
def unB{R:Type}(id:Nat)(k:jU→St→Option R):jU→St→Option R
 | .exit i,σ=>if Nat.beq i id then k .normal σ else k (.exit i) σ
 |e,σ=>k e σ
def Kw{R:Type}(w:St→(jU→St→Option R)→Option R)(k:jU→St→Option R):Nat→St→Option R
 |0,_=>none
 |
  n+1,σ=>w σ fun e σ'=>match e with
  | .normal=>Kw w k n σ'
  |e=>k e σ'
end
section
variable(P:Program) (G:dq) (I:List IC) (H:Hs) (Γ:List bH)
def walk:Code→Ctx→Bool→{R:Type}→St→(jU→St→Option R)→Option R
 | .skip,_,_,_,σ,k=>k .normal σ
 | .label _,_,_,_,σ,k=>k .normal σ
 | .scope c,gl,fr,_,σ,k=>walk c gl fr σ k
 | .exit i,_,_,_,σ,k=>k (.exit i) σ
 | .ret,_,_,_,σ,k=>k .ret σ
 | .region id ops draw,gl,fr,_,σ,k=>DT P G gl fr H Γ id ops draw σ k
 |
  .seq x z,gl,fr,_,σ,k=>match Ta H.join z with
  |
   none=>walk x gl fr σ fun e σ'=>match e with
   | .normal=>walk z gl fr σ' k
   |e=>k e σ'
  |some S=>aG (walk x gl fr σ (toJ S k)) fun d=>walk z gl fr (S.st y0 d) k
 |
  .cond c x z,gl,fr,_,σ,k=>match db gl σ.tm c with
  | .val .bool b=>if b=true then walk x gl fr σ k else walk z gl fr σ k
  |_=>none
 |
  .block id c,gl,fr,_,σ,k=>match lkH H.eJ id with
  |none=>walk c gl fr σ (unB id k)
  |some S=>aG (walk c gl fr σ (toB id S k)) fun d=>k .normal (S.st y0 d)
 |
  .loop c,gl,fr,_,σ,k=>match Ta H.unr c with
  |some n=>Kw (fun σ k=>walk c gl fr σ k) k n σ
  |
   none=>match Ta H.loop c with
   |none=>none
   |
    some L=>match L.S.yy σ with
    |none=>none
    |
     some u=>aL (fun rec u=>walk c gl fr (L.S.st y0 u) fun e σ'=>match e with
     | .normal=>Option.bind (L.S.yy σ') rec
     |e=>k e σ') (L.fuel u) u
 |
  .rangeFunc g ps assign body,gl,fr,_,σ,k=>if fr then(match Ta H.A6 body with
  |none=>none
  |
   some rh=>match I[rh.ic]?,rh.S.yy σ with
   |
    some C,some u=>match db gl (rh.S.st y0 u).tm g with
    |
     .func (.func gf) .nil cs=>if WU (rh.S.st y0 u) rh C cs then
      Bg fun y=>WV (rh.S.st y0 u) y rh gf cs (C.XY y.l (XZ y rh C ps (rh.S.st y0 u) (fun σ1 k1=>walk assign (gl.xV y.l) false σ1 k1) (fun σ1 k1=>walk body (gl.xV y.l) false σ1 k1))) k
     else none
    |_=>none
   |_,_=>none) else none
 |_,_,_,_,_,_=>none
end
theorem Am:∀{l:List Oper}{tm:List AV},(forget l tm).length=tm.length
 |[],_=>rfl
 |
  o::l,tm=>by
  unfold forget
  rw[Am]
  split<;>simp
theorem Ao{i:Nat}{x:AV}:∀{l:List Oper}{tm:List AV},(forget l tm)[i]? =some x→x= .bot∨(tm[i]? =some x∧∀o∈l,o.dst≠some i)
 |[],_,h=>Or.inr ⟨h,fun _ ho=>by cases ho⟩
 |
  o::l,tm,h=>by
  unfold forget at h
  rcases Ao h with h|⟨h,hl⟩<;>grind
theorem Of:∀{l:List (Nat×Ty)}{tm:List AV}{d:prod (WW l)},mgG l tm=some d→∀i x,(i,x)∈mgV l d→tm[i]? =some x
 |[],_,_,_,i,x,hx=>by cases hx
 |
  (j,t)::l,tm,d,h,i,x,hx=>by
  unfold mgG at h
  split at h
  ·rename_i u z hz
   split at h
   ·rename_i hs
    split at h
    ·rename_i d' hd'
     cases h
     simp only[mgV,eN,jb] at hx
     rcases hx with⟨rfl,rfl⟩|hx
     ·rw[hz,BF hs]
     ·exact Of hd' i x hx
    grind
   grind
  grind
theorem FU{P:Program}{gl:Ctx}{ops:Array Oper}:∀{fs:List bL}{i:Nat}{σ σ':St},uV P gl ops i fs σ σ'→Ma fs=true→(∀(k:Nat)(f:bL)(o:Oper),fs[k]? =some f→ops[i+k]? =some o→f.dst=o.dst)→i+fs.length≤ops.size→
 σ'.hp=σ.hp∧σ'.df=σ.df∧σ'.tm.length=σ.tm.length∧∀t,(∀o∈ops.toList,o.dst≠some t)→σ'.tm[t]? =σ.tm[t]?
 |[],i,σ,σ',h,_,_,_=>by simp_all[dL]
 |
  f::fs,i,σ,σ',⟨_,_,h3⟩,hn,hd,hl=>by
  simp only[Ma,List.all_cons,bP,List.isEmpty_iff] at hn
  obtain⟨a,b,c,d⟩:=FU h3 (by simpa[Ma] using hn.2) (fun k f' o h1 h2=>hd (k+1) f' o (by grind) (by grind)) (by grind)
  refine⟨by rw[a,k9,hn.1];rfl,by rw[b,zq],by rw[c,wI],?_⟩
  intro t ht
  rw[d t ht]
  have hlt:i<ops.size:=by grind
  have:=hd 0 f ops[i] rfl (by grind)
  grind [la]
theorem map_some{α β:Type}{x:Option α}{f:α→β}{r:β}(h:x.map f=some r):∃a,x=some a∧f a=r:=by
 simp_all
theorem eV.aaZ{P:Program}{gl:Ctx}{c:Code}{σ:St}{Q:jU→St→Prop}(h:eV P gl c σ (fun e σ'=>match e with| .panic v=>Q (.panic v) σ'|e=>∃σ2,Wk gl σ' σ2∧Q e σ2)):eV P gl c σ Q:=by
 intro E a w hg
 refine wpIn_mono (h E a w hg) ?_
 rintro ex a' w' ⟨x,σ',E',h1,h2,h3,h4⟩
 cases x with
 |panic v=>exact⟨_,σ',E',h1,h2,h3,h4⟩
 |
  normal=>
  obtain⟨σ2,hw,hq⟩:=h2
  obtain⟨E2,g2,x2⟩:=hw E' a' w' h3
  cases ex<;>first|exact h1.elim|exact⟨.normal,σ2,E2,trivial,hq,g2,h4.trans x2⟩
 |
  exit i=>
  obtain⟨σ2,hw,hq⟩:=h2
  obtain⟨E2,g2,x2⟩:=hw E' a' w' h3
  cases ex<;>first|trivial|exact⟨.exit i,σ2,E2,h1,hq,g2,h4.trans x2⟩
 |
  ret=>
  obtain⟨σ2,hw,hq⟩:=h2
  obtain⟨E2,g2,x2⟩:=hw E' a' w' h3
  cases ex<;>first|trivial|exact⟨.ret,σ2,E2,trivial,hq,g2,h4.trans x2⟩
section
variable{P:Program} {G:dq} (T:cQ P G) {gl:Ctx} {fr:Bool} {H:Hs} {Γ:List bH} (hΓ:∀C∈Γ,C.holds P gl)
include T hΓ
omit hΓ T in
theorem Ap{l:List VC}:∀{vs:List VC},gm (vs++l)→gm vs∧gm l
 |[],h=>⟨trivial,h⟩
 |_::_,h=>⟨⟨h.1,(Ap h.2).1⟩,(Ap h.2).2⟩
omit hΓ T in
theorem Og{a b:AV}{l:List VC}(h:N9 a b=some l)(hv:gm l):a=b:=by
 unfold N9 at h
 split at h
 ·split at h
  ·rename_i hs
   cases h
   have:=Ty.aE hs
   subst this
   have e:=hv.1
   simp only[vw] at e
   rw[e]
  ·cases h
 ·rfl
 ·split at h
  ·rename_i hb;rw[dm hb]
  ·cases h
 ·split at h
  ·rename_i hb
   simp only[bP] at hb
   rw[dm hb.1,Al hb.2]
  ·cases h
 ·cases h
omit hΓ in
theorem FW{ops:Array Oper}{R:Type}{σ:St}{fs:List bL}{j:Nat}{K:Option R}{r:R}:∀{l:List Nat},Kv P G gl ops σ fs j K l=some r→(∀i f,i∈l→fs[i]? =some f→tY P gl ops i f (eC (fun x=>decide (x<j+1)) 0 fs σ))∧K=some r
 |[],h=>⟨fun i f hi=>(by cases hi),h⟩
 |
  i::l,h=>by
  unfold Kv at h
  split at h
  ·cases h
  rename_i hno
  split at h
  ·rename_i f g vcs ob hf hs
   split at h
   ·rename_i l hl
    obtain⟨hc,h⟩:=dn h
    obtain⟨hv,h⟩:=jf h
    obtain⟨ih,hk⟩:=FW h
    simp only[bP,List.isEmpty_iff,rE] at hc
    obtain⟨⟨⟨⟨⟨⟨c1,c2⟩,c3⟩,c4⟩,c5⟩,c6⟩,c7⟩:=hc
    have hv1:=Ap hv
    have ev:=Og hl hv1.2
    have e:f=g:=by
     cases f;cases g;simp_all
    refine⟨fun i' f' e1 e2=>?_,hk⟩
    rcases List.mem_cons.1 e1 with rfl|e1
    ·rw[hf] at e2
     cases e2
     rw[e]
     exact o9 T rfl hs hv1.1 (oT hs fun h=>absurd h hno)
    ·exact ih i' f' e1 e2
   ·cases h
  ·cases h
omit hΓ in
theorem Oh{lt:Option (List Nat×Nat)}{ops:Array Oper}{R:Type}{σ:St}{fs:List bL}{K:Option R}{r:R}(h:Ob P G gl lt ops σ fs K=some r):(∀l i j f,lt=some (l,j)→i∈l→fs[i]? =some f→tY P gl ops i f (eC (fun x=>decide (x<j+1)) 0 fs σ))∧K=some r:=by
 unfold Ob at h
 split at h
 ·exact⟨fun l i j f e=>(by cases e),h⟩
 ·rename_i l j
  obtain⟨h1,h2⟩:=FW T h
  refine⟨fun l' i j' f e hi hf=>?_,h2⟩
  cases e
  exact h1 i f hi hf
omit hΓ in
theorem Kx{lt:Option (List Nat×Nat)}{ops:Array Oper}{draw:Bool}{R:Type}{σ σ':St}{k:St→Option R}{fs:List bL}{r:R}(h:Tf P G gl lt ops draw σ k fs σ'=some r):(draw=true→(qQ lt ops fs.reverse&&mq σ fs.reverse)=true∧∀l i j f,lt=some (l,j)→i∈l→fs.reverse[i]? =some f→tY P gl ops i f (eC (fun x=>decide (x<j+1)) 0 fs.reverse σ))∧k σ'=some r:=by
 unfold Tf at h
 cases draw with
 |false=>exact⟨fun e=>(zf e).elim,h⟩
 |
  true=>
  rw[aA rfl] at h
  obtain⟨h1,h2⟩:=dn h
  obtain⟨h3,h4⟩:=Oh T h2
  exact⟨fun _=>⟨h1,h3⟩,h4⟩
omit hΓ in
theorem Mb{id:Nat}{ops:Array Oper}{draw:Bool}{σ σ':St}{Q:jU→St→Prop}(hro:gl.ro=none)(h:IM P G gl ops draw σ=some σ')(hq:Q .normal σ'):eV P gl (.region id ops draw) σ Q:=by
 unfold IM at h
 split at h
 ·rename_i o0 o1
  split at h
  ·cases h
  rename_i hcl
  split at h
  ·rename_i f ob h0
   split at h
   ·rename_i x hfr ho hg hd
    split at h
    ·rename_i fn cs hv
     cases h
     intro E a w hgm
     refine wpIn_region ?_
     show wpOpsIn _ _ _ _ _ [0,1] _ _
     rw[wpOpsIn_cons]
     have hob:∀p∈ob,p:=oT h0 (fun e=>absurd e (by trivial))
     refine o9 T rfl h0 trivial hob σ (mo.refl _ _ _) (fun d hd=>St.gL ((List.all_eq_true.1 hfr) d hd)) E a w hgm _ _ ?_
     intro E1 a1 w1 hg1 hx1
     rw[wpOpsIn_cons]
     have e1:(#[o0,o1]:Array Oper)[1]? =some o1:=rfl
     unfold wpOpIn
     simp only[e1]
     have hw:Region.wanted o1 (yielded #[o0,o1] a1.tmps)=true:=by simp[Region.wanted,hg]
     rw[aA hw]
     have hv1:=j9 hg1 x
     rw[hv] at hv1
     obtain⟨f',c',ev,r1,r2,r3,r4⟩:∃f' c',a1.eval x= .func fn f' c'∧RC E1 w1 .nil f'.toList∧RC E1 w1 cs c'.toList∧AV.nil.atoms=true∧cs.atoms=true:=by
      rcases RV.mN rfl hv1 with⟨hh,_⟩|⟨_,hh⟩
      ·cases hh
      ·obtain⟨f',c',e,q⟩:=hh
       grind
     have hf':f'= #[]:=by apply ni;trivial
     subst hf'
     refine⟨fun _ _=>trivial,?_⟩
     have hs:(o1.semAt (Wd gl).round a1.eval).run P w1= .ok (.defer {target:=.fn fn c',args:= #[]}) w1:=by
      simp_all[Oper.semAt_none,execOp,resolve,Deferred.ofValue]
     rw[hs,Oper.uponIn_defer,hd]
     have hg2:dE gl {σ.app f with df:=.func fn .nil cs::(σ.app f).df} E1 {a1 with defers:={target:=.fn fn c',args:= #[]}::a1.defers} w1:=
      ⟨hg1.len,hg1.tm,hg1.hw,⟨⟨#[],c',rfl,r1,r2,r3,r4⟩,hg1.df⟩⟩
     exact⟨.normal,_,E1,trivial,hq,hg2,hx1⟩
    grind
   grind
  grind
 grind
omit T hΓ in
theorem Oi{id:Nat}{ops:Array Oper}{s d d1:Nat}(hn:IN ops=some (s,d,d1)){R:Type}{σ:St}{k:jU→St→Option R}{r:R}(h:Od s d d1 σ k=some r):eV P gl (.region id ops false) σ (fun e σ'=>k e σ'=some r):=by
 unfold IN at hn
 split at hn
 ·rename_i o0 o1
  split at hn
  ·rename_i s' d' d'' d1' h0 hg0 hd0 h1 hg1 hd1
   obtain⟨hd,hn⟩:=dn hn
   cases hn
   have hd:=dm hd
   subst hd
   unfold Od at h
   split at h
   ·rename_i b hs
    split at h
    ·rename_i kt vt rest cur hb
     obtain⟨hl,h⟩:=dn h
     refine eV.next h0 hg0 hd0 h1 hg1 hd1 hs (dU _ b _ hb) hl ?_ ?_
     ·grind
     ·intro i hi
      rw[aB (by grind)] at h
      exact L4 h i hi
    grind
   grind
  grind
 grind
variable(hro:fr=true→gl.ro=none)
include hro
theorem xD{id:Nat}{ops:Array Oper}{draw:Bool}{zs:List (Nat×Nat×Ty)}{cs:List CH}{mg:Option (List (Nat×Ty))}{lt:Option (List Nat×Nat)}{R:Type}{σ:St}{k:jU→St→Option R}{r:R}(h:vC P G gl fr Γ ops draw zs cs mg lt σ k=some r):eV P gl (.region id ops draw) σ (fun e σ'=>k e σ'=some r):=by
 have key:∀{gs:List bL}{σ':St}{Q:jU→St→Prop},uV P gl ops 0 gs σ σ'→gs.length=ops.size→(draw=true→(qQ lt ops gs&&mq σ gs)=true∧∀l i j f,lt=some (l,j)→i∈l→gs[i]? =some f→tY P gl ops i f (eC (fun x=>decide (x<j+1)) 0 gs σ))→Q .normal σ'→eV P gl (.region id ops draw) σ Q:=by
  intro gs σ' Q hc hn iq hq
  cases draw with
  |false=>exact fun E _ _ hg=>HX hn hc hg (fun E' _ _ h1 h2=>⟨.normal,σ',E',trivial,hq,h1,h2⟩)
  |
   true=>
   obtain⟨iq,hL⟩:=iq rfl
   simp only[bP] at iq
   exact fun E _ _ hg=>HZ T iq.1 iq.2 hL hc hg (fun E' _ _ h1 h2=>⟨.normal,σ',E',trivial,hq,h1,h2⟩)
 unfold vC at h
 split at h
 ·obtain⟨hf,h⟩:=dn h
  grind [Mb]
 split at h
 ·rename_i s d d1 hn
  cases draw with
  |true=>grind
  |false=>rw[aB zf] at hn;exact Oi hn h
 split at h
 ·rcases uh T hΓ h with⟨gs,σ',hc,hn,_,hk⟩|⟨gs,f,σ',hc,hn,hp,hk⟩
  ·simp only[cw] at hk
   obtain⟨h1,h2⟩:=Kx T hk
   simp only[List.reverse_reverse] at h1
   exact key hc hn h1 h2
  ·simp only[cw] at hk
   unfold Oc at hk
   simp only[List.reverse_reverse,List.length_reverse] at hk
   obtain⟨h1,h2⟩:=dn hk
   simp only[bP] at h1
   rw[ek] at hp
   have hz:σ.hp.length -1<σ.hp.length:=by simp_all
   obtain⟨ms,σe,k1,k2,k3,k4⟩:=ui T h2
   simp only[List.reverse_nil,jW] at k4
   have hze:(σ'.app (Ac f (σ.hp.length -1))).hp[σ.hp.length -1]? =some (some IF):=by
    rw[k9]
    simp only[Ac,bJ,fY,cC]
    rw[aA (by rw[dL.hl hc];exact hz)]
   have k1:=k1 hze
   cases draw with
   |false=>exact Ae T hc hp k1 k3 hz (by omega) (fun e=>(zf e).elim) h1.2 k4
   |
    true=>
    rw[aA rfl] at k4
    obtain⟨q3,q4⟩:=dn k4
    grind [Ae]
 ·rename_i l
  obtain⟨d,hd,h⟩:=bind_some h
  rcases uh T hΓ hd with⟨gs,σ',hc,hn,hdst,hk⟩|⟨_,_,_,_,_,_,hk⟩
  case inr=>cases hk
  simp only[cw] at hk
  obtain⟨hw,hk⟩:=dn hk
  obtain⟨h1,h2⟩:=Kx T hk
  simp only[List.reverse_reverse] at h1
  have hw':Ma gs=true:=by simpa[Ma] using hw
  obtain⟨e1,e2,e3,e4⟩:=FU hc hw' hdst (by omega)
  obtain⟨t,ht,rfl⟩:=map_some h2
  refine eV.aaZ (key hc hn h1 ⟨_,?_,h⟩)
  grind [Wk.sub,aaX,ug,Am,vu,qq,Of,Ao]
omit T hΓ hro in
theorem DU{R:Type}{r:R}{K:St→Option R}:∀{l:List (Nat×Nat)}{σ:St},Oe l σ K=some r→∃σ',Wk gl σ σ'∧K σ'=some r
 |[],σ,h=>⟨σ,Wk.refl gl σ,h⟩
 |
  (b,s)::l,σ,h=>by
  unfold Oe at h
  split at h
  ·rename_i k n e bs t xs hs hb
   obtain⟨hv,h⟩:=jf h
   split at h
   ·rename_i σ1 h1
    obtain⟨σ',h2,h3⟩:=DU h
    refine⟨σ',Wk.trans (Wk.aiZ h1 ?_) h2,h3⟩
    intro e' bs' t' xs' hb'
    rw[hb] at hb'
    cases hb'
    exact(Int.toNat_lt hv.1).2 hv.2.1
   ·cases h
  ·rename_i c i e bs t xs hs hb
   obtain⟨hc,h⟩:=dn h
   have hc:=dm hc
   subst hc
   split at h
   ·rename_i σ1 h1
    obtain⟨σ',h2,h3⟩:=DU h
    exact⟨σ',Wk.trans (Wk.ai0 hs h1) h2,h3⟩
   ·cases h
  ·cases h
omit T hΓ hro in
theorem DV{R:Type}{r:R}{K:St→Option R}:∀{l:List PF}{σ:St},UL l σ K=some r→∃σ',Wk gl σ σ'∧K σ'=some r
 |[],σ,h=>⟨σ,Wk.refl gl σ,h⟩
 |
  .row b d k::l,σ,h=>by
  unfold UL at h
  split at h
  ·rename_i kk n e bs t xs e2 f hs hb
   obtain⟨hv,h⟩:=jf h
   split at h
   ·rename_i σ1 h1
    obtain⟨σ',h2,h3⟩:=DV h
    refine⟨σ',Wk.trans (Wk.OW h1 ?_) h2,h3⟩
    intro e' bs' t' xs' e2' f' hb'
    rw[hb] at hb'
    cases hb'
    exact(Int.toNat_lt hv.1).2 hv.2.1
   grind
  grind
 |
  .map mode b d k::l,σ,h=>by
  unfold UL at h
  split at h
  ·rename_i t x hs
   split at h
   ·rename_i vcs σ1 h1
    obtain⟨hv,h⟩:=jf h
    obtain⟨σ',h2,h3⟩:=DV h
    exact⟨σ',Wk.trans (Wk.OY h1 hv) h2,h3⟩
   grind
  grind
 |
  .jc b::l,σ,h=>by
  unfold UL at h
  split at h
  ·rename_i σ1 h1
   obtain⟨σ',h2,h3⟩:=DV h
   exact⟨σ',Wk.trans (Wk.uy h1) h2,h3⟩
  grind
theorem IP{id:Nat}{ops:Array Oper}{draw:Bool}{R:Type}{σ:St}{k:jU→St→Option R}{r:R}(h:DT P G gl fr H Γ id ops draw σ k=some r):eV P gl (.region id ops draw) σ (fun e σ'=>k e σ'=some r):=by
 unfold DT at h
 split at h
 ·exact xD T hΓ hro h
 ·split at h
  ·rename_i σ0 h0
   obtain⟨σ1,h1,h2⟩:=DU (gl:=gl) h
   obtain⟨σ2,h3,h4⟩:=DV (gl:=gl) h2
   refine eV.post (eV.gh _ h0 (eV.wk h1 (eV.wk h3 (xD T hΓ hro h4)))) ?_ ?_
   ·intro e σ' hne he
    cases e with
    |normal=>grind
    |_=>exact he
   grind [UM,Iy]
  grind
omit hΓ T hro in
theorem Oj{c:Code}{R:Type}{w:St→(jU→St→Option R)→Option R}(ih:∀{σ:St}{k:jU→St→Option R}{r:R},w σ k=some r→eV P gl c σ (fun e σ'=>k e σ'=some r)){k:jU→St→Option R}{r:R}{n:Nat}{σ:St}
 (h:Kw w k n σ=some r):eV P gl (.loop c) σ (fun e σ'=>k e σ'=some r):=by
 refine eV.loop (fun n σ=>Kw w k n σ=some r) ?_ h
 intro n σ1 hn
 cases n with
 |zero=>cases hn
 |
  succ n=>
  refine eV.mono (ih hn) ?_
  intro e σ2 he
  cases e with
  |normal=>exact⟨n,Nat.lt_succ_self n,he⟩
  |_=>exact he
omit hΓ T hro in
theorem Ok{c:Code}{R U:Type}{r:R}{k:jU→St→Option R}{F:(U→Option R)→U→Option R}{st:U→St}{yy:St→Option U}(hm:∀σ u,yy σ=some u→Wk gl σ (st u))
 (ih:∀{rec:U→Option R}{u:U},F rec u=some r→eV P gl c (st u) (fun e σ'=>(match e with| .normal=>Option.bind (yy σ') rec|e=>k e σ')=some r)) {n:Nat} {σ:St} {u:U} (hu:yy σ=some u)
 (h:aL F n u=some r):eV P gl (.loop c) σ (fun e σ'=>k e σ'=some r):=by
 refine eV.loop (fun n σ=>∃u,Wk gl σ (st u)∧aL F n u=some r) ?_ ⟨u,hm σ u hu,h⟩
 rintro n σ1 ⟨u1,hw,hn⟩
 cases n with
 |zero=>cases hn
 |
  succ n=>
  refine eV.wk hw (eV.mono (ih hn) ?_)
  intro e σ2 he
  cases e with
  |
   normal=>
   obtain⟨u2,h1,h2⟩:=bind_some he
   exact⟨n,Nat.lt_succ_self n,u2,hm σ2 u2 h1,h2⟩
  |_=>exact he
end
theorem Fy.up{P:Program}{C C':Ctx}{l:Nat}{A:List AV}{H H':List (Option aX)}{r:Bd}(hg:C'.gl=C.gl)(hC:∀S w,C.B S w)(h:Fy P C l A H r H')(hm:C'.md=C.md):Fy P C' l A H r H':=by
 intro E w vs hv hw
 obtain⟨fn,tm,asz,bd,h1,h2⟩:=h E w vs hv (hw.ctx hg.symm (hC _ _))
 refine⟨fn,tm,asz,bd,h1,RoundIn.mono h2 ?_⟩
 rintro e w' ⟨E',r1,r2,r3⟩
 rw[←hm] at r3
 exact⟨E',r1,r2.ctx hg (hw.kz (hw.kept r3)).2,r3⟩
theorem Nh.up{P:Program}{C C':Ctx}{fn:Fn}{A:List AV}{H H':List (Option aX)}{r:Bd}(hg:C'.gl=C.gl)(hC:∀S w,C.B S w)(h:Nh P C fn A H r H')(hm:C'.md=C.md):Nh P C' fn A H r H':=by
 cases fn with
 |func f=>exact Fc.up hg hC h hm
 |yield l=>exact Fy.up hg hC h hm
 |_=>trivial
theorem bH.holds.up{P:Program}{gl gl':Ctx}{C:bH}(h:C.holds P gl)(hg:gl'.gl=gl.gl)(hB:∀S w,gl.B S w)(hm:gl'.md=gl.md:=by rfl):C.holds P gl':=
 ⟨fun d r hd=>Nh.up hg hB (h.ret d r hd) hm,fun d x hd=>Nh.up hg hB (h.oi d x hd) hm⟩
theorem Fy.less{P:Program}{C:Ctx}{l:Nat}{A:List AV}{H H1 H2:List (Option aX)}{r:Bd}(h:Fy P C l A H r H1)(hs:∀(b:Nat)(k:aX),H2[b]? =some (some k)→H1[b]? =some (some k)):Fy P C l A H r H2:=by
 intro E w vs hv hw
 obtain⟨fn,tm,asz,bd,h1,h2⟩:=h E w vs hv hw
 refine⟨fn,tm,asz,bd,h1,RoundIn.mono h2 ?_⟩
 rintro e w' ⟨E',r1,r2,r3⟩
 exact⟨E',r1,r2.less hs,{r3 with own:=fun g ⟨b,k,hb,hg⟩=>r3.own g ⟨b,k,hs b k hb,hg⟩}⟩
theorem BP:∀{l H:List (Option aX)},H.length≤l.length→(∀(b:Nat)(k:aX),H[b]? =some (some k)→l[b]? =some (some k))→∃m,prune l m=H
 |l,[],_,_=>⟨[],by cases l<;>rfl⟩
 |[],x::H,h,_=>by simp at h
 |
  y::l,x::H,h,hs=>by
  obtain⟨m,hm⟩:=BP (l:=l) (H:=H) (by simpa using h) (fun b k hb=>by simpa using hs (b+1) k (by simpa using hb))
  cases x with
  |none=>exact⟨false::m,by simp[prune,hm]⟩
  |
   some k=>
   have:y=some k:=by simpa using hs 0 k rfl
   exact⟨true::m,by simp[prune,hm,this]⟩
theorem Aq{gs:Nat→Nat}{ti:List (Nat×Ty)}:∀{l:List (Option aX)}{s i:Nat},(tie gs ti s l)[i]? =some none→l[i]? =some none
 |[],s,i,h=>by trivial
 |none::l,s,0,h=>rfl
 |some x::l,s,0,h=>by simp[tie] at h
 |none::l,s,i+1,h=>by simpa using Aq (l:=l) (by simpa[tie] using h)
 |some x::l,s,i+1,h=>by simpa using Aq (l:=l) (by simpa[tie] using h)
theorem Ol{gs:Nat→Nat}{ti:List (Nat×Ty)}{i:Nat}{k k':aX}(h1:IL (some k)=false)(h2:IL (some k')=false)(h:rZ gs ti i k=rZ gs ti i k'):k=k':=by
 cases k with
 |
  var t v=>
  cases k' with
  |
   var t' v'=>
   grind [rZ]
  |tv=>trivial
  |_=>grind [rZ]
 |tv=>trivial
 |
  _=>
  cases k' with
  |var t' v'=>grind [rZ]
  |tv=>trivial
  |_=>exact h
theorem Kz{y:YC}:∀{m:List (Nat×jY)}{l:List Type}{d:prod (l4 m l)}{b:Nat}{k:aX},(b,k)∈tN y m d→∃s,(b,s)∈m
 |[],_,_,_,_,h=>by cases h
 |
  (i,s)::m,_,d,b,k,h=>by
  simp only[tN,eN,jb] at h
  rcases h with⟨rfl,_⟩|h
  ·grind
  ·obtain⟨s',hs⟩:=Kz h
   exact⟨s',dH _ hs⟩
theorem jg{m:Nat}{out:List (Nat×aX)}{b:Nat}{k:aX}(h:(fu m out)[b]? =some (some k)):(b,k)∈out:=by
 unfold fu at h
 rcases ji h with h|⟨_,h⟩<;>grind
theorem FX{m:Nat}{out:List (Nat×aX)}:(fu m out).length=m:=by unfold fu;rw[oO,gn]
theorem Ar{i:Nat}:∀{out:List (Nat×aX)},i∈wrote (out.map fun x=>(x.1,some x.2))→∃k,(i,k)∈out
 |[],h=>by cases h
 |
  (j,k)::out,h=>by
  simp only[fp,wrote,eN] at h
  rcases h with rfl|h
  ·grind
  ·obtain⟨k',hk⟩:=Ar h
   exact⟨k',dH _ hk⟩
theorem Mc{m i b:Nat}{x:aX}{out:List (Nat×aX)}(hi:∀k,(i,k)∉out)(hm:i<m):(fu m ((i,x)::out))[b]? =if b=i then some (some x) else(fu m out)[b]? :=by
 have hw:i∉wrote (out.map fun x=>(x.1,some x.2)):=by
  grind [Ar]
 unfold fu
 simp only[fp,bJ]
 split
 ·rename_i e
  subst e
  rw[ir hw,fY,aA rfl,aA (by simpa using hm)]
 ·rename_i e
  exact lN (by simp) (by rw[fY,aB (fun e'=>e e'.symm)])
theorem Om{gl:Ctx}{y:YC}{rh:S5}{C:IC}{e:jU}{σ:St}{r:ky (Nat::l4 C.R [])}(h:N8 y rh C e σ=some r):∃σE,WR rh.jl e=some (vZ (Nat::l4 C.R []) r).1∧Wk gl σ σE∧Bh σE.hp=true∧C.m≤σE.hp.length∧
 ∀i x,(i,x)∈tN y0 C.R (vZ (Nat::l4 C.R []) r).2→(tie y.gs rh.ti 0 σE.hp)[i]? =some (some x):=by
 unfold N8 at h
 split at h
 ·rename_i j u hj hu
  obtain⟨hc,h⟩:=dn h
  simp only[bP] at hc
  split at h
  ·rename_i d hd
   cases h
   rw[vu]
   exact⟨_,hj,SS.l6 hu,hc.1,jt hc.2,(IB y0 hd).1⟩
  grind
 grind
theorem W0{P:Program}{gl Cx:Ctx}{y:YC}{rh:S5}{C:IC}{ps:Array Tmp}{assign body:Code}{σ:St}{wA wB:St→(jU→St→Option (ky (Nat::l4 C.R [])))→Option (ky (Nat::l4 C.R []))}
 (hA:∀σ1 k1 r1,wA σ1 k1=some r1→eV P (gl.xV y.l) assign σ1 (fun e σ'=>k1 e σ'=some r1)) (hB:∀σ1 k1 r1,wB σ1 k1=some r1→eV P (gl.xV y.l) body σ1 (fun e σ'=>k1 e σ'=some r1))
 (hk:C.k0<C.m) (hR:(C.R.all fun x=> !Nat.beq x.1 C.k0)=true) (hof:II P gl σ.tm ps assign body C.k0 rh.ti rh.m rh.jl Cx y):(C.Y y.l (XZ y rh C ps σ wA wB)).holds P Cx:=by
 refine⟨?_,fun _ _ h=>h.elim⟩
 intro d r hd
 have hd':XZ y rh C ps σ wA wB d=some r:=hd
 unfold XZ at hd'
 split at hd'
 case h_2=>cases hd'
 rename_i vcs H0 htok
 obtain⟨hv,hd'⟩:=jf hd'
 obtain⟨hc,hd'⟩:=dn hd'
 simp only[bP] at hc
 obtain⟨r0,hw,hd'⟩:=bind_some hd'
 split at hd'
 case h_2=>cases hd'
 rename_i vs H1 htok1
 obtain⟨hv1,hd'⟩:=jf hd'
 obtain⟨hto,hd'⟩:=dn hd'
 have er:=fP hd'
 obtain⟨t1,t2,t3,t4⟩:=yz htok hv
 obtain⟨u1,u2,u3,u4⟩:=yz htok1 hv1
 rw[FX] at u1
 have lX:(bJ (List.replicate C.m none) (fC (tN y0 C.B (DL C.A d)))).length=C.m:=by rw[oO,gn]
 rw[lX] at t1
 have hnk:∀k,(C.k0,k)∉tN y0 C.R (vZ (Nat::l4 C.R []) r0).2:=by
  intro k hm
  obtain⟨s,hs⟩:=Kz hm
  have:=(List.all_eq_true.1 hR) _ hs
  simp_all
 have hX0:(fu C.m (tN y0 C.R (vZ (Nat::l4 C.R []) r0).2))[C.k0]? =some none:=by
  cases h:(fu C.m (tN y0 C.R (vZ (Nat::l4 C.R []) r0).2))[C.k0]? with
  |none=>grind [FX]
  |
   some x=>
   cases x with
   |none=>rfl
   |some k=>exact absurd (jg h) (hnk k)
 have h10:H1[C.k0]? =some none:=by
  grind [Aq]
 have hX1:∀i:Nat,(fu C.m (tN y0 C.R (vZ (Nat::l4 C.R []) r0).2))[i]? =(tie y.gs rh.ti 0 H1)[i]? :=by
  intro i
  by_cases hi:i=C.m
  ·simp_all[sZ]
  grind
 have hF:=hof (DK y0 C.A d) H0 H1 (vZ (Nat::l4 C.R []) r0).1 (dm hc.1) (t2 C.k0 (by omega) (by grind)).2 h10 hc.2 hto ?_
 ·show Fy P Cx y.l (DK y0 C.A d) (bJ (List.replicate C.m none) (fC (tN y0 C.B (DL C.A d)))) (.ret (.val .bool (vZ C.T r).1)) (fu C.m ((C.k0,.lp (vZ C.T r).2.1 (vZ C.T r).2.2.1)::tN y0 C.R (vZ C.T r).2.2.2))
  have e1:vZ C.T r=(Nat.beq (vZ (Nat::l4 C.R []) r0).1 0,y,(vZ (Nat::l4 C.R []) r0).1,(vZ (Nat::l4 C.R []) r0).2):=by rw[←er];exact vu C.T _
  rw[e1]
  have eX:(tie y.gs rh.ti 0 H0).set C.k0 (some (.lp y 0))=bJ (List.replicate C.m none) (fC (tN y0 C.B (DL C.A d))):=by
   apply List.ext_getElem?
   intro i
   rw[fY]
   split
   ·simp_all[sZ]
   grind
  rw[eX] at hF
  refine hF.less ?_
  intro b k hb
  rw[Mc hnk hk] at hb
  grind
 ·refine eV.mono (hA _ _ _ hw) ?_
  intro e σ1 he
  cases e with
  |
   normal=>
   refine eV.mono (hB _ _ _ he) ?_
   intro e σ2 he
   obtain⟨σE,q1,q2,q3,q4,q5⟩:=Om (gl:=gl.xV y.l) he
   have hpr:∃m,prune σE.hp m=H1:=by
    refine BP (by grind) ?_
    intro b k hb
    have hx:=hX1 b
    rw[DP hb,ek] at hx
    have:=q5 b _ (jg hx)
    obtain⟨k0,p1,p2⟩:=me this
    rw[ek] at p2
    rw[p1]
    have nt:∀{l:List (Option aX)}{k:aX},Bh l=true→l[b]? =some (some k)→IL (some k)=false:=by
     intro l k hn hk
     cases k with
     |tv g t v=>exact absurd hk (Kt hn b g t v)
     |_=>rfl
    rw[Ol (nt u4 hb) (nt q3 p1) p2]
   obtain⟨m,hm⟩:=hpr
   cases e with
   |normal=>exact⟨by simpa[WR] using q1.symm,σE,m,q2,hm⟩
   |
    ret=>
    obtain⟨j1,c,j2,j3⟩:=BO q1
    refine⟨⟨j1,?_⟩,σE,m,q2,hm⟩
    grind [UJ]
   |
    exit i=>
    obtain⟨j1,c,j2,j3⟩:=BO q1
    refine⟨⟨j1,?_⟩,σE,m,q2,hm⟩
    rw[j2]
    cases c<;>simp[N7] at j3
    rw[j3]
   |panic v=>trivial
  |_=>cases he
theorem aa0{P:Program}{gl:Ctx}{σ:St}{g:Operand}{ps:Array Tmp}{assign body:Code}(hro:gl.ro=none){gf:FuncId}{cs:AV}(hg:db gl σ.tm g= .func (.func gf) .nil cs){rh:S5}{C:IC}(iq:WU σ rh C cs=true)(hC:C.holds P gl)
 {wA wB:YC→St→(jU→St→Option (ky (Nat::l4 C.R [])))→Option (ky (Nat::l4 C.R []))}
 (hA:∀y σ1 k1 r1,wA y σ1 k1=some r1→eV P (gl.xV y.l) assign σ1 (fun e σ'=>k1 e σ'=some r1)) (hB:∀y σ1 k1 r1,wB y σ1 k1=some r1→eV P (gl.xV y.l) body σ1 (fun e σ'=>k1 e σ'=some r1))
 {R:Type} {k:jU→St→Option R} {r:R} (h:Bg (fun y=>WV σ y rh gf cs (C.XY y.l (XZ y rh C ps σ (wA y) (wB y))) k)=some r):eV P gl (.rangeFunc g ps assign body) σ (fun e σ'=>k e σ'=some r):=by
 unfold WU at iq
 simp only[bP,lF] at iq
 obtain⟨⟨⟨⟨⟨⟨⟨⟨⟨c1,c2⟩,c3⟩,c4⟩,c5⟩,c6⟩,c7⟩,c8⟩,c9⟩,PH⟩:=iq
 refine eV.rangeFunc hro hg rh.dI rh.lI C.k0 c1 c2 c3 c4 rh.ti rh.m c6 c7 c8 rh.jl c9 ?_
 intro y
 have hy:=L9 h y
 unfold WV at hy
 split at hy
 case h_2=>cases hy
 rename_i L ins hL nU
 rcases FJ hy with⟨hfn,hy⟩|hy
 case inr=>cases hy
 split at hy
 case h_2=>cases hy
 rename_i d hd
 rcases CF.FF hy with⟨q,hq,hy⟩|⟨x,hx,hy⟩
 case inr=>cases hy
 obtain⟨d1,d2⟩:=bH.jn hd
 unfold UK at hy
 split at hy
 case h_2=>cases hy
 rename_i hr
 obtain⟨hcr,hy⟩:=dn hy
 simp only[bP] at hcr
 split at hy
 case h_2=>cases hy
 rename_i y' j hlp
 obtain⟨hv,hy⟩:=jf hy
 have hv:y'=y:=hv.1
 subst hv
 refine⟨j,_,L,ins,_,⟨hr,hL,nU,hcr.1,hcr.2,hlp,rfl⟩,?_,?_⟩
 ·intro B hB' hof
  have hh:=hC B hB' y'.l _ (W0 (wA:=wA y') (wB:=wB y') (hA y') (hB y') (by simp_all) PH hof)
  have:=hh.ret d q hq
  rw[←hfn,d1,d2] at this
  rw[show(C.XY y'.l (XZ y' rh C ps σ (wA y') (wB y'))).res q= .ky .nil from hr] at this
  trivial
 ·have:=Td (P:=P) (gl:=gl) hy
  grind
section
variable{P:Program} {G:dq} (T:cQ P G) {I:List IC} {H:Hs} {Γ:List bH}
include T
theorem ov:∀{c:Code}{gl:Ctx}{fr:Bool}(_hΓ:∀C∈Γ,C.holds P gl)(_hro:fr=true→gl.ro=none)(_hI:fr=true→∀C∈I,C.holds P gl∧∀S w,gl.B S w){R:Type}{σ:St}{k:jU→St→Option R}{r:R},walk P G I H Γ c gl fr σ k=some r→eV P gl c σ (fun e σ'=>k e σ'=some r):=by
 intro c
 induction c with
 |skip=>intro gl fr hΓ hro hI R σ k r h;exact eV.skip h
 |label l=>intro gl fr hΓ hro hI R σ k r h;exact eV.label h
 |scope c ih=>intro gl fr hΓ hro hI R σ k r h;exact eV.scope (ih hΓ hro hI h)
 |exit i=>intro gl fr hΓ hro hI R σ k r h;exact eV.exit h
 |ret=>intro gl fr hΓ hro hI R σ k r h;exact eV.ret h
 |region id ops draw=>intro gl fr hΓ hro hI R σ k r h;exact IP T hΓ hro h
 |
  seq x z ih1 ih2=>
  intro gl fr hΓ hro hI R σ k r h
  unfold walk at h
  split at h
  ·refine eV.seq (eV.mono (ih1 hΓ hro hI h) ?_)
   intro e σ' he
   cases e with
   |normal=>exact ih2 hΓ hro hI he
   |_=>exact he
  ·rename_i S hS
   unfold aG at h
   obtain⟨o,ho,h⟩:=bind_some h
   refine eV.seq (eV.mono (ih1 hΓ hro hI ho) ?_)
   intro e σ' he
   cases e with
   |
    normal=>
    obtain⟨d,hd,e⟩:=map_some he
    subst e
    exact eV.wk (SS.l6 hd) (ih2 hΓ hro hI h)
   |
    _=>
    obtain⟨d,hd,e⟩:=map_some he
    subst e
    cases h
    exact hd
 |
  cond c x z ih1 ih2=>
  intro gl fr hΓ hro hI R σ k r h
  unfold walk at h
  split at h
  ·rename_i b hb
   refine eV.cond hb (fun e=>ih1 hΓ hro hI ?_) (fun e=>ih2 hΓ hro hI ?_)<;>grind
  grind
 |
  block id c ih=>
  intro gl fr hΓ hro hI R σ k r h
  unfold walk at h
  split at h
  ·refine eV.block (eV.mono (ih hΓ hro hI h) ?_)
   intro e σ' he
   cases e with
   |
    exit i=>
    simp only[unB] at he
    simp only[Eg]
    split at he<;>simp_all
   |_=>exact he
  ·rename_i S hS
   unfold aG at h
   obtain⟨o,ho,h⟩:=bind_some h
   have fin:∀{σ':St},(S.yy σ').map dN.aS=some o→∃σ2,Wk gl σ' σ2∧k .normal σ2=some r:=by
    intro σ' he
    obtain⟨d,hd,e⟩:=map_some he
    grind [SS.l6]
   have oth:∀{e:jU}{σ':St},(k e σ').map dN.ret=some o→k e σ'=some r:=by
    intro e σ' he
    obtain⟨d,hd,e⟩:=map_some he
    grind
   refine eV.aaZ (eV.block (eV.mono (ih hΓ hro hI ho) ?_))
   intro e σ' he
   cases e with
   |normal=>exact fin he
   |
    exit i=>
    simp only[toB] at he
    simp only[Eg]
    split at he
    ·rename_i hb;rw[aA (dm hb)];grind
    ·rename_i hb;rw[aB (fun e=>hb (by simp_all))];exact⟨σ',Wk.refl gl σ',oth he⟩
   |ret=>exact⟨σ',Wk.refl gl σ',oth he⟩
   |panic v=>exact oth he
 |
  loop c ih=>
  intro gl fr hΓ hro hI R σ k r h
  unfold walk at h
  split at h
  ·grind [Oj]
  ·split at h
   ·cases h
   ·split at h
    ·cases h
    ·rename_i u hu
     exact Ok (fun σ u=>SS.l6) (fun h=>ih hΓ hro hI h) hu h
 |
  rangeFunc g ps assign body ih1 ih2=>
  intro gl fr hΓ hro hI R σ k r h
  unfold walk at h
  obtain⟨hfr,h⟩:=dn h
  split at h
  ·cases h
  ·rename_i rh hrh
   split at h
   case h_2=>cases h
   rename_i C u hC hu
   split at h
   ·rename_i gf cs hg
    obtain⟨iq,h⟩:=dn h
    obtain⟨hC1,hB⟩:=hI hfr C (n8 hC)
    have hA:∀(y:YC)(σ1:St) k1 r1,walk P G I H Γ assign (gl.xV y.l) false (R:=ky (Nat::l4 C.R [])) σ1 k1=some r1→eV P (gl.xV y.l) assign σ1 (fun e σ'=>k1 e σ'=some r1):=
     fun y σ1 k1 r1 h1=>@ih1 (gl.xV y.l) false (fun D hD=>(hΓ D hD).up rfl hB) (fun e=>(zf e).elim) (fun e=>(zf e).elim) _ _ _ _ h1
    have hB':∀(y:YC)(σ1:St) k1 r1,walk P G I H Γ body (gl.xV y.l) false (R:=ky (Nat::l4 C.R [])) σ1 k1=some r1→eV P (gl.xV y.l) body σ1 (fun e σ'=>k1 e σ'=some r1):=
     fun y σ1 k1 r1 h1=>@ih2 (gl.xV y.l) false (fun D hD=>(hΓ D hD).up rfl hB) (fun e=>(zf e).elim) (fun e=>(zf e).elim) _ _ _ _ h1
    exact eV.wk (SS.l6 hu) <| aa0 (wA:=fun y σ1 k1=>walk P G I H Γ assign (gl.xV y.l) false σ1 k1) (wB:=fun y σ1 k1=>walk P G I H Γ body (gl.xV y.l) false σ1 k1) (hro hfr) hg iq hC1 hA hB' h
   grind
 |_=>grind [walk]
end
end Go.Ax
namespace Go.Ax
def pick:List Nat→List (Option aX)→List (Nat×aX)
 |[],_=>[]
 |
  b::l,hp=>match hp[b]? with
  |some (some k)=>(b,k)::pick l hp
  |_=>pick l hp
theorem nH{hp:List (Option aX)}:∀{l:List Nat}{b:Nat}{k:aX},(b,k)∈pick l hp→hp[b]? =some (some k)
 |[],_,_,h=>by cases h
 |
  c::l,b,k,h=>by
  simp only[pick] at h
  split at h
  ·rename_i k' hk
   rcases List.mem_cons.1 h with h|h
   ·cases h;exact hk
   ·exact nH h
  ·exact nH h
def aI(G:dq)(rs:List ResultVar)(oH:FuncId)(A:List Sh)(B:List (Nat×jY))(m:Nat)(F:SS)(ob:List Nat)(f:CF (prod (xU A (l4 B []))) F.T):bH:=
 ⟨.func oH,A,B,m,F,fun r=>(mJ G rs (F.st y0 r)).getD .bot,fun r=>pick ob (F.st y0 r).hp,f⟩
def W1(F:SS):jU→St→Option F.T
 | .ret,σ=>F.yy σ
 | .normal,σ=>F.yy σ
 |_,_=>none
def IQ(σ:St):Option St:=
 match marks σ.df σ.hp with
 |some hp=>some ⟨σ.tm,hp,[]⟩
 |none=>none
def IS(F:SS):jU→St→Option F.T
 |
  .ret,σ=>match IQ σ with
  |some σ=>F.yy σ
  |none=>none
 |
  .normal,σ=>match IQ σ with
  |some σ=>F.yy σ
  |none=>none
 |_,_=>none
def rz(nt m:Nat)(args:List AV)(ins:List (Nat×Option aX)):St:=⟨args++List.replicate (nt -args.length) .bot,bJ (List.replicate m none) ins,[]⟩
def On{α:Type}:Option α→Bool
 |some _=>true
 |none=>false
theorem r9{x:Option AV}(h:On x=true):x=some (x.getD .bot):=by
 cases x with
 |none=>cases h
 |some y=>rfl
theorem yB{gl:Ctx}{F:SS}{e:jU}{σ:St}{r:F.T}(h:IS F e σ=some r):(e= .ret∨e= .normal)∧∃σ1,IQ σ=some σ1∧Wk gl σ1 (F.st y0 r):=by
 cases e with
 |
  ret=>
  simp only[IS] at h
  split at h
  ·simp_all[SS.l6]
  grind
 |
  normal=>
  simp only[IS] at h
  split at h
  ·simp_all[SS.l6]
  grind
 |_=>trivial
theorem C7.DW{P:Program}{G:dq}(T:cQ P G){gl:Ctx}{f:FuncId}{fn:Func}{c:Code}(hf:P.funcs[f]? =some fn)(hb:fn.body=some c)(hro:gl.ro=none){args:List AV}{ins:List (Nat×Option aX)}{m:Nat}{x:AV}{out:List (Nat×aX)}{σe:St}
 (h:eV P gl c (rz fn.ntmps m args ins) (fun e σ=>(e= .ret∨e= .normal)∧∃σ1,IQ σ=some σ1∧Wk gl σ1 σe)) (_hd:σe.df= []) (apK:mJ G fn.results.toList σe=some x) (hout:∀b k,(b,k)∈out→σe.hp[b]? =some (some k)):
 C7 P gl f args (bJ (List.replicate m none) ins) (.ret x) (fu m out):=by
 intro E w vs hv hw
 obtain⟨hl,apf⟩:=hv.get
 refine CallsIn.calls (F:=Wd gl) (n:=0) (callsIn_of_wp_marks hf hb trivial ?_ hro) (fun k d hd=>by cases hd)
 have hg:dE gl (rz fn.ntmps m args ins) E {tmps:=vs.toArray++Array.replicate (fn.ntmps -vs.toArray.size) undef,defers:=[]} w:=by
  refine⟨?_,?_,hw,trivial⟩
  ·grind [rz]
  ·intro i x hx v hv'
   simp only[rz] at hx
   rw[Array.getElem?_append] at hv'
   simp only[List.getElem?_append] at hx
   split at hx
   ·grind
   ·rw[List.getElem?_replicate] at hx
    split at hx
    ·cases hx;trivial
    grind
 refine wpIn_mono (h E _ w hg) ?_
 rintro ex a' w' ⟨e,σ',E',h1,⟨he,σ1,ho,hwk⟩,h3,h4⟩
 have main:LeavesInM (Wd gl) 0 P fn a'.tmps (fun e w'=>∃E',C6 E' w' (.ret x) e∧HW gl E' w' (fu m out)∧Ext gl.md (cU (bJ (List.replicate m none) ins) E) E w (cU (fu m out) E') E' w') a'.defers .returning w':=by
  unfold IQ at ho
  split at ho
  ·rename_i hp1 hm
   cases ho
   refine Kp σ'.df h3 hm (fun w3 k1 k2=>?_)
   obtain⟨E2,g2,x2⟩:=hwk E' _ w3 k1
   obtain⟨v,k3,k4⟩:=vP T g2 apK
   have hw2:HW gl E2 w3 (fu m out):=g2.hw.less (fun b k hb=>hout b k (jg hb))
   have hx:Ext gl.md (cU (bJ (List.replicate m none) ins) E) E w (cU (fu m out) E2) E2 w3:=
    {(h4.trans k2).trans x2 with own:=fun g ⟨b,k,hb,hgb⟩=>((h4.trans k2).trans x2).own g ⟨b,k,hout b k (jg hb),hgb⟩}
   exact⟨v,k3,E2,k4,hw2,hx⟩
  grind
 rcases he with rfl|rfl
 ·cases ex with
  |ret=>trivial
  |_=>trivial
 ·cases ex with
  |normal=>trivial
  |_=>trivial
theorem bH.of{P:Program}{G:dq}(T:cQ P G){gl:Ctx}{I:List IC}{H:Hs}{Γ:List bH}(hΓ:∀C∈Γ,C.holds P gl)(hI:∀C∈I,C.holds P gl∧∀S w,gl.B S w)(hro:gl.ro=none){rs:List ResultVar}{oH:FuncId}{A:List Sh}{B:List (Nat×jY)}{m nt:Nat}{F:SS}{ob:List Nat}{f:prod (xU A (l4 B []))→Option F.T}
 {fn:Func} {c:Code} (apg:∀vs w,(callFunc oH vs).run P w= .ok (.enter oH vs) w) (hf:P.funcs[oH]? =some fn) (hb:fn.body=some c) (hrs:fn.results.toList=rs) (hnt:fn.ntmps=nt) (hF:F.df= [])
 (apK:∀r:F.T,On (mJ G rs (F.st y0 r))=true)
 (h:∀d,f d=walk P G I H Γ c gl true (rz nt m (DK y0 A d) (fC (tN y0 B (DL A d)))) (IS F)):
 (aI G rs oH A B m F ob (.bZ f)).holds P gl:=by
 refine⟨?_,fun _ _ h=>h.elim⟩
 intro d r hd
 have hd':f d=some r:=hd
 rw[h d] at hd'
 refine⟨apg,?_⟩
 have apa:=ov T hΓ (fun _=>hro) (fun _=>hI) hd'
 subst hnt
 refine C7.DW T hf hb hro (σe:=F.st y0 r) (eV.mono apa ?_) ?_ ?_ ?_
 ·intro e σ he
  exact yB he
 ·show(F.st y0 r).df= []
  simp only[SS.st,SS.rz]
  obtain⟨nt',nh,tm,hp,df⟩:=F
  simp only at hF
  subst hF
  rfl
 ·rw[hrs];exact r9 (apK r)
 ·intro b k hbk;exact nH hbk
def As(s:Sh)(F:SS):jU→St→Option (Sum (prod (s.H [])) F.T)
 |
  .ret,σ=>match IQ σ with
  |some σ=>(F.yy σ).map .inr
  |none=>none
 |
  .normal,σ=>match IQ σ with
  |some σ=>(F.yy σ).map .inr
  |none=>none
 |
  .panic v,σ=>match σ.df with
  |[]=>(s.G (l:=[]) v ()).map .inl
  |_=>none
 |_,_=>none
theorem C7.Oo{P:Program}{gl:Ctx}{f:FuncId}{fn:Func}{c:Code}(hf:P.funcs[f]? =some fn)(hb:fn.body=some c)(hro:gl.ro=none){args:List AV}{ins:List (Nat×Option aX)}{m:Nat}{x:AV}
 (h:eV P gl c (rz fn.ntmps m args ins) (fun e σ=>e= .panic x∧σ.df= [])):
 C7 P gl f args (bJ (List.replicate m none) ins) (.oi x) (fu m []):=by
 intro E w vs hv hw
 obtain⟨hl,apf⟩:=hv.get
 refine CallsIn.calls (F:=Wd gl) (n:=0) (callsIn_of_wp hf hb trivial ?_ hro) (fun k d hd=>by cases hd)
 have hg:dE gl (rz fn.ntmps m args ins) E {tmps:=vs.toArray++Array.replicate (fn.ntmps -vs.toArray.size) undef,defers:=[]} w:=by
  refine⟨?_,?_,hw,trivial⟩
  ·grind [rz]
  ·intro i x hx v hv'
   simp only[rz] at hx
   rw[Array.getElem?_append] at hv'
   simp only[List.getElem?_append] at hx
   split at hx
   ·grind
   ·rw[List.getElem?_replicate] at hx
    split at hx
    ·cases hx;trivial
    grind
 refine wpIn_mono (h E _ w hg) ?_
 rintro ex a' w' ⟨e,σ',E',h1,⟨rfl,hd⟩,h3,h4⟩
 have hdf:a'.defers= []:=by
  have:=h3.df
  rw[hd] at this
  cases hds:a'.defers with
  |nil=>rfl
  |cons d l=>rw[hds] at this;trivial
 have hw2:HW gl E' w' (fu m []):=h3.hw.less (fun b k hb=>absurd (jg hb) (by simp))
 have hx:Ext gl.md (cU (bJ (List.replicate m none) ins) E) E w (cU (fu m []) E') E' w':=
  {h4 with own:=fun g ⟨b,k,hb,hgb⟩=>absurd (jg hb) (by simp)}
 cases ex with
 |panic ch=>exact⟨hdf,E',h1,hw2,hx⟩
 |_=>trivial
theorem bH.GL{P:Program}{G:dq}(T:cQ P G){gl:Ctx}{I:List IC}{H:Hs}{Γ:List bH}(hΓ:∀C∈Γ,C.holds P gl)(hI:∀C∈I,C.holds P gl∧∀S w,gl.B S w)(hro:gl.ro=none){rs:List ResultVar}{oH:FuncId}{A:List Sh}{B:List (Nat×jY)}{m nt:Nat}{s:Sh}{F:SS}{ob:List Nat}{f:prod (xU A (l4 B []))→Option (Sum (prod (s.H [])) F.T)}
 {fn:Func} {c:Code} (apg:∀vs w,(callFunc oH vs).run P w= .ok (.enter oH vs) w) (hf:P.funcs[oH]? =some fn) (hb:fn.body=some c) (hrs:fn.results.toList=rs) (hnt:fn.ntmps=nt) (hF:F.df= [])
 (apK:∀r:F.T,On (mJ G rs (F.st y0 r))=true)
 (h:∀d,f d=walk P G I H Γ c gl true (rz nt m (DK y0 A d) (fC (tN y0 B (DL A d)))) (As s F)):
 (aI G rs oH A B m F ob (.oi s f)).holds P gl:=by
 refine⟨?_,?_⟩
 ·intro d r hd
  have hd':f d=some (.inr r):=hd
  rw[h d] at hd'
  refine⟨apg,?_⟩
  have apa:=ov T hΓ (fun _=>hro) (fun _=>hI) hd'
  subst hnt
  refine C7.DW T hf hb hro (σe:=F.st y0 r) (eV.mono apa ?_) ?_ ?_ ?_
  ·intro e σ he
   cases e with
   |
    ret=>
    simp only[As] at he
    split at he
    ·rename_i σ1 h1
     obtain⟨y,hy,e⟩:=map_some he
     cases e
     exact⟨Or.inl rfl,σ1,h1,SS.l6 hy⟩
    grind
   |
    normal=>
    simp only[As] at he
    split at he
    ·rename_i σ1 h1
     obtain⟨y,hy,e⟩:=map_some he
     cases e
     exact⟨Or.inr rfl,σ1,h1,SS.l6 hy⟩
    grind
   |
    panic v=>
    simp only[As] at he
    split at he<;>simp_all
   |exit i=>trivial
  ·show(F.st y0 r).df= []
   simp only[SS.st,SS.rz]
   obtain⟨nt',nh,tm,hp,df⟩:=F
   simp only at hF
   subst hF
   rfl
  ·rw[hrs];exact r9 (apK r)
  ·intro b k hbk;exact nH hbk
 ·rintro d x ⟨p,hd,rfl⟩
  have hd':f d=some (.inl p):=hd
  rw[h d] at hd'
  refine⟨apg,?_⟩
  have apa:=ov T hΓ (fun _=>hro) (fun _=>hI) hd'
  subst hnt
  refine C7.Oo hf hb hro (eV.mono apa ?_)
  intro e σ he
  cases e with
  |
   ret=>
   simp only[As] at he
   split at he<;>simp_all
  |
   normal=>
   simp only[As] at he
   split at he<;>simp_all
  |
   panic v=>
   simp only[As] at he
   split at he
   ·rename_i hdf
    obtain⟨y,hy,e⟩:=map_some he
    grind [Sh.Bf]
   grind
  |exit i=>trivial
theorem bH.aa1{P:Program}{gl:Ctx}{G:dq}{rs:List ResultVar}{oH:FuncId}{A:List Sh}{B:List (Nat×jY)}{m:Nat}{F:SS}{ob:List Nat}:(aI G rs oH A B m F ob (.bZ fun _=>none)).holds P gl:=
 ⟨fun _ _ h=>(by trivial),fun _ _ h=>h.elim⟩
theorem bH.sub{P:Program}{gl:Ctx}{G:dq}{rs:List ResultVar}{oH:FuncId}{A:List Sh}{B:List (Nat×jY)}{m:Nat}{F:SS}{ob:List Nat}{f g:prod (xU A (l4 B []))→Option F.T}(h:(aI G rs oH A B m F ob (.bZ f)).holds P gl)(hs:∀d r,g d=some r→f d=some r):(aI G rs oH A B m F ob (.bZ g)).holds P gl:=
 ⟨fun d r hd=>h.ret d r (hs d r hd),fun _ _ h=>h.elim⟩
def UN(P:Program)(gl:Ctx):List bH→Prop
 |[]=>True
 |C::l=>C.holds P gl∧UN P gl l
theorem hold{P:Program}{gl:Ctx}:∀{l:List bH},UN P gl l→∀C∈l,C.holds P gl
 |[],_,C,h=>by cases h
 |
  D::l,h,C,hC=>by
  rcases List.mem_cons.1 hC with rfl|hC
  ·exact h.1
  ·exact hold h.2 C hC
def UP(P:Program)(gl:Ctx):List IC→Prop
 |[]=>True
 |C::l=>C.holds P gl∧UP P gl l
theorem FY{P:Program}{l:List LJ}:∀{L:List IC},UP P (Ctx.of l) L→∀C∈L,C.holds P (Ctx.of l)∧∀S w,(Ctx.of l).B S w
 |[],_,C,h=>by cases h
 |
  D::L,h,C,hC=>by
  rcases List.mem_cons.1 hC with rfl|hC
  ·exact⟨h.1,fun _ _=>trivial⟩
  ·exact FY h.2 C hC
theorem aJ{P:Program}{gl:Ctx}:∀C∈([]:List IC),C.holds P gl∧∀S w,gl.B S w:=fun C h=>by cases h
end Go.Ax
