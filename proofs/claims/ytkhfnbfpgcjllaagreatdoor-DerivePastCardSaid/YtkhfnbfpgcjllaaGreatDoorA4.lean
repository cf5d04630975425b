/- The machines: what it means to be walked or run, part 4. No condition. -/
import Derived.Test.YtkhfnbfpgcjllaaGreatDoorA3
import Derived.Laws.Cover3
import Derived.RangeFuncRecord
namespace Go.Ax
def SQ(b b' c:Nat):Nat:=if Nat.beq c b then b' else c
def rn(b b':Nat):AV→Option AV
 | .own c=>some (.own (SQ b b' c))
 | .nI c lo len=>some (.nI (SQ b b' c) lo len)
 | .mD c p lo len=>some (.mD (SQ b b' c) p lo len)
 | .ptr c p=>some (.ptr (SQ b b' c) p)
 | .mp c=>some (.mp (SQ b b' c))
 |
  .func fn fs cs=>match rn b b' fs,rn b b' cs with
  |some f,some c=>if f.atoms&&c.atoms then some (.func fn f c) else none
  |_,_=>none
 |
  .iface u v=>match rn b b' v with
  |some x=>some (.iface u x)
  |none=>none
 |
  .cons x y=>match rn b b' x,rn b b' y with
  |some u,some v=>some (.cons u v)
  |_,_=>none
 | .bot=>none
 | .kj _=>none
 | .opt _ _=>none
 | .iY _=>none
 |x=>some x
def Env.mv(E:Env)(b b':Nat):Env:={E with P:=fun c=>if c=b' then E.P b else E.P c,g:=fun c=>if c=b' then E.g b else E.g c,sv:=fun c=>if c=b' then E.sv b else E.sv c,bt:=fun c=>if c=b' then E.bt b else E.bt c}
theorem Bw{E:Env}{b b' c:Nat}(h:c≠b'):(E.mv b b').g (SQ b b' c)=E.g c∧(E.mv b b').sv (SQ b b' c)=E.sv c∧(E.mv b b').bt (SQ b b' c)=E.bt c:=by
 grind [SQ,dm,Env.mv]
theorem NI(b b':Nat)(x y:AV)(h:rn b b' x=some y):y.isAgg=x.isAgg:=by
 cases x with
 |
  func fn fs cs=>
  simp only[rn] at h
  split at h
  ·split at h
   ·cases h;rfl
   grind
  grind
 |
  iface u v=>
  simp only[rn] at h
  split at h
  ·cases h;rfl
  grind
 |
  cons a c=>
  simp only[rn] at h
  split at h
  ·cases h;rfl
  grind
 |bot=>trivial
 |kj l=>trivial
 |opt c v=>trivial
 |iY c=>trivial
 |_=>simp only[rn,fy] at h;subst h;rfl
theorem aax{E:Env}{w:World}{b b':Nat}:∀{x y:AV}{vs:List Value},b'∉x.ids→rn b b' x=some y→RC E w x vs→RC (E.mv b b') w y vs:=by
 intro x
 induction x with
 |own c=>
  intro y vs hi h hr;simp only[rn,fy] at h;subst h
  obtain⟨_,e2,_⟩:=Bw (E:=E) (b:=b) (b':=b') (c:=c) (fun e=>hi (by simp[AV.ids,e]))
  simp only[RC];rw[e2];exact hr
 |nI c lo len=>
  intro y vs hi h hr;simp only[rn,fy] at h;subst h
  obtain⟨_,e2,e3⟩:=Bw (E:=E) (b:=b) (b':=b') (c:=c) (fun e=>hi (by simp[AV.ids,e]))
  simp only[RC];rw[e2,e3];exact hr
 |mD c p lo len=>
  intro y vs hi h hr;simp only[rn,fy] at h;subst h
  obtain⟨e1,_,e3⟩:=Bw (E:=E) (b:=b) (b':=b') (c:=c) (fun e=>hi (by simp[AV.ids,e]))
  simp only[RC];rw[e1,e3];exact hr
 |ptr c p=>grind [rn,Bw,AV.ids,RC]
 |mp c=>grind [rn,Bw,AV.ids,RC]
 |
  func fn fs cs ih1 ih2=>
  intro y vs hi h hr
  simp only[rn] at h
  simp only[AV.ids,jT,not_or] at hi
  split at h
  ·rename_i f c h1 h2
   split at h
   ·rename_i ha
    cases h
    simp only[bM] at ha
    obtain⟨f',c',e,r1,r2,_,_⟩:=hr
    exact⟨f',c',e,ih1 hi.1 h1 r1,ih2 hi.2 h2 r2,ha.1,ha.2⟩
   grind
  grind
 |
  iface u v ih=>
  intro y vs hi h hr
  simp only[rn] at h
  split at h
  ·rename_i z hz
   cases h
   obtain⟨x,e,hr⟩:=hr
   refine⟨x,e,?_⟩
   have aoW:=NI b b' v z hz
   rcases hr with⟨h1,cs,e2,h3⟩|⟨h1,h3⟩
   ·exact Or.inl ⟨by grind,cs,e2,ih hi hz h3⟩
   ·exact Or.inr ⟨by grind,ih hi hz h3⟩
  grind
 |
  cons a c ih1 ih2=>
  intro y vs hi h hr
  simp only[rn] at h
  simp only[AV.ids,jT,not_or] at hi
  split at h
  ·rename_i u v h1 h2
   cases h
   obtain⟨v1,v2,e,r1,r2⟩:=hr
   exact⟨v1,v2,e,ih1 hi.1 h1 r1,ih2 hi.2 h2 r2⟩
  grind
 |bot=>intro y vs _ h;trivial
 |kj l=>intro y vs _ h;trivial
 |opt c v=>intro y vs _ h;trivial
 |iY c=>intro y vs _ h;trivial
 |_=>intro y vs _ h hr;simp only[rn,fy] at h;subst h;exact hr
theorem WE{E:Env}{w:World}{b b':Nat}:Good E (E.mv b b') w (fun x=>if eg b' x.ids then none else rn b b' x) where
 mp:=by
  intro c y h
  split at h
  ·cases h
  ·rename_i hn
   have hn:=iU (show eg b' (AV.mp c).ids=false by grind)
   grind [rn,Bw,AV.ids]
 rc:=by
  grind [aax,iU]
 agg:=by
  grind [NI]
 fn:=
  by
  intro fn fs cs y h
  split at h
  ·cases h
  ·rename_i hn
   have hn:=iU (show eg b' (AV.func fn fs cs).ids=false by grind)
   simp only[AV.ids,jT,not_or] at hn
   simp only[rn] at h
   have f1:eg b' fs.ids=false:=by
    cases hh:eg b' fs.ids with
    |false=>rfl
    |true=>exact absurd (hasNatMem hh) hn.1
   have f2:eg b' cs.ids=false:=by
    cases hh:eg b' cs.ids with
    |false=>rfl
    |true=>exact absurd (hasNatMem hh) hn.2
   grind
where
 hasNatMem {d:Nat}:∀{l:List Nat},eg d l=true→d∈l
  |[],h=>by cases h
  |
   x::l,h=>by
   simp only[eg,jO] at h
   rcases h with h|h
   ·simp_all
   ·exact dF _ (hasNatMem h)
def rename(b b':Nat)(σ:St):Option St:=
 match iL σ.hp b,iL σ.hp b' with
 |
  some k,none=>if Nat.beq b b'||Nat.blt b' 16 then none else
  match St.j7 (fun x=>if eg b' x.ids then none else rn b b' x) {σ with hp:=σ.hp.set b none},mK (fun x=>if eg b' x.ids then none else rn b b' x) (some k) with
  |some σ',some k'=>some {σ' with hp:=σ'.hp.set b' k'}
  |_,_=>none
 |_,_=>none
theorem Wk.rename{gl:Ctx}{b b':Nat}{σ σ':St}(h:Ax.rename b b' σ=some σ'):Wk gl σ σ':=by
 intro E a w hg
 unfold Ax.rename at h
 split at h
 ·rename_i k hk hk'
  have hbk:=dS σ.hp b k hk
  split at h
  ·cases h
  ·rename_i hne0
   have hne:b≠b':=fun e=>hne0 (by simp[e])
   have h16:16≤b':=by
    simp_all
   split at h
   ·rename_i σ1 k1 h1 h2
    cases h
    unfold St.j7 at h1
    split at h1
    ·rename_i hp' df' h3 h4
     cases h1
     have apo:=WE (E:=E) (w:=w) (b:=b) (b':=b')
     have hEh:∀i j,(i=b'→j=b)→(i≠b'→j=i)→∀x,(E.mv b b').has i x↔E.has j x:=by
      grind [Env.has,Env.mv]
     have hEo:∀i,i≠b'→(E.mv b b').g i=E.g i∧(E.mv b b').sv i=E.sv i∧(E.mv b b').bt i=E.bt i:=fun i hi=>by simp[Env.mv,hi]
     have hEn:(E.mv b b').g b'=E.g b∧(E.mv b b').sv b'=E.sv b∧(E.mv b b').bt b'=E.bt b:=by simp[Env.mv]
     have src:∀(i:Nat)(k':aT),(hp'.set b' k1)[i]? =some (some k')→(i=b'∧k1=some k')∨(i≠b'∧i≠b∧∃k0,σ.hp[i]? =some (some k0)∧mK (fun x=>if eg b' x.ids then none else rn b b' x) (some k0)=some (some k')):=by
      intro i k' hi
      rw[fR] at hi
      split at hi
      ·grind
      grind [nF]
     have gOf:∀(i:Nat)(k':aT),(hp'.set b' k1)[i]? =some (some k')→∃j k0,σ.hp[j]? =some (some k0)∧(∀x,(E.mv b b').has i x↔E.has j x)∧(i=b'→j=b)∧(i≠b'→j=i):=by
      grind
     refine⟨E.mv b b',⟨?_,?_,⟨?_,?_,?_,hg.hw.slt,hg.hw.gl,?_⟩,apo.RD h4 hg.df⟩,⟨rfl,Tp.r rfl rfl,rfl,cT _,fun _ _ _=>rfl,fun _ h=>h,fun _ h=>Or.inl h,?_,fun i hi=>hEo i (by omega)⟩⟩
     ·simp only[nD];exact hg.len
     ·intro i y hy v hv
      rcases nE hy with e|⟨x,e1,e2,e3⟩
      ·subst e;trivial
      ·exact RV.gS (apo.RV e3 (RV.mF e2 (hg.tm i x e1 v hv)))
     ·intro i k' hi
      rcases src i k' hi with⟨e,e'⟩|⟨e1,e2,k0,e3,e4⟩
      ·subst e
       rw[e'] at h2
       exact apo.RB (fun _ h=>h) (b:=b) (b':=i) hEn.1 hEn.2.1 hEn.2.2 (fun _ g hp=>by simpa[Env.mv] using hp) h2 (hg.hw.eH b k hbk)
      ·exact apo.RB (fun _ h=>h) (b:=i) (b':=i) (hEo i e1).1 (hEo i e1).2.1 (hEo i e1).2.2 (fun _ g hp=>by simpa[Env.mv,e1] using hp) e4 (hg.hw.eH i k0 e3)
     ·intro i j k2 k3 g' hi hj g1 g2
      obtain⟨i',k4,e1,e2,e3,e4⟩:=gOf i k2 hi
      obtain⟨j',k5,f1,f2,f3,f4⟩:=gOf j k3 hj
      have g1:=(e2 _).1 g1;have g2:=(f2 _).1 g2
      have hij:=hg.hw.gR i' j' k4 k5 g' e1 f1 g1 g2
      grind
     ·intro i k' g' hi hgi hs
      obtain⟨i',k4,e1,e2,_,_⟩:=gOf i k' hi
      exact hg.hw.fS i' k4 g' e1 ((e2 _).1 hgi) hs
     ·intro i k' g' hi hgi
      obtain⟨i',k4,e1,e2,_,_⟩:=gOf i k' hi
      rcases(e2 _).1 (Or.inr hgi) with q|q
      ·exact cQ.below hg.hw ⟨i',k4,e1,Or.inl q⟩
      ·exact hg.hw.w8 i' k4 g' e1 q
     ·rintro g' ⟨i,k',hi,hgi⟩
      obtain⟨i',k4,e1,e2,_,_⟩:=gOf i k' hi
      exact Or.inl ⟨i',k4,e1,(e2 _).1 hgi⟩
    grind
   grind
 grind
def DD(s b:Nat)(e:TypeId)(bs:Nat)(t:Ty)(σ:St):Option St:=
 match σ.tm[s]? with
 |some .aM=>if σ.i9 b&&Nat.blt 0 t.size then some {σ with tm:=σ.tm.set s (.own b),hp:=σ.hp.set b (some (.row e bs t []))} else none
 |_=>none
theorem Wk.DD{gl:Ctx}{s b:Nat}{e:TypeId}{bs:Nat}{t:Ty}{σ σ':St}(h:Ax.DD s b e bs t σ=some σ'):Wk gl σ σ':=by
 intro E a w hg
 unfold Ax.DD at h
 split at h
 ·rename_i hs
  split at h
  ·rename_i hc
   cases h
   simp only[bM] at hc
   have hlt:s<a.tmps.size:=by rw[hg.len];grind
   have ha:=RV.atom rfl (hg.tm s _ hs a.tmps[s] (by grind))
   simp[RC] at ha
   have hsz:0<t.size:=by simp_all
   obtain⟨g1,x1⟩:=hg.fresh (w':=w) (St.gF hc.1) (g:=none) (sv:=.slice none 0 0) (t:=.arr 0 t) (k:=.row e bs t []) rfl (Tp.r rfl rfl) rfl (cT _) (fun _ _=>rfl) (fun i hi=>by cases hi)
    ⟨by simp[Env.at],by simp,by simp,hsz,none,0,by simp[Env.at],by grind,Or.inl ⟨⟨rfl,rfl⟩,by simp[Env.at],rfl⟩⟩
   refine⟨_,⟨by simp[hg.len],?_,g1.hw,g1.df⟩,x1⟩
   intro i x hx v hv
   rw[fR] at hx
   split at hx
   ·rename_i e';subst e'
    split at hx
    ·cases hx
     have:v= .slice none 0 0:=by grind
     subst this
     exact RV.gS (Or.inr ⟨rfl,by simp[Env.at],none,0,0,by simp[Env.at]⟩)
    grind
   ·exact g1.tm i x hx v hv
  grind
 grind
def ot:Ty→Path→Bool
 | .pair a _,.dX 0::p=>ot a p
 | .pair _ b,.dX (k+1)::p=>ot b (.dX k::p)
 |_,[]=>true
 |_,_=>false
theorem sK:∀{t:Ty}{p:Path},ot t p=true→t.valid p:=by
 intro t
 induction t with
 |
  pair a b ih1 ih2=>
  intro p h
  cases p with
  |nil=>trivial
  |
   cons s p=>
   cases s with
   |
    dX k=>cases k with
    |zero=>grind [ot,Ty.valid]
    |succ k=>grind [ot,Ty.valid]
   |idx i=>trivial
 |
  _=>
  grind [Ty.valid,ot]
def zU(c:Nat)(p:Path)(b:Nat)(e:TypeId)(bs:Nat)(t:Ty)(σ:St):Option St:=
 match iL σ.hp c with
 |
  some (.var tt v)=>match v.get p,v.set p (.own b) with
  |some .aM,some u=>if σ.i9 b&&Nat.blt 0 t.size&&u.dW tt&&ot tt p&& !Nat.beq c b then some {σ with hp:=(σ.hp.set b (some (.row e bs t []))).set c (some (.var tt u))} else none
  |_,_=>none
 |
  some (.dA e2 bs2 tt xs i v)=>match v.get p,v.set p (.own b) with
  |some .aM,some u=>if σ.i9 b&&Nat.blt 0 t.size&&u.dW tt&&ot tt p&& !Nat.beq c b then some {σ with hp:=(σ.hp.set b (some (.row e bs t []))).set c (some (.dA e2 bs2 tt xs i u))} else none
  |_,_=>none
 |_=>none
theorem Wk.zU{gl:Ctx}{c:Nat}{p:Path}{b:Nat}{e:TypeId}{bs:Nat}{t:Ty}{σ σ':St}(h:Ax.zU c p b e bs t σ=some σ'):Wk gl σ σ':=by
 intro E a w hg
 unfold Ax.zU at h
 split at h
 ·rename_i tt v hc
  have hbk:=dS σ.hp c _ hc
  split at h
  ·rename_i u ao9 bH
   split at h
   ·rename_i hk
    cases h
    simp only[bM] at hk
    obtain⟨⟨⟨⟨k1,k2⟩,k3⟩,k4⟩,k5⟩:=hk
    have hcb:c≠b:=fun e'=>by simp_all
    have hsz:0<t.size:=by simp_all
    obtain⟨g1,x1⟩:=hg.fresh (w':=w) (St.gF k1) (g:=none) (sv:=.slice none 0 0) (t:=.arr 0 t) (k:=.row e bs t []) rfl (Tp.r rfl rfl) rfl (cT _) (fun _ _=>rfl) (fun i hi=>by cases hi)
     ⟨by simp[Env.at],by simp,by simp,hsz,none,0,by simp[Env.at],by grind,Or.inl ⟨⟨rfl,rfl⟩,by simp[Env.at],rfl⟩⟩
    have hb1:(σ.hp.set b (some (.row e bs t [])))[c]? =some (some (.var tt v)):=by
     grind
    obtain⟨r1,r2,g,cs,e',r3,r4,r5⟩:=g1.hw.eH c _ hb1
    have hva:=sK k4
    obtain⟨s,q1,q2,q3,q4⟩:=AV.i7 r5 r2 hva ao9
    have hs1:s.size=1:=AV.gV q2▸rfl
    have hown:RC (E.at b none (.slice none 0 0) (.arr 0 t)) w (.own b) [.slice none 0 0]:=⟨by simp[Env.at],none,0,0,by simp[Env.at]⟩
    obtain⟨s',p1,p2,p3,p4⟩:=AV.po hown r5 r2 hva (fun s' hs'=>by grind) bH
    rw[q1] at p1;cases p1
    simp only[RC] at q4
    have hcs:cs.toList.take (tt.off p)++[Value.slice none 0 0]++cs.toList.drop (tt.off p+s.size)=cs.toList:=by
     grind [oA]
    rw[hcs] at p4
    have hw2:=g1.hw.write (w':=w) (k':=.var tt u) hb1 rfl (fun _ _=>rfl) ⟨r1,k3,g,cs,e',r3,r4,p4⟩
    refine⟨_,⟨g1.len,g1.tm,hw2,g1.df⟩,{x1 with own:=?_ }⟩
    intro g' hg'
    exact x1.own g' (cQ.rC hb1 hg')
   grind
  grind
 ·rename_i e2 bs2 tt xs i v hc
  have hbk:=dS σ.hp c _ hc
  split at h
  ·rename_i u ao9 bH
   split at h
   ·rename_i hk
    cases h
    simp only[bM] at hk
    obtain⟨⟨⟨⟨k1,k2⟩,k3⟩,k4⟩,k5⟩:=hk
    have hcb:c≠b:=fun e'=>by simp_all
    have hsz:0<t.size:=by simp_all
    obtain⟨g1,x1⟩:=hg.fresh (w':=w) (St.gF k1) (g:=none) (sv:=.slice none 0 0) (t:=.arr 0 t) (k:=.row e bs t []) rfl (Tp.r rfl rfl) rfl (cT _) (fun _ _=>rfl) (fun i hi=>by cases hi)
     ⟨by simp[Env.at],by simp,by simp,hsz,none,0,by simp[Env.at],by grind,Or.inl ⟨⟨rfl,rfl⟩,by simp[Env.at],rfl⟩⟩
    have hb1:(σ.hp.set b (some (.row e bs t [])))[c]? =some (some (.dA e2 bs2 tt xs i v)):=by
     grind
    obtain⟨h1,h2,h3,h4,h5,r2,g,cap,cs,z1,z2,z3,z4,z5,z6,z7,r5,z9⟩:=g1.hw.eH c _ hb1
    have hva:=sK k4
    obtain⟨s,q1,q2,q3,q4⟩:=AV.i7 r5 r2 hva ao9
    have hs1:s.size=1:=AV.gV q2▸rfl
    have hown:RC (E.at b none (.slice none 0 0) (.arr 0 t)) w (.own b) [.slice none 0 0]:=⟨by simp[Env.at],none,0,0,by simp[Env.at]⟩
    obtain⟨s',p1,p2,p3,p4⟩:=AV.po hown r5 r2 hva (fun s' hs'=>by grind) bH
    rw[q1] at p1;cases p1
    simp only[RC] at q4
    have hcs:((cs.toList.drop (i*tt.size)).take tt.size).take (tt.off p)++[Value.slice none 0 0]++((cs.toList.drop (i*tt.size)).take tt.size).drop (tt.off p+s.size)=(cs.toList.drop (i*tt.size)).take tt.size:=by
     grind [nV,oA]
    rw[hcs] at p4
    have hw2:=g1.hw.write (w':=w) (k':=.dA e2 bs2 tt xs i u) hb1 rfl (fun _ _=>rfl) ⟨h1,h2,h3,h4,h5,k3,g,cap,cs,z1,z2,z3,z4,z5,z6,z7,p4,z9⟩
    refine⟨_,⟨g1.len,g1.tm,hw2,g1.df⟩,{x1 with own:=?_ }⟩
    intro g' hg'
    exact x1.own g' (cQ.rC hb1 hg')
   grind
  grind
 grind
def Env.tr(E:Env)(b d:Nat)(v:Value)(t:Ty):Env:=
 {E with P:=fun c=>if c=d then E.P b else E.P c,g:=fun c=>if c=d then E.g b else E.g c,sv:=fun c=>if c=d then v else E.sv c,bt:=fun c=>if c=d then t else E.bt c}
theorem Env.Kb{E:Env}{b d:Nat}{v:Value}{t:Ty}{ids:List Nat}(h:d∉ids):E.on (E.tr b d v t) ids:=fun c hc=>by
 grind [Env.tr]
def tB(c:Nat)(p:Path)(d:Nat)(σ:St):Option St:=
 match iL σ.hp c with
 |
  some (.var tt v)=>match v.get p,v.set p (.own d) with
  |
   some (.nI b 0 len),some u=>match iL σ.hp b with
   |some (.row e bs t xs)=>if σ.i9 d&&u.dW tt&&ot tt p&& !Nat.beq c b then some {σ with hp:=((σ.hp.set b none).set d (some (.row e bs t (xs.take len)))).set c (some (.var tt u))} else none
   |_=>none
  |_,_=>none
 |_=>none
theorem Wk.tB{gl:Ctx}{c:Nat}{p:Path}{d:Nat}{σ σ':St}(h:Ax.tB c p d σ=some σ'):Wk gl σ σ':=by
 intro E a w hg
 unfold Ax.tB at h
 split at h
 case h_2=>cases h
 rename_i tt v hc
 have hbk:=dS σ.hp c _ hc
 split at h
 case h_2=>cases h
 rename_i b len u ao9 bH
 split at h
 case h_2=>cases h
 rename_i e bs t xs hb
 have hbr:=dS σ.hp b _ hb
 split at h
 case isFalse=>cases h
 rename_i hk
 cases h
 simp only[bM] at hk
 obtain⟨⟨⟨k1,k2⟩,k3⟩,k4⟩:=hk
 have hcb:c≠b:=fun e'=>by grind
 have hfr:=St.gF k1
 have hids:=pw.1 hfr.1
 have hdb:d≠b:=fun e'=>hfr.2.1 _ (e'▸hbr)
 have hdc:d≠c:=fun e'=>hfr.2.1 _ (e'▸hbk)
 have hdv:d∉v.ids:=hids.2.2 c _ hbk
 have h16:16≤d:=hfr.2.2
 obtain⟨r1,r2,g,cs,e',r3,r4,r5⟩:=hg.hw.eH c _ hbk
 obtain⟨s1,s2,s3,s4,ra,cap,s5,s6,s7⟩:=hg.hw.eH b _ hbr
 have hva:=sK k3
 obtain⟨s,q1,q2,q3,q4⟩:=AV.i7 r5 r2 hva ao9
 have hs1:s.size=1:=AV.gV q2▸rfl
 obtain⟨a1,c1,n1,t1,z1,z2,z3,z4,a',z5,z6⟩:=q4
 rw[s5] at z2;cases z2
 have za:a'=ra:=by
  rcases z6 with z6|z6
  ·grind
  grind [Addr.jY]
 rw[za] at z5
 have hlen:(xs.take len).length=len:=by grind
 have kp:di E w (E.tr b d (.slice ra len cap) (.arr (xs.take len).length t)) w:=⟨fun _ _=>rfl,fun _ h=>h⟩
 have hEh:∀i j,(i=d→j=b)→(i≠d→j=i)→∀x,(E.tr b d (.slice ra len cap) (.arr (xs.take len).length t)).has i x↔E.has j x:=by
  grind [Env.has,Env.tr]
 have src:∀(i:Nat)(k':aT),((((σ.hp.set b none).set d (some (.row e bs t (xs.take len)))).set c (some (.var tt u)))[i]? =some (some k'))→
  (i=c∧k'= .var tt u)∨(i=d∧k'= .row e bs t (xs.take len))∨(i≠c∧i≠d∧i≠b∧σ.hp[i]? =some (some k')):=by
  grind
 have gOf:∀(i:Nat)(k':aT),((((σ.hp.set b none).set d (some (.row e bs t (xs.take len)))).set c (some (.var tt u)))[i]? =some (some k'))→
  ∃j k0,σ.hp[j]? =some (some k0)∧(∀x,(E.tr b d (.slice ra len cap) (.arr (xs.take len).length t)).has i x↔E.has j x)∧(i=d→j=b)∧(i≠d→j=i):=by
  grind
 refine⟨E.tr b d (.slice ra len cap) (.arr (xs.take len).length t),⟨hg.len,?_,⟨?_,?_,?_,hg.hw.slt,hg.hw.ko kp,?_⟩,RD.mono kp (fun x hx=>Env.Kb (fun hd=>hids.2.1 x hx hd)) hg.df⟩,
  ⟨rfl,Tp.r rfl rfl,rfl,cT _,fun _ _ _=>rfl,fun _ h=>h,fun _ h=>Or.inl h,?_,fun i hi=>by grind [Env.tr]⟩⟩
 ·intro i x hx v hv
  exact RV.mono kp (Env.Kb (fun hd=>hids.1 i x hx hd)) (hg.tm i x hx v hv)
 ·intro i k' hi
  rcases src i k' hi with⟨rfl,rfl⟩|⟨rfl,rfl⟩|⟨e1,e2,e3,e4⟩
  ·have r5':=RC.mono kp (Env.Kb hdv) r5
   have hown:RC (E.tr b d (.slice ra len cap) (.arr (xs.take len).length t)) w (.own d) [.slice ra len cap]:=⟨by simp[Env.tr],ra,len,cap,by simp[Env.tr]⟩
   obtain⟨s',p1,p2,p3,p4⟩:=AV.po hown r5' r2 hva (fun s' hs'=>by grind) bH
   rw[q1] at p1;cases p1
   have z5':List.take s.size (List.drop (tt.off p) cs.toList)= [.slice ra len cap]:=by grind
   have hcs:cs.toList.take (tt.off p)++[Value.slice ra len cap]++cs.toList.drop (tt.off p+s.size)=cs.toList:=by
    grind [nV,oA]
   rw[hcs] at p4
   exact⟨by simpa[Env.tr,Ne.symm hdc] using r1,k2,g,cs,e',by simpa[Env.tr,Ne.symm hdc] using r3,r4,p4⟩
  ·refine⟨by simp[Env.tr],by rw[hlen];exact cS (je _ (by omega)) s2,by grind,s4,ra,cap,by simp[Env.tr,hlen],s6,?_⟩
   rcases s7 with⟨x1,x2,x3⟩|⟨g',c',x1,x2,x3,x4,x5,x6⟩
   ·grind [Env.tr]
   ·refine Or.inr ⟨g',c',by simpa[Env.tr] using x1,x2,x3,x4,by grind,?_⟩
    have:=bL.take (fun vs x=>Rel.len) len x6
    rw[th,rj (je _ (by omega))] at this
    rw[hlen];trivial
  ·exact RB.mono kp (Env.Kb (by grind)) (fun _ _=>rfl) (fun _ g hp=>by simpa[Env.tr,e2] using hp) (hg.hw.eH i k' e4)
 ·intro i j k2 k3 g' hi hj g1 g2
  obtain⟨i',k4,e1,e2,e3,e4⟩:=gOf i k2 hi
  obtain⟨j',k5,f1,f2,f3,f4⟩:=gOf j k3 hj
  have hij:=hg.hw.gR i' j' k4 k5 g' e1 f1 ((e2 _).1 g1) ((f2 _).1 g2)
  grind
 ·intro i k' g' hi hgi hs
  obtain⟨i',k4,e1,e2,_,_⟩:=gOf i k' hi
  exact hg.hw.fS i' k4 g' e1 ((e2 _).1 hgi) hs
 ·intro i k' g' hi hgi
  obtain⟨i',k4,e1,e2,_,_⟩:=gOf i k' hi
  rcases(e2 _).1 (Or.inr hgi) with q|q
  ·exact cQ.below hg.hw ⟨i',k4,e1,Or.inl q⟩
  ·exact hg.hw.w8 i' k4 g' e1 q
 ·rintro g' ⟨i,k',hi,hgi⟩
  obtain⟨i',k4,e1,e2,_,_⟩:=gOf i k' hi
  exact Or.inl ⟨i',k4,e1,(e2 _).1 hgi⟩
def uW(c:Nat)(p:Path)(σ:St):Option St:=
 match iL σ.hp c with
 |
  some (.var tt v)=>match tt.sub p,v.get p with
  |
   some u,some _=>match v.set p (.gM u) with
   |some v'=>if v'.dW tt&&ot tt p then some {σ with hp:=σ.hp.set c (some (.var tt v'))} else none
   |none=>none
  |_,_=>none
 |_=>none
theorem Wk.uW{gl:Ctx}{c:Nat}{p:Path}{σ σ':St}(h:Ax.uW c p σ=some σ'):Wk gl σ σ':=by
 intro E a w hg
 unfold Ax.uW at h
 split at h
 case h_2=>cases h
 rename_i tt v hc
 have hbk:=dS σ.hp c _ hc
 split at h
 case h_2=>cases h
 rename_i u x0 hu ao9
 split at h
 case h_2=>cases h
 rename_i v' bH
 split at h
 case isFalse=>cases h
 rename_i hk
 cases h
 simp only[bM] at hk
 obtain⟨r1,r2,g,cs,e,r3,r4,r5⟩:=hg.hw.eH c _ hbk
 have hva:=sK hk.2
 obtain⟨s,q1,q2,q3,q4⟩:=AV.i7 r5 r2 hva ao9
 rw[hu] at q1;cases q1
 have hj:RC E w (.gM u) (List.take u.size (List.drop (tt.off p) cs.toList)):=by
  refine⟨by grind,fun x hx=>RC.one r5 x (List.mem_of_mem_drop (List.mem_of_mem_take hx))⟩
 obtain⟨s',p1,p2,p3,p4⟩:=AV.po hj r5 r2 hva (fun s' hs'=>by grind) bH
 rw[hu] at p1;cases p1
 have hcs:cs.toList.take (tt.off p)++List.take u.size (List.drop (tt.off p) cs.toList)++cs.toList.drop (tt.off p+u.size)=cs.toList:=by
  grind [oA]
 rw[hcs] at p4
 have hw:=hg.hw.write (w':=w) (k':=.var tt v') hbk rfl (fun _ _=>rfl) ⟨r1,hk.1,g,cs,e,r3,r4,p4⟩
 exact⟨E,hg.carry ⟨fun _ _=>rfl,fun _ h=>h⟩ (fun _ _=>⟨rfl,rfl,rfl⟩) hw,{Ext.refl (md:=gl.md) (cQ σ.hp E) E w with own:=fun g hg'=>Or.inl (cQ.set hbk hg')}⟩
inductive Gh where
 |Ft (ts bs:List Nat)
 |NJ (s:Nat) (t:Ty)
 |Is (b:Nat)
 |freeze (b:Nat) (t:Ty)
 |ren (b b':Nat)
 |DD (s b:Nat) (e:TypeId) (bs:Nat) (t:Ty)
 |zU (c:Nat) (p:Path) (b:Nat) (e:TypeId) (bs:Nat) (t:Ty)
 |oH (b:Nat)
 |Mn (b:Nat)
 |NK (b:Nat) (e:TypeId)
 |uX (b:Nat)
 |qJ (b:Nat)
 |tB (c:Nat) (p:Path) (d:Nat)
 |iY (b:Nat)
 |ym (b:Nat)
 |uW (c:Nat) (p:Path)
def Gh.go(σ:St):Gh→Option St
 | .Ft ts bs=>some ⟨xx ts 0 σ.tm,BO bs 0 σ.hp,σ.df⟩
 |
  .NJ s t=>match σ.tm[s]? with
  |
   some x=>match x.de t with
   |some y=>some {σ with tm:=σ.tm.set s (.val t y)}
   |none=>none
  |none=>none
 |
  .Is b=>match σ.hp[b]? with
  |
   some (some (.var t v))=>match v.de t with
   |some y=>some {σ with hp:=σ.hp.set b (some (.var t (.val t y)))}
   |none=>none
  |
   some (some (.dA e bs t xs i v))=>match v.de t with
   |some y=>some {σ with hp:=σ.hp.set b (some (.dA e bs t xs i (.val t y)))}
   |none=>none
  |some (some (.qN k v rest (some _)))=>some {σ with hp:=σ.hp.set b (some (.qN k v rest none))}
  |_=>none
 | .freeze b t=>Ax.freeze b t σ
 | .ren b b'=>rename b b' σ
 | .DD s b e bs t=>Ax.DD s b e bs t σ
 | .zU c p b e bs t=>Ax.zU c p b e bs t σ
 | .oH b=>Ax.oH b σ
 | .Mn b=>Ax.Mn b σ
 | .NK b e=>Ax.NK b e σ
 | .uX b=>Ax.uX b σ
 | .qJ b=>Ax.qJ b σ
 | .tB c p d=>Ax.tB c p d σ
 | .iY b=>ug b σ
 | .ym b=>sc b σ
 | .uW c p=>Ax.uW c p σ
def XQ:List Gh→St→Option St
 |[],σ=>some σ
 |
  g::l,σ=>match g.go σ with
  |some σ'=>XQ l σ'
  |none=>none
theorem Gh.ok{gl:Ctx}{g:Gh}{σ σ':St}(h:g.go σ=some σ'):Wk gl σ σ':=by
 cases g with
 |Ft ts bs=>cases h;exact Wk.Ft gl σ ts bs
 |
  NJ s t=>
  grind [Gh.go,Wk.NJ]
 |
  Is b=>
  grind [Gh.go,Wk.Is,Wk.aiS,Wk.mcl]
 |freeze b t=>exact Wk.freeze h
 |ren b b'=>exact Wk.rename h
 |DD s b e bs t=>exact Wk.DD h
 |zU c p b e bs t=>exact Wk.zU h
 |oH b=>exact Wk.oH h
 |Mn b=>exact Wk.Mn h
 |NK b e=>exact Wk.NK h
 |uX b=>exact Wk.uX h
 |qJ b=>exact Wk.qJ h
 |tB c p d=>exact Wk.tB h
 |iY b=>exact Wk.ug h
 |ym b=>exact Wk.sc h
 |uW c p=>exact Wk.uW h
theorem It{gl:Ctx}:∀{l:List Gh}{σ σ':St},XQ l σ=some σ'→Wk gl σ σ'
 |[],σ,σ',h=>by cases h;exact Wk.refl gl σ
 |
  g::l,σ,σ',h=>by
  simp only[XQ] at h
  split at h
  ·rename_i σ1 h1;exact(Gh.ok h1).trans (It h)
  ·cases h
section
variable{P:Program} {gl:Ctx} {σ:St} {Q:jM→St→Prop}
theorem eR.wk{c:Code}{σ':St}(h:Wk gl σ σ')(hr:eR P gl c σ' Q):eR P gl c σ Q:=by
 intro E a w hg
 obtain⟨E1,g1,x1⟩:=h E a w hg
 refine wpIn_mono (hr E1 a w g1) ?_
 rintro ex a2 w2 ⟨x,σ2,E2,h1,h2,h3,h4⟩
 exact⟨x,σ2,E2,h1,h2,h3,x1.trans h4⟩
theorem eR.post{c:Code}{Q':jM→St→Prop}(hr:eR P gl c σ Q')(hn:∀e σ',e≠.normal→Q' e σ'→Q e σ')(h:∀σ',Q' .normal σ'→∃σ2,Wk gl σ' σ2∧Q .normal σ2):eR P gl c σ Q:=by
 intro E a w hg
 refine wpIn_mono (hr E a w hg) ?_
 rintro ex a2 w2 ⟨x,σ2,E2,h1,h2,h3,h4⟩
 by_cases e:x= .normal
 ·subst e
  obtain⟨σ3,h5,h6⟩:=h σ2 h2
  obtain⟨E3,g3,x3⟩:=h5 E2 a2 w2 h3
  exact⟨.normal,σ3,E3,by cases ex<;>first|exact h1|exact h1.elim,h6,g3,h4.trans x3⟩
 ·exact⟨x,σ2,E2,h1,hn x σ2 e h2,h3,h4⟩
theorem eR.gh{c:Code}(l:List Gh){σ':St}(h:XQ l σ=some σ')(hr:eR P gl c σ' Q):eR P gl c σ Q:=eR.wk (It h) hr
end
structure Cl(gl:Ctx)(Q:jM→St→Prop):Prop where
 n:∀σ σ',Wk gl σ σ'→Q .normal σ'→Q .normal σ
 e:∀i σ σ',Wk gl σ σ'→Q (.exit i) σ'→Q (.exit i) σ
theorem dn{α:Type}{p:Prop}[Decidable p]{k:Option α}{r:α}(h:(if p then k else none)=some r):p∧k=some r:=by
 grind
theorem bind_some{α β:Type}{x:Option α}{f:α→Option β}{r:β}(h:x.bind f=some r):∃y,x=some y∧f y=some r:=by
 cases x<;>grind
inductive dR(β ρ:Type) where
 |aX (b:β)
 |ret (r:ρ)
def rN{α:Type}:List (Nat×α)→List α→List α
 |[],l=>l
 |(i,x)::m,l=>rN m (l.set i x)
def dG:Nat:=18446744073709551616
abbrev aV(n:Int):Int:=IntKind.i64.wrap n
def nth(t:Ty)(xs:List t.den)(i:Int):t.den:=xs.getD i.toNat t.aH
end Go.Ax
namespace Go.Ax
@[reducible] def prod:List Type→Type
 |[]=>Unit
 |t::l=>t×prod l
@[reducible] def kj:List Type→Type
 |[]=>Unit
 |[t]=>t
 |t::u::l=>t×kj (u::l)
def Uz:(l:List Type)→prod l→kj l
 |[],_=>()
 |[_],d=>d.1
 |_::u::l,d=>(d.1,Uz (u::l) d.2)
def vN:(l:List Type)→kj l→prod l
 |[],_=>()
 |[_],d=>(d,())
 |_::u::l,d=>(d.1,vN (u::l) d.2)
theorem no{α:Type}{e:α}{p:Prop}(h:(none:Option α)=some e):p:=by cases h
theorem uY:∀(l:List Type)(d:prod l),vN l (Uz l d)=d
 |[],_=>rfl
 |[_],_=>rfl
 |_::u::l,d=>by show(d.1,vN (u::l) (Uz (u::l) d.2))=d;rw[uY (u::l) d.2]
inductive WG where
 |dX (n:Nat)
 |idx
inductive Sh where
 |val (t:Ty)
 |aM
 |own (b:Nat)
 |nI (b:Nat)
 |mD (b:Nat) (p:List WG)
 |ptr (b:Nat) (p:List WG)
 |dk (t:Ty)
 |mp (b:Nat)
 |ki
 |gX
 |jt
 |kS
 |func (f:FuncId) (fs cs:Sh)
 |Es
 |iface (t:TypeId) (v:Sh)
 |cons (a b:Sh)
 |nil
 |fx0
 |gM (t:Ty)
 |fc (f:FuncId) (t:Ty)
inductive jQ where
 |var (t:Ty) (s:Sh)
 |row (e:TypeId) (bs:Nat) (t:Ty)
 |map (k v:Ty)
 |lp
 |AR
 |tv (t:Ty) (s:Sh)
 |dA (e:TypeId) (bs:Nat) (t:Ty) (s:Sh)
 |eS (e:TypeId) (bs:Nat) (t:Ty) (e2:TypeId)
 |pmap (k t:Ty) (e2:TypeId)
 |qN (k v:Ty)
 |kT (k:Ty) (l:List (k.den×FuncId))
def pH:List WG→List Type→List Type
 |[],l=>l
 | .dX _::p,l=>pH p l
 | .idx::p,l=>Nat::pH p l
def pV:(p:List WG)→{l:List Type}→prod (pH p l)→Path
 |[],_,_=>[]
 | .dX n::p,_,d=>.dX n::pV p d
 | .idx::p,_,d=>.idx d.1::pV p d.2
def pR:(p:List WG)→{l:List Type}→prod (pH p l)→prod l
 |[],_,d=>d
 | .dX _::p,_,d=>pR p d
 | .idx::p,_,d=>pR p d.2
def pG:(p:List WG)→{l:List Type}→Path→prod l→Option (prod (pH p l))
 |[],_,[],d=>some d
 | .dX n::p,_,.dX m::q,d=>if Nat.beq n m then pG p q d else none
 |
  .idx::p,_,.idx i::q,d=>match pG p q d with
  |some e=>some (i,e)
  |none=>none
 |_,_,_,_=>none
theorem Kc:∀{p:List WG}{l:List Type}{q:Path}{d:prod l}{e:prod (pH p l)},pG p q d=some e→pV p e=q∧pR p e=d
 |
  [],l,q,d,e,h=>by
  cases q with
  |nil=>cases(fK h:d=e);trivial
  |cons s q=>trivial
 |
  .dX n::p,l,q,d,e,h=>by
  cases q with
  |nil=>trivial
  |
   cons s q=>
   cases s with
   |
    dX m=>
    obtain⟨hb,h0⟩:=dn h
    have hb:=dm hb
    subst hb
    obtain⟨h1,h2⟩:=Kc (p:=p) h0
    exact⟨by simp only[pV];rw[h1],h2⟩
   |idx i=>trivial
 |
  .idx::p,l,q,d,e,h=>by
  cases q with
  |nil=>simp[pG] at h
  |
   cons s q=>
   cases s with
   |dX m=>simp[pG] at h
   |
    idx i=>
    simp only[pG] at h
    split at h
    ·rename_i e' he
     cases h
     obtain⟨h1,h2⟩:=Kc (p:=p) he
     exact⟨by simp only[pV];rw[h1],h2⟩
    ·cases h
def Sh.H:Sh→List Type→List Type
 | .val t,l=>t.den::l
 | .fc _ t,l=>t.den::l
 | .nI _,l=>Nat::Nat::l
 | .mD _ p,l=>pH p (Nat::Nat::l)
 | .ptr _ p,l=>pH p l
 | .dk t,l=>t.den::l
 | .Es,l=>Nat::l
 | .func _ fs cs,l=>fs.H (cs.H l)
 | .iface _ v,l=>v.H l
 | .cons a b,l=>a.H (b.H l)
 |_,l=>l
def Sh.R:(s:Sh)→{l:List Type}→prod (s.H l)→prod l
 | .val _,_,d=>d.2
 | .fc _ _,_,d=>d.2
 | .nI _,_,d=>d.2.2
 | .mD _ p,_,d=>(pR p d).2.2
 | .ptr _ p,_,d=>pR p d
 | .dk _,_,d=>d.2
 | .Es,_,d=>d.2
 | .func _ fs cs,_,d=>cs.R (fs.R d)
 | .iface _ v,_,d=>v.R d
 | .cons a b,_,d=>b.R (a.R d)
 | .aM,_,d| .own _,_,d| .mp _,_,d| .ki,_,d| .gX,_,d| .jt,_,d| .kS,_,d| .nil,_,d| .gM _,_,d| .fx0,_,d=>d
def Sh.V(y:YC):(s:Sh)→{l:List Type}→prod (s.H l)→AV
 | .val t,_,d=>.val t d.1
 | .fc f t,_,d=>.fc f t d.1
 | .nI b,_,d=>.nI b d.1 d.2.1
 | .mD b p,_,d=>.mD b (pV p d) (pR p d).1 (pR p d).2.1
 | .ptr b p,_,d=>.ptr b (pV p d)
 | .dk t,_,d=>.dk t d.1
 | .func f fs cs,_,d=>.func (.func f) (fs.V y d) (cs.V y (fs.R d))
 | .iface t v,_,d=>.iface t (v.V y d)
 | .cons a b,_,d=>.cons (a.V y d) (b.V y (a.R d))
 | .aM,_,_=>.aM
 | .own b,_,_=>.own b
 | .mp b,_,_=>.mp b
 | .ki,_,_=>.ki
 | .gX,_,_=>.gX
 | .jt,_,_=>.jt
 | .kS,_,_=>.kS
 | .Es,_,d=>.func (.yield d.1) .nil .nil
 | .nil,_,_=>.nil
 | .fx0,_,_=>.fx
 | .gM t,_,_=>.gM t
def uZ{t u:Ty}(h:Ty.same u t=true)(x:u.den):t.den:=Ty.aE h▸x
theorem Bx{t u:Ty}(h:Ty.same u t=true)(x:u.den):AV.val t (uZ h x)= .val u x:=by
 have e:=Ty.aE h
 subst e;rfl
theorem Iu{f:FuncId}{t u:Ty}(h:Ty.same u t=true)(x:u.den):AV.fc f t (uZ h x)= .fc f u x:=by
 have e:=Ty.aE h
 subst e;rfl
theorem Iv{t u:Ty}(h:Ty.same u t=true)(x:u.den):AV.dk t (uZ h x)= .dk u x:=by
 have e:=Ty.aE h
 subst e;rfl
def Sh.G:(s:Sh)→{l:List Type}→AV→prod l→Option (prod (s.H l))
 | .val t,_,.val u x,d=>if h:Ty.same u t=true then some (uZ h x,d) else none
 | .fc f t,_,.fc g u x,d=>if Nat.beq f g then(if h:Ty.same u t=true then some (uZ h x,d) else none) else none
 | .dk t,_,.dk u x,d=>if h:Ty.same u t=true then some (uZ h x,d) else none
 | .nI b,_,.nI c i j,d=>if Nat.beq b c then some (i,j,d) else none
 | .mD b p,l,.mD c q i j,d=>if Nat.beq b c then pG p (l:=Nat::Nat::l) q (i,j,d) else none
 | .ptr b p,_,.ptr c q,d=>if Nat.beq b c then pG p q d else none
 |
  .func f fs cs,_,.func (.func g) xs ys,d=>if Nat.beq f g then(match cs.G ys d with
  |some e=>fs.G xs e
  |none=>none) else none
 | .Es,_,.func (.yield g) .nil .nil,d=>some (g,d)
 | .iface t v,_,.iface u x,d=>if Nat.beq t u then v.G x d else none
 |
  .cons a b,_,.cons x y,d=>match b.G y d with
  |some e=>a.G x e
  |none=>none
 | .aM,_,.aM,d| .ki,_,.ki,d| .gX,_,.gX,d| .jt,_,.jt,d| .kS,_,.kS,d| .nil,_,.nil,d| .fx0,_,.fx,d=>some d
 | .own b,_,.own c,d=>if Nat.beq b c then some d else none
 | .mp b,_,.mp c,d=>if Nat.beq b c then some d else none
 | .gM t,_,.gM u,d=>if Ty.same t u then some d else none
 |_,_,_,_=>none
theorem Sh.A7(y:YC):∀{s:Sh}{l:List Type}{x:AV}{d:prod l}{e:prod (s.H l)},s.G x d=some e→s.V y e=x∧s.R e=d:=by
 intro s
 induction s with
 |
  val t=>
  intro l x d e h
  cases x<;>simp only[Sh.G] at h<;>try cases h
  split at h
  ·rename_i hs;cases h;exact⟨Bx hs _,rfl⟩
  grind
 |
  dk t=>
  intro l x d e h
  cases x<;>simp only[Sh.G] at h<;>try cases h
  split at h
  ·rename_i hs;cases h;exact⟨Iv hs _,rfl⟩
  grind
 |
  fc f t=>
  intro l x d e h
  cases x<;>simp only[Sh.G] at h<;>try cases h
  split at h
  ·rename_i hf
   have:=dm hf;subst this
   split at h
   ·rename_i hs;cases h;exact⟨Iu hs _,rfl⟩
   grind
  grind
 |
  nI b=>
  intro l x d e h
  cases x<;>simp only[Sh.G] at h<;>try cases h
  split at h
  ·rename_i hs;cases h;have:=dm hs;subst this;trivial
  grind
 |
  mD b p=>
  intro l x d e h
  cases x<;>simp only[Sh.G] at h<;>try cases h
  obtain⟨hs,h0⟩:=dn h
  grind [dm,Kc,Sh.V,Sh.R]
 |
  ptr b p=>
  intro l x d e h
  cases x<;>simp only[Sh.G] at h<;>try cases h
  obtain⟨hs,h0⟩:=dn h
  have:=dm hs;subst this
  obtain⟨h1,h2⟩:=Kc h0
  exact⟨by simp only[Sh.V];rw[h1],h2⟩
 |
  func f fs cs ih1 ih2=>
  intro l x d e h
  cases x with
  |
   func g xs ys=>
   cases g with
   |
    func g=>
    simp only[Sh.G] at h
    split at h
    ·rename_i hs
     have:=dm hs;subst this
     split at h
     ·rename_i e' he
      obtain⟨a1,a2⟩:=ih2 he
      obtain⟨b1,b2⟩:=ih1 h
      grind [Sh.V,Sh.R]
     grind
    grind
   |_=>trivial
  |_=>trivial
 |
  iface t v ih=>
  intro l x d e h
  cases x<;>simp only[Sh.G] at h<;>try cases h
  obtain⟨hs,h0⟩:=dn h
  have:=dm hs;subst this
  obtain⟨b1,b2⟩:=ih h0
  exact⟨by simp only[Sh.V];rw[b1],b2⟩
 |
  cons a b ih1 ih2=>
  intro l x d e h
  cases x<;>simp only[Sh.G] at h<;>try cases h
  split at h
  ·rename_i e' he
   obtain⟨a1,a2⟩:=ih2 he
   obtain⟨b1,b2⟩:=ih1 h
   grind [Sh.V,Sh.R]
  grind
 |
  own b=>
  intro l x d e h
  cases x<;>simp only[Sh.G] at h<;>try cases h
  split at h
  ·rename_i hs;cases h;have:=dm hs;subst this;trivial
  grind
 |
  mp b=>
  intro l x d e h
  cases x<;>simp only[Sh.G] at h<;>try cases h
  split at h
  ·rename_i hs;cases h;have:=dm hs;subst this;trivial
  grind
 |
  gM t=>
  intro l x d e h
  cases x<;>simp only[Sh.G] at h<;>try cases h
  split at h
  ·rename_i hs;cases h;have:=Ty.aE hs;subst this;trivial
  grind
 |
  Es=>
  intro l x d e h
  cases x with
  |
   func g xs ys=>
   cases g with
   |yield g=>cases xs<;>cases ys<;>simp only[Sh.G] at h<;>cases h;trivial
   |_=>trivial
  |_=>trivial
 |_=>intro l x d e h;cases x<;>simp only[Sh.G] at h<;>cases h<;>exact⟨rfl,rfl⟩
def jQ.H:jQ→List Type→List Type
 | .var _ s,l=>s.H l
 | .row _ _ t,l=>List t.den::l
 | .map k v,l=>List (k.den×v.den)::l
 | .lp,l=>YC::Nat::l
 | .AR,l=>l
 | .tv _ s,l=>Nat::s.H l
 | .dA _ _ t s,l=>List t.den::Nat::s.H l
 | .eS _ _ t _,l=>List t.den::l
 | .pmap k t _,l=>List (k.den×t.den)::l
 | .qN k v,l=>List (k.den×v.den)::l
 | .kT _ _,l=>l
def jQ.R:(s:jQ)→{l:List Type}→prod (s.H l)→prod l
 | .var _ s,_,d=>s.R d
 | .row _ _ _,_,d=>d.2
 | .map _ _,_,d=>d.2
 | .lp,_,d=>d.2.2
 | .AR,_,d=>d
 | .tv _ s,_,d=>s.R d.2
 | .dA _ _ _ s,_,d=>s.R d.2.2
 | .eS _ _ _ _,_,d=>d.2
 | .pmap _ _ _,_,d=>d.2
 | .qN _ _,_,d=>d.2
 | .kT _ _,_,d=>d
def fmV{k:Ty}:List (k.den×FuncId)→List (k.den×AV)
 |[]=>[]
 |x::l=>(x.1,.func (.func x.2) .nil .nil)::fmV l
def SR{k:Ty}:List (k.den×AV)→List (k.den×FuncId)→Bool
 |[],[]=>true
 |
  x::l,z::m=>(match x.2 with
  | .func (.func f) .nil .nil=>Nat.beq f z.2
  |_=>false)&&bN k x.1 z.1&&SR l m
 |_,_=>false
theorem Kd{k:Ty}(hk:k.keyed=true):∀{l:List (k.den×AV)}{m:List (k.den×FuncId)},SR l m=true→fmV m=l
 |[],[],_=>rfl
 |[],_::_,h=>by cases h
 |_::_,[],h=>by cases h
 |
  x::l,z::m,h=>by
  simp only[SR,bM] at h
  obtain⟨⟨h1,h2⟩,h3⟩:=h
  have e:=(dQ hk _ _).1 h2
  obtain⟨x1,x2⟩:=x
  simp only at e h1
  split at h1
  ·have:=dm h1
   subst this;subst e
   simp only[fmV]
   rw[Kd hk h3]
  ·cases h1
def jQ.V(y:YC):(s:jQ)→{l:List Type}→prod (s.H l)→aT
 | .var t s,_,d=>.var t (s.V y d)
 | .row e bs t,_,d=>.row e bs t d.1
 | .map k v,_,d=>.map k v d.1
 | .lp,_,d=>.lp d.1 d.2.1
 | .AR,_,_=>.AR
 | .tv t s,_,d=>.tv d.1 t (s.V y d.2)
 | .dA e bs t s,_,d=>.dA e bs t d.1 d.2.1 (s.V y d.2.2)
 | .eS e bs t e2,_,d=>.eS e bs t d.1 e2 none
 | .pmap k t e2,_,d=>.pmap k t d.1 e2 none
 | .qN k v,_,d=>.qN k v d.1 none
 | .kT k l,_,_=>.kT k (fmV l)
def NL{t u:Ty}(h:Ty.same u t=true)(x:List u.den):List t.den:=Ty.aE h▸x
def NN{t u t' u':Ty}(h:Ty.same u t=true)(h':Ty.same u' t'=true)(x:List (u.den×u'.den)):List (t.den×t'.den):=Ty.aE h▸Ty.aE h'▸x
def aaz{t u:Ty}(h:Ty.same u t=true)(x:List (u.den×AV)):List (t.den×AV):=Ty.aE h▸x
def jQ.G:(s:jQ)→{l:List Type}→aT→prod l→Option (prod (s.H l))
 | .var t s,_,.var u x,d=>if Ty.same u t then s.G x d else none
 | .row e bs t,_,.row e' bs' u xs,d=>if Nat.beq e e'&&Nat.beq bs bs' then(if h:Ty.same u t=true then some (NL h xs,d) else none) else none
 | .map k v,_,.map k' v' es,d=>if h:Ty.same k' k=true then(if h':Ty.same v' v=true then some (NN h h' es,d) else none) else none
 | .AR,_,.AR,d=>some d
 | .lp,_,.lp y j,d=>some (y,j,d)
 |
  .tv t s,_,.tv g u x,d=>if Ty.same u t then(match s.G x d with
  |some r=>some (g,r)
  |none=>none) else none
 |
  .dA e bs t s,_,.dA e' bs' u xs i x,d=>if Nat.beq e e'&&Nat.beq bs bs' then(if h:Ty.same u t=true then(match s.G x d with
  |some r=>some (NL h xs,i,r)
  |none=>none) else none) else none
 | .eS e bs t e2,_,.eS e' bs' u xs e2' none,d=>if Nat.beq e e'&&Nat.beq bs bs'&&Nat.beq e2 e2' then(if h:Ty.same u t=true then some (NL h xs,d) else none) else none
 | .pmap k t e2,_,.pmap k' t' es e2' none,d=>if Nat.beq e2 e2' then(if h:Ty.same k' k=true then(if h':Ty.same t' t=true then some (NN h h' es,d) else none) else none) else none
 | .qN k v,_,.qN k' v' es none,d=>if h:Ty.same k' k=true then(if h':Ty.same v' v=true then some (NN h h' es,d) else none) else none
 | .kT k l,_,.kT k' l',d=>if h:Ty.same k' k=true then(if k.keyed&&SR (aaz h l') l then some d else none) else none
 |_,_,_,_=>none
theorem jQ.A7(y:YC){s:jQ}{l:List Type}{x:aT}{d:prod l}{e:prod (s.H l)}(h:s.G x d=some e):s.V y e=x∧s.R e=d:=by
 cases s with
 |
  var t s=>
  cases x<;>simp only[jQ.G] at h<;>try cases h
  obtain⟨hs,h0⟩:=dn h
  have:=Ty.aE hs;subst this
  obtain⟨h1,h2⟩:=Sh.A7 y h0
  exact⟨by simp only[jQ.V];rw[h1],h2⟩
 |
  row e bs t=>
  cases x<;>simp only[jQ.G] at h<;>try cases h
  split at h
  ·rename_i hs
   simp only[bM] at hs
   have e1:=dm hs.1;subst e1
   have e2:=dm hs.2;subst e2
   split at h
   ·rename_i ht
    cases h
    have e3:=Ty.aE ht;subst e3
    trivial
   grind
  grind
 |
  map k v=>
  cases x<;>simp only[jQ.G] at h<;>try cases h
  split at h
  ·rename_i hs
   split at h
   ·rename_i ht
    cases h
    have e1:=Ty.aE hs;subst e1
    have e3:=Ty.aE ht;subst e3
    trivial
   grind
  grind
 |AR=>cases x<;>simp only[jQ.G] at h<;>cases h;trivial
 |lp=>cases x<;>simp only[jQ.G] at h<;>cases h;trivial
 |
  tv t s=>
  cases x<;>simp only[jQ.G] at h<;>try cases h
  obtain⟨hs,h0⟩:=dn h
  have:=Ty.aE hs;subst this
  split at h0
  ·rename_i r hr
   cases h0
   obtain⟨h1,h2⟩:=Sh.A7 y hr
   exact⟨by simp only[jQ.V];rw[h1],h2⟩
  grind
 |
  dA e0 bs t s=>
  cases x with
  |
   dA e' bs' u xs i v=>
   simp only[jQ.G] at h
   obtain⟨hs,h0⟩:=dn h
   clear h
   simp only[bM] at hs
   have e1:=dm hs.1;subst e1
   have e2:=dm hs.2;subst e2
   by_cases ht:Ty.same u t=true
   ·rw[dif_pos ht] at h0
    cases hr:s.G v d with
    |none=>grind
    |
     some r=>
     rw[hr] at h0
     cases h0
     have e3:=Ty.aE ht;subst e3
     obtain⟨g1,g2⟩:=Sh.A7 y hr
     exact⟨by simp only[jQ.V];rw[g1];rfl,g2⟩
   grind
  |_=>trivial
 |
  eS e bs t e2=>
  cases x with
  |
   eS e' bs' u xs e2' f=>
   cases f with
   |some f=>trivial
   |
    none=>
    simp only[jQ.G] at h
    obtain⟨hs,h0⟩:=dn h
    clear h
    simp only[bM] at hs
    have e1:=dm hs.1.1;subst e1
    have e2:=dm hs.1.2;subst e2
    have e3:=dm hs.2;subst e3
    by_cases ht:Ty.same u t=true
    ·rw[dif_pos ht] at h0
     cases h0
     have e3:=Ty.aE ht;subst e3
     trivial
    grind
  |_=>trivial
 |
  pmap k t e2=>
  cases x with
  |
   pmap k' t' es e2' f=>
   cases f with
   |some f=>trivial
   |
    none=>
    simp only[jQ.G] at h
    obtain⟨hs,h0⟩:=dn h
    clear h
    have e3:=dm hs;subst e3
    by_cases ht:Ty.same k' k=true
    ·rw[dif_pos ht] at h0
     by_cases ht':Ty.same t' t=true
     ·rw[dif_pos ht'] at h0
      cases h0
      have e3:=Ty.aE ht;subst e3
      have e4:=Ty.aE ht';subst e4
      trivial
     grind
    grind
  |_=>trivial
 |
  qN k v=>
  cases x with
  |
   qN k' v' es c=>
   cases c with
   |some c=>trivial
   |
    none=>
    simp only[jQ.G] at h
    by_cases ht:Ty.same k' k=true
    ·rw[dif_pos ht] at h
     by_cases ht':Ty.same v' v=true
     ·rw[dif_pos ht'] at h
      cases h
      have e3:=Ty.aE ht;subst e3
      have e4:=Ty.aE ht';subst e4
      trivial
     grind
    grind
  |_=>trivial
 |
  kT k l=>
  cases x with
  |
   kT k' l'=>
   simp only[jQ.G] at h
   by_cases ht:Ty.same k' k=true
   ·rw[dif_pos ht] at h
    split at h
    ·rename_i hc
     cases h
     simp only[bM] at hc
     have e3:=Ty.aE ht;subst e3
     refine⟨?_,rfl⟩
     show aT.kT _ (fmV l)=_
     rw[Kd hc.1 hc.2]
     rfl
    grind
   grind
  |_=>trivial
def XR:List (Nat×Sh)→List Type→List Type
 |[],l=>l
 |(_,s)::m,l=>s.H (XR m l)
def tmV(y:YC):(m:List (Nat×Sh))→{l:List Type}→prod (XR m l)→List (Nat×AV)
 |[],_,_=>[]
 |(i,s)::m,_,d=>(i,s.V y d)::tmV y m (s.R d)
def tmX:(m:List (Nat×Sh))→{l:List Type}→prod (XR m l)→prod l
 |[],_,d=>d
 |(_,s)::m,_,d=>tmX m (s.R d)
def tmG:(m:List (Nat×Sh))→{l:List Type}→List AV→prod l→Option (prod (XR m l))
 |[],_,_,d=>some d
 |
  (i,s)::m,_,tm,d=>match tm[i]? with
  |
   some x=>match tmG m tm d with
   |some e=>s.G x e
   |none=>none
  |none=>none
theorem NO(y:YC):∀{m:List (Nat×Sh)}{l:List Type}{tm:List AV}{d:prod l}{e:prod (XR m l)},tmG m tm d=some e→(∀i x,(i,x)∈tmV y m e→tm[i]? =some x)∧tmX m e=d
 |[],l,tm,d,e,h=>by cases h;exact⟨(fun i x hx=>by cases hx),rfl⟩
 |
  (i,s)::m,l,tm,d,e,h=>by
  simp only[tmG] at h
  split at h
  ·rename_i x hx
   split at h
   ·rename_i e' he
    obtain⟨h1,h2⟩:=NO y he
    obtain⟨g1,g2⟩:=Sh.A7 y h
    refine⟨?_,by simp only[tmX];grind⟩
    intro j z hz
    simp only[tmV,eJ,iX] at hz
    grind
   grind
  grind
def lQ:List (Nat×jQ)→List Type→List Type
 |[],l=>l
 |(_,s)::m,l=>s.H (lQ m l)
def tC(y:YC):(m:List (Nat×jQ))→{l:List Type}→prod (lQ m l)→List (Nat×aT)
 |[],_,_=>[]
 |(i,s)::m,_,d=>(i,s.V y d)::tC y m (s.R d)
def XS:(m:List (Nat×jQ))→{l:List Type}→prod (lQ m l)→prod l
 |[],_,d=>d
 |(_,s)::m,_,d=>XS m (s.R d)
def hpG:(m:List (Nat×jQ))→{l:List Type}→List (Option aT)→prod l→Option (prod (lQ m l))
 |[],_,_,d=>some d
 |
  (i,s)::m,_,hp,d=>match hp[i]? with
  |
   some (some x)=>match hpG m hp d with
   |some e=>s.G x e
   |none=>none
  |_=>none
theorem Iw(y:YC):∀{m:List (Nat×jQ)}{l:List Type}{hp:List (Option aT)}{d:prod l}{e:prod (lQ m l)},hpG m hp d=some e→(∀i x,(i,x)∈tC y m e→hp[i]? =some (some x))∧XS m e=d
 |[],l,hp,d,e,h=>by cases h;exact⟨(fun i x hx=>by cases hx),rfl⟩
 |
  (i,s)::m,l,hp,d,e,h=>by
  simp only[hpG] at h
  split at h
  ·rename_i x hx
   split at h
   ·rename_i e' he
    obtain⟨h1,h2⟩:=Iw y he
    obtain⟨g1,g2⟩:=jQ.A7 y h
    refine⟨?_,by simp only[XS];grind⟩
    intro j z hz
    simp only[tC,eJ,iX] at hz
    grind
   grind
  grind
def xJ:List Sh→List Type→List Type
 |[],l=>l
 |s::m,l=>s.H (xJ m l)
def DE(y:YC):(m:List Sh)→{l:List Type}→prod (xJ m l)→List AV
 |[],_,_=>[]
 |s::m,_,d=>s.V y d::DE y m (s.R d)
def DF:(m:List Sh)→{l:List Type}→prod (xJ m l)→prod l
 |[],_,d=>d
 |s::m,_,d=>DF m (s.R d)
def WH:(m:List Sh)→{l:List Type}→List AV→prod l→Option (prod (xJ m l))
 |[],_,[],d=>some d
 |
  s::m,_,x::xs,d=>match WH m xs d with
  |some e=>s.G x e
  |none=>none
 |_,_,_,_=>none
theorem DG(y:YC):∀{m:List Sh}{l:List Type}{xs:List AV}{d:prod l}{e:prod (xJ m l)},WH m xs d=some e→DE y m e=xs∧DF m e=d
 |
  [],l,xs,d,e,h=>by
  cases xs with
  |nil=>cases h;trivial
  |cons _ _=>trivial
 |
  s::m,l,xs,d,e,h=>by
  cases xs with
  |nil=>simp[WH] at h
  |
   cons x xs=>
   simp only[WH] at h
   split at h
   ·rename_i e' he
    obtain⟨h1,h2⟩:=DG y he
    obtain⟨g1,g2⟩:=Sh.A7 y h
    exact⟨by simp only[DE];rw[g1,g2,h1],by simp only[DF];rw[g2,h2]⟩
   ·cases h
structure SS where
 nt:Nat
 nh:Nat
 tm:List (Nat×Sh)
 hp:List (Nat×jQ)
 df:List Sh
def SS.H(S:SS):List Type:=XR S.tm (lQ S.hp (xJ S.df []))
@[reducible] def SS.T (S:SS):Type:=kj S.H
def fu:List (Nat×aT)→List (Nat×Option aT)
 |[]=>[]
 |(i,k)::l=>(i,some k)::fu l
theorem xm{i:Nat}{k:Option aT}:∀{l:List (Nat×aT)},(i,k)∈fu l→∃b,k=some b∧(i,b)∈l
 |[],h=>by cases h
 |
  (j,b)::l,h=>by
  simp only[fu,eJ,iX] at h
  rcases h with⟨rfl,rfl⟩|h
  ·grind
  ·obtain⟨b',e,hm⟩:=xm h
   exact⟨b',e,dF _ hm⟩
def SS.qW(S:SS)(y:YC)(d:prod S.H):St:=
 ⟨rN (tmV y S.tm d) (List.replicate S.nt .bot),rN (fu (tC y S.hp (Ax.tmX S.tm d))) (List.replicate S.nh none),DE y S.df (XS S.hp (Ax.tmX S.tm d))⟩
def SS.st(S:SS)(y:YC)(t:S.T):St:=S.qW y (vN S.H t)
def SS.get(S:SS)(σ:St):Option S.T:=
 if Nat.beq σ.tm.length S.nt&&Nat.beq σ.hp.length S.nh then(match WH S.df (l:=[]) σ.df () with
  |
   some d1=>match hpG S.hp σ.hp d1 with
   |
    some d2=>match tmG S.tm σ.tm d2 with
    |some d3=>some (Uz S.H d3)
    |none=>none
   |none=>none
  |none=>none) else none
theorem tY{α:Type}:∀{l:List (Nat×α)}{m:List α},(rN l m).length=m.length
 |[],_=>rfl
 |(i,x)::l,m=>by rw[rN,tY,cK]
theorem qg{α:Type}{i:Nat}{x:α}:∀{l:List (Nat×α)}{m:List α},(rN l m)[i]? =some x→(i,x)∈l∨m[i]? =some x
 |[],_,h=>Or.inr h
 |
  (j,z)::l,m,h=>by
  rw[rN] at h
  rcases qg h with h|h
  ·exact Or.inl (dF _ h)
  ·rw[fR] at h
   split at h
   ·rename_i e
    split at h
    ·cases h;subst e;exact Or.inl (dx ..)
    ·cases h
   ·exact Or.inr h
theorem Wk.sub{gl:Ctx}{σ σ':St}(hl:σ'.tm.length=σ.tm.length)(ht:∀(i:Nat)(x:AV),σ'.tm[i]? =some x→x= .bot∨σ.tm[i]? =some x)
 (hh:∀(b:Nat)(k:aT),σ'.hp[b]? =some (some k)→σ.hp[b]? =some (some k)) (hd:σ'.df=σ.df):Wk gl σ σ':=by
 intro E a w h
 refine⟨E,⟨by rw[hl];exact h.len,?_,h.hw.less hh,by rw[hd];exact h.df⟩,{Ext.refl (cQ σ.hp E) E w with own:=?_ }⟩
 ·intro i x hx v hv
  rcases ht i x hx with e|e
  ·subst e;trivial
  ·exact h.tm i x e v hv
 ·rintro g ⟨b,k,hb,hg⟩
  exact Or.inl ⟨b,k,hh b k hb,hg⟩
theorem SS.i7{gl:Ctx}{S:SS}{y:YC}{σ:St}{t:S.T}(h:S.get σ=some t):Wk gl σ (S.st y t):=by
 unfold SS.get at h
 split at h
 ·rename_i hc
  simp only[bM] at hc
  have l1:=dm hc.1
  have l2:=dm hc.2
  split at h
  ·rename_i d1 h1
   split at h
   ·rename_i d2 h2
    split at h
    ·rename_i d3 h3
     cases h
     have e0:S.st y (Uz S.H d3)=S.qW y d3:=congrArg (S.qW y) (uY S.H d3)
     refine Eq.mpr (congrArg (Wk gl σ) e0) ?_
     obtain⟨a1,a2⟩:=DG y h1
     obtain⟨b1,b2⟩:=Iw y h2
     obtain⟨c1,c2⟩:=NO y h3
     refine Wk.sub ?_ ?_ ?_ ?_
     ·grind [SS.qW,tY]
     ·intro i x hx
      simp only[SS.qW] at hx
      rcases qg hx with hx|hx<;>grind
     ·intro b k hk
      simp only[SS.qW] at hk
      rcases qg hk with hk|hk
      ·grind [xm]
      grind
     grind [SS.qW]
    grind
   grind
  grind
 grind
end Go.Ax
namespace Go.Ax
inductive Nd where
 |frz (b:Nat) (t:Ty)
 |E8 (c b:Nat)
 |own (c:Nat) (p:Path)
 |pur
def AV.owned:AV→Option Nat
 | .own b| .nI b _ _| .mD b _ _ _| .mp b=>some b
 |
  .cons a b=>match a.owned with
  |some c=>some c
  |none=>b.owned
 |_=>none
def aiM:Path→Path
 | .dX n::p=>.dX (n+1)::p
 |p=>p
def Iy:List Nd→List Nd
 |[]=>[]
 | .own c p::l=>.own c (aiM p)::Iy l
 |n::l=>n::Iy l
def NP:List Nd→List Nd
 |[]=>[]
 | .own c p::l=>.own c (.dX 0::p)::NP l
 |n::l=>n::NP l
def qK:Sh→AV→List Nd
 |
  .val t,x=>match x.owned with
  |some b=>[.frz b t]
  |
   none=>match x with
   | .val _ _=>[]
   |_=>[.pur]
 | .dk t,.ptr b _=>[.frz b t]
 | .own c,.own b=>[.E8 c b]
 | .own c,.aM=>[.own c []]
 | .ptr c _,.ptr b _=>[.E8 c b]
 | .nI c,.nI b _ _=>[.E8 c b]
 | .mD c _,.mD b _ _ _=>[.E8 c b]
 | .mp c,.mp b=>[.E8 c b]
 | .cons a b,.cons x y=>NP (qK a x)++Iy (qK b y)
 | .func _ a b,.func _ x y=>qK a x++qK b y
 | .iface _ a,.iface _ x=>qK a x
 |_,_=>[]
def Ke:jQ→aT→List Nd
 | .var _ s,.var _ x=>qK s x
 | .tv _ s,.tv _ _ x=>qK s x
 | .dA _ _ _ s,.dA _ _ _ _ _ x=>qK s x
 | .qN _ _,.qN _ _ _ (some _)=>[.pur]
 |_,_=>[]
def lkN{α:Type}:List (Nat×α)→Nat→Option α
 |[],_=>none
 |(i,x)::l,j=>if Nat.beq i j then some x else lkN l j
def Kf:List Nd→List (Nat×Nat)
 |[]=>[]
 | .E8 c b::l=>(c,b)::Kf l
 |_::l=>Kf l
def aaC:List Nd→Option (Nat×Ty)
 |[]=>none
 | .frz b t::_=>some (b,t)
 |_::l=>aaC l
def UA:List (Nat×Sh)→List AV→List Nd
 |[],_=>[]
 |
  (i,s)::l,tm=>(match tm[i]? with
  |some x=>qK s x
  |none=>[])++UA l tm
def UB:List Sh→List AV→List Nd
 |s::l,x::xs=>qK s x++UB l xs
 |_,_=>[]
def Kg(hp:List (Nat×jQ))(σ:List (Option aT)):Nat→List (Nat×Nat)→List (Nat×Nat)→List Nd→List (Nat×Nat)×List Nd
 |0,_,done,nd=>(done,nd)
 |_+1,[],done,nd=>(done,nd)
 |
  n+1,(c,b)::todo,done,nd=>
  match lkN done c with
  |some _=>Kg hp σ n todo done nd
  |
   none=>
   match lkN hp c,σ[b]? with
   |some s,some (some k)=>Kg hp σ n (Kf (Ke s k)++todo) ((c,b)::done) (nd++Ke s k)
   |_,_=>Kg hp σ n todo ((c,b)::done) nd
def pinned:List (Nat×jQ)→List (Option aT)→List (Nat×Nat)
 |[],_=>[]
 |
  (c,s)::l,σ=>if Nat.blt c 16 then(c,c)::pinned l σ else(match s with
  | .AR=>(c,c)::pinned l σ
  |_=>pinned l σ)
def Kh(S:SS)(σ:St):List (Nat×Nat)×List Nd:=
 let n0:=UA S.tm σ.tm++UB S.df σ.df
 Kg S.hp σ.hp 200 (Kf n0++pinned S.hp σ.hp) [] n0
def aiN(hp:List (Option aT))(b:Nat)(t:Ty):Ty:=
 match hp[b]? with
 |some (some (.row _ bs u _))=>.slice bs u
 |
  _=>match t with
  | .slice bs u=>.slice bs u
  |_=>.slice 1 (.int .u8)
def Ki(S:SS):Nat→St→Option St
 |0,_=>none
 |
  n+1,σ=>match aaC (Kh S σ).2 with
  |none=>some σ
  |
   some (b,t)=>match freeze b (aiN σ.hp b t) σ with
   |some σ'=>Ki S n σ'
   |none=>none
def WI:List AV→List Nat
 |[]=>[]
 |x::l=>x.ids++WI l
def WJ:List (Option aT)→Nat→List Nat
 |[],_=>[]
 |some k::l,i=>i::(k.ids++WJ l (i+1))
 |none::l,i=>WJ l (i+1)
def NQ:List (Nat×Nat)→List (Nat×Nat)
 |[]=>[]
 |(c,b)::l=>if Nat.beq c b then NQ l else(c,b)::NQ l
def NR(used:List Nat):List (Nat×Nat)→List (Nat×Nat)→Option (Nat×Nat×List (Nat×Nat))
 |[],_=>none
 |(c,b)::l,acc=>if eg c used then NR used l ((c,b)::acc) else some (c,b,acc++l)
def aaD(b x:Nat):List (Nat×Nat)→List (Nat×Nat)
 |[]=>[]
 |(c,d)::l=>(c,if Nat.beq d b then x else d)::aaD b x l
def By(top:Nat):Nat→List (Nat×Nat)→St→Option St
 |_,[],σ=>some σ
 |0,_,_=>none
 |
  n+1,(c,b)::mv,σ=>
  match NR (WI σ.tm++WI σ.df++WJ σ.hp 0) ((c,b)::mv) [] with
  |
   some (c',b',rest)=>match rename b' c' σ with
   |some σ'=>By top n rest σ'
   |none=>none
  |
   none=>match rename b top σ with
   |some σ'=>By top n (aaD b top ((c,b)::mv)) σ'
   |none=>none
def NS(hp:List (Nat×jQ))(c:Nat)(f:TypeId→Nat→Ty→Gh)(σ:St):Option St:=
 match lkN hp c with
 |some (.row e bs t)=>(f e bs t).go σ
 |_=>none
def Bz(hp:List (Nat×jQ))(f:Nat→Path→TypeId→Nat→Ty→Gh):List Nd→St→Option St
 |[],σ=>some σ
 |
  .own c p::l,σ=>match NS hp c (f c p) σ with
  |some σ'=>Bz hp f l σ'
  |none=>none
 |_::l,σ=>Bz hp f l σ
def DH(hp:List (Nat×jQ)):List (Nat×Sh)→St→Option St
 |[],σ=>some σ
 |
  (i,s)::l,σ=>match σ.tm[i]? with
  |
   some x=>match Bz hp (fun c _ e bs t=>.DD i c e bs t) (qK s x) σ with
   |some σ'=>DH hp l σ'
   |none=>none
  |none=>none
def zV(hp:List (Nat×jQ)):List (Nat×jQ)→St→Option St
 |[],σ=>some σ
 |
  (i,s)::l,σ=>match σ.hp[i]? with
  |
   some (some k)=>match Bz hp (fun c p e bs t=>.zU i p c e bs t) (Ke s k) σ with
   |some σ'=>zV hp l σ'
   |none=>none
  |_=>zV hp l σ
def Iz:List Nd→Bool
 |[]=>false
 | .pur::_=>true
 |_::l=>Iz l
def wG:List (Nat×Sh)→St→Option St
 |[],σ=>some σ
 |
  (i,.val t)::l,σ=>match σ.tm[i]? with
  |
   some x=>if Iz (qK (.val t) x) then(match(Gh.NJ i t).go σ with
   |some σ'=>wG l σ'
   |none=>none) else wG l σ
  |none=>none
 |_::l,σ=>wG l σ
def wH:List (Nat×jQ)→St→Option St
 |[],σ=>some σ
 |
  (i,s)::l,σ=>match σ.hp[i]? with
  |
   some (some k)=>if Iz (Ke s k) then(match(Gh.Is i).go σ with
   |some σ'=>wH l σ'
   |none=>none) else wH l σ
  |_=>wH l σ
def aaE:List (Nat×Sh)→List Nat
 |[]=>[]
 |(i,_)::l=>i::aaE l
def aaF:List (Nat×Nat)→List Nat
 |[]=>[]
 |(_,b)::l=>b::aaF l
def SS.yn(
 S:SS) (σ:St):Option S.T:=
 match Ki S 40 σ with
 |none=>none
 |
  some σ1=>
  let m:=(Kh S σ1).1
  match(Gh.Ft (aaE S.tm) (aaF m)).go σ1 with
  |none=>none
  |
   some σ2=>match By (S.nh -1) 60 (NQ m) σ2 with
   |none=>none
   |
    some σ3=>match DH S.hp S.tm σ3 with
    |none=>none
    |
     some σ4=>match zV S.hp S.hp σ4 with
     |none=>none
     |
      some σ5=>match wG S.tm σ5 with
      |none=>none
      |
       some σ6=>match wH S.hp σ6 with
       |none=>none
       |some σ7=>S.get σ7
section
variable{gl:Ctx}
theorem Fu{S:SS}:∀{n:Nat}{σ σ':St},Ki S n σ=some σ'→Wk gl σ σ'
 |0,_,_,h=>by cases h
 |
  n+1,σ,σ',h=>by
  simp only[Ki] at h
  split at h
  ·cases h;exact Wk.refl gl σ
  ·split at h
   ·rename_i σ1 h1;exact(Wk.freeze h1).trans (Fu h)
   ·cases h
theorem zW{top:Nat}:∀{n:Nat}{mv:List (Nat×Nat)}{σ σ':St},By top n mv σ=some σ'→Wk gl σ σ'
 |
  _,[],σ,σ',h=>by
  grind [By,Wk.refl]
 |0,_::_,_,_,h=>by trivial
 |
  n+1,(c,b)::mv,σ,σ',h=>by
  simp only[By] at h
  split at h
  ·split at h
   ·rename_i σ1 h1;exact(Wk.rename h1).trans (zW h)
   ·cases h
  ·split at h
   ·rename_i σ1 h1;exact(Wk.rename h1).trans (zW h)
   ·cases h
theorem oI{hp:List (Nat×jQ)}{f:Nat→Path→TypeId→Nat→Ty→Gh}:∀{l:List Nd}{σ σ':St},Bz hp f l σ=some σ'→Wk gl σ σ'
 |[],σ,σ',h=>by cases h;exact Wk.refl gl σ
 |
  .own c p::l,σ,σ',h=>by
  simp only[Bz] at h
  split at h
  ·rename_i σ1 h1
   unfold NS at h1
   split at h1
   ·exact(Gh.ok h1).trans (oI h)
   ·cases h1
  ·cases h
 | .frz _ _::l,σ,σ',h=>oI (l:=l) h
 | .E8 _ _::l,σ,σ',h=>oI (l:=l) h
 | .pur::l,σ,σ',h=>oI (l:=l) h
theorem BA{hp:List (Nat×jQ)}:∀{l:List (Nat×Sh)}{σ σ':St},DH hp l σ=some σ'→Wk gl σ σ'
 |[],σ,σ',h=>by cases h;exact Wk.refl gl σ
 |
  (i,s)::l,σ,σ',h=>by
  simp only[DH] at h
  split at h
  ·split at h
   ·rename_i σ1 h1;exact(oI h1).trans (BA h)
   ·cases h
  ·cases h
theorem wI{hp:List (Nat×jQ)}:∀{l:List (Nat×jQ)}{σ σ':St},zV hp l σ=some σ'→Wk gl σ σ'
 |[],σ,σ',h=>by cases h;exact Wk.refl gl σ
 |
  (i,s)::l,σ,σ',h=>by
  simp only[zV] at h
  split at h
  ·split at h
   ·rename_i σ1 h1;exact(oI h1).trans (wI h)
   ·cases h
  ·exact wI (l:=l) h
theorem sL:∀{l:List (Nat×Sh)}{σ σ':St},wG l σ=some σ'→Wk gl σ σ'
 |[],σ,σ',h=>by cases h;exact Wk.refl gl σ
 |
  (i,s)::l,σ,σ',h=>by
  cases s with
  |
   val t=>
   simp only[wG] at h
   split at h
   ·split at h
    ·split at h
     ·rename_i σ1 h1;exact(Gh.ok h1).trans (sL h)
     ·cases h
    ·exact sL (l:=l) h
   ·cases h
  |_=>exact sL (l:=l) h
theorem sM:∀{l:List (Nat×jQ)}{σ σ':St},wH l σ=some σ'→Wk gl σ σ'
 |[],σ,σ',h=>by cases h;exact Wk.refl gl σ
 |
  (i,s)::l,σ,σ',h=>by
  simp only[wH] at h
  split at h
  ·split at h
   ·split at h
    ·rename_i σ1 h1;exact(Gh.ok h1).trans (sM h)
    ·cases h
   ·exact sM (l:=l) h
  ·exact sM (l:=l) h
theorem SS.lR{S:SS}{y:YC}{σ:St}{t:S.T}(h:S.yn σ=some t):Wk gl σ (S.st y t):=by
 unfold SS.yn at h
 split at h
 ·cases h
 rename_i σ1 h1
 simp only at h
 split at h
 ·cases h
 rename_i σ2 h2
 split at h
 ·cases h
 rename_i σ3 h3
 split at h
 ·cases h
 rename_i σ4 h4
 split at h
 ·cases h
 rename_i σ5 h5
 split at h
 ·cases h
 rename_i σ6 h6
 split at h
 ·cases h
 rename_i σ7 h7
 exact((((((Fu h1).trans (Gh.ok h2)).trans (zW h3)).trans (BA h4)).trans (wI h5)).trans (sL h6)).trans ((sM h7).trans (SS.i7 h))
end
end Go.Ax
namespace Go.Ax
def IA:aT:=.row 0 0 .unit []
theorem Kj{E:Env}{w:World}{b:Nat}(h:RB E w b IA):False:=by
 have h:=h.2.2.2.1
 trivial
def zX(f:bK)(z:Nat):bK:=⟨f.rt,f.rb,[],none,.bot,[(z,some IA)]⟩
def Kk(z:Nat):bK:=⟨[],[z],[],none,.bot,[]⟩
def nv(fs:List bK)(f:bK)(z:Nat)(gs:List bK):List bK:=fs++zX f z::gs
def IB(P:Program)(gl:Ctx)(ops:Array Oper)(z:Nat)(j:Nat)(g:bK)(σ:St):Prop:=tM P gl ops j g σ∨(g=Kk z∧σ.hp[z]? =some (some IA))
def sN:List Nat→List AV→List AV
 |[],tm=>tm
 |d::l,tm=>sN l (tm.set d .bot)
theorem xn:∀{l:List Nat}{tm:List AV},(sN l tm).length=tm.length
 |[],_=>rfl
 |d::l,tm=>by unfold sN;rw[xn];simp
theorem xo{i:Nat}{x:AV}:∀{l:List Nat}{tm:List AV},(sN l tm)[i]? =some x→x= .bot∨(i∉l∧tm[i]? =some x)
 |[],_,h=>Or.inr ⟨by simp,h⟩
 |
  d::l,tm,h=>by
  unfold sN at h
  rcases xo h with h|⟨hl,h⟩<;>grind
def zY(fs:List bK)(f:bK)(z:Nat)(gs:List bK)(σ:St):St:=
 ⟨sN (dstsOf (nv fs f z gs)) σ.tm,bH (bH σ.hp f.hw) (iy (oo (nv fs f z gs))),σ.df⟩
theorem dJ.app{OK:Nat→bK→St→Prop}:∀{fs gs:List bK}{i:Nat}{σ σ1 σ':St},dJ OK i fs σ σ1→dJ OK (i+fs.length) gs σ1 σ'→dJ OK i (fs++gs) σ σ'
 |[],gs,i,σ,σ1,σ',h,k=>by grind [dJ]
 |f::fs,gs,i,σ,σ1,σ',⟨h1,h2,h3⟩,k=>⟨h1,h2,dJ.app h3 (by grind)⟩
theorem dJ.hl{OK:Nat→bK→St→Prop}:∀{fs:List bK}{i:Nat}{σ σ':St},dJ OK i fs σ σ'→σ'.hp.length=σ.hp.length
 |[],_,_,_,h=>by simp only[dJ] at h;grind
 |f::fs,_,σ,_,⟨_,_,h⟩=>by rw[dJ.hl h,wj]
def SU(z:Nat)(gs:List bK):Bool:=gs.all fun g=> !eg z (wrote g.hw)
theorem dJ.at{OK:Nat→bK→St→Prop}{z:Nat}{k:Option aT}:∀{fs:List bK}{i:Nat}{σ σ':St},dJ OK i fs σ σ'→SU z fs=true→σ.hp[z]? =some k→σ'.hp[z]? =some k
 |[],_,_,_,h,_,hz=>by grind [dJ]
 |
  f::fs,_,σ,_,⟨_,_,h⟩,hn,hz=>by
  simp only[SU,List.all_cons,bM,lu] at hn
  refine dJ.at h (by simpa[SU] using hn.2) ?_
  rw[kV,ij (fun hm=>by rw[rD hm] at hn;cases hn.1)]
  exact hz
theorem zZ{P:Program}{G:dq}(T:cL P G){gl:Ctx}{ops:Array Oper}{id:Nat}{draw:Bool}{fs gs:List bK}{f:bK}{z:Nat}{σ σp σe:St}{Q:jM→St→Prop}
 (hc:uJ P gl ops 0 fs σ σp) (hp:F8 P gl ops fs.length f σp) (hg2:dJ (IB P gl ops z) (fs.length+1) gs (σp.app (zX f z)) σe) (hnz:SU z gs=true) (hz:z<σ.hp.length) (hn:fs.length+1+gs.length=ops.size) (ig:draw=true→(qG none ops (nv fs f z gs)&&mc σ (nv fs f z gs))=true)
 (hpl:f.v.plain=true) (hq:Q (.panic f.v) (zY fs f z gs σ)):eR P gl (.region id ops draw) σ Q:=by
 intro E a w hg
 have hzp:(σp.app (zX f z)).hp[z]? =some (some IA):=by
  rw[kV]
  simp only[zX,bH,fR,cu]
  rw[aA (by rw[dJ.hl hc];exact hz)]
 have hze:=dJ.at hg2 hnz hzp
 have hlen:(nv fs f z gs).length=ops.size:=by simp[nv];omega
 have rest:∀(V:St→Env→World→Prop)(Q:Exit→Act→World→Prop) j g σ1,IB P gl ops z j g σ1→Px P gl ops Q V j g σ1:=by
  intro V Q j g σ1 h
  rcases h with h|⟨rfl,h⟩
  ·exact h.q
  ·intro σ' ha _ E a w hg
   have:σ'.hp[z]? =some (some IA):=by rw[ha.hp z (by simp[Kk]),h]
   exact(Kj (hg.hw.eH z _ this)).elim
 have total:∀Q':Exit→Act→World→Prop,(∀σ2 E2 w2 E' u w',AT gl (dstsOf (nv fs f z gs)) (oo (nv fs f z gs)) σ E w σ2 E2 w2→∀a',dD gl {σ2 with hp:=bH σ2.hp f.hw} E' a' w'→RV E' w' f.v u→Ext gl.md (cQ σ2.hp E2) E2 w2 (cQ (bH σ2.hp f.hw) E') E' w'→Q' (.panic [{v:=u,recovered:=false}]) a' w')→
  dJ (Px P gl ops Q' (AT gl (dstsOf (nv fs f z gs)) (oo (nv fs f z gs)) σ E w)) 0 (nv fs f z gs) σ σe:=by
  intro Q' hQ'
  refine dJ.app (hc.mono fun _ _ _=>tM.q) ⟨?_,(fun d hd=>by cases hd),?_⟩
  ·rw[d9]
   intro σ2 ha _ E2 a2 w2 hg2 hv2 K _
   exact hp σ2 ha E2 a2 w2 hg2 K Q' (fun E' u w' q1 q2 q3=>hQ' σ2 E2 w2 E' u w' hv2 a2 q1 q2 q3)
  ·rw[d9]
   exact hg2.mono (rest _ _)
 have post:∀σ2 E2 w2 E' u w',AT gl (dstsOf (nv fs f z gs)) (oo (nv fs f z gs)) σ E w σ2 E2 w2→∀a',dD gl {σ2 with hp:=bH σ2.hp f.hw} E' a' w'→RV E' w' f.v u→Ext gl.md (cQ σ2.hp E2) E2 w2 (cQ (bH σ2.hp f.hw) E') E' w'→vC gl Q σ E w (.panic [{v:=u,recovered:=false}]) a' w':=by
  intro σ2 E2 w2 E' u w' hv a' q1 q2 q3
  have hwk2:dD gl (zY fs f z gs σ) E' a' w'∧Ext gl.md (cQ (bH σ2.hp f.hw) E') E' w' (cQ (zY fs f z gs σ).hp E') E' w':=by
   refine⟨⟨?_,?_,q1.hw.less ?_,?_⟩,{Ext.refl (cQ (bH σ2.hp f.hw) E') E' w' with own:=?_ }⟩
   ·simp only[zY,xn];rw[q1.len];exact hv.tl
   ·intro i x hx v hv'
    rcases xo hx with hx|⟨hi,hx⟩
    ·subst hx;trivial
    ·exact q1.tm i x (by show σ2.tm[i]? =some x;rw[hv.tm i hi];exact hx) v hv'
   ·intro b k hk
    obtain⟨hb,hk⟩:=fW hk
    show(bH σ2.hp f.hw)[b]? =_
    rw[lF hv.hl (hv.hp b hb)]
    exact hk
   ·show RD E' w' σ.df a'.defers
    rw[←hv.df];exact q1.df
   ·rintro g ⟨b,k,hk,hgb⟩
    obtain⟨hb,hk⟩:=fW hk
    refine Or.inl ⟨b,k,?_,hgb⟩
    rw[lF hv.hl (hv.hp b hb)]
    exact hk
  exact⟨.panic f.v,zY fs f z gs σ,E',⟨u,rfl,RV.mF hpl q2⟩,hq,hwk2.1,(hv.ext.trans q3).trans hwk2.2⟩
 have noend:∀E' a' w',dD gl σe E' a' w'→False:=fun E' a' w' h=>Kj (h.hw.eH z _ hze)
 cases draw with
 |false=>exact xa hlen (total _ post) hg (fun E' a' w' h _=>(noend E' a' w' h).elim)
 |
  true=>
  have ig:=ig rfl
  simp only[bM] at ig
  exact xd T ig.1 ig.2 (fun _ _ _ _ h=>by cases h) (total _ post) hg (fun E' a' w' h _=>(noend E' a' w' h).elim)
end Go.Ax
namespace Go.Ax
theorem NT{P:Program}{w:World}{g:Nat}{a:Option Nat}{b:Nat}{c:Array Nat}{d:Nat}{o':Obj}(h:w.heap[g]? =some (.mapIter a b c d)):(setObj g o').run P w= .ok () (w.putObj g o'):=by simp[setObj,Sem.run,h,World.putObj]
theorem Fw{P:Program}(w:World)(ty:TypeId)(g bm since c0:Nat)(seen:Array Nat)(es:Array MapEntry)(clock:Nat)(hg:w.heap[g]? =some (.mapIter (some bm) since seen c0))(hb:w.heap[bm]? =some (.map es clock))(hold:∀x∈es.toList,x.born<since)(hsc:since≤c0):
 ((leftOf es seen).size=0∧(Instr.next (.pointer (some ⟨g,0,none⟩)) false ty).run P w= .ok (.tuple #[.bool false]) w)∨
 ∃e∈(leftOf es seen).toList,∃w1:World,(w1=w∨w1=w.drew)∧(Instr.next (.pointer (some ⟨g,0,none⟩)) false ty).run P w= .ok (.tuple #[.bool true,e.key,e.val]) (w1.putObj g (.mapIter (some bm) since (seen.push e.born) clock)):=by
 simp only[Instr.next,getObj,Sem.run_bind,Sem.run,hg,hb,Result.andThen,next_test_false seen es since c0 hold hsc,dv,dc]
 unfold leftOf
 have apF:∀x∈(Array.filter (fun e=> !seen.contains e.born) es).toList,x.born<since:=fun x hx=>hold x (by grind)
 generalize Array.filter (fun e=> !seen.contains e.born) es=L at apF ⊢
 have e1:L.filter (fun x=>decide (x.born<since))=L:=Array.filter_eq_self.2 (fun x hx=>by grind)
 have e2:L.filter (fun x=>decide (x.born≥since))= #[]:=by
  simp_all
 simp only[e1,e2,Array.append_empty]
 by_cases h0:L.size=0
 ·simp_all[Question.forced]
 ·right
  have hne:L.isEmpty=false:=by grind
  simp only[hne,dv,dc,Array.empty_append,Array.size_map]
  have hch:∃(j:Nat)(w1:World),j<L.size∧(w1=w∨w1=w.drew)∧(choose (Question.mapNext L.size)).run P w= .ok j w1:=by
   by_cases hf:L.size≤1
   ·exact⟨0,w,by omega,Or.inl rfl,by simp[choose,Sem.run,Question.forced,hf]⟩
   ·exact⟨_,w.drew,Nat.mod_lt _ (by omega),Or.inr rfl,by
     simp only[choose,Sem.run,Question.forced,rf,hf,dc,Question.cut]
     rfl⟩
  obtain⟨j,w1,hj,hal,ao4⟩:=hch
  refine⟨L[j],by simp,w1,hal,?_⟩
  have hg1:w1.heap[g]? =some (.mapIter (some bm) since seen c0):=by
   rcases hal with e|e
   ·grind
   ·rw[e];exact hg
  simp only[ao4,Array.getElem?_map,Array.getElem?_eq_getElem hj,Option.map_some,Sem.run_bind,NT hg1,Result.andThen]
  rfl
theorem ID{en:Array MapEntry}{seen:Array Nat}(hn:(en.toList.map (·.born)).Nodup){i:Nat}{e:MapEntry}(he:(nW en seen).toList[i]? =some e):(nW en (seen.push e.born)).toList=(nW en seen).toList.eraseIdx i:=by
 have key:∀(l:List MapEntry)(i:Nat)(e:MapEntry),(l.map (·.born)).Nodup→l[i]? =some e→l.filter (fun x=> !(x.born==e.born))=l.eraseIdx i:=by
  intro l
  induction l with
  |nil=>grind
  |
   cons x l ih=>
   intro i e hn h
   have hn':x.born∉l.map (·.born)∧(l.map (·.born)).Nodup:=List.nodup_cons.1 hn
   cases i with
   |
    zero=>
    simp_all
   |
    succ i=>
    grind
 have hl:(nW en (seen.push e.born)).toList=(nW en seen).toList.filter (fun x=> !(x.born==e.born)):=by
  simp only[nW,Array.toList_filter,List.filter_filter]
  grind
 grind [nW]
theorem RM.ats{E:Env}{w:World}{k v:Ty}:∀{es:List MapEntry}{xs:List (k.den×v.den)},RM E w k v es xs→es.length=xs.length∧(∀(i:Nat)(e:MapEntry)(x:k.den×v.den),es[i]? =some e→xs[i]? =some x→ef E w (.val k x.1) e.key∧ef E w (.val v x.2) e.val)∧∀i,RM E w k v (es.eraseIdx i) (xs.eraseIdx i)
 |[],[],_=>⟨rfl,fun i e x h=>by simp at h,fun i=>by simp[RM]⟩
 |[],_::_,h=>h.elim
 |_::_,[],h=>h.elim
 |
  e::es,x::xs,⟨h1,h2,h3⟩=>by
  obtain⟨a,b,c⟩:=RM.ats h3
  refine⟨by simp[a],?_,?_⟩
  ·grind
  ·intro i
   cases i with
   |zero=>grind
   |succ i=>simpa using⟨h1,h2,c i⟩
noncomputable def LX{A R:Type}(xs:List A)(K:A→List A→Option R):Option R:=
 @dite _ (∃r,∀i(h:i<xs.length),K xs[i] (xs.eraseIdx i)=some r) (Classical.propDecidable _) (fun h=>some h.choose) (fun _=>none)
theorem LY{A R:Type}{xs:List A}{K:A→List A→Option R}{r:R}(h:LX xs K=some r)(i:Nat)(hi:i<xs.length):K xs[i] (xs.eraseIdx i)=some r:=by
 unfold LX at h
 split at h<;>grind
theorem eR.next{P:Program}{gl:Ctx}{σ:St}{Q:jM→St→Prop}{id:Nat}{o0 o1:Oper}{s d d1 b:Nat}{kt vt:Ty}{rest:List (kt.den×vt.den)}{cur:Option (kt.den×vt.den)}
 (h0:o0.op= .next (.tmp s) false) (hg0:o0.guard=none) (hd0:o0.dst=some d) (h1:o1.op= .extract (.tmp d) 0) (hg1:o1.guard=none) (hd1:o1.dst=some d1)
 (hs:σ.tm[s]? =some (.ptr b [])) (hb:σ.hp[b]? =some (some (.qN kt vt rest cur))) (hl:Nat.blt d σ.tm.length=true)
 (hq0:rest= []→Q .normal ((σ.put (some d) .bot).put (some d1) (.val .bool false)))
 (hq1:∀i(hi:i<rest.length),Q .normal ((({σ with hp:=σ.hp.set b (some (.qN kt vt (rest.eraseIdx i) (some rest[i])))}:St).put (some d) .bot).put (some d1) (.val .bool true))):
 eR P gl (.region id #[o0,o1] false) σ Q:=by
 intro E a w hg
 obtain⟨g,om,since,seen,c0,q1,q2,q3⟩:=hg.hw.eH b _ hb
 have hlt:d<a.tmps.size:=by rw[hg.len];simp_all
 have hx:a.eval (.tmp s)= .pointer (some ⟨g,0,none⟩):=by
  have hv:=jX hg (.tmp s)
  have:cZ gl σ.tm (.tmp s)= .ptr b []:=by simp[cZ,hs]
  rw[this] at hv
  obtain⟨g',hg',ev,_⟩:=RV.atom rfl hv
  grind [Ty.off]
 have w0:∀z,Region.wanted o0 z=true:=fun z=>by simp[Region.wanted,hg0]
 have w1:∀z,Region.wanted o1 z=true:=fun z=>by simp[Region.wanted,hg1]
 refine wpIn_region ?_
 have hr:List.range (#[o0,o1]:Array Oper).size= [0,1]:=rfl
 rw[hr]
 have fin:∀(vs:Array Value)(x:Bool)(w':World)(σ':St),(Instr.next (.pointer (some ⟨g,0,none⟩)) false o0.type).run P w= .ok (.tuple vs) w'→vs[0]? =some (.bool x)→dD gl σ' E a w'→Ext gl.md (cQ σ.hp E) E w (cQ σ'.hp E) E w'→
  Q .normal ((σ'.put (some d) .bot).put (some d1) (.val .bool x))→wpOpsIn (Wd gl) 0 P #[o0,o1] (vC gl Q σ E w) [0,1] a w:=by
  intro vs x w' σ' ao4 hv0 hg' hext hq
  simp only[wpOpsIn,List.getElem?_toArray,List.getElem?_cons_zero,yX,w0,cu]
  refine⟨fun _ _=>trivial,?_⟩
  rw[Oper.semAt_eq _ _ _ (by grind)]
  have r1:(execOp a.eval o0).run P w= .ok (.value (.tuple vs)) w':=by simp[execOp,h0,hx,ao4]
  rw[r1,Oper.uponIn_value,hd0]
  simp only[w1,cu]
  refine⟨fun _ _=>trivial,?_⟩
  rw[Oper.semAt_eq _ _ _ (by grind)]
  have hev:(a.put (some d) (.tuple vs)).eval (.tmp d)= .tuple vs:=by simp[Act.eval,Act.put,hlt]
  have r2:(execOp (a.put (some d) (.tuple vs)).eval o1).run P w'= .ok (.value (.bool x)) w':=by
   simp_all[execOp,Instr.extract]
  rw[r2,Oper.uponIn_value,hd1]
  have ga:=hg'.put (some d) (x:=.bot) (v:=.tuple vs) trivial
  have gb:=ga.put (some d1) (x:=.val .bool x) (v:=.bool x) RV.bool
  exact⟨.normal,_,E,trivial,hq,gb,hext⟩
 have nextNil:om=none→rest= []→wpOpsIn (Wd gl) 0 P #[o0,o1] (vC gl Q σ E w) [0,1] a w:=by
  intro e1 e2
  subst e1
  refine fin #[.bool false] false w σ ?_ rfl hg (Ext.refl _ _ _) (hq0 e2)
  simp only[Instr.next,getObj,Sem.run_bind,Sem.run,q2,Result.andThen]
  rfl
 rcases q3 with⟨e1,e2,_⟩|⟨bm,en,e1,r2,r3,e4,r5,r6,r7,r8⟩
 ·grind
 ·subst e1;subst e4
  obtain⟨m1,m2,m3⟩:=RM.ats r7
  rcases Fw (P:=P) w o0.type g bm since since seen en since q2 r3 r5 (cT _) with⟨z,ao4⟩|⟨e,he,w1',hw1,ao4⟩
  ·have hr0:rest= []:=by
    grind [leftOf,nW]
   exact fin #[.bool false] false w σ ao4 rfl hg (Ext.refl _ _ _) (hq0 hr0)
  ·have he:e∈(nW en seen).toList:=he
   obtain⟨i,hi,hie⟩:=List.mem_iff_getElem.1 he
   have hie':(nW en seen).toList[i]? =some e:=by grind
   have hir:i<rest.length:=by grind
   have hrm:=ID r6 hie'
   have hen:e∈en.toList:=by
    grind [nW]
   obtain⟨k1,k2⟩:=m2 i e rest[i] hie' (ri hir)
   have hh:w1'.heap=w.heap:=by rcases hw1 with e|e<;>rw[e]<;>rfl
   have hlg:g<w1'.heap.size:=by grind
   have hne:bm≠g:=fun e=>by grind
   have hoth:∀j,j≠g→(w1'.putObj g (.mapIter (some bm) since (seen.push e.born) since)).heap[j]? =w.heap[j]? :=fun j hj=>by
    grind [World.putObj_heap_other]
   have kp:di E w E (w1'.putObj g (.mapIter (some bm) since (seen.push e.born) since)):=⟨fun j hj=>hoth j (fun e=>hg.hw.oB b _ g hb q1 (e▸hj)),fun _ h=>h⟩
   have hrb:RB E (w1'.putObj g (.mapIter (some bm) since (seen.push e.born) since)) b (.qN kt vt (rest.eraseIdx i) (some rest[i])):=by
    refine⟨g,some bm,since,seen.push e.born,since,q1,World.putObj_heap_same hlg,Or.inr ⟨bm,en,rfl,r2,by grind,rfl,r5,r6,?_,?_⟩⟩
    ·rw[hrm];exact RM.mono kp (m3 i)
    ·intro x hx
     cases hx
     exact⟨e,seen,rfl,hen,ef.mono kp (fun _ hb=>by cases hb) k1,ef.mono kp (fun _ hb=>by cases hb) k2⟩
   have hw2:=hg.hw.write (w':=w1'.putObj g (.mapIter (some bm) since (seen.push e.born) since)) hb (by simp_all) (fun j hj=>hoth j (fun e=>hj (by grind))) hrb
   refine fin #[.bool true,e.key,e.val] true _ {σ with hp:=σ.hp.set b (some (.qN kt vt (rest.eraseIdx i) (some rest[i])))} ao4 rfl (hg.carry kp (fun _ _=>⟨rfl,rfl,rfl⟩) hw2) ⟨?_,?_,?_,?_,?_,fun _ h=>h,fun _ h=>Or.inl h,fun i hi=>Or.inl (cQ.set hb hi),fun _ _=>⟨rfl,rfl,rfl⟩⟩ (hq1 i hir)
   ·rcases hw1 with e|e<;>rw[e]<;>rfl
   ·rcases hw1 with e|e
    ·rw[e];exact Tp.r rfl rfl
    ·rw[e];exact Tp.s rfl rfl
   ·rcases hw1 with e|e<;>rw[e]<;>rfl
   ·simp_all
   ·intro j hj ho
    exact hoth j (fun e=>ho ⟨b,_,hb,by rw[e];exact Or.inl q1⟩)
end Go.Ax
namespace Go.Ax
theorem eR.SX{P:Program}{gl:Ctx}{σ:St}{Q:jM→St→Prop}{id:Nat}{o1 o2:Oper}{y:Code}(x:Operand)(d1 d2:Nat)(t t2 e:TypeId)(bs:Nat)(u:Ty)(xs:List u.den)
 (h1:o1.op= .move x) (hd1:o1.dst=some d1) (hg1:o1.guard=none) (h2:o2.op= .binOp .eql t (.tmp d1) (.const (.slice none 0 0)) t2) (hd2:o2.dst=some d2) (hg2:o2.guard=none)
 (hx:cZ gl σ.tm x= .val (.slice bs u) xs) (ht:P.underlying t=some (.slice e)) (hl:Nat.blt d1 σ.tm.length=true)
 (h:∀b:Bool,(b=true→xs= [])→eR P gl y ((σ.put (some d1) (.val (.slice bs u) xs)).put (some d2) (.val .bool b)) Q):eR P gl (.seq (.region id #[o1,o2] false) y) σ Q:=by
 intro E a w hg
 have hv:=jX hg x
 rw[hx] at hv
 obtain⟨ad,cap,hve,_,_,_,hor⟩:=RV.atom rfl hv
 simp at hve
 have hlt:d1<a.tmps.size:=by rw[hg.len];simp[Nat.blt] at hl;omega
 refine wpIn_seq (wpIn_region ?_)
 have hr:List.range (#[o1,o2]:Array Oper).size= [0,1]:=rfl
 rw[hr]
 have w1:∀z,Region.wanted o1 z=true:=fun z=>by simp[Region.wanted,hg1]
 have w2:∀z,Region.wanted o2 z=true:=fun z=>by simp[Region.wanted,hg2]
 have ga:=hg.put (some d1) hv
 have hb:ad.isNone=true→xs= []:=by
  intro hn
  rcases hor with h0|⟨b,o,cs,e1,_⟩
  ·exact h0
  ·subst e1;cases hn
 have gb:=ga.put (some d2) (x:=.val .bool ad.isNone) (v:=.bool ad.isNone) (RV.gS (Or.inr ⟨rfl,rfl⟩))
 have hfin:=h ad.isNone hb E _ w gb
 simp only[wpOpsIn,List.getElem?_toArray,List.getElem?_cons_zero,yX,w1,cu]
 refine⟨fun _ _=>trivial,?_⟩
 rw[Oper.semAt_eq _ _ _ (by rw[h1];intro c hc;cases hc)]
 have r1:(execOp a.eval o1).run P w= .ok (.value (a.eval x)) w:=by simp[execOp,h1]
 rw[r1,Oper.uponIn_value,hd1]
 simp only[w2,cu]
 refine⟨fun _ _=>trivial,?_⟩
 rw[Oper.semAt_eq _ _ _ (by rw[h2];intro c hc;cases hc)]
 have hev:(a.put (some d1) (a.eval x)).eval (.tmp d1)= .slice ad xs.length cap:=by
  have:(a.put (some d1) (a.eval x)).eval (.tmp d1)=a.eval x:=by
   generalize a.eval x=v
   simp[Act.eval,Act.put,hlt]
  rw[this,hve]
 have r2:(execOp (a.put (some d1) (a.eval x)).eval o2).run P w= .ok (.value (.bool ad.isNone)) w:=by
  have hq:=run_equal_slice_nil (P:=P) w t e ad xs.length cap ht
  have hc:(a.put (some d1) (a.eval x)).eval (.const (.slice none 0 0))= .slice none 0 0:=rfl
  simp[execOp,h2,hev,hc,eqGuard,binOp,hq]
 rw[r2,Oper.uponIn_value,hd2]
 simp only[Exit.then]
 refine wpIn_mono hfin ?_
 rintro ex a' w' ⟨x',σ',E',k1,k2,k3,k4⟩
 exact⟨x',σ',E',k1,k2,k3,k4⟩
end Go.Ax
namespace Go.Ax
theorem HW.frame{gl:Ctx}{E:Env}{w:World}{hp:List (Option aT)}(h:HW gl E w hp){g:Nat}{o:Obj}(hS:¬E.S g)(hO:¬cQ hp E g):di E w E (w.putObj g o)∧HW gl E (w.putObj g o) hp:=by
 have kp:di E w E (w.putObj g o):=⟨fun b hb=>World.putObj_heap_other (fun e=>hS (e▸hb)),fun _ h=>h⟩
 exact⟨kp,fun b k hb=>RB.mono kp (fun _ _=>⟨rfl,rfl,rfl⟩) (fun i hi=>World.putObj_heap_other (fun e=>hO ⟨b,k,hb,by grind⟩)) (fun _ _ h=>h) (h.eH b k hb),h.gR,h.fS,fun i hi=>by simpa using h.slt i hi,h.ko kp,fun b k g hb hg=>by simpa using h.w8 b k g hb hg⟩
theorem dD.frame{gl:Ctx}{σ:St}{E:Env}{a:Act}{w:World}(h:dD gl σ E a w){g:Nat}{o:Obj}(hS:¬E.S g)(hO:¬cQ σ.hp E g):dD gl σ E a (w.putObj g o):=by
 obtain⟨kp,hw⟩:=h.hw.frame (o:=o) hS hO
 exact h.carry kp (fun _ _=>⟨rfl,rfl,rfl⟩) hw
theorem Ext.put{gl:Ctx}{O:Nat→Prop}{E:Env}{w:World}{g:Nat}{o:Obj}(h:O g):Ext gl.md O E w O E (w.putObj g o):=
 ⟨rfl,Tp.r rfl rfl,rfl,by simp,fun i _ hi=>World.putObj_heap_other (fun e=>hi (e▸h)),fun _ h=>h,fun _ h=>Or.inl h,fun _ h=>Or.inl h,fun _ _=>⟨rfl,rfl,rfl⟩⟩
theorem qh{hp:List (Option aT)}{b c:Nat}{k:aT}(h:(hp.set b none)[c]? =some (some k)):c≠b∧hp[c]? =some (some k):=by
 grind
theorem HW.drop{gl:Ctx}{E:Env}{w:World}{hp:List (Option aT)}(h:HW gl E w hp)(b:Nat):HW gl E w (hp.set b none):=h.less (fun _ _ hc=>(qh hc).2)
theorem cQ.drop{E:Env}{hp:List (Option aT)}{b g:Nat}(h:cQ (hp.set b none) E g):cQ hp E g:=by
 obtain⟨c,k,h1,h2⟩:=h
 exact⟨c,k,(qh h1).2,h2⟩
theorem dD.shut{gl:Ctx}{σ:St}{E:Env}{a:Act}{w:World}(h:dD gl σ E a w){b g:Nat}{k:aT}(hb:σ.hp[b]? =some (some k))(hg:E.g b=some g)(o:Obj):
 dD gl {σ with hp:=σ.hp.set b none} E a (w.putObj g o)∧Ext gl.md (cQ σ.hp E) E w (cQ (σ.hp.set b none) E) E (w.putObj g o):=by
 have hS:¬E.S g:=h.hw.oB b k g hb hg
 have hO:¬cQ (σ.hp.set b none) E g:=by
  rintro⟨c,k',hc,hgc⟩
  obtain⟨h1,h2⟩:=qh hc
  exact h1 (h.hw.gR c b k' k g h2 hb hgc (Or.inl hg))
 have h1:dD gl {σ with hp:=σ.hp.set b none} E a w:=⟨h.len,h.tm,h.hw.drop b,h.df⟩
 refine⟨h1.frame hS hO,?_⟩
 have:=Ext.put (gl:=gl) (O:=cQ σ.hp E) (E:=E) (w:=w) (o:=o) ⟨b,k,hb,Or.inl hg⟩
 exact{this with own:=fun i hi=>Or.inl (cQ.drop hi)}
def marks:List AV→List (Option aT)→Option (List (Option aT))
 |[],hp=>some hp
 |
  .mp b::l,hp=>match iL hp b with
  |some .AR=>marks l (hp.set b none)
  |_=>none
 |_,_=>none
theorem Kl{P:Program}{gl:Ctx}{fn:Func}{R:Ending→World→Prop}{tmps:Array Value}:∀(df:List AV){tm:List AV}{hp hp':List (Option aT)}{E:Env}{ds:List Deferred}{w:World},
 dD gl ⟨tm,hp,df⟩ E ⟨tmps,ds⟩ w→marks df hp=some hp'→(∀w',dD gl ⟨tm,hp',[]⟩ E ⟨tmps,[]⟩ w'→Ext gl.md (cQ hp E) E w (cQ hp' E) E w'→LeavesIn (Wd gl) 0 P fn tmps R [] .returning w')→LeavesInM (Wd gl) 0 P fn tmps R ds .returning w
 |
  [],tm,hp,hp',E,ds,w,h,hm,hk=>by
  cases hm
  have:ds= []:=by
   have:=h.df
   cases ds with
   |nil=>rfl
   |cons _ _=>trivial
  subst this
  exact hk w h (Ext.refl _ _ _)
 |
  x::l,tm,hp,hp',E,ds,w,h,hm,hk=>by
  cases x with
  |
   mp b=>
   simp only[marks] at hm
   split at hm
   ·rename_i hb
    have hbk:=dS hp b _ hb
    cases ds with
    |nil=>exact h.df.elim
    |
     cons d ds=>
     obtain⟨⟨g,hg,hd⟩,hrest⟩:=h.df
     obtain⟨g',hg',hh⟩:=h.hw.eH b _ hbk
     rw[hg] at hg';cases hg'
     have h0:dD gl ⟨tm,hp,l⟩ E ⟨tmps,ds⟩ w:=⟨h.len,h.tm,h.hw,hrest⟩
     obtain⟨g1,x1⟩:=h0.shut hbk hg (.deferred none)
     refine⟨by simp,Or.inl ⟨g,_,by rw[hd],run_takeDeferred hh,?_⟩⟩
     exact Kl l g1 hm (fun w' k1 k2=>hk w' k1 (x1.trans k2))
   ·cases hm
  |_=>simp[marks] at hm
end Go.Ax
namespace Go.Ax
def Ctx.wB(gl:Ctx)(B:(Nat→Prop)→World→Prop)(hB:∀{S S':Nat→Prop}{w w':World},(∀b,S b→w'.heap[b]? =w.heap[b]?)→(∀b,S b→S' b)→B S w→B S' w'):Ctx:=⟨gl.gl,B,hB,none,gl.md⟩
def Ctx.xL(gl:Ctx)(l:Nat):Ctx:=⟨gl.gl,fun _ _=>True,fun _ _ _=>trivial,some l,gl.md⟩
def jmp(jl:List Code):Nat→Option Code
 |0=>none
 |j+1=>jl[j]?
def jj(fn:FuncId)(tmps:Array Value)(ps:Array Tmp)(assign body:Code)(D:Nat)(jl:List Code)(j:Nat):Loop:=
 {state:=if Nat.beq j 0 then .ready else .done,pending:=jmp jl j,fn,tmps,params:=ps,assign,body,defers:=D}
def AV.sZ(m:List (Nat×Nat)):AV→Option AV
 | .ptr b p=>(oX m b).map fun c=>.ptr c p
 | .mD b p lo len=>(oX m b).map fun c=>.mD c p lo len
 |
  .func fn fs cs=>match fs.sZ m,cs.sZ m with
  |some f,some c=>if f.atoms&&c.atoms then some (.func fn f c) else none
  |_,_=>none
 |
  .cons a b=>match a.sZ m,b.sZ m with
  |some x,some y=>some (.cons x y)
  |_,_=>none
 | .val t x=>some (.val t x)
 | .dk t x=>some (.dk t x)
 | .aM=>some .aM
 | .ki=>some .ki
 | .gX=>some .gX
 | .jt=>some .jt
 | .fc f t x=>some (.fc f t x)
 | .kS=>some .kS
 | .nil=>some .nil
 |_=>none
structure RnP(m:List (Nat×Nat))(E:Env)(w:World)(E':Env)(w':World):Prop where
 at':∀b c,oX m b=some c→E'.g c=E.g b∧E'.bt c=E.bt b
 k:di E w E' w'
theorem AV.Km{m:List (Nat×Nat)}{x y:AV}(h:x.sZ m=some y):y.isAgg=x.isAgg:=by
 cases x with
 |ptr b p=>simp only[AV.sZ,jn] at h;obtain⟨c,_,rfl⟩:=h;rfl
 |mD b p lo len=>simp only[AV.sZ,jn] at h;obtain⟨c,_,rfl⟩:=h;rfl
 |
  func fn fs cs=>
  simp only[AV.sZ] at h
  split at h
  ·split at h
   ·cases h;rfl
   grind
  grind
 |
  cons a b=>
  simp only[AV.sZ] at h
  split at h
  ·cases h;rfl
  grind
 |_=>simp[AV.sZ] at h<;>subst h<;>rfl
theorem RC.sZ{m:List (Nat×Nat)}{E E':Env}{w w':World}(r:RnP m E w E' w'):∀{x y:AV}{vs:List Value},x.sZ m=some y→RC E w x vs→RC E' w' y vs:=by
 intro x
 induction x with
 |
  ptr b p=>
  intro y vs h hr
  simp only[AV.sZ,jn] at h
  obtain⟨c,hc,rfl⟩:=h
  obtain⟨e1,e2⟩:=r.at' b c hc
  obtain⟨g,h1,h2,h3⟩:=hr
  exact⟨g,by grind,by grind,by grind⟩
 |
  mD b p lo len=>
  intro y vs h hr
  simp only[AV.sZ,jn] at h
  obtain⟨c,hc,rfl⟩:=h
  obtain⟨e1,e2⟩:=r.at' b c hc
  obtain⟨n,t,h1,h2,h3,a,cap,h4,h5,h6⟩:=hr
  refine⟨n,t,by rw[e2];exact h1,by rw[e2];exact h2,h3,a,cap,h4,h5,h6.imp id ?_⟩<;>grind
 |
  func fn fs cs ih1 ih2=>
  intro y vs h hr
  simp only[AV.sZ] at h
  split at h
  ·rename_i f c h1 h2
   split at h
   ·rename_i ha
    cases h
    simp only[bM] at ha
    obtain⟨f',c',e,r1,r2,_,_⟩:=hr
    exact⟨f',c',e,ih1 h1 r1,ih2 h2 r2,ha.1,ha.2⟩
   grind
  grind
 |
  cons a b ih1 ih2=>
  intro y vs h hr
  simp only[AV.sZ] at h
  split at h
  ·rename_i x y h1 h2
   cases h
   obtain⟨v1,v2,e,r1,r2⟩:=hr
   exact⟨v1,v2,e,ih1 h1 r1,ih2 h2 r2⟩
  grind
 |val t x=>intro y vs h hr;simp only[AV.sZ,fy] at h;subst h;exact RC.mono (a:=.val t x) r.k (fun _ hb=>by cases hb) hr
 |dk t x=>intro y vs h hr;simp only[AV.sZ,fy] at h;subst h;exact RC.mono (a:=.dk t x) r.k (fun _ hb=>by cases hb) hr
 |aM=>intro y vs h hr;simp only[AV.sZ,fy] at h;subst h;exact hr
 |ki=>intro y vs h hr;simp only[AV.sZ,fy] at h;subst h;exact hr
 |gX=>intro y vs h hr;simp only[AV.sZ,fy] at h;subst h;exact hr
 |jt=>intro y vs h hr;simp only[AV.sZ,fy] at h;subst h;exact hr
 |fc f t x=>intro y vs h hr;simp only[AV.sZ,fy] at h;subst h;obtain⟨ha,cs,h1,h2⟩:=hr;exact⟨ha,cs,h1,Rel.mono r.k.w r.k.S h2⟩
 |kS=>intro y vs h hr;simp only[AV.sZ,fy] at h;subst h;exact hr
 |nil=>intro y vs h hr;simp only[AV.sZ,fy] at h;subst h;exact hr
 |_=>intro y vs h hr;trivial
theorem RV.sZ{m:List (Nat×Nat)}{E E':Env}{w w':World}(r:RnP m E w E' w'){x y:AV}{v:Value}(h:x.sZ m=some y)(hr:RV E w x v):RV E' w' y v:=by
 have hp:x.plain=true:=by cases x<;>simp[AV.sZ] at h<;>rfl
 have h0:=RV.mF hp hr
 refine RV.gS ?_
 rcases h0 with⟨h1,cs,e,h2⟩|⟨h1,h2⟩
 ·exact Or.inl ⟨by rw[AV.Km h];exact h1,cs,e,RC.sZ r h h2⟩
 ·exact Or.inr ⟨by rw[AV.Km h];exact h1,RC.sZ r h h2⟩
def NU(m:List (Nat×Nat)):List AV→List AV
 |[]=>[]
 |x::l=>(match x.sZ m with|some y=>y|none=>.bot)::NU m l
theorem Kn{m:List (Nat×Nat)}:∀{l:List AV},(NU m l).length=l.length
 |[]=>rfl
 |_::l=>by simp[NU,Kn (l:=l)]
theorem Ko{m:List (Nat×Nat)}:∀{l:List AV}{i:Nat}{y:AV},(NU m l)[i]? =some y→y= .bot∨∃x,l[i]? =some x∧x.sZ m=some y
 |[],i,y,h=>by trivial
 |
  x::l,0,y,h=>by
  simp only[NU,List.getElem?_cons_zero,fy] at h
  grind
 |
  x::l,i+1,y,h=>by
  simp only[NU,yX] at h
  simpa using Ko h
def xp:List (Nat×AV)→List AV→List AV
 |[],l=>l
 |(t,x)::r,l=>xp r (l.set t x)
theorem Fx{E:Env}{w:World}:∀{ps:List Nat}{args:List AV}{vs:List Value}{tm:List AV}{tmps:Array Value},qV E w args vs→tmps.size=tm.length→(∀(i:Nat)(x:AV),tm[i]? =some x→∀v,tmps[i]? =some v→RV E w x v)→
 ((ps.zip vs).foldl (fun t(p:Nat×Value)=>t.setIfInBounds p.1 p.2) tmps).size=(xp (ps.zip args) tm).length∧
 (∀(i:Nat)(x:AV),(xp (ps.zip args) tm)[i]? =some x→∀v,((ps.zip vs).foldl (fun t(p:Nat×Value)=>t.setIfInBounds p.1 p.2) tmps)[i]? =some v→RV E w x v)
 |[],args,vs,tm,tmps,_,hs,ht=>by trivial
 |p::ps,[],[],tm,tmps,_,hs,ht=>by trivial
 |p::ps,[],_::_,tm,tmps,h,hs,ht=>h.elim
 |p::ps,_::_,[],tm,tmps,h,hs,ht=>h.elim
 |
  p::ps,a::args,v::vs,tm,tmps,⟨h1,h2⟩,hs,ht=>by
  simp only[List.zip_cons_cons,List.foldl_cons,xp]
  refine Fx h2 (by simp[hs]) ?_<;>grind
def qT(i:Nat):List (Nat×Ty)→Bool
 |[]=>false
 |(j,_)::l=>Nat.beq i j||qT i l
def rO(gs:Nat→Nat)(ti:List (Nat×Ty))(i:Nat):aT→aT
 | .var t v=>if qT i ti then .tv (gs i) t v else .var t v
 |k=>k
def tie(gs:Nat→Nat)(ti:List (Nat×Ty)):Nat→List (Option aT)→List (Option aT)
 |_,[]=>[]
 |s,none::l=>none::tie gs ti (s+1) l
 |s,some k::l=>some (rO gs ti s k)::tie gs ti (s+1) l
theorem sO{gs:Nat→Nat}{ti:List (Nat×Ty)}:∀{l:List (Option aT)}{s:Nat},(tie gs ti s l).length=l.length
 |[],_=>rfl
 |none::l,s=>by simp[tie,sO (l:=l)]
 |some _::l,s=>by simp[tie,sO (l:=l)]
theorem lZ{gs:Nat→Nat}{ti:List (Nat×Ty)}:∀{l:List (Option aT)}{s i:Nat}{k:aT},(tie gs ti s l)[i]? =some (some k)→∃k0,l[i]? =some (some k0)∧k=rO gs ti (s+i) k0
 |[],s,i,k,h=>by trivial
 |none::l,s,0,k,h=>by simp[tie] at h
 |some x::l,s,0,k,h=>by simp_all[tie]
 |
  none::l,s,i+1,k,h=>by
  obtain⟨k0,h1,h2⟩:=lZ (l:=l) (by simpa[tie] using h)
  exact⟨k0,by simpa using h1,by rw[h2];congr 1;omega⟩
 |
  some x::l,s,i+1,k,h=>by
  obtain⟨k0,h1,h2⟩:=lZ (l:=l) (by simpa[tie] using h)
  exact⟨k0,by simpa using h1,by rw[h2];congr 1;omega⟩
theorem DI{gs:Nat→Nat}{ti:List (Nat×Ty)}:∀{l:List (Option aT)}{s i:Nat}{k:aT},l[i]? =some (some k)→(tie gs ti s l)[i]? =some (some (rO gs ti (s+i) k))
 |[],s,i,k,h=>by simp at h
 |none::l,s,0,k,h=>by simp at h
 |some x::l,s,0,k,h=>by simp at h;subst h;rfl
 |
  none::l,s,i+1,k,h=>by
  have:=DI (gs:=gs) (ti:=ti) (s:=s+1) (l:=l) (i:=i) (k:=k) (by grind)
  grind [tie]
 |
  some x::l,s,i+1,k,h=>by
  have:=DI (gs:=gs) (ti:=ti) (s:=s+1) (l:=l) (i:=i) (k:=k) (by grind)
  grind [tie]
theorem RB.aaG{gs:Nat→Nat}{ti:List (Nat×Ty)}{E:Env}{w:World}{i:Nat}{k:aT}(h:RB E w i (rO gs ti i k)):RB E w i k:=by
 cases k with
 |
  var t v=>
  simp only[rO] at h
  split at h
  ·obtain⟨h0,h1,h2,c,e,h4,h5⟩:=h;exact⟨h1,h2,_,c,e,h0,h4,h5⟩
  grind
 |_=>exact h
theorem RB.tie{gs:Nat→Nat}{ti:List (Nat×Ty)}{E:Env}{w:World}{i:Nat}{k:aT}(h:RB E w i k)(hg:qT i ti=true→E.g i=some (gs i)):RB E w i (rO gs ti i k):=by
 cases k with
 |
  var t v=>
  simp only[rO]
  split
  ·rename_i hh
   obtain⟨h1,h2,g,c,e,h3,h4,h5⟩:=h
   have:=hg hh
   rw[this] at h3;cases h3
   exact⟨this,h1,h2,c,e,h4,h5⟩
  grind
 |_=>exact h
def vb(hp:List (Option aT)):List (Nat×Ty)→Bool
 |[]=>true
 |(i,t)::l=>(match hp[i]? with|some (some (.var t' _))=>Ty.same t' t|_=>false)&&Nat.blt i 16&&vb hp l
theorem z8{hp:List (Option aT)}{i:Nat}:∀{ti:List (Nat×Ty)},vb hp ti=true→qT i ti=true→i<16∧∃t v,hp[i]? =some (some (.var t v))∧(i,t)∈ti
 |[],_,h=>by cases h
 |
  (j,t)::l,h,hi=>by
  simp only[vb,bM] at h
  simp only[qT,jO] at hi
  rcases hi with hi|hi
  ·have e:=dm hi;subst e
   refine⟨by simp_all,?_⟩
   grind [Ty.aE]
  ·obtain⟨h1,t',v,h2,h3⟩:=z8 h.2 hi
   grind
def aaH(P:Program)(gl:Ctx)(y:Code)(Q:jM→St→Prop):jM→St→Prop
 | .normal,σ=>eR P gl y σ Q
 |_,_=>False
def aaI(gl:Ctx)(jl:List Code)(j:Nat)(H:List (Option aT)):jM→St→Prop
 | .normal,σ=>j=0∧∃σ' m,Wk gl σ σ'∧prune σ'.hp m=H
 | .ret,σ=>(j≠0∧jmp jl j=some .ret)∧∃σ' m,Wk gl σ σ'∧prune σ'.hp m=H
 | .exit i,σ=>(j≠0∧jmp jl j=some (.exit i))∧∃σ' m,Wk gl σ σ'∧prune σ'.hp m=H
 |_,_=>False
theorem HW.ctx{C C':Ctx}{E:Env}{w:World}{hp:List (Option aT)}(h:HW C E w hp)(hg:C'.gl=C.gl)(hb:C'.B E.S w):HW C' E w hp:=
 ⟨h.eH,h.gR,h.fS,h.slt,⟨by rw[hg];exact h.gl.1,hb⟩,h.w8⟩
theorem Ext.add{gl:Ctx}{O O':Nat→Prop}{E E':Env}{w w':World}(h:Ext gl.md O E w O' E' w')(l:Nat):Ext gl.md (fun g=>O g∨g=l) E w (fun g=>O' g∨g=l) E' w' where
 os:=h.os
 tape:=h.tape
 output:=h.output
 size:=h.size
 kept:=fun g hg ho=>h.kept g hg (fun x=>ho (Or.inl x))
 sle:=h.sle
 rp:=fun g hg=>(h.rp g hg).imp id (fun x=>x.imp Or.inl id)
 own:=fun g hg=>by
  rcases hg with hg|hg
  ·exact(h.own g hg).imp Or.inl id
  grind
 LB:=h.LB
theorem Fy.SY{P:Program}{gl:Ctx}{σ:St}{E:Env}{a:Act}{w:World}(hg:dD gl σ E a w){B:(Nat→Prop)→World→Prop}{hB:∀{S S':Nat→Prop}{w w':World},(∀b,S b→w'.heap[b]? =w.heap[b]?)→(∀b,S b→S' b)→B S w→B S' w'}
 (hBu:∀S' w',B S' w'→(∀b,E.S b→S' b)∧(∀b,E.S b→w'.heap[b]? =w.heap[b]?)) {l D k0:Nat} {fn:FuncId} {ps:Array Tmp} {assign body:Code} {gs:Nat→Nat} {ti:List (Nat×Ty)} {m:List (Nat×Nat)} {jl:List Code}
 (hti:∀b i,oX m b=some i→qT i ti=true∧E.g b=some (gs i)∧∀t,(i,t)∈ti→E.bt b=t)
 {args:List AV} {H H':List (Option aT)} {j:Nat} (hps:ps.size=args.length) (hk:Nat.blt k0 16=true) (hkt:qT k0 ti=false) (h0:H[k0]? =some none) (h0':H'[k0]? =some none) (ht:vb H ti=true) (_ht':vb H' ti=true)
 (ao4:eR P (gl.xL l) assign ⟨xp (ps.toList.zip args) (NU m σ.tm),H,[]⟩ (aaH P (gl.xL l) body (aaI (gl.xL l) jl j H'))):
 Fy P (gl.wB B hB) l args ((tie gs ti 0 H).set k0 (some (.lp ⟨l,gs,jj fn a.tmps ps assign body D jl⟩ 0))) (.ret (.val .bool (Nat.beq j 0))) ((tie gs ti 0 H').set k0 (some (.lp ⟨l,gs,jj fn a.tmps ps assign body D jl⟩ j))):=by
 intro E1 w1 vs hv hW
 have hk16:k0<16:=by simp_all
 have lenH:k0<(tie gs ti 0 H).length:=by grind [sO]
 have lenH':k0<(tie gs ti 0 H').length:=by grind [sO]
 have hlp:((tie gs ti 0 H).set k0 (some (.lp ⟨l,gs,jj fn a.tmps ps assign body D jl⟩ 0)))[k0]? =some (some (.lp ⟨l,gs,jj fn a.tmps ps assign body D jl⟩ 0)):=by
  grind
 obtain⟨hgl,hrec⟩:E1.g k0=some l∧w1.heap[l]? =some (.loop (jj fn a.tmps ps assign body D jl 0)):=hW.eH k0 _ hlp
 have at1:∀(i:Nat)(k:aT),H[i]? =some (some k)→i≠k0∧((tie gs ti 0 H).set k0 (some (.lp ⟨l,gs,jj fn a.tmps ps assign body D jl⟩ 0)))[i]? =some (some (rO gs ti i k)):=by
  intro i k hi
  have hne:i≠k0:=fun e=>by grind
  refine⟨hne,?_⟩
  rw[fR,aB (fun e=>hne e.symm)]
  simp_all[DI]
 have hSl:¬E1.S l:=hW.oB k0 _ l hlp hgl
 have hW1:HW (gl.xL l) E1 w1 H:=by
  refine⟨?_,?_,?_,hW.slt,⟨hW.gl.1,trivial⟩,fun i k g hi=>hW.w8 i _ g (at1 i k hi).2⟩
  ·intro i k hi;exact(hW.eH i _ (at1 i k hi).2).aaG
  ·intro i i' k k' g hi hi' g1 g2;exact hW.gR i i' _ _ g (at1 i k hi).2 (at1 i' k' hi').2 g1 g2
  ·intro i k g hi g1;exact hW.fS i _ g (at1 i k hi).2 g1
 have hOl:¬cQ H E1 l:=by
  rintro⟨i,k,hi,hgi⟩
  exact(at1 i k hi).1 (hW.gR i k0 _ _ l (at1 i k hi).2 hlp hgi (Or.inl hgl))
 have hgi:∀i,qT i ti=true→i<16∧E1.g i=some (gs i):=by
  intro i hi
  obtain⟨h1,t,v,h2,_⟩:=z8 ht hi
  have:=hW.eH i _ (at1 i _ h2).2
  simp only[rO,hi,cu] at this
  exact⟨h1,this.1⟩
 obtain⟨b1,b2⟩:=hBu E1.S w1 hW.gl.2
 have hrnp:RnP m E w E1 w1:=by
  refine⟨?_,⟨b2,b1⟩⟩
  intro b i hbi
  obtain⟨c1,c2,c3⟩:=hti b i hbi
  obtain⟨_,t,v,h2,h3⟩:=z8 ht c1
  have:=hW1.eH i _ h2
  exact⟨by grind,by rw[this.1,c3 t h3]⟩
 obtain⟨hl,_⟩:=hv.get
 have hframe:dD (gl.xL l) ⟨xp (ps.toList.zip args) (NU m σ.tm),H,[]⟩ E1 {tmps:=(ps.zip vs.toArray).foldl (fun t (p,v)=>t.setIfInBounds p v) a.tmps,defers:=[]} w1:=by
  have hzip:(ps.zip vs.toArray).foldl (fun t (p,v)=>t.setIfInBounds p v) a.tmps=(ps.toList.zip vs).foldl (fun t(p:Nat×Value)=>t.setIfInBounds p.1 p.2) a.tmps:=by
   rw[←Array.foldl_toList]
   congr 1
   simp
  have:=Fx (ps:=ps.toList) (tm:=NU m σ.tm) (tmps:=a.tmps) hv (by rw[Kn];exact hg.len) (fun i x hx v hv'=>by
   rcases Ko hx with e|⟨y,h1,h2⟩
   ·subst e;trivial
   ·exact RV.sZ hrnp h2 (hg.tm i y h1 v hv'))
  rw[hzip]
  exact⟨this.1,this.2,hW1,trivial⟩
 refine⟨fn,_,assign,body,run_yield hrec (by simp[jj,←hl,hps]),roundIn_of_wpIn (F:=Fence.wide) trivial ?_⟩
 refine wpIn_mono (ao4 E1 _ w1 hframe) ?_
 rintro ex a2 w2 ⟨x,σ2,E2,q1,q2,q3,q4⟩
 cases ex with
 |
  normal=>
  cases x with
  |
   normal=>
   simp only[Exit.then]
   have hlt:l<w1.heap.size:=(Array.getElem?_eq_some_iff.1 hrec).1
   have hrec2:w2.heap[l]? =some (.loop (jj fn a.tmps ps assign body D jl 0)):=by rw[q4.kept l hlt hOl];grind
   have notO:∀{hp:List (Option aT)}{E':Env}{w':World},Ext gl.md (cQ H E1) E1 w1 (cQ hp E') E' w'→¬cQ hp E' l∧¬E'.S l:=by
    intro hp E' w' hx
    constructor
    ·intro ho;rcases hx.own l ho with h|h<;>grind
    ·intro hs;rcases hx.rp l hs with h|h|h<;>grind
   obtain⟨n1,n2⟩:=notO q4
   refine⟨w2.putObj l (.loop {jj fn a.tmps ps assign body D jl 0 with state:=.busy}),run_beginRound hrec2 rfl,?_⟩
   have g2:=q3.frame (o:=.loop {jj fn a.tmps ps assign body D jl 0 with state:=.busy}) n2 n1
   refine wpIn_mono (q2 E2 a2 _ g2) ?_
   rintro ex a3 w3 ⟨x3,σ3,E3,r1,r2,r3,r4⟩
   have lt2:l<w2.heap.size:=(Array.getElem?_eq_some_iff.1 hrec2).1
   have hbusy:w3.heap[l]? =some (.loop {jj fn a.tmps ps assign body D jl 0 with state:=.busy}):=by
    rw[r4.kept l (by simpa using lt2) n1]
    exact World.putObj_heap_same lt2
   have fin:∀(jump:Option Code),jump=jmp jl j→(jump.isNone=Nat.beq j 0)→(∃σ' mm,Wk (gl.xL l) σ3 σ'∧prune σ'.hp mm=H')→
    ∃v w',(Instr.endRound l jump).run P w3= .ok v w'∧∃E',CZ E' w' (.ret (.val .bool (Nat.beq j 0))) (.returned v)∧HW (gl.wB B hB) E' w' ((tie gs ti 0 H').set k0 (some (.lp ⟨l,gs,jj fn a.tmps ps assign body D jl⟩ j)))∧
     Ext gl.md (cQ ((tie gs ti 0 H).set k0 (some (.lp ⟨l,gs,jj fn a.tmps ps assign body D jl⟩ 0))) E1) E1 w1 (cQ ((tie gs ti 0 H').set k0 (some (.lp ⟨l,gs,jj fn a.tmps ps assign body D jl⟩ j))) E') E' w':=by
    rintro jump hj hjn ⟨σ4,mm,hwk,hpr⟩
    obtain⟨E4,g4,x4⟩:=hwk E3 a3 w3 r3
    have hlt3:l<w3.heap.size:=(Array.getElem?_eq_some_iff.1 hbusy).1
    have hnew:({({jj fn a.tmps ps assign body D jl 0 with state:=.busy}:Loop) with state:=if jump.isNone then .ready else .done,pending:=jump}:Loop)=jj fn a.tmps ps assign body D jl j:=by
     grind [jj]
    have hend:=run_endRound (P:=P) jump hbusy
    rw[hnew,hjn] at hend
    have X:=((((q4.add l).trans (Ext.put (o:=.loop {jj fn a.tmps ps assign body D jl 0 with state:=.busy}) (Or.inr rfl))).trans (r4.add l)).trans (x4.add l)).trans (Ext.put (o:=.loop (jj fn a.tmps ps assign body D jl j)) (Or.inr rfl))
    have w4:HW (gl.xL l) E4 w3 H':=by rw[←hpr];exact g4.hw.prune mm
    have sub4:∀g,cQ H' E4 g→cQ σ4.hp E4 g:=by
     rintro g ⟨b,k,hb,hgb⟩
     rw[←hpr] at hb
     exact⟨b,k,mO hb,hgb⟩
    have n4:¬cQ H' E4 l∧¬E4.S l:=by
     have hx:Ext gl.md (cQ H E1) E1 w1 (cQ σ2.hp E2) E2 w2:=q4
     obtain⟨m1,m2⟩:=notO hx
     have m3:¬cQ σ3.hp E3 l∧¬E3.S l:=by
      constructor
      ·intro ho;rcases r4.own l ho with h|h
       ·grind
       ·simp at h;omega
      ·intro hs;rcases r4.rp l hs with h|h|h
       ·grind
       ·grind
       ·simp at h;omega
     constructor
     ·intro ho;rcases x4.own l (sub4 l ho) with h|h<;>grind
     ·intro hs;rcases x4.rp l hs with h|h|h<;>grind
    obtain⟨kp,wf⟩:=w4.frame (o:=.loop (jj fn a.tmps ps assign body D jl j)) n4.2 n4.1
    have gk0:E4.g k0=some l:=by rw[(X.LB k0 hk16).1];exact hgl
    have at4:∀(i:Nat)(k:aT),((tie gs ti 0 H').set k0 (some (.lp ⟨l,gs,jj fn a.tmps ps assign body D jl⟩ j)))[i]? =some (some k)→(i=k0∧k= .lp ⟨l,gs,jj fn a.tmps ps assign body D jl⟩ j)∨(i≠k0∧∃k',H'[i]? =some (some k')∧k=rO gs ti i k'):=by
     intro i k hi
     rw[fR] at hi
     split at hi
     ·grind
     ·rename_i e
      obtain⟨k',h1,h2⟩:=lZ hi
      grind
    have ne4:∀(i:Nat)(k:aT),H'[i]? =some (some k)→¬E4.has i l:=fun i k hi e=>n4.1 ⟨i,k,hi,e⟩
    obtain⟨E5,hE5⟩:∃E5:Env,E5={E4 with P:=fun b g=>b≠k0∧E4.P b g}:=⟨_,rfl⟩
    have e5g:∀b,E5.g b=E4.g b:=fun b=>by rw[hE5]
    have e5S:E5.S=E4.S:=by rw[hE5]
    have e5h:∀b g,E5.has b g→E4.has b g:=fun b g h=>h.imp (fun x=>by grind) (fun x=>by rw[hE5] at x;exact x.2)
    have e5k:∀g,E5.has k0 g→g=l:=fun g h=>by
     rcases h with h|h
     ·grind
     ·rw[hE5] at h;grind
    have kp5:∀w:World,di E4 w E5 w:=fun w=>⟨fun _ _=>rfl,fun g hg=>by grind⟩
    refine⟨_,_,hend,E5,RV.bool,⟨?_,?_,?_,fun g hg=>wf.slt g (by grind),⟨fun x hx=>?_,?_⟩,?_⟩,?_⟩
    ·intro i k hi
     rcases at4 i k hi with⟨e1,e2⟩|⟨hne,k',h1,h2⟩
     ·subst e1;subst e2
      exact⟨by grind,World.putObj_heap_same hlt3⟩
     ·subst h2
      exact RB.mono (kp5 _) (fun b _=>by rw[hE5];grind) (fun _ _=>rfl) (fun _ g hg=>by rw[hE5];grind) ((wf.eH i k' h1).tie (fun hh=>by obtain⟨c1,c2⟩:=hgi i hh;rw[(X.LB i c1).1];exact c2))
    ·intro i i' k k' g hi hi' j1 j2
     rcases at4 i k hi with⟨e1,e2⟩|⟨hne,k2,h1,h2⟩
     ·grind
     ·rcases at4 i' k' hi' with⟨e1',e2'⟩|⟨hne',k2',h1',h2'⟩
      ·grind
      ·exact wf.gR i i' k2 k2' g h1 h1' (e5h _ _ j1) (e5h _ _ j2)
    ·intro i k g hi g1
     rw[e5S]
     rcases at4 i k hi with⟨e1,e2⟩|⟨hne,k2,h1,h2⟩
     ·grind
     ·exact wf.fS i k2 g h1 (e5h _ _ g1)
    ·obtain⟨y1,y2⟩:=wf.gl.1 x hx
     grind
    ·refine hB ?_ (fun b hb=>by rw[e5S];exact X.sle b hb) hW.gl.2
     intro b hb
     refine X.kept b (hW.slt b hb) ?_
     rintro(⟨i,k,hi,hgi'⟩|e)
     ·exact hW.fS i _ b (at1 i k hi).2 hgi' hb
     grind
    ·intro i k g hi g1
     rcases at4 i k hi with⟨e1,e2⟩|⟨hne,k2,h1,h2⟩
     ·subst e1;grind
     ·exact wf.w8 i k2 g h1 (by rw[hE5] at g1;grind)
    ·refine⟨X.os,X.tape,X.output,X.size,?_,fun g hg=>by rw[e5S];exact X.sle g hg,?_,?_,fun b hb=>by rw[hE5];exact X.LB b hb⟩
     ·intro g hgl' ho
      refine X.kept g hgl' ?_
      rintro(⟨i,k,hi,hgi'⟩|e)
      ·exact ho ⟨i,_,(at1 i k hi).2,hgi'⟩
      ·subst e;exact ho ⟨k0,_,hlp,Or.inl hgl⟩
     ·intro g hs
      rw[e5S] at hs
      rcases X.rp g hs with h|h|h
      ·grind
      ·rcases h with⟨i,k,hi,hgi'⟩|e
       ·exact Or.inr (Or.inl ⟨i,_,(at1 i k hi).2,hgi'⟩)
       grind
      grind
     ·rintro g ⟨i,k,hi,hgi'⟩
      have:cQ σ4.hp E4 g∨g=l:=by
       rcases at4 i k hi with⟨e1,e2⟩|⟨hne,k2,h1,h2⟩
       ·grind
       ·exact Or.inl (sub4 g ⟨i,k2,h1,e5h _ _ hgi'⟩)
      rcases X.own g this with h|h
      ·rcases h with⟨i,k,hi,hgi'⟩|e
       ·exact Or.inl ⟨i,_,(at1 i k hi).2,hgi'⟩
       ·subst e;exact Or.inl ⟨k0,_,hlp,Or.inl hgl⟩
      grind
   cases ex with
   |
    normal=>
    cases x3 with
    |normal=>obtain⟨e,hh⟩:=r2;subst e;exact fin none rfl rfl hh
    |_=>trivial
   |
    ret=>
    cases x3 with
    |
     ret=>
     obtain⟨⟨e,e2⟩,hh⟩:=r2
     exact fin (some .ret) e2.symm (by cases j with|zero=>grind|succ j=>rfl) hh
    |_=>trivial
   |
    exit i=>
    cases x3 with
    |
     exit i'=>
     have e0:i'=i:=r1
     subst e0
     obtain⟨⟨e,e2⟩,hh⟩:=r2
     exact fin (some (.exit i')) e2.symm (by cases j with|zero=>grind|succ j=>rfl) hh
    |_=>trivial
   |panic chain=>cases x3<;>first|trivial|trivial
   |goto t=>cases x3<;>exact r1.elim
   |outgrown=>cases x3<;>exact r1.elim
  |_=>trivial
 |ret=>cases x<;>first|trivial|trivial
 |exit i=>cases x<;>first|trivial|trivial
 |panic chain=>cases x<;>first|trivial|trivial
 |goto t=>cases x<;>exact q1.elim
 |outgrown=>cases x<;>exact q1.elim
end Go.Ax
namespace Go.Ax
def IE(P:Program)(gl:Ctx)(tm:List AV)(ps:Array Tmp)(assign body:Code)(k0:Nat)(ti:List (Nat×Ty))(m:List (Nat×Nat))(jl:List Code)(C:Ctx)(y:YC):Prop:=
 ∀(args:List AV)(H H':List (Option aT))(j:Nat),ps.size=args.length→H[k0]? =some none→H'[k0]? =some none→vb H ti=true→vb H' ti=true→
  eR P (gl.xL y.l) assign ⟨xp (ps.toList.zip args) (NU m tm),H,[]⟩ (aaH P (gl.xL y.l) body (aaI (gl.xL y.l) jl j H'))→
  Fy P C y.l args ((tie y.gs ti 0 H).set k0 (some (.lp y 0))) (.ret (.val .bool (Nat.beq j 0))) ((tie y.gs ti 0 H').set k0 (some (.lp y j)))
def gsC(gs:Nat→Nat)(m:List (Nat×Nat))(b:Nat):Nat:=match oX m b with|some i=>gs i|none=>0
def mtC:List (Nat×Nat)→List (Nat×Ty)
 |[]=>[]
 |(b,_)::l=>(b,.unit)::mtC l
theorem Fz{b:Nat}:∀{m:List (Nat×Nat)},qT b (mtC m)=true→∃i,oX m b=some i
 |[],h=>by cases h
 |
  (c,i)::l,h=>by
  simp only[mtC,qT,jO] at h
  unfold oX
  split
  ·grind
  ·rename_i hn
   rcases h with h|h
   ·exact absurd (by rw[dm h];exact Nat.beq_refl c) hn
   ·exact Fz h
def mOK(hp:List (Option aT))(ti:List (Nat×Ty)):List (Nat×Nat)→Bool
 |[]=>true
 |(b,i)::l=>(match hp[b]? with|some (some (.var t _))=>qT i ti&&(ti.all fun x=> !Nat.beq x.1 i||Ty.same x.2 t)|_=>false)&&mOK hp ti l
theorem NV{hp:List (Option aT)}{ti:List (Nat×Ty)}:∀{m:List (Nat×Nat)},mOK hp ti m=true→∀b i,(b,i)∈m→qT i ti=true∧∃t v,hp[b]? =some (some (.var t v))∧∀t',(i,t')∈ti→t'=t
 |[],_,b,i,h=>by cases h
 |
  (c,k)::l,hm,b,i,h=>by
  simp only[mOK,bM] at hm
  rcases List.mem_cons.1 h with e|h
  ·cases e
   have h1:=hm.1
   split at h1
   ·rename_i t v hv
    simp only[bM,mU] at h1
    refine⟨h1.1,t,v,hv,fun t' ht'=>?_⟩
    have:=h1.2 _ ht'
    simp at this
    exact Ty.aE this
   grind
  ·exact NV hm.2 b i h
def NW:List (Option aT)→List (Option aT)
 |[]=>[]
 |some (.tv _ t v)::l=>some (.var t v)::NW l
 |x::l=>x::NW l
theorem oc:∀{l:List (Option aT)}{i:Nat}{k:aT},(NW l)[i]? =some (some k)→∃k',l[i]? =some (some k')∧(k'=k∨∃g t v,k'= .tv g t v∧k= .var t v)
 |[],i,k,h=>by trivial
 |
  x::l,0,k,h=>by
  unfold NW at h
  grind
 |
  x::l,i+1,k,h=>by
  unfold NW at h
  split at h
  ·cases(by assumption:_=_)
  ·rename_i heq;cases heq;simpa using oc (by simpa using h)
  ·rename_i heq;cases heq;simpa using oc (by simpa using h)
theorem dD.NW{gl:Ctx}{σ:St}{E:Env}{a:Act}{w:World}(h:dD gl σ E a w):dD gl {σ with hp:=Ax.NW σ.hp} E a w∧Ext gl.md (cQ σ.hp E) E w (cQ (Ax.NW σ.hp) E) E w:=by
 refine⟨⟨h.len,h.tm,⟨?_,?_,?_,h.hw.slt,h.hw.gl,?_⟩,h.df⟩,{Ext.refl (cQ σ.hp E) E w with own:=?_ }⟩
 ·intro b k hb
  obtain⟨k',h1,h2⟩:=oc hb
  have:=h.hw.eH b k' h1
  rcases h2 with e|⟨g,t,v,e1,e2⟩
  ·grind
  ·subst e1;subst e2
   obtain⟨q0,q1,q2,c,e,q4,q5⟩:=this
   exact⟨q1,q2,g,c,e,q0,q4,q5⟩
 ·intro b b' k k' g hb hb' g1 g2
  obtain⟨k1,h1,_⟩:=oc hb
  obtain⟨k2,h2,_⟩:=oc hb'
  exact h.hw.gR b b' k1 k2 g h1 h2 g1 g2
 ·intro b k g hb g1
  obtain⟨k1,h1,_⟩:=oc hb
  exact h.hw.fS b k1 g h1 g1
 ·intro b k g hb g1
  obtain⟨k1,h1,_⟩:=oc hb
  exact h.hw.w8 b k1 g h1 g1
 ·rintro g ⟨b,k,hb,g1⟩
  obtain⟨k1,h1,_⟩:=oc hb
  exact Or.inl ⟨b,k1,h1,g1⟩
theorem dD.tie{gl:Ctx}{σ:St}{E:Env}{a:Act}{w:World}(h:dD gl σ E a w){gs:Nat→Nat}{ti:List (Nat×Ty)}(hg:∀b,qT b ti=true→E.g b=some (gs b)):dD gl {σ with hp:=Ax.tie gs ti 0 σ.hp} E a w∧Ext gl.md (cQ σ.hp E) E w (cQ (Ax.tie gs ti 0 σ.hp) E) E w:=by
 refine⟨⟨h.len,h.tm,⟨?_,?_,?_,h.hw.slt,h.hw.gl,?_⟩,h.df⟩,{Ext.refl (cQ σ.hp E) E w with own:=?_ }⟩
 ·intro b k hb
  obtain⟨k',h1,h2⟩:=lZ hb
  rw[d9] at h2
  subst h2
  exact(h.hw.eH b k' h1).tie (hg b)
 ·intro b b' k k' g hb hb' g1 g2
  obtain⟨k1,h1,_⟩:=lZ hb
  obtain⟨k2,h2,_⟩:=lZ hb'
  exact h.hw.gR b b' k1 k2 g h1 h2 g1 g2
 ·intro b k g hb g1
  obtain⟨k1,h1,_⟩:=lZ hb
  exact h.hw.fS b k1 g h1 g1
 ·intro b k g hb g1
  obtain⟨k1,h1,_⟩:=lZ hb
  exact h.hw.w8 b k1 g h1 g1
 ·rintro g ⟨b,k,hb,g1⟩
  obtain⟨k1,h1,_⟩:=lZ hb
  exact Or.inl ⟨b,k1,h1,g1⟩
theorem IF{σ:St}{d e:Nat}{k:aT}(hk:k.ids= [])(h:σ.fresh d)(hne:d≠e):({σ with hp:=σ.hp.set e (some k)}:St).fresh d:=by
 have h1:=pw.1 h.1
 refine⟨pw.2 ⟨h1.1,h1.2.1,?_⟩,?_,h.2.2⟩
 ·grind
 ·intro k' hi
  rw[fR,aB (fun x=>hne x.symm)] at hi
  exact h.2.1 k' hi
def wJ(y:YC)(m:List (Nat×Nat))(dI lI:Nat)(hp:List (Option aT)):List (Option aT):=tie (gsC y.gs m) (mtC m) 0 ((hp.set dI (some .AR)).set lI (some (.lp y 0)))
structure aiQ(σ:St)(y:YC)(m:List (Nat×Nat))(dI lI j:Nat)(cs:AV)(cr:CR)(L:List AV)(ins:List (Nat×Option aT))(hpF:List (Option aT)):Prop where
 hr:cr.r= .kj .nil
 hL:qH (qO cr.al) (iL (wJ y m dI lI σ.hp)) (((.func (.yield y.l) .nil .nil,Ty.unit))::cs.toList.map (fun x=>(x,Ty.unit)))=some (L,[])
 nM:mq (qO cr.al) (iL (wJ y m dI lI σ.hp)) cr.ps=some ins
 ig:Dd cr []=true
 hns:((cr.ns.map (·.2)).all (fun b=>({σ with hp:=wJ y m dI lI σ.hp,df:=.mp dI::σ.df}:St).i9 b))=true
 hF1:(bH (wJ y m dI lI σ.hp) (qP (cr.al++cr.ns) cr.out (cr.ps++cr.ns)))[lI]? =some (some (.lp y j))
 hF2:NW ((bH (wJ y m dI lI σ.hp) (qP (cr.al++cr.ns) cr.out (cr.ps++cr.ns))).set lI none)=hpF
theorem eR.rangeFunc{P:Program}{gl:Ctx}{σ:St}{Q:jM→St→Prop}{g:Operand}{ps:Array Tmp}{assign body:Code}(hro:gl.ro=none){gf:FuncId}{cs:AV}(hg:cZ gl σ.tm g= .func (.func gf) .nil cs)
 (dI lI k0:Nat) (hd:σ.i9 dI=true) (hl:σ.i9 lI=true) (hne:Nat.beq dI lI=false) (hk:Nat.blt k0 16=true)
 (ti:List (Nat×Ty)) (m:List (Nat×Nat)) (hkt:qT k0 ti=false) (hm:mOK σ.hp ti m=true) (hmn:oq (m.map (·.2))=true) (jl:List Code) (hcs:cs.atoms=true)
 (hy:∀y:YC,∃j cr L ins hpF,aiQ σ y m dI lI j cs cr L ins hpF∧
  (∀B hB,IE P gl σ.tm ps assign body k0 ti m jl (gl.wB B hB) y→Fc P (gl.wB B hB) gf L (bH (List.replicate cr.m none) ins) (.ret (.kj .nil)) (fh cr.m cr.out))∧
  (match jmp jl j with|none=>Q .normal ⟨σ.tm,hpF,.mp dI::σ.df⟩|some c=>eR P gl c ⟨σ.tm,hpF,.mp dI::σ.df⟩ Q)):eR P gl (.rangeFunc g ps assign body) σ Q:=by
 intro E a w hG
 refine wpIn_rangeFunc ?_
 intro fn _
 have hfd:=St.gF hd
 have hfl:=St.gF hl
 have hnd:lI≠dI:=fun e=>by simp_all
 obtain⟨rec,hrec⟩:∃rec:Nat→Loop,rec=jj fn a.tmps ps assign body w.heap.size jl:=⟨_,rfl⟩
 have hrec0:rec 0={state:=.ready,pending:=none,fn:=fn,tmps:=a.tmps,params:=ps,assign:=assign,body:=body,defers:=w.heap.size}:=by rw[hrec];rfl
 obtain⟨gs,hgs⟩:∃gs:Nat→Nat,gs=fun i=>match oX (qO m) i with|some b=>(E.g b).getD 0|none=>0:=⟨_,rfl⟩
 obtain⟨j,cr,L,ins,hpF,⟨hr,hL,nM,ig,hns,hF1,hF2⟩,hit,hq⟩:=hy ⟨w.heap.size+1,gs,rec⟩
 obtain⟨g1,x1⟩:=hG.fresh (w':=w.alloc (.deferred (some []))) hfd (g:=some w.heap.size) (sv:=undef) (t:=.unit) (k:=.AR) rfl (Tp.r rfl rfl) rfl (by simp) (fun i hi=>heap_alloc_old w _ hi) (fun i hi=>by grind)
  ⟨w.heap.size,by simp[Env.at],heap_alloc_new w _⟩
 have hs1:(w.alloc (.deferred (some []))).heap.size=w.heap.size+1:=by simp
 obtain⟨g2,x2⟩:=g1.fresh (w':=(w.alloc (.deferred (some []))).alloc (.loop (rec 0))) (d:=lI) (IF rfl hfl hnd) (g:=some (w.heap.size+1)) (sv:=undef) (t:=.unit) (k:=.lp ⟨w.heap.size+1,gs,rec⟩ 0) rfl (Tp.r rfl rfl) rfl (by simp) (fun i hi=>heap_alloc_old _ _ hi) (fun i hi=>by grind)
  ⟨by simp[Env.at],by have:=heap_alloc_new (w.alloc (.deferred (some []))) (.loop (rec 0));grind⟩
 generalize hw2:(w.alloc (.deferred (some []))).alloc (.loop (rec 0))=w2 at g2 x2
 generalize hE2:(E.at dI (some w.heap.size) undef .unit).at lI (some (w.heap.size+1)) undef .unit=E2 at g2 x2
 have hE2g:∀b,b≠dI→b≠lI→E2.g b=E.g b:=fun b h1 h2=>by rw[←hE2];simp[Env.at,h1,h2]
 have hE2d:E2.g dI=some w.heap.size:=by rw[←hE2];simp[Env.at,Ne.symm hnd]
 have hE2S:E2.S=E.S:=by rw[←hE2];rfl
 have x12:=x1.trans x2
 have hmu:∀b i,oX m b=some i→qT i ti=true∧E.g b=some (gs i)∧(∀t,(i,t)∈ti→E.bt b=t)∧b≠dI∧b≠lI:=by
  intro b i hbi
  have apF:=uS hbi
  obtain⟨h1,t,v,h2,h3⟩:=NV hm b i apF
  obtain⟨r1,r2,gg,c,e,r3,_⟩:=hG.hw.eH b _ h2
  have hlk:oX (qO m) i=some b:=iv (by grind [jJ,qO,Function.comp_def]) (n7.2 apF)
  refine⟨h1,by grind,fun t' ht'=>by grind,fun e=>?_,fun e=>?_⟩
  ·subst e;exact hfd.2.1 _ h2
  ·subst e;exact hfl.2.1 _ h2
 obtain⟨g3,x3⟩:=g2.tie (gs:=gsC gs m) (ti:=mtC m) (by
  grind [Fz,gsC])
 have g4:dD gl ⟨σ.tm,wJ ⟨w.heap.size+1,gs,rec⟩ m dI lI σ.hp,.mp dI::σ.df⟩ E2 {a with defers:={target:=.collected w.heap.size,args:= #[]}::a.defers} w2:=
  ⟨g3.len,g3.tm,g3.hw,⟨⟨w.heap.size,hE2d,rfl⟩,g3.df⟩⟩
 have hv0:=jX g4 g
 simp only at hv0
 rw[hg] at hv0
 obtain⟨f',c',hev,r1,r2,_,_⟩:=RV.atom rfl hv0
 simp at hev
 have hf':f'= #[]:=by apply mV;exact r1
 subst hf'
 have hav:a.eval g= .func (.func gf) #[] c':=by trivial
 obtain⟨B,hBd⟩:∃B:(Nat→Prop)→World→Prop,B=fun S' w'=>(∀b,E.S b→S' b)∧(∀b,E.S b→w'.heap[b]? =w.heap[b]?):=⟨_,rfl⟩
 have hB:∀{S S':Nat→Prop}{w w':World},(∀b,S b→w'.heap[b]? =w.heap[b]?)→(∀b,S b→S' b)→B S w→B S' w':=by
  simp_all
 have hof:IE P gl σ.tm ps assign body k0 ti m jl (gl.wB B hB) ⟨w.heap.size+1,gs,rec⟩:=by
  intro args H H' j' h1 h2 h3 h4 h5 h6
  rw[hrec]
  exact Fy.SY hG (fun S' w' h=>by grind) (fun b i hbi=>⟨(hmu b i hbi).1,(hmu b i hbi).2.1,(hmu b i hbi).2.2.1⟩) h1 hk hkt h2 h3 h4 h5 h6
 obtain⟨apa,hfn⟩:=hit B hB hof
 have hbb:=dS (wJ ⟨w.heap.size+1,gs,rec⟩ m dI lI σ.hp)
 obtain⟨hφ,hwi⟩:=ya (lent:=[]) g4 hbb (fun b hb=>by cases hb) (nM) (ig)
 have hargs:qV E2 w2 ((((.func (.yield (w.heap.size+1)) .nil .nil,Ty.unit))::cs.toList.map (fun x=>(x,Ty.unit))).map (·.1)) (Value.func (.yield (w.heap.size+1)) #[] #[]::c'.toList):=by
  refine⟨RV.gS (Or.inr ⟨rfl, #[], #[],rfl,rfl,rfl,rfl,rfl⟩),?_⟩
  have:=qV.atoms hcs r2
  have e1:∀l:List AV,(l.map (fun x=>(x,Ty.unit))).map (fun x:AV×Ty=>x.1)=l:=by intro l;induction l<;>simp_all
  grind
 have hv:=rI g4.hw hbb hφ (hL) (fun g hg=>hg) hargs
 have hSe:(E2.eM []).S=fun g=>E.S g∨∃b∈([]:List Nat),E2.g b=some g:=by simp only[Env.eM,hE2S]
 have hwB:HW (gl.wB B hB) (E2.to cr.al (E2.eM []).S) w2 (bH (List.replicate cr.m none) (ins)):=by
  refine hwi.ctx rfl ?_
  show B _ w2
  rw[hBd]
  refine⟨fun b hb=>by show(E2.eM []).S b;grind,fun b hb=>?_⟩
  exact x12.kept b (hG.hw.slt b hb) (fun⟨c,k,hc,hgc⟩=>hG.hw.fS c k b hc hgc hb)
 have hcalls:=hfn _ w2 _ hv hwB
 refine⟨w.heap.size+1,[{target:=.collected w.heap.size,args:= #[]}],w2,{target:=.fn (.func gf) c',args:= #[.func (.yield (w.heap.size+1)) #[] #[]]},w2,gf, #[.func (.yield (w.heap.size+1)) #[] #[]]++c',w2,?_,?_,fun _ _=>trivial,?_,fun h=>(by cases h),?_⟩
 ·simp_all[run_enterLoop_outer]
 ·simp only[resolve,hav]
  simp[go_sem]
 ·simp[invoke,apa]
 ·have e0:(Value.func (.yield (w.heap.size+1)) #[] #[]::c'.toList).toArray= #[.func (.yield (w.heap.size+1)) #[] #[]]++c':=by simp_all
  rw[e0] at hcalls
  have h1:CallsIn Fence.wide 0 P gf _ w2 _:=callsIn_wide.2 hcalls
  refine CallsIn.mono (F:=Wd gl) h1 ?_
  rintro ed w3 ⟨E',hR,hW',hX⟩
  cases ed with
  |panicked ch=>trivial
  |outgrown=>trivial
  |
   returned v=>
   have hWg:HW gl E' w3 (fh cr.m cr.out):=by
    refine hW'.ctx rfl ?_
    have hbs:B E'.S w3:=hW'.gl.2
    rw[hBd] at hbs
    exact gl.mono hbs.2 hbs.1 hG.hw.gl.2
   have hfr:∀b∈cr.ns.map (·.2),(⟨σ.tm,wJ ⟨w.heap.size+1,gs,rec⟩ m dI lI σ.hp,.mp dI::σ.df⟩:St).fresh b:=by
    grind [St.gF]
   have hrr:=hr
   obtain⟨E3,k1,_,k3⟩:=oE (lent:=[]) g4 hbb (fun b hb=>by cases hb) (nM) (ig) hfr hWg hX (r':=.kj .nil) (by rw[hrr];rfl) (v:=v) (by rw[hrr];exact hR)
   have f1:=hF1;have f2:=hF2
   obtain⟨q1,q2⟩:=k1.hw.eH lI _ f1
   obtain⟨k4,x4⟩:=k1.shut f1 q1 (.loop {rec j with state:=.exhausted})
   obtain⟨k5,x5⟩:=k4.NW
   simp only[f2] at k5 x5
   have hst:(rec j).state≠.busy:=by rw[hrec];simp only[jj];grind
   refine⟨(rec j).pending,_,run_endLoop q2 hst,?_⟩
   have hpe:(rec j).pending=jmp jl j:=by rw[hrec];rfl
   have X:=(((x12.trans x3).trans k3).trans x4).trans x5
   generalize hwF:w3.putObj (w.heap.size+1) (.loop {rec j with state:=.exhausted})=wF at k5 X
   generalize (rec j).pending=pe at hpe
   subst hpe
   revert hq
   cases jmp jl j with
   |
    none=>
    intro hq
    exact⟨.normal,_,E3,trivial,hq,k5,X⟩
   |
    some c=>
    intro hq
    refine wpIn_mono (hq E3 _ _ k5) ?_
    rintro ex a5 w5 ⟨x,σ5,E5,z1,z2,z3,z4⟩
    exact⟨x,σ5,E5,z1,z2,z3,X.trans z4⟩
end Go.Ax
namespace Go.Ax
theorem Fc.up{P:Program}{C C':Ctx}{f:FuncId}{A:List AV}{H H':List (Option aT)}{r:A5}(hg:C'.gl=C.gl)(hC:∀S w,C.B S w)(h:Fc P C f A H r H')(hm:C'.md=C.md:=by rfl):Fc P C' f A H r H':=by
 refine⟨h.1,fun E w vs hv hw=>?_⟩
 have:=h.2 E w vs hv (hw.ctx hg.symm (hC _ _))
 intro cs
 obtain⟨e,w',fr,⟨E',r1,r2,r3⟩,rest⟩:=this cs
 rw[←hm] at r3
 exact⟨e,w',fr,⟨E',r1,r2.ctx hg (hw.ko (hw.kept r3)).2,r3⟩,rest⟩
end Go.Ax
noncomputable section
namespace Go.Ax
def y0:YC:=⟨0,fun n=>n,fun _=>default⟩
inductive CF(D T:Type) where
 |bY (f:D→Option T)
 |nZ (s:Sh) (f:D→Option (Sum (prod (s.H [])) T))
def gQ{A B R:Type}(x:Option (Sum A B))(kp:A→Option R)(k:B→Option R):Option R:=
 Option.bind x fun r=>match r with
  | .inl a=>kp a
  | .inr b=>k b
theorem LZ{A B R:Type}{x:Option (Sum A B)}{kp:A→Option R}{k:B→Option R}{r:R}(h:gQ x kp k=some r):(∃a,x=some (.inl a)∧kp a=some r)∨∃b,x=some (.inr b)∧k b=some r:=by
 unfold gQ at h
 cases x<;>grind
def CF.run{D T R:Type}:CF D T→D→(T→Option R)→(AV→Option R)→Option R
 | .bY f,d,K,_=>Option.bind (f d) fun r=>K r
 | .nZ s f,d,K,KP=>gQ (f d) (fun p=>KP (s.V y0 p)) fun r=>K r
def CF.aaL{D T:Type}:CF D T→D→T→Prop
 | .bY f,d,r=>f d=some r
 | .nZ _ f,d,r=>f d=some (.inr r)
def CF.aaM{D T:Type}:CF D T→D→AV→Prop
 | .bY _,_,_=>False
 | .nZ s f,d,x=>∃p,f d=some (.inl p)∧x=s.V y0 p
theorem CF.FA{D T R:Type}{c:CF D T}{d:D}{K:T→Option R}{KP:AV→Option R}{r:R}(h:c.run d K KP=some r):(∃y,c.aaL d y∧K y=some r)∨∃x,c.aaM d x∧KP x=some r:=by
 cases c with
 |bY f=>obtain⟨y,h1,h2⟩:=bind_some h;exact Or.inl ⟨y,h1,h2⟩
 |
  nZ s f=>
  rcases LZ h with⟨p,h1,h2⟩|⟨y,h1,h2⟩
  ·exact Or.inr ⟨_,⟨p,h1,rfl⟩,h2⟩
  ·exact Or.inl ⟨y,h1,h2⟩
structure bG where
 fn:Fn
 A:List Sh
 B:List (Nat×jQ)
 m:Nat
 F:SS
 res:F.T→AV
 out:F.T→List (Nat×aT)
 f:CF (prod (xJ A (lQ B []))) F.T
abbrev bG.D(C:bG):Type:=prod (xJ C.A (lQ C.B []))
def bG.args(C:bG)(d:C.D):List AV:=DE y0 C.A d
def bG.ins(C:bG)(d:C.D):List (Nat×Option aT):=fu (tC y0 C.B (DF C.A d))
structure bG.holds(P:Program)(gl:Ctx)(C:bG):Prop where
 ret:∀d r,C.f.aaL d r→Nf P gl C.fn (C.args d) (bH (List.replicate C.m none) (C.ins d)) (.ret (C.res r)) (fh C.m (C.out r))
 nZ:∀d x,C.f.aaM d x→Nf P gl C.fn (C.args d) (bH (List.replicate C.m none) (C.ins d)) (.nZ x) (fh C.m [])
def SZ:(m:List (Nat×jQ))→{l:List Type}→List (Nat×Option aT)→prod l→Option (prod (lQ m l))
 |[],_,[],d=>some d
 |
  (i,s)::m,_,(j,some k)::hp,d=>if Nat.beq i j then(match SZ m hp d with
  |some e=>s.G k e
  |none=>none) else none
 |_,_,_,_=>none
theorem DJ(y:YC):∀{m:List (Nat×jQ)}{l:List Type}{hp:List (Nat×Option aT)}{d:prod l}{e:prod (lQ m l)},SZ m hp d=some e→fu (tC y m e)=hp∧XS m e=d
 |
  [],l,hp,d,e,h=>by
  cases hp with
  |nil=>cases h;trivial
  |cons _ _=>trivial
 |
  (i,s)::m,l,hp,d,e,h=>by
  match hp,h with
  |[],h=>trivial
  |(j,none)::hp,h=>trivial
  |
   (j,some k)::hp,h=>
   obtain⟨hs,h0⟩:=dn h
   have:=dm hs;subst this
   split at h0
   ·rename_i e' he
    obtain⟨h1,h2⟩:=DJ y he
    obtain⟨g1,g2⟩:=jQ.A7 y h0
    exact⟨by simp only[tC,fu];rw[g1,g2,h1],by simp only[XS];rw[g2,h2]⟩
   grind
def bG.get(C:bG)(L:List AV)(I:List (Nat×Option aT)):Option C.D:=
 match SZ C.B (l:=[]) I () with
 |some d=>WH C.A L d
 |none=>none
theorem bG.i7{C:bG}{L:List AV}{I:List (Nat×Option aT)}{d:C.D}(h:C.get L I=some d):C.args d=L∧C.ins d=I:=by
 unfold bG.get at h
 split at h
 ·rename_i d1 h1
  obtain⟨a1,a2⟩:=DJ y0 h1
  obtain⟨b1,b2⟩:=DG y0 h
  exact⟨b1,by unfold bG.ins;grind⟩
 grind
structure CH where
 XT:List Nat
 ps:List (Nat×Nat)
 ns:List (Nat×Nat)
 ks:List (Nat×Nat):=[]
 us:List Nat:=[]
def CH.al(ch:CH):List (Nat×Nat):=match ch.ks with
 |[]=>ch.ps
 |k::ks=>ch.ps++k::ks
inductive KS where
 |t (s:Nat)
 |c (s:Nat) (p:Path)
def KS.get(σ:St):KS→Option AV
 | .t s=>σ.tm[s]?
 |
  .c s p=>match σ.tm[s]? with
  |
   some (.ptr b q)=>match iL σ.hp b with
   |some (.var _ v)=>v.get (q++p)
   |_=>none
  |_=>none
inductive PF where
 |row (b d:Nat) (k:KS)
 |map (mode b d:Nat) (k:KS)
 |iY (b:Nat)
structure RH where
 pre:List Gh
 zs:List (Nat×Nat×Ty)
 cs:List CH
 mg:Option (List (Nat×Ty)):=none
 foc:List (Nat×Nat):=[]
 pf:List PF:=[]
 post:List Gh:=[]
structure LH where
 S:SS
 fuel:S.T→Nat
structure S0 where
 ic:Nat
 dI:Nat
 lI:Nat
 ti:List (Nat×Ty)
 m:List (Nat×Nat)
 jl:List Code
 ps:List (Nat×Nat)
 ns:List (Nat×Nat)
 S:SS
 E:SS
structure Hs where
 reg:List (Nat×RH)
 join:List (Nat×SS)
 eH:List (Nat×SS)
 loop:List (Nat×LH)
 unr:List (Nat×Nat)
 AY:List (Nat×S0):=[]
def ifs{R:Type}:List VC→Option R→Option R
 |[],x=>x
 |v::l,x=>@ite _ v.p v.d (ifs l x) none
theorem i3{R:Type}{r:R}:∀{l:List VC}{x:Option R},ifs l x=some r→fX l∧x=some r
 |[],x,h=>⟨trivial,h⟩
 |
  v::l,x,h=>by
  unfold ifs at h
  by_cases hp:v.p
  ·rw[@if_pos _ v.d hp] at h
   obtain⟨h1,h2⟩:=i3 h
   trivial
  grind
def vf(G:dq)(al ps:List (Nat×Nat))(ev:Operand→AV)(hb:Nat→Option aT)(c:Call):Option (Fn×List AV×List (Nat×Option aT)):=
 match c.callee with
 |
  .value cf=>match Np (ev cf) with
  |
   some (fn,fl,cl)=>
   match qH (qO al) hb (fl.map (fun x=>(x,Ty.unit))++(c.args.toList.zip c.argTypes.toList).map (xg G ev)++cl.map (fun x=>(x,Ty.unit))),mq (qO al) hb ps with
   |some (L,_),some ins=>some (fn,L,ins)
   |_,_=>none
  |_=>none
 |
  .invoke rv name=>match JU G hb name (ev rv) with
  |
   some (f,x,xt)=>
   match qH (qO al) hb ((x,xt)::(c.args.toList.zip c.argTypes.toList).map (xg G ev)),mq (qO al) hb ps with
   |some (L,_),some ins=>some (.func f,L,ins)
   |_,_=>none
  |_=>none
 |_=>none
def L0(P:Program)(gl:Ctx)(cr:CR)(x:Option (Fn×List AV×List (Nat×Option aT))):Prop:=
 ∀fn L ins,x=some (fn,L,ins)→Nf P gl fn L (bH (List.replicate cr.m none) ins) cr.fin (fh cr.m cr.out)
theorem Aa{P:Program}{G:dq}{gl:Ctx}{cr:CR}{ev:Operand→AV}{hb:Nat→Option aT}{c:Call}{e:jf}{ob:List Prop}(h:tR P G gl cr ev hb c=some (e,ob))(hob:L0 P gl cr (vf G cr.al cr.ps ev hb c)):∀p∈ob,p:=by
 unfold tR at h
 split at h
 ·rename_i cf hcf
  split at h
  ·rename_i fn fl cl hfv
   split at h
   ·rename_i L lent ins r' hL nM hr'
    split at h
    ·cases h
     intro p hp
     simp only[ln] at hp
     subst hp
     refine hob fn L ins ?_
     grind [vf]
    grind
   grind
  grind
 ·rename_i rv name hcf
  split at h
  ·rename_i f x xt hfv
   split at h
   ·rename_i L lent ins r' hL nM hr'
    split at h
    ·cases h
     intro p hp
     simp only[ln] at hp
     subst hp
     refine hob (.func f) L ins ?_
     grind [vf]
    grind
   grind
  grind
 grind
def Ab(G:dq)(gl:Ctx)(ops:Array Oper)(al ps:List (Nat×Nat))(z:List (Nat×Ty))(σ:St)(i:Nat):Option (Fn×List AV×List (Nat×Option aT)):=
 match ops[i]? with
 |none=>none
 |
  some o=>match o.op with
  |
   .call c=>match z with
   |[]=>vf G al ps (cZ gl σ.tm) (j5 (xf o.op (cZ gl σ.tm)++ps.map (·.2)) σ.hp) c
   |z=>vf G al ps (Mg (j5 (qU (cZ gl σ.tm) z) σ.hp) z (cZ gl σ.tm)) (j5 (xf o.op (Mg (j5 (qU (cZ gl σ.tm) z) σ.hp) z (cZ gl σ.tm))++ps.map (·.2)) (bH σ.hp (iy (oO (j5 (qU (cZ gl σ.tm) z) σ.hp) (cZ gl σ.tm) z)))) c
  |_=>none
theorem FB{P:Program}{G:dq}{gl:Ctx}{d:Nat}{cr:CR}{op:Op}{ev:Operand→AV}{hb:Nat→Option aT}{e:jf}{ob:List Prop}(h:rY P G gl d cr op ev hb=some (e,ob)):
 ob= []∨∃c e',op= .call c∧qp op=true∧tR P G gl cr ev hb c=some (e',ob):=by
 unfold rY at h
 split at h
 ·rename_i c
  split at h
  ·simp only[jn,iX] at h
   grind
  ·rename_i hb
   simp only[w7] at h
   obtain⟨⟨e',ob'⟩,h,hk⟩:=h
   have:=Tg hk
   simp only at this
   subst this
   refine Or.inr ⟨c,e',rfl,?_,h⟩
   obtain⟨callee,args,tys⟩:=c
   cases callee with
   |builtin b=>grind
   |value _=>rfl
   |invoke _ _=>rfl
 ·simp only[jn,iX] at h
  grind
theorem oJ{P:Program}{G:dq}{gl:Ctx}{ops:Array Oper}{cr:CR}{z:List (Nat×Ty)}{σ:St}{i:Nat}{f:bK}{vc:List VC}{ob:List Prop}(h:gU P G gl ops cr z σ i=some (f,vc,ob))(hob:AH ops i=true→L0 P gl cr (Ab G gl ops cr.al cr.ps z σ i)):∀p∈ob,p:=by
 unfold gU at h
 split at h
 ·cases h
 ·rename_i o ho
  have hat:AH ops i=qp o.op:=by unfold AH;rw[ho]
  split at h
  ·cases h
  ·grind
  ·split at h
   ·split at h
    ·cases h
    ·rename_i e ob' he
     cases h
     rcases FB he with rfl|⟨c,e',hop,hc,he'⟩
     ·grind
     grind [Aa,Ab]
   ·rename_i hz
    split at h
    ·cases h
    ·rename_i e ob' he
     cases h
     rcases FB he with rfl|⟨c,e',hop,hc,he'⟩
     ·grind
     ·refine Aa he' ?_
      simp_all[Ab]
def fnK{R:Type}:Fn→Fn→Option R→Option R→Option R
 | .func f,.func g,K,E=>if Nat.beq f g then K else E
 | .yield l,.yield l',K,_=>ifs [vc (l=l')] K
 |_,_,_,E=>E
theorem FC{R:Type}{f g:Fn}{K E:Option R}{r:R}(h:fnK f g K E=some r):(f=g∧K=some r)∨E=some r:=by
 cases f with
 |
  func f=>
  cases g with
  |
   func g=>
   grind [fnK,dm]
  |_=>exact Or.inr h
 |
  yield l=>
  cases g with
  |
   yield l'=>
   obtain⟨h1,h2⟩:=i3 h
   exact Or.inl ⟨by rw[h1.1],h2⟩
  |_=>exact Or.inr h
 |_=>exact Or.inr h
noncomputable def FD(a b:aT){R:Type}(x:Option R):Option R:=@ite _ (some a=some b) (Classical.propDecidable _) x none
theorem dU{a:aT}{R:Type}{x:Option R}:FD a a x=x:=aA rfl
def FE{R:Type}(Γ:List bG)(ps ns ks:List (Nat×Nat))(us:List Nat)(fn:Fn)(L:List AV)(I:List (Nat×Option aT))(K:CR→Option R):List Nat→Option R
 |[]=>none
 |
  c::l=>match Γ[c]? with
  |
   some C=>fnK fn C.fn (match C.get L I with
   |some d=>C.f.run d (fun r=>K ⟨C.res r,ps,ns,C.out r,C.m,false,ks,us⟩) fun x=>K ⟨x,ps,[],[],C.m,true,ks,[]⟩
   |none=>FE Γ ps ns ks us fn L I K l) (FE Γ ps ns ks us fn L I K l)
  |none=>none
def NX(Γ:List bG)(ch:CH)(x:Option (Fn×List AV×List (Nat×Option aT))){R:Type}(K:CR→Option R):Option R:=
 match x with
 |some (fn,L,I)=>FE Γ ch.ps ch.ns ch.ks ch.us fn L I K ch.XT
 |none=>none
theorem Ac{P:Program}{gl:Ctx}{Γ:List bG}(hΓ:∀C∈Γ,C.holds P gl){ps ns ks:List (Nat×Nat)}{us:List Nat}{fn:Fn}{L:List AV}{I:List (Nat×Option aT)}{R:Type}{K:CR→Option R}{r:R}:∀{l:List Nat},FE Γ ps ns ks us fn L I K l=some r→
 ∃cr,K cr=some r∧cr.ps=ps∧cr.ks=ks∧L0 P gl cr (some (fn,L,I))
 |[],h=>by cases h
 |
  c::l,h=>by
  unfold FE at h
  split at h
  ·rename_i C hC
   rcases FC h with⟨hf,h⟩|h
   ·split at h
    ·rename_i d hd
     obtain⟨h1,h2⟩:=bG.i7 hd
     have hC:=hΓ C (nT hC)
     have key:∀(cr:CR),K cr=some r→cr.ps=ps→cr.ks=ks→Nf P gl C.fn (C.args d) (bH (List.replicate cr.m none) (C.ins d)) cr.fin (fh cr.m cr.out)→∃cr,K cr=some r∧cr.ps=ps∧cr.ks=ks∧L0 P gl cr (some (fn,L,I)):=by
      intro cr h hp hk hh
      refine⟨cr,h,hp,hk,?_⟩
      intro fn' L' I' e
      grind
     rcases CF.FA h with⟨y,hy,h⟩|⟨x,hx,h⟩
     ·exact key _ h rfl rfl (hC.ret d y hy)
     ·exact key _ h rfl rfl (hC.nZ d x hx)
    ·exact Ac hΓ h
   ·exact Ac hΓ h
  grind
theorem NY{P:Program}{gl:Ctx}{Γ:List bG}(hΓ:∀C∈Γ,C.holds P gl){ch:CH}{x:Option (Fn×List AV×List (Nat×Option aT))}{R:Type}{K:CR→Option R}{r:R}(h:NX Γ ch x K=some r):
 ∃cr,K cr=some r∧cr.ps=ch.ps∧cr.ks=ch.ks∧L0 P gl cr x:=by
 unfold NX at h
 split at h
 ·exact Ac hΓ h
 grind
theorem CH.UC{ch:CH}{cr:CR}(h1:cr.ps=ch.ps)(h2:cr.ks=ch.ks):cr.al=ch.al:=by
 obtain⟨_,ps,_,_,_,_,ks,_⟩:=cr
 obtain⟨_,ps',_,ks',_⟩:=ch
 cases h1
 cases h2
 trivial
def cr0:CR:=⟨.bot,[],[],[],0,false,[],[]⟩
def S1{R:Type}(s:Bool)(f:bK)(K:bK→Option R):Option R:=
 match s with
 |false=>K f
 |
  true=>match f.v with
  | .val .bool e=>if e=true then K {f with v:=.val .bool true} else K {f with v:=.val .bool false}
  |_=>K f
theorem BB{R:Type}{s:Bool}{f:bK}{K:bK→Option R}{r:R}(h:S1 s f K=some r):K f=some r:=by
 unfold S1 at h
 split at h
 ·exact h
 ·split at h
  ·rename_i e he
   obtain⟨rt,rb,fr,dst,v,hw⟩:=f
   grind
  grind
def S2{R:Type}:List (Option Nat)→Nat→Int→bK→(bK→Option R)→Option R
 |[],_,_,_,_=>none
 |g::gs,n,e,f,K=>if e=(n:Int) then K {f with v:=Lz g} else S2 gs (n+1) e f K
def NZ{R:Type}(ok:Bool)(k0:Ty)(k:k0.den)(f:bK)(K:bK→Option R):List (k0.den×AV)→Option R
 |[]=>K {f with v:=okF ok .jt false}
 |x::l=>if bN k0 k x.1=true then K {f with v:=okF ok x.2 true} else NZ ok k0 k f K l
theorem BC{R:Type}{ok:Bool}{k0:Ty}{k:k0.den}{f:bK}{K:bK→Option R}{r:R}:∀{l:List (k0.den×AV)},f.v=qL ok k0 k l→NZ ok k0 k f K l=some r→K f=some r
 |
  [],hv,h=>by
  simp only[qL] at hv
  simp only[NZ] at h
  rw[←hv] at h;exact h
 |
  x::l,hv,h=>by
  simp only[qL] at hv
  simp only[NZ] at h
  split at h
  ·rename_i hb;rw[aA hb] at hv;rw[←hv] at h;exact h
  ·rename_i hb;rw[aB hb] at hv;exact BC hv h
def S3{R:Type}(b:Nat)(p:Path):Nat→Nat→Int→bK→(bK→Option R)→Option R
 |0,_,_,_,_=>none
 |m+1,n,e,f,K=>if e=(n:Int) then K {f with v:=.ptr b (p++[.idx n])} else S3 b p m (n+1) e f K
theorem BD{R:Type}{f:bK}{K:bK→Option R}{r:R}{b:Nat}{p:Path}{e:Int}(hv:f.v= .ptr b (p++[.idx e.toNat])):∀{m n:Nat},S3 b p m n e f K=some r→K f=some r
 |0,_,h=>by cases h
 |
  m+1,n,h=>by
  unfold S3 at h
  split at h
  ·rename_i he
   subst he
   rw[dT] at hv
   rw[←hv] at h
   exact h
  ·exact BD hv h
def aaO(hb:Nat→Option aT)(b:Nat)(p:Path):Option Nat:=
 match hb b with
 |
  some k=>match(mu k).sub p with
  |some (.fns n)=>some n
  |_=>none
 |none=>none
theorem L1{P:Program}{G:dq}{d:Nat}{t:TypeId}{x j:Operand}{ev:Operand→AV}{hb:Nat→Option aT}{r:jf}{b:Nat}{p:Path}{k:IntKind}{e:Int}(h:rX P G d (.indexAddr t x j) ev hb=some r)(hx:ev x= .ptr b p)(hj:ev j= .val (.int k) e):r.v= .ptr b (p++[.idx e.toNat]):=by
 simp only[rX,HX,zC,Az,AB,AD,AE,AF,hx,hj,nY] at h
 split at h
 ·rename_i r' h
  cases h
  rename_i h
  obtain⟨⟨u,vc⟩,h,rfl⟩:=Option.map_eq_some_iff.1 h
  unfold mG at h
  split at h
  ·split at h
   ·grind
   ·grind
   ·grind
   ·grind
   ·rename_i h2
    cases h2
    split at h
    ·split at h
     ·split at h
      ·cases h;rfl
      grind
     grind
    grind
   ·rename_i h2
    cases h2
    split at h
    ·split at h
     ·split at h
      ·cases h;rfl
      grind
     grind
    grind
   ·grind
   grind
  grind
 grind
def WK{R:Type}(gl:Ctx)(ops:Array Oper)(σ:St)(i:Nat)(f:bK)(K:bK→Option R):Option R:=
 match ops[i]? with
 |
  some o=>match o.guard,o.op with
  |
   none,.indexAddr _ x j=>match cZ gl σ.tm x,cZ gl σ.tm j with
   |
    .ptr b p,.val (.int _) e=>match aaO (iL σ.hp) b p with
    |some n=>S3 b p n 0 e f K
    |none=>K f
   |_,_=>K f
  |
   none,.index _ x j=>match cZ gl σ.tm x,cZ gl σ.tm j with
   | .val (.fns _) xs,.val (.int _) e=>S2 xs 0 e f K
   |_,_=>K f
  |
   none,.lookup _ x k ok=>match cZ gl σ.tm x with
   |
    .mp b=>match iL σ.hp b with
    |
     some (.kT k0 l)=>match(cZ gl σ.tm k).de k0 with
     |some k'=>NZ ok k0 k' f K l
     |none=>K f
    |_=>K f
   |_=>K f
  |_,_=>K f
 |none=>K f
theorem BE{R:Type}{f:bK}{K:bK→Option R}{r:R}{ys:List (Option Nat)}{e:Int}(hv:f.v=Lz (ys.getD e.toNat none)):∀{xs:List (Option Nat)}{n:Nat},(∀k,ys.getD (n+k) none=xs.getD k none)→S2 xs n e f K=some r→K f=some r
 |[],_,_,h=>by cases h
 |
  g::gs,n,hx,h=>by
  unfold S2 at h
  split at h
  ·rename_i he
   subst he
   have:ys.getD n none=g:=by simpa using hx 0
   rw[dT,this] at hv
   rw[←hv] at h
   exact h
  ·refine BE hv (fun k=>?_) h
   have:=hx (k+1)
   rw[show n+1+k=n+(k+1) by omega,this]
   simp
theorem L2{P:Program}{G:dq}{R:Type}{gl:Ctx}{ops:Array Oper}{cr:CR}{σ:St}{i:Nat}{f:bK}{vc:List VC}{ob:List Prop}{K:bK→Option R}{r:R}(hs:gU P G gl ops cr [] σ i=some (f,vc,ob))(h:WK gl ops σ i f K=some r):K f=some r:=by
 unfold WK at h
 split at h
 ·rename_i o ho
  split at h
  ·rename_i t x j hg hop
   split at h
   ·rename_i b p k e hx hj
    split at h
    ·rename_i n hn
     have hv:f.v= .ptr b (p++[.idx e.toNat]):=by
      grind [gU,guardOf,rY,jn,L1]
     exact BD hv h
    grind
   grind
  ·rename_i t x j hg hop
   split at h
   ·rename_i n xs k e hx hj
    have hv:f.v=Lz (xs.getD e.toNat none):=by
     unfold gU at hs
     rw[ho] at hs
     simp only[guardOf,hg,hop] at hs
     simp only[rY,rX,HX,zC,Az,AB,AD,AE,AF,hx,hj] at hs
     split at hs
     ·cases hs
     ·rename_i e' ob' he
      cases hs
      simp only[jn,iX] at he
      obtain⟨a,ha,rfl,rfl⟩:=he
      split at ha
      case h_2=>cases ha
      rename_i a' ha'
      cases ha
      simp only[jn] at ha'
      obtain⟨b,hb,rfl⟩:=ha'
      unfold yv at hb
      split at hb
      ·split at hb
       ·grind
       ·rename_i m m' ys k' n' h1 h2 h3
        cases h2;cases h3
        split at hb
        ·cases hb;rfl
        grind
       ·grind
       grind
      grind
    exact BE hv (fun k=>by simp) h
   grind
  ·rename_i t x k ok hg hop
   split at h
   ·rename_i b hx
    split at h
    ·rename_i k0 l hbk
     split at h
     ·rename_i k' hk
      have hv:f.v=qL ok k0 k' l:=by
       grind [gU,guardOf,rY,jn,F5,iL,j5]
      exact BC hv h
     grind
    grind
   grind
  grind
 grind
def aaP{R:Type}(gl:Ctx)(ops:Array Oper)(σ:St)(i:Nat)(z:List (Nat×Ty))(f:bK)(K:bK→Option R):Option R:=
 match z with
 |[]=>WK gl ops σ i f (fun f=>S1 (ON ops.toList i) f K)
 |_::_=>S1 (ON ops.toList i) f K
section
variable(P:Program) (G:dq) (gl:Ctx) (Γ:List bG)
def wK(ops:Array Oper)(σ:St)(i:Nat):Bool:=
 match ops[i]? with
 |
  some o=>match guardOf ops σ.tm o with
  |some b=>b
  |none=>false
 |none=>false
def FF(ops:Array Oper){R:Type}(i:Nat)(σ:St)(z:List (Nat×Ty))(x:Option (bK×List VC×List Prop))(K:bK→Option R):Option R:=
 match x with
 |some (f,vcs,_)=>if f.fr.all σ.i9 then ifs vcs (aaP gl ops σ i z f K) else none
 |none=>none
def N0(gl:Ctx)(ops:Array Oper)(σ:St)(i:Nat):Option bK:=
 match ops[i]? with
 |
  some o=>match o.guard,o.op with
  |
   none,.panic x=>match cZ gl σ.tm x with
   | .iface t v=>some ⟨slotsOf [x],[],[],none,.iface t v,[]⟩
   |_=>none
  |_,_=>none
 |none=>none
def aaQ{R:Type}(x:Option (bK×List VC×List Prop))(KP:bK→Option R):Option R:=
 match x with
 |some (f,_,_)=>if f.fr.isEmpty then KP f else none
 |none=>none
def qi(ops:Array Oper)(zs:List (Nat×Nat×Ty)){R:Type}(K:List bK→St→Option R)(KP:List bK→bK→St→Option R):Nat→Nat→List CH→St→List bK→Option R
 |0,_,_,σ,fs=>K fs σ
 |
  n+1,i,cs,σ,fs=>
  if AH ops i&&wK ops σ i then(match cs with
   |
    ch::cs'=>NX Γ ch (Ab G gl ops ch.al ch.ps (UL zs i) σ i) fun cr=>match cr.nZ with
    |false=>FF gl ops i σ (UL zs i) (gU P G gl ops cr (UL zs i) σ i) fun f=>qi ops zs K KP n (i+1) cs' (σ.app f) (f::fs)
    |true=>aaQ (gU P G gl ops cr (UL zs i) σ i) fun f=>KP fs f σ
   |[]=>none)
  else match N0 gl ops σ i with
  |some f=>KP fs f σ
  |none=>FF gl ops i σ (UL zs i) (gU P G gl ops cr0 (UL zs i) σ i) fun f=>qi ops zs K KP n (i+1) (if AH ops i then cs.tail else cs) (σ.app f) (f::fs)
end
theorem Ad{P:Program}{G:dq}{gl:Ctx}{ops:Array Oper}{cr:CR}{z:List (Nat×Ty)}{σ:St}{i:Nat}{f:bK}{vc:List VC}{ob:List Prop}{o:Oper}(h:gU P G gl ops cr z σ i=some (f,vc,ob))(ho:ops[i]? =some o):f.dst=o.dst:=by
 grind [gU]
theorem FH{P:Program}{G:dq}{gl:Ctx}{ops:Array Oper}{R:Type}{i:Nat}{σ:St}{cr:CR}{z:List (Nat×Ty)}{K:bK→Option R}{r:R}{f:bK}{vc:List VC}{ob:List Prop}(hs:gU P G gl ops cr z σ i=some (f,vc,ob))(h:aaP gl ops σ i z f K=some r):K f=some r:=by
 cases z with
 |nil=>exact BB (L2 hs h)
 |cons _ _=>exact BB h
theorem Ae{P:Program}{G:dq}(T:cL P G){gl:Ctx}{ops:Array Oper}{R:Type}{i:Nat}{σ:St}{cr:CR}{z:List (Nat×Ty)}{K:bK→Option R}{r:R}(apf:cr.nZ=false)(hob:AH ops i=true→L0 P gl cr (Ab G gl ops cr.al cr.ps z σ i))(h:FF gl ops i σ z (gU P G gl ops cr z σ i) K=some r):
 ∃f,(tM P gl ops i f σ∧∀o,ops[i]? =some o→f.dst=o.dst)∧(∀d∈f.fr,σ.fresh d)∧K f=some r:=by
 unfold FF at h
 split at h
 ·rename_i f vcs ob hs
  obtain⟨hf,h⟩:=dn h
  grind [i3,oQ,oJ,Ad,FH,St.gF]
 grind
theorem S4{P:Program}{G:dq}{gl:Ctx}{ops:Array Oper}{σ:St}{i:Nat}{cr:CR}{z:List (Nat×Ty)}{f:bK}{vc:List VC}{ob:List Prop}(h:gU P G gl ops cr z σ i=some (f,vc,ob))(hg:wK ops σ i=false):ob= []:=by
 grind [gU,wK]
theorem N1{P:Program}{gl:Ctx}{ops:Array Oper}{σ:St}{i:Nat}{f:bK}(h:N0 gl ops σ i=some f):F8 P gl ops i f σ:=by
 unfold N0 at h
 split at h
 ·rename_i o ho
  split at h
  ·rename_i x hgd hop
   split at h
   ·rename_i t v hx
    cases h
    intro σ' ha E a w hg K Q hQ
    unfold wpOpIn
    simp only[ho]
    have hw:=jL hg (ops:=ops) (o:=o) (c:=true) (by unfold guardOf;rw[hgd])
    rw[hw]
    simp only[cu]
    have hv:=jX hg x
    rw[ml ha (x:=x) (fun t ht=>by grind [slotsOf]),hx] at hv
    obtain⟨u,e,_⟩:=RV.atom rfl hv
    simp at e
    unfold Oper.wpIn
    refine⟨fun _ _=>trivial,?_⟩
    rw[Oper.semAt_eq _ _ _ (by grind)]
    have ao4:(execOp a.eval o).run P w= .halt (.panic (a.eval x)) w:=by
     simp[execOp,hop,e,Instr.panic]
    rw[ao4]
    exact hQ E (a.eval x) w hg hv (Ext.refl _ _ _)
   grind
  grind
 grind
theorem FJ{ops:Array Oper}{σ:St}{i:Nat}(h1:AH ops i=true)(h2:wK ops σ i=true):∃o,ops[i]? =some o∧guardOf ops σ.tm o=some true∧qp o.op=true:=by
 grind [wK,AH]
theorem tZ{P:Program}{G:dq}(T:cL P G){gl:Ctx}{Γ:List bG}(hΓ:∀C∈Γ,C.holds P gl){ops:Array Oper}{zs:List (Nat×Nat×Ty)}{R:Type}{K:List bK→St→Option R}{KP:List bK→bK→St→Option R}{r:R}:
 ∀{n i:Nat}{cs:List CH}{σ:St}{fs:List bK},qi P G gl Γ ops zs K KP n i cs σ fs=some r→
  (∃gs σ',uJ P gl ops i gs σ σ'∧gs.length=n∧(∀(k:Nat)(f:bK)(o:Oper),gs[k]? =some f→ops[i+k]? =some o→f.dst=o.dst)∧K (gs.reverse++fs) σ'=some r)∨
  ∃gs f σ',uJ P gl ops i gs σ σ'∧gs.length<n∧F8 P gl ops (i+gs.length) f σ'∧KP (gs.reverse++fs) f σ'=some r
 |0,i,cs,σ,fs,h=>Or.inl ⟨[],σ,rfl,rfl,(fun k f o h=>by simp at h),h⟩
 |
  n+1,i,cs,σ,fs,h=>by
  unfold qi at h
  have fin:∀{f:bK}{cs':List CH},(tM P gl ops i f σ∧∀o,ops[i]? =some o→f.dst=o.dst)→(∀d∈f.fr,σ.fresh d)→qi P G gl Γ ops zs K KP n (i+1) cs' (σ.app f) (f::fs)=some r→
   (∃gs σ',uJ P gl ops i gs σ σ'∧gs.length=n+1∧(∀(k:Nat)(f:bK)(o:Oper),gs[k]? =some f→ops[i+k]? =some o→f.dst=o.dst)∧K (gs.reverse++fs) σ'=some r)∨
   ∃gs f σ',uJ P gl ops i gs σ σ'∧gs.length<n+1∧F8 P gl ops (i+gs.length) f σ'∧KP (gs.reverse++fs) f σ'=some r:=by
   intro f cs' h1 h2 h3
   rcases tZ T hΓ h3 with⟨gs,σ',k1,k2,kd,k3⟩|⟨gs,f',σ',k1,k2,kp,k3⟩
   ·refine Or.inl ⟨f::gs,σ',⟨h1.1,h2,k1⟩,by simp[k2],?_,by simpa using k3⟩<;>grind
   ·exact Or.inr ⟨f::gs,f',σ',⟨h1.1,h2,k1⟩,by grind,by grind,by grind⟩
  split at h
  ·rename_i hcg
   simp only[bM] at hcg
   split at h
   ·rename_i ch cs'
    obtain⟨cr,h,hps,hks,hob⟩:=NY hΓ h
    split at h
    ·rename_i apf
     obtain⟨f,h1,h2,h3⟩:=Ae T apf (fun _=>by rw[hps,CH.UC hps hks];exact hob) h
     grind
    ·rename_i apf
     unfold aaQ at h
     split at h
     ·rename_i f vcs ob hs
      obtain⟨hf,h⟩:=dn h
      obtain⟨o,ho,hgd,hcl⟩:=FJ hcg.1 hcg.2
      exact Or.inr ⟨[],f,σ,rfl,by simp,Jc T apf ho hgd hcl hs (oJ hs (fun _=>by rw[hps,CH.UC hps hks];exact hob)) (by grind),by grind⟩
     grind
   grind
  ·rename_i hc
   split at h
   ·rename_i f hf
    exact Or.inr ⟨[],f,σ,rfl,by simp,N1 hf,by grind⟩
   ·cases ho:AH ops i with
    |
     false=>
     rw[ho] at h
     obtain⟨f,h1,h2,h3⟩:=Ae T rfl (fun e=>by grind) h
     grind
    |
     true=>
     rw[ho] at h hc
     have hg:wK ops σ i=false:=by grind
     unfold FF at h
     split at h
     ·rename_i f vcs ob hs
      obtain⟨hf,h⟩:=dn h
      obtain⟨hv,h⟩:=i3 h
      refine fin ⟨oQ T rfl hs hv (by rw[S4 hs hg];grind),fun o ho=>Ad hs ho⟩ ?_ (FH hs h)
      grind [St.gF]
     grind
section
variable(P:Program) (G:dq) (gl:Ctx)
def sP(ops:Array Oper)(draw:Bool)(z p:Nat)(masks:List Nat){R:Type}(K:List bK→Option R):Nat→Nat→St→List bK→Option R
 |0,_,_,gs=>K gs.reverse
 |
  n+1,j,σ,gs=>if !draw||(masks.getD j 0).testBit p then sP ops draw z p masks K n (j+1) σ (Kk z::gs)
  else if AH ops j then none else match gU P G gl ops cr0 [] σ j with
   |some (f,vcs,_)=>if f.fr.isEmpty&&SU z [f] then ifs vcs (sP ops draw z p masks K n (j+1) (σ.app f) (f::gs)) else none
   |none=>none
end
theorem t6{P:Program}{G:dq}(T:cL P G){gl:Ctx}{ops:Array Oper}{draw:Bool}{z p:Nat}{masks:List Nat}{R:Type}{K:List bK→Option R}{r:R}:∀{n j:Nat}{σ:St}{gs:List bK},sP P G gl ops draw z p masks K n j σ gs=some r→
 ∃ms σ',(σ.hp[z]? =some (some IA)→dJ (IB P gl ops z) j ms σ σ')∧ms.length=n∧SU z ms=true∧K (gs.reverse++ms)=some r
 |0,j,σ,gs,h=>⟨[],σ,fun _=>rfl,rfl,rfl,by simpa[sP] using h⟩
 |
  n+1,j,σ,gs,h=>by
  unfold sP at h
  split at h
  ·obtain⟨ms,σ',h1,h2,h3,h4⟩:=t6 T h
   refine⟨Kk z::ms,σ',fun hz=>⟨Or.inr ⟨rfl,hz⟩,(fun d hd=>by cases hd),h1 hz⟩,by simp[h2],by simp only[SU,List.all_cons,bM] at h3 ⊢;exact⟨rfl,h3⟩,by simpa using h4⟩<;>grind
  ·split at h
   ·cases h
   ·rename_i ho
    split at h
    ·rename_i f vcs ob hs
     obtain⟨hf,h⟩:=dn h
     obtain⟨hv,h⟩:=i3 h
     simp only[bM,List.isEmpty_iff] at hf
     obtain⟨ms,σ',h1,h2,h3,h4⟩:=t6 T h
     have hob:=oJ (cr:=cr0) hs (fun e=>absurd e ho)
     have hnz:SU z (f::ms)=true:=by
      simp_all[SU]
     refine⟨f::ms,σ',fun hz=>⟨Or.inl (oQ T rfl hs hv hob),(fun d hd=>by grind),h1 ?_⟩,by simp[h2],hnz,by grind⟩
     have hq:dJ (fun _ _ _=>True) j [f] σ (σ.app f):=⟨trivial,(fun d hd=>by grind),rfl⟩
     exact dJ.at hq hf.2 hz
    grind
def lkH{α:Type}:List (Nat×α)→Nat→Option α
 |[],_=>none
 |(i,x)::l,j=>if Nat.beq i j then some x else lkH l j
def wL:Code→Option Nat
 | .region id _ _=>some id
 |
  .seq a b=>match wL a with
  |some i=>some i
  |none=>wL b
 |
  .cond _ a b=>match wL a with
  |some i=>some i
  |none=>wL b
 | .block _ c| .loop c| .scope c=>wL c
 |_=>none
def S5{α:Type}(l:List (Nat×α))(c:Code):Option α:=
 match wL c with
 |some i=>lkH l i
 |none=>none
def aL{U R:Type}(F:(U→Option R)→U→Option R)(n:Nat):U→Option R:=
 @Nat.rec (fun _=>U→Option R) (fun _=>none) (fun _ ih=>F ih) n
def aI{U R:Type}(x:Option (dR U R))(f:U→Option R):Option R:=
 Option.bind x fun o=>match o with
  | .aX d=>f d
  | .ret r=>some r
def cU{U R:Type}(x:Option R):Option (dR U R):=x.map .ret
theorem IG{U R:Type}{x:Option (dR U R)}{f:U→Option R}{r:R}(h:aI x f=some r):(∃d,x=some (.aX d)∧f d=some r)∨x=some (.ret r):=by
 obtain⟨o,ho,h⟩:=bind_some h
 grind
def S6(ops:Array Oper):Bool:=ops.toList.any fun o=>match o.op with
 | .defer _=>true
 |_=>false
def A8{R:Type}(F:YC→Option R):Option R:=
 @dite _ (∃r,∀y,F y=some r) (Classical.propDecidable _) (fun h=>some h.choose) fun _=>none
theorem L4{R:Type}{F:YC→Option R}{r:R}(h:A8 F=some r)(y:YC):F y=some r:=by
 unfold A8 at h
 split at h<;>grind
def PA{R:Type}(a b:YC)(x:Option R):Option R:=@ite _ (a=b) (Classical.propDecidable _) x none
structure IC where
 A:List Sh
 B:List (Nat×jQ)
 m:Nat
 k0:Nat
 R:List (Nat×jQ)
 XT:Nat→(prod (xJ A (lQ B []))→Option (kj (Bool::YC::Nat::lQ R [])))→bG
def IC.T(C:IC):List Type:=Bool::YC::Nat::lQ C.R []
def IC.Y(C:IC)(l:Nat)(f:prod (xJ C.A (lQ C.B []))→Option (kj C.T)):bG:=
 ⟨.yield l,C.A,C.B,C.m,⟨1,C.m,[(0,.val .bool)],(C.k0,.lp)::C.R,[]⟩,fun r=>.val .bool (vN C.T r).1,fun r=>(C.k0,.lp (vN C.T r).2.1 (vN C.T r).2.2.1)::tC y0 C.R (vN C.T r).2.2.2,.bY f⟩
def IC.holds(P:Program)(gl:Ctx)(C:IC):Prop:=∀B hB l f,(C.Y l f).holds P (gl.wB B hB)→(C.XT l f).holds P (gl.wB B hB)
def IH:Option aT→Bool
 |some (.tv _ _ _)=>true
 |_=>false
def A9:List (Option aT)→Bool
 |[]=>true
 |x::l=> !IH x&&A9 l
theorem Kp:∀{l:List (Option aT)},A9 l=true→∀(i g:Nat)(t:Ty)(v:AV),l[i]? ≠some (some (.tv g t v))
 |[],_,i,g,t,v=>by simp
 |
  x::l,h,i,g,t,v=>by
  simp only[A9,bM] at h
  cases i with
  |zero=>intro e;simp at e;subst e;exact absurd h.1 (by simp[IH])
  |succ i=>simpa using Kp h.2 i g t v
def N2(y:YC)(ti:List (Nat×Ty))(k0:Nat):Nat→List (Option aT)→Option (List VC×List (Option aT))
 |_,[]=>some ([],[])
 |
  i,x::l=>match N2 y ti k0 (i+1) l with
  |none=>none
  |
   some (vs,H)=>if Nat.beq i k0 then(match x with
    |some (.lp y' j)=>some (⟨y'=y,Classical.propDecidable _⟩::vc (j=0)::vs,none::H)
    |_=>none)
   else match x with
    |none=>some (vs,none::H)
    |some (.tv g t v)=>if qT i ti then some (vc (g=y.gs i)::vs,some (.var t v)::H) else none
    |some (.var t v)=>if qT i ti then none else some (vs,some (.var t v)::H)
    |some k=>some (vs,some k::H)
theorem yo{y:YC}{ti:List (Nat×Ty)}{k0:Nat}:∀{X:List (Option aT)}{s:Nat}{vs:List VC}{H:List (Option aT)},N2 y ti k0 s X=some (vs,H)→fX vs→
 H.length=X.length∧(∀i,s+i=k0→i<X.length→X[i]? =some (some (.lp y 0))∧H[i]? =some none)∧(∀i,s+i≠k0→X[i]? =(tie y.gs ti s H)[i]?)∧A9 H=true
 |[],s,vs,H,h,_=>by cases h;exact⟨rfl,fun i _ hi=>by grind,fun i _=>rfl,rfl⟩
 |
  x::l,s,vs,H,h,hv=>by
  unfold N2 at h
  split at h
  ·cases h
  ·rename_i vs' H' hr
   have step:∀{k:Option aT}{k':Option aT},fX vs'→Nat.beq s k0=false→x=k→(∀L,(tie y.gs ti s (k'::L))=k::tie y.gs ti (s+1) L)→IH k'=false→(k'::H').length=(x::l).length∧(∀i,s+i=k0→i<(x::l).length→(x::l)[i]? =some (some (.lp y 0))∧(k'::H')[i]? =some none)∧(∀i,s+i≠k0→(x::l)[i]? =(tie y.gs ti s (k'::H'))[i]?)∧A9 (k'::H')=true:=by
    intro k k' hv' hb hx ht hnt
    obtain⟨h1,h2,h3,h4⟩:=yo hr hv'
    have hne:s≠k0:=fun e=>by rw[e,Nat.beq_refl] at hb;cases hb
    refine⟨by simp[h1],?_,?_,by simp[A9,hnt,h4]⟩
    ·intro i hi hl
     cases i with
     |zero=>exact absurd hi hne
     |succ i=>exact h2 i (by omega) (by simpa using hl)
    ·intro i hi
     rw[ht,hx]
     cases i with
     |zero=>rfl
     |succ i=>simpa using h3 i (by omega)
   split at h
   ·rename_i hb
    have hs:=dm hb
    subst hs
    split at h
    ·rename_i y' j
     cases h
     obtain⟨e1,e2,hv'⟩:=hv
     have e1:y'=y:=e1
     have e2:j=0:=e2
     subst e1;subst e2
     obtain⟨h1,h2,h3,h4⟩:=yo hr hv'
     refine⟨by simp[h1],?_,?_,by simp[A9,IH,h4]⟩
     ·intro i hi _
      have:i=0:=by omega
      subst this
      exact⟨rfl,rfl⟩
     ·intro i hi
      cases i with
      |zero=>exact absurd rfl hi
      |succ i=>simpa[tie] using h3 i (by omega)
    ·cases h
   ·rename_i hb
    have hb:Nat.beq s k0=false:=by cases hq:Nat.beq s k0 with|false=>rfl|true=>exact absurd hq hb
    split at h
    ·cases h;exact step hv hb rfl (fun L=>rfl) rfl
    ·rename_i g t v
     obtain⟨ht,h⟩:=dn h
     cases h
     obtain⟨e1,hv'⟩:=hv
     have e1:g=y.gs s:=e1
     subst e1
     exact step hv' hb rfl (fun L=>by simp[tie,rO,ht]) rfl
    ·rename_i t v
     split at h
     ·cases h
     ·rename_i ht
      cases h;exact step hv hb rfl (fun L=>by simp[tie,rO,ht]) rfl
    ·rename_i k n1 n2
     cases h
     refine step hv hb rfl (fun L=>?_) ?_
     ·cases k with
      |var t v=>exact absurd rfl (n2 t v)
      |_=>rfl
     ·cases k with
      |tv g t v=>exact absurd rfl (n1 g t v)
      |_=>rfl
def BF(p:Code→Bool):List Code→Nat→Option Nat
 |[],_=>none
 |c::l,n=>if p c then some n else BF p l (n+1)
def UD:Code→Bool
 | .ret=>true
 |_=>false
def N3(i:Nat):Code→Bool
 | .exit j=>Nat.beq i j
 |_=>false
def WL(jl:List Code):jM→Option Nat
 | .normal=>some 0
 | .ret=>BF UD jl 1
 | .exit i=>BF (N3 i) jl 1
 | .panic _=>none
theorem FK{p:Code→Bool}:∀{l:List Code}{n j:Nat},BF p l n=some j→n≤j∧∃c,l[j -n]? =some c∧p c=true
 |[],_,_,h=>by cases h
 |
  c::l,n,j,h=>by
  unfold BF at h
  split at h
  ·grind
  ·obtain⟨h1,c',h2,h3⟩:=FK h
   grind
theorem BG{p:Code→Bool}{jl:List Code}{j:Nat}(h:BF p jl 1=some j):j≠0∧∃c,jmp jl j=some c∧p c=true:=by
 obtain⟨h1,c,h2,h3⟩:=FK h
 refine⟨by omega,c,?_,h3⟩
 cases j with
 |zero=>omega
 |succ j=>trivial
def WM{R:Type}(c:Code)(σ:St)(k:jM→St→Option R):Option R:=
 match c with
 | .ret=>k .ret σ
 | .exit i=>k (.exit i) σ
 |_=>none
def S7{R:Type}(σ:St)(k:jM→St→Option R)(j:Nat):List Code→Nat→Option R
 |[],_=>none
 |c::l,n=>if j=n then WM c σ k else S7 σ k j l (n+1)
def WN{R:Type}(jl:List Code)(j:Nat)(σ:St)(k:jM→St→Option R):Option R:=if j=0 then k .normal σ else S7 σ k j jl 1
theorem Kq{R:Type}{σ:St}{k:jM→St→Option R}{j:Nat}{r:R}:∀{l:List Code}{n:Nat},S7 σ k j l n=some r→n≤j∧∃c,l[j -n]? =some c∧WM c σ k=some r
 |[],_,h=>by cases h
 |
  c::l,n,h=>by
  unfold S7 at h
  split at h
  ·grind
  ·obtain⟨h1,c',h2,h3⟩:=Kq h
   grind
theorem S8{P:Program}{gl:Ctx}{R:Type}{jl:List Code}{j:Nat}{σ:St}{k:jM→St→Option R}{r:R}(h:WN jl j σ k=some r):match jmp jl j with
 |none=>k .normal σ=some r
 |some c=>eR P gl c σ (fun e σ'=>k e σ'=some r):=by
 unfold WN at h
 split at h
 ·rename_i hj;subst hj;exact h
 ·obtain⟨h1,c,h2,h3⟩:=Kq h
  have hj:jmp jl j=some c:=by
   cases j with
   |zero=>omega
   |succ j=>simpa[jmp] using h2
  rw[hj]
  simp only
  unfold WM at h3
  split at h3
  ·exact eR.ret h3
  ·exact eR.exit h3
  ·cases h3
def N4(y:YC)(rh:S0)(C:IC):jM→St→Option (kj (Nat::lQ C.R [])):=fun e σ=>
 match WL rh.jl e,rh.E.yn σ with
 |
  some j,some u=>if A9 (rh.E.st y0 u).hp&&Nat.ble C.m (rh.E.st y0 u).hp.length then(match hpG C.R (l:=[]) (tie y.gs rh.ti 0 (rh.E.st y0 u).hp) () with
  |some e=>some (Uz (Nat::lQ C.R []) (j,e))
  |none=>none) else none
 |_,_=>none
def XU(y:YC)(rh:S0)(C:IC)(ps:Array Tmp)(σ:St)(wA wB:St→(jM→St→Option (kj (Nat::lQ C.R [])))→Option (kj (Nat::lQ C.R []))):prod (xJ C.A (lQ C.B []))→Option (kj C.T):=fun d=>
 match N2 y rh.ti C.k0 0 (bH (List.replicate C.m none) (fu (tC y0 C.B (DF C.A d)))) with
 |
  some (vcs,H0)=>ifs vcs (if Nat.beq ps.size (DE y0 C.A d).length&&vb H0 rh.ti then(Option.bind (wA ⟨xp (ps.toList.zip (DE y0 C.A d)) (NU rh.m σ.tm),H0,[]⟩ (fun e σ1=>match e with
  | .normal=>wB σ1 (N4 y rh C)
  |_=>none)) fun r=>match N2 y rh.ti C.m 0 (fh C.m (tC y0 C.R (vN (Nat::lQ C.R []) r).2)) with
  |some (vs,H1)=>ifs vs (if vb H1 rh.ti then some (Uz C.T (Nat.beq (vN (Nat::lQ C.R []) r).1 0,y,(vN (Nat::lQ C.R []) r).1,(vN (Nat::lQ C.R []) r).2)) else none)
  |none=>none) else none)
 |none=>none
def WO(σ:St)(rh:S0)(C:IC)(cs:AV):Bool:=
 σ.i9 rh.dI&&σ.i9 rh.lI&& !Nat.beq rh.dI rh.lI&&Nat.blt C.k0 16&&Nat.blt C.k0 C.m&& !qT C.k0 rh.ti&&mOK σ.hp rh.ti rh.m&&oq (rh.m.map (·.2))&&cs.atoms&&C.R.all fun x=> !Nat.beq x.1 C.k0
def UE(σ:St)(y:YC)(rh:S0)(cr:CR){R:Type}(k:jM→St→Option R):Option R:=
 match cr.r with
 |
  .kj .nil=>if Dd cr []&&((cr.ns.map (·.2)).all (fun b=>({σ with hp:=wJ y rh.m rh.dI rh.lI σ.hp,df:=.mp rh.dI::σ.df}:St).i9 b)) then(match(bH (wJ y rh.m rh.dI rh.lI σ.hp) (qP (cr.al++cr.ns) cr.out (cr.ps++cr.ns)))[rh.lI]? with
  |some (some (.lp y' j))=>ifs [⟨y'=y,Classical.propDecidable _⟩] (WN rh.jl j ⟨σ.tm,NW ((bH (wJ y rh.m rh.dI rh.lI σ.hp) (qP (cr.al++cr.ns) cr.out (cr.ps++cr.ns))).set rh.lI none),.mp rh.dI::σ.df⟩ k)
  |_=>none) else none
 |_=>none
def WQ(σ:St)(y:YC)(rh:S0)(gf:FuncId)(cs:AV)(C2:bG){R:Type}(k:jM→St→Option R):Option R:=
 match qH (qO rh.ps) (iL (wJ y rh.m rh.dI rh.lI σ.hp)) (((.func (.yield y.l) .nil .nil,Ty.unit))::cs.toList.map (fun x=>(x,Ty.unit))),mq (qO rh.ps) (iL (wJ y rh.m rh.dI rh.lI σ.hp)) rh.ps with
 |
  some (L,[]),some ins=>fnK (.func gf) C2.fn (match C2.get L ins with
  |some d=>C2.f.run d (fun r=>UE σ y rh ⟨C2.res r,rh.ps,rh.ns,C2.out r,C2.m,false,[],[]⟩ k) (fun _=>none)
  |none=>none) none
 |_,_=>none
section
variable(P:Program) (G:dq) (gl:Ctx) (fr:Bool) (H:Hs) (Γ:List bG)
def forget:List Oper→List AV→List AV
 |[],tm=>tm
 |
  o::l,tm=>forget l (match o.dst with
  |some d=>tm.set d .bot
  |none=>tm)
def WR:List (Nat×Ty)→List Type
 |[]=>[]
 |(_,t)::l=>t.den::WR l
def mgG:(l:List (Nat×Ty))→List AV→Option (prod (WR l))
 |[],_=>some ()
 |
  (i,t)::l,tm=>match tm[i]? with
  |
   some (.val u x)=>if h:Ty.same u t=true then(match mgG l tm with
   |some d=>some (uZ h x,d)
   |none=>none) else none
  |_=>none
def mgV:(l:List (Nat×Ty))→prod (WR l)→List (Nat×AV)
 |[],_=>[]
 |(i,t)::l,d=>(i,.val t d.1)::mgV l d.2
def aaS(ops:Array Oper)(l:List (Nat×Ty))(σ:St)(t:kj (WR l)):St:={σ with tm:=rN (mgV l (vN (WR l) t)) (forget ops.toList σ.tm)}
def Ty.WS:(t:Ty)→DecidableEq t.den
 | .int _=>inferInstanceAs (DecidableEq Int)
 | .bool=>inferInstanceAs (DecidableEq Bool)
 | .str=>inferInstanceAs (DecidableEq (List UInt8))
 | .arr _ t=>@instDecidableEqList _ t.WS
 | .slice _ t=>@instDecidableEqList _ t.WS
 | .pair a b=>@instDecidableEqProd _ _ a.WS b.WS
 | .unit=>inferInstanceAs (DecidableEq Unit)
 | .aW _=>inferInstanceAs (DecidableEq Unit)
 | .fns _=>inferInstanceAs (DecidableEq (List (Option Nat)))
 | .map k v=>@Option.instDecidableEq _ (@instDecidableEqList _ (@instDecidableEqProd _ _ k.WS v.WS))
def yp:Path→Path→Bool
 |[],[]=>true
 | .dX a::p,.dX b::q=>Nat.beq a b&&yp p q
 |_,_=>false
theorem Af:∀{p q:Path},yp p q=true→p=q
 |[],[],_=>rfl
 |
  .dX a::p,.dX b::q,h=>by
  simp only[yp,bM] at h
  rw[dm h.1,Af h.2]
def N5:AV→AV→Option (List VC)
 | .val t x,.val u y=>if h:Ty.same u t=true then some [⟨x=uZ h y,t.WS _ _⟩] else none
 | .aM,.aM=>some []
 | .own b,.own c=>if Nat.beq b c then some [] else none
 | .ptr b p,.ptr c q=>if Nat.beq b c&&yp p q then some [] else none
 |_,_=>none
def Kr{R:Type}(ops:Array Oper)(σ:St)(fs:List bK)(j:Nat)(K:Option R):List Nat→Option R
 |[]=>K
 |
  i::l=>if AH ops i then none else match fs[i]?,gU P G gl ops cr0 [] (ew (fun x=>decide (x<j+1)) 0 fs σ) i with
  |
   some f,some (g,vcs,_)=>match N5 f.v g.v with
   |some vs=>if f.hw.isEmpty&&g.hw.isEmpty&&f.fr.isEmpty&&g.fr.isEmpty&&decide (f.rt=g.rt)&&decide (f.rb=g.rb)&&decide (f.dst=g.dst) then ifs (vcs++vs) (Kr ops σ fs j K l) else none
   |none=>none
  |_,_=>none
def N6{R:Type}(lt:Option (List Nat×Nat))(ops:Array Oper)(σ:St)(fs:List bK)(K:Option R):Option R:=
 match lt with
 |none=>K
 |some (l,j)=>Kr P G gl ops σ fs j K l
def S9{R:Type}(lt:Option (List Nat×Nat))(ops:Array Oper)(draw:Bool)(σ:St)(k:St→Option R)(fs:List bK)(σ':St):Option R:=
 if draw then(if qG lt ops fs.reverse&&mc σ fs.reverse then N6 P G gl lt ops σ fs.reverse (k σ') else none) else k σ'
def L5(fs:List bK):Bool:=fs.all fun f=>f.hw.isEmpty
def N7{R:Type}(ops:Array Oper)(draw:Bool)(σ:St)(k:jM→St→Option R)(fs:List bK)(f:bK)(σp:St):Option R:=
 if Nat.blt (σ.hp.length -1) σ.hp.length&&f.v.plain then
  sP P G gl ops draw (σ.hp.length -1) fs.length (if draw then wm ops.toList [] else[]) (fun gs=>
   if draw then(if qG none ops (nv fs.reverse f (σ.hp.length -1) gs)&&mc σ (nv fs.reverse f (σ.hp.length -1) gs) then k (.panic f.v) (zY fs.reverse f (σ.hp.length -1) gs σ) else none)
   else k (.panic f.v) (zY fs.reverse f (σ.hp.length -1) gs σ)) (ops.size -fs.length -1) (fs.length+1) (σp.app (zX f (σ.hp.length -1))) [] else none
def II(ops:Array Oper)(draw:Bool)(σ:St):Option St:=
 match draw,ops with
 |
  false,⟨[o0,o1]⟩=>if qp o0.op then none else match gU P G gl ops cr0 [] σ 0 with
  |
   some (f,[],_)=>match f.fr.all σ.i9,o1.op,o1.guard,o1.dst with
   |
    true,.defer {callee:=.value x,args:=⟨[]⟩,argTypes:=⟨[]⟩},none,none=>match cZ gl (σ.app f).tm x with
    | .func fn .nil cs=>some {σ.app f with df:=.func fn .nil cs::(σ.app f).df}
    |_=>none
   |_,_,_,_=>none
  |_=>none
 |_,_=>none
def IJ(ops:Array Oper):Option (Nat×Nat×Nat):=
 match ops with
 |
  ⟨[o0,o1]⟩=>match o0.op,o0.guard,o0.dst,o1.op,o1.guard,o1.dst with
  | .next (.tmp s) false,none,some d,.extract (.tmp d') 0,none,some d1=>if Nat.beq d' d then some (s,d,d1) else none
  |_,_,_,_,_,_=>none
 |_=>none
def N8(s d d1:Nat){R:Type}(σ:St)(k:jM→St→Option R):Option R:=
 match σ.tm[s]? with
 |
  some (.ptr b [])=>match iL σ.hp b with
  |
   some (.qN kt vt rest _)=>if Nat.blt d σ.tm.length then(if rest.isEmpty=true then k .normal ((σ.put (some d) .bot).put (some d1) (.val .bool false))
   else LX rest fun x l=>k .normal ((({σ with hp:=σ.hp.set b (some (.qN kt vt l (some x)))}:St).put (some d) .bot).put (some d1) (.val .bool true))) else none
  |_=>none
 |_=>none
def vg(ops:Array Oper)(draw:Bool)(zs:List (Nat×Nat×Ty))(cs:List CH)(mg:Option (List (Nat×Ty)))(lt:Option (List Nat×Nat)){R:Type}(σ:St)(k:jM→St→Option R):Option R:=
 if S6 ops then(if fr then(match II P G gl ops draw σ with
  |some σ'=>k .normal σ'
  |none=>none) else none) else
 match if draw then none else IJ ops with
 |some (s,d,d1)=>N8 s d d1 σ k
 |none=>match mg with
 |none=>qi P G gl Γ ops zs (S9 P G gl lt ops draw σ (k .normal)) (N7 P G gl ops draw σ k) ops.size 0 cs σ []
 |some l=>Option.bind (qi P G gl Γ ops zs (fun fs σ'=>if L5 fs then S9 P G gl lt ops draw σ (fun σ'=>(mgG l σ'.tm).map (Uz (WR l))) fs σ' else none) (fun _ _ _=>none) ops.size 0 cs σ []) fun d=>k .normal (aaS ops l σ d)
def N9{R:Type}:List (Nat×Nat)→St→(St→Option R)→Option R
 |[],σ,K=>K σ
 |
  (b,s)::l,σ,K=>match σ.tm[s]?,iL σ.hp b with
  |
   some (.val (.int _) n),some (.row _ _ _ xs)=>ifs [vc (0≤n),vc (n<xs.length)] (match BR b n.toNat σ with
   |some σ'=>N9 l σ' K
   |none=>none)
  |
   some (.ptr c [.idx i]),some (.row _ _ _ _)=>if Nat.beq c b then(match BR b i σ with
   |some σ'=>N9 l {σ' with tm:=σ'.tm.set s (.ptr b [.dX 1])} K
   |none=>none) else none
  |_,_=>none
def UF{R:Type}:List PF→St→(St→Option R)→Option R
 |[],σ,K=>K σ
 |
  .row b d k::l,σ,K=>match k.get σ,iL σ.hp b with
  |
   some (.val (.int _) n),some (.eS _ _ _ xs _ _)=>ifs [vc (0≤n),vc (n<xs.length)] (match OS b n.toNat d σ with
   |some σ'=>UF l σ' K
   |none=>none)
  |_,_=>none
 |
  .map mode b d k::l,σ,K=>match k.get σ with
  |
   some (.val t x)=>match OU mode b d t x σ with
   |some (vcs,σ')=>ifs vcs (UF l σ' K)
   |none=>none
  |_=>none
 |
  .iY b::l,σ,K=>match ug b σ with
  |some σ'=>UF l σ' K
  |none=>none
def UG{R:Type}(l:List Gh)(k:jM→St→Option R):jM→St→Option R
 |
  .normal,σ=>match XQ l σ with
  |some σ'=>k .normal σ'
  |none=>none
 |e,σ=>k e σ
def dig:Nat→Nat→List Nat
 |0,_=>[]
 |
  n+1,c=>match c with
  |0=>[]
  |c=>(c % 1000 -1)::dig n (c / 1000)
def aaT(H:Hs)(id:Nat):Option (List Nat×Nat):=match lkH H.unr (1000000+id) with
 |some c=>some (dig 9 (c / 1000),c % 1000 -1)
 |none=>none
def DK(id:Nat)(ops:Array Oper)(draw:Bool){R:Type}(σ:St)(k:jM→St→Option R):Option R:=
 match lkH H.reg id with
 |none=>vg P G gl fr Γ ops draw [] [] none (aaT H id) σ k
 |
  some rh=>match XQ rh.pre σ with
  |some σ0=>N9 rh.foc σ0 fun σ0=>UF rh.pf σ0 fun σ0=>vg P G gl fr Γ ops draw rh.zs rh.cs rh.mg (aaT H id) σ0 (UG rh.post k)
  |none=>none
def toJ{R:Type}(S:SS)(k:jM→St→Option R):jM→St→Option (dR S.T R)
 | .normal,σ=>(S.yn σ).map .aX
 |e,σ=>cU (k e σ)
def toB{R:Type}(id:Nat)(S:SS)(k:jM→St→Option R):jM→St→Option (dR S.T R)
 | .normal,σ=>(S.yn σ).map .aX
 | .exit i,σ=>if Nat.beq i id then(S.yn σ).map .aX else cU (k (.exit i) σ)
 |e,σ=>cU (k e σ)
def unB{R:Type}(id:Nat)(k:jM→St→Option R):jM→St→Option R
 | .exit i,σ=>if Nat.beq i id then k .normal σ else k (.exit i) σ
 |e,σ=>k e σ
def Ks{R:Type}(w:St→(jM→St→Option R)→Option R)(k:jM→St→Option R):Nat→St→Option R
 |0,_=>none
 |
  n+1,σ=>w σ fun e σ'=>match e with
  | .normal=>Ks w k n σ'
  |e=>k e σ'
end
section
variable(P:Program) (G:dq) (I:List IC) (H:Hs) (Γ:List bG)
def walk:Code→Ctx→Bool→{R:Type}→St→(jM→St→Option R)→Option R
 | .skip,_,_,_,σ,k=>k .normal σ
 | .label _,_,_,_,σ,k=>k .normal σ
 | .scope c,gl,fr,_,σ,k=>walk c gl fr σ k
 | .exit i,_,_,_,σ,k=>k (.exit i) σ
 | .ret,_,_,_,σ,k=>k .ret σ
 | .region id ops draw,gl,fr,_,σ,k=>DK P G gl fr H Γ id ops draw σ k
 |
  .seq x z,gl,fr,_,σ,k=>match S5 H.join z with
  |
   none=>walk x gl fr σ fun e σ'=>match e with
   | .normal=>walk z gl fr σ' k
   |e=>k e σ'
  |some S=>aI (walk x gl fr σ (toJ S k)) fun d=>walk z gl fr (S.st y0 d) k
 |
  .cond c x z,gl,fr,_,σ,k=>match cZ gl σ.tm c with
  | .val .bool b=>if b=true then walk x gl fr σ k else walk z gl fr σ k
  |_=>none
 |
  .block id c,gl,fr,_,σ,k=>match lkH H.eH id with
  |none=>walk c gl fr σ (unB id k)
  |some S=>aI (walk c gl fr σ (toB id S k)) fun d=>k .normal (S.st y0 d)
 |
  .loop c,gl,fr,_,σ,k=>match S5 H.unr c with
  |some n=>Ks (fun σ k=>walk c gl fr σ k) k n σ
  |
   none=>match S5 H.loop c with
   |none=>none
   |
    some L=>match L.S.yn σ with
    |none=>none
    |
     some u=>aL (fun rec u=>walk c gl fr (L.S.st y0 u) fun e σ'=>match e with
     | .normal=>Option.bind (L.S.yn σ') rec
     |e=>k e σ') (L.fuel u) u
 |
  .rangeFunc g ps assign body,gl,fr,_,σ,k=>if fr then(match S5 H.AY body with
  |none=>none
  |
   some rh=>match I[rh.ic]?,rh.S.yn σ with
   |
    some C,some u=>match cZ gl (rh.S.st y0 u).tm g with
    |
     .func (.func gf) .nil cs=>if WO (rh.S.st y0 u) rh C cs then
      A8 fun y=>WQ (rh.S.st y0 u) y rh gf cs (C.XT y.l (XU y rh C ps (rh.S.st y0 u) (fun σ1 k1=>walk assign (gl.xL y.l) false σ1 k1) (fun σ1 k1=>walk body (gl.xL y.l) false σ1 k1))) k
     else none
    |_=>none
   |_,_=>none) else none
 |_,_,_,_,_,_=>none
end
theorem Ag:∀{l:List Oper}{tm:List AV},(forget l tm).length=tm.length
 |[],_=>rfl
 |
  o::l,tm=>by
  unfold forget
  rw[Ag]
  split<;>simp
theorem Ah{i:Nat}{x:AV}:∀{l:List Oper}{tm:List AV},(forget l tm)[i]? =some x→x= .bot∨(tm[i]? =some x∧∀o∈l,o.dst≠some i)
 |[],_,h=>Or.inr ⟨h,fun _ ho=>by cases ho⟩
 |
  o::l,tm,h=>by
  unfold forget at h
  rcases Ah h with h|⟨h,hl⟩<;>grind
theorem Ob:∀{l:List (Nat×Ty)}{tm:List AV}{d:prod (WR l)},mgG l tm=some d→∀i x,(i,x)∈mgV l d→tm[i]? =some x
 |[],_,_,_,i,x,hx=>by cases hx
 |
  (j,t)::l,tm,d,h,i,x,hx=>by
  unfold mgG at h
  split at h
  ·rename_i u z hz
   split at h
   ·rename_i hs
    split at h
    ·rename_i d' hd'
     cases h
     simp only[mgV,eJ,iX] at hx
     rcases hx with⟨rfl,rfl⟩|hx
     ·rw[hz,Bx hs]
     ·exact Ob hd' i x hx
    grind
   grind
  grind
theorem FL{P:Program}{gl:Ctx}{ops:Array Oper}:∀{fs:List bK}{i:Nat}{σ σ':St},uJ P gl ops i fs σ σ'→L5 fs=true→(∀(k:Nat)(f:bK)(o:Oper),fs[k]? =some f→ops[i+k]? =some o→f.dst=o.dst)→i+fs.length≤ops.size→
 σ'.hp=σ.hp∧σ'.df=σ.df∧σ'.tm.length=σ.tm.length∧∀t,(∀o∈ops.toList,o.dst≠some t)→σ'.tm[t]? =σ.tm[t]?
 |[],i,σ,σ',h,_,_,_=>by simp_all[dJ]
 |
  f::fs,i,σ,σ',⟨_,_,h3⟩,hn,hd,hl=>by
  simp only[L5,List.all_cons,bM,List.isEmpty_iff] at hn
  obtain⟨a,b,c,d⟩:=FL h3 (by simpa[L5] using hn.2) (fun k f' o h1 h2=>hd (k+1) f' o (by grind) (by grind)) (by grind)
  refine⟨by rw[a,kV,hn.1];rfl,by rw[b,zi],by rw[c,wi],?_⟩
  intro t ht
  rw[d t ht]
  have hlt:i<ops.size:=by grind
  have:=hd 0 f ops[i] rfl (by grind)
  grind [kW]
theorem map_some{α β:Type}{x:Option α}{f:α→β}{r:β}(h:x.map f=some r):∃a,x=some a∧f a=r:=by
 simp_all
theorem eR.aaU{P:Program}{gl:Ctx}{c:Code}{σ:St}{Q:jM→St→Prop}(h:eR P gl c σ (fun e σ'=>match e with| .panic v=>Q (.panic v) σ'|e=>∃σ2,Wk gl σ' σ2∧Q e σ2)):eR P gl c σ Q:=by
 intro E a w hg
 refine wpIn_mono (h E a w hg) ?_
 rintro ex a' w' ⟨x,σ',E',h1,h2,h3,h4⟩
 cases x with
 |panic v=>exact⟨_,σ',E',h1,h2,h3,h4⟩
 |
  normal=>
  obtain⟨σ2,hw,hq⟩:=h2
  obtain⟨E2,g2,x2⟩:=hw E' a' w' h3
  cases ex<;>first|exact h1.elim|exact⟨.normal,σ2,E2,trivial,hq,g2,h4.trans x2⟩
 |
  exit i=>
  obtain⟨σ2,hw,hq⟩:=h2
  obtain⟨E2,g2,x2⟩:=hw E' a' w' h3
  cases ex<;>first|trivial|exact⟨.exit i,σ2,E2,h1,hq,g2,h4.trans x2⟩
 |
  ret=>
  obtain⟨σ2,hw,hq⟩:=h2
  obtain⟨E2,g2,x2⟩:=hw E' a' w' h3
  cases ex<;>first|trivial|exact⟨.ret,σ2,E2,trivial,hq,g2,h4.trans x2⟩
section
variable{P:Program} {G:dq} (T:cL P G) {gl:Ctx} {fr:Bool} {H:Hs} {Γ:List bG} (hΓ:∀C∈Γ,C.holds P gl)
include T hΓ
omit hΓ T in
theorem Ai{l:List VC}:∀{vs:List VC},fX (vs++l)→fX vs∧fX l
 |[],h=>⟨trivial,h⟩
 |_::_,h=>⟨⟨h.1,(Ai h.2).1⟩,(Ai h.2).2⟩
omit hΓ T in
theorem Oc{a b:AV}{l:List VC}(h:N5 a b=some l)(hv:fX l):a=b:=by
 unfold N5 at h
 split at h
 ·split at h
  ·rename_i hs
   cases h
   have:=Ty.aE hs
   subst this
   have e:=hv.1
   simp only[uZ] at e
   rw[e]
  ·cases h
 ·rfl
 ·split at h
  ·rename_i hb;rw[dm hb]
  ·cases h
 ·split at h
  ·rename_i hb
   simp only[bM] at hb
   rw[dm hb.1,Af hb.2]
  ·cases h
 ·cases h
omit hΓ in
theorem FN{ops:Array Oper}{R:Type}{σ:St}{fs:List bK}{j:Nat}{K:Option R}{r:R}:∀{l:List Nat},Kr P G gl ops σ fs j K l=some r→(∀i f,i∈l→fs[i]? =some f→tM P gl ops i f (ew (fun x=>decide (x<j+1)) 0 fs σ))∧K=some r
 |[],h=>⟨fun i f hi=>(by cases hi),h⟩
 |
  i::l,h=>by
  unfold Kr at h
  split at h
  ·cases h
  rename_i hno
  split at h
  ·rename_i f g vcs ob hf hs
   split at h
   ·rename_i l hl
    obtain⟨hc,h⟩:=dn h
    obtain⟨hv,h⟩:=i3 h
    obtain⟨ih,hk⟩:=FN h
    simp only[bM,List.isEmpty_iff,rf] at hc
    obtain⟨⟨⟨⟨⟨⟨c1,c2⟩,c3⟩,c4⟩,c5⟩,c6⟩,c7⟩:=hc
    have hv1:=Ai hv
    have ev:=Oc hl hv1.2
    have e:f=g:=by
     cases f;cases g;simp_all
    refine⟨fun i' f' e1 e2=>?_,hk⟩
    rcases List.mem_cons.1 e1 with rfl|e1
    ·rw[hf] at e2
     cases e2
     rw[e]
     exact oQ T rfl hs hv1.1 (oJ hs fun h=>absurd h hno)
    ·exact ih i' f' e1 e2
   ·cases h
  ·cases h
omit hΓ in
theorem Od{lt:Option (List Nat×Nat)}{ops:Array Oper}{R:Type}{σ:St}{fs:List bK}{K:Option R}{r:R}(h:N6 P G gl lt ops σ fs K=some r):(∀l i j f,lt=some (l,j)→i∈l→fs[i]? =some f→tM P gl ops i f (ew (fun x=>decide (x<j+1)) 0 fs σ))∧K=some r:=by
 unfold N6 at h
 split at h
 ·exact⟨fun l i j f e=>(by cases e),h⟩
 ·rename_i l j
  obtain⟨h1,h2⟩:=FN T h
  refine⟨fun l' i j' f e hi hf=>?_,h2⟩
  cases e
  exact h1 i f hi hf
omit hΓ in
theorem Kt{lt:Option (List Nat×Nat)}{ops:Array Oper}{draw:Bool}{R:Type}{σ σ':St}{k:St→Option R}{fs:List bK}{r:R}(h:S9 P G gl lt ops draw σ k fs σ'=some r):(draw=true→(qG lt ops fs.reverse&&mc σ fs.reverse)=true∧∀l i j f,lt=some (l,j)→i∈l→fs.reverse[i]? =some f→tM P gl ops i f (ew (fun x=>decide (x<j+1)) 0 fs.reverse σ))∧k σ'=some r:=by
 unfold S9 at h
 cases draw with
 |false=>exact⟨fun e=>(yW e).elim,h⟩
 |
  true=>
  rw[aA rfl] at h
  obtain⟨h1,h2⟩:=dn h
  obtain⟨h3,h4⟩:=Od T h2
  exact⟨fun _=>⟨h1,h3⟩,h4⟩
omit hΓ in
theorem L6{id:Nat}{ops:Array Oper}{draw:Bool}{σ σ':St}{Q:jM→St→Prop}(hro:gl.ro=none)(h:II P G gl ops draw σ=some σ')(hq:Q .normal σ'):eR P gl (.region id ops draw) σ Q:=by
 unfold II at h
 split at h
 ·rename_i o0 o1
  split at h
  ·cases h
  rename_i hcl
  split at h
  ·rename_i f ob h0
   split at h
   ·rename_i x hfr ho hg hd
    split at h
    ·rename_i fn cs hv
     cases h
     intro E a w hgm
     refine wpIn_region ?_
     show wpOpsIn _ _ _ _ _ [0,1] _ _
     rw[wpOpsIn_cons]
     have hob:∀p∈ob,p:=oJ h0 (fun e=>absurd e (by trivial))
     refine oQ T rfl h0 trivial hob σ (mb.refl _ _ _) (fun d hd=>St.gF ((List.all_eq_true.1 hfr) d hd)) E a w hgm _ _ ?_
     intro E1 a1 w1 hg1 hx1
     rw[wpOpsIn_cons]
     have e1:(#[o0,o1]:Array Oper)[1]? =some o1:=rfl
     unfold wpOpIn
     simp only[e1]
     have hw:Region.wanted o1 (yielded #[o0,o1] a1.tmps)=true:=by simp[Region.wanted,hg]
     rw[aA hw]
     have hv1:=jX hg1 x
     rw[hv] at hv1
     obtain⟨f',c',ev,r1,r2,r3,r4⟩:∃f' c',a1.eval x= .func fn f' c'∧RC E1 w1 .nil f'.toList∧RC E1 w1 cs c'.toList∧AV.nil.atoms=true∧cs.atoms=true:=by
      rcases RV.mF rfl hv1 with⟨hh,_⟩|⟨_,hh⟩
      ·cases hh
      ·obtain⟨f',c',e,q⟩:=hh
       grind
     have hf':f'= #[]:=by apply mV;trivial
     subst hf'
     refine⟨fun _ _=>trivial,?_⟩
     have hs:(o1.semAt (Wd gl).round a1.eval).run P w1= .ok (.defer {target:=.fn fn c',args:= #[]}) w1:=by
      simp_all[Oper.semAt_none,execOp,resolve,Deferred.ofValue]
     rw[hs,Oper.uponIn_defer,hd]
     have hg2:dD gl {σ.app f with df:=.func fn .nil cs::(σ.app f).df} E1 {a1 with defers:={target:=.fn fn c',args:= #[]}::a1.defers} w1:=
      ⟨hg1.len,hg1.tm,hg1.hw,⟨⟨#[],c',rfl,r1,r2,r3,r4⟩,hg1.df⟩⟩
     exact⟨.normal,_,E1,trivial,hq,hg2,hx1⟩
    grind
   grind
  grind
 grind
omit T hΓ in
theorem Oe{id:Nat}{ops:Array Oper}{s d d1:Nat}(hn:IJ ops=some (s,d,d1)){R:Type}{σ:St}{k:jM→St→Option R}{r:R}(h:N8 s d d1 σ k=some r):eR P gl (.region id ops false) σ (fun e σ'=>k e σ'=some r):=by
 unfold IJ at hn
 split at hn
 ·rename_i o0 o1
  split at hn
  ·rename_i s' d' d'' d1' h0 hg0 hd0 h1 hg1 hd1
   obtain⟨hd,hn⟩:=dn hn
   cases hn
   have hd:=dm hd
   subst hd
   unfold N8 at h
   split at h
   ·rename_i b hs
    split at h
    ·rename_i kt vt rest cur hb
     obtain⟨hl,h⟩:=dn h
     refine eR.next h0 hg0 hd0 h1 hg1 hd1 hs (dS _ b _ hb) hl ?_ ?_
     ·grind
     ·intro i hi
      rw[aB (by grind)] at h
      exact LY h i hi
    grind
   grind
  grind
 grind
variable(hro:fr=true→gl.ro=none)
include hro
theorem xq{id:Nat}{ops:Array Oper}{draw:Bool}{zs:List (Nat×Nat×Ty)}{cs:List CH}{mg:Option (List (Nat×Ty))}{lt:Option (List Nat×Nat)}{R:Type}{σ:St}{k:jM→St→Option R}{r:R}(h:vg P G gl fr Γ ops draw zs cs mg lt σ k=some r):eR P gl (.region id ops draw) σ (fun e σ'=>k e σ'=some r):=by
 have key:∀{gs:List bK}{σ':St}{Q:jM→St→Prop},uJ P gl ops 0 gs σ σ'→gs.length=ops.size→(draw=true→(qG lt ops gs&&mc σ gs)=true∧∀l i j f,lt=some (l,j)→i∈l→gs[i]? =some f→tM P gl ops i f (ew (fun x=>decide (x<j+1)) 0 gs σ))→Q .normal σ'→eR P gl (.region id ops draw) σ Q:=by
  intro gs σ' Q hc hn ig hq
  cases draw with
  |false=>exact fun E _ _ hg=>HR hn hc hg (fun E' _ _ h1 h2=>⟨.normal,σ',E',trivial,hq,h1,h2⟩)
  |
   true=>
   obtain⟨ig,hL⟩:=ig rfl
   simp only[bM] at ig
   exact fun E _ _ hg=>HT T ig.1 ig.2 hL hc hg (fun E' _ _ h1 h2=>⟨.normal,σ',E',trivial,hq,h1,h2⟩)
 unfold vg at h
 split at h
 ·obtain⟨hf,h⟩:=dn h
  grind [L6]
 split at h
 ·rename_i s d d1 hn
  cases draw with
  |true=>grind
  |false=>rw[aB yW] at hn;exact Oe hn h
 split at h
 ·rcases tZ T hΓ h with⟨gs,σ',hc,hn,_,hk⟩|⟨gs,f,σ',hc,hn,hp,hk⟩
  ·simp only[cW] at hk
   obtain⟨h1,h2⟩:=Kt T hk
   simp only[List.reverse_reverse] at h1
   exact key hc hn h1 h2
  ·simp only[cW] at hk
   unfold N7 at hk
   simp only[List.reverse_reverse,List.length_reverse] at hk
   obtain⟨h1,h2⟩:=dn hk
   simp only[bM] at h1
   rw[d9] at hp
   have hz:σ.hp.length -1<σ.hp.length:=by simp_all
   obtain⟨ms,σe,k1,k2,k3,k4⟩:=t6 T h2
   simp only[List.reverse_nil,jP] at k4
   have hze:(σ'.app (zX f (σ.hp.length -1))).hp[σ.hp.length -1]? =some (some IA):=by
    rw[kV]
    simp only[zX,bH,fR,cu]
    rw[aA (by rw[dJ.hl hc];exact hz)]
   have k1:=k1 hze
   cases draw with
   |false=>exact zZ T hc hp k1 k3 hz (by omega) (fun e=>(yW e).elim) h1.2 k4
   |
    true=>
    rw[aA rfl] at k4
    obtain⟨q3,q4⟩:=dn k4
    grind [zZ]
 ·rename_i l
  obtain⟨d,hd,h⟩:=bind_some h
  rcases tZ T hΓ hd with⟨gs,σ',hc,hn,hdst,hk⟩|⟨_,_,_,_,_,_,hk⟩
  case inr=>cases hk
  simp only[cW] at hk
  obtain⟨hw,hk⟩:=dn hk
  obtain⟨h1,h2⟩:=Kt T hk
  simp only[List.reverse_reverse] at h1
  have hw':L5 gs=true:=by simpa[L5] using hw
  obtain⟨e1,e2,e3,e4⟩:=FL hc hw' hdst (by omega)
  obtain⟨t,ht,rfl⟩:=map_some h2
  refine eR.aaU (key hc hn h1 ⟨_,?_,h⟩)
  grind [Wk.sub,aaS,tY,Ag,uY,qg,Ob,Ah]
omit T hΓ hro in
theorem DL{R:Type}{r:R}{K:St→Option R}:∀{l:List (Nat×Nat)}{σ:St},N9 l σ K=some r→∃σ',Wk gl σ σ'∧K σ'=some r
 |[],σ,h=>⟨σ,Wk.refl gl σ,h⟩
 |
  (b,s)::l,σ,h=>by
  unfold N9 at h
  split at h
  ·rename_i k n e bs t xs hs hb
   obtain⟨hv,h⟩:=i3 h
   split at h
   ·rename_i σ1 h1
    obtain⟨σ',h2,h3⟩:=DL h
    refine⟨σ',Wk.trans (Wk.aiT h1 ?_) h2,h3⟩
    intro e' bs' t' xs' hb'
    rw[hb] at hb'
    cases hb'
    exact(Int.toNat_lt hv.1).2 hv.2.1
   ·cases h
  ·rename_i c i e bs t xs hs hb
   obtain⟨hc,h⟩:=dn h
   have hc:=dm hc
   subst hc
   split at h
   ·rename_i σ1 h1
    obtain⟨σ',h2,h3⟩:=DL h
    exact⟨σ',Wk.trans (Wk.aiU hs h1) h2,h3⟩
   ·cases h
  ·cases h
omit T hΓ hro in
theorem DN{R:Type}{r:R}{K:St→Option R}:∀{l:List PF}{σ:St},UF l σ K=some r→∃σ',Wk gl σ σ'∧K σ'=some r
 |[],σ,h=>⟨σ,Wk.refl gl σ,h⟩
 |
  .row b d k::l,σ,h=>by
  unfold UF at h
  split at h
  ·rename_i kk n e bs t xs e2 f hs hb
   obtain⟨hv,h⟩:=i3 h
   split at h
   ·rename_i σ1 h1
    obtain⟨σ',h2,h3⟩:=DN h
    refine⟨σ',Wk.trans (Wk.OS h1 ?_) h2,h3⟩
    intro e' bs' t' xs' e2' f' hb'
    rw[hb] at hb'
    cases hb'
    exact(Int.toNat_lt hv.1).2 hv.2.1
   grind
  grind
 |
  .map mode b d k::l,σ,h=>by
  unfold UF at h
  split at h
  ·rename_i t x hs
   split at h
   ·rename_i vcs σ1 h1
    obtain⟨hv,h⟩:=i3 h
    obtain⟨σ',h2,h3⟩:=DN h
    exact⟨σ',Wk.trans (Wk.OU h1 hv) h2,h3⟩
   grind
  grind
 |
  .iY b::l,σ,h=>by
  unfold UF at h
  split at h
  ·rename_i σ1 h1
   obtain⟨σ',h2,h3⟩:=DN h
   exact⟨σ',Wk.trans (Wk.ug h1) h2,h3⟩
  grind
theorem IK{id:Nat}{ops:Array Oper}{draw:Bool}{R:Type}{σ:St}{k:jM→St→Option R}{r:R}(h:DK P G gl fr H Γ id ops draw σ k=some r):eR P gl (.region id ops draw) σ (fun e σ'=>k e σ'=some r):=by
 unfold DK at h
 split at h
 ·exact xq T hΓ hro h
 ·split at h
  ·rename_i σ0 h0
   obtain⟨σ1,h1,h2⟩:=DL (gl:=gl) h
   obtain⟨σ2,h3,h4⟩:=DN (gl:=gl) h2
   refine eR.post (eR.gh _ h0 (eR.wk h1 (eR.wk h3 (xq T hΓ hro h4)))) ?_ ?_
   ·intro e σ' hne he
    cases e with
    |normal=>grind
    |_=>exact he
   grind [UG,It]
  grind
omit hΓ T hro in
theorem Of{c:Code}{R:Type}{w:St→(jM→St→Option R)→Option R}(ih:∀{σ:St}{k:jM→St→Option R}{r:R},w σ k=some r→eR P gl c σ (fun e σ'=>k e σ'=some r)){k:jM→St→Option R}{r:R}{n:Nat}{σ:St}
 (h:Ks w k n σ=some r):eR P gl (.loop c) σ (fun e σ'=>k e σ'=some r):=by
 refine eR.loop (fun n σ=>Ks w k n σ=some r) ?_ h
 intro n σ1 hn
 cases n with
 |zero=>cases hn
 |
  succ n=>
  refine eR.mono (ih hn) ?_
  intro e σ2 he
  cases e with
  |normal=>exact⟨n,Nat.lt_succ_self n,he⟩
  |_=>exact he
omit hΓ T hro in
theorem Og{c:Code}{R U:Type}{r:R}{k:jM→St→Option R}{F:(U→Option R)→U→Option R}{st:U→St}{yn:St→Option U}(hm:∀σ u,yn σ=some u→Wk gl σ (st u))
 (ih:∀{rec:U→Option R}{u:U},F rec u=some r→eR P gl c (st u) (fun e σ'=>(match e with| .normal=>Option.bind (yn σ') rec|e=>k e σ')=some r)) {n:Nat} {σ:St} {u:U} (hu:yn σ=some u)
 (h:aL F n u=some r):eR P gl (.loop c) σ (fun e σ'=>k e σ'=some r):=by
 refine eR.loop (fun n σ=>∃u,Wk gl σ (st u)∧aL F n u=some r) ?_ ⟨u,hm σ u hu,h⟩
 rintro n σ1 ⟨u1,hw,hn⟩
 cases n with
 |zero=>cases hn
 |
  succ n=>
  refine eR.wk hw (eR.mono (ih hn) ?_)
  intro e σ2 he
  cases e with
  |
   normal=>
   obtain⟨u2,h1,h2⟩:=bind_some he
   exact⟨n,Nat.lt_succ_self n,u2,hm σ2 u2 h1,h2⟩
  |_=>exact he
end
theorem Fy.up{P:Program}{C C':Ctx}{l:Nat}{A:List AV}{H H':List (Option aT)}{r:A5}(hg:C'.gl=C.gl)(hC:∀S w,C.B S w)(h:Fy P C l A H r H')(hm:C'.md=C.md):Fy P C' l A H r H':=by
 intro E w vs hv hw
 obtain⟨fn,tm,asz,bd,h1,h2⟩:=h E w vs hv (hw.ctx hg.symm (hC _ _))
 refine⟨fn,tm,asz,bd,h1,RoundIn.mono h2 ?_⟩
 rintro e w' ⟨E',r1,r2,r3⟩
 rw[←hm] at r3
 exact⟨E',r1,r2.ctx hg (hw.ko (hw.kept r3)).2,r3⟩
theorem Nf.up{P:Program}{C C':Ctx}{fn:Fn}{A:List AV}{H H':List (Option aT)}{r:A5}(hg:C'.gl=C.gl)(hC:∀S w,C.B S w)(h:Nf P C fn A H r H')(hm:C'.md=C.md):Nf P C' fn A H r H':=by
 cases fn with
 |func f=>exact Fc.up hg hC h hm
 |yield l=>exact Fy.up hg hC h hm
 |_=>trivial
theorem bG.holds.up{P:Program}{gl gl':Ctx}{C:bG}(h:C.holds P gl)(hg:gl'.gl=gl.gl)(hB:∀S w,gl.B S w)(hm:gl'.md=gl.md:=by rfl):C.holds P gl':=
 ⟨fun d r hd=>Nf.up hg hB (h.ret d r hd) hm,fun d x hd=>Nf.up hg hB (h.nZ d x hd) hm⟩
theorem Fy.less{P:Program}{C:Ctx}{l:Nat}{A:List AV}{H H1 H2:List (Option aT)}{r:A5}(h:Fy P C l A H r H1)(hs:∀(b:Nat)(k:aT),H2[b]? =some (some k)→H1[b]? =some (some k)):Fy P C l A H r H2:=by
 intro E w vs hv hw
 obtain⟨fn,tm,asz,bd,h1,h2⟩:=h E w vs hv hw
 refine⟨fn,tm,asz,bd,h1,RoundIn.mono h2 ?_⟩
 rintro e w' ⟨E',r1,r2,r3⟩
 exact⟨E',r1,r2.less hs,{r3 with own:=fun g ⟨b,k,hb,hg⟩=>r3.own g ⟨b,k,hs b k hb,hg⟩}⟩
theorem BH:∀{l H:List (Option aT)},H.length≤l.length→(∀(b:Nat)(k:aT),H[b]? =some (some k)→l[b]? =some (some k))→∃m,prune l m=H
 |l,[],_,_=>⟨[],by cases l<;>rfl⟩
 |[],x::H,h,_=>by simp at h
 |
  y::l,x::H,h,hs=>by
  obtain⟨m,hm⟩:=BH (l:=l) (H:=H) (by simpa using h) (fun b k hb=>by simpa using hs (b+1) k (by simpa using hb))
  cases x with
  |none=>exact⟨false::m,by simp[prune,hm]⟩
  |
   some k=>
   have:y=some k:=by simpa using hs 0 k rfl
   exact⟨true::m,by simp[prune,hm,this]⟩
theorem Aj{gs:Nat→Nat}{ti:List (Nat×Ty)}:∀{l:List (Option aT)}{s i:Nat},(tie gs ti s l)[i]? =some none→l[i]? =some none
 |[],s,i,h=>by trivial
 |none::l,s,0,h=>rfl
 |some x::l,s,0,h=>by simp[tie] at h
 |none::l,s,i+1,h=>by simpa using Aj (l:=l) (by simpa[tie] using h)
 |some x::l,s,i+1,h=>by simpa using Aj (l:=l) (by simpa[tie] using h)
theorem Oh{gs:Nat→Nat}{ti:List (Nat×Ty)}{i:Nat}{k k':aT}(h1:IH (some k)=false)(h2:IH (some k')=false)(h:rO gs ti i k=rO gs ti i k'):k=k':=by
 cases k with
 |
  var t v=>
  cases k' with
  |
   var t' v'=>
   grind [rO]
  |tv=>trivial
  |_=>grind [rO]
 |tv=>trivial
 |
  _=>
  cases k' with
  |var t' v'=>grind [rO]
  |tv=>trivial
  |_=>exact h
theorem Ku{y:YC}:∀{m:List (Nat×jQ)}{l:List Type}{d:prod (lQ m l)}{b:Nat}{k:aT},(b,k)∈tC y m d→∃s,(b,s)∈m
 |[],_,_,_,_,h=>by cases h
 |
  (i,s)::m,_,d,b,k,h=>by
  simp only[tC,eJ,iX] at h
  rcases h with⟨rfl,_⟩|h
  ·grind
  ·obtain⟨s',hs⟩:=Ku h
   exact⟨s',dF _ hs⟩
theorem i4{m:Nat}{out:List (Nat×aT)}{b:Nat}{k:aT}(h:(fh m out)[b]? =some (some k)):(b,k)∈out:=by
 unfold fh at h
 rcases i5 h with h|⟨_,h⟩<;>grind
theorem FP{m:Nat}{out:List (Nat×aT)}:(fh m out).length=m:=by unfold fh;rw[oD,fY]
theorem Ak{i:Nat}:∀{out:List (Nat×aT)},i∈wrote (out.map fun x=>(x.1,some x.2))→∃k,(i,k)∈out
 |[],h=>by cases h
 |
  (j,k)::out,h=>by
  simp only[fe,wrote,eJ] at h
  rcases h with rfl|h
  ·grind
  ·obtain⟨k',hk⟩:=Ak h
   exact⟨k',dF _ hk⟩
theorem L7{m i b:Nat}{x:aT}{out:List (Nat×aT)}(hi:∀k,(i,k)∉out)(hm:i<m):(fh m ((i,x)::out))[b]? =if b=i then some (some x) else(fh m out)[b]? :=by
 have hw:i∉wrote (out.map fun x=>(x.1,some x.2)):=by
  grind [Ak]
 unfold fh
 simp only[fe,bH]
 split
 ·rename_i e
  subst e
  rw[ij hw,fR,aA rfl,aA (by simpa using hm)]
 ·rename_i e
  exact lF (by simp) (by rw[fR,aB (fun e'=>e e'.symm)])
theorem Oi{gl:Ctx}{y:YC}{rh:S0}{C:IC}{e:jM}{σ:St}{r:kj (Nat::lQ C.R [])}(h:N4 y rh C e σ=some r):∃σE,WL rh.jl e=some (vN (Nat::lQ C.R []) r).1∧Wk gl σ σE∧A9 σE.hp=true∧C.m≤σE.hp.length∧
 ∀i x,(i,x)∈tC y0 C.R (vN (Nat::lQ C.R []) r).2→(tie y.gs rh.ti 0 σE.hp)[i]? =some (some x):=by
 unfold N4 at h
 split at h
 ·rename_i j u hj hu
  obtain⟨hc,h⟩:=dn h
  simp only[bM] at hc
  split at h
  ·rename_i d hd
   cases h
   rw[uY]
   exact⟨_,hj,SS.lR hu,hc.1,jd hc.2,(Iw y0 hd).1⟩
  grind
 grind
theorem WT{P:Program}{gl Cx:Ctx}{y:YC}{rh:S0}{C:IC}{ps:Array Tmp}{assign body:Code}{σ:St}{wA wB:St→(jM→St→Option (kj (Nat::lQ C.R [])))→Option (kj (Nat::lQ C.R []))}
 (hA:∀σ1 k1 r1,wA σ1 k1=some r1→eR P (gl.xL y.l) assign σ1 (fun e σ'=>k1 e σ'=some r1)) (hB:∀σ1 k1 r1,wB σ1 k1=some r1→eR P (gl.xL y.l) body σ1 (fun e σ'=>k1 e σ'=some r1))
 (hk:C.k0<C.m) (hR:(C.R.all fun x=> !Nat.beq x.1 C.k0)=true) (hof:IE P gl σ.tm ps assign body C.k0 rh.ti rh.m rh.jl Cx y):(C.Y y.l (XU y rh C ps σ wA wB)).holds P Cx:=by
 refine⟨?_,fun _ _ h=>h.elim⟩
 intro d r hd
 have hd':XU y rh C ps σ wA wB d=some r:=hd
 unfold XU at hd'
 split at hd'
 case h_2=>cases hd'
 rename_i vcs H0 htok
 obtain⟨hv,hd'⟩:=i3 hd'
 obtain⟨hc,hd'⟩:=dn hd'
 simp only[bM] at hc
 obtain⟨r0,hw,hd'⟩:=bind_some hd'
 split at hd'
 case h_2=>cases hd'
 rename_i vs H1 htok1
 obtain⟨hv1,hd'⟩:=i3 hd'
 obtain⟨hto,hd'⟩:=dn hd'
 have er:=fK hd'
 obtain⟨t1,t2,t3,t4⟩:=yo htok hv
 obtain⟨u1,u2,u3,u4⟩:=yo htok1 hv1
 rw[FP] at u1
 have lX:(bH (List.replicate C.m none) (fu (tC y0 C.B (DF C.A d)))).length=C.m:=by rw[oD,fY]
 rw[lX] at t1
 have hnk:∀k,(C.k0,k)∉tC y0 C.R (vN (Nat::lQ C.R []) r0).2:=by
  intro k hm
  obtain⟨s,hs⟩:=Ku hm
  have:=(List.all_eq_true.1 hR) _ hs
  simp_all
 have hX0:(fh C.m (tC y0 C.R (vN (Nat::lQ C.R []) r0).2))[C.k0]? =some none:=by
  cases h:(fh C.m (tC y0 C.R (vN (Nat::lQ C.R []) r0).2))[C.k0]? with
  |none=>grind [FP]
  |
   some x=>
   cases x with
   |none=>rfl
   |some k=>exact absurd (i4 h) (hnk k)
 have h10:H1[C.k0]? =some none:=by
  grind [Aj]
 have hX1:∀i:Nat,(fh C.m (tC y0 C.R (vN (Nat::lQ C.R []) r0).2))[i]? =(tie y.gs rh.ti 0 H1)[i]? :=by
  intro i
  by_cases hi:i=C.m
  ·simp_all[sO]
  grind
 have hF:=hof (DE y0 C.A d) H0 H1 (vN (Nat::lQ C.R []) r0).1 (dm hc.1) (t2 C.k0 (by omega) (by grind)).2 h10 hc.2 hto ?_
 ·show Fy P Cx y.l (DE y0 C.A d) (bH (List.replicate C.m none) (fu (tC y0 C.B (DF C.A d)))) (.ret (.val .bool (vN C.T r).1)) (fh C.m ((C.k0,.lp (vN C.T r).2.1 (vN C.T r).2.2.1)::tC y0 C.R (vN C.T r).2.2.2))
  have e1:vN C.T r=(Nat.beq (vN (Nat::lQ C.R []) r0).1 0,y,(vN (Nat::lQ C.R []) r0).1,(vN (Nat::lQ C.R []) r0).2):=by rw[←er];exact uY C.T _
  rw[e1]
  have eX:(tie y.gs rh.ti 0 H0).set C.k0 (some (.lp y 0))=bH (List.replicate C.m none) (fu (tC y0 C.B (DF C.A d))):=by
   apply List.ext_getElem?
   intro i
   rw[fR]
   split
   ·simp_all[sO]
   grind
  rw[eX] at hF
  refine hF.less ?_
  intro b k hb
  rw[L7 hnk hk] at hb
  grind
 ·refine eR.mono (hA _ _ _ hw) ?_
  intro e σ1 he
  cases e with
  |
   normal=>
   refine eR.mono (hB _ _ _ he) ?_
   intro e σ2 he
   obtain⟨σE,q1,q2,q3,q4,q5⟩:=Oi (gl:=gl.xL y.l) he
   have hpr:∃m,prune σE.hp m=H1:=by
    refine BH (by grind) ?_
    intro b k hb
    have hx:=hX1 b
    rw[DI hb,d9] at hx
    have:=q5 b _ (i4 hx)
    obtain⟨k0,p1,p2⟩:=lZ this
    rw[d9] at p2
    rw[p1]
    have nt:∀{l:List (Option aT)}{k:aT},A9 l=true→l[b]? =some (some k)→IH (some k)=false:=by
     intro l k hn hk
     cases k with
     |tv g t v=>exact absurd hk (Kp hn b g t v)
     |_=>rfl
    rw[Oh (nt u4 hb) (nt q3 p1) p2]
   obtain⟨m,hm⟩:=hpr
   cases e with
   |normal=>exact⟨by simpa[WL] using q1.symm,σE,m,q2,hm⟩
   |
    ret=>
    obtain⟨j1,c,j2,j3⟩:=BG q1
    refine⟨⟨j1,?_⟩,σE,m,q2,hm⟩
    grind [UD]
   |
    exit i=>
    obtain⟨j1,c,j2,j3⟩:=BG q1
    refine⟨⟨j1,?_⟩,σE,m,q2,hm⟩
    rw[j2]
    cases c<;>simp[N3] at j3
    rw[j3]
   |panic v=>trivial
  |_=>cases he
theorem aaV{P:Program}{gl:Ctx}{σ:St}{g:Operand}{ps:Array Tmp}{assign body:Code}(hro:gl.ro=none){gf:FuncId}{cs:AV}(hg:cZ gl σ.tm g= .func (.func gf) .nil cs){rh:S0}{C:IC}(ig:WO σ rh C cs=true)(hC:C.holds P gl)
 {wA wB:YC→St→(jM→St→Option (kj (Nat::lQ C.R [])))→Option (kj (Nat::lQ C.R []))}
 (hA:∀y σ1 k1 r1,wA y σ1 k1=some r1→eR P (gl.xL y.l) assign σ1 (fun e σ'=>k1 e σ'=some r1)) (hB:∀y σ1 k1 r1,wB y σ1 k1=some r1→eR P (gl.xL y.l) body σ1 (fun e σ'=>k1 e σ'=some r1))
 {R:Type} {k:jM→St→Option R} {r:R} (h:A8 (fun y=>WQ σ y rh gf cs (C.XT y.l (XU y rh C ps σ (wA y) (wB y))) k)=some r):eR P gl (.rangeFunc g ps assign body) σ (fun e σ'=>k e σ'=some r):=by
 unfold WO at ig
 simp only[bM,lu] at ig
 obtain⟨⟨⟨⟨⟨⟨⟨⟨⟨c1,c2⟩,c3⟩,c4⟩,c5⟩,c6⟩,c7⟩,c8⟩,c9⟩,PC⟩:=ig
 refine eR.rangeFunc hro hg rh.dI rh.lI C.k0 c1 c2 c3 c4 rh.ti rh.m c6 c7 c8 rh.jl c9 ?_
 intro y
 have hy:=L4 h y
 unfold WQ at hy
 split at hy
 case h_2=>cases hy
 rename_i L ins hL nM
 rcases FC hy with⟨hfn,hy⟩|hy
 case inr=>cases hy
 split at hy
 case h_2=>cases hy
 rename_i d hd
 rcases CF.FA hy with⟨q,hq,hy⟩|⟨x,hx,hy⟩
 case inr=>cases hy
 obtain⟨d1,d2⟩:=bG.i7 hd
 unfold UE at hy
 split at hy
 case h_2=>cases hy
 rename_i hr
 obtain⟨hcr,hy⟩:=dn hy
 simp only[bM] at hcr
 split at hy
 case h_2=>cases hy
 rename_i y' j hlp
 obtain⟨hv,hy⟩:=i3 hy
 have hv:y'=y:=hv.1
 subst hv
 refine⟨j,_,L,ins,_,⟨hr,hL,nM,hcr.1,hcr.2,hlp,rfl⟩,?_,?_⟩
 ·intro B hB' hof
  have hh:=hC B hB' y'.l _ (WT (wA:=wA y') (wB:=wB y') (hA y') (hB y') (by simp_all) PC hof)
  have:=hh.ret d q hq
  rw[←hfn,d1,d2] at this
  rw[show(C.XT y'.l (XU y' rh C ps σ (wA y') (wB y'))).res q= .kj .nil from hr] at this
  trivial
 ·have:=S8 (P:=P) (gl:=gl) hy
  grind
section
variable{P:Program} {G:dq} (T:cL P G) {I:List IC} {H:Hs} {Γ:List bG}
include T
theorem od:∀{c:Code}{gl:Ctx}{fr:Bool}(_hΓ:∀C∈Γ,C.holds P gl)(_hro:fr=true→gl.ro=none)(_hI:fr=true→∀C∈I,C.holds P gl∧∀S w,gl.B S w){R:Type}{σ:St}{k:jM→St→Option R}{r:R},walk P G I H Γ c gl fr σ k=some r→eR P gl c σ (fun e σ'=>k e σ'=some r):=by
 intro c
 induction c with
 |skip=>intro gl fr hΓ hro hI R σ k r h;exact eR.skip h
 |label l=>intro gl fr hΓ hro hI R σ k r h;exact eR.label h
 |scope c ih=>intro gl fr hΓ hro hI R σ k r h;exact eR.scope (ih hΓ hro hI h)
 |exit i=>intro gl fr hΓ hro hI R σ k r h;exact eR.exit h
 |ret=>intro gl fr hΓ hro hI R σ k r h;exact eR.ret h
 |region id ops draw=>intro gl fr hΓ hro hI R σ k r h;exact IK T hΓ hro h
 |
  seq x z ih1 ih2=>
  intro gl fr hΓ hro hI R σ k r h
  unfold walk at h
  split at h
  ·refine eR.seq (eR.mono (ih1 hΓ hro hI h) ?_)
   intro e σ' he
   cases e with
   |normal=>exact ih2 hΓ hro hI he
   |_=>exact he
  ·rename_i S hS
   unfold aI at h
   obtain⟨o,ho,h⟩:=bind_some h
   refine eR.seq (eR.mono (ih1 hΓ hro hI ho) ?_)
   intro e σ' he
   cases e with
   |
    normal=>
    obtain⟨d,hd,e⟩:=map_some he
    subst e
    exact eR.wk (SS.lR hd) (ih2 hΓ hro hI h)
   |
    _=>
    obtain⟨d,hd,e⟩:=map_some he
    subst e
    cases h
    exact hd
 |
  cond c x z ih1 ih2=>
  intro gl fr hΓ hro hI R σ k r h
  unfold walk at h
  split at h
  ·rename_i b hb
   refine eR.cond hb (fun e=>ih1 hΓ hro hI ?_) (fun e=>ih2 hΓ hro hI ?_)<;>grind
  grind
 |
  block id c ih=>
  intro gl fr hΓ hro hI R σ k r h
  unfold walk at h
  split at h
  ·refine eR.block (eR.mono (ih hΓ hro hI h) ?_)
   intro e σ' he
   cases e with
   |
    exit i=>
    simp only[unB] at he
    simp only[Ea]
    split at he<;>simp_all
   |_=>exact he
  ·rename_i S hS
   unfold aI at h
   obtain⟨o,ho,h⟩:=bind_some h
   have fin:∀{σ':St},(S.yn σ').map dR.aX=some o→∃σ2,Wk gl σ' σ2∧k .normal σ2=some r:=by
    intro σ' he
    obtain⟨d,hd,e⟩:=map_some he
    grind [SS.lR]
   have oth:∀{e:jM}{σ':St},(k e σ').map dR.ret=some o→k e σ'=some r:=by
    intro e σ' he
    obtain⟨d,hd,e⟩:=map_some he
    grind
   refine eR.aaU (eR.block (eR.mono (ih hΓ hro hI ho) ?_))
   intro e σ' he
   cases e with
   |normal=>exact fin he
   |
    exit i=>
    simp only[toB] at he
    simp only[Ea]
    split at he
    ·rename_i hb;rw[aA (dm hb)];grind
    ·rename_i hb;rw[aB (fun e=>hb (by simp_all))];exact⟨σ',Wk.refl gl σ',oth he⟩
   |ret=>exact⟨σ',Wk.refl gl σ',oth he⟩
   |panic v=>exact oth he
 |
  loop c ih=>
  intro gl fr hΓ hro hI R σ k r h
  unfold walk at h
  split at h
  ·grind [Of]
  ·split at h
   ·cases h
   ·split at h
    ·cases h
    ·rename_i u hu
     exact Og (fun σ u=>SS.lR) (fun h=>ih hΓ hro hI h) hu h
 |
  rangeFunc g ps assign body ih1 ih2=>
  intro gl fr hΓ hro hI R σ k r h
  unfold walk at h
  obtain⟨hfr,h⟩:=dn h
  split at h
  ·cases h
  ·rename_i rh hrh
   split at h
   case h_2=>cases h
   rename_i C u hC hu
   split at h
   ·rename_i gf cs hg
    obtain⟨ig,h⟩:=dn h
    obtain⟨hC1,hB⟩:=hI hfr C (nT hC)
    have hA:∀(y:YC)(σ1:St) k1 r1,walk P G I H Γ assign (gl.xL y.l) false (R:=kj (Nat::lQ C.R [])) σ1 k1=some r1→eR P (gl.xL y.l) assign σ1 (fun e σ'=>k1 e σ'=some r1):=
     fun y σ1 k1 r1 h1=>@ih1 (gl.xL y.l) false (fun D hD=>(hΓ D hD).up rfl hB) (fun e=>(yW e).elim) (fun e=>(yW e).elim) _ _ _ _ h1
    have hB':∀(y:YC)(σ1:St) k1 r1,walk P G I H Γ body (gl.xL y.l) false (R:=kj (Nat::lQ C.R [])) σ1 k1=some r1→eR P (gl.xL y.l) body σ1 (fun e σ'=>k1 e σ'=some r1):=
     fun y σ1 k1 r1 h1=>@ih2 (gl.xL y.l) false (fun D hD=>(hΓ D hD).up rfl hB) (fun e=>(yW e).elim) (fun e=>(yW e).elim) _ _ _ _ h1
    exact eR.wk (SS.lR hu) <| aaV (wA:=fun y σ1 k1=>walk P G I H Γ assign (gl.xL y.l) false σ1 k1) (wB:=fun y σ1 k1=>walk P G I H Γ body (gl.xL y.l) false σ1 k1) (hro hfr) hg ig hC1 hA hB' h
   grind
 |_=>grind [walk]
end
end Go.Ax
namespace Go.Ax
def pick:List Nat→List (Option aT)→List (Nat×aT)
 |[],_=>[]
 |
  b::l,hp=>match hp[b]? with
  |some (some k)=>(b,k)::pick l hp
  |_=>pick l hp
theorem nw{hp:List (Option aT)}:∀{l:List Nat}{b:Nat}{k:aT},(b,k)∈pick l hp→hp[b]? =some (some k)
 |[],_,_,h=>by cases h
 |
  c::l,b,k,h=>by
  simp only[pick] at h
  split at h
  ·rename_i k' hk
   rcases List.mem_cons.1 h with h|h
   ·cases h;exact hk
   ·exact nw h
  ·exact nw h
def aG(G:dq)(rs:List ResultVar)(ov:FuncId)(A:List Sh)(B:List (Nat×jQ))(m:Nat)(F:SS)(ob:List Nat)(f:CF (prod (xJ A (lQ B []))) F.T):bG:=
 ⟨.func ov,A,B,m,F,fun r=>(mB G rs (F.st y0 r)).getD .bot,fun r=>pick ob (F.st y0 r).hp,f⟩
def WU(F:SS):jM→St→Option F.T
 | .ret,σ=>F.yn σ
 | .normal,σ=>F.yn σ
 |_,_=>none
def IL(σ:St):Option St:=
 match marks σ.df σ.hp with
 |some hp=>some ⟨σ.tm,hp,[]⟩
 |none=>none
def IM(F:SS):jM→St→Option F.T
 |
  .ret,σ=>match IL σ with
  |some σ=>F.yn σ
  |none=>none
 |
  .normal,σ=>match IL σ with
  |some σ=>F.yn σ
  |none=>none
 |_,_=>none
def qW(nt m:Nat)(args:List AV)(ins:List (Nat×Option aT)):St:=⟨args++List.replicate (nt -args.length) .bot,bH (List.replicate m none) ins,[]⟩
def Oj{α:Type}:Option α→Bool
 |some _=>true
 |none=>false
theorem rP{x:Option AV}(h:Oj x=true):x=some (x.getD .bot):=by
 cases x with
 |none=>cases h
 |some y=>rfl
theorem yq{gl:Ctx}{F:SS}{e:jM}{σ:St}{r:F.T}(h:IM F e σ=some r):(e= .ret∨e= .normal)∧∃σ1,IL σ=some σ1∧Wk gl σ1 (F.st y0 r):=by
 cases e with
 |
  ret=>
  simp only[IM] at h
  split at h
  ·simp_all[SS.lR]
  grind
 |
  normal=>
  simp only[IM] at h
  split at h
  ·simp_all[SS.lR]
  grind
 |_=>trivial
theorem C0.DO{P:Program}{G:dq}(T:cL P G){gl:Ctx}{f:FuncId}{fn:Func}{c:Code}(hf:P.funcs[f]? =some fn)(hb:fn.body=some c)(hro:gl.ro=none){args:List AV}{ins:List (Nat×Option aT)}{m:Nat}{x:AV}{out:List (Nat×aT)}{σe:St}
 (h:eR P gl c (qW fn.ntmps m args ins) (fun e σ=>(e= .ret∨e= .normal)∧∃σ1,IL σ=some σ1∧Wk gl σ1 σe)) (_hd:σe.df= []) (apD:mB G fn.results.toList σe=some x) (hout:∀b k,(b,k)∈out→σe.hp[b]? =some (some k)):
 C0 P gl f args (bH (List.replicate m none) ins) (.ret x) (fh m out):=by
 intro E w vs hv hw
 obtain⟨hl,ao9⟩:=hv.get
 refine CallsIn.calls (F:=Wd gl) (n:=0) (callsIn_of_wp_marks hf hb trivial ?_ hro) (fun k d hd=>by cases hd)
 have hg:dD gl (qW fn.ntmps m args ins) E {tmps:=vs.toArray++Array.replicate (fn.ntmps -vs.toArray.size) undef,defers:=[]} w:=by
  refine⟨?_,?_,hw,trivial⟩
  ·grind [qW]
  ·intro i x hx v hv'
   simp only[qW] at hx
   rw[Array.getElem?_append] at hv'
   simp only[List.getElem?_append] at hx
   split at hx
   ·grind
   ·rw[List.getElem?_replicate] at hx
    split at hx
    ·cases hx;trivial
    grind
 refine wpIn_mono (h E _ w hg) ?_
 rintro ex a' w' ⟨e,σ',E',h1,⟨he,σ1,ho,hwk⟩,h3,h4⟩
 have main:LeavesInM (Wd gl) 0 P fn a'.tmps (fun e w'=>∃E',CZ E' w' (.ret x) e∧HW gl E' w' (fh m out)∧Ext gl.md (cQ (bH (List.replicate m none) ins) E) E w (cQ (fh m out) E') E' w') a'.defers .returning w':=by
  unfold IL at ho
  split at ho
  ·rename_i hp1 hm
   cases ho
   refine Kl σ'.df h3 hm (fun w3 k1 k2=>?_)
   obtain⟨E2,g2,x2⟩:=hwk E' _ w3 k1
   obtain⟨v,k3,k4⟩:=vD T g2 apD
   have hw2:HW gl E2 w3 (fh m out):=g2.hw.less (fun b k hb=>hout b k (i4 hb))
   have hx:Ext gl.md (cQ (bH (List.replicate m none) ins) E) E w (cQ (fh m out) E2) E2 w3:=
    {(h4.trans k2).trans x2 with own:=fun g ⟨b,k,hb,hgb⟩=>((h4.trans k2).trans x2).own g ⟨b,k,hout b k (i4 hb),hgb⟩}
   exact⟨v,k3,E2,k4,hw2,hx⟩
  grind
 rcases he with rfl|rfl
 ·cases ex with
  |ret=>trivial
  |_=>trivial
 ·cases ex with
  |normal=>trivial
  |_=>trivial
theorem bG.of{P:Program}{G:dq}(T:cL P G){gl:Ctx}{I:List IC}{H:Hs}{Γ:List bG}(hΓ:∀C∈Γ,C.holds P gl)(hI:∀C∈I,C.holds P gl∧∀S w,gl.B S w)(hro:gl.ro=none){rs:List ResultVar}{ov:FuncId}{A:List Sh}{B:List (Nat×jQ)}{m nt:Nat}{F:SS}{ob:List Nat}{f:prod (xJ A (lQ B []))→Option F.T}
 {fn:Func} {c:Code} (apa:∀vs w,(callFunc ov vs).run P w= .ok (.enter ov vs) w) (hf:P.funcs[ov]? =some fn) (hb:fn.body=some c) (hrs:fn.results.toList=rs) (hnt:fn.ntmps=nt) (hF:F.df= [])
 (apD:∀r:F.T,Oj (mB G rs (F.st y0 r))=true)
 (h:∀d,f d=walk P G I H Γ c gl true (qW nt m (DE y0 A d) (fu (tC y0 B (DF A d)))) (IM F)):
 (aG G rs ov A B m F ob (.bY f)).holds P gl:=by
 refine⟨?_,fun _ _ h=>h.elim⟩
 intro d r hd
 have hd':f d=some r:=hd
 rw[h d] at hd'
 refine⟨apa,?_⟩
 have ao4:=od T hΓ (fun _=>hro) (fun _=>hI) hd'
 subst hnt
 refine C0.DO T hf hb hro (σe:=F.st y0 r) (eR.mono ao4 ?_) ?_ ?_ ?_
 ·intro e σ he
  exact yq he
 ·show(F.st y0 r).df= []
  simp only[SS.st,SS.qW]
  obtain⟨nt',nh,tm,hp,df⟩:=F
  simp only at hF
  subst hF
  rfl
 ·rw[hrs];exact rP (apD r)
 ·intro b k hbk;exact nw hbk
def Al(s:Sh)(F:SS):jM→St→Option (Sum (prod (s.H [])) F.T)
 |
  .ret,σ=>match IL σ with
  |some σ=>(F.yn σ).map .inr
  |none=>none
 |
  .normal,σ=>match IL σ with
  |some σ=>(F.yn σ).map .inr
  |none=>none
 |
  .panic v,σ=>match σ.df with
  |[]=>(s.G (l:=[]) v ()).map .inl
  |_=>none
 |_,_=>none
theorem C0.Ok{P:Program}{gl:Ctx}{f:FuncId}{fn:Func}{c:Code}(hf:P.funcs[f]? =some fn)(hb:fn.body=some c)(hro:gl.ro=none){args:List AV}{ins:List (Nat×Option aT)}{m:Nat}{x:AV}
 (h:eR P gl c (qW fn.ntmps m args ins) (fun e σ=>e= .panic x∧σ.df= [])):
 C0 P gl f args (bH (List.replicate m none) ins) (.nZ x) (fh m []):=by
 intro E w vs hv hw
 obtain⟨hl,ao9⟩:=hv.get
 refine CallsIn.calls (F:=Wd gl) (n:=0) (callsIn_of_wp hf hb trivial ?_ hro) (fun k d hd=>by cases hd)
 have hg:dD gl (qW fn.ntmps m args ins) E {tmps:=vs.toArray++Array.replicate (fn.ntmps -vs.toArray.size) undef,defers:=[]} w:=by
  refine⟨?_,?_,hw,trivial⟩
  ·grind [qW]
  ·intro i x hx v hv'
   simp only[qW] at hx
   rw[Array.getElem?_append] at hv'
   simp only[List.getElem?_append] at hx
   split at hx
   ·grind
   ·rw[List.getElem?_replicate] at hx
    split at hx
    ·cases hx;trivial
    grind
 refine wpIn_mono (h E _ w hg) ?_
 rintro ex a' w' ⟨e,σ',E',h1,⟨rfl,hd⟩,h3,h4⟩
 have hdf:a'.defers= []:=by
  have:=h3.df
  rw[hd] at this
  cases hds:a'.defers with
  |nil=>rfl
  |cons d l=>rw[hds] at this;trivial
 have hw2:HW gl E' w' (fh m []):=h3.hw.less (fun b k hb=>absurd (i4 hb) (by simp))
 have hx:Ext gl.md (cQ (bH (List.replicate m none) ins) E) E w (cQ (fh m []) E') E' w':=
  {h4 with own:=fun g ⟨b,k,hb,hgb⟩=>absurd (i4 hb) (by simp)}
 cases ex with
 |panic ch=>exact⟨hdf,E',h1,hw2,hx⟩
 |_=>trivial
theorem bG.GD{P:Program}{G:dq}(T:cL P G){gl:Ctx}{I:List IC}{H:Hs}{Γ:List bG}(hΓ:∀C∈Γ,C.holds P gl)(hI:∀C∈I,C.holds P gl∧∀S w,gl.B S w)(hro:gl.ro=none){rs:List ResultVar}{ov:FuncId}{A:List Sh}{B:List (Nat×jQ)}{m nt:Nat}{s:Sh}{F:SS}{ob:List Nat}{f:prod (xJ A (lQ B []))→Option (Sum (prod (s.H [])) F.T)}
 {fn:Func} {c:Code} (apa:∀vs w,(callFunc ov vs).run P w= .ok (.enter ov vs) w) (hf:P.funcs[ov]? =some fn) (hb:fn.body=some c) (hrs:fn.results.toList=rs) (hnt:fn.ntmps=nt) (hF:F.df= [])
 (apD:∀r:F.T,Oj (mB G rs (F.st y0 r))=true)
 (h:∀d,f d=walk P G I H Γ c gl true (qW nt m (DE y0 A d) (fu (tC y0 B (DF A d)))) (Al s F)):
 (aG G rs ov A B m F ob (.nZ s f)).holds P gl:=by
 refine⟨?_,?_⟩
 ·intro d r hd
  have hd':f d=some (.inr r):=hd
  rw[h d] at hd'
  refine⟨apa,?_⟩
  have ao4:=od T hΓ (fun _=>hro) (fun _=>hI) hd'
  subst hnt
  refine C0.DO T hf hb hro (σe:=F.st y0 r) (eR.mono ao4 ?_) ?_ ?_ ?_
  ·intro e σ he
   cases e with
   |
    ret=>
    simp only[Al] at he
    split at he
    ·rename_i σ1 h1
     obtain⟨y,hy,e⟩:=map_some he
     cases e
     exact⟨Or.inl rfl,σ1,h1,SS.lR hy⟩
    grind
   |
    normal=>
    simp only[Al] at he
    split at he
    ·rename_i σ1 h1
     obtain⟨y,hy,e⟩:=map_some he
     cases e
     exact⟨Or.inr rfl,σ1,h1,SS.lR hy⟩
    grind
   |
    panic v=>
    simp only[Al] at he
    split at he<;>simp_all
   |exit i=>trivial
  ·show(F.st y0 r).df= []
   simp only[SS.st,SS.qW]
   obtain⟨nt',nh,tm,hp,df⟩:=F
   simp only at hF
   subst hF
   rfl
  ·rw[hrs];exact rP (apD r)
  ·intro b k hbk;exact nw hbk
 ·rintro d x ⟨p,hd,rfl⟩
  have hd':f d=some (.inl p):=hd
  rw[h d] at hd'
  refine⟨apa,?_⟩
  have ao4:=od T hΓ (fun _=>hro) (fun _=>hI) hd'
  subst hnt
  refine C0.Ok hf hb hro (eR.mono ao4 ?_)
  intro e σ he
  cases e with
  |
   ret=>
   simp only[Al] at he
   split at he<;>simp_all
  |
   normal=>
   simp only[Al] at he
   split at he<;>simp_all
  |
   panic v=>
   simp only[Al] at he
   split at he
   ·rename_i hdf
    obtain⟨y,hy,e⟩:=map_some he
    grind [Sh.A7]
   grind
  |exit i=>trivial
theorem bG.aaW{P:Program}{gl:Ctx}{G:dq}{rs:List ResultVar}{ov:FuncId}{A:List Sh}{B:List (Nat×jQ)}{m:Nat}{F:SS}{ob:List Nat}:(aG G rs ov A B m F ob (.bY fun _=>none)).holds P gl:=
 ⟨fun _ _ h=>(by trivial),fun _ _ h=>h.elim⟩
theorem bG.sub{P:Program}{gl:Ctx}{G:dq}{rs:List ResultVar}{ov:FuncId}{A:List Sh}{B:List (Nat×jQ)}{m:Nat}{F:SS}{ob:List Nat}{f g:prod (xJ A (lQ B []))→Option F.T}(h:(aG G rs ov A B m F ob (.bY f)).holds P gl)(hs:∀d r,g d=some r→f d=some r):(aG G rs ov A B m F ob (.bY g)).holds P gl:=
 ⟨fun d r hd=>h.ret d r (hs d r hd),fun _ _ h=>h.elim⟩
def UH(P:Program)(gl:Ctx):List bG→Prop
 |[]=>True
 |C::l=>C.holds P gl∧UH P gl l
theorem hold{P:Program}{gl:Ctx}:∀{l:List bG},UH P gl l→∀C∈l,C.holds P gl
 |[],_,C,h=>by cases h
 |
  D::l,h,C,hC=>by
  rcases List.mem_cons.1 hC with rfl|hC
  ·exact h.1
  ·exact hold h.2 C hC
def UI(P:Program)(gl:Ctx):List IC→Prop
 |[]=>True
 |C::l=>C.holds P gl∧UI P gl l
theorem FQ{P:Program}{l:List LA}:∀{L:List IC},UI P (Ctx.of l) L→∀C∈L,C.holds P (Ctx.of l)∧∀S w,(Ctx.of l).B S w
 |[],_,C,h=>by cases h
 |
  D::L,h,C,hC=>by
  rcases List.mem_cons.1 hC with rfl|hC
  ·exact⟨h.1,fun _ _=>trivial⟩
  ·exact FQ h.2 C hC
theorem aJ{P:Program}{gl:Ctx}:∀C∈([]:List IC),C.holds P gl∧∀S w,gl.B S w:=fun C h=>by cases h
end Go.Ax
