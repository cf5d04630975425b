/- The machines: what it means to be walked or run, part 4. No condition. -/
import Derived.Test.YtgdcjlldafmomaaGreatA3
import Derived.Laws.Cover3
import Derived.RangeFuncRecord
namespace Go.Ax
def LS(d:Nat)(x:AV):Bool:=x.ids.all fun c=> !Nat.beq c d
def jG(b d:Nat)(x:AV):Option AV:=if kf b x&&LS d x then some x else none
theorem DE{d:Nat}{x:AV}(h:LS d x=true):∀c∈x.ids,c≠d:=fun c hc e=>by
 simp only[LS,List.all_eq_true] at h
 have:=h c hc
 subst e;simp at this
def Env.pull(E:Env)(b d:Nat)(og:Option Nat)(v:Value)(td tb:Ty):Env where
 g:=fun c=>if c=d then og else E.g c
 sv:=fun c=>if c=d then v else E.sv c
 bt:=fun c=>if c=d then td else if c=b then tb else E.bt c
 S:=E.S
 P:=fun c x=>c≠d∧E.P c x∧(c=b→og≠some x)
theorem Env.AF{E:Env}{b d:Nat}{og:Option Nat}{v:Value}{td tb:Ty}{c:Nat}(h1:c≠d)(h2:c≠b):(E.pull b d og v td tb).g c=E.g c∧(E.pull b d og v td tb).sv c=E.sv c∧(E.pull b d og v td tb).bt c=E.bt c:=by simp[Env.pull,h1,h2]
theorem Env.kg{E:Env}{b d:Nat}{og:Option Nat}{v:Value}{td tb:Ty}{c x:Nat}(h:c≠d)(k:(E.pull b d og v td tb).has c x):E.has c x:=by
 rcases k with k|k
 ·exact Or.inl (by simpa[Env.pull,h] using k)
 ·exact Or.inr k.2.1
theorem Env.mD{E:Env}{b d:Nat}{og:Option Nat}{v:Value}{td tb:Ty}{x:Nat}(k:(E.pull b d og v td tb).has d x):og=some x:=by
 rcases k with k|k
 ·simpa[Env.pull] using k
 ·exact absurd rfl k.1
theorem G2{E:Env}{w:World}{b d:Nat}{og:Option Nat}{v:Value}{td tb:Ty}{x:AV}{vs:List Value}(h1:kf b x=true)(h2:LS d x=true)(hr:RC E w x vs):RC (E.pull b d og v td tb) w x vs:=by
 have:=DD (t:=tb) h1 hr
 refine RC.mono (E:=E.re b tb) (E':=E.pull b d og v td tb) (w:=w) ⟨fun _ _=>rfl,fun _ h=>h⟩ (fun c hc=>?_) this
 have hne:=DE h2 c hc
 simp[Env.pull,Env.re,hne]
theorem DF{E:Env}{w:World}{b d:Nat}{og:Option Nat}{v:Value}{td tb:Ty}:Good E (E.pull b d og v td tb) w (jG b d) where
 rc:=by
  intro x y vs h hr
  unfold jG at h
  split at h
  ·rename_i hn;cases h
   simp only[Bool.and_eq_true] at hn
   exact G2 hn.1 hn.2 hr
  ·cases h
 agg:=by
  intro x y h
  unfold jG at h
  split at h
  ·cases h;rfl
  ·cases h
 mp:=by
  intro c y h
  unfold jG at h
  split at h
  ·rename_i hn
   cases h
   simp only[Bool.and_eq_true] at hn
   have:=DE hn.2 c (by simp[AV.ids])
   simp[Env.pull,this]
  ·cases h
 fn:=by
  intro fn fs cs y h
  unfold jG at h
  split at h
  ·rename_i hn
   cases h
   simp only[Bool.and_eq_true,kf] at hn
   have h2:=hn.2
   simp only[LS,AV.ids,List.all_append,Bool.and_eq_true] at h2
   exact⟨fs,cs,rfl,by unfold jG;rw[if_pos];simp only[Bool.and_eq_true];exact⟨hn.1.1.1.1,h2.1⟩,by unfold jG;rw[if_pos];simp only[Bool.and_eq_true];exact⟨hn.1.1.1.2,h2.2⟩,hn.1.1.2,hn.1.2⟩
  ·cases h
theorem bO.pull{gl:Ctx}{σ:St}{E:Env}{a:Act}{w:World}(hg:bO gl σ E a w){b d:Nat}{k k1 k2:aI}{og:Option Nat}{v:Value}{td tb:Ty}{σ1:St}(hb:σ.hp[b]? =some (some k))(h16:16≤b)(hbd:b≠d)(hd:σ.fresh d)
 (hP:∀x,og=some x→E.P b x∧E.g b≠some x) (hm:St.eL (jG b d) {σ with hp:=σ.hp.set b none}=some σ1) (hk1:RB (E.pull b d og v td tb) w b k1) (hk2:RB (E.pull b d og v td tb) w d k2):
 bO gl {σ1 with hp:=(σ1.hp.set b (some k1)).set d (some k2)} (E.pull b d og v td tb) a w∧Ext gl.md (Own σ.hp E) E w (Own ((σ1.hp.set b (some k1)).set d (some k2)) (E.pull b d og v td tb)) (E.pull b d og v td tb) w:=by
 have aaD:=DF (E:=E) (w:=w) (b:=b) (d:=d) (og:=og) (v:=v) (td:=td) (tb:=tb)
 have h16d:=hd.2.2
 unfold St.eL at hm
 split at hm
 ·rename_i hp' df' h3 h4
  cases hm
  have src:∀(i:Nat)(k3:aI),((hp'.set b (some k1)).set d (some k2))[i]? =some (some k3)→(i=d∧k2=k3)∨(i≠d∧i=b∧k1=k3)∨(i≠d∧i≠b∧∃k0,σ.hp[i]? =some (some k0)∧fW (jG b d) (some k0)=some (some k3)):=by
   intro i k3 hi
   rw[List.getElem?_set] at hi
   split at hi
   ·rename_i e;subst e
    split at hi
    ·cases hi;exact Or.inl ⟨rfl,rfl⟩
    ·cases hi
   ·rename_i hne0
    have hne0:i≠d:=fun e=>hne0 e.symm
    rw[List.getElem?_set] at hi
    split at hi
    ·rename_i e;subst e
     split at hi
     ·cases hi;exact Or.inr (Or.inl ⟨hne0,rfl,rfl⟩)
     ·cases hi
    ·rename_i hne
     obtain⟨k0,e1,e2⟩:=gV h3 hi
     simp only[List.getElem?_set] at e1
     rw[if_neg hne] at e1
     exact Or.inr (Or.inr ⟨hne0,fun e=>hne e.symm,k0,e1,e2⟩)
  have any:∀(i:Nat)(k3:aI),((hp'.set b (some k1)).set d (some k2))[i]? =some (some k3)→i≠d→∃k0,σ.hp[i]? =some (some k0):=by
   intro i k3 hi hne
   rcases src i k3 hi with⟨e,_⟩|⟨_,e,_⟩|⟨_,_,k0,e,_⟩
   ·exact absurd e hne
   ·subst e;exact⟨k,hb⟩
   ·exact⟨k0,e⟩
  have old:∀x i,i≠d→(E.pull b d og v td tb).has i x→og=some x→∀k0,σ.hp[i]? =some (some k0)→False:=by
   intro x i hi hh ho k0 hk0
   obtain⟨p1,p2⟩:=hP x ho
   have e:=hg.hw.dc b i k k0 x hb hk0 (Or.inr p1) (Env.kg hi hh)
   subst e
   rcases hh with hh|hh
   ·have:E.g b=some x:=by simpa[Env.pull,hbd] using hh
    exact p2 this
   ·exact hh.2.2 rfl ho
  refine⟨⟨?_,?_,⟨?_,?_,?_,hg.hw.slt,hg.hw.gl,?_⟩,aaD.RD h4 hg.df⟩,⟨rfl,Tp.r rfl rfl,rfl,Nat.le_refl _,fun _ _ _=>rfl,fun _ h=>h,fun _ h=>Or.inl h,?_,fun i hi=>Env.AF (by omega) (by omega)⟩⟩
  ·simp only[gT];exact hg.len
  ·intro i y hy u hu
   rcases gU hy with e|⟨x,e1,e2,e3⟩
   ·subst e;trivial
   ·exact RV.de (aaD.RV e3 (RV.gF e2 (hg.tm i x e1 u hu)))
  ·intro i k3 hi
   rcases src i k3 hi with⟨e,e'⟩|⟨_,e,e'⟩|⟨e0,e1,k0,e3,e4⟩
   ·subst e;subst e';exact hk2
   ·subst e;subst e';exact hk1
   ·obtain⟨z1,z2,z3⟩:=Env.AF (E:=E) (og:=og) (v:=v) (td:=td) (tb:=tb) e0 e1
    exact aaD.RB (fun _ h=>h) (b:=i) (b':=i) z1 z2 z3 (fun _ x hx=>⟨e0,hx,fun e=>absurd e e1⟩) e4 (hg.hw.cj i k0 e3)
  ·intro i j k3 k4 x hi hj g1 g2
   by_cases e:i=d<;>by_cases e':j=d
   ·rw[e,e']
   ·subst e
    obtain⟨k5,f2⟩:=any j k4 hj e'
    exact(old x j e' g2 (Env.mD g1) k5 f2).elim
   ·subst e'
    obtain⟨k5,f2⟩:=any i k3 hi e
    exact(old x i e g1 (Env.mD g2) k5 f2).elim
   ·obtain⟨k5,f1⟩:=any i k3 hi e
    obtain⟨k6,f2⟩:=any j k4 hj e'
    exact hg.hw.dc i j k5 k6 x f1 f2 (Env.kg e g1) (Env.kg e' g2)
  ·intro i k3 x hi hx hs
   by_cases e:i=d
   ·subst e
    exact hg.hw.cN b k x hb (Or.inr (hP x (Env.mD hx)).1) hs
   ·obtain⟨k5,f1⟩:=any i k3 hi e
    exact hg.hw.cN i k5 x f1 (Env.kg e hx) hs
  ·intro i k3 x hi hx
   obtain⟨k5,f1⟩:=any i k3 hi hx.1
   exact hg.hw.nT i k5 x f1 hx.2.1
  ·rintro x ⟨i,k3,hi,hx⟩
   by_cases e:i=d
   ·subst e
    exact Or.inl ⟨b,k,hb,Or.inr (hP x (Env.mD hx)).1⟩
   ·obtain⟨k5,f1⟩:=any i k3 hi e
    exact Or.inl ⟨i,k5,f1,Env.kg e hx⟩
 ·cases hm
def Env.take(E:Env)(b d:Nat)(tb:Ty):Env:=
 {E with bt:=fun c=>if c=b then tb else E.bt c,P:=fun c x=>E.P c x∨(c=b∧E.has d x)}
theorem Env.wY{E:Env}{b d:Nat}{tb:Ty}{c x:Nat}(h:(E.take b d tb).has c x):E.has c x∨(c=b∧E.has d x):=by
 rcases h with h|h|h
 ·exact Or.inl (Or.inl h)
 ·exact Or.inl (Or.inr h)
 ·exact Or.inr h
theorem DG{E:Env}{w:World}{b d:Nat}{tb:Ty}:Good E (E.take b d tb) w (fv b) where
 rc:=by
  intro x y vs h hr
  unfold fv at h
  split at h
  ·rename_i hn;cases h
   exact RC.mono (E:=E.re b tb) (E':=E.take b d tb) (w:=w) ⟨fun _ _=>rfl,fun _ h=>h⟩ (fun _ _=>⟨rfl,rfl,rfl⟩) (DD hn hr)
  ·cases h
 agg:=(uP (E:=E) (w:=w) (b:=b) (t:=tb)).agg
 mp:=(uP (E:=E) (w:=w) (b:=b) (t:=tb)).mp
 fn:=(uP (E:=E) (w:=w) (b:=b) (t:=tb)).fn
theorem bO.take{gl:Ctx}{σ:St}{E:Env}{a:Act}{w:World}(hg:bO gl σ E a w){b d:Nat}{k k1 k2:aI}{tb:Ty}{σ1:St}(hb:σ.hp[b]? =some (some k))(h16:16≤b)(hbd:b≠d)(hd:σ.hp[d]? =some (some k2))
 (hm:St.eL (fv b) {σ with hp:=(σ.hp.set b none).set d none}=some σ1) (hk1:RB (E.take b d tb) w b k1):
 bO gl {σ1 with hp:=σ1.hp.set b (some k1)} (E.take b d tb) a w∧Ext gl.md (Own σ.hp E) E w (Own (σ1.hp.set b (some k1)) (E.take b d tb)) (E.take b d tb) w:=by
 have aaD:=DG (E:=E) (w:=w) (b:=b) (d:=d) (tb:=tb)
 unfold St.eL at hm
 split at hm
 ·rename_i hp' df' h3 h4
  cases hm
  have src:∀(i:Nat)(k3:aI),(hp'.set b (some k1))[i]? =some (some k3)→(i=b∧k1=k3)∨(i≠d∧i≠b∧∃k0,σ.hp[i]? =some (some k0)∧fW (fv b) (some k0)=some (some k3)):=by
   intro i k3 hi
   rw[List.getElem?_set] at hi
   split at hi
   ·rename_i e;subst e
    split at hi
    ·cases hi;exact Or.inl ⟨rfl,rfl⟩
    ·cases hi
   ·rename_i hne
    obtain⟨k0,e1,e2⟩:=gV h3 hi
    simp only at e1
    rw[List.getElem?_set] at e1
    split at e1
    ·split at e1<;>cases e1
    ·rename_i hne0
     rw[List.getElem?_set,if_neg hne] at e1
     exact Or.inr ⟨fun e=>hne0 e.symm,fun e=>hne e.symm,k0,e1,e2⟩
  have own:∀(i:Nat)(k3:aI)(x:Nat),(hp'.set b (some k1))[i]? =some (some k3)→(E.take b d tb).has i x→∃j k0,σ.hp[j]? =some (some k0)∧E.has j x∧((i=b∧(j=b∨j=d))∨(i≠b∧i≠d∧j=i)):=by
   intro i k3 x hi hx
   rcases src i k3 hi with⟨e,_⟩|⟨e0,e1,k0,e3,_⟩
   ·subst e
    rcases Env.wY hx with h|⟨_,h⟩
    ·exact⟨i,k,hb,h,Or.inl ⟨rfl,Or.inl rfl⟩⟩
    ·exact⟨d,k2,hd,h,Or.inl ⟨rfl,Or.inr rfl⟩⟩
   ·rcases Env.wY hx with h|⟨e,_⟩
    ·exact⟨i,k0,e3,h,Or.inr ⟨e1,e0,rfl⟩⟩
    ·exact absurd e e1
  refine⟨⟨?_,?_,⟨?_,?_,?_,hg.hw.slt,hg.hw.gl,?_⟩,aaD.RD h4 hg.df⟩,⟨rfl,Tp.r rfl rfl,rfl,Nat.le_refl _,fun _ _ _=>rfl,fun _ h=>h,fun _ h=>Or.inl h,?_,fun i hi=>⟨rfl,rfl,by simp[Env.take];intro e;omega⟩⟩⟩
  ·simp only[gT];exact hg.len
  ·intro i y hy u hu
   rcases gU hy with e|⟨x,e1,e2,e3⟩
   ·subst e;trivial
   ·exact RV.de (aaD.RV e3 (RV.gF e2 (hg.tm i x e1 u hu)))
  ·intro i k3 hi
   rcases src i k3 hi with⟨e,e'⟩|⟨e0,e1,k0,e3,e4⟩
   ·subst e;subst e';exact hk1
   ·exact aaD.RB (fun _ h=>h) (b:=i) (b':=i) rfl rfl (by simp[Env.take,e1]) (fun _ x hx=>Or.inl hx) e4 (hg.hw.cj i k0 e3)
  ·intro i j k3 k4 x hi hj g1 g2
   obtain⟨i',k5,f1,f2,f3⟩:=own i k3 x hi g1
   obtain⟨j',k6,f4,f5,f6⟩:=own j k4 x hj g2
   have e:=hg.hw.dc i' j' k5 k6 x f1 f4 f2 f5
   rcases f3 with⟨a1,a2⟩|⟨a1,a0,a2⟩<;>rcases f6 with⟨c1,c2⟩|⟨c1,c0,c2⟩
   ·rw[a1,c1]
   ·subst c2;subst e
    rcases a2 with a2|a2
    ·exact absurd a2 c1
    ·exact absurd a2 c0
   ·subst a2;subst e
    rcases c2 with c2|c2
    ·exact absurd c2 a1
    ·exact absurd c2 a0
   ·rw[←a2,←c2,e]
  ·intro i k3 x hi hx
   obtain⟨j,k0,f1,f2,_⟩:=own i k3 x hi hx
   exact hg.hw.cN j k0 x f1 f2
  ·intro i k3 x hi hx
   obtain⟨j,k0,f1,f2,_⟩:=own i k3 x hi (Or.inr hx)
   exact hg.hw.below f1 f2
  ·rintro x ⟨i,k3,hi,hx⟩
   obtain⟨j,k0,f1,f2,_⟩:=own i k3 x hi hx
   exact Or.inl ⟨j,k0,f1,f2⟩
 ·cases hm
end Go.Ax
namespace Go.Ax
def DH(b i d:Nat)(σ:St):Option St:=
 match dx σ.hp b with
 |some (.cm e bs (.slice bs2 t2) xs e2 none)=>if mC b&&σ.dQ d&& !Nat.beq b d then(match St.eL (jG b d) {σ with hp:=σ.hp.set b none} with
  |some σ1=>some {σ1 with hp:=(σ1.hp.set b (some (.cm e bs (.slice bs2 t2) xs e2 (some (i,.own d))))).set d (some (.row e2 bs2 t2 (List.getD xs i [])))}
  |none=>none) else none
 |_=>none
theorem cE.DI{w:World}{S:Nat→Prop}{e:TypeId}{bs:Nat}{t:Ty}{v:Value}{og:Option Nat}{xs:List t.den}(h:cE w S e (.slice bs t) v og xs):Iy w S e bs t v og xs:=h
theorem Wk.DH{gl:Ctx}{b i d:Nat}{σ σ':St}(h:Ax.DH b i d σ=some σ')(hi:∀e bs t xs e2 f,dx σ.hp b=some (.cm e bs t xs e2 f)→i<xs.length):Wk gl σ σ':=by
 intro E a w hg
 unfold Ax.DH at h
 split at h
 ·rename_i e bs bs2 t2 xs e2 hb0
  have hb:=bX σ.hp b _ hb0
  have hi:=hi _ _ _ _ _ _ hb0
  split at h
  ·rename_i hc
   simp only[Bool.and_eq_true] at hc
   obtain⟨⟨h16,hfr⟩,hbd⟩:=hc
   have hbd:b≠d:=fun e=>by subst e;simp at hbd
   split at h
   ·rename_i σ1 hm
    cases h
    obtain⟨h1,h2,h3,h4,h5,g,cap,c,og,q1,q2,q3,q4,q5,q6,q7,q8⟩:=hg.hw.cj b _ hb
    have hxi:xs[i]? =some (List.getD xs i []):=by rw[List.getD_eq_getElem?_getD,List.getElem?_eq_getElem hi];rfl
    obtain⟨u,r1,_,r3⟩:=q8 i _ hxi
    obtain⟨s1,s2,s3,av,cv,s4,s5,s6⟩:=(r3 (fun v hv=>by cases hv)).DI
    refine⟨_,hg.pull (og:=og i) (v:=u) (td:=.arr (List.length (List.getD xs i [])) t2) (tb:=im i xs.length (.slice bs2 t2)) hb (Nat.le_of_ble_eq_true h16) hbd (St.cY hfr) ?_ hm ?_ ?_⟩
    ·intro x hx
     exact⟨(q7.own i x hx).1,fun e=>by rw[q3] at e;cases e;exact(q7.own i _ hx).2 rfl⟩
    ·refine⟨by simp[Env.pull,hbd,k8],h2,h3,h4,fun i' v' hv'=>by cases hv';exact⟨hi,rfl⟩,g,cap,c,fun j=>if j=i then none else og j,by simp[Env.pull,hbd];exact q1,q2,by simp[Env.pull,hbd];exact q3,q4,q5,q6,⟨?_,?_⟩,?_⟩
     ·intro j x hx
      have hx:(if j=i then none else og j)=some x:=hx
      split at hx
      ·cases hx
      ·rename_i hne
       obtain⟨k1,k2⟩:=q7.own j x hx
       exact⟨⟨hbd,k1,fun _ ho=>hne (q7.inj j i x hx ho)⟩,k2⟩
     ·intro j j' x hx hx'
      have hx:(if j=i then none else og j)=some x:=hx
      have hx':(if j'=i then none else og j')=some x:=hx'
      split at hx
      ·cases hx
      ·split at hx'
       ·cases hx'
       ·exact q7.inj j j' x hx hx'
     ·intro j x hx
      obtain⟨z,p1,p2,p3⟩:=q8 j x hx
      refine⟨z,p1,fun v' hv'=>?_,fun hv'=>?_⟩
      ·cases hv'
       rw[r1] at p1;cases p1
       refine⟨if_pos rfl,by show[u]= [(if d=d then u else E.sv d)];rw[if_pos rfl],av,List.length (List.getD xs i []),cv,?_⟩
       show(if d=d then u else E.sv d)=_
       rw[if_pos rfl];exact s4
      ·have hne:j≠i:=fun e=>by subst e;exact hv' _ rfl
       simp only[hne,if_false]
       exact cE.mono (fun _ _=>rfl) (fun _ h=>h) (fun _ _=>rfl) (p3 (fun v hv=>by cases hv))
    ·refine⟨by simp[Env.pull],s1,s2,s3,av,cv,by simp[Env.pull];exact s4,s5,?_⟩
     rcases s6 with⟨k1,k2,k3⟩|⟨g',c',k1,k2,k3,k4,k5,k6⟩
     ·exact Or.inl ⟨k1,by simp[Env.pull];exact k2,k3⟩
     ·exact Or.inr ⟨g',c',by simp[Env.pull];exact k1,k2,k3,k4,k5,k6⟩
   ·cases h
  ·cases h
 ·cases h
def mE(b:Nat)(σ:St):Option St:=
 match dx σ.hp b with
 |
  some (.cm e bs (.slice bs2 t2) xs e2 (some (i,.own d)))=>match dx σ.hp d with
  |some (.row e3 bs3 t3 ys)=>if hc:Ty.same t3 t2=true then(if Nat.beq e3 e2&&Nat.beq bs3 bs2&&mC b&& !Nat.beq b d then(match St.eL (fv b) {σ with hp:=(σ.hp.set b none).set d none} with
   |some σ1=>some {σ1 with hp:=σ1.hp.set b (some (.cm e bs (.slice bs2 t2) (List.set xs i (Ty.aA hc▸ys)) e2 none))}
   |none=>none) else none) else none
  |_=>none
 |_=>none
theorem Wk.mE{gl:Ctx}{b:Nat}{σ σ':St}(h:Ax.mE b σ=some σ'):Wk gl σ σ':=by
 intro E a w hg
 unfold Ax.mE at h
 split at h
 ·rename_i e bs bs2 t2 xs e2 i d hb0
  have hb:=bX σ.hp b _ hb0
  split at h
  ·rename_i e3 bs3 t3 ys hd0
   have hd:=bX σ.hp d _ hd0
   split at h
   ·rename_i hc
    have et:=Ty.aA hc
    subst et
    split at h
    ·rename_i hc2
     simp only[Bool.and_eq_true] at hc2
     obtain⟨⟨⟨c1,c2⟩,h16⟩,hbd⟩:=hc2
     have e1:=Nat.eq_of_beq_eq_true c1;have e2':=Nat.eq_of_beq_eq_true c2
     subst e1;subst e2'
     have hbd:b≠d:=fun e=>by subst e;simp at hbd
     split at h
     ·rename_i σ1 hm
      cases h
      obtain⟨h1,h2,h3,h4,h5,g,cap,c,og,q1,q2,q3,q4,q5,q6,q7,q8⟩:=hg.hw.cj b _ hb
      obtain⟨s0,s1,s2,s3,av,cv,s4,s5,s6⟩:=hg.hw.cj d _ hd
      obtain⟨hi,_⟩:=h5 i _ rfl
      refine⟨_,hg.take (tb:=.arr xs.length (.slice bs3 t3)) hb (Nat.le_of_ble_eq_true h16) hbd hd hm ?_⟩
      refine⟨by simp[Env.take,k8],h2,by rw[List.length_set];exact h3,by rw[List.length_set];exact h4,fun i' v' hv'=>(by cases hv'),g,cap,c,fun j=>if j=i then E.g d else og j,by rw[List.length_set];exact q1,q2,q3,q4,q5,by rw[List.length_set];exact q6,⟨?_,?_⟩,?_⟩
      ·intro j x hx
       have hx:(if j=i then E.g d else og j)=some x:=hx
       split at hx
       ·refine⟨Or.inr ⟨rfl,Or.inl hx⟩,fun e=>?_⟩
        subst e
        exact hbd (hg.hw.sep b d _ _ x hb hd q3 hx)
       ·exact⟨Or.inl (q7.own j x hx).1,(q7.own j x hx).2⟩
      ·intro j j' x hx hx'
       have hx:(if j=i then E.g d else og j)=some x:=hx
       have hx':(if j'=i then E.g d else og j')=some x:=hx'
       split at hx<;>split at hx'
       ·rename_i e1 e2;rw[e1,e2]
       ·exact absurd (hg.hw.dc b d _ _ x hb hd (Or.inr (q7.own j' x hx').1) (Or.inl hx)) hbd
       ·exact absurd (hg.hw.dc b d _ _ x hb hd (Or.inr (q7.own j x hx).1) (Or.inl hx')) hbd
       ·exact q7.inj j j' x hx hx'
      ·intro j x hx
       rw[List.getElem?_set] at hx
       by_cases e:i=j
       ·subst e
        rw[if_pos rfl,if_pos hi] at hx
        cases hx
        obtain⟨z,p1,p2,p3⟩:=q8 i (xs.getD i []) (by rw[List.getD_eq_getElem?_getD,List.getElem?_eq_getElem hi];rfl)
        obtain⟨_,p2,_⟩:=p2 _ rfl
        have ez:z=E.sv d:=by simpa using p2
        refine⟨z,p1,fun v hv=>(by cases hv),fun _=>?_⟩
        simp only[if_true]
        refine⟨s1,s2,s3,av,cv,by rw[ez];exact s4,s5,?_⟩
        rcases s6 with⟨k1,k2,k3⟩|⟨g',c',k1,k2,k3,k4,k5,k6⟩
        ·exact Or.inl ⟨k1,k2,k3⟩
        ·exact Or.inr ⟨g',c',k1,k2,k3,k4,k5,k6⟩
       ·rw[if_neg e] at hx
        obtain⟨z,p1,p2,p3⟩:=q8 j x hx
        refine⟨z,p1,fun v hv=>(by cases hv),fun _=>?_⟩
        have e':j≠i:=fun e'=>e e'.symm
        simp only[e',if_false]
        exact p3 (fun v hv=>by cases hv;exact e rfl)
     ·cases h
    ·cases h
   ·cases h
  ·cases h
 ·cases h
end Go.Ax
namespace Go.Ax
def Env.qN(E:Env)(b:Nat)(R:Nat→Prop):Env:=
 {E with S:=fun g=>E.S g∨R g,P:=fun c x=>c≠b∧E.P c x}
theorem Env.ki{E:Env}{b:Nat}{R:Nat→Prop}{c x:Nat}(h:(E.qN b R).has c x):E.has c x:=h.imp id (fun k=>k.2)
theorem bO.qN{gl:Ctx}{σ:St}{E:Env}{a:Act}{w:World}(hg:bO gl σ E a w){b:Nat}{k k':aI}{R:Nat→Prop}(hb:σ.hp[b]? =some (some k))(hR:∀x,R x→E.P b x∧E.g b≠some x)(hk:RB (E.qN b R) w b k'):
 bO gl {σ with hp:=σ.hp.set b (some k')} (E.qN b R) a w∧Ext gl.md (Own σ.hp E) E w (Own (σ.hp.set b (some k')) (E.qN b R)) (E.qN b R) w:=by
 have kp:bC E w (E.qN b R) w:=⟨fun _ _=>rfl,fun _ h=>Or.inl h⟩
 have src:∀(i:Nat)(k3:aI),(σ.hp.set b (some k'))[i]? =some (some k3)→(i=b∧k'=k3)∨(i≠b∧σ.hp[i]? =some (some k3)):=by
  intro i k3 hi
  rw[List.getElem?_set] at hi
  split at hi
  ·rename_i e;subst e
   split at hi
   ·cases hi;exact Or.inl ⟨rfl,rfl⟩
   ·cases hi
  ·rename_i hne;exact Or.inr ⟨fun e=>hne e.symm,hi⟩
 have any:∀(i:Nat)(k3:aI),(σ.hp.set b (some k'))[i]? =some (some k3)→∃k0,σ.hp[i]? =some (some k0):=by
  intro i k3 hi
  rcases src i k3 hi with⟨e,_⟩|⟨_,e⟩
  ·subst e;exact⟨k,hb⟩
  ·exact⟨k3,e⟩
 refine⟨hg.carry kp (fun _ _=>⟨rfl,rfl,rfl⟩) ⟨?_,?_,?_,?_,hg.hw.eD kp,?_⟩,⟨rfl,Tp.r rfl rfl,rfl,Nat.le_refl _,fun _ _ _=>rfl,fun _ h=>Or.inl h,?_,?_,fun _ _=>⟨rfl,rfl,rfl⟩⟩⟩
 ·intro i k3 hi
  rcases src i k3 hi with⟨e,e'⟩|⟨e,e'⟩
  ·subst e;subst e';exact hk
  ·exact RB.mono kp (fun _ _=>⟨rfl,rfl,rfl⟩) (fun _ _=>rfl) (fun _ x hx=>⟨e,hx⟩) (hg.hw.cj i k3 e')
 ·intro i j k3 k4 x hi hj g1 g2
  obtain⟨k5,f1⟩:=any i k3 hi
  obtain⟨k6,f2⟩:=any j k4 hj
  exact hg.hw.dc i j k5 k6 x f1 f2 (Env.ki g1) (Env.ki g2)
 ·intro i k3 x hi hx hs
  obtain⟨k5,f1⟩:=any i k3 hi
  rcases hs with hs|hs
  ·exact hg.hw.cN i k5 x f1 (Env.ki hx) hs
  ·obtain⟨r1,r2⟩:=hR x hs
   have e:=hg.hw.dc b i k k5 x hb f1 (Or.inr r1) (Env.ki hx)
   subst e
   rcases hx with hx|hx
   ·exact r2 hx
   ·exact hx.1 rfl
 ·rintro x (hs|hs)
  ·exact hg.hw.slt x hs
  ·exact hg.hw.nT b k x hb (hR x hs).1
 ·intro i k3 x hi hx
  obtain⟨k5,f1⟩:=any i k3 hi
  exact hg.hw.nT i k5 x f1 hx.2
 ·rintro x (hs|hs)
  ·exact Or.inl hs
  ·exact Or.inr (Or.inl ⟨b,k,hb,Or.inr (hR x hs).1⟩)
 ·rintro x ⟨i,k3,hi,hx⟩
  obtain⟨k5,f1⟩:=any i k3 hi
  exact Or.inl ⟨i,k5,f1,Env.ki hx⟩
theorem cE.rel{w:World}{S S':Nat→Prop}{e:TypeId}(hS:∀b,S b→S' b){t:Ty}{v:Value}{og:Option Nat}{x:t.den}(hg:∀g,og=some g→S' g)(h:cE w S e t v og x):Rel w S' t [v] x:=by
 cases t with
 |
  slice bs t=>
  obtain⟨h1,h2,h3,a,cap,h4,h5,h6⟩:=h
  subst h4
  rcases h6 with⟨⟨k1,k2⟩,k3,k4⟩|⟨g,c,k1,k2,k3,k4,k5,k6⟩
  ·subst k4;exact⟨a,cap,rfl,Nat.zero_le _,h1,h2,Or.inl rfl⟩
  ·refine⟨a,cap,rfl,k5,h1,h2,Or.inr ⟨g,0,_,k2,hg g k1,?_,aQ.mono (fun _ _=>Rel.mono (fun _ _=>rfl) hS) k6⟩⟩
   have:=lT.of_heap k3 0 (List.length x*t.size)
   rw[List.drop_zero] at this
   exact this
 |
  map k u=>
  obtain⟨es,h0,h1,h2,g,en,clock,h3,h4,h5,h6,h7,h8⟩:=h
  subst h0;subst h4
  exact⟨some g,rfl,Or.inr ⟨es,g,en,clock,rfl,rfl,hg g h3,h5,ij.mono (fun _ _=>fj.mono (fun _ _=>Rel.mono (fun _ _=>rfl) hS)) (fun _ _=>fj.mono (fun _ _=>Rel.mono (fun _ _=>rfl) hS)) h6,h1,h2,h7,h8⟩⟩
 |_=>exact h.elim
def Cc(b:Nat)(σ:St):Option St:=
 match dx σ.hp b with
 |some (.cm e bs t xs _ none)=>some {σ with hp:=σ.hp.set b (some (.row e bs t xs))}
 |some (.pmap k t es _ none)=>if t.isAgg then none else some {σ with hp:=σ.hp.set b (some (.map k t es))}
 |_=>none
theorem aQ.at{α:Type}{r:List Value→α→Prop}:∀{xs:List α}{cs:List Value},cs.length=xs.length→(∀(i:Nat)(x:α),xs[i]? =some x→∃u,cs[i]? =some u∧r [u] x)→aQ r cs xs
 |[],cs,hl,_=>List.eq_nil_of_length_eq_zero hl
 |x::xs,[],hl,_=>by simp at hl
 |
  x::xs,c::cs,hl,h=>by
  obtain⟨u,h1,h2⟩:=h 0 x rfl
  simp at h1;subst h1
  exact⟨[c],cs,rfl,h2,aQ.at (by simpa using hl) (fun i y hy=>by simpa using h (i+1) y (by simpa using hy))⟩
theorem RM.at{E:Env}{w:World}{k v:Ty}:∀{es:List (k.den×v.den)}{en:List MapEntry},en.length=es.length→(∀(i:Nat) x,es[i]? =some x→∃m,en[i]? =some m∧cd E w (.val k x.1) m.key∧cd E w (.val v x.2) m.val)→RM E w k v en es
 |[],[],_,_=>trivial
 |[],_::_,hl,_=>by simp at hl
 |_::_,[],hl,_=>by simp at hl
 |
  x::es,m::en,hl,h=>by
  obtain⟨u,h1,h2,h3⟩:=h 0 x rfl
  simp at h1;subst h1
  exact⟨h2,h3,RM.at (by simpa using hl) (fun i y hy=>by simpa using h (i+1) y (by simpa using hy))⟩
theorem Wk.Cc{gl:Ctx}{b:Nat}{σ σ':St}(h:Ax.Cc b σ=some σ'):Wk gl σ σ':=by
 intro E a w hg
 unfold Ax.Cc at h
 split at h
 ·rename_i e bs t xs e2 hb0
  have hb:=bX σ.hp b _ hb0
  cases h
  obtain⟨h1,h2,h3,h4,h5,g,cap,c,og,q1,q2,q3,q4,q5,q6,q7,q8⟩:=hg.hw.cj b _ hb
  obtain⟨r1,r2⟩:=hg.qN (k':=.row e bs t xs) (R:=fun x=>∃i,og i=some x) hb (fun x ⟨i,hi⟩=>⟨(q7.own i x hi).1,fun e=>by rw[q3] at e;cases e;exact(q7.own i _ hi).2 rfl⟩) (by
   refine⟨h1,h3,h4,by omega,some ⟨g,0,none⟩,cap,q1,q2,Or.inr ⟨g,c,q3,rfl,q4,by rw[h2,Nat.mul_one];exact q5,q6,?_⟩⟩
   rw[h2,Nat.mul_one]
   refine aQ.at (by have hl:c.toList.length=cap:=q5;rw[List.length_take,hl];omega) (fun i x hx=>?_)
   have hi:=(List.getElem?_eq_some_iff.1 hx).1
   obtain⟨u,p1,_,p3⟩:=q8 i x hx
   refine⟨u,by rw[List.getElem?_take,if_pos hi];simpa using p1,?_⟩
   exact cE.rel (fun b hb=>Or.inl hb) (fun x hx=>Or.inr ⟨i,hx⟩) (p3 (fun v hv=>by cases hv)))
  exact⟨_,r1,r2⟩
 ·rename_i k t es e2 hb0
  have hb:=bX σ.hp b _ hb0
  split at h
  ·cases h
  ·rename_i aab
   cases h
   obtain⟨h1,h2,h3,g,en,clock,og,q1,q2,q3,q4,q5,q6,q7,q8⟩:=hg.hw.cj b _ hb
   have kp:bC E w (E.qN b fun x=>∃i,og i=some x) w:=⟨fun _ _=>rfl,fun _ h=>Or.inl h⟩
   obtain⟨r1,r2⟩:=hg.qN (k':=.map k t es) (R:=fun x=>∃i,og i=some x) hb (fun x ⟨i,hi⟩=>⟨(q5.own i x hi).1,fun e=>by rw[q1] at e;cases e;exact(q5.own i _ hi).2 rfl⟩) (by
    refine⟨h1,h2,g,en,clock,q1,q2,RM.at (by rw[Array.length_toList];exact q6) (fun i x hx=>?_),q3,q4⟩
    obtain⟨m,p1,p2,_,p4⟩:=q7 i x hx
    refine⟨m,by simpa using p1,cd.mono kp (fun _ hb=>by cases hb) p2,Or.inr ⟨by simpa[AV.isAgg] using aab,?_⟩⟩
    exact cE.rel (fun b hb=>Or.inl hb) (fun x hx=>Or.inr ⟨i,hx⟩) (p4 (fun v pr hv=>by cases hv)))
   exact⟨_,r1,r2⟩
 ·cases h
def DJ(b:Nat)(e2:TypeId)(σ:St):Option St:=
 match dx σ.hp b with
 |some (.map k t [])=>some {σ with hp:=σ.hp.set b (some (.pmap k t [] e2 none))}
 |_=>none
theorem Wk.DJ{gl:Ctx}{b:Nat}{e2:TypeId}{σ σ':St}(h:Ax.DJ b e2 σ=some σ'):Wk gl σ σ':=by
 intro E a w hg
 unfold Ax.DJ at h
 split at h
 ·rename_i k t hb0
  have hb:=bX σ.hp b _ hb0
  cases h
  obtain⟨h1,h2,g,en,clock,q1,q2,q3,q4,q5⟩:=hg.hw.cj b _ hb
  obtain⟨r1,r2⟩:=hg.qN (k':=.pmap k t [] e2 none) (R:=fun _=>False) hb (fun x hx=>hx.elim) (by
   have hn:en.toList= []:=by
    cases he:en.toList with
    |nil=>rfl
    |cons _ _=>rw[he] at q3;exact q3.elim
   have hs:en.size=0:=by rw[←Array.length_toList,hn];rfl
   exact⟨h1,h2,fun kx v pr hv=>(by cases hv),g,en,clock,fun _=>none,q1,q2,q4,q5,⟨fun i u hu=>(by cases hu),fun i j u hu=>(by cases hu)⟩,hs,fun i x hx=>by simp at hx,fun kx v=>⟨fun hf=>(by cases hf),fun hf=>(by cases hf)⟩⟩)
  exact⟨_,r1,r2⟩
 ·cases h
end Go.Ax
namespace Go.Ax
theorem mF{kt vt:Ty}(hk:kt.keyed=true){k:kt.den}:∀{es:List (kt.den×vt.den)},cp kt k es=true→∃i:Nat,es[i]? =some (k,bJ kt vt k es)
 |[],h=>by simp[cp] at h
 |
  x::es,h=>by
  simp only[cp,Bool.or_eq_true] at h
  cases hb:aU kt k x.1 with
  |true=>exact⟨0,by simp only[bJ,hb,if_true,List.getElem?_cons_zero];rw[(bW hk _ _).1 hb]⟩
  |
   false=>
   rw[hb] at h
   obtain⟨i,hi⟩:=mF hk (h.resolve_left (by simp))
   exact⟨i+1,by simp only[bJ,hb,List.getElem?_cons_succ];exact hi⟩
theorem uQ{kt vt:Ty}{k:kt.den}:∀{es:List (kt.den×vt.den)},cp kt k es=false→bJ kt vt k es=vt.aB
 |[],_=>rfl
 |
  x::es,h=>by
  simp only[cp,Bool.or_eq_false_iff] at h
  simp only[bJ,h.1,Bool.false_eq_true,if_false]
  exact uQ h.2
theorem sE{E:Env}{w:World}{b d:Nat}{kt t:Ty}{es:List (kt.den×t.den)}{e2:TypeId}(hrb:RB E w b (.pmap kt t es e2 none))(hbd:b≠d){kx:kt.den}{y:t.den}{i:Nat}(hi:es[i]? =some (kx,y)):
 ∃u og,cE w E.S e2 t u og y∧(∀x,og=some x→E.P b x∧E.g b≠some x)∧
  ∀v pr td tb,v.bK t=true→RC (E.pull b d og u td tb) w v [u]→RB (E.pull b d og u td tb) w b (.pmap kt t es e2 (some (kx,v,pr))):=by
 obtain⟨z1,z2,z3,g,en,clock,og,y1,y2,y3,y4,y5,y6,y7,y8⟩:=hrb
 obtain⟨m,t1,t2,_,t4⟩:=y7 i _ hi
 refine⟨m.val,og i,t4 (fun v pr hv=>by cases hv),fun x hx=>⟨(y5.own i x hx).1,fun e=>by rw[y1] at e;cases e;exact(y5.own i _ hx).2 rfl⟩,?_⟩
 intro v pr td tb hc hr
 have kp:bC E w (E.pull b d (og i) m.val td tb) w:=⟨fun _ _=>rfl,fun _ h=>h⟩
 refine⟨z1,z2,fun kx' v' pr' hv'=>by cases hv';exact hc,g,en,clock,fun j=>if j=i then none else og j,by simp[Env.pull,hbd];exact y1,y2,y3,y4,⟨?_,?_⟩,y6,?_,?_⟩
 ·intro j x hx
  have hx:(if j=i then none else og j)=some x:=hx
  split at hx
  ·cases hx
  ·rename_i hne
   obtain⟨k1,k2⟩:=y5.own j x hx
   exact⟨⟨hbd,k1,fun _ ho=>hne (y5.inj j i x hx ho)⟩,k2⟩
 ·intro j j' x hx hx'
  have hx:(if j=i then none else og j)=some x:=hx
  have hx':(if j'=i then none else og j')=some x:=hx'
  split at hx
  ·cases hx
  ·split at hx'
   ·cases hx'
   ·exact y5.inj j j' x hx hx'
 ·intro j x hx
  obtain⟨m2,p1,p2,_,p4⟩:=y7 j x hx
  refine⟨m2,p1,cd.mono kp (fun _ hb=>by cases hb) p2,fun v' pr' hv'=>?_,fun hv'=>?_⟩
  ·obtain⟨xk,xv⟩:=x
   simp only[Option.some.injEq,Prod.mk.injEq] at hv'
   obtain⟨e1,e2,e3⟩:=hv'
   subst e1;subst e2
   have e:=lG z1 hi hx
   subst e
   rw[t1] at p1;cases p1
   exact⟨if_pos rfl,hr⟩
  ·have hne:j≠i:=fun e=>by
    subst e
    rw[hi] at hx;cases hx
    exact hv' v pr rfl
   simp only[hne,if_false]
   exact cE.mono (fun _ _=>rfl) (fun _ h=>h) (fun _ _=>rfl) (p4 (fun v pr hv=>by cases hv))
 ·intro kx' v'
  refine⟨fun hf hn=>?_,fun hf=>?_⟩<;>cases hf
  ·exact absurd (List.mem_map.2 ⟨_,List.mem_of_getElem? hi,rfl⟩) hn
  ·exact List.mem_map.2 ⟨_,List.mem_of_getElem? hi,rfl⟩
theorem yN{E:Env}{w:World}{b d:Nat}{kt t:Ty}{es:List (kt.den×t.den)}{e2:TypeId}(hrb:RB E w b (.pmap kt t es e2 none))(hbd:b≠d){kx:kt.den}(hn:kx∉es.map (·.1)){v:AV}{u:Value}{td tb:Ty}(hc:v.bK t=true)(hr:RC (E.pull b d none u td tb) w v [zeroV t]):
 RB (E.pull b d none u td tb) w b (.pmap kt t es e2 (some (kx,v,false))):=by
 obtain⟨z1,z2,z3,g,en,clock,og,y1,y2,y3,y4,y5,y6,y7,y8⟩:=hrb
 have kp:bC E w (E.pull b d none u td tb) w:=⟨fun _ _=>rfl,fun _ h=>h⟩
 refine⟨z1,z2,fun kx' v' pr' hv'=>by cases hv';exact hc,g,en,clock,og,by simp[Env.pull,hbd];exact y1,y2,y3,y4,y5.mono (fun x hx=>⟨hbd,hx,fun _=>by simp⟩),y6,?_,?_⟩
 ·intro j x hx
  obtain⟨m2,p1,p2,_,p4⟩:=y7 j x hx
  refine⟨m2,p1,cd.mono kp (fun _ hb=>by cases hb) p2,fun v' pr' hv'=>?_,fun hv'=>cE.mono (fun _ _=>rfl) (fun _ h=>h) (fun _ _=>rfl) (p4 (fun v pr hv=>by cases hv))⟩
  simp only[Option.some.injEq,Prod.mk.injEq] at hv'
  exact absurd (List.mem_map.2 ⟨x,List.mem_of_getElem? hx,hv'.1.symm⟩) hn
 ·intro kx' v'
  refine⟨fun hf _=>?_,fun hf=>?_⟩<;>cases hf
  exact hr
theorem sF{E:Env}{w:World}{b d:Nat}{kt t tb:Ty}(hk:kt.keyed=true){es:List (kt.den×t.den)}{e2:TypeId}{kx:kt.den}{v:AV}(hrb:RB E w b (.pmap kt t es e2 (some (kx,v,true)))){y:t.den}(aaw:∀u,RC E w v [u]→cE w E.S e2 t u (E.g d) y)
 (hsep:∀x,E.has b x→¬E.has d x):RB (E.take b d tb) w b (.pmap kt t (bz kt kx y es) e2 none):=by
 obtain⟨z1,z2,z3,g,en,clock,og,y1,y2,y3,y4,y5,y6,y7,y8⟩:=hrb
 have hin:=(y8 kx v).2 rfl
 obtain⟨⟨kx',y0⟩,hm,e⟩:=List.mem_map.1 hin
 have e:kx'=kx:=e
 subst e
 obtain⟨i,hi⟩:=List.mem_iff_getElem?.1 hm
 have hlt:i<es.length:=(List.getElem?_eq_some_iff.1 hi).1
 have hes:=uH hk (y:=y) z1 hi
 have kp:bC E w (E.take b d tb) w:=⟨fun _ _=>rfl,fun _ h=>h⟩
 refine⟨cZ hk z1,by rw[hes,List.length_set];exact z2,fun kx' v' pr' hv'=>(by cases hv'),g,en,clock,fun j=>if j=i then E.g d else og j,y1,y2,y3,y4,⟨?_,?_⟩,by rw[hes,List.length_set];exact y6,?_,fun kx' v'=>⟨fun hf=>(by cases hf),fun hf=>(by cases hf)⟩⟩
 ·intro j x hx
  have hx:(if j=i then E.g d else og j)=some x:=hx
  split at hx
  ·exact⟨Or.inr ⟨rfl,Or.inl hx⟩,fun e=>by subst e;exact hsep x (Or.inl y1) (Or.inl hx)⟩
  ·exact⟨Or.inl (y5.own j x hx).1,(y5.own j x hx).2⟩
 ·intro j j' x hx hx'
  have hx:(if j=i then E.g d else og j)=some x:=hx
  have hx':(if j'=i then E.g d else og j')=some x:=hx'
  split at hx<;>split at hx'
  ·rename_i e1 e2;rw[e1,e2]
  ·exact absurd (Or.inl hx) (hsep x (Or.inr (y5.own j' x hx').1))
  ·exact absurd (Or.inl hx') (hsep x (Or.inr (y5.own j x hx).1))
  ·exact y5.inj j j' x hx hx'
 ·rw[hes]
  intro j x hx
  rw[List.getElem?_set] at hx
  by_cases hne:i=j
  ·subst hne
   rw[if_pos rfl,if_pos hlt] at hx
   cases hx
   obtain⟨m,p1,p2,p3,_⟩:=y7 i _ hi
   refine⟨m,p1,cd.mono kp (fun _ hb=>by cases hb) p2,fun v' pr' hv'=>(by cases hv'),fun _=>?_⟩
   simp only[if_true]
   exact aaw _ (p3 v true rfl).2
  ·rw[if_neg hne] at hx
   obtain⟨m,p1,p2,p3,p4⟩:=y7 j x hx
   have hxk:x.1≠kx':=fun e=>by
    obtain⟨xk,xv⟩:=x
    simp only at e
    subst e
    exact hne (lG z1 hi hx)
   have hne':j≠i:=fun e=>hne e.symm
   refine⟨m,p1,cd.mono kp (fun _ hb=>by cases hb) p2,fun v' pr' hv'=>(by cases hv'),fun _=>?_⟩
   simp only[hne',if_false]
   exact p4 (fun v' pr' hv'=>by cases hv';exact hxk rfl)
end Go.Ax
namespace Go.Ax
def DK(mode b d:Nat)(kt:Ty)(kx:kt.den)(σ:St):Option (List VC×St):=
 match mode,dx σ.hp b with
 |0,some (.pmap k u es e2 none)=>if h:Ty.same k kt=true then(if k.keyed&&mC b&&u.rS&&AV.bK .di u then some ([vc (cp k (Ty.aA h▸kx:k.den) es=false)],{σ with hp:=σ.hp.set b (some (.pmap k u es e2 (some ((Ty.aA h▸kx:k.den),.di,false))))}) else none) else none
 |1,some (.pmap k (.map k2 v2) es e2 none)=>if h:Ty.same k kt=true then(if k.keyed&&mC b&&σ.dQ d&& !Nat.beq b d then(match St.eL (jG b d) {σ with hp:=σ.hp.set b none} with
  |some σ1=>some ([vc (cp k (Ty.aA h▸kx:k.den) es=true)],{σ1 with hp:=(σ1.hp.set b (some (.pmap k (.map k2 v2) es e2 (some ((Ty.aA h▸kx:k.den),.mp d,true))))).set d (some (.map k2 v2 (bT (bJ k (.map k2 v2) (Ty.aA h▸kx:k.den) es))))})
  |none=>none) else none) else none
 |2,some (.pmap k (.slice bs t2) es e2 none)=>if h:Ty.same k kt=true then(if k.keyed&&mC b&&σ.dQ d&& !Nat.beq b d&&Nat.blt 0 t2.size then(match St.eL (jG b d) {σ with hp:=σ.hp.set b none} with
  |some σ1=>some ([],{σ1 with hp:=(σ1.hp.set b (some (.pmap k (.slice bs t2) es e2 (some ((Ty.aA h▸kx:k.den),.own d,false))))).set d (some (.row e2 bs t2 (bJ k (.slice bs t2) (Ty.aA h▸kx:k.den) es)))})
  |none=>none) else none) else none
 |_,_=>none
theorem RB.JI{E:Env}{w:World}{d:Nat}{e:TypeId}{bs:Nat}{t:Ty}(hp:0<t.size)(h1:E.bt d= .arr 0 t)(h2:E.sv d= .slice none 0 0)(h3:E.g d=none):RB E w d (.row e bs t []):=
 ⟨h1,by simp,by simp,hp,none,0,h2,Nat.zero_le _,Or.inl ⟨⟨rfl,rfl⟩,h3,rfl⟩⟩
theorem Wk.DK{gl:Ctx}{mode b d:Nat}{kt:Ty}{kx:kt.den}{σ σ':St}{vcs:List VC}(h:Ax.DK mode b d kt kx σ=some (vcs,σ'))(hvc:cX vcs):Wk gl σ σ':=by
 intro E a w hg
 unfold Ax.DK at h
 split at h
 ·rename_i k u es e2 hb0
  have hb:=bX σ.hp b _ hb0
  split at h
  ·rename_i hs
   have et:=Ty.aA hs
   subst et
   split at h
   ·rename_i hc
    cases h
    simp only[Bool.and_eq_true] at hc
    obtain⟨⟨⟨hk,h16⟩,hm⟩,hcf⟩:=hc
    have hn:cp k kx es=false:=hvc.1
    have hn':kx∉es.map (·.1):=fun hm=>by rw[(ee hk).2 hm] at hn;cases hn
    obtain⟨z1,z2,z3,g,en,clock,og,y1,y2,y3,y4,y5,y6,y7,y8⟩:=hg.hw.cj b _ hb
    have hw:=hg.hw.write (w':=w) (k':=.pmap k u es e2 (some (kx,.di,false))) hb rfl (fun _ _=>rfl) (by
     refine⟨z1,z2,fun kx' v' pr' hv'=>by cases hv';exact hcf,g,en,clock,og,y1,y2,y3,y4,y5,y6,?_,?_⟩
     ·intro j x hx
      obtain⟨m2,p1,p2,_,p4⟩:=y7 j x hx
      refine⟨m2,p1,p2,fun v' pr' hv'=>?_,fun hv'=>p4 (fun v pr hv=>by cases hv)⟩
      simp only[Option.some.injEq,Prod.mk.injEq] at hv'
      exact absurd (List.mem_map.2 ⟨x,List.mem_of_getElem? hx,hv'.1.symm⟩) hn'
     ·intro kx' v'
      refine⟨fun hf _=>?_,fun hf=>?_⟩<;>cases hf
      rw[sy hm];rfl)
    exact⟨E,hg.carry ⟨fun _ _=>rfl,fun _ h=>h⟩ (fun _ _=>⟨rfl,rfl,rfl⟩) hw,{Ext.refl (md:=gl.md) (Own σ.hp E) E w with own:=fun g hg'=>Or.inl (Own.set hb hg')}⟩
   ·cases h
  ·cases h
 ·rename_i k k2 v2 es e2 hb0
  have hb:=bX σ.hp b _ hb0
  split at h
  ·rename_i hs
   have et:=Ty.aA hs
   subst et
   split at h
   ·rename_i hc
    simp only[Bool.and_eq_true] at hc
    obtain⟨⟨⟨hk,h16⟩,hfr⟩,hbd⟩:=hc
    have hbd:b≠d:=fun e=>by subst e;simp at hbd
    split at h
    ·rename_i σ1 hm
     cases h
     have hn:cp k kx es=true:=hvc.1
     obtain⟨i,hi⟩:=mF (vt:=.map k2 v2) hk hn
     obtain⟨u,og,s1,s2,s3⟩:=sE (hg.hw.cj b _ hb) hbd hi
     obtain⟨es',e0,m1,m2,g,en,clock,m3,m4,m5,m6,m7,m8⟩:=s1
     have ge:(E.pull b d og u .unit .unit).g d=some g:=by simp[Env.pull];exact m3
     refine⟨_,hg.pull (og:=og) (v:=u) (td:=.unit) (tb:=.unit) hb (Nat.le_of_ble_eq_true h16) hbd (St.cY hfr) s2 hm (s3 (.mp d) true .unit .unit rfl ⟨g,ge,by rw[m4]⟩) ?_⟩
     rw[e0]
     exact⟨m1,m2,g,en,clock,ge,m5,RM.of (E:=E.pull b d og u .unit .unit) m6,m7,m8⟩
    ·cases h
   ·cases h
  ·cases h
 ·rename_i k bs t2 es e2 hb0
  have hb:=bX σ.hp b _ hb0
  split at h
  ·rename_i hs
   have et:=Ty.aA hs
   subst et
   split at h
   ·rename_i hc
    simp only[Bool.and_eq_true] at hc
    obtain⟨⟨⟨⟨hk,h16⟩,hfr⟩,hbd⟩,hpos⟩:=hc
    have hbd:b≠d:=fun e=>by subst e;simp at hbd
    have hpos:0<t2.size:=by simp[Nat.blt] at hpos;omega
    split at h
    ·rename_i σ1 hm
     cases h
     cases hn:cp k kx es with
     |
      true=>
      obtain⟨i,hi⟩:=mF (vt:=.slice bs t2) hk hn
      obtain⟨u,og,s1,s2,s3⟩:=sE (hg.hw.cj b _ hb) hbd hi
      obtain⟨q1,q2,q3,av,cv,q4,q5,q6⟩:=s1.DI
      refine⟨_,hg.pull (og:=og) (v:=u) (td:=.arr (List.length (bJ k (.slice bs t2) kx es)) t2) (tb:=.unit) hb (Nat.le_of_ble_eq_true h16) hbd (St.cY hfr) s2 hm (s3 (.own d) false _ .unit rfl ⟨by simp[Env.pull],av,List.length (bJ k (.slice bs t2) kx es),cv,by simp[Env.pull];exact q4⟩) ?_⟩
      refine⟨by simp[Env.pull],q1,q2,q3,av,cv,by simp[Env.pull];exact q4,q5,?_⟩
      rcases q6 with⟨k1,k2,k3⟩|⟨g',c',k1,k2,k3,k4,k5,k6⟩
      ·exact Or.inl ⟨k1,by simp[Env.pull];exact k2,k3⟩
      ·exact Or.inr ⟨g',c',by simp[Env.pull];exact k1,k2,k3,k4,k5,k6⟩
     |
      false=>
      have hn':kx∉es.map (·.1):=fun hm=>by rw[(ee hk).2 hm] at hn;cases hn
      have e0:bJ k (.slice bs t2) kx es= []:=uQ hn
      rw[e0]
      refine⟨_,hg.pull (og:=none) (v:=.slice none 0 0) (td:=.arr 0 t2) (tb:=.unit) hb (Nat.le_of_ble_eq_true h16) hbd (St.cY hfr) (fun x hx=>by cases hx) hm (yN (hg.hw.cj b _ hb) hbd hn' rfl ⟨by simp[Env.pull,zeroV],none,0,0,by simp[Env.pull]⟩) ?_⟩
      exact RB.JI hpos (by simp[Env.pull]) (by simp[Env.pull]) (by simp[Env.pull])
    ·cases h
   ·cases h
  ·cases h
 ·cases h
def jH(b:Nat)(σ:St):Option St:=
 match dx σ.hp b with
 |
  some (.pmap k (.slice bs2 t2) es e2 (some (kx,.own d,true)))=>match dx σ.hp d with
  |some (.row e3 bs3 t3 ys)=>if hc:Ty.same t3 t2=true then(if k.keyed&&Nat.beq e3 e2&&Nat.beq bs3 bs2&&mC b&& !Nat.beq b d then(match St.eL (fv b) {σ with hp:=(σ.hp.set b none).set d none} with
   |some σ1=>some {σ1 with hp:=σ1.hp.set b (some (.pmap k (.slice bs2 t2) (bz k kx (Ty.aA hc▸ys:List t2.den) es) e2 none))}
   |none=>none) else none) else none
  |_=>none
 |
  some (.pmap k (.map k2 v2) es e2 (some (kx,.mp d,true)))=>match dx σ.hp d with
  |some (.map k3 v3 ys)=>if hc:Ty.same k3 k2=true∧Ty.same v3 v2=true then(if k.keyed&&mC b&& !Nat.beq b d then(match St.eL (fv b) {σ with hp:=(σ.hp.set b none).set d none} with
   |some σ1=>some {σ1 with hp:=σ1.hp.set b (some (.pmap k (.map k2 v2) (bz k kx (some (Ty.aA hc.1▸Ty.aA hc.2▸ys:List (k2.den×v2.den))) es) e2 none))}
   |none=>none) else none) else none
  |_=>none
 |_=>none
theorem Wk.jH{gl:Ctx}{b:Nat}{σ σ':St}(h:Ax.jH b σ=some σ'):Wk gl σ σ':=by
 intro E a w hg
 unfold Ax.jH at h
 split at h
 ·rename_i k bs2 t2 es e2 kx d hb0
  have hb:=bX σ.hp b _ hb0
  split at h
  ·rename_i e3 bs3 t3 ys hd0
   have hd:=bX σ.hp d _ hd0
   split at h
   ·rename_i hc
    have et:=Ty.aA hc
    subst et
    split at h
    ·rename_i hc2
     simp only[Bool.and_eq_true] at hc2
     obtain⟨⟨⟨⟨hk,c1⟩,c2⟩,h16⟩,hbd⟩:=hc2
     have e1:=Nat.eq_of_beq_eq_true c1;have e2':=Nat.eq_of_beq_eq_true c2
     subst e1;subst e2'
     have hbd:b≠d:=fun e=>by subst e;simp at hbd
     split at h
     ·rename_i σ1 hm
      cases h
      refine⟨_,hg.take (tb:=.unit) hb (Nat.le_of_ble_eq_true h16) hbd hd hm (sF hk (hg.hw.cj b _ hb) ?_ (fun x h1 h2=>hbd (hg.hw.dc b d _ _ x hb hd h1 h2)))⟩
      intro u hu
      obtain⟨s0,s1,s2,s3,av,cv,s4,s5,s6⟩:=hg.hw.cj d _ hd
      obtain⟨hu,_⟩:=hu
      have eu:u=E.sv d:=by simpa using hu
      refine⟨s1,s2,s3,av,cv,by rw[eu];exact s4,s5,?_⟩
      rcases s6 with⟨k1,k2,k3⟩|⟨g',c',k1,k2,k3,k4,k5,k6⟩
      ·exact Or.inl ⟨k1,k2,k3⟩
      ·exact Or.inr ⟨g',c',k1,k2,k3,k4,k5,k6⟩
     ·cases h
    ·cases h
   ·cases h
  ·cases h
 ·rename_i k k2 v2 es e2 kx d hb0
  have hb:=bX σ.hp b _ hb0
  split at h
  ·rename_i k3 v3 ys hd0
   have hd:=bX σ.hp d _ hd0
   split at h
   ·rename_i hc
    obtain⟨hc1,hc2⟩:=hc
    have et:=Ty.aA hc1
    subst et
    have et2:=Ty.aA hc2
    subst et2
    split at h
    ·rename_i hc2
     simp only[Bool.and_eq_true] at hc2
     obtain⟨⟨hk,h16⟩,hbd⟩:=hc2
     have hbd:b≠d:=fun e=>by subst e;simp at hbd
     split at h
     ·rename_i σ1 hm
      cases h
      refine⟨_,hg.take (tb:=.unit) hb (Nat.le_of_ble_eq_true h16) hbd hd hm (sF hk (hg.hw.cj b _ hb) ?_ (fun x h1 h2=>hbd (hg.hw.dc b d _ _ x hb hd h1 h2)))⟩
      intro u hu
      obtain⟨s1,s2,g,en,clock,s3,s4,s5,s6,s7⟩:=hg.hw.cj d _ hd
      obtain⟨g',hg',eu⟩:=hu
      rw[s3] at hg';cases hg'
      have eu:u= .map (some g):=by simpa using eu
      exact⟨ys,rfl,s1,s2,g,en,clock,s3,eu,s4,RM.to s5,s6,s7⟩
     ·cases h
    ·cases h
   ·cases h
  ·cases h
 ·cases h
end Go.Ax
namespace Go.Ax
def yO(b:Nat):AV→Bool
 | .own c| .ig c _ _| .dH c=> !Nat.beq c b
 | .func _ fs cs=>yO b fs&&yO b cs&&fs.atoms&&cs.atoms
 | .iface _ v=>yO b v
 | .cons a c=>yO b a&&yO b c
 | .bot| .eU _| .opt _ _=>false
 |_=>true
def ld(b:Nat)(x:AV):Option AV:=if yO b x then some x else none
def Env.rs(E:Env)(b:Nat)(v:Value):Env:={E with sv:=fun c=>if c=b then v else E.sv c}
theorem Env.wZ{E:Env}{b c:Nat}{v:Value}(h:c≠b):(E.rs b v).sv c=E.sv c:=by simp[Env.rs,h]
theorem DL{E:Env}{w:World}{b:Nat}{u:Value}:∀{x:AV}{vs:List Value},yO b x=true→RC E w x vs→RC (E.rs b u) w x vs:=by
 intro x
 have ne:∀{c:Nat},(!Nat.beq c b)=true→c≠b:=fun h e=>by subst e;simp at h
 induction x with
 |ig c lo len=>intro vs h hr;simp only[RC];rw[Env.wZ (ne h)];exact hr
 |own c=>intro vs h hr;simp only[RC];rw[Env.wZ (ne h)];exact hr
 |dH c=>intro vs h hr;simp only[RC];rw[Env.wZ (ne h)];exact hr
 |
  func fn fs cs ih1 ih2=>
  intro vs h hr
  simp only[yO,Bool.and_eq_true] at h
  obtain⟨f,c,e,h1,h2,h3,h4⟩:=hr
  exact⟨f,c,e,ih1 h.1.1.1 h1,ih2 h.1.1.2 h2,h3,h4⟩
 |
  iface t v ih=>
  intro vs h hr
  obtain⟨x,e,hr⟩:=hr
  refine⟨x,e,?_⟩
  rcases hr with⟨h1,cs,e2,h3⟩|⟨h1,h3⟩
  ·exact Or.inl ⟨h1,cs,e2,ih h h3⟩
  ·exact Or.inr ⟨h1,ih h h3⟩
 |
  cons a c ih1 ih2=>
  intro vs h hr
  simp only[yO,Bool.and_eq_true] at h
  obtain⟨v1,v2,e,h1,h2⟩:=hr
  exact⟨v1,v2,e,ih1 h.1 h1,ih2 h.2 h2⟩
 |bot=>intro vs h;simp[yO] at h
 |eU l=>intro vs h;simp[yO] at h
 |opt c v=>intro vs h;simp[yO] at h
 |_=>intro vs h hr;exact hr
theorem JJ{E:Env}{w:World}{b:Nat}{v:Value}:Good E (E.rs b v) w (ld b) where
 rc:=by
  intro x y vs h hr
  unfold ld at h
  split at h
  ·rename_i hn;cases h;exact DL hn hr
  ·cases h
 agg:=by
  intro x y h
  unfold ld at h
  split at h
  ·cases h;rfl
  ·cases h
 mp:=by
  intro c y h
  unfold ld at h
  split at h
  ·cases h;rfl
  ·cases h
 fn:=by
  intro fn fs cs y h
  unfold ld at h
  split at h
  ·rename_i hn
   cases h
   simp only[yO,Bool.and_eq_true] at hn
   exact⟨fs,cs,rfl,by unfold ld;rw[if_pos hn.1.1.1],by unfold ld;rw[if_pos hn.1.1.2],hn.1.2,hn.2⟩
  ·cases h
theorem bO.rs{gl:Ctx}{σ:St}{E:Env}{a:Act}{w:World}(hg:bO gl σ E a w){b:Nat}{k k':aI}{ty:Value}{σ1:St}(hb:σ.hp[b]? =some (some k))(h16:16≤b)(hm:St.eL (ld b) {σ with hp:=σ.hp.set b none}=some σ1)(hk:RB (E.rs b ty) w b k'):
 bO gl {σ1 with hp:=σ1.hp.set b (some k')} (E.rs b ty) a w∧Ext gl.md (Own σ.hp E) E w (Own (σ1.hp.set b (some k')) (E.rs b ty)) (E.rs b ty) w:=by
 have aaD:=JJ (E:=E) (w:=w) (b:=b) (v:=ty)
 unfold St.eL at hm
 split at hm
 ·rename_i hp' df' h3 h4
  cases hm
  have src:∀(i:Nat)(k2:aI),(hp'.set b (some k'))[i]? =some (some k2)→(i=b∧k'=k2)∨(i≠b∧∃k0,σ.hp[i]? =some (some k0)∧fW (ld b) (some k0)=some (some k2)):=by
   intro i k2 hi
   rw[List.getElem?_set] at hi
   split at hi
   ·rename_i e;subst e
    split at hi
    ·cases hi;exact Or.inl ⟨rfl,rfl⟩
    ·cases hi
   ·rename_i hne
    obtain⟨k0,e1,e2⟩:=gV h3 hi
    simp only[List.getElem?_set] at e1
    rw[if_neg hne] at e1
    exact Or.inr ⟨fun e=>hne e.symm,k0,e1,e2⟩
  have any:∀(i:Nat)(k2:aI),(hp'.set b (some k'))[i]? =some (some k2)→∃k0,σ.hp[i]? =some (some k0):=by
   intro i k2 hi
   rcases src i k2 hi with⟨e,_⟩|⟨_,k0,e,_⟩
   ·subst e;exact⟨k,hb⟩
   ·exact⟨k0,e⟩
  refine⟨⟨?_,?_,⟨?_,?_,?_,hg.hw.slt,hg.hw.gl,?_⟩,aaD.RD h4 hg.df⟩,⟨rfl,Tp.r rfl rfl,rfl,Nat.le_refl _,fun _ _ _=>rfl,fun _ h=>h,fun _ h=>Or.inl h,?_,fun i hi=>⟨rfl,Env.wZ (by omega),rfl⟩⟩⟩
  ·simp only[gT];exact hg.len
  ·intro i y hy v hv
   rcases gU hy with e|⟨x,e1,e2,e3⟩
   ·subst e;trivial
   ·exact RV.de (aaD.RV e3 (RV.gF e2 (hg.tm i x e1 v hv)))
  ·intro i k2 hi
   rcases src i k2 hi with⟨e,e'⟩|⟨e1,k0,e3,e4⟩
   ·subst e;subst e';exact hk
   ·exact aaD.RB (fun _ h=>h) (b:=i) (b':=i) rfl (Env.wZ e1) rfl (fun _ _ h=>h) e4 (hg.hw.cj i k0 e3)
  ·intro i j k2 k3 g hi hj g1 g2
   obtain⟨k4,e1⟩:=any i k2 hi
   obtain⟨k5,e2⟩:=any j k3 hj
   exact hg.hw.dc i j k4 k5 g e1 e2 g1 g2
  ·intro i k2 g hi hgi hs
   obtain⟨k4,e1⟩:=any i k2 hi
   exact hg.hw.cN i k4 g e1 hgi hs
  ·intro i k2 g hi hgi
   obtain⟨k4,e1⟩:=any i k2 hi
   exact hg.hw.nT i k4 g e1 hgi
  ·rintro g ⟨i,k2,hi,hgi⟩
   obtain⟨k4,e1⟩:=any i k2 hi
   exact Or.inl ⟨i,k4,e1,hgi⟩
 ·cases hm
def lL(b:Nat)(σ:St):Option St:=
 match dx σ.hp b with
 |
  some (.pmap k t es e2 (some (kx,v,pr)))=>if Nat.ble 16 b&&k.keyed&&yO b v then(match St.eL (ld b) {σ with hp:=σ.hp.set b none} with
  |some σ1=>some {σ1 with hp:=σ1.hp.set b (some (.eH k t es e2 kx v pr))}
  |none=>none) else none
 |_=>none
def kj(b:Nat)(σ:St):Option St:=
 match dx σ.hp b with
 |some (.eH k t es e2 kx v pr)=>some {σ with hp:=σ.hp.set b (some (.pmap k t es e2 (some (kx,v,pr))))}
 |_=>none
theorem PM.rs{E:Env}{w:World}{b:Nat}{u:Value}{kt t:Ty}{es:List (kt.den×t.den)}{e2:TypeId}{kx:kt.den}{v:AV}{pr:Bool}(hn:yO b v=true)(h:PM E w b kt t es e2 (some (kx,v,pr))):PM (E.rs b u) w b kt t es e2 (some (kx,v,pr)):=by
 obtain⟨h1,h2,h3,g,en,clock,og,q1,q2,q3,q4,q5,q6,q7,q8⟩:=h
 refine⟨h1,h2,h3,g,en,clock,og,q1,q2,q3,q4,q5,q6,fun i x hx=>?_,fun kx' v'=>⟨fun hf hnn=>?_,(q8 kx' v').2⟩⟩
 ·obtain⟨m,r1,r2,r3,r4⟩:=q7 i x hx
  refine⟨m,r1,cd.mono (E:=E) (E':=E.rs b u) ⟨fun _ _=>rfl,fun _ h=>h⟩ (fun _ hb=>by cases hb) r2,fun v' pr' hv'=>?_,fun hv'=>r4 hv'⟩
  obtain⟨r5,r6⟩:=r3 v' pr' hv'
  cases hv'
  exact⟨r5,DL hn r6⟩
 ·have:=(q8 kx' v').1 hf hnn
  cases hf
  exact DL hn this
theorem Wk.lL{gl:Ctx}{b:Nat}{σ σ':St}(h:Ax.lL b σ=some σ'):Wk gl σ σ':=by
 intro E a w hg
 unfold Ax.lL at h
 split at h
 case h_2=>cases h
 rename_i k t es e2 kx v pr hb0
 have hb:=bX σ.hp b _ hb0
 split at h
 case isFalse=>cases h
 rename_i hc
 simp only[Bool.and_eq_true] at hc
 obtain⟨⟨c1,c2⟩,c3⟩:=hc
 split at h
 case h_2=>cases h
 rename_i σ1 hm
 cases h
 have hpm:PM E w b k t es e2 (some (kx,v,pr)):=hg.hw.cj b _ hb
 have hpm':=hpm
 obtain⟨z1,z2,z3,g,en,clock,og,y1,y2,y3,y4,y5,y6,y7,y8⟩:=hpm'
 have key:∃n:Nat,(kx∉es.map (·.1)→n=clock)∧∀(i:Nat)(m:MapEntry)(y:t.den),es[i]? =some (kx,y)→en[i]? =some m→m.born=n:=by
  by_cases hin:kx∈es.map (·.1)
  ·obtain⟨⟨zk,zy⟩,hz,ez⟩:=List.mem_map.1 hin
   simp only at ez;subst ez
   obtain⟨i,s1⟩:=List.getElem?_of_mem hz
   obtain⟨m,s2,_⟩:=y7 i _ s1
   refine⟨m.born,fun hh=>absurd hin hh,fun j m' y hj hm'=>?_⟩
   have:=lG z1 hj s1
   subst this
   rw[s2] at hm';cases hm';rfl
  ·refine⟨clock,fun _=>rfl,fun j m' y hj _=>?_⟩
   exact absurd (List.mem_map.2 ⟨_,List.mem_of_getElem? hj,rfl⟩) hin
 obtain⟨n,k1,k2⟩:=key
 refine⟨_,hg.rs (ty:=.int .i64 n) hb (Nat.le_of_ble_eq_true c1) hm ⟨hpm.rs c3,n,g,en,clock,by simp[Env.rs],y1,y2,k1,k2⟩⟩
theorem Wk.kj{gl:Ctx}{b:Nat}{σ σ':St}(h:Ax.kj b σ=some σ'):Wk gl σ σ':=by
 intro E a w hg
 unfold Ax.kj at h
 split at h
 ·rename_i k t es e2 kx v pr hb0
  have hb:=bX σ.hp b _ hb0
  cases h
  obtain⟨hpm,_⟩:=hg.hw.cj b _ hb
  have hw:=hg.hw.write (w':=w) (k':=.pmap k t es e2 (some (kx,v,pr))) hb rfl (fun _ _=>rfl) hpm
  exact⟨E,hg.carry ⟨fun _ _=>rfl,fun _ h=>h⟩ (fun _ _=>⟨rfl,rfl,rfl⟩) hw,{Ext.refl (md:=gl.md) (Own σ.hp E) E w with own:=fun g hg'=>Or.inl (Own.set hb hg')}⟩
 ·cases h
end Go.Ax
namespace Go.Ax
def G3(b b' c:Nat):Nat:=if Nat.beq c b then b' else c
def rn(b b':Nat):AV→Option AV
 | .own c=>some (.own (G3 b b' c))
 | .ig c lo len=>some (.ig (G3 b b' c) lo len)
 | .gn c p lo len=>some (.gn (G3 b b' c) p lo len)
 | .ptr c p=>some (.ptr (G3 b b' c) p)
 | .mp c=>some (.mp (G3 b b' c))
 |
  .func fn fs cs=>match rn b b' fs,rn b b' cs with
  |some f,some c=>if f.atoms&&c.atoms then some (.func fn f c) else none
  |_,_=>none
 |
  .iface u v=>match rn b b' v with
  |some x=>some (.iface u x)
  |none=>none
 |
  .cons x y=>match rn b b' x,rn b b' y with
  |some u,some v=>some (.cons u v)
  |_,_=>none
 | .bot=>none
 | .eU _=>none
 | .opt _ _=>none
 | .dH _=>none
 |x=>some x
def Env.mv(E:Env)(b b':Nat):Env:={E with P:=fun c=>if c=b' then E.P b else E.P c,g:=fun c=>if c=b' then E.g b else E.g c,sv:=fun c=>if c=b' then E.sv b else E.sv c,bt:=fun c=>if c=b' then E.bt b else E.bt c}
theorem sG{E:Env}{b b' c:Nat}(h:c≠b'):(E.mv b b').g (G3 b b' c)=E.g c∧(E.mv b b').sv (G3 b b' c)=E.sv c∧(E.mv b b').bt (G3 b b' c)=E.bt c:=by
 unfold G3
 split
 ·rename_i e;have e:=Nat.eq_of_beq_eq_true e;subst e;simp[Env.mv]
 ·simp[Env.mv,h]
theorem DN(b b':Nat)(x y:AV)(h:rn b b' x=some y):y.isAgg=x.isAgg:=by
 cases x with
 |
  func fn fs cs=>
  simp only[rn] at h
  split at h
  ·split at h
   ·cases h;rfl
   ·cases h
  ·cases h
 |
  iface u v=>
  simp only[rn] at h
  split at h
  ·cases h;rfl
  ·cases h
 |
  cons a c=>
  simp only[rn] at h
  split at h
  ·cases h;rfl
  ·cases h
 |bot=>simp[rn] at h
 |eU l=>simp[rn] at h
 |opt c v=>simp[rn] at h
 |dH c=>simp[rn] at h
 |_=>simp only[rn,Option.some.injEq] at h;subst h;rfl
theorem LU{E:Env}{w:World}{b b':Nat}:∀{x y:AV}{vs:List Value},b'∉x.ids→rn b b' x=some y→RC E w x vs→RC (E.mv b b') w y vs:=by
 intro x
 induction x with
 |own c=>
  intro y vs hi h hr;simp only[rn,Option.some.injEq] at h;subst h
  obtain⟨_,e2,_⟩:=sG (E:=E) (b:=b) (b':=b') (c:=c) (fun e=>hi (by simp[AV.ids,e]))
  simp only[RC];rw[e2];exact hr
 |ig c lo len=>
  intro y vs hi h hr;simp only[rn,Option.some.injEq] at h;subst h
  obtain⟨_,e2,e3⟩:=sG (E:=E) (b:=b) (b':=b') (c:=c) (fun e=>hi (by simp[AV.ids,e]))
  simp only[RC];rw[e2,e3];exact hr
 |gn c p lo len=>
  intro y vs hi h hr;simp only[rn,Option.some.injEq] at h;subst h
  obtain⟨e1,_,e3⟩:=sG (E:=E) (b:=b) (b':=b') (c:=c) (fun e=>hi (by simp[AV.ids,e]))
  simp only[RC];rw[e1,e3];exact hr
 |ptr c p=>
  intro y vs hi h hr;simp only[rn,Option.some.injEq] at h;subst h
  obtain⟨e1,_,e3⟩:=sG (E:=E) (b:=b) (b':=b') (c:=c) (fun e=>hi (by simp[AV.ids,e]))
  simp only[RC];rw[e1,e3];exact hr
 |mp c=>
  intro y vs hi h hr;simp only[rn,Option.some.injEq] at h;subst h
  obtain⟨e1,_,_⟩:=sG (E:=E) (b:=b) (b':=b') (c:=c) (fun e=>hi (by simp[AV.ids,e]))
  simp only[RC];rw[e1];exact hr
 |
  func fn fs cs ih1 ih2=>
  intro y vs hi h hr
  simp only[rn] at h
  simp only[AV.ids,List.mem_append,not_or] at hi
  split at h
  ·rename_i f c h1 h2
   split at h
   ·rename_i ha
    cases h
    simp only[Bool.and_eq_true] at ha
    obtain⟨f',c',e,r1,r2,_,_⟩:=hr
    exact⟨f',c',e,ih1 hi.1 h1 r1,ih2 hi.2 h2 r2,ha.1,ha.2⟩
   ·cases h
  ·cases h
 |
  iface u v ih=>
  intro y vs hi h hr
  simp only[rn] at h
  split at h
  ·rename_i z hz
   cases h
   obtain⟨x,e,hr⟩:=hr
   refine⟨x,e,?_⟩
   have aab:=DN b b' v z hz
   rcases hr with⟨h1,cs,e2,h3⟩|⟨h1,h3⟩
   ·exact Or.inl ⟨by rw[aab];exact h1,cs,e2,ih hi hz h3⟩
   ·exact Or.inr ⟨by rw[aab];exact h1,ih hi hz h3⟩
  ·cases h
 |
  cons a c ih1 ih2=>
  intro y vs hi h hr
  simp only[rn] at h
  simp only[AV.ids,List.mem_append,not_or] at hi
  split at h
  ·rename_i u v h1 h2
   cases h
   obtain⟨v1,v2,e,r1,r2⟩:=hr
   exact⟨v1,v2,e,ih1 hi.1 h1 r1,ih2 hi.2 h2 r2⟩
  ·cases h
 |bot=>intro y vs _ h;simp[rn] at h
 |eU l=>intro y vs _ h;simp[rn] at h
 |opt c v=>intro y vs _ h;simp[rn] at h
 |dH c=>intro y vs _ h;simp[rn] at h
 |_=>intro y vs _ h hr;simp only[rn,Option.some.injEq] at h;subst h;exact hr
theorem JK{E:Env}{w:World}{b b':Nat}:Good E (E.mv b b') w (fun x=>if cq b' x.ids then none else rn b b' x) where
 mp:=by
  intro c y h
  split at h
  ·cases h
  ·rename_i hn
   have hn:=dC (show cq b' (AV.mp c).ids=false by simpa using hn)
   simp only[rn,Option.some.injEq,AV.mp.injEq] at h
   subst h
   exact(sG (fun e=>hn (by simp[AV.ids,e]))).1
 rc:=by
  intro x y vs h hr
  split at h
  ·cases h
  ·rename_i hn;exact LU (dC (by simpa using hn)) h hr
 agg:=by
  intro x y h
  split at h
  ·cases h
  ·exact DN b b' x y h
 fn:=
  by
  intro fn fs cs y h
  split at h
  ·cases h
  ·rename_i hn
   have hn:=dC (show cq b' (AV.func fn fs cs).ids=false by simpa using hn)
   simp only[AV.ids,List.mem_append,not_or] at hn
   simp only[rn] at h
   have f1:cq b' fs.ids=false:=by
    cases hh:cq b' fs.ids with
    |false=>rfl
    |true=>exact absurd (hasNatMem hh) hn.1
   have f2:cq b' cs.ids=false:=by
    cases hh:cq b' cs.ids with
    |false=>rfl
    |true=>exact absurd (hasNatMem hh) hn.2
   split at h
   ·rename_i f c h1 h2
    split at h
    ·rename_i ha
     cases h
     simp only[Bool.and_eq_true] at ha
     exact⟨f,c,rfl,by simp[f1,h1],by simp[f2,h2],ha.1,ha.2⟩
    ·cases h
   ·cases h
where
 hasNatMem {d:Nat}:∀{l:List Nat},cq d l=true→d∈l
  |[],h=>by cases h
  |
   x::l,h=>by
   simp only[cq,Bool.or_eq_true] at h
   rcases h with h|h
   ·rw[Nat.eq_of_beq_eq_true h];exact List.mem_cons_self ..
   ·exact List.mem_cons_of_mem _ (hasNatMem h)
def rename(b b':Nat)(σ:St):Option St:=
 match dx σ.hp b,dx σ.hp b' with
 |
  some k,none=>if Nat.beq b b'||Nat.blt b' 16 then none else
  match St.eL (fun x=>if cq b' x.ids then none else rn b b' x) {σ with hp:=σ.hp.set b none},fW (fun x=>if cq b' x.ids then none else rn b b' x) (some k) with
  |some σ',some k'=>some {σ' with hp:=σ'.hp.set b' k'}
  |_,_=>none
 |_,_=>none
theorem Wk.rename{gl:Ctx}{b b':Nat}{σ σ':St}(h:Ax.rename b b' σ=some σ'):Wk gl σ σ':=by
 intro E a w hg
 unfold Ax.rename at h
 split at h
 ·rename_i k hk hk'
  have hbk:=bX σ.hp b k hk
  split at h
  ·cases h
  ·rename_i hne0
   have hne:b≠b':=fun e=>hne0 (by simp[e])
   have h16:16≤b':=by
    rcases Nat.lt_or_ge b' 16 with hq|hq
    ·have hq':Nat.blt b' 16=true:=Nat.ble_eq_true_of_le (Nat.succ_le_of_lt hq)
     exact absurd (by rw[hq'];simp) hne0
    ·exact hq
   split at h
   ·rename_i σ1 k1 h1 h2
    cases h
    unfold St.eL at h1
    split at h1
    ·rename_i hp' df' h3 h4
     cases h1
     have aaD:=JK (E:=E) (w:=w) (b:=b) (b':=b')
     have hEh:∀i j,(i=b'→j=b)→(i≠b'→j=i)→∀x,(E.mv b b').has i x↔E.has j x:=by
      intro i j h1 h2 x
      by_cases hi:i=b'
      ·rw[h1 hi,hi];simp[Env.has,Env.mv]
      ·rw[h2 hi];simp[Env.has,Env.mv,hi]
     have hEo:∀i,i≠b'→(E.mv b b').g i=E.g i∧(E.mv b b').sv i=E.sv i∧(E.mv b b').bt i=E.bt i:=fun i hi=>by simp[Env.mv,hi]
     have hEn:(E.mv b b').g b'=E.g b∧(E.mv b b').sv b'=E.sv b∧(E.mv b b').bt b'=E.bt b:=by simp[Env.mv]
     have src:∀(i:Nat)(k':aI),(hp'.set b' k1)[i]? =some (some k')→(i=b'∧k1=some k')∨(i≠b'∧i≠b∧∃k0,σ.hp[i]? =some (some k0)∧fW (fun x=>if cq b' x.ids then none else rn b b' x) (some k0)=some (some k')):=by
      intro i k' hi
      rw[List.getElem?_set] at hi
      split at hi
      ·rename_i e;subst e
       split at hi
       ·cases hi;exact Or.inl ⟨rfl,rfl⟩
       ·cases hi
      ·rename_i hne'
       obtain⟨k0,e1,e2⟩:=gV h3 hi
       simp only[List.getElem?_set] at e1
       split at e1
       ·split at e1<;>cases e1
       ·rename_i hne2;exact Or.inr ⟨fun e=>hne' e.symm,fun e=>hne2 e.symm,k0,e1,e2⟩
     have gOf:∀(i:Nat)(k':aI),(hp'.set b' k1)[i]? =some (some k')→∃j k0,σ.hp[j]? =some (some k0)∧(∀x,(E.mv b b').has i x↔E.has j x)∧(i=b'→j=b)∧(i≠b'→j=i):=by
      intro i k' hi
      rcases src i k' hi with⟨e,_⟩|⟨e1,e2,k0,e3,_⟩
      ·subst e;exact⟨b,k,hbk,hEh _ _ (fun _=>rfl) (fun e=>absurd rfl e),fun _=>rfl,fun e=>absurd rfl e⟩
      ·exact⟨i,k0,e3,hEh _ _ (fun e=>absurd e e1) (fun _=>rfl),fun e=>absurd e e1,fun _=>rfl⟩
     refine⟨E.mv b b',⟨?_,?_,⟨?_,?_,?_,hg.hw.slt,hg.hw.gl,?_⟩,aaD.RD h4 hg.df⟩,⟨rfl,Tp.r rfl rfl,rfl,Nat.le_refl _,fun _ _ _=>rfl,fun _ h=>h,fun _ h=>Or.inl h,?_,fun i hi=>hEo i (by omega)⟩⟩
     ·simp only[gT];exact hg.len
     ·intro i y hy v hv
      rcases gU hy with e|⟨x,e1,e2,e3⟩
      ·subst e;trivial
      ·exact RV.de (aaD.RV e3 (RV.gF e2 (hg.tm i x e1 v hv)))
     ·intro i k' hi
      rcases src i k' hi with⟨e,e'⟩|⟨e1,e2,k0,e3,e4⟩
      ·subst e
       rw[e'] at h2
       exact aaD.RB (fun _ h=>h) (b:=b) (b':=i) hEn.1 hEn.2.1 hEn.2.2 (fun _ g hp=>by simpa[Env.mv] using hp) h2 (hg.hw.cj b k hbk)
      ·exact aaD.RB (fun _ h=>h) (b:=i) (b':=i) (hEo i e1).1 (hEo i e1).2.1 (hEo i e1).2.2 (fun _ g hp=>by simpa[Env.mv,e1] using hp) e4 (hg.hw.cj i k0 e3)
     ·intro i j k2 k3 g' hi hj g1 g2
      obtain⟨i',k4,e1,e2,e3,e4⟩:=gOf i k2 hi
      obtain⟨j',k5,f1,f2,f3,f4⟩:=gOf j k3 hj
      have g1:=(e2 _).1 g1;have g2:=(f2 _).1 g2
      have hij:=hg.hw.dc i' j' k4 k5 g' e1 f1 g1 g2
      by_cases hi':i=b'<;>by_cases hj':j=b'
      ·rw[hi',hj']
      ·have h1:=e3 hi';have h2:=f4 hj'
       rcases src j k3 hj with⟨q,_⟩|⟨_,q,_⟩
       ·exact absurd q hj'
       ·exact absurd (by rw[←h2,←hij,h1]) q
      ·have h1:=e4 hi';have h2:=f3 hj'
       rcases src i k2 hi with⟨q,_⟩|⟨_,q,_⟩
       ·exact absurd q hi'
       ·exact absurd (by rw[←h1,hij,h2]) q
      ·rw[←e4 hi',←f4 hj',hij]
     ·intro i k' g' hi hgi hs
      obtain⟨i',k4,e1,e2,_,_⟩:=gOf i k' hi
      exact hg.hw.cN i' k4 g' e1 ((e2 _).1 hgi) hs
     ·intro i k' g' hi hgi
      obtain⟨i',k4,e1,e2,_,_⟩:=gOf i k' hi
      rcases(e2 _).1 (Or.inr hgi) with q|q
      ·exact Own.below hg.hw ⟨i',k4,e1,Or.inl q⟩
      ·exact hg.hw.nT i' k4 g' e1 q
     ·rintro g' ⟨i,k',hi,hgi⟩
      obtain⟨i',k4,e1,e2,_,_⟩:=gOf i k' hi
      exact Or.inl ⟨i',k4,e1,(e2 _).1 hgi⟩
    ·cases h1
   ·cases h
 ·cases h
def uR(s b:Nat)(e:TypeId)(bs:Nat)(t:Ty)(σ:St):Option St:=
 match σ.tm[s]? with
 |some .aX=>if σ.dQ b&&Nat.blt 0 t.size then some {σ with tm:=σ.tm.set s (.own b),hp:=σ.hp.set b (some (.row e bs t []))} else none
 |_=>none
theorem Wk.uR{gl:Ctx}{s b:Nat}{e:TypeId}{bs:Nat}{t:Ty}{σ σ':St}(h:Ax.uR s b e bs t σ=some σ'):Wk gl σ σ':=by
 intro E a w hg
 unfold Ax.uR at h
 split at h
 ·rename_i hs
  split at h
  ·rename_i hc
   cases h
   simp only[Bool.and_eq_true] at hc
   have hlt:s<a.tmps.size:=by rw[hg.len];exact(List.getElem?_eq_some_iff.1 hs).1
   have ha:=RV.atom rfl (hg.tm s _ hs a.tmps[s] (by simp[hlt]))
   simp[RC] at ha
   have hsz:0<t.size:=by have:=hc.2;simp[Nat.blt] at this;omega
   obtain⟨g1,x1⟩:=hg.fresh (w':=w) (St.cY hc.1) (g:=none) (sv:=.slice none 0 0) (t:=.arr 0 t) (k:=.row e bs t []) rfl (Tp.r rfl rfl) rfl (Nat.le_refl _) (fun _ _=>rfl) (fun i hi=>by cases hi)
    ⟨by simp[Env.at],by simp,by simp,hsz,none,0,by simp[Env.at],by simp[maxLen],Or.inl ⟨⟨rfl,rfl⟩,by simp[Env.at],rfl⟩⟩
   refine⟨_,⟨by simp[hg.len],?_,g1.hw,g1.df⟩,x1⟩
   intro i x hx v hv
   rw[List.getElem?_set] at hx
   split at hx
   ·rename_i e';subst e'
    split at hx
    ·cases hx
     have:v= .slice none 0 0:=by rw[Array.getElem?_eq_getElem hlt] at hv;cases hv;exact ha
     subst this
     exact RV.de (Or.inr ⟨rfl,by simp[Env.at],none,0,0,by simp[Env.at]⟩)
    ·cases hx
   ·exact g1.tm i x hx v hv
  ·cases h
 ·cases h
def gW:Ty→Path→Bool
 | .pair a _,.bZ 0::p=>gW a p
 | .pair _ b,.bZ (k+1)::p=>gW b (.bZ k::p)
 |_,[]=>true
 |_,_=>false
theorem kM:∀{t:Ty}{p:Path},gW t p=true→t.valid p:=by
 intro t
 induction t with
 |
  pair a b ih1 ih2=>
  intro p h
  cases p with
  |nil=>simp[Ty.valid]
  |
   cons s p=>
   cases s with
   |
    bZ k=>cases k with
    |zero=>simp only[gW] at h;simp only[Ty.valid];exact ih1 h
    |succ k=>simp only[gW] at h;simp only[Ty.valid];exact ih2 h
   |idx i=>simp[gW] at h
 |
  _=>
  intro p h
  cases p with
  |nil=>simp[Ty.valid]
  |cons s p=>simp[gW] at h
def oD(c:Nat)(p:Path)(b:Nat)(e:TypeId)(bs:Nat)(t:Ty)(σ:St):Option St:=
 match dx σ.hp c with
 |
  some (.var tt v)=>match v.get p,v.set p (.own b) with
  |some .aX,some u=>if σ.dQ b&&Nat.blt 0 t.size&&u.bK tt&&gW tt p&& !Nat.beq c b then some {σ with hp:=(σ.hp.set b (some (.row e bs t []))).set c (some (.var tt u))} else none
  |_,_=>none
 |
  some (.bN e2 bs2 tt xs i v)=>match v.get p,v.set p (.own b) with
  |some .aX,some u=>if σ.dQ b&&Nat.blt 0 t.size&&u.bK tt&&gW tt p&& !Nat.beq c b then some {σ with hp:=(σ.hp.set b (some (.row e bs t []))).set c (some (.bN e2 bs2 tt xs i u))} else none
  |_,_=>none
 |_=>none
theorem Wk.oD{gl:Ctx}{c:Nat}{p:Path}{b:Nat}{e:TypeId}{bs:Nat}{t:Ty}{σ σ':St}(h:Ax.oD c p b e bs t σ=some σ'):Wk gl σ σ':=by
 intro E a w hg
 unfold Ax.oD at h
 split at h
 ·rename_i tt v hc
  have hbk:=bX σ.hp c _ hc
  split at h
  ·rename_i u aam aL
   split at h
   ·rename_i hk
    cases h
    simp only[Bool.and_eq_true] at hk
    obtain⟨⟨⟨⟨k1,k2⟩,k3⟩,k4⟩,k5⟩:=hk
    have hcb:c≠b:=fun e'=>by subst e';simp at k5
    have hsz:0<t.size:=by have:=k2;simp[Nat.blt] at this;omega
    obtain⟨g1,x1⟩:=hg.fresh (w':=w) (St.cY k1) (g:=none) (sv:=.slice none 0 0) (t:=.arr 0 t) (k:=.row e bs t []) rfl (Tp.r rfl rfl) rfl (Nat.le_refl _) (fun _ _=>rfl) (fun i hi=>by cases hi)
     ⟨by simp[Env.at],by simp,by simp,hsz,none,0,by simp[Env.at],by simp[maxLen],Or.inl ⟨⟨rfl,rfl⟩,by simp[Env.at],rfl⟩⟩
    have hb1:(σ.hp.set b (some (.row e bs t [])))[c]? =some (some (.var tt v)):=by
     rw[List.getElem?_set,if_neg (fun e'=>hcb e'.symm)];exact hbk
    obtain⟨r1,r2,g,cs,e',r3,r4,r5⟩:=g1.hw.cj c _ hb1
    have hva:=kM k4
    obtain⟨s,q1,q2,q3,q4⟩:=AV.dO r5 r2 hva aam
    have hs1:s.size=1:=AV.dg q2▸rfl
    have hown:RC (E.at b none (.slice none 0 0) (.arr 0 t)) w (.own b) [.slice none 0 0]:=⟨by simp[Env.at],none,0,0,by simp[Env.at]⟩
    obtain⟨s',p1,p2,p3,p4⟩:=AV.jb hown r5 r2 hva (fun s' hs'=>by rw[q1] at hs';cases hs';simp[hs1]) aL
    rw[q1] at p1;cases p1
    simp only[RC] at q4
    have hcs:cs.toList.take (tt.off p)++[Value.slice none 0 0]++cs.toList.drop (tt.off p+s.size)=cs.toList:=by
     rw[←q4,List.append_assoc,←List.drop_drop,List.take_append_drop,List.take_append_drop]
    rw[hcs] at p4
    have hw2:=g1.hw.write (w':=w) (k':=.var tt u) hb1 rfl (fun _ _=>rfl) ⟨r1,k3,g,cs,e',r3,r4,p4⟩
    refine⟨_,⟨g1.len,g1.tm,hw2,g1.df⟩,{x1 with own:=?_ }⟩
    intro g' hg'
    exact x1.own g' (Own.j0 hb1 hg')
   ·cases h
  ·cases h
 ·rename_i e2 bs2 tt xs i v hc
  have hbk:=bX σ.hp c _ hc
  split at h
  ·rename_i u aam aL
   split at h
   ·rename_i hk
    cases h
    simp only[Bool.and_eq_true] at hk
    obtain⟨⟨⟨⟨k1,k2⟩,k3⟩,k4⟩,k5⟩:=hk
    have hcb:c≠b:=fun e'=>by subst e';simp at k5
    have hsz:0<t.size:=by have:=k2;simp[Nat.blt] at this;omega
    obtain⟨g1,x1⟩:=hg.fresh (w':=w) (St.cY k1) (g:=none) (sv:=.slice none 0 0) (t:=.arr 0 t) (k:=.row e bs t []) rfl (Tp.r rfl rfl) rfl (Nat.le_refl _) (fun _ _=>rfl) (fun i hi=>by cases hi)
     ⟨by simp[Env.at],by simp,by simp,hsz,none,0,by simp[Env.at],by simp[maxLen],Or.inl ⟨⟨rfl,rfl⟩,by simp[Env.at],rfl⟩⟩
    have hb1:(σ.hp.set b (some (.row e bs t [])))[c]? =some (some (.bN e2 bs2 tt xs i v)):=by
     rw[List.getElem?_set,if_neg (fun e'=>hcb e'.symm)];exact hbk
    obtain⟨h1,h2,h3,h4,h5,r2,g,cap,cs,z1,z2,z3,z4,z5,z6,z7,r5,z9⟩:=g1.hw.cj c _ hb1
    have hva:=kM k4
    obtain⟨s,q1,q2,q3,q4⟩:=AV.dO r5 r2 hva aam
    have hs1:s.size=1:=AV.dg q2▸rfl
    have hown:RC (E.at b none (.slice none 0 0) (.arr 0 t)) w (.own b) [.slice none 0 0]:=⟨by simp[Env.at],none,0,0,by simp[Env.at]⟩
    obtain⟨s',p1,p2,p3,p4⟩:=AV.jb hown r5 r2 hva (fun s' hs'=>by rw[q1] at hs';cases hs';simp[hs1]) aL
    rw[q1] at p1;cases p1
    simp only[RC] at q4
    have hcs:((cs.toList.drop (i*tt.size)).take tt.size).take (tt.off p)++[Value.slice none 0 0]++((cs.toList.drop (i*tt.size)).take tt.size).drop (tt.off p+s.size)=(cs.toList.drop (i*tt.size)).take tt.size:=by
     rw[←q4,List.append_assoc,←List.drop_drop,List.take_append_drop,List.take_append_drop]
    rw[hcs] at p4
    have hw2:=g1.hw.write (w':=w) (k':=.bN e2 bs2 tt xs i u) hb1 rfl (fun _ _=>rfl) ⟨h1,h2,h3,h4,h5,k3,g,cap,cs,z1,z2,z3,z4,z5,z6,z7,p4,z9⟩
    refine⟨_,⟨g1.len,g1.tm,hw2,g1.df⟩,{x1 with own:=?_ }⟩
    intro g' hg'
    exact x1.own g' (Own.j0 hb1 hg')
   ·cases h
  ·cases h
 ·cases h
def Env.tr(E:Env)(b d:Nat)(v:Value)(t:Ty):Env:=
 {E with P:=fun c=>if c=d then E.P b else E.P c,g:=fun c=>if c=d then E.g b else E.g c,sv:=fun c=>if c=d then v else E.sv c,bt:=fun c=>if c=d then t else E.bt c}
theorem Env.AG{E:Env}{b d:Nat}{v:Value}{t:Ty}{ids:List Nat}(h:d∉ids):E.on (E.tr b d v t) ids:=fun c hc=>by
 have:c≠d:=fun e=>h (e▸hc)
 simp[Env.tr,this]
def lf(c:Nat)(p:Path)(d:Nat)(σ:St):Option St:=
 match dx σ.hp c with
 |
  some (.var tt v)=>match v.get p,v.set p (.own d) with
  |
   some (.ig b 0 len),some u=>match dx σ.hp b with
   |some (.row e bs t xs)=>if σ.dQ d&&u.bK tt&&gW tt p&& !Nat.beq c b then some {σ with hp:=((σ.hp.set b none).set d (some (.row e bs t (xs.take len)))).set c (some (.var tt u))} else none
   |_=>none
  |_,_=>none
 |_=>none
theorem Wk.lf{gl:Ctx}{c:Nat}{p:Path}{d:Nat}{σ σ':St}(h:Ax.lf c p d σ=some σ'):Wk gl σ σ':=by
 intro E a w hg
 unfold Ax.lf at h
 split at h
 case h_2=>cases h
 rename_i tt v hc
 have hbk:=bX σ.hp c _ hc
 split at h
 case h_2=>cases h
 rename_i b len u aam aL
 split at h
 case h_2=>cases h
 rename_i e bs t xs hb
 have hbr:=bX σ.hp b _ hb
 split at h
 case isFalse=>cases h
 rename_i hk
 cases h
 simp only[Bool.and_eq_true] at hk
 obtain⟨⟨⟨k1,k2⟩,k3⟩,k4⟩:=hk
 have hcb:c≠b:=fun e'=>by subst e';simp at k4
 have hfr:=St.cY k1
 have aaH:=jf.1 hfr.1
 have hdb:d≠b:=fun e'=>hfr.2.1 _ (e'▸hbr)
 have hdc:d≠c:=fun e'=>hfr.2.1 _ (e'▸hbk)
 have hdv:d∉v.ids:=aaH.2.2 c _ hbk
 have h16:16≤d:=hfr.2.2
 obtain⟨r1,r2,g,cs,e',r3,r4,r5⟩:=hg.hw.cj c _ hbk
 obtain⟨s1,s2,s3,s4,ra,cap,s5,s6,s7⟩:=hg.hw.cj b _ hbr
 have hva:=kM k3
 obtain⟨s,q1,q2,q3,q4⟩:=AV.dO r5 r2 hva aam
 have hs1:s.size=1:=AV.dg q2▸rfl
 obtain⟨a1,c1,n1,t1,z1,z2,z3,z4,a',z5,z6⟩:=q4
 rw[s5] at z2;cases z2
 have za:a'=ra:=by
  rcases z6 with z6|z6
  ·exact absurd rfl z6.2
  ·rw[z6]
   rcases s7 with⟨⟨_,x⟩,_⟩|⟨g',c',_,x,_⟩
   ·rw[x];rfl
   ·rw[x];simp[Addr.eP]
 rw[za] at z5
 have hlen:(xs.take len).length=len:=by rw[List.length_take];omega
 have kp:bC E w (E.tr b d (.slice ra len cap) (.arr (xs.take len).length t)) w:=⟨fun _ _=>rfl,fun _ h=>h⟩
 have hEh:∀i j,(i=d→j=b)→(i≠d→j=i)→∀x,(E.tr b d (.slice ra len cap) (.arr (xs.take len).length t)).has i x↔E.has j x:=by
  intro i j h1 h2 x
  by_cases hi:i=d
  ·rw[h1 hi,hi];simp[Env.has,Env.tr]
  ·rw[h2 hi];simp[Env.has,Env.tr,hi]
 have src:∀(i:Nat)(k':aI),((((σ.hp.set b none).set d (some (.row e bs t (xs.take len)))).set c (some (.var tt u)))[i]? =some (some k'))→
  (i=c∧k'= .var tt u)∨(i=d∧k'= .row e bs t (xs.take len))∨(i≠c∧i≠d∧i≠b∧σ.hp[i]? =some (some k')):=by
  intro i k' hi
  rw[List.getElem?_set] at hi
  split at hi
  ·rename_i e1
   split at hi
   ·cases hi;exact Or.inl ⟨e1.symm,rfl⟩
   ·cases hi
  ·rename_i e1
   rw[List.getElem?_set] at hi
   split at hi
   ·rename_i e2
    split at hi
    ·cases hi;exact Or.inr (Or.inl ⟨e2.symm,rfl⟩)
    ·cases hi
   ·rename_i e2
    rw[List.getElem?_set] at hi
    split at hi
    ·split at hi<;>cases hi
    ·rename_i e3
     exact Or.inr (Or.inr ⟨fun x=>e1 x.symm,fun x=>e2 x.symm,fun x=>e3 x.symm,hi⟩)
 have gOf:∀(i:Nat)(k':aI),((((σ.hp.set b none).set d (some (.row e bs t (xs.take len)))).set c (some (.var tt u)))[i]? =some (some k'))→
  ∃j k0,σ.hp[j]? =some (some k0)∧(∀x,(E.tr b d (.slice ra len cap) (.arr (xs.take len).length t)).has i x↔E.has j x)∧(i=d→j=b)∧(i≠d→j=i):=by
  intro i k' hi
  rcases src i k' hi with⟨rfl,_⟩|⟨rfl,_⟩|⟨e1,e2,e3,e4⟩
  ·exact⟨i,_,hbk,hEh _ _ (fun x=>absurd x.symm hdc) (fun _=>rfl),fun x=>absurd x.symm hdc,fun _=>rfl⟩
  ·exact⟨b,_,hbr,hEh _ _ (fun _=>rfl) (fun x=>absurd rfl x),fun _=>rfl,fun x=>absurd rfl x⟩
  ·exact⟨i,k',e4,hEh _ _ (fun x=>absurd x e2) (fun _=>rfl),fun x=>absurd x e2,fun _=>rfl⟩
 refine⟨E.tr b d (.slice ra len cap) (.arr (xs.take len).length t),⟨hg.len,?_,⟨?_,?_,?_,hg.hw.slt,hg.hw.eD kp,?_⟩,RD.mono kp (fun x hx=>Env.AG (fun hd=>aaH.2.1 x hx hd)) hg.df⟩,
  ⟨rfl,Tp.r rfl rfl,rfl,Nat.le_refl _,fun _ _ _=>rfl,fun _ h=>h,fun _ h=>Or.inl h,?_,fun i hi=>by have:i≠d:=(by omega);simp[Env.tr,this]⟩⟩
 ·intro i x hx v hv
  exact RV.mono kp (Env.AG (fun hd=>aaH.1 i x hx hd)) (hg.tm i x hx v hv)
 ·intro i k' hi
  rcases src i k' hi with⟨rfl,rfl⟩|⟨rfl,rfl⟩|⟨e1,e2,e3,e4⟩
  ·have r5':=RC.mono kp (Env.AG hdv) r5
   have hown:RC (E.tr b d (.slice ra len cap) (.arr (xs.take len).length t)) w (.own d) [.slice ra len cap]:=⟨by simp[Env.tr],ra,len,cap,by simp[Env.tr]⟩
   obtain⟨s',p1,p2,p3,p4⟩:=AV.jb hown r5' r2 hva (fun s' hs'=>by rw[q1] at hs';cases hs';simp[hs1]) aL
   rw[q1] at p1;cases p1
   have z5':List.take s.size (List.drop (tt.off p) cs.toList)= [.slice ra len cap]:=by rw[z5];rfl
   have hcs:cs.toList.take (tt.off p)++[Value.slice ra len cap]++cs.toList.drop (tt.off p+s.size)=cs.toList:=by
    rw[←z5',List.append_assoc,←List.drop_drop,List.take_append_drop,List.take_append_drop]
   rw[hcs] at p4
   exact⟨by simpa[Env.tr,Ne.symm hdc] using r1,k2,g,cs,e',by simpa[Env.tr,Ne.symm hdc] using r3,r4,p4⟩
  ·refine⟨by simp[Env.tr],by rw[hlen];exact Nat.le_trans (Nat.mul_le_mul_right _ (by omega)) s2,by rw[hlen];omega,s4,ra,cap,by simp[Env.tr,hlen],s6,?_⟩
   rcases s7 with⟨x1,x2,x3⟩|⟨g',c',x1,x2,x3,x4,x5,x6⟩
   ·exact Or.inl ⟨x1,by simpa[Env.tr] using x2,by rw[x3];simp⟩
   ·refine Or.inr ⟨g',c',by simpa[Env.tr] using x1,x2,x3,x4,by rw[hlen];omega,?_⟩
    have:=aQ.take (fun vs x=>Rel.len) len x6
    rw[List.take_take,Nat.min_eq_left (Nat.mul_le_mul_right _ (by omega))] at this
    rw[hlen];exact this
  ·exact RB.mono kp (Env.AG (by simp only[List.mem_cons,not_or];exact⟨fun x=>e2 x.symm,aaH.2.2 i k' e4⟩)) (fun _ _=>rfl) (fun _ g hp=>by simpa[Env.tr,e2] using hp) (hg.hw.cj i k' e4)
 ·intro i j k2 k3 g' hi hj g1 g2
  obtain⟨i',k4,e1,e2,e3,e4⟩:=gOf i k2 hi
  obtain⟨j',k5,f1,f2,f3,f4⟩:=gOf j k3 hj
  have hij:=hg.hw.dc i' j' k4 k5 g' e1 f1 ((e2 _).1 g1) ((f2 _).1 g2)
  have nb:∀{i:Nat}{k:aI},i≠d→((((σ.hp.set b none).set d (some (.row e bs t (xs.take len)))).set c (some (.var tt u)))[i]? =some (some k))→i≠b:=by
   intro i k hne hi
   rcases src i k hi with⟨rfl,_⟩|⟨rfl,_⟩|⟨_,_,q,_⟩
   ·exact hcb
   ·exact absurd rfl hne
   ·exact q
  by_cases hi':i=d<;>by_cases hj':j=d
  ·rw[hi',hj']
  ·exact absurd (by rw[←f4 hj',←hij,e3 hi']) (nb hj' hj)
  ·exact absurd (by rw[←e4 hi',hij,f3 hj']) (nb hi' hi)
  ·rw[←e4 hi',←f4 hj',hij]
 ·intro i k' g' hi hgi hs
  obtain⟨i',k4,e1,e2,_,_⟩:=gOf i k' hi
  exact hg.hw.cN i' k4 g' e1 ((e2 _).1 hgi) hs
 ·intro i k' g' hi hgi
  obtain⟨i',k4,e1,e2,_,_⟩:=gOf i k' hi
  rcases(e2 _).1 (Or.inr hgi) with q|q
  ·exact Own.below hg.hw ⟨i',k4,e1,Or.inl q⟩
  ·exact hg.hw.nT i' k4 g' e1 q
 ·rintro g' ⟨i,k',hi,hgi⟩
  obtain⟨i',k4,e1,e2,_,_⟩:=gOf i k' hi
  exact Or.inl ⟨i',k4,e1,(e2 _).1 hgi⟩
def mG(c:Nat)(p:Path)(σ:St):Option St:=
 match dx σ.hp c with
 |
  some (.var tt v)=>match tt.sub p,v.get p with
  |
   some u,some _=>match v.set p (.dP u) with
   |some v'=>if v'.bK tt&&gW tt p then some {σ with hp:=σ.hp.set c (some (.var tt v'))} else none
   |none=>none
  |_,_=>none
 |_=>none
theorem Wk.mG{gl:Ctx}{c:Nat}{p:Path}{σ σ':St}(h:Ax.mG c p σ=some σ'):Wk gl σ σ':=by
 intro E a w hg
 unfold Ax.mG at h
 split at h
 case h_2=>cases h
 rename_i tt v hc
 have hbk:=bX σ.hp c _ hc
 split at h
 case h_2=>cases h
 rename_i u x0 hu aam
 split at h
 case h_2=>cases h
 rename_i v' aL
 split at h
 case isFalse=>cases h
 rename_i hk
 cases h
 simp only[Bool.and_eq_true] at hk
 obtain⟨r1,r2,g,cs,e,r3,r4,r5⟩:=hg.hw.cj c _ hbk
 have hva:=kM hk.2
 obtain⟨s,q1,q2,q3,q4⟩:=AV.dO r5 r2 hva aam
 rw[hu] at q1;cases q1
 have hj:RC E w (.dP u) (List.take u.size (List.drop (tt.off p) cs.toList)):=by
  refine⟨by rw[List.length_take,List.length_drop];omega,fun x hx=>RC.one r5 x (List.mem_of_mem_drop (List.mem_of_mem_take hx))⟩
 obtain⟨s',p1,p2,p3,p4⟩:=AV.jb hj r5 r2 hva (fun s' hs'=>by rw[hu] at hs';cases hs';rw[List.length_take,List.length_drop];omega) aL
 rw[hu] at p1;cases p1
 have hcs:cs.toList.take (tt.off p)++List.take u.size (List.drop (tt.off p) cs.toList)++cs.toList.drop (tt.off p+u.size)=cs.toList:=by
  rw[List.append_assoc,←List.drop_drop,List.take_append_drop,List.take_append_drop]
 rw[hcs] at p4
 have hw:=hg.hw.write (w':=w) (k':=.var tt v') hbk rfl (fun _ _=>rfl) ⟨r1,hk.1,g,cs,e,r3,r4,p4⟩
 exact⟨E,hg.carry ⟨fun _ _=>rfl,fun _ h=>h⟩ (fun _ _=>⟨rfl,rfl,rfl⟩) hw,{Ext.refl (md:=gl.md) (Own σ.hp E) E w with own:=fun g hg'=>Or.inl (Own.set hbk hg')}⟩
inductive Gh where
 |wU (ts bs:List Nat)
 |DC (s:Nat) (t:Ty)
 |yM (b:Nat)
 |freeze (b:Nat) (t:Ty)
 |VQ (b b':Nat)
 |uR (s b:Nat) (e:TypeId) (bs:Nat) (t:Ty)
 |oD (c:Nat) (p:Path) (b:Nat) (e:TypeId) (bs:Nat) (t:Ty)
 |iU (b:Nat)
 |Cc (b:Nat)
 |DJ (b:Nat) (e:TypeId)
 |mE (b:Nat)
 |jH (b:Nat)
 |lf (c:Nat) (p:Path) (d:Nat)
 |dH (b:Nat)
 |pt (b:Nat)
 |mG (c:Nat) (p:Path)
def Gh.go(σ:St):Gh→Option St
 | .wU ts bs=>some ⟨mB ts 0 σ.tm,qM bs 0 σ.hp,σ.df⟩
 |
  .DC s t=>match σ.tm[s]? with
  |
   some x=>match x.bA t with
   |some y=>some {σ with tm:=σ.tm.set s (.val t y)}
   |none=>none
  |none=>none
 |
  .yM b=>match σ.hp[b]? with
  |
   some (some (.var t v))=>match v.bA t with
   |some y=>some {σ with hp:=σ.hp.set b (some (.var t (.val t y)))}
   |none=>none
  |
   some (some (.bN e bs t xs i v))=>match v.bA t with
   |some y=>some {σ with hp:=σ.hp.set b (some (.bN e bs t xs i (.val t y)))}
   |none=>none
  |some (some (.jL k v rest (some _)))=>some {σ with hp:=σ.hp.set b (some (.jL k v rest none))}
  |_=>none
 | .freeze b t=>Ax.freeze b t σ
 | .VQ b b'=>rename b b' σ
 | .uR s b e bs t=>Ax.uR s b e bs t σ
 | .oD c p b e bs t=>Ax.oD c p b e bs t σ
 | .iU b=>Ax.iU b σ
 | .Cc b=>Ax.Cc b σ
 | .DJ b e=>Ax.DJ b e σ
 | .mE b=>Ax.mE b σ
 | .jH b=>Ax.jH b σ
 | .lf c p d=>Ax.lf c p d σ
 | .dH b=>lL b σ
 | .pt b=>kj b σ
 | .mG c p=>Ax.mG c p σ
def K8:List Gh→St→Option St
 |[],σ=>some σ
 |
  g::l,σ=>match g.go σ with
  |some σ'=>K8 l σ'
  |none=>none
theorem Gh.ok{gl:Ctx}{g:Gh}{σ σ':St}(h:g.go σ=some σ'):Wk gl σ σ':=by
 cases g with
 |wU ts bs=>cases h;exact Wk.wU gl σ ts bs
 |
  DC s t=>
  simp only[Gh.go] at h
  split at h
  ·rename_i x hx
   split at h
   ·rename_i y hy;cases h;exact Wk.DC hx hy
   ·cases h
  ·cases h
 |
  yM b=>
  simp only[Gh.go] at h
  split at h
  ·rename_i t v hb
   split at h
   ·rename_i y hy;cases h;exact Wk.yM hb hy
   ·cases h
  ·rename_i e bs t xs i v hb
   split at h
   ·rename_i y hy;cases h;exact Wk.Ss hb hy
   ·cases h
  ·rename_i k v rest c hb;cases h;exact Wk.XV hb
  ·cases h
 |freeze b t=>exact Wk.freeze h
 |VQ b b'=>exact Wk.rename h
 |uR s b e bs t=>exact Wk.uR h
 |oD c p b e bs t=>exact Wk.oD h
 |iU b=>exact Wk.iU h
 |Cc b=>exact Wk.Cc h
 |DJ b e=>exact Wk.DJ h
 |mE b=>exact Wk.mE h
 |jH b=>exact Wk.jH h
 |lf c p d=>exact Wk.lf h
 |dH b=>exact Wk.lL h
 |pt b=>exact Wk.kj h
 |mG c p=>exact Wk.mG h
theorem yP{gl:Ctx}:∀{l:List Gh}{σ σ':St},K8 l σ=some σ'→Wk gl σ σ'
 |[],σ,σ',h=>by cases h;exact Wk.refl gl σ
 |
  g::l,σ,σ',h=>by
  simp only[K8] at h
  split at h
  ·rename_i σ1 h1;exact(Gh.ok h1).trans (yP h)
  ·cases h
section
variable{P:Program} {gl:Ctx} {σ:St} {Q:eo→St→Prop}
theorem cw.wk{c:Code}{σ':St}(h:Wk gl σ σ')(hr:cw P gl c σ' Q):cw P gl c σ Q:=by
 intro E a w hg
 obtain⟨E1,g1,x1⟩:=h E a w hg
 refine wpIn_mono (hr E1 a w g1) ?_
 rintro ex a2 w2 ⟨x,σ2,E2,h1,h2,h3,h4⟩
 exact⟨x,σ2,E2,h1,h2,h3,x1.trans h4⟩
theorem cw.post{c:Code}{Q':eo→St→Prop}(hr:cw P gl c σ Q')(hn:∀e σ',e≠.normal→Q' e σ'→Q e σ')(h:∀σ',Q' .normal σ'→∃σ2,Wk gl σ' σ2∧Q .normal σ2):cw P gl c σ Q:=by
 intro E a w hg
 refine wpIn_mono (hr E a w hg) ?_
 rintro ex a2 w2 ⟨x,σ2,E2,h1,h2,h3,h4⟩
 by_cases e:x= .normal
 ·subst e
  obtain⟨σ3,h5,h6⟩:=h σ2 h2
  obtain⟨E3,g3,x3⟩:=h5 E2 a2 w2 h3
  exact⟨.normal,σ3,E3,by cases ex<;>first|exact h1|exact h1.elim,h6,g3,h4.trans x3⟩
 ·exact⟨x,σ2,E2,h1,hn x σ2 e h2,h3,h4⟩
theorem cw.gh{c:Code}(l:List Gh){σ':St}(h:K8 l σ=some σ')(hr:cw P gl c σ' Q):cw P gl c σ Q:=cw.wk (yP h) hr
end
structure Cl(gl:Ctx)(Q:eo→St→Prop):Prop where
 n:∀σ σ',Wk gl σ σ'→Q .normal σ'→Q .normal σ
 e:∀i σ σ',Wk gl σ σ'→Q (.exit i) σ'→Q (.exit i) σ
theorem bG{α:Type}{p:Prop}[Decidable p]{k:Option α}{r:α}(h:(if p then k else none)=some r):p∧k=some r:=by
 split at h
 ·exact⟨by assumption,h⟩
 ·cases h
theorem DO{α:Type}{b:Bool}{x y:Option α}{r:α}(h:(if b=true then x else y)=some r):(b=true∧x=some r)∨(b=false∧y=some r):=by
 cases b
 ·exact Or.inr ⟨rfl,h⟩
 ·exact Or.inl ⟨rfl,h⟩
theorem bind_some{α β:Type}{x:Option α}{f:α→Option β}{r:β}(h:x.bind f=some r):∃y,x=some y∧f y=some r:=by
 cases x with
 |none=>cases h
 |some y=>exact⟨y,rfl,h⟩
inductive cz(β ρ:Type) where
 |brk (b:β)
 |ret (r:ρ)
def ko{α:Type}:List (Nat×α)→List α→List α
 |[],l=>l
 |(i,x)::m,l=>ko m (l.set i x)
def ff:Nat:=18446744073709551616
abbrev aV(n:Int):Int:=IntKind.i64.wrap n
def nth(t:Ty)(xs:List t.den)(i:Int):t.den:=xs.getD i.toNat t.aB
end Go.Ax
namespace Go.Ax
@[reducible] def prod:List Type→Type
 |[]=>Unit
 |t::l=>t×prod l
@[reducible] def eU:List Type→Type
 |[]=>Unit
 |[t]=>t
 |t::u::l=>t×eU (u::l)
def IF:(l:List Type)→prod l→eU l
 |[],_=>()
 |[_],d=>d.1
 |_::u::l,d=>(d.1,IF (u::l) d.2)
def mT:(l:List Type)→eU l→prod l
 |[],_=>()
 |[_],d=>(d,())
 |_::u::l,d=>(d.1,mT (u::l) d.2)
theorem no{α:Type}{e:α}{p:Prop}(h:(none:Option α)=some e):p:=by cases h
theorem mH:∀(l:List Type)(d:prod l),mT l (IF l d)=d
 |[],_=>rfl
 |[_],_=>rfl
 |_::u::l,d=>by show(d.1,mT (u::l) (IF (u::l) d.2))=d;rw[mH (u::l) d.2]
inductive JL where
 |bZ (n:Nat)
 |idx
inductive Sh where
 |val (t:Ty)
 |aX
 |own (b:Nat)
 |ig (b:Nat)
 |gn (b:Nat) (p:List JL)
 |ptr (b:Nat) (p:List JL)
 |bD (t:Ty)
 |mp (b:Nat)
 |eT
 |di
 |dX
 |fA
 |func (f:FuncId) (fs cs:Sh)
 |sH
 |iface (t:TypeId) (v:Sh)
 |cons (a b:Sh)
 |nil
 |Sw
 |dP (t:Ty)
 |cD (f:FuncId) (t:Ty)
inductive dS where
 |var (t:Ty) (s:Sh)
 |row (e:TypeId) (bs:Nat) (t:Ty)
 |map (k v:Ty)
 |lp
 |qf
 |tv (t:Ty) (s:Sh)
 |bN (e:TypeId) (bs:Nat) (t:Ty) (s:Sh)
 |cm (e:TypeId) (bs:Nat) (t:Ty) (e2:TypeId)
 |pmap (k t:Ty) (e2:TypeId)
 |jL (k v:Ty)
 |fu (k:Ty) (l:List (k.den×FuncId))
def pH:List JL→List Type→List Type
 |[],l=>l
 | .bZ _::p,l=>pH p l
 | .idx::p,l=>Nat::pH p l
def pV:(p:List JL)→{l:List Type}→prod (pH p l)→Path
 |[],_,_=>[]
 | .bZ n::p,_,d=>.bZ n::pV p d
 | .idx::p,_,d=>.idx d.1::pV p d.2
def pR:(p:List JL)→{l:List Type}→prod (pH p l)→prod l
 |[],_,d=>d
 | .bZ _::p,_,d=>pR p d
 | .idx::p,_,d=>pR p d.2
def pG:(p:List JL)→{l:List Type}→Path→prod l→Option (prod (pH p l))
 |[],_,[],d=>some d
 | .bZ n::p,_,.bZ m::q,d=>if Nat.beq n m then pG p q d else none
 |
  .idx::p,_,.idx i::q,d=>match pG p q d with
  |some e=>some (i,e)
  |none=>none
 |_,_,_,_=>none
theorem AH:∀{p:List JL}{l:List Type}{q:Path}{d:prod l}{e:prod (pH p l)},pG p q d=some e→pV p e=q∧pR p e=d
 |
  [],l,q,d,e,h=>by
  cases q with
  |nil=>cases(Option.some.inj h:d=e);exact⟨rfl,rfl⟩
  |cons s q=>simp[pG] at h
 |
  .bZ n::p,l,q,d,e,h=>by
  cases q with
  |nil=>simp[pG] at h
  |
   cons s q=>
   cases s with
   |
    bZ m=>
    obtain⟨hb,h0⟩:=bG h
    have hb:=Nat.eq_of_beq_eq_true hb
    subst hb
    obtain⟨h1,h2⟩:=AH (p:=p) h0
    exact⟨by simp only[pV];rw[h1],h2⟩
   |idx i=>simp[pG] at h
 |
  .idx::p,l,q,d,e,h=>by
  cases q with
  |nil=>simp[pG] at h
  |
   cons s q=>
   cases s with
   |bZ m=>simp[pG] at h
   |
    idx i=>
    simp only[pG] at h
    split at h
    ·rename_i e' he
     cases h
     obtain⟨h1,h2⟩:=AH (p:=p) he
     exact⟨by simp only[pV];rw[h1],h2⟩
    ·cases h
def Sh.H:Sh→List Type→List Type
 | .val t,l=>t.den::l
 | .cD _ t,l=>t.den::l
 | .ig _,l=>Nat::Nat::l
 | .gn _ p,l=>pH p (Nat::Nat::l)
 | .ptr _ p,l=>pH p l
 | .bD t,l=>t.den::l
 | .sH,l=>Nat::l
 | .func _ fs cs,l=>fs.H (cs.H l)
 | .iface _ v,l=>v.H l
 | .cons a b,l=>a.H (b.H l)
 |_,l=>l
def Sh.R:(s:Sh)→{l:List Type}→prod (s.H l)→prod l
 | .val _,_,d=>d.2
 | .cD _ _,_,d=>d.2
 | .ig _,_,d=>d.2.2
 | .gn _ p,_,d=>(pR p d).2.2
 | .ptr _ p,_,d=>pR p d
 | .bD _,_,d=>d.2
 | .sH,_,d=>d.2
 | .func _ fs cs,_,d=>cs.R (fs.R d)
 | .iface _ v,_,d=>v.R d
 | .cons a b,_,d=>b.R (a.R d)
 | .aX,_,d| .own _,_,d| .mp _,_,d| .eT,_,d| .di,_,d| .dX,_,d| .fA,_,d| .nil,_,d| .dP _,_,d| .Sw,_,d=>d
def Sh.V(y:YC):(s:Sh)→{l:List Type}→prod (s.H l)→AV
 | .val t,_,d=>.val t d.1
 | .cD f t,_,d=>.cD f t d.1
 | .ig b,_,d=>.ig b d.1 d.2.1
 | .gn b p,_,d=>.gn b (pV p d) (pR p d).1 (pR p d).2.1
 | .ptr b p,_,d=>.ptr b (pV p d)
 | .bD t,_,d=>.bD t d.1
 | .func f fs cs,_,d=>.func (.func f) (fs.V y d) (cs.V y (fs.R d))
 | .iface t v,_,d=>.iface t (v.V y d)
 | .cons a b,_,d=>.cons (a.V y d) (b.V y (a.R d))
 | .aX,_,_=>.aX
 | .own b,_,_=>.own b
 | .mp b,_,_=>.mp b
 | .eT,_,_=>.eT
 | .di,_,_=>.di
 | .dX,_,_=>.dX
 | .fA,_,_=>.fA
 | .sH,_,d=>.func (.yield d.1) .nil .nil
 | .nil,_,_=>.nil
 | .Sw,_,_=>.fx
 | .dP t,_,_=>.dP t
def qO{t u:Ty}(h:Ty.same u t=true)(x:u.den):t.den:=Ty.aA h▸x
theorem sI{t u:Ty}(h:Ty.same u t=true)(x:u.den):AV.val t (qO h x)= .val u x:=by
 have e:=Ty.aA h
 subst e;rfl
theorem yQ{f:FuncId}{t u:Ty}(h:Ty.same u t=true)(x:u.den):AV.cD f t (qO h x)= .cD f u x:=by
 have e:=Ty.aA h
 subst e;rfl
theorem yR{t u:Ty}(h:Ty.same u t=true)(x:u.den):AV.bD t (qO h x)= .bD u x:=by
 have e:=Ty.aA h
 subst e;rfl
def Sh.G:(s:Sh)→{l:List Type}→AV→prod l→Option (prod (s.H l))
 | .val t,_,.val u x,d=>if h:Ty.same u t=true then some (qO h x,d) else none
 | .cD f t,_,.cD g u x,d=>if Nat.beq f g then(if h:Ty.same u t=true then some (qO h x,d) else none) else none
 | .bD t,_,.bD u x,d=>if h:Ty.same u t=true then some (qO h x,d) else none
 | .ig b,_,.ig c i j,d=>if Nat.beq b c then some (i,j,d) else none
 | .gn b p,l,.gn c q i j,d=>if Nat.beq b c then pG p (l:=Nat::Nat::l) q (i,j,d) else none
 | .ptr b p,_,.ptr c q,d=>if Nat.beq b c then pG p q d else none
 |
  .func f fs cs,_,.func (.func g) xs ys,d=>if Nat.beq f g then(match cs.G ys d with
  |some e=>fs.G xs e
  |none=>none) else none
 | .sH,_,.func (.yield g) .nil .nil,d=>some (g,d)
 | .iface t v,_,.iface u x,d=>if Nat.beq t u then v.G x d else none
 |
  .cons a b,_,.cons x y,d=>match b.G y d with
  |some e=>a.G x e
  |none=>none
 | .aX,_,.aX,d| .eT,_,.eT,d| .di,_,.di,d| .dX,_,.dX,d| .fA,_,.fA,d| .nil,_,.nil,d| .Sw,_,.fx,d=>some d
 | .own b,_,.own c,d=>if Nat.beq b c then some d else none
 | .mp b,_,.mp c,d=>if Nat.beq b c then some d else none
 | .dP t,_,.dP u,d=>if Ty.same t u then some d else none
 |_,_,_,_=>none
theorem Sh.rU(y:YC):∀{s:Sh}{l:List Type}{x:AV}{d:prod l}{e:prod (s.H l)},s.G x d=some e→s.V y e=x∧s.R e=d:=by
 intro s
 induction s with
 |
  val t=>
  intro l x d e h
  cases x<;>simp only[Sh.G] at h<;>try cases h
  split at h
  ·rename_i hs;cases h;exact⟨sI hs _,rfl⟩
  ·cases h
 |
  bD t=>
  intro l x d e h
  cases x<;>simp only[Sh.G] at h<;>try cases h
  split at h
  ·rename_i hs;cases h;exact⟨yR hs _,rfl⟩
  ·cases h
 |
  cD f t=>
  intro l x d e h
  cases x<;>simp only[Sh.G] at h<;>try cases h
  split at h
  ·rename_i hf
   have:=Nat.eq_of_beq_eq_true hf;subst this
   split at h
   ·rename_i hs;cases h;exact⟨yQ hs _,rfl⟩
   ·cases h
  ·cases h
 |
  ig b=>
  intro l x d e h
  cases x<;>simp only[Sh.G] at h<;>try cases h
  split at h
  ·rename_i hs;cases h;have:=Nat.eq_of_beq_eq_true hs;subst this;exact⟨rfl,rfl⟩
  ·cases h
 |
  gn b p=>
  intro l x d e h
  cases x<;>simp only[Sh.G] at h<;>try cases h
  obtain⟨hs,h0⟩:=bG h
  have:=Nat.eq_of_beq_eq_true hs;subst this
  obtain⟨h1,h2⟩:=AH h0
  exact⟨by simp only[Sh.V];rw[h1,h2],by simp only[Sh.R];rw[h2]⟩
 |
  ptr b p=>
  intro l x d e h
  cases x<;>simp only[Sh.G] at h<;>try cases h
  obtain⟨hs,h0⟩:=bG h
  have:=Nat.eq_of_beq_eq_true hs;subst this
  obtain⟨h1,h2⟩:=AH h0
  exact⟨by simp only[Sh.V];rw[h1],h2⟩
 |
  func f fs cs ih1 ih2=>
  intro l x d e h
  cases x with
  |
   func g xs ys=>
   cases g with
   |
    func g=>
    simp only[Sh.G] at h
    split at h
    ·rename_i hs
     have:=Nat.eq_of_beq_eq_true hs;subst this
     split at h
     ·rename_i e' he
      obtain⟨a1,a2⟩:=ih2 he
      obtain⟨b1,b2⟩:=ih1 h
      exact⟨by simp only[Sh.V];rw[b1,b2,a1],by simp only[Sh.R];rw[b2,a2]⟩
     ·cases h
    ·cases h
   |_=>simp[Sh.G] at h
  |_=>simp[Sh.G] at h
 |
  iface t v ih=>
  intro l x d e h
  cases x<;>simp only[Sh.G] at h<;>try cases h
  obtain⟨hs,h0⟩:=bG h
  have:=Nat.eq_of_beq_eq_true hs;subst this
  obtain⟨b1,b2⟩:=ih h0
  exact⟨by simp only[Sh.V];rw[b1],b2⟩
 |
  cons a b ih1 ih2=>
  intro l x d e h
  cases x<;>simp only[Sh.G] at h<;>try cases h
  split at h
  ·rename_i e' he
   obtain⟨a1,a2⟩:=ih2 he
   obtain⟨b1,b2⟩:=ih1 h
   exact⟨by simp only[Sh.V];rw[b1,b2,a1],by simp only[Sh.R];rw[b2,a2]⟩
  ·cases h
 |
  own b=>
  intro l x d e h
  cases x<;>simp only[Sh.G] at h<;>try cases h
  split at h
  ·rename_i hs;cases h;have:=Nat.eq_of_beq_eq_true hs;subst this;exact⟨rfl,rfl⟩
  ·cases h
 |
  mp b=>
  intro l x d e h
  cases x<;>simp only[Sh.G] at h<;>try cases h
  split at h
  ·rename_i hs;cases h;have:=Nat.eq_of_beq_eq_true hs;subst this;exact⟨rfl,rfl⟩
  ·cases h
 |
  dP t=>
  intro l x d e h
  cases x<;>simp only[Sh.G] at h<;>try cases h
  split at h
  ·rename_i hs;cases h;have:=Ty.aA hs;subst this;exact⟨rfl,rfl⟩
  ·cases h
 |
  sH=>
  intro l x d e h
  cases x with
  |
   func g xs ys=>
   cases g with
   |yield g=>cases xs<;>cases ys<;>simp only[Sh.G] at h<;>cases h;exact⟨rfl,rfl⟩
   |_=>simp[Sh.G] at h
  |_=>simp[Sh.G] at h
 |_=>intro l x d e h;cases x<;>simp only[Sh.G] at h<;>cases h<;>exact⟨rfl,rfl⟩
def dS.H:dS→List Type→List Type
 | .var _ s,l=>s.H l
 | .row _ _ t,l=>List t.den::l
 | .map k v,l=>List (k.den×v.den)::l
 | .lp,l=>YC::Nat::l
 | .qf,l=>l
 | .tv _ s,l=>Nat::s.H l
 | .bN _ _ t s,l=>List t.den::Nat::s.H l
 | .cm _ _ t _,l=>List t.den::l
 | .pmap k t _,l=>List (k.den×t.den)::l
 | .jL k v,l=>List (k.den×v.den)::l
 | .fu _ _,l=>l
def dS.R:(s:dS)→{l:List Type}→prod (s.H l)→prod l
 | .var _ s,_,d=>s.R d
 | .row _ _ _,_,d=>d.2
 | .map _ _,_,d=>d.2
 | .lp,_,d=>d.2.2
 | .qf,_,d=>d
 | .tv _ s,_,d=>s.R d.2
 | .bN _ _ _ s,_,d=>s.R d.2.2
 | .cm _ _ _ _,_,d=>d.2
 | .pmap _ _ _,_,d=>d.2
 | .jL _ _,_,d=>d.2
 | .fu _ _,_,d=>d
def LV{k:Ty}:List (k.den×FuncId)→List (k.den×AV)
 |[]=>[]
 |x::l=>(x.1,.func (.func x.2) .nil .nil)::LV l
def G4{k:Ty}:List (k.den×AV)→List (k.den×FuncId)→Bool
 |[],[]=>true
 |
  x::l,z::m=>(match x.2 with
  | .func (.func f) .nil .nil=>Nat.beq f z.2
  |_=>false)&&aU k x.1 z.1&&G4 l m
 |_,_=>false
theorem AI{k:Ty}(hk:k.keyed=true):∀{l:List (k.den×AV)}{m:List (k.den×FuncId)},G4 l m=true→LV m=l
 |[],[],_=>rfl
 |[],_::_,h=>by cases h
 |_::_,[],h=>by cases h
 |
  x::l,z::m,h=>by
  simp only[G4,Bool.and_eq_true] at h
  obtain⟨⟨h1,h2⟩,h3⟩:=h
  have e:=(bW hk _ _).1 h2
  obtain⟨x1,x2⟩:=x
  simp only at e h1
  split at h1
  ·have:=Nat.eq_of_beq_eq_true h1
   subst this;subst e
   simp only[LV]
   rw[AI hk h3]
  ·cases h1
def dS.V(y:YC):(s:dS)→{l:List Type}→prod (s.H l)→aI
 | .var t s,_,d=>.var t (s.V y d)
 | .row e bs t,_,d=>.row e bs t d.1
 | .map k v,_,d=>.map k v d.1
 | .lp,_,d=>.lp d.1 d.2.1
 | .qf,_,_=>.qf
 | .tv t s,_,d=>.tv d.1 t (s.V y d.2)
 | .bN e bs t s,_,d=>.bN e bs t d.1 d.2.1 (s.V y d.2.2)
 | .cm e bs t e2,_,d=>.cm e bs t d.1 e2 none
 | .pmap k t e2,_,d=>.pmap k t d.1 e2 none
 | .jL k v,_,d=>.jL k v d.1 none
 | .fu k l,_,_=>.fu k (LV l)
def DP{t u:Ty}(h:Ty.same u t=true)(x:List u.den):List t.den:=Ty.aA h▸x
def DQ{t u t' u':Ty}(h:Ty.same u t=true)(h':Ty.same u' t'=true)(x:List (u.den×u'.den)):List (t.den×t'.den):=Ty.aA h▸Ty.aA h'▸x
def LW{t u:Ty}(h:Ty.same u t=true)(x:List (u.den×AV)):List (t.den×AV):=Ty.aA h▸x
def dS.G:(s:dS)→{l:List Type}→aI→prod l→Option (prod (s.H l))
 | .var t s,_,.var u x,d=>if Ty.same u t then s.G x d else none
 | .row e bs t,_,.row e' bs' u xs,d=>if Nat.beq e e'&&Nat.beq bs bs' then(if h:Ty.same u t=true then some (DP h xs,d) else none) else none
 | .map k v,_,.map k' v' es,d=>if h:Ty.same k' k=true then(if h':Ty.same v' v=true then some (DQ h h' es,d) else none) else none
 | .qf,_,.qf,d=>some d
 | .lp,_,.lp y j,d=>some (y,j,d)
 |
  .tv t s,_,.tv g u x,d=>if Ty.same u t then(match s.G x d with
  |some r=>some (g,r)
  |none=>none) else none
 |
  .bN e bs t s,_,.bN e' bs' u xs i x,d=>if Nat.beq e e'&&Nat.beq bs bs' then(if h:Ty.same u t=true then(match s.G x d with
  |some r=>some (DP h xs,i,r)
  |none=>none) else none) else none
 | .cm e bs t e2,_,.cm e' bs' u xs e2' none,d=>if Nat.beq e e'&&Nat.beq bs bs'&&Nat.beq e2 e2' then(if h:Ty.same u t=true then some (DP h xs,d) else none) else none
 | .pmap k t e2,_,.pmap k' t' es e2' none,d=>if Nat.beq e2 e2' then(if h:Ty.same k' k=true then(if h':Ty.same t' t=true then some (DQ h h' es,d) else none) else none) else none
 | .jL k v,_,.jL k' v' es none,d=>if h:Ty.same k' k=true then(if h':Ty.same v' v=true then some (DQ h h' es,d) else none) else none
 | .fu k l,_,.fu k' l',d=>if h:Ty.same k' k=true then(if k.keyed&&G4 (LW h l') l then some d else none) else none
 |_,_,_,_=>none
theorem dS.rU(y:YC){s:dS}{l:List Type}{x:aI}{d:prod l}{e:prod (s.H l)}(h:s.G x d=some e):s.V y e=x∧s.R e=d:=by
 cases s with
 |
  var t s=>
  cases x<;>simp only[dS.G] at h<;>try cases h
  obtain⟨hs,h0⟩:=bG h
  have:=Ty.aA hs;subst this
  obtain⟨h1,h2⟩:=Sh.rU y h0
  exact⟨by simp only[dS.V];rw[h1],h2⟩
 |
  row e bs t=>
  cases x<;>simp only[dS.G] at h<;>try cases h
  split at h
  ·rename_i hs
   simp only[Bool.and_eq_true] at hs
   have e1:=Nat.eq_of_beq_eq_true hs.1;subst e1
   have e2:=Nat.eq_of_beq_eq_true hs.2;subst e2
   split at h
   ·rename_i ht
    cases h
    have e3:=Ty.aA ht;subst e3
    exact⟨rfl,rfl⟩
   ·cases h
  ·cases h
 |
  map k v=>
  cases x<;>simp only[dS.G] at h<;>try cases h
  split at h
  ·rename_i hs
   split at h
   ·rename_i ht
    cases h
    have e1:=Ty.aA hs;subst e1
    have e3:=Ty.aA ht;subst e3
    exact⟨rfl,rfl⟩
   ·cases h
  ·cases h
 |qf=>cases x<;>simp only[dS.G] at h<;>cases h;exact⟨rfl,rfl⟩
 |lp=>cases x<;>simp only[dS.G] at h<;>cases h;exact⟨rfl,rfl⟩
 |
  tv t s=>
  cases x<;>simp only[dS.G] at h<;>try cases h
  obtain⟨hs,h0⟩:=bG h
  have:=Ty.aA hs;subst this
  split at h0
  ·rename_i r hr
   cases h0
   obtain⟨h1,h2⟩:=Sh.rU y hr
   exact⟨by simp only[dS.V];rw[h1],h2⟩
  ·cases h0
 |
  bN e0 bs t s=>
  cases x with
  |
   bN e' bs' u xs i v=>
   simp only[dS.G] at h
   obtain⟨hs,h0⟩:=bG h
   clear h
   simp only[Bool.and_eq_true] at hs
   have e1:=Nat.eq_of_beq_eq_true hs.1;subst e1
   have e2:=Nat.eq_of_beq_eq_true hs.2;subst e2
   by_cases ht:Ty.same u t=true
   ·rw[dif_pos ht] at h0
    cases hr:s.G v d with
    |none=>rw[hr] at h0;cases h0
    |
     some r=>
     rw[hr] at h0
     cases h0
     have e3:=Ty.aA ht;subst e3
     obtain⟨g1,g2⟩:=Sh.rU y hr
     exact⟨by simp only[dS.V];rw[g1];rfl,g2⟩
   ·rw[dif_neg ht] at h0;cases h0
  |_=>simp[dS.G] at h
 |
  cm e bs t e2=>
  cases x with
  |
   cm e' bs' u xs e2' f=>
   cases f with
   |some f=>simp[dS.G] at h
   |
    none=>
    simp only[dS.G] at h
    obtain⟨hs,h0⟩:=bG h
    clear h
    simp only[Bool.and_eq_true] at hs
    have e1:=Nat.eq_of_beq_eq_true hs.1.1;subst e1
    have e2:=Nat.eq_of_beq_eq_true hs.1.2;subst e2
    have e3:=Nat.eq_of_beq_eq_true hs.2;subst e3
    by_cases ht:Ty.same u t=true
    ·rw[dif_pos ht] at h0
     cases h0
     have e3:=Ty.aA ht;subst e3
     exact⟨rfl,rfl⟩
    ·rw[dif_neg ht] at h0;cases h0
  |_=>simp[dS.G] at h
 |
  pmap k t e2=>
  cases x with
  |
   pmap k' t' es e2' f=>
   cases f with
   |some f=>simp[dS.G] at h
   |
    none=>
    simp only[dS.G] at h
    obtain⟨hs,h0⟩:=bG h
    clear h
    have e3:=Nat.eq_of_beq_eq_true hs;subst e3
    by_cases ht:Ty.same k' k=true
    ·rw[dif_pos ht] at h0
     by_cases ht':Ty.same t' t=true
     ·rw[dif_pos ht'] at h0
      cases h0
      have e3:=Ty.aA ht;subst e3
      have e4:=Ty.aA ht';subst e4
      exact⟨rfl,rfl⟩
     ·rw[dif_neg ht'] at h0;cases h0
    ·rw[dif_neg ht] at h0;cases h0
  |_=>simp[dS.G] at h
 |
  jL k v=>
  cases x with
  |
   jL k' v' es c=>
   cases c with
   |some c=>simp[dS.G] at h
   |
    none=>
    simp only[dS.G] at h
    by_cases ht:Ty.same k' k=true
    ·rw[dif_pos ht] at h
     by_cases ht':Ty.same v' v=true
     ·rw[dif_pos ht'] at h
      cases h
      have e3:=Ty.aA ht;subst e3
      have e4:=Ty.aA ht';subst e4
      exact⟨rfl,rfl⟩
     ·rw[dif_neg ht'] at h;cases h
    ·rw[dif_neg ht] at h;cases h
  |_=>simp[dS.G] at h
 |
  fu k l=>
  cases x with
  |
   fu k' l'=>
   simp only[dS.G] at h
   by_cases ht:Ty.same k' k=true
   ·rw[dif_pos ht] at h
    split at h
    ·rename_i hc
     cases h
     simp only[Bool.and_eq_true] at hc
     have e3:=Ty.aA ht;subst e3
     refine⟨?_,rfl⟩
     show aI.fu _ (LV l)=_
     rw[AI hc.1 hc.2]
     rfl
    ·cases h
   ·rw[dif_neg ht] at h;cases h
  |_=>simp[dS.G] at h
def K9:List (Nat×Sh)→List Type→List Type
 |[],l=>l
 |(_,s)::m,l=>s.H (K9 m l)
def Ns(y:YC):(m:List (Nat×Sh))→{l:List Type}→prod (K9 m l)→List (Nat×AV)
 |[],_,_=>[]
 |(i,s)::m,_,d=>(i,s.V y d)::Ns y m (s.R d)
def LX:(m:List (Nat×Sh))→{l:List Type}→prod (K9 m l)→prod l
 |[],_,d=>d
 |(_,s)::m,_,d=>LX m (s.R d)
def Nt:(m:List (Nat×Sh))→{l:List Type}→List AV→prod l→Option (prod (K9 m l))
 |[],_,_,d=>some d
 |
  (i,s)::m,_,tm,d=>match tm[i]? with
  |
   some x=>match Nt m tm d with
   |some e=>s.G x e
   |none=>none
  |none=>none
theorem DR(y:YC):∀{m:List (Nat×Sh)}{l:List Type}{tm:List AV}{d:prod l}{e:prod (K9 m l)},Nt m tm d=some e→(∀i x,(i,x)∈Ns y m e→tm[i]? =some x)∧LX m e=d
 |[],l,tm,d,e,h=>by cases h;exact⟨(fun i x hx=>by cases hx),rfl⟩
 |
  (i,s)::m,l,tm,d,e,h=>by
  simp only[Nt] at h
  split at h
  ·rename_i x hx
   split at h
   ·rename_i e' he
    obtain⟨h1,h2⟩:=DR y he
    obtain⟨g1,g2⟩:=Sh.rU y h
    refine⟨?_,by simp only[LX];rw[g2];exact h2⟩
    intro j z hz
    simp only[Ns,List.mem_cons,Prod.mk.injEq] at hz
    rcases hz with⟨rfl,rfl⟩|hz
    ·rw[g1];exact hx
    ·rw[g2] at hz;exact h1 j z hz
   ·exact no h
  ·exact no h
def fE:List (Nat×dS)→List Type→List Type
 |[],l=>l
 |(_,s)::m,l=>s.H (fE m l)
def lg(y:YC):(m:List (Nat×dS))→{l:List Type}→prod (fE m l)→List (Nat×aI)
 |[],_,_=>[]
 |(i,s)::m,_,d=>(i,s.V y d)::lg y m (s.R d)
def La:(m:List (Nat×dS))→{l:List Type}→prod (fE m l)→prod l
 |[],_,d=>d
 |(_,s)::m,_,d=>La m (s.R d)
def LY:(m:List (Nat×dS))→{l:List Type}→List (Option aI)→prod l→Option (prod (fE m l))
 |[],_,_,d=>some d
 |
  (i,s)::m,_,hp,d=>match hp[i]? with
  |
   some (some x)=>match LY m hp d with
   |some e=>s.G x e
   |none=>none
  |_=>none
theorem yS(y:YC):∀{m:List (Nat×dS)}{l:List Type}{hp:List (Option aI)}{d:prod l}{e:prod (fE m l)},LY m hp d=some e→(∀i x,(i,x)∈lg y m e→hp[i]? =some (some x))∧La m e=d
 |[],l,hp,d,e,h=>by cases h;exact⟨(fun i x hx=>by cases hx),rfl⟩
 |
  (i,s)::m,l,hp,d,e,h=>by
  simp only[LY] at h
  split at h
  ·rename_i x hx
   split at h
   ·rename_i e' he
    obtain⟨h1,h2⟩:=yS y he
    obtain⟨g1,g2⟩:=dS.rU y h
    refine⟨?_,by simp only[La];rw[g2];exact h2⟩
    intro j z hz
    simp only[lg,List.mem_cons,Prod.mk.injEq] at hz
    rcases hz with⟨rfl,rfl⟩|hz
    ·rw[g1];exact hx
    ·rw[g2] at hz;exact h1 j z hz
   ·exact no h
  ·exact no h
def oE:List Sh→List Type→List Type
 |[],l=>l
 |s::m,l=>s.H (oE m l)
def uS(y:YC):(m:List Sh)→{l:List Type}→prod (oE m l)→List AV
 |[],_,_=>[]
 |s::m,_,d=>s.V y d::uS y m (s.R d)
def uT:(m:List Sh)→{l:List Type}→prod (oE m l)→prod l
 |[],_,d=>d
 |s::m,_,d=>uT m (s.R d)
def IG:(m:List Sh)→{l:List Type}→List AV→prod l→Option (prod (oE m l))
 |[],_,[],d=>some d
 |
  s::m,_,x::xs,d=>match IG m xs d with
  |some e=>s.G x e
  |none=>none
 |_,_,_,_=>none
theorem uU(y:YC):∀{m:List Sh}{l:List Type}{xs:List AV}{d:prod l}{e:prod (oE m l)},IG m xs d=some e→uS y m e=xs∧uT m e=d
 |
  [],l,xs,d,e,h=>by
  cases xs with
  |nil=>cases h;exact⟨rfl,rfl⟩
  |cons _ _=>simp[IG] at h
 |
  s::m,l,xs,d,e,h=>by
  cases xs with
  |nil=>simp[IG] at h
  |
   cons x xs=>
   simp only[IG] at h
   split at h
   ·rename_i e' he
    obtain⟨h1,h2⟩:=uU y he
    obtain⟨g1,g2⟩:=Sh.rU y h
    exact⟨by simp only[uS];rw[g1,g2,h1],by simp only[uT];rw[g2,h2]⟩
   ·cases h
structure SS where
 nt:Nat
 nh:Nat
 tm:List (Nat×Sh)
 hp:List (Nat×dS)
 df:List Sh
def SS.H(S:SS):List Type:=K9 S.tm (fE S.hp (oE S.df []))
@[reducible] def SS.T (S:SS):Type:=eU S.H
def cH:List (Nat×aI)→List (Nat×Option aI)
 |[]=>[]
 |(i,k)::l=>(i,some k)::cH l
theorem oi{i:Nat}{k:Option aI}:∀{l:List (Nat×aI)},(i,k)∈cH l→∃b,k=some b∧(i,b)∈l
 |[],h=>by cases h
 |
  (j,b)::l,h=>by
  simp only[cH,List.mem_cons,Prod.mk.injEq] at h
  rcases h with⟨rfl,rfl⟩|h
  ·exact⟨b,rfl,List.mem_cons_self ..⟩
  ·obtain⟨b',e,hm⟩:=oi h
   exact⟨b',e,List.mem_cons_of_mem _ hm⟩
def SS.jS(S:SS)(y:YC)(d:prod S.H):St:=
 ⟨ko (Ns y S.tm d) (List.replicate S.nt .bot),ko (cH (lg y S.hp (Ax.LX S.tm d))) (List.replicate S.nh none),uS y S.df (La S.hp (Ax.LX S.tm d))⟩
def SS.st(S:SS)(y:YC)(t:S.T):St:=S.jS y (mT S.H t)
def SS.get(S:SS)(σ:St):Option S.T:=
 if Nat.beq σ.tm.length S.nt&&Nat.beq σ.hp.length S.nh then(match IG S.df (l:=[]) σ.df () with
  |
   some d1=>match LY S.hp σ.hp d1 with
   |
    some d2=>match Nt S.tm σ.tm d2 with
    |some d3=>some (IF S.H d3)
    |none=>none
   |none=>none
  |none=>none) else none
theorem lM{α:Type}:∀{l:List (Nat×α)}{m:List α},(ko l m).length=m.length
 |[],_=>rfl
 |(i,x)::l,m=>by rw[ko,lM,List.length_set]
theorem jq{α:Type}{i:Nat}{x:α}:∀{l:List (Nat×α)}{m:List α},(ko l m)[i]? =some x→(i,x)∈l∨m[i]? =some x
 |[],_,h=>Or.inr h
 |
  (j,z)::l,m,h=>by
  rw[ko] at h
  rcases jq h with h|h
  ·exact Or.inl (List.mem_cons_of_mem _ h)
  ·rw[List.getElem?_set] at h
   split at h
   ·rename_i e
    split at h
    ·cases h;subst e;exact Or.inl (List.mem_cons_self ..)
    ·cases h
   ·exact Or.inr h
theorem Wk.sub{gl:Ctx}{σ σ':St}(hl:σ'.tm.length=σ.tm.length)(ht:∀(i:Nat)(x:AV),σ'.tm[i]? =some x→x= .bot∨σ.tm[i]? =some x)
 (hh:∀(b:Nat)(k:aI),σ'.hp[b]? =some (some k)→σ.hp[b]? =some (some k)) (hd:σ'.df=σ.df):Wk gl σ σ':=by
 intro E a w h
 refine⟨E,⟨by rw[hl];exact h.len,?_,h.hw.less hh,by rw[hd];exact h.df⟩,{Ext.refl (Own σ.hp E) E w with own:=?_ }⟩
 ·intro i x hx v hv
  rcases ht i x hx with e|e
  ·subst e;trivial
  ·exact h.tm i x e v hv
 ·rintro g ⟨b,k,hb,hg⟩
  exact Or.inl ⟨b,k,hh b k hb,hg⟩
theorem SS.dO{gl:Ctx}{S:SS}{y:YC}{σ:St}{t:S.T}(h:S.get σ=some t):Wk gl σ (S.st y t):=by
 unfold SS.get at h
 split at h
 ·rename_i hc
  simp only[Bool.and_eq_true] at hc
  have l1:=Nat.eq_of_beq_eq_true hc.1
  have l2:=Nat.eq_of_beq_eq_true hc.2
  split at h
  ·rename_i d1 h1
   split at h
   ·rename_i d2 h2
    split at h
    ·rename_i d3 h3
     cases h
     have e0:S.st y (IF S.H d3)=S.jS y d3:=congrArg (S.jS y) (mH S.H d3)
     refine Eq.mpr (congrArg (Wk gl σ) e0) ?_
     obtain⟨a1,a2⟩:=uU y h1
     obtain⟨b1,b2⟩:=yS y h2
     obtain⟨c1,c2⟩:=DR y h3
     refine Wk.sub ?_ ?_ ?_ ?_
     ·simp only[SS.jS,lM,List.length_replicate,l1]
     ·intro i x hx
      simp only[SS.jS] at hx
      rcases jq hx with hx|hx
      ·exact Or.inr (c1 i x hx)
      ·rw[List.getElem?_replicate] at hx
       split at hx
       ·cases hx;exact Or.inl rfl
       ·cases hx
     ·intro b k hk
      simp only[SS.jS] at hk
      rcases jq hk with hk|hk
      ·obtain⟨b',e,hm⟩:=oi hk
       cases e
       rw[c2] at hm
       exact b1 b k hm
      ·rw[List.getElem?_replicate] at hk
       split at hk<;>cases hk
     ·simp only[SS.jS];rw[c2,b2];exact a1
    ·cases h
   ·cases h
  ·cases h
 ·cases h
end Go.Ax
namespace Go.Ax
inductive Nd where
 |Nu (b:Nat) (t:Ty)
 |uV (c b:Nat)
 |own (c:Nat) (p:Path)
 |Nv
def AV.owned:AV→Option Nat
 | .own b| .ig b _ _| .gn b _ _ _| .mp b=>some b
 |
  .cons a b=>match a.owned with
  |some c=>some c
  |none=>b.owned
 |_=>none
def Sx:Path→Path
 | .bZ n::p=>.bZ (n+1)::p
 |p=>p
def yT:List Nd→List Nd
 |[]=>[]
 | .own c p::l=>.own c (Sx p)::yT l
 |n::l=>n::yT l
def DT:List Nd→List Nd
 |[]=>[]
 | .own c p::l=>.own c (.bZ 0::p)::DT l
 |n::l=>n::DT l
def jI:Sh→AV→List Nd
 |
  .val t,x=>match x.owned with
  |some b=>[.Nu b t]
  |
   none=>match x with
   | .val _ _=>[]
   |_=>[.Nv]
 | .bD t,.ptr b _=>[.Nu b t]
 | .own c,.own b=>[.uV c b]
 | .own c,.aX=>[.own c []]
 | .ptr c _,.ptr b _=>[.uV c b]
 | .ig c,.ig b _ _=>[.uV c b]
 | .gn c _,.gn b _ _ _=>[.uV c b]
 | .mp c,.mp b=>[.uV c b]
 | .cons a b,.cons x y=>DT (jI a x)++yT (jI b y)
 | .func _ a b,.func _ x y=>jI a x++jI b y
 | .iface _ a,.iface _ x=>jI a x
 |_,_=>[]
def AJ:dS→aI→List Nd
 | .var _ s,.var _ x=>jI s x
 | .tv _ s,.tv _ _ x=>jI s x
 | .bN _ _ _ s,.bN _ _ _ _ _ x=>jI s x
 | .jL _ _,.jL _ _ _ (some _)=>[.Nv]
 |_,_=>[]
def Nw{α:Type}:List (Nat×α)→Nat→Option α
 |[],_=>none
 |(i,x)::l,j=>if Nat.beq i j then some x else Nw l j
def AK:List Nd→List (Nat×Nat)
 |[]=>[]
 | .uV c b::l=>(c,b)::AK l
 |_::l=>AK l
def LZ:List Nd→Option (Nat×Ty)
 |[]=>none
 | .Nu b t::_=>some (b,t)
 |_::l=>LZ l
def IH:List (Nat×Sh)→List AV→List Nd
 |[],_=>[]
 |
  (i,s)::l,tm=>(match tm[i]? with
  |some x=>jI s x
  |none=>[])++IH l tm
def II:List Sh→List AV→List Nd
 |s::l,x::xs=>jI s x++II l xs
 |_,_=>[]
def AL(hp:List (Nat×dS))(σ:List (Option aI)):Nat→List (Nat×Nat)→List (Nat×Nat)→List Nd→List (Nat×Nat)×List Nd
 |0,_,done,nd=>(done,nd)
 |_+1,[],done,nd=>(done,nd)
 |
  n+1,(c,b)::todo,done,nd=>
  match Nw done c with
  |some _=>AL hp σ n todo done nd
  |
   none=>
   match Nw hp c,σ[b]? with
   |some s,some (some k)=>AL hp σ n (AK (AJ s k)++todo) ((c,b)::done) (nd++AJ s k)
   |_,_=>AL hp σ n todo ((c,b)::done) nd
def pinned:List (Nat×dS)→List (Option aI)→List (Nat×Nat)
 |[],_=>[]
 |
  (c,s)::l,σ=>if Nat.blt c 16 then(c,c)::pinned l σ else(match s with
  | .qf=>(c,c)::pinned l σ
  |_=>pinned l σ)
def AM(S:SS)(σ:St):List (Nat×Nat)×List Nd:=
 let n0:=IH S.tm σ.tm++II S.df σ.df
 AL S.hp σ.hp 200 (AK n0++pinned S.hp σ.hp) [] n0
def Sy(hp:List (Option aI))(b:Nat)(t:Ty):Ty:=
 match hp[b]? with
 |some (some (.row _ bs u _))=>.slice bs u
 |
  _=>match t with
  | .slice bs u=>.slice bs u
  |_=>.slice 1 (.int .u8)
def AO(S:SS):Nat→St→Option St
 |0,_=>none
 |
  n+1,σ=>match LZ (AM S σ).2 with
  |none=>some σ
  |
   some (b,t)=>match freeze b (Sy σ.hp b t) σ with
   |some σ'=>AO S n σ'
   |none=>none
def JM:List AV→List Nat
 |[]=>[]
 |x::l=>x.ids++JM l
def JN:List (Option aI)→Nat→List Nat
 |[],_=>[]
 |some k::l,i=>i::(k.ids++JN l (i+1))
 |none::l,i=>JN l (i+1)
def DU:List (Nat×Nat)→List (Nat×Nat)
 |[]=>[]
 |(c,b)::l=>if Nat.beq c b then DU l else(c,b)::DU l
def DV(used:List Nat):List (Nat×Nat)→List (Nat×Nat)→Option (Nat×Nat×List (Nat×Nat))
 |[],_=>none
 |(c,b)::l,acc=>if cq c used then DV used l ((c,b)::acc) else some (c,b,acc++l)
def L0(b x:Nat):List (Nat×Nat)→List (Nat×Nat)
 |[]=>[]
 |(c,d)::l=>(c,if Nat.beq d b then x else d)::L0 b x l
def qP(top:Nat):Nat→List (Nat×Nat)→St→Option St
 |_,[],σ=>some σ
 |0,_,_=>none
 |
  n+1,(c,b)::mv,σ=>
  match DV (JM σ.tm++JM σ.df++JN σ.hp 0) ((c,b)::mv) [] with
  |
   some (c',b',rest)=>match rename b' c' σ with
   |some σ'=>qP top n rest σ'
   |none=>none
  |
   none=>match rename b top σ with
   |some σ'=>qP top n (L0 b top ((c,b)::mv)) σ'
   |none=>none
def DW(hp:List (Nat×dS))(c:Nat)(f:TypeId→Nat→Ty→Gh)(σ:St):Option St:=
 match Nw hp c with
 |some (.row e bs t)=>(f e bs t).go σ
 |_=>none
def sJ(hp:List (Nat×dS))(f:Nat→Path→TypeId→Nat→Ty→Gh):List Nd→St→Option St
 |[],σ=>some σ
 |
  .own c p::l,σ=>match DW hp c (f c p) σ with
  |some σ'=>sJ hp f l σ'
  |none=>none
 |_::l,σ=>sJ hp f l σ
def uW(hp:List (Nat×dS)):List (Nat×Sh)→St→Option St
 |[],σ=>some σ
 |
  (i,s)::l,σ=>match σ.tm[i]? with
  |
   some x=>match sJ hp (fun c _ e bs t=>.uR i c e bs t) (jI s x) σ with
   |some σ'=>uW hp l σ'
   |none=>none
  |none=>none
def qQ(hp:List (Nat×dS)):List (Nat×dS)→St→Option St
 |[],σ=>some σ
 |
  (i,s)::l,σ=>match σ.hp[i]? with
  |
   some (some k)=>match sJ hp (fun c p e bs t=>.oD i p c e bs t) (AJ s k) σ with
   |some σ'=>qQ hp l σ'
   |none=>none
  |_=>qQ hp l σ
def yU:List Nd→Bool
 |[]=>false
 | .Nv::_=>true
 |_::l=>yU l
def ny:List (Nat×Sh)→St→Option St
 |[],σ=>some σ
 |
  (i,.val t)::l,σ=>match σ.tm[i]? with
  |
   some x=>if yU (jI (.val t) x) then(match(Gh.DC i t).go σ with
   |some σ'=>ny l σ'
   |none=>none) else ny l σ
  |none=>none
 |_::l,σ=>ny l σ
def nz:List (Nat×dS)→St→Option St
 |[],σ=>some σ
 |
  (i,s)::l,σ=>match σ.hp[i]? with
  |
   some (some k)=>if yU (AJ s k) then(match(Gh.yM i).go σ with
   |some σ'=>nz l σ'
   |none=>none) else nz l σ
  |_=>nz l σ
def L1:List (Nat×Sh)→List Nat
 |[]=>[]
 |(i,_)::l=>i::L1 l
def L2:List (Nat×Nat)→List Nat
 |[]=>[]
 |(_,b)::l=>b::L2 l
def SS.pv(
 S:SS) (σ:St):Option S.T:=
 match AO S 40 σ with
 |none=>none
 |
  some σ1=>
  let m:=(AM S σ1).1
  match(Gh.wU (L1 S.tm) (L2 m)).go σ1 with
  |none=>none
  |
   some σ2=>match qP (S.nh -1) 60 (DU m) σ2 with
   |none=>none
   |
    some σ3=>match uW S.hp S.tm σ3 with
    |none=>none
    |
     some σ4=>match qQ S.hp S.hp σ4 with
     |none=>none
     |
      some σ5=>match ny S.tm σ5 with
      |none=>none
      |
       some σ6=>match nz S.hp σ6 with
       |none=>none
       |some σ7=>S.get σ7
section
variable{gl:Ctx}
theorem w6{S:SS}:∀{n:Nat}{σ σ':St},AO S n σ=some σ'→Wk gl σ σ'
 |0,_,_,h=>by cases h
 |
  n+1,σ,σ',h=>by
  simp only[AO] at h
  split at h
  ·cases h;exact Wk.refl gl σ
  ·split at h
   ·rename_i σ1 h1;exact(Wk.freeze h1).trans (w6 h)
   ·cases h
theorem qR{top:Nat}:∀{n:Nat}{mv:List (Nat×Nat)}{σ σ':St},qP top n mv σ=some σ'→Wk gl σ σ'
 |
  _,[],σ,σ',h=>by
  have:some σ=some σ':=by rw[←h];unfold qP;rfl
  cases this;exact Wk.refl gl σ
 |0,_::_,_,_,h=>by simp[qP] at h
 |
  n+1,(c,b)::mv,σ,σ',h=>by
  simp only[qP] at h
  split at h
  ·split at h
   ·rename_i σ1 h1;exact(Wk.rename h1).trans (qR h)
   ·cases h
  ·split at h
   ·rename_i σ1 h1;exact(Wk.rename h1).trans (qR h)
   ·cases h
theorem iV{hp:List (Nat×dS)}{f:Nat→Path→TypeId→Nat→Ty→Gh}:∀{l:List Nd}{σ σ':St},sJ hp f l σ=some σ'→Wk gl σ σ'
 |[],σ,σ',h=>by cases h;exact Wk.refl gl σ
 |
  .own c p::l,σ,σ',h=>by
  simp only[sJ] at h
  split at h
  ·rename_i σ1 h1
   unfold DW at h1
   split at h1
   ·exact(Gh.ok h1).trans (iV h)
   ·cases h1
  ·cases h
 | .Nu _ _::l,σ,σ',h=>iV (l:=l) h
 | .uV _ _::l,σ,σ',h=>iV (l:=l) h
 | .Nv::l,σ,σ',h=>iV (l:=l) h
theorem sK{hp:List (Nat×dS)}:∀{l:List (Nat×Sh)}{σ σ':St},uW hp l σ=some σ'→Wk gl σ σ'
 |[],σ,σ',h=>by cases h;exact Wk.refl gl σ
 |
  (i,s)::l,σ,σ',h=>by
  simp only[uW] at h
  split at h
  ·split at h
   ·rename_i σ1 h1;exact(iV h1).trans (sK h)
   ·cases h
  ·cases h
theorem nA{hp:List (Nat×dS)}:∀{l:List (Nat×dS)}{σ σ':St},qQ hp l σ=some σ'→Wk gl σ σ'
 |[],σ,σ',h=>by cases h;exact Wk.refl gl σ
 |
  (i,s)::l,σ,σ',h=>by
  simp only[qQ] at h
  split at h
  ·split at h
   ·rename_i σ1 h1;exact(iV h1).trans (nA h)
   ·cases h
  ·exact nA (l:=l) h
theorem kN:∀{l:List (Nat×Sh)}{σ σ':St},ny l σ=some σ'→Wk gl σ σ'
 |[],σ,σ',h=>by cases h;exact Wk.refl gl σ
 |
  (i,s)::l,σ,σ',h=>by
  cases s with
  |
   val t=>
   simp only[ny] at h
   split at h
   ·split at h
    ·split at h
     ·rename_i σ1 h1;exact(Gh.ok h1).trans (kN h)
     ·cases h
    ·exact kN (l:=l) h
   ·cases h
  |_=>exact kN (l:=l) h
theorem kO:∀{l:List (Nat×dS)}{σ σ':St},nz l σ=some σ'→Wk gl σ σ'
 |[],σ,σ',h=>by cases h;exact Wk.refl gl σ
 |
  (i,s)::l,σ,σ',h=>by
  simp only[nz] at h
  split at h
  ·split at h
   ·split at h
    ·rename_i σ1 h1;exact(Gh.ok h1).trans (kO h)
    ·cases h
   ·exact kO (l:=l) h
  ·exact kO (l:=l) h
theorem SS.fF{S:SS}{y:YC}{σ:St}{t:S.T}(h:S.pv σ=some t):Wk gl σ (S.st y t):=by
 unfold SS.pv at h
 split at h
 ·cases h
 rename_i σ1 h1
 simp only at h
 split at h
 ·cases h
 rename_i σ2 h2
 split at h
 ·cases h
 rename_i σ3 h3
 split at h
 ·cases h
 rename_i σ4 h4
 split at h
 ·cases h
 rename_i σ5 h5
 split at h
 ·cases h
 rename_i σ6 h6
 split at h
 ·cases h
 rename_i σ7 h7
 exact((((((w6 h1).trans (Gh.ok h2)).trans (qR h3)).trans (sK h4)).trans (nA h5)).trans (kN h6)).trans ((kO h7).trans (SS.dO h))
end
end Go.Ax
namespace Go.Ax
def yV:aI:=.row 0 0 .unit []
theorem AP{E:Env}{w:World}{b:Nat}(h:RB E w b yV):False:=by
 have h:=h.2.2.2.1
 simp[Ty.size] at h
def qS(f:aS)(z:Nat):aS:=⟨f.rt,f.rb,[],none,.bot,[(z,some yV)]⟩
def AQ(z:Nat):aS:=⟨[],[z],[],none,.bot,[]⟩
def gX(fs:List aS)(f:aS)(z:Nat)(gs:List aS):List aS:=fs++qS f z::gs
def yW(P:Program)(gl:Ctx)(ops:Array Oper)(z:Nat)(j:Nat)(g:aS)(σ:St):Prop:=rO P gl ops j g σ∨(g=AQ z∧σ.hp[z]? =some (some yV))
def kP:List Nat→List AV→List AV
 |[],tm=>tm
 |d::l,tm=>kP l (tm.set d .bot)
theorem oj:∀{l:List Nat}{tm:List AV},(kP l tm).length=tm.length
 |[],_=>rfl
 |d::l,tm=>by unfold kP;rw[oj];simp
theorem oo{i:Nat}{x:AV}:∀{l:List Nat}{tm:List AV},(kP l tm)[i]? =some x→x= .bot∨(i∉l∧tm[i]? =some x)
 |[],_,h=>Or.inr ⟨by simp,h⟩
 |
  d::l,tm,h=>by
  unfold kP at h
  rcases oo h with h|⟨hl,h⟩
  ·exact Or.inl h
  ·rw[List.getElem?_set] at h
   split at h
   ·split at h
    ·cases h;exact Or.inl rfl
    ·cases h
   ·rename_i hne
    exact Or.inr ⟨by simp only[List.mem_cons,not_or];exact⟨fun e=>hne e.symm,hl⟩,h⟩
def qT(fs:List aS)(f:aS)(z:Nat)(gs:List aS)(σ:St):St:=
 ⟨kP (dstsOf (gX fs f z gs)) σ.tm,aL (aL σ.hp f.hw) (dv (je (gX fs f z gs))),σ.df⟩
theorem bS.app{OK:Nat→aS→St→Prop}:∀{fs gs:List aS}{i:Nat}{σ σ1 σ':St},bS OK i fs σ σ1→bS OK (i+fs.length) gs σ1 σ'→bS OK i (fs++gs) σ σ'
 |[],gs,i,σ,σ1,σ',h,k=>by simp only[bS] at h;subst h;simpa using k
 |f::fs,gs,i,σ,σ1,σ',⟨h1,h2,h3⟩,k=>⟨h1,h2,bS.app h3 (by rw[List.length_cons] at k;rw[show i+1+fs.length=i+(fs.length+1) from by omega];exact k)⟩
theorem bS.hl{OK:Nat→aS→St→Prop}:∀{fs:List aS}{i:Nat}{σ σ':St},bS OK i fs σ σ'→σ'.hp.length=σ.hp.length
 |[],_,_,_,h=>by simp only[bS] at h;subst h;rfl
 |f::fs,_,σ,_,⟨_,_,h⟩=>by rw[bS.hl h,nu]
def G5(z:Nat)(gs:List aS):Bool:=gs.all fun g=> !cq z (wrote g.hw)
theorem bS.at{OK:Nat→aS→St→Prop}{z:Nat}{k:Option aI}:∀{fs:List aS}{i:Nat}{σ σ':St},bS OK i fs σ σ'→G5 z fs=true→σ.hp[z]? =some k→σ'.hp[z]? =some k
 |[],_,_,_,h,_,hz=>by simp only[bS] at h;subst h;exact hz
 |
  f::fs,_,σ,_,⟨_,_,h⟩,hn,hz=>by
  simp only[G5,List.all_cons,Bool.and_eq_true,Bool.not_eq_true'] at hn
  refine bS.at h (by simpa[G5] using hn.2) ?_
  rw[eE,dr (fun hm=>by rw[j4 hm] at hn;cases hn.1)]
  exact hz
theorem qU{P:Program}{G:bH}(T:aY P G){gl:Ctx}{ops:Array Oper}{id:Nat}{draw:Bool}{fs gs:List aS}{f:aS}{z:Nat}{σ σp σe:St}{Q:eo→St→Prop}
 (hc:me P gl ops 0 fs σ σp) (hp:wS P gl ops fs.length f σp) (hg2:bS (yW P gl ops z) (fs.length+1) gs (σp.app (qS f z)) σe) (hnz:G5 z gs=true) (hz:z<σ.hp.length) (hn:fs.length+1+gs.length=ops.size) (eM:draw=true→(jD ops (gX fs f z gs)&&fO σ (gX fs f z gs))=true)
 (hpl:f.v.plain=true) (hq:Q (.panic f.v) (qT fs f z gs σ)):cw P gl (.region id ops draw) σ Q:=by
 intro E a w hg
 have hzp:(σp.app (qS f z)).hp[z]? =some (some yV):=by
  rw[eE]
  simp only[qS,aL,List.getElem?_set,if_true]
  rw[if_pos (by rw[bS.hl hc];exact hz)]
 have hze:=bS.at hg2 hnz hzp
 have hlen:(gX fs f z gs).length=ops.size:=by simp[gX];omega
 have rest:∀(V:St→Env→World→Prop)(Q:Exit→Act→World→Prop) j g σ1,yW P gl ops z j g σ1→JA P gl ops Q V j g σ1:=by
  intro V Q j g σ1 h
  rcases h with h|⟨rfl,h⟩
  ·exact h.q
  ·intro σ' ha _ E a w hg
   have:σ'.hp[z]? =some (some yV):=by rw[ha.hp z (by simp[AQ]),h]
   exact(AP (hg.hw.cj z _ this)).elim
 have total:∀Q':Exit→Act→World→Prop,(∀σ2 E2 w2 E' u w',tU gl (dstsOf (gX fs f z gs)) (je (gX fs f z gs)) σ E w σ2 E2 w2→∀a',bO gl {σ2 with hp:=aL σ2.hp f.hw} E' a' w'→RV E' w' f.v u→Ext gl.md (Own σ2.hp E2) E2 w2 (Own (aL σ2.hp f.hw) E') E' w'→Q' (.panic [{v:=u,recovered:=false}]) a' w')→
  bS (JA P gl ops Q' (tU gl (dstsOf (gX fs f z gs)) (je (gX fs f z gs)) σ E w)) 0 (gX fs f z gs) σ σe:=by
  intro Q' hQ'
  refine bS.app (hc.mono fun _ _ _=>rO.q) ⟨?_,(fun d hd=>by cases hd),?_⟩
  ·rw[Nat.zero_add]
   intro σ2 ha _ E2 a2 w2 hg2 hv2 K _
   exact hp σ2 ha E2 a2 w2 hg2 K Q' (fun E' u w' q1 q2 q3=>hQ' σ2 E2 w2 E' u w' hv2 a2 q1 q2 q3)
  ·rw[Nat.zero_add]
   exact hg2.mono (rest _ _)
 have post:∀σ2 E2 w2 E' u w',tU gl (dstsOf (gX fs f z gs)) (je (gX fs f z gs)) σ E w σ2 E2 w2→∀a',bO gl {σ2 with hp:=aL σ2.hp f.hw} E' a' w'→RV E' w' f.v u→Ext gl.md (Own σ2.hp E2) E2 w2 (Own (aL σ2.hp f.hw) E') E' w'→mz gl Q σ E w (.panic [{v:=u,recovered:=false}]) a' w':=by
  intro σ2 E2 w2 E' u w' hv a' q1 q2 q3
  have hwk2:bO gl (qT fs f z gs σ) E' a' w'∧Ext gl.md (Own (aL σ2.hp f.hw) E') E' w' (Own (qT fs f z gs σ).hp E') E' w':=by
   refine⟨⟨?_,?_,q1.hw.less ?_,?_⟩,{Ext.refl (Own (aL σ2.hp f.hw) E') E' w' with own:=?_ }⟩
   ·simp only[qT,oj];rw[q1.len];exact hv.tl
   ·intro i x hx v hv'
    rcases oo hx with hx|⟨hi,hx⟩
    ·subst hx;trivial
    ·exact q1.tm i x (by show σ2.tm[i]? =some x;rw[hv.tm i hi];exact hx) v hv'
   ·intro b k hk
    obtain⟨hb,hk⟩:=cS hk
    show(aL σ2.hp f.hw)[b]? =_
    rw[fD hv.hl (hv.hp b hb)]
    exact hk
   ·show RD E' w' σ.df a'.defers
    rw[←hv.df];exact q1.df
   ·rintro g ⟨b,k,hk,hgb⟩
    obtain⟨hb,hk⟩:=cS hk
    refine Or.inl ⟨b,k,?_,hgb⟩
    rw[fD hv.hl (hv.hp b hb)]
    exact hk
  exact⟨.panic f.v,qT fs f z gs σ,E',⟨u,rfl,RV.gF hpl q2⟩,hq,hwk2.1,(hv.ext.trans q3).trans hwk2.2⟩
 have noend:∀E' a' w',bO gl σe E' a' w'→False:=fun E' a' w' h=>AP (h.hw.cj z _ hze)
 cases draw with
 |false=>exact nV hlen (total _ post) hg (fun E' a' w' h _=>(noend E' a' w' h).elim)
 |
  true=>
  have eM:=eM rfl
  simp only[Bool.and_eq_true] at eM
  exact nY T eM.1 eM.2 (total _ post) hg (fun E' a' w' h _=>(noend E' a' w' h).elim)
end Go.Ax
namespace Go.Ax
theorem DX{P:Program}{w:World}{g:Nat}{a:Option Nat}{b:Nat}{c:Array Nat}{d:Nat}{o':Obj}(h:w.heap[g]? =some (.mapIter a b c d)):(setObj g o').run P w= .ok () (w.putObj g o'):=by simp[setObj,Sem.run,h,World.putObj]
theorem run_next_at{P:Program}(w:World)(ty:TypeId)(g bm since c0:Nat)(seen:Array Nat)(es:Array MapEntry)(clock:Nat)(hg:w.heap[g]? =some (.mapIter (some bm) since seen c0))(hb:w.heap[bm]? =some (.map es clock))(hold:∀x∈es.toList,x.born<since)(hsc:since≤c0):
 ((leftOf es seen).size=0∧(Instr.next (.pointer (some ⟨g,0,none⟩)) false ty).run P w= .ok (.tuple #[.bool false]) w)∨
 ∃e∈(leftOf es seen).toList,∃w1:World,(w1=w∨w1=w.drew)∧(Instr.next (.pointer (some ⟨g,0,none⟩)) false ty).run P w= .ok (.tuple #[.bool true,e.key,e.val]) (w1.putObj g (.mapIter (some bm) since (seen.push e.born) clock)):=by
 simp only[Instr.next,getObj,Sem.run_bind,Sem.run,hg,hb,Result.andThen,next_test_false seen es since c0 hold hsc,Bool.false_eq_true,if_false]
 unfold leftOf
 have hmem:∀x∈(Array.filter (fun e=> !seen.contains e.born) es).toList,x.born<since:=fun x hx=>hold x (by simp at hx ⊢;exact hx.1)
 generalize Array.filter (fun e=> !seen.contains e.born) es=L at hmem ⊢
 have e1:L.filter (fun x=>decide (x.born<since))=L:=Array.filter_eq_self.2 (fun x hx=>by simpa using hmem x (by simpa using hx))
 have e2:L.filter (fun x=>decide (x.born≥since))= #[]:=by
  rw[Array.filter_eq_empty_iff]
  intro x hx
  have:=hmem x (by simpa using hx)
  simp
  omega
 simp only[e1,e2,Array.append_empty]
 by_cases h0:L.size=0
 ·left
  have:L= #[]:=Array.eq_empty_of_size_eq_zero h0
  subst this
  refine⟨rfl,?_⟩
  simp[choose,Sem.run,Question.forced]
 ·right
  have hne:L.isEmpty=false:=by simp[Array.isEmpty,h0]
  simp only[hne,Bool.false_eq_true,if_false,Array.empty_append,Array.size_map]
  have hch:∃(j:Nat)(w1:World),j<L.size∧(w1=w∨w1=w.drew)∧(choose (Question.mapNext L.size)).run P w= .ok j w1:=by
   by_cases hf:L.size≤1
   ·exact⟨0,w,by omega,Or.inl rfl,by simp[choose,Sem.run,Question.forced,hf]⟩
   ·exact⟨_,w.drew,Nat.mod_lt _ (by omega),Or.inr rfl,by
     simp only[choose,Sem.run,Question.forced,decide_eq_true_eq,hf,if_false,Question.cut]
     rfl⟩
  obtain⟨j,w1,hj,hal,aao⟩:=hch
  refine⟨L[j],by simp,w1,hal,?_⟩
  have hg1:w1.heap[g]? =some (.mapIter (some bm) since seen c0):=by
   rcases hal with e|e
   ·rw[e];exact hg
   ·rw[e];exact hg
  simp only[aao,Array.getElem?_map,Array.getElem?_eq_getElem hj,Option.map_some,Sem.run_bind,DX hg1,Result.andThen]
  rfl
theorem yX{en:Array MapEntry}{seen:Array Nat}(hn:(en.toList.map (·.born)).Nodup){i:Nat}{e:MapEntry}(he:(iq en seen).toList[i]? =some e):(iq en (seen.push e.born)).toList=(iq en seen).toList.eraseIdx i:=by
 have key:∀(l:List MapEntry)(i:Nat)(e:MapEntry),(l.map (·.born)).Nodup→l[i]? =some e→l.filter (fun x=> !(x.born==e.born))=l.eraseIdx i:=by
  intro l
  induction l with
  |nil=>intro i e _ h;simp at h
  |
   cons x l ih=>
   intro i e hn h
   have hn':x.born∉l.map (·.born)∧(l.map (·.born)).Nodup:=List.nodup_cons.1 hn
   cases i with
   |
    zero=>
    simp at h;subst h
    simp only[List.filter_cons,beq_self_eq_true,Bool.not_true,Bool.false_eq_true,if_false,List.eraseIdx_cons_zero]
    rw[List.filter_eq_self]
    intro y hy
    have:y.born≠x.born:=fun e=>hn'.1 (e▸List.mem_map.2 ⟨y,hy,rfl⟩)
    simpa using this
   |
    succ i=>
    have h:l[i]? =some e:=by simpa using h
    have hx:x.born≠e.born:=fun e'=>hn'.1 (e'▸List.mem_map.2 ⟨e,List.mem_of_getElem? h,rfl⟩)
    have hb:(x.born==e.born)=false:=by simpa using hx
    simp only[List.filter_cons,hb,Bool.not_false,if_true,List.eraseIdx_cons_succ]
    rw[ih i e hn'.2 h]
 have hl:(iq en (seen.push e.born)).toList=(iq en seen).toList.filter (fun x=> !(x.born==e.born)):=by
  simp only[iq,Array.toList_filter,List.filter_filter]
  apply List.filter_congr
  intro x _
  simp[Bool.and_comm]
  rfl
 rw[hl]
 refine key _ i e ?_ he
 simp only[iq,Array.toList_filter]
 exact List.Nodup.sublist (List.Sublist.map _ List.filter_sublist) hn
theorem RM.VT{E:Env}{w:World}{k v:Ty}:∀{es:List MapEntry}{xs:List (k.den×v.den)},RM E w k v es xs→es.length=xs.length∧(∀(i:Nat)(e:MapEntry)(x:k.den×v.den),es[i]? =some e→xs[i]? =some x→cd E w (.val k x.1) e.key∧cd E w (.val v x.2) e.val)∧∀i,RM E w k v (es.eraseIdx i) (xs.eraseIdx i)
 |[],[],_=>⟨rfl,fun i e x h=>by simp at h,fun i=>by simp[RM]⟩
 |[],_::_,h=>h.elim
 |_::_,[],h=>h.elim
 |
  e::es,x::xs,⟨h1,h2,h3⟩=>by
  obtain⟨a,b,c⟩:=RM.VT h3
  refine⟨by simp[a],?_,?_⟩
  ·intro i e' x' he hx
   cases i with
   |zero=>simp at he hx;subst he;subst hx;exact⟨h1,h2⟩
   |succ i=>exact b i e' x' (by simpa using he) (by simpa using hx)
  ·intro i
   cases i with
   |zero=>simpa using h3
   |succ i=>simpa using⟨h1,h2,c i⟩
noncomputable def BR{A R:Type}(xs:List A)(K:A→List A→Option R):Option R:=
 @dite _ (∃r,∀i(h:i<xs.length),K xs[i] (xs.eraseIdx i)=some r) (Classical.propDecidable _) (fun h=>some h.choose) (fun _=>none)
theorem BT{A R:Type}{xs:List A}{K:A→List A→Option R}{r:R}(h:BR xs K=some r)(i:Nat)(hi:i<xs.length):K xs[i] (xs.eraseIdx i)=some r:=by
 unfold BR at h
 split at h
 ·rename_i hh
  cases h
  exact hh.choose_spec i hi
 ·cases h
theorem cw.next{P:Program}{gl:Ctx}{σ:St}{Q:eo→St→Prop}{id:Nat}{o0 o1:Oper}{s d d1 b:Nat}{kt vt:Ty}{rest:List (kt.den×vt.den)}{cur:Option (kt.den×vt.den)}
 (h0:o0.op= .next (.tmp s) false) (hg0:o0.guard=none) (hd0:o0.dst=some d) (h1:o1.op= .extract (.tmp d) 0) (hg1:o1.guard=none) (hd1:o1.dst=some d1)
 (hs:σ.tm[s]? =some (.ptr b [])) (hb:σ.hp[b]? =some (some (.jL kt vt rest cur))) (hl:Nat.blt d σ.tm.length=true)
 (hq0:rest= []→Q .normal ((σ.put (some d) .bot).put (some d1) (.val .bool false)))
 (hq1:∀i(hi:i<rest.length),Q .normal ((({σ with hp:=σ.hp.set b (some (.jL kt vt (rest.eraseIdx i) (some rest[i])))}:St).put (some d) .bot).put (some d1) (.val .bool true))):
 cw P gl (.region id #[o0,o1] false) σ Q:=by
 intro E a w hg
 obtain⟨g,om,since,seen,c0,q1,q2,q3⟩:=hg.hw.cj b _ hb
 have hlt:d<a.tmps.size:=by rw[hg.len];simp[Nat.blt] at hl;omega
 have hx:a.eval (.tmp s)= .pointer (some ⟨g,0,none⟩):=by
  have hv:=eI hg (.tmp s)
  have:bw gl σ.tm (.tmp s)= .ptr b []:=by simp[bw,hs]
  rw[this] at hv
  obtain⟨g',hg',ev,_⟩:=RV.atom rfl hv
  rw[q1] at hg';cases hg'
  simpa[Ty.off] using ev
 have w0:∀z,Region.wanted o0 z=true:=fun z=>by simp[Region.wanted,hg0]
 have w1:∀z,Region.wanted o1 z=true:=fun z=>by simp[Region.wanted,hg1]
 refine wpIn_region ?_
 have hr:List.range (#[o0,o1]:Array Oper).size= [0,1]:=rfl
 rw[hr]
 have fin:∀(vs:Array Value)(x:Bool)(w':World)(σ':St),(Instr.next (.pointer (some ⟨g,0,none⟩)) false o0.type).run P w= .ok (.tuple vs) w'→vs[0]? =some (.bool x)→bO gl σ' E a w'→Ext gl.md (Own σ.hp E) E w (Own σ'.hp E) E w'→
  Q .normal ((σ'.put (some d) .bot).put (some d1) (.val .bool x))→wpOpsIn (Wd gl) 0 P #[o0,o1] (mz gl Q σ E w) [0,1] a w:=by
  intro vs x w' σ' aao hv0 hg' hext hq
  simp only[wpOpsIn,List.getElem?_toArray,List.getElem?_cons_zero,List.getElem?_cons_succ,w0,if_true]
  refine⟨fun _ _=>trivial,?_⟩
  rw[Oper.semAt_eq _ _ _ (by rw[h0];intro c hc;cases hc)]
  have r1:(execOp a.eval o0).run P w= .ok (.value (.tuple vs)) w':=by simp[execOp,h0,hx,aao]
  rw[r1,Oper.uponIn_value,hd0]
  simp only[w1,if_true]
  refine⟨fun _ _=>trivial,?_⟩
  rw[Oper.semAt_eq _ _ _ (by rw[h1];intro c hc;cases hc)]
  have hev:(a.put (some d) (.tuple vs)).eval (.tmp d)= .tuple vs:=by simp[Act.eval,Act.put,hlt]
  have r2:(execOp (a.put (some d) (.tuple vs)).eval o1).run P w'= .ok (.value (.bool x)) w':=by
   simp[execOp,h1,hev,Instr.extract,hv0]
  rw[r2,Oper.uponIn_value,hd1]
  have ga:=hg'.put (some d) (x:=.bot) (v:=.tuple vs) trivial
  have gb:=ga.put (some d1) (x:=.val .bool x) (v:=.bool x) RV.bool
  exact⟨.normal,_,E,trivial,hq,gb,hext⟩
 have nextNil:om=none→rest= []→wpOpsIn (Wd gl) 0 P #[o0,o1] (mz gl Q σ E w) [0,1] a w:=by
  intro e1 e2
  subst e1
  refine fin #[.bool false] false w σ ?_ rfl hg (Ext.refl _ _ _) (hq0 e2)
  simp only[Instr.next,getObj,Sem.run_bind,Sem.run,q2,Result.andThen]
  rfl
 rcases q3 with⟨e1,e2,_⟩|⟨bm,en,e1,r2,r3,e4,r5,r6,r7,r8⟩
 ·exact nextNil e1 e2
 ·subst e1;subst e4
  obtain⟨m1,m2,m3⟩:=RM.VT r7
  rcases run_next_at (P:=P) w o0.type g bm since since seen en since q2 r3 r5 (Nat.le_refl _) with⟨z,aao⟩|⟨e,he,w1',hw1,aao⟩
  ·have hr0:rest= []:=by
    rw[←List.length_eq_zero_iff,←m1]
    simpa[leftOf,iq] using z
   exact fin #[.bool false] false w σ aao rfl hg (Ext.refl _ _ _) (hq0 hr0)
  ·have he:e∈(iq en seen).toList:=he
   obtain⟨i,hi,hie⟩:=List.mem_iff_getElem.1 he
   have hie':(iq en seen).toList[i]? =some e:=by rw[List.getElem?_eq_getElem hi,hie]
   have hir:i<rest.length:=by rw[←m1];exact hi
   have hrm:=yX r6 hie'
   have hen:e∈en.toList:=by
    simp only[iq,Array.toList_filter,List.mem_filter] at he
    exact he.1
   obtain⟨k1,k2⟩:=m2 i e rest[i] hie' (List.getElem?_eq_getElem hir)
   have hh:w1'.heap=w.heap:=by rcases hw1 with e|e<;>rw[e]<;>rfl
   have hlg:g<w1'.heap.size:=by rw[hh];exact(Array.getElem?_eq_some_iff.1 q2).1
   have hne:bm≠g:=fun e=>by subst e;rw[q2] at r3;cases r3
   have hoth:∀j,j≠g→(w1'.putObj g (.mapIter (some bm) since (seen.push e.born) since)).heap[j]? =w.heap[j]? :=fun j hj=>by
    rw[World.putObj_heap_other (fun e=>hj e),hh]
   have kp:bC E w E (w1'.putObj g (.mapIter (some bm) since (seen.push e.born) since)):=⟨fun j hj=>hoth j (fun e=>hg.hw.ik b _ g hb q1 (e▸hj)),fun _ h=>h⟩
   have hrb:RB E (w1'.putObj g (.mapIter (some bm) since (seen.push e.born) since)) b (.jL kt vt (rest.eraseIdx i) (some rest[i])):=by
    refine⟨g,some bm,since,seen.push e.born,since,q1,World.putObj_heap_same hlg,Or.inr ⟨bm,en,rfl,r2,by rw[hoth bm hne];exact r3,rfl,r5,r6,?_,?_⟩⟩
    ·rw[hrm];exact RM.mono kp (m3 i)
    ·intro x hx
     cases hx
     exact⟨e,seen,rfl,hen,cd.mono kp (fun _ hb=>by cases hb) k1,cd.mono kp (fun _ hb=>by cases hb) k2⟩
   have hw2:=hg.hw.write (w':=w1'.putObj g (.mapIter (some bm) since (seen.push e.born) since)) hb (by rw[show(w1'.putObj g _).heap.size=w1'.heap.size from by simp[World.putObj],hh]) (fun j hj=>hoth j (fun e=>hj (by rw[e];exact q1))) hrb
   refine fin #[.bool true,e.key,e.val] true _ {σ with hp:=σ.hp.set b (some (.jL kt vt (rest.eraseIdx i) (some rest[i])))} aao rfl (hg.carry kp (fun _ _=>⟨rfl,rfl,rfl⟩) hw2) ⟨?_,?_,?_,?_,?_,fun _ h=>h,fun _ h=>Or.inl h,fun i hi=>Or.inl (Own.set hb hi),fun _ _=>⟨rfl,rfl,rfl⟩⟩ (hq1 i hir)
   ·rcases hw1 with e|e<;>rw[e]<;>rfl
   ·rcases hw1 with e|e
    ·rw[e];exact Tp.r rfl rfl
    ·rw[e];exact Tp.s rfl rfl
   ·rcases hw1 with e|e<;>rw[e]<;>rfl
   ·rw[show(w1'.putObj g _).heap.size=w1'.heap.size from by simp[World.putObj],hh];exact Nat.le_refl _
   ·intro j hj ho
    exact hoth j (fun e=>ho ⟨b,_,hb,by rw[e];exact Or.inl q1⟩)
end Go.Ax
namespace Go.Ax
theorem cw.G6{P:Program}{gl:Ctx}{σ:St}{Q:eo→St→Prop}{id:Nat}{o1 o2:Oper}{y:Code}(x:Operand)(d1 d2:Nat)(t t2 e:TypeId)(bs:Nat)(u:Ty)(xs:List u.den)
 (h1:o1.op= .move x) (hd1:o1.dst=some d1) (hg1:o1.guard=none) (h2:o2.op= .binOp .eql t (.tmp d1) (.const (.slice none 0 0)) t2) (hd2:o2.dst=some d2) (hg2:o2.guard=none)
 (hx:bw gl σ.tm x= .val (.slice bs u) xs) (ht:P.underlying t=some (.slice e)) (hl:Nat.blt d1 σ.tm.length=true)
 (h:∀b:Bool,(b=true→xs= [])→cw P gl y ((σ.put (some d1) (.val (.slice bs u) xs)).put (some d2) (.val .bool b)) Q):cw P gl (.seq (.region id #[o1,o2] false) y) σ Q:=by
 intro E a w hg
 have hv:=eI hg x
 rw[hx] at hv
 obtain⟨ad,cap,hve,_,_,_,hor⟩:=RV.atom rfl hv
 simp at hve
 have hlt:d1<a.tmps.size:=by rw[hg.len];simp[Nat.blt] at hl;omega
 refine wpIn_seq (wpIn_region ?_)
 have hr:List.range (#[o1,o2]:Array Oper).size= [0,1]:=rfl
 rw[hr]
 have w1:∀z,Region.wanted o1 z=true:=fun z=>by simp[Region.wanted,hg1]
 have w2:∀z,Region.wanted o2 z=true:=fun z=>by simp[Region.wanted,hg2]
 have ga:=hg.put (some d1) hv
 have hb:ad.isNone=true→xs= []:=by
  intro hn
  rcases hor with h0|⟨b,o,cs,e1,_⟩
  ·exact h0
  ·subst e1;cases hn
 have gb:=ga.put (some d2) (x:=.val .bool ad.isNone) (v:=.bool ad.isNone) (RV.de (Or.inr ⟨rfl,rfl⟩))
 have hfin:=h ad.isNone hb E _ w gb
 simp only[wpOpsIn,List.getElem?_toArray,List.getElem?_cons_zero,List.getElem?_cons_succ,w1,if_true]
 refine⟨fun _ _=>trivial,?_⟩
 rw[Oper.semAt_eq _ _ _ (by rw[h1];intro c hc;cases hc)]
 have r1:(execOp a.eval o1).run P w= .ok (.value (a.eval x)) w:=by simp[execOp,h1]
 rw[r1,Oper.uponIn_value,hd1]
 simp only[w2,if_true]
 refine⟨fun _ _=>trivial,?_⟩
 rw[Oper.semAt_eq _ _ _ (by rw[h2];intro c hc;cases hc)]
 have hev:(a.put (some d1) (a.eval x)).eval (.tmp d1)= .slice ad xs.length cap:=by
  have:(a.put (some d1) (a.eval x)).eval (.tmp d1)=a.eval x:=by
   generalize a.eval x=v
   simp[Act.eval,Act.put,hlt]
  rw[this,hve]
 have r2:(execOp (a.put (some d1) (a.eval x)).eval o2).run P w= .ok (.value (.bool ad.isNone)) w:=by
  have hq:=run_equal_slice_nil (P:=P) w t e ad xs.length cap ht
  have hc:(a.put (some d1) (a.eval x)).eval (.const (.slice none 0 0))= .slice none 0 0:=rfl
  simp[execOp,h2,hev,hc,eqGuard,binOp,hq]
 rw[r2,Oper.uponIn_value,hd2]
 simp only[Exit.then]
 refine wpIn_mono hfin ?_
 rintro ex a' w' ⟨x',σ',E',k1,k2,k3,k4⟩
 exact⟨x',σ',E',k1,k2,k3,k4⟩
end Go.Ax
namespace Go.Ax
theorem HW.frame{gl:Ctx}{E:Env}{w:World}{hp:List (Option aI)}(h:HW gl E w hp){g:Nat}{o:Obj}(hS:¬E.S g)(hO:¬Own hp E g):bC E w E (w.putObj g o)∧HW gl E (w.putObj g o) hp:=by
 have kp:bC E w E (w.putObj g o):=⟨fun b hb=>World.putObj_heap_other (fun e=>hS (e▸hb)),fun _ h=>h⟩
 exact⟨kp,fun b k hb=>RB.mono kp (fun _ _=>⟨rfl,rfl,rfl⟩) (fun i hi=>World.putObj_heap_other (fun e=>hO ⟨b,k,hb,by rw[←e];exact hi⟩)) (fun _ _ h=>h) (h.cj b k hb),h.dc,h.cN,fun i hi=>by simpa using h.slt i hi,h.eD kp,fun b k g hb hg=>by simpa using h.nT b k g hb hg⟩
theorem bO.frame{gl:Ctx}{σ:St}{E:Env}{a:Act}{w:World}(h:bO gl σ E a w){g:Nat}{o:Obj}(hS:¬E.S g)(hO:¬Own σ.hp E g):bO gl σ E a (w.putObj g o):=by
 obtain⟨kp,hw⟩:=h.hw.frame (o:=o) hS hO
 exact h.carry kp (fun _ _=>⟨rfl,rfl,rfl⟩) hw
def Env.kf(E:Env):Env:={E with P:=fun _ _=>False}
theorem Env.pw{E:Env}{b g:Nat}(h:E.kf.has b g):E.has b g:=h.elim Or.inl False.elim
theorem Own.kf{hp:List (Option aI)}{E:Env}{g:Nat}(h:Own hp E.kf g):Own hp E g:=by
 obtain⟨b,k,h1,h2⟩:=h
 exact⟨b,k,h1,Env.pw h2⟩
theorem HW.kf{gl:Ctx}{E:Env}{w:World}{hp:List (Option aI)}(hn:∀(b:Nat)(k:aI),hp[b]? =some (some k)→k.CW=false)(h:HW gl E w hp):HW gl E.kf w hp:=
 have kp:bC E w E.kf w:=⟨fun _ _=>rfl,fun _ hg=>hg⟩
 ⟨fun b k hb=>RB.mono kp (fun _ _=>⟨rfl,rfl,rfl⟩) (fun _ _=>rfl) (fun hp=>by rw[hn b k hb] at hp;cases hp) (h.cj b k hb),fun b b' k k' g h1 h2 h3 h4=>h.dc b b' k k' g h1 h2 (Env.pw h3) (Env.pw h4),fun b k g h1 h2=>h.cN b k g h1 (Env.pw h2),h.slt,h.gl,fun _ _ _ _ h=>h.elim⟩
theorem iW.kf{E:Env}{w:World}:∀{xs:List AV}{vs:List Value},iW E w xs vs→iW E.kf w xs vs
 |[],[],_=>trivial
 |[],_::_,h=>h.elim
 |_::_,[],h=>h.elim
 |_::_,_::_,⟨h1,h2⟩=>⟨RV.mono (E:=E) (E':=E.kf) (w:=w) ⟨fun _ _=>rfl,fun _ hg=>hg⟩ (fun _ _=>⟨rfl,rfl,rfl⟩) h1,iW.kf h2⟩
theorem oB.kf{P:Program}{gl:Ctx}{f:FuncId}{args:List AV}{H:List (Option aI)}{r:rz}{H':List (Option aI)}
 (hn:∀(b:Nat)(k:aI),H[b]? =some (some k)→k.CW=false) (h:∀E w vs,(∀b g,¬E.P b g)→iW E w args vs→HW gl E w H→Calls P f vs.toArray w (fun e w'=>∃E',rY E' w' r e∧HW gl E' w' H'∧Ext gl.md (Own H E) E w (Own H' E') E' w')):oB P gl f args H r H':=by
 intro E w vs hv hw
 refine Calls.mono (h E.kf w vs (fun _ _ h=>h) hv.kf (hw.kf hn)) ?_
 rintro e w' ⟨E',h1,h2,h3⟩
 exact⟨E',h1,h2,⟨h3.os,h3.tape,h3.output,h3.size,fun g hg ho=>h3.kept g hg (fun x=>ho x.kf),h3.sle,fun g hg=>(h3.jC g hg).imp id (fun x=>x.imp Own.kf id),fun g hg=>(h3.own g hg).imp Own.kf id,h3.zX⟩⟩
theorem Ext.put{gl:Ctx}{O:Nat→Prop}{E:Env}{w:World}{g:Nat}{o:Obj}(h:O g):Ext gl.md O E w O E (w.putObj g o):=
 ⟨rfl,Tp.r rfl rfl,rfl,by simp,fun i _ hi=>World.putObj_heap_other (fun e=>hi (e▸h)),fun _ h=>h,fun _ h=>Or.inl h,fun _ h=>Or.inl h,fun _ _=>⟨rfl,rfl,rfl⟩⟩
theorem jr{hp:List (Option aI)}{b c:Nat}{k:aI}(h:(hp.set b none)[c]? =some (some k)):c≠b∧hp[c]? =some (some k):=by
 rw[List.getElem?_set] at h
 split at h
 ·split at h<;>cases h
 ·rename_i hne;exact⟨fun e=>hne e.symm,h⟩
theorem HW.drop{gl:Ctx}{E:Env}{w:World}{hp:List (Option aI)}(h:HW gl E w hp)(b:Nat):HW gl E w (hp.set b none):=h.less (fun _ _ hc=>(jr hc).2)
theorem Own.drop{E:Env}{hp:List (Option aI)}{b g:Nat}(h:Own (hp.set b none) E g):Own hp E g:=by
 obtain⟨c,k,h1,h2⟩:=h
 exact⟨c,k,(jr h1).2,h2⟩
theorem bO.shut{gl:Ctx}{σ:St}{E:Env}{a:Act}{w:World}(h:bO gl σ E a w){b g:Nat}{k:aI}(hb:σ.hp[b]? =some (some k))(hg:E.g b=some g)(o:Obj):
 bO gl {σ with hp:=σ.hp.set b none} E a (w.putObj g o)∧Ext gl.md (Own σ.hp E) E w (Own (σ.hp.set b none) E) E (w.putObj g o):=by
 have hS:¬E.S g:=h.hw.ik b k g hb hg
 have hO:¬Own (σ.hp.set b none) E g:=by
  rintro⟨c,k',hc,hgc⟩
  obtain⟨h1,h2⟩:=jr hc
  exact h1 (h.hw.dc c b k' k g h2 hb hgc (Or.inl hg))
 have h1:bO gl {σ with hp:=σ.hp.set b none} E a w:=⟨h.len,h.tm,h.hw.drop b,h.df⟩
 refine⟨h1.frame hS hO,?_⟩
 have:=Ext.put (gl:=gl) (O:=Own σ.hp E) (E:=E) (w:=w) (o:=o) ⟨b,k,hb,Or.inl hg⟩
 exact{this with own:=fun i hi=>Or.inl (Own.drop hi)}
def marks:List AV→List (Option aI)→Option (List (Option aI))
 |[],hp=>some hp
 |
  .mp b::l,hp=>match dx hp b with
  |some .qf=>marks l (hp.set b none)
  |_=>none
 |_,_=>none
theorem AR{P:Program}{gl:Ctx}{fn:Func}{R:Ending→World→Prop}{tmps:Array Value}:∀(df:List AV){tm:List AV}{hp hp':List (Option aI)}{E:Env}{ds:List Deferred}{w:World},
 bO gl ⟨tm,hp,df⟩ E ⟨tmps,ds⟩ w→marks df hp=some hp'→(∀w',bO gl ⟨tm,hp',[]⟩ E ⟨tmps,[]⟩ w'→Ext gl.md (Own hp E) E w (Own hp' E) E w'→LeavesIn (Wd gl) 0 P fn tmps R [] .returning w')→LeavesInM (Wd gl) 0 P fn tmps R ds .returning w
 |
  [],tm,hp,hp',E,ds,w,h,hm,hk=>by
  cases hm
  have:ds= []:=by
   have:=h.df
   cases ds with
   |nil=>rfl
   |cons _ _=>exact this.elim
  subst this
  exact hk w h (Ext.refl _ _ _)
 |
  x::l,tm,hp,hp',E,ds,w,h,hm,hk=>by
  cases x with
  |
   mp b=>
   simp only[marks] at hm
   split at hm
   ·rename_i hb
    have hbk:=bX hp b _ hb
    cases ds with
    |nil=>exact h.df.elim
    |
     cons d ds=>
     obtain⟨⟨g,hg,hd⟩,hrest⟩:=h.df
     obtain⟨g',hg',hh⟩:=h.hw.cj b _ hbk
     rw[hg] at hg';cases hg'
     have h0:bO gl ⟨tm,hp,l⟩ E ⟨tmps,ds⟩ w:=⟨h.len,h.tm,h.hw,hrest⟩
     obtain⟨g1,x1⟩:=h0.shut hbk hg (.deferred none)
     refine⟨by simp,Or.inl ⟨g,_,by rw[hd],run_takeDeferred hh,?_⟩⟩
     exact AR l g1 hm (fun w' k1 k2=>hk w' k1 (x1.trans k2))
   ·cases hm
  |_=>simp[marks] at hm
end Go.Ax
namespace Go.Ax
def Ctx.wB(gl:Ctx)(B:(Nat→Prop)→World→Prop)(hB:∀{S S':Nat→Prop}{w w':World},(∀b,S b→w'.heap[b]? =w.heap[b]?)→(∀b,S b→S' b)→B S w→B S' w'):Ctx:=⟨gl.gl,B,hB,none,gl.md⟩
def Ctx.oF(gl:Ctx)(l:Nat):Ctx:=⟨gl.gl,fun _ _=>True,fun _ _ _=>trivial,some l,gl.md⟩
def jmp(jl:List Code):Nat→Option Code
 |0=>none
 |j+1=>jl[j]?
def dT(fn:FuncId)(tmps:Array Value)(ps:Array Tmp)(assign body:Code)(D:Nat)(jl:List Code)(j:Nat):Loop:=
 {state:=if Nat.beq j 0 then .ready else .done,pending:=jmp jl j,fn,tmps,params:=ps,assign,body,defers:=D}
def AV.kQ(m:List (Nat×Nat)):AV→Option AV
 | .ptr b p=>(iY m b).map fun c=>.ptr c p
 | .gn b p lo len=>(iY m b).map fun c=>.gn c p lo len
 |
  .func fn fs cs=>match fs.kQ m,cs.kQ m with
  |some f,some c=>if f.atoms&&c.atoms then some (.func fn f c) else none
  |_,_=>none
 |
  .cons a b=>match a.kQ m,b.kQ m with
  |some x,some y=>some (.cons x y)
  |_,_=>none
 | .val t x=>some (.val t x)
 | .bD t x=>some (.bD t x)
 | .aX=>some .aX
 | .eT=>some .eT
 | .di=>some .di
 | .dX=>some .dX
 | .cD f t x=>some (.cD f t x)
 | .fA=>some .fA
 | .nil=>some .nil
 |_=>none
structure Sz(m:List (Nat×Nat))(E:Env)(w:World)(E':Env)(w':World):Prop where
 at':∀b c,iY m b=some c→E'.g c=E.g b∧E'.bt c=E.bt b
 k:bC E w E' w'
theorem AV.AT{m:List (Nat×Nat)}{x y:AV}(h:x.kQ m=some y):y.isAgg=x.isAgg:=by
 cases x with
 |ptr b p=>simp only[AV.kQ,Option.map_eq_some_iff] at h;obtain⟨c,_,rfl⟩:=h;rfl
 |gn b p lo len=>simp only[AV.kQ,Option.map_eq_some_iff] at h;obtain⟨c,_,rfl⟩:=h;rfl
 |
  func fn fs cs=>
  simp only[AV.kQ] at h
  split at h
  ·split at h
   ·cases h;rfl
   ·cases h
  ·cases h
 |
  cons a b=>
  simp only[AV.kQ] at h
  split at h
  ·cases h;rfl
  ·cases h
 |_=>simp[AV.kQ] at h<;>subst h<;>rfl
theorem RC.kQ{m:List (Nat×Nat)}{E E':Env}{w w':World}(r:Sz m E w E' w'):∀{x y:AV}{vs:List Value},x.kQ m=some y→RC E w x vs→RC E' w' y vs:=by
 intro x
 induction x with
 |
  ptr b p=>
  intro y vs h hr
  simp only[AV.kQ,Option.map_eq_some_iff] at h
  obtain⟨c,hc,rfl⟩:=h
  obtain⟨e1,e2⟩:=r.at' b c hc
  obtain⟨g,h1,h2,h3⟩:=hr
  exact⟨g,by rw[e1];exact h1,by rw[e2];exact h2,by rw[e2];exact h3⟩
 |
  gn b p lo len=>
  intro y vs h hr
  simp only[AV.kQ,Option.map_eq_some_iff] at h
  obtain⟨c,hc,rfl⟩:=h
  obtain⟨e1,e2⟩:=r.at' b c hc
  obtain⟨n,t,h1,h2,h3,a,cap,h4,h5,h6⟩:=hr
  refine⟨n,t,by rw[e2];exact h1,by rw[e2];exact h2,h3,a,cap,h4,h5,h6.imp id ?_⟩
  rintro⟨g,k1,k2⟩
  exact⟨g,by rw[e1];exact k1,by rw[e2];exact k2⟩
 |
  func fn fs cs ih1 ih2=>
  intro y vs h hr
  simp only[AV.kQ] at h
  split at h
  ·rename_i f c h1 h2
   split at h
   ·rename_i ha
    cases h
    simp only[Bool.and_eq_true] at ha
    obtain⟨f',c',e,r1,r2,_,_⟩:=hr
    exact⟨f',c',e,ih1 h1 r1,ih2 h2 r2,ha.1,ha.2⟩
   ·cases h
  ·cases h
 |
  cons a b ih1 ih2=>
  intro y vs h hr
  simp only[AV.kQ] at h
  split at h
  ·rename_i x y h1 h2
   cases h
   obtain⟨v1,v2,e,r1,r2⟩:=hr
   exact⟨v1,v2,e,ih1 h1 r1,ih2 h2 r2⟩
  ·cases h
 |val t x=>intro y vs h hr;simp only[AV.kQ,Option.some.injEq] at h;subst h;exact RC.mono (a:=.val t x) r.k (fun _ hb=>by cases hb) hr
 |bD t x=>intro y vs h hr;simp only[AV.kQ,Option.some.injEq] at h;subst h;exact RC.mono (a:=.bD t x) r.k (fun _ hb=>by cases hb) hr
 |aX=>intro y vs h hr;simp only[AV.kQ,Option.some.injEq] at h;subst h;exact hr
 |eT=>intro y vs h hr;simp only[AV.kQ,Option.some.injEq] at h;subst h;exact hr
 |di=>intro y vs h hr;simp only[AV.kQ,Option.some.injEq] at h;subst h;exact hr
 |dX=>intro y vs h hr;simp only[AV.kQ,Option.some.injEq] at h;subst h;exact hr
 |cD f t x=>intro y vs h hr;simp only[AV.kQ,Option.some.injEq] at h;subst h;obtain⟨ha,cs,h1,h2⟩:=hr;exact⟨ha,cs,h1,Rel.mono r.k.w r.k.S h2⟩
 |fA=>intro y vs h hr;simp only[AV.kQ,Option.some.injEq] at h;subst h;exact hr
 |nil=>intro y vs h hr;simp only[AV.kQ,Option.some.injEq] at h;subst h;exact hr
 |_=>intro y vs h hr;simp[AV.kQ] at h
theorem RV.kQ{m:List (Nat×Nat)}{E E':Env}{w w':World}(r:Sz m E w E' w'){x y:AV}{v:Value}(h:x.kQ m=some y)(hr:RV E w x v):RV E' w' y v:=by
 have hp:x.plain=true:=by cases x<;>simp[AV.kQ] at h<;>rfl
 have h0:=RV.gF hp hr
 refine RV.de ?_
 rcases h0 with⟨h1,cs,e,h2⟩|⟨h1,h2⟩
 ·exact Or.inl ⟨by rw[AV.AT h];exact h1,cs,e,RC.kQ r h h2⟩
 ·exact Or.inr ⟨by rw[AV.AT h];exact h1,RC.kQ r h h2⟩
def Cd(m:List (Nat×Nat)):List AV→List AV
 |[]=>[]
 |x::l=>(match x.kQ m with|some y=>y|none=>.bot)::Cd m l
theorem AU{m:List (Nat×Nat)}:∀{l:List AV},(Cd m l).length=l.length
 |[]=>rfl
 |_::l=>by simp[Cd,AU (l:=l)]
theorem AW{m:List (Nat×Nat)}:∀{l:List AV}{i:Nat}{y:AV},(Cd m l)[i]? =some y→y= .bot∨∃x,l[i]? =some x∧x.kQ m=some y
 |[],i,y,h=>by simp[Cd] at h
 |
  x::l,0,y,h=>by
  simp only[Cd,List.getElem?_cons_zero,Option.some.injEq] at h
  split at h
  ·rename_i z hz;subst h;exact Or.inr ⟨x,rfl,hz⟩
  ·exact Or.inl h.symm
 |
  x::l,i+1,y,h=>by
  simp only[Cd,List.getElem?_cons_succ] at h
  simpa using AW h
def lh:List (Nat×AV)→List AV→List AV
 |[],l=>l
 |(t,x)::r,l=>lh r (l.set t x)
theorem w7{E:Env}{w:World}:∀{ps:List Nat}{args:List AV}{vs:List Value}{tm:List AV}{tmps:Array Value},iW E w args vs→tmps.size=tm.length→(∀(i:Nat)(x:AV),tm[i]? =some x→∀v,tmps[i]? =some v→RV E w x v)→
 ((ps.zip vs).foldl (fun t(p:Nat×Value)=>t.setIfInBounds p.1 p.2) tmps).size=(lh (ps.zip args) tm).length∧
 (∀(i:Nat)(x:AV),(lh (ps.zip args) tm)[i]? =some x→∀v,((ps.zip vs).foldl (fun t(p:Nat×Value)=>t.setIfInBounds p.1 p.2) tmps)[i]? =some v→RV E w x v)
 |[],args,vs,tm,tmps,_,hs,ht=>by simp[lh];exact⟨hs,ht⟩
 |p::ps,[],[],tm,tmps,_,hs,ht=>by simp[lh];exact⟨hs,ht⟩
 |p::ps,[],_::_,tm,tmps,h,hs,ht=>h.elim
 |p::ps,_::_,[],tm,tmps,h,hs,ht=>h.elim
 |
  p::ps,a::args,v::vs,tm,tmps,⟨h1,h2⟩,hs,ht=>by
  simp only[List.zip_cons_cons,List.foldl_cons,lh]
  refine w7 h2 (by simp[hs]) ?_
  intro i x hx u hu
  rw[List.getElem?_set] at hx
  rw[Array.getElem?_setIfInBounds] at hu
  split at hx
  ·rename_i e
   rw[if_pos e] at hu
   split at hx
   ·cases hx
    split at hu
    ·cases hu;exact h1
    ·cases hu
   ·cases hx
  ·rename_i e
   rw[if_neg e] at hu
   exact ht i x hx u hu
def jO(i:Nat):List (Nat×Ty)→Bool
 |[]=>false
 |(j,_)::l=>Nat.beq i j||jO i l
def kq(gs:Nat→Nat)(ti:List (Nat×Ty))(i:Nat):aI→aI
 | .var t v=>if jO i ti then .tv (gs i) t v else .var t v
 |k=>k
def tie(gs:Nat→Nat)(ti:List (Nat×Ty)):Nat→List (Option aI)→List (Option aI)
 |_,[]=>[]
 |s,none::l=>none::tie gs ti (s+1) l
 |s,some k::l=>some (kq gs ti s k)::tie gs ti (s+1) l
theorem js{gs:Nat→Nat}{ti:List (Nat×Ty)}:∀{l:List (Option aI)}{s:Nat},(tie gs ti s l).length=l.length
 |[],_=>rfl
 |none::l,s=>by simp[tie,js (l:=l)]
 |some _::l,s=>by simp[tie,js (l:=l)]
theorem fK{gs:Nat→Nat}{ti:List (Nat×Ty)}:∀{l:List (Option aI)}{s i:Nat}{k:aI},(tie gs ti s l)[i]? =some (some k)→∃k0,l[i]? =some (some k0)∧k=kq gs ti (s+i) k0
 |[],s,i,k,h=>by simp[tie] at h
 |none::l,s,0,k,h=>by simp[tie] at h
 |some x::l,s,0,k,h=>by simp[tie] at h;exact⟨x,rfl,by rw[←h];rfl⟩
 |
  none::l,s,i+1,k,h=>by
  obtain⟨k0,h1,h2⟩:=fK (l:=l) (by simpa[tie] using h)
  exact⟨k0,by simpa using h1,by rw[h2];congr 1;omega⟩
 |
  some x::l,s,i+1,k,h=>by
  obtain⟨k0,h1,h2⟩:=fK (l:=l) (by simpa[tie] using h)
  exact⟨k0,by simpa using h1,by rw[h2];congr 1;omega⟩
theorem uX{gs:Nat→Nat}{ti:List (Nat×Ty)}:∀{l:List (Option aI)}{s i:Nat}{k:aI},l[i]? =some (some k)→(tie gs ti s l)[i]? =some (some (kq gs ti (s+i) k))
 |[],s,i,k,h=>by simp at h
 |none::l,s,0,k,h=>by simp at h
 |some x::l,s,0,k,h=>by simp at h;subst h;rfl
 |
  none::l,s,i+1,k,h=>by
  have:=uX (gs:=gs) (ti:=ti) (s:=s+1) (l:=l) (i:=i) (k:=k) (by simpa using h)
  rw[show s+(i+1)=s+1+i from by omega];simpa[tie] using this
 |
  some x::l,s,i+1,k,h=>by
  have:=uX (gs:=gs) (ti:=ti) (s:=s+1) (l:=l) (i:=i) (k:=k) (by simpa using h)
  rw[show s+(i+1)=s+1+i from by omega];simpa[tie] using this
theorem RB.L4{gs:Nat→Nat}{ti:List (Nat×Ty)}{E:Env}{w:World}{i:Nat}{k:aI}(h:RB E w i (kq gs ti i k)):RB E w i k:=by
 cases k with
 |
  var t v=>
  simp only[kq] at h
  split at h
  ·obtain⟨h0,h1,h2,c,e,h4,h5⟩:=h;exact⟨h1,h2,_,c,e,h0,h4,h5⟩
  ·exact h
 |_=>exact h
theorem RB.tie{gs:Nat→Nat}{ti:List (Nat×Ty)}{E:Env}{w:World}{i:Nat}{k:aI}(h:RB E w i k)(hg:jO i ti=true→E.g i=some (gs i)):RB E w i (kq gs ti i k):=by
 cases k with
 |
  var t v=>
  simp only[kq]
  split
  ·rename_i hh
   obtain⟨h1,h2,g,c,e,h3,h4,h5⟩:=h
   have:=hg hh
   rw[this] at h3;cases h3
   exact⟨this,h1,h2,c,e,h4,h5⟩
  ·exact h
 |_=>exact h
def mI(hp:List (Option aI)):List (Nat×Ty)→Bool
 |[]=>true
 |(i,t)::l=>(match hp[i]? with|some (some (.var t' _))=>Ty.same t' t|_=>false)&&Nat.blt i 16&&mI hp l
theorem qV{hp:List (Option aI)}{i:Nat}:∀{ti:List (Nat×Ty)},mI hp ti=true→jO i ti=true→i<16∧∃t v,hp[i]? =some (some (.var t v))∧(i,t)∈ti
 |[],_,h=>by cases h
 |
  (j,t)::l,h,hi=>by
  simp only[mI,Bool.and_eq_true] at h
  simp only[jO,Bool.or_eq_true] at hi
  rcases hi with hi|hi
  ·have e:=Nat.eq_of_beq_eq_true hi;subst e
   refine⟨by have:=h.1.2;simp[Nat.blt] at this;omega,?_⟩
   have h1:=h.1.1
   split at h1
   ·rename_i t' v hv
    have e:=Ty.aA h1;subst e
    exact⟨_,v,hv,List.mem_cons_self ..⟩
   ·cases h1
  ·obtain⟨h1,t',v,h2,h3⟩:=qV h.2 hi
   exact⟨h1,t',v,h2,List.mem_cons_of_mem _ h3⟩
def L5(P:Program)(gl:Ctx)(y:Code)(Q:eo→St→Prop):eo→St→Prop
 | .normal,σ=>cw P gl y σ Q
 |_,_=>False
def L7(gl:Ctx)(jl:List Code)(j:Nat)(H:List (Option aI)):eo→St→Prop
 | .normal,σ=>j=0∧∃σ' m,Wk gl σ σ'∧prune σ'.hp m=H
 | .ret,σ=>(j≠0∧jmp jl j=some .ret)∧∃σ' m,Wk gl σ σ'∧prune σ'.hp m=H
 | .exit i,σ=>(j≠0∧jmp jl j=some (.exit i))∧∃σ' m,Wk gl σ σ'∧prune σ'.hp m=H
 |_,_=>False
theorem HW.ctx{C C':Ctx}{E:Env}{w:World}{hp:List (Option aI)}(h:HW C E w hp)(hg:C'.gl=C.gl)(hb:C'.B E.S w):HW C' E w hp:=
 ⟨h.cj,h.dc,h.cN,h.slt,⟨by rw[hg];exact h.gl.1,hb⟩,h.nT⟩
theorem Ext.add{gl:Ctx}{O O':Nat→Prop}{E E':Env}{w w':World}(h:Ext gl.md O E w O' E' w')(l:Nat):Ext gl.md (fun g=>O g∨g=l) E w (fun g=>O' g∨g=l) E' w' where
 os:=h.os
 tape:=h.tape
 output:=h.output
 size:=h.size
 kept:=fun g hg ho=>h.kept g hg (fun x=>ho (Or.inl x))
 sle:=h.sle
 jC:=fun g hg=>(h.jC g hg).imp id (fun x=>x.imp Or.inl id)
 own:=fun g hg=>by
  rcases hg with hg|hg
  ·exact(h.own g hg).imp Or.inl id
  ·exact Or.inl (Or.inr hg)
 zX:=h.zX
theorem Fy.G7{P:Program}{gl:Ctx}{σ:St}{E:Env}{a:Act}{w:World}(hg:bO gl σ E a w){B:(Nat→Prop)→World→Prop}{hB:∀{S S':Nat→Prop}{w w':World},(∀b,S b→w'.heap[b]? =w.heap[b]?)→(∀b,S b→S' b)→B S w→B S' w'}
 (hBu:∀S' w',B S' w'→(∀b,E.S b→S' b)∧(∀b,E.S b→w'.heap[b]? =w.heap[b]?)) {l D k0:Nat} {fn:FuncId} {ps:Array Tmp} {assign body:Code} {gs:Nat→Nat} {ti:List (Nat×Ty)} {m:List (Nat×Nat)} {jl:List Code}
 (hti:∀b i,iY m b=some i→jO i ti=true∧E.g b=some (gs i)∧∀t,(i,t)∈ti→E.bt b=t)
 {args:List AV} {H H':List (Option aI)} {j:Nat} (hps:ps.size=args.length) (hk:Nat.blt k0 16=true) (hkt:jO k0 ti=false) (h0:H[k0]? =some none) (h0':H'[k0]? =some none) (ht:mI H ti=true) (_ht':mI H' ti=true)
 (aao:cw P (gl.oF l) assign ⟨lh (ps.toList.zip args) (Cd m σ.tm),H,[]⟩ (L5 P (gl.oF l) body (L7 (gl.oF l) jl j H'))):
 Fy P (gl.wB B hB) l args ((tie gs ti 0 H).set k0 (some (.lp ⟨l,gs,dT fn a.tmps ps assign body D jl⟩ 0))) (.ret (.val .bool (Nat.beq j 0))) ((tie gs ti 0 H').set k0 (some (.lp ⟨l,gs,dT fn a.tmps ps assign body D jl⟩ j))):=by
 intro E1 w1 vs hv hW
 have hk16:k0<16:=by simp[Nat.blt] at hk;omega
 have lenH:k0<(tie gs ti 0 H).length:=by rw[js];exact(List.getElem?_eq_some_iff.1 h0).1
 have lenH':k0<(tie gs ti 0 H').length:=by rw[js];exact(List.getElem?_eq_some_iff.1 h0').1
 have hlp:((tie gs ti 0 H).set k0 (some (.lp ⟨l,gs,dT fn a.tmps ps assign body D jl⟩ 0)))[k0]? =some (some (.lp ⟨l,gs,dT fn a.tmps ps assign body D jl⟩ 0)):=by
  rw[List.getElem?_set,if_pos rfl,if_pos lenH]
 obtain⟨hgl,hrec⟩:E1.g k0=some l∧w1.heap[l]? =some (.loop (dT fn a.tmps ps assign body D jl 0)):=hW.cj k0 _ hlp
 have at1:∀(i:Nat)(k:aI),H[i]? =some (some k)→i≠k0∧((tie gs ti 0 H).set k0 (some (.lp ⟨l,gs,dT fn a.tmps ps assign body D jl⟩ 0)))[i]? =some (some (kq gs ti i k)):=by
  intro i k hi
  have hne:i≠k0:=fun e=>by subst e;rw[h0] at hi;cases hi
  refine⟨hne,?_⟩
  rw[List.getElem?_set,if_neg (fun e=>hne e.symm)]
  have:=uX (gs:=gs) (ti:=ti) (s:=0) hi
  rwa [Nat.zero_add] at this
 have hSl:¬E1.S l:=hW.ik k0 _ l hlp hgl
 have hW1:HW (gl.oF l) E1 w1 H:=by
  refine⟨?_,?_,?_,hW.slt,⟨hW.gl.1,trivial⟩,fun i k g hi=>hW.nT i _ g (at1 i k hi).2⟩
  ·intro i k hi;exact(hW.cj i _ (at1 i k hi).2).L4
  ·intro i i' k k' g hi hi' g1 g2;exact hW.dc i i' _ _ g (at1 i k hi).2 (at1 i' k' hi').2 g1 g2
  ·intro i k g hi g1;exact hW.cN i _ g (at1 i k hi).2 g1
 have hOl:¬Own H E1 l:=by
  rintro⟨i,k,hi,hgi⟩
  exact(at1 i k hi).1 (hW.dc i k0 _ _ l (at1 i k hi).2 hlp hgi (Or.inl hgl))
 have hgi:∀i,jO i ti=true→i<16∧E1.g i=some (gs i):=by
  intro i hi
  obtain⟨h1,t,v,h2,_⟩:=qV ht hi
  have:=hW.cj i _ (at1 i _ h2).2
  simp only[kq,hi,if_true] at this
  exact⟨h1,this.1⟩
 obtain⟨b1,b2⟩:=hBu E1.S w1 hW.gl.2
 have hrnp:Sz m E w E1 w1:=by
  refine⟨?_,⟨b2,b1⟩⟩
  intro b i hbi
  obtain⟨c1,c2,c3⟩:=hti b i hbi
  obtain⟨_,t,v,h2,h3⟩:=qV ht c1
  have:=hW1.cj i _ h2
  exact⟨by rw[(hgi i c1).2,c2],by rw[this.1,c3 t h3]⟩
 obtain⟨hl,_⟩:=hv.get
 have hframe:bO (gl.oF l) ⟨lh (ps.toList.zip args) (Cd m σ.tm),H,[]⟩ E1 {tmps:=(ps.zip vs.toArray).foldl (fun t (p,v)=>t.setIfInBounds p v) a.tmps,defers:=[]} w1:=by
  have hzip:(ps.zip vs.toArray).foldl (fun t (p,v)=>t.setIfInBounds p v) a.tmps=(ps.toList.zip vs).foldl (fun t(p:Nat×Value)=>t.setIfInBounds p.1 p.2) a.tmps:=by
   rw[←Array.foldl_toList]
   congr 1
   simp
  have:=w7 (ps:=ps.toList) (tm:=Cd m σ.tm) (tmps:=a.tmps) hv (by rw[AU];exact hg.len) (fun i x hx v hv'=>by
   rcases AW hx with e|⟨y,h1,h2⟩
   ·subst e;trivial
   ·exact RV.kQ hrnp h2 (hg.tm i y h1 v hv'))
  rw[hzip]
  exact⟨this.1,this.2,hW1,trivial⟩
 refine⟨fn,_,assign,body,run_yield hrec (by simp[dT,←hl,hps]),roundIn_of_wpIn (F:=Fence.wide) trivial ?_⟩
 refine wpIn_mono (aao E1 _ w1 hframe) ?_
 rintro ex a2 w2 ⟨x,σ2,E2,q1,q2,q3,q4⟩
 cases ex with
 |
  normal=>
  cases x with
  |
   normal=>
   simp only[Exit.then]
   have hlt:l<w1.heap.size:=(Array.getElem?_eq_some_iff.1 hrec).1
   have hrec2:w2.heap[l]? =some (.loop (dT fn a.tmps ps assign body D jl 0)):=by rw[q4.kept l hlt hOl];exact hrec
   have notO:∀{hp:List (Option aI)}{E':Env}{w':World},Ext gl.md (Own H E1) E1 w1 (Own hp E') E' w'→¬Own hp E' l∧¬E'.S l:=by
    intro hp E' w' hx
    constructor
    ·intro ho;rcases hx.own l ho with h|h
     ·exact hOl h
     ·omega
    ·intro hs;rcases hx.jC l hs with h|h|h
     ·exact hSl h
     ·exact hOl h
     ·omega
   obtain⟨n1,n2⟩:=notO q4
   refine⟨w2.putObj l (.loop {dT fn a.tmps ps assign body D jl 0 with state:=.busy}),run_beginRound hrec2 rfl,?_⟩
   have g2:=q3.frame (o:=.loop {dT fn a.tmps ps assign body D jl 0 with state:=.busy}) n2 n1
   refine wpIn_mono (q2 E2 a2 _ g2) ?_
   rintro ex a3 w3 ⟨x3,σ3,E3,r1,r2,r3,r4⟩
   have lt2:l<w2.heap.size:=(Array.getElem?_eq_some_iff.1 hrec2).1
   have hbusy:w3.heap[l]? =some (.loop {dT fn a.tmps ps assign body D jl 0 with state:=.busy}):=by
    rw[r4.kept l (by simpa using lt2) n1]
    exact World.putObj_heap_same lt2
   have fin:∀(jump:Option Code),jump=jmp jl j→(jump.isNone=Nat.beq j 0)→(∃σ' mm,Wk (gl.oF l) σ3 σ'∧prune σ'.hp mm=H')→
    ∃v w',(Instr.endRound l jump).run P w3= .ok v w'∧∃E',rY E' w' (.ret (.val .bool (Nat.beq j 0))) (.returned v)∧HW (gl.wB B hB) E' w' ((tie gs ti 0 H').set k0 (some (.lp ⟨l,gs,dT fn a.tmps ps assign body D jl⟩ j)))∧
     Ext gl.md (Own ((tie gs ti 0 H).set k0 (some (.lp ⟨l,gs,dT fn a.tmps ps assign body D jl⟩ 0))) E1) E1 w1 (Own ((tie gs ti 0 H').set k0 (some (.lp ⟨l,gs,dT fn a.tmps ps assign body D jl⟩ j))) E') E' w':=by
    rintro jump hj hjn ⟨σ4,mm,hwk,hpr⟩
    obtain⟨E4,g4,x4⟩:=hwk E3 a3 w3 r3
    have hlt3:l<w3.heap.size:=(Array.getElem?_eq_some_iff.1 hbusy).1
    have hnew:({({dT fn a.tmps ps assign body D jl 0 with state:=.busy}:Loop) with state:=if jump.isNone then .ready else .done,pending:=jump}:Loop)=dT fn a.tmps ps assign body D jl j:=by
     subst hj
     simp only[dT,hjn]
    have hend:=run_endRound (P:=P) jump hbusy
    rw[hnew,hjn] at hend
    have X:=((((q4.add l).trans (Ext.put (o:=.loop {dT fn a.tmps ps assign body D jl 0 with state:=.busy}) (Or.inr rfl))).trans (r4.add l)).trans (x4.add l)).trans (Ext.put (o:=.loop (dT fn a.tmps ps assign body D jl j)) (Or.inr rfl))
    have w4:HW (gl.oF l) E4 w3 H':=by rw[←hpr];exact g4.hw.prune mm
    have sub4:∀g,Own H' E4 g→Own σ4.hp E4 g:=by
     rintro g ⟨b,k,hb,hgb⟩
     rw[←hpr] at hb
     exact⟨b,k,gG hb,hgb⟩
    have n4:¬Own H' E4 l∧¬E4.S l:=by
     have hx:Ext gl.md (Own H E1) E1 w1 (Own σ2.hp E2) E2 w2:=q4
     obtain⟨m1,m2⟩:=notO hx
     have m3:¬Own σ3.hp E3 l∧¬E3.S l:=by
      constructor
      ·intro ho;rcases r4.own l ho with h|h
       ·exact m1 h
       ·simp at h;omega
      ·intro hs;rcases r4.jC l hs with h|h|h
       ·exact m2 h
       ·exact m1 h
       ·simp at h;omega
     constructor
     ·intro ho;rcases x4.own l (sub4 l ho) with h|h
      ·exact m3.1 h
      ·omega
     ·intro hs;rcases x4.jC l hs with h|h|h
      ·exact m3.2 h
      ·exact m3.1 h
      ·omega
    obtain⟨kp,wf⟩:=w4.frame (o:=.loop (dT fn a.tmps ps assign body D jl j)) n4.2 n4.1
    have gk0:E4.g k0=some l:=by rw[(X.zX k0 hk16).1];exact hgl
    have at4:∀(i:Nat)(k:aI),((tie gs ti 0 H').set k0 (some (.lp ⟨l,gs,dT fn a.tmps ps assign body D jl⟩ j)))[i]? =some (some k)→(i=k0∧k= .lp ⟨l,gs,dT fn a.tmps ps assign body D jl⟩ j)∨(i≠k0∧∃k',H'[i]? =some (some k')∧k=kq gs ti i k'):=by
     intro i k hi
     rw[List.getElem?_set] at hi
     split at hi
     ·rename_i e
      first
       |(cases hi;exact Or.inl ⟨e.symm,rfl⟩)
       |(split at hi<;>cases hi;exact Or.inl ⟨e.symm,rfl⟩)
     ·rename_i e
      obtain⟨k',h1,h2⟩:=fK hi
      rw[Nat.zero_add] at h2
      exact Or.inr ⟨fun e'=>e e'.symm,k',h1,h2⟩
    have ne4:∀(i:Nat)(k:aI),H'[i]? =some (some k)→¬E4.has i l:=fun i k hi e=>n4.1 ⟨i,k,hi,e⟩
    obtain⟨E5,hE5⟩:∃E5:Env,E5={E4 with P:=fun b g=>b≠k0∧E4.P b g}:=⟨_,rfl⟩
    have e5g:∀b,E5.g b=E4.g b:=fun b=>by rw[hE5]
    have e5S:E5.S=E4.S:=by rw[hE5]
    have e5h:∀b g,E5.has b g→E4.has b g:=fun b g h=>h.imp (fun x=>by rw[←e5g];exact x) (fun x=>by rw[hE5] at x;exact x.2)
    have e5k:∀g,E5.has k0 g→g=l:=fun g h=>by
     rcases h with h|h
     ·rw[e5g,gk0] at h;cases h;rfl
     ·rw[hE5] at h;exact absurd rfl h.1
    have kp5:∀w:World,bC E4 w E5 w:=fun w=>⟨fun _ _=>rfl,fun g hg=>by rw[e5S];exact hg⟩
    refine⟨_,_,hend,E5,RV.bool,⟨?_,?_,?_,fun g hg=>wf.slt g (by rw[←e5S];exact hg),⟨fun x hx=>?_,?_⟩,?_⟩,?_⟩
    ·intro i k hi
     rcases at4 i k hi with⟨e1,e2⟩|⟨hne,k',h1,h2⟩
     ·subst e1;subst e2
      exact⟨by rw[e5g];exact gk0,World.putObj_heap_same hlt3⟩
     ·subst h2
      exact RB.mono (kp5 _) (fun b _=>by rw[hE5];exact⟨rfl,rfl,rfl⟩) (fun _ _=>rfl) (fun _ g hg=>by rw[hE5];exact⟨hne,hg⟩) ((wf.cj i k' h1).tie (fun hh=>by obtain⟨c1,c2⟩:=hgi i hh;rw[(X.zX i c1).1];exact c2))
    ·intro i i' k k' g hi hi' j1 j2
     rcases at4 i k hi with⟨e1,e2⟩|⟨hne,k2,h1,h2⟩
     ·rcases at4 i' k' hi' with⟨e1',e2'⟩|⟨hne',k2',h1',h2'⟩
      ·rw[e1,e1']
      ·subst e1;exact absurd (e5h _ _ (e5k g j1▸j2)) (ne4 i' k2' h1')
     ·rcases at4 i' k' hi' with⟨e1',e2'⟩|⟨hne',k2',h1',h2'⟩
      ·subst e1';exact absurd (e5h _ _ (e5k g j2▸j1)) (ne4 i k2 h1)
      ·exact wf.dc i i' k2 k2' g h1 h1' (e5h _ _ j1) (e5h _ _ j2)
    ·intro i k g hi g1
     rw[e5S]
     rcases at4 i k hi with⟨e1,e2⟩|⟨hne,k2,h1,h2⟩
     ·subst e1;exact(e5k g g1)▸n4.2
     ·exact wf.cN i k2 g h1 (e5h _ _ g1)
    ·obtain⟨y1,y2⟩:=wf.gl.1 x hx
     rw[e5S];exact⟨y1,y2⟩
    ·refine hB ?_ (fun b hb=>by rw[e5S];exact X.sle b hb) hW.gl.2
     intro b hb
     refine X.kept b (hW.slt b hb) ?_
     rintro(⟨i,k,hi,hgi'⟩|e)
     ·exact hW.cN i _ b (at1 i k hi).2 hgi' hb
     ·subst e;exact hSl hb
    ·intro i k g hi g1
     rcases at4 i k hi with⟨e1,e2⟩|⟨hne,k2,h1,h2⟩
     ·subst e1;rw[hE5] at g1;exact absurd rfl g1.1
     ·exact wf.nT i k2 g h1 (by rw[hE5] at g1;exact g1.2)
    ·refine⟨X.os,X.tape,X.output,X.size,?_,fun g hg=>by rw[e5S];exact X.sle g hg,?_,?_,fun b hb=>by rw[hE5];exact X.zX b hb⟩
     ·intro g hgl' ho
      refine X.kept g hgl' ?_
      rintro(⟨i,k,hi,hgi'⟩|e)
      ·exact ho ⟨i,_,(at1 i k hi).2,hgi'⟩
      ·subst e;exact ho ⟨k0,_,hlp,Or.inl hgl⟩
     ·intro g hs
      rw[e5S] at hs
      rcases X.jC g hs with h|h|h
      ·exact Or.inl h
      ·rcases h with⟨i,k,hi,hgi'⟩|e
       ·exact Or.inr (Or.inl ⟨i,_,(at1 i k hi).2,hgi'⟩)
       ·subst e;exact Or.inr (Or.inl ⟨k0,_,hlp,Or.inl hgl⟩)
      ·exact Or.inr (Or.inr h)
     ·rintro g ⟨i,k,hi,hgi'⟩
      have:Own σ4.hp E4 g∨g=l:=by
       rcases at4 i k hi with⟨e1,e2⟩|⟨hne,k2,h1,h2⟩
       ·subst e1;exact Or.inr (e5k g hgi')
       ·exact Or.inl (sub4 g ⟨i,k2,h1,e5h _ _ hgi'⟩)
      rcases X.own g this with h|h
      ·rcases h with⟨i,k,hi,hgi'⟩|e
       ·exact Or.inl ⟨i,_,(at1 i k hi).2,hgi'⟩
       ·subst e;exact Or.inl ⟨k0,_,hlp,Or.inl hgl⟩
      ·exact Or.inr h
   cases ex with
   |
    normal=>
    cases x3 with
    |normal=>obtain⟨e,hh⟩:=r2;subst e;exact fin none rfl rfl hh
    |_=>exact r1.elim
   |
    ret=>
    cases x3 with
    |
     ret=>
     obtain⟨⟨e,e2⟩,hh⟩:=r2
     exact fin (some .ret) e2.symm (by cases j with|zero=>exact absurd rfl e|succ j=>rfl) hh
    |_=>exact r1.elim
   |
    exit i=>
    cases x3 with
    |
     exit i'=>
     have e0:i'=i:=r1
     subst e0
     obtain⟨⟨e,e2⟩,hh⟩:=r2
     exact fin (some (.exit i')) e2.symm (by cases j with|zero=>exact absurd rfl e|succ j=>rfl) hh
    |_=>exact r1.elim
   |panic chain=>cases x3<;>first|exact r1.elim|exact r2.elim
   |goto t=>cases x3<;>exact r1.elim
   |outgrown=>cases x3<;>exact r1.elim
  |_=>exact q1.elim
 |ret=>cases x<;>first|exact q1.elim|exact q2.elim
 |exit i=>cases x<;>first|exact q1.elim|exact q2.elim
 |panic chain=>cases x<;>first|exact q1.elim|exact q2.elim
 |goto t=>cases x<;>exact q1.elim
 |outgrown=>cases x<;>exact q1.elim
end Go.Ax
namespace Go.Ax
def yY(P:Program)(gl:Ctx)(tm:List AV)(ps:Array Tmp)(assign body:Code)(k0:Nat)(ti:List (Nat×Ty))(m:List (Nat×Nat))(jl:List Code)(C:Ctx)(y:YC):Prop:=
 ∀(args:List AV)(H H':List (Option aI))(j:Nat),ps.size=args.length→H[k0]? =some none→H'[k0]? =some none→mI H ti=true→mI H' ti=true→
  cw P (gl.oF y.l) assign ⟨lh (ps.toList.zip args) (Cd m tm),H,[]⟩ (L5 P (gl.oF y.l) body (L7 (gl.oF y.l) jl j H'))→
  Fy P C y.l args ((tie y.gs ti 0 H).set k0 (some (.lp y 0))) (.ret (.val .bool (Nat.beq j 0))) ((tie y.gs ti 0 H').set k0 (some (.lp y j)))
def SC(gs:Nat→Nat)(m:List (Nat×Nat))(b:Nat):Nat:=match iY m b with|some i=>gs i|none=>0
def L8:List (Nat×Nat)→List (Nat×Ty)
 |[]=>[]
 |(b,_)::l=>(b,.unit)::L8 l
theorem w8{b:Nat}:∀{m:List (Nat×Nat)},jO b (L8 m)=true→∃i,iY m b=some i
 |[],h=>by cases h
 |
  (c,i)::l,h=>by
  simp only[L8,jO,Bool.or_eq_true] at h
  unfold iY
  split
  ·exact⟨i,rfl⟩
  ·rename_i hn
   rcases h with h|h
   ·exact absurd (by rw[Nat.eq_of_beq_eq_true h];exact Nat.beq_refl c) hn
   ·exact w8 h
def L9(hp:List (Option aI))(ti:List (Nat×Ty)):List (Nat×Nat)→Bool
 |[]=>true
 |(b,i)::l=>(match hp[b]? with|some (some (.var t _))=>jO i ti&&(ti.all fun x=> !Nat.beq x.1 i||Ty.same x.2 t)|_=>false)&&L9 hp ti l
theorem DY{hp:List (Option aI)}{ti:List (Nat×Ty)}:∀{m:List (Nat×Nat)},L9 hp ti m=true→∀b i,(b,i)∈m→jO i ti=true∧∃t v,hp[b]? =some (some (.var t v))∧∀t',(i,t')∈ti→t'=t
 |[],_,b,i,h=>by cases h
 |
  (c,k)::l,hm,b,i,h=>by
  simp only[L9,Bool.and_eq_true] at hm
  rcases List.mem_cons.1 h with e|h
  ·cases e
   have h1:=hm.1
   split at h1
   ·rename_i t v hv
    simp only[Bool.and_eq_true,List.all_eq_true] at h1
    refine⟨h1.1,t,v,hv,fun t' ht'=>?_⟩
    have:=h1.2 _ ht'
    simp at this
    exact Ty.aA this
   ·cases h1
  ·exact DY hm.2 b i h
def Ce:List (Option aI)→List (Option aI)
 |[]=>[]
 |some (.tv _ t v)::l=>some (.var t v)::Ce l
 |x::l=>x::Ce l
theorem iz:∀{l:List (Option aI)}{i:Nat}{k:aI},(Ce l)[i]? =some (some k)→∃k',l[i]? =some (some k')∧(k'=k∨∃g t v,k'= .tv g t v∧k= .var t v)
 |[],i,k,h=>by simp[Ce] at h
 |
  x::l,0,k,h=>by
  unfold Ce at h
  split at h
  ·cases(by assumption:_=_)
  ·rename_i heq;cases heq;simp at h;exact⟨_,rfl,Or.inr ⟨_,_,_,rfl,h.symm⟩⟩
  ·rename_i heq;cases heq;simp at h;exact⟨k,by simp[h],Or.inl rfl⟩
 |
  x::l,i+1,k,h=>by
  unfold Ce at h
  split at h
  ·cases(by assumption:_=_)
  ·rename_i heq;cases heq;simpa using iz (by simpa using h)
  ·rename_i heq;cases heq;simpa using iz (by simpa using h)
theorem bO.Ce{gl:Ctx}{σ:St}{E:Env}{a:Act}{w:World}(h:bO gl σ E a w):bO gl {σ with hp:=Ax.Ce σ.hp} E a w∧Ext gl.md (Own σ.hp E) E w (Own (Ax.Ce σ.hp) E) E w:=by
 refine⟨⟨h.len,h.tm,⟨?_,?_,?_,h.hw.slt,h.hw.gl,?_⟩,h.df⟩,{Ext.refl (Own σ.hp E) E w with own:=?_ }⟩
 ·intro b k hb
  obtain⟨k',h1,h2⟩:=iz hb
  have:=h.hw.cj b k' h1
  rcases h2 with e|⟨g,t,v,e1,e2⟩
  ·rw[←e];exact this
  ·subst e1;subst e2
   obtain⟨q0,q1,q2,c,e,q4,q5⟩:=this
   exact⟨q1,q2,g,c,e,q0,q4,q5⟩
 ·intro b b' k k' g hb hb' g1 g2
  obtain⟨k1,h1,_⟩:=iz hb
  obtain⟨k2,h2,_⟩:=iz hb'
  exact h.hw.dc b b' k1 k2 g h1 h2 g1 g2
 ·intro b k g hb g1
  obtain⟨k1,h1,_⟩:=iz hb
  exact h.hw.cN b k1 g h1 g1
 ·intro b k g hb g1
  obtain⟨k1,h1,_⟩:=iz hb
  exact h.hw.nT b k1 g h1 g1
 ·rintro g ⟨b,k,hb,g1⟩
  obtain⟨k1,h1,_⟩:=iz hb
  exact Or.inl ⟨b,k1,h1,g1⟩
theorem bO.tie{gl:Ctx}{σ:St}{E:Env}{a:Act}{w:World}(h:bO gl σ E a w){gs:Nat→Nat}{ti:List (Nat×Ty)}(hg:∀b,jO b ti=true→E.g b=some (gs b)):bO gl {σ with hp:=Ax.tie gs ti 0 σ.hp} E a w∧Ext gl.md (Own σ.hp E) E w (Own (Ax.tie gs ti 0 σ.hp) E) E w:=by
 refine⟨⟨h.len,h.tm,⟨?_,?_,?_,h.hw.slt,h.hw.gl,?_⟩,h.df⟩,{Ext.refl (Own σ.hp E) E w with own:=?_ }⟩
 ·intro b k hb
  obtain⟨k',h1,h2⟩:=fK hb
  rw[Nat.zero_add] at h2
  subst h2
  exact(h.hw.cj b k' h1).tie (hg b)
 ·intro b b' k k' g hb hb' g1 g2
  obtain⟨k1,h1,_⟩:=fK hb
  obtain⟨k2,h2,_⟩:=fK hb'
  exact h.hw.dc b b' k1 k2 g h1 h2 g1 g2
 ·intro b k g hb g1
  obtain⟨k1,h1,_⟩:=fK hb
  exact h.hw.cN b k1 g h1 g1
 ·intro b k g hb g1
  obtain⟨k1,h1,_⟩:=fK hb
  exact h.hw.nT b k1 g h1 g1
 ·rintro g ⟨b,k,hb,g1⟩
  obtain⟨k1,h1,_⟩:=fK hb
  exact Or.inl ⟨b,k1,h1,g1⟩
theorem yZ{σ:St}{d e:Nat}{k:aI}(hk:k.ids= [])(h:σ.fresh d)(hne:d≠e):({σ with hp:=σ.hp.set e (some k)}:St).fresh d:=by
 have h1:=jf.1 h.1
 refine⟨jf.2 ⟨h1.1,h1.2.1,?_⟩,?_,h.2.2⟩
 ·intro i k' hi
  rw[List.getElem?_set] at hi
  split at hi
  ·split at hi
   ·cases hi;rw[hk];simp
   ·cases hi
  ·exact h1.2.2 i k' hi
 ·intro k' hi
  rw[List.getElem?_set,if_neg (fun x=>hne x.symm)] at hi
  exact h.2.1 k' hi
def nB(y:YC)(m:List (Nat×Nat))(dI lI:Nat)(hp:List (Option aI)):List (Option aI):=tie (SC y.gs m) (L8 m) 0 ((hp.set dI (some .qf)).set lI (some (.lp y 0)))
structure SD(σ:St)(y:YC)(m:List (Nat×Nat))(dI lI j:Nat)(cs:AV)(cr:CR)(L:List AV)(ins:List (Nat×Option aI))(hpF:List (Option aI)):Prop where
 hr:cr.r= .eU .nil
 hL:jK (swp cr.al) (dx (nB y m dI lI σ.hp)) (((.func (.yield y.l) .nil .nil,Ty.unit))::cs.toList.map (fun x=>(x,Ty.unit)))=some (L,[])
 gz:fZ (swp cr.al) (dx (nB y m dI lI σ.hp)) cr.ps=some ins
 eM:uC cr []=true
 Ma:((cr.ns.map (·.2)).all (fun b=>({σ with hp:=nB y m dI lI σ.hp,df:=.mp dI::σ.df}:St).dQ b))=true
 VU:(aL (nB y m dI lI σ.hp) (jM (cr.al++cr.ns) cr.out (cr.ps++cr.ns)))[lI]? =some (some (.lp y j))
 VV:Ce ((aL (nB y m dI lI σ.hp) (jM (cr.al++cr.ns) cr.out (cr.ps++cr.ns))).set lI none)=hpF
theorem cw.rangeFunc{P:Program}{gl:Ctx}{σ:St}{Q:eo→St→Prop}{g:Operand}{ps:Array Tmp}{assign body:Code}(hro:gl.ro=none){gf:FuncId}{cs:AV}(hg:bw gl σ.tm g= .func (.func gf) .nil cs)
 (dI lI k0:Nat) (hd:σ.dQ dI=true) (hl:σ.dQ lI=true) (hne:Nat.beq dI lI=false) (hk:Nat.blt k0 16=true)
 (ti:List (Nat×Ty)) (m:List (Nat×Nat)) (hkt:jO k0 ti=false) (hm:L9 σ.hp ti m=true) (hmn:iG (m.map (·.2))=true) (jl:List Code) (hcs:cs.atoms=true)
 (hy:∀y:YC,∃j cr L ins hpF,SD σ y m dI lI j cs cr L ins hpF∧
  (∀B hB,yY P gl σ.tm ps assign body k0 ti m jl (gl.wB B hB) y→Fc P (gl.wB B hB) gf L (aL (List.replicate cr.m none) ins) (.ret (.eU .nil)) (cJ cr.m cr.out))∧
  (match jmp jl j with|none=>Q .normal ⟨σ.tm,hpF,.mp dI::σ.df⟩|some c=>cw P gl c ⟨σ.tm,hpF,.mp dI::σ.df⟩ Q)):cw P gl (.rangeFunc g ps assign body) σ Q:=by
 intro E a w hG
 refine wpIn_rangeFunc ?_
 intro fn _
 have hfd:=St.cY hd
 have hfl:=St.cY hl
 have hnd:lI≠dI:=fun e=>by subst e;simp at hne
 obtain⟨rec,hrec⟩:∃rec:Nat→Loop,rec=dT fn a.tmps ps assign body w.heap.size jl:=⟨_,rfl⟩
 have hrec0:rec 0={state:=.ready,pending:=none,fn:=fn,tmps:=a.tmps,params:=ps,assign:=assign,body:=body,defers:=w.heap.size}:=by rw[hrec];rfl
 obtain⟨gs,hgs⟩:∃gs:Nat→Nat,gs=fun i=>match iY (swp m) i with|some b=>(E.g b).getD 0|none=>0:=⟨_,rfl⟩
 obtain⟨j,cr,L,ins,hpF,⟨hr,hL,gz,eM,Ma,VU,VV⟩,hit,hq⟩:=hy ⟨w.heap.size+1,gs,rec⟩
 obtain⟨g1,x1⟩:=hG.fresh (w':=w.alloc (.deferred (some []))) hfd (g:=some w.heap.size) (sv:=undef) (t:=.unit) (k:=.qf) rfl (Tp.r rfl rfl) rfl (by simp) (fun i hi=>heap_alloc_old w _ hi) (fun i hi=>by cases hi;exact Nat.le_refl _)
  ⟨w.heap.size,by simp[Env.at],heap_alloc_new w _⟩
 have hs1:(w.alloc (.deferred (some []))).heap.size=w.heap.size+1:=by simp
 obtain⟨g2,x2⟩:=g1.fresh (w':=(w.alloc (.deferred (some []))).alloc (.loop (rec 0))) (d:=lI) (yZ rfl hfl hnd) (g:=some (w.heap.size+1)) (sv:=undef) (t:=.unit) (k:=.lp ⟨w.heap.size+1,gs,rec⟩ 0) rfl (Tp.r rfl rfl) rfl (by simp) (fun i hi=>heap_alloc_old _ _ hi) (fun i hi=>by cases hi;rw[hs1];exact Nat.le_refl _)
  ⟨by simp[Env.at],by have:=heap_alloc_new (w.alloc (.deferred (some []))) (.loop (rec 0));rw[hs1] at this;exact this⟩
 generalize hw2:(w.alloc (.deferred (some []))).alloc (.loop (rec 0))=w2 at g2 x2
 generalize hE2:(E.at dI (some w.heap.size) undef .unit).at lI (some (w.heap.size+1)) undef .unit=E2 at g2 x2
 have hE2g:∀b,b≠dI→b≠lI→E2.g b=E.g b:=fun b h1 h2=>by rw[←hE2];simp[Env.at,h1,h2]
 have hE2d:E2.g dI=some w.heap.size:=by rw[←hE2];simp[Env.at,Ne.symm hnd]
 have hE2S:E2.S=E.S:=by rw[←hE2];rfl
 have Nz:=x1.trans x2
 have hmu:∀b i,iY m b=some i→jO i ti=true∧E.g b=some (gs i)∧(∀t,(i,t)∈ti→E.bt b=t)∧b≠dI∧b≠lI:=by
  intro b i hbi
  have hmem:=mS hbi
  obtain⟨h1,t,v,h2,h3⟩:=DY hm b i hmem
  obtain⟨r1,r2,gg,c,e,r3,_⟩:=hG.hw.cj b _ h2
  have hlk:iY (swp m) i=some b:=dn (by have:=eA hmn;simpa[swp,List.map_map,Function.comp_def] using this) (gD.2 hmem)
  refine⟨h1,by rw[hgs];simp only[hlk,r3];rfl,fun t' ht'=>by rw[h3 t' ht'];exact r1,fun e=>?_,fun e=>?_⟩
  ·subst e;exact hfd.2.1 _ h2
  ·subst e;exact hfl.2.1 _ h2
 obtain⟨g3,x3⟩:=g2.tie (gs:=SC gs m) (ti:=L8 m) (by
  intro b hb
  obtain⟨i,hi⟩:=w8 hb
  obtain⟨_,h2,_,h4,h5⟩:=hmu b i hi
  rw[hE2g b h4 h5,h2];simp[SC,hi])
 have g4:bO gl ⟨σ.tm,nB ⟨w.heap.size+1,gs,rec⟩ m dI lI σ.hp,.mp dI::σ.df⟩ E2 {a with defers:={target:=.collected w.heap.size,args:= #[]}::a.defers} w2:=
  ⟨g3.len,g3.tm,g3.hw,⟨⟨w.heap.size,hE2d,rfl⟩,g3.df⟩⟩
 have hv0:=eI g4 g
 simp only at hv0
 rw[hg] at hv0
 obtain⟨f',c',hev,r1,r2,_,_⟩:=RV.atom rfl hv0
 simp at hev
 have hf':f'= #[]:=by apply Array.ext';exact r1
 subst hf'
 have hav:a.eval g= .func (.func gf) #[] c':=by rw[←hev];cases g<;>rfl
 obtain⟨B,hBd⟩:∃B:(Nat→Prop)→World→Prop,B=fun S' w'=>(∀b,E.S b→S' b)∧(∀b,E.S b→w'.heap[b]? =w.heap[b]?):=⟨_,rfl⟩
 have hB:∀{S S':Nat→Prop}{w w':World},(∀b,S b→w'.heap[b]? =w.heap[b]?)→(∀b,S b→S' b)→B S w→B S' w':=by
  intro S S' w0 w0' h1 h2 h3
  rw[hBd] at h3 ⊢
  exact⟨fun b hb=>h2 b (h3.1 b hb),fun b hb=>by rw[h1 b (h3.1 b hb)];exact h3.2 b hb⟩
 have hof:yY P gl σ.tm ps assign body k0 ti m jl (gl.wB B hB) ⟨w.heap.size+1,gs,rec⟩:=by
  intro args H H' j' h1 h2 h3 h4 h5 h6
  rw[hrec]
  exact Fy.G7 hG (fun S' w' h=>by rw[hBd] at h;exact h) (fun b i hbi=>⟨(hmu b i hbi).1,(hmu b i hbi).2.1,(hmu b i hbi).2.2.1⟩) h1 hk hkt h2 h3 h4 h5 h6
 obtain⟨aat,hfn⟩:=hit B hB hof
 have hbb:=bX (nB ⟨w.heap.size+1,gs,rec⟩ m dI lI σ.hp)
 obtain⟨hφ,hwi⟩:=pn (lent:=[]) g4 hbb (fun b hb=>by cases hb) (gz) (eM)
 have hargs:iW E2 w2 ((((.func (.yield (w.heap.size+1)) .nil .nil,Ty.unit))::cs.toList.map (fun x=>(x,Ty.unit))).map (·.1)) (Value.func (.yield (w.heap.size+1)) #[] #[]::c'.toList):=by
  refine⟨RV.de (Or.inr ⟨rfl, #[], #[],rfl,rfl,rfl,rfl,rfl⟩),?_⟩
  have:=iW.atoms hcs r2
  have e1:∀l:List AV,(l.map (fun x=>(x,Ty.unit))).map (fun x:AV×Ty=>x.1)=l:=by intro l;induction l<;>simp_all
  rw[e1];exact this
 have hv:=kA g4.hw hbb hφ (hL) (fun g hg=>hg) hargs
 have hSe:(E2.cu []).S=fun g=>E.S g∨∃b∈([]:List Nat),E2.g b=some g:=by simp only[Env.cu,hE2S]
 have hwB:HW (gl.wB B hB) (E2.to cr.al (E2.cu []).S) w2 (aL (List.replicate cr.m none) (ins)):=by
  refine hwi.ctx rfl ?_
  show B _ w2
  rw[hBd]
  refine⟨fun b hb=>by show(E2.cu []).S b;rw[hSe];exact Or.inl hb,fun b hb=>?_⟩
  exact Nz.kept b (hG.hw.slt b hb) (fun⟨c,k,hc,hgc⟩=>hG.hw.cN c k b hc hgc hb)
 have hcalls:=hfn _ w2 _ hv hwB
 refine⟨w.heap.size+1,[{target:=.collected w.heap.size,args:= #[]}],w2,{target:=.fn (.func gf) c',args:= #[.func (.yield (w.heap.size+1)) #[] #[]]},w2,gf, #[.func (.yield (w.heap.size+1)) #[] #[]]++c',w2,?_,?_,fun _ _=>trivial,?_,fun h=>(by cases h),?_⟩
 ·rw[show(Wd gl).round=none from hro,run_enterLoop_outer,←hw2,hrec0]
 ·simp only[resolve,hav]
  simp[go_sem]
 ·simp[invoke,aat]
 ·have e0:(Value.func (.yield (w.heap.size+1)) #[] #[]::c'.toList).toArray= #[.func (.yield (w.heap.size+1)) #[] #[]]++c':=by apply Array.ext';simp
  rw[e0] at hcalls
  have h1:CallsIn Fence.wide 0 P gf _ w2 _:=callsIn_wide.2 hcalls
  refine CallsIn.mono (F:=Wd gl) h1 ?_
  rintro ed w3 ⟨E',hR,hW',hX⟩
  cases ed with
  |panicked ch=>exact hR.elim
  |outgrown=>exact hR.elim
  |
   returned v=>
   have hWg:HW gl E' w3 (cJ cr.m cr.out):=by
    refine hW'.ctx rfl ?_
    have hbs:B E'.S w3:=hW'.gl.2
    rw[hBd] at hbs
    exact gl.mono hbs.2 hbs.1 hG.hw.gl.2
   have hfr:∀b∈cr.ns.map (·.2),(⟨σ.tm,nB ⟨w.heap.size+1,gs,rec⟩ m dI lI σ.hp,.mp dI::σ.df⟩:St).fresh b:=by
    have:=Ma
    rw[List.all_eq_true] at this
    exact fun b hb=>St.cY (this b hb)
   have hrr:=hr
   obtain⟨E3,k1,_,k3⟩:=iQ (lent:=[]) g4 hbb (fun b hb=>by cases hb) (gz) (eM) hfr hWg hX (r':=.eU .nil) (by rw[hrr];rfl) (v:=v) (by rw[hrr];exact hR)
   have f1:=VU;have f2:=VV
   obtain⟨q1,q2⟩:=k1.hw.cj lI _ f1
   obtain⟨k4,x4⟩:=k1.shut f1 q1 (.loop {rec j with state:=.exhausted})
   obtain⟨k5,x5⟩:=k4.Ce
   simp only[f2] at k5 x5
   have hst:(rec j).state≠.busy:=by rw[hrec];simp only[dT];split<;>simp
   refine⟨(rec j).pending,_,run_endLoop q2 hst,?_⟩
   have hpe:(rec j).pending=jmp jl j:=by rw[hrec];rfl
   have X:=(((Nz.trans x3).trans k3).trans x4).trans x5
   generalize hwF:w3.putObj (w.heap.size+1) (.loop {rec j with state:=.exhausted})=wF at k5 X
   generalize (rec j).pending=pe at hpe
   subst hpe
   revert hq
   cases jmp jl j with
   |
    none=>
    intro hq
    exact⟨.normal,_,E3,trivial,hq,k5,X⟩
   |
    some c=>
    intro hq
    refine wpIn_mono (hq E3 _ _ k5) ?_
    rintro ex a5 w5 ⟨x,σ5,E5,z1,z2,z3,z4⟩
    exact⟨x,σ5,E5,z1,z2,z3,X.trans z4⟩
end Go.Ax
namespace Go.Ax
theorem Fc.up{P:Program}{C C':Ctx}{f:FuncId}{A:List AV}{H H':List (Option aI)}{r:rz}(hg:C'.gl=C.gl)(hC:∀S w,C.B S w)(h:Fc P C f A H r H')(hm:C'.md=C.md:=by rfl):Fc P C' f A H r H':=by
 refine⟨h.1,fun E w vs hv hw=>?_⟩
 have:=h.2 E w vs hv (hw.ctx hg.symm (hC _ _))
 intro cs
 obtain⟨e,w',fr,⟨E',r1,r2,r3⟩,rest⟩:=this cs
 rw[←hm] at r3
 exact⟨e,w',fr,⟨E',r1,r2.ctx hg (hw.eD (hw.kept r3)).2,r3⟩,rest⟩
end Go.Ax
