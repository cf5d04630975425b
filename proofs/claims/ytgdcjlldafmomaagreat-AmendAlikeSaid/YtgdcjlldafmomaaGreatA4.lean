/- The machines: what it means to be walked or run, part 4. No condition. -/
import Derived.Test.YtgdcjlldafmomaaGreatA3
import Derived.Laws.Cover3
import Derived.RangeFuncRecord
namespace Go.Ax
def Ny(d:Nat)(x:AV):Bool:=x.ids.all fun c=> !Nat.beq c d
def lL(b d:Nat)(x:AV):Option AV:=if mu b x&&Ny d x then some x else none
theorem Ft{d:Nat}{x:AV}(h:Ny d x=true):∀c∈x.ids,c≠d:=fun c hc e=>by
 simp only[Ny,ky] at h
 have:=h c hc
 subst e;simp at this
def Env.pull(E:Env)(b d:Nat)(og:Option Nat)(v:Value)(td tb:Ty):Env where
 g:=fun c=>if c=d then og else E.g c
 sv:=fun c=>if c=d then v else E.sv c
 bt:=fun c=>if c=d then td else if c=b then tb else E.bt c
 S:=E.S
 P:=fun c x=>c≠d∧E.P c x∧(c=b→og≠some x)
theorem Env.Cu{E:Env}{b d:Nat}{og:Option Nat}{v:Value}{td tb:Ty}{c:Nat}(h1:c≠d)(h2:c≠b):(E.pull b d og v td tb).g c=E.g c∧(E.pull b d og v td tb).sv c=E.sv c∧(E.pull b d og v td tb).bt c=E.bt c:=by simp[Env.pull,h1,h2]
theorem Env.mw{E:Env}{b d:Nat}{og:Option Nat}{v:Value}{td tb:Ty}{c x:Nat}(h:c≠d)(k:(E.pull b d og v td tb).has c x):E.has c x:=by
 rcases k with k|k
 ·exact Or.inl (by simpa[Env.pull,h] using k)
 ·exact Or.inr k.2.1
theorem Env.pn{E:Env}{b d:Nat}{og:Option Nat}{v:Value}{td tb:Ty}{x:Nat}(k:(E.pull b d og v td tb).has d x):og=some x:=by
 rcases k with k|k
 ·simpa[Env.pull] using k
 ·exact absurd rfl k.1
theorem IP{E:Env}{w:World}{b d:Nat}{og:Option Nat}{v:Value}{td tb:Ty}{x:AV}{vs:List Value}(h1:mu b x=true)(h2:Ny d x=true)(hr:RC E w x vs):RC (E.pull b d og v td tb) w x vs:=by
 have:=Fs (t:=tb) h1 hr
 refine RC.mono (E:=E.re b tb) (E':=E.pull b d og v td tb) (w:=w) ⟨fun _ _=>rfl,fun _ h=>h⟩ (fun c hc=>?_) this
 have hne:=Ft h2 c hc
 simp[Env.pull,Env.re,hne]
theorem Fu{E:Env}{w:World}{b d:Nat}{og:Option Nat}{v:Value}{td tb:Ty}:Good E (E.pull b d og v td tb) w (lL b d) where
 rc:=by
  intro x y vs h hr
  unfold lL at h
  split at h
  ·rename_i hn;cases h
   simp only[aV] at hn
   exact IP hn.1 hn.2 hr
  ·cases h
 agg:=by
  intro x y h
  unfold lL at h
  split at h
  ·cases h;rfl
  ·cases h
 mp:=by
  intro c y h
  unfold lL at h
  split at h
  ·rename_i hn
   cases h
   simp only[aV] at hn
   have:=Ft hn.2 c (by simp[AV.ids])
   simp[Env.pull,this]
  ·cases h
 fn:=by
  intro fn fs cs y h
  unfold lL at h
  split at h
  ·rename_i hn
   cases h
   simp only[aV,mu] at hn
   have h2:=hn.2
   simp only[Ny,AV.ids,List.all_append,aV] at h2
   exact⟨fs,cs,rfl,by unfold lL;rw[aA];simp only[aV];exact⟨hn.1.1.1.1,h2.1⟩,by unfold lL;rw[aA];simp only[aV];exact⟨hn.1.1.1.2,h2.2⟩,hn.1.1.2,hn.1.2⟩
  ·cases h
theorem cd.pull{gl:Ctx}{σ:St}{E:Env}{a:Act}{w:World}(hg:cd gl σ E a w){b d:Nat}{k k1 k2:aN}{og:Option Nat}{v:Value}{td tb:Ty}{σ1:St}(hb:σ.hp[b]? =some (some k))(h16:16≤b)(hbd:b≠d)(hd:σ.fresh d)
 (hP:∀x,og=some x→E.P b x∧E.g b≠some x) (hm:St.gk (lL b d) {σ with hp:=σ.hp.set b none}=some σ1) (hk1:RB (E.pull b d og v td tb) w b k1) (hk2:RB (E.pull b d og v td tb) w d k2):
 cd gl {σ1 with hp:=(σ1.hp.set b (some k1)).set d (some k2)} (E.pull b d og v td tb) a w∧Ext gl.md (Own σ.hp E) E w (Own ((σ1.hp.set b (some k1)).set d (some k2)) (E.pull b d og v td tb)) (E.pull b d og v td tb) w:=by
 have acg:=Fu (E:=E) (w:=w) (b:=b) (d:=d) (og:=og) (v:=v) (td:=td) (tb:=tb)
 have h16d:=hd.2.2
 unfold St.gk at hm
 split at hm
 ·rename_i hp' df' h3 h4
  cases hm
  have src:∀(i:Nat)(k3:aN),((hp'.set b (some k1)).set d (some k2))[i]? =some (some k3)→(i=d∧k2=k3)∨(i≠d∧i=b∧k1=k3)∨(i≠d∧i≠b∧∃k0,σ.hp[i]? =some (some k0)∧iV (lL b d) (some k0)=some (some k3)):=by
   intro i k3 hi
   rw[bK] at hi
   split at hi
   ·rename_i e;subst e
    split at hi
    ·cases hi;exact Or.inl ⟨rfl,rfl⟩
    ·cases hi
   ·rename_i hne0
    have hne0:i≠d:=fun e=>hne0 e.symm
    rw[bK] at hi
    split at hi
    ·rename_i e;subst e
     split at hi
     ·cases hi;exact Or.inr (Or.inl ⟨hne0,rfl,rfl⟩)
     ·cases hi
    ·rename_i hne
     obtain⟨k0,e1,e2⟩:=jJ h3 hi
     simp only[bK] at e1
     rw[aC hne] at e1
     exact Or.inr (Or.inr ⟨hne0,fun e=>hne e.symm,k0,e1,e2⟩)
  have any:∀(i:Nat)(k3:aN),((hp'.set b (some k1)).set d (some k2))[i]? =some (some k3)→i≠d→∃k0,σ.hp[i]? =some (some k0):=by
   intro i k3 hi hne
   rcases src i k3 hi with⟨e,_⟩|⟨_,e,_⟩|⟨_,_,k0,e,_⟩
   ·exact absurd e hne
   ·subst e;exact⟨k,hb⟩
   ·exact⟨k0,e⟩
  have old:∀x i,i≠d→(E.pull b d og v td tb).has i x→og=some x→∀k0,σ.hp[i]? =some (some k0)→False:=by
   intro x i hi hh ho k0 hk0
   obtain⟨p1,p2⟩:=hP x ho
   have e:=hg.hw.dN b i k k0 x hb hk0 (Or.inr p1) (Env.mw hi hh)
   subst e
   rcases hh with hh|hh
   ·have:E.g b=some x:=by simpa[Env.pull,hbd] using hh
    exact p2 this
   ·exact hh.2.2 rfl ho
  refine⟨⟨?_,?_,⟨?_,?_,?_,hg.hw.slt,hg.hw.gl,?_⟩,acg.RD h4 hg.df⟩,⟨rfl,Tp.r rfl rfl,rfl,cq _,fun _ _ _=>rfl,fun _ h=>h,fun _ h=>Or.inl h,?_,fun i hi=>Env.Cu (by omega) (by omega)⟩⟩
  ·simp only[jH];exact hg.len
  ·intro i y hy u hu
   rcases jI hy with e|⟨x,e1,e2,e3⟩
   ·subst e;trivial
   ·exact RV.dO (acg.RV e3 (RV.js e2 (hg.tm i x e1 u hu)))
  ·intro i k3 hi
   rcases src i k3 hi with⟨e,e'⟩|⟨_,e,e'⟩|⟨e0,e1,k0,e3,e4⟩
   ·subst e;subst e';exact hk2
   ·subst e;subst e';exact hk1
   ·obtain⟨z1,z2,z3⟩:=Env.Cu (E:=E) (og:=og) (v:=v) (td:=td) (tb:=tb) e0 e1
    exact acg.RB (fun _ h=>h) (b:=i) (b':=i) z1 z2 z3 (fun _ x hx=>⟨e0,hx,fun e=>absurd e e1⟩) e4 (hg.hw.cH i k0 e3)
  ·intro i j k3 k4 x hi hj g1 g2
   by_cases e:i=d<;>by_cases e':j=d
   ·rw[e,e']
   ·subst e
    obtain⟨k5,f2⟩:=any j k4 hj e'
    exact(old x j e' g2 (Env.pn g1) k5 f2).elim
   ·subst e'
    obtain⟨k5,f2⟩:=any i k3 hi e
    exact(old x i e g1 (Env.pn g2) k5 f2).elim
   ·obtain⟨k5,f1⟩:=any i k3 hi e
    obtain⟨k6,f2⟩:=any j k4 hj e'
    exact hg.hw.dN i j k5 k6 x f1 f2 (Env.mw e g1) (Env.mw e' g2)
  ·intro i k3 x hi hx hs
   by_cases e:i=d
   ·subst e
    exact hg.hw.dq b k x hb (Or.inr (hP x (Env.pn hx)).1) hs
   ·obtain⟨k5,f1⟩:=any i k3 hi e
    exact hg.hw.dq i k5 x f1 (Env.mw e hx) hs
  ·intro i k3 x hi hx
   obtain⟨k5,f1⟩:=any i k3 hi hx.1
   exact hg.hw.qG i k5 x f1 hx.2.1
  ·rintro x ⟨i,k3,hi,hx⟩
   by_cases e:i=d
   ·subst e
    exact Or.inl ⟨b,k,hb,Or.inr (hP x (Env.pn hx)).1⟩
   ·obtain⟨k5,f1⟩:=any i k3 hi e
    exact Or.inl ⟨i,k5,f1,Env.mw e hx⟩
 ·cases hm
def Env.take(E:Env)(b d:Nat)(tb:Ty):Env:=
 {E with bt:=fun c=>if c=b then tb else E.bt c,P:=fun c x=>E.P c x∨(c=b∧E.has d x)}
theorem Env.zj{E:Env}{b d:Nat}{tb:Ty}{c x:Nat}(h:(E.take b d tb).has c x):E.has c x∨(c=b∧E.has d x):=by
 rcases h with h|h|h
 ·exact Or.inl (Or.inl h)
 ·exact Or.inl (Or.inr h)
 ·exact Or.inr h
theorem Fv{E:Env}{w:World}{b d:Nat}{tb:Ty}:Good E (E.take b d tb) w (im b) where
 rc:=by
  intro x y vs h hr
  unfold im at h
  split at h
  ·rename_i hn;cases h
   exact RC.mono (E:=E.re b tb) (E':=E.take b d tb) (w:=w) ⟨fun _ _=>rfl,fun _ h=>h⟩ (fun _ _=>⟨rfl,rfl,rfl⟩) (Fs hn hr)
  ·cases h
 agg:=(xz (E:=E) (w:=w) (b:=b) (t:=tb)).agg
 mp:=(xz (E:=E) (w:=w) (b:=b) (t:=tb)).mp
 fn:=(xz (E:=E) (w:=w) (b:=b) (t:=tb)).fn
theorem cd.take{gl:Ctx}{σ:St}{E:Env}{a:Act}{w:World}(hg:cd gl σ E a w){b d:Nat}{k k1 k2:aN}{tb:Ty}{σ1:St}(hb:σ.hp[b]? =some (some k))(h16:16≤b)(hbd:b≠d)(hd:σ.hp[d]? =some (some k2))
 (hm:St.gk (im b) {σ with hp:=(σ.hp.set b none).set d none}=some σ1) (hk1:RB (E.take b d tb) w b k1):
 cd gl {σ1 with hp:=σ1.hp.set b (some k1)} (E.take b d tb) a w∧Ext gl.md (Own σ.hp E) E w (Own (σ1.hp.set b (some k1)) (E.take b d tb)) (E.take b d tb) w:=by
 have acg:=Fv (E:=E) (w:=w) (b:=b) (d:=d) (tb:=tb)
 unfold St.gk at hm
 split at hm
 ·rename_i hp' df' h3 h4
  cases hm
  have src:∀(i:Nat)(k3:aN),(hp'.set b (some k1))[i]? =some (some k3)→(i=b∧k1=k3)∨(i≠d∧i≠b∧∃k0,σ.hp[i]? =some (some k0)∧iV (im b) (some k0)=some (some k3)):=by
   intro i k3 hi
   rw[bK] at hi
   split at hi
   ·rename_i e;subst e
    split at hi
    ·cases hi;exact Or.inl ⟨rfl,rfl⟩
    ·cases hi
   ·rename_i hne
    obtain⟨k0,e1,e2⟩:=jJ h3 hi
    simp only at e1
    rw[bK] at e1
    split at e1
    ·split at e1<;>cases e1
    ·rename_i hne0
     rw[bK,aC hne] at e1
     exact Or.inr ⟨fun e=>hne0 e.symm,fun e=>hne e.symm,k0,e1,e2⟩
  have own:∀(i:Nat)(k3:aN)(x:Nat),(hp'.set b (some k1))[i]? =some (some k3)→(E.take b d tb).has i x→∃j k0,σ.hp[j]? =some (some k0)∧E.has j x∧((i=b∧(j=b∨j=d))∨(i≠b∧i≠d∧j=i)):=by
   intro i k3 x hi hx
   rcases src i k3 hi with⟨e,_⟩|⟨e0,e1,k0,e3,_⟩
   ·subst e
    rcases Env.zj hx with h|⟨_,h⟩
    ·exact⟨i,k,hb,h,Or.inl ⟨rfl,Or.inl rfl⟩⟩
    ·exact⟨d,k2,hd,h,Or.inl ⟨rfl,Or.inr rfl⟩⟩
   ·rcases Env.zj hx with h|⟨e,_⟩
    ·exact⟨i,k0,e3,h,Or.inr ⟨e1,e0,rfl⟩⟩
    ·exact absurd e e1
  refine⟨⟨?_,?_,⟨?_,?_,?_,hg.hw.slt,hg.hw.gl,?_⟩,acg.RD h4 hg.df⟩,⟨rfl,Tp.r rfl rfl,rfl,cq _,fun _ _ _=>rfl,fun _ h=>h,fun _ h=>Or.inl h,?_,fun i hi=>⟨rfl,rfl,by simp[Env.take];intro e;omega⟩⟩⟩
  ·simp only[jH];exact hg.len
  ·intro i y hy u hu
   rcases jI hy with e|⟨x,e1,e2,e3⟩
   ·subst e;trivial
   ·exact RV.dO (acg.RV e3 (RV.js e2 (hg.tm i x e1 u hu)))
  ·intro i k3 hi
   rcases src i k3 hi with⟨e,e'⟩|⟨e0,e1,k0,e3,e4⟩
   ·subst e;subst e';exact hk1
   ·exact acg.RB (fun _ h=>h) (b:=i) (b':=i) rfl rfl (by simp[Env.take,e1]) (fun _ x hx=>Or.inl hx) e4 (hg.hw.cH i k0 e3)
  ·intro i j k3 k4 x hi hj g1 g2
   obtain⟨i',k5,f1,f2,f3⟩:=own i k3 x hi g1
   obtain⟨j',k6,f4,f5,f6⟩:=own j k4 x hj g2
   have e:=hg.hw.dN i' j' k5 k6 x f1 f4 f2 f5
   rcases f3 with⟨a1,a2⟩|⟨a1,a0,a2⟩<;>rcases f6 with⟨c1,c2⟩|⟨c1,c0,c2⟩
   ·rw[a1,c1]
   ·subst c2;subst e
    rcases a2 with a2|a2
    ·exact absurd a2 c1
    ·exact absurd a2 c0
   ·subst a2;subst e
    rcases c2 with c2|c2
    ·exact absurd c2 a1
    ·exact absurd c2 a0
   ·rw[←a2,←c2,e]
  ·intro i k3 x hi hx
   obtain⟨j,k0,f1,f2,_⟩:=own i k3 x hi hx
   exact hg.hw.dq j k0 x f1 f2
  ·intro i k3 x hi hx
   obtain⟨j,k0,f1,f2,_⟩:=own i k3 x hi (Or.inr hx)
   exact hg.hw.below f1 f2
  ·rintro x ⟨i,k3,hi,hx⟩
   obtain⟨j,k0,f1,f2,_⟩:=own i k3 x hi hx
   exact Or.inl ⟨j,k0,f1,f2⟩
 ·cases hm
end Go.Ax
namespace Go.Ax
def Fw(b i d:Nat)(σ:St):Option St:=
 match eC σ.hp b with
 |some (.cL e bs (.slice bs2 t2) xs e2 none)=>if pk b&&σ.eY d&& !Nat.beq b d then(match St.gk (lL b d) {σ with hp:=σ.hp.set b none} with
  |some σ1=>some {σ1 with hp:=(σ1.hp.set b (some (.cL e bs (.slice bs2 t2) xs e2 (some (i,.own d))))).set d (some (.row e2 bs2 t2 (List.getD xs i [])))}
  |none=>none) else none
 |_=>none
theorem de.Fx{w:World}{S:Nat→Prop}{e:TypeId}{bs:Nat}{t:Ty}{v:Value}{og:Option Nat}{xs:List t.den}(h:de w S e (.slice bs t) v og xs):Kd w S e bs t v og xs:=h
theorem Wk.Fw{gl:Ctx}{b i d:Nat}{σ σ':St}(h:Ax.Fw b i d σ=some σ')(hi:∀e bs t xs e2 f,eC σ.hp b=some (.cL e bs t xs e2 f)→i<xs.length):Wk gl σ σ':=by
 intro E a w hg
 unfold Ax.Fw at h
 split at h
 ·rename_i e bs bs2 t2 xs e2 hb0
  have hb:=cw σ.hp b _ hb0
  have hi:=hi _ _ _ _ _ _ hb0
  split at h
  ·rename_i hc
   simp only[aV] at hc
   obtain⟨⟨h16,hfr⟩,hbd⟩:=hc
   have hbd:b≠d:=fun e=>by subst e;simp at hbd
   split at h
   ·rename_i σ1 hm
    cases h
    obtain⟨h1,h2,h3,h4,h5,g,cap,c,og,q1,q2,q3,q4,q5,q6,q7,q8⟩:=hg.hw.cH b _ hb
    have hxi:xs[i]? =some (List.getD xs i []):=by rw[jB,il hi];rfl
    obtain⟨u,r1,_,r3⟩:=q8 i _ hxi
    obtain⟨s1,s2,s3,av,cv,s4,s5,s6⟩:=(r3 (fun v hv=>by cases hv)).Fx
    refine⟨_,hg.pull (og:=og i) (v:=u) (td:=.arr (List.length (List.getD xs i [])) t2) (tb:=jZ i xs.length (.slice bs2 t2)) hb (fc h16) hbd (St.dK hfr) ?_ hm ?_ ?_⟩
    ·intro x hx
     exact⟨(q7.own i x hx).1,fun e=>by rw[q3] at e;cases e;exact(q7.own i _ hx).2 rfl⟩
    ·refine⟨by simp[Env.pull,hbd,nv],h2,h3,h4,fun i' v' hv'=>by cases hv';exact⟨hi,rfl⟩,g,cap,c,fun j=>if j=i then none else og j,by simp[Env.pull,hbd];exact q1,q2,by simp[Env.pull,hbd];exact q3,q4,q5,q6,⟨?_,?_⟩,?_⟩
     ·intro j x hx
      have hx:(if j=i then none else og j)=some x:=hx
      split at hx
      ·cases hx
      ·rename_i hne
       obtain⟨k1,k2⟩:=q7.own j x hx
       exact⟨⟨hbd,k1,fun _ ho=>hne (q7.inj j i x hx ho)⟩,k2⟩
     ·intro j j' x hx hx'
      have hx:(if j=i then none else og j)=some x:=hx
      have hx':(if j'=i then none else og j')=some x:=hx'
      split at hx
      ·cases hx
      ·split at hx'
       ·cases hx'
       ·exact q7.inj j j' x hx hx'
     ·intro j x hx
      obtain⟨z,p1,p2,p3⟩:=q8 j x hx
      refine⟨z,p1,fun v' hv'=>?_,fun hv'=>?_⟩
      ·cases hv'
       rw[r1] at p1;cases p1
       refine⟨aA rfl,by show[u]= [(if d=d then u else E.sv d)];rw[aA rfl],av,List.length (List.getD xs i []),cv,?_⟩
       show(if d=d then u else E.sv d)=_
       rw[aA rfl];exact s4
      ·have hne:j≠i:=fun e=>by subst e;exact hv' _ rfl
       simp only[hne,bP]
       exact de.mono (fun _ _=>rfl) (fun _ h=>h) (fun _ _=>rfl) (p3 (fun v hv=>by cases hv))
    ·refine⟨by simp[Env.pull],s1,s2,s3,av,cv,by simp[Env.pull];exact s4,s5,?_⟩
     rcases s6 with⟨k1,k2,k3⟩|⟨g',c',k1,k2,k3,k4,k5,k6⟩
     ·exact Or.inl ⟨k1,by simp[Env.pull];exact k2,k3⟩
     ·exact Or.inr ⟨g',c',by simp[Env.pull];exact k1,k2,k3,k4,k5,k6⟩
   ·cases h
  ·cases h
 ·cases h
def po(b:Nat)(σ:St):Option St:=
 match eC σ.hp b with
 |
  some (.cL e bs (.slice bs2 t2) xs e2 (some (i,.own d)))=>match eC σ.hp d with
  |some (.row e3 bs3 t3 ys)=>if hc:Ty.same t3 t2=true then(if Nat.beq e3 e2&&Nat.beq bs3 bs2&&pk b&& !Nat.beq b d then(match St.gk (im b) {σ with hp:=(σ.hp.set b none).set d none} with
   |some σ1=>some {σ1 with hp:=σ1.hp.set b (some (.cL e bs (.slice bs2 t2) (List.set xs i (Ty.aB hc▸ys)) e2 none))}
   |none=>none) else none) else none
  |_=>none
 |_=>none
theorem Wk.po{gl:Ctx}{b:Nat}{σ σ':St}(h:Ax.po b σ=some σ'):Wk gl σ σ':=by
 intro E a w hg
 unfold Ax.po at h
 split at h
 ·rename_i e bs bs2 t2 xs e2 i d hb0
  have hb:=cw σ.hp b _ hb0
  split at h
  ·rename_i e3 bs3 t3 ys hd0
   have hd:=cw σ.hp d _ hd0
   split at h
   ·rename_i hc
    have et:=Ty.aB hc
    subst et
    split at h
    ·rename_i hc2
     simp only[aV] at hc2
     obtain⟨⟨⟨c1,c2⟩,h16⟩,hbd⟩:=hc2
     have e1:=bQ c1;have e2':=bQ c2
     subst e1;subst e2'
     have hbd:b≠d:=fun e=>by subst e;simp at hbd
     split at h
     ·rename_i σ1 hm
      cases h
      obtain⟨h1,h2,h3,h4,h5,g,cap,c,og,q1,q2,q3,q4,q5,q6,q7,q8⟩:=hg.hw.cH b _ hb
      obtain⟨s0,s1,s2,s3,av,cv,s4,s5,s6⟩:=hg.hw.cH d _ hd
      obtain⟨hi,_⟩:=h5 i _ rfl
      refine⟨_,hg.take (tb:=.arr xs.length (.slice bs3 t3)) hb (fc h16) hbd hd hm ?_⟩
      refine⟨by simp[Env.take,nv],h2,by rw[bF];exact h3,by rw[bF];exact h4,fun i' v' hv'=>(by cases hv'),g,cap,c,fun j=>if j=i then E.g d else og j,by rw[bF];exact q1,q2,q3,q4,q5,by rw[bF];exact q6,⟨?_,?_⟩,?_⟩
      ·intro j x hx
       have hx:(if j=i then E.g d else og j)=some x:=hx
       split at hx
       ·refine⟨Or.inr ⟨rfl,Or.inl hx⟩,fun e=>?_⟩
        subst e
        exact hbd (hg.hw.sep b d _ _ x hb hd q3 hx)
       ·exact⟨Or.inl (q7.own j x hx).1,(q7.own j x hx).2⟩
      ·intro j j' x hx hx'
       have hx:(if j=i then E.g d else og j)=some x:=hx
       have hx':(if j'=i then E.g d else og j')=some x:=hx'
       split at hx<;>split at hx'
       ·rename_i e1 e2;rw[e1,e2]
       ·exact absurd (hg.hw.dN b d _ _ x hb hd (Or.inr (q7.own j' x hx').1) (Or.inl hx)) hbd
       ·exact absurd (hg.hw.dN b d _ _ x hb hd (Or.inr (q7.own j x hx).1) (Or.inl hx')) hbd
       ·exact q7.inj j j' x hx hx'
      ·intro j x hx
       rw[bK] at hx
       by_cases e:i=j
       ·subst e
        rw[aA rfl,aA hi] at hx
        cases hx
        obtain⟨z,p1,p2,p3⟩:=q8 i (xs.getD i []) (by rw[jB,il hi];rfl)
        obtain⟨_,p2,_⟩:=p2 _ rfl
        have ez:z=E.sv d:=by simpa using p2
        refine⟨z,p1,fun v hv=>(by cases hv),fun _=>?_⟩
        simp only[bC]
        refine⟨s1,s2,s3,av,cv,by rw[ez];exact s4,s5,?_⟩
        rcases s6 with⟨k1,k2,k3⟩|⟨g',c',k1,k2,k3,k4,k5,k6⟩
        ·exact Or.inl ⟨k1,k2,k3⟩
        ·exact Or.inr ⟨g',c',k1,k2,k3,k4,k5,k6⟩
       ·rw[aC e] at hx
        obtain⟨z,p1,p2,p3⟩:=q8 j x hx
        refine⟨z,p1,fun v hv=>(by cases hv),fun _=>?_⟩
        have e':j≠i:=fun e'=>e e'.symm
        simp only[e',bP]
        exact p3 (fun v hv=>by cases hv;exact e rfl)
     ·cases h
    ·cases h
   ·cases h
  ·cases h
 ·cases h
end Go.Ax
namespace Go.Ax
def Env.tQ(E:Env)(b:Nat)(R:Nat→Prop):Env:=
 {E with S:=fun g=>E.S g∨R g,P:=fun c x=>c≠b∧E.P c x}
theorem Env.my{E:Env}{b:Nat}{R:Nat→Prop}{c x:Nat}(h:(E.tQ b R).has c x):E.has c x:=h.imp id (fun k=>k.2)
theorem cd.tQ{gl:Ctx}{σ:St}{E:Env}{a:Act}{w:World}(hg:cd gl σ E a w){b:Nat}{k k':aN}{R:Nat→Prop}(hb:σ.hp[b]? =some (some k))(hR:∀x,R x→E.P b x∧E.g b≠some x)(hk:RB (E.tQ b R) w b k'):
 cd gl {σ with hp:=σ.hp.set b (some k')} (E.tQ b R) a w∧Ext gl.md (Own σ.hp E) E w (Own (σ.hp.set b (some k')) (E.tQ b R)) (E.tQ b R) w:=by
 have kp:bM E w (E.tQ b R) w:=⟨fun _ _=>rfl,fun _ h=>Or.inl h⟩
 have src:∀(i:Nat)(k3:aN),(σ.hp.set b (some k'))[i]? =some (some k3)→(i=b∧k'=k3)∨(i≠b∧σ.hp[i]? =some (some k3)):=by
  intro i k3 hi
  rw[bK] at hi
  split at hi
  ·rename_i e;subst e
   split at hi
   ·cases hi;exact Or.inl ⟨rfl,rfl⟩
   ·cases hi
  ·rename_i hne;exact Or.inr ⟨fun e=>hne e.symm,hi⟩
 have any:∀(i:Nat)(k3:aN),(σ.hp.set b (some k'))[i]? =some (some k3)→∃k0,σ.hp[i]? =some (some k0):=by
  intro i k3 hi
  rcases src i k3 hi with⟨e,_⟩|⟨_,e⟩
  ·subst e;exact⟨k,hb⟩
  ·exact⟨k3,e⟩
 refine⟨hg.carry kp (fun _ _=>⟨rfl,rfl,rfl⟩) ⟨?_,?_,?_,?_,hg.hw.fT kp,?_⟩,⟨rfl,Tp.r rfl rfl,rfl,cq _,fun _ _ _=>rfl,fun _ h=>Or.inl h,?_,?_,fun _ _=>⟨rfl,rfl,rfl⟩⟩⟩
 ·intro i k3 hi
  rcases src i k3 hi with⟨e,e'⟩|⟨e,e'⟩
  ·subst e;subst e';exact hk
  ·exact RB.mono kp (fun _ _=>⟨rfl,rfl,rfl⟩) (fun _ _=>rfl) (fun _ x hx=>⟨e,hx⟩) (hg.hw.cH i k3 e')
 ·intro i j k3 k4 x hi hj g1 g2
  obtain⟨k5,f1⟩:=any i k3 hi
  obtain⟨k6,f2⟩:=any j k4 hj
  exact hg.hw.dN i j k5 k6 x f1 f2 (Env.my g1) (Env.my g2)
 ·intro i k3 x hi hx hs
  obtain⟨k5,f1⟩:=any i k3 hi
  rcases hs with hs|hs
  ·exact hg.hw.dq i k5 x f1 (Env.my hx) hs
  ·obtain⟨r1,r2⟩:=hR x hs
   have e:=hg.hw.dN b i k k5 x hb f1 (Or.inr r1) (Env.my hx)
   subst e
   rcases hx with hx|hx
   ·exact r2 hx
   ·exact hx.1 rfl
 ·rintro x (hs|hs)
  ·exact hg.hw.slt x hs
  ·exact hg.hw.qG b k x hb (hR x hs).1
 ·intro i k3 x hi hx
  obtain⟨k5,f1⟩:=any i k3 hi
  exact hg.hw.qG i k5 x f1 hx.2
 ·rintro x (hs|hs)
  ·exact Or.inl hs
  ·exact Or.inr (Or.inl ⟨b,k,hb,Or.inr (hR x hs).1⟩)
 ·rintro x ⟨i,k3,hi,hx⟩
  obtain⟨k5,f1⟩:=any i k3 hi
  exact Or.inl ⟨i,k5,f1,Env.my hx⟩
theorem de.rel{w:World}{S S':Nat→Prop}{e:TypeId}(hS:∀b,S b→S' b){t:Ty}{v:Value}{og:Option Nat}{x:t.den}(hg:∀g,og=some g→S' g)(h:de w S e t v og x):Rel w S' t [v] x:=by
 cases t with
 |
  slice bs t=>
  obtain⟨h1,h2,h3,a,cap,h4,h5,h6⟩:=h
  subst h4
  rcases h6 with⟨⟨k1,k2⟩,k3,k4⟩|⟨g,c,k1,k2,k3,k4,k5,k6⟩
  ·subst k4;exact⟨a,cap,rfl,gG _,h1,h2,Or.inl rfl⟩
  ·refine⟨a,cap,rfl,k5,h1,h2,Or.inr ⟨g,0,_,k2,hg g k1,?_,aT.mono (fun _ _=>Rel.mono (fun _ _=>rfl) hS) k6⟩⟩
   have:=ot.of_heap k3 0 (List.length x*t.size)
   rw[eS] at this
   exact this
 |
  map k u=>
  obtain⟨es,h0,h1,h2,g,en,clock,h3,h4,h5,h6,h7,h8⟩:=h
  subst h0;subst h4
  exact⟨some g,rfl,Or.inr ⟨es,g,en,clock,rfl,rfl,hg g h3,h5,jS.mono (fun _ _=>gQ.mono (fun _ _=>Rel.mono (fun _ _=>rfl) hS)) (fun _ _=>gQ.mono (fun _ _=>Rel.mono (fun _ _=>rfl) hS)) h6,h1,h2,h7,h8⟩⟩
 |_=>exact h.elim
def D1(b:Nat)(σ:St):Option St:=
 match eC σ.hp b with
 |some (.cL e bs t xs _ none)=>some {σ with hp:=σ.hp.set b (some (.row e bs t xs))}
 |some (.pmap k t es _ none)=>if t.isAgg then none else some {σ with hp:=σ.hp.set b (some (.map k t es))}
 |_=>none
theorem aT.at{α:Type}{r:List Value→α→Prop}:∀{xs:List α}{cs:List Value},cs.length=xs.length→(∀(i:Nat)(x:α),xs[i]? =some x→∃u,cs[i]? =some u∧r [u] x)→aT r cs xs
 |[],cs,hl,_=>nk hl
 |x::xs,[],hl,_=>by simp at hl
 |
  x::xs,c::cs,hl,h=>by
  obtain⟨u,h1,h2⟩:=h 0 x rfl
  simp at h1;subst h1
  exact⟨[c],cs,rfl,h2,aT.at (by simpa using hl) (fun i y hy=>by simpa using h (i+1) y (by simpa using hy))⟩
theorem RM.at{E:Env}{w:World}{k v:Ty}:∀{es:List (k.den×v.den)}{en:List MapEntry},en.length=es.length→(∀(i:Nat) x,es[i]? =some x→∃m,en[i]? =some m∧cF E w (.val k x.1) m.key∧cF E w (.val v x.2) m.val)→RM E w k v en es
 |[],[],_,_=>trivial
 |[],_::_,hl,_=>by simp at hl
 |_::_,[],hl,_=>by simp at hl
 |
  x::es,m::en,hl,h=>by
  obtain⟨u,h1,h2,h3⟩:=h 0 x rfl
  simp at h1;subst h1
  exact⟨h2,h3,RM.at (by simpa using hl) (fun i y hy=>by simpa using h (i+1) y (by simpa using hy))⟩
theorem Wk.D1{gl:Ctx}{b:Nat}{σ σ':St}(h:Ax.D1 b σ=some σ'):Wk gl σ σ':=by
 intro E a w hg
 unfold Ax.D1 at h
 split at h
 ·rename_i e bs t xs e2 hb0
  have hb:=cw σ.hp b _ hb0
  cases h
  obtain⟨h1,h2,h3,h4,h5,g,cap,c,og,q1,q2,q3,q4,q5,q6,q7,q8⟩:=hg.hw.cH b _ hb
  obtain⟨r1,r2⟩:=hg.tQ (k':=.row e bs t xs) (R:=fun x=>∃i,og i=some x) hb (fun x ⟨i,hi⟩=>⟨(q7.own i x hi).1,fun e=>by rw[q3] at e;cases e;exact(q7.own i _ hi).2 rfl⟩) (by
   refine⟨h1,h3,h4,by omega,some ⟨g,0,none⟩,cap,q1,q2,Or.inr ⟨g,c,q3,rfl,q4,by rw[h2,Nat.mul_one];exact q5,q6,?_⟩⟩
   rw[h2,Nat.mul_one]
   refine aT.at (by have hl:c.toList.length=cap:=q5;rw[fe,hl];omega) (fun i x hx=>?_)
   have hi:=(List.getElem?_eq_some_iff.1 hx).1
   obtain⟨u,p1,_,p3⟩:=q8 i x hx
   refine⟨u,by rw[oN,aA hi];simpa using p1,?_⟩
   exact de.rel (fun b hb=>Or.inl hb) (fun x hx=>Or.inr ⟨i,hx⟩) (p3 (fun v hv=>by cases hv)))
  exact⟨_,r1,r2⟩
 ·rename_i k t es e2 hb0
  have hb:=cw σ.hp b _ hb0
  split at h
  ·cases h
  ·rename_i abJ
   cases h
   obtain⟨h1,h2,h3,g,en,clock,og,q1,q2,q3,q4,q5,q6,q7,q8⟩:=hg.hw.cH b _ hb
   have kp:bM E w (E.tQ b fun x=>∃i,og i=some x) w:=⟨fun _ _=>rfl,fun _ h=>Or.inl h⟩
   obtain⟨r1,r2⟩:=hg.tQ (k':=.map k t es) (R:=fun x=>∃i,og i=some x) hb (fun x ⟨i,hi⟩=>⟨(q5.own i x hi).1,fun e=>by rw[q1] at e;cases e;exact(q5.own i _ hi).2 rfl⟩) (by
    refine⟨h1,h2,g,en,clock,q1,q2,RM.at (by rw[fR];exact q6) (fun i x hx=>?_),q3,q4⟩
    obtain⟨m,p1,p2,_,p4⟩:=q7 i x hx
    refine⟨m,by simpa using p1,cF.mono kp (fun _ hb=>by cases hb) p2,Or.inr ⟨by simpa[AV.isAgg] using abJ,?_⟩⟩
    exact de.rel (fun b hb=>Or.inl hb) (fun x hx=>Or.inr ⟨i,hx⟩) (p4 (fun v pr hv=>by cases hv)))
   exact⟨_,r1,r2⟩
 ·cases h
def Fz(b:Nat)(e2:TypeId)(σ:St):Option St:=
 match eC σ.hp b with
 |some (.map k t [])=>some {σ with hp:=σ.hp.set b (some (.pmap k t [] e2 none))}
 |_=>none
theorem Wk.Fz{gl:Ctx}{b:Nat}{e2:TypeId}{σ σ':St}(h:Ax.Fz b e2 σ=some σ'):Wk gl σ σ':=by
 intro E a w hg
 unfold Ax.Fz at h
 split at h
 ·rename_i k t hb0
  have hb:=cw σ.hp b _ hb0
  cases h
  obtain⟨h1,h2,g,en,clock,q1,q2,q3,q4,q5⟩:=hg.hw.cH b _ hb
  obtain⟨r1,r2⟩:=hg.tQ (k':=.pmap k t [] e2 none) (R:=fun _=>False) hb (fun x hx=>hx.elim) (by
   have hn:en.toList= []:=by
    cases he:en.toList with
    |nil=>rfl
    |cons _ _=>rw[he] at q3;exact q3.elim
   have hs:en.size=0:=by rw[←fR,hn];rfl
   exact⟨h1,h2,fun kx v pr hv=>(by cases hv),g,en,clock,fun _=>none,q1,q2,q4,q5,⟨fun i u hu=>(by cases hu),fun i j u hu=>(by cases hu)⟩,hs,fun i x hx=>by simp at hx,fun kx v=>⟨fun hf=>(by cases hf),fun hf=>(by cases hf)⟩⟩)
  exact⟨_,r1,r2⟩
 ·cases h
end Go.Ax
namespace Go.Ax
theorem pq{kt vt:Ty}(hk:kt.keyed=true){k:kt.den}:∀{es:List (kt.den×vt.den)},cJ kt k es=true→∃i:Nat,es[i]? =some (k,bz kt vt k es)
 |[],h=>by simp[cJ] at h
 |
  x::es,h=>by
  simp only[cJ,ek] at h
  cases hb:aX kt k x.1 with
  |true=>exact⟨0,by simp only[bz,hb,bC,oL];rw[(cu hk _ _).1 hb]⟩
  |
   false=>
   rw[hb] at h
   obtain⟨i,hi⟩:=pq hk (h.resolve_left (by simp))
   exact⟨i+1,by simp only[bz,hb,qF];exact hi⟩
theorem xA{kt vt:Ty}{k:kt.den}:∀{es:List (kt.den×vt.den)},cJ kt k es=false→bz kt vt k es=vt.aD
 |[],_=>rfl
 |
  x::es,h=>by
  simp only[cJ,Bool.or_eq_false_iff] at h
  simp only[bz,h.1,cm,bP]
  exact xA h.2
theorem vq{E:Env}{w:World}{b d:Nat}{kt t:Ty}{es:List (kt.den×t.den)}{e2:TypeId}(hrb:RB E w b (.pmap kt t es e2 none))(hbd:b≠d){kx:kt.den}{y:t.den}{i:Nat}(hi:es[i]? =some (kx,y)):
 ∃u og,de w E.S e2 t u og y∧(∀x,og=some x→E.P b x∧E.g b≠some x)∧
  ∀v pr td tb,v.bW t=true→RC (E.pull b d og u td tb) w v [u]→RB (E.pull b d og u td tb) w b (.pmap kt t es e2 (some (kx,v,pr))):=by
 obtain⟨z1,z2,z3,g,en,clock,og,y1,y2,y3,y4,y5,y6,y7,y8⟩:=hrb
 obtain⟨m,t1,t2,_,t4⟩:=y7 i _ hi
 refine⟨m.val,og i,t4 (fun v pr hv=>by cases hv),fun x hx=>⟨(y5.own i x hx).1,fun e=>by rw[y1] at e;cases e;exact(y5.own i _ hx).2 rfl⟩,?_⟩
 intro v pr td tb hc hr
 have kp:bM E w (E.pull b d (og i) m.val td tb) w:=⟨fun _ _=>rfl,fun _ h=>h⟩
 refine⟨z1,z2,fun kx' v' pr' hv'=>by cases hv';exact hc,g,en,clock,fun j=>if j=i then none else og j,by simp[Env.pull,hbd];exact y1,y2,y3,y4,⟨?_,?_⟩,y6,?_,?_⟩
 ·intro j x hx
  have hx:(if j=i then none else og j)=some x:=hx
  split at hx
  ·cases hx
  ·rename_i hne
   obtain⟨k1,k2⟩:=y5.own j x hx
   exact⟨⟨hbd,k1,fun _ ho=>hne (y5.inj j i x hx ho)⟩,k2⟩
 ·intro j j' x hx hx'
  have hx:(if j=i then none else og j)=some x:=hx
  have hx':(if j'=i then none else og j')=some x:=hx'
  split at hx
  ·cases hx
  ·split at hx'
   ·cases hx'
   ·exact y5.inj j j' x hx hx'
 ·intro j x hx
  obtain⟨m2,p1,p2,_,p4⟩:=y7 j x hx
  refine⟨m2,p1,cF.mono kp (fun _ hb=>by cases hb) p2,fun v' pr' hv'=>?_,fun hv'=>?_⟩
  ·obtain⟨xk,xv⟩:=x
   simp only[cE,ff] at hv'
   obtain⟨e1,e2,e3⟩:=hv'
   subst e1;subst e2
   have e:=nW z1 hi hx
   subst e
   rw[t1] at p1;cases p1
   exact⟨aA rfl,hr⟩
  ·have hne:j≠i:=fun e=>by
    subst e
    rw[hi] at hx;cases hx
    exact hv' v pr rfl
   simp only[hne,bP]
   exact de.mono (fun _ _=>rfl) (fun _ h=>h) (fun _ _=>rfl) (p4 (fun v pr hv=>by cases hv))
 ·intro kx' v'
  refine⟨fun hf hn=>?_,fun hf=>?_⟩<;>cases hf
  ·exact absurd (List.mem_map.2 ⟨_,fP hi,rfl⟩) hn
  ·exact List.mem_map.2 ⟨_,fP hi,rfl⟩
theorem A4{E:Env}{w:World}{b d:Nat}{kt t:Ty}{es:List (kt.den×t.den)}{e2:TypeId}(hrb:RB E w b (.pmap kt t es e2 none))(hbd:b≠d){kx:kt.den}(hn:kx∉es.map (·.1)){v:AV}{u:Value}{td tb:Ty}(hc:v.bW t=true)(hr:RC (E.pull b d none u td tb) w v [zeroV t]):
 RB (E.pull b d none u td tb) w b (.pmap kt t es e2 (some (kx,v,false))):=by
 obtain⟨z1,z2,z3,g,en,clock,og,y1,y2,y3,y4,y5,y6,y7,y8⟩:=hrb
 have kp:bM E w (E.pull b d none u td tb) w:=⟨fun _ _=>rfl,fun _ h=>h⟩
 refine⟨z1,z2,fun kx' v' pr' hv'=>by cases hv';exact hc,g,en,clock,og,by simp[Env.pull,hbd];exact y1,y2,y3,y4,y5.mono (fun x hx=>⟨hbd,hx,fun _=>by simp⟩),y6,?_,?_⟩
 ·intro j x hx
  obtain⟨m2,p1,p2,_,p4⟩:=y7 j x hx
  refine⟨m2,p1,cF.mono kp (fun _ hb=>by cases hb) p2,fun v' pr' hv'=>?_,fun hv'=>de.mono (fun _ _=>rfl) (fun _ h=>h) (fun _ _=>rfl) (p4 (fun v pr hv=>by cases hv))⟩
  simp only[cE,ff] at hv'
  exact absurd (List.mem_map.2 ⟨x,fP hx,hv'.1.symm⟩) hn
 ·intro kx' v'
  refine⟨fun hf _=>?_,fun hf=>?_⟩<;>cases hf
  exact hr
theorem vr{E:Env}{w:World}{b d:Nat}{kt t tb:Ty}(hk:kt.keyed=true){es:List (kt.den×t.den)}{e2:TypeId}{kx:kt.den}{v:AV}(hrb:RB E w b (.pmap kt t es e2 (some (kx,v,true)))){y:t.den}(abU:∀u,RC E w v [u]→de w E.S e2 t u (E.g d) y)
 (hsep:∀x,E.has b x→¬E.has d x):RB (E.take b d tb) w b (.pmap kt t (bE kt kx y es) e2 none):=by
 obtain⟨z1,z2,z3,g,en,clock,og,y1,y2,y3,y4,y5,y6,y7,y8⟩:=hrb
 have hin:=(y8 kx v).2 rfl
 obtain⟨⟨kx',y0⟩,hm,e⟩:=List.mem_map.1 hin
 have e:kx'=kx:=e
 subst e
 obtain⟨i,hi⟩:=List.mem_iff_getElem?.1 hm
 have hlt:i<es.length:=(List.getElem?_eq_some_iff.1 hi).1
 have hes:=xo hk (y:=y) z1 hi
 have kp:bM E w (E.take b d tb) w:=⟨fun _ _=>rfl,fun _ h=>h⟩
 refine⟨dL hk z1,by rw[hes,bF];exact z2,fun kx' v' pr' hv'=>(by cases hv'),g,en,clock,fun j=>if j=i then E.g d else og j,y1,y2,y3,y4,⟨?_,?_⟩,by rw[hes,bF];exact y6,?_,fun kx' v'=>⟨fun hf=>(by cases hf),fun hf=>(by cases hf)⟩⟩
 ·intro j x hx
  have hx:(if j=i then E.g d else og j)=some x:=hx
  split at hx
  ·exact⟨Or.inr ⟨rfl,Or.inl hx⟩,fun e=>by subst e;exact hsep x (Or.inl y1) (Or.inl hx)⟩
  ·exact⟨Or.inl (y5.own j x hx).1,(y5.own j x hx).2⟩
 ·intro j j' x hx hx'
  have hx:(if j=i then E.g d else og j)=some x:=hx
  have hx':(if j'=i then E.g d else og j')=some x:=hx'
  split at hx<;>split at hx'
  ·rename_i e1 e2;rw[e1,e2]
  ·exact absurd (Or.inl hx) (hsep x (Or.inr (y5.own j' x hx').1))
  ·exact absurd (Or.inl hx') (hsep x (Or.inr (y5.own j x hx).1))
  ·exact y5.inj j j' x hx hx'
 ·rw[hes]
  intro j x hx
  rw[bK] at hx
  by_cases hne:i=j
  ·subst hne
   rw[aA rfl,aA hlt] at hx
   cases hx
   obtain⟨m,p1,p2,p3,_⟩:=y7 i _ hi
   refine⟨m,p1,cF.mono kp (fun _ hb=>by cases hb) p2,fun v' pr' hv'=>(by cases hv'),fun _=>?_⟩
   simp only[bC]
   exact abU _ (p3 v true rfl).2
  ·rw[aC hne] at hx
   obtain⟨m,p1,p2,p3,p4⟩:=y7 j x hx
   have hxk:x.1≠kx':=fun e=>by
    obtain⟨xk,xv⟩:=x
    simp only at e
    subst e
    exact hne (nW z1 hi hx)
   have hne':j≠i:=fun e=>hne e.symm
   refine⟨m,p1,cF.mono kp (fun _ hb=>by cases hb) p2,fun v' pr' hv'=>(by cases hv'),fun _=>?_⟩
   simp only[hne',bP]
   exact p4 (fun v' pr' hv'=>by cases hv';exact hxk rfl)
end Go.Ax
namespace Go.Ax
def FA(mode b d:Nat)(kt:Ty)(kx:kt.den)(σ:St):Option (List VC×St):=
 match mode,eC σ.hp b with
 |0,some (.pmap k u es e2 none)=>if h:Ty.same k kt=true then(if k.keyed&&pk b&&u.uD&&AV.bW .dT u then some ([vc (cJ k (Ty.aB h▸kx:k.den) es=false)],{σ with hp:=σ.hp.set b (some (.pmap k u es e2 (some ((Ty.aB h▸kx:k.den),.dT,false))))}) else none) else none
 |1,some (.pmap k (.map k2 v2) es e2 none)=>if h:Ty.same k kt=true then(if k.keyed&&pk b&&σ.eY d&& !Nat.beq b d then(match St.gk (lL b d) {σ with hp:=σ.hp.set b none} with
  |some σ1=>some ([vc (cJ k (Ty.aB h▸kx:k.den) es=true)],{σ1 with hp:=(σ1.hp.set b (some (.pmap k (.map k2 v2) es e2 (some ((Ty.aB h▸kx:k.den),.mp d,true))))).set d (some (.map k2 v2 (bU (bz k (.map k2 v2) (Ty.aB h▸kx:k.den) es))))})
  |none=>none) else none) else none
 |2,some (.pmap k (.slice bs t2) es e2 none)=>if h:Ty.same k kt=true then(if k.keyed&&pk b&&σ.eY d&& !Nat.beq b d&&Nat.blt 0 t2.size then(match St.gk (lL b d) {σ with hp:=σ.hp.set b none} with
  |some σ1=>some ([],{σ1 with hp:=(σ1.hp.set b (some (.pmap k (.slice bs t2) es e2 (some ((Ty.aB h▸kx:k.den),.own d,false))))).set d (some (.row e2 bs t2 (bz k (.slice bs t2) (Ty.aB h▸kx:k.den) es)))})
  |none=>none) else none) else none
 |_,_=>none
theorem RB.Lk{E:Env}{w:World}{d:Nat}{e:TypeId}{bs:Nat}{t:Ty}(hp:0<t.size)(h1:E.bt d= .arr 0 t)(h2:E.sv d= .slice none 0 0)(h3:E.g d=none):RB E w d (.row e bs t []):=
 ⟨h1,by simp,by simp,hp,none,0,h2,gG _,Or.inl ⟨⟨rfl,rfl⟩,h3,rfl⟩⟩
theorem Wk.FA{gl:Ctx}{mode b d:Nat}{kt:Ty}{kx:kt.den}{σ σ':St}{vcs:List VC}(h:Ax.FA mode b d kt kx σ=some (vcs,σ'))(hvc:dH vcs):Wk gl σ σ':=by
 intro E a w hg
 unfold Ax.FA at h
 split at h
 ·rename_i k u es e2 hb0
  have hb:=cw σ.hp b _ hb0
  split at h
  ·rename_i hs
   have et:=Ty.aB hs
   subst et
   split at h
   ·rename_i hc
    cases h
    simp only[aV] at hc
    obtain⟨⟨⟨hk,h16⟩,hm⟩,hcf⟩:=hc
    have hn:cJ k kx es=false:=hvc.1
    have hn':kx∉es.map (·.1):=fun hm=>by rw[(fD hk).2 hm] at hn;cases hn
    obtain⟨z1,z2,z3,g,en,clock,og,y1,y2,y3,y4,y5,y6,y7,y8⟩:=hg.hw.cH b _ hb
    have hw:=hg.hw.write (w':=w) (k':=.pmap k u es e2 (some (kx,.dT,false))) hb rfl (fun _ _=>rfl) (by
     refine⟨z1,z2,fun kx' v' pr' hv'=>by cases hv';exact hcf,g,en,clock,og,y1,y2,y3,y4,y5,y6,?_,?_⟩
     ·intro j x hx
      obtain⟨m2,p1,p2,_,p4⟩:=y7 j x hx
      refine⟨m2,p1,p2,fun v' pr' hv'=>?_,fun hv'=>p4 (fun v pr hv=>by cases hv)⟩
      simp only[cE,ff] at hv'
      exact absurd (List.mem_map.2 ⟨x,fP hx,hv'.1.symm⟩) hn'
     ·intro kx' v'
      refine⟨fun hf _=>?_,fun hf=>?_⟩<;>cases hf
      rw[vg hm];rfl)
    exact⟨E,hg.carry ⟨fun _ _=>rfl,fun _ h=>h⟩ (fun _ _=>⟨rfl,rfl,rfl⟩) hw,{Ext.refl (md:=gl.md) (Own σ.hp E) E w with own:=fun g hg'=>Or.inl (Own.set hb hg')}⟩
   ·cases h
  ·cases h
 ·rename_i k k2 v2 es e2 hb0
  have hb:=cw σ.hp b _ hb0
  split at h
  ·rename_i hs
   have et:=Ty.aB hs
   subst et
   split at h
   ·rename_i hc
    simp only[aV] at hc
    obtain⟨⟨⟨hk,h16⟩,hfr⟩,hbd⟩:=hc
    have hbd:b≠d:=fun e=>by subst e;simp at hbd
    split at h
    ·rename_i σ1 hm
     cases h
     have hn:cJ k kx es=true:=hvc.1
     obtain⟨i,hi⟩:=pq (vt:=.map k2 v2) hk hn
     obtain⟨u,og,s1,s2,s3⟩:=vq (hg.hw.cH b _ hb) hbd hi
     obtain⟨es',e0,m1,m2,g,en,clock,m3,m4,m5,m6,m7,m8⟩:=s1
     have ge:(E.pull b d og u .unit .unit).g d=some g:=by simp[Env.pull];exact m3
     refine⟨_,hg.pull (og:=og) (v:=u) (td:=.unit) (tb:=.unit) hb (fc h16) hbd (St.dK hfr) s2 hm (s3 (.mp d) true .unit .unit rfl ⟨g,ge,by rw[m4]⟩) ?_⟩
     rw[e0]
     exact⟨m1,m2,g,en,clock,ge,m5,RM.of (E:=E.pull b d og u .unit .unit) m6,m7,m8⟩
    ·cases h
   ·cases h
  ·cases h
 ·rename_i k bs t2 es e2 hb0
  have hb:=cw σ.hp b _ hb0
  split at h
  ·rename_i hs
   have et:=Ty.aB hs
   subst et
   split at h
   ·rename_i hc
    simp only[aV] at hc
    obtain⟨⟨⟨⟨hk,h16⟩,hfr⟩,hbd⟩,hpos⟩:=hc
    have hbd:b≠d:=fun e=>by subst e;simp at hbd
    have hpos:0<t2.size:=by simp[Nat.blt] at hpos;omega
    split at h
    ·rename_i σ1 hm
     cases h
     cases hn:cJ k kx es with
     |
      true=>
      obtain⟨i,hi⟩:=pq (vt:=.slice bs t2) hk hn
      obtain⟨u,og,s1,s2,s3⟩:=vq (hg.hw.cH b _ hb) hbd hi
      obtain⟨q1,q2,q3,av,cv,q4,q5,q6⟩:=s1.Fx
      refine⟨_,hg.pull (og:=og) (v:=u) (td:=.arr (List.length (bz k (.slice bs t2) kx es)) t2) (tb:=.unit) hb (fc h16) hbd (St.dK hfr) s2 hm (s3 (.own d) false _ .unit rfl ⟨by simp[Env.pull],av,List.length (bz k (.slice bs t2) kx es),cv,by simp[Env.pull];exact q4⟩) ?_⟩
      refine⟨by simp[Env.pull],q1,q2,q3,av,cv,by simp[Env.pull];exact q4,q5,?_⟩
      rcases q6 with⟨k1,k2,k3⟩|⟨g',c',k1,k2,k3,k4,k5,k6⟩
      ·exact Or.inl ⟨k1,by simp[Env.pull];exact k2,k3⟩
      ·exact Or.inr ⟨g',c',by simp[Env.pull];exact k1,k2,k3,k4,k5,k6⟩
     |
      false=>
      have hn':kx∉es.map (·.1):=fun hm=>by rw[(fD hk).2 hm] at hn;cases hn
      have e0:bz k (.slice bs t2) kx es= []:=xA hn
      rw[e0]
      refine⟨_,hg.pull (og:=none) (v:=.slice none 0 0) (td:=.arr 0 t2) (tb:=.unit) hb (fc h16) hbd (St.dK hfr) (fun x hx=>by cases hx) hm (A4 (hg.hw.cH b _ hb) hbd hn' rfl ⟨by simp[Env.pull,zeroV],none,0,0,by simp[Env.pull]⟩) ?_⟩
      exact RB.Lk hpos (by simp[Env.pull]) (by simp[Env.pull]) (by simp[Env.pull])
    ·cases h
   ·cases h
  ·cases h
 ·cases h
def lM(b:Nat)(σ:St):Option St:=
 match eC σ.hp b with
 |
  some (.pmap k (.slice bs2 t2) es e2 (some (kx,.own d,true)))=>match eC σ.hp d with
  |some (.row e3 bs3 t3 ys)=>if hc:Ty.same t3 t2=true then(if k.keyed&&Nat.beq e3 e2&&Nat.beq bs3 bs2&&pk b&& !Nat.beq b d then(match St.gk (im b) {σ with hp:=(σ.hp.set b none).set d none} with
   |some σ1=>some {σ1 with hp:=σ1.hp.set b (some (.pmap k (.slice bs2 t2) (bE k kx (Ty.aB hc▸ys:List t2.den) es) e2 none))}
   |none=>none) else none) else none
  |_=>none
 |
  some (.pmap k (.map k2 v2) es e2 (some (kx,.mp d,true)))=>match eC σ.hp d with
  |some (.map k3 v3 ys)=>if hc:Ty.same k3 k2=true∧Ty.same v3 v2=true then(if k.keyed&&pk b&& !Nat.beq b d then(match St.gk (im b) {σ with hp:=(σ.hp.set b none).set d none} with
   |some σ1=>some {σ1 with hp:=σ1.hp.set b (some (.pmap k (.map k2 v2) (bE k kx (some (Ty.aB hc.1▸Ty.aB hc.2▸ys:List (k2.den×v2.den))) es) e2 none))}
   |none=>none) else none) else none
  |_=>none
 |_=>none
theorem Wk.lM{gl:Ctx}{b:Nat}{σ σ':St}(h:Ax.lM b σ=some σ'):Wk gl σ σ':=by
 intro E a w hg
 unfold Ax.lM at h
 split at h
 ·rename_i k bs2 t2 es e2 kx d hb0
  have hb:=cw σ.hp b _ hb0
  split at h
  ·rename_i e3 bs3 t3 ys hd0
   have hd:=cw σ.hp d _ hd0
   split at h
   ·rename_i hc
    have et:=Ty.aB hc
    subst et
    split at h
    ·rename_i hc2
     simp only[aV] at hc2
     obtain⟨⟨⟨⟨hk,c1⟩,c2⟩,h16⟩,hbd⟩:=hc2
     have e1:=bQ c1;have e2':=bQ c2
     subst e1;subst e2'
     have hbd:b≠d:=fun e=>by subst e;simp at hbd
     split at h
     ·rename_i σ1 hm
      cases h
      refine⟨_,hg.take (tb:=.unit) hb (fc h16) hbd hd hm (vr hk (hg.hw.cH b _ hb) ?_ (fun x h1 h2=>hbd (hg.hw.dN b d _ _ x hb hd h1 h2)))⟩
      intro u hu
      obtain⟨s0,s1,s2,s3,av,cv,s4,s5,s6⟩:=hg.hw.cH d _ hd
      obtain⟨hu,_⟩:=hu
      have eu:u=E.sv d:=by simpa using hu
      refine⟨s1,s2,s3,av,cv,by rw[eu];exact s4,s5,?_⟩
      rcases s6 with⟨k1,k2,k3⟩|⟨g',c',k1,k2,k3,k4,k5,k6⟩
      ·exact Or.inl ⟨k1,k2,k3⟩
      ·exact Or.inr ⟨g',c',k1,k2,k3,k4,k5,k6⟩
     ·cases h
    ·cases h
   ·cases h
  ·cases h
 ·rename_i k k2 v2 es e2 kx d hb0
  have hb:=cw σ.hp b _ hb0
  split at h
  ·rename_i k3 v3 ys hd0
   have hd:=cw σ.hp d _ hd0
   split at h
   ·rename_i hc
    obtain⟨hc1,hc2⟩:=hc
    have et:=Ty.aB hc1
    subst et
    have et2:=Ty.aB hc2
    subst et2
    split at h
    ·rename_i hc2
     simp only[aV] at hc2
     obtain⟨⟨hk,h16⟩,hbd⟩:=hc2
     have hbd:b≠d:=fun e=>by subst e;simp at hbd
     split at h
     ·rename_i σ1 hm
      cases h
      refine⟨_,hg.take (tb:=.unit) hb (fc h16) hbd hd hm (vr hk (hg.hw.cH b _ hb) ?_ (fun x h1 h2=>hbd (hg.hw.dN b d _ _ x hb hd h1 h2)))⟩
      intro u hu
      obtain⟨s1,s2,g,en,clock,s3,s4,s5,s6,s7⟩:=hg.hw.cH d _ hd
      obtain⟨g',hg',eu⟩:=hu
      rw[s3] at hg';cases hg'
      have eu:u= .map (some g):=by simpa using eu
      exact⟨ys,rfl,s1,s2,g,en,clock,s3,eu,s4,RM.to s5,s6,s7⟩
     ·cases h
    ·cases h
   ·cases h
  ·cases h
 ·cases h
end Go.Ax
namespace Go.Ax
def A5(b:Nat):AV→Bool
 | .own c| .jR c _ _| .eP c=> !Nat.beq c b
 | .func _ fs cs=>A5 b fs&&A5 b cs&&fs.atoms&&cs.atoms
 | .iface _ v=>A5 b v
 | .cons a c=>A5 b a&&A5 b c
 | .bot| .gC _| .opt _ _=>false
 |_=>true
def nA(b:Nat)(x:AV):Option AV:=if A5 b x then some x else none
def Env.rs(E:Env)(b:Nat)(v:Value):Env:={E with sv:=fun c=>if c=b then v else E.sv c}
theorem Env.zl{E:Env}{b c:Nat}{v:Value}(h:c≠b):(E.rs b v).sv c=E.sv c:=by simp[Env.rs,h]
theorem FB{E:Env}{w:World}{b:Nat}{u:Value}:∀{x:AV}{vs:List Value},A5 b x=true→RC E w x vs→RC (E.rs b u) w x vs:=by
 intro x
 have ne:∀{c:Nat},(!Nat.beq c b)=true→c≠b:=fun h e=>by subst e;simp at h
 induction x with
 |jR c lo len=>intro vs h hr;simp only[RC];rw[Env.zl (ne h)];exact hr
 |own c=>intro vs h hr;simp only[RC];rw[Env.zl (ne h)];exact hr
 |eP c=>intro vs h hr;simp only[RC];rw[Env.zl (ne h)];exact hr
 |
  func fn fs cs ih1 ih2=>
  intro vs h hr
  simp only[A5,aV] at h
  obtain⟨f,c,e,h1,h2,h3,h4⟩:=hr
  exact⟨f,c,e,ih1 h.1.1.1 h1,ih2 h.1.1.2 h2,h3,h4⟩
 |
  iface t v ih=>
  intro vs h hr
  obtain⟨x,e,hr⟩:=hr
  refine⟨x,e,?_⟩
  rcases hr with⟨h1,cs,e2,h3⟩|⟨h1,h3⟩
  ·exact Or.inl ⟨h1,cs,e2,ih h h3⟩
  ·exact Or.inr ⟨h1,ih h h3⟩
 |
  cons a c ih1 ih2=>
  intro vs h hr
  simp only[A5,aV] at h
  obtain⟨v1,v2,e,h1,h2⟩:=hr
  exact⟨v1,v2,e,ih1 h.1 h1,ih2 h.2 h2⟩
 |bot=>intro vs h;simp[A5] at h
 |gC l=>intro vs h;simp[A5] at h
 |opt c v=>intro vs h;simp[A5] at h
 |_=>intro vs h hr;exact hr
theorem Ll{E:Env}{w:World}{b:Nat}{v:Value}:Good E (E.rs b v) w (nA b) where
 rc:=by
  intro x y vs h hr
  unfold nA at h
  split at h
  ·rename_i hn;cases h;exact FB hn hr
  ·cases h
 agg:=by
  intro x y h
  unfold nA at h
  split at h
  ·cases h;rfl
  ·cases h
 mp:=by
  intro c y h
  unfold nA at h
  split at h
  ·cases h;rfl
  ·cases h
 fn:=by
  intro fn fs cs y h
  unfold nA at h
  split at h
  ·rename_i hn
   cases h
   simp only[A5,aV] at hn
   exact⟨fs,cs,rfl,by unfold nA;rw[aA hn.1.1.1],by unfold nA;rw[aA hn.1.1.2],hn.1.2,hn.2⟩
  ·cases h
theorem cd.rs{gl:Ctx}{σ:St}{E:Env}{a:Act}{w:World}(hg:cd gl σ E a w){b:Nat}{k k':aN}{ty:Value}{σ1:St}(hb:σ.hp[b]? =some (some k))(h16:16≤b)(hm:St.gk (nA b) {σ with hp:=σ.hp.set b none}=some σ1)(hk:RB (E.rs b ty) w b k'):
 cd gl {σ1 with hp:=σ1.hp.set b (some k')} (E.rs b ty) a w∧Ext gl.md (Own σ.hp E) E w (Own (σ1.hp.set b (some k')) (E.rs b ty)) (E.rs b ty) w:=by
 have acg:=Ll (E:=E) (w:=w) (b:=b) (v:=ty)
 unfold St.gk at hm
 split at hm
 ·rename_i hp' df' h3 h4
  cases hm
  have src:∀(i:Nat)(k2:aN),(hp'.set b (some k'))[i]? =some (some k2)→(i=b∧k'=k2)∨(i≠b∧∃k0,σ.hp[i]? =some (some k0)∧iV (nA b) (some k0)=some (some k2)):=by
   intro i k2 hi
   rw[bK] at hi
   split at hi
   ·rename_i e;subst e
    split at hi
    ·cases hi;exact Or.inl ⟨rfl,rfl⟩
    ·cases hi
   ·rename_i hne
    obtain⟨k0,e1,e2⟩:=jJ h3 hi
    simp only[bK] at e1
    rw[aC hne] at e1
    exact Or.inr ⟨fun e=>hne e.symm,k0,e1,e2⟩
  have any:∀(i:Nat)(k2:aN),(hp'.set b (some k'))[i]? =some (some k2)→∃k0,σ.hp[i]? =some (some k0):=by
   intro i k2 hi
   rcases src i k2 hi with⟨e,_⟩|⟨_,k0,e,_⟩
   ·subst e;exact⟨k,hb⟩
   ·exact⟨k0,e⟩
  refine⟨⟨?_,?_,⟨?_,?_,?_,hg.hw.slt,hg.hw.gl,?_⟩,acg.RD h4 hg.df⟩,⟨rfl,Tp.r rfl rfl,rfl,cq _,fun _ _ _=>rfl,fun _ h=>h,fun _ h=>Or.inl h,?_,fun i hi=>⟨rfl,Env.zl (by omega),rfl⟩⟩⟩
  ·simp only[jH];exact hg.len
  ·intro i y hy v hv
   rcases jI hy with e|⟨x,e1,e2,e3⟩
   ·subst e;trivial
   ·exact RV.dO (acg.RV e3 (RV.js e2 (hg.tm i x e1 v hv)))
  ·intro i k2 hi
   rcases src i k2 hi with⟨e,e'⟩|⟨e1,k0,e3,e4⟩
   ·subst e;subst e';exact hk
   ·exact acg.RB (fun _ h=>h) (b:=i) (b':=i) rfl (Env.zl e1) rfl (fun _ _ h=>h) e4 (hg.hw.cH i k0 e3)
  ·intro i j k2 k3 g hi hj g1 g2
   obtain⟨k4,e1⟩:=any i k2 hi
   obtain⟨k5,e2⟩:=any j k3 hj
   exact hg.hw.dN i j k4 k5 g e1 e2 g1 g2
  ·intro i k2 g hi hgi hs
   obtain⟨k4,e1⟩:=any i k2 hi
   exact hg.hw.dq i k4 g e1 hgi hs
  ·intro i k2 g hi hgi
   obtain⟨k4,e1⟩:=any i k2 hi
   exact hg.hw.qG i k4 g e1 hgi
  ·rintro g ⟨i,k2,hi,hgi⟩
   obtain⟨k4,e1⟩:=any i k2 hi
   exact Or.inl ⟨i,k4,e1,hgi⟩
 ·cases hm
def oc(b:Nat)(σ:St):Option St:=
 match eC σ.hp b with
 |
  some (.pmap k t es e2 (some (kx,v,pr)))=>if Nat.ble 16 b&&k.keyed&&A5 b v then(match St.gk (nA b) {σ with hp:=σ.hp.set b none} with
  |some σ1=>some {σ1 with hp:=σ1.hp.set b (some (.fY k t es e2 kx v pr))}
  |none=>none) else none
 |_=>none
def mz(b:Nat)(σ:St):Option St:=
 match eC σ.hp b with
 |some (.fY k t es e2 kx v pr)=>some {σ with hp:=σ.hp.set b (some (.pmap k t es e2 (some (kx,v,pr))))}
 |_=>none
theorem PM.rs{E:Env}{w:World}{b:Nat}{u:Value}{kt t:Ty}{es:List (kt.den×t.den)}{e2:TypeId}{kx:kt.den}{v:AV}{pr:Bool}(hn:A5 b v=true)(h:PM E w b kt t es e2 (some (kx,v,pr))):PM (E.rs b u) w b kt t es e2 (some (kx,v,pr)):=by
 obtain⟨h1,h2,h3,g,en,clock,og,q1,q2,q3,q4,q5,q6,q7,q8⟩:=h
 refine⟨h1,h2,h3,g,en,clock,og,q1,q2,q3,q4,q5,q6,fun i x hx=>?_,fun kx' v'=>⟨fun hf hnn=>?_,(q8 kx' v').2⟩⟩
 ·obtain⟨m,r1,r2,r3,r4⟩:=q7 i x hx
  refine⟨m,r1,cF.mono (E:=E) (E':=E.rs b u) ⟨fun _ _=>rfl,fun _ h=>h⟩ (fun _ hb=>by cases hb) r2,fun v' pr' hv'=>?_,fun hv'=>r4 hv'⟩
  obtain⟨r5,r6⟩:=r3 v' pr' hv'
  cases hv'
  exact⟨r5,FB hn r6⟩
 ·have:=(q8 kx' v').1 hf hnn
  cases hf
  exact FB hn this
theorem Wk.oc{gl:Ctx}{b:Nat}{σ σ':St}(h:Ax.oc b σ=some σ'):Wk gl σ σ':=by
 intro E a w hg
 unfold Ax.oc at h
 split at h
 case h_2=>cases h
 rename_i k t es e2 kx v pr hb0
 have hb:=cw σ.hp b _ hb0
 split at h
 case isFalse=>cases h
 rename_i hc
 simp only[aV] at hc
 obtain⟨⟨c1,c2⟩,c3⟩:=hc
 split at h
 case h_2=>cases h
 rename_i σ1 hm
 cases h
 have hpm:PM E w b k t es e2 (some (kx,v,pr)):=hg.hw.cH b _ hb
 have hpm':=hpm
 obtain⟨z1,z2,z3,g,en,clock,og,y1,y2,y3,y4,y5,y6,y7,y8⟩:=hpm'
 have key:∃n:Nat,(kx∉es.map (·.1)→n=clock)∧∀(i:Nat)(m:MapEntry)(y:t.den),es[i]? =some (kx,y)→en[i]? =some m→m.born=n:=by
  by_cases hin:kx∈es.map (·.1)
  ·obtain⟨⟨zk,zy⟩,hz,ez⟩:=List.mem_map.1 hin
   simp only at ez;subst ez
   obtain⟨i,s1⟩:=List.getElem?_of_mem hz
   obtain⟨m,s2,_⟩:=y7 i _ s1
   refine⟨m.born,fun hh=>absurd hin hh,fun j m' y hj hm'=>?_⟩
   have:=nW z1 hj s1
   subst this
   rw[s2] at hm';cases hm';rfl
  ·refine⟨clock,fun _=>rfl,fun j m' y hj _=>?_⟩
   exact absurd (List.mem_map.2 ⟨_,fP hj,rfl⟩) hin
 obtain⟨n,k1,k2⟩:=key
 refine⟨_,hg.rs (ty:=.int .i64 n) hb (fc c1) hm ⟨hpm.rs c3,n,g,en,clock,by simp[Env.rs],y1,y2,k1,k2⟩⟩
theorem Wk.mz{gl:Ctx}{b:Nat}{σ σ':St}(h:Ax.mz b σ=some σ'):Wk gl σ σ':=by
 intro E a w hg
 unfold Ax.mz at h
 split at h
 ·rename_i k t es e2 kx v pr hb0
  have hb:=cw σ.hp b _ hb0
  cases h
  obtain⟨hpm,_⟩:=hg.hw.cH b _ hb
  have hw:=hg.hw.write (w':=w) (k':=.pmap k t es e2 (some (kx,v,pr))) hb rfl (fun _ _=>rfl) hpm
  exact⟨E,hg.carry ⟨fun _ _=>rfl,fun _ h=>h⟩ (fun _ _=>⟨rfl,rfl,rfl⟩) hw,{Ext.refl (md:=gl.md) (Own σ.hp E) E w with own:=fun g hg'=>Or.inl (Own.set hb hg')}⟩
 ·cases h
end Go.Ax
namespace Go.Ax
def IQ(b b' c:Nat):Nat:=if Nat.beq c b then b' else c
def rn(b b':Nat):AV→Option AV
 | .own c=>some (.own (IQ b b' c))
 | .jR c lo len=>some (.jR (IQ b b' c) lo len)
 | .jb c p lo len=>some (.jb (IQ b b' c) p lo len)
 | .ptr c p=>some (.ptr (IQ b b' c) p)
 | .mp c=>some (.mp (IQ b b' c))
 |
  .func fn fs cs=>match rn b b' fs,rn b b' cs with
  |some f,some c=>if f.atoms&&c.atoms then some (.func fn f c) else none
  |_,_=>none
 |
  .iface u v=>match rn b b' v with
  |some x=>some (.iface u x)
  |none=>none
 |
  .cons x y=>match rn b b' x,rn b b' y with
  |some u,some v=>some (.cons u v)
  |_,_=>none
 | .bot=>none
 | .gC _=>none
 | .opt _ _=>none
 | .eP _=>none
 |x=>some x
def Env.mv(E:Env)(b b':Nat):Env:={E with P:=fun c=>if c=b' then E.P b else E.P c,g:=fun c=>if c=b' then E.g b else E.g c,sv:=fun c=>if c=b' then E.sv b else E.sv c,bt:=fun c=>if c=b' then E.bt b else E.bt c}
theorem vu{E:Env}{b b' c:Nat}(h:c≠b'):(E.mv b b').g (IQ b b' c)=E.g c∧(E.mv b b').sv (IQ b b' c)=E.sv c∧(E.mv b b').bt (IQ b b' c)=E.bt c:=by
 unfold IQ
 split
 ·rename_i e;have e:=bQ e;subst e;simp[Env.mv]
 ·simp[Env.mv,h]
theorem FC(b b':Nat)(x y:AV)(h:rn b b' x=some y):y.isAgg=x.isAgg:=by
 cases x with
 |
  func fn fs cs=>
  simp only[rn] at h
  split at h
  ·split at h
   ·cases h;rfl
   ·cases h
  ·cases h
 |
  iface u v=>
  simp only[rn] at h
  split at h
  ·cases h;rfl
  ·cases h
 |
  cons a c=>
  simp only[rn] at h
  split at h
  ·cases h;rfl
  ·cases h
 |bot=>simp[rn] at h
 |gC l=>simp[rn] at h
 |opt c v=>simp[rn] at h
 |eP c=>simp[rn] at h
 |_=>simp only[rn,cE] at h;subst h;rfl
theorem Nz{E:Env}{w:World}{b b':Nat}:∀{x y:AV}{vs:List Value},b'∉x.ids→rn b b' x=some y→RC E w x vs→RC (E.mv b b') w y vs:=by
 intro x
 induction x with
 |own c=>
  intro y vs hi h hr;simp only[rn,cE] at h;subst h
  obtain⟨_,e2,_⟩:=vu (E:=E) (b:=b) (b':=b') (c:=c) (fun e=>hi (by simp[AV.ids,e]))
  simp only[RC];rw[e2];exact hr
 |jR c lo len=>
  intro y vs hi h hr;simp only[rn,cE] at h;subst h
  obtain⟨_,e2,e3⟩:=vu (E:=E) (b:=b) (b':=b') (c:=c) (fun e=>hi (by simp[AV.ids,e]))
  simp only[RC];rw[e2,e3];exact hr
 |jb c p lo len=>
  intro y vs hi h hr;simp only[rn,cE] at h;subst h
  obtain⟨e1,_,e3⟩:=vu (E:=E) (b:=b) (b':=b') (c:=c) (fun e=>hi (by simp[AV.ids,e]))
  simp only[RC];rw[e1,e3];exact hr
 |ptr c p=>
  intro y vs hi h hr;simp only[rn,cE] at h;subst h
  obtain⟨e1,_,e3⟩:=vu (E:=E) (b:=b) (b':=b') (c:=c) (fun e=>hi (by simp[AV.ids,e]))
  simp only[RC];rw[e1,e3];exact hr
 |mp c=>
  intro y vs hi h hr;simp only[rn,cE] at h;subst h
  obtain⟨e1,_,_⟩:=vu (E:=E) (b:=b) (b':=b') (c:=c) (fun e=>hi (by simp[AV.ids,e]))
  simp only[RC];rw[e1];exact hr
 |
  func fn fs cs ih1 ih2=>
  intro y vs hi h hr
  simp only[rn] at h
  simp only[AV.ids,gA,not_or] at hi
  split at h
  ·rename_i f c h1 h2
   split at h
   ·rename_i ha
    cases h
    simp only[aV] at ha
    obtain⟨f',c',e,r1,r2,_,_⟩:=hr
    exact⟨f',c',e,ih1 hi.1 h1 r1,ih2 hi.2 h2 r2,ha.1,ha.2⟩
   ·cases h
  ·cases h
 |
  iface u v ih=>
  intro y vs hi h hr
  simp only[rn] at h
  split at h
  ·rename_i z hz
   cases h
   obtain⟨x,e,hr⟩:=hr
   refine⟨x,e,?_⟩
   have abJ:=FC b b' v z hz
   rcases hr with⟨h1,cs,e2,h3⟩|⟨h1,h3⟩
   ·exact Or.inl ⟨by rw[abJ];exact h1,cs,e2,ih hi hz h3⟩
   ·exact Or.inr ⟨by rw[abJ];exact h1,ih hi hz h3⟩
  ·cases h
 |
  cons a c ih1 ih2=>
  intro y vs hi h hr
  simp only[rn] at h
  simp only[AV.ids,gA,not_or] at hi
  split at h
  ·rename_i u v h1 h2
   cases h
   obtain⟨v1,v2,e,r1,r2⟩:=hr
   exact⟨v1,v2,e,ih1 hi.1 h1 r1,ih2 hi.2 h2 r2⟩
  ·cases h
 |bot=>intro y vs _ h;simp[rn] at h
 |gC l=>intro y vs _ h;simp[rn] at h
 |opt c v=>intro y vs _ h;simp[rn] at h
 |eP c=>intro y vs _ h;simp[rn] at h
 |_=>intro y vs _ h hr;simp only[rn,cE] at h;subst h;exact hr
theorem Lm{E:Env}{w:World}{b b':Nat}:Good E (E.mv b b') w (fun x=>if cT b' x.ids then none else rn b b' x) where
 mp:=by
  intro c y h
  split at h
  ·cases h
  ·rename_i hn
   have hn:=eJ (show cT b' (AV.mp c).ids=false by simpa using hn)
   simp only[rn,cE,AV.mp.injEq] at h
   subst h
   exact(vu (fun e=>hn (by simp[AV.ids,e]))).1
 rc:=by
  intro x y vs h hr
  split at h
  ·cases h
  ·rename_i hn;exact Nz (eJ (by simpa using hn)) h hr
 agg:=by
  intro x y h
  split at h
  ·cases h
  ·exact FC b b' x y h
 fn:=
  by
  intro fn fs cs y h
  split at h
  ·cases h
  ·rename_i hn
   have hn:=eJ (show cT b' (AV.func fn fs cs).ids=false by simpa using hn)
   simp only[AV.ids,gA,not_or] at hn
   simp only[rn] at h
   have f1:cT b' fs.ids=false:=by
    cases hh:cT b' fs.ids with
    |false=>rfl
    |true=>exact absurd (hasNatMem hh) hn.1
   have f2:cT b' cs.ids=false:=by
    cases hh:cT b' cs.ids with
    |false=>rfl
    |true=>exact absurd (hasNatMem hh) hn.2
   split at h
   ·rename_i f c h1 h2
    split at h
    ·rename_i ha
     cases h
     simp only[aV] at ha
     exact⟨f,c,rfl,by simp[f1,h1],by simp[f2,h2],ha.1,ha.2⟩
    ·cases h
   ·cases h
where
 hasNatMem {d:Nat}:∀{l:List Nat},cT d l=true→d∈l
  |[],h=>by cases h
  |
   x::l,h=>by
   simp only[cT,ek] at h
   rcases h with h|h
   ·rw[bQ h];exact cK ..
   ·exact dr _ (hasNatMem h)
def rename(b b':Nat)(σ:St):Option St:=
 match eC σ.hp b,eC σ.hp b' with
 |
  some k,none=>if Nat.beq b b'||Nat.blt b' 16 then none else
  match St.gk (fun x=>if cT b' x.ids then none else rn b b' x) {σ with hp:=σ.hp.set b none},iV (fun x=>if cT b' x.ids then none else rn b b' x) (some k) with
  |some σ',some k'=>some {σ' with hp:=σ'.hp.set b' k'}
  |_,_=>none
 |_,_=>none
theorem Wk.rename{gl:Ctx}{b b':Nat}{σ σ':St}(h:Ax.rename b b' σ=some σ'):Wk gl σ σ':=by
 intro E a w hg
 unfold Ax.rename at h
 split at h
 ·rename_i k hk hk'
  have hbk:=cw σ.hp b k hk
  split at h
  ·cases h
  ·rename_i hne0
   have hne:b≠b':=fun e=>hne0 (by simp[e])
   have h16:16≤b':=by
    rcases Nat.lt_or_ge b' 16 with hq|hq
    ·have hq':Nat.blt b' 16=true:=Nat.ble_eq_true_of_le (Nat.succ_le_of_lt hq)
     exact absurd (by rw[hq'];simp) hne0
    ·exact hq
   split at h
   ·rename_i σ1 k1 h1 h2
    cases h
    unfold St.gk at h1
    split at h1
    ·rename_i hp' df' h3 h4
     cases h1
     have acg:=Lm (E:=E) (w:=w) (b:=b) (b':=b')
     have hEh:∀i j,(i=b'→j=b)→(i≠b'→j=i)→∀x,(E.mv b b').has i x↔E.has j x:=by
      intro i j h1 h2 x
      by_cases hi:i=b'
      ·rw[h1 hi,hi];simp[Env.has,Env.mv]
      ·rw[h2 hi];simp[Env.has,Env.mv,hi]
     have hEo:∀i,i≠b'→(E.mv b b').g i=E.g i∧(E.mv b b').sv i=E.sv i∧(E.mv b b').bt i=E.bt i:=fun i hi=>by simp[Env.mv,hi]
     have hEn:(E.mv b b').g b'=E.g b∧(E.mv b b').sv b'=E.sv b∧(E.mv b b').bt b'=E.bt b:=by simp[Env.mv]
     have src:∀(i:Nat)(k':aN),(hp'.set b' k1)[i]? =some (some k')→(i=b'∧k1=some k')∨(i≠b'∧i≠b∧∃k0,σ.hp[i]? =some (some k0)∧iV (fun x=>if cT b' x.ids then none else rn b b' x) (some k0)=some (some k')):=by
      intro i k' hi
      rw[bK] at hi
      split at hi
      ·rename_i e;subst e
       split at hi
       ·cases hi;exact Or.inl ⟨rfl,rfl⟩
       ·cases hi
      ·rename_i hne'
       obtain⟨k0,e1,e2⟩:=jJ h3 hi
       simp only[bK] at e1
       split at e1
       ·split at e1<;>cases e1
       ·rename_i hne2;exact Or.inr ⟨fun e=>hne' e.symm,fun e=>hne2 e.symm,k0,e1,e2⟩
     have gOf:∀(i:Nat)(k':aN),(hp'.set b' k1)[i]? =some (some k')→∃j k0,σ.hp[j]? =some (some k0)∧(∀x,(E.mv b b').has i x↔E.has j x)∧(i=b'→j=b)∧(i≠b'→j=i):=by
      intro i k' hi
      rcases src i k' hi with⟨e,_⟩|⟨e1,e2,k0,e3,_⟩
      ·subst e;exact⟨b,k,hbk,hEh _ _ (fun _=>rfl) (fun e=>absurd rfl e),fun _=>rfl,fun e=>absurd rfl e⟩
      ·exact⟨i,k0,e3,hEh _ _ (fun e=>absurd e e1) (fun _=>rfl),fun e=>absurd e e1,fun _=>rfl⟩
     refine⟨E.mv b b',⟨?_,?_,⟨?_,?_,?_,hg.hw.slt,hg.hw.gl,?_⟩,acg.RD h4 hg.df⟩,⟨rfl,Tp.r rfl rfl,rfl,cq _,fun _ _ _=>rfl,fun _ h=>h,fun _ h=>Or.inl h,?_,fun i hi=>hEo i (by omega)⟩⟩
     ·simp only[jH];exact hg.len
     ·intro i y hy v hv
      rcases jI hy with e|⟨x,e1,e2,e3⟩
      ·subst e;trivial
      ·exact RV.dO (acg.RV e3 (RV.js e2 (hg.tm i x e1 v hv)))
     ·intro i k' hi
      rcases src i k' hi with⟨e,e'⟩|⟨e1,e2,k0,e3,e4⟩
      ·subst e
       rw[e'] at h2
       exact acg.RB (fun _ h=>h) (b:=b) (b':=i) hEn.1 hEn.2.1 hEn.2.2 (fun _ g hp=>by simpa[Env.mv] using hp) h2 (hg.hw.cH b k hbk)
      ·exact acg.RB (fun _ h=>h) (b:=i) (b':=i) (hEo i e1).1 (hEo i e1).2.1 (hEo i e1).2.2 (fun _ g hp=>by simpa[Env.mv,e1] using hp) e4 (hg.hw.cH i k0 e3)
     ·intro i j k2 k3 g' hi hj g1 g2
      obtain⟨i',k4,e1,e2,e3,e4⟩:=gOf i k2 hi
      obtain⟨j',k5,f1,f2,f3,f4⟩:=gOf j k3 hj
      have g1:=(e2 _).1 g1;have g2:=(f2 _).1 g2
      have hij:=hg.hw.dN i' j' k4 k5 g' e1 f1 g1 g2
      by_cases hi':i=b'<;>by_cases hj':j=b'
      ·rw[hi',hj']
      ·have h1:=e3 hi';have h2:=f4 hj'
       rcases src j k3 hj with⟨q,_⟩|⟨_,q,_⟩
       ·exact absurd q hj'
       ·exact absurd (by rw[←h2,←hij,h1]) q
      ·have h1:=e4 hi';have h2:=f3 hj'
       rcases src i k2 hi with⟨q,_⟩|⟨_,q,_⟩
       ·exact absurd q hi'
       ·exact absurd (by rw[←h1,hij,h2]) q
      ·rw[←e4 hi',←f4 hj',hij]
     ·intro i k' g' hi hgi hs
      obtain⟨i',k4,e1,e2,_,_⟩:=gOf i k' hi
      exact hg.hw.dq i' k4 g' e1 ((e2 _).1 hgi) hs
     ·intro i k' g' hi hgi
      obtain⟨i',k4,e1,e2,_,_⟩:=gOf i k' hi
      rcases(e2 _).1 (Or.inr hgi) with q|q
      ·exact Own.below hg.hw ⟨i',k4,e1,Or.inl q⟩
      ·exact hg.hw.qG i' k4 g' e1 q
     ·rintro g' ⟨i,k',hi,hgi⟩
      obtain⟨i',k4,e1,e2,_,_⟩:=gOf i k' hi
      exact Or.inl ⟨i',k4,e1,(e2 _).1 hgi⟩
    ·cases h1
   ·cases h
 ·cases h
def xB(s b:Nat)(e:TypeId)(bs:Nat)(t:Ty)(σ:St):Option St:=
 match σ.tm[s]? with
 |some .bA=>if σ.eY b&&Nat.blt 0 t.size then some {σ with tm:=σ.tm.set s (.own b),hp:=σ.hp.set b (some (.row e bs t []))} else none
 |_=>none
theorem Wk.xB{gl:Ctx}{s b:Nat}{e:TypeId}{bs:Nat}{t:Ty}{σ σ':St}(h:Ax.xB s b e bs t σ=some σ'):Wk gl σ σ':=by
 intro E a w hg
 unfold Ax.xB at h
 split at h
 ·rename_i hs
  split at h
  ·rename_i hc
   cases h
   simp only[aV] at hc
   have hlt:s<a.tmps.size:=by rw[hg.len];exact(List.getElem?_eq_some_iff.1 hs).1
   have ha:=RV.atom rfl (hg.tm s _ hs a.tmps[s] (by simp[hlt]))
   simp[RC] at ha
   have hsz:0<t.size:=by have:=hc.2;simp[Nat.blt] at this;omega
   obtain⟨g1,x1⟩:=hg.fresh (w':=w) (St.dK hc.1) (g:=none) (sv:=.slice none 0 0) (t:=.arr 0 t) (k:=.row e bs t []) rfl (Tp.r rfl rfl) rfl (cq _) (fun _ _=>rfl) (fun i hi=>by cases hi)
    ⟨by simp[Env.at],by simp,by simp,hsz,none,0,by simp[Env.at],by simp[maxLen],Or.inl ⟨⟨rfl,rfl⟩,by simp[Env.at],rfl⟩⟩
   refine⟨_,⟨by simp[hg.len],?_,g1.hw,g1.df⟩,x1⟩
   intro i x hx v hv
   rw[bK] at hx
   split at hx
   ·rename_i e';subst e'
    split at hx
    ·cases hx
     have:v= .slice none 0 0:=by rw[Array.getElem?_eq_getElem hlt] at hv;cases hv;exact ha
     subst this
     exact RV.dO (Or.inr ⟨rfl,by simp[Env.at],none,0,0,by simp[Env.at]⟩)
    ·cases hx
   ·exact g1.tm i x hx v hv
  ·cases h
 ·cases h
def jK:Ty→Path→Bool
 | .pair a _,.cD 0::p=>jK a p
 | .pair _ b,.cD (k+1)::p=>jK b (.cD k::p)
 |_,[]=>true
 |_,_=>false
theorem mS:∀{t:Ty}{p:Path},jK t p=true→t.valid p:=by
 intro t
 induction t with
 |
  pair a b ih1 ih2=>
  intro p h
  cases p with
  |nil=>simp[Ty.valid]
  |
   cons s p=>
   cases s with
   |
    cD k=>cases k with
    |zero=>simp only[jK] at h;simp only[Ty.valid];exact ih1 h
    |succ k=>simp only[jK] at h;simp only[Ty.valid];exact ih2 h
   |idx i=>simp[jK] at h
 |
  _=>
  intro p h
  cases p with
  |nil=>simp[Ty.valid]
  |cons s p=>simp[jK] at h
def rp(c:Nat)(p:Path)(b:Nat)(e:TypeId)(bs:Nat)(t:Ty)(σ:St):Option St:=
 match eC σ.hp c with
 |
  some (.var tt v)=>match v.get p,v.set p (.own b) with
  |some .bA,some u=>if σ.eY b&&Nat.blt 0 t.size&&u.bW tt&&jK tt p&& !Nat.beq c b then some {σ with hp:=(σ.hp.set b (some (.row e bs t []))).set c (some (.var tt u))} else none
  |_,_=>none
 |
  some (.bZ e2 bs2 tt xs i v)=>match v.get p,v.set p (.own b) with
  |some .bA,some u=>if σ.eY b&&Nat.blt 0 t.size&&u.bW tt&&jK tt p&& !Nat.beq c b then some {σ with hp:=(σ.hp.set b (some (.row e bs t []))).set c (some (.bZ e2 bs2 tt xs i u))} else none
  |_,_=>none
 |_=>none
theorem Wk.rp{gl:Ctx}{c:Nat}{p:Path}{b:Nat}{e:TypeId}{bs:Nat}{t:Ty}{σ σ':St}(h:Ax.rp c p b e bs t σ=some σ'):Wk gl σ σ':=by
 intro E a w hg
 unfold Ax.rp at h
 split at h
 ·rename_i tt v hc
  have hbk:=cw σ.hp c _ hc
  split at h
  ·rename_i u abT aO
   split at h
   ·rename_i hk
    cases h
    simp only[aV] at hk
    obtain⟨⟨⟨⟨k1,k2⟩,k3⟩,k4⟩,k5⟩:=hk
    have hcb:c≠b:=fun e'=>by subst e';simp at k5
    have hsz:0<t.size:=by have:=k2;simp[Nat.blt] at this;omega
    obtain⟨g1,x1⟩:=hg.fresh (w':=w) (St.dK k1) (g:=none) (sv:=.slice none 0 0) (t:=.arr 0 t) (k:=.row e bs t []) rfl (Tp.r rfl rfl) rfl (cq _) (fun _ _=>rfl) (fun i hi=>by cases hi)
     ⟨by simp[Env.at],by simp,by simp,hsz,none,0,by simp[Env.at],by simp[maxLen],Or.inl ⟨⟨rfl,rfl⟩,by simp[Env.at],rfl⟩⟩
    have hb1:(σ.hp.set b (some (.row e bs t [])))[c]? =some (some (.var tt v)):=by
     rw[bK,aC (fun e'=>hcb e'.symm)];exact hbk
    obtain⟨r1,r2,g,cs,e',r3,r4,r5⟩:=g1.hw.cH c _ hb1
    have hva:=mS k4
    obtain⟨s,q1,q2,q3,q4⟩:=AV.eV r5 r2 hva abT
    have hs1:s.size=1:=AV.dR q2▸rfl
    have hown:RC (E.at b none (.slice none 0 0) (.arr 0 t)) w (.own b) [.slice none 0 0]:=⟨by simp[Env.at],none,0,0,by simp[Env.at]⟩
    obtain⟨s',p1,p2,p3,p4⟩:=AV.kX hown r5 r2 hva (fun s' hs'=>by rw[q1] at hs';cases hs';simp[hs1]) aO
    rw[q1] at p1;cases p1
    simp only[RC] at q4
    have hcs:cs.toList.take (tt.off p)++[Value.slice none 0 0]++cs.toList.drop (tt.off p+s.size)=cs.toList:=by
     rw[←q4,jV,←gP,iI,iI]
    rw[hcs] at p4
    have hw2:=g1.hw.write (w':=w) (k':=.var tt u) hb1 rfl (fun _ _=>rfl) ⟨r1,k3,g,cs,e',r3,r4,p4⟩
    refine⟨_,⟨g1.len,g1.tm,hw2,g1.df⟩,{x1 with own:=?_ }⟩
    intro g' hg'
    exact x1.own g' (Own.mf hb1 hg')
   ·cases h
  ·cases h
 ·rename_i e2 bs2 tt xs i v hc
  have hbk:=cw σ.hp c _ hc
  split at h
  ·rename_i u abT aO
   split at h
   ·rename_i hk
    cases h
    simp only[aV] at hk
    obtain⟨⟨⟨⟨k1,k2⟩,k3⟩,k4⟩,k5⟩:=hk
    have hcb:c≠b:=fun e'=>by subst e';simp at k5
    have hsz:0<t.size:=by have:=k2;simp[Nat.blt] at this;omega
    obtain⟨g1,x1⟩:=hg.fresh (w':=w) (St.dK k1) (g:=none) (sv:=.slice none 0 0) (t:=.arr 0 t) (k:=.row e bs t []) rfl (Tp.r rfl rfl) rfl (cq _) (fun _ _=>rfl) (fun i hi=>by cases hi)
     ⟨by simp[Env.at],by simp,by simp,hsz,none,0,by simp[Env.at],by simp[maxLen],Or.inl ⟨⟨rfl,rfl⟩,by simp[Env.at],rfl⟩⟩
    have hb1:(σ.hp.set b (some (.row e bs t [])))[c]? =some (some (.bZ e2 bs2 tt xs i v)):=by
     rw[bK,aC (fun e'=>hcb e'.symm)];exact hbk
    obtain⟨h1,h2,h3,h4,h5,r2,g,cap,cs,z1,z2,z3,z4,z5,z6,z7,r5,z9⟩:=g1.hw.cH c _ hb1
    have hva:=mS k4
    obtain⟨s,q1,q2,q3,q4⟩:=AV.eV r5 r2 hva abT
    have hs1:s.size=1:=AV.dR q2▸rfl
    have hown:RC (E.at b none (.slice none 0 0) (.arr 0 t)) w (.own b) [.slice none 0 0]:=⟨by simp[Env.at],none,0,0,by simp[Env.at]⟩
    obtain⟨s',p1,p2,p3,p4⟩:=AV.kX hown r5 r2 hva (fun s' hs'=>by rw[q1] at hs';cases hs';simp[hs1]) aO
    rw[q1] at p1;cases p1
    simp only[RC] at q4
    have hcs:((cs.toList.drop (i*tt.size)).take tt.size).take (tt.off p)++[Value.slice none 0 0]++((cs.toList.drop (i*tt.size)).take tt.size).drop (tt.off p+s.size)=(cs.toList.drop (i*tt.size)).take tt.size:=by
     rw[←q4,jV,←gP,iI,iI]
    rw[hcs] at p4
    have hw2:=g1.hw.write (w':=w) (k':=.bZ e2 bs2 tt xs i u) hb1 rfl (fun _ _=>rfl) ⟨h1,h2,h3,h4,h5,k3,g,cap,cs,z1,z2,z3,z4,z5,z6,z7,p4,z9⟩
    refine⟨_,⟨g1.len,g1.tm,hw2,g1.df⟩,{x1 with own:=?_ }⟩
    intro g' hg'
    exact x1.own g' (Own.mf hb1 hg')
   ·cases h
  ·cases h
 ·cases h
def Env.tr(E:Env)(b d:Nat)(v:Value)(t:Ty):Env:=
 {E with P:=fun c=>if c=d then E.P b else E.P c,g:=fun c=>if c=d then E.g b else E.g c,sv:=fun c=>if c=d then v else E.sv c,bt:=fun c=>if c=d then t else E.bt c}
theorem Env.Cv{E:Env}{b d:Nat}{v:Value}{t:Ty}{ids:List Nat}(h:d∉ids):E.on (E.tr b d v t) ids:=fun c hc=>by
 have:c≠d:=fun e=>h (e▸hc)
 simp[Env.tr,this]
def nB(c:Nat)(p:Path)(d:Nat)(σ:St):Option St:=
 match eC σ.hp c with
 |
  some (.var tt v)=>match v.get p,v.set p (.own d) with
  |
   some (.jR b 0 len),some u=>match eC σ.hp b with
   |some (.row e bs t xs)=>if σ.eY d&&u.bW tt&&jK tt p&& !Nat.beq c b then some {σ with hp:=((σ.hp.set b none).set d (some (.row e bs t (xs.take len)))).set c (some (.var tt u))} else none
   |_=>none
  |_,_=>none
 |_=>none
theorem Wk.nB{gl:Ctx}{c:Nat}{p:Path}{d:Nat}{σ σ':St}(h:Ax.nB c p d σ=some σ'):Wk gl σ σ':=by
 intro E a w hg
 unfold Ax.nB at h
 split at h
 case h_2=>cases h
 rename_i tt v hc
 have hbk:=cw σ.hp c _ hc
 split at h
 case h_2=>cases h
 rename_i b len u abT aO
 split at h
 case h_2=>cases h
 rename_i e bs t xs hb
 have hbr:=cw σ.hp b _ hb
 split at h
 case isFalse=>cases h
 rename_i hk
 cases h
 simp only[aV] at hk
 obtain⟨⟨⟨k1,k2⟩,k3⟩,k4⟩:=hk
 have hcb:c≠b:=fun e'=>by subst e';simp at k4
 have hfr:=St.dK k1
 have ack:=k8.1 hfr.1
 have hdb:d≠b:=fun e'=>hfr.2.1 _ (e'▸hbr)
 have hdc:d≠c:=fun e'=>hfr.2.1 _ (e'▸hbk)
 have hdv:d∉v.ids:=ack.2.2 c _ hbk
 have h16:16≤d:=hfr.2.2
 obtain⟨r1,r2,g,cs,e',r3,r4,r5⟩:=hg.hw.cH c _ hbk
 obtain⟨s1,s2,s3,s4,ra,cap,s5,s6,s7⟩:=hg.hw.cH b _ hbr
 have hva:=mS k3
 obtain⟨s,q1,q2,q3,q4⟩:=AV.eV r5 r2 hva abT
 have hs1:s.size=1:=AV.dR q2▸rfl
 obtain⟨a1,c1,n1,t1,z1,z2,z3,z4,a',z5,z6⟩:=q4
 rw[s5] at z2;cases z2
 have za:a'=ra:=by
  rcases z6 with z6|z6
  ·exact absurd rfl z6.2
  ·rw[z6]
   rcases s7 with⟨⟨_,x⟩,_⟩|⟨g',c',_,x,_⟩
   ·rw[x];rfl
   ·rw[x];simp[Addr.gr]
 rw[za] at z5
 have hlen:(xs.take len).length=len:=by rw[fe];omega
 have kp:bM E w (E.tr b d (.slice ra len cap) (.arr (xs.take len).length t)) w:=⟨fun _ _=>rfl,fun _ h=>h⟩
 have hEh:∀i j,(i=d→j=b)→(i≠d→j=i)→∀x,(E.tr b d (.slice ra len cap) (.arr (xs.take len).length t)).has i x↔E.has j x:=by
  intro i j h1 h2 x
  by_cases hi:i=d
  ·rw[h1 hi,hi];simp[Env.has,Env.tr]
  ·rw[h2 hi];simp[Env.has,Env.tr,hi]
 have src:∀(i:Nat)(k':aN),((((σ.hp.set b none).set d (some (.row e bs t (xs.take len)))).set c (some (.var tt u)))[i]? =some (some k'))→
  (i=c∧k'= .var tt u)∨(i=d∧k'= .row e bs t (xs.take len))∨(i≠c∧i≠d∧i≠b∧σ.hp[i]? =some (some k')):=by
  intro i k' hi
  rw[bK] at hi
  split at hi
  ·rename_i e1
   split at hi
   ·cases hi;exact Or.inl ⟨e1.symm,rfl⟩
   ·cases hi
  ·rename_i e1
   rw[bK] at hi
   split at hi
   ·rename_i e2
    split at hi
    ·cases hi;exact Or.inr (Or.inl ⟨e2.symm,rfl⟩)
    ·cases hi
   ·rename_i e2
    rw[bK] at hi
    split at hi
    ·split at hi<;>cases hi
    ·rename_i e3
     exact Or.inr (Or.inr ⟨fun x=>e1 x.symm,fun x=>e2 x.symm,fun x=>e3 x.symm,hi⟩)
 have gOf:∀(i:Nat)(k':aN),((((σ.hp.set b none).set d (some (.row e bs t (xs.take len)))).set c (some (.var tt u)))[i]? =some (some k'))→
  ∃j k0,σ.hp[j]? =some (some k0)∧(∀x,(E.tr b d (.slice ra len cap) (.arr (xs.take len).length t)).has i x↔E.has j x)∧(i=d→j=b)∧(i≠d→j=i):=by
  intro i k' hi
  rcases src i k' hi with⟨rfl,_⟩|⟨rfl,_⟩|⟨e1,e2,e3,e4⟩
  ·exact⟨i,_,hbk,hEh _ _ (fun x=>absurd x.symm hdc) (fun _=>rfl),fun x=>absurd x.symm hdc,fun _=>rfl⟩
  ·exact⟨b,_,hbr,hEh _ _ (fun _=>rfl) (fun x=>absurd rfl x),fun _=>rfl,fun x=>absurd rfl x⟩
  ·exact⟨i,k',e4,hEh _ _ (fun x=>absurd x e2) (fun _=>rfl),fun x=>absurd x e2,fun _=>rfl⟩
 refine⟨E.tr b d (.slice ra len cap) (.arr (xs.take len).length t),⟨hg.len,?_,⟨?_,?_,?_,hg.hw.slt,hg.hw.fT kp,?_⟩,RD.mono kp (fun x hx=>Env.Cv (fun hd=>ack.2.1 x hx hd)) hg.df⟩,
  ⟨rfl,Tp.r rfl rfl,rfl,cq _,fun _ _ _=>rfl,fun _ h=>h,fun _ h=>Or.inl h,?_,fun i hi=>by have:i≠d:=(by omega);simp[Env.tr,this]⟩⟩
 ·intro i x hx v hv
  exact RV.mono kp (Env.Cv (fun hd=>ack.1 i x hx hd)) (hg.tm i x hx v hv)
 ·intro i k' hi
  rcases src i k' hi with⟨rfl,rfl⟩|⟨rfl,rfl⟩|⟨e1,e2,e3,e4⟩
  ·have r5':=RC.mono kp (Env.Cv hdv) r5
   have hown:RC (E.tr b d (.slice ra len cap) (.arr (xs.take len).length t)) w (.own d) [.slice ra len cap]:=⟨by simp[Env.tr],ra,len,cap,by simp[Env.tr]⟩
   obtain⟨s',p1,p2,p3,p4⟩:=AV.kX hown r5' r2 hva (fun s' hs'=>by rw[q1] at hs';cases hs';simp[hs1]) aO
   rw[q1] at p1;cases p1
   have z5':List.take s.size (List.drop (tt.off p) cs.toList)= [.slice ra len cap]:=by rw[z5];rfl
   have hcs:cs.toList.take (tt.off p)++[Value.slice ra len cap]++cs.toList.drop (tt.off p+s.size)=cs.toList:=by
    rw[←z5',jV,←gP,iI,iI]
   rw[hcs] at p4
   exact⟨by simpa[Env.tr,Ne.symm hdc] using r1,k2,g,cs,e',by simpa[Env.tr,Ne.symm hdc] using r3,r4,p4⟩
  ·refine⟨by simp[Env.tr],by rw[hlen];exact da (fv _ (by omega)) s2,by rw[hlen];omega,s4,ra,cap,by simp[Env.tr,hlen],s6,?_⟩
   rcases s7 with⟨x1,x2,x3⟩|⟨g',c',x1,x2,x3,x4,x5,x6⟩
   ·exact Or.inl ⟨x1,by simpa[Env.tr] using x2,by rw[x3];simp⟩
   ·refine Or.inr ⟨g',c',by simpa[Env.tr] using x1,x2,x3,x4,by rw[hlen];omega,?_⟩
    have:=aT.take (fun vs x=>Rel.len) len x6
    rw[kz,iN (fv _ (by omega))] at this
    rw[hlen];exact this
  ·exact RB.mono kp (Env.Cv (by simp only[eA,not_or];exact⟨fun x=>e2 x.symm,ack.2.2 i k' e4⟩)) (fun _ _=>rfl) (fun _ g hp=>by simpa[Env.tr,e2] using hp) (hg.hw.cH i k' e4)
 ·intro i j k2 k3 g' hi hj g1 g2
  obtain⟨i',k4,e1,e2,e3,e4⟩:=gOf i k2 hi
  obtain⟨j',k5,f1,f2,f3,f4⟩:=gOf j k3 hj
  have hij:=hg.hw.dN i' j' k4 k5 g' e1 f1 ((e2 _).1 g1) ((f2 _).1 g2)
  have nb:∀{i:Nat}{k:aN},i≠d→((((σ.hp.set b none).set d (some (.row e bs t (xs.take len)))).set c (some (.var tt u)))[i]? =some (some k))→i≠b:=by
   intro i k hne hi
   rcases src i k hi with⟨rfl,_⟩|⟨rfl,_⟩|⟨_,_,q,_⟩
   ·exact hcb
   ·exact absurd rfl hne
   ·exact q
  by_cases hi':i=d<;>by_cases hj':j=d
  ·rw[hi',hj']
  ·exact absurd (by rw[←f4 hj',←hij,e3 hi']) (nb hj' hj)
  ·exact absurd (by rw[←e4 hi',hij,f3 hj']) (nb hi' hi)
  ·rw[←e4 hi',←f4 hj',hij]
 ·intro i k' g' hi hgi hs
  obtain⟨i',k4,e1,e2,_,_⟩:=gOf i k' hi
  exact hg.hw.dq i' k4 g' e1 ((e2 _).1 hgi) hs
 ·intro i k' g' hi hgi
  obtain⟨i',k4,e1,e2,_,_⟩:=gOf i k' hi
  rcases(e2 _).1 (Or.inr hgi) with q|q
  ·exact Own.below hg.hw ⟨i',k4,e1,Or.inl q⟩
  ·exact hg.hw.qG i' k4 g' e1 q
 ·rintro g' ⟨i,k',hi,hgi⟩
  obtain⟨i',k4,e1,e2,_,_⟩:=gOf i k' hi
  exact Or.inl ⟨i',k4,e1,(e2 _).1 hgi⟩
def pt(c:Nat)(p:Path)(σ:St):Option St:=
 match eC σ.hp c with
 |
  some (.var tt v)=>match tt.sub p,v.get p with
  |
   some u,some _=>match v.set p (.eW u) with
   |some v'=>if v'.bW tt&&jK tt p then some {σ with hp:=σ.hp.set c (some (.var tt v'))} else none
   |none=>none
  |_,_=>none
 |_=>none
theorem Wk.pt{gl:Ctx}{c:Nat}{p:Path}{σ σ':St}(h:Ax.pt c p σ=some σ'):Wk gl σ σ':=by
 intro E a w hg
 unfold Ax.pt at h
 split at h
 case h_2=>cases h
 rename_i tt v hc
 have hbk:=cw σ.hp c _ hc
 split at h
 case h_2=>cases h
 rename_i u x0 hu abT
 split at h
 case h_2=>cases h
 rename_i v' aO
 split at h
 case isFalse=>cases h
 rename_i hk
 cases h
 simp only[aV] at hk
 obtain⟨r1,r2,g,cs,e,r3,r4,r5⟩:=hg.hw.cH c _ hbk
 have hva:=mS hk.2
 obtain⟨s,q1,q2,q3,q4⟩:=AV.eV r5 r2 hva abT
 rw[hu] at q1;cases q1
 have hj:RC E w (.eW u) (List.take u.size (List.drop (tt.off p) cs.toList)):=by
  refine⟨by rw[fe,jY];omega,fun x hx=>RC.one r5 x (List.mem_of_mem_drop (List.mem_of_mem_take hx))⟩
 obtain⟨s',p1,p2,p3,p4⟩:=AV.kX hj r5 r2 hva (fun s' hs'=>by rw[hu] at hs';cases hs';rw[fe,jY];omega) aO
 rw[hu] at p1;cases p1
 have hcs:cs.toList.take (tt.off p)++List.take u.size (List.drop (tt.off p) cs.toList)++cs.toList.drop (tt.off p+u.size)=cs.toList:=by
  rw[jV,←gP,iI,iI]
 rw[hcs] at p4
 have hw:=hg.hw.write (w':=w) (k':=.var tt v') hbk rfl (fun _ _=>rfl) ⟨r1,hk.1,g,cs,e,r3,r4,p4⟩
 exact⟨E,hg.carry ⟨fun _ _=>rfl,fun _ h=>h⟩ (fun _ _=>⟨rfl,rfl,rfl⟩) hw,{Ext.refl (md:=gl.md) (Own σ.hp E) E w with own:=fun g hg'=>Or.inl (Own.set hbk hg')}⟩
inductive Gh where
 |zf (ts bs:List Nat)
 |Fq (s:Nat) (t:Ty)
 |A3 (b:Nat)
 |freeze (b:Nat) (t:Ty)
 |Xw (b b':Nat)
 |xB (s b:Nat) (e:TypeId) (bs:Nat) (t:Ty)
 |rp (c:Nat) (p:Path) (b:Nat) (e:TypeId) (bs:Nat) (t:Ty)
 |kL (b:Nat)
 |D1 (b:Nat)
 |Fz (b:Nat) (e:TypeId)
 |po (b:Nat)
 |lM (b:Nat)
 |nB (c:Nat) (p:Path) (d:Nat)
 |eP (b:Nat)
 |sf (b:Nat)
 |pt (c:Nat) (p:Path)
def Gh.go(σ:St):Gh→Option St
 | .zf ts bs=>some ⟨pj ts 0 σ.tm,tO bs 0 σ.hp,σ.df⟩
 |
  .Fq s t=>match σ.tm[s]? with
  |
   some x=>match x.bL t with
   |some y=>some {σ with tm:=σ.tm.set s (.val t y)}
   |none=>none
  |none=>none
 |
  .A3 b=>match σ.hp[b]? with
  |
   some (some (.var t v))=>match v.bL t with
   |some y=>some {σ with hp:=σ.hp.set b (some (.var t (.val t y)))}
   |none=>none
  |
   some (some (.bZ e bs t xs i v))=>match v.bL t with
   |some y=>some {σ with hp:=σ.hp.set b (some (.bZ e bs t xs i (.val t y)))}
   |none=>none
  |some (some (.lP k v rest (some _)))=>some {σ with hp:=σ.hp.set b (some (.lP k v rest none))}
  |_=>none
 | .freeze b t=>Ax.freeze b t σ
 | .Xw b b'=>rename b b' σ
 | .xB s b e bs t=>Ax.xB s b e bs t σ
 | .rp c p b e bs t=>Ax.rp c p b e bs t σ
 | .kL b=>Ax.kL b σ
 | .D1 b=>Ax.D1 b σ
 | .Fz b e=>Ax.Fz b e σ
 | .po b=>Ax.po b σ
 | .lM b=>Ax.lM b σ
 | .nB c p d=>Ax.nB c p d σ
 | .eP b=>oc b σ
 | .sf b=>mz b σ
 | .pt c p=>Ax.pt c p σ
def ML:List Gh→St→Option St
 |[],σ=>some σ
 |
  g::l,σ=>match g.go σ with
  |some σ'=>ML l σ'
  |none=>none
theorem Gh.ok{gl:Ctx}{g:Gh}{σ σ':St}(h:g.go σ=some σ'):Wk gl σ σ':=by
 cases g with
 |zf ts bs=>cases h;exact Wk.zf gl σ ts bs
 |
  Fq s t=>
  simp only[Gh.go] at h
  split at h
  ·rename_i x hx
   split at h
   ·rename_i y hy;cases h;exact Wk.Fq hx hy
   ·cases h
  ·cases h
 |
  A3 b=>
  simp only[Gh.go] at h
  split at h
  ·rename_i t v hb
   split at h
   ·rename_i y hy;cases h;exact Wk.A3 hb hy
   ·cases h
  ·rename_i e bs t xs i v hb
   split at h
   ·rename_i y hy;cases h;exact Wk.T5 hb hy
   ·cases h
  ·rename_i k v rest c hb;cases h;exact Wk.mcl hb
  ·cases h
 |freeze b t=>exact Wk.freeze h
 |Xw b b'=>exact Wk.rename h
 |xB s b e bs t=>exact Wk.xB h
 |rp c p b e bs t=>exact Wk.rp h
 |kL b=>exact Wk.kL h
 |D1 b=>exact Wk.D1 h
 |Fz b e=>exact Wk.Fz h
 |po b=>exact Wk.po h
 |lM b=>exact Wk.lM h
 |nB c p d=>exact Wk.nB h
 |eP b=>exact Wk.oc h
 |sf b=>exact Wk.mz h
 |pt c p=>exact Wk.pt h
theorem A6{gl:Ctx}:∀{l:List Gh}{σ σ':St},ML l σ=some σ'→Wk gl σ σ'
 |[],σ,σ',h=>by cases h;exact Wk.refl gl σ
 |
  g::l,σ,σ',h=>by
  simp only[ML] at h
  split at h
  ·rename_i σ1 h1;exact(Gh.ok h1).trans (A6 h)
  ·cases h
section
variable{P:Program} {gl:Ctx} {σ:St} {Q:fI→St→Prop}
theorem cX.wk{c:Code}{σ':St}(h:Wk gl σ σ')(hr:cX P gl c σ' Q):cX P gl c σ Q:=by
 intro E a w hg
 obtain⟨E1,g1,x1⟩:=h E a w hg
 refine wpIn_mono (hr E1 a w g1) ?_
 rintro ex a2 w2 ⟨x,σ2,E2,h1,h2,h3,h4⟩
 exact⟨x,σ2,E2,h1,h2,h3,x1.trans h4⟩
theorem cX.post{c:Code}{Q':fI→St→Prop}(hr:cX P gl c σ Q')(hn:∀e σ',e≠.normal→Q' e σ'→Q e σ')(h:∀σ',Q' .normal σ'→∃σ2,Wk gl σ' σ2∧Q .normal σ2):cX P gl c σ Q:=by
 intro E a w hg
 refine wpIn_mono (hr E a w hg) ?_
 rintro ex a2 w2 ⟨x,σ2,E2,h1,h2,h3,h4⟩
 by_cases e:x= .normal
 ·subst e
  obtain⟨σ3,h5,h6⟩:=h σ2 h2
  obtain⟨E3,g3,x3⟩:=h5 E2 a2 w2 h3
  exact⟨.normal,σ3,E3,by cases ex<;>first|exact h1|exact h1.elim,h6,g3,h4.trans x3⟩
 ·exact⟨x,σ2,E2,h1,hn x σ2 e h2,h3,h4⟩
theorem cX.gh{c:Code}(l:List Gh){σ':St}(h:ML l σ=some σ')(hr:cX P gl c σ' Q):cX P gl c σ Q:=cX.wk (A6 h) hr
end
structure Cl(gl:Ctx)(Q:fI→St→Prop):Prop where
 n:∀σ σ',Wk gl σ σ'→Q .normal σ'→Q .normal σ
 e:∀i σ σ',Wk gl σ σ'→Q (.exit i) σ'→Q (.exit i) σ
theorem bS{α:Type}{p:Prop}[Decidable p]{k:Option α}{r:α}(h:(if p then k else none)=some r):p∧k=some r:=by
 split at h
 ·exact⟨by assumption,h⟩
 ·cases h
theorem FD{α:Type}{b:Bool}{x y:Option α}{r:α}(h:(if b=true then x else y)=some r):(b=true∧x=some r)∨(b=false∧y=some r):=by
 cases b
 ·exact Or.inr ⟨rfl,h⟩
 ·exact Or.inl ⟨rfl,h⟩
theorem bind_some{α β:Type}{x:Option α}{f:α→Option β}{r:β}(h:x.bind f=some r):∃y,x=some y∧f y=some r:=by
 cases x with
 |none=>cases h
 |some y=>exact⟨y,rfl,h⟩
inductive cW(β ρ:Type) where
 |brk (b:β)
 |ret (r:ρ)
def mA{α:Type}:List (Nat×α)→List α→List α
 |[],l=>l
 |(i,x)::m,l=>mA m (l.set i x)
def fJ:Nat:=18446744073709551616
abbrev aZ(n:Int):Int:=IntKind.i64.wrap n
def nth(t:Ty)(xs:List t.den)(i:Int):t.den:=xs.getD i.toNat t.aD
end Go.Ax
namespace Go.Ax
@[reducible] def prod:List Type→Type
 |[]=>Unit
 |t::l=>t×prod l
@[reducible] def gC:List Type→Type
 |[]=>Unit
 |[t]=>t
 |t::u::l=>t×gC (u::l)
def Kj:(l:List Type)→prod l→gC l
 |[],_=>()
 |[_],d=>d.1
 |_::u::l,d=>(d.1,Kj (u::l) d.2)
def pI:(l:List Type)→gC l→prod l
 |[],_=>()
 |[_],d=>(d,())
 |_::u::l,d=>(d.1,pI (u::l) d.2)
theorem no{α:Type}{e:α}{p:Prop}(h:(none:Option α)=some e):p:=by cases h
theorem pv:∀(l:List Type)(d:prod l),pI l (Kj l d)=d
 |[],_=>rfl
 |[_],_=>rfl
 |_::u::l,d=>by show(d.1,pI (u::l) (Kj (u::l) d.2))=d;rw[pv (u::l) d.2]
inductive Ln where
 |cD (n:Nat)
 |idx
inductive Sh where
 |val (t:Ty)
 |bA
 |own (b:Nat)
 |jR (b:Nat)
 |jb (b:Nat) (p:List Ln)
 |ptr (b:Nat) (p:List Ln)
 |bN (t:Ty)
 |mp (b:Nat)
 |gB
 |dT
 |fy
 |iu
 |func (f:FuncId) (fs cs:Sh)
 |vw
 |iface (t:TypeId) (v:Sh)
 |cons (a b:Sh)
 |nil
 |T9
 |eW (t:Ty)
 |dc (f:FuncId) (t:Ty)
inductive fg where
 |var (t:Ty) (s:Sh)
 |row (e:TypeId) (bs:Nat) (t:Ty)
 |map (k v:Ty)
 |lp
 |sS
 |tv (t:Ty) (s:Sh)
 |bZ (e:TypeId) (bs:Nat) (t:Ty) (s:Sh)
 |cL (e:TypeId) (bs:Nat) (t:Ty) (e2:TypeId)
 |pmap (k t:Ty) (e2:TypeId)
 |lP (k v:Ty)
 |ig (k:Ty) (l:List (k.den×FuncId))
def pH:List Ln→List Type→List Type
 |[],l=>l
 | .cD _::p,l=>pH p l
 | .idx::p,l=>Nat::pH p l
def pV:(p:List Ln)→{l:List Type}→prod (pH p l)→Path
 |[],_,_=>[]
 | .cD n::p,_,d=>.cD n::pV p d
 | .idx::p,_,d=>.idx d.1::pV p d.2
def pR:(p:List Ln)→{l:List Type}→prod (pH p l)→prod l
 |[],_,d=>d
 | .cD _::p,_,d=>pR p d
 | .idx::p,_,d=>pR p d.2
def pG:(p:List Ln)→{l:List Type}→Path→prod l→Option (prod (pH p l))
 |[],_,[],d=>some d
 | .cD n::p,_,.cD m::q,d=>if Nat.beq n m then pG p q d else none
 |
  .idx::p,_,.idx i::q,d=>match pG p q d with
  |some e=>some (i,e)
  |none=>none
 |_,_,_,_=>none
theorem Cw:∀{p:List Ln}{l:List Type}{q:Path}{d:prod l}{e:prod (pH p l)},pG p q d=some e→pV p e=q∧pR p e=d
 |
  [],l,q,d,e,h=>by
  cases q with
  |nil=>cases(iL h:d=e);exact⟨rfl,rfl⟩
  |cons s q=>simp[pG] at h
 |
  .cD n::p,l,q,d,e,h=>by
  cases q with
  |nil=>simp[pG] at h
  |
   cons s q=>
   cases s with
   |
    cD m=>
    obtain⟨hb,h0⟩:=bS h
    have hb:=bQ hb
    subst hb
    obtain⟨h1,h2⟩:=Cw (p:=p) h0
    exact⟨by simp only[pV];rw[h1],h2⟩
   |idx i=>simp[pG] at h
 |
  .idx::p,l,q,d,e,h=>by
  cases q with
  |nil=>simp[pG] at h
  |
   cons s q=>
   cases s with
   |cD m=>simp[pG] at h
   |
    idx i=>
    simp only[pG] at h
    split at h
    ·rename_i e' he
     cases h
     obtain⟨h1,h2⟩:=Cw (p:=p) he
     exact⟨by simp only[pV];rw[h1],h2⟩
    ·cases h
def Sh.H:Sh→List Type→List Type
 | .val t,l=>t.den::l
 | .dc _ t,l=>t.den::l
 | .jR _,l=>Nat::Nat::l
 | .jb _ p,l=>pH p (Nat::Nat::l)
 | .ptr _ p,l=>pH p l
 | .bN t,l=>t.den::l
 | .vw,l=>Nat::l
 | .func _ fs cs,l=>fs.H (cs.H l)
 | .iface _ v,l=>v.H l
 | .cons a b,l=>a.H (b.H l)
 |_,l=>l
def Sh.R:(s:Sh)→{l:List Type}→prod (s.H l)→prod l
 | .val _,_,d=>d.2
 | .dc _ _,_,d=>d.2
 | .jR _,_,d=>d.2.2
 | .jb _ p,_,d=>(pR p d).2.2
 | .ptr _ p,_,d=>pR p d
 | .bN _,_,d=>d.2
 | .vw,_,d=>d.2
 | .func _ fs cs,_,d=>cs.R (fs.R d)
 | .iface _ v,_,d=>v.R d
 | .cons a b,_,d=>b.R (a.R d)
 | .bA,_,d| .own _,_,d| .mp _,_,d| .gB,_,d| .dT,_,d| .fy,_,d| .iu,_,d| .nil,_,d| .eW _,_,d| .T9,_,d=>d
def Sh.V(y:YC):(s:Sh)→{l:List Type}→prod (s.H l)→AV
 | .val t,_,d=>.val t d.1
 | .dc f t,_,d=>.dc f t d.1
 | .jR b,_,d=>.jR b d.1 d.2.1
 | .jb b p,_,d=>.jb b (pV p d) (pR p d).1 (pR p d).2.1
 | .ptr b p,_,d=>.ptr b (pV p d)
 | .bN t,_,d=>.bN t d.1
 | .func f fs cs,_,d=>.func (.func f) (fs.V y d) (cs.V y (fs.R d))
 | .iface t v,_,d=>.iface t (v.V y d)
 | .cons a b,_,d=>.cons (a.V y d) (b.V y (a.R d))
 | .bA,_,_=>.bA
 | .own b,_,_=>.own b
 | .mp b,_,_=>.mp b
 | .gB,_,_=>.gB
 | .dT,_,_=>.dT
 | .fy,_,_=>.fy
 | .iu,_,_=>.iu
 | .vw,_,d=>.func (.yield d.1) .nil .nil
 | .nil,_,_=>.nil
 | .T9,_,_=>.fx
 | .eW t,_,_=>.eW t
def tR{t u:Ty}(h:Ty.same u t=true)(x:u.den):t.den:=Ty.aB h▸x
theorem vz{t u:Ty}(h:Ty.same u t=true)(x:u.den):AV.val t (tR h x)= .val u x:=by
 have e:=Ty.aB h
 subst e;rfl
theorem A7{f:FuncId}{t u:Ty}(h:Ty.same u t=true)(x:u.den):AV.dc f t (tR h x)= .dc f u x:=by
 have e:=Ty.aB h
 subst e;rfl
theorem A8{t u:Ty}(h:Ty.same u t=true)(x:u.den):AV.bN t (tR h x)= .bN u x:=by
 have e:=Ty.aB h
 subst e;rfl
def Sh.G:(s:Sh)→{l:List Type}→AV→prod l→Option (prod (s.H l))
 | .val t,_,.val u x,d=>if h:Ty.same u t=true then some (tR h x,d) else none
 | .dc f t,_,.dc g u x,d=>if Nat.beq f g then(if h:Ty.same u t=true then some (tR h x,d) else none) else none
 | .bN t,_,.bN u x,d=>if h:Ty.same u t=true then some (tR h x,d) else none
 | .jR b,_,.jR c i j,d=>if Nat.beq b c then some (i,j,d) else none
 | .jb b p,l,.jb c q i j,d=>if Nat.beq b c then pG p (l:=Nat::Nat::l) q (i,j,d) else none
 | .ptr b p,_,.ptr c q,d=>if Nat.beq b c then pG p q d else none
 |
  .func f fs cs,_,.func (.func g) xs ys,d=>if Nat.beq f g then(match cs.G ys d with
  |some e=>fs.G xs e
  |none=>none) else none
 | .vw,_,.func (.yield g) .nil .nil,d=>some (g,d)
 | .iface t v,_,.iface u x,d=>if Nat.beq t u then v.G x d else none
 |
  .cons a b,_,.cons x y,d=>match b.G y d with
  |some e=>a.G x e
  |none=>none
 | .bA,_,.bA,d| .gB,_,.gB,d| .dT,_,.dT,d| .fy,_,.fy,d| .iu,_,.iu,d| .nil,_,.nil,d| .T9,_,.fx,d=>some d
 | .own b,_,.own c,d=>if Nat.beq b c then some d else none
 | .mp b,_,.mp c,d=>if Nat.beq b c then some d else none
 | .eW t,_,.eW u,d=>if Ty.same t u then some d else none
 |_,_,_,_=>none
theorem Sh.uF(y:YC):∀{s:Sh}{l:List Type}{x:AV}{d:prod l}{e:prod (s.H l)},s.G x d=some e→s.V y e=x∧s.R e=d:=by
 intro s
 induction s with
 |
  val t=>
  intro l x d e h
  cases x<;>simp only[Sh.G] at h<;>try cases h
  split at h
  ·rename_i hs;cases h;exact⟨vz hs _,rfl⟩
  ·cases h
 |
  bN t=>
  intro l x d e h
  cases x<;>simp only[Sh.G] at h<;>try cases h
  split at h
  ·rename_i hs;cases h;exact⟨A8 hs _,rfl⟩
  ·cases h
 |
  dc f t=>
  intro l x d e h
  cases x<;>simp only[Sh.G] at h<;>try cases h
  split at h
  ·rename_i hf
   have:=bQ hf;subst this
   split at h
   ·rename_i hs;cases h;exact⟨A7 hs _,rfl⟩
   ·cases h
  ·cases h
 |
  jR b=>
  intro l x d e h
  cases x<;>simp only[Sh.G] at h<;>try cases h
  split at h
  ·rename_i hs;cases h;have:=bQ hs;subst this;exact⟨rfl,rfl⟩
  ·cases h
 |
  jb b p=>
  intro l x d e h
  cases x<;>simp only[Sh.G] at h<;>try cases h
  obtain⟨hs,h0⟩:=bS h
  have:=bQ hs;subst this
  obtain⟨h1,h2⟩:=Cw h0
  exact⟨by simp only[Sh.V];rw[h1,h2],by simp only[Sh.R];rw[h2]⟩
 |
  ptr b p=>
  intro l x d e h
  cases x<;>simp only[Sh.G] at h<;>try cases h
  obtain⟨hs,h0⟩:=bS h
  have:=bQ hs;subst this
  obtain⟨h1,h2⟩:=Cw h0
  exact⟨by simp only[Sh.V];rw[h1],h2⟩
 |
  func f fs cs ih1 ih2=>
  intro l x d e h
  cases x with
  |
   func g xs ys=>
   cases g with
   |
    func g=>
    simp only[Sh.G] at h
    split at h
    ·rename_i hs
     have:=bQ hs;subst this
     split at h
     ·rename_i e' he
      obtain⟨a1,a2⟩:=ih2 he
      obtain⟨b1,b2⟩:=ih1 h
      exact⟨by simp only[Sh.V];rw[b1,b2,a1],by simp only[Sh.R];rw[b2,a2]⟩
     ·cases h
    ·cases h
   |_=>simp[Sh.G] at h
  |_=>simp[Sh.G] at h
 |
  iface t v ih=>
  intro l x d e h
  cases x<;>simp only[Sh.G] at h<;>try cases h
  obtain⟨hs,h0⟩:=bS h
  have:=bQ hs;subst this
  obtain⟨b1,b2⟩:=ih h0
  exact⟨by simp only[Sh.V];rw[b1],b2⟩
 |
  cons a b ih1 ih2=>
  intro l x d e h
  cases x<;>simp only[Sh.G] at h<;>try cases h
  split at h
  ·rename_i e' he
   obtain⟨a1,a2⟩:=ih2 he
   obtain⟨b1,b2⟩:=ih1 h
   exact⟨by simp only[Sh.V];rw[b1,b2,a1],by simp only[Sh.R];rw[b2,a2]⟩
  ·cases h
 |
  own b=>
  intro l x d e h
  cases x<;>simp only[Sh.G] at h<;>try cases h
  split at h
  ·rename_i hs;cases h;have:=bQ hs;subst this;exact⟨rfl,rfl⟩
  ·cases h
 |
  mp b=>
  intro l x d e h
  cases x<;>simp only[Sh.G] at h<;>try cases h
  split at h
  ·rename_i hs;cases h;have:=bQ hs;subst this;exact⟨rfl,rfl⟩
  ·cases h
 |
  eW t=>
  intro l x d e h
  cases x<;>simp only[Sh.G] at h<;>try cases h
  split at h
  ·rename_i hs;cases h;have:=Ty.aB hs;subst this;exact⟨rfl,rfl⟩
  ·cases h
 |
  vw=>
  intro l x d e h
  cases x with
  |
   func g xs ys=>
   cases g with
   |yield g=>cases xs<;>cases ys<;>simp only[Sh.G] at h<;>cases h;exact⟨rfl,rfl⟩
   |_=>simp[Sh.G] at h
  |_=>simp[Sh.G] at h
 |_=>intro l x d e h;cases x<;>simp only[Sh.G] at h<;>cases h<;>exact⟨rfl,rfl⟩
def fg.H:fg→List Type→List Type
 | .var _ s,l=>s.H l
 | .row _ _ t,l=>List t.den::l
 | .map k v,l=>List (k.den×v.den)::l
 | .lp,l=>YC::Nat::l
 | .sS,l=>l
 | .tv _ s,l=>Nat::s.H l
 | .bZ _ _ t s,l=>List t.den::Nat::s.H l
 | .cL _ _ t _,l=>List t.den::l
 | .pmap k t _,l=>List (k.den×t.den)::l
 | .lP k v,l=>List (k.den×v.den)::l
 | .ig _ _,l=>l
def fg.R:(s:fg)→{l:List Type}→prod (s.H l)→prod l
 | .var _ s,_,d=>s.R d
 | .row _ _ _,_,d=>d.2
 | .map _ _,_,d=>d.2
 | .lp,_,d=>d.2.2
 | .sS,_,d=>d
 | .tv _ s,_,d=>s.R d.2
 | .bZ _ _ _ s,_,d=>s.R d.2.2
 | .cL _ _ _ _,_,d=>d.2
 | .pmap _ _ _,_,d=>d.2
 | .lP _ _,_,d=>d.2
 | .ig _ _,_,d=>d
def NA{k:Ty}:List (k.den×FuncId)→List (k.den×AV)
 |[]=>[]
 |x::l=>(x.1,.func (.func x.2) .nil .nil)::NA l
def IS{k:Ty}:List (k.den×AV)→List (k.den×FuncId)→Bool
 |[],[]=>true
 |
  x::l,z::m=>(match x.2 with
  | .func (.func f) .nil .nil=>Nat.beq f z.2
  |_=>false)&&aX k x.1 z.1&&IS l m
 |_,_=>false
theorem Cy{k:Ty}(hk:k.keyed=true):∀{l:List (k.den×AV)}{m:List (k.den×FuncId)},IS l m=true→NA m=l
 |[],[],_=>rfl
 |[],_::_,h=>by cases h
 |_::_,[],h=>by cases h
 |
  x::l,z::m,h=>by
  simp only[IS,aV] at h
  obtain⟨⟨h1,h2⟩,h3⟩:=h
  have e:=(cu hk _ _).1 h2
  obtain⟨x1,x2⟩:=x
  simp only at e h1
  split at h1
  ·have:=bQ h1
   subst this;subst e
   simp only[NA]
   rw[Cy hk h3]
  ·cases h1
def fg.V(y:YC):(s:fg)→{l:List Type}→prod (s.H l)→aN
 | .var t s,_,d=>.var t (s.V y d)
 | .row e bs t,_,d=>.row e bs t d.1
 | .map k v,_,d=>.map k v d.1
 | .lp,_,d=>.lp d.1 d.2.1
 | .sS,_,_=>.sS
 | .tv t s,_,d=>.tv d.1 t (s.V y d.2)
 | .bZ e bs t s,_,d=>.bZ e bs t d.1 d.2.1 (s.V y d.2.2)
 | .cL e bs t e2,_,d=>.cL e bs t d.1 e2 none
 | .pmap k t e2,_,d=>.pmap k t d.1 e2 none
 | .lP k v,_,d=>.lP k v d.1 none
 | .ig k l,_,_=>.ig k (NA l)
def FE{t u:Ty}(h:Ty.same u t=true)(x:List u.den):List t.den:=Ty.aB h▸x
def FF{t u t' u':Ty}(h:Ty.same u t=true)(h':Ty.same u' t'=true)(x:List (u.den×u'.den)):List (t.den×t'.den):=Ty.aB h▸Ty.aB h'▸x
def NC{t u:Ty}(h:Ty.same u t=true)(x:List (u.den×AV)):List (t.den×AV):=Ty.aB h▸x
def fg.G:(s:fg)→{l:List Type}→aN→prod l→Option (prod (s.H l))
 | .var t s,_,.var u x,d=>if Ty.same u t then s.G x d else none
 | .row e bs t,_,.row e' bs' u xs,d=>if Nat.beq e e'&&Nat.beq bs bs' then(if h:Ty.same u t=true then some (FE h xs,d) else none) else none
 | .map k v,_,.map k' v' es,d=>if h:Ty.same k' k=true then(if h':Ty.same v' v=true then some (FF h h' es,d) else none) else none
 | .sS,_,.sS,d=>some d
 | .lp,_,.lp y j,d=>some (y,j,d)
 |
  .tv t s,_,.tv g u x,d=>if Ty.same u t then(match s.G x d with
  |some r=>some (g,r)
  |none=>none) else none
 |
  .bZ e bs t s,_,.bZ e' bs' u xs i x,d=>if Nat.beq e e'&&Nat.beq bs bs' then(if h:Ty.same u t=true then(match s.G x d with
  |some r=>some (FE h xs,i,r)
  |none=>none) else none) else none
 | .cL e bs t e2,_,.cL e' bs' u xs e2' none,d=>if Nat.beq e e'&&Nat.beq bs bs'&&Nat.beq e2 e2' then(if h:Ty.same u t=true then some (FE h xs,d) else none) else none
 | .pmap k t e2,_,.pmap k' t' es e2' none,d=>if Nat.beq e2 e2' then(if h:Ty.same k' k=true then(if h':Ty.same t' t=true then some (FF h h' es,d) else none) else none) else none
 | .lP k v,_,.lP k' v' es none,d=>if h:Ty.same k' k=true then(if h':Ty.same v' v=true then some (FF h h' es,d) else none) else none
 | .ig k l,_,.ig k' l',d=>if h:Ty.same k' k=true then(if k.keyed&&IS (NC h l') l then some d else none) else none
 |_,_,_,_=>none
theorem fg.uF(y:YC){s:fg}{l:List Type}{x:aN}{d:prod l}{e:prod (s.H l)}(h:s.G x d=some e):s.V y e=x∧s.R e=d:=by
 cases s with
 |
  var t s=>
  cases x<;>simp only[fg.G] at h<;>try cases h
  obtain⟨hs,h0⟩:=bS h
  have:=Ty.aB hs;subst this
  obtain⟨h1,h2⟩:=Sh.uF y h0
  exact⟨by simp only[fg.V];rw[h1],h2⟩
 |
  row e bs t=>
  cases x<;>simp only[fg.G] at h<;>try cases h
  split at h
  ·rename_i hs
   simp only[aV] at hs
   have e1:=bQ hs.1;subst e1
   have e2:=bQ hs.2;subst e2
   split at h
   ·rename_i ht
    cases h
    have e3:=Ty.aB ht;subst e3
    exact⟨rfl,rfl⟩
   ·cases h
  ·cases h
 |
  map k v=>
  cases x<;>simp only[fg.G] at h<;>try cases h
  split at h
  ·rename_i hs
   split at h
   ·rename_i ht
    cases h
    have e1:=Ty.aB hs;subst e1
    have e3:=Ty.aB ht;subst e3
    exact⟨rfl,rfl⟩
   ·cases h
  ·cases h
 |sS=>cases x<;>simp only[fg.G] at h<;>cases h;exact⟨rfl,rfl⟩
 |lp=>cases x<;>simp only[fg.G] at h<;>cases h;exact⟨rfl,rfl⟩
 |
  tv t s=>
  cases x<;>simp only[fg.G] at h<;>try cases h
  obtain⟨hs,h0⟩:=bS h
  have:=Ty.aB hs;subst this
  split at h0
  ·rename_i r hr
   cases h0
   obtain⟨h1,h2⟩:=Sh.uF y hr
   exact⟨by simp only[fg.V];rw[h1],h2⟩
  ·cases h0
 |
  bZ e0 bs t s=>
  cases x with
  |
   bZ e' bs' u xs i v=>
   simp only[fg.G] at h
   obtain⟨hs,h0⟩:=bS h
   clear h
   simp only[aV] at hs
   have e1:=bQ hs.1;subst e1
   have e2:=bQ hs.2;subst e2
   by_cases ht:Ty.same u t=true
   ·rw[dif_pos ht] at h0
    cases hr:s.G v d with
    |none=>rw[hr] at h0;cases h0
    |
     some r=>
     rw[hr] at h0
     cases h0
     have e3:=Ty.aB ht;subst e3
     obtain⟨g1,g2⟩:=Sh.uF y hr
     exact⟨by simp only[fg.V];rw[g1];rfl,g2⟩
   ·rw[dif_neg ht] at h0;cases h0
  |_=>simp[fg.G] at h
 |
  cL e bs t e2=>
  cases x with
  |
   cL e' bs' u xs e2' f=>
   cases f with
   |some f=>simp[fg.G] at h
   |
    none=>
    simp only[fg.G] at h
    obtain⟨hs,h0⟩:=bS h
    clear h
    simp only[aV] at hs
    have e1:=bQ hs.1.1;subst e1
    have e2:=bQ hs.1.2;subst e2
    have e3:=bQ hs.2;subst e3
    by_cases ht:Ty.same u t=true
    ·rw[dif_pos ht] at h0
     cases h0
     have e3:=Ty.aB ht;subst e3
     exact⟨rfl,rfl⟩
    ·rw[dif_neg ht] at h0;cases h0
  |_=>simp[fg.G] at h
 |
  pmap k t e2=>
  cases x with
  |
   pmap k' t' es e2' f=>
   cases f with
   |some f=>simp[fg.G] at h
   |
    none=>
    simp only[fg.G] at h
    obtain⟨hs,h0⟩:=bS h
    clear h
    have e3:=bQ hs;subst e3
    by_cases ht:Ty.same k' k=true
    ·rw[dif_pos ht] at h0
     by_cases ht':Ty.same t' t=true
     ·rw[dif_pos ht'] at h0
      cases h0
      have e3:=Ty.aB ht;subst e3
      have e4:=Ty.aB ht';subst e4
      exact⟨rfl,rfl⟩
     ·rw[dif_neg ht'] at h0;cases h0
    ·rw[dif_neg ht] at h0;cases h0
  |_=>simp[fg.G] at h
 |
  lP k v=>
  cases x with
  |
   lP k' v' es c=>
   cases c with
   |some c=>simp[fg.G] at h
   |
    none=>
    simp only[fg.G] at h
    by_cases ht:Ty.same k' k=true
    ·rw[dif_pos ht] at h
     by_cases ht':Ty.same v' v=true
     ·rw[dif_pos ht'] at h
      cases h
      have e3:=Ty.aB ht;subst e3
      have e4:=Ty.aB ht';subst e4
      exact⟨rfl,rfl⟩
     ·rw[dif_neg ht'] at h;cases h
    ·rw[dif_neg ht] at h;cases h
  |_=>simp[fg.G] at h
 |
  ig k l=>
  cases x with
  |
   ig k' l'=>
   simp only[fg.G] at h
   by_cases ht:Ty.same k' k=true
   ·rw[dif_pos ht] at h
    split at h
    ·rename_i hc
     cases h
     simp only[aV] at hc
     have e3:=Ty.aB ht;subst e3
     refine⟨?_,rfl⟩
     show aN.ig _ (NA l)=_
     rw[Cy hc.1 hc.2]
     rfl
    ·cases h
   ·rw[dif_neg ht] at h;cases h
  |_=>simp[fg.G] at h
def MM:List (Nat×Sh)→List Type→List Type
 |[],l=>l
 |(_,s)::m,l=>s.H (MM m l)
def O8(y:YC):(m:List (Nat×Sh))→{l:List Type}→prod (MM m l)→List (Nat×AV)
 |[],_,_=>[]
 |(i,s)::m,_,d=>(i,s.V y d)::O8 y m (s.R d)
def ND:(m:List (Nat×Sh))→{l:List Type}→prod (MM m l)→prod l
 |[],_,d=>d
 |(_,s)::m,_,d=>ND m (s.R d)
def O9:(m:List (Nat×Sh))→{l:List Type}→List AV→prod l→Option (prod (MM m l))
 |[],_,_,d=>some d
 |
  (i,s)::m,_,tm,d=>match tm[i]? with
  |
   some x=>match O9 m tm d with
   |some e=>s.G x e
   |none=>none
  |none=>none
theorem FG(y:YC):∀{m:List (Nat×Sh)}{l:List Type}{tm:List AV}{d:prod l}{e:prod (MM m l)},O9 m tm d=some e→(∀i x,(i,x)∈O8 y m e→tm[i]? =some x)∧ND m e=d
 |[],l,tm,d,e,h=>by cases h;exact⟨(fun i x hx=>by cases hx),rfl⟩
 |
  (i,s)::m,l,tm,d,e,h=>by
  simp only[O9] at h
  split at h
  ·rename_i x hx
   split at h
   ·rename_i e' he
    obtain⟨h1,h2⟩:=FG y he
    obtain⟨g1,g2⟩:=Sh.uF y h
    refine⟨?_,by simp only[ND];rw[g2];exact h2⟩
    intro j z hz
    simp only[O8,eA,ff] at hz
    rcases hz with⟨rfl,rfl⟩|hz
    ·rw[g1];exact hx
    ·rw[g2] at hz;exact h1 j z hz
   ·exact no h
  ·exact no h
def iy:List (Nat×fg)→List Type→List Type
 |[],l=>l
 |(_,s)::m,l=>s.H (iy m l)
def nC(y:YC):(m:List (Nat×fg))→{l:List Type}→prod (iy m l)→List (Nat×aN)
 |[],_,_=>[]
 |(i,s)::m,_,d=>(i,s.V y d)::nC y m (s.R d)
def MN:(m:List (Nat×fg))→{l:List Type}→prod (iy m l)→prod l
 |[],_,d=>d
 |(_,s)::m,_,d=>MN m (s.R d)
def NF:(m:List (Nat×fg))→{l:List Type}→List (Option aN)→prod l→Option (prod (iy m l))
 |[],_,_,d=>some d
 |
  (i,s)::m,_,hp,d=>match hp[i]? with
  |
   some (some x)=>match NF m hp d with
   |some e=>s.G x e
   |none=>none
  |_=>none
theorem A9(y:YC):∀{m:List (Nat×fg)}{l:List Type}{hp:List (Option aN)}{d:prod l}{e:prod (iy m l)},NF m hp d=some e→(∀i x,(i,x)∈nC y m e→hp[i]? =some (some x))∧MN m e=d
 |[],l,hp,d,e,h=>by cases h;exact⟨(fun i x hx=>by cases hx),rfl⟩
 |
  (i,s)::m,l,hp,d,e,h=>by
  simp only[NF] at h
  split at h
  ·rename_i x hx
   split at h
   ·rename_i e' he
    obtain⟨h1,h2⟩:=A9 y he
    obtain⟨g1,g2⟩:=fg.uF y h
    refine⟨?_,by simp only[MN];rw[g2];exact h2⟩
    intro j z hz
    simp only[nC,eA,ff] at hz
    rcases hz with⟨rfl,rfl⟩|hz
    ·rw[g1];exact hx
    ·rw[g2] at hz;exact h1 j z hz
   ·exact no h
  ·exact no h
def rq:List Sh→List Type→List Type
 |[],l=>l
 |s::m,l=>s.H (rq m l)
def xC(y:YC):(m:List Sh)→{l:List Type}→prod (rq m l)→List AV
 |[],_,_=>[]
 |s::m,_,d=>s.V y d::xC y m (s.R d)
def xD:(m:List Sh)→{l:List Type}→prod (rq m l)→prod l
 |[],_,d=>d
 |s::m,_,d=>xD m (s.R d)
def Kk:(m:List Sh)→{l:List Type}→List AV→prod l→Option (prod (rq m l))
 |[],_,[],d=>some d
 |
  s::m,_,x::xs,d=>match Kk m xs d with
  |some e=>s.G x e
  |none=>none
 |_,_,_,_=>none
theorem xE(y:YC):∀{m:List Sh}{l:List Type}{xs:List AV}{d:prod l}{e:prod (rq m l)},Kk m xs d=some e→xC y m e=xs∧xD m e=d
 |
  [],l,xs,d,e,h=>by
  cases xs with
  |nil=>cases h;exact⟨rfl,rfl⟩
  |cons _ _=>simp[Kk] at h
 |
  s::m,l,xs,d,e,h=>by
  cases xs with
  |nil=>simp[Kk] at h
  |
   cons x xs=>
   simp only[Kk] at h
   split at h
   ·rename_i e' he
    obtain⟨h1,h2⟩:=xE y he
    obtain⟨g1,g2⟩:=Sh.uF y h
    exact⟨by simp only[xC];rw[g1,g2,h1],by simp only[xD];rw[g2,h2]⟩
   ·cases h
structure SS where
 nt:Nat
 nh:Nat
 tm:List (Nat×Sh)
 hp:List (Nat×fg)
 df:List Sh
def SS.H(S:SS):List Type:=MM S.tm (iy S.hp (rq S.df []))
@[reducible] def SS.T (S:SS):Type:=gC S.H
def di:List (Nat×aN)→List (Nat×Option aN)
 |[]=>[]
 |(i,k)::l=>(i,some k)::di l
theorem qR{i:Nat}{k:Option aN}:∀{l:List (Nat×aN)},(i,k)∈di l→∃b,k=some b∧(i,b)∈l
 |[],h=>by cases h
 |
  (j,b)::l,h=>by
  simp only[di,eA,ff] at h
  rcases h with⟨rfl,rfl⟩|h
  ·exact⟨b,rfl,cK ..⟩
  ·obtain⟨b',e,hm⟩:=qR h
   exact⟨b',e,dr _ hm⟩
def SS.lW(S:SS)(y:YC)(d:prod S.H):St:=
 ⟨mA (O8 y S.tm d) (List.replicate S.nt .bot),mA (di (nC y S.hp (Ax.ND S.tm d))) (List.replicate S.nh none),xC y S.df (MN S.hp (Ax.ND S.tm d))⟩
def SS.st(S:SS)(y:YC)(t:S.T):St:=S.lW y (pI S.H t)
def SS.get(S:SS)(σ:St):Option S.T:=
 if Nat.beq σ.tm.length S.nt&&Nat.beq σ.hp.length S.nh then(match Kk S.df (l:=[]) σ.df () with
  |
   some d1=>match NF S.hp σ.hp d1 with
   |
    some d2=>match O9 S.tm σ.tm d2 with
    |some d3=>some (Kj S.H d3)
    |none=>none
   |none=>none
  |none=>none) else none
theorem od{α:Type}:∀{l:List (Nat×α)}{m:List α},(mA l m).length=m.length
 |[],_=>rfl
 |(i,x)::l,m=>by rw[mA,od,bF]
theorem lh{α:Type}{i:Nat}{x:α}:∀{l:List (Nat×α)}{m:List α},(mA l m)[i]? =some x→(i,x)∈l∨m[i]? =some x
 |[],_,h=>Or.inr h
 |
  (j,z)::l,m,h=>by
  rw[mA] at h
  rcases lh h with h|h
  ·exact Or.inl (dr _ h)
  ·rw[bK] at h
   split at h
   ·rename_i e
    split at h
    ·cases h;subst e;exact Or.inl (cK ..)
    ·cases h
   ·exact Or.inr h
theorem Wk.sub{gl:Ctx}{σ σ':St}(hl:σ'.tm.length=σ.tm.length)(ht:∀(i:Nat)(x:AV),σ'.tm[i]? =some x→x= .bot∨σ.tm[i]? =some x)
 (hh:∀(b:Nat)(k:aN),σ'.hp[b]? =some (some k)→σ.hp[b]? =some (some k)) (hd:σ'.df=σ.df):Wk gl σ σ':=by
 intro E a w h
 refine⟨E,⟨by rw[hl];exact h.len,?_,h.hw.less hh,by rw[hd];exact h.df⟩,{Ext.refl (Own σ.hp E) E w with own:=?_ }⟩
 ·intro i x hx v hv
  rcases ht i x hx with e|e
  ·subst e;trivial
  ·exact h.tm i x e v hv
 ·rintro g ⟨b,k,hb,hg⟩
  exact Or.inl ⟨b,k,hh b k hb,hg⟩
theorem SS.eV{gl:Ctx}{S:SS}{y:YC}{σ:St}{t:S.T}(h:S.get σ=some t):Wk gl σ (S.st y t):=by
 unfold SS.get at h
 split at h
 ·rename_i hc
  simp only[aV] at hc
  have l1:=bQ hc.1
  have l2:=bQ hc.2
  split at h
  ·rename_i d1 h1
   split at h
   ·rename_i d2 h2
    split at h
    ·rename_i d3 h3
     cases h
     have e0:S.st y (Kj S.H d3)=S.lW y d3:=cV (S.lW y) (pv S.H d3)
     refine Eq.mpr (cV (Wk gl σ) e0) ?_
     obtain⟨a1,a2⟩:=xE y h1
     obtain⟨b1,b2⟩:=A9 y h2
     obtain⟨c1,c2⟩:=FG y h3
     refine Wk.sub ?_ ?_ ?_ ?_
     ·simp only[SS.lW,od,fO,l1]
     ·intro i x hx
      simp only[SS.lW] at hx
      rcases lh hx with hx|hx
      ·exact Or.inr (c1 i x hx)
      ·rw[jX] at hx
       split at hx
       ·cases hx;exact Or.inl rfl
       ·cases hx
     ·intro b k hk
      simp only[SS.lW] at hk
      rcases lh hk with hk|hk
      ·obtain⟨b',e,hm⟩:=qR hk
       cases e
       rw[c2] at hm
       exact b1 b k hm
      ·rw[jX] at hk
       split at hk<;>cases hk
     ·simp only[SS.lW];rw[c2,b2];exact a1
    ·cases h
   ·cases h
  ·cases h
 ·cases h
end Go.Ax
namespace Go.Ax
inductive Nd where
 |Pa (b:Nat) (t:Ty)
 |xF (c b:Nat)
 |own (c:Nat) (p:Path)
 |Pb
def AV.owned:AV→Option Nat
 | .own b| .jR b _ _| .jb b _ _ _| .mp b=>some b
 |
  .cons a b=>match a.owned with
  |some c=>some c
  |none=>b.owned
 |_=>none
def Ua:Path→Path
 | .cD n::p=>.cD (n+1)::p
 |p=>p
def Ba:List Nd→List Nd
 |[]=>[]
 | .own c p::l=>.own c (Ua p)::Ba l
 |n::l=>n::Ba l
def FH:List Nd→List Nd
 |[]=>[]
 | .own c p::l=>.own c (.cD 0::p)::FH l
 |n::l=>n::FH l
def lN:Sh→AV→List Nd
 |
  .val t,x=>match x.owned with
  |some b=>[.Pa b t]
  |
   none=>match x with
   | .val _ _=>[]
   |_=>[.Pb]
 | .bN t,.ptr b _=>[.Pa b t]
 | .own c,.own b=>[.xF c b]
 | .own c,.bA=>[.own c []]
 | .ptr c _,.ptr b _=>[.xF c b]
 | .jR c,.jR b _ _=>[.xF c b]
 | .jb c _,.jb b _ _ _=>[.xF c b]
 | .mp c,.mp b=>[.xF c b]
 | .cons a b,.cons x y=>FH (lN a x)++Ba (lN b y)
 | .func _ a b,.func _ x y=>lN a x++lN b y
 | .iface _ a,.iface _ x=>lN a x
 |_,_=>[]
def Cz:fg→aN→List Nd
 | .var _ s,.var _ x=>lN s x
 | .tv _ s,.tv _ _ x=>lN s x
 | .bZ _ _ _ s,.bZ _ _ _ _ _ x=>lN s x
 | .lP _ _,.lP _ _ _ (some _)=>[.Pb]
 |_,_=>[]
def Pc{α:Type}:List (Nat×α)→Nat→Option α
 |[],_=>none
 |(i,x)::l,j=>if Nat.beq i j then some x else Pc l j
def CA:List Nd→List (Nat×Nat)
 |[]=>[]
 | .xF c b::l=>(c,b)::CA l
 |_::l=>CA l
def NG:List Nd→Option (Nat×Ty)
 |[]=>none
 | .Pa b t::_=>some (b,t)
 |_::l=>NG l
def Kl:List (Nat×Sh)→List AV→List Nd
 |[],_=>[]
 |
  (i,s)::l,tm=>(match tm[i]? with
  |some x=>lN s x
  |none=>[])++Kl l tm
def Km:List Sh→List AV→List Nd
 |s::l,x::xs=>lN s x++Km l xs
 |_,_=>[]
def CB(hp:List (Nat×fg))(σ:List (Option aN)):Nat→List (Nat×Nat)→List (Nat×Nat)→List Nd→List (Nat×Nat)×List Nd
 |0,_,done,nd=>(done,nd)
 |_+1,[],done,nd=>(done,nd)
 |
  n+1,(c,b)::todo,done,nd=>
  match Pc done c with
  |some _=>CB hp σ n todo done nd
  |
   none=>
   match Pc hp c,σ[b]? with
   |some s,some (some k)=>CB hp σ n (CA (Cz s k)++todo) ((c,b)::done) (nd++Cz s k)
   |_,_=>CB hp σ n todo ((c,b)::done) nd
def pinned:List (Nat×fg)→List (Option aN)→List (Nat×Nat)
 |[],_=>[]
 |
  (c,s)::l,σ=>if Nat.blt c 16 then(c,c)::pinned l σ else(match s with
  | .sS=>(c,c)::pinned l σ
  |_=>pinned l σ)
def CC(S:SS)(σ:St):List (Nat×Nat)×List Nd:=
 let n0:=Kl S.tm σ.tm++Km S.df σ.df
 CB S.hp σ.hp 200 (CA n0++pinned S.hp σ.hp) [] n0
def Ub(hp:List (Option aN))(b:Nat)(t:Ty):Ty:=
 match hp[b]? with
 |some (some (.row _ bs u _))=>.slice bs u
 |
  _=>match t with
  | .slice bs u=>.slice bs u
  |_=>.slice 1 (.int .u8)
def CD(S:SS):Nat→St→Option St
 |0,_=>none
 |
  n+1,σ=>match NG (CC S σ).2 with
  |none=>some σ
  |
   some (b,t)=>match freeze b (Ub σ.hp b t) σ with
   |some σ'=>CD S n σ'
   |none=>none
def Lo:List AV→List Nat
 |[]=>[]
 |x::l=>x.ids++Lo l
def Lp:List (Option aN)→Nat→List Nat
 |[],_=>[]
 |some k::l,i=>i::(k.ids++Lp l (i+1))
 |none::l,i=>Lp l (i+1)
def FJ:List (Nat×Nat)→List (Nat×Nat)
 |[]=>[]
 |(c,b)::l=>if Nat.beq c b then FJ l else(c,b)::FJ l
def FK(used:List Nat):List (Nat×Nat)→List (Nat×Nat)→Option (Nat×Nat×List (Nat×Nat))
 |[],_=>none
 |(c,b)::l,acc=>if cT c used then FK used l ((c,b)::acc) else some (c,b,acc++l)
def NH(b x:Nat):List (Nat×Nat)→List (Nat×Nat)
 |[]=>[]
 |(c,d)::l=>(c,if Nat.beq d b then x else d)::NH b x l
def tS(top:Nat):Nat→List (Nat×Nat)→St→Option St
 |_,[],σ=>some σ
 |0,_,_=>none
 |
  n+1,(c,b)::mv,σ=>
  match FK (Lo σ.tm++Lo σ.df++Lp σ.hp 0) ((c,b)::mv) [] with
  |
   some (c',b',rest)=>match rename b' c' σ with
   |some σ'=>tS top n rest σ'
   |none=>none
  |
   none=>match rename b top σ with
   |some σ'=>tS top n (NH b top ((c,b)::mv)) σ'
   |none=>none
def FL(hp:List (Nat×fg))(c:Nat)(f:TypeId→Nat→Ty→Gh)(σ:St):Option St:=
 match Pc hp c with
 |some (.row e bs t)=>(f e bs t).go σ
 |_=>none
def vA(hp:List (Nat×fg))(f:Nat→Path→TypeId→Nat→Ty→Gh):List Nd→St→Option St
 |[],σ=>some σ
 |
  .own c p::l,σ=>match FL hp c (f c p) σ with
  |some σ'=>vA hp f l σ'
  |none=>none
 |_::l,σ=>vA hp f l σ
def xG(hp:List (Nat×fg)):List (Nat×Sh)→St→Option St
 |[],σ=>some σ
 |
  (i,s)::l,σ=>match σ.tm[i]? with
  |
   some x=>match vA hp (fun c _ e bs t=>.xB i c e bs t) (lN s x) σ with
   |some σ'=>xG hp l σ'
   |none=>none
  |none=>none
def tT(hp:List (Nat×fg)):List (Nat×fg)→St→Option St
 |[],σ=>some σ
 |
  (i,s)::l,σ=>match σ.hp[i]? with
  |
   some (some k)=>match vA hp (fun c p e bs t=>.rp i p c e bs t) (Cz s k) σ with
   |some σ'=>tT hp l σ'
   |none=>none
  |_=>tT hp l σ
def Bb:List Nd→Bool
 |[]=>false
 | .Pb::_=>true
 |_::l=>Bb l
def qd:List (Nat×Sh)→St→Option St
 |[],σ=>some σ
 |
  (i,.val t)::l,σ=>match σ.tm[i]? with
  |
   some x=>if Bb (lN (.val t) x) then(match(Gh.Fq i t).go σ with
   |some σ'=>qd l σ'
   |none=>none) else qd l σ
  |none=>none
 |_::l,σ=>qd l σ
def qe:List (Nat×fg)→St→Option St
 |[],σ=>some σ
 |
  (i,s)::l,σ=>match σ.hp[i]? with
  |
   some (some k)=>if Bb (Cz s k) then(match(Gh.A3 i).go σ with
   |some σ'=>qe l σ'
   |none=>none) else qe l σ
  |_=>qe l σ
def NI:List (Nat×Sh)→List Nat
 |[]=>[]
 |(i,_)::l=>i::NI l
def NJ:List (Nat×Nat)→List Nat
 |[]=>[]
 |(_,b)::l=>b::NJ l
def SS.sg(
 S:SS) (σ:St):Option S.T:=
 match CD S 40 σ with
 |none=>none
 |
  some σ1=>
  let m:=(CC S σ1).1
  match(Gh.zf (NI S.tm) (NJ m)).go σ1 with
  |none=>none
  |
   some σ2=>match tS (S.nh -1) 60 (FJ m) σ2 with
   |none=>none
   |
    some σ3=>match xG S.hp S.tm σ3 with
    |none=>none
    |
     some σ4=>match tT S.hp S.hp σ4 with
     |none=>none
     |
      some σ5=>match qd S.tm σ5 with
      |none=>none
      |
       some σ6=>match qe S.hp σ6 with
       |none=>none
       |some σ7=>S.get σ7
section
variable{gl:Ctx}
theorem zm{S:SS}:∀{n:Nat}{σ σ':St},CD S n σ=some σ'→Wk gl σ σ'
 |0,_,_,h=>by cases h
 |
  n+1,σ,σ',h=>by
  simp only[CD] at h
  split at h
  ·cases h;exact Wk.refl gl σ
  ·split at h
   ·rename_i σ1 h1;exact(Wk.freeze h1).trans (zm h)
   ·cases h
theorem tU{top:Nat}:∀{n:Nat}{mv:List (Nat×Nat)}{σ σ':St},tS top n mv σ=some σ'→Wk gl σ σ'
 |
  _,[],σ,σ',h=>by
  have:some σ=some σ':=by rw[←h];unfold tS;rfl
  cases this;exact Wk.refl gl σ
 |0,_::_,_,_,h=>by simp[tS] at h
 |
  n+1,(c,b)::mv,σ,σ',h=>by
  simp only[tS] at h
  split at h
  ·split at h
   ·rename_i σ1 h1;exact(Wk.rename h1).trans (tU h)
   ·cases h
  ·split at h
   ·rename_i σ1 h1;exact(Wk.rename h1).trans (tU h)
   ·cases h
theorem kM{hp:List (Nat×fg)}{f:Nat→Path→TypeId→Nat→Ty→Gh}:∀{l:List Nd}{σ σ':St},vA hp f l σ=some σ'→Wk gl σ σ'
 |[],σ,σ',h=>by cases h;exact Wk.refl gl σ
 |
  .own c p::l,σ,σ',h=>by
  simp only[vA] at h
  split at h
  ·rename_i σ1 h1
   unfold FL at h1
   split at h1
   ·exact(Gh.ok h1).trans (kM h)
   ·cases h1
  ·cases h
 | .Pa _ _::l,σ,σ',h=>kM (l:=l) h
 | .xF _ _::l,σ,σ',h=>kM (l:=l) h
 | .Pb::l,σ,σ',h=>kM (l:=l) h
theorem vC{hp:List (Nat×fg)}:∀{l:List (Nat×Sh)}{σ σ':St},xG hp l σ=some σ'→Wk gl σ σ'
 |[],σ,σ',h=>by cases h;exact Wk.refl gl σ
 |
  (i,s)::l,σ,σ',h=>by
  simp only[xG] at h
  split at h
  ·split at h
   ·rename_i σ1 h1;exact(kM h1).trans (vC h)
   ·cases h
  ·cases h
theorem qf{hp:List (Nat×fg)}:∀{l:List (Nat×fg)}{σ σ':St},tT hp l σ=some σ'→Wk gl σ σ'
 |[],σ,σ',h=>by cases h;exact Wk.refl gl σ
 |
  (i,s)::l,σ,σ',h=>by
  simp only[tT] at h
  split at h
  ·split at h
   ·rename_i σ1 h1;exact(kM h1).trans (qf h)
   ·cases h
  ·exact qf (l:=l) h
theorem mT:∀{l:List (Nat×Sh)}{σ σ':St},qd l σ=some σ'→Wk gl σ σ'
 |[],σ,σ',h=>by cases h;exact Wk.refl gl σ
 |
  (i,s)::l,σ,σ',h=>by
  cases s with
  |
   val t=>
   simp only[qd] at h
   split at h
   ·split at h
    ·split at h
     ·rename_i σ1 h1;exact(Gh.ok h1).trans (mT h)
     ·cases h
    ·exact mT (l:=l) h
   ·cases h
  |_=>exact mT (l:=l) h
theorem mU:∀{l:List (Nat×fg)}{σ σ':St},qe l σ=some σ'→Wk gl σ σ'
 |[],σ,σ',h=>by cases h;exact Wk.refl gl σ
 |
  (i,s)::l,σ,σ',h=>by
  simp only[qe] at h
  split at h
  ·split at h
   ·split at h
    ·rename_i σ1 h1;exact(Gh.ok h1).trans (mU h)
    ·cases h
   ·exact mU (l:=l) h
  ·exact mU (l:=l) h
theorem SS.iz{S:SS}{y:YC}{σ:St}{t:S.T}(h:S.sg σ=some t):Wk gl σ (S.st y t):=by
 unfold SS.sg at h
 split at h
 ·cases h
 rename_i σ1 h1
 simp only at h
 split at h
 ·cases h
 rename_i σ2 h2
 split at h
 ·cases h
 rename_i σ3 h3
 split at h
 ·cases h
 rename_i σ4 h4
 split at h
 ·cases h
 rename_i σ5 h5
 split at h
 ·cases h
 rename_i σ6 h6
 split at h
 ·cases h
 rename_i σ7 h7
 exact((((((zm h1).trans (Gh.ok h2)).trans (tU h3)).trans (vC h4)).trans (qf h5)).trans (mT h6)).trans ((mU h7).trans (SS.eV h))
end
end Go.Ax
namespace Go.Ax
def Bc:aN:=.row 0 0 .unit []
theorem CE{E:Env}{w:World}{b:Nat}(h:RB E w b Bc):False:=by
 have h:=h.2.2.2.1
 simp[Ty.size] at h
def tV(f:aU)(z:Nat):aU:=⟨f.rt,f.rb,[],none,.bot,[(z,some Bc)]⟩
def CI(z:Nat):aU:=⟨[],[z],[],none,.bot,[]⟩
def jL(fs:List aU)(f:aU)(z:Nat)(gs:List aU):List aU:=fs++tV f z::gs
def Bd(P:Program)(gl:Ctx)(ops:Array Oper)(z:Nat)(j:Nat)(g:aU)(σ:St):Prop:=uz P gl ops j g σ∨(g=CI z∧σ.hp[z]? =some (some Bc))
def mV:List Nat→List AV→List AV
 |[],tm=>tm
 |d::l,tm=>mV l (tm.set d .bot)
theorem qS:∀{l:List Nat}{tm:List AV},(mV l tm).length=tm.length
 |[],_=>rfl
 |d::l,tm=>by unfold mV;rw[qS];simp
theorem qT{i:Nat}{x:AV}:∀{l:List Nat}{tm:List AV},(mV l tm)[i]? =some x→x= .bot∨(i∉l∧tm[i]? =some x)
 |[],_,h=>Or.inr ⟨by simp,h⟩
 |
  d::l,tm,h=>by
  unfold mV at h
  rcases qT h with h|⟨hl,h⟩
  ·exact Or.inl h
  ·rw[bK] at h
   split at h
   ·split at h
    ·cases h;exact Or.inl rfl
    ·cases h
   ·rename_i hne
    exact Or.inr ⟨by simp only[eA,not_or];exact⟨fun e=>hne e.symm,hl⟩,h⟩
def tW(fs:List aU)(f:aU)(z:Nat)(gs:List aU)(σ:St):St:=
 ⟨mV (dstsOf (jL fs f z gs)) σ.tm,aO (aO σ.hp f.hw) (ep (k7 (jL fs f z gs))),σ.df⟩
theorem ck.app{OK:Nat→aU→St→Prop}:∀{fs gs:List aU}{i:Nat}{σ σ1 σ':St},ck OK i fs σ σ1→ck OK (i+fs.length) gs σ1 σ'→ck OK i (fs++gs) σ σ'
 |[],gs,i,σ,σ1,σ',h,k=>by simp only[ck] at h;subst h;simpa using k
 |f::fs,gs,i,σ,σ1,σ',⟨h1,h2,h3⟩,k=>⟨h1,h2,ck.app h3 (by rw[dE] at k;rw[show i+1+fs.length=i+(fs.length+1) from by omega];exact k)⟩
theorem ck.hl{OK:Nat→aU→St→Prop}:∀{fs:List aU}{i:Nat}{σ σ':St},ck OK i fs σ σ'→σ'.hp.length=σ.hp.length
 |[],_,_,_,h=>by simp only[ck] at h;subst h;rfl
 |f::fs,_,σ,_,⟨_,_,h⟩=>by rw[ck.hl h,qa]
def IT(z:Nat)(gs:List aU):Bool:=gs.all fun g=> !cT z (wrote g.hw)
theorem ck.at{OK:Nat→aU→St→Prop}{z:Nat}{k:Option aN}:∀{fs:List aU}{i:Nat}{σ σ':St},ck OK i fs σ σ'→IT z fs=true→σ.hp[z]? =some k→σ'.hp[z]? =some k
 |[],_,_,_,h,_,hz=>by simp only[ck] at h;subst h;exact hz
 |
  f::fs,_,σ,_,⟨_,_,h⟩,hn,hz=>by
  simp only[IT,List.all_cons,aV,iM] at hn
  refine ck.at h (by simpa[IT] using hn.2) ?_
  rw[fU,ee (fun hm=>by rw[mh hm] at hn;cases hn.1)]
  exact hz
theorem tX{P:Program}{G:bT}(T:bB P G){gl:Ctx}{ops:Array Oper}{id:Nat}{draw:Bool}{fs gs:List aU}{f:aU}{z:Nat}{σ σp σe:St}{Q:fI→St→Prop}
 (hc:oR P gl ops 0 fs σ σp) (hp:zd P gl ops fs.length f σp) (hg2:ck (Bd P gl ops z) (fs.length+1) gs (σp.app (tV f z)) σe) (hnz:IT z gs=true) (hz:z<σ.hp.length) (hn:fs.length+1+gs.length=ops.size) (fV:draw=true→(lH ops (jL fs f z gs)&&iQ σ (jL fs f z gs))=true)
 (hpl:f.v.plain=true) (hq:Q (.panic f.v) (tW fs f z gs σ)):cX P gl (.region id ops draw) σ Q:=by
 intro E a w hg
 have hzp:(σp.app (tV f z)).hp[z]? =some (some Bc):=by
  rw[fU]
  simp only[tV,aO,bK,bC]
  rw[aA (by rw[ck.hl hc];exact hz)]
 have hze:=ck.at hg2 hnz hzp
 have hlen:(jL fs f z gs).length=ops.size:=by simp[jL];omega
 have rest:∀(V:St→Env→World→Prop)(Q:Exit→Act→World→Prop) j g σ1,Bd P gl ops z j g σ1→Ld P gl ops Q V j g σ1:=by
  intro V Q j g σ1 h
  rcases h with h|⟨rfl,h⟩
  ·exact h.q
  ·intro σ' ha _ E a w hg
   have:σ'.hp[z]? =some (some Bc):=by rw[ha.hp z (by simp[CI]),h]
   exact(CE (hg.hw.cH z _ this)).elim
 have total:∀Q':Exit→Act→World→Prop,(∀σ2 E2 w2 E' u w',wK gl (dstsOf (jL fs f z gs)) (k7 (jL fs f z gs)) σ E w σ2 E2 w2→∀a',cd gl {σ2 with hp:=aO σ2.hp f.hw} E' a' w'→RV E' w' f.v u→Ext gl.md (Own σ2.hp E2) E2 w2 (Own (aO σ2.hp f.hw) E') E' w'→Q' (.panic [{v:=u,recovered:=false}]) a' w')→
  ck (Ld P gl ops Q' (wK gl (dstsOf (jL fs f z gs)) (k7 (jL fs f z gs)) σ E w)) 0 (jL fs f z gs) σ σe:=by
  intro Q' hQ'
  refine ck.app (hc.mono fun _ _ _=>uz.q) ⟨?_,(fun d hd=>by cases hd),?_⟩
  ·rw[cZ]
   intro σ2 ha _ E2 a2 w2 hg2 hv2 K _
   exact hp σ2 ha E2 a2 w2 hg2 K Q' (fun E' u w' q1 q2 q3=>hQ' σ2 E2 w2 E' u w' hv2 a2 q1 q2 q3)
  ·rw[cZ]
   exact hg2.mono (rest _ _)
 have post:∀σ2 E2 w2 E' u w',wK gl (dstsOf (jL fs f z gs)) (k7 (jL fs f z gs)) σ E w σ2 E2 w2→∀a',cd gl {σ2 with hp:=aO σ2.hp f.hw} E' a' w'→RV E' w' f.v u→Ext gl.md (Own σ2.hp E2) E2 w2 (Own (aO σ2.hp f.hw) E') E' w'→pg gl Q σ E w (.panic [{v:=u,recovered:=false}]) a' w':=by
  intro σ2 E2 w2 E' u w' hv a' q1 q2 q3
  have hwk2:cd gl (tW fs f z gs σ) E' a' w'∧Ext gl.md (Own (aO σ2.hp f.hw) E') E' w' (Own (tW fs f z gs σ).hp E') E' w':=by
   refine⟨⟨?_,?_,q1.hw.less ?_,?_⟩,{Ext.refl (Own (aO σ2.hp f.hw) E') E' w' with own:=?_ }⟩
   ·simp only[tW,qS];rw[q1.len];exact hv.tl
   ·intro i x hx v hv'
    rcases qT hx with hx|⟨hi,hx⟩
    ·subst hx;trivial
    ·exact q1.tm i x (by show σ2.tm[i]? =some x;rw[hv.tm i hi];exact hx) v hv'
   ·intro b k hk
    obtain⟨hb,hk⟩:=dv hk
    show(aO σ2.hp f.hw)[b]? =_
    rw[iw hv.hl (hv.hp b hb)]
    exact hk
   ·show RD E' w' σ.df a'.defers
    rw[←hv.df];exact q1.df
   ·rintro g ⟨b,k,hk,hgb⟩
    obtain⟨hb,hk⟩:=dv hk
    refine Or.inl ⟨b,k,?_,hgb⟩
    rw[iw hv.hl (hv.hp b hb)]
    exact hk
  exact⟨.panic f.v,tW fs f z gs σ,E',⟨u,rfl,RV.js hpl q2⟩,hq,hwk2.1,(hv.ext.trans q3).trans hwk2.2⟩
 have noend:∀E' a' w',cd gl σe E' a' w'→False:=fun E' a' w' h=>CE (h.hw.cH z _ hze)
 cases draw with
 |false=>exact qI hlen (total _ post) hg (fun E' a' w' h _=>(noend E' a' w' h).elim)
 |
  true=>
  have fV:=fV rfl
  simp only[aV] at fV
  exact qL T fV.1 fV.2 (total _ post) hg (fun E' a' w' h _=>(noend E' a' w' h).elim)
end Go.Ax
namespace Go.Ax
theorem FN{P:Program}{w:World}{g:Nat}{a:Option Nat}{b:Nat}{c:Array Nat}{d:Nat}{o':Obj}(h:w.heap[g]? =some (.mapIter a b c d)):(setObj g o').run P w= .ok () (w.putObj g o'):=by simp[setObj,Sem.run,h,World.putObj]
theorem run_next_at{P:Program}(w:World)(ty:TypeId)(g bm since c0:Nat)(seen:Array Nat)(es:Array MapEntry)(clock:Nat)(hg:w.heap[g]? =some (.mapIter (some bm) since seen c0))(hb:w.heap[bm]? =some (.map es clock))(hold:∀x∈es.toList,x.born<since)(hsc:since≤c0):
 ((leftOf es seen).size=0∧(Instr.next (.pointer (some ⟨g,0,none⟩)) false ty).run P w= .ok (.tuple #[.bool false]) w)∨
 ∃e∈(leftOf es seen).toList,∃w1:World,(w1=w∨w1=w.drew)∧(Instr.next (.pointer (some ⟨g,0,none⟩)) false ty).run P w= .ok (.tuple #[.bool true,e.key,e.val]) (w1.putObj g (.mapIter (some bm) since (seen.push e.born) clock)):=by
 simp only[Instr.next,getObj,Sem.run_bind,Sem.run,hg,hb,Result.andThen,next_test_false seen es since c0 hold hsc,cm,bP]
 unfold leftOf
 have acp:∀x∈(Array.filter (fun e=> !seen.contains e.born) es).toList,x.born<since:=fun x hx=>hold x (by simp at hx ⊢;exact hx.1)
 generalize Array.filter (fun e=> !seen.contains e.born) es=L at acp ⊢
 have e1:L.filter (fun x=>decide (x.born<since))=L:=Array.filter_eq_self.2 (fun x hx=>by simpa using acp x (by simpa using hx))
 have e2:L.filter (fun x=>decide (x.born≥since))= #[]:=by
  rw[Array.filter_eq_empty_iff]
  intro x hx
  have:=acp x (by simpa using hx)
  simp
  omega
 simp only[e1,e2,Array.append_empty]
 by_cases h0:L.size=0
 ·left
  have:L= #[]:=Array.eq_empty_of_size_eq_zero h0
  subst this
  refine⟨rfl,?_⟩
  simp[choose,Sem.run,Question.forced]
 ·right
  have hne:L.isEmpty=false:=by simp[Array.isEmpty,h0]
  simp only[hne,cm,bP,Array.empty_append,Array.size_map]
  have hch:∃(j:Nat)(w1:World),j<L.size∧(w1=w∨w1=w.drew)∧(choose (Question.mapNext L.size)).run P w= .ok j w1:=by
   by_cases hf:L.size≤1
   ·exact⟨0,w,by omega,Or.inl rfl,by simp[choose,Sem.run,Question.forced,hf]⟩
   ·exact⟨_,w.drew,Nat.mod_lt _ (by omega),Or.inr rfl,by
     simp only[choose,Sem.run,Question.forced,ik,hf,bP,Question.cut]
     rfl⟩
  obtain⟨j,w1,hj,hal,abW⟩:=hch
  refine⟨L[j],by simp,w1,hal,?_⟩
  have hg1:w1.heap[g]? =some (.mapIter (some bm) since seen c0):=by
   rcases hal with e|e
   ·rw[e];exact hg
   ·rw[e];exact hg
  simp only[abW,Array.getElem?_map,Array.getElem?_eq_getElem hj,Option.map_some,Sem.run_bind,FN hg1,Result.andThen]
  rfl
theorem Be{en:Array MapEntry}{seen:Array Nat}(hn:(en.toList.map (·.born)).Nodup){i:Nat}{e:MapEntry}(he:(j0 en seen).toList[i]? =some e):(j0 en (seen.push e.born)).toList=(j0 en seen).toList.eraseIdx i:=by
 have key:∀(l:List MapEntry)(i:Nat)(e:MapEntry),(l.map (·.born)).Nodup→l[i]? =some e→l.filter (fun x=> !(x.born==e.born))=l.eraseIdx i:=by
  intro l
  induction l with
  |nil=>intro i e _ h;simp at h
  |
   cons x l ih=>
   intro i e hn h
   have hn':x.born∉l.map (·.born)∧(l.map (·.born)).Nodup:=List.nodup_cons.1 hn
   cases i with
   |
    zero=>
    simp at h;subst h
    simp only[lE,beq_self_eq_true,kA,cm,bP,List.eraseIdx_cons_zero]
    rw[List.filter_eq_self]
    intro y hy
    have:y.born≠x.born:=fun e=>hn'.1 (e▸List.mem_map.2 ⟨y,hy,rfl⟩)
    simpa using this
   |
    succ i=>
    have h:l[i]? =some e:=by simpa using h
    have hx:x.born≠e.born:=fun e'=>hn'.1 (e'▸List.mem_map.2 ⟨e,fP h,rfl⟩)
    have hb:(x.born==e.born)=false:=by simpa using hx
    simp only[lE,hb,Bool.not_false,bC,List.eraseIdx_cons_succ]
    rw[ih i e hn'.2 h]
 have hl:(j0 en (seen.push e.born)).toList=(j0 en seen).toList.filter (fun x=> !(x.born==e.born)):=by
  simp only[j0,Array.toList_filter,List.filter_filter]
  apply List.filter_congr
  intro x _
  simp[Bool.and_comm]
  rfl
 rw[hl]
 refine key _ i e ?_ he
 simp only[j0,Array.toList_filter]
 exact List.Nodup.sublist (List.Sublist.map _ List.filter_sublist) hn
theorem RM.Xx{E:Env}{w:World}{k v:Ty}:∀{es:List MapEntry}{xs:List (k.den×v.den)},RM E w k v es xs→es.length=xs.length∧(∀(i:Nat)(e:MapEntry)(x:k.den×v.den),es[i]? =some e→xs[i]? =some x→cF E w (.val k x.1) e.key∧cF E w (.val v x.2) e.val)∧∀i,RM E w k v (es.eraseIdx i) (xs.eraseIdx i)
 |[],[],_=>⟨rfl,fun i e x h=>by simp at h,fun i=>by simp[RM]⟩
 |[],_::_,h=>h.elim
 |_::_,[],h=>h.elim
 |
  e::es,x::xs,⟨h1,h2,h3⟩=>by
  obtain⟨a,b,c⟩:=RM.Xx h3
  refine⟨by simp[a],?_,?_⟩
  ·intro i e' x' he hx
   cases i with
   |zero=>simp at he hx;subst he;subst hx;exact⟨h1,h2⟩
   |succ i=>exact b i e' x' (by simpa using he) (by simpa using hx)
  ·intro i
   cases i with
   |zero=>simpa using h3
   |succ i=>simpa using⟨h1,h2,c i⟩
noncomputable def DJ{A R:Type}(xs:List A)(K:A→List A→Option R):Option R:=
 @dite _ (∃r,∀i(h:i<xs.length),K xs[i] (xs.eraseIdx i)=some r) (Classical.propDecidable _) (fun h=>some h.choose) (fun _=>none)
theorem DK{A R:Type}{xs:List A}{K:A→List A→Option R}{r:R}(h:DJ xs K=some r)(i:Nat)(hi:i<xs.length):K xs[i] (xs.eraseIdx i)=some r:=by
 unfold DJ at h
 split at h
 ·rename_i hh
  cases h
  exact hh.choose_spec i hi
 ·cases h
theorem cX.next{P:Program}{gl:Ctx}{σ:St}{Q:fI→St→Prop}{id:Nat}{o0 o1:Oper}{s d d1 b:Nat}{kt vt:Ty}{rest:List (kt.den×vt.den)}{cur:Option (kt.den×vt.den)}
 (h0:o0.op= .next (.tmp s) false) (hg0:o0.guard=none) (hd0:o0.dst=some d) (h1:o1.op= .extract (.tmp d) 0) (hg1:o1.guard=none) (hd1:o1.dst=some d1)
 (hs:σ.tm[s]? =some (.ptr b [])) (hb:σ.hp[b]? =some (some (.lP kt vt rest cur))) (hl:Nat.blt d σ.tm.length=true)
 (hq0:rest= []→Q .normal ((σ.put (some d) .bot).put (some d1) (.val .bool false)))
 (hq1:∀i(hi:i<rest.length),Q .normal ((({σ with hp:=σ.hp.set b (some (.lP kt vt (rest.eraseIdx i) (some rest[i])))}:St).put (some d) .bot).put (some d1) (.val .bool true))):
 cX P gl (.region id #[o0,o1] false) σ Q:=by
 intro E a w hg
 obtain⟨g,om,since,seen,c0,q1,q2,q3⟩:=hg.hw.cH b _ hb
 have hlt:d<a.tmps.size:=by rw[hg.len];simp[Nat.blt] at hl;omega
 have hx:a.eval (.tmp s)= .pointer (some ⟨g,0,none⟩):=by
  have hv:=fZ hg (.tmp s)
  have:bG gl σ.tm (.tmp s)= .ptr b []:=by simp[bG,hs]
  rw[this] at hv
  obtain⟨g',hg',ev,_⟩:=RV.atom rfl hv
  rw[q1] at hg';cases hg'
  simpa[Ty.off] using ev
 have w0:∀z,Region.wanted o0 z=true:=fun z=>by simp[Region.wanted,hg0]
 have w1:∀z,Region.wanted o1 z=true:=fun z=>by simp[Region.wanted,hg1]
 refine wpIn_region ?_
 have hr:List.range (#[o0,o1]:Array Oper).size= [0,1]:=rfl
 rw[hr]
 have fin:∀(vs:Array Value)(x:Bool)(w':World)(σ':St),(Instr.next (.pointer (some ⟨g,0,none⟩)) false o0.type).run P w= .ok (.tuple vs) w'→vs[0]? =some (.bool x)→cd gl σ' E a w'→Ext gl.md (Own σ.hp E) E w (Own σ'.hp E) E w'→
  Q .normal ((σ'.put (some d) .bot).put (some d1) (.val .bool x))→wpOpsIn (Wd gl) 0 P #[o0,o1] (pg gl Q σ E w) [0,1] a w:=by
  intro vs x w' σ' abW hv0 hg' hext hq
  simp only[wpOpsIn,List.getElem?_toArray,oL,qF,w0,bC]
  refine⟨fun _ _=>trivial,?_⟩
  rw[Oper.semAt_eq _ _ _ (by rw[h0];intro c hc;cases hc)]
  have r1:(execOp a.eval o0).run P w= .ok (.value (.tuple vs)) w':=by simp[execOp,h0,hx,abW]
  rw[r1,Oper.uponIn_value,hd0]
  simp only[w1,bC]
  refine⟨fun _ _=>trivial,?_⟩
  rw[Oper.semAt_eq _ _ _ (by rw[h1];intro c hc;cases hc)]
  have hev:(a.put (some d) (.tuple vs)).eval (.tmp d)= .tuple vs:=by simp[Act.eval,Act.put,hlt]
  have r2:(execOp (a.put (some d) (.tuple vs)).eval o1).run P w'= .ok (.value (.bool x)) w':=by
   simp[execOp,h1,hev,Instr.extract,hv0]
  rw[r2,Oper.uponIn_value,hd1]
  have ga:=hg'.put (some d) (x:=.bot) (v:=.tuple vs) trivial
  have gb:=ga.put (some d1) (x:=.val .bool x) (v:=.bool x) RV.bool
  exact⟨.normal,_,E,trivial,hq,gb,hext⟩
 have nextNil:om=none→rest= []→wpOpsIn (Wd gl) 0 P #[o0,o1] (pg gl Q σ E w) [0,1] a w:=by
  intro e1 e2
  subst e1
  refine fin #[.bool false] false w σ ?_ rfl hg (Ext.refl _ _ _) (hq0 e2)
  simp only[Instr.next,getObj,Sem.run_bind,Sem.run,q2,Result.andThen]
  rfl
 rcases q3 with⟨e1,e2,_⟩|⟨bm,en,e1,r2,r3,e4,r5,r6,r7,r8⟩
 ·exact nextNil e1 e2
 ·subst e1;subst e4
  obtain⟨m1,m2,m3⟩:=RM.Xx r7
  rcases run_next_at (P:=P) w o0.type g bm since since seen en since q2 r3 r5 (cq _) with⟨z,abW⟩|⟨e,he,w1',hw1,abW⟩
  ·have hr0:rest= []:=by
    rw[←List.length_eq_zero_iff,←m1]
    simpa[leftOf,j0] using z
   exact fin #[.bool false] false w σ abW rfl hg (Ext.refl _ _ _) (hq0 hr0)
  ·have he:e∈(j0 en seen).toList:=he
   obtain⟨i,hi,hie⟩:=List.mem_iff_getElem.1 he
   have hie':(j0 en seen).toList[i]? =some e:=by rw[il hi,hie]
   have hir:i<rest.length:=by rw[←m1];exact hi
   have hrm:=Be r6 hie'
   have hen:e∈en.toList:=by
    simp only[j0,Array.toList_filter,List.mem_filter] at he
    exact he.1
   obtain⟨k1,k2⟩:=m2 i e rest[i] hie' (il hir)
   have hh:w1'.heap=w.heap:=by rcases hw1 with e|e<;>rw[e]<;>rfl
   have hlg:g<w1'.heap.size:=by rw[hh];exact(Array.getElem?_eq_some_iff.1 q2).1
   have hne:bm≠g:=fun e=>by subst e;rw[q2] at r3;cases r3
   have hoth:∀j,j≠g→(w1'.putObj g (.mapIter (some bm) since (seen.push e.born) since)).heap[j]? =w.heap[j]? :=fun j hj=>by
    rw[World.putObj_heap_other (fun e=>hj e),hh]
   have kp:bM E w E (w1'.putObj g (.mapIter (some bm) since (seen.push e.born) since)):=⟨fun j hj=>hoth j (fun e=>hg.hw.jT b _ g hb q1 (e▸hj)),fun _ h=>h⟩
   have hrb:RB E (w1'.putObj g (.mapIter (some bm) since (seen.push e.born) since)) b (.lP kt vt (rest.eraseIdx i) (some rest[i])):=by
    refine⟨g,some bm,since,seen.push e.born,since,q1,World.putObj_heap_same hlg,Or.inr ⟨bm,en,rfl,r2,by rw[hoth bm hne];exact r3,rfl,r5,r6,?_,?_⟩⟩
    ·rw[hrm];exact RM.mono kp (m3 i)
    ·intro x hx
     cases hx
     exact⟨e,seen,rfl,hen,cF.mono kp (fun _ hb=>by cases hb) k1,cF.mono kp (fun _ hb=>by cases hb) k2⟩
   have hw2:=hg.hw.write (w':=w1'.putObj g (.mapIter (some bm) since (seen.push e.born) since)) hb (by rw[show(w1'.putObj g _).heap.size=w1'.heap.size from by simp[World.putObj],hh]) (fun j hj=>hoth j (fun e=>hj (by rw[e];exact q1))) hrb
   refine fin #[.bool true,e.key,e.val] true _ {σ with hp:=σ.hp.set b (some (.lP kt vt (rest.eraseIdx i) (some rest[i])))} abW rfl (hg.carry kp (fun _ _=>⟨rfl,rfl,rfl⟩) hw2) ⟨?_,?_,?_,?_,?_,fun _ h=>h,fun _ h=>Or.inl h,fun i hi=>Or.inl (Own.set hb hi),fun _ _=>⟨rfl,rfl,rfl⟩⟩ (hq1 i hir)
   ·rcases hw1 with e|e<;>rw[e]<;>rfl
   ·rcases hw1 with e|e
    ·rw[e];exact Tp.r rfl rfl
    ·rw[e];exact Tp.s rfl rfl
   ·rcases hw1 with e|e<;>rw[e]<;>rfl
   ·rw[show(w1'.putObj g _).heap.size=w1'.heap.size from by simp[World.putObj],hh];exact cq _
   ·intro j hj ho
    exact hoth j (fun e=>ho ⟨b,_,hb,by rw[e];exact Or.inl q1⟩)
end Go.Ax
namespace Go.Ax
theorem cX.IU{P:Program}{gl:Ctx}{σ:St}{Q:fI→St→Prop}{id:Nat}{o1 o2:Oper}{y:Code}(x:Operand)(d1 d2:Nat)(t t2 e:TypeId)(bs:Nat)(u:Ty)(xs:List u.den)
 (h1:o1.op= .move x) (hd1:o1.dst=some d1) (hg1:o1.guard=none) (h2:o2.op= .binOp .eql t (.tmp d1) (.const (.slice none 0 0)) t2) (hd2:o2.dst=some d2) (hg2:o2.guard=none)
 (hx:bG gl σ.tm x= .val (.slice bs u) xs) (ht:P.underlying t=some (.slice e)) (hl:Nat.blt d1 σ.tm.length=true)
 (h:∀b:Bool,(b=true→xs= [])→cX P gl y ((σ.put (some d1) (.val (.slice bs u) xs)).put (some d2) (.val .bool b)) Q):cX P gl (.seq (.region id #[o1,o2] false) y) σ Q:=by
 intro E a w hg
 have hv:=fZ hg x
 rw[hx] at hv
 obtain⟨ad,cap,hve,_,_,_,hor⟩:=RV.atom rfl hv
 simp at hve
 have hlt:d1<a.tmps.size:=by rw[hg.len];simp[Nat.blt] at hl;omega
 refine wpIn_seq (wpIn_region ?_)
 have hr:List.range (#[o1,o2]:Array Oper).size= [0,1]:=rfl
 rw[hr]
 have w1:∀z,Region.wanted o1 z=true:=fun z=>by simp[Region.wanted,hg1]
 have w2:∀z,Region.wanted o2 z=true:=fun z=>by simp[Region.wanted,hg2]
 have ga:=hg.put (some d1) hv
 have hb:ad.isNone=true→xs= []:=by
  intro hn
  rcases hor with h0|⟨b,o,cs,e1,_⟩
  ·exact h0
  ·subst e1;cases hn
 have gb:=ga.put (some d2) (x:=.val .bool ad.isNone) (v:=.bool ad.isNone) (RV.dO (Or.inr ⟨rfl,rfl⟩))
 have hfin:=h ad.isNone hb E _ w gb
 simp only[wpOpsIn,List.getElem?_toArray,oL,qF,w1,bC]
 refine⟨fun _ _=>trivial,?_⟩
 rw[Oper.semAt_eq _ _ _ (by rw[h1];intro c hc;cases hc)]
 have r1:(execOp a.eval o1).run P w= .ok (.value (a.eval x)) w:=by simp[execOp,h1]
 rw[r1,Oper.uponIn_value,hd1]
 simp only[w2,bC]
 refine⟨fun _ _=>trivial,?_⟩
 rw[Oper.semAt_eq _ _ _ (by rw[h2];intro c hc;cases hc)]
 have hev:(a.put (some d1) (a.eval x)).eval (.tmp d1)= .slice ad xs.length cap:=by
  have:(a.put (some d1) (a.eval x)).eval (.tmp d1)=a.eval x:=by
   generalize a.eval x=v
   simp[Act.eval,Act.put,hlt]
  rw[this,hve]
 have r2:(execOp (a.put (some d1) (a.eval x)).eval o2).run P w= .ok (.value (.bool ad.isNone)) w:=by
  have hq:=run_equal_slice_nil (P:=P) w t e ad xs.length cap ht
  have hc:(a.put (some d1) (a.eval x)).eval (.const (.slice none 0 0))= .slice none 0 0:=rfl
  simp[execOp,h2,hev,hc,eqGuard,binOp,hq]
 rw[r2,Oper.uponIn_value,hd2]
 simp only[Exit.then]
 refine wpIn_mono hfin ?_
 rintro ex a' w' ⟨x',σ',E',k1,k2,k3,k4⟩
 exact⟨x',σ',E',k1,k2,k3,k4⟩
end Go.Ax
namespace Go.Ax
theorem HW.frame{gl:Ctx}{E:Env}{w:World}{hp:List (Option aN)}(h:HW gl E w hp){g:Nat}{o:Obj}(hS:¬E.S g)(hO:¬Own hp E g):bM E w E (w.putObj g o)∧HW gl E (w.putObj g o) hp:=by
 have kp:bM E w E (w.putObj g o):=⟨fun b hb=>World.putObj_heap_other (fun e=>hS (e▸hb)),fun _ h=>h⟩
 exact⟨kp,fun b k hb=>RB.mono kp (fun _ _=>⟨rfl,rfl,rfl⟩) (fun i hi=>World.putObj_heap_other (fun e=>hO ⟨b,k,hb,by rw[←e];exact hi⟩)) (fun _ _ h=>h) (h.cH b k hb),h.dN,h.dq,fun i hi=>by simpa using h.slt i hi,h.fT kp,fun b k g hb hg=>by simpa using h.qG b k g hb hg⟩
theorem cd.frame{gl:Ctx}{σ:St}{E:Env}{a:Act}{w:World}(h:cd gl σ E a w){g:Nat}{o:Obj}(hS:¬E.S g)(hO:¬Own σ.hp E g):cd gl σ E a (w.putObj g o):=by
 obtain⟨kp,hw⟩:=h.hw.frame (o:=o) hS hO
 exact h.carry kp (fun _ _=>⟨rfl,rfl,rfl⟩) hw
def Env.mu(E:Env):Env:={E with P:=fun _ _=>False}
theorem Env.sh{E:Env}{b g:Nat}(h:E.mu.has b g):E.has b g:=h.elim Or.inl False.elim
theorem Own.mu{hp:List (Option aN)}{E:Env}{g:Nat}(h:Own hp E.mu g):Own hp E g:=by
 obtain⟨b,k,h1,h2⟩:=h
 exact⟨b,k,h1,Env.sh h2⟩
theorem HW.mu{gl:Ctx}{E:Env}{w:World}{hp:List (Option aN)}(hn:∀(b:Nat)(k:aN),hp[b]? =some (some k)→k.EC=false)(h:HW gl E w hp):HW gl E.mu w hp:=
 have kp:bM E w E.mu w:=⟨fun _ _=>rfl,fun _ hg=>hg⟩
 ⟨fun b k hb=>RB.mono kp (fun _ _=>⟨rfl,rfl,rfl⟩) (fun _ _=>rfl) (fun hp=>by rw[hn b k hb] at hp;cases hp) (h.cH b k hb),fun b b' k k' g h1 h2 h3 h4=>h.dN b b' k k' g h1 h2 (Env.sh h3) (Env.sh h4),fun b k g h1 h2=>h.dq b k g h1 (Env.sh h2),h.slt,h.gl,fun _ _ _ _ h=>h.elim⟩
theorem kN.mu{E:Env}{w:World}:∀{xs:List AV}{vs:List Value},kN E w xs vs→kN E.mu w xs vs
 |[],[],_=>trivial
 |[],_::_,h=>h.elim
 |_::_,[],h=>h.elim
 |_::_,_::_,⟨h1,h2⟩=>⟨RV.mono (E:=E) (E':=E.mu) (w:=w) ⟨fun _ _=>rfl,fun _ hg=>hg⟩ (fun _ _=>⟨rfl,rfl,rfl⟩) h1,kN.mu h2⟩
theorem rj.mu{P:Program}{gl:Ctx}{f:FuncId}{args:List AV}{H:List (Option aN)}{r:uf}{H':List (Option aN)}
 (hn:∀(b:Nat)(k:aN),H[b]? =some (some k)→k.EC=false) (h:∀E w vs,(∀b g,¬E.P b g)→kN E w args vs→HW gl E w H→Calls P f vs.toArray w (fun e w'=>∃E',uI E' w' r e∧HW gl E' w' H'∧Ext gl.md (Own H E) E w (Own H' E') E' w')):rj P gl f args H r H':=by
 intro E w vs hv hw
 refine Calls.mono (h E.mu w vs (fun _ _ h=>h) hv.mu (hw.mu hn)) ?_
 rintro e w' ⟨E',h1,h2,h3⟩
 exact⟨E',h1,h2,⟨h3.os,h3.tape,h3.output,h3.size,fun g hg ho=>h3.kept g hg (fun x=>ho x.mu),h3.sle,fun g hg=>(h3.lG g hg).imp id (fun x=>x.imp Own.mu id),fun g hg=>(h3.own g hg).imp Own.mu id,h3.BW⟩⟩
theorem Ext.put{gl:Ctx}{O:Nat→Prop}{E:Env}{w:World}{g:Nat}{o:Obj}(h:O g):Ext gl.md O E w O E (w.putObj g o):=
 ⟨rfl,Tp.r rfl rfl,rfl,by simp,fun i _ hi=>World.putObj_heap_other (fun e=>hi (e▸h)),fun _ h=>h,fun _ h=>Or.inl h,fun _ h=>Or.inl h,fun _ _=>⟨rfl,rfl,rfl⟩⟩
theorem lj{hp:List (Option aN)}{b c:Nat}{k:aN}(h:(hp.set b none)[c]? =some (some k)):c≠b∧hp[c]? =some (some k):=by
 rw[bK] at h
 split at h
 ·split at h<;>cases h
 ·rename_i hne;exact⟨fun e=>hne e.symm,h⟩
theorem HW.drop{gl:Ctx}{E:Env}{w:World}{hp:List (Option aN)}(h:HW gl E w hp)(b:Nat):HW gl E w (hp.set b none):=h.less (fun _ _ hc=>(lj hc).2)
theorem Own.drop{E:Env}{hp:List (Option aN)}{b g:Nat}(h:Own (hp.set b none) E g):Own hp E g:=by
 obtain⟨c,k,h1,h2⟩:=h
 exact⟨c,k,(lj h1).2,h2⟩
theorem cd.shut{gl:Ctx}{σ:St}{E:Env}{a:Act}{w:World}(h:cd gl σ E a w){b g:Nat}{k:aN}(hb:σ.hp[b]? =some (some k))(hg:E.g b=some g)(o:Obj):
 cd gl {σ with hp:=σ.hp.set b none} E a (w.putObj g o)∧Ext gl.md (Own σ.hp E) E w (Own (σ.hp.set b none) E) E (w.putObj g o):=by
 have hS:¬E.S g:=h.hw.jT b k g hb hg
 have hO:¬Own (σ.hp.set b none) E g:=by
  rintro⟨c,k',hc,hgc⟩
  obtain⟨h1,h2⟩:=lj hc
  exact h1 (h.hw.dN c b k' k g h2 hb hgc (Or.inl hg))
 have h1:cd gl {σ with hp:=σ.hp.set b none} E a w:=⟨h.len,h.tm,h.hw.drop b,h.df⟩
 refine⟨h1.frame hS hO,?_⟩
 have:=Ext.put (gl:=gl) (O:=Own σ.hp E) (E:=E) (w:=w) (o:=o) ⟨b,k,hb,Or.inl hg⟩
 exact{this with own:=fun i hi=>Or.inl (Own.drop hi)}
def marks:List AV→List (Option aN)→Option (List (Option aN))
 |[],hp=>some hp
 |
  .mp b::l,hp=>match eC hp b with
  |some .sS=>marks l (hp.set b none)
  |_=>none
 |_,_=>none
theorem CJ{P:Program}{gl:Ctx}{fn:Func}{R:Ending→World→Prop}{tmps:Array Value}:∀(df:List AV){tm:List AV}{hp hp':List (Option aN)}{E:Env}{ds:List Deferred}{w:World},
 cd gl ⟨tm,hp,df⟩ E ⟨tmps,ds⟩ w→marks df hp=some hp'→(∀w',cd gl ⟨tm,hp',[]⟩ E ⟨tmps,[]⟩ w'→Ext gl.md (Own hp E) E w (Own hp' E) E w'→LeavesIn (Wd gl) 0 P fn tmps R [] .returning w')→LeavesInM (Wd gl) 0 P fn tmps R ds .returning w
 |
  [],tm,hp,hp',E,ds,w,h,hm,hk=>by
  cases hm
  have:ds= []:=by
   have:=h.df
   cases ds with
   |nil=>rfl
   |cons _ _=>exact this.elim
  subst this
  exact hk w h (Ext.refl _ _ _)
 |
  x::l,tm,hp,hp',E,ds,w,h,hm,hk=>by
  cases x with
  |
   mp b=>
   simp only[marks] at hm
   split at hm
   ·rename_i hb
    have hbk:=cw hp b _ hb
    cases ds with
    |nil=>exact h.df.elim
    |
     cons d ds=>
     obtain⟨⟨g,hg,hd⟩,hrest⟩:=h.df
     obtain⟨g',hg',hh⟩:=h.hw.cH b _ hbk
     rw[hg] at hg';cases hg'
     have h0:cd gl ⟨tm,hp,l⟩ E ⟨tmps,ds⟩ w:=⟨h.len,h.tm,h.hw,hrest⟩
     obtain⟨g1,x1⟩:=h0.shut hbk hg (.deferred none)
     refine⟨by simp,Or.inl ⟨g,_,by rw[hd],run_takeDeferred hh,?_⟩⟩
     exact CJ l g1 hm (fun w' k1 k2=>hk w' k1 (x1.trans k2))
   ·cases hm
  |_=>simp[marks] at hm
end Go.Ax
namespace Go.Ax
def Ctx.wB(gl:Ctx)(B:(Nat→Prop)→World→Prop)(hB:∀{S S':Nat→Prop}{w w':World},(∀b,S b→w'.heap[b]? =w.heap[b]?)→(∀b,S b→S' b)→B S w→B S' w'):Ctx:=⟨gl.gl,B,hB,none,gl.md⟩
def Ctx.ru(gl:Ctx)(l:Nat):Ctx:=⟨gl.gl,fun _ _=>True,fun _ _ _=>trivial,some l,gl.md⟩
def jmp(jl:List Code):Nat→Option Code
 |0=>none
 |j+1=>jl[j]?
def fh(fn:FuncId)(tmps:Array Value)(ps:Array Tmp)(assign body:Code)(D:Nat)(jl:List Code)(j:Nat):Loop:=
 {state:=if Nat.beq j 0 then .ready else .done,pending:=jmp jl j,fn,tmps,params:=ps,assign,body,defers:=D}
def AV.mW(m:List (Nat×Nat)):AV→Option AV
 | .ptr b p=>(kR m b).map fun c=>.ptr c p
 | .jb b p lo len=>(kR m b).map fun c=>.jb c p lo len
 |
  .func fn fs cs=>match fs.mW m,cs.mW m with
  |some f,some c=>if f.atoms&&c.atoms then some (.func fn f c) else none
  |_,_=>none
 |
  .cons a b=>match a.mW m,b.mW m with
  |some x,some y=>some (.cons x y)
  |_,_=>none
 | .val t x=>some (.val t x)
 | .bN t x=>some (.bN t x)
 | .bA=>some .bA
 | .gB=>some .gB
 | .dT=>some .dT
 | .fy=>some .fy
 | .dc f t x=>some (.dc f t x)
 | .iu=>some .iu
 | .nil=>some .nil
 |_=>none
structure Uc(m:List (Nat×Nat))(E:Env)(w:World)(E':Env)(w':World):Prop where
 at':∀b c,kR m b=some c→E'.g c=E.g b∧E'.bt c=E.bt b
 k:bM E w E' w'
theorem AV.CK{m:List (Nat×Nat)}{x y:AV}(h:x.mW m=some y):y.isAgg=x.isAgg:=by
 cases x with
 |ptr b p=>simp only[AV.mW,fm] at h;obtain⟨c,_,rfl⟩:=h;rfl
 |jb b p lo len=>simp only[AV.mW,fm] at h;obtain⟨c,_,rfl⟩:=h;rfl
 |
  func fn fs cs=>
  simp only[AV.mW] at h
  split at h
  ·split at h
   ·cases h;rfl
   ·cases h
  ·cases h
 |
  cons a b=>
  simp only[AV.mW] at h
  split at h
  ·cases h;rfl
  ·cases h
 |_=>simp[AV.mW] at h<;>subst h<;>rfl
theorem RC.mW{m:List (Nat×Nat)}{E E':Env}{w w':World}(r:Uc m E w E' w'):∀{x y:AV}{vs:List Value},x.mW m=some y→RC E w x vs→RC E' w' y vs:=by
 intro x
 induction x with
 |
  ptr b p=>
  intro y vs h hr
  simp only[AV.mW,fm] at h
  obtain⟨c,hc,rfl⟩:=h
  obtain⟨e1,e2⟩:=r.at' b c hc
  obtain⟨g,h1,h2,h3⟩:=hr
  exact⟨g,by rw[e1];exact h1,by rw[e2];exact h2,by rw[e2];exact h3⟩
 |
  jb b p lo len=>
  intro y vs h hr
  simp only[AV.mW,fm] at h
  obtain⟨c,hc,rfl⟩:=h
  obtain⟨e1,e2⟩:=r.at' b c hc
  obtain⟨n,t,h1,h2,h3,a,cap,h4,h5,h6⟩:=hr
  refine⟨n,t,by rw[e2];exact h1,by rw[e2];exact h2,h3,a,cap,h4,h5,h6.imp id ?_⟩
  rintro⟨g,k1,k2⟩
  exact⟨g,by rw[e1];exact k1,by rw[e2];exact k2⟩
 |
  func fn fs cs ih1 ih2=>
  intro y vs h hr
  simp only[AV.mW] at h
  split at h
  ·rename_i f c h1 h2
   split at h
   ·rename_i ha
    cases h
    simp only[aV] at ha
    obtain⟨f',c',e,r1,r2,_,_⟩:=hr
    exact⟨f',c',e,ih1 h1 r1,ih2 h2 r2,ha.1,ha.2⟩
   ·cases h
  ·cases h
 |
  cons a b ih1 ih2=>
  intro y vs h hr
  simp only[AV.mW] at h
  split at h
  ·rename_i x y h1 h2
   cases h
   obtain⟨v1,v2,e,r1,r2⟩:=hr
   exact⟨v1,v2,e,ih1 h1 r1,ih2 h2 r2⟩
  ·cases h
 |val t x=>intro y vs h hr;simp only[AV.mW,cE] at h;subst h;exact RC.mono (a:=.val t x) r.k (fun _ hb=>by cases hb) hr
 |bN t x=>intro y vs h hr;simp only[AV.mW,cE] at h;subst h;exact RC.mono (a:=.bN t x) r.k (fun _ hb=>by cases hb) hr
 |bA=>intro y vs h hr;simp only[AV.mW,cE] at h;subst h;exact hr
 |gB=>intro y vs h hr;simp only[AV.mW,cE] at h;subst h;exact hr
 |dT=>intro y vs h hr;simp only[AV.mW,cE] at h;subst h;exact hr
 |fy=>intro y vs h hr;simp only[AV.mW,cE] at h;subst h;exact hr
 |dc f t x=>intro y vs h hr;simp only[AV.mW,cE] at h;subst h;obtain⟨ha,cs,h1,h2⟩:=hr;exact⟨ha,cs,h1,Rel.mono r.k.w r.k.S h2⟩
 |iu=>intro y vs h hr;simp only[AV.mW,cE] at h;subst h;exact hr
 |nil=>intro y vs h hr;simp only[AV.mW,cE] at h;subst h;exact hr
 |_=>intro y vs h hr;simp[AV.mW] at h
theorem RV.mW{m:List (Nat×Nat)}{E E':Env}{w w':World}(r:Uc m E w E' w'){x y:AV}{v:Value}(h:x.mW m=some y)(hr:RV E w x v):RV E' w' y v:=by
 have hp:x.plain=true:=by cases x<;>simp[AV.mW] at h<;>rfl
 have h0:=RV.js hp hr
 refine RV.dO ?_
 rcases h0 with⟨h1,cs,e,h2⟩|⟨h1,h2⟩
 ·exact Or.inl ⟨by rw[AV.CK h];exact h1,cs,e,RC.mW r h h2⟩
 ·exact Or.inr ⟨by rw[AV.CK h];exact h1,RC.mW r h h2⟩
def D2(m:List (Nat×Nat)):List AV→List AV
 |[]=>[]
 |x::l=>(match x.mW m with|some y=>y|none=>.bot)::D2 m l
theorem CL{m:List (Nat×Nat)}:∀{l:List AV},(D2 m l).length=l.length
 |[]=>rfl
 |_::l=>by simp[D2,CL (l:=l)]
theorem CM{m:List (Nat×Nat)}:∀{l:List AV}{i:Nat}{y:AV},(D2 m l)[i]? =some y→y= .bot∨∃x,l[i]? =some x∧x.mW m=some y
 |[],i,y,h=>by simp[D2] at h
 |
  x::l,0,y,h=>by
  simp only[D2,oL,cE] at h
  split at h
  ·rename_i z hz;subst h;exact Or.inr ⟨x,rfl,hz⟩
  ·exact Or.inl h.symm
 |
  x::l,i+1,y,h=>by
  simp only[D2,qF] at h
  simpa using CM h
def nD:List (Nat×AV)→List AV→List AV
 |[],l=>l
 |(t,x)::r,l=>nD r (l.set t x)
theorem zn{E:Env}{w:World}:∀{ps:List Nat}{args:List AV}{vs:List Value}{tm:List AV}{tmps:Array Value},kN E w args vs→tmps.size=tm.length→(∀(i:Nat)(x:AV),tm[i]? =some x→∀v,tmps[i]? =some v→RV E w x v)→
 ((ps.zip vs).foldl (fun t(p:Nat×Value)=>t.setIfInBounds p.1 p.2) tmps).size=(nD (ps.zip args) tm).length∧
 (∀(i:Nat)(x:AV),(nD (ps.zip args) tm)[i]? =some x→∀v,((ps.zip vs).foldl (fun t(p:Nat×Value)=>t.setIfInBounds p.1 p.2) tmps)[i]? =some v→RV E w x v)
 |[],args,vs,tm,tmps,_,hs,ht=>by simp[nD];exact⟨hs,ht⟩
 |p::ps,[],[],tm,tmps,_,hs,ht=>by simp[nD];exact⟨hs,ht⟩
 |p::ps,[],_::_,tm,tmps,h,hs,ht=>h.elim
 |p::ps,_::_,[],tm,tmps,h,hs,ht=>h.elim
 |
  p::ps,a::args,v::vs,tm,tmps,⟨h1,h2⟩,hs,ht=>by
  simp only[List.zip_cons_cons,List.foldl_cons,nD]
  refine zn h2 (by simp[hs]) ?_
  intro i x hx u hu
  rw[bK] at hx
  rw[Array.getElem?_setIfInBounds] at hu
  split at hx
  ·rename_i e
   rw[aA e] at hu
   split at hx
   ·cases hx
    split at hu
    ·cases hu;exact h1
    ·cases hu
   ·cases hx
  ·rename_i e
   rw[aC e] at hu
   exact ht i x hx u hu
def lS(i:Nat):List (Nat×Ty)→Bool
 |[]=>false
 |(j,_)::l=>Nat.beq i j||lS i l
def mB(gs:Nat→Nat)(ti:List (Nat×Ty))(i:Nat):aN→aN
 | .var t v=>if lS i ti then .tv (gs i) t v else .var t v
 |k=>k
def tie(gs:Nat→Nat)(ti:List (Nat×Ty)):Nat→List (Option aN)→List (Option aN)
 |_,[]=>[]
 |s,none::l=>none::tie gs ti (s+1) l
 |s,some k::l=>some (mB gs ti s k)::tie gs ti (s+1) l
theorem lk{gs:Nat→Nat}{ti:List (Nat×Ty)}:∀{l:List (Option aN)}{s:Nat},(tie gs ti s l).length=l.length
 |[],_=>rfl
 |none::l,s=>by simp[tie,lk (l:=l)]
 |some _::l,s=>by simp[tie,lk (l:=l)]
theorem iG{gs:Nat→Nat}{ti:List (Nat×Ty)}:∀{l:List (Option aN)}{s i:Nat}{k:aN},(tie gs ti s l)[i]? =some (some k)→∃k0,l[i]? =some (some k0)∧k=mB gs ti (s+i) k0
 |[],s,i,k,h=>by simp[tie] at h
 |none::l,s,0,k,h=>by simp[tie] at h
 |some x::l,s,0,k,h=>by simp[tie] at h;exact⟨x,rfl,by rw[←h];rfl⟩
 |
  none::l,s,i+1,k,h=>by
  obtain⟨k0,h1,h2⟩:=iG (l:=l) (by simpa[tie] using h)
  exact⟨k0,by simpa using h1,by rw[h2];congr 1;omega⟩
 |
  some x::l,s,i+1,k,h=>by
  obtain⟨k0,h1,h2⟩:=iG (l:=l) (by simpa[tie] using h)
  exact⟨k0,by simpa using h1,by rw[h2];congr 1;omega⟩
theorem xH{gs:Nat→Nat}{ti:List (Nat×Ty)}:∀{l:List (Option aN)}{s i:Nat}{k:aN},l[i]? =some (some k)→(tie gs ti s l)[i]? =some (some (mB gs ti (s+i) k))
 |[],s,i,k,h=>by simp at h
 |none::l,s,0,k,h=>by simp at h
 |some x::l,s,0,k,h=>by simp at h;subst h;rfl
 |
  none::l,s,i+1,k,h=>by
  have:=xH (gs:=gs) (ti:=ti) (s:=s+1) (l:=l) (i:=i) (k:=k) (by simpa using h)
  rw[show s+(i+1)=s+1+i from by omega];simpa[tie] using this
 |
  some x::l,s,i+1,k,h=>by
  have:=xH (gs:=gs) (ti:=ti) (s:=s+1) (l:=l) (i:=i) (k:=k) (by simpa using h)
  rw[show s+(i+1)=s+1+i from by omega];simpa[tie] using this
theorem RB.NK{gs:Nat→Nat}{ti:List (Nat×Ty)}{E:Env}{w:World}{i:Nat}{k:aN}(h:RB E w i (mB gs ti i k)):RB E w i k:=by
 cases k with
 |
  var t v=>
  simp only[mB] at h
  split at h
  ·obtain⟨h0,h1,h2,c,e,h4,h5⟩:=h;exact⟨h1,h2,_,c,e,h0,h4,h5⟩
  ·exact h
 |_=>exact h
theorem RB.tie{gs:Nat→Nat}{ti:List (Nat×Ty)}{E:Env}{w:World}{i:Nat}{k:aN}(h:RB E w i k)(hg:lS i ti=true→E.g i=some (gs i)):RB E w i (mB gs ti i k):=by
 cases k with
 |
  var t v=>
  simp only[mB]
  split
  ·rename_i hh
   obtain⟨h1,h2,g,c,e,h3,h4,h5⟩:=h
   have:=hg hh
   rw[this] at h3;cases h3
   exact⟨this,h1,h2,c,e,h4,h5⟩
  ·exact h
 |_=>exact h
def pw(hp:List (Option aN)):List (Nat×Ty)→Bool
 |[]=>true
 |(i,t)::l=>(match hp[i]? with|some (some (.var t' _))=>Ty.same t' t|_=>false)&&Nat.blt i 16&&pw hp l
theorem tY{hp:List (Option aN)}{i:Nat}:∀{ti:List (Nat×Ty)},pw hp ti=true→lS i ti=true→i<16∧∃t v,hp[i]? =some (some (.var t v))∧(i,t)∈ti
 |[],_,h=>by cases h
 |
  (j,t)::l,h,hi=>by
  simp only[pw,aV] at h
  simp only[lS,ek] at hi
  rcases hi with hi|hi
  ·have e:=bQ hi;subst e
   refine⟨by have:=h.1.2;simp[Nat.blt] at this;omega,?_⟩
   have h1:=h.1.1
   split at h1
   ·rename_i t' v hv
    have e:=Ty.aB h1;subst e
    exact⟨_,v,hv,cK ..⟩
   ·cases h1
  ·obtain⟨h1,t',v,h2,h3⟩:=tY h.2 hi
   exact⟨h1,t',v,h2,dr _ h3⟩
def NL(P:Program)(gl:Ctx)(y:Code)(Q:fI→St→Prop):fI→St→Prop
 | .normal,σ=>cX P gl y σ Q
 |_,_=>False
def NN(gl:Ctx)(jl:List Code)(j:Nat)(H:List (Option aN)):fI→St→Prop
 | .normal,σ=>j=0∧∃σ' m,Wk gl σ σ'∧prune σ'.hp m=H
 | .ret,σ=>(j≠0∧jmp jl j=some .ret)∧∃σ' m,Wk gl σ σ'∧prune σ'.hp m=H
 | .exit i,σ=>(j≠0∧jmp jl j=some (.exit i))∧∃σ' m,Wk gl σ σ'∧prune σ'.hp m=H
 |_,_=>False
theorem HW.ctx{C C':Ctx}{E:Env}{w:World}{hp:List (Option aN)}(h:HW C E w hp)(hg:C'.gl=C.gl)(hb:C'.B E.S w):HW C' E w hp:=
 ⟨h.cH,h.dN,h.dq,h.slt,⟨by rw[hg];exact h.gl.1,hb⟩,h.qG⟩
theorem Ext.add{gl:Ctx}{O O':Nat→Prop}{E E':Env}{w w':World}(h:Ext gl.md O E w O' E' w')(l:Nat):Ext gl.md (fun g=>O g∨g=l) E w (fun g=>O' g∨g=l) E' w' where
 os:=h.os
 tape:=h.tape
 output:=h.output
 size:=h.size
 kept:=fun g hg ho=>h.kept g hg (fun x=>ho (Or.inl x))
 sle:=h.sle
 lG:=fun g hg=>(h.lG g hg).imp id (fun x=>x.imp Or.inl id)
 own:=fun g hg=>by
  rcases hg with hg|hg
  ·exact(h.own g hg).imp Or.inl id
  ·exact Or.inl (Or.inr hg)
 BW:=h.BW
theorem Fy.IV{P:Program}{gl:Ctx}{σ:St}{E:Env}{a:Act}{w:World}(hg:cd gl σ E a w){B:(Nat→Prop)→World→Prop}{hB:∀{S S':Nat→Prop}{w w':World},(∀b,S b→w'.heap[b]? =w.heap[b]?)→(∀b,S b→S' b)→B S w→B S' w'}
 (hBu:∀S' w',B S' w'→(∀b,E.S b→S' b)∧(∀b,E.S b→w'.heap[b]? =w.heap[b]?)) {l D k0:Nat} {fn:FuncId} {ps:Array Tmp} {assign body:Code} {gs:Nat→Nat} {ti:List (Nat×Ty)} {m:List (Nat×Nat)} {jl:List Code}
 (hti:∀b i,kR m b=some i→lS i ti=true∧E.g b=some (gs i)∧∀t,(i,t)∈ti→E.bt b=t)
 {args:List AV} {H H':List (Option aN)} {j:Nat} (hps:ps.size=args.length) (hk:Nat.blt k0 16=true) (hkt:lS k0 ti=false) (h0:H[k0]? =some none) (h0':H'[k0]? =some none) (ht:pw H ti=true) (_ht':pw H' ti=true)
 (abW:cX P (gl.ru l) assign ⟨nD (ps.toList.zip args) (D2 m σ.tm),H,[]⟩ (NL P (gl.ru l) body (NN (gl.ru l) jl j H'))):
 Fy P (gl.wB B hB) l args ((tie gs ti 0 H).set k0 (some (.lp ⟨l,gs,fh fn a.tmps ps assign body D jl⟩ 0))) (.ret (.val .bool (Nat.beq j 0))) ((tie gs ti 0 H').set k0 (some (.lp ⟨l,gs,fh fn a.tmps ps assign body D jl⟩ j))):=by
 intro E1 w1 vs hv hW
 have hk16:k0<16:=by simp[Nat.blt] at hk;omega
 have lenH:k0<(tie gs ti 0 H).length:=by rw[lk];exact(List.getElem?_eq_some_iff.1 h0).1
 have lenH':k0<(tie gs ti 0 H').length:=by rw[lk];exact(List.getElem?_eq_some_iff.1 h0').1
 have hlp:((tie gs ti 0 H).set k0 (some (.lp ⟨l,gs,fh fn a.tmps ps assign body D jl⟩ 0)))[k0]? =some (some (.lp ⟨l,gs,fh fn a.tmps ps assign body D jl⟩ 0)):=by
  rw[bK,aA rfl,aA lenH]
 obtain⟨hgl,hrec⟩:E1.g k0=some l∧w1.heap[l]? =some (.loop (fh fn a.tmps ps assign body D jl 0)):=hW.cH k0 _ hlp
 have at1:∀(i:Nat)(k:aN),H[i]? =some (some k)→i≠k0∧((tie gs ti 0 H).set k0 (some (.lp ⟨l,gs,fh fn a.tmps ps assign body D jl⟩ 0)))[i]? =some (some (mB gs ti i k)):=by
  intro i k hi
  have hne:i≠k0:=fun e=>by subst e;rw[h0] at hi;cases hi
  refine⟨hne,?_⟩
  rw[bK,aC (fun e=>hne e.symm)]
  have:=xH (gs:=gs) (ti:=ti) (s:=0) hi
  rwa [cZ] at this
 have hSl:¬E1.S l:=hW.jT k0 _ l hlp hgl
 have hW1:HW (gl.ru l) E1 w1 H:=by
  refine⟨?_,?_,?_,hW.slt,⟨hW.gl.1,trivial⟩,fun i k g hi=>hW.qG i _ g (at1 i k hi).2⟩
  ·intro i k hi;exact(hW.cH i _ (at1 i k hi).2).NK
  ·intro i i' k k' g hi hi' g1 g2;exact hW.dN i i' _ _ g (at1 i k hi).2 (at1 i' k' hi').2 g1 g2
  ·intro i k g hi g1;exact hW.dq i _ g (at1 i k hi).2 g1
 have hOl:¬Own H E1 l:=by
  rintro⟨i,k,hi,hgi⟩
  exact(at1 i k hi).1 (hW.dN i k0 _ _ l (at1 i k hi).2 hlp hgi (Or.inl hgl))
 have hgi:∀i,lS i ti=true→i<16∧E1.g i=some (gs i):=by
  intro i hi
  obtain⟨h1,t,v,h2,_⟩:=tY ht hi
  have:=hW.cH i _ (at1 i _ h2).2
  simp only[mB,hi,bC] at this
  exact⟨h1,this.1⟩
 obtain⟨b1,b2⟩:=hBu E1.S w1 hW.gl.2
 have hrnp:Uc m E w E1 w1:=by
  refine⟨?_,⟨b2,b1⟩⟩
  intro b i hbi
  obtain⟨c1,c2,c3⟩:=hti b i hbi
  obtain⟨_,t,v,h2,h3⟩:=tY ht c1
  have:=hW1.cH i _ h2
  exact⟨by rw[(hgi i c1).2,c2],by rw[this.1,c3 t h3]⟩
 obtain⟨hl,_⟩:=hv.get
 have hframe:cd (gl.ru l) ⟨nD (ps.toList.zip args) (D2 m σ.tm),H,[]⟩ E1 {tmps:=(ps.zip vs.toArray).foldl (fun t (p,v)=>t.setIfInBounds p v) a.tmps,defers:=[]} w1:=by
  have hzip:(ps.zip vs.toArray).foldl (fun t (p,v)=>t.setIfInBounds p v) a.tmps=(ps.toList.zip vs).foldl (fun t(p:Nat×Value)=>t.setIfInBounds p.1 p.2) a.tmps:=by
   rw[←Array.foldl_toList]
   congr 1
   simp
  have:=zn (ps:=ps.toList) (tm:=D2 m σ.tm) (tmps:=a.tmps) hv (by rw[CL];exact hg.len) (fun i x hx v hv'=>by
   rcases CM hx with e|⟨y,h1,h2⟩
   ·subst e;trivial
   ·exact RV.mW hrnp h2 (hg.tm i y h1 v hv'))
  rw[hzip]
  exact⟨this.1,this.2,hW1,trivial⟩
 refine⟨fn,_,assign,body,run_yield hrec (by simp[fh,←hl,hps]),roundIn_of_wpIn (F:=Fence.wide) trivial ?_⟩
 refine wpIn_mono (abW E1 _ w1 hframe) ?_
 rintro ex a2 w2 ⟨x,σ2,E2,q1,q2,q3,q4⟩
 cases ex with
 |
  normal=>
  cases x with
  |
   normal=>
   simp only[Exit.then]
   have hlt:l<w1.heap.size:=(Array.getElem?_eq_some_iff.1 hrec).1
   have hrec2:w2.heap[l]? =some (.loop (fh fn a.tmps ps assign body D jl 0)):=by rw[q4.kept l hlt hOl];exact hrec
   have notO:∀{hp:List (Option aN)}{E':Env}{w':World},Ext gl.md (Own H E1) E1 w1 (Own hp E') E' w'→¬Own hp E' l∧¬E'.S l:=by
    intro hp E' w' hx
    constructor
    ·intro ho;rcases hx.own l ho with h|h
     ·exact hOl h
     ·omega
    ·intro hs;rcases hx.lG l hs with h|h|h
     ·exact hSl h
     ·exact hOl h
     ·omega
   obtain⟨n1,n2⟩:=notO q4
   refine⟨w2.putObj l (.loop {fh fn a.tmps ps assign body D jl 0 with state:=.busy}),run_beginRound hrec2 rfl,?_⟩
   have g2:=q3.frame (o:=.loop {fh fn a.tmps ps assign body D jl 0 with state:=.busy}) n2 n1
   refine wpIn_mono (q2 E2 a2 _ g2) ?_
   rintro ex a3 w3 ⟨x3,σ3,E3,r1,r2,r3,r4⟩
   have lt2:l<w2.heap.size:=(Array.getElem?_eq_some_iff.1 hrec2).1
   have hbusy:w3.heap[l]? =some (.loop {fh fn a.tmps ps assign body D jl 0 with state:=.busy}):=by
    rw[r4.kept l (by simpa using lt2) n1]
    exact World.putObj_heap_same lt2
   have fin:∀(jump:Option Code),jump=jmp jl j→(jump.isNone=Nat.beq j 0)→(∃σ' mm,Wk (gl.ru l) σ3 σ'∧prune σ'.hp mm=H')→
    ∃v w',(Instr.endRound l jump).run P w3= .ok v w'∧∃E',uI E' w' (.ret (.val .bool (Nat.beq j 0))) (.returned v)∧HW (gl.wB B hB) E' w' ((tie gs ti 0 H').set k0 (some (.lp ⟨l,gs,fh fn a.tmps ps assign body D jl⟩ j)))∧
     Ext gl.md (Own ((tie gs ti 0 H).set k0 (some (.lp ⟨l,gs,fh fn a.tmps ps assign body D jl⟩ 0))) E1) E1 w1 (Own ((tie gs ti 0 H').set k0 (some (.lp ⟨l,gs,fh fn a.tmps ps assign body D jl⟩ j))) E') E' w':=by
    rintro jump hj hjn ⟨σ4,mm,hwk,hpr⟩
    obtain⟨E4,g4,x4⟩:=hwk E3 a3 w3 r3
    have hlt3:l<w3.heap.size:=(Array.getElem?_eq_some_iff.1 hbusy).1
    have hnew:({({fh fn a.tmps ps assign body D jl 0 with state:=.busy}:Loop) with state:=if jump.isNone then .ready else .done,pending:=jump}:Loop)=fh fn a.tmps ps assign body D jl j:=by
     subst hj
     simp only[fh,hjn]
    have hend:=run_endRound (P:=P) jump hbusy
    rw[hnew,hjn] at hend
    have X:=((((q4.add l).trans (Ext.put (o:=.loop {fh fn a.tmps ps assign body D jl 0 with state:=.busy}) (Or.inr rfl))).trans (r4.add l)).trans (x4.add l)).trans (Ext.put (o:=.loop (fh fn a.tmps ps assign body D jl j)) (Or.inr rfl))
    have w4:HW (gl.ru l) E4 w3 H':=by rw[←hpr];exact g4.hw.prune mm
    have sub4:∀g,Own H' E4 g→Own σ4.hp E4 g:=by
     rintro g ⟨b,k,hb,hgb⟩
     rw[←hpr] at hb
     exact⟨b,k,jt hb,hgb⟩
    have n4:¬Own H' E4 l∧¬E4.S l:=by
     have hx:Ext gl.md (Own H E1) E1 w1 (Own σ2.hp E2) E2 w2:=q4
     obtain⟨m1,m2⟩:=notO hx
     have m3:¬Own σ3.hp E3 l∧¬E3.S l:=by
      constructor
      ·intro ho;rcases r4.own l ho with h|h
       ·exact m1 h
       ·simp at h;omega
      ·intro hs;rcases r4.lG l hs with h|h|h
       ·exact m2 h
       ·exact m1 h
       ·simp at h;omega
     constructor
     ·intro ho;rcases x4.own l (sub4 l ho) with h|h
      ·exact m3.1 h
      ·omega
     ·intro hs;rcases x4.lG l hs with h|h|h
      ·exact m3.2 h
      ·exact m3.1 h
      ·omega
    obtain⟨kp,wf⟩:=w4.frame (o:=.loop (fh fn a.tmps ps assign body D jl j)) n4.2 n4.1
    have gk0:E4.g k0=some l:=by rw[(X.BW k0 hk16).1];exact hgl
    have at4:∀(i:Nat)(k:aN),((tie gs ti 0 H').set k0 (some (.lp ⟨l,gs,fh fn a.tmps ps assign body D jl⟩ j)))[i]? =some (some k)→(i=k0∧k= .lp ⟨l,gs,fh fn a.tmps ps assign body D jl⟩ j)∨(i≠k0∧∃k',H'[i]? =some (some k')∧k=mB gs ti i k'):=by
     intro i k hi
     rw[bK] at hi
     split at hi
     ·rename_i e
      first
       |(cases hi;exact Or.inl ⟨e.symm,rfl⟩)
       |(split at hi<;>cases hi;exact Or.inl ⟨e.symm,rfl⟩)
     ·rename_i e
      obtain⟨k',h1,h2⟩:=iG hi
      rw[cZ] at h2
      exact Or.inr ⟨fun e'=>e e'.symm,k',h1,h2⟩
    have ne4:∀(i:Nat)(k:aN),H'[i]? =some (some k)→¬E4.has i l:=fun i k hi e=>n4.1 ⟨i,k,hi,e⟩
    obtain⟨E5,hE5⟩:∃E5:Env,E5={E4 with P:=fun b g=>b≠k0∧E4.P b g}:=⟨_,rfl⟩
    have e5g:∀b,E5.g b=E4.g b:=fun b=>by rw[hE5]
    have e5S:E5.S=E4.S:=by rw[hE5]
    have e5h:∀b g,E5.has b g→E4.has b g:=fun b g h=>h.imp (fun x=>by rw[←e5g];exact x) (fun x=>by rw[hE5] at x;exact x.2)
    have e5k:∀g,E5.has k0 g→g=l:=fun g h=>by
     rcases h with h|h
     ·rw[e5g,gk0] at h;cases h;rfl
     ·rw[hE5] at h;exact absurd rfl h.1
    have kp5:∀w:World,bM E4 w E5 w:=fun w=>⟨fun _ _=>rfl,fun g hg=>by rw[e5S];exact hg⟩
    refine⟨_,_,hend,E5,RV.bool,⟨?_,?_,?_,fun g hg=>wf.slt g (by rw[←e5S];exact hg),⟨fun x hx=>?_,?_⟩,?_⟩,?_⟩
    ·intro i k hi
     rcases at4 i k hi with⟨e1,e2⟩|⟨hne,k',h1,h2⟩
     ·subst e1;subst e2
      exact⟨by rw[e5g];exact gk0,World.putObj_heap_same hlt3⟩
     ·subst h2
      exact RB.mono (kp5 _) (fun b _=>by rw[hE5];exact⟨rfl,rfl,rfl⟩) (fun _ _=>rfl) (fun _ g hg=>by rw[hE5];exact⟨hne,hg⟩) ((wf.cH i k' h1).tie (fun hh=>by obtain⟨c1,c2⟩:=hgi i hh;rw[(X.BW i c1).1];exact c2))
    ·intro i i' k k' g hi hi' j1 j2
     rcases at4 i k hi with⟨e1,e2⟩|⟨hne,k2,h1,h2⟩
     ·rcases at4 i' k' hi' with⟨e1',e2'⟩|⟨hne',k2',h1',h2'⟩
      ·rw[e1,e1']
      ·subst e1;exact absurd (e5h _ _ (e5k g j1▸j2)) (ne4 i' k2' h1')
     ·rcases at4 i' k' hi' with⟨e1',e2'⟩|⟨hne',k2',h1',h2'⟩
      ·subst e1';exact absurd (e5h _ _ (e5k g j2▸j1)) (ne4 i k2 h1)
      ·exact wf.dN i i' k2 k2' g h1 h1' (e5h _ _ j1) (e5h _ _ j2)
    ·intro i k g hi g1
     rw[e5S]
     rcases at4 i k hi with⟨e1,e2⟩|⟨hne,k2,h1,h2⟩
     ·subst e1;exact(e5k g g1)▸n4.2
     ·exact wf.dq i k2 g h1 (e5h _ _ g1)
    ·obtain⟨y1,y2⟩:=wf.gl.1 x hx
     rw[e5S];exact⟨y1,y2⟩
    ·refine hB ?_ (fun b hb=>by rw[e5S];exact X.sle b hb) hW.gl.2
     intro b hb
     refine X.kept b (hW.slt b hb) ?_
     rintro(⟨i,k,hi,hgi'⟩|e)
     ·exact hW.dq i _ b (at1 i k hi).2 hgi' hb
     ·subst e;exact hSl hb
    ·intro i k g hi g1
     rcases at4 i k hi with⟨e1,e2⟩|⟨hne,k2,h1,h2⟩
     ·subst e1;rw[hE5] at g1;exact absurd rfl g1.1
     ·exact wf.qG i k2 g h1 (by rw[hE5] at g1;exact g1.2)
    ·refine⟨X.os,X.tape,X.output,X.size,?_,fun g hg=>by rw[e5S];exact X.sle g hg,?_,?_,fun b hb=>by rw[hE5];exact X.BW b hb⟩
     ·intro g hgl' ho
      refine X.kept g hgl' ?_
      rintro(⟨i,k,hi,hgi'⟩|e)
      ·exact ho ⟨i,_,(at1 i k hi).2,hgi'⟩
      ·subst e;exact ho ⟨k0,_,hlp,Or.inl hgl⟩
     ·intro g hs
      rw[e5S] at hs
      rcases X.lG g hs with h|h|h
      ·exact Or.inl h
      ·rcases h with⟨i,k,hi,hgi'⟩|e
       ·exact Or.inr (Or.inl ⟨i,_,(at1 i k hi).2,hgi'⟩)
       ·subst e;exact Or.inr (Or.inl ⟨k0,_,hlp,Or.inl hgl⟩)
      ·exact Or.inr (Or.inr h)
     ·rintro g ⟨i,k,hi,hgi'⟩
      have:Own σ4.hp E4 g∨g=l:=by
       rcases at4 i k hi with⟨e1,e2⟩|⟨hne,k2,h1,h2⟩
       ·subst e1;exact Or.inr (e5k g hgi')
       ·exact Or.inl (sub4 g ⟨i,k2,h1,e5h _ _ hgi'⟩)
      rcases X.own g this with h|h
      ·rcases h with⟨i,k,hi,hgi'⟩|e
       ·exact Or.inl ⟨i,_,(at1 i k hi).2,hgi'⟩
       ·subst e;exact Or.inl ⟨k0,_,hlp,Or.inl hgl⟩
      ·exact Or.inr h
   cases ex with
   |
    normal=>
    cases x3 with
    |normal=>obtain⟨e,hh⟩:=r2;subst e;exact fin none rfl rfl hh
    |_=>exact r1.elim
   |
    ret=>
    cases x3 with
    |
     ret=>
     obtain⟨⟨e,e2⟩,hh⟩:=r2
     exact fin (some .ret) e2.symm (by cases j with|zero=>exact absurd rfl e|succ j=>rfl) hh
    |_=>exact r1.elim
   |
    exit i=>
    cases x3 with
    |
     exit i'=>
     have e0:i'=i:=r1
     subst e0
     obtain⟨⟨e,e2⟩,hh⟩:=r2
     exact fin (some (.exit i')) e2.symm (by cases j with|zero=>exact absurd rfl e|succ j=>rfl) hh
    |_=>exact r1.elim
   |panic chain=>cases x3<;>first|exact r1.elim|exact r2.elim
   |goto t=>cases x3<;>exact r1.elim
   |outgrown=>cases x3<;>exact r1.elim
  |_=>exact q1.elim
 |ret=>cases x<;>first|exact q1.elim|exact q2.elim
 |exit i=>cases x<;>first|exact q1.elim|exact q2.elim
 |panic chain=>cases x<;>first|exact q1.elim|exact q2.elim
 |goto t=>cases x<;>exact q1.elim
 |outgrown=>cases x<;>exact q1.elim
end Go.Ax
namespace Go.Ax
def Bf(P:Program)(gl:Ctx)(tm:List AV)(ps:Array Tmp)(assign body:Code)(k0:Nat)(ti:List (Nat×Ty))(m:List (Nat×Nat))(jl:List Code)(C:Ctx)(y:YC):Prop:=
 ∀(args:List AV)(H H':List (Option aN))(j:Nat),ps.size=args.length→H[k0]? =some none→H'[k0]? =some none→pw H ti=true→pw H' ti=true→
  cX P (gl.ru y.l) assign ⟨nD (ps.toList.zip args) (D2 m tm),H,[]⟩ (NL P (gl.ru y.l) body (NN (gl.ru y.l) jl j H'))→
  Fy P C y.l args ((tie y.gs ti 0 H).set k0 (some (.lp y 0))) (.ret (.val .bool (Nat.beq j 0))) ((tie y.gs ti 0 H').set k0 (some (.lp y j)))
def Ud(gs:Nat→Nat)(m:List (Nat×Nat))(b:Nat):Nat:=match kR m b with|some i=>gs i|none=>0
def NO:List (Nat×Nat)→List (Nat×Ty)
 |[]=>[]
 |(b,_)::l=>(b,.unit)::NO l
theorem zo{b:Nat}:∀{m:List (Nat×Nat)},lS b (NO m)=true→∃i,kR m b=some i
 |[],h=>by cases h
 |
  (c,i)::l,h=>by
  simp only[NO,lS,ek] at h
  unfold kR
  split
  ·exact⟨i,rfl⟩
  ·rename_i hn
   rcases h with h|h
   ·exact absurd (by rw[bQ h];exact Nat.beq_refl c) hn
   ·exact zo h
def NP(hp:List (Option aN))(ti:List (Nat×Ty)):List (Nat×Nat)→Bool
 |[]=>true
 |(b,i)::l=>(match hp[b]? with|some (some (.var t _))=>lS i ti&&(ti.all fun x=> !Nat.beq x.1 i||Ty.same x.2 t)|_=>false)&&NP hp ti l
theorem FP{hp:List (Option aN)}{ti:List (Nat×Ty)}:∀{m:List (Nat×Nat)},NP hp ti m=true→∀b i,(b,i)∈m→lS i ti=true∧∃t v,hp[b]? =some (some (.var t v))∧∀t',(i,t')∈ti→t'=t
 |[],_,b,i,h=>by cases h
 |
  (c,k)::l,hm,b,i,h=>by
  simp only[NP,aV] at hm
  rcases List.mem_cons.1 h with e|h
  ·cases e
   have h1:=hm.1
   split at h1
   ·rename_i t v hv
    simp only[aV,ky] at h1
    refine⟨h1.1,t,v,hv,fun t' ht'=>?_⟩
    have:=h1.2 _ ht'
    simp at this
    exact Ty.aB this
   ·cases h1
  ·exact FP hm.2 b i h
def D3:List (Option aN)→List (Option aN)
 |[]=>[]
 |some (.tv _ t v)::l=>some (.var t v)::D3 l
 |x::l=>x::D3 l
theorem j9:∀{l:List (Option aN)}{i:Nat}{k:aN},(D3 l)[i]? =some (some k)→∃k',l[i]? =some (some k')∧(k'=k∨∃g t v,k'= .tv g t v∧k= .var t v)
 |[],i,k,h=>by simp[D3] at h
 |
  x::l,0,k,h=>by
  unfold D3 at h
  split at h
  ·cases(by assumption:_=_)
  ·rename_i heq;cases heq;simp at h;exact⟨_,rfl,Or.inr ⟨_,_,_,rfl,h.symm⟩⟩
  ·rename_i heq;cases heq;simp at h;exact⟨k,by simp[h],Or.inl rfl⟩
 |
  x::l,i+1,k,h=>by
  unfold D3 at h
  split at h
  ·cases(by assumption:_=_)
  ·rename_i heq;cases heq;simpa using j9 (by simpa using h)
  ·rename_i heq;cases heq;simpa using j9 (by simpa using h)
theorem cd.D3{gl:Ctx}{σ:St}{E:Env}{a:Act}{w:World}(h:cd gl σ E a w):cd gl {σ with hp:=Ax.D3 σ.hp} E a w∧Ext gl.md (Own σ.hp E) E w (Own (Ax.D3 σ.hp) E) E w:=by
 refine⟨⟨h.len,h.tm,⟨?_,?_,?_,h.hw.slt,h.hw.gl,?_⟩,h.df⟩,{Ext.refl (Own σ.hp E) E w with own:=?_ }⟩
 ·intro b k hb
  obtain⟨k',h1,h2⟩:=j9 hb
  have:=h.hw.cH b k' h1
  rcases h2 with e|⟨g,t,v,e1,e2⟩
  ·rw[←e];exact this
  ·subst e1;subst e2
   obtain⟨q0,q1,q2,c,e,q4,q5⟩:=this
   exact⟨q1,q2,g,c,e,q0,q4,q5⟩
 ·intro b b' k k' g hb hb' g1 g2
  obtain⟨k1,h1,_⟩:=j9 hb
  obtain⟨k2,h2,_⟩:=j9 hb'
  exact h.hw.dN b b' k1 k2 g h1 h2 g1 g2
 ·intro b k g hb g1
  obtain⟨k1,h1,_⟩:=j9 hb
  exact h.hw.dq b k1 g h1 g1
 ·intro b k g hb g1
  obtain⟨k1,h1,_⟩:=j9 hb
  exact h.hw.qG b k1 g h1 g1
 ·rintro g ⟨b,k,hb,g1⟩
  obtain⟨k1,h1,_⟩:=j9 hb
  exact Or.inl ⟨b,k1,h1,g1⟩
theorem cd.tie{gl:Ctx}{σ:St}{E:Env}{a:Act}{w:World}(h:cd gl σ E a w){gs:Nat→Nat}{ti:List (Nat×Ty)}(hg:∀b,lS b ti=true→E.g b=some (gs b)):cd gl {σ with hp:=Ax.tie gs ti 0 σ.hp} E a w∧Ext gl.md (Own σ.hp E) E w (Own (Ax.tie gs ti 0 σ.hp) E) E w:=by
 refine⟨⟨h.len,h.tm,⟨?_,?_,?_,h.hw.slt,h.hw.gl,?_⟩,h.df⟩,{Ext.refl (Own σ.hp E) E w with own:=?_ }⟩
 ·intro b k hb
  obtain⟨k',h1,h2⟩:=iG hb
  rw[cZ] at h2
  subst h2
  exact(h.hw.cH b k' h1).tie (hg b)
 ·intro b b' k k' g hb hb' g1 g2
  obtain⟨k1,h1,_⟩:=iG hb
  obtain⟨k2,h2,_⟩:=iG hb'
  exact h.hw.dN b b' k1 k2 g h1 h2 g1 g2
 ·intro b k g hb g1
  obtain⟨k1,h1,_⟩:=iG hb
  exact h.hw.dq b k1 g h1 g1
 ·intro b k g hb g1
  obtain⟨k1,h1,_⟩:=iG hb
  exact h.hw.qG b k1 g h1 g1
 ·rintro g ⟨b,k,hb,g1⟩
  obtain⟨k1,h1,_⟩:=iG hb
  exact Or.inl ⟨b,k1,h1,g1⟩
theorem Bg{σ:St}{d e:Nat}{k:aN}(hk:k.ids= [])(h:σ.fresh d)(hne:d≠e):({σ with hp:=σ.hp.set e (some k)}:St).fresh d:=by
 have h1:=k8.1 h.1
 refine⟨k8.2 ⟨h1.1,h1.2.1,?_⟩,?_,h.2.2⟩
 ·intro i k' hi
  rw[bK] at hi
  split at hi
  ·split at hi
   ·cases hi;rw[hk];simp
   ·cases hi
  ·exact h1.2.2 i k' hi
 ·intro k' hi
  rw[bK,aC (fun x=>hne x.symm)] at hi
  exact h.2.1 k' hi
def qg(y:YC)(m:List (Nat×Nat))(dI lI:Nat)(hp:List (Option aN)):List (Option aN):=tie (Ud y.gs m) (NO m) 0 ((hp.set dI (some .sS)).set lI (some (.lp y 0)))
structure Ue(σ:St)(y:YC)(m:List (Nat×Nat))(dI lI j:Nat)(cs:AV)(cr:CR)(L:List AV)(ins:List (Nat×Option aN))(hpF:List (Option aN)):Prop where
 hr:cr.r= .gC .nil
 hL:lO (swp cr.al) (eC (qg y m dI lI σ.hp)) (((.func (.yield y.l) .nil .nil,Ty.unit))::cs.toList.map (fun x=>(x,Ty.unit)))=some (L,[])
 jg:iZ (swp cr.al) (eC (qg y m dI lI σ.hp)) cr.ps=some ins
 fV:xi cr []=true
 NQ:((cr.ns.map (·.2)).all (fun b=>({σ with hp:=qg y m dI lI σ.hp,df:=.mp dI::σ.df}:St).eY b))=true
 Xy:(aO (qg y m dI lI σ.hp) (lQ (cr.al++cr.ns) cr.out (cr.ps++cr.ns)))[lI]? =some (some (.lp y j))
 Xz:D3 ((aO (qg y m dI lI σ.hp) (lQ (cr.al++cr.ns) cr.out (cr.ps++cr.ns))).set lI none)=hpF
theorem cX.rangeFunc{P:Program}{gl:Ctx}{σ:St}{Q:fI→St→Prop}{g:Operand}{ps:Array Tmp}{assign body:Code}(hro:gl.ro=none){gf:FuncId}{cs:AV}(hg:bG gl σ.tm g= .func (.func gf) .nil cs)
 (dI lI k0:Nat) (hd:σ.eY dI=true) (hl:σ.eY lI=true) (hne:Nat.beq dI lI=false) (hk:Nat.blt k0 16=true)
 (ti:List (Nat×Ty)) (m:List (Nat×Nat)) (hkt:lS k0 ti=false) (hm:NP σ.hp ti m=true) (hmn:kq (m.map (·.2))=true) (jl:List Code) (hcs:cs.atoms=true)
 (hy:∀y:YC,∃j cr L ins hpF,Ue σ y m dI lI j cs cr L ins hpF∧
  (∀B hB,Bf P gl σ.tm ps assign body k0 ti m jl (gl.wB B hB) y→Fc P (gl.wB B hB) gf L (aO (List.replicate cr.m none) ins) (.ret (.gC .nil)) (dk cr.m cr.out))∧
  (match jmp jl j with|none=>Q .normal ⟨σ.tm,hpF,.mp dI::σ.df⟩|some c=>cX P gl c ⟨σ.tm,hpF,.mp dI::σ.df⟩ Q)):cX P gl (.rangeFunc g ps assign body) σ Q:=by
 intro E a w hG
 refine wpIn_rangeFunc ?_
 intro fn _
 have hfd:=St.dK hd
 have hfl:=St.dK hl
 have hnd:lI≠dI:=fun e=>by subst e;simp at hne
 obtain⟨rec,hrec⟩:∃rec:Nat→Loop,rec=fh fn a.tmps ps assign body w.heap.size jl:=⟨_,rfl⟩
 have hrec0:rec 0={state:=.ready,pending:=none,fn:=fn,tmps:=a.tmps,params:=ps,assign:=assign,body:=body,defers:=w.heap.size}:=by rw[hrec];rfl
 obtain⟨gs,hgs⟩:∃gs:Nat→Nat,gs=fun i=>match kR (swp m) i with|some b=>(E.g b).getD 0|none=>0:=⟨_,rfl⟩
 obtain⟨j,cr,L,ins,hpF,⟨hr,hL,jg,fV,NQ,Xy,Xz⟩,hit,hq⟩:=hy ⟨w.heap.size+1,gs,rec⟩
 obtain⟨g1,x1⟩:=hG.fresh (w':=w.alloc (.deferred (some []))) hfd (g:=some w.heap.size) (sv:=undef) (t:=.unit) (k:=.sS) rfl (Tp.r rfl rfl) rfl (by simp) (fun i hi=>heap_alloc_old w _ hi) (fun i hi=>by cases hi;exact cq _)
  ⟨w.heap.size,by simp[Env.at],heap_alloc_new w _⟩
 have hs1:(w.alloc (.deferred (some []))).heap.size=w.heap.size+1:=by simp
 obtain⟨g2,x2⟩:=g1.fresh (w':=(w.alloc (.deferred (some []))).alloc (.loop (rec 0))) (d:=lI) (Bg rfl hfl hnd) (g:=some (w.heap.size+1)) (sv:=undef) (t:=.unit) (k:=.lp ⟨w.heap.size+1,gs,rec⟩ 0) rfl (Tp.r rfl rfl) rfl (by simp) (fun i hi=>heap_alloc_old _ _ hi) (fun i hi=>by cases hi;rw[hs1];exact cq _)
  ⟨by simp[Env.at],by have:=heap_alloc_new (w.alloc (.deferred (some []))) (.loop (rec 0));rw[hs1] at this;exact this⟩
 generalize hw2:(w.alloc (.deferred (some []))).alloc (.loop (rec 0))=w2 at g2 x2
 generalize hE2:(E.at dI (some w.heap.size) undef .unit).at lI (some (w.heap.size+1)) undef .unit=E2 at g2 x2
 have hE2g:∀b,b≠dI→b≠lI→E2.g b=E.g b:=fun b h1 h2=>by rw[←hE2];simp[Env.at,h1,h2]
 have hE2d:E2.g dI=some w.heap.size:=by rw[←hE2];simp[Env.at,Ne.symm hnd]
 have hE2S:E2.S=E.S:=by rw[←hE2];rfl
 have OU:=x1.trans x2
 have hmu:∀b i,kR m b=some i→lS i ti=true∧E.g b=some (gs i)∧(∀t,(i,t)∈ti→E.bt b=t)∧b≠dI∧b≠lI:=by
  intro b i hbi
  have acp:=pF hbi
  obtain⟨h1,t,v,h2,h3⟩:=FP hm b i acp
  obtain⟨r1,r2,gg,c,e,r3,_⟩:=hG.hw.cH b _ h2
  have hlk:kR (swp m) i=some b:=dX (by have:=fN hmn;simpa[swp,jC,oK] using this) (jo.2 acp)
  refine⟨h1,by rw[hgs];simp only[hlk,r3];rfl,fun t' ht'=>by rw[h3 t' ht'];exact r1,fun e=>?_,fun e=>?_⟩
  ·subst e;exact hfd.2.1 _ h2
  ·subst e;exact hfl.2.1 _ h2
 obtain⟨g3,x3⟩:=g2.tie (gs:=Ud gs m) (ti:=NO m) (by
  intro b hb
  obtain⟨i,hi⟩:=zo hb
  obtain⟨_,h2,_,h4,h5⟩:=hmu b i hi
  rw[hE2g b h4 h5,h2];simp[Ud,hi])
 have g4:cd gl ⟨σ.tm,qg ⟨w.heap.size+1,gs,rec⟩ m dI lI σ.hp,.mp dI::σ.df⟩ E2 {a with defers:={target:=.collected w.heap.size,args:= #[]}::a.defers} w2:=
  ⟨g3.len,g3.tm,g3.hw,⟨⟨w.heap.size,hE2d,rfl⟩,g3.df⟩⟩
 have hv0:=fZ g4 g
 simp only at hv0
 rw[hg] at hv0
 obtain⟨f',c',hev,r1,r2,_,_⟩:=RV.atom rfl hv0
 simp at hev
 have hf':f'= #[]:=by apply fw;exact r1
 subst hf'
 have hav:a.eval g= .func (.func gf) #[] c':=by rw[←hev];cases g<;>rfl
 obtain⟨B,hBd⟩:∃B:(Nat→Prop)→World→Prop,B=fun S' w'=>(∀b,E.S b→S' b)∧(∀b,E.S b→w'.heap[b]? =w.heap[b]?):=⟨_,rfl⟩
 have hB:∀{S S':Nat→Prop}{w w':World},(∀b,S b→w'.heap[b]? =w.heap[b]?)→(∀b,S b→S' b)→B S w→B S' w':=by
  intro S S' w0 w0' h1 h2 h3
  rw[hBd] at h3 ⊢
  exact⟨fun b hb=>h2 b (h3.1 b hb),fun b hb=>by rw[h1 b (h3.1 b hb)];exact h3.2 b hb⟩
 have hof:Bf P gl σ.tm ps assign body k0 ti m jl (gl.wB B hB) ⟨w.heap.size+1,gs,rec⟩:=by
  intro args H H' j' h1 h2 h3 h4 h5 h6
  rw[hrec]
  exact Fy.IV hG (fun S' w' h=>by rw[hBd] at h;exact h) (fun b i hbi=>⟨(hmu b i hbi).1,(hmu b i hbi).2.1,(hmu b i hbi).2.2.1⟩) h1 hk hkt h2 h3 h4 h5 h6
 obtain⟨ab3,hfn⟩:=hit B hB hof
 have hbb:=cw (qg ⟨w.heap.size+1,gs,rec⟩ m dI lI σ.hp)
 obtain⟨hφ,hwi⟩:=sa (lent:=[]) g4 hbb (fun b hb=>by cases hb) (jg) (fV)
 have hargs:kN E2 w2 ((((.func (.yield (w.heap.size+1)) .nil .nil,Ty.unit))::cs.toList.map (fun x=>(x,Ty.unit))).map (·.1)) (Value.func (.yield (w.heap.size+1)) #[] #[]::c'.toList):=by
  refine⟨RV.dO (Or.inr ⟨rfl, #[], #[],rfl,rfl,rfl,rfl,rfl⟩),?_⟩
  have:=kN.atoms hcs r2
  have e1:∀l:List AV,(l.map (fun x=>(x,Ty.unit))).map (fun x:AV×Ty=>x.1)=l:=by intro l;induction l<;>simp_all
  rw[e1];exact this
 have hv:=mG g4.hw hbb hφ (hL) (fun g hg=>hg) hargs
 have hSe:(E2.cU []).S=fun g=>E.S g∨∃b∈([]:List Nat),E2.g b=some g:=by simp only[Env.cU,hE2S]
 have hwB:HW (gl.wB B hB) (E2.to cr.al (E2.cU []).S) w2 (aO (List.replicate cr.m none) (ins)):=by
  refine hwi.ctx rfl ?_
  show B _ w2
  rw[hBd]
  refine⟨fun b hb=>by show(E2.cU []).S b;rw[hSe];exact Or.inl hb,fun b hb=>?_⟩
  exact OU.kept b (hG.hw.slt b hb) (fun⟨c,k,hc,hgc⟩=>hG.hw.dq c k b hc hgc hb)
 have hcalls:=hfn _ w2 _ hv hwB
 refine⟨w.heap.size+1,[{target:=.collected w.heap.size,args:= #[]}],w2,{target:=.fn (.func gf) c',args:= #[.func (.yield (w.heap.size+1)) #[] #[]]},w2,gf, #[.func (.yield (w.heap.size+1)) #[] #[]]++c',w2,?_,?_,fun _ _=>trivial,?_,fun h=>(by cases h),?_⟩
 ·rw[show(Wd gl).round=none from hro,run_enterLoop_outer,←hw2,hrec0]
 ·simp only[resolve,hav]
  simp[go_sem]
 ·simp[invoke,ab3]
 ·have e0:(Value.func (.yield (w.heap.size+1)) #[] #[]::c'.toList).toArray= #[.func (.yield (w.heap.size+1)) #[] #[]]++c':=by apply fw;simp
  rw[e0] at hcalls
  have h1:CallsIn Fence.wide 0 P gf _ w2 _:=callsIn_wide.2 hcalls
  refine CallsIn.mono (F:=Wd gl) h1 ?_
  rintro ed w3 ⟨E',hR,hW',hX⟩
  cases ed with
  |panicked ch=>exact hR.elim
  |outgrown=>exact hR.elim
  |
   returned v=>
   have hWg:HW gl E' w3 (dk cr.m cr.out):=by
    refine hW'.ctx rfl ?_
    have hbs:B E'.S w3:=hW'.gl.2
    rw[hBd] at hbs
    exact gl.mono hbs.2 hbs.1 hG.hw.gl.2
   have hfr:∀b∈cr.ns.map (·.2),(⟨σ.tm,qg ⟨w.heap.size+1,gs,rec⟩ m dI lI σ.hp,.mp dI::σ.df⟩:St).fresh b:=by
    have:=NQ
    rw[ky] at this
    exact fun b hb=>St.dK (this b hb)
   have hrr:=hr
   obtain⟨E3,k1,_,k3⟩:=kH (lent:=[]) g4 hbb (fun b hb=>by cases hb) (jg) (fV) hfr hWg hX (r':=.gC .nil) (by rw[hrr];rfl) (v:=v) (by rw[hrr];exact hR)
   have f1:=Xy;have f2:=Xz
   obtain⟨q1,q2⟩:=k1.hw.cH lI _ f1
   obtain⟨k4,x4⟩:=k1.shut f1 q1 (.loop {rec j with state:=.exhausted})
   obtain⟨k5,x5⟩:=k4.D3
   simp only[f2] at k5 x5
   have hst:(rec j).state≠.busy:=by rw[hrec];simp only[fh];split<;>simp
   refine⟨(rec j).pending,_,run_endLoop q2 hst,?_⟩
   have hpe:(rec j).pending=jmp jl j:=by rw[hrec];rfl
   have X:=(((OU.trans x3).trans k3).trans x4).trans x5
   generalize hwF:w3.putObj (w.heap.size+1) (.loop {rec j with state:=.exhausted})=wF at k5 X
   generalize (rec j).pending=pe at hpe
   subst hpe
   revert hq
   cases jmp jl j with
   |
    none=>
    intro hq
    exact⟨.normal,_,E3,trivial,hq,k5,X⟩
   |
    some c=>
    intro hq
    refine wpIn_mono (hq E3 _ _ k5) ?_
    rintro ex a5 w5 ⟨x,σ5,E5,z1,z2,z3,z4⟩
    exact⟨x,σ5,E5,z1,z2,z3,X.trans z4⟩
end Go.Ax
namespace Go.Ax
theorem Fc.up{P:Program}{C C':Ctx}{f:FuncId}{A:List AV}{H H':List (Option aN)}{r:uf}(hg:C'.gl=C.gl)(hC:∀S w,C.B S w)(h:Fc P C f A H r H')(hm:C'.md=C.md:=by rfl):Fc P C' f A H r H':=by
 refine⟨h.1,fun E w vs hv hw=>?_⟩
 have:=h.2 E w vs hv (hw.ctx hg.symm (hC _ _))
 intro cs
 obtain⟨e,w',fr,⟨E',r1,r2,r3⟩,rest⟩:=this cs
 rw[←hm] at r3
 exact⟨e,w',fr,⟨E',r1,r2.ctx hg (hw.fT (hw.kept r3)).2,r3⟩,rest⟩
end Go.Ax
