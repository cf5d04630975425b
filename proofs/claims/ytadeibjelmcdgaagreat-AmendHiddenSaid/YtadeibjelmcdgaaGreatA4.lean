/- The machines: what it means to be walked or run, part 4. No condition. -/
import Derived.Test.YtadeibjelmcdgaaGreatA3
import Derived.Laws.Cover3
import Derived.RangeFuncRecord
namespace Go.Ax
def Je(d:Nat)(x:AV):Bool:=x.ids.all fun c=> !Nat.beq c d
def iB(b d:Nat)(x:AV):Option AV:=if iR b x&&Je d x then some x else none
theorem Cn{d:Nat}{x:AV}(h:Je d x=true):∀c∈x.ids,c≠d:=fun c hc e=>by
 simp only[Je,List.all_eq_true] at h
 have:=h c hc
 subst e;simp at this
def Env.pull(E:Env)(b d:Nat)(og:Option Nat)(v:Value)(td tb:Ty):Env where
 g:=fun c=>if c=d then og else E.g c
 sv:=fun c=>if c=d then v else E.sv c
 bt:=fun c=>if c=d then td else if c=b then tb else E.bt c
 S:=E.S
 P:=fun c x=>c≠d∧E.P c x∧(c=b→og≠some x)
theorem Env.yk{E:Env}{b d:Nat}{og:Option Nat}{v:Value}{td tb:Ty}{c:Nat}(h1:c≠d)(h2:c≠b):(E.pull b d og v td tb).g c=E.g c∧(E.pull b d og v td tb).sv c=E.sv c∧(E.pull b d og v td tb).bt c=E.bt c:=by simp[Env.pull,h1,h2]
theorem Env.i7{E:Env}{b d:Nat}{og:Option Nat}{v:Value}{td tb:Ty}{c x:Nat}(h:c≠d)(k:(E.pull b d og v td tb).has c x):E.has c x:=by
 rcases k with k|k
 ·exact Or.inl (by simpa[Env.pull,h] using k)
 ·exact Or.inr k.2.1
theorem Env.kU{E:Env}{b d:Nat}{og:Option Nat}{v:Value}{td tb:Ty}{x:Nat}(k:(E.pull b d og v td tb).has d x):og=some x:=by
 rcases k with k|k
 ·simpa[Env.pull] using k
 ·exact absurd rfl k.1
theorem EP{E:Env}{w:World}{b d:Nat}{og:Option Nat}{v:Value}{td tb:Ty}{x:AV}{vs:List Value}(h1:iR b x=true)(h2:Je d x=true)(hr:RC E w x vs):RC (E.pull b d og v td tb) w x vs:=by
 have:=Be (t:=tb) h1 hr
 refine RC.mono (E:=E.re b tb) (E':=E.pull b d og v td tb) (w:=w) ⟨fun _ _=>rfl,fun _ h=>h⟩ (fun c hc=>?_) this
 have Rw:=Cn h2 c hc
 simp[Env.pull,Env.re,Rw]
theorem Co{E:Env}{w:World}{b d:Nat}{og:Option Nat}{v:Value}{td tb:Ty}:Good E (E.pull b d og v td tb) w (iB b d) where
 rc:=by
  intro x y vs h hr
  unfold iB at h
  split at h
  ·rename_i hn;cases h
   simp only[Bool.and_eq_true] at hn
   exact EP hn.1 hn.2 hr
  ·cases h
 agg:=by
  intro x y h
  unfold iB at h
  split at h
  ·cases h;rfl
  ·cases h
 mp:=by
  intro c y h
  unfold iB at h
  split at h
  ·rename_i hn
   cases h
   simp only[Bool.and_eq_true] at hn
   have:=Cn hn.2 c (by simp[AV.ids])
   simp[Env.pull,this]
  ·cases h
 fn:=by
  intro fn fs cs y h
  unfold iB at h
  split at h
  ·rename_i hn
   cases h
   simp only[Bool.and_eq_true,iR] at hn
   have h2:=hn.2
   simp only[Je,AV.ids,List.all_append,Bool.and_eq_true] at h2
   exact⟨fs,cs,rfl,by unfold iB;rw[if_pos];simp only[Bool.and_eq_true];exact⟨hn.1.1.1.1,h2.1⟩,by unfold iB;rw[if_pos];simp only[Bool.and_eq_true];exact⟨hn.1.1.1.2,h2.2⟩,hn.1.1.2,hn.1.2⟩
  ·cases h
theorem bD.pull{gl:Ctx}{σ:St}{E:Env}{a:Act}{w:World}(hg:bD gl σ E a w){b d:Nat}{k k1 k2:aC}{og:Option Nat}{v:Value}{td tb:Ty}{σ1:St}(hb:σ.hp[b]? =some (some k))(h16:16≤b)(R3:b≠d)(hd:σ.fresh d)
 (hP:∀x,og=some x→E.P b x∧E.g b≠some x) (hm:St.dL (iB b d) {σ with hp:=σ.hp.set b none}=some σ1) (hk1:RB (E.pull b d og v td tb) w b k1) (hk2:RB (E.pull b d og v td tb) w d k2):
 bD gl {σ1 with hp:=(σ1.hp.set b (some k1)).set d (some k2)} (E.pull b d og v td tb) a w∧Ext gl.md (Own σ.hp E) E w (Own ((σ1.hp.set b (some k1)).set d (some k2)) (E.pull b d og v td tb)) (E.pull b d og v td tb) w:=by
 have R7:=Co (E:=E) (w:=w) (b:=b) (d:=d) (og:=og) (v:=v) (td:=td) (tb:=tb)
 have h16d:=hd.2.2
 unfold St.dL at hm
 split at hm
 ·rename_i Sl df' h3 h4
  cases hm
  have src:∀(i:Nat)(k3:aC),((Sl.set b (some k1)).set d (some k2))[i]? =some (some k3)→(i=d∧k2=k3)∨(i≠d∧i=b∧k1=k3)∨(i≠d∧i≠b∧∃k0,σ.hp[i]? =some (some k0)∧fe (iB b d) (some k0)=some (some k3)):=by
   intro i k3 hi
   rw[List.getElem?_set] at hi
   split at hi
   ·rename_i e;subst e
    split at hi
    ·cases hi;exact Or.inl ⟨rfl,rfl⟩
    ·cases hi
   ·rename_i hne0
    have hne0:i≠d:=fun e=>hne0 e.symm
    rw[List.getElem?_set] at hi
    split at hi
    ·rename_i e;subst e
     split at hi
     ·cases hi;exact Or.inr (Or.inl ⟨hne0,rfl,rfl⟩)
     ·cases hi
    ·rename_i Rw
     obtain⟨k0,e1,e2⟩:=fG h3 hi
     simp only[List.getElem?_set] at e1
     rw[if_neg Rw] at e1
     exact Or.inr (Or.inr ⟨hne0,fun e=>Rw e.symm,k0,e1,e2⟩)
  have any:∀(i:Nat)(k3:aC),((Sl.set b (some k1)).set d (some k2))[i]? =some (some k3)→i≠d→∃k0,σ.hp[i]? =some (some k0):=by
   intro i k3 hi Rw
   rcases src i k3 hi with⟨e,_⟩|⟨_,e,_⟩|⟨_,_,k0,e,_⟩
   ·exact absurd e Rw
   ·subst e;exact⟨k,hb⟩
   ·exact⟨k0,e⟩
  have Sg:∀x i,i≠d→(E.pull b d og v td tb).has i x→og=some x→∀k0,σ.hp[i]? =some (some k0)→False:=by
   intro x i hi hh ho k0 hk0
   obtain⟨p1,p2⟩:=hP x ho
   have e:=hg.hw.cH b i k k0 x hb hk0 (Or.inr p1) (Env.i7 hi hh)
   subst e
   rcases hh with hh|hh
   ·have:E.g b=some x:=by simpa[Env.pull,R3] using hh
    exact p2 this
   ·exact hh.2.2 rfl ho
  refine⟨⟨?_,?_,⟨?_,?_,?_,hg.hw.slt,hg.hw.gl,?_⟩,R7.RD h4 hg.df⟩,⟨rfl,Tp.r rfl rfl,rfl,Nat.le_refl _,fun _ _ _=>rfl,fun _ h=>h,fun _ h=>Or.inl h,?_,fun i hi=>Env.yk (by omega) (by omega)⟩⟩
  ·simp only[fE];exact hg.len
  ·intro i y hy u hu
   rcases fF hy with e|⟨x,e1,e2,e3⟩
   ·subst e;trivial
   ·exact RV.cJ (R7.RV e3 (RV.fB e2 (hg.tm i x e1 u hu)))
  ·intro i k3 hi
   rcases src i k3 hi with⟨e,e'⟩|⟨_,e,e'⟩|⟨e0,e1,k0,e3,e4⟩
   ·subst e;subst e';exact hk2
   ·subst e;subst e';exact hk1
   ·obtain⟨z1,z2,z3⟩:=Env.yk (E:=E) (og:=og) (v:=v) (td:=td) (tb:=tb) e0 e1
    exact R7.RB (fun _ h=>h) (b:=i) (b':=i) z1 z2 z3 (fun _ x hx=>⟨e0,hx,fun e=>absurd e e1⟩) e4 (hg.hw.bP i k0 e3)
  ·intro i j k3 k4 x hi hj g1 g2
   by_cases e:i=d<;>by_cases e':j=d
   ·rw[e,e']
   ·subst e
    obtain⟨k5,f2⟩:=any j k4 hj e'
    exact(Sg x j e' g2 (Env.kU g1) k5 f2).elim
   ·subst e'
    obtain⟨k5,f2⟩:=any i k3 hi e
    exact(Sg x i e g1 (Env.kU g2) k5 f2).elim
   ·obtain⟨k5,f1⟩:=any i k3 hi e
    obtain⟨k6,f2⟩:=any j k4 hj e'
    exact hg.hw.cH i j k5 k6 x f1 f2 (Env.i7 e g1) (Env.i7 e' g2)
  ·intro i k3 x hi hx hs
   by_cases e:i=d
   ·subst e
    exact hg.hw.cg b k x hb (Or.inr (hP x (Env.kU hx)).1) hs
   ·obtain⟨k5,f1⟩:=any i k3 hi e
    exact hg.hw.cg i k5 x f1 (Env.i7 e hx) hs
  ·intro i k3 x hi hx
   obtain⟨k5,f1⟩:=any i k3 hi hx.1
   exact hg.hw.lS i k5 x f1 hx.2.1
  ·rintro x ⟨i,k3,hi,hx⟩
   by_cases e:i=d
   ·subst e
    exact Or.inl ⟨b,k,hb,Or.inr (hP x (Env.kU hx)).1⟩
   ·obtain⟨k5,f1⟩:=any i k3 hi e
    exact Or.inl ⟨i,k5,f1,Env.i7 e hx⟩
 ·cases hm
def Env.take(E:Env)(b d:Nat)(tb:Ty):Env:=
 {E with bt:=fun c=>if c=b then tb else E.bt c,P:=fun c x=>E.P c x∨(c=b∧E.has d x)}
theorem Env.sX{E:Env}{b d:Nat}{tb:Ty}{c x:Nat}(h:(E.take b d tb).has c x):E.has c x∨(c=b∧E.has d x):=by
 rcases h with h|h|h
 ·exact Or.inl (Or.inl h)
 ·exact Or.inl (Or.inr h)
 ·exact Or.inr h
theorem Cp{E:Env}{w:World}{b d:Nat}{tb:Ty}:Good E (E.take b d tb) w (eD b) where
 rc:=by
  intro x y vs h hr
  unfold eD at h
  split at h
  ·rename_i hn;cases h
   exact RC.mono (E:=E.re b tb) (E':=E.take b d tb) (w:=w) ⟨fun _ _=>rfl,fun _ h=>h⟩ (fun _ _=>⟨rfl,rfl,rfl⟩) (Be hn hr)
  ·cases h
 agg:=(qD (E:=E) (w:=w) (b:=b) (t:=tb)).agg
 mp:=(qD (E:=E) (w:=w) (b:=b) (t:=tb)).mp
 fn:=(qD (E:=E) (w:=w) (b:=b) (t:=tb)).fn
theorem bD.take{gl:Ctx}{σ:St}{E:Env}{a:Act}{w:World}(hg:bD gl σ E a w){b d:Nat}{k k1 k2:aC}{tb:Ty}{σ1:St}(hb:σ.hp[b]? =some (some k))(h16:16≤b)(R3:b≠d)(hd:σ.hp[d]? =some (some k2))
 (hm:St.dL (eD b) {σ with hp:=(σ.hp.set b none).set d none}=some σ1) (hk1:RB (E.take b d tb) w b k1):
 bD gl {σ1 with hp:=σ1.hp.set b (some k1)} (E.take b d tb) a w∧Ext gl.md (Own σ.hp E) E w (Own (σ1.hp.set b (some k1)) (E.take b d tb)) (E.take b d tb) w:=by
 have R7:=Cp (E:=E) (w:=w) (b:=b) (d:=d) (tb:=tb)
 unfold St.dL at hm
 split at hm
 ·rename_i Sl df' h3 h4
  cases hm
  have src:∀(i:Nat)(k3:aC),(Sl.set b (some k1))[i]? =some (some k3)→(i=b∧k1=k3)∨(i≠d∧i≠b∧∃k0,σ.hp[i]? =some (some k0)∧fe (eD b) (some k0)=some (some k3)):=by
   intro i k3 hi
   rw[List.getElem?_set] at hi
   split at hi
   ·rename_i e;subst e
    split at hi
    ·cases hi;exact Or.inl ⟨rfl,rfl⟩
    ·cases hi
   ·rename_i Rw
    obtain⟨k0,e1,e2⟩:=fG h3 hi
    simp only at e1
    rw[List.getElem?_set] at e1
    split at e1
    ·split at e1<;>cases e1
    ·rename_i hne0
     rw[List.getElem?_set,if_neg Rw] at e1
     exact Or.inr ⟨fun e=>hne0 e.symm,fun e=>Rw e.symm,k0,e1,e2⟩
  have own:∀(i:Nat)(k3:aC)(x:Nat),(Sl.set b (some k1))[i]? =some (some k3)→(E.take b d tb).has i x→∃j k0,σ.hp[j]? =some (some k0)∧E.has j x∧((i=b∧(j=b∨j=d))∨(i≠b∧i≠d∧j=i)):=by
   intro i k3 x hi hx
   rcases src i k3 hi with⟨e,_⟩|⟨e0,e1,k0,e3,_⟩
   ·subst e
    rcases Env.sX hx with h|⟨_,h⟩
    ·exact⟨i,k,hb,h,Or.inl ⟨rfl,Or.inl rfl⟩⟩
    ·exact⟨d,k2,hd,h,Or.inl ⟨rfl,Or.inr rfl⟩⟩
   ·rcases Env.sX hx with h|⟨e,_⟩
    ·exact⟨i,k0,e3,h,Or.inr ⟨e1,e0,rfl⟩⟩
    ·exact absurd e e1
  refine⟨⟨?_,?_,⟨?_,?_,?_,hg.hw.slt,hg.hw.gl,?_⟩,R7.RD h4 hg.df⟩,⟨rfl,Tp.r rfl rfl,rfl,Nat.le_refl _,fun _ _ _=>rfl,fun _ h=>h,fun _ h=>Or.inl h,?_,fun i hi=>⟨rfl,rfl,by simp[Env.take];intro e;omega⟩⟩⟩
  ·simp only[fE];exact hg.len
  ·intro i y hy u hu
   rcases fF hy with e|⟨x,e1,e2,e3⟩
   ·subst e;trivial
   ·exact RV.cJ (R7.RV e3 (RV.fB e2 (hg.tm i x e1 u hu)))
  ·intro i k3 hi
   rcases src i k3 hi with⟨e,e'⟩|⟨e0,e1,k0,e3,e4⟩
   ·subst e;subst e';exact hk1
   ·exact R7.RB (fun _ h=>h) (b:=i) (b':=i) rfl rfl (by simp[Env.take,e1]) (fun _ x hx=>Or.inl hx) e4 (hg.hw.bP i k0 e3)
  ·intro i j k3 k4 x hi hj g1 g2
   obtain⟨i',k5,f1,f2,f3⟩:=own i k3 x hi g1
   obtain⟨j',k6,f4,f5,f6⟩:=own j k4 x hj g2
   have e:=hg.hw.cH i' j' k5 k6 x f1 f4 f2 f5
   rcases f3 with⟨a1,a2⟩|⟨a1,a0,a2⟩<;>rcases f6 with⟨c1,c2⟩|⟨c1,c0,c2⟩
   ·rw[a1,c1]
   ·subst c2;subst e
    rcases a2 with a2|a2
    ·exact absurd a2 c1
    ·exact absurd a2 c0
   ·subst a2;subst e
    rcases c2 with c2|c2
    ·exact absurd c2 a1
    ·exact absurd c2 a0
   ·rw[←a2,←c2,e]
  ·intro i k3 x hi hx
   obtain⟨j,k0,f1,f2,_⟩:=own i k3 x hi hx
   exact hg.hw.cg j k0 x f1 f2
  ·intro i k3 x hi hx
   obtain⟨j,k0,f1,f2,_⟩:=own i k3 x hi (Or.inr hx)
   exact hg.hw.below f1 f2
  ·rintro x ⟨i,k3,hi,hx⟩
   obtain⟨j,k0,f1,f2,_⟩:=own i k3 x hi hx
   exact Or.inl ⟨j,k0,f1,f2⟩
 ·cases hm
end Go.Ax
namespace Go.Ax
def Cq(b i d:Nat)(σ:St):Option St:=
 match cW σ.hp b with
 |some (.bQ e bs (.slice Sm t2) xs e2 none)=>if kD b&&σ.dk d&& !Nat.beq b d then(match St.dL (iB b d) {σ with hp:=σ.hp.set b none} with
  |some σ1=>some {σ1 with hp:=(σ1.hp.set b (some (.bQ e bs (.slice Sm t2) xs e2 (some (i,.own d))))).set d (some (.row e2 Sm t2 (List.getD xs i [])))}
  |none=>none) else none
 |_=>none
theorem bX.Cr{w:World}{S:Nat→Prop}{e:TypeId}{bs:Nat}{t:Ty}{v:Value}{og:Option Nat}{xs:List t.den}(h:bX w S e (.slice bs t) v og xs):EZ w S e bs t v og xs:=h
theorem Wk.Cq{gl:Ctx}{b i d:Nat}{σ σ':St}(h:Ax.Cq b i d σ=some σ')(hi:∀e bs t xs e2 f,cW σ.hp b=some (.bQ e bs t xs e2 f)→i<xs.length):Wk gl σ σ':=by
 intro E a w hg
 unfold Ax.Cq at h
 split at h
 ·rename_i e bs Sm t2 xs e2 Sn
  have hb:=bI σ.hp b _ Sn
  have hi:=hi _ _ _ _ _ _ Sn
  split at h
  ·rename_i hc
   simp only[Bool.and_eq_true] at hc
   obtain⟨⟨h16,RU⟩,R3⟩:=hc
   have R3:b≠d:=fun e=>by subst e;simp at R3
   split at h
   ·rename_i σ1 hm
    cases h
    obtain⟨h1,h2,h3,h4,h5,g,cap,c,og,q1,q2,q3,q4,q5,q6,q7,q8⟩:=hg.hw.bP b _ hb
    have hxi:xs[i]? =some (List.getD xs i []):=by rw[List.getD_eq_getElem?_getD,List.getElem?_eq_getElem hi];rfl
    obtain⟨u,r1,_,r3⟩:=q8 i _ hxi
    obtain⟨s1,s2,s3,av,cv,s4,s5,s6⟩:=(r3 (fun v hv=>by cases hv)).Cr
    refine⟨_,hg.pull (og:=og i) (v:=u) (td:=.arr (List.length (List.getD xs i [])) t2) (tb:=fV i xs.length (.slice Sm t2)) hb (Nat.le_of_ble_eq_true h16) R3 (St.cG RU) ?_ hm ?_ ?_⟩
    ·intro x hx
     exact⟨(q7.own i x hx).1,fun e=>by rw[q3] at e;cases e;exact(q7.own i _ hx).2 rfl⟩
    ·refine⟨by simp[Env.pull,R3,jE],h2,h3,h4,fun i' v' RE=>by cases RE;exact⟨hi,rfl⟩,g,cap,c,fun j=>if j=i then none else og j,by simp[Env.pull,R3];exact q1,q2,by simp[Env.pull,R3];exact q3,q4,q5,q6,⟨?_,?_⟩,?_⟩
     ·intro j x hx
      have hx:(if j=i then none else og j)=some x:=hx
      split at hx
      ·cases hx
      ·rename_i Rw
       obtain⟨k1,k2⟩:=q7.own j x hx
       exact⟨⟨R3,k1,fun _ ho=>Rw (q7.inj j i x hx ho)⟩,k2⟩
     ·intro j j' x hx Ss
      have hx:(if j=i then none else og j)=some x:=hx
      have Ss:(if j'=i then none else og j')=some x:=Ss
      split at hx
      ·cases hx
      ·split at Ss
       ·cases Ss
       ·exact q7.inj j j' x hx Ss
     ·intro j x hx
      obtain⟨z,p1,p2,p3⟩:=q8 j x hx
      refine⟨z,p1,fun v' RE=>?_,fun RE=>?_⟩
      ·cases RE
       rw[r1] at p1;cases p1
       refine⟨if_pos rfl,by show[u]= [(if d=d then u else E.sv d)];rw[if_pos rfl],av,List.length (List.getD xs i []),cv,?_⟩
       show(if d=d then u else E.sv d)=_
       rw[if_pos rfl];exact s4
      ·have Rw:j≠i:=fun e=>by subst e;exact RE _ rfl
       simp only[Rw,if_false]
       exact bX.mono (fun _ _=>rfl) (fun _ h=>h) (fun _ _=>rfl) (p3 (fun v hv=>by cases hv))
    ·refine⟨by simp[Env.pull],s1,s2,s3,av,cv,by simp[Env.pull];exact s4,s5,?_⟩
     rcases s6 with⟨k1,k2,k3⟩|⟨g',c',k1,k2,k3,k4,k5,k6⟩
     ·exact Or.inl ⟨k1,by simp[Env.pull];exact k2,k3⟩
     ·exact Or.inr ⟨g',c',by simp[Env.pull];exact k1,k2,k3,k4,k5,k6⟩
   ·cases h
  ·cases h
 ·cases h
def l6(b:Nat)(σ:St):Option St:=
 match cW σ.hp b with
 |
  some (.bQ e bs (.slice Sm t2) xs e2 (some (i,.own d)))=>match cW σ.hp d with
  |some (.row e3 bs3 t3 ys)=>if hc:Ty.same t3 t2=true then(if Nat.beq e3 e2&&Nat.beq bs3 Sm&&kD b&& !Nat.beq b d then(match St.dL (eD b) {σ with hp:=(σ.hp.set b none).set d none} with
   |some σ1=>some {σ1 with hp:=σ1.hp.set b (some (.bQ e bs (.slice Sm t2) (List.set xs i (Ty.aA hc▸ys)) e2 none))}
   |none=>none) else none) else none
  |_=>none
 |_=>none
theorem Wk.l6{gl:Ctx}{b:Nat}{σ σ':St}(h:Ax.l6 b σ=some σ'):Wk gl σ σ':=by
 intro E a w hg
 unfold Ax.l6 at h
 split at h
 ·rename_i e bs Sm t2 xs e2 i d Sn
  have hb:=bI σ.hp b _ Sn
  split at h
  ·rename_i e3 bs3 t3 ys hd0
   have hd:=bI σ.hp d _ hd0
   split at h
   ·rename_i hc
    have et:=Ty.aA hc
    subst et
    split at h
    ·rename_i SE
     simp only[Bool.and_eq_true] at SE
     obtain⟨⟨⟨c1,c2⟩,h16⟩,R3⟩:=SE
     have e1:=Nat.eq_of_beq_eq_true c1;have Si:=Nat.eq_of_beq_eq_true c2
     subst e1;subst Si
     have R3:b≠d:=fun e=>by subst e;simp at R3
     split at h
     ·rename_i σ1 hm
      cases h
      obtain⟨h1,h2,h3,h4,h5,g,cap,c,og,q1,q2,q3,q4,q5,q6,q7,q8⟩:=hg.hw.bP b _ hb
      obtain⟨s0,s1,s2,s3,av,cv,s4,s5,s6⟩:=hg.hw.bP d _ hd
      obtain⟨hi,_⟩:=h5 i _ rfl
      refine⟨_,hg.take (tb:=.arr xs.length (.slice bs3 t3)) hb (Nat.le_of_ble_eq_true h16) R3 hd hm ?_⟩
      refine⟨by simp[Env.take,jE],h2,by rw[List.length_set];exact h3,by rw[List.length_set];exact h4,fun i' v' RE=>(by cases RE),g,cap,c,fun j=>if j=i then E.g d else og j,by rw[List.length_set];exact q1,q2,q3,q4,q5,by rw[List.length_set];exact q6,⟨?_,?_⟩,?_⟩
      ·intro j x hx
       have hx:(if j=i then E.g d else og j)=some x:=hx
       split at hx
       ·refine⟨Or.inr ⟨rfl,Or.inl hx⟩,fun e=>?_⟩
        subst e
        exact R3 (hg.hw.sep b d _ _ x hb hd q3 hx)
       ·exact⟨Or.inl (q7.own j x hx).1,(q7.own j x hx).2⟩
      ·intro j j' x hx Ss
       have hx:(if j=i then E.g d else og j)=some x:=hx
       have Ss:(if j'=i then E.g d else og j')=some x:=Ss
       split at hx<;>split at Ss
       ·rename_i e1 e2;rw[e1,e2]
       ·exact absurd (hg.hw.cH b d _ _ x hb hd (Or.inr (q7.own j' x Ss).1) (Or.inl hx)) R3
       ·exact absurd (hg.hw.cH b d _ _ x hb hd (Or.inr (q7.own j x hx).1) (Or.inl Ss)) R3
       ·exact q7.inj j j' x hx Ss
      ·intro j x hx
       rw[List.getElem?_set] at hx
       by_cases e:i=j
       ·subst e
        rw[if_pos rfl,if_pos hi] at hx
        cases hx
        obtain⟨z,p1,p2,p3⟩:=q8 i (xs.getD i []) (by rw[List.getD_eq_getElem?_getD,List.getElem?_eq_getElem hi];rfl)
        obtain⟨_,p2,_⟩:=p2 _ rfl
        have ez:z=E.sv d:=by simpa using p2
        refine⟨z,p1,fun v hv=>(by cases hv),fun _=>?_⟩
        simp only[if_true]
        refine⟨s1,s2,s3,av,cv,by rw[ez];exact s4,s5,?_⟩
        rcases s6 with⟨k1,k2,k3⟩|⟨g',c',k1,k2,k3,k4,k5,k6⟩
        ·exact Or.inl ⟨k1,k2,k3⟩
        ·exact Or.inr ⟨g',c',k1,k2,k3,k4,k5,k6⟩
       ·rw[if_neg e] at hx
        obtain⟨z,p1,p2,p3⟩:=q8 j x hx
        refine⟨z,p1,fun v hv=>(by cases hv),fun _=>?_⟩
        have e':j≠i:=fun e'=>e e'.symm
        simp only[e',if_false]
        exact p3 (fun v hv=>by cases hv;exact e rfl)
     ·cases h
    ·cases h
   ·cases h
  ·cases h
 ·cases h
end Go.Ax
namespace Go.Ax
def Env.oB(E:Env)(b:Nat)(R:Nat→Prop):Env:=
 {E with S:=fun g=>E.S g∨R g,P:=fun c x=>c≠b∧E.P c x}
theorem Env.ja{E:Env}{b:Nat}{R:Nat→Prop}{c x:Nat}(h:(E.oB b R).has c x):E.has c x:=h.imp id (fun k=>k.2)
theorem bD.oB{gl:Ctx}{σ:St}{E:Env}{a:Act}{w:World}(hg:bD gl σ E a w){b:Nat}{k k':aC}{R:Nat→Prop}(hb:σ.hp[b]? =some (some k))(hR:∀x,R x→E.P b x∧E.g b≠some x)(hk:RB (E.oB b R) w b k'):
 bD gl {σ with hp:=σ.hp.set b (some k')} (E.oB b R) a w∧Ext gl.md (Own σ.hp E) E w (Own (σ.hp.set b (some k')) (E.oB b R)) (E.oB b R) w:=by
 have kp:aV E w (E.oB b R) w:=⟨fun _ _=>rfl,fun _ h=>Or.inl h⟩
 have src:∀(i:Nat)(k3:aC),(σ.hp.set b (some k'))[i]? =some (some k3)→(i=b∧k'=k3)∨(i≠b∧σ.hp[i]? =some (some k3)):=by
  intro i k3 hi
  rw[List.getElem?_set] at hi
  split at hi
  ·rename_i e;subst e
   split at hi
   ·cases hi;exact Or.inl ⟨rfl,rfl⟩
   ·cases hi
  ·rename_i Rw;exact Or.inr ⟨fun e=>Rw e.symm,hi⟩
 have any:∀(i:Nat)(k3:aC),(σ.hp.set b (some k'))[i]? =some (some k3)→∃k0,σ.hp[i]? =some (some k0):=by
  intro i k3 hi
  rcases src i k3 hi with⟨e,_⟩|⟨_,e⟩
  ·subst e;exact⟨k,hb⟩
  ·exact⟨k3,e⟩
 refine⟨hg.carry kp (fun _ _=>⟨rfl,rfl,rfl⟩) ⟨?_,?_,?_,?_,hg.hw.dF kp,?_⟩,⟨rfl,Tp.r rfl rfl,rfl,Nat.le_refl _,fun _ _ _=>rfl,fun _ h=>Or.inl h,?_,?_,fun _ _=>⟨rfl,rfl,rfl⟩⟩⟩
 ·intro i k3 hi
  rcases src i k3 hi with⟨e,e'⟩|⟨e,e'⟩
  ·subst e;subst e';exact hk
  ·exact RB.mono kp (fun _ _=>⟨rfl,rfl,rfl⟩) (fun _ _=>rfl) (fun _ x hx=>⟨e,hx⟩) (hg.hw.bP i k3 e')
 ·intro i j k3 k4 x hi hj g1 g2
  obtain⟨k5,f1⟩:=any i k3 hi
  obtain⟨k6,f2⟩:=any j k4 hj
  exact hg.hw.cH i j k5 k6 x f1 f2 (Env.ja g1) (Env.ja g2)
 ·intro i k3 x hi hx hs
  obtain⟨k5,f1⟩:=any i k3 hi
  rcases hs with hs|hs
  ·exact hg.hw.cg i k5 x f1 (Env.ja hx) hs
  ·obtain⟨r1,r2⟩:=hR x hs
   have e:=hg.hw.cH b i k k5 x hb f1 (Or.inr r1) (Env.ja hx)
   subst e
   rcases hx with hx|hx
   ·exact r2 hx
   ·exact hx.1 rfl
 ·rintro x (hs|hs)
  ·exact hg.hw.slt x hs
  ·exact hg.hw.lS b k x hb (hR x hs).1
 ·intro i k3 x hi hx
  obtain⟨k5,f1⟩:=any i k3 hi
  exact hg.hw.lS i k5 x f1 hx.2
 ·rintro x (hs|hs)
  ·exact Or.inl hs
  ·exact Or.inr (Or.inl ⟨b,k,hb,Or.inr (hR x hs).1⟩)
 ·rintro x ⟨i,k3,hi,hx⟩
  obtain⟨k5,f1⟩:=any i k3 hi
  exact Or.inl ⟨i,k5,f1,Env.ja hx⟩
theorem bX.rel{w:World}{S S':Nat→Prop}{e:TypeId}(hS:∀b,S b→S' b){t:Ty}{v:Value}{og:Option Nat}{x:t.den}(hg:∀g,og=some g→S' g)(h:bX w S e t v og x):Rel w S' t [v] x:=by
 cases t with
 |
  slice bs t=>
  obtain⟨h1,h2,h3,a,cap,h4,h5,h6⟩:=h
  subst h4
  rcases h6 with⟨⟨k1,k2⟩,k3,k4⟩|⟨g,c,k1,k2,k3,k4,k5,k6⟩
  ·subst k4;exact⟨a,cap,rfl,Nat.zero_le _,h1,h2,Or.inl rfl⟩
  ·refine⟨a,cap,rfl,k5,h1,h2,Or.inr ⟨g,0,_,k2,hg g k1,?_,aI.mono (fun _ _=>Rel.mono (fun _ _=>rfl) hS) k6⟩⟩
   have:=ka.of_heap k3 0 (List.length x*t.size)
   rw[List.drop_zero] at this
   exact this
 |
  map k u=>
  obtain⟨es,h0,h1,h2,g,en,clock,h3,h4,h5,h6,h7,h8⟩:=h
  subst h0;subst h4
  exact⟨some g,rfl,Or.inr ⟨es,g,en,clock,rfl,rfl,hg g h3,h5,fS.mono (fun _ _=>eo.mono (fun _ _=>Rel.mono (fun _ _=>rfl) hS)) (fun _ _=>eo.mono (fun _ _=>Rel.mono (fun _ _=>rfl) hS)) h6,h1,h2,h7,h8⟩⟩
 |_=>exact h.elim
def zO(b:Nat)(σ:St):Option St:=
 match cW σ.hp b with
 |some (.bQ e bs t xs _ none)=>some {σ with hp:=σ.hp.set b (some (.row e bs t xs))}
 |some (.pmap k t es _ none)=>if t.isAgg then none else some {σ with hp:=σ.hp.set b (some (.map k t es))}
 |_=>none
theorem aI.at{α:Type}{r:List Value→α→Prop}:∀{xs:List α}{cs:List Value},cs.length=xs.length→(∀(i:Nat)(x:α),xs[i]? =some x→∃u,cs[i]? =some u∧r [u] x)→aI r cs xs
 |[],cs,hl,_=>List.eq_nil_of_length_eq_zero hl
 |x::xs,[],hl,_=>by simp at hl
 |
  x::xs,c::cs,hl,h=>by
  obtain⟨u,h1,h2⟩:=h 0 x rfl
  simp at h1;subst h1
  exact⟨[c],cs,rfl,h2,aI.at (by simpa using hl) (fun i y hy=>by simpa using h (i+1) y (by simpa using hy))⟩
theorem RM.at{E:Env}{w:World}{k v:Ty}:∀{es:List (k.den×v.den)}{en:List MapEntry},en.length=es.length→(∀(i:Nat) x,es[i]? =some x→∃m,en[i]? =some m∧bN E w (.val k x.1) m.key∧bN E w (.val v x.2) m.val)→RM E w k v en es
 |[],[],_,_=>trivial
 |[],_::_,hl,_=>by simp at hl
 |_::_,[],hl,_=>by simp at hl
 |
  x::es,m::en,hl,h=>by
  obtain⟨u,h1,h2,h3⟩:=h 0 x rfl
  simp at h1;subst h1
  exact⟨h2,h3,RM.at (by simpa using hl) (fun i y hy=>by simpa using h (i+1) y (by simpa using hy))⟩
theorem Wk.zO{gl:Ctx}{b:Nat}{σ σ':St}(h:Ax.zO b σ=some σ'):Wk gl σ σ':=by
 intro E a w hg
 unfold Ax.zO at h
 split at h
 ·rename_i e bs t xs e2 Sn
  have hb:=bI σ.hp b _ Sn
  cases h
  obtain⟨h1,h2,h3,h4,h5,g,cap,c,og,q1,q2,q3,q4,q5,q6,q7,q8⟩:=hg.hw.bP b _ hb
  obtain⟨r1,r2⟩:=hg.oB (k':=.row e bs t xs) (R:=fun x=>∃i,og i=some x) hb (fun x ⟨i,hi⟩=>⟨(q7.own i x hi).1,fun e=>by rw[q3] at e;cases e;exact(q7.own i _ hi).2 rfl⟩) (by
   refine⟨h1,h3,h4,by omega,some ⟨g,0,none⟩,cap,q1,q2,Or.inr ⟨g,c,q3,rfl,q4,by rw[h2,Nat.mul_one];exact q5,q6,?_⟩⟩
   rw[h2,Nat.mul_one]
   refine aI.at (by have hl:c.toList.length=cap:=q5;rw[List.length_take,hl];omega) (fun i x hx=>?_)
   have hi:=(List.getElem?_eq_some_iff.1 hx).1
   obtain⟨u,p1,_,p3⟩:=q8 i x hx
   refine⟨u,by rw[List.getElem?_take,if_pos hi];simpa using p1,?_⟩
   exact bX.rel (fun b hb=>Or.inl hb) (fun x hx=>Or.inr ⟨i,hx⟩) (p3 (fun v hv=>by cases hv)))
  exact⟨_,r1,r2⟩
 ·rename_i k t es e2 Sn
  have hb:=bI σ.hp b _ Sn
  split at h
  ·cases h
  ·rename_i Rv
   cases h
   obtain⟨h1,h2,h3,g,en,clock,og,q1,q2,q3,q4,q5,q6,q7,q8⟩:=hg.hw.bP b _ hb
   have kp:aV E w (E.oB b fun x=>∃i,og i=some x) w:=⟨fun _ _=>rfl,fun _ h=>Or.inl h⟩
   obtain⟨r1,r2⟩:=hg.oB (k':=.map k t es) (R:=fun x=>∃i,og i=some x) hb (fun x ⟨i,hi⟩=>⟨(q5.own i x hi).1,fun e=>by rw[q1] at e;cases e;exact(q5.own i _ hi).2 rfl⟩) (by
    refine⟨h1,h2,g,en,clock,q1,q2,RM.at (by rw[Array.length_toList];exact q6) (fun i x hx=>?_),q3,q4⟩
    obtain⟨m,p1,p2,_,p4⟩:=q7 i x hx
    refine⟨m,by simpa using p1,bN.mono kp (fun _ hb=>by cases hb) p2,Or.inr ⟨by simpa[AV.isAgg] using Rv,?_⟩⟩
    exact bX.rel (fun b hb=>Or.inl hb) (fun x hx=>Or.inr ⟨i,hx⟩) (p4 (fun v pr hv=>by cases hv)))
   exact⟨_,r1,r2⟩
 ·cases h
def Cs(b:Nat)(e2:TypeId)(σ:St):Option St:=
 match cW σ.hp b with
 |some (.map k t [])=>some {σ with hp:=σ.hp.set b (some (.pmap k t [] e2 none))}
 |_=>none
theorem Wk.Cs{gl:Ctx}{b:Nat}{e2:TypeId}{σ σ':St}(h:Ax.Cs b e2 σ=some σ'):Wk gl σ σ':=by
 intro E a w hg
 unfold Ax.Cs at h
 split at h
 ·rename_i k t Sn
  have hb:=bI σ.hp b _ Sn
  cases h
  obtain⟨h1,h2,g,en,clock,q1,q2,q3,q4,q5⟩:=hg.hw.bP b _ hb
  obtain⟨r1,r2⟩:=hg.oB (k':=.pmap k t [] e2 none) (R:=fun _=>False) hb (fun x hx=>hx.elim) (by
   have hn:en.toList= []:=by
    cases he:en.toList with
    |nil=>rfl
    |cons _ _=>rw[he] at q3;exact q3.elim
   have hs:en.size=0:=by rw[←Array.length_toList,hn];rfl
   exact⟨h1,h2,fun kx v pr hv=>(by cases hv),g,en,clock,fun _=>none,q1,q2,q4,q5,⟨fun i u hu=>(by cases hu),fun i j u hu=>(by cases hu)⟩,hs,fun i x hx=>by simp at hx,fun kx v=>⟨fun hf=>(by cases hf),fun hf=>(by cases hf)⟩⟩)
  exact⟨_,r1,r2⟩
 ·cases h
end Go.Ax
namespace Go.Ax
theorem rj{kt vt:Ty}(hk:kt.keyed=true){k:kt.den}:∀{es:List (kt.den×vt.den)},dh kt k es=true→∃i:Nat,es[i]? =some (k,cI kt vt k es)
 |[],h=>by simp[dh] at h
 |
  x::es,h=>by
  simp only[dh,Bool.or_eq_true] at h
  cases hb:aO kt k x.1 with
  |true=>exact⟨0,by simp only[cI,hb,if_true,List.getElem?_cons_zero];rw[(bO hk _ _).1 hb]⟩
  |
   false=>
   rw[hb] at h
   obtain⟨i,hi⟩:=rj hk (h.resolve_left (by simp))
   exact⟨i+1,by simp only[cI,hb,List.getElem?_cons_succ];exact hi⟩
theorem yl{kt vt:Ty}{k:kt.den}:∀{es:List (kt.den×vt.den)},dh kt k es=false→cI kt vt k es=vt.bL
 |[],_=>rfl
 |
  x::es,h=>by
  simp only[dh,Bool.or_eq_false_iff] at h
  simp only[cI,h.1,Bool.false_eq_true,if_false]
  exact yl h.2
theorem pK{E:Env}{w:World}{b d:Nat}{kt t:Ty}{es:List (kt.den×t.den)}{e2:TypeId}(Sf:RB E w b (.pmap kt t es e2 none))(R3:b≠d){kx:kt.den}{y:t.den}{i:Nat}(hi:es[i]? =some (kx,y)):
 ∃u og,bX w E.S e2 t u og y∧(∀x,og=some x→E.P b x∧E.g b≠some x)∧
  ∀v pr td tb,v.bz t=true→RC (E.pull b d og u td tb) w v [u]→RB (E.pull b d og u td tb) w b (.pmap kt t es e2 (some (kx,v,pr))):=by
 obtain⟨z1,z2,z3,g,en,clock,og,y1,y2,y3,y4,y5,y6,y7,y8⟩:=Sf
 obtain⟨m,t1,t2,_,t4⟩:=y7 i _ hi
 refine⟨m.val,og i,t4 (fun v pr hv=>by cases hv),fun x hx=>⟨(y5.own i x hx).1,fun e=>by rw[y1] at e;cases e;exact(y5.own i _ hx).2 rfl⟩,?_⟩
 intro v pr td tb hc hr
 have kp:aV E w (E.pull b d (og i) m.val td tb) w:=⟨fun _ _=>rfl,fun _ h=>h⟩
 refine⟨z1,z2,fun kx' v' pr' RE=>by cases RE;exact hc,g,en,clock,fun j=>if j=i then none else og j,by simp[Env.pull,R3];exact y1,y2,y3,y4,⟨?_,?_⟩,y6,?_,?_⟩
 ·intro j x hx
  have hx:(if j=i then none else og j)=some x:=hx
  split at hx
  ·cases hx
  ·rename_i Rw
   obtain⟨k1,k2⟩:=y5.own j x hx
   exact⟨⟨R3,k1,fun _ ho=>Rw (y5.inj j i x hx ho)⟩,k2⟩
 ·intro j j' x hx Ss
  have hx:(if j=i then none else og j)=some x:=hx
  have Ss:(if j'=i then none else og j')=some x:=Ss
  split at hx
  ·cases hx
  ·split at Ss
   ·cases Ss
   ·exact y5.inj j j' x hx Ss
 ·intro j x hx
  obtain⟨m2,p1,p2,_,p4⟩:=y7 j x hx
  refine⟨m2,p1,bN.mono kp (fun _ hb=>by cases hb) p2,fun v' pr' RE=>?_,fun RE=>?_⟩
  ·obtain⟨xk,xv⟩:=x
   simp only[Option.some.injEq,Prod.mk.injEq] at RE
   obtain⟨e1,e2,e3⟩:=RE
   subst e1;subst e2
   have e:=jW z1 hi hx
   subst e
   rw[t1] at p1;cases p1
   exact⟨if_pos rfl,hr⟩
  ·have Rw:j≠i:=fun e=>by
    subst e
    rw[hi] at hx;cases hx
    exact RE v pr rfl
   simp only[Rw,if_false]
   exact bX.mono (fun _ _=>rfl) (fun _ h=>h) (fun _ _=>rfl) (p4 (fun v pr hv=>by cases hv))
 ·intro kx' v'
  refine⟨fun hf hn=>?_,fun hf=>?_⟩<;>cases hf
  ·exact absurd (List.mem_map.2 ⟨_,List.mem_of_getElem? hi,rfl⟩) hn
  ·exact List.mem_map.2 ⟨_,List.mem_of_getElem? hi,rfl⟩
theorem vg{E:Env}{w:World}{b d:Nat}{kt t:Ty}{es:List (kt.den×t.den)}{e2:TypeId}(Sf:RB E w b (.pmap kt t es e2 none))(R3:b≠d){kx:kt.den}(hn:kx∉es.map (·.1)){v:AV}{u:Value}{td tb:Ty}(hc:v.bz t=true)(hr:RC (E.pull b d none u td tb) w v [zeroV t]):
 RB (E.pull b d none u td tb) w b (.pmap kt t es e2 (some (kx,v,false))):=by
 obtain⟨z1,z2,z3,g,en,clock,og,y1,y2,y3,y4,y5,y6,y7,y8⟩:=Sf
 have kp:aV E w (E.pull b d none u td tb) w:=⟨fun _ _=>rfl,fun _ h=>h⟩
 refine⟨z1,z2,fun kx' v' pr' RE=>by cases RE;exact hc,g,en,clock,og,by simp[Env.pull,R3];exact y1,y2,y3,y4,y5.mono (fun x hx=>⟨R3,hx,fun _=>by simp⟩),y6,?_,?_⟩
 ·intro j x hx
  obtain⟨m2,p1,p2,_,p4⟩:=y7 j x hx
  refine⟨m2,p1,bN.mono kp (fun _ hb=>by cases hb) p2,fun v' pr' RE=>?_,fun RE=>bX.mono (fun _ _=>rfl) (fun _ h=>h) (fun _ _=>rfl) (p4 (fun v pr hv=>by cases hv))⟩
  simp only[Option.some.injEq,Prod.mk.injEq] at RE
  exact absurd (List.mem_map.2 ⟨x,List.mem_of_getElem? hx,RE.1.symm⟩) hn
 ·intro kx' v'
  refine⟨fun hf _=>?_,fun hf=>?_⟩<;>cases hf
  exact hr
theorem pL{E:Env}{w:World}{b d:Nat}{kt t tb:Ty}(hk:kt.keyed=true){es:List (kt.den×t.den)}{e2:TypeId}{kx:kt.den}{v:AV}(Sf:RB E w b (.pmap kt t es e2 (some (kx,v,true)))){y:t.den}(RX:∀u,RC E w v [u]→bX w E.S e2 t u (E.g d) y)
 (hsep:∀x,E.has b x→¬E.has d x):RB (E.take b d tb) w b (.pmap kt t (cj kt kx y es) e2 none):=by
 obtain⟨z1,z2,z3,g,en,clock,og,y1,y2,y3,y4,y5,y6,y7,y8⟩:=Sf
 have hin:=(y8 kx v).2 rfl
 obtain⟨⟨kx',y0⟩,hm,e⟩:=List.mem_map.1 hin
 have e:kx'=kx:=e
 subst e
 obtain⟨i,hi⟩:=List.mem_iff_getElem?.1 hm
 have Ru:i<es.length:=(List.getElem?_eq_some_iff.1 hi).1
 have Su:=qv hk (y:=y) z1 hi
 have kp:aV E w (E.take b d tb) w:=⟨fun _ _=>rfl,fun _ h=>h⟩
 refine⟨eG hk z1,by rw[Su,List.length_set];exact z2,fun kx' v' pr' RE=>(by cases RE),g,en,clock,fun j=>if j=i then E.g d else og j,y1,y2,y3,y4,⟨?_,?_⟩,by rw[Su,List.length_set];exact y6,?_,fun kx' v'=>⟨fun hf=>(by cases hf),fun hf=>(by cases hf)⟩⟩
 ·intro j x hx
  have hx:(if j=i then E.g d else og j)=some x:=hx
  split at hx
  ·exact⟨Or.inr ⟨rfl,Or.inl hx⟩,fun e=>by subst e;exact hsep x (Or.inl y1) (Or.inl hx)⟩
  ·exact⟨Or.inl (y5.own j x hx).1,(y5.own j x hx).2⟩
 ·intro j j' x hx Ss
  have hx:(if j=i then E.g d else og j)=some x:=hx
  have Ss:(if j'=i then E.g d else og j')=some x:=Ss
  split at hx<;>split at Ss
  ·rename_i e1 e2;rw[e1,e2]
  ·exact absurd (Or.inl hx) (hsep x (Or.inr (y5.own j' x Ss).1))
  ·exact absurd (Or.inl Ss) (hsep x (Or.inr (y5.own j x hx).1))
  ·exact y5.inj j j' x hx Ss
 ·rw[Su]
  intro j x hx
  rw[List.getElem?_set] at hx
  by_cases Rw:i=j
  ·subst Rw
   rw[if_pos rfl,if_pos Ru] at hx
   cases hx
   obtain⟨m,p1,p2,p3,_⟩:=y7 i _ hi
   refine⟨m,p1,bN.mono kp (fun _ hb=>by cases hb) p2,fun v' pr' RE=>(by cases RE),fun _=>?_⟩
   simp only[if_true]
   exact RX _ (p3 v true rfl).2
  ·rw[if_neg Rw] at hx
   obtain⟨m,p1,p2,p3,p4⟩:=y7 j x hx
   have hxk:x.1≠kx':=fun e=>by
    obtain⟨xk,xv⟩:=x
    simp only at e
    subst e
    exact Rw (jW z1 hi hx)
   have hne':j≠i:=fun e=>Rw e.symm
   refine⟨m,p1,bN.mono kp (fun _ hb=>by cases hb) p2,fun v' pr' RE=>(by cases RE),fun _=>?_⟩
   simp only[hne',if_false]
   exact p4 (fun v' pr' RE=>by cases RE;exact hxk rfl)
end Go.Ax
namespace Go.Ax
def Ct(mode b d:Nat)(kt:Ty)(kx:kt.den)(σ:St):Option (List VC×St):=
 match mode,cW σ.hp b with
 |0,some (.pmap k u es e2 none)=>if h:Ty.same k kt=true then(if k.keyed&&kD b&&u.oP&&AV.bz .cO u then some ([vc (dh k (Ty.aA h▸kx:k.den) es=false)],{σ with hp:=σ.hp.set b (some (.pmap k u es e2 (some ((Ty.aA h▸kx:k.den),.cO,false))))}) else none) else none
 |1,some (.pmap k (.map k2 v2) es e2 none)=>if h:Ty.same k kt=true then(if k.keyed&&kD b&&σ.dk d&& !Nat.beq b d then(match St.dL (iB b d) {σ with hp:=σ.hp.set b none} with
  |some σ1=>some ([vc (dh k (Ty.aA h▸kx:k.den) es=true)],{σ1 with hp:=(σ1.hp.set b (some (.pmap k (.map k2 v2) es e2 (some ((Ty.aA h▸kx:k.den),.mp d,true))))).set d (some (.map k2 v2 (ew (cI k (.map k2 v2) (Ty.aA h▸kx:k.den) es))))})
  |none=>none) else none) else none
 |2,some (.pmap k (.slice bs t2) es e2 none)=>if h:Ty.same k kt=true then(if k.keyed&&kD b&&σ.dk d&& !Nat.beq b d&&Nat.blt 0 t2.size then(match St.dL (iB b d) {σ with hp:=σ.hp.set b none} with
  |some σ1=>some ([],{σ1 with hp:=(σ1.hp.set b (some (.pmap k (.slice bs t2) es e2 (some ((Ty.aA h▸kx:k.den),.own d,false))))).set d (some (.row e2 bs t2 (cI k (.slice bs t2) (Ty.aA h▸kx:k.den) es)))})
  |none=>none) else none) else none
 |_,_=>none
theorem RB.He{E:Env}{w:World}{d:Nat}{e:TypeId}{bs:Nat}{t:Ty}(hp:0<t.size)(h1:E.bt d= .arr 0 t)(h2:E.sv d= .slice none 0 0)(h3:E.g d=none):RB E w d (.row e bs t []):=
 ⟨h1,by simp,by simp,hp,none,0,h2,Nat.zero_le _,Or.inl ⟨⟨rfl,rfl⟩,h3,rfl⟩⟩
theorem Wk.Ct{gl:Ctx}{mode b d:Nat}{kt:Ty}{kx:kt.den}{σ σ':St}{vcs:List VC}(h:Ax.Ct mode b d kt kx σ=some (vcs,σ'))(Rx:cD vcs):Wk gl σ σ':=by
 intro E a w hg
 unfold Ax.Ct at h
 split at h
 ·rename_i k u es e2 Sn
  have hb:=bI σ.hp b _ Sn
  split at h
  ·rename_i hs
   have et:=Ty.aA hs
   subst et
   split at h
   ·rename_i hc
    cases h
    simp only[Bool.and_eq_true] at hc
    obtain⟨⟨⟨hk,h16⟩,hm⟩,hcf⟩:=hc
    have hn:dh k kx es=false:=Rx.1
    have hn':kx∉es.map (·.1):=fun hm=>by rw[(iN hk).2 hm] at hn;cases hn
    obtain⟨z1,z2,z3,g,en,clock,og,y1,y2,y3,y4,y5,y6,y7,y8⟩:=hg.hw.bP b _ hb
    have hw:=hg.hw.write (w':=w) (k':=.pmap k u es e2 (some (kx,.cO,false))) hb rfl (fun _ _=>rfl) (by
     refine⟨z1,z2,fun kx' v' pr' RE=>by cases RE;exact hcf,g,en,clock,og,y1,y2,y3,y4,y5,y6,?_,?_⟩
     ·intro j x hx
      obtain⟨m2,p1,p2,_,p4⟩:=y7 j x hx
      refine⟨m2,p1,p2,fun v' pr' RE=>?_,fun RE=>p4 (fun v pr hv=>by cases hv)⟩
      simp only[Option.some.injEq,Prod.mk.injEq] at RE
      exact absurd (List.mem_map.2 ⟨x,List.mem_of_getElem? hx,RE.1.symm⟩) hn'
     ·intro kx' v'
      refine⟨fun hf _=>?_,fun hf=>?_⟩<;>cases hf
      rw[pg hm];rfl)
    exact⟨E,hg.carry ⟨fun _ _=>rfl,fun _ h=>h⟩ (fun _ _=>⟨rfl,rfl,rfl⟩) hw,{Ext.refl (md:=gl.md) (Own σ.hp E) E w with own:=fun g R4=>Or.inl (Own.set hb R4)}⟩
   ·cases h
  ·cases h
 ·rename_i k k2 v2 es e2 Sn
  have hb:=bI σ.hp b _ Sn
  split at h
  ·rename_i hs
   have et:=Ty.aA hs
   subst et
   split at h
   ·rename_i hc
    simp only[Bool.and_eq_true] at hc
    obtain⟨⟨⟨hk,h16⟩,RU⟩,R3⟩:=hc
    have R3:b≠d:=fun e=>by subst e;simp at R3
    split at h
    ·rename_i σ1 hm
     cases h
     have hn:dh k kx es=true:=Rx.1
     obtain⟨i,hi⟩:=rj (vt:=.map k2 v2) hk hn
     obtain⟨u,og,s1,s2,s3⟩:=pK (hg.hw.bP b _ hb) R3 hi
     obtain⟨es',e0,m1,m2,g,en,clock,m3,m4,m5,m6,m7,m8⟩:=s1
     have ge:(E.pull b d og u .unit .unit).g d=some g:=by simp[Env.pull];exact m3
     refine⟨_,hg.pull (og:=og) (v:=u) (td:=.unit) (tb:=.unit) hb (Nat.le_of_ble_eq_true h16) R3 (St.cG RU) s2 hm (s3 (.mp d) true .unit .unit rfl ⟨g,ge,by rw[m4]⟩) ?_⟩
     rw[e0]
     exact⟨m1,m2,g,en,clock,ge,m5,RM.of (E:=E.pull b d og u .unit .unit) m6,m7,m8⟩
    ·cases h
   ·cases h
  ·cases h
 ·rename_i k bs t2 es e2 Sn
  have hb:=bI σ.hp b _ Sn
  split at h
  ·rename_i hs
   have et:=Ty.aA hs
   subst et
   split at h
   ·rename_i hc
    simp only[Bool.and_eq_true] at hc
    obtain⟨⟨⟨⟨hk,h16⟩,RU⟩,R3⟩,hpos⟩:=hc
    have R3:b≠d:=fun e=>by subst e;simp at R3
    have hpos:0<t2.size:=by simp[Nat.blt] at hpos;omega
    split at h
    ·rename_i σ1 hm
     cases h
     cases hn:dh k kx es with
     |
      true=>
      obtain⟨i,hi⟩:=rj (vt:=.slice bs t2) hk hn
      obtain⟨u,og,s1,s2,s3⟩:=pK (hg.hw.bP b _ hb) R3 hi
      obtain⟨q1,q2,q3,av,cv,q4,q5,q6⟩:=s1.Cr
      refine⟨_,hg.pull (og:=og) (v:=u) (td:=.arr (List.length (cI k (.slice bs t2) kx es)) t2) (tb:=.unit) hb (Nat.le_of_ble_eq_true h16) R3 (St.cG RU) s2 hm (s3 (.own d) false _ .unit rfl ⟨by simp[Env.pull],av,List.length (cI k (.slice bs t2) kx es),cv,by simp[Env.pull];exact q4⟩) ?_⟩
      refine⟨by simp[Env.pull],q1,q2,q3,av,cv,by simp[Env.pull];exact q4,q5,?_⟩
      rcases q6 with⟨k1,k2,k3⟩|⟨g',c',k1,k2,k3,k4,k5,k6⟩
      ·exact Or.inl ⟨k1,by simp[Env.pull];exact k2,k3⟩
      ·exact Or.inr ⟨g',c',by simp[Env.pull];exact k1,k2,k3,k4,k5,k6⟩
     |
      false=>
      have hn':kx∉es.map (·.1):=fun hm=>by rw[(iN hk).2 hm] at hn;cases hn
      have e0:cI k (.slice bs t2) kx es= []:=yl hn
      rw[e0]
      refine⟨_,hg.pull (og:=none) (v:=.slice none 0 0) (td:=.arr 0 t2) (tb:=.unit) hb (Nat.le_of_ble_eq_true h16) R3 (St.cG RU) (fun x hx=>by cases hx) hm (vg (hg.hw.bP b _ hb) R3 hn' rfl ⟨by simp[Env.pull,zeroV],none,0,0,by simp[Env.pull]⟩) ?_⟩
      exact RB.He hpos (by simp[Env.pull]) (by simp[Env.pull]) (by simp[Env.pull])
    ·cases h
   ·cases h
  ·cases h
 ·cases h
def jJ(b:Nat)(σ:St):Option St:=
 match cW σ.hp b with
 |
  some (.pmap k (.slice Sm t2) es e2 (some (kx,.own d,true)))=>match cW σ.hp d with
  |some (.row e3 bs3 t3 ys)=>if hc:Ty.same t3 t2=true then(if k.keyed&&Nat.beq e3 e2&&Nat.beq bs3 Sm&&kD b&& !Nat.beq b d then(match St.dL (eD b) {σ with hp:=(σ.hp.set b none).set d none} with
   |some σ1=>some {σ1 with hp:=σ1.hp.set b (some (.pmap k (.slice Sm t2) (cj k kx (Ty.aA hc▸ys:List t2.den) es) e2 none))}
   |none=>none) else none) else none
  |_=>none
 |
  some (.pmap k (.map k2 v2) es e2 (some (kx,.mp d,true)))=>match cW σ.hp d with
  |some (.map k3 v3 ys)=>if hc:Ty.same k3 k2=true∧Ty.same v3 v2=true then(if k.keyed&&kD b&& !Nat.beq b d then(match St.dL (eD b) {σ with hp:=(σ.hp.set b none).set d none} with
   |some σ1=>some {σ1 with hp:=σ1.hp.set b (some (.pmap k (.map k2 v2) (cj k kx (some (Ty.aA hc.1▸Ty.aA hc.2▸ys:List (k2.den×v2.den))) es) e2 none))}
   |none=>none) else none) else none
  |_=>none
 |_=>none
theorem Wk.jJ{gl:Ctx}{b:Nat}{σ σ':St}(h:Ax.jJ b σ=some σ'):Wk gl σ σ':=by
 intro E a w hg
 unfold Ax.jJ at h
 split at h
 ·rename_i k Sm t2 es e2 kx d Sn
  have hb:=bI σ.hp b _ Sn
  split at h
  ·rename_i e3 bs3 t3 ys hd0
   have hd:=bI σ.hp d _ hd0
   split at h
   ·rename_i hc
    have et:=Ty.aA hc
    subst et
    split at h
    ·rename_i SE
     simp only[Bool.and_eq_true] at SE
     obtain⟨⟨⟨⟨hk,c1⟩,c2⟩,h16⟩,R3⟩:=SE
     have e1:=Nat.eq_of_beq_eq_true c1;have Si:=Nat.eq_of_beq_eq_true c2
     subst e1;subst Si
     have R3:b≠d:=fun e=>by subst e;simp at R3
     split at h
     ·rename_i σ1 hm
      cases h
      refine⟨_,hg.take (tb:=.unit) hb (Nat.le_of_ble_eq_true h16) R3 hd hm (pL hk (hg.hw.bP b _ hb) ?_ (fun x h1 h2=>R3 (hg.hw.cH b d _ _ x hb hd h1 h2)))⟩
      intro u hu
      obtain⟨s0,s1,s2,s3,av,cv,s4,s5,s6⟩:=hg.hw.bP d _ hd
      obtain⟨hu,_⟩:=hu
      have eu:u=E.sv d:=by simpa using hu
      refine⟨s1,s2,s3,av,cv,by rw[eu];exact s4,s5,?_⟩
      rcases s6 with⟨k1,k2,k3⟩|⟨g',c',k1,k2,k3,k4,k5,k6⟩
      ·exact Or.inl ⟨k1,k2,k3⟩
      ·exact Or.inr ⟨g',c',k1,k2,k3,k4,k5,k6⟩
     ·cases h
    ·cases h
   ·cases h
  ·cases h
 ·rename_i k k2 v2 es e2 kx d Sn
  have hb:=bI σ.hp b _ Sn
  split at h
  ·rename_i k3 v3 ys hd0
   have hd:=bI σ.hp d _ hd0
   split at h
   ·rename_i hc
    obtain⟨hc1,SE⟩:=hc
    have et:=Ty.aA hc1
    subst et
    have et2:=Ty.aA SE
    subst et2
    split at h
    ·rename_i SE
     simp only[Bool.and_eq_true] at SE
     obtain⟨⟨hk,h16⟩,R3⟩:=SE
     have R3:b≠d:=fun e=>by subst e;simp at R3
     split at h
     ·rename_i σ1 hm
      cases h
      refine⟨_,hg.take (tb:=.unit) hb (Nat.le_of_ble_eq_true h16) R3 hd hm (pL hk (hg.hw.bP b _ hb) ?_ (fun x h1 h2=>R3 (hg.hw.cH b d _ _ x hb hd h1 h2)))⟩
      intro u hu
      obtain⟨s1,s2,g,en,clock,s3,s4,s5,s6,s7⟩:=hg.hw.bP d _ hd
      obtain⟨g',R4,eu⟩:=hu
      rw[s3] at R4;cases R4
      have eu:u= .map (some g):=by simpa using eu
      exact⟨ys,rfl,s1,s2,g,en,clock,s3,eu,s4,RM.to s5,s6,s7⟩
     ·cases h
    ·cases h
   ·cases h
  ·cases h
 ·cases h
end Go.Ax
namespace Go.Ax
def vj(b:Nat):AV→Bool
 | .own c| .fQ c _ _| .dc c=> !Nat.beq c b
 | .func _ fs cs=>vj b fs&&vj b cs&&fs.atoms&&cs.atoms
 | .iface _ v=>vj b v
 | .cons a c=>vj b a&&vj b c
 | .bot| .dX _| .opt _ _=>false
 |_=>true
def jK(b:Nat)(x:AV):Option AV:=if vj b x then some x else none
def Env.rs(E:Env)(b:Nat)(v:Value):Env:={E with sv:=fun c=>if c=b then v else E.sv c}
theorem Env.sY{E:Env}{b c:Nat}{v:Value}(h:c≠b):(E.rs b v).sv c=E.sv c:=by simp[Env.rs,h]
theorem Cu{E:Env}{w:World}{b:Nat}{u:Value}:∀{x:AV}{vs:List Value},vj b x=true→RC E w x vs→RC (E.rs b u) w x vs:=by
 intro x
 have ne:∀{c:Nat},(!Nat.beq c b)=true→c≠b:=fun h e=>by subst e;simp at h
 induction x with
 |fQ c lo len=>intro vs h hr;simp only[RC];rw[Env.sY (ne h)];exact hr
 |own c=>intro vs h hr;simp only[RC];rw[Env.sY (ne h)];exact hr
 |dc c=>intro vs h hr;simp only[RC];rw[Env.sY (ne h)];exact hr
 |
  func fn fs cs RI RG=>
  intro vs h hr
  simp only[vj,Bool.and_eq_true] at h
  obtain⟨f,c,e,h1,h2,h3,h4⟩:=hr
  exact⟨f,c,e,RI h.1.1.1 h1,RG h.1.1.2 h2,h3,h4⟩
 |
  iface t v ih=>
  intro vs h hr
  obtain⟨x,e,hr⟩:=hr
  refine⟨x,e,?_⟩
  rcases hr with⟨h1,cs,e2,h3⟩|⟨h1,h3⟩
  ·exact Or.inl ⟨h1,cs,e2,ih h h3⟩
  ·exact Or.inr ⟨h1,ih h h3⟩
 |
  cons a c RI RG=>
  intro vs h hr
  simp only[vj,Bool.and_eq_true] at h
  obtain⟨v1,v2,e,h1,h2⟩:=hr
  exact⟨v1,v2,e,RI h.1 h1,RG h.2 h2⟩
 |bot=>intro vs h;simp[vj] at h
 |dX l=>intro vs h;simp[vj] at h
 |opt c v=>intro vs h;simp[vj] at h
 |_=>intro vs h hr;exact hr
theorem Hf{E:Env}{w:World}{b:Nat}{v:Value}:Good E (E.rs b v) w (jK b) where
 rc:=by
  intro x y vs h hr
  unfold jK at h
  split at h
  ·rename_i hn;cases h;exact Cu hn hr
  ·cases h
 agg:=by
  intro x y h
  unfold jK at h
  split at h
  ·cases h;rfl
  ·cases h
 mp:=by
  intro c y h
  unfold jK at h
  split at h
  ·cases h;rfl
  ·cases h
 fn:=by
  intro fn fs cs y h
  unfold jK at h
  split at h
  ·rename_i hn
   cases h
   simp only[vj,Bool.and_eq_true] at hn
   exact⟨fs,cs,rfl,by unfold jK;rw[if_pos hn.1.1.1],by unfold jK;rw[if_pos hn.1.1.2],hn.1.2,hn.2⟩
  ·cases h
theorem bD.rs{gl:Ctx}{σ:St}{E:Env}{a:Act}{w:World}(hg:bD gl σ E a w){b:Nat}{k k':aC}{ty:Value}{σ1:St}(hb:σ.hp[b]? =some (some k))(h16:16≤b)(hm:St.dL (jK b) {σ with hp:=σ.hp.set b none}=some σ1)(hk:RB (E.rs b ty) w b k'):
 bD gl {σ1 with hp:=σ1.hp.set b (some k')} (E.rs b ty) a w∧Ext gl.md (Own σ.hp E) E w (Own (σ1.hp.set b (some k')) (E.rs b ty)) (E.rs b ty) w:=by
 have R7:=Hf (E:=E) (w:=w) (b:=b) (v:=ty)
 unfold St.dL at hm
 split at hm
 ·rename_i Sl df' h3 h4
  cases hm
  have src:∀(i:Nat)(k2:aC),(Sl.set b (some k'))[i]? =some (some k2)→(i=b∧k'=k2)∨(i≠b∧∃k0,σ.hp[i]? =some (some k0)∧fe (jK b) (some k0)=some (some k2)):=by
   intro i k2 hi
   rw[List.getElem?_set] at hi
   split at hi
   ·rename_i e;subst e
    split at hi
    ·cases hi;exact Or.inl ⟨rfl,rfl⟩
    ·cases hi
   ·rename_i Rw
    obtain⟨k0,e1,e2⟩:=fG h3 hi
    simp only[List.getElem?_set] at e1
    rw[if_neg Rw] at e1
    exact Or.inr ⟨fun e=>Rw e.symm,k0,e1,e2⟩
  have any:∀(i:Nat)(k2:aC),(Sl.set b (some k'))[i]? =some (some k2)→∃k0,σ.hp[i]? =some (some k0):=by
   intro i k2 hi
   rcases src i k2 hi with⟨e,_⟩|⟨_,k0,e,_⟩
   ·subst e;exact⟨k,hb⟩
   ·exact⟨k0,e⟩
  refine⟨⟨?_,?_,⟨?_,?_,?_,hg.hw.slt,hg.hw.gl,?_⟩,R7.RD h4 hg.df⟩,⟨rfl,Tp.r rfl rfl,rfl,Nat.le_refl _,fun _ _ _=>rfl,fun _ h=>h,fun _ h=>Or.inl h,?_,fun i hi=>⟨rfl,Env.sY (by omega),rfl⟩⟩⟩
  ·simp only[fE];exact hg.len
  ·intro i y hy v hv
   rcases fF hy with e|⟨x,e1,e2,e3⟩
   ·subst e;trivial
   ·exact RV.cJ (R7.RV e3 (RV.fB e2 (hg.tm i x e1 v hv)))
  ·intro i k2 hi
   rcases src i k2 hi with⟨e,e'⟩|⟨e1,k0,e3,e4⟩
   ·subst e;subst e';exact hk
   ·exact R7.RB (fun _ h=>h) (b:=i) (b':=i) rfl (Env.sY e1) rfl (fun _ _ h=>h) e4 (hg.hw.bP i k0 e3)
  ·intro i j k2 k3 g hi hj g1 g2
   obtain⟨k4,e1⟩:=any i k2 hi
   obtain⟨k5,e2⟩:=any j k3 hj
   exact hg.hw.cH i j k4 k5 g e1 e2 g1 g2
  ·intro i k2 g hi R0 hs
   obtain⟨k4,e1⟩:=any i k2 hi
   exact hg.hw.cg i k4 g e1 R0 hs
  ·intro i k2 g hi R0
   obtain⟨k4,e1⟩:=any i k2 hi
   exact hg.hw.lS i k4 g e1 R0
  ·rintro g ⟨i,k2,hi,R0⟩
   obtain⟨k4,e1⟩:=any i k2 hi
   exact Or.inl ⟨i,k4,e1,R0⟩
 ·cases hm
def j7(b:Nat)(σ:St):Option St:=
 match cW σ.hp b with
 |
  some (.pmap k t es e2 (some (kx,v,pr)))=>if Nat.ble 16 b&&k.keyed&&vj b v then(match St.dL (jK b) {σ with hp:=σ.hp.set b none} with
  |some σ1=>some {σ1 with hp:=σ1.hp.set b (some (.dM k t es e2 kx v pr))}
  |none=>none) else none
 |_=>none
def jb(b:Nat)(σ:St):Option St:=
 match cW σ.hp b with
 |some (.dM k t es e2 kx v pr)=>some {σ with hp:=σ.hp.set b (some (.pmap k t es e2 (some (kx,v,pr))))}
 |_=>none
theorem PM.rs{E:Env}{w:World}{b:Nat}{u:Value}{kt t:Ty}{es:List (kt.den×t.den)}{e2:TypeId}{kx:kt.den}{v:AV}{pr:Bool}(hn:vj b v=true)(h:PM E w b kt t es e2 (some (kx,v,pr))):PM (E.rs b u) w b kt t es e2 (some (kx,v,pr)):=by
 obtain⟨h1,h2,h3,g,en,clock,og,q1,q2,q3,q4,q5,q6,q7,q8⟩:=h
 refine⟨h1,h2,h3,g,en,clock,og,q1,q2,q3,q4,q5,q6,fun i x hx=>?_,fun kx' v'=>⟨fun hf hnn=>?_,(q8 kx' v').2⟩⟩
 ·obtain⟨m,r1,r2,r3,r4⟩:=q7 i x hx
  refine⟨m,r1,bN.mono (E:=E) (E':=E.rs b u) ⟨fun _ _=>rfl,fun _ h=>h⟩ (fun _ hb=>by cases hb) r2,fun v' pr' RE=>?_,fun RE=>r4 RE⟩
  obtain⟨r5,r6⟩:=r3 v' pr' RE
  cases RE
  exact⟨r5,Cu hn r6⟩
 ·have:=(q8 kx' v').1 hf hnn
  cases hf
  exact Cu hn this
theorem Wk.j7{gl:Ctx}{b:Nat}{σ σ':St}(h:Ax.j7 b σ=some σ'):Wk gl σ σ':=by
 intro E a w hg
 unfold Ax.j7 at h
 split at h
 case h_2=>cases h
 rename_i k t es e2 kx v pr Sn
 have hb:=bI σ.hp b _ Sn
 split at h
 case isFalse=>cases h
 rename_i hc
 simp only[Bool.and_eq_true] at hc
 obtain⟨⟨c1,c2⟩,c3⟩:=hc
 split at h
 case h_2=>cases h
 rename_i σ1 hm
 cases h
 have hpm:PM E w b k t es e2 (some (kx,v,pr)):=hg.hw.bP b _ hb
 have hpm':=hpm
 obtain⟨z1,z2,z3,g,en,clock,og,y1,y2,y3,y4,y5,y6,y7,y8⟩:=hpm'
 have key:∃n:Nat,(kx∉es.map (·.1)→n=clock)∧∀(i:Nat)(m:MapEntry)(y:t.den),es[i]? =some (kx,y)→en[i]? =some m→m.born=n:=by
  by_cases hin:kx∈es.map (·.1)
  ·obtain⟨⟨zk,zy⟩,hz,ez⟩:=List.mem_map.1 hin
   simp only at ez;subst ez
   obtain⟨i,s1⟩:=List.getElem?_of_mem hz
   obtain⟨m,s2,_⟩:=y7 i _ s1
   refine⟨m.born,fun hh=>absurd hin hh,fun j m' y hj hm'=>?_⟩
   have:=jW z1 hj s1
   subst this
   rw[s2] at hm';cases hm';rfl
  ·refine⟨clock,fun _=>rfl,fun j m' y hj _=>?_⟩
   exact absurd (List.mem_map.2 ⟨_,List.mem_of_getElem? hj,rfl⟩) hin
 obtain⟨n,k1,k2⟩:=key
 refine⟨_,hg.rs (ty:=.int .i64 n) hb (Nat.le_of_ble_eq_true c1) hm ⟨hpm.rs c3,n,g,en,clock,by simp[Env.rs],y1,y2,k1,k2⟩⟩
theorem Wk.jb{gl:Ctx}{b:Nat}{σ σ':St}(h:Ax.jb b σ=some σ'):Wk gl σ σ':=by
 intro E a w hg
 unfold Ax.jb at h
 split at h
 ·rename_i k t es e2 kx v pr Sn
  have hb:=bI σ.hp b _ Sn
  cases h
  obtain⟨hpm,_⟩:=hg.hw.bP b _ hb
  have hw:=hg.hw.write (w':=w) (k':=.pmap k t es e2 (some (kx,v,pr))) hb rfl (fun _ _=>rfl) hpm
  exact⟨E,hg.carry ⟨fun _ _=>rfl,fun _ h=>h⟩ (fun _ _=>⟨rfl,rfl,rfl⟩) hw,{Ext.refl (md:=gl.md) (Own σ.hp E) E w with own:=fun g R4=>Or.inl (Own.set hb R4)}⟩
 ·cases h
end Go.Ax
namespace Go.Ax
def ER(b b' c:Nat):Nat:=if Nat.beq c b then b' else c
def rn(b b':Nat):AV→Option AV
 | .own c=>some (.own (ER b b' c))
 | .fQ c lo len=>some (.fQ (ER b b' c) lo len)
 | .fp c p lo len=>some (.fp (ER b b' c) p lo len)
 | .ptr c p=>some (.ptr (ER b b' c) p)
 | .mp c=>some (.mp (ER b b' c))
 |
  .func fn fs cs=>match rn b b' fs,rn b b' cs with
  |some f,some c=>if f.atoms&&c.atoms then some (.func fn f c) else none
  |_,_=>none
 |
  .iface u v=>match rn b b' v with
  |some x=>some (.iface u x)
  |none=>none
 |
  .cons x y=>match rn b b' x,rn b b' y with
  |some u,some v=>some (.cons u v)
  |_,_=>none
 | .bot=>none
 | .dX _=>none
 | .opt _ _=>none
 | .dc _=>none
 |x=>some x
def Env.mv(E:Env)(b b':Nat):Env:={E with P:=fun c=>if c=b' then E.P b else E.P c,g:=fun c=>if c=b' then E.g b else E.g c,sv:=fun c=>if c=b' then E.sv b else E.sv c,bt:=fun c=>if c=b' then E.bt b else E.bt c}
theorem pM{E:Env}{b b' c:Nat}(h:c≠b'):(E.mv b b').g (ER b b' c)=E.g c∧(E.mv b b').sv (ER b b' c)=E.sv c∧(E.mv b b').bt (ER b b' c)=E.bt c:=by
 unfold ER
 split
 ·rename_i e;have e:=Nat.eq_of_beq_eq_true e;subst e;simp[Env.mv]
 ·simp[Env.mv,h]
theorem Cv(b b':Nat)(x y:AV)(h:rn b b' x=some y):y.isAgg=x.isAgg:=by
 cases x with
 |
  func fn fs cs=>
  simp only[rn] at h
  split at h
  ·split at h
   ·cases h;rfl
   ·cases h
  ·cases h
 |
  iface u v=>
  simp only[rn] at h
  split at h
  ·cases h;rfl
  ·cases h
 |
  cons a c=>
  simp only[rn] at h
  split at h
  ·cases h;rfl
  ·cases h
 |bot=>simp[rn] at h
 |dX l=>simp[rn] at h
 |opt c v=>simp[rn] at h
 |dc c=>simp[rn] at h
 |_=>simp only[rn,Option.some.injEq] at h;subst h;rfl
theorem Jf{E:Env}{w:World}{b b':Nat}:∀{x y:AV}{vs:List Value},b'∉x.ids→rn b b' x=some y→RC E w x vs→RC (E.mv b b') w y vs:=by
 intro x
 induction x with
 |own c=>
  intro y vs hi h hr;simp only[rn,Option.some.injEq] at h;subst h
  obtain⟨_,e2,_⟩:=pM (E:=E) (b:=b) (b':=b') (c:=c) (fun e=>hi (by simp[AV.ids,e]))
  simp only[RC];rw[e2];exact hr
 |fQ c lo len=>
  intro y vs hi h hr;simp only[rn,Option.some.injEq] at h;subst h
  obtain⟨_,e2,e3⟩:=pM (E:=E) (b:=b) (b':=b') (c:=c) (fun e=>hi (by simp[AV.ids,e]))
  simp only[RC];rw[e2,e3];exact hr
 |fp c p lo len=>
  intro y vs hi h hr;simp only[rn,Option.some.injEq] at h;subst h
  obtain⟨e1,_,e3⟩:=pM (E:=E) (b:=b) (b':=b') (c:=c) (fun e=>hi (by simp[AV.ids,e]))
  simp only[RC];rw[e1,e3];exact hr
 |ptr c p=>
  intro y vs hi h hr;simp only[rn,Option.some.injEq] at h;subst h
  obtain⟨e1,_,e3⟩:=pM (E:=E) (b:=b) (b':=b') (c:=c) (fun e=>hi (by simp[AV.ids,e]))
  simp only[RC];rw[e1,e3];exact hr
 |mp c=>
  intro y vs hi h hr;simp only[rn,Option.some.injEq] at h;subst h
  obtain⟨e1,_,_⟩:=pM (E:=E) (b:=b) (b':=b') (c:=c) (fun e=>hi (by simp[AV.ids,e]))
  simp only[RC];rw[e1];exact hr
 |
  func fn fs cs RI RG=>
  intro y vs hi h hr
  simp only[rn] at h
  simp only[AV.ids,List.mem_append,not_or] at hi
  split at h
  ·rename_i f c h1 h2
   split at h
   ·rename_i ha
    cases h
    simp only[Bool.and_eq_true] at ha
    obtain⟨f',c',e,r1,r2,_,_⟩:=hr
    exact⟨f',c',e,RI hi.1 h1 r1,RG hi.2 h2 r2,ha.1,ha.2⟩
   ·cases h
  ·cases h
 |
  iface u v ih=>
  intro y vs hi h hr
  simp only[rn] at h
  split at h
  ·rename_i z hz
   cases h
   obtain⟨x,e,hr⟩:=hr
   refine⟨x,e,?_⟩
   have Rv:=Cv b b' v z hz
   rcases hr with⟨h1,cs,e2,h3⟩|⟨h1,h3⟩
   ·exact Or.inl ⟨by rw[Rv];exact h1,cs,e2,ih hi hz h3⟩
   ·exact Or.inr ⟨by rw[Rv];exact h1,ih hi hz h3⟩
  ·cases h
 |
  cons a c RI RG=>
  intro y vs hi h hr
  simp only[rn] at h
  simp only[AV.ids,List.mem_append,not_or] at hi
  split at h
  ·rename_i u v h1 h2
   cases h
   obtain⟨v1,v2,e,r1,r2⟩:=hr
   exact⟨v1,v2,e,RI hi.1 h1 r1,RG hi.2 h2 r2⟩
  ·cases h
 |bot=>intro y vs _ h;simp[rn] at h
 |dX l=>intro y vs _ h;simp[rn] at h
 |opt c v=>intro y vs _ h;simp[rn] at h
 |dc c=>intro y vs _ h;simp[rn] at h
 |_=>intro y vs _ h hr;simp only[rn,Option.some.injEq] at h;subst h;exact hr
theorem Hg{E:Env}{w:World}{b b':Nat}:Good E (E.mv b b') w (fun x=>if bT b' x.ids then none else rn b b' x) where
 mp:=by
  intro c y h
  split at h
  ·cases h
  ·rename_i hn
   have hn:=cZ (show bT b' (AV.mp c).ids=false by simpa using hn)
   simp only[rn,Option.some.injEq,AV.mp.injEq] at h
   subst h
   exact(pM (fun e=>hn (by simp[AV.ids,e]))).1
 rc:=by
  intro x y vs h hr
  split at h
  ·cases h
  ·rename_i hn;exact Jf (cZ (by simpa using hn)) h hr
 agg:=by
  intro x y h
  split at h
  ·cases h
  ·exact Cv b b' x y h
 fn:=
  by
  intro fn fs cs y h
  split at h
  ·cases h
  ·rename_i hn
   have hn:=cZ (show bT b' (AV.func fn fs cs).ids=false by simpa using hn)
   simp only[AV.ids,List.mem_append,not_or] at hn
   simp only[rn] at h
   have f1:bT b' fs.ids=false:=by
    cases hh:bT b' fs.ids with
    |false=>rfl
    |true=>exact absurd (hasNatMem hh) hn.1
   have f2:bT b' cs.ids=false:=by
    cases hh:bT b' cs.ids with
    |false=>rfl
    |true=>exact absurd (hasNatMem hh) hn.2
   split at h
   ·rename_i f c h1 h2
    split at h
    ·rename_i ha
     cases h
     simp only[Bool.and_eq_true] at ha
     exact⟨f,c,rfl,by simp[f1,h1],by simp[f2,h2],ha.1,ha.2⟩
    ·cases h
   ·cases h
where
 hasNatMem {d:Nat}:∀{l:List Nat},bT d l=true→d∈l
  |[],h=>by cases h
  |
   x::l,h=>by
   simp only[bT,Bool.or_eq_true] at h
   rcases h with h|h
   ·rw[Nat.eq_of_beq_eq_true h];exact List.mem_cons_self ..
   ·exact List.mem_cons_of_mem _ (hasNatMem h)
def rename(b b':Nat)(σ:St):Option St:=
 match cW σ.hp b,cW σ.hp b' with
 |
  some k,none=>if Nat.beq b b'||Nat.blt b' 16 then none else
  match St.dL (fun x=>if bT b' x.ids then none else rn b b' x) {σ with hp:=σ.hp.set b none},fe (fun x=>if bT b' x.ids then none else rn b b' x) (some k) with
  |some σ',some k'=>some {σ' with hp:=σ'.hp.set b' k'}
  |_,_=>none
 |_,_=>none
theorem Wk.rename{gl:Ctx}{b b':Nat}{σ σ':St}(h:Ax.rename b b' σ=some σ'):Wk gl σ σ':=by
 intro E a w hg
 unfold Ax.rename at h
 split at h
 ·rename_i k hk hk'
  have RJ:=bI σ.hp b k hk
  split at h
  ·cases h
  ·rename_i hne0
   have Rw:b≠b':=fun e=>hne0 (by simp[e])
   have h16:16≤b':=by
    rcases Nat.lt_or_ge b' 16 with hq|hq
    ·have hq':Nat.blt b' 16=true:=Nat.ble_eq_true_of_le (Nat.succ_le_of_lt hq)
     exact absurd (by rw[hq'];simp) hne0
    ·exact hq
   split at h
   ·rename_i σ1 k1 h1 h2
    cases h
    unfold St.dL at h1
    split at h1
    ·rename_i Sl df' h3 h4
     cases h1
     have R7:=Hg (E:=E) (w:=w) (b:=b) (b':=b')
     have hEh:∀i j,(i=b'→j=b)→(i≠b'→j=i)→∀x,(E.mv b b').has i x↔E.has j x:=by
      intro i j h1 h2 x
      by_cases hi:i=b'
      ·rw[h1 hi,hi];simp[Env.has,Env.mv]
      ·rw[h2 hi];simp[Env.has,Env.mv,hi]
     have hEo:∀i,i≠b'→(E.mv b b').g i=E.g i∧(E.mv b b').sv i=E.sv i∧(E.mv b b').bt i=E.bt i:=fun i hi=>by simp[Env.mv,hi]
     have hEn:(E.mv b b').g b'=E.g b∧(E.mv b b').sv b'=E.sv b∧(E.mv b b').bt b'=E.bt b:=by simp[Env.mv]
     have src:∀(i:Nat)(k':aC),(Sl.set b' k1)[i]? =some (some k')→(i=b'∧k1=some k')∨(i≠b'∧i≠b∧∃k0,σ.hp[i]? =some (some k0)∧fe (fun x=>if bT b' x.ids then none else rn b b' x) (some k0)=some (some k')):=by
      intro i k' hi
      rw[List.getElem?_set] at hi
      split at hi
      ·rename_i e;subst e
       split at hi
       ·cases hi;exact Or.inl ⟨rfl,rfl⟩
       ·cases hi
      ·rename_i hne'
       obtain⟨k0,e1,e2⟩:=fG h3 hi
       simp only[List.getElem?_set] at e1
       split at e1
       ·split at e1<;>cases e1
       ·rename_i hne2;exact Or.inr ⟨fun e=>hne' e.symm,fun e=>hne2 e.symm,k0,e1,e2⟩
     have gOf:∀(i:Nat)(k':aC),(Sl.set b' k1)[i]? =some (some k')→∃j k0,σ.hp[j]? =some (some k0)∧(∀x,(E.mv b b').has i x↔E.has j x)∧(i=b'→j=b)∧(i≠b'→j=i):=by
      intro i k' hi
      rcases src i k' hi with⟨e,_⟩|⟨e1,e2,k0,e3,_⟩
      ·subst e;exact⟨b,k,RJ,hEh _ _ (fun _=>rfl) (fun e=>absurd rfl e),fun _=>rfl,fun e=>absurd rfl e⟩
      ·exact⟨i,k0,e3,hEh _ _ (fun e=>absurd e e1) (fun _=>rfl),fun e=>absurd e e1,fun _=>rfl⟩
     refine⟨E.mv b b',⟨?_,?_,⟨?_,?_,?_,hg.hw.slt,hg.hw.gl,?_⟩,R7.RD h4 hg.df⟩,⟨rfl,Tp.r rfl rfl,rfl,Nat.le_refl _,fun _ _ _=>rfl,fun _ h=>h,fun _ h=>Or.inl h,?_,fun i hi=>hEo i (by omega)⟩⟩
     ·simp only[fE];exact hg.len
     ·intro i y hy v hv
      rcases fF hy with e|⟨x,e1,e2,e3⟩
      ·subst e;trivial
      ·exact RV.cJ (R7.RV e3 (RV.fB e2 (hg.tm i x e1 v hv)))
     ·intro i k' hi
      rcases src i k' hi with⟨e,e'⟩|⟨e1,e2,k0,e3,e4⟩
      ·subst e
       rw[e'] at h2
       exact R7.RB (fun _ h=>h) (b:=b) (b':=i) hEn.1 hEn.2.1 hEn.2.2 (fun _ g hp=>by simpa[Env.mv] using hp) h2 (hg.hw.bP b k RJ)
      ·exact R7.RB (fun _ h=>h) (b:=i) (b':=i) (hEo i e1).1 (hEo i e1).2.1 (hEo i e1).2.2 (fun _ g hp=>by simpa[Env.mv,e1] using hp) e4 (hg.hw.bP i k0 e3)
     ·intro i j k2 k3 g' hi hj g1 g2
      obtain⟨i',k4,e1,e2,e3,e4⟩:=gOf i k2 hi
      obtain⟨j',k5,f1,f2,f3,f4⟩:=gOf j k3 hj
      have g1:=(e2 _).1 g1;have g2:=(f2 _).1 g2
      have hij:=hg.hw.cH i' j' k4 k5 g' e1 f1 g1 g2
      by_cases hi':i=b'<;>by_cases hj':j=b'
      ·rw[hi',hj']
      ·have h1:=e3 hi';have h2:=f4 hj'
       rcases src j k3 hj with⟨q,_⟩|⟨_,q,_⟩
       ·exact absurd q hj'
       ·exact absurd (by rw[←h2,←hij,h1]) q
      ·have h1:=e4 hi';have h2:=f3 hj'
       rcases src i k2 hi with⟨q,_⟩|⟨_,q,_⟩
       ·exact absurd q hi'
       ·exact absurd (by rw[←h1,hij,h2]) q
      ·rw[←e4 hi',←f4 hj',hij]
     ·intro i k' g' hi R0 hs
      obtain⟨i',k4,e1,e2,_,_⟩:=gOf i k' hi
      exact hg.hw.cg i' k4 g' e1 ((e2 _).1 R0) hs
     ·intro i k' g' hi R0
      obtain⟨i',k4,e1,e2,_,_⟩:=gOf i k' hi
      rcases(e2 _).1 (Or.inr R0) with q|q
      ·exact Own.below hg.hw ⟨i',k4,e1,Or.inl q⟩
      ·exact hg.hw.lS i' k4 g' e1 q
     ·rintro g' ⟨i,k',hi,R0⟩
      obtain⟨i',k4,e1,e2,_,_⟩:=gOf i k' hi
      exact Or.inl ⟨i',k4,e1,(e2 _).1 R0⟩
    ·cases h1
   ·cases h
 ·cases h
def rl(s b:Nat)(e:TypeId)(bs:Nat)(t:Ty)(σ:St):Option St:=
 match σ.tm[s]? with
 |some .aS=>if σ.dk b&&Nat.blt 0 t.size then some {σ with tm:=σ.tm.set s (.own b),hp:=σ.hp.set b (some (.row e bs t []))} else none
 |_=>none
theorem Wk.rl{gl:Ctx}{s b:Nat}{e:TypeId}{bs:Nat}{t:Ty}{σ σ':St}(h:Ax.rl s b e bs t σ=some σ'):Wk gl σ σ':=by
 intro E a w hg
 unfold Ax.rl at h
 split at h
 ·rename_i hs
  split at h
  ·rename_i hc
   cases h
   simp only[Bool.and_eq_true] at hc
   have Ru:s<a.tmps.size:=by rw[hg.len];exact(List.getElem?_eq_some_iff.1 hs).1
   have ha:=RV.atom rfl (hg.tm s _ hs a.tmps[s] (by simp[Ru]))
   simp[RC] at ha
   have RA:0<t.size:=by have:=hc.2;simp[Nat.blt] at this;omega
   obtain⟨g1,x1⟩:=hg.fresh (w':=w) (St.cG hc.1) (g:=none) (sv:=.slice none 0 0) (t:=.arr 0 t) (k:=.row e bs t []) rfl (Tp.r rfl rfl) rfl (Nat.le_refl _) (fun _ _=>rfl) (fun i hi=>by cases hi)
    ⟨by simp[Env.at],by simp,by simp,RA,none,0,by simp[Env.at],by simp[maxLen],Or.inl ⟨⟨rfl,rfl⟩,by simp[Env.at],rfl⟩⟩
   refine⟨_,⟨by simp[hg.len],?_,g1.hw,g1.df⟩,x1⟩
   intro i x hx v hv
   rw[List.getElem?_set] at hx
   split at hx
   ·rename_i e';subst e'
    split at hx
    ·cases hx
     have:v= .slice none 0 0:=by rw[Array.getElem?_eq_getElem Ru] at hv;cases hv;exact ha
     subst this
     exact RV.cJ (Or.inr ⟨rfl,by simp[Env.at],none,0,0,by simp[Env.at]⟩)
    ·cases hx
   ·exact g1.tm i x hx v hv
  ·cases h
 ·cases h
def fO:Ty→Path→Bool
 | .pair a _,.cB 0::p=>fO a p
 | .pair _ b,.cB (k+1)::p=>fO b (.cB k::p)
 |_,[]=>true
 |_,_=>false
theorem js:∀{t:Ty}{p:Path},fO t p=true→t.valid p:=by
 intro t
 induction t with
 |
  pair a b RI RG=>
  intro p h
  cases p with
  |nil=>simp[Ty.valid]
  |
   cons s p=>
   cases s with
   |
    cB k=>cases k with
    |zero=>simp only[fO] at h;simp only[Ty.valid];exact RI h
    |succ k=>simp only[fO] at h;simp only[Ty.valid];exact RG h
   |idx i=>simp[fO] at h
 |
  _=>
  intro p h
  cases p with
  |nil=>simp[Ty.valid]
  |cons s p=>simp[fO] at h
def oC(c:Nat)(p:Path)(b:Nat)(e:TypeId)(bs:Nat)(t:Ty)(σ:St):Option St:=
 match cW σ.hp c with
 |
  some (.var tt v)=>match v.get p,v.set p (.own b) with
  |some .aS,some u=>if σ.dk b&&Nat.blt 0 t.size&&u.bz tt&&fO tt p&& !Nat.beq c b then some {σ with hp:=(σ.hp.set b (some (.row e bs t []))).set c (some (.var tt u))} else none
  |_,_=>none
 |
  some (.cu e2 Sm tt xs i v)=>match v.get p,v.set p (.own b) with
  |some .aS,some u=>if σ.dk b&&Nat.blt 0 t.size&&u.bz tt&&fO tt p&& !Nat.beq c b then some {σ with hp:=(σ.hp.set b (some (.row e bs t []))).set c (some (.cu e2 Sm tt xs i u))} else none
  |_,_=>none
 |_=>none
theorem Wk.oC{gl:Ctx}{c:Nat}{p:Path}{b:Nat}{e:TypeId}{bs:Nat}{t:Ty}{σ σ':St}(h:Ax.oC c p b e bs t σ=some σ'):Wk gl σ σ':=by
 intro E a w hg
 unfold Ax.oC at h
 split at h
 ·rename_i tt v hc
  have RJ:=bI σ.hp c _ hc
  split at h
  ·rename_i u RQ aD
   split at h
   ·rename_i hk
    cases h
    simp only[Bool.and_eq_true] at hk
    obtain⟨⟨⟨⟨k1,k2⟩,k3⟩,k4⟩,k5⟩:=hk
    have hcb:c≠b:=fun e'=>by subst e';simp at k5
    have RA:0<t.size:=by have:=k2;simp[Nat.blt] at this;omega
    obtain⟨g1,x1⟩:=hg.fresh (w':=w) (St.cG k1) (g:=none) (sv:=.slice none 0 0) (t:=.arr 0 t) (k:=.row e bs t []) rfl (Tp.r rfl rfl) rfl (Nat.le_refl _) (fun _ _=>rfl) (fun i hi=>by cases hi)
     ⟨by simp[Env.at],by simp,by simp,RA,none,0,by simp[Env.at],by simp[maxLen],Or.inl ⟨⟨rfl,rfl⟩,by simp[Env.at],rfl⟩⟩
    have hb1:(σ.hp.set b (some (.row e bs t [])))[c]? =some (some (.var tt v)):=by
     rw[List.getElem?_set,if_neg (fun e'=>hcb e'.symm)];exact RJ
    obtain⟨r1,r2,g,cs,e',r3,r4,r5⟩:=g1.hw.bP c _ hb1
    have Sb:=js k4
    obtain⟨s,q1,q2,q3,q4⟩:=AV.dj r5 r2 Sb RQ
    have hs1:s.size=1:=AV.cL q2▸rfl
    have hown:RC (E.at b none (.slice none 0 0) (.arr 0 t)) w (.own b) [.slice none 0 0]:=⟨by simp[Env.at],none,0,0,by simp[Env.at]⟩
    obtain⟨s',p1,p2,p3,p4⟩:=AV.hU hown r5 r2 Sb (fun s' Sx=>by rw[q1] at Sx;cases Sx;simp[hs1]) aD
    rw[q1] at p1;cases p1
    simp only[RC] at q4
    have hcs:cs.toList.take (tt.off p)++[Value.slice none 0 0]++cs.toList.drop (tt.off p+s.size)=cs.toList:=by
     rw[←q4,List.append_assoc,←List.drop_drop,List.take_append_drop,List.take_append_drop]
    rw[hcs] at p4
    have Sp:=g1.hw.write (w':=w) (k':=.var tt u) hb1 rfl (fun _ _=>rfl) ⟨r1,k3,g,cs,e',r3,r4,p4⟩
    refine⟨_,⟨g1.len,g1.tm,Sp,g1.df⟩,{x1 with own:=?_ }⟩
    intro g' R4
    exact x1.own g' (Own.iU hb1 R4)
   ·cases h
  ·cases h
 ·rename_i e2 Sm tt xs i v hc
  have RJ:=bI σ.hp c _ hc
  split at h
  ·rename_i u RQ aD
   split at h
   ·rename_i hk
    cases h
    simp only[Bool.and_eq_true] at hk
    obtain⟨⟨⟨⟨k1,k2⟩,k3⟩,k4⟩,k5⟩:=hk
    have hcb:c≠b:=fun e'=>by subst e';simp at k5
    have RA:0<t.size:=by have:=k2;simp[Nat.blt] at this;omega
    obtain⟨g1,x1⟩:=hg.fresh (w':=w) (St.cG k1) (g:=none) (sv:=.slice none 0 0) (t:=.arr 0 t) (k:=.row e bs t []) rfl (Tp.r rfl rfl) rfl (Nat.le_refl _) (fun _ _=>rfl) (fun i hi=>by cases hi)
     ⟨by simp[Env.at],by simp,by simp,RA,none,0,by simp[Env.at],by simp[maxLen],Or.inl ⟨⟨rfl,rfl⟩,by simp[Env.at],rfl⟩⟩
    have hb1:(σ.hp.set b (some (.row e bs t [])))[c]? =some (some (.cu e2 Sm tt xs i v)):=by
     rw[List.getElem?_set,if_neg (fun e'=>hcb e'.symm)];exact RJ
    obtain⟨h1,h2,h3,h4,h5,r2,g,cap,cs,z1,z2,z3,z4,z5,z6,z7,r5,z9⟩:=g1.hw.bP c _ hb1
    have Sb:=js k4
    obtain⟨s,q1,q2,q3,q4⟩:=AV.dj r5 r2 Sb RQ
    have hs1:s.size=1:=AV.cL q2▸rfl
    have hown:RC (E.at b none (.slice none 0 0) (.arr 0 t)) w (.own b) [.slice none 0 0]:=⟨by simp[Env.at],none,0,0,by simp[Env.at]⟩
    obtain⟨s',p1,p2,p3,p4⟩:=AV.hU hown r5 r2 Sb (fun s' Sx=>by rw[q1] at Sx;cases Sx;simp[hs1]) aD
    rw[q1] at p1;cases p1
    simp only[RC] at q4
    have hcs:((cs.toList.drop (i*tt.size)).take tt.size).take (tt.off p)++[Value.slice none 0 0]++((cs.toList.drop (i*tt.size)).take tt.size).drop (tt.off p+s.size)=(cs.toList.drop (i*tt.size)).take tt.size:=by
     rw[←q4,List.append_assoc,←List.drop_drop,List.take_append_drop,List.take_append_drop]
    rw[hcs] at p4
    have Sp:=g1.hw.write (w':=w) (k':=.cu e2 Sm tt xs i u) hb1 rfl (fun _ _=>rfl) ⟨h1,h2,h3,h4,h5,k3,g,cap,cs,z1,z2,z3,z4,z5,z6,z7,p4,z9⟩
    refine⟨_,⟨g1.len,g1.tm,Sp,g1.df⟩,{x1 with own:=?_ }⟩
    intro g' R4
    exact x1.own g' (Own.iU hb1 R4)
   ·cases h
  ·cases h
 ·cases h
def Env.tr(E:Env)(b d:Nat)(v:Value)(t:Ty):Env:=
 {E with P:=fun c=>if c=d then E.P b else E.P c,g:=fun c=>if c=d then E.g b else E.g c,sv:=fun c=>if c=d then v else E.sv c,bt:=fun c=>if c=d then t else E.bt c}
theorem Env.ym{E:Env}{b d:Nat}{v:Value}{t:Ty}{ids:List Nat}(h:d∉ids):E.on (E.tr b d v t) ids:=fun c hc=>by
 have:c≠d:=fun e=>h (e▸hc)
 simp[Env.tr,this]
def kV(c:Nat)(p:Path)(d:Nat)(σ:St):Option St:=
 match cW σ.hp c with
 |
  some (.var tt v)=>match v.get p,v.set p (.own d) with
  |
   some (.fQ b 0 len),some u=>match cW σ.hp b with
   |some (.row e bs t xs)=>if σ.dk d&&u.bz tt&&fO tt p&& !Nat.beq c b then some {σ with hp:=((σ.hp.set b none).set d (some (.row e bs t (xs.take len)))).set c (some (.var tt u))} else none
   |_=>none
  |_,_=>none
 |_=>none
theorem Wk.kV{gl:Ctx}{c:Nat}{p:Path}{d:Nat}{σ σ':St}(h:Ax.kV c p d σ=some σ'):Wk gl σ σ':=by
 intro E a w hg
 unfold Ax.kV at h
 split at h
 case h_2=>cases h
 rename_i tt v hc
 have RJ:=bI σ.hp c _ hc
 split at h
 case h_2=>cases h
 rename_i b len u RQ aD
 split at h
 case h_2=>cases h
 rename_i e bs t xs hb
 have hbr:=bI σ.hp b _ hb
 split at h
 case isFalse=>cases h
 rename_i hk
 cases h
 simp only[Bool.and_eq_true] at hk
 obtain⟨⟨⟨k1,k2⟩,k3⟩,k4⟩:=hk
 have hcb:c≠b:=fun e'=>by subst e';simp at k4
 have RU:=St.cG k1
 have R8:=ig.1 RU.1
 have hdb:d≠b:=fun e'=>RU.2.1 _ (e'▸hbr)
 have hdc:d≠c:=fun e'=>RU.2.1 _ (e'▸RJ)
 have hdv:d∉v.ids:=R8.2.2 c _ RJ
 have h16:16≤d:=RU.2.2
 obtain⟨r1,r2,g,cs,e',r3,r4,r5⟩:=hg.hw.bP c _ RJ
 obtain⟨s1,s2,s3,s4,ra,cap,s5,s6,s7⟩:=hg.hw.bP b _ hbr
 have Sb:=js k3
 obtain⟨s,q1,q2,q3,q4⟩:=AV.dj r5 r2 Sb RQ
 have hs1:s.size=1:=AV.cL q2▸rfl
 obtain⟨a1,c1,n1,t1,z1,z2,z3,z4,a',z5,z6⟩:=q4
 rw[s5] at z2;cases z2
 have za:a'=ra:=by
  rcases z6 with z6|z6
  ·exact absurd rfl z6.2
  ·rw[z6]
   rcases s7 with⟨⟨_,x⟩,_⟩|⟨g',c',_,x,_⟩
   ·rw[x];rfl
   ·rw[x];simp[Addr.dH]
 rw[za] at z5
 have hlen:(xs.take len).length=len:=by rw[List.length_take];omega
 have kp:aV E w (E.tr b d (.slice ra len cap) (.arr (xs.take len).length t)) w:=⟨fun _ _=>rfl,fun _ h=>h⟩
 have hEh:∀i j,(i=d→j=b)→(i≠d→j=i)→∀x,(E.tr b d (.slice ra len cap) (.arr (xs.take len).length t)).has i x↔E.has j x:=by
  intro i j h1 h2 x
  by_cases hi:i=d
  ·rw[h1 hi,hi];simp[Env.has,Env.tr]
  ·rw[h2 hi];simp[Env.has,Env.tr,hi]
 have src:∀(i:Nat)(k':aC),((((σ.hp.set b none).set d (some (.row e bs t (xs.take len)))).set c (some (.var tt u)))[i]? =some (some k'))→
  (i=c∧k'= .var tt u)∨(i=d∧k'= .row e bs t (xs.take len))∨(i≠c∧i≠d∧i≠b∧σ.hp[i]? =some (some k')):=by
  intro i k' hi
  rw[List.getElem?_set] at hi
  split at hi
  ·rename_i e1
   split at hi
   ·cases hi;exact Or.inl ⟨e1.symm,rfl⟩
   ·cases hi
  ·rename_i e1
   rw[List.getElem?_set] at hi
   split at hi
   ·rename_i e2
    split at hi
    ·cases hi;exact Or.inr (Or.inl ⟨e2.symm,rfl⟩)
    ·cases hi
   ·rename_i e2
    rw[List.getElem?_set] at hi
    split at hi
    ·split at hi<;>cases hi
    ·rename_i e3
     exact Or.inr (Or.inr ⟨fun x=>e1 x.symm,fun x=>e2 x.symm,fun x=>e3 x.symm,hi⟩)
 have gOf:∀(i:Nat)(k':aC),((((σ.hp.set b none).set d (some (.row e bs t (xs.take len)))).set c (some (.var tt u)))[i]? =some (some k'))→
  ∃j k0,σ.hp[j]? =some (some k0)∧(∀x,(E.tr b d (.slice ra len cap) (.arr (xs.take len).length t)).has i x↔E.has j x)∧(i=d→j=b)∧(i≠d→j=i):=by
  intro i k' hi
  rcases src i k' hi with⟨rfl,_⟩|⟨rfl,_⟩|⟨e1,e2,e3,e4⟩
  ·exact⟨i,_,RJ,hEh _ _ (fun x=>absurd x.symm hdc) (fun _=>rfl),fun x=>absurd x.symm hdc,fun _=>rfl⟩
  ·exact⟨b,_,hbr,hEh _ _ (fun _=>rfl) (fun x=>absurd rfl x),fun _=>rfl,fun x=>absurd rfl x⟩
  ·exact⟨i,k',e4,hEh _ _ (fun x=>absurd x e2) (fun _=>rfl),fun x=>absurd x e2,fun _=>rfl⟩
 refine⟨E.tr b d (.slice ra len cap) (.arr (xs.take len).length t),⟨hg.len,?_,⟨?_,?_,?_,hg.hw.slt,hg.hw.dF kp,?_⟩,RD.mono kp (fun x hx=>Env.ym (fun hd=>R8.2.1 x hx hd)) hg.df⟩,
  ⟨rfl,Tp.r rfl rfl,rfl,Nat.le_refl _,fun _ _ _=>rfl,fun _ h=>h,fun _ h=>Or.inl h,?_,fun i hi=>by have:i≠d:=(by omega);simp[Env.tr,this]⟩⟩
 ·intro i x hx v hv
  exact RV.mono kp (Env.ym (fun hd=>R8.1 i x hx hd)) (hg.tm i x hx v hv)
 ·intro i k' hi
  rcases src i k' hi with⟨rfl,rfl⟩|⟨rfl,rfl⟩|⟨e1,e2,e3,e4⟩
  ·have r5':=RC.mono kp (Env.ym hdv) r5
   have hown:RC (E.tr b d (.slice ra len cap) (.arr (xs.take len).length t)) w (.own d) [.slice ra len cap]:=⟨by simp[Env.tr],ra,len,cap,by simp[Env.tr]⟩
   obtain⟨s',p1,p2,p3,p4⟩:=AV.hU hown r5' r2 Sb (fun s' Sx=>by rw[q1] at Sx;cases Sx;simp[hs1]) aD
   rw[q1] at p1;cases p1
   have z5':List.take s.size (List.drop (tt.off p) cs.toList)= [.slice ra len cap]:=by rw[z5];rfl
   have hcs:cs.toList.take (tt.off p)++[Value.slice ra len cap]++cs.toList.drop (tt.off p+s.size)=cs.toList:=by
    rw[←z5',List.append_assoc,←List.drop_drop,List.take_append_drop,List.take_append_drop]
   rw[hcs] at p4
   exact⟨by simpa[Env.tr,Ne.symm hdc] using r1,k2,g,cs,e',by simpa[Env.tr,Ne.symm hdc] using r3,r4,p4⟩
  ·refine⟨by simp[Env.tr],by rw[hlen];exact Nat.le_trans (Nat.mul_le_mul_right _ (by omega)) s2,by rw[hlen];omega,s4,ra,cap,by simp[Env.tr,hlen],s6,?_⟩
   rcases s7 with⟨x1,x2,x3⟩|⟨g',c',x1,x2,x3,x4,x5,x6⟩
   ·exact Or.inl ⟨x1,by simpa[Env.tr] using x2,by rw[x3];simp⟩
   ·refine Or.inr ⟨g',c',by simpa[Env.tr] using x1,x2,x3,x4,by rw[hlen];omega,?_⟩
    have:=aI.take (fun vs x=>Rel.len) len x6
    rw[List.take_take,Nat.min_eq_left (Nat.mul_le_mul_right _ (by omega))] at this
    rw[hlen];exact this
  ·exact RB.mono kp (Env.ym (by simp only[List.mem_cons,not_or];exact⟨fun x=>e2 x.symm,R8.2.2 i k' e4⟩)) (fun _ _=>rfl) (fun _ g hp=>by simpa[Env.tr,e2] using hp) (hg.hw.bP i k' e4)
 ·intro i j k2 k3 g' hi hj g1 g2
  obtain⟨i',k4,e1,e2,e3,e4⟩:=gOf i k2 hi
  obtain⟨j',k5,f1,f2,f3,f4⟩:=gOf j k3 hj
  have hij:=hg.hw.cH i' j' k4 k5 g' e1 f1 ((e2 _).1 g1) ((f2 _).1 g2)
  have nb:∀{i:Nat}{k:aC},i≠d→((((σ.hp.set b none).set d (some (.row e bs t (xs.take len)))).set c (some (.var tt u)))[i]? =some (some k))→i≠b:=by
   intro i k Rw hi
   rcases src i k hi with⟨rfl,_⟩|⟨rfl,_⟩|⟨_,_,q,_⟩
   ·exact hcb
   ·exact absurd rfl Rw
   ·exact q
  by_cases hi':i=d<;>by_cases hj':j=d
  ·rw[hi',hj']
  ·exact absurd (by rw[←f4 hj',←hij,e3 hi']) (nb hj' hj)
  ·exact absurd (by rw[←e4 hi',hij,f3 hj']) (nb hi' hi)
  ·rw[←e4 hi',←f4 hj',hij]
 ·intro i k' g' hi R0 hs
  obtain⟨i',k4,e1,e2,_,_⟩:=gOf i k' hi
  exact hg.hw.cg i' k4 g' e1 ((e2 _).1 R0) hs
 ·intro i k' g' hi R0
  obtain⟨i',k4,e1,e2,_,_⟩:=gOf i k' hi
  rcases(e2 _).1 (Or.inr R0) with q|q
  ·exact Own.below hg.hw ⟨i',k4,e1,Or.inl q⟩
  ·exact hg.hw.lS i' k4 g' e1 q
 ·rintro g' ⟨i,k',hi,R0⟩
  obtain⟨i',k4,e1,e2,_,_⟩:=gOf i k' hi
  exact Or.inl ⟨i',k4,e1,(e2 _).1 R0⟩
def kW(c:Nat)(p:Path)(σ:St):Option St:=
 match cW σ.hp c with
 |
  some (.var tt v)=>match tt.sub p,v.get p with
  |
   some u,some _=>match v.set p (.di u) with
   |some v'=>if v'.bz tt&&fO tt p then some {σ with hp:=σ.hp.set c (some (.var tt v'))} else none
   |none=>none
  |_,_=>none
 |_=>none
theorem Wk.kW{gl:Ctx}{c:Nat}{p:Path}{σ σ':St}(h:Ax.kW c p σ=some σ'):Wk gl σ σ':=by
 intro E a w hg
 unfold Ax.kW at h
 split at h
 case h_2=>cases h
 rename_i tt v hc
 have RJ:=bI σ.hp c _ hc
 split at h
 case h_2=>cases h
 rename_i u x0 hu RQ
 split at h
 case h_2=>cases h
 rename_i v' aD
 split at h
 case isFalse=>cases h
 rename_i hk
 cases h
 simp only[Bool.and_eq_true] at hk
 obtain⟨r1,r2,g,cs,e,r3,r4,r5⟩:=hg.hw.bP c _ RJ
 have Sb:=js hk.2
 obtain⟨s,q1,q2,q3,q4⟩:=AV.dj r5 r2 Sb RQ
 rw[hu] at q1;cases q1
 have hj:RC E w (.di u) (List.take u.size (List.drop (tt.off p) cs.toList)):=by
  refine⟨by rw[List.length_take,List.length_drop];omega,fun x hx=>RC.one r5 x (List.mem_of_mem_drop (List.mem_of_mem_take hx))⟩
 obtain⟨s',p1,p2,p3,p4⟩:=AV.hU hj r5 r2 Sb (fun s' Sx=>by rw[hu] at Sx;cases Sx;rw[List.length_take,List.length_drop];omega) aD
 rw[hu] at p1;cases p1
 have hcs:cs.toList.take (tt.off p)++List.take u.size (List.drop (tt.off p) cs.toList)++cs.toList.drop (tt.off p+u.size)=cs.toList:=by
  rw[List.append_assoc,←List.drop_drop,List.take_append_drop,List.take_append_drop]
 rw[hcs] at p4
 have hw:=hg.hw.write (w':=w) (k':=.var tt v') RJ rfl (fun _ _=>rfl) ⟨r1,hk.1,g,cs,e,r3,r4,p4⟩
 exact⟨E,hg.carry ⟨fun _ _=>rfl,fun _ h=>h⟩ (fun _ _=>⟨rfl,rfl,rfl⟩) hw,{Ext.refl (md:=gl.md) (Own σ.hp E) E w with own:=fun g R4=>Or.inl (Own.set RJ R4)}⟩
inductive Gh where
 |sf (ts bs:List Nat)
 |Bd (s:Nat) (t:Ty)
 |uf (b:Nat)
 |freeze (b:Nat) (t:Ty)
 |O5 (b b':Nat)
 |rl (s b:Nat) (e:TypeId) (bs:Nat) (t:Ty)
 |oC (c:Nat) (p:Path) (b:Nat) (e:TypeId) (bs:Nat) (t:Ty)
 |kE (b:Nat)
 |zO (b:Nat)
 |Cs (b:Nat) (e:TypeId)
 |l6 (b:Nat)
 |jJ (b:Nat)
 |kV (c:Nat) (p:Path) (d:Nat)
 |dc (b:Nat)
 |mP (b:Nat)
 |kW (c:Nat) (p:Path)
def Gh.go(σ:St):Gh→Option St
 | .sf ts bs=>some ⟨kC ts 0 σ.tm,nM bs 0 σ.hp,σ.df⟩
 |
  .Bd s t=>match σ.tm[s]? with
  |
   some x=>match x.aU t with
   |some y=>some {σ with tm:=σ.tm.set s (.val t y)}
   |none=>none
  |none=>none
 |
  .uf b=>match σ.hp[b]? with
  |
   some (some (.var t v))=>match v.aU t with
   |some y=>some {σ with hp:=σ.hp.set b (some (.var t (.val t y)))}
   |none=>none
  |
   some (some (.cu e bs t xs i v))=>match v.aU t with
   |some y=>some {σ with hp:=σ.hp.set b (some (.cu e bs t xs i (.val t y)))}
   |none=>none
  |some (some (.iG k v rest (some _)))=>some {σ with hp:=σ.hp.set b (some (.iG k v rest none))}
  |_=>none
 | .freeze b t=>Ax.freeze b t σ
 | .O5 b b'=>rename b b' σ
 | .rl s b e bs t=>Ax.rl s b e bs t σ
 | .oC c p b e bs t=>Ax.oC c p b e bs t σ
 | .kE b=>Ax.kE b σ
 | .zO b=>Ax.zO b σ
 | .Cs b e=>Ax.Cs b e σ
 | .l6 b=>Ax.l6 b σ
 | .jJ b=>Ax.jJ b σ
 | .kV c p d=>Ax.kV c p d σ
 | .dc b=>j7 b σ
 | .mP b=>jb b σ
 | .kW c p=>Ax.kW c p σ
def Hu:List Gh→St→Option St
 |[],σ=>some σ
 |
  g::l,σ=>match g.go σ with
  |some σ'=>Hu l σ'
  |none=>none
theorem Gh.ok{gl:Ctx}{g:Gh}{σ σ':St}(h:g.go σ=some σ'):Wk gl σ σ':=by
 cases g with
 |sf ts bs=>cases h;exact Wk.sf gl σ ts bs
 |
  Bd s t=>
  simp only[Gh.go] at h
  split at h
  ·rename_i x hx
   split at h
   ·rename_i y hy;cases h;exact Wk.Bd hx hy
   ·cases h
  ·cases h
 |
  uf b=>
  simp only[Gh.go] at h
  split at h
  ·rename_i t v hb
   split at h
   ·rename_i y hy;cases h;exact Wk.uf hb hy
   ·cases h
  ·rename_i e bs t xs i v hb
   split at h
   ·rename_i y hy;cases h;exact Wk.K8 hb hy
   ·cases h
  ·rename_i k v rest c hb;cases h;exact Wk.P2 hb
  ·cases h
 |freeze b t=>exact Wk.freeze h
 |O5 b b'=>exact Wk.rename h
 |rl s b e bs t=>exact Wk.rl h
 |oC c p b e bs t=>exact Wk.oC h
 |kE b=>exact Wk.kE h
 |zO b=>exact Wk.zO h
 |Cs b e=>exact Wk.Cs h
 |l6 b=>exact Wk.l6 h
 |jJ b=>exact Wk.jJ h
 |kV c p d=>exact Wk.kV h
 |dc b=>exact Wk.j7 h
 |mP b=>exact Wk.jb h
 |kW c p=>exact Wk.kW h
theorem vn{gl:Ctx}:∀{l:List Gh}{σ σ':St},Hu l σ=some σ'→Wk gl σ σ'
 |[],σ,σ',h=>by cases h;exact Wk.refl gl σ
 |
  g::l,σ,σ',h=>by
  simp only[Hu] at h
  split at h
  ·rename_i σ1 h1;exact(Gh.ok h1).trans (vn h)
  ·cases h
section
variable{P:Program} {gl:Ctx} {σ:St} {Q:dy→St→Prop}
theorem bV.wk{c:Code}{σ':St}(h:Wk gl σ σ')(hr:bV P gl c σ' Q):bV P gl c σ Q:=by
 intro E a w hg
 obtain⟨E1,g1,x1⟩:=h E a w hg
 refine wpIn_mono (hr E1 a w g1) ?_
 rintro ex a2 w2 ⟨x,σ2,E2,h1,h2,h3,h4⟩
 exact⟨x,σ2,E2,h1,h2,h3,x1.trans h4⟩
theorem bV.post{c:Code}{Q':dy→St→Prop}(hr:bV P gl c σ Q')(hn:∀e σ',e≠.normal→Q' e σ'→Q e σ')(h:∀σ',Q' .normal σ'→∃σ2,Wk gl σ' σ2∧Q .normal σ2):bV P gl c σ Q:=by
 intro E a w hg
 refine wpIn_mono (hr E a w hg) ?_
 rintro ex a2 w2 ⟨x,σ2,E2,h1,h2,h3,h4⟩
 by_cases e:x= .normal
 ·subst e
  obtain⟨σ3,h5,h6⟩:=h σ2 h2
  obtain⟨E3,g3,x3⟩:=h5 E2 a2 w2 h3
  exact⟨.normal,σ3,E3,by cases ex<;>first|exact h1|exact h1.elim,h6,g3,h4.trans x3⟩
 ·exact⟨x,σ2,E2,h1,hn x σ2 e h2,h3,h4⟩
theorem bV.gh{c:Code}(l:List Gh){σ':St}(h:Hu l σ=some σ')(hr:bV P gl c σ' Q):bV P gl c σ Q:=bV.wk (vn h) hr
end
structure Cl(gl:Ctx)(Q:dy→St→Prop):Prop where
 n:∀σ σ',Wk gl σ σ'→Q .normal σ'→Q .normal σ
 e:∀i σ σ',Wk gl σ σ'→Q (.exit i) σ'→Q (.exit i) σ
theorem aY{α:Type}{p:Prop}[Decidable p]{k:Option α}{r:α}(h:(if p then k else none)=some r):p∧k=some r:=by
 split at h
 ·exact⟨by assumption,h⟩
 ·cases h
theorem Cw{α:Type}{b:Bool}{x y:Option α}{r:α}(h:(if b=true then x else y)=some r):(b=true∧x=some r)∨(b=false∧y=some r):=by
 cases b
 ·exact Or.inr ⟨rfl,h⟩
 ·exact Or.inl ⟨rfl,h⟩
theorem bind_some{α β:Type}{x:Option α}{f:α→Option β}{r:β}(h:x.bind f=some r):∃y,x=some y∧f y=some r:=by
 cases x with
 |none=>cases h
 |some y=>exact⟨y,rfl,h⟩
inductive ct(β ρ:Type) where
 |brk (b:β)
 |ret (r:ρ)
def jc{α:Type}:List (Nat×α)→List α→List α
 |[],l=>l
 |(i,x)::m,l=>jc m (l.set i x)
def dQ:Nat:=18446744073709551616
abbrev bM(n:Int):Int:=IntKind.i64.wrap n
def nth(t:Ty)(xs:List t.den)(i:Int):t.den:=xs.getD i.toNat t.bL
end Go.Ax
namespace Go.Ax
@[reducible] def prod:List Type→Type
 |[]=>Unit
 |t::l=>t×prod l
@[reducible] def dX:List Type→Type
 |[]=>Unit
 |[t]=>t
 |t::u::l=>t×dX (u::l)
def Fo:(l:List Type)→prod l→dX l
 |[],_=>()
 |[_],d=>d.1
 |_::u::l,d=>(d.1,Fo (u::l) d.2)
def k7:(l:List Type)→dX l→prod l
 |[],_=>()
 |[_],d=>(d,())
 |_::u::l,d=>(d.1,k7 (u::l) d.2)
theorem no{α:Type}{e:α}{p:Prop}(h:(none:Option α)=some e):p:=by cases h
theorem kX:∀(l:List Type)(d:prod l),k7 l (Fo l d)=d
 |[],_=>rfl
 |[_],_=>rfl
 |_::u::l,d=>by show(d.1,k7 (u::l) (Fo (u::l) d.2))=d;rw[kX (u::l) d.2]
inductive Hh where
 |cB (n:Nat)
 |idx
inductive Sh where
 |val (t:Ty)
 |aS
 |own (b:Nat)
 |fQ (b:Nat)
 |fp (b:Nat) (p:List Hh)
 |ptr (b:Nat) (p:List Hh)
 |aZ (t:Ty)
 |mp (b:Nat)
 |dW
 |cO
 |dt
 |eI
 |func (f:FuncId) (fs cs:Sh)
 |pN
 |iface (t:TypeId) (v:Sh)
 |cons (a b:Sh)
 |nil
 |NR
 |di (t:Ty)
 |ck (f:FuncId) (t:Ty)
inductive dB where
 |var (t:Ty) (s:Sh)
 |row (e:TypeId) (bs:Nat) (t:Ty)
 |map (k v:Ty)
 |lp
 |nR
 |tv (t:Ty) (s:Sh)
 |cu (e:TypeId) (bs:Nat) (t:Ty) (s:Sh)
 |bQ (e:TypeId) (bs:Nat) (t:Ty) (e2:TypeId)
 |pmap (k t:Ty) (e2:TypeId)
 |iG (k v:Ty)
 |eC (k:Ty) (l:List (k.den×FuncId))
def pH:List Hh→List Type→List Type
 |[],l=>l
 | .cB _::p,l=>pH p l
 | .idx::p,l=>Nat::pH p l
def pV:(p:List Hh)→{l:List Type}→prod (pH p l)→Path
 |[],_,_=>[]
 | .cB n::p,_,d=>.cB n::pV p d
 | .idx::p,_,d=>.idx d.1::pV p d.2
def pR:(p:List Hh)→{l:List Type}→prod (pH p l)→prod l
 |[],_,d=>d
 | .cB _::p,_,d=>pR p d
 | .idx::p,_,d=>pR p d.2
def pG:(p:List Hh)→{l:List Type}→Path→prod l→Option (prod (pH p l))
 |[],_,[],d=>some d
 | .cB n::p,_,.cB m::q,d=>if Nat.beq n m then pG p q d else none
 |
  .idx::p,_,.idx i::q,d=>match pG p q d with
  |some e=>some (i,e)
  |none=>none
 |_,_,_,_=>none
theorem yn:∀{p:List Hh}{l:List Type}{q:Path}{d:prod l}{e:prod (pH p l)},pG p q d=some e→pV p e=q∧pR p e=d
 |
  [],l,q,d,e,h=>by
  cases q with
  |nil=>cases(Option.some.inj h:d=e);exact⟨rfl,rfl⟩
  |cons s q=>simp[pG] at h
 |
  .cB n::p,l,q,d,e,h=>by
  cases q with
  |nil=>simp[pG] at h
  |
   cons s q=>
   cases s with
   |
    cB m=>
    obtain⟨hb,h0⟩:=aY h
    have hb:=Nat.eq_of_beq_eq_true hb
    subst hb
    obtain⟨h1,h2⟩:=yn (p:=p) h0
    exact⟨by simp only[pV];rw[h1],h2⟩
   |idx i=>simp[pG] at h
 |
  .idx::p,l,q,d,e,h=>by
  cases q with
  |nil=>simp[pG] at h
  |
   cons s q=>
   cases s with
   |cB m=>simp[pG] at h
   |
    idx i=>
    simp only[pG] at h
    split at h
    ·rename_i e' he
     cases h
     obtain⟨h1,h2⟩:=yn (p:=p) he
     exact⟨by simp only[pV];rw[h1],h2⟩
    ·cases h
def Sh.H:Sh→List Type→List Type
 | .val t,l=>t.den::l
 | .ck _ t,l=>t.den::l
 | .fQ _,l=>Nat::Nat::l
 | .fp _ p,l=>pH p (Nat::Nat::l)
 | .ptr _ p,l=>pH p l
 | .aZ t,l=>t.den::l
 | .pN,l=>Nat::l
 | .func _ fs cs,l=>fs.H (cs.H l)
 | .iface _ v,l=>v.H l
 | .cons a b,l=>a.H (b.H l)
 |_,l=>l
def Sh.R:(s:Sh)→{l:List Type}→prod (s.H l)→prod l
 | .val _,_,d=>d.2
 | .ck _ _,_,d=>d.2
 | .fQ _,_,d=>d.2.2
 | .fp _ p,_,d=>(pR p d).2.2
 | .ptr _ p,_,d=>pR p d
 | .aZ _,_,d=>d.2
 | .pN,_,d=>d.2
 | .func _ fs cs,_,d=>cs.R (fs.R d)
 | .iface _ v,_,d=>v.R d
 | .cons a b,_,d=>b.R (a.R d)
 | .aS,_,d| .own _,_,d| .mp _,_,d| .dW,_,d| .cO,_,d| .dt,_,d| .eI,_,d| .nil,_,d| .di _,_,d| .NR,_,d=>d
def Sh.V(y:YC):(s:Sh)→{l:List Type}→prod (s.H l)→AV
 | .val t,_,d=>.val t d.1
 | .ck f t,_,d=>.ck f t d.1
 | .fQ b,_,d=>.fQ b d.1 d.2.1
 | .fp b p,_,d=>.fp b (pV p d) (pR p d).1 (pR p d).2.1
 | .ptr b p,_,d=>.ptr b (pV p d)
 | .aZ t,_,d=>.aZ t d.1
 | .func f fs cs,_,d=>.func (.func f) (fs.V y d) (cs.V y (fs.R d))
 | .iface t v,_,d=>.iface t (v.V y d)
 | .cons a b,_,d=>.cons (a.V y d) (b.V y (a.R d))
 | .aS,_,_=>.aS
 | .own b,_,_=>.own b
 | .mp b,_,_=>.mp b
 | .dW,_,_=>.dW
 | .cO,_,_=>.cO
 | .dt,_,_=>.dt
 | .eI,_,_=>.eI
 | .pN,_,d=>.func (.yield d.1) .nil .nil
 | .nil,_,_=>.nil
 | .NR,_,_=>.fx
 | .di t,_,_=>.di t
def oD{t u:Ty}(h:Ty.same u t=true)(x:u.den):t.den:=Ty.aA h▸x
theorem pO{t u:Ty}(h:Ty.same u t=true)(x:u.den):AV.val t (oD h x)= .val u x:=by
 have e:=Ty.aA h
 subst e;rfl
theorem vo{f:FuncId}{t u:Ty}(h:Ty.same u t=true)(x:u.den):AV.ck f t (oD h x)= .ck f u x:=by
 have e:=Ty.aA h
 subst e;rfl
theorem vp{t u:Ty}(h:Ty.same u t=true)(x:u.den):AV.aZ t (oD h x)= .aZ u x:=by
 have e:=Ty.aA h
 subst e;rfl
def Sh.G:(s:Sh)→{l:List Type}→AV→prod l→Option (prod (s.H l))
 | .val t,_,.val u x,d=>if h:Ty.same u t=true then some (oD h x,d) else none
 | .ck f t,_,.ck g u x,d=>if Nat.beq f g then(if h:Ty.same u t=true then some (oD h x,d) else none) else none
 | .aZ t,_,.aZ u x,d=>if h:Ty.same u t=true then some (oD h x,d) else none
 | .fQ b,_,.fQ c i j,d=>if Nat.beq b c then some (i,j,d) else none
 | .fp b p,l,.fp c q i j,d=>if Nat.beq b c then pG p (l:=Nat::Nat::l) q (i,j,d) else none
 | .ptr b p,_,.ptr c q,d=>if Nat.beq b c then pG p q d else none
 |
  .func f fs cs,_,.func (.func g) xs ys,d=>if Nat.beq f g then(match cs.G ys d with
  |some e=>fs.G xs e
  |none=>none) else none
 | .pN,_,.func (.yield g) .nil .nil,d=>some (g,d)
 | .iface t v,_,.iface u x,d=>if Nat.beq t u then v.G x d else none
 |
  .cons a b,_,.cons x y,d=>match b.G y d with
  |some e=>a.G x e
  |none=>none
 | .aS,_,.aS,d| .dW,_,.dW,d| .cO,_,.cO,d| .dt,_,.dt,d| .eI,_,.eI,d| .nil,_,.nil,d| .NR,_,.fx,d=>some d
 | .own b,_,.own c,d=>if Nat.beq b c then some d else none
 | .mp b,_,.mp c,d=>if Nat.beq b c then some d else none
 | .di t,_,.di u,d=>if Ty.same t u then some d else none
 |_,_,_,_=>none
theorem Sh.oW(y:YC):∀{s:Sh}{l:List Type}{x:AV}{d:prod l}{e:prod (s.H l)},s.G x d=some e→s.V y e=x∧s.R e=d:=by
 intro s
 induction s with
 |
  val t=>
  intro l x d e h
  cases x<;>simp only[Sh.G] at h<;>try cases h
  split at h
  ·rename_i hs;cases h;exact⟨pO hs _,rfl⟩
  ·cases h
 |
  aZ t=>
  intro l x d e h
  cases x<;>simp only[Sh.G] at h<;>try cases h
  split at h
  ·rename_i hs;cases h;exact⟨vp hs _,rfl⟩
  ·cases h
 |
  ck f t=>
  intro l x d e h
  cases x<;>simp only[Sh.G] at h<;>try cases h
  split at h
  ·rename_i hf
   have:=Nat.eq_of_beq_eq_true hf;subst this
   split at h
   ·rename_i hs;cases h;exact⟨vo hs _,rfl⟩
   ·cases h
  ·cases h
 |
  fQ b=>
  intro l x d e h
  cases x<;>simp only[Sh.G] at h<;>try cases h
  split at h
  ·rename_i hs;cases h;have:=Nat.eq_of_beq_eq_true hs;subst this;exact⟨rfl,rfl⟩
  ·cases h
 |
  fp b p=>
  intro l x d e h
  cases x<;>simp only[Sh.G] at h<;>try cases h
  obtain⟨hs,h0⟩:=aY h
  have:=Nat.eq_of_beq_eq_true hs;subst this
  obtain⟨h1,h2⟩:=yn h0
  exact⟨by simp only[Sh.V];rw[h1,h2],by simp only[Sh.R];rw[h2]⟩
 |
  ptr b p=>
  intro l x d e h
  cases x<;>simp only[Sh.G] at h<;>try cases h
  obtain⟨hs,h0⟩:=aY h
  have:=Nat.eq_of_beq_eq_true hs;subst this
  obtain⟨h1,h2⟩:=yn h0
  exact⟨by simp only[Sh.V];rw[h1],h2⟩
 |
  func f fs cs RI RG=>
  intro l x d e h
  cases x with
  |
   func g xs ys=>
   cases g with
   |
    func g=>
    simp only[Sh.G] at h
    split at h
    ·rename_i hs
     have:=Nat.eq_of_beq_eq_true hs;subst this
     split at h
     ·rename_i e' he
      obtain⟨a1,a2⟩:=RG he
      obtain⟨b1,b2⟩:=RI h
      exact⟨by simp only[Sh.V];rw[b1,b2,a1],by simp only[Sh.R];rw[b2,a2]⟩
     ·cases h
    ·cases h
   |_=>simp[Sh.G] at h
  |_=>simp[Sh.G] at h
 |
  iface t v ih=>
  intro l x d e h
  cases x<;>simp only[Sh.G] at h<;>try cases h
  obtain⟨hs,h0⟩:=aY h
  have:=Nat.eq_of_beq_eq_true hs;subst this
  obtain⟨b1,b2⟩:=ih h0
  exact⟨by simp only[Sh.V];rw[b1],b2⟩
 |
  cons a b RI RG=>
  intro l x d e h
  cases x<;>simp only[Sh.G] at h<;>try cases h
  split at h
  ·rename_i e' he
   obtain⟨a1,a2⟩:=RG he
   obtain⟨b1,b2⟩:=RI h
   exact⟨by simp only[Sh.V];rw[b1,b2,a1],by simp only[Sh.R];rw[b2,a2]⟩
  ·cases h
 |
  own b=>
  intro l x d e h
  cases x<;>simp only[Sh.G] at h<;>try cases h
  split at h
  ·rename_i hs;cases h;have:=Nat.eq_of_beq_eq_true hs;subst this;exact⟨rfl,rfl⟩
  ·cases h
 |
  mp b=>
  intro l x d e h
  cases x<;>simp only[Sh.G] at h<;>try cases h
  split at h
  ·rename_i hs;cases h;have:=Nat.eq_of_beq_eq_true hs;subst this;exact⟨rfl,rfl⟩
  ·cases h
 |
  di t=>
  intro l x d e h
  cases x<;>simp only[Sh.G] at h<;>try cases h
  split at h
  ·rename_i hs;cases h;have:=Ty.aA hs;subst this;exact⟨rfl,rfl⟩
  ·cases h
 |
  pN=>
  intro l x d e h
  cases x with
  |
   func g xs ys=>
   cases g with
   |yield g=>cases xs<;>cases ys<;>simp only[Sh.G] at h<;>cases h;exact⟨rfl,rfl⟩
   |_=>simp[Sh.G] at h
  |_=>simp[Sh.G] at h
 |_=>intro l x d e h;cases x<;>simp only[Sh.G] at h<;>cases h<;>exact⟨rfl,rfl⟩
def dB.H:dB→List Type→List Type
 | .var _ s,l=>s.H l
 | .row _ _ t,l=>List t.den::l
 | .map k v,l=>List (k.den×v.den)::l
 | .lp,l=>YC::Nat::l
 | .nR,l=>l
 | .tv _ s,l=>Nat::s.H l
 | .cu _ _ t s,l=>List t.den::Nat::s.H l
 | .bQ _ _ t _,l=>List t.den::l
 | .pmap k t _,l=>List (k.den×t.den)::l
 | .iG k v,l=>List (k.den×v.den)::l
 | .eC _ _,l=>l
def dB.R:(s:dB)→{l:List Type}→prod (s.H l)→prod l
 | .var _ s,_,d=>s.R d
 | .row _ _ _,_,d=>d.2
 | .map _ _,_,d=>d.2
 | .lp,_,d=>d.2.2
 | .nR,_,d=>d
 | .tv _ s,_,d=>s.R d.2
 | .cu _ _ _ s,_,d=>s.R d.2.2
 | .bQ _ _ _ _,_,d=>d.2
 | .pmap _ _ _,_,d=>d.2
 | .iG _ _,_,d=>d.2
 | .eC _ _,_,d=>d
def Jg{k:Ty}:List (k.den×FuncId)→List (k.den×AV)
 |[]=>[]
 |x::l=>(x.1,.func (.func x.2) .nil .nil)::Jg l
def ES{k:Ty}:List (k.den×AV)→List (k.den×FuncId)→Bool
 |[],[]=>true
 |
  x::l,z::m=>(match x.2 with
  | .func (.func f) .nil .nil=>Nat.beq f z.2
  |_=>false)&&aO k x.1 z.1&&ES l m
 |_,_=>false
theorem yo{k:Ty}(hk:k.keyed=true):∀{l:List (k.den×AV)}{m:List (k.den×FuncId)},ES l m=true→Jg m=l
 |[],[],_=>rfl
 |[],_::_,h=>by cases h
 |_::_,[],h=>by cases h
 |
  x::l,z::m,h=>by
  simp only[ES,Bool.and_eq_true] at h
  obtain⟨⟨h1,h2⟩,h3⟩:=h
  have e:=(bO hk _ _).1 h2
  obtain⟨x1,x2⟩:=x
  simp only at e h1
  split at h1
  ·have:=Nat.eq_of_beq_eq_true h1
   subst this;subst e
   simp only[Jg]
   rw[yo hk h3]
  ·cases h1
def dB.V(y:YC):(s:dB)→{l:List Type}→prod (s.H l)→aC
 | .var t s,_,d=>.var t (s.V y d)
 | .row e bs t,_,d=>.row e bs t d.1
 | .map k v,_,d=>.map k v d.1
 | .lp,_,d=>.lp d.1 d.2.1
 | .nR,_,_=>.nR
 | .tv t s,_,d=>.tv d.1 t (s.V y d.2)
 | .cu e bs t s,_,d=>.cu e bs t d.1 d.2.1 (s.V y d.2.2)
 | .bQ e bs t e2,_,d=>.bQ e bs t d.1 e2 none
 | .pmap k t e2,_,d=>.pmap k t d.1 e2 none
 | .iG k v,_,d=>.iG k v d.1 none
 | .eC k l,_,_=>.eC k (Jg l)
def Cy{t u:Ty}(h:Ty.same u t=true)(x:List u.den):List t.den:=Ty.aA h▸x
def Cz{t u t' u':Ty}(h:Ty.same u t=true)(h':Ty.same u' t'=true)(x:List (u.den×u'.den)):List (t.den×t'.den):=Ty.aA h▸Ty.aA h'▸x
def Jh{t u:Ty}(h:Ty.same u t=true)(x:List (u.den×AV)):List (t.den×AV):=Ty.aA h▸x
def dB.G:(s:dB)→{l:List Type}→aC→prod l→Option (prod (s.H l))
 | .var t s,_,.var u x,d=>if Ty.same u t then s.G x d else none
 | .row e bs t,_,.row e' Sk u xs,d=>if Nat.beq e e'&&Nat.beq bs Sk then(if h:Ty.same u t=true then some (Cy h xs,d) else none) else none
 | .map k v,_,.map k' v' es,d=>if h:Ty.same k' k=true then(if h':Ty.same v' v=true then some (Cz h h' es,d) else none) else none
 | .nR,_,.nR,d=>some d
 | .lp,_,.lp y j,d=>some (y,j,d)
 |
  .tv t s,_,.tv g u x,d=>if Ty.same u t then(match s.G x d with
  |some r=>some (g,r)
  |none=>none) else none
 |
  .cu e bs t s,_,.cu e' Sk u xs i x,d=>if Nat.beq e e'&&Nat.beq bs Sk then(if h:Ty.same u t=true then(match s.G x d with
  |some r=>some (Cy h xs,i,r)
  |none=>none) else none) else none
 | .bQ e bs t e2,_,.bQ e' Sk u xs Si none,d=>if Nat.beq e e'&&Nat.beq bs Sk&&Nat.beq e2 Si then(if h:Ty.same u t=true then some (Cy h xs,d) else none) else none
 | .pmap k t e2,_,.pmap k' t' es Si none,d=>if Nat.beq e2 Si then(if h:Ty.same k' k=true then(if h':Ty.same t' t=true then some (Cz h h' es,d) else none) else none) else none
 | .iG k v,_,.iG k' v' es none,d=>if h:Ty.same k' k=true then(if h':Ty.same v' v=true then some (Cz h h' es,d) else none) else none
 | .eC k l,_,.eC k' l',d=>if h:Ty.same k' k=true then(if k.keyed&&ES (Jh h l') l then some d else none) else none
 |_,_,_,_=>none
theorem dB.oW(y:YC){s:dB}{l:List Type}{x:aC}{d:prod l}{e:prod (s.H l)}(h:s.G x d=some e):s.V y e=x∧s.R e=d:=by
 cases s with
 |
  var t s=>
  cases x<;>simp only[dB.G] at h<;>try cases h
  obtain⟨hs,h0⟩:=aY h
  have:=Ty.aA hs;subst this
  obtain⟨h1,h2⟩:=Sh.oW y h0
  exact⟨by simp only[dB.V];rw[h1],h2⟩
 |
  row e bs t=>
  cases x<;>simp only[dB.G] at h<;>try cases h
  split at h
  ·rename_i hs
   simp only[Bool.and_eq_true] at hs
   have e1:=Nat.eq_of_beq_eq_true hs.1;subst e1
   have e2:=Nat.eq_of_beq_eq_true hs.2;subst e2
   split at h
   ·rename_i ht
    cases h
    have e3:=Ty.aA ht;subst e3
    exact⟨rfl,rfl⟩
   ·cases h
  ·cases h
 |
  map k v=>
  cases x<;>simp only[dB.G] at h<;>try cases h
  split at h
  ·rename_i hs
   split at h
   ·rename_i ht
    cases h
    have e1:=Ty.aA hs;subst e1
    have e3:=Ty.aA ht;subst e3
    exact⟨rfl,rfl⟩
   ·cases h
  ·cases h
 |nR=>cases x<;>simp only[dB.G] at h<;>cases h;exact⟨rfl,rfl⟩
 |lp=>cases x<;>simp only[dB.G] at h<;>cases h;exact⟨rfl,rfl⟩
 |
  tv t s=>
  cases x<;>simp only[dB.G] at h<;>try cases h
  obtain⟨hs,h0⟩:=aY h
  have:=Ty.aA hs;subst this
  split at h0
  ·rename_i r hr
   cases h0
   obtain⟨h1,h2⟩:=Sh.oW y hr
   exact⟨by simp only[dB.V];rw[h1],h2⟩
  ·cases h0
 |
  cu e0 bs t s=>
  cases x with
  |
   cu e' Sk u xs i v=>
   simp only[dB.G] at h
   obtain⟨hs,h0⟩:=aY h
   clear h
   simp only[Bool.and_eq_true] at hs
   have e1:=Nat.eq_of_beq_eq_true hs.1;subst e1
   have e2:=Nat.eq_of_beq_eq_true hs.2;subst e2
   by_cases ht:Ty.same u t=true
   ·rw[dif_pos ht] at h0
    cases hr:s.G v d with
    |none=>rw[hr] at h0;cases h0
    |
     some r=>
     rw[hr] at h0
     cases h0
     have e3:=Ty.aA ht;subst e3
     obtain⟨g1,g2⟩:=Sh.oW y hr
     exact⟨by simp only[dB.V];rw[g1];rfl,g2⟩
   ·rw[dif_neg ht] at h0;cases h0
  |_=>simp[dB.G] at h
 |
  bQ e bs t e2=>
  cases x with
  |
   bQ e' Sk u xs Si f=>
   cases f with
   |some f=>simp[dB.G] at h
   |
    none=>
    simp only[dB.G] at h
    obtain⟨hs,h0⟩:=aY h
    clear h
    simp only[Bool.and_eq_true] at hs
    have e1:=Nat.eq_of_beq_eq_true hs.1.1;subst e1
    have e2:=Nat.eq_of_beq_eq_true hs.1.2;subst e2
    have e3:=Nat.eq_of_beq_eq_true hs.2;subst e3
    by_cases ht:Ty.same u t=true
    ·rw[dif_pos ht] at h0
     cases h0
     have e3:=Ty.aA ht;subst e3
     exact⟨rfl,rfl⟩
    ·rw[dif_neg ht] at h0;cases h0
  |_=>simp[dB.G] at h
 |
  pmap k t e2=>
  cases x with
  |
   pmap k' t' es Si f=>
   cases f with
   |some f=>simp[dB.G] at h
   |
    none=>
    simp only[dB.G] at h
    obtain⟨hs,h0⟩:=aY h
    clear h
    have e3:=Nat.eq_of_beq_eq_true hs;subst e3
    by_cases ht:Ty.same k' k=true
    ·rw[dif_pos ht] at h0
     by_cases ht':Ty.same t' t=true
     ·rw[dif_pos ht'] at h0
      cases h0
      have e3:=Ty.aA ht;subst e3
      have e4:=Ty.aA ht';subst e4
      exact⟨rfl,rfl⟩
     ·rw[dif_neg ht'] at h0;cases h0
    ·rw[dif_neg ht] at h0;cases h0
  |_=>simp[dB.G] at h
 |
  iG k v=>
  cases x with
  |
   iG k' v' es c=>
   cases c with
   |some c=>simp[dB.G] at h
   |
    none=>
    simp only[dB.G] at h
    by_cases ht:Ty.same k' k=true
    ·rw[dif_pos ht] at h
     by_cases ht':Ty.same v' v=true
     ·rw[dif_pos ht'] at h
      cases h
      have e3:=Ty.aA ht;subst e3
      have e4:=Ty.aA ht';subst e4
      exact⟨rfl,rfl⟩
     ·rw[dif_neg ht'] at h;cases h
    ·rw[dif_neg ht] at h;cases h
  |_=>simp[dB.G] at h
 |
  eC k l=>
  cases x with
  |
   eC k' l'=>
   simp only[dB.G] at h
   by_cases ht:Ty.same k' k=true
   ·rw[dif_pos ht] at h
    split at h
    ·rename_i hc
     cases h
     simp only[Bool.and_eq_true] at hc
     have e3:=Ty.aA ht;subst e3
     refine⟨?_,rfl⟩
     show aC.eC _ (Jg l)=_
     rw[yo hc.1 hc.2]
     rfl
    ·cases h
   ·rw[dif_neg ht] at h;cases h
  |_=>simp[dB.G] at h
def Hv:List (Nat×Sh)→List Type→List Type
 |[],l=>l
 |(_,s)::m,l=>s.H (Hv m l)
def JJ(y:YC):(m:List (Nat×Sh))→{l:List Type}→prod (Hv m l)→List (Nat×AV)
 |[],_,_=>[]
 |(i,s)::m,_,d=>(i,s.V y d)::JJ y m (s.R d)
def Ji:(m:List (Nat×Sh))→{l:List Type}→prod (Hv m l)→prod l
 |[],_,d=>d
 |(_,s)::m,_,d=>Ji m (s.R d)
def JK:(m:List (Nat×Sh))→{l:List Type}→List AV→prod l→Option (prod (Hv m l))
 |[],_,_,d=>some d
 |
  (i,s)::m,_,tm,d=>match tm[i]? with
  |
   some x=>match JK m tm d with
   |some e=>s.G x e
   |none=>none
  |none=>none
theorem CA(y:YC):∀{m:List (Nat×Sh)}{l:List Type}{tm:List AV}{d:prod l}{e:prod (Hv m l)},JK m tm d=some e→(∀i x,(i,x)∈JJ y m e→tm[i]? =some x)∧Ji m e=d
 |[],l,tm,d,e,h=>by cases h;exact⟨(fun i x hx=>by cases hx),rfl⟩
 |
  (i,s)::m,l,tm,d,e,h=>by
  simp only[JK] at h
  split at h
  ·rename_i x hx
   split at h
   ·rename_i e' he
    obtain⟨h1,h2⟩:=CA y he
    obtain⟨g1,g2⟩:=Sh.oW y h
    refine⟨?_,by simp only[Ji];rw[g2];exact h2⟩
    intro j z hz
    simp only[JJ,List.mem_cons,Prod.mk.injEq] at hz
    rcases hz with⟨rfl,rfl⟩|hz
    ·rw[g1];exact hx
    ·rw[g2] at hz;exact h1 j z hz
   ·exact no h
  ·exact no h
def eR:List (Nat×dB)→List Type→List Type
 |[],l=>l
 |(_,s)::m,l=>s.H (eR m l)
def j8(y:YC):(m:List (Nat×dB))→{l:List Type}→prod (eR m l)→List (Nat×aC)
 |[],_,_=>[]
 |(i,s)::m,_,d=>(i,s.V y d)::j8 y m (s.R d)
def Hw:(m:List (Nat×dB))→{l:List Type}→prod (eR m l)→prod l
 |[],_,d=>d
 |(_,s)::m,_,d=>Hw m (s.R d)
def Jj:(m:List (Nat×dB))→{l:List Type}→List (Option aC)→prod l→Option (prod (eR m l))
 |[],_,_,d=>some d
 |
  (i,s)::m,_,hp,d=>match hp[i]? with
  |
   some (some x)=>match Jj m hp d with
   |some e=>s.G x e
   |none=>none
  |_=>none
theorem vq(y:YC):∀{m:List (Nat×dB)}{l:List Type}{hp:List (Option aC)}{d:prod l}{e:prod (eR m l)},Jj m hp d=some e→(∀i x,(i,x)∈j8 y m e→hp[i]? =some (some x))∧Hw m e=d
 |[],l,hp,d,e,h=>by cases h;exact⟨(fun i x hx=>by cases hx),rfl⟩
 |
  (i,s)::m,l,hp,d,e,h=>by
  simp only[Jj] at h
  split at h
  ·rename_i x hx
   split at h
   ·rename_i e' he
    obtain⟨h1,h2⟩:=vq y he
    obtain⟨g1,g2⟩:=dB.oW y h
    refine⟨?_,by simp only[Hw];rw[g2];exact h2⟩
    intro j z hz
    simp only[j8,List.mem_cons,Prod.mk.injEq] at hz
    rcases hz with⟨rfl,rfl⟩|hz
    ·rw[g1];exact hx
    ·rw[g2] at hz;exact h1 j z hz
   ·exact no h
  ·exact no h
def mQ:List Sh→List Type→List Type
 |[],l=>l
 |s::m,l=>s.H (mQ m l)
def rz(y:YC):(m:List Sh)→{l:List Type}→prod (mQ m l)→List AV
 |[],_,_=>[]
 |s::m,_,d=>s.V y d::rz y m (s.R d)
def rA:(m:List Sh)→{l:List Type}→prod (mQ m l)→prod l
 |[],_,d=>d
 |s::m,_,d=>rA m (s.R d)
def Fp:(m:List Sh)→{l:List Type}→List AV→prod l→Option (prod (mQ m l))
 |[],_,[],d=>some d
 |
  s::m,_,x::xs,d=>match Fp m xs d with
  |some e=>s.G x e
  |none=>none
 |_,_,_,_=>none
theorem rm(y:YC):∀{m:List Sh}{l:List Type}{xs:List AV}{d:prod l}{e:prod (mQ m l)},Fp m xs d=some e→rz y m e=xs∧rA m e=d
 |
  [],l,xs,d,e,h=>by
  cases xs with
  |nil=>cases h;exact⟨rfl,rfl⟩
  |cons _ _=>simp[Fp] at h
 |
  s::m,l,xs,d,e,h=>by
  cases xs with
  |nil=>simp[Fp] at h
  |
   cons x xs=>
   simp only[Fp] at h
   split at h
   ·rename_i e' he
    obtain⟨h1,h2⟩:=rm y he
    obtain⟨g1,g2⟩:=Sh.oW y h
    exact⟨by simp only[rz];rw[g1,g2,h1],by simp only[rA];rw[g2,h2]⟩
   ·cases h
structure SS where
 nt:Nat
 nh:Nat
 tm:List (Nat×Sh)
 hp:List (Nat×dB)
 df:List Sh
def SS.H(S:SS):List Type:=Hv S.tm (eR S.hp (mQ S.df []))
@[reducible] def SS.T (S:SS):Type:=dX S.H
def cn:List (Nat×aC)→List (Nat×Option aC)
 |[]=>[]
 |(i,k)::l=>(i,some k)::cn l
theorem l7{i:Nat}{k:Option aC}:∀{l:List (Nat×aC)},(i,k)∈cn l→∃b,k=some b∧(i,b)∈l
 |[],h=>by cases h
 |
  (j,b)::l,h=>by
  simp only[cn,List.mem_cons,Prod.mk.injEq] at h
  rcases h with⟨rfl,rfl⟩|h
  ·exact⟨b,rfl,List.mem_cons_self ..⟩
  ·obtain⟨b',e,hm⟩:=l7 h
   exact⟨b',e,List.mem_cons_of_mem _ hm⟩
def SS.iX(S:SS)(y:YC)(d:prod S.H):St:=
 ⟨jc (JJ y S.tm d) (List.replicate S.nt .bot),jc (cn (j8 y S.hp (Ax.Ji S.tm d))) (List.replicate S.nh none),rz y S.df (Hw S.hp (Ax.Ji S.tm d))⟩
def SS.st(S:SS)(y:YC)(t:S.T):St:=S.iX y (k7 S.H t)
def SS.get(S:SS)(σ:St):Option S.T:=
 if Nat.beq σ.tm.length S.nt&&Nat.beq σ.hp.length S.nh then(match Fp S.df (l:=[]) σ.df () with
  |
   some d1=>match Jj S.hp σ.hp d1 with
   |
    some d2=>match JK S.tm σ.tm d2 with
    |some d3=>some (Fo S.H d3)
    |none=>none
   |none=>none
  |none=>none) else none
theorem j9{α:Type}:∀{l:List (Nat×α)}{m:List α},(jc l m).length=m.length
 |[],_=>rfl
 |(i,x)::l,m=>by rw[jc,j9,List.length_set]
theorem im{α:Type}{i:Nat}{x:α}:∀{l:List (Nat×α)}{m:List α},(jc l m)[i]? =some x→(i,x)∈l∨m[i]? =some x
 |[],_,h=>Or.inr h
 |
  (j,z)::l,m,h=>by
  rw[jc] at h
  rcases im h with h|h
  ·exact Or.inl (List.mem_cons_of_mem _ h)
  ·rw[List.getElem?_set] at h
   split at h
   ·rename_i e
    split at h
    ·cases h;subst e;exact Or.inl (List.mem_cons_self ..)
    ·cases h
   ·exact Or.inr h
theorem Wk.sub{gl:Ctx}{σ σ':St}(hl:σ'.tm.length=σ.tm.length)(ht:∀(i:Nat)(x:AV),σ'.tm[i]? =some x→x= .bot∨σ.tm[i]? =some x)
 (hh:∀(b:Nat)(k:aC),σ'.hp[b]? =some (some k)→σ.hp[b]? =some (some k)) (hd:σ'.df=σ.df):Wk gl σ σ':=by
 intro E a w h
 refine⟨E,⟨by rw[hl];exact h.len,?_,h.hw.less hh,by rw[hd];exact h.df⟩,{Ext.refl (Own σ.hp E) E w with own:=?_ }⟩
 ·intro i x hx v hv
  rcases ht i x hx with e|e
  ·subst e;trivial
  ·exact h.tm i x e v hv
 ·rintro g ⟨b,k,hb,hg⟩
  exact Or.inl ⟨b,k,hh b k hb,hg⟩
theorem SS.dj{gl:Ctx}{S:SS}{y:YC}{σ:St}{t:S.T}(h:S.get σ=some t):Wk gl σ (S.st y t):=by
 unfold SS.get at h
 split at h
 ·rename_i hc
  simp only[Bool.and_eq_true] at hc
  have l1:=Nat.eq_of_beq_eq_true hc.1
  have l2:=Nat.eq_of_beq_eq_true hc.2
  split at h
  ·rename_i d1 h1
   split at h
   ·rename_i d2 h2
    split at h
    ·rename_i d3 h3
     cases h
     have e0:S.st y (Fo S.H d3)=S.iX y d3:=congrArg (S.iX y) (kX S.H d3)
     refine Eq.mpr (congrArg (Wk gl σ) e0) ?_
     obtain⟨a1,a2⟩:=rm y h1
     obtain⟨b1,b2⟩:=vq y h2
     obtain⟨c1,c2⟩:=CA y h3
     refine Wk.sub ?_ ?_ ?_ ?_
     ·simp only[SS.iX,j9,List.length_replicate,l1]
     ·intro i x hx
      simp only[SS.iX] at hx
      rcases im hx with hx|hx
      ·exact Or.inr (c1 i x hx)
      ·rw[List.getElem?_replicate] at hx
       split at hx
       ·cases hx;exact Or.inl rfl
       ·cases hx
     ·intro b k hk
      simp only[SS.iX] at hk
      rcases im hk with hk|hk
      ·obtain⟨b',e,hm⟩:=l7 hk
       cases e
       rw[c2] at hm
       exact b1 b k hm
      ·rw[List.getElem?_replicate] at hk
       split at hk<;>cases hk
     ·simp only[SS.iX];rw[c2,b2];exact a1
    ·cases h
   ·cases h
  ·cases h
 ·cases h
end Go.Ax
namespace Go.Ax
inductive Nd where
 |JL (b:Nat) (t:Ty)
 |oN (c b:Nat)
 |own (c:Nat) (p:Path)
 |JM
def AV.owned:AV→Option Nat
 | .own b| .fQ b _ _| .fp b _ _ _| .mp b=>some b
 |
  .cons a b=>match a.owned with
  |some c=>some c
  |none=>b.owned
 |_=>none
def NS:Path→Path
 | .cB n::p=>.cB (n+1)::p
 |p=>p
def vr:List Nd→List Nd
 |[]=>[]
 | .own c p::l=>.own c (NS p)::vr l
 |n::l=>n::vr l
def CB:List Nd→List Nd
 |[]=>[]
 | .own c p::l=>.own c (.cB 0::p)::CB l
 |n::l=>n::CB l
def iC:Sh→AV→List Nd
 |
  .val t,x=>match x.owned with
  |some b=>[.JL b t]
  |
   none=>match x with
   | .val _ _=>[]
   |_=>[.JM]
 | .aZ t,.ptr b _=>[.JL b t]
 | .own c,.own b=>[.oN c b]
 | .own c,.aS=>[.own c []]
 | .ptr c _,.ptr b _=>[.oN c b]
 | .fQ c,.fQ b _ _=>[.oN c b]
 | .fp c _,.fp b _ _ _=>[.oN c b]
 | .mp c,.mp b=>[.oN c b]
 | .cons a b,.cons x y=>CB (iC a x)++vr (iC b y)
 | .func _ a b,.func _ x y=>iC a x++iC b y
 | .iface _ a,.iface _ x=>iC a x
 |_,_=>[]
def yp:dB→aC→List Nd
 | .var _ s,.var _ x=>iC s x
 | .tv _ s,.tv _ _ x=>iC s x
 | .cu _ _ _ s,.cu _ _ _ _ _ x=>iC s x
 | .iG _ _,.iG _ _ _ (some _)=>[.JM]
 |_,_=>[]
def JN{α:Type}:List (Nat×α)→Nat→Option α
 |[],_=>none
 |(i,x)::l,j=>if Nat.beq i j then some x else JN l j
def yq:List Nd→List (Nat×Nat)
 |[]=>[]
 | .oN c b::l=>(c,b)::yq l
 |_::l=>yq l
def Jk:List Nd→Option (Nat×Ty)
 |[]=>none
 | .JL b t::_=>some (b,t)
 |_::l=>Jk l
def Fq:List (Nat×Sh)→List AV→List Nd
 |[],_=>[]
 |
  (i,s)::l,tm=>(match tm[i]? with
  |some x=>iC s x
  |none=>[])++Fq l tm
def Fs:List Sh→List AV→List Nd
 |s::l,x::xs=>iC s x++Fs l xs
 |_,_=>[]
def yr(hp:List (Nat×dB))(σ:List (Option aC)):Nat→List (Nat×Nat)→List (Nat×Nat)→List Nd→List (Nat×Nat)×List Nd
 |0,_,done,nd=>(done,nd)
 |_+1,[],done,nd=>(done,nd)
 |
  n+1,(c,b)::todo,done,nd=>
  match JN done c with
  |some _=>yr hp σ n todo done nd
  |
   none=>
   match JN hp c,σ[b]? with
   |some s,some (some k)=>yr hp σ n (yq (yp s k)++todo) ((c,b)::done) (nd++yp s k)
   |_,_=>yr hp σ n todo ((c,b)::done) nd
def pinned:List (Nat×dB)→List (Option aC)→List (Nat×Nat)
 |[],_=>[]
 |
  (c,s)::l,σ=>if Nat.blt c 16 then(c,c)::pinned l σ else(match s with
  | .nR=>(c,c)::pinned l σ
  |_=>pinned l σ)
def yu(S:SS)(σ:St):List (Nat×Nat)×List Nd:=
 let n0:=Fq S.tm σ.tm++Fs S.df σ.df
 yr S.hp σ.hp 200 (yq n0++pinned S.hp σ.hp) [] n0
def NT(hp:List (Option aC))(b:Nat)(t:Ty):Ty:=
 match hp[b]? with
 |some (some (.row _ bs u _))=>.slice bs u
 |
  _=>match t with
  | .slice bs u=>.slice bs u
  |_=>.slice 1 (.int .u8)
def yv(S:SS):Nat→St→Option St
 |0,_=>none
 |
  n+1,σ=>match Jk (yu S σ).2 with
  |none=>some σ
  |
   some (b,t)=>match freeze b (NT σ.hp b t) σ with
   |some σ'=>yv S n σ'
   |none=>none
def Hi:List AV→List Nat
 |[]=>[]
 |x::l=>x.ids++Hi l
def Hj:List (Option aC)→Nat→List Nat
 |[],_=>[]
 |some k::l,i=>i::(k.ids++Hj l (i+1))
 |none::l,i=>Hj l (i+1)
def CC:List (Nat×Nat)→List (Nat×Nat)
 |[]=>[]
 |(c,b)::l=>if Nat.beq c b then CC l else(c,b)::CC l
def CD(used:List Nat):List (Nat×Nat)→List (Nat×Nat)→Option (Nat×Nat×List (Nat×Nat))
 |[],_=>none
 |(c,b)::l,acc=>if bT c used then CD used l ((c,b)::acc) else some (c,b,acc++l)
def Jl(b x:Nat):List (Nat×Nat)→List (Nat×Nat)
 |[]=>[]
 |(c,d)::l=>(c,if Nat.beq d b then x else d)::Jl b x l
def oE(top:Nat):Nat→List (Nat×Nat)→St→Option St
 |_,[],σ=>some σ
 |0,_,_=>none
 |
  n+1,(c,b)::mv,σ=>
  match CD (Hi σ.tm++Hi σ.df++Hj σ.hp 0) ((c,b)::mv) [] with
  |
   some (c',b',rest)=>match rename b' c' σ with
   |some σ'=>oE top n rest σ'
   |none=>none
  |
   none=>match rename b top σ with
   |some σ'=>oE top n (Jl b top ((c,b)::mv)) σ'
   |none=>none
def CE(hp:List (Nat×dB))(c:Nat)(f:TypeId→Nat→Ty→Gh)(σ:St):Option St:=
 match JN hp c with
 |some (.row e bs t)=>(f e bs t).go σ
 |_=>none
def pP(hp:List (Nat×dB))(f:Nat→Path→TypeId→Nat→Ty→Gh):List Nd→St→Option St
 |[],σ=>some σ
 |
  .own c p::l,σ=>match CE hp c (f c p) σ with
  |some σ'=>pP hp f l σ'
  |none=>none
 |_::l,σ=>pP hp f l σ
def rp(hp:List (Nat×dB)):List (Nat×Sh)→St→Option St
 |[],σ=>some σ
 |
  (i,s)::l,σ=>match σ.tm[i]? with
  |
   some x=>match pP hp (fun c _ e bs t=>.rl i c e bs t) (iC s x) σ with
   |some σ'=>rp hp l σ'
   |none=>none
  |none=>none
def oF(hp:List (Nat×dB)):List (Nat×dB)→St→Option St
 |[],σ=>some σ
 |
  (i,s)::l,σ=>match σ.hp[i]? with
  |
   some (some k)=>match pP hp (fun c p e bs t=>.oC i p c e bs t) (yp s k) σ with
   |some σ'=>oF hp l σ'
   |none=>none
  |_=>oF hp l σ
def vu:List Nd→Bool
 |[]=>false
 | .JM::_=>true
 |_::l=>vu l
def lG:List (Nat×Sh)→St→Option St
 |[],σ=>some σ
 |
  (i,.val t)::l,σ=>match σ.tm[i]? with
  |
   some x=>if vu (iC (.val t) x) then(match(Gh.Bd i t).go σ with
   |some σ'=>lG l σ'
   |none=>none) else lG l σ
  |none=>none
 |_::l,σ=>lG l σ
def lH:List (Nat×dB)→St→Option St
 |[],σ=>some σ
 |
  (i,s)::l,σ=>match σ.hp[i]? with
  |
   some (some k)=>if vu (yp s k) then(match(Gh.uf i).go σ with
   |some σ'=>lH l σ'
   |none=>none) else lH l σ
  |_=>lH l σ
def Jm:List (Nat×Sh)→List Nat
 |[]=>[]
 |(i,_)::l=>i::Jm l
def Jn:List (Nat×Nat)→List Nat
 |[]=>[]
 |(_,b)::l=>b::Jn l
def SS.mR(
 S:SS) (σ:St):Option S.T:=
 match yv S 40 σ with
 |none=>none
 |
  some σ1=>
  let m:=(yu S σ1).1
  match(Gh.sf (Jm S.tm) (Jn m)).go σ1 with
  |none=>none
  |
   some σ2=>match oE (S.nh -1) 60 (CC m) σ2 with
   |none=>none
   |
    some σ3=>match rp S.hp S.tm σ3 with
    |none=>none
    |
     some σ4=>match oF S.hp S.hp σ4 with
     |none=>none
     |
      some σ5=>match lG S.tm σ5 with
      |none=>none
      |
       some σ6=>match lH S.hp σ6 with
       |none=>none
       |some σ7=>S.get σ7
section
variable{gl:Ctx}
theorem sZ{S:SS}:∀{n:Nat}{σ σ':St},yv S n σ=some σ'→Wk gl σ σ'
 |0,_,_,h=>by cases h
 |
  n+1,σ,σ',h=>by
  simp only[yv] at h
  split at h
  ·cases h;exact Wk.refl gl σ
  ·split at h
   ·rename_i σ1 h1;exact(Wk.freeze h1).trans (sZ h)
   ·cases h
theorem oG{top:Nat}:∀{n:Nat}{mv:List (Nat×Nat)}{σ σ':St},oE top n mv σ=some σ'→Wk gl σ σ'
 |
  _,[],σ,σ',h=>by
  have:some σ=some σ':=by rw[←h];unfold oE;rfl
  cases this;exact Wk.refl gl σ
 |0,_::_,_,_,h=>by simp[oE] at h
 |
  n+1,(c,b)::mv,σ,σ',h=>by
  simp only[oE] at h
  split at h
  ·split at h
   ·rename_i σ1 h1;exact(Wk.rename h1).trans (oG h)
   ·cases h
  ·split at h
   ·rename_i σ1 h1;exact(Wk.rename h1).trans (oG h)
   ·cases h
theorem gN{hp:List (Nat×dB)}{f:Nat→Path→TypeId→Nat→Ty→Gh}:∀{l:List Nd}{σ σ':St},pP hp f l σ=some σ'→Wk gl σ σ'
 |[],σ,σ',h=>by cases h;exact Wk.refl gl σ
 |
  .own c p::l,σ,σ',h=>by
  simp only[pP] at h
  split at h
  ·rename_i σ1 h1
   unfold CE at h1
   split at h1
   ·exact(Gh.ok h1).trans (gN h)
   ·cases h1
  ·cases h
 | .JL _ _::l,σ,σ',h=>gN (l:=l) h
 | .oN _ _::l,σ,σ',h=>gN (l:=l) h
 | .JM::l,σ,σ',h=>gN (l:=l) h
theorem pQ{hp:List (Nat×dB)}:∀{l:List (Nat×Sh)}{σ σ':St},rp hp l σ=some σ'→Wk gl σ σ'
 |[],σ,σ',h=>by cases h;exact Wk.refl gl σ
 |
  (i,s)::l,σ,σ',h=>by
  simp only[rp] at h
  split at h
  ·split at h
   ·rename_i σ1 h1;exact(gN h1).trans (pQ h)
   ·cases h
  ·cases h
theorem lJ{hp:List (Nat×dB)}:∀{l:List (Nat×dB)}{σ σ':St},oF hp l σ=some σ'→Wk gl σ σ'
 |[],σ,σ',h=>by cases h;exact Wk.refl gl σ
 |
  (i,s)::l,σ,σ',h=>by
  simp only[oF] at h
  split at h
  ·split at h
   ·rename_i σ1 h1;exact(gN h1).trans (lJ h)
   ·cases h
  ·exact lJ (l:=l) h
theorem jt:∀{l:List (Nat×Sh)}{σ σ':St},lG l σ=some σ'→Wk gl σ σ'
 |[],σ,σ',h=>by cases h;exact Wk.refl gl σ
 |
  (i,s)::l,σ,σ',h=>by
  cases s with
  |
   val t=>
   simp only[lG] at h
   split at h
   ·split at h
    ·split at h
     ·rename_i σ1 h1;exact(Gh.ok h1).trans (jt h)
     ·cases h
    ·exact jt (l:=l) h
   ·cases h
  |_=>exact jt (l:=l) h
theorem ju:∀{l:List (Nat×dB)}{σ σ':St},lH l σ=some σ'→Wk gl σ σ'
 |[],σ,σ',h=>by cases h;exact Wk.refl gl σ
 |
  (i,s)::l,σ,σ',h=>by
  simp only[lH] at h
  split at h
  ·split at h
   ·split at h
    ·rename_i σ1 h1;exact(Gh.ok h1).trans (ju h)
    ·cases h
   ·exact ju (l:=l) h
  ·exact ju (l:=l) h
theorem SS.eM{S:SS}{y:YC}{σ:St}{t:S.T}(h:S.mR σ=some t):Wk gl σ (S.st y t):=by
 unfold SS.mR at h
 split at h
 ·cases h
 rename_i σ1 h1
 simp only at h
 split at h
 ·cases h
 rename_i σ2 h2
 split at h
 ·cases h
 rename_i σ3 h3
 split at h
 ·cases h
 rename_i σ4 h4
 split at h
 ·cases h
 rename_i σ5 h5
 split at h
 ·cases h
 rename_i σ6 h6
 split at h
 ·cases h
 rename_i σ7 h7
 exact((((((sZ h1).trans (Gh.ok h2)).trans (oG h3)).trans (pQ h4)).trans (lJ h5)).trans (jt h6)).trans ((ju h7).trans (SS.dj h))
end
end Go.Ax
namespace Go.Ax
def vw:aC:=.row 0 0 .unit []
theorem yw{E:Env}{w:World}{b:Nat}(h:RB E w b vw):False:=by
 have h:=h.2.2.2.1
 simp[Ty.size] at h
def oH(f:aJ)(z:Nat):aJ:=⟨f.rt,f.rb,[],none,.bot,[(z,some vw)]⟩
def yx(z:Nat):aJ:=⟨[],[z],[],none,.bot,[]⟩
def fP(fs:List aJ)(f:aJ)(z:Nat)(gs:List aJ):List aJ:=fs++oH f z::gs
def vz(P:Program)(gl:Ctx)(ops:Array Oper)(z:Nat)(j:Nat)(g:aJ)(σ:St):Prop:=oS P gl ops j g σ∨(g=yx z∧σ.hp[z]? =some (some vw))
def jv:List Nat→List AV→List AV
 |[],tm=>tm
 |d::l,tm=>jv l (tm.set d .bot)
theorem l9:∀{l:List Nat}{tm:List AV},(jv l tm).length=tm.length
 |[],_=>rfl
 |d::l,tm=>by unfold jv;rw[l9];simp
theorem ma{i:Nat}{x:AV}:∀{l:List Nat}{tm:List AV},(jv l tm)[i]? =some x→x= .bot∨(i∉l∧tm[i]? =some x)
 |[],_,h=>Or.inr ⟨by simp,h⟩
 |
  d::l,tm,h=>by
  unfold jv at h
  rcases ma h with h|⟨hl,h⟩
  ·exact Or.inl h
  ·rw[List.getElem?_set] at h
   split at h
   ·split at h
    ·cases h;exact Or.inl rfl
    ·cases h
   ·rename_i Rw
    exact Or.inr ⟨by simp only[List.mem_cons,not_or];exact⟨fun e=>Rw e.symm,hl⟩,h⟩
def oI(fs:List aJ)(f:aJ)(z:Nat)(gs:List aJ)(σ:St):St:=
 ⟨jv (dstsOf (fP fs f z gs)) σ.tm,aD (aD σ.hp f.hw) (cV (ib (fP fs f z gs))),σ.df⟩
theorem bG.app{OK:Nat→aJ→St→Prop}:∀{fs gs:List aJ}{i:Nat}{σ σ1 σ':St},bG OK i fs σ σ1→bG OK (i+fs.length) gs σ1 σ'→bG OK i (fs++gs) σ σ'
 |[],gs,i,σ,σ1,σ',h,k=>by simp only[bG] at h;subst h;simpa using k
 |f::fs,gs,i,σ,σ1,σ',⟨h1,h2,h3⟩,k=>⟨h1,h2,bG.app h3 (by rw[List.length_cons] at k;rw[show i+1+fs.length=i+(fs.length+1) from by omega];exact k)⟩
theorem bG.hl{OK:Nat→aJ→St→Prop}:∀{fs:List aJ}{i:Nat}{σ σ':St},bG OK i fs σ σ'→σ'.hp.length=σ.hp.length
 |[],_,_,_,h=>by simp only[bG] at h;subst h;rfl
 |f::fs,_,σ,_,⟨_,_,h⟩=>by rw[bG.hl h,lC]
def ET(z:Nat)(gs:List aJ):Bool:=gs.all fun g=> !bT z (wrote g.hw)
theorem bG.at{OK:Nat→aJ→St→Prop}{z:Nat}{k:Option aC}:∀{fs:List aJ}{i:Nat}{σ σ':St},bG OK i fs σ σ'→ET z fs=true→σ.hp[z]? =some k→σ'.hp[z]? =some k
 |[],_,_,_,h,_,hz=>by simp only[bG] at h;subst h;exact hz
 |
  f::fs,_,σ,_,⟨_,_,h⟩,hn,hz=>by
  simp only[ET,List.all_cons,Bool.and_eq_true,Bool.not_eq_true'] at hn
  refine bG.at h (by simpa[ET] using hn.2) ?_
  rw[dG,cT (fun hm=>by rw[iV hm] at hn;cases hn.1)]
  exact hz
theorem oJ{P:Program}{G:bu}(T:aN P G){gl:Ctx}{ops:Array Oper}{id:Nat}{draw:Bool}{fs gs:List aJ}{f:aJ}{z:Nat}{σ σp σe:St}{Q:dy→St→Prop}
 (hc:kI P gl ops 0 fs σ σp) (hp:sd P gl ops fs.length f σp) (hg2:bG (vz P gl ops z) (fs.length+1) gs (σp.app (oH f z)) σe) (hnz:ET z gs=true) (hz:z<σ.hp.length) (hn:fs.length+1+gs.length=ops.size) (dY:draw=true→(iz ops (fP fs f z gs)&&fb σ (fP fs f z gs))=true)
 (Sa:f.v.plain=true) (hq:Q (.panic f.v) (oI fs f z gs σ)):bV P gl (.region id ops draw) σ Q:=by
 intro E a w hg
 have hzp:(σp.app (oH f z)).hp[z]? =some (some vw):=by
  rw[dG]
  simp only[oH,aD,List.getElem?_set,if_true]
  rw[if_pos (by rw[bG.hl hc];exact hz)]
 have hze:=bG.at hg2 hnz hzp
 have hlen:(fP fs f z gs).length=ops.size:=by simp[fP];omega
 have rest:∀(V:St→Env→World→Prop)(Q:Exit→Act→World→Prop) j g σ1,vz P gl ops z j g σ1→GQ P gl ops Q V j g σ1:=by
  intro V Q j g σ1 h
  rcases h with h|⟨rfl,h⟩
  ·exact h.q
  ·intro σ' ha _ E a w hg
   have:σ'.hp[z]? =some (some vw):=by rw[ha.hp z (by simp[yx]),h]
   exact(yw (hg.hw.bP z _ this)).elim
 have total:∀Q':Exit→Act→World→Prop,(∀σ2 E2 w2 E' u w',qS gl (dstsOf (fP fs f z gs)) (ib (fP fs f z gs)) σ E w σ2 E2 w2→∀a',bD gl {σ2 with hp:=aD σ2.hp f.hw} E' a' w'→RV E' w' f.v u→Ext gl.md (Own σ2.hp E2) E2 w2 (Own (aD σ2.hp f.hw) E') E' w'→Q' (.panic [{v:=u,recovered:=false}]) a' w')→
  bG (GQ P gl ops Q' (qS gl (dstsOf (fP fs f z gs)) (ib (fP fs f z gs)) σ E w)) 0 (fP fs f z gs) σ σe:=by
  intro Q' hQ'
  refine bG.app (hc.mono fun _ _ _=>oS.q) ⟨?_,(fun d hd=>by cases hd),?_⟩
  ·rw[Nat.zero_add]
   intro σ2 ha _ E2 a2 w2 hg2 hv2 K _
   exact hp σ2 ha E2 a2 w2 hg2 K Q' (fun E' u w' q1 q2 q3=>hQ' σ2 E2 w2 E' u w' hv2 a2 q1 q2 q3)
  ·rw[Nat.zero_add]
   exact hg2.mono (rest _ _)
 have post:∀σ2 E2 w2 E' u w',qS gl (dstsOf (fP fs f z gs)) (ib (fP fs f z gs)) σ E w σ2 E2 w2→∀a',bD gl {σ2 with hp:=aD σ2.hp f.hw} E' a' w'→RV E' w' f.v u→Ext gl.md (Own σ2.hp E2) E2 w2 (Own (aD σ2.hp f.hw) E') E' w'→kA gl Q σ E w (.panic [{v:=u,recovered:=false}]) a' w':=by
  intro σ2 E2 w2 E' u w' hv a' q1 q2 q3
  have hwk2:bD gl (oI fs f z gs σ) E' a' w'∧Ext gl.md (Own (aD σ2.hp f.hw) E') E' w' (Own (oI fs f z gs σ).hp E') E' w':=by
   refine⟨⟨?_,?_,q1.hw.less ?_,?_⟩,{Ext.refl (Own (aD σ2.hp f.hw) E') E' w' with own:=?_ }⟩
   ·simp only[oI,l9];rw[q1.len];exact hv.tl
   ·intro i x hx v RE
    rcases ma hx with hx|⟨hi,hx⟩
    ·subst hx;trivial
    ·exact q1.tm i x (by show σ2.tm[i]? =some x;rw[hv.tm i hi];exact hx) v RE
   ·intro b k hk
    obtain⟨hb,hk⟩:=cp hk
    show(aD σ2.hp f.hw)[b]? =_
    rw[eL hv.hl (hv.hp b hb)]
    exact hk
   ·show RD E' w' σ.df a'.defers
    rw[←hv.df];exact q1.df
   ·rintro g ⟨b,k,hk,hgb⟩
    obtain⟨hb,hk⟩:=cp hk
    refine Or.inl ⟨b,k,?_,hgb⟩
    rw[eL hv.hl (hv.hp b hb)]
    exact hk
  exact⟨.panic f.v,oI fs f z gs σ,E',⟨u,rfl,RV.fB Sa q2⟩,hq,hwk2.1,(hv.ext.trans q3).trans hwk2.2⟩
 have noend:∀E' a' w',bD gl σe E' a' w'→False:=fun E' a' w' h=>yw (h.hw.bP z _ hze)
 cases draw with
 |false=>exact lU hlen (total _ post) hg (fun E' a' w' h _=>(noend E' a' w' h).elim)
 |
  true=>
  have dY:=dY rfl
  simp only[Bool.and_eq_true] at dY
  exact lY T dY.1 dY.2 (total _ post) hg (fun E' a' w' h _=>(noend E' a' w' h).elim)
end Go.Ax
namespace Go.Ax
theorem CG{P:Program}{w:World}{g:Nat}{a:Option Nat}{b:Nat}{c:Array Nat}{d:Nat}{o':Obj}(h:w.heap[g]? =some (.mapIter a b c d)):(setObj g o').run P w= .ok () (w.putObj g o'):=by simp[setObj,Sem.run,h,World.putObj]
theorem run_next_at{P:Program}(w:World)(ty:TypeId)(g bm since c0:Nat)(seen:Array Nat)(es:Array MapEntry)(clock:Nat)(hg:w.heap[g]? =some (.mapIter (some bm) since seen c0))(hb:w.heap[bm]? =some (.map es clock))(hold:∀x∈es.toList,x.born<since)(hsc:since≤c0):
 ((leftOf es seen).size=0∧(Instr.next (.pointer (some ⟨g,0,none⟩)) false ty).run P w= .ok (.tuple #[.bool false]) w)∨
 ∃e∈(leftOf es seen).toList,∃w1:World,(w1=w∨w1=w.drew)∧(Instr.next (.pointer (some ⟨g,0,none⟩)) false ty).run P w= .ok (.tuple #[.bool true,e.key,e.val]) (w1.putObj g (.mapIter (some bm) since (seen.push e.born) clock)):=by
 simp only[Instr.next,getObj,Sem.run_bind,Sem.run,hg,hb,Result.andThen,next_test_false seen es since c0 hold hsc,Bool.false_eq_true,if_false]
 unfold leftOf
 have hmem:∀x∈(Array.filter (fun e=> !seen.contains e.born) es).toList,x.born<since:=fun x hx=>hold x (by simp at hx ⊢;exact hx.1)
 generalize Array.filter (fun e=> !seen.contains e.born) es=L at hmem ⊢
 have e1:L.filter (fun x=>decide (x.born<since))=L:=Array.filter_eq_self.2 (fun x hx=>by simpa using hmem x (by simpa using hx))
 have e2:L.filter (fun x=>decide (x.born≥since))= #[]:=by
  rw[Array.filter_eq_empty_iff]
  intro x hx
  have:=hmem x (by simpa using hx)
  simp
  omega
 simp only[e1,e2,Array.append_empty]
 by_cases h0:L.size=0
 ·left
  have:L= #[]:=Array.eq_empty_of_size_eq_zero h0
  subst this
  refine⟨rfl,?_⟩
  simp[choose,Sem.run,Question.forced]
 ·right
  have Rw:L.isEmpty=false:=by simp[Array.isEmpty,h0]
  simp only[Rw,Bool.false_eq_true,if_false,Array.empty_append,Array.size_map]
  have hch:∃(j:Nat)(w1:World),j<L.size∧(w1=w∨w1=w.drew)∧(choose (Question.mapNext L.size)).run P w= .ok j w1:=by
   by_cases hf:L.size≤1
   ·exact⟨0,w,by omega,Or.inl rfl,by simp[choose,Sem.run,Question.forced,hf]⟩
   ·exact⟨_,w.drew,Nat.mod_lt _ (by omega),Or.inr rfl,by
     simp only[choose,Sem.run,Question.forced,decide_eq_true_eq,hf,if_false,Question.cut]
     rfl⟩
  obtain⟨j,w1,hj,hal,RN⟩:=hch
  refine⟨L[j],by simp,w1,hal,?_⟩
  have SD:w1.heap[g]? =some (.mapIter (some bm) since seen c0):=by
   rcases hal with e|e
   ·rw[e];exact hg
   ·rw[e];exact hg
  simp only[RN,Array.getElem?_map,Array.getElem?_eq_getElem hj,Option.map_some,Sem.run_bind,CG SD,Result.andThen]
  rfl
theorem vA{en:Array MapEntry}{seen:Array Nat}(hn:(en.toList.map (·.born)).Nodup){i:Nat}{e:MapEntry}(he:(fW en seen).toList[i]? =some e):(fW en (seen.push e.born)).toList=(fW en seen).toList.eraseIdx i:=by
 have key:∀(l:List MapEntry)(i:Nat)(e:MapEntry),(l.map (·.born)).Nodup→l[i]? =some e→l.filter (fun x=> !(x.born==e.born))=l.eraseIdx i:=by
  intro l
  induction l with
  |nil=>intro i e _ h;simp at h
  |
   cons x l ih=>
   intro i e hn h
   have hn':x.born∉l.map (·.born)∧(l.map (·.born)).Nodup:=List.nodup_cons.1 hn
   cases i with
   |
    zero=>
    simp at h;subst h
    simp only[List.filter_cons,beq_self_eq_true,Bool.not_true,Bool.false_eq_true,if_false,List.eraseIdx_cons_zero]
    rw[List.filter_eq_self]
    intro y hy
    have:y.born≠x.born:=fun e=>hn'.1 (e▸List.mem_map.2 ⟨y,hy,rfl⟩)
    simpa using this
   |
    succ i=>
    have h:l[i]? =some e:=by simpa using h
    have hx:x.born≠e.born:=fun e'=>hn'.1 (e'▸List.mem_map.2 ⟨e,List.mem_of_getElem? h,rfl⟩)
    have hb:(x.born==e.born)=false:=by simpa using hx
    simp only[List.filter_cons,hb,Bool.not_false,if_true,List.eraseIdx_cons_succ]
    rw[ih i e hn'.2 h]
 have hl:(fW en (seen.push e.born)).toList=(fW en seen).toList.filter (fun x=> !(x.born==e.born)):=by
  simp only[fW,Array.toList_filter,List.filter_filter]
  apply List.filter_congr
  intro x _
  simp[Bool.and_comm]
  rfl
 rw[hl]
 refine key _ i e ?_ he
 simp only[fW,Array.toList_filter]
 exact List.Nodup.sublist (List.Sublist.map _ List.filter_sublist) hn
theorem RM.O6{E:Env}{w:World}{k v:Ty}:∀{es:List MapEntry}{xs:List (k.den×v.den)},RM E w k v es xs→es.length=xs.length∧(∀(i:Nat)(e:MapEntry)(x:k.den×v.den),es[i]? =some e→xs[i]? =some x→bN E w (.val k x.1) e.key∧bN E w (.val v x.2) e.val)∧∀i,RM E w k v (es.eraseIdx i) (xs.eraseIdx i)
 |[],[],_=>⟨rfl,fun i e x h=>by simp at h,fun i=>by simp[RM]⟩
 |[],_::_,h=>h.elim
 |_::_,[],h=>h.elim
 |
  e::es,x::xs,⟨h1,h2,h3⟩=>by
  obtain⟨a,b,c⟩:=RM.O6 h3
  refine⟨by simp[a],?_,?_⟩
  ·intro i e' x' he hx
   cases i with
   |zero=>simp at he hx;subst he;subst hx;exact⟨h1,h2⟩
   |succ i=>exact b i e' x' (by simpa using he) (by simpa using hx)
  ·intro i
   cases i with
   |zero=>simpa using h3
   |succ i=>simpa using⟨h1,h2,c i⟩
noncomputable def zJ{A R:Type}(xs:List A)(K:A→List A→Option R):Option R:=
 @dite _ (∃r,∀i(h:i<xs.length),K xs[i] (xs.eraseIdx i)=some r) (Classical.propDecidable _) (fun h=>some h.choose) (fun _=>none)
theorem zK{A R:Type}{xs:List A}{K:A→List A→Option R}{r:R}(h:zJ xs K=some r)(i:Nat)(hi:i<xs.length):K xs[i] (xs.eraseIdx i)=some r:=by
 unfold zJ at h
 split at h
 ·rename_i hh
  cases h
  exact hh.choose_spec i hi
 ·cases h
theorem bV.next{P:Program}{gl:Ctx}{σ:St}{Q:dy→St→Prop}{id:Nat}{o0 o1:Oper}{s d d1 b:Nat}{kt vt:Ty}{rest:List (kt.den×vt.den)}{cur:Option (kt.den×vt.den)}
 (h0:o0.op= .next (.tmp s) false) (Sj:o0.guard=none) (hd0:o0.dst=some d) (h1:o1.op= .extract (.tmp d) 0) (SD:o1.guard=none) (hd1:o1.dst=some d1)
 (hs:σ.tm[s]? =some (.ptr b [])) (hb:σ.hp[b]? =some (some (.iG kt vt rest cur))) (hl:Nat.blt d σ.tm.length=true)
 (hq0:rest= []→Q .normal ((σ.put (some d) .bot).put (some d1) (.val .bool false)))
 (hq1:∀i(hi:i<rest.length),Q .normal ((({σ with hp:=σ.hp.set b (some (.iG kt vt (rest.eraseIdx i) (some rest[i])))}:St).put (some d) .bot).put (some d1) (.val .bool true))):
 bV P gl (.region id #[o0,o1] false) σ Q:=by
 intro E a w hg
 obtain⟨g,om,since,seen,c0,q1,q2,q3⟩:=hg.hw.bP b _ hb
 have Ru:d<a.tmps.size:=by rw[hg.len];simp[Nat.blt] at hl;omega
 have hx:a.eval (.tmp s)= .pointer (some ⟨g,0,none⟩):=by
  have hv:=dN hg (.tmp s)
  have:aQ gl σ.tm (.tmp s)= .ptr b []:=by simp[aQ,hs]
  rw[this] at hv
  obtain⟨g',R4,ev,_⟩:=RV.atom rfl hv
  rw[q1] at R4;cases R4
  simpa[Ty.off] using ev
 have w0:∀z,Region.wanted o0 z=true:=fun z=>by simp[Region.wanted,Sj]
 have w1:∀z,Region.wanted o1 z=true:=fun z=>by simp[Region.wanted,SD]
 refine wpIn_region ?_
 have hr:List.range (#[o0,o1]:Array Oper).size= [0,1]:=rfl
 rw[hr]
 have fin:∀(vs:Array Value)(x:Bool)(w':World)(σ':St),(Instr.next (.pointer (some ⟨g,0,none⟩)) false o0.type).run P w= .ok (.tuple vs) w'→vs[0]? =some (.bool x)→bD gl σ' E a w'→Ext gl.md (Own σ.hp E) E w (Own σ'.hp E) E w'→
  Q .normal ((σ'.put (some d) .bot).put (some d1) (.val .bool x))→wpOpsIn (Wd gl) 0 P #[o0,o1] (kA gl Q σ E w) [0,1] a w:=by
  intro vs x w' σ' RN hv0 R4 hext hq
  simp only[wpOpsIn,List.getElem?_toArray,List.getElem?_cons_zero,List.getElem?_cons_succ,w0,if_true]
  refine⟨fun _ _=>trivial,?_⟩
  rw[Oper.semAt_eq _ _ _ (by rw[h0];intro c hc;cases hc)]
  have r1:(execOp a.eval o0).run P w= .ok (.value (.tuple vs)) w':=by simp[execOp,h0,hx,RN]
  rw[r1,Oper.uponIn_value,hd0]
  simp only[w1,if_true]
  refine⟨fun _ _=>trivial,?_⟩
  rw[Oper.semAt_eq _ _ _ (by rw[h1];intro c hc;cases hc)]
  have Rz:(a.put (some d) (.tuple vs)).eval (.tmp d)= .tuple vs:=by simp[Act.eval,Act.put,Ru]
  have r2:(execOp (a.put (some d) (.tuple vs)).eval o1).run P w'= .ok (.value (.bool x)) w':=by
   simp[execOp,h1,Rz,Instr.extract,hv0]
  rw[r2,Oper.uponIn_value,hd1]
  have ga:=R4.put (some d) (x:=.bot) (v:=.tuple vs) trivial
  have gb:=ga.put (some d1) (x:=.val .bool x) (v:=.bool x) RV.bool
  exact⟨.normal,_,E,trivial,hq,gb,hext⟩
 have nextNil:om=none→rest= []→wpOpsIn (Wd gl) 0 P #[o0,o1] (kA gl Q σ E w) [0,1] a w:=by
  intro e1 e2
  subst e1
  refine fin #[.bool false] false w σ ?_ rfl hg (Ext.refl _ _ _) (hq0 e2)
  simp only[Instr.next,getObj,Sem.run_bind,Sem.run,q2,Result.andThen]
  rfl
 rcases q3 with⟨e1,e2,_⟩|⟨bm,en,e1,r2,r3,e4,r5,r6,r7,r8⟩
 ·exact nextNil e1 e2
 ·subst e1;subst e4
  obtain⟨m1,m2,m3⟩:=RM.O6 r7
  rcases run_next_at (P:=P) w o0.type g bm since since seen en since q2 r3 r5 (Nat.le_refl _) with⟨z,RN⟩|⟨e,he,w1',hw1,RN⟩
  ·have hr0:rest= []:=by
    rw[←List.length_eq_zero_iff,←m1]
    simpa[leftOf,fW] using z
   exact fin #[.bool false] false w σ RN rfl hg (Ext.refl _ _ _) (hq0 hr0)
  ·have he:e∈(fW en seen).toList:=he
   obtain⟨i,hi,hie⟩:=List.mem_iff_getElem.1 he
   have hie':(fW en seen).toList[i]? =some e:=by rw[List.getElem?_eq_getElem hi,hie]
   have hir:i<rest.length:=by rw[←m1];exact hi
   have hrm:=vA r6 hie'
   have hen:e∈en.toList:=by
    simp only[fW,Array.toList_filter,List.mem_filter] at he
    exact he.1
   obtain⟨k1,k2⟩:=m2 i e rest[i] hie' (List.getElem?_eq_getElem hir)
   have hh:w1'.heap=w.heap:=by rcases hw1 with e|e<;>rw[e]<;>rfl
   have hlg:g<w1'.heap.size:=by rw[hh];exact(Array.getElem?_eq_some_iff.1 q2).1
   have Rw:bm≠g:=fun e=>by subst e;rw[q2] at r3;cases r3
   have hoth:∀j,j≠g→(w1'.putObj g (.mapIter (some bm) since (seen.push e.born) since)).heap[j]? =w.heap[j]? :=fun j hj=>by
    rw[World.putObj_heap_other (fun e=>hj e),hh]
   have kp:aV E w E (w1'.putObj g (.mapIter (some bm) since (seen.push e.born) since)):=⟨fun j hj=>hoth j (fun e=>hg.hw.fT b _ g hb q1 (e▸hj)),fun _ h=>h⟩
   have Sf:RB E (w1'.putObj g (.mapIter (some bm) since (seen.push e.born) since)) b (.iG kt vt (rest.eraseIdx i) (some rest[i])):=by
    refine⟨g,some bm,since,seen.push e.born,since,q1,World.putObj_heap_same hlg,Or.inr ⟨bm,en,rfl,r2,by rw[hoth bm Rw];exact r3,rfl,r5,r6,?_,?_⟩⟩
    ·rw[hrm];exact RM.mono kp (m3 i)
    ·intro x hx
     cases hx
     exact⟨e,seen,rfl,hen,bN.mono kp (fun _ hb=>by cases hb) k1,bN.mono kp (fun _ hb=>by cases hb) k2⟩
   have Sp:=hg.hw.write (w':=w1'.putObj g (.mapIter (some bm) since (seen.push e.born) since)) hb (by rw[show(w1'.putObj g _).heap.size=w1'.heap.size from by simp[World.putObj],hh]) (fun j hj=>hoth j (fun e=>hj (by rw[e];exact q1))) Sf
   refine fin #[.bool true,e.key,e.val] true _ {σ with hp:=σ.hp.set b (some (.iG kt vt (rest.eraseIdx i) (some rest[i])))} RN rfl (hg.carry kp (fun _ _=>⟨rfl,rfl,rfl⟩) Sp) ⟨?_,?_,?_,?_,?_,fun _ h=>h,fun _ h=>Or.inl h,fun i hi=>Or.inl (Own.set hb hi),fun _ _=>⟨rfl,rfl,rfl⟩⟩ (hq1 i hir)
   ·rcases hw1 with e|e<;>rw[e]<;>rfl
   ·rcases hw1 with e|e
    ·rw[e];exact Tp.r rfl rfl
    ·rw[e];exact Tp.s rfl rfl
   ·rcases hw1 with e|e<;>rw[e]<;>rfl
   ·rw[show(w1'.putObj g _).heap.size=w1'.heap.size from by simp[World.putObj],hh];exact Nat.le_refl _
   ·intro j hj ho
    exact hoth j (fun e=>ho ⟨b,_,hb,by rw[e];exact Or.inl q1⟩)
end Go.Ax
namespace Go.Ax
theorem bV.EU{P:Program}{gl:Ctx}{σ:St}{Q:dy→St→Prop}{id:Nat}{o1 o2:Oper}{y:Code}(x:Operand)(d1 d2:Nat)(t t2 e:TypeId)(bs:Nat)(u:Ty)(xs:List u.den)
 (h1:o1.op= .move x) (hd1:o1.dst=some d1) (SD:o1.guard=none) (h2:o2.op= .binOp .eql t (.tmp d1) (.const (.slice none 0 0)) t2) (hd2:o2.dst=some d2) (hg2:o2.guard=none)
 (hx:aQ gl σ.tm x= .val (.slice bs u) xs) (ht:P.underlying t=some (.slice e)) (hl:Nat.blt d1 σ.tm.length=true)
 (h:∀b:Bool,(b=true→xs= [])→bV P gl y ((σ.put (some d1) (.val (.slice bs u) xs)).put (some d2) (.val .bool b)) Q):bV P gl (.seq (.region id #[o1,o2] false) y) σ Q:=by
 intro E a w hg
 have hv:=dN hg x
 rw[hx] at hv
 obtain⟨ad,cap,hve,_,_,_,hor⟩:=RV.atom rfl hv
 simp at hve
 have Ru:d1<a.tmps.size:=by rw[hg.len];simp[Nat.blt] at hl;omega
 refine wpIn_seq (wpIn_region ?_)
 have hr:List.range (#[o1,o2]:Array Oper).size= [0,1]:=rfl
 rw[hr]
 have w1:∀z,Region.wanted o1 z=true:=fun z=>by simp[Region.wanted,SD]
 have w2:∀z,Region.wanted o2 z=true:=fun z=>by simp[Region.wanted,hg2]
 have ga:=hg.put (some d1) hv
 have hb:ad.isNone=true→xs= []:=by
  intro hn
  rcases hor with h0|⟨b,o,cs,e1,_⟩
  ·exact h0
  ·subst e1;cases hn
 have gb:=ga.put (some d2) (x:=.val .bool ad.isNone) (v:=.bool ad.isNone) (RV.cJ (Or.inr ⟨rfl,rfl⟩))
 have hfin:=h ad.isNone hb E _ w gb
 simp only[wpOpsIn,List.getElem?_toArray,List.getElem?_cons_zero,List.getElem?_cons_succ,w1,if_true]
 refine⟨fun _ _=>trivial,?_⟩
 rw[Oper.semAt_eq _ _ _ (by rw[h1];intro c hc;cases hc)]
 have r1:(execOp a.eval o1).run P w= .ok (.value (a.eval x)) w:=by simp[execOp,h1]
 rw[r1,Oper.uponIn_value,hd1]
 simp only[w2,if_true]
 refine⟨fun _ _=>trivial,?_⟩
 rw[Oper.semAt_eq _ _ _ (by rw[h2];intro c hc;cases hc)]
 have Rz:(a.put (some d1) (a.eval x)).eval (.tmp d1)= .slice ad xs.length cap:=by
  have:(a.put (some d1) (a.eval x)).eval (.tmp d1)=a.eval x:=by
   generalize a.eval x=v
   simp[Act.eval,Act.put,Ru]
  rw[this,hve]
 have r2:(execOp (a.put (some d1) (a.eval x)).eval o2).run P w= .ok (.value (.bool ad.isNone)) w:=by
  have hq:=run_equal_slice_nil (P:=P) w t e ad xs.length cap ht
  have hc:(a.put (some d1) (a.eval x)).eval (.const (.slice none 0 0))= .slice none 0 0:=rfl
  simp[execOp,h2,Rz,hc,eqGuard,binOp,hq]
 rw[r2,Oper.uponIn_value,hd2]
 simp only[Exit.then]
 refine wpIn_mono hfin ?_
 rintro ex a' w' ⟨x',σ',E',k1,k2,k3,k4⟩
 exact⟨x',σ',E',k1,k2,k3,k4⟩
end Go.Ax
namespace Go.Ax
theorem HW.frame{gl:Ctx}{E:Env}{w:World}{hp:List (Option aC)}(h:HW gl E w hp){g:Nat}{o:Obj}(hS:¬E.S g)(hO:¬Own hp E g):aV E w E (w.putObj g o)∧HW gl E (w.putObj g o) hp:=by
 have kp:aV E w E (w.putObj g o):=⟨fun b hb=>World.putObj_heap_other (fun e=>hS (e▸hb)),fun _ h=>h⟩
 exact⟨kp,fun b k hb=>RB.mono kp (fun _ _=>⟨rfl,rfl,rfl⟩) (fun i hi=>World.putObj_heap_other (fun e=>hO ⟨b,k,hb,by rw[←e];exact hi⟩)) (fun _ _ h=>h) (h.bP b k hb),h.cH,h.cg,fun i hi=>by simpa using h.slt i hi,h.dF kp,fun b k g hb hg=>by simpa using h.lS b k g hb hg⟩
theorem bD.frame{gl:Ctx}{σ:St}{E:Env}{a:Act}{w:World}(h:bD gl σ E a w){g:Nat}{o:Obj}(hS:¬E.S g)(hO:¬Own σ.hp E g):bD gl σ E a (w.putObj g o):=by
 obtain⟨kp,hw⟩:=h.hw.frame (o:=o) hS hO
 exact h.carry kp (fun _ _=>⟨rfl,rfl,rfl⟩) hw
def Env.iR(E:Env):Env:={E with P:=fun _ _=>False}
theorem Env.mS{E:Env}{b g:Nat}(h:E.iR.has b g):E.has b g:=h.elim Or.inl False.elim
theorem Own.iR{hp:List (Option aC)}{E:Env}{g:Nat}(h:Own hp E.iR g):Own hp E g:=by
 obtain⟨b,k,h1,h2⟩:=h
 exact⟨b,k,h1,Env.mS h2⟩
theorem HW.iR{gl:Ctx}{E:Env}{w:World}{hp:List (Option aC)}(hn:∀(b:Nat)(k:aC),hp[b]? =some (some k)→k.BF=false)(h:HW gl E w hp):HW gl E.iR w hp:=
 have kp:aV E w E.iR w:=⟨fun _ _=>rfl,fun _ hg=>hg⟩
 ⟨fun b k hb=>RB.mono kp (fun _ _=>⟨rfl,rfl,rfl⟩) (fun _ _=>rfl) (fun hp=>by rw[hn b k hb] at hp;cases hp) (h.bP b k hb),fun b b' k k' g h1 h2 h3 h4=>h.cH b b' k k' g h1 h2 (Env.mS h3) (Env.mS h4),fun b k g h1 h2=>h.cg b k g h1 (Env.mS h2),h.slt,h.gl,fun _ _ _ _ h=>h.elim⟩
theorem gu.iR{E:Env}{w:World}:∀{xs:List AV}{vs:List Value},gu E w xs vs→gu E.iR w xs vs
 |[],[],_=>trivial
 |[],_::_,h=>h.elim
 |_::_,[],h=>h.elim
 |_::_,_::_,⟨h1,h2⟩=>⟨RV.mono (E:=E) (E':=E.iR) (w:=w) ⟨fun _ _=>rfl,fun _ hg=>hg⟩ (fun _ _=>⟨rfl,rfl,rfl⟩) h1,gu.iR h2⟩
theorem mb.iR{P:Program}{gl:Ctx}{f:FuncId}{args:List AV}{H:List (Option aC)}{r:mU}{H':List (Option aC)}
 (hn:∀(b:Nat)(k:aC),H[b]? =some (some k)→k.BF=false) (h:∀E w vs,(∀b g,¬E.P b g)→gu E w args vs→HW gl E w H→Calls P f vs.toArray w (fun e w'=>∃E',oM E' w' r e∧HW gl E' w' H'∧Ext gl.md (Own H E) E w (Own H' E') E' w')):mb P gl f args H r H':=by
 intro E w vs hv hw
 refine Calls.mono (h E.iR w vs (fun _ _ h=>h) hv.iR (hw.iR hn)) ?_
 rintro e w' ⟨E',h1,h2,h3⟩
 exact⟨E',h1,h2,⟨h3.os,h3.tape,h3.output,h3.size,fun g hg ho=>h3.kept g hg (fun x=>ho x.iR),h3.sle,fun g hg=>(h3.iy g hg).imp id (fun x=>x.imp Own.iR id),fun g hg=>(h3.own g hg).imp Own.iR id,h3.xX⟩⟩
theorem Ext.put{gl:Ctx}{O:Nat→Prop}{E:Env}{w:World}{g:Nat}{o:Obj}(h:O g):Ext gl.md O E w O E (w.putObj g o):=
 ⟨rfl,Tp.r rfl rfl,rfl,by simp,fun i _ hi=>World.putObj_heap_other (fun e=>hi (e▸h)),fun _ h=>h,fun _ h=>Or.inl h,fun _ h=>Or.inl h,fun _ _=>⟨rfl,rfl,rfl⟩⟩
theorem iq{hp:List (Option aC)}{b c:Nat}{k:aC}(h:(hp.set b none)[c]? =some (some k)):c≠b∧hp[c]? =some (some k):=by
 rw[List.getElem?_set] at h
 split at h
 ·split at h<;>cases h
 ·rename_i Rw;exact⟨fun e=>Rw e.symm,h⟩
theorem HW.drop{gl:Ctx}{E:Env}{w:World}{hp:List (Option aC)}(h:HW gl E w hp)(b:Nat):HW gl E w (hp.set b none):=h.less (fun _ _ hc=>(iq hc).2)
theorem Own.drop{E:Env}{hp:List (Option aC)}{b g:Nat}(h:Own (hp.set b none) E g):Own hp E g:=by
 obtain⟨c,k,h1,h2⟩:=h
 exact⟨c,k,(iq h1).2,h2⟩
theorem bD.shut{gl:Ctx}{σ:St}{E:Env}{a:Act}{w:World}(h:bD gl σ E a w){b g:Nat}{k:aC}(hb:σ.hp[b]? =some (some k))(hg:E.g b=some g)(o:Obj):
 bD gl {σ with hp:=σ.hp.set b none} E a (w.putObj g o)∧Ext gl.md (Own σ.hp E) E w (Own (σ.hp.set b none) E) E (w.putObj g o):=by
 have hS:¬E.S g:=h.hw.fT b k g hb hg
 have hO:¬Own (σ.hp.set b none) E g:=by
  rintro⟨c,k',hc,hgc⟩
  obtain⟨h1,h2⟩:=iq hc
  exact h1 (h.hw.cH c b k' k g h2 hb hgc (Or.inl hg))
 have h1:bD gl {σ with hp:=σ.hp.set b none} E a w:=⟨h.len,h.tm,h.hw.drop b,h.df⟩
 refine⟨h1.frame hS hO,?_⟩
 have:=Ext.put (gl:=gl) (O:=Own σ.hp E) (E:=E) (w:=w) (o:=o) ⟨b,k,hb,Or.inl hg⟩
 exact{this with own:=fun i hi=>Or.inl (Own.drop hi)}
def marks:List AV→List (Option aC)→Option (List (Option aC))
 |[],hp=>some hp
 |
  .mp b::l,hp=>match cW hp b with
  |some .nR=>marks l (hp.set b none)
  |_=>none
 |_,_=>none
theorem yy{P:Program}{gl:Ctx}{fn:Func}{R:Ending→World→Prop}{tmps:Array Value}:∀(df:List AV){tm:List AV}{hp Sl:List (Option aC)}{E:Env}{ds:List Deferred}{w:World},
 bD gl ⟨tm,hp,df⟩ E ⟨tmps,ds⟩ w→marks df hp=some Sl→(∀w',bD gl ⟨tm,Sl,[]⟩ E ⟨tmps,[]⟩ w'→Ext gl.md (Own hp E) E w (Own Sl E) E w'→LeavesIn (Wd gl) 0 P fn tmps R [] .returning w')→LeavesInM (Wd gl) 0 P fn tmps R ds .returning w
 |
  [],tm,hp,Sl,E,ds,w,h,hm,hk=>by
  cases hm
  have:ds= []:=by
   have:=h.df
   cases ds with
   |nil=>rfl
   |cons _ _=>exact this.elim
  subst this
  exact hk w h (Ext.refl _ _ _)
 |
  x::l,tm,hp,Sl,E,ds,w,h,hm,hk=>by
  cases x with
  |
   mp b=>
   simp only[marks] at hm
   split at hm
   ·rename_i hb
    have RJ:=bI hp b _ hb
    cases ds with
    |nil=>exact h.df.elim
    |
     cons d ds=>
     obtain⟨⟨g,hg,hd⟩,hrest⟩:=h.df
     obtain⟨g',R4,hh⟩:=h.hw.bP b _ RJ
     rw[hg] at R4;cases R4
     have h0:bD gl ⟨tm,hp,l⟩ E ⟨tmps,ds⟩ w:=⟨h.len,h.tm,h.hw,hrest⟩
     obtain⟨g1,x1⟩:=h0.shut RJ hg (.deferred none)
     refine⟨by simp,Or.inl ⟨g,_,by rw[hd],run_takeDeferred hh,?_⟩⟩
     exact yy l g1 hm (fun w' k1 k2=>hk w' k1 (x1.trans k2))
   ·cases hm
  |_=>simp[marks] at hm
end Go.Ax
namespace Go.Ax
def Ctx.wB(gl:Ctx)(B:(Nat→Prop)→World→Prop)(hB:∀{S S':Nat→Prop}{w w':World},(∀b,S b→w'.heap[b]? =w.heap[b]?)→(∀b,S b→S' b)→B S w→B S' w'):Ctx:=⟨gl.gl,B,hB,none,gl.md⟩
def Ctx.mn(gl:Ctx)(l:Nat):Ctx:=⟨gl.gl,fun _ _=>True,fun _ _ _=>trivial,some l,gl.md⟩
def jmp(jl:List Code):Nat→Option Code
 |0=>none
 |j+1=>jl[j]?
def dp(fn:FuncId)(tmps:Array Value)(ps:Array Tmp)(assign body:Code)(D:Nat)(jl:List Code)(j:Nat):Loop:=
 {state:=if Nat.beq j 0 then .ready else .done,pending:=jmp jl j,fn,tmps,params:=ps,assign,body,defers:=D}
def AV.jw(m:List (Nat×Nat)):AV→Option AV
 | .ptr b p=>(gv m b).map fun c=>.ptr c p
 | .fp b p lo len=>(gv m b).map fun c=>.fp c p lo len
 |
  .func fn fs cs=>match fs.jw m,cs.jw m with
  |some f,some c=>if f.atoms&&c.atoms then some (.func fn f c) else none
  |_,_=>none
 |
  .cons a b=>match a.jw m,b.jw m with
  |some x,some y=>some (.cons x y)
  |_,_=>none
 | .val t x=>some (.val t x)
 | .aZ t x=>some (.aZ t x)
 | .aS=>some .aS
 | .dW=>some .dW
 | .cO=>some .cO
 | .dt=>some .dt
 | .ck f t x=>some (.ck f t x)
 | .eI=>some .eI
 | .nil=>some .nil
 |_=>none
structure NU(m:List (Nat×Nat))(E:Env)(w:World)(E':Env)(w':World):Prop where
 at':∀b c,gv m b=some c→E'.g c=E.g b∧E'.bt c=E.bt b
 k:aV E w E' w'
theorem AV.yz{m:List (Nat×Nat)}{x y:AV}(h:x.jw m=some y):y.isAgg=x.isAgg:=by
 cases x with
 |ptr b p=>simp only[AV.jw,Option.map_eq_some_iff] at h;obtain⟨c,_,rfl⟩:=h;rfl
 |fp b p lo len=>simp only[AV.jw,Option.map_eq_some_iff] at h;obtain⟨c,_,rfl⟩:=h;rfl
 |
  func fn fs cs=>
  simp only[AV.jw] at h
  split at h
  ·split at h
   ·cases h;rfl
   ·cases h
  ·cases h
 |
  cons a b=>
  simp only[AV.jw] at h
  split at h
  ·cases h;rfl
  ·cases h
 |_=>simp[AV.jw] at h<;>subst h<;>rfl
theorem RC.jw{m:List (Nat×Nat)}{E E':Env}{w w':World}(r:NU m E w E' w'):∀{x y:AV}{vs:List Value},x.jw m=some y→RC E w x vs→RC E' w' y vs:=by
 intro x
 induction x with
 |
  ptr b p=>
  intro y vs h hr
  simp only[AV.jw,Option.map_eq_some_iff] at h
  obtain⟨c,hc,rfl⟩:=h
  obtain⟨e1,e2⟩:=r.at' b c hc
  obtain⟨g,h1,h2,h3⟩:=hr
  exact⟨g,by rw[e1];exact h1,by rw[e2];exact h2,by rw[e2];exact h3⟩
 |
  fp b p lo len=>
  intro y vs h hr
  simp only[AV.jw,Option.map_eq_some_iff] at h
  obtain⟨c,hc,rfl⟩:=h
  obtain⟨e1,e2⟩:=r.at' b c hc
  obtain⟨n,t,h1,h2,h3,a,cap,h4,h5,h6⟩:=hr
  refine⟨n,t,by rw[e2];exact h1,by rw[e2];exact h2,h3,a,cap,h4,h5,h6.imp id ?_⟩
  rintro⟨g,k1,k2⟩
  exact⟨g,by rw[e1];exact k1,by rw[e2];exact k2⟩
 |
  func fn fs cs RI RG=>
  intro y vs h hr
  simp only[AV.jw] at h
  split at h
  ·rename_i f c h1 h2
   split at h
   ·rename_i ha
    cases h
    simp only[Bool.and_eq_true] at ha
    obtain⟨f',c',e,r1,r2,_,_⟩:=hr
    exact⟨f',c',e,RI h1 r1,RG h2 r2,ha.1,ha.2⟩
   ·cases h
  ·cases h
 |
  cons a b RI RG=>
  intro y vs h hr
  simp only[AV.jw] at h
  split at h
  ·rename_i x y h1 h2
   cases h
   obtain⟨v1,v2,e,r1,r2⟩:=hr
   exact⟨v1,v2,e,RI h1 r1,RG h2 r2⟩
  ·cases h
 |val t x=>intro y vs h hr;simp only[AV.jw,Option.some.injEq] at h;subst h;exact RC.mono (a:=.val t x) r.k (fun _ hb=>by cases hb) hr
 |aZ t x=>intro y vs h hr;simp only[AV.jw,Option.some.injEq] at h;subst h;exact RC.mono (a:=.aZ t x) r.k (fun _ hb=>by cases hb) hr
 |aS=>intro y vs h hr;simp only[AV.jw,Option.some.injEq] at h;subst h;exact hr
 |dW=>intro y vs h hr;simp only[AV.jw,Option.some.injEq] at h;subst h;exact hr
 |cO=>intro y vs h hr;simp only[AV.jw,Option.some.injEq] at h;subst h;exact hr
 |dt=>intro y vs h hr;simp only[AV.jw,Option.some.injEq] at h;subst h;exact hr
 |ck f t x=>intro y vs h hr;simp only[AV.jw,Option.some.injEq] at h;subst h;obtain⟨ha,cs,h1,h2⟩:=hr;exact⟨ha,cs,h1,Rel.mono r.k.w r.k.S h2⟩
 |eI=>intro y vs h hr;simp only[AV.jw,Option.some.injEq] at h;subst h;exact hr
 |nil=>intro y vs h hr;simp only[AV.jw,Option.some.injEq] at h;subst h;exact hr
 |_=>intro y vs h hr;simp[AV.jw] at h
theorem RV.jw{m:List (Nat×Nat)}{E E':Env}{w w':World}(r:NU m E w E' w'){x y:AV}{v:Value}(h:x.jw m=some y)(hr:RV E w x v):RV E' w' y v:=by
 have hp:x.plain=true:=by cases x<;>simp[AV.jw] at h<;>rfl
 have h0:=RV.fB hp hr
 refine RV.cJ ?_
 rcases h0 with⟨h1,cs,e,h2⟩|⟨h1,h2⟩
 ·exact Or.inl ⟨by rw[AV.yz h];exact h1,cs,e,RC.jw r h h2⟩
 ·exact Or.inr ⟨by rw[AV.yz h];exact h1,RC.jw r h h2⟩
def zP(m:List (Nat×Nat)):List AV→List AV
 |[]=>[]
 |x::l=>(match x.jw m with|some y=>y|none=>.bot)::zP m l
theorem yA{m:List (Nat×Nat)}:∀{l:List AV},(zP m l).length=l.length
 |[]=>rfl
 |_::l=>by simp[zP,yA (l:=l)]
theorem yB{m:List (Nat×Nat)}:∀{l:List AV}{i:Nat}{y:AV},(zP m l)[i]? =some y→y= .bot∨∃x,l[i]? =some x∧x.jw m=some y
 |[],i,y,h=>by simp[zP] at h
 |
  x::l,0,y,h=>by
  simp only[zP,List.getElem?_cons_zero,Option.some.injEq] at h
  split at h
  ·rename_i z hz;subst h;exact Or.inr ⟨x,rfl,hz⟩
  ·exact Or.inl h.symm
 |
  x::l,i+1,y,h=>by
  simp only[zP,List.getElem?_cons_succ] at h
  simpa using yB h
def jL:List (Nat×AV)→List AV→List AV
 |[],l=>l
 |(t,x)::r,l=>jL r (l.set t x)
theorem tc{E:Env}{w:World}:∀{ps:List Nat}{args:List AV}{vs:List Value}{tm:List AV}{tmps:Array Value},gu E w args vs→tmps.size=tm.length→(∀(i:Nat)(x:AV),tm[i]? =some x→∀v,tmps[i]? =some v→RV E w x v)→
 ((ps.zip vs).foldl (fun t(p:Nat×Value)=>t.setIfInBounds p.1 p.2) tmps).size=(jL (ps.zip args) tm).length∧
 (∀(i:Nat)(x:AV),(jL (ps.zip args) tm)[i]? =some x→∀v,((ps.zip vs).foldl (fun t(p:Nat×Value)=>t.setIfInBounds p.1 p.2) tmps)[i]? =some v→RV E w x v)
 |[],args,vs,tm,tmps,_,hs,ht=>by simp[jL];exact⟨hs,ht⟩
 |p::ps,[],[],tm,tmps,_,hs,ht=>by simp[jL];exact⟨hs,ht⟩
 |p::ps,[],_::_,tm,tmps,h,hs,ht=>h.elim
 |p::ps,_::_,[],tm,tmps,h,hs,ht=>h.elim
 |
  p::ps,a::args,v::vs,tm,tmps,⟨h1,h2⟩,hs,ht=>by
  simp only[List.zip_cons_cons,List.foldl_cons,jL]
  refine tc h2 (by simp[hs]) ?_
  intro i x hx u hu
  rw[List.getElem?_set] at hx
  rw[Array.getElem?_setIfInBounds] at hu
  split at hx
  ·rename_i e
   rw[if_pos e] at hu
   split at hx
   ·cases hx
    split at hu
    ·cases hu;exact h1
    ·cases hu
   ·cases hx
  ·rename_i e
   rw[if_neg e] at hu
   exact ht i x hx u hu
def iH(i:Nat):List (Nat×Ty)→Bool
 |[]=>false
 |(j,_)::l=>Nat.beq i j||iH i l
def jd(gs:Nat→Nat)(ti:List (Nat×Ty))(i:Nat):aC→aC
 | .var t v=>if iH i ti then .tv (gs i) t v else .var t v
 |k=>k
def tie(gs:Nat→Nat)(ti:List (Nat×Ty)):Nat→List (Option aC)→List (Option aC)
 |_,[]=>[]
 |s,none::l=>none::tie gs ti (s+1) l
 |s,some k::l=>some (jd gs ti s k)::tie gs ti (s+1) l
theorem ir{gs:Nat→Nat}{ti:List (Nat×Ty)}:∀{l:List (Option aC)}{s:Nat},(tie gs ti s l).length=l.length
 |[],_=>rfl
 |none::l,s=>by simp[tie,ir (l:=l)]
 |some _::l,s=>by simp[tie,ir (l:=l)]
theorem eS{gs:Nat→Nat}{ti:List (Nat×Ty)}:∀{l:List (Option aC)}{s i:Nat}{k:aC},(tie gs ti s l)[i]? =some (some k)→∃k0,l[i]? =some (some k0)∧k=jd gs ti (s+i) k0
 |[],s,i,k,h=>by simp[tie] at h
 |none::l,s,0,k,h=>by simp[tie] at h
 |some x::l,s,0,k,h=>by simp[tie] at h;exact⟨x,rfl,by rw[←h];rfl⟩
 |
  none::l,s,i+1,k,h=>by
  obtain⟨k0,h1,h2⟩:=eS (l:=l) (by simpa[tie] using h)
  exact⟨k0,by simpa using h1,by rw[h2];congr 1;omega⟩
 |
  some x::l,s,i+1,k,h=>by
  obtain⟨k0,h1,h2⟩:=eS (l:=l) (by simpa[tie] using h)
  exact⟨k0,by simpa using h1,by rw[h2];congr 1;omega⟩
theorem rq{gs:Nat→Nat}{ti:List (Nat×Ty)}:∀{l:List (Option aC)}{s i:Nat}{k:aC},l[i]? =some (some k)→(tie gs ti s l)[i]? =some (some (jd gs ti (s+i) k))
 |[],s,i,k,h=>by simp at h
 |none::l,s,0,k,h=>by simp at h
 |some x::l,s,0,k,h=>by simp at h;subst h;rfl
 |
  none::l,s,i+1,k,h=>by
  have:=rq (gs:=gs) (ti:=ti) (s:=s+1) (l:=l) (i:=i) (k:=k) (by simpa using h)
  rw[show s+(i+1)=s+1+i from by omega];simpa[tie] using this
 |
  some x::l,s,i+1,k,h=>by
  have:=rq (gs:=gs) (ti:=ti) (s:=s+1) (l:=l) (i:=i) (k:=k) (by simpa using h)
  rw[show s+(i+1)=s+1+i from by omega];simpa[tie] using this
theorem RB.Jo{gs:Nat→Nat}{ti:List (Nat×Ty)}{E:Env}{w:World}{i:Nat}{k:aC}(h:RB E w i (jd gs ti i k)):RB E w i k:=by
 cases k with
 |
  var t v=>
  simp only[jd] at h
  split at h
  ·obtain⟨h0,h1,h2,c,e,h4,h5⟩:=h;exact⟨h1,h2,_,c,e,h0,h4,h5⟩
  ·exact h
 |_=>exact h
theorem RB.tie{gs:Nat→Nat}{ti:List (Nat×Ty)}{E:Env}{w:World}{i:Nat}{k:aC}(h:RB E w i k)(hg:iH i ti=true→E.g i=some (gs i)):RB E w i (jd gs ti i k):=by
 cases k with
 |
  var t v=>
  simp only[jd]
  split
  ·rename_i hh
   obtain⟨h1,h2,g,c,e,h3,h4,h5⟩:=h
   have:=hg hh
   rw[this] at h3;cases h3
   exact⟨this,h1,h2,c,e,h4,h5⟩
  ·exact h
 |_=>exact h
def kY(hp:List (Option aC)):List (Nat×Ty)→Bool
 |[]=>true
 |(i,t)::l=>(match hp[i]? with|some (some (.var t' _))=>Ty.same t' t|_=>false)&&Nat.blt i 16&&kY hp l
theorem oK{hp:List (Option aC)}{i:Nat}:∀{ti:List (Nat×Ty)},kY hp ti=true→iH i ti=true→i<16∧∃t v,hp[i]? =some (some (.var t v))∧(i,t)∈ti
 |[],_,h=>by cases h
 |
  (j,t)::l,h,hi=>by
  simp only[kY,Bool.and_eq_true] at h
  simp only[iH,Bool.or_eq_true] at hi
  rcases hi with hi|hi
  ·have e:=Nat.eq_of_beq_eq_true hi;subst e
   refine⟨by have:=h.1.2;simp[Nat.blt] at this;omega,?_⟩
   have h1:=h.1.1
   split at h1
   ·rename_i t' v hv
    have e:=Ty.aA h1;subst e
    exact⟨_,v,hv,List.mem_cons_self ..⟩
   ·cases h1
  ·obtain⟨h1,t',v,h2,h3⟩:=oK h.2 hi
   exact⟨h1,t',v,h2,List.mem_cons_of_mem _ h3⟩
def Jp(P:Program)(gl:Ctx)(y:Code)(Q:dy→St→Prop):dy→St→Prop
 | .normal,σ=>bV P gl y σ Q
 |_,_=>False
def Jq(gl:Ctx)(jl:List Code)(j:Nat)(H:List (Option aC)):dy→St→Prop
 | .normal,σ=>j=0∧∃σ' m,Wk gl σ σ'∧prune σ'.hp m=H
 | .ret,σ=>(j≠0∧jmp jl j=some .ret)∧∃σ' m,Wk gl σ σ'∧prune σ'.hp m=H
 | .exit i,σ=>(j≠0∧jmp jl j=some (.exit i))∧∃σ' m,Wk gl σ σ'∧prune σ'.hp m=H
 |_,_=>False
theorem HW.ctx{C C':Ctx}{E:Env}{w:World}{hp:List (Option aC)}(h:HW C E w hp)(hg:C'.gl=C.gl)(hb:C'.B E.S w):HW C' E w hp:=
 ⟨h.bP,h.cH,h.cg,h.slt,⟨by rw[hg];exact h.gl.1,hb⟩,h.lS⟩
theorem Ext.add{gl:Ctx}{O O':Nat→Prop}{E E':Env}{w w':World}(h:Ext gl.md O E w O' E' w')(l:Nat):Ext gl.md (fun g=>O g∨g=l) E w (fun g=>O' g∨g=l) E' w' where
 os:=h.os
 tape:=h.tape
 output:=h.output
 size:=h.size
 kept:=fun g hg ho=>h.kept g hg (fun x=>ho (Or.inl x))
 sle:=h.sle
 iy:=fun g hg=>(h.iy g hg).imp id (fun x=>x.imp Or.inl id)
 own:=fun g hg=>by
  rcases hg with hg|hg
  ·exact(h.own g hg).imp Or.inl id
  ·exact Or.inl (Or.inr hg)
 xX:=h.xX
theorem Fy.EV{P:Program}{gl:Ctx}{σ:St}{E:Env}{a:Act}{w:World}(hg:bD gl σ E a w){B:(Nat→Prop)→World→Prop}{hB:∀{S S':Nat→Prop}{w w':World},(∀b,S b→w'.heap[b]? =w.heap[b]?)→(∀b,S b→S' b)→B S w→B S' w'}
 (hBu:∀S' w',B S' w'→(∀b,E.S b→S' b)∧(∀b,E.S b→w'.heap[b]? =w.heap[b]?)) {l D k0:Nat} {fn:FuncId} {ps:Array Tmp} {assign body:Code} {gs:Nat→Nat} {ti:List (Nat×Ty)} {m:List (Nat×Nat)} {jl:List Code}
 (hti:∀b i,gv m b=some i→iH i ti=true∧E.g b=some (gs i)∧∀t,(i,t)∈ti→E.bt b=t)
 {args:List AV} {H H':List (Option aC)} {j:Nat} (hps:ps.size=args.length) (hk:Nat.blt k0 16=true) (hkt:iH k0 ti=false) (h0:H[k0]? =some none) (h0':H'[k0]? =some none) (ht:kY H ti=true) (_ht':kY H' ti=true)
 (RN:bV P (gl.mn l) assign ⟨jL (ps.toList.zip args) (zP m σ.tm),H,[]⟩ (Jp P (gl.mn l) body (Jq (gl.mn l) jl j H'))):
 Fy P (gl.wB B hB) l args ((tie gs ti 0 H).set k0 (some (.lp ⟨l,gs,dp fn a.tmps ps assign body D jl⟩ 0))) (.ret (.val .bool (Nat.beq j 0))) ((tie gs ti 0 H').set k0 (some (.lp ⟨l,gs,dp fn a.tmps ps assign body D jl⟩ j))):=by
 intro E1 w1 vs hv hW
 have hk16:k0<16:=by simp[Nat.blt] at hk;omega
 have lenH:k0<(tie gs ti 0 H).length:=by rw[ir];exact(List.getElem?_eq_some_iff.1 h0).1
 have lenH':k0<(tie gs ti 0 H').length:=by rw[ir];exact(List.getElem?_eq_some_iff.1 h0').1
 have hlp:((tie gs ti 0 H).set k0 (some (.lp ⟨l,gs,dp fn a.tmps ps assign body D jl⟩ 0)))[k0]? =some (some (.lp ⟨l,gs,dp fn a.tmps ps assign body D jl⟩ 0)):=by
  rw[List.getElem?_set,if_pos rfl,if_pos lenH]
 obtain⟨hgl,hrec⟩:E1.g k0=some l∧w1.heap[l]? =some (.loop (dp fn a.tmps ps assign body D jl 0)):=hW.bP k0 _ hlp
 have at1:∀(i:Nat)(k:aC),H[i]? =some (some k)→i≠k0∧((tie gs ti 0 H).set k0 (some (.lp ⟨l,gs,dp fn a.tmps ps assign body D jl⟩ 0)))[i]? =some (some (jd gs ti i k)):=by
  intro i k hi
  have Rw:i≠k0:=fun e=>by subst e;rw[h0] at hi;cases hi
  refine⟨Rw,?_⟩
  rw[List.getElem?_set,if_neg (fun e=>Rw e.symm)]
  have:=rq (gs:=gs) (ti:=ti) (s:=0) hi
  rwa [Nat.zero_add] at this
 have hSl:¬E1.S l:=hW.fT k0 _ l hlp hgl
 have hW1:HW (gl.mn l) E1 w1 H:=by
  refine⟨?_,?_,?_,hW.slt,⟨hW.gl.1,trivial⟩,fun i k g hi=>hW.lS i _ g (at1 i k hi).2⟩
  ·intro i k hi;exact(hW.bP i _ (at1 i k hi).2).Jo
  ·intro i i' k k' g hi hi' g1 g2;exact hW.cH i i' _ _ g (at1 i k hi).2 (at1 i' k' hi').2 g1 g2
  ·intro i k g hi g1;exact hW.cg i _ g (at1 i k hi).2 g1
 have hOl:¬Own H E1 l:=by
  rintro⟨i,k,hi,R0⟩
  exact(at1 i k hi).1 (hW.cH i k0 _ _ l (at1 i k hi).2 hlp R0 (Or.inl hgl))
 have R0:∀i,iH i ti=true→i<16∧E1.g i=some (gs i):=by
  intro i hi
  obtain⟨h1,t,v,h2,_⟩:=oK ht hi
  have:=hW.bP i _ (at1 i _ h2).2
  simp only[jd,hi,if_true] at this
  exact⟨h1,this.1⟩
 obtain⟨b1,b2⟩:=hBu E1.S w1 hW.gl.2
 have hrnp:NU m E w E1 w1:=by
  refine⟨?_,⟨b2,b1⟩⟩
  intro b i hbi
  obtain⟨c1,c2,c3⟩:=hti b i hbi
  obtain⟨_,t,v,h2,h3⟩:=oK ht c1
  have:=hW1.bP i _ h2
  exact⟨by rw[(R0 i c1).2,c2],by rw[this.1,c3 t h3]⟩
 obtain⟨hl,_⟩:=hv.get
 have hframe:bD (gl.mn l) ⟨jL (ps.toList.zip args) (zP m σ.tm),H,[]⟩ E1 {tmps:=(ps.zip vs.toArray).foldl (fun t (p,v)=>t.setIfInBounds p v) a.tmps,defers:=[]} w1:=by
  have hzip:(ps.zip vs.toArray).foldl (fun t (p,v)=>t.setIfInBounds p v) a.tmps=(ps.toList.zip vs).foldl (fun t(p:Nat×Value)=>t.setIfInBounds p.1 p.2) a.tmps:=by
   rw[←Array.foldl_toList]
   congr 1
   simp
  have:=tc (ps:=ps.toList) (tm:=zP m σ.tm) (tmps:=a.tmps) hv (by rw[yA];exact hg.len) (fun i x hx v RE=>by
   rcases yB hx with e|⟨y,h1,h2⟩
   ·subst e;trivial
   ·exact RV.jw hrnp h2 (hg.tm i y h1 v RE))
  rw[hzip]
  exact⟨this.1,this.2,hW1,trivial⟩
 refine⟨fn,_,assign,body,run_yield hrec (by simp[dp,←hl,hps]),roundIn_of_wpIn (F:=Fence.wide) trivial ?_⟩
 refine wpIn_mono (RN E1 _ w1 hframe) ?_
 rintro ex a2 w2 ⟨x,σ2,E2,q1,q2,q3,q4⟩
 cases ex with
 |
  normal=>
  cases x with
  |
   normal=>
   simp only[Exit.then]
   have Ru:l<w1.heap.size:=(Array.getElem?_eq_some_iff.1 hrec).1
   have hrec2:w2.heap[l]? =some (.loop (dp fn a.tmps ps assign body D jl 0)):=by rw[q4.kept l Ru hOl];exact hrec
   have notO:∀{hp:List (Option aC)}{E':Env}{w':World},Ext gl.md (Own H E1) E1 w1 (Own hp E') E' w'→¬Own hp E' l∧¬E'.S l:=by
    intro hp E' w' hx
    constructor
    ·intro ho;rcases hx.own l ho with h|h
     ·exact hOl h
     ·omega
    ·intro hs;rcases hx.iy l hs with h|h|h
     ·exact hSl h
     ·exact hOl h
     ·omega
   obtain⟨n1,n2⟩:=notO q4
   refine⟨w2.putObj l (.loop {dp fn a.tmps ps assign body D jl 0 with state:=.busy}),run_beginRound hrec2 rfl,?_⟩
   have g2:=q3.frame (o:=.loop {dp fn a.tmps ps assign body D jl 0 with state:=.busy}) n2 n1
   refine wpIn_mono (q2 E2 a2 _ g2) ?_
   rintro ex a3 w3 ⟨x3,σ3,E3,r1,r2,r3,r4⟩
   have lt2:l<w2.heap.size:=(Array.getElem?_eq_some_iff.1 hrec2).1
   have hbusy:w3.heap[l]? =some (.loop {dp fn a.tmps ps assign body D jl 0 with state:=.busy}):=by
    rw[r4.kept l (by simpa using lt2) n1]
    exact World.putObj_heap_same lt2
   have fin:∀(jump:Option Code),jump=jmp jl j→(jump.isNone=Nat.beq j 0)→(∃σ' mm,Wk (gl.mn l) σ3 σ'∧prune σ'.hp mm=H')→
    ∃v w',(Instr.endRound l jump).run P w3= .ok v w'∧∃E',oM E' w' (.ret (.val .bool (Nat.beq j 0))) (.returned v)∧HW (gl.wB B hB) E' w' ((tie gs ti 0 H').set k0 (some (.lp ⟨l,gs,dp fn a.tmps ps assign body D jl⟩ j)))∧
     Ext gl.md (Own ((tie gs ti 0 H).set k0 (some (.lp ⟨l,gs,dp fn a.tmps ps assign body D jl⟩ 0))) E1) E1 w1 (Own ((tie gs ti 0 H').set k0 (some (.lp ⟨l,gs,dp fn a.tmps ps assign body D jl⟩ j))) E') E' w':=by
    rintro jump hj hjn ⟨σ4,mm,hwk,hpr⟩
    obtain⟨E4,g4,x4⟩:=hwk E3 a3 w3 r3
    have hlt3:l<w3.heap.size:=(Array.getElem?_eq_some_iff.1 hbusy).1
    have hnew:({({dp fn a.tmps ps assign body D jl 0 with state:=.busy}:Loop) with state:=if jump.isNone then .ready else .done,pending:=jump}:Loop)=dp fn a.tmps ps assign body D jl j:=by
     subst hj
     simp only[dp,hjn]
    have hend:=run_endRound (P:=P) jump hbusy
    rw[hnew,hjn] at hend
    have X:=((((q4.add l).trans (Ext.put (o:=.loop {dp fn a.tmps ps assign body D jl 0 with state:=.busy}) (Or.inr rfl))).trans (r4.add l)).trans (x4.add l)).trans (Ext.put (o:=.loop (dp fn a.tmps ps assign body D jl j)) (Or.inr rfl))
    have w4:HW (gl.mn l) E4 w3 H':=by rw[←hpr];exact g4.hw.prune mm
    have sub4:∀g,Own H' E4 g→Own σ4.hp E4 g:=by
     rintro g ⟨b,k,hb,hgb⟩
     rw[←hpr] at hb
     exact⟨b,k,fy hb,hgb⟩
    have n4:¬Own H' E4 l∧¬E4.S l:=by
     have hx:Ext gl.md (Own H E1) E1 w1 (Own σ2.hp E2) E2 w2:=q4
     obtain⟨m1,m2⟩:=notO hx
     have m3:¬Own σ3.hp E3 l∧¬E3.S l:=by
      constructor
      ·intro ho;rcases r4.own l ho with h|h
       ·exact m1 h
       ·simp at h;omega
      ·intro hs;rcases r4.iy l hs with h|h|h
       ·exact m2 h
       ·exact m1 h
       ·simp at h;omega
     constructor
     ·intro ho;rcases x4.own l (sub4 l ho) with h|h
      ·exact m3.1 h
      ·omega
     ·intro hs;rcases x4.iy l hs with h|h|h
      ·exact m3.2 h
      ·exact m3.1 h
      ·omega
    obtain⟨kp,wf⟩:=w4.frame (o:=.loop (dp fn a.tmps ps assign body D jl j)) n4.2 n4.1
    have gk0:E4.g k0=some l:=by rw[(X.xX k0 hk16).1];exact hgl
    have at4:∀(i:Nat)(k:aC),((tie gs ti 0 H').set k0 (some (.lp ⟨l,gs,dp fn a.tmps ps assign body D jl⟩ j)))[i]? =some (some k)→(i=k0∧k= .lp ⟨l,gs,dp fn a.tmps ps assign body D jl⟩ j)∨(i≠k0∧∃k',H'[i]? =some (some k')∧k=jd gs ti i k'):=by
     intro i k hi
     rw[List.getElem?_set] at hi
     split at hi
     ·rename_i e
      first
       |(cases hi;exact Or.inl ⟨e.symm,rfl⟩)
       |(split at hi<;>cases hi;exact Or.inl ⟨e.symm,rfl⟩)
     ·rename_i e
      obtain⟨k',h1,h2⟩:=eS hi
      rw[Nat.zero_add] at h2
      exact Or.inr ⟨fun e'=>e e'.symm,k',h1,h2⟩
    have ne4:∀(i:Nat)(k:aC),H'[i]? =some (some k)→¬E4.has i l:=fun i k hi e=>n4.1 ⟨i,k,hi,e⟩
    obtain⟨E5,hE5⟩:∃E5:Env,E5={E4 with P:=fun b g=>b≠k0∧E4.P b g}:=⟨_,rfl⟩
    have e5g:∀b,E5.g b=E4.g b:=fun b=>by rw[hE5]
    have e5S:E5.S=E4.S:=by rw[hE5]
    have e5h:∀b g,E5.has b g→E4.has b g:=fun b g h=>h.imp (fun x=>by rw[←e5g];exact x) (fun x=>by rw[hE5] at x;exact x.2)
    have e5k:∀g,E5.has k0 g→g=l:=fun g h=>by
     rcases h with h|h
     ·rw[e5g,gk0] at h;cases h;rfl
     ·rw[hE5] at h;exact absurd rfl h.1
    have kp5:∀w:World,aV E4 w E5 w:=fun w=>⟨fun _ _=>rfl,fun g hg=>by rw[e5S];exact hg⟩
    refine⟨_,_,hend,E5,RV.bool,⟨?_,?_,?_,fun g hg=>wf.slt g (by rw[←e5S];exact hg),⟨fun x hx=>?_,?_⟩,?_⟩,?_⟩
    ·intro i k hi
     rcases at4 i k hi with⟨e1,e2⟩|⟨Rw,k',h1,h2⟩
     ·subst e1;subst e2
      exact⟨by rw[e5g];exact gk0,World.putObj_heap_same hlt3⟩
     ·subst h2
      exact RB.mono (kp5 _) (fun b _=>by rw[hE5];exact⟨rfl,rfl,rfl⟩) (fun _ _=>rfl) (fun _ g hg=>by rw[hE5];exact⟨Rw,hg⟩) ((wf.bP i k' h1).tie (fun hh=>by obtain⟨c1,c2⟩:=R0 i hh;rw[(X.xX i c1).1];exact c2))
    ·intro i i' k k' g hi hi' j1 j2
     rcases at4 i k hi with⟨e1,e2⟩|⟨Rw,k2,h1,h2⟩
     ·rcases at4 i' k' hi' with⟨e1',Si⟩|⟨hne',k2',h1',h2'⟩
      ·rw[e1,e1']
      ·subst e1;exact absurd (e5h _ _ (e5k g j1▸j2)) (ne4 i' k2' h1')
     ·rcases at4 i' k' hi' with⟨e1',Si⟩|⟨hne',k2',h1',h2'⟩
      ·subst e1';exact absurd (e5h _ _ (e5k g j2▸j1)) (ne4 i k2 h1)
      ·exact wf.cH i i' k2 k2' g h1 h1' (e5h _ _ j1) (e5h _ _ j2)
    ·intro i k g hi g1
     rw[e5S]
     rcases at4 i k hi with⟨e1,e2⟩|⟨Rw,k2,h1,h2⟩
     ·subst e1;exact(e5k g g1)▸n4.2
     ·exact wf.cg i k2 g h1 (e5h _ _ g1)
    ·obtain⟨y1,y2⟩:=wf.gl.1 x hx
     rw[e5S];exact⟨y1,y2⟩
    ·refine hB ?_ (fun b hb=>by rw[e5S];exact X.sle b hb) hW.gl.2
     intro b hb
     refine X.kept b (hW.slt b hb) ?_
     rintro(⟨i,k,hi,hgi'⟩|e)
     ·exact hW.cg i _ b (at1 i k hi).2 hgi' hb
     ·subst e;exact hSl hb
    ·intro i k g hi g1
     rcases at4 i k hi with⟨e1,e2⟩|⟨Rw,k2,h1,h2⟩
     ·subst e1;rw[hE5] at g1;exact absurd rfl g1.1
     ·exact wf.lS i k2 g h1 (by rw[hE5] at g1;exact g1.2)
    ·refine⟨X.os,X.tape,X.output,X.size,?_,fun g hg=>by rw[e5S];exact X.sle g hg,?_,?_,fun b hb=>by rw[hE5];exact X.xX b hb⟩
     ·intro g hgl' ho
      refine X.kept g hgl' ?_
      rintro(⟨i,k,hi,hgi'⟩|e)
      ·exact ho ⟨i,_,(at1 i k hi).2,hgi'⟩
      ·subst e;exact ho ⟨k0,_,hlp,Or.inl hgl⟩
     ·intro g hs
      rw[e5S] at hs
      rcases X.iy g hs with h|h|h
      ·exact Or.inl h
      ·rcases h with⟨i,k,hi,hgi'⟩|e
       ·exact Or.inr (Or.inl ⟨i,_,(at1 i k hi).2,hgi'⟩)
       ·subst e;exact Or.inr (Or.inl ⟨k0,_,hlp,Or.inl hgl⟩)
      ·exact Or.inr (Or.inr h)
     ·rintro g ⟨i,k,hi,hgi'⟩
      have:Own σ4.hp E4 g∨g=l:=by
       rcases at4 i k hi with⟨e1,e2⟩|⟨Rw,k2,h1,h2⟩
       ·subst e1;exact Or.inr (e5k g hgi')
       ·exact Or.inl (sub4 g ⟨i,k2,h1,e5h _ _ hgi'⟩)
      rcases X.own g this with h|h
      ·rcases h with⟨i,k,hi,hgi'⟩|e
       ·exact Or.inl ⟨i,_,(at1 i k hi).2,hgi'⟩
       ·subst e;exact Or.inl ⟨k0,_,hlp,Or.inl hgl⟩
      ·exact Or.inr h
   cases ex with
   |
    normal=>
    cases x3 with
    |normal=>obtain⟨e,hh⟩:=r2;subst e;exact fin none rfl rfl hh
    |_=>exact r1.elim
   |
    ret=>
    cases x3 with
    |
     ret=>
     obtain⟨⟨e,e2⟩,hh⟩:=r2
     exact fin (some .ret) e2.symm (by cases j with|zero=>exact absurd rfl e|succ j=>rfl) hh
    |_=>exact r1.elim
   |
    exit i=>
    cases x3 with
    |
     exit i'=>
     have e0:i'=i:=r1
     subst e0
     obtain⟨⟨e,e2⟩,hh⟩:=r2
     exact fin (some (.exit i')) e2.symm (by cases j with|zero=>exact absurd rfl e|succ j=>rfl) hh
    |_=>exact r1.elim
   |panic chain=>cases x3<;>first|exact r1.elim|exact r2.elim
   |goto t=>cases x3<;>exact r1.elim
   |outgrown=>cases x3<;>exact r1.elim
  |_=>exact q1.elim
 |ret=>cases x<;>first|exact q1.elim|exact q2.elim
 |exit i=>cases x<;>first|exact q1.elim|exact q2.elim
 |panic chain=>cases x<;>first|exact q1.elim|exact q2.elim
 |goto t=>cases x<;>exact q1.elim
 |outgrown=>cases x<;>exact q1.elim
end Go.Ax
namespace Go.Ax
def vB(P:Program)(gl:Ctx)(tm:List AV)(ps:Array Tmp)(assign body:Code)(k0:Nat)(ti:List (Nat×Ty))(m:List (Nat×Nat))(jl:List Code)(C:Ctx)(y:YC):Prop:=
 ∀(args:List AV)(H H':List (Option aC))(j:Nat),ps.size=args.length→H[k0]? =some none→H'[k0]? =some none→kY H ti=true→kY H' ti=true→
  bV P (gl.mn y.l) assign ⟨jL (ps.toList.zip args) (zP m tm),H,[]⟩ (Jp P (gl.mn y.l) body (Jq (gl.mn y.l) jl j H'))→
  Fy P C y.l args ((tie y.gs ti 0 H).set k0 (some (.lp y 0))) (.ret (.val .bool (Nat.beq j 0))) ((tie y.gs ti 0 H').set k0 (some (.lp y j)))
def NV(gs:Nat→Nat)(m:List (Nat×Nat))(b:Nat):Nat:=match gv m b with|some i=>gs i|none=>0
def Jr:List (Nat×Nat)→List (Nat×Ty)
 |[]=>[]
 |(b,_)::l=>(b,.unit)::Jr l
theorem tg{b:Nat}:∀{m:List (Nat×Nat)},iH b (Jr m)=true→∃i,gv m b=some i
 |[],h=>by cases h
 |
  (c,i)::l,h=>by
  simp only[Jr,iH,Bool.or_eq_true] at h
  unfold gv
  split
  ·exact⟨i,rfl⟩
  ·rename_i hn
   rcases h with h|h
   ·exact absurd (by rw[Nat.eq_of_beq_eq_true h];exact Nat.beq_refl c) hn
   ·exact tg h
def Js(hp:List (Option aC))(ti:List (Nat×Ty)):List (Nat×Nat)→Bool
 |[]=>true
 |(b,i)::l=>(match hp[b]? with|some (some (.var t _))=>iH i ti&&(ti.all fun x=> !Nat.beq x.1 i||Ty.same x.2 t)|_=>false)&&Js hp ti l
theorem CI{hp:List (Option aC)}{ti:List (Nat×Ty)}:∀{m:List (Nat×Nat)},Js hp ti m=true→∀b i,(b,i)∈m→iH i ti=true∧∃t v,hp[b]? =some (some (.var t v))∧∀t',(i,t')∈ti→t'=t
 |[],_,b,i,h=>by cases h
 |
  (c,k)::l,hm,b,i,h=>by
  simp only[Js,Bool.and_eq_true] at hm
  rcases List.mem_cons.1 h with e|h
  ·cases e
   have h1:=hm.1
   split at h1
   ·rename_i t v hv
    simp only[Bool.and_eq_true,List.all_eq_true] at h1
    refine⟨h1.1,t,v,hv,fun t' ht'=>?_⟩
    have:=h1.2 _ ht'
    simp at this
    exact Ty.aA this
   ·cases h1
  ·exact CI hm.2 b i h
def zQ:List (Option aC)→List (Option aC)
 |[]=>[]
 |some (.tv _ t v)::l=>some (.var t v)::zQ l
 |x::l=>x::zQ l
theorem gi:∀{l:List (Option aC)}{i:Nat}{k:aC},(zQ l)[i]? =some (some k)→∃k',l[i]? =some (some k')∧(k'=k∨∃g t v,k'= .tv g t v∧k= .var t v)
 |[],i,k,h=>by simp[zQ] at h
 |
  x::l,0,k,h=>by
  unfold zQ at h
  split at h
  ·cases(by assumption:_=_)
  ·rename_i heq;cases heq;simp at h;exact⟨_,rfl,Or.inr ⟨_,_,_,rfl,h.symm⟩⟩
  ·rename_i heq;cases heq;simp at h;exact⟨k,by simp[h],Or.inl rfl⟩
 |
  x::l,i+1,k,h=>by
  unfold zQ at h
  split at h
  ·cases(by assumption:_=_)
  ·rename_i heq;cases heq;simpa using gi (by simpa using h)
  ·rename_i heq;cases heq;simpa using gi (by simpa using h)
theorem bD.zQ{gl:Ctx}{σ:St}{E:Env}{a:Act}{w:World}(h:bD gl σ E a w):bD gl {σ with hp:=Ax.zQ σ.hp} E a w∧Ext gl.md (Own σ.hp E) E w (Own (Ax.zQ σ.hp) E) E w:=by
 refine⟨⟨h.len,h.tm,⟨?_,?_,?_,h.hw.slt,h.hw.gl,?_⟩,h.df⟩,{Ext.refl (Own σ.hp E) E w with own:=?_ }⟩
 ·intro b k hb
  obtain⟨k',h1,h2⟩:=gi hb
  have:=h.hw.bP b k' h1
  rcases h2 with e|⟨g,t,v,e1,e2⟩
  ·rw[←e];exact this
  ·subst e1;subst e2
   obtain⟨q0,q1,q2,c,e,q4,q5⟩:=this
   exact⟨q1,q2,g,c,e,q0,q4,q5⟩
 ·intro b b' k k' g hb RR g1 g2
  obtain⟨k1,h1,_⟩:=gi hb
  obtain⟨k2,h2,_⟩:=gi RR
  exact h.hw.cH b b' k1 k2 g h1 h2 g1 g2
 ·intro b k g hb g1
  obtain⟨k1,h1,_⟩:=gi hb
  exact h.hw.cg b k1 g h1 g1
 ·intro b k g hb g1
  obtain⟨k1,h1,_⟩:=gi hb
  exact h.hw.lS b k1 g h1 g1
 ·rintro g ⟨b,k,hb,g1⟩
  obtain⟨k1,h1,_⟩:=gi hb
  exact Or.inl ⟨b,k1,h1,g1⟩
theorem bD.tie{gl:Ctx}{σ:St}{E:Env}{a:Act}{w:World}(h:bD gl σ E a w){gs:Nat→Nat}{ti:List (Nat×Ty)}(hg:∀b,iH b ti=true→E.g b=some (gs b)):bD gl {σ with hp:=Ax.tie gs ti 0 σ.hp} E a w∧Ext gl.md (Own σ.hp E) E w (Own (Ax.tie gs ti 0 σ.hp) E) E w:=by
 refine⟨⟨h.len,h.tm,⟨?_,?_,?_,h.hw.slt,h.hw.gl,?_⟩,h.df⟩,{Ext.refl (Own σ.hp E) E w with own:=?_ }⟩
 ·intro b k hb
  obtain⟨k',h1,h2⟩:=eS hb
  rw[Nat.zero_add] at h2
  subst h2
  exact(h.hw.bP b k' h1).tie (hg b)
 ·intro b b' k k' g hb RR g1 g2
  obtain⟨k1,h1,_⟩:=eS hb
  obtain⟨k2,h2,_⟩:=eS RR
  exact h.hw.cH b b' k1 k2 g h1 h2 g1 g2
 ·intro b k g hb g1
  obtain⟨k1,h1,_⟩:=eS hb
  exact h.hw.cg b k1 g h1 g1
 ·intro b k g hb g1
  obtain⟨k1,h1,_⟩:=eS hb
  exact h.hw.lS b k1 g h1 g1
 ·rintro g ⟨b,k,hb,g1⟩
  obtain⟨k1,h1,_⟩:=eS hb
  exact Or.inl ⟨b,k1,h1,g1⟩
theorem vC{σ:St}{d e:Nat}{k:aC}(hk:k.ids= [])(h:σ.fresh d)(Rw:d≠e):({σ with hp:=σ.hp.set e (some k)}:St).fresh d:=by
 have h1:=ig.1 h.1
 refine⟨ig.2 ⟨h1.1,h1.2.1,?_⟩,?_,h.2.2⟩
 ·intro i k' hi
  rw[List.getElem?_set] at hi
  split at hi
  ·split at hi
   ·cases hi;rw[hk];simp
   ·cases hi
  ·exact h1.2.2 i k' hi
 ·intro k' hi
  rw[List.getElem?_set,if_neg (fun x=>Rw x.symm)] at hi
  exact h.2.1 k' hi
def lK(y:YC)(m:List (Nat×Nat))(dI lI:Nat)(hp:List (Option aC)):List (Option aC):=tie (NV y.gs m) (Jr m) 0 ((hp.set dI (some .nR)).set lI (some (.lp y 0)))
structure NW(σ:St)(y:YC)(m:List (Nat×Nat))(dI lI j:Nat)(cs:AV)(cr:CR)(L:List AV)(ins:List (Nat×Option aC))(hpF:List (Option aC)):Prop where
 hr:cr.r= .dX .nil
 hL:iu (swp cr.al) (cW (lK y m dI lI σ.hp)) (((.func (.yield y.l) .nil .nil,Ty.unit))::cs.toList.map (fun x=>(x,Ty.unit)))=some (L,[])
 fw:fc (swp cr.al) (cW (lK y m dI lI σ.hp)) cr.ps=some ins
 dY:qo cr []=true
 Jt:((cr.ns.map (·.2)).all (fun b=>({σ with hp:=lK y m dI lI σ.hp,df:=.mp dI::σ.df}:St).dk b))=true
 O7:(aD (lK y m dI lI σ.hp) (iD (cr.al++cr.ns) cr.out (cr.ps++cr.ns)))[lI]? =some (some (.lp y j))
 O8:zQ ((aD (lK y m dI lI σ.hp) (iD (cr.al++cr.ns) cr.out (cr.ps++cr.ns))).set lI none)=hpF
theorem bV.rangeFunc{P:Program}{gl:Ctx}{σ:St}{Q:dy→St→Prop}{g:Operand}{ps:Array Tmp}{assign body:Code}(RZ:gl.ro=none){gf:FuncId}{cs:AV}(hg:aQ gl σ.tm g= .func (.func gf) .nil cs)
 (dI lI k0:Nat) (hd:σ.dk dI=true) (hl:σ.dk lI=true) (Rw:Nat.beq dI lI=false) (hk:Nat.blt k0 16=true)
 (ti:List (Nat×Ty)) (m:List (Nat×Nat)) (hkt:iH k0 ti=false) (hm:Js σ.hp ti m=true) (hmn:gj (m.map (·.2))=true) (jl:List Code) (hcs:cs.atoms=true)
 (hy:∀y:YC,∃j cr L ins hpF,NW σ y m dI lI j cs cr L ins hpF∧
  (∀B hB,vB P gl σ.tm ps assign body k0 ti m jl (gl.wB B hB) y→Fc P (gl.wB B hB) gf L (aD (List.replicate cr.m none) ins) (.ret (.dX .nil)) (bZ cr.m cr.out))∧
  (match jmp jl j with|none=>Q .normal ⟨σ.tm,hpF,.mp dI::σ.df⟩|some c=>bV P gl c ⟨σ.tm,hpF,.mp dI::σ.df⟩ Q)):bV P gl (.rangeFunc g ps assign body) σ Q:=by
 intro E a w hG
 refine wpIn_rangeFunc ?_
 intro fn _
 have hfd:=St.cG hd
 have hfl:=St.cG hl
 have hnd:lI≠dI:=fun e=>by subst e;simp at Rw
 obtain⟨rec,hrec⟩:∃rec:Nat→Loop,rec=dp fn a.tmps ps assign body w.heap.size jl:=⟨_,rfl⟩
 have hrec0:rec 0={state:=.ready,pending:=none,fn:=fn,tmps:=a.tmps,params:=ps,assign:=assign,body:=body,defers:=w.heap.size}:=by rw[hrec];rfl
 obtain⟨gs,hgs⟩:∃gs:Nat→Nat,gs=fun i=>match gv (swp m) i with|some b=>(E.g b).getD 0|none=>0:=⟨_,rfl⟩
 obtain⟨j,cr,L,ins,hpF,⟨hr,hL,fw,dY,Jt,O7,O8⟩,hit,hq⟩:=hy ⟨w.heap.size+1,gs,rec⟩
 obtain⟨g1,x1⟩:=hG.fresh (w':=w.alloc (.deferred (some []))) hfd (g:=some w.heap.size) (sv:=undef) (t:=.unit) (k:=.nR) rfl (Tp.r rfl rfl) rfl (by simp) (fun i hi=>heap_alloc_old w _ hi) (fun i hi=>by cases hi;exact Nat.le_refl _)
  ⟨w.heap.size,by simp[Env.at],heap_alloc_new w _⟩
 have hs1:(w.alloc (.deferred (some []))).heap.size=w.heap.size+1:=by simp
 obtain⟨g2,x2⟩:=g1.fresh (w':=(w.alloc (.deferred (some []))).alloc (.loop (rec 0))) (d:=lI) (vC rfl hfl hnd) (g:=some (w.heap.size+1)) (sv:=undef) (t:=.unit) (k:=.lp ⟨w.heap.size+1,gs,rec⟩ 0) rfl (Tp.r rfl rfl) rfl (by simp) (fun i hi=>heap_alloc_old _ _ hi) (fun i hi=>by cases hi;rw[hs1];exact Nat.le_refl _)
  ⟨by simp[Env.at],by have:=heap_alloc_new (w.alloc (.deferred (some []))) (.loop (rec 0));rw[hs1] at this;exact this⟩
 generalize Sp:(w.alloc (.deferred (some []))).alloc (.loop (rec 0))=w2 at g2 x2
 generalize hE2:(E.at dI (some w.heap.size) undef .unit).at lI (some (w.heap.size+1)) undef .unit=E2 at g2 x2
 have hE2g:∀b,b≠dI→b≠lI→E2.g b=E.g b:=fun b h1 h2=>by rw[←hE2];simp[Env.at,h1,h2]
 have hE2d:E2.g dI=some w.heap.size:=by rw[←hE2];simp[Env.at,Ne.symm hnd]
 have hE2S:E2.S=E.S:=by rw[←hE2];rfl
 have Jz:=x1.trans x2
 have hmu:∀b i,gv m b=some i→iH i ti=true∧E.g b=some (gs i)∧(∀t,(i,t)∈ti→E.bt b=t)∧b≠dI∧b≠lI:=by
  intro b i hbi
  have hmem:=kj hbi
  obtain⟨h1,t,v,h2,h3⟩:=CI hm b i hmem
  obtain⟨r1,r2,gg,c,e,r3,_⟩:=hG.hw.bP b _ h2
  have hlk:gv (swp m) i=some b:=cM (by have:=dw hmn;simpa[swp,List.map_map,Function.comp_def] using this) (fk.2 hmem)
  refine⟨h1,by rw[hgs];simp only[hlk,r3];rfl,fun t' ht'=>by rw[h3 t' ht'];exact r1,fun e=>?_,fun e=>?_⟩
  ·subst e;exact hfd.2.1 _ h2
  ·subst e;exact hfl.2.1 _ h2
 obtain⟨g3,x3⟩:=g2.tie (gs:=NV gs m) (ti:=Jr m) (by
  intro b hb
  obtain⟨i,hi⟩:=tg hb
  obtain⟨_,h2,_,h4,h5⟩:=hmu b i hi
  rw[hE2g b h4 h5,h2];simp[NV,hi])
 have g4:bD gl ⟨σ.tm,lK ⟨w.heap.size+1,gs,rec⟩ m dI lI σ.hp,.mp dI::σ.df⟩ E2 {a with defers:={target:=.collected w.heap.size,args:= #[]}::a.defers} w2:=
  ⟨g3.len,g3.tm,g3.hw,⟨⟨w.heap.size,hE2d,rfl⟩,g3.df⟩⟩
 have hv0:=dN g4 g
 simp only at hv0
 rw[hg] at hv0
 obtain⟨f',c',Rz,r1,r2,_,_⟩:=RV.atom rfl hv0
 simp at Rz
 have hf':f'= #[]:=by apply Array.ext';exact r1
 subst hf'
 have hav:a.eval g= .func (.func gf) #[] c':=by rw[←Rz];cases g<;>rfl
 obtain⟨B,hBd⟩:∃B:(Nat→Prop)→World→Prop,B=fun S' w'=>(∀b,E.S b→S' b)∧(∀b,E.S b→w'.heap[b]? =w.heap[b]?):=⟨_,rfl⟩
 have hB:∀{S S':Nat→Prop}{w w':World},(∀b,S b→w'.heap[b]? =w.heap[b]?)→(∀b,S b→S' b)→B S w→B S' w':=by
  intro S S' w0 w0' h1 h2 h3
  rw[hBd] at h3 ⊢
  exact⟨fun b hb=>h2 b (h3.1 b hb),fun b hb=>by rw[h1 b (h3.1 b hb)];exact h3.2 b hb⟩
 have hof:vB P gl σ.tm ps assign body k0 ti m jl (gl.wB B hB) ⟨w.heap.size+1,gs,rec⟩:=by
  intro args H H' j' h1 h2 h3 h4 h5 h6
  rw[hrec]
  exact Fy.EV hG (fun S' w' h=>by rw[hBd] at h;exact h) (fun b i hbi=>⟨(hmu b i hbi).1,(hmu b i hbi).2.1,(hmu b i hbi).2.2.1⟩) h1 hk hkt h2 h3 h4 h5 h6
 obtain⟨RY,hfn⟩:=hit B hB hof
 have hbb:=bI (lK ⟨w.heap.size+1,gs,rec⟩ m dI lI σ.hp)
 obtain⟨hφ,hwi⟩:=mw (lent:=[]) g4 hbb (fun b hb=>by cases hb) (fw) (dY)
 have hargs:gu E2 w2 ((((.func (.yield (w.heap.size+1)) .nil .nil,Ty.unit))::cs.toList.map (fun x=>(x,Ty.unit))).map (·.1)) (Value.func (.yield (w.heap.size+1)) #[] #[]::c'.toList):=by
  refine⟨RV.cJ (Or.inr ⟨rfl, #[], #[],rfl,rfl,rfl,rfl,rfl⟩),?_⟩
  have:=gu.atoms hcs r2
  have e1:∀l:List AV,(l.map (fun x=>(x,Ty.unit))).map (fun x:AV×Ty=>x.1)=l:=by intro l;induction l<;>simp_all
  rw[e1];exact this
 have hv:=iL g4.hw hbb hφ (hL) (fun g hg=>hg) hargs
 have hSe:(E2.bU []).S=fun g=>E.S g∨∃b∈([]:List Nat),E2.g b=some g:=by simp only[Env.bU,hE2S]
 have hwB:HW (gl.wB B hB) (E2.to cr.al (E2.bU []).S) w2 (aD (List.replicate cr.m none) (ins)):=by
  refine hwi.ctx rfl ?_
  show B _ w2
  rw[hBd]
  refine⟨fun b hb=>by show(E2.bU []).S b;rw[hSe];exact Or.inl hb,fun b hb=>?_⟩
  exact Jz.kept b (hG.hw.slt b hb) (fun⟨c,k,hc,hgc⟩=>hG.hw.cg c k b hc hgc hb)
 have hcalls:=hfn _ w2 _ hv hwB
 refine⟨w.heap.size+1,[{target:=.collected w.heap.size,args:= #[]}],w2,{target:=.fn (.func gf) c',args:= #[.func (.yield (w.heap.size+1)) #[] #[]]},w2,gf, #[.func (.yield (w.heap.size+1)) #[] #[]]++c',w2,?_,?_,fun _ _=>trivial,?_,fun h=>(by cases h),?_⟩
 ·rw[show(Wd gl).round=none from RZ,run_enterLoop_outer,←Sp,hrec0]
 ·simp only[resolve,hav]
  simp[go_sem]
 ·simp[invoke,RY]
 ·have e0:(Value.func (.yield (w.heap.size+1)) #[] #[]::c'.toList).toArray= #[.func (.yield (w.heap.size+1)) #[] #[]]++c':=by apply Array.ext';simp
  rw[e0] at hcalls
  have h1:CallsIn Fence.wide 0 P gf _ w2 _:=callsIn_wide.2 hcalls
  refine CallsIn.mono (F:=Wd gl) h1 ?_
  rintro ed w3 ⟨E',hR,hW',hX⟩
  cases ed with
  |panicked ch=>exact hR.elim
  |outgrown=>exact hR.elim
  |
   returned v=>
   have hWg:HW gl E' w3 (bZ cr.m cr.out):=by
    refine hW'.ctx rfl ?_
    have hbs:B E'.S w3:=hW'.gl.2
    rw[hBd] at hbs
    exact gl.mono hbs.2 hbs.1 hG.hw.gl.2
   have RU:∀b∈cr.ns.map (·.2),(⟨σ.tm,lK ⟨w.heap.size+1,gs,rec⟩ m dI lI σ.hp,.mp dI::σ.df⟩:St).fresh b:=by
    have:=Jt
    rw[List.all_eq_true] at this
    exact fun b hb=>St.cG (this b hb)
   have hrr:=hr
   obtain⟨E3,k1,_,k3⟩:=gz (lent:=[]) g4 hbb (fun b hb=>by cases hb) (fw) (dY) RU hWg hX (r':=.dX .nil) (by rw[hrr];rfl) (v:=v) (by rw[hrr];exact hR)
   have f1:=O7;have f2:=O8
   obtain⟨q1,q2⟩:=k1.hw.bP lI _ f1
   obtain⟨k4,x4⟩:=k1.shut f1 q1 (.loop {rec j with state:=.exhausted})
   obtain⟨k5,x5⟩:=k4.zQ
   simp only[f2] at k5 x5
   have hst:(rec j).state≠.busy:=by rw[hrec];simp only[dp];split<;>simp
   refine⟨(rec j).pending,_,run_endLoop q2 hst,?_⟩
   have hpe:(rec j).pending=jmp jl j:=by rw[hrec];rfl
   have X:=(((Jz.trans x3).trans k3).trans x4).trans x5
   generalize hwF:w3.putObj (w.heap.size+1) (.loop {rec j with state:=.exhausted})=wF at k5 X
   generalize (rec j).pending=pe at hpe
   subst hpe
   revert hq
   cases jmp jl j with
   |
    none=>
    intro hq
    exact⟨.normal,_,E3,trivial,hq,k5,X⟩
   |
    some c=>
    intro hq
    refine wpIn_mono (hq E3 _ _ k5) ?_
    rintro ex a5 w5 ⟨x,σ5,E5,z1,z2,z3,z4⟩
    exact⟨x,σ5,E5,z1,z2,z3,X.trans z4⟩
end Go.Ax
namespace Go.Ax
theorem Fc.up{P:Program}{C C':Ctx}{f:FuncId}{A:List AV}{H H':List (Option aC)}{r:mU}(hg:C'.gl=C.gl)(hC:∀S w,C.B S w)(h:Fc P C f A H r H')(hm:C'.md=C.md:=by rfl):Fc P C' f A H r H':=by
 refine⟨h.1,fun E w vs hv hw=>?_⟩
 have:=h.2 E w vs hv (hw.ctx hg.symm (hC _ _))
 intro cs
 obtain⟨e,w',fr,⟨E',r1,r2,r3⟩,rest⟩:=this cs
 rw[←hm] at r3
 exact⟨e,w',fr,⟨E',r1,r2.ctx hg (hw.dF (hw.kept r3)).2,r3⟩,rest⟩
end Go.Ax
