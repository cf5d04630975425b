/- part -/
import Derived.Test.YtkhfnbfpgcjllaaGreatDoorFQ
import Derived.Test.YtkhfnbfpgcjllaaGreatDoorA5
noncomputable section
namespace Go.Proofs.YtkhfnbfpgcjllaaGreatDoor
open Go.Ax
theorem gG{a b:Zd}(ha:a.length=1024)(hb:b.length=1024){i:Nat}(h:i<1024):
 (a.zip b).drop i=(a[i],b[i])::(a.zip b).drop (i+1):=by
 rw[iu (by rw[List.length_zip];omega),List.getElem_zip]
theorem gr{a b:Zd}(ha:a.length=1024)(hb:b.length=1024){i:Nat}:((a.zip b).drop i).isEmpty=true↔1024≤i:=by
 rw[List.isEmpty_iff,List.drop_eq_nil_iff,List.length_zip,ha,hb];omega
theorem Wf(a b:Zd)(ha:a.length=1024)(hb:b.length=1024):
 ∀(n d s to:Nat)(acc r:ZJ),d≤1024→1024 -d<n→fA (some s) d ((a.zip b).drop d) acc=some r→
  (d<1024→a[d]? ≠b[d]? →True)→to=d→
  ∃e,e<1024∧d≤e∧ep n (a,b,(d:Int),((s:Int),((to:Int),())),acc)=some (.aX (a,b,(e:Int),((s:Int),((e:Int),())),acc))∧acc.length≤2000∧
   fA none (e+1) ((a.zip b).drop (e+1)) (acc++[((s:Int),((e:Int),()))])=some r∧(∀h:e<1024,a[e]'(by omega)=b[e]'(by omega)):=by
 intro n
 induction n with
 |zero=>intro d s to acc r _ h;omega
 |
  succ n ih=>
  intro d s to acc r hd hn hr _ hto
  subst hto
  by_cases h:to<1024
  ·rw[gG ha hb h] at hr
   have hlt:(to:Int)<(1024:Int):=by omega
   have h0:(0:Int)≤(to:Int):=cw to
   have hw:aV ((to:Int)+1)=((to+1:Nat):Int):=bS (by omega)
   have key:=fun h2 hr=>ih (to+1) s (to+1) acc r h2 (by omega) hr (fun _ _=>trivial) rfl
   unfold ep at key ⊢
   rw[aK]
   generalize aL _ n=rec at key ⊢
   have na:nth (.int .i64) a (to:Int)=a[to]:=cH (t:=.int .i64) (by omega)
   have nb:nth (.int .i64) b (to:Int)=b[to]:=cH (t:=.int .i64) (by omega)
   simp only[aA h0,aA hlt,na,nb,hw]
   unfold fA at hr
   simp only at hr
   by_cases he:a[to]=b[to]
   ·rw[aA he] at hr
    split at hr
    ·rename_i hm
     refine⟨to,h,cT _,?_,hm,hr,fun _=>he⟩
     simp[he]
    ·cases hr
   ·rw[aB he] at hr
    split at hr
    ·cases hr
    ·rename_i hne
     have h2:to+1<1024:=by
      by_cases hc:1024≤to+1
      ·exact absurd ((gr ha hb).2 hc) hne
      ·omega
     have hne2:¬(((to+1:Nat):Int)=1024):=by omega
     obtain⟨e,e1,e2,e3,e4,e5,e6⟩:=key (by omega) hr
     refine⟨e,e1,by omega,?_,e4,e5,e6⟩
     simp only[he,decide_false,Bool.not_false,cu,cD hne2,dv,dc]
     exact e3
  ·have hz:(a.zip b).drop to= []:=by
    have:=(gr ha hb (i:=to)).2 (by omega)
    exact List.isEmpty_iff.1 this
   rw[hz] at hr
   unfold fA at hr
   cases hr
theorem py:dG=18446744073709551615+1:=rfl
theorem zp(a b:Zd)(ha:a.length=1024)(hb:b.length=1024):
 ∀(n d:Nat)(acc r:ZJ),d≤1024→1024 -d<n→fA none d ((a.zip b).drop d) acc=some r→
  gW n (a,b,(d:Int),acc)=some (.aX r):=by
 intro n
 induction n with
 |zero=>intro d acc r _ h;omega
 |
  succ n ih=>
  intro d acc r hd hn hr
  have key:=fun d' acc'(h:d<d')=>ih d' acc' r
  unfold gW at key ⊢
  rw[aK]
  generalize aL _ n=rec at key ⊢
  by_cases h:d<1024
  ·have hlt:(d:Int)<(1024:Int):=by omega
   have h0:(0:Int)≤(d:Int):=cw d
   have hw:aV ((d:Int)+1)=((d+1:Nat):Int):=bS (by omega)
   have na:nth (.int .i64) a (d:Int)=a[d]:=cH (t:=.int .i64) (by omega)
   have nb:nth (.int .i64) b (d:Int)=b[d]:=cH (t:=.int .i64) (by omega)
   have hr0:=hr
   rw[gG ha hb h] at hr
   unfold fA at hr
   simp only at hr
   simp only[bQ hlt,cu,aA h0,aA hlt,na,nb,hw]
   by_cases he:a[d]=b[d]
   ·rw[aA he] at hr
    simp only[he,decide_true,cu,aC]
    exact key (d+1) acc (by omega) (by omega) (by omega) hr
   ·rw[aB he] at hr
    split at hr
    ·cases hr
    ·rename_i hne
     have h2:d+1<1024:=by
      by_cases hc:1024≤d+1
      ·exact absurd ((gr ha hb).2 hc) hne
      ·omega
     obtain⟨e,e1,e2,e3,e4,e5,e6⟩:=Wf a b ha hb 18446744073709551615 (d+1) d (d+1) acc r (by omega) (by omega) hr (fun _ _=>trivial) rfl
     have step:ep dG (a,b,(d:Int),((d:Int),((0:Int),())),acc)=some (.aX (a,b,(e:Int),((d:Int),((e:Int),())),acc)):=by
      rw[←e3,py]
      unfold ep
      rw[aK]
      have hne2:¬(((d+1:Nat):Int)=1024):=by omega
      simp only[aA h0,aA hlt,na,nb,hw,he,decide_false,Bool.not_false,cu,cD hne2,dv,dc]
     have hm:(acc.length+1)*16≤aF:=by have:aF=140737488355328:=rfl;omega
     simp only[cD he,dv,dc,step,aC,db,fZ,d9,aA hm]
     refine key e _ (by omega) (by omega) (by omega) ?_
     rw[gG ha hb e1]
     unfold fA
     simp only
     rw[aA (e6 e1)]
     exact e5
  ·have hd:d=1024:=by omega
   subst hd
   have hz:(a.zip b).drop 1024= []:=List.isEmpty_iff.1 ((gr ha hb).2 (cT _))
   rw[hz] at hr
   unfold fA at hr
   cases hr
   rfl
theorem me(a b:iO):jN a b=lT a b:=by
 unfold jN
 split
 ·rename_i ha
  split
  ·rename_i hb
   split
   ·rename_i r h
    unfold lT
    have:=zp a b ha hb dG 0 [] r (by omega) (by decide) (by rw[fJ];exact h)
    erw[this]
    rfl
   ·rfl
  ·rfl
 ·rfl
theorem xX:hS yx:=bG.sub Ej fun _ _ h=>(me _ _).symm.trans h
end Go.Proofs.YtkhfnbfpgcjllaaGreatDoor
