/- part -/
import Derived.Test.YtpmlkhjpbjnagaaGreatFE
import Derived.Test.YtpmlkhjpbjnagaaGreatA5
noncomputable section
namespace Go.Proofs.YtpmlkhjpbjnagaaGreat
open Go.Ax
def kQ:Option Nat→Nat→List wJ→ZM→Option ZM
 |none,_,[],acc=>some acc
 |some _,_,[],_=>none
 |none,d,p::l,acc=>if p.1=p.2 then kQ none (d+1) l acc else if l.isEmpty then none else kQ (some d) (d+1) l acc
 |some s,d,p::l,acc=>if p.1=p.2 then(if acc.length≤2000 then kQ none (d+1) l (acc++[((s:Int),((d:Int),()))]) else none) else if l.isEmpty then none else kQ (some s) (d+1) l acc
theorem wH{a b:Zg}(ha:a.length=1024)(hb:b.length=1024){i:Nat}(h:i<1024):
 (a.zip b).drop i=(a[i],b[i])::(a.zip b).drop (i+1):=by
 rw[kA (by rw[List.length_zip];omega),List.getElem_zip]
theorem ui{a b:Zg}(ha:a.length=1024)(hb:b.length=1024){i:Nat}:((a.zip b).drop i).isEmpty=true↔1024≤i:=by
 rw[List.isEmpty_iff,List.drop_eq_nil_iff,List.length_zip,ha,hb];omega
theorem l6D(a b:Zg)(ha:a.length=1024)(hb:b.length=1024):
 ∀(n d s to:Nat)(acc r:ZM),d≤1024→1024 -d<n→kQ (some s) d ((a.zip b).drop d) acc=some r→
  (d<1024→a[d]? ≠b[d]? →True)→to=d→
  ∃e,e<1024∧d≤e∧iK n (a,b,(d:Int),((s:Int),((to:Int),())),acc)=some (.bA (a,b,(e:Int),((s:Int),((e:Int),())),acc))∧acc.length≤2000∧
   kQ none (e+1) ((a.zip b).drop (e+1)) (acc++[((s:Int),((e:Int),()))])=some r∧(∀h:e<1024,a[e]'(by omega)=b[e]'(by omega)):=by
 intro n
 induction n with
 |zero=>intro d s to acc r _ h;omega
 |
  succ n ih=>
  intro d s to acc r hd hn hr _ hto
  subst hto
  by_cases h:to<1024
  ·rw[wH ha hb h] at hr
   have hlt:(to:Int)<(1024:Int):=by omega
   have h0:(0:Int)≤(to:Int):=dx to
   have hw:aZ ((to:Int)+1)=((to+1:Nat):Int):=bG (by omega)
   have key:=fun h2 hr=>ih (to+1) s (to+1) acc r h2 (by omega) hr (fun _ _=>trivial) rfl
   unfold iK at key ⊢
   rw[aN]
   generalize aK _ n=rec at key ⊢
   have na:nth (.int .i64) a (to:Int)=a[to]:=dg (t:=.int .i64) (by omega)
   have nb:nth (.int .i64) b (to:Int)=b[to]:=dg (t:=.int .i64) (by omega)
   simp only[aA h0,aA hlt,na,nb,hw]
   unfold kQ at hr
   simp only at hr
   by_cases he:a[to]=b[to]
   ·rw[aA he] at hr
    split at hr
    ·rename_i hm
     refine⟨to,h,dc _,?_,hm,hr,fun _=>he⟩
     simp[he]
    ·cases hr
   ·rw[aC he] at hr
    split at hr
    ·cases hr
    ·rename_i hne
     have h2:to+1<1024:=by
      by_cases hc:1024≤to+1
      ·exact absurd ((ui ha hb).2 hc) hne
      ·omega
     have hne2:¬(((to+1:Nat):Int)=1024):=by omega
     obtain⟨e,e1,e2,e3,e4,e5,e6⟩:=key (by omega) hr
     refine⟨e,e1,by omega,?_,e4,e5,e6⟩
     simp only[he,decide_false,Bool.not_false,bU,dz hne2,dr,cT]
     exact e3
  ·have hz:(a.zip b).drop to= []:=by
    have:=(ui ha hb (i:=to)).2 (by omega)
    exact List.isEmpty_iff.1 this
   rw[hz] at hr
   unfold kQ at hr
   cases hr
theorem Q7:eP=18446744073709551615+1:=rfl
theorem YL(a b:Zg)(ha:a.length=1024)(hb:b.length=1024):
 ∀(n d:Nat)(acc r:ZM),d≤1024→1024 -d<n→kQ none d ((a.zip b).drop d) acc=some r→
  jx n (a,b,(d:Int),acc)=some (.bA r):=by
 intro n
 induction n with
 |zero=>intro d acc r _ h;omega
 |
  succ n ih=>
  intro d acc r hd hn hr
  have key:=fun d' acc'(h:d<d')=>ih d' acc' r
  unfold jx at key ⊢
  rw[aN]
  generalize aK _ n=rec at key ⊢
  by_cases h:d<1024
  ·have hlt:(d:Int)<(1024:Int):=by omega
   have h0:(0:Int)≤(d:Int):=dx d
   have hw:aZ ((d:Int)+1)=((d+1:Nat):Int):=bG (by omega)
   have na:nth (.int .i64) a (d:Int)=a[d]:=dg (t:=.int .i64) (by omega)
   have nb:nth (.int .i64) b (d:Int)=b[d]:=dg (t:=.int .i64) (by omega)
   have hr0:=hr
   rw[wH ha hb h] at hr
   unfold kQ at hr
   simp only at hr
   simp only[cS hlt,bU,aA h0,aA hlt,na,nb,hw]
   by_cases he:a[d]=b[d]
   ·rw[aA he] at hr
    simp only[he,decide_true,bU,aI]
    exact key (d+1) acc (by omega) (by omega) (by omega) hr
   ·rw[aC he] at hr
    split at hr
    ·cases hr
    ·rename_i hne
     have h2:d+1<1024:=by
      by_cases hc:1024≤d+1
      ·exact absurd ((ui ha hb).2 hc) hne
      ·omega
     obtain⟨e,e1,e2,e3,e4,e5,e6⟩:=l6D a b ha hb 18446744073709551615 (d+1) d (d+1) acc r (by omega) (by omega) hr (fun _ _=>trivial) rfl
     have step:iK eP (a,b,(d:Int),((d:Int),((0:Int),())),acc)=some (.bA (a,b,(e:Int),((d:Int),((e:Int),())),acc)):=by
      rw[←e3,Q7]
      unfold iK
      rw[aN]
      have hne2:¬(((d+1:Nat):Int)=1024):=by omega
      simp only[aA h0,aA hlt,na,nb,hw,he,decide_false,Bool.not_false,bU,dz hne2,dr,cT]
     have hm:(acc.length+1)*16≤aG:=by have:aG=140737488355328:=rfl;omega
     simp only[dz he,dr,cT,step,aI,d9,lO,dV,aA hm]
     refine key e _ (by omega) (by omega) (by omega) ?_
     rw[wH ha hb e1]
     unfold kQ
     simp only
     rw[aA (e6 e1)]
     exact e5
  ·have hd:d=1024:=by omega
   subst hd
   have hz:(a.zip b).drop 1024= []:=List.isEmpty_iff.1 ((ui ha hb).2 (dc _))
   rw[hz] at hr
   unfold kQ at hr
   cases hr
   rfl
def lH(a b:gi):Option ZM:=if List.length a=1024 then(if List.length b=1024 then(match kQ none 0 (List.zip a b) [] with|some r=>some r|none=>pw a b) else pw a b) else pw a b
theorem CK(a b:gi):lH a b=pw a b:=by
 unfold lH
 split
 ·rename_i ha
  split
  ·rename_i hb
   split
   ·rename_i r h
    unfold pw
    have:=YL a b ha hb eP 0 [] r (by omega) (by decide) (by rw[gp];exact h)
    erw[this]
    rfl
   ·rfl
  ·rfl
 ·rfl
def Q8:aX:=aE G [.tmp 4] 47 [(.cb i9),(.cb i9)] [] 90 aap [] (.bH (u2 lH))
theorem Q9:hS Q8:=aX.sub VV fun _ _ h=>(CK _ _).symm.trans h
end Go.Proofs.YtpmlkhjpbjnagaaGreat
