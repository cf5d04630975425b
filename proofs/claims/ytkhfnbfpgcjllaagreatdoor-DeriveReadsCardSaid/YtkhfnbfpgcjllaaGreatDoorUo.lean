/- part -/
import Derived.Test.YtkhfnbfpgcjllaaGreatDoorFV
import Derived.Test.YtkhfnbfpgcjllaaGreatDoorA5
noncomputable section
namespace Go.Proofs.YtkhfnbfpgcjllaaGreatDoor
open Go.Ax
def dZ:Option Nat→Nat→List ZP→Zv→Option Zv
 |none,_,[],acc=>some acc
 |some _,_,[],_=>none
 |none,d,p::l,acc=>if p.1=p.2 then dZ none (d+1) l acc else if l.isEmpty then none else dZ (some d) (d+1) l acc
 |some s,d,p::l,acc=>if p.1=p.2 then(if acc.length≤2000 then dZ none (d+1) l (acc++[((s:Int),((d:Int),()))]) else none) else if l.isEmpty then none else dZ (some s) (d+1) l acc
theorem gM{a b:Zd}(ha:a.length=1024)(hb:b.length=1024){i:Nat}(h:i<1024):
 (a.zip b).drop i=(a[i],b[i])::(a.zip b).drop (i+1):=by
 rw[iA (by rw[List.length_zip];omega),List.getElem_zip]
theorem gB{a b:Zd}(ha:a.length=1024)(hb:b.length=1024){i:Nat}:((a.zip b).drop i).isEmpty=true↔1024≤i:=by
 rw[List.isEmpty_iff,List.drop_eq_nil_iff,List.length_zip,ha,hb];omega
theorem Wm(a b:Zd)(ha:a.length=1024)(hb:b.length=1024):
 ∀(n d s to:Nat)(acc r:Zv),d≤1024→1024 -d<n→dZ (some s) d ((a.zip b).drop d) acc=some r→
  (d<1024→a[d]? ≠b[d]? →True)→to=d→
  ∃e,e<1024∧d≤e∧dJ n (a,b,(d:Int),((s:Int),((to:Int),())),acc)=some (.aS (a,b,(e:Int),((s:Int),((e:Int),())),acc))∧acc.length≤2000∧
   dZ none (e+1) ((a.zip b).drop (e+1)) (acc++[((s:Int),((e:Int),()))])=some r∧(∀h:e<1024,a[e]'(by omega)=b[e]'(by omega)):=by
 intro n
 induction n with
 |zero=>intro d s to acc r _ h;omega
 |
  succ n ih=>
  intro d s to acc r hd hn hr _ hto
  subst hto
  by_cases h:to<1024
  ·rw[gM ha hb h] at hr
   have hlt:(to:Int)<(1024:Int):=by omega
   have h0:(0:Int)≤(to:Int):=cu to
   have hw:aQ ((to:Int)+1)=((to+1:Nat):Int):=bU (by omega)
   have key:=fun h2 hr=>ih (to+1) s (to+1) acc r h2 (by omega) hr (fun _ _=>trivial) rfl
   unfold dJ at key ⊢
   rw[aK]
   generalize aL _ n=rec at key ⊢
   have na:nth (.int .i64) a (to:Int)=a[to]:=cJ (t:=.int .i64) (by omega)
   have nb:nth (.int .i64) b (to:Int)=b[to]:=cJ (t:=.int .i64) (by omega)
   simp only[aA h0,aA hlt,na,nb,hw]
   unfold dZ at hr
   simp only at hr
   by_cases he:a[to]=b[to]
   ·rw[aA he] at hr
    split at hr
    ·rename_i hm
     refine⟨to,h,cV _,?_,hm,hr,fun _=>he⟩
     simp[he]
    ·cases hr
   ·rw[aB he] at hr
    split at hr
    ·cases hr
    ·rename_i hne
     have h2:to+1<1024:=by
      by_cases hc:1024≤to+1
      ·exact absurd ((gB ha hb).2 hc) hne
      ·omega
     have hne2:¬(((to+1:Nat):Int)=1024):=by omega
     obtain⟨e,e1,e2,e3,e4,e5,e6⟩:=key (by omega) hr
     refine⟨e,e1,by omega,?_,e4,e5,e6⟩
     simp only[he,decide_false,Bool.not_false,cC,cD hne2,dv,dc]
     exact e3
  ·have hz:(a.zip b).drop to= []:=by
    have:=(gB ha hb (i:=to)).2 (by omega)
    exact List.isEmpty_iff.1 this
   rw[hz] at hr
   unfold dZ at hr
   cases hr
theorem pL:dA=18446744073709551615+1:=rfl
theorem zx(a b:Zd)(ha:a.length=1024)(hb:b.length=1024):
 ∀(n d:Nat)(acc r:Zv),d≤1024→1024 -d<n→dZ none d ((a.zip b).drop d) acc=some r→
  fj n (a,b,(d:Int),acc)=some (.aS r):=by
 intro n
 induction n with
 |zero=>intro d acc r _ h;omega
 |
  succ n ih=>
  intro d acc r hd hn hr
  have key:=fun d' acc'(h:d<d')=>ih d' acc' r
  unfold fj at key ⊢
  rw[aK]
  generalize aL _ n=rec at key ⊢
  by_cases h:d<1024
  ·have hlt:(d:Int)<(1024:Int):=by omega
   have h0:(0:Int)≤(d:Int):=cu d
   have hw:aQ ((d:Int)+1)=((d+1:Nat):Int):=bU (by omega)
   have na:nth (.int .i64) a (d:Int)=a[d]:=cJ (t:=.int .i64) (by omega)
   have nb:nth (.int .i64) b (d:Int)=b[d]:=cJ (t:=.int .i64) (by omega)
   have hr0:=hr
   rw[gM ha hb h] at hr
   unfold dZ at hr
   simp only at hr
   simp only[bR hlt,cC,aA h0,aA hlt,na,nb,hw]
   by_cases he:a[d]=b[d]
   ·rw[aA he] at hr
    simp only[he,decide_true,cC,aC]
    exact key (d+1) acc (by omega) (by omega) (by omega) hr
   ·rw[aB he] at hr
    split at hr
    ·cases hr
    ·rename_i hne
     have h2:d+1<1024:=by
      by_cases hc:1024≤d+1
      ·exact absurd ((gB ha hb).2 hc) hne
      ·omega
     obtain⟨e,e1,e2,e3,e4,e5,e6⟩:=Wm a b ha hb 18446744073709551615 (d+1) d (d+1) acc r (by omega) (by omega) hr (fun _ _=>trivial) rfl
     have step:dJ dA (a,b,(d:Int),((d:Int),((0:Int),())),acc)=some (.aS (a,b,(e:Int),((d:Int),((e:Int),())),acc)):=by
      rw[←e3,pL]
      unfold dJ
      rw[aK]
      have hne2:¬(((d+1:Nat):Int)=1024):=by omega
      simp only[aA h0,aA hlt,na,nb,hw,he,decide_false,Bool.not_false,cC,cD hne2,dv,dc]
     have hm:(acc.length+1)*16≤aF:=by have:aF=140737488355328:=rfl;omega
     simp only[cD he,dv,dc,step,aC,da,fO,ek,aA hm]
     refine key e _ (by omega) (by omega) (by omega) ?_
     rw[gM ha hb e1]
     unfold dZ
     simp only
     rw[aA (e6 e1)]
     exact e5
  ·have hd:d=1024:=by omega
   subst hd
   have hz:(a.zip b).drop 1024= []:=List.isEmpty_iff.1 ((gB ha hb).2 (cV _))
   rw[hz] at hr
   unfold dZ at hr
   cases hr
   rfl
def ij(a b:eM):Option Zv:=if List.length a=1024 then(if List.length b=1024 then(match dZ none 0 (List.zip a b) [] with|some r=>some r|none=>iy a b) else iy a b) else iy a b
theorem mr(a b:eM):ij a b=iy a b:=by
 unfold ij
 split
 ·rename_i ha
  split
  ·rename_i hb
   split
   ·rename_i r h
    unfold iy
    have:=zx a b ha hb dA 0 [] r (by omega) (by decide) (by rw[fN];exact h)
    erw[this]
    rfl
   ·rfl
  ·rfl
 ·rfl
def yG:bH:=aI G [.tmp 4] 45 [(.dk jX),(.dk jX)] [] 90 abm [] (.bZ (u2 ij))
theorem yg:hS yG:=bH.sub Ep fun _ _ h=>(mr _ _).symm.trans h
end Go.Proofs.YtkhfnbfpgcjllaaGreatDoor
