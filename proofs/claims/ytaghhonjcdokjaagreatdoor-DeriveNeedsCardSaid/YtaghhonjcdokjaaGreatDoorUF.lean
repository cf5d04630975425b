/- part -/
import Derived.Test.YtaghhonjcdokjaaGreatDoorF8
import Derived.Test.YtaghhonjcdokjaaGreatDoorA5
noncomputable section
namespace Go.Proofs.YtaghhonjcdokjaaGreatDoor
open Go.Ax
def js:Zl→Zh→Zl→Option (Zh×Zl)
 |[],seen,acc=>some (seen,acc)
 |r::rs,seen,acc=>if bE bJ .bool r seen=true then js rs seen acc else if seen.length+1≤aG then(if(acc.length+1)*40≤aG then js rs (bF bJ r true seen) (acc++[r]) else none) else none
theorem N0(y:YC)(x:Cz)(acc:Zl)(h:(acc.length+1)*40≤aG):nQ y x y 0 (y.gs 1) acc=some (true,y,0,y.gs 1,acc++[x]):=by
 unfold nQ
 rw[iZ]
 simp only[bZ,fc,qf,dY,aA h,aK,Nat.beq]
theorem N1(y:YC)(h:Zl)(n:Zl)(o:cD)(p:Zg)(q r:Int)(s:Bool)(t:Ze)(u:Unit)(v:Zk)(hl:h.length≤aG):
 ∀(m i:Nat)(seen:Zh)(acc:Zl)(z:Zh×Zl),i≤h.length→h.length -i<m→js (h.drop i) seen acc=some z→
  pa y.l (fun d=>nQ y d.1 d.2.1 d.2.2.1 d.2.2.2.1 d.2.2.2.2.1) m
   (y.l,h,(h.length:Int),(i:Int),y,0,y.gs 1,n,o,p,q,r,s,t,u,v,seen,acc)=
  some (.brk (y,0,y.gs 1,n,o,p,q,r,s,t,u,v,z.1,z.2)):=by
 intro m
 induction m with
 |zero=>intro i seen acc z _ h;omega
 |
  succ m ih=>
  intro i seen acc z hi hn hz
  have key:=fun seen acc(_:i<h.length)=>ih (i+1) seen acc z (by omega) (by omega)
  unfold pa at key ⊢
  rw[aO]
  generalize aM _ m=rec at key ⊢
  by_cases hlt':i<h.length
  ·have hd:h.drop i=h[i]::h.drop (i+1):=kU hlt'
   have hw:bB ((i:Int)+1)=((i+1:Nat):Int):=bG (by have:aG=140737488355328:=rfl;omega)
   have hlt:(i:Int)<(h.length:Int):=by omega
   have key:=fun seen acc=>key seen acc hlt'
   rw[hd] at hz
   simp only[js] at hz
   simp only[cU hlt,bZ,fP i,aA hlt,ew (t:=bJ) hlt',hw]
   by_cases h1:bE bJ .bool h[i] seen=true
   ·rw[aA h1] at hz ⊢
    exact key _ _ hz
   ·rw[aD h1] at hz ⊢
    split at hz
    ·rename_i hm
     rw[aA hm]
     split at hz
     ·rename_i hm2
      rw[N0 y _ _ hm2,aK]
      simp only[Bool.not_true,dL,cW]
      exact key _ _ hz
     ·cases hz
    ·cases hz
  ·have:i=h.length:=by omega
   subst this
   simp only[List.drop_length,js,dn] at hz
   subst hz
   simp only[Int.lt_irrefl,decide_false,dL,cW]
def iu(a0:Zl)(a1:Zl)(a2:cD)(a3:Zg)(a4:Int)(a5:Int)(a6:Bool)(a7:Ze)(a8:Unit)(a9:Zk)(a10:Zh):Option (Zl×Zs):=
 if a1.length≤aG then Option.map (fun z=>(a1,a2,a3,a4,a5,a6,a7,a8,a9,z.1,z.2)) (js a1 a10 a0) else none
theorem RL{a0:Zl}{a1:Zl}{a2:cD}{a3:Zg}{a4:Int}{a5:Int}{a6:Bool}{a7:Ze}{a8:Unit}{a9:Zk}{a10:Zh}{r}(h:iu a0 a1 a2 a3 a4 a5 a6 a7 a8 a9 a10=some r):DO a0 a1 a2 a3 a4 a5 a6 a7 a8 a9 a10=some r:=by
 unfold iu at h
 split at h
 ·rename_i hl
  obtain⟨z,hz,rfl⟩:=Option.map_eq_some_iff.1 h
  unfold DO
  rw[tc (r:=.brk (a1,a2,a3,a4,a5,a6,a7,a8,a9,z.1,z.2))]
  ·rfl
  ·intro y
   have h:=N1 y a1 a1 a2 a3 a4 a5 a6 a7 a8 a9 hl (Int.toNat (a1.length:Int)+1) 0 a10 a0 z (by omega) (by simp) (by simpa using hz)
   unfold zL
   erw[h]
   rw[aJ]
   simp only[aK,iZ,bZ]
 ·cases h
def N2:aX:=aE G [.tmp 4] 79 [(.own 0),(.func 153 .nil (.cons (pP 1) (.cons (pP 2) .nil)))] [(0,(.row 64 40 bJ)),(1,(.var (.slice 40 bJ) (.val (.slice 40 bJ)))),(2,(.var (.aP .ptr) (pP 3))),(3,(fB 4 5 0)),(4,(.map bS fC)),(5,(.map bJ .bool))] 53 UC [1,2,3,4,5,32] (.bC (ET iu))
theorem N3:hS N2:=aX.sub RS fun _ _ h=>RL h
end Go.Proofs.YtaghhonjcdokjaaGreatDoor
