/- part -/
import Derived.Test.YtpmlkhjpbjnagaaGreatF6
import Derived.Test.YtpmlkhjpbjnagaaGreatA5
noncomputable section
namespace Go.Proofs.YtpmlkhjpbjnagaaGreat
open Go.Ax
def jR:Zh→Zd→Zh→Option (Zd×Zh)
 |[],seen,acc=>some (seen,acc)
 |r::rs,seen,acc=>if aP aR .bool r seen=true then jR rs seen acc else if seen.length+1≤aH then(if(acc.length+1)*40≤aH then jR rs (aY aR r true seen) (acc++[r]) else none) else none
theorem RW(y:YC)(x:pY)(acc:Zh)(h:(acc.length+1)*40≤aH):ov y x y 0 (y.gs 1) acc=some (true,y,0,y.gs 1,acc++[x]):=by
 simp_all[ov,gp]
theorem RX(y:YC)(h:Zh)(n:Zh)(o:bz)(p:Zb)(q r:Int)(s:Bool)(t:Zc)(u:Unit)(v:Zf)(hl:h.length≤aH):
 ∀(m i:Nat)(seen:Zd)(acc:Zh)(z:Zd×Zh),i≤h.length→h.length -i<m→jR (h.drop i) seen acc=some z→
  pU y.l (fun d=>ov y d.1 d.2.1 d.2.2.1 d.2.2.2.1 d.2.2.2.2.1) m
   (y.l,h,(h.length:Int),(i:Int),y,0,y.gs 1,n,o,p,q,r,s,t,u,v,seen,acc)=
  some (.brk (y,0,y.gs 1,n,o,p,q,r,s,t,u,v,z.1,z.2)):=by
 intro m
 induction m with
 |zero=>grind
 |
  succ m ih=>
  intro i seen acc z hi hn hz
  have key:=fun seen acc(_:i<h.length)=>ih (i+1) seen acc z (by omega) (by omega)
  unfold pU at key ⊢
  rw[aN]
  generalize aL _ m=rec at key ⊢
  by_cases hlt':i<h.length
  ·have hd:h.drop i=h[i]::h.drop (i+1):=l7 hlt'
   have hw:bp ((i:Int)+1)=((i+1:Nat):Int):=bk (by have:aH=140737488355328:=rfl;omega)
   have hlt:(i:Int)<(h.length:Int):=by omega
   have key:=fun seen acc=>key seen acc hlt'
   rw[hd] at hz
   simp only[jR] at hz
   simp only[cQ hlt,cj,eA i,aA hlt,cP (t:=aR) hlt',hw]
   by_cases h1:aP aR .bool h[i] seen=true
   ·simp_all
   simp_all[RW]
  ·have:i=h.length:=by omega
   simp_all[jR]
def ik(a0:Zh)(a1:Zh)(a2:bz)(a3:Zb)(a4:Int)(a5:Int)(a6:Bool)(a7:Zc)(a8:Unit)(a9:Zf)(a10:Zd):Option (Zh×Zm):=
 if a1.length≤aH then Option.map (fun z=>(a1,a2,a3,a4,a5,a6,a7,a8,a9,z.1,z.2)) (jR a1 a10 a0) else none
theorem U1{a0:Zh}{a1:Zh}{a2:bz}{a3:Zb}{a4:Int}{a5:Int}{a6:Bool}{a7:Zc}{a8:Unit}{a9:Zf}{a10:Zd}{r}(h:ik a0 a1 a2 a3 a4 a5 a6 a7 a8 a9 a10=some r):Ga a0 a1 a2 a3 a4 a5 a6 a7 a8 a9 a10=some r:=by
 unfold ik at h
 split at h
 ·rename_i hl
  obtain⟨z,hz,rfl⟩:=Option.map_eq_some_iff.1 h
  unfold Ga
  rw[qP (r:=.brk (a1,a2,a3,a4,a5,a6,a7,a8,a9,z.1,z.2))]
  ·rfl
  ·intro y
   have h:=RX y a1 a1 a2 a3 a4 a5 a6 a7 a8 a9 hl (Int.toNat (a1.length:Int)+1) 0 a10 a0 z (by omega) (by simp) (by grind)
   simp_all[Bi,aF,gp]
 grind
def RY:aZ:=aG G [.tmp 4] 89 [(.own 0),(.func 123 .nil (.cons (pP 1) (.cons (pP 2) .nil)))] [(0,(.row 110 40 aR)),(1,(.var (.slice 40 aR) (.val (.slice 40 aR)))),(2,(.var (.aT .ptr) (pP 3))),(3,(fB 4 5 0)),(4,(.map aJ eE)),(5,(.map aR .bool))] 53 Yp [1,2,3,4,5,32] (.bq (MW ik))
theorem RZ:hS RY:=aZ.sub UG fun _ _ h=>U1 h
end Go.Proofs.YtpmlkhjpbjnagaaGreat
