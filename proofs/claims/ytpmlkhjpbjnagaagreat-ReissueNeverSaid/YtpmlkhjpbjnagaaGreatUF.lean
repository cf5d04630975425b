/- part -/
import Derived.Test.YtpmlkhjpbjnagaaGreatF6
import Derived.Test.YtpmlkhjpbjnagaaGreatA5
noncomputable section
namespace Go.Proofs.YtpmlkhjpbjnagaaGreat
open Go.Ax
def jU:Zh→Zd→Zh→Option (Zd×Zh)
 |[],seen,acc=>some (seen,acc)
 |r::rs,seen,acc=>if aP aR .bool r seen=true then jU rs seen acc else if seen.length+1≤aH then(if(acc.length+1)*40≤aH then jU rs (aZ aR r true seen) (acc++[r]) else none) else none
theorem Sr(y:YC)(x:qa)(acc:Zh)(h:(acc.length+1)*40≤aH):oC y x y 0 (y.gs 1) acc=some (true,y,0,y.gs 1,acc++[x]):=by
 simp_all[oC,gv]
theorem Ss(y:YC)(h:Zh)(n:Zh)(o:bz)(p:Zb)(q r:Int)(s:Bool)(t:Zc)(u:Unit)(v:Zf)(hl:h.length≤aH):
 ∀(m i:Nat)(seen:Zd)(acc:Zh)(z:Zd×Zh),i≤h.length→h.length -i<m→jU (h.drop i) seen acc=some z→
  pX y.l (fun d=>oC y d.1 d.2.1 d.2.2.1 d.2.2.2.1 d.2.2.2.2.1) m
   (y.l,h,(h.length:Int),(i:Int),y,0,y.gs 1,n,o,p,q,r,s,t,u,v,seen,acc)=
  some (.brk (y,0,y.gs 1,n,o,p,q,r,s,t,u,v,z.1,z.2)):=by
 intro m
 induction m with
 |zero=>grind
 |
  succ m ih=>
  intro i seen acc z hi hn hz
  have key:=fun seen acc(_:i<h.length)=>ih (i+1) seen acc z (by omega) (by omega)
  unfold pX at key ⊢
  rw[aN]
  generalize aL _ m=rec at key ⊢
  by_cases hlt':i<h.length
  ·have hd:h.drop i=h[i]::h.drop (i+1):=ma hlt'
   have hw:bq ((i:Int)+1)=((i+1:Nat):Int):=aY (by have:aH=140737488355328:=rfl;omega)
   have hlt:(i:Int)<(h.length:Int):=by omega
   have key:=fun seen acc=>key seen acc hlt'
   rw[hd] at hz
   simp only[jU] at hz
   simp only[cE hlt,cj,dV i,aA hlt,cK (t:=aR) hlt',hw]
   by_cases h1:aP aR .bool h[i] seen=true
   ·simp_all
   simp_all[Sr]
  ·have:i=h.length:=by omega
   simp_all[jU]
def im(a0:Zh)(a1:Zh)(a2:bz)(a3:Zb)(a4:Int)(a5:Int)(a6:Bool)(a7:Zc)(a8:Unit)(a9:Zf)(a10:Zd):Option (Zh×Zn):=
 if a1.length≤aH then Option.map (fun z=>(a1,a2,a3,a4,a5,a6,a7,a8,a9,z.1,z.2)) (jU a1 a10 a0) else none
theorem Vo{a0:Zh}{a1:Zh}{a2:bz}{a3:Zb}{a4:Int}{a5:Int}{a6:Bool}{a7:Zc}{a8:Unit}{a9:Zf}{a10:Zd}{r}(h:im a0 a1 a2 a3 a4 a5 a6 a7 a8 a9 a10=some r):Gp a0 a1 a2 a3 a4 a5 a6 a7 a8 a9 a10=some r:=by
 unfold im at h
 split at h
 ·rename_i hl
  obtain⟨z,hz,rfl⟩:=Option.map_eq_some_iff.1 h
  unfold Gp
  rw[qS (r:=.brk (a1,a2,a3,a4,a5,a6,a7,a8,a9,z.1,z.2))]
  ·rfl
  ·intro y
   have h:=Ss y a1 a1 a2 a3 a4 a5 a6 a7 a8 a9 hl (Int.toNat (a1.length:Int)+1) 0 a10 a0 z (by omega) (by simp) (by grind)
   simp_all[Bn,aG,gv]
 grind
def Su:bh:=aF G [.tmp 4] 89 [(.own 0),(.func 123 .nil (.cons (pP 1) (.cons (pP 2) .nil)))] [(0,(.row 110 40 aR)),(1,(.var (.slice 40 aR) (.val (.slice 40 aR)))),(2,(.var (.aT .ptr) (pP 3))),(3,(fB 4 5 0)),(4,(.map aK eF)),(5,(.map aR .bool))] 53 Ys [1,2,3,4,5,32] (.br (Nr im))
theorem Sv:hS Su:=bh.sub U4 fun _ _ h=>Vo h
end Go.Proofs.YtpmlkhjpbjnagaaGreat
