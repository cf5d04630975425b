/- part -/
import Derived.Test.YtgdcjlldafmomaaGreatF6
import Derived.Test.YtgdcjlldafmomaaGreatA5
noncomputable section
namespace Go.Proofs.YtgdcjlldafmomaaGreat
open Go.Ax
def iY:Zh→Zi→Zh→Option (Zi×Zh)
 |[],seen,acc=>some (seen,acc)
 |r::rs,seen,acc=>if bz bx .bool r seen=true then iY rs seen acc else if seen.length+1≤aE then(if(acc.length+1)*40≤aE then iY rs (bE bx r true seen) (acc++[r]) else none) else none
theorem Ji(y:YC)(x:ko)(acc:Zh)(h:(acc.length+1)*40≤aE):mH y x y 0 (y.gs 1) acc=some (true,y,0,y.gs 1,acc++[x]):=by
 unfold mH
 rw[eR]
 simp only[bC,dE,jA,cZ,aA h,aH,Nat.beq]
theorem Jj(y:YC)(h:Zh)(n:Zh)(o:bO)(p:Zd)(q r:Int)(s:Bool)(t:Zf)(u:Unit)(v:Zj)(hl:h.length≤aE):
 ∀(m i:Nat)(seen:Zi)(acc:Zh)(z:Zi×Zh),i≤h.length→h.length -i<m→iY (h.drop i) seen acc=some z→
  nL y.l (fun d=>mH y d.1 d.2.1 d.2.2.1 d.2.2.2.1 d.2.2.2.2.1) m
   (y.l,h,(h.length:Int),(i:Int),y,0,y.gs 1,n,o,p,q,r,s,t,u,v,seen,acc)=
  some (.brk (y,0,y.gs 1,n,o,p,q,r,s,t,u,v,z.1,z.2)):=by
 intro m
 induction m with
 |zero=>intro i seen acc z _ h;omega
 |
  succ m ih=>
  intro i seen acc z hi hn hz
  have key:=fun seen acc(_:i<h.length)=>ih (i+1) seen acc z (by omega) (by omega)
  unfold nL at key ⊢
  rw[aM]
  generalize aK _ m=rec at key ⊢
  by_cases hlt':i<h.length
  ·have hd:h.drop i=h[i]::h.drop (i+1):=jz hlt'
   have hw:aZ ((i:Int)+1)=((i+1:Nat):Int):=bw (by have:aE=140737488355328:=rfl;omega)
   have hlt:(i:Int)<(h.length:Int):=by omega
   have key:=fun seen acc=>key seen acc hlt'
   rw[hd] at hz
   simp only[iY] at hz
   simp only[cC hlt,bC,dQ i,aA hlt,dg (t:=bx) hlt',hw]
   by_cases h1:bz bx .bool h[i] seen=true
   ·rw[aA h1] at hz ⊢
    exact key _ _ hz
   ·rw[aC h1] at hz ⊢
    split at hz
    ·rename_i hm
     rw[aA hm]
     split at hz
     ·rename_i hm2
      rw[Ji y _ _ hm2,aH]
      simp only[kA,cm,bP]
      exact key _ _ hz
     ·cases hz
    ·cases hz
  ·have:i=h.length:=by omega
   subst this
   simp only[List.drop_length,iY,cE] at hz
   subst hz
   simp only[Int.lt_irrefl,decide_false,cm,bP]
def gW(a0:Zh)(a1:Zh)(a2:bO)(a3:Zd)(a4:Int)(a5:Int)(a6:Bool)(a7:Zf)(a8:Unit)(a9:Zj)(a10:Zi):Option (Zh×Zt):=
 if a1.length≤aE then Option.map (fun z=>(a1,a2,a3,a4,a5,a6,a7,a8,a9,z.1,z.2)) (iY a1 a10 a0) else none
theorem LB{a0:Zh}{a1:Zh}{a2:bO}{a3:Zd}{a4:Int}{a5:Int}{a6:Bool}{a7:Zf}{a8:Unit}{a9:Zj}{a10:Zi}{r}(h:gW a0 a1 a2 a3 a4 a5 a6 a7 a8 a9 a10=some r):zR a0 a1 a2 a3 a4 a5 a6 a7 a8 a9 a10=some r:=by
 unfold gW at h
 split at h
 ·rename_i hl
  obtain⟨z,hz,rfl⟩:=Option.map_eq_some_iff.1 h
  unfold zR
  rw[mK (r:=.brk (a1,a2,a3,a4,a5,a6,a7,a8,a9,z.1,z.2))]
  ·rfl
  ·intro y
   have h:=Jj y a1 a1 a2 a3 a4 a5 a6 a7 a8 a9 hl (Int.toNat (a1.length:Int)+1) 0 a10 a0 z (by omega) (by simp) (by simpa using hz)
   unfold vP
   erw[h]
   rw[aI]
   simp only[aH,eR,bC]
 ·cases h
def Jk:aW:=aF G [.tmp 4] 76 [(.own 0),(.func 116 .nil (.cons (pP 1) (.cons (pP 2) .nil)))] [(0,(.row 74 40 bx)),(1,(.var (.slice 40 bx) (.val (.slice 40 bx)))),(2,(.var (.aR .ptr) (pP 3))),(3,(fB 4 5 0)),(4,(.map bu cp)),(5,(.map bx .bool))] 53 MU [1,2,3,4,5,32] (.bH (IW gW))
theorem Jl:hS Jk:=aW.sub KC fun _ _ h=>LB h
end Go.Proofs.YtgdcjlldafmomaaGreat
