/- part -/
import Derived.Test.YtpmlkhjpbjnagaaGreatF6
import Derived.Test.YtpmlkhjpbjnagaaGreatA5
noncomputable section
namespace Go.Proofs.YtpmlkhjpbjnagaaGreat
open Go.Ax
def ja:Zi→Ze→Zi→Option (Ze×Zi)
 |[],seen,acc=>some (seen,acc)
 |r::rs,seen,acc=>if aQ aM .bool r seen=true then ja rs seen acc else if seen.length+1≤aG then(if(acc.length+1)*40≤aG then ja rs (bC aM r true seen) (acc++[r]) else none) else none
theorem Rl(y:YC)(x:kS)(acc:Zi)(h:(acc.length+1)*40≤aG):nQ y x y 0 (y.gs 1) acc=some (true,y,0,y.gs 1,acc++[x]):=by
 unfold nQ
 rw[fh]
 simp only[bU,d9,lO,dV,aA h,aL,Nat.beq]
theorem Rm(y:YC)(h:Zi)(n:Zi)(o:bL)(p:Zc)(q r:Int)(s:Bool)(t:Zd)(u:Unit)(v:Zf)(hl:h.length≤aG):
 ∀(m i:Nat)(seen:Ze)(acc:Zi)(z:Ze×Zi),i≤h.length→h.length -i<m→ja (h.drop i) seen acc=some z→
  pg y.l (fun d=>nQ y d.1 d.2.1 d.2.2.1 d.2.2.2.1 d.2.2.2.2.1) m
   (y.l,h,(h.length:Int),(i:Int),y,0,y.gs 1,n,o,p,q,r,s,t,u,v,seen,acc)=
  some (.bA (y,0,y.gs 1,n,o,p,q,r,s,t,u,v,z.1,z.2)):=by
 intro m
 induction m with
 |zero=>intro i seen acc z _ h;omega
 |
  succ m ih=>
  intro i seen acc z hi hn hz
  have key:=fun seen acc(_:i<h.length)=>ih (i+1) seen acc z (by omega) (by omega)
  unfold pg at key ⊢
  rw[aN]
  generalize aK _ m=rec at key ⊢
  by_cases hlt':i<h.length
  ·have hd:h.drop i=h[i]::h.drop (i+1):=kA hlt'
   have hw:aZ ((i:Int)+1)=((i+1:Nat):Int):=bG (by have:aG=140737488355328:=rfl;omega)
   have hlt:(i:Int)<(h.length:Int):=by omega
   have key:=fun seen acc=>key seen acc hlt'
   rw[hd] at hz
   simp only[ja] at hz
   simp only[cS hlt,bU,eN i,aA hlt,dg (t:=aM) hlt',hw]
   by_cases h1:aQ aM .bool h[i] seen=true
   ·rw[aA h1] at hz ⊢
    exact key _ _ hz
   ·rw[aC h1] at hz ⊢
    split at hz
    ·rename_i hm
     rw[aA hm]
     split at hz
     ·rename_i hm2
      rw[Rl y _ _ hm2,aL]
      simp only[Bool.not_true,dr,cT]
      exact key _ _ hz
     ·cases hz
    ·cases hz
  ·have:i=h.length:=by omega
   subst this
   simp only[List.drop_length,ja,dk] at hz
   subst hz
   simp only[Int.lt_irrefl,decide_false,dr,cT]
def ij(a0:Zi)(a1:Zi)(a2:bL)(a3:Zc)(a4:Int)(a5:Int)(a6:Bool)(a7:Zd)(a8:Unit)(a9:Zf)(a10:Ze):Option (Zi×Zr):=
 if a1.length≤aG then Option.map (fun z=>(a1,a2,a3,a4,a5,a6,a7,a8,a9,z.1,z.2)) (ja a1 a10 a0) else none
theorem U5{a0:Zi}{a1:Zi}{a2:bL}{a3:Zc}{a4:Int}{a5:Int}{a6:Bool}{a7:Zd}{a8:Unit}{a9:Zf}{a10:Ze}{r}(h:ij a0 a1 a2 a3 a4 a5 a6 a7 a8 a9 a10=some r):En a0 a1 a2 a3 a4 a5 a6 a7 a8 a9 a10=some r:=by
 unfold ij at h
 split at h
 ·rename_i hl
  obtain⟨z,hz,rfl⟩:=Option.map_eq_some_iff.1 h
  unfold En
  rw[nC (r:=.bA (a1,a2,a3,a4,a5,a6,a7,a8,a9,z.1,z.2))]
  ·rfl
  ·intro y
   have h:=Rm y a1 a1 a2 a3 a4 a5 a6 a7 a8 a9 hl (Int.toNat (a1.length:Int)+1) 0 a10 a0 z (by omega) (by simp) (by simpa using hz)
   unfold zT
   erw[h]
   rw[aI]
   simp only[aL,fh,bU]
 ·cases h
def Ro:aX:=aE G [.tmp 4] 89 [(.own 0),(.func 123 .nil (.cons (pP 1) (.cons (pP 2) .nil)))] [(0,(.row 110 40 aM)),(1,(.var (.slice 40 aM) (.val (.slice 40 aM)))),(2,(.var (.aS .ptr) (pP 3))),(3,(fB 4 5 0)),(4,(.map aF dZ)),(5,(.map aM .bool))] 53 XY [1,2,3,4,5,32] (.bH (LO ij))
theorem Rp:hS Ro:=aX.sub Uc fun _ _ h=>U5 h
end Go.Proofs.YtpmlkhjpbjnagaaGreat
