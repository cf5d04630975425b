/- part -/
import Derived.Test.YtgdcjlldafmomaaGreatF8
import Derived.Test.YtgdcjlldafmomaaGreatA5
noncomputable section
namespace Go.Proofs.YtgdcjlldafmomaaGreat
open Go.Ax
def iK:Zi→Zh→Zi→Option (Zh×Zi)
 |[],seen,acc=>some (seen,acc)
 |r::rs,seen,acc=>if bw bC .bool r seen=true then iK rs seen acc else if seen.length+1≤aE then(if(acc.length+1)*40≤aE then iK rs (bB bC r true seen) (acc++[r]) else none) else none
theorem Jd(y:YC)(x:vP)(acc:Zi)(h:(acc.length+1)*40≤aE):mQ y x y 0 (y.gs 1) acc=some (true,y,0,y.gs 1,acc++[x]):=by
 unfold mQ
 rw[eP]
 simp only[bH,dH,jK,dN,aA h,aJ,Nat.beq]
theorem Je(y:YC)(h:Zi)(n:Zi)(o:bT)(p:Zd)(q r:Int)(s:Bool)(t:Zf)(u:Unit)(v:Zj)(hl:h.length≤aE):
 ∀(m i:Nat)(seen:Zh)(acc:Zi)(z:Zh×Zi),i≤h.length→h.length -i<m→iK (h.drop i) seen acc=some z→
  nQ y.l (fun d=>mQ y d.1 d.2.1 d.2.2.1 d.2.2.2.1 d.2.2.2.2.1) m
   (y.l,h,(h.length:Int),(i:Int),y,0,y.gs 1,n,o,p,q,r,s,t,u,v,seen,acc)=
  some (.brk (y,0,y.gs 1,n,o,p,q,r,s,t,u,v,z.1,z.2)):=by
 intro m
 induction m with
 |zero=>intro i seen acc z _ h;omega
 |
  succ m ih=>
  intro i seen acc z hi hn hz
  have key:=fun seen acc(_:i<h.length)=>ih (i+1) seen acc z (by omega) (by omega)
  unfold nQ at key ⊢
  rw[aM]
  generalize aK _ m=rec at key ⊢
  by_cases hlt':i<h.length
  ·have hd:h.drop i=h[i]::h.drop (i+1):=jj hlt'
   have hw:aZ ((i:Int)+1)=((i+1:Nat):Int):=bu (by have:aE=140737488355328:=rfl;omega)
   have hlt:(i:Int)<(h.length:Int):=by omega
   have key:=fun seen acc=>key seen acc hlt'
   rw[hd] at hz
   simp only[iK] at hz
   simp only[cu hlt,bH,ei i,aA hlt,cT (t:=bC) hlt',hw]
   by_cases h1:bw bC .bool h[i] seen=true
   ·rw[aA h1] at hz ⊢
    exact key _ _ hz
   ·rw[aC h1] at hz ⊢
    split at hz
    ·rename_i hm
     rw[aA hm]
     split at hz
     ·rename_i hm2
      rw[Jd y _ _ hm2,aJ]
      simp only[oq,cJ,bY]
      exact key _ _ hz
     ·cases hz
    ·cases hz
  ·have:i=h.length:=by omega
   subst this
   simp only[List.drop_length,iK,cX] at hz
   subst hz
   simp only[Int.lt_irrefl,decide_false,cJ,bY]
def jb(a0:Zi)(a1:Zi)(a2:bT)(a3:Zd)(a4:Int)(a5:Int)(a6:Bool)(a7:Zf)(a8:Unit)(a9:Zj)(a10:Zh):Option (Zi×Zs):=
 if a1.length≤aE then Option.map (fun z=>(a1,a2,a3,a4,a5,a6,a7,a8,a9,z.1,z.2)) (iK a1 a10 a0) else none
theorem Mm{a0:Zi}{a1:Zi}{a2:bT}{a3:Zd}{a4:Int}{a5:Int}{a6:Bool}{a7:Zf}{a8:Unit}{a9:Zj}{a10:Zh}{r}(h:jb a0 a1 a2 a3 a4 a5 a6 a7 a8 a9 a10=some r):B7 a0 a1 a2 a3 a4 a5 a6 a7 a8 a9 a10=some r:=by
 unfold jb at h
 split at h
 ·rename_i hl
  obtain⟨z,hz,rfl⟩:=Option.map_eq_some_iff.1 h
  unfold B7
  rw[mF (r:=.brk (a1,a2,a3,a4,a5,a6,a7,a8,a9,z.1,z.2))]
  ·rfl
  ·intro y
   have h:=Je y a1 a1 a2 a3 a4 a5 a6 a7 a8 a9 hl (Int.toNat (a1.length:Int)+1) 0 a10 a0 z (by omega) (by simp) (by simpa using hz)
   unfold yc
   erw[h]
   rw[aH]
   simp only[aJ,eP,bH]
 ·cases h
def Jf:aW:=aF G [.tmp 4] 76 [(.own 0),(.func 116 .nil (.cons (pP 1) (.cons (pP 2) .nil)))] [(0,(.row 74 40 bC)),(1,(.var (.slice 40 bC) (.val (.slice 40 bC)))),(2,(.var (.aR .ptr) (pP 3))),(3,(fB 4 5 0)),(4,(.map bx cj)),(5,(.map bC .bool))] 53 PW [1,2,3,4,5,32] (.bE (IV jb))
theorem Jg:hS Jf:=aW.sub Ny fun _ _ h=>Mm h
end Go.Proofs.YtgdcjlldafmomaaGreat
