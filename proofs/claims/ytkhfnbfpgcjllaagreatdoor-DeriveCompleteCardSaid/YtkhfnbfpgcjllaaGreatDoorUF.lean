/- part -/
import Derived.Test.YtkhfnbfpgcjllaaGreatDoorF8
import Derived.Test.YtkhfnbfpgcjllaaGreatDoorA5
noncomputable section
namespace Go.Proofs.YtkhfnbfpgcjllaaGreatDoor
open Go.Ax
def eT:Zi→Zj→Zi→Option (Zj×Zi)
 |[],seen,acc=>some (seen,acc)
 |r::rs,seen,acc=>if aO bN .bool r seen=true then eT rs seen acc else if seen.length+1≤aF then(if(acc.length+1)*40≤aF then eT rs (bK bN r true seen) (acc++[r]) else none) else none
theorem T8(y:YC)(x:oE)(acc:Zi)(h:(acc.length+1)*40≤aF):sR y x y 0 (y.gs 1) acc=some (true,y,0,y.gs 1,acc++[x]):=by
 unfold sR
 rw[gw]
 simp only[cC,da,fO,ek,aA h,aD,Nat.beq]
theorem T9(y:YC)(h:Zi)(n:Zi)(o:aV)(p:Zc)(q r:Int)(s:Bool)(t:Ze)(u:Unit)(v:Zk)(hl:h.length≤aF):
 ∀(m i:Nat)(seen:Zj)(acc:Zi)(z:Zj×Zi),i≤h.length→h.length -i<m→eT (h.drop i) seen acc=some z→
  tZ y.l (fun d=>sR y d.1 d.2.1 d.2.2.1 d.2.2.2.1 d.2.2.2.2.1) m
   (y.l,h,(h.length:Int),(i:Int),y,0,y.gs 1,n,o,p,q,r,s,t,u,v,seen,acc)=
  some (.aS (y,0,y.gs 1,n,o,p,q,r,s,t,u,v,z.1,z.2)):=by
 intro m
 induction m with
 |zero=>intro i seen acc z _ h;omega
 |
  succ m ih=>
  intro i seen acc z hi hn hz
  have key:=fun seen acc(_:i<h.length)=>ih (i+1) seen acc z (by omega) (by omega)
  unfold tZ at key ⊢
  rw[aK]
  generalize aL _ m=rec at key ⊢
  by_cases hlt':i<h.length
  ·have hd:h.drop i=h[i]::h.drop (i+1):=iA hlt'
   have hw:aQ ((i:Int)+1)=((i+1:Nat):Int):=bU (by have:aF=140737488355328:=rfl;omega)
   have hlt:(i:Int)<(h.length:Int):=by omega
   have key:=fun seen acc=>key seen acc hlt'
   rw[hd] at hz
   simp only[eT] at hz
   simp only[bR hlt,cC,dK i,aA hlt,cJ (t:=bN) hlt',hw]
   by_cases h1:aO bN .bool h[i] seen=true
   ·rw[aA h1] at hz ⊢
    exact key _ _ hz
   ·rw[aB h1] at hz ⊢
    split at hz
    ·rename_i hm
     rw[aA hm]
     split at hz
     ·rename_i hm2
      rw[T8 y _ _ hm2,aD]
      simp only[tC,dv,dc]
      exact key _ _ hz
     ·cases hz
    ·cases hz
  ·have:i=h.length:=by omega
   subst this
   simp only[List.drop_length,eT,fG] at hz
   subst hz
   simp only[Int.lt_irrefl,decide_false,dv,dc]
def gq(a0:Zi)(a1:Zi)(a2:aV)(a3:Zc)(a4:Int)(a5:Int)(a6:Bool)(a7:Ze)(a8:Unit)(a9:Zk)(a10:Zj):Option (Zi×Zt):=
 if a1.length≤aF then Option.map (fun z=>(a1,a2,a3,a4,a5,a6,a7,a8,a9,z.1,z.2)) (eT a1 a10 a0) else none
theorem XB{a0:Zi}{a1:Zi}{a2:aV}{a3:Zc}{a4:Int}{a5:Int}{a6:Bool}{a7:Ze}{a8:Unit}{a9:Zk}{a10:Zj}{r}(h:gq a0 a1 a2 a3 a4 a5 a6 a7 a8 a9 a10=some r):H6 a0 a1 a2 a3 a4 a5 a6 a7 a8 a9 a10=some r:=by
 unfold gq at h
 split at h
 ·rename_i hl
  obtain⟨z,hz,rfl⟩:=Option.map_eq_some_iff.1 h
  unfold H6
  rw[oz (r:=.aS (a1,a2,a3,a4,a5,a6,a7,a8,a9,z.1,z.2))]
  ·rfl
  ·intro y
   have h:=T9 y a1 a1 a2 a3 a4 a5 a6 a7 a8 a9 hl (Int.toNat (a1.length:Int)+1) 0 a10 a0 z (by omega) (by simp) (by simpa using hz)
   unfold C8
   erw[h]
   rw[aC]
   simp only[aD,gw,cC]
 ·cases h
def Ua:bH:=aI G [.tmp 4] 73 [(.own 0),(.func 135 .nil (.cons (pP 1) (.cons (pP 2) .nil)))] [(0,(.row 84 40 bN)),(1,(.var (.slice 40 bN) (.val (.slice 40 bN)))),(2,(.var (.aY .ptr) (pP 3))),(3,(fB 4 5 0)),(4,(.map aR fA)),(5,(.map bN .bool))] 53 aah [1,2,3,4,5,32] (.bZ (Ii gq))
theorem Ub:hS Ua:=bH.sub Wl fun _ _ h=>XB h
end Go.Proofs.YtkhfnbfpgcjllaaGreatDoor
