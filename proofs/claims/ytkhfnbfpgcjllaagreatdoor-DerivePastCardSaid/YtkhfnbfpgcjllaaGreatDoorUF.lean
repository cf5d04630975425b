/- part -/
import Derived.Test.YtkhfnbfpgcjllaaGreatDoorF8
import Derived.Test.YtkhfnbfpgcjllaaGreatDoorA5
noncomputable section
namespace Go.Proofs.YtkhfnbfpgcjllaaGreatDoor
open Go.Ax
def eP:Zh→Zi→Zh→Option (Zi×Zh)
 |[],seen,acc=>some (seen,acc)
 |r::rs,seen,acc=>if aO bP .bool r seen=true then eP rs seen acc else if seen.length+1≤aF then(if(acc.length+1)*40≤aF then eP rs (bJ bP r true seen) (acc++[r]) else none) else none
theorem T0(y:YC)(x:oF)(acc:Zh)(h:(acc.length+1)*40≤aF):sG y x y 0 (y.gs 1) acc=some (true,y,0,y.gs 1,acc++[x]):=by
 unfold sG
 rw[gn]
 simp only[cu,db,fZ,d9,aA h,aD,Nat.beq]
theorem T1(y:YC)(h:Zh)(n:Zh)(o:aU)(p:Zc)(q r:Int)(s:Bool)(t:Ze)(u:Unit)(v:Zk)(hl:h.length≤aF):
 ∀(m i:Nat)(seen:Zi)(acc:Zh)(z:Zi×Zh),i≤h.length→h.length -i<m→eP (h.drop i) seen acc=some z→
  tN y.l (fun d=>sG y d.1 d.2.1 d.2.2.1 d.2.2.2.1 d.2.2.2.2.1) m
   (y.l,h,(h.length:Int),(i:Int),y,0,y.gs 1,n,o,p,q,r,s,t,u,v,seen,acc)=
  some (.aX (y,0,y.gs 1,n,o,p,q,r,s,t,u,v,z.1,z.2)):=by
 intro m
 induction m with
 |zero=>intro i seen acc z _ h;omega
 |
  succ m ih=>
  intro i seen acc z hi hn hz
  have key:=fun seen acc(_:i<h.length)=>ih (i+1) seen acc z (by omega) (by omega)
  unfold tN at key ⊢
  rw[aK]
  generalize aL _ m=rec at key ⊢
  by_cases hlt':i<h.length
  ·have hd:h.drop i=h[i]::h.drop (i+1):=iu hlt'
   have hw:aV ((i:Int)+1)=((i+1:Nat):Int):=bS (by have:aF=140737488355328:=rfl;omega)
   have hlt:(i:Int)<(h.length:Int):=by omega
   have key:=fun seen acc=>key seen acc hlt'
   rw[hd] at hz
   simp only[eP] at hz
   simp only[bQ hlt,cu,dH i,aA hlt,cH (t:=bP) hlt',hw]
   by_cases h1:aO bP .bool h[i] seen=true
   ·rw[aA h1] at hz ⊢
    exact key _ _ hz
   ·rw[aB h1] at hz ⊢
    split at hz
    ·rename_i hm
     rw[aA hm]
     split at hz
     ·rename_i hm2
      rw[T0 y _ _ hm2,aD]
      simp only[tj,dv,dc]
      exact key _ _ hz
     ·cases hz
    ·cases hz
  ·have:i=h.length:=by omega
   subst this
   simp only[List.drop_length,eP,fy] at hz
   subst hz
   simp only[Int.lt_irrefl,decide_false,dv,dc]
def gj(a0:Zh)(a1:Zh)(a2:aU)(a3:Zc)(a4:Int)(a5:Int)(a6:Bool)(a7:Ze)(a8:Unit)(a9:Zk)(a10:Zi):Option (Zh×Zt):=
 if a1.length≤aF then Option.map (fun z=>(a1,a2,a3,a4,a5,a6,a7,a8,a9,z.1,z.2)) (eP a1 a10 a0) else none
theorem Xw{a0:Zh}{a1:Zh}{a2:aU}{a3:Zc}{a4:Int}{a5:Int}{a6:Bool}{a7:Ze}{a8:Unit}{a9:Zk}{a10:Zi}{r}(h:gj a0 a1 a2 a3 a4 a5 a6 a7 a8 a9 a10=some r):HY a0 a1 a2 a3 a4 a5 a6 a7 a8 a9 a10=some r:=by
 unfold gj at h
 split at h
 ·rename_i hl
  obtain⟨z,hz,rfl⟩:=Option.map_eq_some_iff.1 h
  unfold HY
  rw[oh (r:=.aX (a1,a2,a3,a4,a5,a6,a7,a8,a9,z.1,z.2))]
  ·rfl
  ·intro y
   have h:=T1 y a1 a1 a2 a3 a4 a5 a6 a7 a8 a9 hl (Int.toNat (a1.length:Int)+1) 0 a10 a0 z (by omega) (by simp) (by simpa using hz)
   unfold C1
   erw[h]
   rw[aC]
   simp only[aD,gn,cu]
 ·cases h
def T3:bG:=aG G [.tmp 4] 73 [(.own 0),(.func 135 .nil (.cons (pP 1) (.cons (pP 2) .nil)))] [(0,(.row 84 40 bP)),(1,(.var (.slice 40 bP) (.val (.slice 40 bP)))),(2,(.var (.aW .ptr) (pP 3))),(3,(fB 4 5 0)),(4,(.map aQ fq)),(5,(.map bP .bool))] 53 aad [1,2,3,4,5,32] (.bY (Ib gj))
theorem T4:hS T3:=bG.sub We fun _ _ h=>Xw h
end Go.Proofs.YtkhfnbfpgcjllaaGreatDoor
