/- Reads that were not seen before are added, in plain words, in place of the printed function. No condition. -/
import Derived.Test.YtgdcjlldafmomaaGreatF6
import Derived.Test.YtgdcjlldafmomaaGreatA5
noncomputable section
namespace Go.Proofs.YtgdcjlldafmomaaGreat
open Go.Ax
def kr:Zh→Zi→Zh→Option (Zi×Zh)
 |[],seen,acc=>some (seen,acc)
 |r::rs,seen,acc=>if bJ aZ .bool r seen=true then kr rs seen acc else if seen.length+1≤aC then(if(acc.length+1)*40≤aC then kr rs (bz aZ r true seen) (acc++[r]) else none) else none
theorem Hu(y:YC)(x:uY)(acc:Zh)(h:(acc.length+1)*40≤aC):kB y x y 0 (y.gs 1) acc=some (true,y,0,y.gs 1,acc++[x]):=by
 unfold kB
 rw[dK]
 simp only[if_true,List.length_cons,List.length_nil,Nat.zero_add,if_pos h,Option.bind_some,Nat.beq]
theorem Hv(y:YC)(h:Zh)(n:Zh)(o:bL)(p:Zd)(q r:Int)(s:Bool)(t:Ze)(u:Unit)(v:Zj)(hl:h.length≤aC):
 ∀(m i:Nat)(seen:Zi)(acc:Zh)(z:Zi×Zh),i≤h.length→h.length -i<m→kr (h.drop i) seen acc=some z→
  lr y.l (fun d=>kB y d.1 d.2.1 d.2.2.1 d.2.2.2.1 d.2.2.2.2.1) m
   (y.l,h,(h.length:Int),(i:Int),y,0,y.gs 1,n,o,p,q,r,s,t,u,v,seen,acc)=
  some (.brk (y,0,y.gs 1,n,o,p,q,r,s,t,u,v,z.1,z.2)):=by
 intro m
 induction m with
 |zero=>intro i seen acc z _ h;omega
 |
  succ m ih=>
  intro i seen acc z hi hn hz
  have key:=fun seen acc(_:i<h.length)=>ih (i+1) seen acc z (by omega) (by omega)
  unfold lr at key ⊢
  rw[aP]
  generalize aH _ m=rec at key ⊢
  by_cases hlt':i<h.length
  ·have hd:h.drop i=h[i]::h.drop (i+1):=List.drop_eq_getElem_cons hlt'
   have hw:aV ((i:Int)+1)=((i+1:Nat):Int):=aJ (by have:aC=140737488355328:=rfl;omega)
   have hlt:(i:Int)<(h.length:Int):=by omega
   have key:=fun seen acc=>key seen acc hlt'
   rw[hd] at hz
   simp only[kr] at hz
   simp only[decide_eq_true hlt,if_true,if_pos (Int.natCast_nonneg i),if_pos hlt,db (t:=aZ) hlt',hw]
   by_cases h1:bJ aZ .bool h[i] seen=true
   ·rw[if_pos h1] at hz ⊢
    exact key _ _ hz
   ·rw[if_neg h1] at hz ⊢
    split at hz
    ·rename_i hm
     rw[if_pos hm]
     split at hz
     ·rename_i hm2
      rw[Hu y _ _ hm2,Option.bind_some]
      simp only[Bool.not_true,Bool.false_eq_true,if_false]
      exact key _ _ hz
     ·cases hz
    ·cases hz
  ·have:i=h.length:=by omega
   subst this
   simp only[List.drop_length,kr,Option.some.injEq] at hz
   subst hz
   simp only[Int.lt_irrefl,decide_false,Bool.false_eq_true,if_false]
def iA(a0:Zh)(a1:Zh)(a2:bL)(a3:Zd)(a4:Int)(a5:Int)(a6:Bool)(a7:Ze)(a8:Unit)(a9:Zj)(a10:Zi):Option (Zh×Zs):=
 if a1.length≤aC then Option.map (fun z=>(a1,a2,a3,a4,a5,a6,a7,a8,a9,z.1,z.2)) (kr a1 a10 a0) else none
theorem JZ{a0:Zh}{a1:Zh}{a2:bL}{a3:Zd}{a4:Int}{a5:Int}{a6:Bool}{a7:Ze}{a8:Unit}{a9:Zj}{a10:Zi}{r}(h:iA a0 a1 a2 a3 a4 a5 a6 a7 a8 a9 a10=some r):xA a0 a1 a2 a3 a4 a5 a6 a7 a8 a9 a10=some r:=by
 unfold iA at h
 split at h
 ·rename_i hl
  obtain⟨z,hz,rfl⟩:=Option.map_eq_some_iff.1 h
  unfold xA
  rw[kE (r:=.brk (a1,a2,a3,a4,a5,a6,a7,a8,a9,z.1,z.2))]
  ·rfl
  ·intro y
   have h:=Hv y a1 a1 a2 a3 a4 a5 a6 a7 a8 a9 hl (Int.toNat (a1.length:Int)+1) 0 a10 a0 z (by omega) (by simp) (by simpa using hz)
   unfold sX
   erw[h]
   rw[aG]
   simp only[Option.bind_some,dK,if_true]
 ·cases h
def Hw:aT:=aD G [.tmp 4] 76 [(.own 0),(.func 116 .nil (.cons (pP 1) (.cons (pP 2) .nil)))] [(0,(.row 74 40 aZ)),(1,(.var (.slice 40 aZ) (.val (.slice 40 aZ)))),(2,(.var (.aN .ptr) (pP 3))),(3,(fB 4 5 0)),(4,(.map bE bU)),(5,(.map aZ .bool))] 53 Lg [1,2,3,4,5,32] (.bx (G8 iA))
theorem Hx:hS Hw:=aT.sub I1 fun _ _ h=>JZ h
end Go.Proofs.YtgdcjlldafmomaaGreat
