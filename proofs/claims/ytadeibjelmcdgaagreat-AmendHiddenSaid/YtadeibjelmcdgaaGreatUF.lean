/- Reads that were not seen before are added, in plain words, in place of the printed function. No condition. -/
import Derived.Test.YtadeibjelmcdgaaGreatFF
noncomputable section
namespace Go.Proofs.YtadeibjelmcdgaaGreat
open Go.Ax
def lq:List aT→List (aT×Bool)→List aT→Option (List (aT×Bool)×List aT)
 |[],seen,acc=>some (seen,acc)
 |r::rs,seen,acc=>if cI bw .bool r seen=true then lq rs seen acc else if seen.length+1≤aF then(if(acc.length+1)*40≤aF then lq rs (cj bw r true seen) (acc++[r]) else none) else none
theorem Eu(y:YC)(x:aT)(acc:List aT)(h:(acc.length+1)*40≤aF):gY y x y 0 (y.gs 1) acc=some (true,y,0,y.gs 1,acc++[x]):=by
 unfold gY
 rw[dP]
 simp only[if_true,List.length_cons,List.length_nil,Nat.zero_add,if_pos h,Option.bind_some,Nat.beq]
theorem Ev(y:YC)(h:List aT)(n:List aT)(o:bH)(p:Option (List (aW×(List aM))))(q r:Int)(s:Bool)(t:Option (List (Int×Bool)))(u:Unit)(v:List (aW×bJ))(hl:h.length≤aF):
 ∀(m i:Nat)(seen:List (aT×Bool))(acc:List aT)(z:List (aT×Bool)×List aT),i≤h.length→h.length -i<m→lq (h.drop i) seen acc=some z→
  jQ y.l (fun d=>gY y d.1 d.2.1 d.2.2.1 d.2.2.2.1 d.2.2.2.2.1) m
   (y.l,h,(h.length:Int),(i:Int),y,0,y.gs 1,n,o,p,q,r,s,t,u,v,seen,acc)=
  some (.brk (y,0,y.gs 1,n,o,p,q,r,s,t,u,v,z.1,z.2)):=by
 intro m
 induction m with
 |zero=>intro i seen acc z _ h;omega
 |
  succ m ih=>
  intro i seen acc z hi hn hz
  have key:=fun seen acc(_:i<h.length)=>ih (i+1) seen acc z (by omega) (by omega)
  unfold jQ at key ⊢
  rw[bx]
  generalize aL _ m=rec at key ⊢
  by_cases hlt':i<h.length
  ·have hd:h.drop i=h[i]::h.drop (i+1):=List.drop_eq_getElem_cons hlt'
   have hw:bM ((i:Int)+1)=((i+1:Nat):Int):=eB (by have:aF=140737488355328:=rfl;omega)
   have Ru:(i:Int)<(h.length:Int):=by omega
   have key:=fun seen acc=>key seen acc hlt'
   rw[hd] at hz
   simp only[lq] at hz
   simp only[decide_eq_true Ru,if_true,if_pos (Int.natCast_nonneg i),if_pos Ru,ml (t:=bw) hlt',hw]
   by_cases h1:cI bw .bool h[i] seen=true
   ·rw[if_pos h1] at hz ⊢
    exact key _ _ hz
   ·rw[if_neg h1] at hz ⊢
    split at hz
    ·rename_i hm
     rw[if_pos hm]
     split at hz
     ·rename_i hm2
      rw[Eu y _ _ hm2,Option.bind_some]
      simp only[Bool.not_true,Bool.false_eq_true,if_false]
      exact key _ _ hz
     ·cases hz
    ·cases hz
  ·have:i=h.length:=by omega
   subst this
   simp only[List.drop_length,lq,Option.some.injEq] at hz
   subst hz
   simp only[Int.lt_irrefl,decide_false,Bool.false_eq_true,if_false]
def gH(a0:List aT)(a1:List aT)(a2:bH)(a3:Option (List (aW×(List aM))))(a4:Int)(a5:Int)(a6:Bool)(a7:Option (List (Int×Bool)))(a8:Unit)(a9:List (aW×bJ))(R9:List (aT×Bool)):Option ((List aT)×bH×(Option (List (aW×(List aM))))×Int×Int×Bool×(Option (List (Int×Bool)))×Unit×(List (aW×bJ))×(List (aT×Bool))×(List aT)):=
 if a1.length≤aF then Option.map (fun z=>(a1,a2,a3,a4,a5,a6,a7,a8,a9,z.1,z.2)) (lq a1 R9 a0) else none
theorem Ew{a0:List aT}{a1:List aT}{a2:bH}{a3:Option (List (aW×(List aM)))}{a4:Int}{a5:Int}{a6:Bool}{a7:Option (List (Int×Bool))}{a8:Unit}{a9:List (aW×bJ)}{R9:List (aT×Bool)}{r}(h:gH a0 a1 a2 a3 a4 a5 a6 a7 a8 a9 R9=some r):qf a0 a1 a2 a3 a4 a5 a6 a7 a8 a9 R9=some r:=by
 unfold gH at h
 split at h
 ·rename_i hl
  obtain⟨z,hz,rfl⟩:=Option.map_eq_some_iff.1 h
  unfold qf
  rw[kQ (r:=.brk (a1,a2,a3,a4,a5,a6,a7,a8,a9,z.1,z.2))]
  ·rfl
  ·intro y
   have h:=Ev y a1 a1 a2 a3 a4 a5 a6 a7 a8 a9 hl (Int.toNat (a1.length:Int)+1) 0 R9 a0 z (by omega) (by simp) (by simpa using hz)
   unfold qd
   erw[h]
   rw[aR]
   simp only[Option.bind_some,dP,if_true]
 ·cases h
def sw:aH:=aB G [.tmp 4] 103 [(.own 0),(.func 163 .nil (.cons (.ptr 1 []) (.cons (.ptr 2 []) .nil)))] [(0,(.row 83 40 bw)),(1,(.var (.slice 40 bw) (.val (.slice 40 bw)))),(2,(.var (.aK .ptr) (.ptr 3 []))),(3,(.var cF (.cons (.val bS) (.cons (.val (.map bC (.slice 64 aP))) (.cons (.val (.int .i64)) (.cons (.val (.int .i64)) (.cons (.val .bool) (.cons (.val (.map (.int .i64) .bool)) (.cons (.mp 4) (.cons (.mp 5) (.cons (.own 0) (.val .unit)))))))))))),(4,(.map bC cE)),(5,(.map bw .bool))] 53 HF [1,2,3,4,5,32] (.bE (fun d=>gH d.1 d.2.1 d.2.2.1 d.2.2.2.1 d.2.2.2.2.1 d.2.2.2.2.2.1 d.2.2.2.2.2.2.1 d.2.2.2.2.2.2.2.1 d.2.2.2.2.2.2.2.2.1 d.2.2.2.2.2.2.2.2.2.1 d.2.2.2.2.2.2.2.2.2.2.1))
theorem BD:sw.holds Tryz.prog gl:=aH.sub C7 fun _ _ h=>Ew h
end Go.Proofs.YtadeibjelmcdgaaGreat
