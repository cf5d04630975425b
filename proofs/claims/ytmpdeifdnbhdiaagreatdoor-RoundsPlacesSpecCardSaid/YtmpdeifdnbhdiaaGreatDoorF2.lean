/- Made by program (dec.py): walks -/
import Derived.Test.YtmpdeifdnbhdiaaGreatDoorF1
set_option maxRecDepth 100000
namespace Go.Proofs.YtmpdeifdnbhdiaaGreatDoor
open Go.Abs
def eS(a0:Int)(a1:Int)(a3:List aO)(RU:Int)(RX:List Int):Nat→Int→Option Int
 |0,_=>none
 |n2+1,RW=>Option.bind (Option.bind (if(decide (RW<a1))=true then(if 0≤RW∧RW<(List.length RX:Int) then(if 0≤(al (RW -(1:Int)))∧(al (RW -(1:Int)))<(List.length RX:Int) then(Option.bind (f21 a3 (nth (.int .i64) RX RW) (nth (.int .i64) RX (al (RW -(1:Int))))) fun y9=>some (!(decide (y9<(0:Int))))) else none) else none) else(some false)) fun(o5:Bool)=>if o5=true then(some (.brk ())) else(some (.ret ()))) fun(o4:iQ Unit Unit)=>match o4 with| .brk _v12=>(eS a0 a1 a3 RU RX n2 (al (RW+(1:Int))))| .ret _v13=>(some RW)
def iX(a0:Int)(a1:Int)(a3:List aO)(RU:Int)(o3:Int):Nat→Int→(List Int)→Option (List Int)
 |0,_,_=>none
 |n3+1,RZ,R8=>if(decide ((1:Int)≤RZ))=true then(if 0≤RZ∧RZ<(List.length R8:Int) then(if 0≤(al (RZ -(1:Int)))∧(al (RZ -(1:Int)))<(List.length R8:Int) then(Option.bind (f21 a3 (nth (.int .i64) R8 RZ) (nth (.int .i64) R8 (al (RZ -(1:Int))))) fun y20=>if(!(decide (y20<(0:Int))))=true then(some R8) else(if(al (RZ -(1:Int)))<(List.length (List.set R8 (Int.toNat RZ) (nth (.int .i64) R8 (al (RZ -(1:Int))))):Int) then(iX a0 a1 a3 RU o3 n3 (al (RZ -(1:Int))) (List.set (List.set R8 (Int.toNat RZ) (nth (.int .i64) R8 (al (RZ -(1:Int))))) (Int.toNat (al (RZ -(1:Int)))) (nth (.int .i64) R8 RZ))) else none)) else none) else none) else(some R8)
def iY(a0:Int)(a1:Int)(a3:List aO)(RU:Int)(o3:Int):Nat→Int→(List Int)→Option (List Int)
 |0,_,_=>none
 |n4+1,Sa,Se=>if(decide (Sa<a1))=true then(if 0≤Sa∧Sa<(List.length Se:Int) then(if 0≤(al (Sa -(1:Int)))∧(al (Sa -(1:Int)))<(List.length Se:Int) then(Option.bind (f21 a3 (nth (.int .i64) Se Sa) (nth (.int .i64) Se (al (Sa -(1:Int))))) fun y29=>if(!(decide (y29<(0:Int))))=true then(some Se) else(if(al (Sa -(1:Int)))<(List.length (List.set Se (Int.toNat Sa) (nth (.int .i64) Se (al (Sa -(1:Int))))):Int) then(iY a0 a1 a3 RU o3 n4 (al (Sa+(1:Int))) (List.set (List.set Se (Int.toNat Sa) (nth (.int .i64) Se (al (Sa -(1:Int))))) (Int.toNat (al (Sa -(1:Int)))) (nth (.int .i64) Se Sa))) else none)) else none) else none) else(some Se)
def gQ(a0:Int)(a1:Int)(a3:List aO):Nat→Int→Int→(List Int)→Option (iQ (List Int) (Bool×(List Int)×(List aO)))
 |0,_,_,_=>none
 |n1+1,RS,RU,RX=>if(decide (RU<(5:Int)))=true then(Option.bind (Option.bind (eS a0 a1 a3 RU RX (bC) RS) fun(o3:Int)=>if(decide (o3=a1))=true then(some (.ret (true,RX,a3))) else(if(decide ((al (a1 -a0))<(50:Int)))=true then(some (.ret (false,RX,a3))) else(if 0≤(al (o3 -(1:Int)))∧(al (o3 -(1:Int)))<(List.length RX:Int) then(if 0≤o3∧o3<(List.length RX:Int) then(if(al (o3 -(1:Int)))<(List.length (List.set RX (Int.toNat o3) (nth (.int .i64) RX (al (o3 -(1:Int))))):Int) then(Option.bind (if(decide ((2:Int)≤(al (o3 -a0))))=true then(iX a0 a1 a3 RU o3 (bC) (al (o3 -(1:Int))) (List.set (List.set RX (Int.toNat o3) (nth (.int .i64) RX (al (o3 -(1:Int))))) (Int.toNat (al (o3 -(1:Int)))) (nth (.int .i64) RX o3))) else(some (List.set (List.set RX (Int.toNat o3) (nth (.int .i64) RX (al (o3 -(1:Int))))) (Int.toNat (al (o3 -(1:Int)))) (nth (.int .i64) RX o3)))) fun(o17:List Int)=>if(decide ((2:Int)≤(al (a1 -o3))))=true then(Option.bind (iY a0 a1 a3 RU o3 (bC) (al (o3+(1:Int))) o17) fun(o26:List Int)=>some (.brk (o3,o26))) else(some (.brk (o3,o17)))) else none) else none) else none))) fun(o2:iQ (Int×(List Int)) (Bool×(List Int)×(List aO)))=>match o2 with| .brk v37=>(gQ a0 a1 a3 n1 v37.1 (al (RU+(1:Int))) v37.2)| .ret r38=>(some (.ret r38))) else(some (.brk RX))
def nK(a0:Int)(a1:Int)(a2:List Int)(a3:List aO):Option (Bool×(List Int)×(List aO)):=
 Option.bind (gQ a0 a1 a3 (bC) (al (a0+(1:Int))) (0:Int) a2) fun(o1:iQ (List Int) (Bool×(List Int)×(List aO)))=>match o1 with| .brk v40=>(some (false,v40,a3))| .ret r41=>(some r41)
abbrev B5(a0:Int)(a1:Int)(a2:List Int)(a3:List aO)(r:Bool×(List Int)×(List aO)):Prop:=Fc Tryz.prog gl 73 [(.own 0),(.val (.int .i64) a0),(.val (.int .i64) a1),(.func (.func 21) (.cons (.own 1) .nil) .nil)] (aA (List.replicate 181 none) [(0,some (.row 3 8 (.int .i64) a2)),(1,some (.row 23 32 aD a3))]) (.ret (.val .bool r.1)) (bz 181 [(0,(.row 3 8 (.int .i64) r.2.1)),(1,(.row 23 32 aD r.2.2))])
theorem Ji(
 a0:Int) (a1:Int) (a2:List Int) (a3:List aO) (r:Bool×(List Int)×(List aO)) (h:nK a0 a1 a2 a3=some r):B5 a0 a1 a2 a3 r:=by
 refine Fc.of Tryz.call73 (bW.aG tied Tryz.func73 rfl rfl (σ0:=ao 141 181 [(0,(.own 0)),(1,(.val (.int .i64) a0)),(2,(.val (.int .i64) a1)),(3,(.func (.func 21) (.cons (.own 1) .nil) .nil))] [(0,some (.row 3 8 (.int .i64) a2)),(1,some (.row 23 32 aD a3))]) (by kernel_rfl) ?_)
 unfold nK at h
 refine aF ?_
 refine aF ?_
 obtain⟨o1,h1,h⟩:=bind_some h
 refine ai.aZ (fun σ'=>∃v40,o1= .brk v40∧σ'=ao 141 181 [] [(0,some (.row 3 8 (.int .i64) v40)),(1,some (.row 23 32 aD a3))]) ?_ ?_
 ·refine aF ?_
  refine ai.block ?_
  refine ai.aV (fun n σ=>∃(RS:Int)(RU:Int)(RX:List Int),gQ a0 a1 a3 n RS RU RX=some o1∧σ=ao 141 181 [(0,(.own 0)),(1,(.val (.int .i64) a0)),(2,(.val (.int .i64) a1)),(3,(.func (.func 21) (.cons (.own 1) .nil) .nil)),(9,(.val (.int .i64) RS)),(10,(.val (.int .i64) RU))] [(0,some (.row 3 8 (.int .i64) RX)),(1,some (.row 23 32 aD a3))]) [.ak [0,1,2,3,9,10] [0,1]] (by kernel_rfl) ⟨_,_,_,h1,rfl⟩ ?_
  rintro n1 _ ⟨RS,RU,RX,h34,rfl⟩
  cases n1 with
  |zero=>exact absurd h34 (by simp[gQ])
  |
   succ n1=>
   unfold gQ at h34
   refine ai.seq ?_
   refine aF ?_
   rcases ae h34 with⟨hc39,h34⟩|⟨hc39,h34⟩
   ·refine cg hc39 ?_
    refine zk ?_
    obtain⟨o2,h35,h34⟩:=bind_some h34
    refine ai.aZ (fun σ'=>∃v37,o2= .brk v37∧σ'=ao 141 181 [(0,(.own 0)),(1,(.val (.int .i64) a0)),(2,(.val (.int .i64) a1)),(3,(.func (.func 21) (.cons (.own 1) .nil) .nil)),(9,(.val (.int .i64) v37.1)),(10,(.val (.int .i64) RU))] [(0,some (.row 3 8 (.int .i64) v37.2)),(1,some (.row 23 32 aD a3))]) ?_ ?_
    ·refine ai.block ?_
     obtain⟨o3,h51,h35⟩:=bind_some h35
     refine ai.aZ (fun σ'=>σ'=ao 141 181 [(0,(.own 0)),(1,(.val (.int .i64) a0)),(2,(.val (.int .i64) a1)),(3,(.func (.func 21) (.cons (.own 1) .nil) .nil)),(9,(.val (.int .i64) o3)),(10,(.val (.int .i64) RU))] [(0,some (.row 3 8 (.int .i64) RX)),(1,some (.row 23 32 aD a3))]) ?_ ?_
     ·refine ai.block ?_
      refine ai.aV (fun n σ=>∃(RW:Int),eS a0 a1 a3 RU RX n RW=some o3∧σ=ao 141 181 [(0,(.own 0)),(1,(.val (.int .i64) a0)),(2,(.val (.int .i64) a1)),(3,(.func (.func 21) (.cons (.own 1) .nil) .nil)),(9,(.val (.int .i64) RW)),(10,(.val (.int .i64) RU))] [(0,some (.row 3 8 (.int .i64) RX)),(1,some (.row 23 32 aD a3))]) [.ak [0,1,2,3,9,10] [0,1]] (by kernel_rfl) ⟨_,h51,rfl⟩ ?_
      rintro n2 _ ⟨RW,h56,rfl⟩
      cases n2 with
      |zero=>exact absurd h56 (by simp[eS])
      |
       succ n2=>
       unfold eS at h56
       obtain⟨o4,h57,h56⟩:=bind_some h56
       refine ai.pc (fun σ'=>∃Bi,o4= .brk Bi∧σ'=ao 141 181 [(0,(.own 0)),(1,(.val (.int .i64) a0)),(2,(.val (.int .i64) a1)),(3,(.func (.func 21) (.cons (.own 1) .nil) .nil)),(9,(.val (.int .i64) RW)),(10,(.val (.int .i64) RU))] [(0,some (.row 3 8 (.int .i64) RX)),(1,some (.row 23 32 aD a3))]) (fun i σ'=>(i=2∧∃J0,o4= .ret J0∧σ'=ao 141 181 [(0,(.own 0)),(1,(.val (.int .i64) a0)),(2,(.val (.int .i64) a1)),(3,(.func (.func 21) (.cons (.own 1) .nil) .nil)),(9,(.val (.int .i64) RW)),(10,(.val (.int .i64) RU))] [(0,some (.row 3 8 (.int .i64) RX)),(1,some (.row 23 32 aD a3))])) (Cl.loop (Cl.bh (Cl.j (Cl.bh (Cl.j (Cl.loop (Cl.bh (Cl.j Cl.f)))))))) ?_ ?_ ?_
       ·obtain⟨o5,h59,h57⟩:=bind_some h57
        refine ai.aZ (fun σ'=>σ'=ao 141 181 [(0,(.own 0)),(1,(.val (.int .i64) a0)),(2,(.val (.int .i64) a1)),(3,(.func (.func 21) (.cons (.own 1) .nil) .nil)),(9,(.val (.int .i64) RW)),(10,(.val (.int .i64) RU)),(36,(.val .bool o5))] [(0,some (.row 3 8 (.int .i64) RX)),(1,some (.row 23 32 aD a3))]) ?_ ?_
        ·rcases ae h59 with⟨hg6,h59⟩|⟨hg6,h59⟩
         ·obtain⟨hv7,h59⟩:=ab h59
          obtain⟨hv8,h59⟩:=ab h59
          obtain⟨y9,hy10,h59⟩:=bind_some h59
          refine jM [⟨(.val (.int .i64) y9),[],[],[],68⟩] [true] [] [(decide (RW<a1))=true,0≤RW,RW<(List.length RX:Int),0≤(al (RW -(1:Int))),(al (RW -(1:Int)))<(List.length RX:Int),AE a3 (nth (.int .i64) RX RW) (nth (.int .i64) RX (al (RW -(1:Int)))) y9] ⟨hg6,hv7.1,hv7.2,hv8.1,hv8.2,Bd _ _ _ _ hy10,trivial⟩ ?_
          obtain rfl:=Option.some.inj h59
          exact bx [.ak [0,1,2,3,9,10,36] [0,1]] rfl
         ·refine jM [] [false] [] [(decide (RW<a1))=false] ⟨hg6,trivial⟩ ?_
          obtain rfl:=Option.some.inj h59
          exact bx [.ak [0,1,2,3,9,10,36] [0,1]] rfl
        ·rintro _ rfl
         rcases ae h57 with⟨hc11,h57⟩|⟨hc11,h57⟩
         ·refine cg hc11 ?_
          refine ai.skip ?_
          obtain rfl:=Option.some.inj h57
          exact kD.mk [.ak [0,1,2,3,9,10] [0,1]] (by kernel_rfl) ⟨_,rfl,rfl⟩
         ·refine cq hc11 ?_
          refine ai.exit ?_
          obtain rfl:=Option.some.inj h57
          exact kD.ex [.ak [0,1,2,3,9,10] [0,1]] (by kernel_rfl) ⟨rfl,_,rfl,rfl⟩
       ·rintro _ _ ⟨rfl,J0,rfl,rfl⟩
        ·dsimp only at h56
         refine lE ?_
         refine bE ?_
         obtain rfl:=Option.some.inj h56
         exact bx [.ak [0,1,2,3,9,10] [0,1]] rfl
       ·rintro _ ⟨Bi,rfl,rfl⟩
        dsimp only at h56
        refine ai.block ?_
        refine fS ?_
        refine bN ?_
        exact gI [.ak [0,1,2,3,9,10] [0,1]] ⟨_,h56,rfl⟩
     ·rintro _ rfl
      refine ai.seq ?_
      refine aF ?_
      rcases ae h35 with⟨hc36,h35⟩|⟨hc36,h35⟩
      ·refine cg hc36 ?_
       refine aF ?_
       refine ai.ret ?_
       obtain rfl:=Option.some.inj h35
       dsimp only at h34
       obtain rfl:=Option.some.inj h34
       dsimp only at h
       obtain rfl:=Option.some.inj h
       exact(av [.ak [8] [0,1]] [some .bool] (cL 181 [0,1]) (by kernel_rfl)).1
      ·refine cq hc36 ?_
       refine zk ?_
       refine ai.seq ?_
       refine aF ?_
       rcases ae h35 with⟨hc35,h35⟩|⟨hc35,h35⟩
       ·refine cg hc35 ?_
        refine aF ?_
        refine ai.ret ?_
        obtain rfl:=Option.some.inj h35
        dsimp only at h34
        obtain rfl:=Option.some.inj h34
        dsimp only at h
        obtain rfl:=Option.some.inj h
        exact(av [.ak [8] [0,1]] [some .bool] (cL 181 [0,1]) (by kernel_rfl)).1
       ·refine cq hc35 ?_
        refine zk ?_
        obtain⟨hv14,h35⟩:=ab h35
        obtain⟨hv15,h35⟩:=ab h35
        obtain⟨hv16,h35⟩:=ab h35
        refine mf [] [] [] [0≤(al (o3 -(1:Int))),(al (o3 -(1:Int)))<(List.length RX:Int),0≤o3,o3<(List.length RX:Int),0≤o3,o3<(List.length RX:Int),0≤(al (o3 -(1:Int))),(al (o3 -(1:Int)))<(List.length (List.set RX (Int.toNat o3) (nth (.int .i64) RX (al (o3 -(1:Int))))):Int)] ⟨hv14.1,hv14.2,hv15.1,hv15.2,hv15.1,hv15.2,hv14.1,hv16,trivial⟩ ?_
        obtain⟨o17,h60,h35⟩:=bind_some h35
        refine ai.aZ (fun σ'=>σ'=ao 141 181 [(0,(.own 0)),(1,(.val (.int .i64) a0)),(2,(.val (.int .i64) a1)),(3,(.func (.func 21) (.cons (.own 1) .nil) .nil)),(9,(.val (.int .i64) o3)),(10,(.val (.int .i64) RU))] [(0,some (.row 3 8 (.int .i64) o17)),(1,some (.row 23 32 aD a3))]) ?_ ?_
        ·refine aF ?_
         rcases ae h60 with⟨hc25,h60⟩|⟨hc25,h60⟩
         ·refine cg hc25 ?_
          refine aF ?_
          refine ai.block ?_
          refine ai.aV (fun n σ=>∃(RZ:Int)(R8:List Int),iX a0 a1 a3 RU o3 n RZ R8=some o17∧σ=ao 141 181 [(0,(.own 0)),(1,(.val (.int .i64) a0)),(2,(.val (.int .i64) a1)),(3,(.func (.func 21) (.cons (.own 1) .nil) .nil)),(9,(.val (.int .i64) o3)),(10,(.val (.int .i64) RU)),(11,(.val (.int .i64) RZ))] [(0,some (.row 3 8 (.int .i64) R8)),(1,some (.row 23 32 aD a3))]) [.ak [0,1,2,3,9,10,11] [0,1]] (by kernel_rfl) ⟨_,_,h60,rfl⟩ ?_
          rintro n3 _ ⟨RZ,R8,h62,rfl⟩
          cases n3 with
          |zero=>exact absurd h62 (by simp[iX])
          |
           succ n3=>
           unfold iX at h62
           refine ai.seq ?_
           refine aF ?_
           rcases ae h62 with⟨hc24,h62⟩|⟨hc24,h62⟩
           ·refine cg hc24 ?_
            refine zk ?_
            refine ai.seq ?_
            refine ai.block ?_
            refine ai.seq ?_
            obtain⟨hv18,h62⟩:=ab h62
            obtain⟨hv19,h62⟩:=ab h62
            obtain⟨y20,hy21,h62⟩:=bind_some h62
            refine mf [⟨(.val (.int .i64) y20),[],[],[],68⟩] [] [] [0≤RZ,RZ<(List.length R8:Int),0≤(al (RZ -(1:Int))),(al (RZ -(1:Int)))<(List.length R8:Int),AE a3 (nth (.int .i64) R8 RZ) (nth (.int .i64) R8 (al (RZ -(1:Int)))) y20] ⟨hv18.1,hv18.2,hv19.1,hv19.2,Bd _ _ _ _ hy21,trivial⟩ ?_
            rcases ae h62 with⟨hc23,h62⟩|⟨hc23,h62⟩
            ·refine cg hc23 ?_
             refine ai.exit ?_
             refine tE ?_
             refine bO rfl ?_
             refine ze ?_
             obtain rfl:=Option.some.inj h62
             exact bx [.ak [0,1,2,3,9,10] [0,1]] rfl
            ·refine cq hc23 ?_
             refine zk ?_
             obtain⟨hv22,h62⟩:=ab h62
             refine jM [] [] [] [0≤(al (RZ -(1:Int))),(al (RZ -(1:Int)))<(List.length R8:Int),0≤RZ,RZ<(List.length R8:Int),0≤RZ,RZ<(List.length R8:Int),0≤(al (RZ -(1:Int))),(al (RZ -(1:Int)))<(List.length (List.set R8 (Int.toNat RZ) (nth (.int .i64) R8 (al (RZ -(1:Int))))):Int)] ⟨hv19.1,hv19.2,hv18.1,hv18.2,hv18.1,hv18.2,hv19.1,hv22,trivial⟩ ?_
             refine bN ?_
             change ai _ _ _ _ _
             refine fS ?_
             exact gI [.ak [0,1,2,3,9,10,11] [0,1]] ⟨_,_,h62,rfl⟩
           ·refine cq hc24 ?_
            refine ai.exit ?_
            refine ze ?_
            obtain rfl:=Option.some.inj h62
            exact bx [.ak [0,1,2,3,9,10] [0,1]] rfl
         ·refine cq hc25 ?_
          refine ai.skip ?_
          obtain rfl:=Option.some.inj h60
          exact bx [.ak [0,1,2,3,9,10] [0,1]] rfl
        ·rintro _ rfl
         refine aF ?_
         rcases ae h35 with⟨hc34,h35⟩|⟨hc34,h35⟩
         ·refine cg hc34 ?_
          refine aF ?_
          obtain⟨o26,h63,h35⟩:=bind_some h35
          refine ai.lA (fun σ'=>σ'=ao 141 181 [(0,(.own 0)),(1,(.val (.int .i64) a0)),(2,(.val (.int .i64) a1)),(3,(.func (.func 21) (.cons (.own 1) .nil) .nil)),(9,(.val (.int .i64) o3)),(10,(.val (.int .i64) RU))] [(0,some (.row 3 8 (.int .i64) o26)),(1,some (.row 23 32 aD a3))]) (Cl.bh (Cl.j (Cl.loop (Cl.bh (Cl.j Cl.f))))) ?_ ?_
          ·refine ai.block ?_
           refine ai.aV (fun n σ=>∃(Sa:Int)(Se:List Int),iY a0 a1 a3 RU o3 n Sa Se=some o26∧σ=ao 141 181 [(0,(.own 0)),(1,(.val (.int .i64) a0)),(2,(.val (.int .i64) a1)),(3,(.func (.func 21) (.cons (.own 1) .nil) .nil)),(9,(.val (.int .i64) o3)),(10,(.val (.int .i64) RU)),(12,(.val (.int .i64) Sa))] [(0,some (.row 3 8 (.int .i64) Se)),(1,some (.row 23 32 aD a3))]) [.ak [0,1,2,3,9,10,12] [0,1]] (by kernel_rfl) ⟨_,_,h63,rfl⟩ ?_
           rintro n4 _ ⟨Sa,Se,h65,rfl⟩
           cases n4 with
           |zero=>exact absurd h65 (by simp[iY])
           |
            succ n4=>
            unfold iY at h65
            refine ai.seq ?_
            refine aF ?_
            rcases ae h65 with⟨hc33,h65⟩|⟨hc33,h65⟩
            ·refine cg hc33 ?_
             refine zk ?_
             refine ai.seq ?_
             refine ai.block ?_
             refine ai.seq ?_
             obtain⟨hv27,h65⟩:=ab h65
             obtain⟨hv28,h65⟩:=ab h65
             obtain⟨y29,hy30,h65⟩:=bind_some h65
             refine mf [⟨(.val (.int .i64) y29),[],[],[],68⟩] [] [] [0≤Sa,Sa<(List.length Se:Int),0≤(al (Sa -(1:Int))),(al (Sa -(1:Int)))<(List.length Se:Int),AE a3 (nth (.int .i64) Se Sa) (nth (.int .i64) Se (al (Sa -(1:Int)))) y29] ⟨hv27.1,hv27.2,hv28.1,hv28.2,Bd _ _ _ _ hy30,trivial⟩ ?_
             rcases ae h65 with⟨hc32,h65⟩|⟨hc32,h65⟩
             ·refine cg hc32 ?_
              refine ai.exit ?_
              refine tE ?_
              refine bO rfl ?_
              refine ze ?_
              obtain rfl:=Option.some.inj h65
              exact bx [.ak [0,1,2,3,9,10] [0,1]] rfl
             ·refine cq hc32 ?_
              refine zk ?_
              obtain⟨hv31,h65⟩:=ab h65
              refine jM [] [] [] [0≤(al (Sa -(1:Int))),(al (Sa -(1:Int)))<(List.length Se:Int),0≤Sa,Sa<(List.length Se:Int),0≤Sa,Sa<(List.length Se:Int),0≤(al (Sa -(1:Int))),(al (Sa -(1:Int)))<(List.length (List.set Se (Int.toNat Sa) (nth (.int .i64) Se (al (Sa -(1:Int))))):Int)] ⟨hv28.1,hv28.2,hv27.1,hv27.2,hv27.1,hv27.2,hv28.1,hv31,trivial⟩ ?_
              refine bN ?_
              change ai _ _ _ _ _
              refine fS ?_
              exact gI [.ak [0,1,2,3,9,10,12] [0,1]] ⟨_,_,h65,rfl⟩
            ·refine cq hc33 ?_
             refine ai.exit ?_
             refine ze ?_
             obtain rfl:=Option.some.inj h65
             exact bx [.ak [0,1,2,3,9,10] [0,1]] rfl
          ·rintro _ rfl
           refine bN ?_
           obtain rfl:=Option.some.inj h35
           exact bx [.ak [0,1,2,3,9,10] [0,1]] ⟨_,rfl,rfl⟩
         ·refine cq hc34 ?_
          refine ai.skip ?_
          refine bN ?_
          obtain rfl:=Option.some.inj h35
          exact bx [.ak [0,1,2,3,9,10] [0,1]] ⟨_,rfl,rfl⟩
    ·rintro _ ⟨v37,rfl,rfl⟩
     dsimp only at h34
     refine fS ?_
     exact gI [.ak [0,1,2,3,9,10] [0,1]] ⟨_,_,_,h34,rfl⟩
   ·refine cq hc39 ?_
    refine ai.exit ?_
    refine ze ?_
    obtain rfl:=Option.some.inj h34
    exact bx [.ak [] [0,1]] ⟨_,rfl,rfl⟩
 ·rintro _ ⟨v40,rfl,rfl⟩
  dsimp only at h
  refine aF ?_
  refine ai.ret ?_
  obtain rfl:=Option.some.inj h
  exact(av [.ak [8] [0,1]] [some .bool] (cL 181 [0,1]) (by kernel_rfl)).1
def eT(a0:Int)(a4:List aO)(RU:Int)(RX:List Int):Nat→Int→Option Int
 |0,_=>none
 |n2+1,RW=>Option.bind (Option.bind (if(decide (RW≤RU))=true then(if 0≤a0∧a0<(List.length RX:Int) then(if 0≤RW∧RW<(List.length RX:Int) then(Option.bind (f21 a4 (nth (.int .i64) RX a0) (nth (.int .i64) RX RW)) fun y12=>some (!(decide (y12<(0:Int))))) else none) else none) else(some false)) fun(o8:Bool)=>if o8=true then(some (.brk ())) else(some (.ret ()))) fun(o7:iQ Unit Unit)=>match o7 with| .brk _v15=>(eT a0 a4 RU RX n2 (al (RW+(1:Int))))| .ret _v16=>(some RW)
def eU(a0:Int)(a4:List aO)(RX:List Int)(o6:Int):Nat→Int→Option Int
 |0,_=>none
 |n3+1,RZ=>Option.bind (Option.bind (if(decide (o6≤RZ))=true then(if 0≤a0∧a0<(List.length RX:Int) then(if 0≤RZ∧RZ<(List.length RX:Int) then(Option.bind (f21 a4 (nth (.int .i64) RX a0) (nth (.int .i64) RX RZ)) fun y23=>some (decide (y23<(0:Int)))) else none) else none) else(some false)) fun(o19:Bool)=>if o19=true then(some (.brk ())) else(some (.ret ()))) fun(o18:iQ Unit Unit)=>match o18 with| .brk _v26=>(eU a0 a4 RX o6 n3 (al (RZ -(1:Int))))| .ret _v27=>(some RZ)
def eV(a0:Int)(a4:List aO):Nat→Int→Int→(List Int)→Option (Int×(List Int))
 |0,_,_,_=>none
 |n1+1,RS,RU,RX=>Option.bind (Option.bind (eT a0 a4 RU RX (bC) RS) fun(o6:Int)=>Option.bind (eU a0 a4 RX o6 (bC) RU) fun(o17:Int)=>if(decide (o17<o6))=true then(some (.ret o6)) else(if 0≤o17∧o17<(List.length RX:Int) then(if 0≤o6∧o6<(List.length RX:Int) then(if o17<(List.length (List.set RX (Int.toNat o6) (nth (.int .i64) RX o17)):Int) then(some (.brk (al (o6+(1:Int)),al (o17 -(1:Int)),List.set (List.set RX (Int.toNat o6) (nth (.int .i64) RX o17)) (Int.toNat o17) (nth (.int .i64) RX o6)))) else none) else none) else none)) fun(o5:iQ (Int×Int×(List Int)) Int)=>match o5 with| .brk v32=>(eV a0 a4 n1 v32.1 v32.2.1 v32.2.2)| .ret v33=>(some (v33,RX))
def qe(a0:Int)(a1:Int)(a2:Int)(a3:List Int)(a4:List aO):Option (Int×(List Int)×(List aO)):=
 if 0≤a2∧a2<(List.length a3:Int) then(if 0≤a0∧a0<(List.length a3:Int) then(if a2<(List.length (List.set a3 (Int.toNat a0) (nth (.int .i64) a3 a2)):Int) then(Option.bind (eV a0 a4 (bC) (al (a0+(1:Int))) (al (a1 -(1:Int))) (List.set (List.set a3 (Int.toNat a0) (nth (.int .i64) a3 a2)) (Int.toNat a2) (nth (.int .i64) a3 a0))) fun(o4:Int×(List Int))=>some (o4.1,o4.2,a4)) else none) else none) else none
abbrev B6(a0:Int)(a1:Int)(a2:Int)(a3:List Int)(a4:List aO)(r:Int×(List Int)×(List aO)):Prop:=Fc Tryz.prog gl 74 [(.own 0),(.val (.int .i64) a0),(.val (.int .i64) a1),(.val (.int .i64) a2),(.func (.func 21) (.cons (.own 1) .nil) .nil)] (aA (List.replicate 130 none) [(0,some (.row 3 8 (.int .i64) a3)),(1,some (.row 23 32 aD a4))]) (.ret (.val (.int .i64) r.1)) (bz 130 [(0,(.row 3 8 (.int .i64) r.2.1)),(1,(.row 23 32 aD r.2.2))])
theorem Jj(
 a0:Int) (a1:Int) (a2:Int) (a3:List Int) (a4:List aO) (r:Int×(List Int)×(List aO)) (h:qe a0 a1 a2 a3 a4=some r):B6 a0 a1 a2 a3 a4 r:=by
 refine Fc.of Tryz.call74 (bW.aG tied Tryz.func74 rfl rfl (σ0:=ao 90 130 [(0,(.own 0)),(1,(.val (.int .i64) a0)),(2,(.val (.int .i64) a1)),(3,(.val (.int .i64) a2)),(4,(.func (.func 21) (.cons (.own 1) .nil) .nil))] [(0,some (.row 3 8 (.int .i64) a3)),(1,some (.row 23 32 aD a4))]) (by kernel_rfl) ?_)
 unfold qe at h
 refine aF ?_
 obtain⟨hv1,h⟩:=ab h
 obtain⟨Sx,h⟩:=ab h
 obtain⟨hv3,h⟩:=ab h
 refine mf [] [] [] [0≤a2,a2<(List.length a3:Int),0≤a0,a0<(List.length a3:Int),0≤a0,a0<(List.length a3:Int),0≤a2,a2<(List.length (List.set a3 (Int.toNat a0) (nth (.int .i64) a3 a2)):Int)] ⟨hv1.1,hv1.2,Sx.1,Sx.2,Sx.1,Sx.2,hv1.1,hv3,trivial⟩ ?_
 refine aF ?_
 obtain⟨o4,h1,h⟩:=bind_some h
 refine ai.aZ (fun σ'=>σ'=ao 90 130 [(11,(.val (.int .i64) o4.1))] [(0,some (.row 3 8 (.int .i64) o4.2)),(1,some (.row 23 32 aD a4))]) ?_ ?_
 ·refine ai.block ?_
  refine ai.aV (fun n σ=>∃(RS:Int)(RU:Int)(RX:List Int),eV a0 a4 n RS RU RX=some o4∧σ=ao 90 130 [(0,(.own 0)),(1,(.val (.int .i64) a0)),(4,(.func (.func 21) (.cons (.own 1) .nil) .nil)),(11,(.val (.int .i64) RS)),(12,(.val (.int .i64) RU))] [(0,some (.row 3 8 (.int .i64) RX)),(1,some (.row 23 32 aD a4))]) [.ak [0,1,4,11,12] [0,1]] (by kernel_rfl) ⟨_,_,_,h1,rfl⟩ ?_
  rintro n1 _ ⟨RS,RU,RX,h40,rfl⟩
  cases n1 with
  |zero=>exact absurd h40 (by simp[eV])
  |
   succ n1=>
   unfold eV at h40
   obtain⟨o5,h41,h40⟩:=bind_some h40
   refine ai.Ix (fun σ'=>∃v32,o5= .brk v32∧σ'=ao 90 130 [(0,(.own 0)),(1,(.val (.int .i64) a0)),(4,(.func (.func 21) (.cons (.own 1) .nil) .nil)),(11,(.val (.int .i64) v32.1)),(12,(.val (.int .i64) v32.2.1))] [(0,some (.row 3 8 (.int .i64) v32.2.2)),(1,some (.row 23 32 aD a4))]) (fun i σ'=>(i=0∧∃v33,o5= .ret v33∧σ'=ao 90 130 [(11,(.val (.int .i64) v33))] [(0,some (.row 3 8 (.int .i64) RX)),(1,some (.row 23 32 aD a4))])) (Cl.loop (Cl.bh (Cl.j Cl.f))) ?_ ?_ ?_
   ·refine ai.block ?_
    obtain⟨o6,h60,h41⟩:=bind_some h41
    refine ai.aZ (fun σ'=>σ'=ao 90 130 [(0,(.own 0)),(1,(.val (.int .i64) a0)),(4,(.func (.func 21) (.cons (.own 1) .nil) .nil)),(11,(.val (.int .i64) o6)),(12,(.val (.int .i64) RU))] [(0,some (.row 3 8 (.int .i64) RX)),(1,some (.row 23 32 aD a4))]) ?_ ?_
    ·refine ai.block ?_
     refine ai.aV (fun n σ=>∃(RW:Int),eT a0 a4 RU RX n RW=some o6∧σ=ao 90 130 [(0,(.own 0)),(1,(.val (.int .i64) a0)),(4,(.func (.func 21) (.cons (.own 1) .nil) .nil)),(11,(.val (.int .i64) RW)),(12,(.val (.int .i64) RU))] [(0,some (.row 3 8 (.int .i64) RX)),(1,some (.row 23 32 aD a4))]) [.ak [0,1,4,11,12] [0,1]] (by kernel_rfl) ⟨_,h60,rfl⟩ ?_
     rintro n2 _ ⟨RW,h65,rfl⟩
     cases n2 with
     |zero=>exact absurd h65 (by simp[eT])
     |
      succ n2=>
      unfold eT at h65
      obtain⟨o7,h66,h65⟩:=bind_some h65
      refine ai.pc (fun σ'=>∃v15,o7= .brk v15∧σ'=ao 90 130 [(0,(.own 0)),(1,(.val (.int .i64) a0)),(4,(.func (.func 21) (.cons (.own 1) .nil) .nil)),(11,(.val (.int .i64) RW)),(12,(.val (.int .i64) RU))] [(0,some (.row 3 8 (.int .i64) RX)),(1,some (.row 23 32 aD a4))]) (fun i σ'=>(i=2∧∃v16,o7= .ret v16∧σ'=ao 90 130 [(0,(.own 0)),(1,(.val (.int .i64) a0)),(4,(.func (.func 21) (.cons (.own 1) .nil) .nil)),(11,(.val (.int .i64) RW)),(12,(.val (.int .i64) RU))] [(0,some (.row 3 8 (.int .i64) RX)),(1,some (.row 23 32 aD a4))])) (Cl.loop (Cl.bh (Cl.j (Cl.bh Cl.jx)))) ?_ ?_ ?_
      ·obtain⟨o8,h68,h66⟩:=bind_some h66
       refine ai.aZ (fun σ'=>σ'=ao 90 130 [(0,(.own 0)),(1,(.val (.int .i64) a0)),(4,(.func (.func 21) (.cons (.own 1) .nil) .nil)),(11,(.val (.int .i64) RW)),(12,(.val (.int .i64) RU)),(47,(.val .bool o8))] [(0,some (.row 3 8 (.int .i64) RX)),(1,some (.row 23 32 aD a4))]) ?_ ?_
       ·rcases ae h68 with⟨hg9,h68⟩|⟨hg9,h68⟩
        ·obtain⟨Sv,h68⟩:=ab h68
         obtain⟨SS,h68⟩:=ab h68
         obtain⟨y12,hy13,h68⟩:=bind_some h68
         refine jM [⟨(.val (.int .i64) y12),[],[],[],68⟩] [true] [] [(decide (RW≤RU))=true,0≤a0,a0<(List.length RX:Int),0≤RW,RW<(List.length RX:Int),AE a4 (nth (.int .i64) RX a0) (nth (.int .i64) RX RW) y12] ⟨hg9,Sv.1,Sv.2,SS.1,SS.2,Bd _ _ _ _ hy13,trivial⟩ ?_
         obtain rfl:=Option.some.inj h68
         exact bx [.ak [0,1,4,11,12,47] [0,1]] rfl
        ·refine jM [] [false] [] [(decide (RW≤RU))=false] ⟨hg9,trivial⟩ ?_
         obtain rfl:=Option.some.inj h68
         exact bx [.ak [0,1,4,11,12,47] [0,1]] rfl
       ·rintro _ rfl
        rcases ae h66 with⟨hc14,h66⟩|⟨hc14,h66⟩
        ·refine cg hc14 ?_
         refine ai.skip ?_
         obtain rfl:=Option.some.inj h66
         exact kD.mk [.ak [0,1,4,11,12] [0,1]] (by kernel_rfl) ⟨_,rfl,rfl⟩
        ·refine cq hc14 ?_
         refine ai.exit ?_
         obtain rfl:=Option.some.inj h66
         exact kD.ex [.ak [0,1,4,11,12] [0,1]] (by kernel_rfl) ⟨rfl,_,rfl,rfl⟩
      ·rintro _ _ ⟨rfl,v16,rfl,rfl⟩
       ·dsimp only at h65
        refine lE ?_
        refine bE ?_
        obtain rfl:=Option.some.inj h65
        exact bx [.ak [0,1,4,11,12] [0,1]] rfl
      ·rintro _ ⟨v15,rfl,rfl⟩
       dsimp only at h65
       refine ai.block ?_
       refine fS ?_
       refine bN ?_
       exact gI [.ak [0,1,4,11,12] [0,1]] ⟨_,h65,rfl⟩
    ·rintro _ rfl
     obtain⟨o17,h69,h41⟩:=bind_some h41
     refine ai.aZ (fun σ'=>σ'=ao 90 130 [(0,(.own 0)),(1,(.val (.int .i64) a0)),(4,(.func (.func 21) (.cons (.own 1) .nil) .nil)),(11,(.val (.int .i64) o6)),(12,(.val (.int .i64) o17))] [(0,some (.row 3 8 (.int .i64) RX)),(1,some (.row 23 32 aD a4))]) ?_ ?_
     ·refine ai.block ?_
      refine ai.aV (fun n σ=>∃(RZ:Int),eU a0 a4 RX o6 n RZ=some o17∧σ=ao 90 130 [(0,(.own 0)),(1,(.val (.int .i64) a0)),(4,(.func (.func 21) (.cons (.own 1) .nil) .nil)),(11,(.val (.int .i64) o6)),(12,(.val (.int .i64) RZ))] [(0,some (.row 3 8 (.int .i64) RX)),(1,some (.row 23 32 aD a4))]) [.ak [0,1,4,11,12] [0,1]] (by kernel_rfl) ⟨_,h69,rfl⟩ ?_
      rintro n3 _ ⟨RZ,h74,rfl⟩
      cases n3 with
      |zero=>exact absurd h74 (by simp[eU])
      |
       succ n3=>
       unfold eU at h74
       obtain⟨o18,h75,h74⟩:=bind_some h74
       refine ai.pc (fun σ'=>∃v26,o18= .brk v26∧σ'=ao 90 130 [(0,(.own 0)),(1,(.val (.int .i64) a0)),(4,(.func (.func 21) (.cons (.own 1) .nil) .nil)),(11,(.val (.int .i64) o6)),(12,(.val (.int .i64) RZ))] [(0,some (.row 3 8 (.int .i64) RX)),(1,some (.row 23 32 aD a4))]) (fun i σ'=>(i=4∧∃v27,o18= .ret v27∧σ'=ao 90 130 [(0,(.own 0)),(1,(.val (.int .i64) a0)),(4,(.func (.func 21) (.cons (.own 1) .nil) .nil)),(11,(.val (.int .i64) o6)),(12,(.val (.int .i64) RZ))] [(0,some (.row 3 8 (.int .i64) RX)),(1,some (.row 23 32 aD a4))])) (Cl.loop (Cl.bh (Cl.j (Cl.bh Cl.jx)))) ?_ ?_ ?_
       ·obtain⟨o19,h77,h75⟩:=bind_some h75
        refine ai.aZ (fun σ'=>σ'=ao 90 130 [(0,(.own 0)),(1,(.val (.int .i64) a0)),(4,(.func (.func 21) (.cons (.own 1) .nil) .nil)),(11,(.val (.int .i64) o6)),(12,(.val (.int .i64) RZ)),(65,(.val .bool o19))] [(0,some (.row 3 8 (.int .i64) RX)),(1,some (.row 23 32 aD a4))]) ?_ ?_
        ·rcases ae h77 with⟨hg20,h77⟩|⟨hg20,h77⟩
         ·obtain⟨hv21,h77⟩:=ab h77
          obtain⟨hv22,h77⟩:=ab h77
          obtain⟨y23,hy24,h77⟩:=bind_some h77
          refine jM [⟨(.val (.int .i64) y23),[],[],[],68⟩] [true] [] [(decide (o6≤RZ))=true,0≤a0,a0<(List.length RX:Int),0≤RZ,RZ<(List.length RX:Int),AE a4 (nth (.int .i64) RX a0) (nth (.int .i64) RX RZ) y23] ⟨hg20,hv21.1,hv21.2,hv22.1,hv22.2,Bd _ _ _ _ hy24,trivial⟩ ?_
          obtain rfl:=Option.some.inj h77
          exact bx [.ak [0,1,4,11,12,65] [0,1]] rfl
         ·refine jM [] [false] [] [(decide (o6≤RZ))=false] ⟨hg20,trivial⟩ ?_
          obtain rfl:=Option.some.inj h77
          exact bx [.ak [0,1,4,11,12,65] [0,1]] rfl
        ·rintro _ rfl
         rcases ae h75 with⟨hc25,h75⟩|⟨hc25,h75⟩
         ·refine cg hc25 ?_
          refine ai.skip ?_
          obtain rfl:=Option.some.inj h75
          exact kD.mk [.ak [0,1,4,11,12] [0,1]] (by kernel_rfl) ⟨_,rfl,rfl⟩
         ·refine cq hc25 ?_
          refine ai.exit ?_
          obtain rfl:=Option.some.inj h75
          exact kD.ex [.ak [0,1,4,11,12] [0,1]] (by kernel_rfl) ⟨rfl,_,rfl,rfl⟩
       ·rintro _ _ ⟨rfl,v27,rfl,rfl⟩
        ·dsimp only at h74
         refine lE ?_
         refine bE ?_
         obtain rfl:=Option.some.inj h74
         exact bx [.ak [0,1,4,11,12] [0,1]] rfl
       ·rintro _ ⟨v26,rfl,rfl⟩
        dsimp only at h74
        refine ai.block ?_
        refine fS ?_
        refine bN ?_
        exact gI [.ak [0,1,4,11,12] [0,1]] ⟨_,h74,rfl⟩
     ·rintro _ rfl
      refine ai.seq ?_
      refine aF ?_
      rcases ae h41 with⟨hc31,h41⟩|⟨hc31,h41⟩
      ·refine cg hc31 ?_
       refine ai.exit ?_
       refine tE ?_
       refine bO rfl ?_
       obtain rfl:=Option.some.inj h41
       exact kD.ex [.ak [11] [0,1]] (by kernel_rfl) ⟨rfl,_,rfl,rfl⟩
      ·refine cq hc31 ?_
       refine zk ?_
       obtain⟨hv28,h41⟩:=ab h41
       obtain⟨hv29,h41⟩:=ab h41
       obtain⟨hv30,h41⟩:=ab h41
       refine mf [] [] [] [0≤o17,o17<(List.length RX:Int),0≤o6,o6<(List.length RX:Int),0≤o6,o6<(List.length RX:Int),0≤o17,o17<(List.length (List.set RX (Int.toNat o6) (nth (.int .i64) RX o17)):Int)] ⟨hv28.1,hv28.2,hv29.1,hv29.2,hv29.1,hv29.2,hv28.1,hv30,trivial⟩ ?_
       refine aF ?_
       refine fS ?_
       refine bN ?_
       obtain rfl:=Option.some.inj h41
       exact kD.mk [.ak [0,1,4,11,12] [0,1]] (by kernel_rfl) ⟨_,rfl,rfl⟩
   ·rintro _ _ ⟨rfl,v33,rfl,rfl⟩
    ·dsimp only at h40
     refine lE ?_
     refine bE ?_
     obtain rfl:=Option.some.inj h40
     exact bx [.ak [11] [0,1]] rfl
   ·rintro _ ⟨v32,rfl,rfl⟩
    dsimp only at h40
    exact gI [.ak [0,1,4,11,12] [0,1]] ⟨_,_,_,h40,rfl⟩
 ·rintro _ rfl
  refine aF ?_
  refine ai.ret ?_
  obtain rfl:=Option.some.inj h
  exact(av [.ak [10] [0,1]] [some (.int .i64)] (cL 130 [0,1]) (by kernel_rfl)).1
end Go.Proofs.YtmpdeifdnbhdiaaGreatDoor
