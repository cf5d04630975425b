/- Made by program (dec.py): walks -/
import Derived.Test.YtmpdeifdnbhdiaaGreatDoorF2
set_option maxRecDepth 100000
namespace Go.Proofs.YtmpdeifdnbhdiaaGreatDoor
open Go.Abs
def ff(a0:Int)(a1:Int)(a2:Int)(a3:List Int)(a4:List aO):Nat→Int→Option Int
 |0,_=>none
 |n1+1,RS=>Option.bind (Option.bind (if(decide (RS≤(al (a1 -(1:Int)))))=true then(if 0≤RS∧RS<(List.length (List.set (List.set a3 (Int.toNat a0) (nth (.int .i64) a3 a2)) (Int.toNat a2) (nth (.int .i64) a3 a0)):Int) then(if 0≤a0∧a0<(List.length (List.set (List.set a3 (Int.toNat a0) (nth (.int .i64) a3 a2)) (Int.toNat a2) (nth (.int .i64) a3 a0)):Int) then(Option.bind (f21 a4 (nth (.int .i64) (List.set (List.set a3 (Int.toNat a0) (nth (.int .i64) a3 a2)) (Int.toNat a2) (nth (.int .i64) a3 a0)) RS) (nth (.int .i64) (List.set (List.set a3 (Int.toNat a0) (nth (.int .i64) a3 a2)) (Int.toNat a2) (nth (.int .i64) a3 a0)) a0)) fun y10=>some (decide (y10<(0:Int)))) else none) else none) else(some false)) fun(o6:Bool)=>if o6=true then(some (.brk ())) else(some (.ret ()))) fun(o5:iQ Unit Unit)=>match o5 with| .brk _v13=>(ff a0 a1 a2 a3 a4 n1 (al (RS+(1:Int))))| .ret _v14=>(some RS)
def fg(a0:Int)(a2:Int)(a3:List Int)(a4:List aO)(o4:Int):Nat→Int→Option Int
 |0,_=>none
 |n2+1,RW=>Option.bind (Option.bind (if(decide (o4≤RW))=true then(if 0≤RW∧RW<(List.length (List.set (List.set a3 (Int.toNat a0) (nth (.int .i64) a3 a2)) (Int.toNat a2) (nth (.int .i64) a3 a0)):Int) then(if 0≤a0∧a0<(List.length (List.set (List.set a3 (Int.toNat a0) (nth (.int .i64) a3 a2)) (Int.toNat a2) (nth (.int .i64) a3 a0)):Int) then(Option.bind (f21 a4 (nth (.int .i64) (List.set (List.set a3 (Int.toNat a0) (nth (.int .i64) a3 a2)) (Int.toNat a2) (nth (.int .i64) a3 a0)) RW) (nth (.int .i64) (List.set (List.set a3 (Int.toNat a0) (nth (.int .i64) a3 a2)) (Int.toNat a2) (nth (.int .i64) a3 a0)) a0)) fun y21=>some (!(decide (y21<(0:Int))))) else none) else none) else(some false)) fun(o17:Bool)=>if o17=true then(some (.brk ())) else(some (.ret ()))) fun(o16:iQ Unit Unit)=>match o16 with| .brk _v24=>(fg a0 a2 a3 a4 o4 n2 (al (RW -(1:Int))))| .ret _v25=>(some RW)
def fh(a0:Int)(a4:List aO)(R8:Int)(Sh:List Int):Nat→Int→Option Int
 |0,_=>none
 |n4+1,Sa=>Option.bind (Option.bind (if(decide (Sa≤R8))=true then(if 0≤Sa∧Sa<(List.length Sh:Int) then(if 0≤a0∧a0<(List.length Sh:Int) then(Option.bind (f21 a4 (nth (.int .i64) Sh Sa) (nth (.int .i64) Sh a0)) fun y40=>some (decide (y40<(0:Int)))) else none) else none) else(some false)) fun(o36:Bool)=>if o36=true then(some (.brk ())) else(some (.ret ()))) fun(o35:iQ Unit Unit)=>match o35 with| .brk _v43=>(fh a0 a4 R8 Sh n4 (al (Sa+(1:Int))))| .ret _v44=>(some Sa)
def fj(a0:Int)(a4:List aO)(Sh:List Int)(o34:Int):Nat→Int→Option Int
 |0,_=>none
 |n5+1,Sw=>Option.bind (Option.bind (if(decide (o34≤Sw))=true then(if 0≤Sw∧Sw<(List.length Sh:Int) then(if 0≤a0∧a0<(List.length Sh:Int) then(Option.bind (f21 a4 (nth (.int .i64) Sh Sw) (nth (.int .i64) Sh a0)) fun y51=>some (!(decide (y51<(0:Int))))) else none) else none) else(some false)) fun(o47:Bool)=>if o47=true then(some (.brk ())) else(some (.ret ()))) fun(o46:iQ Unit Unit)=>match o46 with| .brk _v54=>(fj a0 a4 Sh o34 n5 (al (Sw -(1:Int))))| .ret _v55=>(some Sw)
def fm(a0:Int)(a4:List aO):Nat→Int→Int→(List Int)→Option (Int×(List Int))
 |0,_,_,_=>none
 |n3+1,RZ,R8,Sh=>Option.bind (Option.bind (fh a0 a4 R8 Sh (bC) RZ) fun(o34:Int)=>Option.bind (fj a0 a4 Sh o34 (bC) R8) fun(o45:Int)=>if(decide (o45<o34))=true then(some (.ret o45)) else(if 0≤o45∧o45<(List.length Sh:Int) then(if 0≤o34∧o34<(List.length Sh:Int) then(if o45<(List.length (List.set Sh (Int.toNat o34) (nth (.int .i64) Sh o45)):Int) then(some (.brk (al (o34+(1:Int)),al (o45 -(1:Int)),List.set (List.set Sh (Int.toNat o34) (nth (.int .i64) Sh o45)) (Int.toNat o45) (nth (.int .i64) Sh o34)))) else none) else none) else none)) fun(o33:iQ (Int×Int×(List Int)) Int)=>match o33 with| .brk v60=>(fm a0 a4 n3 v60.1 v60.2.1 v60.2.2)| .ret v61=>(some (v61,Sh))
def rL(a0:Int)(a1:Int)(a2:Int)(a3:List Int)(a4:List aO):Option (Int×Bool×(List Int)×(List aO)):=
 if 0≤a2∧a2<(List.length a3:Int) then(if 0≤a0∧a0<(List.length a3:Int) then(if a2<(List.length (List.set a3 (Int.toNat a0) (nth (.int .i64) a3 a2)):Int) then(Option.bind (ff a0 a1 a2 a3 a4 (bC) (al (a0+(1:Int)))) fun(o4:Int)=>Option.bind (fg a0 a2 a3 a4 o4 (bC) (al (a1 -(1:Int)))) fun(o15:Int)=>if(decide (o15<o4))=true then(if a0<(List.length (List.set (List.set a3 (Int.toNat a0) (nth (.int .i64) a3 a2)) (Int.toNat a2) (nth (.int .i64) a3 a0)):Int) then(if 0≤o15∧o15<(List.length (List.set (List.set a3 (Int.toNat a0) (nth (.int .i64) a3 a2)) (Int.toNat a2) (nth (.int .i64) a3 a0)):Int) then(if a0<(List.length (List.set (List.set (List.set a3 (Int.toNat a0) (nth (.int .i64) a3 a2)) (Int.toNat a2) (nth (.int .i64) a3 a0)) (Int.toNat o15) (nth (.int .i64) (List.set (List.set a3 (Int.toNat a0) (nth (.int .i64) a3 a2)) (Int.toNat a2) (nth (.int .i64) a3 a0)) a0)):Int) then(some (o15,true,List.set (List.set (List.set (List.set a3 (Int.toNat a0) (nth (.int .i64) a3 a2)) (Int.toNat a2) (nth (.int .i64) a3 a0)) (Int.toNat o15) (nth (.int .i64) (List.set (List.set a3 (Int.toNat a0) (nth (.int .i64) a3 a2)) (Int.toNat a2) (nth (.int .i64) a3 a0)) a0)) (Int.toNat a0) (nth (.int .i64) (List.set (List.set a3 (Int.toNat a0) (nth (.int .i64) a3 a2)) (Int.toNat a2) (nth (.int .i64) a3 a0)) o15),a4)) else none) else none) else none) else(if 0≤o15∧o15<(List.length (List.set (List.set a3 (Int.toNat a0) (nth (.int .i64) a3 a2)) (Int.toNat a2) (nth (.int .i64) a3 a0)):Int) then(if 0≤o4∧o4<(List.length (List.set (List.set a3 (Int.toNat a0) (nth (.int .i64) a3 a2)) (Int.toNat a2) (nth (.int .i64) a3 a0)):Int) then(if o15<(List.length (List.set (List.set (List.set a3 (Int.toNat a0) (nth (.int .i64) a3 a2)) (Int.toNat a2) (nth (.int .i64) a3 a0)) (Int.toNat o4) (nth (.int .i64) (List.set (List.set a3 (Int.toNat a0) (nth (.int .i64) a3 a2)) (Int.toNat a2) (nth (.int .i64) a3 a0)) o15)):Int) then(Option.bind (fm a0 a4 (bC) (al (o4+(1:Int))) (al (o15 -(1:Int))) (List.set (List.set (List.set (List.set a3 (Int.toNat a0) (nth (.int .i64) a3 a2)) (Int.toNat a2) (nth (.int .i64) a3 a0)) (Int.toNat o4) (nth (.int .i64) (List.set (List.set a3 (Int.toNat a0) (nth (.int .i64) a3 a2)) (Int.toNat a2) (nth (.int .i64) a3 a0)) o15)) (Int.toNat o15) (nth (.int .i64) (List.set (List.set a3 (Int.toNat a0) (nth (.int .i64) a3 a2)) (Int.toNat a2) (nth (.int .i64) a3 a0)) o4))) fun(o32:Int×(List Int))=>if a0<(List.length o32.2:Int) then(if 0≤o32.1∧o32.1<(List.length o32.2:Int) then(if a0<(List.length (List.set o32.2 (Int.toNat o32.1) (nth (.int .i64) o32.2 a0)):Int) then(some (o32.1,false,List.set (List.set o32.2 (Int.toNat o32.1) (nth (.int .i64) o32.2 a0)) (Int.toNat a0) (nth (.int .i64) o32.2 o32.1),a4)) else none) else none) else none) else none) else none) else none)) else none) else none) else none
abbrev DL(a0:Int)(a1:Int)(a2:Int)(a3:List Int)(a4:List aO)(r:Int×Bool×(List Int)×(List aO)):Prop:=Fc Tryz.prog gl 75 [(.own 0),(.val (.int .i64) a0),(.val (.int .i64) a1),(.val (.int .i64) a2),(.func (.func 21) (.cons (.own 1) .nil) .nil)] (aA (List.replicate 218 none) [(0,some (.row 3 8 (.int .i64) a3)),(1,some (.row 23 32 aD a4))]) (.ret (.bU (.cons (.val (.int .i64) r.1) (.cons (.val .bool r.2.1) .nil)))) (bz 218 [(0,(.row 3 8 (.int .i64) r.2.2.1)),(1,(.row 23 32 aD r.2.2.2))])
theorem J8(
 a0:Int) (a1:Int) (a2:Int) (a3:List Int) (a4:List aO) (r:Int×Bool×(List Int)×(List aO)) (h:rL a0 a1 a2 a3 a4=some r):DL a0 a1 a2 a3 a4 r:=by
 refine Fc.of Tryz.call75 (bW.aG tied Tryz.func75 rfl rfl (σ0:=ao 178 218 [(0,(.own 0)),(1,(.val (.int .i64) a0)),(2,(.val (.int .i64) a1)),(3,(.val (.int .i64) a2)),(4,(.func (.func 21) (.cons (.own 1) .nil) .nil))] [(0,some (.row 3 8 (.int .i64) a3)),(1,some (.row 23 32 aD a4))]) (by kernel_rfl) ?_)
 unfold rL at h
 refine aF ?_
 obtain⟨hv1,h⟩:=ab h
 obtain⟨Sx,h⟩:=ab h
 obtain⟨hv3,h⟩:=ab h
 refine mf [] [] [] [0≤a2,a2<(List.length a3:Int),0≤a0,a0<(List.length a3:Int),0≤a0,a0<(List.length a3:Int),0≤a2,a2<(List.length (List.set a3 (Int.toNat a0) (nth (.int .i64) a3 a2)):Int)] ⟨hv1.1,hv1.2,Sx.1,Sx.2,Sx.1,Sx.2,hv1.1,hv3,trivial⟩ ?_
 refine aF ?_
 obtain⟨o4,h1,h⟩:=bind_some h
 refine ai.aZ (fun σ'=>σ'=ao 178 218 [(0,(.own 0)),(1,(.val (.int .i64) a0)),(4,(.func (.func 21) (.cons (.own 1) .nil) .nil)),(12,(.val (.int .i64) o4)),(13,(.val (.int .i64) (al (a1 -(1:Int)))))] [(0,some (.row 3 8 (.int .i64) (List.set (List.set a3 (Int.toNat a0) (nth (.int .i64) a3 a2)) (Int.toNat a2) (nth (.int .i64) a3 a0)))),(1,some (.row 23 32 aD a4))]) ?_ ?_
 ·refine ai.block ?_
  refine ai.aV (fun n σ=>∃(RS:Int),ff a0 a1 a2 a3 a4 n RS=some o4∧σ=ao 178 218 [(0,(.own 0)),(1,(.val (.int .i64) a0)),(4,(.func (.func 21) (.cons (.own 1) .nil) .nil)),(12,(.val (.int .i64) RS)),(13,(.val (.int .i64) (al (a1 -(1:Int)))))] [(0,some (.row 3 8 (.int .i64) (List.set (List.set a3 (Int.toNat a0) (nth (.int .i64) a3 a2)) (Int.toNat a2) (nth (.int .i64) a3 a0)))),(1,some (.row 23 32 aD a4))]) [.ak [0,1,4,12,13] [0,1]] (by kernel_rfl) ⟨_,h1,rfl⟩ ?_
  rintro n1 _ ⟨RS,h6,rfl⟩
  cases n1 with
  |zero=>exact absurd h6 (by simp[ff])
  |
   succ n1=>
   unfold ff at h6
   obtain⟨o5,h7,h6⟩:=bind_some h6
   refine ai.pc (fun σ'=>∃J0,o5= .brk J0∧σ'=ao 178 218 [(0,(.own 0)),(1,(.val (.int .i64) a0)),(4,(.func (.func 21) (.cons (.own 1) .nil) .nil)),(12,(.val (.int .i64) RS)),(13,(.val (.int .i64) (al (a1 -(1:Int)))))] [(0,some (.row 3 8 (.int .i64) (List.set (List.set a3 (Int.toNat a0) (nth (.int .i64) a3 a2)) (Int.toNat a2) (nth (.int .i64) a3 a0)))),(1,some (.row 23 32 aD a4))]) (fun i σ'=>(i=0∧∃v14,o5= .ret v14∧σ'=ao 178 218 [(0,(.own 0)),(1,(.val (.int .i64) a0)),(4,(.func (.func 21) (.cons (.own 1) .nil) .nil)),(12,(.val (.int .i64) RS)),(13,(.val (.int .i64) (al (a1 -(1:Int)))))] [(0,some (.row 3 8 (.int .i64) (List.set (List.set a3 (Int.toNat a0) (nth (.int .i64) a3 a2)) (Int.toNat a2) (nth (.int .i64) a3 a0)))),(1,some (.row 23 32 aD a4))])) (Cl.loop (Cl.bh (Cl.j Cl.f))) ?_ ?_ ?_
   ·obtain⟨o6,h9,h7⟩:=bind_some h7
    refine ai.aZ (fun σ'=>σ'=ao 178 218 [(0,(.own 0)),(1,(.val (.int .i64) a0)),(4,(.func (.func 21) (.cons (.own 1) .nil) .nil)),(12,(.val (.int .i64) RS)),(13,(.val (.int .i64) (al (a1 -(1:Int))))),(47,(.val .bool o6))] [(0,some (.row 3 8 (.int .i64) (List.set (List.set a3 (Int.toNat a0) (nth (.int .i64) a3 a2)) (Int.toNat a2) (nth (.int .i64) a3 a0)))),(1,some (.row 23 32 aD a4))]) ?_ ?_
    ·rcases ae h9 with⟨hg7,h9⟩|⟨hg7,h9⟩
     ·obtain⟨hv8,h9⟩:=ab h9
      obtain⟨hv9,h9⟩:=ab h9
      obtain⟨y10,hy11,h9⟩:=bind_some h9
      refine jM [⟨(.val (.int .i64) y10),[],[],[],68⟩] [true] [] [(decide (RS≤(al (a1 -(1:Int)))))=true,0≤RS,RS<(List.length (List.set (List.set a3 (Int.toNat a0) (nth (.int .i64) a3 a2)) (Int.toNat a2) (nth (.int .i64) a3 a0)):Int),0≤a0,a0<(List.length (List.set (List.set a3 (Int.toNat a0) (nth (.int .i64) a3 a2)) (Int.toNat a2) (nth (.int .i64) a3 a0)):Int),AE a4 (nth (.int .i64) (List.set (List.set a3 (Int.toNat a0) (nth (.int .i64) a3 a2)) (Int.toNat a2) (nth (.int .i64) a3 a0)) RS) (nth (.int .i64) (List.set (List.set a3 (Int.toNat a0) (nth (.int .i64) a3 a2)) (Int.toNat a2) (nth (.int .i64) a3 a0)) a0) y10] ⟨hg7,hv8.1,hv8.2,hv9.1,hv9.2,Bd _ _ _ _ hy11,trivial⟩ ?_
      obtain rfl:=Option.some.inj h9
      exact bx [.ak [0,1,4,12,13,47] [0,1]] rfl
     ·refine jM [] [false] [] [(decide (RS≤(al (a1 -(1:Int)))))=false] ⟨hg7,trivial⟩ ?_
      obtain rfl:=Option.some.inj h9
      exact bx [.ak [0,1,4,12,13,47] [0,1]] rfl
    ·rintro _ rfl
     rcases ae h7 with⟨SP,h7⟩|⟨SP,h7⟩
     ·refine cg SP ?_
      refine ai.skip ?_
      obtain rfl:=Option.some.inj h7
      exact kD.mk [.ak [0,1,4,12,13] [0,1]] (by kernel_rfl) ⟨_,rfl,rfl⟩
     ·refine cq SP ?_
      refine ai.exit ?_
      obtain rfl:=Option.some.inj h7
      exact kD.ex [.ak [0,1,4,12,13] [0,1]] (by kernel_rfl) ⟨rfl,_,rfl,rfl⟩
   ·rintro _ _ ⟨rfl,v14,rfl,rfl⟩
    ·dsimp only at h6
     refine lE ?_
     refine bE ?_
     obtain rfl:=Option.some.inj h6
     exact bx [.ak [0,1,4,12,13] [0,1]] rfl
   ·rintro _ ⟨J0,rfl,rfl⟩
    dsimp only at h6
    refine ai.block ?_
    refine fS ?_
    refine bN ?_
    exact gI [.ak [0,1,4,12,13] [0,1]] ⟨_,h6,rfl⟩
 ·rintro _ rfl
  obtain⟨o15,SW,h⟩:=bind_some h
  refine ai.aZ (fun σ'=>σ'=ao 178 218 [(0,(.own 0)),(1,(.val (.int .i64) a0)),(4,(.func (.func 21) (.cons (.own 1) .nil) .nil)),(12,(.val (.int .i64) o4)),(13,(.val (.int .i64) o15))] [(0,some (.row 3 8 (.int .i64) (List.set (List.set a3 (Int.toNat a0) (nth (.int .i64) a3 a2)) (Int.toNat a2) (nth (.int .i64) a3 a0)))),(1,some (.row 23 32 aD a4))]) ?_ ?_
  ·refine ai.block ?_
   refine ai.aV (fun n σ=>∃(RW:Int),fg a0 a2 a3 a4 o4 n RW=some o15∧σ=ao 178 218 [(0,(.own 0)),(1,(.val (.int .i64) a0)),(4,(.func (.func 21) (.cons (.own 1) .nil) .nil)),(12,(.val (.int .i64) o4)),(13,(.val (.int .i64) RW))] [(0,some (.row 3 8 (.int .i64) (List.set (List.set a3 (Int.toNat a0) (nth (.int .i64) a3 a2)) (Int.toNat a2) (nth (.int .i64) a3 a0)))),(1,some (.row 23 32 aD a4))]) [.ak [0,1,4,12,13] [0,1]] (by kernel_rfl) ⟨_,SW,rfl⟩ ?_
   rintro n2 _ ⟨RW,h15,rfl⟩
   cases n2 with
   |zero=>exact absurd h15 (by simp[fg])
   |
    succ n2=>
    unfold fg at h15
    obtain⟨o16,h16,h15⟩:=bind_some h15
    refine ai.pc (fun σ'=>∃v24,o16= .brk v24∧σ'=ao 178 218 [(0,(.own 0)),(1,(.val (.int .i64) a0)),(4,(.func (.func 21) (.cons (.own 1) .nil) .nil)),(12,(.val (.int .i64) o4)),(13,(.val (.int .i64) RW))] [(0,some (.row 3 8 (.int .i64) (List.set (List.set a3 (Int.toNat a0) (nth (.int .i64) a3 a2)) (Int.toNat a2) (nth (.int .i64) a3 a0)))),(1,some (.row 23 32 aD a4))]) (fun i σ'=>(i=2∧∃v25,o16= .ret v25∧σ'=ao 178 218 [(0,(.own 0)),(1,(.val (.int .i64) a0)),(4,(.func (.func 21) (.cons (.own 1) .nil) .nil)),(12,(.val (.int .i64) o4)),(13,(.val (.int .i64) RW))] [(0,some (.row 3 8 (.int .i64) (List.set (List.set a3 (Int.toNat a0) (nth (.int .i64) a3 a2)) (Int.toNat a2) (nth (.int .i64) a3 a0)))),(1,some (.row 23 32 aD a4))])) (Cl.loop (Cl.bh (Cl.j Cl.f))) ?_ ?_ ?_
    ·obtain⟨o17,h18,h16⟩:=bind_some h16
     refine ai.aZ (fun σ'=>σ'=ao 178 218 [(0,(.own 0)),(1,(.val (.int .i64) a0)),(4,(.func (.func 21) (.cons (.own 1) .nil) .nil)),(12,(.val (.int .i64) o4)),(13,(.val (.int .i64) RW)),(66,(.val .bool o17))] [(0,some (.row 3 8 (.int .i64) (List.set (List.set a3 (Int.toNat a0) (nth (.int .i64) a3 a2)) (Int.toNat a2) (nth (.int .i64) a3 a0)))),(1,some (.row 23 32 aD a4))]) ?_ ?_
     ·rcases ae h18 with⟨hg18,h18⟩|⟨hg18,h18⟩
      ·obtain⟨hv19,h18⟩:=ab h18
       obtain⟨hv20,h18⟩:=ab h18
       obtain⟨y21,hy22,h18⟩:=bind_some h18
       refine jM [⟨(.val (.int .i64) y21),[],[],[],68⟩] [true] [] [(decide (o4≤RW))=true,0≤RW,RW<(List.length (List.set (List.set a3 (Int.toNat a0) (nth (.int .i64) a3 a2)) (Int.toNat a2) (nth (.int .i64) a3 a0)):Int),0≤a0,a0<(List.length (List.set (List.set a3 (Int.toNat a0) (nth (.int .i64) a3 a2)) (Int.toNat a2) (nth (.int .i64) a3 a0)):Int),AE a4 (nth (.int .i64) (List.set (List.set a3 (Int.toNat a0) (nth (.int .i64) a3 a2)) (Int.toNat a2) (nth (.int .i64) a3 a0)) RW) (nth (.int .i64) (List.set (List.set a3 (Int.toNat a0) (nth (.int .i64) a3 a2)) (Int.toNat a2) (nth (.int .i64) a3 a0)) a0) y21] ⟨hg18,hv19.1,hv19.2,hv20.1,hv20.2,Bd _ _ _ _ hy22,trivial⟩ ?_
       obtain rfl:=Option.some.inj h18
       exact bx [.ak [0,1,4,12,13,66] [0,1]] rfl
      ·refine jM [] [false] [] [(decide (o4≤RW))=false] ⟨hg18,trivial⟩ ?_
       obtain rfl:=Option.some.inj h18
       exact bx [.ak [0,1,4,12,13,66] [0,1]] rfl
     ·rintro _ rfl
      rcases ae h16 with⟨hc23,h16⟩|⟨hc23,h16⟩
      ·refine cg hc23 ?_
       refine ai.skip ?_
       obtain rfl:=Option.some.inj h16
       exact kD.mk [.ak [0,1,4,12,13] [0,1]] (by kernel_rfl) ⟨_,rfl,rfl⟩
      ·refine cq hc23 ?_
       refine ai.exit ?_
       obtain rfl:=Option.some.inj h16
       exact kD.ex [.ak [0,1,4,12,13] [0,1]] (by kernel_rfl) ⟨rfl,_,rfl,rfl⟩
    ·rintro _ _ ⟨rfl,v25,rfl,rfl⟩
     ·dsimp only at h15
      refine lE ?_
      refine bE ?_
      obtain rfl:=Option.some.inj h15
      exact bx [.ak [0,1,4,12,13] [0,1]] rfl
    ·rintro _ ⟨v24,rfl,rfl⟩
     dsimp only at h15
     refine ai.block ?_
     refine fS ?_
     refine bN ?_
     exact gI [.ak [0,1,4,12,13] [0,1]] ⟨_,h15,rfl⟩
  ·rintro _ rfl
   refine ai.seq ?_
   refine aF ?_
   rcases ae h with⟨hc65,h⟩|⟨hc65,h⟩
   ·refine cg hc65 ?_
    obtain⟨hv26,h⟩:=ab h
    obtain⟨hv27,h⟩:=ab h
    obtain⟨hv28,h⟩:=ab h
    refine mf [] [] [] [0≤a0,a0<(List.length (List.set (List.set a3 (Int.toNat a0) (nth (.int .i64) a3 a2)) (Int.toNat a2) (nth (.int .i64) a3 a0)):Int),0≤o15,o15<(List.length (List.set (List.set a3 (Int.toNat a0) (nth (.int .i64) a3 a2)) (Int.toNat a2) (nth (.int .i64) a3 a0)):Int),0≤o15,o15<(List.length (List.set (List.set a3 (Int.toNat a0) (nth (.int .i64) a3 a2)) (Int.toNat a2) (nth (.int .i64) a3 a0)):Int),0≤a0,a0<(List.length (List.set (List.set (List.set a3 (Int.toNat a0) (nth (.int .i64) a3 a2)) (Int.toNat a2) (nth (.int .i64) a3 a0)) (Int.toNat o15) (nth (.int .i64) (List.set (List.set a3 (Int.toNat a0) (nth (.int .i64) a3 a2)) (Int.toNat a2) (nth (.int .i64) a3 a0)) a0)):Int)] ⟨Sx.1,hv26,hv27.1,hv27.2,hv27.1,hv27.2,Sx.1,hv28,trivial⟩ ?_
    refine aF ?_
    refine ai.ret ?_
    obtain rfl:=Option.some.inj h
    exact(av [.ak [10,11] [0,1]] [some (.int .i64),some .bool] (cL 218 [0,1]) (by kernel_rfl)).1
   ·refine cq hc65 ?_
    refine zk ?_
    obtain⟨hv29,h⟩:=ab h
    obtain⟨hv30,h⟩:=ab h
    obtain⟨hv31,h⟩:=ab h
    refine mf [] [] [] [0≤o15,o15<(List.length (List.set (List.set a3 (Int.toNat a0) (nth (.int .i64) a3 a2)) (Int.toNat a2) (nth (.int .i64) a3 a0)):Int),0≤o4,o4<(List.length (List.set (List.set a3 (Int.toNat a0) (nth (.int .i64) a3 a2)) (Int.toNat a2) (nth (.int .i64) a3 a0)):Int),0≤o4,o4<(List.length (List.set (List.set a3 (Int.toNat a0) (nth (.int .i64) a3 a2)) (Int.toNat a2) (nth (.int .i64) a3 a0)):Int),0≤o15,o15<(List.length (List.set (List.set (List.set a3 (Int.toNat a0) (nth (.int .i64) a3 a2)) (Int.toNat a2) (nth (.int .i64) a3 a0)) (Int.toNat o4) (nth (.int .i64) (List.set (List.set a3 (Int.toNat a0) (nth (.int .i64) a3 a2)) (Int.toNat a2) (nth (.int .i64) a3 a0)) o15)):Int)] ⟨hv29.1,hv29.2,hv30.1,hv30.2,hv30.1,hv30.2,hv29.1,hv31,trivial⟩ ?_
    refine aF ?_
    refine aF ?_
    obtain⟨o32,h19,h⟩:=bind_some h
    refine ai.aZ (fun σ'=>σ'=ao 178 218 [(0,(.own 0)),(1,(.val (.int .i64) a0)),(13,(.val (.int .i64) o32.1))] [(0,some (.row 3 8 (.int .i64) o32.2)),(1,some (.row 23 32 aD a4))]) ?_ ?_
    ·refine ai.block ?_
     refine ai.aV (fun n σ=>∃(RZ:Int)(R8:Int)(Sh:List Int),fm a0 a4 n RZ R8 Sh=some o32∧σ=ao 178 218 [(0,(.own 0)),(1,(.val (.int .i64) a0)),(4,(.func (.func 21) (.cons (.own 1) .nil) .nil)),(12,(.val (.int .i64) RZ)),(13,(.val (.int .i64) R8))] [(0,some (.row 3 8 (.int .i64) Sh)),(1,some (.row 23 32 aD a4))]) [.ak [0,1,4,12,13] [0,1]] (by kernel_rfl) ⟨_,_,_,h19,rfl⟩ ?_
     rintro n3 _ ⟨RZ,R8,Sh,h58,rfl⟩
     cases n3 with
     |zero=>exact absurd h58 (by simp[fm])
     |
      succ n3=>
      unfold fm at h58
      obtain⟨o33,h59,h58⟩:=bind_some h58
      refine ai.Ix (fun σ'=>∃v60,o33= .brk v60∧σ'=ao 178 218 [(0,(.own 0)),(1,(.val (.int .i64) a0)),(4,(.func (.func 21) (.cons (.own 1) .nil) .nil)),(12,(.val (.int .i64) v60.1)),(13,(.val (.int .i64) v60.2.1))] [(0,some (.row 3 8 (.int .i64) v60.2.2)),(1,some (.row 23 32 aD a4))]) (fun i σ'=>(i=4∧∃v61,o33= .ret v61∧σ'=ao 178 218 [(0,(.own 0)),(1,(.val (.int .i64) a0)),(13,(.val (.int .i64) v61))] [(0,some (.row 3 8 (.int .i64) Sh)),(1,some (.row 23 32 aD a4))])) (Cl.loop (Cl.bh (Cl.j Cl.f))) ?_ ?_ ?_
      ·refine ai.block ?_
       obtain⟨o34,h78,h59⟩:=bind_some h59
       refine ai.aZ (fun σ'=>σ'=ao 178 218 [(0,(.own 0)),(1,(.val (.int .i64) a0)),(4,(.func (.func 21) (.cons (.own 1) .nil) .nil)),(12,(.val (.int .i64) o34)),(13,(.val (.int .i64) R8))] [(0,some (.row 3 8 (.int .i64) Sh)),(1,some (.row 23 32 aD a4))]) ?_ ?_
       ·refine ai.block ?_
        refine ai.aV (fun n σ=>∃(Sa:Int),fh a0 a4 R8 Sh n Sa=some o34∧σ=ao 178 218 [(0,(.own 0)),(1,(.val (.int .i64) a0)),(4,(.func (.func 21) (.cons (.own 1) .nil) .nil)),(12,(.val (.int .i64) Sa)),(13,(.val (.int .i64) R8))] [(0,some (.row 3 8 (.int .i64) Sh)),(1,some (.row 23 32 aD a4))]) [.ak [0,1,4,12,13] [0,1]] (by kernel_rfl) ⟨_,h78,rfl⟩ ?_
        rintro n4 _ ⟨Sa,h83,rfl⟩
        cases n4 with
        |zero=>exact absurd h83 (by simp[fh])
        |
         succ n4=>
         unfold fh at h83
         obtain⟨o35,h84,h83⟩:=bind_some h83
         refine ai.pc (fun σ'=>∃v43,o35= .brk v43∧σ'=ao 178 218 [(0,(.own 0)),(1,(.val (.int .i64) a0)),(4,(.func (.func 21) (.cons (.own 1) .nil) .nil)),(12,(.val (.int .i64) Sa)),(13,(.val (.int .i64) R8))] [(0,some (.row 3 8 (.int .i64) Sh)),(1,some (.row 23 32 aD a4))]) (fun i σ'=>(i=6∧∃v44,o35= .ret v44∧σ'=ao 178 218 [(0,(.own 0)),(1,(.val (.int .i64) a0)),(4,(.func (.func 21) (.cons (.own 1) .nil) .nil)),(12,(.val (.int .i64) Sa)),(13,(.val (.int .i64) R8))] [(0,some (.row 3 8 (.int .i64) Sh)),(1,some (.row 23 32 aD a4))])) (Cl.loop (Cl.bh (Cl.j (Cl.bh Cl.jx)))) ?_ ?_ ?_
         ·obtain⟨o36,h86,h84⟩:=bind_some h84
          refine ai.aZ (fun σ'=>σ'=ao 178 218 [(0,(.own 0)),(1,(.val (.int .i64) a0)),(4,(.func (.func 21) (.cons (.own 1) .nil) .nil)),(12,(.val (.int .i64) Sa)),(13,(.val (.int .i64) R8)),(120,(.val .bool o36))] [(0,some (.row 3 8 (.int .i64) Sh)),(1,some (.row 23 32 aD a4))]) ?_ ?_
          ·rcases ae h86 with⟨hg37,h86⟩|⟨hg37,h86⟩
           ·obtain⟨hv38,h86⟩:=ab h86
            obtain⟨hv39,h86⟩:=ab h86
            obtain⟨y40,hy41,h86⟩:=bind_some h86
            refine jM [⟨(.val (.int .i64) y40),[],[],[],68⟩] [true] [] [(decide (Sa≤R8))=true,0≤Sa,Sa<(List.length Sh:Int),0≤a0,a0<(List.length Sh:Int),AE a4 (nth (.int .i64) Sh Sa) (nth (.int .i64) Sh a0) y40] ⟨hg37,hv38.1,hv38.2,hv39.1,hv39.2,Bd _ _ _ _ hy41,trivial⟩ ?_
            obtain rfl:=Option.some.inj h86
            exact bx [.ak [0,1,4,12,13,120] [0,1]] rfl
           ·refine jM [] [false] [] [(decide (Sa≤R8))=false] ⟨hg37,trivial⟩ ?_
            obtain rfl:=Option.some.inj h86
            exact bx [.ak [0,1,4,12,13,120] [0,1]] rfl
          ·rintro _ rfl
           rcases ae h84 with⟨hc42,h84⟩|⟨hc42,h84⟩
           ·refine cg hc42 ?_
            refine ai.skip ?_
            obtain rfl:=Option.some.inj h84
            exact kD.mk [.ak [0,1,4,12,13] [0,1]] (by kernel_rfl) ⟨_,rfl,rfl⟩
           ·refine cq hc42 ?_
            refine ai.exit ?_
            obtain rfl:=Option.some.inj h84
            exact kD.ex [.ak [0,1,4,12,13] [0,1]] (by kernel_rfl) ⟨rfl,_,rfl,rfl⟩
         ·rintro _ _ ⟨rfl,v44,rfl,rfl⟩
          ·dsimp only at h83
           refine lE ?_
           refine bE ?_
           obtain rfl:=Option.some.inj h83
           exact bx [.ak [0,1,4,12,13] [0,1]] rfl
         ·rintro _ ⟨v43,rfl,rfl⟩
          dsimp only at h83
          refine ai.block ?_
          refine fS ?_
          refine bN ?_
          exact gI [.ak [0,1,4,12,13] [0,1]] ⟨_,h83,rfl⟩
       ·rintro _ rfl
        obtain⟨o45,h87,h59⟩:=bind_some h59
        refine ai.aZ (fun σ'=>σ'=ao 178 218 [(0,(.own 0)),(1,(.val (.int .i64) a0)),(4,(.func (.func 21) (.cons (.own 1) .nil) .nil)),(12,(.val (.int .i64) o34)),(13,(.val (.int .i64) o45))] [(0,some (.row 3 8 (.int .i64) Sh)),(1,some (.row 23 32 aD a4))]) ?_ ?_
        ·refine ai.block ?_
         refine ai.aV (fun n σ=>∃(Sw:Int),fj a0 a4 Sh o34 n Sw=some o45∧σ=ao 178 218 [(0,(.own 0)),(1,(.val (.int .i64) a0)),(4,(.func (.func 21) (.cons (.own 1) .nil) .nil)),(12,(.val (.int .i64) o34)),(13,(.val (.int .i64) Sw))] [(0,some (.row 3 8 (.int .i64) Sh)),(1,some (.row 23 32 aD a4))]) [.ak [0,1,4,12,13] [0,1]] (by kernel_rfl) ⟨_,h87,rfl⟩ ?_
         rintro n5 _ ⟨Sw,h92,rfl⟩
         cases n5 with
         |zero=>exact absurd h92 (by simp[fj])
         |
          succ n5=>
          unfold fj at h92
          obtain⟨o46,h93,h92⟩:=bind_some h92
          refine ai.pc (fun σ'=>∃v54,o46= .brk v54∧σ'=ao 178 218 [(0,(.own 0)),(1,(.val (.int .i64) a0)),(4,(.func (.func 21) (.cons (.own 1) .nil) .nil)),(12,(.val (.int .i64) o34)),(13,(.val (.int .i64) Sw))] [(0,some (.row 3 8 (.int .i64) Sh)),(1,some (.row 23 32 aD a4))]) (fun i σ'=>(i=8∧∃v55,o46= .ret v55∧σ'=ao 178 218 [(0,(.own 0)),(1,(.val (.int .i64) a0)),(4,(.func (.func 21) (.cons (.own 1) .nil) .nil)),(12,(.val (.int .i64) o34)),(13,(.val (.int .i64) Sw))] [(0,some (.row 3 8 (.int .i64) Sh)),(1,some (.row 23 32 aD a4))])) (Cl.loop (Cl.bh (Cl.j (Cl.bh Cl.jx)))) ?_ ?_ ?_
          ·obtain⟨o47,h95,h93⟩:=bind_some h93
           refine ai.aZ (fun σ'=>σ'=ao 178 218 [(0,(.own 0)),(1,(.val (.int .i64) a0)),(4,(.func (.func 21) (.cons (.own 1) .nil) .nil)),(12,(.val (.int .i64) o34)),(13,(.val (.int .i64) Sw)),(139,(.val .bool o47))] [(0,some (.row 3 8 (.int .i64) Sh)),(1,some (.row 23 32 aD a4))]) ?_ ?_
           ·rcases ae h95 with⟨hg48,h95⟩|⟨hg48,h95⟩
            ·obtain⟨hv49,h95⟩:=ab h95
             obtain⟨hv50,h95⟩:=ab h95
             obtain⟨y51,hy52,h95⟩:=bind_some h95
             refine jM [⟨(.val (.int .i64) y51),[],[],[],68⟩] [true] [] [(decide (o34≤Sw))=true,0≤Sw,Sw<(List.length Sh:Int),0≤a0,a0<(List.length Sh:Int),AE a4 (nth (.int .i64) Sh Sw) (nth (.int .i64) Sh a0) y51] ⟨hg48,hv49.1,hv49.2,hv50.1,hv50.2,Bd _ _ _ _ hy52,trivial⟩ ?_
             obtain rfl:=Option.some.inj h95
             exact bx [.ak [0,1,4,12,13,139] [0,1]] rfl
            ·refine jM [] [false] [] [(decide (o34≤Sw))=false] ⟨hg48,trivial⟩ ?_
             obtain rfl:=Option.some.inj h95
             exact bx [.ak [0,1,4,12,13,139] [0,1]] rfl
           ·rintro _ rfl
            rcases ae h93 with⟨hc53,h93⟩|⟨hc53,h93⟩
            ·refine cg hc53 ?_
             refine ai.skip ?_
             obtain rfl:=Option.some.inj h93
             exact kD.mk [.ak [0,1,4,12,13] [0,1]] (by kernel_rfl) ⟨_,rfl,rfl⟩
            ·refine cq hc53 ?_
             refine ai.exit ?_
             obtain rfl:=Option.some.inj h93
             exact kD.ex [.ak [0,1,4,12,13] [0,1]] (by kernel_rfl) ⟨rfl,_,rfl,rfl⟩
          ·rintro _ _ ⟨rfl,v55,rfl,rfl⟩
           ·dsimp only at h92
            refine lE ?_
            refine bE ?_
            obtain rfl:=Option.some.inj h92
            exact bx [.ak [0,1,4,12,13] [0,1]] rfl
          ·rintro _ ⟨v54,rfl,rfl⟩
           dsimp only at h92
           refine ai.block ?_
           refine fS ?_
           refine bN ?_
           exact gI [.ak [0,1,4,12,13] [0,1]] ⟨_,h92,rfl⟩
        ·rintro _ rfl
         refine ai.seq ?_
         refine aF ?_
         rcases ae h59 with⟨hc59,h59⟩|⟨hc59,h59⟩
         ·refine cg hc59 ?_
          refine ai.exit ?_
          refine tE ?_
          refine bO rfl ?_
          obtain rfl:=Option.some.inj h59
          exact kD.ex [.ak [0,1,13] [0,1]] (by kernel_rfl) ⟨rfl,_,rfl,rfl⟩
         ·refine cq hc59 ?_
          refine zk ?_
          obtain⟨hv56,h59⟩:=ab h59
          obtain⟨hv57,h59⟩:=ab h59
          obtain⟨hv58,h59⟩:=ab h59
          refine mf [] [] [] [0≤o45,o45<(List.length Sh:Int),0≤o34,o34<(List.length Sh:Int),0≤o34,o34<(List.length Sh:Int),0≤o45,o45<(List.length (List.set Sh (Int.toNat o34) (nth (.int .i64) Sh o45)):Int)] ⟨hv56.1,hv56.2,hv57.1,hv57.2,hv57.1,hv57.2,hv56.1,hv58,trivial⟩ ?_
          refine aF ?_
          refine fS ?_
          refine bN ?_
          obtain rfl:=Option.some.inj h59
          exact kD.mk [.ak [0,1,4,12,13] [0,1]] (by kernel_rfl) ⟨_,rfl,rfl⟩
      ·rintro _ _ ⟨rfl,v61,rfl,rfl⟩
       ·dsimp only at h58
        refine lE ?_
        refine bE ?_
        obtain rfl:=Option.some.inj h58
        exact bx [.ak [0,1,13] [0,1]] rfl
      ·rintro _ ⟨v60,rfl,rfl⟩
       dsimp only at h58
       exact gI [.ak [0,1,4,12,13] [0,1]] ⟨_,_,_,h58,rfl⟩
    ·rintro _ rfl
     obtain⟨hv62,h⟩:=ab h
     obtain⟨hv63,h⟩:=ab h
     obtain⟨hv64,h⟩:=ab h
     refine mf [] [] [] [0≤a0,a0<(List.length o32.2:Int),0≤o32.1,o32.1<(List.length o32.2:Int),0≤o32.1,o32.1<(List.length o32.2:Int),0≤a0,a0<(List.length (List.set o32.2 (Int.toNat o32.1) (nth (.int .i64) o32.2 a0)):Int)] ⟨Sx.1,hv62,hv63.1,hv63.2,hv63.1,hv63.2,Sx.1,hv64,trivial⟩ ?_
     refine aF ?_
     refine ai.ret ?_
     obtain rfl:=Option.some.inj h
     exact(av [.ak [10,11] [0,1]] [some (.int .i64),some .bool] (cL 218 [0,1]) (by kernel_rfl)).1
def ju(a0:Int)(a1:Int)(a2:Int)(a3:List Int)(a4:List aO):Nat→Option (iQ Unit ((List Int)×(List aO)))
 |0=>none
 |n1+1=>if(decide ((al (a1 -a0))≤(12:Int)))=true then(Option.bind (nH a0 a1 a3 a4) fun y2=>some (.ret (y2.1,y2.2))) else none
def oF(a0:Int)(a1:Int)(a2:Int)(a3:List Int)(a4:List aO):Option ((List Int)×(List aO)):=
 Option.bind (ju a0 a1 a2 a3 a4 (bC)) fun(o1:iQ Unit ((List Int)×(List aO)))=>match o1 with| .brk _v5=>none| .ret r6=>(some r6)
abbrev yP(a0:Int)(a1:Int)(a2:Int)(a3:List Int)(a4:List aO)(r:(List Int)×(List aO)):Prop:=Fc Tryz.prog gl 43 [(.own 0),(.val (.int .i64) a0),(.val (.int .i64) a1),(.val (.int .i64) a2),(.func (.func 21) (.cons (.own 1) .nil) .nil)] (aA (List.replicate 188 none) [(0,some (.row 3 8 (.int .i64) a3)),(1,some (.row 23 32 aD a4))]) (.ret (.bU .nil)) (bz 188 [(0,(.row 3 8 (.int .i64) r.1)),(1,(.row 23 32 aD r.2))])
theorem DM(a0:Int)(a1:Int)(a2:Int)(a3:List Int)(a4:List aO)(r:(List Int)×(List aO))(h:oF a0 a1 a2 a3 a4=some r):yP a0 a1 a2 a3 a4 r:=by
 refine Fc.of Tryz.call43 (bW.aG tied Tryz.func43 rfl rfl (σ0:=ao 148 188 [(0,(.own 0)),(1,(.val (.int .i64) a0)),(2,(.val (.int .i64) a1)),(3,(.val (.int .i64) a2)),(4,(.func (.func 21) (.cons (.own 1) .nil) .nil))] [(0,some (.row 3 8 (.int .i64) a3)),(1,some (.row 23 32 aD a4))]) (by kernel_rfl) ?_)
 unfold oF at h
 refine aF ?_
 refine aF ?_
 obtain⟨o1,h1,h⟩:=bind_some h
 refine ai.lA (fun σ'=>∃v5,o1= .brk v5∧σ'=ao 148 188 [] []) Cl.f ?_ ?_
 ·refine ai.block ?_
  refine ai.aV (fun n σ=>ju a0 a1 a2 a3 a4 n=some o1∧σ=ao 148 188 [(0,(.own 0)),(1,(.val (.int .i64) a0)),(2,(.val (.int .i64) a1)),(3,(.val (.int .i64) a2)),(4,(.func (.func 21) (.cons (.own 1) .nil) .nil)),(10,(.val .bool true)),(11,(.val .bool true))] [(0,some (.row 3 8 (.int .i64) a3)),(1,some (.row 23 32 aD a4))]) [.ak [0,1,2,3,4,10,11] [0,1]] (by kernel_rfl) ⟨h1,rfl⟩ ?_
  rintro n1 _ ⟨h3,rfl⟩
  cases n1 with
  |zero=>exact absurd h3 (by simp[ju])
  |
   succ n1=>
   unfold ju at h3
   refine ai.block ?_
   refine aF ?_
   refine ai.seq ?_
   refine aF ?_
   rcases ae h3 with⟨hc4,h3⟩|⟨hc4,h3⟩
   ·refine cg hc4 ?_
    obtain⟨y2,hy3,h3⟩:=bind_some h3
    refine cH [⟨(.bU .nil),[(0,0),(1,1)],[],[(0,(.row 3 8 (.int .i64) y2.1)),(1,(.row 23 32 aD y2.2))],93⟩] [] [] [xV a0 a1 a3 a4 y2] ⟨BV _ _ _ _ _ hy3,trivial⟩ ?_
    refine ai.ret ?_
    obtain rfl:=Option.some.inj h3
    dsimp only at h
    obtain rfl:=Option.some.inj h
    exact(av [.ak [] [0,1]] [] (cL 188 [0,1]) (by kernel_rfl)).1
   ·refine cq hc4 ?_
    refine zk ?_
    refine ai.seq ?_
    cases h3
 ·rintro _ ⟨v5,rfl,rfl⟩
  dsimp only at h
  cases h
def cU:Nat→Int→Int→Int→Bool→Bool→(List Int)→(List aO)→Option (iQ Unit ((List Int)×(List aO)))
 |0,_,_,_,_,_,_,_=>none
 |n1+1,RS,RU,RX,SQ,SX,u1_5,u1_6=>if(decide ((al (RU -RS))≤(12:Int)))=true then(Option.bind (nH RS RU u1_5 u1_6) fun y2=>some (.ret (y2.1,y2.2))) else(if(decide (RX=(0:Int)))=true then none else(Option.bind (if(!SQ)=true then(Option.bind (fK RS RU u1_5 u1_6) fun y5=>some (al (RX -(1:Int)),y5.1,y5.2)) else(some (RX,u1_5,u1_6))) fun(o4:Int×(List Int)×(List aO))=>Option.bind (qb o4.2.1 RS RU o4.2.2) fun y8=>Option.bind (if(decide (y8.2=(2:Int)))=true then(Option.bind (nI RS RU o4.2.1 o4.2.2) fun y11=>some (al ((al (RU -(1:Int))) -(al (y8.1 -RS))),(1:Int),y11.1,y11.2)) else(some (y8.1,y8.2,o4.2.1,o4.2.2))) fun(o10:Int×Int×(List Int)×(List aO))=>Option.bind (Option.bind (if SQ=true then(if SX=true then(some (decide (o10.2.1=(1:Int)))) else(some false)) else(some false)) fun(o15:Bool)=>if o15=true then(Option.bind (nK RS RU o10.2.2.1 o10.2.2.2) fun y18=>if y18.1=true then(some (.ret (y18.2.1,y18.2.2))) else(some (.brk (y18.2.1,y18.2.2)))) else(some (.brk (o10.2.2.1,o10.2.2.2)))) fun(o14:iQ ((List Int)×(List aO)) ((List Int)×(List aO)))=>match o14 with| .brk v22=>(Option.bind (Option.bind (if(decide ((0:Int)<RS))=true then(if 0≤(al (RS -(1:Int)))∧(al (RS -(1:Int)))<(List.length v22.1:Int) then(if 0≤o10.1∧o10.1<(List.length v22.1:Int) then(Option.bind (f21 v22.2 (nth (.int .i64) v22.1 (al (RS -(1:Int)))) (nth (.int .i64) v22.1 o10.1)) fun y28=>some (!(decide (y28<(0:Int))))) else none) else none) else(some false)) fun(o24:Bool)=>if o24=true then(Option.bind (qe RS RU o10.1 v22.1 v22.2) fun y30=>some (.ret (y30.1,y30.2.1,y30.2.2))) else(some (.brk ()))) fun(o23:iQ Unit (Int×(List Int)×(List aO)))=>match o23 with| .brk _v33=>(Option.bind (rL RS RU o10.1 v22.1 v22.2) fun y34=>if(decide ((al (y34.1 -RS))<(al (RU -y34.1))))=true then(Option.bind (oF RS y34.1 o4.1 y34.2.2.1 y34.2.2.2) fun y36=>cU n1 (al (y34.1+(1:Int))) RU o4.1 (decide ((al (Int.tdiv (al (RU -RS)) (8:Int)))≤(al (y34.1 -RS)))) y34.2.1 y36.1 y36.2) else(Option.bind (oF (al (y34.1+(1:Int))) RU o4.1 y34.2.2.1 y34.2.2.2) fun y38=>cU n1 RS y34.1 o4.1 (decide ((al (Int.tdiv (al (RU -RS)) (8:Int)))≤(al (RU -y34.1)))) y34.2.1 y38.1 y38.2))| .ret v41=>(cU n1 v41.1 RU o4.1 SQ SX v41.2.1 v41.2.2))| .ret r42=>(some (.ret r42))))
def vw(a0:Int)(a1:Int)(a2:Int)(a3:List Int)(a4:List aO):Option ((List Int)×(List aO)):=
 Option.bind (cU (bC) a0 a1 a2 true true a3 a4) fun(o1:iQ Unit ((List Int)×(List aO)))=>match o1 with| .brk _v45=>none| .ret r46=>(some r46)
abbrev DN(a0:Int)(a1:Int)(a2:Int)(a3:List Int)(a4:List aO)(r:(List Int)×(List aO)):Prop:=Fc Tryz.prog gl 43 [(.own 0),(.val (.int .i64) a0),(.val (.int .i64) a1),(.val (.int .i64) a2),(.func (.func 21) (.cons (.own 1) .nil) .nil)] (aA (List.replicate 188 none) [(0,some (.row 3 8 (.int .i64) a3)),(1,some (.row 23 32 aD a4))]) (.ret (.bU .nil)) (bz 188 [(0,(.row 3 8 (.int .i64) r.1)),(1,(.row 23 32 aD r.2))])
theorem J9(
 a0:Int) (a1:Int) (a2:Int) (a3:List Int) (a4:List aO) (r:(List Int)×(List aO)) (h:vw a0 a1 a2 a3 a4=some r):DN a0 a1 a2 a3 a4 r:=by
 refine Fc.of Tryz.call43 (bW.aG tied Tryz.func43 rfl rfl (σ0:=ao 148 188 [(0,(.own 0)),(1,(.val (.int .i64) a0)),(2,(.val (.int .i64) a1)),(3,(.val (.int .i64) a2)),(4,(.func (.func 21) (.cons (.own 1) .nil) .nil))] [(0,some (.row 3 8 (.int .i64) a3)),(1,some (.row 23 32 aD a4))]) (by kernel_rfl) ?_)
 unfold vw at h
 refine aF ?_
 refine aF ?_
 obtain⟨o1,h1,h⟩:=bind_some h
 refine ai.lA (fun σ'=>∃Od,o1= .brk Od∧σ'=ao 148 188 [] []) Cl.f ?_ ?_
 ·refine ai.block ?_
  refine ai.aV (fun n σ=>∃(RS:Int)(RU:Int)(RX:Int)(SQ:Bool)(SX:Bool)(u1_5:List Int)(u1_6:List aO),cU n RS RU RX SQ SX u1_5 u1_6=some o1∧σ=ao 148 188 [(0,(.own 0)),(1,(.val (.int .i64) RS)),(2,(.val (.int .i64) RU)),(3,(.val (.int .i64) RX)),(4,(.func (.func 21) (.cons (.own 1) .nil) .nil)),(10,(.val .bool SQ)),(11,(.val .bool SX))] [(0,some (.row 3 8 (.int .i64) u1_5)),(1,some (.row 23 32 aD u1_6))]) [.ak [0,1,2,3,4,10,11] [0,1]] (by kernel_rfl) ⟨_,_,_,_,_,_,_,h1,rfl⟩ ?_
  rintro n1 _ ⟨RS,RU,RX,SQ,SX,u1_5,u1_6,Sy,rfl⟩
  cases n1 with
  |zero=>exact absurd Sy (by simp[cU])
  |
   succ n1=>
   unfold cU at Sy
   refine ai.block ?_
   refine aF ?_
   refine ai.seq ?_
   refine aF ?_
   rcases ae Sy with⟨hc44,Sy⟩|⟨hc44,Sy⟩
   ·refine cg hc44 ?_
    obtain⟨y2,hy3,Sy⟩:=bind_some Sy
    refine cH [⟨(.bU .nil),[(0,0),(1,1)],[],[(0,(.row 3 8 (.int .i64) y2.1)),(1,(.row 23 32 aD y2.2))],93⟩] [] [] [xV RS RU u1_5 u1_6 y2] ⟨BV _ _ _ _ _ hy3,trivial⟩ ?_
    refine ai.ret ?_
    obtain rfl:=Option.some.inj Sy
    dsimp only at h
    obtain rfl:=Option.some.inj h
    exact(av [.ak [] [0,1]] [] (cL 188 [0,1]) (by kernel_rfl)).1
   ·refine cq hc44 ?_
    refine zk ?_
    refine ai.seq ?_
    refine aF ?_
    rcases ae Sy with⟨hc43,Sy⟩|⟨hc43,Sy⟩
    ·refine cg hc43 ?_
     cases Sy
    ·refine cq hc43 ?_
     refine zk ?_
     obtain⟨o4,h12,Sy⟩:=bind_some Sy
     refine ai.aZ (fun σ'=>σ'=ao 148 188 [(0,(.own 0)),(1,(.val (.int .i64) RS)),(2,(.val (.int .i64) RU)),(3,(.val (.int .i64) o4.1)),(4,(.func (.func 21) (.cons (.own 1) .nil) .nil)),(10,(.val .bool SQ)),(11,(.val .bool SX)),(12,(.val (.int .i64) (al (RU -RS))))] [(0,some (.row 3 8 (.int .i64) o4.2.1)),(1,some (.row 23 32 aD o4.2.2))]) ?_ ?_
     ·refine aF ?_
      rcases ae h12 with⟨hc7,h12⟩|⟨hc7,h12⟩
      ·refine cg hc7 ?_
       obtain⟨y5,hy6,h12⟩:=bind_some h12
       refine cH [⟨(.bU .nil),[(0,0),(1,1)],[],[(0,(.row 3 8 (.int .i64) y5.1)),(1,(.row 23 32 aD y5.2))],107⟩] [] [] [BW RS RU u1_5 u1_6 y5] ⟨I6 _ _ _ _ _ hy6,trivial⟩ ?_
       refine fS ?_
       obtain rfl:=Option.some.inj h12
       exact bx [.ak [0,1,2,3,4,10,11,12] [0,1]] rfl
      ·refine cq hc7 ?_
       refine ai.skip ?_
       obtain rfl:=Option.some.inj h12
       exact bx [.ak [0,1,2,3,4,10,11,12] [0,1]] rfl
     ·rintro _ rfl
      obtain⟨y8,hy9,Sy⟩:=bind_some Sy
      refine cH [⟨(.bU (.cons (.val (.int .i64) y8.1) (.cons (.val (.int .i64) y8.2) .nil))),[],[],[],103⟩] [] [] [BX o4.2.1 RS RU o4.2.2 y8] ⟨I7 _ _ _ _ _ hy9,trivial⟩ ?_
      obtain⟨o10,h13,Sy⟩:=bind_some Sy
      refine ai.aZ (fun σ'=>σ'=ao 148 188 [(0,(.own 0)),(1,(.val (.int .i64) RS)),(2,(.val (.int .i64) RU)),(3,(.val (.int .i64) o4.1)),(4,(.func (.func 21) (.cons (.own 1) .nil) .nil)),(10,(.val .bool SQ)),(11,(.val .bool SX)),(12,(.val (.int .i64) (al (RU -RS)))),(13,(.val (.int .i64) o10.1)),(14,(.val (.int .i64) o10.2.1))] [(0,some (.row 3 8 (.int .i64) o10.2.2.1)),(1,some (.row 23 32 aD o10.2.2.2))]) ?_ ?_
      ·refine aF ?_
       rcases ae h13 with⟨hc13,h13⟩|⟨hc13,h13⟩
       ·refine cg hc13 ?_
        obtain⟨y11,hy12,h13⟩:=bind_some h13
        refine cH [⟨(.bU .nil),[(0,0),(1,1)],[],[(0,(.row 3 8 (.int .i64) y11.1)),(1,(.row 23 32 aD y11.2))],74⟩] [] [] [BY RS RU o4.2.1 o4.2.2 y11] ⟨I8 _ _ _ _ _ hy12,trivial⟩ ?_
        refine aF ?_
        refine fS ?_
        obtain rfl:=Option.some.inj h13
        exact bx [.ak [0,1,2,3,4,10,11,12,13,14] [0,1]] rfl
       ·refine cq hc13 ?_
        refine ai.skip ?_
        obtain rfl:=Option.some.inj h13
        exact bx [.ak [0,1,2,3,4,10,11,12,13,14] [0,1]] rfl
      ·rintro _ rfl
       obtain⟨o14,h14,Sy⟩:=bind_some Sy
       refine ai.aZ (fun σ'=>∃v22,o14= .brk v22∧σ'=ao 148 188 [(0,(.own 0)),(1,(.val (.int .i64) RS)),(2,(.val (.int .i64) RU)),(3,(.val (.int .i64) o4.1)),(4,(.func (.func 21) (.cons (.own 1) .nil) .nil)),(10,(.val .bool SQ)),(11,(.val .bool SX)),(12,(.val (.int .i64) (al (RU -RS)))),(13,(.val (.int .i64) o10.1))] [(0,some (.row 3 8 (.int .i64) v22.1)),(1,some (.row 23 32 aD v22.2))]) ?_ ?_
       ·obtain⟨o15,h16,h14⟩:=bind_some h14
        refine ai.aZ (fun σ'=>σ'=ao 148 188 [(0,(.own 0)),(1,(.val (.int .i64) RS)),(2,(.val (.int .i64) RU)),(3,(.val (.int .i64) o4.1)),(4,(.func (.func 21) (.cons (.own 1) .nil) .nil)),(10,(.val .bool SQ)),(11,(.val .bool SX)),(12,(.val (.int .i64) (al (RU -RS)))),(13,(.val (.int .i64) o10.1)),(75,(.val .bool o15))] [(0,some (.row 3 8 (.int .i64) o10.2.2.1)),(1,some (.row 23 32 aD o10.2.2.2))]) ?_ ?_
        ·rcases ae h16 with⟨hg16,h16⟩|⟨hg16,h16⟩
         ·rcases ae h16 with⟨hg17,h16⟩|⟨hg17,h16⟩
          ·refine kc [] [true,true] [] [SQ=true,SX=true] ⟨hg16,hg17,trivial⟩ ?_
           obtain rfl:=Option.some.inj h16
           exact bx [.ak [0,1,2,3,4,10,11,12,13,75] [0,1]] rfl
          ·refine kc [] [true,false] [] [SQ=true,SX=false] ⟨hg16,hg17,trivial⟩ ?_
           obtain rfl:=Option.some.inj h16
           exact bx [.ak [0,1,2,3,4,10,11,12,13,75] [0,1]] rfl
         ·refine kc [] [false,false] [] [SQ=false,false=false] ⟨hg16,rfl,trivial⟩ ?_
          obtain rfl:=Option.some.inj h16
          exact bx [.ak [0,1,2,3,4,10,11,12,13,75] [0,1]] rfl
        ·rintro _ rfl
         rcases ae h14 with⟨hc21,h14⟩|⟨hc21,h14⟩
         ·refine cg hc21 ?_
          obtain⟨y18,hy19,h14⟩:=bind_some h14
          refine cH [⟨(.val .bool y18.1),[(0,0),(1,1)],[],[(0,(.row 3 8 (.int .i64) y18.2.1)),(1,(.row 23 32 aD y18.2.2))],181⟩] [] [] [B5 RS RU o10.2.2.1 o10.2.2.2 y18] ⟨Ji _ _ _ _ _ hy19,trivial⟩ ?_
          rcases ae h14 with⟨hc20,h14⟩|⟨hc20,h14⟩
          ·refine cg hc20 ?_
           refine ai.ret ?_
           obtain rfl:=Option.some.inj h14
           dsimp only at Sy
           obtain rfl:=Option.some.inj Sy
           dsimp only at h
           obtain rfl:=Option.some.inj h
           exact(av [.ak [] [0,1]] [] (cL 188 [0,1]) (by kernel_rfl)).1
          ·refine cq hc20 ?_
           refine ai.skip ?_
           obtain rfl:=Option.some.inj h14
           exact bx [.ak [0,1,2,3,4,10,11,12,13] [0,1]] ⟨_,rfl,rfl⟩
         ·refine cq hc21 ?_
          refine ai.skip ?_
          obtain rfl:=Option.some.inj h14
          exact bx [.ak [0,1,2,3,4,10,11,12,13] [0,1]] ⟨_,rfl,rfl⟩
       ·rintro _ ⟨v22,rfl,rfl⟩
        dsimp only at Sy
        obtain⟨o23,h17,Sy⟩:=bind_some Sy
        refine ai.pc (fun σ'=>∃v33,o23= .brk v33∧σ'=ao 148 188 [(0,(.own 0)),(1,(.val (.int .i64) RS)),(2,(.val (.int .i64) RU)),(3,(.val (.int .i64) o4.1)),(4,(.func (.func 21) (.cons (.own 1) .nil) .nil)),(12,(.val (.int .i64) (al (RU -RS)))),(13,(.val (.int .i64) o10.1))] [(0,some (.row 3 8 (.int .i64) v22.1)),(1,some (.row 23 32 aD v22.2))]) (fun i σ'=>(i=1∧∃v41,o23= .ret v41∧σ'=ao 148 188 [(0,(.own 0)),(1,(.val (.int .i64) v41.1)),(2,(.val (.int .i64) RU)),(3,(.val (.int .i64) o4.1)),(4,(.func (.func 21) (.cons (.own 1) .nil) .nil)),(10,(.val .bool SQ)),(11,(.val .bool SX))] [(0,some (.row 3 8 (.int .i64) v41.2.1)),(1,some (.row 23 32 aD v41.2.2))])) (Cl.bh (Cl.loop (Cl.bh (Cl.j Cl.f)))) ?_ ?_ ?_
        ·obtain⟨o24,h19,h17⟩:=bind_some h17
         refine ai.aZ (fun σ'=>σ'=ao 148 188 [(0,(.own 0)),(1,(.val (.int .i64) RS)),(2,(.val (.int .i64) RU)),(3,(.val (.int .i64) o4.1)),(4,(.func (.func 21) (.cons (.own 1) .nil) .nil)),(10,(.val .bool SQ)),(11,(.val .bool SX)),(12,(.val (.int .i64) (al (RU -RS)))),(13,(.val (.int .i64) o10.1)),(97,(.val .bool o24))] [(0,some (.row 3 8 (.int .i64) v22.1)),(1,some (.row 23 32 aD v22.2))]) ?_ ?_
         ·rcases ae h19 with⟨hg25,h19⟩|⟨hg25,h19⟩
          ·obtain⟨hv26,h19⟩:=ab h19
           obtain⟨hv27,h19⟩:=ab h19
           obtain⟨y28,hy29,h19⟩:=bind_some h19
           refine jM [⟨(.val (.int .i64) y28),[],[],[],68⟩] [true] [] [(decide ((0:Int)<RS))=true,0≤(al (RS -(1:Int))),(al (RS -(1:Int)))<(List.length v22.1:Int),0≤o10.1,o10.1<(List.length v22.1:Int),AE v22.2 (nth (.int .i64) v22.1 (al (RS -(1:Int)))) (nth (.int .i64) v22.1 o10.1) y28] ⟨hg25,hv26.1,hv26.2,hv27.1,hv27.2,Bd _ _ _ _ hy29,trivial⟩ ?_
           obtain rfl:=Option.some.inj h19
           exact bx [.ak [0,1,2,3,4,10,11,12,13,97] [0,1]] rfl
          ·refine jM [] [false] [] [(decide ((0:Int)<RS))=false] ⟨hg25,trivial⟩ ?_
           obtain rfl:=Option.some.inj h19
           exact bx [.ak [0,1,2,3,4,10,11,12,13,97] [0,1]] rfl
         ·rintro _ rfl
          rcases ae h17 with⟨hc32,h17⟩|⟨hc32,h17⟩
          ·refine cg hc32 ?_
           obtain⟨y30,hy31,h17⟩:=bind_some h17
           refine cH [⟨(.val (.int .i64) y30.1),[(0,0),(1,1)],[],[(0,(.row 3 8 (.int .i64) y30.2.1)),(1,(.row 23 32 aD y30.2.2))],130⟩] [] [] [B6 RS RU o10.1 v22.1 v22.2 y30] ⟨Jj _ _ _ _ _ _ hy31,trivial⟩ ?_
           refine aF ?_
           refine ai.exit ?_
           obtain rfl:=Option.some.inj h17
           exact kD.ex [.ak [0,1,2,3,4,10,11] [0,1]] (by kernel_rfl) ⟨rfl,_,rfl,rfl⟩
          ·refine cq hc32 ?_
           refine ai.skip ?_
           obtain rfl:=Option.some.inj h17
           exact kD.mk [.ak [0,1,2,3,4,12,13] [0,1]] (by kernel_rfl) ⟨_,rfl,rfl⟩
        ·rintro _ _ ⟨rfl,v41,rfl,rfl⟩
         ·dsimp only at Sy
          refine bE ?_
          exact gI [.ak [0,1,2,3,4,10,11] [0,1]] ⟨_,_,_,_,_,_,_,Sy,rfl⟩
        ·rintro _ ⟨v33,rfl,rfl⟩
         dsimp only at Sy
         obtain⟨y34,hy35,Sy⟩:=bind_some Sy
         refine cH [⟨(.bU (.cons (.val (.int .i64) y34.1) (.cons (.val .bool y34.2.1) .nil))),[(0,0),(1,1)],[],[(0,(.row 3 8 (.int .i64) y34.2.2.1)),(1,(.row 23 32 aD y34.2.2.2))],218⟩] [] [] [DL RS RU o10.1 v22.1 v22.2 y34] ⟨J8 _ _ _ _ _ _ hy35,trivial⟩ ?_
         refine aF ?_
         refine aF ?_
         refine cH [] [] [] [(8:Int)≠0] ⟨(by decide),trivial⟩ ?_
         refine aF ?_
         rcases ae Sy with⟨hc40,Sy⟩|⟨hc40,Sy⟩
         ·refine cg hc40 ?_
          refine aF ?_
          obtain⟨y36,hy37,Sy⟩:=bind_some Sy
          refine cH [⟨(.bU .nil),[(0,0),(1,1)],[],[(0,(.row 3 8 (.int .i64) y36.1)),(1,(.row 23 32 aD y36.2))],188⟩] [] [] [yP RS y34.1 o4.1 y34.2.2.1 y34.2.2.2 y36] ⟨DM _ _ _ _ _ _ hy37,trivial⟩ ?_
          refine fS ?_
          refine bN ?_
          exact gI [.ak [0,1,2,3,4,10,11] [0,1]] ⟨_,_,_,_,_,_,_,Sy,rfl⟩
         ·refine cq hc40 ?_
          refine aF ?_
          obtain⟨y38,hy39,Sy⟩:=bind_some Sy
          refine cH [⟨(.bU .nil),[(0,0),(1,1)],[],[(0,(.row 3 8 (.int .i64) y38.1)),(1,(.row 23 32 aD y38.2))],188⟩] [] [] [yP (al (y34.1+(1:Int))) RU o4.1 y34.2.2.1 y34.2.2.2 y38] ⟨DM _ _ _ _ _ _ hy39,trivial⟩ ?_
          refine fS ?_
          refine bN ?_
          exact gI [.ak [0,1,2,3,4,10,11] [0,1]] ⟨_,_,_,_,_,_,_,Sy,rfl⟩
 ·rintro _ ⟨Od,rfl,rfl⟩
  dsimp only at h
  cases h
def oG(a0:List Int)(a1:List aO):Option ((List Int)×(List aO)):=
 Option.bind (f44 (IntKind.u64.wrap ((List.length a0:Int)))) fun y1=>Option.bind (vw (0:Int) (List.length a0:Int) y1 a0 a1) fun y3=>some (y3.1,y3.2)
abbrev DO(a0:List Int)(a1:List aO)(r:(List Int)×(List aO)):Prop:=Fc Tryz.prog gl 20 [(.own 0),(.func (.func 21) (.cons (.own 1) .nil) .nil)] (aA (List.replicate 54 none) [(0,some (.row 3 8 (.int .i64) a0)),(1,some (.row 23 32 aD a1))]) (.ret (.bU .nil)) (bz 54 [(0,(.row 3 8 (.int .i64) r.1)),(1,(.row 23 32 aD r.2))])
theorem Ka(a0:List Int)(a1:List aO)(r:(List Int)×(List aO))(h:oG a0 a1=some r):DO a0 a1 r:=by
 refine Fc.of Tryz.call20 (bW.aG tied Tryz.func20 rfl rfl (σ0:=ao 14 54 [(0,(.own 0)),(1,(.func (.func 21) (.cons (.own 1) .nil) .nil))] [(0,some (.row 3 8 (.int .i64) a0)),(1,some (.row 23 32 aD a1))]) (by kernel_rfl) ?_)
 unfold oG at h
 refine aF ?_
 obtain⟨y1,hy2,h⟩:=bind_some h
 obtain⟨y3,hy4,h⟩:=bind_some h
 refine kc [⟨(.val (.int .i64) y1),[],[],[],48⟩,⟨(.bU .nil),[(0,0),(1,1)],[],[(0,(.row 3 8 (.int .i64) y3.1)),(1,(.row 23 32 aD y3.2))],188⟩] [] [] [Ov (IntKind.u64.wrap ((List.length a0:Int))) y1,DN (0:Int) (List.length a0:Int) y1 a0 a1 y3] ⟨PO _ _ hy2,J9 _ _ _ _ _ _ hy4,trivial⟩ ?_
 obtain rfl:=Option.some.inj h
 exact(av [.ak [] [0,1]] [] (cL 54 [0,1]) (by kernel_rfl)).2
def nA(a0:aO)(a1:Int):Nat→Int→(List Int)→(List aO)→Option ((List Int)×(List aO))
 |0,_,_,_=>none
 |n1+1,RS,RU,RX=>if(decide (RS<a1))=true then(if(List.length ([]:List Int)+List.length (List.take (32 -0) (List.drop 0 a0)))*1≤az then(if(List.length (List.take (32 -0) (List.drop 0 a0))+List.length [IntKind.u8.wrap (Int.fdiv RS (2^(min (Int.toNat (24:Int)) 64))),IntKind.u8.wrap (Int.fdiv RS (2^(min (Int.toNat (16:Int)) 64))),IntKind.u8.wrap (Int.fdiv RS (2^(min (Int.toNat (8:Int)) 64))),IntKind.u8.wrap (RS)])*1≤az then(Option.bind (f19 [112,108,97,99,101] ((List.take (32 -0) (List.drop 0 a0))++[IntKind.u8.wrap (Int.fdiv RS (2^(min (Int.toNat (24:Int)) 64))),IntKind.u8.wrap (Int.fdiv RS (2^(min (Int.toNat (16:Int)) 64))),IntKind.u8.wrap (Int.fdiv RS (2^(min (Int.toNat (8:Int)) 64))),IntKind.u8.wrap (RS)])) fun y9=>if(List.length RX+List.length [y9])*32≤az then(if(List.length RU+List.length [RS])*8≤az then(nA a0 a1 n1 (al (RS+(1:Int))) (RU++[RS]) (RX++[y9])) else none) else none) else none) else none) else(some (RU,RX))
def f6(a0:aO)(a1:Int):Option ((List Int)×Int):=
 Option.bind (Option.bind (if(decide (a1<(1:Int)))=true then(some true) else(some (decide ((16:Int)<a1)))) fun(o2:Bool)=>if o2=true then(some (.ret (([]:List Int),(200:Int)))) else(some (.brk ()))) fun(o1:iQ Unit ((List Int)×Int))=>match o1 with| .brk _v5=>(Option.bind (nA a0 a1 (Int.toNat a1+1) (0:Int) ([]:List Int) ([]:List aO)) fun(o6:(List Int)×(List aO))=>Option.bind (oG o6.1 o6.2) fun y14=>some (y14.1,(0:Int)))| .ret r16=>(some r16)
abbrev q6(a0:aO)(a1:Int)(r:(List Int)×Int):Prop:=Fc Tryz.prog gl 6 [(.val aD a0),(.val (.int .i64) a1)] (aA (List.replicate 90 none) []) (.ret (.bU (.cons (.val (.slice 8 (.int .i64)) r.1) (.cons (.val (.int .i64) r.2) .nil)))) (bz 90 [])
theorem x6(a0:aO)(a1:Int)(r:(List Int)×Int)(h:f6 a0 a1=some r):q6 a0 a1 r:=by
 refine Fc.of Tryz.call6 (bW.aG tied Tryz.func6 rfl rfl (σ0:=ao 50 90 [(0,(.val aD a0)),(1,(.val (.int .i64) a1))] []) (by kernel_rfl) ?_)
 unfold f6 at h
 refine aF ?_
 obtain⟨o1,h1,h⟩:=bind_some h
 refine ai.aZ (fun σ'=>∃v5,o1= .brk v5∧σ'=ao 50 90 [(1,(.val (.int .i64) a1)),(2,(.ptr 18 [])),(4,.dS)] [(18,some (.var aD (.val aD a0)))]) ?_ ?_
 ·obtain⟨o2,h3,h1⟩:=bind_some h1
  refine ai.aZ (fun σ'=>σ'=ao 50 90 [(1,(.val (.int .i64) a1)),(2,(.ptr 18 [])),(4,.dS),(14,(.val .bool o2))] [(18,some (.var aD (.val aD a0)))]) ?_ ?_
  ·rcases ae h3 with⟨hg3,h3⟩|⟨hg3,h3⟩
   ·refine kc [] [true] [] [(decide (a1<(1:Int)))=true] ⟨hg3,trivial⟩ ?_
    obtain rfl:=Option.some.inj h3
    exact bx [.ak [1,2,4,14] [18]] rfl
   ·refine kc [] [false] [] [(decide (a1<(1:Int)))=false] ⟨hg3,trivial⟩ ?_
    obtain rfl:=Option.some.inj h3
    exact bx [.ak [1,2,4,14] [18]] rfl
  ·rintro _ rfl
   rcases ae h1 with⟨hc4,h1⟩|⟨hc4,h1⟩
   ·refine cg hc4 ?_
    refine aF ?_
    refine ai.ret ?_
    obtain rfl:=Option.some.inj h1
    dsimp only at h
    obtain rfl:=Option.some.inj h
    exact(av [] [some (.slice 8 (.int .i64)),some (.int .i64)] (cL 90 []) (by kernel_rfl)).1
   ·refine cq hc4 ?_
    refine ai.skip ?_
    obtain rfl:=Option.some.inj h1
    exact bx [.ak [1,2,4] [18]] ⟨_,rfl,rfl⟩
 ·rintro _ ⟨v5,rfl,rfl⟩
  dsimp only at h
  refine aF ?_
  obtain⟨o6,h4,h⟩:=bind_some h
  refine ai.aZ (fun σ'=>σ'=ao 50 90 [(4,(.own 68)),(6,(.own 69))] [(68,some (.row 3 8 (.int .i64) o6.1)),(69,some (.row 23 32 aD o6.2))]) ?_ ?_
  ·refine aF ?_
   refine ai.block ?_
   refine ai.aV (fun n σ=>∃(RS:Int)(RU:List Int)(RX:List aO),nA a0 a1 n RS RU RX=some o6∧σ=ao 50 90 [(2,(.ptr 18 [])),(4,(.own 66)),(6,(.own 67)),(15,(.val (.int .i64) a1)),(16,(.val (.int .i64) RS))] [(18,some (.var aD (.val aD a0))),(66,some (.row 3 8 (.int .i64) RU)),(67,some (.row 23 32 aD RX))]) [.ak [2,4,6,15,16] [18],.ld 4 66 3 8 (.int .i64),.ld 6 67 23 32 aD] (by kernel_rfl) ⟨_,_,_,h4,rfl⟩ ?_
   rintro n1 _ ⟨RS,RU,RX,h6,rfl⟩
   cases n1 with
   |zero=>exact absurd h6 (by simp[nA])
   |
    succ n1=>
    unfold nA at h6
    refine aF ?_
    refine ai.seq ?_
    rcases ae h6 with⟨hc13,h6⟩|⟨hc13,h6⟩
    ·refine cg hc13 ?_
     refine zk ?_
     refine ai.seq ?_
     refine ai.block ?_
     refine aF ?_
     obtain⟨hv7,h6⟩:=ab h6
     obtain⟨hv8,h6⟩:=ab h6
     refine cH [] [] [] [(List.length ([]:List Int)+List.length (List.take (32 -0) (List.drop 0 a0)))*1≤az,0≤(24:Int),0≤(16:Int),0≤(8:Int),(List.length (List.take (32 -0) (List.drop 0 a0))+List.length [IntKind.u8.wrap (Int.fdiv RS (2^(min (Int.toNat (24:Int)) 64))),IntKind.u8.wrap (Int.fdiv RS (2^(min (Int.toNat (16:Int)) 64))),IntKind.u8.wrap (Int.fdiv RS (2^(min (Int.toNat (8:Int)) 64))),IntKind.u8.wrap (RS)])*1≤az] ⟨hv7,(by decide),(by decide),(by decide),hv8,trivial⟩ ?_
     obtain⟨y9,hy10,h6⟩:=bind_some h6
     obtain⟨SS,h6⟩:=ab h6
     refine cH [⟨(.val aD y9),[],[],[],54⟩] [] [] [N3 [112,108,97,99,101] ((List.take (32 -0) (List.drop 0 a0))++[IntKind.u8.wrap (Int.fdiv RS (2^(min (Int.toNat (24:Int)) 64))),IntKind.u8.wrap (Int.fdiv RS (2^(min (Int.toNat (16:Int)) 64))),IntKind.u8.wrap (Int.fdiv RS (2^(min (Int.toNat (8:Int)) 64))),IntKind.u8.wrap (RS)]) y9,(List.length RX+List.length [y9])*32≤az] ⟨QG _ _ _ hy10,SS,trivial⟩ ?_
     obtain⟨hv12,h6⟩:=ab h6
     refine kc [] [] [] [(List.length RU+List.length [RS])*8≤az] ⟨hv12,trivial⟩ ?_
     refine bN ?_
     change ai _ _ _ _ _
     refine fS ?_
     exact gI [.ak [2,4,6,15,16] [18,55,59],.oP 59 66,.oP 55 67] ⟨_,_,_,h6,rfl⟩
    ·refine cq hc13 ?_
     refine ai.exit ?_
     refine ze ?_
     obtain rfl:=Option.some.inj h6
     exact bx [.ak [4,6] [66,67],.oP 66 68,.oP 67 69] rfl
  ·rintro _ rfl
   obtain⟨y14,hy15,h⟩:=bind_some h
   refine cH [⟨(.bU .nil),[(0,68),(1,69)],[],[(0,(.row 3 8 (.int .i64) y14.1)),(1,(.row 23 32 aD y14.2))],54⟩] [] [] [DO o6.1 o6.2 y14] ⟨Ka _ _ _ hy15,trivial⟩ ?_
   refine aF ?_
   refine ai.ret ?_
   obtain rfl:=Option.some.inj h
   exact(av [.freeze 68 (.slice 8 (.int .i64))] [some (.slice 8 (.int .i64)),some (.int .i64)] (cL 90 []) (by kernel_rfl)).1
end Go.Proofs.YtmpdeifdnbhdiaaGreatDoor
