/- Made by program (dec.py): walks -/
import Derived.Test.YtmpdeifdnbhdiaaGreatDoorH1
set_option maxRecDepth 100000
namespace Go.Proofs.YtmpdeifdnbhdiaaGreatDoor
open Go.Abs
def gj(a0:aQ)(a1:List Int):Nat→Int→dI→Option dI
 |0,_,_=>none
 |n1+1,RS,RU=>if(decide (RS<(16:Int)))=true then(if 0≤(al ((4:Int)*RS))∧(al ((4:Int)*RS))≤(al ((al ((4:Int)*RS))+(4:Int)))∧(al ((al ((4:Int)*RS))+(4:Int)))≤(List.length a1:Int) then(Option.bind (B1 (aS a1 (Int.toNat (al ((4:Int)*RS))) (Int.toNat (al ((al ((4:Int)*RS))+(4:Int)))))) fun y3=>if 0≤RS∧RS<(64:Int) then(gj a0 a1 n1 (al (RS+(1:Int))) (List.set RU (Int.toNat RS) y3)) else none) else none) else(some RU)
def gk(a0:aQ):Nat→Int→dI→Option dI
 |0,_,_=>none
 |n2+1,RW,R4=>if(decide (RW<(64:Int)))=true then(if 0≤(al (RW -(15:Int)))∧(al (RW -(15:Int)))<(64:Int) then(if 0≤(al (RW -(2:Int)))∧(al (RW -(2:Int)))<(64:Int) then(if 0≤(al (RW -(16:Int)))∧(al (RW -(16:Int)))<(64:Int) then(Option.bind (da (nth (.int .u32) R4 (al (RW -(15:Int)))) (7:Int)) fun y11=>Option.bind (da (nth (.int .u32) R4 (al (RW -(15:Int)))) (18:Int)) fun y13=>if 0≤(al (RW -(7:Int)))∧(al (RW -(7:Int)))<(64:Int) then(Option.bind (da (nth (.int .u32) R4 (al (RW -(2:Int)))) (17:Int)) fun y16=>Option.bind (da (nth (.int .u32) R4 (al (RW -(2:Int)))) (19:Int)) fun y18=>if 0≤RW∧RW<(64:Int) then(gk a0 n2 (al (RW+(1:Int))) (List.set R4 (Int.toNat RW) (IntKind.u32.wrap ((IntKind.u32.wrap ((IntKind.u32.wrap ((nth (.int .u32) R4 (al (RW -(16:Int))))+(aq .xor .u32 (aq .xor .u32 y11 y13) (Int.fdiv (nth (.int .u32) R4 (al (RW -(15:Int)))) (2^(min (Int.toNat (3:Int)) 32))))))+(nth (.int .u32) R4 (al (RW -(7:Int))))))+(aq .xor .u32 (aq .xor .u32 y16 y18) (Int.fdiv (nth (.int .u32) R4 (al (RW -(2:Int)))) (2^(min (Int.toNat (10:Int)) 32)))))))) else none) else none) else none) else none) else none) else(some R4)
def dC(a0:aQ)(o7:dI)(y22:dI):Nat→Int→Int→Int→Int→Int→Int→Int→Int→Int→Option (Int×Int×Int×Int×Int×Int×Int×Int)
 |0,_,_,_,_,_,_,_,_,_=>none
 |n3+1,RZ,R8,Sh,u3_3,u3_4,u3_5,u3_6,u3_7,u3_8=>if(decide (u3_8<(64:Int)))=true then(Option.bind (da u3_4 (6:Int)) fun y25=>Option.bind (da u3_4 (11:Int)) fun y27=>Option.bind (da u3_4 (25:Int)) fun y29=>if 0≤u3_8∧u3_8<(64:Int) then(Option.bind (da RZ (2:Int)) fun y32=>Option.bind (da RZ (13:Int)) fun y34=>Option.bind (da RZ (22:Int)) fun y36=>dC a0 o7 y22 n3 (IntKind.u32.wrap ((IntKind.u32.wrap ((IntKind.u32.wrap ((IntKind.u32.wrap ((IntKind.u32.wrap (u3_7+(aq .xor .u32 (aq .xor .u32 y25 y27) y29)))+(aq .xor .u32 (aq .and .u32 u3_4 u3_5) (aq .and .u32 (aq .xor .u32 IntKind.u32.max u3_4) u3_6))))+(nth (.int .u32) y22 u3_8)))+(nth (.int .u32) o7 u3_8)))+(IntKind.u32.wrap ((aq .xor .u32 (aq .xor .u32 y32 y34) y36)+(aq .xor .u32 (aq .xor .u32 (aq .and .u32 RZ R8) (aq .and .u32 RZ Sh)) (aq .and .u32 R8 Sh)))))) RZ R8 Sh (IntKind.u32.wrap (u3_3+(IntKind.u32.wrap ((IntKind.u32.wrap ((IntKind.u32.wrap ((IntKind.u32.wrap (u3_7+(aq .xor .u32 (aq .xor .u32 y25 y27) y29)))+(aq .xor .u32 (aq .and .u32 u3_4 u3_5) (aq .and .u32 (aq .xor .u32 IntKind.u32.max u3_4) u3_6))))+(nth (.int .u32) y22 u3_8)))+(nth (.int .u32) o7 u3_8))))) u3_4 u3_5 u3_6 (al (u3_8+(1:Int)))) else none) else(some (RZ,R8,Sh,u3_3,u3_4,u3_5,u3_6,u3_7))
def wR(a0:aQ)(a1:List Int):Option aQ:=
 Option.bind (gj a0 a1 (bC) (0:Int) (List.replicate 64 (0:Int))) fun(o1:dI)=>Option.bind (gk a0 (bC) (16:Int) o1) fun(o7:dI)=>Option.bind (El) fun y22=>Option.bind (dC a0 o7 y22 (bC) (nth (.int .u32) a0 (0:Int)) (nth (.int .u32) a0 (1:Int)) (nth (.int .u32) a0 (2:Int)) (nth (.int .u32) a0 (3:Int)) (nth (.int .u32) a0 (4:Int)) (nth (.int .u32) a0 (5:Int)) (nth (.int .u32) a0 (6:Int)) (nth (.int .u32) a0 (7:Int)) (0:Int)) fun(o24:Int×Int×Int×Int×Int×Int×Int×Int)=>some [IntKind.u32.wrap ((nth (.int .u32) a0 (0:Int))+o24.1),IntKind.u32.wrap ((nth (.int .u32) a0 (1:Int))+o24.2.1),IntKind.u32.wrap ((nth (.int .u32) a0 (2:Int))+o24.2.2.1),IntKind.u32.wrap ((nth (.int .u32) a0 (3:Int))+o24.2.2.2.1),IntKind.u32.wrap ((nth (.int .u32) a0 (4:Int))+o24.2.2.2.2.1),IntKind.u32.wrap ((nth (.int .u32) a0 (5:Int))+o24.2.2.2.2.2.1),IntKind.u32.wrap ((nth (.int .u32) a0 (6:Int))+o24.2.2.2.2.2.2.1),IntKind.u32.wrap ((nth (.int .u32) a0 (7:Int))+o24.2.2.2.2.2.2.2)]
abbrev Nb(a0:aQ)(a1:List Int)(r:aQ):Prop:=Fc Tryz.prog gl 119 [(.val aM a0),(.val (.slice 1 (.int .u8)) a1)] (aA (List.replicate 231 none) []) (.ret (.val aM r)) (bz 231 [])
theorem Pf(a0:aQ)(a1:List Int)(r:aQ)(h:wR a0 a1=some r):Nb a0 a1 r:=by
 refine Fc.of Tryz.call119 (bW.aG tied Tryz.func119 rfl rfl (σ0:=ao 191 231 [(0,(.val aM a0)),(1,(.val (.slice 1 (.int .u8)) a1))] []) (by kernel_rfl) ?_)
 unfold wR at h
 refine aF ?_
 refine aF ?_
 obtain⟨o1,h1,h⟩:=bind_some h
 refine ai.aZ (fun σ'=>σ'=ao 191 231 [(2,(.ptr 18 [])),(4,(.ptr 20 [])),(5,(.ptr 21 []))] [(18,some (.var aM (.val aM a0))),(20,some (.var aM (.val aM (Ty.aX aM)))),(21,some (.var c8 (.val c8 o1)))]) ?_ ?_
 ·refine aF ?_
  refine ai.block ?_
  refine ai.aV (fun n σ=>∃(RS:Int)(RU:dI),gj a0 a1 n RS RU=some o1∧σ=ao 191 231 [(1,(.val (.slice 1 (.int .u8)) a1)),(2,(.ptr 18 [])),(4,(.ptr 20 [])),(5,(.ptr 21 [])),(6,(.val (.int .i64) RS))] [(18,some (.var aM (.val aM a0))),(20,some (.var aM (.val aM (Ty.aX aM)))),(21,some (.var c8 (.val c8 RU)))]) [.ak [1,2,4,5,6] [18,20,21]] (by kernel_rfl) ⟨_,_,h1,rfl⟩ ?_
  rintro n1 _ ⟨RS,RU,h3,rfl⟩
  cases n1 with
  |zero=>exact absurd h3 (by simp[gj])
  |
   succ n1=>
   unfold gj at h3
   refine ai.seq ?_
   refine aF ?_
   rcases ae h3 with⟨hc6,h3⟩|⟨hc6,h3⟩
   ·refine cg hc6 ?_
    refine zk ?_
    refine ai.seq ?_
    refine ai.block ?_
    obtain⟨Sx,h3⟩:=ab h3
    obtain⟨y3,hy4,h3⟩:=bind_some h3
    obtain⟨hv5,h3⟩:=ab h3
    refine kc [⟨(.val (.int .u32) y3),[],[],[],65⟩] [] [] [0≤(al ((4:Int)*RS)),(al ((4:Int)*RS))≤(al ((al ((4:Int)*RS))+(4:Int))),(al ((al ((4:Int)*RS))+(4:Int)))≤(List.length a1:Int),KL (aS a1 (Int.toNat (al ((4:Int)*RS))) (Int.toNat (al ((al ((4:Int)*RS))+(4:Int))))) y3,0≤RS,RS<(64:Int)] ⟨Sx.1,Sx.2.1,Sx.2.2,OB _ _ hy4,hv5.1,hv5.2,trivial⟩ ?_
    refine bN ?_
    change ai _ _ _ _ _
    refine fS ?_
    exact gI [.ak [1,2,4,5,6] [18,20,21]] ⟨_,_,h3,rfl⟩
   ·refine cq hc6 ?_
    refine ai.exit ?_
    refine ze ?_
    obtain rfl:=Option.some.inj h3
    exact bx [.ak [2,4,5] [18,20,21]] rfl
 ·rintro _ rfl
  obtain⟨o7,h4,h⟩:=bind_some h
  refine ai.aZ (fun σ'=>σ'=ao 191 231 [(2,(.ptr 18 [])),(4,(.ptr 20 [])),(5,(.ptr 21 []))] [(18,some (.var aM (.val aM a0))),(20,some (.var aM (.val aM (Ty.aX aM)))),(21,some (.var c8 (.val c8 o7)))]) ?_ ?_
  ·refine aF ?_
   refine ai.block ?_
   refine ai.aV (fun n σ=>∃(RW:Int)(R4:dI),gk a0 n RW R4=some o7∧σ=ao 191 231 [(2,(.ptr 18 [])),(4,(.ptr 20 [])),(5,(.ptr 21 [])),(7,(.val (.int .i64) RW))] [(18,some (.var aM (.val aM a0))),(20,some (.var aM (.val aM (Ty.aX aM)))),(21,some (.var c8 (.val c8 R4)))]) [.ak [2,4,5,7] [18,20,21]] (by kernel_rfl) ⟨_,_,h4,rfl⟩ ?_
   rintro n2 _ ⟨RW,R4,h6,rfl⟩
   cases n2 with
   |zero=>exact absurd h6 (by simp[gk])
   |
    succ n2=>
    unfold gk at h6
    refine ai.seq ?_
    refine aF ?_
    rcases ae h6 with⟨hc21,h6⟩|⟨hc21,h6⟩
    ·refine cg hc21 ?_
     refine zk ?_
     refine ai.seq ?_
     refine ai.block ?_
     obtain⟨hv8,h6⟩:=ab h6
     refine cH [] [] [] [0≤(al (RW -(15:Int))),(al (RW -(15:Int)))<(64:Int)] ⟨hv8.1,hv8.2,trivial⟩ ?_
     obtain⟨hv9,h6⟩:=ab h6
     refine cH [] [] [] [0≤(al (RW -(2:Int))),(al (RW -(2:Int)))<(64:Int)] ⟨hv9.1,hv9.2,trivial⟩ ?_
     obtain⟨Sv,h6⟩:=ab h6
     obtain⟨y11,hy12,h6⟩:=bind_some h6
     obtain⟨y13,hy14,h6⟩:=bind_some h6
     obtain⟨hv15,h6⟩:=ab h6
     obtain⟨y16,hy17,h6⟩:=bind_some h6
     obtain⟨y18,hy19,h6⟩:=bind_some h6
     obtain⟨hv20,h6⟩:=ab h6
     refine jM [⟨(.val (.int .u32) y11),[],[],[],53⟩,⟨(.val (.int .u32) y13),[],[],[],53⟩,⟨(.val (.int .u32) y16),[],[],[],53⟩,⟨(.val (.int .u32) y18),[],[],[],53⟩] [] [] [0≤(al (RW -(16:Int))),(al (RW -(16:Int)))<(64:Int),qd (nth (.int .u32) R4 (al (RW -(15:Int)))) (7:Int) y11,qd (nth (.int .u32) R4 (al (RW -(15:Int)))) (18:Int) y13,0≤(3:Int),0≤(al (RW -(7:Int))),(al (RW -(7:Int)))<(64:Int),qd (nth (.int .u32) R4 (al (RW -(2:Int)))) (17:Int) y16,qd (nth (.int .u32) R4 (al (RW -(2:Int)))) (19:Int) y18,0≤(10:Int),0≤RW,RW<(64:Int)] ⟨Sv.1,Sv.2,rQ _ _ _ hy12,rQ _ _ _ hy14,(by decide),hv15.1,hv15.2,rQ _ _ _ hy17,rQ _ _ _ hy19,(by decide),hv20.1,hv20.2,trivial⟩ ?_
     refine bN ?_
     change ai _ _ _ _ _
     refine fS ?_
     exact gI [.ak [2,4,5,7] [18,20,21]] ⟨_,_,h6,rfl⟩
    ·refine cq hc21 ?_
     refine ai.exit ?_
     refine ze ?_
     obtain rfl:=Option.some.inj h6
     exact bx [.ak [2,4,5] [18,20,21]] rfl
  ·rintro _ rfl
   obtain⟨y22,hy23,h⟩:=bind_some h
   refine cH [⟨(.val c8 y22),[],[],[],42⟩] [] [] [KM y22] ⟨OC _ hy23,trivial⟩ ?_
   refine mf [] [] [] [0≤(0:Int),(0:Int)<(8:Int),0≤(1:Int),(1:Int)<(8:Int),0≤(2:Int),(2:Int)<(8:Int),0≤(3:Int),(3:Int)<(8:Int),0≤(4:Int),(4:Int)<(8:Int),0≤(5:Int),(5:Int)<(8:Int),0≤(6:Int),(6:Int)<(8:Int),0≤(7:Int),(7:Int)<(8:Int)] ⟨(by decide),(by decide),(by decide),(by decide),(by decide),(by decide),(by decide),(by decide),(by decide),(by decide),(by decide),(by decide),(by decide),(by decide),(by decide),(by decide),trivial⟩ ?_
   obtain⟨o24,h7,h⟩:=bind_some h
   refine ai.aZ (fun σ'=>σ'=ao 191 231 [(2,(.ptr 18 [])),(4,(.ptr 20 [])),(11,(.val (.int .u32) o24.1)),(12,(.val (.int .u32) o24.2.1)),(13,(.val (.int .u32) o24.2.2.1)),(14,(.val (.int .u32) o24.2.2.2.1)),(15,(.val (.int .u32) o24.2.2.2.2.1)),(16,(.val (.int .u32) o24.2.2.2.2.2.1)),(17,(.val (.int .u32) o24.2.2.2.2.2.2.1)),(18,(.val (.int .u32) o24.2.2.2.2.2.2.2))] [(18,some (.var aM (.val aM a0))),(20,some (.var aM (.val aM (Ty.aX aM))))]) ?_ ?_
   ·refine aF ?_
    refine ai.block ?_
    refine ai.aV (fun n σ=>∃(RZ:Int)(R8:Int)(Sh:Int)(u3_3:Int)(u3_4:Int)(u3_5:Int)(u3_6:Int)(u3_7:Int)(u3_8:Int),dC a0 o7 y22 n RZ R8 Sh u3_3 u3_4 u3_5 u3_6 u3_7 u3_8=some o24∧σ=ao 191 231 [(2,(.ptr 18 [])),(4,(.ptr 20 [])),(5,(.ptr 21 [])),(10,(.ptr 26 [])),(11,(.val (.int .u32) RZ)),(12,(.val (.int .u32) R8)),(13,(.val (.int .u32) Sh)),(14,(.val (.int .u32) u3_3)),(15,(.val (.int .u32) u3_4)),(16,(.val (.int .u32) u3_5)),(17,(.val (.int .u32) u3_6)),(18,(.val (.int .u32) u3_7)),(19,(.val (.int .i64) u3_8))] [(18,some (.var aM (.val aM a0))),(20,some (.var aM (.val aM (Ty.aX aM)))),(21,some (.var c8 (.val c8 o7))),(26,some (.var c8 (.val c8 y22)))]) [.ak [2,4,5,10,11,12,13,14,15,16,17,18,19] [18,20,21,26]] (by kernel_rfl) ⟨_,_,_,_,_,_,_,_,_,h7,rfl⟩ ?_
    rintro n3 _ ⟨RZ,R8,Sh,u3_3,u3_4,u3_5,u3_6,u3_7,u3_8,h9,rfl⟩
    cases n3 with
    |zero=>exact absurd h9 (by simp[dC])
    |
     succ n3=>
     unfold dC at h9
     refine ai.seq ?_
     refine aF ?_
     rcases ae h9 with⟨hc38,h9⟩|⟨hc38,h9⟩
     ·refine cg hc38 ?_
      refine zk ?_
      refine ai.seq ?_
      refine ai.block ?_
      obtain⟨y25,hy26,h9⟩:=bind_some h9
      obtain⟨y27,hy28,h9⟩:=bind_some h9
      obtain⟨y29,hy30,h9⟩:=bind_some h9
      obtain⟨hv31,h9⟩:=ab h9
      refine mf [⟨(.val (.int .u32) y25),[],[],[],53⟩,⟨(.val (.int .u32) y27),[],[],[],53⟩,⟨(.val (.int .u32) y29),[],[],[],53⟩] [] [] [qd u3_4 (6:Int) y25,qd u3_4 (11:Int) y27,qd u3_4 (25:Int) y29,0≤u3_8,u3_8<(64:Int),0≤u3_8,u3_8<(64:Int)] ⟨rQ _ _ _ hy26,rQ _ _ _ hy28,rQ _ _ _ hy30,hv31.1,hv31.2,hv31.1,hv31.2,trivial⟩ ?_
      obtain⟨y32,hy33,h9⟩:=bind_some h9
      obtain⟨y34,hy35,h9⟩:=bind_some h9
      obtain⟨y36,hy37,h9⟩:=bind_some h9
      refine cH [⟨(.val (.int .u32) y32),[],[],[],53⟩,⟨(.val (.int .u32) y34),[],[],[],53⟩,⟨(.val (.int .u32) y36),[],[],[],53⟩] [] [] [qd RZ (2:Int) y32,qd RZ (13:Int) y34,qd RZ (22:Int) y36] ⟨rQ _ _ _ hy33,rQ _ _ _ hy35,rQ _ _ _ hy37,trivial⟩ ?_
      refine fS ?_
      refine bN ?_
      change ai _ _ _ _ _
      refine fS ?_
      exact gI [.ak [2,4,5,10,11,12,13,14,15,16,17,18,19] [18,20,21,26]] ⟨_,_,_,_,_,_,_,_,_,h9,rfl⟩
     ·refine cq hc38 ?_
      refine ai.exit ?_
      refine ze ?_
      obtain rfl:=Option.some.inj h9
      exact bx [.ak [2,4,11,12,13,14,15,16,17,18] [18,20]] rfl
   ·rintro _ rfl
    refine cH [] [] [] [0≤(0:Int),(0:Int)<(8:Int),0≤(1:Int),(1:Int)<(8:Int),0≤(2:Int),(2:Int)<(8:Int),0≤(3:Int),(3:Int)<(8:Int),0≤(4:Int),(4:Int)<(8:Int),0≤(5:Int),(5:Int)<(8:Int),0≤(6:Int),(6:Int)<(8:Int),0≤(7:Int),(7:Int)<(8:Int)] ⟨(by decide),(by decide),(by decide),(by decide),(by decide),(by decide),(by decide),(by decide),(by decide),(by decide),(by decide),(by decide),(by decide),(by decide),(by decide),(by decide),trivial⟩ ?_
    refine ai.ret ?_
    obtain rfl:=Option.some.inj h
    exact(av [] [some aM] (cL 231 []) (by kernel_rfl)).1
def kB(y1:List Int):Nat→Int→aQ→Option aQ
 |0,_,_=>none
 |n1+1,RS,RU=>if(decide (RS<(List.length y1:Int)))=true then(if 0≤RS∧RS≤(al (RS+(64:Int)))∧(al (RS+(64:Int)))≤(List.length y1:Int) then(Option.bind (wR RU (aS y1 (Int.toNat RS) (Int.toNat (al (RS+(64:Int)))))) fun y5=>kB y1 n1 (al (RS+(64:Int))) y5) else none) else(some RU)
def iN(o3:aQ):Nat→Int→aO→Option aO
 |0,_,_=>none
 |n2+1,RW,R4=>if(decide (RW<(32:Int)))=true then(if 0≤(al (Int.tdiv RW (4:Int)))∧(al (Int.tdiv RW (4:Int)))<(8:Int) then(if 0≤(al ((24:Int) -(al ((8:Int)*(Int.tmod RW (4:Int)))))) then(if 0≤RW∧RW<(32:Int) then(iN o3 n2 (al (RW+(1:Int))) (List.set R4 (Int.toNat RW) (IntKind.u8.wrap (Int.fdiv (nth (.int .u32) o3 (al (Int.tdiv RW (4:Int)))) (2^(min (Int.toNat (al ((24:Int) -(al ((8:Int)*(Int.tmod RW (4:Int))))))) 32)))))) else none) else none) else none) else(some R4)
def JI(a0:List Int):Option aO:=
 Option.bind (B0 a0) fun y1=>Option.bind (kB y1 (bC) (0:Int) [(1779033703:Int),(3144134277:Int),(1013904242:Int),(2773480762:Int),(1359893119:Int),(2600822924:Int),(528734635:Int),(1541459225:Int)]) fun(o3:aQ)=>Option.bind (iN o3 (bC) (0:Int) (List.replicate 32 (0:Int))) fun(o8:aO)=>some o8
abbrev Pg(a0:List Int)(r:aO):Prop:=Fc Tryz.prog gl 80 [(.val (.slice 1 (.int .u8)) a0)] (aA (List.replicate 82 none) []) (.ret (.val aD r)) (bz 82 [])
theorem Qo(a0:List Int)(r:aO)(h:JI a0=some r):Pg a0 r:=by
 refine Fc.of Tryz.call80 (bW.aG tied Tryz.func80 rfl rfl (σ0:=ao 42 82 [(0,(.val (.slice 1 (.int .u8)) a0))] []) (by kernel_rfl) ?_)
 unfold JI at h
 refine aF ?_
 refine aF ?_
 obtain⟨y1,hy2,h⟩:=bind_some h
 refine cH [⟨(.val (.slice 1 (.int .u8)) y1),[],[],[],75⟩] [] [] [KK a0 y1] ⟨OA _ _ hy2,trivial⟩ ?_
 obtain⟨o3,h1,h⟩:=bind_some h
 refine ai.aZ (fun σ'=>σ'=ao 42 82 [(2,(.ptr 18 [])),(3,(.ptr 19 []))] [(18,some (.var aD (.val aD (Ty.aX aD)))),(19,some (.var aM (.val aM o3)))]) ?_ ?_
 ·refine aF ?_
  refine ai.block ?_
  refine ai.aV (fun n σ=>∃(RS:Int)(RU:aQ),kB y1 n RS RU=some o3∧σ=ao 42 82 [(2,(.ptr 18 [])),(3,(.ptr 19 [])),(4,(.val (.slice 1 (.int .u8)) y1)),(5,(.val (.int .i64) RS))] [(18,some (.var aD (.val aD (Ty.aX aD)))),(19,some (.var aM (.val aM RU)))]) [.ak [2,3,4,5] [18,19]] (by kernel_rfl) ⟨_,_,h1,rfl⟩ ?_
  rintro n1 _ ⟨RS,RU,h3,rfl⟩
  cases n1 with
  |zero=>exact absurd h3 (by simp[kB])
  |
   succ n1=>
   unfold kB at h3
   refine ai.seq ?_
   refine aF ?_
   rcases ae h3 with⟨hc7,h3⟩|⟨hc7,h3⟩
   ·refine cg hc7 ?_
    refine zk ?_
    refine ai.seq ?_
    refine ai.block ?_
    obtain⟨SL,h3⟩:=ab h3
    obtain⟨y5,hy6,h3⟩:=bind_some h3
    refine jM [⟨(.val aM y5),[],[],[],231⟩] [] [] [0≤RS,RS≤(al (RS+(64:Int))),(al (RS+(64:Int)))≤(List.length y1:Int),Nb RU (aS y1 (Int.toNat RS) (Int.toNat (al (RS+(64:Int))))) y5] ⟨SL.1,SL.2.1,SL.2.2,Pf _ _ _ hy6,trivial⟩ ?_
    refine bN ?_
    change ai _ _ _ _ _
    refine fS ?_
    exact gI [.ak [2,3,4,5] [18,19]] ⟨_,_,h3,rfl⟩
   ·refine cq hc7 ?_
    refine ai.exit ?_
    refine ze ?_
    obtain rfl:=Option.some.inj h3
    exact bx [.ak [2,3] [18,19]] rfl
 ·rintro _ rfl
  refine aF ?_
  obtain⟨o8,h4,h⟩:=bind_some h
  refine ai.aZ (fun σ'=>σ'=ao 42 82 [(2,(.ptr 18 [])),(6,(.ptr 22 []))] [(18,some (.var aD (.val aD (Ty.aX aD)))),(22,some (.var aD (.val aD o8)))]) ?_ ?_
  ·refine aF ?_
   refine ai.block ?_
   refine ai.aV (fun n σ=>∃(RW:Int)(R4:aO),iN o3 n RW R4=some o8∧σ=ao 42 82 [(2,(.ptr 18 [])),(3,(.ptr 19 [])),(6,(.ptr 22 [])),(7,(.val (.int .i64) RW))] [(18,some (.var aD (.val aD (Ty.aX aD)))),(19,some (.var aM (.val aM o3))),(22,some (.var aD (.val aD R4)))]) [.ak [2,3,6,7] [18,19,22]] (by kernel_rfl) ⟨_,_,h4,rfl⟩ ?_
   rintro n2 _ ⟨RW,R4,h6,rfl⟩
   cases n2 with
   |zero=>exact absurd h6 (by simp[iN])
   |
    succ n2=>
    unfold iN at h6
    refine ai.seq ?_
    refine aF ?_
    rcases ae h6 with⟨SP,h6⟩|⟨SP,h6⟩
    ·refine cg SP ?_
     refine zk ?_
     refine ai.seq ?_
     refine ai.block ?_
     obtain⟨hv9,h6⟩:=ab h6
     obtain⟨Sv,h6⟩:=ab h6
     obtain⟨SS,h6⟩:=ab h6
     refine kc [] [] [] [(4:Int)≠0,0≤(al (Int.tdiv RW (4:Int))),(al (Int.tdiv RW (4:Int)))<(8:Int),(4:Int)≠0,0≤(al ((24:Int) -(al ((8:Int)*(Int.tmod RW (4:Int)))))),0≤RW,RW<(32:Int)] ⟨(by decide),hv9.1,hv9.2,(by decide),Sv,SS.1,SS.2,trivial⟩ ?_
     refine bN ?_
     change ai _ _ _ _ _
     refine fS ?_
     exact gI [.ak [2,3,6,7] [18,19,22]] ⟨_,_,h6,rfl⟩
    ·refine cq SP ?_
     refine ai.exit ?_
     refine ze ?_
     obtain rfl:=Option.some.inj h6
     exact bx [.ak [2,6] [18,22]] rfl
  ·rintro _ rfl
   refine aF ?_
   refine ai.ret ?_
   obtain rfl:=Option.some.inj h
   exact(av [] [some aD] (cL 82 []) (by kernel_rfl)).1
end Go.Proofs.YtmpdeifdnbhdiaaGreatDoor
