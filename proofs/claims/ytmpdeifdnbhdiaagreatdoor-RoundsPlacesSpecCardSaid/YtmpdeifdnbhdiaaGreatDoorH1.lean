/- Made by program (dec.py): walks -/
import Derived.Test.YtmpdeifdnbhdiaaGreatDoorBase
set_option maxRecDepth 100000
namespace Go.Proofs.YtmpdeifdnbhdiaaGreatDoor
open Go.Abs
theorem sy:fH Tryz.prog G 40 3 (.int .i64)=true:=by kernel_rfl
theorem za:fH Tryz.prog G 40 23 aD=true:=by kernel_rfl
theorem zb:Tryz.prog.eqGuardType Tryz.prog.depth 23=false:=by kernel_rfl
theorem KJ:Tryz.prog.underlying 24=some (.slice 41):=by kernel_rfl
def fM(a0:Int)(a1:Int):Option Int:=
 if 0≤(aq .and .u64 (IntKind.u64.wrap (a1)) (31:Int)) then(if 0≤(IntKind.u64.wrap ((32:Int) -(aq .and .u64 (IntKind.u64.wrap (a1)) (31:Int)))) then(some (aq .or .u32 (IntKind.u32.wrap (a0*2^(min (Int.toNat (aq .and .u64 (IntKind.u64.wrap (a1)) (31:Int))) 32))) (Int.fdiv a0 (2^(min (Int.toNat (IntKind.u64.wrap ((32:Int) -(aq .and .u64 (IntKind.u64.wrap (a1)) (31:Int))))) 32))))) else none) else none
abbrev qc(a0:Int)(a1:Int)(r:Int):Prop:=Fc Tryz.prog gl 111 [(.val (.int .u32) a0),(.val (.int .i64) a1)] (aA (List.replicate 57 none) []) (.ret (.val (.int .u32) r)) (bz 57 [])
theorem rP(a0:Int)(a1:Int)(r:Int)(h:fM a0 a1=some r):qc a0 a1 r:=by
 refine Fc.of Tryz.call111 (bW.aG tied Tryz.func111 rfl rfl (σ0:=ao 17 57 [(0,(.val (.int .u32) a0)),(1,(.val (.int .i64) a1))] []) (by kernel_rfl) ?_)
 unfold fM at h
 refine aF ?_
 refine aF ?_
 obtain⟨hv1,h⟩:=ab h
 obtain⟨Sx,h⟩:=ab h
 refine cH [] [] [] [0≤(aq .and .u64 (IntKind.u64.wrap (a1)) (31:Int)),0≤(IntKind.u64.wrap ((32:Int) -(aq .and .u64 (IntKind.u64.wrap (a1)) (31:Int))))] ⟨hv1,Sx,trivial⟩ ?_
 refine ai.ret ?_
 obtain rfl:=Option.some.inj h
 exact(av [] [some (.int .u32)] (cL 57 []) (by kernel_rfl)).1
def ca(a0:Nat)(a1:Nat)(a2:aQ)(a3:bQ)(RS:Int):Nat→Int→dI→Option dI
 |0,_,_=>none
 |n2+1,RW,R4=>if(decide (RW<(4:Int)))=true then(if 0≤RS∧RS<(64:Int) then(if 0≤(al ((al ((4:Int)*RS))+RW))∧(al ((al ((4:Int)*RS))+RW))<(a1:Int) then(ca a0 a1 a2 a3 RS n2 (al (RW+(1:Int))) (List.set R4 (Int.toNat RS) (aq .or .u32 (IntKind.u32.wrap ((nth (.int .u32) R4 RS)*2^(min (Int.toNat (8:Int)) 32))) (IntKind.u32.wrap (List.getD a3 (a0+Int.toNat (al ((al ((4:Int)*RS))+RW))) (Ty.aX (.int .u8))))))) else none) else none) else(some R4)
def cO(a0:Nat)(a1:Nat)(a2:aQ)(a3:bQ):Nat→Int→dI→Option dI
 |0,_,_=>none
 |n1+1,RS,RU=>if(decide (RS<(16:Int)))=true then(Option.bind (Option.bind (ca a0 a1 a2 a3 RS (Int.toNat (4:Int)+1) (0:Int) RU) fun(o3:dI)=>some o3) fun(o2:dI)=>cO a0 a1 a2 a3 n1 (al (RS+(1:Int))) o2) else(some RU)
def cP(a2:aQ)(a3:bQ):Nat→Int→dI→Option dI
 |0,_,_=>none
 |n3+1,RZ,R8=>if(decide (RZ<(64:Int)))=true then(if 0≤(al (RZ -(15:Int)))∧(al (RZ -(15:Int)))<(64:Int) then(if 0≤(al (RZ -(2:Int)))∧(al (RZ -(2:Int)))<(64:Int) then(Option.bind (fM (nth (.int .u32) R8 (al (RZ -(15:Int)))) (-7:Int)) fun y11=>Option.bind (fM (nth (.int .u32) R8 (al (RZ -(15:Int)))) (-18:Int)) fun y13=>Option.bind (fM (nth (.int .u32) R8 (al (RZ -(2:Int)))) (-17:Int)) fun y15=>Option.bind (fM (nth (.int .u32) R8 (al (RZ -(2:Int)))) (-19:Int)) fun y17=>if 0≤(al (RZ -(16:Int)))∧(al (RZ -(16:Int)))<(64:Int) then(if 0≤(al (RZ -(7:Int)))∧(al (RZ -(7:Int)))<(64:Int) then(if 0≤RZ∧RZ<(64:Int) then(cP a2 a3 n3 (al (RZ+(1:Int))) (List.set R8 (Int.toNat RZ) (IntKind.u32.wrap ((IntKind.u32.wrap ((IntKind.u32.wrap ((nth (.int .u32) R8 (al (RZ -(16:Int))))+(aq .xor .u32 (aq .xor .u32 y11 y13) (Int.fdiv (nth (.int .u32) R8 (al (RZ -(15:Int)))) (2^(min (Int.toNat (3:Int)) 32))))))+(nth (.int .u32) R8 (al (RZ -(7:Int))))))+(aq .xor .u32 (aq .xor .u32 y15 y17) (Int.fdiv (nth (.int .u32) R8 (al (RZ -(2:Int)))) (2^(min (Int.toNat (10:Int)) 32)))))))) else none) else none) else none) else none) else none) else(some R8)
def cQ(a2:aQ)(a3:bQ)(o8:dI):Nat→Int→aQ→Option aQ
 |0,_,_=>none
 |n4+1,Sa,Se=>if(decide (Sa<(64:Int)))=true then(Option.bind (fM (nth (.int .u32) Se (4:Int)) (-6:Int)) fun y24=>Option.bind (fM (nth (.int .u32) Se (4:Int)) (-11:Int)) fun y26=>Option.bind (fM (nth (.int .u32) Se (4:Int)) (-25:Int)) fun y28=>if 0≤Sa∧Sa<(64:Int) then(Option.bind (fM (nth (.int .u32) Se (0:Int)) (-2:Int)) fun y31=>Option.bind (fM (nth (.int .u32) Se (0:Int)) (-13:Int)) fun y33=>Option.bind (fM (nth (.int .u32) Se (0:Int)) (-22:Int)) fun y35=>cQ a2 a3 o8 n4 (al (Sa+(1:Int))) [IntKind.u32.wrap ((IntKind.u32.wrap ((IntKind.u32.wrap ((IntKind.u32.wrap ((IntKind.u32.wrap ((nth (.int .u32) Se (7:Int))+(aq .xor .u32 (aq .xor .u32 y24 y26) y28)))+(aq .xor .u32 (aq .and .u32 (nth (.int .u32) Se (4:Int)) (nth (.int .u32) Se (5:Int))) (aq .and .u32 (aq .xor .u32 IntKind.u32.max (nth (.int .u32) Se (4:Int))) (nth (.int .u32) Se (6:Int))))))+(nth (.int .u32) gV Sa)))+(nth (.int .u32) o8 Sa)))+(IntKind.u32.wrap ((aq .xor .u32 (aq .xor .u32 y31 y33) y35)+(aq .xor .u32 (aq .xor .u32 (aq .and .u32 (nth (.int .u32) Se (0:Int)) (nth (.int .u32) Se (1:Int))) (aq .and .u32 (nth (.int .u32) Se (0:Int)) (nth (.int .u32) Se (2:Int)))) (aq .and .u32 (nth (.int .u32) Se (1:Int)) (nth (.int .u32) Se (2:Int))))))),nth (.int .u32) Se (0:Int),nth (.int .u32) Se (1:Int),nth (.int .u32) Se (2:Int),IntKind.u32.wrap ((nth (.int .u32) Se (3:Int))+(IntKind.u32.wrap ((IntKind.u32.wrap ((IntKind.u32.wrap ((IntKind.u32.wrap ((nth (.int .u32) Se (7:Int))+(aq .xor .u32 (aq .xor .u32 y24 y26) y28)))+(aq .xor .u32 (aq .and .u32 (nth (.int .u32) Se (4:Int)) (nth (.int .u32) Se (5:Int))) (aq .and .u32 (aq .xor .u32 IntKind.u32.max (nth (.int .u32) Se (4:Int))) (nth (.int .u32) Se (6:Int))))))+(nth (.int .u32) gV Sa)))+(nth (.int .u32) o8 Sa)))),nth (.int .u32) Se (4:Int),nth (.int .u32) Se (5:Int),nth (.int .u32) Se (6:Int)]) else none) else(some Se)
def dm(a3:bQ)(o23:aQ):Nat→Int→aQ→Option aQ
 |0,_,_=>none
 |n5+1,Sw,u5_1=>if(decide (Sw<(8:Int)))=true then(if 0≤Sw∧Sw<(8:Int) then(dm a3 o23 n5 (al (Sw+(1:Int))) (List.set u5_1 (Int.toNat Sw) (IntKind.u32.wrap ((nth (.int .u32) u5_1 Sw)+(nth (.int .u32) o23 Sw))))) else none) else(some u5_1)
def iI(a0:Nat)(a1:Nat)(a2:aQ)(a3:bQ):Option (aQ×bQ):=
 Option.bind (cO a0 a1 a2 a3 (Int.toNat (16:Int)+1) (0:Int) (Ty.aX c8)) fun(o1:dI)=>Option.bind (cP a2 a3 (bC) (16:Int) o1) fun(o8:dI)=>Option.bind (cQ a2 a3 o8 (Int.toNat (64:Int)+1) (0:Int) a2) fun(o23:aQ)=>Option.bind (dm a3 o23 (Int.toNat (8:Int)+1) (0:Int) a2) fun(o38:aQ)=>some (o38,a3)
abbrev uc(a0:Nat)(a1:Nat)(a2:aQ)(a3:bQ)(r:aQ×bQ):Prop:=Fc Tryz.prog gl 67 [(.ptr 0 []),(.ka 1 [] a0 a1)] (aA (List.replicate 227 none) [(0,some (.var aM (.val aM a2))),(1,some (.var bP (.val bP a3)))]) (.ret (.bU .nil)) (bz 227 [(0,(.var aM (.val aM r.1))),(1,(.var bP (.val bP r.2)))])
theorem xX(
 a0:Nat) (a1:Nat) (a2:aQ) (a3:bQ) (r:aQ×bQ) (h:iI a0 a1 a2 a3=some r):uc a0 a1 a2 a3 r:=by
 refine Fc.of Tryz.call67 (bW.aG tied Tryz.func67 rfl rfl (σ0:=ao 187 227 [(0,(.ptr 0 [])),(1,(.ka 1 [] a0 a1))] [(0,some (.var aM (.val aM a2))),(1,some (.var bP (.val bP a3)))]) (by kernel_rfl) ?_)
 unfold iI at h
 refine aF ?_
 obtain⟨o1,h1,h⟩:=bind_some h
 refine ai.aZ (fun σ'=>σ'=ao 187 227 [(0,(.ptr 0 [])),(4,(.ptr 20 []))] [(0,some (.var aM (.val aM a2))),(1,some (.var bP (.val bP a3))),(20,some (.var c8 (.val c8 o1)))]) ?_ ?_
 ·refine aF ?_
  refine ai.block ?_
  refine ai.aV (fun n σ=>∃(RS:Int)(RU:dI),cO a0 a1 a2 a3 n RS RU=some o1∧σ=ao 187 227 [(0,(.ptr 0 [])),(1,(.ka 1 [] a0 a1)),(4,(.ptr 20 [])),(23,(.val (.int .i64) RS))] [(0,some (.var aM (.val aM a2))),(1,some (.var bP (.val bP a3))),(20,some (.var c8 (.val c8 RU)))]) [.ak [0,1,4,23] [0,1,20]] (by kernel_rfl) ⟨_,_,h1,rfl⟩ ?_
  rintro n1 _ ⟨RS,RU,SW,rfl⟩
  cases n1 with
  |zero=>exact absurd SW (by simp[cO])
  |
   succ n1=>
   unfold cO at SW
   refine aF ?_
   refine ai.seq ?_
   rcases ae SW with⟨hc7,SW⟩|⟨hc7,SW⟩
   ·refine cg hc7 ?_
    refine zk ?_
    obtain⟨o2,Sy,SW⟩:=bind_some SW
    refine ai.aZ (fun σ'=>σ'=ao 187 227 [(0,(.ptr 0 [])),(1,(.ka 1 [] a0 a1)),(4,(.ptr 20 [])),(23,(.val (.int .i64) RS))] [(0,some (.var aM (.val aM a2))),(1,some (.var bP (.val bP a3))),(20,some (.var c8 (.val c8 o2)))]) ?_ ?_
    ·refine ai.block ?_
     refine aF ?_
     refine aF ?_
     obtain⟨o3,h15,Sy⟩:=bind_some Sy
     refine ai.lA (fun σ'=>σ'=ao 187 227 [(0,(.ptr 0 [])),(1,(.ka 1 [] a0 a1)),(4,(.ptr 20 [])),(23,(.val (.int .i64) RS))] [(0,some (.var aM (.val aM a2))),(1,some (.var bP (.val bP a3))),(20,some (.var c8 (.val c8 o3)))]) (Cl.bh (Cl.j (Cl.loop (Cl.bh (Cl.j Cl.f))))) ?_ ?_
     ·refine ai.block ?_
      refine ai.aV (fun n σ=>∃(RW:Int)(R4:dI),ca a0 a1 a2 a3 RS n RW R4=some o3∧σ=ao 187 227 [(0,(.ptr 0 [])),(1,(.ka 1 [] a0 a1)),(4,(.ptr 20 [])),(5,(.val (.int .i64) RS)),(23,(.val (.int .i64) RS)),(26,(.val (.int .i64) RW))] [(0,some (.var aM (.val aM a2))),(1,some (.var bP (.val bP a3))),(20,some (.var c8 (.val c8 R4)))]) [.ak [0,1,4,5,23,26] [0,1,20]] (by kernel_rfl) ⟨_,_,h15,rfl⟩ ?_
      rintro n2 _ ⟨RW,R4,h17,rfl⟩
      cases n2 with
      |zero=>exact absurd h17 (by simp[ca])
      |
       succ n2=>
       unfold ca at h17
       refine aF ?_
       refine ai.seq ?_
       rcases ae h17 with⟨hc6,h17⟩|⟨hc6,h17⟩
       ·refine cg hc6 ?_
        refine zk ?_
        refine ai.seq ?_
        refine ai.block ?_
        refine aF ?_
        obtain⟨SL,h17⟩:=ab h17
        obtain⟨hv5,h17⟩:=ab h17
        refine jM [] [] [] [0≤RS,RS<(64:Int),0≤(8:Int),0≤(al ((al ((4:Int)*RS))+RW)),(al ((al ((4:Int)*RS))+RW))<(a1:Int),0≤RS,RS<(64:Int)] ⟨SL.1,SL.2,(by decide),hv5.1,hv5.2,SL.1,SL.2,trivial⟩ ?_
        refine bN ?_
        change ai _ _ _ _ _
        refine fS ?_
        exact gI [.ak [0,1,4,5,23,26] [0,1,20]] ⟨_,_,h17,rfl⟩
       ·refine cq hc6 ?_
        refine ai.exit ?_
        refine ze ?_
        obtain rfl:=Option.some.inj h17
        exact bx [.ak [0,1,4,23] [0,1,20]] rfl
     ·rintro _ rfl
      refine bN ?_
      obtain rfl:=Option.some.inj Sy
      exact bx [.ak [0,1,4,23] [0,1,20]] rfl
    ·rintro _ rfl
     refine fS ?_
     exact gI [.ak [0,1,4,23] [0,1,20]] ⟨_,_,SW,rfl⟩
   ·refine cq hc7 ?_
    refine ai.exit ?_
    refine ze ?_
    obtain rfl:=Option.some.inj SW
    exact bx [.ak [0,4] [0,1,20]] rfl
 ·rintro _ rfl
  obtain⟨o8,h18,h⟩:=bind_some h
  refine ai.aZ (fun σ'=>σ'=ao 187 227 [(0,(.ptr 0 [])),(4,(.ptr 20 []))] [(0,some (.var aM (.val aM a2))),(1,some (.var bP (.val bP a3))),(20,some (.var c8 (.val c8 o8)))]) ?_ ?_
  ·refine aF ?_
   refine ai.block ?_
   refine ai.aV (fun n σ=>∃(RZ:Int)(R8:dI),cP a2 a3 n RZ R8=some o8∧σ=ao 187 227 [(0,(.ptr 0 [])),(4,(.ptr 20 [])),(7,(.val (.int .i64) RZ))] [(0,some (.var aM (.val aM a2))),(1,some (.var bP (.val bP a3))),(20,some (.var c8 (.val c8 R8)))]) [.ak [0,4,7] [0,1,20]] (by kernel_rfl) ⟨_,_,h18,rfl⟩ ?_
   rintro n3 _ ⟨RZ,R8,h20,rfl⟩
   cases n3 with
   |zero=>exact absurd h20 (by simp[cP])
   |
    succ n3=>
    unfold cP at h20
    refine ai.seq ?_
    refine aF ?_
    rcases ae h20 with⟨hc22,h20⟩|⟨hc22,h20⟩
    ·refine cg hc22 ?_
     refine zk ?_
     refine ai.seq ?_
     refine ai.block ?_
     obtain⟨hv9,h20⟩:=ab h20
     obtain⟨Sv,h20⟩:=ab h20
     refine mf [] [] [] [0≤(al (RZ -(15:Int))),(al (RZ -(15:Int)))<(64:Int),0≤(al (RZ -(2:Int))),(al (RZ -(2:Int)))<(64:Int)] ⟨hv9.1,hv9.2,Sv.1,Sv.2,trivial⟩ ?_
     obtain⟨y11,hy12,h20⟩:=bind_some h20
     obtain⟨y13,hy14,h20⟩:=bind_some h20
     refine cH [⟨(.val (.int .u32) y11),[],[],[],57⟩,⟨(.val (.int .u32) y13),[],[],[],57⟩] [] [] [qc (nth (.int .u32) R8 (al (RZ -(15:Int)))) (-7:Int) y11,qc (nth (.int .u32) R8 (al (RZ -(15:Int)))) (-18:Int) y13,0≤(3:Int)] ⟨rP _ _ _ hy12,rP _ _ _ hy14,(by decide),trivial⟩ ?_
     obtain⟨y15,hy16,h20⟩:=bind_some h20
     obtain⟨y17,hy18,h20⟩:=bind_some h20
     refine cH [⟨(.val (.int .u32) y15),[],[],[],57⟩,⟨(.val (.int .u32) y17),[],[],[],57⟩] [] [] [qc (nth (.int .u32) R8 (al (RZ -(2:Int)))) (-17:Int) y15,qc (nth (.int .u32) R8 (al (RZ -(2:Int)))) (-19:Int) y17,0≤(10:Int)] ⟨rP _ _ _ hy16,rP _ _ _ hy18,(by decide),trivial⟩ ?_
     obtain⟨hv19,h20⟩:=ab h20
     obtain⟨hv20,h20⟩:=ab h20
     obtain⟨hv21,h20⟩:=ab h20
     refine jM [] [] [] [0≤(al (RZ -(16:Int))),(al (RZ -(16:Int)))<(64:Int),0≤(al (RZ -(7:Int))),(al (RZ -(7:Int)))<(64:Int),0≤RZ,RZ<(64:Int)] ⟨hv19.1,hv19.2,hv20.1,hv20.2,hv21.1,hv21.2,trivial⟩ ?_
     refine bN ?_
     change ai _ _ _ _ _
     refine fS ?_
     exact gI [.ak [0,4,7] [0,1,20]] ⟨_,_,h20,rfl⟩
    ·refine cq hc22 ?_
     refine ai.exit ?_
     refine ze ?_
     obtain rfl:=Option.some.inj h20
     exact bx [.ak [0,4] [0,1,20]] rfl
  ·rintro _ rfl
   refine aF ?_
   obtain⟨o23,h21,h⟩:=bind_some h
   refine ai.aZ (fun σ'=>σ'=ao 187 227 [(0,(.ptr 0 [])),(12,(.ptr 28 []))] [(0,some (.var aM (.val aM a2))),(1,some (.var bP (.val bP a3))),(28,some (.var aM (.val aM o23)))]) ?_ ?_
   ·refine aF ?_
    refine ai.block ?_
    refine ai.aV (fun n σ=>∃(Sa:Int)(Se:aQ),cQ a2 a3 o8 n Sa Se=some o23∧σ=ao 187 227 [(0,(.ptr 0 [])),(4,(.ptr 20 [])),(12,(.ptr 28 [])),(92,(.val (.int .i64) Sa))] [(0,some (.var aM (.val aM a2))),(1,some (.var bP (.val bP a3))),(20,some (.var c8 (.val c8 o8))),(28,some (.var aM (.val aM Se)))]) [.ak [0,4,12,92] [0,1,20,28]] (by kernel_rfl) ⟨_,_,h21,rfl⟩ ?_
    rintro n4 _ ⟨Sa,Se,h23,rfl⟩
    cases n4 with
    |zero=>exact absurd h23 (by simp[cQ])
    |
     succ n4=>
     unfold cQ at h23
     refine aF ?_
     refine ai.seq ?_
     rcases ae h23 with⟨hc37,h23⟩|⟨hc37,h23⟩
     ·refine cg hc37 ?_
      refine zk ?_
      refine ai.seq ?_
      refine ai.block ?_
      refine aF ?_
      refine mf [] [] [] [0≤(0:Int),(0:Int)<(8:Int),0≤(1:Int),(1:Int)<(8:Int),0≤(2:Int),(2:Int)<(8:Int),0≤(4:Int),(4:Int)<(8:Int)] ⟨(by decide),(by decide),(by decide),(by decide),(by decide),(by decide),(by decide),(by decide),trivial⟩ ?_
      obtain⟨y24,hy25,h23⟩:=bind_some h23
      obtain⟨y26,hy27,h23⟩:=bind_some h23
      obtain⟨y28,hy29,h23⟩:=bind_some h23
      refine cH [⟨(.val (.int .u32) y24),[],[],[],57⟩,⟨(.val (.int .u32) y26),[],[],[],57⟩,⟨(.val (.int .u32) y28),[],[],[],57⟩] [] [] [qc (nth (.int .u32) Se (4:Int)) (-6:Int) y24,qc (nth (.int .u32) Se (4:Int)) (-11:Int) y26,qc (nth (.int .u32) Se (4:Int)) (-25:Int) y28] ⟨rP _ _ _ hy25,rP _ _ _ hy27,rP _ _ _ hy29,trivial⟩ ?_
      obtain⟨hv30,h23⟩:=ab h23
      refine mf [] [] [] [0≤(7:Int),(7:Int)<(8:Int),0≤(5:Int),(5:Int)<(8:Int),0≤(6:Int),(6:Int)<(8:Int),0≤Sa,Sa<(64:Int),0≤Sa,Sa<(64:Int)] ⟨(by decide),(by decide),(by decide),(by decide),(by decide),(by decide),hv30.1,hv30.2,hv30.1,hv30.2,trivial⟩ ?_
      obtain⟨y31,hy32,h23⟩:=bind_some h23
      obtain⟨y33,hy34,h23⟩:=bind_some h23
      obtain⟨y35,hy36,h23⟩:=bind_some h23
      refine cH [⟨(.val (.int .u32) y31),[],[],[],57⟩,⟨(.val (.int .u32) y33),[],[],[],57⟩,⟨(.val (.int .u32) y35),[],[],[],57⟩] [] [] [qc (nth (.int .u32) Se (0:Int)) (-2:Int) y31,qc (nth (.int .u32) Se (0:Int)) (-13:Int) y33,qc (nth (.int .u32) Se (0:Int)) (-22:Int) y35] ⟨rP _ _ _ hy32,rP _ _ _ hy34,rP _ _ _ hy36,trivial⟩ ?_
      refine aF ?_
      refine kc [] [] [] [0≤(3:Int),(3:Int)<(8:Int),0≤(5:Int),(5:Int)<(8:Int),0≤(6:Int),(6:Int)<(8:Int)] ⟨(by decide),(by decide),(by decide),(by decide),(by decide),(by decide),trivial⟩ ?_
      refine bN ?_
      change ai _ _ _ _ _
      refine fS ?_
      exact gI [.ak [0,4,12,92] [0,1,20,28]] ⟨_,_,h23,rfl⟩
     ·refine cq hc37 ?_
      refine ai.exit ?_
      refine ze ?_
      obtain rfl:=Option.some.inj h23
      exact bx [.ak [0,12] [0,1,28]] rfl
   ·rintro _ rfl
    refine aF ?_
    obtain⟨o38,h24,h⟩:=bind_some h
    refine ai.lA (fun σ'=>σ'=ao 187 227 [] [(0,some (.var aM (.val aM o38))),(1,some (.var bP (.val bP a3)))]) Cl.f ?_ ?_
    ·refine ai.block ?_
     refine ai.aV (fun n σ=>∃(Sw:Int)(u5_1:aQ),dm a3 o23 n Sw u5_1=some o38∧σ=ao 187 227 [(0,(.ptr 0 [])),(12,(.ptr 28 [])),(172,(.val (.int .i64) Sw))] [(0,some (.var aM (.val aM u5_1))),(1,some (.var bP (.val bP a3))),(28,some (.var aM (.val aM o23)))]) [.ak [0,12,172] [0,1,28]] (by kernel_rfl) ⟨_,_,h24,rfl⟩ ?_
     rintro n5 _ ⟨Sw,u5_1,h26,rfl⟩
     cases n5 with
     |zero=>exact absurd h26 (by simp[dm])
     |
      succ n5=>
      unfold dm at h26
      refine aF ?_
      refine ai.seq ?_
      rcases ae h26 with⟨hc40,h26⟩|⟨hc40,h26⟩
      ·refine cg hc40 ?_
       refine zk ?_
       refine ai.seq ?_
       refine ai.block ?_
       refine aF ?_
       obtain⟨hv39,h26⟩:=ab h26
       refine jM [] [] [] [0≤Sw,Sw<(8:Int),0≤Sw,Sw<(8:Int),0≤Sw,Sw<(8:Int)] ⟨hv39.1,hv39.2,hv39.1,hv39.2,hv39.1,hv39.2,trivial⟩ ?_
       refine bN ?_
       change ai _ _ _ _ _
       refine fS ?_
       exact gI [.ak [0,12,172] [0,1,28]] ⟨_,_,h26,rfl⟩
      ·refine cq hc40 ?_
       refine ai.exit ?_
       refine ze ?_
       obtain rfl:=Option.some.inj h26
       exact bx [.ak [] [0,1]] rfl
    ·rintro _ rfl
     obtain rfl:=Option.some.inj h
     exact(av [.ak [] [0,1]] [] (cL 227 [0,1]) (by kernel_rfl)).2
def cR(a0:List (List Int))(RU:Int)(RX:Int):Nat→Int→(List Int)→aQ→bQ→Option (Int×aQ×bQ)
 |0,_,_,_,_=>none
 |n2+1,RW,R4,u2_2,u2_3=>if(decide ((0:Int)<(List.length R4:Int)))=true then(if 0≤RW∧RW≤((64:Nat):Int) then(if 0≤((min (List.length R4) (64 -(Int.toNat RW)):Nat):Int)∧((min (List.length R4) (64 -(Int.toNat RW)):Nat):Int)≤(List.length R4:Int) then(if(decide ((al (RW+((min (List.length R4) (64 -(Int.toNat RW)):Nat):Int)))=(64:Int)))=true then(Option.bind (iI 0 (64 -0) u2_2 (iP u2_3 (List.take (min (List.length R4) (64 -(Int.toNat RW))) R4) (Int.toNat RW))) fun y7=>cR a0 RU RX n2 (0:Int) (aS R4 (Int.toNat ((min (List.length R4) (64 -(Int.toNat RW)):Nat):Int)) (List.length R4)) y7.1 y7.2) else(cR a0 RU RX n2 (al (RW+((min (List.length R4) (64 -(Int.toNat RW)):Nat):Int))) (aS R4 (Int.toNat ((min (List.length R4) (64 -(Int.toNat RW)):Nat):Int)) (List.length R4)) u2_2 (iP u2_3 (List.take (min (List.length R4) (64 -(Int.toNat RW))) R4) (Int.toNat RW)))) else none) else none) else(some (RW,u2_2,u2_3))
def cA(a0:List (List Int)):Nat→Int→Int→Int→aQ→bQ→Option (Int×Int×aQ×bQ)
 |0,_,_,_,_,_=>none
 |n1+1,RS,RU,RX,SQ,SX=>if(decide (RX<(List.length a0:Int)))=true then(Option.bind (if 0≤RX∧RX<(List.length a0:Int) then(Option.bind (cR a0 RU RX (bC) RS (nth (.slice 1 (.int .u8)) a0 RX) SQ SX) fun(o4:Int×aQ×bQ)=>some (o4.1,o4.2.1,o4.2.2)) else none) fun(o2:Int×aQ×bQ)=>cA a0 n1 o2.1 (IntKind.u64.wrap (RU+(IntKind.u64.wrap ((List.length (nth (.slice 1 (.int .u8)) a0 RX):Int))))) (al (RX+(1:Int))) o2.2.1 o2.2.2) else(some (RS,RU,SQ,SX))
def cd(o1:Int×Int×aQ×bQ)(o14:aQ×bQ):Nat→Int→bQ→Option bQ
 |0,_,_=>none
 |n3+1,RZ,R8=>if(decide (RZ<(8:Int)))=true then(if 0≤(al ((8:Int)*RZ)) then(if 0≤(al ((63:Int) -RZ))∧(al ((63:Int) -RZ))<(64:Int) then(cd o1 o14 n3 (al (RZ+(1:Int))) (List.set R8 (Int.toNat (al ((63:Int) -RZ))) (IntKind.u8.wrap (Int.fdiv (IntKind.u64.wrap (o1.2.1*(8:Int))) (2^(min (Int.toNat (al ((8:Int)*RZ))) 64)))))) else none) else none) else(some R8)
def lQ(a0:List (List Int))(a1:aQ):Option aQ:=
 Option.bind (cA a0 (List.length a0+1) (0:Int) (0:Int) (0:Int) a1 (Ty.aX bP)) fun(o1:Int×Int×aQ×bQ)=>if 0≤o1.1∧o1.1<(64:Int) then(if 0≤(al (o1.1+(1:Int)))∧(al (o1.1+(1:Int)))≤((64:Nat):Int) then(Option.bind (if(decide ((56:Int)<(al (o1.1+(1:Int)))))=true then(Option.bind (iI 0 (64 -0) o1.2.2.1 (iP (List.set o1.2.2.2 (Int.toNat o1.1) (128:Int)) (List.replicate (64 -(Int.toNat (al (o1.1+(1:Int))))) (0:Int)) (Int.toNat (al (o1.1+(1:Int)))))) fun y15=>some (y15.1,iP y15.2 (List.replicate (64 -0) (0:Int)) 0)) else(some (o1.2.2.1,iP (List.set o1.2.2.2 (Int.toNat o1.1) (128:Int)) (List.replicate (64 -(Int.toNat (al (o1.1+(1:Int))))) (0:Int)) (Int.toNat (al (o1.1+(1:Int))))))) fun(o14:aQ×bQ)=>Option.bind (cd o1 o14 (Int.toNat (8:Int)+1) (0:Int) o14.2) fun(o18:bQ)=>Option.bind (iI 0 (64 -0) o14.1 o18) fun y22=>some y22.1) else none) else none
abbrev BZ(a0:List (List Int))(a1:aQ)(r:aQ):Prop:=Fc Tryz.prog gl 66 [(.func (.func 67) (.cons (.ptr 0 []) .nil) .nil),(.val (.slice 24 (.slice 1 (.int .u8))) a0)] (aA (List.replicate 109 none) [(0,some (.var aM (.val aM a1)))]) (.ret (.bU .nil)) (bz 109 [(0,(.var aM (.val aM r)))])
theorem I9(
 a0:List (List Int)) (a1:aQ) (r:aQ) (h:lQ a0 a1=some r):BZ a0 a1 r:=by
 refine Fc.of Tryz.call66 (bW.aG tied Tryz.func66 rfl rfl (σ0:=ao 69 109 [(0,(.func (.func 67) (.cons (.ptr 0 []) .nil) .nil)),(1,(.val (.slice 24 (.slice 1 (.int .u8))) a0))] [(0,some (.var aM (.val aM a1)))]) (by kernel_rfl) ?_)
 unfold lQ at h
 refine aF ?_
 refine aF ?_
 obtain⟨o1,h1,h⟩:=bind_some h
 refine ai.aZ (fun σ'=>σ'=ao 69 109 [(0,(.func (.func 67) (.cons (.ptr 0 []) .nil) .nil)),(4,(.ptr 20 [])),(5,(.val (.int .i64) o1.1)),(6,(.val (.int .u64) o1.2.1))] [(0,some (.var aM (.val aM o1.2.2.1))),(20,some (.var bP (.val bP o1.2.2.2)))]) ?_ ?_
 ·refine aF ?_
  refine ai.block ?_
  refine ai.aV (fun n σ=>∃(RS:Int)(RU:Int)(RX:Int)(SQ:aQ)(SX:bQ),cA a0 n RS RU RX SQ SX=some o1∧σ=ao 69 109 [(0,(.func (.func 67) (.cons (.ptr 0 []) .nil) .nil)),(4,(.ptr 20 [])),(5,(.val (.int .i64) RS)),(6,(.val (.int .u64) RU)),(11,(.val (.slice 24 (.slice 1 (.int .u8))) a0)),(12,(.val (.int .i64) (List.length a0:Int))),(13,(.val (.int .i64) RX))] [(0,some (.var aM (.val aM SQ))),(20,some (.var bP (.val bP SX)))]) [.ak [0,4,5,6,11,12,13] [0,20]] (by kernel_rfl) ⟨_,_,_,_,_,h1,rfl⟩ ?_
  rintro n1 _ ⟨RS,RU,RX,SQ,SX,SW,rfl⟩
  cases n1 with
  |zero=>exact absurd SW (by simp[cA])
  |
   succ n1=>
   unfold cA at SW
   refine aF ?_
   refine ai.seq ?_
   rcases ae SW with⟨hc11,SW⟩|⟨hc11,SW⟩
   ·refine cg hc11 ?_
    refine zk ?_
    obtain⟨o2,Sy,SW⟩:=bind_some SW
    refine ai.aZ (fun σ'=>σ'=ao 69 109 [(0,(.func (.func 67) (.cons (.ptr 0 []) .nil) .nil)),(4,(.ptr 20 [])),(5,(.val (.int .i64) o2.1)),(6,(.val (.int .u64) (IntKind.u64.wrap (RU+(IntKind.u64.wrap ((List.length (nth (.slice 1 (.int .u8)) a0 RX):Int))))))),(11,(.val (.slice 24 (.slice 1 (.int .u8))) a0)),(12,(.val (.int .i64) (List.length a0:Int))),(13,(.val (.int .i64) RX))] [(0,some (.var aM (.val aM o2.2.1))),(20,some (.var bP (.val bP o2.2.2)))]) ?_ ?_
    ·refine ai.block ?_
     obtain⟨hv3,Sy⟩:=ab Sy
     refine cH [] [] [] [0≤RX,RX<(List.length a0:Int)] ⟨hv3.1,hv3.2,trivial⟩ ?_
     refine aF ?_
     obtain⟨o4,h15,Sy⟩:=bind_some Sy
     refine ai.lA (fun σ'=>σ'=ao 69 109 [(0,(.func (.func 67) (.cons (.ptr 0 []) .nil) .nil)),(4,(.ptr 20 [])),(5,(.val (.int .i64) o4.1)),(6,(.val (.int .u64) (IntKind.u64.wrap (RU+(IntKind.u64.wrap ((List.length (nth (.slice 1 (.int .u8)) a0 RX):Int))))))),(11,(.val (.slice 24 (.slice 1 (.int .u8))) a0)),(12,(.val (.int .i64) (List.length a0:Int))),(13,(.val (.int .i64) RX))] [(0,some (.var aM (.val aM o4.2.1))),(20,some (.var bP (.val bP o4.2.2)))]) (Cl.bh (Cl.j (Cl.loop (Cl.bh (Cl.j Cl.f))))) ?_ ?_
     ·refine ai.block ?_
      refine ai.aV (fun n σ=>∃(RW:Int)(R4:List Int)(u2_2:aQ)(u2_3:bQ),cR a0 RU RX n RW R4 u2_2 u2_3=some o4∧σ=ao 69 109 [(0,(.func (.func 67) (.cons (.ptr 0 []) .nil) .nil)),(4,(.ptr 20 [])),(5,(.val (.int .i64) RW)),(6,(.val (.int .u64) (IntKind.u64.wrap (RU+(IntKind.u64.wrap ((List.length (nth (.slice 1 (.int .u8)) a0 RX):Int))))))),(8,(.val (.slice 1 (.int .u8)) R4)),(11,(.val (.slice 24 (.slice 1 (.int .u8))) a0)),(12,(.val (.int .i64) (List.length a0:Int))),(13,(.val (.int .i64) RX))] [(0,some (.var aM (.val aM u2_2))),(20,some (.var bP (.val bP u2_3)))]) [.ak [0,4,5,6,8,11,12,13] [0,20]] (by kernel_rfl) ⟨_,_,_,_,h15,rfl⟩ ?_
      rintro n2 _ ⟨RW,R4,u2_2,u2_3,h17,rfl⟩
      cases n2 with
      |zero=>exact absurd h17 (by simp[cR])
      |
       succ n2=>
       unfold cR at h17
       refine ai.seq ?_
       refine aF ?_
       rcases ae h17 with⟨hc10,h17⟩|⟨hc10,h17⟩
       ·refine cg hc10 ?_
        refine zk ?_
        refine ai.block ?_
        obtain⟨hv5,h17⟩:=ab h17
        refine cH [] [] [] [0≤RW,RW≤((64:Nat):Int)] ⟨hv5.1,hv5.2,trivial⟩ ?_
        obtain⟨hv6,h17⟩:=ab h17
        refine mf [] [] [] [0≤((min (List.length R4) (64 -(Int.toNat RW)):Nat):Int),((min (List.length R4) (64 -(Int.toNat RW)):Nat):Int)≤(List.length R4:Int)] ⟨hv6.1,hv6.2,trivial⟩ ?_
        refine aF ?_
        rcases ae h17 with⟨hc9,h17⟩|⟨hc9,h17⟩
        ·refine cg hc9 ?_
         obtain⟨y7,hy8,h17⟩:=bind_some h17
         refine cH [⟨(.bU .nil),[(0,0),(1,20)],[],[(0,(.var aM (.val aM y7.1))),(1,(.var bP (.val bP y7.2)))],227⟩] [] [] [uc 0 (64 -0) u2_2 (iP u2_3 (List.take (min (List.length R4) (64 -(Int.toNat RW))) R4) (Int.toNat RW)) y7] ⟨xX _ _ _ _ _ hy8,trivial⟩ ?_
         refine fS ?_
         refine bN ?_
         exact gI [.ak [0,4,5,6,8,11,12,13] [0,20]] ⟨_,_,_,_,h17,rfl⟩
        ·refine cq hc9 ?_
         refine ai.skip ?_
         refine bN ?_
         exact gI [.ak [0,4,5,6,8,11,12,13] [0,20]] ⟨_,_,_,_,h17,rfl⟩
       ·refine cq hc10 ?_
        refine ai.exit ?_
        refine ze ?_
        obtain rfl:=Option.some.inj h17
        exact bx [.ak [0,4,5,6,11,12,13] [0,20]] rfl
     ·rintro _ rfl
      refine bN ?_
      obtain rfl:=Option.some.inj Sy
      exact bx [.ak [0,4,5,6,11,12,13] [0,20]] rfl
    ·rintro _ rfl
     refine fS ?_
     exact gI [.ak [0,4,5,6,11,12,13] [0,20]] ⟨_,_,_,_,_,SW,rfl⟩
   ·refine cq hc11 ?_
    refine ai.exit ?_
    refine ze ?_
    obtain rfl:=Option.some.inj SW
    exact bx [.ak [0,4,5,6] [0,20]] rfl
 ·rintro _ rfl
  obtain⟨hv12,h⟩:=ab h
  refine cH [] [] [] [0≤o1.1,o1.1<(64:Int)] ⟨hv12.1,hv12.2,trivial⟩ ?_
  obtain⟨hv13,h⟩:=ab h
  refine cH [] [] [] [0≤(al (o1.1+(1:Int))),(al (o1.1+(1:Int)))≤((64:Nat):Int)] ⟨hv13.1,hv13.2,trivial⟩ ?_
  obtain⟨o14,h18,h⟩:=bind_some h
  refine ai.aZ (fun σ'=>σ'=ao 69 109 [(0,(.func (.func 67) (.cons (.ptr 0 []) .nil) .nil)),(4,(.ptr 20 [])),(6,(.val (.int .u64) o1.2.1))] [(0,some (.var aM (.val aM o14.1))),(20,some (.var bP (.val bP o14.2)))]) ?_ ?_
  ·refine aF ?_
   rcases ae h18 with⟨hc17,h18⟩|⟨hc17,h18⟩
   ·refine cg hc17 ?_
    obtain⟨y15,hy16,h18⟩:=bind_some h18
    refine cH [⟨(.bU .nil),[(0,0),(1,20)],[],[(0,(.var aM (.val aM y15.1))),(1,(.var bP (.val bP y15.2)))],227⟩] [] [] [uc 0 (64 -0) o1.2.2.1 (iP (List.set o1.2.2.2 (Int.toNat o1.1) (128:Int)) (List.replicate (64 -(Int.toNat (al (o1.1+(1:Int))))) (0:Int)) (Int.toNat (al (o1.1+(1:Int))))) y15] ⟨xX _ _ _ _ _ hy16,trivial⟩ ?_
    refine fS ?_
    obtain rfl:=Option.some.inj h18
    exact bx [.ak [0,4,6] [0,20]] rfl
   ·refine cq hc17 ?_
    refine ai.skip ?_
    obtain rfl:=Option.some.inj h18
    exact bx [.ak [0,4,6] [0,20]] rfl
  ·rintro _ rfl
   obtain⟨o18,h19,h⟩:=bind_some h
   refine ai.aZ (fun σ'=>σ'=ao 69 109 [(0,(.func (.func 67) (.cons (.ptr 0 []) .nil) .nil)),(4,(.ptr 20 []))] [(0,some (.var aM (.val aM o14.1))),(20,some (.var bP (.val bP o18)))]) ?_ ?_
   ·refine aF ?_
    refine ai.block ?_
    refine ai.aV (fun n σ=>∃(RZ:Int)(R8:bQ),cd o1 o14 n RZ R8=some o18∧σ=ao 69 109 [(0,(.func (.func 67) (.cons (.ptr 0 []) .nil) .nil)),(4,(.ptr 20 [])),(6,(.val (.int .u64) o1.2.1)),(53,(.val (.int .i64) RZ))] [(0,some (.var aM (.val aM o14.1))),(20,some (.var bP (.val bP R8)))]) [.ak [0,4,6,53] [0,20]] (by kernel_rfl) ⟨_,_,h19,rfl⟩ ?_
    rintro n3 _ ⟨RZ,R8,h21,rfl⟩
    cases n3 with
    |zero=>exact absurd h21 (by simp[cd])
    |
     succ n3=>
     unfold cd at h21
     refine aF ?_
     refine ai.seq ?_
     rcases ae h21 with⟨hc21,h21⟩|⟨hc21,h21⟩
     ·refine cg hc21 ?_
      refine zk ?_
      refine ai.seq ?_
      refine ai.block ?_
      refine aF ?_
      obtain⟨hv19,h21⟩:=ab h21
      obtain⟨hv20,h21⟩:=ab h21
      refine kc [] [] [] [0≤(al ((8:Int)*RZ)),0≤(al ((63:Int) -RZ)),(al ((63:Int) -RZ))<(64:Int)] ⟨hv19,hv20.1,hv20.2,trivial⟩ ?_
      refine bN ?_
      change ai _ _ _ _ _
      refine fS ?_
      exact gI [.ak [0,4,6,53] [0,20]] ⟨_,_,h21,rfl⟩
     ·refine cq hc21 ?_
      refine ai.exit ?_
      refine ze ?_
      obtain rfl:=Option.some.inj h21
      exact bx [.ak [0,4] [0,20]] rfl
   ·rintro _ rfl
    obtain⟨y22,hy23,h⟩:=bind_some h
    refine kc [⟨(.bU .nil),[(0,0),(1,20)],[],[(0,(.var aM (.val aM y22.1))),(1,(.var bP (.val bP y22.2)))],227⟩] [] [] [uc 0 (64 -0) o14.1 o18 y22] ⟨xX _ _ _ _ _ hy23,trivial⟩ ?_
    obtain rfl:=Option.some.inj h
    exact(av [.ak [] [0]] [] (cL 109 [0]) (by kernel_rfl)).2
def dY(y1:aQ):Nat→Int→aO→Option aO
 |0,_,_=>none
 |n1+1,RS,RU=>if(decide (RS<(32:Int)))=true then(if 0≤(al (Int.tdiv RS (4:Int)))∧(al (Int.tdiv RS (4:Int)))<(8:Int) then(if 0≤(al ((24:Int) -(al ((8:Int)*(Int.tmod RS (4:Int)))))) then(if 0≤RS∧RS<(32:Int) then(dY y1 n1 (al (RS+(1:Int))) (List.set RU (Int.toNat RS) (IntKind.u8.wrap (Int.fdiv (nth (.int .u32) y1 (al (Int.tdiv RS (4:Int)))) (2^(min (Int.toNat (al ((24:Int) -(al ((8:Int)*(Int.tmod RS (4:Int))))))) 32)))))) else none) else none) else none) else(some RU)
def f42(a0:List (List Int)):Option aO:=
 Option.bind (lQ a0 [(1779033703:Int),(3144134277:Int),(1013904242:Int),(2773480762:Int),(1359893119:Int),(2600822924:Int),(528734635:Int),(1541459225:Int)]) fun y1=>Option.bind (dY y1 (Int.toNat (32:Int)+1) (0:Int) (Ty.aX aD)) fun(o3:aO)=>some o3
abbrev Oy(a0:List (List Int))(r:aO):Prop:=Fc Tryz.prog gl 42 [(.val (.slice 24 (.slice 1 (.int .u8))) a0)] (aA (List.replicate 66 none) []) (.ret (.val aD r)) (bz 66 [])
theorem Oz(a0:List (List Int))(r:aO)(h:f42 a0=some r):Oy a0 r:=by
 refine Fc.of Tryz.call42 (bW.aG tied Tryz.func42 rfl rfl (σ0:=ao 26 66 [(0,(.val (.slice 24 (.slice 1 (.int .u8))) a0))] []) (by kernel_rfl) ?_)
 unfold f42 at h
 refine aF ?_
 refine aF ?_
 obtain⟨y1,hy2,h⟩:=bind_some h
 refine cH [⟨(.bU .nil),[(0,19)],[],[(0,(.var aM (.val aM y1)))],109⟩] [] [] [BZ a0 [(1779033703:Int),(3144134277:Int),(1013904242:Int),(2773480762:Int),(1359893119:Int),(2600822924:Int),(528734635:Int),(1541459225:Int)] y1] ⟨I9 _ _ _ hy2,trivial⟩ ?_
 obtain⟨o3,h1,h⟩:=bind_some h
 refine ai.aZ (fun σ'=>σ'=ao 26 66 [(2,(.ptr 18 []))] [(18,some (.var aD (.val aD o3)))]) ?_ ?_
 ·refine aF ?_
  refine ai.block ?_
  refine ai.aV (fun n σ=>∃(RS:Int)(RU:aO),dY y1 n RS RU=some o3∧σ=ao 26 66 [(2,(.ptr 18 [])),(3,(.ptr 19 [])),(9,(.val (.int .i64) RS))] [(18,some (.var aD (.val aD RU))),(19,some (.var aM (.val aM y1)))]) [.ak [2,3,9] [18,19]] (by kernel_rfl) ⟨_,_,h1,rfl⟩ ?_
  rintro n1 _ ⟨RS,RU,h3,rfl⟩
  cases n1 with
  |zero=>exact absurd h3 (by simp[dY])
  |
   succ n1=>
   unfold dY at h3
   refine aF ?_
   refine ai.seq ?_
   rcases ae h3 with⟨hc7,h3⟩|⟨hc7,h3⟩
   ·refine cg hc7 ?_
    refine zk ?_
    refine ai.seq ?_
    refine ai.block ?_
    refine aF ?_
    obtain⟨SL,h3⟩:=ab h3
    obtain⟨hv5,h3⟩:=ab h3
    obtain⟨hv6,h3⟩:=ab h3
    refine kc [] [] [] [(4:Int)≠0,0≤(al (Int.tdiv RS (4:Int))),(al (Int.tdiv RS (4:Int)))<(8:Int),(4:Int)≠0,0≤(al ((24:Int) -(al ((8:Int)*(Int.tmod RS (4:Int)))))),0≤RS,RS<(32:Int)] ⟨(by decide),SL.1,SL.2,(by decide),hv5,hv6.1,hv6.2,trivial⟩ ?_
    refine bN ?_
    change ai _ _ _ _ _
    refine fS ?_
    exact gI [.ak [2,3,9] [18,19]] ⟨_,_,h3,rfl⟩
   ·refine cq hc7 ?_
    refine ai.exit ?_
    refine ze ?_
    obtain rfl:=Option.some.inj h3
    exact bx [.ak [2] [18]] rfl
 ·rintro _ rfl
  refine aF ?_
  refine ai.ret ?_
  obtain rfl:=Option.some.inj h
  exact(av [] [some aD] (cL 66 []) (by kernel_rfl)).1
def iC(a0:List Int):Nat→(List Int)→Option (List Int)
 |0,_=>none
 |n1+1,RS=>if(!decide ((Int.tmod (List.length RS:Int) (64:Int))=(56:Int)))=true then(if(List.length RS+List.length [(0:Int)])*1≤az then(iC a0 n1 (RS++[(0:Int)])) else none) else(some RS)
def gf(a0:List Int):Nat→Int→(List Int)→Option (List Int)
 |0,_,_=>none
 |n2+1,RW,R4=>if(decide ((0:Int)≤RW))=true then(if 0≤(al ((8:Int)*RW)) then(if(List.length R4+List.length [IntKind.u8.wrap (Int.fdiv (IntKind.u64.wrap ((IntKind.u64.wrap ((List.length a0:Int)))*(8:Int))) (2^(min (Int.toNat (al ((8:Int)*RW))) 64)))])*1≤az then(gf a0 n2 (al (RW -(1:Int))) (R4++[IntKind.u8.wrap (Int.fdiv (IntKind.u64.wrap ((IntKind.u64.wrap ((List.length a0:Int)))*(8:Int))) (2^(min (Int.toNat (al ((8:Int)*RW))) 64)))])) else none) else none) else(some R4)
def B0(a0:List Int):Option (List Int):=
 if(List.length ([]:List Int)+List.length a0)*1≤az then(if(List.length a0+List.length [(128:Int)])*1≤az then(Option.bind (iC a0 (bC) (a0++[(128:Int)])) fun(o3:List Int)=>Option.bind (gf a0 (bC) (7:Int) o3) fun(o6:List Int)=>some o6) else none) else none
abbrev KK(a0:List Int)(r:List Int):Prop:=Fc Tryz.prog gl 118 [(.val (.slice 1 (.int .u8)) a0)] (aA (List.replicate 75 none) []) (.ret (.val (.slice 1 (.int .u8)) r)) (bz 75 [])
theorem OA(a0:List Int)(r:List Int)(h:B0 a0=some r):KK a0 r:=by
 refine Fc.of Tryz.call118 (bW.aG tied Tryz.func118 rfl rfl (σ0:=ao 35 75 [(0,(.val (.slice 1 (.int .u8)) a0))] []) (by kernel_rfl) ?_)
 unfold B0 at h
 refine aF ?_
 obtain⟨hv1,h⟩:=ab h
 obtain⟨Sx,h⟩:=ab h
 refine cH [] [] [] [(List.length ([]:List Int)+List.length a0)*1≤az,(List.length a0+List.length [(128:Int)])*1≤az] ⟨hv1,Sx,trivial⟩ ?_
 obtain⟨o3,h1,h⟩:=bind_some h
 refine ai.aZ (fun σ'=>σ'=ao 35 75 [(0,(.val (.slice 1 (.int .u8)) a0)),(3,(.own 52))] [(52,some (.row 5 1 (.int .u8) o3))]) ?_ ?_
 ·refine ai.block ?_
  refine ai.aV (fun n σ=>∃(RS:List Int),iC a0 n RS=some o3∧σ=ao 35 75 [(0,(.val (.slice 1 (.int .u8)) a0)),(3,(.own 51))] [(51,some (.row 5 1 (.int .u8) RS))]) [.ak [0,3] [26],.oP 26 51] (by kernel_rfl) ⟨_,h1,rfl⟩ ?_
  rintro n1 _ ⟨RS,h3,rfl⟩
  cases n1 with
  |zero=>exact absurd h3 (by simp[iC])
  |
   succ n1=>
   unfold iC at h3
   refine ai.seq ?_
   refine cH [] [] [] [(64:Int)≠0] ⟨(by decide),trivial⟩ ?_
   rcases ae h3 with⟨hc5,h3⟩|⟨hc5,h3⟩
   ·refine cg hc5 ?_
    refine zk ?_
    refine ai.block ?_
    obtain⟨SL,h3⟩:=ab h3
    refine kc [] [] [] [(List.length RS+List.length [(0:Int)])*1≤az] ⟨SL,trivial⟩ ?_
    refine bN ?_
    exact gI [.ak [0,3] [33],.oP 33 51] ⟨_,h3,rfl⟩
   ·refine cq hc5 ?_
    refine ai.exit ?_
    refine ze ?_
    obtain rfl:=Option.some.inj h3
    exact bx [.ak [0,3] [51],.oP 51 52] rfl
 ·rintro _ rfl
  refine aF ?_
  obtain⟨o6,h4,h⟩:=bind_some h
  refine ai.aZ (fun σ'=>σ'=ao 35 75 [(3,(.own 54))] [(54,some (.row 5 1 (.int .u8) o6))]) ?_ ?_
  ·refine aF ?_
   refine ai.block ?_
   refine ai.aV (fun n σ=>∃(RW:Int)(R4:List Int),gf a0 n RW R4=some o6∧σ=ao 35 75 [(3,(.own 53)),(4,(.val (.int .u64) (IntKind.u64.wrap ((IntKind.u64.wrap ((List.length a0:Int)))*(8:Int))))),(5,(.val (.int .i64) RW))] [(53,some (.row 5 1 (.int .u8) R4))]) [.ak [3,4,5] [52],.oP 52 53] (by kernel_rfl) ⟨_,_,h4,rfl⟩ ?_
   rintro n2 _ ⟨RW,R4,h6,rfl⟩
   cases n2 with
   |zero=>exact absurd h6 (by simp[gf])
   |
    succ n2=>
    unfold gf at h6
    refine ai.seq ?_
    refine aF ?_
    rcases ae h6 with⟨hc9,h6⟩|⟨hc9,h6⟩
    ·refine cg hc9 ?_
     refine zk ?_
     refine ai.seq ?_
     refine ai.block ?_
     obtain⟨hv7,h6⟩:=ab h6
     obtain⟨hv8,h6⟩:=ab h6
     refine kc [] [] [] [0≤(al ((8:Int)*RW)),(List.length R4+List.length [IntKind.u8.wrap (Int.fdiv (IntKind.u64.wrap ((IntKind.u64.wrap ((List.length a0:Int)))*(8:Int))) (2^(min (Int.toNat (al ((8:Int)*RW))) 64)))])*1≤az] ⟨hv7,hv8,trivial⟩ ?_
     refine bN ?_
     change ai _ _ _ _ _
     refine fS ?_
     exact gI [.ak [3,4,5] [49],.oP 49 53] ⟨_,_,h6,rfl⟩
    ·refine cq hc9 ?_
     refine ai.exit ?_
     refine ze ?_
     obtain rfl:=Option.some.inj h6
     exact bx [.ak [3] [53],.oP 53 54] rfl
  ·rintro _ rfl
   refine aF ?_
   refine ai.ret ?_
   obtain rfl:=Option.some.inj h
   exact(av [.freeze 54 (.slice 1 (.int .u8))] [some (.slice 1 (.int .u8))] (cL 75 []) (by kernel_rfl)).1
def B1(a0:List Int):Option Int:=
 if(0:Int)<(List.length a0:Int) then(if(1:Int)<(List.length a0:Int) then(if(2:Int)<(List.length a0:Int) then(if(3:Int)<(List.length a0:Int) then(some (aq .or .u32 (aq .or .u32 (aq .or .u32 (IntKind.u32.wrap ((IntKind.u32.wrap (nth (.int .u8) a0 (0:Int)))*2^(min (Int.toNat (24:Int)) 32))) (IntKind.u32.wrap ((IntKind.u32.wrap (nth (.int .u8) a0 (1:Int)))*2^(min (Int.toNat (16:Int)) 32)))) (IntKind.u32.wrap ((IntKind.u32.wrap (nth (.int .u8) a0 (2:Int)))*2^(min (Int.toNat (8:Int)) 32)))) (IntKind.u32.wrap (nth (.int .u8) a0 (3:Int))))) else none) else none) else none) else none
abbrev KL(a0:List Int)(r:Int):Prop:=Fc Tryz.prog gl 169 [(.val (.slice 1 (.int .u8)) a0)] (aA (List.replicate 65 none) []) (.ret (.val (.int .u32) r)) (bz 65 [])
theorem OB(a0:List Int)(r:Int)(h:B1 a0=some r):KL a0 r:=by
 refine Fc.of Tryz.call169 (bW.aG tied Tryz.func169 rfl rfl (σ0:=ao 25 65 [(0,(.val (.slice 1 (.int .u8)) a0))] []) (by kernel_rfl) ?_)
 unfold B1 at h
 refine aF ?_
 obtain⟨hv1,h⟩:=ab h
 obtain⟨Sx,h⟩:=ab h
 obtain⟨hv3,h⟩:=ab h
 obtain⟨SL,h⟩:=ab h
 refine mf [] [] [] [0≤(0:Int),(0:Int)<(List.length a0:Int),0≤(24:Int),0≤(1:Int),(1:Int)<(List.length a0:Int),0≤(16:Int),0≤(2:Int),(2:Int)<(List.length a0:Int),0≤(8:Int),0≤(3:Int),(3:Int)<(List.length a0:Int)] ⟨(by decide),hv1,(by decide),(by decide),Sx,(by decide),(by decide),hv3,(by decide),(by decide),SL,trivial⟩ ?_
 refine ai.ret ?_
 obtain rfl:=Option.some.inj h
 exact(av [] [some (.int .u32)] (cL 65 []) (by kernel_rfl)).1
def da(a0:Int)(a1:Int):Option Int:=
 if 0≤a1 then(if 0≤(al ((32:Int) -a1)) then(some (aq .or .u32 (Int.fdiv a0 (2^(min (Int.toNat a1) 32))) (IntKind.u32.wrap (a0*2^(min (Int.toNat (al ((32:Int) -a1))) 32))))) else none) else none
abbrev qd(a0:Int)(a1:Int)(r:Int):Prop:=Fc Tryz.prog gl 170 [(.val (.int .u32) a0),(.val (.int .i64) a1)] (aA (List.replicate 53 none) []) (.ret (.val (.int .u32) r)) (bz 53 [])
theorem rQ(a0:Int)(a1:Int)(r:Int)(h:da a0 a1=some r):qd a0 a1 r:=by
 refine Fc.of Tryz.call170 (bW.aG tied Tryz.func170 rfl rfl (σ0:=ao 13 53 [(0,(.val (.int .u32) a0)),(1,(.val (.int .i64) a1))] []) (by kernel_rfl) ?_)
 unfold da at h
 refine aF ?_
 obtain⟨hv1,h⟩:=ab h
 obtain⟨Sx,h⟩:=ab h
 refine mf [] [] [] [0≤a1,0≤(al ((32:Int) -a1))] ⟨hv1,Sx,trivial⟩ ?_
 refine ai.ret ?_
 obtain rfl:=Option.some.inj h
 exact(av [] [some (.int .u32)] (cL 53 []) (by kernel_rfl)).1
def El:Option dI:=
 some [(1116352408:Int),(1899447441:Int),(3049323471:Int),(3921009573:Int),(961987163:Int),(1508970993:Int),(2453635748:Int),(2870763221:Int),(3624381080:Int),(310598401:Int),(607225278:Int),(1426881987:Int),(1925078388:Int),(2162078206:Int),(2614888103:Int),(3248222580:Int),(3835390401:Int),(4022224774:Int),(264347078:Int),(604807628:Int),(770255983:Int),(1249150122:Int),(1555081692:Int),(1996064986:Int),(2554220882:Int),(2821834349:Int),(2952996808:Int),(3210313671:Int),(3336571891:Int),(3584528711:Int),(113926993:Int),(338241895:Int),(666307205:Int),(773529912:Int),(1294757372:Int),(1396182291:Int),(1695183700:Int),(1986661051:Int),(2177026350:Int),(2456956037:Int),(2730485921:Int),(2820302411:Int),(3259730800:Int),(3345764771:Int),(3516065817:Int),(3600352804:Int),(4094571909:Int),(275423344:Int),(430227734:Int),(506948616:Int),(659060556:Int),(883997877:Int),(958139571:Int),(1322822218:Int),(1537002063:Int),(1747873779:Int),(1955562222:Int),(2024104815:Int),(2227730452:Int),(2361852424:Int),(2428436474:Int),(2756734187:Int),(3204031479:Int),(3329325298:Int)]
abbrev KM(r:dI):Prop:=Fc Tryz.prog gl 171 [] (aA (List.replicate 42 none) []) (.ret (.val c8 r)) (bz 42 [])
theorem OC(r:dI)(h:El=some r):KM r:=by
 refine Fc.of Tryz.call171 (bW.aG tied Tryz.func171 rfl rfl (σ0:=ao 2 42 [] []) (by kernel_rfl) ?_)
 unfold El at h
 refine aF ?_
 refine aF ?_
 refine ai.ret ?_
 obtain rfl:=Option.some.inj h
 exact(av [] [some c8] (cL 42 []) (by kernel_rfl)).1
end Go.Proofs.YtmpdeifdnbhdiaaGreatDoor
