/- Made by program (dec.py): walks -/
import Derived.Test.YtjabllhapfphoaaGreatDoorBase
namespace Go.Proofs.YtjabllhapfphoaaGreatDoor
open Go.Abs
theorem GZ:Tryz.prog.underlying 24=some (.slice 3):=by kernel_rfl
theorem bn:bG Tryz.prog G 40 28 ao=true:=by kernel_rfl
theorem bx:Tryz.prog.eqGuardType Tryz.prog.depth 28=false:=by kernel_rfl
theorem G0:Tryz.prog.underlying 74=some (.slice 28):=by kernel_rfl
theorem ER:Tryz.prog.underlying 4=some .bool:=by kernel_rfl
def f279(a0:Int)(a1:Int):Option Int:=
 if 0≤(aC .and .u64 (IntKind.u64.wrap (a1)) (31:Int)) then(if 0≤(IntKind.u64.wrap ((32:Int) -(aC .and .u64 (IntKind.u64.wrap (a1)) (31:Int)))) then(some (aC .or .u32 (IntKind.u32.wrap (a0*2^(min (Int.toNat (aC .and .u64 (IntKind.u64.wrap (a1)) (31:Int))) 32))) (Int.fdiv a0 (2^(min (Int.toNat (IntKind.u64.wrap ((32:Int) -(aC .and .u64 (IntKind.u64.wrap (a1)) (31:Int))))) 32))))) else none) else none
set_option maxRecDepth 100000 in
theorem rB(a0:Int)(a1:Int)(r:Int)(h:f279 a0 a1=some r):Fc Tryz.prog gl 279 [(.val (.int .u32) a0),(.val (.int .i64) a1)] (aj (List.replicate 57 none) []) (.ret (.val (.int .u32) r)) (aq 57 []):=by
 refine Fc.of Tryz.call279 (bz.aD tied Tryz.func279 rfl rfl (σ0:=ar 17 57 [(0,(.val (.int .u32) a0)),(1,(.val (.int .i64) a1))] []) (by kernel_rfl) ?_)
 unfold f279 at h
 refine aa.af tied [] [] [] [] (by kernel_rfl) trivial ?_
 refine aa.af tied [] [] [] [] (by kernel_rfl) trivial ?_
 obtain⟨hv1,h⟩:=ah h
 obtain⟨hv2,h⟩:=ah h
 refine aa.af tied [] [] [] [0≤(aC .and .u64 (IntKind.u64.wrap (a1)) (31:Int)),0≤(IntKind.u64.wrap ((32:Int) -(aC .and .u64 (IntKind.u64.wrap (a1)) (31:Int))))] (by kernel_rfl) ⟨hv1,hv2,trivial⟩ ?_
 refine aa.ret ?_
 obtain rfl:=Option.some.inj h
 exact(au [] [some (.int .u32)] (cq 57 []) (by kernel_rfl)).1
def bR(a0:Nat)(a1:Nat)(a2:aX)(a3:cp)(u1_0:Int):Nat→Int→dV→Option dV
 |0,_,_=>none
 |n2+1,u2_0,u2_1=>if(decide (u2_0<(4:Int)))=true then(if 0≤u1_0∧u1_0<(64:Int) then(if 0≤(aP ((aP ((4:Int)*u1_0))+u2_0))∧(aP ((aP ((4:Int)*u1_0))+u2_0))<(a1:Int) then(bR a0 a1 a2 a3 u1_0 n2 (aP (u2_0+(1:Int))) (List.set u2_1 (Int.toNat u1_0) (aC .or .u32 (IntKind.u32.wrap ((nth (.int .u32) u2_1 u1_0)*2^(min (Int.toNat (8:Int)) 32))) (IntKind.u32.wrap (List.getD a3 (a0+Int.toNat (aP ((aP ((4:Int)*u1_0))+u2_0))) (Ty.aS (.int .u8))))))) else none) else none) else(some u2_1)
def cJ(a0:Nat)(a1:Nat)(a2:aX)(a3:cp):Nat→Int→dV→Option dV
 |0,_,_=>none
 |n1+1,u1_0,u1_1=>if(decide (u1_0<(16:Int)))=true then(Option.bind (Option.bind (bR a0 a1 a2 a3 u1_0 (Int.toNat (4:Int)+1) (0:Int) u1_1) fun(o3:dV)=>some o3) fun(o2:dV)=>cJ a0 a1 a2 a3 n1 (aP (u1_0+(1:Int))) o2) else(some u1_1)
def cK(a2:aX)(a3:cp):Nat→Int→dV→Option dV
 |0,_,_=>none
 |n3+1,u3_0,u3_1=>if(decide (u3_0<(64:Int)))=true then(if 0≤(aP (u3_0 -(15:Int)))∧(aP (u3_0 -(15:Int)))<(64:Int) then(if 0≤(aP (u3_0 -(2:Int)))∧(aP (u3_0 -(2:Int)))<(64:Int) then(Option.bind (f279 (nth (.int .u32) u3_1 (aP (u3_0 -(15:Int)))) (-7:Int)) fun y11=>Option.bind (f279 (nth (.int .u32) u3_1 (aP (u3_0 -(15:Int)))) (-18:Int)) fun y13=>Option.bind (f279 (nth (.int .u32) u3_1 (aP (u3_0 -(2:Int)))) (-17:Int)) fun y15=>Option.bind (f279 (nth (.int .u32) u3_1 (aP (u3_0 -(2:Int)))) (-19:Int)) fun y17=>if 0≤(aP (u3_0 -(16:Int)))∧(aP (u3_0 -(16:Int)))<(64:Int) then(if 0≤(aP (u3_0 -(7:Int)))∧(aP (u3_0 -(7:Int)))<(64:Int) then(if 0≤u3_0∧u3_0<(64:Int) then(cK a2 a3 n3 (aP (u3_0+(1:Int))) (List.set u3_1 (Int.toNat u3_0) (IntKind.u32.wrap ((IntKind.u32.wrap ((IntKind.u32.wrap ((nth (.int .u32) u3_1 (aP (u3_0 -(16:Int))))+(aC .xor .u32 (aC .xor .u32 y11 y13) (Int.fdiv (nth (.int .u32) u3_1 (aP (u3_0 -(15:Int)))) (2^(min (Int.toNat (3:Int)) 32))))))+(nth (.int .u32) u3_1 (aP (u3_0 -(7:Int))))))+(aC .xor .u32 (aC .xor .u32 y15 y17) (Int.fdiv (nth (.int .u32) u3_1 (aP (u3_0 -(2:Int)))) (2^(min (Int.toNat (10:Int)) 32)))))))) else none) else none) else none) else none) else none) else(some u3_1)
def cL(a2:aX)(a3:cp)(o8:dV):Nat→Int→aX→Option aX
 |0,_,_=>none
 |n4+1,u4_0,u4_1=>if(decide (u4_0<(64:Int)))=true then(Option.bind (f279 (nth (.int .u32) u4_1 (4:Int)) (-6:Int)) fun y24=>Option.bind (f279 (nth (.int .u32) u4_1 (4:Int)) (-11:Int)) fun y26=>Option.bind (f279 (nth (.int .u32) u4_1 (4:Int)) (-25:Int)) fun y28=>if 0≤u4_0∧u4_0<(64:Int) then(Option.bind (f279 (nth (.int .u32) u4_1 (0:Int)) (-2:Int)) fun y31=>Option.bind (f279 (nth (.int .u32) u4_1 (0:Int)) (-13:Int)) fun y33=>Option.bind (f279 (nth (.int .u32) u4_1 (0:Int)) (-22:Int)) fun y35=>cL a2 a3 o8 n4 (aP (u4_0+(1:Int))) [IntKind.u32.wrap ((IntKind.u32.wrap ((IntKind.u32.wrap ((IntKind.u32.wrap ((IntKind.u32.wrap ((nth (.int .u32) u4_1 (7:Int))+(aC .xor .u32 (aC .xor .u32 y24 y26) y28)))+(aC .xor .u32 (aC .and .u32 (nth (.int .u32) u4_1 (4:Int)) (nth (.int .u32) u4_1 (5:Int))) (aC .and .u32 (aC .xor .u32 IntKind.u32.max (nth (.int .u32) u4_1 (4:Int))) (nth (.int .u32) u4_1 (6:Int))))))+(nth (.int .u32) gW u4_0)))+(nth (.int .u32) o8 u4_0)))+(IntKind.u32.wrap ((aC .xor .u32 (aC .xor .u32 y31 y33) y35)+(aC .xor .u32 (aC .xor .u32 (aC .and .u32 (nth (.int .u32) u4_1 (0:Int)) (nth (.int .u32) u4_1 (1:Int))) (aC .and .u32 (nth (.int .u32) u4_1 (0:Int)) (nth (.int .u32) u4_1 (2:Int)))) (aC .and .u32 (nth (.int .u32) u4_1 (1:Int)) (nth (.int .u32) u4_1 (2:Int))))))),nth (.int .u32) u4_1 (0:Int),nth (.int .u32) u4_1 (1:Int),nth (.int .u32) u4_1 (2:Int),IntKind.u32.wrap ((nth (.int .u32) u4_1 (3:Int))+(IntKind.u32.wrap ((IntKind.u32.wrap ((IntKind.u32.wrap ((IntKind.u32.wrap ((nth (.int .u32) u4_1 (7:Int))+(aC .xor .u32 (aC .xor .u32 y24 y26) y28)))+(aC .xor .u32 (aC .and .u32 (nth (.int .u32) u4_1 (4:Int)) (nth (.int .u32) u4_1 (5:Int))) (aC .and .u32 (aC .xor .u32 IntKind.u32.max (nth (.int .u32) u4_1 (4:Int))) (nth (.int .u32) u4_1 (6:Int))))))+(nth (.int .u32) gW u4_0)))+(nth (.int .u32) o8 u4_0)))),nth (.int .u32) u4_1 (4:Int),nth (.int .u32) u4_1 (5:Int),nth (.int .u32) u4_1 (6:Int)]) else none) else(some u4_1)
def cX(a3:cp)(o23:aX):Nat→Int→aX→Option aX
 |0,_,_=>none
 |n5+1,u5_0,u5_1=>if(decide (u5_0<(8:Int)))=true then(if 0≤u5_0∧u5_0<(8:Int) then(cX a3 o23 n5 (aP (u5_0+(1:Int))) (List.set u5_1 (Int.toNat u5_0) (IntKind.u32.wrap ((nth (.int .u32) u5_1 u5_0)+(nth (.int .u32) o23 u5_0))))) else none) else(some u5_1)
def fO(a0:Nat)(a1:Nat)(a2:aX)(a3:cp):Option (aX×cp):=
 Option.bind (cJ a0 a1 a2 a3 (Int.toNat (16:Int)+1) (0:Int) (Ty.aS dh)) fun(o1:dV)=>Option.bind (cK a2 a3 (bX) (16:Int) o1) fun(o8:dV)=>Option.bind (cL a2 a3 o8 (Int.toNat (64:Int)+1) (0:Int) a2) fun(o23:aX)=>Option.bind (cX a3 o23 (Int.toNat (8:Int)+1) (0:Int) a2) fun(o38:aX)=>some (o38,a3)
set_option maxRecDepth 100000 in
theorem s7(a0:Nat)(a1:Nat)(a2:aX)(a3:cp)(r:aX×cp)(h:fO a0 a1 a2 a3=some r):Fc Tryz.prog gl 217 [(.ptr 0 []),(.ig 1 [] a0 a1)] (aj (List.replicate 227 none) [(0,some (.var aM (.val aM a2))),(1,some (.var bA (.val bA a3)))]) (.ret (.c8 .nil)) (aq 227 [(0,(.var aM (.val aM r.1))),(1,(.var bA (.val bA r.2)))]):=by
 refine Fc.of Tryz.call217 (bz.aD tied Tryz.func217 rfl rfl (σ0:=ar 187 227 [(0,(.ptr 0 [])),(1,(.ig 1 [] a0 a1))] [(0,some (.var aM (.val aM a2))),(1,some (.var bA (.val bA a3)))]) (by kernel_rfl) ?_)
 unfold fO at h
 refine aa.af tied [] [] [] [] (by kernel_rfl) trivial ?_
 obtain⟨o1,h1,h⟩:=bind_some h
 refine aa.ba (fun σ'=>σ'=ar 187 227 [(0,(.ptr 0 [])),(4,(.ptr 20 []))] [(0,some (.var aM (.val aM a2))),(1,some (.var bA (.val bA a3))),(20,some (.var dh (.val dh o1)))]) ?_ ?_
 ·refine aa.af tied [] [] [] [] (by kernel_rfl) trivial ?_
  refine aa.block ?_
  refine aa.aB (fun n σ=>∃(u1_0:Int)(u1_1:dV),cJ a0 a1 a2 a3 n u1_0 u1_1=some o1∧σ=ar 187 227 [(0,(.ptr 0 [])),(1,(.ig 1 [] a0 a1)),(4,(.ptr 20 [])),(23,(.val (.int .i64) u1_0))] [(0,some (.var aM (.val aM a2))),(1,some (.var bA (.val bA a3))),(20,some (.var dh (.val dh u1_1)))]) [.an [0,1,4,23] [0,1,20]] (by kernel_rfl) ⟨_,_,h1,rfl⟩ ?_
  rintro n1 _ ⟨u1_0,u1_1,h10,rfl⟩
  cases n1 with
  |zero=>exact absurd h10 (by simp[cJ])
  |
   succ n1=>
   unfold cJ at h10
   refine aa.af tied [] [] [] [] (by kernel_rfl) trivial ?_
   refine aa.seq ?_
   rcases ae h10 with⟨hc7,h10⟩|⟨hc7,h10⟩
   ·refine aa.aE (b:=decide (u1_0<(16:Int))) (by kernel_rfl) hc7 ?_
    refine aa.skip ?_
    change aa _ _ _ _ _
    obtain⟨o2,h11,h10⟩:=bind_some h10
    refine aa.ba (fun σ'=>σ'=ar 187 227 [(0,(.ptr 0 [])),(1,(.ig 1 [] a0 a1)),(4,(.ptr 20 [])),(23,(.val (.int .i64) u1_0))] [(0,some (.var aM (.val aM a2))),(1,some (.var bA (.val bA a3))),(20,some (.var dh (.val dh o2)))]) ?_ ?_
    ·refine aa.block ?_
     refine aa.af tied [] [] [] [] (by kernel_rfl) trivial ?_
     refine aa.af tied [] [] [] [] (by kernel_rfl) trivial ?_
     obtain⟨o3,h15,h11⟩:=bind_some h11
     refine aa.oP (fun σ'=>σ'=ar 187 227 [(0,(.ptr 0 [])),(1,(.ig 1 [] a0 a1)),(4,(.ptr 20 [])),(23,(.val (.int .i64) u1_0))] [(0,some (.var aM (.val aM a2))),(1,some (.var bA (.val bA a3))),(20,some (.var dh (.val dh o3)))]) (Cl.bL (Cl.j (Cl.loop (Cl.bL (Cl.j Cl.f))))) ?_ ?_
     ·refine aa.block ?_
      refine aa.aB (fun n σ=>∃(u2_0:Int)(u2_1:dV),bR a0 a1 a2 a3 u1_0 n u2_0 u2_1=some o3∧σ=ar 187 227 [(0,(.ptr 0 [])),(1,(.ig 1 [] a0 a1)),(4,(.ptr 20 [])),(5,(.val (.int .i64) u1_0)),(23,(.val (.int .i64) u1_0)),(26,(.val (.int .i64) u2_0))] [(0,some (.var aM (.val aM a2))),(1,some (.var bA (.val bA a3))),(20,some (.var dh (.val dh u2_1)))]) [.an [0,1,4,5,23,26] [0,1,20]] (by kernel_rfl) ⟨_,_,h15,rfl⟩ ?_
      rintro n2 _ ⟨u2_0,u2_1,h17,rfl⟩
      cases n2 with
      |zero=>exact absurd h17 (by simp[bR])
      |
       succ n2=>
       unfold bR at h17
       refine aa.af tied [] [] [] [] (by kernel_rfl) trivial ?_
       refine aa.seq ?_
       rcases ae h17 with⟨hc6,h17⟩|⟨hc6,h17⟩
       ·refine aa.aE (b:=decide (u2_0<(4:Int))) (by kernel_rfl) hc6 ?_
        refine aa.skip ?_
        change aa _ _ _ _ _
        refine aa.seq ?_
        refine aa.block ?_
        refine aa.af tied [] [] [] [] (by kernel_rfl) trivial ?_
        obtain⟨hv4,h17⟩:=ah h17
        obtain⟨hv5,h17⟩:=ah h17
        refine aa.gk tied [] [] [] [0≤u1_0,u1_0<(64:Int),0≤(8:Int),0≤(aP ((aP ((4:Int)*u1_0))+u2_0)),(aP ((aP ((4:Int)*u1_0))+u2_0))<(a1:Int),0≤u1_0,u1_0<(64:Int)] (by kernel_rfl) ⟨hv4.1,hv4.2,(by decide),hv5.1,hv5.2,hv4.1,hv4.2,trivial⟩ ?_
        refine bN ?_
        change aa _ _ _ _ _
        refine aa.br tied [] [] [] [] (by kernel_rfl) trivial ?_
        exact aB.mk [.an [0,1,4,5,23,26] [0,1,20]] (by kernel_rfl) ⟨_,_,h17,rfl⟩
       ·refine aa.aF (b:=decide (u2_0<(4:Int))) (by kernel_rfl) hc6 ?_
        refine aa.exit ?_
        refine tE ?_
        refine lE ?_
        refine bE ?_
        obtain rfl:=Option.some.inj h17
        exact jQ.mk [.an [0,1,4,23] [0,1,20]] (by kernel_rfl) rfl
     ·rintro _ rfl
      refine bN ?_
      obtain rfl:=Option.some.inj h11
      exact jQ.mk [.an [0,1,4,23] [0,1,20]] (by kernel_rfl) rfl
    ·rintro _ rfl
     refine aa.br tied [] [] [] [] (by kernel_rfl) trivial ?_
     exact aB.mk [.an [0,1,4,23] [0,1,20]] (by kernel_rfl) ⟨_,_,h10,rfl⟩
   ·refine aa.aF (b:=decide (u1_0<(16:Int))) (by kernel_rfl) hc7 ?_
    refine aa.exit ?_
    refine tE ?_
    refine lE ?_
    refine bE ?_
    obtain rfl:=Option.some.inj h10
    exact jQ.mk [.an [0,4] [0,1,20]] (by kernel_rfl) rfl
 ·rintro _ rfl
  obtain⟨o8,h18,h⟩:=bind_some h
  refine aa.ba (fun σ'=>σ'=ar 187 227 [(0,(.ptr 0 [])),(4,(.ptr 20 []))] [(0,some (.var aM (.val aM a2))),(1,some (.var bA (.val bA a3))),(20,some (.var dh (.val dh o8)))]) ?_ ?_
  ·refine aa.af tied [] [] [] [] (by kernel_rfl) trivial ?_
   refine aa.block ?_
   refine aa.aB (fun n σ=>∃(u3_0:Int)(u3_1:dV),cK a2 a3 n u3_0 u3_1=some o8∧σ=ar 187 227 [(0,(.ptr 0 [])),(4,(.ptr 20 [])),(7,(.val (.int .i64) u3_0))] [(0,some (.var aM (.val aM a2))),(1,some (.var bA (.val bA a3))),(20,some (.var dh (.val dh u3_1)))]) [.an [0,4,7] [0,1,20]] (by kernel_rfl) ⟨_,_,h18,rfl⟩ ?_
   rintro n3 _ ⟨u3_0,u3_1,h20,rfl⟩
   cases n3 with
   |zero=>exact absurd h20 (by simp[cK])
   |
    succ n3=>
    unfold cK at h20
    refine aa.seq ?_
    refine aa.af tied [] [] [] [] (by kernel_rfl) trivial ?_
    rcases ae h20 with⟨hc22,h20⟩|⟨hc22,h20⟩
    ·refine aa.aE (b:=decide (u3_0<(64:Int))) (by kernel_rfl) hc22 ?_
     refine aa.skip ?_
     change aa _ _ _ _ _
     refine aa.seq ?_
     refine aa.block ?_
     obtain⟨hv9,h20⟩:=ah h20
     obtain⟨hv10,h20⟩:=ah h20
     refine aa.gn tied [] [] [] [0≤(aP (u3_0 -(15:Int))),(aP (u3_0 -(15:Int)))<(64:Int),0≤(aP (u3_0 -(2:Int))),(aP (u3_0 -(2:Int)))<(64:Int)] (by kernel_rfl) ⟨hv9.1,hv9.2,hv10.1,hv10.2,trivial⟩ ?_
     obtain⟨y11,hy12,h20⟩:=bind_some h20
     obtain⟨y13,hy14,h20⟩:=bind_some h20
     refine aa.af tied [⟨(.val (.int .u32) y11),[],[],[],57⟩,⟨(.val (.int .u32) y13),[],[],[],57⟩] [] [] [Fc Tryz.prog gl 279 [(.val (.int .u32) (nth (.int .u32) u3_1 (aP (u3_0 -(15:Int))))),(.val (.int .i64) (-7:Int))] (aj (List.replicate 57 none) []) (.ret (.val (.int .u32) y11)) (aq 57 []),Fc Tryz.prog gl 279 [(.val (.int .u32) (nth (.int .u32) u3_1 (aP (u3_0 -(15:Int))))),(.val (.int .i64) (-18:Int))] (aj (List.replicate 57 none) []) (.ret (.val (.int .u32) y13)) (aq 57 []),0≤(3:Int)] (by kernel_rfl) ⟨rB _ _ _ hy12,rB _ _ _ hy14,(by decide),trivial⟩ ?_
     obtain⟨y15,hy16,h20⟩:=bind_some h20
     obtain⟨y17,hy18,h20⟩:=bind_some h20
     refine aa.af tied [⟨(.val (.int .u32) y15),[],[],[],57⟩,⟨(.val (.int .u32) y17),[],[],[],57⟩] [] [] [Fc Tryz.prog gl 279 [(.val (.int .u32) (nth (.int .u32) u3_1 (aP (u3_0 -(2:Int))))),(.val (.int .i64) (-17:Int))] (aj (List.replicate 57 none) []) (.ret (.val (.int .u32) y15)) (aq 57 []),Fc Tryz.prog gl 279 [(.val (.int .u32) (nth (.int .u32) u3_1 (aP (u3_0 -(2:Int))))),(.val (.int .i64) (-19:Int))] (aj (List.replicate 57 none) []) (.ret (.val (.int .u32) y17)) (aq 57 []),0≤(10:Int)] (by kernel_rfl) ⟨rB _ _ _ hy16,rB _ _ _ hy18,(by decide),trivial⟩ ?_
     obtain⟨hv19,h20⟩:=ah h20
     obtain⟨hv20,h20⟩:=ah h20
     obtain⟨hv21,h20⟩:=ah h20
     refine aa.gk tied [] [] [] [0≤(aP (u3_0 -(16:Int))),(aP (u3_0 -(16:Int)))<(64:Int),0≤(aP (u3_0 -(7:Int))),(aP (u3_0 -(7:Int)))<(64:Int),0≤u3_0,u3_0<(64:Int)] (by kernel_rfl) ⟨hv19.1,hv19.2,hv20.1,hv20.2,hv21.1,hv21.2,trivial⟩ ?_
     refine bN ?_
     change aa _ _ _ _ _
     refine aa.br tied [] [] [] [] (by kernel_rfl) trivial ?_
     exact aB.mk [.an [0,4,7] [0,1,20]] (by kernel_rfl) ⟨_,_,h20,rfl⟩
    ·refine aa.aF (b:=decide (u3_0<(64:Int))) (by kernel_rfl) hc22 ?_
     refine aa.exit ?_
     refine tE ?_
     refine lE ?_
     refine bE ?_
     obtain rfl:=Option.some.inj h20
     exact jQ.mk [.an [0,4] [0,1,20]] (by kernel_rfl) rfl
  ·rintro _ rfl
   refine aa.af tied [] [] [] [] (by kernel_rfl) trivial ?_
   obtain⟨o23,h21,h⟩:=bind_some h
   refine aa.ba (fun σ'=>σ'=ar 187 227 [(0,(.ptr 0 [])),(12,(.ptr 28 []))] [(0,some (.var aM (.val aM a2))),(1,some (.var bA (.val bA a3))),(28,some (.var aM (.val aM o23)))]) ?_ ?_
   ·refine aa.af tied [] [] [] [] (by kernel_rfl) trivial ?_
    refine aa.block ?_
    refine aa.aB (fun n σ=>∃(u4_0:Int)(u4_1:aX),cL a2 a3 o8 n u4_0 u4_1=some o23∧σ=ar 187 227 [(0,(.ptr 0 [])),(4,(.ptr 20 [])),(12,(.ptr 28 [])),(92,(.val (.int .i64) u4_0))] [(0,some (.var aM (.val aM a2))),(1,some (.var bA (.val bA a3))),(20,some (.var dh (.val dh o8))),(28,some (.var aM (.val aM u4_1)))]) [.an [0,4,12,92] [0,1,20,28]] (by kernel_rfl) ⟨_,_,h21,rfl⟩ ?_
    rintro n4 _ ⟨u4_0,u4_1,h23,rfl⟩
    cases n4 with
    |zero=>exact absurd h23 (by simp[cL])
    |
     succ n4=>
     unfold cL at h23
     refine aa.af tied [] [] [] [] (by kernel_rfl) trivial ?_
     refine aa.seq ?_
     rcases ae h23 with⟨hc37,h23⟩|⟨hc37,h23⟩
     ·refine aa.aE (b:=decide (u4_0<(64:Int))) (by kernel_rfl) hc37 ?_
      refine aa.skip ?_
      change aa _ _ _ _ _
      refine aa.seq ?_
      refine aa.block ?_
      refine aa.af tied [] [] [] [] (by kernel_rfl) trivial ?_
      refine aa.gn tied [] [] [] [0≤(0:Int),(0:Int)<(8:Int),0≤(1:Int),(1:Int)<(8:Int),0≤(2:Int),(2:Int)<(8:Int),0≤(4:Int),(4:Int)<(8:Int)] (by kernel_rfl) ⟨(by decide),(by decide),(by decide),(by decide),(by decide),(by decide),(by decide),(by decide),trivial⟩ ?_
      obtain⟨y24,hy25,h23⟩:=bind_some h23
      obtain⟨y26,hy27,h23⟩:=bind_some h23
      obtain⟨y28,hy29,h23⟩:=bind_some h23
      refine aa.af tied [⟨(.val (.int .u32) y24),[],[],[],57⟩,⟨(.val (.int .u32) y26),[],[],[],57⟩,⟨(.val (.int .u32) y28),[],[],[],57⟩] [] [] [Fc Tryz.prog gl 279 [(.val (.int .u32) (nth (.int .u32) u4_1 (4:Int))),(.val (.int .i64) (-6:Int))] (aj (List.replicate 57 none) []) (.ret (.val (.int .u32) y24)) (aq 57 []),Fc Tryz.prog gl 279 [(.val (.int .u32) (nth (.int .u32) u4_1 (4:Int))),(.val (.int .i64) (-11:Int))] (aj (List.replicate 57 none) []) (.ret (.val (.int .u32) y26)) (aq 57 []),Fc Tryz.prog gl 279 [(.val (.int .u32) (nth (.int .u32) u4_1 (4:Int))),(.val (.int .i64) (-25:Int))] (aj (List.replicate 57 none) []) (.ret (.val (.int .u32) y28)) (aq 57 [])] (by kernel_rfl) ⟨rB _ _ _ hy25,rB _ _ _ hy27,rB _ _ _ hy29,trivial⟩ ?_
      obtain⟨hv30,h23⟩:=ah h23
      refine aa.gn tied [] [] [] [0≤(7:Int),(7:Int)<(8:Int),0≤(5:Int),(5:Int)<(8:Int),0≤(6:Int),(6:Int)<(8:Int),0≤u4_0,u4_0<(64:Int),0≤u4_0,u4_0<(64:Int)] (by kernel_rfl) ⟨(by decide),(by decide),(by decide),(by decide),(by decide),(by decide),hv30.1,hv30.2,hv30.1,hv30.2,trivial⟩ ?_
      obtain⟨y31,hy32,h23⟩:=bind_some h23
      obtain⟨y33,hy34,h23⟩:=bind_some h23
      obtain⟨y35,hy36,h23⟩:=bind_some h23
      refine aa.af tied [⟨(.val (.int .u32) y31),[],[],[],57⟩,⟨(.val (.int .u32) y33),[],[],[],57⟩,⟨(.val (.int .u32) y35),[],[],[],57⟩] [] [] [Fc Tryz.prog gl 279 [(.val (.int .u32) (nth (.int .u32) u4_1 (0:Int))),(.val (.int .i64) (-2:Int))] (aj (List.replicate 57 none) []) (.ret (.val (.int .u32) y31)) (aq 57 []),Fc Tryz.prog gl 279 [(.val (.int .u32) (nth (.int .u32) u4_1 (0:Int))),(.val (.int .i64) (-13:Int))] (aj (List.replicate 57 none) []) (.ret (.val (.int .u32) y33)) (aq 57 []),Fc Tryz.prog gl 279 [(.val (.int .u32) (nth (.int .u32) u4_1 (0:Int))),(.val (.int .i64) (-22:Int))] (aj (List.replicate 57 none) []) (.ret (.val (.int .u32) y35)) (aq 57 [])] (by kernel_rfl) ⟨rB _ _ _ hy32,rB _ _ _ hy34,rB _ _ _ hy36,trivial⟩ ?_
      refine aa.af tied [] [] [] [] (by kernel_rfl) trivial ?_
      refine aa.br tied [] [] [] [0≤(3:Int),(3:Int)<(8:Int),0≤(5:Int),(5:Int)<(8:Int),0≤(6:Int),(6:Int)<(8:Int)] (by kernel_rfl) ⟨(by decide),(by decide),(by decide),(by decide),(by decide),(by decide),trivial⟩ ?_
      refine bN ?_
      change aa _ _ _ _ _
      refine aa.br tied [] [] [] [] (by kernel_rfl) trivial ?_
      exact aB.mk [.an [0,4,12,92] [0,1,20,28]] (by kernel_rfl) ⟨_,_,h23,rfl⟩
     ·refine aa.aF (b:=decide (u4_0<(64:Int))) (by kernel_rfl) hc37 ?_
      refine aa.exit ?_
      refine tE ?_
      refine lE ?_
      refine bE ?_
      obtain rfl:=Option.some.inj h23
      exact jQ.mk [.an [0,12] [0,1,28]] (by kernel_rfl) rfl
   ·rintro _ rfl
    refine aa.af tied [] [] [] [] (by kernel_rfl) trivial ?_
    obtain⟨o38,h24,h⟩:=bind_some h
    refine aa.oP (fun σ'=>σ'=ar 187 227 [] [(0,some (.var aM (.val aM o38))),(1,some (.var bA (.val bA a3)))]) Cl.f ?_ ?_
    ·refine aa.block ?_
     refine aa.aB (fun n σ=>∃(u5_0:Int)(u5_1:aX),cX a3 o23 n u5_0 u5_1=some o38∧σ=ar 187 227 [(0,(.ptr 0 [])),(12,(.ptr 28 [])),(172,(.val (.int .i64) u5_0))] [(0,some (.var aM (.val aM u5_1))),(1,some (.var bA (.val bA a3))),(28,some (.var aM (.val aM o23)))]) [.an [0,12,172] [0,1,28]] (by kernel_rfl) ⟨_,_,h24,rfl⟩ ?_
     rintro n5 _ ⟨u5_0,u5_1,h26,rfl⟩
     cases n5 with
     |zero=>exact absurd h26 (by simp[cX])
     |
      succ n5=>
      unfold cX at h26
      refine aa.af tied [] [] [] [] (by kernel_rfl) trivial ?_
      refine aa.seq ?_
      rcases ae h26 with⟨hc40,h26⟩|⟨hc40,h26⟩
      ·refine aa.aE (b:=decide (u5_0<(8:Int))) (by kernel_rfl) hc40 ?_
       refine aa.skip ?_
       change aa _ _ _ _ _
       refine aa.seq ?_
       refine aa.block ?_
       refine aa.af tied [] [] [] [] (by kernel_rfl) trivial ?_
       obtain⟨hv39,h26⟩:=ah h26
       refine aa.gk tied [] [] [] [0≤u5_0,u5_0<(8:Int),0≤u5_0,u5_0<(8:Int),0≤u5_0,u5_0<(8:Int)] (by kernel_rfl) ⟨hv39.1,hv39.2,hv39.1,hv39.2,hv39.1,hv39.2,trivial⟩ ?_
       refine bN ?_
       change aa _ _ _ _ _
       refine aa.br tied [] [] [] [] (by kernel_rfl) trivial ?_
       exact aB.mk [.an [0,12,172] [0,1,28]] (by kernel_rfl) ⟨_,_,h26,rfl⟩
      ·refine aa.aF (b:=decide (u5_0<(8:Int))) (by kernel_rfl) hc40 ?_
       refine aa.exit ?_
       refine tE ?_
       refine lE ?_
       refine bE ?_
       obtain rfl:=Option.some.inj h26
       exact jQ.mk [.an [] [0,1]] (by kernel_rfl) rfl
    ·rintro _ rfl
     obtain rfl:=Option.some.inj h
     exact(au [.an [] [0,1]] [] (cq 227 [0,1]) (by kernel_rfl)).2
def cM(a0:List (List Int))(u1_1:Int)(u1_2:Int):Nat→Int→(List Int)→aX→cp→Option (Int×aX×cp)
 |0,_,_,_,_=>none
 |n2+1,u2_0,u2_1,u2_2,u2_3=>if(decide ((0:Int)<(List.length u2_1:Int)))=true then(if 0≤u2_0∧u2_0≤((64:Nat):Int) then(if 0≤((min (List.length u2_1) (64 -(Int.toNat u2_0)):Nat):Int)∧((min (List.length u2_1) (64 -(Int.toNat u2_0)):Nat):Int)≤(List.length u2_1:Int) then(if(decide ((aP (u2_0+((min (List.length u2_1) (64 -(Int.toNat u2_0)):Nat):Int)))=(64:Int)))=true then(Option.bind (fO 0 (64 -0) u2_2 (iK u2_3 (List.take (min (List.length u2_1) (64 -(Int.toNat u2_0))) u2_1) (Int.toNat u2_0))) fun y7=>cM a0 u1_1 u1_2 n2 (0:Int) (aW u2_1 (Int.toNat ((min (List.length u2_1) (64 -(Int.toNat u2_0)):Nat):Int)) (List.length u2_1)) y7.1 y7.2) else(cM a0 u1_1 u1_2 n2 (aP (u2_0+((min (List.length u2_1) (64 -(Int.toNat u2_0)):Nat):Int))) (aW u2_1 (Int.toNat ((min (List.length u2_1) (64 -(Int.toNat u2_0)):Nat):Int)) (List.length u2_1)) u2_2 (iK u2_3 (List.take (min (List.length u2_1) (64 -(Int.toNat u2_0))) u2_1) (Int.toNat u2_0)))) else none) else none) else(some (u2_0,u2_2,u2_3))
def cd(a0:List (List Int)):Nat→Int→Int→Int→aX→cp→Option (Int×Int×aX×cp)
 |0,_,_,_,_,_=>none
 |n1+1,u1_0,u1_1,u1_2,u1_3,u1_4=>if(decide (u1_2<(List.length a0:Int)))=true then(Option.bind (if 0≤u1_2∧u1_2<(List.length a0:Int) then(Option.bind (cM a0 u1_1 u1_2 (bX) u1_0 (nth (.slice 1 (.int .u8)) a0 u1_2) u1_3 u1_4) fun(o4:Int×aX×cp)=>some (o4.1,o4.2.1,o4.2.2)) else none) fun(o2:Int×aX×cp)=>cd a0 n1 o2.1 (IntKind.u64.wrap (u1_1+(IntKind.u64.wrap ((List.length (nth (.slice 1 (.int .u8)) a0 u1_2):Int))))) (aP (u1_2+(1:Int))) o2.2.1 o2.2.2) else(some (u1_0,u1_1,u1_3,u1_4))
def bS(o1:Int×Int×aX×cp)(o14:aX×cp):Nat→Int→cp→Option cp
 |0,_,_=>none
 |n3+1,u3_0,u3_1=>if(decide (u3_0<(8:Int)))=true then(if 0≤(aP ((8:Int)*u3_0)) then(if 0≤(aP ((63:Int) -u3_0))∧(aP ((63:Int) -u3_0))<(64:Int) then(bS o1 o14 n3 (aP (u3_0+(1:Int))) (List.set u3_1 (Int.toNat (aP ((63:Int) -u3_0))) (IntKind.u8.wrap (Int.fdiv (IntKind.u64.wrap (o1.2.1*(8:Int))) (2^(min (Int.toNat (aP ((8:Int)*u3_0))) 64)))))) else none) else none) else(some u3_1)
def jk(a0:List (List Int))(a1:aX):Option aX:=
 Option.bind (cd a0 (List.length a0+1) (0:Int) (0:Int) (0:Int) a1 (Ty.aS bA)) fun(o1:Int×Int×aX×cp)=>if 0≤o1.1∧o1.1<(64:Int) then(if 0≤(aP (o1.1+(1:Int)))∧(aP (o1.1+(1:Int)))≤((64:Nat):Int) then(Option.bind (if(decide ((56:Int)<(aP (o1.1+(1:Int)))))=true then(Option.bind (fO 0 (64 -0) o1.2.2.1 (iK (List.set o1.2.2.2 (Int.toNat o1.1) (128:Int)) (List.replicate (64 -(Int.toNat (aP (o1.1+(1:Int))))) (0:Int)) (Int.toNat (aP (o1.1+(1:Int)))))) fun y15=>some (y15.1,iK y15.2 (List.replicate (64 -0) (0:Int)) 0)) else(some (o1.2.2.1,iK (List.set o1.2.2.2 (Int.toNat o1.1) (128:Int)) (List.replicate (64 -(Int.toNat (aP (o1.1+(1:Int))))) (0:Int)) (Int.toNat (aP (o1.1+(1:Int))))))) fun(o14:aX×cp)=>Option.bind (bS o1 o14 (Int.toNat (8:Int)+1) (0:Int) o14.2) fun(o18:cp)=>Option.bind (fO 0 (64 -0) o14.1 o18) fun y22=>some y22.1) else none) else none
set_option maxRecDepth 100000 in
theorem CV(a0:List (List Int))(a1:aX)(r:aX)(h:jk a0 a1=some r):Fc Tryz.prog gl 216 [(.func (.func 217) (.cons (.ptr 0 []) .nil) .nil),(.val (.slice 24 (.slice 1 (.int .u8))) a0)] (aj (List.replicate 109 none) [(0,some (.var aM (.val aM a1)))]) (.ret (.c8 .nil)) (aq 109 [(0,(.var aM (.val aM r)))]):=by
 refine Fc.of Tryz.call216 (bz.aD tied Tryz.func216 rfl rfl (σ0:=ar 69 109 [(0,(.func (.func 217) (.cons (.ptr 0 []) .nil) .nil)),(1,(.val (.slice 24 (.slice 1 (.int .u8))) a0))] [(0,some (.var aM (.val aM a1)))]) (by kernel_rfl) ?_)
 unfold jk at h
 refine aa.af tied [] [] [] [] (by kernel_rfl) trivial ?_
 refine aa.af tied [] [] [] [] (by kernel_rfl) trivial ?_
 obtain⟨o1,h1,h⟩:=bind_some h
 refine aa.ba (fun σ'=>σ'=ar 69 109 [(0,(.func (.func 217) (.cons (.ptr 0 []) .nil) .nil)),(4,(.ptr 20 [])),(5,(.val (.int .i64) o1.1)),(6,(.val (.int .u64) o1.2.1))] [(0,some (.var aM (.val aM o1.2.2.1))),(20,some (.var bA (.val bA o1.2.2.2)))]) ?_ ?_
 ·refine aa.af tied [] [] [] [] (by kernel_rfl) trivial ?_
  refine aa.block ?_
  refine aa.aB (fun n σ=>∃(u1_0:Int)(u1_1:Int)(u1_2:Int)(u1_3:aX)(u1_4:cp),cd a0 n u1_0 u1_1 u1_2 u1_3 u1_4=some o1∧σ=ar 69 109 [(0,(.func (.func 217) (.cons (.ptr 0 []) .nil) .nil)),(4,(.ptr 20 [])),(5,(.val (.int .i64) u1_0)),(6,(.val (.int .u64) u1_1)),(11,(.val (.slice 24 (.slice 1 (.int .u8))) a0)),(12,(.val (.int .i64) (List.length a0:Int))),(13,(.val (.int .i64) u1_2))] [(0,some (.var aM (.val aM u1_3))),(20,some (.var bA (.val bA u1_4)))]) [.an [0,4,5,6,11,12,13] [0,20]] (by kernel_rfl) ⟨_,_,_,_,_,h1,rfl⟩ ?_
  rintro n1 _ ⟨u1_0,u1_1,u1_2,u1_3,u1_4,h10,rfl⟩
  cases n1 with
  |zero=>exact absurd h10 (by simp[cd])
  |
   succ n1=>
   unfold cd at h10
   refine aa.af tied [] [] [] [] (by kernel_rfl) trivial ?_
   refine aa.seq ?_
   rcases ae h10 with⟨hc11,h10⟩|⟨hc11,h10⟩
   ·refine aa.aE (b:=decide (u1_2<(List.length a0:Int))) (by kernel_rfl) hc11 ?_
    refine aa.skip ?_
    change aa _ _ _ _ _
    obtain⟨o2,h11,h10⟩:=bind_some h10
    refine aa.ba (fun σ'=>σ'=ar 69 109 [(0,(.func (.func 217) (.cons (.ptr 0 []) .nil) .nil)),(4,(.ptr 20 [])),(5,(.val (.int .i64) o2.1)),(6,(.val (.int .u64) (IntKind.u64.wrap (u1_1+(IntKind.u64.wrap ((List.length (nth (.slice 1 (.int .u8)) a0 u1_2):Int))))))),(11,(.val (.slice 24 (.slice 1 (.int .u8))) a0)),(12,(.val (.int .i64) (List.length a0:Int))),(13,(.val (.int .i64) u1_2))] [(0,some (.var aM (.val aM o2.2.1))),(20,some (.var bA (.val bA o2.2.2)))]) ?_ ?_
    ·refine aa.block ?_
     obtain⟨hv3,h11⟩:=ah h11
     refine aa.af tied [] [] [] [0≤u1_2,u1_2<(List.length a0:Int)] (by kernel_rfl) ⟨hv3.1,hv3.2,trivial⟩ ?_
     refine aa.af tied [] [] [] [] (by kernel_rfl) trivial ?_
     obtain⟨o4,h15,h11⟩:=bind_some h11
     refine aa.oP (fun σ'=>σ'=ar 69 109 [(0,(.func (.func 217) (.cons (.ptr 0 []) .nil) .nil)),(4,(.ptr 20 [])),(5,(.val (.int .i64) o4.1)),(6,(.val (.int .u64) (IntKind.u64.wrap (u1_1+(IntKind.u64.wrap ((List.length (nth (.slice 1 (.int .u8)) a0 u1_2):Int))))))),(11,(.val (.slice 24 (.slice 1 (.int .u8))) a0)),(12,(.val (.int .i64) (List.length a0:Int))),(13,(.val (.int .i64) u1_2))] [(0,some (.var aM (.val aM o4.2.1))),(20,some (.var bA (.val bA o4.2.2)))]) (Cl.bL (Cl.j (Cl.loop (Cl.bL (Cl.j Cl.f))))) ?_ ?_
     ·refine aa.block ?_
      refine aa.aB (fun n σ=>∃(u2_0:Int)(u2_1:List Int)(u2_2:aX)(u2_3:cp),cM a0 u1_1 u1_2 n u2_0 u2_1 u2_2 u2_3=some o4∧σ=ar 69 109 [(0,(.func (.func 217) (.cons (.ptr 0 []) .nil) .nil)),(4,(.ptr 20 [])),(5,(.val (.int .i64) u2_0)),(6,(.val (.int .u64) (IntKind.u64.wrap (u1_1+(IntKind.u64.wrap ((List.length (nth (.slice 1 (.int .u8)) a0 u1_2):Int))))))),(8,(.val (.slice 1 (.int .u8)) u2_1)),(11,(.val (.slice 24 (.slice 1 (.int .u8))) a0)),(12,(.val (.int .i64) (List.length a0:Int))),(13,(.val (.int .i64) u1_2))] [(0,some (.var aM (.val aM u2_2))),(20,some (.var bA (.val bA u2_3)))]) [.an [0,4,5,6,8,11,12,13] [0,20]] (by kernel_rfl) ⟨_,_,_,_,h15,rfl⟩ ?_
      rintro n2 _ ⟨u2_0,u2_1,u2_2,u2_3,h17,rfl⟩
      cases n2 with
      |zero=>exact absurd h17 (by simp[cM])
      |
       succ n2=>
       unfold cM at h17
       refine aa.seq ?_
       refine aa.af tied [] [] [] [] (by kernel_rfl) trivial ?_
       rcases ae h17 with⟨hc10,h17⟩|⟨hc10,h17⟩
       ·refine aa.aE (b:=decide ((0:Int)<(List.length u2_1:Int))) (by kernel_rfl) hc10 ?_
        refine aa.skip ?_
        change aa _ _ _ _ _
        refine aa.block ?_
        obtain⟨hv5,h17⟩:=ah h17
        refine aa.af tied [] [] [] [0≤u2_0,u2_0≤((64:Nat):Int)] (by kernel_rfl) ⟨hv5.1,hv5.2,trivial⟩ ?_
        obtain⟨hv6,h17⟩:=ah h17
        refine aa.gn tied [] [] [] [0≤((min (List.length u2_1) (64 -(Int.toNat u2_0)):Nat):Int),((min (List.length u2_1) (64 -(Int.toNat u2_0)):Nat):Int)≤(List.length u2_1:Int)] (by kernel_rfl) ⟨hv6.1,hv6.2,trivial⟩ ?_
        refine aa.af tied [] [] [] [] (by kernel_rfl) trivial ?_
        rcases ae h17 with⟨hc9,h17⟩|⟨hc9,h17⟩
        ·refine aa.aE (b:=decide ((aP (u2_0+((min (List.length u2_1) (64 -(Int.toNat u2_0)):Nat):Int)))=(64:Int))) (by kernel_rfl) hc9 ?_
         obtain⟨y7,hy8,h17⟩:=bind_some h17
         refine aa.af tied [⟨(.c8 .nil),[(0,0),(1,20)],[],[(0,(.var aM (.val aM y7.1))),(1,(.var bA (.val bA y7.2)))],227⟩] [] [] [Fc Tryz.prog gl 217 [(.ptr 0 []),(.ig 1 [] 0 (64 -0))] (aj (List.replicate 227 none) [(0,some (.var aM (.val aM u2_2))),(1,some (.var bA (.val bA (iK u2_3 (List.take (min (List.length u2_1) (64 -(Int.toNat u2_0))) u2_1) (Int.toNat u2_0)))))]) (.ret (.c8 .nil)) (aq 227 [(0,(.var aM (.val aM y7.1))),(1,(.var bA (.val bA y7.2)))])] (by kernel_rfl) ⟨s7 _ _ _ _ _ hy8,trivial⟩ ?_
         refine aa.br tied [] [] [] [] (by kernel_rfl) trivial ?_
         refine bN ?_
         exact aB.mk [.an [0,4,5,6,8,11,12,13] [0,20]] (by kernel_rfl) ⟨_,_,_,_,h17,rfl⟩
        ·refine aa.aF (b:=decide ((aP (u2_0+((min (List.length u2_1) (64 -(Int.toNat u2_0)):Nat):Int)))=(64:Int))) (by kernel_rfl) hc9 ?_
         refine aa.skip ?_
         refine bN ?_
         exact aB.mk [.an [0,4,5,6,8,11,12,13] [0,20]] (by kernel_rfl) ⟨_,_,_,_,h17,rfl⟩
       ·refine aa.aF (b:=decide ((0:Int)<(List.length u2_1:Int))) (by kernel_rfl) hc10 ?_
        refine aa.exit ?_
        refine tE ?_
        refine lE ?_
        refine bE ?_
        obtain rfl:=Option.some.inj h17
        exact jQ.mk [.an [0,4,5,6,11,12,13] [0,20]] (by kernel_rfl) rfl
     ·rintro _ rfl
      refine bN ?_
      obtain rfl:=Option.some.inj h11
      exact jQ.mk [.an [0,4,5,6,11,12,13] [0,20]] (by kernel_rfl) rfl
    ·rintro _ rfl
     refine aa.br tied [] [] [] [] (by kernel_rfl) trivial ?_
     exact aB.mk [.an [0,4,5,6,11,12,13] [0,20]] (by kernel_rfl) ⟨_,_,_,_,_,h10,rfl⟩
   ·refine aa.aF (b:=decide (u1_2<(List.length a0:Int))) (by kernel_rfl) hc11 ?_
    refine aa.exit ?_
    refine tE ?_
    refine lE ?_
    refine bE ?_
    obtain rfl:=Option.some.inj h10
    exact jQ.mk [.an [0,4,5,6] [0,20]] (by kernel_rfl) rfl
 ·rintro _ rfl
  obtain⟨hv12,h⟩:=ah h
  refine aa.af tied [] [] [] [0≤o1.1,o1.1<(64:Int)] (by kernel_rfl) ⟨hv12.1,hv12.2,trivial⟩ ?_
  obtain⟨hv13,h⟩:=ah h
  refine aa.af tied [] [] [] [0≤(aP (o1.1+(1:Int))),(aP (o1.1+(1:Int)))≤((64:Nat):Int)] (by kernel_rfl) ⟨hv13.1,hv13.2,trivial⟩ ?_
  obtain⟨o14,h18,h⟩:=bind_some h
  refine aa.ba (fun σ'=>σ'=ar 69 109 [(0,(.func (.func 217) (.cons (.ptr 0 []) .nil) .nil)),(4,(.ptr 20 [])),(6,(.val (.int .u64) o1.2.1))] [(0,some (.var aM (.val aM o14.1))),(20,some (.var bA (.val bA o14.2)))]) ?_ ?_
  ·refine aa.af tied [] [] [] [] (by kernel_rfl) trivial ?_
   rcases ae h18 with⟨hc17,h18⟩|⟨hc17,h18⟩
   ·refine aa.aE (b:=decide ((56:Int)<(aP (o1.1+(1:Int))))) (by kernel_rfl) hc17 ?_
    obtain⟨y15,hy16,h18⟩:=bind_some h18
    refine aa.af tied [⟨(.c8 .nil),[(0,0),(1,20)],[],[(0,(.var aM (.val aM y15.1))),(1,(.var bA (.val bA y15.2)))],227⟩] [] [] [Fc Tryz.prog gl 217 [(.ptr 0 []),(.ig 1 [] 0 (64 -0))] (aj (List.replicate 227 none) [(0,some (.var aM (.val aM o1.2.2.1))),(1,some (.var bA (.val bA (iK (List.set o1.2.2.2 (Int.toNat o1.1) (128:Int)) (List.replicate (64 -(Int.toNat (aP (o1.1+(1:Int))))) (0:Int)) (Int.toNat (aP (o1.1+(1:Int))))))))]) (.ret (.c8 .nil)) (aq 227 [(0,(.var aM (.val aM y15.1))),(1,(.var bA (.val bA y15.2)))])] (by kernel_rfl) ⟨s7 _ _ _ _ _ hy16,trivial⟩ ?_
    refine aa.br tied [] [] [] [] (by kernel_rfl) trivial ?_
    obtain rfl:=Option.some.inj h18
    exact jQ.mk [.an [0,4,6] [0,20]] (by kernel_rfl) rfl
   ·refine aa.aF (b:=decide ((56:Int)<(aP (o1.1+(1:Int))))) (by kernel_rfl) hc17 ?_
    refine aa.skip ?_
    obtain rfl:=Option.some.inj h18
    exact jQ.mk [.an [0,4,6] [0,20]] (by kernel_rfl) rfl
  ·rintro _ rfl
   obtain⟨o18,h19,h⟩:=bind_some h
   refine aa.ba (fun σ'=>σ'=ar 69 109 [(0,(.func (.func 217) (.cons (.ptr 0 []) .nil) .nil)),(4,(.ptr 20 []))] [(0,some (.var aM (.val aM o14.1))),(20,some (.var bA (.val bA o18)))]) ?_ ?_
   ·refine aa.af tied [] [] [] [] (by kernel_rfl) trivial ?_
    refine aa.block ?_
    refine aa.aB (fun n σ=>∃(u3_0:Int)(u3_1:cp),bS o1 o14 n u3_0 u3_1=some o18∧σ=ar 69 109 [(0,(.func (.func 217) (.cons (.ptr 0 []) .nil) .nil)),(4,(.ptr 20 [])),(6,(.val (.int .u64) o1.2.1)),(53,(.val (.int .i64) u3_0))] [(0,some (.var aM (.val aM o14.1))),(20,some (.var bA (.val bA u3_1)))]) [.an [0,4,6,53] [0,20]] (by kernel_rfl) ⟨_,_,h19,rfl⟩ ?_
    rintro n3 _ ⟨u3_0,u3_1,h21,rfl⟩
    cases n3 with
    |zero=>exact absurd h21 (by simp[bS])
    |
     succ n3=>
     unfold bS at h21
     refine aa.af tied [] [] [] [] (by kernel_rfl) trivial ?_
     refine aa.seq ?_
     rcases ae h21 with⟨hc21,h21⟩|⟨hc21,h21⟩
     ·refine aa.aE (b:=decide (u3_0<(8:Int))) (by kernel_rfl) hc21 ?_
      refine aa.skip ?_
      change aa _ _ _ _ _
      refine aa.seq ?_
      refine aa.block ?_
      refine aa.af tied [] [] [] [] (by kernel_rfl) trivial ?_
      obtain⟨hv19,h21⟩:=ah h21
      obtain⟨hv20,h21⟩:=ah h21
      refine aa.br tied [] [] [] [0≤(aP ((8:Int)*u3_0)),0≤(aP ((63:Int) -u3_0)),(aP ((63:Int) -u3_0))<(64:Int)] (by kernel_rfl) ⟨hv19,hv20.1,hv20.2,trivial⟩ ?_
      refine bN ?_
      change aa _ _ _ _ _
      refine aa.br tied [] [] [] [] (by kernel_rfl) trivial ?_
      exact aB.mk [.an [0,4,6,53] [0,20]] (by kernel_rfl) ⟨_,_,h21,rfl⟩
     ·refine aa.aF (b:=decide (u3_0<(8:Int))) (by kernel_rfl) hc21 ?_
      refine aa.exit ?_
      refine tE ?_
      refine lE ?_
      refine bE ?_
      obtain rfl:=Option.some.inj h21
      exact jQ.mk [.an [0,4] [0,20]] (by kernel_rfl) rfl
   ·rintro _ rfl
    obtain⟨y22,hy23,h⟩:=bind_some h
    refine aa.br tied [⟨(.c8 .nil),[(0,0),(1,20)],[],[(0,(.var aM (.val aM y22.1))),(1,(.var bA (.val bA y22.2)))],227⟩] [] [] [Fc Tryz.prog gl 217 [(.ptr 0 []),(.ig 1 [] 0 (64 -0))] (aj (List.replicate 227 none) [(0,some (.var aM (.val aM o14.1))),(1,some (.var bA (.val bA o18)))]) (.ret (.c8 .nil)) (aq 227 [(0,(.var aM (.val aM y22.1))),(1,(.var bA (.val bA y22.2)))])] (by kernel_rfl) ⟨s7 _ _ _ _ _ hy23,trivial⟩ ?_
    obtain rfl:=Option.some.inj h
    exact(au [.an [] [0]] [] (cq 109 [0]) (by kernel_rfl)).2
def c7(y1:aX):Nat→Int→aU→Option aU
 |0,_,_=>none
 |n1+1,u1_0,u1_1=>if(decide (u1_0<(32:Int)))=true then(if 0≤(aP (Int.tdiv u1_0 (4:Int)))∧(aP (Int.tdiv u1_0 (4:Int)))<(8:Int) then(if 0≤(aP ((24:Int) -(aP ((8:Int)*(Int.tmod u1_0 (4:Int)))))) then(if 0≤u1_0∧u1_0<(32:Int) then(c7 y1 n1 (aP (u1_0+(1:Int))) (List.set u1_1 (Int.toNat u1_0) (IntKind.u8.wrap (Int.fdiv (nth (.int .u32) y1 (aP (Int.tdiv u1_0 (4:Int)))) (2^(min (Int.toNat (aP ((24:Int) -(aP ((8:Int)*(Int.tmod u1_0 (4:Int))))))) 32)))))) else none) else none) else none) else(some u1_1)
def f125(a0:List (List Int)):Option aU:=
 Option.bind (jk a0 [(1779033703:Int),(3144134277:Int),(1013904242:Int),(2773480762:Int),(1359893119:Int),(2600822924:Int),(528734635:Int),(1541459225:Int)]) fun y1=>Option.bind (c7 y1 (Int.toNat (32:Int)+1) (0:Int) (Ty.aS ao)) fun(o3:aU)=>some o3
set_option maxRecDepth 100000 in
theorem Fx(a0:List (List Int))(r:aU)(h:f125 a0=some r):Fc Tryz.prog gl 125 [(.val (.slice 24 (.slice 1 (.int .u8))) a0)] (aj (List.replicate 66 none) []) (.ret (.val ao r)) (aq 66 []):=by
 refine Fc.of Tryz.call125 (bz.aD tied Tryz.func125 rfl rfl (σ0:=ar 26 66 [(0,(.val (.slice 24 (.slice 1 (.int .u8))) a0))] []) (by kernel_rfl) ?_)
 unfold f125 at h
 refine aa.af tied [] [] [] [] (by kernel_rfl) trivial ?_
 refine aa.af tied [] [] [] [] (by kernel_rfl) trivial ?_
 obtain⟨y1,hy2,h⟩:=bind_some h
 refine aa.af tied [⟨(.c8 .nil),[(0,19)],[],[(0,(.var aM (.val aM y1)))],109⟩] [] [] [Fc Tryz.prog gl 216 [(.func (.func 217) (.cons (.ptr 0 []) .nil) .nil),(.val (.slice 24 (.slice 1 (.int .u8))) a0)] (aj (List.replicate 109 none) [(0,some (.var aM (.val aM [(1779033703:Int),(3144134277:Int),(1013904242:Int),(2773480762:Int),(1359893119:Int),(2600822924:Int),(528734635:Int),(1541459225:Int)])))]) (.ret (.c8 .nil)) (aq 109 [(0,(.var aM (.val aM y1)))])] (by kernel_rfl) ⟨CV _ _ _ hy2,trivial⟩ ?_
 obtain⟨o3,h1,h⟩:=bind_some h
 refine aa.ba (fun σ'=>σ'=ar 26 66 [(2,(.ptr 18 []))] [(18,some (.var ao (.val ao o3)))]) ?_ ?_
 ·refine aa.af tied [] [] [] [] (by kernel_rfl) trivial ?_
  refine aa.block ?_
  refine aa.aB (fun n σ=>∃(u1_0:Int)(u1_1:aU),c7 y1 n u1_0 u1_1=some o3∧σ=ar 26 66 [(2,(.ptr 18 [])),(3,(.ptr 19 [])),(9,(.val (.int .i64) u1_0))] [(18,some (.var ao (.val ao u1_1))),(19,some (.var aM (.val aM y1)))]) [.an [2,3,9] [18,19]] (by kernel_rfl) ⟨_,_,h1,rfl⟩ ?_
  rintro n1 _ ⟨u1_0,u1_1,h3,rfl⟩
  cases n1 with
  |zero=>exact absurd h3 (by simp[c7])
  |
   succ n1=>
   unfold c7 at h3
   refine aa.af tied [] [] [] [] (by kernel_rfl) trivial ?_
   refine aa.seq ?_
   rcases ae h3 with⟨hc7,h3⟩|⟨hc7,h3⟩
   ·refine aa.aE (b:=decide (u1_0<(32:Int))) (by kernel_rfl) hc7 ?_
    refine aa.skip ?_
    change aa _ _ _ _ _
    refine aa.seq ?_
    refine aa.block ?_
    refine aa.af tied [] [] [] [] (by kernel_rfl) trivial ?_
    obtain⟨hv4,h3⟩:=ah h3
    obtain⟨hv5,h3⟩:=ah h3
    obtain⟨hv6,h3⟩:=ah h3
    refine aa.br tied [] [] [] [(4:Int)≠0,0≤(aP (Int.tdiv u1_0 (4:Int))),(aP (Int.tdiv u1_0 (4:Int)))<(8:Int),(4:Int)≠0,0≤(aP ((24:Int) -(aP ((8:Int)*(Int.tmod u1_0 (4:Int)))))),0≤u1_0,u1_0<(32:Int)] (by kernel_rfl) ⟨(by decide),hv4.1,hv4.2,(by decide),hv5,hv6.1,hv6.2,trivial⟩ ?_
    refine bN ?_
    change aa _ _ _ _ _
    refine aa.br tied [] [] [] [] (by kernel_rfl) trivial ?_
    exact aB.mk [.an [2,3,9] [18,19]] (by kernel_rfl) ⟨_,_,h3,rfl⟩
   ·refine aa.aF (b:=decide (u1_0<(32:Int))) (by kernel_rfl) hc7 ?_
    refine aa.exit ?_
    refine tE ?_
    refine lE ?_
    refine bE ?_
    obtain rfl:=Option.some.inj h3
    exact jQ.mk [.an [2] [18]] (by kernel_rfl) rfl
 ·rintro _ rfl
  refine aa.af tied [] [] [] [] (by kernel_rfl) trivial ?_
  refine aa.ret ?_
  obtain rfl:=Option.some.inj h
  exact(au [] [some ao] (cq 66 []) (by kernel_rfl)).1
def ik(a0:List Int):Nat→(List Int)→Option (List Int)
 |0,_=>none
 |n1+1,u1_0=>if(!decide ((Int.tmod (List.length u1_0:Int) (64:Int))=(56:Int)))=true then(if(List.length u1_0+List.length [(0:Int)])*1≤az then(ik a0 n1 (u1_0++[(0:Int)])) else none) else(some u1_0)
def fP(a0:List Int):Nat→Int→(List Int)→Option (List Int)
 |0,_,_=>none
 |n2+1,u2_0,u2_1=>if(decide ((0:Int)≤u2_0))=true then(if 0≤(aP ((8:Int)*u2_0)) then(if(List.length u2_1+List.length [IntKind.u8.wrap (Int.fdiv (IntKind.u64.wrap ((IntKind.u64.wrap ((List.length a0:Int)))*(8:Int))) (2^(min (Int.toNat (aP ((8:Int)*u2_0))) 64)))])*1≤az then(fP a0 n2 (aP (u2_0 -(1:Int))) (u2_1++[IntKind.u8.wrap (Int.fdiv (IntKind.u64.wrap ((IntKind.u64.wrap ((List.length a0:Int)))*(8:Int))) (2^(min (Int.toNat (aP ((8:Int)*u2_0))) 64)))])) else none) else none) else(some u2_1)
def f280(a0:List Int):Option (List Int):=
 if(List.length ([]:List Int)+List.length a0)*1≤az then(if(List.length a0+List.length [(128:Int)])*1≤az then(Option.bind (ik a0 (bX) (a0++[(128:Int)])) fun(o3:List Int)=>Option.bind (fP a0 (bX) (7:Int) o3) fun(o6:List Int)=>some o6) else none) else none
set_option maxRecDepth 100000 in
theorem I6(a0:List Int)(r:List Int)(h:f280 a0=some r):Fc Tryz.prog gl 280 [(.val (.slice 1 (.int .u8)) a0)] (aj (List.replicate 75 none) []) (.ret (.val (.slice 1 (.int .u8)) r)) (aq 75 []):=by
 refine Fc.of Tryz.call280 (bz.aD tied Tryz.func280 rfl rfl (σ0:=ar 35 75 [(0,(.val (.slice 1 (.int .u8)) a0))] []) (by kernel_rfl) ?_)
 unfold f280 at h
 refine aa.af tied [] [] [] [] (by kernel_rfl) trivial ?_
 obtain⟨hv1,h⟩:=ah h
 obtain⟨hv2,h⟩:=ah h
 refine aa.af tied [] [] [] [(List.length ([]:List Int)+List.length a0)*1≤az,(List.length a0+List.length [(128:Int)])*1≤az] (by kernel_rfl) ⟨hv1,hv2,trivial⟩ ?_
 obtain⟨o3,h1,h⟩:=bind_some h
 refine aa.ba (fun σ'=>σ'=ar 35 75 [(0,(.val (.slice 1 (.int .u8)) a0)),(3,(.own 52))] [(52,some (.row 5 1 (.int .u8) o3))]) ?_ ?_
 ·refine aa.block ?_
  refine aa.aB (fun n σ=>∃(u1_0:List Int),ik a0 n u1_0=some o3∧σ=ar 35 75 [(0,(.val (.slice 1 (.int .u8)) a0)),(3,(.own 51))] [(51,some (.row 5 1 (.int .u8) u1_0))]) [.an [0,3] [26],.iN 26 51] (by kernel_rfl) ⟨_,h1,rfl⟩ ?_
  rintro n1 _ ⟨u1_0,h3,rfl⟩
  cases n1 with
  |zero=>exact absurd h3 (by simp[ik])
  |
   succ n1=>
   unfold ik at h3
   refine aa.seq ?_
   refine aa.af tied [] [] [] [(64:Int)≠0] (by kernel_rfl) ⟨(by decide),trivial⟩ ?_
   rcases ae h3 with⟨hc5,h3⟩|⟨hc5,h3⟩
   ·refine aa.aE (b:= !decide ((Int.tmod (List.length u1_0:Int) (64:Int))=(56:Int))) (by kernel_rfl) hc5 ?_
    refine aa.skip ?_
    change aa _ _ _ _ _
    refine aa.block ?_
    obtain⟨hv4,h3⟩:=ah h3
    refine aa.br tied [] [] [] [(List.length u1_0+List.length [(0:Int)])*1≤az] (by kernel_rfl) ⟨hv4,trivial⟩ ?_
    refine bN ?_
    exact aB.mk [.an [0,3] [33],.iN 33 51] (by kernel_rfl) ⟨_,h3,rfl⟩
   ·refine aa.aF (b:= !decide ((Int.tmod (List.length u1_0:Int) (64:Int))=(56:Int))) (by kernel_rfl) hc5 ?_
    refine aa.exit ?_
    refine tE ?_
    refine lE ?_
    refine bE ?_
    obtain rfl:=Option.some.inj h3
    exact jQ.mk [.an [0,3] [51],.iN 51 52] (by kernel_rfl) rfl
 ·rintro _ rfl
  refine aa.af tied [] [] [] [] (by kernel_rfl) trivial ?_
  obtain⟨o6,h4,h⟩:=bind_some h
  refine aa.ba (fun σ'=>σ'=ar 35 75 [(3,(.own 54))] [(54,some (.row 5 1 (.int .u8) o6))]) ?_ ?_
  ·refine aa.af tied [] [] [] [] (by kernel_rfl) trivial ?_
   refine aa.block ?_
   refine aa.aB (fun n σ=>∃(u2_0:Int)(u2_1:List Int),fP a0 n u2_0 u2_1=some o6∧σ=ar 35 75 [(3,(.own 53)),(4,(.val (.int .u64) (IntKind.u64.wrap ((IntKind.u64.wrap ((List.length a0:Int)))*(8:Int))))),(5,(.val (.int .i64) u2_0))] [(53,some (.row 5 1 (.int .u8) u2_1))]) [.an [3,4,5] [52],.iN 52 53] (by kernel_rfl) ⟨_,_,h4,rfl⟩ ?_
   rintro n2 _ ⟨u2_0,u2_1,h6,rfl⟩
   cases n2 with
   |zero=>exact absurd h6 (by simp[fP])
   |
    succ n2=>
    unfold fP at h6
    refine aa.seq ?_
    refine aa.af tied [] [] [] [] (by kernel_rfl) trivial ?_
    rcases ae h6 with⟨hc9,h6⟩|⟨hc9,h6⟩
    ·refine aa.aE (b:=decide ((0:Int)≤u2_0)) (by kernel_rfl) hc9 ?_
     refine aa.skip ?_
     change aa _ _ _ _ _
     refine aa.seq ?_
     refine aa.block ?_
     obtain⟨hv7,h6⟩:=ah h6
     obtain⟨hv8,h6⟩:=ah h6
     refine aa.br tied [] [] [] [0≤(aP ((8:Int)*u2_0)),(List.length u2_1+List.length [IntKind.u8.wrap (Int.fdiv (IntKind.u64.wrap ((IntKind.u64.wrap ((List.length a0:Int)))*(8:Int))) (2^(min (Int.toNat (aP ((8:Int)*u2_0))) 64)))])*1≤az] (by kernel_rfl) ⟨hv7,hv8,trivial⟩ ?_
     refine bN ?_
     change aa _ _ _ _ _
     refine aa.br tied [] [] [] [] (by kernel_rfl) trivial ?_
     exact aB.mk [.an [3,4,5] [49],.iN 49 53] (by kernel_rfl) ⟨_,_,h6,rfl⟩
    ·refine aa.aF (b:=decide ((0:Int)≤u2_0)) (by kernel_rfl) hc9 ?_
     refine aa.exit ?_
     refine tE ?_
     refine lE ?_
     refine bE ?_
     obtain rfl:=Option.some.inj h6
     exact jQ.mk [.an [3] [53],.iN 53 54] (by kernel_rfl) rfl
  ·rintro _ rfl
   refine aa.af tied [] [] [] [] (by kernel_rfl) trivial ?_
   refine aa.ret ?_
   obtain rfl:=Option.some.inj h
   exact(au [.freeze 54 (.slice 1 (.int .u8))] [some (.slice 1 (.int .u8))] (cq 75 []) (by kernel_rfl)).1
def f306(a0:List Int):Option Int:=
 if(0:Int)<(List.length a0:Int) then(if(1:Int)<(List.length a0:Int) then(if(2:Int)<(List.length a0:Int) then(if(3:Int)<(List.length a0:Int) then(some (aC .or .u32 (aC .or .u32 (aC .or .u32 (IntKind.u32.wrap ((IntKind.u32.wrap (nth (.int .u8) a0 (0:Int)))*2^(min (Int.toNat (24:Int)) 32))) (IntKind.u32.wrap ((IntKind.u32.wrap (nth (.int .u8) a0 (1:Int)))*2^(min (Int.toNat (16:Int)) 32)))) (IntKind.u32.wrap ((IntKind.u32.wrap (nth (.int .u8) a0 (2:Int)))*2^(min (Int.toNat (8:Int)) 32)))) (IntKind.u32.wrap (nth (.int .u8) a0 (3:Int))))) else none) else none) else none) else none
set_option maxRecDepth 100000 in
theorem I7(a0:List Int)(r:Int)(h:f306 a0=some r):Fc Tryz.prog gl 306 [(.val (.slice 1 (.int .u8)) a0)] (aj (List.replicate 65 none) []) (.ret (.val (.int .u32) r)) (aq 65 []):=by
 refine Fc.of Tryz.call306 (bz.aD tied Tryz.func306 rfl rfl (σ0:=ar 25 65 [(0,(.val (.slice 1 (.int .u8)) a0))] []) (by kernel_rfl) ?_)
 unfold f306 at h
 refine aa.af tied [] [] [] [] (by kernel_rfl) trivial ?_
 obtain⟨hv1,h⟩:=ah h
 obtain⟨hv2,h⟩:=ah h
 obtain⟨hv3,h⟩:=ah h
 obtain⟨hv4,h⟩:=ah h
 refine aa.gn tied [] [] [] [0≤(0:Int),(0:Int)<(List.length a0:Int),0≤(24:Int),0≤(1:Int),(1:Int)<(List.length a0:Int),0≤(16:Int),0≤(2:Int),(2:Int)<(List.length a0:Int),0≤(8:Int),0≤(3:Int),(3:Int)<(List.length a0:Int)] (by kernel_rfl) ⟨(by decide),hv1,(by decide),(by decide),hv2,(by decide),(by decide),hv3,(by decide),(by decide),hv4,trivial⟩ ?_
 refine aa.ret ?_
 obtain rfl:=Option.some.inj h
 exact(au [] [some (.int .u32)] (cq 65 []) (by kernel_rfl)).1
def f307(a0:Int)(a1:Int):Option Int:=
 if 0≤a1 then(if 0≤(aP ((32:Int) -a1)) then(some (aC .or .u32 (Int.fdiv a0 (2^(min (Int.toNat a1) 32))) (IntKind.u32.wrap (a0*2^(min (Int.toNat (aP ((32:Int) -a1))) 32))))) else none) else none
set_option maxRecDepth 100000 in
theorem rC(a0:Int)(a1:Int)(r:Int)(h:f307 a0 a1=some r):Fc Tryz.prog gl 307 [(.val (.int .u32) a0),(.val (.int .i64) a1)] (aj (List.replicate 53 none) []) (.ret (.val (.int .u32) r)) (aq 53 []):=by
 refine Fc.of Tryz.call307 (bz.aD tied Tryz.func307 rfl rfl (σ0:=ar 13 53 [(0,(.val (.int .u32) a0)),(1,(.val (.int .i64) a1))] []) (by kernel_rfl) ?_)
 unfold f307 at h
 refine aa.af tied [] [] [] [] (by kernel_rfl) trivial ?_
 obtain⟨hv1,h⟩:=ah h
 obtain⟨hv2,h⟩:=ah h
 refine aa.gn tied [] [] [] [0≤a1,0≤(aP ((32:Int) -a1))] (by kernel_rfl) ⟨hv1,hv2,trivial⟩ ?_
 refine aa.ret ?_
 obtain rfl:=Option.some.inj h
 exact(au [] [some (.int .u32)] (cq 53 []) (by kernel_rfl)).1
def f308:Option dV:=
 some [(1116352408:Int),(1899447441:Int),(3049323471:Int),(3921009573:Int),(961987163:Int),(1508970993:Int),(2453635748:Int),(2870763221:Int),(3624381080:Int),(310598401:Int),(607225278:Int),(1426881987:Int),(1925078388:Int),(2162078206:Int),(2614888103:Int),(3248222580:Int),(3835390401:Int),(4022224774:Int),(264347078:Int),(604807628:Int),(770255983:Int),(1249150122:Int),(1555081692:Int),(1996064986:Int),(2554220882:Int),(2821834349:Int),(2952996808:Int),(3210313671:Int),(3336571891:Int),(3584528711:Int),(113926993:Int),(338241895:Int),(666307205:Int),(773529912:Int),(1294757372:Int),(1396182291:Int),(1695183700:Int),(1986661051:Int),(2177026350:Int),(2456956037:Int),(2730485921:Int),(2820302411:Int),(3259730800:Int),(3345764771:Int),(3516065817:Int),(3600352804:Int),(4094571909:Int),(275423344:Int),(430227734:Int),(506948616:Int),(659060556:Int),(883997877:Int),(958139571:Int),(1322822218:Int),(1537002063:Int),(1747873779:Int),(1955562222:Int),(2024104815:Int),(2227730452:Int),(2361852424:Int),(2428436474:Int),(2756734187:Int),(3204031479:Int),(3329325298:Int)]
set_option maxRecDepth 100000 in
theorem I8(r:dV)(h:f308=some r):Fc Tryz.prog gl 308 [] (aj (List.replicate 42 none) []) (.ret (.val dh r)) (aq 42 []):=by
 refine Fc.of Tryz.call308 (bz.aD tied Tryz.func308 rfl rfl (σ0:=ar 2 42 [] []) (by kernel_rfl) ?_)
 unfold f308 at h
 refine aa.af tied [] [] [] [] (by kernel_rfl) trivial ?_
 refine aa.af tied [] [] [] [] (by kernel_rfl) trivial ?_
 refine aa.ret ?_
 obtain rfl:=Option.some.inj h
 exact(au [] [some dh] (cq 42 []) (by kernel_rfl)).1
end Go.Proofs.YtjabllhapfphoaaGreatDoor
