/- Made by program (dec.py): walks -/
import Derived.Test.YtjabllhapfphoaaGreatDoorH1
namespace Go.Proofs.YtjabllhapfphoaaGreatDoor
open Go.Abs
def fS(a0:aX)(a1:List Int):Nat→Int→dV→Option dV
 |0,_,_=>none
 |n1+1,u1_0,u1_1=>if(decide (u1_0<(16:Int)))=true then(if 0≤(aP ((4:Int)*u1_0))∧(aP ((4:Int)*u1_0))≤(aP ((aP ((4:Int)*u1_0))+(4:Int)))∧(aP ((aP ((4:Int)*u1_0))+(4:Int)))≤(List.length a1:Int) then(Option.bind (f306 (aW a1 (Int.toNat (aP ((4:Int)*u1_0))) (Int.toNat (aP ((aP ((4:Int)*u1_0))+(4:Int)))))) fun y3=>if 0≤u1_0∧u1_0<(64:Int) then(fS a0 a1 n1 (aP (u1_0+(1:Int))) (List.set u1_1 (Int.toNat u1_0) y3)) else none) else none) else(some u1_1)
def fT(a0:aX):Nat→Int→dV→Option dV
 |0,_,_=>none
 |n2+1,u2_0,u2_1=>if(decide (u2_0<(64:Int)))=true then(if 0≤(aP (u2_0 -(15:Int)))∧(aP (u2_0 -(15:Int)))<(64:Int) then(if 0≤(aP (u2_0 -(2:Int)))∧(aP (u2_0 -(2:Int)))<(64:Int) then(if 0≤(aP (u2_0 -(16:Int)))∧(aP (u2_0 -(16:Int)))<(64:Int) then(Option.bind (f307 (nth (.int .u32) u2_1 (aP (u2_0 -(15:Int)))) (7:Int)) fun y11=>Option.bind (f307 (nth (.int .u32) u2_1 (aP (u2_0 -(15:Int)))) (18:Int)) fun y13=>if 0≤(aP (u2_0 -(7:Int)))∧(aP (u2_0 -(7:Int)))<(64:Int) then(Option.bind (f307 (nth (.int .u32) u2_1 (aP (u2_0 -(2:Int)))) (17:Int)) fun y16=>Option.bind (f307 (nth (.int .u32) u2_1 (aP (u2_0 -(2:Int)))) (19:Int)) fun y18=>if 0≤u2_0∧u2_0<(64:Int) then(fT a0 n2 (aP (u2_0+(1:Int))) (List.set u2_1 (Int.toNat u2_0) (IntKind.u32.wrap ((IntKind.u32.wrap ((IntKind.u32.wrap ((nth (.int .u32) u2_1 (aP (u2_0 -(16:Int))))+(aC .xor .u32 (aC .xor .u32 y11 y13) (Int.fdiv (nth (.int .u32) u2_1 (aP (u2_0 -(15:Int)))) (2^(min (Int.toNat (3:Int)) 32))))))+(nth (.int .u32) u2_1 (aP (u2_0 -(7:Int))))))+(aC .xor .u32 (aC .xor .u32 y16 y18) (Int.fdiv (nth (.int .u32) u2_1 (aP (u2_0 -(2:Int)))) (2^(min (Int.toNat (10:Int)) 32)))))))) else none) else none) else none) else none) else none) else(some u2_1)
def dG(a0:aX)(o7:dV)(y22:dV):Nat→Int→Int→Int→Int→Int→Int→Int→Int→Int→Option (Int×Int×Int×Int×Int×Int×Int×Int)
 |0,_,_,_,_,_,_,_,_,_=>none
 |n3+1,u3_0,u3_1,u3_2,u3_3,u3_4,u3_5,u3_6,u3_7,u3_8=>if(decide (u3_8<(64:Int)))=true then(Option.bind (f307 u3_4 (6:Int)) fun y25=>Option.bind (f307 u3_4 (11:Int)) fun y27=>Option.bind (f307 u3_4 (25:Int)) fun y29=>if 0≤u3_8∧u3_8<(64:Int) then(Option.bind (f307 u3_0 (2:Int)) fun y32=>Option.bind (f307 u3_0 (13:Int)) fun y34=>Option.bind (f307 u3_0 (22:Int)) fun y36=>dG a0 o7 y22 n3 (IntKind.u32.wrap ((IntKind.u32.wrap ((IntKind.u32.wrap ((IntKind.u32.wrap ((IntKind.u32.wrap (u3_7+(aC .xor .u32 (aC .xor .u32 y25 y27) y29)))+(aC .xor .u32 (aC .and .u32 u3_4 u3_5) (aC .and .u32 (aC .xor .u32 IntKind.u32.max u3_4) u3_6))))+(nth (.int .u32) y22 u3_8)))+(nth (.int .u32) o7 u3_8)))+(IntKind.u32.wrap ((aC .xor .u32 (aC .xor .u32 y32 y34) y36)+(aC .xor .u32 (aC .xor .u32 (aC .and .u32 u3_0 u3_1) (aC .and .u32 u3_0 u3_2)) (aC .and .u32 u3_1 u3_2)))))) u3_0 u3_1 u3_2 (IntKind.u32.wrap (u3_3+(IntKind.u32.wrap ((IntKind.u32.wrap ((IntKind.u32.wrap ((IntKind.u32.wrap (u3_7+(aC .xor .u32 (aC .xor .u32 y25 y27) y29)))+(aC .xor .u32 (aC .and .u32 u3_4 u3_5) (aC .and .u32 (aC .xor .u32 IntKind.u32.max u3_4) u3_6))))+(nth (.int .u32) y22 u3_8)))+(nth (.int .u32) o7 u3_8))))) u3_4 u3_5 u3_6 (aP (u3_8+(1:Int)))) else none) else(some (u3_0,u3_1,u3_2,u3_3,u3_4,u3_5,u3_6,u3_7))
def f281(a0:aX)(a1:List Int):Option aX:=
 Option.bind (fS a0 a1 (bX) (0:Int) (List.replicate 64 (0:Int))) fun(o1:dV)=>Option.bind (fT a0 (bX) (16:Int) o1) fun(o7:dV)=>Option.bind (f308) fun y22=>Option.bind (dG a0 o7 y22 (bX) (nth (.int .u32) a0 (0:Int)) (nth (.int .u32) a0 (1:Int)) (nth (.int .u32) a0 (2:Int)) (nth (.int .u32) a0 (3:Int)) (nth (.int .u32) a0 (4:Int)) (nth (.int .u32) a0 (5:Int)) (nth (.int .u32) a0 (6:Int)) (nth (.int .u32) a0 (7:Int)) (0:Int)) fun(o24:Int×Int×Int×Int×Int×Int×Int×Int)=>some [IntKind.u32.wrap ((nth (.int .u32) a0 (0:Int))+o24.1),IntKind.u32.wrap ((nth (.int .u32) a0 (1:Int))+o24.2.1),IntKind.u32.wrap ((nth (.int .u32) a0 (2:Int))+o24.2.2.1),IntKind.u32.wrap ((nth (.int .u32) a0 (3:Int))+o24.2.2.2.1),IntKind.u32.wrap ((nth (.int .u32) a0 (4:Int))+o24.2.2.2.2.1),IntKind.u32.wrap ((nth (.int .u32) a0 (5:Int))+o24.2.2.2.2.2.1),IntKind.u32.wrap ((nth (.int .u32) a0 (6:Int))+o24.2.2.2.2.2.2.1),IntKind.u32.wrap ((nth (.int .u32) a0 (7:Int))+o24.2.2.2.2.2.2.2)]
set_option maxRecDepth 100000 in
theorem JQ(a0:aX)(a1:List Int)(r:aX)(h:f281 a0 a1=some r):Fc Tryz.prog gl 281 [(.val aM a0),(.val (.slice 1 (.int .u8)) a1)] (aj (List.replicate 231 none) []) (.ret (.val aM r)) (aq 231 []):=by
 refine Fc.of Tryz.call281 (bz.aD tied Tryz.func281 rfl rfl (σ0:=ar 191 231 [(0,(.val aM a0)),(1,(.val (.slice 1 (.int .u8)) a1))] []) (by kernel_rfl) ?_)
 unfold f281 at h
 refine aa.af tied [] [] [] [] (by kernel_rfl) trivial ?_
 refine aa.af tied [] [] [] [] (by kernel_rfl) trivial ?_
 obtain⟨o1,h1,h⟩:=bind_some h
 refine aa.ba (fun σ'=>σ'=ar 191 231 [(2,(.ptr 18 [])),(4,(.ptr 20 [])),(5,(.ptr 21 []))] [(18,some (.var aM (.val aM a0))),(20,some (.var aM (.val aM (Ty.aS aM)))),(21,some (.var dh (.val dh o1)))]) ?_ ?_
 ·refine aa.af tied [] [] [] [] (by kernel_rfl) trivial ?_
  refine aa.block ?_
  refine aa.aB (fun n σ=>∃(u1_0:Int)(u1_1:dV),fS a0 a1 n u1_0 u1_1=some o1∧σ=ar 191 231 [(1,(.val (.slice 1 (.int .u8)) a1)),(2,(.ptr 18 [])),(4,(.ptr 20 [])),(5,(.ptr 21 [])),(6,(.val (.int .i64) u1_0))] [(18,some (.var aM (.val aM a0))),(20,some (.var aM (.val aM (Ty.aS aM)))),(21,some (.var dh (.val dh u1_1)))]) [.an [1,2,4,5,6] [18,20,21]] (by kernel_rfl) ⟨_,_,h1,rfl⟩ ?_
  rintro n1 _ ⟨u1_0,u1_1,h3,rfl⟩
  cases n1 with
  |zero=>exact absurd h3 (by simp[fS])
  |
   succ n1=>
   unfold fS at h3
   refine aa.seq ?_
   refine aa.af tied [] [] [] [] (by kernel_rfl) trivial ?_
   rcases ae h3 with⟨hc6,h3⟩|⟨hc6,h3⟩
   ·refine aa.aE (b:=decide (u1_0<(16:Int))) (by kernel_rfl) hc6 ?_
    refine aa.skip ?_
    change aa _ _ _ _ _
    refine aa.seq ?_
    refine aa.block ?_
    obtain⟨hv2,h3⟩:=ah h3
    obtain⟨y3,hy4,h3⟩:=bind_some h3
    obtain⟨hv5,h3⟩:=ah h3
    refine aa.br tied [⟨(.val (.int .u32) y3),[],[],[],65⟩] [] [] [0≤(aP ((4:Int)*u1_0)),(aP ((4:Int)*u1_0))≤(aP ((aP ((4:Int)*u1_0))+(4:Int))),(aP ((aP ((4:Int)*u1_0))+(4:Int)))≤(List.length a1:Int),Fc Tryz.prog gl 306 [(.val (.slice 1 (.int .u8)) (aW a1 (Int.toNat (aP ((4:Int)*u1_0))) (Int.toNat (aP ((aP ((4:Int)*u1_0))+(4:Int))))))] (aj (List.replicate 65 none) []) (.ret (.val (.int .u32) y3)) (aq 65 []),0≤u1_0,u1_0<(64:Int)] (by kernel_rfl) ⟨hv2.1,hv2.2.1,hv2.2.2,I7 _ _ hy4,hv5.1,hv5.2,trivial⟩ ?_
    refine bN ?_
    change aa _ _ _ _ _
    refine aa.br tied [] [] [] [] (by kernel_rfl) trivial ?_
    exact aB.mk [.an [1,2,4,5,6] [18,20,21]] (by kernel_rfl) ⟨_,_,h3,rfl⟩
   ·refine aa.aF (b:=decide (u1_0<(16:Int))) (by kernel_rfl) hc6 ?_
    refine aa.exit ?_
    refine tE ?_
    refine lE ?_
    refine bE ?_
    obtain rfl:=Option.some.inj h3
    exact jQ.mk [.an [2,4,5] [18,20,21]] (by kernel_rfl) rfl
 ·rintro _ rfl
  obtain⟨o7,h4,h⟩:=bind_some h
  refine aa.ba (fun σ'=>σ'=ar 191 231 [(2,(.ptr 18 [])),(4,(.ptr 20 [])),(5,(.ptr 21 []))] [(18,some (.var aM (.val aM a0))),(20,some (.var aM (.val aM (Ty.aS aM)))),(21,some (.var dh (.val dh o7)))]) ?_ ?_
  ·refine aa.af tied [] [] [] [] (by kernel_rfl) trivial ?_
   refine aa.block ?_
   refine aa.aB (fun n σ=>∃(u2_0:Int)(u2_1:dV),fT a0 n u2_0 u2_1=some o7∧σ=ar 191 231 [(2,(.ptr 18 [])),(4,(.ptr 20 [])),(5,(.ptr 21 [])),(7,(.val (.int .i64) u2_0))] [(18,some (.var aM (.val aM a0))),(20,some (.var aM (.val aM (Ty.aS aM)))),(21,some (.var dh (.val dh u2_1)))]) [.an [2,4,5,7] [18,20,21]] (by kernel_rfl) ⟨_,_,h4,rfl⟩ ?_
   rintro n2 _ ⟨u2_0,u2_1,h6,rfl⟩
   cases n2 with
   |zero=>exact absurd h6 (by simp[fT])
   |
    succ n2=>
    unfold fT at h6
    refine aa.seq ?_
    refine aa.af tied [] [] [] [] (by kernel_rfl) trivial ?_
    rcases ae h6 with⟨hc21,h6⟩|⟨hc21,h6⟩
    ·refine aa.aE (b:=decide (u2_0<(64:Int))) (by kernel_rfl) hc21 ?_
     refine aa.skip ?_
     change aa _ _ _ _ _
     refine aa.seq ?_
     refine aa.block ?_
     obtain⟨hv8,h6⟩:=ah h6
     refine aa.af tied [] [] [] [0≤(aP (u2_0 -(15:Int))),(aP (u2_0 -(15:Int)))<(64:Int)] (by kernel_rfl) ⟨hv8.1,hv8.2,trivial⟩ ?_
     obtain⟨hv9,h6⟩:=ah h6
     refine aa.af tied [] [] [] [0≤(aP (u2_0 -(2:Int))),(aP (u2_0 -(2:Int)))<(64:Int)] (by kernel_rfl) ⟨hv9.1,hv9.2,trivial⟩ ?_
     obtain⟨hv10,h6⟩:=ah h6
     obtain⟨y11,hy12,h6⟩:=bind_some h6
     obtain⟨y13,hy14,h6⟩:=bind_some h6
     obtain⟨hv15,h6⟩:=ah h6
     obtain⟨y16,hy17,h6⟩:=bind_some h6
     obtain⟨y18,hy19,h6⟩:=bind_some h6
     obtain⟨hv20,h6⟩:=ah h6
     refine aa.gk tied [⟨(.val (.int .u32) y11),[],[],[],53⟩,⟨(.val (.int .u32) y13),[],[],[],53⟩,⟨(.val (.int .u32) y16),[],[],[],53⟩,⟨(.val (.int .u32) y18),[],[],[],53⟩] [] [] [0≤(aP (u2_0 -(16:Int))),(aP (u2_0 -(16:Int)))<(64:Int),Fc Tryz.prog gl 307 [(.val (.int .u32) (nth (.int .u32) u2_1 (aP (u2_0 -(15:Int))))),(.val (.int .i64) (7:Int))] (aj (List.replicate 53 none) []) (.ret (.val (.int .u32) y11)) (aq 53 []),Fc Tryz.prog gl 307 [(.val (.int .u32) (nth (.int .u32) u2_1 (aP (u2_0 -(15:Int))))),(.val (.int .i64) (18:Int))] (aj (List.replicate 53 none) []) (.ret (.val (.int .u32) y13)) (aq 53 []),0≤(3:Int),0≤(aP (u2_0 -(7:Int))),(aP (u2_0 -(7:Int)))<(64:Int),Fc Tryz.prog gl 307 [(.val (.int .u32) (nth (.int .u32) u2_1 (aP (u2_0 -(2:Int))))),(.val (.int .i64) (17:Int))] (aj (List.replicate 53 none) []) (.ret (.val (.int .u32) y16)) (aq 53 []),Fc Tryz.prog gl 307 [(.val (.int .u32) (nth (.int .u32) u2_1 (aP (u2_0 -(2:Int))))),(.val (.int .i64) (19:Int))] (aj (List.replicate 53 none) []) (.ret (.val (.int .u32) y18)) (aq 53 []),0≤(10:Int),0≤u2_0,u2_0<(64:Int)] (by kernel_rfl) ⟨hv10.1,hv10.2,rC _ _ _ hy12,rC _ _ _ hy14,(by decide),hv15.1,hv15.2,rC _ _ _ hy17,rC _ _ _ hy19,(by decide),hv20.1,hv20.2,trivial⟩ ?_
     refine bN ?_
     change aa _ _ _ _ _
     refine aa.br tied [] [] [] [] (by kernel_rfl) trivial ?_
     exact aB.mk [.an [2,4,5,7] [18,20,21]] (by kernel_rfl) ⟨_,_,h6,rfl⟩
    ·refine aa.aF (b:=decide (u2_0<(64:Int))) (by kernel_rfl) hc21 ?_
     refine aa.exit ?_
     refine tE ?_
     refine lE ?_
     refine bE ?_
     obtain rfl:=Option.some.inj h6
     exact jQ.mk [.an [2,4,5] [18,20,21]] (by kernel_rfl) rfl
  ·rintro _ rfl
   obtain⟨y22,hy23,h⟩:=bind_some h
   refine aa.af tied [⟨(.val dh y22),[],[],[],42⟩] [] [] [Fc Tryz.prog gl 308 [] (aj (List.replicate 42 none) []) (.ret (.val dh y22)) (aq 42 [])] (by kernel_rfl) ⟨I8 _ hy23,trivial⟩ ?_
   refine aa.gn tied [] [] [] [0≤(0:Int),(0:Int)<(8:Int),0≤(1:Int),(1:Int)<(8:Int),0≤(2:Int),(2:Int)<(8:Int),0≤(3:Int),(3:Int)<(8:Int),0≤(4:Int),(4:Int)<(8:Int),0≤(5:Int),(5:Int)<(8:Int),0≤(6:Int),(6:Int)<(8:Int),0≤(7:Int),(7:Int)<(8:Int)] (by kernel_rfl) ⟨(by decide),(by decide),(by decide),(by decide),(by decide),(by decide),(by decide),(by decide),(by decide),(by decide),(by decide),(by decide),(by decide),(by decide),(by decide),(by decide),trivial⟩ ?_
   obtain⟨o24,h7,h⟩:=bind_some h
   refine aa.ba (fun σ'=>σ'=ar 191 231 [(2,(.ptr 18 [])),(4,(.ptr 20 [])),(11,(.val (.int .u32) o24.1)),(12,(.val (.int .u32) o24.2.1)),(13,(.val (.int .u32) o24.2.2.1)),(14,(.val (.int .u32) o24.2.2.2.1)),(15,(.val (.int .u32) o24.2.2.2.2.1)),(16,(.val (.int .u32) o24.2.2.2.2.2.1)),(17,(.val (.int .u32) o24.2.2.2.2.2.2.1)),(18,(.val (.int .u32) o24.2.2.2.2.2.2.2))] [(18,some (.var aM (.val aM a0))),(20,some (.var aM (.val aM (Ty.aS aM))))]) ?_ ?_
   ·refine aa.af tied [] [] [] [] (by kernel_rfl) trivial ?_
    refine aa.block ?_
    refine aa.aB (fun n σ=>∃(u3_0:Int)(u3_1:Int)(u3_2:Int)(u3_3:Int)(u3_4:Int)(u3_5:Int)(u3_6:Int)(u3_7:Int)(u3_8:Int),dG a0 o7 y22 n u3_0 u3_1 u3_2 u3_3 u3_4 u3_5 u3_6 u3_7 u3_8=some o24∧σ=ar 191 231 [(2,(.ptr 18 [])),(4,(.ptr 20 [])),(5,(.ptr 21 [])),(10,(.ptr 26 [])),(11,(.val (.int .u32) u3_0)),(12,(.val (.int .u32) u3_1)),(13,(.val (.int .u32) u3_2)),(14,(.val (.int .u32) u3_3)),(15,(.val (.int .u32) u3_4)),(16,(.val (.int .u32) u3_5)),(17,(.val (.int .u32) u3_6)),(18,(.val (.int .u32) u3_7)),(19,(.val (.int .i64) u3_8))] [(18,some (.var aM (.val aM a0))),(20,some (.var aM (.val aM (Ty.aS aM)))),(21,some (.var dh (.val dh o7))),(26,some (.var dh (.val dh y22)))]) [.an [2,4,5,10,11,12,13,14,15,16,17,18,19] [18,20,21,26]] (by kernel_rfl) ⟨_,_,_,_,_,_,_,_,_,h7,rfl⟩ ?_
    rintro n3 _ ⟨u3_0,u3_1,u3_2,u3_3,u3_4,u3_5,u3_6,u3_7,u3_8,h9,rfl⟩
    cases n3 with
    |zero=>exact absurd h9 (by simp[dG])
    |
     succ n3=>
     unfold dG at h9
     refine aa.seq ?_
     refine aa.af tied [] [] [] [] (by kernel_rfl) trivial ?_
     rcases ae h9 with⟨hc38,h9⟩|⟨hc38,h9⟩
     ·refine aa.aE (b:=decide (u3_8<(64:Int))) (by kernel_rfl) hc38 ?_
      refine aa.skip ?_
      change aa _ _ _ _ _
      refine aa.seq ?_
      refine aa.block ?_
      obtain⟨y25,hy26,h9⟩:=bind_some h9
      obtain⟨y27,hy28,h9⟩:=bind_some h9
      obtain⟨y29,hy30,h9⟩:=bind_some h9
      obtain⟨hv31,h9⟩:=ah h9
      refine aa.gn tied [⟨(.val (.int .u32) y25),[],[],[],53⟩,⟨(.val (.int .u32) y27),[],[],[],53⟩,⟨(.val (.int .u32) y29),[],[],[],53⟩] [] [] [Fc Tryz.prog gl 307 [(.val (.int .u32) u3_4),(.val (.int .i64) (6:Int))] (aj (List.replicate 53 none) []) (.ret (.val (.int .u32) y25)) (aq 53 []),Fc Tryz.prog gl 307 [(.val (.int .u32) u3_4),(.val (.int .i64) (11:Int))] (aj (List.replicate 53 none) []) (.ret (.val (.int .u32) y27)) (aq 53 []),Fc Tryz.prog gl 307 [(.val (.int .u32) u3_4),(.val (.int .i64) (25:Int))] (aj (List.replicate 53 none) []) (.ret (.val (.int .u32) y29)) (aq 53 []),0≤u3_8,u3_8<(64:Int),0≤u3_8,u3_8<(64:Int)] (by kernel_rfl) ⟨rC _ _ _ hy26,rC _ _ _ hy28,rC _ _ _ hy30,hv31.1,hv31.2,hv31.1,hv31.2,trivial⟩ ?_
      obtain⟨y32,hy33,h9⟩:=bind_some h9
      obtain⟨y34,hy35,h9⟩:=bind_some h9
      obtain⟨y36,hy37,h9⟩:=bind_some h9
      refine aa.af tied [⟨(.val (.int .u32) y32),[],[],[],53⟩,⟨(.val (.int .u32) y34),[],[],[],53⟩,⟨(.val (.int .u32) y36),[],[],[],53⟩] [] [] [Fc Tryz.prog gl 307 [(.val (.int .u32) u3_0),(.val (.int .i64) (2:Int))] (aj (List.replicate 53 none) []) (.ret (.val (.int .u32) y32)) (aq 53 []),Fc Tryz.prog gl 307 [(.val (.int .u32) u3_0),(.val (.int .i64) (13:Int))] (aj (List.replicate 53 none) []) (.ret (.val (.int .u32) y34)) (aq 53 []),Fc Tryz.prog gl 307 [(.val (.int .u32) u3_0),(.val (.int .i64) (22:Int))] (aj (List.replicate 53 none) []) (.ret (.val (.int .u32) y36)) (aq 53 [])] (by kernel_rfl) ⟨rC _ _ _ hy33,rC _ _ _ hy35,rC _ _ _ hy37,trivial⟩ ?_
      refine aa.br tied [] [] [] [] (by kernel_rfl) trivial ?_
      refine bN ?_
      change aa _ _ _ _ _
      refine aa.br tied [] [] [] [] (by kernel_rfl) trivial ?_
      exact aB.mk [.an [2,4,5,10,11,12,13,14,15,16,17,18,19] [18,20,21,26]] (by kernel_rfl) ⟨_,_,_,_,_,_,_,_,_,h9,rfl⟩
     ·refine aa.aF (b:=decide (u3_8<(64:Int))) (by kernel_rfl) hc38 ?_
      refine aa.exit ?_
      refine tE ?_
      refine lE ?_
      refine bE ?_
      obtain rfl:=Option.some.inj h9
      exact jQ.mk [.an [2,4,11,12,13,14,15,16,17,18] [18,20]] (by kernel_rfl) rfl
   ·rintro _ rfl
    refine aa.af tied [] [] [] [0≤(0:Int),(0:Int)<(8:Int),0≤(1:Int),(1:Int)<(8:Int),0≤(2:Int),(2:Int)<(8:Int),0≤(3:Int),(3:Int)<(8:Int),0≤(4:Int),(4:Int)<(8:Int),0≤(5:Int),(5:Int)<(8:Int),0≤(6:Int),(6:Int)<(8:Int),0≤(7:Int),(7:Int)<(8:Int)] (by kernel_rfl) ⟨(by decide),(by decide),(by decide),(by decide),(by decide),(by decide),(by decide),(by decide),(by decide),(by decide),(by decide),(by decide),(by decide),(by decide),(by decide),(by decide),trivial⟩ ?_
    refine aa.ret ?_
    obtain rfl:=Option.some.inj h
    exact(au [] [some aM] (cq 231 []) (by kernel_rfl)).1
def iy(y1:List Int):Nat→Int→aX→Option aX
 |0,_,_=>none
 |n1+1,u1_0,u1_1=>if(decide (u1_0<(List.length y1:Int)))=true then(if 0≤u1_0∧u1_0≤(aP (u1_0+(64:Int)))∧(aP (u1_0+(64:Int)))≤(List.length y1:Int) then(Option.bind (f281 u1_1 (aW y1 (Int.toNat u1_0) (Int.toNat (aP (u1_0+(64:Int)))))) fun y5=>iy y1 n1 (aP (u1_0+(64:Int))) y5) else none) else(some u1_1)
def fU(o3:aX):Nat→Int→aU→Option aU
 |0,_,_=>none
 |n2+1,u2_0,u2_1=>if(decide (u2_0<(32:Int)))=true then(if 0≤(aP (Int.tdiv u2_0 (4:Int)))∧(aP (Int.tdiv u2_0 (4:Int)))<(8:Int) then(if 0≤(aP ((24:Int) -(aP ((8:Int)*(Int.tmod u2_0 (4:Int)))))) then(if 0≤u2_0∧u2_0<(32:Int) then(fU o3 n2 (aP (u2_0+(1:Int))) (List.set u2_1 (Int.toNat u2_0) (IntKind.u8.wrap (Int.fdiv (nth (.int .u32) o3 (aP (Int.tdiv u2_0 (4:Int)))) (2^(min (Int.toNat (aP ((24:Int) -(aP ((8:Int)*(Int.tmod u2_0 (4:Int))))))) 32)))))) else none) else none) else none) else(some u2_1)
def f219(a0:List Int):Option aU:=
 Option.bind (f280 a0) fun y1=>Option.bind (iy y1 (bX) (0:Int) [(1779033703:Int),(3144134277:Int),(1013904242:Int),(2773480762:Int),(1359893119:Int),(2600822924:Int),(528734635:Int),(1541459225:Int)]) fun(o3:aX)=>Option.bind (fU o3 (bX) (0:Int) (List.replicate 32 (0:Int))) fun(o8:aU)=>some o8
set_option maxRecDepth 100000 in
theorem Ia(a0:List Int)(r:aU)(h:f219 a0=some r):Fc Tryz.prog gl 219 [(.val (.slice 1 (.int .u8)) a0)] (aj (List.replicate 82 none) []) (.ret (.val ao r)) (aq 82 []):=by
 refine Fc.of Tryz.call219 (bz.aD tied Tryz.func219 rfl rfl (σ0:=ar 42 82 [(0,(.val (.slice 1 (.int .u8)) a0))] []) (by kernel_rfl) ?_)
 unfold f219 at h
 refine aa.af tied [] [] [] [] (by kernel_rfl) trivial ?_
 refine aa.af tied [] [] [] [] (by kernel_rfl) trivial ?_
 obtain⟨y1,hy2,h⟩:=bind_some h
 refine aa.af tied [⟨(.val (.slice 1 (.int .u8)) y1),[],[],[],75⟩] [] [] [Fc Tryz.prog gl 280 [(.val (.slice 1 (.int .u8)) a0)] (aj (List.replicate 75 none) []) (.ret (.val (.slice 1 (.int .u8)) y1)) (aq 75 [])] (by kernel_rfl) ⟨I6 _ _ hy2,trivial⟩ ?_
 obtain⟨o3,h1,h⟩:=bind_some h
 refine aa.ba (fun σ'=>σ'=ar 42 82 [(2,(.ptr 18 [])),(3,(.ptr 19 []))] [(18,some (.var ao (.val ao (Ty.aS ao)))),(19,some (.var aM (.val aM o3)))]) ?_ ?_
 ·refine aa.af tied [] [] [] [] (by kernel_rfl) trivial ?_
  refine aa.block ?_
  refine aa.aB (fun n σ=>∃(u1_0:Int)(u1_1:aX),iy y1 n u1_0 u1_1=some o3∧σ=ar 42 82 [(2,(.ptr 18 [])),(3,(.ptr 19 [])),(4,(.val (.slice 1 (.int .u8)) y1)),(5,(.val (.int .i64) u1_0))] [(18,some (.var ao (.val ao (Ty.aS ao)))),(19,some (.var aM (.val aM u1_1)))]) [.an [2,3,4,5] [18,19]] (by kernel_rfl) ⟨_,_,h1,rfl⟩ ?_
  rintro n1 _ ⟨u1_0,u1_1,h3,rfl⟩
  cases n1 with
  |zero=>exact absurd h3 (by simp[iy])
  |
   succ n1=>
   unfold iy at h3
   refine aa.seq ?_
   refine aa.af tied [] [] [] [] (by kernel_rfl) trivial ?_
   rcases ae h3 with⟨hc7,h3⟩|⟨hc7,h3⟩
   ·refine aa.aE (b:=decide (u1_0<(List.length y1:Int))) (by kernel_rfl) hc7 ?_
    refine aa.skip ?_
    change aa _ _ _ _ _
    refine aa.seq ?_
    refine aa.block ?_
    obtain⟨hv4,h3⟩:=ah h3
    obtain⟨y5,hy6,h3⟩:=bind_some h3
    refine aa.gk tied [⟨(.val aM y5),[],[],[],231⟩] [] [] [0≤u1_0,u1_0≤(aP (u1_0+(64:Int))),(aP (u1_0+(64:Int)))≤(List.length y1:Int),Fc Tryz.prog gl 281 [(.val aM u1_1),(.val (.slice 1 (.int .u8)) (aW y1 (Int.toNat u1_0) (Int.toNat (aP (u1_0+(64:Int))))))] (aj (List.replicate 231 none) []) (.ret (.val aM y5)) (aq 231 [])] (by kernel_rfl) ⟨hv4.1,hv4.2.1,hv4.2.2,JQ _ _ _ hy6,trivial⟩ ?_
    refine bN ?_
    change aa _ _ _ _ _
    refine aa.br tied [] [] [] [] (by kernel_rfl) trivial ?_
    exact aB.mk [.an [2,3,4,5] [18,19]] (by kernel_rfl) ⟨_,_,h3,rfl⟩
   ·refine aa.aF (b:=decide (u1_0<(List.length y1:Int))) (by kernel_rfl) hc7 ?_
    refine aa.exit ?_
    refine tE ?_
    refine lE ?_
    refine bE ?_
    obtain rfl:=Option.some.inj h3
    exact jQ.mk [.an [2,3] [18,19]] (by kernel_rfl) rfl
 ·rintro _ rfl
  refine aa.af tied [] [] [] [] (by kernel_rfl) trivial ?_
  obtain⟨o8,h4,h⟩:=bind_some h
  refine aa.ba (fun σ'=>σ'=ar 42 82 [(2,(.ptr 18 [])),(6,(.ptr 22 []))] [(18,some (.var ao (.val ao (Ty.aS ao)))),(22,some (.var ao (.val ao o8)))]) ?_ ?_
  ·refine aa.af tied [] [] [] [] (by kernel_rfl) trivial ?_
   refine aa.block ?_
   refine aa.aB (fun n σ=>∃(u2_0:Int)(u2_1:aU),fU o3 n u2_0 u2_1=some o8∧σ=ar 42 82 [(2,(.ptr 18 [])),(3,(.ptr 19 [])),(6,(.ptr 22 [])),(7,(.val (.int .i64) u2_0))] [(18,some (.var ao (.val ao (Ty.aS ao)))),(19,some (.var aM (.val aM o3))),(22,some (.var ao (.val ao u2_1)))]) [.an [2,3,6,7] [18,19,22]] (by kernel_rfl) ⟨_,_,h4,rfl⟩ ?_
   rintro n2 _ ⟨u2_0,u2_1,h6,rfl⟩
   cases n2 with
   |zero=>exact absurd h6 (by simp[fU])
   |
    succ n2=>
    unfold fU at h6
    refine aa.seq ?_
    refine aa.af tied [] [] [] [] (by kernel_rfl) trivial ?_
    rcases ae h6 with⟨hc12,h6⟩|⟨hc12,h6⟩
    ·refine aa.aE (b:=decide (u2_0<(32:Int))) (by kernel_rfl) hc12 ?_
     refine aa.skip ?_
     change aa _ _ _ _ _
     refine aa.seq ?_
     refine aa.block ?_
     obtain⟨hv9,h6⟩:=ah h6
     obtain⟨hv10,h6⟩:=ah h6
     obtain⟨hv11,h6⟩:=ah h6
     refine aa.br tied [] [] [] [(4:Int)≠0,0≤(aP (Int.tdiv u2_0 (4:Int))),(aP (Int.tdiv u2_0 (4:Int)))<(8:Int),(4:Int)≠0,0≤(aP ((24:Int) -(aP ((8:Int)*(Int.tmod u2_0 (4:Int)))))),0≤u2_0,u2_0<(32:Int)] (by kernel_rfl) ⟨(by decide),hv9.1,hv9.2,(by decide),hv10,hv11.1,hv11.2,trivial⟩ ?_
     refine bN ?_
     change aa _ _ _ _ _
     refine aa.br tied [] [] [] [] (by kernel_rfl) trivial ?_
     exact aB.mk [.an [2,3,6,7] [18,19,22]] (by kernel_rfl) ⟨_,_,h6,rfl⟩
    ·refine aa.aF (b:=decide (u2_0<(32:Int))) (by kernel_rfl) hc12 ?_
     refine aa.exit ?_
     refine tE ?_
     refine lE ?_
     refine bE ?_
     obtain rfl:=Option.some.inj h6
     exact jQ.mk [.an [2,6] [18,22]] (by kernel_rfl) rfl
  ·rintro _ rfl
   refine aa.af tied [] [] [] [] (by kernel_rfl) trivial ?_
   refine aa.ret ?_
   obtain rfl:=Option.some.inj h
   exact(au [] [some ao] (cq 82 []) (by kernel_rfl)).1
end Go.Proofs.YtjabllhapfphoaaGreatDoor
