/- Made by program (dec.py): walks -/
import Derived.Test.YtmpdeifdnbhdiaaGreatDoorBase
namespace Go.Proofs.YtmpdeifdnbhdiaaGreatDoor
open Go.Abs
theorem ui:gr Tryz.prog G 40 3 (.int .i64)=true:=by kernel_rfl
theorem Gm:gr Tryz.prog G 40 23 aC=true:=by kernel_rfl
theorem Gn:Tryz.prog.eqGuardType Tryz.prog.depth 23=false:=by kernel_rfl
def f111(a0:Int)(a1:Int):Option Int:=
 if 0≤(an .and .u64 (IntKind.u64.wrap (a1)) (31:Int)) then(if 0≤(IntKind.u64.wrap ((32:Int) -(an .and .u64 (IntKind.u64.wrap (a1)) (31:Int)))) then(some (an .or .u32 (IntKind.u32.wrap (a0*2^(min (Int.toNat (an .and .u64 (IntKind.u64.wrap (a1)) (31:Int))) 32))) (Int.fdiv a0 (2^(min (Int.toNat (IntKind.u64.wrap ((32:Int) -(an .and .u64 (IntKind.u64.wrap (a1)) (31:Int))))) 32))))) else none) else none
set_option maxRecDepth 100000 in
theorem qD(a0:Int)(a1:Int)(r:Int)(h:f111 a0 a1=some r):Fc Tryz.prog gl 111 [(.val (.int .u32) a0),(.val (.int .i64) a1)] (aq (List.replicate 57 none) []) (.ret (.val (.int .u32) r)) (aN 57 []):=by
 refine Fc.of Tryz.call111 (dq.aU tied Tryz.func111 rfl rfl (σ0:=az 17 57 [(0,(.val (.int .u32) a0)),(1,(.val (.int .i64) a1))] []) (by kernel_rfl) ?_)
 unfold f111 at h
 refine ab.ak tied [] [] [] [] (by kernel_rfl) trivial ?_
 refine ab.ak tied [] [] [] [] (by kernel_rfl) trivial ?_
 obtain⟨hv1,h⟩:=ai h
 obtain⟨hv2,h⟩:=ai h
 refine ab.ak tied [] [] [] [0≤(an .and .u64 (IntKind.u64.wrap (a1)) (31:Int)),0≤(IntKind.u64.wrap ((32:Int) -(an .and .u64 (IntKind.u64.wrap (a1)) (31:Int))))] (by kernel_rfl) ⟨hv1,hv2,trivial⟩ ?_
 refine ab.ret ?_
 obtain rfl:=Option.some.inj h
 exact(aG [] [some (.int .u32)] (fo 57 []) (by kernel_rfl)).1
def bY(a0:Nat)(a1:Nat)(a2:aY)(a3:bS)(u1_0:Int):Nat→Int→ec→Option ec
 |0,_,_=>none
 |n2+1,u2_0,u2_1=>if(decide (u2_0<(4:Int)))=true then(if 0≤u1_0∧u1_0<(64:Int) then(if 0≤(ao ((ao ((4:Int)*u1_0))+u2_0))∧(ao ((ao ((4:Int)*u1_0))+u2_0))<(a1:Int) then(bY a0 a1 a2 a3 u1_0 n2 (ao (u2_0+(1:Int))) (List.set u2_1 (Int.toNat u1_0) (an .or .u32 (IntKind.u32.wrap ((nth (.int .u32) u2_1 u1_0)*2^(min (Int.toNat (8:Int)) 32))) (IntKind.u32.wrap (List.getD a3 (a0+Int.toNat (ao ((ao ((4:Int)*u1_0))+u2_0))) (Ty.bu (.int .u8))))))) else none) else none) else(some u2_1)
def cH(a0:Nat)(a1:Nat)(a2:aY)(a3:bS):Nat→Int→ec→Option ec
 |0,_,_=>none
 |n1+1,u1_0,u1_1=>if(decide (u1_0<(16:Int)))=true then(Option.bind (Option.bind (bY a0 a1 a2 a3 u1_0 (Int.toNat (4:Int)+1) (0:Int) u1_1) fun(o3:ec)=>some o3) fun(o2:ec)=>cH a0 a1 a2 a3 n1 (ao (u1_0+(1:Int))) o2) else(some u1_1)
def cI(a2:aY)(a3:bS):Nat→Int→ec→Option ec
 |0,_,_=>none
 |n3+1,u3_0,u3_1=>if(decide (u3_0<(64:Int)))=true then(if 0≤(ao (u3_0 -(15:Int)))∧(ao (u3_0 -(15:Int)))<(64:Int) then(if 0≤(ao (u3_0 -(2:Int)))∧(ao (u3_0 -(2:Int)))<(64:Int) then(Option.bind (f111 (nth (.int .u32) u3_1 (ao (u3_0 -(15:Int)))) (-7:Int)) fun y11=>Option.bind (f111 (nth (.int .u32) u3_1 (ao (u3_0 -(15:Int)))) (-18:Int)) fun y13=>Option.bind (f111 (nth (.int .u32) u3_1 (ao (u3_0 -(2:Int)))) (-17:Int)) fun y15=>Option.bind (f111 (nth (.int .u32) u3_1 (ao (u3_0 -(2:Int)))) (-19:Int)) fun y17=>if 0≤(ao (u3_0 -(16:Int)))∧(ao (u3_0 -(16:Int)))<(64:Int) then(if 0≤(ao (u3_0 -(7:Int)))∧(ao (u3_0 -(7:Int)))<(64:Int) then(if 0≤u3_0∧u3_0<(64:Int) then(cI a2 a3 n3 (ao (u3_0+(1:Int))) (List.set u3_1 (Int.toNat u3_0) (IntKind.u32.wrap ((IntKind.u32.wrap ((IntKind.u32.wrap ((nth (.int .u32) u3_1 (ao (u3_0 -(16:Int))))+(an .xor .u32 (an .xor .u32 y11 y13) (Int.fdiv (nth (.int .u32) u3_1 (ao (u3_0 -(15:Int)))) (2^(min (Int.toNat (3:Int)) 32))))))+(nth (.int .u32) u3_1 (ao (u3_0 -(7:Int))))))+(an .xor .u32 (an .xor .u32 y15 y17) (Int.fdiv (nth (.int .u32) u3_1 (ao (u3_0 -(2:Int)))) (2^(min (Int.toNat (10:Int)) 32)))))))) else none) else none) else none) else none) else none) else(some u3_1)
def cJ(a2:aY)(a3:bS)(o8:ec):Nat→Int→aY→Option aY
 |0,_,_=>none
 |n4+1,u4_0,u4_1=>if(decide (u4_0<(64:Int)))=true then(Option.bind (f111 (nth (.int .u32) u4_1 (4:Int)) (-6:Int)) fun y24=>Option.bind (f111 (nth (.int .u32) u4_1 (4:Int)) (-11:Int)) fun y26=>Option.bind (f111 (nth (.int .u32) u4_1 (4:Int)) (-25:Int)) fun y28=>if 0≤u4_0∧u4_0<(64:Int) then(Option.bind (f111 (nth (.int .u32) u4_1 (0:Int)) (-2:Int)) fun y31=>Option.bind (f111 (nth (.int .u32) u4_1 (0:Int)) (-13:Int)) fun y33=>Option.bind (f111 (nth (.int .u32) u4_1 (0:Int)) (-22:Int)) fun y35=>cJ a2 a3 o8 n4 (ao (u4_0+(1:Int))) [IntKind.u32.wrap ((IntKind.u32.wrap ((IntKind.u32.wrap ((IntKind.u32.wrap ((IntKind.u32.wrap ((nth (.int .u32) u4_1 (7:Int))+(an .xor .u32 (an .xor .u32 y24 y26) y28)))+(an .xor .u32 (an .and .u32 (nth (.int .u32) u4_1 (4:Int)) (nth (.int .u32) u4_1 (5:Int))) (an .and .u32 (an .xor .u32 IntKind.u32.max (nth (.int .u32) u4_1 (4:Int))) (nth (.int .u32) u4_1 (6:Int))))))+(nth (.int .u32) gF u4_0)))+(nth (.int .u32) o8 u4_0)))+(IntKind.u32.wrap ((an .xor .u32 (an .xor .u32 y31 y33) y35)+(an .xor .u32 (an .xor .u32 (an .and .u32 (nth (.int .u32) u4_1 (0:Int)) (nth (.int .u32) u4_1 (1:Int))) (an .and .u32 (nth (.int .u32) u4_1 (0:Int)) (nth (.int .u32) u4_1 (2:Int)))) (an .and .u32 (nth (.int .u32) u4_1 (1:Int)) (nth (.int .u32) u4_1 (2:Int))))))),nth (.int .u32) u4_1 (0:Int),nth (.int .u32) u4_1 (1:Int),nth (.int .u32) u4_1 (2:Int),IntKind.u32.wrap ((nth (.int .u32) u4_1 (3:Int))+(IntKind.u32.wrap ((IntKind.u32.wrap ((IntKind.u32.wrap ((IntKind.u32.wrap ((nth (.int .u32) u4_1 (7:Int))+(an .xor .u32 (an .xor .u32 y24 y26) y28)))+(an .xor .u32 (an .and .u32 (nth (.int .u32) u4_1 (4:Int)) (nth (.int .u32) u4_1 (5:Int))) (an .and .u32 (an .xor .u32 IntKind.u32.max (nth (.int .u32) u4_1 (4:Int))) (nth (.int .u32) u4_1 (6:Int))))))+(nth (.int .u32) gF u4_0)))+(nth (.int .u32) o8 u4_0)))),nth (.int .u32) u4_1 (4:Int),nth (.int .u32) u4_1 (5:Int),nth (.int .u32) u4_1 (6:Int)]) else none) else(some u4_1)
def c7(a3:bS)(o23:aY):Nat→Int→aY→Option aY
 |0,_,_=>none
 |n5+1,u5_0,u5_1=>if(decide (u5_0<(8:Int)))=true then(if 0≤u5_0∧u5_0<(8:Int) then(c7 a3 o23 n5 (ao (u5_0+(1:Int))) (List.set u5_1 (Int.toNat u5_0) (IntKind.u32.wrap ((nth (.int .u32) u5_1 u5_0)+(nth (.int .u32) o23 u5_0))))) else none) else(some u5_1)
def im(a0:Nat)(a1:Nat)(a2:aY)(a3:bS):Option (aY×bS):=
 Option.bind (cH a0 a1 a2 a3 (Int.toNat (16:Int)+1) (0:Int) (Ty.bu gv)) fun(o1:ec)=>Option.bind (cI a2 a3 (cS) (16:Int) o1) fun(o8:ec)=>Option.bind (cJ a2 a3 o8 (Int.toNat (64:Int)+1) (0:Int) a2) fun(o23:aY)=>Option.bind (c7 a3 o23 (Int.toNat (8:Int)+1) (0:Int) a2) fun(o38:aY)=>some (o38,a3)
set_option maxRecDepth 100000 in
theorem wB(
 a0:Nat) (a1:Nat) (a2:aY) (a3:bS) (r:aY×bS) (h:im a0 a1 a2 a3=some r):Fc Tryz.prog gl 67 [(.ptr 0 []),(.iT 1 [] a0 a1)] (aq (List.replicate 227 none) [(0,some (.var aT (.val aT a2))),(1,some (.var bq (.val bq a3)))]) (.ret (.bJ .nil)) (aN 227 [(0,(.var aT (.val aT r.1))),(1,(.var bq (.val bq r.2)))]):=by
 refine Fc.of Tryz.call67 (dq.aU tied Tryz.func67 rfl rfl (σ0:=az 187 227 [(0,(.ptr 0 [])),(1,(.iT 1 [] a0 a1))] [(0,some (.var aT (.val aT a2))),(1,some (.var bq (.val bq a3)))]) (by kernel_rfl) ?_)
 unfold im at h
 refine ab.ak tied [] [] [] [] (by kernel_rfl) trivial ?_
 obtain⟨o1,h1,h⟩:=bind_some h
 refine ab.bV (fun σ'=>σ'=az 187 227 [(0,(.ptr 0 [])),(4,(.ptr 20 []))] [(0,some (.var aT (.val aT a2))),(1,some (.var bq (.val bq a3))),(20,some (.var gv (.val gv o1)))]) ?_ ?_
 ·refine ab.ak tied [] [] [] [] (by kernel_rfl) trivial ?_
  refine ab.block ?_
  refine ab.aM (fun n σ=>∃(u1_0:Int)(u1_1:ec),cH a0 a1 a2 a3 n u1_0 u1_1=some o1∧σ=az 187 227 [(0,(.ptr 0 [])),(1,(.iT 1 [] a0 a1)),(4,(.ptr 20 [])),(23,(.val (.int .i64) u1_0))] [(0,some (.var aT (.val aT a2))),(1,some (.var bq (.val bq a3))),(20,some (.var gv (.val gv u1_1)))]) [.ar [0,1,4,23] [0,1,20]] (by kernel_rfl) ⟨_,_,h1,rfl⟩ ?_
  rintro n1 _ ⟨u1_0,u1_1,h10,rfl⟩
  cases n1 with
  |zero=>exact absurd h10 (by simp[cH])
  |
   succ n1=>
   unfold cH at h10
   refine ab.ak tied [] [] [] [] (by kernel_rfl) trivial ?_
   refine ab.seq ?_
   rcases aj h10 with⟨hc7,h10⟩|⟨hc7,h10⟩
   ·refine ab.aI (b:=decide (u1_0<(16:Int))) (by kernel_rfl) hc7 ?_
    refine ab.skip ?_
    change ab _ _ _ _ _
    obtain⟨o2,h11,h10⟩:=bind_some h10
    refine ab.bV (fun σ'=>σ'=az 187 227 [(0,(.ptr 0 [])),(1,(.iT 1 [] a0 a1)),(4,(.ptr 20 [])),(23,(.val (.int .i64) u1_0))] [(0,some (.var aT (.val aT a2))),(1,some (.var bq (.val bq a3))),(20,some (.var gv (.val gv o2)))]) ?_ ?_
    ·refine ab.block ?_
     refine ab.ak tied [] [] [] [] (by kernel_rfl) trivial ?_
     refine ab.ak tied [] [] [] [] (by kernel_rfl) trivial ?_
     obtain⟨o3,h15,h11⟩:=bind_some h11
     refine ab.kM (fun σ'=>σ'=az 187 227 [(0,(.ptr 0 [])),(1,(.iT 1 [] a0 a1)),(4,(.ptr 20 [])),(23,(.val (.int .i64) u1_0))] [(0,some (.var aT (.val aT a2))),(1,some (.var bq (.val bq a3))),(20,some (.var gv (.val gv o3)))]) (Cl.bp (Cl.j (Cl.loop (Cl.bp (Cl.j Cl.f))))) ?_ ?_
     ·refine ab.block ?_
      refine ab.aM (fun n σ=>∃(u2_0:Int)(u2_1:ec),bY a0 a1 a2 a3 u1_0 n u2_0 u2_1=some o3∧σ=az 187 227 [(0,(.ptr 0 [])),(1,(.iT 1 [] a0 a1)),(4,(.ptr 20 [])),(5,(.val (.int .i64) u1_0)),(23,(.val (.int .i64) u1_0)),(26,(.val (.int .i64) u2_0))] [(0,some (.var aT (.val aT a2))),(1,some (.var bq (.val bq a3))),(20,some (.var gv (.val gv u2_1)))]) [.ar [0,1,4,5,23,26] [0,1,20]] (by kernel_rfl) ⟨_,_,h15,rfl⟩ ?_
      rintro n2 _ ⟨u2_0,u2_1,h17,rfl⟩
      cases n2 with
      |zero=>exact absurd h17 (by simp[bY])
      |
       succ n2=>
       unfold bY at h17
       refine ab.ak tied [] [] [] [] (by kernel_rfl) trivial ?_
       refine ab.seq ?_
       rcases aj h17 with⟨hc6,h17⟩|⟨hc6,h17⟩
       ·refine ab.aI (b:=decide (u2_0<(4:Int))) (by kernel_rfl) hc6 ?_
        refine ab.skip ?_
        change ab _ _ _ _ _
        refine ab.seq ?_
        refine ab.block ?_
        refine ab.ak tied [] [] [] [] (by kernel_rfl) trivial ?_
        obtain⟨hv4,h17⟩:=ai h17
        obtain⟨hv5,h17⟩:=ai h17
        refine ab.fT tied [] [] [] [0≤u1_0,u1_0<(64:Int),0≤(8:Int),0≤(ao ((ao ((4:Int)*u1_0))+u2_0)),(ao ((ao ((4:Int)*u1_0))+u2_0))<(a1:Int),0≤u1_0,u1_0<(64:Int)] (by kernel_rfl) ⟨hv4.1,hv4.2,(by decide),hv5.1,hv5.2,hv4.1,hv4.2,trivial⟩ ?_
        refine bN ?_
        change ab _ _ _ _ _
        refine ab.eI tied [] [] [] [] (by kernel_rfl) trivial ?_
        exact aM.mk [.ar [0,1,4,5,23,26] [0,1,20]] (by kernel_rfl) ⟨_,_,h17,rfl⟩
       ·refine ab.aH (b:=decide (u2_0<(4:Int))) (by kernel_rfl) hc6 ?_
        refine ab.exit ?_
        refine tE ?_
        refine lE ?_
        refine bE ?_
        obtain rfl:=Option.some.inj h17
        exact jQ.mk [.ar [0,1,4,23] [0,1,20]] (by kernel_rfl) rfl
     ·rintro _ rfl
      refine bN ?_
      obtain rfl:=Option.some.inj h11
      exact jQ.mk [.ar [0,1,4,23] [0,1,20]] (by kernel_rfl) rfl
    ·rintro _ rfl
     refine ab.eI tied [] [] [] [] (by kernel_rfl) trivial ?_
     exact aM.mk [.ar [0,1,4,23] [0,1,20]] (by kernel_rfl) ⟨_,_,h10,rfl⟩
   ·refine ab.aH (b:=decide (u1_0<(16:Int))) (by kernel_rfl) hc7 ?_
    refine ab.exit ?_
    refine tE ?_
    refine lE ?_
    refine bE ?_
    obtain rfl:=Option.some.inj h10
    exact jQ.mk [.ar [0,4] [0,1,20]] (by kernel_rfl) rfl
 ·rintro _ rfl
  obtain⟨o8,h18,h⟩:=bind_some h
  refine ab.bV (fun σ'=>σ'=az 187 227 [(0,(.ptr 0 [])),(4,(.ptr 20 []))] [(0,some (.var aT (.val aT a2))),(1,some (.var bq (.val bq a3))),(20,some (.var gv (.val gv o8)))]) ?_ ?_
  ·refine ab.ak tied [] [] [] [] (by kernel_rfl) trivial ?_
   refine ab.block ?_
   refine ab.aM (fun n σ=>∃(u3_0:Int)(u3_1:ec),cI a2 a3 n u3_0 u3_1=some o8∧σ=az 187 227 [(0,(.ptr 0 [])),(4,(.ptr 20 [])),(7,(.val (.int .i64) u3_0))] [(0,some (.var aT (.val aT a2))),(1,some (.var bq (.val bq a3))),(20,some (.var gv (.val gv u3_1)))]) [.ar [0,4,7] [0,1,20]] (by kernel_rfl) ⟨_,_,h18,rfl⟩ ?_
   rintro n3 _ ⟨u3_0,u3_1,h20,rfl⟩
   cases n3 with
   |zero=>exact absurd h20 (by simp[cI])
   |
    succ n3=>
    unfold cI at h20
    refine ab.seq ?_
    refine ab.ak tied [] [] [] [] (by kernel_rfl) trivial ?_
    rcases aj h20 with⟨hc22,h20⟩|⟨hc22,h20⟩
    ·refine ab.aI (b:=decide (u3_0<(64:Int))) (by kernel_rfl) hc22 ?_
     refine ab.skip ?_
     change ab _ _ _ _ _
     refine ab.seq ?_
     refine ab.block ?_
     obtain⟨hv9,h20⟩:=ai h20
     obtain⟨hv10,h20⟩:=ai h20
     refine ab.dL tied [] [] [] [0≤(ao (u3_0 -(15:Int))),(ao (u3_0 -(15:Int)))<(64:Int),0≤(ao (u3_0 -(2:Int))),(ao (u3_0 -(2:Int)))<(64:Int)] (by kernel_rfl) ⟨hv9.1,hv9.2,hv10.1,hv10.2,trivial⟩ ?_
     obtain⟨y11,hy12,h20⟩:=bind_some h20
     obtain⟨y13,hy14,h20⟩:=bind_some h20
     refine ab.ak tied [⟨(.val (.int .u32) y11),[],[],[],57⟩,⟨(.val (.int .u32) y13),[],[],[],57⟩] [] [] [Fc Tryz.prog gl 111 [(.val (.int .u32) (nth (.int .u32) u3_1 (ao (u3_0 -(15:Int))))),(.val (.int .i64) (-7:Int))] (aq (List.replicate 57 none) []) (.ret (.val (.int .u32) y11)) (aN 57 []),Fc Tryz.prog gl 111 [(.val (.int .u32) (nth (.int .u32) u3_1 (ao (u3_0 -(15:Int))))),(.val (.int .i64) (-18:Int))] (aq (List.replicate 57 none) []) (.ret (.val (.int .u32) y13)) (aN 57 []),0≤(3:Int)] (by kernel_rfl) ⟨qD _ _ _ hy12,qD _ _ _ hy14,(by decide),trivial⟩ ?_
     obtain⟨y15,hy16,h20⟩:=bind_some h20
     obtain⟨y17,hy18,h20⟩:=bind_some h20
     refine ab.ak tied [⟨(.val (.int .u32) y15),[],[],[],57⟩,⟨(.val (.int .u32) y17),[],[],[],57⟩] [] [] [Fc Tryz.prog gl 111 [(.val (.int .u32) (nth (.int .u32) u3_1 (ao (u3_0 -(2:Int))))),(.val (.int .i64) (-17:Int))] (aq (List.replicate 57 none) []) (.ret (.val (.int .u32) y15)) (aN 57 []),Fc Tryz.prog gl 111 [(.val (.int .u32) (nth (.int .u32) u3_1 (ao (u3_0 -(2:Int))))),(.val (.int .i64) (-19:Int))] (aq (List.replicate 57 none) []) (.ret (.val (.int .u32) y17)) (aN 57 []),0≤(10:Int)] (by kernel_rfl) ⟨qD _ _ _ hy16,qD _ _ _ hy18,(by decide),trivial⟩ ?_
     obtain⟨hv19,h20⟩:=ai h20
     obtain⟨hv20,h20⟩:=ai h20
     obtain⟨hv21,h20⟩:=ai h20
     refine ab.fT tied [] [] [] [0≤(ao (u3_0 -(16:Int))),(ao (u3_0 -(16:Int)))<(64:Int),0≤(ao (u3_0 -(7:Int))),(ao (u3_0 -(7:Int)))<(64:Int),0≤u3_0,u3_0<(64:Int)] (by kernel_rfl) ⟨hv19.1,hv19.2,hv20.1,hv20.2,hv21.1,hv21.2,trivial⟩ ?_
     refine bN ?_
     change ab _ _ _ _ _
     refine ab.eI tied [] [] [] [] (by kernel_rfl) trivial ?_
     exact aM.mk [.ar [0,4,7] [0,1,20]] (by kernel_rfl) ⟨_,_,h20,rfl⟩
    ·refine ab.aH (b:=decide (u3_0<(64:Int))) (by kernel_rfl) hc22 ?_
     refine ab.exit ?_
     refine tE ?_
     refine lE ?_
     refine bE ?_
     obtain rfl:=Option.some.inj h20
     exact jQ.mk [.ar [0,4] [0,1,20]] (by kernel_rfl) rfl
  ·rintro _ rfl
   refine ab.ak tied [] [] [] [] (by kernel_rfl) trivial ?_
   obtain⟨o23,h21,h⟩:=bind_some h
   refine ab.bV (fun σ'=>σ'=az 187 227 [(0,(.ptr 0 [])),(12,(.ptr 28 []))] [(0,some (.var aT (.val aT a2))),(1,some (.var bq (.val bq a3))),(28,some (.var aT (.val aT o23)))]) ?_ ?_
   ·refine ab.ak tied [] [] [] [] (by kernel_rfl) trivial ?_
    refine ab.block ?_
    refine ab.aM (fun n σ=>∃(u4_0:Int)(u4_1:aY),cJ a2 a3 o8 n u4_0 u4_1=some o23∧σ=az 187 227 [(0,(.ptr 0 [])),(4,(.ptr 20 [])),(12,(.ptr 28 [])),(92,(.val (.int .i64) u4_0))] [(0,some (.var aT (.val aT a2))),(1,some (.var bq (.val bq a3))),(20,some (.var gv (.val gv o8))),(28,some (.var aT (.val aT u4_1)))]) [.ar [0,4,12,92] [0,1,20,28]] (by kernel_rfl) ⟨_,_,h21,rfl⟩ ?_
    rintro n4 _ ⟨u4_0,u4_1,h23,rfl⟩
    cases n4 with
    |zero=>exact absurd h23 (by simp[cJ])
    |
     succ n4=>
     unfold cJ at h23
     refine ab.ak tied [] [] [] [] (by kernel_rfl) trivial ?_
     refine ab.seq ?_
     rcases aj h23 with⟨hc37,h23⟩|⟨hc37,h23⟩
     ·refine ab.aI (b:=decide (u4_0<(64:Int))) (by kernel_rfl) hc37 ?_
      refine ab.skip ?_
      change ab _ _ _ _ _
      refine ab.seq ?_
      refine ab.block ?_
      refine ab.ak tied [] [] [] [] (by kernel_rfl) trivial ?_
      refine ab.dL tied [] [] [] [0≤(0:Int),(0:Int)<(8:Int),0≤(1:Int),(1:Int)<(8:Int),0≤(2:Int),(2:Int)<(8:Int),0≤(4:Int),(4:Int)<(8:Int)] (by kernel_rfl) ⟨(by decide),(by decide),(by decide),(by decide),(by decide),(by decide),(by decide),(by decide),trivial⟩ ?_
      obtain⟨y24,hy25,h23⟩:=bind_some h23
      obtain⟨y26,hy27,h23⟩:=bind_some h23
      obtain⟨y28,hy29,h23⟩:=bind_some h23
      refine ab.ak tied [⟨(.val (.int .u32) y24),[],[],[],57⟩,⟨(.val (.int .u32) y26),[],[],[],57⟩,⟨(.val (.int .u32) y28),[],[],[],57⟩] [] [] [Fc Tryz.prog gl 111 [(.val (.int .u32) (nth (.int .u32) u4_1 (4:Int))),(.val (.int .i64) (-6:Int))] (aq (List.replicate 57 none) []) (.ret (.val (.int .u32) y24)) (aN 57 []),Fc Tryz.prog gl 111 [(.val (.int .u32) (nth (.int .u32) u4_1 (4:Int))),(.val (.int .i64) (-11:Int))] (aq (List.replicate 57 none) []) (.ret (.val (.int .u32) y26)) (aN 57 []),Fc Tryz.prog gl 111 [(.val (.int .u32) (nth (.int .u32) u4_1 (4:Int))),(.val (.int .i64) (-25:Int))] (aq (List.replicate 57 none) []) (.ret (.val (.int .u32) y28)) (aN 57 [])] (by kernel_rfl) ⟨qD _ _ _ hy25,qD _ _ _ hy27,qD _ _ _ hy29,trivial⟩ ?_
      obtain⟨hv30,h23⟩:=ai h23
      refine ab.dL tied [] [] [] [0≤(7:Int),(7:Int)<(8:Int),0≤(5:Int),(5:Int)<(8:Int),0≤(6:Int),(6:Int)<(8:Int),0≤u4_0,u4_0<(64:Int),0≤u4_0,u4_0<(64:Int)] (by kernel_rfl) ⟨(by decide),(by decide),(by decide),(by decide),(by decide),(by decide),hv30.1,hv30.2,hv30.1,hv30.2,trivial⟩ ?_
      obtain⟨y31,hy32,h23⟩:=bind_some h23
      obtain⟨y33,hy34,h23⟩:=bind_some h23
      obtain⟨y35,hy36,h23⟩:=bind_some h23
      refine ab.ak tied [⟨(.val (.int .u32) y31),[],[],[],57⟩,⟨(.val (.int .u32) y33),[],[],[],57⟩,⟨(.val (.int .u32) y35),[],[],[],57⟩] [] [] [Fc Tryz.prog gl 111 [(.val (.int .u32) (nth (.int .u32) u4_1 (0:Int))),(.val (.int .i64) (-2:Int))] (aq (List.replicate 57 none) []) (.ret (.val (.int .u32) y31)) (aN 57 []),Fc Tryz.prog gl 111 [(.val (.int .u32) (nth (.int .u32) u4_1 (0:Int))),(.val (.int .i64) (-13:Int))] (aq (List.replicate 57 none) []) (.ret (.val (.int .u32) y33)) (aN 57 []),Fc Tryz.prog gl 111 [(.val (.int .u32) (nth (.int .u32) u4_1 (0:Int))),(.val (.int .i64) (-22:Int))] (aq (List.replicate 57 none) []) (.ret (.val (.int .u32) y35)) (aN 57 [])] (by kernel_rfl) ⟨qD _ _ _ hy32,qD _ _ _ hy34,qD _ _ _ hy36,trivial⟩ ?_
      refine ab.ak tied [] [] [] [] (by kernel_rfl) trivial ?_
      refine ab.eI tied [] [] [] [0≤(3:Int),(3:Int)<(8:Int),0≤(5:Int),(5:Int)<(8:Int),0≤(6:Int),(6:Int)<(8:Int)] (by kernel_rfl) ⟨(by decide),(by decide),(by decide),(by decide),(by decide),(by decide),trivial⟩ ?_
      refine bN ?_
      change ab _ _ _ _ _
      refine ab.eI tied [] [] [] [] (by kernel_rfl) trivial ?_
      exact aM.mk [.ar [0,4,12,92] [0,1,20,28]] (by kernel_rfl) ⟨_,_,h23,rfl⟩
     ·refine ab.aH (b:=decide (u4_0<(64:Int))) (by kernel_rfl) hc37 ?_
      refine ab.exit ?_
      refine tE ?_
      refine lE ?_
      refine bE ?_
      obtain rfl:=Option.some.inj h23
      exact jQ.mk [.ar [0,12] [0,1,28]] (by kernel_rfl) rfl
   ·rintro _ rfl
    refine ab.ak tied [] [] [] [] (by kernel_rfl) trivial ?_
    obtain⟨o38,h24,h⟩:=bind_some h
    refine ab.kM (fun σ'=>σ'=az 187 227 [] [(0,some (.var aT (.val aT o38))),(1,some (.var bq (.val bq a3)))]) Cl.f ?_ ?_
    ·refine ab.block ?_
     refine ab.aM (fun n σ=>∃(u5_0:Int)(u5_1:aY),c7 a3 o23 n u5_0 u5_1=some o38∧σ=az 187 227 [(0,(.ptr 0 [])),(12,(.ptr 28 [])),(172,(.val (.int .i64) u5_0))] [(0,some (.var aT (.val aT u5_1))),(1,some (.var bq (.val bq a3))),(28,some (.var aT (.val aT o23)))]) [.ar [0,12,172] [0,1,28]] (by kernel_rfl) ⟨_,_,h24,rfl⟩ ?_
     rintro n5 _ ⟨u5_0,u5_1,h26,rfl⟩
     cases n5 with
     |zero=>exact absurd h26 (by simp[c7])
     |
      succ n5=>
      unfold c7 at h26
      refine ab.ak tied [] [] [] [] (by kernel_rfl) trivial ?_
      refine ab.seq ?_
      rcases aj h26 with⟨hc40,h26⟩|⟨hc40,h26⟩
      ·refine ab.aI (b:=decide (u5_0<(8:Int))) (by kernel_rfl) hc40 ?_
       refine ab.skip ?_
       change ab _ _ _ _ _
       refine ab.seq ?_
       refine ab.block ?_
       refine ab.ak tied [] [] [] [] (by kernel_rfl) trivial ?_
       obtain⟨hv39,h26⟩:=ai h26
       refine ab.fT tied [] [] [] [0≤u5_0,u5_0<(8:Int),0≤u5_0,u5_0<(8:Int),0≤u5_0,u5_0<(8:Int)] (by kernel_rfl) ⟨hv39.1,hv39.2,hv39.1,hv39.2,hv39.1,hv39.2,trivial⟩ ?_
       refine bN ?_
       change ab _ _ _ _ _
       refine ab.eI tied [] [] [] [] (by kernel_rfl) trivial ?_
       exact aM.mk [.ar [0,12,172] [0,1,28]] (by kernel_rfl) ⟨_,_,h26,rfl⟩
      ·refine ab.aH (b:=decide (u5_0<(8:Int))) (by kernel_rfl) hc40 ?_
       refine ab.exit ?_
       refine tE ?_
       refine lE ?_
       refine bE ?_
       obtain rfl:=Option.some.inj h26
       exact jQ.mk [.ar [] [0,1]] (by kernel_rfl) rfl
    ·rintro _ rfl
     obtain rfl:=Option.some.inj h
     exact(aG [.ar [] [0,1]] [] (fo 227 [0,1]) (by kernel_rfl)).2
def cK(a0:List (List Int))(u1_1:Int)(u1_2:Int):Nat→Int→(List Int)→aY→bS→Option (Int×aY×bS)
 |0,_,_,_,_=>none
 |n2+1,u2_0,u2_1,u2_2,u2_3=>if(decide ((0:Int)<(List.length u2_1:Int)))=true then(if 0≤u2_0∧u2_0≤((64:Nat):Int) then(if 0≤((min (List.length u2_1) (64 -(Int.toNat u2_0)):Nat):Int)∧((min (List.length u2_1) (64 -(Int.toNat u2_0)):Nat):Int)≤(List.length u2_1:Int) then(if(decide ((ao (u2_0+((min (List.length u2_1) (64 -(Int.toNat u2_0)):Nat):Int)))=(64:Int)))=true then(Option.bind (im 0 (64 -0) u2_2 (iw u2_3 (List.take (min (List.length u2_1) (64 -(Int.toNat u2_0))) u2_1) (Int.toNat u2_0))) fun y7=>cK a0 u1_1 u1_2 n2 (0:Int) (ba u2_1 (Int.toNat ((min (List.length u2_1) (64 -(Int.toNat u2_0)):Nat):Int)) (List.length u2_1)) y7.1 y7.2) else(cK a0 u1_1 u1_2 n2 (ao (u2_0+((min (List.length u2_1) (64 -(Int.toNat u2_0)):Nat):Int))) (ba u2_1 (Int.toNat ((min (List.length u2_1) (64 -(Int.toNat u2_0)):Nat):Int)) (List.length u2_1)) u2_2 (iw u2_3 (List.take (min (List.length u2_1) (64 -(Int.toNat u2_0))) u2_1) (Int.toNat u2_0)))) else none) else none) else(some (u2_0,u2_2,u2_3))
def cp(a0:List (List Int)):Nat→Int→Int→Int→aY→bS→Option (Int×Int×aY×bS)
 |0,_,_,_,_,_=>none
 |n1+1,u1_0,u1_1,u1_2,u1_3,u1_4=>if(decide (u1_2<(List.length a0:Int)))=true then(Option.bind (if 0≤u1_2∧u1_2<(List.length a0:Int) then(Option.bind (cK a0 u1_1 u1_2 (cS) u1_0 (nth (.slice 1 (.int .u8)) a0 u1_2) u1_3 u1_4) fun(o4:Int×aY×bS)=>some (o4.1,o4.2.1,o4.2.2)) else none) fun(o2:Int×aY×bS)=>cp a0 n1 o2.1 (IntKind.u64.wrap (u1_1+(IntKind.u64.wrap ((List.length (nth (.slice 1 (.int .u8)) a0 u1_2):Int))))) (ao (u1_2+(1:Int))) o2.2.1 o2.2.2) else(some (u1_0,u1_1,u1_3,u1_4))
def bZ(o1:Int×Int×aY×bS)(o14:aY×bS):Nat→Int→bS→Option bS
 |0,_,_=>none
 |n3+1,u3_0,u3_1=>if(decide (u3_0<(8:Int)))=true then(if 0≤(ao ((8:Int)*u3_0)) then(if 0≤(ao ((63:Int) -u3_0))∧(ao ((63:Int) -u3_0))<(64:Int) then(bZ o1 o14 n3 (ao (u3_0+(1:Int))) (List.set u3_1 (Int.toNat (ao ((63:Int) -u3_0))) (IntKind.u8.wrap (Int.fdiv (IntKind.u64.wrap (o1.2.1*(8:Int))) (2^(min (Int.toNat (ao ((8:Int)*u3_0))) 64)))))) else none) else none) else(some u3_1)
def kX(a0:List (List Int))(a1:aY):Option aY:=
 Option.bind (cp a0 (List.length a0+1) (0:Int) (0:Int) (0:Int) a1 (Ty.bu bq)) fun(o1:Int×Int×aY×bS)=>if 0≤o1.1∧o1.1<(64:Int) then(if 0≤(ao (o1.1+(1:Int)))∧(ao (o1.1+(1:Int)))≤((64:Nat):Int) then(Option.bind (if(decide ((56:Int)<(ao (o1.1+(1:Int)))))=true then(Option.bind (im 0 (64 -0) o1.2.2.1 (iw (List.set o1.2.2.2 (Int.toNat o1.1) (128:Int)) (List.replicate (64 -(Int.toNat (ao (o1.1+(1:Int))))) (0:Int)) (Int.toNat (ao (o1.1+(1:Int)))))) fun y15=>some (y15.1,iw y15.2 (List.replicate (64 -0) (0:Int)) 0)) else(some (o1.2.2.1,iw (List.set o1.2.2.2 (Int.toNat o1.1) (128:Int)) (List.replicate (64 -(Int.toNat (ao (o1.1+(1:Int))))) (0:Int)) (Int.toNat (ao (o1.1+(1:Int))))))) fun(o14:aY×bS)=>Option.bind (bZ o1 o14 (Int.toNat (8:Int)+1) (0:Int) o14.2) fun(o18:bS)=>Option.bind (im 0 (64 -0) o14.1 o18) fun y22=>some y22.1) else none) else none
set_option maxRecDepth 100000 in
theorem EF(
 a0:List (List Int)) (a1:aY) (r:aY) (h:kX a0 a1=some r):Fc Tryz.prog gl 66 [(.func (.func 67) (.cons (.ptr 0 []) .nil) .nil),(.val (.slice 24 (.slice 1 (.int .u8))) a0)] (aq (List.replicate 109 none) [(0,some (.var aT (.val aT a1)))]) (.ret (.bJ .nil)) (aN 109 [(0,(.var aT (.val aT r)))]):=by
 refine Fc.of Tryz.call66 (dq.aU tied Tryz.func66 rfl rfl (σ0:=az 69 109 [(0,(.func (.func 67) (.cons (.ptr 0 []) .nil) .nil)),(1,(.val (.slice 24 (.slice 1 (.int .u8))) a0))] [(0,some (.var aT (.val aT a1)))]) (by kernel_rfl) ?_)
 unfold kX at h
 refine ab.ak tied [] [] [] [] (by kernel_rfl) trivial ?_
 refine ab.ak tied [] [] [] [] (by kernel_rfl) trivial ?_
 obtain⟨o1,h1,h⟩:=bind_some h
 refine ab.bV (fun σ'=>σ'=az 69 109 [(0,(.func (.func 67) (.cons (.ptr 0 []) .nil) .nil)),(4,(.ptr 20 [])),(5,(.val (.int .i64) o1.1)),(6,(.val (.int .u64) o1.2.1))] [(0,some (.var aT (.val aT o1.2.2.1))),(20,some (.var bq (.val bq o1.2.2.2)))]) ?_ ?_
 ·refine ab.ak tied [] [] [] [] (by kernel_rfl) trivial ?_
  refine ab.block ?_
  refine ab.aM (fun n σ=>∃(u1_0:Int)(u1_1:Int)(u1_2:Int)(u1_3:aY)(u1_4:bS),cp a0 n u1_0 u1_1 u1_2 u1_3 u1_4=some o1∧σ=az 69 109 [(0,(.func (.func 67) (.cons (.ptr 0 []) .nil) .nil)),(4,(.ptr 20 [])),(5,(.val (.int .i64) u1_0)),(6,(.val (.int .u64) u1_1)),(11,(.val (.slice 24 (.slice 1 (.int .u8))) a0)),(12,(.val (.int .i64) (List.length a0:Int))),(13,(.val (.int .i64) u1_2))] [(0,some (.var aT (.val aT u1_3))),(20,some (.var bq (.val bq u1_4)))]) [.ar [0,4,5,6,11,12,13] [0,20]] (by kernel_rfl) ⟨_,_,_,_,_,h1,rfl⟩ ?_
  rintro n1 _ ⟨u1_0,u1_1,u1_2,u1_3,u1_4,h10,rfl⟩
  cases n1 with
  |zero=>exact absurd h10 (by simp[cp])
  |
   succ n1=>
   unfold cp at h10
   refine ab.ak tied [] [] [] [] (by kernel_rfl) trivial ?_
   refine ab.seq ?_
   rcases aj h10 with⟨hc11,h10⟩|⟨hc11,h10⟩
   ·refine ab.aI (b:=decide (u1_2<(List.length a0:Int))) (by kernel_rfl) hc11 ?_
    refine ab.skip ?_
    change ab _ _ _ _ _
    obtain⟨o2,h11,h10⟩:=bind_some h10
    refine ab.bV (fun σ'=>σ'=az 69 109 [(0,(.func (.func 67) (.cons (.ptr 0 []) .nil) .nil)),(4,(.ptr 20 [])),(5,(.val (.int .i64) o2.1)),(6,(.val (.int .u64) (IntKind.u64.wrap (u1_1+(IntKind.u64.wrap ((List.length (nth (.slice 1 (.int .u8)) a0 u1_2):Int))))))),(11,(.val (.slice 24 (.slice 1 (.int .u8))) a0)),(12,(.val (.int .i64) (List.length a0:Int))),(13,(.val (.int .i64) u1_2))] [(0,some (.var aT (.val aT o2.2.1))),(20,some (.var bq (.val bq o2.2.2)))]) ?_ ?_
    ·refine ab.block ?_
     obtain⟨hv3,h11⟩:=ai h11
     refine ab.ak tied [] [] [] [0≤u1_2,u1_2<(List.length a0:Int)] (by kernel_rfl) ⟨hv3.1,hv3.2,trivial⟩ ?_
     refine ab.ak tied [] [] [] [] (by kernel_rfl) trivial ?_
     obtain⟨o4,h15,h11⟩:=bind_some h11
     refine ab.kM (fun σ'=>σ'=az 69 109 [(0,(.func (.func 67) (.cons (.ptr 0 []) .nil) .nil)),(4,(.ptr 20 [])),(5,(.val (.int .i64) o4.1)),(6,(.val (.int .u64) (IntKind.u64.wrap (u1_1+(IntKind.u64.wrap ((List.length (nth (.slice 1 (.int .u8)) a0 u1_2):Int))))))),(11,(.val (.slice 24 (.slice 1 (.int .u8))) a0)),(12,(.val (.int .i64) (List.length a0:Int))),(13,(.val (.int .i64) u1_2))] [(0,some (.var aT (.val aT o4.2.1))),(20,some (.var bq (.val bq o4.2.2)))]) (Cl.bp (Cl.j (Cl.loop (Cl.bp (Cl.j Cl.f))))) ?_ ?_
     ·refine ab.block ?_
      refine ab.aM (fun n σ=>∃(u2_0:Int)(u2_1:List Int)(u2_2:aY)(u2_3:bS),cK a0 u1_1 u1_2 n u2_0 u2_1 u2_2 u2_3=some o4∧σ=az 69 109 [(0,(.func (.func 67) (.cons (.ptr 0 []) .nil) .nil)),(4,(.ptr 20 [])),(5,(.val (.int .i64) u2_0)),(6,(.val (.int .u64) (IntKind.u64.wrap (u1_1+(IntKind.u64.wrap ((List.length (nth (.slice 1 (.int .u8)) a0 u1_2):Int))))))),(8,(.val (.slice 1 (.int .u8)) u2_1)),(11,(.val (.slice 24 (.slice 1 (.int .u8))) a0)),(12,(.val (.int .i64) (List.length a0:Int))),(13,(.val (.int .i64) u1_2))] [(0,some (.var aT (.val aT u2_2))),(20,some (.var bq (.val bq u2_3)))]) [.ar [0,4,5,6,8,11,12,13] [0,20]] (by kernel_rfl) ⟨_,_,_,_,h15,rfl⟩ ?_
      rintro n2 _ ⟨u2_0,u2_1,u2_2,u2_3,h17,rfl⟩
      cases n2 with
      |zero=>exact absurd h17 (by simp[cK])
      |
       succ n2=>
       unfold cK at h17
       refine ab.seq ?_
       refine ab.ak tied [] [] [] [] (by kernel_rfl) trivial ?_
       rcases aj h17 with⟨hc10,h17⟩|⟨hc10,h17⟩
       ·refine ab.aI (b:=decide ((0:Int)<(List.length u2_1:Int))) (by kernel_rfl) hc10 ?_
        refine ab.skip ?_
        change ab _ _ _ _ _
        refine ab.block ?_
        obtain⟨hv5,h17⟩:=ai h17
        refine ab.ak tied [] [] [] [0≤u2_0,u2_0≤((64:Nat):Int)] (by kernel_rfl) ⟨hv5.1,hv5.2,trivial⟩ ?_
        obtain⟨hv6,h17⟩:=ai h17
        refine ab.dL tied [] [] [] [0≤((min (List.length u2_1) (64 -(Int.toNat u2_0)):Nat):Int),((min (List.length u2_1) (64 -(Int.toNat u2_0)):Nat):Int)≤(List.length u2_1:Int)] (by kernel_rfl) ⟨hv6.1,hv6.2,trivial⟩ ?_
        refine ab.ak tied [] [] [] [] (by kernel_rfl) trivial ?_
        rcases aj h17 with⟨hc9,h17⟩|⟨hc9,h17⟩
        ·refine ab.aI (b:=decide ((ao (u2_0+((min (List.length u2_1) (64 -(Int.toNat u2_0)):Nat):Int)))=(64:Int))) (by kernel_rfl) hc9 ?_
         obtain⟨y7,hy8,h17⟩:=bind_some h17
         refine ab.ak tied [⟨(.bJ .nil),[(0,0),(1,20)],[],[(0,(.var aT (.val aT y7.1))),(1,(.var bq (.val bq y7.2)))],227⟩] [] [] [Fc Tryz.prog gl 67 [(.ptr 0 []),(.iT 1 [] 0 (64 -0))] (aq (List.replicate 227 none) [(0,some (.var aT (.val aT u2_2))),(1,some (.var bq (.val bq (iw u2_3 (List.take (min (List.length u2_1) (64 -(Int.toNat u2_0))) u2_1) (Int.toNat u2_0)))))]) (.ret (.bJ .nil)) (aN 227 [(0,(.var aT (.val aT y7.1))),(1,(.var bq (.val bq y7.2)))])] (by kernel_rfl) ⟨wB _ _ _ _ _ hy8,trivial⟩ ?_
         refine ab.eI tied [] [] [] [] (by kernel_rfl) trivial ?_
         refine bN ?_
         exact aM.mk [.ar [0,4,5,6,8,11,12,13] [0,20]] (by kernel_rfl) ⟨_,_,_,_,h17,rfl⟩
        ·refine ab.aH (b:=decide ((ao (u2_0+((min (List.length u2_1) (64 -(Int.toNat u2_0)):Nat):Int)))=(64:Int))) (by kernel_rfl) hc9 ?_
         refine ab.skip ?_
         refine bN ?_
         exact aM.mk [.ar [0,4,5,6,8,11,12,13] [0,20]] (by kernel_rfl) ⟨_,_,_,_,h17,rfl⟩
       ·refine ab.aH (b:=decide ((0:Int)<(List.length u2_1:Int))) (by kernel_rfl) hc10 ?_
        refine ab.exit ?_
        refine tE ?_
        refine lE ?_
        refine bE ?_
        obtain rfl:=Option.some.inj h17
        exact jQ.mk [.ar [0,4,5,6,11,12,13] [0,20]] (by kernel_rfl) rfl
     ·rintro _ rfl
      refine bN ?_
      obtain rfl:=Option.some.inj h11
      exact jQ.mk [.ar [0,4,5,6,11,12,13] [0,20]] (by kernel_rfl) rfl
    ·rintro _ rfl
     refine ab.eI tied [] [] [] [] (by kernel_rfl) trivial ?_
     exact aM.mk [.ar [0,4,5,6,11,12,13] [0,20]] (by kernel_rfl) ⟨_,_,_,_,_,h10,rfl⟩
   ·refine ab.aH (b:=decide (u1_2<(List.length a0:Int))) (by kernel_rfl) hc11 ?_
    refine ab.exit ?_
    refine tE ?_
    refine lE ?_
    refine bE ?_
    obtain rfl:=Option.some.inj h10
    exact jQ.mk [.ar [0,4,5,6] [0,20]] (by kernel_rfl) rfl
 ·rintro _ rfl
  obtain⟨hv12,h⟩:=ai h
  refine ab.ak tied [] [] [] [0≤o1.1,o1.1<(64:Int)] (by kernel_rfl) ⟨hv12.1,hv12.2,trivial⟩ ?_
  obtain⟨hv13,h⟩:=ai h
  refine ab.ak tied [] [] [] [0≤(ao (o1.1+(1:Int))),(ao (o1.1+(1:Int)))≤((64:Nat):Int)] (by kernel_rfl) ⟨hv13.1,hv13.2,trivial⟩ ?_
  obtain⟨o14,h18,h⟩:=bind_some h
  refine ab.bV (fun σ'=>σ'=az 69 109 [(0,(.func (.func 67) (.cons (.ptr 0 []) .nil) .nil)),(4,(.ptr 20 [])),(6,(.val (.int .u64) o1.2.1))] [(0,some (.var aT (.val aT o14.1))),(20,some (.var bq (.val bq o14.2)))]) ?_ ?_
  ·refine ab.ak tied [] [] [] [] (by kernel_rfl) trivial ?_
   rcases aj h18 with⟨hc17,h18⟩|⟨hc17,h18⟩
   ·refine ab.aI (b:=decide ((56:Int)<(ao (o1.1+(1:Int))))) (by kernel_rfl) hc17 ?_
    obtain⟨y15,hy16,h18⟩:=bind_some h18
    refine ab.ak tied [⟨(.bJ .nil),[(0,0),(1,20)],[],[(0,(.var aT (.val aT y15.1))),(1,(.var bq (.val bq y15.2)))],227⟩] [] [] [Fc Tryz.prog gl 67 [(.ptr 0 []),(.iT 1 [] 0 (64 -0))] (aq (List.replicate 227 none) [(0,some (.var aT (.val aT o1.2.2.1))),(1,some (.var bq (.val bq (iw (List.set o1.2.2.2 (Int.toNat o1.1) (128:Int)) (List.replicate (64 -(Int.toNat (ao (o1.1+(1:Int))))) (0:Int)) (Int.toNat (ao (o1.1+(1:Int))))))))]) (.ret (.bJ .nil)) (aN 227 [(0,(.var aT (.val aT y15.1))),(1,(.var bq (.val bq y15.2)))])] (by kernel_rfl) ⟨wB _ _ _ _ _ hy16,trivial⟩ ?_
    refine ab.eI tied [] [] [] [] (by kernel_rfl) trivial ?_
    obtain rfl:=Option.some.inj h18
    exact jQ.mk [.ar [0,4,6] [0,20]] (by kernel_rfl) rfl
   ·refine ab.aH (b:=decide ((56:Int)<(ao (o1.1+(1:Int))))) (by kernel_rfl) hc17 ?_
    refine ab.skip ?_
    obtain rfl:=Option.some.inj h18
    exact jQ.mk [.ar [0,4,6] [0,20]] (by kernel_rfl) rfl
  ·rintro _ rfl
   obtain⟨o18,h19,h⟩:=bind_some h
   refine ab.bV (fun σ'=>σ'=az 69 109 [(0,(.func (.func 67) (.cons (.ptr 0 []) .nil) .nil)),(4,(.ptr 20 []))] [(0,some (.var aT (.val aT o14.1))),(20,some (.var bq (.val bq o18)))]) ?_ ?_
   ·refine ab.ak tied [] [] [] [] (by kernel_rfl) trivial ?_
    refine ab.block ?_
    refine ab.aM (fun n σ=>∃(u3_0:Int)(u3_1:bS),bZ o1 o14 n u3_0 u3_1=some o18∧σ=az 69 109 [(0,(.func (.func 67) (.cons (.ptr 0 []) .nil) .nil)),(4,(.ptr 20 [])),(6,(.val (.int .u64) o1.2.1)),(53,(.val (.int .i64) u3_0))] [(0,some (.var aT (.val aT o14.1))),(20,some (.var bq (.val bq u3_1)))]) [.ar [0,4,6,53] [0,20]] (by kernel_rfl) ⟨_,_,h19,rfl⟩ ?_
    rintro n3 _ ⟨u3_0,u3_1,h21,rfl⟩
    cases n3 with
    |zero=>exact absurd h21 (by simp[bZ])
    |
     succ n3=>
     unfold bZ at h21
     refine ab.ak tied [] [] [] [] (by kernel_rfl) trivial ?_
     refine ab.seq ?_
     rcases aj h21 with⟨hc21,h21⟩|⟨hc21,h21⟩
     ·refine ab.aI (b:=decide (u3_0<(8:Int))) (by kernel_rfl) hc21 ?_
      refine ab.skip ?_
      change ab _ _ _ _ _
      refine ab.seq ?_
      refine ab.block ?_
      refine ab.ak tied [] [] [] [] (by kernel_rfl) trivial ?_
      obtain⟨hv19,h21⟩:=ai h21
      obtain⟨hv20,h21⟩:=ai h21
      refine ab.eI tied [] [] [] [0≤(ao ((8:Int)*u3_0)),0≤(ao ((63:Int) -u3_0)),(ao ((63:Int) -u3_0))<(64:Int)] (by kernel_rfl) ⟨hv19,hv20.1,hv20.2,trivial⟩ ?_
      refine bN ?_
      change ab _ _ _ _ _
      refine ab.eI tied [] [] [] [] (by kernel_rfl) trivial ?_
      exact aM.mk [.ar [0,4,6,53] [0,20]] (by kernel_rfl) ⟨_,_,h21,rfl⟩
     ·refine ab.aH (b:=decide (u3_0<(8:Int))) (by kernel_rfl) hc21 ?_
      refine ab.exit ?_
      refine tE ?_
      refine lE ?_
      refine bE ?_
      obtain rfl:=Option.some.inj h21
      exact jQ.mk [.ar [0,4] [0,20]] (by kernel_rfl) rfl
   ·rintro _ rfl
    obtain⟨y22,hy23,h⟩:=bind_some h
    refine ab.eI tied [⟨(.bJ .nil),[(0,0),(1,20)],[],[(0,(.var aT (.val aT y22.1))),(1,(.var bq (.val bq y22.2)))],227⟩] [] [] [Fc Tryz.prog gl 67 [(.ptr 0 []),(.iT 1 [] 0 (64 -0))] (aq (List.replicate 227 none) [(0,some (.var aT (.val aT o14.1))),(1,some (.var bq (.val bq o18)))]) (.ret (.bJ .nil)) (aN 227 [(0,(.var aT (.val aT y22.1))),(1,(.var bq (.val bq y22.2)))])] (by kernel_rfl) ⟨wB _ _ _ _ _ hy23,trivial⟩ ?_
    obtain rfl:=Option.some.inj h
    exact(aG [.ar [] [0]] [] (fo 109 [0]) (by kernel_rfl)).2
def fw(y1:aY):Nat→Int→bz→Option bz
 |0,_,_=>none
 |n1+1,u1_0,u1_1=>if(decide (u1_0<(32:Int)))=true then(if 0≤(ao (Int.tdiv u1_0 (4:Int)))∧(ao (Int.tdiv u1_0 (4:Int)))<(8:Int) then(if 0≤(ao ((24:Int) -(ao ((8:Int)*(Int.tmod u1_0 (4:Int)))))) then(if 0≤u1_0∧u1_0<(32:Int) then(fw y1 n1 (ao (u1_0+(1:Int))) (List.set u1_1 (Int.toNat u1_0) (IntKind.u8.wrap (Int.fdiv (nth (.int .u32) y1 (ao (Int.tdiv u1_0 (4:Int)))) (2^(min (Int.toNat (ao ((24:Int) -(ao ((8:Int)*(Int.tmod u1_0 (4:Int))))))) 32)))))) else none) else none) else none) else(some u1_1)
def f42(a0:List (List Int)):Option bz:=
 Option.bind (kX a0 [(1779033703:Int),(3144134277:Int),(1013904242:Int),(2773480762:Int),(1359893119:Int),(2600822924:Int),(528734635:Int),(1541459225:Int)]) fun y1=>Option.bind (fw y1 (Int.toNat (32:Int)+1) (0:Int) (Ty.bu aC)) fun(o3:bz)=>some o3
set_option maxRecDepth 100000 in
theorem IE(a0:List (List Int))(r:bz)(h:f42 a0=some r):Fc Tryz.prog gl 42 [(.val (.slice 24 (.slice 1 (.int .u8))) a0)] (aq (List.replicate 66 none) []) (.ret (.val aC r)) (aN 66 []):=by
 refine Fc.of Tryz.call42 (dq.aU tied Tryz.func42 rfl rfl (σ0:=az 26 66 [(0,(.val (.slice 24 (.slice 1 (.int .u8))) a0))] []) (by kernel_rfl) ?_)
 unfold f42 at h
 refine ab.ak tied [] [] [] [] (by kernel_rfl) trivial ?_
 refine ab.ak tied [] [] [] [] (by kernel_rfl) trivial ?_
 obtain⟨y1,hy2,h⟩:=bind_some h
 refine ab.ak tied [⟨(.bJ .nil),[(0,19)],[],[(0,(.var aT (.val aT y1)))],109⟩] [] [] [Fc Tryz.prog gl 66 [(.func (.func 67) (.cons (.ptr 0 []) .nil) .nil),(.val (.slice 24 (.slice 1 (.int .u8))) a0)] (aq (List.replicate 109 none) [(0,some (.var aT (.val aT [(1779033703:Int),(3144134277:Int),(1013904242:Int),(2773480762:Int),(1359893119:Int),(2600822924:Int),(528734635:Int),(1541459225:Int)])))]) (.ret (.bJ .nil)) (aN 109 [(0,(.var aT (.val aT y1)))])] (by kernel_rfl) ⟨EF _ _ _ hy2,trivial⟩ ?_
 obtain⟨o3,h1,h⟩:=bind_some h
 refine ab.bV (fun σ'=>σ'=az 26 66 [(2,(.ptr 18 []))] [(18,some (.var aC (.val aC o3)))]) ?_ ?_
 ·refine ab.ak tied [] [] [] [] (by kernel_rfl) trivial ?_
  refine ab.block ?_
  refine ab.aM (fun n σ=>∃(u1_0:Int)(u1_1:bz),fw y1 n u1_0 u1_1=some o3∧σ=az 26 66 [(2,(.ptr 18 [])),(3,(.ptr 19 [])),(9,(.val (.int .i64) u1_0))] [(18,some (.var aC (.val aC u1_1))),(19,some (.var aT (.val aT y1)))]) [.ar [2,3,9] [18,19]] (by kernel_rfl) ⟨_,_,h1,rfl⟩ ?_
  rintro n1 _ ⟨u1_0,u1_1,h3,rfl⟩
  cases n1 with
  |zero=>exact absurd h3 (by simp[fw])
  |
   succ n1=>
   unfold fw at h3
   refine ab.ak tied [] [] [] [] (by kernel_rfl) trivial ?_
   refine ab.seq ?_
   rcases aj h3 with⟨hc7,h3⟩|⟨hc7,h3⟩
   ·refine ab.aI (b:=decide (u1_0<(32:Int))) (by kernel_rfl) hc7 ?_
    refine ab.skip ?_
    change ab _ _ _ _ _
    refine ab.seq ?_
    refine ab.block ?_
    refine ab.ak tied [] [] [] [] (by kernel_rfl) trivial ?_
    obtain⟨hv4,h3⟩:=ai h3
    obtain⟨hv5,h3⟩:=ai h3
    obtain⟨hv6,h3⟩:=ai h3
    refine ab.eI tied [] [] [] [(4:Int)≠0,0≤(ao (Int.tdiv u1_0 (4:Int))),(ao (Int.tdiv u1_0 (4:Int)))<(8:Int),(4:Int)≠0,0≤(ao ((24:Int) -(ao ((8:Int)*(Int.tmod u1_0 (4:Int)))))),0≤u1_0,u1_0<(32:Int)] (by kernel_rfl) ⟨(by decide),hv4.1,hv4.2,(by decide),hv5,hv6.1,hv6.2,trivial⟩ ?_
    refine bN ?_
    change ab _ _ _ _ _
    refine ab.eI tied [] [] [] [] (by kernel_rfl) trivial ?_
    exact aM.mk [.ar [2,3,9] [18,19]] (by kernel_rfl) ⟨_,_,h3,rfl⟩
   ·refine ab.aH (b:=decide (u1_0<(32:Int))) (by kernel_rfl) hc7 ?_
    refine ab.exit ?_
    refine tE ?_
    refine lE ?_
    refine bE ?_
    obtain rfl:=Option.some.inj h3
    exact jQ.mk [.ar [2] [18]] (by kernel_rfl) rfl
 ·rintro _ rfl
  refine ab.ak tied [] [] [] [] (by kernel_rfl) trivial ?_
  refine ab.ret ?_
  obtain rfl:=Option.some.inj h
  exact(aG [] [some aC] (fo 66 []) (by kernel_rfl)).1
def f169(a0:List Int):Option Int:=
 if(0:Int)<(List.length a0:Int) then(if(1:Int)<(List.length a0:Int) then(if(2:Int)<(List.length a0:Int) then(if(3:Int)<(List.length a0:Int) then(some (an .or .u32 (an .or .u32 (an .or .u32 (IntKind.u32.wrap ((IntKind.u32.wrap (nth (.int .u8) a0 (0:Int)))*2^(min (Int.toNat (24:Int)) 32))) (IntKind.u32.wrap ((IntKind.u32.wrap (nth (.int .u8) a0 (1:Int)))*2^(min (Int.toNat (16:Int)) 32)))) (IntKind.u32.wrap ((IntKind.u32.wrap (nth (.int .u8) a0 (2:Int)))*2^(min (Int.toNat (8:Int)) 32)))) (IntKind.u32.wrap (nth (.int .u8) a0 (3:Int))))) else none) else none) else none) else none
def f170(a0:Int)(a1:Int):Option Int:=
 if 0≤a1 then(if 0≤(ao ((32:Int) -a1)) then(some (an .or .u32 (Int.fdiv a0 (2^(min (Int.toNat a1) 32))) (IntKind.u32.wrap (a0*2^(min (Int.toNat (ao ((32:Int) -a1))) 32))))) else none) else none
def f171:Option ec:=
 some [(1116352408:Int),(1899447441:Int),(3049323471:Int),(3921009573:Int),(961987163:Int),(1508970993:Int),(2453635748:Int),(2870763221:Int),(3624381080:Int),(310598401:Int),(607225278:Int),(1426881987:Int),(1925078388:Int),(2162078206:Int),(2614888103:Int),(3248222580:Int),(3835390401:Int),(4022224774:Int),(264347078:Int),(604807628:Int),(770255983:Int),(1249150122:Int),(1555081692:Int),(1996064986:Int),(2554220882:Int),(2821834349:Int),(2952996808:Int),(3210313671:Int),(3336571891:Int),(3584528711:Int),(113926993:Int),(338241895:Int),(666307205:Int),(773529912:Int),(1294757372:Int),(1396182291:Int),(1695183700:Int),(1986661051:Int),(2177026350:Int),(2456956037:Int),(2730485921:Int),(2820302411:Int),(3259730800:Int),(3345764771:Int),(3516065817:Int),(3600352804:Int),(4094571909:Int),(275423344:Int),(430227734:Int),(506948616:Int),(659060556:Int),(883997877:Int),(958139571:Int),(1322822218:Int),(1537002063:Int),(1747873779:Int),(1955562222:Int),(2024104815:Int),(2227730452:Int),(2361852424:Int),(2428436474:Int),(2756734187:Int),(3204031479:Int),(3329325298:Int)]
end Go.Proofs.YtmpdeifdnbhdiaaGreatDoor
