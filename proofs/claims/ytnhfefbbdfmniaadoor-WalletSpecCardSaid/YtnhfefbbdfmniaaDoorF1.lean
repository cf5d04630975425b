/- Made by program (dec.py): walks -/
import Derived.Test.YtnhfefbbdfmniaaDoorBase
namespace Go.Proofs.YtnhfefbbdfmniaaDoor
open Go.Abs

theorem fact0 : eqOK Tryd.prog G 40 77 T76 = true := by kernel_rfl

theorem fact1 : eqOK Tryd.prog G 40 44 T44 = true := by kernel_rfl

theorem fact2 : Tryd.prog.eqGuardType Tryd.prog.depth 44 = false := by kernel_rfl

theorem fact3 : Tryd.prog.underlying 22 = some (.slice 55) := by kernel_rfl

theorem fact4 : Tryd.prog.underlying 31 = some (.slice 3) := by kernel_rfl

/-- testamur.wallet.New -/
def f9 (a0 : Int) : Option (D23 × Int) :=
  Option.bind (Option.bind (if (decide (a0 < (0 : Int))) = true then (some true) else (some (decide ((4096 : Int) ≤ a0)))) fun (o2 : Bool) => if o2 = true then (some (.ret (((0 : Int), ((0 : Int), (([] : List D55), ()))), (410 : Int)))) else (some (.brk ()))) fun (o1 : Ctl Unit (D23 × Int)) => match o1 with | .brk _v5 => (some ((a0, ((0 : Int), (([] : List D55), ()))), (0 : Int))) | .ret r6 => (some r6)

set_option maxRecDepth 100000 in
theorem x9 (a0 : Int) (r : D23 × Int) (h : f9 a0 = some r) : Fc Tryd.prog gl 9 [(.val (.int .i64) a0)] (hset (List.replicate 53 none) []) (.ret (.tup (.cons (.val T23 r.1) (.cons (.val (.int .i64) r.2) .nil)))) (outH 53 []) := by
  refine Fc.of Tryd.call9 (FnEx.of_runF tied Tryd.func9 rfl rfl (σ0 := mkSt 13 53 [(0, (.val (.int .i64) a0))] []) (by kernel_rfl) ?_)
  unfold f9 at h
  refine Run.sreg tied [] [] [] [] (by kernel_rfl) trivial ?_
  obtain ⟨o1, h1, h⟩ := bind_some h
  refine Run.seqJ (fun σ' => ∃ v5, o1 = .brk v5 ∧ σ' = mkSt 13 53 [(0, (.val (.int .i64) a0)), (2, (.ptr 18 []))] [(18, some (.var T23 (.cons (.val (.int .i64) (0 : Int)) (.cons (.val (.int .i64) (0 : Int)) (.cons .nils .nil)))))]) ?_ ?_
  · obtain ⟨o2, h3, h1⟩ := bind_some h1
    refine Run.seqJ (fun σ' => σ' = mkSt 13 53 [(0, (.val (.int .i64) a0)), (2, (.ptr 18 [])), (9, (.val .bool o2))] [(18, some (.var T23 (.cons (.val (.int .i64) (0 : Int)) (.cons (.val (.int .i64) (0 : Int)) (.cons .nils .nil)))))]) ?_ ?_
    · rcases ite_some h3 with ⟨hg3, h3⟩ | ⟨hg3, h3⟩
      · refine Run.reg tied [] [true] [] [(decide (a0 < (0 : Int))) = true] (by kernel_rfl) ⟨hg3, trivial⟩ ?_
        obtain rfl := Option.some.inj h3
        exact jQ.mk [.keep [0, 2, 9] [18]] (by kernel_rfl) rfl
      · refine Run.reg tied [] [false] [] [(decide (a0 < (0 : Int))) = false] (by kernel_rfl) ⟨hg3, trivial⟩ ?_
        obtain rfl := Option.some.inj h3
        exact jQ.mk [.keep [0, 2, 9] [18]] (by kernel_rfl) rfl
    · rintro _ rfl
      rcases ite_some h1 with ⟨hc4, h1⟩ | ⟨hc4, h1⟩
      · refine Run.condT (b := o2) (by kernel_rfl) hc4 ?_
        refine Run.sreg tied [] [] [] [] (by kernel_rfl) trivial ?_
        refine Run.ret ?_
        obtain rfl := Option.some.inj h1
        dsimp only at h
        obtain rfl := Option.some.inj h
        exact (fQ_fin [] [some T23, some (.int .i64)] (msk 53 []) (by kernel_rfl)).1
      · refine Run.condF (b := o2) (by kernel_rfl) hc4 ?_
        refine Run.skip ?_
        obtain rfl := Option.some.inj h1
        exact jQ.mk [.keep [0, 2] [18]] (by kernel_rfl) ⟨_, rfl, rfl⟩
  · rintro _ ⟨v5, rfl, rfl⟩
    dsimp only at h
    refine Run.sreg tied [] [] [] [] (by kernel_rfl) trivial ?_
    refine Run.ret ?_
    obtain rfl := Option.some.inj h
    exact (fQ_fin [] [some T23, some (.int .i64)] (msk 53 []) (by kernel_rfl)).1

/-- testamur.testamurlaw41.links -/
def f44  : Option (List D44) :=
  some [List.set (List.replicate 32 (0 : Int)) 0 (1 : Int), List.set (List.replicate 32 (0 : Int)) 0 (2 : Int), List.set (List.replicate 32 (0 : Int)) 0 (3 : Int), List.set (List.replicate 32 (0 : Int)) 0 (4 : Int)]

set_option maxRecDepth 100000 in
theorem x44  (r : List D44) (h : f44 = some r) : Fc Tryd.prog gl 44 [] (hset (List.replicate 46 none) []) (.ret (.val (.slice 32 T44) r)) (outH 46 []) := by
  refine Fc.of Tryd.call44 (FnEx.of_runF tied Tryd.func44 rfl rfl (σ0 := mkSt 6 46 [] []) (by kernel_rfl) ?_)
  unfold f44 at h
  refine Run.sreg tied [] [] [] [] (by kernel_rfl) trivial ?_
  refine Run.sreg tied [] [] [] [] (by kernel_rfl) trivial ?_
  refine Run.ret ?_
  obtain rfl := Option.some.inj h
  exact (fQ_fin [.freeze 21 (.slice 32 T44)] [some (.slice 32 T44)] (msk 46 []) (by kernel_rfl)).1

/-- testamur.chains.join -/
def f62_l1 (a0 : List (List Int)) : Nat → Int → (List Int) → Option (List Int)
  | 0, _, _ => none
  | n1 + 1, u1_0, u1_1 => if (decide (u1_0 < (List.length a0 : Int))) = true then (if 0 ≤ u1_0 ∧ u1_0 < (List.length a0 : Int) then (if (List.length u1_1 + List.length (nth (.slice 1 (.int .u8)) a0 u1_0)) * 1 ≤ maxB then (f62_l1 a0 n1 (w64 (u1_0 + (1 : Int))) (u1_1 ++ (nth (.slice 1 (.int .u8)) a0 u1_0))) else none) else none) else (some u1_1)

def f62 (a0 : List (List Int)) : Option (List Int) :=
  Option.bind (f62_l1 a0 (List.length a0 + 1) (0 : Int) ([] : List Int)) fun (o1 : List Int) => some o1

set_option maxRecDepth 100000 in
theorem x62 (a0 : List (List Int)) (r : List Int) (h : f62 a0 = some r) : Fc Tryd.prog gl 62 [(.val (.slice 24 (.slice 1 (.int .u8))) a0)] (hset (List.replicate 56 none) []) (.ret (.val (.slice 1 (.int .u8)) r)) (outH 56 []) := by
  refine Fc.of Tryd.call62 (FnEx.of_runF tied Tryd.func62 rfl rfl (σ0 := mkSt 16 56 [(0, (.val (.slice 24 (.slice 1 (.int .u8))) a0))] []) (by kernel_rfl) ?_)
  unfold f62 at h
  refine Run.sreg tied [] [] [] [] (by kernel_rfl) trivial ?_
  obtain ⟨o1, h1, h⟩ := bind_some h
  refine Run.seqJ (fun σ' => σ' = mkSt 16 56 [(2, (.own 33))] [(33, some (.row 5 1 (.int .u8) o1))]) ?_ ?_
  · refine Run.sreg tied [] [] [] [] (by kernel_rfl) trivial ?_
    refine Run.block ?_
    refine Run.loopJ (fun n σ => ∃ (u1_0 : Int) (u1_1 : List Int), f62_l1 a0 n u1_0 u1_1 = some o1 ∧ σ = mkSt 16 56 [(2, (.own 32)), (5, (.val (.slice 24 (.slice 1 (.int .u8))) a0)), (6, (.val (.int .i64) (List.length a0 : Int))), (7, (.val (.int .i64) u1_0))] [(32, some (.row 5 1 (.int .u8) u1_1))]) [.keep [2, 5, 6, 7] [], .ownT 2 32 5 1 (.int .u8)] (by kernel_rfl) ⟨_, _, h1, rfl⟩ ?_
    rintro n1 _ ⟨u1_0, u1_1, h3, rfl⟩
    cases n1 with
    | zero => exact absurd h3 (by simp [f62_l1])
    | succ n1 =>
      unfold f62_l1 at h3
      refine Run.sreg tied [] [] [] [] (by kernel_rfl) trivial ?_
      refine Run.seq ?_
      rcases ite_some h3 with ⟨hc4, h3⟩ | ⟨hc4, h3⟩
      · refine Run.condT (b := decide (u1_0 < (List.length a0 : Int))) (by kernel_rfl) hc4 ?_
        refine Run.skip ?_
        change Run _ _ _ _ _
        refine Run.seq ?_
        refine Run.block ?_
        obtain ⟨hv2, h3⟩ := ite_none h3
        refine Run.sreg tied [] [] [] [0 ≤ u1_0, u1_0 < (List.length a0 : Int)] (by kernel_rfl) ⟨hv2.1, hv2.2, trivial⟩ ?_
        obtain ⟨hv3, h3⟩ := ite_none h3
        refine Run.reg tied [] [] [] [(List.length u1_1 + List.length (nth (.slice 1 (.int .u8)) a0 u1_0)) * 1 ≤ maxB] (by kernel_rfl) ⟨hv3, trivial⟩ ?_
        refine bN ?_
        change Run _ _ _ _ _
        refine Run.reg tied [] [] [] [] (by kernel_rfl) trivial ?_
        exact loopJ.mk [.keep [2, 5, 6, 7] [29], .ren 29 32] (by kernel_rfl) ⟨_, _, h3, rfl⟩
      · refine Run.condF (b := decide (u1_0 < (List.length a0 : Int))) (by kernel_rfl) hc4 ?_
        refine Run.exit ?_
        refine tE ?_
        refine lE ?_
        refine bE ?_
        obtain rfl := Option.some.inj h3
        exact jQ.mk [.keep [2] [32], .ren 32 33] (by kernel_rfl) rfl
  · rintro _ rfl
    refine Run.sreg tied [] [] [] [] (by kernel_rfl) trivial ?_
    refine Run.ret ?_
    obtain rfl := Option.some.inj h
    exact (fQ_fin [.freeze 33 (.slice 1 (.int .u8))] [some (.slice 1 (.int .u8))] (msk 56 []) (by kernel_rfl)).1

/-- math.bits.RotateLeft32 -/
def f72 (a0 : Int) (a1 : Int) : Option Int :=
  if 0 ≤ (evBits .and .u64 (IntKind.u64.wrap (a1)) (31 : Int)) then (if 0 ≤ (IntKind.u64.wrap ((32 : Int) - (evBits .and .u64 (IntKind.u64.wrap (a1)) (31 : Int)))) then (some (evBits .or .u32 (IntKind.u32.wrap (a0 * 2 ^ (min (Int.toNat (evBits .and .u64 (IntKind.u64.wrap (a1)) (31 : Int))) 32))) (Int.fdiv a0 (2 ^ (min (Int.toNat (IntKind.u64.wrap ((32 : Int) - (evBits .and .u64 (IntKind.u64.wrap (a1)) (31 : Int))))) 32))))) else none) else none

set_option maxRecDepth 100000 in
theorem x72 (a0 : Int) (a1 : Int) (r : Int) (h : f72 a0 a1 = some r) : Fc Tryd.prog gl 72 [(.val (.int .u32) a0), (.val (.int .i64) a1)] (hset (List.replicate 57 none) []) (.ret (.val (.int .u32) r)) (outH 57 []) := by
  refine Fc.of Tryd.call72 (FnEx.of_runF tied Tryd.func72 rfl rfl (σ0 := mkSt 17 57 [(0, (.val (.int .u32) a0)), (1, (.val (.int .i64) a1))] []) (by kernel_rfl) ?_)
  unfold f72 at h
  refine Run.sreg tied [] [] [] [] (by kernel_rfl) trivial ?_
  refine Run.sreg tied [] [] [] [] (by kernel_rfl) trivial ?_
  obtain ⟨hv1, h⟩ := ite_none h
  obtain ⟨hv2, h⟩ := ite_none h
  refine Run.sreg tied [] [] [] [0 ≤ (evBits .and .u64 (IntKind.u64.wrap (a1)) (31 : Int)), 0 ≤ (IntKind.u64.wrap ((32 : Int) - (evBits .and .u64 (IntKind.u64.wrap (a1)) (31 : Int))))] (by kernel_rfl) ⟨hv1, hv2, trivial⟩ ?_
  refine Run.ret ?_
  obtain rfl := Option.some.inj h
  exact (fQ_fin [] [some (.int .u32)] (msk 57 []) (by kernel_rfl)).1

/-- (*testamur.digest.state).absorb -/
def f69_s1_l2 (a0 : Nat) (a1 : Nat) (a2 : D106) (a3 : D112) (u1_0 : Int) : Nat → Int → D115 → Option D115
  | 0, _, _ => none
  | n2 + 1, u2_0, u2_1 => if (decide (u2_0 < (4 : Int))) = true then (if 0 ≤ u1_0 ∧ u1_0 < (64 : Int) then (if 0 ≤ (w64 ((w64 ((4 : Int) * u1_0)) + u2_0)) ∧ (w64 ((w64 ((4 : Int) * u1_0)) + u2_0)) < (a1 : Int) then (f69_s1_l2 a0 a1 a2 a3 u1_0 n2 (w64 (u2_0 + (1 : Int))) (List.set u2_1 (Int.toNat u1_0) (evBits .or .u32 (IntKind.u32.wrap ((nth (.int .u32) u2_1 u1_0) * 2 ^ (min (Int.toNat (8 : Int)) 32))) (IntKind.u32.wrap (List.getD a3 (a0 + Int.toNat (w64 ((w64 ((4 : Int) * u1_0)) + u2_0))) (Ty.dflt (.int .u8))))))) else none) else none) else (some u2_1)

def f69_s1_l1 (a0 : Nat) (a1 : Nat) (a2 : D106) (a3 : D112) : Nat → Int → D115 → Option D115
  | 0, _, _ => none
  | n1 + 1, u1_0, u1_1 => if (decide (u1_0 < (16 : Int))) = true then (Option.bind (Option.bind (f69_s1_l2 a0 a1 a2 a3 u1_0 (Int.toNat (4 : Int) + 1) (0 : Int) u1_1) fun (o3 : D115) => some o3) fun (o2 : D115) => f69_s1_l1 a0 a1 a2 a3 n1 (w64 (u1_0 + (1 : Int))) o2) else (some u1_1)

def f69_s1_l3 (a2 : D106) (a3 : D112) : Nat → Int → D115 → Option D115
  | 0, _, _ => none
  | n3 + 1, u3_0, u3_1 => if (decide (u3_0 < (64 : Int))) = true then (if 0 ≤ (w64 (u3_0 - (15 : Int))) ∧ (w64 (u3_0 - (15 : Int))) < (64 : Int) then (if 0 ≤ (w64 (u3_0 - (2 : Int))) ∧ (w64 (u3_0 - (2 : Int))) < (64 : Int) then (Option.bind (f72 (nth (.int .u32) u3_1 (w64 (u3_0 - (15 : Int)))) (-7 : Int)) fun y11 => Option.bind (f72 (nth (.int .u32) u3_1 (w64 (u3_0 - (15 : Int)))) (-18 : Int)) fun y13 => Option.bind (f72 (nth (.int .u32) u3_1 (w64 (u3_0 - (2 : Int)))) (-17 : Int)) fun y15 => Option.bind (f72 (nth (.int .u32) u3_1 (w64 (u3_0 - (2 : Int)))) (-19 : Int)) fun y17 => if 0 ≤ (w64 (u3_0 - (16 : Int))) ∧ (w64 (u3_0 - (16 : Int))) < (64 : Int) then (if 0 ≤ (w64 (u3_0 - (7 : Int))) ∧ (w64 (u3_0 - (7 : Int))) < (64 : Int) then (if 0 ≤ u3_0 ∧ u3_0 < (64 : Int) then (f69_s1_l3 a2 a3 n3 (w64 (u3_0 + (1 : Int))) (List.set u3_1 (Int.toNat u3_0) (IntKind.u32.wrap ((IntKind.u32.wrap ((IntKind.u32.wrap ((nth (.int .u32) u3_1 (w64 (u3_0 - (16 : Int)))) + (evBits .xor .u32 (evBits .xor .u32 y11 y13) (Int.fdiv (nth (.int .u32) u3_1 (w64 (u3_0 - (15 : Int)))) (2 ^ (min (Int.toNat (3 : Int)) 32)))))) + (nth (.int .u32) u3_1 (w64 (u3_0 - (7 : Int)))))) + (evBits .xor .u32 (evBits .xor .u32 y15 y17) (Int.fdiv (nth (.int .u32) u3_1 (w64 (u3_0 - (2 : Int)))) (2 ^ (min (Int.toNat (10 : Int)) 32)))))))) else none) else none) else none) else none) else none) else (some u3_1)

def f69_s1_l4 (a2 : D106) (a3 : D112) (o8 : D115) : Nat → Int → D106 → Option D106
  | 0, _, _ => none
  | n4 + 1, u4_0, u4_1 => if (decide (u4_0 < (64 : Int))) = true then (Option.bind (f72 (nth (.int .u32) u4_1 (4 : Int)) (-6 : Int)) fun y24 => Option.bind (f72 (nth (.int .u32) u4_1 (4 : Int)) (-11 : Int)) fun y26 => Option.bind (f72 (nth (.int .u32) u4_1 (4 : Int)) (-25 : Int)) fun y28 => if 0 ≤ u4_0 ∧ u4_0 < (64 : Int) then (Option.bind (f72 (nth (.int .u32) u4_1 (0 : Int)) (-2 : Int)) fun y31 => Option.bind (f72 (nth (.int .u32) u4_1 (0 : Int)) (-13 : Int)) fun y33 => Option.bind (f72 (nth (.int .u32) u4_1 (0 : Int)) (-22 : Int)) fun y35 => f69_s1_l4 a2 a3 o8 n4 (w64 (u4_0 + (1 : Int))) [IntKind.u32.wrap ((IntKind.u32.wrap ((IntKind.u32.wrap ((IntKind.u32.wrap ((IntKind.u32.wrap ((nth (.int .u32) u4_1 (7 : Int)) + (evBits .xor .u32 (evBits .xor .u32 y24 y26) y28))) + (evBits .xor .u32 (evBits .and .u32 (nth (.int .u32) u4_1 (4 : Int)) (nth (.int .u32) u4_1 (5 : Int))) (evBits .and .u32 (evBits .xor .u32 IntKind.u32.max (nth (.int .u32) u4_1 (4 : Int))) (nth (.int .u32) u4_1 (6 : Int)))))) + (nth (.int .u32) konst0 u4_0))) + (nth (.int .u32) o8 u4_0))) + (IntKind.u32.wrap ((evBits .xor .u32 (evBits .xor .u32 y31 y33) y35) + (evBits .xor .u32 (evBits .xor .u32 (evBits .and .u32 (nth (.int .u32) u4_1 (0 : Int)) (nth (.int .u32) u4_1 (1 : Int))) (evBits .and .u32 (nth (.int .u32) u4_1 (0 : Int)) (nth (.int .u32) u4_1 (2 : Int)))) (evBits .and .u32 (nth (.int .u32) u4_1 (1 : Int)) (nth (.int .u32) u4_1 (2 : Int))))))), nth (.int .u32) u4_1 (0 : Int), nth (.int .u32) u4_1 (1 : Int), nth (.int .u32) u4_1 (2 : Int), IntKind.u32.wrap ((nth (.int .u32) u4_1 (3 : Int)) + (IntKind.u32.wrap ((IntKind.u32.wrap ((IntKind.u32.wrap ((IntKind.u32.wrap ((nth (.int .u32) u4_1 (7 : Int)) + (evBits .xor .u32 (evBits .xor .u32 y24 y26) y28))) + (evBits .xor .u32 (evBits .and .u32 (nth (.int .u32) u4_1 (4 : Int)) (nth (.int .u32) u4_1 (5 : Int))) (evBits .and .u32 (evBits .xor .u32 IntKind.u32.max (nth (.int .u32) u4_1 (4 : Int))) (nth (.int .u32) u4_1 (6 : Int)))))) + (nth (.int .u32) konst0 u4_0))) + (nth (.int .u32) o8 u4_0)))), nth (.int .u32) u4_1 (4 : Int), nth (.int .u32) u4_1 (5 : Int), nth (.int .u32) u4_1 (6 : Int)]) else none) else (some u4_1)

def f69_s1_l5 (a3 : D112) (o23 : D106) : Nat → Int → D106 → Option D106
  | 0, _, _ => none
  | n5 + 1, u5_0, u5_1 => if (decide (u5_0 < (8 : Int))) = true then (if 0 ≤ u5_0 ∧ u5_0 < (8 : Int) then (f69_s1_l5 a3 o23 n5 (w64 (u5_0 + (1 : Int))) (List.set u5_1 (Int.toNat u5_0) (IntKind.u32.wrap ((nth (.int .u32) u5_1 u5_0) + (nth (.int .u32) o23 u5_0))))) else none) else (some u5_1)

def f69_s1 (a0 : Nat) (a1 : Nat) (a2 : D106) (a3 : D112) : Option (D106 × D112) :=
  Option.bind (f69_s1_l1 a0 a1 a2 a3 (Int.toNat (16 : Int) + 1) (0 : Int) (Ty.dflt T115)) fun (o1 : D115) => Option.bind (f69_s1_l3 a2 a3 (big) (16 : Int) o1) fun (o8 : D115) => Option.bind (f69_s1_l4 a2 a3 o8 (Int.toNat (64 : Int) + 1) (0 : Int) a2) fun (o23 : D106) => Option.bind (f69_s1_l5 a3 o23 (Int.toNat (8 : Int) + 1) (0 : Int) a2) fun (o38 : D106) => some (o38, a3)

set_option maxRecDepth 100000 in
theorem x69_s1 (a0 : Nat) (a1 : Nat) (a2 : D106) (a3 : D112) (r : D106 × D112) (h : f69_s1 a0 a1 a2 a3 = some r) : Fc Tryd.prog gl 69 [(.ptr 0 []), (.asl 1 [] a0 a1)] (hset (List.replicate 227 none) [(0, some (.var T106 (.val T106 a2))), (1, some (.var T112 (.val T112 a3)))]) (.ret (.tup .nil)) (outH 227 [(0, (.var T106 (.val T106 r.1))), (1, (.var T112 (.val T112 r.2)))]) := by
  refine Fc.of Tryd.call69 (FnEx.of_runF tied Tryd.func69 rfl rfl (σ0 := mkSt 187 227 [(0, (.ptr 0 [])), (1, (.asl 1 [] a0 a1))] [(0, some (.var T106 (.val T106 a2))), (1, some (.var T112 (.val T112 a3)))]) (by kernel_rfl) ?_)
  unfold f69_s1 at h
  refine Run.sreg tied [] [] [] [] (by kernel_rfl) trivial ?_
  obtain ⟨o1, h1, h⟩ := bind_some h
  refine Run.seqJ (fun σ' => σ' = mkSt 187 227 [(0, (.ptr 0 [])), (4, (.ptr 20 []))] [(0, some (.var T106 (.val T106 a2))), (1, some (.var T112 (.val T112 a3))), (20, some (.var T115 (.val T115 o1)))]) ?_ ?_
  · refine Run.sreg tied [] [] [] [] (by kernel_rfl) trivial ?_
    refine Run.block ?_
    refine Run.loopJ (fun n σ => ∃ (u1_0 : Int) (u1_1 : D115), f69_s1_l1 a0 a1 a2 a3 n u1_0 u1_1 = some o1 ∧ σ = mkSt 187 227 [(0, (.ptr 0 [])), (1, (.asl 1 [] a0 a1)), (4, (.ptr 20 [])), (23, (.val (.int .i64) u1_0))] [(0, some (.var T106 (.val T106 a2))), (1, some (.var T112 (.val T112 a3))), (20, some (.var T115 (.val T115 u1_1)))]) [.keep [0, 1, 4, 23] [0, 1, 20]] (by kernel_rfl) ⟨_, _, h1, rfl⟩ ?_
    rintro n1 _ ⟨u1_0, u1_1, h10, rfl⟩
    cases n1 with
    | zero => exact absurd h10 (by simp [f69_s1_l1])
    | succ n1 =>
      unfold f69_s1_l1 at h10
      refine Run.sreg tied [] [] [] [] (by kernel_rfl) trivial ?_
      refine Run.seq ?_
      rcases ite_some h10 with ⟨hc7, h10⟩ | ⟨hc7, h10⟩
      · refine Run.condT (b := decide (u1_0 < (16 : Int))) (by kernel_rfl) hc7 ?_
        refine Run.skip ?_
        change Run _ _ _ _ _
        obtain ⟨o2, h11, h10⟩ := bind_some h10
        refine Run.seqJ (fun σ' => σ' = mkSt 187 227 [(0, (.ptr 0 [])), (1, (.asl 1 [] a0 a1)), (4, (.ptr 20 [])), (23, (.val (.int .i64) u1_0))] [(0, some (.var T106 (.val T106 a2))), (1, some (.var T112 (.val T112 a3))), (20, some (.var T115 (.val T115 o2)))]) ?_ ?_
        · refine Run.block ?_
          refine Run.sreg tied [] [] [] [] (by kernel_rfl) trivial ?_
          refine Run.sreg tied [] [] [] [] (by kernel_rfl) trivial ?_
          obtain ⟨o3, h15, h11⟩ := bind_some h11
          refine Run.lastJ (fun σ' => σ' = mkSt 187 227 [(0, (.ptr 0 [])), (1, (.asl 1 [] a0 a1)), (4, (.ptr 20 [])), (23, (.val (.int .i64) u1_0))] [(0, some (.var T106 (.val T106 a2))), (1, some (.var T112 (.val T112 a3))), (20, some (.var T115 (.val T115 o3)))]) (Cl.blk (Cl.j (Cl.loop (Cl.blk (Cl.j Cl.f))))) ?_ ?_
          · refine Run.block ?_
            refine Run.loopJ (fun n σ => ∃ (u2_0 : Int) (u2_1 : D115), f69_s1_l2 a0 a1 a2 a3 u1_0 n u2_0 u2_1 = some o3 ∧ σ = mkSt 187 227 [(0, (.ptr 0 [])), (1, (.asl 1 [] a0 a1)), (4, (.ptr 20 [])), (5, (.val (.int .i64) u1_0)), (23, (.val (.int .i64) u1_0)), (26, (.val (.int .i64) u2_0))] [(0, some (.var T106 (.val T106 a2))), (1, some (.var T112 (.val T112 a3))), (20, some (.var T115 (.val T115 u2_1)))]) [.keep [0, 1, 4, 5, 23, 26] [0, 1, 20]] (by kernel_rfl) ⟨_, _, h15, rfl⟩ ?_
            rintro n2 _ ⟨u2_0, u2_1, h17, rfl⟩
            cases n2 with
            | zero => exact absurd h17 (by simp [f69_s1_l2])
            | succ n2 =>
              unfold f69_s1_l2 at h17
              refine Run.sreg tied [] [] [] [] (by kernel_rfl) trivial ?_
              refine Run.seq ?_
              rcases ite_some h17 with ⟨hc6, h17⟩ | ⟨hc6, h17⟩
              · refine Run.condT (b := decide (u2_0 < (4 : Int))) (by kernel_rfl) hc6 ?_
                refine Run.skip ?_
                change Run _ _ _ _ _
                refine Run.seq ?_
                refine Run.block ?_
                refine Run.sreg tied [] [] [] [] (by kernel_rfl) trivial ?_
                obtain ⟨hv4, h17⟩ := ite_none h17
                obtain ⟨hv5, h17⟩ := ite_none h17
                refine Run.regA tied [] [] [] [0 ≤ u1_0, u1_0 < (64 : Int), 0 ≤ (8 : Int), 0 ≤ (w64 ((w64 ((4 : Int) * u1_0)) + u2_0)), (w64 ((w64 ((4 : Int) * u1_0)) + u2_0)) < (a1 : Int), 0 ≤ u1_0, u1_0 < (64 : Int)] (by kernel_rfl) ⟨hv4.1, hv4.2, (by decide), hv5.1, hv5.2, hv4.1, hv4.2, trivial⟩ ?_
                refine bN ?_
                change Run _ _ _ _ _
                refine Run.reg tied [] [] [] [] (by kernel_rfl) trivial ?_
                exact loopJ.mk [.keep [0, 1, 4, 5, 23, 26] [0, 1, 20]] (by kernel_rfl) ⟨_, _, h17, rfl⟩
              · refine Run.condF (b := decide (u2_0 < (4 : Int))) (by kernel_rfl) hc6 ?_
                refine Run.exit ?_
                refine tE ?_
                refine lE ?_
                refine bE ?_
                obtain rfl := Option.some.inj h17
                exact jQ.mk [.keep [0, 1, 4, 23] [0, 1, 20]] (by kernel_rfl) rfl
          · rintro _ rfl
            refine bN ?_
            obtain rfl := Option.some.inj h11
            exact jQ.mk [.keep [0, 1, 4, 23] [0, 1, 20]] (by kernel_rfl) rfl
        · rintro _ rfl
          refine Run.reg tied [] [] [] [] (by kernel_rfl) trivial ?_
          exact loopJ.mk [.keep [0, 1, 4, 23] [0, 1, 20]] (by kernel_rfl) ⟨_, _, h10, rfl⟩
      · refine Run.condF (b := decide (u1_0 < (16 : Int))) (by kernel_rfl) hc7 ?_
        refine Run.exit ?_
        refine tE ?_
        refine lE ?_
        refine bE ?_
        obtain rfl := Option.some.inj h10
        exact jQ.mk [.keep [0, 4] [0, 1, 20]] (by kernel_rfl) rfl
  · rintro _ rfl
    obtain ⟨o8, h18, h⟩ := bind_some h
    refine Run.seqJ (fun σ' => σ' = mkSt 187 227 [(0, (.ptr 0 [])), (4, (.ptr 20 []))] [(0, some (.var T106 (.val T106 a2))), (1, some (.var T112 (.val T112 a3))), (20, some (.var T115 (.val T115 o8)))]) ?_ ?_
    · refine Run.sreg tied [] [] [] [] (by kernel_rfl) trivial ?_
      refine Run.block ?_
      refine Run.loopJ (fun n σ => ∃ (u3_0 : Int) (u3_1 : D115), f69_s1_l3 a2 a3 n u3_0 u3_1 = some o8 ∧ σ = mkSt 187 227 [(0, (.ptr 0 [])), (4, (.ptr 20 [])), (7, (.val (.int .i64) u3_0))] [(0, some (.var T106 (.val T106 a2))), (1, some (.var T112 (.val T112 a3))), (20, some (.var T115 (.val T115 u3_1)))]) [.keep [0, 4, 7] [0, 1, 20]] (by kernel_rfl) ⟨_, _, h18, rfl⟩ ?_
      rintro n3 _ ⟨u3_0, u3_1, h20, rfl⟩
      cases n3 with
      | zero => exact absurd h20 (by simp [f69_s1_l3])
      | succ n3 =>
        unfold f69_s1_l3 at h20
        refine Run.seq ?_
        refine Run.sreg tied [] [] [] [] (by kernel_rfl) trivial ?_
        rcases ite_some h20 with ⟨hc22, h20⟩ | ⟨hc22, h20⟩
        · refine Run.condT (b := decide (u3_0 < (64 : Int))) (by kernel_rfl) hc22 ?_
          refine Run.skip ?_
          change Run _ _ _ _ _
          refine Run.seq ?_
          refine Run.block ?_
          obtain ⟨hv9, h20⟩ := ite_none h20
          obtain ⟨hv10, h20⟩ := ite_none h20
          refine Run.sregA tied [] [] [] [0 ≤ (w64 (u3_0 - (15 : Int))), (w64 (u3_0 - (15 : Int))) < (64 : Int), 0 ≤ (w64 (u3_0 - (2 : Int))), (w64 (u3_0 - (2 : Int))) < (64 : Int)] (by kernel_rfl) ⟨hv9.1, hv9.2, hv10.1, hv10.2, trivial⟩ ?_
          obtain ⟨y11, hy12, h20⟩ := bind_some h20
          obtain ⟨y13, hy14, h20⟩ := bind_some h20
          refine Run.sreg tied [⟨(.val (.int .u32) y11), [], [], [], 57⟩, ⟨(.val (.int .u32) y13), [], [], [], 57⟩] [] [] [Fc Tryd.prog gl 72 [(.val (.int .u32) (nth (.int .u32) u3_1 (w64 (u3_0 - (15 : Int))))), (.val (.int .i64) (-7 : Int))] (hset (List.replicate 57 none) []) (.ret (.val (.int .u32) y11)) (outH 57 []), Fc Tryd.prog gl 72 [(.val (.int .u32) (nth (.int .u32) u3_1 (w64 (u3_0 - (15 : Int))))), (.val (.int .i64) (-18 : Int))] (hset (List.replicate 57 none) []) (.ret (.val (.int .u32) y13)) (outH 57 []), 0 ≤ (3 : Int)] (by kernel_rfl) ⟨x72 _ _ _ hy12, x72 _ _ _ hy14, (by decide), trivial⟩ ?_
          obtain ⟨y15, hy16, h20⟩ := bind_some h20
          obtain ⟨y17, hy18, h20⟩ := bind_some h20
          refine Run.sreg tied [⟨(.val (.int .u32) y15), [], [], [], 57⟩, ⟨(.val (.int .u32) y17), [], [], [], 57⟩] [] [] [Fc Tryd.prog gl 72 [(.val (.int .u32) (nth (.int .u32) u3_1 (w64 (u3_0 - (2 : Int))))), (.val (.int .i64) (-17 : Int))] (hset (List.replicate 57 none) []) (.ret (.val (.int .u32) y15)) (outH 57 []), Fc Tryd.prog gl 72 [(.val (.int .u32) (nth (.int .u32) u3_1 (w64 (u3_0 - (2 : Int))))), (.val (.int .i64) (-19 : Int))] (hset (List.replicate 57 none) []) (.ret (.val (.int .u32) y17)) (outH 57 []), 0 ≤ (10 : Int)] (by kernel_rfl) ⟨x72 _ _ _ hy16, x72 _ _ _ hy18, (by decide), trivial⟩ ?_
          obtain ⟨hv19, h20⟩ := ite_none h20
          obtain ⟨hv20, h20⟩ := ite_none h20
          obtain ⟨hv21, h20⟩ := ite_none h20
          refine Run.regA tied [] [] [] [0 ≤ (w64 (u3_0 - (16 : Int))), (w64 (u3_0 - (16 : Int))) < (64 : Int), 0 ≤ (w64 (u3_0 - (7 : Int))), (w64 (u3_0 - (7 : Int))) < (64 : Int), 0 ≤ u3_0, u3_0 < (64 : Int)] (by kernel_rfl) ⟨hv19.1, hv19.2, hv20.1, hv20.2, hv21.1, hv21.2, trivial⟩ ?_
          refine bN ?_
          change Run _ _ _ _ _
          refine Run.reg tied [] [] [] [] (by kernel_rfl) trivial ?_
          exact loopJ.mk [.keep [0, 4, 7] [0, 1, 20]] (by kernel_rfl) ⟨_, _, h20, rfl⟩
        · refine Run.condF (b := decide (u3_0 < (64 : Int))) (by kernel_rfl) hc22 ?_
          refine Run.exit ?_
          refine tE ?_
          refine lE ?_
          refine bE ?_
          obtain rfl := Option.some.inj h20
          exact jQ.mk [.keep [0, 4] [0, 1, 20]] (by kernel_rfl) rfl
    · rintro _ rfl
      refine Run.sreg tied [] [] [] [] (by kernel_rfl) trivial ?_
      obtain ⟨o23, h21, h⟩ := bind_some h
      refine Run.seqJ (fun σ' => σ' = mkSt 187 227 [(0, (.ptr 0 [])), (12, (.ptr 28 []))] [(0, some (.var T106 (.val T106 a2))), (1, some (.var T112 (.val T112 a3))), (28, some (.var T106 (.val T106 o23)))]) ?_ ?_
      · refine Run.sreg tied [] [] [] [] (by kernel_rfl) trivial ?_
        refine Run.block ?_
        refine Run.loopJ (fun n σ => ∃ (u4_0 : Int) (u4_1 : D106), f69_s1_l4 a2 a3 o8 n u4_0 u4_1 = some o23 ∧ σ = mkSt 187 227 [(0, (.ptr 0 [])), (4, (.ptr 20 [])), (12, (.ptr 28 [])), (92, (.val (.int .i64) u4_0))] [(0, some (.var T106 (.val T106 a2))), (1, some (.var T112 (.val T112 a3))), (20, some (.var T115 (.val T115 o8))), (28, some (.var T106 (.val T106 u4_1)))]) [.keep [0, 4, 12, 92] [0, 1, 20, 28]] (by kernel_rfl) ⟨_, _, h21, rfl⟩ ?_
        rintro n4 _ ⟨u4_0, u4_1, h23, rfl⟩
        cases n4 with
        | zero => exact absurd h23 (by simp [f69_s1_l4])
        | succ n4 =>
          unfold f69_s1_l4 at h23
          refine Run.sreg tied [] [] [] [] (by kernel_rfl) trivial ?_
          refine Run.seq ?_
          rcases ite_some h23 with ⟨hc37, h23⟩ | ⟨hc37, h23⟩
          · refine Run.condT (b := decide (u4_0 < (64 : Int))) (by kernel_rfl) hc37 ?_
            refine Run.skip ?_
            change Run _ _ _ _ _
            refine Run.seq ?_
            refine Run.block ?_
            refine Run.sreg tied [] [] [] [] (by kernel_rfl) trivial ?_
            refine Run.sregA tied [] [] [] [0 ≤ (0 : Int), (0 : Int) < (8 : Int), 0 ≤ (1 : Int), (1 : Int) < (8 : Int), 0 ≤ (2 : Int), (2 : Int) < (8 : Int), 0 ≤ (4 : Int), (4 : Int) < (8 : Int)] (by kernel_rfl) ⟨(by decide), (by decide), (by decide), (by decide), (by decide), (by decide), (by decide), (by decide), trivial⟩ ?_
            obtain ⟨y24, hy25, h23⟩ := bind_some h23
            obtain ⟨y26, hy27, h23⟩ := bind_some h23
            obtain ⟨y28, hy29, h23⟩ := bind_some h23
            refine Run.sreg tied [⟨(.val (.int .u32) y24), [], [], [], 57⟩, ⟨(.val (.int .u32) y26), [], [], [], 57⟩, ⟨(.val (.int .u32) y28), [], [], [], 57⟩] [] [] [Fc Tryd.prog gl 72 [(.val (.int .u32) (nth (.int .u32) u4_1 (4 : Int))), (.val (.int .i64) (-6 : Int))] (hset (List.replicate 57 none) []) (.ret (.val (.int .u32) y24)) (outH 57 []), Fc Tryd.prog gl 72 [(.val (.int .u32) (nth (.int .u32) u4_1 (4 : Int))), (.val (.int .i64) (-11 : Int))] (hset (List.replicate 57 none) []) (.ret (.val (.int .u32) y26)) (outH 57 []), Fc Tryd.prog gl 72 [(.val (.int .u32) (nth (.int .u32) u4_1 (4 : Int))), (.val (.int .i64) (-25 : Int))] (hset (List.replicate 57 none) []) (.ret (.val (.int .u32) y28)) (outH 57 [])] (by kernel_rfl) ⟨x72 _ _ _ hy25, x72 _ _ _ hy27, x72 _ _ _ hy29, trivial⟩ ?_
            obtain ⟨hv30, h23⟩ := ite_none h23
            refine Run.sregA tied [] [] [] [0 ≤ (7 : Int), (7 : Int) < (8 : Int), 0 ≤ (5 : Int), (5 : Int) < (8 : Int), 0 ≤ (6 : Int), (6 : Int) < (8 : Int), 0 ≤ u4_0, u4_0 < (64 : Int), 0 ≤ u4_0, u4_0 < (64 : Int)] (by kernel_rfl) ⟨(by decide), (by decide), (by decide), (by decide), (by decide), (by decide), hv30.1, hv30.2, hv30.1, hv30.2, trivial⟩ ?_
            obtain ⟨y31, hy32, h23⟩ := bind_some h23
            obtain ⟨y33, hy34, h23⟩ := bind_some h23
            obtain ⟨y35, hy36, h23⟩ := bind_some h23
            refine Run.sreg tied [⟨(.val (.int .u32) y31), [], [], [], 57⟩, ⟨(.val (.int .u32) y33), [], [], [], 57⟩, ⟨(.val (.int .u32) y35), [], [], [], 57⟩] [] [] [Fc Tryd.prog gl 72 [(.val (.int .u32) (nth (.int .u32) u4_1 (0 : Int))), (.val (.int .i64) (-2 : Int))] (hset (List.replicate 57 none) []) (.ret (.val (.int .u32) y31)) (outH 57 []), Fc Tryd.prog gl 72 [(.val (.int .u32) (nth (.int .u32) u4_1 (0 : Int))), (.val (.int .i64) (-13 : Int))] (hset (List.replicate 57 none) []) (.ret (.val (.int .u32) y33)) (outH 57 []), Fc Tryd.prog gl 72 [(.val (.int .u32) (nth (.int .u32) u4_1 (0 : Int))), (.val (.int .i64) (-22 : Int))] (hset (List.replicate 57 none) []) (.ret (.val (.int .u32) y35)) (outH 57 [])] (by kernel_rfl) ⟨x72 _ _ _ hy32, x72 _ _ _ hy34, x72 _ _ _ hy36, trivial⟩ ?_
            refine Run.sreg tied [] [] [] [] (by kernel_rfl) trivial ?_
            refine Run.reg tied [] [] [] [0 ≤ (3 : Int), (3 : Int) < (8 : Int), 0 ≤ (5 : Int), (5 : Int) < (8 : Int), 0 ≤ (6 : Int), (6 : Int) < (8 : Int)] (by kernel_rfl) ⟨(by decide), (by decide), (by decide), (by decide), (by decide), (by decide), trivial⟩ ?_
            refine bN ?_
            change Run _ _ _ _ _
            refine Run.reg tied [] [] [] [] (by kernel_rfl) trivial ?_
            exact loopJ.mk [.keep [0, 4, 12, 92] [0, 1, 20, 28]] (by kernel_rfl) ⟨_, _, h23, rfl⟩
          · refine Run.condF (b := decide (u4_0 < (64 : Int))) (by kernel_rfl) hc37 ?_
            refine Run.exit ?_
            refine tE ?_
            refine lE ?_
            refine bE ?_
            obtain rfl := Option.some.inj h23
            exact jQ.mk [.keep [0, 12] [0, 1, 28]] (by kernel_rfl) rfl
      · rintro _ rfl
        refine Run.sreg tied [] [] [] [] (by kernel_rfl) trivial ?_
        obtain ⟨o38, h24, h⟩ := bind_some h
        refine Run.lastJ (fun σ' => σ' = mkSt 187 227 [] [(0, some (.var T106 (.val T106 o38))), (1, some (.var T112 (.val T112 a3)))]) Cl.f ?_ ?_
        · refine Run.block ?_
          refine Run.loopJ (fun n σ => ∃ (u5_0 : Int) (u5_1 : D106), f69_s1_l5 a3 o23 n u5_0 u5_1 = some o38 ∧ σ = mkSt 187 227 [(0, (.ptr 0 [])), (12, (.ptr 28 [])), (172, (.val (.int .i64) u5_0))] [(0, some (.var T106 (.val T106 u5_1))), (1, some (.var T112 (.val T112 a3))), (28, some (.var T106 (.val T106 o23)))]) [.keep [0, 12, 172] [0, 1, 28]] (by kernel_rfl) ⟨_, _, h24, rfl⟩ ?_
          rintro n5 _ ⟨u5_0, u5_1, h26, rfl⟩
          cases n5 with
          | zero => exact absurd h26 (by simp [f69_s1_l5])
          | succ n5 =>
            unfold f69_s1_l5 at h26
            refine Run.sreg tied [] [] [] [] (by kernel_rfl) trivial ?_
            refine Run.seq ?_
            rcases ite_some h26 with ⟨hc40, h26⟩ | ⟨hc40, h26⟩
            · refine Run.condT (b := decide (u5_0 < (8 : Int))) (by kernel_rfl) hc40 ?_
              refine Run.skip ?_
              change Run _ _ _ _ _
              refine Run.seq ?_
              refine Run.block ?_
              refine Run.sreg tied [] [] [] [] (by kernel_rfl) trivial ?_
              obtain ⟨hv39, h26⟩ := ite_none h26
              refine Run.regA tied [] [] [] [0 ≤ u5_0, u5_0 < (8 : Int), 0 ≤ u5_0, u5_0 < (8 : Int), 0 ≤ u5_0, u5_0 < (8 : Int)] (by kernel_rfl) ⟨hv39.1, hv39.2, hv39.1, hv39.2, hv39.1, hv39.2, trivial⟩ ?_
              refine bN ?_
              change Run _ _ _ _ _
              refine Run.reg tied [] [] [] [] (by kernel_rfl) trivial ?_
              exact loopJ.mk [.keep [0, 12, 172] [0, 1, 28]] (by kernel_rfl) ⟨_, _, h26, rfl⟩
            · refine Run.condF (b := decide (u5_0 < (8 : Int))) (by kernel_rfl) hc40 ?_
              refine Run.exit ?_
              refine tE ?_
              refine lE ?_
              refine bE ?_
              obtain rfl := Option.some.inj h26
              exact jQ.mk [.keep [] [0, 1]] (by kernel_rfl) rfl
        · rintro _ rfl
          obtain rfl := Option.some.inj h
          exact (fQ_fin [.keep [] [0, 1]] [] (msk 227 [0, 1]) (by kernel_rfl)).2

/-- testamur.digest.blocks -/
def f68_s1_l2 (a0 : List (List Int)) (u1_1 : Int) (u1_2 : Int) : Nat → Int → (List Int) → D106 → D112 → Option (Int × D106 × D112)
  | 0, _, _, _, _ => none
  | n2 + 1, u2_0, u2_1, u2_2, u2_3 => if (decide ((0 : Int) < (List.length u2_1 : Int))) = true then (if 0 ≤ u2_0 ∧ u2_0 ≤ ((64 : Nat) : Int) then (if 0 ≤ ((min (List.length u2_1) (64 - (Int.toNat u2_0)) : Nat) : Int) ∧ ((min (List.length u2_1) (64 - (Int.toNat u2_0)) : Nat) : Int) ≤ (List.length u2_1 : Int) then (if (decide ((w64 (u2_0 + ((min (List.length u2_1) (64 - (Int.toNat u2_0)) : Nat) : Int))) = (64 : Int))) = true then (Option.bind (f69_s1 0 (64 - 0) u2_2 (spl u2_3 (List.take (min (List.length u2_1) (64 - (Int.toNat u2_0))) u2_1) (Int.toNat u2_0))) fun y7 => f68_s1_l2 a0 u1_1 u1_2 n2 (0 : Int) (cutList u2_1 (Int.toNat ((min (List.length u2_1) (64 - (Int.toNat u2_0)) : Nat) : Int)) (List.length u2_1)) y7.1 y7.2) else (f68_s1_l2 a0 u1_1 u1_2 n2 (w64 (u2_0 + ((min (List.length u2_1) (64 - (Int.toNat u2_0)) : Nat) : Int))) (cutList u2_1 (Int.toNat ((min (List.length u2_1) (64 - (Int.toNat u2_0)) : Nat) : Int)) (List.length u2_1)) u2_2 (spl u2_3 (List.take (min (List.length u2_1) (64 - (Int.toNat u2_0))) u2_1) (Int.toNat u2_0)))) else none) else none) else (some (u2_0, u2_2, u2_3))

def f68_s1_l1 (a0 : List (List Int)) : Nat → Int → Int → Int → D106 → D112 → Option (Int × Int × D106 × D112)
  | 0, _, _, _, _, _ => none
  | n1 + 1, u1_0, u1_1, u1_2, u1_3, u1_4 => if (decide (u1_2 < (List.length a0 : Int))) = true then (Option.bind (if 0 ≤ u1_2 ∧ u1_2 < (List.length a0 : Int) then (Option.bind (f68_s1_l2 a0 u1_1 u1_2 (big) u1_0 (nth (.slice 1 (.int .u8)) a0 u1_2) u1_3 u1_4) fun (o4 : Int × D106 × D112) => some (o4.1, o4.2.1, o4.2.2)) else none) fun (o2 : Int × D106 × D112) => f68_s1_l1 a0 n1 o2.1 (IntKind.u64.wrap (u1_1 + (IntKind.u64.wrap ((List.length (nth (.slice 1 (.int .u8)) a0 u1_2) : Int))))) (w64 (u1_2 + (1 : Int))) o2.2.1 o2.2.2) else (some (u1_0, u1_1, u1_3, u1_4))

def f68_s1_l3 (o1 : Int × Int × D106 × D112) (o14 : D106 × D112) : Nat → Int → D112 → Option D112
  | 0, _, _ => none
  | n3 + 1, u3_0, u3_1 => if (decide (u3_0 < (8 : Int))) = true then (if 0 ≤ (w64 ((8 : Int) * u3_0)) then (if 0 ≤ (w64 ((63 : Int) - u3_0)) ∧ (w64 ((63 : Int) - u3_0)) < (64 : Int) then (f68_s1_l3 o1 o14 n3 (w64 (u3_0 + (1 : Int))) (List.set u3_1 (Int.toNat (w64 ((63 : Int) - u3_0))) (IntKind.u8.wrap (Int.fdiv (IntKind.u64.wrap (o1.2.1 * (8 : Int))) (2 ^ (min (Int.toNat (w64 ((8 : Int) * u3_0))) 64)))))) else none) else none) else (some u3_1)

def f68_s1 (a0 : List (List Int)) (a1 : D106) : Option D106 :=
  Option.bind (f68_s1_l1 a0 (List.length a0 + 1) (0 : Int) (0 : Int) (0 : Int) a1 (Ty.dflt T112)) fun (o1 : Int × Int × D106 × D112) => if 0 ≤ o1.1 ∧ o1.1 < (64 : Int) then (if 0 ≤ (w64 (o1.1 + (1 : Int))) ∧ (w64 (o1.1 + (1 : Int))) ≤ ((64 : Nat) : Int) then (Option.bind (if (decide ((56 : Int) < (w64 (o1.1 + (1 : Int))))) = true then (Option.bind (f69_s1 0 (64 - 0) o1.2.2.1 (spl (List.set o1.2.2.2 (Int.toNat o1.1) (128 : Int)) (List.replicate (64 - (Int.toNat (w64 (o1.1 + (1 : Int))))) (0 : Int)) (Int.toNat (w64 (o1.1 + (1 : Int)))))) fun y15 => some (y15.1, spl y15.2 (List.replicate (64 - 0) (0 : Int)) 0)) else (some (o1.2.2.1, spl (List.set o1.2.2.2 (Int.toNat o1.1) (128 : Int)) (List.replicate (64 - (Int.toNat (w64 (o1.1 + (1 : Int))))) (0 : Int)) (Int.toNat (w64 (o1.1 + (1 : Int))))))) fun (o14 : D106 × D112) => Option.bind (f68_s1_l3 o1 o14 (Int.toNat (8 : Int) + 1) (0 : Int) o14.2) fun (o18 : D112) => Option.bind (f69_s1 0 (64 - 0) o14.1 o18) fun y22 => some y22.1) else none) else none

set_option maxRecDepth 100000 in
theorem x68_s1 (a0 : List (List Int)) (a1 : D106) (r : D106) (h : f68_s1 a0 a1 = some r) : Fc Tryd.prog gl 68 [(.func (.func 69) (.cons (.ptr 0 []) .nil) .nil), (.val (.slice 24 (.slice 1 (.int .u8))) a0)] (hset (List.replicate 109 none) [(0, some (.var T106 (.val T106 a1)))]) (.ret (.tup .nil)) (outH 109 [(0, (.var T106 (.val T106 r)))]) := by
  refine Fc.of Tryd.call68 (FnEx.of_runF tied Tryd.func68 rfl rfl (σ0 := mkSt 69 109 [(0, (.func (.func 69) (.cons (.ptr 0 []) .nil) .nil)), (1, (.val (.slice 24 (.slice 1 (.int .u8))) a0))] [(0, some (.var T106 (.val T106 a1)))]) (by kernel_rfl) ?_)
  unfold f68_s1 at h
  refine Run.sreg tied [] [] [] [] (by kernel_rfl) trivial ?_
  refine Run.sreg tied [] [] [] [] (by kernel_rfl) trivial ?_
  obtain ⟨o1, h1, h⟩ := bind_some h
  refine Run.seqJ (fun σ' => σ' = mkSt 69 109 [(0, (.func (.func 69) (.cons (.ptr 0 []) .nil) .nil)), (4, (.ptr 20 [])), (5, (.val (.int .i64) o1.1)), (6, (.val (.int .u64) o1.2.1))] [(0, some (.var T106 (.val T106 o1.2.2.1))), (20, some (.var T112 (.val T112 o1.2.2.2)))]) ?_ ?_
  · refine Run.sreg tied [] [] [] [] (by kernel_rfl) trivial ?_
    refine Run.block ?_
    refine Run.loopJ (fun n σ => ∃ (u1_0 : Int) (u1_1 : Int) (u1_2 : Int) (u1_3 : D106) (u1_4 : D112), f68_s1_l1 a0 n u1_0 u1_1 u1_2 u1_3 u1_4 = some o1 ∧ σ = mkSt 69 109 [(0, (.func (.func 69) (.cons (.ptr 0 []) .nil) .nil)), (4, (.ptr 20 [])), (5, (.val (.int .i64) u1_0)), (6, (.val (.int .u64) u1_1)), (11, (.val (.slice 24 (.slice 1 (.int .u8))) a0)), (12, (.val (.int .i64) (List.length a0 : Int))), (13, (.val (.int .i64) u1_2))] [(0, some (.var T106 (.val T106 u1_3))), (20, some (.var T112 (.val T112 u1_4)))]) [.keep [0, 4, 5, 6, 11, 12, 13] [0, 20]] (by kernel_rfl) ⟨_, _, _, _, _, h1, rfl⟩ ?_
    rintro n1 _ ⟨u1_0, u1_1, u1_2, u1_3, u1_4, h10, rfl⟩
    cases n1 with
    | zero => exact absurd h10 (by simp [f68_s1_l1])
    | succ n1 =>
      unfold f68_s1_l1 at h10
      refine Run.sreg tied [] [] [] [] (by kernel_rfl) trivial ?_
      refine Run.seq ?_
      rcases ite_some h10 with ⟨hc11, h10⟩ | ⟨hc11, h10⟩
      · refine Run.condT (b := decide (u1_2 < (List.length a0 : Int))) (by kernel_rfl) hc11 ?_
        refine Run.skip ?_
        change Run _ _ _ _ _
        obtain ⟨o2, h11, h10⟩ := bind_some h10
        refine Run.seqJ (fun σ' => σ' = mkSt 69 109 [(0, (.func (.func 69) (.cons (.ptr 0 []) .nil) .nil)), (4, (.ptr 20 [])), (5, (.val (.int .i64) o2.1)), (6, (.val (.int .u64) (IntKind.u64.wrap (u1_1 + (IntKind.u64.wrap ((List.length (nth (.slice 1 (.int .u8)) a0 u1_2) : Int))))))), (11, (.val (.slice 24 (.slice 1 (.int .u8))) a0)), (12, (.val (.int .i64) (List.length a0 : Int))), (13, (.val (.int .i64) u1_2))] [(0, some (.var T106 (.val T106 o2.2.1))), (20, some (.var T112 (.val T112 o2.2.2)))]) ?_ ?_
        · refine Run.block ?_
          obtain ⟨hv3, h11⟩ := ite_none h11
          refine Run.sreg tied [] [] [] [0 ≤ u1_2, u1_2 < (List.length a0 : Int)] (by kernel_rfl) ⟨hv3.1, hv3.2, trivial⟩ ?_
          refine Run.sreg tied [] [] [] [] (by kernel_rfl) trivial ?_
          obtain ⟨o4, h15, h11⟩ := bind_some h11
          refine Run.lastJ (fun σ' => σ' = mkSt 69 109 [(0, (.func (.func 69) (.cons (.ptr 0 []) .nil) .nil)), (4, (.ptr 20 [])), (5, (.val (.int .i64) o4.1)), (6, (.val (.int .u64) (IntKind.u64.wrap (u1_1 + (IntKind.u64.wrap ((List.length (nth (.slice 1 (.int .u8)) a0 u1_2) : Int))))))), (11, (.val (.slice 24 (.slice 1 (.int .u8))) a0)), (12, (.val (.int .i64) (List.length a0 : Int))), (13, (.val (.int .i64) u1_2))] [(0, some (.var T106 (.val T106 o4.2.1))), (20, some (.var T112 (.val T112 o4.2.2)))]) (Cl.blk (Cl.j (Cl.loop (Cl.blk (Cl.j Cl.f))))) ?_ ?_
          · refine Run.block ?_
            refine Run.loopJ (fun n σ => ∃ (u2_0 : Int) (u2_1 : List Int) (u2_2 : D106) (u2_3 : D112), f68_s1_l2 a0 u1_1 u1_2 n u2_0 u2_1 u2_2 u2_3 = some o4 ∧ σ = mkSt 69 109 [(0, (.func (.func 69) (.cons (.ptr 0 []) .nil) .nil)), (4, (.ptr 20 [])), (5, (.val (.int .i64) u2_0)), (6, (.val (.int .u64) (IntKind.u64.wrap (u1_1 + (IntKind.u64.wrap ((List.length (nth (.slice 1 (.int .u8)) a0 u1_2) : Int))))))), (8, (.val (.slice 1 (.int .u8)) u2_1)), (11, (.val (.slice 24 (.slice 1 (.int .u8))) a0)), (12, (.val (.int .i64) (List.length a0 : Int))), (13, (.val (.int .i64) u1_2))] [(0, some (.var T106 (.val T106 u2_2))), (20, some (.var T112 (.val T112 u2_3)))]) [.keep [0, 4, 5, 6, 8, 11, 12, 13] [0, 20]] (by kernel_rfl) ⟨_, _, _, _, h15, rfl⟩ ?_
            rintro n2 _ ⟨u2_0, u2_1, u2_2, u2_3, h17, rfl⟩
            cases n2 with
            | zero => exact absurd h17 (by simp [f68_s1_l2])
            | succ n2 =>
              unfold f68_s1_l2 at h17
              refine Run.seq ?_
              refine Run.sreg tied [] [] [] [] (by kernel_rfl) trivial ?_
              rcases ite_some h17 with ⟨hc10, h17⟩ | ⟨hc10, h17⟩
              · refine Run.condT (b := decide ((0 : Int) < (List.length u2_1 : Int))) (by kernel_rfl) hc10 ?_
                refine Run.skip ?_
                change Run _ _ _ _ _
                refine Run.block ?_
                obtain ⟨hv5, h17⟩ := ite_none h17
                refine Run.sreg tied [] [] [] [0 ≤ u2_0, u2_0 ≤ ((64 : Nat) : Int)] (by kernel_rfl) ⟨hv5.1, hv5.2, trivial⟩ ?_
                obtain ⟨hv6, h17⟩ := ite_none h17
                refine Run.sregA tied [] [] [] [0 ≤ ((min (List.length u2_1) (64 - (Int.toNat u2_0)) : Nat) : Int), ((min (List.length u2_1) (64 - (Int.toNat u2_0)) : Nat) : Int) ≤ (List.length u2_1 : Int)] (by kernel_rfl) ⟨hv6.1, hv6.2, trivial⟩ ?_
                refine Run.sreg tied [] [] [] [] (by kernel_rfl) trivial ?_
                rcases ite_some h17 with ⟨hc9, h17⟩ | ⟨hc9, h17⟩
                · refine Run.condT (b := decide ((w64 (u2_0 + ((min (List.length u2_1) (64 - (Int.toNat u2_0)) : Nat) : Int))) = (64 : Int))) (by kernel_rfl) hc9 ?_
                  obtain ⟨y7, hy8, h17⟩ := bind_some h17
                  refine Run.sreg tied [⟨(.tup .nil), [(0, 0), (1, 20)], [], [(0, (.var T106 (.val T106 y7.1))), (1, (.var T112 (.val T112 y7.2)))], 227⟩] [] [] [Fc Tryd.prog gl 69 [(.ptr 0 []), (.asl 1 [] 0 (64 - 0))] (hset (List.replicate 227 none) [(0, some (.var T106 (.val T106 u2_2))), (1, some (.var T112 (.val T112 (spl u2_3 (List.take (min (List.length u2_1) (64 - (Int.toNat u2_0))) u2_1) (Int.toNat u2_0)))))]) (.ret (.tup .nil)) (outH 227 [(0, (.var T106 (.val T106 y7.1))), (1, (.var T112 (.val T112 y7.2)))])] (by kernel_rfl) ⟨x69_s1 _ _ _ _ _ hy8, trivial⟩ ?_
                  refine Run.reg tied [] [] [] [] (by kernel_rfl) trivial ?_
                  refine bN ?_
                  exact loopJ.mk [.keep [0, 4, 5, 6, 8, 11, 12, 13] [0, 20]] (by kernel_rfl) ⟨_, _, _, _, h17, rfl⟩
                · refine Run.condF (b := decide ((w64 (u2_0 + ((min (List.length u2_1) (64 - (Int.toNat u2_0)) : Nat) : Int))) = (64 : Int))) (by kernel_rfl) hc9 ?_
                  refine Run.skip ?_
                  refine bN ?_
                  exact loopJ.mk [.keep [0, 4, 5, 6, 8, 11, 12, 13] [0, 20]] (by kernel_rfl) ⟨_, _, _, _, h17, rfl⟩
              · refine Run.condF (b := decide ((0 : Int) < (List.length u2_1 : Int))) (by kernel_rfl) hc10 ?_
                refine Run.exit ?_
                refine tE ?_
                refine lE ?_
                refine bE ?_
                obtain rfl := Option.some.inj h17
                exact jQ.mk [.keep [0, 4, 5, 6, 11, 12, 13] [0, 20]] (by kernel_rfl) rfl
          · rintro _ rfl
            refine bN ?_
            obtain rfl := Option.some.inj h11
            exact jQ.mk [.keep [0, 4, 5, 6, 11, 12, 13] [0, 20]] (by kernel_rfl) rfl
        · rintro _ rfl
          refine Run.reg tied [] [] [] [] (by kernel_rfl) trivial ?_
          exact loopJ.mk [.keep [0, 4, 5, 6, 11, 12, 13] [0, 20]] (by kernel_rfl) ⟨_, _, _, _, _, h10, rfl⟩
      · refine Run.condF (b := decide (u1_2 < (List.length a0 : Int))) (by kernel_rfl) hc11 ?_
        refine Run.exit ?_
        refine tE ?_
        refine lE ?_
        refine bE ?_
        obtain rfl := Option.some.inj h10
        exact jQ.mk [.keep [0, 4, 5, 6] [0, 20]] (by kernel_rfl) rfl
  · rintro _ rfl
    obtain ⟨hv12, h⟩ := ite_none h
    refine Run.sreg tied [] [] [] [0 ≤ o1.1, o1.1 < (64 : Int)] (by kernel_rfl) ⟨hv12.1, hv12.2, trivial⟩ ?_
    obtain ⟨hv13, h⟩ := ite_none h
    refine Run.sreg tied [] [] [] [0 ≤ (w64 (o1.1 + (1 : Int))), (w64 (o1.1 + (1 : Int))) ≤ ((64 : Nat) : Int)] (by kernel_rfl) ⟨hv13.1, hv13.2, trivial⟩ ?_
    obtain ⟨o14, h18, h⟩ := bind_some h
    refine Run.seqJ (fun σ' => σ' = mkSt 69 109 [(0, (.func (.func 69) (.cons (.ptr 0 []) .nil) .nil)), (4, (.ptr 20 [])), (6, (.val (.int .u64) o1.2.1))] [(0, some (.var T106 (.val T106 o14.1))), (20, some (.var T112 (.val T112 o14.2)))]) ?_ ?_
    · refine Run.sreg tied [] [] [] [] (by kernel_rfl) trivial ?_
      rcases ite_some h18 with ⟨hc17, h18⟩ | ⟨hc17, h18⟩
      · refine Run.condT (b := decide ((56 : Int) < (w64 (o1.1 + (1 : Int))))) (by kernel_rfl) hc17 ?_
        obtain ⟨y15, hy16, h18⟩ := bind_some h18
        refine Run.sreg tied [⟨(.tup .nil), [(0, 0), (1, 20)], [], [(0, (.var T106 (.val T106 y15.1))), (1, (.var T112 (.val T112 y15.2)))], 227⟩] [] [] [Fc Tryd.prog gl 69 [(.ptr 0 []), (.asl 1 [] 0 (64 - 0))] (hset (List.replicate 227 none) [(0, some (.var T106 (.val T106 o1.2.2.1))), (1, some (.var T112 (.val T112 (spl (List.set o1.2.2.2 (Int.toNat o1.1) (128 : Int)) (List.replicate (64 - (Int.toNat (w64 (o1.1 + (1 : Int))))) (0 : Int)) (Int.toNat (w64 (o1.1 + (1 : Int))))))))]) (.ret (.tup .nil)) (outH 227 [(0, (.var T106 (.val T106 y15.1))), (1, (.var T112 (.val T112 y15.2)))])] (by kernel_rfl) ⟨x69_s1 _ _ _ _ _ hy16, trivial⟩ ?_
        refine Run.reg tied [] [] [] [] (by kernel_rfl) trivial ?_
        obtain rfl := Option.some.inj h18
        exact jQ.mk [.keep [0, 4, 6] [0, 20]] (by kernel_rfl) rfl
      · refine Run.condF (b := decide ((56 : Int) < (w64 (o1.1 + (1 : Int))))) (by kernel_rfl) hc17 ?_
        refine Run.skip ?_
        obtain rfl := Option.some.inj h18
        exact jQ.mk [.keep [0, 4, 6] [0, 20]] (by kernel_rfl) rfl
    · rintro _ rfl
      obtain ⟨o18, h19, h⟩ := bind_some h
      refine Run.seqJ (fun σ' => σ' = mkSt 69 109 [(0, (.func (.func 69) (.cons (.ptr 0 []) .nil) .nil)), (4, (.ptr 20 []))] [(0, some (.var T106 (.val T106 o14.1))), (20, some (.var T112 (.val T112 o18)))]) ?_ ?_
      · refine Run.sreg tied [] [] [] [] (by kernel_rfl) trivial ?_
        refine Run.block ?_
        refine Run.loopJ (fun n σ => ∃ (u3_0 : Int) (u3_1 : D112), f68_s1_l3 o1 o14 n u3_0 u3_1 = some o18 ∧ σ = mkSt 69 109 [(0, (.func (.func 69) (.cons (.ptr 0 []) .nil) .nil)), (4, (.ptr 20 [])), (6, (.val (.int .u64) o1.2.1)), (53, (.val (.int .i64) u3_0))] [(0, some (.var T106 (.val T106 o14.1))), (20, some (.var T112 (.val T112 u3_1)))]) [.keep [0, 4, 6, 53] [0, 20]] (by kernel_rfl) ⟨_, _, h19, rfl⟩ ?_
        rintro n3 _ ⟨u3_0, u3_1, h21, rfl⟩
        cases n3 with
        | zero => exact absurd h21 (by simp [f68_s1_l3])
        | succ n3 =>
          unfold f68_s1_l3 at h21
          refine Run.sreg tied [] [] [] [] (by kernel_rfl) trivial ?_
          refine Run.seq ?_
          rcases ite_some h21 with ⟨hc21, h21⟩ | ⟨hc21, h21⟩
          · refine Run.condT (b := decide (u3_0 < (8 : Int))) (by kernel_rfl) hc21 ?_
            refine Run.skip ?_
            change Run _ _ _ _ _
            refine Run.seq ?_
            refine Run.block ?_
            refine Run.sreg tied [] [] [] [] (by kernel_rfl) trivial ?_
            obtain ⟨hv19, h21⟩ := ite_none h21
            obtain ⟨hv20, h21⟩ := ite_none h21
            refine Run.reg tied [] [] [] [0 ≤ (w64 ((8 : Int) * u3_0)), 0 ≤ (w64 ((63 : Int) - u3_0)), (w64 ((63 : Int) - u3_0)) < (64 : Int)] (by kernel_rfl) ⟨hv19, hv20.1, hv20.2, trivial⟩ ?_
            refine bN ?_
            change Run _ _ _ _ _
            refine Run.reg tied [] [] [] [] (by kernel_rfl) trivial ?_
            exact loopJ.mk [.keep [0, 4, 6, 53] [0, 20]] (by kernel_rfl) ⟨_, _, h21, rfl⟩
          · refine Run.condF (b := decide (u3_0 < (8 : Int))) (by kernel_rfl) hc21 ?_
            refine Run.exit ?_
            refine tE ?_
            refine lE ?_
            refine bE ?_
            obtain rfl := Option.some.inj h21
            exact jQ.mk [.keep [0, 4] [0, 20]] (by kernel_rfl) rfl
      · rintro _ rfl
        obtain ⟨y22, hy23, h⟩ := bind_some h
        refine Run.reg tied [⟨(.tup .nil), [(0, 0), (1, 20)], [], [(0, (.var T106 (.val T106 y22.1))), (1, (.var T112 (.val T112 y22.2)))], 227⟩] [] [] [Fc Tryd.prog gl 69 [(.ptr 0 []), (.asl 1 [] 0 (64 - 0))] (hset (List.replicate 227 none) [(0, some (.var T106 (.val T106 o14.1))), (1, some (.var T112 (.val T112 o18)))]) (.ret (.tup .nil)) (outH 227 [(0, (.var T106 (.val T106 y22.1))), (1, (.var T112 (.val T112 y22.2)))])] (by kernel_rfl) ⟨x69_s1 _ _ _ _ _ hy23, trivial⟩ ?_
        obtain rfl := Option.some.inj h
        exact (fQ_fin [.keep [] [0]] [] (msk 109 [0]) (by kernel_rfl)).2

/-- testamur.digest.hash -/
def f66_l1 (y1 : D106) : Nat → Int → D44 → Option D44
  | 0, _, _ => none
  | n1 + 1, u1_0, u1_1 => if (decide (u1_0 < (32 : Int))) = true then (if 0 ≤ (w64 (Int.tdiv u1_0 (4 : Int))) ∧ (w64 (Int.tdiv u1_0 (4 : Int))) < (8 : Int) then (if 0 ≤ (w64 ((24 : Int) - (w64 ((8 : Int) * (Int.tmod u1_0 (4 : Int)))))) then (if 0 ≤ u1_0 ∧ u1_0 < (32 : Int) then (f66_l1 y1 n1 (w64 (u1_0 + (1 : Int))) (List.set u1_1 (Int.toNat u1_0) (IntKind.u8.wrap (Int.fdiv (nth (.int .u32) y1 (w64 (Int.tdiv u1_0 (4 : Int)))) (2 ^ (min (Int.toNat (w64 ((24 : Int) - (w64 ((8 : Int) * (Int.tmod u1_0 (4 : Int))))))) 32)))))) else none) else none) else none) else (some u1_1)

def f66 (a0 : List (List Int)) : Option D44 :=
  Option.bind (f68_s1 a0 [(1779033703 : Int), (3144134277 : Int), (1013904242 : Int), (2773480762 : Int), (1359893119 : Int), (2600822924 : Int), (528734635 : Int), (1541459225 : Int)]) fun y1 => Option.bind (f66_l1 y1 (Int.toNat (32 : Int) + 1) (0 : Int) (Ty.dflt T44)) fun (o3 : D44) => some o3

set_option maxRecDepth 100000 in
theorem x66 (a0 : List (List Int)) (r : D44) (h : f66 a0 = some r) : Fc Tryd.prog gl 66 [(.val (.slice 24 (.slice 1 (.int .u8))) a0)] (hset (List.replicate 66 none) []) (.ret (.val T44 r)) (outH 66 []) := by
  refine Fc.of Tryd.call66 (FnEx.of_runF tied Tryd.func66 rfl rfl (σ0 := mkSt 26 66 [(0, (.val (.slice 24 (.slice 1 (.int .u8))) a0))] []) (by kernel_rfl) ?_)
  unfold f66 at h
  refine Run.sreg tied [] [] [] [] (by kernel_rfl) trivial ?_
  refine Run.sreg tied [] [] [] [] (by kernel_rfl) trivial ?_
  obtain ⟨y1, hy2, h⟩ := bind_some h
  refine Run.sreg tied [⟨(.tup .nil), [(0, 19)], [], [(0, (.var T106 (.val T106 y1)))], 109⟩] [] [] [Fc Tryd.prog gl 68 [(.func (.func 69) (.cons (.ptr 0 []) .nil) .nil), (.val (.slice 24 (.slice 1 (.int .u8))) a0)] (hset (List.replicate 109 none) [(0, some (.var T106 (.val T106 [(1779033703 : Int), (3144134277 : Int), (1013904242 : Int), (2773480762 : Int), (1359893119 : Int), (2600822924 : Int), (528734635 : Int), (1541459225 : Int)])))]) (.ret (.tup .nil)) (outH 109 [(0, (.var T106 (.val T106 y1)))])] (by kernel_rfl) ⟨x68_s1 _ _ _ hy2, trivial⟩ ?_
  obtain ⟨o3, h1, h⟩ := bind_some h
  refine Run.seqJ (fun σ' => σ' = mkSt 26 66 [(2, (.ptr 18 []))] [(18, some (.var T44 (.val T44 o3)))]) ?_ ?_
  · refine Run.sreg tied [] [] [] [] (by kernel_rfl) trivial ?_
    refine Run.block ?_
    refine Run.loopJ (fun n σ => ∃ (u1_0 : Int) (u1_1 : D44), f66_l1 y1 n u1_0 u1_1 = some o3 ∧ σ = mkSt 26 66 [(2, (.ptr 18 [])), (3, (.ptr 19 [])), (9, (.val (.int .i64) u1_0))] [(18, some (.var T44 (.val T44 u1_1))), (19, some (.var T106 (.val T106 y1)))]) [.keep [2, 3, 9] [18, 19]] (by kernel_rfl) ⟨_, _, h1, rfl⟩ ?_
    rintro n1 _ ⟨u1_0, u1_1, h3, rfl⟩
    cases n1 with
    | zero => exact absurd h3 (by simp [f66_l1])
    | succ n1 =>
      unfold f66_l1 at h3
      refine Run.sreg tied [] [] [] [] (by kernel_rfl) trivial ?_
      refine Run.seq ?_
      rcases ite_some h3 with ⟨hc7, h3⟩ | ⟨hc7, h3⟩
      · refine Run.condT (b := decide (u1_0 < (32 : Int))) (by kernel_rfl) hc7 ?_
        refine Run.skip ?_
        change Run _ _ _ _ _
        refine Run.seq ?_
        refine Run.block ?_
        refine Run.sreg tied [] [] [] [] (by kernel_rfl) trivial ?_
        obtain ⟨hv4, h3⟩ := ite_none h3
        obtain ⟨hv5, h3⟩ := ite_none h3
        obtain ⟨hv6, h3⟩ := ite_none h3
        refine Run.reg tied [] [] [] [(4 : Int) ≠ 0, 0 ≤ (w64 (Int.tdiv u1_0 (4 : Int))), (w64 (Int.tdiv u1_0 (4 : Int))) < (8 : Int), (4 : Int) ≠ 0, 0 ≤ (w64 ((24 : Int) - (w64 ((8 : Int) * (Int.tmod u1_0 (4 : Int)))))), 0 ≤ u1_0, u1_0 < (32 : Int)] (by kernel_rfl) ⟨(by decide), hv4.1, hv4.2, (by decide), hv5, hv6.1, hv6.2, trivial⟩ ?_
        refine bN ?_
        change Run _ _ _ _ _
        refine Run.reg tied [] [] [] [] (by kernel_rfl) trivial ?_
        exact loopJ.mk [.keep [2, 3, 9] [18, 19]] (by kernel_rfl) ⟨_, _, h3, rfl⟩
      · refine Run.condF (b := decide (u1_0 < (32 : Int))) (by kernel_rfl) hc7 ?_
        refine Run.exit ?_
        refine tE ?_
        refine lE ?_
        refine bE ?_
        obtain rfl := Option.some.inj h3
        exact jQ.mk [.keep [2] [18]] (by kernel_rfl) rfl
  · rintro _ rfl
    refine Run.sreg tied [] [] [] [] (by kernel_rfl) trivial ?_
    refine Run.ret ?_
    obtain rfl := Option.some.inj h
    exact (fQ_fin [] [some T44] (msk 66 []) (by kernel_rfl)).1

/-- testamur.digest.Tagged -/
def f61 (a0 : List UInt8) (a1 : List Int) : Option D44 :=
  Option.bind (f66 [bytesOf a0]) fun y1 => Option.bind (f66 [cutList y1 0 32, a1]) fun y3 => some y3

set_option maxRecDepth 100000 in
theorem x61 (a0 : List UInt8) (a1 : List Int) (r : D44) (h : f61 a0 a1 = some r) : Fc Tryd.prog gl 61 [(.val .str a0), (.val (.slice 1 (.int .u8)) a1)] (hset (List.replicate 54 none) []) (.ret (.val T44 r)) (outH 54 []) := by
  refine Fc.of Tryd.call61 (FnEx.of_runF tied Tryd.func61 rfl rfl (σ0 := mkSt 14 54 [(0, (.val .str a0)), (1, (.val (.slice 1 (.int .u8)) a1))] []) (by kernel_rfl) ?_)
  unfold f61 at h
  refine Run.sreg tied [] [] [] [] (by kernel_rfl) trivial ?_
  obtain ⟨y1, hy2, h⟩ := bind_some h
  refine Run.sreg tied [⟨(.val T44 y1), [], [], [], 66⟩] [] [] [Fc Tryd.prog gl 66 [(.val (.slice 24 (.slice 1 (.int .u8))) [bytesOf a0])] (hset (List.replicate 66 none) []) (.ret (.val T44 y1)) (outH 66 [])] (by kernel_rfl) ⟨x66 _ _ hy2, trivial⟩ ?_
  refine Run.gh [.freeze 21 (.slice 1 (.int .u8))] (σ' := mkSt 14 54 [(0, (.val .str a0)), (1, (.val (.slice 1 (.int .u8)) a1)), (4, (.ptr 20 [])), (5, (.vptr T44 y1)), (6, (.val .str a0)), (7, (.val (.slice 1 (.int .u8)) (bytesOf a0))), (8, (.own 24)), (9, (.val T44 y1))] [(20, some (.var T44 (.val T44 (Ty.dflt T44)))), (24, some (.row 99 24 (.slice 1 (.int .u8)) [bytesOf a0]))]) (by kernel_rfl) ?_
  obtain ⟨y3, hy4, h⟩ := bind_some h
  refine Run.sreg tied [⟨(.val T44 y3), [], [], [], 66⟩] [] [] [Fc Tryd.prog gl 66 [(.val (.slice 24 (.slice 1 (.int .u8))) [cutList y1 0 32, a1])] (hset (List.replicate 66 none) []) (.ret (.val T44 y3)) (outH 66 [])] (by kernel_rfl) ⟨x66 _ _ hy4, trivial⟩ ?_
  refine Run.ret ?_
  obtain rfl := Option.some.inj h
  exact (fQ_fin [] [some T44] (msk 54 []) (by kernel_rfl)).1

/-- testamur.chains.begin -/
def f54 (a0 : D44) (a1 : Int) : Option D44 :=
  Option.bind (f62 [cutList a0 0 32, [IntKind.u8.wrap (a1)]]) fun y1 => Option.bind (f61 [99, 104, 97, 105, 110] y1) fun y3 => some y3

set_option maxRecDepth 100000 in
theorem x54 (a0 : D44) (a1 : Int) (r : D44) (h : f54 a0 a1 = some r) : Fc Tryd.prog gl 54 [(.val T44 a0), (.val (.int .i64) a1)] (hset (List.replicate 52 none) []) (.ret (.val T44 r)) (outH 52 []) := by
  refine Fc.of Tryd.call54 (FnEx.of_runF tied Tryd.func54 rfl rfl (σ0 := mkSt 12 52 [(0, (.val T44 a0)), (1, (.val (.int .i64) a1))] []) (by kernel_rfl) ?_)
  unfold f54 at h
  refine Run.sreg tied [] [] [] [] (by kernel_rfl) trivial ?_
  refine Run.gh [.freeze 18 (.slice 1 (.int .u8))] (σ' := mkSt 12 52 [(0, (.val T44 a0)), (1, (.val (.int .i64) a1)), (2, (.vptr T44 a0)), (4, (.ptr 20 []))] [(20, some (.var T44 (.val T44 (Ty.dflt T44))))]) (by kernel_rfl) ?_
  obtain ⟨y1, hy2, h⟩ := bind_some h
  obtain ⟨y3, hy4, h⟩ := bind_some h
  refine Run.sreg tied [⟨(.val (.slice 1 (.int .u8)) y1), [], [], [], 56⟩, ⟨(.val T44 y3), [], [], [], 54⟩] [] [(4, 8, (.slice 1 (.int .u8))), (5, 9, (.slice 24 (.slice 1 (.int .u8))))] [Fc Tryd.prog gl 62 [(.val (.slice 24 (.slice 1 (.int .u8))) [cutList a0 0 32, [IntKind.u8.wrap (a1)]])] (hset (List.replicate 56 none) []) (.ret (.val (.slice 1 (.int .u8)) y1)) (outH 56 []), Fc Tryd.prog gl 61 [(.val .str [99, 104, 97, 105, 110]), (.val (.slice 1 (.int .u8)) y1)] (hset (List.replicate 54 none) []) (.ret (.val T44 y3)) (outH 54 [])] (by kernel_rfl) ⟨x62 _ _ hy2, x61 _ _ _ hy4, trivial⟩ ?_
  refine Run.ret ?_
  obtain rfl := Option.some.inj h
  exact (fQ_fin [] [some T44] (msk 52 []) (by kernel_rfl)).1

/-- testamur.chains.elements -/
def f60_s1 (a0 : D44) : Option D44 :=
  some a0

set_option maxRecDepth 100000 in
theorem x60_s1 (a0 : D44) (r : D44) (h : f60_s1 a0 = some r) : Fc Tryd.prog gl 60 [(.val T44 a0)] (hset (List.replicate 44 none) []) (.ret (.func (.func 65) .nil (.cons (.ptr 17 []) .nil))) (outH 44 [(17, (.var T44 (.val T44 r)))]) := by
  refine Fc.of Tryd.call60 (FnEx.of_runF tied Tryd.func60 rfl rfl (σ0 := mkSt 4 44 [(0, (.val T44 a0))] []) (by kernel_rfl) ?_)
  unfold f60_s1 at h
  refine Run.sreg tied [] [] [] [] (by kernel_rfl) trivial ?_
  refine Run.sreg tied [] [] [] [] (by kernel_rfl) trivial ?_
  refine Run.ret ?_
  obtain rfl := Option.some.inj h
  exact (fQ_fin [.keep [2] [17]] [none] (msk 44 [17]) (by kernel_rfl)).1

/-- testamur.chains.elements$1 -/
def f65_s1_l1 (yf : D44 → Int → D44 → Option (Ctl (Int × D44) (Nat × (Int × D44)))) : Nat → D44 → Int → D44 → Option (Nat × Int × D44 × D44)
  | 0, _, _, _ => none
  | n1 + 1, u1_0, u1_1, u1_2 => Option.bind (yf u1_0 u1_1 u1_2) fun y2 => match y2 with | .brk y4 => (Option.bind (f61 [115, 116, 101, 112] (List.take (32 - 0) (List.drop 0 u1_0))) fun y6 => f65_s1_l1 yf n1 y6 y4.1 y4.2) | .ret y5 => (some (y5.1 + 1, y5.2.1, y5.2.2, u1_0))

def f65_s1 (yf : D44 → Int → D44 → Option (Ctl (Int × D44) (Nat × (Int × D44)))) (a0 : Int) (a1 : D44) (a2 : D44) : Option (Nat × Int × D44 × D44) :=
  Option.bind (f65_s1_l1 yf (big) a2 a0 a1) fun (o1 : Nat × Int × D44 × D44) => some (o1.1, o1.2.1, o1.2.2.1, o1.2.2.2)

set_option maxRecDepth 100000 in
theorem x65_s1 (B : (Nat → Prop) → World → Prop) (hB : ∀ {S S' : Nat → Prop} {w w' : World}, (∀ b, S b → w'.heap[b]? = w.heap[b]?) → (∀ b, S b → S' b) → B S w → B S' w') (l : Nat) (gs : Nat → Nat) (rec : Nat → Loop) (yf : D44 → Int → D44 → Option (Ctl (Int × D44) (Nat × (Int × D44)))) (hyf : ∀ (b1_0 : D44) (d1_0 : Int) (d1_1 : D44) (y : Ctl (Int × D44) (Nat × (Int × D44))), yf b1_0 d1_0 d1_1 = some y → Fy Tryd.prog (gl.wB B hB) l [(.val T44 b1_0)] (hset (List.replicate 55 none) [(0, some (.lp l (rec 0))), (1, some (.tv (gs 1) (.int .i64) (.val (.int .i64) d1_0))), (2, some (.tv (gs 2) T44 (.val T44 d1_1)))]) (.ret (.val .bool (Nat.beq (jOf y) 0))) (outH 55 [(0, (.lp l (rec (jOf y)))), (1, (.tv (gs 1) (.int .i64) (.val (.int .i64) ((dOf y).1)))), (2, (.tv (gs 2) T44 (.val T44 ((dOf y).2))))])) (a0 : Int) (a1 : D44) (a2 : D44) (r : Nat × Int × D44 × D44) (h : f65_s1 yf a0 a1 a2 = some r) : Fc Tryd.prog (gl.wB B hB) 65 [(.func (.yield l) .nil .nil), (.ptr 3 [])] (hset (List.replicate 48 none) [(0, some (.lp l (rec 0))), (1, some (.tv (gs 1) (.int .i64) (.val (.int .i64) a0))), (2, some (.tv (gs 2) T44 (.val T44 a1))), (3, some (.var T44 (.val T44 a2)))]) (.ret (.tup .nil)) (outH 48 [(0, (.lp l (rec r.1))), (1, (.tv (gs 1) (.int .i64) (.val (.int .i64) r.2.1))), (2, (.tv (gs 2) T44 (.val T44 r.2.2.1))), (3, (.var T44 (.val T44 r.2.2.2)))]) := by
  refine Fc.of Tryd.call65 (FnEx.of_runF tied Tryd.func65 rfl rfl (σ0 := mkSt 8 48 [(0, (.func (.yield l) .nil .nil)), (1, (.ptr 3 []))] [(0, some (.lp l (rec 0))), (1, some (.tv (gs 1) (.int .i64) (.val (.int .i64) a0))), (2, some (.tv (gs 2) T44 (.val T44 a1))), (3, some (.var T44 (.val T44 a2)))]) (by kernel_rfl) ?_)
  unfold f65_s1 at h
  obtain ⟨o1, h1, h⟩ := bind_some h
  refine Run.lastJ (fun σ' => σ' = mkSt 8 48 [] [(0, some (.lp l (rec o1.1))), (1, some (.tv (gs 1) (.int .i64) (.val (.int .i64) o1.2.1))), (2, some (.tv (gs 2) T44 (.val T44 o1.2.2.1))), (3, some (.var T44 (.val T44 o1.2.2.2)))]) Cl.f ?_ ?_
  · refine Run.block ?_
    refine Run.loopJ (fun n σ => ∃ (u1_0 : D44) (u1_1 : Int) (u1_2 : D44), f65_s1_l1 yf n u1_0 u1_1 u1_2 = some o1 ∧ σ = mkSt 8 48 [(0, (.func (.yield l) .nil .nil)), (1, (.ptr 3 []))] [(0, some (.lp l (rec 0))), (1, some (.tv (gs 1) (.int .i64) (.val (.int .i64) u1_1))), (2, some (.tv (gs 2) T44 (.val T44 u1_2))), (3, some (.var T44 (.val T44 u1_0)))]) [.keep [0, 1] [0, 1, 2, 3]] (by kernel_rfl) ⟨_, _, _, h1, rfl⟩ ?_
    rintro n1 _ ⟨u1_0, u1_1, u1_2, h3, rfl⟩
    cases n1 with
    | zero => exact absurd h3 (by simp [f65_s1_l1])
    | succ n1 =>
      unfold f65_s1_l1 at h3
      refine Run.seq ?_
      obtain ⟨y2, hy3, h3⟩ := bind_some h3
      cases y2 with
      | brk y4 =>
        dsimp only at h3
        refine Run.sreg tied [⟨(.val .bool true), [(0, 0), (1, 1), (2, 2)], [], [(0, (.lp l (rec 0))), (1, (.tv (gs 1) (.int .i64) (.val (.int .i64) y4.1))), (2, (.tv (gs 2) T44 (.val T44 y4.2)))], 55⟩] [] [] [Fy Tryd.prog (gl.wB B hB) l [(.val T44 u1_0)] (hset (List.replicate 55 none) [(0, some (.lp l (rec 0))), (1, some (.tv (gs 1) (.int .i64) (.val (.int .i64) u1_1))), (2, some (.tv (gs 2) T44 (.val T44 u1_2)))]) (.ret (.val .bool true)) (outH 55 [(0, (.lp l (rec 0))), (1, (.tv (gs 1) (.int .i64) (.val (.int .i64) y4.1))), (2, (.tv (gs 2) T44 (.val T44 y4.2)))])] (by kernel_rfl) ⟨hyf _ _ _ _ hy3, trivial⟩ ?_
        refine Run.condT (b := true) (by kernel_rfl) rfl ?_
        refine Run.skip ?_
        change Run _ _ _ _ _
        refine Run.block ?_
        obtain ⟨y6, hy7, h3⟩ := bind_some h3
        refine Run.reg tied [⟨(.val T44 y6), [], [], [], 54⟩] [] [] [Fc Tryd.prog (gl.wB B hB) 61 [(.val .str [115, 116, 101, 112]), (.val (.slice 1 (.int .u8)) (List.take (32 - 0) (List.drop 0 u1_0)))] (hset (List.replicate 54 none) []) (.ret (.val T44 y6)) (outH 54 [])] (by kernel_rfl) ⟨Fc.up (C := gl) rfl (fun _ _ => trivial) (x61 _ _ _ hy7), trivial⟩ ?_
        refine bN ?_
        exact loopJ.mk [.keep [0, 1] [0, 1, 2, 3]] (by kernel_rfl) ⟨_, _, _, h3, rfl⟩
      | ret y5 =>
        dsimp only at h3
        refine Run.sreg tied [⟨(.val .bool false), [(0, 0), (1, 1), (2, 2)], [], [(0, (.lp l (rec (y5.1 + 1)))), (1, (.tv (gs 1) (.int .i64) (.val (.int .i64) y5.2.1))), (2, (.tv (gs 2) T44 (.val T44 y5.2.2)))], 55⟩] [] [] [Fy Tryd.prog (gl.wB B hB) l [(.val T44 u1_0)] (hset (List.replicate 55 none) [(0, some (.lp l (rec 0))), (1, some (.tv (gs 1) (.int .i64) (.val (.int .i64) u1_1))), (2, some (.tv (gs 2) T44 (.val T44 u1_2)))]) (.ret (.val .bool false)) (outH 55 [(0, (.lp l (rec (y5.1 + 1)))), (1, (.tv (gs 1) (.int .i64) (.val (.int .i64) y5.2.1))), (2, (.tv (gs 2) T44 (.val T44 y5.2.2)))])] (by kernel_rfl) ⟨hyf _ _ _ _ hy3, trivial⟩ ?_
        refine Run.condF (b := false) (by kernel_rfl) rfl ?_
        refine Run.exit ?_
        refine tE ?_
        refine lE ?_
        refine bE ?_
        obtain rfl := Option.some.inj h3
        exact jQ.mk [.keep [] [0, 1, 2, 3]] (by kernel_rfl) rfl
  · rintro _ rfl
    obtain rfl := Option.some.inj h
    exact (fQ_fin [.keep [] [0, 1, 2, 3]] [] (msk 48 [0, 1, 2, 3]) (by kernel_rfl)).2

/-- testamur.chains.after -/
def f53_b1 (b1_0 : D44) (d1_0 : Int) (d1_1 : D44) : Option (Ctl (Int × D44) (Nat × (Int × D44))) :=
  if (decide (d1_0 ≤ (0 : Int))) = true then (some (.ret (0, (d1_0, b1_0)))) else (some (.brk (w64 (d1_0 - (1 : Int)), d1_1)))

def f53 (a0 : D44) (a1 : Int) : Option D44 :=
  Option.bind (f60_s1 a0) fun y1 => Option.bind (f65_s1 (f53_b1) a1 (Ty.dflt T44) y1) fun y4 => if Nat.beq y4.1 0 = true then (some a0) else (if Nat.beq y4.1 1 = true then (some y4.2.2.1) else none)

set_option maxRecDepth 100000 in
theorem x53 (a0 : D44) (a1 : Int) (r : D44) (h : f53 a0 a1 = some r) : Fc Tryd.prog gl 53 [(.val T44 a0), (.val (.int .i64) a1)] (hset (List.replicate 55 none) []) (.ret (.val T44 r)) (outH 55 []) := by
  refine Fc.of Tryd.call53 (FnEx.of_runM tied Tryd.func53 rfl rfl (σ0 := mkSt 15 55 [(0, (.val T44 a0)), (1, (.val (.int .i64) a1))] []) (by kernel_rfl) ?_)
  unfold f53 at h
  refine Run.sreg tied [] [] [] [] (by kernel_rfl) trivial ?_
  refine Run.seq ?_
  obtain ⟨y1, hy2, h⟩ := bind_some h
  refine Run.sreg tied [⟨(.func (.func 65) .nil (.cons (.ptr 17 []) .nil)), [], [(17, 23)], [(17, (.var T44 (.val T44 y1)))], 44⟩] [] [] [Fc Tryd.prog gl 60 [(.val T44 a0)] (hset (List.replicate 44 none) []) (.ret (.func (.func 65) .nil (.cons (.ptr 17 []) .nil))) (outH 44 [(17, (.var T44 (.val T44 y1)))])] (by kernel_rfl) ⟨x60_s1 _ _ hy2, trivial⟩ ?_
  refine Run.block ?_
  refine Run.gh [.keep [2, 3, 4, 7] [18, 19, 20, 23], .keep [2, 3, 4, 7] [18, 19, 20, 23]] (σ' := mkSt 15 55 [(2, (.ptr 18 [])), (3, (.ptr 19 [])), (4, (.ptr 20 [])), (7, (.func (.func 65) .nil (.cons (.ptr 23 []) .nil)))] [(18, some (.var T44 (.val T44 a0))), (19, some (.var (.int .i64) (.val (.int .i64) a1))), (20, some (.var T44 (.val T44 (Ty.dflt T44)))), (23, some (.var T44 (.val T44 y1)))]) (by kernel_rfl) ?_
  obtain ⟨y4, hy5, h⟩ := bind_some h
  refine Run.rangeFunc (gf := 65) (cs := (.cons (.ptr 23 []) .nil)) rfl (by kernel_rfl) 31 32 0 rfl rfl rfl rfl rfl [(1, (.int .i64)), (2, T44)] [(19, 1), (20, 2)] rfl (by kernel_rfl) rfl [.ret] y4.1 (fun gs l rec => ⟨(.tup .nil), [(0, 32), (1, 19), (2, 20), (3, 23)], [], [(0, (.lp l (rec y4.1))), (1, (.tv (gs 1) (.int .i64) (.val (.int .i64) y4.2.1))), (2, (.tv (gs 2) T44 (.val T44 y4.2.2.1))), (3, (.var T44 (.val T44 y4.2.2.2)))], 48⟩) (fun l => [(.func (.yield l) .nil .nil), (.ptr 3 [])]) (fun gs l rec => [(0, some (.lp l (rec 0))), (1, some (.tv (gs 1) (.int .i64) (.val (.int .i64) a1))), (2, some (.tv (gs 2) T44 (.val T44 (Ty.dflt T44)))), (3, some (.var T44 (.val T44 y1)))]) (setAll [(18, some (.var T44 (.val T44 a0))), (19, some (.var (.int .i64) (.val (.int .i64) y4.2.1))), (20, some (.var T44 (.val T44 y4.2.2.1))), (23, some (.var T44 (.val T44 y4.2.2.2))), (31, some .dfr)] (List.replicate 55 none)) (fun _ _ _ => rfl) (fun _ _ _ => by kernel_rfl) (fun _ _ _ => by kernel_rfl) (fun _ _ _ => by kernel_rfl) (fun _ _ _ => by kernel_rfl) rfl (fun _ _ _ => ⟨by kernel_rfl, by kernel_rfl⟩) ?_ ?_
  · intro B hB l gs rec hof
    refine x65_s1 B hB l gs rec (f53_b1) ?_ _ _ _ _ hy5
    intro b1_0 d1_0 d1_1 yy h1_
    unfold f53_b1 at h1_
    refine hof.use yy [(.val T44 b1_0)] (hset (List.replicate 55 none) [(1, some (.var (.int .i64) (.val (.int .i64) d1_0))), (2, some (.var T44 (.val T44 d1_1)))]) (fun d => hset (List.replicate 55 none) [(1, some (.var (.int .i64) (.val (.int .i64) d.1))), (2, some (.var T44 (.val T44 d.2)))]) _ (fun j d => outH 55 [(0, (.lp l (rec j))), (1, (.tv (gs 1) (.int .i64) (.val (.int .i64) d.1))), (2, (.tv (gs 2) T44 (.val T44 d.2)))]) rfl rfl (fun _ => rfl) rfl (fun _ => rfl) (by kernel_rfl) (fun _ _ => by kernel_rfl) (σ := mkSt 15 55 [(3, (.ptr 1 [])), (4, (.ptr 2 [])), (8, (.val T44 b1_0))] [(1, some (.var (.int .i64) (.val (.int .i64) d1_0))), (2, some (.var T44 (.val T44 d1_1)))]) (by kernel_rfl) ?_
    refine Run.reg tied [] [] [] [] (by kernel_rfl) trivial ?_
    change Run _ _ _ _ _
    refine Run.block ?_
    refine Run.seq ?_
    refine Run.sreg tied [] [] [] [] (by kernel_rfl) trivial ?_
    rcases ite_some h1_ with ⟨hc3, h1_⟩ | ⟨hc3, h1_⟩
    · refine Run.condT (b := decide (d1_0 ≤ (0 : Int))) (by kernel_rfl) hc3 ?_
      refine Run.sreg tied [] [] [] [] (by kernel_rfl) trivial ?_
      refine Run.ret ?_
      obtain rfl := Option.some.inj h1_
      exact rndQ.r [.keep [] [1, 2]] (msk 55 [1, 2]) ⟨Nat.succ_ne_zero _, rfl⟩ (by kernel_rfl)
    · refine Run.condF (b := decide (d1_0 ≤ (0 : Int))) (by kernel_rfl) hc3 ?_
      refine Run.skip ?_
      change Run _ _ _ _ _
      refine Run.reg tied [] [] [] [] (by kernel_rfl) trivial ?_
      refine bN ?_
      obtain rfl := Option.some.inj h1_
      exact rndQ.n [.keep [] [1, 2]] (msk 55 [1, 2]) (by kernel_rfl)
  · rcases ite_some h with ⟨hc6, h⟩ | ⟨hc6, h⟩
    · refine hqN hc6 (σF := mkStD 15 55 [(2, (.ptr 18 [])), (3, (.ptr 19 [])), (4, (.ptr 20 [])), (7, (.func (.func 65) .nil (.cons (.ptr 23 []) .nil)))] [(18, some (.var T44 (.val T44 a0))), (19, some (.var (.int .i64) (.val (.int .i64) y4.2.1))), (20, some (.var T44 (.val T44 y4.2.2.1))), (23, some (.var T44 (.val T44 y4.2.2.2))), (31, some .dfr)] [(.mp 31)]) (by kernel_rfl) ?_
      refine bN ?_
      change Run _ _ _ _ _
      refine Run.sreg tied [] [] [] [] (by kernel_rfl) trivial ?_
      refine Run.ret ?_
      obtain rfl := Option.some.inj h
      exact (mQ_fin [] [some T44] (msk 55 []) (by kernel_rfl)).1
    · rcases ite_some h with ⟨hc6, h⟩ | ⟨hc6, h⟩
      · refine hqJ 0 (.ret) hc6 rfl (σF := mkStD 15 55 [(2, (.ptr 18 [])), (3, (.ptr 19 [])), (4, (.ptr 20 [])), (7, (.func (.func 65) .nil (.cons (.ptr 23 []) .nil)))] [(18, some (.var T44 (.val T44 a0))), (19, some (.var (.int .i64) (.val (.int .i64) y4.2.1))), (20, some (.var T44 (.val T44 y4.2.2.1))), (23, some (.var T44 (.val T44 y4.2.2.2))), (31, some .dfr)] [(.mp 31)]) (by kernel_rfl) ?_
        refine Run.ret ?_
        obtain rfl := Option.some.inj h
        exact (mQ_fin [] [some T44] (msk 55 []) (by kernel_rfl)).1
      · cases h

/-- testamur.chains.publicOf -/
def f55_l1  : Nat → D90 → Int → (List (List Int)) → Option (List (List Int))
  | 0, _, _, _ => none
  | n1 + 1, u1_0, u1_1, u1_2 => if (decide (u1_1 < (19 : Int))) = true then (if 0 ≤ u1_1 ∧ u1_1 < (19 : Int) then (if u1_1 < (List.length u1_2 : Int) then (f55_l1 n1 u1_0 (w64 (u1_1 + (1 : Int))) (List.set u1_2 (Int.toNat u1_1) (cutList (nth T44 u1_0 u1_1) 0 32))) else none) else none) else (some u1_2)

def f55 (a0 : D90) : Option D44 :=
  if (19 : Int) * (24 : Int) ≤ (maxB : Int) then (Option.bind (f55_l1 (Int.toNat (19 : Int) + 1) a0 (0 : Int) (List.replicate (Int.toNat (19 : Int)) (Ty.dflt (.slice 1 (.int .u8))))) fun (o2 : List (List Int)) => Option.bind (f62 o2) fun y6 => Option.bind (f61 [112, 117, 98, 108, 105, 99] y6) fun y8 => some y8) else none

set_option maxRecDepth 100000 in
theorem x55 (a0 : D90) (r : D44) (h : f55 a0 = some r) : Fc Tryd.prog gl 55 [(.val T90 a0)] (hset (List.replicate 59 none) []) (.ret (.val T44 r)) (outH 59 []) := by
  refine Fc.of Tryd.call55 (FnEx.of_runF tied Tryd.func55 rfl rfl (σ0 := mkSt 19 59 [(0, (.val T90 a0))] []) (by kernel_rfl) ?_)
  unfold f55 at h
  refine Run.sreg tied [] [] [] [] (by kernel_rfl) trivial ?_
  obtain ⟨hv1, h⟩ := ite_none h
  refine Run.sreg tied [] [] [] [0 ≤ (19 : Int), (19 : Int) ≤ (19 : Int), (19 : Int) * (24 : Int) ≤ (maxB : Int)] (by kernel_rfl) ⟨(by decide), (by decide), hv1, trivial⟩ ?_
  obtain ⟨o2, h1, h⟩ := bind_some h
  refine Run.seqJ (fun σ' => σ' = mkSt 19 59 [(2, (.ptr 18 [])), (3, (.own 21))] [(18, some (.var T44 (.val T44 (Ty.dflt T44)))), (21, some (.row 99 24 (.slice 1 (.int .u8)) o2))]) ?_ ?_
  · refine Run.sreg tied [] [] [] [] (by kernel_rfl) trivial ?_
    refine Run.block ?_
    refine Run.loopJ (fun n σ => ∃ (u1_0 : D90) (u1_1 : Int) (u1_2 : List (List Int)), f55_l1 n u1_0 u1_1 u1_2 = some o2 ∧ σ = mkSt 19 59 [(1, (.vptr T90 u1_0)), (2, (.ptr 18 [])), (3, (.own 21)), (6, (.val (.int .i64) u1_1))] [(18, some (.var T44 (.val T44 (Ty.dflt T44)))), (21, some (.row 99 24 (.slice 1 (.int .u8)) u1_2))]) [.freeze 17 (.slice 1 (.int .u8)), .keep [1, 2, 3, 6] [18, 21]] (by kernel_rfl) ⟨_, _, _, h1, rfl⟩ ?_
    rintro n1 _ ⟨u1_0, u1_1, u1_2, h3, rfl⟩
    cases n1 with
    | zero => exact absurd h3 (by simp [f55_l1])
    | succ n1 =>
      unfold f55_l1 at h3
      refine Run.sreg tied [] [] [] [] (by kernel_rfl) trivial ?_
      refine Run.seq ?_
      rcases ite_some h3 with ⟨hc5, h3⟩ | ⟨hc5, h3⟩
      · refine Run.condT (b := decide (u1_1 < (19 : Int))) (by kernel_rfl) hc5 ?_
        refine Run.skip ?_
        change Run _ _ _ _ _
        refine Run.seq ?_
        refine Run.block ?_
        refine Run.sreg tied [] [] [] [] (by kernel_rfl) trivial ?_
        obtain ⟨hv3, h3⟩ := ite_none h3
        obtain ⟨hv4, h3⟩ := ite_none h3
        refine Run.reg tied [] [] [] [0 ≤ u1_1, u1_1 < (19 : Int), 0 ≤ u1_1, u1_1 < (List.length u1_2 : Int)] (by kernel_rfl) ⟨hv3.1, hv3.2, hv3.1, hv4, trivial⟩ ?_
        refine bN ?_
        change Run _ _ _ _ _
        refine Run.reg tied [] [] [] [] (by kernel_rfl) trivial ?_
        exact loopJ.mk [.keep [1, 2, 3, 6] [18, 21]] (by kernel_rfl) ⟨_, _, _, h3, rfl⟩
      · refine Run.condF (b := decide (u1_1 < (19 : Int))) (by kernel_rfl) hc5 ?_
        refine Run.exit ?_
        refine tE ?_
        refine lE ?_
        refine bE ?_
        obtain rfl := Option.some.inj h3
        exact jQ.mk [.keep [2, 3] [18, 21]] (by kernel_rfl) rfl
  · rintro _ rfl
    refine Run.gh [.freeze 21 (.slice 24 (.slice 1 (.int .u8)))] (σ' := mkSt 19 59 [(2, (.ptr 18 [])), (3, (.val (.slice 24 (.slice 1 (.int .u8))) o2))] [(18, some (.var T44 (.val T44 (Ty.dflt T44))))]) (by kernel_rfl) ?_
    obtain ⟨y6, hy7, h⟩ := bind_some h
    obtain ⟨y8, hy9, h⟩ := bind_some h
    refine Run.sreg tied [⟨(.val (.slice 1 (.int .u8)) y6), [], [], [], 56⟩, ⟨(.val T44 y8), [], [], [], 54⟩] [] [] [Fc Tryd.prog gl 62 [(.val (.slice 24 (.slice 1 (.int .u8))) o2)] (hset (List.replicate 56 none) []) (.ret (.val (.slice 1 (.int .u8)) y6)) (outH 56 []), Fc Tryd.prog gl 61 [(.val .str [112, 117, 98, 108, 105, 99]), (.val (.slice 1 (.int .u8)) y6)] (hset (List.replicate 54 none) []) (.ret (.val T44 y8)) (outH 54 [])] (by kernel_rfl) ⟨x62 _ _ hy7, x61 _ _ _ hy9, trivial⟩ ?_
    refine Run.ret ?_
    obtain rfl := Option.some.inj h
    exact (fQ_fin [] [some T44] (msk 59 []) (by kernel_rfl)).1

/-- testamur.chains.Public -/
def f45_l1 (a0 : D44) : Nat → Int → D90 → Option D90
  | 0, _, _ => none
  | n1 + 1, u1_0, u1_1 => if (decide (u1_0 < (19 : Int))) = true then (Option.bind (f54 a0 u1_0) fun y2 => Option.bind (f53 y2 (3 : Int)) fun y4 => if 0 ≤ u1_0 ∧ u1_0 < (19 : Int) then (f45_l1 a0 n1 (w64 (u1_0 + (1 : Int))) (List.set u1_1 (Int.toNat u1_0) y4)) else none) else (some u1_1)

def f45 (a0 : D44) : Option D44 :=
  Option.bind (f45_l1 a0 (Int.toNat (19 : Int) + 1) (0 : Int) (Ty.dflt T90)) fun (o1 : D90) => Option.bind (f55 o1) fun y8 => some y8

set_option maxRecDepth 100000 in
theorem x45 (a0 : D44) (r : D44) (h : f45 a0 = some r) : Fc Tryd.prog gl 45 [(.val T44 a0)] (hset (List.replicate 57 none) []) (.ret (.val T44 r)) (outH 57 []) := by
  refine Fc.of Tryd.call45 (FnEx.of_runF tied Tryd.func45 rfl rfl (σ0 := mkSt 17 57 [(0, (.val T44 a0))] []) (by kernel_rfl) ?_)
  unfold f45 at h
  refine Run.sreg tied [] [] [] [] (by kernel_rfl) trivial ?_
  refine Run.sreg tied [] [] [] [] (by kernel_rfl) trivial ?_
  obtain ⟨o1, h1, h⟩ := bind_some h
  refine Run.seqJ (fun σ' => σ' = mkSt 17 57 [(2, (.ptr 18 [])), (3, (.ptr 19 []))] [(18, some (.var T44 (.val T44 (Ty.dflt T44)))), (19, some (.var T90 (.val T90 o1)))]) ?_ ?_
  · refine Run.sreg tied [] [] [] [] (by kernel_rfl) trivial ?_
    refine Run.block ?_
    refine Run.loopJ (fun n σ => ∃ (u1_0 : Int) (u1_1 : D90), f45_l1 a0 n u1_0 u1_1 = some o1 ∧ σ = mkSt 17 57 [(1, (.ptr 17 [])), (2, (.ptr 18 [])), (3, (.ptr 19 [])), (5, (.val (.int .i64) u1_0))] [(17, some (.var T44 (.val T44 a0))), (18, some (.var T44 (.val T44 (Ty.dflt T44)))), (19, some (.var T90 (.val T90 u1_1)))]) [.keep [1, 2, 3, 5] [17, 18, 19]] (by kernel_rfl) ⟨_, _, h1, rfl⟩ ?_
    rintro n1 _ ⟨u1_0, u1_1, h3, rfl⟩
    cases n1 with
    | zero => exact absurd h3 (by simp [f45_l1])
    | succ n1 =>
      unfold f45_l1 at h3
      refine Run.sreg tied [] [] [] [] (by kernel_rfl) trivial ?_
      refine Run.seq ?_
      rcases ite_some h3 with ⟨hc7, h3⟩ | ⟨hc7, h3⟩
      · refine Run.condT (b := decide (u1_0 < (19 : Int))) (by kernel_rfl) hc7 ?_
        refine Run.skip ?_
        change Run _ _ _ _ _
        refine Run.seq ?_
        refine Run.block ?_
        refine Run.sreg tied [] [] [] [] (by kernel_rfl) trivial ?_
        obtain ⟨y2, hy3, h3⟩ := bind_some h3
        obtain ⟨y4, hy5, h3⟩ := bind_some h3
        obtain ⟨hv6, h3⟩ := ite_none h3
        refine Run.reg tied [⟨(.val T44 y2), [], [], [], 52⟩, ⟨(.val T44 y4), [], [], [], 55⟩] [] [] [Fc Tryd.prog gl 54 [(.val T44 a0), (.val (.int .i64) u1_0)] (hset (List.replicate 52 none) []) (.ret (.val T44 y2)) (outH 52 []), Fc Tryd.prog gl 53 [(.val T44 y2), (.val (.int .i64) (3 : Int))] (hset (List.replicate 55 none) []) (.ret (.val T44 y4)) (outH 55 []), 0 ≤ u1_0, u1_0 < (19 : Int)] (by kernel_rfl) ⟨x54 _ _ _ hy3, x53 _ _ _ hy5, hv6.1, hv6.2, trivial⟩ ?_
        refine bN ?_
        change Run _ _ _ _ _
        refine Run.reg tied [] [] [] [] (by kernel_rfl) trivial ?_
        exact loopJ.mk [.keep [1, 2, 3, 5] [17, 18, 19]] (by kernel_rfl) ⟨_, _, h3, rfl⟩
      · refine Run.condF (b := decide (u1_0 < (19 : Int))) (by kernel_rfl) hc7 ?_
        refine Run.exit ?_
        refine tE ?_
        refine lE ?_
        refine bE ?_
        obtain rfl := Option.some.inj h3
        exact jQ.mk [.keep [2, 3] [18, 19]] (by kernel_rfl) rfl
  · rintro _ rfl
    obtain ⟨y8, hy9, h⟩ := bind_some h
    refine Run.sreg tied [⟨(.val T44 y8), [], [], [], 59⟩] [] [] [Fc Tryd.prog gl 55 [(.val T90 o1)] (hset (List.replicate 59 none) []) (.ret (.val T44 y8)) (outH 59 [])] (by kernel_rfl) ⟨x55 _ _ hy9, trivial⟩ ?_
    refine Run.ret ?_
    obtain rfl := Option.some.inj h
    exact (fQ_fin [] [some T44] (msk 57 []) (by kernel_rfl)).1

/-- testamur.testamurlaw41.copied -/
def f26 (a0 : Int) (a1 : Int) (a2 : List Int) : Option (D48 × D53) :=
  Option.bind (f44) fun y1 => Option.bind (f45 (List.set (List.set (List.replicate 32 (0 : Int)) 0 (IntKind.u8.wrap (a0))) 1 (IntKind.u8.wrap (a1)))) fun y3 => Option.bind (f44) fun y5 => some (((0 : Int), (a0, ((0 : Int), (a1, (y3, (a2, (y5, (([] : List D81), ())))))))), (List.set (List.set (List.replicate 32 (0 : Int)) 0 (IntKind.u8.wrap (a0))) 1 (IntKind.u8.wrap (a1)), (y1, ())))

set_option maxRecDepth 100000 in
theorem x26 (a0 : Int) (a1 : Int) (a2 : List Int) (r : D48 × D53) (h : f26 a0 a1 a2 = some r) : Fc Tryd.prog gl 26 [(.val (.int .i64) a0), (.val (.int .i64) a1), (.val (.slice 8 (.int .i64)) a2)] (hset (List.replicate 64 none) []) (.ret (.tup (.cons (.val T48 r.1) (.cons (.val T53 r.2) .nil)))) (outH 64 []) := by
  refine Fc.of Tryd.call26 (FnEx.of_runF tied Tryd.func26 rfl rfl (σ0 := mkSt 24 64 [(0, (.val (.int .i64) a0)), (1, (.val (.int .i64) a1)), (2, (.val (.slice 8 (.int .i64)) a2))] []) (by kernel_rfl) ?_)
  unfold f26 at h
  refine Run.sreg tied [] [] [] [] (by kernel_rfl) trivial ?_
  obtain ⟨y1, hy2, h⟩ := bind_some h
  refine Run.sreg tied [⟨(.val (.slice 32 T44) y1), [], [], [], 46⟩] [] [] [Fc Tryd.prog gl 44 [] (hset (List.replicate 46 none) []) (.ret (.val (.slice 32 T44) y1)) (outH 46 [])] (by kernel_rfl) ⟨x44  _ hy2, trivial⟩ ?_
  obtain ⟨y3, hy4, h⟩ := bind_some h
  obtain ⟨y5, hy6, h⟩ := bind_some h
  refine Run.sregA tied [⟨(.val T44 y3), [], [], [], 57⟩, ⟨(.val (.slice 32 T44) y5), [], [], [], 46⟩] [] [] [Fc Tryd.prog gl 45 [(.val T44 (List.set (List.set (List.replicate 32 (0 : Int)) 0 (IntKind.u8.wrap (a0))) 1 (IntKind.u8.wrap (a1))))] (hset (List.replicate 57 none) []) (.ret (.val T44 y3)) (outH 57 []), Fc Tryd.prog gl 44 [] (hset (List.replicate 46 none) []) (.ret (.val (.slice 32 T44) y5)) (outH 46 [])] (by kernel_rfl) ⟨x45 _ _ hy4, x44  _ hy6, trivial⟩ ?_
  refine Run.ret ?_
  obtain rfl := Option.some.inj h
  exact (fQ_fin [] [some T48, some T53] (msk 64 []) (by kernel_rfl)).1

/-- testamur.wallet.placeOf -/
def f38 (a0 : D48) : Option D76 :=
  some (a0.2.1, (a0.2.2.2.1, ()))

set_option maxRecDepth 100000 in
theorem x38 (a0 : D48) (r : D76) (h : f38 a0 = some r) : Fc Tryd.prog gl 38 [(.val T48 a0)] (hset (List.replicate 48 none) []) (.ret (.val T76 r)) (outH 48 []) := by
  refine Fc.of Tryd.call38 (FnEx.of_runF tied Tryd.func38 rfl rfl (σ0 := mkSt 8 48 [(0, (.val T48 a0))] []) (by kernel_rfl) ?_)
  unfold f38 at h
  refine Run.sreg tied [] [] [] [] (by kernel_rfl) trivial ?_
  refine Run.sreg tied [] [] [] [] (by kernel_rfl) trivial ?_
  refine Run.ret ?_
  obtain rfl := Option.some.inj h
  exact (fQ_fin [] [some T76] (msk 48 []) (by kernel_rfl)).1

/-- slices.Equal[[]testamur.api.Digest,testamur.api.Digest] -/
def f49_l1 (a0 : List D44) (a1 : List D44) : Nat → Int → Option (Ctl Unit Bool)
  | 0, _ => none
  | n1 + 1, u1_0 => if (decide (u1_0 < (List.length a0 : Int))) = true then (if 0 ≤ u1_0 ∧ u1_0 < (List.length a0 : Int) then (if u1_0 < (List.length a1 : Int) then (if (!eqDen T44 (nth T44 a0 u1_0) (nth T44 a1 u1_0)) = true then (some (.ret false)) else (f49_l1 a0 a1 n1 (w64 (u1_0 + (1 : Int))))) else none) else none) else (some (.brk ()))

def f49 (a0 : List D44) (a1 : List D44) : Option Bool :=
  if (!decide ((List.length a0 : Int) = (List.length a1 : Int))) = true then (some false) else (Option.bind (f49_l1 a0 a1 (List.length a0 + 1) (0 : Int)) fun (o1 : Ctl Unit Bool) => match o1 with | .brk _v6 => (some true) | .ret r7 => (some r7))

set_option maxRecDepth 100000 in
theorem x49 (a0 : List D44) (a1 : List D44) (r : Bool) (h : f49 a0 a1 = some r) : Fc Tryd.prog gl 49 [(.val (.slice 32 T44) a0), (.val (.slice 32 T44) a1)] (hset (List.replicate 66 none) []) (.ret (.val .bool r)) (outH 66 []) := by
  refine Fc.of Tryd.call49 (FnEx.of_runF tied Tryd.func49 rfl rfl (σ0 := mkSt 26 66 [(0, (.val (.slice 32 T44) a0)), (1, (.val (.slice 32 T44) a1))] []) (by kernel_rfl) ?_)
  unfold f49 at h
  refine Run.sreg tied [] [] [] [] (by kernel_rfl) trivial ?_
  refine Run.seq ?_
  refine Run.sreg tied [] [] [] [] (by kernel_rfl) trivial ?_
  rcases ite_some h with ⟨hc8, h⟩ | ⟨hc8, h⟩
  · refine Run.condT (b := !decide ((List.length a0 : Int) = (List.length a1 : Int))) (by kernel_rfl) hc8 ?_
    refine Run.sreg tied [] [] [] [] (by kernel_rfl) trivial ?_
    refine Run.ret ?_
    obtain rfl := Option.some.inj h
    exact (fQ_fin [] [some .bool] (msk 66 []) (by kernel_rfl)).1
  · refine Run.condF (b := !decide ((List.length a0 : Int) = (List.length a1 : Int))) (by kernel_rfl) hc8 ?_
    refine Run.skip ?_
    change Run _ _ _ _ _
    obtain ⟨o1, h1, h⟩ := bind_some h
    refine Run.seqJ (fun σ' => ∃ v6, o1 = .brk v6 ∧ σ' = mkSt 26 66 [] []) ?_ ?_
    · refine Run.sreg tied [] [] [] [] (by kernel_rfl) trivial ?_
      refine Run.block ?_
      refine Run.loopJ (fun n σ => ∃ (u1_0 : Int), f49_l1 a0 a1 n u1_0 = some o1 ∧ σ = mkSt 26 66 [(0, (.val (.slice 32 T44) a0)), (1, (.val (.slice 32 T44) a1)), (12, (.val (.int .i64) (List.length a0 : Int))), (13, (.val (.int .i64) u1_0))] []) [.keep [0, 1, 12, 13] []] (by kernel_rfl) ⟨_, h1, rfl⟩ ?_
      rintro n1 _ ⟨u1_0, h3, rfl⟩
      cases n1 with
      | zero => exact absurd h3 (by simp [f49_l1])
      | succ n1 =>
        unfold f49_l1 at h3
        refine Run.sreg tied [] [] [] [] (by kernel_rfl) trivial ?_
        refine Run.seq ?_
        rcases ite_some h3 with ⟨hc5, h3⟩ | ⟨hc5, h3⟩
        · refine Run.condT (b := decide (u1_0 < (List.length a0 : Int))) (by kernel_rfl) hc5 ?_
          refine Run.skip ?_
          change Run _ _ _ _ _
          refine Run.seq ?_
          refine Run.block ?_
          refine Run.sreg tied [] [] [] [] (by kernel_rfl) trivial ?_
          obtain ⟨hv2, h3⟩ := ite_none h3
          obtain ⟨hv3, h3⟩ := ite_none h3
          refine Run.sregA tied [] [] [] [0 ≤ u1_0, u1_0 < (List.length a0 : Int), 0 ≤ u1_0, u1_0 < (List.length a1 : Int), eqOK Tryd.prog G 40 44 T44 = true, Tryd.prog.eqGuardType Tryd.prog.depth 44 = false] (by kernel_rfl) ⟨hv2.1, hv2.2, hv2.1, hv3, fact1, fact2, trivial⟩ ?_
          rcases ite_some h3 with ⟨hc4, h3⟩ | ⟨hc4, h3⟩
          · refine Run.condT (b := !eqDen T44 (nth T44 a0 u1_0) (nth T44 a1 u1_0)) (by kernel_rfl) hc4 ?_
            refine Run.sreg tied [] [] [] [] (by kernel_rfl) trivial ?_
            refine Run.ret ?_
            obtain rfl := Option.some.inj h3
            dsimp only at h
            obtain rfl := Option.some.inj h
            exact (fQ_fin [] [some .bool] (msk 66 []) (by kernel_rfl)).1
          · refine Run.condF (b := !eqDen T44 (nth T44 a0 u1_0) (nth T44 a1 u1_0)) (by kernel_rfl) hc4 ?_
            refine Run.skip ?_
            refine bN ?_
            change Run _ _ _ _ _
            refine Run.reg tied [] [] [] [] (by kernel_rfl) trivial ?_
            exact loopJ.mk [.keep [0, 1, 12, 13] []] (by kernel_rfl) ⟨_, h3, rfl⟩
        · refine Run.condF (b := decide (u1_0 < (List.length a0 : Int))) (by kernel_rfl) hc5 ?_
          refine Run.exit ?_
          refine tE ?_
          refine lE ?_
          refine bE ?_
          obtain rfl := Option.some.inj h3
          exact jQ.mk [.keep [] []] (by kernel_rfl) ⟨_, rfl, rfl⟩
    · rintro _ ⟨v6, rfl, rfl⟩
      dsimp only at h
      refine Run.sreg tied [] [] [] [] (by kernel_rfl) trivial ?_
      refine Run.ret ?_
      obtain rfl := Option.some.inj h
      exact (fQ_fin [] [some .bool] (msk 66 []) (by kernel_rfl)).1

/-- testamur.wallet.heldOK -/
def f39 (a0 : D55) (a1 : List D44) : Option Bool :=
  Option.bind (if (decide ((List.length a0.1.2.2.2.2.2.2.1 : Int) = (4 : Int))) = true then (Option.bind (f49 a0.1.2.2.2.2.2.2.1 a1) fun y3 => if y3 = true then (Option.bind (f49 a0.2.1.2.1 a1) fun y6 => if y6 = true then (if (decide ((0 : Int) ≤ a0.2.2.1)) = true then (if (decide (a0.2.2.1 < (4 : Int))) = true then (if (decide ((0 : Int) ≤ a0.2.2.2.1)) = true then (if (decide (a0.2.2.2.1 ≤ (3 : Int))) = true then (Option.bind (f45 a0.2.1.1) fun y13 => some (eqDen T44 y13 a0.1.2.2.2.2.1)) else (some false)) else (some false)) else (some false)) else (some false)) else (some false)) else (some false)) else (some false)) fun (o1 : Bool) => some o1

set_option maxRecDepth 100000 in
theorem x39 (a0 : D55) (a1 : List D44) (r : Bool) (h : f39 a0 a1 = some r) : Fc Tryd.prog gl 39 [(.val T55 a0), (.val (.slice 32 T44) a1)] (hset (List.replicate 94 none) []) (.ret (.val .bool r)) (outH 94 []) := by
  refine Fc.of Tryd.call39 (FnEx.of_runF tied Tryd.func39 rfl rfl (σ0 := mkSt 54 94 [(0, (.val T55 a0)), (1, (.val (.slice 32 T44) a1))] []) (by kernel_rfl) ?_)
  unfold f39 at h
  refine Run.sreg tied [] [] [] [] (by kernel_rfl) trivial ?_
  obtain ⟨o1, h1, h⟩ := bind_some h
  refine Run.seqJ (fun σ' => σ' = mkSt 54 94 [(4, (.val .bool o1))] []) ?_ ?_
  · rcases ite_some h1 with ⟨hg2, h1⟩ | ⟨hg2, h1⟩
    · obtain ⟨y3, hy4, h1⟩ := bind_some h1
      rcases ite_some h1 with ⟨hg5, h1⟩ | ⟨hg5, h1⟩
      · obtain ⟨y6, hy7, h1⟩ := bind_some h1
        rcases ite_some h1 with ⟨hg8, h1⟩ | ⟨hg8, h1⟩
        · rcases ite_some h1 with ⟨hg9, h1⟩ | ⟨hg9, h1⟩
          · rcases ite_some h1 with ⟨hg10, h1⟩ | ⟨hg10, h1⟩
            · rcases ite_some h1 with ⟨hg11, h1⟩ | ⟨hg11, h1⟩
              · rcases ite_some h1 with ⟨hg12, h1⟩ | ⟨hg12, h1⟩
                · obtain ⟨y13, hy14, h1⟩ := bind_some h1
                  refine Run.regA tied [⟨(.val .bool y3), [], [], [], 66⟩, ⟨(.val .bool y6), [], [], [], 66⟩, ⟨(.val T44 y13), [], [], [], 57⟩] [true, true, true, true, true, true, true] [] [(decide ((List.length a0.1.2.2.2.2.2.2.1 : Int) = (4 : Int))) = true, Fc Tryd.prog gl 49 [(.val (.slice 32 T44) a0.1.2.2.2.2.2.2.1), (.val (.slice 32 T44) a1)] (hset (List.replicate 66 none) []) (.ret (.val .bool y3)) (outH 66 []), y3 = true, Fc Tryd.prog gl 49 [(.val (.slice 32 T44) a0.2.1.2.1), (.val (.slice 32 T44) a1)] (hset (List.replicate 66 none) []) (.ret (.val .bool y6)) (outH 66 []), y6 = true, (decide ((0 : Int) ≤ a0.2.2.1)) = true, (decide (a0.2.2.1 < (4 : Int))) = true, (decide ((0 : Int) ≤ a0.2.2.2.1)) = true, (decide (a0.2.2.2.1 ≤ (3 : Int))) = true, Fc Tryd.prog gl 45 [(.val T44 a0.2.1.1)] (hset (List.replicate 57 none) []) (.ret (.val T44 y13)) (outH 57 []), eqOK Tryd.prog G 40 44 T44 = true, Tryd.prog.eqGuardType Tryd.prog.depth 44 = false] (by kernel_rfl) ⟨hg2, x49 _ _ _ hy4, hg5, x49 _ _ _ hy7, hg8, hg9, hg10, hg11, hg12, x45 _ _ hy14, fact1, fact2, trivial⟩ ?_
                  obtain rfl := Option.some.inj h1
                  exact jQ.mk [.keep [4] []] (by kernel_rfl) rfl
                · refine Run.regA tied [⟨(.val .bool y3), [], [], [], 66⟩, ⟨(.val .bool y6), [], [], [], 66⟩] [true, true, true, true, true, true, false] [] [(decide ((List.length a0.1.2.2.2.2.2.2.1 : Int) = (4 : Int))) = true, Fc Tryd.prog gl 49 [(.val (.slice 32 T44) a0.1.2.2.2.2.2.2.1), (.val (.slice 32 T44) a1)] (hset (List.replicate 66 none) []) (.ret (.val .bool y3)) (outH 66 []), y3 = true, Fc Tryd.prog gl 49 [(.val (.slice 32 T44) a0.2.1.2.1), (.val (.slice 32 T44) a1)] (hset (List.replicate 66 none) []) (.ret (.val .bool y6)) (outH 66 []), y6 = true, (decide ((0 : Int) ≤ a0.2.2.1)) = true, (decide (a0.2.2.1 < (4 : Int))) = true, (decide ((0 : Int) ≤ a0.2.2.2.1)) = true, (decide (a0.2.2.2.1 ≤ (3 : Int))) = false] (by kernel_rfl) ⟨hg2, x49 _ _ _ hy4, hg5, x49 _ _ _ hy7, hg8, hg9, hg10, hg11, hg12, trivial⟩ ?_
                  obtain rfl := Option.some.inj h1
                  exact jQ.mk [.keep [4] []] (by kernel_rfl) rfl
              · refine Run.regA tied [⟨(.val .bool y3), [], [], [], 66⟩, ⟨(.val .bool y6), [], [], [], 66⟩] [true, true, true, true, true, false, false] [] [(decide ((List.length a0.1.2.2.2.2.2.2.1 : Int) = (4 : Int))) = true, Fc Tryd.prog gl 49 [(.val (.slice 32 T44) a0.1.2.2.2.2.2.2.1), (.val (.slice 32 T44) a1)] (hset (List.replicate 66 none) []) (.ret (.val .bool y3)) (outH 66 []), y3 = true, Fc Tryd.prog gl 49 [(.val (.slice 32 T44) a0.2.1.2.1), (.val (.slice 32 T44) a1)] (hset (List.replicate 66 none) []) (.ret (.val .bool y6)) (outH 66 []), y6 = true, (decide ((0 : Int) ≤ a0.2.2.1)) = true, (decide (a0.2.2.1 < (4 : Int))) = true, (decide ((0 : Int) ≤ a0.2.2.2.1)) = false, false = false] (by kernel_rfl) ⟨hg2, x49 _ _ _ hy4, hg5, x49 _ _ _ hy7, hg8, hg9, hg10, hg11, rfl, trivial⟩ ?_
                obtain rfl := Option.some.inj h1
                exact jQ.mk [.keep [4] []] (by kernel_rfl) rfl
            · refine Run.regA tied [⟨(.val .bool y3), [], [], [], 66⟩, ⟨(.val .bool y6), [], [], [], 66⟩] [true, true, true, true, false, false, false] [] [(decide ((List.length a0.1.2.2.2.2.2.2.1 : Int) = (4 : Int))) = true, Fc Tryd.prog gl 49 [(.val (.slice 32 T44) a0.1.2.2.2.2.2.2.1), (.val (.slice 32 T44) a1)] (hset (List.replicate 66 none) []) (.ret (.val .bool y3)) (outH 66 []), y3 = true, Fc Tryd.prog gl 49 [(.val (.slice 32 T44) a0.2.1.2.1), (.val (.slice 32 T44) a1)] (hset (List.replicate 66 none) []) (.ret (.val .bool y6)) (outH 66 []), y6 = true, (decide ((0 : Int) ≤ a0.2.2.1)) = true, (decide (a0.2.2.1 < (4 : Int))) = false, false = false, false = false] (by kernel_rfl) ⟨hg2, x49 _ _ _ hy4, hg5, x49 _ _ _ hy7, hg8, hg9, hg10, rfl, rfl, trivial⟩ ?_
              obtain rfl := Option.some.inj h1
              exact jQ.mk [.keep [4] []] (by kernel_rfl) rfl
          · refine Run.regA tied [⟨(.val .bool y3), [], [], [], 66⟩, ⟨(.val .bool y6), [], [], [], 66⟩] [true, true, true, false, false, false, false] [] [(decide ((List.length a0.1.2.2.2.2.2.2.1 : Int) = (4 : Int))) = true, Fc Tryd.prog gl 49 [(.val (.slice 32 T44) a0.1.2.2.2.2.2.2.1), (.val (.slice 32 T44) a1)] (hset (List.replicate 66 none) []) (.ret (.val .bool y3)) (outH 66 []), y3 = true, Fc Tryd.prog gl 49 [(.val (.slice 32 T44) a0.2.1.2.1), (.val (.slice 32 T44) a1)] (hset (List.replicate 66 none) []) (.ret (.val .bool y6)) (outH 66 []), y6 = true, (decide ((0 : Int) ≤ a0.2.2.1)) = false, false = false, false = false, false = false] (by kernel_rfl) ⟨hg2, x49 _ _ _ hy4, hg5, x49 _ _ _ hy7, hg8, hg9, rfl, rfl, rfl, trivial⟩ ?_
            obtain rfl := Option.some.inj h1
            exact jQ.mk [.keep [4] []] (by kernel_rfl) rfl
        · refine Run.regA tied [⟨(.val .bool y3), [], [], [], 66⟩, ⟨(.val .bool y6), [], [], [], 66⟩] [true, true, false, false, false, false, false] [] [(decide ((List.length a0.1.2.2.2.2.2.2.1 : Int) = (4 : Int))) = true, Fc Tryd.prog gl 49 [(.val (.slice 32 T44) a0.1.2.2.2.2.2.2.1), (.val (.slice 32 T44) a1)] (hset (List.replicate 66 none) []) (.ret (.val .bool y3)) (outH 66 []), y3 = true, Fc Tryd.prog gl 49 [(.val (.slice 32 T44) a0.2.1.2.1), (.val (.slice 32 T44) a1)] (hset (List.replicate 66 none) []) (.ret (.val .bool y6)) (outH 66 []), y6 = false, false = false, false = false, false = false, false = false] (by kernel_rfl) ⟨hg2, x49 _ _ _ hy4, hg5, x49 _ _ _ hy7, hg8, rfl, rfl, rfl, rfl, trivial⟩ ?_
          obtain rfl := Option.some.inj h1
          exact jQ.mk [.keep [4] []] (by kernel_rfl) rfl
      · refine Run.regA tied [⟨(.val .bool y3), [], [], [], 66⟩] [true, false, false, false, false, false, false] [] [(decide ((List.length a0.1.2.2.2.2.2.2.1 : Int) = (4 : Int))) = true, Fc Tryd.prog gl 49 [(.val (.slice 32 T44) a0.1.2.2.2.2.2.2.1), (.val (.slice 32 T44) a1)] (hset (List.replicate 66 none) []) (.ret (.val .bool y3)) (outH 66 []), y3 = false, false = false, false = false, false = false, false = false, false = false] (by kernel_rfl) ⟨hg2, x49 _ _ _ hy4, hg5, rfl, rfl, rfl, rfl, rfl, trivial⟩ ?_
        obtain rfl := Option.some.inj h1
        exact jQ.mk [.keep [4] []] (by kernel_rfl) rfl
    · refine Run.regA tied [] [false, false, false, false, false, false, false] [] [(decide ((List.length a0.1.2.2.2.2.2.2.1 : Int) = (4 : Int))) = false, false = false, false = false, false = false, false = false, false = false, false = false] (by kernel_rfl) ⟨hg2, rfl, rfl, rfl, rfl, rfl, rfl, trivial⟩ ?_
      obtain rfl := Option.some.inj h1
      exact jQ.mk [.keep [4] []] (by kernel_rfl) rfl
  · rintro _ rfl
    refine Run.ret ?_
    obtain rfl := Option.some.inj h
    exact (fQ_fin [] [some .bool] (msk 94 []) (by kernel_rfl)).1

/-- testamur.wallet.Check -/
def f16_l1 (a0 : D23) : Nat → Int → (List (D76 × Bool)) → Option (Ctl Unit Int)
  | 0, _, _ => none
  | n1 + 1, u1_0, u1_1 => if (decide (u1_0 < (List.length a0.2.2.1 : Int))) = true then (Option.bind (if 0 ≤ u1_0 ∧ u1_0 < (List.length a0.2.2.1 : Int) then (Option.bind (f38 ((nth T55 a0.2.2.1 u1_0).1)) fun y12 => Option.bind (Option.bind (if (mget T76 .bool y12 u1_1) = true then (some true) else (if (0 : Int) < (List.length a0.2.2.1 : Int) then (Option.bind (f39 (nth T55 a0.2.2.1 u1_0) (((((((((nth T55 a0.2.2.1 (0 : Int)).1).2).2).2).2).2).2).1)) fun y18 => some (!y18)) else none)) fun (o15 : Bool) => if o15 = true then (some (.ret (410 : Int))) else (some (.brk ()))) fun (o14 : Ctl Unit Int) => match o14 with | .brk _v21 => (if List.length u1_1 + 1 ≤ maxB then (some (.brk (mset T76 y12 true u1_1))) else none) | .ret r23 => (some (.ret r23))) else none) fun (o10 : Ctl (List (D76 × Bool)) Int) => match o10 with | .brk v24 => (f16_l1 a0 n1 (w64 (u1_0 + (1 : Int))) v24) | .ret r25 => (some (.ret r25))) else (some (.brk ()))

def f16 (a0 : D23) : Option Int :=
  Option.bind (Option.bind (if (decide (a0.1 < (0 : Int))) = true then (some true) else (if (decide ((4096 : Int) ≤ a0.1)) = true then (some true) else (if (decide (a0.2.1 < (0 : Int))) = true then (some true) else (if (decide ((4 : Int) < a0.2.1)) = true then (some true) else (some (decide ((256 : Int) < (List.length a0.2.2.1 : Int)))))))) fun (o2 : Bool) => if o2 = true then (some (.ret (410 : Int))) else (some (.brk ()))) fun (o1 : Ctl Unit Int) => match o1 with | .brk _v8 => (Option.bind (f16_l1 a0 (List.length a0.2.2.1 + 1) (0 : Int) ([] : List (D76 × Bool))) fun (o9 : Ctl Unit Int) => match o9 with | .brk _v27 => (some (0 : Int)) | .ret r28 => (some r28)) | .ret r29 => (some r29)

set_option maxRecDepth 100000 in
theorem x16 (a0 : D23) (r : Int) (h : f16 a0 = some r) : Fc Tryd.prog gl 16 [(.val T23 a0)] (hset (List.replicate 99 none) []) (.ret (.val (.int .i64) r)) (outH 99 []) := by
  refine Fc.of Tryd.call16 (FnEx.of_runF tied Tryd.func16 rfl rfl (σ0 := mkSt 59 99 [(0, (.val T23 a0))] []) (by kernel_rfl) ?_)
  unfold f16 at h
  refine Run.sreg tied [] [] [] [] (by kernel_rfl) trivial ?_
  obtain ⟨o1, h1, h⟩ := bind_some h
  refine Run.seqJ (fun σ' => ∃ v8, o1 = .brk v8 ∧ σ' = mkSt 59 99 [(1, (.ptr 17 []))] [(17, some (.var T23 (.val T23 a0)))]) ?_ ?_
  · obtain ⟨o2, h3, h1⟩ := bind_some h1
    refine Run.seqJ (fun σ' => σ' = mkSt 59 99 [(1, (.ptr 17 [])), (30, (.val .bool o2))] [(17, some (.var T23 (.val T23 a0)))]) ?_ ?_
    · rcases ite_some h3 with ⟨hg3, h3⟩ | ⟨hg3, h3⟩
      · refine Run.reg tied [] [true, true, true, true] [] [(decide (a0.1 < (0 : Int))) = true, true = true, true = true, true = true] (by kernel_rfl) ⟨hg3, rfl, rfl, rfl, trivial⟩ ?_
        obtain rfl := Option.some.inj h3
        exact jQ.mk [.keep [1, 30] [17]] (by kernel_rfl) rfl
      · rcases ite_some h3 with ⟨hg4, h3⟩ | ⟨hg4, h3⟩
        · refine Run.reg tied [] [false, true, true, true] [] [(decide (a0.1 < (0 : Int))) = false, (decide ((4096 : Int) ≤ a0.1)) = true, true = true, true = true] (by kernel_rfl) ⟨hg3, hg4, rfl, rfl, trivial⟩ ?_
          obtain rfl := Option.some.inj h3
          exact jQ.mk [.keep [1, 30] [17]] (by kernel_rfl) rfl
        · rcases ite_some h3 with ⟨hg5, h3⟩ | ⟨hg5, h3⟩
          · refine Run.reg tied [] [false, false, true, true] [] [(decide (a0.1 < (0 : Int))) = false, (decide ((4096 : Int) ≤ a0.1)) = false, (decide (a0.2.1 < (0 : Int))) = true, true = true] (by kernel_rfl) ⟨hg3, hg4, hg5, rfl, trivial⟩ ?_
            obtain rfl := Option.some.inj h3
            exact jQ.mk [.keep [1, 30] [17]] (by kernel_rfl) rfl
          · rcases ite_some h3 with ⟨hg6, h3⟩ | ⟨hg6, h3⟩
            · refine Run.reg tied [] [false, false, false, true] [] [(decide (a0.1 < (0 : Int))) = false, (decide ((4096 : Int) ≤ a0.1)) = false, (decide (a0.2.1 < (0 : Int))) = false, (decide ((4 : Int) < a0.2.1)) = true] (by kernel_rfl) ⟨hg3, hg4, hg5, hg6, trivial⟩ ?_
              obtain rfl := Option.some.inj h3
              exact jQ.mk [.keep [1, 30] [17]] (by kernel_rfl) rfl
            · refine Run.reg tied [] [false, false, false, false] [] [(decide (a0.1 < (0 : Int))) = false, (decide ((4096 : Int) ≤ a0.1)) = false, (decide (a0.2.1 < (0 : Int))) = false, (decide ((4 : Int) < a0.2.1)) = false] (by kernel_rfl) ⟨hg3, hg4, hg5, hg6, trivial⟩ ?_
              obtain rfl := Option.some.inj h3
              exact jQ.mk [.keep [1, 30] [17]] (by kernel_rfl) rfl
    · rintro _ rfl
      rcases ite_some h1 with ⟨hc7, h1⟩ | ⟨hc7, h1⟩
      · refine Run.condT (b := o2) (by kernel_rfl) hc7 ?_
        refine Run.sreg tied [] [] [] [] (by kernel_rfl) trivial ?_
        refine Run.ret ?_
        obtain rfl := Option.some.inj h1
        dsimp only at h
        obtain rfl := Option.some.inj h
        exact (fQ_fin [] [some (.int .i64)] (msk 99 []) (by kernel_rfl)).1
      · refine Run.condF (b := o2) (by kernel_rfl) hc7 ?_
        refine Run.skip ?_
        obtain rfl := Option.some.inj h1
        exact jQ.mk [.keep [1] [17]] (by kernel_rfl) ⟨_, rfl, rfl⟩
  · rintro _ ⟨v8, rfl, rfl⟩
    dsimp only at h
    refine Run.sreg tied [] [] [] [] (by kernel_rfl) trivial ?_
    obtain ⟨o9, h4, h⟩ := bind_some h
    refine Run.seqJ (fun σ' => ∃ v27, o9 = .brk v27 ∧ σ' = mkSt 59 99 [] []) ?_ ?_
    · refine Run.sreg tied [] [] [] [] (by kernel_rfl) trivial ?_
      refine Run.block ?_
      refine Run.loopJ (fun n σ => ∃ (u1_0 : Int) (u1_1 : List (D76 × Bool)), f16_l1 a0 n u1_0 u1_1 = some o9 ∧ σ = mkSt 59 99 [(1, (.ptr 17 [])), (3, (.mp 47)), (33, (.val (.slice 208 T55) a0.2.2.1)), (34, (.val (.int .i64) (List.length a0.2.2.1 : Int))), (35, (.val (.int .i64) u1_0))] [(17, some (.var T23 (.val T23 a0))), (47, some (.map T76 .bool u1_1))]) [.keep [1, 3, 33, 34, 35] [17, 47]] (by kernel_rfl) ⟨_, _, h4, rfl⟩ ?_
      rintro n1 _ ⟨u1_0, u1_1, h13, rfl⟩
      cases n1 with
      | zero => exact absurd h13 (by simp [f16_l1])
      | succ n1 =>
        unfold f16_l1 at h13
        refine Run.sreg tied [] [] [] [] (by kernel_rfl) trivial ?_
        refine Run.seq ?_
        rcases ite_some h13 with ⟨hc26, h13⟩ | ⟨hc26, h13⟩
        · refine Run.condT (b := decide (u1_0 < (List.length a0.2.2.1 : Int))) (by kernel_rfl) hc26 ?_
          refine Run.skip ?_
          change Run _ _ _ _ _
          obtain ⟨o10, h14, h13⟩ := bind_some h13
          refine Run.seqJ (fun σ' => ∃ v24, o10 = .brk v24 ∧ σ' = mkSt 59 99 [(1, (.ptr 17 [])), (3, (.mp 47)), (33, (.val (.slice 208 T55) a0.2.2.1)), (34, (.val (.int .i64) (List.length a0.2.2.1 : Int))), (35, (.val (.int .i64) u1_0))] [(17, some (.var T23 (.val T23 a0))), (47, some (.map T76 .bool v24))]) ?_ ?_
          · refine Run.block ?_
            obtain ⟨hv11, h14⟩ := ite_none h14
            refine Run.sreg tied [] [] [] [0 ≤ u1_0, u1_0 < (List.length a0.2.2.1 : Int)] (by kernel_rfl) ⟨hv11.1, hv11.2, trivial⟩ ?_
            obtain ⟨y12, hy13, h14⟩ := bind_some h14
            refine Run.sreg tied [⟨(.val T76 y12), [], [], [], 48⟩] [] [] [Fc Tryd.prog gl 38 [(.val T48 ((nth T55 a0.2.2.1 u1_0).1))] (hset (List.replicate 48 none) []) (.ret (.val T76 y12)) (outH 48 [])] (by kernel_rfl) ⟨x38 _ _ hy13, trivial⟩ ?_
            obtain ⟨o14, h18, h14⟩ := bind_some h14
            refine Run.seqJ (fun σ' => ∃ v21, o14 = .brk v21 ∧ σ' = mkSt 59 99 [(1, (.ptr 17 [])), (3, (.mp 47)), (6, (.ptr 22 [])), (33, (.val (.slice 208 T55) a0.2.2.1)), (34, (.val (.int .i64) (List.length a0.2.2.1 : Int))), (35, (.val (.int .i64) u1_0))] [(17, some (.var T23 (.val T23 a0))), (22, some (.var T76 (.val T76 y12))), (47, some (.map T76 .bool u1_1))]) ?_ ?_
            · obtain ⟨o15, h20, h18⟩ := bind_some h18
              refine Run.seqJ (fun σ' => σ' = mkSt 59 99 [(1, (.ptr 17 [])), (3, (.mp 47)), (6, (.ptr 22 [])), (33, (.val (.slice 208 T55) a0.2.2.1)), (34, (.val (.int .i64) (List.length a0.2.2.1 : Int))), (35, (.val (.int .i64) u1_0)), (55, (.val .bool o15))] [(17, some (.var T23 (.val T23 a0))), (22, some (.var T76 (.val T76 y12))), (47, some (.map T76 .bool u1_1))]) ?_ ?_
              · rcases ite_some h20 with ⟨hg16, h20⟩ | ⟨hg16, h20⟩
                · refine Run.regA tied [] [true] [] [eqOK Tryd.prog G 40 77 T76 = true, (mget T76 .bool y12 u1_1) = true] (by kernel_rfl) ⟨fact0, hg16, trivial⟩ ?_
                  obtain rfl := Option.some.inj h20
                  exact jQ.mk [.keep [1, 3, 6, 33, 34, 35, 55] [17, 22, 47]] (by kernel_rfl) rfl
                · obtain ⟨hv17, h20⟩ := ite_none h20
                  obtain ⟨y18, hy19, h20⟩ := bind_some h20
                  refine Run.regA tied [⟨(.val .bool y18), [], [], [], 94⟩] [false] [] [eqOK Tryd.prog G 40 77 T76 = true, (mget T76 .bool y12 u1_1) = false, 0 ≤ (0 : Int), (0 : Int) < (List.length a0.2.2.1 : Int), Fc Tryd.prog gl 39 [(.val T55 (nth T55 a0.2.2.1 u1_0)), (.val (.slice 32 T44) (((((((((nth T55 a0.2.2.1 (0 : Int)).1).2).2).2).2).2).2).1))] (hset (List.replicate 94 none) []) (.ret (.val .bool y18)) (outH 94 [])] (by kernel_rfl) ⟨fact0, hg16, (by decide), hv17, x39 _ _ _ hy19, trivial⟩ ?_
                  obtain rfl := Option.some.inj h20
                  exact jQ.mk [.keep [1, 3, 6, 33, 34, 35, 55] [17, 22, 47]] (by kernel_rfl) rfl
              · rintro _ rfl
                rcases ite_some h18 with ⟨hc20, h18⟩ | ⟨hc20, h18⟩
                · refine Run.condT (b := o15) (by kernel_rfl) hc20 ?_
                  refine Run.sreg tied [] [] [] [] (by kernel_rfl) trivial ?_
                  refine Run.ret ?_
                  obtain rfl := Option.some.inj h18
                  dsimp only at h14
                  obtain rfl := Option.some.inj h14
                  dsimp only at h13
                  obtain rfl := Option.some.inj h13
                  dsimp only at h
                  obtain rfl := Option.some.inj h
                  exact (fQ_fin [] [some (.int .i64)] (msk 99 []) (by kernel_rfl)).1
                · refine Run.condF (b := o15) (by kernel_rfl) hc20 ?_
                  refine Run.skip ?_
                  obtain rfl := Option.some.inj h18
                  exact jQ.mk [.keep [1, 3, 6, 33, 34, 35] [17, 22, 47]] (by kernel_rfl) ⟨_, rfl, rfl⟩
            · rintro _ ⟨v21, rfl, rfl⟩
              dsimp only at h14
              obtain ⟨hv22, h14⟩ := ite_none h14
              refine Run.reg tied [] [] [] [eqOK Tryd.prog G 40 77 T76 = true, List.length u1_1 + 1 ≤ maxB] (by kernel_rfl) ⟨fact0, hv22, trivial⟩ ?_
              refine bN ?_
              obtain rfl := Option.some.inj h14
              exact jQ.mk [.keep [1, 3, 33, 34, 35] [17, 47]] (by kernel_rfl) ⟨_, rfl, rfl⟩
          · rintro _ ⟨v24, rfl, rfl⟩
            dsimp only at h13
            refine Run.reg tied [] [] [] [] (by kernel_rfl) trivial ?_
            exact loopJ.mk [.keep [1, 3, 33, 34, 35] [17, 47]] (by kernel_rfl) ⟨_, _, h13, rfl⟩
        · refine Run.condF (b := decide (u1_0 < (List.length a0.2.2.1 : Int))) (by kernel_rfl) hc26 ?_
          refine Run.exit ?_
          refine tE ?_
          refine lE ?_
          refine bE ?_
          obtain rfl := Option.some.inj h13
          exact jQ.mk [.keep [] []] (by kernel_rfl) ⟨_, rfl, rfl⟩
    · rintro _ ⟨v27, rfl, rfl⟩
      dsimp only at h
      refine Run.sreg tied [] [] [] [] (by kernel_rfl) trivial ?_
      refine Run.ret ?_
      obtain rfl := Option.some.inj h
      exact (fQ_fin [] [some (.int .i64)] (msk 99 []) (by kernel_rfl)).1

/-- slices.Clone[[]testamur.api.Held,testamur.api.Held] -/
def f47_s1 (a0 : List D55) : Option (List D55) := if (List.length ([] : List D55) + List.length a0) * 208 ≤ maxB then some a0 else none

set_option maxRecDepth 100000 in
theorem x47_s1 (a0 : List D55) (r : List D55) (h : f47_s1 a0 = some r) : Fc Tryd.prog gl 47 [(.val (.slice 208 T55) a0)] (hset (List.replicate 48 none) []) (.ret (.own 23)) (outH 48 [(23, (.row 55 208 T55 r))]) := by
  refine Fc.of Tryd.call47 (FnEx.of_runF tied Tryd.func47 rfl rfl (σ0 := mkSt 8 48 [(0, (.val (.slice 208 T55) a0))] []) (by kernel_rfl) ?_)
  unfold f47_s1 at h
  obtain ⟨hv, h⟩ := ite_none h
  obtain rfl := Option.some.inj h
  refine Run.sreg tied [] [] [] [] (by kernel_rfl) trivial ?_
  refine Run.seq ?_
  refine Run.sregNil (.tmp 0) 3 4 22 22 55 208 T55 a0 rfl rfl rfl rfl rfl rfl (by kernel_rfl) fact3 rfl ?_
  intro b hb
  cases b with
  | true =>
    have hx := hb rfl
    subst hx
    refine Run.condT (b := true) (by kernel_rfl) rfl ?_
    refine Run.sreg tied [] [] [] [] (by kernel_rfl) trivial ?_
    refine Run.ret ?_
    exact (fQ_fin [.keep [2] [], .ownT 2 23 55 208 T55] [none] (msk 48 [23]) (by kernel_rfl)).1
  | false =>
    refine Run.condF (b := false) (by kernel_rfl) rfl ?_
    refine Run.skip ?_
    change Run _ _ _ _ _
    refine Run.sreg tied [] [] [] [(List.length ([] : List D55) + List.length a0) * 208 ≤ maxB] (by kernel_rfl) ⟨hv, trivial⟩ ?_
    refine Run.ret ?_
    exact (fQ_fin [.keep [2] [23]] [none] (msk 48 [23]) (by kernel_rfl)).1

/-- testamur.wallet.keep -/
def f35_s2 (a0 : D23) : Option (Int × Int × Unit × (List D55)) :=
  Option.bind (f47_s1 a0.2.2.1) fun y1 => some (a0.1, a0.2.1, a0.2.2.2, y1)

set_option maxRecDepth 100000 in
theorem x35_s2 (a0 : D23) (r : Int × Int × Unit × (List D55)) (h : f35_s2 a0 = some r) : Fc Tryd.prog gl 35 [(.val T23 a0)] (hset (List.replicate 50 none) []) (.ret (.ptr 25 [])) (outH 50 [(21, (.row 55 208 T55 r.2.2.2)), (25, (.var T73 (.cons (.cons (.val (.int .i64) r.1) (.cons (.val (.int .i64) r.2.1) (.cons (.own 21) (.val .unit r.2.2.1)))) .nil)))]) := by
  refine Fc.of Tryd.call35 (FnEx.of_runF tied Tryd.func35 rfl rfl (σ0 := mkSt 10 50 [(0, (.val T23 a0))] []) (by kernel_rfl) ?_)
  unfold f35_s2 at h
  refine Run.sreg tied [] [] [] [] (by kernel_rfl) trivial ?_
  obtain ⟨y1, hy2, h⟩ := bind_some h
  refine Run.sreg tied [⟨(.own 23), [], [(23, 21)], [(23, (.row 55 208 T55 y1))], 48⟩] [] [] [Fc Tryd.prog gl 47 [(.val (.slice 208 T55) a0.2.2.1)] (hset (List.replicate 48 none) []) (.ret (.own 23)) (outH 48 [(23, (.row 55 208 T55 y1))])] (by kernel_rfl) ⟨x47_s1 _ _ hy2, trivial⟩ ?_
  refine Run.sreg tied [] [] [] [] (by kernel_rfl) trivial ?_
  refine Run.ret ?_
  obtain rfl := Option.some.inj h
  exact (fQ_fin [.keep [2] [21, 25]] [none] (msk 50 [21, 25]) (by kernel_rfl)).1

/-- (*testamur.wallet.keeper).put -/
def f41_s1 (a0 : D48) (a1 : D53) (a2 : Int) (a3 : Int) (a4 : Int) (a5 : Unit) (a6 : List D55) : Option (Int × Int × Unit × (List D55)) :=
  if (List.length a6 + List.length [(a0, (a1, (a2, ((0 : Int), ()))))]) * 208 ≤ maxB then (some (a3, a4, a5, a6 ++ [(a0, (a1, (a2, ((0 : Int), ()))))])) else none

set_option maxRecDepth 100000 in
theorem x41_s1 (a0 : D48) (a1 : D53) (a2 : Int) (a3 : Int) (a4 : Int) (a5 : Unit) (a6 : List D55) (r : Int × Int × Unit × (List D55)) (h : f41_s1 a0 a1 a2 a3 a4 a5 a6 = some r) : Fc Tryd.prog gl 41 [(.ptr 0 []), (.val T48 a0), (.val T53 a1), (.val (.int .i64) a2)] (hset (List.replicate 63 none) [(0, some (.var T73 (.cons (.cons (.val (.int .i64) a3) (.cons (.val (.int .i64) a4) (.cons (.own 1) (.val .unit a5)))) .nil))), (1, some (.row 55 208 T55 a6))]) (.ret (.tup .nil)) (outH 63 [(0, (.var T73 (.cons (.cons (.val (.int .i64) r.1) (.cons (.val (.int .i64) r.2.1) (.cons (.own 35) (.val .unit r.2.2.1)))) .nil))), (35, (.row 55 208 T55 r.2.2.2))]) := by
  refine Fc.of Tryd.call41 (FnEx.of_runF tied Tryd.func41 rfl rfl (σ0 := mkSt 23 63 [(0, (.ptr 0 [])), (1, (.val T48 a0)), (2, (.val T53 a1)), (3, (.val (.int .i64) a2))] [(0, some (.var T73 (.cons (.cons (.val (.int .i64) a3) (.cons (.val (.int .i64) a4) (.cons (.own 1) (.val .unit a5)))) .nil))), (1, some (.row 55 208 T55 a6))]) (by kernel_rfl) ?_)
  unfold f41_s1 at h
  refine Run.sreg tied [] [] [] [] (by kernel_rfl) trivial ?_
  obtain ⟨hv1, h⟩ := ite_none h
  refine Run.regA tied [] [] [] [(List.length a6 + List.length [(a0, (a1, (a2, ((0 : Int), ()))))]) * 208 ≤ maxB] (by kernel_rfl) ⟨hv1, trivial⟩ ?_
  obtain rfl := Option.some.inj h
  exact (fQ_fin [.keep [] [0, 35]] [] (msk 63 [0, 35]) (by kernel_rfl)).2

/-- testamur.wallet.Put -/
def f23_l1 (a1 : List D48) (a2 : List D53) (a3 : Int) : Nat → Int → Int → Int → Unit → (List D55) → Option (Int × Int × Unit × (List D55))
  | 0, _, _, _, _, _ => none
  | n1 + 1, u1_0, u1_1, u1_2, u1_3, u1_4 => if (decide (u1_0 < (List.length a1 : Int))) = true then (if 0 ≤ u1_0 ∧ u1_0 < (List.length a1 : Int) then (if u1_0 < (List.length a2 : Int) then (Option.bind (f41_s1 (nth T48 a1 u1_0) (nth T53 a2 u1_0) a3 u1_1 u1_2 u1_3 u1_4) fun y8 => f23_l1 a1 a2 a3 n1 (w64 (u1_0 + (1 : Int))) y8.1 y8.2.1 y8.2.2.1 y8.2.2.2) else none) else none) else (some (u1_1, u1_2, u1_3, u1_4))

def f23 (a0 : D23) (a1 : List D48) (a2 : List D53) (a3 : Int) : Option (D23 × Int) :=
  Option.bind (f16 a0) fun y1 => if (!decide (y1 = (0 : Int))) = true then (some (((0 : Int), ((0 : Int), (([] : List D55), ()))), y1)) else (if (!decide ((List.length a1 : Int) = (List.length a2 : Int))) = true then (some (((0 : Int), ((0 : Int), (([] : List D55), ()))), (410 : Int))) else (Option.bind (f35_s2 a0) fun y3 => Option.bind (f23_l1 a1 a2 a3 (List.length a1 + 1) (0 : Int) y3.1 y3.2.1 y3.2.2.1 y3.2.2.2) fun (o5 : Int × Int × Unit × (List D55)) => Option.bind (f16 (o5.1, (o5.2.1, (o5.2.2.2, o5.2.2.1)))) fun y11 => if (!decide (y11 = (0 : Int))) = true then (some (((0 : Int), ((0 : Int), (([] : List D55), ()))), y11)) else (some ((o5.1, (o5.2.1, (o5.2.2.2, o5.2.2.1))), (0 : Int)))))

set_option maxRecDepth 100000 in
theorem x23 (a0 : D23) (a1 : List D48) (a2 : List D53) (a3 : Int) (r : D23 × Int) (h : f23 a0 a1 a2 a3 = some r) : Fc Tryd.prog gl 23 [(.val T23 a0), (.val (.slice 136 T48) a1), (.val (.slice 56 T53) a2), (.val (.int .i64) a3)] (hset (List.replicate 98 none) []) (.ret (.tup (.cons (.val T23 r.1) (.cons (.val (.int .i64) r.2) .nil)))) (outH 98 []) := by
  refine Fc.of Tryd.call23 (FnEx.of_runF tied Tryd.func23 rfl rfl (σ0 := mkSt 58 98 [(0, (.val T23 a0)), (1, (.val (.slice 136 T48) a1)), (2, (.val (.slice 56 T53) a2)), (3, (.val (.int .i64) a3))] []) (by kernel_rfl) ?_)
  unfold f23 at h
  refine Run.sreg tied [] [] [] [] (by kernel_rfl) trivial ?_
  refine Run.seq ?_
  obtain ⟨y1, hy2, h⟩ := bind_some h
  refine Run.sreg tied [⟨(.val (.int .i64) y1), [], [], [], 99⟩] [] [] [Fc Tryd.prog gl 16 [(.val T23 a0)] (hset (List.replicate 99 none) []) (.ret (.val (.int .i64) y1)) (outH 99 [])] (by kernel_rfl) ⟨x16 _ _ hy2, trivial⟩ ?_
  refine Run.sreg tied [] [] [] [] (by kernel_rfl) trivial ?_
  rcases ite_some h with ⟨hc15, h⟩ | ⟨hc15, h⟩
  · refine Run.condT (b := !decide (y1 = (0 : Int))) (by kernel_rfl) hc15 ?_
    refine Run.sreg tied [] [] [] [] (by kernel_rfl) trivial ?_
    refine Run.ret ?_
    obtain rfl := Option.some.inj h
    exact (fQ_fin [] [some T23, some (.int .i64)] (msk 98 []) (by kernel_rfl)).1
  · refine Run.condF (b := !decide (y1 = (0 : Int))) (by kernel_rfl) hc15 ?_
    refine Run.skip ?_
    change Run _ _ _ _ _
    refine Run.seq ?_
    refine Run.sreg tied [] [] [] [] (by kernel_rfl) trivial ?_
    rcases ite_some h with ⟨hc14, h⟩ | ⟨hc14, h⟩
    · refine Run.condT (b := !decide ((List.length a1 : Int) = (List.length a2 : Int))) (by kernel_rfl) hc14 ?_
      refine Run.sreg tied [] [] [] [] (by kernel_rfl) trivial ?_
      refine Run.ret ?_
      obtain rfl := Option.some.inj h
      exact (fQ_fin [] [some T23, some (.int .i64)] (msk 98 []) (by kernel_rfl)).1
    · refine Run.condF (b := !decide ((List.length a1 : Int) = (List.length a2 : Int))) (by kernel_rfl) hc14 ?_
      refine Run.skip ?_
      change Run _ _ _ _ _
      obtain ⟨y3, hy4, h⟩ := bind_some h
      refine Run.sreg tied [⟨(.ptr 25 []), [], [(21, 43), (25, 74)], [(21, (.row 55 208 T55 y3.2.2.2)), (25, (.var T73 (.cons (.cons (.val (.int .i64) y3.1) (.cons (.val (.int .i64) y3.2.1) (.cons (.own 21) (.val .unit y3.2.2.1)))) .nil)))], 50⟩] [] [] [Fc Tryd.prog gl 35 [(.val T23 a0)] (hset (List.replicate 50 none) []) (.ret (.ptr 25 [])) (outH 50 [(21, (.row 55 208 T55 y3.2.2.2)), (25, (.var T73 (.cons (.cons (.val (.int .i64) y3.1) (.cons (.val (.int .i64) y3.2.1) (.cons (.own 21) (.val .unit y3.2.2.1)))) .nil)))])] (by kernel_rfl) ⟨x35_s2 _ _ hy4, trivial⟩ ?_
      obtain ⟨o5, h1, h⟩ := bind_some h
      refine Run.seqJ (fun σ' => σ' = mkSt 58 98 [(8, (.ptr 24 [])), (11, (.ptr 74 []))] [(24, some (.var T23 (.cons (.val (.int .i64) (0 : Int)) (.cons (.val (.int .i64) (0 : Int)) (.cons .nils .nil))))), (74, some (.var T73 (.cons (.cons (.val (.int .i64) o5.1) (.cons (.val (.int .i64) o5.2.1) (.cons (.own 76) (.val .unit o5.2.2.1)))) .nil))), (76, some (.row 55 208 T55 o5.2.2.2))]) ?_ ?_
      · refine Run.sreg tied [] [] [] [] (by kernel_rfl) trivial ?_
        refine Run.block ?_
        refine Run.loopJ (fun n σ => ∃ (u1_0 : Int) (u1_1 : Int) (u1_2 : Int) (u1_3 : Unit) (u1_4 : List D55), f23_l1 a1 a2 a3 n u1_0 u1_1 u1_2 u1_3 u1_4 = some o5 ∧ σ = mkSt 58 98 [(1, (.val (.slice 136 T48) a1)), (2, (.val (.slice 56 T53) a2)), (3, (.val (.int .i64) a3)), (8, (.ptr 24 [])), (11, (.ptr 74 [])), (29, (.val (.int .i64) (List.length a1 : Int))), (30, (.val (.int .i64) u1_0))] [(24, some (.var T23 (.cons (.val (.int .i64) (0 : Int)) (.cons (.val (.int .i64) (0 : Int)) (.cons .nils .nil))))), (74, some (.var T73 (.cons (.cons (.val (.int .i64) u1_1) (.cons (.val (.int .i64) u1_2) (.cons (.own 75) (.val .unit u1_3)))) .nil))), (75, some (.row 55 208 T55 u1_4))]) [.keep [1, 2, 3, 8, 11, 29, 30] [24, 43, 74], .ren 43 75] (by kernel_rfl) ⟨_, _, _, _, _, h1, rfl⟩ ?_
        rintro n1 _ ⟨u1_0, u1_1, u1_2, u1_3, u1_4, h3, rfl⟩
        cases n1 with
        | zero => exact absurd h3 (by simp [f23_l1])
        | succ n1 =>
          unfold f23_l1 at h3
          refine Run.sreg tied [] [] [] [] (by kernel_rfl) trivial ?_
          refine Run.seq ?_
          rcases ite_some h3 with ⟨hc10, h3⟩ | ⟨hc10, h3⟩
          · refine Run.condT (b := decide (u1_0 < (List.length a1 : Int))) (by kernel_rfl) hc10 ?_
            refine Run.skip ?_
            change Run _ _ _ _ _
            refine Run.seq ?_
            refine Run.block ?_
            refine Run.sreg tied [] [] [] [] (by kernel_rfl) trivial ?_
            obtain ⟨hv6, h3⟩ := ite_none h3
            obtain ⟨hv7, h3⟩ := ite_none h3
            obtain ⟨y8, hy9, h3⟩ := bind_some h3
            refine Run.regA tied [⟨(.tup .nil), [(0, 74), (1, 75)], [(35, 59)], [(0, (.var T73 (.cons (.cons (.val (.int .i64) y8.1) (.cons (.val (.int .i64) y8.2.1) (.cons (.own 35) (.val .unit y8.2.2.1)))) .nil))), (35, (.row 55 208 T55 y8.2.2.2))], 63⟩] [] [] [0 ≤ u1_0, u1_0 < (List.length a1 : Int), 0 ≤ u1_0, u1_0 < (List.length a2 : Int), Fc Tryd.prog gl 41 [(.ptr 0 []), (.val T48 (nth T48 a1 u1_0)), (.val T53 (nth T53 a2 u1_0)), (.val (.int .i64) a3)] (hset (List.replicate 63 none) [(0, some (.var T73 (.cons (.cons (.val (.int .i64) u1_1) (.cons (.val (.int .i64) u1_2) (.cons (.own 1) (.val .unit u1_3)))) .nil))), (1, some (.row 55 208 T55 u1_4))]) (.ret (.tup .nil)) (outH 63 [(0, (.var T73 (.cons (.cons (.val (.int .i64) y8.1) (.cons (.val (.int .i64) y8.2.1) (.cons (.own 35) (.val .unit y8.2.2.1)))) .nil))), (35, (.row 55 208 T55 y8.2.2.2))])] (by kernel_rfl) ⟨hv6.1, hv6.2, hv6.1, hv7, x41_s1 _ _ _ _ _ _ _ _ hy9, trivial⟩ ?_
            refine bN ?_
            change Run _ _ _ _ _
            refine Run.reg tied [] [] [] [] (by kernel_rfl) trivial ?_
            exact loopJ.mk [.keep [1, 2, 3, 8, 11, 29, 30] [24, 59, 74], .ren 59 75] (by kernel_rfl) ⟨_, _, _, _, _, h3, rfl⟩
          · refine Run.condF (b := decide (u1_0 < (List.length a1 : Int))) (by kernel_rfl) hc10 ?_
            refine Run.exit ?_
            refine tE ?_
            refine lE ?_
            refine bE ?_
            obtain rfl := Option.some.inj h3
            exact jQ.mk [.keep [8, 11] [24, 74, 75], .ren 75 76] (by kernel_rfl) rfl
      · rintro _ rfl
        refine Run.seq ?_
        obtain ⟨y11, hy12, h⟩ := bind_some h
        refine Run.sreg tied [⟨(.val (.int .i64) y11), [], [], [], 99⟩] [] [] [Fc Tryd.prog gl 16 [(.val T23 (o5.1, (o5.2.1, (o5.2.2.2, o5.2.2.1))))] (hset (List.replicate 99 none) []) (.ret (.val (.int .i64) y11)) (outH 99 [])] (by kernel_rfl) ⟨x16 _ _ hy12, trivial⟩ ?_
        refine Run.sreg tied [] [] [] [] (by kernel_rfl) trivial ?_
        rcases ite_some h with ⟨hc13, h⟩ | ⟨hc13, h⟩
        · refine Run.condT (b := !decide (y11 = (0 : Int))) (by kernel_rfl) hc13 ?_
          refine Run.sreg tied [] [] [] [] (by kernel_rfl) trivial ?_
          refine Run.ret ?_
          obtain rfl := Option.some.inj h
          exact (fQ_fin [] [some T23, some (.int .i64)] (msk 98 []) (by kernel_rfl)).1
        · refine Run.condF (b := !decide (y11 = (0 : Int))) (by kernel_rfl) hc13 ?_
          refine Run.skip ?_
          change Run _ _ _ _ _
          refine Run.sreg tied [] [] [] [] (by kernel_rfl) trivial ?_
          refine Run.ret ?_
          obtain rfl := Option.some.inj h
          exact (fQ_fin [.freeze 76 (.slice 208 T55)] [some T23, some (.int .i64)] (msk 98 []) (by kernel_rfl)).1

/-- testamur.wallet.Offers$1 -/
def f29_s1 (a0 : D55) (a1 : Int) : Option Bool :=
  Option.bind (if (decide (a0.2.2.1 = a1)) = true then (some (decide (a0.2.2.2.1 = (0 : Int)))) else (some false)) fun (o1 : Bool) => some o1

set_option maxRecDepth 100000 in
theorem x29_s1 (a0 : D55) (a1 : Int) (r : Bool) (h : f29_s1 a0 a1 = some r) : Fc Tryd.prog gl 29 [(.val T55 a0), (.vptr (.int .i64) a1)] (hset (List.replicate 53 none) []) (.ret (.val .bool r)) (outH 53 []) := by
  refine Fc.of Tryd.call29 (FnEx.of_runF tied Tryd.func29 rfl rfl (σ0 := mkSt 13 53 [(0, (.val T55 a0)), (1, (.vptr (.int .i64) a1))] []) (by kernel_rfl) ?_)
  unfold f29_s1 at h
  refine Run.sreg tied [] [] [] [] (by kernel_rfl) trivial ?_
  obtain ⟨o1, h1, h⟩ := bind_some h
  refine Run.seqJ (fun σ' => σ' = mkSt 13 53 [(3, (.val .bool o1))] []) ?_ ?_
  · rcases ite_some h1 with ⟨hg2, h1⟩ | ⟨hg2, h1⟩
    · refine Run.reg tied [] [true] [] [(decide (a0.2.2.1 = a1)) = true] (by kernel_rfl) ⟨hg2, trivial⟩ ?_
      obtain rfl := Option.some.inj h1
      exact jQ.mk [.keep [3] []] (by kernel_rfl) rfl
    · refine Run.reg tied [] [false] [] [(decide (a0.2.2.1 = a1)) = false] (by kernel_rfl) ⟨hg2, trivial⟩ ?_
      obtain rfl := Option.some.inj h1
      exact jQ.mk [.keep [3] []] (by kernel_rfl) rfl
  · rintro _ rfl
    refine Run.ret ?_
    obtain rfl := Option.some.inj h
    exact (fQ_fin [] [some .bool] (msk 53 []) (by kernel_rfl)).1

end Go.Proofs.YtnhfefbbdfmniaaDoor
