/- Made by program (dec.py): walks -/
import Derived.Test.YthiphdachidhlaaGreatDoorF3
namespace Go.Proofs.YthiphdachidhlaaGreatDoor
open Go.Abs

/-- testamur.verify.Accept -/
def f7_s1 (a0 : D48) (a1 : List UInt8) (a2 : Int) (a3 : Int) (a4 : Int) (a5 : Int) (a6 : List UInt8) (a7 : List UInt8) (a8 : Int) (a9 : Int) (a10 : Int) (a11 : List UInt8) (a12 : List UInt8) (a13 : Int) (a14 : Int) (a15 : Int) (a16 : D62) (_a17 : Int) (_a18 : Int) (_a19 : D29) : Option (D33 × Int) :=
  Option.bind (f10_s1 a0 ([] : List D102) a1 a2 a3 a4 a5 a6 a7 a8 a9 a10 a11 a12 a13 a14 a15 a16) fun y1 => if (!decide (y1 = (0 : Int))) = true then (some (((0 : Int), ((0 : Int), (Ty.dflt T29, (([] : List Int), (([] : List D35), ()))))), y1)) else none

set_option maxRecDepth 100000 in
theorem x7_s1 (a0 : D48) (a1 : List UInt8) (a2 : Int) (a3 : Int) (a4 : Int) (a5 : Int) (a6 : List UInt8) (a7 : List UInt8) (a8 : Int) (a9 : Int) (a10 : Int) (a11 : List UInt8) (a12 : List UInt8) (a13 : Int) (a14 : Int) (a15 : Int) (a16 : D62) (a17 : Int) (a18 : Int) (a19 : D29) (r : D33 × Int) (h : f7_s1 a0 a1 a2 a3 a4 a5 a6 a7 a8 a9 a10 a11 a12 a13 a14 a15 a16 a17 a18 a19 = some r) : Fc Tryz.prog gl 7 [(.val T48 a0), .nils, (.cons (.val .str a1) (.cons (.val (.int .i64) a2) (.cons .nils (.cons (.cons (.val (.int .i64) a3) (.cons (.val (.int .i64) a4) (.cons .nils (.cons (.cons (.val (.int .i64) a5) (.cons (.cons (.val .str a6) (.cons (.val .str a7) (.cons (.val (.int .i64) a8) (.cons (.val (.int .i64) a9) (.cons (.val (.int .i64) a10) .nil))))) (.cons (.cons (.val .str a11) (.cons (.val .str a12) (.cons (.val (.int .i64) a13) (.cons (.val (.int .i64) a14) (.cons (.val (.int .i64) a15) .nil))))) .nil))) .nil)))) .nil)))), (.val T62 a16), (.val (.int .i64) a17), (.val (.int .i64) a18), (.val T29 a19)] (hset (List.replicate 161 none) []) (.ret (.tup (.cons (.val T33 r.1) (.cons (.val (.int .i64) r.2) .nil)))) (outH 161 []) := by
  refine Fc.of Tryz.call7 (FnEx.of_runF tied Tryz.func7 rfl rfl (σ0 := mkSt 121 161 [(0, (.val T48 a0)), (1, .nils), (2, (.cons (.val .str a1) (.cons (.val (.int .i64) a2) (.cons .nils (.cons (.cons (.val (.int .i64) a3) (.cons (.val (.int .i64) a4) (.cons .nils (.cons (.cons (.val (.int .i64) a5) (.cons (.cons (.val .str a6) (.cons (.val .str a7) (.cons (.val (.int .i64) a8) (.cons (.val (.int .i64) a9) (.cons (.val (.int .i64) a10) .nil))))) (.cons (.cons (.val .str a11) (.cons (.val .str a12) (.cons (.val (.int .i64) a13) (.cons (.val (.int .i64) a14) (.cons (.val (.int .i64) a15) .nil))))) .nil))) .nil)))) .nil))))), (3, (.val T62 a16)), (4, (.val (.int .i64) a17)), (5, (.val (.int .i64) a18)), (6, (.val T29 a19))] []) (by kernel_rfl) ?_)
  unfold f7_s1 at h
  refine Run.sreg tied [] [] [] [] (by kernel_rfl) trivial ?_
  refine Run.seq ?_
  obtain ⟨y1, hy2, h⟩ := bind_some h
  refine Run.sreg tied [⟨(.val (.int .i64) y1), [], [], [], 74⟩] [] [] [Fc Tryz.prog gl 10 [(.val T48 a0), (.val (.slice 80 T102) ([] : List D102)), (.cons (.val .str a1) (.cons (.val (.int .i64) a2) (.cons .nils (.cons (.cons (.val (.int .i64) a3) (.cons (.val (.int .i64) a4) (.cons .nils (.cons (.cons (.val (.int .i64) a5) (.cons (.cons (.val .str a6) (.cons (.val .str a7) (.cons (.val (.int .i64) a8) (.cons (.val (.int .i64) a9) (.cons (.val (.int .i64) a10) .nil))))) (.cons (.cons (.val .str a11) (.cons (.val .str a12) (.cons (.val (.int .i64) a13) (.cons (.val (.int .i64) a14) (.cons (.val (.int .i64) a15) .nil))))) .nil))) .nil)))) .nil)))), (.val T62 a16)] (hset (List.replicate 74 none) []) (.ret (.val (.int .i64) y1)) (outH 74 [])] (by kernel_rfl) ⟨x10_s1 _ _ _ _ _ _ _ _ _ _ _ _ _ _ _ _ _ _ _ hy2, trivial⟩ ?_
  refine Run.sreg tied [] [] [] [] (by kernel_rfl) trivial ?_
  rcases ite_some h with ⟨hc3, h⟩ | ⟨hc3, h⟩
  · refine Run.condT (b := !decide (y1 = (0 : Int))) (by kernel_rfl) hc3 ?_
    refine Run.sreg tied [] [] [] [] (by kernel_rfl) trivial ?_
    refine Run.ret ?_
    obtain rfl := Option.some.inj h
    exact (fQ_fin [] [some T33, some (.int .i64)] (msk 161 []) (by kernel_rfl)).1
  · refine Run.condF (b := !decide (y1 = (0 : Int))) (by kernel_rfl) hc3 ?_
    refine Run.skip ?_
    change Run _ _ _ _ _
    cases h

/-- slices.Clone[[]int,int] -/
def f14 (a0 : List Int) : Option (List Int) := if (List.length ([] : List Int) + List.length a0) * 8 ≤ maxB then some a0 else none

set_option maxRecDepth 100000 in
theorem x14 (a0 : List Int) (r : List Int) (h : f14 a0 = some r) : Fc Tryz.prog gl 14 [(.val (.slice 8 (.int .i64)) a0)] (hset (List.replicate 48 none) []) (.ret (.val (.slice 8 (.int .i64)) r)) (outH 48 []) := by
  refine Fc.of Tryz.call14 (FnEx.of_runF tied Tryz.func14 rfl rfl (σ0 := mkSt 8 48 [(0, (.val (.slice 8 (.int .i64)) a0))] []) (by kernel_rfl) ?_)
  unfold f14 at h
  obtain ⟨hv, h⟩ := ite_none h
  obtain rfl := Option.some.inj h
  refine Run.sreg tied [] [] [] [] (by kernel_rfl) trivial ?_
  refine Run.seq ?_
  refine Run.sregNil (.tmp 0) 3 4 30 30 3 8 (.int .i64) a0 rfl rfl rfl rfl rfl rfl (by kernel_rfl) fact7 rfl ?_
  intro b hb
  cases b with
  | true =>
    have hx := hb rfl
    subst hx
    refine Run.condT (b := true) (by kernel_rfl) rfl ?_
    refine Run.sreg tied [] [] [] [] (by kernel_rfl) trivial ?_
    refine Run.ret ?_
    exact (fQ_fin [] [some (.slice 8 (.int .i64))] (msk 48 []) (by kernel_rfl)).1
  | false =>
    refine Run.condF (b := false) (by kernel_rfl) rfl ?_
    refine Run.skip ?_
    change Run _ _ _ _ _
    refine Run.sreg tied [] [] [] [(List.length ([] : List Int) + List.length a0) * 8 ≤ maxB] (by kernel_rfl) ⟨hv, trivial⟩ ?_
    refine Run.ret ?_
    exact (fQ_fin [.freeze 23 (.slice 8 (.int .i64))] [some (.slice 8 (.int .i64))] (msk 48 []) (by kernel_rfl)).1

/-- testamur.verify.Claims -/
def f8_l1 (a0 : D62) : Nat → Int → (List D71) → Option (List D71)
  | 0, _, _ => none
  | n1 + 1, u1_0, u1_1 => if (decide (u1_0 < (List.length a0.2.2.2.2.1 : Int))) = true then (if 0 ≤ u1_0 ∧ u1_0 < (List.length a0.2.2.2.2.1 : Int) then (Option.bind (f14 (((((((nth T68 a0.2.2.2.2.1 u1_0).2).2).2).2).2).1)) fun y3 => Option.bind (f14 ((((((((nth T68 a0.2.2.2.2.1 u1_0).2).2).2).2).2).2).1)) fun y5 => if (List.length u1_1 + List.length [((((nth T68 a0.2.2.2.2.1 u1_0).2).2).1, (y3, (y5, ())))]) * 56 ≤ maxB then (f8_l1 a0 n1 (w64 (u1_0 + (1 : Int))) (u1_1 ++ [((((nth T68 a0.2.2.2.2.1 u1_0).2).2).1, (y3, (y5, ())))])) else none) else none) else (some u1_1)

def f8 (a0 : D62) : Option (List D71) :=
  Option.bind (f8_l1 a0 (List.length a0.2.2.2.2.1 + 1) (0 : Int) ([] : List D71)) fun (o1 : List D71) => some o1

set_option maxRecDepth 100000 in
theorem x8 (a0 : D62) (r : List D71) (h : f8 a0 = some r) : Fc Tryz.prog gl 8 [(.val T62 a0)] (hset (List.replicate 66 none) []) (.ret (.val (.slice 56 T71) r)) (outH 66 []) := by
  refine Fc.of Tryz.call8 (FnEx.of_runF tied Tryz.func8 rfl rfl (σ0 := mkSt 26 66 [(0, (.val T62 a0))] []) (by kernel_rfl) ?_)
  unfold f8 at h
  refine Run.sreg tied [] [] [] [] (by kernel_rfl) trivial ?_
  obtain ⟨o1, h1, h⟩ := bind_some h
  refine Run.seqJ (fun σ' => σ' = mkSt 26 66 [(2, (.own 43))] [(43, some (.row 71 56 T71 o1))]) ?_ ?_
  · refine Run.sreg tied [] [] [] [] (by kernel_rfl) trivial ?_
    refine Run.block ?_
    refine Run.loopJ (fun n σ => ∃ (u1_0 : Int) (u1_1 : List D71), f8_l1 a0 n u1_0 u1_1 = some o1 ∧ σ = mkSt 26 66 [(2, (.own 42)), (6, (.val (.slice 176 T68) a0.2.2.2.2.1)), (7, (.val (.int .i64) (List.length a0.2.2.2.2.1 : Int))), (8, (.val (.int .i64) u1_0))] [(42, some (.row 71 56 T71 u1_1))]) [.keep [2, 6, 7, 8] [], .ownT 2 42 71 56 T71] (by kernel_rfl) ⟨_, _, h1, rfl⟩ ?_
    rintro n1 _ ⟨u1_0, u1_1, h3, rfl⟩
    cases n1 with
    | zero => exact absurd h3 (by simp [f8_l1])
    | succ n1 =>
      unfold f8_l1 at h3
      refine Run.sreg tied [] [] [] [] (by kernel_rfl) trivial ?_
      refine Run.seq ?_
      rcases ite_some h3 with ⟨hc8, h3⟩ | ⟨hc8, h3⟩
      · refine Run.condT (b := decide (u1_0 < (List.length a0.2.2.2.2.1 : Int))) (by kernel_rfl) hc8 ?_
        refine Run.skip ?_
        change Run _ _ _ _ _
        refine Run.seq ?_
        refine Run.block ?_
        obtain ⟨hv2, h3⟩ := ite_none h3
        refine Run.sreg tied [] [] [] [0 ≤ u1_0, u1_0 < (List.length a0.2.2.2.2.1 : Int)] (by kernel_rfl) ⟨hv2.1, hv2.2, trivial⟩ ?_
        obtain ⟨y3, hy4, h3⟩ := bind_some h3
        obtain ⟨y5, hy6, h3⟩ := bind_some h3
        obtain ⟨hv7, h3⟩ := ite_none h3
        refine Run.regA tied [⟨(.val (.slice 8 (.int .i64)) y3), [], [], [], 48⟩, ⟨(.val (.slice 8 (.int .i64)) y5), [], [], [], 48⟩] [] [] [Fc Tryz.prog gl 14 [(.val (.slice 8 (.int .i64)) (((((((nth T68 a0.2.2.2.2.1 u1_0).2).2).2).2).2).1))] (hset (List.replicate 48 none) []) (.ret (.val (.slice 8 (.int .i64)) y3)) (outH 48 []), Fc Tryz.prog gl 14 [(.val (.slice 8 (.int .i64)) ((((((((nth T68 a0.2.2.2.2.1 u1_0).2).2).2).2).2).2).1))] (hset (List.replicate 48 none) []) (.ret (.val (.slice 8 (.int .i64)) y5)) (outH 48 []), (List.length u1_1 + List.length [((((nth T68 a0.2.2.2.2.1 u1_0).2).2).1, (y3, (y5, ())))]) * 56 ≤ maxB] (by kernel_rfl) ⟨x14 _ _ hy4, x14 _ _ hy6, hv7, trivial⟩ ?_
        refine bN ?_
        change Run _ _ _ _ _
        refine Run.reg tied [] [] [] [] (by kernel_rfl) trivial ?_
        exact loopJ.mk [.keep [2, 6, 7, 8] [39], .ren 39 42] (by kernel_rfl) ⟨_, _, h3, rfl⟩
      · refine Run.condF (b := decide (u1_0 < (List.length a0.2.2.2.2.1 : Int))) (by kernel_rfl) hc8 ?_
        refine Run.exit ?_
        refine tE ?_
        refine lE ?_
        refine bE ?_
        obtain rfl := Option.some.inj h3
        exact jQ.mk [.keep [2] [42], .ren 42 43] (by kernel_rfl) rfl
  · rintro _ rfl
    refine Run.sreg tied [] [] [] [] (by kernel_rfl) trivial ?_
    refine Run.ret ?_
    obtain rfl := Option.some.inj h
    exact (fQ_fin [.freeze 43 (.slice 56 T71)] [some (.slice 56 T71)] (msk 66 []) (by kernel_rfl)).1

/-- testamur.testamurref28.SameInts -/
def f15_l1 (a0 : List Int) (a1 : List Int) : Nat → Int → Option Unit
  | 0, _ => none
  | n1 + 1, u1_0 => if (decide (u1_0 < (List.length a0 : Int))) = true then (if 0 ≤ u1_0 ∧ u1_0 < (List.length a0 : Int) then (if u1_0 < (List.length a1 : Int) then (if (!decide ((nth (.int .i64) a0 u1_0) = (nth (.int .i64) a1 u1_0))) = true then none else (f15_l1 a0 a1 n1 (w64 (u1_0 + (1 : Int))))) else none) else none) else (some ())

def f15 (a0 : List Int) (a1 : List Int) : Option Bool :=
  if (!decide ((List.length a0 : Int) = (List.length a1 : Int))) = true then none else (Option.bind (f15_l1 a0 a1 (big) (0 : Int)) fun (_o1 : Unit) => some true)

set_option maxRecDepth 100000 in
theorem x15 (a0 : List Int) (a1 : List Int) (r : Bool) (h : f15 a0 a1 = some r) : Fc Tryz.prog gl 15 [(.val (.slice 8 (.int .i64)) a0), (.val (.slice 8 (.int .i64)) a1)] (hset (List.replicate 66 none) []) (.ret (.val .bool r)) (outH 66 []) := by
  refine Fc.of Tryz.call15 (FnEx.of_runF tied Tryz.func15 rfl rfl (σ0 := mkSt 26 66 [(0, (.val (.slice 8 (.int .i64)) a0)), (1, (.val (.slice 8 (.int .i64)) a1))] []) (by kernel_rfl) ?_)
  unfold f15 at h
  refine Run.sreg tied [] [] [] [] (by kernel_rfl) trivial ?_
  refine Run.seq ?_
  refine Run.sreg tied [] [] [] [] (by kernel_rfl) trivial ?_
  rcases ite_some h with ⟨hc6, h⟩ | ⟨hc6, h⟩
  · refine Run.condT (b := !decide ((List.length a0 : Int) = (List.length a1 : Int))) (by kernel_rfl) hc6 ?_
    cases h
  · refine Run.condF (b := !decide ((List.length a0 : Int) = (List.length a1 : Int))) (by kernel_rfl) hc6 ?_
    refine Run.skip ?_
    change Run _ _ _ _ _
    obtain ⟨o1, h1, h⟩ := bind_some h
    refine Run.seqJ (fun σ' => σ' = mkSt 26 66 [] []) ?_ ?_
    · refine Run.sreg tied [] [] [] [] (by kernel_rfl) trivial ?_
      refine Run.block ?_
      refine Run.loopJ (fun n σ => ∃ (u1_0 : Int), f15_l1 a0 a1 n u1_0 = some o1 ∧ σ = mkSt 26 66 [(0, (.val (.slice 8 (.int .i64)) a0)), (1, (.val (.slice 8 (.int .i64)) a1)), (5, (.val (.int .i64) u1_0))] []) [.keep [0, 1, 5] []] (by kernel_rfl) ⟨_, h1, rfl⟩ ?_
      rintro n1 _ ⟨u1_0, h3, rfl⟩
      cases n1 with
      | zero => exact absurd h3 (by simp [f15_l1])
      | succ n1 =>
        unfold f15_l1 at h3
        refine Run.seq ?_
        refine Run.sreg tied [] [] [] [] (by kernel_rfl) trivial ?_
        rcases ite_some h3 with ⟨hc5, h3⟩ | ⟨hc5, h3⟩
        · refine Run.condT (b := decide (u1_0 < (List.length a0 : Int))) (by kernel_rfl) hc5 ?_
          refine Run.skip ?_
          change Run _ _ _ _ _
          refine Run.seq ?_
          refine Run.block ?_
          obtain ⟨hv2, h3⟩ := ite_none h3
          obtain ⟨hv3, h3⟩ := ite_none h3
          refine Run.sregA tied [] [] [] [0 ≤ u1_0, u1_0 < (List.length a0 : Int), 0 ≤ u1_0, u1_0 < (List.length a1 : Int)] (by kernel_rfl) ⟨hv2.1, hv2.2, hv2.1, hv3, trivial⟩ ?_
          rcases ite_some h3 with ⟨hc4, h3⟩ | ⟨hc4, h3⟩
          · refine Run.condT (b := !decide ((nth (.int .i64) a0 u1_0) = (nth (.int .i64) a1 u1_0))) (by kernel_rfl) hc4 ?_
            cases h3
          · refine Run.condF (b := !decide ((nth (.int .i64) a0 u1_0) = (nth (.int .i64) a1 u1_0))) (by kernel_rfl) hc4 ?_
            refine Run.skip ?_
            refine bN ?_
            change Run _ _ _ _ _
            refine Run.reg tied [] [] [] [] (by kernel_rfl) trivial ?_
            exact loopJ.mk [.keep [0, 1, 5] []] (by kernel_rfl) ⟨_, h3, rfl⟩
        · refine Run.condF (b := decide (u1_0 < (List.length a0 : Int))) (by kernel_rfl) hc5 ?_
          refine Run.exit ?_
          refine tE ?_
          refine lE ?_
          refine bE ?_
          obtain rfl := Option.some.inj h3
          exact jQ.mk [.keep [] []] (by kernel_rfl) rfl
    · rintro _ rfl
      refine Run.sreg tied [] [] [] [] (by kernel_rfl) trivial ?_
      refine Run.ret ?_
      obtain rfl := Option.some.inj h
      exact (fQ_fin [] [some .bool] (msk 66 []) (by kernel_rfl)).1

/-- testamur.testamurref28.SameClaims -/
def f9_l1 (a0 : List D71) (a1 : List D71) : Nat → Int → Option Unit
  | 0, _ => none
  | n1 + 1, u1_0 => if (decide (u1_0 < (List.length a0 : Int))) = true then (Option.bind (Option.bind (if 0 ≤ u1_0 ∧ u1_0 < (List.length a0 : Int) then (if u1_0 < (List.length a1 : Int) then (if (!decide (((nth T71 a0 u1_0).1) = ((nth T71 a1 u1_0).1))) = true then (some true) else (Option.bind (f15 (((nth T71 a0 u1_0).2).1) (((nth T71 a1 u1_0).2).1)) fun y7 => if (!y7) = true then (some true) else (Option.bind (f15 ((((nth T71 a0 u1_0).2).2).1) ((((nth T71 a1 u1_0).2).2).1)) fun y10 => some (!y10)))) else none) else none) fun (o3 : Bool) => if o3 = true then none else (some ())) fun (_o2 : Unit) => f9_l1 a0 a1 n1 (w64 (u1_0 + (1 : Int)))) else (some ())

def f9 (a0 : List D71) (a1 : List D71) : Option Bool :=
  if (!decide ((List.length a0 : Int) = (List.length a1 : Int))) = true then none else (Option.bind (f9_l1 a0 a1 (big) (0 : Int)) fun (_o1 : Unit) => some true)

set_option maxRecDepth 100000 in
theorem x9 (a0 : List D71) (a1 : List D71) (r : Bool) (h : f9 a0 a1 = some r) : Fc Tryz.prog gl 9 [(.val (.slice 56 T71) a0), (.val (.slice 56 T71) a1)] (hset (List.replicate 96 none) []) (.ret (.val .bool r)) (outH 96 []) := by
  refine Fc.of Tryz.call9 (FnEx.of_runF tied Tryz.func9 rfl rfl (σ0 := mkSt 56 96 [(0, (.val (.slice 56 T71) a0)), (1, (.val (.slice 56 T71) a1))] []) (by kernel_rfl) ?_)
  unfold f9 at h
  refine Run.sreg tied [] [] [] [] (by kernel_rfl) trivial ?_
  refine Run.seq ?_
  refine Run.sreg tied [] [] [] [] (by kernel_rfl) trivial ?_
  rcases ite_some h with ⟨hc14, h⟩ | ⟨hc14, h⟩
  · refine Run.condT (b := !decide ((List.length a0 : Int) = (List.length a1 : Int))) (by kernel_rfl) hc14 ?_
    cases h
  · refine Run.condF (b := !decide ((List.length a0 : Int) = (List.length a1 : Int))) (by kernel_rfl) hc14 ?_
    refine Run.skip ?_
    change Run _ _ _ _ _
    obtain ⟨o1, h1, h⟩ := bind_some h
    refine Run.seqJ (fun σ' => σ' = mkSt 56 96 [] []) ?_ ?_
    · refine Run.sreg tied [] [] [] [] (by kernel_rfl) trivial ?_
      refine Run.block ?_
      refine Run.loopJ (fun n σ => ∃ (u1_0 : Int), f9_l1 a0 a1 n u1_0 = some o1 ∧ σ = mkSt 56 96 [(0, (.val (.slice 56 T71) a0)), (1, (.val (.slice 56 T71) a1)), (5, (.val (.int .i64) u1_0))] []) [.keep [0, 1, 5] []] (by kernel_rfl) ⟨_, h1, rfl⟩ ?_
      rintro n1 _ ⟨u1_0, h6, rfl⟩
      cases n1 with
      | zero => exact absurd h6 (by simp [f9_l1])
      | succ n1 =>
        unfold f9_l1 at h6
        refine Run.seq ?_
        refine Run.sreg tied [] [] [] [] (by kernel_rfl) trivial ?_
        rcases ite_some h6 with ⟨hc13, h6⟩ | ⟨hc13, h6⟩
        · refine Run.condT (b := decide (u1_0 < (List.length a0 : Int))) (by kernel_rfl) hc13 ?_
          refine Run.skip ?_
          change Run _ _ _ _ _
          obtain ⟨o2, h7, h6⟩ := bind_some h6
          refine Run.seqJ (fun σ' => σ' = mkSt 56 96 [(0, (.val (.slice 56 T71) a0)), (1, (.val (.slice 56 T71) a1)), (5, (.val (.int .i64) u1_0))] []) ?_ ?_
          · refine Run.block ?_
            obtain ⟨o3, h9, h7⟩ := bind_some h7
            refine Run.seqJ (fun σ' => σ' = mkSt 56 96 [(0, (.val (.slice 56 T71) a0)), (1, (.val (.slice 56 T71) a1)), (5, (.val (.int .i64) u1_0)), (55, (.val .bool o3))] []) ?_ ?_
            · obtain ⟨hv4, h9⟩ := ite_none h9
              obtain ⟨hv5, h9⟩ := ite_none h9
              rcases ite_some h9 with ⟨hg6, h9⟩ | ⟨hg6, h9⟩
              · refine Run.regA tied [] [true, true] [] [0 ≤ u1_0, u1_0 < (List.length a0 : Int), 0 ≤ u1_0, u1_0 < (List.length a1 : Int), (!decide (((nth T71 a0 u1_0).1) = ((nth T71 a1 u1_0).1))) = true, true = true] (by kernel_rfl) ⟨hv4.1, hv4.2, hv4.1, hv5, hg6, rfl, trivial⟩ ?_
                obtain rfl := Option.some.inj h9
                exact jQ.mk [.keep [0, 1, 5, 55] []] (by kernel_rfl) rfl
              · obtain ⟨y7, hy8, h9⟩ := bind_some h9
                rcases ite_some h9 with ⟨hg9, h9⟩ | ⟨hg9, h9⟩
                · refine Run.regA tied [⟨(.val .bool y7), [], [], [], 66⟩] [false, true] [] [0 ≤ u1_0, u1_0 < (List.length a0 : Int), 0 ≤ u1_0, u1_0 < (List.length a1 : Int), (!decide (((nth T71 a0 u1_0).1) = ((nth T71 a1 u1_0).1))) = false, 0 ≤ u1_0, u1_0 < (List.length a0 : Int), 0 ≤ u1_0, u1_0 < (List.length a1 : Int), Fc Tryz.prog gl 15 [(.val (.slice 8 (.int .i64)) (((nth T71 a0 u1_0).2).1)), (.val (.slice 8 (.int .i64)) (((nth T71 a1 u1_0).2).1))] (hset (List.replicate 66 none) []) (.ret (.val .bool y7)) (outH 66 []), (!y7) = true] (by kernel_rfl) ⟨hv4.1, hv4.2, hv4.1, hv5, hg6, hv4.1, hv4.2, hv4.1, hv5, x15 _ _ _ hy8, hg9, trivial⟩ ?_
                  obtain rfl := Option.some.inj h9
                  exact jQ.mk [.keep [0, 1, 5, 55] []] (by kernel_rfl) rfl
                · obtain ⟨y10, hy11, h9⟩ := bind_some h9
                  refine Run.regA tied [⟨(.val .bool y7), [], [], [], 66⟩, ⟨(.val .bool y10), [], [], [], 66⟩] [false, false] [] [0 ≤ u1_0, u1_0 < (List.length a0 : Int), 0 ≤ u1_0, u1_0 < (List.length a1 : Int), (!decide (((nth T71 a0 u1_0).1) = ((nth T71 a1 u1_0).1))) = false, 0 ≤ u1_0, u1_0 < (List.length a0 : Int), 0 ≤ u1_0, u1_0 < (List.length a1 : Int), Fc Tryz.prog gl 15 [(.val (.slice 8 (.int .i64)) (((nth T71 a0 u1_0).2).1)), (.val (.slice 8 (.int .i64)) (((nth T71 a1 u1_0).2).1))] (hset (List.replicate 66 none) []) (.ret (.val .bool y7)) (outH 66 []), (!y7) = false, 0 ≤ u1_0, u1_0 < (List.length a0 : Int), 0 ≤ u1_0, u1_0 < (List.length a1 : Int), Fc Tryz.prog gl 15 [(.val (.slice 8 (.int .i64)) ((((nth T71 a0 u1_0).2).2).1)), (.val (.slice 8 (.int .i64)) ((((nth T71 a1 u1_0).2).2).1))] (hset (List.replicate 66 none) []) (.ret (.val .bool y10)) (outH 66 [])] (by kernel_rfl) ⟨hv4.1, hv4.2, hv4.1, hv5, hg6, hv4.1, hv4.2, hv4.1, hv5, x15 _ _ _ hy8, hg9, hv4.1, hv4.2, hv4.1, hv5, x15 _ _ _ hy11, trivial⟩ ?_
                  obtain rfl := Option.some.inj h9
                  exact jQ.mk [.keep [0, 1, 5, 55] []] (by kernel_rfl) rfl
            · rintro _ rfl
              rcases ite_some h7 with ⟨hc12, h7⟩ | ⟨hc12, h7⟩
              · refine Run.condT (b := o3) (by kernel_rfl) hc12 ?_
                cases h7
              · refine Run.condF (b := o3) (by kernel_rfl) hc12 ?_
                refine Run.skip ?_
                refine bN ?_
                obtain rfl := Option.some.inj h7
                exact jQ.mk [.keep [0, 1, 5] []] (by kernel_rfl) rfl
          · rintro _ rfl
            refine Run.reg tied [] [] [] [] (by kernel_rfl) trivial ?_
            exact loopJ.mk [.keep [0, 1, 5] []] (by kernel_rfl) ⟨_, h6, rfl⟩
        · refine Run.condF (b := decide (u1_0 < (List.length a0 : Int))) (by kernel_rfl) hc13 ?_
          refine Run.exit ?_
          refine tE ?_
          refine lE ?_
          refine bE ?_
          obtain rfl := Option.some.inj h6
          exact jQ.mk [.keep [] []] (by kernel_rfl) rfl
    · rintro _ rfl
      refine Run.sreg tied [] [] [] [] (by kernel_rfl) trivial ?_
      refine Run.ret ?_
      obtain rfl := Option.some.inj h
      exact (fQ_fin [] [some .bool] (msk 96 []) (by kernel_rfl)).1

/-- testamur.verify.Check -/
def f10_s2 (a0 : D48) (a1 : List UInt8) (a2 : Int) (a3 : Int) (a4 : Int) (a5 : Int) (a6 : List UInt8) (a7 : List UInt8) (a8 : Int) (a9 : Int) (a10 : Int) (a11 : List UInt8) (a12 : List UInt8) (a13 : Int) (a14 : Int) (a15 : Int) (_a16 : D62) : Option Int :=
  Option.bind (f16 a0) fun y1 => if (!decide (y1 = (0 : Int))) = true then none else (Option.bind (f17_s1 a0 a1 a2 a3 a4 a5 a6 a7 a8 a9 a10 a11 a12 a13 a14 a15) fun y3 => if (!decide (y3.2 = (0 : Int))) = true then (some y3.2) else none)

set_option maxRecDepth 100000 in
theorem x10_s2 (a0 : D48) (a1 : List UInt8) (a2 : Int) (a3 : Int) (a4 : Int) (a5 : Int) (a6 : List UInt8) (a7 : List UInt8) (a8 : Int) (a9 : Int) (a10 : Int) (a11 : List UInt8) (a12 : List UInt8) (a13 : Int) (a14 : Int) (a15 : Int) (a16 : D62) (r : Int) (h : f10_s2 a0 a1 a2 a3 a4 a5 a6 a7 a8 a9 a10 a11 a12 a13 a14 a15 a16 = some r) : Fc Tryz.prog gl 10 [(.val T48 a0), .nils, (.cons (.val .str a1) (.cons (.val (.int .i64) a2) (.cons .nils (.cons (.cons (.val (.int .i64) a3) (.cons (.val (.int .i64) a4) (.cons .nils (.cons (.cons (.val (.int .i64) a5) (.cons (.cons (.val .str a6) (.cons (.val .str a7) (.cons (.val (.int .i64) a8) (.cons (.val (.int .i64) a9) (.cons (.val (.int .i64) a10) .nil))))) (.cons (.cons (.val .str a11) (.cons (.val .str a12) (.cons (.val (.int .i64) a13) (.cons (.val (.int .i64) a14) (.cons (.val (.int .i64) a15) .nil))))) .nil))) .nil)))) .nil)))), (.val T62 a16)] (hset (List.replicate 74 none) []) (.ret (.val (.int .i64) r)) (outH 74 []) := by
  refine Fc.of Tryz.call10 (FnEx.of_runM tied Tryz.func10 rfl rfl (σ0 := mkSt 34 74 [(0, (.val T48 a0)), (1, .nils), (2, (.cons (.val .str a1) (.cons (.val (.int .i64) a2) (.cons .nils (.cons (.cons (.val (.int .i64) a3) (.cons (.val (.int .i64) a4) (.cons .nils (.cons (.cons (.val (.int .i64) a5) (.cons (.cons (.val .str a6) (.cons (.val .str a7) (.cons (.val (.int .i64) a8) (.cons (.val (.int .i64) a9) (.cons (.val (.int .i64) a10) .nil))))) (.cons (.cons (.val .str a11) (.cons (.val .str a12) (.cons (.val (.int .i64) a13) (.cons (.val (.int .i64) a14) (.cons (.val (.int .i64) a15) .nil))))) .nil))) .nil)))) .nil))))), (3, (.val T62 a16))] []) (by kernel_rfl) ?_)
  unfold f10_s2 at h
  refine Run.sreg tied [] [] [] [] (by kernel_rfl) trivial ?_
  refine Run.seq ?_
  obtain ⟨y1, hy2, h⟩ := bind_some h
  refine Run.sreg tied [⟨(.val (.int .i64) y1), [], [], [], 58⟩] [] [] [Fc Tryz.prog gl 16 [(.val T48 a0)] (hset (List.replicate 58 none) []) (.ret (.val (.int .i64) y1)) (outH 58 [])] (by kernel_rfl) ⟨x16 _ _ hy2, trivial⟩ ?_
  rcases ite_some h with ⟨hc6, h⟩ | ⟨hc6, h⟩
  · refine Run.condT (b := !decide (y1 = (0 : Int))) (by kernel_rfl) hc6 ?_
    cases h
  · refine Run.condF (b := !decide (y1 = (0 : Int))) (by kernel_rfl) hc6 ?_
    refine Run.skip ?_
    change Run _ _ _ _ _
    obtain ⟨y3, hy4, h⟩ := bind_some h
    refine Run.sreg tied [⟨(.tup (.cons (.val T29 y3.1) (.cons (.val (.int .i64) y3.2) .nil))), [], [], [], 60⟩] [] [] [Fc Tryz.prog gl 17 [(.val T48 a0), (.cons (.val .str a1) (.cons (.val (.int .i64) a2) (.cons .nils (.cons (.cons (.val (.int .i64) a3) (.cons (.val (.int .i64) a4) (.cons .nils (.cons (.cons (.val (.int .i64) a5) (.cons (.cons (.val .str a6) (.cons (.val .str a7) (.cons (.val (.int .i64) a8) (.cons (.val (.int .i64) a9) (.cons (.val (.int .i64) a10) .nil))))) (.cons (.cons (.val .str a11) (.cons (.val .str a12) (.cons (.val (.int .i64) a13) (.cons (.val (.int .i64) a14) (.cons (.val (.int .i64) a15) .nil))))) .nil))) .nil)))) .nil))))] (hset (List.replicate 60 none) []) (.ret (.tup (.cons (.val T29 y3.1) (.cons (.val (.int .i64) y3.2) .nil)))) (outH 60 [])] (by kernel_rfl) ⟨x17_s1 _ _ _ _ _ _ _ _ _ _ _ _ _ _ _ _ _ hy4, trivial⟩ ?_
    refine Run.seq ?_
    refine Run.sreg tied [] [] [] [] (by kernel_rfl) trivial ?_
    rcases ite_some h with ⟨hc5, h⟩ | ⟨hc5, h⟩
    · refine Run.condT (b := !decide (y3.2 = (0 : Int))) (by kernel_rfl) hc5 ?_
      refine Run.sreg tied [] [] [] [] (by kernel_rfl) trivial ?_
      refine Run.ret ?_
      obtain rfl := Option.some.inj h
      exact (mQ_fin [] [some (.int .i64)] (msk 74 []) (by kernel_rfl)).1
    · refine Run.condF (b := !decide (y3.2 = (0 : Int))) (by kernel_rfl) hc5 ?_
      refine Run.skip ?_
      change Run _ _ _ _ _
      refine Run.seq ?_
      cases h

/-- testamur.testamurlaw28.sane -/
def f4  : Option Bool :=
  Option.bind (f6 [((0 : Int), ((0 : Int), (Ty.dflt T29, (([] : List Int), ([((1 : Int), ((2 : Int), ()))], ()))))), ((0 : Int), ((0 : Int), (Ty.dflt T29, (([] : List Int), ([((0 : Int), ((0 : Int), ())), ((1 : Int), ((2 : Int), ()))], ())))))]) fun y1 => Option.bind (f6 [((0 : Int), ((0 : Int), (Ty.dflt T29, (([] : List Int), ([((2 : Int), ((2 : Int), ()))], ()))))), ((0 : Int), ((0 : Int), (Ty.dflt T29, (([] : List Int), ([((1 : Int), ((2 : Int), ()))], ()))))), ((0 : Int), ((0 : Int), (Ty.dflt T29, (([] : List Int), ([((0 : Int), ((0 : Int), ())), ((1 : Int), ((2 : Int), ()))], ())))))]) fun y3 => Option.bind (f6_s1) fun y5 => Option.bind (f6 [((0 : Int), ((0 : Int), (Ty.dflt T29, (([] : List Int), ([((1 : Int), ((2 : Int), ()))], ()))))), ((0 : Int), ((0 : Int), (Ty.dflt T29, (([] : List Int), ([((2 : Int), ((2 : Int), ()))], ())))))]) fun y7 => Option.bind (f7_s1 ((([] : List (List UInt8)), (([] : List D181), (([] : List D144), (([] : List D175), (([] : List D193), (([] : List D132), ())))))), (([] : List Int), ())) [] (0 : Int) (0 : Int) (0 : Int) (0 : Int) [] [] (0 : Int) (0 : Int) (0 : Int) [] [] (0 : Int) (0 : Int) (0 : Int) ((0 : Int), ((0 : Int), (Ty.dflt T29, (Ty.dflt T29, (([] : List D68), (([] : List (List D29)), ())))))) (0 : Int) (0 : Int) (List.replicate 32 (0 : Int))) fun y9 => Option.bind (f8 ((0 : Int), ((0 : Int), (Ty.dflt T29, (Ty.dflt T29, ([((0 : Int), ((0 : Int), ((3 : Int), ((0 : Int), (Ty.dflt T29, ([(1 : Int)], ([(9 : Int)], ((0 : Int), (Ty.dflt T29, (([] : List D249), ()))))))))))], (([] : List (List D29)), ()))))))) fun y11 => Option.bind (if (decide (y1.1 = (0 : Int))) = true then (if (decide (y1.2.1 = (1 : Int))) = true then (if y1.2.2 = true then (if (decide (y3.1 = (1 : Int))) = true then (if (decide (y3.2.1 = (2 : Int))) = true then (if y3.2.2 = true then (if (!y5.2.2) = true then (if (!y7.2.2) = true then (if (decide (y9.2 = (210 : Int))) = true then (Option.bind (f8 ((0 : Int), ((0 : Int), (Ty.dflt T29, (Ty.dflt T29, (([] : List D68), (([] : List (List D29)), ()))))))) fun y23 => if (decide ((List.length y23 : Int) = (0 : Int))) = true then (Option.bind (f9 y11 [((3 : Int), ([(1 : Int)], ([(9 : Int)], ())))]) fun y26 => if y26 = true then (Option.bind (f10_s2 ((([] : List (List UInt8)), (([] : List D181), (([] : List D144), (([] : List D175), (([] : List D193), (([] : List D132), ())))))), (([] : List Int), ())) [] (0 : Int) (0 : Int) (0 : Int) (0 : Int) [] [] (0 : Int) (0 : Int) (0 : Int) [] [] (0 : Int) (0 : Int) (0 : Int) ((0 : Int), ((0 : Int), (Ty.dflt T29, (Ty.dflt T29, (([] : List D68), (([] : List (List D29)), ()))))))) fun y29 => some (decide (y29 = (210 : Int)))) else (some false)) else (some false)) else (some false)) else (some false)) else (some false)) else (some false)) else (some false)) else (some false)) else (some false)) else (some false)) else (some false)) fun (o13 : Bool) => some o13

set_option maxRecDepth 100000 in
theorem x4  (r : Bool) (h : f4 = some r) : Fc Tryz.prog gl 4 [] (hset (List.replicate 166 none) []) (.ret (.val .bool r)) (outH 166 []) := by
  refine Fc.of Tryz.call4 (FnEx.of_runF tied Tryz.func4 rfl rfl (σ0 := mkSt 126 166 [] []) (by kernel_rfl) ?_)
  unfold f4 at h
  refine Run.sreg tied [] [] [] [] (by kernel_rfl) trivial ?_
  refine Run.sreg tied [] [] [] [] (by kernel_rfl) trivial ?_
  refine Run.sreg tied [] [] [] [] (by kernel_rfl) trivial ?_
  refine Run.sreg tied [] [] [] [] (by kernel_rfl) trivial ?_
  refine Run.gh [.freeze 36 (.slice 16 T35), .freeze 43 (.slice 16 T35)] (σ' := mkSt 126 166 [(0, (.val .bool false)), (1, (.ptr 17 [])), (2, (.ptr 18 [])), (3, (.ptr 19 [])), (19, (.val T35 ((1 : Int), ((2 : Int), ())))), (20, (.val (.slice 16 T35) [((1 : Int), ((2 : Int), ()))])), (21, (.cons (.val (.int .i64) (0 : Int)) (.cons (.val (.int .i64) (0 : Int)) (.cons (.val T29 (Ty.dflt T29)) (.cons .nils (.cons (.val (.slice 16 T35) [((1 : Int), ((2 : Int), ()))]) .nil)))))), (22, (.val T35 ((2 : Int), ((2 : Int), ())))), (23, (.own 39)), (24, (.cons (.val (.int .i64) (0 : Int)) (.cons (.val (.int .i64) (0 : Int)) (.cons (.val T29 (Ty.dflt T29)) (.cons .nils (.cons (.own 39) .nil)))))), (25, (.val T35 ((0 : Int), ((0 : Int), ())))), (26, (.val T35 ((1 : Int), ((2 : Int), ())))), (27, (.val (.slice 16 T35) [((0 : Int), ((0 : Int), ())), ((1 : Int), ((2 : Int), ()))])), (28, (.cons (.val (.int .i64) (0 : Int)) (.cons (.val (.int .i64) (0 : Int)) (.cons (.val T29 (Ty.dflt T29)) (.cons .nils (.cons (.val (.slice 16 T35) [((0 : Int), ((0 : Int), ())), ((1 : Int), ((2 : Int), ()))]) .nil))))))] [(17, some (.var T33 (.cons (.val (.int .i64) (0 : Int)) (.cons (.val (.int .i64) (0 : Int)) (.cons (.val T29 (Ty.dflt T29)) (.cons .nils (.cons (.val (.slice 16 T35) [((1 : Int), ((2 : Int), ()))]) .nil))))))), (18, some (.var T33 (.cons (.val (.int .i64) (0 : Int)) (.cons (.val (.int .i64) (0 : Int)) (.cons (.val T29 (Ty.dflt T29)) (.cons .nils (.cons (.own 39) .nil))))))), (19, some (.var T33 (.cons (.val (.int .i64) (0 : Int)) (.cons (.val (.int .i64) (0 : Int)) (.cons (.val T29 (Ty.dflt T29)) (.cons .nils (.cons (.val (.slice 16 T35) [((0 : Int), ((0 : Int), ())), ((1 : Int), ((2 : Int), ()))]) .nil))))))), (39, some (.row 35 16 T35 [((2 : Int), ((2 : Int), ()))]))]) (by kernel_rfl) ?_
  obtain ⟨y1, hy2, h⟩ := bind_some h
  refine Run.sreg tied [⟨(.tup (.cons (.val (.int .i64) y1.1) (.cons (.val (.int .i64) y1.2.1) (.cons (.val .bool y1.2.2) .nil)))), [], [], [], 89⟩] [] [] [Fc Tryz.prog gl 6 [(.val (.slice 96 T33) [((0 : Int), ((0 : Int), (Ty.dflt T29, (([] : List Int), ([((1 : Int), ((2 : Int), ()))], ()))))), ((0 : Int), ((0 : Int), (Ty.dflt T29, (([] : List Int), ([((0 : Int), ((0 : Int), ())), ((1 : Int), ((2 : Int), ()))], ())))))])] (hset (List.replicate 89 none) []) (.ret (.tup (.cons (.val (.int .i64) y1.1) (.cons (.val (.int .i64) y1.2.1) (.cons (.val .bool y1.2.2) .nil))))) (outH 89 [])] (by kernel_rfl) ⟨x6 _ _ hy2, trivial⟩ ?_
  refine Run.gh [.freeze 39 (.slice 16 T35)] (σ' := mkSt 126 166 [(0, (.val .bool false)), (1, (.ptr 17 [])), (2, (.ptr 18 [])), (3, (.ptr 19 [])), (4, (.val (.int .i64) y1.1)), (5, (.val (.int .i64) y1.2.1)), (6, (.val .bool y1.2.2)), (19, (.val T35 ((1 : Int), ((2 : Int), ())))), (20, (.val (.slice 16 T35) [((1 : Int), ((2 : Int), ()))])), (21, (.cons (.val (.int .i64) (0 : Int)) (.cons (.val (.int .i64) (0 : Int)) (.cons (.val T29 (Ty.dflt T29)) (.cons .nils (.cons (.val (.slice 16 T35) [((1 : Int), ((2 : Int), ()))]) .nil)))))), (22, (.val T35 ((2 : Int), ((2 : Int), ())))), (23, (.val (.slice 16 T35) [((2 : Int), ((2 : Int), ()))])), (24, (.cons (.val (.int .i64) (0 : Int)) (.cons (.val (.int .i64) (0 : Int)) (.cons (.val T29 (Ty.dflt T29)) (.cons .nils (.cons (.val (.slice 16 T35) [((2 : Int), ((2 : Int), ()))]) .nil)))))), (25, (.val T35 ((0 : Int), ((0 : Int), ())))), (26, (.val T35 ((1 : Int), ((2 : Int), ())))), (27, (.val (.slice 16 T35) [((0 : Int), ((0 : Int), ())), ((1 : Int), ((2 : Int), ()))])), (28, (.cons (.val (.int .i64) (0 : Int)) (.cons (.val (.int .i64) (0 : Int)) (.cons (.val T29 (Ty.dflt T29)) (.cons .nils (.cons (.val (.slice 16 T35) [((0 : Int), ((0 : Int), ())), ((1 : Int), ((2 : Int), ()))]) .nil)))))), (30, (.cons (.val (.int .i64) (0 : Int)) (.cons (.val (.int .i64) (0 : Int)) (.cons (.val T29 (Ty.dflt T29)) (.cons .nils (.cons (.val (.slice 16 T35) [((1 : Int), ((2 : Int), ()))]) .nil)))))), (31, (.cons (.val (.int .i64) (0 : Int)) (.cons (.val (.int .i64) (0 : Int)) (.cons (.val T29 (Ty.dflt T29)) (.cons .nils (.cons (.val (.slice 16 T35) [((0 : Int), ((0 : Int), ())), ((1 : Int), ((2 : Int), ()))]) .nil)))))), (32, (.own 48)), (34, (.val (.int .i64) y1.1)), (35, (.val (.int .i64) y1.2.1)), (36, (.val .bool y1.2.2))] [(17, some (.var T33 (.cons (.val (.int .i64) (0 : Int)) (.cons (.val (.int .i64) (0 : Int)) (.cons (.val T29 (Ty.dflt T29)) (.cons .nils (.cons (.val (.slice 16 T35) [((1 : Int), ((2 : Int), ()))]) .nil))))))), (18, some (.var T33 (.cons (.val (.int .i64) (0 : Int)) (.cons (.val (.int .i64) (0 : Int)) (.cons (.val T29 (Ty.dflt T29)) (.cons .nils (.cons (.val (.slice 16 T35) [((2 : Int), ((2 : Int), ()))]) .nil))))))), (19, some (.var T33 (.cons (.val (.int .i64) (0 : Int)) (.cons (.val (.int .i64) (0 : Int)) (.cons (.val T29 (Ty.dflt T29)) (.cons .nils (.cons (.val (.slice 16 T35) [((0 : Int), ((0 : Int), ())), ((1 : Int), ((2 : Int), ()))]) .nil))))))), (48, some (.row 33 96 T33 [((0 : Int), ((0 : Int), (Ty.dflt T29, (([] : List Int), ([((1 : Int), ((2 : Int), ()))], ()))))), ((0 : Int), ((0 : Int), (Ty.dflt T29, (([] : List Int), ([((0 : Int), ((0 : Int), ())), ((1 : Int), ((2 : Int), ()))], ())))))]))]) (by kernel_rfl) ?_
  obtain ⟨y3, hy4, h⟩ := bind_some h
  refine Run.sreg tied [⟨(.tup (.cons (.val (.int .i64) y3.1) (.cons (.val (.int .i64) y3.2.1) (.cons (.val .bool y3.2.2) .nil)))), [], [], [], 89⟩] [] [] [Fc Tryz.prog gl 6 [(.val (.slice 96 T33) [((0 : Int), ((0 : Int), (Ty.dflt T29, (([] : List Int), ([((2 : Int), ((2 : Int), ()))], ()))))), ((0 : Int), ((0 : Int), (Ty.dflt T29, (([] : List Int), ([((1 : Int), ((2 : Int), ()))], ()))))), ((0 : Int), ((0 : Int), (Ty.dflt T29, (([] : List Int), ([((0 : Int), ((0 : Int), ())), ((1 : Int), ((2 : Int), ()))], ())))))])] (hset (List.replicate 89 none) []) (.ret (.tup (.cons (.val (.int .i64) y3.1) (.cons (.val (.int .i64) y3.2.1) (.cons (.val .bool y3.2.2) .nil))))) (outH 89 [])] (by kernel_rfl) ⟨x6 _ _ hy4, trivial⟩ ?_
  obtain ⟨y5, hy6, h⟩ := bind_some h
  refine Run.sreg tied [⟨(.tup (.cons (.val (.int .i64) y5.1) (.cons (.val (.int .i64) y5.2.1) (.cons (.val .bool y5.2.2) .nil)))), [], [], [], 89⟩] [] [] [Fc Tryz.prog gl 6 [.nils] (hset (List.replicate 89 none) []) (.ret (.tup (.cons (.val (.int .i64) y5.1) (.cons (.val (.int .i64) y5.2.1) (.cons (.val .bool y5.2.2) .nil))))) (outH 89 [])] (by kernel_rfl) ⟨x6_s1  _ hy6, trivial⟩ ?_
  obtain ⟨y7, hy8, h⟩ := bind_some h
  refine Run.sreg tied [⟨(.tup (.cons (.val (.int .i64) y7.1) (.cons (.val (.int .i64) y7.2.1) (.cons (.val .bool y7.2.2) .nil)))), [], [], [], 89⟩] [] [] [Fc Tryz.prog gl 6 [(.val (.slice 96 T33) [((0 : Int), ((0 : Int), (Ty.dflt T29, (([] : List Int), ([((1 : Int), ((2 : Int), ()))], ()))))), ((0 : Int), ((0 : Int), (Ty.dflt T29, (([] : List Int), ([((2 : Int), ((2 : Int), ()))], ())))))])] (hset (List.replicate 89 none) []) (.ret (.tup (.cons (.val (.int .i64) y7.1) (.cons (.val (.int .i64) y7.2.1) (.cons (.val .bool y7.2.2) .nil))))) (outH 89 [])] (by kernel_rfl) ⟨x6 _ _ hy8, trivial⟩ ?_
  obtain ⟨y9, hy10, h⟩ := bind_some h
  refine Run.sreg tied [⟨(.tup (.cons (.val T33 y9.1) (.cons (.val (.int .i64) y9.2) .nil))), [], [], [], 161⟩] [] [] [Fc Tryz.prog gl 7 [(.val T48 ((([] : List (List UInt8)), (([] : List D181), (([] : List D144), (([] : List D175), (([] : List D193), (([] : List D132), ())))))), (([] : List Int), ()))), .nils, (.cons (.val .str []) (.cons (.val (.int .i64) (0 : Int)) (.cons .nils (.cons (.cons (.val (.int .i64) (0 : Int)) (.cons (.val (.int .i64) (0 : Int)) (.cons .nils (.cons (.cons (.val (.int .i64) (0 : Int)) (.cons (.cons (.val .str []) (.cons (.val .str []) (.cons (.val (.int .i64) (0 : Int)) (.cons (.val (.int .i64) (0 : Int)) (.cons (.val (.int .i64) (0 : Int)) .nil))))) (.cons (.cons (.val .str []) (.cons (.val .str []) (.cons (.val (.int .i64) (0 : Int)) (.cons (.val (.int .i64) (0 : Int)) (.cons (.val (.int .i64) (0 : Int)) .nil))))) .nil))) .nil)))) .nil)))), (.val T62 ((0 : Int), ((0 : Int), (Ty.dflt T29, (Ty.dflt T29, (([] : List D68), (([] : List (List D29)), ()))))))), (.val (.int .i64) (0 : Int)), (.val (.int .i64) (0 : Int)), (.val T29 (List.replicate 32 (0 : Int)))] (hset (List.replicate 161 none) []) (.ret (.tup (.cons (.val T33 y9.1) (.cons (.val (.int .i64) y9.2) .nil)))) (outH 161 [])] (by kernel_rfl) ⟨x7_s1 _ _ _ _ _ _ _ _ _ _ _ _ _ _ _ _ _ _ _ _ _ hy10, trivial⟩ ?_
  obtain ⟨y11, hy12, h⟩ := bind_some h
  refine Run.sreg tied [⟨(.val (.slice 56 T71) y11), [], [], [], 66⟩] [] [(3, 69, T68), (5, 71, T62)] [Fc Tryz.prog gl 8 [(.val T62 ((0 : Int), ((0 : Int), (Ty.dflt T29, (Ty.dflt T29, ([((0 : Int), ((0 : Int), ((3 : Int), ((0 : Int), (Ty.dflt T29, ([(1 : Int)], ([(9 : Int)], ((0 : Int), (Ty.dflt T29, (([] : List D249), ()))))))))))], (([] : List (List D29)), ())))))))] (hset (List.replicate 66 none) []) (.ret (.val (.slice 56 T71) y11)) (outH 66 [])] (by kernel_rfl) ⟨x8 _ _ hy12, trivial⟩ ?_
  obtain ⟨o13, h1, h⟩ := bind_some h
  refine Run.seqJ (fun σ' => σ' = mkSt 126 166 [(0, (.val .bool o13))] []) ?_ ?_
  · rcases ite_some h1 with ⟨hg14, h1⟩ | ⟨hg14, h1⟩
    · rcases ite_some h1 with ⟨hg15, h1⟩ | ⟨hg15, h1⟩
      · rcases ite_some h1 with ⟨hg16, h1⟩ | ⟨hg16, h1⟩
        · rcases ite_some h1 with ⟨hg17, h1⟩ | ⟨hg17, h1⟩
          · rcases ite_some h1 with ⟨hg18, h1⟩ | ⟨hg18, h1⟩
            · rcases ite_some h1 with ⟨hg19, h1⟩ | ⟨hg19, h1⟩
              · rcases ite_some h1 with ⟨hg20, h1⟩ | ⟨hg20, h1⟩
                · rcases ite_some h1 with ⟨hg21, h1⟩ | ⟨hg21, h1⟩
                  · rcases ite_some h1 with ⟨hg22, h1⟩ | ⟨hg22, h1⟩
                    · obtain ⟨y23, hy24, h1⟩ := bind_some h1
                      rcases ite_some h1 with ⟨hg25, h1⟩ | ⟨hg25, h1⟩
                      · obtain ⟨y26, hy27, h1⟩ := bind_some h1
                        rcases ite_some h1 with ⟨hg28, h1⟩ | ⟨hg28, h1⟩
                        · obtain ⟨y29, hy30, h1⟩ := bind_some h1
                          refine Run.reg tied [⟨(.val (.slice 56 T71) y23), [], [], [], 66⟩, ⟨(.val .bool y26), [], [], [], 96⟩, ⟨(.val (.int .i64) y29), [], [], [], 74⟩] [true, true, true, true, true, true, true, true, true, true, true] [(43, 115, T71)] [(decide (y1.1 = (0 : Int))) = true, (decide (y1.2.1 = (1 : Int))) = true, y1.2.2 = true, (decide (y3.1 = (1 : Int))) = true, (decide (y3.2.1 = (2 : Int))) = true, y3.2.2 = true, (!y5.2.2) = true, (!y7.2.2) = true, (decide (y9.2 = (210 : Int))) = true, Fc Tryz.prog gl 8 [(.val T62 ((0 : Int), ((0 : Int), (Ty.dflt T29, (Ty.dflt T29, (([] : List D68), (([] : List (List D29)), ())))))))] (hset (List.replicate 66 none) []) (.ret (.val (.slice 56 T71) y23)) (outH 66 []), (decide ((List.length y23 : Int) = (0 : Int))) = true, Fc Tryz.prog gl 9 [(.val (.slice 56 T71) y11), (.val (.slice 56 T71) [((3 : Int), ([(1 : Int)], ([(9 : Int)], ())))])] (hset (List.replicate 96 none) []) (.ret (.val .bool y26)) (outH 96 []), y26 = true, Fc Tryz.prog gl 10 [(.val T48 ((([] : List (List UInt8)), (([] : List D181), (([] : List D144), (([] : List D175), (([] : List D193), (([] : List D132), ())))))), (([] : List Int), ()))), .nils, (.cons (.val .str []) (.cons (.val (.int .i64) (0 : Int)) (.cons .nils (.cons (.cons (.val (.int .i64) (0 : Int)) (.cons (.val (.int .i64) (0 : Int)) (.cons .nils (.cons (.cons (.val (.int .i64) (0 : Int)) (.cons (.cons (.val .str []) (.cons (.val .str []) (.cons (.val (.int .i64) (0 : Int)) (.cons (.val (.int .i64) (0 : Int)) (.cons (.val (.int .i64) (0 : Int)) .nil))))) (.cons (.cons (.val .str []) (.cons (.val .str []) (.cons (.val (.int .i64) (0 : Int)) (.cons (.val (.int .i64) (0 : Int)) (.cons (.val (.int .i64) (0 : Int)) .nil))))) .nil))) .nil)))) .nil)))), (.val T62 ((0 : Int), ((0 : Int), (Ty.dflt T29, (Ty.dflt T29, (([] : List D68), (([] : List (List D29)), ())))))))] (hset (List.replicate 74 none) []) (.ret (.val (.int .i64) y29)) (outH 74 [])] (by kernel_rfl) ⟨hg14, hg15, hg16, hg17, hg18, hg19, hg20, hg21, hg22, x8 _ _ hy24, hg25, x9 _ _ _ hy27, hg28, x10_s2 _ _ _ _ _ _ _ _ _ _ _ _ _ _ _ _ _ _ hy30, trivial⟩ ?_
                          obtain rfl := Option.some.inj h1
                          exact jQ.mk [.keep [0] []] (by kernel_rfl) rfl
                        · refine Run.reg tied [⟨(.val (.slice 56 T71) y23), [], [], [], 66⟩, ⟨(.val .bool y26), [], [], [], 96⟩] [true, true, true, true, true, true, true, true, true, true, false] [(43, 115, T71)] [(decide (y1.1 = (0 : Int))) = true, (decide (y1.2.1 = (1 : Int))) = true, y1.2.2 = true, (decide (y3.1 = (1 : Int))) = true, (decide (y3.2.1 = (2 : Int))) = true, y3.2.2 = true, (!y5.2.2) = true, (!y7.2.2) = true, (decide (y9.2 = (210 : Int))) = true, Fc Tryz.prog gl 8 [(.val T62 ((0 : Int), ((0 : Int), (Ty.dflt T29, (Ty.dflt T29, (([] : List D68), (([] : List (List D29)), ())))))))] (hset (List.replicate 66 none) []) (.ret (.val (.slice 56 T71) y23)) (outH 66 []), (decide ((List.length y23 : Int) = (0 : Int))) = true, Fc Tryz.prog gl 9 [(.val (.slice 56 T71) y11), (.val (.slice 56 T71) [((3 : Int), ([(1 : Int)], ([(9 : Int)], ())))])] (hset (List.replicate 96 none) []) (.ret (.val .bool y26)) (outH 96 []), y26 = false] (by kernel_rfl) ⟨hg14, hg15, hg16, hg17, hg18, hg19, hg20, hg21, hg22, x8 _ _ hy24, hg25, x9 _ _ _ hy27, hg28, trivial⟩ ?_
                          obtain rfl := Option.some.inj h1
                          exact jQ.mk [.keep [0] []] (by kernel_rfl) rfl
                      · refine Run.reg tied [⟨(.val (.slice 56 T71) y23), [], [], [], 66⟩] [true, true, true, true, true, true, true, true, true, false, false] [] [(decide (y1.1 = (0 : Int))) = true, (decide (y1.2.1 = (1 : Int))) = true, y1.2.2 = true, (decide (y3.1 = (1 : Int))) = true, (decide (y3.2.1 = (2 : Int))) = true, y3.2.2 = true, (!y5.2.2) = true, (!y7.2.2) = true, (decide (y9.2 = (210 : Int))) = true, Fc Tryz.prog gl 8 [(.val T62 ((0 : Int), ((0 : Int), (Ty.dflt T29, (Ty.dflt T29, (([] : List D68), (([] : List (List D29)), ())))))))] (hset (List.replicate 66 none) []) (.ret (.val (.slice 56 T71) y23)) (outH 66 []), (decide ((List.length y23 : Int) = (0 : Int))) = false, false = false] (by kernel_rfl) ⟨hg14, hg15, hg16, hg17, hg18, hg19, hg20, hg21, hg22, x8 _ _ hy24, hg25, rfl, trivial⟩ ?_
                        obtain rfl := Option.some.inj h1
                        exact jQ.mk [.keep [0] []] (by kernel_rfl) rfl
                    · refine Run.reg tied [] [true, true, true, true, true, true, true, true, false, false, false] [] [(decide (y1.1 = (0 : Int))) = true, (decide (y1.2.1 = (1 : Int))) = true, y1.2.2 = true, (decide (y3.1 = (1 : Int))) = true, (decide (y3.2.1 = (2 : Int))) = true, y3.2.2 = true, (!y5.2.2) = true, (!y7.2.2) = true, (decide (y9.2 = (210 : Int))) = false, false = false, false = false] (by kernel_rfl) ⟨hg14, hg15, hg16, hg17, hg18, hg19, hg20, hg21, hg22, rfl, rfl, trivial⟩ ?_
                      obtain rfl := Option.some.inj h1
                      exact jQ.mk [.keep [0] []] (by kernel_rfl) rfl
                  · refine Run.reg tied [] [true, true, true, true, true, true, true, false, false, false, false] [] [(decide (y1.1 = (0 : Int))) = true, (decide (y1.2.1 = (1 : Int))) = true, y1.2.2 = true, (decide (y3.1 = (1 : Int))) = true, (decide (y3.2.1 = (2 : Int))) = true, y3.2.2 = true, (!y5.2.2) = true, (!y7.2.2) = false, false = false, false = false, false = false] (by kernel_rfl) ⟨hg14, hg15, hg16, hg17, hg18, hg19, hg20, hg21, rfl, rfl, rfl, trivial⟩ ?_
                    obtain rfl := Option.some.inj h1
                    exact jQ.mk [.keep [0] []] (by kernel_rfl) rfl
                · refine Run.reg tied [] [true, true, true, true, true, true, false, false, false, false, false] [] [(decide (y1.1 = (0 : Int))) = true, (decide (y1.2.1 = (1 : Int))) = true, y1.2.2 = true, (decide (y3.1 = (1 : Int))) = true, (decide (y3.2.1 = (2 : Int))) = true, y3.2.2 = true, (!y5.2.2) = false, false = false, false = false, false = false, false = false] (by kernel_rfl) ⟨hg14, hg15, hg16, hg17, hg18, hg19, hg20, rfl, rfl, rfl, rfl, trivial⟩ ?_
                  obtain rfl := Option.some.inj h1
                  exact jQ.mk [.keep [0] []] (by kernel_rfl) rfl
              · refine Run.reg tied [] [true, true, true, true, true, false, false, false, false, false, false] [] [(decide (y1.1 = (0 : Int))) = true, (decide (y1.2.1 = (1 : Int))) = true, y1.2.2 = true, (decide (y3.1 = (1 : Int))) = true, (decide (y3.2.1 = (2 : Int))) = true, y3.2.2 = false, false = false, false = false, false = false, false = false, false = false] (by kernel_rfl) ⟨hg14, hg15, hg16, hg17, hg18, hg19, rfl, rfl, rfl, rfl, rfl, trivial⟩ ?_
                obtain rfl := Option.some.inj h1
                exact jQ.mk [.keep [0] []] (by kernel_rfl) rfl
            · refine Run.reg tied [] [true, true, true, true, false, false, false, false, false, false, false] [] [(decide (y1.1 = (0 : Int))) = true, (decide (y1.2.1 = (1 : Int))) = true, y1.2.2 = true, (decide (y3.1 = (1 : Int))) = true, (decide (y3.2.1 = (2 : Int))) = false, false = false, false = false, false = false, false = false, false = false, false = false] (by kernel_rfl) ⟨hg14, hg15, hg16, hg17, hg18, rfl, rfl, rfl, rfl, rfl, rfl, trivial⟩ ?_
              obtain rfl := Option.some.inj h1
              exact jQ.mk [.keep [0] []] (by kernel_rfl) rfl
          · refine Run.reg tied [] [true, true, true, false, false, false, false, false, false, false, false] [] [(decide (y1.1 = (0 : Int))) = true, (decide (y1.2.1 = (1 : Int))) = true, y1.2.2 = true, (decide (y3.1 = (1 : Int))) = false, false = false, false = false, false = false, false = false, false = false, false = false, false = false] (by kernel_rfl) ⟨hg14, hg15, hg16, hg17, rfl, rfl, rfl, rfl, rfl, rfl, rfl, trivial⟩ ?_
            obtain rfl := Option.some.inj h1
            exact jQ.mk [.keep [0] []] (by kernel_rfl) rfl
        · refine Run.reg tied [] [true, true, false, false, false, false, false, false, false, false, false] [] [(decide (y1.1 = (0 : Int))) = true, (decide (y1.2.1 = (1 : Int))) = true, y1.2.2 = false, false = false, false = false, false = false, false = false, false = false, false = false, false = false, false = false] (by kernel_rfl) ⟨hg14, hg15, hg16, rfl, rfl, rfl, rfl, rfl, rfl, rfl, rfl, trivial⟩ ?_
          obtain rfl := Option.some.inj h1
          exact jQ.mk [.keep [0] []] (by kernel_rfl) rfl
      · refine Run.reg tied [] [true, false, false, false, false, false, false, false, false, false, false] [] [(decide (y1.1 = (0 : Int))) = true, (decide (y1.2.1 = (1 : Int))) = false, false = false, false = false, false = false, false = false, false = false, false = false, false = false, false = false, false = false] (by kernel_rfl) ⟨hg14, hg15, rfl, rfl, rfl, rfl, rfl, rfl, rfl, rfl, rfl, trivial⟩ ?_
        obtain rfl := Option.some.inj h1
        exact jQ.mk [.keep [0] []] (by kernel_rfl) rfl
    · refine Run.reg tied [] [false, false, false, false, false, false, false, false, false, false, false] [] [(decide (y1.1 = (0 : Int))) = false, false = false, false = false, false = false, false = false, false = false, false = false, false = false, false = false, false = false, false = false] (by kernel_rfl) ⟨hg14, rfl, rfl, rfl, rfl, rfl, rfl, rfl, rfl, rfl, rfl, trivial⟩ ?_
      obtain rfl := Option.some.inj h1
      exact jQ.mk [.keep [0] []] (by kernel_rfl) rfl
  · rintro _ rfl
    refine Run.ret ?_
    obtain rfl := Option.some.inj h
    exact (fQ_fin [] [some .bool] (msk 166 []) (by kernel_rfl)).1

/-- testamur.testamurref28.FewAccepted -/
def f5_l1 (a0 : List D33) : Nat → Int → Option (Ctl Unit Bool)
  | 0, _ => none
  | n1 + 1, u1_0 => if (decide (u1_0 < (List.length a0 : Int))) = true then (Option.bind (Option.bind (if 0 ≤ u1_0 ∧ u1_0 < (List.length a0 : Int) then (if (decide ((6 : Int) < (List.length ((((((nth T33 a0 u1_0).2).2).2).2).1) : Int))) = true then (some true) else (some (decide ((6 : Int) < (List.length (((((nth T33 a0 u1_0).2).2).2).1) : Int))))) else none) fun (o3 : Bool) => if o3 = true then (some (.ret false)) else (some (.brk ()))) fun (o2 : Ctl Unit Bool) => match o2 with | .brk _v7 => (f5_l1 a0 n1 (w64 (u1_0 + (1 : Int)))) | .ret r8 => (some (.ret r8))) else (some (.brk ()))

def f5 (a0 : List D33) : Option Bool :=
  Option.bind (f5_l1 a0 (big) (0 : Int)) fun (o1 : Ctl Unit Bool) => match o1 with | .brk _v10 => (some (decide ((List.length a0 : Int) ≤ (12 : Int)))) | .ret r11 => (some r11)

set_option maxRecDepth 100000 in
theorem x5 (a0 : List D33) (r : Bool) (h : f5 a0 = some r) : Fc Tryz.prog gl 5 [(.val (.slice 96 T33) a0)] (hset (List.replicate 69 none) []) (.ret (.val .bool r)) (outH 69 []) := by
  refine Fc.of Tryz.call5 (FnEx.of_runF tied Tryz.func5 rfl rfl (σ0 := mkSt 29 69 [(0, (.val (.slice 96 T33) a0))] []) (by kernel_rfl) ?_)
  unfold f5 at h
  refine Run.sreg tied [] [] [] [] (by kernel_rfl) trivial ?_
  obtain ⟨o1, h1, h⟩ := bind_some h
  refine Run.seqJ (fun σ' => ∃ v10, o1 = .brk v10 ∧ σ' = mkSt 29 69 [(0, (.val (.slice 96 T33) a0))] []) ?_ ?_
  · refine Run.sreg tied [] [] [] [] (by kernel_rfl) trivial ?_
    refine Run.block ?_
    refine Run.loopJ (fun n σ => ∃ (u1_0 : Int), f5_l1 a0 n u1_0 = some o1 ∧ σ = mkSt 29 69 [(0, (.val (.slice 96 T33) a0)), (3, (.val (.int .i64) u1_0))] []) [.keep [0, 3] []] (by kernel_rfl) ⟨_, h1, rfl⟩ ?_
    rintro n1 _ ⟨u1_0, h6, rfl⟩
    cases n1 with
    | zero => exact absurd h6 (by simp [f5_l1])
    | succ n1 =>
      unfold f5_l1 at h6
      refine Run.seq ?_
      refine Run.sreg tied [] [] [] [] (by kernel_rfl) trivial ?_
      rcases ite_some h6 with ⟨hc9, h6⟩ | ⟨hc9, h6⟩
      · refine Run.condT (b := decide (u1_0 < (List.length a0 : Int))) (by kernel_rfl) hc9 ?_
        refine Run.skip ?_
        change Run _ _ _ _ _
        obtain ⟨o2, h7, h6⟩ := bind_some h6
        refine Run.seqJ (fun σ' => ∃ v7, o2 = .brk v7 ∧ σ' = mkSt 29 69 [(0, (.val (.slice 96 T33) a0)), (3, (.val (.int .i64) u1_0))] []) ?_ ?_
        · refine Run.block ?_
          obtain ⟨o3, h9, h7⟩ := bind_some h7
          refine Run.seqJ (fun σ' => σ' = mkSt 29 69 [(0, (.val (.slice 96 T33) a0)), (3, (.val (.int .i64) u1_0)), (25, (.val .bool o3))] []) ?_ ?_
          · obtain ⟨hv4, h9⟩ := ite_none h9
            rcases ite_some h9 with ⟨hg5, h9⟩ | ⟨hg5, h9⟩
            · refine Run.reg tied [] [true] [] [0 ≤ u1_0, u1_0 < (List.length a0 : Int), (decide ((6 : Int) < (List.length ((((((nth T33 a0 u1_0).2).2).2).2).1) : Int))) = true] (by kernel_rfl) ⟨hv4.1, hv4.2, hg5, trivial⟩ ?_
              obtain rfl := Option.some.inj h9
              exact jQ.mk [.keep [0, 3, 25] []] (by kernel_rfl) rfl
            · refine Run.reg tied [] [false] [] [0 ≤ u1_0, u1_0 < (List.length a0 : Int), (decide ((6 : Int) < (List.length ((((((nth T33 a0 u1_0).2).2).2).2).1) : Int))) = false, 0 ≤ u1_0, u1_0 < (List.length a0 : Int)] (by kernel_rfl) ⟨hv4.1, hv4.2, hg5, hv4.1, hv4.2, trivial⟩ ?_
              obtain rfl := Option.some.inj h9
              exact jQ.mk [.keep [0, 3, 25] []] (by kernel_rfl) rfl
          · rintro _ rfl
            rcases ite_some h7 with ⟨hc6, h7⟩ | ⟨hc6, h7⟩
            · refine Run.condT (b := o3) (by kernel_rfl) hc6 ?_
              refine Run.sreg tied [] [] [] [] (by kernel_rfl) trivial ?_
              refine Run.ret ?_
              obtain rfl := Option.some.inj h7
              dsimp only at h6
              obtain rfl := Option.some.inj h6
              dsimp only at h
              obtain rfl := Option.some.inj h
              exact (fQ_fin [] [some .bool] (msk 69 []) (by kernel_rfl)).1
            · refine Run.condF (b := o3) (by kernel_rfl) hc6 ?_
              refine Run.skip ?_
              refine bN ?_
              obtain rfl := Option.some.inj h7
              exact jQ.mk [.keep [0, 3] []] (by kernel_rfl) ⟨_, rfl, rfl⟩
        · rintro _ ⟨v7, rfl, rfl⟩
          dsimp only at h6
          refine Run.reg tied [] [] [] [] (by kernel_rfl) trivial ?_
          exact loopJ.mk [.keep [0, 3] []] (by kernel_rfl) ⟨_, h6, rfl⟩
      · refine Run.condF (b := decide (u1_0 < (List.length a0 : Int))) (by kernel_rfl) hc9 ?_
        refine Run.exit ?_
        refine tE ?_
        refine lE ?_
        refine bE ?_
        obtain rfl := Option.some.inj h6
        exact jQ.mk [.keep [0] []] (by kernel_rfl) ⟨_, rfl, rfl⟩
  · rintro _ ⟨v10, rfl, rfl⟩
    dsimp only at h
    refine Run.sreg tied [] [] [] [] (by kernel_rfl) trivial ?_
    refine Run.ret ?_
    obtain rfl := Option.some.inj h
    exact (fQ_fin [] [some .bool] (msk 69 []) (by kernel_rfl)).1

end Go.Proofs.YthiphdachidhlaaGreatDoor
