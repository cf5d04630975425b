/- Made by program (dec.py): walks -/
import Derived.Test.YthiphdachidhlaaGreatDoorF1
namespace Go.Proofs.YthiphdachidhlaaGreatDoor
open Go.Abs

/-- slices.Equal[[]testamur.api.Unit,testamur.api.Unit] -/
def f85_l1 (a0 : List D181) (_a1 : List D181) : Nat → Option Unit
  | 0 => none
  | _n1 + 1 => if (decide ((0 : Int) < (List.length a0 : Int))) = true then none else (some ())

def f85 (a0 : List D181) (a1 : List D181) : Option Bool :=
  if (!decide ((List.length a0 : Int) = (List.length a1 : Int))) = true then none else (Option.bind (f85_l1 a0 a1 (big)) fun (_o1 : Unit) => some true)

set_option maxRecDepth 100000 in
theorem x85 (a0 : List D181) (a1 : List D181) (r : Bool) (h : f85 a0 a1 = some r) : Fc Tryz.prog gl 85 [(.val (.slice 56 T181) a0), (.val (.slice 56 T181) a1)] (hset (List.replicate 66 none) []) (.ret (.val .bool r)) (outH 66 []) := by
  refine Fc.of Tryz.call85 (FnEx.of_runF tied Tryz.func85 rfl rfl (σ0 := mkSt 26 66 [(0, (.val (.slice 56 T181) a0)), (1, (.val (.slice 56 T181) a1))] []) (by kernel_rfl) ?_)
  unfold f85 at h
  refine Run.sreg tied [] [] [] [] (by kernel_rfl) trivial ?_
  refine Run.seq ?_
  refine Run.sreg tied [] [] [] [] (by kernel_rfl) trivial ?_
  rcases ite_some h with ⟨hc3, h⟩ | ⟨hc3, h⟩
  · refine Run.condT (b := !decide ((List.length a0 : Int) = (List.length a1 : Int))) (by kernel_rfl) hc3 ?_
    cases h
  · refine Run.condF (b := !decide ((List.length a0 : Int) = (List.length a1 : Int))) (by kernel_rfl) hc3 ?_
    refine Run.skip ?_
    change Run _ _ _ _ _
    obtain ⟨o1, h1, h⟩ := bind_some h
    refine Run.seqJ (fun σ' => σ' = mkSt 26 66 [] []) ?_ ?_
    · refine Run.sreg tied [] [] [] [] (by kernel_rfl) trivial ?_
      refine Run.block ?_
      refine Run.loopJ (fun n σ => f85_l1 a0 a1 n = some o1 ∧ σ = mkSt 26 66 [(0, (.val (.slice 56 T181) a0)), (1, (.val (.slice 56 T181) a1)), (12, (.val (.int .i64) (List.length a0 : Int))), (13, (.val (.int .i64) (0 : Int)))] []) [.keep [0, 1, 12, 13] []] (by kernel_rfl) ⟨h1, rfl⟩ ?_
      rintro n1 _ ⟨h3, rfl⟩
      cases n1 with
      | zero => exact absurd h3 (by simp [f85_l1])
      | succ n1 =>
        unfold f85_l1 at h3
        refine Run.sreg tied [] [] [] [] (by kernel_rfl) trivial ?_
        refine Run.seq ?_
        rcases ite_some h3 with ⟨hc2, h3⟩ | ⟨hc2, h3⟩
        · refine Run.condT (b := decide ((0 : Int) < (List.length a0 : Int))) (by kernel_rfl) hc2 ?_
          refine Run.skip ?_
          change Run _ _ _ _ _
          refine Run.seq ?_
          refine Run.block ?_
          cases h3
        · refine Run.condF (b := decide ((0 : Int) < (List.length a0 : Int))) (by kernel_rfl) hc2 ?_
          refine Run.exit ?_
          refine tE ?_
          refine lE ?_
          refine bE ?_
          obtain rfl := Option.some.inj h3
          exact jQ.mk [.keep [] []] (by kernel_rfl) rfl
    · rintro _ rfl
      refine Run.sreg tied [] [] [] [] (by kernel_rfl) trivial ?_
      refine Run.ret ?_
      obtain rfl := Option.some.inj h
      exact (fQ_fin [] [some .bool] (msk 66 []) (by kernel_rfl)).1

/-- slices.EqualFunc[[]testamur.api.Schema,[]testamur.api.Schema,testamur.api.Schema,testamur.api.Schema] -/
def f86_s1_l1 (a0 : List D144) (_a1 : List D144) : Nat → Option Unit
  | 0 => none
  | _n1 + 1 => if (decide ((0 : Int) < (List.length a0 : Int))) = true then none else (some ())

def f86_s1 (a0 : List D144) (a1 : List D144) : Option Bool :=
  if (!decide ((List.length a0 : Int) = (List.length a1 : Int))) = true then none else (Option.bind (f86_s1_l1 a0 a1 (big)) fun (_o1 : Unit) => some true)

set_option maxRecDepth 100000 in
theorem x86_s1 (a0 : List D144) (a1 : List D144) (r : Bool) (h : f86_s1 a0 a1 = some r) : Fc Tryz.prog gl 86 [(.val (.slice 96 T144) a0), (.val (.slice 96 T144) a1), (.func (.func 87) .nil .nil)] (hset (List.replicate 72 none) []) (.ret (.val .bool r)) (outH 72 []) := by
  refine Fc.of Tryz.call86 (FnEx.of_runF tied Tryz.func86 rfl rfl (σ0 := mkSt 32 72 [(0, (.val (.slice 96 T144) a0)), (1, (.val (.slice 96 T144) a1)), (2, (.func (.func 87) .nil .nil))] []) (by kernel_rfl) ?_)
  unfold f86_s1 at h
  refine Run.sreg tied [] [] [] [] (by kernel_rfl) trivial ?_
  refine Run.seq ?_
  refine Run.sreg tied [] [] [] [] (by kernel_rfl) trivial ?_
  rcases ite_some h with ⟨hc3, h⟩ | ⟨hc3, h⟩
  · refine Run.condT (b := !decide ((List.length a0 : Int) = (List.length a1 : Int))) (by kernel_rfl) hc3 ?_
    cases h
  · refine Run.condF (b := !decide ((List.length a0 : Int) = (List.length a1 : Int))) (by kernel_rfl) hc3 ?_
    refine Run.skip ?_
    change Run _ _ _ _ _
    obtain ⟨o1, h1, h⟩ := bind_some h
    refine Run.seqJ (fun σ' => σ' = mkSt 32 72 [] []) ?_ ?_
    · refine Run.sreg tied [] [] [] [] (by kernel_rfl) trivial ?_
      refine Run.block ?_
      refine Run.loopJ (fun n σ => f86_s1_l1 a0 a1 n = some o1 ∧ σ = mkSt 32 72 [(1, (.val (.slice 96 T144) a1)), (2, (.func (.func 87) .nil .nil)), (15, (.val (.slice 96 T144) a0)), (16, (.val (.int .i64) (List.length a0 : Int))), (17, (.val (.int .i64) (0 : Int)))] []) [.keep [1, 2, 15, 16, 17] []] (by kernel_rfl) ⟨h1, rfl⟩ ?_
      rintro n1 _ ⟨h3, rfl⟩
      cases n1 with
      | zero => exact absurd h3 (by simp [f86_s1_l1])
      | succ n1 =>
        unfold f86_s1_l1 at h3
        refine Run.sreg tied [] [] [] [] (by kernel_rfl) trivial ?_
        refine Run.seq ?_
        rcases ite_some h3 with ⟨hc2, h3⟩ | ⟨hc2, h3⟩
        · refine Run.condT (b := decide ((0 : Int) < (List.length a0 : Int))) (by kernel_rfl) hc2 ?_
          refine Run.skip ?_
          change Run _ _ _ _ _
          refine Run.seq ?_
          refine Run.block ?_
          cases h3
        · refine Run.condF (b := decide ((0 : Int) < (List.length a0 : Int))) (by kernel_rfl) hc2 ?_
          refine Run.exit ?_
          refine tE ?_
          refine lE ?_
          refine bE ?_
          obtain rfl := Option.some.inj h3
          exact jQ.mk [.keep [] []] (by kernel_rfl) rfl
    · rintro _ rfl
      refine Run.sreg tied [] [] [] [] (by kernel_rfl) trivial ?_
      refine Run.ret ?_
      obtain rfl := Option.some.inj h
      exact (fQ_fin [] [some .bool] (msk 72 []) (by kernel_rfl)).1

/-- slices.EqualFunc[[]testamur.api.Rule,[]testamur.api.Rule,testamur.api.Rule,testamur.api.Rule] -/
def f88_s1_l1 (a0 : List D175) (_a1 : List D175) : Nat → Option Unit
  | 0 => none
  | _n1 + 1 => if (decide ((0 : Int) < (List.length a0 : Int))) = true then none else (some ())

def f88_s1 (a0 : List D175) (a1 : List D175) : Option Bool :=
  if (!decide ((List.length a0 : Int) = (List.length a1 : Int))) = true then none else (Option.bind (f88_s1_l1 a0 a1 (big)) fun (_o1 : Unit) => some true)

set_option maxRecDepth 100000 in
theorem x88_s1 (a0 : List D175) (a1 : List D175) (r : Bool) (h : f88_s1 a0 a1 = some r) : Fc Tryz.prog gl 88 [(.val (.slice 96 T175) a0), (.val (.slice 96 T175) a1), (.func (.func 89) .nil .nil)] (hset (List.replicate 72 none) []) (.ret (.val .bool r)) (outH 72 []) := by
  refine Fc.of Tryz.call88 (FnEx.of_runF tied Tryz.func88 rfl rfl (σ0 := mkSt 32 72 [(0, (.val (.slice 96 T175) a0)), (1, (.val (.slice 96 T175) a1)), (2, (.func (.func 89) .nil .nil))] []) (by kernel_rfl) ?_)
  unfold f88_s1 at h
  refine Run.sreg tied [] [] [] [] (by kernel_rfl) trivial ?_
  refine Run.seq ?_
  refine Run.sreg tied [] [] [] [] (by kernel_rfl) trivial ?_
  rcases ite_some h with ⟨hc3, h⟩ | ⟨hc3, h⟩
  · refine Run.condT (b := !decide ((List.length a0 : Int) = (List.length a1 : Int))) (by kernel_rfl) hc3 ?_
    cases h
  · refine Run.condF (b := !decide ((List.length a0 : Int) = (List.length a1 : Int))) (by kernel_rfl) hc3 ?_
    refine Run.skip ?_
    change Run _ _ _ _ _
    obtain ⟨o1, h1, h⟩ := bind_some h
    refine Run.seqJ (fun σ' => σ' = mkSt 32 72 [] []) ?_ ?_
    · refine Run.sreg tied [] [] [] [] (by kernel_rfl) trivial ?_
      refine Run.block ?_
      refine Run.loopJ (fun n σ => f88_s1_l1 a0 a1 n = some o1 ∧ σ = mkSt 32 72 [(1, (.val (.slice 96 T175) a1)), (2, (.func (.func 89) .nil .nil)), (15, (.val (.slice 96 T175) a0)), (16, (.val (.int .i64) (List.length a0 : Int))), (17, (.val (.int .i64) (0 : Int)))] []) [.keep [1, 2, 15, 16, 17] []] (by kernel_rfl) ⟨h1, rfl⟩ ?_
      rintro n1 _ ⟨h3, rfl⟩
      cases n1 with
      | zero => exact absurd h3 (by simp [f88_s1_l1])
      | succ n1 =>
        unfold f88_s1_l1 at h3
        refine Run.sreg tied [] [] [] [] (by kernel_rfl) trivial ?_
        refine Run.seq ?_
        rcases ite_some h3 with ⟨hc2, h3⟩ | ⟨hc2, h3⟩
        · refine Run.condT (b := decide ((0 : Int) < (List.length a0 : Int))) (by kernel_rfl) hc2 ?_
          refine Run.skip ?_
          change Run _ _ _ _ _
          refine Run.seq ?_
          refine Run.block ?_
          cases h3
        · refine Run.condF (b := decide ((0 : Int) < (List.length a0 : Int))) (by kernel_rfl) hc2 ?_
          refine Run.exit ?_
          refine tE ?_
          refine lE ?_
          refine bE ?_
          obtain rfl := Option.some.inj h3
          exact jQ.mk [.keep [] []] (by kernel_rfl) rfl
    · rintro _ rfl
      refine Run.sreg tied [] [] [] [] (by kernel_rfl) trivial ?_
      refine Run.ret ?_
      obtain rfl := Option.some.inj h
      exact (fQ_fin [] [some .bool] (msk 72 []) (by kernel_rfl)).1

/-- slices.EqualFunc[[]testamur.api.Convert,[]testamur.api.Convert,testamur.api.Convert,testamur.api.Convert] -/
def f90_s1_l1 (a0 : List D193) (_a1 : List D193) : Nat → Option Unit
  | 0 => none
  | _n1 + 1 => if (decide ((0 : Int) < (List.length a0 : Int))) = true then none else (some ())

def f90_s1 (a0 : List D193) (a1 : List D193) : Option Bool :=
  if (!decide ((List.length a0 : Int) = (List.length a1 : Int))) = true then none else (Option.bind (f90_s1_l1 a0 a1 (big)) fun (_o1 : Unit) => some true)

set_option maxRecDepth 100000 in
theorem x90_s1 (a0 : List D193) (a1 : List D193) (r : Bool) (h : f90_s1 a0 a1 = some r) : Fc Tryz.prog gl 90 [(.val (.slice 72 T193) a0), (.val (.slice 72 T193) a1), (.func (.func 91) .nil .nil)] (hset (List.replicate 72 none) []) (.ret (.val .bool r)) (outH 72 []) := by
  refine Fc.of Tryz.call90 (FnEx.of_runF tied Tryz.func90 rfl rfl (σ0 := mkSt 32 72 [(0, (.val (.slice 72 T193) a0)), (1, (.val (.slice 72 T193) a1)), (2, (.func (.func 91) .nil .nil))] []) (by kernel_rfl) ?_)
  unfold f90_s1 at h
  refine Run.sreg tied [] [] [] [] (by kernel_rfl) trivial ?_
  refine Run.seq ?_
  refine Run.sreg tied [] [] [] [] (by kernel_rfl) trivial ?_
  rcases ite_some h with ⟨hc3, h⟩ | ⟨hc3, h⟩
  · refine Run.condT (b := !decide ((List.length a0 : Int) = (List.length a1 : Int))) (by kernel_rfl) hc3 ?_
    cases h
  · refine Run.condF (b := !decide ((List.length a0 : Int) = (List.length a1 : Int))) (by kernel_rfl) hc3 ?_
    refine Run.skip ?_
    change Run _ _ _ _ _
    obtain ⟨o1, h1, h⟩ := bind_some h
    refine Run.seqJ (fun σ' => σ' = mkSt 32 72 [] []) ?_ ?_
    · refine Run.sreg tied [] [] [] [] (by kernel_rfl) trivial ?_
      refine Run.block ?_
      refine Run.loopJ (fun n σ => f90_s1_l1 a0 a1 n = some o1 ∧ σ = mkSt 32 72 [(1, (.val (.slice 72 T193) a1)), (2, (.func (.func 91) .nil .nil)), (15, (.val (.slice 72 T193) a0)), (16, (.val (.int .i64) (List.length a0 : Int))), (17, (.val (.int .i64) (0 : Int)))] []) [.keep [1, 2, 15, 16, 17] []] (by kernel_rfl) ⟨h1, rfl⟩ ?_
      rintro n1 _ ⟨h3, rfl⟩
      cases n1 with
      | zero => exact absurd h3 (by simp [f90_s1_l1])
      | succ n1 =>
        unfold f90_s1_l1 at h3
        refine Run.sreg tied [] [] [] [] (by kernel_rfl) trivial ?_
        refine Run.seq ?_
        rcases ite_some h3 with ⟨hc2, h3⟩ | ⟨hc2, h3⟩
        · refine Run.condT (b := decide ((0 : Int) < (List.length a0 : Int))) (by kernel_rfl) hc2 ?_
          refine Run.skip ?_
          change Run _ _ _ _ _
          refine Run.seq ?_
          refine Run.block ?_
          cases h3
        · refine Run.condF (b := decide ((0 : Int) < (List.length a0 : Int))) (by kernel_rfl) hc2 ?_
          refine Run.exit ?_
          refine tE ?_
          refine lE ?_
          refine bE ?_
          obtain rfl := Option.some.inj h3
          exact jQ.mk [.keep [] []] (by kernel_rfl) rfl
    · rintro _ rfl
      refine Run.sreg tied [] [] [] [] (by kernel_rfl) trivial ?_
      refine Run.ret ?_
      obtain rfl := Option.some.inj h
      exact (fQ_fin [] [some .bool] (msk 72 []) (by kernel_rfl)).1

/-- slices.EqualFunc[[]testamur.api.Purpose,[]testamur.api.Purpose,testamur.api.Purpose,testamur.api.Purpose] -/
def f92_s1_l1 (a0 : List D132) (_a1 : List D132) : Nat → Option Unit
  | 0 => none
  | _n1 + 1 => if (decide ((0 : Int) < (List.length a0 : Int))) = true then none else (some ())

def f92_s1 (a0 : List D132) (a1 : List D132) : Option Bool :=
  if (!decide ((List.length a0 : Int) = (List.length a1 : Int))) = true then none else (Option.bind (f92_s1_l1 a0 a1 (big)) fun (_o1 : Unit) => some true)

set_option maxRecDepth 100000 in
theorem x92_s1 (a0 : List D132) (a1 : List D132) (r : Bool) (h : f92_s1 a0 a1 = some r) : Fc Tryz.prog gl 92 [(.val (.slice 48 T132) a0), (.val (.slice 48 T132) a1), (.func (.func 93) .nil .nil)] (hset (List.replicate 72 none) []) (.ret (.val .bool r)) (outH 72 []) := by
  refine Fc.of Tryz.call92 (FnEx.of_runF tied Tryz.func92 rfl rfl (σ0 := mkSt 32 72 [(0, (.val (.slice 48 T132) a0)), (1, (.val (.slice 48 T132) a1)), (2, (.func (.func 93) .nil .nil))] []) (by kernel_rfl) ?_)
  unfold f92_s1 at h
  refine Run.sreg tied [] [] [] [] (by kernel_rfl) trivial ?_
  refine Run.seq ?_
  refine Run.sreg tied [] [] [] [] (by kernel_rfl) trivial ?_
  rcases ite_some h with ⟨hc3, h⟩ | ⟨hc3, h⟩
  · refine Run.condT (b := !decide ((List.length a0 : Int) = (List.length a1 : Int))) (by kernel_rfl) hc3 ?_
    cases h
  · refine Run.condF (b := !decide ((List.length a0 : Int) = (List.length a1 : Int))) (by kernel_rfl) hc3 ?_
    refine Run.skip ?_
    change Run _ _ _ _ _
    obtain ⟨o1, h1, h⟩ := bind_some h
    refine Run.seqJ (fun σ' => σ' = mkSt 32 72 [] []) ?_ ?_
    · refine Run.sreg tied [] [] [] [] (by kernel_rfl) trivial ?_
      refine Run.block ?_
      refine Run.loopJ (fun n σ => f92_s1_l1 a0 a1 n = some o1 ∧ σ = mkSt 32 72 [(1, (.val (.slice 48 T132) a1)), (2, (.func (.func 93) .nil .nil)), (15, (.val (.slice 48 T132) a0)), (16, (.val (.int .i64) (List.length a0 : Int))), (17, (.val (.int .i64) (0 : Int)))] []) [.keep [1, 2, 15, 16, 17] []] (by kernel_rfl) ⟨h1, rfl⟩ ?_
      rintro n1 _ ⟨h3, rfl⟩
      cases n1 with
      | zero => exact absurd h3 (by simp [f92_s1_l1])
      | succ n1 =>
        unfold f92_s1_l1 at h3
        refine Run.sreg tied [] [] [] [] (by kernel_rfl) trivial ?_
        refine Run.seq ?_
        rcases ite_some h3 with ⟨hc2, h3⟩ | ⟨hc2, h3⟩
        · refine Run.condT (b := decide ((0 : Int) < (List.length a0 : Int))) (by kernel_rfl) hc2 ?_
          refine Run.skip ?_
          change Run _ _ _ _ _
          refine Run.seq ?_
          refine Run.block ?_
          cases h3
        · refine Run.condF (b := decide ((0 : Int) < (List.length a0 : Int))) (by kernel_rfl) hc2 ?_
          refine Run.exit ?_
          refine tE ?_
          refine lE ?_
          refine bE ?_
          obtain rfl := Option.some.inj h3
          exact jQ.mk [.keep [] []] (by kernel_rfl) rfl
    · rintro _ rfl
      refine Run.sreg tied [] [] [] [] (by kernel_rfl) trivial ?_
      refine Run.ret ?_
      obtain rfl := Option.some.inj h
      exact (fQ_fin [] [some .bool] (msk 72 []) (by kernel_rfl)).1

/-- testamur.syntax.Same -/
def f42 (a0 : D46) (a1 : D46) : Option Bool :=
  Option.bind (Option.bind (f84 a0.1 a1.1) fun y2 => if y2 = true then (Option.bind (f85 a0.2.1 a1.2.1) fun y5 => if y5 = true then (Option.bind (f86_s1 a0.2.2.1 a1.2.2.1) fun y8 => if y8 = true then (Option.bind (f88_s1 a0.2.2.2.1 a1.2.2.2.1) fun y11 => if y11 = true then (Option.bind (f90_s1 a0.2.2.2.2.1 a1.2.2.2.2.1) fun y14 => if y14 = true then (Option.bind (f92_s1 a0.2.2.2.2.2.1 a1.2.2.2.2.2.1) fun y17 => some y17) else (some false)) else (some false)) else (some false)) else (some false)) else (some false)) fun (o1 : Bool) => some o1

set_option maxRecDepth 100000 in
theorem x42 (a0 : D46) (a1 : D46) (r : Bool) (h : f42 a0 a1 = some r) : Fc Tryz.prog gl 42 [(.val T46 a0), (.val T46 a1)] (hset (List.replicate 85 none) []) (.ret (.val .bool r)) (outH 85 []) := by
  refine Fc.of Tryz.call42 (FnEx.of_runF tied Tryz.func42 rfl rfl (σ0 := mkSt 45 85 [(0, (.val T46 a0)), (1, (.val T46 a1))] []) (by kernel_rfl) ?_)
  unfold f42 at h
  refine Run.sreg tied [] [] [] [] (by kernel_rfl) trivial ?_
  obtain ⟨o1, h1, h⟩ := bind_some h
  refine Run.seqJ (fun σ' => σ' = mkSt 45 85 [(4, (.val .bool o1))] []) ?_ ?_
  · obtain ⟨y2, hy3, h1⟩ := bind_some h1
    rcases ite_some h1 with ⟨hg4, h1⟩ | ⟨hg4, h1⟩
    · obtain ⟨y5, hy6, h1⟩ := bind_some h1
      rcases ite_some h1 with ⟨hg7, h1⟩ | ⟨hg7, h1⟩
      · obtain ⟨y8, hy9, h1⟩ := bind_some h1
        rcases ite_some h1 with ⟨hg10, h1⟩ | ⟨hg10, h1⟩
        · obtain ⟨y11, hy12, h1⟩ := bind_some h1
          rcases ite_some h1 with ⟨hg13, h1⟩ | ⟨hg13, h1⟩
          · obtain ⟨y14, hy15, h1⟩ := bind_some h1
            rcases ite_some h1 with ⟨hg16, h1⟩ | ⟨hg16, h1⟩
            · obtain ⟨y17, hy18, h1⟩ := bind_some h1
              refine Run.reg tied [⟨(.val .bool y2), [], [], [], 66⟩, ⟨(.val .bool y5), [], [], [], 66⟩, ⟨(.val .bool y8), [], [], [], 72⟩, ⟨(.val .bool y11), [], [], [], 72⟩, ⟨(.val .bool y14), [], [], [], 72⟩, ⟨(.val .bool y17), [], [], [], 72⟩] [true, true, true, true, true] [] [Fc Tryz.prog gl 84 [(.val (.slice 16 .str) a0.1), (.val (.slice 16 .str) a1.1)] (hset (List.replicate 66 none) []) (.ret (.val .bool y2)) (outH 66 []), y2 = true, Fc Tryz.prog gl 85 [(.val (.slice 56 T181) a0.2.1), (.val (.slice 56 T181) a1.2.1)] (hset (List.replicate 66 none) []) (.ret (.val .bool y5)) (outH 66 []), y5 = true, Fc Tryz.prog gl 86 [(.val (.slice 96 T144) a0.2.2.1), (.val (.slice 96 T144) a1.2.2.1), (.func (.func 87) .nil .nil)] (hset (List.replicate 72 none) []) (.ret (.val .bool y8)) (outH 72 []), y8 = true, Fc Tryz.prog gl 88 [(.val (.slice 96 T175) a0.2.2.2.1), (.val (.slice 96 T175) a1.2.2.2.1), (.func (.func 89) .nil .nil)] (hset (List.replicate 72 none) []) (.ret (.val .bool y11)) (outH 72 []), y11 = true, Fc Tryz.prog gl 90 [(.val (.slice 72 T193) a0.2.2.2.2.1), (.val (.slice 72 T193) a1.2.2.2.2.1), (.func (.func 91) .nil .nil)] (hset (List.replicate 72 none) []) (.ret (.val .bool y14)) (outH 72 []), y14 = true, Fc Tryz.prog gl 92 [(.val (.slice 48 T132) a0.2.2.2.2.2.1), (.val (.slice 48 T132) a1.2.2.2.2.2.1), (.func (.func 93) .nil .nil)] (hset (List.replicate 72 none) []) (.ret (.val .bool y17)) (outH 72 [])] (by kernel_rfl) ⟨x84 _ _ _ hy3, hg4, x85 _ _ _ hy6, hg7, x86_s1 _ _ _ hy9, hg10, x88_s1 _ _ _ hy12, hg13, x90_s1 _ _ _ hy15, hg16, x92_s1 _ _ _ hy18, trivial⟩ ?_
              obtain rfl := Option.some.inj h1
              exact jQ.mk [.keep [4] []] (by kernel_rfl) rfl
            · refine Run.reg tied [⟨(.val .bool y2), [], [], [], 66⟩, ⟨(.val .bool y5), [], [], [], 66⟩, ⟨(.val .bool y8), [], [], [], 72⟩, ⟨(.val .bool y11), [], [], [], 72⟩, ⟨(.val .bool y14), [], [], [], 72⟩] [true, true, true, true, false] [] [Fc Tryz.prog gl 84 [(.val (.slice 16 .str) a0.1), (.val (.slice 16 .str) a1.1)] (hset (List.replicate 66 none) []) (.ret (.val .bool y2)) (outH 66 []), y2 = true, Fc Tryz.prog gl 85 [(.val (.slice 56 T181) a0.2.1), (.val (.slice 56 T181) a1.2.1)] (hset (List.replicate 66 none) []) (.ret (.val .bool y5)) (outH 66 []), y5 = true, Fc Tryz.prog gl 86 [(.val (.slice 96 T144) a0.2.2.1), (.val (.slice 96 T144) a1.2.2.1), (.func (.func 87) .nil .nil)] (hset (List.replicate 72 none) []) (.ret (.val .bool y8)) (outH 72 []), y8 = true, Fc Tryz.prog gl 88 [(.val (.slice 96 T175) a0.2.2.2.1), (.val (.slice 96 T175) a1.2.2.2.1), (.func (.func 89) .nil .nil)] (hset (List.replicate 72 none) []) (.ret (.val .bool y11)) (outH 72 []), y11 = true, Fc Tryz.prog gl 90 [(.val (.slice 72 T193) a0.2.2.2.2.1), (.val (.slice 72 T193) a1.2.2.2.2.1), (.func (.func 91) .nil .nil)] (hset (List.replicate 72 none) []) (.ret (.val .bool y14)) (outH 72 []), y14 = false] (by kernel_rfl) ⟨x84 _ _ _ hy3, hg4, x85 _ _ _ hy6, hg7, x86_s1 _ _ _ hy9, hg10, x88_s1 _ _ _ hy12, hg13, x90_s1 _ _ _ hy15, hg16, trivial⟩ ?_
              obtain rfl := Option.some.inj h1
              exact jQ.mk [.keep [4] []] (by kernel_rfl) rfl
          · refine Run.reg tied [⟨(.val .bool y2), [], [], [], 66⟩, ⟨(.val .bool y5), [], [], [], 66⟩, ⟨(.val .bool y8), [], [], [], 72⟩, ⟨(.val .bool y11), [], [], [], 72⟩] [true, true, true, false, false] [] [Fc Tryz.prog gl 84 [(.val (.slice 16 .str) a0.1), (.val (.slice 16 .str) a1.1)] (hset (List.replicate 66 none) []) (.ret (.val .bool y2)) (outH 66 []), y2 = true, Fc Tryz.prog gl 85 [(.val (.slice 56 T181) a0.2.1), (.val (.slice 56 T181) a1.2.1)] (hset (List.replicate 66 none) []) (.ret (.val .bool y5)) (outH 66 []), y5 = true, Fc Tryz.prog gl 86 [(.val (.slice 96 T144) a0.2.2.1), (.val (.slice 96 T144) a1.2.2.1), (.func (.func 87) .nil .nil)] (hset (List.replicate 72 none) []) (.ret (.val .bool y8)) (outH 72 []), y8 = true, Fc Tryz.prog gl 88 [(.val (.slice 96 T175) a0.2.2.2.1), (.val (.slice 96 T175) a1.2.2.2.1), (.func (.func 89) .nil .nil)] (hset (List.replicate 72 none) []) (.ret (.val .bool y11)) (outH 72 []), y11 = false, false = false] (by kernel_rfl) ⟨x84 _ _ _ hy3, hg4, x85 _ _ _ hy6, hg7, x86_s1 _ _ _ hy9, hg10, x88_s1 _ _ _ hy12, hg13, rfl, trivial⟩ ?_
            obtain rfl := Option.some.inj h1
            exact jQ.mk [.keep [4] []] (by kernel_rfl) rfl
        · refine Run.reg tied [⟨(.val .bool y2), [], [], [], 66⟩, ⟨(.val .bool y5), [], [], [], 66⟩, ⟨(.val .bool y8), [], [], [], 72⟩] [true, true, false, false, false] [] [Fc Tryz.prog gl 84 [(.val (.slice 16 .str) a0.1), (.val (.slice 16 .str) a1.1)] (hset (List.replicate 66 none) []) (.ret (.val .bool y2)) (outH 66 []), y2 = true, Fc Tryz.prog gl 85 [(.val (.slice 56 T181) a0.2.1), (.val (.slice 56 T181) a1.2.1)] (hset (List.replicate 66 none) []) (.ret (.val .bool y5)) (outH 66 []), y5 = true, Fc Tryz.prog gl 86 [(.val (.slice 96 T144) a0.2.2.1), (.val (.slice 96 T144) a1.2.2.1), (.func (.func 87) .nil .nil)] (hset (List.replicate 72 none) []) (.ret (.val .bool y8)) (outH 72 []), y8 = false, false = false, false = false] (by kernel_rfl) ⟨x84 _ _ _ hy3, hg4, x85 _ _ _ hy6, hg7, x86_s1 _ _ _ hy9, hg10, rfl, rfl, trivial⟩ ?_
          obtain rfl := Option.some.inj h1
          exact jQ.mk [.keep [4] []] (by kernel_rfl) rfl
      · refine Run.reg tied [⟨(.val .bool y2), [], [], [], 66⟩, ⟨(.val .bool y5), [], [], [], 66⟩] [true, false, false, false, false] [] [Fc Tryz.prog gl 84 [(.val (.slice 16 .str) a0.1), (.val (.slice 16 .str) a1.1)] (hset (List.replicate 66 none) []) (.ret (.val .bool y2)) (outH 66 []), y2 = true, Fc Tryz.prog gl 85 [(.val (.slice 56 T181) a0.2.1), (.val (.slice 56 T181) a1.2.1)] (hset (List.replicate 66 none) []) (.ret (.val .bool y5)) (outH 66 []), y5 = false, false = false, false = false, false = false] (by kernel_rfl) ⟨x84 _ _ _ hy3, hg4, x85 _ _ _ hy6, hg7, rfl, rfl, rfl, trivial⟩ ?_
        obtain rfl := Option.some.inj h1
        exact jQ.mk [.keep [4] []] (by kernel_rfl) rfl
    · refine Run.reg tied [⟨(.val .bool y2), [], [], [], 66⟩] [false, false, false, false, false] [] [Fc Tryz.prog gl 84 [(.val (.slice 16 .str) a0.1), (.val (.slice 16 .str) a1.1)] (hset (List.replicate 66 none) []) (.ret (.val .bool y2)) (outH 66 []), y2 = false, false = false, false = false, false = false, false = false] (by kernel_rfl) ⟨x84 _ _ _ hy3, hg4, rfl, rfl, rfl, rfl, trivial⟩ ?_
      obtain rfl := Option.some.inj h1
      exact jQ.mk [.keep [4] []] (by kernel_rfl) rfl
  · rintro _ rfl
    refine Run.ret ?_
    obtain rfl := Option.some.inj h
    exact (fQ_fin [] [some .bool] (msk 85 []) (by kernel_rfl)).1

/-- testamur.schemas.resolved -/
def f36 (a0 : D46) : Option Int :=
  Option.bind (f66 a0) fun y1 => if (!decide (y1.2 = (0 : Int))) = true then none else (Option.bind (f42 y1.1 a0) fun y3 => if (!y3) = true then none else (some (0 : Int)))

set_option maxRecDepth 100000 in
theorem x36 (a0 : D46) (r : Int) (h : f36 a0 = some r) : Fc Tryz.prog gl 36 [(.val T46 a0)] (hset (List.replicate 56 none) []) (.ret (.val (.int .i64) r)) (outH 56 []) := by
  refine Fc.of Tryz.call36 (FnEx.of_runF tied Tryz.func36 rfl rfl (σ0 := mkSt 16 56 [(0, (.val T46 a0))] []) (by kernel_rfl) ?_)
  unfold f36 at h
  refine Run.sreg tied [] [] [] [] (by kernel_rfl) trivial ?_
  obtain ⟨y1, hy2, h⟩ := bind_some h
  refine Run.sreg tied [⟨(.tup (.cons (.val T46 y1.1) (.cons (.val (.int .i64) y1.2) .nil))), [], [], [], 141⟩] [] [] [Fc Tryz.prog gl 66 [(.val T46 a0)] (hset (List.replicate 141 none) []) (.ret (.tup (.cons (.val T46 y1.1) (.cons (.val (.int .i64) y1.2) .nil)))) (outH 141 [])] (by kernel_rfl) ⟨x66 _ _ hy2, trivial⟩ ?_
  refine Run.seq ?_
  refine Run.sreg tied [] [] [] [] (by kernel_rfl) trivial ?_
  rcases ite_some h with ⟨hc6, h⟩ | ⟨hc6, h⟩
  · refine Run.condT (b := !decide (y1.2 = (0 : Int))) (by kernel_rfl) hc6 ?_
    cases h
  · refine Run.condF (b := !decide (y1.2 = (0 : Int))) (by kernel_rfl) hc6 ?_
    refine Run.skip ?_
    change Run _ _ _ _ _
    refine Run.seq ?_
    obtain ⟨y3, hy4, h⟩ := bind_some h
    refine Run.sreg tied [⟨(.val .bool y3), [], [], [], 85⟩] [] [] [Fc Tryz.prog gl 42 [(.val T46 y1.1), (.val T46 a0)] (hset (List.replicate 85 none) []) (.ret (.val .bool y3)) (outH 85 [])] (by kernel_rfl) ⟨x42 _ _ _ hy4, trivial⟩ ?_
    rcases ite_some h with ⟨hc5, h⟩ | ⟨hc5, h⟩
    · refine Run.condT (b := !y3) (by kernel_rfl) hc5 ?_
      cases h
    · refine Run.condF (b := !y3) (by kernel_rfl) hc5 ?_
      refine Run.skip ?_
      change Run _ _ _ _ _
      refine Run.sreg tied [] [] [] [] (by kernel_rfl) trivial ?_
      refine Run.ret ?_
      obtain rfl := Option.some.inj h
      exact (fQ_fin [] [some (.int .i64)] (msk 56 []) (by kernel_rfl)).1

/-- slices.IndexFunc[[]testamur.api.Purpose,testamur.api.Purpose] -/
def f198_s1_l1 (a0 : List D132) : Nat → Option Unit
  | 0 => none
  | _n1 + 1 => if (decide ((0 : Int) < (List.length a0 : Int))) = true then none else (some ())

def f198_s1 (a0 : List D132) : Option Int :=
  Option.bind (f198_s1_l1 a0 (big)) fun (_o1 : Unit) => some (-1 : Int)

set_option maxRecDepth 100000 in
theorem x198_s1 (a0 : List D132) (r : Int) (h : f198_s1 a0 = some r) : Fc Tryz.prog gl 198 [(.val (.slice 48 T132) a0), (.func (.func 146) .nil .nil)] (hset (List.replicate 59 none) []) (.ret (.val (.int .i64) r)) (outH 59 []) := by
  refine Fc.of Tryz.call198 (FnEx.of_runF tied Tryz.func198 rfl rfl (σ0 := mkSt 19 59 [(0, (.val (.slice 48 T132) a0)), (1, (.func (.func 146) .nil .nil))] []) (by kernel_rfl) ?_)
  unfold f198_s1 at h
  refine Run.sreg tied [] [] [] [] (by kernel_rfl) trivial ?_
  obtain ⟨o1, h1, h⟩ := bind_some h
  refine Run.seqJ (fun σ' => σ' = mkSt 19 59 [] []) ?_ ?_
  · refine Run.sreg tied [] [] [] [] (by kernel_rfl) trivial ?_
    refine Run.block ?_
    refine Run.loopJ (fun n σ => f198_s1_l1 a0 n = some o1 ∧ σ = mkSt 19 59 [(0, (.val (.slice 48 T132) a0)), (1, (.func (.func 146) .nil .nil)), (7, (.val (.int .i64) (List.length a0 : Int))), (8, (.val (.int .i64) (0 : Int)))] []) [.keep [0, 1, 7, 8] []] (by kernel_rfl) ⟨h1, rfl⟩ ?_
    rintro n1 _ ⟨h3, rfl⟩
    cases n1 with
    | zero => exact absurd h3 (by simp [f198_s1_l1])
    | succ n1 =>
      unfold f198_s1_l1 at h3
      refine Run.sreg tied [] [] [] [] (by kernel_rfl) trivial ?_
      refine Run.seq ?_
      rcases ite_some h3 with ⟨hc2, h3⟩ | ⟨hc2, h3⟩
      · refine Run.condT (b := decide ((0 : Int) < (List.length a0 : Int))) (by kernel_rfl) hc2 ?_
        refine Run.skip ?_
        change Run _ _ _ _ _
        refine Run.seq ?_
        refine Run.block ?_
        cases h3
      · refine Run.condF (b := decide ((0 : Int) < (List.length a0 : Int))) (by kernel_rfl) hc2 ?_
        refine Run.exit ?_
        refine tE ?_
        refine lE ?_
        refine bE ?_
        obtain rfl := Option.some.inj h3
        exact jQ.mk [.keep [] []] (by kernel_rfl) rfl
  · rintro _ rfl
    refine Run.sreg tied [] [] [] [] (by kernel_rfl) trivial ?_
    refine Run.ret ?_
    obtain rfl := Option.some.inj h
    exact (fQ_fin [] [some (.int .i64)] (msk 59 []) (by kernel_rfl)).1

/-- slices.ContainsFunc[[]testamur.api.Purpose,testamur.api.Purpose] -/
def f145_s1 (a0 : List D132) : Option Bool :=
  Option.bind (f198_s1 a0) fun y1 => some (decide ((0 : Int) ≤ y1))

set_option maxRecDepth 100000 in
theorem x145_s1 (a0 : List D132) (r : Bool) (h : f145_s1 a0 = some r) : Fc Tryz.prog gl 145 [(.val (.slice 48 T132) a0), (.func (.func 146) .nil .nil)] (hset (List.replicate 49 none) []) (.ret (.val .bool r)) (outH 49 []) := by
  refine Fc.of Tryz.call145 (FnEx.of_runF tied Tryz.func145 rfl rfl (σ0 := mkSt 9 49 [(0, (.val (.slice 48 T132) a0)), (1, (.func (.func 146) .nil .nil))] []) (by kernel_rfl) ?_)
  unfold f145_s1 at h
  refine Run.sreg tied [] [] [] [] (by kernel_rfl) trivial ?_
  obtain ⟨y1, hy2, h⟩ := bind_some h
  refine Run.sreg tied [⟨(.val (.int .i64) y1), [], [], [], 59⟩] [] [] [Fc Tryz.prog gl 198 [(.val (.slice 48 T132) a0), (.func (.func 146) .nil .nil)] (hset (List.replicate 59 none) []) (.ret (.val (.int .i64) y1)) (outH 59 [])] (by kernel_rfl) ⟨x198_s1 _ _ hy2, trivial⟩ ?_
  refine Run.ret ?_
  obtain rfl := Option.some.inj h
  exact (fQ_fin [] [some .bool] (msk 49 []) (by kernel_rfl)).1

/-- (testamur.types.checker).limited -/
def f67 (a0 : D169) : Option Bool :=
  Option.bind (Option.bind (if (decide ((8 : Int) < (List.length a0.1.1 : Int))) = true then (some true) else (if (decide ((64 : Int) < (List.length a0.1.2.1 : Int))) = true then (some true) else (if (decide ((16 : Int) < (List.length a0.1.2.2.1 : Int))) = true then (some true) else (if (decide ((16 : Int) < (List.length a0.1.2.2.2.1 : Int))) = true then (some true) else (if (decide ((16 : Int) < (List.length a0.1.2.2.2.2.1 : Int))) = true then (some true) else (some (decide ((8 : Int) < (List.length a0.1.2.2.2.2.2.1 : Int))))))))) fun (o2 : Bool) => if o2 = true then none else (some ())) fun (_o1 : Unit) => Option.bind (f145_s1 a0.1.2.2.2.2.2.1) fun y9 => some (!y9)

set_option maxRecDepth 100000 in
theorem x67 (a0 : D169) (r : Bool) (h : f67 a0 = some r) : Fc Tryz.prog gl 67 [(.val T169 a0)] (hset (List.replicate 88 none) []) (.ret (.val .bool r)) (outH 88 []) := by
  refine Fc.of Tryz.call67 (FnEx.of_runF tied Tryz.func67 rfl rfl (σ0 := mkSt 48 88 [(0, (.val T169 a0))] []) (by kernel_rfl) ?_)
  unfold f67 at h
  refine Run.sreg tied [] [] [] [] (by kernel_rfl) trivial ?_
  obtain ⟨o1, h1, h⟩ := bind_some h
  refine Run.seqJ (fun σ' => σ' = mkSt 48 88 [(1, (.ptr 17 []))] [(17, some (.var T169 (.val T169 a0)))]) ?_ ?_
  · obtain ⟨o2, h3, h1⟩ := bind_some h1
    refine Run.seqJ (fun σ' => σ' = mkSt 48 88 [(1, (.ptr 17 [])), (42, (.val .bool o2))] [(17, some (.var T169 (.val T169 a0)))]) ?_ ?_
    · rcases ite_some h3 with ⟨hg3, h3⟩ | ⟨hg3, h3⟩
      · refine Run.reg tied [] [true, true, true, true, true] [] [(decide ((8 : Int) < (List.length a0.1.1 : Int))) = true, true = true, true = true, true = true, true = true] (by kernel_rfl) ⟨hg3, rfl, rfl, rfl, rfl, trivial⟩ ?_
        obtain rfl := Option.some.inj h3
        exact jQ.mk [.keep [1, 42] [17]] (by kernel_rfl) rfl
      · rcases ite_some h3 with ⟨hg4, h3⟩ | ⟨hg4, h3⟩
        · refine Run.reg tied [] [false, true, true, true, true] [] [(decide ((8 : Int) < (List.length a0.1.1 : Int))) = false, (decide ((64 : Int) < (List.length a0.1.2.1 : Int))) = true, true = true, true = true, true = true] (by kernel_rfl) ⟨hg3, hg4, rfl, rfl, rfl, trivial⟩ ?_
          obtain rfl := Option.some.inj h3
          exact jQ.mk [.keep [1, 42] [17]] (by kernel_rfl) rfl
        · rcases ite_some h3 with ⟨hg5, h3⟩ | ⟨hg5, h3⟩
          · refine Run.reg tied [] [false, false, true, true, true] [] [(decide ((8 : Int) < (List.length a0.1.1 : Int))) = false, (decide ((64 : Int) < (List.length a0.1.2.1 : Int))) = false, (decide ((16 : Int) < (List.length a0.1.2.2.1 : Int))) = true, true = true, true = true] (by kernel_rfl) ⟨hg3, hg4, hg5, rfl, rfl, trivial⟩ ?_
            obtain rfl := Option.some.inj h3
            exact jQ.mk [.keep [1, 42] [17]] (by kernel_rfl) rfl
          · rcases ite_some h3 with ⟨hg6, h3⟩ | ⟨hg6, h3⟩
            · refine Run.reg tied [] [false, false, false, true, true] [] [(decide ((8 : Int) < (List.length a0.1.1 : Int))) = false, (decide ((64 : Int) < (List.length a0.1.2.1 : Int))) = false, (decide ((16 : Int) < (List.length a0.1.2.2.1 : Int))) = false, (decide ((16 : Int) < (List.length a0.1.2.2.2.1 : Int))) = true, true = true] (by kernel_rfl) ⟨hg3, hg4, hg5, hg6, rfl, trivial⟩ ?_
              obtain rfl := Option.some.inj h3
              exact jQ.mk [.keep [1, 42] [17]] (by kernel_rfl) rfl
            · rcases ite_some h3 with ⟨hg7, h3⟩ | ⟨hg7, h3⟩
              · refine Run.reg tied [] [false, false, false, false, true] [] [(decide ((8 : Int) < (List.length a0.1.1 : Int))) = false, (decide ((64 : Int) < (List.length a0.1.2.1 : Int))) = false, (decide ((16 : Int) < (List.length a0.1.2.2.1 : Int))) = false, (decide ((16 : Int) < (List.length a0.1.2.2.2.1 : Int))) = false, (decide ((16 : Int) < (List.length a0.1.2.2.2.2.1 : Int))) = true] (by kernel_rfl) ⟨hg3, hg4, hg5, hg6, hg7, trivial⟩ ?_
                obtain rfl := Option.some.inj h3
                exact jQ.mk [.keep [1, 42] [17]] (by kernel_rfl) rfl
              · refine Run.reg tied [] [false, false, false, false, false] [] [(decide ((8 : Int) < (List.length a0.1.1 : Int))) = false, (decide ((64 : Int) < (List.length a0.1.2.1 : Int))) = false, (decide ((16 : Int) < (List.length a0.1.2.2.1 : Int))) = false, (decide ((16 : Int) < (List.length a0.1.2.2.2.1 : Int))) = false, (decide ((16 : Int) < (List.length a0.1.2.2.2.2.1 : Int))) = false] (by kernel_rfl) ⟨hg3, hg4, hg5, hg6, hg7, trivial⟩ ?_
                obtain rfl := Option.some.inj h3
                exact jQ.mk [.keep [1, 42] [17]] (by kernel_rfl) rfl
    · rintro _ rfl
      rcases ite_some h1 with ⟨hc8, h1⟩ | ⟨hc8, h1⟩
      · refine Run.condT (b := o2) (by kernel_rfl) hc8 ?_
        cases h1
      · refine Run.condF (b := o2) (by kernel_rfl) hc8 ?_
        refine Run.skip ?_
        obtain rfl := Option.some.inj h1
        exact jQ.mk [.keep [1] [17]] (by kernel_rfl) rfl
  · rintro _ rfl
    obtain ⟨y9, hy10, h⟩ := bind_some h
    refine Run.sreg tied [⟨(.val .bool y9), [], [], [], 49⟩] [] [] [Fc Tryz.prog gl 145 [(.val (.slice 48 T132) a0.1.2.2.2.2.2.1), (.func (.func 146) .nil .nil)] (hset (List.replicate 49 none) []) (.ret (.val .bool y9)) (outH 49 [])] (by kernel_rfl) ⟨x145_s1 _ _ hy10, trivial⟩ ?_
    refine Run.ret ?_
    obtain rfl := Option.some.inj h
    exact (fQ_fin [] [some .bool] (msk 88 []) (by kernel_rfl)).1

/-- slices.IndexFunc[[]testamur.api.Unit,testamur.api.Unit] -/
def f233_s1_l1 (a0 : List D181) : Nat → Option Unit
  | 0 => none
  | _n1 + 1 => if (decide ((0 : Int) < (List.length a0 : Int))) = true then none else (some ())

def f233_s1 (a0 : List D181) : Option Int :=
  Option.bind (f233_s1_l1 a0 (big)) fun (_o1 : Unit) => some (-1 : Int)

set_option maxRecDepth 100000 in
theorem x233_s1 (a0 : List D181) (r : Int) (h : f233_s1 a0 = some r) : Fc Tryz.prog gl 233 [(.val (.slice 56 T181) a0), (.func (.func 152) .nil (.cons (.ptr 0 []) .nil))] (hset (List.replicate 59 none) [(0, some (.var (.opq .func) .fx))]) (.ret (.val (.int .i64) r)) (outH 59 [(0, (.var (.opq .func) .fx))]) := by
  refine Fc.of Tryz.call233 (FnEx.of_runF tied Tryz.func233 rfl rfl (σ0 := mkSt 19 59 [(0, (.val (.slice 56 T181) a0)), (1, (.func (.func 152) .nil (.cons (.ptr 0 []) .nil)))] [(0, some (.var (.opq .func) .fx))]) (by kernel_rfl) ?_)
  unfold f233_s1 at h
  refine Run.sreg tied [] [] [] [] (by kernel_rfl) trivial ?_
  obtain ⟨o1, h1, h⟩ := bind_some h
  refine Run.seqJ (fun σ' => σ' = mkSt 19 59 [] [(0, some (.var (.opq .func) .fx))]) ?_ ?_
  · refine Run.sreg tied [] [] [] [] (by kernel_rfl) trivial ?_
    refine Run.block ?_
    refine Run.loopJ (fun n σ => f233_s1_l1 a0 n = some o1 ∧ σ = mkSt 19 59 [(0, (.val (.slice 56 T181) a0)), (1, (.func (.func 152) .nil (.cons (.ptr 0 []) .nil))), (7, (.val (.int .i64) (List.length a0 : Int))), (8, (.val (.int .i64) (0 : Int)))] [(0, some (.var (.opq .func) .fx))]) [.keep [0, 1, 7, 8] [0]] (by kernel_rfl) ⟨h1, rfl⟩ ?_
    rintro n1 _ ⟨h3, rfl⟩
    cases n1 with
    | zero => exact absurd h3 (by simp [f233_s1_l1])
    | succ n1 =>
      unfold f233_s1_l1 at h3
      refine Run.sreg tied [] [] [] [] (by kernel_rfl) trivial ?_
      refine Run.seq ?_
      rcases ite_some h3 with ⟨hc2, h3⟩ | ⟨hc2, h3⟩
      · refine Run.condT (b := decide ((0 : Int) < (List.length a0 : Int))) (by kernel_rfl) hc2 ?_
        refine Run.skip ?_
        change Run _ _ _ _ _
        refine Run.seq ?_
        refine Run.block ?_
        cases h3
      · refine Run.condF (b := decide ((0 : Int) < (List.length a0 : Int))) (by kernel_rfl) hc2 ?_
        refine Run.exit ?_
        refine tE ?_
        refine lE ?_
        refine bE ?_
        obtain rfl := Option.some.inj h3
        exact jQ.mk [.keep [] [0]] (by kernel_rfl) rfl
  · rintro _ rfl
    refine Run.sreg tied [] [] [] [] (by kernel_rfl) trivial ?_
    refine Run.ret ?_
    obtain rfl := Option.some.inj h
    exact (fQ_fin [.keep [4] [0]] [some (.int .i64)] (msk 59 [0]) (by kernel_rfl)).1

/-- slices.ContainsFunc[[]testamur.api.Unit,testamur.api.Unit] -/
def f151_s1 (a0 : List D181) : Option Bool :=
  Option.bind (f233_s1 a0) fun y1 => some (decide ((0 : Int) ≤ y1))

set_option maxRecDepth 100000 in
theorem x151_s1 (a0 : List D181) (r : Bool) (h : f151_s1 a0 = some r) : Fc Tryz.prog gl 151 [(.val (.slice 56 T181) a0), (.func (.func 152) .nil (.cons (.ptr 0 []) .nil))] (hset (List.replicate 49 none) [(0, some (.var (.opq .func) .fx))]) (.ret (.val .bool r)) (outH 49 [(0, (.var (.opq .func) .fx))]) := by
  refine Fc.of Tryz.call151 (FnEx.of_runF tied Tryz.func151 rfl rfl (σ0 := mkSt 9 49 [(0, (.val (.slice 56 T181) a0)), (1, (.func (.func 152) .nil (.cons (.ptr 0 []) .nil)))] [(0, some (.var (.opq .func) .fx))]) (by kernel_rfl) ?_)
  unfold f151_s1 at h
  refine Run.sreg tied [] [] [] [] (by kernel_rfl) trivial ?_
  obtain ⟨y1, hy2, h⟩ := bind_some h
  refine Run.sreg tied [⟨(.val (.int .i64) y1), [(0, 0)], [], [(0, (.var (.opq .func) .fx))], 59⟩] [] [] [Fc Tryz.prog gl 233 [(.val (.slice 56 T181) a0), (.func (.func 152) .nil (.cons (.ptr 0 []) .nil))] (hset (List.replicate 59 none) [(0, some (.var (.opq .func) .fx))]) (.ret (.val (.int .i64) y1)) (outH 59 [(0, (.var (.opq .func) .fx))])] (by kernel_rfl) ⟨x233_s1 _ _ hy2, trivial⟩ ?_
  refine Run.ret ?_
  obtain rfl := Option.some.inj h
  exact (fQ_fin [.keep [4] [0]] [some .bool] (msk 49 [0]) (by kernel_rfl)).1

/-- testamur.types.all[testamur.api.Unit] -/
def f70_s1 (a0 : List D181) : Option Bool :=
  Option.bind (f151_s1 a0) fun y1 => some (!y1)

set_option maxRecDepth 100000 in
theorem x70_s1 (a0 : List D181) (r : Bool) (h : f70_s1 a0 = some r) : Fc Tryz.prog gl 70 [(.val (.slice 56 T181) a0), .fx] (hset (List.replicate 49 none) []) (.ret (.val .bool r)) (outH 49 []) := by
  refine Fc.of Tryz.call70 (FnEx.of_runF tied Tryz.func70 rfl rfl (σ0 := mkSt 9 49 [(0, (.val (.slice 56 T181) a0)), (1, .fx)] []) (by kernel_rfl) ?_)
  unfold f70_s1 at h
  refine Run.sreg tied [] [] [] [] (by kernel_rfl) trivial ?_
  obtain ⟨y1, hy2, h⟩ := bind_some h
  refine Run.sreg tied [⟨(.val .bool y1), [(0, 19)], [], [(0, (.var (.opq .func) .fx))], 49⟩] [] [] [Fc Tryz.prog gl 151 [(.val (.slice 56 T181) a0), (.func (.func 152) .nil (.cons (.ptr 0 []) .nil))] (hset (List.replicate 49 none) [(0, some (.var (.opq .func) .fx))]) (.ret (.val .bool y1)) (outH 49 [(0, (.var (.opq .func) .fx))])] (by kernel_rfl) ⟨x151_s1 _ _ hy2, trivial⟩ ?_
  refine Run.ret ?_
  obtain rfl := Option.some.inj h
  exact (fQ_fin [] [some .bool] (msk 49 []) (by kernel_rfl)).1

/-- slices.IndexFunc[[]testamur.api.Schema,testamur.api.Schema] -/
def f234_s1_l1 (a0 : List D144) : Nat → Option Unit
  | 0 => none
  | _n1 + 1 => if (decide ((0 : Int) < (List.length a0 : Int))) = true then none else (some ())

def f234_s1 (a0 : List D144) : Option Int :=
  Option.bind (f234_s1_l1 a0 (big)) fun (_o1 : Unit) => some (-1 : Int)

set_option maxRecDepth 100000 in
theorem x234_s1 (a0 : List D144) (r : Int) (h : f234_s1 a0 = some r) : Fc Tryz.prog gl 234 [(.val (.slice 96 T144) a0), (.func (.func 154) .nil (.cons (.ptr 0 []) .nil))] (hset (List.replicate 59 none) [(0, some (.var (.opq .func) .fx))]) (.ret (.val (.int .i64) r)) (outH 59 [(0, (.var (.opq .func) .fx))]) := by
  refine Fc.of Tryz.call234 (FnEx.of_runF tied Tryz.func234 rfl rfl (σ0 := mkSt 19 59 [(0, (.val (.slice 96 T144) a0)), (1, (.func (.func 154) .nil (.cons (.ptr 0 []) .nil)))] [(0, some (.var (.opq .func) .fx))]) (by kernel_rfl) ?_)
  unfold f234_s1 at h
  refine Run.sreg tied [] [] [] [] (by kernel_rfl) trivial ?_
  obtain ⟨o1, h1, h⟩ := bind_some h
  refine Run.seqJ (fun σ' => σ' = mkSt 19 59 [] [(0, some (.var (.opq .func) .fx))]) ?_ ?_
  · refine Run.sreg tied [] [] [] [] (by kernel_rfl) trivial ?_
    refine Run.block ?_
    refine Run.loopJ (fun n σ => f234_s1_l1 a0 n = some o1 ∧ σ = mkSt 19 59 [(0, (.val (.slice 96 T144) a0)), (1, (.func (.func 154) .nil (.cons (.ptr 0 []) .nil))), (7, (.val (.int .i64) (List.length a0 : Int))), (8, (.val (.int .i64) (0 : Int)))] [(0, some (.var (.opq .func) .fx))]) [.keep [0, 1, 7, 8] [0]] (by kernel_rfl) ⟨h1, rfl⟩ ?_
    rintro n1 _ ⟨h3, rfl⟩
    cases n1 with
    | zero => exact absurd h3 (by simp [f234_s1_l1])
    | succ n1 =>
      unfold f234_s1_l1 at h3
      refine Run.sreg tied [] [] [] [] (by kernel_rfl) trivial ?_
      refine Run.seq ?_
      rcases ite_some h3 with ⟨hc2, h3⟩ | ⟨hc2, h3⟩
      · refine Run.condT (b := decide ((0 : Int) < (List.length a0 : Int))) (by kernel_rfl) hc2 ?_
        refine Run.skip ?_
        change Run _ _ _ _ _
        refine Run.seq ?_
        refine Run.block ?_
        cases h3
      · refine Run.condF (b := decide ((0 : Int) < (List.length a0 : Int))) (by kernel_rfl) hc2 ?_
        refine Run.exit ?_
        refine tE ?_
        refine lE ?_
        refine bE ?_
        obtain rfl := Option.some.inj h3
        exact jQ.mk [.keep [] [0]] (by kernel_rfl) rfl
  · rintro _ rfl
    refine Run.sreg tied [] [] [] [] (by kernel_rfl) trivial ?_
    refine Run.ret ?_
    obtain rfl := Option.some.inj h
    exact (fQ_fin [.keep [4] [0]] [some (.int .i64)] (msk 59 [0]) (by kernel_rfl)).1

/-- slices.ContainsFunc[[]testamur.api.Schema,testamur.api.Schema] -/
def f153_s1 (a0 : List D144) : Option Bool :=
  Option.bind (f234_s1 a0) fun y1 => some (decide ((0 : Int) ≤ y1))

set_option maxRecDepth 100000 in
theorem x153_s1 (a0 : List D144) (r : Bool) (h : f153_s1 a0 = some r) : Fc Tryz.prog gl 153 [(.val (.slice 96 T144) a0), (.func (.func 154) .nil (.cons (.ptr 0 []) .nil))] (hset (List.replicate 49 none) [(0, some (.var (.opq .func) .fx))]) (.ret (.val .bool r)) (outH 49 [(0, (.var (.opq .func) .fx))]) := by
  refine Fc.of Tryz.call153 (FnEx.of_runF tied Tryz.func153 rfl rfl (σ0 := mkSt 9 49 [(0, (.val (.slice 96 T144) a0)), (1, (.func (.func 154) .nil (.cons (.ptr 0 []) .nil)))] [(0, some (.var (.opq .func) .fx))]) (by kernel_rfl) ?_)
  unfold f153_s1 at h
  refine Run.sreg tied [] [] [] [] (by kernel_rfl) trivial ?_
  obtain ⟨y1, hy2, h⟩ := bind_some h
  refine Run.sreg tied [⟨(.val (.int .i64) y1), [(0, 0)], [], [(0, (.var (.opq .func) .fx))], 59⟩] [] [] [Fc Tryz.prog gl 234 [(.val (.slice 96 T144) a0), (.func (.func 154) .nil (.cons (.ptr 0 []) .nil))] (hset (List.replicate 59 none) [(0, some (.var (.opq .func) .fx))]) (.ret (.val (.int .i64) y1)) (outH 59 [(0, (.var (.opq .func) .fx))])] (by kernel_rfl) ⟨x234_s1 _ _ hy2, trivial⟩ ?_
  refine Run.ret ?_
  obtain rfl := Option.some.inj h
  exact (fQ_fin [.keep [4] [0]] [some .bool] (msk 49 [0]) (by kernel_rfl)).1

/-- testamur.types.all[testamur.api.Schema] -/
def f72_s1 (a0 : List D144) : Option Bool :=
  Option.bind (f153_s1 a0) fun y1 => some (!y1)

set_option maxRecDepth 100000 in
theorem x72_s1 (a0 : List D144) (r : Bool) (h : f72_s1 a0 = some r) : Fc Tryz.prog gl 72 [(.val (.slice 96 T144) a0), .fx] (hset (List.replicate 49 none) []) (.ret (.val .bool r)) (outH 49 []) := by
  refine Fc.of Tryz.call72 (FnEx.of_runF tied Tryz.func72 rfl rfl (σ0 := mkSt 9 49 [(0, (.val (.slice 96 T144) a0)), (1, .fx)] []) (by kernel_rfl) ?_)
  unfold f72_s1 at h
  refine Run.sreg tied [] [] [] [] (by kernel_rfl) trivial ?_
  obtain ⟨y1, hy2, h⟩ := bind_some h
  refine Run.sreg tied [⟨(.val .bool y1), [(0, 19)], [], [(0, (.var (.opq .func) .fx))], 49⟩] [] [] [Fc Tryz.prog gl 153 [(.val (.slice 96 T144) a0), (.func (.func 154) .nil (.cons (.ptr 0 []) .nil))] (hset (List.replicate 49 none) [(0, some (.var (.opq .func) .fx))]) (.ret (.val .bool y1)) (outH 49 [(0, (.var (.opq .func) .fx))])] (by kernel_rfl) ⟨x153_s1 _ _ hy2, trivial⟩ ?_
  refine Run.ret ?_
  obtain rfl := Option.some.inj h
  exact (fQ_fin [] [some .bool] (msk 49 []) (by kernel_rfl)).1

/-- slices.IndexFunc[[]testamur.api.Rule,testamur.api.Rule] -/
def f235_s1_l1 (a0 : List D175) (_a1 : D169) : Nat → Option Unit
  | 0 => none
  | _n1 + 1 => if (decide ((0 : Int) < (List.length a0 : Int))) = true then none else (some ())

def f235_s1 (a0 : List D175) (a1 : D169) : Option (Int × D169) :=
  Option.bind (f235_s1_l1 a0 a1 (big)) fun (_o1 : Unit) => some ((-1 : Int), a1)

set_option maxRecDepth 100000 in
theorem x235_s1 (a0 : List D175) (a1 : D169) (r : Int × D169) (h : f235_s1 a0 a1 = some r) : Fc Tryz.prog gl 235 [(.val (.slice 96 T175) a0), (.func (.func 156) .nil (.cons (.ptr 0 []) .nil))] (hset (List.replicate 59 none) [(0, some (.var (.opq .func) (.func (.func 68) .nil (.cons (.vptr T169 a1) .nil))))]) (.ret (.val (.int .i64) r.1)) (outH 59 [(0, (.var (.opq .func) (.func (.func 68) .nil (.cons (.vptr T169 r.2) .nil))))]) := by
  refine Fc.of Tryz.call235 (FnEx.of_runF tied Tryz.func235 rfl rfl (σ0 := mkSt 19 59 [(0, (.val (.slice 96 T175) a0)), (1, (.func (.func 156) .nil (.cons (.ptr 0 []) .nil)))] [(0, some (.var (.opq .func) (.func (.func 68) .nil (.cons (.vptr T169 a1) .nil))))]) (by kernel_rfl) ?_)
  unfold f235_s1 at h
  refine Run.sreg tied [] [] [] [] (by kernel_rfl) trivial ?_
  obtain ⟨o1, h1, h⟩ := bind_some h
  refine Run.seqJ (fun σ' => σ' = mkSt 19 59 [] [(0, some (.var (.opq .func) (.func (.func 68) .nil (.cons (.vptr T169 a1) .nil))))]) ?_ ?_
  · refine Run.sreg tied [] [] [] [] (by kernel_rfl) trivial ?_
    refine Run.block ?_
    refine Run.loopJ (fun n σ => f235_s1_l1 a0 a1 n = some o1 ∧ σ = mkSt 19 59 [(0, (.val (.slice 96 T175) a0)), (1, (.func (.func 156) .nil (.cons (.ptr 0 []) .nil))), (7, (.val (.int .i64) (List.length a0 : Int))), (8, (.val (.int .i64) (0 : Int)))] [(0, some (.var (.opq .func) (.func (.func 68) .nil (.cons (.vptr T169 a1) .nil))))]) [.keep [0, 1, 7, 8] [0]] (by kernel_rfl) ⟨h1, rfl⟩ ?_
    rintro n1 _ ⟨h3, rfl⟩
    cases n1 with
    | zero => exact absurd h3 (by simp [f235_s1_l1])
    | succ n1 =>
      unfold f235_s1_l1 at h3
      refine Run.sreg tied [] [] [] [] (by kernel_rfl) trivial ?_
      refine Run.seq ?_
      rcases ite_some h3 with ⟨hc2, h3⟩ | ⟨hc2, h3⟩
      · refine Run.condT (b := decide ((0 : Int) < (List.length a0 : Int))) (by kernel_rfl) hc2 ?_
        refine Run.skip ?_
        change Run _ _ _ _ _
        refine Run.seq ?_
        refine Run.block ?_
        cases h3
      · refine Run.condF (b := decide ((0 : Int) < (List.length a0 : Int))) (by kernel_rfl) hc2 ?_
        refine Run.exit ?_
        refine tE ?_
        refine lE ?_
        refine bE ?_
        obtain rfl := Option.some.inj h3
        exact jQ.mk [.keep [] [0]] (by kernel_rfl) rfl
  · rintro _ rfl
    refine Run.sreg tied [] [] [] [] (by kernel_rfl) trivial ?_
    refine Run.ret ?_
    obtain rfl := Option.some.inj h
    exact (fQ_fin [.keep [4] [0]] [some (.int .i64)] (msk 59 [0]) (by kernel_rfl)).1

/-- slices.ContainsFunc[[]testamur.api.Rule,testamur.api.Rule] -/
def f155_s1 (a0 : List D175) (a1 : D169) : Option (Bool × D169) :=
  Option.bind (f235_s1 a0 a1) fun y1 => some (decide ((0 : Int) ≤ y1.1), y1.2)

set_option maxRecDepth 100000 in
theorem x155_s1 (a0 : List D175) (a1 : D169) (r : Bool × D169) (h : f155_s1 a0 a1 = some r) : Fc Tryz.prog gl 155 [(.val (.slice 96 T175) a0), (.func (.func 156) .nil (.cons (.ptr 0 []) .nil))] (hset (List.replicate 49 none) [(0, some (.var (.opq .func) (.func (.func 68) .nil (.cons (.vptr T169 a1) .nil))))]) (.ret (.val .bool r.1)) (outH 49 [(0, (.var (.opq .func) (.func (.func 68) .nil (.cons (.vptr T169 r.2) .nil))))]) := by
  refine Fc.of Tryz.call155 (FnEx.of_runF tied Tryz.func155 rfl rfl (σ0 := mkSt 9 49 [(0, (.val (.slice 96 T175) a0)), (1, (.func (.func 156) .nil (.cons (.ptr 0 []) .nil)))] [(0, some (.var (.opq .func) (.func (.func 68) .nil (.cons (.vptr T169 a1) .nil))))]) (by kernel_rfl) ?_)
  unfold f155_s1 at h
  refine Run.sreg tied [] [] [] [] (by kernel_rfl) trivial ?_
  obtain ⟨y1, hy2, h⟩ := bind_some h
  refine Run.sreg tied [⟨(.val (.int .i64) y1.1), [(0, 0)], [], [(0, (.var (.opq .func) (.func (.func 68) .nil (.cons (.vptr T169 y1.2) .nil))))], 59⟩] [] [] [Fc Tryz.prog gl 235 [(.val (.slice 96 T175) a0), (.func (.func 156) .nil (.cons (.ptr 0 []) .nil))] (hset (List.replicate 59 none) [(0, some (.var (.opq .func) (.func (.func 68) .nil (.cons (.vptr T169 a1) .nil))))]) (.ret (.val (.int .i64) y1.1)) (outH 59 [(0, (.var (.opq .func) (.func (.func 68) .nil (.cons (.vptr T169 y1.2) .nil))))])] (by kernel_rfl) ⟨x235_s1 _ _ _ hy2, trivial⟩ ?_
  refine Run.ret ?_
  obtain rfl := Option.some.inj h
  exact (fQ_fin [.keep [4] [0]] [some .bool] (msk 49 [0]) (by kernel_rfl)).1

/-- testamur.types.all[testamur.api.Rule] -/
def f74_s1 (a0 : List D175) (a1 : D169) : Option Bool :=
  Option.bind (f155_s1 a0 a1) fun y1 => some (!y1.1)

set_option maxRecDepth 100000 in
theorem x74_s1 (a0 : List D175) (a1 : D169) (r : Bool) (h : f74_s1 a0 a1 = some r) : Fc Tryz.prog gl 74 [(.val (.slice 96 T175) a0), (.func (.func 68) .nil (.cons (.vptr T169 a1) .nil))] (hset (List.replicate 49 none) []) (.ret (.val .bool r)) (outH 49 []) := by
  refine Fc.of Tryz.call74 (FnEx.of_runF tied Tryz.func74 rfl rfl (σ0 := mkSt 9 49 [(0, (.val (.slice 96 T175) a0)), (1, (.func (.func 68) .nil (.cons (.vptr T169 a1) .nil)))] []) (by kernel_rfl) ?_)
  unfold f74_s1 at h
  refine Run.sreg tied [] [] [] [] (by kernel_rfl) trivial ?_
  obtain ⟨y1, hy2, h⟩ := bind_some h
  refine Run.sreg tied [⟨(.val .bool y1.1), [(0, 19)], [], [(0, (.var (.opq .func) (.func (.func 68) .nil (.cons (.vptr T169 y1.2) .nil))))], 49⟩] [] [] [Fc Tryz.prog gl 155 [(.val (.slice 96 T175) a0), (.func (.func 156) .nil (.cons (.ptr 0 []) .nil))] (hset (List.replicate 49 none) [(0, some (.var (.opq .func) (.func (.func 68) .nil (.cons (.vptr T169 a1) .nil))))]) (.ret (.val .bool y1.1)) (outH 49 [(0, (.var (.opq .func) (.func (.func 68) .nil (.cons (.vptr T169 y1.2) .nil))))])] (by kernel_rfl) ⟨x155_s1 _ _ _ hy2, trivial⟩ ?_
  refine Run.ret ?_
  obtain rfl := Option.some.inj h
  exact (fQ_fin [] [some .bool] (msk 49 []) (by kernel_rfl)).1

/-- slices.IndexFunc[[]testamur.api.Purpose,testamur.api.Purpose] -/
def f198_s2_l1 (a0 : List D132) : Nat → Option Unit
  | 0 => none
  | _n1 + 1 => if (decide ((0 : Int) < (List.length a0 : Int))) = true then none else (some ())

def f198_s2 (a0 : List D132) : Option Int :=
  Option.bind (f198_s2_l1 a0 (big)) fun (_o1 : Unit) => some (-1 : Int)

set_option maxRecDepth 100000 in
theorem x198_s2 (a0 : List D132) (r : Int) (h : f198_s2 a0 = some r) : Fc Tryz.prog gl 198 [(.val (.slice 48 T132) a0), (.func (.func 157) .nil (.cons (.ptr 0 []) .nil))] (hset (List.replicate 59 none) [(0, some (.var (.opq .func) .fx))]) (.ret (.val (.int .i64) r)) (outH 59 [(0, (.var (.opq .func) .fx))]) := by
  refine Fc.of Tryz.call198 (FnEx.of_runF tied Tryz.func198 rfl rfl (σ0 := mkSt 19 59 [(0, (.val (.slice 48 T132) a0)), (1, (.func (.func 157) .nil (.cons (.ptr 0 []) .nil)))] [(0, some (.var (.opq .func) .fx))]) (by kernel_rfl) ?_)
  unfold f198_s2 at h
  refine Run.sreg tied [] [] [] [] (by kernel_rfl) trivial ?_
  obtain ⟨o1, h1, h⟩ := bind_some h
  refine Run.seqJ (fun σ' => σ' = mkSt 19 59 [] [(0, some (.var (.opq .func) .fx))]) ?_ ?_
  · refine Run.sreg tied [] [] [] [] (by kernel_rfl) trivial ?_
    refine Run.block ?_
    refine Run.loopJ (fun n σ => f198_s2_l1 a0 n = some o1 ∧ σ = mkSt 19 59 [(0, (.val (.slice 48 T132) a0)), (1, (.func (.func 157) .nil (.cons (.ptr 0 []) .nil))), (7, (.val (.int .i64) (List.length a0 : Int))), (8, (.val (.int .i64) (0 : Int)))] [(0, some (.var (.opq .func) .fx))]) [.keep [0, 1, 7, 8] [0]] (by kernel_rfl) ⟨h1, rfl⟩ ?_
    rintro n1 _ ⟨h3, rfl⟩
    cases n1 with
    | zero => exact absurd h3 (by simp [f198_s2_l1])
    | succ n1 =>
      unfold f198_s2_l1 at h3
      refine Run.sreg tied [] [] [] [] (by kernel_rfl) trivial ?_
      refine Run.seq ?_
      rcases ite_some h3 with ⟨hc2, h3⟩ | ⟨hc2, h3⟩
      · refine Run.condT (b := decide ((0 : Int) < (List.length a0 : Int))) (by kernel_rfl) hc2 ?_
        refine Run.skip ?_
        change Run _ _ _ _ _
        refine Run.seq ?_
        refine Run.block ?_
        cases h3
      · refine Run.condF (b := decide ((0 : Int) < (List.length a0 : Int))) (by kernel_rfl) hc2 ?_
        refine Run.exit ?_
        refine tE ?_
        refine lE ?_
        refine bE ?_
        obtain rfl := Option.some.inj h3
        exact jQ.mk [.keep [] [0]] (by kernel_rfl) rfl
  · rintro _ rfl
    refine Run.sreg tied [] [] [] [] (by kernel_rfl) trivial ?_
    refine Run.ret ?_
    obtain rfl := Option.some.inj h
    exact (fQ_fin [.keep [4] [0]] [some (.int .i64)] (msk 59 [0]) (by kernel_rfl)).1

/-- slices.ContainsFunc[[]testamur.api.Purpose,testamur.api.Purpose] -/
def f145_s2 (a0 : List D132) : Option Bool :=
  Option.bind (f198_s2 a0) fun y1 => some (decide ((0 : Int) ≤ y1))

set_option maxRecDepth 100000 in
theorem x145_s2 (a0 : List D132) (r : Bool) (h : f145_s2 a0 = some r) : Fc Tryz.prog gl 145 [(.val (.slice 48 T132) a0), (.func (.func 157) .nil (.cons (.ptr 0 []) .nil))] (hset (List.replicate 49 none) [(0, some (.var (.opq .func) .fx))]) (.ret (.val .bool r)) (outH 49 [(0, (.var (.opq .func) .fx))]) := by
  refine Fc.of Tryz.call145 (FnEx.of_runF tied Tryz.func145 rfl rfl (σ0 := mkSt 9 49 [(0, (.val (.slice 48 T132) a0)), (1, (.func (.func 157) .nil (.cons (.ptr 0 []) .nil)))] [(0, some (.var (.opq .func) .fx))]) (by kernel_rfl) ?_)
  unfold f145_s2 at h
  refine Run.sreg tied [] [] [] [] (by kernel_rfl) trivial ?_
  obtain ⟨y1, hy2, h⟩ := bind_some h
  refine Run.sreg tied [⟨(.val (.int .i64) y1), [(0, 0)], [], [(0, (.var (.opq .func) .fx))], 59⟩] [] [] [Fc Tryz.prog gl 198 [(.val (.slice 48 T132) a0), (.func (.func 157) .nil (.cons (.ptr 0 []) .nil))] (hset (List.replicate 59 none) [(0, some (.var (.opq .func) .fx))]) (.ret (.val (.int .i64) y1)) (outH 59 [(0, (.var (.opq .func) .fx))])] (by kernel_rfl) ⟨x198_s2 _ _ hy2, trivial⟩ ?_
  refine Run.ret ?_
  obtain rfl := Option.some.inj h
  exact (fQ_fin [.keep [4] [0]] [some .bool] (msk 49 [0]) (by kernel_rfl)).1

/-- testamur.types.all[testamur.api.Purpose] -/
def f75_s1 (a0 : List D132) : Option Bool :=
  Option.bind (f145_s2 a0) fun y1 => some (!y1)

set_option maxRecDepth 100000 in
theorem x75_s1 (a0 : List D132) (r : Bool) (h : f75_s1 a0 = some r) : Fc Tryz.prog gl 75 [(.val (.slice 48 T132) a0), .fx] (hset (List.replicate 49 none) []) (.ret (.val .bool r)) (outH 49 []) := by
  refine Fc.of Tryz.call75 (FnEx.of_runF tied Tryz.func75 rfl rfl (σ0 := mkSt 9 49 [(0, (.val (.slice 48 T132) a0)), (1, .fx)] []) (by kernel_rfl) ?_)
  unfold f75_s1 at h
  refine Run.sreg tied [] [] [] [] (by kernel_rfl) trivial ?_
  obtain ⟨y1, hy2, h⟩ := bind_some h
  refine Run.sreg tied [⟨(.val .bool y1), [(0, 19)], [], [(0, (.var (.opq .func) .fx))], 49⟩] [] [] [Fc Tryz.prog gl 145 [(.val (.slice 48 T132) a0), (.func (.func 157) .nil (.cons (.ptr 0 []) .nil))] (hset (List.replicate 49 none) [(0, some (.var (.opq .func) .fx))]) (.ret (.val .bool y1)) (outH 49 [(0, (.var (.opq .func) .fx))])] (by kernel_rfl) ⟨x145_s2 _ _ hy2, trivial⟩ ?_
  refine Run.ret ?_
  obtain rfl := Option.some.inj h
  exact (fQ_fin [] [some .bool] (msk 49 []) (by kernel_rfl)).1

/-- testamur.types.Check -/
def f37 (a0 : D46) : Option Int :=
  Option.bind (f67 (a0, ())) fun y1 => if (!y1) = true then none else (Option.bind (Option.bind (Option.bind (f70_s1 a0.2.1) fun y5 => if (!y5) = true then (some true) else (Option.bind (f72_s1 a0.2.2.1) fun y8 => if (!y8) = true then (some true) else (Option.bind (f74_s1 a0.2.2.2.1 (a0, ())) fun y11 => if (!y11) = true then (some true) else (Option.bind (f75_s1 a0.2.2.2.2.2.1) fun y14 => some (!y14))))) fun (o4 : Bool) => if o4 = true then none else (some ())) fun (_o3 : Unit) => some (0 : Int))

set_option maxRecDepth 100000 in
theorem x37 (a0 : D46) (r : Int) (h : f37 a0 = some r) : Fc Tryz.prog gl 37 [(.val T46 a0)] (hset (List.replicate 80 none) []) (.ret (.val (.int .i64) r)) (outH 80 []) := by
  refine Fc.of Tryz.call37 (FnEx.of_runF tied Tryz.func37 rfl rfl (σ0 := mkSt 40 80 [(0, (.val T46 a0))] []) (by kernel_rfl) ?_)
  unfold f37 at h
  refine Run.sreg tied [] [] [] [] (by kernel_rfl) trivial ?_
  refine Run.sreg tied [] [] [] [] (by kernel_rfl) trivial ?_
  refine Run.seq ?_
  obtain ⟨y1, hy2, h⟩ := bind_some h
  refine Run.sreg tied [⟨(.val .bool y1), [], [], [], 88⟩] [] [] [Fc Tryz.prog gl 67 [(.val T169 (a0, ()))] (hset (List.replicate 88 none) []) (.ret (.val .bool y1)) (outH 88 [])] (by kernel_rfl) ⟨x67 _ _ hy2, trivial⟩ ?_
  rcases ite_some h with ⟨hc17, h⟩ | ⟨hc17, h⟩
  · refine Run.condT (b := !y1) (by kernel_rfl) hc17 ?_
    cases h
  · refine Run.condF (b := !y1) (by kernel_rfl) hc17 ?_
    refine Run.skip ?_
    change Run _ _ _ _ _
    refine Run.sreg tied [] [] [] [] (by kernel_rfl) trivial ?_
    obtain ⟨o3, h1, h⟩ := bind_some h
    refine Run.seqJ (fun σ' => σ' = mkSt 40 80 [] []) ?_ ?_
    · obtain ⟨o4, h3, h1⟩ := bind_some h1
      refine Run.seqJ (fun σ' => σ' = mkSt 40 80 [(39, (.val .bool o4))] []) ?_ ?_
      · obtain ⟨y5, hy6, h3⟩ := bind_some h3
        rcases ite_some h3 with ⟨hg7, h3⟩ | ⟨hg7, h3⟩
        · refine Run.reg tied [⟨(.val .bool y5), [], [], [], 49⟩] [true, true, true] [] [Fc Tryz.prog gl 70 [(.val (.slice 56 T181) a0.2.1), .fx] (hset (List.replicate 49 none) []) (.ret (.val .bool y5)) (outH 49 []), (!y5) = true, true = true, true = true] (by kernel_rfl) ⟨x70_s1 _ _ hy6, hg7, rfl, rfl, trivial⟩ ?_
          obtain rfl := Option.some.inj h3
          exact jQ.mk [.keep [39] []] (by kernel_rfl) rfl
        · obtain ⟨y8, hy9, h3⟩ := bind_some h3
          rcases ite_some h3 with ⟨hg10, h3⟩ | ⟨hg10, h3⟩
          · refine Run.reg tied [⟨(.val .bool y5), [], [], [], 49⟩, ⟨(.val .bool y8), [], [], [], 49⟩] [false, true, true] [] [Fc Tryz.prog gl 70 [(.val (.slice 56 T181) a0.2.1), .fx] (hset (List.replicate 49 none) []) (.ret (.val .bool y5)) (outH 49 []), (!y5) = false, Fc Tryz.prog gl 72 [(.val (.slice 96 T144) a0.2.2.1), .fx] (hset (List.replicate 49 none) []) (.ret (.val .bool y8)) (outH 49 []), (!y8) = true, true = true] (by kernel_rfl) ⟨x70_s1 _ _ hy6, hg7, x72_s1 _ _ hy9, hg10, rfl, trivial⟩ ?_
            obtain rfl := Option.some.inj h3
            exact jQ.mk [.keep [39] []] (by kernel_rfl) rfl
          · obtain ⟨y11, hy12, h3⟩ := bind_some h3
            rcases ite_some h3 with ⟨hg13, h3⟩ | ⟨hg13, h3⟩
            · refine Run.reg tied [⟨(.val .bool y5), [], [], [], 49⟩, ⟨(.val .bool y8), [], [], [], 49⟩, ⟨(.val .bool y11), [], [], [], 49⟩] [false, false, true] [] [Fc Tryz.prog gl 70 [(.val (.slice 56 T181) a0.2.1), .fx] (hset (List.replicate 49 none) []) (.ret (.val .bool y5)) (outH 49 []), (!y5) = false, Fc Tryz.prog gl 72 [(.val (.slice 96 T144) a0.2.2.1), .fx] (hset (List.replicate 49 none) []) (.ret (.val .bool y8)) (outH 49 []), (!y8) = false, Fc Tryz.prog gl 74 [(.val (.slice 96 T175) a0.2.2.2.1), (.func (.func 68) .nil (.cons (.vptr T169 (a0, ())) .nil))] (hset (List.replicate 49 none) []) (.ret (.val .bool y11)) (outH 49 []), (!y11) = true] (by kernel_rfl) ⟨x70_s1 _ _ hy6, hg7, x72_s1 _ _ hy9, hg10, x74_s1 _ _ _ hy12, hg13, trivial⟩ ?_
              obtain rfl := Option.some.inj h3
              exact jQ.mk [.keep [39] []] (by kernel_rfl) rfl
            · obtain ⟨y14, hy15, h3⟩ := bind_some h3
              refine Run.reg tied [⟨(.val .bool y5), [], [], [], 49⟩, ⟨(.val .bool y8), [], [], [], 49⟩, ⟨(.val .bool y11), [], [], [], 49⟩, ⟨(.val .bool y14), [], [], [], 49⟩] [false, false, false] [] [Fc Tryz.prog gl 70 [(.val (.slice 56 T181) a0.2.1), .fx] (hset (List.replicate 49 none) []) (.ret (.val .bool y5)) (outH 49 []), (!y5) = false, Fc Tryz.prog gl 72 [(.val (.slice 96 T144) a0.2.2.1), .fx] (hset (List.replicate 49 none) []) (.ret (.val .bool y8)) (outH 49 []), (!y8) = false, Fc Tryz.prog gl 74 [(.val (.slice 96 T175) a0.2.2.2.1), (.func (.func 68) .nil (.cons (.vptr T169 (a0, ())) .nil))] (hset (List.replicate 49 none) []) (.ret (.val .bool y11)) (outH 49 []), (!y11) = false, Fc Tryz.prog gl 75 [(.val (.slice 48 T132) a0.2.2.2.2.2.1), .fx] (hset (List.replicate 49 none) []) (.ret (.val .bool y14)) (outH 49 [])] (by kernel_rfl) ⟨x70_s1 _ _ hy6, hg7, x72_s1 _ _ hy9, hg10, x74_s1 _ _ _ hy12, hg13, x75_s1 _ _ hy15, trivial⟩ ?_
              obtain rfl := Option.some.inj h3
              exact jQ.mk [.keep [39] []] (by kernel_rfl) rfl
      · rintro _ rfl
        rcases ite_some h1 with ⟨hc16, h1⟩ | ⟨hc16, h1⟩
        · refine Run.condT (b := o4) (by kernel_rfl) hc16 ?_
          cases h1
        · refine Run.condF (b := o4) (by kernel_rfl) hc16 ?_
          refine Run.skip ?_
          obtain rfl := Option.some.inj h1
          exact jQ.mk [.keep [] []] (by kernel_rfl) rfl
    · rintro _ rfl
      refine Run.sreg tied [] [] [] [] (by kernel_rfl) trivial ?_
      refine Run.ret ?_
      obtain rfl := Option.some.inj h
      exact (fQ_fin [] [some (.int .i64)] (msk 80 []) (by kernel_rfl)).1

/-- testamur.schemas.determined -/
def f38_l1 (a0 : D46) : Nat → Option Unit
  | 0 => none
  | _n1 + 1 => if (decide ((0 : Int) < (List.length a0.2.2.1 : Int))) = true then none else (some ())

def f38 (a0 : D46) : Option Int :=
  Option.bind (f38_l1 a0 (big)) fun (_o1 : Unit) => some (0 : Int)

set_option maxRecDepth 100000 in
theorem x38 (a0 : D46) (r : Int) (h : f38 a0 = some r) : Fc Tryz.prog gl 38 [(.val T46 a0)] (hset (List.replicate 59 none) []) (.ret (.val (.int .i64) r)) (outH 59 []) := by
  refine Fc.of Tryz.call38 (FnEx.of_runF tied Tryz.func38 rfl rfl (σ0 := mkSt 19 59 [(0, (.val T46 a0))] []) (by kernel_rfl) ?_)
  unfold f38 at h
  refine Run.sreg tied [] [] [] [] (by kernel_rfl) trivial ?_
  obtain ⟨o1, h1, h⟩ := bind_some h
  refine Run.seqJ (fun σ' => σ' = mkSt 19 59 [] []) ?_ ?_
  · refine Run.sreg tied [] [] [] [] (by kernel_rfl) trivial ?_
    refine Run.block ?_
    refine Run.loopJ (fun n σ => f38_l1 a0 n = some o1 ∧ σ = mkSt 19 59 [(7, (.val (.slice 96 T144) a0.2.2.1)), (8, (.val (.int .i64) (List.length a0.2.2.1 : Int))), (9, (.val (.int .i64) (0 : Int)))] []) [.keep [7, 8, 9] []] (by kernel_rfl) ⟨h1, rfl⟩ ?_
    rintro n1 _ ⟨h3, rfl⟩
    cases n1 with
    | zero => exact absurd h3 (by simp [f38_l1])
    | succ n1 =>
      unfold f38_l1 at h3
      refine Run.sreg tied [] [] [] [] (by kernel_rfl) trivial ?_
      refine Run.seq ?_
      rcases ite_some h3 with ⟨hc2, h3⟩ | ⟨hc2, h3⟩
      · refine Run.condT (b := decide ((0 : Int) < (List.length a0.2.2.1 : Int))) (by kernel_rfl) hc2 ?_
        refine Run.skip ?_
        change Run _ _ _ _ _
        refine Run.seq ?_
        refine Run.block ?_
        cases h3
      · refine Run.condF (b := decide ((0 : Int) < (List.length a0.2.2.1 : Int))) (by kernel_rfl) hc2 ?_
        refine Run.exit ?_
        refine tE ?_
        refine lE ?_
        refine bE ?_
        obtain rfl := Option.some.inj h3
        exact jQ.mk [.keep [] []] (by kernel_rfl) rfl
  · rintro _ rfl
    refine Run.sreg tied [] [] [] [] (by kernel_rfl) trivial ?_
    refine Run.ret ?_
    obtain rfl := Option.some.inj h
    exact (fQ_fin [] [some (.int .i64)] (msk 59 []) (by kernel_rfl)).1

/-- testamur.rules.read -/
def f81_s1_l1 (a0 : D46) : Nat → Option Unit
  | 0 => none
  | _n1 + 1 => if (decide ((0 : Int) < (List.length a0.2.2.2.1 : Int))) = true then none else (some ())

def f81_s1 (a0 : D46) : Option (Int × Int × (List (Int × Unit))) :=
  Option.bind (f81_s1_l1 a0 (big)) fun (_o1 : Unit) => some ((0 : Int), (List.length a0.2.2.1 : Int), ([] : List (Int × Unit)))

set_option maxRecDepth 100000 in
theorem x81_s1 (a0 : D46) (r : Int × Int × (List (Int × Unit))) (h : f81_s1 a0 = some r) : Fc Tryz.prog gl 81 [(.val T46 a0)] (hset (List.replicate 100 none) []) (.ret (.tup (.cons (.cons (.val (.int .i64) r.2.1) (.cons (.mp 27) .nil)) (.cons (.val (.int .i64) r.1) .nil)))) (outH 100 [(27, (.map (.int .i64) (.opq .map) r.2.2))]) := by
  refine Fc.of Tryz.call81 (FnEx.of_runF tied Tryz.func81 rfl rfl (σ0 := mkSt 60 100 [(0, (.val T46 a0))] []) (by kernel_rfl) ?_)
  unfold f81_s1 at h
  refine Run.sreg tied [] [] [] [] (by kernel_rfl) trivial ?_
  refine Run.sreg tied [] [] [] [] (by kernel_rfl) trivial ?_
  obtain ⟨o1, h1, h⟩ := bind_some h
  refine Run.seqJ (fun σ' => σ' = mkSt 60 100 [(2, (.ptr 18 []))] [(18, some (.var T196 (.cons (.val (.int .i64) (List.length a0.2.2.1 : Int)) (.cons (.mp 27) .nil)))), (27, some (.map (.int .i64) (.opq .map) ([] : List (Int × Unit))))]) ?_ ?_
  · refine Run.sreg tied [] [] [] [] (by kernel_rfl) trivial ?_
    refine Run.block ?_
    refine Run.loopJ (fun n σ => f81_s1_l1 a0 n = some o1 ∧ σ = mkSt 60 100 [(2, (.ptr 18 [])), (14, (.val (.slice 96 T175) a0.2.2.2.1)), (15, (.val (.int .i64) (List.length a0.2.2.2.1 : Int))), (16, (.val (.int .i64) (0 : Int)))] [(18, some (.var T196 (.cons (.val (.int .i64) (List.length a0.2.2.1 : Int)) (.cons (.mp 27) .nil)))), (27, some (.map (.int .i64) (.opq .map) ([] : List (Int × Unit))))]) [.keep [2, 14, 15, 16] [18, 27]] (by kernel_rfl) ⟨h1, rfl⟩ ?_
    rintro n1 _ ⟨h4, rfl⟩
    cases n1 with
    | zero => exact absurd h4 (by simp [f81_s1_l1])
    | succ n1 =>
      unfold f81_s1_l1 at h4
      refine Run.sreg tied [] [] [] [] (by kernel_rfl) trivial ?_
      refine Run.seq ?_
      rcases ite_some h4 with ⟨hc2, h4⟩ | ⟨hc2, h4⟩
      · refine Run.condT (b := decide ((0 : Int) < (List.length a0.2.2.2.1 : Int))) (by kernel_rfl) hc2 ?_
        refine Run.skip ?_
        change Run _ _ _ _ _
        cases h4
      · refine Run.condF (b := decide ((0 : Int) < (List.length a0.2.2.2.1 : Int))) (by kernel_rfl) hc2 ?_
        refine Run.exit ?_
        refine tE ?_
        refine lE ?_
        refine bE ?_
        obtain rfl := Option.some.inj h4
        exact jQ.mk [.keep [2] [18, 27]] (by kernel_rfl) rfl
  · rintro _ rfl
    refine Run.sreg tied [] [] [] [] (by kernel_rfl) trivial ?_
    refine Run.ret ?_
    obtain rfl := Option.some.inj h
    exact (fQ_fin [.keep [2, 3] [18, 27]] [none, some (.int .i64)] (msk 100 [27]) (by kernel_rfl)).1

/-- (testamur.rules.graph).addable -/
def f83_s1 (a0 : Int) (a1 : List (Int × Unit)) : Option (Int × (List (Int × Unit))) :=
  some (a0, a1)

set_option maxRecDepth 100000 in
theorem x83_s1 (a0 : Int) (a1 : List (Int × Unit)) (r : Int × (List (Int × Unit))) (h : f83_s1 a0 a1 = some r) : Fc Tryz.prog gl 83 [(.cons (.val (.int .i64) a0) (.cons (.mp 0) .nil))] (hset (List.replicate 44 none) [(0, some (.map (.int .i64) (.opq .map) a1))]) (.ret (.func (.func 163) .nil (.cons (.ptr 17 []) .nil))) (outH 44 [(0, (.map (.int .i64) (.opq .map) r.2)), (17, (.var T196 (.cons (.val (.int .i64) r.1) (.cons (.mp 0) .nil))))]) := by
  refine Fc.of Tryz.call83 (FnEx.of_runF tied Tryz.func83 rfl rfl (σ0 := mkSt 4 44 [(0, (.cons (.val (.int .i64) a0) (.cons (.mp 0) .nil)))] [(0, some (.map (.int .i64) (.opq .map) a1))]) (by kernel_rfl) ?_)
  unfold f83_s1 at h
  refine Run.sreg tied [] [] [] [] (by kernel_rfl) trivial ?_
  refine Run.sreg tied [] [] [] [] (by kernel_rfl) trivial ?_
  refine Run.ret ?_
  obtain rfl := Option.some.inj h
  exact (fQ_fin [.keep [2] [0, 17]] [none] (msk 44 [0, 17]) (by kernel_rfl)).1

/-- (testamur.rules.graph).users -/
def f164_s1_l1 (a0 : Int) (_a1 : List (Int × Unit)) : Nat → Option Unit
  | 0 => none
  | _n1 + 1 => if (decide ((0 : Int) < a0)) = true then none else (some ())

def f164_s1 (a0 : Int) (a1 : List (Int × Unit)) : Option ((List (List Int)) × (List (Int × Unit))) :=
  if 0 ≤ a0 ∧ a0 ≤ a0 ∧ a0 * (24 : Int) ≤ (maxB : Int) then (Option.bind (f164_s1_l1 a0 a1 (big)) fun (_o2 : Unit) => some (List.replicate (Int.toNat a0) (Ty.dflt (.slice 8 (.int .i64))), a1)) else none

set_option maxRecDepth 100000 in
theorem x164_s1 (a0 : Int) (a1 : List (Int × Unit)) (r : (List (List Int)) × (List (Int × Unit))) (h : f164_s1 a0 a1 = some r) : Fc Tryz.prog gl 164 [(.cons (.val (.int .i64) a0) (.cons (.mp 0) .nil))] (hset (List.replicate 75 none) [(0, some (.map (.int .i64) (.opq .map) a1))]) (.ret (.val (.slice 24 (.slice 8 (.int .i64))) r.1)) (outH 75 [(0, (.map (.int .i64) (.opq .map) r.2))]) := by
  refine Fc.of Tryz.call164 (FnEx.of_runF tied Tryz.func164 rfl rfl (σ0 := mkSt 35 75 [(0, (.cons (.val (.int .i64) a0) (.cons (.mp 0) .nil)))] [(0, some (.map (.int .i64) (.opq .map) a1))]) (by kernel_rfl) ?_)
  unfold f164_s1 at h
  refine Run.sreg tied [] [] [] [] (by kernel_rfl) trivial ?_
  obtain ⟨hv1, h⟩ := ite_none h
  refine Run.sreg tied [] [] [] [0 ≤ a0, a0 ≤ a0, a0 * (24 : Int) ≤ (maxB : Int)] (by kernel_rfl) ⟨hv1.1, hv1.2.1, hv1.2.2, trivial⟩ ?_
  obtain ⟨o2, h1, h⟩ := bind_some h
  refine Run.seqJ (fun σ' => σ' = mkSt 35 75 [(3, (.own 24))] [(0, some (.map (.int .i64) (.opq .map) a1)), (24, some (.row 30 24 (.slice 8 (.int .i64)) (List.replicate (Int.toNat a0) (Ty.dflt (.slice 8 (.int .i64))))))]) ?_ ?_
  · refine Run.sreg tied [] [] [] [] (by kernel_rfl) trivial ?_
    refine Run.block ?_
    refine Run.loopJ (fun n σ => f164_s1_l1 a0 a1 n = some o2 ∧ σ = mkSt 35 75 [(1, (.ptr 17 [])), (3, (.own 24)), (10, (.val (.int .i64) a0)), (11, (.val (.int .i64) (0 : Int)))] [(0, some (.map (.int .i64) (.opq .map) a1)), (17, some (.var T196 (.cons (.val (.int .i64) a0) (.cons (.mp 0) .nil)))), (24, some (.row 30 24 (.slice 8 (.int .i64)) (List.replicate (Int.toNat a0) (Ty.dflt (.slice 8 (.int .i64))))))]) [.keep [1, 3, 10, 11] [0, 17, 24]] (by kernel_rfl) ⟨h1, rfl⟩ ?_
    rintro n1 _ ⟨h4, rfl⟩
    cases n1 with
    | zero => exact absurd h4 (by simp [f164_s1_l1])
    | succ n1 =>
      unfold f164_s1_l1 at h4
      refine Run.sreg tied [] [] [] [] (by kernel_rfl) trivial ?_
      refine Run.seq ?_
      rcases ite_some h4 with ⟨hc3, h4⟩ | ⟨hc3, h4⟩
      · refine Run.condT (b := decide ((0 : Int) < a0)) (by kernel_rfl) hc3 ?_
        refine Run.skip ?_
        change Run _ _ _ _ _
        cases h4
      · refine Run.condF (b := decide ((0 : Int) < a0)) (by kernel_rfl) hc3 ?_
        refine Run.exit ?_
        refine tE ?_
        refine lE ?_
        refine bE ?_
        obtain rfl := Option.some.inj h4
        exact jQ.mk [.keep [3] [0, 24]] (by kernel_rfl) rfl
  · rintro _ rfl
    refine Run.sreg tied [] [] [] [] (by kernel_rfl) trivial ?_
    refine Run.ret ?_
    obtain rfl := Option.some.inj h
    exact (fQ_fin [.freeze 24 (.slice 24 (.slice 8 (.int .i64))), .keep [2] [0]] [some (.slice 24 (.slice 8 (.int .i64)))] (msk 75 [0]) (by kernel_rfl)).1

end Go.Proofs.YthiphdachidhlaaGreatDoor
