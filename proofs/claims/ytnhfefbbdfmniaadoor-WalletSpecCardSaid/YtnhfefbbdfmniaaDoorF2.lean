/- Made by program (dec.py): walks -/
import Derived.Test.YtnhfefbbdfmniaaDoorF1
namespace Go.Proofs.YtnhfefbbdfmniaaDoor
open Go.Abs

/-- testamur.wallet.find[testamur.api.Held] -/
def f28_s1_l1 (a0 : List D55) (a1 : Int) : Nat → Int → (List Int) → Option (List Int)
  | 0, _, _ => none
  | n1 + 1, u1_0, u1_1 => if (decide (u1_0 < (List.length a0 : Int))) = true then (Option.bind (if 0 ≤ u1_0 ∧ u1_0 < (List.length a0 : Int) then (Option.bind (f29_s1 (nth T55 a0 u1_0) a1) fun y4 => if y4 = true then (if (List.length u1_1 + List.length [u1_0]) * 8 ≤ maxB then (some (u1_1 ++ [u1_0])) else none) else (some u1_1)) else none) fun (o2 : List Int) => f28_s1_l1 a0 a1 n1 (w64 (u1_0 + (1 : Int))) o2) else (some u1_1)

def f28_s1 (a0 : List D55) (a1 : Int) : Option (List Int) :=
  Option.bind (f28_s1_l1 a0 a1 (List.length a0 + 1) (0 : Int) ([] : List Int)) fun (o1 : List Int) => some o1

set_option maxRecDepth 100000 in
theorem x28_s1 (a0 : List D55) (a1 : Int) (r : List Int) (h : f28_s1 a0 a1 = some r) : Fc Tryd.prog gl 28 [(.val (.slice 208 T55) a0), (.func (.func 29) .nil (.cons (.vptr (.int .i64) a1) .nil))] (hset (List.replicate 63 none) []) (.ret (.val (.slice 8 (.int .i64)) r)) (outH 63 []) := by
  refine Fc.of Tryd.call28 (FnEx.of_runF tied Tryd.func28 rfl rfl (σ0 := mkSt 23 63 [(0, (.val (.slice 208 T55) a0)), (1, (.func (.func 29) .nil (.cons (.vptr (.int .i64) a1) .nil)))] []) (by kernel_rfl) ?_)
  unfold f28_s1 at h
  refine Run.sreg tied [] [] [] [] (by kernel_rfl) trivial ?_
  obtain ⟨o1, h1, h⟩ := bind_some h
  refine Run.seqJ (fun σ' => σ' = mkSt 23 63 [(4, (.own 42))] [(42, some (.row 3 8 (.int .i64) o1))]) ?_ ?_
  · refine Run.sreg tied [] [] [] [] (by kernel_rfl) trivial ?_
    refine Run.block ?_
    refine Run.loopJ (fun n σ => ∃ (u1_0 : Int) (u1_1 : List Int), f28_s1_l1 a0 a1 n u1_0 u1_1 = some o1 ∧ σ = mkSt 23 63 [(1, (.func (.func 29) .nil (.cons (.vptr (.int .i64) a1) .nil))), (4, (.own 40)), (7, (.val (.slice 208 T55) a0)), (8, (.val (.int .i64) (List.length a0 : Int))), (9, (.val (.int .i64) u1_0))] [(40, some (.row 3 8 (.int .i64) u1_1))]) [.keep [1, 4, 7, 8, 9] [], .ownT 4 40 3 8 (.int .i64)] (by kernel_rfl) ⟨_, _, h1, rfl⟩ ?_
    rintro n1 _ ⟨u1_0, u1_1, h4, rfl⟩
    cases n1 with
    | zero => exact absurd h4 (by simp [f28_s1_l1])
    | succ n1 =>
      unfold f28_s1_l1 at h4
      refine Run.sreg tied [] [] [] [] (by kernel_rfl) trivial ?_
      refine Run.seq ?_
      rcases ite_some h4 with ⟨hc8, h4⟩ | ⟨hc8, h4⟩
      · refine Run.condT (b := decide (u1_0 < (List.length a0 : Int))) (by kernel_rfl) hc8 ?_
        refine Run.skip ?_
        change Run _ _ _ _ _
        obtain ⟨o2, h5, h4⟩ := bind_some h4
        refine Run.seqJ (fun σ' => σ' = mkSt 23 63 [(1, (.func (.func 29) .nil (.cons (.vptr (.int .i64) a1) .nil))), (4, (.own 41)), (7, (.val (.slice 208 T55) a0)), (8, (.val (.int .i64) (List.length a0 : Int))), (9, (.val (.int .i64) u1_0))] [(41, some (.row 3 8 (.int .i64) o2))]) ?_ ?_
        · refine Run.block ?_
          obtain ⟨hv3, h5⟩ := ite_none h5
          refine Run.sreg tied [] [] [] [0 ≤ u1_0, u1_0 < (List.length a0 : Int)] (by kernel_rfl) ⟨hv3.1, hv3.2, trivial⟩ ?_
          obtain ⟨y4, hy5, h5⟩ := bind_some h5
          refine Run.sreg tied [⟨(.val .bool y4), [], [], [], 53⟩] [] [] [Fc Tryd.prog gl 29 [(.val T55 (nth T55 a0 u1_0)), (.vptr (.int .i64) a1)] (hset (List.replicate 53 none) []) (.ret (.val .bool y4)) (outH 53 [])] (by kernel_rfl) ⟨x29_s1 _ _ _ hy5, trivial⟩ ?_
          rcases ite_some h5 with ⟨hc7, h5⟩ | ⟨hc7, h5⟩
          · refine Run.condT (b := y4) (by kernel_rfl) hc7 ?_
            obtain ⟨hv6, h5⟩ := ite_none h5
            refine Run.reg tied [] [] [] [(List.length u1_1 + List.length [u1_0]) * 8 ≤ maxB] (by kernel_rfl) ⟨hv6, trivial⟩ ?_
            refine bN ?_
            obtain rfl := Option.some.inj h5
            exact jQ.mk [.keep [1, 4, 7, 8, 9] [36], .ren 36 41] (by kernel_rfl) rfl
          · refine Run.condF (b := y4) (by kernel_rfl) hc7 ?_
            refine Run.skip ?_
            refine bN ?_
            obtain rfl := Option.some.inj h5
            exact jQ.mk [.keep [1, 4, 7, 8, 9] [40], .ren 40 41] (by kernel_rfl) rfl
        · rintro _ rfl
          refine Run.reg tied [] [] [] [] (by kernel_rfl) trivial ?_
          exact loopJ.mk [.keep [1, 4, 7, 8, 9] [41], .ren 41 40] (by kernel_rfl) ⟨_, _, h4, rfl⟩
      · refine Run.condF (b := decide (u1_0 < (List.length a0 : Int))) (by kernel_rfl) hc8 ?_
        refine Run.exit ?_
        refine tE ?_
        refine lE ?_
        refine bE ?_
        obtain rfl := Option.some.inj h4
        exact jQ.mk [.keep [4] [40], .ren 40 42] (by kernel_rfl) rfl
  · rintro _ rfl
    refine Run.sreg tied [] [] [] [] (by kernel_rfl) trivial ?_
    refine Run.ret ?_
    obtain rfl := Option.some.inj h
    exact (fQ_fin [.freeze 42 (.slice 8 (.int .i64))] [some (.slice 8 (.int .i64))] (msk 63 []) (by kernel_rfl)).1

/-- slices.Equal[[]int,int] -/
def f32_l1 (a0 : List Int) (a1 : List Int) : Nat → Int → Option (Ctl Unit Bool)
  | 0, _ => none
  | n1 + 1, u1_0 => if (decide (u1_0 < (List.length a0 : Int))) = true then (if 0 ≤ u1_0 ∧ u1_0 < (List.length a0 : Int) then (if u1_0 < (List.length a1 : Int) then (if (!decide ((nth (.int .i64) a0 u1_0) = (nth (.int .i64) a1 u1_0))) = true then (some (.ret false)) else (f32_l1 a0 a1 n1 (w64 (u1_0 + (1 : Int))))) else none) else none) else (some (.brk ()))

def f32 (a0 : List Int) (a1 : List Int) : Option Bool :=
  if (!decide ((List.length a0 : Int) = (List.length a1 : Int))) = true then (some false) else (Option.bind (f32_l1 a0 a1 (List.length a0 + 1) (0 : Int)) fun (o1 : Ctl Unit Bool) => match o1 with | .brk _v6 => (some true) | .ret r7 => (some r7))

set_option maxRecDepth 100000 in
theorem x32 (a0 : List Int) (a1 : List Int) (r : Bool) (h : f32 a0 a1 = some r) : Fc Tryd.prog gl 32 [(.val (.slice 8 (.int .i64)) a0), (.val (.slice 8 (.int .i64)) a1)] (hset (List.replicate 66 none) []) (.ret (.val .bool r)) (outH 66 []) := by
  refine Fc.of Tryd.call32 (FnEx.of_runF tied Tryd.func32 rfl rfl (σ0 := mkSt 26 66 [(0, (.val (.slice 8 (.int .i64)) a0)), (1, (.val (.slice 8 (.int .i64)) a1))] []) (by kernel_rfl) ?_)
  unfold f32 at h
  refine Run.sreg tied [] [] [] [] (by kernel_rfl) trivial ?_
  refine Run.seq ?_
  refine Run.sreg tied [] [] [] [] (by kernel_rfl) trivial ?_
  rcases ite_some h with ⟨hc8, h⟩ | ⟨hc8, h⟩
  · refine Run.condT (b := !decide ((List.length a0 : Int) = (List.length a1 : Int))) (by kernel_rfl) hc8 ?_
    refine Run.sreg tied [] [] [] [] (by kernel_rfl) trivial ?_
    refine Run.ret ?_
    obtain rfl := Option.some.inj h
    exact (fQ_fin [] [some .bool] (msk 66 []) (by kernel_rfl)).1
  · refine Run.condF (b := !decide ((List.length a0 : Int) = (List.length a1 : Int))) (by kernel_rfl) hc8 ?_
    refine Run.skip ?_
    change Run _ _ _ _ _
    obtain ⟨o1, h1, h⟩ := bind_some h
    refine Run.seqJ (fun σ' => ∃ v6, o1 = .brk v6 ∧ σ' = mkSt 26 66 [] []) ?_ ?_
    · refine Run.sreg tied [] [] [] [] (by kernel_rfl) trivial ?_
      refine Run.block ?_
      refine Run.loopJ (fun n σ => ∃ (u1_0 : Int), f32_l1 a0 a1 n u1_0 = some o1 ∧ σ = mkSt 26 66 [(0, (.val (.slice 8 (.int .i64)) a0)), (1, (.val (.slice 8 (.int .i64)) a1)), (12, (.val (.int .i64) (List.length a0 : Int))), (13, (.val (.int .i64) u1_0))] []) [.keep [0, 1, 12, 13] []] (by kernel_rfl) ⟨_, h1, rfl⟩ ?_
      rintro n1 _ ⟨u1_0, h3, rfl⟩
      cases n1 with
      | zero => exact absurd h3 (by simp [f32_l1])
      | succ n1 =>
        unfold f32_l1 at h3
        refine Run.sreg tied [] [] [] [] (by kernel_rfl) trivial ?_
        refine Run.seq ?_
        rcases ite_some h3 with ⟨hc5, h3⟩ | ⟨hc5, h3⟩
        · refine Run.condT (b := decide (u1_0 < (List.length a0 : Int))) (by kernel_rfl) hc5 ?_
          refine Run.skip ?_
          change Run _ _ _ _ _
          refine Run.seq ?_
          refine Run.block ?_
          refine Run.sreg tied [] [] [] [] (by kernel_rfl) trivial ?_
          obtain ⟨hv2, h3⟩ := ite_none h3
          obtain ⟨hv3, h3⟩ := ite_none h3
          refine Run.sregA tied [] [] [] [0 ≤ u1_0, u1_0 < (List.length a0 : Int), 0 ≤ u1_0, u1_0 < (List.length a1 : Int)] (by kernel_rfl) ⟨hv2.1, hv2.2, hv2.1, hv3, trivial⟩ ?_
          rcases ite_some h3 with ⟨hc4, h3⟩ | ⟨hc4, h3⟩
          · refine Run.condT (b := !decide ((nth (.int .i64) a0 u1_0) = (nth (.int .i64) a1 u1_0))) (by kernel_rfl) hc4 ?_
            refine Run.sreg tied [] [] [] [] (by kernel_rfl) trivial ?_
            refine Run.ret ?_
            obtain rfl := Option.some.inj h3
            dsimp only at h
            obtain rfl := Option.some.inj h
            exact (fQ_fin [] [some .bool] (msk 66 []) (by kernel_rfl)).1
          · refine Run.condF (b := !decide ((nth (.int .i64) a0 u1_0) = (nth (.int .i64) a1 u1_0))) (by kernel_rfl) hc4 ?_
            refine Run.skip ?_
            refine bN ?_
            change Run _ _ _ _ _
            refine Run.reg tied [] [] [] [] (by kernel_rfl) trivial ?_
            exact loopJ.mk [.keep [0, 1, 12, 13] []] (by kernel_rfl) ⟨_, h3, rfl⟩
        · refine Run.condF (b := decide (u1_0 < (List.length a0 : Int))) (by kernel_rfl) hc5 ?_
          refine Run.exit ?_
          refine tE ?_
          refine lE ?_
          refine bE ?_
          obtain rfl := Option.some.inj h3
          exact jQ.mk [.keep [] []] (by kernel_rfl) ⟨_, rfl, rfl⟩
    · rintro _ ⟨v6, rfl, rfl⟩
      dsimp only at h
      refine Run.sreg tied [] [] [] [] (by kernel_rfl) trivial ?_
      refine Run.ret ?_
      obtain rfl := Option.some.inj h
      exact (fQ_fin [] [some .bool] (msk 66 []) (by kernel_rfl)).1

/-- testamur.wallet.Offers$2 -/
def f31_s1 (a0 : D57) (a1 : D48) : Option Bool :=
  Option.bind (if (decide (a0.1 = a1.2.2.1)) = true then (Option.bind (f32 a0.2.2.1 a1.2.2.2.2.2.1) fun y3 => some y3) else (some false)) fun (o1 : Bool) => some o1

set_option maxRecDepth 100000 in
theorem x31_s1 (a0 : D57) (a1 : D48) (r : Bool) (h : f31_s1 a0 a1 = some r) : Fc Tryd.prog gl 31 [(.val T57 a0), (.vptr T48 a1)] (hset (List.replicate 56 none) []) (.ret (.val .bool r)) (outH 56 []) := by
  refine Fc.of Tryd.call31 (FnEx.of_runF tied Tryd.func31 rfl rfl (σ0 := mkSt 16 56 [(0, (.val T57 a0)), (1, (.vptr T48 a1))] []) (by kernel_rfl) ?_)
  unfold f31_s1 at h
  refine Run.sreg tied [] [] [] [] (by kernel_rfl) trivial ?_
  obtain ⟨o1, h1, h⟩ := bind_some h
  refine Run.seqJ (fun σ' => σ' = mkSt 16 56 [(3, (.val .bool o1))] []) ?_ ?_
  · rcases ite_some h1 with ⟨hg2, h1⟩ | ⟨hg2, h1⟩
    · obtain ⟨y3, hy4, h1⟩ := bind_some h1
      refine Run.reg tied [⟨(.val .bool y3), [], [], [], 66⟩] [true] [] [(decide (a0.1 = a1.2.2.1)) = true, Fc Tryd.prog gl 32 [(.val (.slice 8 (.int .i64)) a0.2.2.1), (.val (.slice 8 (.int .i64)) a1.2.2.2.2.2.1)] (hset (List.replicate 66 none) []) (.ret (.val .bool y3)) (outH 66 [])] (by kernel_rfl) ⟨hg2, x32 _ _ _ hy4, trivial⟩ ?_
      obtain rfl := Option.some.inj h1
      exact jQ.mk [.keep [3] []] (by kernel_rfl) rfl
    · refine Run.reg tied [] [false] [] [(decide (a0.1 = a1.2.2.1)) = false] (by kernel_rfl) ⟨hg2, trivial⟩ ?_
      obtain rfl := Option.some.inj h1
      exact jQ.mk [.keep [3] []] (by kernel_rfl) rfl
  · rintro _ rfl
    refine Run.ret ?_
    obtain rfl := Option.some.inj h
    exact (fQ_fin [] [some .bool] (msk 56 []) (by kernel_rfl)).1

/-- slices.IndexFunc[[]testamur.api.Claims,testamur.api.Claims] -/
def f46_s1_l1 (a0 : List D57) (a1 : D48) : Nat → Int → Option (Ctl Unit Int)
  | 0, _ => none
  | n1 + 1, u1_0 => if (decide (u1_0 < (List.length a0 : Int))) = true then (if 0 ≤ u1_0 ∧ u1_0 < (List.length a0 : Int) then (Option.bind (f31_s1 (nth T57 a0 u1_0) a1) fun y3 => if y3 = true then (some (.ret u1_0)) else (f46_s1_l1 a0 a1 n1 (w64 (u1_0 + (1 : Int))))) else none) else (some (.brk ()))

def f46_s1 (a0 : List D57) (a1 : D48) : Option Int :=
  Option.bind (f46_s1_l1 a0 a1 (List.length a0 + 1) (0 : Int)) fun (o1 : Ctl Unit Int) => match o1 with | .brk _v7 => (some (-1 : Int)) | .ret r8 => (some r8)

set_option maxRecDepth 100000 in
theorem x46_s1 (a0 : List D57) (a1 : D48) (r : Int) (h : f46_s1 a0 a1 = some r) : Fc Tryd.prog gl 46 [(.val (.slice 56 T57) a0), (.func (.func 31) .nil (.cons (.vptr T48 a1) .nil))] (hset (List.replicate 59 none) []) (.ret (.val (.int .i64) r)) (outH 59 []) := by
  refine Fc.of Tryd.call46 (FnEx.of_runF tied Tryd.func46 rfl rfl (σ0 := mkSt 19 59 [(0, (.val (.slice 56 T57) a0)), (1, (.func (.func 31) .nil (.cons (.vptr T48 a1) .nil)))] []) (by kernel_rfl) ?_)
  unfold f46_s1 at h
  refine Run.sreg tied [] [] [] [] (by kernel_rfl) trivial ?_
  obtain ⟨o1, h1, h⟩ := bind_some h
  refine Run.seqJ (fun σ' => ∃ v7, o1 = .brk v7 ∧ σ' = mkSt 19 59 [] []) ?_ ?_
  · refine Run.sreg tied [] [] [] [] (by kernel_rfl) trivial ?_
    refine Run.block ?_
    refine Run.loopJ (fun n σ => ∃ (u1_0 : Int), f46_s1_l1 a0 a1 n u1_0 = some o1 ∧ σ = mkSt 19 59 [(0, (.val (.slice 56 T57) a0)), (1, (.func (.func 31) .nil (.cons (.vptr T48 a1) .nil))), (7, (.val (.int .i64) (List.length a0 : Int))), (8, (.val (.int .i64) u1_0))] []) [.keep [0, 1, 7, 8] []] (by kernel_rfl) ⟨_, h1, rfl⟩ ?_
    rintro n1 _ ⟨u1_0, h3, rfl⟩
    cases n1 with
    | zero => exact absurd h3 (by simp [f46_s1_l1])
    | succ n1 =>
      unfold f46_s1_l1 at h3
      refine Run.sreg tied [] [] [] [] (by kernel_rfl) trivial ?_
      refine Run.seq ?_
      rcases ite_some h3 with ⟨hc6, h3⟩ | ⟨hc6, h3⟩
      · refine Run.condT (b := decide (u1_0 < (List.length a0 : Int))) (by kernel_rfl) hc6 ?_
        refine Run.skip ?_
        change Run _ _ _ _ _
        refine Run.seq ?_
        refine Run.block ?_
        refine Run.sreg tied [] [] [] [] (by kernel_rfl) trivial ?_
        obtain ⟨hv2, h3⟩ := ite_none h3
        obtain ⟨y3, hy4, h3⟩ := bind_some h3
        refine Run.sreg tied [⟨(.val .bool y3), [], [], [], 56⟩] [] [] [0 ≤ u1_0, u1_0 < (List.length a0 : Int), Fc Tryd.prog gl 31 [(.val T57 (nth T57 a0 u1_0)), (.vptr T48 a1)] (hset (List.replicate 56 none) []) (.ret (.val .bool y3)) (outH 56 [])] (by kernel_rfl) ⟨hv2.1, hv2.2, x31_s1 _ _ _ hy4, trivial⟩ ?_
        rcases ite_some h3 with ⟨hc5, h3⟩ | ⟨hc5, h3⟩
        · refine Run.condT (b := y3) (by kernel_rfl) hc5 ?_
          refine Run.sreg tied [] [] [] [] (by kernel_rfl) trivial ?_
          refine Run.ret ?_
          obtain rfl := Option.some.inj h3
          dsimp only at h
          obtain rfl := Option.some.inj h
          exact (fQ_fin [] [some (.int .i64)] (msk 59 []) (by kernel_rfl)).1
        · refine Run.condF (b := y3) (by kernel_rfl) hc5 ?_
          refine Run.skip ?_
          refine bN ?_
          change Run _ _ _ _ _
          refine Run.reg tied [] [] [] [] (by kernel_rfl) trivial ?_
          exact loopJ.mk [.keep [0, 1, 7, 8] []] (by kernel_rfl) ⟨_, h3, rfl⟩
      · refine Run.condF (b := decide (u1_0 < (List.length a0 : Int))) (by kernel_rfl) hc6 ?_
        refine Run.exit ?_
        refine tE ?_
        refine lE ?_
        refine bE ?_
        obtain rfl := Option.some.inj h3
        exact jQ.mk [.keep [] []] (by kernel_rfl) ⟨_, rfl, rfl⟩
  · rintro _ ⟨v7, rfl, rfl⟩
    dsimp only at h
    refine Run.sreg tied [] [] [] [] (by kernel_rfl) trivial ?_
    refine Run.ret ?_
    obtain rfl := Option.some.inj h
    exact (fQ_fin [] [some (.int .i64)] (msk 59 []) (by kernel_rfl)).1

/-- slices.ContainsFunc[[]testamur.api.Claims,testamur.api.Claims] -/
def f30_s1 (a0 : List D57) (a1 : D48) : Option Bool :=
  Option.bind (f46_s1 a0 a1) fun y1 => some (decide ((0 : Int) ≤ y1))

set_option maxRecDepth 100000 in
theorem x30_s1 (a0 : List D57) (a1 : D48) (r : Bool) (h : f30_s1 a0 a1 = some r) : Fc Tryd.prog gl 30 [(.val (.slice 56 T57) a0), (.func (.func 31) .nil (.cons (.vptr T48 a1) .nil))] (hset (List.replicate 49 none) []) (.ret (.val .bool r)) (outH 49 []) := by
  refine Fc.of Tryd.call30 (FnEx.of_runF tied Tryd.func30 rfl rfl (σ0 := mkSt 9 49 [(0, (.val (.slice 56 T57) a0)), (1, (.func (.func 31) .nil (.cons (.vptr T48 a1) .nil)))] []) (by kernel_rfl) ?_)
  unfold f30_s1 at h
  refine Run.sreg tied [] [] [] [] (by kernel_rfl) trivial ?_
  obtain ⟨y1, hy2, h⟩ := bind_some h
  refine Run.sreg tied [⟨(.val (.int .i64) y1), [], [], [], 59⟩] [] [] [Fc Tryd.prog gl 46 [(.val (.slice 56 T57) a0), (.func (.func 31) .nil (.cons (.vptr T48 a1) .nil))] (hset (List.replicate 59 none) []) (.ret (.val (.int .i64) y1)) (outH 59 [])] (by kernel_rfl) ⟨x46_s1 _ _ _ hy2, trivial⟩ ?_
  refine Run.ret ?_
  obtain rfl := Option.some.inj h
  exact (fQ_fin [] [some .bool] (msk 49 []) (by kernel_rfl)).1

/-- slices.Clone[[]int,int] -/
def f33 (a0 : List Int) : Option (List Int) := if (List.length ([] : List Int) + List.length a0) * 8 ≤ maxB then some a0 else none

set_option maxRecDepth 100000 in
theorem x33 (a0 : List Int) (r : List Int) (h : f33 a0 = some r) : Fc Tryd.prog gl 33 [(.val (.slice 8 (.int .i64)) a0)] (hset (List.replicate 48 none) []) (.ret (.val (.slice 8 (.int .i64)) r)) (outH 48 []) := by
  refine Fc.of Tryd.call33 (FnEx.of_runF tied Tryd.func33 rfl rfl (σ0 := mkSt 8 48 [(0, (.val (.slice 8 (.int .i64)) a0))] []) (by kernel_rfl) ?_)
  unfold f33 at h
  obtain ⟨hv, h⟩ := ite_none h
  obtain rfl := Option.some.inj h
  refine Run.sreg tied [] [] [] [] (by kernel_rfl) trivial ?_
  refine Run.seq ?_
  refine Run.sregNil (.tmp 0) 3 4 31 31 3 8 (.int .i64) a0 rfl rfl rfl rfl rfl rfl (by kernel_rfl) fact4 rfl ?_
  intro b hb
  cases b with
  | true =>
    have hx := hb rfl
    subst hx
    refine Run.condT (b := true) (by kernel_rfl) rfl ?_
    refine Run.sreg tied [] [] [] [] (by kernel_rfl) trivial ?_
    refine Run.ret ?_
    exact (fQ_fin [] [some (.slice 8 (.int .i64))] (msk 48 []) (by kernel_rfl)).1
  | false =>
    refine Run.condF (b := false) (by kernel_rfl) rfl ?_
    refine Run.skip ?_
    change Run _ _ _ _ _
    refine Run.sreg tied [] [] [] [(List.length ([] : List Int) + List.length a0) * 8 ≤ maxB] (by kernel_rfl) ⟨hv, trivial⟩ ?_
    refine Run.ret ?_
    exact (fQ_fin [.freeze 23 (.slice 8 (.int .i64))] [some (.slice 8 (.int .i64))] (msk 48 []) (by kernel_rfl)).1

/-- testamur.wallet.Offers -/
def f11_l2 (a0 : D23) (y1 : List Int) (u1_0 : Int) (u1_1 : List D57) (u1_2 : List Int) (y9 : List Int) : Nat → Int → (List Int) → Option (List Int)
  | 0, _, _ => none
  | n2 + 1, u2_0, u2_1 => if (decide (u2_0 < (List.length ((((((((nth T55 a0.2.2.1 (nth (.int .i64) y1 u1_0)).1).2).2).2).2).2).1) : Int))) = true then (if (List.length u2_1 + List.length [u2_0]) * 8 ≤ maxB then (f11_l2 a0 y1 u1_0 u1_1 u1_2 y9 n2 (w64 (u2_0 + (1 : Int))) (u2_1 ++ [u2_0])) else none) else (some u2_1)

def f11_l1 (a0 : D23) (y1 : List Int) : Nat → Int → (List D57) → (List Int) → Option ((List D57) × (List Int))
  | 0, _, _, _ => none
  | n1 + 1, u1_0, u1_1, u1_2 => if (decide (u1_0 < (List.length y1 : Int))) = true then (Option.bind (if 0 ≤ u1_0 ∧ u1_0 < (List.length y1 : Int) then (if 0 ≤ (nth (.int .i64) y1 u1_0) ∧ (nth (.int .i64) y1 u1_0) < (List.length a0.2.2.1 : Int) then (if (decide ((List.length u1_1 : Int) = (8 : Int))) = true then (some (.ret ())) else (Option.bind (f30_s1 u1_1 ((nth T55 a0.2.2.1 (nth (.int .i64) y1 u1_0)).1)) fun y7 => if y7 = true then (some (.brk (u1_1, u1_2))) else (Option.bind (f33 ((((((((nth T55 a0.2.2.1 (nth (.int .i64) y1 u1_0)).1).2).2).2).2).2).1)) fun y9 => Option.bind (f11_l2 a0 y1 u1_0 u1_1 u1_2 y9 (List.length ((((((((nth T55 a0.2.2.1 (nth (.int .i64) y1 u1_0)).1).2).2).2).2).2).1) + 1) (0 : Int) ([] : List Int)) fun (o11 : List Int) => if (List.length u1_1 + List.length [(((((nth T55 a0.2.2.1 (nth (.int .i64) y1 u1_0)).1).2).2).1, (o11, (y9, ())))]) * 56 ≤ maxB then (if (List.length u1_2 + List.length [nth (.int .i64) y1 u1_0]) * 8 ≤ maxB then (some (.brk (u1_1 ++ [(((((nth T55 a0.2.2.1 (nth (.int .i64) y1 u1_0)).1).2).2).1, (o11, (y9, ())))], u1_2 ++ [nth (.int .i64) y1 u1_0]))) else none) else none))) else none) else none) fun (o4 : Ctl ((List D57) × (List Int)) Unit) => match o4 with | .brk v18 => (f11_l1 a0 y1 n1 (w64 (u1_0 + (1 : Int))) v18.1 v18.2) | .ret _v19 => (some (u1_1, u1_2))) else (some (u1_1, u1_2))

def f11 (a0 : D23) (a1 : Int) : Option ((List D57) × (List Int)) :=
  Option.bind (f28_s1 a0.2.2.1 a1) fun y1 => Option.bind (f11_l1 a0 y1 (List.length y1 + 1) (0 : Int) ([] : List D57) ([] : List Int)) fun (o3 : (List D57) × (List Int)) => some (o3.1, o3.2)

set_option maxRecDepth 100000 in
theorem x11 (a0 : D23) (a1 : Int) (r : (List D57) × (List Int)) (h : f11 a0 a1 = some r) : Fc Tryd.prog gl 11 [(.val T23 a0), (.val (.int .i64) a1)] (hset (List.replicate 104 none) []) (.ret (.tup (.cons (.val (.slice 56 T57) r.1) (.cons (.val (.slice 8 (.int .i64)) r.2) .nil)))) (outH 104 []) := by
  refine Fc.of Tryd.call11 (FnEx.of_runF tied Tryd.func11 rfl rfl (σ0 := mkSt 64 104 [(0, (.val T23 a0)), (1, (.val (.int .i64) a1))] []) (by kernel_rfl) ?_)
  unfold f11 at h
  refine Run.sreg tied [] [] [] [] (by kernel_rfl) trivial ?_
  refine Run.gh [.freeze 19 (.slice 1 (.int .u8))] (σ' := mkSt 64 104 [(0, (.val T23 a0)), (1, (.val (.int .i64) a1)), (2, (.ptr 18 [])), (3, (.vptr (.int .i64) a1)), (4, .nils), (5, .nils)] [(18, some (.var T23 (.val T23 a0)))]) (by kernel_rfl) ?_
  obtain ⟨y1, hy2, h⟩ := bind_some h
  refine Run.sreg tied [⟨(.val (.slice 8 (.int .i64)) y1), [], [], [], 63⟩] [] [] [Fc Tryd.prog gl 28 [(.val (.slice 208 T55) a0.2.2.1), (.func (.func 29) .nil (.cons (.vptr (.int .i64) a1) .nil))] (hset (List.replicate 63 none) []) (.ret (.val (.slice 8 (.int .i64)) y1)) (outH 63 [])] (by kernel_rfl) ⟨x28_s1 _ _ _ hy2, trivial⟩ ?_
  obtain ⟨o3, h1, h⟩ := bind_some h
  refine Run.seqJ (fun σ' => σ' = mkSt 64 104 [(4, (.own 91)), (5, (.own 92))] [(91, some (.row 57 56 T57 o3.1)), (92, some (.row 3 8 (.int .i64) o3.2))]) ?_ ?_
  · refine Run.sreg tied [] [] [] [] (by kernel_rfl) trivial ?_
    refine Run.block ?_
    refine Run.loopJ (fun n σ => ∃ (u1_0 : Int) (u1_1 : List D57) (u1_2 : List Int), f11_l1 a0 y1 n u1_0 u1_1 u1_2 = some o3 ∧ σ = mkSt 64 104 [(2, (.ptr 18 [])), (4, (.own 85)), (5, (.own 86)), (16, (.val (.slice 8 (.int .i64)) y1)), (17, (.val (.int .i64) (List.length y1 : Int))), (18, (.val (.int .i64) u1_0))] [(18, some (.var T23 (.val T23 a0))), (85, some (.row 57 56 T57 u1_1)), (86, some (.row 3 8 (.int .i64) u1_2))]) [.keep [2, 4, 5, 16, 17, 18] [18], .ownT 4 85 57 56 T57, .ownT 5 86 3 8 (.int .i64)] (by kernel_rfl) ⟨_, _, _, h1, rfl⟩ ?_
    rintro n1 _ ⟨u1_0, u1_1, u1_2, h10, rfl⟩
    cases n1 with
    | zero => exact absurd h10 (by simp [f11_l1])
    | succ n1 =>
      unfold f11_l1 at h10
      refine Run.sreg tied [] [] [] [] (by kernel_rfl) trivial ?_
      refine Run.seq ?_
      rcases ite_some h10 with ⟨hc20, h10⟩ | ⟨hc20, h10⟩
      · refine Run.condT (b := decide (u1_0 < (List.length y1 : Int))) (by kernel_rfl) hc20 ?_
        refine Run.skip ?_
        change Run _ _ _ _ _
        obtain ⟨o4, h11, h10⟩ := bind_some h10
        refine Run.seqX (fun σ' => ∃ v18, o4 = .brk v18 ∧ σ' = mkSt 64 104 [(2, (.ptr 18 [])), (4, (.own 88)), (5, (.own 89)), (16, (.val (.slice 8 (.int .i64)) y1)), (17, (.val (.int .i64) (List.length y1 : Int))), (18, (.val (.int .i64) u1_0))] [(18, some (.var T23 (.val T23 a0))), (88, some (.row 57 56 T57 v18.1)), (89, some (.row 3 8 (.int .i64) v18.2))]) (fun i σ' => (i = 0 ∧ ∃ v19, o4 = .ret v19 ∧ σ' = mkSt 64 104 [(4, (.own 85)), (5, (.own 86))] [(85, some (.row 57 56 T57 u1_1)), (86, some (.row 3 8 (.int .i64) u1_2))])) (Cl.loop (Cl.blk (Cl.j Cl.f))) ?_ ?_ ?_
        · refine Run.block ?_
          obtain ⟨hv5, h11⟩ := ite_none h11
          refine Run.sreg tied [] [] [] [0 ≤ u1_0, u1_0 < (List.length y1 : Int)] (by kernel_rfl) ⟨hv5.1, hv5.2, trivial⟩ ?_
          obtain ⟨hv6, h11⟩ := ite_none h11
          refine Run.sreg tied [] [] [] [0 ≤ (nth (.int .i64) y1 u1_0), (nth (.int .i64) y1 u1_0) < (List.length a0.2.2.1 : Int)] (by kernel_rfl) ⟨hv6.1, hv6.2, trivial⟩ ?_
          refine Run.seq ?_
          refine Run.sreg tied [] [] [] [] (by kernel_rfl) trivial ?_
          rcases ite_some h11 with ⟨hc17, h11⟩ | ⟨hc17, h11⟩
          · refine Run.condT (b := decide ((List.length u1_1 : Int) = (8 : Int))) (by kernel_rfl) hc17 ?_
            refine Run.exit ?_
            refine tE ?_
            refine bO rfl ?_
            obtain rfl := Option.some.inj h11
            exact jxQ.ex [.keep [4, 5] [85, 86]] (by kernel_rfl) ⟨rfl, _, rfl, rfl⟩
          · refine Run.condF (b := decide ((List.length u1_1 : Int) = (8 : Int))) (by kernel_rfl) hc17 ?_
            refine Run.skip ?_
            change Run _ _ _ _ _
            refine Run.seq ?_
            obtain ⟨y7, hy8, h11⟩ := bind_some h11
            refine Run.sreg tied [⟨(.val .bool y7), [], [], [], 49⟩] [] [] [Fc Tryd.prog gl 30 [(.val (.slice 56 T57) u1_1), (.func (.func 31) .nil (.cons (.vptr T48 ((nth T55 a0.2.2.1 (nth (.int .i64) y1 u1_0)).1)) .nil))] (hset (List.replicate 49 none) []) (.ret (.val .bool y7)) (outH 49 [])] (by kernel_rfl) ⟨x30_s1 _ _ _ hy8, trivial⟩ ?_
            rcases ite_some h11 with ⟨hc16, h11⟩ | ⟨hc16, h11⟩
            · refine Run.condT (b := y7) (by kernel_rfl) hc16 ?_
              refine Run.exit ?_
              refine tE ?_
              refine bE ?_
              obtain rfl := Option.some.inj h11
              exact jxQ.mk [.keep [2, 4, 5, 16, 17, 18] [18, 85, 86], .ren 85 88, .ren 86 89] (by kernel_rfl) ⟨_, rfl, rfl⟩
            · refine Run.condF (b := y7) (by kernel_rfl) hc16 ?_
              refine Run.skip ?_
              change Run _ _ _ _ _
              obtain ⟨y9, hy10, h11⟩ := bind_some h11
              refine Run.sregA tied [⟨(.val (.slice 8 (.int .i64)) y9), [], [], [], 48⟩] [] [] [Fc Tryd.prog gl 33 [(.val (.slice 8 (.int .i64)) ((((((((nth T55 a0.2.2.1 (nth (.int .i64) y1 u1_0)).1).2).2).2).2).2).1))] (hset (List.replicate 48 none) []) (.ret (.val (.slice 8 (.int .i64)) y9)) (outH 48 [])] (by kernel_rfl) ⟨x33 _ _ hy10, trivial⟩ ?_
              obtain ⟨o11, h15, h11⟩ := bind_some h11
              refine Run.seqJ (fun σ' => σ' = mkSt 64 104 [(2, (.ptr 18 [])), (4, (.own 85)), (5, (.own 86)), (8, (.val (.int .i64) (nth (.int .i64) y1 u1_0))), (10, (.ptr 26 [])), (16, (.val (.slice 8 (.int .i64)) y1)), (17, (.val (.int .i64) (List.length y1 : Int))), (18, (.val (.int .i64) u1_0))] [(18, some (.var T23 (.val T23 a0))), (26, some (.var T57 (.cons (.val (.int .i64) (((((nth T55 a0.2.2.1 (nth (.int .i64) y1 u1_0)).1).2).2).1)) (.cons (.own 90) (.cons (.val (.slice 8 (.int .i64)) y9) .nil))))), (85, some (.row 57 56 T57 u1_1)), (86, some (.row 3 8 (.int .i64) u1_2)), (90, some (.row 3 8 (.int .i64) o11))]) ?_ ?_
              · refine Run.sreg tied [] [] [] [] (by kernel_rfl) trivial ?_
                refine Run.block ?_
                refine Run.loopJ (fun n σ => ∃ (u2_0 : Int) (u2_1 : List Int), f11_l2 a0 y1 u1_0 u1_1 u1_2 y9 n u2_0 u2_1 = some o11 ∧ σ = mkSt 64 104 [(2, (.ptr 18 [])), (4, (.own 85)), (5, (.own 86)), (8, (.val (.int .i64) (nth (.int .i64) y1 u1_0))), (10, (.ptr 26 [])), (16, (.val (.slice 8 (.int .i64)) y1)), (17, (.val (.int .i64) (List.length y1 : Int))), (18, (.val (.int .i64) u1_0)), (42, (.val (.int .i64) (List.length ((((((((nth T55 a0.2.2.1 (nth (.int .i64) y1 u1_0)).1).2).2).2).2).2).1) : Int))), (43, (.val (.int .i64) u2_0))] [(18, some (.var T23 (.val T23 a0))), (26, some (.var T57 (.cons (.val (.int .i64) (((((nth T55 a0.2.2.1 (nth (.int .i64) y1 u1_0)).1).2).2).1)) (.cons (.own 80) (.cons (.val (.slice 8 (.int .i64)) y9) .nil))))), (80, some (.row 3 8 (.int .i64) u2_1)), (85, some (.row 57 56 T57 u1_1)), (86, some (.row 3 8 (.int .i64) u1_2))]) [.keep [2, 4, 5, 8, 10, 16, 17, 18, 42, 43] [18, 26, 85, 86], .ownF 26 [.fld 1] 80 3 8 (.int .i64)] (by kernel_rfl) ⟨_, _, h15, rfl⟩ ?_
                rintro n2 _ ⟨u2_0, u2_1, h17, rfl⟩
                cases n2 with
                | zero => exact absurd h17 (by simp [f11_l2])
                | succ n2 =>
                  unfold f11_l2 at h17
                  refine Run.sreg tied [] [] [] [] (by kernel_rfl) trivial ?_
                  refine Run.seq ?_
                  rcases ite_some h17 with ⟨hc13, h17⟩ | ⟨hc13, h17⟩
                  · refine Run.condT (b := decide (u2_0 < (List.length ((((((((nth T55 a0.2.2.1 (nth (.int .i64) y1 u1_0)).1).2).2).2).2).2).1) : Int))) (by kernel_rfl) hc13 ?_
                    refine Run.skip ?_
                    change Run _ _ _ _ _
                    refine Run.seq ?_
                    refine Run.block ?_
                    refine Run.sreg tied [] [] [] [] (by kernel_rfl) trivial ?_
                    obtain ⟨hv12, h17⟩ := ite_none h17
                    refine Run.reg tied [] [] [] [(List.length u2_1 + List.length [u2_0]) * 8 ≤ maxB] (by kernel_rfl) ⟨hv12, trivial⟩ ?_
                    refine bN ?_
                    change Run _ _ _ _ _
                    refine Run.reg tied [] [] [] [] (by kernel_rfl) trivial ?_
                    exact loopJ.mk [.keep [2, 4, 5, 8, 10, 16, 17, 18, 42, 43] [18, 26, 66, 85, 86], .ren 66 80] (by kernel_rfl) ⟨_, _, h17, rfl⟩
                  · refine Run.condF (b := decide (u2_0 < (List.length ((((((((nth T55 a0.2.2.1 (nth (.int .i64) y1 u1_0)).1).2).2).2).2).2).1) : Int))) (by kernel_rfl) hc13 ?_
                    refine Run.exit ?_
                    refine tE ?_
                    refine lE ?_
                    refine bE ?_
                    obtain rfl := Option.some.inj h17
                    exact jQ.mk [.keep [2, 4, 5, 8, 10, 16, 17, 18] [18, 26, 80, 85, 86], .ren 80 90] (by kernel_rfl) rfl
              · rintro _ rfl
                refine Run.gh [.freeze 90 (.slice 8 (.int .i64))] (σ' := mkSt 64 104 [(2, (.ptr 18 [])), (4, (.own 85)), (5, (.own 86)), (8, (.val (.int .i64) (nth (.int .i64) y1 u1_0))), (10, (.ptr 26 [])), (16, (.val (.slice 8 (.int .i64)) y1)), (17, (.val (.int .i64) (List.length y1 : Int))), (18, (.val (.int .i64) u1_0))] [(18, some (.var T23 (.val T23 a0))), (26, some (.var T57 (.cons (.val (.int .i64) (((((nth T55 a0.2.2.1 (nth (.int .i64) y1 u1_0)).1).2).2).1)) (.cons (.val (.slice 8 (.int .i64)) o11) (.cons (.val (.slice 8 (.int .i64)) y9) .nil))))), (85, some (.row 57 56 T57 u1_1)), (86, some (.row 3 8 (.int .i64) u1_2))]) (by kernel_rfl) ?_
                obtain ⟨hv14, h11⟩ := ite_none h11
                obtain ⟨hv15, h11⟩ := ite_none h11
                refine Run.reg tied [] [] [] [(List.length u1_1 + List.length [(((((nth T55 a0.2.2.1 (nth (.int .i64) y1 u1_0)).1).2).2).1, (o11, (y9, ())))]) * 56 ≤ maxB, (List.length u1_2 + List.length [nth (.int .i64) y1 u1_0]) * 8 ≤ maxB] (by kernel_rfl) ⟨hv14, hv15, trivial⟩ ?_
                refine bN ?_
                obtain rfl := Option.some.inj h11
                exact jxQ.mk [.keep [2, 4, 5, 16, 17, 18] [18, 72, 76], .ren 72 88, .ren 76 89] (by kernel_rfl) ⟨_, rfl, rfl⟩
        · rintro _ _ ⟨rfl, v19, rfl, rfl⟩
          · dsimp only at h10
            refine lE ?_
            refine bE ?_
            obtain rfl := Option.some.inj h10
            exact jQ.mk [.keep [4, 5] [85, 86], .ren 85 91, .ren 86 92] (by kernel_rfl) rfl
        · rintro _ ⟨v18, rfl, rfl⟩
          dsimp only at h10
          refine Run.reg tied [] [] [] [] (by kernel_rfl) trivial ?_
          exact loopJ.mk [.keep [2, 4, 5, 16, 17, 18] [18, 88, 89], .ren 88 85, .ren 89 86] (by kernel_rfl) ⟨_, _, _, h10, rfl⟩
      · refine Run.condF (b := decide (u1_0 < (List.length y1 : Int))) (by kernel_rfl) hc20 ?_
        refine Run.exit ?_
        refine tE ?_
        refine lE ?_
        refine bE ?_
        obtain rfl := Option.some.inj h10
        exact jQ.mk [.keep [4, 5] [85, 86], .ren 85 91, .ren 86 92] (by kernel_rfl) rfl
  · rintro _ rfl
    refine Run.sreg tied [] [] [] [] (by kernel_rfl) trivial ?_
    refine Run.ret ?_
    obtain rfl := Option.some.inj h
    exact (fQ_fin [.freeze 91 (.slice 56 T57), .freeze 92 (.slice 8 (.int .i64))] [some (.slice 56 T57), some (.slice 8 (.int .i64))] (msk 104 []) (by kernel_rfl)).1

/-- testamur.wallet.isFresh -/
def f37_s1 (a0 : Int) : Option Int :=
  some a0

set_option maxRecDepth 100000 in
theorem x37_s1 (a0 : Int) (r : Int) (h : f37_s1 a0 = some r) : Fc Tryd.prog gl 37 [(.val (.int .i64) a0)] (hset (List.replicate 44 none) []) (.ret (.func (.func 48) .nil (.cons (.ptr 17 []) .nil))) (outH 44 [(17, (.var (.int .i64) (.val (.int .i64) r)))]) := by
  refine Fc.of Tryd.call37 (FnEx.of_runF tied Tryd.func37 rfl rfl (σ0 := mkSt 4 44 [(0, (.val (.int .i64) a0))] []) (by kernel_rfl) ?_)
  unfold f37_s1 at h
  refine Run.sreg tied [] [] [] [] (by kernel_rfl) trivial ?_
  refine Run.sreg tied [] [] [] [] (by kernel_rfl) trivial ?_
  refine Run.ret ?_
  obtain rfl := Option.some.inj h
  exact (fQ_fin [.keep [2] [17]] [none] (msk 44 [17]) (by kernel_rfl)).1

/-- testamur.wallet.isFresh$1 -/
def f48_s1 (a0 : D55) (a1 : Int) : Option Bool :=
  Option.bind (if (decide (a0.2.2.2.1 = (0 : Int))) = true then (some (decide (a0.1.2.2.1 = a1))) else (some false)) fun (o1 : Bool) => some o1

set_option maxRecDepth 100000 in
theorem x48_s1 (a0 : D55) (a1 : Int) (r : Bool) (h : f48_s1 a0 a1 = some r) : Fc Tryd.prog gl 48 [(.val T55 a0), (.vptr (.int .i64) a1)] (hset (List.replicate 54 none) []) (.ret (.val .bool r)) (outH 54 []) := by
  refine Fc.of Tryd.call48 (FnEx.of_runF tied Tryd.func48 rfl rfl (σ0 := mkSt 14 54 [(0, (.val T55 a0)), (1, (.vptr (.int .i64) a1))] []) (by kernel_rfl) ?_)
  unfold f48_s1 at h
  refine Run.sreg tied [] [] [] [] (by kernel_rfl) trivial ?_
  obtain ⟨o1, h1, h⟩ := bind_some h
  refine Run.seqJ (fun σ' => σ' = mkSt 14 54 [(3, (.val .bool o1))] []) ?_ ?_
  · rcases ite_some h1 with ⟨hg2, h1⟩ | ⟨hg2, h1⟩
    · refine Run.reg tied [] [true] [] [(decide (a0.2.2.2.1 = (0 : Int))) = true] (by kernel_rfl) ⟨hg2, trivial⟩ ?_
      obtain rfl := Option.some.inj h1
      exact jQ.mk [.keep [3] []] (by kernel_rfl) rfl
    · refine Run.reg tied [] [false] [] [(decide (a0.2.2.2.1 = (0 : Int))) = false] (by kernel_rfl) ⟨hg2, trivial⟩ ?_
      obtain rfl := Option.some.inj h1
      exact jQ.mk [.keep [3] []] (by kernel_rfl) rfl
  · rintro _ rfl
    refine Run.ret ?_
    obtain rfl := Option.some.inj h
    exact (fQ_fin [] [some .bool] (msk 54 []) (by kernel_rfl)).1

/-- testamur.wallet.find[testamur.api.Held] -/
def f28_s2_l1 (a0 : List D55) (a1 : Int) : Nat → Int → (List Int) → Option (List Int)
  | 0, _, _ => none
  | n1 + 1, u1_0, u1_1 => if (decide (u1_0 < (List.length a0 : Int))) = true then (Option.bind (if 0 ≤ u1_0 ∧ u1_0 < (List.length a0 : Int) then (Option.bind (f48_s1 (nth T55 a0 u1_0) a1) fun y4 => if y4 = true then (if (List.length u1_1 + List.length [u1_0]) * 8 ≤ maxB then (some (u1_1 ++ [u1_0])) else none) else (some u1_1)) else none) fun (o2 : List Int) => f28_s2_l1 a0 a1 n1 (w64 (u1_0 + (1 : Int))) o2) else (some u1_1)

def f28_s2 (a0 : List D55) (a1 : Int) : Option (List Int) :=
  Option.bind (f28_s2_l1 a0 a1 (List.length a0 + 1) (0 : Int) ([] : List Int)) fun (o1 : List Int) => some o1

set_option maxRecDepth 100000 in
theorem x28_s2 (a0 : List D55) (a1 : Int) (r : List Int) (h : f28_s2 a0 a1 = some r) : Fc Tryd.prog gl 28 [(.val (.slice 208 T55) a0), (.func (.func 48) .nil (.cons (.vptr (.int .i64) a1) .nil))] (hset (List.replicate 63 none) []) (.ret (.val (.slice 8 (.int .i64)) r)) (outH 63 []) := by
  refine Fc.of Tryd.call28 (FnEx.of_runF tied Tryd.func28 rfl rfl (σ0 := mkSt 23 63 [(0, (.val (.slice 208 T55) a0)), (1, (.func (.func 48) .nil (.cons (.vptr (.int .i64) a1) .nil)))] []) (by kernel_rfl) ?_)
  unfold f28_s2 at h
  refine Run.sreg tied [] [] [] [] (by kernel_rfl) trivial ?_
  obtain ⟨o1, h1, h⟩ := bind_some h
  refine Run.seqJ (fun σ' => σ' = mkSt 23 63 [(4, (.own 42))] [(42, some (.row 3 8 (.int .i64) o1))]) ?_ ?_
  · refine Run.sreg tied [] [] [] [] (by kernel_rfl) trivial ?_
    refine Run.block ?_
    refine Run.loopJ (fun n σ => ∃ (u1_0 : Int) (u1_1 : List Int), f28_s2_l1 a0 a1 n u1_0 u1_1 = some o1 ∧ σ = mkSt 23 63 [(1, (.func (.func 48) .nil (.cons (.vptr (.int .i64) a1) .nil))), (4, (.own 40)), (7, (.val (.slice 208 T55) a0)), (8, (.val (.int .i64) (List.length a0 : Int))), (9, (.val (.int .i64) u1_0))] [(40, some (.row 3 8 (.int .i64) u1_1))]) [.keep [1, 4, 7, 8, 9] [], .ownT 4 40 3 8 (.int .i64)] (by kernel_rfl) ⟨_, _, h1, rfl⟩ ?_
    rintro n1 _ ⟨u1_0, u1_1, h4, rfl⟩
    cases n1 with
    | zero => exact absurd h4 (by simp [f28_s2_l1])
    | succ n1 =>
      unfold f28_s2_l1 at h4
      refine Run.sreg tied [] [] [] [] (by kernel_rfl) trivial ?_
      refine Run.seq ?_
      rcases ite_some h4 with ⟨hc8, h4⟩ | ⟨hc8, h4⟩
      · refine Run.condT (b := decide (u1_0 < (List.length a0 : Int))) (by kernel_rfl) hc8 ?_
        refine Run.skip ?_
        change Run _ _ _ _ _
        obtain ⟨o2, h5, h4⟩ := bind_some h4
        refine Run.seqJ (fun σ' => σ' = mkSt 23 63 [(1, (.func (.func 48) .nil (.cons (.vptr (.int .i64) a1) .nil))), (4, (.own 41)), (7, (.val (.slice 208 T55) a0)), (8, (.val (.int .i64) (List.length a0 : Int))), (9, (.val (.int .i64) u1_0))] [(41, some (.row 3 8 (.int .i64) o2))]) ?_ ?_
        · refine Run.block ?_
          obtain ⟨hv3, h5⟩ := ite_none h5
          refine Run.sreg tied [] [] [] [0 ≤ u1_0, u1_0 < (List.length a0 : Int)] (by kernel_rfl) ⟨hv3.1, hv3.2, trivial⟩ ?_
          obtain ⟨y4, hy5, h5⟩ := bind_some h5
          refine Run.sreg tied [⟨(.val .bool y4), [], [], [], 54⟩] [] [] [Fc Tryd.prog gl 48 [(.val T55 (nth T55 a0 u1_0)), (.vptr (.int .i64) a1)] (hset (List.replicate 54 none) []) (.ret (.val .bool y4)) (outH 54 [])] (by kernel_rfl) ⟨x48_s1 _ _ _ hy5, trivial⟩ ?_
          rcases ite_some h5 with ⟨hc7, h5⟩ | ⟨hc7, h5⟩
          · refine Run.condT (b := y4) (by kernel_rfl) hc7 ?_
            obtain ⟨hv6, h5⟩ := ite_none h5
            refine Run.reg tied [] [] [] [(List.length u1_1 + List.length [u1_0]) * 8 ≤ maxB] (by kernel_rfl) ⟨hv6, trivial⟩ ?_
            refine bN ?_
            obtain rfl := Option.some.inj h5
            exact jQ.mk [.keep [1, 4, 7, 8, 9] [36], .ren 36 41] (by kernel_rfl) rfl
          · refine Run.condF (b := y4) (by kernel_rfl) hc7 ?_
            refine Run.skip ?_
            refine bN ?_
            obtain rfl := Option.some.inj h5
            exact jQ.mk [.keep [1, 4, 7, 8, 9] [40], .ren 40 41] (by kernel_rfl) rfl
        · rintro _ rfl
          refine Run.reg tied [] [] [] [] (by kernel_rfl) trivial ?_
          exact loopJ.mk [.keep [1, 4, 7, 8, 9] [41], .ren 41 40] (by kernel_rfl) ⟨_, _, h4, rfl⟩
      · refine Run.condF (b := decide (u1_0 < (List.length a0 : Int))) (by kernel_rfl) hc8 ?_
        refine Run.exit ?_
        refine tE ?_
        refine lE ?_
        refine bE ?_
        obtain rfl := Option.some.inj h4
        exact jQ.mk [.keep [4] [40], .ren 40 42] (by kernel_rfl) rfl
  · rintro _ rfl
    refine Run.sreg tied [] [] [] [] (by kernel_rfl) trivial ?_
    refine Run.ret ?_
    obtain rfl := Option.some.inj h
    exact (fQ_fin [.freeze 42 (.slice 8 (.int .i64))] [some (.slice 8 (.int .i64))] (msk 63 []) (by kernel_rfl)).1

/-- (*testamur.wallet.keeper).mark -/
def f36_s1_l1 (a0 : List Int) (a1 : Int) (a2 : Int) (a3 : Int) (a4 : Unit) : Nat → Int → (List D55) → Option (List D55)
  | 0, _, _ => none
  | n1 + 1, u1_0, u1_1 => if (decide (u1_0 < (List.length a0 : Int))) = true then (if 0 ≤ u1_0 ∧ u1_0 < (List.length a0 : Int) then (if 0 ≤ (nth (.int .i64) a0 u1_0) ∧ (nth (.int .i64) a0 u1_0) < (List.length u1_1 : Int) then (f36_s1_l1 a0 a1 a2 a3 a4 n1 (w64 (u1_0 + (1 : Int))) (List.set u1_1 (Int.toNat (nth (.int .i64) a0 u1_0)) ((nth T55 u1_1 (nth (.int .i64) a0 u1_0)).1, (((nth T55 u1_1 (nth (.int .i64) a0 u1_0)).2).1, ((((nth T55 u1_1 (nth (.int .i64) a0 u1_0)).2).2).1, (a1, ((((nth T55 u1_1 (nth (.int .i64) a0 u1_0)).2).2).2).2)))))) else none) else none) else (some u1_1)

def f36_s1 (a0 : List Int) (a1 : Int) (a2 : Int) (a3 : Int) (a4 : Unit) (a5 : List D55) : Option (Int × Int × Unit × (List D55)) :=
  Option.bind (f36_s1_l1 a0 a1 a2 a3 a4 (List.length a0 + 1) (0 : Int) a5) fun (o1 : List D55) => some (a2, a3, a4, o1)

set_option maxRecDepth 100000 in
theorem x36_s1 (a0 : List Int) (a1 : Int) (a2 : Int) (a3 : Int) (a4 : Unit) (a5 : List D55) (r : Int × Int × Unit × (List D55)) (h : f36_s1 a0 a1 a2 a3 a4 a5 = some r) : Fc Tryd.prog gl 36 [(.ptr 0 []), (.val (.slice 8 (.int .i64)) a0), (.val (.int .i64) a1)] (hset (List.replicate 64 none) [(0, some (.var T73 (.cons (.cons (.val (.int .i64) a2) (.cons (.val (.int .i64) a3) (.cons (.own 1) (.val .unit a4)))) .nil))), (1, some (.row 55 208 T55 a5))]) (.ret (.tup .nil)) (outH 64 [(0, (.var T73 (.cons (.cons (.val (.int .i64) r.1) (.cons (.val (.int .i64) r.2.1) (.cons (.own 1) (.val .unit r.2.2.1)))) .nil))), (1, (.row 55 208 T55 r.2.2.2))]) := by
  refine Fc.of Tryd.call36 (FnEx.of_runF tied Tryd.func36 rfl rfl (σ0 := mkSt 24 64 [(0, (.ptr 0 [])), (1, (.val (.slice 8 (.int .i64)) a0)), (2, (.val (.int .i64) a1))] [(0, some (.var T73 (.cons (.cons (.val (.int .i64) a2) (.cons (.val (.int .i64) a3) (.cons (.own 1) (.val .unit a4)))) .nil))), (1, some (.row 55 208 T55 a5))]) (by kernel_rfl) ?_)
  unfold f36_s1 at h
  refine Run.sreg tied [] [] [] [] (by kernel_rfl) trivial ?_
  obtain ⟨o1, h1, h⟩ := bind_some h
  refine Run.lastJ (fun σ' => σ' = mkSt 24 64 [] [(0, some (.var T73 (.cons (.cons (.val (.int .i64) a2) (.cons (.val (.int .i64) a3) (.cons (.own 1) (.val .unit a4)))) .nil))), (1, some (.row 55 208 T55 o1))]) Cl.f ?_ ?_
  · refine Run.block ?_
    refine Run.loopJ (fun n σ => ∃ (u1_0 : Int) (u1_1 : List D55), f36_s1_l1 a0 a1 a2 a3 a4 n u1_0 u1_1 = some o1 ∧ σ = mkSt 24 64 [(0, (.ptr 0 [])), (2, (.val (.int .i64) a1)), (8, (.val (.slice 8 (.int .i64)) a0)), (9, (.val (.int .i64) (List.length a0 : Int))), (10, (.val (.int .i64) u1_0))] [(0, some (.var T73 (.cons (.cons (.val (.int .i64) a2) (.cons (.val (.int .i64) a3) (.cons (.own 1) (.val .unit a4)))) .nil))), (1, some (.row 55 208 T55 u1_1))]) [.keep [0, 2, 8, 9, 10] [0, 1]] (by kernel_rfl) ⟨_, _, h1, rfl⟩ ?_
    rintro n1 _ ⟨u1_0, u1_1, h3, rfl⟩
    cases n1 with
    | zero => exact absurd h3 (by simp [f36_s1_l1])
    | succ n1 =>
      unfold f36_s1_l1 at h3
      refine Run.sreg tied [] [] [] [] (by kernel_rfl) trivial ?_
      refine Run.seq ?_
      rcases ite_some h3 with ⟨hc4, h3⟩ | ⟨hc4, h3⟩
      · refine Run.condT (b := decide (u1_0 < (List.length a0 : Int))) (by kernel_rfl) hc4 ?_
        refine Run.skip ?_
        change Run _ _ _ _ _
        refine Run.seq ?_
        refine Run.block ?_
        obtain ⟨hv2, h3⟩ := ite_none h3
        refine Run.sreg tied [] [] [] [0 ≤ u1_0, u1_0 < (List.length a0 : Int)] (by kernel_rfl) ⟨hv2.1, hv2.2, trivial⟩ ?_
        obtain ⟨hv3, h3⟩ := ite_none h3
        refine Run.reg tied [] [] [] [0 ≤ (nth (.int .i64) a0 u1_0), (nth (.int .i64) a0 u1_0) < (List.length u1_1 : Int)] (by kernel_rfl) ⟨hv3.1, hv3.2, trivial⟩ ?_
        refine bN ?_
        change Run _ _ _ _ _
        refine Run.reg tied [] [] [] [] (by kernel_rfl) trivial ?_
        exact loopJ.mk [.keep [0, 2, 8, 9, 10] [0, 1]] (by kernel_rfl) ⟨_, _, h3, rfl⟩
      · refine Run.condF (b := decide (u1_0 < (List.length a0 : Int))) (by kernel_rfl) hc4 ?_
        refine Run.exit ?_
        refine tE ?_
        refine lE ?_
        refine bE ?_
        obtain rfl := Option.some.inj h3
        exact jQ.mk [.keep [] [0, 1]] (by kernel_rfl) rfl
  · rintro _ rfl
    obtain rfl := Option.some.inj h
    exact (fQ_fin [.keep [] [0, 1]] [] (msk 64 [0, 1]) (by kernel_rfl)).2

/-- testamur.wallet.Supersede -/
def f13 (a0 : D23) (a1 : Int) : Option (D23 × Int) :=
  Option.bind (f16 a0) fun y1 => if (!decide (y1 = (0 : Int))) = true then (some (((0 : Int), ((0 : Int), (([] : List D55), ()))), y1)) else (Option.bind (Option.bind (if (decide (a1 < (0 : Int))) = true then (some true) else (some (decide ((16 : Int) ≤ a1)))) fun (o4 : Bool) => if o4 = true then (some (.ret (((0 : Int), ((0 : Int), (([] : List D55), ()))), (1 : Int)))) else (some (.brk ()))) fun (o3 : Ctl Unit (D23 × Int)) => match o3 with | .brk _v7 => (Option.bind (f35_s2 a0) fun y8 => Option.bind (f37_s1 a1) fun y10 => Option.bind (f28_s2 a0.2.2.1 y10) fun y12 => Option.bind (f36_s1 y12 (2 : Int) y8.1 y8.2.1 y8.2.2.1 y8.2.2.2) fun y14 => some ((y14.1, (y14.2.1, (y14.2.2.2, y14.2.2.1))), (0 : Int))) | .ret r16 => (some r16))

set_option maxRecDepth 100000 in
theorem x13 (a0 : D23) (a1 : Int) (r : D23 × Int) (h : f13 a0 a1 = some r) : Fc Tryd.prog gl 13 [(.val T23 a0), (.val (.int .i64) a1)] (hset (List.replicate 74 none) []) (.ret (.tup (.cons (.val T23 r.1) (.cons (.val (.int .i64) r.2) .nil)))) (outH 74 []) := by
  refine Fc.of Tryd.call13 (FnEx.of_runF tied Tryd.func13 rfl rfl (σ0 := mkSt 34 74 [(0, (.val T23 a0)), (1, (.val (.int .i64) a1))] []) (by kernel_rfl) ?_)
  unfold f13 at h
  refine Run.sreg tied [] [] [] [] (by kernel_rfl) trivial ?_
  refine Run.seq ?_
  obtain ⟨y1, hy2, h⟩ := bind_some h
  refine Run.sreg tied [⟨(.val (.int .i64) y1), [], [], [], 99⟩] [] [] [Fc Tryd.prog gl 16 [(.val T23 a0)] (hset (List.replicate 99 none) []) (.ret (.val (.int .i64) y1)) (outH 99 [])] (by kernel_rfl) ⟨x16 _ _ hy2, trivial⟩ ?_
  refine Run.sreg tied [] [] [] [] (by kernel_rfl) trivial ?_
  rcases ite_some h with ⟨hc17, h⟩ | ⟨hc17, h⟩
  · refine Run.condT (b := !decide (y1 = (0 : Int))) (by kernel_rfl) hc17 ?_
    refine Run.sreg tied [] [] [] [] (by kernel_rfl) trivial ?_
    refine Run.ret ?_
    obtain rfl := Option.some.inj h
    exact (fQ_fin [] [some T23, some (.int .i64)] (msk 74 []) (by kernel_rfl)).1
  · refine Run.condF (b := !decide (y1 = (0 : Int))) (by kernel_rfl) hc17 ?_
    refine Run.skip ?_
    change Run _ _ _ _ _
    obtain ⟨o3, h1, h⟩ := bind_some h
    refine Run.seqJ (fun σ' => ∃ v7, o3 = .brk v7 ∧ σ' = mkSt 34 74 [(1, (.val (.int .i64) a1)), (2, (.ptr 18 [])), (4, (.ptr 20 []))] [(18, some (.var T23 (.val T23 a0))), (20, some (.var T23 (.cons (.val (.int .i64) (0 : Int)) (.cons (.val (.int .i64) (0 : Int)) (.cons .nils .nil)))))]) ?_ ?_
    · obtain ⟨o4, h3, h1⟩ := bind_some h1
      refine Run.seqJ (fun σ' => σ' = mkSt 34 74 [(1, (.val (.int .i64) a1)), (2, (.ptr 18 [])), (4, (.ptr 20 [])), (19, (.val .bool o4))] [(18, some (.var T23 (.val T23 a0))), (20, some (.var T23 (.cons (.val (.int .i64) (0 : Int)) (.cons (.val (.int .i64) (0 : Int)) (.cons .nils .nil)))))]) ?_ ?_
      · rcases ite_some h3 with ⟨hg5, h3⟩ | ⟨hg5, h3⟩
        · refine Run.reg tied [] [true] [] [(decide (a1 < (0 : Int))) = true] (by kernel_rfl) ⟨hg5, trivial⟩ ?_
          obtain rfl := Option.some.inj h3
          exact jQ.mk [.keep [1, 2, 4, 19] [18, 20]] (by kernel_rfl) rfl
        · refine Run.reg tied [] [false] [] [(decide (a1 < (0 : Int))) = false] (by kernel_rfl) ⟨hg5, trivial⟩ ?_
          obtain rfl := Option.some.inj h3
          exact jQ.mk [.keep [1, 2, 4, 19] [18, 20]] (by kernel_rfl) rfl
      · rintro _ rfl
        rcases ite_some h1 with ⟨hc6, h1⟩ | ⟨hc6, h1⟩
        · refine Run.condT (b := o4) (by kernel_rfl) hc6 ?_
          refine Run.sreg tied [] [] [] [] (by kernel_rfl) trivial ?_
          refine Run.ret ?_
          obtain rfl := Option.some.inj h1
          dsimp only at h
          obtain rfl := Option.some.inj h
          exact (fQ_fin [] [some T23, some (.int .i64)] (msk 74 []) (by kernel_rfl)).1
        · refine Run.condF (b := o4) (by kernel_rfl) hc6 ?_
          refine Run.skip ?_
          obtain rfl := Option.some.inj h1
          exact jQ.mk [.keep [1, 2, 4] [18, 20]] (by kernel_rfl) ⟨_, rfl, rfl⟩
    · rintro _ ⟨v7, rfl, rfl⟩
      dsimp only at h
      obtain ⟨y8, hy9, h⟩ := bind_some h
      refine Run.sreg tied [⟨(.ptr 25 []), [], [(21, 38), (25, 50)], [(21, (.row 55 208 T55 y8.2.2.2)), (25, (.var T73 (.cons (.cons (.val (.int .i64) y8.1) (.cons (.val (.int .i64) y8.2.1) (.cons (.own 21) (.val .unit y8.2.2.1)))) .nil)))], 50⟩] [] [] [Fc Tryd.prog gl 35 [(.val T23 a0)] (hset (List.replicate 50 none) []) (.ret (.ptr 25 [])) (outH 50 [(21, (.row 55 208 T55 y8.2.2.2)), (25, (.var T73 (.cons (.cons (.val (.int .i64) y8.1) (.cons (.val (.int .i64) y8.2.1) (.cons (.own 21) (.val .unit y8.2.2.1)))) .nil)))])] (by kernel_rfl) ⟨x35_s2 _ _ hy9, trivial⟩ ?_
      obtain ⟨y10, hy11, h⟩ := bind_some h
      obtain ⟨y12, hy13, h⟩ := bind_some h
      obtain ⟨y14, hy15, h⟩ := bind_some h
      refine Run.sregA tied [⟨(.func (.func 48) .nil (.cons (.ptr 17 []) .nil)), [], [(17, 43)], [(17, (.var (.int .i64) (.val (.int .i64) y10)))], 44⟩, ⟨(.val (.slice 8 (.int .i64)) y12), [], [], [], 63⟩, ⟨(.tup .nil), [(0, 50), (1, 38)], [], [(0, (.var T73 (.cons (.cons (.val (.int .i64) y14.1) (.cons (.val (.int .i64) y14.2.1) (.cons (.own 1) (.val .unit y14.2.2.1)))) .nil))), (1, (.row 55 208 T55 y14.2.2.2))], 64⟩] [] [(5, 27, (.opq .func))] [Fc Tryd.prog gl 37 [(.val (.int .i64) a1)] (hset (List.replicate 44 none) []) (.ret (.func (.func 48) .nil (.cons (.ptr 17 []) .nil))) (outH 44 [(17, (.var (.int .i64) (.val (.int .i64) y10)))]), Fc Tryd.prog gl 28 [(.val (.slice 208 T55) a0.2.2.1), (.func (.func 48) .nil (.cons (.vptr (.int .i64) y10) .nil))] (hset (List.replicate 63 none) []) (.ret (.val (.slice 8 (.int .i64)) y12)) (outH 63 []), Fc Tryd.prog gl 36 [(.ptr 0 []), (.val (.slice 8 (.int .i64)) y12), (.val (.int .i64) (2 : Int))] (hset (List.replicate 64 none) [(0, some (.var T73 (.cons (.cons (.val (.int .i64) y8.1) (.cons (.val (.int .i64) y8.2.1) (.cons (.own 1) (.val .unit y8.2.2.1)))) .nil))), (1, some (.row 55 208 T55 y8.2.2.2))]) (.ret (.tup .nil)) (outH 64 [(0, (.var T73 (.cons (.cons (.val (.int .i64) y14.1) (.cons (.val (.int .i64) y14.2.1) (.cons (.own 1) (.val .unit y14.2.2.1)))) .nil))), (1, (.row 55 208 T55 y14.2.2.2))])] (by kernel_rfl) ⟨x37_s1 _ _ hy11, x28_s2 _ _ _ hy13, x36_s1 _ _ _ _ _ _ _ hy15, trivial⟩ ?_
      refine Run.sreg tied [] [] [] [] (by kernel_rfl) trivial ?_
      refine Run.ret ?_
      obtain rfl := Option.some.inj h
      exact (fQ_fin [.freeze 38 (.slice 208 T55)] [some T23, some (.int .i64)] (msk 74 []) (by kernel_rfl)).1

/-- testamur.testamurref41.sameInts -/
def f34_l1 (a0 : List Int) (a1 : List Int) : Nat → Int → Option (Ctl Unit Bool)
  | 0, _ => none
  | n1 + 1, u1_0 => if (decide (u1_0 < (List.length a0 : Int))) = true then (if 0 ≤ u1_0 ∧ u1_0 < (List.length a0 : Int) then (if u1_0 < (List.length a1 : Int) then (if (!decide ((nth (.int .i64) a0 u1_0) = (nth (.int .i64) a1 u1_0))) = true then (some (.ret false)) else (f34_l1 a0 a1 n1 (w64 (u1_0 + (1 : Int))))) else none) else none) else (some (.brk ()))

def f34 (a0 : List Int) (a1 : List Int) : Option Bool :=
  if (!decide ((List.length a0 : Int) = (List.length a1 : Int))) = true then (some false) else (Option.bind (f34_l1 a0 a1 (big) (0 : Int)) fun (o1 : Ctl Unit Bool) => match o1 with | .brk _v6 => (some true) | .ret r7 => (some r7))

set_option maxRecDepth 100000 in
theorem x34 (a0 : List Int) (a1 : List Int) (r : Bool) (h : f34 a0 a1 = some r) : Fc Tryd.prog gl 34 [(.val (.slice 8 (.int .i64)) a0), (.val (.slice 8 (.int .i64)) a1)] (hset (List.replicate 66 none) []) (.ret (.val .bool r)) (outH 66 []) := by
  refine Fc.of Tryd.call34 (FnEx.of_runF tied Tryd.func34 rfl rfl (σ0 := mkSt 26 66 [(0, (.val (.slice 8 (.int .i64)) a0)), (1, (.val (.slice 8 (.int .i64)) a1))] []) (by kernel_rfl) ?_)
  unfold f34 at h
  refine Run.sreg tied [] [] [] [] (by kernel_rfl) trivial ?_
  refine Run.seq ?_
  refine Run.sreg tied [] [] [] [] (by kernel_rfl) trivial ?_
  rcases ite_some h with ⟨hc8, h⟩ | ⟨hc8, h⟩
  · refine Run.condT (b := !decide ((List.length a0 : Int) = (List.length a1 : Int))) (by kernel_rfl) hc8 ?_
    refine Run.sreg tied [] [] [] [] (by kernel_rfl) trivial ?_
    refine Run.ret ?_
    obtain rfl := Option.some.inj h
    exact (fQ_fin [] [some .bool] (msk 66 []) (by kernel_rfl)).1
  · refine Run.condF (b := !decide ((List.length a0 : Int) = (List.length a1 : Int))) (by kernel_rfl) hc8 ?_
    refine Run.skip ?_
    change Run _ _ _ _ _
    obtain ⟨o1, h1, h⟩ := bind_some h
    refine Run.seqJ (fun σ' => ∃ v6, o1 = .brk v6 ∧ σ' = mkSt 26 66 [] []) ?_ ?_
    · refine Run.sreg tied [] [] [] [] (by kernel_rfl) trivial ?_
      refine Run.block ?_
      refine Run.loopJ (fun n σ => ∃ (u1_0 : Int), f34_l1 a0 a1 n u1_0 = some o1 ∧ σ = mkSt 26 66 [(0, (.val (.slice 8 (.int .i64)) a0)), (1, (.val (.slice 8 (.int .i64)) a1)), (5, (.val (.int .i64) u1_0))] []) [.keep [0, 1, 5] []] (by kernel_rfl) ⟨_, h1, rfl⟩ ?_
      rintro n1 _ ⟨u1_0, h3, rfl⟩
      cases n1 with
      | zero => exact absurd h3 (by simp [f34_l1])
      | succ n1 =>
        unfold f34_l1 at h3
        refine Run.seq ?_
        refine Run.sreg tied [] [] [] [] (by kernel_rfl) trivial ?_
        rcases ite_some h3 with ⟨hc5, h3⟩ | ⟨hc5, h3⟩
        · refine Run.condT (b := decide (u1_0 < (List.length a0 : Int))) (by kernel_rfl) hc5 ?_
          refine Run.skip ?_
          change Run _ _ _ _ _
          refine Run.seq ?_
          refine Run.block ?_
          obtain ⟨hv2, h3⟩ := ite_none h3
          obtain ⟨hv3, h3⟩ := ite_none h3
          refine Run.sregA tied [] [] [] [0 ≤ u1_0, u1_0 < (List.length a0 : Int), 0 ≤ u1_0, u1_0 < (List.length a1 : Int)] (by kernel_rfl) ⟨hv2.1, hv2.2, hv2.1, hv3, trivial⟩ ?_
          rcases ite_some h3 with ⟨hc4, h3⟩ | ⟨hc4, h3⟩
          · refine Run.condT (b := !decide ((nth (.int .i64) a0 u1_0) = (nth (.int .i64) a1 u1_0))) (by kernel_rfl) hc4 ?_
            refine Run.sreg tied [] [] [] [] (by kernel_rfl) trivial ?_
            refine Run.ret ?_
            obtain rfl := Option.some.inj h3
            dsimp only at h
            obtain rfl := Option.some.inj h
            exact (fQ_fin [] [some .bool] (msk 66 []) (by kernel_rfl)).1
          · refine Run.condF (b := !decide ((nth (.int .i64) a0 u1_0) = (nth (.int .i64) a1 u1_0))) (by kernel_rfl) hc4 ?_
            refine Run.skip ?_
            refine bN ?_
            change Run _ _ _ _ _
            refine Run.reg tied [] [] [] [] (by kernel_rfl) trivial ?_
            exact loopJ.mk [.keep [0, 1, 5] []] (by kernel_rfl) ⟨_, h3, rfl⟩
        · refine Run.condF (b := decide (u1_0 < (List.length a0 : Int))) (by kernel_rfl) hc5 ?_
          refine Run.exit ?_
          refine tE ?_
          refine lE ?_
          refine bE ?_
          obtain rfl := Option.some.inj h3
          exact jQ.mk [.keep [] []] (by kernel_rfl) ⟨_, rfl, rfl⟩
    · rintro _ ⟨v6, rfl, rfl⟩
      dsimp only at h
      refine Run.sreg tied [] [] [] [] (by kernel_rfl) trivial ?_
      refine Run.ret ?_
      obtain rfl := Option.some.inj h
      exact (fQ_fin [] [some .bool] (msk 66 []) (by kernel_rfl)).1

/-- testamur.testamurref41.SameInts -/
def f19 (a0 : List Int) (a1 : List Int) : Option Bool :=
  Option.bind (f34 a0 a1) fun y1 => some y1

set_option maxRecDepth 100000 in
theorem x19 (a0 : List Int) (a1 : List Int) (r : Bool) (h : f19 a0 a1 = some r) : Fc Tryd.prog gl 19 [(.val (.slice 8 (.int .i64)) a0), (.val (.slice 8 (.int .i64)) a1)] (hset (List.replicate 48 none) []) (.ret (.val .bool r)) (outH 48 []) := by
  refine Fc.of Tryd.call19 (FnEx.of_runF tied Tryd.func19 rfl rfl (σ0 := mkSt 8 48 [(0, (.val (.slice 8 (.int .i64)) a0)), (1, (.val (.slice 8 (.int .i64)) a1))] []) (by kernel_rfl) ?_)
  unfold f19 at h
  refine Run.sreg tied [] [] [] [] (by kernel_rfl) trivial ?_
  obtain ⟨y1, hy2, h⟩ := bind_some h
  refine Run.sreg tied [⟨(.val .bool y1), [], [], [], 66⟩] [] [] [Fc Tryd.prog gl 34 [(.val (.slice 8 (.int .i64)) a0), (.val (.slice 8 (.int .i64)) a1)] (hset (List.replicate 66 none) []) (.ret (.val .bool y1)) (outH 66 [])] (by kernel_rfl) ⟨x34 _ _ _ hy2, trivial⟩ ?_
  refine Run.ret ?_
  obtain rfl := Option.some.inj h
  exact (fQ_fin [] [some .bool] (msk 48 []) (by kernel_rfl)).1

/-- testamur.wallet.Left -/
def f20 (a0 : D23) (a1 : Int) : Option Int :=
  Option.bind (f37_s1 a1) fun y1 => Option.bind (f28_s2 a0.2.2.1 y1) fun y3 => some (List.length y3 : Int)

set_option maxRecDepth 100000 in
theorem x20 (a0 : D23) (a1 : Int) (r : Int) (h : f20 a0 a1 = some r) : Fc Tryd.prog gl 20 [(.val T23 a0), (.val (.int .i64) a1)] (hset (List.replicate 51 none) []) (.ret (.val (.int .i64) r)) (outH 51 []) := by
  refine Fc.of Tryd.call20 (FnEx.of_runF tied Tryd.func20 rfl rfl (σ0 := mkSt 11 51 [(0, (.val T23 a0)), (1, (.val (.int .i64) a1))] []) (by kernel_rfl) ?_)
  unfold f20 at h
  refine Run.sreg tied [] [] [] [] (by kernel_rfl) trivial ?_
  obtain ⟨y1, hy2, h⟩ := bind_some h
  obtain ⟨y3, hy4, h⟩ := bind_some h
  refine Run.sregA tied [⟨(.func (.func 48) .nil (.cons (.ptr 17 []) .nil)), [], [(17, 24)], [(17, (.var (.int .i64) (.val (.int .i64) y1)))], 44⟩, ⟨(.val (.slice 8 (.int .i64)) y3), [], [], [], 63⟩] [] [(4, 8, (.opq .func))] [Fc Tryd.prog gl 37 [(.val (.int .i64) a1)] (hset (List.replicate 44 none) []) (.ret (.func (.func 48) .nil (.cons (.ptr 17 []) .nil))) (outH 44 [(17, (.var (.int .i64) (.val (.int .i64) y1)))]), Fc Tryd.prog gl 28 [(.val (.slice 208 T55) a0.2.2.1), (.func (.func 48) .nil (.cons (.vptr (.int .i64) y1) .nil))] (hset (List.replicate 63 none) []) (.ret (.val (.slice 8 (.int .i64)) y3)) (outH 63 [])] (by kernel_rfl) ⟨x37_s1 _ _ hy2, x28_s2 _ _ _ hy4, trivial⟩ ?_
  refine Run.ret ?_
  obtain rfl := Option.some.inj h
  exact (fQ_fin [] [some (.int .i64)] (msk 51 []) (by kernel_rfl)).1

/-- testamur.testamurlaw41.sane -/
def f7  : Option Bool :=
  Option.bind (f9 (7 : Int)) fun y1 => Option.bind (f9 (4096 : Int)) fun y3 => Option.bind (f26 (1 : Int) (0 : Int) [(7 : Int), (5 : Int)]) fun y5 => Option.bind (f26 (1 : Int) (1 : Int) [(7 : Int), (5 : Int)]) fun y7 => Option.bind (f23 y1.1 [y5.1, y7.1] [y5.2, y7.2] (2 : Int)) fun y9 => Option.bind (f23 y9.1 [y5.1] [y5.2] (2 : Int)) fun y11 => Option.bind (f23 y1.1 [y5.1] ([] : List D53) (2 : Int)) fun y13 => if (1 : Int) ≤ (List.length y5.2.2.1 : Int) then (Option.bind (f23 y1.1 [y5.1] [(y5.2.1, (cutList y5.2.2.1 (Int.toNat (1 : Int)) (List.length y5.2.2.1), y5.2.2.2))] (2 : Int)) fun y16 => Option.bind (f23 y1.1 [y5.1] [y5.2] (4 : Int)) fun y18 => Option.bind (f11 y9.1 (2 : Int)) fun y20 => Option.bind (f11 y9.1 (1 : Int)) fun y22 => Option.bind (f13 y9.1 (0 : Int)) fun y24 => Option.bind (f13 y9.1 (16 : Int)) fun y26 => Option.bind (f11 y24.1 (2 : Int)) fun y28 => Option.bind (Option.bind (if (!decide (y1.2 = (0 : Int))) = true then (some true) else (if (!decide (y3.2 = (410 : Int))) = true then (some true) else (if (!decide (y9.2 = (0 : Int))) = true then (some true) else (if (!decide (y11.2 = (410 : Int))) = true then (some true) else (if (!decide (y13.2 = (410 : Int))) = true then (some true) else (if (!decide (y16.2 = (410 : Int))) = true then (some true) else (if (!decide (y18.2 = (410 : Int))) = true then (some true) else (if (!decide (y24.2 = (0 : Int))) = true then (some true) else (if (!decide (y26.2 = (1 : Int))) = true then (some true) else (if (!decide ((List.length y9.1.2.2.1 : Int) = (2 : Int))) = true then (some true) else (if (!decide ((List.length y24.1.2.2.1 : Int) = (2 : Int))) = true then (some true) else (if (!decide ((List.length y20.1 : Int) = (1 : Int))) = true then (some true) else (some (!decide ((List.length y20.2 : Int) = (1 : Int)))))))))))))))) fun (o31 : Bool) => if o31 = true then (some (.ret false)) else (some (.brk ()))) fun (o30 : Ctl Unit Bool) => match o30 with | .brk _v45 => (Option.bind (if (decide (y1.1.1 = (7 : Int))) = true then (if (0 : Int) < (List.length y20.1 : Int) then (Option.bind (f19 (((nth T57 y20.1 (0 : Int)).2).1) [(0 : Int), (1 : Int)]) fun y49 => if y49 = true then (Option.bind (f19 ((((nth T57 y20.1 (0 : Int)).2).2).1) [(7 : Int), (5 : Int)]) fun y52 => if y52 = true then (if (0 : Int) < (List.length y20.2 : Int) then (if (decide ((nth (.int .i64) y20.2 (0 : Int)) = (0 : Int))) = true then (if (decide ((List.length y22.1 : Int) = (0 : Int))) = true then (if (decide ((List.length y28.1 : Int) = (0 : Int))) = true then (Option.bind (f20 y9.1 (0 : Int)) fun y59 => if (decide (y59 = (2 : Int))) = true then (Option.bind (f20 y9.1 (1 : Int)) fun y62 => if (decide (y62 = (0 : Int))) = true then (Option.bind (f20 y24.1 (0 : Int)) fun y65 => if (decide (y65 = (0 : Int))) = true then (if (1 : Int) < (List.length y24.1.2.2.1 : Int) then (if (decide ((((((nth T55 y24.1.2.2.1 (1 : Int)).2).2).2).1) = (2 : Int))) = true then (if (1 : Int) < (List.length y9.1.2.2.1 : Int) then (if (decide (((((nth T55 y9.1.2.2.1 (1 : Int)).2).2).1) = (2 : Int))) = true then (Option.bind (f16 y9.1) fun y72 => if (decide (y72 = (0 : Int))) = true then (Option.bind (f16 ((0 : Int), ((5 : Int), (([] : List D55), ())))) fun y75 => some (decide (y75 = (410 : Int)))) else (some false)) else (some false)) else none) else (some false)) else none) else (some false)) else (some false)) else (some false)) else (some false)) else (some false)) else (some false)) else none) else (some false)) else (some false)) else none) else (some false)) fun (o46 : Bool) => some o46) | .ret r77 => (some r77)) else none

set_option maxRecDepth 100000 in
theorem x7  (r : Bool) (h : f7 = some r) : Fc Tryd.prog gl 7 [] (hset (List.replicate 295 none) []) (.ret (.val .bool r)) (outH 295 []) := by
  refine Fc.of Tryd.call7 (FnEx.of_runF tied Tryd.func7 rfl rfl (σ0 := mkSt 255 295 [] []) (by kernel_rfl) ?_)
  unfold f7 at h
  refine Run.sreg tied [] [] [] [] (by kernel_rfl) trivial ?_
  obtain ⟨y1, hy2, h⟩ := bind_some h
  refine Run.sreg tied [⟨(.tup (.cons (.val T23 y1.1) (.cons (.val (.int .i64) y1.2) .nil))), [], [], [], 53⟩] [] [] [Fc Tryd.prog gl 9 [(.val (.int .i64) (7 : Int))] (hset (List.replicate 53 none) []) (.ret (.tup (.cons (.val T23 y1.1) (.cons (.val (.int .i64) y1.2) .nil)))) (outH 53 [])] (by kernel_rfl) ⟨x9 _ _ hy2, trivial⟩ ?_
  obtain ⟨y3, hy4, h⟩ := bind_some h
  refine Run.sreg tied [⟨(.tup (.cons (.val T23 y3.1) (.cons (.val (.int .i64) y3.2) .nil))), [], [], [], 53⟩] [] [] [Fc Tryd.prog gl 9 [(.val (.int .i64) (4096 : Int))] (hset (List.replicate 53 none) []) (.ret (.tup (.cons (.val T23 y3.1) (.cons (.val (.int .i64) y3.2) .nil)))) (outH 53 [])] (by kernel_rfl) ⟨x9 _ _ hy4, trivial⟩ ?_
  obtain ⟨y5, hy6, h⟩ := bind_some h
  refine Run.sreg tied [⟨(.tup (.cons (.val T48 y5.1) (.cons (.val T53 y5.2) .nil))), [], [], [], 64⟩] [] [(1, 39, (.slice 8 (.int .i64)))] [Fc Tryd.prog gl 26 [(.val (.int .i64) (1 : Int)), (.val (.int .i64) (0 : Int)), (.val (.slice 8 (.int .i64)) [(7 : Int), (5 : Int)])] (hset (List.replicate 64 none) []) (.ret (.tup (.cons (.val T48 y5.1) (.cons (.val T53 y5.2) .nil)))) (outH 64 [])] (by kernel_rfl) ⟨x26 _ _ _ _ hy6, trivial⟩ ?_
  obtain ⟨y7, hy8, h⟩ := bind_some h
  refine Run.sreg tied [⟨(.tup (.cons (.val T48 y7.1) (.cons (.val T53 y7.2) .nil))), [], [], [], 64⟩] [] [(1, 44, (.slice 8 (.int .i64)))] [Fc Tryd.prog gl 26 [(.val (.int .i64) (1 : Int)), (.val (.int .i64) (1 : Int)), (.val (.slice 8 (.int .i64)) [(7 : Int), (5 : Int)])] (hset (List.replicate 64 none) []) (.ret (.tup (.cons (.val T48 y7.1) (.cons (.val T53 y7.2) .nil)))) (outH 64 [])] (by kernel_rfl) ⟨x26 _ _ _ _ hy8, trivial⟩ ?_
  obtain ⟨y9, hy10, h⟩ := bind_some h
  refine Run.sreg tied [⟨(.tup (.cons (.val T23 y9.1) (.cons (.val (.int .i64) y9.2) .nil))), [], [], [], 98⟩] [] [(7, 52, (.slice 136 T48)), (7, 55, (.slice 56 T53))] [Fc Tryd.prog gl 23 [(.val T23 y1.1), (.val (.slice 136 T48) [y5.1, y7.1]), (.val (.slice 56 T53) [y5.2, y7.2]), (.val (.int .i64) (2 : Int))] (hset (List.replicate 98 none) []) (.ret (.tup (.cons (.val T23 y9.1) (.cons (.val (.int .i64) y9.2) .nil)))) (outH 98 [])] (by kernel_rfl) ⟨x23 _ _ _ _ _ hy10, trivial⟩ ?_
  obtain ⟨y11, hy12, h⟩ := bind_some h
  refine Run.sreg tied [⟨(.tup (.cons (.val T23 y11.1) (.cons (.val (.int .i64) y11.2) .nil))), [], [], [], 98⟩] [] [(5, 62, (.slice 136 T48)), (5, 64, (.slice 56 T53))] [Fc Tryd.prog gl 23 [(.val T23 y9.1), (.val (.slice 136 T48) [y5.1]), (.val (.slice 56 T53) [y5.2]), (.val (.int .i64) (2 : Int))] (hset (List.replicate 98 none) []) (.ret (.tup (.cons (.val T23 y11.1) (.cons (.val (.int .i64) y11.2) .nil)))) (outH 98 [])] (by kernel_rfl) ⟨x23 _ _ _ _ _ hy12, trivial⟩ ?_
  obtain ⟨y13, hy14, h⟩ := bind_some h
  refine Run.sreg tied [⟨(.tup (.cons (.val T23 y13.1) (.cons (.val (.int .i64) y13.2) .nil))), [], [], [], 98⟩] [] [(3, 71, (.slice 136 T48))] [Fc Tryd.prog gl 23 [(.val T23 y1.1), (.val (.slice 136 T48) [y5.1]), (.val (.slice 56 T53) ([] : List D53)), (.val (.int .i64) (2 : Int))] (hset (List.replicate 98 none) []) (.ret (.tup (.cons (.val T23 y13.1) (.cons (.val (.int .i64) y13.2) .nil)))) (outH 98 [])] (by kernel_rfl) ⟨x23 _ _ _ _ _ hy14, trivial⟩ ?_
  refine Run.sreg tied [] [] [] [] (by kernel_rfl) trivial ?_
  obtain ⟨hv15, h⟩ := ite_none h
  refine Run.sreg tied [] [] [] [0 ≤ (1 : Int), (1 : Int) ≤ (List.length y5.2.2.1 : Int)] (by kernel_rfl) ⟨(by decide), hv15, trivial⟩ ?_
  obtain ⟨y16, hy17, h⟩ := bind_some h
  refine Run.sreg tied [⟨(.tup (.cons (.val T23 y16.1) (.cons (.val (.int .i64) y16.2) .nil))), [], [], [], 98⟩] [] [(5, 83, (.slice 136 T48)), (5, 85, (.slice 56 T53))] [Fc Tryd.prog gl 23 [(.val T23 y1.1), (.val (.slice 136 T48) [y5.1]), (.val (.slice 56 T53) [(y5.2.1, (cutList y5.2.2.1 (Int.toNat (1 : Int)) (List.length y5.2.2.1), y5.2.2.2))]), (.val (.int .i64) (2 : Int))] (hset (List.replicate 98 none) []) (.ret (.tup (.cons (.val T23 y16.1) (.cons (.val (.int .i64) y16.2) .nil)))) (outH 98 [])] (by kernel_rfl) ⟨x23 _ _ _ _ _ hy17, trivial⟩ ?_
  obtain ⟨y18, hy19, h⟩ := bind_some h
  refine Run.sreg tied [⟨(.tup (.cons (.val T23 y18.1) (.cons (.val (.int .i64) y18.2) .nil))), [], [], [], 98⟩] [] [(5, 92, (.slice 136 T48)), (5, 94, (.slice 56 T53))] [Fc Tryd.prog gl 23 [(.val T23 y1.1), (.val (.slice 136 T48) [y5.1]), (.val (.slice 56 T53) [y5.2]), (.val (.int .i64) (4 : Int))] (hset (List.replicate 98 none) []) (.ret (.tup (.cons (.val T23 y18.1) (.cons (.val (.int .i64) y18.2) .nil)))) (outH 98 [])] (by kernel_rfl) ⟨x23 _ _ _ _ _ hy19, trivial⟩ ?_
  obtain ⟨y20, hy21, h⟩ := bind_some h
  refine Run.sreg tied [⟨(.tup (.cons (.val (.slice 56 T57) y20.1) (.cons (.val (.slice 8 (.int .i64)) y20.2) .nil))), [], [], [], 104⟩] [] [] [Fc Tryd.prog gl 11 [(.val T23 y9.1), (.val (.int .i64) (2 : Int))] (hset (List.replicate 104 none) []) (.ret (.tup (.cons (.val (.slice 56 T57) y20.1) (.cons (.val (.slice 8 (.int .i64)) y20.2) .nil)))) (outH 104 [])] (by kernel_rfl) ⟨x11 _ _ _ hy21, trivial⟩ ?_
  obtain ⟨y22, hy23, h⟩ := bind_some h
  refine Run.sreg tied [⟨(.tup (.cons (.val (.slice 56 T57) y22.1) (.cons (.val (.slice 8 (.int .i64)) y22.2) .nil))), [], [], [], 104⟩] [] [] [Fc Tryd.prog gl 11 [(.val T23 y9.1), (.val (.int .i64) (1 : Int))] (hset (List.replicate 104 none) []) (.ret (.tup (.cons (.val (.slice 56 T57) y22.1) (.cons (.val (.slice 8 (.int .i64)) y22.2) .nil)))) (outH 104 [])] (by kernel_rfl) ⟨x11 _ _ _ hy23, trivial⟩ ?_
  obtain ⟨y24, hy25, h⟩ := bind_some h
  refine Run.sreg tied [⟨(.tup (.cons (.val T23 y24.1) (.cons (.val (.int .i64) y24.2) .nil))), [], [], [], 74⟩] [] [] [Fc Tryd.prog gl 13 [(.val T23 y9.1), (.val (.int .i64) (0 : Int))] (hset (List.replicate 74 none) []) (.ret (.tup (.cons (.val T23 y24.1) (.cons (.val (.int .i64) y24.2) .nil)))) (outH 74 [])] (by kernel_rfl) ⟨x13 _ _ _ hy25, trivial⟩ ?_
  obtain ⟨y26, hy27, h⟩ := bind_some h
  refine Run.sreg tied [⟨(.tup (.cons (.val T23 y26.1) (.cons (.val (.int .i64) y26.2) .nil))), [], [], [], 74⟩] [] [] [Fc Tryd.prog gl 13 [(.val T23 y9.1), (.val (.int .i64) (16 : Int))] (hset (List.replicate 74 none) []) (.ret (.tup (.cons (.val T23 y26.1) (.cons (.val (.int .i64) y26.2) .nil)))) (outH 74 [])] (by kernel_rfl) ⟨x13 _ _ _ hy27, trivial⟩ ?_
  obtain ⟨y28, hy29, h⟩ := bind_some h
  refine Run.sreg tied [⟨(.tup (.cons (.val (.slice 56 T57) y28.1) (.cons (.val (.slice 8 (.int .i64)) y28.2) .nil))), [], [], [], 104⟩] [] [] [Fc Tryd.prog gl 11 [(.val T23 y24.1), (.val (.int .i64) (2 : Int))] (hset (List.replicate 104 none) []) (.ret (.tup (.cons (.val (.slice 56 T57) y28.1) (.cons (.val (.slice 8 (.int .i64)) y28.2) .nil)))) (outH 104 [])] (by kernel_rfl) ⟨x11 _ _ _ hy29, trivial⟩ ?_
  obtain ⟨o30, h1, h⟩ := bind_some h
  refine Run.seqJ (fun σ' => ∃ v45, o30 = .brk v45 ∧ σ' = mkSt 255 295 [(1, (.ptr 17 [])), (9, (.ptr 25 [])), (20, (.val (.slice 56 T57) y20.1)), (21, (.val (.slice 8 (.int .i64)) y20.2)), (22, (.val (.slice 56 T57) y22.1)), (24, (.ptr 40 [])), (28, (.val (.slice 56 T57) y28.1))] [(17, some (.var T23 (.val T23 y1.1))), (25, some (.var T23 (.val T23 y9.1))), (40, some (.var T23 (.val T23 y24.1)))]) ?_ ?_
  · obtain ⟨o31, h3, h1⟩ := bind_some h1
    refine Run.seqJ (fun σ' => σ' = mkSt 255 295 [(1, (.ptr 17 [])), (9, (.ptr 25 [])), (20, (.val (.slice 56 T57) y20.1)), (21, (.val (.slice 8 (.int .i64)) y20.2)), (22, (.val (.slice 56 T57) y22.1)), (24, (.ptr 40 [])), (28, (.val (.slice 56 T57) y28.1)), (178, (.val .bool o31))] [(17, some (.var T23 (.val T23 y1.1))), (25, some (.var T23 (.val T23 y9.1))), (40, some (.var T23 (.val T23 y24.1)))]) ?_ ?_
    · rcases ite_some h3 with ⟨hg32, h3⟩ | ⟨hg32, h3⟩
      · refine Run.reg tied [] [true, true, true, true, true, true, true, true, true, true, true, true] [] [(!decide (y1.2 = (0 : Int))) = true, true = true, true = true, true = true, true = true, true = true, true = true, true = true, true = true, true = true, true = true, true = true] (by kernel_rfl) ⟨hg32, rfl, rfl, rfl, rfl, rfl, rfl, rfl, rfl, rfl, rfl, rfl, trivial⟩ ?_
        obtain rfl := Option.some.inj h3
        exact jQ.mk [.keep [1, 9, 20, 21, 22, 24, 28, 178] [17, 25, 40]] (by kernel_rfl) rfl
      · rcases ite_some h3 with ⟨hg33, h3⟩ | ⟨hg33, h3⟩
        · refine Run.reg tied [] [false, true, true, true, true, true, true, true, true, true, true, true] [] [(!decide (y1.2 = (0 : Int))) = false, (!decide (y3.2 = (410 : Int))) = true, true = true, true = true, true = true, true = true, true = true, true = true, true = true, true = true, true = true, true = true] (by kernel_rfl) ⟨hg32, hg33, rfl, rfl, rfl, rfl, rfl, rfl, rfl, rfl, rfl, rfl, trivial⟩ ?_
          obtain rfl := Option.some.inj h3
          exact jQ.mk [.keep [1, 9, 20, 21, 22, 24, 28, 178] [17, 25, 40]] (by kernel_rfl) rfl
        · rcases ite_some h3 with ⟨hg34, h3⟩ | ⟨hg34, h3⟩
          · refine Run.reg tied [] [false, false, true, true, true, true, true, true, true, true, true, true] [] [(!decide (y1.2 = (0 : Int))) = false, (!decide (y3.2 = (410 : Int))) = false, (!decide (y9.2 = (0 : Int))) = true, true = true, true = true, true = true, true = true, true = true, true = true, true = true, true = true, true = true] (by kernel_rfl) ⟨hg32, hg33, hg34, rfl, rfl, rfl, rfl, rfl, rfl, rfl, rfl, rfl, trivial⟩ ?_
            obtain rfl := Option.some.inj h3
            exact jQ.mk [.keep [1, 9, 20, 21, 22, 24, 28, 178] [17, 25, 40]] (by kernel_rfl) rfl
          · rcases ite_some h3 with ⟨hg35, h3⟩ | ⟨hg35, h3⟩
            · refine Run.reg tied [] [false, false, false, true, true, true, true, true, true, true, true, true] [] [(!decide (y1.2 = (0 : Int))) = false, (!decide (y3.2 = (410 : Int))) = false, (!decide (y9.2 = (0 : Int))) = false, (!decide (y11.2 = (410 : Int))) = true, true = true, true = true, true = true, true = true, true = true, true = true, true = true, true = true] (by kernel_rfl) ⟨hg32, hg33, hg34, hg35, rfl, rfl, rfl, rfl, rfl, rfl, rfl, rfl, trivial⟩ ?_
              obtain rfl := Option.some.inj h3
              exact jQ.mk [.keep [1, 9, 20, 21, 22, 24, 28, 178] [17, 25, 40]] (by kernel_rfl) rfl
            · rcases ite_some h3 with ⟨hg36, h3⟩ | ⟨hg36, h3⟩
              · refine Run.reg tied [] [false, false, false, false, true, true, true, true, true, true, true, true] [] [(!decide (y1.2 = (0 : Int))) = false, (!decide (y3.2 = (410 : Int))) = false, (!decide (y9.2 = (0 : Int))) = false, (!decide (y11.2 = (410 : Int))) = false, (!decide (y13.2 = (410 : Int))) = true, true = true, true = true, true = true, true = true, true = true, true = true, true = true] (by kernel_rfl) ⟨hg32, hg33, hg34, hg35, hg36, rfl, rfl, rfl, rfl, rfl, rfl, rfl, trivial⟩ ?_
                obtain rfl := Option.some.inj h3
                exact jQ.mk [.keep [1, 9, 20, 21, 22, 24, 28, 178] [17, 25, 40]] (by kernel_rfl) rfl
              · rcases ite_some h3 with ⟨hg37, h3⟩ | ⟨hg37, h3⟩
                · refine Run.reg tied [] [false, false, false, false, false, true, true, true, true, true, true, true] [] [(!decide (y1.2 = (0 : Int))) = false, (!decide (y3.2 = (410 : Int))) = false, (!decide (y9.2 = (0 : Int))) = false, (!decide (y11.2 = (410 : Int))) = false, (!decide (y13.2 = (410 : Int))) = false, (!decide (y16.2 = (410 : Int))) = true, true = true, true = true, true = true, true = true, true = true, true = true] (by kernel_rfl) ⟨hg32, hg33, hg34, hg35, hg36, hg37, rfl, rfl, rfl, rfl, rfl, rfl, trivial⟩ ?_
                  obtain rfl := Option.some.inj h3
                  exact jQ.mk [.keep [1, 9, 20, 21, 22, 24, 28, 178] [17, 25, 40]] (by kernel_rfl) rfl
                · rcases ite_some h3 with ⟨hg38, h3⟩ | ⟨hg38, h3⟩
                  · refine Run.reg tied [] [false, false, false, false, false, false, true, true, true, true, true, true] [] [(!decide (y1.2 = (0 : Int))) = false, (!decide (y3.2 = (410 : Int))) = false, (!decide (y9.2 = (0 : Int))) = false, (!decide (y11.2 = (410 : Int))) = false, (!decide (y13.2 = (410 : Int))) = false, (!decide (y16.2 = (410 : Int))) = false, (!decide (y18.2 = (410 : Int))) = true, true = true, true = true, true = true, true = true, true = true] (by kernel_rfl) ⟨hg32, hg33, hg34, hg35, hg36, hg37, hg38, rfl, rfl, rfl, rfl, rfl, trivial⟩ ?_
                    obtain rfl := Option.some.inj h3
                    exact jQ.mk [.keep [1, 9, 20, 21, 22, 24, 28, 178] [17, 25, 40]] (by kernel_rfl) rfl
                  · rcases ite_some h3 with ⟨hg39, h3⟩ | ⟨hg39, h3⟩
                    · refine Run.reg tied [] [false, false, false, false, false, false, false, true, true, true, true, true] [] [(!decide (y1.2 = (0 : Int))) = false, (!decide (y3.2 = (410 : Int))) = false, (!decide (y9.2 = (0 : Int))) = false, (!decide (y11.2 = (410 : Int))) = false, (!decide (y13.2 = (410 : Int))) = false, (!decide (y16.2 = (410 : Int))) = false, (!decide (y18.2 = (410 : Int))) = false, (!decide (y24.2 = (0 : Int))) = true, true = true, true = true, true = true, true = true] (by kernel_rfl) ⟨hg32, hg33, hg34, hg35, hg36, hg37, hg38, hg39, rfl, rfl, rfl, rfl, trivial⟩ ?_
                      obtain rfl := Option.some.inj h3
                      exact jQ.mk [.keep [1, 9, 20, 21, 22, 24, 28, 178] [17, 25, 40]] (by kernel_rfl) rfl
                    · rcases ite_some h3 with ⟨hg40, h3⟩ | ⟨hg40, h3⟩
                      · refine Run.reg tied [] [false, false, false, false, false, false, false, false, true, true, true, true] [] [(!decide (y1.2 = (0 : Int))) = false, (!decide (y3.2 = (410 : Int))) = false, (!decide (y9.2 = (0 : Int))) = false, (!decide (y11.2 = (410 : Int))) = false, (!decide (y13.2 = (410 : Int))) = false, (!decide (y16.2 = (410 : Int))) = false, (!decide (y18.2 = (410 : Int))) = false, (!decide (y24.2 = (0 : Int))) = false, (!decide (y26.2 = (1 : Int))) = true, true = true, true = true, true = true] (by kernel_rfl) ⟨hg32, hg33, hg34, hg35, hg36, hg37, hg38, hg39, hg40, rfl, rfl, rfl, trivial⟩ ?_
                        obtain rfl := Option.some.inj h3
                        exact jQ.mk [.keep [1, 9, 20, 21, 22, 24, 28, 178] [17, 25, 40]] (by kernel_rfl) rfl
                      · rcases ite_some h3 with ⟨hg41, h3⟩ | ⟨hg41, h3⟩
                        · refine Run.reg tied [] [false, false, false, false, false, false, false, false, false, true, true, true] [] [(!decide (y1.2 = (0 : Int))) = false, (!decide (y3.2 = (410 : Int))) = false, (!decide (y9.2 = (0 : Int))) = false, (!decide (y11.2 = (410 : Int))) = false, (!decide (y13.2 = (410 : Int))) = false, (!decide (y16.2 = (410 : Int))) = false, (!decide (y18.2 = (410 : Int))) = false, (!decide (y24.2 = (0 : Int))) = false, (!decide (y26.2 = (1 : Int))) = false, (!decide ((List.length y9.1.2.2.1 : Int) = (2 : Int))) = true, true = true, true = true] (by kernel_rfl) ⟨hg32, hg33, hg34, hg35, hg36, hg37, hg38, hg39, hg40, hg41, rfl, rfl, trivial⟩ ?_
                          obtain rfl := Option.some.inj h3
                          exact jQ.mk [.keep [1, 9, 20, 21, 22, 24, 28, 178] [17, 25, 40]] (by kernel_rfl) rfl
                        · rcases ite_some h3 with ⟨hg42, h3⟩ | ⟨hg42, h3⟩
                          · refine Run.reg tied [] [false, false, false, false, false, false, false, false, false, false, true, true] [] [(!decide (y1.2 = (0 : Int))) = false, (!decide (y3.2 = (410 : Int))) = false, (!decide (y9.2 = (0 : Int))) = false, (!decide (y11.2 = (410 : Int))) = false, (!decide (y13.2 = (410 : Int))) = false, (!decide (y16.2 = (410 : Int))) = false, (!decide (y18.2 = (410 : Int))) = false, (!decide (y24.2 = (0 : Int))) = false, (!decide (y26.2 = (1 : Int))) = false, (!decide ((List.length y9.1.2.2.1 : Int) = (2 : Int))) = false, (!decide ((List.length y24.1.2.2.1 : Int) = (2 : Int))) = true, true = true] (by kernel_rfl) ⟨hg32, hg33, hg34, hg35, hg36, hg37, hg38, hg39, hg40, hg41, hg42, rfl, trivial⟩ ?_
                            obtain rfl := Option.some.inj h3
                            exact jQ.mk [.keep [1, 9, 20, 21, 22, 24, 28, 178] [17, 25, 40]] (by kernel_rfl) rfl
                          · rcases ite_some h3 with ⟨hg43, h3⟩ | ⟨hg43, h3⟩
                            · refine Run.reg tied [] [false, false, false, false, false, false, false, false, false, false, false, true] [] [(!decide (y1.2 = (0 : Int))) = false, (!decide (y3.2 = (410 : Int))) = false, (!decide (y9.2 = (0 : Int))) = false, (!decide (y11.2 = (410 : Int))) = false, (!decide (y13.2 = (410 : Int))) = false, (!decide (y16.2 = (410 : Int))) = false, (!decide (y18.2 = (410 : Int))) = false, (!decide (y24.2 = (0 : Int))) = false, (!decide (y26.2 = (1 : Int))) = false, (!decide ((List.length y9.1.2.2.1 : Int) = (2 : Int))) = false, (!decide ((List.length y24.1.2.2.1 : Int) = (2 : Int))) = false, (!decide ((List.length y20.1 : Int) = (1 : Int))) = true] (by kernel_rfl) ⟨hg32, hg33, hg34, hg35, hg36, hg37, hg38, hg39, hg40, hg41, hg42, hg43, trivial⟩ ?_
                              obtain rfl := Option.some.inj h3
                              exact jQ.mk [.keep [1, 9, 20, 21, 22, 24, 28, 178] [17, 25, 40]] (by kernel_rfl) rfl
                            · refine Run.reg tied [] [false, false, false, false, false, false, false, false, false, false, false, false] [] [(!decide (y1.2 = (0 : Int))) = false, (!decide (y3.2 = (410 : Int))) = false, (!decide (y9.2 = (0 : Int))) = false, (!decide (y11.2 = (410 : Int))) = false, (!decide (y13.2 = (410 : Int))) = false, (!decide (y16.2 = (410 : Int))) = false, (!decide (y18.2 = (410 : Int))) = false, (!decide (y24.2 = (0 : Int))) = false, (!decide (y26.2 = (1 : Int))) = false, (!decide ((List.length y9.1.2.2.1 : Int) = (2 : Int))) = false, (!decide ((List.length y24.1.2.2.1 : Int) = (2 : Int))) = false, (!decide ((List.length y20.1 : Int) = (1 : Int))) = false] (by kernel_rfl) ⟨hg32, hg33, hg34, hg35, hg36, hg37, hg38, hg39, hg40, hg41, hg42, hg43, trivial⟩ ?_
                              obtain rfl := Option.some.inj h3
                              exact jQ.mk [.keep [1, 9, 20, 21, 22, 24, 28, 178] [17, 25, 40]] (by kernel_rfl) rfl
    · rintro _ rfl
      rcases ite_some h1 with ⟨hc44, h1⟩ | ⟨hc44, h1⟩
      · refine Run.condT (b := o31) (by kernel_rfl) hc44 ?_
        refine Run.sreg tied [] [] [] [] (by kernel_rfl) trivial ?_
        refine Run.ret ?_
        obtain rfl := Option.some.inj h1
        dsimp only at h
        obtain rfl := Option.some.inj h
        exact (fQ_fin [] [some .bool] (msk 295 []) (by kernel_rfl)).1
      · refine Run.condF (b := o31) (by kernel_rfl) hc44 ?_
        refine Run.skip ?_
        obtain rfl := Option.some.inj h1
        exact jQ.mk [.keep [1, 9, 20, 21, 22, 24, 28] [17, 25, 40]] (by kernel_rfl) ⟨_, rfl, rfl⟩
  · rintro _ ⟨v45, rfl, rfl⟩
    dsimp only at h
    obtain ⟨o46, h4, h⟩ := bind_some h
    refine Run.seqJ (fun σ' => σ' = mkSt 255 295 [(0, (.val .bool o46))] []) ?_ ?_
    · rcases ite_some h4 with ⟨hg47, h4⟩ | ⟨hg47, h4⟩
      · obtain ⟨hv48, h4⟩ := ite_none h4
        obtain ⟨y49, hy50, h4⟩ := bind_some h4
        rcases ite_some h4 with ⟨hg51, h4⟩ | ⟨hg51, h4⟩
        · obtain ⟨y52, hy53, h4⟩ := bind_some h4
          rcases ite_some h4 with ⟨hg54, h4⟩ | ⟨hg54, h4⟩
          · obtain ⟨hv55, h4⟩ := ite_none h4
            rcases ite_some h4 with ⟨hg56, h4⟩ | ⟨hg56, h4⟩
            · rcases ite_some h4 with ⟨hg57, h4⟩ | ⟨hg57, h4⟩
              · rcases ite_some h4 with ⟨hg58, h4⟩ | ⟨hg58, h4⟩
                · obtain ⟨y59, hy60, h4⟩ := bind_some h4
                  rcases ite_some h4 with ⟨hg61, h4⟩ | ⟨hg61, h4⟩
                  · obtain ⟨y62, hy63, h4⟩ := bind_some h4
                    rcases ite_some h4 with ⟨hg64, h4⟩ | ⟨hg64, h4⟩
                    · obtain ⟨y65, hy66, h4⟩ := bind_some h4
                      rcases ite_some h4 with ⟨hg67, h4⟩ | ⟨hg67, h4⟩
                      · obtain ⟨hv68, h4⟩ := ite_none h4
                        rcases ite_some h4 with ⟨hg69, h4⟩ | ⟨hg69, h4⟩
                        · obtain ⟨hv70, h4⟩ := ite_none h4
                          rcases ite_some h4 with ⟨hg71, h4⟩ | ⟨hg71, h4⟩
                          · obtain ⟨y72, hy73, h4⟩ := bind_some h4
                            rcases ite_some h4 with ⟨hg74, h4⟩ | ⟨hg74, h4⟩
                            · obtain ⟨y75, hy76, h4⟩ := bind_some h4
                              refine Run.reg tied [⟨(.val .bool y49), [], [], [], 48⟩, ⟨(.val .bool y52), [], [], [], 48⟩, ⟨(.val (.int .i64) y59), [], [], [], 51⟩, ⟨(.val (.int .i64) y62), [], [], [], 51⟩, ⟨(.val (.int .i64) y65), [], [], [], 51⟩, ⟨(.val (.int .i64) y72), [], [], [], 99⟩, ⟨(.val (.int .i64) y75), [], [], [], 99⟩] [true, true, true, true, true, true, true, true, true, true, true, true] [] [(decide (y1.1.1 = (7 : Int))) = true, 0 ≤ (0 : Int), (0 : Int) < (List.length y20.1 : Int), Fc Tryd.prog gl 19 [(.val (.slice 8 (.int .i64)) (((nth T57 y20.1 (0 : Int)).2).1)), (.val (.slice 8 (.int .i64)) [(0 : Int), (1 : Int)])] (hset (List.replicate 48 none) []) (.ret (.val .bool y49)) (outH 48 []), y49 = true, 0 ≤ (0 : Int), (0 : Int) < (List.length y20.1 : Int), Fc Tryd.prog gl 19 [(.val (.slice 8 (.int .i64)) ((((nth T57 y20.1 (0 : Int)).2).2).1)), (.val (.slice 8 (.int .i64)) [(7 : Int), (5 : Int)])] (hset (List.replicate 48 none) []) (.ret (.val .bool y52)) (outH 48 []), y52 = true, 0 ≤ (0 : Int), (0 : Int) < (List.length y20.2 : Int), (decide ((nth (.int .i64) y20.2 (0 : Int)) = (0 : Int))) = true, (decide ((List.length y22.1 : Int) = (0 : Int))) = true, (decide ((List.length y28.1 : Int) = (0 : Int))) = true, Fc Tryd.prog gl 20 [(.val T23 y9.1), (.val (.int .i64) (0 : Int))] (hset (List.replicate 51 none) []) (.ret (.val (.int .i64) y59)) (outH 51 []), (decide (y59 = (2 : Int))) = true, Fc Tryd.prog gl 20 [(.val T23 y9.1), (.val (.int .i64) (1 : Int))] (hset (List.replicate 51 none) []) (.ret (.val (.int .i64) y62)) (outH 51 []), (decide (y62 = (0 : Int))) = true, Fc Tryd.prog gl 20 [(.val T23 y24.1), (.val (.int .i64) (0 : Int))] (hset (List.replicate 51 none) []) (.ret (.val (.int .i64) y65)) (outH 51 []), (decide (y65 = (0 : Int))) = true, 0 ≤ (1 : Int), (1 : Int) < (List.length y24.1.2.2.1 : Int), (decide ((((((nth T55 y24.1.2.2.1 (1 : Int)).2).2).2).1) = (2 : Int))) = true, 0 ≤ (1 : Int), (1 : Int) < (List.length y9.1.2.2.1 : Int), (decide (((((nth T55 y9.1.2.2.1 (1 : Int)).2).2).1) = (2 : Int))) = true, Fc Tryd.prog gl 16 [(.val T23 y9.1)] (hset (List.replicate 99 none) []) (.ret (.val (.int .i64) y72)) (outH 99 []), (decide (y72 = (0 : Int))) = true, Fc Tryd.prog gl 16 [(.val T23 ((0 : Int), ((5 : Int), (([] : List D55), ()))))] (hset (List.replicate 99 none) []) (.ret (.val (.int .i64) y75)) (outH 99 [])] (by kernel_rfl) ⟨hg47, (by decide), hv48, x19 _ _ _ hy50, hg51, (by decide), hv48, x19 _ _ _ hy53, hg54, (by decide), hv55, hg56, hg57, hg58, x20 _ _ _ hy60, hg61, x20 _ _ _ hy63, hg64, x20 _ _ _ hy66, hg67, (by decide), hv68, hg69, (by decide), hv70, hg71, x16 _ _ hy73, hg74, x16 _ _ hy76, trivial⟩ ?_
                              obtain rfl := Option.some.inj h4
                              exact jQ.mk [.keep [0] []] (by kernel_rfl) rfl
                            · refine Run.reg tied [⟨(.val .bool y49), [], [], [], 48⟩, ⟨(.val .bool y52), [], [], [], 48⟩, ⟨(.val (.int .i64) y59), [], [], [], 51⟩, ⟨(.val (.int .i64) y62), [], [], [], 51⟩, ⟨(.val (.int .i64) y65), [], [], [], 51⟩, ⟨(.val (.int .i64) y72), [], [], [], 99⟩] [true, true, true, true, true, true, true, true, true, true, true, false] [] [(decide (y1.1.1 = (7 : Int))) = true, 0 ≤ (0 : Int), (0 : Int) < (List.length y20.1 : Int), Fc Tryd.prog gl 19 [(.val (.slice 8 (.int .i64)) (((nth T57 y20.1 (0 : Int)).2).1)), (.val (.slice 8 (.int .i64)) [(0 : Int), (1 : Int)])] (hset (List.replicate 48 none) []) (.ret (.val .bool y49)) (outH 48 []), y49 = true, 0 ≤ (0 : Int), (0 : Int) < (List.length y20.1 : Int), Fc Tryd.prog gl 19 [(.val (.slice 8 (.int .i64)) ((((nth T57 y20.1 (0 : Int)).2).2).1)), (.val (.slice 8 (.int .i64)) [(7 : Int), (5 : Int)])] (hset (List.replicate 48 none) []) (.ret (.val .bool y52)) (outH 48 []), y52 = true, 0 ≤ (0 : Int), (0 : Int) < (List.length y20.2 : Int), (decide ((nth (.int .i64) y20.2 (0 : Int)) = (0 : Int))) = true, (decide ((List.length y22.1 : Int) = (0 : Int))) = true, (decide ((List.length y28.1 : Int) = (0 : Int))) = true, Fc Tryd.prog gl 20 [(.val T23 y9.1), (.val (.int .i64) (0 : Int))] (hset (List.replicate 51 none) []) (.ret (.val (.int .i64) y59)) (outH 51 []), (decide (y59 = (2 : Int))) = true, Fc Tryd.prog gl 20 [(.val T23 y9.1), (.val (.int .i64) (1 : Int))] (hset (List.replicate 51 none) []) (.ret (.val (.int .i64) y62)) (outH 51 []), (decide (y62 = (0 : Int))) = true, Fc Tryd.prog gl 20 [(.val T23 y24.1), (.val (.int .i64) (0 : Int))] (hset (List.replicate 51 none) []) (.ret (.val (.int .i64) y65)) (outH 51 []), (decide (y65 = (0 : Int))) = true, 0 ≤ (1 : Int), (1 : Int) < (List.length y24.1.2.2.1 : Int), (decide ((((((nth T55 y24.1.2.2.1 (1 : Int)).2).2).2).1) = (2 : Int))) = true, 0 ≤ (1 : Int), (1 : Int) < (List.length y9.1.2.2.1 : Int), (decide (((((nth T55 y9.1.2.2.1 (1 : Int)).2).2).1) = (2 : Int))) = true, Fc Tryd.prog gl 16 [(.val T23 y9.1)] (hset (List.replicate 99 none) []) (.ret (.val (.int .i64) y72)) (outH 99 []), (decide (y72 = (0 : Int))) = false] (by kernel_rfl) ⟨hg47, (by decide), hv48, x19 _ _ _ hy50, hg51, (by decide), hv48, x19 _ _ _ hy53, hg54, (by decide), hv55, hg56, hg57, hg58, x20 _ _ _ hy60, hg61, x20 _ _ _ hy63, hg64, x20 _ _ _ hy66, hg67, (by decide), hv68, hg69, (by decide), hv70, hg71, x16 _ _ hy73, hg74, trivial⟩ ?_
                              obtain rfl := Option.some.inj h4
                              exact jQ.mk [.keep [0] []] (by kernel_rfl) rfl
                          · refine Run.reg tied [⟨(.val .bool y49), [], [], [], 48⟩, ⟨(.val .bool y52), [], [], [], 48⟩, ⟨(.val (.int .i64) y59), [], [], [], 51⟩, ⟨(.val (.int .i64) y62), [], [], [], 51⟩, ⟨(.val (.int .i64) y65), [], [], [], 51⟩] [true, true, true, true, true, true, true, true, true, true, false, false] [] [(decide (y1.1.1 = (7 : Int))) = true, 0 ≤ (0 : Int), (0 : Int) < (List.length y20.1 : Int), Fc Tryd.prog gl 19 [(.val (.slice 8 (.int .i64)) (((nth T57 y20.1 (0 : Int)).2).1)), (.val (.slice 8 (.int .i64)) [(0 : Int), (1 : Int)])] (hset (List.replicate 48 none) []) (.ret (.val .bool y49)) (outH 48 []), y49 = true, 0 ≤ (0 : Int), (0 : Int) < (List.length y20.1 : Int), Fc Tryd.prog gl 19 [(.val (.slice 8 (.int .i64)) ((((nth T57 y20.1 (0 : Int)).2).2).1)), (.val (.slice 8 (.int .i64)) [(7 : Int), (5 : Int)])] (hset (List.replicate 48 none) []) (.ret (.val .bool y52)) (outH 48 []), y52 = true, 0 ≤ (0 : Int), (0 : Int) < (List.length y20.2 : Int), (decide ((nth (.int .i64) y20.2 (0 : Int)) = (0 : Int))) = true, (decide ((List.length y22.1 : Int) = (0 : Int))) = true, (decide ((List.length y28.1 : Int) = (0 : Int))) = true, Fc Tryd.prog gl 20 [(.val T23 y9.1), (.val (.int .i64) (0 : Int))] (hset (List.replicate 51 none) []) (.ret (.val (.int .i64) y59)) (outH 51 []), (decide (y59 = (2 : Int))) = true, Fc Tryd.prog gl 20 [(.val T23 y9.1), (.val (.int .i64) (1 : Int))] (hset (List.replicate 51 none) []) (.ret (.val (.int .i64) y62)) (outH 51 []), (decide (y62 = (0 : Int))) = true, Fc Tryd.prog gl 20 [(.val T23 y24.1), (.val (.int .i64) (0 : Int))] (hset (List.replicate 51 none) []) (.ret (.val (.int .i64) y65)) (outH 51 []), (decide (y65 = (0 : Int))) = true, 0 ≤ (1 : Int), (1 : Int) < (List.length y24.1.2.2.1 : Int), (decide ((((((nth T55 y24.1.2.2.1 (1 : Int)).2).2).2).1) = (2 : Int))) = true, 0 ≤ (1 : Int), (1 : Int) < (List.length y9.1.2.2.1 : Int), (decide (((((nth T55 y9.1.2.2.1 (1 : Int)).2).2).1) = (2 : Int))) = false, false = false] (by kernel_rfl) ⟨hg47, (by decide), hv48, x19 _ _ _ hy50, hg51, (by decide), hv48, x19 _ _ _ hy53, hg54, (by decide), hv55, hg56, hg57, hg58, x20 _ _ _ hy60, hg61, x20 _ _ _ hy63, hg64, x20 _ _ _ hy66, hg67, (by decide), hv68, hg69, (by decide), hv70, hg71, rfl, trivial⟩ ?_
                            obtain rfl := Option.some.inj h4
                            exact jQ.mk [.keep [0] []] (by kernel_rfl) rfl
                        · refine Run.reg tied [⟨(.val .bool y49), [], [], [], 48⟩, ⟨(.val .bool y52), [], [], [], 48⟩, ⟨(.val (.int .i64) y59), [], [], [], 51⟩, ⟨(.val (.int .i64) y62), [], [], [], 51⟩, ⟨(.val (.int .i64) y65), [], [], [], 51⟩] [true, true, true, true, true, true, true, true, true, false, false, false] [] [(decide (y1.1.1 = (7 : Int))) = true, 0 ≤ (0 : Int), (0 : Int) < (List.length y20.1 : Int), Fc Tryd.prog gl 19 [(.val (.slice 8 (.int .i64)) (((nth T57 y20.1 (0 : Int)).2).1)), (.val (.slice 8 (.int .i64)) [(0 : Int), (1 : Int)])] (hset (List.replicate 48 none) []) (.ret (.val .bool y49)) (outH 48 []), y49 = true, 0 ≤ (0 : Int), (0 : Int) < (List.length y20.1 : Int), Fc Tryd.prog gl 19 [(.val (.slice 8 (.int .i64)) ((((nth T57 y20.1 (0 : Int)).2).2).1)), (.val (.slice 8 (.int .i64)) [(7 : Int), (5 : Int)])] (hset (List.replicate 48 none) []) (.ret (.val .bool y52)) (outH 48 []), y52 = true, 0 ≤ (0 : Int), (0 : Int) < (List.length y20.2 : Int), (decide ((nth (.int .i64) y20.2 (0 : Int)) = (0 : Int))) = true, (decide ((List.length y22.1 : Int) = (0 : Int))) = true, (decide ((List.length y28.1 : Int) = (0 : Int))) = true, Fc Tryd.prog gl 20 [(.val T23 y9.1), (.val (.int .i64) (0 : Int))] (hset (List.replicate 51 none) []) (.ret (.val (.int .i64) y59)) (outH 51 []), (decide (y59 = (2 : Int))) = true, Fc Tryd.prog gl 20 [(.val T23 y9.1), (.val (.int .i64) (1 : Int))] (hset (List.replicate 51 none) []) (.ret (.val (.int .i64) y62)) (outH 51 []), (decide (y62 = (0 : Int))) = true, Fc Tryd.prog gl 20 [(.val T23 y24.1), (.val (.int .i64) (0 : Int))] (hset (List.replicate 51 none) []) (.ret (.val (.int .i64) y65)) (outH 51 []), (decide (y65 = (0 : Int))) = true, 0 ≤ (1 : Int), (1 : Int) < (List.length y24.1.2.2.1 : Int), (decide ((((((nth T55 y24.1.2.2.1 (1 : Int)).2).2).2).1) = (2 : Int))) = false, false = false, false = false] (by kernel_rfl) ⟨hg47, (by decide), hv48, x19 _ _ _ hy50, hg51, (by decide), hv48, x19 _ _ _ hy53, hg54, (by decide), hv55, hg56, hg57, hg58, x20 _ _ _ hy60, hg61, x20 _ _ _ hy63, hg64, x20 _ _ _ hy66, hg67, (by decide), hv68, hg69, rfl, rfl, trivial⟩ ?_
                          obtain rfl := Option.some.inj h4
                          exact jQ.mk [.keep [0] []] (by kernel_rfl) rfl
                      · refine Run.reg tied [⟨(.val .bool y49), [], [], [], 48⟩, ⟨(.val .bool y52), [], [], [], 48⟩, ⟨(.val (.int .i64) y59), [], [], [], 51⟩, ⟨(.val (.int .i64) y62), [], [], [], 51⟩, ⟨(.val (.int .i64) y65), [], [], [], 51⟩] [true, true, true, true, true, true, true, true, false, false, false, false] [] [(decide (y1.1.1 = (7 : Int))) = true, 0 ≤ (0 : Int), (0 : Int) < (List.length y20.1 : Int), Fc Tryd.prog gl 19 [(.val (.slice 8 (.int .i64)) (((nth T57 y20.1 (0 : Int)).2).1)), (.val (.slice 8 (.int .i64)) [(0 : Int), (1 : Int)])] (hset (List.replicate 48 none) []) (.ret (.val .bool y49)) (outH 48 []), y49 = true, 0 ≤ (0 : Int), (0 : Int) < (List.length y20.1 : Int), Fc Tryd.prog gl 19 [(.val (.slice 8 (.int .i64)) ((((nth T57 y20.1 (0 : Int)).2).2).1)), (.val (.slice 8 (.int .i64)) [(7 : Int), (5 : Int)])] (hset (List.replicate 48 none) []) (.ret (.val .bool y52)) (outH 48 []), y52 = true, 0 ≤ (0 : Int), (0 : Int) < (List.length y20.2 : Int), (decide ((nth (.int .i64) y20.2 (0 : Int)) = (0 : Int))) = true, (decide ((List.length y22.1 : Int) = (0 : Int))) = true, (decide ((List.length y28.1 : Int) = (0 : Int))) = true, Fc Tryd.prog gl 20 [(.val T23 y9.1), (.val (.int .i64) (0 : Int))] (hset (List.replicate 51 none) []) (.ret (.val (.int .i64) y59)) (outH 51 []), (decide (y59 = (2 : Int))) = true, Fc Tryd.prog gl 20 [(.val T23 y9.1), (.val (.int .i64) (1 : Int))] (hset (List.replicate 51 none) []) (.ret (.val (.int .i64) y62)) (outH 51 []), (decide (y62 = (0 : Int))) = true, Fc Tryd.prog gl 20 [(.val T23 y24.1), (.val (.int .i64) (0 : Int))] (hset (List.replicate 51 none) []) (.ret (.val (.int .i64) y65)) (outH 51 []), (decide (y65 = (0 : Int))) = false, false = false, false = false, false = false] (by kernel_rfl) ⟨hg47, (by decide), hv48, x19 _ _ _ hy50, hg51, (by decide), hv48, x19 _ _ _ hy53, hg54, (by decide), hv55, hg56, hg57, hg58, x20 _ _ _ hy60, hg61, x20 _ _ _ hy63, hg64, x20 _ _ _ hy66, hg67, rfl, rfl, rfl, trivial⟩ ?_
                        obtain rfl := Option.some.inj h4
                        exact jQ.mk [.keep [0] []] (by kernel_rfl) rfl
                    · refine Run.reg tied [⟨(.val .bool y49), [], [], [], 48⟩, ⟨(.val .bool y52), [], [], [], 48⟩, ⟨(.val (.int .i64) y59), [], [], [], 51⟩, ⟨(.val (.int .i64) y62), [], [], [], 51⟩] [true, true, true, true, true, true, true, false, false, false, false, false] [] [(decide (y1.1.1 = (7 : Int))) = true, 0 ≤ (0 : Int), (0 : Int) < (List.length y20.1 : Int), Fc Tryd.prog gl 19 [(.val (.slice 8 (.int .i64)) (((nth T57 y20.1 (0 : Int)).2).1)), (.val (.slice 8 (.int .i64)) [(0 : Int), (1 : Int)])] (hset (List.replicate 48 none) []) (.ret (.val .bool y49)) (outH 48 []), y49 = true, 0 ≤ (0 : Int), (0 : Int) < (List.length y20.1 : Int), Fc Tryd.prog gl 19 [(.val (.slice 8 (.int .i64)) ((((nth T57 y20.1 (0 : Int)).2).2).1)), (.val (.slice 8 (.int .i64)) [(7 : Int), (5 : Int)])] (hset (List.replicate 48 none) []) (.ret (.val .bool y52)) (outH 48 []), y52 = true, 0 ≤ (0 : Int), (0 : Int) < (List.length y20.2 : Int), (decide ((nth (.int .i64) y20.2 (0 : Int)) = (0 : Int))) = true, (decide ((List.length y22.1 : Int) = (0 : Int))) = true, (decide ((List.length y28.1 : Int) = (0 : Int))) = true, Fc Tryd.prog gl 20 [(.val T23 y9.1), (.val (.int .i64) (0 : Int))] (hset (List.replicate 51 none) []) (.ret (.val (.int .i64) y59)) (outH 51 []), (decide (y59 = (2 : Int))) = true, Fc Tryd.prog gl 20 [(.val T23 y9.1), (.val (.int .i64) (1 : Int))] (hset (List.replicate 51 none) []) (.ret (.val (.int .i64) y62)) (outH 51 []), (decide (y62 = (0 : Int))) = false, false = false, false = false, false = false, false = false] (by kernel_rfl) ⟨hg47, (by decide), hv48, x19 _ _ _ hy50, hg51, (by decide), hv48, x19 _ _ _ hy53, hg54, (by decide), hv55, hg56, hg57, hg58, x20 _ _ _ hy60, hg61, x20 _ _ _ hy63, hg64, rfl, rfl, rfl, rfl, trivial⟩ ?_
                      obtain rfl := Option.some.inj h4
                      exact jQ.mk [.keep [0] []] (by kernel_rfl) rfl
                  · refine Run.reg tied [⟨(.val .bool y49), [], [], [], 48⟩, ⟨(.val .bool y52), [], [], [], 48⟩, ⟨(.val (.int .i64) y59), [], [], [], 51⟩] [true, true, true, true, true, true, false, false, false, false, false, false] [] [(decide (y1.1.1 = (7 : Int))) = true, 0 ≤ (0 : Int), (0 : Int) < (List.length y20.1 : Int), Fc Tryd.prog gl 19 [(.val (.slice 8 (.int .i64)) (((nth T57 y20.1 (0 : Int)).2).1)), (.val (.slice 8 (.int .i64)) [(0 : Int), (1 : Int)])] (hset (List.replicate 48 none) []) (.ret (.val .bool y49)) (outH 48 []), y49 = true, 0 ≤ (0 : Int), (0 : Int) < (List.length y20.1 : Int), Fc Tryd.prog gl 19 [(.val (.slice 8 (.int .i64)) ((((nth T57 y20.1 (0 : Int)).2).2).1)), (.val (.slice 8 (.int .i64)) [(7 : Int), (5 : Int)])] (hset (List.replicate 48 none) []) (.ret (.val .bool y52)) (outH 48 []), y52 = true, 0 ≤ (0 : Int), (0 : Int) < (List.length y20.2 : Int), (decide ((nth (.int .i64) y20.2 (0 : Int)) = (0 : Int))) = true, (decide ((List.length y22.1 : Int) = (0 : Int))) = true, (decide ((List.length y28.1 : Int) = (0 : Int))) = true, Fc Tryd.prog gl 20 [(.val T23 y9.1), (.val (.int .i64) (0 : Int))] (hset (List.replicate 51 none) []) (.ret (.val (.int .i64) y59)) (outH 51 []), (decide (y59 = (2 : Int))) = false, false = false, false = false, false = false, false = false, false = false] (by kernel_rfl) ⟨hg47, (by decide), hv48, x19 _ _ _ hy50, hg51, (by decide), hv48, x19 _ _ _ hy53, hg54, (by decide), hv55, hg56, hg57, hg58, x20 _ _ _ hy60, hg61, rfl, rfl, rfl, rfl, rfl, trivial⟩ ?_
                    obtain rfl := Option.some.inj h4
                    exact jQ.mk [.keep [0] []] (by kernel_rfl) rfl
                · refine Run.reg tied [⟨(.val .bool y49), [], [], [], 48⟩, ⟨(.val .bool y52), [], [], [], 48⟩] [true, true, true, true, true, false, false, false, false, false, false, false] [] [(decide (y1.1.1 = (7 : Int))) = true, 0 ≤ (0 : Int), (0 : Int) < (List.length y20.1 : Int), Fc Tryd.prog gl 19 [(.val (.slice 8 (.int .i64)) (((nth T57 y20.1 (0 : Int)).2).1)), (.val (.slice 8 (.int .i64)) [(0 : Int), (1 : Int)])] (hset (List.replicate 48 none) []) (.ret (.val .bool y49)) (outH 48 []), y49 = true, 0 ≤ (0 : Int), (0 : Int) < (List.length y20.1 : Int), Fc Tryd.prog gl 19 [(.val (.slice 8 (.int .i64)) ((((nth T57 y20.1 (0 : Int)).2).2).1)), (.val (.slice 8 (.int .i64)) [(7 : Int), (5 : Int)])] (hset (List.replicate 48 none) []) (.ret (.val .bool y52)) (outH 48 []), y52 = true, 0 ≤ (0 : Int), (0 : Int) < (List.length y20.2 : Int), (decide ((nth (.int .i64) y20.2 (0 : Int)) = (0 : Int))) = true, (decide ((List.length y22.1 : Int) = (0 : Int))) = true, (decide ((List.length y28.1 : Int) = (0 : Int))) = false, false = false, false = false, false = false, false = false, false = false, false = false] (by kernel_rfl) ⟨hg47, (by decide), hv48, x19 _ _ _ hy50, hg51, (by decide), hv48, x19 _ _ _ hy53, hg54, (by decide), hv55, hg56, hg57, hg58, rfl, rfl, rfl, rfl, rfl, rfl, trivial⟩ ?_
                  obtain rfl := Option.some.inj h4
                  exact jQ.mk [.keep [0] []] (by kernel_rfl) rfl
              · refine Run.reg tied [⟨(.val .bool y49), [], [], [], 48⟩, ⟨(.val .bool y52), [], [], [], 48⟩] [true, true, true, true, false, false, false, false, false, false, false, false] [] [(decide (y1.1.1 = (7 : Int))) = true, 0 ≤ (0 : Int), (0 : Int) < (List.length y20.1 : Int), Fc Tryd.prog gl 19 [(.val (.slice 8 (.int .i64)) (((nth T57 y20.1 (0 : Int)).2).1)), (.val (.slice 8 (.int .i64)) [(0 : Int), (1 : Int)])] (hset (List.replicate 48 none) []) (.ret (.val .bool y49)) (outH 48 []), y49 = true, 0 ≤ (0 : Int), (0 : Int) < (List.length y20.1 : Int), Fc Tryd.prog gl 19 [(.val (.slice 8 (.int .i64)) ((((nth T57 y20.1 (0 : Int)).2).2).1)), (.val (.slice 8 (.int .i64)) [(7 : Int), (5 : Int)])] (hset (List.replicate 48 none) []) (.ret (.val .bool y52)) (outH 48 []), y52 = true, 0 ≤ (0 : Int), (0 : Int) < (List.length y20.2 : Int), (decide ((nth (.int .i64) y20.2 (0 : Int)) = (0 : Int))) = true, (decide ((List.length y22.1 : Int) = (0 : Int))) = false, false = false, false = false, false = false, false = false, false = false, false = false, false = false] (by kernel_rfl) ⟨hg47, (by decide), hv48, x19 _ _ _ hy50, hg51, (by decide), hv48, x19 _ _ _ hy53, hg54, (by decide), hv55, hg56, hg57, rfl, rfl, rfl, rfl, rfl, rfl, rfl, trivial⟩ ?_
                obtain rfl := Option.some.inj h4
                exact jQ.mk [.keep [0] []] (by kernel_rfl) rfl
            · refine Run.reg tied [⟨(.val .bool y49), [], [], [], 48⟩, ⟨(.val .bool y52), [], [], [], 48⟩] [true, true, true, false, false, false, false, false, false, false, false, false] [] [(decide (y1.1.1 = (7 : Int))) = true, 0 ≤ (0 : Int), (0 : Int) < (List.length y20.1 : Int), Fc Tryd.prog gl 19 [(.val (.slice 8 (.int .i64)) (((nth T57 y20.1 (0 : Int)).2).1)), (.val (.slice 8 (.int .i64)) [(0 : Int), (1 : Int)])] (hset (List.replicate 48 none) []) (.ret (.val .bool y49)) (outH 48 []), y49 = true, 0 ≤ (0 : Int), (0 : Int) < (List.length y20.1 : Int), Fc Tryd.prog gl 19 [(.val (.slice 8 (.int .i64)) ((((nth T57 y20.1 (0 : Int)).2).2).1)), (.val (.slice 8 (.int .i64)) [(7 : Int), (5 : Int)])] (hset (List.replicate 48 none) []) (.ret (.val .bool y52)) (outH 48 []), y52 = true, 0 ≤ (0 : Int), (0 : Int) < (List.length y20.2 : Int), (decide ((nth (.int .i64) y20.2 (0 : Int)) = (0 : Int))) = false, false = false, false = false, false = false, false = false, false = false, false = false, false = false, false = false] (by kernel_rfl) ⟨hg47, (by decide), hv48, x19 _ _ _ hy50, hg51, (by decide), hv48, x19 _ _ _ hy53, hg54, (by decide), hv55, hg56, rfl, rfl, rfl, rfl, rfl, rfl, rfl, rfl, trivial⟩ ?_
              obtain rfl := Option.some.inj h4
              exact jQ.mk [.keep [0] []] (by kernel_rfl) rfl
          · refine Run.reg tied [⟨(.val .bool y49), [], [], [], 48⟩, ⟨(.val .bool y52), [], [], [], 48⟩] [true, true, false, false, false, false, false, false, false, false, false, false] [] [(decide (y1.1.1 = (7 : Int))) = true, 0 ≤ (0 : Int), (0 : Int) < (List.length y20.1 : Int), Fc Tryd.prog gl 19 [(.val (.slice 8 (.int .i64)) (((nth T57 y20.1 (0 : Int)).2).1)), (.val (.slice 8 (.int .i64)) [(0 : Int), (1 : Int)])] (hset (List.replicate 48 none) []) (.ret (.val .bool y49)) (outH 48 []), y49 = true, 0 ≤ (0 : Int), (0 : Int) < (List.length y20.1 : Int), Fc Tryd.prog gl 19 [(.val (.slice 8 (.int .i64)) ((((nth T57 y20.1 (0 : Int)).2).2).1)), (.val (.slice 8 (.int .i64)) [(7 : Int), (5 : Int)])] (hset (List.replicate 48 none) []) (.ret (.val .bool y52)) (outH 48 []), y52 = false, false = false, false = false, false = false, false = false, false = false, false = false, false = false, false = false, false = false] (by kernel_rfl) ⟨hg47, (by decide), hv48, x19 _ _ _ hy50, hg51, (by decide), hv48, x19 _ _ _ hy53, hg54, rfl, rfl, rfl, rfl, rfl, rfl, rfl, rfl, rfl, trivial⟩ ?_
            obtain rfl := Option.some.inj h4
            exact jQ.mk [.keep [0] []] (by kernel_rfl) rfl
        · refine Run.reg tied [⟨(.val .bool y49), [], [], [], 48⟩] [true, false, false, false, false, false, false, false, false, false, false, false] [] [(decide (y1.1.1 = (7 : Int))) = true, 0 ≤ (0 : Int), (0 : Int) < (List.length y20.1 : Int), Fc Tryd.prog gl 19 [(.val (.slice 8 (.int .i64)) (((nth T57 y20.1 (0 : Int)).2).1)), (.val (.slice 8 (.int .i64)) [(0 : Int), (1 : Int)])] (hset (List.replicate 48 none) []) (.ret (.val .bool y49)) (outH 48 []), y49 = false, false = false, false = false, false = false, false = false, false = false, false = false, false = false, false = false, false = false, false = false] (by kernel_rfl) ⟨hg47, (by decide), hv48, x19 _ _ _ hy50, hg51, rfl, rfl, rfl, rfl, rfl, rfl, rfl, rfl, rfl, rfl, trivial⟩ ?_
          obtain rfl := Option.some.inj h4
          exact jQ.mk [.keep [0] []] (by kernel_rfl) rfl
      · refine Run.reg tied [] [false, false, false, false, false, false, false, false, false, false, false, false] [] [(decide (y1.1.1 = (7 : Int))) = false, false = false, false = false, false = false, false = false, false = false, false = false, false = false, false = false, false = false, false = false, false = false] (by kernel_rfl) ⟨hg47, rfl, rfl, rfl, rfl, rfl, rfl, rfl, rfl, rfl, rfl, rfl, trivial⟩ ?_
        obtain rfl := Option.some.inj h4
        exact jQ.mk [.keep [0] []] (by kernel_rfl) rfl
    · rintro _ rfl
      refine Run.ret ?_
      obtain rfl := Option.some.inj h
      exact (fQ_fin [] [some .bool] (msk 295 []) (by kernel_rfl)).1

/-- testamur.testamurref41.FewCopy -/
def f22_l1 (a0 : D48) : Nat → Int → Option (Ctl Unit Bool)
  | 0, _ => none
  | n1 + 1, u1_0 => if (decide (u1_0 < (List.length a0.2.2.2.2.2.2.2.1 : Int))) = true then (Option.bind (Option.bind (if 0 ≤ u1_0 ∧ u1_0 < (List.length a0.2.2.2.2.2.2.2.1 : Int) then (if (decide ((24 : Int) < (List.length (((nth T81 a0.2.2.2.2.2.2.2.1 u1_0).2).1) : Int))) = true then (some true) else (some (decide ((12 : Int) < (List.length ((((nth T81 a0.2.2.2.2.2.2.2.1 u1_0).2).2).1) : Int))))) else none) fun (o3 : Bool) => if o3 = true then (some (.ret false)) else (some (.brk ()))) fun (o2 : Ctl Unit Bool) => match o2 with | .brk _v7 => (f22_l1 a0 n1 (w64 (u1_0 + (1 : Int)))) | .ret r8 => (some (.ret r8))) else (some (.brk ()))

def f22 (a0 : D48) : Option Bool :=
  Option.bind (f22_l1 a0 (big) (0 : Int)) fun (o1 : Ctl Unit Bool) => match o1 with | .brk _v10 => (Option.bind (if (decide ((List.length a0.2.2.2.2.2.1 : Int) ≤ (12 : Int))) = true then (if (decide ((List.length a0.2.2.2.2.2.2.1 : Int) ≤ (8 : Int))) = true then (some (decide ((List.length a0.2.2.2.2.2.2.2.1 : Int) ≤ (24 : Int)))) else (some false)) else (some false)) fun (o11 : Bool) => some o11) | .ret r14 => (some r14)

set_option maxRecDepth 100000 in
theorem x22 (a0 : D48) (r : Bool) (h : f22 a0 = some r) : Fc Tryd.prog gl 22 [(.val T48 a0)] (hset (List.replicate 85 none) []) (.ret (.val .bool r)) (outH 85 []) := by
  refine Fc.of Tryd.call22 (FnEx.of_runF tied Tryd.func22 rfl rfl (σ0 := mkSt 45 85 [(0, (.val T48 a0))] []) (by kernel_rfl) ?_)
  unfold f22 at h
  refine Run.sreg tied [] [] [] [] (by kernel_rfl) trivial ?_
  obtain ⟨o1, h1, h⟩ := bind_some h
  refine Run.seqJ (fun σ' => ∃ v10, o1 = .brk v10 ∧ σ' = mkSt 45 85 [(1, (.ptr 17 []))] [(17, some (.var T48 (.val T48 a0)))]) ?_ ?_
  · refine Run.sreg tied [] [] [] [] (by kernel_rfl) trivial ?_
    refine Run.block ?_
    refine Run.loopJ (fun n σ => ∃ (u1_0 : Int), f22_l1 a0 n u1_0 = some o1 ∧ σ = mkSt 45 85 [(1, (.ptr 17 [])), (3, (.val (.int .i64) u1_0))] [(17, some (.var T48 (.val T48 a0)))]) [.keep [1, 3] [17]] (by kernel_rfl) ⟨_, h1, rfl⟩ ?_
    rintro n1 _ ⟨u1_0, h6, rfl⟩
    cases n1 with
    | zero => exact absurd h6 (by simp [f22_l1])
    | succ n1 =>
      unfold f22_l1 at h6
      refine Run.seq ?_
      refine Run.sreg tied [] [] [] [] (by kernel_rfl) trivial ?_
      rcases ite_some h6 with ⟨hc9, h6⟩ | ⟨hc9, h6⟩
      · refine Run.condT (b := decide (u1_0 < (List.length a0.2.2.2.2.2.2.2.1 : Int))) (by kernel_rfl) hc9 ?_
        refine Run.skip ?_
        change Run _ _ _ _ _
        obtain ⟨o2, h7, h6⟩ := bind_some h6
        refine Run.seqJ (fun σ' => ∃ v7, o2 = .brk v7 ∧ σ' = mkSt 45 85 [(1, (.ptr 17 [])), (3, (.val (.int .i64) u1_0))] [(17, some (.var T48 (.val T48 a0)))]) ?_ ?_
        · refine Run.block ?_
          obtain ⟨o3, h9, h7⟩ := bind_some h7
          refine Run.seqJ (fun σ' => σ' = mkSt 45 85 [(1, (.ptr 17 [])), (3, (.val (.int .i64) u1_0)), (28, (.val .bool o3))] [(17, some (.var T48 (.val T48 a0)))]) ?_ ?_
          · obtain ⟨hv4, h9⟩ := ite_none h9
            rcases ite_some h9 with ⟨hg5, h9⟩ | ⟨hg5, h9⟩
            · refine Run.reg tied [] [true] [] [0 ≤ u1_0, u1_0 < (List.length a0.2.2.2.2.2.2.2.1 : Int), (decide ((24 : Int) < (List.length (((nth T81 a0.2.2.2.2.2.2.2.1 u1_0).2).1) : Int))) = true] (by kernel_rfl) ⟨hv4.1, hv4.2, hg5, trivial⟩ ?_
              obtain rfl := Option.some.inj h9
              exact jQ.mk [.keep [1, 3, 28] [17]] (by kernel_rfl) rfl
            · refine Run.reg tied [] [false] [] [0 ≤ u1_0, u1_0 < (List.length a0.2.2.2.2.2.2.2.1 : Int), (decide ((24 : Int) < (List.length (((nth T81 a0.2.2.2.2.2.2.2.1 u1_0).2).1) : Int))) = false, 0 ≤ u1_0, u1_0 < (List.length a0.2.2.2.2.2.2.2.1 : Int)] (by kernel_rfl) ⟨hv4.1, hv4.2, hg5, hv4.1, hv4.2, trivial⟩ ?_
              obtain rfl := Option.some.inj h9
              exact jQ.mk [.keep [1, 3, 28] [17]] (by kernel_rfl) rfl
          · rintro _ rfl
            rcases ite_some h7 with ⟨hc6, h7⟩ | ⟨hc6, h7⟩
            · refine Run.condT (b := o3) (by kernel_rfl) hc6 ?_
              refine Run.sreg tied [] [] [] [] (by kernel_rfl) trivial ?_
              refine Run.ret ?_
              obtain rfl := Option.some.inj h7
              dsimp only at h6
              obtain rfl := Option.some.inj h6
              dsimp only at h
              obtain rfl := Option.some.inj h
              exact (fQ_fin [] [some .bool] (msk 85 []) (by kernel_rfl)).1
            · refine Run.condF (b := o3) (by kernel_rfl) hc6 ?_
              refine Run.skip ?_
              refine bN ?_
              obtain rfl := Option.some.inj h7
              exact jQ.mk [.keep [1, 3] [17]] (by kernel_rfl) ⟨_, rfl, rfl⟩
        · rintro _ ⟨v7, rfl, rfl⟩
          dsimp only at h6
          refine Run.reg tied [] [] [] [] (by kernel_rfl) trivial ?_
          exact loopJ.mk [.keep [1, 3] [17]] (by kernel_rfl) ⟨_, h6, rfl⟩
      · refine Run.condF (b := decide (u1_0 < (List.length a0.2.2.2.2.2.2.2.1 : Int))) (by kernel_rfl) hc9 ?_
        refine Run.exit ?_
        refine tE ?_
        refine lE ?_
        refine bE ?_
        obtain rfl := Option.some.inj h6
        exact jQ.mk [.keep [1] [17]] (by kernel_rfl) ⟨_, rfl, rfl⟩
  · rintro _ ⟨v10, rfl, rfl⟩
    dsimp only at h
    obtain ⟨o11, h10, h⟩ := bind_some h
    refine Run.seqJ (fun σ' => σ' = mkSt 45 85 [(2, (.val .bool o11))] []) ?_ ?_
    · rcases ite_some h10 with ⟨hg12, h10⟩ | ⟨hg12, h10⟩
      · rcases ite_some h10 with ⟨hg13, h10⟩ | ⟨hg13, h10⟩
        · refine Run.reg tied [] [true, true] [] [(decide ((List.length a0.2.2.2.2.2.1 : Int) ≤ (12 : Int))) = true, (decide ((List.length a0.2.2.2.2.2.2.1 : Int) ≤ (8 : Int))) = true] (by kernel_rfl) ⟨hg12, hg13, trivial⟩ ?_
          obtain rfl := Option.some.inj h10
          exact jQ.mk [.keep [2] []] (by kernel_rfl) rfl
        · refine Run.reg tied [] [true, false] [] [(decide ((List.length a0.2.2.2.2.2.1 : Int) ≤ (12 : Int))) = true, (decide ((List.length a0.2.2.2.2.2.2.1 : Int) ≤ (8 : Int))) = false] (by kernel_rfl) ⟨hg12, hg13, trivial⟩ ?_
          obtain rfl := Option.some.inj h10
          exact jQ.mk [.keep [2] []] (by kernel_rfl) rfl
      · refine Run.reg tied [] [false, false] [] [(decide ((List.length a0.2.2.2.2.2.1 : Int) ≤ (12 : Int))) = false, false = false] (by kernel_rfl) ⟨hg12, rfl, trivial⟩ ?_
        obtain rfl := Option.some.inj h10
        exact jQ.mk [.keep [2] []] (by kernel_rfl) rfl
    · rintro _ rfl
      refine Run.ret ?_
      obtain rfl := Option.some.inj h
      exact (fQ_fin [] [some .bool] (msk 85 []) (by kernel_rfl)).1

/-- testamur.testamurref41.Few -/
def f8_l1 (a0 : D23) : Nat → Int → Option (Ctl Unit Bool)
  | 0, _ => none
  | n1 + 1, u1_0 => if (decide (u1_0 < (List.length a0.2.2.1 : Int))) = true then (Option.bind (Option.bind (if 0 ≤ u1_0 ∧ u1_0 < (List.length a0.2.2.1 : Int) then (Option.bind (f22 ((nth T55 a0.2.2.1 u1_0).1)) fun y5 => if (!y5) = true then (some true) else (some (decide ((8 : Int) < (List.length (((((nth T55 a0.2.2.1 u1_0).2).1).2).1) : Int))))) else none) fun (o3 : Bool) => if o3 = true then (some (.ret false)) else (some (.brk ()))) fun (o2 : Ctl Unit Bool) => match o2 with | .brk _v9 => (f8_l1 a0 n1 (w64 (u1_0 + (1 : Int)))) | .ret r10 => (some (.ret r10))) else (some (.brk ()))

def f8 (a0 : D23) : Option Bool :=
  Option.bind (f8_l1 a0 (big) (0 : Int)) fun (o1 : Ctl Unit Bool) => match o1 with | .brk _v12 => (some (decide ((List.length a0.2.2.1 : Int) ≤ (12 : Int)))) | .ret r13 => (some r13)

set_option maxRecDepth 100000 in
theorem x8 (a0 : D23) (r : Bool) (h : f8 a0 = some r) : Fc Tryd.prog gl 8 [(.val T23 a0)] (hset (List.replicate 74 none) []) (.ret (.val .bool r)) (outH 74 []) := by
  refine Fc.of Tryd.call8 (FnEx.of_runF tied Tryd.func8 rfl rfl (σ0 := mkSt 34 74 [(0, (.val T23 a0))] []) (by kernel_rfl) ?_)
  unfold f8 at h
  refine Run.sreg tied [] [] [] [] (by kernel_rfl) trivial ?_
  obtain ⟨o1, h1, h⟩ := bind_some h
  refine Run.seqJ (fun σ' => ∃ v12, o1 = .brk v12 ∧ σ' = mkSt 34 74 [(1, (.ptr 17 []))] [(17, some (.var T23 (.val T23 a0)))]) ?_ ?_
  · refine Run.sreg tied [] [] [] [] (by kernel_rfl) trivial ?_
    refine Run.block ?_
    refine Run.loopJ (fun n σ => ∃ (u1_0 : Int), f8_l1 a0 n u1_0 = some o1 ∧ σ = mkSt 34 74 [(1, (.ptr 17 [])), (3, (.val (.int .i64) u1_0))] [(17, some (.var T23 (.val T23 a0)))]) [.keep [1, 3] [17]] (by kernel_rfl) ⟨_, h1, rfl⟩ ?_
    rintro n1 _ ⟨u1_0, h6, rfl⟩
    cases n1 with
    | zero => exact absurd h6 (by simp [f8_l1])
    | succ n1 =>
      unfold f8_l1 at h6
      refine Run.seq ?_
      refine Run.sreg tied [] [] [] [] (by kernel_rfl) trivial ?_
      rcases ite_some h6 with ⟨hc11, h6⟩ | ⟨hc11, h6⟩
      · refine Run.condT (b := decide (u1_0 < (List.length a0.2.2.1 : Int))) (by kernel_rfl) hc11 ?_
        refine Run.skip ?_
        change Run _ _ _ _ _
        obtain ⟨o2, h7, h6⟩ := bind_some h6
        refine Run.seqJ (fun σ' => ∃ v9, o2 = .brk v9 ∧ σ' = mkSt 34 74 [(1, (.ptr 17 [])), (3, (.val (.int .i64) u1_0))] [(17, some (.var T23 (.val T23 a0)))]) ?_ ?_
        · refine Run.block ?_
          obtain ⟨o3, h9, h7⟩ := bind_some h7
          refine Run.seqJ (fun σ' => σ' = mkSt 34 74 [(1, (.ptr 17 [])), (3, (.val (.int .i64) u1_0)), (29, (.val .bool o3))] [(17, some (.var T23 (.val T23 a0)))]) ?_ ?_
          · obtain ⟨hv4, h9⟩ := ite_none h9
            obtain ⟨y5, hy6, h9⟩ := bind_some h9
            rcases ite_some h9 with ⟨hg7, h9⟩ | ⟨hg7, h9⟩
            · refine Run.reg tied [⟨(.val .bool y5), [], [], [], 85⟩] [true] [] [0 ≤ u1_0, u1_0 < (List.length a0.2.2.1 : Int), Fc Tryd.prog gl 22 [(.val T48 ((nth T55 a0.2.2.1 u1_0).1))] (hset (List.replicate 85 none) []) (.ret (.val .bool y5)) (outH 85 []), (!y5) = true] (by kernel_rfl) ⟨hv4.1, hv4.2, x22 _ _ hy6, hg7, trivial⟩ ?_
              obtain rfl := Option.some.inj h9
              exact jQ.mk [.keep [1, 3, 29] [17]] (by kernel_rfl) rfl
            · refine Run.reg tied [⟨(.val .bool y5), [], [], [], 85⟩] [false] [] [0 ≤ u1_0, u1_0 < (List.length a0.2.2.1 : Int), Fc Tryd.prog gl 22 [(.val T48 ((nth T55 a0.2.2.1 u1_0).1))] (hset (List.replicate 85 none) []) (.ret (.val .bool y5)) (outH 85 []), (!y5) = false, 0 ≤ u1_0, u1_0 < (List.length a0.2.2.1 : Int)] (by kernel_rfl) ⟨hv4.1, hv4.2, x22 _ _ hy6, hg7, hv4.1, hv4.2, trivial⟩ ?_
              obtain rfl := Option.some.inj h9
              exact jQ.mk [.keep [1, 3, 29] [17]] (by kernel_rfl) rfl
          · rintro _ rfl
            rcases ite_some h7 with ⟨hc8, h7⟩ | ⟨hc8, h7⟩
            · refine Run.condT (b := o3) (by kernel_rfl) hc8 ?_
              refine Run.sreg tied [] [] [] [] (by kernel_rfl) trivial ?_
              refine Run.ret ?_
              obtain rfl := Option.some.inj h7
              dsimp only at h6
              obtain rfl := Option.some.inj h6
              dsimp only at h
              obtain rfl := Option.some.inj h
              exact (fQ_fin [] [some .bool] (msk 74 []) (by kernel_rfl)).1
            · refine Run.condF (b := o3) (by kernel_rfl) hc8 ?_
              refine Run.skip ?_
              refine bN ?_
              obtain rfl := Option.some.inj h7
              exact jQ.mk [.keep [1, 3] [17]] (by kernel_rfl) ⟨_, rfl, rfl⟩
        · rintro _ ⟨v9, rfl, rfl⟩
          dsimp only at h6
          refine Run.reg tied [] [] [] [] (by kernel_rfl) trivial ?_
          exact loopJ.mk [.keep [1, 3] [17]] (by kernel_rfl) ⟨_, h6, rfl⟩
      · refine Run.condF (b := decide (u1_0 < (List.length a0.2.2.1 : Int))) (by kernel_rfl) hc11 ?_
        refine Run.exit ?_
        refine tE ?_
        refine lE ?_
        refine bE ?_
        obtain rfl := Option.some.inj h6
        exact jQ.mk [.keep [1] [17]] (by kernel_rfl) ⟨_, rfl, rfl⟩
  · rintro _ ⟨v12, rfl, rfl⟩
    dsimp only at h
    refine Run.sreg tied [] [] [] [] (by kernel_rfl) trivial ?_
    refine Run.ret ?_
    obtain rfl := Option.some.inj h
    exact (fQ_fin [] [some .bool] (msk 74 []) (by kernel_rfl)).1

/-- testamur.testamurref41.in -/
def f27 (a0 : Int) (a1 : Int) (a2 : Int) : Option Bool :=
  Option.bind (if (decide (a1 ≤ a0)) = true then (some (decide (a0 ≤ a2))) else (some false)) fun (o1 : Bool) => some o1

set_option maxRecDepth 100000 in
theorem x27 (a0 : Int) (a1 : Int) (a2 : Int) (r : Bool) (h : f27 a0 a1 a2 = some r) : Fc Tryd.prog gl 27 [(.val (.int .i64) a0), (.val (.int .i64) a1), (.val (.int .i64) a2)] (hset (List.replicate 55 none) []) (.ret (.val .bool r)) (outH 55 []) := by
  refine Fc.of Tryd.call27 (FnEx.of_runF tied Tryd.func27 rfl rfl (σ0 := mkSt 15 55 [(0, (.val (.int .i64) a0)), (1, (.val (.int .i64) a1)), (2, (.val (.int .i64) a2))] []) (by kernel_rfl) ?_)
  unfold f27 at h
  refine Run.sreg tied [] [] [] [] (by kernel_rfl) trivial ?_
  obtain ⟨o1, h1, h⟩ := bind_some h
  refine Run.seqJ (fun σ' => σ' = mkSt 15 55 [(6, (.val .bool o1))] []) ?_ ?_
  · rcases ite_some h1 with ⟨hg2, h1⟩ | ⟨hg2, h1⟩
    · refine Run.reg tied [] [true] [] [(decide (a1 ≤ a0)) = true] (by kernel_rfl) ⟨hg2, trivial⟩ ?_
      obtain rfl := Option.some.inj h1
      exact jQ.mk [.keep [6] []] (by kernel_rfl) rfl
    · refine Run.reg tied [] [false] [] [(decide (a1 ≤ a0)) = false] (by kernel_rfl) ⟨hg2, trivial⟩ ?_
      obtain rfl := Option.some.inj h1
      exact jQ.mk [.keep [6] []] (by kernel_rfl) rfl
  · rintro _ rfl
    refine Run.ret ?_
    obtain rfl := Option.some.inj h
    exact (fQ_fin [] [some .bool] (msk 55 []) (by kernel_rfl)).1

/-- testamur.testamurref41.New -/
def f10 (a0 : Int) : Option (D23 × Int) :=
  Option.bind (f27 a0 (0 : Int) (4095 : Int)) fun y1 => if (!y1) = true then (some (((0 : Int), ((0 : Int), (([] : List D55), ()))), (410 : Int))) else (some ((a0, ((0 : Int), (([] : List D55), ()))), (0 : Int)))

set_option maxRecDepth 100000 in
theorem x10 (a0 : Int) (r : D23 × Int) (h : f10 a0 = some r) : Fc Tryd.prog gl 10 [(.val (.int .i64) a0)] (hset (List.replicate 50 none) []) (.ret (.tup (.cons (.val T23 r.1) (.cons (.val (.int .i64) r.2) .nil)))) (outH 50 []) := by
  refine Fc.of Tryd.call10 (FnEx.of_runF tied Tryd.func10 rfl rfl (σ0 := mkSt 10 50 [(0, (.val (.int .i64) a0))] []) (by kernel_rfl) ?_)
  unfold f10 at h
  refine Run.sreg tied [] [] [] [] (by kernel_rfl) trivial ?_
  refine Run.seq ?_
  obtain ⟨y1, hy2, h⟩ := bind_some h
  refine Run.sreg tied [⟨(.val .bool y1), [], [], [], 55⟩] [] [] [Fc Tryd.prog gl 27 [(.val (.int .i64) a0), (.val (.int .i64) (0 : Int)), (.val (.int .i64) (4095 : Int))] (hset (List.replicate 55 none) []) (.ret (.val .bool y1)) (outH 55 [])] (by kernel_rfl) ⟨x27 _ _ _ _ hy2, trivial⟩ ?_
  rcases ite_some h with ⟨hc3, h⟩ | ⟨hc3, h⟩
  · refine Run.condT (b := !y1) (by kernel_rfl) hc3 ?_
    refine Run.sreg tied [] [] [] [] (by kernel_rfl) trivial ?_
    refine Run.ret ?_
    obtain rfl := Option.some.inj h
    exact (fQ_fin [] [some T23, some (.int .i64)] (msk 50 []) (by kernel_rfl)).1
  · refine Run.condF (b := !y1) (by kernel_rfl) hc3 ?_
    refine Run.skip ?_
    change Run _ _ _ _ _
    refine Run.sreg tied [] [] [] [] (by kernel_rfl) trivial ?_
    refine Run.ret ?_
    obtain rfl := Option.some.inj h
    exact (fQ_fin [] [some T23, some (.int .i64)] (msk 50 []) (by kernel_rfl)).1

end Go.Proofs.YtnhfefbbdfmniaaDoor
