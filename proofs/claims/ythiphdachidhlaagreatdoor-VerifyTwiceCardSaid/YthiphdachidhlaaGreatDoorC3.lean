/- VerifyTwice: for every input the law returns true, and the input reads as it did. -/
import Derived.Test.YthiphdachidhlaaGreatDoorV1
import Derived.Test.YthiphdachidhlaaGreatDoorK3
import Derived.Test.YthiphdachidhlaaGreatDoorCards
import Derived.Test.YthiphdachidhlaaGreatDoorTie
import Derived.Test.YthiphdachidhlaaGreatDoorA4
import Derived.WalkKit
import Derived.ProofKit
import Derived.Deep.DeepHandedRow
import Derived.Lib.LaidTab
import Derived.SevenTiedAt
namespace Go.Proofs.YthiphdachidhlaaGreatDoor
open Go.Abs
open Go.ChangeShapes Go.WideShapes Go.ChangeAt Go.RowKit

theorem c3_own : ownKnob Tryz.prog.godebug = none := by kernel_rfl
theorem c3_gl {W : World} (_h : laidMetH Tryz.prog Rows.verifyTwiceRow.laid W) : GlOK gl (envOf W) W := ⟨fun x hx => by simp [gl, Ctx.of] at hx, trivial⟩

set_option maxRecDepth 100000 in
theorem c3_contract (H : Type) (enc : TypeId × Value → H) (W : World) (base : Nat) (args : Array Value) (ds gs : List (DataW H)) (before : List MemPlace)
    (hval : ∀ (j : Nat) t v, Tryz.f3.params[j]? = some t → args[j]? = some v → Value.okWide Tryz.prog W .any base t v)
    (hW : DataW.Whole enc Tryz.prog Tryz.f3.params.toList Rows.verifyTwiceSpec.vars false W args.toList ds gs before) (hwt : (DataW.weightsEach Tryz.prog (Tryz.f3.params.toList ++ []) (ds ++ gs)).all (· ≤ reachBytes) = true) (hL : laidMetH Tryz.prog Rows.verifyTwiceRow.laid W) :
    Calls Tryz.prog 3 args W fun e W' => ∃ v, e = .returned v ∧ Rows.verifyTwiceSpec.post enc Tryz.prog Tryz.f3 false true false false W args v W' := by
  have hW0 := hW
  obtain ⟨p, q, hA, hV, _, _, _⟩ := hW
  have hgs : gs = [] := by
    cases gs with
    | nil => rfl
    | cons _ _ => exact hV.elim
  subst hgs
  have hpar : Tryz.f3.params.toList = [22] := by rw [Tryz.params3]
  have hwt' : ∀ n ∈ DataW.weightsEach Tryz.prog [22] ds, n ≤ maxB := by
    rw [hpar, List.append_nil, List.append_nil, List.all_eq_true] at hwt
    intro n hn
    have := of_decide_eq_true (hwt n hn)
    exact Nat.le_trans this (by decide)
  rw [hpar] at hA
  rw [Tryz.params3] at hval
  obtain ⟨v0, vs0, d0, ds0, p0, q0, ha0, hd0, _, t0, r0⟩ := trodAll_cons hA
  obtain ⟨hz1, hz2, _⟩ := trodAll_nil r0
  have hds : ds = [d0] := by rw [hd0, hz2]
  have hargs : args.toList = [v0] := by rw [ha0, hz1]
  have hargs' : args = #[v0] := by apply Array.ext'; rw [hargs]
  subst hds
  simp only [DataW.weightsEach, List.append_nil] at hwt'
  obtain ⟨ax0, h0, af0⟩ := arg_rel tied (td := ⟨(.slice 96 T33), 33, 0⟩) (by kernel_rfl) (by kernel_rfl) (hval 0 22 v0 rfl (by rw [hargs']; rfl)) t0 (fun n hn => hwt' n (hn))
  have hx := x3 ax0 true (pl3 ax0 af0)
  refine law_post tied (fn := Tryz.f3) (bt := 4) hx (by rw [hargs]; exact ⟨h0, trivial⟩) (c3_gl hL) hW0 rfl ?_ rfl Tryz.underlying4 ?_
  · intro t ht
    rw [hpar] at ht
    simp only [List.mem_cons, List.not_mem_nil, or_false] at ht
    rcases ht with rfl
    · exact ⟨⟨(.slice 96 T33), 33, 0⟩, by kernel_rfl, by kernel_rfl⟩
  · intro gs hgs
    subst hgs
    exact ⟨rfl, rfl, rfl⟩

noncomputable def c3_laidWorld (os : Os) : World :=
  { World.holding Tryz.prog os ⟨#[], #[], []⟩ with heap := (((((World.holding Tryz.prog os ⟨#[], #[], []⟩).heap.modify 3 fun | .cells _ t fz => .cells (([0, 1, 28, 2, 29, 14, 24, 3, 30, 22, 20, 15, 25, 17, 4, 8, 31, 27, 13, 23, 21, 19, 16, 7, 26, 12, 18, 6, 11, 5, 10, 9] : List Int).map (Value.int .u8)).toArray t fz | o => o).modify 4 fun | .cells _ t fz => .cells (([0, 1, 56, 2, 57, 49, 28, 3, 61, 58, 42, 50, 38, 29, 17, 4, 62, 47, 59, 36, 45, 43, 51, 22, 53, 39, 33, 30, 24, 18, 12, 5, 63, 55, 48, 27, 60, 41, 37, 16, 46, 35, 44, 21, 52, 32, 23, 11, 54, 26, 40, 15, 34, 20, 31, 10, 25, 14, 19, 9, 13, 8, 7, 6] : List Int).map (Value.int .u8)).toArray t fz | o => o).modify 2 fun | .cells _ t fz => .cells (([1, 10, 100, 1000, 10000, 100000, 1000000, 10000000, 100000000, 1000000000, 10000000000, 100000000000, 1000000000000, 10000000000000, 100000000000000, 1000000000000000, 10000000000000000, 100000000000000000, 1000000000000000000, 10000000000000000000] : List Int).map (Value.int .u64)).toArray t fz | o => o).modify 0 fun | .cells _ t fz => .cells (([1116352408, 1899447441, 3049323471, 3921009573, 961987163, 1508970993, 2453635748, 2870763221, 3624381080, 310598401, 607225278, 1426881987, 1925078388, 2162078206, 2614888103, 3248222580, 3835390401, 4022224774, 264347078, 604807628, 770255983, 1249150122, 1555081692, 1996064986, 2554220882, 2821834349, 2952996808, 3210313671, 3336571891, 3584528711, 113926993, 338241895, 666307205, 773529912, 1294757372, 1396182291, 1695183700, 1986661051, 2177026350, 2456956037, 2730485921, 2820302411, 3259730800, 3345764771, 3516065817, 3600352804, 4094571909, 275423344, 430227734, 506948616, 659060556, 883997877, 958139571, 1322822218, 1537002063, 1747873779, 1955562222, 2024104815, 2227730452, 2361852424, 2428436474, 2756734187, 3204031479, 3329325298] : List Int).map (Value.int .u32)).toArray t fz | o => o) }
theorem c3_laid_met (os : Os) : laidMet Tryz.prog Rows.verifyTwiceRow.laid ((c3_laidWorld os).forCall (fun _ _ => 0) ⟨#[], #[.slice none 0 0], []⟩).memory :=
  laidMet_of_run' 8 (by kernel_rfl) (by kernel_rfl)
theorem c3_reads (os : Os) {H : Type} (enc : TypeId × Value → H) : ∃ places, DataW.whole enc Tryz.prog ((c3_laidWorld os).forCall (fun _ _ => 0) ⟨#[], #[.slice none 0 0], []⟩).memory Tryz.f3.params.toList Rows.verifyTwiceSpec.vars false (#[.slice none 0 0] : Array Value).toList 8 = some ([.nil], [], places) :=
  ⟨[], by kernel_rfl⟩

set_option maxRecDepth 100000 in
theorem c3_lifted (os : Os) (started : os.Started) (H : Type) (enc : TypeId × Value → H) (F : Stop.Interp) :
    ReturnsInHanded {} Tryz.checked os 3 .any ((OpenSpec.ofChange Rows.verifyTwiceSpec).preRow enc Tryz.prog Tryz.f3 Rows.verifyTwiceRow.domain false Rows.verifyTwiceRow.laid) (((OpenSpec.ofChange Rows.verifyTwiceSpec).at F).post enc Tryz.prog Tryz.f3 false true false false) := by
  obtain ⟨places, hx⟩ := c3_reads os enc
  refine returnsInHanded_of_row (C := Tryz.checked) (s := OpenSpec.ofChange Rows.verifyTwiceSpec) c3_own started (by kernel_rfl) Tryz.func3
    (witness_row_at (enc := enc) (C := Tryz.checked) false (c3_laidWorld os) #[.slice none 0 0] rfl (by kernel_rfl) (by kernel_rfl) (by kernel_rfl)
      (OpenSpec.preRow_of_cond 8 hx (by kernel_rfl) (fun k hk => by cases hk) (by kernel_rfl) (c3_laid_met os))) ?_
  intro W base args ds gs before hval hW _ _ hwt hL _ _
  exact c3_contract H enc W base args ds gs before hval hW hwt hL

theorem c3_said : Rows.VerifyTwiceSaid :=
  OpenClaim.holds_of_cond 3 Tryz.f3 rfl rfl rfl rfl rfl rfl rfl ⟨rfl, rfl, rfl, rfl, rfl⟩ rfl rfl rfl rfl rfl (by kernel_rfl) Tryz.func3 k3_all
    (of_decide_eq_true (by kernel_rfl)) (by unfold Func.isWrapper; first | (rw [if_pos (by decide +kernel)]; kernel_rfl) | (rw [if_neg (by decide +kernel)]; exact ⟨rfl, rfl⟩))
    (fun os started H enc _ F => by rw [OpenClaim.pre_eq_preRow]; exact c3_lifted os started H enc F)

theorem c3_plain (f : FuncId) (fn : Func) (hf : Tryz.pinned.checked.prog.funcNamed "testamur/testamurlaw28.VerifyTwice" = some f) (hfn : Tryz.pinned.checked.prog.funcs[f]? = some fn) :
    true = Tryz.pinned.checked.prog.looks [] ∧ ∀ (j : Nat) t, fn.params[j]? = some t → Tryz.pinned.checked.prog.wantsStandIn t = false := by
  obtain rfl : f = 3 := Option.some.inj ((show Tryz.prog.funcNamed "testamur/testamurlaw28.VerifyTwice" = some 3 by kernel_rfl).symm.trans hf) |>.symm
  obtain rfl : fn = Tryz.f3 := (Option.some.inj (Tryz.func3.symm.trans hfn)).symm
  refine ⟨by kernel_rfl, fun j t ht => ?_⟩
  rw [Tryz.params3] at ht
  have hm := Array.mem_of_getElem? ht
  simp only [List.mem_toArray, List.mem_cons, List.not_mem_nil, or_false] at hm
  rcases hm with rfl
  · exact (show Tryz.prog.wantsStandIn 22 = false by kernel_rfl)

theorem c3_card : Rows.VerifyTwiceCardSaid :=
  Claim7.holds_tied_plain_at .later [] _ _ _ _ c3_said (fun _ h => by cases h) (by kernel_rfl) (fun _ h => by cases h) verifyTwice_row_tie rfl ⟨rfl, rfl⟩ (by kernel_rfl) rfl c3_plain (by kernel_rfl)
end Go.Proofs.YthiphdachidhlaaGreatDoor
