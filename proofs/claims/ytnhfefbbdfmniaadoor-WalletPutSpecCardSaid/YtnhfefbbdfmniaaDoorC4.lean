/- WalletPutSpec: for every input the law returns true, and the input reads as it did. -/
import Derived.Test.YtnhfefbbdfmniaaDoorP4
import Derived.Test.YtnhfefbbdfmniaaDoorCards
import Derived.Test.YtnhfefbbdfmniaaDoorTie
import Derived.Test.YtnhfefbbdfmniaaDoorA3
import Derived.WalkKit
import Derived.ProofKit
import Derived.Deep.DeepHandedRow
import Derived.Lib.LaidTab
import Derived.SevenTiedAt
namespace Go.Proofs.YtnhfefbbdfmniaaDoor
open Go.Abs
open Go.ChangeShapes Go.WideShapes Go.ChangeAt Go.RowKit

theorem c4_own : ownKnob Tryd.prog.godebug = none := by kernel_rfl
theorem c4_glob : Tryd.prog.globalNamed "testamur/digest.constants" = some 0 := by kernel_rfl
theorem c4_gty : (Tryd.prog.globals[0]?).map (·.type) = some 115 := by kernel_rfl
theorem c4_c1 : Tryd.prog.cellsOf 115 = 64 := by kernel_rfl
theorem c4_c2 : Tryd.prog.cellsOf 105 = 1 := by kernel_rfl
theorem c4_table {W : World} (h : laidMetH Tryd.prog Rows.walletPutSpecRow.laid W) : Lib.TabIs Tryd.prog W "testamur/digest.constants" .u32 konst0 :=
  Lib.tabIs_of_head (rest := []) c4_glob c4_gty Tryd.underlying115 Tryd.underlying105 c4_c2 c4_c1 h
theorem c4_gl {W : World} (h : laidMetH Tryd.prog Rows.walletPutSpecRow.laid W) : GlOK gl (envOf W) W := by
  refine ⟨fun x hx => ?_, trivial⟩
  have e : x = ⟨0, T115, konst0⟩ := by simpa [gl, Ctx.of] using hx
  subst e
  have hc := fun i hi => (c4_table h).cell c4_glob i hi
  exact globTab (k := .u32) (zs := konst0) (by decide) hc (by decide +kernel) (by decide +kernel)

set_option maxRecDepth 100000 in
theorem c4_contract (H : Type) (enc : TypeId × Value → H) (W : World) (base : Nat) (args : Array Value) (ds gs : List (DataW H)) (before : List MemPlace)
    (hval : ∀ (j : Nat) t v, Tryd.f4.params[j]? = some t → args[j]? = some v → Value.okWide Tryd.prog W .any base t v)
    (hW : DataW.Whole enc Tryd.prog Tryd.f4.params.toList Rows.walletPutSpecSpec.vars false W args.toList ds gs before) (hwt : (DataW.weightsEach Tryd.prog (Tryd.f4.params.toList ++ []) (ds ++ gs)).all (· ≤ reachBytes) = true) (hL : laidMetH Tryd.prog Rows.walletPutSpecRow.laid W) :
    Calls Tryd.prog 4 args W fun e W' => ∃ v, e = .returned v ∧ Rows.walletPutSpecSpec.post enc Tryd.prog Tryd.f4 false true false false W args v W' := by
  have hW0 := hW
  obtain ⟨p, q, hA, hV, _, _, _⟩ := hW
  have hgs : gs = [] := by
    cases gs with
    | nil => rfl
    | cons _ _ => exact hV.elim
  subst hgs
  have hpar : Tryd.f4.params.toList = [24, 41, 42, 3] := by rw [Tryd.params4]
  have hwt' : ∀ n ∈ DataW.weightsEach Tryd.prog [24, 41, 42, 3] ds, n ≤ maxB := by
    rw [hpar, List.append_nil, List.append_nil, List.all_eq_true] at hwt
    intro n hn
    have := of_decide_eq_true (hwt n hn)
    exact Nat.le_trans this (by decide)
  rw [hpar] at hA
  rw [Tryd.params4] at hval
  obtain ⟨v0, vs0, d0, ds0, p0, q0, ha0, hd0, _, t0, r0⟩ := trodAll_cons hA
  obtain ⟨v1, vs1, d1, ds1, p1, q1, ha1, hd1, _, t1, r1⟩ := trodAll_cons r0
  obtain ⟨v2, vs2, d2, ds2, p2, q2, ha2, hd2, _, t2, r2⟩ := trodAll_cons r1
  obtain ⟨v3, vs3, d3, ds3, p3, q3, ha3, hd3, _, t3, r3⟩ := trodAll_cons r2
  obtain ⟨hz1, hz2, _⟩ := trodAll_nil r3
  have hds : ds = [d0, d1, d2, d3] := by rw [hd0, hd1, hd2, hd3, hz2]
  have hargs : args.toList = [v0, v1, v2, v3] := by rw [ha0, ha1, ha2, ha3, hz1]
  have hargs' : args = #[v0, v1, v2, v3] := by apply Array.ext'; rw [hargs]
  subst hds
  simp only [DataW.weightsEach, List.mem_append, List.append_nil] at hwt'
  obtain ⟨x0, h0, f0⟩ := arg_rel tied (td := ⟨T23, 0, 0⟩) (by kernel_rfl) (by kernel_rfl) (hval 0 24 v0 rfl (by rw [hargs']; rfl)) t0 (fun n hn => hwt' n (Or.inl hn))
  obtain ⟨x1, h1, f1⟩ := arg_rel tied (td := ⟨(.slice 136 T48), 48, 0⟩) (by kernel_rfl) (by kernel_rfl) (hval 1 41 v1 rfl (by rw [hargs']; rfl)) t1 (fun n hn => hwt' n (Or.inr (Or.inl hn)))
  obtain ⟨x2, h2, f2⟩ := arg_rel tied (td := ⟨(.slice 56 T53), 53, 0⟩) (by kernel_rfl) (by kernel_rfl) (hval 2 42 v2 rfl (by rw [hargs']; rfl)) t2 (fun n hn => hwt' n (Or.inr (Or.inr (Or.inl hn))))
  obtain ⟨x3, h3, f3⟩ := arg_rel tied (td := ⟨(.int .i64), 0, 0⟩) (by kernel_rfl) (by kernel_rfl) (hval 3 3 v3 rfl (by rw [hargs']; rfl)) t3 (fun n hn => hwt' n (Or.inr (Or.inr (Or.inr (hn)))))
  have hx := x4 x0 x1 x2 x3 true (pl4 x0 x1 x2 x3 f0 f1 f2 f3)
  refine law_post tied (fn := Tryd.f4) (bt := 4) hx (by rw [hargs]; exact ⟨h0, h1, h2, h3, trivial⟩) (c4_gl hL) hW0 rfl ?_ rfl Tryd.underlying4 ?_
  · intro t ht
    rw [hpar] at ht
    simp only [List.mem_cons, List.not_mem_nil, or_false] at ht
    rcases ht with rfl | rfl | rfl | rfl
    · exact ⟨⟨T23, 0, 0⟩, by kernel_rfl, by kernel_rfl⟩
    · exact ⟨⟨(.slice 136 T48), 48, 0⟩, by kernel_rfl, by kernel_rfl⟩
    · exact ⟨⟨(.slice 56 T53), 53, 0⟩, by kernel_rfl, by kernel_rfl⟩
    · exact ⟨⟨(.int .i64), 0, 0⟩, by kernel_rfl, by kernel_rfl⟩
  · intro gs hgs
    subst hgs
    exact ⟨rfl, rfl, rfl⟩

noncomputable def c4_laidWorld (os : Os) : World :=
  { World.holding Tryd.prog os ⟨#[], #[], []⟩ with heap := (World.holding Tryd.prog os ⟨#[], #[], []⟩).heap.modify 0 fun
      | .cells _ t fz => .cells (konst0.map (Value.int .u32)).toArray t fz
      | o => o }
theorem c4_laid_met (os : Os) : laidMet Tryd.prog Rows.walletPutSpecRow.laid ((c4_laidWorld os).forCall (fun _ _ => 0) ⟨#[], #[.agg #[.int .i64 0, .int .i64 0, .slice none 0 0], .slice none 0 0, .slice none 0 0, .int .i64 0], []⟩).memory :=
  laidMet_of_run' 8 (by kernel_rfl) (by kernel_rfl)
theorem c4_reads (os : Os) {H : Type} (enc : TypeId × Value → H) : ∃ places, DataW.whole enc Tryd.prog ((c4_laidWorld os).forCall (fun _ _ => 0) ⟨#[], #[.agg #[.int .i64 0, .int .i64 0, .slice none 0 0], .slice none 0 0, .slice none 0 0, .int .i64 0], []⟩).memory Tryd.f4.params.toList Rows.walletPutSpecSpec.vars false (#[.agg #[.int .i64 0, .int .i64 0, .slice none 0 0], .slice none 0 0, .slice none 0 0, .int .i64 0] : Array Value).toList 8 = some ([.agg [.lit (.int .i64 0), .lit (.int .i64 0), .nil], .nil, .nil, .lit (.int .i64 0)], [], places) :=
  ⟨[], by kernel_rfl⟩

set_option maxRecDepth 100000 in
theorem c4_lifted (os : Os) (started : os.Started) (H : Type) (enc : TypeId × Value → H) (F : Stop.Interp) :
    ReturnsInHanded {} Tryd.checked os 4 .any ((OpenSpec.ofChange Rows.walletPutSpecSpec).preRow enc Tryd.prog Tryd.f4 Rows.walletPutSpecRow.domain false Rows.walletPutSpecRow.laid) (((OpenSpec.ofChange Rows.walletPutSpecSpec).at F).post enc Tryd.prog Tryd.f4 false true false false) := by
  obtain ⟨places, hx⟩ := c4_reads os enc
  refine returnsInHanded_of_row (C := Tryd.checked) (s := OpenSpec.ofChange Rows.walletPutSpecSpec) c4_own started (by kernel_rfl) Tryd.func4
    (witness_row_at (enc := enc) (C := Tryd.checked) false (c4_laidWorld os) #[.agg #[.int .i64 0, .int .i64 0, .slice none 0 0], .slice none 0 0, .slice none 0 0, .int .i64 0] rfl (by kernel_rfl) (by kernel_rfl) (by kernel_rfl)
      (OpenSpec.preRow_of_cond 8 hx (by kernel_rfl) (fun k hk => by cases hk) (by kernel_rfl) (c4_laid_met os))) ?_
  intro W base args ds gs before hval hW _ _ hwt hL _ _
  exact c4_contract H enc W base args ds gs before hval hW hwt hL

theorem c4_said : Rows.WalletPutSpecSaid :=
  OpenClaim.holds_of_cond 4 Tryd.f4 rfl rfl rfl rfl rfl rfl rfl ⟨rfl, rfl, rfl, rfl, rfl⟩ rfl rfl rfl rfl rfl (by kernel_rfl) Tryd.func4 (by kernel_rfl)
    (of_decide_eq_true (by kernel_rfl)) (by unfold Func.isWrapper; first | (rw [if_pos (by decide +kernel)]; kernel_rfl) | (rw [if_neg (by decide +kernel)]; exact ⟨rfl, rfl⟩))
    (fun os started H enc _ F => by rw [OpenClaim.pre_eq_preRow]; exact c4_lifted os started H enc F)

theorem c4_plain (f : FuncId) (fn : Func) (hf : Tryd.pinned.checked.prog.funcNamed "testamur/testamurlaw41.WalletPutSpec" = some f) (hfn : Tryd.pinned.checked.prog.funcs[f]? = some fn) :
    false = Tryd.pinned.checked.prog.looks [] ∧ ∀ (j : Nat) t, fn.params[j]? = some t → Tryd.pinned.checked.prog.wantsStandIn t = false := by
  obtain rfl : f = 4 := Option.some.inj ((show Tryd.prog.funcNamed "testamur/testamurlaw41.WalletPutSpec" = some 4 by kernel_rfl).symm.trans hf) |>.symm
  obtain rfl : fn = Tryd.f4 := (Option.some.inj (Tryd.func4.symm.trans hfn)).symm
  refine ⟨by kernel_rfl, fun j t ht => ?_⟩
  rw [Tryd.params4] at ht
  have hm := Array.mem_of_getElem? ht
  simp only [List.mem_toArray, List.mem_cons, List.not_mem_nil, or_false] at hm
  rcases hm with rfl | rfl | rfl | rfl
  · exact (show Tryd.prog.wantsStandIn 24 = false by kernel_rfl)
  · exact (show Tryd.prog.wantsStandIn 41 = false by kernel_rfl)
  · exact (show Tryd.prog.wantsStandIn 42 = false by kernel_rfl)
  · exact (show Tryd.prog.wantsStandIn 3 = false by kernel_rfl)

theorem c4_card : Rows.WalletPutSpecCardSaid :=
  Claim7.holds_tied_plain_at .later [] _ _ _ _ c4_said (fun _ h => by cases h) (by kernel_rfl) (fun _ h => by cases h) walletPutSpec_row_tie rfl ⟨rfl, rfl⟩ (by kernel_rfl) rfl c4_plain (by kernel_rfl)
end Go.Proofs.YtnhfefbbdfmniaaDoor
