/- The closed facts of the row, one by one. No condition. -/
import Derived.Test.YthiphdachidhlaaGreatDoorRows
import Derived.JoinedCond
import Derived.KernelRfl
namespace Go.Proofs.YthiphdachidhlaaGreatDoor
open Go
set_option maxRecDepth 100000
theorem and2 {a b : Bool} (h1 : a = true) (h2 : b = true) : (a && b) = true := by rw [h1, h2]; rfl
theorem k3_0 : (Rows.verifyTwiceRow.wf (OpenSpec.ofChange (OpenSpec.ofChange Rows.verifyTwiceSpec).bare)) = true := by kernel_rfl
theorem k3_1 : (laidOutB Tryz.pinned.checked.prog) = true := by kernel_rfl
theorem k3_2 : (mapsRowed Tryz.pinned.checked.prog) = true := by kernel_rfl
theorem k3_3 : (Tryz.f3.params.all (Tryz.pinned.checked.prog.readableRec ·)) = true := by kernel_rfl
theorem k3_4 : (namedTie Tryz.pinned.checked.prog Rows.verifyTwiceRow.named (OpenSpec.ofChange Rows.verifyTwiceSpec).bare.vars) = true := by kernel_rfl
theorem k3_5 : (Rows.verifyTwiceRow.stops == []) = true := by kernel_rfl
theorem k3_6 : (Tryz.pinned.checked.prog.stops == []) = true := by kernel_rfl
theorem k3_7 : (Rows.verifyTwiceRow.knobs == []) = true := by kernel_rfl
theorem k3_8 : (Tryz.pinned.checked.prog.stopKnobs == []) = true := by kernel_rfl
theorem k3_9 : (Rows.verifyTwiceRow.inPlace == Tryz.pinned.checked.prog.inPlace 3) = true := by kernel_rfl
theorem k3_10 : (Rows.verifyTwiceRow.unfollowed == Tryz.pinned.checked.prog.unfollowed 3) = true := by kernel_rfl
theorem k3_11 : (Rows.verifyTwiceRow.recurses == Tryz.pinned.checked.prog.recurses 3) = true := by kernel_rfl
theorem k3_12 : (Rows.verifyTwiceRow.named == Tryz.pinned.checked.prog.varsNamed 3) = true := by kernel_rfl
theorem k3_13 : (Rows.verifyTwiceRow.maps == (Tryz.f3.params.toList ++ (OpenSpec.ofChange Rows.verifyTwiceSpec).bare.plain.varTypes Tryz.pinned.checked.prog).any (Tryz.pinned.checked.prog.mapsRec ·)) = true := by kernel_rfl
theorem k3_14 : (Rows.verifyTwiceRow.ifaces == (Tryz.f3.params.toList ++ (OpenSpec.ofChange Rows.verifyTwiceSpec).bare.plain.varTypes Tryz.pinned.checked.prog).any (Tryz.pinned.checked.prog.ifacesRec ·)) = true := by kernel_rfl
theorem k3_15 : (Rows.verifyTwiceRow.mapsOut == Tryz.pinned.checked.prog.mapsAmong Tryz.f3.resultTypes.toList) = true := by kernel_rfl
theorem k3_16 : (Rows.verifyTwiceRow.loops == (Tryz.f3.params.toList ++ (OpenSpec.ofChange Rows.verifyTwiceSpec).bare.plain.varTypes Tryz.pinned.checked.prog).any (Tryz.pinned.checked.prog.loopsFrom ·)) = true := by kernel_rfl
theorem k3_17 : (Rows.verifyTwiceRow.wideKeys == (Tryz.f3.params.toList ++ (OpenSpec.ofChange Rows.verifyTwiceSpec).bare.plain.varTypes Tryz.pinned.checked.prog ++ Tryz.f3.resultTypes.toList).any (Tryz.pinned.checked.prog.wideKeysFrom ·)) = true := by kernel_rfl
theorem k3_18 : ((OpenSpec.ofChange Rows.verifyTwiceSpec).bare.vars.all (Tryz.pinned.checked.prog.varReadable ·)) = true := by kernel_rfl
theorem k3_19 : (Tryz.f3.resultTypes.all (fun t => Tryz.pinned.checked.prog.readableRec t && decide (t < Tryz.pinned.checked.prog.types.size))) = true := by kernel_rfl
theorem k3_20 : (Rows.verifyTwiceRow.ifacesOut == Tryz.f3.resultTypes.toList.any (Tryz.pinned.checked.prog.ifacesRec ·)) = true := by kernel_rfl
theorem k3_21 : (Rows.verifyTwiceRow.loopsOut == Tryz.f3.resultTypes.toList.any (Tryz.pinned.checked.prog.loopsFrom ·)) = true := by kernel_rfl
theorem k3_22 : (Rows.verifyTwiceRow.plainKeys == Tryz.pinned.checked.prog.plainKeys) = true := by kernel_rfl
theorem k3_23 : (Rows.verifyTwiceRow.shortTexts.isNone) = true := by kernel_rfl
theorem k3_24 : (Tryz.pinned.checked.prog.stopsHeard) = true := by kernel_rfl
theorem k3_25 : (Tryz.pinned.checked.prog.mayEnter) = true := by kernel_rfl
theorem k3_26 : (Rows.verifyTwiceRow.lifted == Tryz.pinned.checked.prog.liftsFinal) = true := by kernel_rfl
theorem k3_27 : (Tryz.pinned.checked.prog.make == some Rows.verifyTwiceRow.make) = true := by kernel_rfl
theorem k3_28 : (Rows.verifyTwiceRow.kinds == (if Rows.verifyTwiceRow.domain.isEmpty then [] else Tryz.f3.params.toList.map fun t => match Tryz.pinned.checked.prog.underlying t with | some (.int k) => some k | _ => none)) = true := by kernel_rfl
theorem k3_29 : (Rows.verifyTwiceRow.pinned == Rows.verifyTwiceRow.pinnedBy) = true := by kernel_rfl
theorem k3_30 : (Rows.verifyTwiceRow.veiled == (Tryz.f3.params.toList ++ (OpenSpec.ofChange Rows.verifyTwiceSpec).bare.plain.varTypes Tryz.pinned.checked.prog ++ Tryz.f3.resultTypes.toList).any (Tryz.pinned.checked.prog.veiledRec ·)) = true := by kernel_rfl
theorem k3_31 : (Rows.verifyTwiceRow.veiledFits Tryz.pinned.checked.prog Tryz.f3.params.toList (Tryz.f3.params.toList ++ (OpenSpec.ofChange Rows.verifyTwiceSpec).bare.plain.varTypes Tryz.pinned.checked.prog ++ Tryz.f3.resultTypes.toList)) = true := by kernel_rfl
theorem k3_all : joinedFacts Tryz.pinned.checked.prog 3 Tryz.f3 (OpenSpec.ofChange Rows.verifyTwiceSpec).bare Rows.verifyTwiceRow = true := (and2 (and2 (and2 (and2 (and2 (and2 (and2 (and2 (and2 (and2 (and2 (and2 (and2 (and2 (and2 (and2 (and2 (and2 (and2 (and2 (and2 (and2 (and2 (and2 (and2 (and2 (and2 (and2 (and2 (and2 (and2 k3_0 k3_1) k3_2) k3_3) k3_4) k3_5) k3_6) k3_7) k3_8) k3_9) k3_10) k3_11) k3_12) k3_13) k3_14) k3_15) k3_16) k3_17) k3_18) k3_19) k3_20) k3_21) k3_22) k3_23) k3_24) k3_25) k3_26) k3_27) k3_28) k3_29) k3_30) k3_31)
end Go.Proofs.YthiphdachidhlaaGreatDoor
