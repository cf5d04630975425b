/- The closed facts of the row, one by one. No condition. -/
import Derived.Test.YtjabllhapfphoaaGreatDoorRows
import Derived.JoinedCond
import Derived.KernelRfl
namespace Go.Proofs.YtjabllhapfphoaaGreatDoor
open Go
set_option maxRecDepth 100000
theorem and2 {a b : Bool} (h1 : a = true) (h2 : b = true) : (a && b) = true := by rw [h1, h2]; rfl
theorem k4_0 : (Rows.viewsSeenRow.wf (OpenSpec.ofChange (OpenSpec.ofChange Rows.viewsSeenSpec).bare)) = true := by kernel_rfl
theorem k4_1 : (laidOutB Tryz.pinned.checked.prog) = true := by kernel_rfl
theorem k4_2 : (mapsRowed Tryz.pinned.checked.prog) = true := by kernel_rfl
theorem k4_3 : (Tryz.f4.params.all (Tryz.pinned.checked.prog.readableRec ·)) = true := by kernel_rfl
theorem k4_4 : (namedTie Tryz.pinned.checked.prog Rows.viewsSeenRow.named (OpenSpec.ofChange Rows.viewsSeenSpec).bare.vars) = true := by kernel_rfl
theorem k4_5 : (Rows.viewsSeenRow.stops == []) = true := by kernel_rfl
theorem k4_6 : (Tryz.pinned.checked.prog.stops == []) = true := by kernel_rfl
theorem k4_7 : (Rows.viewsSeenRow.knobs == []) = true := by kernel_rfl
theorem k4_8 : (Tryz.pinned.checked.prog.stopKnobs == []) = true := by kernel_rfl
theorem k4_9 : (Rows.viewsSeenRow.inPlace == Tryz.pinned.checked.prog.inPlace 4) = true := by kernel_rfl
theorem k4_10 : (Rows.viewsSeenRow.unfollowed == Tryz.pinned.checked.prog.unfollowed 4) = true := by kernel_rfl
theorem k4_11 : (Rows.viewsSeenRow.recurses == Tryz.pinned.checked.prog.recurses 4) = true := by kernel_rfl
theorem k4_12 : (Rows.viewsSeenRow.named == Tryz.pinned.checked.prog.varsNamed 4) = true := by kernel_rfl
theorem k4_13 : (Rows.viewsSeenRow.maps == (Tryz.f4.params.toList ++ (OpenSpec.ofChange Rows.viewsSeenSpec).bare.plain.varTypes Tryz.pinned.checked.prog).any (Tryz.pinned.checked.prog.mapsRec ·)) = true := by kernel_rfl
theorem k4_14 : (Rows.viewsSeenRow.ifaces == (Tryz.f4.params.toList ++ (OpenSpec.ofChange Rows.viewsSeenSpec).bare.plain.varTypes Tryz.pinned.checked.prog).any (Tryz.pinned.checked.prog.ifacesRec ·)) = true := by kernel_rfl
theorem k4_15 : (Rows.viewsSeenRow.mapsOut == Tryz.pinned.checked.prog.mapsAmong Tryz.f4.resultTypes.toList) = true := by kernel_rfl
theorem k4_16 : (Rows.viewsSeenRow.loops == (Tryz.f4.params.toList ++ (OpenSpec.ofChange Rows.viewsSeenSpec).bare.plain.varTypes Tryz.pinned.checked.prog).any (Tryz.pinned.checked.prog.loopsFrom ·)) = true := by kernel_rfl
theorem k4_17 : (Rows.viewsSeenRow.wideKeys == (Tryz.f4.params.toList ++ (OpenSpec.ofChange Rows.viewsSeenSpec).bare.plain.varTypes Tryz.pinned.checked.prog ++ Tryz.f4.resultTypes.toList).any (Tryz.pinned.checked.prog.wideKeysFrom ·)) = true := by kernel_rfl
theorem k4_18 : ((OpenSpec.ofChange Rows.viewsSeenSpec).bare.vars.all (Tryz.pinned.checked.prog.varReadable ·)) = true := by kernel_rfl
theorem k4_19 : (Tryz.f4.resultTypes.all (fun t => Tryz.pinned.checked.prog.readableRec t && decide (t < Tryz.pinned.checked.prog.types.size))) = true := by kernel_rfl
theorem k4_20 : (Rows.viewsSeenRow.ifacesOut == Tryz.f4.resultTypes.toList.any (Tryz.pinned.checked.prog.ifacesRec ·)) = true := by kernel_rfl
theorem k4_21 : (Rows.viewsSeenRow.loopsOut == Tryz.f4.resultTypes.toList.any (Tryz.pinned.checked.prog.loopsFrom ·)) = true := by kernel_rfl
theorem k4_22 : (Rows.viewsSeenRow.plainKeys == Tryz.pinned.checked.prog.plainKeys) = true := by kernel_rfl
theorem k4_23 : (Rows.viewsSeenRow.shortTexts.isNone) = true := by kernel_rfl
theorem k4_24 : (Tryz.pinned.checked.prog.stopsHeard) = true := by kernel_rfl
theorem k4_25 : (Tryz.pinned.checked.prog.mayEnter) = true := by kernel_rfl
theorem k4_26 : (Rows.viewsSeenRow.lifted == Tryz.pinned.checked.prog.liftsFinal) = true := by kernel_rfl
theorem k4_27 : (Tryz.pinned.checked.prog.make == some Rows.viewsSeenRow.make) = true := by kernel_rfl
theorem k4_28 : (Rows.viewsSeenRow.kinds == (if Rows.viewsSeenRow.domain.isEmpty then [] else Tryz.f4.params.toList.map fun t => match Tryz.pinned.checked.prog.underlying t with | some (.int k) => some k | _ => none)) = true := by kernel_rfl
theorem k4_29 : (Rows.viewsSeenRow.pinned == Rows.viewsSeenRow.pinnedBy) = true := by kernel_rfl
theorem k4_30 : (Rows.viewsSeenRow.veiled == (Tryz.f4.params.toList ++ (OpenSpec.ofChange Rows.viewsSeenSpec).bare.plain.varTypes Tryz.pinned.checked.prog ++ Tryz.f4.resultTypes.toList).any (Tryz.pinned.checked.prog.veiledRec ·)) = true := by kernel_rfl
theorem k4_31 : (Rows.viewsSeenRow.veiledFits Tryz.pinned.checked.prog Tryz.f4.params.toList (Tryz.f4.params.toList ++ (OpenSpec.ofChange Rows.viewsSeenSpec).bare.plain.varTypes Tryz.pinned.checked.prog ++ Tryz.f4.resultTypes.toList)) = true := by kernel_rfl
theorem k4_all : joinedFacts Tryz.pinned.checked.prog 4 Tryz.f4 (OpenSpec.ofChange Rows.viewsSeenSpec).bare Rows.viewsSeenRow = true := (and2 (and2 (and2 (and2 (and2 (and2 (and2 (and2 (and2 (and2 (and2 (and2 (and2 (and2 (and2 (and2 (and2 (and2 (and2 (and2 (and2 (and2 (and2 (and2 (and2 (and2 (and2 (and2 (and2 (and2 (and2 k4_0 k4_1) k4_2) k4_3) k4_4) k4_5) k4_6) k4_7) k4_8) k4_9) k4_10) k4_11) k4_12) k4_13) k4_14) k4_15) k4_16) k4_17) k4_18) k4_19) k4_20) k4_21) k4_22) k4_23) k4_24) k4_25) k4_26) k4_27) k4_28) k4_29) k4_30) k4_31)
end Go.Proofs.YtjabllhapfphoaaGreatDoor
