/- part -/
import Derived.Test.YtkhfnbfpgcjllaaGreatDoorRows
import Derived.JoinedCond
import Derived.KernelRfl
namespace Go.Proofs.YtkhfnbfpgcjllaaGreatDoor
open Go
set_option maxRecDepth 100000
theorem cI{a b:Bool}(h1:a=true)(h2:b=true):(a&&b)=true:=by rw[h1,h2];rfl
theorem agC:(Rows.derivePastRow.wf (OpenSpec.ofChange (OpenSpec.ofChange Rows.derivePastSpec).bare))=true:=by kernel_rfl
theorem agD:(laidOutB Tryz.pinned.checked.prog)=true:=by kernel_rfl
theorem agE:(mapsRowed Tryz.pinned.checked.prog)=true:=by kernel_rfl
theorem agF:(Tryz.f5.params.all (Tryz.pinned.checked.prog.readableRec ·))=true:=by kernel_rfl
theorem agG:(namedTie Tryz.pinned.checked.prog Rows.derivePastRow.named (OpenSpec.ofChange Rows.derivePastSpec).bare.vars)=true:=by kernel_rfl
theorem agH:(Rows.derivePastRow.stops==[])=true:=by kernel_rfl
theorem agI:(Tryz.pinned.checked.prog.stops==[])=true:=by kernel_rfl
theorem agJ:(Rows.derivePastRow.knobs==[])=true:=by kernel_rfl
theorem agK:(Tryz.pinned.checked.prog.stopKnobs==[])=true:=by kernel_rfl
theorem agL:(Rows.derivePastRow.inPlace==Tryz.pinned.checked.prog.inPlace 5)=true:=by kernel_rfl
theorem YZ:(Rows.derivePastRow.unfollowed==Tryz.pinned.checked.prog.unfollowed 5)=true:=by kernel_rfl
theorem Y0:(Rows.derivePastRow.recurses==Tryz.pinned.checked.prog.recurses 5)=true:=by kernel_rfl
theorem Y1:(Rows.derivePastRow.named==Tryz.pinned.checked.prog.varsNamed 5)=true:=by kernel_rfl
theorem Y2:(Rows.derivePastRow.maps==(Tryz.f5.params.toList++(OpenSpec.ofChange Rows.derivePastSpec).bare.plain.varTypes Tryz.pinned.checked.prog).any (Tryz.pinned.checked.prog.mapsRec ·))=true:=by kernel_rfl
theorem Y3:(Rows.derivePastRow.ifaces==(Tryz.f5.params.toList++(OpenSpec.ofChange Rows.derivePastSpec).bare.plain.varTypes Tryz.pinned.checked.prog).any (Tryz.pinned.checked.prog.ifacesRec ·))=true:=by kernel_rfl
theorem Y4:(Rows.derivePastRow.mapsOut==Tryz.pinned.checked.prog.mapsAmong Tryz.f5.resultTypes.toList)=true:=by kernel_rfl
theorem Y5:(Rows.derivePastRow.loops==(Tryz.f5.params.toList++(OpenSpec.ofChange Rows.derivePastSpec).bare.plain.varTypes Tryz.pinned.checked.prog).any (Tryz.pinned.checked.prog.loopsFrom ·))=true:=by kernel_rfl
theorem Y6:(Rows.derivePastRow.wideKeys==(Tryz.f5.params.toList++(OpenSpec.ofChange Rows.derivePastSpec).bare.plain.varTypes Tryz.pinned.checked.prog++Tryz.f5.resultTypes.toList).any (Tryz.pinned.checked.prog.wideKeysFrom ·))=true:=by kernel_rfl
theorem Y7:((OpenSpec.ofChange Rows.derivePastSpec).bare.vars.all (Tryz.pinned.checked.prog.varReadable ·))=true:=by kernel_rfl
theorem Y8:(Tryz.f5.resultTypes.all (fun t=>Tryz.pinned.checked.prog.readableRec t&&decide (t<Tryz.pinned.checked.prog.types.size)))=true:=by kernel_rfl
theorem Y9:(Rows.derivePastRow.ifacesOut==Tryz.f5.resultTypes.toList.any (Tryz.pinned.checked.prog.ifacesRec ·))=true:=by kernel_rfl
theorem Z0:(Rows.derivePastRow.loopsOut==Tryz.f5.resultTypes.toList.any (Tryz.pinned.checked.prog.loopsFrom ·))=true:=by kernel_rfl
theorem Z1:(Rows.derivePastRow.plainKeys==Tryz.pinned.checked.prog.plainKeys)=true:=by kernel_rfl
theorem Z2:(Rows.derivePastRow.shortTexts.isNone)=true:=by kernel_rfl
theorem Z3:(Tryz.pinned.checked.prog.stopsHeard)=true:=by kernel_rfl
theorem Z4:(Tryz.pinned.checked.prog.mayEnter)=true:=by kernel_rfl
theorem Z5:(Rows.derivePastRow.lifted==Tryz.pinned.checked.prog.liftsFinal)=true:=by kernel_rfl
theorem Z6:(Tryz.pinned.checked.prog.make==some Rows.derivePastRow.make)=true:=by kernel_rfl
theorem Z7:(Rows.derivePastRow.kinds==(if Rows.derivePastRow.domain.isEmpty then[] else Tryz.f5.params.toList.map fun t=>match Tryz.pinned.checked.prog.underlying t with|some (.int k)=>some k|_=>none))=true:=by kernel_rfl
theorem Z8:(Rows.derivePastRow.pinned==Rows.derivePastRow.pinnedBy)=true:=by kernel_rfl
theorem Z9:(Rows.derivePastRow.veiled==(Tryz.f5.params.toList++(OpenSpec.ofChange Rows.derivePastSpec).bare.plain.varTypes Tryz.pinned.checked.prog++Tryz.f5.resultTypes.toList).any (Tryz.pinned.checked.prog.veiledRec ·))=true:=by kernel_rfl
theorem aaa:(Rows.derivePastRow.veiledFits Tryz.pinned.checked.prog Tryz.f5.params.toList (Tryz.f5.params.toList++(OpenSpec.ofChange Rows.derivePastSpec).bare.plain.varTypes Tryz.pinned.checked.prog++Tryz.f5.resultTypes.toList))=true:=by kernel_rfl
theorem V4:joinedFacts Tryz.pinned.checked.prog 5 Tryz.f5 (OpenSpec.ofChange Rows.derivePastSpec).bare Rows.derivePastRow=true:=(cI (cI (cI (cI (cI (cI (cI (cI (cI (cI (cI (cI (cI (cI (cI (cI (cI (cI (cI (cI (cI (cI (cI (cI (cI (cI (cI (cI (cI (cI (cI agC agD) agE) agF) agG) agH) agI) agJ) agK) agL) YZ) Y0) Y1) Y2) Y3) Y4) Y5) Y6) Y7) Y8) Y9) Z0) Z1) Z2) Z3) Z4) Z5) Z6) Z7) Z8) Z9) aaa)
end Go.Proofs.YtkhfnbfpgcjllaaGreatDoor
