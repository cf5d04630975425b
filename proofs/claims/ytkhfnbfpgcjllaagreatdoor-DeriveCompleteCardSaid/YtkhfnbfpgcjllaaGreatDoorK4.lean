/- part -/
import Derived.Test.YtkhfnbfpgcjllaaGreatDoorRows
import Derived.JoinedCond
import Derived.KernelRfl
namespace Go.Proofs.YtkhfnbfpgcjllaaGreatDoor
open Go
set_option maxRecDepth 100000
theorem cI{a b:Bool}(h1:a=true)(h2:b=true):(a&&b)=true:=by rw[h1,h2];rfl
theorem al0:(Rows.deriveCompleteRow.wf (OpenSpec.ofChange (OpenSpec.ofChange Rows.deriveCompleteSpec).bare))=true:=by kernel_rfl
theorem al1:(laidOutB Tryz.pinned.checked.prog)=true:=by kernel_rfl
theorem al2:(mapsRowed Tryz.pinned.checked.prog)=true:=by kernel_rfl
theorem al3:(Tryz.f4.params.all (Tryz.pinned.checked.prog.readableRec ·))=true:=by kernel_rfl
theorem al4:(namedTie Tryz.pinned.checked.prog Rows.deriveCompleteRow.named (OpenSpec.ofChange Rows.deriveCompleteSpec).bare.vars)=true:=by kernel_rfl
theorem al5:(Rows.deriveCompleteRow.stops==[])=true:=by kernel_rfl
theorem al6:(Tryz.pinned.checked.prog.stops==[])=true:=by kernel_rfl
theorem al7:(Rows.deriveCompleteRow.knobs==[])=true:=by kernel_rfl
theorem al8:(Tryz.pinned.checked.prog.stopKnobs==[])=true:=by kernel_rfl
theorem al9:(Rows.deriveCompleteRow.inPlace==Tryz.pinned.checked.prog.inPlace 4)=true:=by kernel_rfl
theorem abW:(Rows.deriveCompleteRow.unfollowed==Tryz.pinned.checked.prog.unfollowed 4)=true:=by kernel_rfl
theorem abX:(Rows.deriveCompleteRow.recurses==Tryz.pinned.checked.prog.recurses 4)=true:=by kernel_rfl
theorem abY:(Rows.deriveCompleteRow.named==Tryz.pinned.checked.prog.varsNamed 4)=true:=by kernel_rfl
theorem abZ:(Rows.deriveCompleteRow.maps==(Tryz.f4.params.toList++(OpenSpec.ofChange Rows.deriveCompleteSpec).bare.plain.varTypes Tryz.pinned.checked.prog).any (Tryz.pinned.checked.prog.mapsRec ·))=true:=by kernel_rfl
theorem ab0:(Rows.deriveCompleteRow.ifaces==(Tryz.f4.params.toList++(OpenSpec.ofChange Rows.deriveCompleteSpec).bare.plain.varTypes Tryz.pinned.checked.prog).any (Tryz.pinned.checked.prog.ifacesRec ·))=true:=by kernel_rfl
theorem ab1:(Rows.deriveCompleteRow.mapsOut==Tryz.pinned.checked.prog.mapsAmong Tryz.f4.resultTypes.toList)=true:=by kernel_rfl
theorem ab2:(Rows.deriveCompleteRow.loops==(Tryz.f4.params.toList++(OpenSpec.ofChange Rows.deriveCompleteSpec).bare.plain.varTypes Tryz.pinned.checked.prog).any (Tryz.pinned.checked.prog.loopsFrom ·))=true:=by kernel_rfl
theorem ab3:(Rows.deriveCompleteRow.wideKeys==(Tryz.f4.params.toList++(OpenSpec.ofChange Rows.deriveCompleteSpec).bare.plain.varTypes Tryz.pinned.checked.prog++Tryz.f4.resultTypes.toList).any (Tryz.pinned.checked.prog.wideKeysFrom ·))=true:=by kernel_rfl
theorem ab4:((OpenSpec.ofChange Rows.deriveCompleteSpec).bare.vars.all (Tryz.pinned.checked.prog.varReadable ·))=true:=by kernel_rfl
theorem ab5:(Tryz.f4.resultTypes.all (fun t=>Tryz.pinned.checked.prog.readableRec t&&decide (t<Tryz.pinned.checked.prog.types.size)))=true:=by kernel_rfl
theorem ab6:(Rows.deriveCompleteRow.ifacesOut==Tryz.f4.resultTypes.toList.any (Tryz.pinned.checked.prog.ifacesRec ·))=true:=by kernel_rfl
theorem ab7:(Rows.deriveCompleteRow.loopsOut==Tryz.f4.resultTypes.toList.any (Tryz.pinned.checked.prog.loopsFrom ·))=true:=by kernel_rfl
theorem ab8:(Rows.deriveCompleteRow.plainKeys==Tryz.pinned.checked.prog.plainKeys)=true:=by kernel_rfl
theorem ab9:(Rows.deriveCompleteRow.shortTexts.isNone)=true:=by kernel_rfl
theorem aca:(Tryz.pinned.checked.prog.stopsHeard)=true:=by kernel_rfl
theorem acb:(Tryz.pinned.checked.prog.mayEnter)=true:=by kernel_rfl
theorem acd:(Rows.deriveCompleteRow.lifted==Tryz.pinned.checked.prog.liftsFinal)=true:=by kernel_rfl
theorem ace:(Tryz.pinned.checked.prog.make==some Rows.deriveCompleteRow.make)=true:=by kernel_rfl
theorem acf:(Rows.deriveCompleteRow.kinds==(if Rows.deriveCompleteRow.domain.isEmpty then[] else Tryz.f4.params.toList.map fun t=>match Tryz.pinned.checked.prog.underlying t with|some (.int k)=>some k|_=>none))=true:=by kernel_rfl
theorem acg:(Rows.deriveCompleteRow.pinned==Rows.deriveCompleteRow.pinnedBy)=true:=by kernel_rfl
theorem ach:(Rows.deriveCompleteRow.veiled==(Tryz.f4.params.toList++(OpenSpec.ofChange Rows.deriveCompleteSpec).bare.plain.varTypes Tryz.pinned.checked.prog++Tryz.f4.resultTypes.toList).any (Tryz.pinned.checked.prog.veiledRec ·))=true:=by kernel_rfl
theorem aci:(Rows.deriveCompleteRow.veiledFits Tryz.pinned.checked.prog Tryz.f4.params.toList (Tryz.f4.params.toList++(OpenSpec.ofChange Rows.deriveCompleteSpec).bare.plain.varTypes Tryz.pinned.checked.prog++Tryz.f4.resultTypes.toList))=true:=by kernel_rfl
theorem XO:joinedFacts Tryz.pinned.checked.prog 4 Tryz.f4 (OpenSpec.ofChange Rows.deriveCompleteSpec).bare Rows.deriveCompleteRow=true:=(cI (cI (cI (cI (cI (cI (cI (cI (cI (cI (cI (cI (cI (cI (cI (cI (cI (cI (cI (cI (cI (cI (cI (cI (cI (cI (cI (cI (cI (cI (cI al0 al1) al2) al3) al4) al5) al6) al7) al8) al9) abW) abX) abY) abZ) ab0) ab1) ab2) ab3) ab4) ab5) ab6) ab7) ab8) ab9) aca) acb) acd) ace) acf) acg) ach) aci)
end Go.Proofs.YtkhfnbfpgcjllaaGreatDoor
