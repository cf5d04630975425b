/- part -/
import Derived.Test.YtkhfnbfpgcjllaaGreatDoorRows
import Derived.JoinedCond
import Derived.KernelRfl
namespace Go.Proofs.YtkhfnbfpgcjllaaGreatDoor
open Go
set_option maxRecDepth 100000
theorem cI{a b:Bool}(h1:a=true)(h2:b=true):(a&&b)=true:=by rw[h1,h2];rfl
theorem akQ:(Rows.deriveReadsRow.wf (OpenSpec.ofChange (OpenSpec.ofChange Rows.deriveReadsSpec).bare))=true:=by kernel_rfl
theorem akR:(laidOutB Tryz.pinned.checked.prog)=true:=by kernel_rfl
theorem akS:(mapsRowed Tryz.pinned.checked.prog)=true:=by kernel_rfl
theorem akT:(Tryz.f6.params.all (Tryz.pinned.checked.prog.readableRec ·))=true:=by kernel_rfl
theorem akU:(namedTie Tryz.pinned.checked.prog Rows.deriveReadsRow.named (OpenSpec.ofChange Rows.deriveReadsSpec).bare.vars)=true:=by kernel_rfl
theorem akV:(Rows.deriveReadsRow.stops==[])=true:=by kernel_rfl
theorem akW:(Tryz.pinned.checked.prog.stops==[])=true:=by kernel_rfl
theorem akX:(Rows.deriveReadsRow.knobs==[])=true:=by kernel_rfl
theorem akY:(Tryz.pinned.checked.prog.stopKnobs==[])=true:=by kernel_rfl
theorem akZ:(Rows.deriveReadsRow.inPlace==Tryz.pinned.checked.prog.inPlace 6)=true:=by kernel_rfl
theorem abn:(Rows.deriveReadsRow.unfollowed==Tryz.pinned.checked.prog.unfollowed 6)=true:=by kernel_rfl
theorem abo:(Rows.deriveReadsRow.recurses==Tryz.pinned.checked.prog.recurses 6)=true:=by kernel_rfl
theorem abp:(Rows.deriveReadsRow.named==Tryz.pinned.checked.prog.varsNamed 6)=true:=by kernel_rfl
theorem abq:(Rows.deriveReadsRow.maps==(Tryz.f6.params.toList++(OpenSpec.ofChange Rows.deriveReadsSpec).bare.plain.varTypes Tryz.pinned.checked.prog).any (Tryz.pinned.checked.prog.mapsRec ·))=true:=by kernel_rfl
theorem abr:(Rows.deriveReadsRow.ifaces==(Tryz.f6.params.toList++(OpenSpec.ofChange Rows.deriveReadsSpec).bare.plain.varTypes Tryz.pinned.checked.prog).any (Tryz.pinned.checked.prog.ifacesRec ·))=true:=by kernel_rfl
theorem abt:(Rows.deriveReadsRow.mapsOut==Tryz.pinned.checked.prog.mapsAmong Tryz.f6.resultTypes.toList)=true:=by kernel_rfl
theorem abu:(Rows.deriveReadsRow.loops==(Tryz.f6.params.toList++(OpenSpec.ofChange Rows.deriveReadsSpec).bare.plain.varTypes Tryz.pinned.checked.prog).any (Tryz.pinned.checked.prog.loopsFrom ·))=true:=by kernel_rfl
theorem abv:(Rows.deriveReadsRow.wideKeys==(Tryz.f6.params.toList++(OpenSpec.ofChange Rows.deriveReadsSpec).bare.plain.varTypes Tryz.pinned.checked.prog++Tryz.f6.resultTypes.toList).any (Tryz.pinned.checked.prog.wideKeysFrom ·))=true:=by kernel_rfl
theorem abw:((OpenSpec.ofChange Rows.deriveReadsSpec).bare.vars.all (Tryz.pinned.checked.prog.varReadable ·))=true:=by kernel_rfl
theorem abx:(Tryz.f6.resultTypes.all (fun t=>Tryz.pinned.checked.prog.readableRec t&&decide (t<Tryz.pinned.checked.prog.types.size)))=true:=by kernel_rfl
theorem aby:(Rows.deriveReadsRow.ifacesOut==Tryz.f6.resultTypes.toList.any (Tryz.pinned.checked.prog.ifacesRec ·))=true:=by kernel_rfl
theorem abz:(Rows.deriveReadsRow.loopsOut==Tryz.f6.resultTypes.toList.any (Tryz.pinned.checked.prog.loopsFrom ·))=true:=by kernel_rfl
theorem abA:(Rows.deriveReadsRow.plainKeys==Tryz.pinned.checked.prog.plainKeys)=true:=by kernel_rfl
theorem abB:(Rows.deriveReadsRow.shortTexts.isNone)=true:=by kernel_rfl
theorem abC:(Tryz.pinned.checked.prog.stopsHeard)=true:=by kernel_rfl
theorem abD:(Tryz.pinned.checked.prog.mayEnter)=true:=by kernel_rfl
theorem abE:(Rows.deriveReadsRow.lifted==Tryz.pinned.checked.prog.liftsFinal)=true:=by kernel_rfl
theorem abF:(Tryz.pinned.checked.prog.make==some Rows.deriveReadsRow.make)=true:=by kernel_rfl
theorem abG:(Rows.deriveReadsRow.kinds==(if Rows.deriveReadsRow.domain.isEmpty then[] else Tryz.f6.params.toList.map fun t=>match Tryz.pinned.checked.prog.underlying t with|some (.int k)=>some k|_=>none))=true:=by kernel_rfl
theorem abH:(Rows.deriveReadsRow.pinned==Rows.deriveReadsRow.pinnedBy)=true:=by kernel_rfl
theorem abI:(Rows.deriveReadsRow.veiled==(Tryz.f6.params.toList++(OpenSpec.ofChange Rows.deriveReadsSpec).bare.plain.varTypes Tryz.pinned.checked.prog++Tryz.f6.resultTypes.toList).any (Tryz.pinned.checked.prog.veiledRec ·))=true:=by kernel_rfl
theorem abJ:(Rows.deriveReadsRow.veiledFits Tryz.pinned.checked.prog Tryz.f6.params.toList (Tryz.f6.params.toList++(OpenSpec.ofChange Rows.deriveReadsSpec).bare.plain.varTypes Tryz.pinned.checked.prog++Tryz.f6.resultTypes.toList))=true:=by kernel_rfl
theorem XA:joinedFacts Tryz.pinned.checked.prog 6 Tryz.f6 (OpenSpec.ofChange Rows.deriveReadsSpec).bare Rows.deriveReadsRow=true:=(cI (cI (cI (cI (cI (cI (cI (cI (cI (cI (cI (cI (cI (cI (cI (cI (cI (cI (cI (cI (cI (cI (cI (cI (cI (cI (cI (cI (cI (cI (cI akQ akR) akS) akT) akU) akV) akW) akX) akY) akZ) abn) abo) abp) abq) abr) abt) abu) abv) abw) abx) aby) abz) abA) abB) abC) abD) abE) abF) abG) abH) abI) abJ)
end Go.Proofs.YtkhfnbfpgcjllaaGreatDoor
