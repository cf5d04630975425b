/- part -/
import Derived.Test.YtpmlkhjpbjnagaaGreatRows
import Derived.JoinedCond
import Derived.KernelRfl
namespace Go.Proofs.YtpmlkhjpbjnagaaGreat
open Go
set_option maxRecDepth 100000
theorem gI{a b:Bool}(h1:a=true)(h2:b=true):(a&&b)=true:=by rw[h1,h2];rfl
theorem ac4:(Rows.reissueOrderRow.wf (OpenSpec.ofChange (OpenSpec.ofChange Rows.reissueOrderSpec).bare))=true:=by kernel_rfl
theorem ac5:(laidOutB Tryz.pinned.checked.prog)=true:=by kernel_rfl
theorem ac6:(mapsRowed Tryz.pinned.checked.prog)=true:=by kernel_rfl
theorem ac7:(Tryz.f5.params.all (Tryz.pinned.checked.prog.readableRec ·))=true:=by kernel_rfl
theorem ac8:(namedTie Tryz.pinned.checked.prog Rows.reissueOrderRow.named (OpenSpec.ofChange Rows.reissueOrderSpec).bare.vars)=true:=by kernel_rfl
theorem ac9:(Rows.reissueOrderRow.stops==[])=true:=by kernel_rfl
theorem ada:(Tryz.pinned.checked.prog.stops==[])=true:=by kernel_rfl
theorem adb:(Rows.reissueOrderRow.knobs==[])=true:=by kernel_rfl
theorem ade:(Tryz.pinned.checked.prog.stopKnobs==[])=true:=by kernel_rfl
theorem adf:(Rows.reissueOrderRow.inPlace==Tryz.pinned.checked.prog.inPlace 5)=true:=by kernel_rfl
theorem XN:(Rows.reissueOrderRow.unfollowed==Tryz.pinned.checked.prog.unfollowed 5)=true:=by kernel_rfl
theorem XO:(Rows.reissueOrderRow.recurses==Tryz.pinned.checked.prog.recurses 5)=true:=by kernel_rfl
theorem XP:(Rows.reissueOrderRow.named==Tryz.pinned.checked.prog.varsNamed 5)=true:=by kernel_rfl
theorem XQ:(Rows.reissueOrderRow.maps==(Tryz.f5.params.toList++(OpenSpec.ofChange Rows.reissueOrderSpec).bare.plain.varTypes Tryz.pinned.checked.prog).any (Tryz.pinned.checked.prog.mapsRec ·))=true:=by kernel_rfl
theorem XR:(Rows.reissueOrderRow.ifaces==(Tryz.f5.params.toList++(OpenSpec.ofChange Rows.reissueOrderSpec).bare.plain.varTypes Tryz.pinned.checked.prog).any (Tryz.pinned.checked.prog.ifacesRec ·))=true:=by kernel_rfl
theorem XS:(Rows.reissueOrderRow.mapsOut==Tryz.pinned.checked.prog.mapsAmong Tryz.f5.resultTypes.toList)=true:=by kernel_rfl
theorem XT:(Rows.reissueOrderRow.loops==(Tryz.f5.params.toList++(OpenSpec.ofChange Rows.reissueOrderSpec).bare.plain.varTypes Tryz.pinned.checked.prog).any (Tryz.pinned.checked.prog.loopsFrom ·))=true:=by kernel_rfl
theorem XU:(Rows.reissueOrderRow.wideKeys==(Tryz.f5.params.toList++(OpenSpec.ofChange Rows.reissueOrderSpec).bare.plain.varTypes Tryz.pinned.checked.prog++Tryz.f5.resultTypes.toList).any (Tryz.pinned.checked.prog.wideKeysFrom ·))=true:=by kernel_rfl
theorem XW:((OpenSpec.ofChange Rows.reissueOrderSpec).bare.vars.all (Tryz.pinned.checked.prog.varReadable ·))=true:=by kernel_rfl
theorem XX:(Tryz.f5.resultTypes.all (fun t=>Tryz.pinned.checked.prog.readableRec t&&decide (t<Tryz.pinned.checked.prog.types.size)))=true:=by kernel_rfl
theorem XY:(Rows.reissueOrderRow.ifacesOut==Tryz.f5.resultTypes.toList.any (Tryz.pinned.checked.prog.ifacesRec ·))=true:=by kernel_rfl
theorem XZ:(Rows.reissueOrderRow.loopsOut==Tryz.f5.resultTypes.toList.any (Tryz.pinned.checked.prog.loopsFrom ·))=true:=by kernel_rfl
theorem X0:(Rows.reissueOrderRow.plainKeys==Tryz.pinned.checked.prog.plainKeys)=true:=by kernel_rfl
theorem X1:(Rows.reissueOrderRow.shortTexts.isNone)=true:=by kernel_rfl
theorem X2:(Tryz.pinned.checked.prog.stopsHeard)=true:=by kernel_rfl
theorem X3:(Tryz.pinned.checked.prog.mayEnter)=true:=by kernel_rfl
theorem X4:(Rows.reissueOrderRow.lifted==Tryz.pinned.checked.prog.liftsFinal)=true:=by kernel_rfl
theorem X6:(Tryz.pinned.checked.prog.make==some Rows.reissueOrderRow.make)=true:=by kernel_rfl
theorem X7:(Rows.reissueOrderRow.kinds==(if Rows.reissueOrderRow.domain.isEmpty then[] else Tryz.f5.params.toList.map fun t=>match Tryz.pinned.checked.prog.underlying t with|some (.int k)=>some k|_=>none))=true:=by kernel_rfl
theorem X8:(Rows.reissueOrderRow.pinned==Rows.reissueOrderRow.pinnedBy)=true:=by kernel_rfl
theorem X9:(Rows.reissueOrderRow.veiled==(Tryz.f5.params.toList++(OpenSpec.ofChange Rows.reissueOrderSpec).bare.plain.varTypes Tryz.pinned.checked.prog++Tryz.f5.resultTypes.toList).any (Tryz.pinned.checked.prog.veiledRec ·))=true:=by kernel_rfl
theorem Ya:(Rows.reissueOrderRow.veiledFits Tryz.pinned.checked.prog Tryz.f5.params.toList (Tryz.f5.params.toList++(OpenSpec.ofChange Rows.reissueOrderSpec).bare.plain.varTypes Tryz.pinned.checked.prog++Tryz.f5.resultTypes.toList))=true:=by kernel_rfl
theorem Ue:joinedFacts Tryz.pinned.checked.prog 5 Tryz.f5 (OpenSpec.ofChange Rows.reissueOrderSpec).bare Rows.reissueOrderRow=true:=(gI (gI (gI (gI (gI (gI (gI (gI (gI (gI (gI (gI (gI (gI (gI (gI (gI (gI (gI (gI (gI (gI (gI (gI (gI (gI (gI (gI (gI (gI (gI ac4 ac5) ac6) ac7) ac8) ac9) ada) adb) ade) adf) XN) XO) XP) XQ) XR) XS) XT) XU) XW) XX) XY) XZ) X0) X1) X2) X3) X4) X6) X7) X8) X9) Ya)
end Go.Proofs.YtpmlkhjpbjnagaaGreat
