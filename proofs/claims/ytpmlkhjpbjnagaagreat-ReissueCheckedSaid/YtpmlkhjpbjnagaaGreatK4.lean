/- part -/
import Derived.Test.YtpmlkhjpbjnagaaGreatRows
import Derived.JoinedCond
import Derived.KernelRfl
namespace Go.Proofs.YtpmlkhjpbjnagaaGreat
open Go
set_option maxRecDepth 100000
theorem gG{a b:Bool}(h1:a=true)(h2:b=true):(a&&b)=true:=by rw[h1,h2];rfl
theorem ahN:(Rows.reissueCheckedRow.wf (OpenSpec.ofChange (OpenSpec.ofChange Rows.reissueCheckedSpec).bare))=true:=by kernel_rfl
theorem ahO:(laidOutB Tryz.pinned.checked.prog)=true:=by kernel_rfl
theorem ahP:(mapsRowed Tryz.pinned.checked.prog)=true:=by kernel_rfl
theorem ahQ:(Tryz.f4.params.all (Tryz.pinned.checked.prog.readableRec ·))=true:=by kernel_rfl
theorem ahR:(namedTie Tryz.pinned.checked.prog Rows.reissueCheckedRow.named (OpenSpec.ofChange Rows.reissueCheckedSpec).bare.vars)=true:=by kernel_rfl
theorem ahS:(Rows.reissueCheckedRow.stops==[])=true:=by kernel_rfl
theorem ahT:(Tryz.pinned.checked.prog.stops==[])=true:=by kernel_rfl
theorem ahU:(Rows.reissueCheckedRow.knobs==[])=true:=by kernel_rfl
theorem ahV:(Tryz.pinned.checked.prog.stopKnobs==[])=true:=by kernel_rfl
theorem ahW:(Rows.reissueCheckedRow.inPlace==Tryz.pinned.checked.prog.inPlace 4)=true:=by kernel_rfl
theorem YG:(Rows.reissueCheckedRow.unfollowed==Tryz.pinned.checked.prog.unfollowed 4)=true:=by kernel_rfl
theorem YH:(Rows.reissueCheckedRow.recurses==Tryz.pinned.checked.prog.recurses 4)=true:=by kernel_rfl
theorem YI:(Rows.reissueCheckedRow.named==Tryz.pinned.checked.prog.varsNamed 4)=true:=by kernel_rfl
theorem YJ:(Rows.reissueCheckedRow.maps==(Tryz.f4.params.toList++(OpenSpec.ofChange Rows.reissueCheckedSpec).bare.plain.varTypes Tryz.pinned.checked.prog).any (Tryz.pinned.checked.prog.mapsRec ·))=true:=by kernel_rfl
theorem YK:(Rows.reissueCheckedRow.ifaces==(Tryz.f4.params.toList++(OpenSpec.ofChange Rows.reissueCheckedSpec).bare.plain.varTypes Tryz.pinned.checked.prog).any (Tryz.pinned.checked.prog.ifacesRec ·))=true:=by kernel_rfl
theorem YL:(Rows.reissueCheckedRow.mapsOut==Tryz.pinned.checked.prog.mapsAmong Tryz.f4.resultTypes.toList)=true:=by kernel_rfl
theorem YM:(Rows.reissueCheckedRow.loops==(Tryz.f4.params.toList++(OpenSpec.ofChange Rows.reissueCheckedSpec).bare.plain.varTypes Tryz.pinned.checked.prog).any (Tryz.pinned.checked.prog.loopsFrom ·))=true:=by kernel_rfl
theorem YN:(Rows.reissueCheckedRow.wideKeys==(Tryz.f4.params.toList++(OpenSpec.ofChange Rows.reissueCheckedSpec).bare.plain.varTypes Tryz.pinned.checked.prog++Tryz.f4.resultTypes.toList).any (Tryz.pinned.checked.prog.wideKeysFrom ·))=true:=by kernel_rfl
theorem YO:((OpenSpec.ofChange Rows.reissueCheckedSpec).bare.vars.all (Tryz.pinned.checked.prog.varReadable ·))=true:=by kernel_rfl
theorem YP:(Tryz.f4.resultTypes.all (fun t=>Tryz.pinned.checked.prog.readableRec t&&decide (t<Tryz.pinned.checked.prog.types.size)))=true:=by kernel_rfl
theorem YQ:(Rows.reissueCheckedRow.ifacesOut==Tryz.f4.resultTypes.toList.any (Tryz.pinned.checked.prog.ifacesRec ·))=true:=by kernel_rfl
theorem YR:(Rows.reissueCheckedRow.loopsOut==Tryz.f4.resultTypes.toList.any (Tryz.pinned.checked.prog.loopsFrom ·))=true:=by kernel_rfl
theorem YS:(Rows.reissueCheckedRow.plainKeys==Tryz.pinned.checked.prog.plainKeys)=true:=by kernel_rfl
theorem YT:(Rows.reissueCheckedRow.shortTexts.isNone)=true:=by kernel_rfl
theorem YU:(Tryz.pinned.checked.prog.stopsHeard)=true:=by kernel_rfl
theorem YV:(Tryz.pinned.checked.prog.mayEnter)=true:=by kernel_rfl
theorem YW:(Rows.reissueCheckedRow.lifted==Tryz.pinned.checked.prog.liftsFinal)=true:=by kernel_rfl
theorem YX:(Tryz.pinned.checked.prog.make==some Rows.reissueCheckedRow.make)=true:=by kernel_rfl
theorem YY:(Rows.reissueCheckedRow.kinds==(if Rows.reissueCheckedRow.domain.isEmpty then[] else Tryz.f4.params.toList.map fun t=>match Tryz.pinned.checked.prog.underlying t with|some (.int k)=>some k|_=>none))=true:=by kernel_rfl
theorem YZ:(Rows.reissueCheckedRow.pinned==Rows.reissueCheckedRow.pinnedBy)=true:=by kernel_rfl
theorem Y0:(Rows.reissueCheckedRow.veiled==(Tryz.f4.params.toList++(OpenSpec.ofChange Rows.reissueCheckedSpec).bare.plain.varTypes Tryz.pinned.checked.prog++Tryz.f4.resultTypes.toList).any (Tryz.pinned.checked.prog.veiledRec ·))=true:=by kernel_rfl
theorem Y1:(Rows.reissueCheckedRow.veiledFits Tryz.pinned.checked.prog Tryz.f4.params.toList (Tryz.f4.params.toList++(OpenSpec.ofChange Rows.reissueCheckedSpec).bare.plain.varTypes Tryz.pinned.checked.prog++Tryz.f4.resultTypes.toList))=true:=by kernel_rfl
theorem Vg:joinedFacts Tryz.pinned.checked.prog 4 Tryz.f4 (OpenSpec.ofChange Rows.reissueCheckedSpec).bare Rows.reissueCheckedRow=true:=(gG (gG (gG (gG (gG (gG (gG (gG (gG (gG (gG (gG (gG (gG (gG (gG (gG (gG (gG (gG (gG (gG (gG (gG (gG (gG (gG (gG (gG (gG (gG ahN ahO) ahP) ahQ) ahR) ahS) ahT) ahU) ahV) ahW) YG) YH) YI) YJ) YK) YL) YM) YN) YO) YP) YQ) YR) YS) YT) YU) YV) YW) YX) YY) YZ) Y0) Y1)
end Go.Proofs.YtpmlkhjpbjnagaaGreat
