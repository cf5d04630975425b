/- The closed facts of the row, one by one. No condition. -/
import Derived.Test.YtadeibjelmcdgaaGreatRows
import Derived.JoinedCond
import Derived.KernelRfl
namespace Go.Proofs.YtadeibjelmcdgaaGreat
open Go
set_option maxRecDepth 100000
theorem dU{a b:Bool}(h1:a=true)(h2:b=true):(a&&b)=true:=by rw[h1,h2];rfl
theorem Kl:(Rows.amendHiddenRow.wf (OpenSpec.ofChange (OpenSpec.ofChange Rows.amendHiddenSpec).bare))=true:=by kernel_rfl
theorem Km:(laidOutB Tryz.pinned.checked.prog)=true:=by kernel_rfl
theorem Kn:(mapsRowed Tryz.pinned.checked.prog)=true:=by kernel_rfl
theorem Ko:(Tryz.f3.params.all (Tryz.pinned.checked.prog.readableRec ·))=true:=by kernel_rfl
theorem Kp:(namedTie Tryz.pinned.checked.prog Rows.amendHiddenRow.named (OpenSpec.ofChange Rows.amendHiddenSpec).bare.vars)=true:=by kernel_rfl
theorem Kq:(Rows.amendHiddenRow.stops==[])=true:=by kernel_rfl
theorem Kr:(Tryz.pinned.checked.prog.stops==[])=true:=by kernel_rfl
theorem Ks:(Rows.amendHiddenRow.knobs==[])=true:=by kernel_rfl
theorem Kt:(Tryz.pinned.checked.prog.stopKnobs==[])=true:=by kernel_rfl
theorem Ku:(Rows.amendHiddenRow.inPlace==Tryz.pinned.checked.prog.inPlace 3)=true:=by kernel_rfl
theorem HG:(Rows.amendHiddenRow.unfollowed==Tryz.pinned.checked.prog.unfollowed 3)=true:=by kernel_rfl
theorem HH:(Rows.amendHiddenRow.recurses==Tryz.pinned.checked.prog.recurses 3)=true:=by kernel_rfl
theorem HI:(Rows.amendHiddenRow.named==Tryz.pinned.checked.prog.varsNamed 3)=true:=by kernel_rfl
theorem HJ:(Rows.amendHiddenRow.maps==(Tryz.f3.params.toList++(OpenSpec.ofChange Rows.amendHiddenSpec).bare.plain.varTypes Tryz.pinned.checked.prog).any (Tryz.pinned.checked.prog.mapsRec ·))=true:=by kernel_rfl
theorem HK:(Rows.amendHiddenRow.ifaces==(Tryz.f3.params.toList++(OpenSpec.ofChange Rows.amendHiddenSpec).bare.plain.varTypes Tryz.pinned.checked.prog).any (Tryz.pinned.checked.prog.ifacesRec ·))=true:=by kernel_rfl
theorem HL:(Rows.amendHiddenRow.mapsOut==Tryz.pinned.checked.prog.mapsAmong Tryz.f3.resultTypes.toList)=true:=by kernel_rfl
theorem HM:(Rows.amendHiddenRow.loops==(Tryz.f3.params.toList++(OpenSpec.ofChange Rows.amendHiddenSpec).bare.plain.varTypes Tryz.pinned.checked.prog).any (Tryz.pinned.checked.prog.loopsFrom ·))=true:=by kernel_rfl
theorem HN:(Rows.amendHiddenRow.wideKeys==(Tryz.f3.params.toList++(OpenSpec.ofChange Rows.amendHiddenSpec).bare.plain.varTypes Tryz.pinned.checked.prog++Tryz.f3.resultTypes.toList).any (Tryz.pinned.checked.prog.wideKeysFrom ·))=true:=by kernel_rfl
theorem HO:((OpenSpec.ofChange Rows.amendHiddenSpec).bare.vars.all (Tryz.pinned.checked.prog.varReadable ·))=true:=by kernel_rfl
theorem HP:(Tryz.f3.resultTypes.all (fun t=>Tryz.pinned.checked.prog.readableRec t&&decide (t<Tryz.pinned.checked.prog.types.size)))=true:=by kernel_rfl
theorem HQ:(Rows.amendHiddenRow.ifacesOut==Tryz.f3.resultTypes.toList.any (Tryz.pinned.checked.prog.ifacesRec ·))=true:=by kernel_rfl
theorem HR:(Rows.amendHiddenRow.loopsOut==Tryz.f3.resultTypes.toList.any (Tryz.pinned.checked.prog.loopsFrom ·))=true:=by kernel_rfl
theorem HS:(Rows.amendHiddenRow.plainKeys==Tryz.pinned.checked.prog.plainKeys)=true:=by kernel_rfl
theorem HT:(Rows.amendHiddenRow.shortTexts.isNone)=true:=by kernel_rfl
theorem HU:(Tryz.pinned.checked.prog.stopsHeard)=true:=by kernel_rfl
theorem HV:(Tryz.pinned.checked.prog.mayEnter)=true:=by kernel_rfl
theorem HX:(Rows.amendHiddenRow.lifted==Tryz.pinned.checked.prog.liftsFinal)=true:=by kernel_rfl
theorem HY:(Tryz.pinned.checked.prog.make==some Rows.amendHiddenRow.make)=true:=by kernel_rfl
theorem HZ:(Rows.amendHiddenRow.kinds==(if Rows.amendHiddenRow.domain.isEmpty then[] else Tryz.f3.params.toList.map fun t=>match Tryz.pinned.checked.prog.underlying t with|some (.int k)=>some k|_=>none))=true:=by kernel_rfl
theorem H3:(Rows.amendHiddenRow.pinned==Rows.amendHiddenRow.pinnedBy)=true:=by kernel_rfl
theorem H4:(Rows.amendHiddenRow.veiled==(Tryz.f3.params.toList++(OpenSpec.ofChange Rows.amendHiddenSpec).bare.plain.varTypes Tryz.pinned.checked.prog++Tryz.f3.resultTypes.toList).any (Tryz.pinned.checked.prog.veiledRec ·))=true:=by kernel_rfl
theorem H5:(Rows.amendHiddenRow.veiledFits Tryz.pinned.checked.prog Tryz.f3.params.toList (Tryz.f3.params.toList++(OpenSpec.ofChange Rows.amendHiddenSpec).bare.plain.varTypes Tryz.pinned.checked.prog++Tryz.f3.resultTypes.toList))=true:=by kernel_rfl
theorem FM:joinedFacts Tryz.pinned.checked.prog 3 Tryz.f3 (OpenSpec.ofChange Rows.amendHiddenSpec).bare Rows.amendHiddenRow=true:=(dU (dU (dU (dU (dU (dU (dU (dU (dU (dU (dU (dU (dU (dU (dU (dU (dU (dU (dU (dU (dU (dU (dU (dU (dU (dU (dU (dU (dU (dU (dU Kl Km) Kn) Ko) Kp) Kq) Kr) Ks) Kt) Ku) HG) HH) HI) HJ) HK) HL) HM) HN) HO) HP) HQ) HR) HS) HT) HU) HV) HX) HY) HZ) H3) H4) H5)
end Go.Proofs.YtadeibjelmcdgaaGreat
