/- part -/
import Derived.Test.YtpmlkhjpbjnagaaGreatRows
import Derived.JoinedCond
import Derived.KernelRfl
namespace Go.Proofs.YtpmlkhjpbjnagaaGreat
open Go
set_option maxRecDepth 100000
theorem gH{a b:Bool}(h1:a=true)(h2:b=true):(a&&b)=true:=by rw[h1,h2];rfl
theorem ahe:(Rows.reissueNothingRow.wf (OpenSpec.ofChange (OpenSpec.ofChange Rows.reissueNothingSpec).bare))=true:=by kernel_rfl
theorem ahf:(laidOutB Tryz.pinned.checked.prog)=true:=by kernel_rfl
theorem ahg:(mapsRowed Tryz.pinned.checked.prog)=true:=by kernel_rfl
theorem ahh:(Tryz.f6.params.all (Tryz.pinned.checked.prog.readableRec ·))=true:=by kernel_rfl
theorem ahi:(namedTie Tryz.pinned.checked.prog Rows.reissueNothingRow.named (OpenSpec.ofChange Rows.reissueNothingSpec).bare.vars)=true:=by kernel_rfl
theorem ahj:(Rows.reissueNothingRow.stops==[])=true:=by kernel_rfl
theorem ahk:(Tryz.pinned.checked.prog.stops==[])=true:=by kernel_rfl
theorem ahl:(Rows.reissueNothingRow.knobs==[])=true:=by kernel_rfl
theorem ahm:(Tryz.pinned.checked.prog.stopKnobs==[])=true:=by kernel_rfl
theorem ahn:(Rows.reissueNothingRow.inPlace==Tryz.pinned.checked.prog.inPlace 6)=true:=by kernel_rfl
theorem Yl:(Rows.reissueNothingRow.unfollowed==Tryz.pinned.checked.prog.unfollowed 6)=true:=by kernel_rfl
theorem Ym:(Rows.reissueNothingRow.recurses==Tryz.pinned.checked.prog.recurses 6)=true:=by kernel_rfl
theorem Yn:(Rows.reissueNothingRow.named==Tryz.pinned.checked.prog.varsNamed 6)=true:=by kernel_rfl
theorem Yo:(Rows.reissueNothingRow.maps==(Tryz.f6.params.toList++(OpenSpec.ofChange Rows.reissueNothingSpec).bare.plain.varTypes Tryz.pinned.checked.prog).any (Tryz.pinned.checked.prog.mapsRec ·))=true:=by kernel_rfl
theorem Yp:(Rows.reissueNothingRow.ifaces==(Tryz.f6.params.toList++(OpenSpec.ofChange Rows.reissueNothingSpec).bare.plain.varTypes Tryz.pinned.checked.prog).any (Tryz.pinned.checked.prog.ifacesRec ·))=true:=by kernel_rfl
theorem Yq:(Rows.reissueNothingRow.mapsOut==Tryz.pinned.checked.prog.mapsAmong Tryz.f6.resultTypes.toList)=true:=by kernel_rfl
theorem Yr:(Rows.reissueNothingRow.loops==(Tryz.f6.params.toList++(OpenSpec.ofChange Rows.reissueNothingSpec).bare.plain.varTypes Tryz.pinned.checked.prog).any (Tryz.pinned.checked.prog.loopsFrom ·))=true:=by kernel_rfl
theorem Ys:(Rows.reissueNothingRow.wideKeys==(Tryz.f6.params.toList++(OpenSpec.ofChange Rows.reissueNothingSpec).bare.plain.varTypes Tryz.pinned.checked.prog++Tryz.f6.resultTypes.toList).any (Tryz.pinned.checked.prog.wideKeysFrom ·))=true:=by kernel_rfl
theorem Yt:((OpenSpec.ofChange Rows.reissueNothingSpec).bare.vars.all (Tryz.pinned.checked.prog.varReadable ·))=true:=by kernel_rfl
theorem Yu:(Tryz.f6.resultTypes.all (fun t=>Tryz.pinned.checked.prog.readableRec t&&decide (t<Tryz.pinned.checked.prog.types.size)))=true:=by kernel_rfl
theorem Yw:(Rows.reissueNothingRow.ifacesOut==Tryz.f6.resultTypes.toList.any (Tryz.pinned.checked.prog.ifacesRec ·))=true:=by kernel_rfl
theorem Yx:(Rows.reissueNothingRow.loopsOut==Tryz.f6.resultTypes.toList.any (Tryz.pinned.checked.prog.loopsFrom ·))=true:=by kernel_rfl
theorem Yy:(Rows.reissueNothingRow.plainKeys==Tryz.pinned.checked.prog.plainKeys)=true:=by kernel_rfl
theorem Yz:(Rows.reissueNothingRow.shortTexts.isNone)=true:=by kernel_rfl
theorem YA:(Tryz.pinned.checked.prog.stopsHeard)=true:=by kernel_rfl
theorem YB:(Tryz.pinned.checked.prog.mayEnter)=true:=by kernel_rfl
theorem YD:(Rows.reissueNothingRow.lifted==Tryz.pinned.checked.prog.liftsFinal)=true:=by kernel_rfl
theorem YE:(Tryz.pinned.checked.prog.make==some Rows.reissueNothingRow.make)=true:=by kernel_rfl
theorem YF:(Rows.reissueNothingRow.kinds==(if Rows.reissueNothingRow.domain.isEmpty then[] else Tryz.f6.params.toList.map fun t=>match Tryz.pinned.checked.prog.underlying t with|some (.int k)=>some k|_=>none))=true:=by kernel_rfl
theorem YG:(Rows.reissueNothingRow.pinned==Rows.reissueNothingRow.pinnedBy)=true:=by kernel_rfl
theorem YH:(Rows.reissueNothingRow.veiled==(Tryz.f6.params.toList++(OpenSpec.ofChange Rows.reissueNothingSpec).bare.plain.varTypes Tryz.pinned.checked.prog++Tryz.f6.resultTypes.toList).any (Tryz.pinned.checked.prog.veiledRec ·))=true:=by kernel_rfl
theorem YI:(Rows.reissueNothingRow.veiledFits Tryz.pinned.checked.prog Tryz.f6.params.toList (Tryz.f6.params.toList++(OpenSpec.ofChange Rows.reissueNothingSpec).bare.plain.varTypes Tryz.pinned.checked.prog++Tryz.f6.resultTypes.toList))=true:=by kernel_rfl
theorem Un:joinedFacts Tryz.pinned.checked.prog 6 Tryz.f6 (OpenSpec.ofChange Rows.reissueNothingSpec).bare Rows.reissueNothingRow=true:=(gH (gH (gH (gH (gH (gH (gH (gH (gH (gH (gH (gH (gH (gH (gH (gH (gH (gH (gH (gH (gH (gH (gH (gH (gH (gH (gH (gH (gH (gH (gH ahe ahf) ahg) ahh) ahi) ahj) ahk) ahl) ahm) ahn) Yl) Ym) Yn) Yo) Yp) Yq) Yr) Ys) Yt) Yu) Yw) Yx) Yy) Yz) YA) YB) YD) YE) YF) YG) YH) YI)
end Go.Proofs.YtpmlkhjpbjnagaaGreat
