/- part -/
import Derived.Test.YtgdcjlldafmomaaGreatRows
import Derived.JoinedCond
import Derived.KernelRfl
namespace Go.Proofs.YtgdcjlldafmomaaGreat
open Go
set_option maxRecDepth 100000
theorem gn{a b:Bool}(h1:a=true)(h2:b=true):(a&&b)=true:=by rw[h1,h2];rfl
theorem S3:(Rows.amendTouchedRow.wf (OpenSpec.ofChange (OpenSpec.ofChange Rows.amendTouchedSpec).bare))=true:=by kernel_rfl
theorem S4:(laidOutB Tryz.pinned.checked.prog)=true:=by kernel_rfl
theorem S5:(mapsRowed Tryz.pinned.checked.prog)=true:=by kernel_rfl
theorem S6:(Tryz.f4.params.all (Tryz.pinned.checked.prog.readableRec ·))=true:=by kernel_rfl
theorem S7:(namedTie Tryz.pinned.checked.prog Rows.amendTouchedRow.named (OpenSpec.ofChange Rows.amendTouchedSpec).bare.vars)=true:=by kernel_rfl
theorem S8:(Rows.amendTouchedRow.stops==[])=true:=by kernel_rfl
theorem S9:(Tryz.pinned.checked.prog.stops==[])=true:=by kernel_rfl
theorem Ta:(Rows.amendTouchedRow.knobs==[])=true:=by kernel_rfl
theorem Tb:(Tryz.pinned.checked.prog.stopKnobs==[])=true:=by kernel_rfl
theorem Tc:(Rows.amendTouchedRow.inPlace==Tryz.pinned.checked.prog.inPlace 4)=true:=by kernel_rfl
theorem On:(Rows.amendTouchedRow.unfollowed==Tryz.pinned.checked.prog.unfollowed 4)=true:=by kernel_rfl
theorem Oo:(Rows.amendTouchedRow.recurses==Tryz.pinned.checked.prog.recurses 4)=true:=by kernel_rfl
theorem Oq:(Rows.amendTouchedRow.named==Tryz.pinned.checked.prog.varsNamed 4)=true:=by kernel_rfl
theorem Ot:(Rows.amendTouchedRow.maps==(Tryz.f4.params.toList++(OpenSpec.ofChange Rows.amendTouchedSpec).bare.plain.varTypes Tryz.pinned.checked.prog).any (Tryz.pinned.checked.prog.mapsRec ·))=true:=by kernel_rfl
theorem Ou:(Rows.amendTouchedRow.ifaces==(Tryz.f4.params.toList++(OpenSpec.ofChange Rows.amendTouchedSpec).bare.plain.varTypes Tryz.pinned.checked.prog).any (Tryz.pinned.checked.prog.ifacesRec ·))=true:=by kernel_rfl
theorem Ov:(Rows.amendTouchedRow.mapsOut==Tryz.pinned.checked.prog.mapsAmong Tryz.f4.resultTypes.toList)=true:=by kernel_rfl
theorem Ow:(Rows.amendTouchedRow.loops==(Tryz.f4.params.toList++(OpenSpec.ofChange Rows.amendTouchedSpec).bare.plain.varTypes Tryz.pinned.checked.prog).any (Tryz.pinned.checked.prog.loopsFrom ·))=true:=by kernel_rfl
theorem Ox:(Rows.amendTouchedRow.wideKeys==(Tryz.f4.params.toList++(OpenSpec.ofChange Rows.amendTouchedSpec).bare.plain.varTypes Tryz.pinned.checked.prog++Tryz.f4.resultTypes.toList).any (Tryz.pinned.checked.prog.wideKeysFrom ·))=true:=by kernel_rfl
theorem Oy:((OpenSpec.ofChange Rows.amendTouchedSpec).bare.vars.all (Tryz.pinned.checked.prog.varReadable ·))=true:=by kernel_rfl
theorem Oz:(Tryz.f4.resultTypes.all (fun t=>Tryz.pinned.checked.prog.readableRec t&&decide (t<Tryz.pinned.checked.prog.types.size)))=true:=by kernel_rfl
theorem OA:(Rows.amendTouchedRow.ifacesOut==Tryz.f4.resultTypes.toList.any (Tryz.pinned.checked.prog.ifacesRec ·))=true:=by kernel_rfl
theorem OB:(Rows.amendTouchedRow.loopsOut==Tryz.f4.resultTypes.toList.any (Tryz.pinned.checked.prog.loopsFrom ·))=true:=by kernel_rfl
theorem OC:(Rows.amendTouchedRow.plainKeys==Tryz.pinned.checked.prog.plainKeys)=true:=by kernel_rfl
theorem OD:(Rows.amendTouchedRow.shortTexts.isNone)=true:=by kernel_rfl
theorem OE:(Tryz.pinned.checked.prog.stopsHeard)=true:=by kernel_rfl
theorem OF:(Tryz.pinned.checked.prog.mayEnter)=true:=by kernel_rfl
theorem OG:(Rows.amendTouchedRow.lifted==Tryz.pinned.checked.prog.liftsFinal)=true:=by kernel_rfl
theorem OH:(Tryz.pinned.checked.prog.make==some Rows.amendTouchedRow.make)=true:=by kernel_rfl
theorem OI:(Rows.amendTouchedRow.kinds==(if Rows.amendTouchedRow.domain.isEmpty then[] else Tryz.f4.params.toList.map fun t=>match Tryz.pinned.checked.prog.underlying t with|some (.int k)=>some k|_=>none))=true:=by kernel_rfl
theorem OJ:(Rows.amendTouchedRow.pinned==Rows.amendTouchedRow.pinnedBy)=true:=by kernel_rfl
theorem OL:(Rows.amendTouchedRow.veiled==(Tryz.f4.params.toList++(OpenSpec.ofChange Rows.amendTouchedSpec).bare.plain.varTypes Tryz.pinned.checked.prog++Tryz.f4.resultTypes.toList).any (Tryz.pinned.checked.prog.veiledRec ·))=true:=by kernel_rfl
theorem ON:(Rows.amendTouchedRow.veiledFits Tryz.pinned.checked.prog Tryz.f4.params.toList (Tryz.f4.params.toList++(OpenSpec.ofChange Rows.amendTouchedSpec).bare.plain.varTypes Tryz.pinned.checked.prog++Tryz.f4.resultTypes.toList))=true:=by kernel_rfl
theorem LM:joinedFacts Tryz.pinned.checked.prog 4 Tryz.f4 (OpenSpec.ofChange Rows.amendTouchedSpec).bare Rows.amendTouchedRow=true:=(gn (gn (gn (gn (gn (gn (gn (gn (gn (gn (gn (gn (gn (gn (gn (gn (gn (gn (gn (gn (gn (gn (gn (gn (gn (gn (gn (gn (gn (gn (gn S3 S4) S5) S6) S7) S8) S9) Ta) Tb) Tc) On) Oo) Oq) Ot) Ou) Ov) Ow) Ox) Oy) Oz) OA) OB) OC) OD) OE) OF) OG) OH) OI) OJ) OL) ON)
end Go.Proofs.YtgdcjlldafmomaaGreat
