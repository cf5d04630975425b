/- part -/
import Derived.Test.YtgdcjlldafmomaaGreatRows
import Derived.JoinedCond
import Derived.KernelRfl
namespace Go.Proofs.YtgdcjlldafmomaaGreat
open Go
set_option maxRecDepth 100000
theorem gE{a b:Bool}(h1:a=true)(h2:b=true):(a&&b)=true:=by rw[h1,h2];rfl
theorem Us:(Rows.amendAlikeRow.wf (OpenSpec.ofChange (OpenSpec.ofChange Rows.amendAlikeSpec).bare))=true:=by kernel_rfl
theorem Ut:(laidOutB Tryz.pinned.checked.prog)=true:=by kernel_rfl
theorem Uu:(mapsRowed Tryz.pinned.checked.prog)=true:=by kernel_rfl
theorem Uv:(Tryz.f3.params.all (Tryz.pinned.checked.prog.readableRec ·))=true:=by kernel_rfl
theorem Uw:(namedTie Tryz.pinned.checked.prog Rows.amendAlikeRow.named (OpenSpec.ofChange Rows.amendAlikeSpec).bare.vars)=true:=by kernel_rfl
theorem Ux:(Rows.amendAlikeRow.stops==[])=true:=by kernel_rfl
theorem Uy:(Tryz.pinned.checked.prog.stops==[])=true:=by kernel_rfl
theorem Uz:(Rows.amendAlikeRow.knobs==[])=true:=by kernel_rfl
theorem UA:(Tryz.pinned.checked.prog.stopKnobs==[])=true:=by kernel_rfl
theorem UB:(Rows.amendAlikeRow.inPlace==Tryz.pinned.checked.prog.inPlace 3)=true:=by kernel_rfl
theorem N1:(Rows.amendAlikeRow.unfollowed==Tryz.pinned.checked.prog.unfollowed 3)=true:=by kernel_rfl
theorem N2:(Rows.amendAlikeRow.recurses==Tryz.pinned.checked.prog.recurses 3)=true:=by kernel_rfl
theorem N3:(Rows.amendAlikeRow.named==Tryz.pinned.checked.prog.varsNamed 3)=true:=by kernel_rfl
theorem N4:(Rows.amendAlikeRow.maps==(Tryz.f3.params.toList++(OpenSpec.ofChange Rows.amendAlikeSpec).bare.plain.varTypes Tryz.pinned.checked.prog).any (Tryz.pinned.checked.prog.mapsRec ·))=true:=by kernel_rfl
theorem N5:(Rows.amendAlikeRow.ifaces==(Tryz.f3.params.toList++(OpenSpec.ofChange Rows.amendAlikeSpec).bare.plain.varTypes Tryz.pinned.checked.prog).any (Tryz.pinned.checked.prog.ifacesRec ·))=true:=by kernel_rfl
theorem N6:(Rows.amendAlikeRow.mapsOut==Tryz.pinned.checked.prog.mapsAmong Tryz.f3.resultTypes.toList)=true:=by kernel_rfl
theorem N7:(Rows.amendAlikeRow.loops==(Tryz.f3.params.toList++(OpenSpec.ofChange Rows.amendAlikeSpec).bare.plain.varTypes Tryz.pinned.checked.prog).any (Tryz.pinned.checked.prog.loopsFrom ·))=true:=by kernel_rfl
theorem N8:(Rows.amendAlikeRow.wideKeys==(Tryz.f3.params.toList++(OpenSpec.ofChange Rows.amendAlikeSpec).bare.plain.varTypes Tryz.pinned.checked.prog++Tryz.f3.resultTypes.toList).any (Tryz.pinned.checked.prog.wideKeysFrom ·))=true:=by kernel_rfl
theorem N9:((OpenSpec.ofChange Rows.amendAlikeSpec).bare.vars.all (Tryz.pinned.checked.prog.varReadable ·))=true:=by kernel_rfl
theorem Oa:(Tryz.f3.resultTypes.all (fun t=>Tryz.pinned.checked.prog.readableRec t&&decide (t<Tryz.pinned.checked.prog.types.size)))=true:=by kernel_rfl
theorem Ob:(Rows.amendAlikeRow.ifacesOut==Tryz.f3.resultTypes.toList.any (Tryz.pinned.checked.prog.ifacesRec ·))=true:=by kernel_rfl
theorem Oc:(Rows.amendAlikeRow.loopsOut==Tryz.f3.resultTypes.toList.any (Tryz.pinned.checked.prog.loopsFrom ·))=true:=by kernel_rfl
theorem Od:(Rows.amendAlikeRow.plainKeys==Tryz.pinned.checked.prog.plainKeys)=true:=by kernel_rfl
theorem Oe:(Rows.amendAlikeRow.shortTexts.isNone)=true:=by kernel_rfl
theorem Of:(Tryz.pinned.checked.prog.stopsHeard)=true:=by kernel_rfl
theorem Og:(Tryz.pinned.checked.prog.mayEnter)=true:=by kernel_rfl
theorem Oh:(Rows.amendAlikeRow.lifted==Tryz.pinned.checked.prog.liftsFinal)=true:=by kernel_rfl
theorem Oi:(Tryz.pinned.checked.prog.make==some Rows.amendAlikeRow.make)=true:=by kernel_rfl
theorem Oj:(Rows.amendAlikeRow.kinds==(if Rows.amendAlikeRow.domain.isEmpty then[] else Tryz.f3.params.toList.map fun t=>match Tryz.pinned.checked.prog.underlying t with|some (.int k)=>some k|_=>none))=true:=by kernel_rfl
theorem Ol:(Rows.amendAlikeRow.pinned==Rows.amendAlikeRow.pinnedBy)=true:=by kernel_rfl
theorem Om:(Rows.amendAlikeRow.veiled==(Tryz.f3.params.toList++(OpenSpec.ofChange Rows.amendAlikeSpec).bare.plain.varTypes Tryz.pinned.checked.prog++Tryz.f3.resultTypes.toList).any (Tryz.pinned.checked.prog.veiledRec ·))=true:=by kernel_rfl
theorem On:(Rows.amendAlikeRow.veiledFits Tryz.pinned.checked.prog Tryz.f3.params.toList (Tryz.f3.params.toList++(OpenSpec.ofChange Rows.amendAlikeSpec).bare.plain.varTypes Tryz.pinned.checked.prog++Tryz.f3.resultTypes.toList))=true:=by kernel_rfl
theorem Lw:joinedFacts Tryz.pinned.checked.prog 3 Tryz.f3 (OpenSpec.ofChange Rows.amendAlikeSpec).bare Rows.amendAlikeRow=true:=(gE (gE (gE (gE (gE (gE (gE (gE (gE (gE (gE (gE (gE (gE (gE (gE (gE (gE (gE (gE (gE (gE (gE (gE (gE (gE (gE (gE (gE (gE (gE Us Ut) Uu) Uv) Uw) Ux) Uy) Uz) UA) UB) N1) N2) N3) N4) N5) N6) N7) N8) N9) Oa) Ob) Oc) Od) Oe) Of) Og) Oh) Oi) Oj) Ol) Om) On)
end Go.Proofs.YtgdcjlldafmomaaGreat
