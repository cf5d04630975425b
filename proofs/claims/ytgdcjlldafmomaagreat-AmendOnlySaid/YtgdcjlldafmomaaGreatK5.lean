/- The closed facts of the row, one by one. No condition. -/
import Derived.Test.YtgdcjlldafmomaaGreatRows
import Derived.JoinedCond
import Derived.KernelRfl
namespace Go.Proofs.YtgdcjlldafmomaaGreat
open Go
set_option maxRecDepth 100000
theorem eY{a b:Bool}(h1:a=true)(h2:b=true):(a&&b)=true:=by rw[h1,h2];rfl
theorem SL:(Rows.amendOnlyRow.wf (OpenSpec.ofChange (OpenSpec.ofChange Rows.amendOnlySpec).bare))=true:=by kernel_rfl
theorem SN:(laidOutB Tryz.pinned.checked.prog)=true:=by kernel_rfl
theorem SO:(mapsRowed Tryz.pinned.checked.prog)=true:=by kernel_rfl
theorem SP:(Tryz.f5.params.all (Tryz.pinned.checked.prog.readableRec ·))=true:=by kernel_rfl
theorem SQ:(namedTie Tryz.pinned.checked.prog Rows.amendOnlyRow.named (OpenSpec.ofChange Rows.amendOnlySpec).bare.vars)=true:=by kernel_rfl
theorem SR:(Rows.amendOnlyRow.stops==[])=true:=by kernel_rfl
theorem SU:(Tryz.pinned.checked.prog.stops==[])=true:=by kernel_rfl
theorem SV:(Rows.amendOnlyRow.knobs==[])=true:=by kernel_rfl
theorem SX:(Tryz.pinned.checked.prog.stopKnobs==[])=true:=by kernel_rfl
theorem SY:(Rows.amendOnlyRow.inPlace==Tryz.pinned.checked.prog.inPlace 5)=true:=by kernel_rfl
theorem Mj:(Rows.amendOnlyRow.unfollowed==Tryz.pinned.checked.prog.unfollowed 5)=true:=by kernel_rfl
theorem Mk:(Rows.amendOnlyRow.recurses==Tryz.pinned.checked.prog.recurses 5)=true:=by kernel_rfl
theorem Ml:(Rows.amendOnlyRow.named==Tryz.pinned.checked.prog.varsNamed 5)=true:=by kernel_rfl
theorem Mm:(Rows.amendOnlyRow.maps==(Tryz.f5.params.toList++(OpenSpec.ofChange Rows.amendOnlySpec).bare.plain.varTypes Tryz.pinned.checked.prog).any (Tryz.pinned.checked.prog.mapsRec ·))=true:=by kernel_rfl
theorem Mn:(Rows.amendOnlyRow.ifaces==(Tryz.f5.params.toList++(OpenSpec.ofChange Rows.amendOnlySpec).bare.plain.varTypes Tryz.pinned.checked.prog).any (Tryz.pinned.checked.prog.ifacesRec ·))=true:=by kernel_rfl
theorem Mo:(Rows.amendOnlyRow.mapsOut==Tryz.pinned.checked.prog.mapsAmong Tryz.f5.resultTypes.toList)=true:=by kernel_rfl
theorem Mp:(Rows.amendOnlyRow.loops==(Tryz.f5.params.toList++(OpenSpec.ofChange Rows.amendOnlySpec).bare.plain.varTypes Tryz.pinned.checked.prog).any (Tryz.pinned.checked.prog.loopsFrom ·))=true:=by kernel_rfl
theorem Mq:(Rows.amendOnlyRow.wideKeys==(Tryz.f5.params.toList++(OpenSpec.ofChange Rows.amendOnlySpec).bare.plain.varTypes Tryz.pinned.checked.prog++Tryz.f5.resultTypes.toList).any (Tryz.pinned.checked.prog.wideKeysFrom ·))=true:=by kernel_rfl
theorem Mr:((OpenSpec.ofChange Rows.amendOnlySpec).bare.vars.all (Tryz.pinned.checked.prog.varReadable ·))=true:=by kernel_rfl
theorem Ms:(Tryz.f5.resultTypes.all (fun t=>Tryz.pinned.checked.prog.readableRec t&&decide (t<Tryz.pinned.checked.prog.types.size)))=true:=by kernel_rfl
theorem Mt:(Rows.amendOnlyRow.ifacesOut==Tryz.f5.resultTypes.toList.any (Tryz.pinned.checked.prog.ifacesRec ·))=true:=by kernel_rfl
theorem Mu:(Rows.amendOnlyRow.loopsOut==Tryz.f5.resultTypes.toList.any (Tryz.pinned.checked.prog.loopsFrom ·))=true:=by kernel_rfl
theorem Mv:(Rows.amendOnlyRow.plainKeys==Tryz.pinned.checked.prog.plainKeys)=true:=by kernel_rfl
theorem Mw:(Rows.amendOnlyRow.shortTexts.isNone)=true:=by kernel_rfl
theorem Mx:(Tryz.pinned.checked.prog.stopsHeard)=true:=by kernel_rfl
theorem My:(Tryz.pinned.checked.prog.mayEnter)=true:=by kernel_rfl
theorem Mz:(Rows.amendOnlyRow.lifted==Tryz.pinned.checked.prog.liftsFinal)=true:=by kernel_rfl
theorem MA:(Tryz.pinned.checked.prog.make==some Rows.amendOnlyRow.make)=true:=by kernel_rfl
theorem MB:(Rows.amendOnlyRow.kinds==(if Rows.amendOnlyRow.domain.isEmpty then[] else Tryz.f5.params.toList.map fun t=>match Tryz.pinned.checked.prog.underlying t with|some (.int k)=>some k|_=>none))=true:=by kernel_rfl
theorem MC:(Rows.amendOnlyRow.pinned==Rows.amendOnlyRow.pinnedBy)=true:=by kernel_rfl
theorem MD:(Rows.amendOnlyRow.veiled==(Tryz.f5.params.toList++(OpenSpec.ofChange Rows.amendOnlySpec).bare.plain.varTypes Tryz.pinned.checked.prog++Tryz.f5.resultTypes.toList).any (Tryz.pinned.checked.prog.veiledRec ·))=true:=by kernel_rfl
theorem ME:(Rows.amendOnlyRow.veiledFits Tryz.pinned.checked.prog Tryz.f5.params.toList (Tryz.f5.params.toList++(OpenSpec.ofChange Rows.amendOnlySpec).bare.plain.varTypes Tryz.pinned.checked.prog++Tryz.f5.resultTypes.toList))=true:=by kernel_rfl
theorem JR:joinedFacts Tryz.pinned.checked.prog 5 Tryz.f5 (OpenSpec.ofChange Rows.amendOnlySpec).bare Rows.amendOnlyRow=true:=(eY (eY (eY (eY (eY (eY (eY (eY (eY (eY (eY (eY (eY (eY (eY (eY (eY (eY (eY (eY (eY (eY (eY (eY (eY (eY (eY (eY (eY (eY (eY SL SN) SO) SP) SQ) SR) SU) SV) SX) SY) Mj) Mk) Ml) Mm) Mn) Mo) Mp) Mq) Mr) Ms) Mt) Mu) Mv) Mw) Mx) My) Mz) MA) MB) MC) MD) ME)
end Go.Proofs.YtgdcjlldafmomaaGreat
