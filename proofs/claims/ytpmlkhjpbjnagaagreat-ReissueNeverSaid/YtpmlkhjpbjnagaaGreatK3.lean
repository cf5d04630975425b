/- part -/
import Derived.Test.YtpmlkhjpbjnagaaGreatRows
import Derived.JoinedCond
import Derived.KernelRfl
namespace Go.Proofs.YtpmlkhjpbjnagaaGreat
open Go
set_option maxRecDepth 100000
theorem gN{a b:Bool}(h1:a=true)(h2:b=true):(a&&b)=true:=by rw[h1,h2];rfl
theorem aie:(Rows.reissueNeverRow.wf (OpenSpec.ofChange (OpenSpec.ofChange Rows.reissueNeverSpec).bare))=true:=by kernel_rfl
theorem aif:(laidOutB Tryz.pinned.checked.prog)=true:=by kernel_rfl
theorem aih:(mapsRowed Tryz.pinned.checked.prog)=true:=by kernel_rfl
theorem aii:(Tryz.f3.params.all (Tryz.pinned.checked.prog.readableRec ·))=true:=by kernel_rfl
theorem aij:(namedTie Tryz.pinned.checked.prog Rows.reissueNeverRow.named (OpenSpec.ofChange Rows.reissueNeverSpec).bare.vars)=true:=by kernel_rfl
theorem aik:(Rows.reissueNeverRow.stops==[])=true:=by kernel_rfl
theorem ail:(Tryz.pinned.checked.prog.stops==[])=true:=by kernel_rfl
theorem aim:(Rows.reissueNeverRow.knobs==[])=true:=by kernel_rfl
theorem ain:(Tryz.pinned.checked.prog.stopKnobs==[])=true:=by kernel_rfl
theorem aio:(Rows.reissueNeverRow.inPlace==Tryz.pinned.checked.prog.inPlace 3)=true:=by kernel_rfl
theorem Y6:(Rows.reissueNeverRow.unfollowed==Tryz.pinned.checked.prog.unfollowed 3)=true:=by kernel_rfl
theorem Y7:(Rows.reissueNeverRow.recurses==Tryz.pinned.checked.prog.recurses 3)=true:=by kernel_rfl
theorem Y8:(Rows.reissueNeverRow.named==Tryz.pinned.checked.prog.varsNamed 3)=true:=by kernel_rfl
theorem Y9:(Rows.reissueNeverRow.maps==(Tryz.f3.params.toList++(OpenSpec.ofChange Rows.reissueNeverSpec).bare.plain.varTypes Tryz.pinned.checked.prog).any (Tryz.pinned.checked.prog.mapsRec ·))=true:=by kernel_rfl
theorem Z0:(Rows.reissueNeverRow.ifaces==(Tryz.f3.params.toList++(OpenSpec.ofChange Rows.reissueNeverSpec).bare.plain.varTypes Tryz.pinned.checked.prog).any (Tryz.pinned.checked.prog.ifacesRec ·))=true:=by kernel_rfl
theorem Z1:(Rows.reissueNeverRow.mapsOut==Tryz.pinned.checked.prog.mapsAmong Tryz.f3.resultTypes.toList)=true:=by kernel_rfl
theorem Z2:(Rows.reissueNeverRow.loops==(Tryz.f3.params.toList++(OpenSpec.ofChange Rows.reissueNeverSpec).bare.plain.varTypes Tryz.pinned.checked.prog).any (Tryz.pinned.checked.prog.loopsFrom ·))=true:=by kernel_rfl
theorem Z3:(Rows.reissueNeverRow.wideKeys==(Tryz.f3.params.toList++(OpenSpec.ofChange Rows.reissueNeverSpec).bare.plain.varTypes Tryz.pinned.checked.prog++Tryz.f3.resultTypes.toList).any (Tryz.pinned.checked.prog.wideKeysFrom ·))=true:=by kernel_rfl
theorem Z4:((OpenSpec.ofChange Rows.reissueNeverSpec).bare.vars.all (Tryz.pinned.checked.prog.varReadable ·))=true:=by kernel_rfl
theorem Z5:(Tryz.f3.resultTypes.all (fun t=>Tryz.pinned.checked.prog.readableRec t&&decide (t<Tryz.pinned.checked.prog.types.size)))=true:=by kernel_rfl
theorem Z6:(Rows.reissueNeverRow.ifacesOut==Tryz.f3.resultTypes.toList.any (Tryz.pinned.checked.prog.ifacesRec ·))=true:=by kernel_rfl
theorem Z7:(Rows.reissueNeverRow.loopsOut==Tryz.f3.resultTypes.toList.any (Tryz.pinned.checked.prog.loopsFrom ·))=true:=by kernel_rfl
theorem Z8:(Rows.reissueNeverRow.plainKeys==Tryz.pinned.checked.prog.plainKeys)=true:=by kernel_rfl
theorem Z9:(Rows.reissueNeverRow.shortTexts.isNone)=true:=by kernel_rfl
theorem aaa:(Tryz.pinned.checked.prog.stopsHeard)=true:=by kernel_rfl
theorem aab:(Tryz.pinned.checked.prog.mayEnter)=true:=by kernel_rfl
theorem aac:(Rows.reissueNeverRow.lifted==Tryz.pinned.checked.prog.liftsFinal)=true:=by kernel_rfl
theorem aad:(Tryz.pinned.checked.prog.make==some Rows.reissueNeverRow.make)=true:=by kernel_rfl
theorem aae:(Rows.reissueNeverRow.kinds==(if Rows.reissueNeverRow.domain.isEmpty then[] else Tryz.f3.params.toList.map fun t=>match Tryz.pinned.checked.prog.underlying t with|some (.int k)=>some k|_=>none))=true:=by kernel_rfl
theorem aaf:(Rows.reissueNeverRow.pinned==Rows.reissueNeverRow.pinnedBy)=true:=by kernel_rfl
theorem aag:(Rows.reissueNeverRow.veiled==(Tryz.f3.params.toList++(OpenSpec.ofChange Rows.reissueNeverSpec).bare.plain.varTypes Tryz.pinned.checked.prog++Tryz.f3.resultTypes.toList).any (Tryz.pinned.checked.prog.veiledRec ·))=true:=by kernel_rfl
theorem aah:(Rows.reissueNeverRow.veiledFits Tryz.pinned.checked.prog Tryz.f3.params.toList (Tryz.f3.params.toList++(OpenSpec.ofChange Rows.reissueNeverSpec).bare.plain.varTypes Tryz.pinned.checked.prog++Tryz.f3.resultTypes.toList))=true:=by kernel_rfl
theorem VG:joinedFacts Tryz.pinned.checked.prog 3 Tryz.f3 (OpenSpec.ofChange Rows.reissueNeverSpec).bare Rows.reissueNeverRow=true:=(gN (gN (gN (gN (gN (gN (gN (gN (gN (gN (gN (gN (gN (gN (gN (gN (gN (gN (gN (gN (gN (gN (gN (gN (gN (gN (gN (gN (gN (gN (gN aie aif) aih) aii) aij) aik) ail) aim) ain) aio) Y6) Y7) Y8) Y9) Z0) Z1) Z2) Z3) Z4) Z5) Z6) Z7) Z8) Z9) aaa) aab) aac) aad) aae) aaf) aag) aah)
end Go.Proofs.YtpmlkhjpbjnagaaGreat
