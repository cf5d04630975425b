/- The closed facts of the row, one by one. No condition. -/
import Derived.Test.YtmpdeifdnbhdiaaGreatDoorRows
import Derived.JoinedCond
import Derived.KernelRfl
namespace Go.Proofs.YtmpdeifdnbhdiaaGreatDoor
open Go
set_option maxRecDepth 100000
theorem ej{a b:Bool}(h1:a=true)(h2:b=true):(a&&b)=true:=by rw[h1,h2];rfl
theorem Js:(Rows.roundsPermuteRow.wf (OpenSpec.ofChange (OpenSpec.ofChange Rows.roundsPermuteSpec).bare))=true:=by kernel_rfl
theorem Jt:(laidOutB Tryz.pinned.checked.prog)=true:=by kernel_rfl
theorem Ju:(mapsRowed Tryz.pinned.checked.prog)=true:=by kernel_rfl
theorem Jv:(Tryz.f4.params.all (Tryz.pinned.checked.prog.readableRec ·))=true:=by kernel_rfl
theorem Jw:(namedTie Tryz.pinned.checked.prog Rows.roundsPermuteRow.named (OpenSpec.ofChange Rows.roundsPermuteSpec).bare.vars)=true:=by kernel_rfl
theorem Jx:(Rows.roundsPermuteRow.stops==[])=true:=by kernel_rfl
theorem Jy:(Tryz.pinned.checked.prog.stops==[])=true:=by kernel_rfl
theorem Jz:(Rows.roundsPermuteRow.knobs==[])=true:=by kernel_rfl
theorem JA:(Tryz.pinned.checked.prog.stopKnobs==[])=true:=by kernel_rfl
theorem JB:(Rows.roundsPermuteRow.inPlace==Tryz.pinned.checked.prog.inPlace 4)=true:=by kernel_rfl
theorem HO:(Rows.roundsPermuteRow.unfollowed==Tryz.pinned.checked.prog.unfollowed 4)=true:=by kernel_rfl
theorem HP:(Rows.roundsPermuteRow.recurses==Tryz.pinned.checked.prog.recurses 4)=true:=by kernel_rfl
theorem HQ:(Rows.roundsPermuteRow.named==Tryz.pinned.checked.prog.varsNamed 4)=true:=by kernel_rfl
theorem HR:(Rows.roundsPermuteRow.maps==(Tryz.f4.params.toList++(OpenSpec.ofChange Rows.roundsPermuteSpec).bare.plain.varTypes Tryz.pinned.checked.prog).any (Tryz.pinned.checked.prog.mapsRec ·))=true:=by kernel_rfl
theorem HS:(Rows.roundsPermuteRow.ifaces==(Tryz.f4.params.toList++(OpenSpec.ofChange Rows.roundsPermuteSpec).bare.plain.varTypes Tryz.pinned.checked.prog).any (Tryz.pinned.checked.prog.ifacesRec ·))=true:=by kernel_rfl
theorem HT:(Rows.roundsPermuteRow.mapsOut==Tryz.pinned.checked.prog.mapsAmong Tryz.f4.resultTypes.toList)=true:=by kernel_rfl
theorem HU:(Rows.roundsPermuteRow.loops==(Tryz.f4.params.toList++(OpenSpec.ofChange Rows.roundsPermuteSpec).bare.plain.varTypes Tryz.pinned.checked.prog).any (Tryz.pinned.checked.prog.loopsFrom ·))=true:=by kernel_rfl
theorem HV:(Rows.roundsPermuteRow.wideKeys==(Tryz.f4.params.toList++(OpenSpec.ofChange Rows.roundsPermuteSpec).bare.plain.varTypes Tryz.pinned.checked.prog++Tryz.f4.resultTypes.toList).any (Tryz.pinned.checked.prog.wideKeysFrom ·))=true:=by kernel_rfl
theorem HX:((OpenSpec.ofChange Rows.roundsPermuteSpec).bare.vars.all (Tryz.pinned.checked.prog.varReadable ·))=true:=by kernel_rfl
theorem HY:(Tryz.f4.resultTypes.all (fun t=>Tryz.pinned.checked.prog.readableRec t&&decide (t<Tryz.pinned.checked.prog.types.size)))=true:=by kernel_rfl
theorem HZ:(Rows.roundsPermuteRow.ifacesOut==Tryz.f4.resultTypes.toList.any (Tryz.pinned.checked.prog.ifacesRec ·))=true:=by kernel_rfl
theorem H2:(Rows.roundsPermuteRow.loopsOut==Tryz.f4.resultTypes.toList.any (Tryz.pinned.checked.prog.loopsFrom ·))=true:=by kernel_rfl
theorem H3:(Rows.roundsPermuteRow.plainKeys==Tryz.pinned.checked.prog.plainKeys)=true:=by kernel_rfl
theorem H4:(Rows.roundsPermuteRow.shortTexts.isNone)=true:=by kernel_rfl
theorem H5:(Tryz.pinned.checked.prog.stopsHeard)=true:=by kernel_rfl
theorem H6:(Tryz.pinned.checked.prog.mayEnter)=true:=by kernel_rfl
theorem H7:(Rows.roundsPermuteRow.lifted==Tryz.pinned.checked.prog.liftsFinal)=true:=by kernel_rfl
theorem H8:(Tryz.pinned.checked.prog.make==some Rows.roundsPermuteRow.make)=true:=by kernel_rfl
theorem H9:(Rows.roundsPermuteRow.kinds==(if Rows.roundsPermuteRow.domain.isEmpty then[] else Tryz.f4.params.toList.map fun t=>match Tryz.pinned.checked.prog.underlying t with|some (.int k)=>some k|_=>none))=true:=by kernel_rfl
theorem Ia:(Rows.roundsPermuteRow.pinned==Rows.roundsPermuteRow.pinnedBy)=true:=by kernel_rfl
theorem Ib:(Rows.roundsPermuteRow.veiled==(Tryz.f4.params.toList++(OpenSpec.ofChange Rows.roundsPermuteSpec).bare.plain.varTypes Tryz.pinned.checked.prog++Tryz.f4.resultTypes.toList).any (Tryz.pinned.checked.prog.veiledRec ·))=true:=by kernel_rfl
theorem Ic:(Rows.roundsPermuteRow.veiledFits Tryz.pinned.checked.prog Tryz.f4.params.toList (Tryz.f4.params.toList++(OpenSpec.ofChange Rows.roundsPermuteSpec).bare.plain.varTypes Tryz.pinned.checked.prog++Tryz.f4.resultTypes.toList))=true:=by kernel_rfl
theorem FG:joinedFacts Tryz.pinned.checked.prog 4 Tryz.f4 (OpenSpec.ofChange Rows.roundsPermuteSpec).bare Rows.roundsPermuteRow=true:=(ej (ej (ej (ej (ej (ej (ej (ej (ej (ej (ej (ej (ej (ej (ej (ej (ej (ej (ej (ej (ej (ej (ej (ej (ej (ej (ej (ej (ej (ej (ej Js Jt) Ju) Jv) Jw) Jx) Jy) Jz) JA) JB) HO) HP) HQ) HR) HS) HT) HU) HV) HX) HY) HZ) H2) H3) H4) H5) H6) H7) H8) H9) Ia) Ib) Ic)
end Go.Proofs.YtmpdeifdnbhdiaaGreatDoor
