/- The closed facts of the row, one by one. No condition. -/
import Derived.Test.YtjabllhapfphoaaGreatDoorRows
import Derived.JoinedCond
import Derived.KernelRfl
namespace Go.Proofs.YtjabllhapfphoaaGreatDoor
open Go
set_option maxRecDepth 100000
theorem eM{a b:Bool}(h1:a=true)(h2:b=true):(a&&b)=true:=by rw[h1,h2];rfl
theorem Jp:(Rows.viewsSpecRow.wf (OpenSpec.ofChange (OpenSpec.ofChange Rows.viewsSpecSpec).bare))=true:=by kernel_rfl
theorem Jq:(laidOutB Tryz.pinned.checked.prog)=true:=by kernel_rfl
theorem Jr:(mapsRowed Tryz.pinned.checked.prog)=true:=by kernel_rfl
theorem Js:(Tryz.f3.params.all (Tryz.pinned.checked.prog.readableRec ·))=true:=by kernel_rfl
theorem Jt:(namedTie Tryz.pinned.checked.prog Rows.viewsSpecRow.named (OpenSpec.ofChange Rows.viewsSpecSpec).bare.vars)=true:=by kernel_rfl
theorem Ju:(Rows.viewsSpecRow.stops==[])=true:=by kernel_rfl
theorem Jv:(Tryz.pinned.checked.prog.stops==[])=true:=by kernel_rfl
theorem Jw:(Rows.viewsSpecRow.knobs==[])=true:=by kernel_rfl
theorem Jx:(Tryz.pinned.checked.prog.stopKnobs==[])=true:=by kernel_rfl
theorem Jy:(Rows.viewsSpecRow.inPlace==Tryz.pinned.checked.prog.inPlace 3)=true:=by kernel_rfl
theorem Hq:(Rows.viewsSpecRow.unfollowed==Tryz.pinned.checked.prog.unfollowed 3)=true:=by kernel_rfl
theorem Hr:(Rows.viewsSpecRow.recurses==Tryz.pinned.checked.prog.recurses 3)=true:=by kernel_rfl
theorem Hs:(Rows.viewsSpecRow.named==Tryz.pinned.checked.prog.varsNamed 3)=true:=by kernel_rfl
theorem Ht:(Rows.viewsSpecRow.maps==(Tryz.f3.params.toList++(OpenSpec.ofChange Rows.viewsSpecSpec).bare.plain.varTypes Tryz.pinned.checked.prog).any (Tryz.pinned.checked.prog.mapsRec ·))=true:=by kernel_rfl
theorem Hu:(Rows.viewsSpecRow.ifaces==(Tryz.f3.params.toList++(OpenSpec.ofChange Rows.viewsSpecSpec).bare.plain.varTypes Tryz.pinned.checked.prog).any (Tryz.pinned.checked.prog.ifacesRec ·))=true:=by kernel_rfl
theorem Hv:(Rows.viewsSpecRow.mapsOut==Tryz.pinned.checked.prog.mapsAmong Tryz.f3.resultTypes.toList)=true:=by kernel_rfl
theorem Hw:(Rows.viewsSpecRow.loops==(Tryz.f3.params.toList++(OpenSpec.ofChange Rows.viewsSpecSpec).bare.plain.varTypes Tryz.pinned.checked.prog).any (Tryz.pinned.checked.prog.loopsFrom ·))=true:=by kernel_rfl
theorem Hx:(Rows.viewsSpecRow.wideKeys==(Tryz.f3.params.toList++(OpenSpec.ofChange Rows.viewsSpecSpec).bare.plain.varTypes Tryz.pinned.checked.prog++Tryz.f3.resultTypes.toList).any (Tryz.pinned.checked.prog.wideKeysFrom ·))=true:=by kernel_rfl
theorem Hy:((OpenSpec.ofChange Rows.viewsSpecSpec).bare.vars.all (Tryz.pinned.checked.prog.varReadable ·))=true:=by kernel_rfl
theorem Hz:(Tryz.f3.resultTypes.all (fun t=>Tryz.pinned.checked.prog.readableRec t&&decide (t<Tryz.pinned.checked.prog.types.size)))=true:=by kernel_rfl
theorem HA:(Rows.viewsSpecRow.ifacesOut==Tryz.f3.resultTypes.toList.any (Tryz.pinned.checked.prog.ifacesRec ·))=true:=by kernel_rfl
theorem HC:(Rows.viewsSpecRow.loopsOut==Tryz.f3.resultTypes.toList.any (Tryz.pinned.checked.prog.loopsFrom ·))=true:=by kernel_rfl
theorem HD:(Rows.viewsSpecRow.plainKeys==Tryz.pinned.checked.prog.plainKeys)=true:=by kernel_rfl
theorem HE:(Rows.viewsSpecRow.shortTexts.isNone)=true:=by kernel_rfl
theorem HF:(Tryz.pinned.checked.prog.stopsHeard)=true:=by kernel_rfl
theorem HG:(Tryz.pinned.checked.prog.mayEnter)=true:=by kernel_rfl
theorem HH:(Rows.viewsSpecRow.lifted==Tryz.pinned.checked.prog.liftsFinal)=true:=by kernel_rfl
theorem HI:(Tryz.pinned.checked.prog.make==some Rows.viewsSpecRow.make)=true:=by kernel_rfl
theorem HJ:(Rows.viewsSpecRow.kinds==(if Rows.viewsSpecRow.domain.isEmpty then[] else Tryz.f3.params.toList.map fun t=>match Tryz.pinned.checked.prog.underlying t with|some (.int k)=>some k|_=>none))=true:=by kernel_rfl
theorem HK:(Rows.viewsSpecRow.pinned==Rows.viewsSpecRow.pinnedBy)=true:=by kernel_rfl
theorem HL:(Rows.viewsSpecRow.veiled==(Tryz.f3.params.toList++(OpenSpec.ofChange Rows.viewsSpecSpec).bare.plain.varTypes Tryz.pinned.checked.prog++Tryz.f3.resultTypes.toList).any (Tryz.pinned.checked.prog.veiledRec ·))=true:=by kernel_rfl
theorem HM:(Rows.viewsSpecRow.veiledFits Tryz.pinned.checked.prog Tryz.f3.params.toList (Tryz.f3.params.toList++(OpenSpec.ofChange Rows.viewsSpecSpec).bare.plain.varTypes Tryz.pinned.checked.prog++Tryz.f3.resultTypes.toList))=true:=by kernel_rfl
theorem F0:joinedFacts Tryz.pinned.checked.prog 3 Tryz.f3 (OpenSpec.ofChange Rows.viewsSpecSpec).bare Rows.viewsSpecRow=true:=(eM (eM (eM (eM (eM (eM (eM (eM (eM (eM (eM (eM (eM (eM (eM (eM (eM (eM (eM (eM (eM (eM (eM (eM (eM (eM (eM (eM (eM (eM (eM Jp Jq) Jr) Js) Jt) Ju) Jv) Jw) Jx) Jy) Hq) Hr) Hs) Ht) Hu) Hv) Hw) Hx) Hy) Hz) HA) HC) HD) HE) HF) HG) HH) HI) HJ) HK) HL) HM)
end Go.Proofs.YtjabllhapfphoaaGreatDoor
