/- The closed facts of the row, one by one. No condition. -/
import Derived.Test.YtmpdeifdnbhdiaaGreatDoorRows
import Derived.JoinedCond
import Derived.KernelRfl
namespace Go.Proofs.YtmpdeifdnbhdiaaGreatDoor
open Go
set_option maxRecDepth 100000
theorem eJ{a b:Bool}(h1:a=true)(h2:b=true):(a&&b)=true:=by rw[h1,h2];rfl
theorem Pu:(Rows.roundsPlacesSpecRow.wf (OpenSpec.ofChange (OpenSpec.ofChange Rows.roundsPlacesSpecSpec).bare))=true:=by kernel_rfl
theorem Pv:(laidOutB Tryz.pinned.checked.prog)=true:=by kernel_rfl
theorem Pw:(mapsRowed Tryz.pinned.checked.prog)=true:=by kernel_rfl
theorem Px:(Tryz.f3.params.all (Tryz.pinned.checked.prog.readableRec ·))=true:=by kernel_rfl
theorem Py:(namedTie Tryz.pinned.checked.prog Rows.roundsPlacesSpecRow.named (OpenSpec.ofChange Rows.roundsPlacesSpecSpec).bare.vars)=true:=by kernel_rfl
theorem Pz:(Rows.roundsPlacesSpecRow.stops==[])=true:=by kernel_rfl
theorem PA:(Tryz.pinned.checked.prog.stops==[])=true:=by kernel_rfl
theorem PB:(Rows.roundsPlacesSpecRow.knobs==[])=true:=by kernel_rfl
theorem PC:(Tryz.pinned.checked.prog.stopKnobs==[])=true:=by kernel_rfl
theorem PD:(Rows.roundsPlacesSpecRow.inPlace==Tryz.pinned.checked.prog.inPlace 3)=true:=by kernel_rfl
theorem Nt:(Rows.roundsPlacesSpecRow.unfollowed==Tryz.pinned.checked.prog.unfollowed 3)=true:=by kernel_rfl
theorem Nu:(Rows.roundsPlacesSpecRow.recurses==Tryz.pinned.checked.prog.recurses 3)=true:=by kernel_rfl
theorem Nv:(Rows.roundsPlacesSpecRow.named==Tryz.pinned.checked.prog.varsNamed 3)=true:=by kernel_rfl
theorem Nw:(Rows.roundsPlacesSpecRow.maps==(Tryz.f3.params.toList++(OpenSpec.ofChange Rows.roundsPlacesSpecSpec).bare.plain.varTypes Tryz.pinned.checked.prog).any (Tryz.pinned.checked.prog.mapsRec ·))=true:=by kernel_rfl
theorem Nx:(Rows.roundsPlacesSpecRow.ifaces==(Tryz.f3.params.toList++(OpenSpec.ofChange Rows.roundsPlacesSpecSpec).bare.plain.varTypes Tryz.pinned.checked.prog).any (Tryz.pinned.checked.prog.ifacesRec ·))=true:=by kernel_rfl
theorem Ny:(Rows.roundsPlacesSpecRow.mapsOut==Tryz.pinned.checked.prog.mapsAmong Tryz.f3.resultTypes.toList)=true:=by kernel_rfl
theorem Nz:(Rows.roundsPlacesSpecRow.loops==(Tryz.f3.params.toList++(OpenSpec.ofChange Rows.roundsPlacesSpecSpec).bare.plain.varTypes Tryz.pinned.checked.prog).any (Tryz.pinned.checked.prog.loopsFrom ·))=true:=by kernel_rfl
theorem NA:(Rows.roundsPlacesSpecRow.wideKeys==(Tryz.f3.params.toList++(OpenSpec.ofChange Rows.roundsPlacesSpecSpec).bare.plain.varTypes Tryz.pinned.checked.prog++Tryz.f3.resultTypes.toList).any (Tryz.pinned.checked.prog.wideKeysFrom ·))=true:=by kernel_rfl
theorem NB:((OpenSpec.ofChange Rows.roundsPlacesSpecSpec).bare.vars.all (Tryz.pinned.checked.prog.varReadable ·))=true:=by kernel_rfl
theorem NC:(Tryz.f3.resultTypes.all (fun t=>Tryz.pinned.checked.prog.readableRec t&&decide (t<Tryz.pinned.checked.prog.types.size)))=true:=by kernel_rfl
theorem ND:(Rows.roundsPlacesSpecRow.ifacesOut==Tryz.f3.resultTypes.toList.any (Tryz.pinned.checked.prog.ifacesRec ·))=true:=by kernel_rfl
theorem NF:(Rows.roundsPlacesSpecRow.loopsOut==Tryz.f3.resultTypes.toList.any (Tryz.pinned.checked.prog.loopsFrom ·))=true:=by kernel_rfl
theorem NG:(Rows.roundsPlacesSpecRow.plainKeys==Tryz.pinned.checked.prog.plainKeys)=true:=by kernel_rfl
theorem NH:(Rows.roundsPlacesSpecRow.shortTexts.isNone)=true:=by kernel_rfl
theorem NI:(Tryz.pinned.checked.prog.stopsHeard)=true:=by kernel_rfl
theorem NJ:(Tryz.pinned.checked.prog.mayEnter)=true:=by kernel_rfl
theorem NK:(Rows.roundsPlacesSpecRow.lifted==Tryz.pinned.checked.prog.liftsFinal)=true:=by kernel_rfl
theorem NL:(Tryz.pinned.checked.prog.make==some Rows.roundsPlacesSpecRow.make)=true:=by kernel_rfl
theorem NM:(Rows.roundsPlacesSpecRow.kinds==(if Rows.roundsPlacesSpecRow.domain.isEmpty then[] else Tryz.f3.params.toList.map fun t=>match Tryz.pinned.checked.prog.underlying t with|some (.int k)=>some k|_=>none))=true:=by kernel_rfl
theorem NN:(Rows.roundsPlacesSpecRow.pinned==Rows.roundsPlacesSpecRow.pinnedBy)=true:=by kernel_rfl
theorem NO:(Rows.roundsPlacesSpecRow.veiled==(Tryz.f3.params.toList++(OpenSpec.ofChange Rows.roundsPlacesSpecSpec).bare.plain.varTypes Tryz.pinned.checked.prog++Tryz.f3.resultTypes.toList).any (Tryz.pinned.checked.prog.veiledRec ·))=true:=by kernel_rfl
theorem NP:(Rows.roundsPlacesSpecRow.veiledFits Tryz.pinned.checked.prog Tryz.f3.params.toList (Tryz.f3.params.toList++(OpenSpec.ofChange Rows.roundsPlacesSpecSpec).bare.plain.varTypes Tryz.pinned.checked.prog++Tryz.f3.resultTypes.toList))=true:=by kernel_rfl
theorem JQ:joinedFacts Tryz.pinned.checked.prog 3 Tryz.f3 (OpenSpec.ofChange Rows.roundsPlacesSpecSpec).bare Rows.roundsPlacesSpecRow=true:=(eJ (eJ (eJ (eJ (eJ (eJ (eJ (eJ (eJ (eJ (eJ (eJ (eJ (eJ (eJ (eJ (eJ (eJ (eJ (eJ (eJ (eJ (eJ (eJ (eJ (eJ (eJ (eJ (eJ (eJ (eJ Pu Pv) Pw) Px) Py) Pz) PA) PB) PC) PD) Nt) Nu) Nv) Nw) Nx) Ny) Nz) NA) NB) NC) ND) NF) NG) NH) NI) NJ) NK) NL) NM) NN) NO) NP)
end Go.Proofs.YtmpdeifdnbhdiaaGreatDoor
