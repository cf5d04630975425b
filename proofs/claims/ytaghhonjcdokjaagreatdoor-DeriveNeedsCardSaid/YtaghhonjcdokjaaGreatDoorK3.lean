/- part -/
import Derived.Test.YtaghhonjcdokjaaGreatDoorRows
import Derived.JoinedCond
import Derived.KernelRfl
namespace Go.Proofs.YtaghhonjcdokjaaGreatDoor
open Go
set_option maxRecDepth 100000
theorem gP{a b:Bool}(h1:a=true)(h2:b=true):(a&&b)=true:=by rw[h1,h2];rfl
theorem acU:(Rows.deriveNeedsRow.wf (OpenSpec.ofChange (OpenSpec.ofChange Rows.deriveNeedsSpec).bare))=true:=by kernel_rfl
theorem acV:(laidOutB Tryz.pinned.checked.prog)=true:=by kernel_rfl
theorem acW:(mapsRowed Tryz.pinned.checked.prog)=true:=by kernel_rfl
theorem acX:(Tryz.f3.params.all (Tryz.pinned.checked.prog.readableRec ·))=true:=by kernel_rfl
theorem acY:(namedTie Tryz.pinned.checked.prog Rows.deriveNeedsRow.named (OpenSpec.ofChange Rows.deriveNeedsSpec).bare.vars)=true:=by kernel_rfl
theorem acZ:(Rows.deriveNeedsRow.stops==[])=true:=by kernel_rfl
theorem ac0:(Tryz.pinned.checked.prog.stops==[])=true:=by kernel_rfl
theorem ac1:(Rows.deriveNeedsRow.knobs==[])=true:=by kernel_rfl
theorem ac2:(Tryz.pinned.checked.prog.stopKnobs==[])=true:=by kernel_rfl
theorem ac3:(Rows.deriveNeedsRow.inPlace==Tryz.pinned.checked.prog.inPlace 3)=true:=by kernel_rfl
theorem Ue:(Rows.deriveNeedsRow.unfollowed==Tryz.pinned.checked.prog.unfollowed 3)=true:=by kernel_rfl
theorem Uf:(Rows.deriveNeedsRow.recurses==Tryz.pinned.checked.prog.recurses 3)=true:=by kernel_rfl
theorem Ug:(Rows.deriveNeedsRow.named==Tryz.pinned.checked.prog.varsNamed 3)=true:=by kernel_rfl
theorem Uh:(Rows.deriveNeedsRow.maps==(Tryz.f3.params.toList++(OpenSpec.ofChange Rows.deriveNeedsSpec).bare.plain.varTypes Tryz.pinned.checked.prog).any (Tryz.pinned.checked.prog.mapsRec ·))=true:=by kernel_rfl
theorem Ui:(Rows.deriveNeedsRow.ifaces==(Tryz.f3.params.toList++(OpenSpec.ofChange Rows.deriveNeedsSpec).bare.plain.varTypes Tryz.pinned.checked.prog).any (Tryz.pinned.checked.prog.ifacesRec ·))=true:=by kernel_rfl
theorem Uj:(Rows.deriveNeedsRow.mapsOut==Tryz.pinned.checked.prog.mapsAmong Tryz.f3.resultTypes.toList)=true:=by kernel_rfl
theorem Uk:(Rows.deriveNeedsRow.loops==(Tryz.f3.params.toList++(OpenSpec.ofChange Rows.deriveNeedsSpec).bare.plain.varTypes Tryz.pinned.checked.prog).any (Tryz.pinned.checked.prog.loopsFrom ·))=true:=by kernel_rfl
theorem Ul:(Rows.deriveNeedsRow.wideKeys==(Tryz.f3.params.toList++(OpenSpec.ofChange Rows.deriveNeedsSpec).bare.plain.varTypes Tryz.pinned.checked.prog++Tryz.f3.resultTypes.toList).any (Tryz.pinned.checked.prog.wideKeysFrom ·))=true:=by kernel_rfl
theorem Um:((OpenSpec.ofChange Rows.deriveNeedsSpec).bare.vars.all (Tryz.pinned.checked.prog.varReadable ·))=true:=by kernel_rfl
theorem Un:(Tryz.f3.resultTypes.all (fun t=>Tryz.pinned.checked.prog.readableRec t&&decide (t<Tryz.pinned.checked.prog.types.size)))=true:=by kernel_rfl
theorem Up:(Rows.deriveNeedsRow.ifacesOut==Tryz.f3.resultTypes.toList.any (Tryz.pinned.checked.prog.ifacesRec ·))=true:=by kernel_rfl
theorem Uq:(Rows.deriveNeedsRow.loopsOut==Tryz.f3.resultTypes.toList.any (Tryz.pinned.checked.prog.loopsFrom ·))=true:=by kernel_rfl
theorem Ur:(Rows.deriveNeedsRow.plainKeys==Tryz.pinned.checked.prog.plainKeys)=true:=by kernel_rfl
theorem Us:(Rows.deriveNeedsRow.shortTexts.isNone)=true:=by kernel_rfl
theorem Ut:(Tryz.pinned.checked.prog.stopsHeard)=true:=by kernel_rfl
theorem Uv:(Tryz.pinned.checked.prog.mayEnter)=true:=by kernel_rfl
theorem Uw:(Rows.deriveNeedsRow.lifted==Tryz.pinned.checked.prog.liftsFinal)=true:=by kernel_rfl
theorem Ux:(Tryz.pinned.checked.prog.make==some Rows.deriveNeedsRow.make)=true:=by kernel_rfl
theorem Uy:(Rows.deriveNeedsRow.kinds==(if Rows.deriveNeedsRow.domain.isEmpty then[] else Tryz.f3.params.toList.map fun t=>match Tryz.pinned.checked.prog.underlying t with|some (.int k)=>some k|_=>none))=true:=by kernel_rfl
theorem Uz:(Rows.deriveNeedsRow.pinned==Rows.deriveNeedsRow.pinnedBy)=true:=by kernel_rfl
theorem UA:(Rows.deriveNeedsRow.veiled==(Tryz.f3.params.toList++(OpenSpec.ofChange Rows.deriveNeedsSpec).bare.plain.varTypes Tryz.pinned.checked.prog++Tryz.f3.resultTypes.toList).any (Tryz.pinned.checked.prog.veiledRec ·))=true:=by kernel_rfl
theorem UB:(Rows.deriveNeedsRow.veiledFits Tryz.pinned.checked.prog Tryz.f3.params.toList (Tryz.f3.params.toList++(OpenSpec.ofChange Rows.deriveNeedsSpec).bare.plain.varTypes Tryz.pinned.checked.prog++Tryz.f3.resultTypes.toList))=true:=by kernel_rfl
theorem RJ:joinedFacts Tryz.pinned.checked.prog 3 Tryz.f3 (OpenSpec.ofChange Rows.deriveNeedsSpec).bare Rows.deriveNeedsRow=true:=(gP (gP (gP (gP (gP (gP (gP (gP (gP (gP (gP (gP (gP (gP (gP (gP (gP (gP (gP (gP (gP (gP (gP (gP (gP (gP (gP (gP (gP (gP (gP acU acV) acW) acX) acY) acZ) ac0) ac1) ac2) ac3) Ue) Uf) Ug) Uh) Ui) Uj) Uk) Ul) Um) Un) Up) Uq) Ur) Us) Ut) Uv) Uw) Ux) Uy) Uz) UA) UB)
end Go.Proofs.YtaghhonjcdokjaaGreatDoor
