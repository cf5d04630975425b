/- part -/
import Derived.Test.YtkhfnbfpgcjllaaGreatDoorRows
import Derived.JoinedCond
import Derived.KernelRfl
namespace Go.Proofs.YtkhfnbfpgcjllaaGreatDoor
open Go
set_option maxRecDepth 100000
theorem cI{a b:Bool}(h1:a=true)(h2:b=true):(a&&b)=true:=by rw[h1,h2];rfl
theorem adl:(Rows.deriveSoundRow.wf (OpenSpec.ofChange (OpenSpec.ofChange Rows.deriveSoundSpec).bare))=true:=by kernel_rfl
theorem adm:(laidOutB Tryz.pinned.checked.prog)=true:=by kernel_rfl
theorem adn:(mapsRowed Tryz.pinned.checked.prog)=true:=by kernel_rfl
theorem ado:(Tryz.f3.params.all (Tryz.pinned.checked.prog.readableRec ·))=true:=by kernel_rfl
theorem adp:(namedTie Tryz.pinned.checked.prog Rows.deriveSoundRow.named (OpenSpec.ofChange Rows.deriveSoundSpec).bare.vars)=true:=by kernel_rfl
theorem adq:(Rows.deriveSoundRow.stops==[])=true:=by kernel_rfl
theorem adr:(Tryz.pinned.checked.prog.stops==[])=true:=by kernel_rfl
theorem ads:(Rows.deriveSoundRow.knobs==[])=true:=by kernel_rfl
theorem adt:(Tryz.pinned.checked.prog.stopKnobs==[])=true:=by kernel_rfl
theorem adu:(Rows.deriveSoundRow.inPlace==Tryz.pinned.checked.prog.inPlace 3)=true:=by kernel_rfl
theorem X4:(Rows.deriveSoundRow.unfollowed==Tryz.pinned.checked.prog.unfollowed 3)=true:=by kernel_rfl
theorem X6:(Rows.deriveSoundRow.recurses==Tryz.pinned.checked.prog.recurses 3)=true:=by kernel_rfl
theorem X7:(Rows.deriveSoundRow.named==Tryz.pinned.checked.prog.varsNamed 3)=true:=by kernel_rfl
theorem X8:(Rows.deriveSoundRow.maps==(Tryz.f3.params.toList++(OpenSpec.ofChange Rows.deriveSoundSpec).bare.plain.varTypes Tryz.pinned.checked.prog).any (Tryz.pinned.checked.prog.mapsRec ·))=true:=by kernel_rfl
theorem X9:(Rows.deriveSoundRow.ifaces==(Tryz.f3.params.toList++(OpenSpec.ofChange Rows.deriveSoundSpec).bare.plain.varTypes Tryz.pinned.checked.prog).any (Tryz.pinned.checked.prog.ifacesRec ·))=true:=by kernel_rfl
theorem Ya:(Rows.deriveSoundRow.mapsOut==Tryz.pinned.checked.prog.mapsAmong Tryz.f3.resultTypes.toList)=true:=by kernel_rfl
theorem Yb:(Rows.deriveSoundRow.loops==(Tryz.f3.params.toList++(OpenSpec.ofChange Rows.deriveSoundSpec).bare.plain.varTypes Tryz.pinned.checked.prog).any (Tryz.pinned.checked.prog.loopsFrom ·))=true:=by kernel_rfl
theorem Yd:(Rows.deriveSoundRow.wideKeys==(Tryz.f3.params.toList++(OpenSpec.ofChange Rows.deriveSoundSpec).bare.plain.varTypes Tryz.pinned.checked.prog++Tryz.f3.resultTypes.toList).any (Tryz.pinned.checked.prog.wideKeysFrom ·))=true:=by kernel_rfl
theorem Ye:((OpenSpec.ofChange Rows.deriveSoundSpec).bare.vars.all (Tryz.pinned.checked.prog.varReadable ·))=true:=by kernel_rfl
theorem Yf:(Tryz.f3.resultTypes.all (fun t=>Tryz.pinned.checked.prog.readableRec t&&decide (t<Tryz.pinned.checked.prog.types.size)))=true:=by kernel_rfl
theorem Yg:(Rows.deriveSoundRow.ifacesOut==Tryz.f3.resultTypes.toList.any (Tryz.pinned.checked.prog.ifacesRec ·))=true:=by kernel_rfl
theorem Yh:(Rows.deriveSoundRow.loopsOut==Tryz.f3.resultTypes.toList.any (Tryz.pinned.checked.prog.loopsFrom ·))=true:=by kernel_rfl
theorem Yi:(Rows.deriveSoundRow.plainKeys==Tryz.pinned.checked.prog.plainKeys)=true:=by kernel_rfl
theorem Yj:(Rows.deriveSoundRow.shortTexts.isNone)=true:=by kernel_rfl
theorem Yk:(Tryz.pinned.checked.prog.stopsHeard)=true:=by kernel_rfl
theorem Yl:(Tryz.pinned.checked.prog.mayEnter)=true:=by kernel_rfl
theorem Ym:(Rows.deriveSoundRow.lifted==Tryz.pinned.checked.prog.liftsFinal)=true:=by kernel_rfl
theorem Yn:(Tryz.pinned.checked.prog.make==some Rows.deriveSoundRow.make)=true:=by kernel_rfl
theorem Yo:(Rows.deriveSoundRow.kinds==(if Rows.deriveSoundRow.domain.isEmpty then[] else Tryz.f3.params.toList.map fun t=>match Tryz.pinned.checked.prog.underlying t with|some (.int k)=>some k|_=>none))=true:=by kernel_rfl
theorem Yp:(Rows.deriveSoundRow.pinned==Rows.deriveSoundRow.pinnedBy)=true:=by kernel_rfl
theorem Yq:(Rows.deriveSoundRow.veiled==(Tryz.f3.params.toList++(OpenSpec.ofChange Rows.deriveSoundSpec).bare.plain.varTypes Tryz.pinned.checked.prog++Tryz.f3.resultTypes.toList).any (Tryz.pinned.checked.prog.veiledRec ·))=true:=by kernel_rfl
theorem Yr:(Rows.deriveSoundRow.veiledFits Tryz.pinned.checked.prog Tryz.f3.params.toList (Tryz.f3.params.toList++(OpenSpec.ofChange Rows.deriveSoundSpec).bare.plain.varTypes Tryz.pinned.checked.prog++Tryz.f3.resultTypes.toList))=true:=by kernel_rfl
theorem U4:joinedFacts Tryz.pinned.checked.prog 3 Tryz.f3 (OpenSpec.ofChange Rows.deriveSoundSpec).bare Rows.deriveSoundRow=true:=(cI (cI (cI (cI (cI (cI (cI (cI (cI (cI (cI (cI (cI (cI (cI (cI (cI (cI (cI (cI (cI (cI (cI (cI (cI (cI (cI (cI (cI (cI (cI adl adm) adn) ado) adp) adq) adr) ads) adt) adu) X4) X6) X7) X8) X9) Ya) Yb) Yd) Ye) Yf) Yg) Yh) Yi) Yj) Yk) Yl) Ym) Yn) Yo) Yp) Yq) Yr)
end Go.Proofs.YtkhfnbfpgcjllaaGreatDoor
