/- Calls without memory that the run makes, and what they give. -/
import Derived.Test.YtmpdeifdnbhdiaaGreatDoorS5
namespace Go.Proofs.YtmpdeifdnbhdiaaGreatDoor
open Go.Cm
theorem Rm:pV Tryz.prog gw sJ 100000 MB.1 MB.2.1 MB.2.2=true:=by kernel_rfl
theorem Ro:dv Tryz.prog gw MB:=eI la bp Rm
theorem Rp:pV Tryz.prog gw sJ 100000 MC.1 MC.2.1 MC.2.2=true:=by kernel_rfl
theorem Rq:dv Tryz.prog gw MC:=eI la bp Rp
theorem Rt:pV Tryz.prog gw sJ 100000 MD.1 MD.2.1 MD.2.2=true:=by kernel_rfl
theorem Ru:dv Tryz.prog gw MD:=eI la bp Rt
theorem Rv:pV Tryz.prog gw sJ 100000 ME.1 ME.2.1 ME.2.2=true:=by kernel_rfl
theorem Rx:dv Tryz.prog gw ME:=eI la bp Rv
theorem Ry:pV Tryz.prog gw sJ 100000 MF.1 MF.2.1 MF.2.2=true:=by kernel_rfl
theorem Rz:dv Tryz.prog gw MF:=eI la bp Ry
theorem RA:pV Tryz.prog gw sJ 100000 MG.1 MG.2.1 MG.2.2=true:=by kernel_rfl
theorem RE:dv Tryz.prog gw MG:=eI la bp RA
theorem RG:pV Tryz.prog gw sJ 100000 MH.1 MH.2.1 MH.2.2=true:=by kernel_rfl
theorem RI:dv Tryz.prog gw MH:=eI la bp RG
end Go.Proofs.YtmpdeifdnbhdiaaGreatDoor
