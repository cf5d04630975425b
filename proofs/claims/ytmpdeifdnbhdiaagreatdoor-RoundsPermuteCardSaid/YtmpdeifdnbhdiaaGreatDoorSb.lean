/- Calls without memory that the run makes, and what they give. -/
import Derived.Test.YtmpdeifdnbhdiaaGreatDoorS5
namespace Go.Proofs.YtmpdeifdnbhdiaaGreatDoor
open Go.Cm
theorem KT:oS Tryz.prog fP re 100000 GR.1 GR.2.1 GR.2.2=true:=by kernel_rfl
theorem KU:da Tryz.prog fP GR:=dZ kA bm KT
theorem KW:oS Tryz.prog fP re 100000 GS.1 GS.2.1 GS.2.2=true:=by kernel_rfl
theorem KX:da Tryz.prog fP GS:=dZ kA bm KW
theorem KY:oS Tryz.prog fP re 100000 GU.1 GU.2.1 GU.2.2=true:=by kernel_rfl
theorem KZ:da Tryz.prog fP GU:=dZ kA bm KY
theorem K0:oS Tryz.prog fP re 100000 GV.1 GV.2.1 GV.2.2=true:=by kernel_rfl
theorem K1:da Tryz.prog fP GV:=dZ kA bm K0
theorem K2:oS Tryz.prog fP re 100000 GW.1 GW.2.1 GW.2.2=true:=by kernel_rfl
theorem K3:da Tryz.prog fP GW:=dZ kA bm K2
theorem K4:oS Tryz.prog fP re 100000 GX.1 GX.2.1 GX.2.2=true:=by kernel_rfl
theorem K5:da Tryz.prog fP GX:=dZ kA bm K4
theorem K6:oS Tryz.prog fP re 100000 GY.1 GY.2.1 GY.2.2=true:=by kernel_rfl
theorem K7:da Tryz.prog fP GY:=dZ kA bm K6
end Go.Proofs.YtmpdeifdnbhdiaaGreatDoor
