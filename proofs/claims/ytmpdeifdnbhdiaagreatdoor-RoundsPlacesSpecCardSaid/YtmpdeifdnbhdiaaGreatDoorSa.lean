/- Calls without memory that the run makes, and what they give. -/
import Derived.Test.YtmpdeifdnbhdiaaGreatDoorS5
namespace Go.Proofs.YtmpdeifdnbhdiaaGreatDoor
open Go.Cm
theorem QN:(OU.all fun e=>pV Tryz.prog gw sJ 100000 e.1 e.2.1 e.2.2)=true:=by kernel_rfl
theorem QO:∀e∈OU,dv Tryz.prog gw e:=fun e he=>eI la bp (List.all_eq_true.1 QN e he)
theorem QP:(OV.all fun e=>pV Tryz.prog gw sJ 100000 e.1 e.2.1 e.2.2)=true:=by kernel_rfl
theorem QQ:∀e∈OV,dv Tryz.prog gw e:=fun e he=>eI la bp (List.all_eq_true.1 QP e he)
theorem QR:(OW.all fun e=>pV Tryz.prog gw sJ 100000 e.1 e.2.1 e.2.2)=true:=by kernel_rfl
theorem QS:∀e∈OW,dv Tryz.prog gw e:=fun e he=>eI la bp (List.all_eq_true.1 QR e he)
theorem QT:(OX.all fun e=>pV Tryz.prog gw sJ 100000 e.1 e.2.1 e.2.2)=true:=by kernel_rfl
theorem QU:∀e∈OX,dv Tryz.prog gw e:=fun e he=>eI la bp (List.all_eq_true.1 QT e he)
end Go.Proofs.YtmpdeifdnbhdiaaGreatDoor
