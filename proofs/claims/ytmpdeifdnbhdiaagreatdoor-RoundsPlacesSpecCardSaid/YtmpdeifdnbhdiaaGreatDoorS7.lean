/- Calls without memory that the run makes, and what they give. -/
import Derived.Test.YtmpdeifdnbhdiaaGreatDoorS5
namespace Go.Proofs.YtmpdeifdnbhdiaaGreatDoor
open Go.Cm
theorem Rb:(OQ.all fun e=>pV Tryz.prog gw sJ 100000 e.1 e.2.1 e.2.2)=true:=by kernel_rfl
theorem Re:∀e∈OQ,dv Tryz.prog gw e:=fun e he=>eI la bp (List.all_eq_true.1 Rb e he)
theorem Rf:(OR.all fun e=>pV Tryz.prog gw sJ 100000 e.1 e.2.1 e.2.2)=true:=by kernel_rfl
theorem Rg:∀e∈OR,dv Tryz.prog gw e:=fun e he=>eI la bp (List.all_eq_true.1 Rf e he)
theorem Rh:(OS.all fun e=>pV Tryz.prog gw sJ 100000 e.1 e.2.1 e.2.2)=true:=by kernel_rfl
theorem Ri:∀e∈OS,dv Tryz.prog gw e:=fun e he=>eI la bp (List.all_eq_true.1 Rh e he)
theorem Rj:(OT.all fun e=>pV Tryz.prog gw sJ 100000 e.1 e.2.1 e.2.2)=true:=by kernel_rfl
theorem Rk:∀e∈OT,dv Tryz.prog gw e:=fun e he=>eI la bp (List.all_eq_true.1 Rj e he)
end Go.Proofs.YtmpdeifdnbhdiaaGreatDoor
