/- Calls without memory that the run makes, and what they give. -/
import Derived.Test.YtmpdeifdnbhdiaaGreatDoorS5
namespace Go.Proofs.YtmpdeifdnbhdiaaGreatDoor
open Go.Cm
theorem KL:(IT.all fun e=>oS Tryz.prog fP re 100000 e.1 e.2.1 e.2.2)=true:=by kernel_rfl
theorem KM:∀e∈IT,da Tryz.prog fP e:=fun e he=>dZ kA bm (List.all_eq_true.1 KL e he)
theorem KN:(IU.all fun e=>oS Tryz.prog fP re 100000 e.1 e.2.1 e.2.2)=true:=by kernel_rfl
theorem KO:∀e∈IU,da Tryz.prog fP e:=fun e he=>dZ kA bm (List.all_eq_true.1 KN e he)
theorem KP:(IV.all fun e=>oS Tryz.prog fP re 100000 e.1 e.2.1 e.2.2)=true:=by kernel_rfl
theorem KQ:∀e∈IV,da Tryz.prog fP e:=fun e he=>dZ kA bm (List.all_eq_true.1 KP e he)
theorem KR:(IW.all fun e=>oS Tryz.prog fP re 100000 e.1 e.2.1 e.2.2)=true:=by kernel_rfl
theorem KS:∀e∈IW,da Tryz.prog fP e:=fun e he=>dZ kA bm (List.all_eq_true.1 KR e he)
end Go.Proofs.YtmpdeifdnbhdiaaGreatDoor
