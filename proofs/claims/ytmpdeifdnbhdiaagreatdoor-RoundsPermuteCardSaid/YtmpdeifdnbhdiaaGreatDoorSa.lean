/- Calls without memory that the run makes, and what they give. -/
import Derived.Test.YtmpdeifdnbhdiaaGreatDoorS5
namespace Go.Proofs.YtmpdeifdnbhdiaaGreatDoor
open Go.Cm
theorem Kr:(IX.all fun e=>oS Tryz.prog fP re 100000 e.1 e.2.1 e.2.2)=true:=by kernel_rfl
theorem Ks:∀e∈IX,da Tryz.prog fP e:=fun e he=>dZ kA bm (List.all_eq_true.1 Kr e he)
theorem Kt:(IY.all fun e=>oS Tryz.prog fP re 100000 e.1 e.2.1 e.2.2)=true:=by kernel_rfl
theorem Ku:∀e∈IY,da Tryz.prog fP e:=fun e he=>dZ kA bm (List.all_eq_true.1 Kt e he)
theorem Kv:(IZ.all fun e=>oS Tryz.prog fP re 100000 e.1 e.2.1 e.2.2)=true:=by kernel_rfl
theorem Kw:∀e∈IZ,da Tryz.prog fP e:=fun e he=>dZ kA bm (List.all_eq_true.1 Kv e he)
theorem Kx:(I0.all fun e=>oS Tryz.prog fP re 100000 e.1 e.2.1 e.2.2)=true:=by kernel_rfl
theorem Ky:∀e∈I0,da Tryz.prog fP e:=fun e he=>dZ kA bm (List.all_eq_true.1 Kx e he)
end Go.Proofs.YtmpdeifdnbhdiaaGreatDoor
