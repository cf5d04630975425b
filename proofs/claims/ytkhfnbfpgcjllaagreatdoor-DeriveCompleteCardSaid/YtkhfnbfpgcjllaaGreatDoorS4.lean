/- part -/
import Derived.Test.YtkhfnbfpgcjllaaGreatDoorFJ
import Derived.KernelRfl
noncomputable section
namespace Go.Proofs.YtkhfnbfpgcjllaaGreatDoor
open Go.Ax
theorem qc:f7=some true:=by kernel_rfl
end Go.Proofs.YtkhfnbfpgcjllaaGreatDoor
