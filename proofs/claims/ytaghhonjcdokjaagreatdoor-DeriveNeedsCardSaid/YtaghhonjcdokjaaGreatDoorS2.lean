/- part -/
import Derived.Test.YtaghhonjcdokjaaGreatDoorFA
import Derived.KernelRfl
noncomputable section
namespace Go.Proofs.YtaghhonjcdokjaaGreatDoor
open Go.Ax
theorem NF:f4=some true:=by kernel_rfl
end Go.Proofs.YtaghhonjcdokjaaGreatDoor
