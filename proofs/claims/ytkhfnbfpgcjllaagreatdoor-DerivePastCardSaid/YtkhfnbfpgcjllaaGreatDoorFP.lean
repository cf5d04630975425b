/- part -/
import Derived.Test.YtkhfnbfpgcjllaaGreatDoorUi
noncomputable section
namespace Go.Proofs.YtkhfnbfpgcjllaaGreatDoor
open Go.Ax
end Go.Proofs.YtkhfnbfpgcjllaaGreatDoor
