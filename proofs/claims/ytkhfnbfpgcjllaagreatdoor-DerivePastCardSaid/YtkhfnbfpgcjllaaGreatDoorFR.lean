/- part -/
import Derived.Test.YtkhfnbfpgcjllaaGreatDoorUk
noncomputable section
namespace Go.Proofs.YtkhfnbfpgcjllaaGreatDoor
open Go.Ax
end Go.Proofs.YtkhfnbfpgcjllaaGreatDoor
