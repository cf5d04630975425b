/- part -/
import Derived.Test.YtkhfnbfpgcjllaaGreatDoorUj
noncomputable section
namespace Go.Proofs.YtkhfnbfpgcjllaaGreatDoor
open Go.Ax
end Go.Proofs.YtkhfnbfpgcjllaaGreatDoor
