/- part -/
import Derived.Test.YtkhfnbfpgcjllaaGreatDoorFO
import Derived.Test.YtkhfnbfpgcjllaaGreatDoorA5
noncomputable section
namespace Go.Proofs.YtkhfnbfpgcjllaaGreatDoor
open Go.Ax
end Go.Proofs.YtkhfnbfpgcjllaaGreatDoor
