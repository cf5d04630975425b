/- A part of the run. -/
import Derived.Test.YtmpdeifdnbhdiaaGreatDoorS2
namespace Go.Proofs.YtmpdeifdnbhdiaaGreatDoor
open Go.Cm
theorem PG:Kp (vO Tryz.prog gw sK 100000 (an (an (an (an (an (an (an (an (an (an (an (an (an (an (an cb))))))))))))))) 5 189 Lb Lc Ld (ids [0]) (ids []))=some (.b true):=by kernel_rfl
end Go.Proofs.YtmpdeifdnbhdiaaGreatDoor
