/- A part of the run. -/
import Derived.Test.YtmpdeifdnbhdiaaGreatDoorS2
namespace Go.Proofs.YtmpdeifdnbhdiaaGreatDoor
open Go.Cm
theorem JC:F4 (tZ Tryz.prog fP sB 100000 (al (al (al (al (al (al (al (al (al (al (al (al (al (al (al cb))))))))))))))) 5 189 GO GP GQ (ids [0]) (ids []))=some (.b true):=by kernel_rfl
end Go.Proofs.YtmpdeifdnbhdiaaGreatDoor
