/- Made by program (dec.py): walks -/
import Derived.Test.YtmpdeifdnbhdiaaGreatDoorF3
set_option maxRecDepth 100000
namespace Go.Proofs.YtmpdeifdnbhdiaaGreatDoor
open Go.Abs
end Go.Proofs.YtmpdeifdnbhdiaaGreatDoor
