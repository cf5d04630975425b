/- The places: a permutation of all numbers below the number of orders. -/
import Derived.Test.YtmpdeifdnbhdiaaGreatDoorV9
import Derived.Test.YtmpdeifdnbhdiaaGreatDoorL0
import Derived.Test.YtmpdeifdnbhdiaaGreatDoorF4
namespace Go.Proofs.YtmpdeifdnbhdiaaGreatDoor
open Go.Abs Go.Sort
def j7(n:Nat):List Int:=(List.range n).map Int.ofNat
end Go.Proofs.YtmpdeifdnbhdiaaGreatDoor
