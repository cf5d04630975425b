/- RoundsPermute: the plain law. -/
import Derived.Test.YtmpdeifdnbhdiaaGreatDoorVA
namespace Go.Proofs.YtmpdeifdnbhdiaaGreatDoor
open Go.Abs Go.Sort
theorem kq{α:Type}{kt:Ty}(k:kt.den)(v:α):∀es:List (kt.den×α),(eo kt k v es).length≤es.length+1
 |[]=>by simp[eo]
 |
  e::es=>by
  simp only[eo]
  split
  ·simp
  ·simp only[List.length_cons];have:=kq k v es;omega
end Go.Proofs.YtmpdeifdnbhdiaaGreatDoor
