/- Sorting by the digests: the whole sort. -/
import Derived.Test.YtmpdeifdnbhdiaaGreatDoorV6
namespace Go.Proofs.YtmpdeifdnbhdiaaGreatDoor
open Go.Abs Go.Sort
section
variable{D:List aO} (hD:Ok D)
include hD
theorem B7{d:Array Int}(hd:Rw D d){a b:Nat}(L:Int)(hab:a≤b)(hb:b≤d.size)(h:b -a≤12)(wb wp:Bool)(lim:Nat):oF (a:Int) (b:Int) L d.toList D=some ((pdq (lt D) d a b lim wb wp).toList,D)∧Rw D (pdq (lt D) d a b lim wb wp)∧(pdq (lt D) d a b lim wb wp).size=d.size:=by
 have hs:=hd.sz
 have e:pdq (lt D) d a b lim wb wp=insertionSort (lt D) d a b:=by rw[pdq,if_pos h]
 obtain⟨i1,i2,i3⟩:=PV hD a b d (by omega) hb hd
 rw[e]
 refine⟨?_,i2,i3⟩
 unfold oF
 rw[KP,ju,gJ hab (by omega),if_pos (by simp;omega),i1]
 rfl
end
theorem B8(h:Hint):(lz h=2)↔h= .decreasing:=by cases h<;>simp[lz]
theorem vZ(h:Hint):(lz h=1)↔h= .increasing:=by cases h<;>simp[lz]
end Go.Proofs.YtmpdeifdnbhdiaaGreatDoor
