/- A part of the run. -/
import Derived.Test.YtjabllhapfphoaaGreatDoorS2
namespace Go.Proofs.YtjabllhapfphoaaGreatDoor
open Go.Cm
theorem Jj:Ig (CO Tryz.prog kZ xu 100000 (bD (bD (bD (bD (bD (bD (bD (bD cb)))))))) 5 241 Ks Kt Ku (ids [0]) (ids []))=some (.b true):=by kernel_rfl
end Go.Proofs.YtjabllhapfphoaaGreatDoor
