/- A part of the run. -/
import Derived.Test.YtjabllhapfphoaaGreatDoorS2
namespace Go.Proofs.YtjabllhapfphoaaGreatDoor
open Go.Cm
theorem segF : finR (seg Tryz.prog glX hk2 100000 (sndC (sndC (sndC (sndC (sndC (sndC (sndC (sndC cb)))))))) 5 241 tm8 hp8 nx8 (ids [0]) (ids [])) = some (.b true) := by kernel_rfl
end Go.Proofs.YtjabllhapfphoaaGreatDoor
