/- Made by program (dec.py): walks -/
import Derived.Test.YtjabllhapfphoaaGreatDoorF1
namespace Go.Proofs.YtjabllhapfphoaaGreatDoor
open Go.Abs
end Go.Proofs.YtjabllhapfphoaaGreatDoor
