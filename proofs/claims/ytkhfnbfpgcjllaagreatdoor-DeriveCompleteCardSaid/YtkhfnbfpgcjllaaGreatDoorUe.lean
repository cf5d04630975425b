/- part -/
import Derived.Test.YtkhfnbfpgcjllaaGreatDoorFJ
import Derived.Test.YtkhfnbfpgcjllaaGreatDoorA5
noncomputable section
namespace Go.Proofs.YtkhfnbfpgcjllaaGreatDoor
open Go.Ax
def fW(l:Zh)(k:hJ)(known:Int):Option Zh:=if l.length*64≤aF then some (l.filter (cL k known)) else none
end Go.Proofs.YtkhfnbfpgcjllaaGreatDoor
