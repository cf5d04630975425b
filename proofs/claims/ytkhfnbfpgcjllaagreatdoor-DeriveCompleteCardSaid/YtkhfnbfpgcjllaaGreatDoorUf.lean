/- part -/
import Derived.Test.YtkhfnbfpgcjllaaGreatDoorFK
import Derived.Test.YtkhfnbfpgcjllaaGreatDoorA5
noncomputable section
namespace Go.Proofs.YtkhfnbfpgcjllaaGreatDoor
open Go.Ax
def lR(own:Zh)(x:Int):Int:=if 0<x then imax ((nth aN own (x -1)).2.1) (-1) else-1
def Nu(own:Zh)(b:Zd):Bool:=b.all fun x=>decide (x≤(own.length:Int))&&decide ((own.length:Int)≤1000)
def fa(a0:Zh)(a1:hJ)(a2:Int):Option eM:=
 Option.bind (fW a0 a1 a2) fun y2=>aG (U:=Zh×eM) (g8 (Int.toNat (List.length y2:Int)+1) (y2,y2,(List.length y2:Int),(0:Int),Ty.aH jX)) fun x=>
  if x.2.length=1024 then(if Nu x.1 x.2=true then some (x.2.map (lR x.1)) else none) else none
end Go.Proofs.YtkhfnbfpgcjllaaGreatDoor
