/- part -/
import Derived.Test.YtkhfnbfpgcjllaaGreatDoorFL
import Derived.Test.YtkhfnbfpgcjllaaGreatDoorA5
noncomputable section
namespace Go.Proofs.YtkhfnbfpgcjllaaGreatDoor
open Go.Ax
def dZ:Option Nat→Nat→List ZP→Zv→Option Zv
 |none,_,[],acc=>some acc
 |some _,_,[],_=>none
 |none,d,p::l,acc=>if p.1=p.2 then dZ none (d+1) l acc else if l.isEmpty then none else dZ (some d) (d+1) l acc
 |some s,d,p::l,acc=>if p.1=p.2 then(if acc.length≤2000 then dZ none (d+1) l (acc++[((s:Int),((d:Int),()))]) else none) else if l.isEmpty then none else dZ (some s) (d+1) l acc
def ij(a b:eM):Option Zv:=if List.length a=1024 then(if List.length b=1024 then(match dZ none 0 (List.zip a b) [] with|some r=>some r|none=>iy a b) else iy a b) else iy a b
end Go.Proofs.YtkhfnbfpgcjllaaGreatDoor
