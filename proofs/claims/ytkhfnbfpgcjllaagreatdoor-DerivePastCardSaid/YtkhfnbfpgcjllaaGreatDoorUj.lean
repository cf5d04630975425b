/- part -/
import Derived.Test.YtkhfnbfpgcjllaaGreatDoorFP
import Derived.Test.YtkhfnbfpgcjllaaGreatDoorA5
noncomputable section
namespace Go.Proofs.YtkhfnbfpgcjllaaGreatDoor
open Go.Ax
theorem lh{α:Type}(a b:List α)(x y:α):(a++x::b).set a.length y=a++y::b:=by
 rw[List.set_append_right _ _ (cV _),Nat.sub_self,List.set_cons_zero]
end Go.Proofs.YtkhfnbfpgcjllaaGreatDoor
