/- part -/
import Derived.Test.YtkhfnbfpgcjllaaGreatDoorFQ
import Derived.Test.YtkhfnbfpgcjllaaGreatDoorA5
noncomputable section
namespace Go.Proofs.YtkhfnbfpgcjllaaGreatDoor
open Go.Ax
theorem gM{a b:Zd}(ha:a.length=1024)(hb:b.length=1024){i:Nat}(h:i<1024):
 (a.zip b).drop i=(a[i],b[i])::(a.zip b).drop (i+1):=by
 rw[iA (by rw[List.length_zip];omega),List.getElem_zip]
theorem gB{a b:Zd}(ha:a.length=1024)(hb:b.length=1024){i:Nat}:((a.zip b).drop i).isEmpty=true↔1024≤i:=by
 rw[List.isEmpty_iff,List.drop_eq_nil_iff,List.length_zip,ha,hb];omega
theorem pL:dA=18446744073709551615+1:=rfl
end Go.Proofs.YtkhfnbfpgcjllaaGreatDoor
