/- part -/
import Derived.Test.YtgdcjlldafmomaaGreatFD
import Derived.KernelRfl
noncomputable section
namespace Go.Proofs.YtgdcjlldafmomaaGreat
open Go.Ax
theorem Hl:f6=some true:=by kernel_rfl
end Go.Proofs.YtgdcjlldafmomaaGreat
