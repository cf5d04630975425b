/- The law's own example holds: the program's run of it, by the kernel. No condition. -/
import Derived.Test.YtgdcjlldafmomaaGreatFD
import Derived.KernelRfl
noncomputable section
namespace Go.Proofs.YtgdcjlldafmomaaGreat
open Go.Ax
theorem EE:f6=some true:=by kernel_rfl
end Go.Proofs.YtgdcjlldafmomaaGreat
