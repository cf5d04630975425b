/- part -/
import Derived.Test.YtpmlkhjpbjnagaaGreatFC
import Derived.KernelRfl
noncomputable section
namespace Go.Proofs.YtpmlkhjpbjnagaaGreat
open Go.Ax
theorem RR:f7=some true:=by kernel_rfl
end Go.Proofs.YtpmlkhjpbjnagaaGreat
