/- part -/
import Derived.Test.YtpmlkhjpbjnagaaGreatFB
import Derived.KernelRfl
noncomputable section
namespace Go.Proofs.YtpmlkhjpbjnagaaGreat
open Go.Ax
theorem SN:f7=some true:=by kernel_rfl
end Go.Proofs.YtpmlkhjpbjnagaaGreat
