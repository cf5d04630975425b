/- The chapter's examples: the check of the law's package gives true. No condition. -/
import Derived.Test.YtadeibjelmcdgaaGreatFZ
import Derived.KernelRfl
noncomputable section
namespace Go.Proofs.YtadeibjelmcdgaaGreat
open Go.Ax
theorem Dy:f4=some true:=by kernel_rfl
end Go.Proofs.YtadeibjelmcdgaaGreat
