/- The walks of the reference's shift and Do. -/
import Derived.Test.YtcngfmhhaleoaaaKnS
import Derived.Test.YtcngfmhhaleoaaaKnM
set_option linter.unusedVariables false
set_option linter.unusedSimpArgs false
namespace Go.Proofs.Ytcngfmhhaleoaaa
open Go.RowKit

theorem zlong32 : zlong 32 = true := rfl
theorem zlong64 : zlong 64 = true := rfl
theorem low_eq (w1 : Int) (h1 : 32 ≤ w1) (h2 : w1 ≤ 64) : IntKind.u64.wrap (IntKind.u64.wrap w1 - 1) = w1 - 1 := by rw [w_u64, w_u64]; omega

end Go.Proofs.Ytcngfmhhaleoaaa
