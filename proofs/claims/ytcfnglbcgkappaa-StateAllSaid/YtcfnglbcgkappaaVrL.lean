/- The reference of scalars comes to the same: plain laws. No walk is in here. -/
import Derived.Test.YtcfnglbcgkappaaKnZ
import Derived.Test.YtcfnglbcgkappaaXbY
set_option linter.unusedVariables false
set_option linter.unusedSimpArgs false
namespace Go.Proofs.Ytcfnglbcgkappaa
open Go Go.RowKit
end Go.Proofs.Ytcfnglbcgkappaa

