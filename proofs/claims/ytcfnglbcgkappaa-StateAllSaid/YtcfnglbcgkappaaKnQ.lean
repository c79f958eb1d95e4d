/- Plain laws of 64-bit numbers and known bits. -/
import Derived.Test.YtcfnglbcgkappaaKxZ
set_option linter.unusedVariables false
set_option linter.unusedSimpArgs false
namespace Go.Proofs.Ytcfnglbcgkappaa
open Go.RowKit

end Go.Proofs.Ytcfnglbcgkappaa

