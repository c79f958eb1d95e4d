/- The walks of the reference of package known: the small ones. -/
import Derived.Test.YtcngfmhhaleoaaaKn
import Derived.Deep.RegionHeld3
import Derived.Deep.RegionWith
set_option linter.unusedVariables false
set_option linter.unusedSimpArgs false
namespace Go.Proofs.Ytcngfmhhaleoaaa
open Go.RowKit

end Go.Proofs.Ytcngfmhhaleoaaa
