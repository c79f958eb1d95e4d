/- Contracts of loads and stores of package state, by the symbolic run. -/
import Derived.Test.YtcfnglbcgkappaaSdD
import Derived.Test.YtcfnglbcgkappaaVrB
import Derived.Test.YtcfnglbcgkappaaProg
import Derived.Laws.Externs
set_option linter.unusedVariables false
set_option linter.unusedSimpArgs false
namespace Go.Proofs.Ytcfnglbcgkappaa
open Go.RowKit Go.ChangeShapes Go.WideShapes

end Go.Proofs.Ytcfnglbcgkappaa

