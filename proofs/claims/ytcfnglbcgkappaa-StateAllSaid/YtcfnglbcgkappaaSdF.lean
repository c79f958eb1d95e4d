/- Contracts of Store of package state, by the symbolic run. -/
import Derived.Test.YtcfnglbcgkappaaSdE
import Derived.Test.YtcfnglbcgkappaaProg
import Derived.Laws.Externs
set_option linter.unusedVariables false
set_option linter.unusedSimpArgs false
namespace Go.Proofs.Ytcfnglbcgkappaa
open Go.RowKit Go.ChangeShapes Go.WideShapes

end Go.Proofs.Ytcfnglbcgkappaa

