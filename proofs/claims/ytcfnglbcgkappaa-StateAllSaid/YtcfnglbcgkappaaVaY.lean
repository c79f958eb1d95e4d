/- Texts KaD, VaC in one. -/
import Derived.Test.YtcfnglbcgkappaaVaA
import Derived.Test.YtcfnglbcgkappaaProg
import Derived.Laws.Externs
import Derived.Test.YtcfnglbcgkappaaVaB
import Derived.Test.YtcfnglbcgkappaaVk
/- Contract of Do of package known, by the symbolic run. -/
set_option linter.unusedVariables false
set_option linter.unusedSimpArgs false
namespace Go.Proofs.Ytcfnglbcgkappaa
open Go.RowKit Go.ChangeShapes Go.WideShapes

end Go.Proofs.Ytcfnglbcgkappaa


/- Contracts of Do and Given of package value and of what the laws wake, by the symbolic run. -/
set_option linter.unusedVariables false
set_option linter.unusedSimpArgs false
namespace Go.Proofs.Ytcfnglbcgkappaa
open Go.RowKit Go.ChangeShapes Go.WideShapes

end Go.Proofs.Ytcfnglbcgkappaa

