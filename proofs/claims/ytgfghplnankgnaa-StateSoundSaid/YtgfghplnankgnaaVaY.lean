/- Texts KaD, VaC in one. -/
import Derived.Test.YtgfghplnankgnaaVaA
import Derived.Test.YtgfghplnankgnaaProg
import Derived.Laws.Externs
import Derived.Test.YtgfghplnankgnaaVaB
import Derived.Test.YtgfghplnankgnaaVk
/- Contract of Do of package known, by the symbolic run. -/
set_option linter.unusedVariables false
set_option linter.unusedSimpArgs false
namespace Go.Proofs.Ytgfghplnankgnaa
open Go.RowKit Go.ChangeShapes Go.WideShapes

end Go.Proofs.Ytgfghplnankgnaa


/- Contracts of Do and Given of package value and of what the laws wake, by the symbolic run. -/
set_option linter.unusedVariables false
set_option linter.unusedSimpArgs false
namespace Go.Proofs.Ytgfghplnankgnaa
open Go.RowKit Go.ChangeShapes Go.WideShapes

end Go.Proofs.Ytgfghplnankgnaa

