/- Contracts of the document's own package of layer 8, by the symbolic run. -/
import Derived.Test.YtgfghplnankgnaaKnZ
import Derived.Test.YtgfghplnankgnaaVk
import Derived.Test.YtgfghplnankgnaaProg
import Derived.Laws.Externs
set_option linter.unusedVariables false
set_option linter.unusedSimpArgs false
namespace Go.Proofs.Ytgfghplnankgnaa
open Go.RowKit Go.ChangeShapes Go.WideShapes

end Go.Proofs.Ytgfghplnankgnaa

