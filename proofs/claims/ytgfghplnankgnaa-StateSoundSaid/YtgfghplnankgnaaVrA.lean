/- Contracts of the document's own packages of layers 8 and 9, by the symbolic run. -/
import Derived.Test.YtgfghplnankgnaaVrL
import Derived.Test.YtgfghplnankgnaaVqA
import Derived.Test.YtgfghplnankgnaaProg
import Derived.Laws.Externs
set_option linter.unusedVariables false
set_option linter.unusedSimpArgs false
namespace Go.Proofs.Ytgfghplnankgnaa
open Go.RowKit Go.ChangeShapes Go.WideShapes

end Go.Proofs.Ytgfghplnankgnaa

