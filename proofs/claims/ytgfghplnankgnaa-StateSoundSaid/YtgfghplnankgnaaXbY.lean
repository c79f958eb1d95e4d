/- Texts XbM, XbN, XbO in one. -/
import Derived.Test.YtgfghplnankgnaaXbZ
import Derived.Test.YtgfghplnankgnaaProg
import Derived.Laws.Externs
/- What the document's own Do and Given of ranges come to, case by case, as their runs have them: plain laws. -/
set_option linter.unusedSectionVars false
set_option linter.unusedSimpArgs false
set_option linter.unusedVariables false
set_option linter.unusedSimpArgs false
namespace Go.Proofs.Ytgfghplnankgnaa
open Go Go.RowKit
section
variable {op : Int} {a b : Rg} (ha : a.ok) (hb : b.ok) (ma : bmay a = true) (mb : bmay b = true)
include ha hb
include ma mb
end
section
variable {a b : Rg}
end
end Go.Proofs.Ytgfghplnankgnaa


/- Contracts of the small functions of the document's own package of layer 7, by the symbolic run. -/
set_option linter.unusedVariables false
set_option linter.unusedSimpArgs false
namespace Go.Proofs.Ytgfghplnankgnaa
open Go.RowKit Go.ChangeShapes Go.WideShapes

end Go.Proofs.Ytgfghplnankgnaa


/- Contracts of Do and Given of the document's own package of layer 7, by the symbolic run. -/
set_option linter.unusedVariables false
set_option linter.unusedSimpArgs false
namespace Go.Proofs.Ytgfghplnankgnaa
open Go.RowKit Go.ChangeShapes Go.WideShapes

end Go.Proofs.Ytgfghplnankgnaa

