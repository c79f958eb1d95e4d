import Derived.Test.YtghiofgomcihcaaMoD
set_option linter.unusedSimpArgs false
set_option linter.unusedVariables false
set_option linter.unusedVariables false
set_option linter.unusedSimpArgs false
namespace Go.Proofs.Ytghiofgomcihcaa
open Go Go.RowKit
end Go.Proofs.Ytghiofgomcihcaa
