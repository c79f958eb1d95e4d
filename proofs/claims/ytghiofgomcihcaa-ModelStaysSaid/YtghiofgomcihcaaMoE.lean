import Derived.Test.YtghiofgomcihcaaMoD
namespace Go.Proofs.Ytghiofgomcihcaa
open Go Go.RowKit
end Go.Proofs.Ytghiofgomcihcaa
