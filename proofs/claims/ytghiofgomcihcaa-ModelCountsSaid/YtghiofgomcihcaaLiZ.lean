import Derived.Test.YtghiofgomcihcaaLiE
set_option linter.unusedSimpArgs false
set_option linter.unusedVariables false
set_option linter.unusedVariables false
set_option linter.unusedSimpArgs false
namespace Go.Proofs.Ytghiofgomcihcaa
open Go Go.RowKit
theorem wQ (I:List BV) (l:List Nat) (a:BV) (x:Nat):orB I (l++[x]) a=orB I l a ||| I.getD x 0:=by
 unfold orB; rw[List.foldl_append]; rfl
theorem behind {p:Prog} {I:List BV} {i j x:Nat} (h:(nx p i)[j]? =some x) (hx:x<I.length):opI .or .i64 (orB I ((nx p i).take j) 0).toInt (gt (dx I) x 0)=(orB I ((nx p i).take (j+1)) 0).toInt:=by
 rw[fL hx,uK,cZ,cZ,List.take_add_one,h,Option.toList_some,wQ]
end Go.Proofs.Ytghiofgomcihcaa
set_option linter.unusedSimpArgs false
set_option linter.unusedVariables false
set_option linter.unusedVariables false
set_option linter.unusedSimpArgs false
namespace Go.Proofs.Ytghiofgomcihcaa
open Go Go.RowKit
end Go.Proofs.Ytghiofgomcihcaa
