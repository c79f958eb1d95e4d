/- In which region an address is. No walk is in here. -/
import Derived.Test.YtmabagpagmcnlaaMmD
set_option linter.unusedSimpArgs false
set_option linter.unusedVariables false
set_option linter.unusedVariables false
set_option linter.unusedSimpArgs false
namespace Go.Proofs.Ytmabagpagmcnlaa
open Go Go.RowKit

def rgn (a cx tx : Int) (ws : Bool) : Int :=
  if 1048576 ≤ a ∧ a < 1048576 + min (max tx 0) 16384 then 1
  else if 2097152 ≤ a ∧ a < 2097152 + min (max cx 0) 256 then 2
  else if 3145728 ≤ a ∧ a < 3145792 then 3
  else if 4194304 ≤ a ∧ a < 4194568 ∧ ws = true then 4 else 0
end Go.Proofs.Ytmabagpagmcnlaa
