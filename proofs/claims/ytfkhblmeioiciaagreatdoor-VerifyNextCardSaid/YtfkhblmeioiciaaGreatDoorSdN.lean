import Derived.Test.YtfkhblmeioiciaaGreatDoorSdW
import Derived.Test.YtfkhblmeioiciaaGreatDoorKnZ
import Derived.Test.YtfkhblmeioiciaaGreatDoorBdZ
set_option linter.unusedSimpArgs false
set_option linter.unusedVariables false
set_option linter.unusedVariables false
set_option linter.unusedSimpArgs false
namespace Go.Proofs.YtfkhblmeioiciaaGreatDoor
open Go Go.RowKit
theorem adJ:tok mV=true:=by decide
theorem na {v:Int} (h0:0≤v) (h1:v≤18446744073709551615):ay mV v=true:=by
 rw[ou adJ rfl]
 show vhas vall v=true
 exact gp (a:=vall) (fH v h0 h1) (iT v)
end Go.Proofs.YtfkhblmeioiciaaGreatDoor
