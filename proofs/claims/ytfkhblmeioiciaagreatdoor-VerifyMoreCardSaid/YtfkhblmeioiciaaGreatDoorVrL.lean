import Derived.Test.YtfkhblmeioiciaaGreatDoorKnZ
import Derived.Test.YtfkhblmeioiciaaGreatDoorXbY
set_option maxRecDepth 100000
set_option maxHeartbeats 8000000
set_option linter.defProp false
set_option linter.unusedVariables false
set_option linter.unusedSimpArgs false
namespace Go.Proofs.YtfkhblmeioiciaaGreatDoor
open Go Go.RowKit
theorem ari {r s:Sc} (h:r=s):[Dt.z r.ul,.z r.uh,.z r.sl,.z r.sh,.z r.v,.z r.m]=[Dt.z s.ul,.z s.uh,.z s.sl,.z s.sh,.z s.v,.z s.m]:=by rw[h]
def vbyt (n:Int):Sc:=vbel (2 ^ (8*(min (max n 1) 8).toNat)-1)
theorem yj (n:Int):min (max n 1) 8=1\/min (max n 1) 8=2\/min (max n 1) 8=3\/min (max n 1) 8=4\/min (max n 1) 8=5\/min (max n 1) 8=6\/min (max n 1) 8=7\/min (max n 1) 8=8:=by omega
end Go.Proofs.YtfkhblmeioiciaaGreatDoor
