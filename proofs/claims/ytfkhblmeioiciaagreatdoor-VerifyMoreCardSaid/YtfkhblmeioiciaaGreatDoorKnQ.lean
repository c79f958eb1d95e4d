import Derived.Test.YtfkhblmeioiciaaGreatDoorKxZ
set_option maxRecDepth 100000
set_option maxHeartbeats 8000000
set_option linter.defProp false
set_option linter.unusedVariables false
set_option linter.unusedSimpArgs false
namespace Go.Proofs.YtfkhblmeioiciaaGreatDoor
open Go.RowKit
end Go.Proofs.YtfkhblmeioiciaaGreatDoor
