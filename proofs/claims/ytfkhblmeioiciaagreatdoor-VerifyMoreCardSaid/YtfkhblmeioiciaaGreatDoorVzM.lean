import Derived.Test.YtfkhblmeioiciaaGreatDoorVzA
set_option maxRecDepth 100000
set_option maxHeartbeats 8000000
set_option linter.defProp false
set_option linter.unusedVariables false
set_option linter.unusedSimpArgs false
namespace Go.Proofs.YtfkhblmeioiciaaGreatDoor
open Go Go.RowKit
theorem aoE:(vrun ⟨0,[[0,11,64,0,0,0,0,0,0],[6,0,0,0,0,0,0,0,0]]⟩).2.2.2=0:=by kernel_rfl
theorem ajI:(vrun ⟨0,[[6,0,0,0,0,0,0,0,0]]⟩).2.2.2=110:=by kernel_rfl
theorem aay:(vrun ⟨4,[[1,0,0,8,0,0,1,0,0],[6,0,0,0,0,0,0,0,0]]⟩).2.2=(0,111):=by kernel_rfl
end Go.Proofs.YtfkhblmeioiciaaGreatDoor
