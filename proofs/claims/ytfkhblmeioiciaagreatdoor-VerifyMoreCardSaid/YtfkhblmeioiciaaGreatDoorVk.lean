import Derived.Test.YtfkhblmeioiciaaGreatDoorVaA
set_option maxRecDepth 100000
set_option maxHeartbeats 8000000
set_option linter.defProp false
set_option linter.unusedVariables false
set_option linter.unusedSimpArgs false
namespace Go.Proofs.YtfkhblmeioiciaaGreatDoor
open Go Go.RowKit
theorem Kn.wf_of {a:Kn} (h:a.ok):a.wf:=⟨cy h.1,cy h.2⟩
structure Sc.wf (a:Sc):Prop where
 r:a.r.wf
 k:a.k.wf
theorem Sc.wf_of {a:Sc} (h:a.ok):a.wf:=by
 obtain⟨h1,h2,h3,h4,h5,h6⟩:=h
 exact⟨⟨cy h1,cy h2,fF h3,fF h4⟩,⟨cy h5,cy h6⟩⟩
end Go.Proofs.YtfkhblmeioiciaaGreatDoor
