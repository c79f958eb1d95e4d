import Derived.Test.YtfkhblmeioiciaaGreatDoorVaA
set_option linter.unusedVariables false
set_option linter.unusedSimpArgs false
namespace Go.Proofs.YtfkhblmeioiciaaGreatDoor
open Go Go.RowKit
theorem Kn.wf_of {a:Kn} (h:a.ok):a.wf:=⟨bw h.1,bw h.2⟩
structure Sc.wf (a:Sc):Prop where
 r:a.r.wf
 k:a.k.wf
theorem Sc.wf_of {a:Sc} (h:a.ok):a.wf:=by
 obtain⟨h1,h2,h3,h4,h5,h6⟩:=h
 exact⟨⟨bw h1,bw h2,ey h3,ey h4⟩,⟨bw h5,bw h6⟩⟩
end Go.Proofs.YtfkhblmeioiciaaGreatDoor
