/-
  NARROWER THAN 'FOR EVERY INPUT', by the rows' own cells (each row's printed sentence says how): VerifyFirst: laid · VerifyMore: laid · VerifyStep: laid · VerifyNext: laid · VerifySound: laid · VerifyMay: laid.
  DERIVED. THE GIVEN ROWS OF THIS SEAT. 6 by the template 'for every input the law returns true; each argument reads behind the call as it read before'; 0 by the template 'total and deterministic' (their statements: YtfkhblmeioiciaaGreatDoorTotals.lean).
  GIVEN WITH THE SEED: the statements are not yours to turn. If you find one false, say at which input.
  Laid BY PROGRAM, IN A SANDBOX (cutbox-rows.mjs): the forced cells as the released guide's own fill.sh prints them over the translation 960570c787bffa6d… (all of the seat's roots in one cut). By AI agents, Wed Nov 11 2026. No macro, syntax, notation, axiom, sorry.
-/
import Derived.Test.YtfkhblmeioiciaaGreatDoorChecked
import GoSem.Claim
import GoSem.ClaimJoined
import GoSem.ClaimMapViews
import Derived.JoinedTies
import Derived.KernelRfl
namespace Go.Proofs.YtfkhblmeioiciaaGreatDoor
/- THE CELL 'sum', in the pinned program and in every row, IS THE sha256 OF THE DUMP (.gsa) THAT YtfkhblmeioiciaaGreatDoorProg.lean LOADS. Nothing in Lean hashes anything: it is a label: what it is worth is what the hold of that sum in a sandbox is worth. -/
noncomputable def Tryz.pinned : Pinned := { name := "ytfkhblmeioiciaagreatdoor", sum := "960570c787bffa6d9661f80edfa9805af9fb6f59467551be731c3c5db59d6e67", checked := Tryz.checked }
namespace Rows
def none {H : Type} : Left H := { results := [], args := [] }

/- WHAT THE LISTED PACKAGE-LEVEL VARIABLES READ AS WHEN THE CALL BEGINS. Each datum BY PROGRAM (the guide's laid-datum.mjs) off the statement by which the dump's own 'gosem.cut.vars' lays the variable. In a bare row this is a premise. The card (YtfkhblmeioiciaaGreatDoorCards.lean) ties it to the program's text. -/
def laid_math_bits_deBruijn32tab {H : Type} : DataW H := .agg [.lit (.int .u8 0), .lit (.int .u8 1), .lit (.int .u8 28), .lit (.int .u8 2), .lit (.int .u8 29), .lit (.int .u8 14), .lit (.int .u8 24), .lit (.int .u8 3), .lit (.int .u8 30), .lit (.int .u8 22), .lit (.int .u8 20), .lit (.int .u8 15), .lit (.int .u8 25), .lit (.int .u8 17), .lit (.int .u8 4), .lit (.int .u8 8), .lit (.int .u8 31), .lit (.int .u8 27), .lit (.int .u8 13), .lit (.int .u8 23), .lit (.int .u8 21), .lit (.int .u8 19), .lit (.int .u8 16), .lit (.int .u8 7), .lit (.int .u8 26), .lit (.int .u8 12), .lit (.int .u8 18), .lit (.int .u8 6), .lit (.int .u8 11), .lit (.int .u8 5), .lit (.int .u8 10), .lit (.int .u8 9)]
def laid_math_bits_deBruijn64tab {H : Type} : DataW H := .agg [.lit (.int .u8 0), .lit (.int .u8 1), .lit (.int .u8 56), .lit (.int .u8 2), .lit (.int .u8 57), .lit (.int .u8 49), .lit (.int .u8 28), .lit (.int .u8 3), .lit (.int .u8 61), .lit (.int .u8 58), .lit (.int .u8 42), .lit (.int .u8 50), .lit (.int .u8 38), .lit (.int .u8 29), .lit (.int .u8 17), .lit (.int .u8 4), .lit (.int .u8 62), .lit (.int .u8 47), .lit (.int .u8 59), .lit (.int .u8 36), .lit (.int .u8 45), .lit (.int .u8 43), .lit (.int .u8 51), .lit (.int .u8 22), .lit (.int .u8 53), .lit (.int .u8 39), .lit (.int .u8 33), .lit (.int .u8 30), .lit (.int .u8 24), .lit (.int .u8 18), .lit (.int .u8 12), .lit (.int .u8 5), .lit (.int .u8 63), .lit (.int .u8 55), .lit (.int .u8 48), .lit (.int .u8 27), .lit (.int .u8 60), .lit (.int .u8 41), .lit (.int .u8 37), .lit (.int .u8 16), .lit (.int .u8 46), .lit (.int .u8 35), .lit (.int .u8 44), .lit (.int .u8 21), .lit (.int .u8 52), .lit (.int .u8 32), .lit (.int .u8 23), .lit (.int .u8 11), .lit (.int .u8 54), .lit (.int .u8 26), .lit (.int .u8 40), .lit (.int .u8 15), .lit (.int .u8 34), .lit (.int .u8 20), .lit (.int .u8 31), .lit (.int .u8 10), .lit (.int .u8 25), .lit (.int .u8 14), .lit (.int .u8 19), .lit (.int .u8 9), .lit (.int .u8 13), .lit (.int .u8 8), .lit (.int .u8 7), .lit (.int .u8 6)]

/-- 'lathelaw11.VerifyFirst': WHATEVER THE INPUT: true; the input reads as it did. -/
def verifyFirstSpec : ChangeSpec := { name := "verifyFirst", fn := fun _ => fun
  | [d] => { results := [.lit (.bool true)], args := [d] }
  | _ => none }
def verifyFirstRow : OpenClaim := { program := "ytfkhblmeioiciaagreatdoor", sum := "960570c787bffa6d9661f80edfa9805af9fb6f59467551be731c3c5db59d6e67", func := "lathe/lathelaw11.VerifyFirst", spec := "verifyFirst", inPlace := ["math/bits.Add64"], unfollowed := true, recurses := true, named := ["math/bits.deBruijn64tab", "math/bits.deBruijn32tab"], apart := false, laid := [("math/bits.deBruijn32tab", laid_math_bits_deBruijn32tab), ("math/bits.deBruijn64tab", laid_math_bits_deBruijn64tab)] }
def VerifyFirstSaid : Prop := verifyFirstRow.holds Tryz.pinned (OpenSpec.ofChange verifyFirstSpec)

/-- ITS FALSE NEIGHBOUR: 'it returns false'. Refute it at one input. -/
def verifyFirstWrong : ChangeSpec := { name := "verifyFirst", fn := fun _ => fun
  | [d] => { results := [.lit (.bool false)], args := [d] }
  | _ => none }
def VerifyFirstWrongFalsely : Prop := verifyFirstRow.holds Tryz.pinned (OpenSpec.ofChange verifyFirstWrong)

/-- 'lathelaw11.VerifyMore': WHATEVER THE INPUT: true; the input reads as it did. -/
def verifyMoreSpec : ChangeSpec := { name := "verifyMore", fn := fun _ => fun
  | [d1, d2] => { results := [.lit (.bool true)], args := [d1, d2] }
  | _ => none }
def verifyMoreRow : OpenClaim := { program := "ytfkhblmeioiciaagreatdoor", sum := "960570c787bffa6d9661f80edfa9805af9fb6f59467551be731c3c5db59d6e67", func := "lathe/lathelaw11.VerifyMore", spec := "verifyMore", inPlace := ["math/bits.Add64"], unfollowed := true, recurses := true, named := ["math/bits.deBruijn64tab", "math/bits.deBruijn32tab"], apart := false, laid := [("math/bits.deBruijn32tab", laid_math_bits_deBruijn32tab), ("math/bits.deBruijn64tab", laid_math_bits_deBruijn64tab)] }
def VerifyMoreSaid : Prop := verifyMoreRow.holds Tryz.pinned (OpenSpec.ofChange verifyMoreSpec)

/-- ITS FALSE NEIGHBOUR: 'it returns false'. Refute it at one input. -/
def verifyMoreWrong : ChangeSpec := { name := "verifyMore", fn := fun _ => fun
  | [d1, d2] => { results := [.lit (.bool false)], args := [d1, d2] }
  | _ => none }
def VerifyMoreWrongFalsely : Prop := verifyMoreRow.holds Tryz.pinned (OpenSpec.ofChange verifyMoreWrong)

/-- 'lathelaw11.VerifyStep': WHATEVER THE INPUT: true; the input reads as it did. -/
def verifyStepSpec : ChangeSpec := { name := "verifyStep", fn := fun _ => fun
  | [d1, d2, d3, d4, d5, d6] => { results := [.lit (.bool true)], args := [d1, d2, d3, d4, d5, d6] }
  | _ => none }
def verifyStepRow : OpenClaim := { program := "ytfkhblmeioiciaagreatdoor", sum := "960570c787bffa6d9661f80edfa9805af9fb6f59467551be731c3c5db59d6e67", func := "lathe/lathelaw11.VerifyStep", spec := "verifyStep", inPlace := ["math/bits.Add64"], unfollowed := true, recurses := true, named := ["math/bits.deBruijn64tab", "math/bits.deBruijn32tab"], apart := false, laid := [("math/bits.deBruijn32tab", laid_math_bits_deBruijn32tab), ("math/bits.deBruijn64tab", laid_math_bits_deBruijn64tab)] }
def VerifyStepSaid : Prop := verifyStepRow.holds Tryz.pinned (OpenSpec.ofChange verifyStepSpec)

/-- ITS FALSE NEIGHBOUR: 'it returns false'. Refute it at one input. -/
def verifyStepWrong : ChangeSpec := { name := "verifyStep", fn := fun _ => fun
  | [d1, d2, d3, d4, d5, d6] => { results := [.lit (.bool false)], args := [d1, d2, d3, d4, d5, d6] }
  | _ => none }
def VerifyStepWrongFalsely : Prop := verifyStepRow.holds Tryz.pinned (OpenSpec.ofChange verifyStepWrong)

/-- 'lathelaw11.VerifyNext': WHATEVER THE INPUT: true; the input reads as it did. -/
def verifyNextSpec : ChangeSpec := { name := "verifyNext", fn := fun _ => fun
  | [d1, d2, d3, d4, d5] => { results := [.lit (.bool true)], args := [d1, d2, d3, d4, d5] }
  | _ => none }
def verifyNextRow : OpenClaim := { program := "ytfkhblmeioiciaagreatdoor", sum := "960570c787bffa6d9661f80edfa9805af9fb6f59467551be731c3c5db59d6e67", func := "lathe/lathelaw11.VerifyNext", spec := "verifyNext", inPlace := ["math/bits.Add64"], unfollowed := true, recurses := true, named := ["math/bits.deBruijn64tab", "math/bits.deBruijn32tab"], apart := false, laid := [("math/bits.deBruijn32tab", laid_math_bits_deBruijn32tab), ("math/bits.deBruijn64tab", laid_math_bits_deBruijn64tab)] }
def VerifyNextSaid : Prop := verifyNextRow.holds Tryz.pinned (OpenSpec.ofChange verifyNextSpec)

/-- ITS FALSE NEIGHBOUR: 'it returns false'. Refute it at one input. -/
def verifyNextWrong : ChangeSpec := { name := "verifyNext", fn := fun _ => fun
  | [d1, d2, d3, d4, d5] => { results := [.lit (.bool false)], args := [d1, d2, d3, d4, d5] }
  | _ => none }
def VerifyNextWrongFalsely : Prop := verifyNextRow.holds Tryz.pinned (OpenSpec.ofChange verifyNextWrong)

/-- 'lathelaw11.VerifySound': WHATEVER THE INPUT: true; the input reads as it did. -/
def verifySoundSpec : ChangeSpec := { name := "verifySound", fn := fun _ => fun
  | [d1, d2, d3, d4] => { results := [.lit (.bool true)], args := [d1, d2, d3, d4] }
  | _ => none }
def verifySoundRow : OpenClaim := { program := "ytfkhblmeioiciaagreatdoor", sum := "960570c787bffa6d9661f80edfa9805af9fb6f59467551be731c3c5db59d6e67", func := "lathe/lathelaw11.VerifySound", spec := "verifySound", inPlace := ["math/bits.Add64"], unfollowed := true, recurses := true, named := ["math/bits.deBruijn64tab", "math/bits.deBruijn32tab"], apart := false, laid := [("math/bits.deBruijn32tab", laid_math_bits_deBruijn32tab), ("math/bits.deBruijn64tab", laid_math_bits_deBruijn64tab)] }
def VerifySoundSaid : Prop := verifySoundRow.holds Tryz.pinned (OpenSpec.ofChange verifySoundSpec)

/-- ITS FALSE NEIGHBOUR: 'it returns false'. Refute it at one input. -/
def verifySoundWrong : ChangeSpec := { name := "verifySound", fn := fun _ => fun
  | [d1, d2, d3, d4] => { results := [.lit (.bool false)], args := [d1, d2, d3, d4] }
  | _ => none }
def VerifySoundWrongFalsely : Prop := verifySoundRow.holds Tryz.pinned (OpenSpec.ofChange verifySoundWrong)

/-- 'lathelaw11.VerifyMay': WHATEVER THE INPUT: true; the input reads as it did. -/
def verifyMaySpec : ChangeSpec := { name := "verifyMay", fn := fun _ => fun
  | [d] => { results := [.lit (.bool true)], args := [d] }
  | _ => none }
def verifyMayRow : OpenClaim := { program := "ytfkhblmeioiciaagreatdoor", sum := "960570c787bffa6d9661f80edfa9805af9fb6f59467551be731c3c5db59d6e67", func := "lathe/lathelaw11.VerifyMay", spec := "verifyMay", inPlace := ["math/bits.Add64"], unfollowed := true, recurses := true, named := ["math/bits.deBruijn64tab", "math/bits.deBruijn32tab"], apart := false, laid := [("math/bits.deBruijn32tab", laid_math_bits_deBruijn32tab), ("math/bits.deBruijn64tab", laid_math_bits_deBruijn64tab)] }
def VerifyMaySaid : Prop := verifyMayRow.holds Tryz.pinned (OpenSpec.ofChange verifyMaySpec)

/-- ITS FALSE NEIGHBOUR: 'it returns false'. Refute it at one input. -/
def verifyMayWrong : ChangeSpec := { name := "verifyMay", fn := fun _ => fun
  | [d] => { results := [.lit (.bool false)], args := [d] }
  | _ => none }
def VerifyMayWrongFalsely : Prop := verifyMayRow.holds Tryz.pinned (OpenSpec.ofChange verifyMayWrong)

/- THE SECOND FORM. 'bulk': how many values and letters a reading holds, each counted each time it is reached (what is shared counts as often as it is met; a slice's spare places count too). A statement '..UptoSaid' is the law's where the arguments, and the package variables that the reading takes, are together of bulk at most 1048576: NARROWER than '..Said'. Prove '..Said' where nothing that the law and all that it calls make is longer than what came in: it says more and counts as full. Else prove '..UptoSaid'. A law counts once. -/
mutual
def uptoBulk {H : Type} : DataW H → Nat
  | .lit (.string bytes) => bytes.length + 1
  | .lit _ => 1
  | .nil => 1
  | .ptr d => uptoBulk d + 1
  | .slice elems spare => uptoBulkAll elems + uptoBulkAll spare + 1
  | .agg parts => uptoBulkAll parts + 1
  | .iface _ d => uptoBulk d + 1
  | .map entries => uptoBulkEntries entries + 1
  | .held _ => 1
def uptoBulkAll {H : Type} : List (DataW H) → Nat
  | [] => 0
  | d :: r => uptoBulk d + uptoBulkAll r
def uptoBulkEntries {H : Type} : List (Lit × DataW H) → Nat
  | [] => 0
  | x :: r => uptoBulkEntry x + uptoBulkEntries r
def uptoBulkEntry {H : Type} : Lit × DataW H → Nat
  | (.string bytes, d) => bytes.length + uptoBulk d + 1
  | (_, d) => uptoBulk d + 1
 end
def uptoSmall : (H : Type) → List (DataW H) → Bool := fun _ ds => decide (uptoBulkAll ds ≤ 1048576)
def OpenSpec.upto (s : _root_.Go.ChangeSpec) : _root_.Go.OpenSpec := { _root_.Go.OpenSpec.ofChange s with cond := some uptoSmall }

/-- 'lathelaw11.VerifyFirst', WHERE WHAT IT READS IS OF BULK AT MOST 1048576: true; the input reads as it did. -/
def verifyFirstUptoRow : OpenClaim := { program := "ytfkhblmeioiciaagreatdoor", sum := "960570c787bffa6d9661f80edfa9805af9fb6f59467551be731c3c5db59d6e67", func := "lathe/lathelaw11.VerifyFirst", spec := "verifyFirst", inPlace := ["math/bits.Add64"], unfollowed := true, recurses := true, named := ["math/bits.deBruijn64tab", "math/bits.deBruijn32tab"], apart := false, laid := [("math/bits.deBruijn32tab", laid_math_bits_deBruijn32tab), ("math/bits.deBruijn64tab", laid_math_bits_deBruijn64tab)], narrowed := true }
def VerifyFirstUptoSaid : Prop := verifyFirstUptoRow.holds Tryz.pinned (OpenSpec.upto verifyFirstSpec)

/-- 'lathelaw11.VerifyMore', WHERE WHAT IT READS IS OF BULK AT MOST 1048576: true; the input reads as it did. -/
def verifyMoreUptoRow : OpenClaim := { program := "ytfkhblmeioiciaagreatdoor", sum := "960570c787bffa6d9661f80edfa9805af9fb6f59467551be731c3c5db59d6e67", func := "lathe/lathelaw11.VerifyMore", spec := "verifyMore", inPlace := ["math/bits.Add64"], unfollowed := true, recurses := true, named := ["math/bits.deBruijn64tab", "math/bits.deBruijn32tab"], apart := false, laid := [("math/bits.deBruijn32tab", laid_math_bits_deBruijn32tab), ("math/bits.deBruijn64tab", laid_math_bits_deBruijn64tab)], narrowed := true }
def VerifyMoreUptoSaid : Prop := verifyMoreUptoRow.holds Tryz.pinned (OpenSpec.upto verifyMoreSpec)

/-- 'lathelaw11.VerifyStep', WHERE WHAT IT READS IS OF BULK AT MOST 1048576: true; the input reads as it did. -/
def verifyStepUptoRow : OpenClaim := { program := "ytfkhblmeioiciaagreatdoor", sum := "960570c787bffa6d9661f80edfa9805af9fb6f59467551be731c3c5db59d6e67", func := "lathe/lathelaw11.VerifyStep", spec := "verifyStep", inPlace := ["math/bits.Add64"], unfollowed := true, recurses := true, named := ["math/bits.deBruijn64tab", "math/bits.deBruijn32tab"], apart := false, laid := [("math/bits.deBruijn32tab", laid_math_bits_deBruijn32tab), ("math/bits.deBruijn64tab", laid_math_bits_deBruijn64tab)], narrowed := true }
def VerifyStepUptoSaid : Prop := verifyStepUptoRow.holds Tryz.pinned (OpenSpec.upto verifyStepSpec)

/-- 'lathelaw11.VerifyNext', WHERE WHAT IT READS IS OF BULK AT MOST 1048576: true; the input reads as it did. -/
def verifyNextUptoRow : OpenClaim := { program := "ytfkhblmeioiciaagreatdoor", sum := "960570c787bffa6d9661f80edfa9805af9fb6f59467551be731c3c5db59d6e67", func := "lathe/lathelaw11.VerifyNext", spec := "verifyNext", inPlace := ["math/bits.Add64"], unfollowed := true, recurses := true, named := ["math/bits.deBruijn64tab", "math/bits.deBruijn32tab"], apart := false, laid := [("math/bits.deBruijn32tab", laid_math_bits_deBruijn32tab), ("math/bits.deBruijn64tab", laid_math_bits_deBruijn64tab)], narrowed := true }
def VerifyNextUptoSaid : Prop := verifyNextUptoRow.holds Tryz.pinned (OpenSpec.upto verifyNextSpec)

/-- 'lathelaw11.VerifySound', WHERE WHAT IT READS IS OF BULK AT MOST 1048576: true; the input reads as it did. -/
def verifySoundUptoRow : OpenClaim := { program := "ytfkhblmeioiciaagreatdoor", sum := "960570c787bffa6d9661f80edfa9805af9fb6f59467551be731c3c5db59d6e67", func := "lathe/lathelaw11.VerifySound", spec := "verifySound", inPlace := ["math/bits.Add64"], unfollowed := true, recurses := true, named := ["math/bits.deBruijn64tab", "math/bits.deBruijn32tab"], apart := false, laid := [("math/bits.deBruijn32tab", laid_math_bits_deBruijn32tab), ("math/bits.deBruijn64tab", laid_math_bits_deBruijn64tab)], narrowed := true }
def VerifySoundUptoSaid : Prop := verifySoundUptoRow.holds Tryz.pinned (OpenSpec.upto verifySoundSpec)

/-- 'lathelaw11.VerifyMay', WHERE WHAT IT READS IS OF BULK AT MOST 1048576: true; the input reads as it did. -/
def verifyMayUptoRow : OpenClaim := { program := "ytfkhblmeioiciaagreatdoor", sum := "960570c787bffa6d9661f80edfa9805af9fb6f59467551be731c3c5db59d6e67", func := "lathe/lathelaw11.VerifyMay", spec := "verifyMay", inPlace := ["math/bits.Add64"], unfollowed := true, recurses := true, named := ["math/bits.deBruijn64tab", "math/bits.deBruijn32tab"], apart := false, laid := [("math/bits.deBruijn32tab", laid_math_bits_deBruijn32tab), ("math/bits.deBruijn64tab", laid_math_bits_deBruijn64tab)], narrowed := true }
def VerifyMayUptoSaid : Prop := verifyMayUptoRow.holds Tryz.pinned (OpenSpec.upto verifyMaySpec)

end Rows
end Go.Proofs.YtfkhblmeioiciaaGreatDoor
