/-
  No cell of these rows narrows 'for every input' (looked for: loops, veiled, ifaces, maps, wideKeys, modest, calm, conditions, laid).
  DERIVED. THE GIVEN ROWS OF THIS SEAT. 9 by the template 'for every input the law returns true; each argument reads behind the call as it read before'; 0 by the template 'total and deterministic' (their statements: YtkoiaadhbgccaaaTotals.lean).
  GIVEN WITH THE SEED: the statements are not yours to turn. If you find one false, say at which input.
  Laid BY PROGRAM, IN A SANDBOX (cutbox-rows.mjs): the forced cells as the released guide's own fill.sh prints them over the translation 1e954cdea7f5a966… (all of the seat's roots in one cut). By AI agents, Wed Nov 11 2026. No macro, syntax, notation, axiom, sorry.
-/
import Derived.Test.YtkoiaadhbgccaaaChecked
import GoSem.Claim
import GoSem.ClaimJoined
import GoSem.ClaimMapViews
import Derived.JoinedTies
import Derived.KernelRfl
namespace Go.Proofs.Ytkoiaadhbgccaaa
/- THE CELL 'sum', in the pinned program and in every row, IS THE sha256 OF THE DUMP (.gsa) THAT YtkoiaadhbgccaaaProg.lean LOADS. Nothing in Lean hashes anything: it is a label: what it is worth is what the hold of that sum in a sandbox is worth. -/
noncomputable def Try.pinned : Pinned := { name := "ytkoiaadhbgccaaa", sum := "1e954cdea7f5a9664fb19f9f96fb105a1518881444fb4388c1daac108d525418", checked := Try.checked }
namespace Rows
def none {H : Type} : Left H := { results := [], args := [] }

/-- 'lathelaw02.MemTails': WHATEVER THE INPUT: true; the input reads as it did. -/
def memTailsSpec : ChangeSpec := { name := "memTails", fn := fun _ => fun
  | [d1, d2, d3] => { results := [.lit (.bool true)], args := [d1, d2, d3] }
  | _ => none }
def memTailsRow : OpenClaim := { program := "ytkoiaadhbgccaaa", sum := "1e954cdea7f5a9664fb19f9f96fb105a1518881444fb4388c1daac108d525418", func := "lathe/lathelaw02.MemTails", spec := "memTails", unfollowed := true, recurses := true, apart := false }
def MemTailsSaid : Prop := memTailsRow.holds Try.pinned (OpenSpec.ofChange memTailsSpec)

/-- ITS FALSE NEIGHBOUR: 'it returns false'. Refute it at one input. -/
def memTailsWrong : ChangeSpec := { name := "memTails", fn := fun _ => fun
  | [d1, d2, d3] => { results := [.lit (.bool false)], args := [d1, d2, d3] }
  | _ => none }
def MemTailsWrongFalsely : Prop := memTailsRow.holds Try.pinned (OpenSpec.ofChange memTailsWrong)

/-- 'lathelaw02.MemBack': WHATEVER THE INPUT: true; the input reads as it did. -/
def memBackSpec : ChangeSpec := { name := "memBack", fn := fun _ => fun
  | [d1, d2, d3] => { results := [.lit (.bool true)], args := [d1, d2, d3] }
  | _ => none }
def memBackRow : OpenClaim := { program := "ytkoiaadhbgccaaa", sum := "1e954cdea7f5a9664fb19f9f96fb105a1518881444fb4388c1daac108d525418", func := "lathe/lathelaw02.MemBack", spec := "memBack", unfollowed := true, recurses := true, apart := false }
def MemBackSaid : Prop := memBackRow.holds Try.pinned (OpenSpec.ofChange memBackSpec)

/-- ITS FALSE NEIGHBOUR: 'it returns false'. Refute it at one input. -/
def memBackWrong : ChangeSpec := { name := "memBack", fn := fun _ => fun
  | [d1, d2, d3] => { results := [.lit (.bool false)], args := [d1, d2, d3] }
  | _ => none }
def MemBackWrongFalsely : Prop := memBackRow.holds Try.pinned (OpenSpec.ofChange memBackWrong)

/-- 'lathelaw02.MemSays': WHATEVER THE INPUT: true; the input reads as it did. -/
def memSaysSpec : ChangeSpec := { name := "memSays", fn := fun _ => fun
  | [d1, d2, d3, d4, d5] => { results := [.lit (.bool true)], args := [d1, d2, d3, d4, d5] }
  | _ => none }
def memSaysRow : OpenClaim := { program := "ytkoiaadhbgccaaa", sum := "1e954cdea7f5a9664fb19f9f96fb105a1518881444fb4388c1daac108d525418", func := "lathe/lathelaw02.MemSays", spec := "memSays", unfollowed := true, recurses := true, apart := false }
def MemSaysSaid : Prop := memSaysRow.holds Try.pinned (OpenSpec.ofChange memSaysSpec)

/-- ITS FALSE NEIGHBOUR: 'it returns false'. Refute it at one input. -/
def memSaysWrong : ChangeSpec := { name := "memSays", fn := fun _ => fun
  | [d1, d2, d3, d4, d5] => { results := [.lit (.bool false)], args := [d1, d2, d3, d4, d5] }
  | _ => none }
def MemSaysWrongFalsely : Prop := memSaysRow.holds Try.pinned (OpenSpec.ofChange memSaysWrong)

/-- 'lathelaw08.KnownDo': WHATEVER THE INPUT: true; the input reads as it did. -/
def knownDoSpec : ChangeSpec := { name := "knownDo", fn := fun _ => fun
  | [d1, d2, d3, d4] => { results := [.lit (.bool true)], args := [d1, d2, d3, d4] }
  | _ => none }
def knownDoRow : OpenClaim := { program := "ytkoiaadhbgccaaa", sum := "1e954cdea7f5a9664fb19f9f96fb105a1518881444fb4388c1daac108d525418", func := "lathe/lathelaw08.KnownDo", spec := "knownDo", unfollowed := true, recurses := true, apart := false }
def KnownDoSaid : Prop := knownDoRow.holds Try.pinned (OpenSpec.ofChange knownDoSpec)

/-- ITS FALSE NEIGHBOUR: 'it returns false'. Refute it at one input. -/
def knownDoWrong : ChangeSpec := { name := "knownDo", fn := fun _ => fun
  | [d1, d2, d3, d4] => { results := [.lit (.bool false)], args := [d1, d2, d3, d4] }
  | _ => none }
def KnownDoWrongFalsely : Prop := knownDoRow.holds Try.pinned (OpenSpec.ofChange knownDoWrong)

/-- 'lathelaw08.KnownLow': WHATEVER THE INPUT: true; the input reads as it did. -/
def knownLowSpec : ChangeSpec := { name := "knownLow", fn := fun _ => fun
  | [d1, d2, d3] => { results := [.lit (.bool true)], args := [d1, d2, d3] }
  | _ => none }
def knownLowRow : OpenClaim := { program := "ytkoiaadhbgccaaa", sum := "1e954cdea7f5a9664fb19f9f96fb105a1518881444fb4388c1daac108d525418", func := "lathe/lathelaw08.KnownLow", spec := "knownLow", unfollowed := true, recurses := true, apart := false }
def KnownLowSaid : Prop := knownLowRow.holds Try.pinned (OpenSpec.ofChange knownLowSpec)

/-- ITS FALSE NEIGHBOUR: 'it returns false'. Refute it at one input. -/
def knownLowWrong : ChangeSpec := { name := "knownLow", fn := fun _ => fun
  | [d1, d2, d3] => { results := [.lit (.bool false)], args := [d1, d2, d3] }
  | _ => none }
def KnownLowWrongFalsely : Prop := knownLowRow.holds Try.pinned (OpenSpec.ofChange knownLowWrong)

/-- 'lathelaw08.KnownWider': WHATEVER THE INPUT: true; the input reads as it did. -/
def knownWiderSpec : ChangeSpec := { name := "knownWider", fn := fun _ => fun
  | [d1, d2, d3, d4, d5, d6] => { results := [.lit (.bool true)], args := [d1, d2, d3, d4, d5, d6] }
  | _ => none }
def knownWiderRow : OpenClaim := { program := "ytkoiaadhbgccaaa", sum := "1e954cdea7f5a9664fb19f9f96fb105a1518881444fb4388c1daac108d525418", func := "lathe/lathelaw08.KnownWider", spec := "knownWider", unfollowed := true, recurses := true, apart := false }
def KnownWiderSaid : Prop := knownWiderRow.holds Try.pinned (OpenSpec.ofChange knownWiderSpec)

/-- ITS FALSE NEIGHBOUR: 'it returns false'. Refute it at one input. -/
def knownWiderWrong : ChangeSpec := { name := "knownWider", fn := fun _ => fun
  | [d1, d2, d3, d4, d5, d6] => { results := [.lit (.bool false)], args := [d1, d2, d3, d4, d5, d6] }
  | _ => none }
def KnownWiderWrongFalsely : Prop := knownWiderRow.holds Try.pinned (OpenSpec.ofChange knownWiderWrong)

/-- 'lathelaw08.KnownSound': WHATEVER THE INPUT: true; the input reads as it did. -/
def knownSoundSpec : ChangeSpec := { name := "knownSound", fn := fun _ => fun
  | [d1, d2, d3, d4, d5, d6, d7] => { results := [.lit (.bool true)], args := [d1, d2, d3, d4, d5, d6, d7] }
  | _ => none }
def knownSoundRow : OpenClaim := { program := "ytkoiaadhbgccaaa", sum := "1e954cdea7f5a9664fb19f9f96fb105a1518881444fb4388c1daac108d525418", func := "lathe/lathelaw08.KnownSound", spec := "knownSound", unfollowed := true, recurses := true, apart := false }
def KnownSoundSaid : Prop := knownSoundRow.holds Try.pinned (OpenSpec.ofChange knownSoundSpec)

/-- ITS FALSE NEIGHBOUR: 'it returns false'. Refute it at one input. -/
def knownSoundWrong : ChangeSpec := { name := "knownSound", fn := fun _ => fun
  | [d1, d2, d3, d4, d5, d6, d7] => { results := [.lit (.bool false)], args := [d1, d2, d3, d4, d5, d6, d7] }
  | _ => none }
def KnownSoundWrongFalsely : Prop := knownSoundRow.holds Try.pinned (OpenSpec.ofChange knownSoundWrong)

/-- 'lathelaw08.KnownHalves': WHATEVER THE INPUT: true; the input reads as it did. -/
def knownHalvesSpec : ChangeSpec := { name := "knownHalves", fn := fun _ => fun
  | [d1, d2] => { results := [.lit (.bool true)], args := [d1, d2] }
  | _ => none }
def knownHalvesRow : OpenClaim := { program := "ytkoiaadhbgccaaa", sum := "1e954cdea7f5a9664fb19f9f96fb105a1518881444fb4388c1daac108d525418", func := "lathe/lathelaw08.KnownHalves", spec := "knownHalves", unfollowed := true, recurses := true, apart := false }
def KnownHalvesSaid : Prop := knownHalvesRow.holds Try.pinned (OpenSpec.ofChange knownHalvesSpec)

/-- ITS FALSE NEIGHBOUR: 'it returns false'. Refute it at one input. -/
def knownHalvesWrong : ChangeSpec := { name := "knownHalves", fn := fun _ => fun
  | [d1, d2] => { results := [.lit (.bool false)], args := [d1, d2] }
  | _ => none }
def KnownHalvesWrongFalsely : Prop := knownHalvesRow.holds Try.pinned (OpenSpec.ofChange knownHalvesWrong)

/-- 'lathelaw08.KnownTells': WHATEVER THE INPUT: true; the input reads as it did. -/
def knownTellsSpec : ChangeSpec := { name := "knownTells", fn := fun _ => fun
  | [d1, d2, d3, d4, d5, d6] => { results := [.lit (.bool true)], args := [d1, d2, d3, d4, d5, d6] }
  | _ => none }
def knownTellsRow : OpenClaim := { program := "ytkoiaadhbgccaaa", sum := "1e954cdea7f5a9664fb19f9f96fb105a1518881444fb4388c1daac108d525418", func := "lathe/lathelaw08.KnownTells", spec := "knownTells", unfollowed := true, recurses := true, apart := false }
def KnownTellsSaid : Prop := knownTellsRow.holds Try.pinned (OpenSpec.ofChange knownTellsSpec)

/-- ITS FALSE NEIGHBOUR: 'it returns false'. Refute it at one input. -/
def knownTellsWrong : ChangeSpec := { name := "knownTells", fn := fun _ => fun
  | [d1, d2, d3, d4, d5, d6] => { results := [.lit (.bool false)], args := [d1, d2, d3, d4, d5, d6] }
  | _ => none }
def KnownTellsWrongFalsely : Prop := knownTellsRow.holds Try.pinned (OpenSpec.ofChange knownTellsWrong)

/- THE SECOND FORM. 'bulk': how many values and letters a reading holds, each counted each time it is reached (what is shared counts as often as it is met; a slice's spare places count too). A statement '..UptoSaid' is the law's where the arguments, and the package variables that the reading takes, are together of bulk at most 1048576: NARROWER than '..Said'. Prove '..Said' where nothing that the law and all that it calls make is longer than what came in: it says more and counts as full. Else prove '..UptoSaid'. A law counts once. -/
mutual
def uptoBulk {H : Type} : DataW H → Nat
  | .lit (.string bytes) => bytes.length + 1
  | .lit _ => 1
  | .nil => 1
  | .ptr d => uptoBulk d + 1
  | .slice elems spare => uptoBulkAll elems + uptoBulkAll spare + 1
  | .agg parts => uptoBulkAll parts + 1
  | .iface _ d => uptoBulk d + 1
  | .map entries => uptoBulkEntries entries + 1
  | .held _ => 1
def uptoBulkAll {H : Type} : List (DataW H) → Nat
  | [] => 0
  | d :: r => uptoBulk d + uptoBulkAll r
def uptoBulkEntries {H : Type} : List (Lit × DataW H) → Nat
  | [] => 0
  | x :: r => uptoBulkEntry x + uptoBulkEntries r
def uptoBulkEntry {H : Type} : Lit × DataW H → Nat
  | (.string bytes, d) => bytes.length + uptoBulk d + 1
  | (_, d) => uptoBulk d + 1
 end
def uptoSmall : (H : Type) → List (DataW H) → Bool := fun _ ds => decide (uptoBulkAll ds ≤ 1048576)
def OpenSpec.upto (s : _root_.Go.ChangeSpec) : _root_.Go.OpenSpec := { _root_.Go.OpenSpec.ofChange s with cond := some uptoSmall }

/-- 'lathelaw02.MemTails', WHERE WHAT IT READS IS OF BULK AT MOST 1048576: true; the input reads as it did. -/
def memTailsUptoRow : OpenClaim := { program := "ytkoiaadhbgccaaa", sum := "1e954cdea7f5a9664fb19f9f96fb105a1518881444fb4388c1daac108d525418", func := "lathe/lathelaw02.MemTails", spec := "memTails", unfollowed := true, recurses := true, apart := false, narrowed := true }
def MemTailsUptoSaid : Prop := memTailsUptoRow.holds Try.pinned (OpenSpec.upto memTailsSpec)

/-- 'lathelaw02.MemBack', WHERE WHAT IT READS IS OF BULK AT MOST 1048576: true; the input reads as it did. -/
def memBackUptoRow : OpenClaim := { program := "ytkoiaadhbgccaaa", sum := "1e954cdea7f5a9664fb19f9f96fb105a1518881444fb4388c1daac108d525418", func := "lathe/lathelaw02.MemBack", spec := "memBack", unfollowed := true, recurses := true, apart := false, narrowed := true }
def MemBackUptoSaid : Prop := memBackUptoRow.holds Try.pinned (OpenSpec.upto memBackSpec)

/-- 'lathelaw02.MemSays', WHERE WHAT IT READS IS OF BULK AT MOST 1048576: true; the input reads as it did. -/
def memSaysUptoRow : OpenClaim := { program := "ytkoiaadhbgccaaa", sum := "1e954cdea7f5a9664fb19f9f96fb105a1518881444fb4388c1daac108d525418", func := "lathe/lathelaw02.MemSays", spec := "memSays", unfollowed := true, recurses := true, apart := false, narrowed := true }
def MemSaysUptoSaid : Prop := memSaysUptoRow.holds Try.pinned (OpenSpec.upto memSaysSpec)

/-- 'lathelaw08.KnownDo', WHERE WHAT IT READS IS OF BULK AT MOST 1048576: true; the input reads as it did. -/
def knownDoUptoRow : OpenClaim := { program := "ytkoiaadhbgccaaa", sum := "1e954cdea7f5a9664fb19f9f96fb105a1518881444fb4388c1daac108d525418", func := "lathe/lathelaw08.KnownDo", spec := "knownDo", unfollowed := true, recurses := true, apart := false, narrowed := true }
def KnownDoUptoSaid : Prop := knownDoUptoRow.holds Try.pinned (OpenSpec.upto knownDoSpec)

/-- 'lathelaw08.KnownLow', WHERE WHAT IT READS IS OF BULK AT MOST 1048576: true; the input reads as it did. -/
def knownLowUptoRow : OpenClaim := { program := "ytkoiaadhbgccaaa", sum := "1e954cdea7f5a9664fb19f9f96fb105a1518881444fb4388c1daac108d525418", func := "lathe/lathelaw08.KnownLow", spec := "knownLow", unfollowed := true, recurses := true, apart := false, narrowed := true }
def KnownLowUptoSaid : Prop := knownLowUptoRow.holds Try.pinned (OpenSpec.upto knownLowSpec)

/-- 'lathelaw08.KnownWider', WHERE WHAT IT READS IS OF BULK AT MOST 1048576: true; the input reads as it did. -/
def knownWiderUptoRow : OpenClaim := { program := "ytkoiaadhbgccaaa", sum := "1e954cdea7f5a9664fb19f9f96fb105a1518881444fb4388c1daac108d525418", func := "lathe/lathelaw08.KnownWider", spec := "knownWider", unfollowed := true, recurses := true, apart := false, narrowed := true }
def KnownWiderUptoSaid : Prop := knownWiderUptoRow.holds Try.pinned (OpenSpec.upto knownWiderSpec)

/-- 'lathelaw08.KnownSound', WHERE WHAT IT READS IS OF BULK AT MOST 1048576: true; the input reads as it did. -/
def knownSoundUptoRow : OpenClaim := { program := "ytkoiaadhbgccaaa", sum := "1e954cdea7f5a9664fb19f9f96fb105a1518881444fb4388c1daac108d525418", func := "lathe/lathelaw08.KnownSound", spec := "knownSound", unfollowed := true, recurses := true, apart := false, narrowed := true }
def KnownSoundUptoSaid : Prop := knownSoundUptoRow.holds Try.pinned (OpenSpec.upto knownSoundSpec)

/-- 'lathelaw08.KnownHalves', WHERE WHAT IT READS IS OF BULK AT MOST 1048576: true; the input reads as it did. -/
def knownHalvesUptoRow : OpenClaim := { program := "ytkoiaadhbgccaaa", sum := "1e954cdea7f5a9664fb19f9f96fb105a1518881444fb4388c1daac108d525418", func := "lathe/lathelaw08.KnownHalves", spec := "knownHalves", unfollowed := true, recurses := true, apart := false, narrowed := true }
def KnownHalvesUptoSaid : Prop := knownHalvesUptoRow.holds Try.pinned (OpenSpec.upto knownHalvesSpec)

/-- 'lathelaw08.KnownTells', WHERE WHAT IT READS IS OF BULK AT MOST 1048576: true; the input reads as it did. -/
def knownTellsUptoRow : OpenClaim := { program := "ytkoiaadhbgccaaa", sum := "1e954cdea7f5a9664fb19f9f96fb105a1518881444fb4388c1daac108d525418", func := "lathe/lathelaw08.KnownTells", spec := "knownTells", unfollowed := true, recurses := true, apart := false, narrowed := true }
def KnownTellsUptoSaid : Prop := knownTellsUptoRow.holds Try.pinned (OpenSpec.upto knownTellsSpec)

end Rows
end Go.Proofs.Ytkoiaadhbgccaaa
