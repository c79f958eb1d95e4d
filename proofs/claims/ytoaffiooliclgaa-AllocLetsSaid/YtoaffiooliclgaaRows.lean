/-
  No cell of these rows narrows 'for every input' (looked for: loops, veiled, ifaces, maps, wideKeys, modest, calm, conditions, laid).
  DERIVED. THE GIVEN ROWS OF THIS SEAT. 3 by the template 'for every input the law returns true; each argument reads behind the call as it read before'; 0 by the template 'total and deterministic' (their statements: YtoaffiooliclgaaTotals.lean).
  GIVEN WITH THE SEED: the statements are not yours to turn. If you find one false, say at which input.
  Laid BY PROGRAM, IN A SANDBOX (cutbox-rows.mjs): the forced cells as the released guide's own fill.sh prints them over the translation f1af7e9fd93ed24a… (all of the seat's roots in one cut). By AI agents, Wed Nov 11 2026. No macro, syntax, notation, axiom, sorry.
-/
import Derived.Test.YtoaffiooliclgaaChecked
import GoSem.Claim
import GoSem.ClaimJoined
import GoSem.ClaimMapViews
import Derived.JoinedTies
import Derived.KernelRfl
namespace Go.Proofs.Ytoaffiooliclgaa
/- THE CELL 'sum', in the pinned program and in every row, IS THE sha256 OF THE DUMP (.gsa) THAT YtoaffiooliclgaaProg.lean LOADS. Nothing in Lean hashes anything: it is a label: what it is worth is what the hold of that sum in a sandbox is worth. -/
noncomputable def Try.pinned : Pinned := { name := "ytoaffiooliclgaa", sum := "f1af7e9fd93ed24a1d3f32f6a3b002e83d1fd8b6cd9d81bf0ae327f99264fb8b", checked := Try.checked }
namespace Rows
def none {H : Type} : Left H := { results := [], args := [] }

/-- 'lathelaw21.AllocTurned': WHATEVER THE INPUT: true; the input reads as it did. -/
def allocTurnedSpec : ChangeSpec := { name := "allocTurned", fn := fun _ => fun
  | [d] => { results := [.lit (.bool true)], args := [d] }
  | _ => none }
def allocTurnedRow : OpenClaim := { program := "ytoaffiooliclgaa", sum := "f1af7e9fd93ed24a1d3f32f6a3b002e83d1fd8b6cd9d81bf0ae327f99264fb8b", func := "lathe/lathelaw21.AllocTurned", spec := "allocTurned", unfollowed := true, recurses := true, plainKeys := false, apart := false }
def AllocTurnedSaid : Prop := allocTurnedRow.holds Try.pinned (OpenSpec.ofChange allocTurnedSpec)

/-- ITS FALSE NEIGHBOUR: 'it returns false'. Refute it at one input. -/
def allocTurnedWrong : ChangeSpec := { name := "allocTurned", fn := fun _ => fun
  | [d] => { results := [.lit (.bool false)], args := [d] }
  | _ => none }
def AllocTurnedWrongFalsely : Prop := allocTurnedRow.holds Try.pinned (OpenSpec.ofChange allocTurnedWrong)

/-- 'lathelaw21.AllocFew': WHATEVER THE INPUT: true; the input reads as it did. -/
def allocFewSpec : ChangeSpec := { name := "allocFew", fn := fun _ => fun
  | [d] => { results := [.lit (.bool true)], args := [d] }
  | _ => none }
def allocFewRow : OpenClaim := { program := "ytoaffiooliclgaa", sum := "f1af7e9fd93ed24a1d3f32f6a3b002e83d1fd8b6cd9d81bf0ae327f99264fb8b", func := "lathe/lathelaw21.AllocFew", spec := "allocFew", unfollowed := true, recurses := true, plainKeys := false, apart := false }
def AllocFewSaid : Prop := allocFewRow.holds Try.pinned (OpenSpec.ofChange allocFewSpec)

/-- ITS FALSE NEIGHBOUR: 'it returns false'. Refute it at one input. -/
def allocFewWrong : ChangeSpec := { name := "allocFew", fn := fun _ => fun
  | [d] => { results := [.lit (.bool false)], args := [d] }
  | _ => none }
def AllocFewWrongFalsely : Prop := allocFewRow.holds Try.pinned (OpenSpec.ofChange allocFewWrong)

/-- 'lathelaw21.AllocLets': WHATEVER THE INPUT: true; the input reads as it did. -/
def allocLetsSpec : ChangeSpec := { name := "allocLets", fn := fun _ => fun
  | [d] => { results := [.lit (.bool true)], args := [d] }
  | _ => none }
def allocLetsRow : OpenClaim := { program := "ytoaffiooliclgaa", sum := "f1af7e9fd93ed24a1d3f32f6a3b002e83d1fd8b6cd9d81bf0ae327f99264fb8b", func := "lathe/lathelaw21.AllocLets", spec := "allocLets", unfollowed := true, recurses := true, plainKeys := false, apart := false }
def AllocLetsSaid : Prop := allocLetsRow.holds Try.pinned (OpenSpec.ofChange allocLetsSpec)

/-- ITS FALSE NEIGHBOUR: 'it returns false'. Refute it at one input. -/
def allocLetsWrong : ChangeSpec := { name := "allocLets", fn := fun _ => fun
  | [d] => { results := [.lit (.bool false)], args := [d] }
  | _ => none }
def AllocLetsWrongFalsely : Prop := allocLetsRow.holds Try.pinned (OpenSpec.ofChange allocLetsWrong)

/- THE SECOND FORM. 'bulk': how many values and letters a reading holds, each counted each time it is reached (what is shared counts as often as it is met; a slice's spare places count too). A statement '..UptoSaid' is the law's where the arguments, and the package variables that the reading takes, are together of bulk at most 1048576: NARROWER than '..Said'. Prove '..Said' where nothing that the law and all that it calls make is longer than what came in: it says more and counts as full. Else prove '..UptoSaid'. A law counts once. -/
mutual
def uptoBulk {H : Type} : DataW H → Nat
  | .lit (.string bytes) => bytes.length + 1
  | .lit _ => 1
  | .nil => 1
  | .ptr d => uptoBulk d + 1
  | .slice elems spare => uptoBulkAll elems + uptoBulkAll spare + 1
  | .agg parts => uptoBulkAll parts + 1
  | .iface _ d => uptoBulk d + 1
  | .map entries => uptoBulkEntries entries + 1
  | .held _ => 1
def uptoBulkAll {H : Type} : List (DataW H) → Nat
  | [] => 0
  | d :: r => uptoBulk d + uptoBulkAll r
def uptoBulkEntries {H : Type} : List (Lit × DataW H) → Nat
  | [] => 0
  | x :: r => uptoBulkEntry x + uptoBulkEntries r
def uptoBulkEntry {H : Type} : Lit × DataW H → Nat
  | (.string bytes, d) => bytes.length + uptoBulk d + 1
  | (_, d) => uptoBulk d + 1
 end
def uptoSmall : (H : Type) → List (DataW H) → Bool := fun _ ds => decide (uptoBulkAll ds ≤ 1048576)
def OpenSpec.upto (s : _root_.Go.ChangeSpec) : _root_.Go.OpenSpec := { _root_.Go.OpenSpec.ofChange s with cond := some uptoSmall }

/-- 'lathelaw21.AllocTurned', WHERE WHAT IT READS IS OF BULK AT MOST 1048576: true; the input reads as it did. -/
def allocTurnedUptoRow : OpenClaim := { program := "ytoaffiooliclgaa", sum := "f1af7e9fd93ed24a1d3f32f6a3b002e83d1fd8b6cd9d81bf0ae327f99264fb8b", func := "lathe/lathelaw21.AllocTurned", spec := "allocTurned", unfollowed := true, recurses := true, plainKeys := false, apart := false, narrowed := true }
def AllocTurnedUptoSaid : Prop := allocTurnedUptoRow.holds Try.pinned (OpenSpec.upto allocTurnedSpec)

/-- 'lathelaw21.AllocFew', WHERE WHAT IT READS IS OF BULK AT MOST 1048576: true; the input reads as it did. -/
def allocFewUptoRow : OpenClaim := { program := "ytoaffiooliclgaa", sum := "f1af7e9fd93ed24a1d3f32f6a3b002e83d1fd8b6cd9d81bf0ae327f99264fb8b", func := "lathe/lathelaw21.AllocFew", spec := "allocFew", unfollowed := true, recurses := true, plainKeys := false, apart := false, narrowed := true }
def AllocFewUptoSaid : Prop := allocFewUptoRow.holds Try.pinned (OpenSpec.upto allocFewSpec)

/-- 'lathelaw21.AllocLets', WHERE WHAT IT READS IS OF BULK AT MOST 1048576: true; the input reads as it did. -/
def allocLetsUptoRow : OpenClaim := { program := "ytoaffiooliclgaa", sum := "f1af7e9fd93ed24a1d3f32f6a3b002e83d1fd8b6cd9d81bf0ae327f99264fb8b", func := "lathe/lathelaw21.AllocLets", spec := "allocLets", unfollowed := true, recurses := true, plainKeys := false, apart := false, narrowed := true }
def AllocLetsUptoSaid : Prop := allocLetsUptoRow.holds Try.pinned (OpenSpec.upto allocLetsSpec)

end Rows
end Go.Proofs.Ytoaffiooliclgaa
