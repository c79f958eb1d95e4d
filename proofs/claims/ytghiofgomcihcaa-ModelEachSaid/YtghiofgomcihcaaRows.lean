/-
  No cell of these rows narrows 'for every input' (looked for: loops, veiled, ifaces, maps, wideKeys, modest, calm, conditions, laid).
  DERIVED. THE GIVEN ROWS OF THIS SEAT. 6 by the template 'for every input the law returns true; each argument reads behind the call as it read before'; 0 by the template 'total and deterministic' (their statements: YtghiofgomcihcaaTotals.lean).
  GIVEN WITH THE SEED: the statements are not yours to turn. If you find one false, say at which input.
  Laid BY PROGRAM, IN A SANDBOX (cutbox-rows.mjs): the forced cells as the released guide's own fill.sh prints them over the translation 45e89b1869fbe1c5… (all of the seat's roots in one cut). By AI agents, Wed Nov 11 2026. No macro, syntax, notation, axiom, sorry.
-/
import Derived.Test.YtghiofgomcihcaaChecked
import GoSem.Claim
import GoSem.ClaimJoined
import GoSem.ClaimMapViews
import Derived.JoinedTies
import Derived.KernelRfl
namespace Go.Proofs.Ytghiofgomcihcaa
/- THE CELL 'sum', in the pinned program and in every row, IS THE sha256 OF THE DUMP (.gsa) THAT YtghiofgomcihcaaProg.lean LOADS. Nothing in Lean hashes anything: it is a label: what it is worth is what the hold of that sum in a sandbox is worth. -/
noncomputable def Try.pinned : Pinned := { name := "ytghiofgomcihcaa", sum := "45e89b1869fbe1c56a55ba0614341a405a012d4b40b41c6d7f2c9c0197f58239", checked := Try.checked }
namespace Rows
def none {H : Type} : Left H := { results := [], args := [] }

/-- 'lathelaw06.ModelMore': WHATEVER THE INPUT: true; the input reads as it did. -/
def modelMoreSpec : ChangeSpec := { name := "modelMore", fn := fun _ => fun
  | [d1, d2, d3, d4, d5, d6] => { results := [.lit (.bool true)], args := [d1, d2, d3, d4, d5, d6] }
  | _ => none }
def modelMoreRow : OpenClaim := { program := "ytghiofgomcihcaa", sum := "45e89b1869fbe1c56a55ba0614341a405a012d4b40b41c6d7f2c9c0197f58239", func := "lathe/lathelaw06.ModelMore", spec := "modelMore", unfollowed := true, recurses := true, apart := false }
def ModelMoreSaid : Prop := modelMoreRow.holds Try.pinned (OpenSpec.ofChange modelMoreSpec)

/-- ITS FALSE NEIGHBOUR: 'it returns false'. Refute it at one input. -/
def modelMoreWrong : ChangeSpec := { name := "modelMore", fn := fun _ => fun
  | [d1, d2, d3, d4, d5, d6] => { results := [.lit (.bool false)], args := [d1, d2, d3, d4, d5, d6] }
  | _ => none }
def ModelMoreWrongFalsely : Prop := modelMoreRow.holds Try.pinned (OpenSpec.ofChange modelMoreWrong)

/-- 'lathelaw06.ModelBehind': WHATEVER THE INPUT: true; the input reads as it did. -/
def modelBehindSpec : ChangeSpec := { name := "modelBehind", fn := fun _ => fun
  | [d1, d2, d3, d4, d5] => { results := [.lit (.bool true)], args := [d1, d2, d3, d4, d5] }
  | _ => none }
def modelBehindRow : OpenClaim := { program := "ytghiofgomcihcaa", sum := "45e89b1869fbe1c56a55ba0614341a405a012d4b40b41c6d7f2c9c0197f58239", func := "lathe/lathelaw06.ModelBehind", spec := "modelBehind", unfollowed := true, recurses := true, apart := false }
def ModelBehindSaid : Prop := modelBehindRow.holds Try.pinned (OpenSpec.ofChange modelBehindSpec)

/-- ITS FALSE NEIGHBOUR: 'it returns false'. Refute it at one input. -/
def modelBehindWrong : ChangeSpec := { name := "modelBehind", fn := fun _ => fun
  | [d1, d2, d3, d4, d5] => { results := [.lit (.bool false)], args := [d1, d2, d3, d4, d5] }
  | _ => none }
def ModelBehindWrongFalsely : Prop := modelBehindRow.holds Try.pinned (OpenSpec.ofChange modelBehindWrong)

/-- 'lathelaw06.ModelEach': WHATEVER THE INPUT: true; the input reads as it did. -/
def modelEachSpec : ChangeSpec := { name := "modelEach", fn := fun _ => fun
  | [d1, d2, d3, d4, d5] => { results := [.lit (.bool true)], args := [d1, d2, d3, d4, d5] }
  | _ => none }
def modelEachRow : OpenClaim := { program := "ytghiofgomcihcaa", sum := "45e89b1869fbe1c56a55ba0614341a405a012d4b40b41c6d7f2c9c0197f58239", func := "lathe/lathelaw06.ModelEach", spec := "modelEach", unfollowed := true, recurses := true, apart := false }
def ModelEachSaid : Prop := modelEachRow.holds Try.pinned (OpenSpec.ofChange modelEachSpec)

/-- ITS FALSE NEIGHBOUR: 'it returns false'. Refute it at one input. -/
def modelEachWrong : ChangeSpec := { name := "modelEach", fn := fun _ => fun
  | [d1, d2, d3, d4, d5] => { results := [.lit (.bool false)], args := [d1, d2, d3, d4, d5] }
  | _ => none }
def ModelEachWrongFalsely : Prop := modelEachRow.holds Try.pinned (OpenSpec.ofChange modelEachWrong)

/-- 'lathelaw06.ModelStays': WHATEVER THE INPUT: true; the input reads as it did. -/
def modelStaysSpec : ChangeSpec := { name := "modelStays", fn := fun _ => fun
  | [d1, d2, d3, d4] => { results := [.lit (.bool true)], args := [d1, d2, d3, d4] }
  | _ => none }
def modelStaysRow : OpenClaim := { program := "ytghiofgomcihcaa", sum := "45e89b1869fbe1c56a55ba0614341a405a012d4b40b41c6d7f2c9c0197f58239", func := "lathe/lathelaw06.ModelStays", spec := "modelStays", unfollowed := true, recurses := true, apart := false }
def ModelStaysSaid : Prop := modelStaysRow.holds Try.pinned (OpenSpec.ofChange modelStaysSpec)

/-- ITS FALSE NEIGHBOUR: 'it returns false'. Refute it at one input. -/
def modelStaysWrong : ChangeSpec := { name := "modelStays", fn := fun _ => fun
  | [d1, d2, d3, d4] => { results := [.lit (.bool false)], args := [d1, d2, d3, d4] }
  | _ => none }
def ModelStaysWrongFalsely : Prop := modelStaysRow.holds Try.pinned (OpenSpec.ofChange modelStaysWrong)

/-- 'lathelaw06.ModelRuns': WHATEVER THE INPUT: true; the input reads as it did. -/
def modelRunsSpec : ChangeSpec := { name := "modelRuns", fn := fun _ => fun
  | [d1, d2, d3, d4] => { results := [.lit (.bool true)], args := [d1, d2, d3, d4] }
  | _ => none }
def modelRunsRow : OpenClaim := { program := "ytghiofgomcihcaa", sum := "45e89b1869fbe1c56a55ba0614341a405a012d4b40b41c6d7f2c9c0197f58239", func := "lathe/lathelaw06.ModelRuns", spec := "modelRuns", unfollowed := true, recurses := true, apart := false }
def ModelRunsSaid : Prop := modelRunsRow.holds Try.pinned (OpenSpec.ofChange modelRunsSpec)

/-- ITS FALSE NEIGHBOUR: 'it returns false'. Refute it at one input. -/
def modelRunsWrong : ChangeSpec := { name := "modelRuns", fn := fun _ => fun
  | [d1, d2, d3, d4] => { results := [.lit (.bool false)], args := [d1, d2, d3, d4] }
  | _ => none }
def ModelRunsWrongFalsely : Prop := modelRunsRow.holds Try.pinned (OpenSpec.ofChange modelRunsWrong)

/-- 'lathelaw06.ModelCounts': WHATEVER THE INPUT: true; the input reads as it did. -/
def modelCountsSpec : ChangeSpec := { name := "modelCounts", fn := fun _ => fun
  | [d1, d2, d3, d4] => { results := [.lit (.bool true)], args := [d1, d2, d3, d4] }
  | _ => none }
def modelCountsRow : OpenClaim := { program := "ytghiofgomcihcaa", sum := "45e89b1869fbe1c56a55ba0614341a405a012d4b40b41c6d7f2c9c0197f58239", func := "lathe/lathelaw06.ModelCounts", spec := "modelCounts", unfollowed := true, recurses := true, apart := false }
def ModelCountsSaid : Prop := modelCountsRow.holds Try.pinned (OpenSpec.ofChange modelCountsSpec)

/-- ITS FALSE NEIGHBOUR: 'it returns false'. Refute it at one input. -/
def modelCountsWrong : ChangeSpec := { name := "modelCounts", fn := fun _ => fun
  | [d1, d2, d3, d4] => { results := [.lit (.bool false)], args := [d1, d2, d3, d4] }
  | _ => none }
def ModelCountsWrongFalsely : Prop := modelCountsRow.holds Try.pinned (OpenSpec.ofChange modelCountsWrong)

/- THE SECOND FORM. 'bulk': how many values and letters a reading holds, each counted each time it is reached (what is shared counts as often as it is met; a slice's spare places count too). A statement '..UptoSaid' is the law's where the arguments, and the package variables that the reading takes, are together of bulk at most 1048576: NARROWER than '..Said'. Prove '..Said' where nothing that the law and all that it calls make is longer than what came in: it says more and counts as full. Else prove '..UptoSaid'. A law counts once. -/
mutual
def uptoBulk {H : Type} : DataW H → Nat
  | .lit (.string bytes) => bytes.length + 1
  | .lit _ => 1
  | .nil => 1
  | .ptr d => uptoBulk d + 1
  | .slice elems spare => uptoBulkAll elems + uptoBulkAll spare + 1
  | .agg parts => uptoBulkAll parts + 1
  | .iface _ d => uptoBulk d + 1
  | .map entries => uptoBulkEntries entries + 1
  | .held _ => 1
def uptoBulkAll {H : Type} : List (DataW H) → Nat
  | [] => 0
  | d :: r => uptoBulk d + uptoBulkAll r
def uptoBulkEntries {H : Type} : List (Lit × DataW H) → Nat
  | [] => 0
  | x :: r => uptoBulkEntry x + uptoBulkEntries r
def uptoBulkEntry {H : Type} : Lit × DataW H → Nat
  | (.string bytes, d) => bytes.length + uptoBulk d + 1
  | (_, d) => uptoBulk d + 1
 end
def uptoSmall : (H : Type) → List (DataW H) → Bool := fun _ ds => decide (uptoBulkAll ds ≤ 1048576)
def OpenSpec.upto (s : _root_.Go.ChangeSpec) : _root_.Go.OpenSpec := { _root_.Go.OpenSpec.ofChange s with cond := some uptoSmall }

/-- 'lathelaw06.ModelMore', WHERE WHAT IT READS IS OF BULK AT MOST 1048576: true; the input reads as it did. -/
def modelMoreUptoRow : OpenClaim := { program := "ytghiofgomcihcaa", sum := "45e89b1869fbe1c56a55ba0614341a405a012d4b40b41c6d7f2c9c0197f58239", func := "lathe/lathelaw06.ModelMore", spec := "modelMore", unfollowed := true, recurses := true, apart := false, narrowed := true }
def ModelMoreUptoSaid : Prop := modelMoreUptoRow.holds Try.pinned (OpenSpec.upto modelMoreSpec)

/-- 'lathelaw06.ModelBehind', WHERE WHAT IT READS IS OF BULK AT MOST 1048576: true; the input reads as it did. -/
def modelBehindUptoRow : OpenClaim := { program := "ytghiofgomcihcaa", sum := "45e89b1869fbe1c56a55ba0614341a405a012d4b40b41c6d7f2c9c0197f58239", func := "lathe/lathelaw06.ModelBehind", spec := "modelBehind", unfollowed := true, recurses := true, apart := false, narrowed := true }
def ModelBehindUptoSaid : Prop := modelBehindUptoRow.holds Try.pinned (OpenSpec.upto modelBehindSpec)

/-- 'lathelaw06.ModelEach', WHERE WHAT IT READS IS OF BULK AT MOST 1048576: true; the input reads as it did. -/
def modelEachUptoRow : OpenClaim := { program := "ytghiofgomcihcaa", sum := "45e89b1869fbe1c56a55ba0614341a405a012d4b40b41c6d7f2c9c0197f58239", func := "lathe/lathelaw06.ModelEach", spec := "modelEach", unfollowed := true, recurses := true, apart := false, narrowed := true }
def ModelEachUptoSaid : Prop := modelEachUptoRow.holds Try.pinned (OpenSpec.upto modelEachSpec)

/-- 'lathelaw06.ModelStays', WHERE WHAT IT READS IS OF BULK AT MOST 1048576: true; the input reads as it did. -/
def modelStaysUptoRow : OpenClaim := { program := "ytghiofgomcihcaa", sum := "45e89b1869fbe1c56a55ba0614341a405a012d4b40b41c6d7f2c9c0197f58239", func := "lathe/lathelaw06.ModelStays", spec := "modelStays", unfollowed := true, recurses := true, apart := false, narrowed := true }
def ModelStaysUptoSaid : Prop := modelStaysUptoRow.holds Try.pinned (OpenSpec.upto modelStaysSpec)

/-- 'lathelaw06.ModelRuns', WHERE WHAT IT READS IS OF BULK AT MOST 1048576: true; the input reads as it did. -/
def modelRunsUptoRow : OpenClaim := { program := "ytghiofgomcihcaa", sum := "45e89b1869fbe1c56a55ba0614341a405a012d4b40b41c6d7f2c9c0197f58239", func := "lathe/lathelaw06.ModelRuns", spec := "modelRuns", unfollowed := true, recurses := true, apart := false, narrowed := true }
def ModelRunsUptoSaid : Prop := modelRunsUptoRow.holds Try.pinned (OpenSpec.upto modelRunsSpec)

/-- 'lathelaw06.ModelCounts', WHERE WHAT IT READS IS OF BULK AT MOST 1048576: true; the input reads as it did. -/
def modelCountsUptoRow : OpenClaim := { program := "ytghiofgomcihcaa", sum := "45e89b1869fbe1c56a55ba0614341a405a012d4b40b41c6d7f2c9c0197f58239", func := "lathe/lathelaw06.ModelCounts", spec := "modelCounts", unfollowed := true, recurses := true, apart := false, narrowed := true }
def ModelCountsUptoSaid : Prop := modelCountsUptoRow.holds Try.pinned (OpenSpec.upto modelCountsSpec)

end Rows
end Go.Proofs.Ytghiofgomcihcaa
