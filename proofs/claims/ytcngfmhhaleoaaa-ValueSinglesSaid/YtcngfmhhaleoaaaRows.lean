/-
  No cell of these rows narrows 'for every input' (looked for: loops, veiled, ifaces, maps, wideKeys, modest, calm, conditions, laid).
  DERIVED. THE GIVEN ROWS OF THIS SEAT. 8 by the template 'for every input the law returns true; each argument reads behind the call as it read before'; 0 by the template 'total and deterministic' (their statements: YtcngfmhhaleoaaaTotals.lean).
  GIVEN WITH THE SEED: the statements are not yours to turn. If you find one false, say at which input.
  Laid BY PROGRAM, IN A SANDBOX (cutbox-rows.mjs): the forced cells as the released guide's own fill.sh prints them over the translation 5676e317a31379bf… (all of the seat's roots in one cut). By AI agents, Wed Nov 11 2026. No macro, syntax, notation, axiom, sorry.
-/
import Derived.Test.YtcngfmhhaleoaaaChecked
import GoSem.Claim
import GoSem.ClaimJoined
import GoSem.ClaimMapViews
import Derived.JoinedTies
import Derived.KernelRfl
namespace Go.Proofs.Ytcngfmhhaleoaaa
/- THE CELL 'sum', in the pinned program and in every row, IS THE sha256 OF THE DUMP (.gsa) THAT YtcngfmhhaleoaaaProg.lean LOADS. Nothing in Lean hashes anything: it is a label: what it is worth is what the hold of that sum in a sandbox is worth. -/
noncomputable def Try.pinned : Pinned := { name := "ytcngfmhhaleoaaa", sum := "5676e317a31379bf913a77b0f17f9eaa06616e52d308a70a8ebac1226707b204", checked := Try.checked }
namespace Rows
def none {H : Type} : Left H := { results := [], args := [] }

/-- 'lathelaw07.BoundsNarrow': WHATEVER THE INPUT: true; the input reads as it did. -/
def boundsNarrowSpec : ChangeSpec := { name := "boundsNarrow", fn := fun _ => fun
  | [d1, d2] => { results := [.lit (.bool true)], args := [d1, d2] }
  | _ => none }
def boundsNarrowRow : OpenClaim := { program := "ytcngfmhhaleoaaa", sum := "5676e317a31379bf913a77b0f17f9eaa06616e52d308a70a8ebac1226707b204", func := "lathe/lathelaw07.BoundsNarrow", spec := "boundsNarrow", inPlace := ["math/bits.Add64"], unfollowed := true, recurses := true, apart := false }
def BoundsNarrowSaid : Prop := boundsNarrowRow.holds Try.pinned (OpenSpec.ofChange boundsNarrowSpec)

/-- ITS FALSE NEIGHBOUR: 'it returns false'. Refute it at one input. -/
def boundsNarrowWrong : ChangeSpec := { name := "boundsNarrow", fn := fun _ => fun
  | [d1, d2] => { results := [.lit (.bool false)], args := [d1, d2] }
  | _ => none }
def BoundsNarrowWrongFalsely : Prop := boundsNarrowRow.holds Try.pinned (OpenSpec.ofChange boundsNarrowWrong)

/-- 'lathelaw07.BoundsTells': WHATEVER THE INPUT: true; the input reads as it did. -/
def boundsTellsSpec : ChangeSpec := { name := "boundsTells", fn := fun _ => fun
  | [d1, d2, d3, d4, d5] => { results := [.lit (.bool true)], args := [d1, d2, d3, d4, d5] }
  | _ => none }
def boundsTellsRow : OpenClaim := { program := "ytcngfmhhaleoaaa", sum := "5676e317a31379bf913a77b0f17f9eaa06616e52d308a70a8ebac1226707b204", func := "lathe/lathelaw07.BoundsTells", spec := "boundsTells", inPlace := ["math/bits.Add64"], unfollowed := true, recurses := true, apart := false }
def BoundsTellsSaid : Prop := boundsTellsRow.holds Try.pinned (OpenSpec.ofChange boundsTellsSpec)

/-- ITS FALSE NEIGHBOUR: 'it returns false'. Refute it at one input. -/
def boundsTellsWrong : ChangeSpec := { name := "boundsTells", fn := fun _ => fun
  | [d1, d2, d3, d4, d5] => { results := [.lit (.bool false)], args := [d1, d2, d3, d4, d5] }
  | _ => none }
def BoundsTellsWrongFalsely : Prop := boundsTellsRow.holds Try.pinned (OpenSpec.ofChange boundsTellsWrong)

/-- 'lathelaw07.BoundsGiven': WHATEVER THE INPUT: true; the input reads as it did. -/
def boundsGivenSpec : ChangeSpec := { name := "boundsGiven", fn := fun _ => fun
  | [d1, d2, d3, d4, d5] => { results := [.lit (.bool true)], args := [d1, d2, d3, d4, d5] }
  | _ => none }
def boundsGivenRow : OpenClaim := { program := "ytcngfmhhaleoaaa", sum := "5676e317a31379bf913a77b0f17f9eaa06616e52d308a70a8ebac1226707b204", func := "lathe/lathelaw07.BoundsGiven", spec := "boundsGiven", inPlace := ["math/bits.Add64"], unfollowed := true, recurses := true, apart := false }
def BoundsGivenSaid : Prop := boundsGivenRow.holds Try.pinned (OpenSpec.ofChange boundsGivenSpec)

/-- ITS FALSE NEIGHBOUR: 'it returns false'. Refute it at one input. -/
def boundsGivenWrong : ChangeSpec := { name := "boundsGiven", fn := fun _ => fun
  | [d1, d2, d3, d4, d5] => { results := [.lit (.bool false)], args := [d1, d2, d3, d4, d5] }
  | _ => none }
def BoundsGivenWrongFalsely : Prop := boundsGivenRow.holds Try.pinned (OpenSpec.ofChange boundsGivenWrong)

/-- 'lathelaw07.BoundsHold': WHATEVER THE INPUT: true; the input reads as it did. -/
def boundsHoldSpec : ChangeSpec := { name := "boundsHold", fn := fun _ => fun
  | [d1, d2, d3, d4, d5] => { results := [.lit (.bool true)], args := [d1, d2, d3, d4, d5] }
  | _ => none }
def boundsHoldRow : OpenClaim := { program := "ytcngfmhhaleoaaa", sum := "5676e317a31379bf913a77b0f17f9eaa06616e52d308a70a8ebac1226707b204", func := "lathe/lathelaw07.BoundsHold", spec := "boundsHold", inPlace := ["math/bits.Add64"], unfollowed := true, recurses := true, apart := false }
def BoundsHoldSaid : Prop := boundsHoldRow.holds Try.pinned (OpenSpec.ofChange boundsHoldSpec)

/-- ITS FALSE NEIGHBOUR: 'it returns false'. Refute it at one input. -/
def boundsHoldWrong : ChangeSpec := { name := "boundsHold", fn := fun _ => fun
  | [d1, d2, d3, d4, d5] => { results := [.lit (.bool false)], args := [d1, d2, d3, d4, d5] }
  | _ => none }
def BoundsHoldWrongFalsely : Prop := boundsHoldRow.holds Try.pinned (OpenSpec.ofChange boundsHoldWrong)

/-- 'lathelaw09.ValueSingles': WHATEVER THE INPUT: true; the input reads as it did. -/
def valueSinglesSpec : ChangeSpec := { name := "valueSingles", fn := fun _ => fun
  | [d1, d2, d3, d4] => { results := [.lit (.bool true)], args := [d1, d2, d3, d4] }
  | _ => none }
def valueSinglesRow : OpenClaim := { program := "ytcngfmhhaleoaaa", sum := "5676e317a31379bf913a77b0f17f9eaa06616e52d308a70a8ebac1226707b204", func := "lathe/lathelaw09.ValueSingles", spec := "valueSingles", inPlace := ["math/bits.Add64"], unfollowed := true, recurses := true, apart := false }
def ValueSinglesSaid : Prop := valueSinglesRow.holds Try.pinned (OpenSpec.ofChange valueSinglesSpec)

/-- ITS FALSE NEIGHBOUR: 'it returns false'. Refute it at one input. -/
def valueSinglesWrong : ChangeSpec := { name := "valueSingles", fn := fun _ => fun
  | [d1, d2, d3, d4] => { results := [.lit (.bool false)], args := [d1, d2, d3, d4] }
  | _ => none }
def ValueSinglesWrongFalsely : Prop := valueSinglesRow.holds Try.pinned (OpenSpec.ofChange valueSinglesWrong)

/-- 'lathelaw09.ValueHolds': WHATEVER THE INPUT: true; the input reads as it did. -/
def valueHoldsSpec : ChangeSpec := { name := "valueHolds", fn := fun _ => fun
  | [d1, d2, d3, d4, d5, d6] => { results := [.lit (.bool true)], args := [d1, d2, d3, d4, d5, d6] }
  | _ => none }
def valueHoldsRow : OpenClaim := { program := "ytcngfmhhaleoaaa", sum := "5676e317a31379bf913a77b0f17f9eaa06616e52d308a70a8ebac1226707b204", func := "lathe/lathelaw09.ValueHolds", spec := "valueHolds", inPlace := ["math/bits.Add64"], unfollowed := true, recurses := true, apart := false }
def ValueHoldsSaid : Prop := valueHoldsRow.holds Try.pinned (OpenSpec.ofChange valueHoldsSpec)

/-- ITS FALSE NEIGHBOUR: 'it returns false'. Refute it at one input. -/
def valueHoldsWrong : ChangeSpec := { name := "valueHolds", fn := fun _ => fun
  | [d1, d2, d3, d4, d5, d6] => { results := [.lit (.bool false)], args := [d1, d2, d3, d4, d5, d6] }
  | _ => none }
def ValueHoldsWrongFalsely : Prop := valueHoldsRow.holds Try.pinned (OpenSpec.ofChange valueHoldsWrong)

/-- 'lathelaw09.ValueEnds': WHATEVER THE INPUT: true; the input reads as it did. -/
def valueEndsSpec : ChangeSpec := { name := "valueEnds", fn := fun _ => fun
  | [d1, d2] => { results := [.lit (.bool true)], args := [d1, d2] }
  | _ => none }
def valueEndsRow : OpenClaim := { program := "ytcngfmhhaleoaaa", sum := "5676e317a31379bf913a77b0f17f9eaa06616e52d308a70a8ebac1226707b204", func := "lathe/lathelaw09.ValueEnds", spec := "valueEnds", inPlace := ["math/bits.Add64"], unfollowed := true, recurses := true, apart := false }
def ValueEndsSaid : Prop := valueEndsRow.holds Try.pinned (OpenSpec.ofChange valueEndsSpec)

/-- ITS FALSE NEIGHBOUR: 'it returns false'. Refute it at one input. -/
def valueEndsWrong : ChangeSpec := { name := "valueEnds", fn := fun _ => fun
  | [d1, d2] => { results := [.lit (.bool false)], args := [d1, d2] }
  | _ => none }
def ValueEndsWrongFalsely : Prop := valueEndsRow.holds Try.pinned (OpenSpec.ofChange valueEndsWrong)

/-- 'lathelaw09.ValueGiven': WHATEVER THE INPUT: true; the input reads as it did. -/
def valueGivenSpec : ChangeSpec := { name := "valueGiven", fn := fun _ => fun
  | [d1, d2, d3, d4, d5] => { results := [.lit (.bool true)], args := [d1, d2, d3, d4, d5] }
  | _ => none }
def valueGivenRow : OpenClaim := { program := "ytcngfmhhaleoaaa", sum := "5676e317a31379bf913a77b0f17f9eaa06616e52d308a70a8ebac1226707b204", func := "lathe/lathelaw09.ValueGiven", spec := "valueGiven", inPlace := ["math/bits.Add64"], unfollowed := true, recurses := true, apart := false }
def ValueGivenSaid : Prop := valueGivenRow.holds Try.pinned (OpenSpec.ofChange valueGivenSpec)

/-- ITS FALSE NEIGHBOUR: 'it returns false'. Refute it at one input. -/
def valueGivenWrong : ChangeSpec := { name := "valueGiven", fn := fun _ => fun
  | [d1, d2, d3, d4, d5] => { results := [.lit (.bool false)], args := [d1, d2, d3, d4, d5] }
  | _ => none }
def ValueGivenWrongFalsely : Prop := valueGivenRow.holds Try.pinned (OpenSpec.ofChange valueGivenWrong)

/- THE SECOND FORM. 'bulk': how many values and letters a reading holds, each counted each time it is reached (what is shared counts as often as it is met; a slice's spare places count too). A statement '..UptoSaid' is the law's where the arguments, and the package variables that the reading takes, are together of bulk at most 1048576: NARROWER than '..Said'. Prove '..Said' where nothing that the law and all that it calls make is longer than what came in: it says more and counts as full. Else prove '..UptoSaid'. A law counts once. -/
mutual
def uptoBulk {H : Type} : DataW H → Nat
  | .lit (.string bytes) => bytes.length + 1
  | .lit _ => 1
  | .nil => 1
  | .ptr d => uptoBulk d + 1
  | .slice elems spare => uptoBulkAll elems + uptoBulkAll spare + 1
  | .agg parts => uptoBulkAll parts + 1
  | .iface _ d => uptoBulk d + 1
  | .map entries => uptoBulkEntries entries + 1
  | .held _ => 1
def uptoBulkAll {H : Type} : List (DataW H) → Nat
  | [] => 0
  | d :: r => uptoBulk d + uptoBulkAll r
def uptoBulkEntries {H : Type} : List (Lit × DataW H) → Nat
  | [] => 0
  | x :: r => uptoBulkEntry x + uptoBulkEntries r
def uptoBulkEntry {H : Type} : Lit × DataW H → Nat
  | (.string bytes, d) => bytes.length + uptoBulk d + 1
  | (_, d) => uptoBulk d + 1
 end
def uptoSmall : (H : Type) → List (DataW H) → Bool := fun _ ds => decide (uptoBulkAll ds ≤ 1048576)
def OpenSpec.upto (s : _root_.Go.ChangeSpec) : _root_.Go.OpenSpec := { _root_.Go.OpenSpec.ofChange s with cond := some uptoSmall }

/-- 'lathelaw07.BoundsNarrow', WHERE WHAT IT READS IS OF BULK AT MOST 1048576: true; the input reads as it did. -/
def boundsNarrowUptoRow : OpenClaim := { program := "ytcngfmhhaleoaaa", sum := "5676e317a31379bf913a77b0f17f9eaa06616e52d308a70a8ebac1226707b204", func := "lathe/lathelaw07.BoundsNarrow", spec := "boundsNarrow", inPlace := ["math/bits.Add64"], unfollowed := true, recurses := true, apart := false, narrowed := true }
def BoundsNarrowUptoSaid : Prop := boundsNarrowUptoRow.holds Try.pinned (OpenSpec.upto boundsNarrowSpec)

/-- 'lathelaw07.BoundsTells', WHERE WHAT IT READS IS OF BULK AT MOST 1048576: true; the input reads as it did. -/
def boundsTellsUptoRow : OpenClaim := { program := "ytcngfmhhaleoaaa", sum := "5676e317a31379bf913a77b0f17f9eaa06616e52d308a70a8ebac1226707b204", func := "lathe/lathelaw07.BoundsTells", spec := "boundsTells", inPlace := ["math/bits.Add64"], unfollowed := true, recurses := true, apart := false, narrowed := true }
def BoundsTellsUptoSaid : Prop := boundsTellsUptoRow.holds Try.pinned (OpenSpec.upto boundsTellsSpec)

/-- 'lathelaw07.BoundsGiven', WHERE WHAT IT READS IS OF BULK AT MOST 1048576: true; the input reads as it did. -/
def boundsGivenUptoRow : OpenClaim := { program := "ytcngfmhhaleoaaa", sum := "5676e317a31379bf913a77b0f17f9eaa06616e52d308a70a8ebac1226707b204", func := "lathe/lathelaw07.BoundsGiven", spec := "boundsGiven", inPlace := ["math/bits.Add64"], unfollowed := true, recurses := true, apart := false, narrowed := true }
def BoundsGivenUptoSaid : Prop := boundsGivenUptoRow.holds Try.pinned (OpenSpec.upto boundsGivenSpec)

/-- 'lathelaw07.BoundsHold', WHERE WHAT IT READS IS OF BULK AT MOST 1048576: true; the input reads as it did. -/
def boundsHoldUptoRow : OpenClaim := { program := "ytcngfmhhaleoaaa", sum := "5676e317a31379bf913a77b0f17f9eaa06616e52d308a70a8ebac1226707b204", func := "lathe/lathelaw07.BoundsHold", spec := "boundsHold", inPlace := ["math/bits.Add64"], unfollowed := true, recurses := true, apart := false, narrowed := true }
def BoundsHoldUptoSaid : Prop := boundsHoldUptoRow.holds Try.pinned (OpenSpec.upto boundsHoldSpec)

/-- 'lathelaw09.ValueSingles', WHERE WHAT IT READS IS OF BULK AT MOST 1048576: true; the input reads as it did. -/
def valueSinglesUptoRow : OpenClaim := { program := "ytcngfmhhaleoaaa", sum := "5676e317a31379bf913a77b0f17f9eaa06616e52d308a70a8ebac1226707b204", func := "lathe/lathelaw09.ValueSingles", spec := "valueSingles", inPlace := ["math/bits.Add64"], unfollowed := true, recurses := true, apart := false, narrowed := true }
def ValueSinglesUptoSaid : Prop := valueSinglesUptoRow.holds Try.pinned (OpenSpec.upto valueSinglesSpec)

/-- 'lathelaw09.ValueHolds', WHERE WHAT IT READS IS OF BULK AT MOST 1048576: true; the input reads as it did. -/
def valueHoldsUptoRow : OpenClaim := { program := "ytcngfmhhaleoaaa", sum := "5676e317a31379bf913a77b0f17f9eaa06616e52d308a70a8ebac1226707b204", func := "lathe/lathelaw09.ValueHolds", spec := "valueHolds", inPlace := ["math/bits.Add64"], unfollowed := true, recurses := true, apart := false, narrowed := true }
def ValueHoldsUptoSaid : Prop := valueHoldsUptoRow.holds Try.pinned (OpenSpec.upto valueHoldsSpec)

/-- 'lathelaw09.ValueEnds', WHERE WHAT IT READS IS OF BULK AT MOST 1048576: true; the input reads as it did. -/
def valueEndsUptoRow : OpenClaim := { program := "ytcngfmhhaleoaaa", sum := "5676e317a31379bf913a77b0f17f9eaa06616e52d308a70a8ebac1226707b204", func := "lathe/lathelaw09.ValueEnds", spec := "valueEnds", inPlace := ["math/bits.Add64"], unfollowed := true, recurses := true, apart := false, narrowed := true }
def ValueEndsUptoSaid : Prop := valueEndsUptoRow.holds Try.pinned (OpenSpec.upto valueEndsSpec)

/-- 'lathelaw09.ValueGiven', WHERE WHAT IT READS IS OF BULK AT MOST 1048576: true; the input reads as it did. -/
def valueGivenUptoRow : OpenClaim := { program := "ytcngfmhhaleoaaa", sum := "5676e317a31379bf913a77b0f17f9eaa06616e52d308a70a8ebac1226707b204", func := "lathe/lathelaw09.ValueGiven", spec := "valueGiven", inPlace := ["math/bits.Add64"], unfollowed := true, recurses := true, apart := false, narrowed := true }
def ValueGivenUptoSaid : Prop := valueGivenUptoRow.holds Try.pinned (OpenSpec.upto valueGivenSpec)

end Rows
end Go.Proofs.Ytcngfmhhaleoaaa
