/-
  No cell of these rows narrows 'for every input' (looked for: loops, veiled, ifaces, maps, wideKeys, modest, calm, conditions, laid).
  DERIVED. THE GIVEN ROWS OF THIS SEAT. 12 by the template 'for every input the law returns true; each argument reads behind the call as it read before'; 0 by the template 'total and deterministic' (their statements: YteheidiiigjglaaTotals.lean).
  GIVEN WITH THE SEED: the statements are not yours to turn. If you find one false, say at which input.
  Laid BY PROGRAM, IN A SANDBOX (cutbox-rows.mjs): the forced cells as the released guide's own fill.sh prints them over the translation 84e6d8042abb6c16… (all of the seat's roots in one cut). By AI agents, Wed Nov 11 2026. No macro, syntax, notation, axiom, sorry.
-/
import Derived.Test.YteheidiiigjglaaChecked
import GoSem.Claim
import GoSem.ClaimJoined
import GoSem.ClaimMapViews
import Derived.JoinedTies
import Derived.KernelRfl
namespace Go.Proofs.Yteheidiiigjglaa
/- THE CELL 'sum', in the pinned program and in every row, IS THE sha256 OF THE DUMP (.gsa) THAT YteheidiiigjglaaProg.lean LOADS. Nothing in Lean hashes anything: it is a label: what it is worth is what the hold of that sum in a sandbox is worth. -/
noncomputable def Try.pinned : Pinned := { name := "yteheidiiigjglaa", sum := "84e6d8042abb6c1691fa7bffa212704404440fec24b79ca9d9f3dc50ae1d5190", checked := Try.checked }
namespace Rows
def none {H : Type} : Left H := { results := [], args := [] }

/-- 'lathelaw05.TraceOrder': WHATEVER THE INPUT: true; the input reads as it did. -/
def traceOrderSpec : ChangeSpec := { name := "traceOrder", fn := fun _ => fun
  | [d1, d2, d3] => { results := [.lit (.bool true)], args := [d1, d2, d3] }
  | _ => none }
def traceOrderRow : OpenClaim := { program := "yteheidiiigjglaa", sum := "84e6d8042abb6c1691fa7bffa212704404440fec24b79ca9d9f3dc50ae1d5190", func := "lathe/lathelaw05.TraceOrder", spec := "traceOrder", unfollowed := true, recurses := true, apart := false }
def TraceOrderSaid : Prop := traceOrderRow.holds Try.pinned (OpenSpec.ofChange traceOrderSpec)

/-- ITS FALSE NEIGHBOUR: 'it returns false'. Refute it at one input. -/
def traceOrderWrong : ChangeSpec := { name := "traceOrder", fn := fun _ => fun
  | [d1, d2, d3] => { results := [.lit (.bool false)], args := [d1, d2, d3] }
  | _ => none }
def TraceOrderWrongFalsely : Prop := traceOrderRow.holds Try.pinned (OpenSpec.ofChange traceOrderWrong)

/-- 'lathelaw05.TraceFuel': WHATEVER THE INPUT: true; the input reads as it did. -/
def traceFuelSpec : ChangeSpec := { name := "traceFuel", fn := fun _ => fun
  | [d1, d2] => { results := [.lit (.bool true)], args := [d1, d2] }
  | _ => none }
def traceFuelRow : OpenClaim := { program := "yteheidiiigjglaa", sum := "84e6d8042abb6c1691fa7bffa212704404440fec24b79ca9d9f3dc50ae1d5190", func := "lathe/lathelaw05.TraceFuel", spec := "traceFuel", unfollowed := true, recurses := true, apart := false }
def TraceFuelSaid : Prop := traceFuelRow.holds Try.pinned (OpenSpec.ofChange traceFuelSpec)

/-- ITS FALSE NEIGHBOUR: 'it returns false'. Refute it at one input. -/
def traceFuelWrong : ChangeSpec := { name := "traceFuel", fn := fun _ => fun
  | [d1, d2] => { results := [.lit (.bool false)], args := [d1, d2] }
  | _ => none }
def TraceFuelWrongFalsely : Prop := traceFuelRow.holds Try.pinned (OpenSpec.ofChange traceFuelWrong)

/-- 'lathelaw05.TraceChain': WHATEVER THE INPUT: true; the input reads as it did. -/
def traceChainSpec : ChangeSpec := { name := "traceChain", fn := fun _ => fun
  | [d1, d2, d3] => { results := [.lit (.bool true)], args := [d1, d2, d3] }
  | _ => none }
def traceChainRow : OpenClaim := { program := "yteheidiiigjglaa", sum := "84e6d8042abb6c1691fa7bffa212704404440fec24b79ca9d9f3dc50ae1d5190", func := "lathe/lathelaw05.TraceChain", spec := "traceChain", unfollowed := true, recurses := true, apart := false }
def TraceChainSaid : Prop := traceChainRow.holds Try.pinned (OpenSpec.ofChange traceChainSpec)

/-- ITS FALSE NEIGHBOUR: 'it returns false'. Refute it at one input. -/
def traceChainWrong : ChangeSpec := { name := "traceChain", fn := fun _ => fun
  | [d1, d2, d3] => { results := [.lit (.bool false)], args := [d1, d2, d3] }
  | _ => none }
def TraceChainWrongFalsely : Prop := traceChainRow.holds Try.pinned (OpenSpec.ofChange traceChainWrong)

/-- 'lathelaw05.TraceLike': WHATEVER THE INPUT: true; the input reads as it did. -/
def traceLikeSpec : ChangeSpec := { name := "traceLike", fn := fun _ => fun
  | [d1, d2, d3, d4] => { results := [.lit (.bool true)], args := [d1, d2, d3, d4] }
  | _ => none }
def traceLikeRow : OpenClaim := { program := "yteheidiiigjglaa", sum := "84e6d8042abb6c1691fa7bffa212704404440fec24b79ca9d9f3dc50ae1d5190", func := "lathe/lathelaw05.TraceLike", spec := "traceLike", unfollowed := true, recurses := true, apart := false }
def TraceLikeSaid : Prop := traceLikeRow.holds Try.pinned (OpenSpec.ofChange traceLikeSpec)

/-- ITS FALSE NEIGHBOUR: 'it returns false'. Refute it at one input. -/
def traceLikeWrong : ChangeSpec := { name := "traceLike", fn := fun _ => fun
  | [d1, d2, d3, d4] => { results := [.lit (.bool false)], args := [d1, d2, d3, d4] }
  | _ => none }
def TraceLikeWrongFalsely : Prop := traceLikeRow.holds Try.pinned (OpenSpec.ofChange traceLikeWrong)

/-- 'lathelaw05.TraceTells': WHATEVER THE INPUT: true; the input reads as it did. -/
def traceTellsSpec : ChangeSpec := { name := "traceTells", fn := fun _ => fun
  | [d1, d2, d3, d4] => { results := [.lit (.bool true)], args := [d1, d2, d3, d4] }
  | _ => none }
def traceTellsRow : OpenClaim := { program := "yteheidiiigjglaa", sum := "84e6d8042abb6c1691fa7bffa212704404440fec24b79ca9d9f3dc50ae1d5190", func := "lathe/lathelaw05.TraceTells", spec := "traceTells", unfollowed := true, recurses := true, apart := false }
def TraceTellsSaid : Prop := traceTellsRow.holds Try.pinned (OpenSpec.ofChange traceTellsSpec)

/-- ITS FALSE NEIGHBOUR: 'it returns false'. Refute it at one input. -/
def traceTellsWrong : ChangeSpec := { name := "traceTells", fn := fun _ => fun
  | [d1, d2, d3, d4] => { results := [.lit (.bool false)], args := [d1, d2, d3, d4] }
  | _ => none }
def TraceTellsWrongFalsely : Prop := traceTellsRow.holds Try.pinned (OpenSpec.ofChange traceTellsWrong)

/-- 'lathelaw01.BitsUndo': WHATEVER THE INPUT: true; the input reads as it did. -/
def bitsUndoSpec : ChangeSpec := { name := "bitsUndo", fn := fun _ => fun
  | [d1, d2, d3] => { results := [.lit (.bool true)], args := [d1, d2, d3] }
  | _ => none }
def bitsUndoRow : OpenClaim := { program := "yteheidiiigjglaa", sum := "84e6d8042abb6c1691fa7bffa212704404440fec24b79ca9d9f3dc50ae1d5190", func := "lathe/lathelaw01.BitsUndo", spec := "bitsUndo", unfollowed := true, recurses := true, apart := false }
def BitsUndoSaid : Prop := bitsUndoRow.holds Try.pinned (OpenSpec.ofChange bitsUndoSpec)

/-- ITS FALSE NEIGHBOUR: 'it returns false'. Refute it at one input. -/
def bitsUndoWrong : ChangeSpec := { name := "bitsUndo", fn := fun _ => fun
  | [d1, d2, d3] => { results := [.lit (.bool false)], args := [d1, d2, d3] }
  | _ => none }
def BitsUndoWrongFalsely : Prop := bitsUndoRow.holds Try.pinned (OpenSpec.ofChange bitsUndoWrong)

/-- 'lathelaw01.BitsParts': WHATEVER THE INPUT: true; the input reads as it did. -/
def bitsPartsSpec : ChangeSpec := { name := "bitsParts", fn := fun _ => fun
  | [d1, d2, d3, d4] => { results := [.lit (.bool true)], args := [d1, d2, d3, d4] }
  | _ => none }
def bitsPartsRow : OpenClaim := { program := "yteheidiiigjglaa", sum := "84e6d8042abb6c1691fa7bffa212704404440fec24b79ca9d9f3dc50ae1d5190", func := "lathe/lathelaw01.BitsParts", spec := "bitsParts", unfollowed := true, recurses := true, apart := false }
def BitsPartsSaid : Prop := bitsPartsRow.holds Try.pinned (OpenSpec.ofChange bitsPartsSpec)

/-- ITS FALSE NEIGHBOUR: 'it returns false'. Refute it at one input. -/
def bitsPartsWrong : ChangeSpec := { name := "bitsParts", fn := fun _ => fun
  | [d1, d2, d3, d4] => { results := [.lit (.bool false)], args := [d1, d2, d3, d4] }
  | _ => none }
def BitsPartsWrongFalsely : Prop := bitsPartsRow.holds Try.pinned (OpenSpec.ofChange bitsPartsWrong)

/-- 'lathelaw01.BitsLow': WHATEVER THE INPUT: true; the input reads as it did. -/
def bitsLowSpec : ChangeSpec := { name := "bitsLow", fn := fun _ => fun
  | [d1, d2] => { results := [.lit (.bool true)], args := [d1, d2] }
  | _ => none }
def bitsLowRow : OpenClaim := { program := "yteheidiiigjglaa", sum := "84e6d8042abb6c1691fa7bffa212704404440fec24b79ca9d9f3dc50ae1d5190", func := "lathe/lathelaw01.BitsLow", spec := "bitsLow", unfollowed := true, recurses := true, apart := false }
def BitsLowSaid : Prop := bitsLowRow.holds Try.pinned (OpenSpec.ofChange bitsLowSpec)

/-- ITS FALSE NEIGHBOUR: 'it returns false'. Refute it at one input. -/
def bitsLowWrong : ChangeSpec := { name := "bitsLow", fn := fun _ => fun
  | [d1, d2] => { results := [.lit (.bool false)], args := [d1, d2] }
  | _ => none }
def BitsLowWrongFalsely : Prop := bitsLowRow.holds Try.pinned (OpenSpec.ofChange bitsLowWrong)

/-- 'lathelaw01.BitsBytes': WHATEVER THE INPUT: true; the input reads as it did. -/
def bitsBytesSpec : ChangeSpec := { name := "bitsBytes", fn := fun _ => fun
  | [d1, d2, d3] => { results := [.lit (.bool true)], args := [d1, d2, d3] }
  | _ => none }
def bitsBytesRow : OpenClaim := { program := "yteheidiiigjglaa", sum := "84e6d8042abb6c1691fa7bffa212704404440fec24b79ca9d9f3dc50ae1d5190", func := "lathe/lathelaw01.BitsBytes", spec := "bitsBytes", unfollowed := true, recurses := true, apart := false }
def BitsBytesSaid : Prop := bitsBytesRow.holds Try.pinned (OpenSpec.ofChange bitsBytesSpec)

/-- ITS FALSE NEIGHBOUR: 'it returns false'. Refute it at one input. -/
def bitsBytesWrong : ChangeSpec := { name := "bitsBytes", fn := fun _ => fun
  | [d1, d2, d3] => { results := [.lit (.bool false)], args := [d1, d2, d3] }
  | _ => none }
def BitsBytesWrongFalsely : Prop := bitsBytesRow.holds Try.pinned (OpenSpec.ofChange bitsBytesWrong)

/-- 'lathelaw01.BitsNot': WHATEVER THE INPUT: true; the input reads as it did. -/
def bitsNotSpec : ChangeSpec := { name := "bitsNot", fn := fun _ => fun
  | [d1, d2, d3, d4] => { results := [.lit (.bool true)], args := [d1, d2, d3, d4] }
  | _ => none }
def bitsNotRow : OpenClaim := { program := "yteheidiiigjglaa", sum := "84e6d8042abb6c1691fa7bffa212704404440fec24b79ca9d9f3dc50ae1d5190", func := "lathe/lathelaw01.BitsNot", spec := "bitsNot", unfollowed := true, recurses := true, apart := false }
def BitsNotSaid : Prop := bitsNotRow.holds Try.pinned (OpenSpec.ofChange bitsNotSpec)

/-- ITS FALSE NEIGHBOUR: 'it returns false'. Refute it at one input. -/
def bitsNotWrong : ChangeSpec := { name := "bitsNot", fn := fun _ => fun
  | [d1, d2, d3, d4] => { results := [.lit (.bool false)], args := [d1, d2, d3, d4] }
  | _ => none }
def BitsNotWrongFalsely : Prop := bitsNotRow.holds Try.pinned (OpenSpec.ofChange bitsNotWrong)

/-- 'lathelaw01.BitsSigned': WHATEVER THE INPUT: true; the input reads as it did. -/
def bitsSignedSpec : ChangeSpec := { name := "bitsSigned", fn := fun _ => fun
  | [d1, d2, d3] => { results := [.lit (.bool true)], args := [d1, d2, d3] }
  | _ => none }
def bitsSignedRow : OpenClaim := { program := "yteheidiiigjglaa", sum := "84e6d8042abb6c1691fa7bffa212704404440fec24b79ca9d9f3dc50ae1d5190", func := "lathe/lathelaw01.BitsSigned", spec := "bitsSigned", unfollowed := true, recurses := true, apart := false }
def BitsSignedSaid : Prop := bitsSignedRow.holds Try.pinned (OpenSpec.ofChange bitsSignedSpec)

/-- ITS FALSE NEIGHBOUR: 'it returns false'. Refute it at one input. -/
def bitsSignedWrong : ChangeSpec := { name := "bitsSigned", fn := fun _ => fun
  | [d1, d2, d3] => { results := [.lit (.bool false)], args := [d1, d2, d3] }
  | _ => none }
def BitsSignedWrongFalsely : Prop := bitsSignedRow.holds Try.pinned (OpenSpec.ofChange bitsSignedWrong)

/-- 'lathelaw01.BitsTells': WHATEVER THE INPUT: true; the input reads as it did. -/
def bitsTellsSpec : ChangeSpec := { name := "bitsTells", fn := fun _ => fun
  | [d1, d2, d3, d4, d5] => { results := [.lit (.bool true)], args := [d1, d2, d3, d4, d5] }
  | _ => none }
def bitsTellsRow : OpenClaim := { program := "yteheidiiigjglaa", sum := "84e6d8042abb6c1691fa7bffa212704404440fec24b79ca9d9f3dc50ae1d5190", func := "lathe/lathelaw01.BitsTells", spec := "bitsTells", unfollowed := true, recurses := true, apart := false }
def BitsTellsSaid : Prop := bitsTellsRow.holds Try.pinned (OpenSpec.ofChange bitsTellsSpec)

/-- ITS FALSE NEIGHBOUR: 'it returns false'. Refute it at one input. -/
def bitsTellsWrong : ChangeSpec := { name := "bitsTells", fn := fun _ => fun
  | [d1, d2, d3, d4, d5] => { results := [.lit (.bool false)], args := [d1, d2, d3, d4, d5] }
  | _ => none }
def BitsTellsWrongFalsely : Prop := bitsTellsRow.holds Try.pinned (OpenSpec.ofChange bitsTellsWrong)

/- THE SECOND FORM. 'bulk': how many values and letters a reading holds, each counted each time it is reached (what is shared counts as often as it is met; a slice's spare places count too). A statement '..UptoSaid' is the law's where the arguments, and the package variables that the reading takes, are together of bulk at most 1048576: NARROWER than '..Said'. Prove '..Said' where nothing that the law and all that it calls make is longer than what came in: it says more and counts as full. Else prove '..UptoSaid'. A law counts once. -/
mutual
def uptoBulk {H : Type} : DataW H → Nat
  | .lit (.string bytes) => bytes.length + 1
  | .lit _ => 1
  | .nil => 1
  | .ptr d => uptoBulk d + 1
  | .slice elems spare => uptoBulkAll elems + uptoBulkAll spare + 1
  | .agg parts => uptoBulkAll parts + 1
  | .iface _ d => uptoBulk d + 1
  | .map entries => uptoBulkEntries entries + 1
  | .held _ => 1
def uptoBulkAll {H : Type} : List (DataW H) → Nat
  | [] => 0
  | d :: r => uptoBulk d + uptoBulkAll r
def uptoBulkEntries {H : Type} : List (Lit × DataW H) → Nat
  | [] => 0
  | x :: r => uptoBulkEntry x + uptoBulkEntries r
def uptoBulkEntry {H : Type} : Lit × DataW H → Nat
  | (.string bytes, d) => bytes.length + uptoBulk d + 1
  | (_, d) => uptoBulk d + 1
 end
def uptoSmall : (H : Type) → List (DataW H) → Bool := fun _ ds => decide (uptoBulkAll ds ≤ 1048576)
def OpenSpec.upto (s : _root_.Go.ChangeSpec) : _root_.Go.OpenSpec := { _root_.Go.OpenSpec.ofChange s with cond := some uptoSmall }

/-- 'lathelaw05.TraceOrder', WHERE WHAT IT READS IS OF BULK AT MOST 1048576: true; the input reads as it did. -/
def traceOrderUptoRow : OpenClaim := { program := "yteheidiiigjglaa", sum := "84e6d8042abb6c1691fa7bffa212704404440fec24b79ca9d9f3dc50ae1d5190", func := "lathe/lathelaw05.TraceOrder", spec := "traceOrder", unfollowed := true, recurses := true, apart := false, narrowed := true }
def TraceOrderUptoSaid : Prop := traceOrderUptoRow.holds Try.pinned (OpenSpec.upto traceOrderSpec)

/-- 'lathelaw05.TraceFuel', WHERE WHAT IT READS IS OF BULK AT MOST 1048576: true; the input reads as it did. -/
def traceFuelUptoRow : OpenClaim := { program := "yteheidiiigjglaa", sum := "84e6d8042abb6c1691fa7bffa212704404440fec24b79ca9d9f3dc50ae1d5190", func := "lathe/lathelaw05.TraceFuel", spec := "traceFuel", unfollowed := true, recurses := true, apart := false, narrowed := true }
def TraceFuelUptoSaid : Prop := traceFuelUptoRow.holds Try.pinned (OpenSpec.upto traceFuelSpec)

/-- 'lathelaw05.TraceChain', WHERE WHAT IT READS IS OF BULK AT MOST 1048576: true; the input reads as it did. -/
def traceChainUptoRow : OpenClaim := { program := "yteheidiiigjglaa", sum := "84e6d8042abb6c1691fa7bffa212704404440fec24b79ca9d9f3dc50ae1d5190", func := "lathe/lathelaw05.TraceChain", spec := "traceChain", unfollowed := true, recurses := true, apart := false, narrowed := true }
def TraceChainUptoSaid : Prop := traceChainUptoRow.holds Try.pinned (OpenSpec.upto traceChainSpec)

/-- 'lathelaw05.TraceLike', WHERE WHAT IT READS IS OF BULK AT MOST 1048576: true; the input reads as it did. -/
def traceLikeUptoRow : OpenClaim := { program := "yteheidiiigjglaa", sum := "84e6d8042abb6c1691fa7bffa212704404440fec24b79ca9d9f3dc50ae1d5190", func := "lathe/lathelaw05.TraceLike", spec := "traceLike", unfollowed := true, recurses := true, apart := false, narrowed := true }
def TraceLikeUptoSaid : Prop := traceLikeUptoRow.holds Try.pinned (OpenSpec.upto traceLikeSpec)

/-- 'lathelaw05.TraceTells', WHERE WHAT IT READS IS OF BULK AT MOST 1048576: true; the input reads as it did. -/
def traceTellsUptoRow : OpenClaim := { program := "yteheidiiigjglaa", sum := "84e6d8042abb6c1691fa7bffa212704404440fec24b79ca9d9f3dc50ae1d5190", func := "lathe/lathelaw05.TraceTells", spec := "traceTells", unfollowed := true, recurses := true, apart := false, narrowed := true }
def TraceTellsUptoSaid : Prop := traceTellsUptoRow.holds Try.pinned (OpenSpec.upto traceTellsSpec)

/-- 'lathelaw01.BitsUndo', WHERE WHAT IT READS IS OF BULK AT MOST 1048576: true; the input reads as it did. -/
def bitsUndoUptoRow : OpenClaim := { program := "yteheidiiigjglaa", sum := "84e6d8042abb6c1691fa7bffa212704404440fec24b79ca9d9f3dc50ae1d5190", func := "lathe/lathelaw01.BitsUndo", spec := "bitsUndo", unfollowed := true, recurses := true, apart := false, narrowed := true }
def BitsUndoUptoSaid : Prop := bitsUndoUptoRow.holds Try.pinned (OpenSpec.upto bitsUndoSpec)

/-- 'lathelaw01.BitsParts', WHERE WHAT IT READS IS OF BULK AT MOST 1048576: true; the input reads as it did. -/
def bitsPartsUptoRow : OpenClaim := { program := "yteheidiiigjglaa", sum := "84e6d8042abb6c1691fa7bffa212704404440fec24b79ca9d9f3dc50ae1d5190", func := "lathe/lathelaw01.BitsParts", spec := "bitsParts", unfollowed := true, recurses := true, apart := false, narrowed := true }
def BitsPartsUptoSaid : Prop := bitsPartsUptoRow.holds Try.pinned (OpenSpec.upto bitsPartsSpec)

/-- 'lathelaw01.BitsLow', WHERE WHAT IT READS IS OF BULK AT MOST 1048576: true; the input reads as it did. -/
def bitsLowUptoRow : OpenClaim := { program := "yteheidiiigjglaa", sum := "84e6d8042abb6c1691fa7bffa212704404440fec24b79ca9d9f3dc50ae1d5190", func := "lathe/lathelaw01.BitsLow", spec := "bitsLow", unfollowed := true, recurses := true, apart := false, narrowed := true }
def BitsLowUptoSaid : Prop := bitsLowUptoRow.holds Try.pinned (OpenSpec.upto bitsLowSpec)

/-- 'lathelaw01.BitsBytes', WHERE WHAT IT READS IS OF BULK AT MOST 1048576: true; the input reads as it did. -/
def bitsBytesUptoRow : OpenClaim := { program := "yteheidiiigjglaa", sum := "84e6d8042abb6c1691fa7bffa212704404440fec24b79ca9d9f3dc50ae1d5190", func := "lathe/lathelaw01.BitsBytes", spec := "bitsBytes", unfollowed := true, recurses := true, apart := false, narrowed := true }
def BitsBytesUptoSaid : Prop := bitsBytesUptoRow.holds Try.pinned (OpenSpec.upto bitsBytesSpec)

/-- 'lathelaw01.BitsNot', WHERE WHAT IT READS IS OF BULK AT MOST 1048576: true; the input reads as it did. -/
def bitsNotUptoRow : OpenClaim := { program := "yteheidiiigjglaa", sum := "84e6d8042abb6c1691fa7bffa212704404440fec24b79ca9d9f3dc50ae1d5190", func := "lathe/lathelaw01.BitsNot", spec := "bitsNot", unfollowed := true, recurses := true, apart := false, narrowed := true }
def BitsNotUptoSaid : Prop := bitsNotUptoRow.holds Try.pinned (OpenSpec.upto bitsNotSpec)

/-- 'lathelaw01.BitsSigned', WHERE WHAT IT READS IS OF BULK AT MOST 1048576: true; the input reads as it did. -/
def bitsSignedUptoRow : OpenClaim := { program := "yteheidiiigjglaa", sum := "84e6d8042abb6c1691fa7bffa212704404440fec24b79ca9d9f3dc50ae1d5190", func := "lathe/lathelaw01.BitsSigned", spec := "bitsSigned", unfollowed := true, recurses := true, apart := false, narrowed := true }
def BitsSignedUptoSaid : Prop := bitsSignedUptoRow.holds Try.pinned (OpenSpec.upto bitsSignedSpec)

/-- 'lathelaw01.BitsTells', WHERE WHAT IT READS IS OF BULK AT MOST 1048576: true; the input reads as it did. -/
def bitsTellsUptoRow : OpenClaim := { program := "yteheidiiigjglaa", sum := "84e6d8042abb6c1691fa7bffa212704404440fec24b79ca9d9f3dc50ae1d5190", func := "lathe/lathelaw01.BitsTells", spec := "bitsTells", unfollowed := true, recurses := true, apart := false, narrowed := true }
def BitsTellsUptoSaid : Prop := bitsTellsUptoRow.holds Try.pinned (OpenSpec.upto bitsTellsSpec)

end Rows
end Go.Proofs.Yteheidiiigjglaa
