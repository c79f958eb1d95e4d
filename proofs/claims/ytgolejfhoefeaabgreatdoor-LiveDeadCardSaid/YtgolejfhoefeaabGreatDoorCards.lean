/-
  DERIVED. GIVEN WITH THE SEED: THE CARDS: each row of YtgolejfhoefeaabGreatDoorRows.lean that lists a variable, with what it lists TIED to the program's text (the seventh form; the later family's looks); each row that meets fmt, with fmt's text TOLD by the authors' own Lean function (tested against real Go, not proved from fmt's source: count such statements apart). THE CARD IS WHAT COUNTS. Prove the row's statement (the work); the ties are given (YtgolejfhoefeaabGreatDoorTie.lean); close each card by the builder's one call (the guide's Derived/Test/ToyasCard.lean, 'card_holds'). Laid BY PROGRAM, IN A SANDBOX (cutbox-door.mjs). By AI agents, Wed Nov 11 2026. No macro, syntax, notation, axiom, sorry.
-/
import Derived.Test.YtgolejfhoefeaabGreatDoorRows
import GoSem.ClaimSeven
namespace Go.Proofs.YtgolejfhoefeaabGreatDoor
namespace Rows

/-- THE TIED CARD OF 'lathelaw19.LiveDead'. -/
def liveDeadCard : Claim7 := { stood := { row := liveDeadRow, standIns := [], harness := (true, "fbbffe81280005f4b159d1ec4bf080093d0a031eee080423235c13b5300bdf7e"), looks := false }, kinds := [], alts := [], laidByText := true, laidKinds := [.data, .data], laidTests := true, laidLooks := .later }
def LiveDeadCardSaid : Prop := Claim7.holds Tryz.pinned (.plain (OpenSpec.ofChange liveDeadSpec)) liveDeadCard

/-- THE SECOND FORM's CARD OF 'lathelaw19.LiveDead'. -/
def liveDeadUptoCard : Claim7 := { stood := { row := liveDeadUptoRow, standIns := [], harness := (true, "fbbffe81280005f4b159d1ec4bf080093d0a031eee080423235c13b5300bdf7e"), looks := false }, kinds := [], alts := [], laidByText := true, laidKinds := [.data, .data], laidTests := true, laidLooks := .later }
def LiveDeadUptoCardSaid : Prop := Claim7.holds Tryz.pinned (.plain (OpenSpec.upto liveDeadSpec)) liveDeadUptoCard
end Rows
end Go.Proofs.YtgolejfhoefeaabGreatDoor
