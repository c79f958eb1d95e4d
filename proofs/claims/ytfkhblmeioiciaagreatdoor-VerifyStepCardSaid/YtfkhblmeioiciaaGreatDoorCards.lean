/-
  DERIVED. GIVEN WITH THE SEED: THE CARDS: each row of YtfkhblmeioiciaaGreatDoorRows.lean that lists a variable, with what it lists TIED to the program's text (the seventh form; the later family's looks); each row that meets fmt, with fmt's text TOLD by the authors' own Lean function (tested against real Go, not proved from fmt's source: count such statements apart). THE CARD IS WHAT COUNTS. Prove the row's statement (the work); the ties are given (YtfkhblmeioiciaaGreatDoorTie.lean); close each card by the builder's one call (the guide's Derived/Test/ToyasCard.lean, 'card_holds'). Laid BY PROGRAM, IN A SANDBOX (cutbox-door.mjs). By AI agents, Wed Nov 11 2026. No macro, syntax, notation, axiom, sorry.
-/
import Derived.Test.YtfkhblmeioiciaaGreatDoorRows
import GoSem.ClaimSeven
namespace Go.Proofs.YtfkhblmeioiciaaGreatDoor
namespace Rows

/-- THE TIED CARD OF 'lathelaw11.VerifyFirst'. -/
def verifyFirstCard : Claim7 := { stood := { row := verifyFirstRow, standIns := [], harness := (true, "24f698d9126eadb508c914b72639642435638ff5b2fa9f9189c76821f860e40e"), looks := false }, kinds := [], alts := [], laidByText := true, laidKinds := [.data, .data], laidTests := true, laidLooks := .later }
def VerifyFirstCardSaid : Prop := Claim7.holds Tryz.pinned (.plain (OpenSpec.ofChange verifyFirstSpec)) verifyFirstCard

/-- THE TIED CARD OF 'lathelaw11.VerifyMore'. -/
def verifyMoreCard : Claim7 := { stood := { row := verifyMoreRow, standIns := [], harness := (true, "24f698d9126eadb508c914b72639642435638ff5b2fa9f9189c76821f860e40e"), looks := false }, kinds := [], alts := [], laidByText := true, laidKinds := [.data, .data], laidTests := true, laidLooks := .later }
def VerifyMoreCardSaid : Prop := Claim7.holds Tryz.pinned (.plain (OpenSpec.ofChange verifyMoreSpec)) verifyMoreCard

/-- THE TIED CARD OF 'lathelaw11.VerifyStep'. -/
def verifyStepCard : Claim7 := { stood := { row := verifyStepRow, standIns := [], harness := (true, "24f698d9126eadb508c914b72639642435638ff5b2fa9f9189c76821f860e40e"), looks := false }, kinds := [], alts := [], laidByText := true, laidKinds := [.data, .data], laidTests := true, laidLooks := .later }
def VerifyStepCardSaid : Prop := Claim7.holds Tryz.pinned (.plain (OpenSpec.ofChange verifyStepSpec)) verifyStepCard

/-- THE TIED CARD OF 'lathelaw11.VerifyNext'. -/
def verifyNextCard : Claim7 := { stood := { row := verifyNextRow, standIns := [], harness := (true, "24f698d9126eadb508c914b72639642435638ff5b2fa9f9189c76821f860e40e"), looks := false }, kinds := [], alts := [], laidByText := true, laidKinds := [.data, .data], laidTests := true, laidLooks := .later }
def VerifyNextCardSaid : Prop := Claim7.holds Tryz.pinned (.plain (OpenSpec.ofChange verifyNextSpec)) verifyNextCard

/-- THE TIED CARD OF 'lathelaw11.VerifySound'. -/
def verifySoundCard : Claim7 := { stood := { row := verifySoundRow, standIns := [], harness := (true, "24f698d9126eadb508c914b72639642435638ff5b2fa9f9189c76821f860e40e"), looks := false }, kinds := [], alts := [], laidByText := true, laidKinds := [.data, .data], laidTests := true, laidLooks := .later }
def VerifySoundCardSaid : Prop := Claim7.holds Tryz.pinned (.plain (OpenSpec.ofChange verifySoundSpec)) verifySoundCard

/-- THE TIED CARD OF 'lathelaw11.VerifyMay'. -/
def verifyMayCard : Claim7 := { stood := { row := verifyMayRow, standIns := [], harness := (true, "24f698d9126eadb508c914b72639642435638ff5b2fa9f9189c76821f860e40e"), looks := false }, kinds := [], alts := [], laidByText := true, laidKinds := [.data, .data], laidTests := true, laidLooks := .later }
def VerifyMayCardSaid : Prop := Claim7.holds Tryz.pinned (.plain (OpenSpec.ofChange verifyMaySpec)) verifyMayCard

/-- THE SECOND FORM's CARD OF 'lathelaw11.VerifyFirst'. -/
def verifyFirstUptoCard : Claim7 := { stood := { row := verifyFirstUptoRow, standIns := [], harness := (true, "24f698d9126eadb508c914b72639642435638ff5b2fa9f9189c76821f860e40e"), looks := false }, kinds := [], alts := [], laidByText := true, laidKinds := [.data, .data], laidTests := true, laidLooks := .later }
def VerifyFirstUptoCardSaid : Prop := Claim7.holds Tryz.pinned (.plain (OpenSpec.upto verifyFirstSpec)) verifyFirstUptoCard

/-- THE SECOND FORM's CARD OF 'lathelaw11.VerifyMore'. -/
def verifyMoreUptoCard : Claim7 := { stood := { row := verifyMoreUptoRow, standIns := [], harness := (true, "24f698d9126eadb508c914b72639642435638ff5b2fa9f9189c76821f860e40e"), looks := false }, kinds := [], alts := [], laidByText := true, laidKinds := [.data, .data], laidTests := true, laidLooks := .later }
def VerifyMoreUptoCardSaid : Prop := Claim7.holds Tryz.pinned (.plain (OpenSpec.upto verifyMoreSpec)) verifyMoreUptoCard

/-- THE SECOND FORM's CARD OF 'lathelaw11.VerifyStep'. -/
def verifyStepUptoCard : Claim7 := { stood := { row := verifyStepUptoRow, standIns := [], harness := (true, "24f698d9126eadb508c914b72639642435638ff5b2fa9f9189c76821f860e40e"), looks := false }, kinds := [], alts := [], laidByText := true, laidKinds := [.data, .data], laidTests := true, laidLooks := .later }
def VerifyStepUptoCardSaid : Prop := Claim7.holds Tryz.pinned (.plain (OpenSpec.upto verifyStepSpec)) verifyStepUptoCard

/-- THE SECOND FORM's CARD OF 'lathelaw11.VerifyNext'. -/
def verifyNextUptoCard : Claim7 := { stood := { row := verifyNextUptoRow, standIns := [], harness := (true, "24f698d9126eadb508c914b72639642435638ff5b2fa9f9189c76821f860e40e"), looks := false }, kinds := [], alts := [], laidByText := true, laidKinds := [.data, .data], laidTests := true, laidLooks := .later }
def VerifyNextUptoCardSaid : Prop := Claim7.holds Tryz.pinned (.plain (OpenSpec.upto verifyNextSpec)) verifyNextUptoCard

/-- THE SECOND FORM's CARD OF 'lathelaw11.VerifySound'. -/
def verifySoundUptoCard : Claim7 := { stood := { row := verifySoundUptoRow, standIns := [], harness := (true, "24f698d9126eadb508c914b72639642435638ff5b2fa9f9189c76821f860e40e"), looks := false }, kinds := [], alts := [], laidByText := true, laidKinds := [.data, .data], laidTests := true, laidLooks := .later }
def VerifySoundUptoCardSaid : Prop := Claim7.holds Tryz.pinned (.plain (OpenSpec.upto verifySoundSpec)) verifySoundUptoCard

/-- THE SECOND FORM's CARD OF 'lathelaw11.VerifyMay'. -/
def verifyMayUptoCard : Claim7 := { stood := { row := verifyMayUptoRow, standIns := [], harness := (true, "24f698d9126eadb508c914b72639642435638ff5b2fa9f9189c76821f860e40e"), looks := false }, kinds := [], alts := [], laidByText := true, laidKinds := [.data, .data], laidTests := true, laidLooks := .later }
def VerifyMayUptoCardSaid : Prop := Claim7.holds Tryz.pinned (.plain (OpenSpec.upto verifyMaySpec)) verifyMayUptoCard
end Rows
end Go.Proofs.YtfkhblmeioiciaaGreatDoor
