/-
  DERIVED. GIVEN WITH THE SEED: THE CARDS: each row of YtcffhjfdlflbgaaGreatDoorRows.lean that lists a variable, with what it lists TIED to the program's text (the seventh form; the later family's looks); each row that meets fmt, with fmt's text TOLD by the authors' own Lean function (tested against real Go, not proved from fmt's source: count such statements apart). THE CARD IS WHAT COUNTS. Prove the row's statement (the work); the ties are given (YtcffhjfdlflbgaaGreatDoorTie.lean); close each card by the builder's one call (the guide's Derived/Test/ToyasCard.lean, 'card_holds'). Laid BY PROGRAM, IN A SANDBOX (cutbox-door.mjs). By AI agents, Wed Nov 11 2026. No macro, syntax, notation, axiom, sorry.
-/
import Derived.Test.YtcffhjfdlflbgaaGreatDoorRows
import GoSem.ClaimSeven
namespace Go.Proofs.YtcffhjfdlflbgaaGreatDoor
namespace Rows

/-- THE TIED CARD OF 'circalaw24.FamiliesOf'. -/
def familiesOfCard : Claim7 := { stood := { row := familiesOfRow, standIns := [], harness := (true, "dbd6a2e904ed9b5ac0abba311b2fa5cd93a7425a8a6e0f1be75f96ffeff868e0"), looks := true }, kinds := [], alts := [], laidByText := true, laidKinds := [.data, .data, .data, .data, .sentinel, .sentinel, .data, .data, .data, .pinned], laidTests := true, laidLooks := .later }
def FamiliesOfCardSaid : Prop := Claim7.holds Tryz.pinned (.plain (OpenSpec.ofChange familiesOfSpec)) familiesOfCard

/-- THE TIED CARD OF 'circalaw24.FamiliesAny'. -/
def familiesAnyCard : Claim7 := { stood := { row := familiesAnyRow, standIns := [], harness := (true, "dbd6a2e904ed9b5ac0abba311b2fa5cd93a7425a8a6e0f1be75f96ffeff868e0"), looks := true }, kinds := [], alts := [], laidByText := true, laidKinds := [.data, .data, .data, .data, .sentinel, .sentinel, .data, .data, .data, .pinned], laidTests := true, laidLooks := .later }
def FamiliesAnyCardSaid : Prop := Claim7.holds Tryz.pinned (.plain (OpenSpec.ofChange familiesAnySpec)) familiesAnyCard

/-- THE TIED CARD OF 'circalaw25.WorldsErrors'. -/
def worldsErrorsCard : Claim7 := { stood := { row := worldsErrorsRow, standIns := [], harness := (true, "dbd6a2e904ed9b5ac0abba311b2fa5cd93a7425a8a6e0f1be75f96ffeff868e0"), looks := true }, kinds := [], alts := [], laidByText := true, laidKinds := [.data, .data, .data, .data, .sentinel, .sentinel, .data, .data, .data, .pinned], laidTests := true, laidLooks := .later }
def WorldsErrorsCardSaid : Prop := Claim7.holds Tryz.pinned (.plain (OpenSpec.ofChange worldsErrorsSpec)) worldsErrorsCard

/-- THE SECOND FORM's CARD OF 'circalaw24.FamiliesOf'. -/
def familiesOfUptoCard : Claim7 := { stood := { row := familiesOfUptoRow, standIns := [], harness := (true, "dbd6a2e904ed9b5ac0abba311b2fa5cd93a7425a8a6e0f1be75f96ffeff868e0"), looks := true }, kinds := [], alts := [], laidByText := true, laidKinds := [.data, .data, .data, .data, .sentinel, .sentinel, .data, .data, .data, .pinned], laidTests := true, laidLooks := .later }
def FamiliesOfUptoCardSaid : Prop := Claim7.holds Tryz.pinned (.plain (OpenSpec.upto familiesOfSpec)) familiesOfUptoCard

/-- THE SECOND FORM's CARD OF 'circalaw24.FamiliesAny'. -/
def familiesAnyUptoCard : Claim7 := { stood := { row := familiesAnyUptoRow, standIns := [], harness := (true, "dbd6a2e904ed9b5ac0abba311b2fa5cd93a7425a8a6e0f1be75f96ffeff868e0"), looks := true }, kinds := [], alts := [], laidByText := true, laidKinds := [.data, .data, .data, .data, .sentinel, .sentinel, .data, .data, .data, .pinned], laidTests := true, laidLooks := .later }
def FamiliesAnyUptoCardSaid : Prop := Claim7.holds Tryz.pinned (.plain (OpenSpec.upto familiesAnySpec)) familiesAnyUptoCard

/-- THE SECOND FORM's CARD OF 'circalaw25.WorldsErrors'. -/
def worldsErrorsUptoCard : Claim7 := { stood := { row := worldsErrorsUptoRow, standIns := [], harness := (true, "dbd6a2e904ed9b5ac0abba311b2fa5cd93a7425a8a6e0f1be75f96ffeff868e0"), looks := true }, kinds := [], alts := [], laidByText := true, laidKinds := [.data, .data, .data, .data, .sentinel, .sentinel, .data, .data, .data, .pinned], laidTests := true, laidLooks := .later }
def WorldsErrorsUptoCardSaid : Prop := Claim7.holds Tryz.pinned (.plain (OpenSpec.upto worldsErrorsSpec)) worldsErrorsUptoCard
end Rows
end Go.Proofs.YtcffhjfdlflbgaaGreatDoor
