/-
  DERIVED. GIVEN WITH THE SEED: THE CARDS: each row of YtafekjglclnegaaGreatDoorRows.lean that lists a variable, with what it lists TIED to the program's text (the seventh form; the later family's looks); each row that meets fmt, with fmt's text TOLD by the authors' own Lean function (tested against real Go, not proved from fmt's source: count such statements apart). THE CARD IS WHAT COUNTS. Prove the row's statement (the work); the ties are given (YtafekjglclnegaaGreatDoorTie.lean); close each card by the builder's one call (the guide's Derived/Test/ToyasCard.lean, 'card_holds'). Laid BY PROGRAM, IN A SANDBOX (cutbox-door.mjs). By AI agents, Wed Nov 11 2026. No macro, syntax, notation, axiom, sorry.
-/
import Derived.Test.YtafekjglclnegaaGreatDoorRows
import GoSem.ClaimSeven
namespace Go.Proofs.YtafekjglclnegaaGreatDoor
namespace Rows

/-- THE TIED CARD OF 'circalaw27.ExtentsKnown'. -/
def extentsKnownCard : Claim7 := { stood := { row := extentsKnownRow, standIns := [], harness := (true, "0297b2bff57108ee6d2bd1d4110fa2b1d9b424861de75274c05f4c84374111a5"), looks := true }, kinds := [], alts := [], laidByText := true, laidKinds := [.data, .data, .data, .data, .sentinel, .sentinel, .data, .data, .data, .pinned], laidTests := true, laidLooks := .later }
def ExtentsKnownCardSaid : Prop := Claim7.holds Tryz.pinned (.plain (OpenSpec.ofChange extentsKnownSpec)) extentsKnownCard

/-- THE TIED CARD OF 'circalaw24.FamiliesOf'. -/
def familiesOfCard : Claim7 := { stood := { row := familiesOfRow, standIns := [], harness := (true, "0297b2bff57108ee6d2bd1d4110fa2b1d9b424861de75274c05f4c84374111a5"), looks := true }, kinds := [], alts := [], laidByText := true, laidKinds := [.data, .data, .data, .data, .sentinel, .sentinel, .data, .data, .data, .pinned], laidTests := true, laidLooks := .later }
def FamiliesOfCardSaid : Prop := Claim7.holds Tryz.pinned (.plain (OpenSpec.ofChange familiesOfSpec)) familiesOfCard

/-- THE TIED CARD OF 'circalaw24.FamiliesAny'. -/
def familiesAnyCard : Claim7 := { stood := { row := familiesAnyRow, standIns := [], harness := (true, "0297b2bff57108ee6d2bd1d4110fa2b1d9b424861de75274c05f4c84374111a5"), looks := true }, kinds := [], alts := [], laidByText := true, laidKinds := [.data, .data, .data, .data, .sentinel, .sentinel, .data, .data, .data, .pinned], laidTests := true, laidLooks := .later }
def FamiliesAnyCardSaid : Prop := Claim7.holds Tryz.pinned (.plain (OpenSpec.ofChange familiesAnySpec)) familiesAnyCard

/-- THE TIED CARD OF 'circalaw24.FamiliesCheck'. -/
def familiesCheckCard : Claim7 := { stood := { row := familiesCheckRow, standIns := [], harness := (true, "0297b2bff57108ee6d2bd1d4110fa2b1d9b424861de75274c05f4c84374111a5"), looks := true }, kinds := [], alts := [], laidByText := true, laidKinds := [.data, .data, .data, .data, .sentinel, .sentinel, .data, .data, .data, .pinned], laidTests := true, laidLooks := .later }
def FamiliesCheckCardSaid : Prop := Claim7.holds Tryz.pinned (.plain (OpenSpec.ofChange familiesCheckSpec)) familiesCheckCard

/-- THE TIED CARD OF 'circalaw24.FamiliesDate'. -/
def familiesDateCard : Claim7 := { stood := { row := familiesDateRow, standIns := [], harness := (true, "0297b2bff57108ee6d2bd1d4110fa2b1d9b424861de75274c05f4c84374111a5"), looks := true }, kinds := [], alts := [], laidByText := true, laidKinds := [.data, .data, .data, .data, .sentinel, .sentinel, .data, .data, .data, .pinned], laidTests := true, laidLooks := .later }
def FamiliesDateCardSaid : Prop := Claim7.holds Tryz.pinned (.plain (OpenSpec.ofChange familiesDateSpec)) familiesDateCard

/-- THE TIED CARD OF 'circalaw24.FamiliesCopy'. -/
def familiesCopyCard : Claim7 := { stood := { row := familiesCopyRow, standIns := [], harness := (true, "0297b2bff57108ee6d2bd1d4110fa2b1d9b424861de75274c05f4c84374111a5"), looks := true }, kinds := [], alts := [], laidByText := true, laidKinds := [.data, .data, .data, .data, .sentinel, .sentinel, .data, .data, .data, .pinned], laidTests := true, laidLooks := .later }
def FamiliesCopyCardSaid : Prop := Claim7.holds Tryz.pinned (.plain (OpenSpec.ofChange familiesCopySpec)) familiesCopyCard

/-- THE SECOND FORM's CARD OF 'circalaw27.ExtentsKnown'. -/
def extentsKnownUptoCard : Claim7 := { stood := { row := extentsKnownUptoRow, standIns := [], harness := (true, "0297b2bff57108ee6d2bd1d4110fa2b1d9b424861de75274c05f4c84374111a5"), looks := true }, kinds := [], alts := [], laidByText := true, laidKinds := [.data, .data, .data, .data, .sentinel, .sentinel, .data, .data, .data, .pinned], laidTests := true, laidLooks := .later }
def ExtentsKnownUptoCardSaid : Prop := Claim7.holds Tryz.pinned (.plain (OpenSpec.upto extentsKnownSpec)) extentsKnownUptoCard

/-- THE SECOND FORM's CARD OF 'circalaw24.FamiliesOf'. -/
def familiesOfUptoCard : Claim7 := { stood := { row := familiesOfUptoRow, standIns := [], harness := (true, "0297b2bff57108ee6d2bd1d4110fa2b1d9b424861de75274c05f4c84374111a5"), looks := true }, kinds := [], alts := [], laidByText := true, laidKinds := [.data, .data, .data, .data, .sentinel, .sentinel, .data, .data, .data, .pinned], laidTests := true, laidLooks := .later }
def FamiliesOfUptoCardSaid : Prop := Claim7.holds Tryz.pinned (.plain (OpenSpec.upto familiesOfSpec)) familiesOfUptoCard

/-- THE SECOND FORM's CARD OF 'circalaw24.FamiliesAny'. -/
def familiesAnyUptoCard : Claim7 := { stood := { row := familiesAnyUptoRow, standIns := [], harness := (true, "0297b2bff57108ee6d2bd1d4110fa2b1d9b424861de75274c05f4c84374111a5"), looks := true }, kinds := [], alts := [], laidByText := true, laidKinds := [.data, .data, .data, .data, .sentinel, .sentinel, .data, .data, .data, .pinned], laidTests := true, laidLooks := .later }
def FamiliesAnyUptoCardSaid : Prop := Claim7.holds Tryz.pinned (.plain (OpenSpec.upto familiesAnySpec)) familiesAnyUptoCard

/-- THE SECOND FORM's CARD OF 'circalaw24.FamiliesCheck'. -/
def familiesCheckUptoCard : Claim7 := { stood := { row := familiesCheckUptoRow, standIns := [], harness := (true, "0297b2bff57108ee6d2bd1d4110fa2b1d9b424861de75274c05f4c84374111a5"), looks := true }, kinds := [], alts := [], laidByText := true, laidKinds := [.data, .data, .data, .data, .sentinel, .sentinel, .data, .data, .data, .pinned], laidTests := true, laidLooks := .later }
def FamiliesCheckUptoCardSaid : Prop := Claim7.holds Tryz.pinned (.plain (OpenSpec.upto familiesCheckSpec)) familiesCheckUptoCard

/-- THE SECOND FORM's CARD OF 'circalaw24.FamiliesDate'. -/
def familiesDateUptoCard : Claim7 := { stood := { row := familiesDateUptoRow, standIns := [], harness := (true, "0297b2bff57108ee6d2bd1d4110fa2b1d9b424861de75274c05f4c84374111a5"), looks := true }, kinds := [], alts := [], laidByText := true, laidKinds := [.data, .data, .data, .data, .sentinel, .sentinel, .data, .data, .data, .pinned], laidTests := true, laidLooks := .later }
def FamiliesDateUptoCardSaid : Prop := Claim7.holds Tryz.pinned (.plain (OpenSpec.upto familiesDateSpec)) familiesDateUptoCard

/-- THE SECOND FORM's CARD OF 'circalaw24.FamiliesCopy'. -/
def familiesCopyUptoCard : Claim7 := { stood := { row := familiesCopyUptoRow, standIns := [], harness := (true, "0297b2bff57108ee6d2bd1d4110fa2b1d9b424861de75274c05f4c84374111a5"), looks := true }, kinds := [], alts := [], laidByText := true, laidKinds := [.data, .data, .data, .data, .sentinel, .sentinel, .data, .data, .data, .pinned], laidTests := true, laidLooks := .later }
def FamiliesCopyUptoCardSaid : Prop := Claim7.holds Tryz.pinned (.plain (OpenSpec.upto familiesCopySpec)) familiesCopyUptoCard
end Rows
end Go.Proofs.YtafekjglclnegaaGreatDoor
