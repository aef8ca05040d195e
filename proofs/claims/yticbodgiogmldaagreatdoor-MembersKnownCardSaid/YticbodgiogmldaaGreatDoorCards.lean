/-
  DERIVED. GIVEN WITH THE SEED: THE CARDS: each row of YticbodgiogmldaaGreatDoorRows.lean that lists a variable, with what it lists TIED to the program's text (the seventh form; the later family's looks); each row that meets fmt, with fmt's text TOLD by the authors' own Lean function (tested against real Go, not proved from fmt's source: count such statements apart). THE CARD IS WHAT COUNTS. Prove the row's statement (the work); the ties are given (YticbodgiogmldaaGreatDoorTie.lean); close each card by the builder's one call (the guide's Derived/Test/ToyasCard.lean, 'card_holds'). Laid BY PROGRAM, IN A SANDBOX (cutbox-door.mjs). By AI agents, Wed Nov 11 2026. No macro, syntax, notation, axiom, sorry.
-/
import Derived.Test.YticbodgiogmldaaGreatDoorRows
import GoSem.ClaimSeven
namespace Go.Proofs.YticbodgiogmldaaGreatDoor
namespace Rows

/-- THE TIED CARD OF 'circalaw26.MembersKnown'. -/
def membersKnownCard : Claim7 := { stood := { row := membersKnownRow, standIns := [], harness := (true, "cff5d2c0f90d56d08669bf32f5564035bdbfdd370b9f80fbd4f187dc498d9c09"), looks := true }, kinds := [], alts := [], laidByText := true, laidKinds := [.data, .data, .data, .data, .sentinel, .sentinel, .data, .data, .data, .pinned], laidTests := true, laidLooks := .later }
def MembersKnownCardSaid : Prop := Claim7.holds Tryz.pinned (.plain (OpenSpec.ofChange membersKnownSpec)) membersKnownCard

/-- THE SECOND FORM's CARD OF 'circalaw26.MembersKnown'. -/
def membersKnownUptoCard : Claim7 := { stood := { row := membersKnownUptoRow, standIns := [], harness := (true, "cff5d2c0f90d56d08669bf32f5564035bdbfdd370b9f80fbd4f187dc498d9c09"), looks := true }, kinds := [], alts := [], laidByText := true, laidKinds := [.data, .data, .data, .data, .sentinel, .sentinel, .data, .data, .data, .pinned], laidTests := true, laidLooks := .later }
def MembersKnownUptoCardSaid : Prop := Claim7.holds Tryz.pinned (.plain (OpenSpec.upto membersKnownSpec)) membersKnownUptoCard
end Rows
end Go.Proofs.YticbodgiogmldaaGreatDoor
