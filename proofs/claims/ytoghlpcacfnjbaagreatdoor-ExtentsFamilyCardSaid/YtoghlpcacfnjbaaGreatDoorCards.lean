/-
  DERIVED. GIVEN WITH THE SEED: THE CARDS: each row of YtoghlpcacfnjbaaGreatDoorRows.lean that lists a variable, with what it lists TIED to the program's text (the seventh form; the later family's looks); each row that meets fmt, with fmt's text TOLD by the authors' own Lean function (tested against real Go, not proved from fmt's source: count such statements apart). THE CARD IS WHAT COUNTS. Prove the row's statement (the work); the ties are given (YtoghlpcacfnjbaaGreatDoorTie.lean); close each card by the builder's one call (the guide's Derived/Test/ToyasCard.lean, 'card_holds'). Laid BY PROGRAM, IN A SANDBOX (cutbox-door.mjs). By AI agents, Wed Nov 11 2026. No macro, syntax, notation, axiom, sorry.
-/
import Derived.Test.YtoghlpcacfnjbaaGreatDoorRows
import GoSem.ClaimSeven
namespace Go.Proofs.YtoghlpcacfnjbaaGreatDoor
namespace Rows

/-- THE TIED CARD OF 'circalaw27.ExtentsFamily'. -/
def extentsFamilyCard : Claim7 := { stood := { row := extentsFamilyRow, standIns := [], harness := (true, "4c666411a96c21f243af8960cb560028fde600690a68b3e7b11ab42f32c71b50"), looks := true }, kinds := [], alts := [], laidByText := true, laidKinds := [.data, .data, .data, .data, .sentinel, .sentinel, .data, .data, .data, .pinned], laidTests := true, laidLooks := .later }
def ExtentsFamilyCardSaid : Prop := Claim7.holds Tryz.pinned (.plain (OpenSpec.ofChange extentsFamilySpec)) extentsFamilyCard

/-- THE TIED CARD OF 'circalaw26.MembersOf'. -/
def membersOfCard : Claim7 := { stood := { row := membersOfRow, standIns := [], harness := (true, "4c666411a96c21f243af8960cb560028fde600690a68b3e7b11ab42f32c71b50"), looks := true }, kinds := [], alts := [], laidByText := true, laidKinds := [.data, .data, .data, .data, .sentinel, .sentinel, .data, .data, .data, .pinned], laidTests := true, laidLooks := .later }
def MembersOfCardSaid : Prop := Claim7.holds Tryz.pinned (.plain (OpenSpec.ofChange membersOfSpec)) membersOfCard

/-- THE SECOND FORM's CARD OF 'circalaw27.ExtentsFamily'. -/
def extentsFamilyUptoCard : Claim7 := { stood := { row := extentsFamilyUptoRow, standIns := [], harness := (true, "4c666411a96c21f243af8960cb560028fde600690a68b3e7b11ab42f32c71b50"), looks := true }, kinds := [], alts := [], laidByText := true, laidKinds := [.data, .data, .data, .data, .sentinel, .sentinel, .data, .data, .data, .pinned], laidTests := true, laidLooks := .later }
def ExtentsFamilyUptoCardSaid : Prop := Claim7.holds Tryz.pinned (.plain (OpenSpec.upto extentsFamilySpec)) extentsFamilyUptoCard

/-- THE SECOND FORM's CARD OF 'circalaw26.MembersOf'. -/
def membersOfUptoCard : Claim7 := { stood := { row := membersOfUptoRow, standIns := [], harness := (true, "4c666411a96c21f243af8960cb560028fde600690a68b3e7b11ab42f32c71b50"), looks := true }, kinds := [], alts := [], laidByText := true, laidKinds := [.data, .data, .data, .data, .sentinel, .sentinel, .data, .data, .data, .pinned], laidTests := true, laidLooks := .later }
def MembersOfUptoCardSaid : Prop := Claim7.holds Tryz.pinned (.plain (OpenSpec.upto membersOfSpec)) membersOfUptoCard
end Rows
end Go.Proofs.YtoghlpcacfnjbaaGreatDoor
