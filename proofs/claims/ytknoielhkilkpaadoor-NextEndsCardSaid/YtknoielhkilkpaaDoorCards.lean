/-
  DERIVED. GIVEN WITH THE SEED: THE CARDS: each row of YtknoielhkilkpaaDoorRows.lean that lists a variable, with what it lists TIED to the program's text (the seventh form; the later family's looks); each row that meets fmt, with fmt's text TOLD by the authors' own Lean function (tested against real Go, not proved from fmt's source: count such statements apart). THE CARD IS WHAT COUNTS. Prove the row's statement (the work); the ties are given (YtknoielhkilkpaaDoorTie.lean); close each card by the builder's one call (the guide's Derived/Test/ToyasCard.lean, 'card_holds'). Laid BY PROGRAM, IN A SANDBOX (cutbox-door.mjs). By AI agents, Wed Nov 11 2026. No macro, syntax, notation, axiom, sorry.
-/
import Derived.Test.YtknoielhkilkpaaDoorRows
import GoSem.ClaimSeven
namespace Go.Proofs.YtknoielhkilkpaaDoor
namespace Rows

/-- THE TIED CARD OF 'ententelaw10.BookFinds'. -/
def bookFindsCard : Claim7 := { stood := { row := bookFindsRow, standIns := [], harness := (true, "6d81ea205e99b8ae16197c669ef47fd450855bc43358b37a9c6f724794c51b5a"), looks := false }, kinds := [], alts := [], laidByText := true, laidKinds := [.data, .pinned], laidTests := true, laidLooks := .later }
def BookFindsCardSaid : Prop := Claim7.holds Tryd.pinned (.plain (OpenSpec.ofChange bookFindsSpec)) bookFindsCard

/-- THE TIED CARD OF 'ententelaw10.BookAdds'. -/
def bookAddsCard : Claim7 := { stood := { row := bookAddsRow, standIns := [], harness := (true, "6d81ea205e99b8ae16197c669ef47fd450855bc43358b37a9c6f724794c51b5a"), looks := false }, kinds := [], alts := [], laidByText := true, laidKinds := [.data, .pinned], laidTests := true, laidLooks := .later }
def BookAddsCardSaid : Prop := Claim7.holds Tryd.pinned (.plain (OpenSpec.ofChange bookAddsSpec)) bookAddsCard

/-- THE TIED CARD OF 'ententelaw10.BookOrder'. -/
def bookOrderCard : Claim7 := { stood := { row := bookOrderRow, standIns := [], harness := (true, "6d81ea205e99b8ae16197c669ef47fd450855bc43358b37a9c6f724794c51b5a"), looks := false }, kinds := [], alts := [], laidByText := true, laidKinds := [.data, .pinned], laidTests := true, laidLooks := .later }
def BookOrderCardSaid : Prop := Claim7.holds Tryd.pinned (.plain (OpenSpec.ofChange bookOrderSpec)) bookOrderCard

/-- THE TIED CARD OF 'ententelaw22.NextGoes'. -/
def nextGoesCard : Claim7 := { stood := { row := nextGoesRow, standIns := [], harness := (true, "6d81ea205e99b8ae16197c669ef47fd450855bc43358b37a9c6f724794c51b5a"), looks := false }, kinds := [], alts := [], laidByText := true, laidKinds := [.data, .data, .data], laidTests := true, laidLooks := .later }
def NextGoesCardSaid : Prop := Claim7.holds Tryd.pinned (.plain (OpenSpec.ofChange nextGoesSpec)) nextGoesCard

/-- THE TIED CARD OF 'ententelaw22.NextRanks'. -/
def nextRanksCard : Claim7 := { stood := { row := nextRanksRow, standIns := [], harness := (true, "6d81ea205e99b8ae16197c669ef47fd450855bc43358b37a9c6f724794c51b5a"), looks := false }, kinds := [], alts := [], laidByText := true, laidKinds := [.data, .data, .data], laidTests := true, laidLooks := .later }
def NextRanksCardSaid : Prop := Claim7.holds Tryd.pinned (.plain (OpenSpec.ofChange nextRanksSpec)) nextRanksCard

/-- THE TIED CARD OF 'ententelaw22.NextEnds'. -/
def nextEndsCard : Claim7 := { stood := { row := nextEndsRow, standIns := [], harness := (true, "6d81ea205e99b8ae16197c669ef47fd450855bc43358b37a9c6f724794c51b5a"), looks := false }, kinds := [], alts := [], laidByText := true, laidKinds := [.data, .data, .data], laidTests := true, laidLooks := .later }
def NextEndsCardSaid : Prop := Claim7.holds Tryd.pinned (.plain (OpenSpec.ofChange nextEndsSpec)) nextEndsCard

/-- THE SECOND FORM's CARD OF 'ententelaw10.BookFinds'. -/
def bookFindsUptoCard : Claim7 := { stood := { row := bookFindsUptoRow, standIns := [], harness := (true, "6d81ea205e99b8ae16197c669ef47fd450855bc43358b37a9c6f724794c51b5a"), looks := false }, kinds := [], alts := [], laidByText := true, laidKinds := [.data, .pinned], laidTests := true, laidLooks := .later }
def BookFindsUptoCardSaid : Prop := Claim7.holds Tryd.pinned (.plain (OpenSpec.upto bookFindsSpec)) bookFindsUptoCard

/-- THE SECOND FORM's CARD OF 'ententelaw10.BookAdds'. -/
def bookAddsUptoCard : Claim7 := { stood := { row := bookAddsUptoRow, standIns := [], harness := (true, "6d81ea205e99b8ae16197c669ef47fd450855bc43358b37a9c6f724794c51b5a"), looks := false }, kinds := [], alts := [], laidByText := true, laidKinds := [.data, .pinned], laidTests := true, laidLooks := .later }
def BookAddsUptoCardSaid : Prop := Claim7.holds Tryd.pinned (.plain (OpenSpec.upto bookAddsSpec)) bookAddsUptoCard

/-- THE SECOND FORM's CARD OF 'ententelaw10.BookOrder'. -/
def bookOrderUptoCard : Claim7 := { stood := { row := bookOrderUptoRow, standIns := [], harness := (true, "6d81ea205e99b8ae16197c669ef47fd450855bc43358b37a9c6f724794c51b5a"), looks := false }, kinds := [], alts := [], laidByText := true, laidKinds := [.data, .pinned], laidTests := true, laidLooks := .later }
def BookOrderUptoCardSaid : Prop := Claim7.holds Tryd.pinned (.plain (OpenSpec.upto bookOrderSpec)) bookOrderUptoCard

/-- THE SECOND FORM's CARD OF 'ententelaw22.NextGoes'. -/
def nextGoesUptoCard : Claim7 := { stood := { row := nextGoesUptoRow, standIns := [], harness := (true, "6d81ea205e99b8ae16197c669ef47fd450855bc43358b37a9c6f724794c51b5a"), looks := false }, kinds := [], alts := [], laidByText := true, laidKinds := [.data, .data, .data], laidTests := true, laidLooks := .later }
def NextGoesUptoCardSaid : Prop := Claim7.holds Tryd.pinned (.plain (OpenSpec.upto nextGoesSpec)) nextGoesUptoCard

/-- THE SECOND FORM's CARD OF 'ententelaw22.NextRanks'. -/
def nextRanksUptoCard : Claim7 := { stood := { row := nextRanksUptoRow, standIns := [], harness := (true, "6d81ea205e99b8ae16197c669ef47fd450855bc43358b37a9c6f724794c51b5a"), looks := false }, kinds := [], alts := [], laidByText := true, laidKinds := [.data, .data, .data], laidTests := true, laidLooks := .later }
def NextRanksUptoCardSaid : Prop := Claim7.holds Tryd.pinned (.plain (OpenSpec.upto nextRanksSpec)) nextRanksUptoCard

/-- THE SECOND FORM's CARD OF 'ententelaw22.NextEnds'. -/
def nextEndsUptoCard : Claim7 := { stood := { row := nextEndsUptoRow, standIns := [], harness := (true, "6d81ea205e99b8ae16197c669ef47fd450855bc43358b37a9c6f724794c51b5a"), looks := false }, kinds := [], alts := [], laidByText := true, laidKinds := [.data, .data, .data], laidTests := true, laidLooks := .later }
def NextEndsUptoCardSaid : Prop := Claim7.holds Tryd.pinned (.plain (OpenSpec.upto nextEndsSpec)) nextEndsUptoCard
end Rows
end Go.Proofs.YtknoielhkilkpaaDoor
