/-
  DERIVED. GIVEN WITH THE SEED: THE CARDS: each row of YtlhageadjmoajaaDoorRows.lean that lists a variable, with what it lists TIED to the program's text (the seventh form; the later family's looks); each row that meets fmt, with fmt's text TOLD by the authors' own Lean function (tested against real Go, not proved from fmt's source: count such statements apart). THE CARD IS WHAT COUNTS. Prove the row's statement (the work); the ties are given (YtlhageadjmoajaaDoorTie.lean); close each card by the builder's one call (the guide's Derived/Test/ToyasCard.lean, 'card_holds'). Laid BY PROGRAM, IN A SANDBOX (cutbox-door.mjs). By AI agents, Wed Nov 11 2026. No macro, syntax, notation, axiom, sorry.
-/
import Derived.Test.YtlhageadjmoajaaDoorRows
import GoSem.ClaimSeven
namespace Go.Proofs.YtlhageadjmoajaaDoor
namespace Rows

/-- THE TIED CARD OF 'ententelaw10.BookFinds'. -/
def bookFindsCard : Claim7 := { stood := { row := bookFindsRow, standIns := [], harness := (true, "75674eb36a8db61e29465fd8feaee9a0a2d78f83b9e6fc84325091fd70e36125"), looks := false }, kinds := [], alts := [], laidByText := true, laidKinds := [.data, .pinned], laidTests := true, laidLooks := .later }
def BookFindsCardSaid : Prop := Claim7.holds Tryd.pinned (.plain (OpenSpec.ofChange bookFindsSpec)) bookFindsCard

/-- THE TIED CARD OF 'ententelaw10.BookAdds'. -/
def bookAddsCard : Claim7 := { stood := { row := bookAddsRow, standIns := [], harness := (true, "75674eb36a8db61e29465fd8feaee9a0a2d78f83b9e6fc84325091fd70e36125"), looks := false }, kinds := [], alts := [], laidByText := true, laidKinds := [.data, .pinned], laidTests := true, laidLooks := .later }
def BookAddsCardSaid : Prop := Claim7.holds Tryd.pinned (.plain (OpenSpec.ofChange bookAddsSpec)) bookAddsCard

/-- THE TIED CARD OF 'ententelaw10.BookOrder'. -/
def bookOrderCard : Claim7 := { stood := { row := bookOrderRow, standIns := [], harness := (true, "75674eb36a8db61e29465fd8feaee9a0a2d78f83b9e6fc84325091fd70e36125"), looks := false }, kinds := [], alts := [], laidByText := true, laidKinds := [.data, .pinned], laidTests := true, laidLooks := .later }
def BookOrderCardSaid : Prop := Claim7.holds Tryd.pinned (.plain (OpenSpec.ofChange bookOrderSpec)) bookOrderCard

/-- THE SECOND FORM's CARD OF 'ententelaw10.BookFinds'. -/
def bookFindsUptoCard : Claim7 := { stood := { row := bookFindsUptoRow, standIns := [], harness := (true, "75674eb36a8db61e29465fd8feaee9a0a2d78f83b9e6fc84325091fd70e36125"), looks := false }, kinds := [], alts := [], laidByText := true, laidKinds := [.data, .pinned], laidTests := true, laidLooks := .later }
def BookFindsUptoCardSaid : Prop := Claim7.holds Tryd.pinned (.plain (OpenSpec.upto bookFindsSpec)) bookFindsUptoCard

/-- THE SECOND FORM's CARD OF 'ententelaw10.BookAdds'. -/
def bookAddsUptoCard : Claim7 := { stood := { row := bookAddsUptoRow, standIns := [], harness := (true, "75674eb36a8db61e29465fd8feaee9a0a2d78f83b9e6fc84325091fd70e36125"), looks := false }, kinds := [], alts := [], laidByText := true, laidKinds := [.data, .pinned], laidTests := true, laidLooks := .later }
def BookAddsUptoCardSaid : Prop := Claim7.holds Tryd.pinned (.plain (OpenSpec.upto bookAddsSpec)) bookAddsUptoCard

/-- THE SECOND FORM's CARD OF 'ententelaw10.BookOrder'. -/
def bookOrderUptoCard : Claim7 := { stood := { row := bookOrderUptoRow, standIns := [], harness := (true, "75674eb36a8db61e29465fd8feaee9a0a2d78f83b9e6fc84325091fd70e36125"), looks := false }, kinds := [], alts := [], laidByText := true, laidKinds := [.data, .pinned], laidTests := true, laidLooks := .later }
def BookOrderUptoCardSaid : Prop := Claim7.holds Tryd.pinned (.plain (OpenSpec.upto bookOrderSpec)) bookOrderUptoCard
end Rows
end Go.Proofs.YtlhageadjmoajaaDoor
