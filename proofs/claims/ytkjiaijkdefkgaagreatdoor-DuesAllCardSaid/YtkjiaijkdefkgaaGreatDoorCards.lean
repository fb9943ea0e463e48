/-
  DERIVED. GIVEN WITH THE SEED: THE CARDS: each row of YtkjiaijkdefkgaaGreatDoorRows.lean that lists a variable, with what it lists TIED to the program's text (the seventh form; the later family's looks); each row that meets fmt, with fmt's text TOLD by the authors' own Lean function (tested against real Go, not proved from fmt's source: count such statements apart). THE CARD IS WHAT COUNTS. Prove the row's statement (the work); the ties are given (YtkjiaijkdefkgaaGreatDoorTie.lean); close each card by the builder's one call (the guide's Derived/Test/ToyasCard.lean, 'card_holds'). Laid BY PROGRAM, IN A SANDBOX (cutbox-door.mjs). By AI agents, Wed Nov 11 2026. No macro, syntax, notation, axiom, sorry.
-/
import Derived.Test.YtkjiaijkdefkgaaGreatDoorRows
import GoSem.ClaimSeven
namespace Go.Proofs.YtkjiaijkdefkgaaGreatDoor
namespace Rows

/-- THE TIED CARD OF 'ententelaw25.ChildTells'. -/
def childTellsCard : Claim7 := { stood := { row := childTellsRow, standIns := [], harness := (true, "4ff6890e9bf07b1890cba9fc8305096720cc396fc3a98ce59fb5d6f6355d2d1d"), looks := false }, kinds := [], alts := [], laidByText := true, laidKinds := [.data, .data, .data], laidTests := true, laidLooks := .later }
def ChildTellsCardSaid : Prop := Claim7.holds Tryz.pinned (.plain (OpenSpec.ofChange childTellsSpec)) childTellsCard

/-- THE TIED CARD OF 'ententelaw25.ChildTakes'. -/
def childTakesCard : Claim7 := { stood := { row := childTakesRow, standIns := [], harness := (true, "4ff6890e9bf07b1890cba9fc8305096720cc396fc3a98ce59fb5d6f6355d2d1d"), looks := false }, kinds := [], alts := [], laidByText := true, laidKinds := [.data, .data, .data], laidTests := true, laidLooks := .later }
def ChildTakesCardSaid : Prop := Claim7.holds Tryz.pinned (.plain (OpenSpec.ofChange childTakesSpec)) childTakesCard

/-- THE TIED CARD OF 'ententelaw25.ChildTold'. -/
def childToldCard : Claim7 := { stood := { row := childToldRow, standIns := [], harness := (true, "4ff6890e9bf07b1890cba9fc8305096720cc396fc3a98ce59fb5d6f6355d2d1d"), looks := false }, kinds := [], alts := [], laidByText := true, laidKinds := [.data, .data, .data], laidTests := true, laidLooks := .later }
def ChildToldCardSaid : Prop := Claim7.holds Tryz.pinned (.plain (OpenSpec.ofChange childToldSpec)) childToldCard

/-- THE TIED CARD OF 'ententelaw27.DuesOf'. -/
def duesOfCard : Claim7 := { stood := { row := duesOfRow, standIns := [], harness := (true, "4ff6890e9bf07b1890cba9fc8305096720cc396fc3a98ce59fb5d6f6355d2d1d"), looks := false }, kinds := [], alts := [], laidByText := true, laidKinds := [.data, .data, .data], laidTests := true, laidLooks := .later }
def DuesOfCardSaid : Prop := Claim7.holds Tryz.pinned (.plain (OpenSpec.ofChange duesOfSpec)) duesOfCard

/-- THE TIED CARD OF 'ententelaw27.DuesAll'. -/
def duesAllCard : Claim7 := { stood := { row := duesAllRow, standIns := [], harness := (true, "4ff6890e9bf07b1890cba9fc8305096720cc396fc3a98ce59fb5d6f6355d2d1d"), looks := false }, kinds := [], alts := [], laidByText := true, laidKinds := [.data, .data, .data], laidTests := true, laidLooks := .later }
def DuesAllCardSaid : Prop := Claim7.holds Tryz.pinned (.plain (OpenSpec.ofChange duesAllSpec)) duesAllCard

/-- THE TIED CARD OF 'ententelaw21.SagaMays'. -/
def sagaMaysCard : Claim7 := { stood := { row := sagaMaysRow, standIns := [], harness := (true, "4ff6890e9bf07b1890cba9fc8305096720cc396fc3a98ce59fb5d6f6355d2d1d"), looks := false }, kinds := [], alts := [], laidByText := true, laidKinds := [.data, .data, .data, .data, .pinned], laidTests := true, laidLooks := .later }
def SagaMaysCardSaid : Prop := Claim7.holds Tryz.pinned (.plain (OpenSpec.ofChange sagaMaysSpec)) sagaMaysCard

/-- THE TIED CARD OF 'ententelaw21.SagaDecided'. -/
def sagaDecidedCard : Claim7 := { stood := { row := sagaDecidedRow, standIns := [], harness := (true, "4ff6890e9bf07b1890cba9fc8305096720cc396fc3a98ce59fb5d6f6355d2d1d"), looks := false }, kinds := [], alts := [], laidByText := true, laidKinds := [.data, .data, .data, .data, .pinned], laidTests := true, laidLooks := .later }
def SagaDecidedCardSaid : Prop := Claim7.holds Tryz.pinned (.plain (OpenSpec.ofChange sagaDecidedSpec)) sagaDecidedCard

/-- THE TIED CARD OF 'ententelaw21.SagaOrder'. -/
def sagaOrderCard : Claim7 := { stood := { row := sagaOrderRow, standIns := [], harness := (true, "4ff6890e9bf07b1890cba9fc8305096720cc396fc3a98ce59fb5d6f6355d2d1d"), looks := false }, kinds := [], alts := [], laidByText := true, laidKinds := [.data, .data, .data, .data, .pinned], laidTests := true, laidLooks := .later }
def SagaOrderCardSaid : Prop := Claim7.holds Tryz.pinned (.plain (OpenSpec.ofChange sagaOrderSpec)) sagaOrderCard

/-- THE TIED CARD OF 'ententelaw21.SagaStates'. -/
def sagaStatesCard : Claim7 := { stood := { row := sagaStatesRow, standIns := [], harness := (true, "4ff6890e9bf07b1890cba9fc8305096720cc396fc3a98ce59fb5d6f6355d2d1d"), looks := false }, kinds := [], alts := [], laidByText := true, laidKinds := [.data, .data, .data, .data, .pinned], laidTests := true, laidLooks := .later }
def SagaStatesCardSaid : Prop := Claim7.holds Tryz.pinned (.plain (OpenSpec.ofChange sagaStatesSpec)) sagaStatesCard

/-- THE TIED CARD OF 'ententelaw21.SagaOnce'. -/
def sagaOnceCard : Claim7 := { stood := { row := sagaOnceRow, standIns := [], harness := (true, "4ff6890e9bf07b1890cba9fc8305096720cc396fc3a98ce59fb5d6f6355d2d1d"), looks := false }, kinds := [], alts := [], laidByText := true, laidKinds := [.data, .data, .data, .data, .pinned], laidTests := true, laidLooks := .later }
def SagaOnceCardSaid : Prop := Claim7.holds Tryz.pinned (.plain (OpenSpec.ofChange sagaOnceSpec)) sagaOnceCard

/-- THE SECOND FORM's CARD OF 'ententelaw25.ChildTells'. -/
def childTellsUptoCard : Claim7 := { stood := { row := childTellsUptoRow, standIns := [], harness := (true, "4ff6890e9bf07b1890cba9fc8305096720cc396fc3a98ce59fb5d6f6355d2d1d"), looks := false }, kinds := [], alts := [], laidByText := true, laidKinds := [.data, .data, .data], laidTests := true, laidLooks := .later }
def ChildTellsUptoCardSaid : Prop := Claim7.holds Tryz.pinned (.plain (OpenSpec.upto childTellsSpec)) childTellsUptoCard

/-- THE SECOND FORM's CARD OF 'ententelaw25.ChildTakes'. -/
def childTakesUptoCard : Claim7 := { stood := { row := childTakesUptoRow, standIns := [], harness := (true, "4ff6890e9bf07b1890cba9fc8305096720cc396fc3a98ce59fb5d6f6355d2d1d"), looks := false }, kinds := [], alts := [], laidByText := true, laidKinds := [.data, .data, .data], laidTests := true, laidLooks := .later }
def ChildTakesUptoCardSaid : Prop := Claim7.holds Tryz.pinned (.plain (OpenSpec.upto childTakesSpec)) childTakesUptoCard

/-- THE SECOND FORM's CARD OF 'ententelaw25.ChildTold'. -/
def childToldUptoCard : Claim7 := { stood := { row := childToldUptoRow, standIns := [], harness := (true, "4ff6890e9bf07b1890cba9fc8305096720cc396fc3a98ce59fb5d6f6355d2d1d"), looks := false }, kinds := [], alts := [], laidByText := true, laidKinds := [.data, .data, .data], laidTests := true, laidLooks := .later }
def ChildToldUptoCardSaid : Prop := Claim7.holds Tryz.pinned (.plain (OpenSpec.upto childToldSpec)) childToldUptoCard

/-- THE SECOND FORM's CARD OF 'ententelaw27.DuesOf'. -/
def duesOfUptoCard : Claim7 := { stood := { row := duesOfUptoRow, standIns := [], harness := (true, "4ff6890e9bf07b1890cba9fc8305096720cc396fc3a98ce59fb5d6f6355d2d1d"), looks := false }, kinds := [], alts := [], laidByText := true, laidKinds := [.data, .data, .data], laidTests := true, laidLooks := .later }
def DuesOfUptoCardSaid : Prop := Claim7.holds Tryz.pinned (.plain (OpenSpec.upto duesOfSpec)) duesOfUptoCard

/-- THE SECOND FORM's CARD OF 'ententelaw27.DuesAll'. -/
def duesAllUptoCard : Claim7 := { stood := { row := duesAllUptoRow, standIns := [], harness := (true, "4ff6890e9bf07b1890cba9fc8305096720cc396fc3a98ce59fb5d6f6355d2d1d"), looks := false }, kinds := [], alts := [], laidByText := true, laidKinds := [.data, .data, .data], laidTests := true, laidLooks := .later }
def DuesAllUptoCardSaid : Prop := Claim7.holds Tryz.pinned (.plain (OpenSpec.upto duesAllSpec)) duesAllUptoCard

/-- THE SECOND FORM's CARD OF 'ententelaw21.SagaMays'. -/
def sagaMaysUptoCard : Claim7 := { stood := { row := sagaMaysUptoRow, standIns := [], harness := (true, "4ff6890e9bf07b1890cba9fc8305096720cc396fc3a98ce59fb5d6f6355d2d1d"), looks := false }, kinds := [], alts := [], laidByText := true, laidKinds := [.data, .data, .data, .data, .pinned], laidTests := true, laidLooks := .later }
def SagaMaysUptoCardSaid : Prop := Claim7.holds Tryz.pinned (.plain (OpenSpec.upto sagaMaysSpec)) sagaMaysUptoCard

/-- THE SECOND FORM's CARD OF 'ententelaw21.SagaDecided'. -/
def sagaDecidedUptoCard : Claim7 := { stood := { row := sagaDecidedUptoRow, standIns := [], harness := (true, "4ff6890e9bf07b1890cba9fc8305096720cc396fc3a98ce59fb5d6f6355d2d1d"), looks := false }, kinds := [], alts := [], laidByText := true, laidKinds := [.data, .data, .data, .data, .pinned], laidTests := true, laidLooks := .later }
def SagaDecidedUptoCardSaid : Prop := Claim7.holds Tryz.pinned (.plain (OpenSpec.upto sagaDecidedSpec)) sagaDecidedUptoCard

/-- THE SECOND FORM's CARD OF 'ententelaw21.SagaOrder'. -/
def sagaOrderUptoCard : Claim7 := { stood := { row := sagaOrderUptoRow, standIns := [], harness := (true, "4ff6890e9bf07b1890cba9fc8305096720cc396fc3a98ce59fb5d6f6355d2d1d"), looks := false }, kinds := [], alts := [], laidByText := true, laidKinds := [.data, .data, .data, .data, .pinned], laidTests := true, laidLooks := .later }
def SagaOrderUptoCardSaid : Prop := Claim7.holds Tryz.pinned (.plain (OpenSpec.upto sagaOrderSpec)) sagaOrderUptoCard

/-- THE SECOND FORM's CARD OF 'ententelaw21.SagaStates'. -/
def sagaStatesUptoCard : Claim7 := { stood := { row := sagaStatesUptoRow, standIns := [], harness := (true, "4ff6890e9bf07b1890cba9fc8305096720cc396fc3a98ce59fb5d6f6355d2d1d"), looks := false }, kinds := [], alts := [], laidByText := true, laidKinds := [.data, .data, .data, .data, .pinned], laidTests := true, laidLooks := .later }
def SagaStatesUptoCardSaid : Prop := Claim7.holds Tryz.pinned (.plain (OpenSpec.upto sagaStatesSpec)) sagaStatesUptoCard

/-- THE SECOND FORM's CARD OF 'ententelaw21.SagaOnce'. -/
def sagaOnceUptoCard : Claim7 := { stood := { row := sagaOnceUptoRow, standIns := [], harness := (true, "4ff6890e9bf07b1890cba9fc8305096720cc396fc3a98ce59fb5d6f6355d2d1d"), looks := false }, kinds := [], alts := [], laidByText := true, laidKinds := [.data, .data, .data, .data, .pinned], laidTests := true, laidLooks := .later }
def SagaOnceUptoCardSaid : Prop := Claim7.holds Tryz.pinned (.plain (OpenSpec.upto sagaOnceSpec)) sagaOnceUptoCard
end Rows
end Go.Proofs.YtkjiaijkdefkgaaGreatDoor
