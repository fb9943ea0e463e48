/-
  DERIVED. GIVEN WITH THE SEED: THE CARDS: each row of YtkjiaijkdefkgaaDoorRows.lean that lists a variable, with what it lists TIED to the program's text (the seventh form; the later family's looks); each row that meets fmt, with fmt's text TOLD by the authors' own Lean function (tested against real Go, not proved from fmt's source: count such statements apart). THE CARD IS WHAT COUNTS. Prove the row's statement (the work); the ties are given (YtkjiaijkdefkgaaDoorTie.lean); close each card by the builder's one call (the guide's Derived/Test/ToyasCard.lean, 'card_holds'). Laid BY PROGRAM, IN A SANDBOX (cutbox-door.mjs). By AI agents, Wed Nov 11 2026. No macro, syntax, notation, axiom, sorry.
-/
import Derived.Test.YtkjiaijkdefkgaaDoorRows
import GoSem.ClaimSeven
namespace Go.Proofs.YtkjiaijkdefkgaaDoor
namespace Rows

/-- THE TIED CARD OF 'ententelaw27.DuesSound'. -/
def duesSoundCard : Claim7 := { stood := { row := duesSoundRow, standIns := [], harness := (true, "784be6ee7f2bc1d94ac668ea5bce07810f0107289e5f1f261d6476d81d6f16a9"), looks := false }, kinds := [], alts := [], laidByText := true, laidKinds := [.data, .data, .data], laidTests := true, laidLooks := .later }
def DuesSoundCardSaid : Prop := Claim7.holds Tryd.pinned (.plain (OpenSpec.ofChange duesSoundSpec)) duesSoundCard

/-- THE TIED CARD OF 'ententelaw27.DuesNeeded'. -/
def duesNeededCard : Claim7 := { stood := { row := duesNeededRow, standIns := [], harness := (true, "784be6ee7f2bc1d94ac668ea5bce07810f0107289e5f1f261d6476d81d6f16a9"), looks := false }, kinds := [], alts := [], laidByText := true, laidKinds := [.data, .data, .data], laidTests := true, laidLooks := .later }
def DuesNeededCardSaid : Prop := Claim7.holds Tryd.pinned (.plain (OpenSpec.ofChange duesNeededSpec)) duesNeededCard

/-- THE SECOND FORM's CARD OF 'ententelaw27.DuesSound'. -/
def duesSoundUptoCard : Claim7 := { stood := { row := duesSoundUptoRow, standIns := [], harness := (true, "784be6ee7f2bc1d94ac668ea5bce07810f0107289e5f1f261d6476d81d6f16a9"), looks := false }, kinds := [], alts := [], laidByText := true, laidKinds := [.data, .data, .data], laidTests := true, laidLooks := .later }
def DuesSoundUptoCardSaid : Prop := Claim7.holds Tryd.pinned (.plain (OpenSpec.upto duesSoundSpec)) duesSoundUptoCard

/-- THE SECOND FORM's CARD OF 'ententelaw27.DuesNeeded'. -/
def duesNeededUptoCard : Claim7 := { stood := { row := duesNeededUptoRow, standIns := [], harness := (true, "784be6ee7f2bc1d94ac668ea5bce07810f0107289e5f1f261d6476d81d6f16a9"), looks := false }, kinds := [], alts := [], laidByText := true, laidKinds := [.data, .data, .data], laidTests := true, laidLooks := .later }
def DuesNeededUptoCardSaid : Prop := Claim7.holds Tryd.pinned (.plain (OpenSpec.upto duesNeededSpec)) duesNeededUptoCard
end Rows
end Go.Proofs.YtkjiaijkdefkgaaDoor
