/-
  DERIVED. GIVEN WITH THE SEED: THE CARDS: each row of YtlhageadjmoajaaGreatDoorRows.lean that lists a variable, with what it lists TIED to the program's text (the seventh form; the later family's looks); each row that meets fmt, with fmt's text TOLD by the authors' own Lean function (tested against real Go, not proved from fmt's source: count such statements apart). THE CARD IS WHAT COUNTS. Prove the row's statement (the work); the ties are given (YtlhageadjmoajaaGreatDoorTie.lean); close each card by the builder's one call (the guide's Derived/Test/ToyasCard.lean, 'card_holds'). Laid BY PROGRAM, IN A SANDBOX (cutbox-door.mjs). By AI agents, Wed Nov 11 2026. No macro, syntax, notation, axiom, sorry.
-/
import Derived.Test.YtlhageadjmoajaaGreatDoorRows
import GoSem.ClaimSeven
namespace Go.Proofs.YtlhageadjmoajaaGreatDoor
namespace Rows

/-- THE TIED CARD OF 'ententelaw28.WorkTells'. -/
def workTellsCard : Claim7 := { stood := { row := workTellsRow, standIns := [], harness := (true, "cbc4e5bba46c3e835b20d6d27e5e77731e29c7508046a201e14a5dc6895e36de"), looks := false }, kinds := [], alts := [], laidByText := true, laidKinds := [.data, .data, .data], laidTests := true, laidLooks := .later }
def WorkTellsCardSaid : Prop := Claim7.holds Tryz.pinned (.plain (OpenSpec.ofChange workTellsSpec)) workTellsCard

/-- THE TIED CARD OF 'ententelaw26.ParentVerdicts'. -/
def parentVerdictsCard : Claim7 := { stood := { row := parentVerdictsRow, standIns := [], harness := (true, "cbc4e5bba46c3e835b20d6d27e5e77731e29c7508046a201e14a5dc6895e36de"), looks := false }, kinds := [], alts := [], laidByText := true, laidKinds := [.data, .data, .data], laidTests := true, laidLooks := .later }
def ParentVerdictsCardSaid : Prop := Claim7.holds Tryz.pinned (.plain (OpenSpec.ofChange parentVerdictsSpec)) parentVerdictsCard

/-- THE TIED CARD OF 'ententelaw23.StateMays'. -/
def stateMaysCard : Claim7 := { stood := { row := stateMaysRow, standIns := [], harness := (true, "cbc4e5bba46c3e835b20d6d27e5e77731e29c7508046a201e14a5dc6895e36de"), looks := false }, kinds := [], alts := [], laidByText := true, laidKinds := [.data, .data, .data], laidTests := true, laidLooks := .later }
def StateMaysCardSaid : Prop := Claim7.holds Tryz.pinned (.plain (OpenSpec.ofChange stateMaysSpec)) stateMaysCard

/-- THE TIED CARD OF 'ententelaw37.ReachCalls'. -/
def reachCallsCard : Claim7 := { stood := { row := reachCallsRow, standIns := [], harness := (true, "cbc4e5bba46c3e835b20d6d27e5e77731e29c7508046a201e14a5dc6895e36de"), looks := false }, kinds := [], alts := [], laidByText := true, laidKinds := [.data, .data, .data], laidTests := true, laidLooks := .later }
def ReachCallsCardSaid : Prop := Claim7.holds Tryz.pinned (.plain (OpenSpec.ofChange reachCallsSpec)) reachCallsCard

/-- THE TIED CARD OF 'ententelaw37.ReachMore'. -/
def reachMoreCard : Claim7 := { stood := { row := reachMoreRow, standIns := [], harness := (true, "cbc4e5bba46c3e835b20d6d27e5e77731e29c7508046a201e14a5dc6895e36de"), looks := false }, kinds := [], alts := [], laidByText := true, laidKinds := [.data, .data, .data], laidTests := true, laidLooks := .later }
def ReachMoreCardSaid : Prop := Claim7.holds Tryz.pinned (.plain (OpenSpec.ofChange reachMoreSpec)) reachMoreCard

/-- THE TIED CARD OF 'ententelaw37.ReachBack'. -/
def reachBackCard : Claim7 := { stood := { row := reachBackRow, standIns := [], harness := (true, "cbc4e5bba46c3e835b20d6d27e5e77731e29c7508046a201e14a5dc6895e36de"), looks := false }, kinds := [], alts := [], laidByText := true, laidKinds := [.data, .data, .data], laidTests := true, laidLooks := .later }
def ReachBackCardSaid : Prop := Claim7.holds Tryz.pinned (.plain (OpenSpec.ofChange reachBackSpec)) reachBackCard

/-- THE TIED CARD OF 'ententelaw39.BillCan'. -/
def billCanCard : Claim7 := { stood := { row := billCanRow, standIns := [], harness := (true, "cbc4e5bba46c3e835b20d6d27e5e77731e29c7508046a201e14a5dc6895e36de"), looks := false }, kinds := [], alts := [], laidByText := true, laidKinds := [.data, .data, .data], laidTests := true, laidLooks := .later }
def BillCanCardSaid : Prop := Claim7.holds Tryz.pinned (.plain (OpenSpec.ofChange billCanSpec)) billCanCard

/-- THE SECOND FORM's CARD OF 'ententelaw28.WorkTells'. -/
def workTellsUptoCard : Claim7 := { stood := { row := workTellsUptoRow, standIns := [], harness := (true, "cbc4e5bba46c3e835b20d6d27e5e77731e29c7508046a201e14a5dc6895e36de"), looks := false }, kinds := [], alts := [], laidByText := true, laidKinds := [.data, .data, .data], laidTests := true, laidLooks := .later }
def WorkTellsUptoCardSaid : Prop := Claim7.holds Tryz.pinned (.plain (OpenSpec.upto workTellsSpec)) workTellsUptoCard

/-- THE SECOND FORM's CARD OF 'ententelaw26.ParentVerdicts'. -/
def parentVerdictsUptoCard : Claim7 := { stood := { row := parentVerdictsUptoRow, standIns := [], harness := (true, "cbc4e5bba46c3e835b20d6d27e5e77731e29c7508046a201e14a5dc6895e36de"), looks := false }, kinds := [], alts := [], laidByText := true, laidKinds := [.data, .data, .data], laidTests := true, laidLooks := .later }
def ParentVerdictsUptoCardSaid : Prop := Claim7.holds Tryz.pinned (.plain (OpenSpec.upto parentVerdictsSpec)) parentVerdictsUptoCard

/-- THE SECOND FORM's CARD OF 'ententelaw23.StateMays'. -/
def stateMaysUptoCard : Claim7 := { stood := { row := stateMaysUptoRow, standIns := [], harness := (true, "cbc4e5bba46c3e835b20d6d27e5e77731e29c7508046a201e14a5dc6895e36de"), looks := false }, kinds := [], alts := [], laidByText := true, laidKinds := [.data, .data, .data], laidTests := true, laidLooks := .later }
def StateMaysUptoCardSaid : Prop := Claim7.holds Tryz.pinned (.plain (OpenSpec.upto stateMaysSpec)) stateMaysUptoCard

/-- THE SECOND FORM's CARD OF 'ententelaw37.ReachCalls'. -/
def reachCallsUptoCard : Claim7 := { stood := { row := reachCallsUptoRow, standIns := [], harness := (true, "cbc4e5bba46c3e835b20d6d27e5e77731e29c7508046a201e14a5dc6895e36de"), looks := false }, kinds := [], alts := [], laidByText := true, laidKinds := [.data, .data, .data], laidTests := true, laidLooks := .later }
def ReachCallsUptoCardSaid : Prop := Claim7.holds Tryz.pinned (.plain (OpenSpec.upto reachCallsSpec)) reachCallsUptoCard

/-- THE SECOND FORM's CARD OF 'ententelaw37.ReachMore'. -/
def reachMoreUptoCard : Claim7 := { stood := { row := reachMoreUptoRow, standIns := [], harness := (true, "cbc4e5bba46c3e835b20d6d27e5e77731e29c7508046a201e14a5dc6895e36de"), looks := false }, kinds := [], alts := [], laidByText := true, laidKinds := [.data, .data, .data], laidTests := true, laidLooks := .later }
def ReachMoreUptoCardSaid : Prop := Claim7.holds Tryz.pinned (.plain (OpenSpec.upto reachMoreSpec)) reachMoreUptoCard

/-- THE SECOND FORM's CARD OF 'ententelaw37.ReachBack'. -/
def reachBackUptoCard : Claim7 := { stood := { row := reachBackUptoRow, standIns := [], harness := (true, "cbc4e5bba46c3e835b20d6d27e5e77731e29c7508046a201e14a5dc6895e36de"), looks := false }, kinds := [], alts := [], laidByText := true, laidKinds := [.data, .data, .data], laidTests := true, laidLooks := .later }
def ReachBackUptoCardSaid : Prop := Claim7.holds Tryz.pinned (.plain (OpenSpec.upto reachBackSpec)) reachBackUptoCard

/-- THE SECOND FORM's CARD OF 'ententelaw39.BillCan'. -/
def billCanUptoCard : Claim7 := { stood := { row := billCanUptoRow, standIns := [], harness := (true, "cbc4e5bba46c3e835b20d6d27e5e77731e29c7508046a201e14a5dc6895e36de"), looks := false }, kinds := [], alts := [], laidByText := true, laidKinds := [.data, .data, .data], laidTests := true, laidLooks := .later }
def BillCanUptoCardSaid : Prop := Claim7.holds Tryz.pinned (.plain (OpenSpec.upto billCanSpec)) billCanUptoCard
end Rows
end Go.Proofs.YtlhageadjmoajaaGreatDoor
