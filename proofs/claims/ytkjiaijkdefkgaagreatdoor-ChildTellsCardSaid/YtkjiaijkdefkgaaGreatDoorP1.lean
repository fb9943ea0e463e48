/- What the rows ask of the program. -/
import Derived.Test.YtkjiaijkdefkgaaGreatDoorHb
import Derived.Test.YtkjiaijkdefkgaaGreatDoorHr
import Derived.Test.YtkjiaijkdefkgaaGreatDoorCk
import Derived.Test.YtkjiaijkdefkgaaGreatDoorGd
import Derived.Test.YtkjiaijkdefkgaaGreatDoorRows
import Derived.Test.YtkjiaijkdefkgaaGreatDoorTie
import Derived.Test.YtkjiaijkdefkgaaGreatDoorCards
import Derived.ProofKit
import Derived.LaidMore
import Derived.Lay
import Derived.OpenShut
import Derived.Stop.Joined
import Derived.Test.YtkjiaijkdefkgaaGreatDoorV

namespace Go.Proofs.YtkjiaijkdefkgaaGreatDoor.A
open Go Go.AM Go.Proofs
theorem okE0 : EnvOK Tryz.prog E0 := EnvOK.of_table tableOK
theorem okE7 : EnvOK Tryz.prog E7 := ok7 mixed (ok6 mixed (ok5 mixed (ok4 mixed (ok3 mixed (ok2 mixed (ok1 mixed okE0))))))
theorem okE5 : EnvOK Tryz.prog E5 := ok5 mixed (ok4 mixed (ok3 mixed (ok2 mixed (ok1 mixed okE0))))
theorem okE8 : EnvOK Tryz.prog E8 := ok8 mixed okE7
theorem okE14 : EnvOK Tryz.prog E14 := ok14 mixed (ok13 mixed (ok12 mixed (ok11 mixed (ok10 mixed (ok9 mixed okE8)))))
def hopTy : Ty := .st [.int .i64, .int .i64]
def stepTy : Ty := .st [.st [.int .i64, .str, .int .i64], .int .i64, .str, .int .i64, .int .i64]
def partTy : Ty := .st [.int .i64, .int .i64]
def sagaTy : Ty := .st [.st [.int .i64, .int .i64, .sl hopTy], .st [.str, .sl stepTy], .int .i64, .int .i64, .sl partTy, .bool]
/-- a saga that comes in -/
theorem saga_in {x : D} (h0 : WF sagaTy.sh x) : ∃ rt nn st wy n1 n2 n3 fc hops steps parts nm, x = sagaD rt nn st wy n1 n2 n3 fc hops steps parts nm ∧ (n1 = true → hops = []) ∧ (n2 = true → steps = []) ∧ (n3 = true → parts = []) := by
  obtain ⟨cs, rfl, h⟩ := WF.inv_agg h0
  obtain ⟨_, _, rfl, a1, h⟩ := h.inv
  obtain ⟨_, _, rfl, a2, h⟩ := h.inv
  obtain ⟨_, _, rfl, a3, h⟩ := h.inv
  obtain ⟨_, _, rfl, a4, h⟩ := h.inv
  obtain ⟨_, _, rfl, a5, h⟩ := h.inv
  obtain ⟨_, _, rfl, a6, h⟩ := h.inv
  obtain ⟨_, _, rfl, a7, h⟩ := h.inv
  obtain ⟨_, _, rfl, a8, h⟩ := h.inv
  obtain ⟨_, _, rfl, a9, h⟩ := h.inv
  obtain rfl := h.inv_nil
  obtain ⟨rt, rfl⟩ := a1.inv_int
  obtain ⟨nn, rfl⟩ := a2.inv_int
  obtain ⟨n1, hops, rfl, b1, -⟩ := a3.inv_sl
  obtain ⟨nm, rfl⟩ := a4.inv_str
  obtain ⟨n2, steps, rfl, b2, -⟩ := a5.inv_sl
  obtain ⟨st, rfl⟩ := a6.inv_int
  obtain ⟨wy, rfl⟩ := a7.inv_int
  obtain ⟨n3, parts, rfl, b3, -⟩ := a8.inv_sl
  obtain ⟨fc, rfl⟩ := a9.inv_bool
  exact ⟨rt, nn, st, wy, n1, n2, n3, fc, hops, steps, parts, nm, rfl, b1, b2, b3⟩
theorem empty_of {b : Bool} {l : List D} (h : b = false ∨ l = []) (hb : b = true) : l = [] := by
  rcases h with h | h
  · rw [hb] at h; cases h
  · exact h
/-- a law of a saga: it tells true -/
def gTrue1 : List D → Tree (List D)
  | [.agg [.int .i64 _, .int .i64 _, .sl eh n1 hops, .str _, .sl es n2 steps, .int .i64 _, .int .i64 _, .sl ep n3 parts, .bool _]] =>
    match (Sh.beq eh hopSh && (Sh.beq es stepSh && Sh.beq ep partSh)) && ((!n1 || hops.isEmpty) && ((!n2 || steps.isEmpty) && (!n3 || parts.isEmpty))) with
    | true => .ret [.bool true]
    | false => .stuck
  | _ => .stuck
theorem gTrue1_run {E : Env} {f : Nat} (hE : EnvOK Tryz.prog E) (h : ∀ rt nn st wy n1 n2 n3 fc hops steps parts nm, (n1 = true → hops = []) → (n2 = true → steps = []) → (n3 = true → parts = []) →
    ∃ n, (callN E n f [.d (sagaD rt nn st wy n1 n2 n3 fc hops steps parts nm)] []).out = some [.bool true]) : PureOK Tryz.prog f gTrue1 := PureOK.run mixed hE fun ds rs hr => by
  unfold gTrue1 at hr
  split at hr
  · rename_i rt nn eh n1 hops nm es n2 steps st wy ep n3 parts fc
    split at hr
    · rename_i hb
      simp only [Bool.and_eq_true, Bool.or_eq_true, Bool.not_eq_true', List.isEmpty_iff] at hb
      obtain ⟨⟨hb3, hb4, hb5⟩, c1, c2, c3⟩ := hb
      have hb3 := Sh.beq_eq hb3
      have hb4 := Sh.beq_eq hb4
      have hb5 := Sh.beq_eq hb5
      subst hb3 hb4 hb5
      cases hr
      exact h rt nn st wy n1 n2 n3 fc hops steps parts nm (empty_of c1) (empty_of c2) (empty_of c3)
    · cases hr
  · cases hr
theorem or_empty {b : Bool} {l : List D} (h : b = true → l = []) : (!b || l.isEmpty) = true := by
  cases b with
  | false => rfl
  | true => rw [h rfl]; rfl
theorem gTrue1_in : ∀ xs, WFs [sagaTy] xs → (gTrue1 xs).eval = some [.bool true] := by
  intro xs h
  match xs, h with
  | [x], h =>
    obtain ⟨rt, nn, st, wy, n1, n2, n3, fc, hops, steps, parts, nm, rfl, b1, b2, b3⟩ := saga_in h.1
    have s1 : Sh.beq hopSh hopSh = true := rfl
    have s2 : Sh.beq stepSh stepSh = true := rfl
    have s3 : Sh.beq partSh partSh = true := rfl
    simp only [gTrue1, s1, s2, s3, or_empty b1, or_empty b2, or_empty b3, Bool.and_self]
    rfl
theorem own1 : ownKnob Tryz.prog.godebug = none := by kernel_rfl
theorem laidOut : laidOutB Tryz.prog = true := by kernel_rfl
end Go.Proofs.YtkjiaijkdefkgaaGreatDoor.A
/- The walks of layer 25's laws hold of the program. -/
namespace Go.Proofs.YtkjiaijkdefkgaaGreatDoor.A
open Go Go.AM Go.Proofs
theorem okE19 : EnvOK Tryz.prog E19 := ok19 mixed okE14
theorem okEV : EnvOK Tryz.prog EV := (okE0.pureAt (PureOK.self mixed okE0 60 19)).pureAt (PureOK.self mixed okE0 60 15)
theorem pure14 : PureOK Tryz.prog 14 g20 := PureOK.run mixed okEV fun ds rs h => by
  unfold g20 at h
  split at h
  · cases h
    exact ⟨60, awake25_run⟩
  · cases h
theorem okF7 : EnvOK Tryz.prog F7 := (okF6 mixed okE19).pureAt pure14
def tabs3 : List (String × DataW Unit) := Rows.childTellsRow.laid
theorem tabs3_met (os : Os) (args : Array Value) : laidMetH Tryz.prog tabs3 ((World.laidAll Tryz.prog os tabs3).forCall (fun _ _ => 0) ⟨#[], args, []⟩).memory := by
  rw [MakeChecks.laidMetH_plain _ _ _ (by kernel_rfl)]
  exact laidMet_laidAll _ (by kernel_rfl) (by kernel_rfl)
end Go.Proofs.YtkjiaijkdefkgaaGreatDoor.A
