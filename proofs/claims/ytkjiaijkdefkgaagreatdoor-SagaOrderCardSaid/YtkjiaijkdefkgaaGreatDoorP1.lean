/- The walks hold of the program; what the seat's laws have in common. -/
import Derived.Test.YtkjiaijkdefkgaaGreatDoorHe
import Derived.Test.YtkjiaijkdefkgaaGreatDoorW
import Derived.Test.YtkjiaijkdefkgaaGreatDoorCk
import Derived.Test.YtkjiaijkdefkgaaGreatDoorGd
import Derived.Test.YtkjiaijkdefkgaaGreatDoorRows
import Derived.Test.YtkjiaijkdefkgaaGreatDoorTie
import Derived.Test.YtkjiaijkdefkgaaGreatDoorCards
import Derived.ProofKit
import Derived.LaidMore
import Derived.Lay
import Derived.OpenShut
import Derived.Stop.Joined
import Derived.Test.YtkjiaijkdefkgaaGreatDoorHf

namespace Go.Proofs.YtkjiaijkdefkgaaGreatDoor.A
open Go Go.AM Go.Proofs
theorem okE0 : EnvOK Tryz.prog E0 := EnvOK.of_table tableOK
theorem okE7 : EnvOK Tryz.prog E7 := ok7 mixed (ok6 mixed (ok5 mixed (ok4 mixed (ok3 mixed (ok2 mixed (ok1 mixed okE0))))))
theorem okE5 : EnvOK Tryz.prog E5 := ok5 mixed (ok4 mixed (ok3 mixed (ok2 mixed (ok1 mixed okE0))))
theorem okE8 : EnvOK Tryz.prog E8 := ok8 mixed okE7
theorem okE14 : EnvOK Tryz.prog E14 := ok14 mixed (ok13 mixed (ok12 mixed (ok11 mixed (ok10 mixed (ok9 mixed okE8)))))
theorem okE15 : EnvOK Tryz.prog E15 := ok15 mixed okE14 (fn74 mixed okE5)
theorem okE16 : EnvOK Tryz.prog E16 := ok16 mixed okE15 (fn46 mixed okE7) (fn50 mixed okE7)
theorem okE17 : EnvOK Tryz.prog E17 := ok17 mixed okE16 (fn56 mixed okE8)
theorem okE18 : EnvOK Tryz.prog E18 := ok18 mixed okE17
theorem pure122 : PureOK Tryz.prog 122 (gAt [([.str lit21], toks21)]) := PureOK.at mixed okE18 fun p hp => by
  simp only [List.mem_singleton] at hp
  subst hp
  exact ⟨60, scan_run⟩
theorem pure172 : PureOK Tryz.prog 172 (gAt [(tokl21, [.int .i64 0])]) := PureOK.at mixed okE18 fun p hp => by
  simp only [List.mem_singleton] at hp
  subst hp
  exact ⟨60, lex_run⟩
theorem okEW3 : EnvOK Tryz.prog EW3 := (okE18.pureAt pure122).pureAt pure172
theorem pure68 : PureOK Tryz.prog 68 (gAt [([.str lit21], text21)]) := PureOK.at mixed okEW3 fun p hp => by
  simp only [List.mem_singleton] at hp
  subst hp
  exact ⟨60, text_run⟩
theorem okEW4 : EnvOK Tryz.prog EW4 := EnvOK.selfAt mixed ((okE18.pureAt pure68).pureAt (PureOK.self mixed okE0 60 69)) 60 33
theorem pureAw : PureOK Tryz.prog 32 g20 := PureOK.run mixed okEW4 fun ds rs h => by
  unfold g20 at h
  split at h
  · cases h
    exact ⟨60, awake_run⟩
  · cases h
theorem okE20 : EnvOK Tryz.prog E20 := (ok19 mixed okE18).pureAt pureAw
def hopTy : Ty := .st [.int .i64, .int .i64]
def stepTy : Ty := .st [.st [.int .i64, .str, .int .i64], .int .i64, .str, .int .i64, .int .i64]
def partTy : Ty := .st [.int .i64, .int .i64]
def sagaTy : Ty := .st [.st [.int .i64, .int .i64, .sl hopTy], .st [.str, .sl stepTy], .int .i64, .int .i64, .sl partTy, .bool]
def moveTy : Ty := .st [.int .i64, .st [.int .i64, .int .i64, .sl hopTy], .int .i64, .int .i64, .st [.str, .sl stepTy]]
/-- a saga that comes in -/
theorem saga_in {x : D} (h0 : WF sagaTy.sh x) : ∃ rt nn st wy n1 n2 n3 fc hops steps parts nm, x = sagaD rt nn st wy n1 n2 n3 fc hops steps parts nm ∧ (n1 = true → hops = []) ∧ (n2 = true → steps = []) ∧ (n3 = true → parts = []) := by
  obtain ⟨cs, rfl, h⟩ := WF.inv_agg h0
  obtain ⟨_, _, rfl, a1, h⟩ := h.inv
  obtain ⟨_, _, rfl, a2, h⟩ := h.inv
  obtain ⟨_, _, rfl, a3, h⟩ := h.inv
  obtain ⟨_, _, rfl, a4, h⟩ := h.inv
  obtain ⟨_, _, rfl, a5, h⟩ := h.inv
  obtain ⟨_, _, rfl, a6, h⟩ := h.inv
  obtain ⟨_, _, rfl, a7, h⟩ := h.inv
  obtain ⟨_, _, rfl, a8, h⟩ := h.inv
  obtain ⟨_, _, rfl, a9, h⟩ := h.inv
  obtain rfl := h.inv_nil
  obtain ⟨rt, rfl⟩ := a1.inv_int
  obtain ⟨nn, rfl⟩ := a2.inv_int
  obtain ⟨n1, hops, rfl, b1, -⟩ := a3.inv_sl
  obtain ⟨nm, rfl⟩ := a4.inv_str
  obtain ⟨n2, steps, rfl, b2, -⟩ := a5.inv_sl
  obtain ⟨st, rfl⟩ := a6.inv_int
  obtain ⟨wy, rfl⟩ := a7.inv_int
  obtain ⟨n3, parts, rfl, b3, -⟩ := a8.inv_sl
  obtain ⟨fc, rfl⟩ := a9.inv_bool
  exact ⟨rt, nn, st, wy, n1, n2, n3, fc, hops, steps, parts, nm, rfl, b1, b2, b3⟩
theorem move_in {x : D} (h0 : WF moveTy.sh x) : ∃ kd mr mn sp mw k1 k2 mh ms mm, x = moveD kd mr mn sp mw k1 k2 mh ms mm ∧ (k1 = true → mh = []) ∧ (k2 = true → ms = []) := by
  obtain ⟨cs, rfl, h⟩ := WF.inv_agg h0
  obtain ⟨_, _, rfl, a1, h⟩ := h.inv
  obtain ⟨_, _, rfl, a2, h⟩ := h.inv
  obtain ⟨_, _, rfl, a3, h⟩ := h.inv
  obtain ⟨_, _, rfl, a4, h⟩ := h.inv
  obtain ⟨_, _, rfl, a5, h⟩ := h.inv
  obtain ⟨_, _, rfl, a6, h⟩ := h.inv
  obtain ⟨_, _, rfl, a7, h⟩ := h.inv
  obtain ⟨_, _, rfl, a8, h⟩ := h.inv
  obtain rfl := h.inv_nil
  obtain ⟨kd, rfl⟩ := a1.inv_int
  obtain ⟨mr, rfl⟩ := a2.inv_int
  obtain ⟨mn, rfl⟩ := a3.inv_int
  obtain ⟨k1, mh, rfl, b1, -⟩ := a4.inv_sl
  obtain ⟨sp, rfl⟩ := a5.inv_int
  obtain ⟨mw, rfl⟩ := a6.inv_int
  obtain ⟨mm, rfl⟩ := a7.inv_str
  obtain ⟨k2, ms, rfl, b2, -⟩ := a8.inv_sl
  exact ⟨kd, mr, mn, sp, mw, k1, k2, mh, ms, mm, rfl, b1, b2⟩
theorem empty_of {b : Bool} {l : List D} (h : b = false ∨ l = []) (hb : b = true) : l = [] := by
  rcases h with h | h
  · rw [hb] at h; cases h
  · exact h
/-- a law of a saga: it tells true -/
def gTrue1 : List D → Tree (List D)
  | [.agg [.int .i64 _, .int .i64 _, .sl eh n1 hops, .str _, .sl es n2 steps, .int .i64 _, .int .i64 _, .sl ep n3 parts, .bool _]] =>
    match (Sh.beq eh hopSh && (Sh.beq es stepSh && Sh.beq ep partSh)) && ((!n1 || hops.isEmpty) && ((!n2 || steps.isEmpty) && (!n3 || parts.isEmpty))) with
    | true => .ret [.bool true]
    | false => .stuck
  | _ => .stuck
theorem gTrue1_run {E : Env} {f : Nat} (hE : EnvOK Tryz.prog E) (h : ∀ rt nn st wy n1 n2 n3 fc hops steps parts nm, (n1 = true → hops = []) → (n2 = true → steps = []) → (n3 = true → parts = []) →
    ∃ n, (callN E n f [.d (sagaD rt nn st wy n1 n2 n3 fc hops steps parts nm)] []).out = some [.bool true]) : PureOK Tryz.prog f gTrue1 := PureOK.run mixed hE fun ds rs hr => by
  unfold gTrue1 at hr
  split at hr
  · rename_i rt nn eh n1 hops nm es n2 steps st wy ep n3 parts fc
    split at hr
    · rename_i hb
      simp only [Bool.and_eq_true, Bool.or_eq_true, Bool.not_eq_true', List.isEmpty_iff] at hb
      obtain ⟨⟨hb3, hb4, hb5⟩, c1, c2, c3⟩ := hb
      have hb3 := Sh.beq_eq hb3
      have hb4 := Sh.beq_eq hb4
      have hb5 := Sh.beq_eq hb5
      subst hb3 hb4 hb5
      cases hr
      exact h rt nn st wy n1 n2 n3 fc hops steps parts nm (empty_of c1) (empty_of c2) (empty_of c3)
    · cases hr
  · cases hr
theorem or_empty {b : Bool} {l : List D} (h : b = true → l = []) : (!b || l.isEmpty) = true := by
  cases b with
  | false => rfl
  | true => rw [h rfl]; rfl
theorem gTrue1_in : ∀ xs, WFs [sagaTy] xs → (gTrue1 xs).eval = some [.bool true] := by
  intro xs h
  match xs, h with
  | [x], h =>
    obtain ⟨rt, nn, st, wy, n1, n2, n3, fc, hops, steps, parts, nm, rfl, b1, b2, b3⟩ := saga_in h.1
    have s1 : Sh.beq hopSh hopSh = true := rfl
    have s2 : Sh.beq stepSh stepSh = true := rfl
    have s3 : Sh.beq partSh partSh = true := rfl
    simp only [gTrue1, s1, s2, s3, or_empty b1, or_empty b2, or_empty b3, Bool.and_self]
    rfl
/-- a law of a saga and a move: it tells true -/
def gTrue2 : List D → Tree (List D)
  | [.agg [.int .i64 _, .int .i64 _, .sl eh n1 hops, .str _, .sl es n2 steps, .int .i64 _, .int .i64 _, .sl ep n3 parts, .bool _], .agg [.int .i64 _, .int .i64 _, .int .i64 _, .sl eh' _ _, .int .i64 _, .int .i64 _, .str _, .sl es' _ _]] =>
    match ((Sh.beq eh hopSh && (Sh.beq es stepSh && Sh.beq ep partSh)) && (Sh.beq eh' hopSh && Sh.beq es' stepSh)) && ((!n1 || hops.isEmpty) && ((!n2 || steps.isEmpty) && (!n3 || parts.isEmpty))) with
    | true => .ret [.bool true]
    | false => .stuck
  | _ => .stuck
theorem gTrue2_run {E : Env} {f : Nat} (hE : EnvOK Tryz.prog E) (h : ∀ rt nn st wy n1 n2 n3 fc hops steps parts nm kd mr mn sp mw k1 k2 mh ms mm, (n1 = true → hops = []) → (n2 = true → steps = []) → (n3 = true → parts = []) →
    ∃ n, (callN E n f [.d (sagaD rt nn st wy n1 n2 n3 fc hops steps parts nm), .d (moveD kd mr mn sp mw k1 k2 mh ms mm)] []).out = some [.bool true]) : PureOK Tryz.prog f gTrue2 := PureOK.run mixed hE fun ds rs hr => by
  unfold gTrue2 at hr
  split at hr
  · rename_i rt nn eh n1 hops nm es n2 steps st wy ep n3 parts fc kd mr mn eh' k1 mh sp mw mm es' k2 ms
    split at hr
    · rename_i hb
      simp only [Bool.and_eq_true, Bool.or_eq_true, Bool.not_eq_true', List.isEmpty_iff] at hb
      obtain ⟨⟨⟨hb3, hb4, hb5⟩, hb6, hb7⟩, c1, c2, c3⟩ := hb
      have hb3 := Sh.beq_eq hb3
      have hb4 := Sh.beq_eq hb4
      have hb5 := Sh.beq_eq hb5
      have hb6 := Sh.beq_eq hb6
      have hb7 := Sh.beq_eq hb7
      subst hb3 hb4 hb5 hb6 hb7
      cases hr
      exact h rt nn st wy n1 n2 n3 fc hops steps parts nm kd mr mn sp mw k1 k2 mh ms mm (empty_of c1) (empty_of c2) (empty_of c3)
    · cases hr
  · cases hr
theorem gTrue2_in : ∀ xs, WFs [sagaTy, moveTy] xs → (gTrue2 xs).eval = some [.bool true] := by
  intro xs h
  match xs, h with
  | [x, y], h =>
    obtain ⟨rt, nn, st, wy, n1, n2, n3, fc, hops, steps, parts, nm, rfl, b1, b2, b3⟩ := saga_in h.1
    obtain ⟨kd, mr, mn, sp, mw, k1, k2, mh, ms, mm, rfl, -, -⟩ := move_in h.2.1
    have s1 : Sh.beq hopSh hopSh = true := rfl
    have s2 : Sh.beq stepSh stepSh = true := rfl
    have s3 : Sh.beq partSh partSh = true := rfl
    simp only [gTrue2, s1, s2, s3, or_empty b1, or_empty b2, or_empty b3, Bool.and_self]
    rfl
/-! what the rows ask of the program -/
theorem own1 : ownKnob Tryz.prog.godebug = none := by kernel_rfl
theorem laidOut : laidOutB Tryz.prog = true := by kernel_rfl
def tabs5 : List (String × DataW Unit) := Rows.sagaDecidedRow.laid
theorem tabs5_met (os : Os) (args : Array Value) : laidMetH Tryz.prog tabs5 ((World.laidAll Tryz.prog os tabs5).forCall (fun _ _ => 0) ⟨#[], args, []⟩).memory := by
  rw [MakeChecks.laidMetH_plain _ _ _ (by kernel_rfl)]
  exact laidMet_laidAll _ (by kernel_rfl) (by kernel_rfl)
end Go.Proofs.YtkjiaijkdefkgaaGreatDoor.A
/- Laws of a move and a list of moves: what comes in. -/
namespace Go.Proofs.YtkjiaijkdefkgaaGreatDoor.A
open Go Go.AM Go.Proofs
theorem okE13 : EnvOK Tryz.prog E13 := ok13 mixed (ok12 mixed (ok11 mixed (ok10 mixed (ok9 mixed okE8))))
theorem fnClone : FnOK Tryz.prog 148 (Cclone partSh) := fn93 mixed okE13
theorem okE23 : EnvOK Tryz.prog E23 := ok23 mixed okE20 fnClone
/-- a law of a move and a list of moves: it tells true -/
def gTrueL : List D → Tree (List D)
  | [.agg [.int .i64 _, .int .i64 _, .int .i64 _, .sl eh k1 mh, .int .i64 _, .int .i64 _, .str _, .sl es k2 ms], .sl em _ _] =>
    match ((Sh.beq eh hopSh && Sh.beq es stepSh) && Sh.beq em moveSh) && ((!k1 || mh.isEmpty) && (!k2 || ms.isEmpty)) with
    | true => .ret [.bool true]
    | false => .stuck
  | _ => .stuck
theorem gTrueL_run {E : Env} {f : Nat} (hE : EnvOK Tryz.prog E) (h : ∀ kd mr mn sp mw k1 k2 mh ms mm nl l, (k1 = true → mh = []) → (k2 = true → ms = []) →
    ∃ n, (callN E n f [.d (moveD kd mr mn sp mw k1 k2 mh ms mm), .d (.sl moveSh nl l)] []).out = some [.bool true]) : PureOK Tryz.prog f gTrueL := PureOK.run mixed hE fun ds rs hr => by
  unfold gTrueL at hr
  split at hr
  · rename_i kd mr mn eh k1 mh sp mw mm es k2 ms em nl l
    split at hr
    · rename_i hb
      simp only [Bool.and_eq_true, Bool.or_eq_true, Bool.not_eq_true', List.isEmpty_iff] at hb
      obtain ⟨⟨⟨hb3, hb4⟩, hb5⟩, c1, c2⟩ := hb
      have hb3 := Sh.beq_eq hb3
      have hb4 := Sh.beq_eq hb4
      have hb5 := Sh.beq_eq hb5
      subst hb3 hb4 hb5
      cases hr
      exact h kd mr mn sp mw k1 k2 mh ms mm nl l (empty_of c1) (empty_of c2)
    · cases hr
  · cases hr
theorem gTrueL_in : ∀ xs, WFs [moveTy, .sl moveTy] xs → (gTrueL xs).eval = some [.bool true] := by
  intro xs h
  match xs, h with
  | [x, y], h =>
    obtain ⟨kd, mr, mn, sp, mw, k1, k2, mh, ms, mm, rfl, b1, b2⟩ := move_in h.1
    obtain ⟨nl, l, rfl, -, -⟩ := WF.inv_sl h.2.1
    have s1 : Sh.beq hopSh hopSh = true := rfl
    have s2 : Sh.beq stepSh stepSh = true := rfl
    have s3 : Sh.beq (Ty.sh moveTy) moveSh = true := rfl
    simp only [gTrueL, s1, s2, s3, or_empty b1, or_empty b2, Bool.and_self]
    rfl
end Go.Proofs.YtkjiaijkdefkgaaGreatDoor.A
