/- What a move makes of a saga, where it has no hops. -/
import Derived.Test.YtknoielhkilkpaaDoorHc
import Derived.Test.YtknoielhkilkpaaDoorHb
import Derived.Test.YtknoielhkilkpaaDoorGc
import Derived.KernelRfl

namespace Go.Proofs.YtknoielhkilkpaaDoor.A
open Go Go.AM
theorem run24B1 (m n : Nat) (rt nn st wy : Int) (fc : Bool) (steps parts : List D) (nm : List UInt8) (mr mn sp mw : Int) (k1 k2 : Bool) (mh ms : List D) (mm : List UInt8) (hl : parts.length ≤ 1000000) (hs : steps.length ≤ 1000000) (hh : ([] : List D).length ≤ 1000000) (hmh : mh.length ≤ 1000000)
    (hps : parts.length ≤ steps.length) (hmay : mayOk rt nn st wy fc [] steps parts nm = true) (hmove : moveOk 1 mr mn sp mw mh ms mm = true) (hid : idCmp mr mn rt nn mh [] = 0) :
    (enterM E17 (callN E17 (m+40)) n c24 [.d (sagaD rt nn st wy true false false fc [] steps parts nm), .d (moveD 1 mr mn sp mw k1 k2 mh ms mm)] []).out = some (mkA true rt nn [] nm steps (ap1 st wy fc [] parts steps sp mw)) := by
  have hsp := moveOk_sp hmove
  have hl' : decide (parts.length ≤ 1000000) = true := decide_eq_true hl
  have hs' : decide (steps.length ≤ 1000000) = true := decide_eq_true hs
  have hh' : decide (([] : List D).length ≤ 1000000) = true := decide_eq_true hh
  have hmh' : decide (mh.length ≤ 1000000) = true := decide_eq_true hmh
  have hps' : decide (parts.length ≤ steps.length) = true := decide_eq_true hps
  rw [e24B1]
  simp only [hl', hs', hmh', hmay, hmove, hid, cond_true, bne_self_eq_false, cond_false]
  unfold ap1
  by_cases hp : (parts.length : Int) ≤ sp
  · simp only [condM]
    first | done | rfl
  · have h1 : decide (0 ≤ sp ∧ sp < (parts.length : Int)) = true := by simp; omega
    have h2 : decide (0 ≤ sp ∧ sp < (steps.length : Int)) = true := by simp; omega
    have h3 : decide ((parts.length : Int) ≤ sp) = false := decide_eq_false hp
    simp only [condM]
    first | done | rfl
theorem run24B2 (m n : Nat) (rt nn st wy : Int) (fc : Bool) (steps parts : List D) (nm : List UInt8) (mr mn sp mw : Int) (k1 k2 : Bool) (mh ms : List D) (mm : List UInt8) (hl : parts.length ≤ 1000000) (hs : steps.length ≤ 1000000) (hh : ([] : List D).length ≤ 1000000) (hmh : mh.length ≤ 1000000)
    (hps : parts.length ≤ steps.length) (hmay : mayOk rt nn st wy fc [] steps parts nm = true) (hmove : moveOk 2 mr mn sp mw mh ms mm = true) (hid : idCmp mr mn rt nn mh [] = 0) :
    (enterM E17 (callN E17 (m+40)) n c24 [.d (sagaD rt nn st wy true false false fc [] steps parts nm), .d (moveD 2 mr mn sp mw k1 k2 mh ms mm)] []).out = some (mkA true rt nn [] nm steps (ap2 st wy fc [] parts steps sp mw)) := by
  have hsp := moveOk_sp hmove
  have hl' : decide (parts.length ≤ 1000000) = true := decide_eq_true hl
  have hs' : decide (steps.length ≤ 1000000) = true := decide_eq_true hs
  have hh' : decide (([] : List D).length ≤ 1000000) = true := decide_eq_true hh
  have hmh' : decide (mh.length ≤ 1000000) = true := decide_eq_true hmh
  have hps' : decide (parts.length ≤ steps.length) = true := decide_eq_true hps
  rw [e24B2]
  simp only [hl', hs', hmh', hmay, hmove, hid, cond_true, bne_self_eq_false, cond_false]
  unfold ap2
  by_cases hp : (parts.length : Int) ≤ sp
  · simp only [condM]
    first | done | rfl
  · have h1 : decide (0 ≤ sp ∧ sp < (parts.length : Int)) = true := by simp; omega
    have h2 : decide (0 ≤ sp ∧ sp < (steps.length : Int)) = true := by simp; omega
    have h3 : decide ((parts.length : Int) ≤ sp) = false := decide_eq_false hp
    simp only [condM]
    first | done | rfl
theorem run24B3 (m n : Nat) (rt nn st wy : Int) (fc : Bool) (steps parts : List D) (nm : List UInt8) (mr mn sp mw : Int) (k1 k2 : Bool) (mh ms : List D) (mm : List UInt8) (hl : parts.length ≤ 1000000) (hs : steps.length ≤ 1000000) (hh : ([] : List D).length ≤ 1000000) (hmh : mh.length ≤ 1000000)
    (hps : parts.length ≤ steps.length) (hmay : mayOk rt nn st wy fc [] steps parts nm = true) (hmove : moveOk 3 mr mn sp mw mh ms mm = true) (hid : idCmp mr mn rt nn mh [] = 0) :
    (enterM E17 (callN E17 (m+40)) n c24 [.d (sagaD rt nn st wy true false false fc [] steps parts nm), .d (moveD 3 mr mn sp mw k1 k2 mh ms mm)] []).out = some (mkA true rt nn [] nm steps (ap3 st wy fc [] parts steps sp mw)) := by
  have hsp := moveOk_sp hmove
  have hl' : decide (parts.length ≤ 1000000) = true := decide_eq_true hl
  have hs' : decide (steps.length ≤ 1000000) = true := decide_eq_true hs
  have hh' : decide (([] : List D).length ≤ 1000000) = true := decide_eq_true hh
  have hmh' : decide (mh.length ≤ 1000000) = true := decide_eq_true hmh
  have hps' : decide (parts.length ≤ steps.length) = true := decide_eq_true hps
  rw [e24B3]
  simp only [hl', hs', hmh', hmay, hmove, hid, cond_true, bne_self_eq_false, cond_false]
  unfold ap3
  by_cases hp : (parts.length : Int) ≤ sp
  · simp only [decide_eq_true hp, cond_true, condM]
    first | done | rfl
  · have h1 : decide (0 ≤ sp ∧ sp < (parts.length : Int)) = true := by simp; omega
    have h2 : decide (0 ≤ sp ∧ sp < (steps.length : Int)) = true := by simp; omega
    have h3 : decide ((parts.length : Int) ≤ sp) = false := decide_eq_false hp
    simp only [h1, h2, h3, cond_true, cond_false, condM]
    first | done | rfl
theorem run24B4 (m n : Nat) (rt nn st wy : Int) (fc : Bool) (steps parts : List D) (nm : List UInt8) (mr mn sp mw : Int) (k1 k2 : Bool) (mh ms : List D) (mm : List UInt8) (hl : parts.length ≤ 1000000) (hs : steps.length ≤ 1000000) (hh : ([] : List D).length ≤ 1000000) (hmh : mh.length ≤ 1000000)
    (hps : parts.length ≤ steps.length) (hmay : mayOk rt nn st wy fc [] steps parts nm = true) (hmove : moveOk 4 mr mn sp mw mh ms mm = true) (hid : idCmp mr mn rt nn mh [] = 0) :
    (enterM E17 (callN E17 (m+40)) n c24 [.d (sagaD rt nn st wy true false false fc [] steps parts nm), .d (moveD 4 mr mn sp mw k1 k2 mh ms mm)] []).out = some (mkA true rt nn [] nm steps (ap4 st wy fc [] parts steps sp mw)) := by
  have hsp := moveOk_sp hmove
  have hl' : decide (parts.length ≤ 1000000) = true := decide_eq_true hl
  have hs' : decide (steps.length ≤ 1000000) = true := decide_eq_true hs
  have hh' : decide (([] : List D).length ≤ 1000000) = true := decide_eq_true hh
  have hmh' : decide (mh.length ≤ 1000000) = true := decide_eq_true hmh
  have hps' : decide (parts.length ≤ steps.length) = true := decide_eq_true hps
  rw [e24B4]
  simp only [hl', hs', hmh', hmay, hmove, hid, cond_true, bne_self_eq_false, cond_false]
  unfold ap4
  by_cases hp : (parts.length : Int) ≤ sp
  · simp only [decide_eq_true hp, cond_true, condM]
    first | done | rfl
  · have h1 : decide (0 ≤ sp ∧ sp < (parts.length : Int)) = true := by simp; omega
    have h2 : decide (0 ≤ sp ∧ sp < (steps.length : Int)) = true := by simp; omega
    have h3 : decide ((parts.length : Int) ≤ sp) = false := decide_eq_false hp
    simp only [h1, h2, h3, cond_true, cond_false, condM]
    first | done | rfl
theorem run24B5 (m n : Nat) (rt nn st wy : Int) (fc : Bool) (steps parts : List D) (nm : List UInt8) (mr mn sp mw : Int) (k1 k2 : Bool) (mh ms : List D) (mm : List UInt8) (hl : parts.length ≤ 1000000) (hs : steps.length ≤ 1000000) (hh : ([] : List D).length ≤ 1000000) (hmh : mh.length ≤ 1000000)
    (hps : parts.length ≤ steps.length) (hmay : mayOk rt nn st wy fc [] steps parts nm = true) (hmove : moveOk 5 mr mn sp mw mh ms mm = true) (hid : idCmp mr mn rt nn mh [] = 0) :
    (enterM E17 (callN E17 (m+40)) n c24 [.d (sagaD rt nn st wy true false false fc [] steps parts nm), .d (moveD 5 mr mn sp mw k1 k2 mh ms mm)] []).out = some (mkA true rt nn [] nm steps (ap5 st wy fc [] parts steps sp mw)) := by
  have hsp := moveOk_sp hmove
  have hl' : decide (parts.length ≤ 1000000) = true := decide_eq_true hl
  have hs' : decide (steps.length ≤ 1000000) = true := decide_eq_true hs
  have hh' : decide (([] : List D).length ≤ 1000000) = true := decide_eq_true hh
  have hmh' : decide (mh.length ≤ 1000000) = true := decide_eq_true hmh
  have hps' : decide (parts.length ≤ steps.length) = true := decide_eq_true hps
  rw [e24B5]
  simp only [hl', hs', hmh', hmay, hmove, hid, cond_true, bne_self_eq_false, cond_false]
  unfold ap5
  by_cases hp : (parts.length : Int) ≤ sp
  · simp only [decide_eq_true hp, cond_true, condM]
    first | done | rfl
  · have h1 : decide (0 ≤ sp ∧ sp < (parts.length : Int)) = true := by simp; omega
    have h2 : decide (0 ≤ sp ∧ sp < (steps.length : Int)) = true := by simp; omega
    have h3 : decide ((parts.length : Int) ≤ sp) = false := decide_eq_false hp
    simp only [h1, h2, h3, cond_true, cond_false, condM]
    first | done | rfl
theorem run24B6 (m n : Nat) (rt nn st wy : Int) (fc : Bool) (steps parts : List D) (nm : List UInt8) (mr mn sp mw : Int) (k1 k2 : Bool) (mh ms : List D) (mm : List UInt8) (hl : parts.length ≤ 1000000) (hs : steps.length ≤ 1000000) (hh : ([] : List D).length ≤ 1000000) (hmh : mh.length ≤ 1000000)
    (hps : parts.length ≤ steps.length) (hmay : mayOk rt nn st wy fc [] steps parts nm = true) (hmove : moveOk 6 mr mn sp mw mh ms mm = true) (hid : idCmp mr mn rt nn mh [] = 0) :
    (enterM E17 (callN E17 (m+40)) n c24 [.d (sagaD rt nn st wy true false false fc [] steps parts nm), .d (moveD 6 mr mn sp mw k1 k2 mh ms mm)] []).out = some (mkA true rt nn [] nm steps (ap6 st wy fc [] parts steps sp mw)) := by
  have hsp := moveOk_sp hmove
  have hl' : decide (parts.length ≤ 1000000) = true := decide_eq_true hl
  have hs' : decide (steps.length ≤ 1000000) = true := decide_eq_true hs
  have hh' : decide (([] : List D).length ≤ 1000000) = true := decide_eq_true hh
  have hmh' : decide (mh.length ≤ 1000000) = true := decide_eq_true hmh
  have hps' : decide (parts.length ≤ steps.length) = true := decide_eq_true hps
  rw [e24B6]
  simp only [hl', hs', hmh', hmay, hmove, hid, cond_true, bne_self_eq_false, cond_false]
  unfold ap6
  by_cases hp : (parts.length : Int) ≤ sp
  · simp only [decide_eq_true hp, cond_true, condM]
    first | done | rfl
  · have h1 : decide (0 ≤ sp ∧ sp < (parts.length : Int)) = true := by simp; omega
    have h2 : decide (0 ≤ sp ∧ sp < (steps.length : Int)) = true := by simp; omega
    have h3 : decide ((parts.length : Int) ≤ sp) = false := decide_eq_false hp
    simp only [h1, h2, h3, cond_true, cond_false, condM]
    first | done | rfl
theorem run24B7 (m n : Nat) (rt nn st wy : Int) (fc : Bool) (steps parts : List D) (nm : List UInt8) (mr mn sp mw : Int) (k1 k2 : Bool) (mh ms : List D) (mm : List UInt8) (hl : parts.length ≤ 1000000) (hs : steps.length ≤ 1000000) (hh : ([] : List D).length ≤ 1000000) (hmh : mh.length ≤ 1000000)
    (hps : parts.length ≤ steps.length) (hmay : mayOk rt nn st wy fc [] steps parts nm = true) (hmove : moveOk 7 mr mn sp mw mh ms mm = true) (hid : idCmp mr mn rt nn mh [] = 0) :
    (enterM E17 (callN E17 (m+40)) n c24 [.d (sagaD rt nn st wy true false false fc [] steps parts nm), .d (moveD 7 mr mn sp mw k1 k2 mh ms mm)] []).out = some (mkA true rt nn [] nm steps (ap7 st wy fc [] parts steps sp mw)) := by
  have hsp := moveOk_sp hmove
  have hl' : decide (parts.length ≤ 1000000) = true := decide_eq_true hl
  have hs' : decide (steps.length ≤ 1000000) = true := decide_eq_true hs
  have hh' : decide (([] : List D).length ≤ 1000000) = true := decide_eq_true hh
  have hmh' : decide (mh.length ≤ 1000000) = true := decide_eq_true hmh
  have hps' : decide (parts.length ≤ steps.length) = true := decide_eq_true hps
  rw [e24B7]
  simp only [hl', hs', hmh', hmay, hmove, hid, cond_true, bne_self_eq_false, cond_false]
  unfold ap7
  by_cases hp : (parts.length : Int) ≤ sp
  · simp only [decide_eq_true hp, cond_true, condM]
    first | done | rfl
  · have h1 : decide (0 ≤ sp ∧ sp < (parts.length : Int)) = true := by simp; omega
    have h2 : decide (0 ≤ sp ∧ sp < (steps.length : Int)) = true := by simp; omega
    have h3 : decide ((parts.length : Int) ≤ sp) = false := decide_eq_false hp
    simp only [h1, h2, h3, cond_true, cond_false, condM]
    first | done | rfl
theorem run24B8 (m n : Nat) (rt nn st wy : Int) (fc : Bool) (steps parts : List D) (nm : List UInt8) (mr mn sp mw : Int) (k1 k2 : Bool) (mh ms : List D) (mm : List UInt8) (hl : parts.length ≤ 1000000) (hs : steps.length ≤ 1000000) (hh : ([] : List D).length ≤ 1000000) (hmh : mh.length ≤ 1000000)
    (hps : parts.length ≤ steps.length) (hmay : mayOk rt nn st wy fc [] steps parts nm = true) (hmove : moveOk 8 mr mn sp mw mh ms mm = true) (hid : idCmp mr mn rt nn mh [] = 0) :
    (enterM E17 (callN E17 (m+40)) n c24 [.d (sagaD rt nn st wy true false false fc [] steps parts nm), .d (moveD 8 mr mn sp mw k1 k2 mh ms mm)] []).out = some (mkA true rt nn [] nm steps (ap8 st wy fc [] parts steps sp mw)) := by
  have hsp := moveOk_sp hmove
  have hl' : decide (parts.length ≤ 1000000) = true := decide_eq_true hl
  have hs' : decide (steps.length ≤ 1000000) = true := decide_eq_true hs
  have hh' : decide (([] : List D).length ≤ 1000000) = true := decide_eq_true hh
  have hmh' : decide (mh.length ≤ 1000000) = true := decide_eq_true hmh
  have hps' : decide (parts.length ≤ steps.length) = true := decide_eq_true hps
  rw [e24B8]
  simp only [hl', hs', hmh', hmay, hmove, hid, cond_true, bne_self_eq_false, cond_false]
  unfold ap8
  by_cases hp : (parts.length : Int) ≤ sp
  · simp only [condM]
    first | done | rfl
  · have h1 : decide (0 ≤ sp ∧ sp < (parts.length : Int)) = true := by simp; omega
    have h2 : decide (0 ≤ sp ∧ sp < (steps.length : Int)) = true := by simp; omega
    have h3 : decide ((parts.length : Int) ≤ sp) = false := decide_eq_false hp
    simp only [condM]
    first | done | rfl
theorem run24B9 (m n : Nat) (rt nn st wy : Int) (fc : Bool) (steps parts : List D) (nm : List UInt8) (mr mn sp mw : Int) (k1 k2 : Bool) (mh ms : List D) (mm : List UInt8) (hl : parts.length ≤ 1000000) (hs : steps.length ≤ 1000000) (hh : ([] : List D).length ≤ 1000000) (hmh : mh.length ≤ 1000000)
    (hps : parts.length ≤ steps.length) (hmay : mayOk rt nn st wy fc [] steps parts nm = true) (hmove : moveOk 9 mr mn sp mw mh ms mm = true) (hid : idCmp mr mn rt nn mh [] = 0) :
    (enterM E17 (callN E17 (m+40)) n c24 [.d (sagaD rt nn st wy true false false fc [] steps parts nm), .d (moveD 9 mr mn sp mw k1 k2 mh ms mm)] []).out = some (mkA true rt nn [] nm steps (ap9 st wy fc [] parts steps sp mw)) := by
  have hsp := moveOk_sp hmove
  have hl' : decide (parts.length ≤ 1000000) = true := decide_eq_true hl
  have hs' : decide (steps.length ≤ 1000000) = true := decide_eq_true hs
  have hh' : decide (([] : List D).length ≤ 1000000) = true := decide_eq_true hh
  have hmh' : decide (mh.length ≤ 1000000) = true := decide_eq_true hmh
  have hps' : decide (parts.length ≤ steps.length) = true := decide_eq_true hps
  rw [e24B9]
  simp only [hl', hs', hmh', hps', hmay, hmove, hid, cond_true, bne_self_eq_false, cond_false]
  unfold ap9
  by_cases hp : (parts.length : Int) ≤ sp
  · simp only [condM]
    first | done | rfl
  · have h1 : decide (0 ≤ sp ∧ sp < (parts.length : Int)) = true := by simp; omega
    have h2 : decide (0 ≤ sp ∧ sp < (steps.length : Int)) = true := by simp; omega
    have h3 : decide ((parts.length : Int) ≤ sp) = false := decide_eq_false hp
    simp only [condM]
    first | done | rfl
theorem run24B10 (m n : Nat) (rt nn st wy : Int) (fc : Bool) (steps parts : List D) (nm : List UInt8) (mr mn sp mw : Int) (k1 k2 : Bool) (mh ms : List D) (mm : List UInt8) (hl : parts.length ≤ 1000000) (hs : steps.length ≤ 1000000) (hh : ([] : List D).length ≤ 1000000) (hmh : mh.length ≤ 1000000)
    (hps : parts.length ≤ steps.length) (hmay : mayOk rt nn st wy fc [] steps parts nm = true) (hmove : moveOk 10 mr mn sp mw mh ms mm = true) (hid : idCmp mr mn rt nn mh [] = 0) :
    (enterM E17 (callN E17 (m+40)) n c24 [.d (sagaD rt nn st wy true false false fc [] steps parts nm), .d (moveD 10 mr mn sp mw k1 k2 mh ms mm)] []).out = some (mkA true rt nn [] nm steps (ap10 st wy fc [] parts steps sp mw)) := by
  have hsp := moveOk_sp hmove
  have hl' : decide (parts.length ≤ 1000000) = true := decide_eq_true hl
  have hs' : decide (steps.length ≤ 1000000) = true := decide_eq_true hs
  have hh' : decide (([] : List D).length ≤ 1000000) = true := decide_eq_true hh
  have hmh' : decide (mh.length ≤ 1000000) = true := decide_eq_true hmh
  have hps' : decide (parts.length ≤ steps.length) = true := decide_eq_true hps
  rw [e24B10]
  simp only [hl', hs', hmh', hmay, hmove, hid, cond_true, bne_self_eq_false, cond_false]
  unfold ap10
  by_cases hp : (parts.length : Int) ≤ sp
  · simp only [condM]
    first | done | rfl
  · have h1 : decide (0 ≤ sp ∧ sp < (parts.length : Int)) = true := by simp; omega
    have h2 : decide (0 ≤ sp ∧ sp < (steps.length : Int)) = true := by simp; omega
    have h3 : decide ((parts.length : Int) ≤ sp) = false := decide_eq_false hp
    simp only [condM]
    first | done | rfl
theorem run24B11 (m n : Nat) (rt nn st wy : Int) (fc : Bool) (steps parts : List D) (nm : List UInt8) (mr mn sp mw : Int) (k1 k2 : Bool) (mh ms : List D) (mm : List UInt8) (hl : parts.length ≤ 1000000) (hs : steps.length ≤ 1000000) (hh : ([] : List D).length ≤ 1000000) (hmh : mh.length ≤ 1000000)
    (hps : parts.length ≤ steps.length) (hmay : mayOk rt nn st wy fc [] steps parts nm = true) (hmove : moveOk 11 mr mn sp mw mh ms mm = true) (hid : idCmp mr mn rt nn mh [] = 0) :
    (enterM E17 (callN E17 (m+40)) n c24 [.d (sagaD rt nn st wy true false false fc [] steps parts nm), .d (moveD 11 mr mn sp mw k1 k2 mh ms mm)] []).out = some (mkA true rt nn [] nm steps (ap11 st wy fc [] parts steps sp mw)) := by
  have hsp := moveOk_sp hmove
  have hl' : decide (parts.length ≤ 1000000) = true := decide_eq_true hl
  have hs' : decide (steps.length ≤ 1000000) = true := decide_eq_true hs
  have hh' : decide (([] : List D).length ≤ 1000000) = true := decide_eq_true hh
  have hmh' : decide (mh.length ≤ 1000000) = true := decide_eq_true hmh
  have hps' : decide (parts.length ≤ steps.length) = true := decide_eq_true hps
  rw [e24B11]
  simp only [hl', hs', hmh', hmay, hmove, hid, cond_true, bne_self_eq_false, cond_false]
  unfold ap11
  by_cases hp : (parts.length : Int) ≤ sp
  · simp only [decide_eq_true hp, cond_true, condM]
    first | done | rfl
  · have h1 : decide (0 ≤ sp ∧ sp < (parts.length : Int)) = true := by simp; omega
    have h2 : decide (0 ≤ sp ∧ sp < (steps.length : Int)) = true := by simp; omega
    have h3 : decide ((parts.length : Int) ≤ sp) = false := decide_eq_false hp
    simp only [h1, h2, h3, cond_true, cond_false, condM]
    first | done | rfl
theorem run24B12 (m n : Nat) (rt nn st wy : Int) (fc : Bool) (steps parts : List D) (nm : List UInt8) (mr mn sp mw : Int) (k1 k2 : Bool) (mh ms : List D) (mm : List UInt8) (hl : parts.length ≤ 1000000) (hs : steps.length ≤ 1000000) (hh : ([] : List D).length ≤ 1000000) (hmh : mh.length ≤ 1000000)
    (hps : parts.length ≤ steps.length) (hmay : mayOk rt nn st wy fc [] steps parts nm = true) (hmove : moveOk 12 mr mn sp mw mh ms mm = true) (hid : idCmp mr mn rt nn mh [] = 0) :
    (enterM E17 (callN E17 (m+40)) n c24 [.d (sagaD rt nn st wy true false false fc [] steps parts nm), .d (moveD 12 mr mn sp mw k1 k2 mh ms mm)] []).out = some (mkA true rt nn [] nm steps (ap12 st wy fc [] parts steps sp mw)) := by
  have hsp := moveOk_sp hmove
  have hl' : decide (parts.length ≤ 1000000) = true := decide_eq_true hl
  have hs' : decide (steps.length ≤ 1000000) = true := decide_eq_true hs
  have hh' : decide (([] : List D).length ≤ 1000000) = true := decide_eq_true hh
  have hmh' : decide (mh.length ≤ 1000000) = true := decide_eq_true hmh
  have hps' : decide (parts.length ≤ steps.length) = true := decide_eq_true hps
  rw [e24B12]
  simp only [hl', hs', hmh', hmay, hmove, hid, cond_true, bne_self_eq_false, cond_false]
  unfold ap12
  by_cases hp : (parts.length : Int) ≤ sp
  · simp only [decide_eq_true hp, cond_true, condM]
    first | done | rfl
  · have h1 : decide (0 ≤ sp ∧ sp < (parts.length : Int)) = true := by simp; omega
    have h2 : decide (0 ≤ sp ∧ sp < (steps.length : Int)) = true := by simp; omega
    have h3 : decide ((parts.length : Int) ≤ sp) = false := decide_eq_false hp
    simp only [h1, h2, h3, cond_true, cond_false, condM]
    first | done | rfl
theorem run24B13 (m n : Nat) (rt nn st wy : Int) (fc : Bool) (steps parts : List D) (nm : List UInt8) (mr mn sp mw : Int) (k1 k2 : Bool) (mh ms : List D) (mm : List UInt8) (h13 : st = 5 → 0 ≤ cur st parts) (hl : parts.length ≤ 1000000) (hs : steps.length ≤ 1000000) (hh : ([] : List D).length ≤ 1000000) (hmh : mh.length ≤ 1000000)
    (hps : parts.length ≤ steps.length) (hmay : mayOk rt nn st wy fc [] steps parts nm = true) (hmove : moveOk 13 mr mn sp mw mh ms mm = true) (hid : idCmp mr mn rt nn mh [] = 0) :
    (enterM E17 (callN E17 (m+40)) n c24 [.d (sagaD rt nn st wy true false false fc [] steps parts nm), .d (moveD 13 mr mn sp mw k1 k2 mh ms mm)] []).out = some (mkA true rt nn [] nm steps (ap13 st wy fc [] parts steps sp mw)) := by
  have hsp := moveOk_sp hmove
  have hl' : decide (parts.length ≤ 1000000) = true := decide_eq_true hl
  have hs' : decide (steps.length ≤ 1000000) = true := decide_eq_true hs
  have hh' : decide (([] : List D).length ≤ 1000000) = true := decide_eq_true hh
  have hmh' : decide (mh.length ≤ 1000000) = true := decide_eq_true hmh
  have hps' : decide (parts.length ≤ steps.length) = true := decide_eq_true hps
  have hlt13 := cur_lt st parts
  rw [e24B13]
  simp only [hl', hs', hmh', hmay, hmove, hid, cond_true, bne_self_eq_false, cond_false]
  unfold ap13
  by_cases h5 : st = 5
  · have c1 : decide (0 ≤ cur st parts ∧ cur st parts < (parts.length : Int)) = true := by have := h13 h5; simp; omega
    simp only [c1, cond_true, condM]
    first | done | rfl
  · have h5' : (st != 5) = true := by simpa using h5
    simp only [h5', cond_true, condM]
    first | done | rfl
theorem run24B14 (m n : Nat) (rt nn st wy : Int) (fc : Bool) (steps parts : List D) (nm : List UInt8) (mr mn sp mw : Int) (k1 k2 : Bool) (mh ms : List D) (mm : List UInt8) (hl : parts.length ≤ 1000000) (hs : steps.length ≤ 1000000) (hh : ([] : List D).length ≤ 1000000) (hmh : mh.length ≤ 1000000)
    (hps : parts.length ≤ steps.length) (hmay : mayOk rt nn st wy fc [] steps parts nm = true) (hmove : moveOk 14 mr mn sp mw mh ms mm = true) (hid : idCmp mr mn rt nn mh [] = 0) :
    (enterM E17 (callN E17 (m+40)) n c24 [.d (sagaD rt nn st wy true false false fc [] steps parts nm), .d (moveD 14 mr mn sp mw k1 k2 mh ms mm)] []).out = some (mkA true rt nn [] nm steps (ap14 st wy fc [] parts steps sp mw)) := by
  have hsp := moveOk_sp hmove
  have hl' : decide (parts.length ≤ 1000000) = true := decide_eq_true hl
  have hs' : decide (steps.length ≤ 1000000) = true := decide_eq_true hs
  have hh' : decide (([] : List D).length ≤ 1000000) = true := decide_eq_true hh
  have hmh' : decide (mh.length ≤ 1000000) = true := decide_eq_true hmh
  have hps' : decide (parts.length ≤ steps.length) = true := decide_eq_true hps
  rw [e24B14]
  simp only [hl', hs', hmh', hmay, hmove, hid, cond_true, bne_self_eq_false, cond_false]
  unfold ap14
  by_cases hp : (parts.length : Int) ≤ sp
  · simp only [condM]
    first | done | rfl
  · have h1 : decide (0 ≤ sp ∧ sp < (parts.length : Int)) = true := by simp; omega
    have h2 : decide (0 ≤ sp ∧ sp < (steps.length : Int)) = true := by simp; omega
    have h3 : decide ((parts.length : Int) ≤ sp) = false := decide_eq_false hp
    simp only [condM]
    first | done | rfl
theorem run24B15 (m n : Nat) (rt nn st wy : Int) (fc : Bool) (steps parts : List D) (nm : List UInt8) (mr mn sp mw : Int) (k1 k2 : Bool) (mh ms : List D) (mm : List UInt8) (hl : parts.length ≤ 1000000) (hs : steps.length ≤ 1000000) (hh : ([] : List D).length ≤ 1000000) (hmh : mh.length ≤ 1000000)
    (hps : parts.length ≤ steps.length) (hmay : mayOk rt nn st wy fc [] steps parts nm = true) (hmove : moveOk 15 mr mn sp mw mh ms mm = true) (hid : idCmp mr mn rt nn mh [] = 0) :
    (enterM E17 (callN E17 (m+40)) n c24 [.d (sagaD rt nn st wy true false false fc [] steps parts nm), .d (moveD 15 mr mn sp mw k1 k2 mh ms mm)] []).out = some (mkA true rt nn [] nm steps (ap15 st wy fc [] parts steps sp mw)) := by
  have hsp := moveOk_sp hmove
  have hl' : decide (parts.length ≤ 1000000) = true := decide_eq_true hl
  have hs' : decide (steps.length ≤ 1000000) = true := decide_eq_true hs
  have hh' : decide (([] : List D).length ≤ 1000000) = true := decide_eq_true hh
  have hmh' : decide (mh.length ≤ 1000000) = true := decide_eq_true hmh
  have hps' : decide (parts.length ≤ steps.length) = true := decide_eq_true hps
  rw [e24B15]
  simp only [hl', hs', hmh', hmay, hmove, hid, cond_true, bne_self_eq_false, cond_false]
  unfold ap15
  by_cases hp : (parts.length : Int) ≤ sp
  · simp only [decide_eq_true hp, cond_true, condM]
    first | done | rfl
  · have h1 : decide (0 ≤ sp ∧ sp < (parts.length : Int)) = true := by simp; omega
    have h2 : decide (0 ≤ sp ∧ sp < (steps.length : Int)) = true := by simp; omega
    have h3 : decide ((parts.length : Int) ≤ sp) = false := decide_eq_false hp
    simp only [h1, h2, h3, cond_true, cond_false, condM]
    first | done | rfl
theorem run24B16 (m n : Nat) (rt nn st wy : Int) (fc : Bool) (steps parts : List D) (nm : List UInt8) (mr mn sp mw : Int) (k1 k2 : Bool) (mh ms : List D) (mm : List UInt8) (hl : parts.length ≤ 1000000) (hs : steps.length ≤ 1000000) (hh : ([] : List D).length ≤ 1000000) (hmh : mh.length ≤ 1000000)
    (hps : parts.length ≤ steps.length) (hmay : mayOk rt nn st wy fc [] steps parts nm = true) (hmove : moveOk 16 mr mn sp mw mh ms mm = true) (hid : idCmp mr mn rt nn mh [] = 0) :
    (enterM E17 (callN E17 (m+40)) n c24 [.d (sagaD rt nn st wy true false false fc [] steps parts nm), .d (moveD 16 mr mn sp mw k1 k2 mh ms mm)] []).out = some (mkA true rt nn [] nm steps (ap16 st wy fc [] parts steps sp mw)) := by
  have hsp := moveOk_sp hmove
  have hl' : decide (parts.length ≤ 1000000) = true := decide_eq_true hl
  have hs' : decide (steps.length ≤ 1000000) = true := decide_eq_true hs
  have hh' : decide (([] : List D).length ≤ 1000000) = true := decide_eq_true hh
  have hmh' : decide (mh.length ≤ 1000000) = true := decide_eq_true hmh
  have hps' : decide (parts.length ≤ steps.length) = true := decide_eq_true hps
  rw [e24B16]
  simp only [hl', hs', hmh', hps', hmay, hmove, hid, calm_len, cond_true, bne_self_eq_false, cond_false]
  unfold ap16
  by_cases hp : (parts.length : Int) ≤ sp
  · simp only [condM]
    first | done | rfl
  · have h1 : decide (0 ≤ sp ∧ sp < (parts.length : Int)) = true := by simp; omega
    have h2 : decide (0 ≤ sp ∧ sp < (steps.length : Int)) = true := by simp; omega
    have h3 : decide ((parts.length : Int) ≤ sp) = false := decide_eq_false hp
    simp only [condM]
    first | done | rfl
end Go.Proofs.YtknoielhkilkpaaDoor.A
/- Equations of the walk. -/
open Go Go.AM Go.Proofs
namespace Go.Proofs.YtknoielhkilkpaaDoor.A
theorem e23 (m n : Nat) (rt nn st wy : Int) (n1 n2 n3 fc : Bool) (hops steps parts : List D) (nm : List UInt8) : Tree.out (enterM E17 (callN E17 (m+40)) n c23 [.d (sagaD rt nn st wy n1 n2 n3 fc hops steps parts nm)] []) = bif decide (List.length steps ≤ (1000000 : Nat)) then bif decide (List.length parts ≤ (1000000 : Nat)) then bif (bif mayOk rt nn st wy fc hops steps parts nm then (0 : Int) else (230 : Int)) != (0 : Int) then some [D.int .i64 (-1 : Int)] else bif decide (List.length parts ≤ (1000000 : Nat)) then some [D.int .i64 (cur st parts)] else none else none else none := by kernel_rfl
theorem e27 (m n : Nat) (rt nn st wy : Int) (n1 n2 n3 fc : Bool) (hops steps parts : List D) (nm : List UInt8) : Tree.out (enterM E17 (callN E17 (m+40)) n c27 [.d (sagaD rt nn st wy n1 n2 n3 fc hops steps parts nm)] []) = bif decide (List.length steps ≤ (1000000 : Nat)) then bif decide (List.length parts ≤ (1000000 : Nat)) then bif (bif mayOk rt nn st wy fc hops steps parts nm then (0 : Int) else (230 : Int)) != (0 : Int) then some [D.bool false] else bif st == (7 : Int) then some [D.bool true] else bif st == (6 : Int) then bif decide (List.length parts ≤ (1000000 : Nat)) then bif decide (List.length parts ≤ List.length steps) then some [D.bool !!allI (p97 [D.int .i64 1, D.int .i64 2]) (List.length parts) parts steps] else none else none else bif st == (3 : Int) then bif decide (List.length parts ≤ (1000000 : Nat)) then bif decide (List.length parts ≤ List.length steps) then bif !!allI (p97 [D.int .i64 2]) (List.length parts) parts steps then bif fc then bif decide (List.length parts ≤ (1000000 : Nat)) then bif decide (List.length parts ≤ List.length steps) then some [D.bool !!allI (p97 [D.int .i64 1]) (List.length parts) parts steps] else none else none else some [D.bool true] else some [D.bool false] else none else none else some [D.bool false] else none else none := by kernel_rfl
end Go.Proofs.YtknoielhkilkpaaDoor.A
/- saga.Apply, saga.Current, saga.Ended: what they tell. -/
namespace Go.Proofs.YtknoielhkilkpaaDoor.A
open Go Go.AM
theorem mayOk_len {rt nn st wy : Int} {fc : Bool} {hops steps parts : List D} {nm : List UInt8} (h : mayOk rt nn st wy fc hops steps parts nm = true) (h7 : st ≠ 7) :
    parts.length = steps.length ∧ 1 ≤ steps.length ∧ steps.length ≤ 8 := by
  have h7' : (st == 7) = false := by simpa using h7
  unfold mayOk at h
  rw [h7'] at h
  cases h1 : idOk rt nn hops
  · simp [h1] at h
  · cases h2 : defOk nm steps
    · simp [h1, h2] at h
    · cases h3 : ((parts.length : Int) != (steps.length : Int))
      · have h3 : (parts.length : Int) = steps.length := by simpa using h3
        unfold defOk at h2
        simp only [Bool.and_eq_true, Bool.not_eq_true', decide_eq_false_iff_not] at h2
        omega
      · simp [h1, h2, h3] at h
theorem may_stuck {rt nn st wy : Int} {fc : Bool} {hops steps parts : List D} {nm : List UInt8} (h : mayOk rt nn st wy fc hops steps parts nm = true) (h5 : st = 5) : 0 ≤ cur st parts := by
  subst h5
  have e7 : ((5 : Int) == 7) = false := rfl
  unfold mayOk at h
  rw [e7] at h
  cases h1 : idOk rt nn hops
  · simp [h1] at h
  · cases h2 : defOk nm steps
    · simp [h1, h2] at h
    · cases h3 : ((parts.length : Int) != (steps.length : Int))
      · cases h4 : allI p47 parts.length parts steps
        · simp [h1, h2, h3, h4] at h
        · cases h5 : fitsOk 5 wy fc hops parts steps
          · simp [h1, h2, h3, h4, h5] at h
          · have h6 : undoOk 5 wy fc parts steps = true := h5
            unfold undoOk at h6
            by_cases hc : 0 ≤ cur 5 parts
            · exact hc
            · exfalso
              have e4 : ((5 : Int) == 4) = false := rfl
              simp only [decide_eq_false hc, cond_false, e4, cself] at h6
              cases fc <;> cases decide (1 ≤ wy) <;> cases decide (wy ≤ 9) <;> cases allI (p97 w4) parts.length parts steps <;> cases h6
      · simp [h1, h2, h3] at h
def arOk : AR → Bool
  | .bad _ => false
  | .good _ _ _ _ => true
def arE : AR → Int
  | .bad e => e
  | .good _ _ _ _ => 0
def arS : AR → Int
  | .bad _ => 0
  | .good s _ _ _ => s
def arW : AR → Int
  | .bad _ => 0
  | .good _ w _ _ => w
def arF : AR → Bool
  | .bad _ => false
  | .good _ _ f _ => f
def arP : AR → List D
  | .bad _ => []
  | .good _ _ _ p => p
def mkE (n1 : Bool) (rt nn : Int) (hops : List D) (nm : List UInt8) (steps : List D) (r : AR) : List D :=
  [D.agg [.int .i64 (bif arOk r then rt else 0), .int .i64 (bif arOk r then nn else 0), .sl hopSh (bif arOk r then n1 else true) (bif arOk r then hops else []), .str (bif arOk r then nm else []), .sl stepSh (!arOk r) (bif arOk r then steps else []),
    .int .i64 (arS r), .int .i64 (arW r), .sl partSh (!arOk r) (arP r), .bool (arF r)], .int .i64 (arE r)]
theorem mkE_eq (n1 : Bool) (rt nn : Int) (hops : List D) (nm : List UInt8) (steps : List D) (r : AR) : mkE n1 rt nn hops nm steps r = mkA n1 rt nn hops nm steps r := by cases r <;> rfl
def appR (rt nn st wy : Int) (fc : Bool) (hops steps parts : List D) (nm : List UInt8) (kd mr mn sp mw : Int) (mh ms : List D) (mm : List UInt8) : AR :=
  bif mayOk rt nn st wy fc hops steps parts nm then bif moveOk kd mr mn sp mw mh ms mm && idCmp mr mn rt nn mh hops == 0 then bif st == 7 then AR.bad 210 else applyR st wy fc hops parts steps kd sp mw else AR.bad 210 else AR.bad 230
def gd24 (rt nn st wy : Int) (n1 n2 n3 fc : Bool) (hops steps parts : List D) (nm : List UInt8) (_kd : Int) (mh : List D) : Bool :=
  (decide (steps.length ≤ 1000000) && (decide (parts.length ≤ 1000000) && (decide (hops.length ≤ 1000000) && decide (mh.length ≤ 1000000)))) &&
  ((!mayOk rt nn st wy fc hops steps parts nm || st == 7) || (!n2 && (!n3 && (!n1 || hops.isEmpty))))
theorem run24P (m n : Nat) (rt nn st wy : Int) (n1 n2 n3 fc : Bool) (hops steps parts : List D) (nm : List UInt8) (kd mr mn sp mw : Int) (k1 k2 : Bool) (mh ms : List D) (mm : List UInt8) (h1 : steps.length ≤ 1000000) (h2 : parts.length ≤ 1000000) (h3 : mh.length ≤ 1000000)
    (h : ¬ (mayOk rt nn st wy fc hops steps parts nm = true ∧ moveOk kd mr mn sp mw mh ms mm = true ∧ idCmp mr mn rt nn mh hops = 0)) :
    (enterM EP24 (callN EP24 (m+40)) n c24 [.d (sagaD rt nn st wy n1 n2 n3 fc hops steps parts nm), .d (moveD kd mr mn sp mw k1 k2 mh ms mm)] []).out = some (mkE n1 rt nn hops nm steps (appR rt nn st wy fc hops steps parts nm kd mr mn sp mw mh ms mm)) := by
  rw [e24P, mkE_eq]
  simp only [decide_eq_true h1, decide_eq_true h2, decide_eq_true h3, cond_true]
  unfold appR
  cases a : mayOk rt nn st wy fc hops steps parts nm
  · rfl
  · cases b : moveOk kd mr mn sp mw mh ms mm
    · rfl
    · have c : (idCmp mr mn rt nn mh hops != 0) = true := by
        simp only [bne_iff_ne, ne_eq]
        intro hc
        exact h ⟨a, b, hc⟩
      have c' : (idCmp mr mn rt nn mh hops == 0) = false := by simpa using c
      simp only [c, c']
      rfl
theorem run24C (m n : Nat) (rt nn wy : Int) (n1 n2 n3 fc : Bool) (hops steps parts : List D) (nm : List UInt8) (kd mr mn sp mw : Int) (k1 k2 : Bool) (mh ms : List D) (mm : List UInt8) (h1 : steps.length ≤ 1000000) (h2 : parts.length ≤ 1000000) (h3 : mh.length ≤ 1000000) (h4 : hops.length ≤ 1000000)
    (hmay : mayOk rt nn 7 wy fc hops steps parts nm = true) (hmove : moveOk kd mr mn sp mw mh ms mm = true) (hid : idCmp mr mn rt nn mh hops = 0) :
    (enterM E17 (callN E17 (m+40)) n c24 [.d (sagaD rt nn 7 wy n1 n2 n3 fc hops steps parts nm), .d (moveD kd mr mn sp mw k1 k2 mh ms mm)] []).out = some (mkE n1 rt nn hops nm steps (appR rt nn 7 wy fc hops steps parts nm kd mr mn sp mw mh ms mm)) := by
  rw [e24C, mkE_eq]
  unfold appR
  simp only [decide_eq_true h1, decide_eq_true h2, decide_eq_true h3, decide_eq_true h4, cond_true, hmay, hmove, hid]
  cases n1 <;> cases n2 <;> cases n3 <;> rfl
theorem run24A (m n : Nat) (rt nn st wy : Int) (fc : Bool) (hops steps parts : List D) (nm : List UInt8) (kd mr mn sp mw : Int) (k1 k2 : Bool) (mh ms : List D) (mm : List UInt8) (h7 : st ≠ 7) (hl : parts.length ≤ 1000000) (hs : steps.length ≤ 1000000) (hh : (hops : List D).length ≤ 1000000) (hmh : mh.length ≤ 1000000)
    (hmay : mayOk rt nn st wy fc hops steps parts nm = true) (hmove : moveOk kd mr mn sp mw mh ms mm = true) (hid : idCmp mr mn rt nn mh hops = 0) :
    (enterM E17 (callN E17 (m+40)) n c24 [.d (sagaD rt nn st wy false false false fc hops steps parts nm), .d (moveD kd mr mn sp mw k1 k2 mh ms mm)] []).out = some (mkE false rt nn hops nm steps (appR rt nn st wy fc hops steps parts nm kd mr mn sp mw mh ms mm)) := by
  have hps : parts.length ≤ steps.length := by have := mayOk_len hmay h7; omega
  have h7' : (st == 7) = false := by simpa using h7
  have he : appR rt nn st wy fc hops steps parts nm kd mr mn sp mw mh ms mm = applyR st wy fc hops parts steps kd sp mw := by
    unfold appR
    rw [hmay, hmove, hid, h7']
    rfl
  rw [mkE_eq, he]
  have := moveOk_kd hmove
  have hk : kd = 1 ∨ kd = 2 ∨ kd = 3 ∨ kd = 4 ∨ kd = 5 ∨ kd = 6 ∨ kd = 7 ∨ kd = 8 ∨ kd = 9 ∨ kd = 10 ∨ kd = 11 ∨ kd = 12 ∨ kd = 13 ∨ kd = 14 ∨ kd = 15 ∨ kd = 16 := by omega
  rcases hk with rfl | rfl | rfl | rfl | rfl | rfl | rfl | rfl | rfl | rfl | rfl | rfl | rfl | rfl | rfl | rfl
  · exact run24A1 m n rt nn st wy fc hops steps parts nm mr mn sp mw k1 k2 mh ms mm hl hs hh hmh hps hmay hmove hid
  · exact run24A2 m n rt nn st wy fc hops steps parts nm mr mn sp mw k1 k2 mh ms mm hl hs hh hmh hps hmay hmove hid
  · exact run24A3 m n rt nn st wy fc hops steps parts nm mr mn sp mw k1 k2 mh ms mm hl hs hh hmh hps hmay hmove hid
  · exact run24A4 m n rt nn st wy fc hops steps parts nm mr mn sp mw k1 k2 mh ms mm hl hs hh hmh hps hmay hmove hid
  · exact run24A5 m n rt nn st wy fc hops steps parts nm mr mn sp mw k1 k2 mh ms mm hl hs hh hmh hps hmay hmove hid
  · exact run24A6 m n rt nn st wy fc hops steps parts nm mr mn sp mw k1 k2 mh ms mm hl hs hh hmh hps hmay hmove hid
  · exact run24A7 m n rt nn st wy fc hops steps parts nm mr mn sp mw k1 k2 mh ms mm hl hs hh hmh hps hmay hmove hid
  · exact run24A8 m n rt nn st wy fc hops steps parts nm mr mn sp mw k1 k2 mh ms mm hl hs hh hmh hps hmay hmove hid
  · exact run24A9 m n rt nn st wy fc hops steps parts nm mr mn sp mw k1 k2 mh ms mm hl hs hh hmh hps hmay hmove hid
  · exact run24A10 m n rt nn st wy fc hops steps parts nm mr mn sp mw k1 k2 mh ms mm hl hs hh hmh hps hmay hmove hid
  · exact run24A11 m n rt nn st wy fc hops steps parts nm mr mn sp mw k1 k2 mh ms mm hl hs hh hmh hps hmay hmove hid
  · exact run24A12 m n rt nn st wy fc hops steps parts nm mr mn sp mw k1 k2 mh ms mm hl hs hh hmh hps hmay hmove hid
  · exact run24A13 m n rt nn st wy fc hops steps parts nm mr mn sp mw k1 k2 mh ms mm (fun h => may_stuck hmay h) hl hs hh hmh hps hmay hmove hid
  · exact run24A14 m n rt nn st wy fc hops steps parts nm mr mn sp mw k1 k2 mh ms mm hl hs hh hmh hps hmay hmove hid
  · exact run24A15 m n rt nn st wy fc hops steps parts nm mr mn sp mw k1 k2 mh ms mm hl hs hh hmh hps hmay hmove hid
  · exact run24A16 m n rt nn st wy fc hops steps parts nm mr mn sp mw k1 k2 mh ms mm hl hs hh hmh hps hmay hmove hid
theorem run24B (m n : Nat) (rt nn st wy : Int) (fc : Bool) (steps parts : List D) (nm : List UInt8) (kd mr mn sp mw : Int) (k1 k2 : Bool) (mh ms : List D) (mm : List UInt8) (h7 : st ≠ 7) (hl : parts.length ≤ 1000000) (hs : steps.length ≤ 1000000) (hh : ([] : List D).length ≤ 1000000) (hmh : mh.length ≤ 1000000)
    (hmay : mayOk rt nn st wy fc [] steps parts nm = true) (hmove : moveOk kd mr mn sp mw mh ms mm = true) (hid : idCmp mr mn rt nn mh [] = 0) :
    (enterM E17 (callN E17 (m+40)) n c24 [.d (sagaD rt nn st wy true false false fc [] steps parts nm), .d (moveD kd mr mn sp mw k1 k2 mh ms mm)] []).out = some (mkE true rt nn [] nm steps (appR rt nn st wy fc [] steps parts nm kd mr mn sp mw mh ms mm)) := by
  have hps : parts.length ≤ steps.length := by have := mayOk_len hmay h7; omega
  have h7' : (st == 7) = false := by simpa using h7
  have he : appR rt nn st wy fc [] steps parts nm kd mr mn sp mw mh ms mm = applyR st wy fc [] parts steps kd sp mw := by
    unfold appR
    rw [hmay, hmove, hid, h7']
    rfl
  rw [mkE_eq, he]
  have := moveOk_kd hmove
  have hk : kd = 1 ∨ kd = 2 ∨ kd = 3 ∨ kd = 4 ∨ kd = 5 ∨ kd = 6 ∨ kd = 7 ∨ kd = 8 ∨ kd = 9 ∨ kd = 10 ∨ kd = 11 ∨ kd = 12 ∨ kd = 13 ∨ kd = 14 ∨ kd = 15 ∨ kd = 16 := by omega
  rcases hk with rfl | rfl | rfl | rfl | rfl | rfl | rfl | rfl | rfl | rfl | rfl | rfl | rfl | rfl | rfl | rfl
  · exact run24B1 m n rt nn st wy fc steps parts nm mr mn sp mw k1 k2 mh ms mm hl hs hh hmh hps hmay hmove hid
  · exact run24B2 m n rt nn st wy fc steps parts nm mr mn sp mw k1 k2 mh ms mm hl hs hh hmh hps hmay hmove hid
  · exact run24B3 m n rt nn st wy fc steps parts nm mr mn sp mw k1 k2 mh ms mm hl hs hh hmh hps hmay hmove hid
  · exact run24B4 m n rt nn st wy fc steps parts nm mr mn sp mw k1 k2 mh ms mm hl hs hh hmh hps hmay hmove hid
  · exact run24B5 m n rt nn st wy fc steps parts nm mr mn sp mw k1 k2 mh ms mm hl hs hh hmh hps hmay hmove hid
  · exact run24B6 m n rt nn st wy fc steps parts nm mr mn sp mw k1 k2 mh ms mm hl hs hh hmh hps hmay hmove hid
  · exact run24B7 m n rt nn st wy fc steps parts nm mr mn sp mw k1 k2 mh ms mm hl hs hh hmh hps hmay hmove hid
  · exact run24B8 m n rt nn st wy fc steps parts nm mr mn sp mw k1 k2 mh ms mm hl hs hh hmh hps hmay hmove hid
  · exact run24B9 m n rt nn st wy fc steps parts nm mr mn sp mw k1 k2 mh ms mm hl hs hh hmh hps hmay hmove hid
  · exact run24B10 m n rt nn st wy fc steps parts nm mr mn sp mw k1 k2 mh ms mm hl hs hh hmh hps hmay hmove hid
  · exact run24B11 m n rt nn st wy fc steps parts nm mr mn sp mw k1 k2 mh ms mm hl hs hh hmh hps hmay hmove hid
  · exact run24B12 m n rt nn st wy fc steps parts nm mr mn sp mw k1 k2 mh ms mm hl hs hh hmh hps hmay hmove hid
  · exact run24B13 m n rt nn st wy fc steps parts nm mr mn sp mw k1 k2 mh ms mm (fun h => may_stuck hmay h) hl hs hh hmh hps hmay hmove hid
  · exact run24B14 m n rt nn st wy fc steps parts nm mr mn sp mw k1 k2 mh ms mm hl hs hh hmh hps hmay hmove hid
  · exact run24B15 m n rt nn st wy fc steps parts nm mr mn sp mw k1 k2 mh ms mm hl hs hh hmh hps hmay hmove hid
  · exact run24B16 m n rt nn st wy fc steps parts nm mr mn sp mw k1 k2 mh ms mm hl hs hh hmh hps hmay hmove hid
def g24 : List D → Tree (List D)
  | [.agg [.int .i64 rt, .int .i64 nn, .sl eh n1 hops, .str nm, .sl es n2 steps, .int .i64 st, .int .i64 wy, .sl ep n3 parts, .bool fc], .agg [.int .i64 kd, .int .i64 mr, .int .i64 mn, .sl eh' _k1 mh, .int .i64 sp, .int .i64 mw, .str mm, .sl es' _k2 ms]] => match ((Sh.beq eh hopSh && (Sh.beq es stepSh && Sh.beq ep partSh)) && (Sh.beq eh' hopSh && Sh.beq es' stepSh)) with
    | true => .ite (gd24 rt nn st wy n1 n2 n3 fc hops steps parts nm kd mh) (fun _ => .ret (mkE n1 rt nn hops nm steps (appR rt nn st wy fc hops steps parts nm kd mr mn sp mw mh ms mm))) (fun _ => .stuck)
    | false => .stuck
  | _ => .stuck
theorem PureOK.or {P : Program} {f : FuncId} {g g1 g2 : List D → Tree (List D)} (h1 : PureOK P f g1) (h2 : PureOK P f g2) (h : ∀ ds rs, (g ds).eval = some rs → (g1 ds).eval = some rs ∨ (g2 ds).eval = some rs) : PureOK P f g :=
  fun ds rs hr w X us hX hR => (h ds rs hr).elim (fun hr => h1 ds rs hr w X us hX hR) (fun hr => h2 ds rs hr w X us hX hR)
/-- the moves that can't be made at once -/
def g24p : List D → Tree (List D)
  | [.agg [.int .i64 rt, .int .i64 nn, .sl eh n1 hops, .str nm, .sl es n2 steps, .int .i64 st, .int .i64 wy, .sl ep n3 parts, .bool fc], .agg [.int .i64 kd, .int .i64 mr, .int .i64 mn, .sl eh' _k1 mh, .int .i64 sp, .int .i64 mw, .str mm, .sl es' _k2 ms]] => match ((Sh.beq eh hopSh && (Sh.beq es stepSh && Sh.beq ep partSh)) && (Sh.beq eh' hopSh && Sh.beq es' stepSh)) with
    | true => .ite (gd24 rt nn st wy n1 n2 n3 fc hops steps parts nm kd mh) (fun _ => .ite (mayOk rt nn st wy fc hops steps parts nm && (moveOk kd mr mn sp mw mh ms mm && idCmp mr mn rt nn mh hops == 0)) (fun _ => .stuck) (fun _ => .ret (mkE n1 rt nn hops nm steps (appR rt nn st wy fc hops steps parts nm kd mr mn sp mw mh ms mm)))) (fun _ => .stuck)
    | false => .stuck
  | _ => .stuck
def g24q : List D → Tree (List D)
  | [.agg [.int .i64 rt, .int .i64 nn, .sl eh n1 hops, .str nm, .sl es n2 steps, .int .i64 st, .int .i64 wy, .sl ep n3 parts, .bool fc], .agg [.int .i64 kd, .int .i64 mr, .int .i64 mn, .sl eh' _k1 mh, .int .i64 sp, .int .i64 mw, .str mm, .sl es' _k2 ms]] => match ((Sh.beq eh hopSh && (Sh.beq es stepSh && Sh.beq ep partSh)) && (Sh.beq eh' hopSh && Sh.beq es' stepSh)) with
    | true => .ite (gd24 rt nn st wy n1 n2 n3 fc hops steps parts nm kd mh) (fun _ => .ite (mayOk rt nn st wy fc hops steps parts nm && (moveOk kd mr mn sp mw mh ms mm && idCmp mr mn rt nn mh hops == 0)) (fun _ => .ret (mkE n1 rt nn hops nm steps (appR rt nn st wy fc hops steps parts nm kd mr mn sp mw mh ms mm))) (fun _ => .stuck)) (fun _ => .stuck)
    | false => .stuck
  | _ => .stuck
theorem okEP24 {P : Program} (h0 : EnvOK P E17) : EnvOK P EP24 := h0.genAt fnNone
theorem pure24p {P : Program} (hm : P.follows .mixedOrders = true) (h0 : EnvOK P EP24) : PureOK P 24 g24p := PureOK.run hm h0 fun ds rs h => by
  unfold g24p at h
  split at h
  · rename_i rt nn eh n1 hops nm es n2 steps st wy ep n3 parts fc kd mr mn eh' k1 mh sp mw mm es' k2 ms
    split at h
    · rename_i hb
      simp only [Bool.and_eq_true] at hb
      obtain ⟨⟨hb1, hb2, hb3⟩, hb4, hb5⟩ := hb
      have hb1 := Sh.beq_eq hb1
      have hb2 := Sh.beq_eq hb2
      have hb3 := Sh.beq_eq hb3
      have hb4 := Sh.beq_eq hb4
      have hb5 := Sh.beq_eq hb5
      subst hb1 hb2 hb3 hb4 hb5
      obtain ⟨hg, h⟩ := eval_guard h
      unfold gd24 at hg
      simp only [Bool.and_eq_true, decide_eq_true_eq] at hg
      obtain ⟨⟨g1, g2, g3, g4⟩, hg⟩ := hg
      rcases eval_ite h with ⟨hc, h'⟩ | ⟨hc, h'⟩
      · cases h'
      · cases h'
        refine ⟨59 + 1, ?_⟩
        rw [callN_succ (fn := c24) rfl]
        refine run24P 19 59 rt nn st wy n1 n2 n3 fc hops steps parts nm kd mr mn sp mw k1 k2 mh ms mm g1 g2 g4 ?_
        rintro ⟨a, b, c⟩
        simp [a, b, c] at hc
    · cases h
  · cases h
theorem pure24q {P : Program} (hm : P.follows .mixedOrders = true) (h0 : EnvOK P E17) : PureOK P 24 g24q := PureOK.run hm h0 fun ds rs h => by
  unfold g24q at h
  split at h
  · rename_i rt nn eh n1 hops nm es n2 steps st wy ep n3 parts fc kd mr mn eh' k1 mh sp mw mm es' k2 ms
    split at h
    · rename_i hb
      simp only [Bool.and_eq_true] at hb
      obtain ⟨⟨hb1, hb2, hb3⟩, hb4, hb5⟩ := hb
      have hb1 := Sh.beq_eq hb1
      have hb2 := Sh.beq_eq hb2
      have hb3 := Sh.beq_eq hb3
      have hb4 := Sh.beq_eq hb4
      have hb5 := Sh.beq_eq hb5
      subst hb1 hb2 hb3 hb4 hb5
      obtain ⟨hg, h⟩ := eval_guard h
      unfold gd24 at hg
      simp only [Bool.and_eq_true, decide_eq_true_eq] at hg
      obtain ⟨⟨g1, g2, g3, g4⟩, hg⟩ := hg
      obtain ⟨hc, h⟩ := eval_guard h
      simp only [Bool.and_eq_true, beq_iff_eq] at hc
      obtain ⟨hmay, hmove, hid⟩ := hc
      cases h
      refine ⟨59 + 1, ?_⟩
      rw [callN_succ (fn := c24) rfl]
      by_cases h7 : st = 7
      · subst h7
        exact run24C 19 59 rt nn wy n1 n2 n3 fc hops steps parts nm kd mr mn sp mw k1 k2 mh ms mm g1 g2 g4 g3 hmay hmove hid
      · have h7' : (st == 7) = false := by simpa using h7
        rw [hmay, h7'] at hg
        simp only [Bool.not_true, Bool.false_or, Bool.and_eq_true, Bool.not_eq_true', Bool.or_eq_true] at hg
        obtain ⟨rfl, rfl, hn⟩ := hg
        cases n1 with
        | false => exact run24A 19 59 rt nn st wy fc hops steps parts nm kd mr mn sp mw k1 k2 mh ms mm h7 g2 g1 g3 g4 hmay hmove hid
        | true =>
          have hn : hops = [] := by
            rcases hn with hn | hn
            · cases hn
            · simpa using hn
          subst hn
          exact run24B 19 59 rt nn st wy fc steps parts nm kd mr mn sp mw k1 k2 mh ms mm h7 g2 g1 g3 g4 hmay hmove hid
    · cases h
  · cases h
theorem pure24 {P : Program} (hm : P.follows .mixedOrders = true) (h0 : EnvOK P E17) : PureOK P 24 g24 :=
  PureOK.or (pure24p hm (okEP24 h0)) (pure24q hm h0) fun ds rs h => by
    unfold g24 at h
    split at h
    · rename_i rt nn eh n1 hops nm es n2 steps st wy ep n3 parts fc kd mr mn eh' k1 mh sp mw mm es' k2 ms
      split at h
      · rename_i hb
        obtain ⟨hg, h⟩ := eval_guard h
        cases hc : (mayOk rt nn st wy fc hops steps parts nm && (moveOk kd mr mn sp mw mh ms mm && idCmp mr mn rt nn mh hops == 0))
        · left
          simp only [g24p, hb, hg, hc]
          exact h
        · right
          simp only [g24q, hb, hg, hc]
          exact h
      · cases h
    · cases h
def curR (rt nn st wy : Int) (fc : Bool) (hops steps parts : List D) (nm : List UInt8) : Int := bif mayOk rt nn st wy fc hops steps parts nm then cur st parts else -1
def w12 : List D := [.int .i64 1, .int .i64 2]
def w2 : List D := [.int .i64 2]
def w1 : List D := [.int .i64 1]
def endR0 (st : Int) (fc : Bool) (parts steps : List D) : Bool :=
  bif st == 7 then true else bif st == 6 then allI (p97 w12) parts.length parts steps else bif st == 3 then bif allI (p97 w2) parts.length parts steps then bif fc then allI (p97 w1) parts.length parts steps else true else false else false
def endR (rt nn st wy : Int) (fc : Bool) (hops steps parts : List D) (nm : List UInt8) : Bool := bif mayOk rt nn st wy fc hops steps parts nm then endR0 st fc parts steps else false
theorem run23 (m n : Nat) (rt nn st wy : Int) (n1 n2 n3 fc : Bool) (hops steps parts : List D) (nm : List UInt8) (h1 : steps.length ≤ 1000000) (h2 : parts.length ≤ 1000000) :
    (enterM E17 (callN E17 (m+40)) n c23 [.d (sagaD rt nn st wy n1 n2 n3 fc hops steps parts nm)] []).out = some [.int .i64 (curR rt nn st wy fc hops steps parts nm)] := by
  rw [e23]
  simp only [decide_eq_true h1, decide_eq_true h2, cond_true, curR]
  cases mayOk rt nn st wy fc hops steps parts nm <;> rfl
theorem condB (b x y : Bool) : (bif b then some [D.bool x] else some [D.bool y]) = some [D.bool (bif b then x else y)] := by cases b <;> rfl
theorem run27 (m n : Nat) (rt nn st wy : Int) (n1 n2 n3 fc : Bool) (hops steps parts : List D) (nm : List UInt8) (h1 : steps.length ≤ 1000000) (h2 : parts.length ≤ 1000000) :
    (enterM E17 (callN E17 (m+40)) n c27 [.d (sagaD rt nn st wy n1 n2 n3 fc hops steps parts nm)] []).out = some [.bool (endR rt nn st wy fc hops steps parts nm)] := by
  rw [e27]
  unfold endR
  cases hm : mayOk rt nn st wy fc hops steps parts nm
  · simp only [decide_eq_true h1, decide_eq_true h2, cond_true]
    rfl
  · by_cases h7 : st = 7
    · subst h7
      simp only [decide_eq_true h1, decide_eq_true h2, cond_true]
      rfl
    · have hps : parts.length ≤ steps.length := by have := mayOk_len hm h7; omega
      simp only [decide_eq_true h1, decide_eq_true h2, decide_eq_true hps, cond_true, condB, Bool.not_not, bne_self_eq_false, cond_false]
      rfl
def g23 : List D → Tree (List D)
  | [.agg [.int .i64 rt, .int .i64 nn, .sl eh _n1 hops, .str nm, .sl es _n2 steps, .int .i64 st, .int .i64 wy, .sl ep _n3 parts, .bool fc]] => match (Sh.beq eh hopSh && (Sh.beq es stepSh && Sh.beq ep partSh)) with
    | true => .ite (decide (steps.length ≤ 1000000)) (fun _ => .ite (decide (parts.length ≤ 1000000)) (fun _ => .ret [.int .i64 (curR rt nn st wy fc hops steps parts nm)]) (fun _ => .stuck)) (fun _ => .stuck)
    | false => .stuck
  | _ => .stuck
theorem pure23 {P : Program} (hm : P.follows .mixedOrders = true) (h0 : EnvOK P E17) : PureOK P 23 g23 := PureOK.run hm h0 fun ds rs h => by
  unfold g23 at h
  split at h
  · rename_i rt nn eh n1 hops nm es n2 steps st wy ep n3 parts fc
    split at h
    · rename_i hb
      simp only [Bool.and_eq_true] at hb
      obtain ⟨hb3, hb4, hb5⟩ := hb
      have hb3 := Sh.beq_eq hb3
      have hb4 := Sh.beq_eq hb4
      have hb5 := Sh.beq_eq hb5
      subst hb3 hb4 hb5
      obtain ⟨hl, h⟩ := eval_guard h
      obtain ⟨hs, h⟩ := eval_guard h
      cases h
      exact ⟨59 + 1, by rw [callN_succ (fn := c23) rfl]; exact run23 19 59 rt nn st wy n1 n2 n3 fc hops steps parts nm (of_decide_eq_true hl) (of_decide_eq_true hs)⟩
    · cases h
  · cases h
def g27 : List D → Tree (List D)
  | [.agg [.int .i64 rt, .int .i64 nn, .sl eh _n1 hops, .str nm, .sl es _n2 steps, .int .i64 st, .int .i64 wy, .sl ep _n3 parts, .bool fc]] => match (Sh.beq eh hopSh && (Sh.beq es stepSh && Sh.beq ep partSh)) with
    | true => .ite (decide (steps.length ≤ 1000000)) (fun _ => .ite (decide (parts.length ≤ 1000000)) (fun _ => .ret [.bool (endR rt nn st wy fc hops steps parts nm)]) (fun _ => .stuck)) (fun _ => .stuck)
    | false => .stuck
  | _ => .stuck
theorem pure27 {P : Program} (hm : P.follows .mixedOrders = true) (h0 : EnvOK P E17) : PureOK P 27 g27 := PureOK.run hm h0 fun ds rs h => by
  unfold g27 at h
  split at h
  · rename_i rt nn eh n1 hops nm es n2 steps st wy ep n3 parts fc
    split at h
    · rename_i hb
      simp only [Bool.and_eq_true] at hb
      obtain ⟨hb3, hb4, hb5⟩ := hb
      have hb3 := Sh.beq_eq hb3
      have hb4 := Sh.beq_eq hb4
      have hb5 := Sh.beq_eq hb5
      subst hb3 hb4 hb5
      obtain ⟨hl, h⟩ := eval_guard h
      obtain ⟨hs, h⟩ := eval_guard h
      cases h
      exact ⟨59 + 1, by rw [callN_succ (fn := c27) rfl]; exact run27 19 59 rt nn st wy n1 n2 n3 fc hops steps parts nm (of_decide_eq_true hl) (of_decide_eq_true hs)⟩
    · cases h
  · cases h
def E18 : Env := ((E17.pureAt 24 false g24).pureAt 23 true g23).pureAt 27 true g27
theorem ok18 {P : Program} (hm : P.follows .mixedOrders = true) (h0 : EnvOK P E17) : EnvOK P E18 := ((h0.pureAt (pure24 hm h0)).pureAt (pure23 hm h0)).pureAt (pure27 hm h0)
end Go.Proofs.YtknoielhkilkpaaDoor.A
/- next.Next's walk. -/
open Go Go.AM Go.Proofs
namespace Go.Proofs.YtknoielhkilkpaaDoor.A
inductive NR where
  | no
  | mv (kd sp mw : Int)
def mkN (n1 : Bool) (rt nn : Int) (hops : List D) : NR → List D
  | .no => [D.agg [D.int IntKind.i64 (0 : Int), D.int IntKind.i64 (0 : Int), D.int IntKind.i64 (0 : Int), D.sl partSh true [], D.int IntKind.i64 (0 : Int), D.int IntKind.i64 (0 : Int), D.str [], D.sl stepSh true []], D.bool false]
  | .mv kd sp mw => [D.agg [.int .i64 kd, .int .i64 rt, .int .i64 nn, .sl hopSh n1 hops, .int .i64 sp, .int .i64 mw, .str [], .sl stepSh true []], .bool true]
theorem e21A (m n : Nat) (rt nn st wy : Int) (n2 n3 fc : Bool) (hops steps parts : List D) (nm : List UInt8) : Tree.out (enterM E18 (callN E18 (m+40)) n c21 [.d (sagaD rt nn st wy false n2 n3 fc hops steps parts nm)] []) = bif decide (List.length steps ≤ (1000000 : Nat)) then bif decide (List.length parts ≤ (1000000 : Nat)) then bif (bif mayOk rt nn st wy fc hops steps parts nm then (0 : Int) else (230 : Int)) != (0 : Int) then some (mkN false rt nn hops (NR.no)) else bif decide (List.length parts ≤ (1000000 : Nat)) then bif decide ((0 : Int) ≤ idxOf isGone parts) then bif st == (1 : Int) then bif decide (List.length hops ≤ (1000000 : Nat)) then some (mkN false rt nn hops (NR.mv (10 : Int) (0 : Int) (5 : Int))) else none else bif st == (2 : Int) then bif decide (List.length hops ≤ (1000000 : Nat)) then some (mkN false rt nn hops (NR.mv (10 : Int) (0 : Int) (5 : Int))) else none else bif st == (1 : Int) then bif decide (List.length steps ≤ (1000000 : Nat)) then bif decide (List.length parts ≤ (1000000 : Nat)) then bif decide (curR rt nn st wy fc hops steps parts nm < (0 : Int)) then bif decide ((0 : Int) < (↑(List.length hops) : Int)) then bif decide (List.length hops ≤ (1000000 : Nat)) then some (mkN false rt nn hops (NR.mv (8 : Int) (0 : Int) (0 : Int))) else none else bif decide (curR rt nn st wy fc hops steps parts nm < (0 : Int)) then bif decide (List.length hops ≤ (1000000 : Nat)) then some (mkN false rt nn hops (NR.mv (9 : Int) (0 : Int) (0 : Int))) else none else bif decide ((0 : Int) ≤ curR rt nn st wy fc hops steps parts nm ∧ curR rt nn st wy fc hops steps parts nm < (↑(List.length steps) : Int)) then bif decide ((0 : Int) ≤ curR rt nn st wy fc hops steps parts nm ∧ curR rt nn st wy fc hops steps parts nm < (↑(List.length parts) : Int)) then bif !fs 4 (List.getD steps (Int.toNat (curR rt nn st wy fc hops steps parts nm)) D.nilp) == [] then bif !fi 0 (List.getD parts (Int.toNat (curR rt nn st wy fc hops steps parts nm)) D.nilp) == (0 : Int) then some (mkN false rt nn hops (NR.no)) else bif decide (List.length hops ≤ (1000000 : Nat)) then some (mkN false rt nn hops (NR.mv (5 : Int) (curR rt nn st wy fc hops steps parts nm) (0 : Int))) else none else bif decide (fi 5 (List.getD steps (Int.toNat (curR rt nn st wy fc hops steps parts nm)) D.nilp) ≤ fi 1 (List.getD parts (Int.toNat (curR rt nn st wy fc hops steps parts nm)) D.nilp)) then bif decide (List.length hops ≤ (1000000 : Nat)) then some (mkN false rt nn hops (NR.mv (10 : Int) (0 : Int) (2 : Int))) else none else bif decide (List.length hops ≤ (1000000 : Nat)) then some (mkN false rt nn hops (NR.mv (4 : Int) (curR rt nn st wy fc hops steps parts nm) (0 : Int))) else none else none else none else bif decide (curR rt nn st wy fc hops steps parts nm < (0 : Int)) then bif decide (List.length hops ≤ (1000000 : Nat)) then some (mkN false rt nn hops (NR.mv (9 : Int) (0 : Int) (0 : Int))) else none else bif decide ((0 : Int) ≤ curR rt nn st wy fc hops steps parts nm ∧ curR rt nn st wy fc hops steps parts nm < (↑(List.length steps) : Int)) then bif decide ((0 : Int) ≤ curR rt nn st wy fc hops steps parts nm ∧ curR rt nn st wy fc hops steps parts nm < (↑(List.length parts) : Int)) then bif !fs 4 (List.getD steps (Int.toNat (curR rt nn st wy fc hops steps parts nm)) D.nilp) == [] then bif !fi 0 (List.getD parts (Int.toNat (curR rt nn st wy fc hops steps parts nm)) D.nilp) == (0 : Int) then some (mkN false rt nn hops (NR.no)) else bif decide (List.length hops ≤ (1000000 : Nat)) then some (mkN false rt nn hops (NR.mv (5 : Int) (curR rt nn st wy fc hops steps parts nm) (0 : Int))) else none else bif decide (fi 5 (List.getD steps (Int.toNat (curR rt nn st wy fc hops steps parts nm)) D.nilp) ≤ fi 1 (List.getD parts (Int.toNat (curR rt nn st wy fc hops steps parts nm)) D.nilp)) then bif decide (List.length hops ≤ (1000000 : Nat)) then some (mkN false rt nn hops (NR.mv (10 : Int) (0 : Int) (2 : Int))) else none else bif decide (List.length hops ≤ (1000000 : Nat)) then some (mkN false rt nn hops (NR.mv (4 : Int) (curR rt nn st wy fc hops steps parts nm) (0 : Int))) else none else none else none else none else none else bif st == (4 : Int) then bif decide (List.length steps ≤ (1000000 : Nat)) then bif decide (List.length parts ≤ (1000000 : Nat)) then bif decide (curR rt nn st wy fc hops steps parts nm < (0 : Int)) then bif decide (List.length hops ≤ (1000000 : Nat)) then some (mkN false rt nn hops (NR.mv (14 : Int) (0 : Int) (0 : Int))) else none else bif decide ((0 : Int) ≤ curR rt nn st wy fc hops steps parts nm ∧ curR rt nn st wy fc hops steps parts nm < (↑(List.length steps) : Int)) then bif !fs 4 (List.getD steps (Int.toNat (curR rt nn st wy fc hops steps parts nm)) D.nilp) == [] then some (mkN false rt nn hops (NR.no)) else bif decide ((0 : Int) ≤ curR rt nn st wy fc hops steps parts nm ∧ curR rt nn st wy fc hops steps parts nm < (↑(List.length parts) : Int)) then bif decide ((5 : Int) ≤ fi 1 (List.getD parts (Int.toNat (curR rt nn st wy fc hops steps parts nm)) D.nilp)) then bif decide (List.length hops ≤ (1000000 : Nat)) then some (mkN false rt nn hops (NR.mv (12 : Int) (curR rt nn st wy fc hops steps parts nm) (0 : Int))) else none else bif decide (List.length hops ≤ (1000000 : Nat)) then some (mkN false rt nn hops (NR.mv (11 : Int) (curR rt nn st wy fc hops steps parts nm) (0 : Int))) else none else none else none else none else none else some (mkN false rt nn hops (NR.no)) else bif st == (1 : Int) then bif decide (List.length steps ≤ (1000000 : Nat)) then bif decide (List.length parts ≤ (1000000 : Nat)) then bif decide (curR rt nn st wy fc hops steps parts nm < (0 : Int)) then bif decide ((0 : Int) < (↑(List.length hops) : Int)) then bif decide (List.length hops ≤ (1000000 : Nat)) then some (mkN false rt nn hops (NR.mv (8 : Int) (0 : Int) (0 : Int))) else none else bif decide (curR rt nn st wy fc hops steps parts nm < (0 : Int)) then bif decide (List.length hops ≤ (1000000 : Nat)) then some (mkN false rt nn hops (NR.mv (9 : Int) (0 : Int) (0 : Int))) else none else bif decide ((0 : Int) ≤ curR rt nn st wy fc hops steps parts nm ∧ curR rt nn st wy fc hops steps parts nm < (↑(List.length steps) : Int)) then bif decide ((0 : Int) ≤ curR rt nn st wy fc hops steps parts nm ∧ curR rt nn st wy fc hops steps parts nm < (↑(List.length parts) : Int)) then bif !fs 4 (List.getD steps (Int.toNat (curR rt nn st wy fc hops steps parts nm)) D.nilp) == [] then bif !fi 0 (List.getD parts (Int.toNat (curR rt nn st wy fc hops steps parts nm)) D.nilp) == (0 : Int) then some (mkN false rt nn hops (NR.no)) else bif decide (List.length hops ≤ (1000000 : Nat)) then some (mkN false rt nn hops (NR.mv (5 : Int) (curR rt nn st wy fc hops steps parts nm) (0 : Int))) else none else bif decide (fi 5 (List.getD steps (Int.toNat (curR rt nn st wy fc hops steps parts nm)) D.nilp) ≤ fi 1 (List.getD parts (Int.toNat (curR rt nn st wy fc hops steps parts nm)) D.nilp)) then bif decide (List.length hops ≤ (1000000 : Nat)) then some (mkN false rt nn hops (NR.mv (10 : Int) (0 : Int) (2 : Int))) else none else bif decide (List.length hops ≤ (1000000 : Nat)) then some (mkN false rt nn hops (NR.mv (4 : Int) (curR rt nn st wy fc hops steps parts nm) (0 : Int))) else none else none else none else bif decide (curR rt nn st wy fc hops steps parts nm < (0 : Int)) then bif decide (List.length hops ≤ (1000000 : Nat)) then some (mkN false rt nn hops (NR.mv (9 : Int) (0 : Int) (0 : Int))) else none else bif decide ((0 : Int) ≤ curR rt nn st wy fc hops steps parts nm ∧ curR rt nn st wy fc hops steps parts nm < (↑(List.length steps) : Int)) then bif decide ((0 : Int) ≤ curR rt nn st wy fc hops steps parts nm ∧ curR rt nn st wy fc hops steps parts nm < (↑(List.length parts) : Int)) then bif !fs 4 (List.getD steps (Int.toNat (curR rt nn st wy fc hops steps parts nm)) D.nilp) == [] then bif !fi 0 (List.getD parts (Int.toNat (curR rt nn st wy fc hops steps parts nm)) D.nilp) == (0 : Int) then some (mkN false rt nn hops (NR.no)) else bif decide (List.length hops ≤ (1000000 : Nat)) then some (mkN false rt nn hops (NR.mv (5 : Int) (curR rt nn st wy fc hops steps parts nm) (0 : Int))) else none else bif decide (fi 5 (List.getD steps (Int.toNat (curR rt nn st wy fc hops steps parts nm)) D.nilp) ≤ fi 1 (List.getD parts (Int.toNat (curR rt nn st wy fc hops steps parts nm)) D.nilp)) then bif decide (List.length hops ≤ (1000000 : Nat)) then some (mkN false rt nn hops (NR.mv (10 : Int) (0 : Int) (2 : Int))) else none else bif decide (List.length hops ≤ (1000000 : Nat)) then some (mkN false rt nn hops (NR.mv (4 : Int) (curR rt nn st wy fc hops steps parts nm) (0 : Int))) else none else none else none else none else none else bif st == (4 : Int) then bif decide (List.length steps ≤ (1000000 : Nat)) then bif decide (List.length parts ≤ (1000000 : Nat)) then bif decide (curR rt nn st wy fc hops steps parts nm < (0 : Int)) then bif decide (List.length hops ≤ (1000000 : Nat)) then some (mkN false rt nn hops (NR.mv (14 : Int) (0 : Int) (0 : Int))) else none else bif decide ((0 : Int) ≤ curR rt nn st wy fc hops steps parts nm ∧ curR rt nn st wy fc hops steps parts nm < (↑(List.length steps) : Int)) then bif !fs 4 (List.getD steps (Int.toNat (curR rt nn st wy fc hops steps parts nm)) D.nilp) == [] then some (mkN false rt nn hops (NR.no)) else bif decide ((0 : Int) ≤ curR rt nn st wy fc hops steps parts nm ∧ curR rt nn st wy fc hops steps parts nm < (↑(List.length parts) : Int)) then bif decide ((5 : Int) ≤ fi 1 (List.getD parts (Int.toNat (curR rt nn st wy fc hops steps parts nm)) D.nilp)) then bif decide (List.length hops ≤ (1000000 : Nat)) then some (mkN false rt nn hops (NR.mv (12 : Int) (curR rt nn st wy fc hops steps parts nm) (0 : Int))) else none else bif decide (List.length hops ≤ (1000000 : Nat)) then some (mkN false rt nn hops (NR.mv (11 : Int) (curR rt nn st wy fc hops steps parts nm) (0 : Int))) else none else none else none else none else none else some (mkN false rt nn hops (NR.no)) else none else none else none := by kernel_rfl
theorem e21B (m n : Nat) (rt nn st wy : Int) (n2 n3 fc : Bool) (steps parts : List D) (nm : List UInt8) : Tree.out (enterM E18 (callN E18 (m+40)) n c21 [.d (sagaD rt nn st wy true n2 n3 fc [] steps parts nm)] []) = bif decide (List.length steps ≤ (1000000 : Nat)) then bif decide (List.length parts ≤ (1000000 : Nat)) then bif (bif mayOk rt nn st wy fc [] steps parts nm then (0 : Int) else (230 : Int)) != (0 : Int) then some (mkN true rt nn [] (NR.no)) else bif decide (List.length parts ≤ (1000000 : Nat)) then bif decide ((0 : Int) ≤ idxOf isGone parts) then bif st == (1 : Int) then some (mkN true rt nn [] (NR.mv (10 : Int) (0 : Int) (5 : Int))) else bif st == (2 : Int) then some (mkN true rt nn [] (NR.mv (10 : Int) (0 : Int) (5 : Int))) else bif st == (1 : Int) then bif decide (List.length steps ≤ (1000000 : Nat)) then bif decide (List.length parts ≤ (1000000 : Nat)) then bif decide (curR rt nn st wy fc [] steps parts nm < (0 : Int)) then bif decide (curR rt nn st wy fc [] steps parts nm < (0 : Int)) then some (mkN true rt nn [] (NR.mv (9 : Int) (0 : Int) (0 : Int))) else bif decide ((0 : Int) ≤ curR rt nn st wy fc [] steps parts nm ∧ curR rt nn st wy fc [] steps parts nm < (↑(List.length steps) : Int)) then bif decide ((0 : Int) ≤ curR rt nn st wy fc [] steps parts nm ∧ curR rt nn st wy fc [] steps parts nm < (↑(List.length parts) : Int)) then bif !fs 4 (List.getD steps (Int.toNat (curR rt nn st wy fc [] steps parts nm)) D.nilp) == [] then bif !fi 0 (List.getD parts (Int.toNat (curR rt nn st wy fc [] steps parts nm)) D.nilp) == (0 : Int) then some (mkN true rt nn [] (NR.no)) else some (mkN true rt nn [] (NR.mv (5 : Int) (curR rt nn st wy fc [] steps parts nm) (0 : Int))) else bif decide (fi 5 (List.getD steps (Int.toNat (curR rt nn st wy fc [] steps parts nm)) D.nilp) ≤ fi 1 (List.getD parts (Int.toNat (curR rt nn st wy fc [] steps parts nm)) D.nilp)) then some (mkN true rt nn [] (NR.mv (10 : Int) (0 : Int) (2 : Int))) else some (mkN true rt nn [] (NR.mv (4 : Int) (curR rt nn st wy fc [] steps parts nm) (0 : Int))) else none else none else bif decide (curR rt nn st wy fc [] steps parts nm < (0 : Int)) then some (mkN true rt nn [] (NR.mv (9 : Int) (0 : Int) (0 : Int))) else bif decide ((0 : Int) ≤ curR rt nn st wy fc [] steps parts nm ∧ curR rt nn st wy fc [] steps parts nm < (↑(List.length steps) : Int)) then bif decide ((0 : Int) ≤ curR rt nn st wy fc [] steps parts nm ∧ curR rt nn st wy fc [] steps parts nm < (↑(List.length parts) : Int)) then bif !fs 4 (List.getD steps (Int.toNat (curR rt nn st wy fc [] steps parts nm)) D.nilp) == [] then bif !fi 0 (List.getD parts (Int.toNat (curR rt nn st wy fc [] steps parts nm)) D.nilp) == (0 : Int) then some (mkN true rt nn [] (NR.no)) else some (mkN true rt nn [] (NR.mv (5 : Int) (curR rt nn st wy fc [] steps parts nm) (0 : Int))) else bif decide (fi 5 (List.getD steps (Int.toNat (curR rt nn st wy fc [] steps parts nm)) D.nilp) ≤ fi 1 (List.getD parts (Int.toNat (curR rt nn st wy fc [] steps parts nm)) D.nilp)) then some (mkN true rt nn [] (NR.mv (10 : Int) (0 : Int) (2 : Int))) else some (mkN true rt nn [] (NR.mv (4 : Int) (curR rt nn st wy fc [] steps parts nm) (0 : Int))) else none else none else none else none else bif st == (4 : Int) then bif decide (List.length steps ≤ (1000000 : Nat)) then bif decide (List.length parts ≤ (1000000 : Nat)) then bif decide (curR rt nn st wy fc [] steps parts nm < (0 : Int)) then some (mkN true rt nn [] (NR.mv (14 : Int) (0 : Int) (0 : Int))) else bif decide ((0 : Int) ≤ curR rt nn st wy fc [] steps parts nm ∧ curR rt nn st wy fc [] steps parts nm < (↑(List.length steps) : Int)) then bif !fs 4 (List.getD steps (Int.toNat (curR rt nn st wy fc [] steps parts nm)) D.nilp) == [] then some (mkN true rt nn [] (NR.no)) else bif decide ((0 : Int) ≤ curR rt nn st wy fc [] steps parts nm ∧ curR rt nn st wy fc [] steps parts nm < (↑(List.length parts) : Int)) then bif decide ((5 : Int) ≤ fi 1 (List.getD parts (Int.toNat (curR rt nn st wy fc [] steps parts nm)) D.nilp)) then some (mkN true rt nn [] (NR.mv (12 : Int) (curR rt nn st wy fc [] steps parts nm) (0 : Int))) else some (mkN true rt nn [] (NR.mv (11 : Int) (curR rt nn st wy fc [] steps parts nm) (0 : Int))) else none else none else none else none else some (mkN true rt nn [] (NR.no)) else bif st == (1 : Int) then bif decide (List.length steps ≤ (1000000 : Nat)) then bif decide (List.length parts ≤ (1000000 : Nat)) then bif decide (curR rt nn st wy fc [] steps parts nm < (0 : Int)) then bif decide (curR rt nn st wy fc [] steps parts nm < (0 : Int)) then some (mkN true rt nn [] (NR.mv (9 : Int) (0 : Int) (0 : Int))) else bif decide ((0 : Int) ≤ curR rt nn st wy fc [] steps parts nm ∧ curR rt nn st wy fc [] steps parts nm < (↑(List.length steps) : Int)) then bif decide ((0 : Int) ≤ curR rt nn st wy fc [] steps parts nm ∧ curR rt nn st wy fc [] steps parts nm < (↑(List.length parts) : Int)) then bif !fs 4 (List.getD steps (Int.toNat (curR rt nn st wy fc [] steps parts nm)) D.nilp) == [] then bif !fi 0 (List.getD parts (Int.toNat (curR rt nn st wy fc [] steps parts nm)) D.nilp) == (0 : Int) then some (mkN true rt nn [] (NR.no)) else some (mkN true rt nn [] (NR.mv (5 : Int) (curR rt nn st wy fc [] steps parts nm) (0 : Int))) else bif decide (fi 5 (List.getD steps (Int.toNat (curR rt nn st wy fc [] steps parts nm)) D.nilp) ≤ fi 1 (List.getD parts (Int.toNat (curR rt nn st wy fc [] steps parts nm)) D.nilp)) then some (mkN true rt nn [] (NR.mv (10 : Int) (0 : Int) (2 : Int))) else some (mkN true rt nn [] (NR.mv (4 : Int) (curR rt nn st wy fc [] steps parts nm) (0 : Int))) else none else none else bif decide (curR rt nn st wy fc [] steps parts nm < (0 : Int)) then some (mkN true rt nn [] (NR.mv (9 : Int) (0 : Int) (0 : Int))) else bif decide ((0 : Int) ≤ curR rt nn st wy fc [] steps parts nm ∧ curR rt nn st wy fc [] steps parts nm < (↑(List.length steps) : Int)) then bif decide ((0 : Int) ≤ curR rt nn st wy fc [] steps parts nm ∧ curR rt nn st wy fc [] steps parts nm < (↑(List.length parts) : Int)) then bif !fs 4 (List.getD steps (Int.toNat (curR rt nn st wy fc [] steps parts nm)) D.nilp) == [] then bif !fi 0 (List.getD parts (Int.toNat (curR rt nn st wy fc [] steps parts nm)) D.nilp) == (0 : Int) then some (mkN true rt nn [] (NR.no)) else some (mkN true rt nn [] (NR.mv (5 : Int) (curR rt nn st wy fc [] steps parts nm) (0 : Int))) else bif decide (fi 5 (List.getD steps (Int.toNat (curR rt nn st wy fc [] steps parts nm)) D.nilp) ≤ fi 1 (List.getD parts (Int.toNat (curR rt nn st wy fc [] steps parts nm)) D.nilp)) then some (mkN true rt nn [] (NR.mv (10 : Int) (0 : Int) (2 : Int))) else some (mkN true rt nn [] (NR.mv (4 : Int) (curR rt nn st wy fc [] steps parts nm) (0 : Int))) else none else none else none else none else bif st == (4 : Int) then bif decide (List.length steps ≤ (1000000 : Nat)) then bif decide (List.length parts ≤ (1000000 : Nat)) then bif decide (curR rt nn st wy fc [] steps parts nm < (0 : Int)) then some (mkN true rt nn [] (NR.mv (14 : Int) (0 : Int) (0 : Int))) else bif decide ((0 : Int) ≤ curR rt nn st wy fc [] steps parts nm ∧ curR rt nn st wy fc [] steps parts nm < (↑(List.length steps) : Int)) then bif !fs 4 (List.getD steps (Int.toNat (curR rt nn st wy fc [] steps parts nm)) D.nilp) == [] then some (mkN true rt nn [] (NR.no)) else bif decide ((0 : Int) ≤ curR rt nn st wy fc [] steps parts nm ∧ curR rt nn st wy fc [] steps parts nm < (↑(List.length parts) : Int)) then bif decide ((5 : Int) ≤ fi 1 (List.getD parts (Int.toNat (curR rt nn st wy fc [] steps parts nm)) D.nilp)) then some (mkN true rt nn [] (NR.mv (12 : Int) (curR rt nn st wy fc [] steps parts nm) (0 : Int))) else some (mkN true rt nn [] (NR.mv (11 : Int) (curR rt nn st wy fc [] steps parts nm) (0 : Int))) else none else none else none else none else some (mkN true rt nn [] (NR.no)) else none else none else none := by kernel_rfl
theorem e19 (m n : Nat) (rt nn st wy : Int) (n1 n2 n3 fc : Bool) (hops steps parts : List D) (nm : List UInt8) : Tree.out (enterM E18 (callN E18 (m+40)) n c19 [.d (sagaD rt nn st wy n1 n2 n3 fc hops steps parts nm)] []) = bif decide ((↑(List.length hops) : Int) ≤ (50 : Int)) then bif decide ((↑(List.length steps) : Int) ≤ (50 : Int)) then some [D.bool (decide ((↑(List.length parts) : Int) ≤ (200 : Int)))] else some [D.bool false] else some [D.bool false] := by kernel_rfl
theorem e25 (m n : Nat) (kd mr mn sp mw : Int) (k1 k2 : Bool) (mh ms : List D) (mm : List UInt8) : Tree.out (enterM E18 (callN E18 (m+40)) n c25 [.d (moveD kd mr mn sp mw k1 k2 mh ms mm)] []) = bif decide ((↑(List.length mh) : Int) ≤ (50 : Int)) then some [D.bool (decide ((↑(List.length ms) : Int) ≤ (50 : Int)))] else some [D.bool false] := by kernel_rfl
end Go.Proofs.YtknoielhkilkpaaDoor.A
/- The move that a saga makes by itself. -/
namespace Go.Proofs.YtknoielhkilkpaaDoor.A
open Go Go.AM
def nextR0 (st : Int) (hops parts steps : List D) : NR := bif decide ((0 : Int) ≤ idxOf isGone parts) then bif st == (1 : Int) then NR.mv (10 : Int) (0 : Int) (5 : Int) else bif st == (2 : Int) then NR.mv (10 : Int) (0 : Int) (5 : Int) else bif st == (1 : Int) then bif decide (cur st parts < (0 : Int)) then bif decide ((0 : Int) < (↑(List.length hops) : Int)) then NR.mv (8 : Int) (0 : Int) (0 : Int) else bif decide (cur st parts < (0 : Int)) then NR.mv (9 : Int) (0 : Int) (0 : Int) else bif !fs (4 : Nat) (List.getD steps (Int.toNat (cur st parts)) D.nilp) == [] then bif !fi (0 : Nat) (List.getD parts (Int.toNat (cur st parts)) D.nilp) == (0 : Int) then NR.no else NR.mv (5 : Int) (cur st parts) (0 : Int) else bif decide (fi (5 : Nat) (List.getD steps (Int.toNat (cur st parts)) D.nilp) ≤ fi (1 : Nat) (List.getD parts (Int.toNat (cur st parts)) D.nilp)) then NR.mv (10 : Int) (0 : Int) (2 : Int) else NR.mv (4 : Int) (cur st parts) (0 : Int) else bif decide (cur st parts < (0 : Int)) then NR.mv (9 : Int) (0 : Int) (0 : Int) else bif !fs (4 : Nat) (List.getD steps (Int.toNat (cur st parts)) D.nilp) == [] then bif !fi (0 : Nat) (List.getD parts (Int.toNat (cur st parts)) D.nilp) == (0 : Int) then NR.no else NR.mv (5 : Int) (cur st parts) (0 : Int) else bif decide (fi (5 : Nat) (List.getD steps (Int.toNat (cur st parts)) D.nilp) ≤ fi (1 : Nat) (List.getD parts (Int.toNat (cur st parts)) D.nilp)) then NR.mv (10 : Int) (0 : Int) (2 : Int) else NR.mv (4 : Int) (cur st parts) (0 : Int) else bif st == (4 : Int) then bif decide (cur st parts < (0 : Int)) then NR.mv (14 : Int) (0 : Int) (0 : Int) else bif !fs (4 : Nat) (List.getD steps (Int.toNat (cur st parts)) D.nilp) == [] then NR.no else bif decide ((5 : Int) ≤ fi (1 : Nat) (List.getD parts (Int.toNat (cur st parts)) D.nilp)) then NR.mv (12 : Int) (cur st parts) (0 : Int) else NR.mv (11 : Int) (cur st parts) (0 : Int) else NR.no else bif st == (1 : Int) then bif decide (cur st parts < (0 : Int)) then bif decide ((0 : Int) < (↑(List.length hops) : Int)) then NR.mv (8 : Int) (0 : Int) (0 : Int) else bif decide (cur st parts < (0 : Int)) then NR.mv (9 : Int) (0 : Int) (0 : Int) else bif !fs (4 : Nat) (List.getD steps (Int.toNat (cur st parts)) D.nilp) == [] then bif !fi (0 : Nat) (List.getD parts (Int.toNat (cur st parts)) D.nilp) == (0 : Int) then NR.no else NR.mv (5 : Int) (cur st parts) (0 : Int) else bif decide (fi (5 : Nat) (List.getD steps (Int.toNat (cur st parts)) D.nilp) ≤ fi (1 : Nat) (List.getD parts (Int.toNat (cur st parts)) D.nilp)) then NR.mv (10 : Int) (0 : Int) (2 : Int) else NR.mv (4 : Int) (cur st parts) (0 : Int) else bif decide (cur st parts < (0 : Int)) then NR.mv (9 : Int) (0 : Int) (0 : Int) else bif !fs (4 : Nat) (List.getD steps (Int.toNat (cur st parts)) D.nilp) == [] then bif !fi (0 : Nat) (List.getD parts (Int.toNat (cur st parts)) D.nilp) == (0 : Int) then NR.no else NR.mv (5 : Int) (cur st parts) (0 : Int) else bif decide (fi (5 : Nat) (List.getD steps (Int.toNat (cur st parts)) D.nilp) ≤ fi (1 : Nat) (List.getD parts (Int.toNat (cur st parts)) D.nilp)) then NR.mv (10 : Int) (0 : Int) (2 : Int) else NR.mv (4 : Int) (cur st parts) (0 : Int) else bif st == (4 : Int) then bif decide (cur st parts < (0 : Int)) then NR.mv (14 : Int) (0 : Int) (0 : Int) else bif !fs (4 : Nat) (List.getD steps (Int.toNat (cur st parts)) D.nilp) == [] then NR.no else bif decide ((5 : Int) ≤ fi (1 : Nat) (List.getD parts (Int.toNat (cur st parts)) D.nilp)) then NR.mv (12 : Int) (cur st parts) (0 : Int) else NR.mv (11 : Int) (cur st parts) (0 : Int) else NR.no
def nextR (rt nn st wy : Int) (fc : Bool) (hops steps parts : List D) (nm : List UInt8) : NR := bif mayOk rt nn st wy fc hops steps parts nm then nextR0 st hops parts steps else NR.no
theorem condN (b n1 : Bool) (rt nn : Int) (hops : List D) (x y : NR) : (bif b then some (mkN n1 rt nn hops x) else some (mkN n1 rt nn hops y)) = some (mkN n1 rt nn hops (bif b then x else y)) := by cases b <;> rfl
theorem run21A (m n : Nat) (rt nn st wy : Int) (n2 n3 fc : Bool) (hops steps parts : List D) (nm : List UInt8) (h1 : steps.length ≤ 1000000) (h2 : parts.length ≤ 1000000) (h3 : (hops : List D).length ≤ 1000000) :
    (enterM E18 (callN E18 (m+40)) n c21 [.d (sagaD rt nn st wy false n2 n3 fc hops steps parts nm)] []).out = some (mkN false rt nn hops (nextR rt nn st wy fc hops steps parts nm)) := by
  rw [e21A]
  unfold nextR
  cases hm : mayOk rt nn st wy fc hops steps parts nm
  · simp only [decide_eq_true h1, decide_eq_true h2, cond_true]
    rfl
  · have hc : curR rt nn st wy fc hops steps parts nm = cur st parts := by unfold curR; rw [hm]; rfl
    simp only [decide_eq_true h1, decide_eq_true h2, decide_eq_true h3, cond_true, bne_self_eq_false, cond_false, hc]
    unfold nextR0
    by_cases hn : cur st parts < 0
    · simp only [decide_eq_true hn, cond_true, condN]
      first | done | rfl
    · have h7 : st ≠ 7 := by
        rintro rfl
        exact hn (by have : cur 7 parts = -1 := rfl; omega)
      have hlen := mayOk_len hm h7
      have hlt := cur_lt st parts
      have c1 : decide (0 ≤ cur st parts ∧ cur st parts < (parts.length : Int)) = true := by simp; omega
      have c2 : decide (0 ≤ cur st parts ∧ cur st parts < (steps.length : Int)) = true := by simp; omega
      simp only [c1, c2, decide_eq_false hn, cond_true, cond_false, condN]
      first | done | rfl
theorem run21B (m n : Nat) (rt nn st wy : Int) (n2 n3 fc : Bool) (steps parts : List D) (nm : List UInt8) (h1 : steps.length ≤ 1000000) (h2 : parts.length ≤ 1000000) (_h3 : ([] : List D).length ≤ 1000000) :
    (enterM E18 (callN E18 (m+40)) n c21 [.d (sagaD rt nn st wy true n2 n3 fc [] steps parts nm)] []).out = some (mkN true rt nn [] (nextR rt nn st wy fc [] steps parts nm)) := by
  rw [e21B]
  unfold nextR
  cases hm : mayOk rt nn st wy fc [] steps parts nm
  · simp only [decide_eq_true h1, decide_eq_true h2, cond_true]
    rfl
  · have hc : curR rt nn st wy fc [] steps parts nm = cur st parts := by unfold curR; rw [hm]; rfl
    simp only [decide_eq_true h1, decide_eq_true h2, cond_true, bne_self_eq_false, cond_false, hc]
    unfold nextR0
    by_cases hn : cur st parts < 0
    · simp only [decide_eq_true hn, cond_true, condN]
      first | done | rfl
    · have h7 : st ≠ 7 := by
        rintro rfl
        exact hn (by have : cur 7 parts = -1 := rfl; omega)
      have hlen := mayOk_len hm h7
      have hlt := cur_lt st parts
      have c1 : decide (0 ≤ cur st parts ∧ cur st parts < (parts.length : Int)) = true := by simp; omega
      have c2 : decide (0 ≤ cur st parts ∧ cur st parts < (steps.length : Int)) = true := by simp; omega
      simp only [c1, c2, decide_eq_false hn, cond_true, cond_false, condN]
      first | done | rfl
def nOk : NR → Bool
  | .no => false
  | .mv _ _ _ => true
def nK : NR → Int
  | .no => 0
  | .mv k _ _ => k
def nS : NR → Int
  | .no => 0
  | .mv _ s _ => s
def nW : NR → Int
  | .no => 0
  | .mv _ _ w => w
def mkM (n1 : Bool) (rt nn : Int) (hops : List D) (r : NR) : List D :=
  [D.agg [.int .i64 (nK r), .int .i64 (bif nOk r then rt else 0), .int .i64 (bif nOk r then nn else 0), .sl hopSh (bif nOk r then n1 else true) (bif nOk r then hops else []), .int .i64 (nS r), .int .i64 (nW r), .str [], .sl stepSh true []], .bool (nOk r)]
theorem mkM_eq (n1 : Bool) (rt nn : Int) (hops : List D) (r : NR) : mkM n1 rt nn hops r = mkN n1 rt nn hops r := by cases r <;> rfl
def g21 : List D → Tree (List D)
  | [.agg [.int .i64 rt, .int .i64 nn, .sl eh n1 hops, .str nm, .sl es _n2 steps, .int .i64 st, .int .i64 wy, .sl ep _n3 parts, .bool fc]] => match (Sh.beq eh hopSh && (Sh.beq es stepSh && Sh.beq ep partSh)) with
    | true => .ite (decide (steps.length ≤ 1000000)) (fun _ => .ite (decide (parts.length ≤ 1000000)) (fun _ => .ite (decide (hops.length ≤ 1000000)) (fun _ => .ite (!n1 || hops.isEmpty) (fun _ => .ret (mkM n1 rt nn hops (nextR rt nn st wy fc hops steps parts nm))) (fun _ => .stuck)) (fun _ => .stuck)) (fun _ => .stuck)) (fun _ => .stuck)
    | false => .stuck
  | _ => .stuck
theorem pure21 {P : Program} (hm : P.follows .mixedOrders = true) (h0 : EnvOK P E18) : PureOK P 21 g21 := PureOK.run hm h0 fun ds rs h => by
  unfold g21 at h
  split at h
  · rename_i rt nn eh n1 hops nm es n2 steps st wy ep n3 parts fc
    split at h
    · rename_i hb
      simp only [Bool.and_eq_true] at hb
      obtain ⟨hb3, hb4, hb5⟩ := hb
      have hb3 := Sh.beq_eq hb3
      have hb4 := Sh.beq_eq hb4
      have hb5 := Sh.beq_eq hb5
      subst hb3 hb4 hb5
      obtain ⟨hl, h⟩ := eval_guard h
      obtain ⟨hs, h⟩ := eval_guard h
      obtain ⟨hh, h⟩ := eval_guard h
      obtain ⟨hn, h⟩ := eval_guard h
      cases h
      refine ⟨59 + 1, ?_⟩
      rw [callN_succ (fn := c21) rfl, mkM_eq]
      cases n1 with
      | false => exact run21A 19 59 rt nn st wy n2 n3 fc hops steps parts nm (of_decide_eq_true hl) (of_decide_eq_true hs) (of_decide_eq_true hh)
      | true =>
        have hn : hops = [] := by simpa using hn
        subst hn
        exact run21B 19 59 rt nn st wy n2 n3 fc steps parts nm (of_decide_eq_true hl) (of_decide_eq_true hs) (of_decide_eq_true hh)
    · cases h
  · cases h
def few (hops steps parts : List D) : Bool := decide ((hops.length : Int) ≤ 50) && (decide ((steps.length : Int) ≤ 50) && decide ((parts.length : Int) ≤ 200))
def fewM (mh ms : List D) : Bool := decide ((mh.length : Int) ≤ 50) && decide ((ms.length : Int) ≤ 50)
theorem run19 (m n : Nat) (rt nn st wy : Int) (n1 n2 n3 fc : Bool) (hops steps parts : List D) (nm : List UInt8) : (enterM E18 (callN E18 (m+40)) n c19 [.d (sagaD rt nn st wy n1 n2 n3 fc hops steps parts nm)] []).out = some [.bool (few hops steps parts)] := by
  rw [e19]
  simp only [condB, few]
  cases decide ((hops.length : Int) ≤ 50) <;> cases decide ((steps.length : Int) ≤ 50) <;> rfl
theorem run25 (m n : Nat) (kd mr mn sp mw : Int) (k1 k2 : Bool) (mh ms : List D) (mm : List UInt8) : (enterM E18 (callN E18 (m+40)) n c25 [.d (moveD kd mr mn sp mw k1 k2 mh ms mm)] []).out = some [.bool (fewM mh ms)] := by
  rw [e25]
  simp only [condB, fewM]
  cases decide ((mh.length : Int) ≤ 50) <;> rfl
def g19 : List D → Tree (List D)
  | [.agg [.int .i64 _rt, .int .i64 _nn, .sl eh _n1 hops, .str _nm, .sl es _n2 steps, .int .i64 _st, .int .i64 _wy, .sl ep _n3 parts, .bool _fc]] => match (Sh.beq eh hopSh && (Sh.beq es stepSh && Sh.beq ep partSh)) with
    | true => .ret [.bool (few hops steps parts)]
    | false => .stuck
  | _ => .stuck
theorem pure19 {P : Program} (hm : P.follows .mixedOrders = true) (h0 : EnvOK P E18) : PureOK P 19 g19 := PureOK.run hm h0 fun ds rs h => by
  unfold g19 at h
  split at h
  · rename_i rt nn eh n1 hops nm es n2 steps st wy ep n3 parts fc
    split at h
    · rename_i hb
      simp only [Bool.and_eq_true] at hb
      obtain ⟨hb3, hb4, hb5⟩ := hb
      have hb3 := Sh.beq_eq hb3
      have hb4 := Sh.beq_eq hb4
      have hb5 := Sh.beq_eq hb5
      subst hb3 hb4 hb5
      cases h
      exact ⟨59 + 1, by rw [callN_succ (fn := c19) rfl]; exact run19 19 59 rt nn st wy n1 n2 n3 fc hops steps parts nm⟩
    · cases h
  · cases h
def g25 : List D → Tree (List D)
  | [.agg [.int .i64 _kd, .int .i64 _mr, .int .i64 _mn, .sl eh' _k1 mh, .int .i64 _sp, .int .i64 _mw, .str _mm, .sl es' _k2 ms]] => match (Sh.beq eh' hopSh && Sh.beq es' stepSh) with
    | true => .ret [.bool (fewM mh ms)]
    | false => .stuck
  | _ => .stuck
theorem pure25 {P : Program} (hm : P.follows .mixedOrders = true) (h0 : EnvOK P E18) : PureOK P 25 g25 := PureOK.run hm h0 fun ds rs h => by
  unfold g25 at h
  split at h
  · rename_i kd mr mn eh' k1 mh sp mw mm es' k2 ms
    split at h
    · rename_i hb
      simp only [Bool.and_eq_true] at hb
      obtain ⟨hb3, hb4⟩ := hb
      have hb3 := Sh.beq_eq hb3
      have hb4 := Sh.beq_eq hb4
      subst hb3 hb4
      cases h
      exact ⟨59 + 1, by rw [callN_succ (fn := c25) rfl]; exact run25 19 59 kd mr mn sp mw k1 k2 mh ms mm⟩
    · cases h
  · cases h
def g20 : List D → Tree (List D)
  | [] => .ret [.bool true]
  | _ => .stuck
def E19 : Env := (((E18.pureAt 21 false g21).pureAt 19 true g19).pureAt 25 true g25).pureAt 20 true g20
theorem ok19 {P : Program} (hm : P.follows .mixedOrders = true) (h0 : EnvOK P E18) (h20 : PureOK P 20 g20) : EnvOK P E19 := (((h0.pureAt (pure21 hm h0)).pureAt (pure19 hm h0)).pureAt (pure25 hm h0)).pureAt h20
end Go.Proofs.YtknoielhkilkpaaDoor.A
/- Plain facts: lists, ids, moves, sagas that may be. -/
namespace Go.Proofs.YtknoielhkilkpaaDoor.A
open Go Go.AM
theorem cmpI_self (x : Int) : cmpI x x = 0 := by simp [cmpI]
theorem cmpHop_self (x : D) : cmpHop x x = 0 := by simp [cmpHop, cmpI_self]
theorem scan_none {α : Type} (p : Nat → Bool) (hit : Nat → α) (fin : α) : ∀ k i, (∀ j, i ≤ j → j < i + k → p j = false) → scan p hit fin k i = fin
  | 0, _, _ => rfl
  | k + 1, i, h => by
    simp only [scan]
    rw [h i (by omega) (by omega)]
    exact scan_none p hit fin k (i + 1) fun j h1 h2 => h j (by omega) (by omega)
theorem cmpHops_self (a : List D) : cmpHops a a = 0 := by
  unfold cmpHops
  rw [scan_none]
  · simp
  · intro j _ hj
    have h1 : decide ((a.length : Int) ≤ (j : Int)) = false := by simp; omega
    rw [h1, cmpHop_self]
    rfl
theorem idCmp_self (r k : Int) (a : List D) : idCmp r k r k a a = 0 := by simp [idCmp, cmpI_self, cmpHops_self]
theorem idxOf_neg {β : Type} {q : β → Bool} {es : List β} (h : idxOf q es < 0) : ∀ x ∈ es, q x = false := by
  have := idxOf_nonneg q es
  rw [decide_eq_false (by omega)] at this
  simpa using this.symm
theorem idxOf_pos {q : D → Bool} {es : List D} (h : 0 ≤ idxOf q es) : (idxOf q es).toNat < es.length ∧ q (es.getD (idxOf q es).toNat .nilp) = true ∧ ∀ i, i < (idxOf q es).toNat → q (es.getD i .nilp) = false := by
  have h1 := idxOf_nonneg q es
  rw [decide_eq_true h] at h1
  have h2 : idxOf q es = (es.findIdx q : Nat) := by unfold idxOf; rw [← h1]; rfl
  have h3 : es.findIdx q < es.length := List.findIdx_lt_length.2 (by simpa using h1.symm)
  rw [h2, Int.toNat_natCast]
  refine ⟨h3, ?_, fun i hi => ?_⟩
  · rw [List.getD_eq_getElem?_getD, List.getElem?_eq_getElem h3]
    exact List.findIdx_getElem
  · rw [List.getD_eq_getElem?_getD, List.getElem?_eq_getElem (by omega)]
    simpa using List.not_of_lt_findIdx hi
theorem lastFrom_pos (p : Nat → Bool) : ∀ k, 0 ≤ lastFrom p k → (lastFrom p k).toNat < k ∧ p (lastFrom p k).toNat = true ∧ ∀ i, (lastFrom p k).toNat < i → i < k → p i = false
  | 0, h => by simp [lastFrom] at h
  | k + 1, h => by
    simp only [lastFrom] at h ⊢
    cases hp : p k
    · rw [hp] at h
      have := lastFrom_pos p k h
      refine ⟨by simp only [cond_false]; omega, this.2.1, fun i h1 h2 => ?_⟩
      by_cases he : i = k
      · rw [he]; exact hp
      · exact this.2.2 i h1 (by omega)
    · simp only [cond_true, Int.toNat_natCast]
      exact ⟨by omega, hp, fun i h1 h2 => by omega⟩
theorem lastFrom_neg (p : Nat → Bool) : ∀ k, lastFrom p k < 0 → ∀ i, i < k → p i = false
  | 0, _, i, hi => by omega
  | k + 1, h, i, hi => by
    simp only [lastFrom] at h
    cases hp : p k
    · rw [hp] at h
      by_cases he : i = k
      · rw [he]; exact hp
      · exact lastFrom_neg p k h i (by omega)
    · rw [hp] at h
      simp only [cond_true] at h
      omega
theorem getD_mem {es : List D} {i : Nat} (h : i < es.length) : es.getD i .nilp ∈ es := by
  rw [List.getD_eq_getElem?_getD, List.getElem?_eq_getElem h]
  exact List.getElem_mem h
theorem mem_getD {es : List D} {x : D} (h : x ∈ es) : ∃ i, i < es.length ∧ es.getD i .nilp = x := by
  obtain ⟨i, hi, rfl⟩ := List.mem_iff_getElem.1 h
  exact ⟨i, hi, by rw [List.getD_eq_getElem?_getD, List.getElem?_eq_getElem hi]; rfl⟩
theorem any_iff {q : D → Bool} {es : List D} : es.any q = true ↔ ∃ i, i < es.length ∧ q (es.getD i .nilp) = true := by
  rw [List.any_eq_true]
  constructor
  · rintro ⟨x, hx, hq⟩
    obtain ⟨i, hi, rfl⟩ := mem_getD hx
    exact ⟨i, hi, hq⟩
  · rintro ⟨i, hi, hq⟩
    exact ⟨_, getD_mem hi, hq⟩
/-! moves -/
theorem move_step {kd rt nn sp : Int} {hops : List D} (hid : idOk rt nn hops = true) (hk : kd = 3 ∨ kd = 4 ∨ kd = 5 ∨ kd = 6 ∨ kd = 7 ∨ kd = 11 ∨ kd = 12 ∨ kd = 15) (h0 : 0 ≤ sp) (h8 : sp < 8) : moveOk kd rt nn sp 0 hops [] [] = true := by
  have key : ∀ kd : Int, kindHas kd = 1 → 1 ≤ kd → kd ≤ 16 → kd ≠ 2 → moveOk kd rt nn sp 0 hops [] [] = true := by
    intro kd h1 h2 h3 h4
    unfold moveOk moveOk0
    simp [h1, hid, h0, h8, h4]
    omega
  rcases hk with rfl | rfl | rfl | rfl | rfl | rfl | rfl | rfl <;> exact key _ (by decide) (by decide) (by decide) (by decide)
theorem move_bare {kd rt nn : Int} {hops : List D} (hid : idOk rt nn hops = true) (hk : kd = 8 ∨ kd = 9 ∨ kd = 13 ∨ kd = 14) : moveOk kd rt nn 0 0 hops [] [] = true := by
  have key : ∀ kd : Int, kindHas kd = 0 → 1 ≤ kd → kd ≤ 16 → kd ≠ 2 → moveOk kd rt nn 0 0 hops [] [] = true := by
    intro kd h1 h2 h3 h4
    unfold moveOk moveOk0
    simp [h1, hid, h4]
    omega
  rcases hk with rfl | rfl | rfl | rfl <;> exact key _ (by decide) (by decide) (by decide) (by decide)
theorem move_back {rt nn mw : Int} {hops : List D} (hid : idOk rt nn hops = true) (h1 : 1 ≤ mw) (h9 : mw ≤ 9) : moveOk 10 rt nn 0 mw hops [] [] = true := by
  have hk : kindHas 10 = 2 := by decide
  unfold moveOk moveOk0
  simp [hk, hid, h1, h9]
theorem appR_move {rt nn st wy : Int} {fc : Bool} {hops steps parts : List D} {nm : List UInt8} {kd sp mw : Int} (hmay : mayOk rt nn st wy fc hops steps parts nm = true) (h7 : st ≠ 7) (hmv : moveOk kd rt nn sp mw hops [] [] = true) :
    appR rt nn st wy fc hops steps parts nm kd rt nn sp mw hops [] [] = applyR st wy fc hops parts steps kd sp mw := by
  have h7' : (st == 7) = false := by simpa using h7
  unfold appR
  rw [hmay, hmv, idCmp_self, h7']
  rfl
/-! a saga that may be -/
theorem mayOk_id {rt nn st wy : Int} {fc : Bool} {hops steps parts : List D} {nm : List UInt8} (h : mayOk rt nn st wy fc hops steps parts nm = true) : idOk rt nn hops = true := by
  cases h1 : idOk rt nn hops
  · simp [mayOk, h1] at h
  · rfl
structure Good (st wy : Int) (fc : Bool) (hops steps parts : List D) : Prop where
  len : parts.length = steps.length
  pos : 1 ≤ steps.length
  few : steps.length ≤ 8
  step : ∀ i, i < steps.length → badStep (steps.getD i .nilp) = false
  sane : ∀ i, i < parts.length → p47 (parts.getD i .nilp) (steps.getD i .nilp) = true
  fits : fitsOk st wy fc hops parts steps = true
theorem mayOk_good {rt nn st wy : Int} {fc : Bool} {hops steps parts : List D} {nm : List UInt8} (h : mayOk rt nn st wy fc hops steps parts nm = true) (h7 : st ≠ 7) : Good st wy fc hops steps parts := by
  have hl := mayOk_len h h7
  have h7' : (st == 7) = false := by simpa using h7
  unfold mayOk at h
  rw [h7'] at h
  cases h1 : idOk rt nn hops
  · simp [h1] at h
  · cases h2 : defOk nm steps
    · simp [h1, h2] at h
    · have h3 : ((parts.length : Int) != (steps.length : Int)) = false := by simp; omega
      cases h4 : allI p47 parts.length parts steps
      · simp [h1, h2, h3, h4] at h
      · cases h5 : fitsOk st wy fc hops parts steps
        · simp [h1, h2, h3, h4, h5] at h
        · refine ⟨hl.1, hl.2.1, hl.2.2, fun i hi => ?_, fun i hi => (allI_iff _ _ _ _).1 h4 i hi, h5⟩
          unfold defOk at h2
          simp only [Bool.and_eq_true, Bool.not_eq_true'] at h2
          have := h2.2.2.2
          simp only [List.any_eq_false] at this
          simpa using this _ (getD_mem hi)
end Go.Proofs.YtknoielhkilkpaaDoor.A
