/- Parts of the walk: La, Lb, Lc, Ld, Q24z, S21z, QD9, Le, AMEntry, AMLaw. -/
import Derived.Test.YtkjiaijkdefkgaaGreatDoorGg
import Derived.KernelRfl
import Derived.ChangeArms
import Derived.OpenShut
import Derived.DataReads
import Derived.ChangeSame
import Derived.ChangeShapes
import Derived.WideKeyArgs
import Derived.Handed
import Derived.RowKit
namespace Go.Proofs.YtkjiaijkdefkgaaGreatDoor.A
open Go Go.AM
theorem scan_none {α : Type} (p : Nat → Bool) (hit : Nat → α) (fin : α) : ∀ k i, (∀ j, i ≤ j → j < i + k → p j = false) → scan p hit fin k i = fin
 | 0, _, _ => rfl
 | k + 1, i, h => by
  simp only [scan]
  rw [h i (by omega) (by omega)]
  exact scan_none p hit fin k (i + 1) fun j h1 h2 => h j (by omega) (by omega)
theorem idxOf_pos {q : D → Bool} {es : List D} (h : 0 ≤ idxOf q es) : (idxOf q es).toNat < es.length ∧ q (es.getD (idxOf q es).toNat .nilp) = true ∧ ∀ i, i < (idxOf q es).toNat → q (es.getD i .nilp) = false := by
 have h1 := idxOf_nonneg q es
 rw [decide_eq_true h] at h1
 have h2 : idxOf q es = (es.findIdx q : Nat) := by unfold idxOf; rw [← h1]; rfl
 have h3 : es.findIdx q < es.length := List.findIdx_lt_length.2 (by simpa using h1.symm)
 rw [h2, Int.toNat_natCast]
 refine ⟨h3, ?_, fun i hi => ?_⟩
 ·rw [List.getD_eq_getElem?_getD, List.getElem?_eq_getElem h3]
  exact List.findIdx_getElem
 ·rw [List.getD_eq_getElem?_getD, List.getElem?_eq_getElem (by omega)]
  simpa using List.not_of_lt_findIdx hi
theorem lastFrom_pos (p : Nat → Bool) : ∀ k, 0 ≤ lastFrom p k → (lastFrom p k).toNat < k ∧ p (lastFrom p k).toNat = true ∧ ∀ i, (lastFrom p k).toNat < i → i < k → p i = false
 | 0, h => by simp [lastFrom] at h
 | k + 1, h => by
  simp only [lastFrom] at h ⊢
  cases hp : p k
  ·rw [hp] at h
   have := lastFrom_pos p k h
   refine ⟨by simp only [cond_false]; omega, this.2.1, fun i h1 h2 => ?_⟩
   by_cases he : i = k
   ·rw [he]; exact hp
   ·exact this.2.2 i h1 (by omega)
  ·simp only [cond_true, Int.toNat_natCast]
   exact ⟨by omega, hp, fun i h1 h2 => by omega⟩
theorem lastFrom_neg (p : Nat → Bool) : ∀ k, lastFrom p k < 0 → ∀ i, i < k → p i = false
 | 0, _, i, hi => by omega
 | k + 1, h, i, hi => by
  simp only [lastFrom] at h
  cases hp : p k
  ·rw [hp] at h
   by_cases he : i = k
   ·rw [he]; exact hp
   ·exact lastFrom_neg p k h i (by omega)
  ·rw [hp] at h
   simp only [cond_true] at h
   omega
theorem getD_mem {es : List D} {i : Nat} (h : i < es.length) : es.getD i .nilp ∈ es := by
 rw [List.getD_eq_getElem?_getD, List.getElem?_eq_getElem h]
 exact List.getElem_mem h
theorem mem_getD {es : List D} {x : D} (h : x ∈ es) : ∃ i, i < es.length ∧ es.getD i .nilp = x := by
 obtain ⟨i, hi, rfl⟩ := List.mem_iff_getElem.1 h
 exact ⟨i, hi, by rw [List.getD_eq_getElem?_getD, List.getElem?_eq_getElem hi]; rfl⟩
theorem any_iff {q : D → Bool} {es : List D} : es.any q = true ↔ ∃ i, i < es.length ∧ q (es.getD i .nilp) = true := by
 rw [List.any_eq_true]
 constructor
 ·rintro ⟨x, hx, hq⟩
  obtain ⟨i, hi, rfl⟩ := mem_getD hx
  exact ⟨i, hi, hq⟩
 ·rintro ⟨i, hi, hq⟩
  exact ⟨_, getD_mem hi, hq⟩
theorem mayOk_id {rt nn st wy : Int} {fc : Bool} {hops qz pz : List D} {nm : List UInt8} (h : mayOk rt nn st wy fc hops qz pz nm = true) : idOk rt nn hops = true := by
 cases h1 : idOk rt nn hops
 ·simp [mayOk, h1] at h
 ·rfl
structure Good (st wy : Int) (fc : Bool) (hops qz pz : List D) : Prop where
 len : pz.length = qz.length
 pos : 1 ≤ qz.length
 few : qz.length ≤ 8
 step : ∀ i, i < qz.length → badStep (qz.getD i .nilp) = false
 sane : ∀ i, i < pz.length → p47 (pz.getD i .nilp) (qz.getD i .nilp) = true
 fits : fitsOk st wy fc hops pz qz = true
theorem mayOk_good {rt nn st wy : Int} {fc : Bool} {hops qz pz : List D} {nm : List UInt8} (h : mayOk rt nn st wy fc hops qz pz nm = true) (h7 : st ≠ 7) : Good st wy fc hops qz pz := by
 have hl := mayOk_len h h7
 have h7' : (st == 7) = false := by simpa using h7
 unfold mayOk at h
 rw [h7'] at h
 cases h1 : idOk rt nn hops
 ·simp [h1] at h
 ·cases h2 : defOk nm qz
  ·simp [h1, h2] at h
  ·have h3 : ((pz.length : Int) != (qz.length : Int)) = false := by simp; omega
   cases h4 : allI p47 pz.length pz qz
   ·simp [h1, h2, h3, h4] at h
   ·cases h5 : fitsOk st wy fc hops pz qz
    ·simp [h1, h2, h3, h4, h5] at h
    ·refine ⟨hl.1, hl.2.1, hl.2.2, fun i hi => ?_, fun i hi => (allI_iff _ _ _ _).1 h4 i hi, h5⟩
     unfold defOk at h2
     simp only [Bool.and_eq_true, Bool.not_eq_true'] at h2
     have := h2.2.2.2
     simp only [List.any_eq_false] at this
     simpa using this _ (getD_mem hi)
abbrev ps (pz : List D) (c : Int) : Int := fi 0 (pz.getD c.toNat .nilp)
abbrev tr (pz : List D) (c : Int) : Int := fi 1 (pz.getD c.toNat .nilp)
abbrev sub (qz : List D) (c : Int) : List UInt8 := fs 4 (qz.getD c.toNat .nilp)
abbrev mx (qz : List D) (c : Int) : Int := fi 5 (qz.getD c.toNat .nilp)
theorem beqF {x y : Int} (h : x ≠ y) : (x == y) = false := by simpa using h
theorem scan_first {α : Type} (p : Nat → Bool) (hit : Nat → α) (fin : α) (c : Nat) : ∀ k i, i ≤ c → c < i + k → (∀ j, i ≤ j → j < c → p j = false) → p c = true → scan p hit fin k i = hit c
 | 0, i, h1, h2, _, _ => by omega
 | k + 1, i, h1, h2, h3, h4 => by
  simp only [scan]
  by_cases he : i = c
  ·subst he
   rw [h4]
   rfl
  ·rw [h3 i (by omega) (by omega)]
   exact scan_first p hit fin c k (i + 1) (by omega) (by omega) (fun j h5 h6 => h3 j (by omega) h6) h4
theorem set_ge {l : List D} {i : Nat} {x : D} (h : l.length ≤ i) : l.set i x = l := List.set_eq_of_length_le h
theorem nil_of_beq {l : List UInt8} (h : (l == []) = true) : l = [] := by cases l <;> simp_all
theorem fits_st {st wy : Int} {fc : Bool} {hops pz qz : List D} (h : fitsOk st wy fc hops pz qz = true) : st = 1 ∨ st = 2 ∨ st = 3 ∨ st = 4 ∨ st = 5 ∨ st = 6 := by
 by_cases h1 : st = 1
 ·exact .inl h1
 by_cases h2 : st = 2
 ·exact .inr (.inl h2)
 by_cases h3 : st = 3
 ·exact .inr (.inr (.inl h3))
 by_cases h4 : st = 4
 ·exact .inr (.inr (.inr (.inl h4)))
 by_cases h5 : st = 5
 ·exact .inr (.inr (.inr (.inr (.inl h5))))
 by_cases h6 : st = 6
 ·exact .inr (.inr (.inr (.inr (.inr h6))))
 ·unfold fitsOk at h
  simp only [beqF h1, beqF h2, beqF h3, beqF h4, beqF h5, beqF h6, cond_false] at h
  cases h
theorem hasI_or {p : D} {v : Int} : (hasI (fi 0 p) (D.int IntKind.i64 v) || false) = (fi 0 p == v) := by simp [hasI_int]
theorem hasI_or2 {p : D} {v u : Int} : (hasI (fi 0 p) (D.int IntKind.i64 v) || (hasI (fi 0 p) (D.int IntKind.i64 u) || false)) = (fi 0 p == v || fi 0 p == u) := by simp [hasI_int]
def Bok (n : Nat) (x : AR) : Prop := x = .bad 210 ∨ ∃ s w f p, x = .good s w f p ∧ p.length = n
theorem cond_B {n : Nat} {b : Bool} {x y : AR} (hx : Bok n x) (hy : Bok n y) : Bok n (bif b then x else y) := by
 cases b
 ·exact hy
 ·exact hx
theorem ap1_B (st wy : Int) (fc : Bool) (hops pz qz : List D) (sp mw : Int) : Bok pz.length (ap1 st wy fc hops pz qz sp mw) := by
 unfold ap1
 repeat' first | exact .inl rfl | exact .inr ⟨_, _, _, _, rfl, by first | rfl | exact calm_len _ | exact own_len _ _ _ | exact (own_len _ _ _).trans (calm_len _) | exact List.length_set⟩ | apply cond_B
theorem ap2_B (st wy : Int) (fc : Bool) (hops pz qz : List D) (sp mw : Int) : Bok pz.length (ap2 st wy fc hops pz qz sp mw) := by
 unfold ap2
 repeat' first | exact .inl rfl | exact .inr ⟨_, _, _, _, rfl, by first | rfl | exact calm_len _ | exact own_len _ _ _ | exact (own_len _ _ _).trans (calm_len _) | exact List.length_set⟩ | apply cond_B
theorem ap3_B (st wy : Int) (fc : Bool) (hops pz qz : List D) (sp mw : Int) : Bok pz.length (ap3 st wy fc hops pz qz sp mw) := by
 unfold ap3
 repeat' first | exact .inl rfl | exact .inr ⟨_, _, _, _, rfl, by first | rfl | exact calm_len _ | exact own_len _ _ _ | exact (own_len _ _ _).trans (calm_len _) | exact List.length_set⟩ | apply cond_B
theorem ap4_B (st wy : Int) (fc : Bool) (hops pz qz : List D) (sp mw : Int) : Bok pz.length (ap4 st wy fc hops pz qz sp mw) := by
 unfold ap4
 repeat' first | exact .inl rfl | exact .inr ⟨_, _, _, _, rfl, by first | rfl | exact calm_len _ | exact own_len _ _ _ | exact (own_len _ _ _).trans (calm_len _) | exact List.length_set⟩ | apply cond_B
theorem ap5_B (st wy : Int) (fc : Bool) (hops pz qz : List D) (sp mw : Int) : Bok pz.length (ap5 st wy fc hops pz qz sp mw) := by
 unfold ap5
 repeat' first | exact .inl rfl | exact .inr ⟨_, _, _, _, rfl, by first | rfl | exact calm_len _ | exact own_len _ _ _ | exact (own_len _ _ _).trans (calm_len _) | exact List.length_set⟩ | apply cond_B
theorem ap6_B (st wy : Int) (fc : Bool) (hops pz qz : List D) (sp mw : Int) : Bok pz.length (ap6 st wy fc hops pz qz sp mw) := by
 unfold ap6
 repeat' first | exact .inl rfl | exact .inr ⟨_, _, _, _, rfl, by first | rfl | exact calm_len _ | exact own_len _ _ _ | exact (own_len _ _ _).trans (calm_len _) | exact List.length_set⟩ | apply cond_B
theorem ap7_B (st wy : Int) (fc : Bool) (hops pz qz : List D) (sp mw : Int) : Bok pz.length (ap7 st wy fc hops pz qz sp mw) := by
 unfold ap7
 repeat' first | exact .inl rfl | exact .inr ⟨_, _, _, _, rfl, by first | rfl | exact calm_len _ | exact own_len _ _ _ | exact (own_len _ _ _).trans (calm_len _) | exact List.length_set⟩ | apply cond_B
theorem ap8_B (st wy : Int) (fc : Bool) (hops pz qz : List D) (sp mw : Int) : Bok pz.length (ap8 st wy fc hops pz qz sp mw) := by
 unfold ap8
 repeat' first | exact .inl rfl | exact .inr ⟨_, _, _, _, rfl, by first | rfl | exact calm_len _ | exact own_len _ _ _ | exact (own_len _ _ _).trans (calm_len _) | exact List.length_set⟩ | apply cond_B
theorem ap9_B (st wy : Int) (fc : Bool) (hops pz qz : List D) (sp mw : Int) : Bok pz.length (ap9 st wy fc hops pz qz sp mw) := by
 unfold ap9
 repeat' first | exact .inl rfl | exact .inr ⟨_, _, _, _, rfl, by first | rfl | exact calm_len _ | exact own_len _ _ _ | exact (own_len _ _ _).trans (calm_len _) | exact List.length_set⟩ | apply cond_B
theorem ap10_B (st wy : Int) (fc : Bool) (hops pz qz : List D) (sp mw : Int) : Bok pz.length (ap10 st wy fc hops pz qz sp mw) := by
 unfold ap10
 repeat' first | exact .inl rfl | exact .inr ⟨_, _, _, _, rfl, by first | rfl | exact calm_len _ | exact own_len _ _ _ | exact (own_len _ _ _).trans (calm_len _) | exact List.length_set⟩ | apply cond_B
theorem ap11_B (st wy : Int) (fc : Bool) (hops pz qz : List D) (sp mw : Int) : Bok pz.length (ap11 st wy fc hops pz qz sp mw) := by
 unfold ap11
 repeat' first | exact .inl rfl | exact .inr ⟨_, _, _, _, rfl, by first | rfl | exact calm_len _ | exact own_len _ _ _ | exact (own_len _ _ _).trans (calm_len _) | exact List.length_set⟩ | apply cond_B
theorem ap12_B (st wy : Int) (fc : Bool) (hops pz qz : List D) (sp mw : Int) : Bok pz.length (ap12 st wy fc hops pz qz sp mw) := by
 unfold ap12
 repeat' first | exact .inl rfl | exact .inr ⟨_, _, _, _, rfl, by first | rfl | exact calm_len _ | exact own_len _ _ _ | exact (own_len _ _ _).trans (calm_len _) | exact List.length_set⟩ | apply cond_B
theorem ap13_B (st wy : Int) (fc : Bool) (hops pz qz : List D) (sp mw : Int) : Bok pz.length (ap13 st wy fc hops pz qz sp mw) := by
 unfold ap13
 repeat' first | exact .inl rfl | exact .inr ⟨_, _, _, _, rfl, by first | rfl | exact calm_len _ | exact own_len _ _ _ | exact (own_len _ _ _).trans (calm_len _) | exact List.length_set⟩ | apply cond_B
theorem ap14_B (st wy : Int) (fc : Bool) (hops pz qz : List D) (sp mw : Int) : Bok pz.length (ap14 st wy fc hops pz qz sp mw) := by
 unfold ap14
 repeat' first | exact .inl rfl | exact .inr ⟨_, _, _, _, rfl, by first | rfl | exact calm_len _ | exact own_len _ _ _ | exact (own_len _ _ _).trans (calm_len _) | exact List.length_set⟩ | apply cond_B
theorem ap15_B (st wy : Int) (fc : Bool) (hops pz qz : List D) (sp mw : Int) : Bok pz.length (ap15 st wy fc hops pz qz sp mw) := by
 unfold ap15
 repeat' first | exact .inl rfl | exact .inr ⟨_, _, _, _, rfl, by first | rfl | exact calm_len _ | exact own_len _ _ _ | exact (own_len _ _ _).trans (calm_len _) | exact List.length_set⟩ | apply cond_B
theorem ap16_B (st wy : Int) (fc : Bool) (hops pz qz : List D) (sp mw : Int) : Bok pz.length (ap16 st wy fc hops pz qz sp mw) := by
 unfold ap16
 repeat' first | exact .inl rfl | exact .inr ⟨_, _, _, _, rfl, by first | rfl | exact calm_len _ | exact own_len _ _ _ | exact (own_len _ _ _).trans (calm_len _) | exact List.length_set⟩ | apply cond_B
theorem applyR_B (st wy : Int) (fc : Bool) (hops pz qz : List D) (kd sp mw : Int) (hk : 1 ≤ kd ∧ kd ≤ 16) : Bok pz.length (applyR st wy fc hops pz qz kd sp mw) := by
 have : kd = 1 ∨ kd = 2 ∨ kd = 3 ∨ kd = 4 ∨ kd = 5 ∨ kd = 6 ∨ kd = 7 ∨ kd = 8 ∨ kd = 9 ∨ kd = 10 ∨ kd = 11 ∨ kd = 12 ∨ kd = 13 ∨ kd = 14 ∨ kd = 15 ∨ kd = 16 := by omega
 rcases this with rfl | rfl | rfl | rfl | rfl | rfl | rfl | rfl | rfl | rfl | rfl | rfl | rfl | rfl | rfl | rfl
 ·exact ap1_B st wy fc hops pz qz sp mw
 ·exact ap2_B st wy fc hops pz qz sp mw
 ·exact ap3_B st wy fc hops pz qz sp mw
 ·exact ap4_B st wy fc hops pz qz sp mw
 ·exact ap5_B st wy fc hops pz qz sp mw
 ·exact ap6_B st wy fc hops pz qz sp mw
 ·exact ap7_B st wy fc hops pz qz sp mw
 ·exact ap8_B st wy fc hops pz qz sp mw
 ·exact ap9_B st wy fc hops pz qz sp mw
 ·exact ap10_B st wy fc hops pz qz sp mw
 ·exact ap11_B st wy fc hops pz qz sp mw
 ·exact ap12_B st wy fc hops pz qz sp mw
 ·exact ap13_B st wy fc hops pz qz sp mw
 ·exact ap14_B st wy fc hops pz qz sp mw
 ·exact ap15_B st wy fc hops pz qz sp mw
 ·exact ap16_B st wy fc hops pz qz sp mw
theorem appR_good {rt nn st wy : Int} {fc : Bool} {hops qz pz : List D} {nm : List UInt8} {kd mr mn sp mw : Int} {mh ms : List D} {mm : List UInt8} (h : arE (appR rt nn st wy fc hops qz pz nm kd mr mn sp mw mh ms mm) = 0) :
  mayOk rt nn st wy fc hops qz pz nm = true ∧ st ≠ 7 ∧ moveOk kd mr mn sp mw mh ms mm = true ∧ ∃ s w f p, appR rt nn st wy fc hops qz pz nm kd mr mn sp mw mh ms mm = .good s w f p ∧ applyR st wy fc hops pz qz kd sp mw = .good s w f p ∧ p.length = pz.length := by
 unfold appR at h ⊢
 cases hm : mayOk rt nn st wy fc hops qz pz nm
 ·rw [hm] at h; cases h
 ·cases hv : moveOk kd mr mn sp mw mh ms mm && idCmp mr mn rt nn mh hops == 0
  ·rw [hm, hv] at h; cases h
  ·cases h7 : (st == 7)
   ·rw [hm, hv, h7] at h
    simp only [cond_true, cond_false] at h ⊢
    simp only [Bool.and_eq_true] at hv
    refine ⟨by first | trivial | rfl, by simpa using h7, hv.1, ?_⟩
    rcases applyR_B st wy fc hops pz qz kd sp mw (moveOk_kd hv.1) with hb | ⟨s, w, f, p, hb, hl⟩
    ·rw [hb] at h; cases h
    ·exact ⟨s, w, f, p, hb, hb, hl⟩
   ·rw [hm, hv, h7] at h; cases h
theorem getD_set {l : List D} {c j : Nat} {x : D} (hc : c < l.length) : (l.set c x).getD j .nilp = if c = j then x else l.getD j .nilp := by
 rw [List.getD_eq_getElem?_getD, List.getElem?_set]
 split
 ·rename_i h
  subst h
  first | rfl | (rw [if_pos hc]; rfl)
 ·rw [List.getD_eq_getElem?_getD]
theorem name_nil : name [] = false := rfl
abbrev part (s t : Int) : D := D.agg [.int .i64 s, .int .i64 t]
abbrev stAt (pz : List D) (c : Nat) : Int := fi 0 (pz.getD c .nilp)
abbrev trAt (pz : List D) (c : Nat) : Int := fi 1 (pz.getD c .nilp)
abbrev loc (qz : List D) (c : Nat) : Bool := fs 4 (qz.getD c .nilp) == []
inductive Mv (st wy : Int) (fc : Bool) (hops pz qz : List D) (sp mw : Int) : Int → Int → Int → Bool → List D → Prop where
 | fail (hl : sp.toNat < pz.length) (hc : sp = cur st pz) (ha : loc qz sp.toNat = true) (hs : st = 1 ∧ trAt pz sp.toNat < fi 5 (qz.getD sp.toNat .nilp) ∨ st = 4 ∧ trAt pz sp.toNat < 5) : Mv st wy fc hops pz qz sp mw 3 st wy fc (pz.set sp.toNat (part (stAt pz sp.toNat) (IntKind.i64.wrap (trAt pz sp.toNat + 1))))
 | does (hl : sp.toNat < pz.length) (hc : sp = cur st pz) (ha : loc qz sp.toNat = true) (hs : st = 1) : Mv st wy fc hops pz qz sp mw 4 st wy fc (pz.set sp.toNat (part 2 0))
 | ask (hl : sp.toNat < pz.length) (hc : sp = cur st pz) (ha : loc qz sp.toNat = false) (hs : st = 1) (h0 : stAt pz sp.toNat = 0) : Mv st wy fc hops pz qz sp mw 5 st wy fc (pz.set sp.toNat (part 1 (trAt pz sp.toNat)))
 | got (hl : sp.toNat < pz.length) (hc : sp = cur st pz) (ha : loc qz sp.toNat = false) (hs : st = 1) (h0 : stAt pz sp.toNat = 1) : Mv st wy fc hops pz qz sp mw 6 st wy fc (pz.set sp.toNat (part 2 (trAt pz sp.toNat)))
 | lost (hl : sp.toNat < pz.length) (ha : loc qz sp.toNat = false) (ho : fc = true ∨ st ≠ 3 ∧ st ≠ 6) (h0 : stAt pz sp.toNat = 1 ∨ stAt pz sp.toNat = 2) : Mv st wy fc hops pz qz sp mw 7 st wy fc (pz.set sp.toNat (part 3 (trAt pz sp.toNat)))
 | hold (hs : st = 1) (hh : 0 < hops.length) (hd : allI p135 pz.length pz qz = true) : Mv st wy fc hops pz qz sp mw 8 2 0 fc pz
 | commit (hs : st = 1 ∧ hops.length = 0 ∨ st = 2) (hd : allI p135 pz.length pz qz = true) : Mv st wy fc hops pz qz sp mw 9 3 0 fc (ownParts 4 pz qz)
 | back (hs : st = 1 ∨ st = 2 ∧ (mw = 7 ∨ mw = 5 ∧ allI (p97 [.int .i64 3]) pz.length pz qz = false)) : Mv st wy fc hops pz qz sp mw 10 4 mw fc (calmParts pz)
 | undo (hl : sp.toNat < pz.length) (hc : sp = cur st pz) (ha : loc qz sp.toNat = true) (hs : st = 4) : Mv st wy fc hops pz qz sp mw 11 st wy fc (pz.set sp.toNat (part 3 0))
 | jam (hl : sp.toNat < pz.length) (hc : sp = cur st pz) (ha : loc qz sp.toNat = true) (hs : st = 4) (h5 : trAt pz sp.toNat = 5) : Mv st wy fc hops pz qz sp mw 12 5 wy fc pz
 | again (hs : st = 5) : Mv st wy fc hops pz qz sp mw 13 4 wy fc (pz.set (cur st pz).toNat (part (stAt pz (cur st pz).toNat) 0))
 | ends (hs : st = 4) (hc : cur st pz < 0) : Mv st wy fc hops pz qz sp mw 14 6 wy fc pz
 | kept (hl : sp.toNat < pz.length) (ha : loc qz sp.toNat = false) (hs : st = 3) (h0 : stAt pz sp.toNat = 2) : Mv st wy fc hops pz qz sp mw 15 st wy fc (pz.set sp.toNat (part 4 (trAt pz sp.toNat)))
 | forceC (hs : st ≠ 3) (hs6 : st ≠ 6) (h1 : sp = 1) : Mv st wy fc hops pz qz sp mw 16 3 wy true (ownParts 4 (calmParts pz) qz)
 | forceU (hs : st ≠ 3) (hs6 : st ≠ 6) (h1 : sp ≠ 1) : Mv st wy fc hops pz qz sp mw 16 6 wy true (ownParts 3 (calmParts pz) qz)
theorem good_inj {s w s' w' : Int} {f f' : Bool} {p p' : List D} (h : AR.good s w f p = .good s' w' f' p') : s' = s ∧ w' = w ∧ f' = f ∧ p' = p := by
 cases h
 exact ⟨rfl, rfl, rfl, rfl⟩
theorem apply_mv3 {st wy : Int} {fc : Bool} {hops qz pz : List D} {sp mw : Int} {s w : Int} {f : Bool} {p : List D} (_hs0 : 0 ≤ sp)
  (h : ap3 st wy fc hops pz qz sp mw = .good s w f p) : Mv st wy fc hops pz qz sp mw 3 s w f p := by
 unfold ap3 at h
 simp only [Bool.cond_eq_ite] at h
 repeat' split at h
 all_goals first | (cases h; done) | (obtain ⟨rfl, rfl, rfl, rfl⟩ := good_inj h; clear h; simp only [beq_iff_eq, Bool.not_eq_true', decide_eq_true_eq, Bool.not_not, beq_eq_false_iff_ne, ne_eq] at *)
 all_goals first | (refine .fail ?_ ?_ ?_ ?_ <;> first | omega | assumption | (first | exact .inl ⟨by assumption, by assumption⟩ | exact .inr ⟨by assumption, by assumption⟩) | (unfold loc; simp_all; done) | (simp_all; done))
theorem apply_mv4 {st wy : Int} {fc : Bool} {hops qz pz : List D} {sp mw : Int} {s w : Int} {f : Bool} {p : List D} (_hs0 : 0 ≤ sp)
  (h : ap4 st wy fc hops pz qz sp mw = .good s w f p) : Mv st wy fc hops pz qz sp mw 4 s w f p := by
 unfold ap4 at h
 simp only [Bool.cond_eq_ite] at h
 repeat' split at h
 all_goals first | (cases h; done) | (obtain ⟨rfl, rfl, rfl, rfl⟩ := good_inj h; clear h; simp only [beq_iff_eq, Bool.not_eq_true', decide_eq_true_eq, Bool.not_not, beq_eq_false_iff_ne, ne_eq] at *)
 all_goals first | (refine .does ?_ ?_ ?_ ?_ <;> first | omega | assumption | (first | exact .inl ⟨by assumption, by assumption⟩ | exact .inr ⟨by assumption, by assumption⟩) | (unfold loc; simp_all; done) | (simp_all; done))
theorem apply_mv5 {st wy : Int} {fc : Bool} {hops qz pz : List D} {sp mw : Int} {s w : Int} {f : Bool} {p : List D} (_hs0 : 0 ≤ sp)
  (h : ap5 st wy fc hops pz qz sp mw = .good s w f p) : Mv st wy fc hops pz qz sp mw 5 s w f p := by
 unfold ap5 at h
 simp only [Bool.cond_eq_ite, hasI_or] at h
 repeat' split at h
 all_goals first | (cases h; done) | (obtain ⟨rfl, rfl, rfl, rfl⟩ := good_inj h; clear h; simp only [beq_iff_eq, Bool.not_eq_true', decide_eq_true_eq, beq_eq_false_iff_ne, ne_eq] at *)
 all_goals first | (refine .ask ?_ ?_ ?_ ?_ ?_ <;> first | omega | assumption | (first | exact .inl ⟨by assumption, by assumption⟩ | exact .inr ⟨by assumption, by assumption⟩) | (unfold loc; simp_all; done) | (simp_all; done))
theorem apply_mv6 {st wy : Int} {fc : Bool} {hops qz pz : List D} {sp mw : Int} {s w : Int} {f : Bool} {p : List D} (_hs0 : 0 ≤ sp)
  (h : ap6 st wy fc hops pz qz sp mw = .good s w f p) : Mv st wy fc hops pz qz sp mw 6 s w f p := by
 unfold ap6 at h
 simp only [Bool.cond_eq_ite, hasI_or] at h
 repeat' split at h
 all_goals first | (cases h; done) | (obtain ⟨rfl, rfl, rfl, rfl⟩ := good_inj h; clear h; simp only [beq_iff_eq, Bool.not_eq_true', decide_eq_true_eq, beq_eq_false_iff_ne, ne_eq] at *)
 all_goals first | (refine .got ?_ ?_ ?_ ?_ ?_ <;> first | omega | assumption | (first | exact .inl ⟨by assumption, by assumption⟩ | exact .inr ⟨by assumption, by assumption⟩) | (unfold loc; simp_all; done) | (simp_all; done))
theorem apply_mv7 {st wy : Int} {fc : Bool} {hops qz pz : List D} {sp mw : Int} {s w : Int} {f : Bool} {p : List D} (_hs0 : 0 ≤ sp)
  (h : ap7 st wy fc hops pz qz sp mw = .good s w f p) : Mv st wy fc hops pz qz sp mw 7 s w f p := by
 unfold ap7 at h
 simp only [Bool.cond_eq_ite, hasI_or2, Bool.or_eq_true, bne_iff_ne] at h
 repeat' split at h
 all_goals first | (cases h; done) | (obtain ⟨rfl, rfl, rfl, rfl⟩ := good_inj h; clear h; simp only [beq_iff_eq, Bool.not_eq_true', decide_eq_true_eq, beq_eq_false_iff_ne, ne_eq] at *)
 all_goals first | (refine .lost ?_ ?_ ?_ ?_ <;> first | omega | assumption | (first | exact .inl ⟨by assumption, by assumption⟩ | exact .inr ⟨by assumption, by assumption⟩) | (unfold loc; simp_all; done) | (simp_all; done))
theorem apply_mv8 {st wy : Int} {fc : Bool} {hops qz pz : List D} {sp mw : Int} {s w : Int} {f : Bool} {p : List D} (_hs0 : 0 ≤ sp)
  (h : ap8 st wy fc hops pz qz sp mw = .good s w f p) : Mv st wy fc hops pz qz sp mw 8 s w f p := by
 unfold ap8 at h
 simp only [Bool.cond_eq_ite] at h
 repeat' split at h
 all_goals first | (cases h; done) | (obtain ⟨rfl, rfl, rfl, rfl⟩ := good_inj h; clear h; simp only [beq_iff_eq, decide_eq_true_eq] at *)
 all_goals first | (refine .hold ?_ ?_ ?_ <;> first | omega | assumption | (first | exact .inl ⟨by assumption, by assumption⟩ | exact .inr ⟨by assumption, by assumption⟩) | (unfold loc; simp_all; done) | (simp_all; done))
theorem apply_mv9 {st wy : Int} {fc : Bool} {hops qz pz : List D} {sp mw : Int} {s w : Int} {f : Bool} {p : List D} (_hs0 : 0 ≤ sp)
  (h : ap9 st wy fc hops pz qz sp mw = .good s w f p) : Mv st wy fc hops pz qz sp mw 9 s w f p := by
 unfold ap9 at h
 simp only [Bool.cond_eq_ite] at h
 repeat' split at h
 all_goals first | (cases h; done) | (obtain ⟨rfl, rfl, rfl, rfl⟩ := good_inj h; clear h; simp only [beq_iff_eq, Bool.not_eq_true', beq_eq_false_iff_ne, ne_eq] at *)
 all_goals first | (refine .commit ?_ ?_ <;> first | omega | assumption | (first | exact .inl ⟨by assumption, by assumption⟩ | exact .inr ⟨by assumption, by assumption⟩) | (unfold loc; simp_all; done) | (simp_all; done))
theorem apply_mv10 {st wy : Int} {fc : Bool} {hops qz pz : List D} {sp mw : Int} {s w : Int} {f : Bool} {p : List D} (_hs0 : 0 ≤ sp)
  (h : ap10 st wy fc hops pz qz sp mw = .good s w f p) : Mv st wy fc hops pz qz sp mw 10 s w f p := by
 unfold ap10 at h
 simp only [Bool.cond_eq_ite] at h
 repeat' split at h
 all_goals first | (cases h; done) | (obtain ⟨rfl, rfl, rfl, rfl⟩ := good_inj h; clear h; simp only [beq_iff_eq, Bool.not_eq_true', Bool.not_not, beq_eq_false_iff_ne, ne_eq] at *)
 all_goals first | (refine .back ?_ <;> first | omega | assumption | (first | exact .inl ⟨by assumption, by assumption⟩ | exact .inr ⟨by assumption, by assumption⟩) | (unfold loc; simp_all; done) | (simp_all; done))
theorem apply_mv11 {st wy : Int} {fc : Bool} {hops qz pz : List D} {sp mw : Int} {s w : Int} {f : Bool} {p : List D} (_hs0 : 0 ≤ sp)
  (h : ap11 st wy fc hops pz qz sp mw = .good s w f p) : Mv st wy fc hops pz qz sp mw 11 s w f p := by
 unfold ap11 at h
 simp only [Bool.cond_eq_ite] at h
 repeat' split at h
 all_goals first | (cases h; done) | (obtain ⟨rfl, rfl, rfl, rfl⟩ := good_inj h; clear h; simp only [beq_iff_eq, Bool.not_eq_true', decide_eq_true_eq, Bool.not_not, beq_eq_false_iff_ne, ne_eq] at *)
 all_goals first | (refine .undo ?_ ?_ ?_ ?_ <;> first | omega | assumption | (first | exact .inl ⟨by assumption, by assumption⟩ | exact .inr ⟨by assumption, by assumption⟩) | (unfold loc; simp_all; done) | (simp_all; done))
theorem apply_mv12 {st wy : Int} {fc : Bool} {hops qz pz : List D} {sp mw : Int} {s w : Int} {f : Bool} {p : List D} (_hs0 : 0 ≤ sp)
  (h : ap12 st wy fc hops pz qz sp mw = .good s w f p) : Mv st wy fc hops pz qz sp mw 12 s w f p := by
 unfold ap12 at h
 simp only [Bool.cond_eq_ite] at h
 repeat' split at h
 all_goals first | (cases h; done) | (obtain ⟨rfl, rfl, rfl, rfl⟩ := good_inj h; clear h; simp only [beq_iff_eq, Bool.not_eq_true', decide_eq_true_eq, Bool.not_not, beq_eq_false_iff_ne, ne_eq] at *)
 all_goals first | (refine .jam ?_ ?_ ?_ ?_ ?_ <;> first | omega | assumption | (first | exact .inl ⟨by assumption, by assumption⟩ | exact .inr ⟨by assumption, by assumption⟩) | (unfold loc; simp_all; done) | (simp_all; done))
theorem apply_mv13 {st wy : Int} {fc : Bool} {hops qz pz : List D} {sp mw : Int} {s w : Int} {f : Bool} {p : List D} (_hs0 : 0 ≤ sp)
  (h : ap13 st wy fc hops pz qz sp mw = .good s w f p) : Mv st wy fc hops pz qz sp mw 13 s w f p := by
 unfold ap13 at h
 simp only [Bool.cond_eq_ite, bne_iff_ne] at h
 repeat' split at h
 all_goals first | (cases h; done) | (obtain ⟨rfl, rfl, rfl, rfl⟩ := good_inj h; clear h; simp only [beq_iff_eq, ne_eq] at *)
 all_goals first | (refine .again ?_ <;> first | omega | assumption | (first | exact .inl ⟨by assumption, by assumption⟩ | exact .inr ⟨by assumption, by assumption⟩) | (unfold loc; simp_all; done) | (simp_all; done))
theorem apply_mv14 {st wy : Int} {fc : Bool} {hops qz pz : List D} {sp mw : Int} {s w : Int} {f : Bool} {p : List D} (_hs0 : 0 ≤ sp)
  (h : ap14 st wy fc hops pz qz sp mw = .good s w f p) : Mv st wy fc hops pz qz sp mw 14 s w f p := by
 unfold ap14 at h
 simp only [Bool.cond_eq_ite] at h
 repeat' split at h
 all_goals first | (cases h; done) | (obtain ⟨rfl, rfl, rfl, rfl⟩ := good_inj h; clear h; simp only [beq_iff_eq, decide_eq_true_eq] at *)
 all_goals first | (refine .ends ?_ ?_ <;> first | omega | assumption | (first | exact .inl ⟨by assumption, by assumption⟩ | exact .inr ⟨by assumption, by assumption⟩) | (unfold loc; simp_all; done) | (simp_all; done))
theorem apply_mv15 {st wy : Int} {fc : Bool} {hops qz pz : List D} {sp mw : Int} {s w : Int} {f : Bool} {p : List D} (_hs0 : 0 ≤ sp)
  (h : ap15 st wy fc hops pz qz sp mw = .good s w f p) : Mv st wy fc hops pz qz sp mw 15 s w f p := by
 unfold ap15 at h
 simp only [Bool.cond_eq_ite, hasI_or] at h
 repeat' split at h
 all_goals first | (cases h; done) | (obtain ⟨rfl, rfl, rfl, rfl⟩ := good_inj h; clear h; simp only [beq_iff_eq, Bool.not_eq_true', decide_eq_true_eq, beq_eq_false_iff_ne, ne_eq] at *)
 all_goals first | (refine .kept ?_ ?_ ?_ ?_ <;> first | omega | assumption | (first | exact .inl ⟨by assumption, by assumption⟩ | exact .inr ⟨by assumption, by assumption⟩) | (unfold loc; simp_all; done) | (simp_all; done))
theorem apply_mv16 {st wy : Int} {fc : Bool} {hops qz pz : List D} {sp mw : Int} {s w : Int} {f : Bool} {p : List D} (_hs0 : 0 ≤ sp)
  (h : ap16 st wy fc hops pz qz sp mw = .good s w f p) : Mv st wy fc hops pz qz sp mw 16 s w f p := by
 unfold ap16 at h
 simp only [Bool.cond_eq_ite] at h
 repeat' split at h
 all_goals first | (cases h; done) | (obtain ⟨rfl, rfl, rfl, rfl⟩ := good_inj h; clear h; simp only [beq_iff_eq] at *)
 all_goals first | (refine .forceC ?_ ?_ ?_ <;> first | omega | assumption | (first | exact .inl ⟨by assumption, by assumption⟩ | exact .inr ⟨by assumption, by assumption⟩) | (unfold loc; simp_all; done) | (simp_all; done)) | (refine .forceU ?_ ?_ ?_ <;> first | omega | assumption | (first | exact .inl ⟨by assumption, by assumption⟩ | exact .inr ⟨by assumption, by assumption⟩) | (unfold loc; simp_all; done) | (simp_all; done))
theorem apply_mv {st wy : Int} {fc : Bool} {hops qz pz : List D} {kd sp mw : Int} {s w : Int} {f : Bool} {p : List D} (hs0 : 0 ≤ sp) (hk : 1 ≤ kd ∧ kd ≤ 16)
  (h : applyR st wy fc hops pz qz kd sp mw = .good s w f p) : Mv st wy fc hops pz qz sp mw kd s w f p := by
 have hkk : kd = 1 ∨ kd = 2 ∨ kd = 3 ∨ kd = 4 ∨ kd = 5 ∨ kd = 6 ∨ kd = 7 ∨ kd = 8 ∨ kd = 9 ∨ kd = 10 ∨ kd = 11 ∨ kd = 12 ∨ kd = 13 ∨ kd = 14 ∨ kd = 15 ∨ kd = 16 := by omega
 rcases hkk with rfl | rfl | rfl | rfl | rfl | rfl | rfl | rfl | rfl | rfl | rfl | rfl | rfl | rfl | rfl | rfl
 ·replace h : ap1 st wy fc hops pz qz sp mw = .good s w f p := h
  unfold ap1 at h
  rw [cself] at h; cases h
 ·replace h : ap2 st wy fc hops pz qz sp mw = .good s w f p := h
  unfold ap2 at h
  rw [cself] at h; cases h
 ·exact apply_mv3 hs0 h
 ·exact apply_mv4 hs0 h
 ·exact apply_mv5 hs0 h
 ·exact apply_mv6 hs0 h
 ·exact apply_mv7 hs0 h
 ·exact apply_mv8 hs0 h
 ·exact apply_mv9 hs0 h
 ·exact apply_mv10 hs0 h
 ·exact apply_mv11 hs0 h
 ·exact apply_mv12 hs0 h
 ·exact apply_mv13 hs0 h
 ·exact apply_mv14 hs0 h
 ·exact apply_mv15 hs0 h
 ·exact apply_mv16 hs0 h
theorem q47 {x y : D} : p47 x y = true ↔ 0 ≤ fi 0 x ∧ fi 0 x ≤ 4 ∧ ((fs 4 y == []) = false ∨ fi 0 x ≠ 1) ∧ 0 ≤ fi 1 x ∧ fi 1 x ≤ 5 := by
 simp only [p47, asksAt, Bool.and_eq_true, Bool.or_eq_true, decide_eq_true_eq, bne_iff_ne, ne_eq, Bool.not_eq_true']
theorem q80 {x y : D} : p80 x y = true ↔ fi 0 x = 2 ∨ (fs 4 y == []) = false ∧ fi 0 x = 3 := by
 simp only [p80, asksAt, Bool.and_eq_true, Bool.or_eq_true, beq_iff_eq, Bool.not_eq_true']
theorem q81 {x y : D} : p81 x y = true ↔ (fs 4 y == []) = false ∨ fi 0 x ≠ 2 := by
 simp only [p81, asksAt, Bool.or_eq_true, Bool.not_eq_true', beq_eq_false_iff_ne, ne_eq]
theorem q83 {x y : D} : p83 x y = true ↔ fi 0 x = 4 ∨ (fs 4 y == []) = false ∧ fi 0 x = 2 := by
 simp only [p83, asksAt, Bool.and_eq_true, Bool.or_eq_true, beq_iff_eq, Bool.not_eq_true']
theorem q84 {x y : D} : p84 x y = true ↔ (fs 4 y == []) = false ∨ fi 0 x ≠ 2 ∧ fi 0 x ≠ 4 := by
 simp only [p84, asksAt, Bool.or_eq_true, Bool.not_eq_true', Bool.or_eq_false_iff, beq_eq_false_iff_ne, ne_eq]
theorem q974 {x y : D} : p97 w4 x y = true ↔ fi 0 x ≠ 4 := by
 simp only [p97, w4, List.any_cons, List.any_nil, hasI_int, Bool.or_false, Bool.not_eq_true', beq_eq_false_iff_ne, ne_eq]
theorem q97124 {x y : D} : p97 w124 x y = true ↔ fi 0 x ≠ 1 ∧ fi 0 x ≠ 2 ∧ fi 0 x ≠ 4 := by
 simp only [p97, w124, List.any_cons, List.any_nil, hasI_int, Bool.or_false, Bool.not_eq_true', Bool.or_eq_false_iff, beq_eq_false_iff_ne, ne_eq]
theorem q109 {b : Bool} {x y : D} : p109 b x y = true ↔ b = true ∧ (fi 0 x = 0 ∨ (fs 4 y == []) = false ∧ fi 0 x = 1) ∨ fi 0 x = 0 ∧ fi 1 x = 0 := by
 simp only [p109, asksAt, Bool.and_eq_true, Bool.or_eq_true, beq_iff_eq, Bool.not_eq_true']
theorem q135 {x y : D} : p135 x y = true ↔ fi 0 x = 2 := by simp only [p135, beq_iff_eq]
def Run (n : Nat) (s t : Nat → Int) (l : Nat → Bool) : Prop :=
 ∃ k, k ≤ n ∧ (∀ j, j < k → s j = 2 ∨ l j = false ∧ s j = 3) ∧ ∀ j, k ≤ j → j < n → j = k ∧ (s j = 0 ∨ l j = false ∧ s j = 1) ∨ s j = 0 ∧ t j = 0
theorem tail_iff {pz qz : List D} {k : Nat} (_hk : k ≤ pz.length) : tailOk k pz qz = true ↔ ∀ j, k ≤ j → j < pz.length → j = k ∧ (stAt pz j = 0 ∨ loc qz j = false ∧ stAt pz j = 1) ∨ stAt pz j = 0 ∧ trAt pz j = 0 := by
 unfold tailOk
 rw [scan_all (fun i => p109 ((i : Int) == (k : Int)) (pz.getD i .nilp) (qz.getD i .nilp))]
 constructor
 ·intro h j h1 h2
  have := q109.1 (h j h1 (by omega))
  rw [beq_iff_eq] at this
  rcases this with ⟨h3, h4⟩ | h4
  ·exact .inl ⟨by omega, h4⟩
  ·exact .inr h4
 ·intro h j h1 h2
  refine q109.2 ?_
  rw [beq_iff_eq]
  rcases h j h1 (by omega) with ⟨h3, h4⟩ | h4
  ·exact .inl ⟨by omega, h4⟩
  ·exact .inr h4
theorem run_iff {pz qz : List D} : runOk pz qz = true ↔ Run pz.length (stAt pz) (trAt pz) (loc qz) := by
 have first : ∀ n (p : Nat → Bool), ∃ k, k ≤ n ∧ (∀ j, j < k → p j = true) ∧ (k < n → p k = false) := by
  intro n p
  induction n with
  | zero => exact ⟨0, by omega, fun j hj => by omega, fun h => by omega⟩
  | succ n ih =>
   obtain ⟨k, h1, h2, h3⟩ := ih
   by_cases hk : k < n
   ·exact ⟨k, by omega, h2, fun _ => h3 hk⟩
   ·have : k = n := by omega
    subst this
    cases hp : p k
    ·exact ⟨k, by omega, h2, fun _ => hp⟩
    ·refine ⟨k + 1, by omega, fun j hj => ?_, fun h => by omega⟩
     by_cases he : j = k
     ·rw [he]; exact hp
     ·exact h2 j (by omega)
 obtain ⟨k, h1, h2, h3⟩ := first pz.length (fun i => p80 (pz.getD i .nilp) (qz.getD i .nilp))
 have hr : runOk pz qz = tailOk k pz qz := by
  unfold runOk
  by_cases hk : k < pz.length
  ·exact scan_first _ _ _ k _ _ (by omega) (by omega) (fun j _ hj => by rw [h2 j hj]; rfl) (by rw [h3 hk]; rfl)
  ·have : k = pz.length := by omega
   subst this
   exact scan_none _ _ _ _ _ (fun j _ hj => by rw [h2 j (by omega)]; rfl)
 rw [hr, tail_iff h1]
 constructor
 ·intro h
  exact ⟨k, h1, fun j hj => q80.1 (h2 j hj), h⟩
 ·rintro ⟨k', g1, g2, g3⟩
  have : k = k' := by
   by_cases hlt : k' < k
   ·exfalso
    have h4 := q80.1 (h2 k' hlt)
    have h5 := g3 k' (by omega) (by omega)
    have h4 : stAt pz k' = 2 ∨ loc qz k' = false ∧ stAt pz k' = 3 := h4
    omega
   ·by_cases hgt : k < k'
    ·exfalso
     have h4 := h3 (by omega)
     rw [q80.2 (g2 k hgt)] at h4
     cases h4
    ·omega
  subst this
  exact g3
theorem all_iff {p : D → D → Bool} {pz qz : List D} {Q : Int → Int → Bool → Prop} (h : ∀ x y, p x y = true ↔ Q (fi 0 x) (fi 1 x) (fs 4 y == [])) : allI p pz.length pz qz = true ↔ ∀ i, i < pz.length → Q (stAt pz i) (trAt pz i) (loc qz i) := by
 rw [allI_iff]
 exact ⟨fun g i hi => (h _ _).1 (g i hi), fun g i hi => (h _ _).2 (g i hi)⟩
inductive FitP (wy : Int) (fc : Bool) (hn n : Nat) (s t : Nat → Int) (l : Nat → Bool) (c : Int) : Int → Prop where
 | running (hf : fc = false) (hw : wy = 0) (hr : Run n s t l) : FitP wy fc hn n s t l c 1
 | held (hf : fc = false) (hw : wy = 0) (hh : 0 < hn) (ha : ∀ i, i < n → s i = 2 ∨ l i = false ∧ s i = 3) : FitP wy fc hn n s t l c 2
 | committedF (hf : fc = true) (hw : 0 ≤ wy ∧ wy ≤ 9) (ha : ∀ i, i < n → l i = false ∨ s i ≠ 2) : FitP wy fc hn n s t l c 3
 | committed (hf : fc = false) (hw : wy = 0) (ha : ∀ i, i < n → s i = 4 ∨ l i = false ∧ s i = 2) : FitP wy fc hn n s t l c 3
 | undoing (hf : fc = false) (hw : 1 ≤ wy ∧ wy ≤ 9) (ha : ∀ i, i < n → s i ≠ 4) : FitP wy fc hn n s t l c 4
 | stuck (hf : fc = false) (hw : 1 ≤ wy ∧ wy ≤ 9) (ha : ∀ i, i < n → s i ≠ 4) (hc : 0 ≤ c) (hl : l c.toNat = true) (h5 : t c.toNat = 5) : FitP wy fc hn n s t l c 5
 | compensatedF (hf : fc = true) (hw : 0 ≤ wy ∧ wy ≤ 9) (ha : ∀ i, i < n → l i = false ∨ s i ≠ 2 ∧ s i ≠ 4) : FitP wy fc hn n s t l c 6
 | compensated (hf : fc = false) (hw : 1 ≤ wy ∧ wy ≤ 9) (ha : ∀ i, i < n → s i ≠ 1 ∧ s i ≠ 2 ∧ s i ≠ 4) : FitP wy fc hn n s t l c 6
theorem undo_iff {st wy : Int} {fc : Bool} {pz qz : List D} (hs : st = 4 ∨ st = 5) : undoOk st wy fc pz qz = true ↔ fc = false ∧ (1 ≤ wy ∧ wy ≤ 9) ∧ (∀ i, i < pz.length → stAt pz i ≠ 4) ∧ (st = 5 → 0 ≤ cur st pz ∧ loc qz (cur st pz).toNat = true ∧ trAt pz (cur st pz).toNat = 5) := by
 have ha : allI (p97 w4) pz.length pz qz = true ↔ ∀ i, i < pz.length → stAt pz i ≠ 4 := all_iff (Q := fun s _ _ => s ≠ 4) fun x y => q974
 rw [← ha]
 unfold undoOk
 cases fc
 ·by_cases h1 : 1 ≤ wy
  ·by_cases h9 : wy ≤ 9
   ·cases h4 : allI (p97 w4) pz.length pz qz
    ·simp [h1, h9]
    ·rcases hs with rfl | rfl
     ·simp [h1, h9]
     ·by_cases hc : 0 ≤ cur 5 pz
      ·simp [h1, h9, hc, loc, trAt]
      ·simp [h1, h9, hc]
   ·simp [h1, h9]
  ·simp [h1]
 ·simp
theorem fits_iff {st wy : Int} {fc : Bool} {hops pz qz : List D} : fitsOk st wy fc hops pz qz = true ↔ FitP wy fc hops.length pz.length (stAt pz) (trAt pz) (loc qz) (cur st pz) st := by
 have e80 : allI p80 pz.length pz qz = true ↔ ∀ i, i < pz.length → stAt pz i = 2 ∨ loc qz i = false ∧ stAt pz i = 3 := all_iff (Q := fun s _ l => s = 2 ∨ l = false ∧ s = 3) fun x y => q80
 have e81 : allI p81 pz.length pz qz = true ↔ ∀ i, i < pz.length → loc qz i = false ∨ stAt pz i ≠ 2 := all_iff (Q := fun s _ l => l = false ∨ s ≠ 2) fun x y => q81
 have e83 : allI p83 pz.length pz qz = true ↔ ∀ i, i < pz.length → stAt pz i = 4 ∨ loc qz i = false ∧ stAt pz i = 2 := all_iff (Q := fun s _ l => s = 4 ∨ l = false ∧ s = 2) fun x y => q83
 have e84 : allI p84 pz.length pz qz = true ↔ ∀ i, i < pz.length → loc qz i = false ∨ stAt pz i ≠ 2 ∧ stAt pz i ≠ 4 := all_iff (Q := fun s _ l => l = false ∨ s ≠ 2 ∧ s ≠ 4) fun x y => q84
 have e124 : allI (p97 w124) pz.length pz qz = true ↔ ∀ i, i < pz.length → stAt pz i ≠ 1 ∧ stAt pz i ≠ 2 ∧ stAt pz i ≠ 4 := all_iff (Q := fun s _ _ => s ≠ 1 ∧ s ≠ 2 ∧ s ≠ 4) fun x y => q97124
 constructor
 ·intro h
  rcases fits_st h with rfl | rfl | rfl | rfl | rfl | rfl
  ·have h : (bif !fc then bif wy == 0 then runOk pz qz else false else false) = true := h
   cases fc <;> by_cases hw : wy = 0 <;> simp [hw] at h
   exact .running rfl hw (run_iff.1 h)
  ·have h : (bif !fc then bif wy == 0 then bif decide (0 < (hops.length : Int)) then allI p80 pz.length pz qz else false else false else false) = true := h
   cases fc
   ·by_cases hw : wy = 0
    ·by_cases hh : 0 < (hops.length : Int)
     ·rw [decide_eq_true hh, hw] at h
      exact .held rfl hw (by omega) (e80.1 h)
     ·rw [decide_eq_false hh, hw] at h
      cases h
    ·rw [beqF hw] at h
     cases h
   ·cases h
  ·have h : (bif fc then bif wy == 0 then allI p81 pz.length pz qz else bif decide (1 ≤ wy) then bif decide (wy ≤ 9) then allI p81 pz.length pz qz else false else false
     else bif wy == 0 then allI p83 pz.length pz qz else false) = true := h
   cases fc
   ·by_cases hw : wy = 0
    ·subst hw; exact .committed rfl rfl (e83.1 h)
    ·simp [hw] at h
   ·by_cases hw : wy = 0
    ·subst hw; exact .committedF rfl (by omega) (e81.1 h)
    ·by_cases h1 : 1 ≤ wy <;> by_cases h9 : wy ≤ 9 <;> simp [hw, h1, h9] at h
     exact .committedF rfl (by omega) (e81.1 h)
  ·have h : undoOk 4 wy fc pz qz = true := h
   obtain ⟨a, b, c, -⟩ := (undo_iff (.inl rfl)).1 h
   exact .undoing a b c
  ·have h : undoOk 5 wy fc pz qz = true := h
   obtain ⟨a, b, c, d⟩ := (undo_iff (.inr rfl)).1 h
   obtain ⟨d, e, f⟩ := d rfl
   exact .stuck a b c d e f
  ·have h : (bif fc then bif wy == 0 then allI p84 pz.length pz qz else bif decide (1 ≤ wy) then bif decide (wy ≤ 9) then allI p84 pz.length pz qz else false else false
     else bif decide (1 ≤ wy) then bif decide (wy ≤ 9) then !!allI (p97 w124) pz.length pz qz else false else false) = true := h
   cases fc
   ·by_cases h1 : 1 ≤ wy <;> by_cases h9 : wy ≤ 9 <;> simp [h1, h9] at h
    exact .compensated rfl ⟨h1, h9⟩ (e124.1 h)
   ·by_cases hw : wy = 0
    ·subst hw; exact .compensatedF rfl (by omega) (e84.1 h)
    ·by_cases h1 : 1 ≤ wy <;> by_cases h9 : wy ≤ 9 <;> simp [hw, h1, h9] at h
     exact .compensatedF rfl (by omega) (e84.1 h)
 ·intro h
  have key : ∀ s : Int, FitP wy fc hops.length pz.length (stAt pz) (trAt pz) (loc qz) (cur st pz) s → s = st → fitsOk s wy fc hops pz qz = true := by
   intro s h hs
   cases h with
   | running hf hw hr => subst hf hw; exact run_iff.2 hr
   | held hf hw hh ha =>
    subst hf hw
    have : decide (0 < (hops.length : Int)) = true := decide_eq_true (by omega)
    show (bif decide (0 < (hops.length : Int)) then allI p80 pz.length pz qz else false) = true
    rw [this]
    exact e80.2 ha
   | committedF hf hw ha =>
    subst hf
    show (bif wy == 0 then allI p81 pz.length pz qz else bif decide (1 ≤ wy) then bif decide (wy ≤ 9) then allI p81 pz.length pz qz else false else false) = true
    rw [e81.2 ha]
    by_cases hw0 : wy = 0
    ·simp [hw0]
    ·simp [show 1 ≤ wy by omega, hw.2]
   | committed hf hw ha => subst hf hw; exact e83.2 ha
   | undoing hf hw ha => exact (undo_iff (.inl rfl)).2 ⟨hf, hw, ha, fun h => by cases h⟩
   | stuck hf hw ha hc hl h5 => subst hs; exact (undo_iff (.inr rfl)).2 ⟨hf, hw, ha, fun _ => ⟨hc, hl, h5⟩⟩
   | compensatedF hf hw ha =>
    subst hf
    show (bif wy == 0 then allI p84 pz.length pz qz else bif decide (1 ≤ wy) then bif decide (wy ≤ 9) then allI p84 pz.length pz qz else false else false) = true
    rw [e84.2 ha]
    by_cases hw0 : wy = 0
    ·simp [hw0]
    ·simp [show 1 ≤ wy by omega, hw.2]
   | compensated hf hw ha =>
    subst hf
    show (bif decide (1 ≤ wy) then bif decide (wy ≤ 9) then !!allI (p97 w124) pz.length pz qz else false else false) = true
    rw [e124.2 ha]
    simp [hw.1, hw.2]
  exact key st h rfl
theorem st_set {pz : List D} {c : Nat} {a b : Int} (hc : c < pz.length) (j : Nat) : stAt (pz.set c (part a b)) j = if c = j then a else stAt pz j := by
 unfold stAt
 rw [getD_set hc]
 split <;> rfl
theorem tr_set {pz : List D} {c : Nat} {a b : Int} (hc : c < pz.length) (j : Nat) : trAt (pz.set c (part a b)) j = if c = j then b else trAt pz j := by
 unfold trAt
 rw [getD_set hc]
 split <;> rfl
theorem foldI_at (f : Nat → List D → List D) (u : Nat → D → D) (hl : ∀ i l, (f i l).length = l.length) (hf : ∀ i l j, i < l.length → (f i l).getD j .nilp = if j = i then u i (l.getD i .nilp) else l.getD j .nilp) :
  ∀ k i l, i + k ≤ l.length → ∀ j, (foldI f k i l).getD j .nilp = if i ≤ j ∧ j < i + k then u j (l.getD j .nilp) else l.getD j .nilp
 | 0, i, l, _, j => by
  simp only [foldI]
  rw [if_neg (by omega)]
 | k + 1, i, l, h, j => by
  simp only [foldI]
  rw [foldI_at f u hl hf k (i + 1) (f i l) (by rw [hl]; omega) j, hf i l j (by omega)]
  by_cases h1 : j = i
  ·subst h1
   rw [if_neg (by omega), if_pos rfl, if_pos (by omega)]
  ·by_cases h2 : i + 1 ≤ j ∧ j < i + 1 + k
   ·rw [if_pos h2, if_neg h1, if_pos (by omega)]
   ·rw [if_neg h2, if_neg h1, if_neg (by omega)]
theorem calm_at {pz : List D} {j : Nat} (hj : j < pz.length) : (calmParts pz).getD j .nilp = part (stAt pz j) 0 := by
 unfold calmParts
 rw [foldI_at fCalm (fun _ x => part (fi 0 x) 0) fCalm_len (fun i l j hi => ?_) pz.length 0 pz (by omega) j, if_pos (by omega)]
 unfold fCalm
 rw [getD_set hi]
 by_cases h : i = j
 ·rw [if_pos h, if_pos h.symm]
 ·rw [if_neg h, if_neg (fun e => h e.symm)]
theorem calm_st {pz : List D} {j : Nat} (hj : j < pz.length) : stAt (calmParts pz) j = stAt pz j := by unfold stAt; rw [calm_at hj]; rfl
theorem calm_tr {pz : List D} {j : Nat} (hj : j < pz.length) : trAt (calmParts pz) j = 0 := by unfold trAt; rw [calm_at hj]; rfl
theorem own_at {v : Int} {pz qz : List D} {j : Nat} (hj : j < pz.length) : (ownParts v pz qz).getD j .nilp = if loc qz j = true ∧ stAt pz j = 2 then part v 0 else pz.getD j .nilp := by
 unfold ownParts
 rw [foldI_at (fOwn v qz) (fun i x => if (fs 4 (qz.getD i .nilp) == []) = true ∧ fi 0 x = 2 then part v 0 else x) (fOwn_len v qz) (fun i l j hi => ?_) pz.length 0 pz (by omega) j, if_pos (by omega)]
 unfold fOwn
 cases h1 : (fs 4 (qz.getD i .nilp) == [])
 ·by_cases h : j = i
  ·subst h; simp
  ·simp [h]
 ·cases h2 : (fi 0 (l.getD i .nilp) == 2)
  ·have h2 : ¬ fi 0 (l.getD i .nilp) = 2 := by simpa using h2
   by_cases h : j = i
   ·subst h
    rw [if_pos rfl, if_neg (fun e => h2 e.2)]
    rfl
   ·rw [if_neg h]; rfl
  ·have h2 : fi 0 (l.getD i .nilp) = 2 := by simpa using h2
   simp only [cond_true]
   rw [getD_set hi]
   by_cases h : j = i
   ·subst h
    rw [if_pos rfl, if_pos rfl, if_pos ⟨by first | trivial | rfl, h2⟩]
   ·rw [if_neg (fun e => h e.symm), if_neg h]
theorem own_st {v : Int} {pz qz : List D} {j : Nat} (hj : j < pz.length) : stAt (ownParts v pz qz) j = if loc qz j = true ∧ stAt pz j = 2 then v else stAt pz j := by
 unfold stAt
 rw [own_at hj]
 split <;> rfl
theorem own_tr {v : Int} {pz qz : List D} {j : Nat} (hj : j < pz.length) : trAt (ownParts v pz qz) j = if loc qz j = true ∧ stAt pz j = 2 then 0 else trAt pz j := by
 unfold trAt
 rw [own_at hj]
 split <;> rfl
theorem cur1_spec {pz : List D} (hc : 0 ≤ cur 1 pz) : (cur 1 pz).toNat < pz.length ∧ stAt pz (cur 1 pz).toNat ≠ 2 ∧ ∀ i, i < (cur 1 pz).toNat → stAt pz i = 2 := by
 have hcur : cur 1 pz = idxOf notDone pz := rfl
 rw [hcur] at hc ⊢
 obtain ⟨h1, h2, h3⟩ := idxOf_pos hc
 exact ⟨h1, by simpa only [notDone, bne_iff_ne, ne_eq] using h2, fun i hi => by have := h3 i hi; simpa only [notDone, bne_eq_false_iff_eq] using this⟩
theorem open_iff {x : D} : isOpen x = true ↔ fi 0 x = 1 ∨ fi 0 x = 2 := by simp only [isOpen, Bool.or_false, Bool.or_eq_true, beq_iff_eq]
theorem cur5 (pz : List D) : cur 5 pz = lastFrom (fun i => isOpen (pz.getD i .nilp)) pz.length := rfl
theorem cur4 (pz : List D) : cur 4 pz = cur 5 pz := rfl
theorem cur5_spec {pz : List D} (hc : 0 ≤ cur 5 pz) : (cur 5 pz).toNat < pz.length ∧ (stAt pz (cur 5 pz).toNat = 1 ∨ stAt pz (cur 5 pz).toNat = 2) ∧ ∀ i, (cur 5 pz).toNat < i → i < pz.length → stAt pz i ≠ 1 ∧ stAt pz i ≠ 2 := by
 rw [cur5] at hc ⊢
 obtain ⟨h1, h2, h3⟩ := lastFrom_pos _ _ hc
 refine ⟨h1, open_iff.1 h2, fun i h4 h5 => ?_⟩
 have := h3 i h4 h5
 have hn : ¬ (fi 0 (pz.getD i .nilp) = 1 ∨ fi 0 (pz.getD i .nilp) = 2) := fun e => by rw [open_iff.2 e] at this; cases this
 exact ⟨fun e => hn (.inl e), fun e => hn (.inr e)⟩
theorem cur5_neg {pz : List D} (hc : cur 5 pz < 0) : ∀ i, i < pz.length → stAt pz i ≠ 1 ∧ stAt pz i ≠ 2 := by
 rw [cur5] at hc
 intro i hi
 have := lastFrom_neg _ _ hc i hi
 have hn : ¬ (fi 0 (pz.getD i .nilp) = 1 ∨ fi 0 (pz.getD i .nilp) = 2) := fun e => by rw [open_iff.2 e] at this; cases this
 exact ⟨fun e => hn (.inl e), fun e => hn (.inr e)⟩
theorem lastFrom_uniq (p : Nat → Bool) (c : Nat) (hp : p c = true) : ∀ n, c < n → (∀ i, c < i → i < n → p i = false) → lastFrom p n = c
 | 0, h, _ => by omega
 | n + 1, h, hn => by
  simp only [lastFrom]
  by_cases he : c = n
  ·subst he
   rw [hp]
   rfl
  ·rw [hn n (by omega) (by omega)]
   exact lastFrom_uniq p c hp n (by omega) fun i h1 h2 => hn i h1 (by omega)
theorem cur5_uniq {pz : List D} {c : Nat} (hc : c < pz.length) (h : stAt pz c = 1 ∨ stAt pz c = 2) (hn : ∀ i, c < i → i < pz.length → stAt pz i ≠ 1 ∧ stAt pz i ≠ 2) : cur 5 pz = c := by
 rw [cur5]
 refine lastFrom_uniq _ c (open_iff.2 h) _ hc fun i h1 h2 => ?_
 cases he : isOpen (pz.getD i .nilp)
 ·rfl
 ·have := open_iff.1 he
  have h3 := hn i h1 h2
  exact (this.elim h3.1 h3.2).elim
def SaneP (n : Nat) (s t : Nat → Int) (l : Nat → Bool) : Prop := ∀ i, i < n → 0 ≤ s i ∧ s i ≤ 4 ∧ (l i = false ∨ s i ≠ 1) ∧ 0 ≤ t i ∧ t i ≤ 5
theorem Good.mk' {st wy s w : Int} {fc f : Bool} {hops qz pz p : List D} (hg : Good st wy fc hops qz pz) (hl : p.length = pz.length) (hs : SaneP p.length (stAt p) (trAt p) (loc qz)) (hf : FitP w f hops.length p.length (stAt p) (trAt p) (loc qz) (cur s p) s) : Good s w f hops qz p :=
 ⟨hl.trans hg.len, hg.pos, hg.few, hg.step, fun i hi => q47.2 (hs i hi), fits_iff.2 hf⟩
theorem Good.sane' {st wy : Int} {fc : Bool} {hops qz pz : List D} (hg : Good st wy fc hops qz pz) : SaneP pz.length (stAt pz) (trAt pz) (loc qz) := fun i hi => q47.1 (hg.sane i hi)
theorem Good.fit' {st wy : Int} {fc : Bool} {hops qz pz : List D} (hg : Good st wy fc hops qz pz) : FitP wy fc hops.length pz.length (stAt pz) (trAt pz) (loc qz) (cur st pz) st := fits_iff.1 hg.fits
theorem sane_set {pz : List D} {l : Nat → Bool} {c : Nat} {a b : Int} (hc : c < pz.length) (h : SaneP pz.length (stAt pz) (trAt pz) l) (ha : 0 ≤ a ∧ a ≤ 4 ∧ (l c = false ∨ a ≠ 1) ∧ 0 ≤ b ∧ b ≤ 5) :
  SaneP (pz.set c (part a b)).length (stAt (pz.set c (part a b))) (trAt (pz.set c (part a b))) l := by
 intro i hi
 rw [List.length_set] at hi
 rw [st_set hc, tr_set hc]
 by_cases he : c = i
 ·subst he; rw [if_pos rfl, if_pos rfl]; exact ha
 ·rw [if_neg he, if_neg he]; exact h i hi
theorem run_at {pz qz : List D} (h : Run pz.length (stAt pz) (trAt pz) (loc qz)) (hc : 0 ≤ cur 1 pz) (h3 : stAt pz (cur 1 pz).toNat ≠ 3) :
  (stAt pz (cur 1 pz).toNat = 0 ∨ loc qz (cur 1 pz).toNat = false ∧ stAt pz (cur 1 pz).toNat = 1) ∧ ∀ j, (cur 1 pz).toNat < j → j < pz.length → stAt pz j = 0 ∧ trAt pz j = 0 := by
 obtain ⟨h1, h2, hb⟩ := cur1_spec hc
 generalize (cur 1 pz).toNat = c at *
 obtain ⟨k, k1, k2, k3⟩ := h
 have hck : c = k := by
  by_cases hlt : c < k
  ·have := k2 c hlt; omega
  ·by_cases hgt : k < c
   ·have h4 := k3 k (by omega) (by omega); have h5 := hb k hgt; omega
   ·omega
 subst hck
 refine ⟨?_, fun j hj hn => ?_⟩
 ·rcases k3 c (by omega) h1 with ⟨-, h4⟩ | h4
  ·exact h4
  ·exact .inl h4.1
 ·rcases k3 j (by omega) hn with ⟨h4, -⟩ | h4
  ·omega
  ·exact h4
theorem run_next {pz qz : List D} {a b : Int} (h : Run pz.length (stAt pz) (trAt pz) (loc qz)) (hc : 0 ≤ cur 1 pz) (h3 : stAt pz (cur 1 pz).toNat ≠ 3)
  (ha : a = 2 ∨ a = 0 ∨ loc qz (cur 1 pz).toNat = false ∧ a = 1) : Run (pz.set (cur 1 pz).toNat (part a b)).length (stAt (pz.set (cur 1 pz).toNat (part a b))) (trAt (pz.set (cur 1 pz).toNat (part a b))) (loc qz) := by
 obtain ⟨h1, h2, hb⟩ := cur1_spec hc
 obtain ⟨-, h4⟩ := run_at h hc h3
 rw [List.length_set]
 generalize (cur 1 pz).toNat = c at *
 by_cases he : a = 2
 ·refine ⟨c + 1, by omega, fun j hj => ?_, fun j hj hn => ?_⟩
  ·rw [st_set h1]
   by_cases hcj : c = j
   ·rw [if_pos hcj]; exact .inl he
   ·rw [if_neg hcj]; exact .inl (hb j (by omega))
  ·rw [st_set h1, tr_set h1, if_neg (by omega), if_neg (by omega)]
   exact .inr (h4 j (by omega) hn)
 ·refine ⟨c, by omega, fun j hj => ?_, fun j hj hn => ?_⟩
  ·rw [st_set h1, if_neg (by omega)]; exact .inl (hb j hj)
  ·rw [st_set h1, tr_set h1]
   by_cases hcj : c = j
   ·subst hcj
    rw [if_pos rfl]
    exact .inl ⟨rfl, ha.resolve_left he⟩
   ·rw [if_neg hcj, if_neg hcj]; exact .inr (h4 j (by omega) hn)
theorem run_not3 {n : Nat} {s t : Nat → Int} {l : Nat → Bool} {c : Nat} (h : Run n s t l) (hc : c < n) (hl : l c = true) : s c ≠ 3 := by
 intro e
 obtain ⟨k, k1, k2, k3⟩ := h
 by_cases hk : c < k
 ·rcases k2 c hk with h | ⟨h, -⟩
  ·omega
  ·rw [hl] at h; cases h
 ·rcases k3 c (by omega) hc with ⟨-, h | ⟨-, h⟩⟩ | ⟨h, -⟩ <;> omega
theorem own_tries {y : D} (hb : badStep y = false) (hl : (fs 4 y == []) = true) : fi 5 y ≤ 5 := by
 have h4 : fs 4 y = [] := nil_of_beq hl
 unfold badStep isOwn isAsks own asks at hb
 rw [h4] at hb
 simp only [name_nil, Bool.false_and, Bool.not_false, Bool.and_true, Bool.not_eq_false', Bool.and_eq_true, decide_eq_true_eq] at hb
 exact hb.2.2.2.2.2.2.2.2.2.2
theorem keeps {st wy : Int} {fc : Bool} {hops qz pz : List D} {kd sp mw s w : Int} {f : Bool} {p : List D} (hg : Good st wy fc hops qz pz) (hs0 : 0 ≤ sp) (hmw : kd = 10 → 1 ≤ mw ∧ mw ≤ 9) (h : Mv st wy fc hops pz qz sp mw kd s w f p) : Good s w f hops qz p := by
 have hs := hg.sane'
 have hf := hg.fit'
 cases h with
 | fail hl hc ha ho =>
  have ht := hs _ hl
  have hw : IntKind.i64.wrap (trAt pz sp.toNat + 1) = trAt pz sp.toNat + 1 := wrap_i64 (by omega) (by omega)
  have h5 : trAt pz sp.toNat + 1 ≤ 5 := by
   rcases ho with ⟨-, h1⟩ | ⟨-, h1⟩
   ·have hb := hg.step sp.toNat (by have := hg.len; omega)
    have : fi 5 (qz.getD sp.toNat .nilp) ≤ 5 := own_tries hb ha
    omega
   ·omega
  rw [hw]
  refine hg.mk' (by simp) (sane_set hl hs ⟨ht.1, ht.2.1, ht.2.2.1, by omega, h5⟩) ?_
  rcases ho with ⟨rfl, -⟩ | ⟨rfl, -⟩
  ·cases hf with
   | running hf hw hr =>
    subst hc
    have h3 := run_not3 hr hl ha
    have h4 := (run_at hr hs0 h3).1
    exact FitP.running hf (by assumption) (run_next hr hs0 h3 (h4.elim (fun h => .inr (.inl h)) (fun h => .inr (.inr h))))
  ·cases hf with
   | undoing hf hw ha4 =>
    refine .undoing hf hw fun i hi => ?_
    rw [List.length_set] at hi
    rw [st_set hl]
    by_cases he : sp.toNat = i
    ·rw [if_pos he]; exact ha4 _ hl
    ·rw [if_neg he]; exact ha4 i hi
 | does hl hc ha ho =>
  subst ho hc
  cases hf with
  | running hf hw hr =>
   have h3 := run_not3 hr hl ha
   exact hg.mk' (by simp) (sane_set hl hs ⟨by decide, by decide, .inr (by decide), by decide, by decide⟩) (.running hf hw (run_next hr hs0 h3 (.inl rfl)))
 | ask hl hc ha ho h0 =>
  subst ho hc
  have ht := hs _ hl
  cases hf with
  | running hf hw hr =>
   exact hg.mk' (by simp) (sane_set hl hs ⟨by decide, by decide, .inl ha, ht.2.2.2.1, ht.2.2.2.2⟩) (.running hf hw (run_next hr hs0 (by omega) (.inr (.inr ⟨ha, rfl⟩))))
 | got hl hc ha ho h0 =>
  subst ho hc
  have ht := hs _ hl
  cases hf with
  | running hf hw hr =>
   exact hg.mk' (by simp) (sane_set hl hs ⟨by decide, by decide, .inl ha, ht.2.2.2.1, ht.2.2.2.2⟩) (.running hf hw (run_next hr hs0 (by omega) (.inl rfl)))
 | lost hl ha ho h0 =>
  have ht := hs _ hl
  refine hg.mk' (by simp) (sane_set hl hs ⟨by decide, by decide, .inl ha, ht.2.2.2.1, ht.2.2.2.2⟩) ?_
  rw [List.length_set]
  cases hf with
  | running hf hw hr =>
   refine .running hf hw ?_
   obtain ⟨k, k1, k2, k3⟩ := hr
   by_cases hk : sp.toNat < k
   ·refine ⟨k, k1, fun j hj => ?_, fun j hj hn => ?_⟩
    ·rw [st_set hl]
     by_cases he : sp.toNat = j
     ·rw [if_pos he]; subst he; exact .inr ⟨ha, rfl⟩
     ·rw [if_neg he]; exact k2 j hj
    ·rw [st_set hl, tr_set hl, if_neg (by omega), if_neg (by omega)]; exact k3 j hj hn
   ·have hk' : sp.toNat = k := by
     have := k3 sp.toNat (by omega) hl
     omega
    refine ⟨k + 1, by omega, fun j hj => ?_, fun j hj hn => ?_⟩
    ·rw [st_set hl]
     by_cases he : sp.toNat = j
     ·rw [if_pos he]; subst he; exact .inr ⟨ha, rfl⟩
     ·rw [if_neg he]; exact k2 j (by omega)
    ·rw [st_set hl, tr_set hl, if_neg (by omega), if_neg (by omega)]
     have := k3 j (by omega) hn
     exact .inr (by omega)
  | held hf hw hh hall =>
   refine .held hf hw hh fun i hi => ?_
   rw [st_set hl]
   by_cases he : sp.toNat = i
   ·rw [if_pos he]; subst he; exact .inr ⟨ha, rfl⟩
   ·rw [if_neg he]; exact hall i hi
  | committedF hf hw hall =>
   refine .committedF hf hw fun i hi => ?_
   rw [st_set hl]
   by_cases he : sp.toNat = i
   ·rw [if_pos he]; exact .inr (by decide)
   ·rw [if_neg he]; exact hall i hi
  | committed hf hw hall =>
   rcases ho with ho | ho
   ·rw [hf] at ho; cases ho
   ·exact (ho.1 rfl).elim
  | undoing hf hw hall =>
   refine .undoing hf hw fun i hi => ?_
   rw [st_set hl]
   by_cases he : sp.toNat = i
   ·rw [if_pos he]; decide
   ·rw [if_neg he]; exact hall i hi
  | stuck hf hw hall hc hlc h5 =>
   obtain ⟨c1, c2, c3⟩ := cur5_spec hc
   have hne : sp.toNat ≠ (cur 5 pz).toNat := by
    intro e
    rw [← e, ha] at hlc
    cases hlc
   have hcur : cur 5 (pz.set sp.toNat (part 3 (trAt pz sp.toNat))) = ((cur 5 pz).toNat : Nat) := by
    refine cur5_uniq (by rw [List.length_set]; exact c1) ?_ fun i h1 h2 => ?_
    ·rw [st_set hl, if_neg hne]; exact c2
    ·rw [List.length_set] at h2
     rw [st_set hl]
     by_cases he : sp.toNat = i
     ·rw [if_pos he]; decide
     ·rw [if_neg he]; exact c3 i h1 h2
   have hcur : cur 5 (pz.set sp.toNat (part 3 (trAt pz sp.toNat))) = cur 5 pz := by omega
   rw [hcur]
   refine .stuck hf hw (fun i hi => ?_) hc hlc ?_
   ·rw [st_set hl]
    by_cases he : sp.toNat = i
    ·rw [if_pos he]; decide
    ·rw [if_neg he]; exact hall i hi
   ·rw [tr_set hl, if_neg hne]; exact h5
  | compensatedF hf hw hall =>
   refine .compensatedF hf hw fun i hi => ?_
   rw [st_set hl]
   by_cases he : sp.toNat = i
   ·rw [if_pos he]; exact .inr (by decide)
   ·rw [if_neg he]; exact hall i hi
  | compensated hf hw hall =>
   have := hall _ hl
   omega
 | hold ho hh hd =>
  subst ho
  have hd : ∀ i, i < pz.length → stAt pz i = 2 := (all_iff (Q := fun s _ _ => s = 2) fun x y => q135).1 hd
  cases hf with
  | running hf hw hr => exact hg.mk' rfl hs (.held hf rfl hh fun i hi => .inl (hd i hi))
 | commit ho hd =>
  have hd : ∀ i, i < pz.length → stAt pz i = 2 := (all_iff (Q := fun s _ _ => s = 2) fun x y => q135).1 hd
  have hfc : fc = false := by
   rcases ho with ⟨rfl, -⟩ | rfl
   ·cases hf with
    | running hf => exact hf
   ·cases hf with
    | held hf => exact hf
  have hl := own_len 4 pz qz
  refine hg.mk' hl (fun i hi => ?_) (.committed hfc rfl fun i hi => ?_)
  ·rw [hl] at hi
   have := hs i hi
   rw [own_st hi, own_tr hi]
   by_cases hx : loc qz i = true ∧ stAt pz i = 2
   ·rw [if_pos hx, if_pos hx]; exact ⟨by decide, by decide, .inr (by decide), by decide, by decide⟩
   ·rw [if_neg hx, if_neg hx]; exact this
  ·rw [hl] at hi
   rw [own_st hi]
   by_cases hx : loc qz i = true ∧ stAt pz i = 2
   ·rw [if_pos hx]; exact .inl rfl
   ·rw [if_neg hx]
    refine .inr ⟨?_, hd i hi⟩
    cases hlo : loc qz i
    ·rfl
    ·exact (hx ⟨hlo, hd i hi⟩).elim
 | back ho =>
  have hfc : fc = false ∧ ∀ i, i < pz.length → stAt pz i ≠ 4 := by
   rcases ho with rfl | ⟨rfl, -⟩
   ·cases hf with
    | running hf hw hr =>
     refine ⟨hf, fun i hi => ?_⟩
     obtain ⟨k, k1, k2, k3⟩ := hr
     by_cases hk : i < k
     ·have := k2 i hk; omega
     ·have := k3 i (by omega) hi; omega
   ·cases hf with
    | held hf hw hh ha => exact ⟨hf, fun i hi => by have := ha i hi; omega⟩
  have hl := calm_len pz
  refine hg.mk' hl (fun i hi => ?_) (.undoing hfc.1 (hmw rfl) fun i hi => ?_)
  ·rw [hl] at hi
   rw [calm_st hi, calm_tr hi]
   have := hs i hi
   exact ⟨this.1, this.2.1, this.2.2.1, by decide, by decide⟩
  ·rw [hl] at hi
   rw [calm_st hi]
   exact hfc.2 i hi
 | undo hl hc ha ho =>
  subst ho
  cases hf with
  | undoing hf hw hall =>
   refine hg.mk' (by simp) (sane_set hl hs ⟨by decide, by decide, .inr (by decide), by decide, by decide⟩) (.undoing hf hw fun i hi => ?_)
   rw [List.length_set] at hi
   rw [st_set hl]
   by_cases he : sp.toNat = i
   ·rw [if_pos he]; decide
   ·rw [if_neg he]; exact hall i hi
 | jam hl hc ha ho h5 =>
  subst ho
  rw [cur4] at hc
  subst hc
  cases hf with
  | undoing hf hw hall => exact hg.mk' rfl hs (.stuck hf hw hall hs0 ha h5)
 | again ho =>
  subst ho
  cases hf with
  | stuck hf hw hall hc hlc h5 =>
   obtain ⟨c1, c2, c3⟩ := cur5_spec hc
   have ht := hs _ c1
   refine hg.mk' (by simp) (sane_set c1 hs ⟨ht.1, ht.2.1, ht.2.2.1, by decide, by decide⟩) (.undoing hf hw fun i hi => ?_)
   rw [List.length_set] at hi
   rw [st_set c1]
   by_cases he : (cur 5 pz).toNat = i
   ·rw [if_pos he]; exact hall _ c1
   ·rw [if_neg he]; exact hall i hi
 | ends ho hc =>
  subst ho
  rw [cur4] at hc
  have := cur5_neg hc
  cases hf with
  | undoing hf hw hall => exact hg.mk' rfl hs (.compensated hf hw fun i hi => ⟨(this i hi).1, (this i hi).2, hall i hi⟩)
 | kept hl ha ho h0 =>
  subst ho
  have ht := hs _ hl
  refine hg.mk' (by simp) (sane_set hl hs ⟨by decide, by decide, .inl ha, ht.2.2.2.1, ht.2.2.2.2⟩) ?_
  rw [List.length_set]
  cases hf with
  | committedF hf hw hall =>
   refine .committedF hf hw fun i hi => ?_
   rw [st_set hl]
   by_cases he : sp.toNat = i
   ·rw [if_pos he]; exact .inr (by decide)
   ·rw [if_neg he]; exact hall i hi
  | committed hf hw hall =>
   refine .committed hf hw fun i hi => ?_
   rw [st_set hl]
   by_cases he : sp.toNat = i
   ·rw [if_pos he]; exact .inl rfl
   ·rw [if_neg he]; exact hall i hi
 | forceC ho ho6 h1 =>
  have hl : (ownParts 4 (calmParts pz) qz).length = pz.length := (own_len _ _ _).trans (calm_len _)
  have hw : 0 ≤ wy ∧ wy ≤ 9 := by cases hf <;> omega
  refine hg.mk' hl (fun i hi => ?_) (.committedF rfl hw fun i hi => ?_)
  ·rw [hl] at hi
   have := hs i hi
   have hi' : i < (calmParts pz).length := by rw [calm_len]; exact hi
   rw [own_st hi', own_tr hi', calm_st hi, calm_tr hi]
   by_cases hx : loc qz i = true ∧ stAt pz i = 2
   ·rw [if_pos hx, if_pos hx]; exact ⟨by decide, by decide, .inr (by decide), by decide, by decide⟩
   ·rw [if_neg hx, if_neg hx]; exact ⟨this.1, this.2.1, this.2.2.1, by decide, by decide⟩
  ·rw [hl] at hi
   have hi' : i < (calmParts pz).length := by rw [calm_len]; exact hi
   rw [own_st hi', calm_st hi]
   by_cases hx : loc qz i = true ∧ stAt pz i = 2
   ·rw [if_pos hx]; exact .inr (by decide)
   ·rw [if_neg hx]
    cases hlo : loc qz i
    ·exact .inl rfl
    ·exact .inr fun e => hx ⟨hlo, e⟩
 | forceU ho ho6 h1 =>
  have hl : (ownParts 3 (calmParts pz) qz).length = pz.length := (own_len _ _ _).trans (calm_len _)
  have hw : 0 ≤ wy ∧ wy ≤ 9 := by cases hf <;> omega
  have h4 : ∀ i, i < pz.length → stAt pz i ≠ 4 := by
   intro i hi
   cases hf with
   | running hf hw hr =>
    obtain ⟨k, k1, k2, k3⟩ := hr
    by_cases hk : i < k
    ·have := k2 i hk; omega
    ·have := k3 i (by omega) hi; omega
   | held hf hw hh ha => have := ha i hi; omega
   | committedF => exact (ho rfl).elim
   | committed => exact (ho rfl).elim
   | undoing hf hw ha => exact ha i hi
   | stuck hf hw ha => exact ha i hi
   | compensatedF => exact (ho6 rfl).elim
   | compensated => exact (ho6 rfl).elim
  refine hg.mk' hl (fun i hi => ?_) (.compensatedF rfl hw fun i hi => ?_)
  ·rw [hl] at hi
   have := hs i hi
   have hi' : i < (calmParts pz).length := by rw [calm_len]; exact hi
   rw [own_st hi', own_tr hi', calm_st hi, calm_tr hi]
   by_cases hx : loc qz i = true ∧ stAt pz i = 2
   ·rw [if_pos hx, if_pos hx]; exact ⟨by decide, by decide, .inr (by decide), by decide, by decide⟩
   ·rw [if_neg hx, if_neg hx]; exact ⟨this.1, this.2.1, this.2.2.1, by decide, by decide⟩
  ·rw [hl] at hi
   have hi' : i < (calmParts pz).length := by rw [calm_len]; exact hi
   rw [own_st hi', calm_st hi]
   by_cases hx : loc qz i = true ∧ stAt pz i = 2
   ·rw [if_pos hx]; exact .inr ⟨by decide, by decide⟩
   ·rw [if_neg hx]
    cases hlo : loc qz i
    ·exact .inl rfl
    ·exact .inr ⟨fun e => hx ⟨hlo, e⟩, h4 i hi⟩
theorem e19 (m n : Nat) (rt nn st wy : Int) (n1 n2 n3 fc : Bool) (hops qz pz : List D) (nm : List UInt8) : Tree.out (enterM E18 (callN E18 (m+40)) n c13 [.d (sagaD rt nn st wy n1 n2 n3 fc hops qz pz nm)] []) = bif decide ((↑(List.length hops) : Int) ≤ (50 : Int)) then bif decide ((↑(List.length qz) : Int) ≤ (50 : Int)) then some [D.bool (decide ((↑(List.length pz) : Int) ≤ (200 : Int)))] else some [D.bool false] else some [D.bool false] := by kernel_rfl
theorem e25 (m n : Nat) (kd mr mn sp mw : Int) (k1 k2 : Bool) (mh ms : List D) (mm : List UInt8) : Tree.out (enterM E18 (callN E18 (m+40)) n c41 [.d (moveD kd mr mn sp mw k1 k2 mh ms mm)] []) = bif decide ((↑(List.length mh) : Int) ≤ (50 : Int)) then some [D.bool (decide ((↑(List.length ms) : Int) ≤ (50 : Int)))] else some [D.bool false] := by kernel_rfl
def few (hops qz pz : List D) : Bool := decide ((hops.length : Int) ≤ 50) && (decide ((qz.length : Int) ≤ 50) && decide ((pz.length : Int) ≤ 200))
def fewM (mh ms : List D) : Bool := decide ((mh.length : Int) ≤ 50) && decide ((ms.length : Int) ≤ 50)
theorem run19 (m n : Nat) (rt nn st wy : Int) (n1 n2 n3 fc : Bool) (hops qz pz : List D) (nm : List UInt8) : (enterM E18 (callN E18 (m+40)) n c13 [.d (sagaD rt nn st wy n1 n2 n3 fc hops qz pz nm)] []).out = some [.bool (few hops qz pz)] := by
 rw [e19]
 simp only [condB, few]
 cases decide ((hops.length : Int) ≤ 50) <;> cases decide ((qz.length : Int) ≤ 50) <;> rfl
theorem run25 (m n : Nat) (kd mr mn sp mw : Int) (k1 k2 : Bool) (mh ms : List D) (mm : List UInt8) : (enterM E18 (callN E18 (m+40)) n c41 [.d (moveD kd mr mn sp mw k1 k2 mh ms mm)] []).out = some [.bool (fewM mh ms)] := by
 rw [e25]
 simp only [condB, fewM]
 cases decide ((mh.length : Int) ≤ 50) <;> rfl
def g19 : List D → Tree (List D)
 | [.agg [.int .i64 _rt, .int .i64 _nn, .sl eh _n1 hops, .str _nm, .sl es _n2 qz, .int .i64 _st, .int .i64 _wy, .sl ep _n3 pz, .bool _fc]] => match (Sh.beq eh hopSh && (Sh.beq es stepSh && Sh.beq ep partSh)) with
  | true => .ret [.bool (few hops qz pz)]
  | false => .stuck
 | _ => .stuck
theorem pure19 {P : Program} (hm : P.follows .mixedOrders = true) (h0 : EnvOK P E18) : PureOK P 13 g19 := PureOK.run hm h0 fun ds rs h => by
 unfold g19 at h
 split at h
 ·rename_i rt nn eh n1 hops nm es n2 qz st wy ep n3 pz fc
  split at h
  ·rename_i hb
   simp only [Bool.and_eq_true] at hb
   obtain ⟨hb3, hb4, hb5⟩ := hb
   have hb3 := Sh.beq_eq hb3
   have hb4 := Sh.beq_eq hb4
   have hb5 := Sh.beq_eq hb5
   subst hb3 hb4 hb5
   cases h
   exact ⟨59 + 1, by rw [callN_succ (fn := c13) rfl]; exact run19 19 59 rt nn st wy n1 n2 n3 fc hops qz pz nm⟩
  ·cases h
 ·cases h
def g25 : List D → Tree (List D)
 | [.agg [.int .i64 _kd, .int .i64 _mr, .int .i64 _mn, .sl eh' _k1 mh, .int .i64 _sp, .int .i64 _mw, .str _mm, .sl es' _k2 ms]] => match (Sh.beq eh' hopSh && Sh.beq es' stepSh) with
  | true => .ret [.bool (fewM mh ms)]
  | false => .stuck
 | _ => .stuck
theorem pure25 {P : Program} (hm : P.follows .mixedOrders = true) (h0 : EnvOK P E18) : PureOK P 41 g25 := PureOK.run hm h0 fun ds rs h => by
 unfold g25 at h
 split at h
 ·rename_i kd mr mn eh' k1 mh sp mw mm es' k2 ms
  split at h
  ·rename_i hb
   simp only [Bool.and_eq_true] at hb
   obtain ⟨hb3, hb4⟩ := hb
   have hb3 := Sh.beq_eq hb3
   have hb4 := Sh.beq_eq hb4
   subst hb3 hb4
   cases h
   exact ⟨59 + 1, by rw [callN_succ (fn := c41) rfl]; exact run25 19 59 kd mr mn sp mw k1 k2 mh ms mm⟩
  ·cases h
 ·cases h
def E19 : Env := (E18.pureAt 13 true g19).pureAt 41 true g25
theorem ok19 {P : Program} (hm : P.follows .mixedOrders = true) (h0 : EnvOK P E18) : EnvOK P E19 := (h0.pureAt (pure19 hm h0)).pureAt (pure25 hm h0)
def g20 : List D → Tree (List D)
 | [] => .ret [.bool true]
 | _ => .stuck
def E20 : Env := E19.pureAt 32 true g20
theorem gd_ok {rt nn st wy : Int} {n1 n2 n3 fc : Bool} {hops qz pz : List D} {nm : List UInt8} {kd : Int} {mh : List D} (h1 : n1 = true → hops = []) (h2 : n2 = true → qz = []) (h3 : n3 = true → pz = [])
  (l1 : hops.length ≤ 1000000) (l2 : qz.length ≤ 1000000) (l3 : pz.length ≤ 1000000) (l4 : mh.length ≤ 1000000) : gd24 rt nn st wy n1 n2 n3 fc hops qz pz nm kd mh = true := by
 have hn1 : (!n1 || hops.isEmpty) = true := by
  cases n1 with
  | false => rfl
  | true => rw [h1 rfl]; rfl
 unfold gd24
 rw [decide_eq_true l1, decide_eq_true l2, decide_eq_true l3, decide_eq_true l4, hn1]
 cases hm : mayOk rt nn st wy fc hops qz pz nm
 ·rfl
 ·by_cases h7 : st = 7
  ·subst h7; rfl
  ·have hg := mayOk_good hm h7
   have hp2 := hg.pos
   have hp3 := hg.len
   have n2f : n2 = false := by
    cases n2 with
    | false => rfl
    | true => rw [h2 rfl] at hp2; simp at hp2
   have n3f : n3 = false := by
    cases n3 with
    | false => rfl
    | true => rw [h3 rfl] at hp3; simp only [List.length_nil] at hp3; omega
   rw [n2f, n3f]
   simp
end Go.Proofs.YtkjiaijkdefkgaaGreatDoor.A
namespace Go.AM
open Go
inductive WF : Sh → D → Prop where
 | bool (b : Bool) : WF .bool (.bool b)
 | int (k : IntKind) (n : Int) (h : k.min ≤ n ∧ n ≤ k.max) : WF (.int k) (.int k n)
 | str (s : List UInt8) (h : s.length ≤ maxLen) : WF .str (.str s)
 | slnil (e : Sh) : WF (.sl e) (.sl e true [])
 | sl (e : Sh) (es : List D) (hl : es.length ≤ maxLen) (h : ∀ x ∈ es, WF e x) : WF (.sl e) (.sl e false es)
 | agg (fs : List Sh) (cs : List D) (ha : ∀ f ∈ fs, f.isAgg = false) (hl : fs.length = cs.length) (h : ∀ (i : Nat) f c, fs[i]? = some f → cs[i]? = some c → WF f c) : WF (.agg fs) (.agg cs)
def WFL (fs : List Sh) (cs : List D) : Prop := (∀ f ∈ fs, f.isAgg = false) ∧ fs.length = cs.length ∧ ∀ (i : Nat) f c, fs[i]? = some f → cs[i]? = some c → WF f c
inductive Ty where
 | bool | int (k : IntKind) | str | sl (e : Ty) | st (fs : List Ty)
mutual
def Ty.shl : Ty → List Sh
 | .bool => [.bool]
 | .int k => [.int k]
 | .str => [.str]
 | .sl e => [.sl (Ty.sh e)]
 | .st fs => Ty.shls fs
def Ty.shls : List Ty → List Sh
 | [] => []
 | f :: fs => Ty.shl f ++ Ty.shls fs
def Ty.sh : Ty → Sh
 | .bool => .bool
 | .int k => .int k
 | .str => .str
 | .sl e => .sl (Ty.sh e)
 | .st fs => .agg (Ty.shls fs)
end
theorem Ty.sh_leafs (t : Ty) : t.sh.leafs = t.shl := by
 cases t <;> simp [Ty.sh, Ty.shl, Sh.leafs]
mutual
def tyOk (P : Program) : Ty → TypeId → Bool
 | .bool, t => match P.underlying t with
  | some .bool => true
  | _ => false
 | .int k, t => match P.underlying t with
  | some (.int j) => decide (j = k)
  | _ => false
 | .str, t => match P.underlying t with
  | some .string => true
  | _ => false
 | .sl e, t => match P.underlying t with
  | some (.slice u) => tyOk P e u && Nat.beq (P.cellsOf u) (Ty.shl e).length && !((Ty.shl e).isEmpty)
  | _ => false
 | .st ts, t => match P.underlying t with
  | some (.struct fs) => tyOks P ts fs.toList 0 (P.cellsOf t)
  | _ => false
def tyOks (P : Program) : List Ty → List Field → Nat → Nat → Bool
 | [], [], off, tot => Nat.beq off tot
 | t :: ts, f :: fs, off, tot => Nat.beq f.offset off && Nat.beq (P.cellsOf f.type) (Ty.shl t).length && tyOk P t f.type && tyOks P ts fs (off + (Ty.shl t).length) tot
 | _, _, _, _ => false
end
section
variable {P : Program} {w : World} {H : Type} {enc : TypeId × Value → H} {base : Nat} {spare : Nat → Bool} {held : Bool}
theorem WFL.nil : WFL [] [] := ⟨by simp, rfl, fun i f c h => by simp at h⟩
theorem WFL.append {fs gs : List Sh} {cs ds : List D} (h : WFL fs cs) (h' : WFL gs ds) : WFL (fs ++ gs) (cs ++ ds) := by
 refine ⟨fun f hf => (List.mem_append.1 hf).elim (h.1 f) (h'.1 f), by simp [h.2.1, h'.2.1], fun i f c hf hc => ?_⟩
 have hl := h.2.1
 by_cases hi : i < fs.length
 ·rw [List.getElem?_append_left hi] at hf
  rw [List.getElem?_append_left (by rw [← hl]; exact hi)] at hc
  exact h.2.2 i f c hf hc
 ·rw [List.getElem?_append_right (by omega)] at hf
  rw [List.getElem?_append_right (by rw [← hl]; omega), ← hl] at hc
  exact h'.2.2 _ f c hf hc
theorem WFL.cons {f : Sh} {c : D} {fs : List Sh} {cs : List D} (ha : f.isAgg = false) (hc : WF f c) (h : WFL fs cs) : WFL (f :: fs) (c :: cs) :=
 WFL.append (fs := [f]) (cs := [c]) ⟨by simpa using ha, rfl, fun i g d hg hd => by
  cases i with
  | zero => simp at hg hd; subst hg hd; exact hc
  | succ i => simp at hg⟩ h
theorem RDs.append {Y : Nat → Prop} {cs ds : List D} {us vs : List Value} (h : RDs w Y cs us) (h' : RDs w Y ds vs) : RDs w Y (cs ++ ds) (us ++ vs) := by
 have := (RVL.map_d (β := fun _ => .nil) (ob := []) h.1 h.2).append (RVL.map_d (β := fun _ => .nil) (ob := []) h'.1 h'.2)
 rw [← List.map_append] at this
 exact this.of_map_d
theorem WF.fitsLeaf {s : Sh} {x : D} (h : WF s x) (ha : s.isAgg = false) : fitsLeaf s x = true := by
 cases h <;> simp_all [AM.fitsLeaf, Sh.isAgg]
 ·have : ∀ e : Sh, Sh.beq e e = true := by
   intro e
   induction e using Sh.rec (motive_2 := fun l => Sh.beqL l l = true) with
   | bool => rfl
   | int k => simp [Sh.beq]
   | str => rfl
   | sl e ih => simpa [Sh.beq] using ih
   | agg fs ih => simpa [Sh.beq] using ih
   | nil => rfl
   | cons a l ih1 ih2 => simp [Sh.beqL, ih1, ih2]
  exact this _
 ·have : ∀ e : Sh, Sh.beq e e = true := by
   intro e
   induction e using Sh.rec (motive_2 := fun l => Sh.beqL l l = true) with
   | bool => rfl
   | int k => simp [Sh.beq]
   | str => rfl
   | sl e ih => simpa [Sh.beq] using ih
   | agg fs ih => simpa [Sh.beq] using ih
   | nil => rfl
   | cons a l ih1 ih2 => simp [Sh.beqL, ih1, ih2]
  exact this _
theorem WFL.fitsL : ∀ {fs : List Sh} {cs : List D}, WFL fs cs → fitsL fs cs = true
 | [], [], _ => rfl
 | [], _ :: _, h => by simp [WFL] at h
 | _ :: _, [], h => by simp [WFL] at h
 | f :: fs, c :: cs, h => by
  simp only [AM.fitsL, Bool.and_eq_true]
  refine ⟨(h.2.2 0 f c rfl rfl).fitsLeaf (h.1 f (by simp)), WFL.fitsL ⟨fun g hg => h.1 g (by simp [hg]), by simpa using h.2.1, fun i g d hg hd => h.2.2 (i + 1) g d (by simpa using hg) (by simpa using hd)⟩⟩
theorem WF.fits {s : Sh} {x : D} (h : WF s x) : fits s x = true := by
 cases h with
 | agg fs cs ha hl hh => exact WFL.fitsL ⟨ha, hl, hh⟩
 | bool b => rfl
 | int k n hn => simp [AM.fits, AM.fitsLeaf]
 | str s hs => rfl
 | slnil e => exact (WF.slnil e).fitsLeaf rfl
 | sl e es hl hh => exact (WF.sl e es hl hh).fitsLeaf rfl
theorem WFL.one {s : Sh} {ds : List D} (h : WFL s.leafs ds) : ∃ x, x.cells = ds ∧ WF s x := by
 cases s with
 | agg fs => exact ⟨.agg ds, rfl, .agg fs ds h.1 h.2.1 h.2.2⟩
 | _ =>
  obtain ⟨h1, h2, h3⟩ := h
  simp only [Sh.leafs, List.length_singleton] at h2
  match ds, h2 with
  | [c], _ =>
   have hc := h3 0 _ c rfl rfl
   refine ⟨c, ?_, hc⟩
   cases hc <;> rfl
theorem rds_one {Y : Nat → Prop} {d : D} {v : Value} (h : RD w Y d v) : RDs w Y [d] [v] := by
 refine ⟨rfl, fun j c u h1 h2 => ?_⟩
 cases j with
 | zero => simp only [List.getElem?_cons_zero, Option.some.injEq] at h1 h2; subst h1 h2; exact h
 | succ j => simp at h1
theorem wfl_one {s : Sh} {d : D} (ha : s.isAgg = false) (h : WF s d) : WFL [s] [d] := WFL.cons ha h WFL.nil
theorem lit_int {k : IntKind} {n : Int} (h : (Lit.int k n).wf = true) : k.min ≤ n ∧ n ≤ k.max := by
 simpa [Lit.wf, and_comm] using h
mutual
theorem trod_ty : ∀ (τ : Ty) (fuel : Nat) (t : TypeId) (cs : List Value) (x : DataW H × List MemPlace), tyOk P τ t = true → DataW.trod enc P w base spare held fuel t cs = some x →
  ∃ ds, RDs w (fun _ => False) ds cs ∧ WFL τ.shl ds
 | .bool, fuel, t, cs, x, ht, h => by
  unfold tyOk at ht
  split at ht
  ·rename_i hu
   obtain ⟨b, rfl, -⟩ := DataW.trod_bool hu h
   exact ⟨[.bool b], rds_one (.bool b), wfl_one rfl (.bool b)⟩
  ·cases ht
 | .int k, fuel, t, cs, x, ht, h => by
  unfold tyOk at ht
  split at ht
  ·rename_i j hu
   have hj := of_decide_eq_true ht
   subst hj
   obtain ⟨n, rfl, -, hn⟩ := DataW.trod_int hu h
   exact ⟨[.int j n], rds_one (.int j n), wfl_one rfl (.int j n (lit_int hn))⟩
  ·cases ht
 | .str, fuel, t, cs, x, ht, h => by
  unfold tyOk at ht
  split at ht
  ·rename_i hu
   obtain ⟨s, rfl, -, hs⟩ := DataW.trod_string hu h
   refine ⟨[.str s.data.toList], rds_one ?_, wfl_one rfl (.str _ (by simpa using hs))⟩
   have := RD.str (w := w) (Y := fun _ => False) s.data.toList
   simpa using this
  ·cases ht
 | .sl e, fuel, t, cs, x, ht, h => by
  unfold tyOk at ht
  split at ht
  ·rename_i u hu
   simp only [Bool.and_eq_true, Bool.not_eq_true'] at ht
   obtain ⟨⟨he, hsz⟩, hne⟩ := ht
   have hsz := Nat.eq_of_beq_eq_true hsz
   rcases DataW.trod_slice hu h with ⟨rfl, -⟩ | ⟨a, len, cap, elems, rest, n, -, rfl, -, hb, hlc, hcm, hel, hget, -, -⟩
   ·exact ⟨[.sl e.sh true []], rds_one (.slnil e.sh), wfl_one rfl (.slnil e.sh)⟩
   ·have key : ∀ i, ∃ y : D, i < len → ∃ ci, w.cells? base (a.add (i * P.cellsOf u)) (P.cellsOf u) = some ci ∧ RDs w (fun _ => False) y.cells ci ∧ WF e.sh y := by
     intro i
     by_cases hi : i < len
     ·have hg := hget i hi
      have : i < elems.length := by omega
      rw [List.getElem?_eq_getElem this] at hg
      cases hc : w.cells? base (a.add (i * P.cellsOf u)) (P.cellsOf u) with
      | none => rw [hc] at hg; cases hg
      | some ci =>
       rw [hc] at hg
       obtain ⟨ds, h1, h2⟩ := trod_ty e n u ci _ he hg
       rw [← Ty.sh_leafs] at h2
       obtain ⟨y, rfl, hy⟩ := h2.one
       exact ⟨y, fun _ => ⟨ci, rfl, h1, hy⟩⟩
     ·exact ⟨.nilp, fun h => (hi h).elim⟩
    obtain ⟨f, hf⟩ : ∃ f : Nat → D, ∀ i, i < len → ∃ ci, w.cells? base (a.add (i * P.cellsOf u)) (P.cellsOf u) = some ci ∧ RDs w (fun _ => False) (f i).cells ci ∧ WF e.sh (f i) :=
     ⟨fun i => Classical.choose (key i), fun i => Classical.choose_spec (key i)⟩
    have hes : ((List.range len).map f).length = len := by simp
    have hat : ∀ (i : Nat) y, ((List.range len).map f)[i]? = some y → i < len ∧ y = f i := by
     intro i y hy
     have hi : i < len := by
      have := (List.getElem?_eq_some_iff.1 hy).1
      simpa using this
     refine ⟨hi, ?_⟩
     simp only [List.getElem?_map, List.getElem?_range hi, Option.map_some, Option.some.injEq] at hy
     exact hy.symm
    have hwf : ∀ y ∈ (List.range len).map f, WF e.sh y := by
     intro y hy
     obtain ⟨i, hi, rfl⟩ := List.mem_map.1 hy
     obtain ⟨ci, -, -, hw⟩ := hf i (List.mem_range.1 hi)
     exact hw
    refine ⟨[.sl e.sh false ((List.range len).map f)], rds_one ?_, wfl_one rfl (.sl e.sh _ (by rw [hes]; omega) hwf)⟩
    have hsize : e.sh.size = P.cellsOf u := by rw [hsz, Sh.size, Ty.sh_leafs]
    have hcell : ∀ (i : Nat) y (j : Nat) c, ((List.range len).map f)[i]? = some y → y.cells[j]? = some c → ∃ v, w.cell? ((a.add (i * P.cellsOf u)).add j) = some v ∧ RD w (fun _ => False) c v := by
     intro i y j c hy hc
     obtain ⟨hi, rfl⟩ := hat i y hy
     obtain ⟨ci, hci, hr, -⟩ := hf i hi
     obtain ⟨-, hl, hcs⟩ := World.cells?_some hci
     have hj : j < ci.length := by rw [← hr.1]; exact (List.getElem?_eq_some_iff.1 hc).1
     refine ⟨ci[j], ?_, hr.2 j c _ hc (List.getElem?_eq_getElem hj)⟩
     rw [hcs j (by omega), List.getElem?_eq_getElem hj]
    have hspot : 0 < len → a.spot = none := by
     intro h0
     obtain ⟨ci, hci, hr, -⟩ := hf 0 h0
     obtain ⟨-, hl, hcs⟩ := World.cells?_some hci
     have hpos : 0 < P.cellsOf u := by
      rw [hsz]
      cases hz : Ty.shl e with
      | nil => rw [hz] at hne; cases hne
      | cons s l => simp
     have h1 := hcs 0 hpos
     have h2 : 0 < ci.length := by omega
     rw [List.getElem?_eq_getElem h2] at h1
     have e1 : (a.add (0 * P.cellsOf u)).add 0 = a := by simp [Addr.add]
     rw [e1] at h1
     unfold World.cell? at h1
     split at h1
     ·split at h1
      ·cases h1
      ·rename_i hs
       cases hsp : a.spot with
       | none => rfl
       | some z => rw [hsp] at hs; simp at hs
     ·cases h1
    have hadd : ∀ i j, a.spot = none → (a.add (i * P.cellsOf u)).add j = ⟨a.block, a.off + (i * e.sh.size + j), none⟩ := by
     intro i j hs
     rw [hsize]
     obtain ⟨ab, ao, as⟩ := a
     simp only at hs
     subst hs
     unfold Addr.add
     by_cases h1 : i * P.cellsOf u = 0 <;> by_cases h2 : j = 0 <;> simp [h1, h2]
     omega
    have hmain := RD.sl (w := w) (Y := fun _ => False) e.sh ((List.range len).map f) a cap
     (fun i j => (w.cell? ((a.add (i * P.cellsOf u)).add j)).getD undef) (by rw [hes]; exact hlc) (fun y hy => (hwf y hy).fits)
     (fun i y j c hy hc => by
      obtain ⟨v, hv, -⟩ := hcell i y j c hy hc
      have hs := hspot (by have := (hat i y hy).1; omega)
      refine ⟨fun h => h.elim, hs, ?_⟩
      rw [← hadd i j hs, hv]
      rfl)
     (fun i y j c hy hc => by
      obtain ⟨v, hv, hr⟩ := hcell i y j c hy hc
      show RD w _ c ((w.cell? ((a.add (i * P.cellsOf u)).add j)).getD undef)
      rw [hv]
      exact hr)
    rw [hes] at hmain
    exact hmain
  ·cases ht
 | .st ts, fuel, t, cs, x, ht, h => by
  unfold tyOk at ht
  split at ht
  ·rename_i fs hu
   obtain ⟨xs, n, -, -, hcs, hxl, hf⟩ := DataW.trod_struct hu h
   have := trod_tys ts fs.toList 0 (P.cellsOf t) n cs ht hcs (fun f hfm => by
    obtain ⟨i, hi, rfl⟩ := List.mem_iff_getElem.1 hfm
    have hi' : i < fs.size := by simpa using hi
    have := hf i fs[i] (by simp [hi'])
    have hx : i < xs.length := by omega
    rw [List.getElem?_eq_getElem hx] at this
    exact ⟨xs[i], by simpa using this⟩)
   simpa [Ty.shl] using this
  ·cases ht
theorem trod_tys : ∀ (ts : List Ty) (fs : List Field) (off tot n : Nat) (cs : List Value), tyOks P ts fs off tot = true → cs.length = tot →
  (∀ f ∈ fs, ∃ y, DataW.trod enc P w base spare held n f.type ((cs.drop f.offset).take (P.cellsOf f.type)) = some y) → ∃ ds, RDs w (fun _ => False) ds (cs.drop off) ∧ WFL (Ty.shls ts) ds
 | [], [], off, tot, n, cs, h, hl, _ => by
  simp only [tyOks] at h
  have := Nat.eq_of_beq_eq_true h
  refine ⟨[], ⟨?_, fun j c v hc => by simp at hc⟩, WFL.nil⟩
  simp; omega
 | [], _ :: _, off, tot, n, cs, h, _, _ => by simp [tyOks] at h
 | _ :: _, [], off, tot, n, cs, h, _, _ => by simp [tyOks] at h
 | τ :: ts, f :: fs, off, tot, n, cs, h, hl, hf => by
  simp only [tyOks, Bool.and_eq_true] at h
  obtain ⟨⟨⟨h1, h2⟩, h3⟩, h4⟩ := h
  have h1 := Nat.eq_of_beq_eq_true h1
  have h2 := Nat.eq_of_beq_eq_true h2
  obtain ⟨y, hy⟩ := hf f (by simp)
  obtain ⟨ds1, r1, w1⟩ := trod_ty τ n f.type _ y h3 hy
  obtain ⟨ds2, r2, w2⟩ := trod_tys ts fs (off + (Ty.shl τ).length) tot n cs h4 hl (fun g hg => hf g (by simp [hg]))
  refine ⟨ds1 ++ ds2, ?_, by simpa [Ty.shls] using w1.append w2⟩
  have := r1.append r2
  rw [h1, h2] at this
  have e : List.take (Ty.shl τ).length (List.drop off cs) ++ List.drop (off + (Ty.shl τ).length) cs = List.drop off cs := by
   rw [← List.drop_drop, List.take_append_drop]
  rw [e] at this
  exact this
end
end
open Go Go.ChangeShapes Go.WideElems
section
variable {P : Program} {w w' : World} {H : Type} {enc : TypeId × Value → H}
def tyArg (P : Program) (τ : Ty) (t : TypeId) : Bool := tyOk P τ t && decide (t < P.types.size) && P.readableRec t
theorem cells_leaf {b0 : Nat} {τ : Ty} {t : TypeId} {v : Value} (hs : ∀ ts, τ ≠ .st ts) (h : tyOk P τ t = true) (hv : Value.okWide P w .any b0 t v) : v.cells = #[v] := by
 cases v with
 | agg cs =>
  exfalso
  cases τ with
  | st ts => exact hs ts rfl
  | bool =>
   unfold tyOk at h
   split at h
   ·rename_i hu
    unfold Value.okWide Cell.okWide Cell.ok at hv
    rw [hu] at hv
    exact hv
   ·cases h
  | int k =>
   unfold tyOk at h
   split at h
   ·rename_i hu
    unfold Value.okWide Cell.okWide Cell.ok at hv
    rw [hu] at hv
    exact hv
   ·cases h
  | str =>
   unfold tyOk at h
   split at h
   ·rename_i hu
    unfold Value.okWide Cell.okWide Cell.ok at hv
    rw [hu] at hv
    exact hv
   ·cases h
  | sl e =>
   unfold tyOk at h
   split at h
   ·rename_i hu
    unfold Value.okWide Cell.okWide Cell.ok at hv
    rw [hu] at hv
    exact hv
   ·cases h
 | _ => rfl
theorem WFL.leaf {s : Sh} {ds : List D} (h : WFL [s] ds) : ∃ d, ds = [d] ∧ WF s d := by
 obtain ⟨h1, h2, h3⟩ := h
 match ds, h2 with
 | [d], _ => exact ⟨d, rfl, h3 0 s d rfl rfl⟩
def tyArgs (P : Program) : List Ty → List TypeId → Bool
 | [], [] => true
 | τ :: τs, t :: ts => tyArg P τ t && tyArgs P τs ts
 | _, _ => false
def WFs : List Ty → List D → Prop
 | [], [] => True
 | τ :: τs, x :: xs => WF τ.sh x ∧ WFs τs xs
 | _, _ => False
theorem args_data {b0 : Nat} : ∀ (τs : List Ty) (ts : List TypeId) (vs : List Value) (ds : List (DataW H)) (ps : List MemPlace), tyArgs P τs ts = true → DataW.TrodAll enc P w 0 (fun _ => true) true ts vs ds ps →
  (∀ (j : Nat) t v, ts[j]? = some t → vs[j]? = some v → Value.okWide P w .any b0 t v) → ∃ xs, RDs w (fun _ => False) xs vs ∧ WFs τs xs
 | [], [], vs, ds, ps, _, h, _ => by
  cases vs with
  | nil => exact ⟨[], ⟨rfl, fun j c v hc => by simp at hc⟩, trivial⟩
  | cons v vs => simp [DataW.TrodAll] at h
 | [], _ :: _, _, _, _, h, _, _ => by simp [tyArgs] at h
 | _ :: _, [], _, _, _, h, _, _ => by simp [tyArgs] at h
 | τ :: τs, t :: ts, vs, ds, ps, ht, h, hok => by
  simp only [tyArgs, Bool.and_eq_true] at ht
  cases vs with
  | nil => simp [DataW.TrodAll] at h
  | cons v vs =>
   cases ds with
   | nil => simp [DataW.TrodAll] at h
   | cons d ds =>
    obtain ⟨p, q, h1, h2, -⟩ := h
    obtain ⟨xs, hr, hw⟩ := args_data τs ts vs ds q ht.2 h2 fun j t v ht hv => hok (j + 1) t v (by simpa using ht) (by simpa using hv)
    have hτ := ht.1
    unfold tyArg at hτ
    simp only [Bool.and_eq_true, decide_eq_true_eq] at hτ
    obtain ⟨⟨h3, h4⟩, h5⟩ := hτ
    obtain ⟨fuel, hf⟩ := h1
    obtain ⟨cs, hcs, hwf⟩ := trod_ty τ fuel t v.cells.toList _ h3 hf
    have hv := hok 0 t v rfl rfl
    have one : ∀ s : Sh, (∀ ts, τ ≠ .st ts) → WFL [s] cs → WF s = WF τ.sh → ∃ xs, RDs w (fun _ => False) xs (v :: vs) ∧ WFs (τ :: τs) xs := by
     intro s hs hl he
     obtain ⟨d, rfl, hd⟩ := hl.leaf
     rw [cells_leaf hs h3 hv] at hcs
     exact ⟨d :: xs, RDs.append hcs hr, he ▸ hd, hw⟩
    cases τ with
    | bool => exact one _ (fun _ h => by cases h) hwf rfl
    | int k => exact one _ (fun _ h => by cases h) hwf rfl
    | str => exact one _ (fun _ h => by cases h) hwf rfl
    | sl e => exact one _ (fun _ h => by cases h) hwf rfl
    | st fs =>
     unfold tyOk at h3
     split at h3
     ·rename_i fields hu
      unfold Value.okWide at hv
      rw [hu] at hv
      obtain ⟨vs0, rfl, -, -⟩ := hv
      refine ⟨.agg cs :: xs, ?_, ⟨.agg _ _ hwf.1 hwf.2.1 hwf.2.2, hw⟩⟩
      have h6 := rds_one (w := w) (Y := fun _ => False) (RD.agg (w := w) cs vs0.toList hcs.1 hcs.2)
      exact h6.append hr
     ·cases h3
theorem reads_on {sp : Nat → Bool} (hl : laidOutB P = true) (hsame : ∀ p : MemPlace, p.block < w.heap.size → w.sameAt w' p) : ∀ (τs : List Ty) (ts : List TypeId) (vs : List Value) (ds : List (DataW H)) (ps : List MemPlace), tyArgs P τs ts = true →
  DataW.TrodAll enc P w 0 (fun _ => true) true ts vs ds ps → (∀ p ∈ ps, p.block < w.heap.size) → (∀ p ∈ ps, sp p.block = true) → DataW.TrodAll enc P w' 0 sp true ts vs ds ps
 | [], [], vs, ds, ps, _, h, _, _ => by
  cases vs <;> cases ds <;> simp_all [DataW.TrodAll]
 | [], _ :: _, _, _, _, h, _, _, _ => by simp [tyArgs] at h
 | _ :: _, [], _, _, _, h, _, _, _ => by simp [tyArgs] at h
 | τ :: τs, t :: ts, vs, ds, ps, ht, h, hb, hs => by
  simp only [tyArgs, Bool.and_eq_true] at ht
  cases vs with
  | nil => simp [DataW.TrodAll] at h
  | cons v vs =>
   cases ds with
   | nil => simp [DataW.TrodAll] at h
   | cons d ds =>
    obtain ⟨p, q, h1, h2, rfl⟩ := h
    have hτ := ht.1
    unfold tyArg at hτ
    simp only [Bool.and_eq_true, decide_eq_true_eq] at hτ
    obtain ⟨⟨h3, h4⟩, h5⟩ := hτ
    exact ⟨p, q, Trod_stays hl h5 h4 h1 (fun x hx => hsame x (hb x (List.mem_append_left _ hx))) (fun x hx => hs x (List.mem_append_left _ hx)),
     reads_on hl hsame τs ts vs ds q ht.2 h2 (fun x hx => hb x (List.mem_append_right _ hx)) (fun x hx => hs x (List.mem_append_right _ hx)), rfl⟩
theorem frozen_of_keep (hk : Keep (fun _ => False) w w') (a : Addr) (ha : a.block < w.heap.size) : w'.frozen? a = w.frozen? a := by
 unfold World.frozen?
 rw [hk.heap a.block ha (fun h => h)]
theorem keptBut_of_keep (hk : Keep (fun _ => False) w w') (may : MemPlace → Prop) : w.keptBut w' may := by
 refine World.keptBut_mono (may := fun _ => False) (fun _ h => h.elim) (World.keptBut_none_iff.2 ⟨hk.out.1, hk.out.2, fun i hi => hk.heap i hi (fun h => h)⟩)
theorem sameAt_of_keep (hk : Keep (fun _ => False) w w') (p : MemPlace) (hp : p.block < w.heap.size) : w.sameAt w' p := by
 cases p with
 | cell b off =>
  show w'.cell? ⟨b, off, none⟩ = w.cell? ⟨b, off, none⟩
  unfold World.cell?
  rw [hk.heap b hp (fun h => h)]
 | map b => exact hk.heap b hp (fun h => h)
theorem law_calls {b0 : Nat} {f : FuncId} {fn : Func} {c : Code} {g : List D → Tree (List D)} {τs : List Ty} (hfn : P.funcs[f]? = some fn) (hname : fn.name ≠ "runtime.NumGoroutine") (hbody : fn.body = some c)
  (hp : PureOK P f g) (hty : tyArgs P τs fn.params.toList = true) (hg : ∀ xs, WFs τs xs → (g xs).eval = some [.bool true])
  {args : Array Value} {ds : List (DataW H)} {p : List MemPlace} (hA : DataW.TrodAll enc P w 0 (fun _ => true) true fn.params.toList args.toList ds p)
  (hok : ∀ (j : Nat) t v, fn.params[j]? = some t → args[j]? = some v → Value.okWide P w .any b0 t v) (hT : TabOK P w (fun _ => False)) :
  Calls P f args w fun e w' => e = .returned (.bool true) ∧ Keep (fun _ => False) w w' := by
 obtain ⟨xs, hr, hw⟩ := args_data τs _ _ _ _ hty hA (fun j t v ht hv => hok j t v (by simpa using ht) (by simpa using hv))
 have := hp xs [.bool true] (hg xs hw) w (fun _ => False) args (fun b h => h.elim) hT hr
 rcases this with ⟨-, h⟩ | ⟨u, w', h, -⟩
 ·refine Calls.mono h ?_
  rintro e w' ⟨u, rfl, hv, hk⟩
  simp only [retV, RV] at hv
  cases hv
  exact ⟨rfl, hk⟩
 ·rw [MuLone.run_callFunc_enter hfn (by simpa using hname) hbody args w] at h
  cases h
end
open Go Go.ChangeShapes
theorem WFL.inv {f : Sh} {fs : List Sh} {cs : List D} (h : WFL (f :: fs) cs) : ∃ c cs', cs = c :: cs' ∧ WF f c ∧ WFL fs cs' := by
 obtain ⟨h1, h2, h3⟩ := h
 cases cs with
 | nil => simp at h2
 | cons c cs => exact ⟨c, cs, rfl, h3 0 f c rfl rfl, fun g hg => h1 g (by simp [hg]), by simpa using h2, fun i g d hg hd => h3 (i + 1) g d (by simpa using hg) (by simpa using hd)⟩
theorem WFL.inv_nil {cs : List D} (h : WFL [] cs) : cs = [] := by
 have := h.2.1
 cases cs with
 | nil => rfl
 | cons c cs => simp at this
theorem WF.inv_agg {fs : List Sh} {x : D} (h : WF (.agg fs) x) : ∃ cs, x = .agg cs ∧ WFL fs cs := by
 cases h with
 | agg fs cs ha hl hh => exact ⟨cs, rfl, ha, hl, hh⟩
theorem WF.inv_int {k : IntKind} {x : D} (h : WF (.int k) x) : ∃ n, x = .int k n := by
 cases h with
 | int k n hn => exact ⟨n, rfl⟩
theorem WF.inv_str {x : D} (h : WF .str x) : ∃ s, x = .str s := by
 cases h with
 | str s hs => exact ⟨s, rfl⟩
theorem WF.inv_sl {e : Sh} {x : D} (h : WF (.sl e) x) : ∃ n es, x = .sl e n es ∧ (n = true → es = []) ∧ ∀ y ∈ es, WF e y := by
 cases h with
 | slnil e => exact ⟨true, [], rfl, fun _ => rfl, fun y hy => by simp at hy⟩
 | sl e es hl hh => exact ⟨false, es, rfl, fun h => by simp at h, hh⟩
theorem law_post {H : Type} {enc : TypeId × Value → H} {P : Program} {fn : Func} {s : ChangeSpec} {τs : List Ty} {tb : TypeId} {W W' : World} {args : Array Value} {ds gs : List (DataW H)} {before : List MemPlace} {fresh handsOn again : Bool}
  (hW : DataW.Whole enc P fn.params.toList s.vars false W args.toList ds gs before) (hv : s.vars = []) (hl : laidOutB P = true) (hty : tyArgs P τs fn.params.toList = true) (hrt : fn.resultTypes = #[tb]) (htb : P.underlying tb = some .bool)
  (hr : (s.fn H ds).results = [.lit (.bool true)]) (ha : (s.fn H ds).args = ds) (hvs : (s.fn H ds).vars = []) (hk : Keep (fun _ => False) W W') :
  s.post enc P fn false fresh handsOn again W args (.bool true) W' := by
 have hlt := hW.lt
 obtain ⟨pa, pv, hA, hV, rfl, hz, hn⟩ := hW
 rw [hv] at hV
 obtain ⟨rfl, rfl⟩ := trodVars_none hV
 simp only [List.append_nil] at hlt hz
 have hargs : ∀ sp : Nat → Bool, (∀ p ∈ pa, sp p.block = true) → DataW.TrodAll enc P W' 0 sp true fn.params.toList args.toList ds pa := fun sp hsp =>
  reads_on hl (fun p hp => sameAt_of_keep hk p hp) τs _ _ _ _ hty hA hlt hsp
 have hres : ∀ (b : Nat) (sp : Nat → Bool) (hd : Bool), DataW.TrodAll enc P W' b sp hd fn.resultTypes.toList ((Value.bool true).resultList fn.resultTypes.size) [.lit (.bool true)] [] := by
  intro b sp hd
  rw [hrt]
  exact trodAll_mk1 (RowKit.shut_bool htb true)
 have hvars : ∀ sp : Nat → Bool, DataW.TrodVars enc P W' sp s.vars [] [] := by
  intro sp
  rw [hv]
  rfl
 refine ⟨ds, [], pa ++ [], [], pa, [], ⟨pa, [], hA, by rw [hv]; exact hV, rfl, by simpa using hz, hn⟩, ?_, ?_, ?_, keptBut_of_keep hk _, fun _ => ⟨?_, ?_⟩⟩
 ·simp only [List.append_nil, hr]
  exact hres _ _ _
 ·simp only [List.append_nil, ha]
  exact hargs _ (fun p hp => by simpa using hlt p hp)
 ·simp only [List.append_nil, hvs]
  exact hvars _
 ·exact RowKit.ok_one hrt rfl (RowKit.okWide_bool_mk htb true)
 ·refine ⟨_, _, ([] ++ pa) ++ [], ⟨[] ++ pa, [], trodAll_append (hargs _ (fun _ _ => rfl)) (hres _ _ _), hvars _, rfl, ?_, fun h => by cases h⟩, ?_⟩
  ·intro b off hp
   have hp : MemPlace.cell b off ∈ pa := by simpa using hp
   rw [frozen_of_keep hk _ (show b < W.heap.size from hlt _ hp)]
   exact hz b off hp
  ·intro p hp _
   simpa using hp
end Go.AM
