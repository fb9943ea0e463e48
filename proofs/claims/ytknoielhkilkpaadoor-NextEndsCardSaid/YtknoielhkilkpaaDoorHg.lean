/- NextEnds: a saga that is not ended goes on, nearer to its end. -/
import Derived.Test.YtknoielhkilkpaaDoorHf
import Derived.Test.YtknoielhkilkpaaDoorGc
import Derived.KernelRfl
import Derived.Test.YtknoielhkilkpaaDoorHe

namespace Go.Proofs.YtknoielhkilkpaaDoor.A
open Go Go.AM
theorem scan_cases {α : Type} (p : Nat → Bool) (hit : Nat → α) (fin : α) : ∀ k i, (∃ c, i ≤ c ∧ c < i + k ∧ p c = true ∧ scan p hit fin k i = hit c) ∨ ((∀ j, i ≤ j → j < i + k → p j = false) ∧ scan p hit fin k i = fin)
  | 0, i => .inr ⟨fun j h1 h2 => by omega, rfl⟩
  | k + 1, i => by
    cases hp : p i
    · rcases scan_cases p hit fin k (i + 1) with ⟨c, h1, h2, h3, h4⟩ | ⟨h1, h2⟩
      · exact .inl ⟨c, by omega, by omega, h3, by simp only [scan, hp, cond_false]; exact h4⟩
      · refine .inr ⟨fun j h3 h4 => ?_, by simp only [scan, hp, cond_false]; exact h2⟩
        by_cases he : j = i
        · rw [he]; exact hp
        · exact h1 j (by omega) (by omega)
    · exact .inl ⟨i, by omega, by omega, hp, by simp only [scan, hp, cond_true]⟩
/-- not stuck, nor about to be -/
def Free (st : Int) (parts steps : List D) : Prop := st ≠ 5 ∧ (st = 4 → ∀ i, i < parts.length → loc steps i = true → trAt parts i ≠ 5)
theorem free_keep {st wy : Int} {fc : Bool} {hops steps parts : List D} {kd sp mw s w : Int} {f : Bool} {p : List D} (hJ : Free st parts steps) (h : Mv st wy fc hops parts steps sp mw kd s w f p) (h3 : kd ≠ 3) (h12 : kd ≠ 12) (h13 : kd ≠ 13) : Free s p steps := by
  cases h with
  | fail => exact (h3 rfl).elim
  | does hl hc ha ho => subst ho; exact ⟨by decide, fun h => by cases h⟩
  | ask hl hc ha ho => subst ho; exact ⟨by decide, fun h => by cases h⟩
  | got hl hc ha ho => subst ho; exact ⟨by decide, fun h => by cases h⟩
  | lost hl ha ho h0 =>
    refine ⟨hJ.1, fun h i hi hlo => ?_⟩
    rw [List.length_set] at hi
    rw [tr_set hl]
    by_cases he : sp.toNat = i
    · subst he
      rw [ha] at hlo
      cases hlo
    · rw [if_neg he]; exact hJ.2 h i hi hlo
  | hold => exact ⟨by decide, fun h => by cases h⟩
  | commit => exact ⟨by decide, fun h => by cases h⟩
  | back =>
    refine ⟨by decide, fun _ i hi _ => ?_⟩
    rw [calm_len] at hi
    rw [calm_tr hi]
    decide
  | undo hl hc ha ho =>
    refine ⟨hJ.1, fun h i hi hlo => ?_⟩
    rw [List.length_set] at hi
    rw [tr_set hl]
    by_cases he : sp.toNat = i
    · rw [if_pos he]; decide
    · rw [if_neg he]; exact hJ.2 h i hi hlo
  | jam => exact (h12 rfl).elim
  | again => exact (h13 rfl).elim
  | ends => exact ⟨by decide, fun h => by cases h⟩
  | kept hl ha ho => subst ho; exact ⟨by decide, fun h => by cases h⟩
  | forceC => exact ⟨by decide, fun h => by cases h⟩
  | forceU => exact ⟨by decide, fun h => by cases h⟩
theorem good_may {rt nn st wy s w : Int} {fc f : Bool} {hops steps parts p : List D} {nm : List UInt8} (hm : mayOk rt nn st wy fc hops steps parts nm = true) (h7 : st ≠ 7) (hs7 : s ≠ 7) (hg : Good s w f hops steps p) : mayOk rt nn s w f hops steps p nm = true := by
  have h7' : (st == 7) = false := by simpa using h7
  have hs7' : (s == 7) = false := by simpa using hs7
  have a5 : ((p.length : Int) != (steps.length : Int)) = false := by
    have := hg.len
    simp
    omega
  have a6 : allI p47 p.length p steps = true := (allI_iff _ _ _ _).2 hg.sane
  unfold mayOk at hm ⊢
  rw [h7'] at hm
  rw [hs7', a5, a6, hg.fits]
  cases a1 : idOk rt nn hops
  · simp [a1] at hm
  · cases a2 : defOk nm steps
    · simp [a1, a2] at hm
    · rfl
theorem ap7_made {st wy : Int} {fc : Bool} {hops steps parts : List D} {c : Nat} (hc : c < parts.length) (h7 : st ≠ 7) (ha : loc steps c = false) (ho : fc = true ∨ st ≠ 3 ∧ st ≠ 6) (h0 : stAt parts c = 1 ∨ stAt parts c = 2) : arE (ap7 st wy fc hops parts steps c 0) = 0 := by
  have e7 := beqF h7
  have ep : decide ((parts.length : Int) ≤ (c : Int)) = false := decide_eq_false (by omega)
  have es : (fi 0 (parts.getD c .nilp) == 1 || fi 0 (parts.getD c .nilp) == 2) = true := by
    rcases h0 with h0 | h0
    · rw [show fi 0 (parts.getD c .nilp) = 1 from h0]; rfl
    · rw [show fi 0 (parts.getD c .nilp) = 2 from h0]; rfl
  have hal : (fs 4 (steps.getD c .nilp) == []) = false := ha
  unfold ap7
  simp only [hasI_or2, Int.toNat_natCast, e7, ep, es, hal, Bool.not_false, cond_true, cond_false, cself]
  rcases ho with rfl | ⟨h3, h6⟩
  · rfl
  · rw [show (st != 3) = true by simpa using h3, show (st != 6) = true by simpa using h6]
    cases fc <;> rfl
theorem ap6_made {wy : Int} {fc : Bool} {hops steps parts : List D} {c : Nat} (hc : c < parts.length) (ha : loc steps c = false) (hcur : cur 1 parts = c) (h0 : stAt parts c = 1) : arE (ap6 1 wy fc hops parts steps c 0) = 0 := by
  have ep : decide ((parts.length : Int) ≤ (c : Int)) = false := decide_eq_false (by omega)
  have es : (fi 0 (parts.getD c .nilp) == 1) = true := by rw [show fi 0 (parts.getD c .nilp) = 1 from h0]; rfl
  have hal : (fs 4 (steps.getD c .nilp) == []) = false := ha
  have e7 : ((1 : Int) == 7) = false := rfl
  unfold ap6
  simp only [hasI_or, Int.toNat_natCast, e7, ep, es, hal, hcur, beq_self_eq_true, Bool.not_false, cond_true, cond_false]
  rfl
theorem ap15_made {wy : Int} {fc : Bool} {hops steps parts : List D} {c : Nat} (hc : c < parts.length) (ha : loc steps c = false) (h0 : stAt parts c = 2) : arE (ap15 3 wy fc hops parts steps c 0) = 0 := by
  have ep : decide ((parts.length : Int) ≤ (c : Int)) = false := decide_eq_false (by omega)
  have es : (fi 0 (parts.getD c .nilp) == 2) = true := by rw [show fi 0 (parts.getD c .nilp) = 2 from h0]; rfl
  have hal : (fs 4 (steps.getD c .nilp) == []) = false := ha
  have e7 : ((3 : Int) == 7) = false := rfl
  have e1 : ((3 : Int) == 1) = false := rfl
  have e3 : ((3 : Int) == 3) = true := rfl
  unfold ap15
  simp only [hasI_or, Int.toNat_natCast, e7, e1, e3, ep, es, hal, Bool.not_false, cond_true, cond_false]
  rfl
theorem ansP_iff {st : Int} {fc : Bool} {c : Int} {parts steps : List D} {i : Nat} : ansP st fc c parts steps i = true ↔ loc steps i = false ∧ (st = 1 ∧ stAt parts i = 1 ∨ st = 3 ∧ stAt parts i = 2 ∨ ((st = 4 ∨ fc = true) ∧ (stAt parts i = 1 ∨ stAt parts i = 2)) ∧ ¬ (st = 4 ∧ (i : Int) ≠ c)) := by
  unfold ansP loc stAt
  simp only [Bool.and_eq_true, Bool.or_eq_true, Bool.not_eq_true', beq_iff_eq, Bool.and_eq_false_iff, beq_eq_false_iff_ne, bne_eq_false_iff_eq, ne_eq]
  constructor
  · rintro ⟨h1, h2⟩
    refine ⟨h1, ?_⟩
    rcases h2 with h2 | h2 | ⟨h2, h3⟩
    · exact .inl h2
    · exact .inr (.inl h2)
    · exact .inr (.inr ⟨h2, by omega⟩)
  · rintro ⟨h1, h2⟩
    refine ⟨h1, ?_⟩
    rcases h2 with h2 | h2 | ⟨h2, h3⟩
    · exact .inl h2
    · exact .inr (.inl h2)
    · exact .inr (.inr ⟨h2, by omega⟩)
/-- what is answered can be made -/
theorem ans_made {rt nn st wy : Int} {fc : Bool} {hops steps parts : List D} {nm : List UInt8} (hm : mayOk rt nn st wy fc hops steps parts nm = true) (h7 : st ≠ 7) (h5 : st ≠ 5) (he : endR0 st fc parts steps = false) (nx : Nx st hops parts steps .no) :
    ∃ kd sp, ansR st fc (cur st parts) parts steps = (kd, sp, true) ∧ (kd = 6 ∨ kd = 7 ∨ kd = 9 ∨ kd = 15) ∧ arE (appR rt nn st wy fc hops steps parts nm kd rt nn sp 0 hops [] []) = 0 := by
  have hid := mayOk_id hm
  have hg := mayOk_good hm h7
  have hsane := hg.sane'
  have hfit := hg.fit'
  have hlen := hg.len
  have hfew := hg.few
  have sc := scan_cases (ansP st fc (cur st parts) parts steps) (fun i => (ansK st parts i, (i : Int), true)) (9, 0, st == 2) parts.length 0
  have mk : ∀ (kd : Int) (c : Nat), c < parts.length → (kd = 6 ∨ kd = 7 ∨ kd = 15) → arE (applyR st wy fc hops parts steps kd c 0) = 0 → arE (appR rt nn st wy fc hops steps parts nm kd rt nn c 0 hops [] []) = 0 := by
    intro kd c hc hk h
    rw [appR_move hm h7 (move_step hid (by omega) (by omega) (by omega))]
    exact h
  cases nx with
  | asked hs hc ha h0 hgo =>
    subst hs
    cases hfit with
    | running hf hw hr =>
      obtain ⟨hlt, h | h | h⟩ := run_cur hg hc
      · exact (h0 h).elim
      · have h3 : stAt parts (cur 1 parts).toNat = 1 := h.2
        have hcur : cur 1 parts = ((cur 1 parts).toNat : Nat) := by omega
        have hloc : loc steps (cur 1 parts).toNat = false := by
          cases hx : loc steps (cur 1 parts).toNat
          · rfl
          · exact (h.1 (nil_of_beq hx)).elim
        obtain ⟨-, hb1, hb2⟩ := cur1_spec hc
        obtain ⟨-, hb3⟩ := run_at hr hc (by omega)
        have hp : ansP 1 fc (cur 1 parts) parts steps (cur 1 parts).toNat = true := ansP_iff.2 ⟨hloc, .inl ⟨rfl, h3⟩⟩
        rcases sc with ⟨c, c1, c2, c3, c4⟩ | ⟨c1, -⟩
        · have hc' : c = (cur 1 parts).toNat := by
            obtain ⟨-, h6⟩ := ansP_iff.1 c3
            rw [hf] at h6
            have h6 : stAt parts c = 1 := by
              rcases h6 with h6 | h6 | ⟨⟨h6 | h6, -⟩, -⟩
              · exact h6.2
              · omega
              · omega
              · cases h6
            by_cases hlt1 : c < (cur 1 parts).toNat
            · have := hb2 c hlt1; omega
            · by_cases hgt : (cur 1 parts).toNat < c
              · have := hb3 c hgt (by omega); omega
              · omega
          subst hc'
          refine ⟨6, cur 1 parts, ?_, .inl rfl, ?_⟩
          · unfold ansR
            rw [c4]
            have : ansK 1 parts (cur 1 parts).toNat = 6 := by
              unfold ansK
              rw [show fi 0 (parts.getD (cur 1 parts).toNat .nilp) = 1 from h3]
              rfl
            rw [this, ← hcur]
          · have := mk 6 (cur 1 parts).toNat hlt (.inl rfl) (show arE (ap6 1 wy fc hops parts steps ((cur 1 parts).toNat : Nat) 0) = 0 from ap6_made hlt hloc hcur h3)
            rw [← hcur] at this
            exact this
        · rw [c1 _ (by omega) (by omega)] at hp
          cases hp
      · exfalso
        have := idxOf_neg hgo _ (getD_mem hlt)
        simp only [isGone, show fi 0 (parts.getD (cur 1 parts).toNat .nilp) = 3 from h.2] at this
        cases this
  | waits hs hc ha =>
    subst hs
    obtain ⟨hlt, h⟩ := undo_cur hc
    have hcur : cur 4 parts = ((cur 4 parts).toNat : Nat) := by omega
    have hloc : loc steps (cur 4 parts).toNat = false := by
      cases hx : loc steps (cur 4 parts).toNat
      · rfl
      · exact (ha (nil_of_beq hx)).elim
    have hp : ansP 4 fc (cur 4 parts) parts steps (cur 4 parts).toNat = true := ansP_iff.2 ⟨hloc, .inr (.inr ⟨⟨.inl rfl, h⟩, fun e => by omega⟩)⟩
    rcases sc with ⟨c, c1, c2, c3, c4⟩ | ⟨c1, -⟩
    · have hc' : c = (cur 4 parts).toNat := by
        obtain ⟨-, h6⟩ := ansP_iff.1 c3
        rcases h6 with h6 | h6 | ⟨-, h6⟩
        · omega
        · omega
        · omega
      subst hc'
      refine ⟨7, cur 4 parts, ?_, .inr (.inl rfl), ?_⟩
      · unfold ansR
        rw [c4]
        have : ansK 4 parts (cur 4 parts).toNat = 7 := rfl
        rw [this, ← hcur]
      · have := mk 7 (cur 4 parts).toNat hlt (.inr (.inl rfl)) (show arE (ap7 4 wy fc hops parts steps ((cur 4 parts).toNat : Nat) 0) = 0 from ap7_made hlt (by decide) hloc (.inr ⟨by decide, by decide⟩) h)
        rw [← hcur] at this
        exact this
    · rw [c1 _ (by omega) (by omega)] at hp
      cases hp
  | held hs hgo =>
    subst hs
    cases hfit with
    | held hf hw hh hall =>
      rcases sc with ⟨c, c1, c2, c3, c4⟩ | ⟨-, c2⟩
      · obtain ⟨-, h6⟩ := ansP_iff.1 c3
        rw [hf] at h6
        rcases h6 with h6 | h6 | ⟨⟨h6 | h6, -⟩, -⟩
        · omega
        · omega
        · omega
        · cases h6
      · refine ⟨9, 0, c2, .inr (.inr (.inl rfl)), ?_⟩
        rw [appR_move hm h7 (move_bare hid (by omega))]
        have hd : allI p135 parts.length parts steps = true := (all_iff (Q := fun s _ _ => s = 2) fun x y => q135).2 fun i hi => by
          rcases hall i hi with h | ⟨-, h⟩
          · exact h
          · exfalso
            have := idxOf_neg hgo _ (getD_mem hi)
            simp only [isGone, show fi 0 (parts.getD i .nilp) = 3 from h] at this
            cases this
        show arE (ap9 2 wy fc hops parts steps 0 0) = 0
        unfold ap9
        rw [hd]
        rfl
  | still g1 g2 g4 =>
    have hpick : ∀ i, i < parts.length → ansP st fc (cur st parts) parts steps i = true → ∃ c, c < parts.length ∧ ansP st fc (cur st parts) parts steps c = true ∧ ansR st fc (cur st parts) parts steps = (ansK st parts c, (c : Int), true) := by
      intro i hi hp
      rcases sc with ⟨c, c1, c2, c3, c4⟩ | ⟨c1, -⟩
      · exact ⟨c, by omega, c3, c4⟩
      · rw [c1 i (by omega) (by omega)] at hp
        cases hp
    have fin : ∀ c, c < parts.length → ansP st fc (cur st parts) parts steps c = true → (fc = true ∨ st ≠ 6) → arE (appR rt nn st wy fc hops steps parts nm (ansK st parts c) rt nn c 0 hops [] []) = 0 ∧ (ansK st parts c = 6 ∨ ansK st parts c = 7 ∨ ansK st parts c = 9 ∨ ansK st parts c = 15) := by
      intro c hc hp h6
      obtain ⟨p1, p2⟩ := ansP_iff.1 hp
      by_cases h3 : st = 3
      · subst h3
        by_cases hs2 : stAt parts c = 2
        · have hk : ansK 3 parts c = 15 := by
            unfold ansK
            rw [show fi 0 (parts.getD c .nilp) = 2 from hs2]
            rfl
          rw [hk]
          exact ⟨mk 15 c hc (by omega) (show arE (ap15 3 wy fc hops parts steps (c : Nat) 0) = 0 from ap15_made hc p1 hs2), by omega⟩
        · have hk : ansK 3 parts c = 7 := by
            unfold ansK
            rw [show (fi 0 (parts.getD c .nilp) == 2) = false from beqF hs2]
            rfl
          rw [hk]
          have hfc : fc = true ∧ (stAt parts c = 1 ∨ stAt parts c = 2) := by
            rcases p2 with p2 | p2 | ⟨⟨p2 | p2, p3⟩, -⟩
            · omega
            · omega
            · omega
            · exact ⟨p2, p3⟩
          exact ⟨mk 7 c hc (by omega) (show arE (ap7 _ wy fc hops parts steps (c : Nat) 0) = 0 from ap7_made hc h7 p1 (.inl hfc.1) hfc.2), by omega⟩
      · have hk : ansK st parts c = 7 := by
          unfold ansK
          rw [beqF g1, beqF h3]
          rfl
        rw [hk]
        have hfc : fc = true ∧ (stAt parts c = 1 ∨ stAt parts c = 2) := by
          rcases p2 with p2 | p2 | ⟨⟨p2 | p2, p3⟩, -⟩
          · omega
          · omega
          · omega
          · exact ⟨p2, p3⟩
        exact ⟨mk 7 c hc (by omega) (show arE (ap7 _ wy fc hops parts steps (c : Nat) 0) = 0 from ap7_made hc h7 p1 (.inl hfc.1) hfc.2), by omega⟩
    have done : (∃ i, i < parts.length ∧ ansP st fc (cur st parts) parts steps i = true) → (fc = true ∨ st ≠ 6) → ∃ kd sp, ansR st fc (cur st parts) parts steps = (kd, sp, true) ∧ (kd = 6 ∨ kd = 7 ∨ kd = 9 ∨ kd = 15) ∧ arE (appR rt nn st wy fc hops steps parts nm kd rt nn sp 0 hops [] []) = 0 := by
      rintro ⟨i, hi, hp⟩ h6
      obtain ⟨c, hc, hp, hr⟩ := hpick i hi hp
      obtain ⟨f1, f2⟩ := fin c hc hp h6
      exact ⟨_, _, hr, f2, f1⟩
    have none2 : ∀ (ws : List D) (v : Int → Prop), (∀ x y, p97 ws x y = true ↔ ¬ v (fi 0 x)) → allI (p97 ws) parts.length parts steps = false → ∃ i, i < parts.length ∧ v (stAt parts i) := by
      intro ws v hv h
      apply Classical.byContradiction
      intro hne
      have : allI (p97 ws) parts.length parts steps = true := (allI_iff _ _ _ _).2 fun i hi => (hv _ _).2 fun hx => hne ⟨i, hi, hx⟩
      rw [this] at h
      cases h
    have v2 : ∀ x y, p97 w2 x y = true ↔ ¬ fi 0 x = 2 := fun x y => by simp only [p97, w2, List.any_cons, List.any_nil, hasI_int, Bool.or_false, Bool.not_eq_true', beq_eq_false_iff_ne, ne_eq]
    have v1 : ∀ x y, p97 w1 x y = true ↔ ¬ fi 0 x = 1 := fun x y => by simp only [p97, w1, List.any_cons, List.any_nil, hasI_int, Bool.or_false, Bool.not_eq_true', beq_eq_false_iff_ne, ne_eq]
    have v12 : ∀ x y, p97 w12 x y = true ↔ ¬ (fi 0 x = 1 ∨ fi 0 x = 2) := fun x y => by simp only [p97, w12, List.any_cons, List.any_nil, hasI_int, Bool.or_false, Bool.not_eq_true', Bool.or_eq_false_iff, beq_eq_false_iff_ne, ne_eq, not_or]
    have l2 : ∀ i, i < parts.length → stAt parts i = 2 → (st = 3 ∨ fc = true ∧ st = 6) → loc steps i = false := by
      intro i hi h hs
      have := hsane i hi
      cases hfit with
      | running => omega
      | held => omega
      | committedF hf hw ha => exact (ha i hi).resolve_right fun e => e h
      | committed hf hw ha =>
        rcases ha i hi with h9 | h9
        · omega
        · exact h9.1
      | undoing => omega
      | stuck => omega
      | compensatedF hf hw ha => exact (ha i hi).resolve_right fun e => e.1 h
      | compensated hf =>
        rcases hs with hs | hs
        · omega
        · rw [hs.1] at hf; cases hf
    have l1 : ∀ i, i < parts.length → stAt parts i = 1 → loc steps i = false := fun i hi h => (hsane i hi).2.2.1.resolve_right fun e => e h
    by_cases h3 : st = 3
    · subst h3
      refine done ?_ (.inr (by decide))
      have he : (bif allI (p97 w2) parts.length parts steps then bif fc then allI (p97 w1) parts.length parts steps else true else false) = false := he
      cases ha : allI (p97 w2) parts.length parts steps
      · obtain ⟨i, hi, hv⟩ := none2 w2 (fun s => s = 2) v2 ha
        exact ⟨i, hi, ansP_iff.2 ⟨l2 i hi hv (.inl rfl), .inr (.inl ⟨rfl, hv⟩)⟩⟩
      · rw [ha] at he
        cases hfc : fc
        · rw [hfc] at he; cases he
        · rw [hfc] at he
          obtain ⟨i, hi, hv⟩ := none2 w1 (fun s => s = 1) v1 he
          exact ⟨i, hi, ansP_iff.2 ⟨l1 i hi hv, .inr (.inr ⟨⟨.inr rfl, .inl hv⟩, by omega⟩)⟩⟩
    · have h6 : st = 6 := by
        rcases fits_st hg.fits with h | h | h | h | h | h
        · exact (g1 h).elim
        · exact (g2 h).elim
        · exact (h3 h).elim
        · exact (g4 h).elim
        · exact (h5 h).elim
        · exact h
      subst h6
      have he : allI (p97 w12) parts.length parts steps = false := he
      obtain ⟨i, hi, hv⟩ := none2 w12 (fun s => s = 1 ∨ s = 2) v12 he
      have hfc : fc = true := by
        cases hfit with
        | compensatedF hf => exact hf
        | compensated hf hw ha =>
          have := ha i hi
          omega
      refine done ⟨i, hi, ansP_iff.2 ⟨?_, .inr (.inr ⟨⟨.inr hfc, hv⟩, by omega⟩)⟩⟩ (.inl hfc)
      rcases hv with hv | hv
      · exact l1 i hi hv
      · exact l2 i hi hv (.inr ⟨hfc, rfl⟩)
theorem move_why {rt nn sp mw : Int} {hops ms : List D} {mm : List UInt8} (h : moveOk 10 rt nn sp mw hops ms mm = true) : 1 ≤ mw ∧ mw ≤ 9 := by
  have hk : kindHas 10 = 2 := by decide
  unfold moveOk moveOk0 at h
  simp only [hk] at h
  by_cases h1 : 1 ≤ mw
  · by_cases h9 : mw ≤ 9
    · exact ⟨h1, h9⟩
    · exfalso
      revert h
      simp [decide_eq_false h9]
  · exfalso
    revert h
    simp [decide_eq_false h1]
/-- one turn -/
theorem ends_turn {rt nn st wy : Int} {fc : Bool} {hops steps parts : List D} {nm : List UInt8} {kd sp mw : Int} (hm : mayOk rt nn st wy fc hops steps parts nm = true) (h7 : st ≠ 7) (hJ : Free st parts steps) (h3 : kd ≠ 3) (h12 : kd ≠ 12) (h13 : kd ≠ 13)
    (ha : arE (appR rt nn st wy fc hops steps parts nm kd rt nn sp mw hops [] []) = 0) : ∃ s w f p, appR rt nn st wy fc hops steps parts nm kd rt nn sp mw hops [] [] = .good s w f p ∧ mayOk rt nn s w f hops steps p nm = true ∧ s ≠ 7 ∧ Free s p steps ∧ rankV s p < rankV st parts ∧ p.length = parts.length := by
  obtain ⟨-, -, hmv, s, w, f, p, hR, hA, hpl⟩ := appR_good ha
  have hg := mayOk_good hm h7
  have hsp := moveOk_sp hmv
  have hkd := moveOk_kd hmv
  have hM := apply_mv hsp hkd hA
  have hw : kd = 10 → 1 ≤ mw ∧ mw ≤ 9 := fun h => by subst h; exact move_why hmv
  have hG := keeps hg hsp hw hM
  have hs7 : s ≠ 7 := by
    have := fits_st hG.fits
    omega
  exact ⟨s, w, f, p, hR, good_may hm h7 hs7 hG, hs7, free_keep hJ hM h3 h12 h13, rank_less hg hsp hkd h3 h13 hA, hpl⟩
end Go.Proofs.YtknoielhkilkpaaDoor.A
/- Equations of the walk. -/
open Go Go.AM Go.Proofs
namespace Go.Proofs.YtknoielhkilkpaaDoor.A
theorem e8 (m n : Nat) (rt nn st wy : Int) (n1 n2 n3 fc : Bool) (hops steps parts : List D) (nm : List UInt8) : Tree.out (enterM E21 (callN E21 (m+40)) n c8 [.d (sagaD rt nn st wy n1 n2 n3 fc hops steps parts nm)] []) = bif !few hops steps parts then some [D.bool true] else bif decide (List.length steps ≤ (1000000 : Nat)) then bif decide (List.length parts ≤ (1000000 : Nat)) then bif (bif mayOk rt nn st wy fc hops steps parts nm then (0 : Int) else (230 : Int)) != (0 : Int) then some [D.bool true] else bif st == (5 : Int) then some [D.bool true] else Tree.out (resume E21 (callN E21 (m+40)) n n (0 : Nat) c8 { fr := frame 91 [(1, V.ptr 128 0), (3, V.d (D.int .i64 0))], ob := [(128, Obj.box [V.d (D.int .i64 rt), V.d (D.int .i64 nn), V.d (D.sl partSh n1 hops), V.d (D.str nm), V.d (D.sl stepSh n2 steps), V.d (D.int .i64 st), V.d (D.int .i64 wy), V.d (D.sl partSh n3 parts), V.d (D.bool fc)])] }) else none else none := by kernel_rfl
def s8a (rt nn st wy : Int) (n1 n2 n3 fc : Bool) (hops steps parts : List D) (nm : List UInt8) (i : Int) : St := { fr := frame 91 [(1, V.ptr 128 0), (3, V.d (D.int .i64 i))], ob := [(128, .box [V.d (D.int .i64 rt), V.d (D.int .i64 nn), V.d (D.sl hopSh n1 hops), V.d (D.str nm), V.d (D.sl stepSh n2 steps), V.d (D.int .i64 st), V.d (D.int .i64 wy), V.d (D.sl partSh n3 parts), V.d (D.bool fc)])] }
theorem l8a (m n j : Nat) (rt nn st wy : Int) (n1 n2 n3 fc : Bool) (hops steps parts : List D) (nm : List UInt8) (i : Int) : Tree.out (resume E21 (callN E21 (m+40)) n (j+1) 0 c8 (s8a rt nn st wy n1 n2 n3 fc hops steps parts nm i)) = bif decide (i < (↑(List.length parts) : Int)) then bif st == (4 : Int) then bif decide ((0 : Int) ≤ i ∧ i < (↑(List.length steps) : Int)) then bif fs 4 (List.getD steps (Int.toNat i) D.nilp) == [] then bif decide ((0 : Int) ≤ i ∧ i < (↑(List.length parts) : Int)) then bif fi 1 (List.getD parts (Int.toNat i) D.nilp) == (5 : Int) then some [D.bool true] else Tree.out (resume E21 (callN E21 (m+40)) n j (0 : Nat) c8 { fr := frame 91 [(1, V.ptr 128 0), (3, V.d (D.int .i64 (IntKind.wrap .i64 (i + (1 : Int)))))], ob := [(128, Obj.box [V.d (D.int .i64 rt), V.d (D.int .i64 nn), V.d (D.sl partSh n1 hops), V.d (D.str nm), V.d (D.sl stepSh n2 steps), V.d (D.int .i64 st), V.d (D.int .i64 wy), V.d (D.sl partSh n3 parts), V.d (D.bool fc)])] }) else none else Tree.out (resume E21 (callN E21 (m+40)) n j (0 : Nat) c8 { fr := frame 91 [(1, V.ptr 128 0), (3, V.d (D.int .i64 (IntKind.wrap .i64 (i + (1 : Int)))))], ob := [(128, Obj.box [V.d (D.int .i64 rt), V.d (D.int .i64 nn), V.d (D.sl partSh n1 hops), V.d (D.str nm), V.d (D.sl stepSh n2 steps), V.d (D.int .i64 st), V.d (D.int .i64 wy), V.d (D.sl partSh n3 parts), V.d (D.bool fc)])] }) else none else Tree.out (resume E21 (callN E21 (m+40)) n j (0 : Nat) c8 { fr := frame 91 [(1, V.ptr 128 0), (3, V.d (D.int .i64 (IntKind.wrap .i64 (i + (1 : Int)))))], ob := [(128, Obj.box [V.d (D.int .i64 rt), V.d (D.int .i64 nn), V.d (D.sl partSh n1 hops), V.d (D.str nm), V.d (D.sl stepSh n2 steps), V.d (D.int .i64 st), V.d (D.int .i64 wy), V.d (D.sl partSh n3 parts), V.d (D.bool fc)])] }) else bif decide (List.length steps ≤ (1000000 : Nat)) then bif decide (List.length parts ≤ (1000000 : Nat)) then Tree.out (resume E21 (callN E21 (m+40)) n n (1 : Nat) c8 { fr := frame 91 [(4, V.d (D.int .i64 (rankR rt nn st wy fc hops steps parts nm))), (5, V.ptr 384 0), (6, V.d (D.int .i64 0))], ob := [(128, Obj.box [V.d (D.int .i64 rt), V.d (D.int .i64 nn), V.d (D.sl partSh n1 hops), V.d (D.str nm), V.d (D.sl stepSh n2 steps), V.d (D.int .i64 st), V.d (D.int .i64 wy), V.d (D.sl partSh n3 parts), V.d (D.bool fc)]), (384, Obj.box [V.d (D.int .i64 rt), V.d (D.int .i64 nn), V.d (D.sl partSh n1 hops), V.d (D.str nm), V.d (D.sl stepSh n2 steps), V.d (D.int .i64 st), V.d (D.int .i64 wy), V.d (D.sl partSh n3 parts), V.d (D.bool fc)])] }) else none else none := by kernel_rfl
def s8b (rt nn st wy : Int) (n1 n2 n3 fc : Bool) (hops steps parts : List D) (nm : List UInt8) (q0 q1 q2 q3 q4 q5 q6 q7 q8 : D) (r i : Int) : St := { fr := frame 91 [(4, V.d (D.int .i64 r)), (5, V.ptr 384 0), (6, V.d (D.int .i64 i))], ob := [(128, .box [V.d q0, V.d q1, V.d q2, V.d q3, V.d q4, V.d q5, V.d q6, V.d q7, V.d q8]), (384, .box [V.d (D.int .i64 rt), V.d (D.int .i64 nn), V.d (D.sl hopSh n1 hops), V.d (D.str nm), V.d (D.sl stepSh n2 steps), V.d (D.int .i64 st), V.d (D.int .i64 wy), V.d (D.sl partSh n3 parts), V.d (D.bool fc)])] }
theorem l8b (m n j : Nat) (rt nn st wy : Int) (n1 n2 n3 fc : Bool) (hops steps parts : List D) (nm : List UInt8) (q0 q1 q2 q3 q4 q5 q6 q7 q8 : D) (r i : Int) : Tree.out (resume E21 (callN E21 (m+40)) n (j+1) 1 c8 (s8b rt nn st wy n1 n2 n3 fc hops steps parts nm q0 q1 q2 q3 q4 q5 q6 q7 q8 r i)) = bif decide (i ≤ r) then bif decide (List.length steps ≤ (1000000 : Nat)) then bif decide (List.length parts ≤ (1000000 : Nat)) then bif endR rt nn st wy fc hops steps parts nm then some [D.bool true] else bif decide (List.length steps ≤ (1000000 : Nat)) then bif decide (List.length parts ≤ (1000000 : Nat)) then bif decide (List.length hops ≤ (1000000 : Nat)) then bif !n1 || List.isEmpty hops then bif !nOk (nextR rt nn st wy fc hops steps parts nm) then bif decide (List.length parts ≤ (1000000 : Nat)) then bif decide (List.length steps ≤ (1000000 : Nat)) then bif decide (List.length parts ≤ List.length steps) then bif gd24 rt nn st wy n1 n2 n3 fc hops steps parts nm (Prod.fst (ansR st fc (curR rt nn st wy fc hops steps parts nm) parts steps)) hops then bif !Prod.snd (Prod.snd (ansR st fc (curR rt nn st wy fc hops steps parts nm) parts steps)) then some [D.bool false] else bif arE (appR rt nn st wy fc hops steps parts nm (Prod.fst (ansR st fc (curR rt nn st wy fc hops steps parts nm) parts steps)) rt nn (Prod.fst (Prod.snd (ansR st fc (curR rt nn st wy fc hops steps parts nm) parts steps))) (0 : Int) hops [] []) != (0 : Int) then some [D.bool false] else Tree.out (resume E21 (callN E21 (m+40)) n j (1 : Nat) c8 { fr := frame 91 [(4, V.d (D.int .i64 r)), (5, V.ptr 384 0), (6, V.d (D.int .i64 (IntKind.wrap .i64 (i + (1 : Int)))))], ob := [(128, Obj.box [V.d q0, V.d q1, V.d q2, V.d q3, V.d q4, V.d q5, V.d q6, V.d q7, V.d q8]), (384, Obj.box [V.d (D.int .i64 (bif arOk (appR rt nn st wy fc hops steps parts nm (Prod.fst (ansR st fc (curR rt nn st wy fc hops steps parts nm) parts steps)) rt nn (Prod.fst (Prod.snd (ansR st fc (curR rt nn st wy fc hops steps parts nm) parts steps))) (0 : Int) hops [] []) then rt else (0 : Int))), V.d (D.int .i64 (bif arOk (appR rt nn st wy fc hops steps parts nm (Prod.fst (ansR st fc (curR rt nn st wy fc hops steps parts nm) parts steps)) rt nn (Prod.fst (Prod.snd (ansR st fc (curR rt nn st wy fc hops steps parts nm) parts steps))) (0 : Int) hops [] []) then nn else (0 : Int))), V.d (D.sl partSh (bif arOk (appR rt nn st wy fc hops steps parts nm (Prod.fst (ansR st fc (curR rt nn st wy fc hops steps parts nm) parts steps)) rt nn (Prod.fst (Prod.snd (ansR st fc (curR rt nn st wy fc hops steps parts nm) parts steps))) (0 : Int) hops [] []) then n1 else true) (bif arOk (appR rt nn st wy fc hops steps parts nm (Prod.fst (ansR st fc (curR rt nn st wy fc hops steps parts nm) parts steps)) rt nn (Prod.fst (Prod.snd (ansR st fc (curR rt nn st wy fc hops steps parts nm) parts steps))) (0 : Int) hops [] []) then hops else [])), V.d (D.str (bif arOk (appR rt nn st wy fc hops steps parts nm (Prod.fst (ansR st fc (curR rt nn st wy fc hops steps parts nm) parts steps)) rt nn (Prod.fst (Prod.snd (ansR st fc (curR rt nn st wy fc hops steps parts nm) parts steps))) (0 : Int) hops [] []) then nm else [])), V.d (D.sl stepSh (!arOk (appR rt nn st wy fc hops steps parts nm (Prod.fst (ansR st fc (curR rt nn st wy fc hops steps parts nm) parts steps)) rt nn (Prod.fst (Prod.snd (ansR st fc (curR rt nn st wy fc hops steps parts nm) parts steps))) (0 : Int) hops [] [])) (bif arOk (appR rt nn st wy fc hops steps parts nm (Prod.fst (ansR st fc (curR rt nn st wy fc hops steps parts nm) parts steps)) rt nn (Prod.fst (Prod.snd (ansR st fc (curR rt nn st wy fc hops steps parts nm) parts steps))) (0 : Int) hops [] []) then steps else [])), V.d (D.int .i64 (arS (appR rt nn st wy fc hops steps parts nm (Prod.fst (ansR st fc (curR rt nn st wy fc hops steps parts nm) parts steps)) rt nn (Prod.fst (Prod.snd (ansR st fc (curR rt nn st wy fc hops steps parts nm) parts steps))) (0 : Int) hops [] []))), V.d (D.int .i64 (arW (appR rt nn st wy fc hops steps parts nm (Prod.fst (ansR st fc (curR rt nn st wy fc hops steps parts nm) parts steps)) rt nn (Prod.fst (Prod.snd (ansR st fc (curR rt nn st wy fc hops steps parts nm) parts steps))) (0 : Int) hops [] []))), V.d (D.sl partSh (!arOk (appR rt nn st wy fc hops steps parts nm (Prod.fst (ansR st fc (curR rt nn st wy fc hops steps parts nm) parts steps)) rt nn (Prod.fst (Prod.snd (ansR st fc (curR rt nn st wy fc hops steps parts nm) parts steps))) (0 : Int) hops [] [])) (arP (appR rt nn st wy fc hops steps parts nm (Prod.fst (ansR st fc (curR rt nn st wy fc hops steps parts nm) parts steps)) rt nn (Prod.fst (Prod.snd (ansR st fc (curR rt nn st wy fc hops steps parts nm) parts steps))) (0 : Int) hops [] []))), V.d (D.bool (arF (appR rt nn st wy fc hops steps parts nm (Prod.fst (ansR st fc (curR rt nn st wy fc hops steps parts nm) parts steps)) rt nn (Prod.fst (Prod.snd (ansR st fc (curR rt nn st wy fc hops steps parts nm) parts steps))) (0 : Int) hops [] [])))])] }) else none else none else none else none else bif gd24 rt nn st wy n1 n2 n3 fc hops steps parts nm (nK (nextR rt nn st wy fc hops steps parts nm)) (bif nOk (nextR rt nn st wy fc hops steps parts nm) then hops else []) then bif !nOk (nextR rt nn st wy fc hops steps parts nm) then some [D.bool false] else bif arE (appR rt nn st wy fc hops steps parts nm (nK (nextR rt nn st wy fc hops steps parts nm)) (bif nOk (nextR rt nn st wy fc hops steps parts nm) then rt else (0 : Int)) (bif nOk (nextR rt nn st wy fc hops steps parts nm) then nn else (0 : Int)) (nS (nextR rt nn st wy fc hops steps parts nm)) (nW (nextR rt nn st wy fc hops steps parts nm)) (bif nOk (nextR rt nn st wy fc hops steps parts nm) then hops else []) [] []) != (0 : Int) then some [D.bool false] else Tree.out (resume E21 (callN E21 (m+40)) n j (1 : Nat) c8 { fr := frame 91 [(4, V.d (D.int .i64 r)), (5, V.ptr 384 0), (6, V.d (D.int .i64 (IntKind.wrap .i64 (i + (1 : Int)))))], ob := [(128, Obj.box [V.d q0, V.d q1, V.d q2, V.d q3, V.d q4, V.d q5, V.d q6, V.d q7, V.d q8]), (384, Obj.box [V.d (D.int .i64 (bif arOk (appR rt nn st wy fc hops steps parts nm (nK (nextR rt nn st wy fc hops steps parts nm)) (bif nOk (nextR rt nn st wy fc hops steps parts nm) then rt else (0 : Int)) (bif nOk (nextR rt nn st wy fc hops steps parts nm) then nn else (0 : Int)) (nS (nextR rt nn st wy fc hops steps parts nm)) (nW (nextR rt nn st wy fc hops steps parts nm)) (bif nOk (nextR rt nn st wy fc hops steps parts nm) then hops else []) [] []) then rt else (0 : Int))), V.d (D.int .i64 (bif arOk (appR rt nn st wy fc hops steps parts nm (nK (nextR rt nn st wy fc hops steps parts nm)) (bif nOk (nextR rt nn st wy fc hops steps parts nm) then rt else (0 : Int)) (bif nOk (nextR rt nn st wy fc hops steps parts nm) then nn else (0 : Int)) (nS (nextR rt nn st wy fc hops steps parts nm)) (nW (nextR rt nn st wy fc hops steps parts nm)) (bif nOk (nextR rt nn st wy fc hops steps parts nm) then hops else []) [] []) then nn else (0 : Int))), V.d (D.sl partSh (bif arOk (appR rt nn st wy fc hops steps parts nm (nK (nextR rt nn st wy fc hops steps parts nm)) (bif nOk (nextR rt nn st wy fc hops steps parts nm) then rt else (0 : Int)) (bif nOk (nextR rt nn st wy fc hops steps parts nm) then nn else (0 : Int)) (nS (nextR rt nn st wy fc hops steps parts nm)) (nW (nextR rt nn st wy fc hops steps parts nm)) (bif nOk (nextR rt nn st wy fc hops steps parts nm) then hops else []) [] []) then n1 else true) (bif arOk (appR rt nn st wy fc hops steps parts nm (nK (nextR rt nn st wy fc hops steps parts nm)) (bif nOk (nextR rt nn st wy fc hops steps parts nm) then rt else (0 : Int)) (bif nOk (nextR rt nn st wy fc hops steps parts nm) then nn else (0 : Int)) (nS (nextR rt nn st wy fc hops steps parts nm)) (nW (nextR rt nn st wy fc hops steps parts nm)) (bif nOk (nextR rt nn st wy fc hops steps parts nm) then hops else []) [] []) then hops else [])), V.d (D.str (bif arOk (appR rt nn st wy fc hops steps parts nm (nK (nextR rt nn st wy fc hops steps parts nm)) (bif nOk (nextR rt nn st wy fc hops steps parts nm) then rt else (0 : Int)) (bif nOk (nextR rt nn st wy fc hops steps parts nm) then nn else (0 : Int)) (nS (nextR rt nn st wy fc hops steps parts nm)) (nW (nextR rt nn st wy fc hops steps parts nm)) (bif nOk (nextR rt nn st wy fc hops steps parts nm) then hops else []) [] []) then nm else [])), V.d (D.sl stepSh (!arOk (appR rt nn st wy fc hops steps parts nm (nK (nextR rt nn st wy fc hops steps parts nm)) (bif nOk (nextR rt nn st wy fc hops steps parts nm) then rt else (0 : Int)) (bif nOk (nextR rt nn st wy fc hops steps parts nm) then nn else (0 : Int)) (nS (nextR rt nn st wy fc hops steps parts nm)) (nW (nextR rt nn st wy fc hops steps parts nm)) (bif nOk (nextR rt nn st wy fc hops steps parts nm) then hops else []) [] [])) (bif arOk (appR rt nn st wy fc hops steps parts nm (nK (nextR rt nn st wy fc hops steps parts nm)) (bif nOk (nextR rt nn st wy fc hops steps parts nm) then rt else (0 : Int)) (bif nOk (nextR rt nn st wy fc hops steps parts nm) then nn else (0 : Int)) (nS (nextR rt nn st wy fc hops steps parts nm)) (nW (nextR rt nn st wy fc hops steps parts nm)) (bif nOk (nextR rt nn st wy fc hops steps parts nm) then hops else []) [] []) then steps else [])), V.d (D.int .i64 (arS (appR rt nn st wy fc hops steps parts nm (nK (nextR rt nn st wy fc hops steps parts nm)) (bif nOk (nextR rt nn st wy fc hops steps parts nm) then rt else (0 : Int)) (bif nOk (nextR rt nn st wy fc hops steps parts nm) then nn else (0 : Int)) (nS (nextR rt nn st wy fc hops steps parts nm)) (nW (nextR rt nn st wy fc hops steps parts nm)) (bif nOk (nextR rt nn st wy fc hops steps parts nm) then hops else []) [] []))), V.d (D.int .i64 (arW (appR rt nn st wy fc hops steps parts nm (nK (nextR rt nn st wy fc hops steps parts nm)) (bif nOk (nextR rt nn st wy fc hops steps parts nm) then rt else (0 : Int)) (bif nOk (nextR rt nn st wy fc hops steps parts nm) then nn else (0 : Int)) (nS (nextR rt nn st wy fc hops steps parts nm)) (nW (nextR rt nn st wy fc hops steps parts nm)) (bif nOk (nextR rt nn st wy fc hops steps parts nm) then hops else []) [] []))), V.d (D.sl partSh (!arOk (appR rt nn st wy fc hops steps parts nm (nK (nextR rt nn st wy fc hops steps parts nm)) (bif nOk (nextR rt nn st wy fc hops steps parts nm) then rt else (0 : Int)) (bif nOk (nextR rt nn st wy fc hops steps parts nm) then nn else (0 : Int)) (nS (nextR rt nn st wy fc hops steps parts nm)) (nW (nextR rt nn st wy fc hops steps parts nm)) (bif nOk (nextR rt nn st wy fc hops steps parts nm) then hops else []) [] [])) (arP (appR rt nn st wy fc hops steps parts nm (nK (nextR rt nn st wy fc hops steps parts nm)) (bif nOk (nextR rt nn st wy fc hops steps parts nm) then rt else (0 : Int)) (bif nOk (nextR rt nn st wy fc hops steps parts nm) then nn else (0 : Int)) (nS (nextR rt nn st wy fc hops steps parts nm)) (nW (nextR rt nn st wy fc hops steps parts nm)) (bif nOk (nextR rt nn st wy fc hops steps parts nm) then hops else []) [] []))), V.d (D.bool (arF (appR rt nn st wy fc hops steps parts nm (nK (nextR rt nn st wy fc hops steps parts nm)) (bif nOk (nextR rt nn st wy fc hops steps parts nm) then rt else (0 : Int)) (bif nOk (nextR rt nn st wy fc hops steps parts nm) then nn else (0 : Int)) (nS (nextR rt nn st wy fc hops steps parts nm)) (nW (nextR rt nn st wy fc hops steps parts nm)) (bif nOk (nextR rt nn st wy fc hops steps parts nm) then hops else []) [] [])))])] }) else none else none else none else none else none else none else none else some [D.bool false] := by kernel_rfl
end Go.Proofs.YtknoielhkilkpaaDoor.A
/- NextEnds: the walk and the law joined. -/
namespace Go.Proofs.YtknoielhkilkpaaDoor.A
open Go Go.AM
theorem loop8b (m n : Nat) (q0 q1 q2 q3 q4 q5 q6 q7 q8 : D) (rt nn : Int) (n1 : Bool) (hops steps : List D) (nm : List UInt8) (h1 : n1 = true → hops = []) (l1 : hops.length ≤ 1000000) (l2 : steps.length ≤ 1000000) (r : Int) (hr0 : 0 ≤ r) (hr : r ≤ 1000000) : ∀ (k j : Nat) (st wy : Int) (n2 n3 fc : Bool) (parts : List D) (i : Int), 0 ≤ i → i ≤ r → r - i = k → k < j →
    parts.length ≤ 1000000 → mayOk rt nn st wy fc hops steps parts nm = true → (st = 7 ∨ st ≠ 7 ∧ n2 = false ∧ n3 = false ∧ Free st parts steps ∧ rankV st parts ≤ k) →
    (resume E21 (callN E21 (m+40)) n j 1 c8 (s8b rt nn st wy n1 n2 n3 fc hops steps parts nm q0 q1 q2 q3 q4 q5 q6 q7 q8 r i)).out = some [.bool true] := by
  intro k
  induction k with
  | zero =>
    intro j st wy n2 n3 fc parts i hi hir hk hj l3 hm hcase
    cases j with
    | zero => omega
    | succ j =>
      rw [l8b]
      simp only [decide_eq_true hir, decide_eq_true l2, decide_eq_true l3, cond_true]
      have he : endR rt nn st wy fc hops steps parts nm = true := by
        unfold endR
        rw [hm]
        rcases hcase with rfl | ⟨h7, -, -, hJ, hrk⟩
        · rfl
        · cases he : endR0 st fc parts steps
          · exfalso
            have nx := nextR0_nx st hops parts steps
            cases hx : nextR0 st hops parts steps with
            | no =>
              rw [hx] at nx
              obtain ⟨kd, sp, -, hkd, ha⟩ := ans_made hm h7 hJ.1 he nx
              obtain ⟨s, w, f, p, -, -, -, -, h5, -⟩ := ends_turn hm h7 hJ (by omega) (by omega) (by omega) ha
              have := rankV_nonneg s p
              omega
            | mv kd sp mw =>
              rw [hx] at nx
              obtain ⟨-, h13, ha, -⟩ := next_made hm nx
              have h3 : kd ≠ 3 := by cases nx <;> decide
              have h12 : kd ≠ 12 := by
                intro e
                subst e
                cases nx with
                | jam hs hc hloc ht =>
                  subst hs
                  obtain ⟨hlt, -⟩ := undo_cur hc
                  have := tries_most (mayOk_good hm h7) hlt
                  have h9 := hJ.2 rfl _ hlt (show (fs 4 (steps.getD (cur 4 parts).toNat .nilp) == []) = true by rw [show fs 4 (steps.getD (cur 4 parts).toNat .nilp) = [] from hloc]; rfl)
                  have ht : 5 ≤ fi 1 (parts.getD (cur 4 parts).toNat .nilp) := ht
                  have h9 : fi 1 (parts.getD (cur 4 parts).toNat .nilp) ≠ 5 := h9
                  omega
              obtain ⟨s, w, f, p, -, -, -, -, h5, -⟩ := ends_turn hm h7 hJ h3 h12 h13 ha
              have := rankV_nonneg s p
              omega
          · rfl
      rw [he]
      rfl
  | succ k ih =>
    intro j st wy n2 n3 fc parts i hi hir hk hj l3 hm hcase
    cases j with
    | zero => omega
    | succ j =>
      have hwr : IntKind.wrap IntKind.i64 (i + 1) = i + 1 := wrap_i64 (by omega) (by omega)
      rw [l8b]
      simp only [decide_eq_true hir, decide_eq_true l1, decide_eq_true l2, decide_eq_true l3, cond_true, hwr, (show (!n1 || hops.isEmpty) = true by cases n1 with | false => rfl | true => rw [h1 rfl]; rfl)]
      rcases hcase with rfl | ⟨h7, rfl, rfl, hJ, hrk⟩
      · have he : endR rt nn 7 wy fc hops steps parts nm = true := by unfold endR; rw [hm]; rfl
        rw [he]
        rfl
      · cases he : endR0 st fc parts steps
        · have he' : endR rt nn st wy fc hops steps parts nm = false := by unfold endR; rw [hm]; exact he
          have hxx : nextR rt nn st wy fc hops steps parts nm = nextR0 st hops parts steps := by unfold nextR; rw [hm]; rfl
          have hcc : curR rt nn st wy fc hops steps parts nm = cur st parts := by unfold curR; rw [hm]; rfl
          have hgd : ∀ kd, gd24 rt nn st wy n1 false false fc hops steps parts nm kd hops = true := by
            intro kd
            unfold gd24
            rw [decide_eq_true l1, decide_eq_true l2, decide_eq_true l3, (show (!n1 || hops.isEmpty) = true by cases n1 with | false => rfl | true => rw [h1 rfl]; rfl)]
            simp
          have hlen := (mayOk_good hm h7).len
          have hps : decide (parts.length ≤ steps.length) = true := decide_eq_true (by omega)
          have nx := nextR0_nx st hops parts steps
          simp only [he', hxx, hcc, hps, cond_true, cond_false]
          cases hx : nextR0 st hops parts steps with
          | no =>
            rw [hx] at nx
            obtain ⟨kd, sp, hans, hkd, ha⟩ := ans_made hm h7 hJ.1 he nx
            obtain ⟨s, w, f, p, hR, hm', hs7, hJ', hlt, hpl⟩ := ends_turn hm h7 hJ (by omega) (by omega) (by omega) ha
            simp only [nOk, hans, hgd, hR, Bool.not_false, Bool.not_true, cond_true, cond_false, arE, bne_self_eq_false]
            exact ih j s w false false f p (i + 1) (by omega) (by have := rankV_nonneg s p; omega) (by omega) (by omega) (by omega) hm' (.inr ⟨hs7, rfl, rfl, hJ', by omega⟩)
          | mv kd sp mw =>
            rw [hx] at nx
            obtain ⟨-, h13, ha, -⟩ := next_made hm nx
            have h3 : kd ≠ 3 := by cases nx <;> decide
            have h12 : kd ≠ 12 := by
              intro e
              subst e
              cases nx with
              | jam hs hc hloc ht =>
                subst hs
                obtain ⟨hlt, -⟩ := undo_cur hc
                have := tries_most (mayOk_good hm h7) hlt
                have h9 := hJ.2 rfl _ hlt (show (fs 4 (steps.getD (cur 4 parts).toNat .nilp) == []) = true by rw [show fs 4 (steps.getD (cur 4 parts).toNat .nilp) = [] from hloc]; rfl)
                have ht : 5 ≤ fi 1 (parts.getD (cur 4 parts).toNat .nilp) := ht
                have h9 : fi 1 (parts.getD (cur 4 parts).toNat .nilp) ≠ 5 := h9
                omega
            obtain ⟨s, w, f, p, hR, hm', hs7, hJ', hlt, hpl⟩ := ends_turn hm h7 hJ h3 h12 h13 ha
            simp only [nOk, nK, nS, nW, hgd, hR, Bool.not_true, cond_true, cond_false, arE, bne_self_eq_false]
            exact ih j s w false false f p (i + 1) (by omega) (by have := rankV_nonneg s p; omega) (by omega) (by omega) (by omega) hm' (.inr ⟨hs7, rfl, rfl, hJ', by omega⟩)
        · have he' : endR rt nn st wy fc hops steps parts nm = true := by unfold endR; rw [hm]; exact he
          rw [he']
          rfl
theorem loop8a (m n : Nat) (rt nn st wy : Int) (n1 n2 n3 fc : Bool) (hops steps parts : List D) (nm : List UInt8) (l2 : steps.length ≤ 1000000) (l3 : parts.length ≤ 1000000) (hps : st = 4 → parts.length ≤ steps.length)
    (hX : (st = 4 → ∀ i, i < parts.length → loc steps i = true → trAt parts i ≠ 5) → (resume E21 (callN E21 (m+40)) n n 1 c8 (s8b rt nn st wy n1 n2 n3 fc hops steps parts nm (D.int .i64 rt) (D.int .i64 nn) (D.sl hopSh n1 hops) (D.str nm) (D.sl stepSh n2 steps) (D.int .i64 st) (D.int .i64 wy) (D.sl partSh n3 parts) (D.bool fc) (rankR rt nn st wy fc hops steps parts nm) 0)).out = some [.bool true]) :
    ∀ (k i j : Nat), i + k = parts.length → k < j → (st = 4 → ∀ x, x < i → loc steps x = true → trAt parts x ≠ 5) → (resume E21 (callN E21 (m+40)) n j 0 c8 (s8a rt nn st wy n1 n2 n3 fc hops steps parts nm (i : Nat))).out = some [.bool true] := by
  intro k
  induction k with
  | zero =>
    intro i j hi hj hb
    cases j with
    | zero => omega
    | succ j =>
      have : i = parts.length := by omega
      subst this
      rw [l8a]
      simp only [dec_end, cond_false, decide_eq_true l2, decide_eq_true l3, cond_true]
      exact hX hb
  | succ k ih =>
    intro i j hi hj hb
    cases j with
    | zero => omega
    | succ j =>
      have hlt : i < parts.length := by omega
      rw [l8a]
      simp only [Int.toNat_natCast, wrap_up hlt l3, dec_lt hlt, dec_ix hlt, cond_true]
      by_cases h4 : st = 4
      · have hd : decide ((0 : Int) ≤ (i : Int) ∧ (i : Int) < (steps.length : Int)) = true := dec_ix (by have := hps h4; omega)
        rw [hd]
        have e4 : (st == 4) = true := by simpa using h4
        simp only [e4, cond_true]
        cases hlo : (fs 4 (steps.getD i .nilp) == [])
        · exact ih (i + 1) j (by omega) (by omega) fun h x hx hl => by
            by_cases he : x = i
            · subst he
              have hl : (fs 4 (steps.getD x .nilp) == []) = true := hl
              rw [hlo] at hl; cases hl
            · exact hb h x (by omega) hl
        · cases ht : (fi 1 (parts.getD i .nilp) == 5)
          · exact ih (i + 1) j (by omega) (by omega) fun h x hx hl => by
              by_cases he : x = i
              · subst he
                have ht : ¬ fi 1 (parts.getD x .nilp) = 5 := by simpa using ht
                exact ht
              · exact hb h x (by omega) hl
          · rfl
      · rw [beqF h4]
        exact ih (i + 1) j (by omega) (by omega) fun h => (h4 h).elim
theorem ends (m n : Nat) (rt nn st wy : Int) (n1 n2 n3 fc : Bool) (hops steps parts : List D) (nm : List UInt8) (h1 : n1 = true → hops = []) (h2 : n2 = true → steps = []) (h3 : n3 = true → parts = []) (hn : 3000 ≤ n) :
    Tree.out (enterM E21 (callN E21 (m+40)) n c8 [.d (sagaD rt nn st wy n1 n2 n3 fc hops steps parts nm)] []) = some [.bool true] := by
  rw [e8]
  cases hf : few hops steps parts
  · rfl
  · unfold few at hf
    simp only [Bool.and_eq_true, decide_eq_true_eq] at hf
    obtain ⟨f1, f2, f3⟩ := hf
    have l1 : hops.length ≤ 1000000 := by omega
    have l2 : steps.length ≤ 1000000 := by omega
    have l3 : parts.length ≤ 1000000 := by omega
    simp only [decide_eq_true l2, decide_eq_true l3, Bool.not_true, cond_true, cond_false]
    cases hm : mayOk rt nn st wy fc hops steps parts nm
    · rfl
    · simp only [cond_true, bne_self_eq_false, cond_false]
      cases h5 : (st == 5)
      · have h5 : st ≠ 5 := by simpa using h5
        simp only [cond_false]
        refine loop8a m n rt nn st wy n1 n2 n3 fc hops steps parts nm l2 l3 (fun h4 => ?_) (fun hfree => ?_) parts.length 0 n (by omega) (by omega) (fun _ x hx => by omega)
        · have := (mayOk_good hm (by omega)).len
          omega
        · have hrank : rankR rt nn st wy fc hops steps parts nm = rankV st parts := by unfold rankR; rw [hm]; rfl
          have hr0 := rankV_nonneg st parts
          have hr1 : rankV st parts ≤ 2000 := by
            have g1 := wT_bounds st
            have g2 := sumW_le parts
            unfold rankV
            omega
          rw [hrank]
          refine loop8b m n _ _ _ _ _ _ _ _ _ rt nn n1 hops steps nm h1 l1 l2 (rankV st parts) hr0 (by omega) (rankV st parts).toNat n st wy n2 n3 fc parts 0 (by omega) hr0 (by omega) (by omega) l3 hm ?_
          by_cases h7 : st = 7
          · exact .inl h7
          · have hg := mayOk_good hm h7
            have hp2 := hg.pos
            have hp3 := hg.len
            refine .inr ⟨h7, ?_, ?_, ⟨h5, hfree⟩, by omega⟩
            · cases n2 with
              | false => rfl
              | true => rw [h2 rfl] at hp2; simp at hp2
            · cases n3 with
              | false => rfl
              | true => rw [h3 rfl] at hp3; simp only [List.length_nil] at hp3; omega
      · rfl
end Go.Proofs.YtknoielhkilkpaaDoor.A
