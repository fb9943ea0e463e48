/- Equations of the walk. -/
import Derived.Test.YtknoielhkilkpaaDoorHd
import Derived.Test.YtknoielhkilkpaaDoorGc
import Derived.KernelRfl

open Go Go.AM Go.Proofs
namespace Go.Proofs.YtknoielhkilkpaaDoor.A
theorem e6 (m n : Nat) (rt nn st wy : Int) (n1 n2 n3 fc : Bool) (hops steps parts : List D) (nm : List UInt8) : Tree.out (enterM E19 (callN E19 (m+40)) n c6 [.d (sagaD rt nn st wy n1 n2 n3 fc hops steps parts nm)] []) = bif !few hops steps parts then some [D.bool true] else bif decide (List.length steps ≤ (1000000 : Nat)) then bif decide (List.length parts ≤ (1000000 : Nat)) then bif decide (List.length hops ≤ (1000000 : Nat)) then bif !n1 || List.isEmpty hops then bif !nOk (nextR rt nn st wy fc hops steps parts nm) then bif decide (List.length steps ≤ (1000000 : Nat)) then bif decide (List.length parts ≤ (1000000 : Nat)) then bif (bif mayOk rt nn st wy fc hops steps parts nm then (0 : Int) else (230 : Int)) != (0 : Int) then some [D.bool true] else bif st != (1 : Int) then bif st != (4 : Int) then some [D.bool true] else bif decide (List.length steps ≤ (1000000 : Nat)) then bif decide (List.length parts ≤ (1000000 : Nat)) then bif decide ((0 : Int) ≤ curR rt nn st wy fc hops steps parts nm ∧ curR rt nn st wy fc hops steps parts nm < (↑(List.length parts) : Int)) then bif fi 0 (List.getD parts (Int.toNat (curR rt nn st wy fc hops steps parts nm)) D.nilp) == (1 : Int) then some [D.bool true] else bif decide (List.length steps ≤ (1000000 : Nat)) then bif decide (List.length parts ≤ (1000000 : Nat)) then bif decide ((0 : Int) ≤ curR rt nn st wy fc hops steps parts nm ∧ curR rt nn st wy fc hops steps parts nm < (↑(List.length parts) : Int)) then bif fi 0 (List.getD parts (Int.toNat (curR rt nn st wy fc hops steps parts nm)) D.nilp) == (2 : Int) then some [D.bool true] else some [D.bool false] else none else none else none else none else none else none else bif decide (List.length steps ≤ (1000000 : Nat)) then bif decide (List.length parts ≤ (1000000 : Nat)) then bif decide ((0 : Int) ≤ curR rt nn st wy fc hops steps parts nm ∧ curR rt nn st wy fc hops steps parts nm < (↑(List.length parts) : Int)) then bif fi 0 (List.getD parts (Int.toNat (curR rt nn st wy fc hops steps parts nm)) D.nilp) == (1 : Int) then some [D.bool true] else bif decide (List.length steps ≤ (1000000 : Nat)) then bif decide (List.length parts ≤ (1000000 : Nat)) then bif decide ((0 : Int) ≤ curR rt nn st wy fc hops steps parts nm ∧ curR rt nn st wy fc hops steps parts nm < (↑(List.length parts) : Int)) then bif fi 0 (List.getD parts (Int.toNat (curR rt nn st wy fc hops steps parts nm)) D.nilp) == (2 : Int) then some [D.bool true] else some [D.bool false] else none else none else none else none else none else none else none else none else bif gd24 rt nn st wy n1 n2 n3 fc hops steps parts nm (nK (nextR rt nn st wy fc hops steps parts nm)) (bif nOk (nextR rt nn st wy fc hops steps parts nm) then hops else []) then bif arE (appR rt nn st wy fc hops steps parts nm (nK (nextR rt nn st wy fc hops steps parts nm)) (bif nOk (nextR rt nn st wy fc hops steps parts nm) then rt else (0 : Int)) (bif nOk (nextR rt nn st wy fc hops steps parts nm) then nn else (0 : Int)) (nS (nextR rt nn st wy fc hops steps parts nm)) (nW (nextR rt nn st wy fc hops steps parts nm)) (bif nOk (nextR rt nn st wy fc hops steps parts nm) then hops else []) [] []) != (0 : Int) then some [D.bool false] else bif nK (nextR rt nn st wy fc hops steps parts nm) != (4 : Int) then bif nK (nextR rt nn st wy fc hops steps parts nm) != (11 : Int) then some [D.bool true] else bif gd24 rt nn st wy n1 n2 n3 fc hops steps parts nm (3 : Int) hops then bif arE (appR rt nn st wy fc hops steps parts nm (3 : Int) rt nn (nS (nextR rt nn st wy fc hops steps parts nm)) (0 : Int) hops [] []) == (0 : Int) then some [D.bool true] else some [D.bool false] else none else bif gd24 rt nn st wy n1 n2 n3 fc hops steps parts nm (3 : Int) hops then bif arE (appR rt nn st wy fc hops steps parts nm (3 : Int) rt nn (nS (nextR rt nn st wy fc hops steps parts nm)) (0 : Int) hops [] []) == (0 : Int) then some [D.bool true] else some [D.bool false] else none else none else none else none else none else none := by kernel_rfl
end Go.Proofs.YtknoielhkilkpaaDoor.A
/- NextGoes: the plain law. -/
namespace Go.Proofs.YtknoielhkilkpaaDoor.A
open Go Go.AM
abbrev ps (parts : List D) (c : Int) : Int := fi 0 (parts.getD c.toNat .nilp)
abbrev tr (parts : List D) (c : Int) : Int := fi 1 (parts.getD c.toNat .nilp)
abbrev sub (steps : List D) (c : Int) : List UInt8 := fs 4 (steps.getD c.toNat .nilp)
abbrev mx (steps : List D) (c : Int) : Int := fi 5 (steps.getD c.toNat .nilp)
/-- what a saga does by itself, told one by one -/
inductive Nx (st : Int) (hops parts steps : List D) : NR → Prop where
  | gone (hs : st = 1 ∨ st = 2) (hg : 0 ≤ idxOf isGone parts) : Nx st hops parts steps (.mv 10 0 5)
  | hold (hs : st = 1) (hc : cur st parts < 0) (hh : 0 < hops.length) (hg : idxOf isGone parts < 0) : Nx st hops parts steps (.mv 8 0 0)
  | commit (hs : st = 1) (hc : cur st parts < 0) (hh : hops.length = 0) (hg : idxOf isGone parts < 0) : Nx st hops parts steps (.mv 9 0 0)
  | ask (hs : st = 1) (hc : 0 ≤ cur st parts) (ha : sub steps (cur st parts) ≠ []) (h0 : ps parts (cur st parts) = 0) (hg : idxOf isGone parts < 0) : Nx st hops parts steps (.mv 5 (cur st parts) 0)
  | tired (hs : st = 1) (hc : 0 ≤ cur st parts) (ha : sub steps (cur st parts) = []) (ht : mx steps (cur st parts) ≤ tr parts (cur st parts)) (hg : idxOf isGone parts < 0) : Nx st hops parts steps (.mv 10 0 2)
  | does (hs : st = 1) (hc : 0 ≤ cur st parts) (ha : sub steps (cur st parts) = []) (ht : tr parts (cur st parts) < mx steps (cur st parts)) (hg : idxOf isGone parts < 0) : Nx st hops parts steps (.mv 4 (cur st parts) 0)
  | ends (hs : st = 4) (hc : cur st parts < 0) : Nx st hops parts steps (.mv 14 0 0)
  | jam (hs : st = 4) (hc : 0 ≤ cur st parts) (ha : sub steps (cur st parts) = []) (ht : 5 ≤ tr parts (cur st parts)) : Nx st hops parts steps (.mv 12 (cur st parts) 0)
  | undo (hs : st = 4) (hc : 0 ≤ cur st parts) (ha : sub steps (cur st parts) = []) (ht : tr parts (cur st parts) < 5) : Nx st hops parts steps (.mv 11 (cur st parts) 0)
  | asked (hs : st = 1) (hc : 0 ≤ cur st parts) (ha : sub steps (cur st parts) ≠ []) (h0 : ps parts (cur st parts) ≠ 0) (hg : idxOf isGone parts < 0) : Nx st hops parts steps .no
  | waits (hs : st = 4) (hc : 0 ≤ cur st parts) (ha : sub steps (cur st parts) ≠ []) : Nx st hops parts steps .no
  | held (hs : st = 2) (hg : idxOf isGone parts < 0) : Nx st hops parts steps .no
  | still (h1 : st ≠ 1) (h2 : st ≠ 2) (h4 : st ≠ 4) : Nx st hops parts steps .no
theorem beqF {x y : Int} (h : x ≠ y) : (x == y) = false := by simpa using h
theorem nextR0_nx (st : Int) (hops parts steps : List D) : Nx st hops parts steps (nextR0 st hops parts steps) := by
  have hsub : ∀ l : List UInt8, (l == []) = true → l = [] := fun l h => by cases l <;> simp_all
  have hsub' : ∀ l : List UInt8, (l == []) = false → l ≠ [] := fun l h => by cases l <;> simp_all
  unfold nextR0
  by_cases h1 : st = 1
  · subst h1
    have e1 : ((1 : Int) == 1) = true := rfl
    by_cases hg : 0 ≤ idxOf isGone parts
    · simp only [decide_eq_true hg, e1, cond_true]
      exact .gone (.inl rfl) hg
    · have hg' : idxOf isGone parts < 0 := by omega
      simp only [decide_eq_false hg, e1, cond_true, cond_false]
      by_cases hc : cur 1 parts < 0
      · simp only [decide_eq_true hc, cond_true]
        by_cases hh : (0 : Int) < hops.length
        · simp only [decide_eq_true hh, cond_true]
          exact .hold rfl hc (by omega) hg'
        · simp only [decide_eq_false hh, cond_false]
          exact .commit rfl hc (by omega) hg'
      · have hc' : 0 ≤ cur 1 parts := by omega
        simp only [decide_eq_false hc, cond_false]
        cases ha : (fs 4 (steps.getD (cur 1 parts).toNat .nilp) == [])
        · simp only [Bool.not_false, cond_true]
          cases h0 : (fi 0 (parts.getD (cur 1 parts).toNat .nilp) == 0)
          · exact .asked rfl hc' (hsub' _ ha) (beq_eq_false_iff_ne.1 h0) hg'
          · exact .ask rfl hc' (hsub' _ ha) (beq_iff_eq.1 h0) hg'
        · simp only [Bool.not_true, cond_false]
          by_cases ht : fi 5 (steps.getD (cur 1 parts).toNat .nilp) ≤ fi 1 (parts.getD (cur 1 parts).toNat .nilp)
          · simp only [decide_eq_true ht, cond_true]
            exact .tired rfl hc' (hsub _ ha) ht hg'
          · simp only [decide_eq_false ht, cond_false]
            exact .does rfl hc' (hsub _ ha) (Int.not_le.1 ht) hg'
  · by_cases h2 : st = 2
    · subst h2
      have e1 : ((2 : Int) == 1) = false := rfl
      have e2 : ((2 : Int) == 2) = true := rfl
      have e4 : ((2 : Int) == 4) = false := rfl
      by_cases hg : 0 ≤ idxOf isGone parts
      · simp only [decide_eq_true hg, e1, e2, cond_true, cond_false]
        exact .gone (.inr rfl) hg
      · simp only [decide_eq_false hg, e1, e4, cond_false]
        exact .held rfl (by omega)
    · by_cases h4 : st = 4
      · subst h4
        have e1 : ((4 : Int) == 1) = false := rfl
        have e2 : ((4 : Int) == 2) = false := rfl
        have e4 : ((4 : Int) == 4) = true := rfl
        have : ∀ x : NR, (bif decide (0 ≤ idxOf isGone parts) then x else x) = x := fun x => cself _ x
        simp only [e1, e2, e4, cond_true, cond_false, cself]
        by_cases hc : cur 4 parts < 0
        · simp only [decide_eq_true hc, cond_true]
          exact .ends rfl hc
        · have hc' : 0 ≤ cur 4 parts := by omega
          simp only [decide_eq_false hc, cond_false]
          cases ha : (fs 4 (steps.getD (cur 4 parts).toNat .nilp) == [])
          · exact .waits rfl hc' (hsub' _ ha)
          · simp only [Bool.not_true, cond_false]
            by_cases ht : 5 ≤ fi 1 (parts.getD (cur 4 parts).toNat .nilp)
            · simp only [decide_eq_true ht, cond_true]
              exact .jam rfl hc' (hsub _ ha) ht
            · simp only [decide_eq_false ht, cond_false]
              exact .undo rfl hc' (hsub _ ha) (Int.not_le.1 ht)
      · simp only [beqF h1, beqF h2, beqF h4, cond_false, cself]
        exact .still h1 h2 h4
theorem scan_first {α : Type} (p : Nat → Bool) (hit : Nat → α) (fin : α) (c : Nat) : ∀ k i, i ≤ c → c < i + k → (∀ j, i ≤ j → j < c → p j = false) → p c = true → scan p hit fin k i = hit c
  | 0, i, h1, h2, _, _ => by omega
  | k + 1, i, h1, h2, h3, h4 => by
    simp only [scan]
    by_cases he : i = c
    · subst he
      rw [h4]
      rfl
    · rw [h3 i (by omega) (by omega)]
      exact scan_first p hit fin c k (i + 1) (by omega) (by omega) (fun j h5 h6 => h3 j (by omega) h6) h4
/-- the current step of a running saga -/
theorem run_cur {wy : Int} {fc : Bool} {hops parts steps : List D} (hg : Good 1 wy fc hops steps parts) (hc : 0 ≤ cur 1 parts) :
    (cur 1 parts).toNat < parts.length ∧ (ps parts (cur 1 parts) = 0 ∨ sub steps (cur 1 parts) ≠ [] ∧ ps parts (cur 1 parts) = 1 ∨ sub steps (cur 1 parts) ≠ [] ∧ ps parts (cur 1 parts) = 3) := by
  have hcur : cur 1 parts = idxOf notDone parts := rfl
  rw [hcur] at hc ⊢
  obtain ⟨h1, h2, h3⟩ := idxOf_pos hc
  refine ⟨h1, ?_⟩
  unfold ps sub
  generalize (idxOf notDone parts).toNat = c at *
  have hf := hg.fits
  have hr : runOk parts steps = true := by
    unfold fitsOk at hf
    cases fc <;> cases h : (wy == 0) <;> simp [h] at hf
    exact hf
  have hne : fi 0 (parts.getD c .nilp) ≠ 2 := by simpa [notDone] using h2
  cases hgot : p80 (parts.getD c .nilp) (steps.getD c .nilp)
  · have hsc : runOk parts steps = tailOk c parts steps := by
      unfold runOk
      refine scan_first _ _ _ c _ _ (by omega) (by omega) (fun j _ hj => ?_) (by rw [hgot]; rfl)
      have := h3 j hj
      simp only [notDone, bne_eq_false_iff_eq] at this
      simp only [p80, this, beq_self_eq_true, Bool.true_or, Bool.not_true]
    rw [hsc] at hr
    unfold tailOk at hr
    rw [scan_all (fun i => p109 ((i : Int) == (c : Int)) (parts.getD i .nilp) (steps.getD i .nilp))] at hr
    have := hr c (by omega) (by omega)
    simp only [p109, beq_self_eq_true, Bool.true_and, Bool.or_eq_true, Bool.and_eq_true, beq_iff_eq, asksAt, Bool.not_eq_true', beq_eq_false_iff_ne] at this
    rcases this with (h | ⟨ha, h⟩) | ⟨h, _⟩
    · exact .inl h
    · exact .inr (.inl ⟨ha, h⟩)
    · exact .inl h
  · simp only [p80, Bool.or_eq_true, Bool.and_eq_true, beq_iff_eq, asksAt, Bool.not_eq_true', beq_eq_false_iff_ne] at hgot
    rcases hgot with h | ⟨ha, h⟩
    · exact (hne h).elim
    · exact .inr (.inr ⟨ha, h⟩)
/-- the current step of a saga that goes back -/
theorem undo_cur {parts : List D} (hc : 0 ≤ cur 4 parts) : (cur 4 parts).toNat < parts.length ∧ (ps parts (cur 4 parts) = 1 ∨ ps parts (cur 4 parts) = 2) := by
  have hcur : cur 4 parts = lastFrom (fun i => isOpen (parts.getD i .nilp)) parts.length := rfl
  rw [hcur] at hc ⊢
  obtain ⟨h1, h2, _⟩ := lastFrom_pos _ _ hc
  refine ⟨h1, ?_⟩
  unfold ps
  generalize (lastFrom (fun i => isOpen (parts.getD i .nilp)) parts.length).toNat = c at *
  simp only [isOpen, Bool.or_false, Bool.or_eq_true, beq_iff_eq] at h2
  exact h2
/-! what the moves make -/
theorem all_done {wy : Int} {fc : Bool} {hops parts steps : List D} (_hg : Good 1 wy fc hops steps parts) (hc : cur 1 parts < 0) : allI p135 parts.length parts steps = true := by
  have hcur : cur 1 parts = idxOf notDone parts := rfl
  rw [hcur] at hc
  rw [allI_iff]
  intro i hi
  have := idxOf_neg hc _ (getD_mem hi)
  simp only [notDone, bne_eq_false_iff_eq] at this
  simp only [p135, this, beq_self_eq_true]
theorem some_gone {parts steps : List D} (h : 0 ≤ idxOf isGone parts) : allI (p97 [.int .i64 3]) parts.length parts steps = false := by
  obtain ⟨h1, h2, _⟩ := idxOf_pos h
  cases ha : allI (p97 [.int .i64 3]) parts.length parts steps
  · rfl
  · rw [allI_iff] at ha
    have := ha _ h1
    simp only [isGone, beq_iff_eq] at h2
    simp only [p97, List.any_cons, List.any_nil, hasI_int, h2, beq_self_eq_true, Bool.true_or, Bool.not_true] at this
    cases this
theorem tries_most {st wy : Int} {fc : Bool} {hops steps parts : List D} (hg : Good st wy fc hops steps parts) {c : Nat} (hc : c < parts.length) : 0 ≤ fi 1 (parts.getD c .nilp) ∧ fi 1 (parts.getD c .nilp) ≤ 5 := by
  have := hg.sane c hc
  simp only [p47, Bool.and_eq_true, decide_eq_true_eq] at this
  exact ⟨this.2.2.2.1, this.2.2.2.2⟩
/-- a move that a saga makes by itself can be made -/
theorem next_made {rt nn st wy : Int} {fc : Bool} {hops steps parts : List D} {nm : List UInt8} {kd sp mw : Int} (hmay : mayOk rt nn st wy fc hops steps parts nm = true) (h : Nx st hops parts steps (.mv kd sp mw)) :
    st ≠ 7 ∧ kd ≠ 13 ∧ arE (appR rt nn st wy fc hops steps parts nm kd rt nn sp mw hops [] []) = 0 ∧ (kd = 4 ∨ kd = 11 → arE (appR rt nn st wy fc hops steps parts nm 3 rt nn sp 0 hops [] []) = 0) := by
  have hid := mayOk_id hmay
  have h7 : st ≠ 7 := by cases h <;> omega
  have hg := mayOk_good hmay h7
  refine ⟨h7, by cases h <;> decide, ?_⟩
  have hlen := hg.len
  have hfew := hg.few
  cases h with
  | gone hs hgo =>
    rw [appR_move hmay h7 (move_back hid (by decide) (by decide))]
    refine ⟨?_, fun h => by rcases h with h | h <;> cases h⟩
    have ha := some_gone (steps := steps) hgo
    rcases hs with rfl | rfl
    · rfl
    · show arE (ap10 2 wy fc hops parts steps 0 5) = 0
      unfold ap10
      rw [ha]
      rfl
  | hold hs hc hh hgo =>
    rw [appR_move hmay h7 (move_bare hid (.inl rfl))]
    refine ⟨?_, fun h => by rcases h with h | h <;> cases h⟩
    subst hs
    have hd := all_done hg hc
    have hh' : decide (0 < (hops.length : Int)) = true := decide_eq_true (by omega)
    show arE (ap8 1 wy fc hops parts steps 0 0) = 0
    unfold ap8
    rw [hd, hh']
    rfl
  | commit hs hc hh hgo =>
    rw [appR_move hmay h7 (move_bare hid (.inr (.inl rfl)))]
    refine ⟨?_, fun h => by rcases h with h | h <;> cases h⟩
    subst hs
    have hd := all_done hg hc
    have hh' : decide (0 < (hops.length : Int)) = false := decide_eq_false (by omega)
    show arE (ap9 1 wy fc hops parts steps 0 0) = 0
    unfold ap9
    rw [hd, hh']
    rfl
  | ask hs hc ha h0 hgo =>
    subst hs
    obtain ⟨hlt, -⟩ := run_cur hg hc
    have hn : ¬ (parts.length : Int) ≤ cur 1 parts := by omega
    have hsub : (fs 4 (steps.getD (cur 1 parts).toNat .nilp) == []) = false := beq_eq_false_iff_ne.2 ha
    rw [appR_move hmay h7 (move_step hid (by omega) hc (by omega))]
    refine ⟨?_, fun h => by rcases h with h | h <;> cases h⟩
    show arE (ap5 1 wy fc hops parts steps (cur 1 parts) 0) = 0
    unfold ap5
    simp only [decide_eq_false hn, hsub, hasI_int, beq_self_eq_true, show fi 0 (parts.getD (cur 1 parts).toNat .nilp) = 0 from h0]
    rfl
  | tired hs hc ha ht hgo =>
    subst hs
    rw [appR_move hmay h7 (move_back hid (by decide) (by decide))]
    exact ⟨rfl, fun h => by rcases h with h | h <;> cases h⟩
  | does hs hc ha ht hgo =>
    subst hs
    obtain ⟨hlt, -⟩ := run_cur hg hc
    have hn : ¬ (parts.length : Int) ≤ cur 1 parts := by omega
    have hsub : (fs 4 (steps.getD (cur 1 parts).toNat .nilp) == []) = true := by rw [show fs 4 (steps.getD (cur 1 parts).toNat .nilp) = [] from ha]; rfl
    rw [appR_move hmay h7 (move_step hid (by omega) hc (by omega)), appR_move hmay h7 (move_step hid (by omega) hc (by omega))]
    refine ⟨?_, fun _ => ?_⟩
    · show arE (ap4 1 wy fc hops parts steps (cur 1 parts) 0) = 0
      unfold ap4
      simp only [decide_eq_false hn, hsub, beq_self_eq_true]
      rfl
    · show arE (ap3 1 wy fc hops parts steps (cur 1 parts) 0) = 0
      unfold ap3
      simp only [decide_eq_false hn, hsub, beq_self_eq_true, decide_eq_true (show fi 1 (parts.getD (cur 1 parts).toNat .nilp) < fi 5 (steps.getD (cur 1 parts).toNat .nilp) from ht)]
      rfl
  | ends hs hc =>
    subst hs
    rw [appR_move hmay h7 (move_bare hid (by omega))]
    refine ⟨?_, fun h => by rcases h with h | h <;> cases h⟩
    show arE (ap14 4 wy fc hops parts steps 0 0) = 0
    unfold ap14
    rw [decide_eq_true hc]
    rfl
  | jam hs hc ha ht =>
    subst hs
    obtain ⟨hlt, -⟩ := undo_cur hc
    have hn : ¬ (parts.length : Int) ≤ cur 4 parts := by omega
    have hsub : (fs 4 (steps.getD (cur 4 parts).toNat .nilp) == []) = true := by rw [show fs 4 (steps.getD (cur 4 parts).toNat .nilp) = [] from ha]; rfl
    have h5 : fi 1 (parts.getD (cur 4 parts).toNat .nilp) = 5 := by
      have := tries_most hg hlt
      have ht : 5 ≤ fi 1 (parts.getD (cur 4 parts).toNat .nilp) := ht
      omega
    rw [appR_move hmay h7 (move_step hid (by omega) hc (by omega))]
    refine ⟨?_, fun h => by rcases h with h | h <;> cases h⟩
    show arE (ap12 4 wy fc hops parts steps (cur 4 parts) 0) = 0
    unfold ap12
    simp only [decide_eq_false hn, hsub, beq_self_eq_true, h5]
    rfl
  | undo hs hc ha ht =>
    subst hs
    obtain ⟨hlt, -⟩ := undo_cur hc
    have hn : ¬ (parts.length : Int) ≤ cur 4 parts := by omega
    have hsub : (fs 4 (steps.getD (cur 4 parts).toNat .nilp) == []) = true := by rw [show fs 4 (steps.getD (cur 4 parts).toNat .nilp) = [] from ha]; rfl
    rw [appR_move hmay h7 (move_step hid (by omega) hc (by omega)), appR_move hmay h7 (move_step hid (by omega) hc (by omega))]
    refine ⟨?_, fun _ => ?_⟩
    · show arE (ap11 4 wy fc hops parts steps (cur 4 parts) 0) = 0
      unfold ap11
      simp only [decide_eq_false hn, hsub, beq_self_eq_true]
      rfl
    · show arE (ap3 4 wy fc hops parts steps (cur 4 parts) 0) = 0
      unfold ap3
      simp only [decide_eq_false hn, hsub, beq_self_eq_true, decide_eq_true (show fi 1 (parts.getD (cur 4 parts).toNat .nilp) < 5 from ht)]
      rfl
end Go.Proofs.YtknoielhkilkpaaDoor.A
/- Ranks: plain facts. -/
namespace Go.Proofs.YtknoielhkilkpaaDoor.A
open Go Go.AM
def wT (st : Int) : Int := bif decide (st < 0) then 0 else bif decide (8 ≤ st) then 0 else fi 0 (([.int .i64 0, .int .i64 6, .int .i64 5, .int .i64 1, .int .i64 4, .int .i64 3, .int .i64 1, .int .i64 0] : List D).getD st.toNat .nilp)
def wS (s : Int) : Int := bif decide (s < 0) then 0 else bif decide (5 ≤ s) then 0 else fi 0 (([.int .i64 4, .int .i64 3, .int .i64 2, .int .i64 1, .int .i64 1] : List D).getD s.toNat .nilp)
def sumW (l : List D) : Int := (l.map fun x => wS (fi 0 x)).sum
def rankV (st : Int) (parts : List D) : Int := 40 * wT st + sumW parts
def rankR (rt nn st wy : Int) (fc : Bool) (hops steps parts : List D) (nm : List UInt8) : Int := bif mayOk rt nn st wy fc hops steps parts nm then rankV st parts else 0
theorem wS_bounds (s : Int) : 0 ≤ wS s ∧ wS s ≤ 4 := by
  unfold wS
  by_cases h1 : s < 0
  · simp [h1]
  · by_cases h2 : 5 ≤ s
    · simp [h1, h2]
    · have : s = 0 ∨ s = 1 ∨ s = 2 ∨ s = 3 ∨ s = 4 := by omega
      rcases this with rfl | rfl | rfl | rfl | rfl <;> decide
theorem wT_bounds (s : Int) : 0 ≤ wT s ∧ wT s ≤ 6 := by
  unfold wT
  by_cases h1 : s < 0
  · simp [h1]
  · by_cases h2 : 8 ≤ s
    · simp [h1, h2]
    · have : s = 0 ∨ s = 1 ∨ s = 2 ∨ s = 3 ∨ s = 4 ∨ s = 5 ∨ s = 6 ∨ s = 7 := by omega
      rcases this with rfl | rfl | rfl | rfl | rfl | rfl | rfl | rfl <;> decide
theorem sumW_nonneg : ∀ l : List D, 0 ≤ sumW l
  | [] => by simp [sumW]
  | x :: l => by
    have h1 := sumW_nonneg l
    have h2 := wS_bounds (fi 0 x)
    unfold sumW at h1 ⊢
    simp only [List.map_cons, List.sum_cons]
    omega
theorem sumW_le : ∀ l : List D, sumW l ≤ 4 * l.length
  | [] => by simp [sumW]
  | x :: l => by
    have h1 := sumW_le l
    have h2 := wS_bounds (fi 0 x)
    unfold sumW at h1 ⊢
    simp only [List.map_cons, List.sum_cons, List.length_cons]
    omega
theorem sumW_set : ∀ (l : List D) (i : Nat) (x : D), i < l.length → sumW (l.set i x) = sumW l - wS (fi 0 (l.getD i .nilp)) + wS (fi 0 x)
  | [], i, x, h => by simp at h
  | y :: l, 0, x, _ => by
    unfold sumW
    simp only [List.set_cons_zero, List.map_cons, List.sum_cons, List.getD_cons_zero]
    omega
  | y :: l, i + 1, x, h => by
    have := sumW_set l i x (by simpa using h)
    unfold sumW at this ⊢
    simp only [List.set_cons_succ, List.map_cons, List.sum_cons, List.getD_cons_succ]
    omega
theorem getD_ge {l : List D} {i : Nat} (h : l.length ≤ i) : l.getD i .nilp = .nilp := by
  rw [List.getD_eq_getElem?_getD, List.getElem?_eq_none h]
  rfl
theorem set_ge {l : List D} {i : Nat} {x : D} (h : l.length ≤ i) : l.set i x = l := List.set_eq_of_length_le h
theorem foldI_le (f : Nat → List D → List D) (hf : ∀ i l, sumW (f i l) ≤ sumW l) : ∀ k i l, sumW (foldI f k i l) ≤ sumW l
  | 0, _, l => Int.le_refl _
  | k + 1, i, l => by
    simp only [foldI]
    have h1 := foldI_le f hf k (i + 1) (f i l)
    have h2 := hf i l
    omega
theorem foldI_eq (f : Nat → List D → List D) (hf : ∀ i l, sumW (f i l) = sumW l) : ∀ k i l, sumW (foldI f k i l) = sumW l
  | 0, _, l => rfl
  | k + 1, i, l => by
    simp only [foldI]
    rw [foldI_eq f hf k (i + 1) (f i l), hf i l]
theorem sum_own (v : Int) (hv : wS v ≤ 2) (parts steps : List D) : sumW (ownParts v parts steps) ≤ sumW parts := by
  refine foldI_le _ (fun i l => ?_) _ _ _
  unfold fOwn
  cases h1 : (fs 4 (steps.getD i .nilp) == [])
  · exact Int.le_refl _
  · cases h2 : (fi 0 (l.getD i .nilp) == 2)
    · exact Int.le_refl _
    · simp only [cond_true]
      by_cases hi : i < l.length
      · rw [sumW_set l i _ hi]
        have h2 : fi 0 (l.getD i .nilp) = 2 := by simpa using h2
        have h3 : fi 0 (D.agg [.int .i64 v, .int .i64 0]) = v := rfl
        rw [h2, h3]
        have : wS 2 = 2 := by decide
        omega
      · rw [set_ge (by omega)]
        exact Int.le_refl _
theorem sum_calm (parts : List D) : sumW (calmParts parts) = sumW parts := by
  refine foldI_eq _ (fun i l => ?_) _ _ _
  unfold fCalm
  by_cases hi : i < l.length
  · rw [sumW_set l i _ hi]
    have h3 : fi 0 (D.agg [.int .i64 (fi 0 (l.getD i .nilp)), .int .i64 0]) = fi 0 (l.getD i .nilp) := rfl
    rw [h3]
    omega
  · rw [set_ge (by omega)]
theorem nil_of_beq {l : List UInt8} (h : (l == []) = true) : l = [] := by cases l <;> simp_all
/-- a part's weight grows less -/
theorem sum_part {parts : List D} {c : Int} {s t : Int} (h0 : c.toNat < parts.length) (h : wS s < wS (fi 0 (parts.getD c.toNat .nilp))) : sumW (parts.set c.toNat (D.agg [.int .i64 s, .int .i64 t])) < sumW parts := by
  rw [sumW_set _ _ _ h0]
  have h3 : fi 0 (D.agg [.int .i64 s, .int .i64 t]) = s := rfl
  rw [h3]
  omega
theorem fits_st {st wy : Int} {fc : Bool} {hops parts steps : List D} (h : fitsOk st wy fc hops parts steps = true) : st = 1 ∨ st = 2 ∨ st = 3 ∨ st = 4 ∨ st = 5 ∨ st = 6 := by
  by_cases h1 : st = 1
  · exact .inl h1
  by_cases h2 : st = 2
  · exact .inr (.inl h2)
  by_cases h3 : st = 3
  · exact .inr (.inr (.inl h3))
  by_cases h4 : st = 4
  · exact .inr (.inr (.inr (.inl h4)))
  by_cases h5 : st = 5
  · exact .inr (.inr (.inr (.inr (.inl h5))))
  by_cases h6 : st = 6
  · exact .inr (.inr (.inr (.inr (.inr h6))))
  · unfold fitsOk at h
    simp only [beqF h1, beqF h2, beqF h3, beqF h4, beqF h5, beqF h6, cond_false] at h
    cases h
theorem hasI_or {p : D} {v : Int} : (hasI (fi 0 p) (D.int IntKind.i64 v) || false) = (fi 0 p == v) := by simp [hasI_int]
theorem hasI_or2 {p : D} {v u : Int} : (hasI (fi 0 p) (D.int IntKind.i64 v) || (hasI (fi 0 p) (D.int IntKind.i64 u) || false)) = (fi 0 p == v || fi 0 p == u) := by simp [hasI_int]
/-- a move that is made, but those of failing and of trying again, makes the rank less -/
theorem rank_less {st wy : Int} {fc : Bool} {hops steps parts : List D} {kd sp mw : Int} (hg : Good st wy fc hops steps parts) (hs0 : 0 ≤ sp) {s w : Int} {f : Bool} {p : List D} (hk : 1 ≤ kd ∧ kd ≤ 16) (h3 : kd ≠ 3) (h13 : kd ≠ 13)
    (h : applyR st wy fc hops parts steps kd sp mw = .good s w f p) : rankV s p < rankV st parts := by
  have hst := fits_st hg.fits
  have hkk : kd = 1 ∨ kd = 2 ∨ kd = 4 ∨ kd = 5 ∨ kd = 6 ∨ kd = 7 ∨ kd = 8 ∨ kd = 9 ∨ kd = 10 ∨ kd = 11 ∨ kd = 12 ∨ kd = 14 ∨ kd = 15 ∨ kd = 16 := by omega
  have hwt1 : wT 1 = 6 := by decide
  have hwt2 : wT 2 = 5 := by decide
  have hwt3 : wT 3 = 1 := by decide
  have hwt4 : wT 4 = 4 := by decide
  have hwt5 : wT 5 = 3 := by decide
  have hwt6 : wT 6 = 1 := by decide
  have ws0 : wS 0 = 4 := by decide
  have ws1 : wS 1 = 3 := by decide
  have ws2 : wS 2 = 2 := by decide
  have ws3 : wS 3 = 1 := by decide
  have ws4 : wS 4 = 1 := by decide
  have hp1 : parts.length = steps.length := hg.len
  have hcl : sp.toNat < parts.length ∨ (parts.length : Int) ≤ sp := by omega
  rcases hkk with rfl | rfl | rfl | rfl | rfl | rfl | rfl | rfl | rfl | rfl | rfl | rfl | rfl | rfl
  · have h : ap1 st wy fc hops parts steps sp mw = .good s w f p := h
    unfold ap1 at h
    cases e7 : (st == 7) <;> simp only [e7, cond_true, cond_false] at h <;> cases h
  · have h : ap2 st wy fc hops parts steps sp mw = .good s w f p := h
    unfold ap2 at h
    cases e7 : (st == 7) <;> simp only [e7, cond_true, cond_false] at h <;> cases h
  · -- do
    replace h : ap4 st wy fc hops parts steps sp mw = .good s w f p := h
    unfold ap4 at h
    cases e7 : (st == 7) <;> simp only [e7, cond_true, cond_false] at h
    · cases ep : decide ((parts.length : Int) ≤ sp) <;> simp only [ep, cond_true, cond_false] at h
      · cases ea : (fs 4 (steps.getD sp.toNat .nilp) == []) <;> simp only [ea, Bool.not_true, Bool.not_false, cond_true, cond_false, cself] at h
        · cases h
        · cases ec : (sp == cur st parts) <;> simp only [ec, cond_true, cond_false] at h
          · cases h
          · cases e1 : (st == 1) <;> simp only [e1, cond_true, cond_false] at h
            · cases h
            · obtain rfl : st = 1 := by simpa using e1
              obtain rfl : sp = cur 1 parts := by simpa using ec
              cases h
              obtain ⟨hlt, hc⟩ := run_cur hg hs0
              have hps : fi 0 (parts.getD (cur 1 parts).toNat .nilp) = 0 := by
                rcases hc with hc | hc | hc
                · exact hc
                · exact (hc.1 (nil_of_beq ea)).elim
                · exact (hc.1 (nil_of_beq ea)).elim
              have := sum_part (s := 2) (t := 0) hlt (by rw [hps, ws0, ws2]; decide)
              unfold rankV
              omega
      · cases h
    · cases h
  · -- ask
    replace h : ap5 st wy fc hops parts steps sp mw = .good s w f p := h
    unfold ap5 at h
    cases e7 : (st == 7) <;> simp only [e7, cond_true, cond_false] at h
    · cases ep : decide ((parts.length : Int) ≤ sp) <;> simp only [ep, cond_true, cond_false] at h
      · cases ea : (fs 4 (steps.getD sp.toNat .nilp) == []) <;> simp only [ea, Bool.not_true, Bool.not_false, cond_true, cond_false, cself] at h
        · cases e1 : (st == 1) <;> simp only [e1, cond_true, cond_false] at h
          · cases h
          · cases ec : (sp == cur st parts) <;> simp only [ec, cond_true, cond_false] at h
            · cases h
            · rw [hasI_or] at h
              cases es : (fi 0 (parts.getD sp.toNat .nilp) == 0) <;> simp only [es, cond_true, cond_false] at h
              · cases h
              · cases h
                have hlt : sp.toNat < parts.length := by have := of_decide_eq_false ep; omega
                have hps : fi 0 (parts.getD sp.toNat .nilp) = 0 := by simpa using es
                have := sum_part (s := 1) (t := fi 1 (parts.getD sp.toNat .nilp)) hlt (by rw [hps, ws0, ws1]; decide)
                unfold rankV
                omega
        · cases h
      · cases h
    · cases h
  · -- got
    replace h : ap6 st wy fc hops parts steps sp mw = .good s w f p := h
    unfold ap6 at h
    cases e7 : (st == 7) <;> simp only [e7, cond_true, cond_false] at h
    · cases ep : decide ((parts.length : Int) ≤ sp) <;> simp only [ep, cond_true, cond_false] at h
      · cases ea : (fs 4 (steps.getD sp.toNat .nilp) == []) <;> simp only [ea, Bool.not_true, Bool.not_false, cond_true, cond_false, cself] at h
        · cases e1 : (st == 1) <;> simp only [e1, cond_true, cond_false] at h
          · cases h
          · cases ec : (sp == cur st parts) <;> simp only [ec, cond_true, cond_false] at h
            · cases h
            · rw [hasI_or] at h
              cases es : (fi 0 (parts.getD sp.toNat .nilp) == 1) <;> simp only [es, cond_true, cond_false] at h
              · cases h
              · cases h
                have hlt : sp.toNat < parts.length := by have := of_decide_eq_false ep; omega
                have hps : fi 0 (parts.getD sp.toNat .nilp) = 1 := by simpa using es
                have := sum_part (s := 2) (t := fi 1 (parts.getD sp.toNat .nilp)) hlt (by rw [hps, ws1, ws2]; decide)
                unfold rankV
                omega
        · cases h
      · cases h
    · cases h
  · -- lost
    replace h : ap7 st wy fc hops parts steps sp mw = .good s w f p := h
    have key : ∀ {x : AR}, (bif fi 0 (parts.getD sp.toNat .nilp) == 1 || fi 0 (parts.getD sp.toNat .nilp) == 2 then AR.good st wy fc (parts.set sp.toNat (D.agg [.int .i64 3, .int .i64 (fi 1 (parts.getD sp.toNat .nilp))])) else .bad 210) = .good s w f p → sp.toNat < parts.length → rankV s p < rankV st parts := by
      intro _ h hlt
      cases es : (fi 0 (parts.getD sp.toNat .nilp) == 1 || fi 0 (parts.getD sp.toNat .nilp) == 2) <;> simp only [es, cond_true, cond_false] at h
      · cases h
      · cases h
        have hps : fi 0 (parts.getD sp.toNat .nilp) = 1 ∨ fi 0 (parts.getD sp.toNat .nilp) = 2 := by simpa using es
        have := sum_part (s := 3) (t := fi 1 (parts.getD sp.toNat .nilp)) hlt (by rcases hps with hps | hps <;> rw [hps] <;> simp only [ws1, ws2, ws3] <;> decide)
        unfold rankV
        omega
    unfold ap7 at h
    simp only [hasI_or2] at h
    cases e7 : (st == 7) <;> simp only [e7, cond_true, cond_false] at h
    · cases ep : decide ((parts.length : Int) ≤ sp) <;> simp only [ep, cond_true, cond_false] at h
      · have hlt : sp.toNat < parts.length := by have := of_decide_eq_false ep; omega
        cases ea : (fs 4 (steps.getD sp.toNat .nilp) == []) <;> simp only [ea, Bool.not_true, Bool.not_false, cond_true, cond_false, cself] at h
        · cases fc <;> simp only [cond_true, cond_false] at h
          · cases e3 : (st != 3) <;> simp only [e3, cond_true, cond_false] at h
            · cases h
            · cases e6 : (st != 6) <;> simp only [e6, cond_true, cond_false] at h
              · cases h
              · exact key (x := .bad 0) h hlt
          · exact key (x := .bad 0) h hlt
        · cases h
      · cases h
    · cases h
  · -- hold
    replace h : ap8 st wy fc hops parts steps sp mw = .good s w f p := h
    unfold ap8 at h
    cases e7 : (st == 7) <;> simp only [e7, cond_true, cond_false] at h
    · cases e1 : (st == 1) <;> simp only [e1, cond_true, cond_false] at h
      · cases h
      · cases eh : decide (0 < (hops.length : Int)) <;> simp only [eh, cond_true, cond_false] at h
        · cases h
        · cases ed : allI p135 parts.length parts steps <;> simp only [ed, cond_true, cond_false] at h
          · cases h
          · obtain rfl : st = 1 := by simpa using e1
            cases h
            unfold rankV
            omega
    · cases h
  · -- commit
    replace h : ap9 st wy fc hops parts steps sp mw = .good s w f p := h
    have ho := sum_own 4 (by decide) parts steps
    have key : (st = 1 ∨ st = 2) → (bif !allI p135 parts.length parts steps then AR.bad 210 else AR.good 3 0 fc (ownParts 4 parts steps)) = .good s w f p → rankV s p < rankV st parts := by
      intro hs h
      cases ed : allI p135 parts.length parts steps <;> simp only [ed, Bool.not_true, Bool.not_false, cond_true, cond_false] at h
      · cases h
      · cases h
        unfold rankV
        rcases hs with rfl | rfl <;> omega
    unfold ap9 at h
    cases e7 : (st == 7) <;> simp only [e7, cond_true, cond_false] at h
    · cases e1 : (st == 1) <;> simp only [e1, cond_true, cond_false] at h
      · cases e2 : (st == 2) <;> simp only [e2, Bool.not_true, Bool.not_false, cond_true, cond_false] at h
        · cases h
        · exact key (.inr (by simpa using e2)) h
      · have hs : st = 1 := by simpa using e1
        cases eh : decide (0 < (hops.length : Int)) <;> simp only [eh, Bool.not_true, Bool.not_false, cond_true, cond_false] at h
        · exact key (.inl hs) h
        · cases e2 : (st == 2) <;> simp only [e2, Bool.not_true, Bool.not_false, cond_true, cond_false] at h
          · cases h
          · exact key (.inl hs) h
    · cases h
  · -- back
    replace h : ap10 st wy fc hops parts steps sp mw = .good s w f p := h
    have hc := sum_calm parts
    have key : (st = 1 ∨ st = 2) → AR.good 4 mw fc (calmParts parts) = .good s w f p → rankV s p < rankV st parts := by
      intro hs h
      cases h
      unfold rankV
      rcases hs with rfl | rfl <;> omega
    unfold ap10 at h
    cases e7 : (st == 7) <;> simp only [e7, cond_true, cond_false] at h
    · cases e1 : (st == 1) <;> simp only [e1, Bool.not_true, Bool.not_false, cond_true, cond_false] at h
      · cases e2 : (st == 2) <;> simp only [e2, cond_true, cond_false] at h
        · cases h
        · have hs : st = 2 := by simpa using e2
          cases ew : (mw == 7) <;> simp only [ew, cond_true, cond_false] at h
          · cases e5 : (mw == 5) <;> simp only [e5, cond_true, cond_false] at h
            · cases h
            · cases ea : allI (p97 [D.int IntKind.i64 3]) parts.length parts steps <;> simp only [ea, Bool.not_true, Bool.not_false, cond_true, cond_false] at h
              · exact key (.inr hs) h
              · cases h
          · exact key (.inr hs) h
      · exact key (.inl (by simpa using e1)) h
    · cases h
  · -- undo
    replace h : ap11 st wy fc hops parts steps sp mw = .good s w f p := h
    unfold ap11 at h
    cases e7 : (st == 7) <;> simp only [e7, cond_true, cond_false] at h
    · cases ep : decide ((parts.length : Int) ≤ sp) <;> simp only [ep, cond_true, cond_false] at h
      · cases ea : (fs 4 (steps.getD sp.toNat .nilp) == []) <;> simp only [ea, Bool.not_true, Bool.not_false, cond_true, cond_false, cself] at h
        · cases h
        · cases ec : (sp == cur st parts) <;> simp only [ec, cond_true, cond_false] at h
          · cases h
          · cases e1 : (st == 4) <;> simp only [e1, cond_true, cond_false] at h
            · cases h
            · obtain rfl : st = 4 := by simpa using e1
              obtain rfl : sp = cur 4 parts := by simpa using ec
              cases h
              obtain ⟨hlt, hc⟩ := undo_cur hs0
              have := sum_part (s := 3) (t := 0) hlt (by rcases hc with hc | hc <;> rw [show fi 0 (parts.getD (cur 4 parts).toNat .nilp) = _ from hc] <;> simp only [ws1, ws2, ws3] <;> decide)
              unfold rankV
              omega
      · cases h
    · cases h
  · -- jam
    replace h : ap12 st wy fc hops parts steps sp mw = .good s w f p := h
    unfold ap12 at h
    cases e7 : (st == 7) <;> simp only [e7, cond_true, cond_false] at h
    · cases ep : decide ((parts.length : Int) ≤ sp) <;> simp only [ep, cond_true, cond_false] at h
      · cases ea : (fs 4 (steps.getD sp.toNat .nilp) == []) <;> simp only [ea, Bool.not_true, Bool.not_false, cond_true, cond_false, cself] at h
        · cases h
        · cases ec : (sp == cur st parts) <;> simp only [ec, cond_true, cond_false] at h
          · cases h
          · cases e1 : (st == 4) <;> simp only [e1, cond_true, cond_false] at h
            · cases h
            · cases e5 : (fi 1 (parts.getD sp.toNat .nilp) == 5) <;> simp only [e5, cond_true, cond_false] at h
              · cases h
              · obtain rfl : st = 4 := by simpa using e1
                cases h
                unfold rankV
                omega
      · cases h
    · cases h
  · -- end
    replace h : ap14 st wy fc hops parts steps sp mw = .good s w f p := h
    unfold ap14 at h
    cases e7 : (st == 7) <;> simp only [e7, cond_true, cond_false] at h
    · cases e1 : (st == 4) <;> simp only [e1, cond_true, cond_false] at h
      · cases h
      · cases ec : decide (cur st parts < 0) <;> simp only [ec, cond_true, cond_false] at h
        · cases h
        · obtain rfl : st = 4 := by simpa using e1
          cases h
          unfold rankV
          omega
    · cases h
  · -- kept
    replace h : ap15 st wy fc hops parts steps sp mw = .good s w f p := h
    have key : (bif fi 0 (parts.getD sp.toNat .nilp) == 2 then AR.good st wy fc (parts.set sp.toNat (D.agg [.int .i64 4, .int .i64 (fi 1 (parts.getD sp.toNat .nilp))])) else .bad 210) = .good s w f p → sp.toNat < parts.length → rankV s p < rankV st parts := by
      intro h hlt
      cases es : (fi 0 (parts.getD sp.toNat .nilp) == 2) <;> simp only [es, cond_true, cond_false] at h
      · cases h
      · cases h
        have hps : fi 0 (parts.getD sp.toNat .nilp) = 2 := by simpa using es
        have := sum_part (s := 4) (t := fi 1 (parts.getD sp.toNat .nilp)) hlt (by rw [hps, ws2, ws4]; decide)
        unfold rankV
        omega
    unfold ap15 at h
    simp only [hasI_or] at h
    cases e7 : (st == 7) <;> simp only [e7, cond_true, cond_false] at h
    · cases ep : decide ((parts.length : Int) ≤ sp) <;> simp only [ep, cond_true, cond_false] at h
      · have hlt : sp.toNat < parts.length := by have := of_decide_eq_false ep; omega
        cases ea : (fs 4 (steps.getD sp.toNat .nilp) == []) <;> simp only [ea, Bool.not_true, Bool.not_false, cond_true, cond_false, cself] at h
        · cases e3 : (st == 3) <;> simp only [e3, cond_true, cond_false] at h
          · cases h
          · exact key h hlt
        · cases h
      · cases h
    · cases h
  · -- force
    replace h : ap16 st wy fc hops parts steps sp mw = .good s w f p := h
    have hc := sum_calm parts
    have ho := sum_own 4 (by decide) (calmParts parts) steps
    have ho2 := sum_own 3 (by decide) (calmParts parts) steps
    unfold ap16 at h
    cases e7 : (st == 7) <;> simp only [e7, cond_true, cond_false] at h
    · cases e3 : (st == 3) <;> simp only [e3, cond_true, cond_false] at h
      · cases e6 : (st == 6) <;> simp only [e6, cond_true, cond_false] at h
        · have g3 : st ≠ 3 := by simpa using e3
          have g6 : st ≠ 6 := by simpa using e6
          have hw : 3 ≤ wT st := by
            rcases hst with rfl | rfl | rfl | rfl | rfl | rfl
            · omega
            · omega
            · exact (g3 rfl).elim
            · omega
            · omega
            · exact (g6 rfl).elim
          cases e1 : (sp == 1) <;> simp only [e1, cond_true, cond_false] at h <;> cases h <;> unfold rankV <;> omega
        · cases h
      · cases h
    · cases h
end Go.Proofs.YtknoielhkilkpaaDoor.A
/- A move that fails leaves the rank; what moves make is as long as before. -/
namespace Go.Proofs.YtknoielhkilkpaaDoor.A
open Go Go.AM
/-- refused, or a saga with as many parts -/
def Bok (n : Nat) (x : AR) : Prop := x = .bad 210 ∨ ∃ s w f p, x = .good s w f p ∧ p.length = n
theorem cond_B {n : Nat} {b : Bool} {x y : AR} (hx : Bok n x) (hy : Bok n y) : Bok n (bif b then x else y) := by
  cases b
  · exact hy
  · exact hx
theorem ap1_B (st wy : Int) (fc : Bool) (hops parts steps : List D) (sp mw : Int) : Bok parts.length (ap1 st wy fc hops parts steps sp mw) := by
  unfold ap1
  repeat' first | exact .inl rfl | exact .inr ⟨_, _, _, _, rfl, by first | rfl | exact calm_len _ | exact own_len _ _ _ | exact (own_len _ _ _).trans (calm_len _) | exact List.length_set⟩ | apply cond_B
theorem ap2_B (st wy : Int) (fc : Bool) (hops parts steps : List D) (sp mw : Int) : Bok parts.length (ap2 st wy fc hops parts steps sp mw) := by
  unfold ap2
  repeat' first | exact .inl rfl | exact .inr ⟨_, _, _, _, rfl, by first | rfl | exact calm_len _ | exact own_len _ _ _ | exact (own_len _ _ _).trans (calm_len _) | exact List.length_set⟩ | apply cond_B
theorem ap3_B (st wy : Int) (fc : Bool) (hops parts steps : List D) (sp mw : Int) : Bok parts.length (ap3 st wy fc hops parts steps sp mw) := by
  unfold ap3
  repeat' first | exact .inl rfl | exact .inr ⟨_, _, _, _, rfl, by first | rfl | exact calm_len _ | exact own_len _ _ _ | exact (own_len _ _ _).trans (calm_len _) | exact List.length_set⟩ | apply cond_B
theorem ap4_B (st wy : Int) (fc : Bool) (hops parts steps : List D) (sp mw : Int) : Bok parts.length (ap4 st wy fc hops parts steps sp mw) := by
  unfold ap4
  repeat' first | exact .inl rfl | exact .inr ⟨_, _, _, _, rfl, by first | rfl | exact calm_len _ | exact own_len _ _ _ | exact (own_len _ _ _).trans (calm_len _) | exact List.length_set⟩ | apply cond_B
theorem ap5_B (st wy : Int) (fc : Bool) (hops parts steps : List D) (sp mw : Int) : Bok parts.length (ap5 st wy fc hops parts steps sp mw) := by
  unfold ap5
  repeat' first | exact .inl rfl | exact .inr ⟨_, _, _, _, rfl, by first | rfl | exact calm_len _ | exact own_len _ _ _ | exact (own_len _ _ _).trans (calm_len _) | exact List.length_set⟩ | apply cond_B
theorem ap6_B (st wy : Int) (fc : Bool) (hops parts steps : List D) (sp mw : Int) : Bok parts.length (ap6 st wy fc hops parts steps sp mw) := by
  unfold ap6
  repeat' first | exact .inl rfl | exact .inr ⟨_, _, _, _, rfl, by first | rfl | exact calm_len _ | exact own_len _ _ _ | exact (own_len _ _ _).trans (calm_len _) | exact List.length_set⟩ | apply cond_B
theorem ap7_B (st wy : Int) (fc : Bool) (hops parts steps : List D) (sp mw : Int) : Bok parts.length (ap7 st wy fc hops parts steps sp mw) := by
  unfold ap7
  repeat' first | exact .inl rfl | exact .inr ⟨_, _, _, _, rfl, by first | rfl | exact calm_len _ | exact own_len _ _ _ | exact (own_len _ _ _).trans (calm_len _) | exact List.length_set⟩ | apply cond_B
theorem ap8_B (st wy : Int) (fc : Bool) (hops parts steps : List D) (sp mw : Int) : Bok parts.length (ap8 st wy fc hops parts steps sp mw) := by
  unfold ap8
  repeat' first | exact .inl rfl | exact .inr ⟨_, _, _, _, rfl, by first | rfl | exact calm_len _ | exact own_len _ _ _ | exact (own_len _ _ _).trans (calm_len _) | exact List.length_set⟩ | apply cond_B
theorem ap9_B (st wy : Int) (fc : Bool) (hops parts steps : List D) (sp mw : Int) : Bok parts.length (ap9 st wy fc hops parts steps sp mw) := by
  unfold ap9
  repeat' first | exact .inl rfl | exact .inr ⟨_, _, _, _, rfl, by first | rfl | exact calm_len _ | exact own_len _ _ _ | exact (own_len _ _ _).trans (calm_len _) | exact List.length_set⟩ | apply cond_B
theorem ap10_B (st wy : Int) (fc : Bool) (hops parts steps : List D) (sp mw : Int) : Bok parts.length (ap10 st wy fc hops parts steps sp mw) := by
  unfold ap10
  repeat' first | exact .inl rfl | exact .inr ⟨_, _, _, _, rfl, by first | rfl | exact calm_len _ | exact own_len _ _ _ | exact (own_len _ _ _).trans (calm_len _) | exact List.length_set⟩ | apply cond_B
theorem ap11_B (st wy : Int) (fc : Bool) (hops parts steps : List D) (sp mw : Int) : Bok parts.length (ap11 st wy fc hops parts steps sp mw) := by
  unfold ap11
  repeat' first | exact .inl rfl | exact .inr ⟨_, _, _, _, rfl, by first | rfl | exact calm_len _ | exact own_len _ _ _ | exact (own_len _ _ _).trans (calm_len _) | exact List.length_set⟩ | apply cond_B
theorem ap12_B (st wy : Int) (fc : Bool) (hops parts steps : List D) (sp mw : Int) : Bok parts.length (ap12 st wy fc hops parts steps sp mw) := by
  unfold ap12
  repeat' first | exact .inl rfl | exact .inr ⟨_, _, _, _, rfl, by first | rfl | exact calm_len _ | exact own_len _ _ _ | exact (own_len _ _ _).trans (calm_len _) | exact List.length_set⟩ | apply cond_B
theorem ap13_B (st wy : Int) (fc : Bool) (hops parts steps : List D) (sp mw : Int) : Bok parts.length (ap13 st wy fc hops parts steps sp mw) := by
  unfold ap13
  repeat' first | exact .inl rfl | exact .inr ⟨_, _, _, _, rfl, by first | rfl | exact calm_len _ | exact own_len _ _ _ | exact (own_len _ _ _).trans (calm_len _) | exact List.length_set⟩ | apply cond_B
theorem ap14_B (st wy : Int) (fc : Bool) (hops parts steps : List D) (sp mw : Int) : Bok parts.length (ap14 st wy fc hops parts steps sp mw) := by
  unfold ap14
  repeat' first | exact .inl rfl | exact .inr ⟨_, _, _, _, rfl, by first | rfl | exact calm_len _ | exact own_len _ _ _ | exact (own_len _ _ _).trans (calm_len _) | exact List.length_set⟩ | apply cond_B
theorem ap15_B (st wy : Int) (fc : Bool) (hops parts steps : List D) (sp mw : Int) : Bok parts.length (ap15 st wy fc hops parts steps sp mw) := by
  unfold ap15
  repeat' first | exact .inl rfl | exact .inr ⟨_, _, _, _, rfl, by first | rfl | exact calm_len _ | exact own_len _ _ _ | exact (own_len _ _ _).trans (calm_len _) | exact List.length_set⟩ | apply cond_B
theorem ap16_B (st wy : Int) (fc : Bool) (hops parts steps : List D) (sp mw : Int) : Bok parts.length (ap16 st wy fc hops parts steps sp mw) := by
  unfold ap16
  repeat' first | exact .inl rfl | exact .inr ⟨_, _, _, _, rfl, by first | rfl | exact calm_len _ | exact own_len _ _ _ | exact (own_len _ _ _).trans (calm_len _) | exact List.length_set⟩ | apply cond_B
theorem applyR_B (st wy : Int) (fc : Bool) (hops parts steps : List D) (kd sp mw : Int) (hk : 1 ≤ kd ∧ kd ≤ 16) : Bok parts.length (applyR st wy fc hops parts steps kd sp mw) := by
  have : kd = 1 ∨ kd = 2 ∨ kd = 3 ∨ kd = 4 ∨ kd = 5 ∨ kd = 6 ∨ kd = 7 ∨ kd = 8 ∨ kd = 9 ∨ kd = 10 ∨ kd = 11 ∨ kd = 12 ∨ kd = 13 ∨ kd = 14 ∨ kd = 15 ∨ kd = 16 := by omega
  rcases this with rfl | rfl | rfl | rfl | rfl | rfl | rfl | rfl | rfl | rfl | rfl | rfl | rfl | rfl | rfl | rfl
  · exact ap1_B st wy fc hops parts steps sp mw
  · exact ap2_B st wy fc hops parts steps sp mw
  · exact ap3_B st wy fc hops parts steps sp mw
  · exact ap4_B st wy fc hops parts steps sp mw
  · exact ap5_B st wy fc hops parts steps sp mw
  · exact ap6_B st wy fc hops parts steps sp mw
  · exact ap7_B st wy fc hops parts steps sp mw
  · exact ap8_B st wy fc hops parts steps sp mw
  · exact ap9_B st wy fc hops parts steps sp mw
  · exact ap10_B st wy fc hops parts steps sp mw
  · exact ap11_B st wy fc hops parts steps sp mw
  · exact ap12_B st wy fc hops parts steps sp mw
  · exact ap13_B st wy fc hops parts steps sp mw
  · exact ap14_B st wy fc hops parts steps sp mw
  · exact ap15_B st wy fc hops parts steps sp mw
  · exact ap16_B st wy fc hops parts steps sp mw
theorem appR_good {rt nn st wy : Int} {fc : Bool} {hops steps parts : List D} {nm : List UInt8} {kd mr mn sp mw : Int} {mh ms : List D} {mm : List UInt8} (h : arE (appR rt nn st wy fc hops steps parts nm kd mr mn sp mw mh ms mm) = 0) :
    mayOk rt nn st wy fc hops steps parts nm = true ∧ st ≠ 7 ∧ moveOk kd mr mn sp mw mh ms mm = true ∧ ∃ s w f p, appR rt nn st wy fc hops steps parts nm kd mr mn sp mw mh ms mm = .good s w f p ∧ applyR st wy fc hops parts steps kd sp mw = .good s w f p ∧ p.length = parts.length := by
  unfold appR at h ⊢
  cases hm : mayOk rt nn st wy fc hops steps parts nm
  · rw [hm] at h; cases h
  · cases hv : moveOk kd mr mn sp mw mh ms mm && idCmp mr mn rt nn mh hops == 0
    · rw [hm, hv] at h; cases h
    · cases h7 : (st == 7)
      · rw [hm, hv, h7] at h
        simp only [cond_true, cond_false] at h ⊢
        simp only [Bool.and_eq_true] at hv
        refine ⟨by first | trivial | rfl, by simpa using h7, hv.1, ?_⟩
        rcases applyR_B st wy fc hops parts steps kd sp mw (moveOk_kd hv.1) with hb | ⟨s, w, f, p, hb, hl⟩
        · rw [hb] at h; cases h
        · exact ⟨s, w, f, p, hb, hb, hl⟩
      · rw [hm, hv, h7] at h; cases h
theorem getD_set {l : List D} {c j : Nat} {x : D} (hc : c < l.length) : (l.set c x).getD j .nilp = if c = j then x else l.getD j .nilp := by
  rw [List.getD_eq_getElem?_getD, List.getElem?_set]
  split
  · rename_i h
    subst h
    first | rfl | (rw [if_pos hc]; rfl)
  · rw [List.getD_eq_getElem?_getD]
theorem allI_congr {p : D → D → Bool} {n : Nat} {l l' m : List D} (h : ∀ i, i < n → p (l'.getD i .nilp) (m.getD i .nilp) = p (l.getD i .nilp) (m.getD i .nilp)) : allI p n l' m = allI p n l m := by
  rw [Bool.eq_iff_iff, allI_iff, allI_iff]
  constructor
  · intro g i hi; rw [← h i hi]; exact g i hi
  · intro g i hi; rw [h i hi]; exact g i hi
/-- trying once more: a saga that may be -/
theorem fail_may {rt nn st wy : Int} {fc : Bool} {hops steps parts : List D} {nm : List UInt8} {c : Nat} {t : Int} (hm : mayOk rt nn st wy fc hops steps parts nm = true) (hc : c < parts.length) (h0 : 0 ≤ t) (h5 : t ≤ 5)
    (hs : st = 4 ∨ st = 1 ∧ fi 0 (parts.getD c .nilp) = 0 ∧ ∀ i, i < c → fi 0 (parts.getD i .nilp) = 2) : mayOk rt nn st wy fc hops steps (parts.set c (D.agg [.int .i64 (fi 0 (parts.getD c .nilp)), .int .i64 t])) nm = true := by
  have h7 : st ≠ 7 := by rcases hs with h | h <;> omega
  have hg := mayOk_good hm h7
  have hst : ∀ i, fi 0 ((parts.set c (D.agg [.int .i64 (fi 0 (parts.getD c .nilp)), .int .i64 t])).getD i .nilp) = fi 0 (parts.getD i .nilp) := by
    intro i
    rw [getD_set hc]
    split
    · rename_i h; subst h; rfl
    · rfl
  generalize hq : parts.set c (D.agg [.int .i64 (fi 0 (parts.getD c .nilp)), .int .i64 t]) = q at *
  have hql : q.length = parts.length := by rw [← hq]; simp
  have hqt : ∀ i, i ≠ c → q.getD i .nilp = parts.getD i .nilp := by
    intro i hi
    rw [← hq, getD_set hc, if_neg (fun h => hi h.symm)]
  have hqc : fi 1 (q.getD c .nilp) = t := by rw [← hq, getD_set hc, if_pos rfl]; rfl
  have h7' : (st == 7) = false := by simpa using h7
  have hsane : allI p47 q.length q steps = true := by
    rw [allI_iff]
    intro i hi
    rw [hql] at hi
    have ho := hg.sane i hi
    by_cases he : i = c
    · subst he
      simp only [p47, Bool.and_eq_true, decide_eq_true_eq] at ho ⊢
      rw [hst i, hqc]
      exact ⟨ho.1, ho.2.1, ho.2.2.1, h0, h5⟩
    · rw [hqt i he]
      exact ho
  have hfit : fitsOk st wy fc hops q steps = true := by
    have hf := hg.fits
    rcases hs with rfl | ⟨rfl, hz, hb⟩
    · have e : fitsOk 4 wy fc hops q steps = undoOk 4 wy fc q steps := rfl
      have e' : fitsOk 4 wy fc hops parts steps = undoOk 4 wy fc parts steps := rfl
      rw [e]
      rw [e'] at hf
      have ha : allI (p97 w4) q.length q steps = allI (p97 w4) parts.length parts steps := by
        rw [hql]
        exact allI_congr fun i _ => by simp only [p97, hst i]
      unfold undoOk at hf ⊢
      rw [ha]
      have e4 : ((4 : Int) == 4) = true := rfl
      simp only [e4, cond_true] at hf ⊢
      exact hf
    · have hr : runOk parts steps = true := by
        unfold fitsOk at hf
        cases fc <;> cases h : (wy == 0) <;> simp [h] at hf
        exact hf
      have hgot : p80 (parts.getD c .nilp) (steps.getD c .nilp) = false := by
        unfold p80
        rw [hz]
        cases asksAt (steps.getD c .nilp) <;> rfl
      have hgq : p80 (q.getD c .nilp) (steps.getD c .nilp) = false := by
        unfold p80 at hgot ⊢
        rw [hst c]
        exact hgot
      have hr1 : runOk parts steps = tailOk c parts steps := by
        unfold runOk
        refine scan_first _ _ _ c _ _ (by omega) (by omega) (fun j _ hj => ?_) (by rw [hgot]; rfl)
        simp only [p80, hb j hj, beq_self_eq_true, Bool.true_or, Bool.not_true]
      have hr2 : runOk q steps = tailOk c q steps := by
        unfold runOk
        refine scan_first _ _ _ c _ _ (by omega) (by omega) (fun j _ hj => ?_) (by rw [hgq]; rfl)
        simp only [p80, hst j, hb j hj, beq_self_eq_true, Bool.true_or, Bool.not_true]
      rw [hr1] at hr
      have ht : tailOk c q steps = true := by
        unfold tailOk at hr ⊢
        rw [scan_all (fun i => p109 ((i : Int) == (c : Int)) (parts.getD i .nilp) (steps.getD i .nilp))] at hr
        rw [scan_all (fun i => p109 ((i : Int) == (c : Int)) (q.getD i .nilp) (steps.getD i .nilp))]
        intro j h1 h2
        rw [hql] at h2
        by_cases he : j = c
        · subst he
          simp only [p109, hst j, hz, beq_self_eq_true, Bool.true_or, Bool.true_and]
        · rw [hqt j he]
          exact hr j h1 h2
      rw [ht] at hr2
      unfold fitsOk at hf ⊢
      rw [hr2]
      rw [hr1, hr] at hf
      exact hf
  unfold mayOk at hm ⊢
  rw [h7'] at hm ⊢
  rw [hsane, hfit, hql]
  cases a1 : idOk rt nn hops
  · simp [a1] at hm
  · cases a2 : defOk nm steps
    · simp [a1, a2] at hm
    · cases a3 : ((parts.length : Int) != (steps.length : Int))
      · rfl
      · simp [a1, a2, a3] at hm
theorem name_nil : name [] = false := rfl
theorem fail_rank {rt nn st wy : Int} {fc : Bool} {hops steps parts : List D} {nm : List UInt8} {sp mw s w : Int} {f : Bool} {p : List D} (hm : mayOk rt nn st wy fc hops steps parts nm = true) (h7 : st ≠ 7) (hs0 : 0 ≤ sp)
    (h : applyR st wy fc hops parts steps 3 sp mw = .good s w f p) : rankR rt nn s w f hops steps p nm = rankR rt nn st wy fc hops steps parts nm := by
  have hg := mayOk_good hm h7
  have fin : ∀ c : Nat, c < parts.length → (st = 4 ∨ st = 1 ∧ fi 0 (parts.getD c .nilp) = 0 ∧ ∀ i, i < c → fi 0 (parts.getD i .nilp) = 2) → fi 1 (parts.getD c .nilp) < 5 →
      rankR rt nn st wy fc hops steps (parts.set c (D.agg [.int .i64 (fi 0 (parts.getD c .nilp)), .int .i64 (IntKind.i64.wrap (fi 1 (parts.getD c .nilp) + 1))])) nm = rankR rt nn st wy fc hops steps parts nm := by
    intro c hc hs h5
    have ht := tries_most hg hc
    have hw : IntKind.i64.wrap (fi 1 (parts.getD c .nilp) + 1) = fi 1 (parts.getD c .nilp) + 1 := wrap_i64 (by omega) (by omega)
    rw [hw]
    have hm2 := fail_may hm hc (t := fi 1 (parts.getD c .nilp) + 1) (by omega) (by omega) hs
    unfold rankR
    rw [hm, hm2]
    simp only [cond_true]
    unfold rankV
    rw [sumW_set _ _ _ hc]
    have h3 : fi 0 (D.agg [.int .i64 (fi 0 (parts.getD c .nilp)), .int .i64 (fi 1 (parts.getD c .nilp) + 1)]) = fi 0 (parts.getD c .nilp) := rfl
    rw [h3]
    omega
  replace h : ap3 st wy fc hops parts steps sp mw = .good s w f p := h
  unfold ap3 at h
  cases e7 : (st == 7) <;> simp only [e7, cond_true, cond_false] at h
  · cases ep : decide ((parts.length : Int) ≤ sp) <;> simp only [ep, cond_true, cond_false] at h
    · have hlt : sp.toNat < parts.length := by have := of_decide_eq_false ep; omega
      cases ea : (fs 4 (steps.getD sp.toNat .nilp) == []) <;> simp only [ea, Bool.not_true, Bool.not_false, cond_true, cond_false, cself] at h
      · cases h
      · cases ec : (sp == cur st parts) <;> simp only [ec, cond_true, cond_false] at h
        · cases h
        · have hsub := nil_of_beq ea
          have four : st = 4 → fi 1 (parts.getD sp.toNat .nilp) < 5 → AR.good st wy fc (parts.set sp.toNat (D.agg [.int .i64 (fi 0 (parts.getD sp.toNat .nilp)), .int .i64 (IntKind.i64.wrap (fi 1 (parts.getD sp.toNat .nilp) + 1))])) = .good s w f p → rankR rt nn s w f hops steps p nm = rankR rt nn st wy fc hops steps parts nm := by
            intro h4 h5 h
            cases h
            exact fin sp.toNat hlt (.inl h4) h5
          cases e1 : (st == 1) <;> simp only [e1, cond_true, cond_false] at h
          · cases e4 : (st == 4) <;> simp only [e4, cond_true, cond_false] at h
            · cases h
            · cases e5 : decide (fi 1 (parts.getD sp.toNat .nilp) < 5) <;> simp only [e5, cond_true, cond_false] at h
              · cases h
              · exact four (by simpa using e4) (of_decide_eq_true e5) h
          · cases et : decide (fi 1 (parts.getD sp.toNat .nilp) < fi 5 (steps.getD sp.toNat .nilp)) <;> simp only [et, cond_true, cond_false] at h
            · cases e4 : (st == 4) <;> simp only [e4, cond_true, cond_false] at h
              · cases h
              · cases e5 : decide (fi 1 (parts.getD sp.toNat .nilp) < 5) <;> simp only [e5, cond_true, cond_false] at h
                · cases h
                · exact four (by simpa using e4) (of_decide_eq_true e5) h
            · have h1 : st = 1 := by simpa using e1
              have hc1 : sp = cur st parts := by simpa using ec
              subst h1
              cases h
              have hc0 : 0 ≤ cur 1 parts := by omega
              obtain ⟨hlt', hcs⟩ := run_cur hg hc0
              have hz : fi 0 (parts.getD sp.toNat .nilp) = 0 := by
                rw [hc1]
                rcases hcs with hcs | hcs | hcs
                · exact hcs
                · exact (hcs.1 (by show fs 4 (steps.getD (cur 1 parts).toNat .nilp) = []; rw [← hc1]; exact hsub)).elim
                · exact (hcs.1 (by show fs 4 (steps.getD (cur 1 parts).toNat .nilp) = []; rw [← hc1]; exact hsub)).elim
              have hbefore : ∀ i, i < sp.toNat → fi 0 (parts.getD i .nilp) = 2 := by
                intro i hi
                have hcur : cur 1 parts = idxOf notDone parts := rfl
                rw [hc1, hcur] at hi
                rw [hcur] at hc0
                have := (idxOf_pos hc0).2.2 i hi
                simpa only [notDone, bne_eq_false_iff_eq] using this
              have hb := hg.step sp.toNat (by have := hg.len; omega)
              have hmx : fi 5 (steps.getD sp.toNat .nilp) ≤ 5 := by
                unfold badStep at hb
                have hna : isAsks (steps.getD sp.toNat .nilp) = false := by
                  unfold isAsks asks
                  rw [hsub, name_nil]
                  rfl
                rw [hna] at hb
                have hio : isOwn (steps.getD sp.toNat .nilp) = true := by simpa using hb
                unfold isOwn own at hio
                simp only [Bool.and_eq_true, decide_eq_true_eq] at hio
                exact hio.2.2.2.2.2.2.2.2.2.2
              have := of_decide_eq_true et
              exact fin sp.toNat hlt (.inr ⟨rfl, hz, hbefore⟩) (by omega)
    · cases h
  · cases h
end Go.Proofs.YtknoielhkilkpaaDoor.A
/- Equations of the walk. -/
open Go Go.AM Go.Proofs
namespace Go.Proofs.YtknoielhkilkpaaDoor.A
def tabT : List D := [D.int IntKind.i64 0, D.int IntKind.i64 6, D.int IntKind.i64 5, D.int IntKind.i64 1, D.int IntKind.i64 4, D.int IntKind.i64 3, D.int IntKind.i64 1, D.int IntKind.i64 0]
def tabS : List D := [D.int IntKind.i64 4, D.int IntKind.i64 3, D.int IntKind.i64 2, D.int IntKind.i64 1, D.int IntKind.i64 1]
theorem e26 (m n : Nat) (rt nn st wy : Int) (n1 n2 n3 fc : Bool) (hops steps parts : List D) (nm : List UInt8) : Tree.out (enterM E19 (callN E19 (m+40)) n c26 [.d (sagaD rt nn st wy n1 n2 n3 fc hops steps parts nm)] []) = bif decide (List.length steps ≤ (1000000 : Nat)) then bif decide (List.length parts ≤ (1000000 : Nat)) then bif (bif mayOk rt nn st wy fc hops steps parts nm then (0 : Int) else (230 : Int)) != (0 : Int) then some [D.int .i64 0] else bif decide (st < (0 : Int)) then Tree.out (resume E19 (callN E19 (m+40)) n n (0 : Nat) c26 { fr := frame 33 [(4, V.ptr 320 0), (5, V.d (D.int .i64 0)), (19, V.d (D.sl partSh n3 parts)), (20, V.d (D.int .i64 (↑(List.length parts) : Int))), (21, V.d (D.int .i64 0))], ob := [(128, Obj.box [V.d (D.int .i64 rt), V.d (D.int .i64 nn), V.d (D.sl partSh n1 hops), V.d (D.str nm), V.d (D.sl stepSh n2 steps), V.d (D.int .i64 st), V.d (D.int .i64 wy), V.d (D.sl partSh n3 parts), V.d (D.bool fc)]), (256, Obj.arr (Sh.int IntKind.i64) (8 : Nat) true tabT), (320, Obj.arr (Sh.int IntKind.i64) (5 : Nat) false tabS)] }) else bif decide ((8 : Int) ≤ st) then Tree.out (resume E19 (callN E19 (m+40)) n n (0 : Nat) c26 { fr := frame 33 [(4, V.ptr 320 0), (5, V.d (D.int .i64 0)), (19, V.d (D.sl partSh n3 parts)), (20, V.d (D.int .i64 (↑(List.length parts) : Int))), (21, V.d (D.int .i64 0))], ob := [(128, Obj.box [V.d (D.int .i64 rt), V.d (D.int .i64 nn), V.d (D.sl partSh n1 hops), V.d (D.str nm), V.d (D.sl stepSh n2 steps), V.d (D.int .i64 st), V.d (D.int .i64 wy), V.d (D.sl partSh n3 parts), V.d (D.bool fc)]), (256, Obj.arr (Sh.int IntKind.i64) (8 : Nat) true tabT), (320, Obj.arr (Sh.int IntKind.i64) (5 : Nat) false tabS)] }) else bif decide ((0 : Int) ≤ st ∧ st < (8 : Int)) then Tree.out (resume E19 (callN E19 (m+40)) n n (0 : Nat) c26 { fr := frame 33 [(4, V.ptr 320 0), (5, V.d (D.int .i64 (IntKind.wrap .i64 ((40 : Int) * fi 0 (List.getD tabT (Int.toNat st) D.nilp))))), (19, V.d (D.sl partSh n3 parts)), (20, V.d (D.int .i64 (↑(List.length parts) : Int))), (21, V.d (D.int .i64 0))], ob := [(128, Obj.box [V.d (D.int .i64 rt), V.d (D.int .i64 nn), V.d (D.sl partSh n1 hops), V.d (D.str nm), V.d (D.sl stepSh n2 steps), V.d (D.int .i64 st), V.d (D.int .i64 wy), V.d (D.sl partSh n3 parts), V.d (D.bool fc)]), (256, Obj.arr (Sh.int IntKind.i64) (8 : Nat) true tabT), (320, Obj.arr (Sh.int IntKind.i64) (5 : Nat) false tabS)] }) else none else none else none := by kernel_rfl
def s26 (rt nn st wy : Int) (n1 n2 n3 fc : Bool) (hops steps parts : List D) (nm : List UInt8) (z : Bool) (acc i : Int) : St := { fr := frame 33 [(4, V.ptr 320 0), (5, V.d (D.int .i64 acc)), (19, V.d (D.sl partSh n3 parts)), (20, V.d (D.int .i64 parts.length)), (21, V.d (D.int .i64 i))], ob := [(128, .box [V.d (D.int .i64 rt), V.d (D.int .i64 nn), V.d (D.sl hopSh n1 hops), V.d (D.str nm), V.d (D.sl stepSh n2 steps), V.d (D.int .i64 st), V.d (D.int .i64 wy), V.d (D.sl partSh n3 parts), V.d (D.bool fc)]), (256, .arr (Sh.int .i64) 8 true tabT), (320, .arr (Sh.int .i64) 5 z tabS)] }
theorem l26 (m n j : Nat) (rt nn st wy : Int) (n1 n2 n3 fc : Bool) (hops steps parts : List D) (nm : List UInt8) (z : Bool) (acc i : Int) : Tree.out (resume E19 (callN E19 (m+40)) n (j+1) 0 c26 (s26 rt nn st wy n1 n2 n3 fc hops steps parts nm z acc i)) = bif decide (i < (↑(List.length parts) : Int)) then bif decide ((0 : Int) ≤ i ∧ i < (↑(List.length parts) : Int)) then bif decide (fi 0 (List.getD parts (Int.toNat i) D.nilp) < (0 : Int)) then Tree.out (resume E19 (callN E19 (m+40)) n j (0 : Nat) c26 { fr := frame 33 [(4, V.ptr 320 0), (5, V.d (D.int .i64 (IntKind.wrap .i64 (acc + (0 : Int))))), (19, V.d (D.sl partSh n3 parts)), (20, V.d (D.int .i64 (↑(List.length parts) : Int))), (21, V.d (D.int .i64 (IntKind.wrap .i64 (i + (1 : Int)))))], ob := [(128, Obj.box [V.d (D.int .i64 rt), V.d (D.int .i64 nn), V.d (D.sl partSh n1 hops), V.d (D.str nm), V.d (D.sl stepSh n2 steps), V.d (D.int .i64 st), V.d (D.int .i64 wy), V.d (D.sl partSh n3 parts), V.d (D.bool fc)]), (256, Obj.arr (Sh.int IntKind.i64) (8 : Nat) true tabT), (320, Obj.arr (Sh.int IntKind.i64) (5 : Nat) true tabS)] }) else bif decide ((5 : Int) ≤ fi 0 (List.getD parts (Int.toNat i) D.nilp)) then Tree.out (resume E19 (callN E19 (m+40)) n j (0 : Nat) c26 { fr := frame 33 [(4, V.ptr 320 0), (5, V.d (D.int .i64 (IntKind.wrap .i64 (acc + (0 : Int))))), (19, V.d (D.sl partSh n3 parts)), (20, V.d (D.int .i64 (↑(List.length parts) : Int))), (21, V.d (D.int .i64 (IntKind.wrap .i64 (i + (1 : Int)))))], ob := [(128, Obj.box [V.d (D.int .i64 rt), V.d (D.int .i64 nn), V.d (D.sl partSh n1 hops), V.d (D.str nm), V.d (D.sl stepSh n2 steps), V.d (D.int .i64 st), V.d (D.int .i64 wy), V.d (D.sl partSh n3 parts), V.d (D.bool fc)]), (256, Obj.arr (Sh.int IntKind.i64) (8 : Nat) true tabT), (320, Obj.arr (Sh.int IntKind.i64) (5 : Nat) true tabS)] }) else bif decide ((0 : Int) ≤ fi 0 (List.getD parts (Int.toNat i) D.nilp) ∧ fi 0 (List.getD parts (Int.toNat i) D.nilp) < (5 : Int)) then Tree.out (resume E19 (callN E19 (m+40)) n j (0 : Nat) c26 { fr := frame 33 [(4, V.ptr 320 0), (5, V.d (D.int .i64 (IntKind.wrap .i64 (acc + fi 0 (List.getD tabS (Int.toNat (fi 0 (List.getD parts (Int.toNat i) D.nilp))) D.nilp))))), (19, V.d (D.sl partSh n3 parts)), (20, V.d (D.int .i64 (↑(List.length parts) : Int))), (21, V.d (D.int .i64 (IntKind.wrap .i64 (i + (1 : Int)))))], ob := [(128, Obj.box [V.d (D.int .i64 rt), V.d (D.int .i64 nn), V.d (D.sl partSh n1 hops), V.d (D.str nm), V.d (D.sl stepSh n2 steps), V.d (D.int .i64 st), V.d (D.int .i64 wy), V.d (D.sl partSh n3 parts), V.d (D.bool fc)]), (256, Obj.arr (Sh.int IntKind.i64) (8 : Nat) true tabT), (320, Obj.arr (Sh.int IntKind.i64) (5 : Nat) true tabS)] }) else none else none else some [D.int .i64 acc] := by kernel_rfl
end Go.Proofs.YtknoielhkilkpaaDoor.A
/- next.Rank. -/
namespace Go.Proofs.YtknoielhkilkpaaDoor.A
open Go Go.AM
theorem loop26 (m n : Nat) (rt nn st wy : Int) (n1 n2 n3 fc : Bool) (hops steps parts : List D) (nm : List UInt8) (hl : parts.length ≤ 1000000) : ∀ (k i j : Nat) (z : Bool) (acc : Int), i + k = parts.length → k < j → 0 ≤ acc → acc + 4 * (k : Int) ≤ 4000000000 →
    (resume E19 (callN E19 (m+40)) n j 0 c26 (s26 rt nn st wy n1 n2 n3 fc hops steps parts nm z acc (i : Nat))).out = some [.int .i64 (acc + sumW (parts.drop i))] := by
  intro k
  induction k with
  | zero =>
    intro i j z acc hi hj h0 h4
    cases j with
    | zero => omega
    | succ j =>
      have : i = parts.length := by omega
      subst this
      rw [l26, List.drop_eq_nil_of_le (Nat.le_refl _)]
      simp only [dec_end, cond_false]
      have : sumW [] = 0 := rfl
      rw [this, Int.add_zero]
  | succ k ih =>
    intro i j z acc hi hj h0 h4
    cases j with
    | zero => omega
    | succ j =>
      have hlt : i < parts.length := by omega
      have hd : List.drop i parts = parts[i]'hlt :: List.drop (i + 1) parts := List.drop_eq_getElem_cons hlt
      have hg : parts.getD i .nilp = parts[i]'hlt := by rw [List.getD_eq_getElem?_getD, List.getElem?_eq_getElem hlt]; rfl
      have hb := wS_bounds (fi 0 (parts[i]'hlt))
      have hr := ih (i + 1) j true (acc + wS (fi 0 (parts[i]'hlt))) (by omega) (by omega) (by omega) (by omega)
      have hs : sumW (parts.drop i) = wS (fi 0 (parts[i]'hlt)) + sumW (parts.drop (i + 1)) := by
        rw [hd]
        unfold sumW
        rw [List.map_cons, List.sum_cons]
      have hfin : acc + wS (fi 0 (parts[i]'hlt)) + sumW (parts.drop (i + 1)) = acc + sumW (parts.drop i) := by omega
      rw [hfin] at hr
      rw [l26]
      simp only [Int.toNat_natCast, wrap_up hlt hl, dec_lt hlt, dec_ix hlt, cond_true, hg]
      generalize hx : fi 0 (parts[i]'hlt) = x at *
      by_cases h1 : x < 0
      · have hw : wS x = 0 := by simp [wS, h1]
        rw [hw] at hr
        have ha : IntKind.i64.wrap (acc + 0) = acc + 0 := by rw [wrap_i64 (by omega) (by omega)]
        simp only [decide_eq_true h1, cond_true, ha]
        exact hr
      · by_cases h2 : 5 ≤ x
        · have hw : wS x = 0 := by simp [wS, h1, h2]
          rw [hw] at hr
          have ha : IntKind.i64.wrap (acc + 0) = acc + 0 := by rw [wrap_i64 (by omega) (by omega)]
          simp only [decide_eq_false h1, decide_eq_true h2, cond_true, cond_false, ha]
          exact hr
        · have h3 : decide (0 ≤ x ∧ x < 5) = true := by simp; omega
          have hw : wS x = fi 0 (tabS.getD x.toNat .nilp) := by
            unfold wS
            rw [decide_eq_false h1, decide_eq_false h2]
            rfl
          have ha : IntKind.i64.wrap (acc + fi 0 (tabS.getD x.toNat .nilp)) = acc + wS x := by rw [hw, wrap_i64 (by omega) (by omega)]
          simp only [decide_eq_false h1, decide_eq_false h2, h3, cond_true, cond_false, ha]
          exact hr
theorem run26 (m n : Nat) (rt nn st wy : Int) (n1 n2 n3 fc : Bool) (hops steps parts : List D) (nm : List UInt8) (h1 : steps.length ≤ 1000000) (h2 : parts.length ≤ 1000000) (hn : parts.length + 2 ≤ n) :
    (enterM E19 (callN E19 (m+40)) n c26 [.d (sagaD rt nn st wy n1 n2 n3 fc hops steps parts nm)] []).out = some [.int .i64 (rankR rt nn st wy fc hops steps parts nm)] := by
  rw [e26]
  unfold rankR
  cases hm : mayOk rt nn st wy fc hops steps parts nm
  · simp only [decide_eq_true h1, decide_eq_true h2, cond_true]
    rfl
  · simp only [decide_eq_true h1, decide_eq_true h2, cond_true, bne_self_eq_false, cond_false]
    have hb := wT_bounds st
    have key := fun (acc : Int) h0 h4 => loop26 m n rt nn st wy n1 n2 n3 fc hops steps parts nm h2 parts.length 0 n false acc (by omega) (by omega) h0 h4
    have hz := key 0 (by omega) (by omega)
    have hs0 : (0 : Int) + sumW (parts.drop 0) = sumW parts := by simp
    rw [hs0] at hz
    unfold rankV
    by_cases g1 : st < 0
    · have hw : wT st = 0 := by simp [wT, g1]
      rw [decide_eq_true g1, hw]
      refine hz.trans ?_
      simp
    · by_cases g2 : 8 ≤ st
      · have hw : wT st = 0 := by simp [wT, g1, g2]
        rw [decide_eq_false g1, decide_eq_true g2, hw]
        refine hz.trans ?_
        simp
      · have g3 : decide (0 ≤ st ∧ st < 8) = true := by simp; omega
        have hw : wT st = fi 0 (tabT.getD st.toNat .nilp) := by
          unfold wT
          rw [decide_eq_false g1, decide_eq_false g2]
          rfl
        have ha : IntKind.i64.wrap (40 * fi 0 (tabT.getD st.toNat .nilp)) = 40 * wT st := by rw [hw, wrap_i64 (by omega) (by omega)]
        rw [decide_eq_false g1, decide_eq_false g2, g3, ha]
        have hk := key (40 * wT st) (by omega) (by omega)
        have hs1 : 40 * wT st + sumW (parts.drop 0) = 40 * wT st + sumW parts := by simp
        rw [hs1] at hk
        exact hk
end Go.Proofs.YtknoielhkilkpaaDoor.A
/- The rank is known. -/
namespace Go.Proofs.YtknoielhkilkpaaDoor.A
open Go Go.AM
def g26 : List D → Tree (List D)
  | [.agg [.int .i64 rt, .int .i64 nn, .sl eh _ hops, .str nm, .sl es _ steps, .int .i64 st, .int .i64 wy, .sl ep _ parts, .bool fc]] => match (Sh.beq eh hopSh && (Sh.beq es stepSh && Sh.beq ep partSh)) with
    | true => .ite (decide (steps.length ≤ 1000000)) (fun _ => .ite (decide (parts.length ≤ 1000000)) (fun _ => .ret [.int .i64 (rankR rt nn st wy fc hops steps parts nm)]) (fun _ => .stuck)) (fun _ => .stuck)
    | false => .stuck
  | _ => .stuck
theorem pure26 {P : Program} (hm : P.follows .mixedOrders = true) (h0 : EnvOK P E19) : PureOK P 26 g26 := PureOK.run hm h0 fun ds rs h => by
  unfold g26 at h
  split at h
  · rename_i rt nn eh n1 hops nm es n2 steps st wy ep n3 parts fc
    split at h
    · rename_i hb
      simp only [Bool.and_eq_true] at hb
      obtain ⟨hb3, hb4, hb5⟩ := hb
      have hb3 := Sh.beq_eq hb3
      have hb4 := Sh.beq_eq hb4
      have hb5 := Sh.beq_eq hb5
      subst hb3 hb4 hb5
      obtain ⟨hl, h⟩ := eval_guard h
      obtain ⟨hs, h⟩ := eval_guard h
      cases h
      exact ⟨(parts.length + 40) + 1, by rw [callN_succ (fn := c26) rfl]; exact run26 parts.length (parts.length + 40) rt nn st wy n1 n2 n3 fc hops steps parts nm (of_decide_eq_true hl) (of_decide_eq_true hs) (by omega)⟩
    · cases h
  · cases h
def E20 : Env := E19.pureAt 26 true g26
theorem ok20 {P : Program} (hm : P.follows .mixedOrders = true) (h0 : EnvOK P E19) : EnvOK P E20 := h0.pureAt (pure26 hm h0)
end Go.Proofs.YtknoielhkilkpaaDoor.A
/- Equations of the walk. -/
open Go Go.AM Go.Proofs
namespace Go.Proofs.YtknoielhkilkpaaDoor.A
theorem e7 (m n : Nat) (rt nn st wy : Int) (n1 n2 n3 fc : Bool) (hops steps parts : List D) (nm : List UInt8) (kd mr mn sp mw : Int) (k1 k2 : Bool) (mh ms : List D) (mm : List UInt8) : Tree.out (enterM E20 (callN E20 (m+40)) n c7 [.d (sagaD rt nn st wy n1 n2 n3 fc hops steps parts nm), .d (moveD kd mr mn sp mw k1 k2 mh ms mm)] []) = bif !few hops steps parts then some [D.bool true] else bif !fewM mh ms then some [D.bool true] else bif gd24 rt nn st wy n1 n2 n3 fc hops steps parts nm kd mh then bif arE (appR rt nn st wy fc hops steps parts nm kd mr mn sp mw mh ms mm) != (0 : Int) then some [D.bool true] else bif kd == (13 : Int) then some [D.bool true] else bif kd == (3 : Int) then bif decide (List.length (bif arOk (appR rt nn st wy fc hops steps parts nm kd mr mn sp mw mh ms mm) then steps else []) ≤ (1000000 : Nat)) then bif decide (List.length (arP (appR rt nn st wy fc hops steps parts nm kd mr mn sp mw mh ms mm)) ≤ (1000000 : Nat)) then bif decide (List.length steps ≤ (1000000 : Nat)) then bif decide (List.length parts ≤ (1000000 : Nat)) then bif rankR (bif arOk (appR rt nn st wy fc hops steps parts nm kd mr mn sp mw mh ms mm) then rt else (0 : Int)) (bif arOk (appR rt nn st wy fc hops steps parts nm kd mr mn sp mw mh ms mm) then nn else (0 : Int)) (arS (appR rt nn st wy fc hops steps parts nm kd mr mn sp mw mh ms mm)) (arW (appR rt nn st wy fc hops steps parts nm kd mr mn sp mw mh ms mm)) (arF (appR rt nn st wy fc hops steps parts nm kd mr mn sp mw mh ms mm)) (bif arOk (appR rt nn st wy fc hops steps parts nm kd mr mn sp mw mh ms mm) then hops else []) (bif arOk (appR rt nn st wy fc hops steps parts nm kd mr mn sp mw mh ms mm) then steps else []) (arP (appR rt nn st wy fc hops steps parts nm kd mr mn sp mw mh ms mm)) (bif arOk (appR rt nn st wy fc hops steps parts nm kd mr mn sp mw mh ms mm) then nm else []) == rankR rt nn st wy fc hops steps parts nm then some [D.bool true] else some [D.bool false] else none else none else none else none else bif decide (List.length (bif arOk (appR rt nn st wy fc hops steps parts nm kd mr mn sp mw mh ms mm) then steps else []) ≤ (1000000 : Nat)) then bif decide (List.length (arP (appR rt nn st wy fc hops steps parts nm kd mr mn sp mw mh ms mm)) ≤ (1000000 : Nat)) then bif decide (List.length steps ≤ (1000000 : Nat)) then bif decide (List.length parts ≤ (1000000 : Nat)) then bif decide (rankR (bif arOk (appR rt nn st wy fc hops steps parts nm kd mr mn sp mw mh ms mm) then rt else (0 : Int)) (bif arOk (appR rt nn st wy fc hops steps parts nm kd mr mn sp mw mh ms mm) then nn else (0 : Int)) (arS (appR rt nn st wy fc hops steps parts nm kd mr mn sp mw mh ms mm)) (arW (appR rt nn st wy fc hops steps parts nm kd mr mn sp mw mh ms mm)) (arF (appR rt nn st wy fc hops steps parts nm kd mr mn sp mw mh ms mm)) (bif arOk (appR rt nn st wy fc hops steps parts nm kd mr mn sp mw mh ms mm) then hops else []) (bif arOk (appR rt nn st wy fc hops steps parts nm kd mr mn sp mw mh ms mm) then steps else []) (arP (appR rt nn st wy fc hops steps parts nm kd mr mn sp mw mh ms mm)) (bif arOk (appR rt nn st wy fc hops steps parts nm kd mr mn sp mw mh ms mm) then nm else []) < rankR rt nn st wy fc hops steps parts nm) then bif decide (List.length (bif arOk (appR rt nn st wy fc hops steps parts nm kd mr mn sp mw mh ms mm) then steps else []) ≤ (1000000 : Nat)) then bif decide (List.length (arP (appR rt nn st wy fc hops steps parts nm kd mr mn sp mw mh ms mm)) ≤ (1000000 : Nat)) then bif decide ((0 : Int) ≤ rankR (bif arOk (appR rt nn st wy fc hops steps parts nm kd mr mn sp mw mh ms mm) then rt else (0 : Int)) (bif arOk (appR rt nn st wy fc hops steps parts nm kd mr mn sp mw mh ms mm) then nn else (0 : Int)) (arS (appR rt nn st wy fc hops steps parts nm kd mr mn sp mw mh ms mm)) (arW (appR rt nn st wy fc hops steps parts nm kd mr mn sp mw mh ms mm)) (arF (appR rt nn st wy fc hops steps parts nm kd mr mn sp mw mh ms mm)) (bif arOk (appR rt nn st wy fc hops steps parts nm kd mr mn sp mw mh ms mm) then hops else []) (bif arOk (appR rt nn st wy fc hops steps parts nm kd mr mn sp mw mh ms mm) then steps else []) (arP (appR rt nn st wy fc hops steps parts nm kd mr mn sp mw mh ms mm)) (bif arOk (appR rt nn st wy fc hops steps parts nm kd mr mn sp mw mh ms mm) then nm else [])) then some [D.bool true] else some [D.bool false] else none else none else some [D.bool false] else none else none else none else none else none := by kernel_rfl
end Go.Proofs.YtknoielhkilkpaaDoor.A
/- NextRanks: the walk and the law joined. -/
namespace Go.Proofs.YtknoielhkilkpaaDoor.A
open Go Go.AM
theorem rankV_nonneg (st : Int) (parts : List D) : 0 ≤ rankV st parts := by
  have h1 := wT_bounds st
  have h2 := sumW_nonneg parts
  unfold rankV
  omega
theorem rankR_nonneg (rt nn st wy : Int) (fc : Bool) (hops steps parts : List D) (nm : List UInt8) : 0 ≤ rankR rt nn st wy fc hops steps parts nm := by
  unfold rankR
  cases mayOk rt nn st wy fc hops steps parts nm
  · exact Int.le_refl _
  · exact rankV_nonneg st parts
theorem ranks_tail {kd r r' : Int} {a b c d : Nat} (ha : a ≤ 1000000) (hb : b ≤ 1000000) (hc : c ≤ 1000000) (hd : d ≤ 1000000) (h : kd = 13 ∨ kd = 3 ∧ r' = r ∨ kd ≠ 3 ∧ r' < r ∧ 0 ≤ r') :
    (bif kd == 13 then some [D.bool true] else bif kd == 3 then bif decide (a ≤ 1000000) then bif decide (b ≤ 1000000) then bif decide (c ≤ 1000000) then bif decide (d ≤ 1000000) then bif r' == r then some [D.bool true] else some [D.bool false] else none else none else none else none
      else bif decide (a ≤ 1000000) then bif decide (b ≤ 1000000) then bif decide (c ≤ 1000000) then bif decide (d ≤ 1000000) then bif decide (r' < r) then bif decide (a ≤ 1000000) then bif decide (b ≤ 1000000) then bif decide (0 ≤ r') then some [D.bool true] else some [D.bool false] else none else none else some [D.bool false] else none else none else none else none) = some [D.bool true] := by
  rw [decide_eq_true ha, decide_eq_true hb, decide_eq_true hc, decide_eq_true hd]
  rcases h with rfl | ⟨rfl, rfl⟩ | ⟨h3, h4, h5⟩
  · rfl
  · simp
  · rw [beqF h3, decide_eq_true h4, decide_eq_true h5]
    cases (kd == 13) <;> rfl
theorem ranks (m n : Nat) (rt nn st wy : Int) (n1 n2 n3 fc : Bool) (hops steps parts : List D) (nm : List UInt8) (kd mr mn sp mw : Int) (k1 k2 : Bool) (mh ms : List D) (mm : List UInt8) (h1 : n1 = true → hops = []) (h2 : n2 = true → steps = []) (h3 : n3 = true → parts = []) :
    Tree.out (enterM E20 (callN E20 (m+40)) n c7 [.d (sagaD rt nn st wy n1 n2 n3 fc hops steps parts nm), .d (moveD kd mr mn sp mw k1 k2 mh ms mm)] []) = some [.bool true] := by
  rw [e7]
  cases hf : few hops steps parts
  · rfl
  · cases hf2 : fewM mh ms
    · rfl
    · unfold few at hf
      unfold fewM at hf2
      simp only [Bool.and_eq_true, decide_eq_true_eq] at hf hf2
      obtain ⟨f1, f2, f3⟩ := hf
      obtain ⟨f4, f5⟩ := hf2
      have l1 : decide (hops.length ≤ 1000000) = true := decide_eq_true (by omega)
      have l2 : decide (steps.length ≤ 1000000) = true := decide_eq_true (by omega)
      have l3 : decide (parts.length ≤ 1000000) = true := decide_eq_true (by omega)
      have l4 : decide (mh.length ≤ 1000000) = true := decide_eq_true (by omega)
      have hn1 : (!n1 || hops.isEmpty) = true := by
        cases n1 with
        | false => rfl
        | true => rw [h1 rfl]; rfl
      have hgd : gd24 rt nn st wy n1 n2 n3 fc hops steps parts nm kd mh = true := by
        unfold gd24
        rw [l1, l2, l3, l4, hn1]
        cases hm : mayOk rt nn st wy fc hops steps parts nm
        · rfl
        · by_cases h7 : st = 7
          · subst h7; rfl
          · have hg := mayOk_good hm h7
            have hp2 := hg.pos
            have hp3 := hg.len
            have n2f : n2 = false := by
              cases n2 with
              | false => rfl
              | true => rw [h2 rfl] at hp2; simp at hp2
            have n3f : n3 = false := by
              cases n3 with
              | false => rfl
              | true => rw [h3 rfl] at hp3; simp only [List.length_nil] at hp3; omega
            rw [n2f, n3f]
            simp
      rw [hgd]
      simp only [Bool.not_true, cond_true, cond_false]
      cases ha : (arE (appR rt nn st wy fc hops steps parts nm kd mr mn sp mw mh ms mm) != 0)
      · have ha : arE (appR rt nn st wy fc hops steps parts nm kd mr mn sp mw mh ms mm) = 0 := by simpa using ha
        obtain ⟨hm, h7, hmv, s, w, f, p, hR, hA, hpl⟩ := appR_good ha
        have hg := mayOk_good hm h7
        have hsp := moveOk_sp hmv
        have hkd := moveOk_kd hmv
        rw [hR]
        refine ranks_tail (show steps.length ≤ 1000000 by omega) (show p.length ≤ 1000000 by omega) (by omega) (by omega) ?_
        by_cases h13 : kd = 13
        · exact .inl h13
        · by_cases hk3 : kd = 3
          · subst hk3
            exact .inr (.inl ⟨rfl, fail_rank hm h7 hsp hA⟩)
          · have hless := rank_less hg hsp hkd hk3 h13 hA
            have hnn := rankV_nonneg s p
            have hlt : rankR rt nn s w f hops steps p nm < rankR rt nn st wy fc hops steps parts nm := by
              unfold rankR
              rw [hm]
              cases mayOk rt nn s w f hops steps p nm
              · simp only [cond_true, cond_false]; omega
              · simp only [cond_true]; exact hless
            exact .inr (.inr ⟨hk3, hlt, rankR_nonneg rt nn s w f hops steps p nm⟩)
      · rfl
end Go.Proofs.YtknoielhkilkpaaDoor.A
