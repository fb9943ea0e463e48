/- What a move makes of a saga, told kind by kind. -/
import Derived.Test.YtknoielhkilkpaaDoorHe
import Derived.Test.YtknoielhkilkpaaDoorGc
import Derived.KernelRfl

namespace Go.Proofs.YtknoielhkilkpaaDoor.A
open Go Go.AM
abbrev part (s t : Int) : D := D.agg [.int .i64 s, .int .i64 t]
abbrev stAt (parts : List D) (c : Nat) : Int := fi 0 (parts.getD c .nilp)
abbrev trAt (parts : List D) (c : Nat) : Int := fi 1 (parts.getD c .nilp)
abbrev loc (steps : List D) (c : Nat) : Bool := fs 4 (steps.getD c .nilp) == []
/-- a move that is made -/
inductive Mv (st wy : Int) (fc : Bool) (hops parts steps : List D) (sp mw : Int) : Int → Int → Int → Bool → List D → Prop where
  | fail (hl : sp.toNat < parts.length) (hc : sp = cur st parts) (ha : loc steps sp.toNat = true) (hs : st = 1 ∧ trAt parts sp.toNat < fi 5 (steps.getD sp.toNat .nilp) ∨ st = 4 ∧ trAt parts sp.toNat < 5) : Mv st wy fc hops parts steps sp mw 3 st wy fc (parts.set sp.toNat (part (stAt parts sp.toNat) (IntKind.i64.wrap (trAt parts sp.toNat + 1))))
  | does (hl : sp.toNat < parts.length) (hc : sp = cur st parts) (ha : loc steps sp.toNat = true) (hs : st = 1) : Mv st wy fc hops parts steps sp mw 4 st wy fc (parts.set sp.toNat (part 2 0))
  | ask (hl : sp.toNat < parts.length) (hc : sp = cur st parts) (ha : loc steps sp.toNat = false) (hs : st = 1) (h0 : stAt parts sp.toNat = 0) : Mv st wy fc hops parts steps sp mw 5 st wy fc (parts.set sp.toNat (part 1 (trAt parts sp.toNat)))
  | got (hl : sp.toNat < parts.length) (hc : sp = cur st parts) (ha : loc steps sp.toNat = false) (hs : st = 1) (h0 : stAt parts sp.toNat = 1) : Mv st wy fc hops parts steps sp mw 6 st wy fc (parts.set sp.toNat (part 2 (trAt parts sp.toNat)))
  | lost (hl : sp.toNat < parts.length) (ha : loc steps sp.toNat = false) (ho : fc = true ∨ st ≠ 3 ∧ st ≠ 6) (h0 : stAt parts sp.toNat = 1 ∨ stAt parts sp.toNat = 2) : Mv st wy fc hops parts steps sp mw 7 st wy fc (parts.set sp.toNat (part 3 (trAt parts sp.toNat)))
  | hold (hs : st = 1) (hh : 0 < hops.length) (hd : allI p135 parts.length parts steps = true) : Mv st wy fc hops parts steps sp mw 8 2 0 fc parts
  | commit (hs : st = 1 ∧ hops.length = 0 ∨ st = 2) (hd : allI p135 parts.length parts steps = true) : Mv st wy fc hops parts steps sp mw 9 3 0 fc (ownParts 4 parts steps)
  | back (hs : st = 1 ∨ st = 2 ∧ (mw = 7 ∨ mw = 5 ∧ allI (p97 [.int .i64 3]) parts.length parts steps = false)) : Mv st wy fc hops parts steps sp mw 10 4 mw fc (calmParts parts)
  | undo (hl : sp.toNat < parts.length) (hc : sp = cur st parts) (ha : loc steps sp.toNat = true) (hs : st = 4) : Mv st wy fc hops parts steps sp mw 11 st wy fc (parts.set sp.toNat (part 3 0))
  | jam (hl : sp.toNat < parts.length) (hc : sp = cur st parts) (ha : loc steps sp.toNat = true) (hs : st = 4) (h5 : trAt parts sp.toNat = 5) : Mv st wy fc hops parts steps sp mw 12 5 wy fc parts
  | again (hs : st = 5) : Mv st wy fc hops parts steps sp mw 13 4 wy fc (parts.set (cur st parts).toNat (part (stAt parts (cur st parts).toNat) 0))
  | ends (hs : st = 4) (hc : cur st parts < 0) : Mv st wy fc hops parts steps sp mw 14 6 wy fc parts
  | kept (hl : sp.toNat < parts.length) (ha : loc steps sp.toNat = false) (hs : st = 3) (h0 : stAt parts sp.toNat = 2) : Mv st wy fc hops parts steps sp mw 15 st wy fc (parts.set sp.toNat (part 4 (trAt parts sp.toNat)))
  | forceC (hs : st ≠ 3) (hs6 : st ≠ 6) (h1 : sp = 1) : Mv st wy fc hops parts steps sp mw 16 3 wy true (ownParts 4 (calmParts parts) steps)
  | forceU (hs : st ≠ 3) (hs6 : st ≠ 6) (h1 : sp ≠ 1) : Mv st wy fc hops parts steps sp mw 16 6 wy true (ownParts 3 (calmParts parts) steps)
theorem good_inj {s w s' w' : Int} {f f' : Bool} {p p' : List D} (h : AR.good s w f p = .good s' w' f' p') : s' = s ∧ w' = w ∧ f' = f ∧ p' = p := by
  cases h
  exact ⟨rfl, rfl, rfl, rfl⟩
theorem apply_mv3 {st wy : Int} {fc : Bool} {hops steps parts : List D} {sp mw : Int} {s w : Int} {f : Bool} {p : List D} (_hs0 : 0 ≤ sp)
    (h : ap3 st wy fc hops parts steps sp mw = .good s w f p) : Mv st wy fc hops parts steps sp mw 3 s w f p := by
  unfold ap3 at h
  simp only [Bool.cond_eq_ite] at h
  repeat' split at h
  all_goals first | (cases h; done) | (obtain ⟨rfl, rfl, rfl, rfl⟩ := good_inj h; clear h; simp only [beq_iff_eq, Bool.not_eq_true', decide_eq_true_eq, Bool.not_not, beq_eq_false_iff_ne, ne_eq] at *)
  all_goals first | (refine .fail ?_ ?_ ?_ ?_ <;> first | omega | assumption | (first | exact .inl ⟨by assumption, by assumption⟩ | exact .inr ⟨by assumption, by assumption⟩) | (unfold loc; simp_all; done) | (simp_all; done))
theorem apply_mv4 {st wy : Int} {fc : Bool} {hops steps parts : List D} {sp mw : Int} {s w : Int} {f : Bool} {p : List D} (_hs0 : 0 ≤ sp)
    (h : ap4 st wy fc hops parts steps sp mw = .good s w f p) : Mv st wy fc hops parts steps sp mw 4 s w f p := by
  unfold ap4 at h
  simp only [Bool.cond_eq_ite] at h
  repeat' split at h
  all_goals first | (cases h; done) | (obtain ⟨rfl, rfl, rfl, rfl⟩ := good_inj h; clear h; simp only [beq_iff_eq, Bool.not_eq_true', decide_eq_true_eq, Bool.not_not, beq_eq_false_iff_ne, ne_eq] at *)
  all_goals first | (refine .does ?_ ?_ ?_ ?_ <;> first | omega | assumption | (first | exact .inl ⟨by assumption, by assumption⟩ | exact .inr ⟨by assumption, by assumption⟩) | (unfold loc; simp_all; done) | (simp_all; done))
theorem apply_mv5 {st wy : Int} {fc : Bool} {hops steps parts : List D} {sp mw : Int} {s w : Int} {f : Bool} {p : List D} (_hs0 : 0 ≤ sp)
    (h : ap5 st wy fc hops parts steps sp mw = .good s w f p) : Mv st wy fc hops parts steps sp mw 5 s w f p := by
  unfold ap5 at h
  simp only [Bool.cond_eq_ite, hasI_or] at h
  repeat' split at h
  all_goals first | (cases h; done) | (obtain ⟨rfl, rfl, rfl, rfl⟩ := good_inj h; clear h; simp only [beq_iff_eq, Bool.not_eq_true', decide_eq_true_eq, beq_eq_false_iff_ne, ne_eq] at *)
  all_goals first | (refine .ask ?_ ?_ ?_ ?_ ?_ <;> first | omega | assumption | (first | exact .inl ⟨by assumption, by assumption⟩ | exact .inr ⟨by assumption, by assumption⟩) | (unfold loc; simp_all; done) | (simp_all; done))
theorem apply_mv6 {st wy : Int} {fc : Bool} {hops steps parts : List D} {sp mw : Int} {s w : Int} {f : Bool} {p : List D} (_hs0 : 0 ≤ sp)
    (h : ap6 st wy fc hops parts steps sp mw = .good s w f p) : Mv st wy fc hops parts steps sp mw 6 s w f p := by
  unfold ap6 at h
  simp only [Bool.cond_eq_ite, hasI_or] at h
  repeat' split at h
  all_goals first | (cases h; done) | (obtain ⟨rfl, rfl, rfl, rfl⟩ := good_inj h; clear h; simp only [beq_iff_eq, Bool.not_eq_true', decide_eq_true_eq, beq_eq_false_iff_ne, ne_eq] at *)
  all_goals first | (refine .got ?_ ?_ ?_ ?_ ?_ <;> first | omega | assumption | (first | exact .inl ⟨by assumption, by assumption⟩ | exact .inr ⟨by assumption, by assumption⟩) | (unfold loc; simp_all; done) | (simp_all; done))
theorem apply_mv7 {st wy : Int} {fc : Bool} {hops steps parts : List D} {sp mw : Int} {s w : Int} {f : Bool} {p : List D} (_hs0 : 0 ≤ sp)
    (h : ap7 st wy fc hops parts steps sp mw = .good s w f p) : Mv st wy fc hops parts steps sp mw 7 s w f p := by
  unfold ap7 at h
  simp only [Bool.cond_eq_ite, hasI_or2, Bool.or_eq_true, bne_iff_ne] at h
  repeat' split at h
  all_goals first | (cases h; done) | (obtain ⟨rfl, rfl, rfl, rfl⟩ := good_inj h; clear h; simp only [beq_iff_eq, Bool.not_eq_true', decide_eq_true_eq, beq_eq_false_iff_ne, ne_eq] at *)
  all_goals first | (refine .lost ?_ ?_ ?_ ?_ <;> first | omega | assumption | (first | exact .inl ⟨by assumption, by assumption⟩ | exact .inr ⟨by assumption, by assumption⟩) | (unfold loc; simp_all; done) | (simp_all; done))
theorem apply_mv8 {st wy : Int} {fc : Bool} {hops steps parts : List D} {sp mw : Int} {s w : Int} {f : Bool} {p : List D} (_hs0 : 0 ≤ sp)
    (h : ap8 st wy fc hops parts steps sp mw = .good s w f p) : Mv st wy fc hops parts steps sp mw 8 s w f p := by
  unfold ap8 at h
  simp only [Bool.cond_eq_ite] at h
  repeat' split at h
  all_goals first | (cases h; done) | (obtain ⟨rfl, rfl, rfl, rfl⟩ := good_inj h; clear h; simp only [beq_iff_eq, decide_eq_true_eq] at *)
  all_goals first | (refine .hold ?_ ?_ ?_ <;> first | omega | assumption | (first | exact .inl ⟨by assumption, by assumption⟩ | exact .inr ⟨by assumption, by assumption⟩) | (unfold loc; simp_all; done) | (simp_all; done))
theorem apply_mv9 {st wy : Int} {fc : Bool} {hops steps parts : List D} {sp mw : Int} {s w : Int} {f : Bool} {p : List D} (_hs0 : 0 ≤ sp)
    (h : ap9 st wy fc hops parts steps sp mw = .good s w f p) : Mv st wy fc hops parts steps sp mw 9 s w f p := by
  unfold ap9 at h
  simp only [Bool.cond_eq_ite] at h
  repeat' split at h
  all_goals first | (cases h; done) | (obtain ⟨rfl, rfl, rfl, rfl⟩ := good_inj h; clear h; simp only [beq_iff_eq, Bool.not_eq_true', beq_eq_false_iff_ne, ne_eq] at *)
  all_goals first | (refine .commit ?_ ?_ <;> first | omega | assumption | (first | exact .inl ⟨by assumption, by assumption⟩ | exact .inr ⟨by assumption, by assumption⟩) | (unfold loc; simp_all; done) | (simp_all; done))
theorem apply_mv10 {st wy : Int} {fc : Bool} {hops steps parts : List D} {sp mw : Int} {s w : Int} {f : Bool} {p : List D} (_hs0 : 0 ≤ sp)
    (h : ap10 st wy fc hops parts steps sp mw = .good s w f p) : Mv st wy fc hops parts steps sp mw 10 s w f p := by
  unfold ap10 at h
  simp only [Bool.cond_eq_ite] at h
  repeat' split at h
  all_goals first | (cases h; done) | (obtain ⟨rfl, rfl, rfl, rfl⟩ := good_inj h; clear h; simp only [beq_iff_eq, Bool.not_eq_true', Bool.not_not, beq_eq_false_iff_ne, ne_eq] at *)
  all_goals first | (refine .back ?_ <;> first | omega | assumption | (first | exact .inl ⟨by assumption, by assumption⟩ | exact .inr ⟨by assumption, by assumption⟩) | (unfold loc; simp_all; done) | (simp_all; done))
theorem apply_mv11 {st wy : Int} {fc : Bool} {hops steps parts : List D} {sp mw : Int} {s w : Int} {f : Bool} {p : List D} (_hs0 : 0 ≤ sp)
    (h : ap11 st wy fc hops parts steps sp mw = .good s w f p) : Mv st wy fc hops parts steps sp mw 11 s w f p := by
  unfold ap11 at h
  simp only [Bool.cond_eq_ite] at h
  repeat' split at h
  all_goals first | (cases h; done) | (obtain ⟨rfl, rfl, rfl, rfl⟩ := good_inj h; clear h; simp only [beq_iff_eq, Bool.not_eq_true', decide_eq_true_eq, Bool.not_not, beq_eq_false_iff_ne, ne_eq] at *)
  all_goals first | (refine .undo ?_ ?_ ?_ ?_ <;> first | omega | assumption | (first | exact .inl ⟨by assumption, by assumption⟩ | exact .inr ⟨by assumption, by assumption⟩) | (unfold loc; simp_all; done) | (simp_all; done))
theorem apply_mv12 {st wy : Int} {fc : Bool} {hops steps parts : List D} {sp mw : Int} {s w : Int} {f : Bool} {p : List D} (_hs0 : 0 ≤ sp)
    (h : ap12 st wy fc hops parts steps sp mw = .good s w f p) : Mv st wy fc hops parts steps sp mw 12 s w f p := by
  unfold ap12 at h
  simp only [Bool.cond_eq_ite] at h
  repeat' split at h
  all_goals first | (cases h; done) | (obtain ⟨rfl, rfl, rfl, rfl⟩ := good_inj h; clear h; simp only [beq_iff_eq, Bool.not_eq_true', decide_eq_true_eq, Bool.not_not, beq_eq_false_iff_ne, ne_eq] at *)
  all_goals first | (refine .jam ?_ ?_ ?_ ?_ ?_ <;> first | omega | assumption | (first | exact .inl ⟨by assumption, by assumption⟩ | exact .inr ⟨by assumption, by assumption⟩) | (unfold loc; simp_all; done) | (simp_all; done))
theorem apply_mv13 {st wy : Int} {fc : Bool} {hops steps parts : List D} {sp mw : Int} {s w : Int} {f : Bool} {p : List D} (_hs0 : 0 ≤ sp)
    (h : ap13 st wy fc hops parts steps sp mw = .good s w f p) : Mv st wy fc hops parts steps sp mw 13 s w f p := by
  unfold ap13 at h
  simp only [Bool.cond_eq_ite, bne_iff_ne] at h
  repeat' split at h
  all_goals first | (cases h; done) | (obtain ⟨rfl, rfl, rfl, rfl⟩ := good_inj h; clear h; simp only [beq_iff_eq, ne_eq] at *)
  all_goals first | (refine .again ?_ <;> first | omega | assumption | (first | exact .inl ⟨by assumption, by assumption⟩ | exact .inr ⟨by assumption, by assumption⟩) | (unfold loc; simp_all; done) | (simp_all; done))
theorem apply_mv14 {st wy : Int} {fc : Bool} {hops steps parts : List D} {sp mw : Int} {s w : Int} {f : Bool} {p : List D} (_hs0 : 0 ≤ sp)
    (h : ap14 st wy fc hops parts steps sp mw = .good s w f p) : Mv st wy fc hops parts steps sp mw 14 s w f p := by
  unfold ap14 at h
  simp only [Bool.cond_eq_ite] at h
  repeat' split at h
  all_goals first | (cases h; done) | (obtain ⟨rfl, rfl, rfl, rfl⟩ := good_inj h; clear h; simp only [beq_iff_eq, decide_eq_true_eq] at *)
  all_goals first | (refine .ends ?_ ?_ <;> first | omega | assumption | (first | exact .inl ⟨by assumption, by assumption⟩ | exact .inr ⟨by assumption, by assumption⟩) | (unfold loc; simp_all; done) | (simp_all; done))
theorem apply_mv15 {st wy : Int} {fc : Bool} {hops steps parts : List D} {sp mw : Int} {s w : Int} {f : Bool} {p : List D} (_hs0 : 0 ≤ sp)
    (h : ap15 st wy fc hops parts steps sp mw = .good s w f p) : Mv st wy fc hops parts steps sp mw 15 s w f p := by
  unfold ap15 at h
  simp only [Bool.cond_eq_ite, hasI_or] at h
  repeat' split at h
  all_goals first | (cases h; done) | (obtain ⟨rfl, rfl, rfl, rfl⟩ := good_inj h; clear h; simp only [beq_iff_eq, Bool.not_eq_true', decide_eq_true_eq, beq_eq_false_iff_ne, ne_eq] at *)
  all_goals first | (refine .kept ?_ ?_ ?_ ?_ <;> first | omega | assumption | (first | exact .inl ⟨by assumption, by assumption⟩ | exact .inr ⟨by assumption, by assumption⟩) | (unfold loc; simp_all; done) | (simp_all; done))
theorem apply_mv16 {st wy : Int} {fc : Bool} {hops steps parts : List D} {sp mw : Int} {s w : Int} {f : Bool} {p : List D} (_hs0 : 0 ≤ sp)
    (h : ap16 st wy fc hops parts steps sp mw = .good s w f p) : Mv st wy fc hops parts steps sp mw 16 s w f p := by
  unfold ap16 at h
  simp only [Bool.cond_eq_ite] at h
  repeat' split at h
  all_goals first | (cases h; done) | (obtain ⟨rfl, rfl, rfl, rfl⟩ := good_inj h; clear h; simp only [beq_iff_eq] at *)
  all_goals first | (refine .forceC ?_ ?_ ?_ <;> first | omega | assumption | (first | exact .inl ⟨by assumption, by assumption⟩ | exact .inr ⟨by assumption, by assumption⟩) | (unfold loc; simp_all; done) | (simp_all; done)) | (refine .forceU ?_ ?_ ?_ <;> first | omega | assumption | (first | exact .inl ⟨by assumption, by assumption⟩ | exact .inr ⟨by assumption, by assumption⟩) | (unfold loc; simp_all; done) | (simp_all; done))
theorem apply_mv {st wy : Int} {fc : Bool} {hops steps parts : List D} {kd sp mw : Int} {s w : Int} {f : Bool} {p : List D} (hs0 : 0 ≤ sp) (hk : 1 ≤ kd ∧ kd ≤ 16)
    (h : applyR st wy fc hops parts steps kd sp mw = .good s w f p) : Mv st wy fc hops parts steps sp mw kd s w f p := by
  have hkk : kd = 1 ∨ kd = 2 ∨ kd = 3 ∨ kd = 4 ∨ kd = 5 ∨ kd = 6 ∨ kd = 7 ∨ kd = 8 ∨ kd = 9 ∨ kd = 10 ∨ kd = 11 ∨ kd = 12 ∨ kd = 13 ∨ kd = 14 ∨ kd = 15 ∨ kd = 16 := by omega
  rcases hkk with rfl | rfl | rfl | rfl | rfl | rfl | rfl | rfl | rfl | rfl | rfl | rfl | rfl | rfl | rfl | rfl
  · replace h : ap1 st wy fc hops parts steps sp mw = .good s w f p := h
    unfold ap1 at h
    rw [cself] at h; cases h
  · replace h : ap2 st wy fc hops parts steps sp mw = .good s w f p := h
    unfold ap2 at h
    rw [cself] at h; cases h
  · exact apply_mv3 hs0 h
  · exact apply_mv4 hs0 h
  · exact apply_mv5 hs0 h
  · exact apply_mv6 hs0 h
  · exact apply_mv7 hs0 h
  · exact apply_mv8 hs0 h
  · exact apply_mv9 hs0 h
  · exact apply_mv10 hs0 h
  · exact apply_mv11 hs0 h
  · exact apply_mv12 hs0 h
  · exact apply_mv13 hs0 h
  · exact apply_mv14 hs0 h
  · exact apply_mv15 hs0 h
  · exact apply_mv16 hs0 h
end Go.Proofs.YtknoielhkilkpaaDoor.A
/- A move that is made leads to a saga that may be. -/
namespace Go.Proofs.YtknoielhkilkpaaDoor.A
open Go Go.AM
theorem q47 {x y : D} : p47 x y = true ↔ 0 ≤ fi 0 x ∧ fi 0 x ≤ 4 ∧ ((fs 4 y == []) = false ∨ fi 0 x ≠ 1) ∧ 0 ≤ fi 1 x ∧ fi 1 x ≤ 5 := by
  simp only [p47, asksAt, Bool.and_eq_true, Bool.or_eq_true, decide_eq_true_eq, bne_iff_ne, ne_eq, Bool.not_eq_true']
theorem q80 {x y : D} : p80 x y = true ↔ fi 0 x = 2 ∨ (fs 4 y == []) = false ∧ fi 0 x = 3 := by
  simp only [p80, asksAt, Bool.and_eq_true, Bool.or_eq_true, beq_iff_eq, Bool.not_eq_true']
theorem q81 {x y : D} : p81 x y = true ↔ (fs 4 y == []) = false ∨ fi 0 x ≠ 2 := by
  simp only [p81, asksAt, Bool.or_eq_true, Bool.not_eq_true', beq_eq_false_iff_ne, ne_eq]
theorem q83 {x y : D} : p83 x y = true ↔ fi 0 x = 4 ∨ (fs 4 y == []) = false ∧ fi 0 x = 2 := by
  simp only [p83, asksAt, Bool.and_eq_true, Bool.or_eq_true, beq_iff_eq, Bool.not_eq_true']
theorem q84 {x y : D} : p84 x y = true ↔ (fs 4 y == []) = false ∨ fi 0 x ≠ 2 ∧ fi 0 x ≠ 4 := by
  simp only [p84, asksAt, Bool.or_eq_true, Bool.not_eq_true', Bool.or_eq_false_iff, beq_eq_false_iff_ne, ne_eq]
theorem q974 {x y : D} : p97 w4 x y = true ↔ fi 0 x ≠ 4 := by
  simp only [p97, w4, List.any_cons, List.any_nil, hasI_int, Bool.or_false, Bool.not_eq_true', beq_eq_false_iff_ne, ne_eq]
theorem q973 {x y : D} : p97 [.int .i64 3] x y = true ↔ fi 0 x ≠ 3 := by
  simp only [p97, List.any_cons, List.any_nil, hasI_int, Bool.or_false, Bool.not_eq_true', beq_eq_false_iff_ne, ne_eq]
theorem q97124 {x y : D} : p97 w124 x y = true ↔ fi 0 x ≠ 1 ∧ fi 0 x ≠ 2 ∧ fi 0 x ≠ 4 := by
  simp only [p97, w124, List.any_cons, List.any_nil, hasI_int, Bool.or_false, Bool.not_eq_true', Bool.or_eq_false_iff, beq_eq_false_iff_ne, ne_eq]
theorem q109 {b : Bool} {x y : D} : p109 b x y = true ↔ b = true ∧ (fi 0 x = 0 ∨ (fs 4 y == []) = false ∧ fi 0 x = 1) ∨ fi 0 x = 0 ∧ fi 1 x = 0 := by
  simp only [p109, asksAt, Bool.and_eq_true, Bool.or_eq_true, beq_iff_eq, Bool.not_eq_true']
theorem q135 {x y : D} : p135 x y = true ↔ fi 0 x = 2 := by simp only [p135, beq_iff_eq]
/-- the parts of a running saga: done, or gone at a child; from one on, that may be asked, nothing was begun -/
def Run (n : Nat) (s t : Nat → Int) (l : Nat → Bool) : Prop :=
  ∃ k, k ≤ n ∧ (∀ j, j < k → s j = 2 ∨ l j = false ∧ s j = 3) ∧ ∀ j, k ≤ j → j < n → j = k ∧ (s j = 0 ∨ l j = false ∧ s j = 1) ∨ s j = 0 ∧ t j = 0
theorem tail_iff {parts steps : List D} {k : Nat} (_hk : k ≤ parts.length) : tailOk k parts steps = true ↔ ∀ j, k ≤ j → j < parts.length → j = k ∧ (stAt parts j = 0 ∨ loc steps j = false ∧ stAt parts j = 1) ∨ stAt parts j = 0 ∧ trAt parts j = 0 := by
  unfold tailOk
  rw [scan_all (fun i => p109 ((i : Int) == (k : Int)) (parts.getD i .nilp) (steps.getD i .nilp))]
  constructor
  · intro h j h1 h2
    have := q109.1 (h j h1 (by omega))
    rw [beq_iff_eq] at this
    rcases this with ⟨h3, h4⟩ | h4
    · exact .inl ⟨by omega, h4⟩
    · exact .inr h4
  · intro h j h1 h2
    refine q109.2 ?_
    rw [beq_iff_eq]
    rcases h j h1 (by omega) with ⟨h3, h4⟩ | h4
    · exact .inl ⟨by omega, h4⟩
    · exact .inr h4
theorem run_iff {parts steps : List D} : runOk parts steps = true ↔ Run parts.length (stAt parts) (trAt parts) (loc steps) := by
  have first : ∀ n (p : Nat → Bool), ∃ k, k ≤ n ∧ (∀ j, j < k → p j = true) ∧ (k < n → p k = false) := by
    intro n p
    induction n with
    | zero => exact ⟨0, by omega, fun j hj => by omega, fun h => by omega⟩
    | succ n ih =>
      obtain ⟨k, h1, h2, h3⟩ := ih
      by_cases hk : k < n
      · exact ⟨k, by omega, h2, fun _ => h3 hk⟩
      · have : k = n := by omega
        subst this
        cases hp : p k
        · exact ⟨k, by omega, h2, fun _ => hp⟩
        · refine ⟨k + 1, by omega, fun j hj => ?_, fun h => by omega⟩
          by_cases he : j = k
          · rw [he]; exact hp
          · exact h2 j (by omega)
  obtain ⟨k, h1, h2, h3⟩ := first parts.length (fun i => p80 (parts.getD i .nilp) (steps.getD i .nilp))
  have hr : runOk parts steps = tailOk k parts steps := by
    unfold runOk
    by_cases hk : k < parts.length
    · exact scan_first _ _ _ k _ _ (by omega) (by omega) (fun j _ hj => by rw [h2 j hj]; rfl) (by rw [h3 hk]; rfl)
    · have : k = parts.length := by omega
      subst this
      exact scan_none _ _ _ _ _ (fun j _ hj => by rw [h2 j (by omega)]; rfl)
  rw [hr, tail_iff h1]
  constructor
  · intro h
    exact ⟨k, h1, fun j hj => q80.1 (h2 j hj), h⟩
  · rintro ⟨k', g1, g2, g3⟩
    have : k = k' := by
      by_cases hlt : k' < k
      · exfalso
        have h4 := q80.1 (h2 k' hlt)
        have h5 := g3 k' (by omega) (by omega)
        have h4 : stAt parts k' = 2 ∨ loc steps k' = false ∧ stAt parts k' = 3 := h4
        omega
      · by_cases hgt : k < k'
        · exfalso
          have h4 := h3 (by omega)
          rw [q80.2 (g2 k hgt)] at h4
          cases h4
        · omega
    subst this
    exact g3
theorem all_iff {p : D → D → Bool} {parts steps : List D} {Q : Int → Int → Bool → Prop} (h : ∀ x y, p x y = true ↔ Q (fi 0 x) (fi 1 x) (fs 4 y == [])) : allI p parts.length parts steps = true ↔ ∀ i, i < parts.length → Q (stAt parts i) (trAt parts i) (loc steps i) := by
  rw [allI_iff]
  exact ⟨fun g i hi => (h _ _).1 (g i hi), fun g i hi => (h _ _).2 (g i hi)⟩
/-- parts and reason fit the status -/
inductive FitP (wy : Int) (fc : Bool) (hn n : Nat) (s t : Nat → Int) (l : Nat → Bool) (c : Int) : Int → Prop where
  | running (hf : fc = false) (hw : wy = 0) (hr : Run n s t l) : FitP wy fc hn n s t l c 1
  | held (hf : fc = false) (hw : wy = 0) (hh : 0 < hn) (ha : ∀ i, i < n → s i = 2 ∨ l i = false ∧ s i = 3) : FitP wy fc hn n s t l c 2
  | committedF (hf : fc = true) (hw : 0 ≤ wy ∧ wy ≤ 9) (ha : ∀ i, i < n → l i = false ∨ s i ≠ 2) : FitP wy fc hn n s t l c 3
  | committed (hf : fc = false) (hw : wy = 0) (ha : ∀ i, i < n → s i = 4 ∨ l i = false ∧ s i = 2) : FitP wy fc hn n s t l c 3
  | undoing (hf : fc = false) (hw : 1 ≤ wy ∧ wy ≤ 9) (ha : ∀ i, i < n → s i ≠ 4) : FitP wy fc hn n s t l c 4
  | stuck (hf : fc = false) (hw : 1 ≤ wy ∧ wy ≤ 9) (ha : ∀ i, i < n → s i ≠ 4) (hc : 0 ≤ c) (hl : l c.toNat = true) (h5 : t c.toNat = 5) : FitP wy fc hn n s t l c 5
  | compensatedF (hf : fc = true) (hw : 0 ≤ wy ∧ wy ≤ 9) (ha : ∀ i, i < n → l i = false ∨ s i ≠ 2 ∧ s i ≠ 4) : FitP wy fc hn n s t l c 6
  | compensated (hf : fc = false) (hw : 1 ≤ wy ∧ wy ≤ 9) (ha : ∀ i, i < n → s i ≠ 1 ∧ s i ≠ 2 ∧ s i ≠ 4) : FitP wy fc hn n s t l c 6
theorem undo_iff {st wy : Int} {fc : Bool} {parts steps : List D} (hs : st = 4 ∨ st = 5) : undoOk st wy fc parts steps = true ↔ fc = false ∧ (1 ≤ wy ∧ wy ≤ 9) ∧ (∀ i, i < parts.length → stAt parts i ≠ 4) ∧ (st = 5 → 0 ≤ cur st parts ∧ loc steps (cur st parts).toNat = true ∧ trAt parts (cur st parts).toNat = 5) := by
  have ha : allI (p97 w4) parts.length parts steps = true ↔ ∀ i, i < parts.length → stAt parts i ≠ 4 := all_iff (Q := fun s _ _ => s ≠ 4) fun x y => q974
  rw [← ha]
  unfold undoOk
  cases fc
  · by_cases h1 : 1 ≤ wy
    · by_cases h9 : wy ≤ 9
      · cases h4 : allI (p97 w4) parts.length parts steps
        · simp [h1, h9]
        · rcases hs with rfl | rfl
          · simp [h1, h9]
          · by_cases hc : 0 ≤ cur 5 parts
            · simp [h1, h9, hc, loc, trAt]
            · simp [h1, h9, hc]
      · simp [h1, h9]
    · simp [h1]
  · simp
theorem fits_iff {st wy : Int} {fc : Bool} {hops parts steps : List D} : fitsOk st wy fc hops parts steps = true ↔ FitP wy fc hops.length parts.length (stAt parts) (trAt parts) (loc steps) (cur st parts) st := by
  have e80 : allI p80 parts.length parts steps = true ↔ ∀ i, i < parts.length → stAt parts i = 2 ∨ loc steps i = false ∧ stAt parts i = 3 := all_iff (Q := fun s _ l => s = 2 ∨ l = false ∧ s = 3) fun x y => q80
  have e81 : allI p81 parts.length parts steps = true ↔ ∀ i, i < parts.length → loc steps i = false ∨ stAt parts i ≠ 2 := all_iff (Q := fun s _ l => l = false ∨ s ≠ 2) fun x y => q81
  have e83 : allI p83 parts.length parts steps = true ↔ ∀ i, i < parts.length → stAt parts i = 4 ∨ loc steps i = false ∧ stAt parts i = 2 := all_iff (Q := fun s _ l => s = 4 ∨ l = false ∧ s = 2) fun x y => q83
  have e84 : allI p84 parts.length parts steps = true ↔ ∀ i, i < parts.length → loc steps i = false ∨ stAt parts i ≠ 2 ∧ stAt parts i ≠ 4 := all_iff (Q := fun s _ l => l = false ∨ s ≠ 2 ∧ s ≠ 4) fun x y => q84
  have e124 : allI (p97 w124) parts.length parts steps = true ↔ ∀ i, i < parts.length → stAt parts i ≠ 1 ∧ stAt parts i ≠ 2 ∧ stAt parts i ≠ 4 := all_iff (Q := fun s _ _ => s ≠ 1 ∧ s ≠ 2 ∧ s ≠ 4) fun x y => q97124
  constructor
  · intro h
    rcases fits_st h with rfl | rfl | rfl | rfl | rfl | rfl
    · have h : (bif !fc then bif wy == 0 then runOk parts steps else false else false) = true := h
      cases fc <;> by_cases hw : wy = 0 <;> simp [hw] at h
      exact .running rfl hw (run_iff.1 h)
    · have h : (bif !fc then bif wy == 0 then bif decide (0 < (hops.length : Int)) then allI p80 parts.length parts steps else false else false else false) = true := h
      cases fc
      · by_cases hw : wy = 0
        · by_cases hh : 0 < (hops.length : Int)
          · rw [decide_eq_true hh, hw] at h
            exact .held rfl hw (by omega) (e80.1 h)
          · rw [decide_eq_false hh, hw] at h
            cases h
        · rw [beqF hw] at h
          cases h
      · cases h
    · have h : (bif fc then bif wy == 0 then allI p81 parts.length parts steps else bif decide (1 ≤ wy) then bif decide (wy ≤ 9) then allI p81 parts.length parts steps else false else false
          else bif wy == 0 then allI p83 parts.length parts steps else false) = true := h
      cases fc
      · by_cases hw : wy = 0
        · subst hw; exact .committed rfl rfl (e83.1 h)
        · simp [hw] at h
      · by_cases hw : wy = 0
        · subst hw; exact .committedF rfl (by omega) (e81.1 h)
        · by_cases h1 : 1 ≤ wy <;> by_cases h9 : wy ≤ 9 <;> simp [hw, h1, h9] at h
          exact .committedF rfl (by omega) (e81.1 h)
    · have h : undoOk 4 wy fc parts steps = true := h
      obtain ⟨a, b, c, -⟩ := (undo_iff (.inl rfl)).1 h
      exact .undoing a b c
    · have h : undoOk 5 wy fc parts steps = true := h
      obtain ⟨a, b, c, d⟩ := (undo_iff (.inr rfl)).1 h
      obtain ⟨d, e, f⟩ := d rfl
      exact .stuck a b c d e f
    · have h : (bif fc then bif wy == 0 then allI p84 parts.length parts steps else bif decide (1 ≤ wy) then bif decide (wy ≤ 9) then allI p84 parts.length parts steps else false else false
          else bif decide (1 ≤ wy) then bif decide (wy ≤ 9) then !!allI (p97 w124) parts.length parts steps else false else false) = true := h
      cases fc
      · by_cases h1 : 1 ≤ wy <;> by_cases h9 : wy ≤ 9 <;> simp [h1, h9] at h
        exact .compensated rfl ⟨h1, h9⟩ (e124.1 h)
      · by_cases hw : wy = 0
        · subst hw; exact .compensatedF rfl (by omega) (e84.1 h)
        · by_cases h1 : 1 ≤ wy <;> by_cases h9 : wy ≤ 9 <;> simp [hw, h1, h9] at h
          exact .compensatedF rfl (by omega) (e84.1 h)
  · intro h
    have key : ∀ s : Int, FitP wy fc hops.length parts.length (stAt parts) (trAt parts) (loc steps) (cur st parts) s → s = st → fitsOk s wy fc hops parts steps = true := by
      intro s h hs
      cases h with
      | running hf hw hr => subst hf hw; exact run_iff.2 hr
      | held hf hw hh ha =>
        subst hf hw
        have : decide (0 < (hops.length : Int)) = true := decide_eq_true (by omega)
        show (bif decide (0 < (hops.length : Int)) then allI p80 parts.length parts steps else false) = true
        rw [this]
        exact e80.2 ha
      | committedF hf hw ha =>
        subst hf
        show (bif wy == 0 then allI p81 parts.length parts steps else bif decide (1 ≤ wy) then bif decide (wy ≤ 9) then allI p81 parts.length parts steps else false else false) = true
        rw [e81.2 ha]
        by_cases hw0 : wy = 0
        · simp [hw0]
        · simp [show 1 ≤ wy by omega, hw.2]
      | committed hf hw ha => subst hf hw; exact e83.2 ha
      | undoing hf hw ha => exact (undo_iff (.inl rfl)).2 ⟨hf, hw, ha, fun h => by cases h⟩
      | stuck hf hw ha hc hl h5 => subst hs; exact (undo_iff (.inr rfl)).2 ⟨hf, hw, ha, fun _ => ⟨hc, hl, h5⟩⟩
      | compensatedF hf hw ha =>
        subst hf
        show (bif wy == 0 then allI p84 parts.length parts steps else bif decide (1 ≤ wy) then bif decide (wy ≤ 9) then allI p84 parts.length parts steps else false else false) = true
        rw [e84.2 ha]
        by_cases hw0 : wy = 0
        · simp [hw0]
        · simp [show 1 ≤ wy by omega, hw.2]
      | compensated hf hw ha =>
        subst hf
        show (bif decide (1 ≤ wy) then bif decide (wy ≤ 9) then !!allI (p97 w124) parts.length parts steps else false else false) = true
        rw [e124.2 ha]
        simp [hw.1, hw.2]
    exact key st h rfl
end Go.Proofs.YtknoielhkilkpaaDoor.A
/- Moves keep what a saga may be. -/
namespace Go.Proofs.YtknoielhkilkpaaDoor.A
open Go Go.AM
theorem st_set {parts : List D} {c : Nat} {a b : Int} (hc : c < parts.length) (j : Nat) : stAt (parts.set c (part a b)) j = if c = j then a else stAt parts j := by
  unfold stAt
  rw [getD_set hc]
  split <;> rfl
theorem tr_set {parts : List D} {c : Nat} {a b : Int} (hc : c < parts.length) (j : Nat) : trAt (parts.set c (part a b)) j = if c = j then b else trAt parts j := by
  unfold trAt
  rw [getD_set hc]
  split <;> rfl
theorem foldI_at (f : Nat → List D → List D) (u : Nat → D → D) (hl : ∀ i l, (f i l).length = l.length) (hf : ∀ i l j, i < l.length → (f i l).getD j .nilp = if j = i then u i (l.getD i .nilp) else l.getD j .nilp) :
    ∀ k i l, i + k ≤ l.length → ∀ j, (foldI f k i l).getD j .nilp = if i ≤ j ∧ j < i + k then u j (l.getD j .nilp) else l.getD j .nilp
  | 0, i, l, _, j => by
    simp only [foldI]
    rw [if_neg (by omega)]
  | k + 1, i, l, h, j => by
    simp only [foldI]
    rw [foldI_at f u hl hf k (i + 1) (f i l) (by rw [hl]; omega) j, hf i l j (by omega)]
    by_cases h1 : j = i
    · subst h1
      rw [if_neg (by omega), if_pos rfl, if_pos (by omega)]
    · by_cases h2 : i + 1 ≤ j ∧ j < i + 1 + k
      · rw [if_pos h2, if_neg h1, if_pos (by omega)]
      · rw [if_neg h2, if_neg h1, if_neg (by omega)]
theorem calm_at {parts : List D} {j : Nat} (hj : j < parts.length) : (calmParts parts).getD j .nilp = part (stAt parts j) 0 := by
  unfold calmParts
  rw [foldI_at fCalm (fun _ x => part (fi 0 x) 0) fCalm_len (fun i l j hi => ?_) parts.length 0 parts (by omega) j, if_pos (by omega)]
  unfold fCalm
  rw [getD_set hi]
  by_cases h : i = j
  · rw [if_pos h, if_pos h.symm]
  · rw [if_neg h, if_neg (fun e => h e.symm)]
theorem calm_st {parts : List D} {j : Nat} (hj : j < parts.length) : stAt (calmParts parts) j = stAt parts j := by unfold stAt; rw [calm_at hj]; rfl
theorem calm_tr {parts : List D} {j : Nat} (hj : j < parts.length) : trAt (calmParts parts) j = 0 := by unfold trAt; rw [calm_at hj]; rfl
theorem own_at {v : Int} {parts steps : List D} {j : Nat} (hj : j < parts.length) : (ownParts v parts steps).getD j .nilp = if loc steps j = true ∧ stAt parts j = 2 then part v 0 else parts.getD j .nilp := by
  unfold ownParts
  rw [foldI_at (fOwn v steps) (fun i x => if (fs 4 (steps.getD i .nilp) == []) = true ∧ fi 0 x = 2 then part v 0 else x) (fOwn_len v steps) (fun i l j hi => ?_) parts.length 0 parts (by omega) j, if_pos (by omega)]
  unfold fOwn
  cases h1 : (fs 4 (steps.getD i .nilp) == [])
  · by_cases h : j = i
    · subst h; simp
    · simp [h]
  · cases h2 : (fi 0 (l.getD i .nilp) == 2)
    · have h2 : ¬ fi 0 (l.getD i .nilp) = 2 := by simpa using h2
      by_cases h : j = i
      · subst h
        rw [if_pos rfl, if_neg (fun e => h2 e.2)]
        rfl
      · rw [if_neg h]; rfl
    · have h2 : fi 0 (l.getD i .nilp) = 2 := by simpa using h2
      simp only [cond_true]
      rw [getD_set hi]
      by_cases h : j = i
      · subst h
        rw [if_pos rfl, if_pos rfl, if_pos ⟨by first | trivial | rfl, h2⟩]
      · rw [if_neg (fun e => h e.symm), if_neg h]
theorem own_st {v : Int} {parts steps : List D} {j : Nat} (hj : j < parts.length) : stAt (ownParts v parts steps) j = if loc steps j = true ∧ stAt parts j = 2 then v else stAt parts j := by
  unfold stAt
  rw [own_at hj]
  split <;> rfl
theorem own_tr {v : Int} {parts steps : List D} {j : Nat} (hj : j < parts.length) : trAt (ownParts v parts steps) j = if loc steps j = true ∧ stAt parts j = 2 then 0 else trAt parts j := by
  unfold trAt
  rw [own_at hj]
  split <;> rfl
theorem cur1_spec {parts : List D} (hc : 0 ≤ cur 1 parts) : (cur 1 parts).toNat < parts.length ∧ stAt parts (cur 1 parts).toNat ≠ 2 ∧ ∀ i, i < (cur 1 parts).toNat → stAt parts i = 2 := by
  have hcur : cur 1 parts = idxOf notDone parts := rfl
  rw [hcur] at hc ⊢
  obtain ⟨h1, h2, h3⟩ := idxOf_pos hc
  exact ⟨h1, by simpa only [notDone, bne_iff_ne, ne_eq] using h2, fun i hi => by have := h3 i hi; simpa only [notDone, bne_eq_false_iff_eq] using this⟩
theorem open_iff {x : D} : isOpen x = true ↔ fi 0 x = 1 ∨ fi 0 x = 2 := by simp only [isOpen, Bool.or_false, Bool.or_eq_true, beq_iff_eq]
theorem cur5 (parts : List D) : cur 5 parts = lastFrom (fun i => isOpen (parts.getD i .nilp)) parts.length := rfl
theorem cur4 (parts : List D) : cur 4 parts = cur 5 parts := rfl
theorem cur5_spec {parts : List D} (hc : 0 ≤ cur 5 parts) : (cur 5 parts).toNat < parts.length ∧ (stAt parts (cur 5 parts).toNat = 1 ∨ stAt parts (cur 5 parts).toNat = 2) ∧ ∀ i, (cur 5 parts).toNat < i → i < parts.length → stAt parts i ≠ 1 ∧ stAt parts i ≠ 2 := by
  rw [cur5] at hc ⊢
  obtain ⟨h1, h2, h3⟩ := lastFrom_pos _ _ hc
  refine ⟨h1, open_iff.1 h2, fun i h4 h5 => ?_⟩
  have := h3 i h4 h5
  have hn : ¬ (fi 0 (parts.getD i .nilp) = 1 ∨ fi 0 (parts.getD i .nilp) = 2) := fun e => by rw [open_iff.2 e] at this; cases this
  exact ⟨fun e => hn (.inl e), fun e => hn (.inr e)⟩
theorem cur5_neg {parts : List D} (hc : cur 5 parts < 0) : ∀ i, i < parts.length → stAt parts i ≠ 1 ∧ stAt parts i ≠ 2 := by
  rw [cur5] at hc
  intro i hi
  have := lastFrom_neg _ _ hc i hi
  have hn : ¬ (fi 0 (parts.getD i .nilp) = 1 ∨ fi 0 (parts.getD i .nilp) = 2) := fun e => by rw [open_iff.2 e] at this; cases this
  exact ⟨fun e => hn (.inl e), fun e => hn (.inr e)⟩
theorem lastFrom_uniq (p : Nat → Bool) (c : Nat) (hp : p c = true) : ∀ n, c < n → (∀ i, c < i → i < n → p i = false) → lastFrom p n = c
  | 0, h, _ => by omega
  | n + 1, h, hn => by
    simp only [lastFrom]
    by_cases he : c = n
    · subst he
      rw [hp]
      rfl
    · rw [hn n (by omega) (by omega)]
      exact lastFrom_uniq p c hp n (by omega) fun i h1 h2 => hn i h1 (by omega)
theorem cur5_uniq {parts : List D} {c : Nat} (hc : c < parts.length) (h : stAt parts c = 1 ∨ stAt parts c = 2) (hn : ∀ i, c < i → i < parts.length → stAt parts i ≠ 1 ∧ stAt parts i ≠ 2) : cur 5 parts = c := by
  rw [cur5]
  refine lastFrom_uniq _ c (open_iff.2 h) _ hc fun i h1 h2 => ?_
  cases he : isOpen (parts.getD i .nilp)
  · rfl
  · have := open_iff.1 he
    have h3 := hn i h1 h2
    exact (this.elim h3.1 h3.2).elim
/-- a saga that may be, part by part -/
def SaneP (n : Nat) (s t : Nat → Int) (l : Nat → Bool) : Prop := ∀ i, i < n → 0 ≤ s i ∧ s i ≤ 4 ∧ (l i = false ∨ s i ≠ 1) ∧ 0 ≤ t i ∧ t i ≤ 5
theorem Good.mk' {st wy s w : Int} {fc f : Bool} {hops steps parts p : List D} (hg : Good st wy fc hops steps parts) (hl : p.length = parts.length) (hs : SaneP p.length (stAt p) (trAt p) (loc steps)) (hf : FitP w f hops.length p.length (stAt p) (trAt p) (loc steps) (cur s p) s) : Good s w f hops steps p :=
  ⟨hl.trans hg.len, hg.pos, hg.few, hg.step, fun i hi => q47.2 (hs i hi), fits_iff.2 hf⟩
theorem Good.sane' {st wy : Int} {fc : Bool} {hops steps parts : List D} (hg : Good st wy fc hops steps parts) : SaneP parts.length (stAt parts) (trAt parts) (loc steps) := fun i hi => q47.1 (hg.sane i hi)
theorem Good.fit' {st wy : Int} {fc : Bool} {hops steps parts : List D} (hg : Good st wy fc hops steps parts) : FitP wy fc hops.length parts.length (stAt parts) (trAt parts) (loc steps) (cur st parts) st := fits_iff.1 hg.fits
theorem sane_set {parts : List D} {l : Nat → Bool} {c : Nat} {a b : Int} (hc : c < parts.length) (h : SaneP parts.length (stAt parts) (trAt parts) l) (ha : 0 ≤ a ∧ a ≤ 4 ∧ (l c = false ∨ a ≠ 1) ∧ 0 ≤ b ∧ b ≤ 5) :
    SaneP (parts.set c (part a b)).length (stAt (parts.set c (part a b))) (trAt (parts.set c (part a b))) l := by
  intro i hi
  rw [List.length_set] at hi
  rw [st_set hc, tr_set hc]
  by_cases he : c = i
  · subst he; rw [if_pos rfl, if_pos rfl]; exact ha
  · rw [if_neg he, if_neg he]; exact h i hi
/-- where a running saga's current step is, nothing was begun behind it -/
theorem run_at {parts steps : List D} (h : Run parts.length (stAt parts) (trAt parts) (loc steps)) (hc : 0 ≤ cur 1 parts) (h3 : stAt parts (cur 1 parts).toNat ≠ 3) :
    (stAt parts (cur 1 parts).toNat = 0 ∨ loc steps (cur 1 parts).toNat = false ∧ stAt parts (cur 1 parts).toNat = 1) ∧ ∀ j, (cur 1 parts).toNat < j → j < parts.length → stAt parts j = 0 ∧ trAt parts j = 0 := by
  obtain ⟨h1, h2, hb⟩ := cur1_spec hc
  generalize (cur 1 parts).toNat = c at *
  obtain ⟨k, k1, k2, k3⟩ := h
  have hck : c = k := by
    by_cases hlt : c < k
    · have := k2 c hlt; omega
    · by_cases hgt : k < c
      · have h4 := k3 k (by omega) (by omega); have h5 := hb k hgt; omega
      · omega
  subst hck
  refine ⟨?_, fun j hj hn => ?_⟩
  · rcases k3 c (by omega) h1 with ⟨-, h4⟩ | h4
    · exact h4
    · exact .inl h4.1
  · rcases k3 j (by omega) hn with ⟨h4, -⟩ | h4
    · omega
    · exact h4
theorem run_next {parts steps : List D} {a b : Int} (h : Run parts.length (stAt parts) (trAt parts) (loc steps)) (hc : 0 ≤ cur 1 parts) (h3 : stAt parts (cur 1 parts).toNat ≠ 3)
    (ha : a = 2 ∨ a = 0 ∨ loc steps (cur 1 parts).toNat = false ∧ a = 1) : Run (parts.set (cur 1 parts).toNat (part a b)).length (stAt (parts.set (cur 1 parts).toNat (part a b))) (trAt (parts.set (cur 1 parts).toNat (part a b))) (loc steps) := by
  obtain ⟨h1, h2, hb⟩ := cur1_spec hc
  obtain ⟨-, h4⟩ := run_at h hc h3
  rw [List.length_set]
  generalize (cur 1 parts).toNat = c at *
  by_cases he : a = 2
  · refine ⟨c + 1, by omega, fun j hj => ?_, fun j hj hn => ?_⟩
    · rw [st_set h1]
      by_cases hcj : c = j
      · rw [if_pos hcj]; exact .inl he
      · rw [if_neg hcj]; exact .inl (hb j (by omega))
    · rw [st_set h1, tr_set h1, if_neg (by omega), if_neg (by omega)]
      exact .inr (h4 j (by omega) hn)
  · refine ⟨c, by omega, fun j hj => ?_, fun j hj hn => ?_⟩
    · rw [st_set h1, if_neg (by omega)]; exact .inl (hb j hj)
    · rw [st_set h1, tr_set h1]
      by_cases hcj : c = j
      · subst hcj
        rw [if_pos rfl]
        exact .inl ⟨rfl, ha.resolve_left he⟩
      · rw [if_neg hcj, if_neg hcj]; exact .inr (h4 j (by omega) hn)
theorem run_not3 {n : Nat} {s t : Nat → Int} {l : Nat → Bool} {c : Nat} (h : Run n s t l) (hc : c < n) (hl : l c = true) : s c ≠ 3 := by
  intro e
  obtain ⟨k, k1, k2, k3⟩ := h
  by_cases hk : c < k
  · rcases k2 c hk with h | ⟨h, -⟩
    · omega
    · rw [hl] at h; cases h
  · rcases k3 c (by omega) hc with ⟨-, h | ⟨-, h⟩⟩ | ⟨h, -⟩ <;> omega
theorem own_tries {y : D} (hb : badStep y = false) (hl : (fs 4 y == []) = true) : fi 5 y ≤ 5 := by
  have h4 : fs 4 y = [] := nil_of_beq hl
  unfold badStep isOwn isAsks own asks at hb
  rw [h4] at hb
  simp only [name_nil, Bool.false_and, Bool.not_false, Bool.and_true, Bool.not_eq_false', Bool.and_eq_true, decide_eq_true_eq] at hb
  exact hb.2.2.2.2.2.2.2.2.2.2
theorem keeps {st wy : Int} {fc : Bool} {hops steps parts : List D} {kd sp mw s w : Int} {f : Bool} {p : List D} (hg : Good st wy fc hops steps parts) (hs0 : 0 ≤ sp) (hmw : kd = 10 → 1 ≤ mw ∧ mw ≤ 9) (h : Mv st wy fc hops parts steps sp mw kd s w f p) : Good s w f hops steps p := by
  have hs := hg.sane'
  have hf := hg.fit'
  cases h with
  | fail hl hc ha ho =>
    have ht := hs _ hl
    have hw : IntKind.i64.wrap (trAt parts sp.toNat + 1) = trAt parts sp.toNat + 1 := wrap_i64 (by omega) (by omega)
    have h5 : trAt parts sp.toNat + 1 ≤ 5 := by
      rcases ho with ⟨-, h1⟩ | ⟨-, h1⟩
      · have hb := hg.step sp.toNat (by have := hg.len; omega)
        have : fi 5 (steps.getD sp.toNat .nilp) ≤ 5 := own_tries hb ha
        omega
      · omega
    rw [hw]
    refine hg.mk' (by simp) (sane_set hl hs ⟨ht.1, ht.2.1, ht.2.2.1, by omega, h5⟩) ?_
    rcases ho with ⟨rfl, -⟩ | ⟨rfl, -⟩
    · cases hf with
      | running hf hw hr =>
        subst hc
        have h3 := run_not3 hr hl ha
        have h4 := (run_at hr hs0 h3).1
        exact FitP.running hf (by assumption) (run_next hr hs0 h3 (h4.elim (fun h => .inr (.inl h)) (fun h => .inr (.inr h))))
    · cases hf with
      | undoing hf hw ha4 =>
        refine .undoing hf hw fun i hi => ?_
        rw [List.length_set] at hi
        rw [st_set hl]
        by_cases he : sp.toNat = i
        · rw [if_pos he]; exact ha4 _ hl
        · rw [if_neg he]; exact ha4 i hi
  | does hl hc ha ho =>
    subst ho hc
    cases hf with
    | running hf hw hr =>
      have h3 := run_not3 hr hl ha
      exact hg.mk' (by simp) (sane_set hl hs ⟨by decide, by decide, .inr (by decide), by decide, by decide⟩) (.running hf hw (run_next hr hs0 h3 (.inl rfl)))
  | ask hl hc ha ho h0 =>
    subst ho hc
    have ht := hs _ hl
    cases hf with
    | running hf hw hr =>
      exact hg.mk' (by simp) (sane_set hl hs ⟨by decide, by decide, .inl ha, ht.2.2.2.1, ht.2.2.2.2⟩) (.running hf hw (run_next hr hs0 (by omega) (.inr (.inr ⟨ha, rfl⟩))))
  | got hl hc ha ho h0 =>
    subst ho hc
    have ht := hs _ hl
    cases hf with
    | running hf hw hr =>
      exact hg.mk' (by simp) (sane_set hl hs ⟨by decide, by decide, .inl ha, ht.2.2.2.1, ht.2.2.2.2⟩) (.running hf hw (run_next hr hs0 (by omega) (.inl rfl)))
  | lost hl ha ho h0 =>
    have ht := hs _ hl
    refine hg.mk' (by simp) (sane_set hl hs ⟨by decide, by decide, .inl ha, ht.2.2.2.1, ht.2.2.2.2⟩) ?_
    rw [List.length_set]
    cases hf with
    | running hf hw hr =>
      refine .running hf hw ?_
      obtain ⟨k, k1, k2, k3⟩ := hr
      by_cases hk : sp.toNat < k
      · refine ⟨k, k1, fun j hj => ?_, fun j hj hn => ?_⟩
        · rw [st_set hl]
          by_cases he : sp.toNat = j
          · rw [if_pos he]; subst he; exact .inr ⟨ha, rfl⟩
          · rw [if_neg he]; exact k2 j hj
        · rw [st_set hl, tr_set hl, if_neg (by omega), if_neg (by omega)]; exact k3 j hj hn
      · have hk' : sp.toNat = k := by
          have := k3 sp.toNat (by omega) hl
          omega
        refine ⟨k + 1, by omega, fun j hj => ?_, fun j hj hn => ?_⟩
        · rw [st_set hl]
          by_cases he : sp.toNat = j
          · rw [if_pos he]; subst he; exact .inr ⟨ha, rfl⟩
          · rw [if_neg he]; exact k2 j (by omega)
        · rw [st_set hl, tr_set hl, if_neg (by omega), if_neg (by omega)]
          have := k3 j (by omega) hn
          exact .inr (by omega)
    | held hf hw hh hall =>
      refine .held hf hw hh fun i hi => ?_
      rw [st_set hl]
      by_cases he : sp.toNat = i
      · rw [if_pos he]; subst he; exact .inr ⟨ha, rfl⟩
      · rw [if_neg he]; exact hall i hi
    | committedF hf hw hall =>
      refine .committedF hf hw fun i hi => ?_
      rw [st_set hl]
      by_cases he : sp.toNat = i
      · rw [if_pos he]; exact .inr (by decide)
      · rw [if_neg he]; exact hall i hi
    | committed hf hw hall =>
      rcases ho with ho | ho
      · rw [hf] at ho; cases ho
      · exact (ho.1 rfl).elim
    | undoing hf hw hall =>
      refine .undoing hf hw fun i hi => ?_
      rw [st_set hl]
      by_cases he : sp.toNat = i
      · rw [if_pos he]; decide
      · rw [if_neg he]; exact hall i hi
    | stuck hf hw hall hc hlc h5 =>
      obtain ⟨c1, c2, c3⟩ := cur5_spec hc
      have hne : sp.toNat ≠ (cur 5 parts).toNat := by
        intro e
        rw [← e, ha] at hlc
        cases hlc
      have hcur : cur 5 (parts.set sp.toNat (part 3 (trAt parts sp.toNat))) = ((cur 5 parts).toNat : Nat) := by
        refine cur5_uniq (by rw [List.length_set]; exact c1) ?_ fun i h1 h2 => ?_
        · rw [st_set hl, if_neg hne]; exact c2
        · rw [List.length_set] at h2
          rw [st_set hl]
          by_cases he : sp.toNat = i
          · rw [if_pos he]; decide
          · rw [if_neg he]; exact c3 i h1 h2
      have hcur : cur 5 (parts.set sp.toNat (part 3 (trAt parts sp.toNat))) = cur 5 parts := by omega
      rw [hcur]
      refine .stuck hf hw (fun i hi => ?_) hc hlc ?_
      · rw [st_set hl]
        by_cases he : sp.toNat = i
        · rw [if_pos he]; decide
        · rw [if_neg he]; exact hall i hi
      · rw [tr_set hl, if_neg hne]; exact h5
    | compensatedF hf hw hall =>
      refine .compensatedF hf hw fun i hi => ?_
      rw [st_set hl]
      by_cases he : sp.toNat = i
      · rw [if_pos he]; exact .inr (by decide)
      · rw [if_neg he]; exact hall i hi
    | compensated hf hw hall =>
      have := hall _ hl
      omega
  | hold ho hh hd =>
    subst ho
    have hd : ∀ i, i < parts.length → stAt parts i = 2 := (all_iff (Q := fun s _ _ => s = 2) fun x y => q135).1 hd
    cases hf with
    | running hf hw hr => exact hg.mk' rfl hs (.held hf rfl hh fun i hi => .inl (hd i hi))
  | commit ho hd =>
    have hd : ∀ i, i < parts.length → stAt parts i = 2 := (all_iff (Q := fun s _ _ => s = 2) fun x y => q135).1 hd
    have hfc : fc = false := by
      rcases ho with ⟨rfl, -⟩ | rfl
      · cases hf with
        | running hf => exact hf
      · cases hf with
        | held hf => exact hf
    have hl := own_len 4 parts steps
    refine hg.mk' hl (fun i hi => ?_) (.committed hfc rfl fun i hi => ?_)
    · rw [hl] at hi
      have := hs i hi
      rw [own_st hi, own_tr hi]
      by_cases hx : loc steps i = true ∧ stAt parts i = 2
      · rw [if_pos hx, if_pos hx]; exact ⟨by decide, by decide, .inr (by decide), by decide, by decide⟩
      · rw [if_neg hx, if_neg hx]; exact this
    · rw [hl] at hi
      rw [own_st hi]
      by_cases hx : loc steps i = true ∧ stAt parts i = 2
      · rw [if_pos hx]; exact .inl rfl
      · rw [if_neg hx]
        refine .inr ⟨?_, hd i hi⟩
        cases hlo : loc steps i
        · rfl
        · exact (hx ⟨hlo, hd i hi⟩).elim
  | back ho =>
    have hfc : fc = false ∧ ∀ i, i < parts.length → stAt parts i ≠ 4 := by
      rcases ho with rfl | ⟨rfl, -⟩
      · cases hf with
        | running hf hw hr =>
          refine ⟨hf, fun i hi => ?_⟩
          obtain ⟨k, k1, k2, k3⟩ := hr
          by_cases hk : i < k
          · have := k2 i hk; omega
          · have := k3 i (by omega) hi; omega
      · cases hf with
        | held hf hw hh ha => exact ⟨hf, fun i hi => by have := ha i hi; omega⟩
    have hl := calm_len parts
    refine hg.mk' hl (fun i hi => ?_) (.undoing hfc.1 (hmw rfl) fun i hi => ?_)
    · rw [hl] at hi
      rw [calm_st hi, calm_tr hi]
      have := hs i hi
      exact ⟨this.1, this.2.1, this.2.2.1, by decide, by decide⟩
    · rw [hl] at hi
      rw [calm_st hi]
      exact hfc.2 i hi
  | undo hl hc ha ho =>
    subst ho
    cases hf with
    | undoing hf hw hall =>
      refine hg.mk' (by simp) (sane_set hl hs ⟨by decide, by decide, .inr (by decide), by decide, by decide⟩) (.undoing hf hw fun i hi => ?_)
      rw [List.length_set] at hi
      rw [st_set hl]
      by_cases he : sp.toNat = i
      · rw [if_pos he]; decide
      · rw [if_neg he]; exact hall i hi
  | jam hl hc ha ho h5 =>
    subst ho
    rw [cur4] at hc
    subst hc
    cases hf with
    | undoing hf hw hall => exact hg.mk' rfl hs (.stuck hf hw hall hs0 ha h5)
  | again ho =>
    subst ho
    cases hf with
    | stuck hf hw hall hc hlc h5 =>
      obtain ⟨c1, c2, c3⟩ := cur5_spec hc
      have ht := hs _ c1
      refine hg.mk' (by simp) (sane_set c1 hs ⟨ht.1, ht.2.1, ht.2.2.1, by decide, by decide⟩) (.undoing hf hw fun i hi => ?_)
      rw [List.length_set] at hi
      rw [st_set c1]
      by_cases he : (cur 5 parts).toNat = i
      · rw [if_pos he]; exact hall _ c1
      · rw [if_neg he]; exact hall i hi
  | ends ho hc =>
    subst ho
    rw [cur4] at hc
    have := cur5_neg hc
    cases hf with
    | undoing hf hw hall => exact hg.mk' rfl hs (.compensated hf hw fun i hi => ⟨(this i hi).1, (this i hi).2, hall i hi⟩)
  | kept hl ha ho h0 =>
    subst ho
    have ht := hs _ hl
    refine hg.mk' (by simp) (sane_set hl hs ⟨by decide, by decide, .inl ha, ht.2.2.2.1, ht.2.2.2.2⟩) ?_
    rw [List.length_set]
    cases hf with
    | committedF hf hw hall =>
      refine .committedF hf hw fun i hi => ?_
      rw [st_set hl]
      by_cases he : sp.toNat = i
      · rw [if_pos he]; exact .inr (by decide)
      · rw [if_neg he]; exact hall i hi
    | committed hf hw hall =>
      refine .committed hf hw fun i hi => ?_
      rw [st_set hl]
      by_cases he : sp.toNat = i
      · rw [if_pos he]; exact .inl rfl
      · rw [if_neg he]; exact hall i hi
  | forceC ho ho6 h1 =>
    have hl : (ownParts 4 (calmParts parts) steps).length = parts.length := (own_len _ _ _).trans (calm_len _)
    have hw : 0 ≤ wy ∧ wy ≤ 9 := by cases hf <;> omega
    refine hg.mk' hl (fun i hi => ?_) (.committedF rfl hw fun i hi => ?_)
    · rw [hl] at hi
      have := hs i hi
      have hi' : i < (calmParts parts).length := by rw [calm_len]; exact hi
      rw [own_st hi', own_tr hi', calm_st hi, calm_tr hi]
      by_cases hx : loc steps i = true ∧ stAt parts i = 2
      · rw [if_pos hx, if_pos hx]; exact ⟨by decide, by decide, .inr (by decide), by decide, by decide⟩
      · rw [if_neg hx, if_neg hx]; exact ⟨this.1, this.2.1, this.2.2.1, by decide, by decide⟩
    · rw [hl] at hi
      have hi' : i < (calmParts parts).length := by rw [calm_len]; exact hi
      rw [own_st hi', calm_st hi]
      by_cases hx : loc steps i = true ∧ stAt parts i = 2
      · rw [if_pos hx]; exact .inr (by decide)
      · rw [if_neg hx]
        cases hlo : loc steps i
        · exact .inl rfl
        · exact .inr fun e => hx ⟨hlo, e⟩
  | forceU ho ho6 h1 =>
    have hl : (ownParts 3 (calmParts parts) steps).length = parts.length := (own_len _ _ _).trans (calm_len _)
    have hw : 0 ≤ wy ∧ wy ≤ 9 := by cases hf <;> omega
    have h4 : ∀ i, i < parts.length → stAt parts i ≠ 4 := by
      intro i hi
      cases hf with
      | running hf hw hr =>
        obtain ⟨k, k1, k2, k3⟩ := hr
        by_cases hk : i < k
        · have := k2 i hk; omega
        · have := k3 i (by omega) hi; omega
      | held hf hw hh ha => have := ha i hi; omega
      | committedF => exact (ho rfl).elim
      | committed => exact (ho rfl).elim
      | undoing hf hw ha => exact ha i hi
      | stuck hf hw ha => exact ha i hi
      | compensatedF => exact (ho6 rfl).elim
      | compensated => exact (ho6 rfl).elim
    refine hg.mk' hl (fun i hi => ?_) (.compensatedF rfl hw fun i hi => ?_)
    · rw [hl] at hi
      have := hs i hi
      have hi' : i < (calmParts parts).length := by rw [calm_len]; exact hi
      rw [own_st hi', own_tr hi', calm_st hi, calm_tr hi]
      by_cases hx : loc steps i = true ∧ stAt parts i = 2
      · rw [if_pos hx, if_pos hx]; exact ⟨by decide, by decide, .inr (by decide), by decide, by decide⟩
      · rw [if_neg hx, if_neg hx]; exact ⟨this.1, this.2.1, this.2.2.1, by decide, by decide⟩
    · rw [hl] at hi
      have hi' : i < (calmParts parts).length := by rw [calm_len]; exact hi
      rw [own_st hi', calm_st hi]
      by_cases hx : loc steps i = true ∧ stAt parts i = 2
      · rw [if_pos hx]; exact .inr ⟨by decide, by decide⟩
      · rw [if_neg hx]
        cases hlo : loc steps i
        · exact .inl rfl
        · exact .inr ⟨fun e => hx ⟨hlo, e⟩, h4 i hi⟩
end Go.Proofs.YtknoielhkilkpaaDoor.A
/- Equations of the walk. -/
open Go Go.AM Go.Proofs
namespace Go.Proofs.YtknoielhkilkpaaDoor.A
theorem e28 (m n : Nat) (rt nn st wy : Int) (n1 n2 n3 fc : Bool) (hops steps parts : List D) (nm : List UInt8) : Tree.out (enterM E20 (callN E20 (m+40)) n c28 [.d (sagaD rt nn st wy n1 n2 n3 fc hops steps parts nm)] []) = Tree.out (resume E20 (callN E20 (m+40)) n n (0 : Nat) c28 { fr := frame 100 [(1, V.ptr 128 0), (2, V.ptr 192 0), (4, V.ptr 320 0), (5, V.d (D.int .i64 0))], ob := [(128, Obj.box [V.d (D.int .i64 rt), V.d (D.int .i64 nn), V.d (D.sl partSh n1 hops), V.d (D.str nm), V.d (D.sl stepSh n2 steps), V.d (D.int .i64 st), V.d (D.int .i64 wy), V.d (D.sl partSh n3 parts), V.d (D.bool fc)]), (192, Obj.box [V.d (D.int .i64 0), V.d (D.int .i64 0), V.d (D.int .i64 0), V.d (D.sl partSh true []), V.d (D.int .i64 0), V.d (D.int .i64 0), V.d (D.str []), V.d (D.sl stepSh true [])]), (320, Obj.box [V.d (D.int .i64 0), V.d (D.int .i64 rt), V.d (D.int .i64 nn), V.d (D.sl partSh n1 hops), V.d (D.int .i64 0), V.d (D.int .i64 0), V.d (D.str []), V.d (D.sl stepSh true [])])] }) := by kernel_rfl
def s28 (rt nn st wy : Int) (n1 n2 n3 fc : Bool) (hops steps parts : List D) (nm : List UInt8) (q i : Int) : St := { fr := frame 100 [(1, V.ptr 128 0), (2, V.ptr 192 0), (4, V.ptr 320 0), (5, V.d (D.int .i64 i))], ob := [(128, .box [V.d (D.int .i64 rt), V.d (D.int .i64 nn), V.d (D.sl hopSh n1 hops), V.d (D.str nm), V.d (D.sl stepSh n2 steps), V.d (D.int .i64 st), V.d (D.int .i64 wy), V.d (D.sl partSh n3 parts), V.d (D.bool fc)]), (192, .box [V.d (D.int .i64 0), V.d (D.int .i64 0), V.d (D.int .i64 0), V.d (D.sl hopSh true []), V.d (D.int .i64 0), V.d (D.int .i64 0), V.d (D.str []), V.d (D.sl stepSh true [])]), (320, .box [V.d (D.int .i64 0), V.d (D.int .i64 rt), V.d (D.int .i64 nn), V.d (D.sl hopSh n1 hops), V.d (D.int .i64 q), V.d (D.int .i64 0), V.d (D.str []), V.d (D.sl stepSh true [])])] }
theorem l28 (m n j : Nat) (rt nn st wy : Int) (n1 n2 n3 fc : Bool) (hops steps parts : List D) (nm : List UInt8) (q i : Int) : Tree.out (resume E20 (callN E20 (m+40)) n (j+1) 0 c28 (s28 rt nn st wy n1 n2 n3 fc hops steps parts nm q i)) = bif decide (i < (↑(List.length parts) : Int)) then bif decide ((0 : Int) ≤ i ∧ i < (↑(List.length steps) : Int)) then bif fs 4 (List.getD steps (Int.toNat i) D.nilp) == [] then Tree.out (resume E20 (callN E20 (m+40)) n j (0 : Nat) c28 { fr := frame 100 [(1, V.ptr 128 0), (2, V.ptr 192 0), (4, V.ptr 320 0), (5, V.d (D.int .i64 (IntKind.wrap .i64 (i + (1 : Int)))))], ob := [(128, Obj.box [V.d (D.int .i64 rt), V.d (D.int .i64 nn), V.d (D.sl partSh n1 hops), V.d (D.str nm), V.d (D.sl stepSh n2 steps), V.d (D.int .i64 st), V.d (D.int .i64 wy), V.d (D.sl partSh n3 parts), V.d (D.bool fc)]), (192, Obj.box [V.d (D.int .i64 0), V.d (D.int .i64 0), V.d (D.int .i64 0), V.d (D.sl partSh true []), V.d (D.int .i64 0), V.d (D.int .i64 0), V.d (D.str []), V.d (D.sl stepSh true [])]), (320, Obj.box [V.d (D.int .i64 0), V.d (D.int .i64 rt), V.d (D.int .i64 nn), V.d (D.sl partSh n1 hops), V.d (D.int .i64 i), V.d (D.int .i64 0), V.d (D.str []), V.d (D.sl stepSh true [])])] }) else bif st == (1 : Int) then bif decide ((0 : Int) ≤ i ∧ i < (↑(List.length parts) : Int)) then bif fi 0 (List.getD parts (Int.toNat i) D.nilp) == (1 : Int) then some [D.agg [D.int .i64 6, D.int .i64 rt, D.int .i64 nn, D.sl partSh n1 hops, D.int .i64 i, D.int .i64 0, D.str [], D.sl stepSh true []], D.bool true] else bif st == (3 : Int) then bif decide ((0 : Int) ≤ i ∧ i < (↑(List.length parts) : Int)) then bif fi 0 (List.getD parts (Int.toNat i) D.nilp) == (2 : Int) then some [D.agg [D.int .i64 15, D.int .i64 rt, D.int .i64 nn, D.sl partSh n1 hops, D.int .i64 i, D.int .i64 0, D.str [], D.sl stepSh true []], D.bool true] else bif st == (4 : Int) then bif decide ((0 : Int) ≤ i ∧ i < (↑(List.length parts) : Int)) then bif fi 0 (List.getD parts (Int.toNat i) D.nilp) == (1 : Int) then bif st == (4 : Int) then bif decide (List.length steps ≤ (1000000 : Nat)) then bif decide (List.length parts ≤ (1000000 : Nat)) then bif i != curR rt nn st wy fc hops steps parts nm then Tree.out (resume E20 (callN E20 (m+40)) n j (0 : Nat) c28 { fr := frame 100 [(1, V.ptr 128 0), (2, V.ptr 192 0), (4, V.ptr 320 0), (5, V.d (D.int .i64 (IntKind.wrap .i64 (i + (1 : Int)))))], ob := [(128, Obj.box [V.d (D.int .i64 rt), V.d (D.int .i64 nn), V.d (D.sl partSh n1 hops), V.d (D.str nm), V.d (D.sl stepSh n2 steps), V.d (D.int .i64 st), V.d (D.int .i64 wy), V.d (D.sl partSh n3 parts), V.d (D.bool fc)]), (192, Obj.box [V.d (D.int .i64 0), V.d (D.int .i64 0), V.d (D.int .i64 0), V.d (D.sl partSh true []), V.d (D.int .i64 0), V.d (D.int .i64 0), V.d (D.str []), V.d (D.sl stepSh true [])]), (320, Obj.box [V.d (D.int .i64 0), V.d (D.int .i64 rt), V.d (D.int .i64 nn), V.d (D.sl partSh n1 hops), V.d (D.int .i64 i), V.d (D.int .i64 0), V.d (D.str []), V.d (D.sl stepSh true [])])] }) else some [D.agg [D.int .i64 7, D.int .i64 rt, D.int .i64 nn, D.sl partSh n1 hops, D.int .i64 i, D.int .i64 0, D.str [], D.sl stepSh true []], D.bool true] else none else none else some [D.agg [D.int .i64 7, D.int .i64 rt, D.int .i64 nn, D.sl partSh n1 hops, D.int .i64 i, D.int .i64 0, D.str [], D.sl stepSh true []], D.bool true] else bif decide ((0 : Int) ≤ i ∧ i < (↑(List.length parts) : Int)) then bif fi 0 (List.getD parts (Int.toNat i) D.nilp) == (2 : Int) then bif st == (4 : Int) then bif decide (List.length steps ≤ (1000000 : Nat)) then bif decide (List.length parts ≤ (1000000 : Nat)) then bif i != curR rt nn st wy fc hops steps parts nm then Tree.out (resume E20 (callN E20 (m+40)) n j (0 : Nat) c28 { fr := frame 100 [(1, V.ptr 128 0), (2, V.ptr 192 0), (4, V.ptr 320 0), (5, V.d (D.int .i64 (IntKind.wrap .i64 (i + (1 : Int)))))], ob := [(128, Obj.box [V.d (D.int .i64 rt), V.d (D.int .i64 nn), V.d (D.sl partSh n1 hops), V.d (D.str nm), V.d (D.sl stepSh n2 steps), V.d (D.int .i64 st), V.d (D.int .i64 wy), V.d (D.sl partSh n3 parts), V.d (D.bool fc)]), (192, Obj.box [V.d (D.int .i64 0), V.d (D.int .i64 0), V.d (D.int .i64 0), V.d (D.sl partSh true []), V.d (D.int .i64 0), V.d (D.int .i64 0), V.d (D.str []), V.d (D.sl stepSh true [])]), (320, Obj.box [V.d (D.int .i64 0), V.d (D.int .i64 rt), V.d (D.int .i64 nn), V.d (D.sl partSh n1 hops), V.d (D.int .i64 i), V.d (D.int .i64 0), V.d (D.str []), V.d (D.sl stepSh true [])])] }) else some [D.agg [D.int .i64 7, D.int .i64 rt, D.int .i64 nn, D.sl partSh n1 hops, D.int .i64 i, D.int .i64 0, D.str [], D.sl stepSh true []], D.bool true] else none else none else some [D.agg [D.int .i64 7, D.int .i64 rt, D.int .i64 nn, D.sl partSh n1 hops, D.int .i64 i, D.int .i64 0, D.str [], D.sl stepSh true []], D.bool true] else Tree.out (resume E20 (callN E20 (m+40)) n j (0 : Nat) c28 { fr := frame 100 [(1, V.ptr 128 0), (2, V.ptr 192 0), (4, V.ptr 320 0), (5, V.d (D.int .i64 (IntKind.wrap .i64 (i + (1 : Int)))))], ob := [(128, Obj.box [V.d (D.int .i64 rt), V.d (D.int .i64 nn), V.d (D.sl partSh n1 hops), V.d (D.str nm), V.d (D.sl stepSh n2 steps), V.d (D.int .i64 st), V.d (D.int .i64 wy), V.d (D.sl partSh n3 parts), V.d (D.bool fc)]), (192, Obj.box [V.d (D.int .i64 0), V.d (D.int .i64 0), V.d (D.int .i64 0), V.d (D.sl partSh true []), V.d (D.int .i64 0), V.d (D.int .i64 0), V.d (D.str []), V.d (D.sl stepSh true [])]), (320, Obj.box [V.d (D.int .i64 0), V.d (D.int .i64 rt), V.d (D.int .i64 nn), V.d (D.sl partSh n1 hops), V.d (D.int .i64 i), V.d (D.int .i64 0), V.d (D.str []), V.d (D.sl stepSh true [])])] }) else none else none else bif fc then bif decide ((0 : Int) ≤ i ∧ i < (↑(List.length parts) : Int)) then bif fi 0 (List.getD parts (Int.toNat i) D.nilp) == (1 : Int) then bif st == (4 : Int) then bif decide (List.length steps ≤ (1000000 : Nat)) then bif decide (List.length parts ≤ (1000000 : Nat)) then bif i != curR rt nn st wy fc hops steps parts nm then Tree.out (resume E20 (callN E20 (m+40)) n j (0 : Nat) c28 { fr := frame 100 [(1, V.ptr 128 0), (2, V.ptr 192 0), (4, V.ptr 320 0), (5, V.d (D.int .i64 (IntKind.wrap .i64 (i + (1 : Int)))))], ob := [(128, Obj.box [V.d (D.int .i64 rt), V.d (D.int .i64 nn), V.d (D.sl partSh n1 hops), V.d (D.str nm), V.d (D.sl stepSh n2 steps), V.d (D.int .i64 st), V.d (D.int .i64 wy), V.d (D.sl partSh n3 parts), V.d (D.bool fc)]), (192, Obj.box [V.d (D.int .i64 0), V.d (D.int .i64 0), V.d (D.int .i64 0), V.d (D.sl partSh true []), V.d (D.int .i64 0), V.d (D.int .i64 0), V.d (D.str []), V.d (D.sl stepSh true [])]), (320, Obj.box [V.d (D.int .i64 0), V.d (D.int .i64 rt), V.d (D.int .i64 nn), V.d (D.sl partSh n1 hops), V.d (D.int .i64 i), V.d (D.int .i64 0), V.d (D.str []), V.d (D.sl stepSh true [])])] }) else some [D.agg [D.int .i64 7, D.int .i64 rt, D.int .i64 nn, D.sl partSh n1 hops, D.int .i64 i, D.int .i64 0, D.str [], D.sl stepSh true []], D.bool true] else none else none else some [D.agg [D.int .i64 7, D.int .i64 rt, D.int .i64 nn, D.sl partSh n1 hops, D.int .i64 i, D.int .i64 0, D.str [], D.sl stepSh true []], D.bool true] else bif decide ((0 : Int) ≤ i ∧ i < (↑(List.length parts) : Int)) then bif fi 0 (List.getD parts (Int.toNat i) D.nilp) == (2 : Int) then bif st == (4 : Int) then bif decide (List.length steps ≤ (1000000 : Nat)) then bif decide (List.length parts ≤ (1000000 : Nat)) then bif i != curR rt nn st wy fc hops steps parts nm then Tree.out (resume E20 (callN E20 (m+40)) n j (0 : Nat) c28 { fr := frame 100 [(1, V.ptr 128 0), (2, V.ptr 192 0), (4, V.ptr 320 0), (5, V.d (D.int .i64 (IntKind.wrap .i64 (i + (1 : Int)))))], ob := [(128, Obj.box [V.d (D.int .i64 rt), V.d (D.int .i64 nn), V.d (D.sl partSh n1 hops), V.d (D.str nm), V.d (D.sl stepSh n2 steps), V.d (D.int .i64 st), V.d (D.int .i64 wy), V.d (D.sl partSh n3 parts), V.d (D.bool fc)]), (192, Obj.box [V.d (D.int .i64 0), V.d (D.int .i64 0), V.d (D.int .i64 0), V.d (D.sl partSh true []), V.d (D.int .i64 0), V.d (D.int .i64 0), V.d (D.str []), V.d (D.sl stepSh true [])]), (320, Obj.box [V.d (D.int .i64 0), V.d (D.int .i64 rt), V.d (D.int .i64 nn), V.d (D.sl partSh n1 hops), V.d (D.int .i64 i), V.d (D.int .i64 0), V.d (D.str []), V.d (D.sl stepSh true [])])] }) else some [D.agg [D.int .i64 7, D.int .i64 rt, D.int .i64 nn, D.sl partSh n1 hops, D.int .i64 i, D.int .i64 0, D.str [], D.sl stepSh true []], D.bool true] else none else none else some [D.agg [D.int .i64 7, D.int .i64 rt, D.int .i64 nn, D.sl partSh n1 hops, D.int .i64 i, D.int .i64 0, D.str [], D.sl stepSh true []], D.bool true] else Tree.out (resume E20 (callN E20 (m+40)) n j (0 : Nat) c28 { fr := frame 100 [(1, V.ptr 128 0), (2, V.ptr 192 0), (4, V.ptr 320 0), (5, V.d (D.int .i64 (IntKind.wrap .i64 (i + (1 : Int)))))], ob := [(128, Obj.box [V.d (D.int .i64 rt), V.d (D.int .i64 nn), V.d (D.sl partSh n1 hops), V.d (D.str nm), V.d (D.sl stepSh n2 steps), V.d (D.int .i64 st), V.d (D.int .i64 wy), V.d (D.sl partSh n3 parts), V.d (D.bool fc)]), (192, Obj.box [V.d (D.int .i64 0), V.d (D.int .i64 0), V.d (D.int .i64 0), V.d (D.sl partSh true []), V.d (D.int .i64 0), V.d (D.int .i64 0), V.d (D.str []), V.d (D.sl stepSh true [])]), (320, Obj.box [V.d (D.int .i64 0), V.d (D.int .i64 rt), V.d (D.int .i64 nn), V.d (D.sl partSh n1 hops), V.d (D.int .i64 i), V.d (D.int .i64 0), V.d (D.str []), V.d (D.sl stepSh true [])])] }) else none else none else Tree.out (resume E20 (callN E20 (m+40)) n j (0 : Nat) c28 { fr := frame 100 [(1, V.ptr 128 0), (2, V.ptr 192 0), (4, V.ptr 320 0), (5, V.d (D.int .i64 (IntKind.wrap .i64 (i + (1 : Int)))))], ob := [(128, Obj.box [V.d (D.int .i64 rt), V.d (D.int .i64 nn), V.d (D.sl partSh n1 hops), V.d (D.str nm), V.d (D.sl stepSh n2 steps), V.d (D.int .i64 st), V.d (D.int .i64 wy), V.d (D.sl partSh n3 parts), V.d (D.bool fc)]), (192, Obj.box [V.d (D.int .i64 0), V.d (D.int .i64 0), V.d (D.int .i64 0), V.d (D.sl partSh true []), V.d (D.int .i64 0), V.d (D.int .i64 0), V.d (D.str []), V.d (D.sl stepSh true [])]), (320, Obj.box [V.d (D.int .i64 0), V.d (D.int .i64 rt), V.d (D.int .i64 nn), V.d (D.sl partSh n1 hops), V.d (D.int .i64 i), V.d (D.int .i64 0), V.d (D.str []), V.d (D.sl stepSh true [])])] }) else none else bif st == (4 : Int) then bif decide ((0 : Int) ≤ i ∧ i < (↑(List.length parts) : Int)) then bif fi 0 (List.getD parts (Int.toNat i) D.nilp) == (1 : Int) then bif st == (4 : Int) then bif decide (List.length steps ≤ (1000000 : Nat)) then bif decide (List.length parts ≤ (1000000 : Nat)) then bif i != curR rt nn st wy fc hops steps parts nm then Tree.out (resume E20 (callN E20 (m+40)) n j (0 : Nat) c28 { fr := frame 100 [(1, V.ptr 128 0), (2, V.ptr 192 0), (4, V.ptr 320 0), (5, V.d (D.int .i64 (IntKind.wrap .i64 (i + (1 : Int)))))], ob := [(128, Obj.box [V.d (D.int .i64 rt), V.d (D.int .i64 nn), V.d (D.sl partSh n1 hops), V.d (D.str nm), V.d (D.sl stepSh n2 steps), V.d (D.int .i64 st), V.d (D.int .i64 wy), V.d (D.sl partSh n3 parts), V.d (D.bool fc)]), (192, Obj.box [V.d (D.int .i64 0), V.d (D.int .i64 0), V.d (D.int .i64 0), V.d (D.sl partSh true []), V.d (D.int .i64 0), V.d (D.int .i64 0), V.d (D.str []), V.d (D.sl stepSh true [])]), (320, Obj.box [V.d (D.int .i64 0), V.d (D.int .i64 rt), V.d (D.int .i64 nn), V.d (D.sl partSh n1 hops), V.d (D.int .i64 i), V.d (D.int .i64 0), V.d (D.str []), V.d (D.sl stepSh true [])])] }) else some [D.agg [D.int .i64 7, D.int .i64 rt, D.int .i64 nn, D.sl partSh n1 hops, D.int .i64 i, D.int .i64 0, D.str [], D.sl stepSh true []], D.bool true] else none else none else some [D.agg [D.int .i64 7, D.int .i64 rt, D.int .i64 nn, D.sl partSh n1 hops, D.int .i64 i, D.int .i64 0, D.str [], D.sl stepSh true []], D.bool true] else bif decide ((0 : Int) ≤ i ∧ i < (↑(List.length parts) : Int)) then bif fi 0 (List.getD parts (Int.toNat i) D.nilp) == (2 : Int) then bif st == (4 : Int) then bif decide (List.length steps ≤ (1000000 : Nat)) then bif decide (List.length parts ≤ (1000000 : Nat)) then bif i != curR rt nn st wy fc hops steps parts nm then Tree.out (resume E20 (callN E20 (m+40)) n j (0 : Nat) c28 { fr := frame 100 [(1, V.ptr 128 0), (2, V.ptr 192 0), (4, V.ptr 320 0), (5, V.d (D.int .i64 (IntKind.wrap .i64 (i + (1 : Int)))))], ob := [(128, Obj.box [V.d (D.int .i64 rt), V.d (D.int .i64 nn), V.d (D.sl partSh n1 hops), V.d (D.str nm), V.d (D.sl stepSh n2 steps), V.d (D.int .i64 st), V.d (D.int .i64 wy), V.d (D.sl partSh n3 parts), V.d (D.bool fc)]), (192, Obj.box [V.d (D.int .i64 0), V.d (D.int .i64 0), V.d (D.int .i64 0), V.d (D.sl partSh true []), V.d (D.int .i64 0), V.d (D.int .i64 0), V.d (D.str []), V.d (D.sl stepSh true [])]), (320, Obj.box [V.d (D.int .i64 0), V.d (D.int .i64 rt), V.d (D.int .i64 nn), V.d (D.sl partSh n1 hops), V.d (D.int .i64 i), V.d (D.int .i64 0), V.d (D.str []), V.d (D.sl stepSh true [])])] }) else some [D.agg [D.int .i64 7, D.int .i64 rt, D.int .i64 nn, D.sl partSh n1 hops, D.int .i64 i, D.int .i64 0, D.str [], D.sl stepSh true []], D.bool true] else none else none else some [D.agg [D.int .i64 7, D.int .i64 rt, D.int .i64 nn, D.sl partSh n1 hops, D.int .i64 i, D.int .i64 0, D.str [], D.sl stepSh true []], D.bool true] else Tree.out (resume E20 (callN E20 (m+40)) n j (0 : Nat) c28 { fr := frame 100 [(1, V.ptr 128 0), (2, V.ptr 192 0), (4, V.ptr 320 0), (5, V.d (D.int .i64 (IntKind.wrap .i64 (i + (1 : Int)))))], ob := [(128, Obj.box [V.d (D.int .i64 rt), V.d (D.int .i64 nn), V.d (D.sl partSh n1 hops), V.d (D.str nm), V.d (D.sl stepSh n2 steps), V.d (D.int .i64 st), V.d (D.int .i64 wy), V.d (D.sl partSh n3 parts), V.d (D.bool fc)]), (192, Obj.box [V.d (D.int .i64 0), V.d (D.int .i64 0), V.d (D.int .i64 0), V.d (D.sl partSh true []), V.d (D.int .i64 0), V.d (D.int .i64 0), V.d (D.str []), V.d (D.sl stepSh true [])]), (320, Obj.box [V.d (D.int .i64 0), V.d (D.int .i64 rt), V.d (D.int .i64 nn), V.d (D.sl partSh n1 hops), V.d (D.int .i64 i), V.d (D.int .i64 0), V.d (D.str []), V.d (D.sl stepSh true [])])] }) else none else none else bif fc then bif decide ((0 : Int) ≤ i ∧ i < (↑(List.length parts) : Int)) then bif fi 0 (List.getD parts (Int.toNat i) D.nilp) == (1 : Int) then bif st == (4 : Int) then bif decide (List.length steps ≤ (1000000 : Nat)) then bif decide (List.length parts ≤ (1000000 : Nat)) then bif i != curR rt nn st wy fc hops steps parts nm then Tree.out (resume E20 (callN E20 (m+40)) n j (0 : Nat) c28 { fr := frame 100 [(1, V.ptr 128 0), (2, V.ptr 192 0), (4, V.ptr 320 0), (5, V.d (D.int .i64 (IntKind.wrap .i64 (i + (1 : Int)))))], ob := [(128, Obj.box [V.d (D.int .i64 rt), V.d (D.int .i64 nn), V.d (D.sl partSh n1 hops), V.d (D.str nm), V.d (D.sl stepSh n2 steps), V.d (D.int .i64 st), V.d (D.int .i64 wy), V.d (D.sl partSh n3 parts), V.d (D.bool fc)]), (192, Obj.box [V.d (D.int .i64 0), V.d (D.int .i64 0), V.d (D.int .i64 0), V.d (D.sl partSh true []), V.d (D.int .i64 0), V.d (D.int .i64 0), V.d (D.str []), V.d (D.sl stepSh true [])]), (320, Obj.box [V.d (D.int .i64 0), V.d (D.int .i64 rt), V.d (D.int .i64 nn), V.d (D.sl partSh n1 hops), V.d (D.int .i64 i), V.d (D.int .i64 0), V.d (D.str []), V.d (D.sl stepSh true [])])] }) else some [D.agg [D.int .i64 7, D.int .i64 rt, D.int .i64 nn, D.sl partSh n1 hops, D.int .i64 i, D.int .i64 0, D.str [], D.sl stepSh true []], D.bool true] else none else none else some [D.agg [D.int .i64 7, D.int .i64 rt, D.int .i64 nn, D.sl partSh n1 hops, D.int .i64 i, D.int .i64 0, D.str [], D.sl stepSh true []], D.bool true] else bif decide ((0 : Int) ≤ i ∧ i < (↑(List.length parts) : Int)) then bif fi 0 (List.getD parts (Int.toNat i) D.nilp) == (2 : Int) then bif st == (4 : Int) then bif decide (List.length steps ≤ (1000000 : Nat)) then bif decide (List.length parts ≤ (1000000 : Nat)) then bif i != curR rt nn st wy fc hops steps parts nm then Tree.out (resume E20 (callN E20 (m+40)) n j (0 : Nat) c28 { fr := frame 100 [(1, V.ptr 128 0), (2, V.ptr 192 0), (4, V.ptr 320 0), (5, V.d (D.int .i64 (IntKind.wrap .i64 (i + (1 : Int)))))], ob := [(128, Obj.box [V.d (D.int .i64 rt), V.d (D.int .i64 nn), V.d (D.sl partSh n1 hops), V.d (D.str nm), V.d (D.sl stepSh n2 steps), V.d (D.int .i64 st), V.d (D.int .i64 wy), V.d (D.sl partSh n3 parts), V.d (D.bool fc)]), (192, Obj.box [V.d (D.int .i64 0), V.d (D.int .i64 0), V.d (D.int .i64 0), V.d (D.sl partSh true []), V.d (D.int .i64 0), V.d (D.int .i64 0), V.d (D.str []), V.d (D.sl stepSh true [])]), (320, Obj.box [V.d (D.int .i64 0), V.d (D.int .i64 rt), V.d (D.int .i64 nn), V.d (D.sl partSh n1 hops), V.d (D.int .i64 i), V.d (D.int .i64 0), V.d (D.str []), V.d (D.sl stepSh true [])])] }) else some [D.agg [D.int .i64 7, D.int .i64 rt, D.int .i64 nn, D.sl partSh n1 hops, D.int .i64 i, D.int .i64 0, D.str [], D.sl stepSh true []], D.bool true] else none else none else some [D.agg [D.int .i64 7, D.int .i64 rt, D.int .i64 nn, D.sl partSh n1 hops, D.int .i64 i, D.int .i64 0, D.str [], D.sl stepSh true []], D.bool true] else Tree.out (resume E20 (callN E20 (m+40)) n j (0 : Nat) c28 { fr := frame 100 [(1, V.ptr 128 0), (2, V.ptr 192 0), (4, V.ptr 320 0), (5, V.d (D.int .i64 (IntKind.wrap .i64 (i + (1 : Int)))))], ob := [(128, Obj.box [V.d (D.int .i64 rt), V.d (D.int .i64 nn), V.d (D.sl partSh n1 hops), V.d (D.str nm), V.d (D.sl stepSh n2 steps), V.d (D.int .i64 st), V.d (D.int .i64 wy), V.d (D.sl partSh n3 parts), V.d (D.bool fc)]), (192, Obj.box [V.d (D.int .i64 0), V.d (D.int .i64 0), V.d (D.int .i64 0), V.d (D.sl partSh true []), V.d (D.int .i64 0), V.d (D.int .i64 0), V.d (D.str []), V.d (D.sl stepSh true [])]), (320, Obj.box [V.d (D.int .i64 0), V.d (D.int .i64 rt), V.d (D.int .i64 nn), V.d (D.sl partSh n1 hops), V.d (D.int .i64 i), V.d (D.int .i64 0), V.d (D.str []), V.d (D.sl stepSh true [])])] }) else none else none else Tree.out (resume E20 (callN E20 (m+40)) n j (0 : Nat) c28 { fr := frame 100 [(1, V.ptr 128 0), (2, V.ptr 192 0), (4, V.ptr 320 0), (5, V.d (D.int .i64 (IntKind.wrap .i64 (i + (1 : Int)))))], ob := [(128, Obj.box [V.d (D.int .i64 rt), V.d (D.int .i64 nn), V.d (D.sl partSh n1 hops), V.d (D.str nm), V.d (D.sl stepSh n2 steps), V.d (D.int .i64 st), V.d (D.int .i64 wy), V.d (D.sl partSh n3 parts), V.d (D.bool fc)]), (192, Obj.box [V.d (D.int .i64 0), V.d (D.int .i64 0), V.d (D.int .i64 0), V.d (D.sl partSh true []), V.d (D.int .i64 0), V.d (D.int .i64 0), V.d (D.str []), V.d (D.sl stepSh true [])]), (320, Obj.box [V.d (D.int .i64 0), V.d (D.int .i64 rt), V.d (D.int .i64 nn), V.d (D.sl partSh n1 hops), V.d (D.int .i64 i), V.d (D.int .i64 0), V.d (D.str []), V.d (D.sl stepSh true [])])] }) else none else bif st == (3 : Int) then bif decide ((0 : Int) ≤ i ∧ i < (↑(List.length parts) : Int)) then bif fi 0 (List.getD parts (Int.toNat i) D.nilp) == (2 : Int) then some [D.agg [D.int .i64 15, D.int .i64 rt, D.int .i64 nn, D.sl partSh n1 hops, D.int .i64 i, D.int .i64 0, D.str [], D.sl stepSh true []], D.bool true] else bif st == (4 : Int) then bif decide ((0 : Int) ≤ i ∧ i < (↑(List.length parts) : Int)) then bif fi 0 (List.getD parts (Int.toNat i) D.nilp) == (1 : Int) then bif st == (4 : Int) then bif decide (List.length steps ≤ (1000000 : Nat)) then bif decide (List.length parts ≤ (1000000 : Nat)) then bif i != curR rt nn st wy fc hops steps parts nm then Tree.out (resume E20 (callN E20 (m+40)) n j (0 : Nat) c28 { fr := frame 100 [(1, V.ptr 128 0), (2, V.ptr 192 0), (4, V.ptr 320 0), (5, V.d (D.int .i64 (IntKind.wrap .i64 (i + (1 : Int)))))], ob := [(128, Obj.box [V.d (D.int .i64 rt), V.d (D.int .i64 nn), V.d (D.sl partSh n1 hops), V.d (D.str nm), V.d (D.sl stepSh n2 steps), V.d (D.int .i64 st), V.d (D.int .i64 wy), V.d (D.sl partSh n3 parts), V.d (D.bool fc)]), (192, Obj.box [V.d (D.int .i64 0), V.d (D.int .i64 0), V.d (D.int .i64 0), V.d (D.sl partSh true []), V.d (D.int .i64 0), V.d (D.int .i64 0), V.d (D.str []), V.d (D.sl stepSh true [])]), (320, Obj.box [V.d (D.int .i64 0), V.d (D.int .i64 rt), V.d (D.int .i64 nn), V.d (D.sl partSh n1 hops), V.d (D.int .i64 i), V.d (D.int .i64 0), V.d (D.str []), V.d (D.sl stepSh true [])])] }) else some [D.agg [D.int .i64 7, D.int .i64 rt, D.int .i64 nn, D.sl partSh n1 hops, D.int .i64 i, D.int .i64 0, D.str [], D.sl stepSh true []], D.bool true] else none else none else some [D.agg [D.int .i64 7, D.int .i64 rt, D.int .i64 nn, D.sl partSh n1 hops, D.int .i64 i, D.int .i64 0, D.str [], D.sl stepSh true []], D.bool true] else bif decide ((0 : Int) ≤ i ∧ i < (↑(List.length parts) : Int)) then bif fi 0 (List.getD parts (Int.toNat i) D.nilp) == (2 : Int) then bif st == (4 : Int) then bif decide (List.length steps ≤ (1000000 : Nat)) then bif decide (List.length parts ≤ (1000000 : Nat)) then bif i != curR rt nn st wy fc hops steps parts nm then Tree.out (resume E20 (callN E20 (m+40)) n j (0 : Nat) c28 { fr := frame 100 [(1, V.ptr 128 0), (2, V.ptr 192 0), (4, V.ptr 320 0), (5, V.d (D.int .i64 (IntKind.wrap .i64 (i + (1 : Int)))))], ob := [(128, Obj.box [V.d (D.int .i64 rt), V.d (D.int .i64 nn), V.d (D.sl partSh n1 hops), V.d (D.str nm), V.d (D.sl stepSh n2 steps), V.d (D.int .i64 st), V.d (D.int .i64 wy), V.d (D.sl partSh n3 parts), V.d (D.bool fc)]), (192, Obj.box [V.d (D.int .i64 0), V.d (D.int .i64 0), V.d (D.int .i64 0), V.d (D.sl partSh true []), V.d (D.int .i64 0), V.d (D.int .i64 0), V.d (D.str []), V.d (D.sl stepSh true [])]), (320, Obj.box [V.d (D.int .i64 0), V.d (D.int .i64 rt), V.d (D.int .i64 nn), V.d (D.sl partSh n1 hops), V.d (D.int .i64 i), V.d (D.int .i64 0), V.d (D.str []), V.d (D.sl stepSh true [])])] }) else some [D.agg [D.int .i64 7, D.int .i64 rt, D.int .i64 nn, D.sl partSh n1 hops, D.int .i64 i, D.int .i64 0, D.str [], D.sl stepSh true []], D.bool true] else none else none else some [D.agg [D.int .i64 7, D.int .i64 rt, D.int .i64 nn, D.sl partSh n1 hops, D.int .i64 i, D.int .i64 0, D.str [], D.sl stepSh true []], D.bool true] else Tree.out (resume E20 (callN E20 (m+40)) n j (0 : Nat) c28 { fr := frame 100 [(1, V.ptr 128 0), (2, V.ptr 192 0), (4, V.ptr 320 0), (5, V.d (D.int .i64 (IntKind.wrap .i64 (i + (1 : Int)))))], ob := [(128, Obj.box [V.d (D.int .i64 rt), V.d (D.int .i64 nn), V.d (D.sl partSh n1 hops), V.d (D.str nm), V.d (D.sl stepSh n2 steps), V.d (D.int .i64 st), V.d (D.int .i64 wy), V.d (D.sl partSh n3 parts), V.d (D.bool fc)]), (192, Obj.box [V.d (D.int .i64 0), V.d (D.int .i64 0), V.d (D.int .i64 0), V.d (D.sl partSh true []), V.d (D.int .i64 0), V.d (D.int .i64 0), V.d (D.str []), V.d (D.sl stepSh true [])]), (320, Obj.box [V.d (D.int .i64 0), V.d (D.int .i64 rt), V.d (D.int .i64 nn), V.d (D.sl partSh n1 hops), V.d (D.int .i64 i), V.d (D.int .i64 0), V.d (D.str []), V.d (D.sl stepSh true [])])] }) else none else none else bif fc then bif decide ((0 : Int) ≤ i ∧ i < (↑(List.length parts) : Int)) then bif fi 0 (List.getD parts (Int.toNat i) D.nilp) == (1 : Int) then bif st == (4 : Int) then bif decide (List.length steps ≤ (1000000 : Nat)) then bif decide (List.length parts ≤ (1000000 : Nat)) then bif i != curR rt nn st wy fc hops steps parts nm then Tree.out (resume E20 (callN E20 (m+40)) n j (0 : Nat) c28 { fr := frame 100 [(1, V.ptr 128 0), (2, V.ptr 192 0), (4, V.ptr 320 0), (5, V.d (D.int .i64 (IntKind.wrap .i64 (i + (1 : Int)))))], ob := [(128, Obj.box [V.d (D.int .i64 rt), V.d (D.int .i64 nn), V.d (D.sl partSh n1 hops), V.d (D.str nm), V.d (D.sl stepSh n2 steps), V.d (D.int .i64 st), V.d (D.int .i64 wy), V.d (D.sl partSh n3 parts), V.d (D.bool fc)]), (192, Obj.box [V.d (D.int .i64 0), V.d (D.int .i64 0), V.d (D.int .i64 0), V.d (D.sl partSh true []), V.d (D.int .i64 0), V.d (D.int .i64 0), V.d (D.str []), V.d (D.sl stepSh true [])]), (320, Obj.box [V.d (D.int .i64 0), V.d (D.int .i64 rt), V.d (D.int .i64 nn), V.d (D.sl partSh n1 hops), V.d (D.int .i64 i), V.d (D.int .i64 0), V.d (D.str []), V.d (D.sl stepSh true [])])] }) else some [D.agg [D.int .i64 7, D.int .i64 rt, D.int .i64 nn, D.sl partSh n1 hops, D.int .i64 i, D.int .i64 0, D.str [], D.sl stepSh true []], D.bool true] else none else none else some [D.agg [D.int .i64 7, D.int .i64 rt, D.int .i64 nn, D.sl partSh n1 hops, D.int .i64 i, D.int .i64 0, D.str [], D.sl stepSh true []], D.bool true] else bif decide ((0 : Int) ≤ i ∧ i < (↑(List.length parts) : Int)) then bif fi 0 (List.getD parts (Int.toNat i) D.nilp) == (2 : Int) then bif st == (4 : Int) then bif decide (List.length steps ≤ (1000000 : Nat)) then bif decide (List.length parts ≤ (1000000 : Nat)) then bif i != curR rt nn st wy fc hops steps parts nm then Tree.out (resume E20 (callN E20 (m+40)) n j (0 : Nat) c28 { fr := frame 100 [(1, V.ptr 128 0), (2, V.ptr 192 0), (4, V.ptr 320 0), (5, V.d (D.int .i64 (IntKind.wrap .i64 (i + (1 : Int)))))], ob := [(128, Obj.box [V.d (D.int .i64 rt), V.d (D.int .i64 nn), V.d (D.sl partSh n1 hops), V.d (D.str nm), V.d (D.sl stepSh n2 steps), V.d (D.int .i64 st), V.d (D.int .i64 wy), V.d (D.sl partSh n3 parts), V.d (D.bool fc)]), (192, Obj.box [V.d (D.int .i64 0), V.d (D.int .i64 0), V.d (D.int .i64 0), V.d (D.sl partSh true []), V.d (D.int .i64 0), V.d (D.int .i64 0), V.d (D.str []), V.d (D.sl stepSh true [])]), (320, Obj.box [V.d (D.int .i64 0), V.d (D.int .i64 rt), V.d (D.int .i64 nn), V.d (D.sl partSh n1 hops), V.d (D.int .i64 i), V.d (D.int .i64 0), V.d (D.str []), V.d (D.sl stepSh true [])])] }) else some [D.agg [D.int .i64 7, D.int .i64 rt, D.int .i64 nn, D.sl partSh n1 hops, D.int .i64 i, D.int .i64 0, D.str [], D.sl stepSh true []], D.bool true] else none else none else some [D.agg [D.int .i64 7, D.int .i64 rt, D.int .i64 nn, D.sl partSh n1 hops, D.int .i64 i, D.int .i64 0, D.str [], D.sl stepSh true []], D.bool true] else Tree.out (resume E20 (callN E20 (m+40)) n j (0 : Nat) c28 { fr := frame 100 [(1, V.ptr 128 0), (2, V.ptr 192 0), (4, V.ptr 320 0), (5, V.d (D.int .i64 (IntKind.wrap .i64 (i + (1 : Int)))))], ob := [(128, Obj.box [V.d (D.int .i64 rt), V.d (D.int .i64 nn), V.d (D.sl partSh n1 hops), V.d (D.str nm), V.d (D.sl stepSh n2 steps), V.d (D.int .i64 st), V.d (D.int .i64 wy), V.d (D.sl partSh n3 parts), V.d (D.bool fc)]), (192, Obj.box [V.d (D.int .i64 0), V.d (D.int .i64 0), V.d (D.int .i64 0), V.d (D.sl partSh true []), V.d (D.int .i64 0), V.d (D.int .i64 0), V.d (D.str []), V.d (D.sl stepSh true [])]), (320, Obj.box [V.d (D.int .i64 0), V.d (D.int .i64 rt), V.d (D.int .i64 nn), V.d (D.sl partSh n1 hops), V.d (D.int .i64 i), V.d (D.int .i64 0), V.d (D.str []), V.d (D.sl stepSh true [])])] }) else none else none else Tree.out (resume E20 (callN E20 (m+40)) n j (0 : Nat) c28 { fr := frame 100 [(1, V.ptr 128 0), (2, V.ptr 192 0), (4, V.ptr 320 0), (5, V.d (D.int .i64 (IntKind.wrap .i64 (i + (1 : Int)))))], ob := [(128, Obj.box [V.d (D.int .i64 rt), V.d (D.int .i64 nn), V.d (D.sl partSh n1 hops), V.d (D.str nm), V.d (D.sl stepSh n2 steps), V.d (D.int .i64 st), V.d (D.int .i64 wy), V.d (D.sl partSh n3 parts), V.d (D.bool fc)]), (192, Obj.box [V.d (D.int .i64 0), V.d (D.int .i64 0), V.d (D.int .i64 0), V.d (D.sl partSh true []), V.d (D.int .i64 0), V.d (D.int .i64 0), V.d (D.str []), V.d (D.sl stepSh true [])]), (320, Obj.box [V.d (D.int .i64 0), V.d (D.int .i64 rt), V.d (D.int .i64 nn), V.d (D.sl partSh n1 hops), V.d (D.int .i64 i), V.d (D.int .i64 0), V.d (D.str []), V.d (D.sl stepSh true [])])] }) else none else bif st == (4 : Int) then bif decide ((0 : Int) ≤ i ∧ i < (↑(List.length parts) : Int)) then bif fi 0 (List.getD parts (Int.toNat i) D.nilp) == (1 : Int) then bif st == (4 : Int) then bif decide (List.length steps ≤ (1000000 : Nat)) then bif decide (List.length parts ≤ (1000000 : Nat)) then bif i != curR rt nn st wy fc hops steps parts nm then Tree.out (resume E20 (callN E20 (m+40)) n j (0 : Nat) c28 { fr := frame 100 [(1, V.ptr 128 0), (2, V.ptr 192 0), (4, V.ptr 320 0), (5, V.d (D.int .i64 (IntKind.wrap .i64 (i + (1 : Int)))))], ob := [(128, Obj.box [V.d (D.int .i64 rt), V.d (D.int .i64 nn), V.d (D.sl partSh n1 hops), V.d (D.str nm), V.d (D.sl stepSh n2 steps), V.d (D.int .i64 st), V.d (D.int .i64 wy), V.d (D.sl partSh n3 parts), V.d (D.bool fc)]), (192, Obj.box [V.d (D.int .i64 0), V.d (D.int .i64 0), V.d (D.int .i64 0), V.d (D.sl partSh true []), V.d (D.int .i64 0), V.d (D.int .i64 0), V.d (D.str []), V.d (D.sl stepSh true [])]), (320, Obj.box [V.d (D.int .i64 0), V.d (D.int .i64 rt), V.d (D.int .i64 nn), V.d (D.sl partSh n1 hops), V.d (D.int .i64 i), V.d (D.int .i64 0), V.d (D.str []), V.d (D.sl stepSh true [])])] }) else some [D.agg [D.int .i64 7, D.int .i64 rt, D.int .i64 nn, D.sl partSh n1 hops, D.int .i64 i, D.int .i64 0, D.str [], D.sl stepSh true []], D.bool true] else none else none else some [D.agg [D.int .i64 7, D.int .i64 rt, D.int .i64 nn, D.sl partSh n1 hops, D.int .i64 i, D.int .i64 0, D.str [], D.sl stepSh true []], D.bool true] else bif decide ((0 : Int) ≤ i ∧ i < (↑(List.length parts) : Int)) then bif fi 0 (List.getD parts (Int.toNat i) D.nilp) == (2 : Int) then bif st == (4 : Int) then bif decide (List.length steps ≤ (1000000 : Nat)) then bif decide (List.length parts ≤ (1000000 : Nat)) then bif i != curR rt nn st wy fc hops steps parts nm then Tree.out (resume E20 (callN E20 (m+40)) n j (0 : Nat) c28 { fr := frame 100 [(1, V.ptr 128 0), (2, V.ptr 192 0), (4, V.ptr 320 0), (5, V.d (D.int .i64 (IntKind.wrap .i64 (i + (1 : Int)))))], ob := [(128, Obj.box [V.d (D.int .i64 rt), V.d (D.int .i64 nn), V.d (D.sl partSh n1 hops), V.d (D.str nm), V.d (D.sl stepSh n2 steps), V.d (D.int .i64 st), V.d (D.int .i64 wy), V.d (D.sl partSh n3 parts), V.d (D.bool fc)]), (192, Obj.box [V.d (D.int .i64 0), V.d (D.int .i64 0), V.d (D.int .i64 0), V.d (D.sl partSh true []), V.d (D.int .i64 0), V.d (D.int .i64 0), V.d (D.str []), V.d (D.sl stepSh true [])]), (320, Obj.box [V.d (D.int .i64 0), V.d (D.int .i64 rt), V.d (D.int .i64 nn), V.d (D.sl partSh n1 hops), V.d (D.int .i64 i), V.d (D.int .i64 0), V.d (D.str []), V.d (D.sl stepSh true [])])] }) else some [D.agg [D.int .i64 7, D.int .i64 rt, D.int .i64 nn, D.sl partSh n1 hops, D.int .i64 i, D.int .i64 0, D.str [], D.sl stepSh true []], D.bool true] else none else none else some [D.agg [D.int .i64 7, D.int .i64 rt, D.int .i64 nn, D.sl partSh n1 hops, D.int .i64 i, D.int .i64 0, D.str [], D.sl stepSh true []], D.bool true] else Tree.out (resume E20 (callN E20 (m+40)) n j (0 : Nat) c28 { fr := frame 100 [(1, V.ptr 128 0), (2, V.ptr 192 0), (4, V.ptr 320 0), (5, V.d (D.int .i64 (IntKind.wrap .i64 (i + (1 : Int)))))], ob := [(128, Obj.box [V.d (D.int .i64 rt), V.d (D.int .i64 nn), V.d (D.sl partSh n1 hops), V.d (D.str nm), V.d (D.sl stepSh n2 steps), V.d (D.int .i64 st), V.d (D.int .i64 wy), V.d (D.sl partSh n3 parts), V.d (D.bool fc)]), (192, Obj.box [V.d (D.int .i64 0), V.d (D.int .i64 0), V.d (D.int .i64 0), V.d (D.sl partSh true []), V.d (D.int .i64 0), V.d (D.int .i64 0), V.d (D.str []), V.d (D.sl stepSh true [])]), (320, Obj.box [V.d (D.int .i64 0), V.d (D.int .i64 rt), V.d (D.int .i64 nn), V.d (D.sl partSh n1 hops), V.d (D.int .i64 i), V.d (D.int .i64 0), V.d (D.str []), V.d (D.sl stepSh true [])])] }) else none else none else bif fc then bif decide ((0 : Int) ≤ i ∧ i < (↑(List.length parts) : Int)) then bif fi 0 (List.getD parts (Int.toNat i) D.nilp) == (1 : Int) then bif st == (4 : Int) then bif decide (List.length steps ≤ (1000000 : Nat)) then bif decide (List.length parts ≤ (1000000 : Nat)) then bif i != curR rt nn st wy fc hops steps parts nm then Tree.out (resume E20 (callN E20 (m+40)) n j (0 : Nat) c28 { fr := frame 100 [(1, V.ptr 128 0), (2, V.ptr 192 0), (4, V.ptr 320 0), (5, V.d (D.int .i64 (IntKind.wrap .i64 (i + (1 : Int)))))], ob := [(128, Obj.box [V.d (D.int .i64 rt), V.d (D.int .i64 nn), V.d (D.sl partSh n1 hops), V.d (D.str nm), V.d (D.sl stepSh n2 steps), V.d (D.int .i64 st), V.d (D.int .i64 wy), V.d (D.sl partSh n3 parts), V.d (D.bool fc)]), (192, Obj.box [V.d (D.int .i64 0), V.d (D.int .i64 0), V.d (D.int .i64 0), V.d (D.sl partSh true []), V.d (D.int .i64 0), V.d (D.int .i64 0), V.d (D.str []), V.d (D.sl stepSh true [])]), (320, Obj.box [V.d (D.int .i64 0), V.d (D.int .i64 rt), V.d (D.int .i64 nn), V.d (D.sl partSh n1 hops), V.d (D.int .i64 i), V.d (D.int .i64 0), V.d (D.str []), V.d (D.sl stepSh true [])])] }) else some [D.agg [D.int .i64 7, D.int .i64 rt, D.int .i64 nn, D.sl partSh n1 hops, D.int .i64 i, D.int .i64 0, D.str [], D.sl stepSh true []], D.bool true] else none else none else some [D.agg [D.int .i64 7, D.int .i64 rt, D.int .i64 nn, D.sl partSh n1 hops, D.int .i64 i, D.int .i64 0, D.str [], D.sl stepSh true []], D.bool true] else bif decide ((0 : Int) ≤ i ∧ i < (↑(List.length parts) : Int)) then bif fi 0 (List.getD parts (Int.toNat i) D.nilp) == (2 : Int) then bif st == (4 : Int) then bif decide (List.length steps ≤ (1000000 : Nat)) then bif decide (List.length parts ≤ (1000000 : Nat)) then bif i != curR rt nn st wy fc hops steps parts nm then Tree.out (resume E20 (callN E20 (m+40)) n j (0 : Nat) c28 { fr := frame 100 [(1, V.ptr 128 0), (2, V.ptr 192 0), (4, V.ptr 320 0), (5, V.d (D.int .i64 (IntKind.wrap .i64 (i + (1 : Int)))))], ob := [(128, Obj.box [V.d (D.int .i64 rt), V.d (D.int .i64 nn), V.d (D.sl partSh n1 hops), V.d (D.str nm), V.d (D.sl stepSh n2 steps), V.d (D.int .i64 st), V.d (D.int .i64 wy), V.d (D.sl partSh n3 parts), V.d (D.bool fc)]), (192, Obj.box [V.d (D.int .i64 0), V.d (D.int .i64 0), V.d (D.int .i64 0), V.d (D.sl partSh true []), V.d (D.int .i64 0), V.d (D.int .i64 0), V.d (D.str []), V.d (D.sl stepSh true [])]), (320, Obj.box [V.d (D.int .i64 0), V.d (D.int .i64 rt), V.d (D.int .i64 nn), V.d (D.sl partSh n1 hops), V.d (D.int .i64 i), V.d (D.int .i64 0), V.d (D.str []), V.d (D.sl stepSh true [])])] }) else some [D.agg [D.int .i64 7, D.int .i64 rt, D.int .i64 nn, D.sl partSh n1 hops, D.int .i64 i, D.int .i64 0, D.str [], D.sl stepSh true []], D.bool true] else none else none else some [D.agg [D.int .i64 7, D.int .i64 rt, D.int .i64 nn, D.sl partSh n1 hops, D.int .i64 i, D.int .i64 0, D.str [], D.sl stepSh true []], D.bool true] else Tree.out (resume E20 (callN E20 (m+40)) n j (0 : Nat) c28 { fr := frame 100 [(1, V.ptr 128 0), (2, V.ptr 192 0), (4, V.ptr 320 0), (5, V.d (D.int .i64 (IntKind.wrap .i64 (i + (1 : Int)))))], ob := [(128, Obj.box [V.d (D.int .i64 rt), V.d (D.int .i64 nn), V.d (D.sl partSh n1 hops), V.d (D.str nm), V.d (D.sl stepSh n2 steps), V.d (D.int .i64 st), V.d (D.int .i64 wy), V.d (D.sl partSh n3 parts), V.d (D.bool fc)]), (192, Obj.box [V.d (D.int .i64 0), V.d (D.int .i64 0), V.d (D.int .i64 0), V.d (D.sl partSh true []), V.d (D.int .i64 0), V.d (D.int .i64 0), V.d (D.str []), V.d (D.sl stepSh true [])]), (320, Obj.box [V.d (D.int .i64 0), V.d (D.int .i64 rt), V.d (D.int .i64 nn), V.d (D.sl partSh n1 hops), V.d (D.int .i64 i), V.d (D.int .i64 0), V.d (D.str []), V.d (D.sl stepSh true [])])] }) else none else none else Tree.out (resume E20 (callN E20 (m+40)) n j (0 : Nat) c28 { fr := frame 100 [(1, V.ptr 128 0), (2, V.ptr 192 0), (4, V.ptr 320 0), (5, V.d (D.int .i64 (IntKind.wrap .i64 (i + (1 : Int)))))], ob := [(128, Obj.box [V.d (D.int .i64 rt), V.d (D.int .i64 nn), V.d (D.sl partSh n1 hops), V.d (D.str nm), V.d (D.sl stepSh n2 steps), V.d (D.int .i64 st), V.d (D.int .i64 wy), V.d (D.sl partSh n3 parts), V.d (D.bool fc)]), (192, Obj.box [V.d (D.int .i64 0), V.d (D.int .i64 0), V.d (D.int .i64 0), V.d (D.sl partSh true []), V.d (D.int .i64 0), V.d (D.int .i64 0), V.d (D.str []), V.d (D.sl stepSh true [])]), (320, Obj.box [V.d (D.int .i64 0), V.d (D.int .i64 rt), V.d (D.int .i64 nn), V.d (D.sl partSh n1 hops), V.d (D.int .i64 i), V.d (D.int .i64 0), V.d (D.str []), V.d (D.sl stepSh true [])])] }) else none else some [D.agg [D.int .i64 9, D.int .i64 rt, D.int .i64 nn, D.sl partSh n1 hops, D.int .i64 0, D.int .i64 0, D.str [], D.sl stepSh true []], D.bool (st == (2 : Int))] := by kernel_rfl
end Go.Proofs.YtknoielhkilkpaaDoor.A
/- What children and a parent do to a saga. -/
namespace Go.Proofs.YtknoielhkilkpaaDoor.A
open Go Go.AM
def ansP (st : Int) (fc : Bool) (c : Int) (parts steps : List D) (i : Nat) : Bool :=
  !(fs 4 (steps.getD i .nilp) == []) && ((st == 1 && fi 0 (parts.getD i .nilp) == 1) || ((st == 3 && fi 0 (parts.getD i .nilp) == 2) || (((st == 4 || fc) && (fi 0 (parts.getD i .nilp) == 1 || fi 0 (parts.getD i .nilp) == 2)) && !(st == 4 && (i : Int) != c))))
def ansK (st : Int) (parts : List D) (i : Nat) : Int := bif st == 1 && fi 0 (parts.getD i .nilp) == 1 then 6 else bif st == 3 && fi 0 (parts.getD i .nilp) == 2 then 15 else 7
def ansR (st : Int) (fc : Bool) (c : Int) (parts steps : List D) : Int × Int × Bool := scan (ansP st fc c parts steps) (fun i => (ansK st parts i, (i : Int), true)) (9, 0, st == 2) parts.length 0
def mkS (n1 : Bool) (rt nn : Int) (hops : List D) (r : Int × Int × Bool) : List D := [.agg [.int .i64 r.1, .int .i64 rt, .int .i64 nn, .sl hopSh n1 hops, .int .i64 r.2.1, .int .i64 0, .str [], .sl stepSh true []], .bool r.2.2]
theorem loop28 (m n : Nat) (rt nn st wy : Int) (n1 n2 n3 fc : Bool) (hops steps parts : List D) (nm : List UInt8) (hl : parts.length ≤ 1000000) (hs : steps.length ≤ 1000000) (hps : parts.length ≤ steps.length) : ∀ (k i j : Nat) (q : Int), i + k = parts.length → k < j →
    (resume E20 (callN E20 (m+40)) n j 0 c28 (s28 rt nn st wy n1 n2 n3 fc hops steps parts nm q (i : Nat))).out = some (mkS n1 rt nn hops (scan (ansP st fc (curR rt nn st wy fc hops steps parts nm) parts steps) (fun i => (ansK st parts i, (i : Int), true)) (9, 0, st == 2) k i)) := by
  intro k
  induction k with
  | zero =>
    intro i j q hi hj
    cases j with
    | zero => omega
    | succ j =>
      have : i = parts.length := by omega
      subst this
      rw [l28]
      simp only [dec_end, cond_false]
      rfl
  | succ k ih =>
    intro i j q hi hj
    cases j with
    | zero => omega
    | succ j =>
      have hlt : i < parts.length := by omega
      have hr := ih (i + 1) j (i : Int) (by omega) (by omega)
      have hsc : ∀ (p : Nat → Bool) (hit : Nat → Int × Int × Bool) (fin : Int × Int × Bool), scan p hit fin (k + 1) i = bif p i then hit i else scan p hit fin k (i + 1) := fun _ _ _ => rfl
      rw [l28, hsc]
      generalize scan _ _ _ k (i + 1) = sc at hr ⊢
      simp only [Int.toNat_natCast, wrap_up hlt hl, dec_lt hlt, dec_ix hlt, dec_ix (show i < steps.length by omega), decide_eq_true hl, decide_eq_true hs, cond_true, ansP, ansK]
      generalize curR rt nn st wy fc hops steps parts nm = c
      generalize (fs 4 (steps.getD i .nilp) == []) = a0
      generalize (fi 0 (parts.getD i .nilp) == 1) = s1
      generalize (fi 0 (parts.getD i .nilp) == 2) = s2
      generalize ((i : Int) != c) = ne
      cases a0
      · cases (st == 1) <;> cases (st == 3) <;> cases (st == 4) <;> cases s1 <;> cases s2 <;> cases fc <;> cases ne <;> first | rfl | exact hr
      · exact hr
theorem run28 (m n : Nat) (rt nn st wy : Int) (n1 n2 n3 fc : Bool) (hops steps parts : List D) (nm : List UInt8) (hl : parts.length ≤ 1000000) (hs : steps.length ≤ 1000000) (hps : parts.length ≤ steps.length) (hn : parts.length < n) :
    (enterM E20 (callN E20 (m+40)) n c28 [.d (sagaD rt nn st wy n1 n2 n3 fc hops steps parts nm)] []).out = some (mkS n1 rt nn hops (ansR st fc (curR rt nn st wy fc hops steps parts nm) parts steps)) := by
  have h := loop28 m n rt nn st wy n1 n2 n3 fc hops steps parts nm hl hs hps parts.length 0 n 0 (by omega) hn
  rw [e28]
  exact h
def g28 : List D → Tree (List D)
  | [.agg [.int .i64 rt, .int .i64 nn, .sl eh n1 hops, .str nm, .sl es _ steps, .int .i64 st, .int .i64 wy, .sl ep _ parts, .bool fc]] => match (Sh.beq eh hopSh && (Sh.beq es stepSh && Sh.beq ep partSh)) with
    | true => .ite (decide (parts.length ≤ 1000000)) (fun _ => .ite (decide (steps.length ≤ 1000000)) (fun _ => .ite (decide (parts.length ≤ steps.length)) (fun _ => .ret (mkS n1 rt nn hops (ansR st fc (curR rt nn st wy fc hops steps parts nm) parts steps))) (fun _ => .stuck)) (fun _ => .stuck)) (fun _ => .stuck)
    | false => .stuck
  | _ => .stuck
theorem pure28 {P : Program} (hm : P.follows .mixedOrders = true) (h0 : EnvOK P E20) : PureOK P 28 g28 := PureOK.run hm h0 fun ds rs h => by
  unfold g28 at h
  split at h
  · rename_i rt nn eh n1 hops nm es n2 steps st wy ep n3 parts fc
    split at h
    · rename_i hb
      simp only [Bool.and_eq_true] at hb
      obtain ⟨hb3, hb4, hb5⟩ := hb
      have hb3 := Sh.beq_eq hb3
      have hb4 := Sh.beq_eq hb4
      have hb5 := Sh.beq_eq hb5
      subst hb3 hb4 hb5
      obtain ⟨hl, h⟩ := eval_guard h
      obtain ⟨hs, h⟩ := eval_guard h
      obtain ⟨hps, h⟩ := eval_guard h
      cases h
      exact ⟨(parts.length + 40) + 1, by rw [callN_succ (fn := c28) rfl]; exact run28 parts.length (parts.length + 40) rt nn st wy n1 n2 n3 fc hops steps parts nm (of_decide_eq_true hl) (of_decide_eq_true hs) (of_decide_eq_true hps) (by omega)⟩
    · cases h
  · cases h
/-- ended -/
def E21 : Env := E20.pureAt 28 false g28
theorem ok21 {P : Program} (hm : P.follows .mixedOrders = true) (h0 : EnvOK P E20) : EnvOK P E21 := h0.pureAt (pure28 hm h0)
end Go.Proofs.YtknoielhkilkpaaDoor.A
