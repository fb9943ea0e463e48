/- Parts of the walk: SR4, K0, QK2, SK2, SK3, QK3, SK4, SK5, QK4, SK6, PY. -/
import Derived.Test.YtkjiaijkdefkgaaGreatDoorGk
import Derived.KernelRfl
namespace Go.Proofs.YtkjiaijkdefkgaaGreatDoor.A
open Go Go.AM
theorem cnt_all {q : Nat → Bool} : ∀ {n : Nat}, cntN q n = n ↔ ∀ i, i < n → q i = true
 | 0 => by simp [cntN]
 | n + 1 => by
  have hle := cntN_le q n
  have ih := @cnt_all q n
  simp only [cntN]
  cases hq : q n
  ·constructor
   ·intro h; simp only [cond_false] at h; omega
   ·intro h; have := h n (by omega); rw [hq] at this; cases this
  ·constructor
   ·intro h i hi
    simp only [cond_true] at h
    by_cases he : i = n
    ·rw [he]; exact hq
    ·exact ih.1 (by omega) i (by omega)
   ·intro h
    have := ih.2 fun i hi => h i (by omega)
    simp only [cond_true]; omega
theorem cnt_none {q : Nat → Bool} : ∀ {n : Nat}, cntN q n = 0 ↔ ∀ i, i < n → q i = false
 | 0 => by simp [cntN]
 | n + 1 => by
  have ih := @cnt_none q n
  simp only [cntN]
  cases hq : q n
  ·constructor
   ·intro h i hi
    by_cases he : i = n
    ·rw [he]; exact hq
    ·exact ih.1 (by simpa using h) i (by omega)
   ·intro h
    have := ih.2 fun i hi => h i (by omega)
    simpa using this
  ·constructor
   ·intro h; simp at h
   ·intro h; have := h n (by omega); rw [hq] at this; cases this
def b2n (b : Bool) : Nat := bif b then 1 else 0
theorem cnt_add {q a b : Nat → Bool} : ∀ {n : Nat}, (∀ i, i < n → b2n (q i) = b2n (a i) + b2n (b i)) → cntN q n = cntN a n + cntN b n
 | 0, _ => rfl
 | n + 1, h => by
  have := cnt_add (n := n) fun i hi => h i (by omega)
  have h2 := h n (by omega)
  simp only [b2n] at h2
  simp only [cntN]
  omega
theorem cntR_small {ow : Bool} {k : Int} {parts steps : List D} : 0 ≤ cntR ow k parts steps ∧ cntR ow k parts steps ≤ parts.length := by
 have := cntN_le (qcnt ow k parts steps) parts.length
 unfold cntR
 omega
theorem any_sum {k : Int} {parts steps : List D} : cntR true k parts steps + cntR false k parts steps = (cntN (fun i => fi 0 (parts.getD i .nilp) == k) parts.length : Nat) := by
 unfold cntR
 rw [cnt_add (q := fun i => fi 0 (parts.getD i .nilp) == k) (a := qcnt true k parts steps) (b := qcnt false k parts steps)]
 ·omega
 ·intro i _
  unfold qcnt
  cases (fi 0 (parts.getD i .nilp) == k) <;> cases asksAt (steps.getD i .nilp) <;> rfl
theorem all_cnt {p : D → D → Bool} {parts steps : List D} : allI p parts.length parts steps = ((cntN (fun i => p (parts.getD i .nilp) (steps.getD i .nilp)) parts.length : Nat) == (parts.length : Int)) := by
 rw [Bool.eq_iff_iff, allI_iff, beq_iff_eq]
 constructor
 ·intro h; have := cnt_all.2 h; omega
 ·intro h; exact cnt_all.1 (by omega)
theorem none_cnt {p : D → D → Bool} {q : Nat → Bool} {parts steps : List D} (h : ∀ i, i < parts.length → q i = !p (parts.getD i .nilp) (steps.getD i .nilp)) : allI p parts.length parts steps = ((cntN q parts.length : Nat) == (0 : Int)) := by
 rw [Bool.eq_iff_iff, allI_iff, beq_iff_eq]
 constructor
 ·intro g
  have := (cnt_none (q := q)).2 fun i hi => by rw [h i hi, g i hi]; rfl
  omega
 ·intro g i hi
  have := cnt_none.1 (show cntN q parts.length = 0 by omega) i hi
  rw [h i hi] at this
  simpa using this
theorem w_small {a : Int} (h0 : 0 ≤ a) (h : a ≤ 1000) : IntKind.wrap .i64 a = a := wrap_i64 h0 (by omega)
section
variable {parts steps : List D}
theorem fA : decide (0 < cntR true 2 parts steps) = !allI p81 parts.length parts steps := by
 rw [none_cnt (q := qcnt true 2 parts steps)]
 ·have := (cntR_small (ow := true) (k := 2) (parts := parts) (steps := steps)).1
  unfold cntR at *
  by_cases h : cntN (qcnt true 2 parts steps) parts.length = 0
  ·rw [h]; rfl
  ·rw [decide_eq_true (by omega), beqF (by omega)]; rfl
 ·intro i _
  unfold qcnt p81
  cases (fi 0 (parts.getD i .nilp) == 2) <;> cases asksAt (steps.getD i .nilp) <;> rfl
theorem fB : allI p84 parts.length parts steps = (allI p81 parts.length parts steps && (cntR true 4 parts steps == 0)) := by
 have h4 : (cntR true 4 parts steps == 0) = allI (fun x y => asksAt y || !(fi 0 x == 4)) parts.length parts steps := by
  rw [none_cnt (q := qcnt true 4 parts steps)]
  ·rfl
  ·intro i _
   unfold qcnt
   cases (fi 0 (parts.getD i .nilp) == 4) <;> cases asksAt (steps.getD i .nilp) <;> rfl
 rw [h4, Bool.eq_iff_iff, Bool.and_eq_true, allI_iff, allI_iff, allI_iff]
 have pt : ∀ x y, p84 x y = (p81 x y && (asksAt y || !(fi 0 x == 4))) := by
  intro x y
  unfold p84 p81
  cases asksAt y <;> cases (fi 0 x == 2) <;> cases (fi 0 x == 4) <;> rfl
 constructor
 ·intro h
  exact ⟨fun i hi => by have := h i hi; rw [pt, Bool.and_eq_true] at this; exact this.1, fun i hi => by have := h i hi; rw [pt, Bool.and_eq_true] at this; exact this.2⟩
 ·rintro ⟨h1, h2⟩ i hi
  rw [pt, h1 i hi, h2 i hi]; rfl
theorem fC (h8 : parts.length ≤ 8) : (IntKind.wrap .i64 (IntKind.wrap .i64 (cntR true 2 parts steps + cntR false 2 parts steps) + cntR false 3 parts steps) == (parts.length : Int)) = allI p80 parts.length parts steps := by
 have a := cntR_small (ow := true) (k := 2) (parts := parts) (steps := steps)
 have b := cntR_small (ow := false) (k := 2) (parts := parts) (steps := steps)
 have c := cntR_small (ow := false) (k := 3) (parts := parts) (steps := steps)
 rw [w_small (show 0 ≤ cntR true 2 parts steps + cntR false 2 parts steps by omega) (by omega), w_small (by omega) (by omega), all_cnt, any_sum]
 rw [cnt_add (q := fun i => p80 (parts.getD i .nilp) (steps.getD i .nilp)) (a := fun i => fi 0 (parts.getD i .nilp) == 2) (b := qcnt false 3 parts steps)]
 ·unfold cntR
  rw [Int.natCast_add]
 ·intro i _
  unfold p80 qcnt
  by_cases h : fi 0 (parts.getD i .nilp) = 2
  ·rw [h]; cases asksAt (steps.getD i .nilp) <;> rfl
  ·rw [beqF h]; cases (fi 0 (parts.getD i .nilp) == 3) <;> cases asksAt (steps.getD i .nilp) <;> rfl
theorem fD (h8 : parts.length ≤ 8) : (IntKind.wrap .i64 (IntKind.wrap .i64 (cntR true 4 parts steps + cntR false 4 parts steps) + cntR false 2 parts steps) == (parts.length : Int)) = allI p83 parts.length parts steps := by
 have a := cntR_small (ow := true) (k := 4) (parts := parts) (steps := steps)
 have b := cntR_small (ow := false) (k := 4) (parts := parts) (steps := steps)
 have c := cntR_small (ow := false) (k := 2) (parts := parts) (steps := steps)
 rw [w_small (show 0 ≤ cntR true 4 parts steps + cntR false 4 parts steps by omega) (by omega), w_small (by omega) (by omega), all_cnt, any_sum]
 rw [cnt_add (q := fun i => p83 (parts.getD i .nilp) (steps.getD i .nilp)) (a := fun i => fi 0 (parts.getD i .nilp) == 4) (b := qcnt false 2 parts steps)]
 ·unfold cntR
  rw [Int.natCast_add]
 ·intro i _
  unfold p83 qcnt
  by_cases h : fi 0 (parts.getD i .nilp) = 4
  ·rw [h]; cases asksAt (steps.getD i .nilp) <;> rfl
  ·rw [beqF h]; cases (fi 0 (parts.getD i .nilp) == 2) <;> cases asksAt (steps.getD i .nilp) <;> rfl
theorem fE (h8 : parts.length ≤ 8) : (IntKind.wrap .i64 (cntR true 4 parts steps + cntR false 4 parts steps) == 0) = allI (p97 w4) parts.length parts steps := by
 have a := cntR_small (ow := true) (k := 4) (parts := parts) (steps := steps)
 have b := cntR_small (ow := false) (k := 4) (parts := parts) (steps := steps)
 rw [w_small (by omega) (by omega), any_sum, none_cnt (q := fun i => fi 0 (parts.getD i .nilp) == 4)]
 intro i _
 have := @q974 (parts.getD i .nilp) (steps.getD i .nilp)
 by_cases h : fi 0 (parts.getD i .nilp) = 4
 ·have h2 : p97 w4 (parts.getD i .nilp) (steps.getD i .nilp) = false := by rw [Bool.eq_false_iff]; intro g; exact this.1 g h
  rw [h2, h]; rfl
 ·rw [this.2 h, beqF h]; rfl
theorem fF (h8 : parts.length ≤ 8) (hs : allI p47 parts.length parts steps = true) : (IntKind.wrap .i64 (IntKind.wrap .i64 (cntR true 0 parts steps + cntR false 0 parts steps) + IntKind.wrap .i64 (cntR true 3 parts steps + cntR false 3 parts steps)) == (parts.length : Int)) = allI (p97 w124) parts.length parts steps := by
 have a := cntR_small (ow := true) (k := 0) (parts := parts) (steps := steps)
 have b := cntR_small (ow := false) (k := 0) (parts := parts) (steps := steps)
 have c := cntR_small (ow := true) (k := 3) (parts := parts) (steps := steps)
 have d := cntR_small (ow := false) (k := 3) (parts := parts) (steps := steps)
 rw [w_small (show 0 ≤ cntR true 0 parts steps + cntR false 0 parts steps by omega) (by omega), w_small (show 0 ≤ cntR true 3 parts steps + cntR false 3 parts steps by omega) (by omega), w_small (by omega) (by omega), all_cnt, any_sum, any_sum]
 rw [cnt_add (q := fun i => p97 w124 (parts.getD i .nilp) (steps.getD i .nilp)) (a := fun i => fi 0 (parts.getD i .nilp) == 0) (b := fun i => fi 0 (parts.getD i .nilp) == 3)]
 ·rw [Int.natCast_add]
 ·intro i hi
  have hq := q47.1 ((allI_iff _ _ _ _).1 hs i hi)
  have := @q97124 (parts.getD i .nilp) (steps.getD i .nilp)
  have hv : fi 0 (parts.getD i .nilp) = 0 ∨ fi 0 (parts.getD i .nilp) = 1 ∨ fi 0 (parts.getD i .nilp) = 2 ∨ fi 0 (parts.getD i .nilp) = 3 ∨ fi 0 (parts.getD i .nilp) = 4 := by omega
  cases hp : p97 w124 (parts.getD i .nilp) (steps.getD i .nilp)
  ·have h2 : ¬ (fi 0 (parts.getD i .nilp) ≠ 1 ∧ fi 0 (parts.getD i .nilp) ≠ 2 ∧ fi 0 (parts.getD i .nilp) ≠ 4) := fun g => by rw [this.2 g] at hp; cases hp
   rcases hv with h | h | h | h | h
   ·exact (h2 ⟨by omega, by omega, by omega⟩).elim
   ·rw [h]; rfl
   ·rw [h]; rfl
   ·exact (h2 ⟨by omega, by omega, by omega⟩).elim
   ·rw [h]; rfl
  ·have h2 := this.1 hp
   rcases hv with h | h | h | h | h
   ·rw [h]; rfl
   ·omega
   ·omega
   ·rw [h]; rfl
   ·omega
end
theorem run36 (m n : Nat) (rt nn st wy : Int) (n1 n2 n3 fc : Bool) (hops steps parts : List D) (nm : List UInt8) :
  (enterM F4 (callN F4 (m+40)) n c36 [.d (sagaD rt nn st wy n1 n2 n3 fc hops steps parts nm)] []).out = some [.int .i64 (bif mayOk rt nn st wy fc hops steps parts nm then 0 else 230)] := by
 rw [e36]
 have hid : ((bif idOk rt nn hops then (0 : Int) else 30) != 0) = !idOk rt nn hops := by cases idOk rt nn hops <;> rfl
 have hwy : (wy != 0) = !(wy == 0) := rfl
 rw [hid, hwy]
 by_cases h7 : st = 7
 ·subst h7
  unfold mayOk
  have e1 : decide (0 < (steps.length : Int) + (parts.length : Int)) = !((steps.length : Int) == 0 && (parts.length : Int) == 0) := by
   by_cases h1 : (steps.length : Int) = 0
   ·by_cases h2 : (parts.length : Int) = 0
    ·rw [h1, h2]; rfl
    ·rw [h1, beqF h2, decide_eq_true (by omega)]; rfl
   ·rw [beqF h1, decide_eq_true (by omega)]; rfl
  have e2 : ((hops.length : Int) == 0) = !decide (0 < (hops.length : Int)) := by
   by_cases h1 : (hops.length : Int) = 0
   ·rw [h1]; rfl
   ·rw [beqF h1, decide_eq_true (by omega)]; rfl
  rw [e1, e2]
  have e77 : ((7 : Int) == 7) = true := rfl
  simp only [e77, cond_true]
  generalize (nm == []) = b1
  generalize ((steps.length : Int) == 0) = b2
  generalize ((parts.length : Int) == 0) = b3
  generalize decide (1 ≤ wy) = b4
  generalize decide (wy ≤ 9) = b5
  generalize decide (0 < (hops.length : Int)) = b6
  generalize idOk rt nn hops = b7
  cases b1 <;> cases b2 <;> cases b3 <;> cases b4 <;> cases b5 <;> cases b6 <;> cases b7 <;> cases fc <;> rfl
 ·have b7 := beqF h7
  rw [b7]
  simp only [cond_false]
  cases hp : partsOk nm steps parts
  ·have hm : mayOk rt nn st wy fc hops steps parts nm = false := by
    unfold mayOk
    rw [b7]
    unfold partsOk at hp
    rw [bne]
    cases idOk rt nn hops
    ·rfl
    ·cases hd : defOk nm steps
     ·rfl
     ·rw [hd] at hp
      cases hl : ((parts.length : Int) == (steps.length : Int))
      ·rfl
      ·rw [hl] at hp
       cases hs : allI p47 parts.length parts steps
       ·rfl
       ·rw [hs] at hp; cases hp
   rw [hm]
   rfl
  ·have hp' := hp
   unfold partsOk at hp'
   simp only [Bool.and_eq_true, beq_iff_eq] at hp'
   obtain ⟨hd, hl, hs⟩ := hp'
   have h8 : parts.length ≤ 8 := by
    unfold defOk at hd
    simp only [Bool.and_eq_true, Bool.not_eq_true', decide_eq_false_iff_not] at hd
    omega
   have hm : mayOk rt nn st wy fc hops steps parts nm = (idOk rt nn hops && fitsOk st wy fc hops parts steps) := by
    unfold mayOk
    rw [b7, hd, hs, bne, beq_iff_eq.2 hl]
    cases idOk rt nn hops <;> cases fitsOk st wy fc hops parts steps <;> rfl
   have gg : (decide (parts.length ≤ 1000000) && decide (parts.length ≤ steps.length)) = true := by
    rw [decide_eq_true (show parts.length ≤ 1000000 by omega), decide_eq_true (show parts.length ≤ steps.length by omega)]; rfl
   have gs : (decide (parts.length ≤ 1000000) && (decide (parts.length ≤ steps.length) && allI p47 parts.length parts steps)) = true := by
    rw [decide_eq_true (show parts.length ≤ 1000000 by omega), decide_eq_true (show parts.length ≤ steps.length by omega), hs]; rfl
   rw [hm, gg, gs, fA, fC h8, fD h8, fE h8, fF h8 hs]
   simp only [cond_true]
   generalize idOk rt nn hops = a
   by_cases h1 : st = 1
   ·subst h1
    show _ = some [D.int .i64 (bif a && (bif !fc then bif wy == 0 then runOk parts steps else false else false) then 0 else 230)]
    generalize (wy == 0) = w0
    generalize decide (1 ≤ wy) = w1
    generalize decide (wy ≤ 9) = w9
    generalize runOk parts steps = ro
    generalize allI p81 parts.length parts steps = x81
    cases a <;> cases fc <;> cases w0 <;> cases w1 <;> cases w9 <;> cases ro <;> cases x81 <;> rfl
   by_cases h2 : st = 2
   ·subst h2
    show _ = some [D.int .i64 (bif a && (bif !fc then bif wy == 0 then bif decide (0 < (hops.length : Int)) then allI p80 parts.length parts steps else false else false else false) then 0 else 230)]
    generalize (wy == 0) = w0
    generalize decide (1 ≤ wy) = w1
    generalize decide (wy ≤ 9) = w9
    generalize decide (0 < (hops.length : Int)) = hh
    generalize allI p80 parts.length parts steps = x80
    generalize allI p81 parts.length parts steps = x81
    cases a <;> cases fc <;> cases w0 <;> cases w1 <;> cases w9 <;> cases hh <;> cases x80 <;> cases x81 <;> rfl
   by_cases h3 : st = 3
   ·subst h3
    show _ = some [D.int .i64 (bif a && (bif fc then bif wy == 0 then allI p81 parts.length parts steps else bif decide (1 ≤ wy) then bif decide (wy ≤ 9) then allI p81 parts.length parts steps else false else false
     else bif wy == 0 then allI p83 parts.length parts steps else false) then 0 else 230)]
    generalize (wy == 0) = w0
    generalize decide (1 ≤ wy) = w1
    generalize decide (wy ≤ 9) = w9
    generalize allI p83 parts.length parts steps = x83
    generalize allI p81 parts.length parts steps = x81
    cases a <;> cases fc <;> cases w0 <;> cases w1 <;> cases w9 <;> cases x83 <;> cases x81 <;> rfl
   by_cases h4 : st = 4
   ·subst h4
    show _ = some [D.int .i64 (bif a && (bif fc then false else bif decide (1 ≤ wy) then bif !decide (wy ≤ 9) then false else bif !allI (p97 w4) parts.length parts steps then false else true else false) then 0 else 230)]
    generalize (wy == 0) = w0
    generalize decide (1 ≤ wy) = w1
    generalize decide (wy ≤ 9) = w9
    generalize allI (p97 w4) parts.length parts steps = x4
    generalize allI p81 parts.length parts steps = x81
    cases a <;> cases fc <;> cases w0 <;> cases w1 <;> cases w9 <;> cases x4 <;> cases x81 <;> rfl
   by_cases h5 : st = 5
   ·subst h5
    have hx : (decide (parts.length ≤ 1000000) && (5 : Int) == 5) = true := by rw [decide_eq_true (show parts.length ≤ 1000000 by omega)]; rfl
    rw [hx]
    show _ = some [D.int .i64 (bif a && (bif fc then false else bif decide (1 ≤ wy) then bif !decide (wy ≤ 9) then false else bif !allI (p97 w4) parts.length parts steps then false else
     bif decide (0 ≤ cur 5 parts) then bif !!fs 4 (steps.getD (cur 5 parts).toNat .nilp) == [] then fi 1 (parts.getD (cur 5 parts).toNat .nilp) == 5 else false else false else false) then 0 else 230)]
    by_cases hc : 0 ≤ cur 5 parts
    ·have hlt := (cur5_spec hc).1
     have d1 : decide ((0 : Int) ≤ cur 5 parts ∧ cur 5 parts < (steps.length : Int)) = true := decide_eq_true (by omega)
     have d2 : decide ((0 : Int) ≤ cur 5 parts ∧ cur 5 parts < (parts.length : Int)) = true := decide_eq_true (by omega)
     rw [decide_eq_true hc, d1, d2]
     generalize (wy == 0) = w0
     generalize decide (1 ≤ wy) = w1
     generalize decide (wy ≤ 9) = w9
     generalize allI (p97 w4) parts.length parts steps = x4
     generalize allI p81 parts.length parts steps = x81
     generalize (fs 4 (steps.getD (cur 5 parts).toNat .nilp) == []) = y1
     generalize (fi 1 (parts.getD (cur 5 parts).toNat .nilp) == 5) = y2
     cases a <;> cases fc <;> cases w0 <;> cases w1 <;> cases w9 <;> cases x4 <;> cases x81 <;> cases y1 <;> cases y2 <;> rfl
    ·rw [decide_eq_false hc]
     generalize (wy == 0) = w0
     generalize decide (1 ≤ wy) = w1
     generalize decide (wy ≤ 9) = w9
     generalize allI (p97 w4) parts.length parts steps = x4
     generalize allI p81 parts.length parts steps = x81
     cases a <;> cases fc <;> cases w0 <;> cases w1 <;> cases w9 <;> cases x4 <;> cases x81 <;> rfl
   by_cases h6 : st = 6
   ·subst h6
    show _ = some [D.int .i64 (bif a && (bif fc then bif wy == 0 then allI p84 parts.length parts steps else bif decide (1 ≤ wy) then bif decide (wy ≤ 9) then allI p84 parts.length parts steps else false else false
     else bif decide (1 ≤ wy) then bif decide (wy ≤ 9) then !!allI (p97 w124) parts.length parts steps else false else false) then 0 else 230)]
    rw [fB]
    generalize (wy == 0) = w0
    generalize decide (1 ≤ wy) = w1
    generalize decide (wy ≤ 9) = w9
    generalize allI (p97 w124) parts.length parts steps = x4
    generalize allI p81 parts.length parts steps = x81
    generalize (cntR true 4 parts steps == 0) = c4
    cases a <;> cases fc <;> cases w0 <;> cases w1 <;> cases w9 <;> cases x4 <;> cases x81 <;> cases c4 <;> rfl
   ·have hf : fitsOk st wy fc hops parts steps = false := by
     unfold fitsOk
     rw [beqF h1, beqF h2, beqF h3, beqF h4, beqF h5, beqF h6]
     rfl
    rw [hf, beqF h1, beqF h2, beqF h3, beqF h4, beqF h5, beqF h6]
    generalize (wy == 0) = w0
    generalize decide (1 ≤ wy) = w1
    generalize decide (wy ≤ 9) = w9
    generalize allI p81 parts.length parts steps = x81
    cases a <;> cases fc <;> cases w0 <;> cases w1 <;> cases w9 <;> cases x81 <;> rfl
def g36 : List D → Tree (List D)
 | [.agg [.int .i64 rt, .int .i64 nn, .sl eh _ hops, .str nm, .sl es _ steps, .int .i64 st, .int .i64 wy, .sl ep _ parts, .bool fc]] => match (Sh.beq eh hopSh && (Sh.beq es stepSh && Sh.beq ep partSh)) with
  | true => .ret [.int .i64 (bif mayOk rt nn st wy fc hops steps parts nm then 0 else 230)]
  | false => .stuck
 | _ => .stuck
theorem pure36 {P : Program} (hm : P.follows .mixedOrders = true) (h0 : EnvOK P F4) : PureOK P 36 g36 := PureOK.run hm h0 fun ds rs h => by
 unfold g36 at h
 split at h
 ·split at h
  ·rename_i hb
   simp only [Bool.and_eq_true] at hb
   obtain ⟨hb1, hb2, hb3⟩ := hb
   have hb1 := Sh.beq_eq hb1
   have hb2 := Sh.beq_eq hb2
   have hb3 := Sh.beq_eq hb3
   subst hb1 hb2 hb3
   cases h
   exact ⟨59 + 1, by rw [callN_succ (fn := c36) rfl]; exact run36 19 59 _ _ _ _ _ _ _ _ _ _ _ _⟩
  ·cases h
 ·cases h
def F5 : Env := F4.pureAt 36 true g36
theorem okF5 {P : Program} (hm : P.follows .mixedOrders = true) (h0 : EnvOK P E19) : EnvOK P F5 := (okF4 hm h0).pureAt (pure36 hm (okF4 hm h0))
def K0 : Env := (F5.pureAt 71 true g71).pureAt 73 true (g73 1000000)
def hopTxt (h : D) : List UInt8 := [47] ++ digN (fi 0 h).toNat ++ [64] ++ digN (fi 1 h).toNat
def showN (r q : Int) (es : List D) : List UInt8 := digN r.toNat ++ [46] ++ digN q.toNat ++ es.flatMap hopTxt
theorem e70 (m n : Nat) (r q : Int) (nil : Bool) (es : List D) : Tree.out (enterM K0 (callN K0 (m+40)) n c70 [.d (.agg [.int .i64 r, .int .i64 q, .sl hopSh nil es])] []) = bif (bif idOk r q es then (0 : Int) else (30 : Int)) != 0 then some [D.str [], D.int .i64 (bif idOk r q es then (0 : Int) else (30 : Int))] else bif decide (0 ≤ r) && decide (r ≤ 999999) then bif decide (List.length (digN (r.toNat)) + 1 ≤ 4611686018427387904) then bif decide (0 ≤ q) && decide (q ≤ 999999) then bif decide (List.length (List.append (digN (r.toNat)) [46]) + List.length (digN (q.toNat)) ≤ 4611686018427387904) then Tree.out (resume K0 (callN K0 (m+40)) n n 0 c70 { fr := frame 41 [(5, V.d (D.str (List.append (List.append (digN (r.toNat)) [46]) (digN (q.toNat))))), (22, V.d (D.sl hopSh nil es)), (23, V.d (D.int .i64 (es.length : Int))), (24, V.d (D.int .i64 0))], ob := [(128, Obj.box [V.d (D.int .i64 r), V.d (D.int .i64 q), V.d (D.sl hopSh nil es)])] }) else none else none else none else none := by kernel_rfl
def s70 (r q : Int) (nil : Bool) (es : List D) (s : List UInt8) (i : Int) : St := { fr := frame 41 [(5, V.d (D.str s)), (22, V.d (D.sl hopSh nil es)), (23, V.d (D.int .i64 (↑(List.length es) : Int))), (24, V.d (D.int .i64 i))], ob := [(128, Obj.box [V.d (D.int .i64 r), V.d (D.int .i64 q), V.d (D.sl hopSh nil es)])] }
theorem l70 (m n j : Nat) (r q : Int) (nil : Bool) (es : List D) (s : List UInt8) (i : Int) : Tree.out (resume K0 (callN K0 (m+40)) n (j+1) 0 c70 (s70 r q nil es s i)) = bif decide (i < (es.length : Int)) then bif decide (0 ≤ i ∧ i < (es.length : Int)) then bif decide (0 ≤ fi 0 (es.getD i.toNat .nilp)) && decide (fi 0 (es.getD i.toNat .nilp) ≤ 999999) then bif decide (1 + List.length (digN (Int.toNat (fi 0 (es.getD i.toNat .nilp)))) ≤ 4611686018427387904) then bif decide (List.length (digN (Int.toNat (fi 0 (es.getD i.toNat .nilp)))) + 1 + 1 ≤ 4611686018427387904) then bif decide (0 ≤ fi 1 (es.getD i.toNat .nilp)) && decide (fi 1 (es.getD i.toNat .nilp) ≤ 999999) then bif decide (List.length (List.append (digN (Int.toNat (fi 0 (es.getD i.toNat .nilp)))) [64]) + 1 + List.length (digN (Int.toNat (fi 1 (es.getD i.toNat .nilp)))) ≤ 4611686018427387904) then bif decide (s.length + (List.length (List.append (List.append (digN (Int.toNat (fi 0 (es.getD i.toNat .nilp)))) [64]) (digN (Int.toNat (fi 1 (es.getD i.toNat .nilp))))) + 1) ≤ 4611686018427387904) then Tree.out (resume K0 (callN K0 (m+40)) n j 0 c70 { fr := frame 41 [(5, V.d (D.str (List.append s (47 :: List.append (List.append (digN (Int.toNat (fi 0 (es.getD i.toNat .nilp)))) [64]) (digN (Int.toNat (fi 1 (es.getD i.toNat .nilp)))))))), (22, V.d (D.sl hopSh nil es)), (23, V.d (D.int .i64 (es.length : Int))), (24, V.d (D.int .i64 (IntKind.wrap .i64 (i + 1))))], ob := [(128, Obj.box [V.d (D.int .i64 r), V.d (D.int .i64 q), V.d (D.sl hopSh nil es)])] }) else none else none else none else none else none else none else none else some [D.str s, D.int .i64 0] := by kernel_rfl
theorem e72 (m n : Nat) (r q : Int) (nil : Bool) (es : List D) : Tree.out (enterM K0 (callN K0 (m+40)) n c72 [.d (.agg [.int .i64 r, .int .i64 q, .sl hopSh nil es])] []) = bif (bif idOk r q es then (0 : Int) else (30 : Int)) != 0 then some [D.str [], D.int .i64 30] else bif decide (0 ≤ r) && decide (r < 1000000) then bif decide (List.length (digN (r.toNat)) + 1 ≤ 4611686018427387904) then bif decide (0 ≤ q) && decide (q < 1000000) then bif decide (List.length (List.append (digN (r.toNat)) [46]) + List.length (digN (q.toNat)) ≤ 4611686018427387904) then Tree.out (resume K0 (callN K0 (m+40)) n n 0 c72 { fr := frame 44 [(1, V.ptr 128 0), (4, V.d (D.str (List.append (List.append (digN (r.toNat)) [46]) (digN (q.toNat))))), (5, V.d (D.int .i64 0))], ob := [(128, Obj.box [V.d (D.int .i64 r), V.d (D.int .i64 q), V.d (D.sl hopSh nil es)])] }) else none else none else none else none := by kernel_rfl
def s72 (r q : Int) (nil : Bool) (es : List D) (s : List UInt8) (i : Int) : St := { fr := frame 44 [(1, V.ptr 128 0), (4, V.d (D.str s)), (5, V.d (D.int .i64 i))], ob := [(128, Obj.box [V.d (D.int .i64 r), V.d (D.int .i64 q), V.d (D.sl hopSh nil es)])] }
theorem l72 (m n j : Nat) (r q : Int) (nil : Bool) (es : List D) (s : List UInt8) (i : Int) : Tree.out (resume K0 (callN K0 (m+40)) n (j+1) 0 c72 (s72 r q nil es s i)) = bif decide (i < (es.length : Int)) then bif decide (s.length + 1 ≤ 4611686018427387904) then bif decide (0 ≤ i ∧ i < (es.length : Int)) then bif decide (0 ≤ fi 0 (es.getD i.toNat .nilp)) && decide (fi 0 (es.getD i.toNat .nilp) < 1000000) then bif decide (List.length (List.append s [47]) + List.length (digN (Int.toNat (fi 0 (es.getD i.toNat .nilp)))) ≤ 4611686018427387904) then bif decide (List.length (List.append (List.append s [47]) (digN (Int.toNat (fi 0 (es.getD i.toNat .nilp))))) + 1 ≤ 4611686018427387904) then bif decide (0 ≤ i ∧ i < (es.length : Int)) then bif decide (0 ≤ fi 1 (es.getD i.toNat .nilp)) && decide (fi 1 (es.getD i.toNat .nilp) < 1000000) then bif decide (List.length (List.append (List.append (List.append s [47]) (digN (Int.toNat (fi 0 (es.getD i.toNat .nilp))))) [64]) + List.length (digN (Int.toNat (fi 1 (es.getD i.toNat .nilp)))) ≤ 4611686018427387904) then Tree.out (resume K0 (callN K0 (m+40)) n j 0 c72 { fr := frame 44 [(1, V.ptr 128 0), (4, V.d (D.str (List.append (List.append (List.append (List.append s [47]) (digN (Int.toNat (fi 0 (es.getD i.toNat .nilp))))) [64]) (digN (Int.toNat (fi 1 (es.getD i.toNat .nilp))))))), (5, V.d (D.int .i64 (IntKind.wrap .i64 (i + 1))))], ob := [(128, Obj.box [V.d (D.int .i64 r), V.d (D.int .i64 q), V.d (D.sl hopSh nil es)])] }) else none else none else none else none else none else none else none else none else some [D.str s, D.int .i64 0] := by kernel_rfl
theorem e87g (m n : Nat) (rt nn st wy : Int) (n1 n2 n3 fc : Bool) (hops steps parts : List D) (nm : List UInt8) : Tree.out (enterM F3 (callN F3 (m+40)) n c87 [.d (sagaD rt nn st wy n1 n2 n3 fc hops steps parts nm)] []) = bif st == 1 then Tree.out (resume F3 (callN F3 (m+40)) n n 0 c87 { fr := frame 56 [(1, V.ptr 128 0), (3, V.d (D.int .i64 0))], ob := [(128, Obj.box [V.d (D.int .i64 rt), V.d (D.int .i64 nn), V.d (D.sl hopSh n1 hops), V.d (D.str nm), V.d (D.sl stepSh n2 steps), V.d (D.int .i64 st), V.d (D.int .i64 wy), V.d (D.sl hopSh n3 parts), V.d (D.bool fc)])] }) else bif st == 4 then Tree.out (resume F3 (callN F3 (m+40)) n n 1 c87 { fr := frame 56 [(1, V.ptr 128 0), (4, V.d (D.int .i64 (IntKind.wrap .i64 ((parts.length : Int) - 1))))], ob := [(128, Obj.box [V.d (D.int .i64 rt), V.d (D.int .i64 nn), V.d (D.sl hopSh n1 hops), V.d (D.str nm), V.d (D.sl stepSh n2 steps), V.d (D.int .i64 st), V.d (D.int .i64 wy), V.d (D.sl hopSh n3 parts), V.d (D.bool fc)])] }) else bif st == 5 then Tree.out (resume F3 (callN F3 (m+40)) n n 1 c87 { fr := frame 56 [(1, V.ptr 128 0), (4, V.d (D.int .i64 (IntKind.wrap .i64 ((parts.length : Int) - 1))))], ob := [(128, Obj.box [V.d (D.int .i64 rt), V.d (D.int .i64 nn), V.d (D.sl hopSh n1 hops), V.d (D.str nm), V.d (D.sl stepSh n2 steps), V.d (D.int .i64 st), V.d (D.int .i64 wy), V.d (D.sl hopSh n3 parts), V.d (D.bool fc)])] }) else some [D.int .i64 (-1)] := by kernel_rfl
def s87g (rt nn st wy : Int) (n1 n2 n3 fc : Bool) (hops steps parts : List D) (nm : List UInt8) (i : Int) : St := { fr := frame 56 [(1, V.ptr 128 0), (3, V.d (D.int .i64 i))], ob := [(128, .box [V.d (D.int .i64 rt), V.d (D.int .i64 nn), V.d (D.sl hopSh n1 hops), V.d (D.str nm), V.d (D.sl stepSh n2 steps), V.d (D.int .i64 st), V.d (D.int .i64 wy), V.d (D.sl partSh n3 parts), V.d (D.bool fc)])] }
theorem l87g (m n j : Nat) (rt nn st wy : Int) (n1 n2 n3 fc : Bool) (hops steps parts : List D) (nm : List UInt8) (i : Int) : Tree.out (resume F3 (callN F3 (m+40)) n (j+1) 0 c87 (s87g rt nn st wy n1 n2 n3 fc hops steps parts nm i)) = bif decide (i < (parts.length : Int)) then bif decide (0 ≤ i ∧ i < (parts.length : Int)) then bif fi 0 (parts.getD i.toNat .nilp) != 2 then some [D.int .i64 i] else Tree.out (resume F3 (callN F3 (m+40)) n j 0 c87 { fr := frame 56 [(1, V.ptr 128 0), (3, V.d (D.int .i64 (IntKind.wrap .i64 (i + 1))))], ob := [(128, Obj.box [V.d (D.int .i64 rt), V.d (D.int .i64 nn), V.d (D.sl hopSh n1 hops), V.d (D.str nm), V.d (D.sl stepSh n2 steps), V.d (D.int .i64 st), V.d (D.int .i64 wy), V.d (D.sl hopSh n3 parts), V.d (D.bool fc)])] }) else none else bif st == 4 then Tree.out (resume F3 (callN F3 (m+40)) n n 1 c87 { fr := frame 56 [(1, V.ptr 128 0), (4, V.d (D.int .i64 (IntKind.wrap .i64 ((parts.length : Int) - 1))))], ob := [(128, Obj.box [V.d (D.int .i64 rt), V.d (D.int .i64 nn), V.d (D.sl hopSh n1 hops), V.d (D.str nm), V.d (D.sl stepSh n2 steps), V.d (D.int .i64 st), V.d (D.int .i64 wy), V.d (D.sl hopSh n3 parts), V.d (D.bool fc)])] }) else bif st == 5 then Tree.out (resume F3 (callN F3 (m+40)) n n 1 c87 { fr := frame 56 [(1, V.ptr 128 0), (4, V.d (D.int .i64 (IntKind.wrap .i64 ((parts.length : Int) - 1))))], ob := [(128, Obj.box [V.d (D.int .i64 rt), V.d (D.int .i64 nn), V.d (D.sl hopSh n1 hops), V.d (D.str nm), V.d (D.sl stepSh n2 steps), V.d (D.int .i64 st), V.d (D.int .i64 wy), V.d (D.sl hopSh n3 parts), V.d (D.bool fc)])] }) else some [D.int .i64 (-1)] := by kernel_rfl
def s87h (rt nn st wy : Int) (n1 n2 n3 fc : Bool) (hops steps parts : List D) (nm : List UInt8) (i : Int) : St := { fr := frame 56 [(1, V.ptr 128 0), (4, V.d (D.int .i64 i))], ob := [(128, .box [V.d (D.int .i64 rt), V.d (D.int .i64 nn), V.d (D.sl hopSh n1 hops), V.d (D.str nm), V.d (D.sl stepSh n2 steps), V.d (D.int .i64 st), V.d (D.int .i64 wy), V.d (D.sl partSh n3 parts), V.d (D.bool fc)])] }
theorem l87h (m n j : Nat) (rt nn st wy : Int) (n1 n2 n3 fc : Bool) (hops steps parts : List D) (nm : List UInt8) (i : Int) : Tree.out (resume F3 (callN F3 (m+40)) n (j+1) 1 c87 (s87h rt nn st wy n1 n2 n3 fc hops steps parts nm i)) = bif decide (0 ≤ i) then bif decide (0 ≤ i ∧ i < (parts.length : Int)) then bif fi 0 (parts.getD i.toNat .nilp) == 1 then some [D.int .i64 i] else bif decide (0 ≤ i ∧ i < (parts.length : Int)) then bif fi 0 (parts.getD i.toNat .nilp) == 2 then some [D.int .i64 i] else Tree.out (resume F3 (callN F3 (m+40)) n j 1 c87 { fr := frame 56 [(1, V.ptr 128 0), (4, V.d (D.int .i64 (IntKind.wrap .i64 (i - 1))))], ob := [(128, Obj.box [V.d (D.int .i64 rt), V.d (D.int .i64 nn), V.d (D.sl hopSh n1 hops), V.d (D.str nm), V.d (D.sl stepSh n2 steps), V.d (D.int .i64 st), V.d (D.int .i64 wy), V.d (D.sl hopSh n3 parts), V.d (D.bool fc)])] }) else none else none else some [D.int .i64 (-1)] := by kernel_rfl
set_option maxRecDepth 20000
theorem ct {α : Type} {c : Bool} {a b : α} (h : c = true) : cond c a b = a := by rw [h]; rfl
theorem cf {α : Type} {c : Bool} {a b : α} (h : c = false) : cond c a b = b := by rw [h]; rfl
theorem digF_len : ∀ k n, (digF k n).length ≤ k + 1 := by
 intro k
 induction k with
 | zero => intro n; simp [digF]
 | succ k ih =>
  intro n
  simp only [digF]
  split
  ·simp
  ·rw [List.length_append]; have := ih (n / 10); simp; omega
theorem digN_len (n : Nat) : (digN n).length ≤ 7 := digF_len 6 n
theorem drop_at {es : List D} {i : Nat} (h : i < es.length) : es.drop i = es.getD i .nilp :: es.drop (i + 1) := by
 rw [List.drop_eq_getElem_cons h, List.getD_eq_getElem?_getD, List.getElem?_eq_getElem h]; rfl
theorem loop70 (m n : Nat) (r q : Int) (nil : Bool) (es : List D) (h : idOk r q es = true) : ∀ k i j s, i + k = es.length → k < j → s.length ≤ 1000 + 100 * i →
  (resume K0 (callN K0 (m+40)) n j 0 c70 (s70 r q nil es s (i : Nat))).out = some [.str (s ++ (es.drop i).flatMap hopTxt), .int .i64 0] := by
 obtain ⟨-, h4, -, hh, -⟩ := idOk_iff.1 h
 intro k
 induction k with
 | zero =>
  intro i j s hi hj hs
  cases j with
  | zero => omega
  | succ j =>
   have : i = es.length := by omega
   subst this
   rw [l70, List.drop_length, List.flatMap_nil, List.append_nil]
   exact cf (dec_end _)
 | succ k ih =>
  intro i j s hi hj hs
  cases j with
  | zero => omega
  | succ j =>
   have hlt : i < es.length := by omega
   have hx := (hh i hlt).1
   have hy := (hh i hlt).2.1
   rw [l70, drop_at hlt, List.flatMap_cons]
   simp only [Int.toNat_natCast, wrap_up hlt (show es.length ≤ 1000000 by omega), List.append_eq]
   have d0 := digN_len (fi 0 (es.getD i .nilp)).toNat
   have d1 := digN_len (fi 1 (es.getD i .nilp)).toNat
   refine (ct (dec_lt hlt)).trans ?_
   refine (ct (dec_ix hlt)).trans ?_
   iterate 6 refine (ct (by simp only [Bool.and_eq_true, decide_eq_true_eq, List.length_append, List.length_cons, List.length_nil]; omega)).trans ?_
   refine (ih (i + 1) j _ (by omega) (by omega) ?_).trans ?_
   ·simp only [List.length_append, List.length_cons, List.length_nil]; omega
   ·simp only [hopTxt, List.append_assoc, List.cons_append, List.nil_append]
theorem run70 (m n : Nat) (r q : Int) (nil : Bool) (es : List D) (hn : 18 ≤ n) : (enterM K0 (callN K0 (m+40)) n c70 [.d (.agg [.int .i64 r, .int .i64 q, .sl hopSh nil es])] []).out = some [.str (bif idOk r q es then showN r q es else []), .int .i64 (bif idOk r q es then 0 else 30)] := by
 rw [e70]
 cases h : idOk r q es
 ·rfl
 ·obtain ⟨hq, h4, hr, hh, -⟩ := idOk_iff.1 h
  have d0 := digN_len r.toNat
  have d1 := digN_len q.toNat
  simp only [cond_true, List.append_eq]
  refine (cf rfl).trans ?_
  iterate 4 refine (ct (by simp only [Bool.and_eq_true, decide_eq_true_eq, List.length_append, List.length_cons, List.length_nil]; omega)).trans ?_
  refine (loop70 m n r q nil es h es.length 0 n _ (by omega) (by omega) (by simp only [List.length_append, List.length_cons, List.length_nil]; omega)).trans ?_
  simp only [showN, List.drop_zero, List.append_assoc]
theorem loop72 (m n : Nat) (r q : Int) (nil : Bool) (es : List D) (h : idOk r q es = true) : ∀ k i j s, i + k = es.length → k < j → s.length ≤ 1000 + 100 * i →
  (resume K0 (callN K0 (m+40)) n j 0 c72 (s72 r q nil es s (i : Nat))).out = some [.str (s ++ (es.drop i).flatMap hopTxt), .int .i64 0] := by
 obtain ⟨-, h4, -, hh, -⟩ := idOk_iff.1 h
 intro k
 induction k with
 | zero =>
  intro i j s hi hj hs
  cases j with
  | zero => omega
  | succ j =>
   have : i = es.length := by omega
   subst this
   rw [l72, List.drop_length, List.flatMap_nil, List.append_nil]
   exact cf (dec_end _)
 | succ k ih =>
  intro i j s hi hj hs
  cases j with
  | zero => omega
  | succ j =>
   have hlt : i < es.length := by omega
   have hx := (hh i hlt).1
   have hy := (hh i hlt).2.1
   rw [l72, drop_at hlt, List.flatMap_cons]
   simp only [Int.toNat_natCast, wrap_up hlt (show es.length ≤ 1000000 by omega), List.append_eq]
   have d0 := digN_len (fi 0 (es.getD i .nilp)).toNat
   have d1 := digN_len (fi 1 (es.getD i .nilp)).toNat
   refine (ct (dec_lt hlt)).trans ?_
   iterate 8 refine (ct (by first | exact dec_ix hlt | (simp only [Bool.and_eq_true, decide_eq_true_eq, List.length_append, List.length_cons, List.length_nil]; omega))).trans ?_
   refine (ih (i + 1) j _ (by omega) (by omega) ?_).trans ?_
   ·simp only [List.length_append, List.length_cons, List.length_nil]; omega
   ·simp only [hopTxt, List.append_assoc, List.cons_append, List.nil_append]
theorem run72 (m n : Nat) (r q : Int) (nil : Bool) (es : List D) (hn : 18 ≤ n) : (enterM K0 (callN K0 (m+40)) n c72 [.d (.agg [.int .i64 r, .int .i64 q, .sl hopSh nil es])] []).out = some [.str (bif idOk r q es then showN r q es else []), .int .i64 (bif idOk r q es then 0 else 30)] := by
 rw [e72]
 cases h : idOk r q es
 ·rfl
 ·obtain ⟨hq, h4, hr, hh, -⟩ := idOk_iff.1 h
  have d0 := digN_len r.toNat
  have d1 := digN_len q.toNat
  simp only [cond_true, List.append_eq]
  refine (cf rfl).trans ?_
  iterate 4 refine (ct (by simp only [Bool.and_eq_true, decide_eq_true_eq, List.length_append, List.length_cons, List.length_nil]; omega)).trans ?_
  refine (loop72 m n r q nil es h es.length 0 n _ (by omega) (by omega) (by simp only [List.length_append, List.length_cons, List.length_nil]; omega)).trans ?_
  simp only [showN, List.drop_zero, List.append_assoc]
theorem run87g (m n : Nat) (rt nn st wy : Int) (n1 n2 n3 fc : Bool) (hops steps parts : List D) (nm : List UInt8) (hl : parts.length ≤ 1000000) (hn : parts.length < n) :
  (enterM F3 (callN F3 (m+40)) n c87 [.d (sagaD rt nn st wy n1 n2 n3 fc hops steps parts nm)] []).out = some [.int .i64 (cur st parts)] := by
 have H : ∀ st, (resume F3 (callN F3 (m+40)) n n 1 c87 (s87h rt nn st wy n1 n2 n3 fc hops steps parts nm ((parts.length : Int) - 1))).out = some [.int .i64 (lastFrom (fun i => isOpen (parts.getD i .nilp)) parts.length)] := by
  intro st
  refine down_loop (fun j i => (resume F3 (callN F3 (m+40)) n j 1 c87 (s87h rt nn st wy n1 n2 n3 fc hops steps parts nm i)).out) parts.length (fun i => isOpen (parts.getD i .nilp)) (fun i => [.int .i64 i]) [.int .i64 (-1)]
   (fun j i hi => ?_) (fun j => ?_) (fun i => [.int .i64 i]) (fun _ => rfl) rfl parts.length n (by omega) (by omega)
  ·have h0 : decide ((0 : Int) ≤ (i : Int)) = true := by simp
   rw [l87h]
   simp only [Int.toNat_natCast, wrap_down (show i ≤ 1000000 by omega), h0, dec_ix hi, cond_true, isOpen]
   generalize (fi 0 _ == 1) = a0
   generalize (fi 0 _ == 2) = a1
   cases a0 <;> cases a1 <;> rfl
  ·have h0 : decide ((0 : Int) ≤ -1) = false := by decide
   rw [l87h]
   simp only [h0, cond_false]
 rw [e87g, wrap_down hl]
 by_cases h1 : st = 1
 ·subst h1
  refine (ct rfl).trans ?_
  have := scan_loop (fun j i => (resume F3 (callN F3 (m+40)) n j 0 c87 (s87g rt nn 1 wy n1 n2 n3 fc hops steps parts nm (i : Nat))).out) parts.length (fun i => notDone (parts.getD i .nilp)) (fun i => [.int .i64 (i : Nat)]) [.int .i64 (-1)]
   (fun j i hi => ?_) (fun j => ?_) parts.length 0 n (by omega) (by omega)
  ·refine this.trans ?_
   rw [scan_map (fun b : Int => [D.int .i64 b]), scan_idx0 notDone .nilp parts]
   rfl
  ·rw [l87g]
   simp only [Int.toNat_natCast, wrap_up hi hl, dec_lt hi, dec_ix hi, cond_true, notDone]
   rfl
  ·rw [l87g]
   refine (cf (dec_end _)).trans ?_
   rfl
 ·refine (cf (beqF h1)).trans ?_
  by_cases h4 : st = 4
  ·subst h4
   exact (ct rfl).trans (H 4)
  ·refine (cf (beqF h4)).trans ?_
   by_cases h5 : st = 5
   ·subst h5
    exact (ct rfl).trans (H 5)
   ·refine (cf (beqF h5)).trans ?_
    unfold cur
    rw [beqF h1, beqF h4, beqF h5]
    rfl
def g70 : List D → Tree (List D)
 | [.agg [.int .i64 r, .int .i64 q, .sl e0 _nil es]] => match Sh.beq e0 hopSh with
  | true => .ret [.str (bif idOk r q es then showN r q es else []), .int .i64 (bif idOk r q es then 0 else 30)]
  | false => .stuck
 | _ => .stuck
theorem pure70 {P : Program} (hm : P.follows .mixedOrders = true) (h0 : EnvOK P K0) : PureOK P 70 g70 := PureOK.run hm h0 fun ds rs h => by
 unfold g70 at h
 split at h
 ·rename_i r q e0 nil es
  split at h
  ·rename_i hb
   have hb0 := hb
   have hb0 := Sh.beq_eq hb0
   subst hb0
   cases h
   exact ⟨59 + 1, by rw [callN_succ (fn := c70) rfl]; exact run70 19 59 r q nil es (by omega)⟩
  ·cases h
 ·cases h
def g72 : List D → Tree (List D)
 | [.agg [.int .i64 r, .int .i64 q, .sl e0 _nil es]] => match Sh.beq e0 hopSh with
  | true => .ret [.str (bif idOk r q es then showN r q es else []), .int .i64 (bif idOk r q es then 0 else 30)]
  | false => .stuck
 | _ => .stuck
theorem pure72 {P : Program} (hm : P.follows .mixedOrders = true) (h0 : EnvOK P K0) : PureOK P 72 g72 := PureOK.run hm h0 fun ds rs h => by
 unfold g72 at h
 split at h
 ·rename_i r q e0 nil es
  split at h
  ·rename_i hb
   have hb0 := hb
   have hb0 := Sh.beq_eq hb0
   subst hb0
   cases h
   exact ⟨59 + 1, by rw [callN_succ (fn := c72) rfl]; exact run72 19 59 r q nil es (by omega)⟩
  ·cases h
 ·cases h
def g87b : List D → Tree (List D)
 | [.agg [.int .i64 _rt, .int .i64 _nn, .sl e0h _n1 _hops, .str _nm, .sl e0s _n2 _steps, .int .i64 st, .int .i64 _wy, .sl e0p _n3 parts, .bool _fc]] => match Sh.beq e0h hopSh && Sh.beq e0s stepSh && Sh.beq e0p partSh with
  | true => .ite (decide (parts.length ≤ 1000000)) (fun _ => .ret [.int .i64 (cur st parts)]) (fun _ => .stuck)
  | false => .stuck
 | _ => .stuck
theorem pure87b {P : Program} (hm : P.follows .mixedOrders = true) (h0 : EnvOK P F3) : PureOK P 87 g87b := PureOK.run hm h0 fun ds rs h => by
 unfold g87b at h
 split at h
 ·rename_i rt nn e0h n1 hops nm e0s n2 steps st wy e0p n3 parts fc
  split at h
  ·rename_i hb
   simp only [Bool.and_eq_true] at hb
   obtain ⟨⟨hb0, hb1⟩, hb2⟩ := hb
   have hb0 := Sh.beq_eq hb0
   have hb1 := Sh.beq_eq hb1
   have hb2 := Sh.beq_eq hb2
   subst hb0 hb1 hb2
   obtain ⟨hg, h'⟩ := eval_guard h
   clear h
   simp only [decide_eq_true_eq] at hg
   cases h'
   exact ⟨(parts.length + 40) + 1, by rw [callN_succ (fn := c87) rfl]; exact run87g parts.length (parts.length + 40) rt nn st wy n1 n2 n3 fc hops steps parts nm hg (by omega)⟩
  ·cases h
 ·cases h
def K1 : Env := ((K0.pureAt 87 true g87b).pureAt 70 true g70).pureAt 72 true g72
theorem okK0 {P : Program} (hm : P.follows .mixedOrders = true) (h0 : EnvOK P E19) (hI : EnvOK P I0) : EnvOK P K0 := ((okF5 hm h0).pureAt (itoa hm hI)).pureAt (pure73 hm hI)
theorem okF3 {P : Program} (hm : P.follows .mixedOrders = true) (h0 : EnvOK P E19) : EnvOK P F3 :=
 have f1 : EnvOK P F1 := h0.pureAt (pure117 hm h0)
 have f2 : EnvOK P F2 := f1.pureAt (pure179 hm f1)
 (f2.pureAt (pure136 hm f2)).pureAt (pure89 hm h0)
theorem okK1 {P : Program} (hm : P.follows .mixedOrders = true) (h0 : EnvOK P E19) (hI : EnvOK P I0) : EnvOK P K1 :=
 (((okK0 hm h0 hI).pureAt (pure87b hm (okF3 hm h0))).pureAt (pure70 hm (okK0 hm h0 hI))).pureAt (pure72 hm (okK0 hm h0 hI))
theorem e33 (m n : Nat) (r q k : Int) (nil : Bool) (es : List D) : Tree.out (enterM K1 (callN K1 (m+40)) n c33 [.d (.agg [.int .i64 r, .int .i64 q, .sl hopSh nil es]), .d (.int .i64 k)] []) = bif (bif idOk r q es then (0 : Int) else (30 : Int)) != 0 then some [D.str [], D.int .i64 30] else bif decide (k < 0) then some [D.str [], D.int .i64 30] else bif decide (8 ≤ k) then some [D.str [], D.int .i64 30] else bif decide (List.length (bif idOk r q es then showN r q es else []) + 1 ≤ 4611686018427387904) then bif decide (0 ≤ k) && decide (k ≤ 999999) then bif decide (List.length (List.append (bif idOk r q es then showN r q es else []) [35]) + List.length (digN (k.toNat)) ≤ 4611686018427387904) then some [D.str (List.append (List.append (bif idOk r q es then showN r q es else []) [35]) (digN (k.toNat))), D.int .i64 0] else none else none else none := by kernel_rfl
theorem e34 (m n : Nat) (r q k : Int) (nil : Bool) (es : List D) : Tree.out (enterM K1 (callN K1 (m+40)) n c34 [.d (.agg [.int .i64 r, .int .i64 q, .sl hopSh nil es]), .d (.int .i64 k)] []) = bif (bif idOk r q es then (0 : Int) else (30 : Int)) != 0 then some [D.str [], D.int .i64 30] else bif decide (k < 0) then some [D.str [], D.int .i64 30] else bif decide (7 < k) then some [D.str [], D.int .i64 30] else bif decide (List.length (bif idOk r q es then showN r q es else []) + 1 ≤ 4611686018427387904) then bif decide (0 ≤ k) && decide (k < 1000000) then bif decide (List.length (List.append (bif idOk r q es then showN r q es else []) [35]) + List.length (digN (k.toNat)) ≤ 4611686018427387904) then some [D.str (List.append (List.append (bif idOk r q es then showN r q es else []) [35]) (digN (k.toNat))), D.int .i64 0] else none else none else none := by kernel_rfl
theorem e38 (m n : Nat) (rt nn st wy : Int) (n1 n2 n3 fc : Bool) (hops steps parts : List D) (nm : List UInt8) : Tree.out (enterM K1 (callN K1 (m+40)) n c38 [.d (sagaD rt nn st wy n1 n2 n3 fc hops steps parts nm)] []) = bif (bif mayOk rt nn st wy fc hops steps parts nm then (0 : Int) else (230 : Int)) != 0 then some [D.int .i64 (-1)] else bif decide (parts.length ≤ 1000000) then some [D.int .i64 (cur st parts)] else none := by kernel_rfl
theorem e40 (m n : Nat) (rt nn st wy : Int) (n1 n2 n3 fc : Bool) (hops steps parts : List D) (nm : List UInt8) : Tree.out (enterM K1 (callN K1 (m+40)) n c40 [.d (sagaD rt nn st wy n1 n2 n3 fc hops steps parts nm)] []) = bif (bif mayOk rt nn st wy fc hops steps parts nm then (0 : Int) else (230 : Int)) != 0 then some [D.bool false] else bif st == 6 then bif decide (parts.length ≤ 1000000) && decide (parts.length ≤ steps.length) then bif decide (parts.length ≤ 1000000) && decide (parts.length ≤ steps.length) then bif decide (parts.length ≤ 1000000) && decide (parts.length ≤ steps.length) then bif decide (parts.length ≤ 1000000) && decide (parts.length ≤ steps.length) then some [D.bool (IntKind.wrap .i64 (IntKind.wrap .i64 (cntR true 1 parts steps + cntR false 1 parts steps) + IntKind.wrap .i64 (cntR true 2 parts steps + cntR false 2 parts steps)) == 0)] else none else none else none else none else bif st == 3 then bif decide (parts.length ≤ 1000000) && decide (parts.length ≤ steps.length) then bif decide (parts.length ≤ 1000000) && decide (parts.length ≤ steps.length) then bif IntKind.wrap .i64 (cntR true 2 parts steps + cntR false 2 parts steps) == 0 then bif !fc then some [D.bool true] else bif decide (parts.length ≤ 1000000) && decide (parts.length ≤ steps.length) then bif decide (parts.length ≤ 1000000) && decide (parts.length ≤ steps.length) then some [D.bool (IntKind.wrap .i64 (cntR true 1 parts steps + cntR false 1 parts steps) == 0)] else none else none else some [D.bool false] else none else none else some [D.bool (st == 7)] := by kernel_rfl
def keyN (r q : Int) (es : List D) (k : Int) : List UInt8 := showN r q es ++ ([35] ++ digN k.toNat)
def keyOk (r q : Int) (es : List D) (k : Int) : Bool := idOk r q es && (decide (0 ≤ k) && decide (k < 8))
theorem flat_len {f : D → List UInt8} {b : Nat} (h : ∀ x, (f x).length ≤ b) : ∀ es : List D, (es.flatMap f).length ≤ b * es.length
 | [] => by simp
 | x :: es => by
  have h1 := h x
  have h2 := flat_len h es
  rw [List.flatMap_cons, List.length_append, List.length_cons, Nat.mul_succ]
  omega
theorem showN_len {r q : Int} {es : List D} (h : idOk r q es = true) : (showN r q es).length ≤ 100 := by
 obtain ⟨-, h4, -, -, -⟩ := idOk_iff.1 h
 have d0 := digN_len r.toNat
 have d1 := digN_len q.toNat
 have := flat_len (f := hopTxt) (b := 16) (fun x => by
  have d0 := digN_len (fi 0 x).toNat
  have d1 := digN_len (fi 1 x).toNat
  simp only [hopTxt, List.length_append, List.length_cons, List.length_nil]; omega) es
 simp only [showN, List.length_append, List.length_cons, List.length_nil]
 omega
theorem run33 (m n : Nat) (r q k : Int) (nil : Bool) (es : List D) : (enterM K1 (callN K1 (m+40)) n c33 [.d (.agg [.int .i64 r, .int .i64 q, .sl hopSh nil es]), .d (.int .i64 k)] []).out = some [.str (bif keyOk r q es k then keyN r q es k else []), .int .i64 (bif keyOk r q es k then 0 else 30)] := by
 rw [e33]
 unfold keyOk
 cases h : idOk r q es
 ·rfl
 ·refine (cf rfl).trans ?_
  by_cases h0 : k < 0
  ·refine (ct (decide_eq_true h0)).trans ?_
   rw [decide_eq_false (show ¬ 0 ≤ k by omega)]; rfl
  ·refine (cf (decide_eq_false h0)).trans ?_
   by_cases h8 : 8 ≤ k
   ·refine (ct (decide_eq_true h8)).trans ?_
    rw [decide_eq_false (show ¬ k < 8 by omega), Bool.and_false, Bool.and_false]; rfl
   ·refine (cf (decide_eq_false h8)).trans ?_
    have := showN_len h
    have := digN_len k.toNat
    simp only [cond_true, List.append_eq]
    iterate 3 refine (ct (by simp only [Bool.and_eq_true, decide_eq_true_eq, List.length_append, List.length_cons, List.length_nil]; omega)).trans ?_
    rw [decide_eq_true (show 0 ≤ k by omega), decide_eq_true (show k < 8 by omega)]
    simp only [Bool.and_self, cond_true, keyN, List.append_assoc]
theorem run34 (m n : Nat) (r q k : Int) (nil : Bool) (es : List D) : (enterM K1 (callN K1 (m+40)) n c34 [.d (.agg [.int .i64 r, .int .i64 q, .sl hopSh nil es]), .d (.int .i64 k)] []).out = some [.str (bif keyOk r q es k then keyN r q es k else []), .int .i64 (bif keyOk r q es k then 0 else 30)] := by
 rw [e34]
 unfold keyOk
 cases h : idOk r q es
 ·rfl
 ·refine (cf rfl).trans ?_
  by_cases h0 : k < 0
  ·refine (ct (decide_eq_true h0)).trans ?_
   rw [decide_eq_false (show ¬ 0 ≤ k by omega)]; rfl
  ·refine (cf (decide_eq_false h0)).trans ?_
   by_cases h8 : 7 < k
   ·refine (ct (decide_eq_true h8)).trans ?_
    rw [decide_eq_false (show ¬ k < 8 by omega), Bool.and_false, Bool.and_false]; rfl
   ·refine (cf (decide_eq_false h8)).trans ?_
    have := showN_len h
    have := digN_len k.toNat
    simp only [cond_true, List.append_eq]
    iterate 3 refine (ct (by simp only [Bool.and_eq_true, decide_eq_true_eq, List.length_append, List.length_cons, List.length_nil]; omega)).trans ?_
    rw [decide_eq_true (show 0 ≤ k by omega), decide_eq_true (show k < 8 by omega)]
    simp only [Bool.and_self, cond_true, keyN, List.append_assoc]
theorem mayOk_parts {rt nn st wy : Int} {fc : Bool} {hops steps parts : List D} {nm : List UInt8} (h : mayOk rt nn st wy fc hops steps parts nm = true) : parts.length ≤ 8 ∧ parts.length ≤ steps.length := by
 by_cases h7 : st = 7
 ·subst h7
  unfold mayOk at h
  have : ((7 : Int) == 7) = true := rfl
  rw [this] at h
  cases h1 : idOk rt nn hops
  ·simp [h1] at h
  ·cases hd : decide (0 < (steps.length : Int) + (parts.length : Int))
   ·have := of_decide_eq_false hd
    omega
   ·rw [h1, hd] at h
    cases hn : (nm == []) <;> rw [hn] at h <;> cases h
 ·have := mayOk_len h h7
  omega
theorem run38 (m n : Nat) (rt nn st wy : Int) (n1 n2 n3 fc : Bool) (hops steps parts : List D) (nm : List UInt8) : (enterM K1 (callN K1 (m+40)) n c38 [.d (sagaD rt nn st wy n1 n2 n3 fc hops steps parts nm)] []).out = some [.int .i64 (curR rt nn st wy fc hops steps parts nm)] := by
 rw [e38]
 unfold curR
 cases h : mayOk rt nn st wy fc hops steps parts nm
 ·rfl
 ·have := mayOk_parts h
  refine (cf rfl).trans ?_
  exact ct (decide_eq_true (by omega))
theorem any0 {parts steps : List D} (h8 : parts.length ≤ 8) (k : Int) : 0 ≤ cntR true k parts steps + cntR false k parts steps ∧ cntR true k parts steps + cntR false k parts steps ≤ 8 ∧ ((cntR true k parts steps + cntR false k parts steps == 0) = allI (p97 [.int .i64 k]) parts.length parts steps) := by
 rw [any_sum]
 refine ⟨by omega, by have := cntN_le (fun i => fi 0 (parts.getD i .nilp) == k) parts.length; omega, ?_⟩
 rw [none_cnt (q := fun i => fi 0 (parts.getD i .nilp) == k)]
 intro i _
 simp [p97, hasI_int]
theorem all12 {parts steps : List D} : allI (p97 w12) parts.length parts steps = (allI (p97 [.int .i64 1]) parts.length parts steps && allI (p97 [.int .i64 2]) parts.length parts steps) := by
 rw [Bool.eq_iff_iff, Bool.and_eq_true, allI_iff, allI_iff, allI_iff]
 have pt : ∀ x y, p97 w12 x y = (p97 [.int .i64 1] x y && p97 [.int .i64 2] x y) := by
  intro x y
  simp [p97, w12]
 constructor
 ·intro h
  exact ⟨fun i hi => by have := h i hi; rw [pt, Bool.and_eq_true] at this; exact this.1, fun i hi => by have := h i hi; rw [pt, Bool.and_eq_true] at this; exact this.2⟩
 ·rintro ⟨h1, h2⟩ i hi
  rw [pt, h1 i hi, h2 i hi]; rfl
theorem run40 (m n : Nat) (rt nn st wy : Int) (n1 n2 n3 fc : Bool) (hops steps parts : List D) (nm : List UInt8) : (enterM K1 (callN K1 (m+40)) n c40 [.d (sagaD rt nn st wy n1 n2 n3 fc hops steps parts nm)] []).out = some [.bool (endR rt nn st wy fc hops steps parts nm)] := by
 rw [e40]
 unfold endR
 cases h : mayOk rt nn st wy fc hops steps parts nm
 ·rfl
 ·have hl := mayOk_parts h
  refine (cf rfl).trans ?_
  have g : (decide (parts.length ≤ 1000000) && decide (parts.length ≤ steps.length)) = true := by
   rw [decide_eq_true (show parts.length ≤ 1000000 by omega), decide_eq_true hl.2]; rfl
  have a1 := any0 (steps := steps) hl.1 1
  have a2 := any0 (steps := steps) hl.1 2
  rw [g, w_small a1.1 (by omega), w_small a2.1 (by omega), w_small (by omega) (by omega), a1.2.2, a2.2.2]
  have hs : (cntR true 1 parts steps + cntR false 1 parts steps + (cntR true 2 parts steps + cntR false 2 parts steps) == 0) = ((cntR true 1 parts steps + cntR false 1 parts steps == 0) && (cntR true 2 parts steps + cntR false 2 parts steps == 0)) := by
   rw [Bool.eq_iff_iff, Bool.and_eq_true, beq_iff_eq, beq_iff_eq, beq_iff_eq]
   omega
  rw [hs, a1.2.2, a2.2.2, ← all12]
  unfold endR0
  simp only [cond_true]
  by_cases h6 : st = 6
  ·subst h6; rfl
  ·rw [beqF h6]
   by_cases h3 : st = 3
   ·subst h3
    show _ = some [D.bool (bif allI (p97 w2) parts.length parts steps then bif fc then allI (p97 w1) parts.length parts steps else true else false)]
    have e1 : allI (p97 [.int .i64 1]) parts.length parts steps = allI (p97 w1) parts.length parts steps := rfl
    have e2 : allI (p97 [.int .i64 2]) parts.length parts steps = allI (p97 w2) parts.length parts steps := rfl
    rw [e1, e2]
    generalize allI (p97 w2) parts.length parts steps = x2
    generalize allI (p97 w1) parts.length parts steps = x1
    cases x2 <;> cases x1 <;> cases fc <;> rfl
   ·rw [beqF h3]
    simp only [cond_false]
    cases (st == 7) <;> rfl
def g33 : List D → Tree (List D)
 | [.agg [.int .i64 r, .int .i64 q, .sl e0 _nil es], .int .i64 k] => match Sh.beq e0 hopSh with
  | true => .ret [.str (bif keyOk r q es k then keyN r q es k else []), .int .i64 (bif keyOk r q es k then 0 else 30)]
  | false => .stuck
 | _ => .stuck
theorem pure33 {P : Program} (hm : P.follows .mixedOrders = true) (h0 : EnvOK P K1) : PureOK P 33 g33 := PureOK.run hm h0 fun ds rs h => by
 unfold g33 at h
 split at h
 ·rename_i r q e0 nil es k
  split at h
  ·rename_i hb
   have hb0 := hb
   have hb0 := Sh.beq_eq hb0
   subst hb0
   cases h
   exact ⟨59 + 1, by rw [callN_succ (fn := c33) rfl]; exact run33 19 59 r q k nil es⟩
  ·cases h
 ·cases h
def g34 : List D → Tree (List D)
 | [.agg [.int .i64 r, .int .i64 q, .sl e0 _nil es], .int .i64 k] => match Sh.beq e0 hopSh with
  | true => .ret [.str (bif keyOk r q es k then keyN r q es k else []), .int .i64 (bif keyOk r q es k then 0 else 30)]
  | false => .stuck
 | _ => .stuck
theorem pure34 {P : Program} (hm : P.follows .mixedOrders = true) (h0 : EnvOK P K1) : PureOK P 34 g34 := PureOK.run hm h0 fun ds rs h => by
 unfold g34 at h
 split at h
 ·rename_i r q e0 nil es k
  split at h
  ·rename_i hb
   have hb0 := hb
   have hb0 := Sh.beq_eq hb0
   subst hb0
   cases h
   exact ⟨59 + 1, by rw [callN_succ (fn := c34) rfl]; exact run34 19 59 r q k nil es⟩
  ·cases h
 ·cases h
def g38 : List D → Tree (List D)
 | [.agg [.int .i64 rt, .int .i64 nn, .sl e0h _n1 hops, .str nm, .sl e0s _n2 steps, .int .i64 st, .int .i64 wy, .sl e0p _n3 parts, .bool fc]] => match Sh.beq e0h hopSh && Sh.beq e0s stepSh && Sh.beq e0p partSh with
  | true => .ret [.int .i64 (curR rt nn st wy fc hops steps parts nm)]
  | false => .stuck
 | _ => .stuck
theorem pure38 {P : Program} (hm : P.follows .mixedOrders = true) (h0 : EnvOK P K1) : PureOK P 38 g38 := PureOK.run hm h0 fun ds rs h => by
 unfold g38 at h
 split at h
 ·rename_i rt nn e0h n1 hops nm e0s n2 steps st wy e0p n3 parts fc
  split at h
  ·rename_i hb
   simp only [Bool.and_eq_true] at hb
   obtain ⟨⟨hb0, hb1⟩, hb2⟩ := hb
   have hb0 := Sh.beq_eq hb0
   have hb1 := Sh.beq_eq hb1
   have hb2 := Sh.beq_eq hb2
   subst hb0 hb1 hb2
   cases h
   exact ⟨59 + 1, by rw [callN_succ (fn := c38) rfl]; exact run38 19 59 rt nn st wy n1 n2 n3 fc hops steps parts nm⟩
  ·cases h
 ·cases h
def g40 : List D → Tree (List D)
 | [.agg [.int .i64 rt, .int .i64 nn, .sl e0h _n1 hops, .str nm, .sl e0s _n2 steps, .int .i64 st, .int .i64 wy, .sl e0p _n3 parts, .bool fc]] => match Sh.beq e0h hopSh && Sh.beq e0s stepSh && Sh.beq e0p partSh with
  | true => .ret [.bool (endR rt nn st wy fc hops steps parts nm)]
  | false => .stuck
 | _ => .stuck
theorem pure40 {P : Program} (hm : P.follows .mixedOrders = true) (h0 : EnvOK P K1) : PureOK P 40 g40 := PureOK.run hm h0 fun ds rs h => by
 unfold g40 at h
 split at h
 ·rename_i rt nn e0h n1 hops nm e0s n2 steps st wy e0p n3 parts fc
  split at h
  ·rename_i hb
   simp only [Bool.and_eq_true] at hb
   obtain ⟨⟨hb0, hb1⟩, hb2⟩ := hb
   have hb0 := Sh.beq_eq hb0
   have hb1 := Sh.beq_eq hb1
   have hb2 := Sh.beq_eq hb2
   subst hb0 hb1 hb2
   cases h
   exact ⟨59 + 1, by rw [callN_succ (fn := c40) rfl]; exact run40 19 59 rt nn st wy n1 n2 n3 fc hops steps parts nm⟩
  ·cases h
 ·cases h
def K2 : Env := ((((K1.pureAt 33 true g33).pureAt 34 true g34).pureAt 38 true g38).pureAt 40 true g40).pureAt 32 true g20
theorem okK2 {P : Program} (hm : P.follows .mixedOrders = true) (h : EnvOK P K1) (ha : PureOK P 32 g20) : EnvOK P K2 := ((((h.pureAt (pure33 hm h)).pureAt (pure34 hm h)).pureAt (pure38 hm h)).pureAt (pure40 hm h)).pureAt ha
theorem e8 (m n : Nat) (rt nn st wy : Int) (n1 n2 n3 fc : Bool) (hops steps parts : List D) (nm : List UInt8) (k : Int) : Tree.out (enterM K2 (callN K2 (m+40)) n c8 [.d (sagaD rt nn st wy n1 n2 n3 fc hops steps parts nm), .d (.int .i64 k)] []) = bif !few hops steps parts then some [D.bool true] else bif decide (steps.length ≤ 1000000) then bif decide (parts.length ≤ 1000000) then bif (bif mayOk rt nn st wy fc hops steps parts nm then (0 : Int) else (230 : Int)) == bif mayOk rt nn st wy fc hops steps parts nm then (0 : Int) else (230 : Int) then bif decide (steps.length ≤ 1000000) then bif decide (parts.length ≤ 1000000) then bif curR rt nn st wy fc hops steps parts nm == curR rt nn st wy fc hops steps parts nm then bif decide (steps.length ≤ 1000000) then bif decide (parts.length ≤ 1000000) then bif endR rt nn st wy fc hops steps parts nm == endR rt nn st wy fc hops steps parts nm then bif (bif idOk rt nn hops && (decide (0 ≤ k) && decide (k < 8)) then keyN rt nn hops k else []) == bif idOk rt nn hops && (decide (0 ≤ k) && decide (k < 8)) then keyN rt nn hops k else [] then bif (bif idOk rt nn hops && (decide (0 ≤ k) && decide (k < 8)) then (0 : Int) else (30 : Int)) == bif idOk rt nn hops && (decide (0 ≤ k) && decide (k < 8)) then (0 : Int) else (30 : Int) then some [D.bool true] else some [D.bool false] else some [D.bool false] else some [D.bool false] else none else none else some [D.bool false] else none else none else some [D.bool false] else none else none := by kernel_rfl
theorem mays (m n : Nat) (rt nn st wy : Int) (n1 n2 n3 fc : Bool) (hops steps parts : List D) (nm : List UInt8) (k : Int) (_h1 : n1 = true → hops = []) (_h2 : n2 = true → steps = []) (_h3 : n3 = true → parts = []) :
  (enterM K2 (callN K2 (m+40)) n c8 [.d (sagaD rt nn st wy n1 n2 n3 fc hops steps parts nm), .d (.int .i64 k)] []).out = some [.bool true] := by
 rw [e8]
 cases hf : few hops steps parts
 ·rfl
 ·unfold few at hf
  simp only [Bool.and_eq_true, decide_eq_true_eq] at hf
  refine (cf rfl).trans ?_
  iterate 11 refine (ct (by first | exact beq_self_eq_true _ | exact decide_eq_true (by omega))).trans ?_
  rfl
theorem okI0 : EnvOK Tryz.prog I0 := okE0
theorem okE19 : EnvOK Tryz.prog E19 := ok19 mixed okE18
theorem okZK1 : EnvOK Tryz.prog K1 := okK1 mixed okE19 okI0
theorem okZK2 : EnvOK Tryz.prog K2 := okK2 mixed okZK1 pureAw
def gTrueI : List D → Tree (List D)
 | [.agg [.int .i64 _, .int .i64 _, .sl eh n1 hops, .str _, .sl es n2 steps, .int .i64 _, .int .i64 _, .sl ep n3 parts, .bool _], .int .i64 _] =>
  match (Sh.beq eh hopSh && (Sh.beq es stepSh && Sh.beq ep partSh)) && ((!n1 || hops.isEmpty) && ((!n2 || steps.isEmpty) && (!n3 || parts.isEmpty))) with
  | true => .ret [.bool true]
  | false => .stuck
 | _ => .stuck
theorem gTrueI_run {E : Env} {f : Nat} (hE : EnvOK Tryz.prog E) (h : ∀ rt nn st wy n1 n2 n3 fc hops steps parts nm k, (n1 = true → hops = []) → (n2 = true → steps = []) → (n3 = true → parts = []) →
  ∃ n, (callN E n f [.d (sagaD rt nn st wy n1 n2 n3 fc hops steps parts nm), .d (.int .i64 k)] []).out = some [.bool true]) : PureOK Tryz.prog f gTrueI := PureOK.run mixed hE fun ds rs hr => by
 unfold gTrueI at hr
 split at hr
 ·rename_i rt nn eh n1 hops nm es n2 steps st wy ep n3 parts fc k
  split at hr
  ·rename_i hb
   simp only [Bool.and_eq_true, Bool.or_eq_true, Bool.not_eq_true', List.isEmpty_iff] at hb
   obtain ⟨⟨hb3, hb4, hb5⟩, c1, c2, c3⟩ := hb
   have hb3 := Sh.beq_eq hb3
   have hb4 := Sh.beq_eq hb4
   have hb5 := Sh.beq_eq hb5
   subst hb3 hb4 hb5
   cases hr
   exact h rt nn st wy n1 n2 n3 fc hops steps parts nm k (empty_of c1) (empty_of c2) (empty_of c3)
  ·cases hr
 ·cases hr
theorem gTrueI_in : ∀ xs, WFs [sagaTy, .int .i64] xs → (gTrueI xs).eval = some [.bool true] := by
 intro xs h
 match xs, h with
 | [x, y], h =>
  obtain ⟨rt, nn, st, wy, n1, n2, n3, fc, hops, steps, parts, nm, rfl, b1, b2, b3⟩ := saga_in h.1
  obtain ⟨k, rfl⟩ := h.2.1.inv_int
  have s1 : Sh.beq hopSh hopSh = true := rfl
  have s2 : Sh.beq stepSh stepSh = true := rfl
  have s3 : Sh.beq partSh partSh = true := rfl
  simp only [gTrueI, s1, s2, s3, or_empty b1, or_empty b2, or_empty b3, Bool.and_self]
  rfl
end Go.Proofs.YtkjiaijkdefkgaaGreatDoor.A
