/- Parts of the walk: L9, SK9. -/
import Derived.Test.YtkjiaijkdefkgaaGreatDoorGk
namespace Go.Proofs.YtkjiaijkdefkgaaGreatDoor.A
open Go Go.AM
set_option maxRecDepth 20000
theorem may_split {rt nn st wy : Int} {fc : Bool} {hops steps parts : List D} {nm : List UInt8} (h : mayOk rt nn st wy fc hops steps parts nm = true) (h7 : st ≠ 7) : idOk rt nn hops = true ∧ defOk nm steps = true := by
 unfold mayOk at h
 rw [beqF h7] at h
 cases h1 : idOk rt nn hops
 ·rw [h1] at h; cases h
 ·cases h2 : defOk nm steps
  ·rw [h1, h2] at h; cases h
  ·exact ⟨rfl, rfl⟩
theorem may_mk {rt nn st wy : Int} {fc : Bool} {hops steps parts : List D} {nm : List UInt8} (hi : idOk rt nn hops = true) (hd : defOk nm steps = true) (h7 : st ≠ 7) (hg : Good st wy fc hops steps parts) : mayOk rt nn st wy fc hops steps parts nm = true := by
 unfold mayOk
 rw [hi, hd, beqF h7, (allI_iff _ _ _ _).2 hg.sane, hg.fits, bne, beq_iff_eq.2 (show (parts.length : Int) = (steps.length : Int) by have := hg.len; omega)]
 rfl
theorem may_steps {rt nn st wy : Int} {fc : Bool} {hops steps parts : List D} {nm : List UInt8} (h : mayOk rt nn st wy fc hops steps parts nm = true) : steps.length ≤ 8 ∧ hops.length ≤ 4 := by
 have hid := mayOk_id h
 have h4 := (idOk_iff.1 hid).2.1
 by_cases h7 : st = 7
 ·subst h7
  unfold mayOk at h
  have : ((7 : Int) == 7) = true := rfl
  rw [this, hid] at h
  cases hd : decide (0 < (steps.length : Int) + (parts.length : Int))
  ·have := of_decide_eq_false hd
   omega
  ·rw [hd] at h
   cases hn : (nm == []) <;> rw [hn] at h <;> cases h
 ·have := mayOk_len h h7
  omega
theorem st_not7 {st wy : Int} {fc : Bool} {hops steps parts : List D} (hg : Good st wy fc hops steps parts) : st ≠ 7 := by
 have := fits_st hg.fits
 omega
theorem back_mw {rt nn sp mw : Int} {hops ms : List D} {mm : List UInt8} (h : moveOk 10 rt nn sp mw hops ms mm = true) : 1 ≤ mw ∧ mw ≤ 9 := by
 have hk : kindHas 10 = 2 := by decide
 unfold moveOk moveOk0 at h
 rw [hk] at h
 cases h1 : idOk rt nn hops
 ·simp [h1] at h
 ·cases mm with
  | nil => simp [h1] at h; omega
  | cons x l => simp [h1] at h
theorem begin_ok {rt nn sp mw : Int} {hops ms : List D} {mm : List UInt8} (h : moveOk 1 rt nn sp mw hops ms mm = true) : idOk rt nn hops = true ∧ defOk mm ms = true := by
 have hk : kindHas 1 = 3 := by decide
 unfold moveOk moveOk0 at h
 rw [hk] at h
 cases h1 : idOk rt nn hops
 ·simp [h1] at h
 ·cases h2 : defOk mm ms
  ·cases mm <;> simp [h1, h2] at h
  ·exact ⟨rfl, rfl⟩
theorem refuse_ok {rt nn sp mw : Int} {hops ms : List D} {mm : List UInt8} (h : moveOk 2 rt nn sp mw hops ms mm = true) : idOk rt nn hops = true ∧ (1 ≤ mw ∧ mw ≤ 9) ∧ hops.length ≠ 0 := by
 have hk : kindHas 2 = 2 := by decide
 unfold moveOk moveOk0 at h
 rw [hk] at h
 cases h1 : idOk rt nn hops
 ·simp [h1] at h
 ·cases mm with
  | nil =>
   simp [h1] at h
   exact ⟨rfl, by omega, by simpa using h.2.2.2.2⟩
  | cons x l => simp [h1] at h
theorem may_next {rt nn st wy : Int} {fc : Bool} {hops steps parts : List D} {nm : List UInt8} {kd mr mn sp mw : Int} {mh ms : List D} {mm : List UInt8} {s w : Int} {f : Bool} {p : List D}
  (h : appR rt nn st wy fc hops steps parts nm kd mr mn sp mw mh ms mm = .good s w f p) : mayOk rt nn s w f hops steps p nm = true := by
 have ha : arE (appR rt nn st wy fc hops steps parts nm kd mr mn sp mw mh ms mm) = 0 := by rw [h]; rfl
 obtain ⟨hm, h7, hmv, s', w', f', p', hR, hA, hpl⟩ := appR_good ha
 rw [h] at hR
 obtain ⟨rfl, rfl, rfl, rfl⟩ := good_inj hR
 have hM := apply_mv (moveOk_sp hmv) (moveOk_kd hmv) hA
 have hg := keeps (mayOk_good hm h7) (moveOk_sp hmv) (fun hk => by subst hk; exact back_mw hmv) hM
 obtain ⟨hi, hd⟩ := may_split hm h7
 exact may_mk hi hd (st_not7 hg) hg
theorem may_begin {rt nn sp mw : Int} {hops ms : List D} {mm : List UInt8} (h : moveOk 1 rt nn sp mw hops ms mm = true) : mayOk rt nn 1 0 false hops ms (List.replicate ms.length (part 0 0)) mm = true := by
 obtain ⟨hi, hd⟩ := begin_ok h
 have hd' := hd
 unfold defOk at hd'
 simp only [Bool.and_eq_true, Bool.not_eq_true', decide_eq_false_iff_not] at hd'
 have rep : ∀ i, i < (List.replicate ms.length (part 0 0)).length → (List.replicate ms.length (part 0 0)).getD i .nilp = part 0 0 := by
  intro i hi
  rw [List.getD_eq_getElem?_getD, List.getElem?_eq_getElem hi, List.getElem_replicate]; rfl
 refine may_mk hi hd (by decide) ⟨by simp, by omega, by omega, fun i hi => ?_, fun i hi => ?_, ?_⟩
 ·have := hd'.2.2.2
  simp only [List.any_eq_false] at this
  simpa using this _ (getD_mem hi)
 ·rw [rep i hi]
  exact q47.2 ⟨by decide, by decide, .inr (by decide), by decide, by decide⟩
 ·have : runOk (List.replicate ms.length (part 0 0)) ms = true := run_iff.2 ⟨0, by omega, fun i hi => by omega, fun i _ h2 => .inr (by unfold stAt trAt; rw [rep i h2]; exact ⟨rfl, rfl⟩)⟩
  unfold fitsOk
  rw [this]; rfl
theorem may_refuse {rt nn sp mw : Int} {hops ms : List D} {mm : List UInt8} (h : moveOk 2 rt nn sp mw hops ms mm = true) : mayOk rt nn 7 mw false hops [] [] [] = true := by
 obtain ⟨hi, hw, hh⟩ := refuse_ok h
 unfold mayOk
 rw [hi, decide_eq_true hw.1, decide_eq_true hw.2, beqF (show (hops.length : Int) ≠ 0 by omega)]
 rfl
theorem fail_210 {rt nn st wy : Int} {fc : Bool} {hops steps parts : List D} {nm : List UInt8} {kd mr mn sp mw : Int} {mh ms : List D} {mm : List UInt8} (hm : mayOk rt nn st wy fc hops steps parts nm = true)
  (h : arE (appR rt nn st wy fc hops steps parts nm kd mr mn sp mw mh ms mm) ≠ 0) : appR rt nn st wy fc hops steps parts nm kd mr mn sp mw mh ms mm = .bad 210 := by
 have key : appR rt nn st wy fc hops steps parts nm kd mr mn sp mw mh ms mm = bif moveOk kd mr mn sp mw mh ms mm && idCmp mr mn rt nn mh hops == 0 then bif st == 7 then AR.bad 210 else applyR st wy fc hops parts steps kd sp mw else AR.bad 210 := by
  unfold appR; rw [hm]; rfl
 rw [key] at h ⊢
 cases h1 : (moveOk kd mr mn sp mw mh ms mm && idCmp mr mn rt nn mh hops == 0)
 ·rfl
 ·rw [h1] at h
  simp only [Bool.and_eq_true] at h1
  cases h7 : (st == 7)
  ·rw [h7] at h
   simp only [cond_true, cond_false] at h ⊢
   rcases applyR_B st wy fc hops parts steps kd sp mw (moveOk_kd h1.1) with hb | ⟨s, w, f, p, hb, -⟩
   ·exact hb
   ·rw [hb] at h
    exact absurd rfl h
  ·rfl
theorem eff_ended {rt nn st wy : Int} {fc : Bool} {hops steps parts : List D} {nm : List UInt8} {kd mr mn sp mw : Int} {mh ms : List D} {mm : List UInt8} (he : endR rt nn st wy fc hops steps parts nm = true) :
  effR rt nn st wy fc hops steps parts nm kd mr mn sp mw mh ms mm = [] := by
 unfold effR
 cases ha : (arE (appR rt nn st wy fc hops steps parts nm kd mr mn sp mw mh ms mm) != 0)
 ·have h0 : arE (appR rt nn st wy fc hops steps parts nm kd mr mn sp mw mh ms mm) = 0 := by simpa using ha
  obtain ⟨hm, h7, hmv, s, w, f, p, hR, hA, hpl⟩ := appR_good h0
  have hM := apply_mv (moveOk_sp hmv) (moveOk_kd hmv) hA
  have hst : st = 3 ∨ st = 6 := by
   unfold endR endR0 at he
   rw [hm, beqF h7] at he
   by_cases h3 : st = 3
   ·exact .inl h3
   ·by_cases h6 : st = 6
    ·exact .inr h6
    ·rw [beqF h3, beqF h6] at he; cases he
  have k4 : kd ≠ 4 := by rintro rfl; cases hM; omega
  have k11 : kd ≠ 11 := by rintro rfl; cases hM; omega
  have k16 : kd ≠ 16 := by rintro rfl; cases hM <;> omega
  have k9 : kd ≠ 9 := by rintro rfl; cases hM; omega
  rw [beqF k4, beqF k11, beqF k16, beqF k9]
  rfl
 ·rfl
theorem loop11 (m n : Nat) (A : Nat → D) (nl : Bool) (l : List D) (rt nn : Int) (n1 : Bool) (hops steps : List D) (nm : List UInt8) (h1 : n1 = true → hops = []) (ll : l.length ≤ 1000000)
  (hl : ∀ i, i < l.length → fewM (fl 3 (l.getD i .nilp)) (fl 7 (l.getD i .nilp)) = true) : ∀ (r i j : Nat) (st wy : Int) (n2 n3 fc : Bool) (parts : List D), i + r = l.length → r < j → (n2 = true → steps = []) → (n3 = true → parts = []) → mayOk rt nn st wy fc hops steps parts nm = true →
  (resume K3 (callN K3 (m+40)) n j 0 c11 (s11 A nl l rt nn st wy n1 n2 n3 fc hops steps parts nm (i : Nat))).out = some [.bool true] := by
 intro r
 induction r with
 | zero =>
  intro i j st wy n2 n3 fc parts hi hj h2 h3 hm
  cases j with
  | zero => omega
  | succ j =>
   have : i = l.length := by omega
   subst this
   have b1 := may_steps hm
   have b2 := mayOk_parts hm
   rw [l11, hm]
   refine (cf (dec_end _)).trans ?_
   refine (ct (decide_eq_true (by omega))).trans ?_
   refine (ct (decide_eq_true (by omega))).trans ?_
   rfl
 | succ r ih =>
  intro i j st wy n2 n3 fc parts hi hj h2 h3 hm
  cases j with
  | zero => omega
  | succ j =>
   have hlt : i < l.length := by omega
   have b1 := may_steps hm
   have b2 := mayOk_parts hm
   have hfm := hl i hlt
   unfold fewM at hfm
   simp only [Bool.and_eq_true, decide_eq_true_eq] at hfm
   rw [l11, hm]
   simp only [Int.toNat_natCast, wrap_up hlt ll]
   refine (ct (dec_lt hlt)).trans ?_
   refine (ct (decide_eq_true (by omega))).trans ?_
   refine (ct (decide_eq_true (by omega))).trans ?_
   refine (cf rfl).trans ?_
   refine (ct (dec_ix hlt)).trans ?_
   have hgd := gd_ok (rt := rt) (nn := nn) (st := st) (wy := wy) (fc := fc) (nm := nm) (kd := fi 0 (l.getD i .nilp)) (mh := fl 3 (l.getD i .nilp)) h1 h2 h3 (by omega) (by omega) (by omega) (by omega)
   refine (ct hgd).trans ?_
   cases ha : (arE (appR rt nn st wy fc hops steps parts nm (fi 0 (l.getD i .nilp)) (fi 1 (l.getD i .nilp)) (fi 2 (l.getD i .nilp)) (fi 4 (l.getD i .nilp)) (fi 5 (l.getD i .nilp)) (fl 3 (l.getD i .nilp)) (fl 7 (l.getD i .nilp)) (fs 6 (l.getD i .nilp))) != 0)
   ·refine (cf rfl).trans ?_
    have h0 : arE (appR rt nn st wy fc hops steps parts nm (fi 0 (l.getD i .nilp)) (fi 1 (l.getD i .nilp)) (fi 2 (l.getD i .nilp)) (fi 4 (l.getD i .nilp)) (fi 5 (l.getD i .nilp)) (fl 3 (l.getD i .nilp)) (fl 7 (l.getD i .nilp)) (fs 6 (l.getD i .nilp))) = 0 := by simpa using ha
    obtain ⟨-, -, -, s, w, f, p, hR, -, -⟩ := appR_good h0
    have next := ih (i + 1) j s w false false f p (by omega) (by omega) (fun h => by cases h) (fun h => by cases h) (may_next hR)
    rw [hR]
    refine (ct (decide_eq_true (by omega))).trans ?_
    refine (ct (decide_eq_true (by omega))).trans ?_
    cases he : endR rt nn st wy fc hops steps parts nm
    ·exact next
    ·refine (ct rfl).trans ?_
     refine (ct (dec_ix hlt)).trans ?_
     refine (ct hgd).trans ?_
     exact (cf (decide_eq_false (by rw [eff_ended he]; simp))).trans next
   ·refine (ct rfl).trans ?_
    have hb := fail_210 hm (bne_iff_ne.1 ha)
    have next := ih (i + 1) j st wy n2 n3 fc parts (by omega) (by omega) h2 h3 hm
    have he : effR rt nn st wy fc hops steps parts nm (fi 0 (l.getD i .nilp)) (fi 1 (l.getD i .nilp)) (fi 2 (l.getD i .nilp)) (fi 4 (l.getD i .nilp)) (fi 5 (l.getD i .nilp)) (fl 3 (l.getD i .nilp)) (fl 7 (l.getD i .nilp)) (fs 6 (l.getD i .nilp)) = [] := by
     unfold effR
     rw [ha]; rfl
    rw [hb]
    refine (cf rfl).trans ?_
    refine (cf rfl).trans ?_
    refine (ct (dec_ix hlt)).trans ?_
    refine (ct hgd).trans ?_
    exact (cf (decide_eq_false (by rw [he]; simp))).trans next
theorem states (m n : Nat) (kd mr mn sp mw : Int) (k1 k2 : Bool) (mh ms : List D) (mm : List UInt8) (nl : Bool) (l : List D) (h1 : k1 = true → mh = []) (h2 : k2 = true → ms = []) (hn : 3000 ≤ n) :
  (enterM K3 (callN K3 (m+40)) n c11 [.d (moveD kd mr mn sp mw k1 k2 mh ms mm), .d (.sl moveSh nl l)] []).out = some [.bool true] := by
 rw [e11]
 cases hf : fewL mh ms l
 ·rfl
 ·refine (cf rfl).trans ?_
  obtain ⟨f1, f2, f3, f4⟩ := fewL_iff hf
  have g : ((!k1 || mh.isEmpty) && (!k2 || ms.isEmpty) && (decide (mh.length ≤ 1000000) && decide (ms.length ≤ 1000000))) = true := by
   rw [decide_eq_true (show mh.length ≤ 1000000 by omega), decide_eq_true (show ms.length ≤ 1000000 by omega)]
   cases k1 with
   | false => cases k2 with
    | false => rfl
    | true => rw [h2 rfl]; rfl
   | true => rw [h1 rfl]; cases k2 with
    | false => rfl
    | true => rw [h2 rfl]; rfl
  refine (ct g).trans ?_
  cases hmv : moveOk kd mr mn sp mw mh ms mm
  ·rfl
  ·refine (ct rfl).trans ?_
   by_cases hk1 : kd = 1
   ·subst hk1
    refine (ct rfl).trans ?_
    exact loop11 m n (d3 [.int .i64 1, .int .i64 mr, .int .i64 mn, .sl hopSh k1 mh, .int .i64 sp, .int .i64 mw, .str mm, .sl stepSh k2 ms]) nl l mr mn k1 mh ms mm h1 (by omega) f4 l.length 0 n 1 0 k2 false false _ (by omega) (by omega) h2 (fun h => by cases h) (may_begin hmv)
   ·refine (cf (beqF hk1)).trans ?_
    by_cases hk2 : kd = 2
    ·subst hk2
     refine (ct rfl).trans ?_
     exact loop11 m n (d3 [.int .i64 2, .int .i64 mr, .int .i64 mn, .sl hopSh k1 mh, .int .i64 sp, .int .i64 mw, .str mm, .sl stepSh k2 ms]) nl l mr mn k1 mh [] [] h1 (by omega) f4 l.length 0 n 7 mw true true false [] (by omega) (by omega) (fun _ => rfl) (fun _ => rfl) (may_refuse hmv)
    ·exact cf (beqF hk2)
end Go.Proofs.YtkjiaijkdefkgaaGreatDoor.A
