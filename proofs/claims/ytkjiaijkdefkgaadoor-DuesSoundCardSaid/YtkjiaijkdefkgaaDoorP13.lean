/-
  DuesSound: whatever the input, the law tells true, and the input reads as it did. Under the row's conditions alone.
-/
import Derived.Test.YtkjiaijkdefkgaaDoorLw
import Derived.SevenTiedAt
namespace Go.Proofs.YtkjiaijkdefkgaaDoor
open Go Go.AM Go.Proofs Go.ChangeShapes

theorem duesSound_pure : ∃ g, PureOK Tryd.prog 3 g ∧ ∀ xs, WFs [A.stateTy] xs → (g xs).eval = some [.bool true] := A.law_true (E := A.Dx) A.okDht fun ds h => by
  match ds, h with
  | [x], h =>
    obtain ⟨og, ep, co, na, nm, nb, ns, ac, ms, bs, ss, rfl, h1, -⟩ := A.state_in h.1
    exact ⟨1999 + 1, by rw [callN_succ (fn := A.c3) rfl]; exact A.duessound 1959 1999 og ep co na nm nb ns ac ms bs ss h1 (by omega)⟩
set_option maxRecDepth 100000 in
theorem duesSound_lifted (os : Os) (started : os.Started) (H : Type) (enc : TypeId × Value → H) :
    ReturnsInHanded {} Tryd.checked os 3 .any (fun w args => (Rows.duesSoundSpec.pre enc Tryd.prog Tryd.f3 [] false w args ∧ laidMetH Tryd.prog A.tabs4 w) ∧ sizedMet enc Tryd.prog Tryd.f3 (OpenSpec.ofChange Rows.duesSoundSpec) false w args)
      (Rows.duesSoundSpec.post enc Tryd.prog Tryd.f3 false true false false) := by
  refine returnsInHanded_of_change_and (C := Tryd.checked) (X := fun w _ => laidMetH Tryd.prog A.tabs4 w) (fun _ _ _ hh h => h.of_heap hh) A.own1 started (by kernel_rfl) Tryd.func3
    (ChangeSpec.witness_shaped (enc := enc) (C := Tryd.checked) (os := os) (X := fun w _ => laidMetH Tryd.prog A.tabs4 w) false (World.laidAll Tryd.prog os A.tabs4) #[.agg #[.int .i64 0, .int .i64 0, .int .i64 0, .slice none 0 0, .slice none 0 0, .slice none 0 0, .slice none 0 0]] 8 (World.laidAll_os _ _ _) (World.shaped_of_ZipB (by kernel_rfl) (by kernel_rfl)) (by kernel_rfl) (by kernel_rfl) (by kernel_rfl) (A.tabs4_met os _)) ?_
  obtain ⟨g0, hp0, hg0⟩ := duesSound_pure
  intro W base args ds gs before hval hW _ _ hx _
  have hW' := hW
  have hT : TabOK Tryd.prog W (fun _ => False) := by
    rw [MakeChecks.laidMetH_plain _ _ _ (by kernel_rfl)] at hx
    obtain ⟨ps, hl, -, -⟩ := hx
    exact A.tab_ok hl A.tabs4_pow
  obtain ⟨p, q, hA, hV, -, -, -⟩ := hW
  obtain ⟨rfl, rfl⟩ := trodVars_none hV
  have hty : tyArgs Tryd.prog [A.stateTy] Tryd.f3.params.toList = true := by rw [Tryd.params3]; kernel_rfl
  obtain ⟨c, hc⟩ : ∃ c, Tryd.f3.body = some c := by
    cases h : Tryd.f3.body with
    | some c => exact ⟨c, rfl⟩
    | none => exact absurd (show Tryd.f3.body.isSome = true by kernel_rfl) (by rw [h]; decide)
  have hds : ds.length = 1 := by
    have hl := hA
    rw [Tryd.params3] at hl
    obtain ⟨_, _, -, rfl, -⟩ := trodAll_one hl
    rfl
  refine (law_calls (H := H) (enc := enc) Tryd.func3 (by decide +kernel) hc hp0 hty hg0 hA (fun j t v ht hv => hval j t v ht hv) hT).mono ?_
  rintro e W' ⟨rfl, hk⟩
  refine ⟨_, rfl, law_post hW' rfl A.laidOut hty (show Tryd.f3.resultTypes = #[4] by kernel_rfl) Tryd.underlying4 ?_ ?_ ?_ hk⟩
  all_goals
    match ds, hds with | [d], _ => rfl
theorem duesSound_j1 : Tryd.prog.inPlace 3 = Rows.duesSoundRow.inPlace := by kernel_rfl
theorem duesSound_j2 : Tryd.prog.unfollowed 3 = Rows.duesSoundRow.unfollowed := by kernel_rfl
theorem duesSound_j3 : Tryd.prog.recurses 3 = Rows.duesSoundRow.recurses := by kernel_rfl
theorem duesSound_j4 : Tryd.prog.varsNamed 3 = Rows.duesSoundRow.named := by kernel_rfl
theorem duesSound_closed : joinedFacts Tryd.prog 3 Tryd.f3 Rows.duesSoundSpec Rows.duesSoundRow = true := by
  unfold joinedFacts
  rw [duesSound_j1, duesSound_j2, duesSound_j3, duesSound_j4]
  kernel_rfl
theorem duesSound_holds : Rows.DuesSoundSaid :=
  OpenClaim.holds_of_wide 3 Tryd.f3 rfl rfl rfl rfl rfl rfl rfl ⟨rfl, rfl, rfl, rfl, rfl⟩ rfl rfl rfl rfl rfl (by kernel_rfl) Tryd.func3 duesSound_closed
    (of_decide_eq_true (by kernel_rfl)) (by unfold Func.isWrapper; first | (rw [if_pos (by decide +kernel)]; kernel_rfl) | (rw [if_neg (by decide +kernel)]; exact ⟨rfl, rfl⟩))
    (fun os started H enc _ => duesSound_lifted os started H enc)
theorem duesSound_card : Rows.DuesSoundCardSaid :=
  Claim7.holds_tied_plain_at .later [] [.data, .data, .data] true (true, "784be6ee7f2bc1d94ac668ea5bce07810f0107289e5f1f261d6476d81d6f16a9") false
    duesSound_holds (fun _ h => by cases h) (by kernel_rfl) (fun _ h => by cases h) duesSound_row_tie rfl ⟨rfl, rfl⟩ (by kernel_rfl) rfl
    (fun f fn hf hfn => by
      obtain rfl : f = 3 := Option.some.inj ((show Tryd.prog.funcNamed "entente/ententelaw27.DuesSound" = some 3 by kernel_rfl).symm.trans hf) |>.symm
      obtain rfl : fn = Tryd.f3 := (Option.some.inj (Tryd.func3.symm.trans hfn)).symm
      exact ⟨by kernel_rfl, fun j t ht => by
        rw [Tryd.params3] at ht
        have hm : t ∈ [29] := by simpa using Array.mem_of_getElem? ht
        have hall : ([29].all fun u => !Tryd.prog.wantsStandIn u) = true := by kernel_rfl
        exact (show Tryd.prog.wantsStandIn t = false by simpa using List.all_eq_true.1 hall t hm)⟩)
    (by kernel_rfl)
#print axioms duesSound_card
end Go.Proofs.YtkjiaijkdefkgaaDoor
