/- The row and the card: whatever the input, the law tells true; under the row's conditions alone. -/
import Derived.Test.YtkjiaijkdefkgaaGreatDoorGl
import Derived.SevenTiedAt
namespace Go.Proofs.YtkjiaijkdefkgaaGreatDoor
open Go Go.AM Go.Proofs Go.ChangeShapes
theorem sagaOnce_pure : PureOK Tryz.prog 12 A.gTrueL := A.gTrueL_run A.okZK3 fun kd mr mn sp mw k1 k2 mh ms mm nl l h1 h2 =>
 ⟨3999 + 1, by rw [callN_succ (fn := A.c12) rfl]; exact A.once 3959 3999 kd mr mn sp mw k1 k2 mh ms mm nl l h1 h2 (by omega)⟩
set_option maxRecDepth 100000 in
theorem sagaOnce_lifted (os : Os) (started : os.Started) (H : Type) (enc : TypeId × Value → H) :
  ReturnsInHanded {} Tryz.checked os 12 .any (fun w args => (Rows.sagaOnceSpec.pre enc Tryz.prog Tryz.f12 [] false w args ∧ laidMetH Tryz.prog A.tabs5 w) ∧ sizedMet enc Tryz.prog Tryz.f12 (OpenSpec.ofChange Rows.sagaOnceSpec) false w args)
   (Rows.sagaOnceSpec.post enc Tryz.prog Tryz.f12 false true false false) := by
 refine returnsInHanded_of_change_and (C := Tryz.checked) (X := fun w _ => laidMetH Tryz.prog A.tabs5 w) (fun _ _ _ hh h => h.of_heap hh) A.own1 started (by kernel_rfl) Tryz.func12
  (ChangeSpec.witness_shaped (enc := enc) (C := Tryz.checked) (os := os) (X := fun w _ => laidMetH Tryz.prog A.tabs5 w) false (World.laidAll Tryz.prog os A.tabs5) #[.agg #[.int .i64 0, .int .i64 0, .int .i64 0, .slice none 0 0, .int .i64 0, .int .i64 0, .string ⟨#[]⟩, .slice none 0 0], .slice none 0 0] 8 (World.laidAll_os _ _ _) (World.shaped_of_ZipB (by kernel_rfl) (by kernel_rfl)) (by kernel_rfl) (by kernel_rfl) (by kernel_rfl) (A.tabs5_met os _)) ?_
 intro W base args ds gs before hval hW _ _ hx _
 have hW' := hW
 have hT : TabOK Tryz.prog W (fun _ => False) := by
  rw [MakeChecks.laidMetH_plain _ _ _ (by kernel_rfl)] at hx
  obtain ⟨ps, hl, -, -⟩ := hx
  exact A.tab_ok hl A.tabs5_pow
 obtain ⟨p, q, hA, hV, -, -, -⟩ := hW
 obtain ⟨rfl, rfl⟩ := trodVars_none hV
 have hty : tyArgs Tryz.prog [A.moveTy, .sl A.moveTy] Tryz.f12.params.toList = true := by rw [Tryz.params12]; kernel_rfl
 obtain ⟨c, hc⟩ : ∃ c, Tryz.f12.body = some c := by
  cases h : Tryz.f12.body with
  | some c => exact ⟨c, rfl⟩
  | none => exact absurd (show Tryz.f12.body.isSome = true by kernel_rfl) (by rw [h]; decide)
 have hds : ds.length = 2 := by
  have hl := hA
  rw [Tryz.params12] at hl
  obtain ⟨_, _, _, _, _, _, -, rfl, -⟩ := trodAll_two hl
  rfl
 refine (law_calls (H := H) (enc := enc) Tryz.func12 (by decide +kernel) hc sagaOnce_pure hty A.gTrueL_in hA (fun j t v ht hv => hval j t v ht hv) hT).mono ?_
 rintro e W' ⟨rfl, hk⟩
 refine ⟨_, rfl, law_post hW' rfl A.laidOut hty (show Tryz.f12.resultTypes = #[4] by kernel_rfl) Tryz.underlying4 ?_ ?_ ?_ hk⟩
 all_goals
  match ds, hds with | [d1, d2], _ => rfl
theorem sagaOnce_holds : Rows.SagaOnceSaid :=
 OpenClaim.holds_of_wide 12 Tryz.f12 rfl rfl rfl rfl rfl rfl rfl ⟨rfl, rfl, rfl, rfl, rfl⟩ rfl rfl rfl rfl rfl (by kernel_rfl) Tryz.func12 (by kernel_rfl)
  (of_decide_eq_true (by kernel_rfl)) (by unfold Func.isWrapper; first | (rw [if_pos (by decide +kernel)]; kernel_rfl) | (rw [if_neg (by decide +kernel)]; exact ⟨rfl, rfl⟩))
  (fun os started H enc _ => sagaOnce_lifted os started H enc)
theorem sagaOnce_card : Rows.SagaOnceCardSaid :=
 Claim7.holds_tied_plain_at .later [] [.data, .data, .data, .data, .pinned] true (true, "4ff6890e9bf07b1890cba9fc8305096720cc396fc3a98ce59fb5d6f6355d2d1d") false
  sagaOnce_holds (fun _ h => by cases h) (by kernel_rfl) (fun _ h => by cases h) sagaOnce_row_tie rfl ⟨rfl, rfl⟩ (by kernel_rfl) rfl
  (fun f fn hf hfn => by
   obtain rfl : f = 12 := Option.some.inj ((show Tryz.prog.funcNamed "entente/ententelaw21.SagaOnce" = some 12 by kernel_rfl).symm.trans hf) |>.symm
   obtain rfl : fn = Tryz.f12 := (Option.some.inj (Tryz.func12.symm.trans hfn)).symm
   exact ⟨by kernel_rfl, fun j t ht => by
    rw [Tryz.params12] at ht
    have hm : t ∈ [78, 47] := by simpa using Array.mem_of_getElem? ht
    have hall : ([78, 47].all fun u => !Tryz.prog.wantsStandIn u) = true := by kernel_rfl
    exact (show Tryz.prog.wantsStandIn t = false by simpa using List.all_eq_true.1 hall t hm)⟩)
  (by kernel_rfl)
end Go.Proofs.YtkjiaijkdefkgaaGreatDoor
