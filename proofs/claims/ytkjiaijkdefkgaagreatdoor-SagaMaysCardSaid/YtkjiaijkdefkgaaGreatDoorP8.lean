/- The row and the card: whatever the input, the law tells true; under the row's conditions alone. -/
import Derived.Test.YtkjiaijkdefkgaaGreatDoorGl
import Derived.SevenTiedAt
namespace Go.Proofs.YtkjiaijkdefkgaaGreatDoor
open Go Go.AM Go.Proofs Go.ChangeShapes
theorem sagaMays_pure : PureOK Tryz.prog 8 A.gTrueI := A.gTrueI_run A.okZK2 fun rt nn st wy n1 n2 n3 fc hops steps parts nm k h1 h2 h3 =>
 ⟨59 + 1, by rw [callN_succ (fn := A.c8) rfl]; exact A.mays 19 59 rt nn st wy n1 n2 n3 fc hops steps parts nm k h1 h2 h3⟩
set_option maxRecDepth 100000 in
theorem sagaMays_lifted (os : Os) (started : os.Started) (H : Type) (enc : TypeId × Value → H) :
  ReturnsInHanded {} Tryz.checked os 8 .any (fun w args => (Rows.sagaMaysSpec.pre enc Tryz.prog Tryz.f8 [] false w args ∧ laidMetH Tryz.prog A.tabs5 w) ∧ sizedMet enc Tryz.prog Tryz.f8 (OpenSpec.ofChange Rows.sagaMaysSpec) false w args)
   (Rows.sagaMaysSpec.post enc Tryz.prog Tryz.f8 false true false false) := by
 refine returnsInHanded_of_change_and (C := Tryz.checked) (X := fun w _ => laidMetH Tryz.prog A.tabs5 w) (fun _ _ _ hh h => h.of_heap hh) A.own1 started (by kernel_rfl) Tryz.func8
  (ChangeSpec.witness_shaped (enc := enc) (C := Tryz.checked) (os := os) (X := fun w _ => laidMetH Tryz.prog A.tabs5 w) false (World.laidAll Tryz.prog os A.tabs5) #[.agg #[.int .i64 0, .int .i64 0, .slice none 0 0, .string ⟨#[]⟩, .slice none 0 0, .int .i64 0, .int .i64 0, .slice none 0 0, .bool false], .int .i64 0] 8 (World.laidAll_os _ _ _) (World.shaped_of_ZipB (by kernel_rfl) (by kernel_rfl)) (by kernel_rfl) (by kernel_rfl) (by kernel_rfl) (A.tabs5_met os _)) ?_
 intro W base args ds gs before hval hW _ _ hx _
 have hW' := hW
 have hT : TabOK Tryz.prog W (fun _ => False) := by
  rw [MakeChecks.laidMetH_plain _ _ _ (by kernel_rfl)] at hx
  obtain ⟨ps, hl, -, -⟩ := hx
  exact A.tab_ok hl A.tabs5_pow
 obtain ⟨p, q, hA, hV, -, -, -⟩ := hW
 obtain ⟨rfl, rfl⟩ := trodVars_none hV
 have hty : tyArgs Tryz.prog [A.sagaTy, .int .i64] Tryz.f8.params.toList = true := by rw [Tryz.params8]; kernel_rfl
 obtain ⟨c, hc⟩ : ∃ c, Tryz.f8.body = some c := by
  cases h : Tryz.f8.body with
  | some c => exact ⟨c, rfl⟩
  | none => exact absurd (show Tryz.f8.body.isSome = true by kernel_rfl) (by rw [h]; decide)
 have hds : ds.length = 2 := by
  have hl := hA
  rw [Tryz.params8] at hl
  obtain ⟨_, _, _, _, _, _, -, rfl, -⟩ := trodAll_two hl
  rfl
 refine (law_calls (H := H) (enc := enc) Tryz.func8 (by decide +kernel) hc sagaMays_pure hty A.gTrueI_in hA (fun j t v ht hv => hval j t v ht hv) hT).mono ?_
 rintro e W' ⟨rfl, hk⟩
 refine ⟨_, rfl, law_post hW' rfl A.laidOut hty (show Tryz.f8.resultTypes = #[4] by kernel_rfl) Tryz.underlying4 ?_ ?_ ?_ hk⟩
 all_goals
  match ds, hds with | [d1, d2], _ => rfl
theorem sagaMays_holds : Rows.SagaMaysSaid :=
 OpenClaim.holds_of_wide 8 Tryz.f8 rfl rfl rfl rfl rfl rfl rfl ⟨rfl, rfl, rfl, rfl, rfl⟩ rfl rfl rfl rfl rfl (by kernel_rfl) Tryz.func8 (by kernel_rfl)
  (of_decide_eq_true (by kernel_rfl)) (by unfold Func.isWrapper; first | (rw [if_pos (by decide +kernel)]; kernel_rfl) | (rw [if_neg (by decide +kernel)]; exact ⟨rfl, rfl⟩))
  (fun os started H enc _ => sagaMays_lifted os started H enc)
theorem sagaMays_card : Rows.SagaMaysCardSaid :=
 Claim7.holds_tied_plain_at .later [] [.data, .data, .data, .data, .pinned] true (true, "4ff6890e9bf07b1890cba9fc8305096720cc396fc3a98ce59fb5d6f6355d2d1d") false
  sagaMays_holds (fun _ h => by cases h) (by kernel_rfl) (fun _ h => by cases h) sagaMays_row_tie rfl ⟨rfl, rfl⟩ (by kernel_rfl) rfl
  (fun f fn hf hfn => by
   obtain rfl : f = 8 := Option.some.inj ((show Tryz.prog.funcNamed "entente/ententelaw21.SagaMays" = some 8 by kernel_rfl).symm.trans hf) |>.symm
   obtain rfl : fn = Tryz.f8 := (Option.some.inj (Tryz.func8.symm.trans hfn)).symm
   exact ⟨by kernel_rfl, fun j t ht => by
    rw [Tryz.params8] at ht
    have hm : t ∈ [30, 3] := by simpa using Array.mem_of_getElem? ht
    have hall : ([30, 3].all fun u => !Tryz.prog.wantsStandIn u) = true := by kernel_rfl
    exact (show Tryz.prog.wantsStandIn t = false by simpa using List.all_eq_true.1 hall t hm)⟩)
  (by kernel_rfl)
end Go.Proofs.YtkjiaijkdefkgaaGreatDoor
