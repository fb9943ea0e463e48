/-
  SagaDecided: whatever the input, the law tells true, and the input reads as it did. Under the row's conditions alone.
-/
import Derived.Test.YtkjiaijkdefkgaaGreatDoorP1
import Derived.SevenTiedAt

namespace Go.Proofs.YtkjiaijkdefkgaaGreatDoor
open Go Go.AM Go.Proofs Go.ChangeShapes
theorem sagaDecided_pure : PureOK Tryz.prog 9 A.gTrue2 := A.gTrue2_run A.okE20 fun rt nn st wy n1 n2 n3 fc hops steps parts nm kd mr mn sp mw k1 k2 mh ms mm h1 h2 h3 =>
  ⟨59 + 1, by rw [callN_succ (fn := A.c9) rfl]; exact A.decided 19 59 rt nn st wy n1 n2 n3 fc hops steps parts nm kd mr mn sp mw k1 k2 mh ms mm h1 h2 h3⟩
set_option maxRecDepth 100000 in
theorem sagaDecided_lifted (os : Os) (started : os.Started) (H : Type) (enc : TypeId × Value → H) :
    ReturnsInHanded {} Tryz.checked os 9 .any (fun w args => (Rows.sagaDecidedSpec.pre enc Tryz.prog Tryz.f9 [] false w args ∧ laidMetH Tryz.prog A.tabs5 w) ∧ sizedMet enc Tryz.prog Tryz.f9 (OpenSpec.ofChange Rows.sagaDecidedSpec) false w args)
      (Rows.sagaDecidedSpec.post enc Tryz.prog Tryz.f9 false true false false) := by
  refine returnsInHanded_of_change_and (C := Tryz.checked) (X := fun w _ => laidMetH Tryz.prog A.tabs5 w) (fun _ _ _ hh h => h.of_heap hh) A.own1 started (by kernel_rfl) Tryz.func9
    (ChangeSpec.witness_shaped (enc := enc) (C := Tryz.checked) (os := os) (X := fun w _ => laidMetH Tryz.prog A.tabs5 w) false (World.laidAll Tryz.prog os A.tabs5) #[.agg #[.int .i64 0, .int .i64 0, .slice none 0 0, .string ⟨#[]⟩, .slice none 0 0, .int .i64 0, .int .i64 0, .slice none 0 0, .bool false], .agg #[.int .i64 0, .int .i64 0, .int .i64 0, .slice none 0 0, .int .i64 0, .int .i64 0, .string ⟨#[]⟩, .slice none 0 0]] 8 (World.laidAll_os _ _ _) (World.shaped_of_ZipB (by kernel_rfl) (by kernel_rfl)) (by kernel_rfl) (by kernel_rfl) (by kernel_rfl) (A.tabs5_met os _)) ?_
  intro W base args ds gs before hval hW _ _ _ _
  have hW' := hW
  obtain ⟨p, q, hA, hV, -, -, -⟩ := hW
  obtain ⟨rfl, rfl⟩ := trodVars_none hV
  have hty : tyArgs Tryz.prog [A.sagaTy, A.moveTy] Tryz.f9.params.toList = true := by rw [Tryz.params9]; kernel_rfl
  obtain ⟨c, hc⟩ : ∃ c, Tryz.f9.body = some c := by
    cases h : Tryz.f9.body with
    | some c => exact ⟨c, rfl⟩
    | none => exact absurd (show Tryz.f9.body.isSome = true by kernel_rfl) (by rw [h]; decide)
  have hds : ds.length = 2 := by
    have hl := hA
    rw [Tryz.params9] at hl
    obtain ⟨_, _, _, _, _, _, -, rfl, -⟩ := trodAll_two hl
    rfl
  refine (law_calls (H := H) (enc := enc) Tryz.func9 (by decide +kernel) hc sagaDecided_pure hty A.gTrue2_in hA (fun j t v ht hv => hval j t v ht hv)).mono ?_
  rintro e W' ⟨rfl, hk⟩
  refine ⟨_, rfl, law_post hW' rfl A.laidOut hty (show Tryz.f9.resultTypes = #[4] by kernel_rfl) Tryz.underlying4 ?_ ?_ ?_ hk⟩
  all_goals
    match ds, hds with | [d1, d2], _ => rfl
theorem sagaDecided_holds : Rows.SagaDecidedSaid :=
  OpenClaim.holds_of_wide 9 Tryz.f9 rfl rfl rfl rfl rfl rfl rfl ⟨rfl, rfl, rfl, rfl, rfl⟩ rfl rfl rfl rfl rfl (by kernel_rfl) Tryz.func9 (by kernel_rfl)
    (of_decide_eq_true (by kernel_rfl)) (by unfold Func.isWrapper; first | (rw [if_pos (by decide +kernel)]; kernel_rfl) | (rw [if_neg (by decide +kernel)]; exact ⟨rfl, rfl⟩))
    (fun os started H enc _ => sagaDecided_lifted os started H enc)
theorem sagaDecided_card : Rows.SagaDecidedCardSaid :=
  Claim7.holds_tied_plain_at .later [] [.data, .data, .data, .data, .pinned] true (true, "4ff6890e9bf07b1890cba9fc8305096720cc396fc3a98ce59fb5d6f6355d2d1d") false
    sagaDecided_holds (fun _ h => by cases h) (by kernel_rfl) (fun _ h => by cases h) sagaDecided_row_tie rfl ⟨rfl, rfl⟩ (by kernel_rfl) rfl
    (fun f fn hf hfn => by
      obtain rfl : f = 9 := Option.some.inj ((show Tryz.prog.funcNamed "entente/ententelaw21.SagaDecided" = some 9 by kernel_rfl).symm.trans hf) |>.symm
      obtain rfl : fn = Tryz.f9 := (Option.some.inj (Tryz.func9.symm.trans hfn)).symm
      exact ⟨by kernel_rfl, fun j t ht => by
        rw [Tryz.params9] at ht
        have hm : t ∈ [30, 78] := by simpa using Array.mem_of_getElem? ht
        have hall : ([30, 78].all fun u => !Tryz.prog.wantsStandIn u) = true := by kernel_rfl
        exact (show Tryz.prog.wantsStandIn t = false by simpa using List.all_eq_true.1 hall t hm)⟩)
    (by kernel_rfl)
end Go.Proofs.YtkjiaijkdefkgaaGreatDoor
