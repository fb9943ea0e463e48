/-
  ChildTells: whatever the input, the law tells true, and the input reads as it did. Under the row's conditions alone.
-/
import Derived.Test.YtkjiaijkdefkgaaGreatDoorP1
import Derived.SevenTiedAt

namespace Go.Proofs.YtkjiaijkdefkgaaGreatDoor
open Go Go.AM Go.Proofs Go.ChangeShapes
theorem childTells_pure : PureOK Tryz.prog 3 A.gTrue1 := A.gTrue1_run A.okF7 fun rt nn st wy n1 n2 n3 fc hops steps parts nm h1 _ _ =>
  ⟨59 + 1, by rw [callN_succ (fn := A.c3) rfl]; exact A.tells 19 59 rt nn st wy n1 n2 n3 fc hops steps parts nm h1⟩
set_option maxRecDepth 100000 in
theorem childTells_lifted (os : Os) (started : os.Started) (H : Type) (enc : TypeId × Value → H) :
    ReturnsInHanded {} Tryz.checked os 3 .any (fun w args => (Rows.childTellsSpec.pre enc Tryz.prog Tryz.f3 [] false w args ∧ laidMetH Tryz.prog A.tabs3 w) ∧ sizedMet enc Tryz.prog Tryz.f3 (OpenSpec.ofChange Rows.childTellsSpec) false w args)
      (Rows.childTellsSpec.post enc Tryz.prog Tryz.f3 false true false false) := by
  refine returnsInHanded_of_change_and (C := Tryz.checked) (X := fun w _ => laidMetH Tryz.prog A.tabs3 w) (fun _ _ _ hh h => h.of_heap hh) A.own1 started (by kernel_rfl) Tryz.func3
    (ChangeSpec.witness_shaped (enc := enc) (C := Tryz.checked) (os := os) (X := fun w _ => laidMetH Tryz.prog A.tabs3 w) false (World.laidAll Tryz.prog os A.tabs3) #[.agg #[.int .i64 0, .int .i64 0, .slice none 0 0, .string ⟨#[]⟩, .slice none 0 0, .int .i64 0, .int .i64 0, .slice none 0 0, .bool false]] 8 (World.laidAll_os _ _ _) (World.shaped_of_ZipB (by kernel_rfl) (by kernel_rfl)) (by kernel_rfl) (by kernel_rfl) (by kernel_rfl) (A.tabs3_met os _)) ?_
  intro W base args ds gs before hval hW _ _ _ _
  have hW' := hW
  obtain ⟨p, q, hA, hV, -, -, -⟩ := hW
  obtain ⟨rfl, rfl⟩ := trodVars_none hV
  have hty : tyArgs Tryz.prog [A.sagaTy] Tryz.f3.params.toList = true := by rw [Tryz.params3]; kernel_rfl
  obtain ⟨c, hc⟩ : ∃ c, Tryz.f3.body = some c := by
    cases h : Tryz.f3.body with
    | some c => exact ⟨c, rfl⟩
    | none => exact absurd (show Tryz.f3.body.isSome = true by kernel_rfl) (by rw [h]; decide)
  have hds : ds.length = 1 := by
    have hl := hA
    rw [Tryz.params3] at hl
    obtain ⟨_, _, -, rfl, -⟩ := trodAll_one hl
    rfl
  refine (law_calls (H := H) (enc := enc) Tryz.func3 (by decide +kernel) hc childTells_pure hty A.gTrue1_in hA (fun j t v ht hv => hval j t v ht hv)).mono ?_
  rintro e W' ⟨rfl, hk⟩
  refine ⟨_, rfl, law_post hW' rfl A.laidOut hty (show Tryz.f3.resultTypes = #[4] by kernel_rfl) Tryz.underlying4 ?_ ?_ ?_ hk⟩
  all_goals
    match ds, hds with | [d], _ => rfl
theorem childTells_holds : Rows.ChildTellsSaid :=
  OpenClaim.holds_of_wide 3 Tryz.f3 rfl rfl rfl rfl rfl rfl rfl ⟨rfl, rfl, rfl, rfl, rfl⟩ rfl rfl rfl rfl rfl (by kernel_rfl) Tryz.func3 (by kernel_rfl)
    (of_decide_eq_true (by kernel_rfl)) (by unfold Func.isWrapper; first | (rw [if_pos (by decide +kernel)]; kernel_rfl) | (rw [if_neg (by decide +kernel)]; exact ⟨rfl, rfl⟩))
    (fun os started H enc _ => childTells_lifted os started H enc)
theorem childTells_card : Rows.ChildTellsCardSaid :=
  Claim7.holds_tied_plain_at .later [] [.data, .data, .data] true (true, "4ff6890e9bf07b1890cba9fc8305096720cc396fc3a98ce59fb5d6f6355d2d1d") false
    childTells_holds (fun _ h => by cases h) (by kernel_rfl) (fun _ h => by cases h) childTells_row_tie rfl ⟨rfl, rfl⟩ (by kernel_rfl) rfl
    (fun f fn hf hfn => by
      obtain rfl : f = 3 := Option.some.inj ((show Tryz.prog.funcNamed "entente/ententelaw25.ChildTells" = some 3 by kernel_rfl).symm.trans hf) |>.symm
      obtain rfl : fn = Tryz.f3 := (Option.some.inj (Tryz.func3.symm.trans hfn)).symm
      exact ⟨by kernel_rfl, fun j t ht => by
        rw [Tryz.params3] at ht
        have hm : t ∈ [30] := by simpa using Array.mem_of_getElem? ht
        have hall : ([30].all fun u => !Tryz.prog.wantsStandIn u) = true := by kernel_rfl
        exact (show Tryz.prog.wantsStandIn t = false by simpa using List.all_eq_true.1 hall t hm)⟩)
    (by kernel_rfl)
end Go.Proofs.YtkjiaijkdefkgaaGreatDoor
