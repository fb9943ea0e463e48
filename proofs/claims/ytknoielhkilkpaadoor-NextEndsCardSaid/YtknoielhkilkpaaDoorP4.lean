/-
  NextEnds: whatever the input, the law tells true, and the input reads as it did. Under the row's conditions alone.
-/
import Derived.Test.YtknoielhkilkpaaDoorP1
import Derived.Test.YtknoielhkilkpaaDoorHg
import Derived.SevenTiedAt

namespace Go.Proofs.YtknoielhkilkpaaDoor
open Go Go.AM Go.Proofs Go.ChangeShapes
theorem nextEnds_pure : PureOK Tryd.prog 8 A.gTrue1 := A.gTrue1_run (A.ok21 A.mixed A.okE20) fun rt nn st wy n1 n2 n3 fc hops steps parts nm h1 h2 h3 =>
  ⟨4000 + 1, by rw [callN_succ (fn := A.c8) rfl]; exact A.ends 3960 4000 rt nn st wy n1 n2 n3 fc hops steps parts nm h1 h2 h3 (by decide)⟩
set_option maxRecDepth 100000 in
theorem nextEnds_lifted (os : Os) (started : os.Started) (H : Type) (enc : TypeId × Value → H) :
    ReturnsInHanded {} Tryd.checked os 8 .any (fun w args => (Rows.nextEndsSpec.pre enc Tryd.prog Tryd.f8 [] false w args ∧ laidMetH Tryd.prog A.tabs w) ∧ sizedMet enc Tryd.prog Tryd.f8 (OpenSpec.ofChange Rows.nextEndsSpec) false w args)
      (Rows.nextEndsSpec.post enc Tryd.prog Tryd.f8 false true false false) := by
  refine returnsInHanded_of_change_and (C := Tryd.checked) (X := fun w _ => laidMetH Tryd.prog A.tabs w) (fun _ _ _ hh h => h.of_heap hh) A.own1 started (by kernel_rfl) Tryd.func8
    (ChangeSpec.witness_shaped (enc := enc) (C := Tryd.checked) (os := os) (X := fun w _ => laidMetH Tryd.prog A.tabs w) false (World.doorLaid Tryd.prog 400 os) #[.agg #[.int .i64 0, .int .i64 0, .slice none 0 0, .string ⟨#[]⟩, .slice none 0 0, .int .i64 0, .int .i64 0, .slice none 0 0, .bool false]] 8 rfl (World.shaped_of_RefB (by kernel_rfl) (by kernel_rfl)) (by kernel_rfl) (by kernel_rfl) (by kernel_rfl) (A.door_met os _)) ?_
  intro W base args ds gs before hval hW _ _ _ _
  have hW' := hW
  obtain ⟨p, q, hA, hV, -, -, -⟩ := hW
  obtain ⟨rfl, rfl⟩ := trodVars_none hV
  have hty : tyArgs Tryd.prog [A.sagaTy] Tryd.f8.params.toList = true := by rw [Tryd.params8]; kernel_rfl
  obtain ⟨c, hc⟩ : ∃ c, Tryd.f8.body = some c := by
    cases h : Tryd.f8.body with
    | some c => exact ⟨c, rfl⟩
    | none => exact absurd (show Tryd.f8.body.isSome = true by kernel_rfl) (by rw [h]; decide)
  have hds : ds.length = 1 := by
    have hl := hA
    rw [Tryd.params8] at hl
    obtain ⟨_, _, -, rfl, -⟩ := trodAll_one hl
    rfl
  refine (law_calls (H := H) (enc := enc) Tryd.func8 (by decide +kernel) hc nextEnds_pure hty A.gTrue1_in hA (fun j t v ht hv => hval j t v ht hv)).mono ?_
  rintro e W' ⟨rfl, hk⟩
  refine ⟨_, rfl, law_post hW' rfl A.laidOut hty (show Tryd.f8.resultTypes = #[4] by kernel_rfl) Tryd.underlying4 ?_ ?_ ?_ hk⟩
  all_goals
    match ds, hds with | [d], _ => rfl
theorem nextEnds_holds : Rows.NextEndsSaid :=
  OpenClaim.holds_of_wide 8 Tryd.f8 rfl rfl rfl rfl rfl rfl rfl ⟨rfl, rfl, rfl, rfl, rfl⟩ rfl rfl rfl rfl rfl (by kernel_rfl) Tryd.func8 (by kernel_rfl)
    (of_decide_eq_true (by kernel_rfl)) (by unfold Func.isWrapper; first | (rw [if_pos (by decide +kernel)]; kernel_rfl) | (rw [if_neg (by decide +kernel)]; exact ⟨rfl, rfl⟩))
    (fun os started H enc _ => nextEnds_lifted os started H enc)
theorem nextEnds_card : Rows.NextEndsCardSaid :=
  Claim7.holds_tied_plain_at .later [] [.data, .data, .data] true (true, "6d81ea205e99b8ae16197c669ef47fd450855bc43358b37a9c6f724794c51b5a") false
    nextEnds_holds (fun _ h => by cases h) (by kernel_rfl) (fun _ h => by cases h) nextEnds_row_tie rfl ⟨rfl, rfl⟩ (by kernel_rfl) rfl
    (fun f fn hf hfn => by
      obtain rfl : f = 8 := Option.some.inj ((show Tryd.prog.funcNamed "entente/ententelaw22.NextEnds" = some 8 by kernel_rfl).symm.trans hf) |>.symm
      obtain rfl : fn = Tryd.f8 := (Option.some.inj (Tryd.func8.symm.trans hfn)).symm
      exact ⟨by kernel_rfl, fun j t ht => by
        rw [Tryd.params8] at ht
        have hm : t ∈ [45] := by simpa using Array.mem_of_getElem? ht
        have hall : ([45].all fun u => !Tryd.prog.wantsStandIn u) = true := by kernel_rfl
        exact (show Tryd.prog.wantsStandIn t = false by simpa using List.all_eq_true.1 hall t hm)⟩)
    (by kernel_rfl)
end Go.Proofs.YtknoielhkilkpaaDoor
