/-
  DuesNeeded: whatever the input, the law tells true, and the input reads as it did. Under the row's conditions alone.
-/
import Derived.Test.YtkjiaijkdefkgaaDoorLw
import Derived.SevenTiedAt
namespace Go.Proofs.YtkjiaijkdefkgaaDoor
open Go Go.AM Go.Proofs Go.ChangeShapes

theorem duesNeeded_pure : ∃ g, PureOK Tryd.prog 4 g ∧ ∀ xs, WFs [A.sagaTy] xs → (g xs).eval = some [.bool true] := A.law_some fun ds h => by
  match ds, h with
  | [x], h =>
    obtain ⟨rt, nn, st, wy, n1, n2, n3, fc, hops, steps, parts, nm', rfl, h1, -, -⟩ := A.saga_in h.1
    obtain ⟨b, hr⟩ := A.duesneeded 19 59 rt nn st wy n1 n2 n3 fc hops steps parts nm' h1
    exact ⟨A.Dt b, 59 + 1, A.okDt b (A.okDy A.mixed A.okDht), by rw [callN_succ (fn := A.c4) rfl]; exact hr⟩
set_option maxRecDepth 100000 in
theorem duesNeeded_lifted (os : Os) (started : os.Started) (H : Type) (enc : TypeId × Value → H) :
    ReturnsInHanded {} Tryd.checked os 4 .any (fun w args => (Rows.duesNeededSpec.pre enc Tryd.prog Tryd.f4 [] false w args ∧ laidMetH Tryd.prog A.tabs4 w) ∧ sizedMet enc Tryd.prog Tryd.f4 (OpenSpec.ofChange Rows.duesNeededSpec) false w args)
      (Rows.duesNeededSpec.post enc Tryd.prog Tryd.f4 false true false false) := by
  refine returnsInHanded_of_change_and (C := Tryd.checked) (X := fun w _ => laidMetH Tryd.prog A.tabs4 w) (fun _ _ _ hh h => h.of_heap hh) A.own1 started (by kernel_rfl) Tryd.func4
    (ChangeSpec.witness_shaped (enc := enc) (C := Tryd.checked) (os := os) (X := fun w _ => laidMetH Tryd.prog A.tabs4 w) false (World.laidAll Tryd.prog os A.tabs4) #[.agg #[.int .i64 0, .int .i64 0, .slice none 0 0, .string ⟨#[]⟩, .slice none 0 0, .int .i64 0, .int .i64 0, .slice none 0 0, .bool false]] 8 (World.laidAll_os _ _ _) (World.shaped_of_ZipB (by kernel_rfl) (by kernel_rfl)) (by kernel_rfl) (by kernel_rfl) (by kernel_rfl) (A.tabs4_met os _)) ?_
  obtain ⟨g0, hp0, hg0⟩ := duesNeeded_pure
  intro W base args ds gs before hval hW _ _ hx _
  have hW' := hW
  have hT : TabOK Tryd.prog W (fun _ => False) := by
    rw [MakeChecks.laidMetH_plain _ _ _ (by kernel_rfl)] at hx
    obtain ⟨ps, hl, -, -⟩ := hx
    exact A.tab_ok hl A.tabs4_pow
  obtain ⟨p, q, hA, hV, -, -, -⟩ := hW
  obtain ⟨rfl, rfl⟩ := trodVars_none hV
  have hty : tyArgs Tryd.prog [A.sagaTy] Tryd.f4.params.toList = true := by rw [Tryd.params4]; kernel_rfl
  obtain ⟨c, hc⟩ : ∃ c, Tryd.f4.body = some c := by
    cases h : Tryd.f4.body with
    | some c => exact ⟨c, rfl⟩
    | none => exact absurd (show Tryd.f4.body.isSome = true by kernel_rfl) (by rw [h]; decide)
  have hds : ds.length = 1 := by
    have hl := hA
    rw [Tryd.params4] at hl
    obtain ⟨_, _, -, rfl, -⟩ := trodAll_one hl
    rfl
  refine (law_calls (H := H) (enc := enc) Tryd.func4 (by decide +kernel) hc hp0 hty hg0 hA (fun j t v ht hv => hval j t v ht hv) hT).mono ?_
  rintro e W' ⟨rfl, hk⟩
  refine ⟨_, rfl, law_post hW' rfl A.laidOut hty (show Tryd.f4.resultTypes = #[4] by kernel_rfl) Tryd.underlying4 ?_ ?_ ?_ hk⟩
  all_goals
    match ds, hds with | [d], _ => rfl
theorem duesNeeded_j1 : Tryd.prog.inPlace 4 = Rows.duesNeededRow.inPlace := by kernel_rfl
theorem duesNeeded_j2 : Tryd.prog.unfollowed 4 = Rows.duesNeededRow.unfollowed := by kernel_rfl
theorem duesNeeded_j3 : Tryd.prog.recurses 4 = Rows.duesNeededRow.recurses := by kernel_rfl
theorem duesNeeded_j4 : Tryd.prog.varsNamed 4 = Rows.duesNeededRow.named := by kernel_rfl
theorem duesNeeded_closed : joinedFacts Tryd.prog 4 Tryd.f4 Rows.duesNeededSpec Rows.duesNeededRow = true := by
  unfold joinedFacts
  rw [duesNeeded_j1, duesNeeded_j2, duesNeeded_j3, duesNeeded_j4]
  kernel_rfl
theorem duesNeeded_holds : Rows.DuesNeededSaid :=
  OpenClaim.holds_of_wide 4 Tryd.f4 rfl rfl rfl rfl rfl rfl rfl ⟨rfl, rfl, rfl, rfl, rfl⟩ rfl rfl rfl rfl rfl (by kernel_rfl) Tryd.func4 duesNeeded_closed
    (of_decide_eq_true (by kernel_rfl)) (by unfold Func.isWrapper; first | (rw [if_pos (by decide +kernel)]; kernel_rfl) | (rw [if_neg (by decide +kernel)]; exact ⟨rfl, rfl⟩))
    (fun os started H enc _ => duesNeeded_lifted os started H enc)
theorem duesNeeded_card : Rows.DuesNeededCardSaid :=
  Claim7.holds_tied_plain_at .later [] [.data, .data, .data] true (true, "784be6ee7f2bc1d94ac668ea5bce07810f0107289e5f1f261d6476d81d6f16a9") false
    duesNeeded_holds (fun _ h => by cases h) (by kernel_rfl) (fun _ h => by cases h) duesNeeded_row_tie rfl ⟨rfl, rfl⟩ (by kernel_rfl) rfl
    (fun f fn hf hfn => by
      obtain rfl : f = 4 := Option.some.inj ((show Tryd.prog.funcNamed "entente/ententelaw27.DuesNeeded" = some 4 by kernel_rfl).symm.trans hf) |>.symm
      obtain rfl : fn = Tryd.f4 := (Option.some.inj (Tryd.func4.symm.trans hfn)).symm
      exact ⟨by kernel_rfl, fun j t ht => by
        rw [Tryd.params4] at ht
        have hm : t ∈ [50] := by simpa using Array.mem_of_getElem? ht
        have hall : ([50].all fun u => !Tryd.prog.wantsStandIn u) = true := by kernel_rfl
        exact (show Tryd.prog.wantsStandIn t = false by simpa using List.all_eq_true.1 hall t hm)⟩)
    (by kernel_rfl)
#print axioms duesNeeded_card
end Go.Proofs.YtkjiaijkdefkgaaDoor
