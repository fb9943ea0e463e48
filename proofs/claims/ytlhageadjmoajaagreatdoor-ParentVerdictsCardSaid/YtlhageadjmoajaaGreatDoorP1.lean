/-
  ParentVerdicts: whatever the input, the law tells true, and the input reads as it did. Under the row's conditions alone.
-/
import Derived.Test.YtlhageadjmoajaaGreatDoorSw
import Derived.SevenTiedAt
namespace Go.Proofs.YtlhageadjmoajaaGreatDoor
open Go Go.AM Go.Proofs Go.ChangeShapes

theorem parentVerdicts_pure : ∃ g, PureOK Tryz.prog 4 g ∧ ∀ xs, WFs [A.stateTy, A.idTy] xs → (g xs).eval = some [.bool true] := A.law_trueP A.mixed (A.rootX A.mixed A.okE0 A.okMtS) fun ds h => by
  match ds, h with
  | [x, y], h =>
    obtain ⟨og, ep, co, na, nm, nb, ns, ac, ms, bs, ss, rfl, h1, h2⟩ := A.state_in h.1
    obtain ⟨r, q, nil, es, rfl, h3⟩ := A.id_in h.2.1
    exact ⟨59 + 1, by rw [callN_succ (fn := A.c4) rfl]; exact A.pverd 19 59 og ep co na nm nb ns ac ms bs ss r q nil es h1 h2 h3⟩
set_option maxRecDepth 100000 in
theorem parentVerdicts_lifted (os : Os) (started : os.Started) (H : Type) (enc : TypeId × Value → H) :
    ReturnsInHanded {} Tryz.checked os 4 .any (fun w args => (Rows.parentVerdictsSpec.pre enc Tryz.prog Tryz.f4 [] false w args ∧ laidMetH Tryz.prog A.tabsL w) ∧ sizedMet enc Tryz.prog Tryz.f4 (OpenSpec.ofChange Rows.parentVerdictsSpec) false w args)
      (Rows.parentVerdictsSpec.post enc Tryz.prog Tryz.f4 false true false false) := by
  refine returnsInHanded_of_change_and (C := Tryz.checked) (X := fun w _ => laidMetH Tryz.prog A.tabsL w) (fun _ _ _ hh h => h.of_heap hh) A.own1 started (by kernel_rfl) Tryz.func4
    (ChangeSpec.witness_shaped (enc := enc) (C := Tryz.checked) (os := os) (X := fun w _ => laidMetH Tryz.prog A.tabsL w) false (World.laidAll Tryz.prog os A.tabsL) #[.agg #[.int .i64 0, .int .i64 0, .int .i64 0, .slice none 0 0, .slice none 0 0, .slice none 0 0, .slice none 0 0], .agg #[.int .i64 0, .int .i64 0, .slice none 0 0]] 8 (World.laidAll_os _ _ _) (World.shaped_of_ZipB (by kernel_rfl) (by kernel_rfl)) (by kernel_rfl) (by kernel_rfl) (by kernel_rfl) (A.tabsL_met os _)) ?_
  obtain ⟨g0, hp0, hg0⟩ := parentVerdicts_pure
  intro W base args ds gs before hval hW _ _ hx _
  have hW' := hW
  have hT : TabOK Tryz.prog W (fun _ => False) := by
    rw [MakeChecks.laidMetH_plain _ _ _ (by kernel_rfl)] at hx
    obtain ⟨ps, hl, -, -⟩ := hx
    exact A.tab_ok hl A.tabsL_pow
  obtain ⟨p, q, hA, hV, -, -, -⟩ := hW
  obtain ⟨rfl, rfl⟩ := trodVars_none hV
  have hty : tyArgs Tryz.prog [A.stateTy, A.idTy] Tryz.f4.params.toList = true := by rw [Tryz.params4]; kernel_rfl
  obtain ⟨c, hc⟩ : ∃ c, Tryz.f4.body = some c := by
    cases h : Tryz.f4.body with
    | some c => exact ⟨c, rfl⟩
    | none => exact absurd (show Tryz.f4.body.isSome = true by kernel_rfl) (by rw [h]; decide)
  have hds : ds.length = 2 := by
    have hl := hA
    rw [Tryz.params4] at hl
    obtain ⟨_, _, _, _, _, _, -, rfl, -⟩ := trodAll_two hl
    rfl
  refine (law_calls (H := H) (enc := enc) Tryz.func4 (by decide +kernel) hc hp0 hty hg0 hA (fun j t v ht hv => hval j t v ht hv) hT).mono ?_
  rintro e W' ⟨rfl, hk⟩
  refine ⟨_, rfl, law_post hW' rfl A.laidOut hty (show Tryz.f4.resultTypes = #[4] by kernel_rfl) Tryz.underlying4 ?_ ?_ ?_ hk⟩
  all_goals
    match ds, hds with | [d1, d2], _ => rfl
theorem parentVerdicts_j1 : Tryz.prog.inPlace 4 = Rows.parentVerdictsRow.inPlace := by kernel_rfl
theorem parentVerdicts_j2 : Tryz.prog.unfollowed 4 = Rows.parentVerdictsRow.unfollowed := by kernel_rfl
theorem parentVerdicts_j3 : Tryz.prog.recurses 4 = Rows.parentVerdictsRow.recurses := by kernel_rfl
theorem parentVerdicts_j4 : Tryz.prog.varsNamed 4 = Rows.parentVerdictsRow.named := by kernel_rfl
theorem parentVerdicts_closed : joinedFacts Tryz.prog 4 Tryz.f4 Rows.parentVerdictsSpec Rows.parentVerdictsRow = true := by
  unfold joinedFacts
  rw [parentVerdicts_j1, parentVerdicts_j2, parentVerdicts_j3, parentVerdicts_j4]
  kernel_rfl
theorem parentVerdicts_holds : Rows.ParentVerdictsSaid :=
  OpenClaim.holds_of_wide 4 Tryz.f4 rfl rfl rfl rfl rfl rfl rfl ⟨rfl, rfl, rfl, rfl, rfl⟩ rfl rfl rfl rfl rfl (by kernel_rfl) Tryz.func4 parentVerdicts_closed
    (of_decide_eq_true (by kernel_rfl)) (by unfold Func.isWrapper; first | (rw [if_pos (by decide +kernel)]; kernel_rfl) | (rw [if_neg (by decide +kernel)]; exact ⟨rfl, rfl⟩))
    (fun os started H enc _ => parentVerdicts_lifted os started H enc)
theorem parentVerdicts_w : Rows.parentVerdictsRow.wfByText (OpenSpec.ofChange Rows.parentVerdictsSpec) = true := by kernel_rfl
theorem parentVerdicts_m : Tryz.pinned.checked.prog.mainIs = some (true, "cbc4e5bba46c3e835b20d6d27e5e77731e29c7508046a201e14a5dc6895e36de".toList) := by kernel_rfl
theorem parentVerdicts_l : false = Tryz.pinned.checked.prog.looks [] := by kernel_rfl
theorem parentVerdicts_g : false = Rows.parentVerdictsRow.goesBy Tryz.pinned.checked.prog := by kernel_rfl
theorem parentVerdicts_f : Tryz.prog.funcNamed "entente/ententelaw26.ParentVerdicts" = some 4 := by kernel_rfl
theorem parentVerdicts_s : ([29, 32].all fun u => !Tryz.prog.wantsStandIn u) = true := by kernel_rfl
theorem parentVerdicts_card : Rows.ParentVerdictsCardSaid :=
  Claim7.holds_tied_plain_at .later [] [.data, .data, .data] true (true, "cbc4e5bba46c3e835b20d6d27e5e77731e29c7508046a201e14a5dc6895e36de") false
    parentVerdicts_holds (fun _ h => by cases h) parentVerdicts_w (fun _ h => by cases h) parentVerdicts_row_tie rfl ⟨rfl, rfl⟩ parentVerdicts_m rfl
    (fun f fn hf hfn => by
      obtain rfl : f = 4 := Option.some.inj (parentVerdicts_f.symm.trans hf) |>.symm
      obtain rfl : fn = Tryz.f4 := (Option.some.inj (Tryz.func4.symm.trans hfn)).symm
      exact ⟨parentVerdicts_l, fun j t ht => by
        rw [Tryz.params4] at ht
        have hm : t ∈ [29, 32] := by simpa using Array.mem_of_getElem? ht
        exact (show Tryz.prog.wantsStandIn t = false by simpa using List.all_eq_true.1 parentVerdicts_s t hm)⟩)
    parentVerdicts_g
#print axioms parentVerdicts_card
end Go.Proofs.YtlhageadjmoajaaGreatDoor
