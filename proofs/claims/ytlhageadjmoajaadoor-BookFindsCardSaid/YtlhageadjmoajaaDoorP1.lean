/-
  BookFinds: whatever the input, the law tells true, and the input reads as it did. Under the row's conditions alone.
-/
import Derived.Test.YtlhageadjmoajaaDoorSw
import Derived.SevenTiedAt
namespace Go.Proofs.YtlhageadjmoajaaDoor
open Go Go.AM Go.Proofs Go.ChangeShapes

theorem bookFinds_pure : ∃ g, PureOK Tryd.prog 3 g ∧ ∀ xs, WFs [.sl A.defTy, .str] xs → (g xs).eval = some [.bool true] := A.law_trueP A.mixed A.okBfS fun ds h => by
  match ds, h with
  | [x, y], h =>
    obtain ⟨n1, l1, rfl, b1, h1⟩ := h.1.inv_sl
    obtain ⟨s, rfl⟩ := h.2.1.inv_str
    exact ⟨59 + 1, by rw [callN_succ (fn := A.c3) rfl]; exact A.bfinds 19 59 n1 l1 s (A.books_in h1)⟩
set_option maxRecDepth 100000 in
theorem bookFinds_lifted (os : Os) (started : os.Started) (H : Type) (enc : TypeId × Value → H) :
    ReturnsInHanded {} Tryd.checked os 3 .any (fun w args => (Rows.bookFindsSpec.pre enc Tryd.prog Tryd.f3 [] false w args ∧ laidMetH Tryd.prog A.tabsL w) ∧ sizedMet enc Tryd.prog Tryd.f3 (OpenSpec.ofChange Rows.bookFindsSpec) false w args)
      (Rows.bookFindsSpec.post enc Tryd.prog Tryd.f3 false true false false) := by
  refine returnsInHanded_of_change_and (C := Tryd.checked) (X := fun w _ => laidMetH Tryd.prog A.tabsL w) (fun _ _ _ hh h => h.of_heap hh) A.own1 started (by kernel_rfl) Tryd.func3
    (ChangeSpec.witness_shaped (enc := enc) (C := Tryd.checked) (os := os) (X := fun w _ => laidMetH Tryd.prog A.tabsL w) false (World.laidAll Tryd.prog os A.tabsL) #[.slice none 0 0, .string default] 8 (World.laidAll_os _ _ _) (World.shaped_of_ZipB (by kernel_rfl) (by kernel_rfl)) (by kernel_rfl) (by kernel_rfl) (by kernel_rfl) (A.tabsL_met os _)) ?_
  obtain ⟨g0, hp0, hg0⟩ := bookFinds_pure
  intro W base args ds gs before hval hW _ _ hx _
  have hW' := hW
  have hT : TabOK Tryd.prog W (fun _ => False) := by
    exact A.tab_ok W
  obtain ⟨p, q, hA, hV, -, -, -⟩ := hW
  obtain ⟨rfl, rfl⟩ := trodVars_none hV
  have hty : tyArgs Tryd.prog [.sl A.defTy, .str] Tryd.f3.params.toList = true := by rw [Tryd.params3]; kernel_rfl
  obtain ⟨c, hc⟩ : ∃ c, Tryd.f3.body = some c := by
    cases h : Tryd.f3.body with
    | some c => exact ⟨c, rfl⟩
    | none => exact absurd (show Tryd.f3.body.isSome = true by kernel_rfl) (by rw [h]; decide)
  have hds : ds.length = 2 := by
    have hl := hA
    rw [Tryd.params3] at hl
    obtain ⟨_, _, _, _, _, _, -, rfl, -⟩ := trodAll_two hl
    rfl
  refine (law_calls (H := H) (enc := enc) Tryd.func3 (by decide +kernel) hc hp0 hty hg0 hA (fun j t v ht hv => hval j t v ht hv) hT).mono ?_
  rintro e W' ⟨rfl, hk⟩
  refine ⟨_, rfl, law_post hW' rfl A.laidOut hty (show Tryd.f3.resultTypes = #[4] by kernel_rfl) Tryd.underlying4 ?_ ?_ ?_ hk⟩
  all_goals
    match ds, hds with | [d1, d2], _ => rfl
theorem bookFinds_j1 : Tryd.prog.inPlace 3 = Rows.bookFindsRow.inPlace := by kernel_rfl
theorem bookFinds_j2 : Tryd.prog.unfollowed 3 = Rows.bookFindsRow.unfollowed := by kernel_rfl
theorem bookFinds_j3 : Tryd.prog.recurses 3 = Rows.bookFindsRow.recurses := by kernel_rfl
theorem bookFinds_j4 : Tryd.prog.varsNamed 3 = Rows.bookFindsRow.named := by kernel_rfl
theorem bookFinds_closed : joinedFacts Tryd.prog 3 Tryd.f3 Rows.bookFindsSpec Rows.bookFindsRow = true := by
  unfold joinedFacts
  rw [bookFinds_j1, bookFinds_j2, bookFinds_j3, bookFinds_j4]
  kernel_rfl
theorem bookFinds_holds : Rows.BookFindsSaid :=
  OpenClaim.holds_of_wide 3 Tryd.f3 rfl rfl rfl rfl rfl rfl rfl ⟨rfl, rfl, rfl, rfl, rfl⟩ rfl rfl rfl rfl rfl (by kernel_rfl) Tryd.func3 bookFinds_closed
    (of_decide_eq_true (by kernel_rfl)) (by unfold Func.isWrapper; first | (rw [if_pos (by decide +kernel)]; kernel_rfl) | (rw [if_neg (by decide +kernel)]; exact ⟨rfl, rfl⟩))
    (fun os started H enc _ => bookFinds_lifted os started H enc)
theorem bookFinds_w : Rows.bookFindsRow.wfByText (OpenSpec.ofChange Rows.bookFindsSpec) = true := by kernel_rfl
theorem bookFinds_m : Tryd.pinned.checked.prog.mainIs = some (true, "75674eb36a8db61e29465fd8feaee9a0a2d78f83b9e6fc84325091fd70e36125".toList) := by kernel_rfl
theorem bookFinds_l : false = Tryd.pinned.checked.prog.looks [] := by kernel_rfl
theorem bookFinds_g : false = Rows.bookFindsRow.goesBy Tryd.pinned.checked.prog := by kernel_rfl
theorem bookFinds_f : Tryd.prog.funcNamed "entente/ententelaw10.BookFinds" = some 3 := by kernel_rfl
theorem bookFinds_s : ([22, 9].all fun u => !Tryd.prog.wantsStandIn u) = true := by kernel_rfl
theorem bookFinds_card : Rows.BookFindsCardSaid :=
  Claim7.holds_tied_plain_at .later [] [.data, .pinned] true (true, "75674eb36a8db61e29465fd8feaee9a0a2d78f83b9e6fc84325091fd70e36125") false
    bookFinds_holds (fun _ h => by cases h) bookFinds_w (fun _ h => by cases h) bookFinds_row_tie rfl ⟨rfl, rfl⟩ bookFinds_m rfl
    (fun f fn hf hfn => by
      obtain rfl : f = 3 := Option.some.inj (bookFinds_f.symm.trans hf) |>.symm
      obtain rfl : fn = Tryd.f3 := (Option.some.inj (Tryd.func3.symm.trans hfn)).symm
      exact ⟨bookFinds_l, fun j t ht => by
        rw [Tryd.params3] at ht
        have hm : t ∈ [22, 9] := by simpa using Array.mem_of_getElem? ht
        exact (show Tryd.prog.wantsStandIn t = false by simpa using List.all_eq_true.1 bookFinds_s t hm)⟩)
    bookFinds_g
#print axioms bookFinds_card
end Go.Proofs.YtlhageadjmoajaaDoor
