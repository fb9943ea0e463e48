/-
  BookOrder: whatever the input, the law tells true, and the input reads as it did. Under the row's conditions alone.
-/
import Derived.Test.YtlhageadjmoajaaDoorSw
import Derived.SevenTiedAt
namespace Go.Proofs.YtlhageadjmoajaaDoor
open Go Go.AM Go.Proofs Go.ChangeShapes

theorem bookOrder_pure : ∃ g, PureOK Tryd.prog 5 g ∧ ∀ xs, WFs [.sl A.defTy, .sl A.defTy] xs → (g xs).eval = some [.bool true] := A.law_trueP A.mixed A.okBiS fun ds h => by
  match ds, h with
  | [x, y], h =>
    obtain ⟨n1, l1, rfl, b1, h1⟩ := h.1.inv_sl
    obtain ⟨n2, l2, rfl, b2, h2⟩ := h.2.1.inv_sl
    exact ⟨399 + 1, by rw [callN_succ (fn := A.c5) rfl]; exact A.border 359 399 n1 n2 l1 l2 (A.books_in h1) (A.books_in h2) (by omega)⟩
set_option maxRecDepth 100000 in
theorem bookOrder_lifted (os : Os) (started : os.Started) (H : Type) (enc : TypeId × Value → H) :
    ReturnsInHanded {} Tryd.checked os 5 .any (fun w args => (Rows.bookOrderSpec.pre enc Tryd.prog Tryd.f5 [] false w args ∧ laidMetH Tryd.prog A.tabsL w) ∧ sizedMet enc Tryd.prog Tryd.f5 (OpenSpec.ofChange Rows.bookOrderSpec) false w args)
      (Rows.bookOrderSpec.post enc Tryd.prog Tryd.f5 false true false false) := by
  refine returnsInHanded_of_change_and (C := Tryd.checked) (X := fun w _ => laidMetH Tryd.prog A.tabsL w) (fun _ _ _ hh h => h.of_heap hh) A.own1 started (by kernel_rfl) Tryd.func5
    (ChangeSpec.witness_shaped (enc := enc) (C := Tryd.checked) (os := os) (X := fun w _ => laidMetH Tryd.prog A.tabsL w) false (World.laidAll Tryd.prog os A.tabsL) #[.slice none 0 0, .slice none 0 0] 8 (World.laidAll_os _ _ _) (World.shaped_of_ZipB (by kernel_rfl) (by kernel_rfl)) (by kernel_rfl) (by kernel_rfl) (by kernel_rfl) (A.tabsL_met os _)) ?_
  obtain ⟨g0, hp0, hg0⟩ := bookOrder_pure
  intro W base args ds gs before hval hW _ _ hx _
  have hW' := hW
  have hT : TabOK Tryd.prog W (fun _ => False) := by
    exact A.tab_ok W
  obtain ⟨p, q, hA, hV, -, -, -⟩ := hW
  obtain ⟨rfl, rfl⟩ := trodVars_none hV
  have hty : tyArgs Tryd.prog [.sl A.defTy, .sl A.defTy] Tryd.f5.params.toList = true := by rw [Tryd.params5]; kernel_rfl
  obtain ⟨c, hc⟩ : ∃ c, Tryd.f5.body = some c := by
    cases h : Tryd.f5.body with
    | some c => exact ⟨c, rfl⟩
    | none => exact absurd (show Tryd.f5.body.isSome = true by kernel_rfl) (by rw [h]; decide)
  have hds : ds.length = 2 := by
    have hl := hA
    rw [Tryd.params5] at hl
    obtain ⟨_, _, _, _, _, _, -, rfl, -⟩ := trodAll_two hl
    rfl
  refine (law_calls (H := H) (enc := enc) Tryd.func5 (by decide +kernel) hc hp0 hty hg0 hA (fun j t v ht hv => hval j t v ht hv) hT).mono ?_
  rintro e W' ⟨rfl, hk⟩
  refine ⟨_, rfl, law_post hW' rfl A.laidOut hty (show Tryd.f5.resultTypes = #[4] by kernel_rfl) Tryd.underlying4 ?_ ?_ ?_ hk⟩
  all_goals
    match ds, hds with | [d1, d2], _ => rfl
theorem bookOrder_j1 : Tryd.prog.inPlace 5 = Rows.bookOrderRow.inPlace := by kernel_rfl
theorem bookOrder_j2 : Tryd.prog.unfollowed 5 = Rows.bookOrderRow.unfollowed := by kernel_rfl
theorem bookOrder_j3 : Tryd.prog.recurses 5 = Rows.bookOrderRow.recurses := by kernel_rfl
theorem bookOrder_j4 : Tryd.prog.varsNamed 5 = Rows.bookOrderRow.named := by kernel_rfl
theorem bookOrder_closed : joinedFacts Tryd.prog 5 Tryd.f5 Rows.bookOrderSpec Rows.bookOrderRow = true := by
  unfold joinedFacts
  rw [bookOrder_j1, bookOrder_j2, bookOrder_j3, bookOrder_j4]
  kernel_rfl
theorem bookOrder_holds : Rows.BookOrderSaid :=
  OpenClaim.holds_of_wide 5 Tryd.f5 rfl rfl rfl rfl rfl rfl rfl ⟨rfl, rfl, rfl, rfl, rfl⟩ rfl rfl rfl rfl rfl (by kernel_rfl) Tryd.func5 bookOrder_closed
    (of_decide_eq_true (by kernel_rfl)) (by unfold Func.isWrapper; first | (rw [if_pos (by decide +kernel)]; kernel_rfl) | (rw [if_neg (by decide +kernel)]; exact ⟨rfl, rfl⟩))
    (fun os started H enc _ => bookOrder_lifted os started H enc)
theorem bookOrder_w : Rows.bookOrderRow.wfByText (OpenSpec.ofChange Rows.bookOrderSpec) = true := by kernel_rfl
theorem bookOrder_m : Tryd.pinned.checked.prog.mainIs = some (true, "75674eb36a8db61e29465fd8feaee9a0a2d78f83b9e6fc84325091fd70e36125".toList) := by kernel_rfl
theorem bookOrder_l : false = Tryd.pinned.checked.prog.looks [] := by kernel_rfl
theorem bookOrder_g : false = Rows.bookOrderRow.goesBy Tryd.pinned.checked.prog := by kernel_rfl
theorem bookOrder_f : Tryd.prog.funcNamed "entente/ententelaw10.BookOrder" = some 5 := by kernel_rfl
theorem bookOrder_s : ([22, 22].all fun u => !Tryd.prog.wantsStandIn u) = true := by kernel_rfl
theorem bookOrder_card : Rows.BookOrderCardSaid :=
  Claim7.holds_tied_plain_at .later [] [.data, .pinned] true (true, "75674eb36a8db61e29465fd8feaee9a0a2d78f83b9e6fc84325091fd70e36125") false
    bookOrder_holds (fun _ h => by cases h) bookOrder_w (fun _ h => by cases h) bookOrder_row_tie rfl ⟨rfl, rfl⟩ bookOrder_m rfl
    (fun f fn hf hfn => by
      obtain rfl : f = 5 := Option.some.inj (bookOrder_f.symm.trans hf) |>.symm
      obtain rfl : fn = Tryd.f5 := (Option.some.inj (Tryd.func5.symm.trans hfn)).symm
      exact ⟨bookOrder_l, fun j t ht => by
        rw [Tryd.params5] at ht
        have hm : t ∈ [22, 22] := by simpa using Array.mem_of_getElem? ht
        exact (show Tryd.prog.wantsStandIn t = false by simpa using List.all_eq_true.1 bookOrder_s t hm)⟩)
    bookOrder_g
#print axioms bookOrder_card
end Go.Proofs.YtlhageadjmoajaaDoor
