/- What the walks ask of the program: strings compared, the tables that are laid. -/
import Derived.Test.YtlhageadjmoajaaGreatDoorPR
import Derived.Test.YtlhageadjmoajaaGreatDoorChecked
import Derived.Test.YtlhageadjmoajaaGreatDoorRows
import Derived.Test.YtlhageadjmoajaaGreatDoorTie
import Derived.Test.YtlhageadjmoajaaGreatDoorCards
import Derived.Lib.Strings
import Derived.Lib.Slices
import Derived.Lib.Walk
import Derived.Lib.Bytealg
import Derived.ProofKit
import Derived.LaidMore
import Derived.Lay
import Derived.OpenShut
import Derived.Stop.Joined
namespace Go.Proofs.YtlhageadjmoajaaGreatDoor.A
open Go Go.AM Go.Proofs
set_option maxHeartbeats 1000000 in
set_option maxRecDepth 100000 in
theorem cmp216 (a b : ByteArray) (w : World) :
    Calls Tryz.prog 257 #[.string a, .string b] w fun e w' => e = .returned (.int .i64 (Lib.compareBytes a.data.toList b.data.toList)) ∧ w' = w := by
  go_enter Tryz.func257, Tryz.ntmps257
  go_wp2
  rw [run_callFunc_extern Tryz.func284 (by kernel_rfl) (by kernel_rfl) (by kernel_rfl) (e := Extern.BytealgCompare.compare) (by kernel_rfl), Lib.run_compareString]
  simp only [Result.andThen]
  rw [Oper.upon_value]
  go_wp2
  go_ret
  exact ⟨rfl, rfl⟩
set_option maxHeartbeats 1000000 in
theorem cmp192 (a b : ByteArray) (w : World) :
    Calls Tryz.prog 210 #[.string a, .string b] w fun e w' => e = .returned (.int .i64 (Lib.compareBytes a.data.toList b.data.toList)) ∧ w' = w := by
  go_enter Tryz.func210, Tryz.ntmps210
  go_wp2_with (go_at_call 257; refine (cmp216 _ _ _).mono ?_; rintro e w' ⟨rfl, rfl⟩)
  go_ret
  exact ⟨rfl, rfl⟩
theorem compare_eq : ∀ a b : List UInt8, Lib.compareBytes a b = cmpB a b
  | [], [] => rfl
  | [], _ :: _ => by simp [Lib.compareBytes, cmpB, Op.bytesLess]
  | _ :: _, [] => by simp [Lib.compareBytes, cmpB, Op.bytesLess]
  | x :: a, y :: b => by
    have ih := compare_eq a b
    simp only [Lib.compareBytes]
    unfold cmpB at ih ⊢
    simp only [Op.bytesLess]
    by_cases h1 : x < y
    · have hne : ((x :: a) == (y :: b)) = false := beq_eq_false_iff_ne.2 fun e => by
        rw [List.cons.injEq] at e
        rw [e.1] at h1
        exact absurd h1 (UInt8.lt_irrefl _)
      rw [if_pos h1, hne, decide_eq_true h1]
      rfl
    · rw [if_neg h1, decide_eq_false h1]
      by_cases h2 : y < x
      · have hxy : (x == y) = false := beq_eq_false_iff_ne.2 fun e => by
          rw [e] at h2
          exact absurd h2 (UInt8.lt_irrefl _)
        have hne : ((x :: a) == (y :: b)) = false := by
          rw [List.cons_beq_cons, hxy]; rfl
        rw [if_pos h2, hne, hxy]
        rfl
      · have e : x = y := by
          apply UInt8.toNat_inj.1
          have e1 := UInt8.not_lt.1 h1
          have e2 := UInt8.not_lt.1 h2
          rw [UInt8.le_iff_toNat_le] at e1 e2
          omega
        subst e
        rw [if_neg h2, ih, List.cons_beq_cons, beq_self_eq_true, Bool.true_and, Bool.true_and, Bool.false_or]
theorem pure192 : PureOK Tryz.prog 210 g192 := fun _ ds rs h w X us hX hT hr => by
  unfold g192 at h
  split at h
  · rename_i a b
    cases h
    obtain ⟨hl, hr⟩ := hr
    obtain ⟨l⟩ := us
    match l, hl with
    | [u, v], _ =>
      have h1 := hr 0 _ u rfl rfl
      have h2 := hr 1 _ v rfl rfl
      cases h1
      cases h2
      obtain ⟨c, hc⟩ : ∃ c, Tryz.f210.body = some c := by
        cases h : Tryz.f210.body with
        | some c => exact ⟨c, rfl⟩
        | none => exact absurd (show Tryz.f210.body.isSome = true by kernel_rfl) (by rw [h]; decide)
      refine .inl ⟨MuLone.run_callFunc_enter Tryz.func210 (by decide +kernel) hc _ w, (cmp192 _ _ w).mono ?_⟩
      rintro e w' ⟨rfl, rfl⟩
      refine ⟨_, rfl, ?_, Keep.refl _ _⟩
      rw [compare_eq]
      simp only [retV, RV]
      exact .int _ _
  · cases h
theorem okE0 : EnvOK Tryz.prog E0 := EnvOK.of_table tableOK
theorem own1 : ownKnob Tryz.prog.godebug = none := by kernel_rfl
theorem laidOut : laidOutB Tryz.prog = true := by kernel_rfl
theorem tab_ok {W : World} {l : List (String × DataW Unit)} {ps : List MemPlace} (h : DataW.LaidVars Tryz.prog W l ps) (hm : ("internal/strconv.uint64pow10", powW) ∈ l) : TabOK Tryz.prog W (fun _ => False) :=
  tab_okP (gN := 1) (tN := 383) (eN := 325) (by kernel_rfl) (by kernel_rfl) (by kernel_rfl) (by kernel_rfl) (by kernel_rfl) (by kernel_rfl) h hm
def tabsL : List (String × DataW Unit) := Rows.parentVerdictsRow.laid
theorem tabsL_met (os : Os) (args : Array Value) : laidMetH Tryz.prog tabsL ((World.laidAll Tryz.prog os tabsL).forCall (fun _ _ => 0) ⟨#[], args, []⟩).memory := by
  rw [MakeChecks.laidMetH_plain _ _ _ (by kernel_rfl)]
  exact laidMet_laidAll _ (by kernel_rfl) (by kernel_rfl)
theorem tabsL_pow : ("internal/strconv.uint64pow10", powW) ∈ tabsL := .tail _ (.tail _ (.head _))
theorem okMtS : EnvOK Tryz.prog Mt := chainMt mixed okE0 pure192
end Go.Proofs.YtlhageadjmoajaaGreatDoor.A
