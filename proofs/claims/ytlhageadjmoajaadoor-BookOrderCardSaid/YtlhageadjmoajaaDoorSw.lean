/- What the walks ask of the program: strings compared, the tables that are laid. -/
import Derived.Test.YtlhageadjmoajaaDoorPB
import Derived.Test.YtlhageadjmoajaaDoorChecked
import Derived.Test.YtlhageadjmoajaaDoorRows
import Derived.Test.YtlhageadjmoajaaDoorTie
import Derived.Test.YtlhageadjmoajaaDoorCards
import Derived.Lib.Strings
import Derived.Lib.Slices
import Derived.Lib.Walk
import Derived.Lib.Bytealg
import Derived.ProofKit
import Derived.LaidMore
import Derived.Lay
import Derived.OpenShut
import Derived.Stop.Joined
namespace Go.Proofs.YtlhageadjmoajaaDoor.A
open Go Go.AM Go.Proofs
set_option maxHeartbeats 1000000 in
set_option maxRecDepth 100000 in
theorem cmp216 (a b : ByteArray) (w : World) :
    Calls Tryd.prog 40 #[.string a, .string b] w fun e w' => e = .returned (.int .i64 (Lib.compareBytes a.data.toList b.data.toList)) ∧ w' = w := by
  go_enter Tryd.func40, Tryd.ntmps40
  go_wp2
  rw [run_callFunc_extern Tryd.func57 (by kernel_rfl) (by kernel_rfl) (by kernel_rfl) (e := Extern.BytealgCompare.compare) (by kernel_rfl), Lib.run_compareString]
  simp only [Result.andThen]
  rw [Oper.upon_value]
  go_wp2
  go_ret
  exact ⟨rfl, rfl⟩
set_option maxHeartbeats 1000000 in
theorem cmp192 (a b : ByteArray) (w : World) :
    Calls Tryd.prog 27 #[.string a, .string b] w fun e w' => e = .returned (.int .i64 (Lib.compareBytes a.data.toList b.data.toList)) ∧ w' = w := by
  go_enter Tryd.func27, Tryd.ntmps27
  go_wp2_with (go_at_call 40; refine (cmp216 _ _ _).mono ?_; rintro e w' ⟨rfl, rfl⟩)
  go_ret
  exact ⟨rfl, rfl⟩
theorem compare_eq : ∀ a b : List UInt8, Lib.compareBytes a b = cmpB a b
  | [], [] => rfl
  | [], _ :: _ => by simp [Lib.compareBytes, cmpB, Op.bytesLess]
  | _ :: _, [] => by simp [Lib.compareBytes, cmpB, Op.bytesLess]
  | x :: a, y :: b => by
    have ih := compare_eq a b
    simp only [Lib.compareBytes]
    unfold cmpB at ih ⊢
    simp only [Op.bytesLess]
    by_cases h1 : x < y
    · have hne : ((x :: a) == (y :: b)) = false := beq_eq_false_iff_ne.2 fun e => by
        rw [List.cons.injEq] at e
        rw [e.1] at h1
        exact absurd h1 (UInt8.lt_irrefl _)
      rw [if_pos h1, hne, decide_eq_true h1]
      rfl
    · rw [if_neg h1, decide_eq_false h1]
      by_cases h2 : y < x
      · have hxy : (x == y) = false := beq_eq_false_iff_ne.2 fun e => by
          rw [e] at h2
          exact absurd h2 (UInt8.lt_irrefl _)
        have hne : ((x :: a) == (y :: b)) = false := by
          rw [List.cons_beq_cons, hxy]; rfl
        rw [if_pos h2, hne, hxy]
        rfl
      · have e : x = y := by
          apply UInt8.toNat_inj.1
          have e1 := UInt8.not_lt.1 h1
          have e2 := UInt8.not_lt.1 h2
          rw [UInt8.le_iff_toNat_le] at e1 e2
          omega
        subst e
        rw [if_neg h2, ih, List.cons_beq_cons, beq_self_eq_true, Bool.true_and, Bool.true_and, Bool.false_or]
theorem pure192 : PureOK Tryd.prog 27 g192 := fun _ ds rs h w X us hX hT hr => by
  unfold g192 at h
  split at h
  · rename_i a b
    cases h
    obtain ⟨hl, hr⟩ := hr
    obtain ⟨l⟩ := us
    match l, hl with
    | [u, v], _ =>
      have h1 := hr 0 _ u rfl rfl
      have h2 := hr 1 _ v rfl rfl
      cases h1
      cases h2
      obtain ⟨c, hc⟩ : ∃ c, Tryd.f27.body = some c := by
        cases h : Tryd.f27.body with
        | some c => exact ⟨c, rfl⟩
        | none => exact absurd (show Tryd.f27.body.isSome = true by kernel_rfl) (by rw [h]; decide)
      refine .inl ⟨MuLone.run_callFunc_enter Tryd.func27 (by decide +kernel) hc _ w, (cmp192 _ _ w).mono ?_⟩
      rintro e w' ⟨rfl, rfl⟩
      refine ⟨_, rfl, ?_, Keep.refl _ _⟩
      rw [compare_eq]
      simp only [retV, RV]
      exact .int _ _
  · cases h
theorem okE0 : EnvOK Tryd.prog E0 := EnvOK.of_table tableOK
theorem own1 : ownKnob Tryd.prog.godebug = none := by kernel_rfl
theorem laidOut : laidOutB Tryd.prog = true := by kernel_rfl
theorem tab_ok (W : World) : TabOK Tryd.prog W (fun _ => False) := by
  have h : tabOf Tryd.prog = [] := by kernel_rfl
  intro p hp
  rw [h] at hp
  cases hp
def tabsL : List (String × DataW Unit) := Rows.bookOrderRow.laid
theorem tabsL_met (os : Os) (args : Array Value) : laidMetH Tryd.prog tabsL ((World.laidAll Tryd.prog os tabsL).forCall (fun _ _ => 0) ⟨#[], args, []⟩).memory := by
  rw [MakeChecks.laidMetH_plain _ _ _ (by kernel_rfl)]
  exact laidMet_laidAll _ (by kernel_rfl) (by kernel_rfl)
def rhoI : Shelf.Ren := ⟨fun k => match k with | 22 => 36 | 29 => 44 | 30 => 45 | _ => 0, fun k => match k with | 3 => 3 | 4 => 4 | 9 => 27 | 24 => 22 | _ => 0, id⟩
theorem insI : InsAt Tryd.prog rhoI defSh := ins_mk mixed (by kernel_rfl) (by kernel_rfl) (by kernel_rfl) (by kernel_rfl) (by kernel_rfl) (by kernel_rfl) (by kernel_rfl) (by kernel_rfl) (by kernel_rfl) (by kernel_rfl) (by kernel_rfl) (by kernel_rfl) (by kernel_rfl) (by kernel_rfl) (by kernel_rfl) (zs := [.str [], .sl stepSh true []]) (by kernel_rfl) (by kernel_rfl) (by kernel_rfl) (by decide +kernel)
theorem fnI : FnOK Tryd.prog 36 (Cins defSh) := fnIns insI
theorem okMqS : EnvOK Tryd.prog Mq := chainMqB mixed okE0 pure192
theorem okBfS : EnvOK Tryd.prog Bf := rootBf mixed okE0 okMqS trivial pure192 fnI
theorem okBiS : EnvOK Tryd.prog Bi := rootBi mixed okE0 okMqS trivial pure192 fnI
end Go.Proofs.YtlhageadjmoajaaDoor.A
