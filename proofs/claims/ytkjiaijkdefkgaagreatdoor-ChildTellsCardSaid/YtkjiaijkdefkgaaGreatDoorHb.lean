/- Equations of the walk. -/
import Derived.Test.YtkjiaijkdefkgaaGreatDoorHa
import Derived.Test.YtkjiaijkdefkgaaGreatDoorGc
import Derived.KernelRfl

open Go Go.AM Go.Proofs
namespace Go.Proofs.YtkjiaijkdefkgaaGreatDoor.A
theorem e52 (m n : Nat) (r k r' k' : Int) (n1 n2 : Bool) (a b : List D) : Tree.out (enterM E13 (callN E13 (m+40)) n c93 [.d (.agg [.int .i64 r, .int .i64 k, .sl hopSh n1 a]), .d (.agg [.int .i64 r', .int .i64 k', .sl hopSh n2 b])] []) = bif decide (List.length a ≤ (1000000 : Nat)) then bif cmpI r r' != (0 : Int) then some [D.int .i64 (cmpI r r')] else bif cmpI k k' != (0 : Int) then some [D.int .i64 (cmpI k k')] else bif cmpHops a b != (0 : Int) then some [D.int .i64 (cmpHops a b)] else some [D.int .i64 0] else none := by kernel_rfl
end Go.Proofs.YtkjiaijkdefkgaaGreatDoor.A
/- Equations of the walk. -/
open Go Go.AM Go.Proofs
namespace Go.Proofs.YtkjiaijkdefkgaaGreatDoor.A
theorem e43t (m n : Nat) (es : List D) : Tree.eval (enterM E13 (callN E13 (m+40)) n c99 [.d (.sl hopSh true es)] []) = some (V.d (D.sl partSh true []), []) := by kernel_rfl
theorem e43f (m n : Nat) (es : List D) : Tree.eval (enterM E13 (callN E13 (m+40)) n c99 [.d (.sl hopSh false es)] []) = bif decide ((0 : Nat) + List.length es ≤ (4294967296 : Nat)) then some (V.own 384, [(384, Obj.lst partSh false true false es)]) else none := by kernel_rfl
theorem e62t (m n : Nat) (es : List D) : Tree.eval (enterM E13 (callN E13 (m+40)) n c147 [.d (.sl stepSh true es)] []) = some (V.d (D.sl stepSh true []), []) := by kernel_rfl
theorem e62f (m n : Nat) (es : List D) : Tree.eval (enterM E13 (callN E13 (m+40)) n c147 [.d (.sl stepSh false es)] []) = bif decide ((0 : Nat) + List.length es ≤ (4294967296 : Nat)) then some (V.own 384, [(384, Obj.lst stepSh false true false es)]) else none := by kernel_rfl
theorem e93t (m n : Nat) (es : List D) : Tree.eval (enterM E13 (callN E13 (m+40)) n c148 [.d (.sl partSh true es)] []) = some (V.d (D.sl partSh true []), []) := by kernel_rfl
theorem e93f (m n : Nat) (es : List D) : Tree.eval (enterM E13 (callN E13 (m+40)) n c148 [.d (.sl partSh false es)] []) = bif decide ((0 : Nat) + List.length es ≤ (4294967296 : Nat)) then some (V.own 384, [(384, Obj.lst partSh false true false es)]) else none := by kernel_rfl
end Go.Proofs.YtkjiaijkdefkgaaGreatDoor.A
/- Ids are compared; lists are cloned. -/
namespace Go.Proofs.YtkjiaijkdefkgaaGreatDoor.A
open Go Go.AM
def idCmp (r k r' k' : Int) (a b : List D) : Int := bif cmpI r r' != 0 then cmpI r r' else bif cmpI k k' != 0 then cmpI k k' else bif cmpHops a b != 0 then cmpHops a b else 0
theorem condI (b : Bool) (x y : Int) : (bif b then some [D.int .i64 x] else some [D.int .i64 y]) = some [D.int .i64 (bif b then x else y)] := by cases b <;> rfl
theorem run52 (m n : Nat) (r k r' k' : Int) (n1 n2 : Bool) (a b : List D) (ha : a.length ≤ 1000000) : (enterM E13 (callN E13 (m+40)) n c93 [.d (.agg [.int .i64 r, .int .i64 k, .sl hopSh n1 a]), .d (.agg [.int .i64 r', .int .i64 k', .sl hopSh n2 b])] []).out = some [.int .i64 (idCmp r k r' k' a b)] := by
  rw [e52]
  simp only [decide_eq_true ha, cond_true, condI, idCmp]
def g52 : List D → Tree (List D)
  | [.agg [.int .i64 r, .int .i64 k, .sl e _ a], .agg [.int .i64 r', .int .i64 k', .sl e' _ b]] => match Sh.beq e hopSh && Sh.beq e' hopSh with
    | true => .ite (decide (a.length ≤ 1000000)) (fun _ => .ret [.int .i64 (idCmp r k r' k' a b)]) (fun _ => .stuck)
    | false => .stuck
  | _ => .stuck
theorem pure52 {P : Program} (hm : P.follows .mixedOrders = true) (h0 : EnvOK P E13) : PureOK P 93 g52 := PureOK.run hm h0 fun ds rs h => by
  unfold g52 at h
  split at h
  · rename_i r k e n1 a r' k' e' n2 b
    split at h
    · rename_i hb
      simp only [Bool.and_eq_true] at hb
      have hb1 := Sh.beq_eq hb.1
      have hb2 := Sh.beq_eq hb.2
      subst hb1 hb2
      obtain ⟨hl, h⟩ := eval_guard h
      cases h
      exact ⟨59 + 1, by rw [callN_succ (fn := c93) rfl]; exact run52 19 59 r k r' k' n1 n2 a b (of_decide_eq_true hl)⟩
    · cases h
  · cases h
def Cclone (sh : Sh) (args : List V) (ob : Obs) : Tree (V × Obs) :=
  match args, ob with
  | [.d (.sl e nl es)], [] => match Sh.beq e sh with
    | true => .ite nl (fun _ => .ret (.d (.sl sh true []), [])) (fun _ => .ite (decide (es.length ≤ 1000000)) (fun _ => .ret (.own 384, [(384, .lst sh false true false es)])) (fun _ => .stuck))
    | false => .stuck
  | _, _ => .stuck
theorem fn43 {P : Program} (hm : P.follows .mixedOrders = true) (h0 : EnvOK P E13) : FnOK P 99 (Cclone hopSh) := FnOK.run hm h0 fun args ob r h => by
  unfold Cclone at h
  split at h
  · rename_i e nl es
    split at h
    · rename_i hb
      have hb := Sh.beq_eq hb
      subst hb
      refine ⟨59 + 1, ?_⟩
      rw [callN_succ (fn := c99) rfl]
      rcases eval_ite h with ⟨hn, h'⟩ | ⟨hn, h'⟩
      · subst hn
        cases h'
        exact e43t 19 59 es
      · subst hn
        obtain ⟨hl, h'⟩ := eval_guard h'
        cases h'
        have hl := of_decide_eq_true hl
        refine (e43f 19 59 es).trans ?_
        have : decide (0 + es.length ≤ 4294967296) = true := decide_eq_true (by omega)
        rw [this]
        rfl
    · cases h
  · cases h
theorem fn62 {P : Program} (hm : P.follows .mixedOrders = true) (h0 : EnvOK P E13) : FnOK P 147 (Cclone stepSh) := FnOK.run hm h0 fun args ob r h => by
  unfold Cclone at h
  split at h
  · rename_i e nl es
    split at h
    · rename_i hb
      have hb := Sh.beq_eq hb
      subst hb
      refine ⟨59 + 1, ?_⟩
      rw [callN_succ (fn := c147) rfl]
      rcases eval_ite h with ⟨hn, h'⟩ | ⟨hn, h'⟩
      · subst hn
        cases h'
        exact e62t 19 59 es
      · subst hn
        obtain ⟨hl, h'⟩ := eval_guard h'
        cases h'
        have hl := of_decide_eq_true hl
        refine (e62f 19 59 es).trans ?_
        have : decide (0 + es.length ≤ 4294967296) = true := decide_eq_true (by omega)
        rw [this]
        rfl
    · cases h
  · cases h
theorem fn93 {P : Program} (hm : P.follows .mixedOrders = true) (h0 : EnvOK P E13) : FnOK P 148 (Cclone partSh) := FnOK.run hm h0 fun args ob r h => by
  unfold Cclone at h
  split at h
  · rename_i e nl es
    split at h
    · rename_i hb
      have hb := Sh.beq_eq hb
      subst hb
      refine ⟨59 + 1, ?_⟩
      rw [callN_succ (fn := c148) rfl]
      rcases eval_ite h with ⟨hn, h'⟩ | ⟨hn, h'⟩
      · subst hn
        cases h'
        exact e93t 19 59 es
      · subst hn
        obtain ⟨hl, h'⟩ := eval_guard h'
        cases h'
        have hl := of_decide_eq_true hl
        refine (e93f 19 59 es).trans ?_
        have : decide (0 + es.length ≤ 4294967296) = true := decide_eq_true (by omega)
        rw [this]
        rfl
    · cases h
  · cases h
def E14 : Env := (((E13.pureAt 93 true g52).genAt 99 (Cclone hopSh)).genAt 147 (Cclone stepSh)).genAt 148 (Cclone partSh)
theorem ok14 {P : Program} (hm : P.follows .mixedOrders = true) (h0 : EnvOK P E13) : EnvOK P E14 := (((h0.pureAt (pure52 hm h0)).genAt (fn43 hm h0)).genAt (fn62 hm h0)).genAt (fn93 hm h0)
end Go.Proofs.YtkjiaijkdefkgaaGreatDoor.A
