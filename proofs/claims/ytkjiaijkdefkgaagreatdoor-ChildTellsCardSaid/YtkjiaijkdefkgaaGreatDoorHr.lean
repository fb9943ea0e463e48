/- Plain facts of lists and of sagas. -/
import Derived.Test.YtkjiaijkdefkgaaGreatDoorHb
import Derived.Test.YtkjiaijkdefkgaaGreatDoorGc
import Derived.KernelRfl

namespace Go.Proofs.YtkjiaijkdefkgaaGreatDoor.A
open Go Go.AM
theorem scan_none {α : Type} (p : Nat → Bool) (hit : Nat → α) (fin : α) : ∀ k i, (∀ j, i ≤ j → j < i + k → p j = false) → scan p hit fin k i = fin
  | 0, _, _ => rfl
  | k + 1, i, h => by
    simp only [scan]
    rw [h i (by omega) (by omega)]
    exact scan_none p hit fin k (i + 1) fun j h1 h2 => h j (by omega) (by omega)
theorem lastFrom_pos (p : Nat → Bool) : ∀ k, 0 ≤ lastFrom p k → (lastFrom p k).toNat < k ∧ p (lastFrom p k).toNat = true ∧ ∀ i, (lastFrom p k).toNat < i → i < k → p i = false
  | 0, h => by simp [lastFrom] at h
  | k + 1, h => by
    simp only [lastFrom] at h ⊢
    cases hp : p k
    · rw [hp] at h
      have := lastFrom_pos p k h
      refine ⟨by simp only [cond_false]; omega, this.2.1, fun i h1 h2 => ?_⟩
      by_cases he : i = k
      · rw [he]; exact hp
      · exact this.2.2 i h1 (by omega)
    · simp only [cond_true, Int.toNat_natCast]
      exact ⟨by omega, hp, fun i h1 h2 => by omega⟩
theorem getD_mem {es : List D} {i : Nat} (h : i < es.length) : es.getD i .nilp ∈ es := by
  rw [List.getD_eq_getElem?_getD, List.getElem?_eq_getElem h]
  exact List.getElem_mem h
theorem mem_getD {es : List D} {x : D} (h : x ∈ es) : ∃ i, i < es.length ∧ es.getD i .nilp = x := by
  obtain ⟨i, hi, rfl⟩ := List.mem_iff_getElem.1 h
  exact ⟨i, hi, by rw [List.getD_eq_getElem?_getD, List.getElem?_eq_getElem hi]; rfl⟩
theorem any_iff {q : D → Bool} {es : List D} : es.any q = true ↔ ∃ i, i < es.length ∧ q (es.getD i .nilp) = true := by
  rw [List.any_eq_true]
  constructor
  · rintro ⟨x, hx, hq⟩
    obtain ⟨i, hi, rfl⟩ := mem_getD hx
    exact ⟨i, hi, hq⟩
  · rintro ⟨i, hi, hq⟩
    exact ⟨_, getD_mem hi, hq⟩
theorem beqF {x y : Int} (h : x ≠ y) : (x == y) = false := by simpa using h
theorem getD_set {l : List D} {c j : Nat} {x : D} (hc : c < l.length) : (l.set c x).getD j .nilp = if c = j then x else l.getD j .nilp := by
  rw [List.getD_eq_getElem?_getD, List.getElem?_set]
  split
  · rename_i h
    subst h
    first | rfl | (rw [if_pos hc]; rfl)
  · rw [List.getD_eq_getElem?_getD]
abbrev stAt (parts : List D) (c : Nat) : Int := fi 0 (parts.getD c .nilp)
abbrev trAt (parts : List D) (c : Nat) : Int := fi 1 (parts.getD c .nilp)
abbrev loc (steps : List D) (c : Nat) : Bool := fs 4 (steps.getD c .nilp) == []
theorem q47 {x y : D} : p47 x y = true ↔ 0 ≤ fi 0 x ∧ fi 0 x ≤ 4 ∧ ((fs 4 y == []) = false ∨ fi 0 x ≠ 1) ∧ 0 ≤ fi 1 x ∧ fi 1 x ≤ 5 := by
  simp only [p47, asksAt, Bool.and_eq_true, Bool.or_eq_true, decide_eq_true_eq, bne_iff_ne, ne_eq, Bool.not_eq_true']
theorem q80 {x y : D} : p80 x y = true ↔ fi 0 x = 2 ∨ (fs 4 y == []) = false ∧ fi 0 x = 3 := by
  simp only [p80, asksAt, Bool.and_eq_true, Bool.or_eq_true, beq_iff_eq, Bool.not_eq_true']
theorem q974 {x y : D} : p97 w4 x y = true ↔ fi 0 x ≠ 4 := by
  simp only [p97, w4, List.any_cons, List.any_nil, hasI_int, Bool.or_false, Bool.not_eq_true', beq_eq_false_iff_ne, ne_eq]
theorem q97124 {x y : D} : p97 w124 x y = true ↔ fi 0 x ≠ 1 ∧ fi 0 x ≠ 2 ∧ fi 0 x ≠ 4 := by
  simp only [p97, w124, List.any_cons, List.any_nil, hasI_int, Bool.or_false, Bool.not_eq_true', Bool.or_eq_false_iff, beq_eq_false_iff_ne, ne_eq]
theorem q109 {b : Bool} {x y : D} : p109 b x y = true ↔ b = true ∧ (fi 0 x = 0 ∨ (fs 4 y == []) = false ∧ fi 0 x = 1) ∨ fi 0 x = 0 ∧ fi 1 x = 0 := by
  simp only [p109, asksAt, Bool.and_eq_true, Bool.or_eq_true, beq_iff_eq, Bool.not_eq_true']
theorem tail_iff {parts steps : List D} {k : Nat} (_hk : k ≤ parts.length) : tailOk k parts steps = true ↔ ∀ j, k ≤ j → j < parts.length → j = k ∧ (stAt parts j = 0 ∨ loc steps j = false ∧ stAt parts j = 1) ∨ stAt parts j = 0 ∧ trAt parts j = 0 := by
  unfold tailOk
  rw [scan_all (fun i => p109 ((i : Int) == (k : Int)) (parts.getD i .nilp) (steps.getD i .nilp))]
  constructor
  · intro h j h1 h2
    have := q109.1 (h j h1 (by omega))
    rw [beq_iff_eq] at this
    rcases this with ⟨h3, h4⟩ | h4
    · exact .inl ⟨by omega, h4⟩
    · exact .inr h4
  · intro h j h1 h2
    refine q109.2 ?_
    rw [beq_iff_eq]
    rcases h j h1 (by omega) with ⟨h3, h4⟩ | h4
    · exact .inl ⟨by omega, h4⟩
    · exact .inr h4
theorem open_iff {x : D} : isOpen x = true ↔ fi 0 x = 1 ∨ fi 0 x = 2 := by simp only [isOpen, Bool.or_false, Bool.or_eq_true, beq_iff_eq]
theorem cur5 (parts : List D) : cur 5 parts = lastFrom (fun i => isOpen (parts.getD i .nilp)) parts.length := rfl
theorem cur5_spec {parts : List D} (hc : 0 ≤ cur 5 parts) : (cur 5 parts).toNat < parts.length ∧ (stAt parts (cur 5 parts).toNat = 1 ∨ stAt parts (cur 5 parts).toNat = 2) ∧ ∀ i, (cur 5 parts).toNat < i → i < parts.length → stAt parts i ≠ 1 ∧ stAt parts i ≠ 2 := by
  rw [cur5] at hc ⊢
  obtain ⟨h1, h2, h3⟩ := lastFrom_pos _ _ hc
  refine ⟨h1, open_iff.1 h2, fun i h4 h5 => ?_⟩
  have := h3 i h4 h5
  have hn : ¬ (fi 0 (parts.getD i .nilp) = 1 ∨ fi 0 (parts.getD i .nilp) = 2) := fun e => by rw [open_iff.2 e] at this; cases this
  exact ⟨fun e => hn (.inl e), fun e => hn (.inr e)⟩
end Go.Proofs.YtkjiaijkdefkgaaGreatDoor.A
/- Few hops, steps and parts. -/
namespace Go.Proofs.YtkjiaijkdefkgaaGreatDoor.A
open Go Go.AM
open Go.Proofs in
theorem e19 (m n : Nat) (rt nn st wy : Int) (n1 n2 n3 fc : Bool) (hops steps parts : List D) (nm : List UInt8) : Tree.out (enterM E14 (callN E14 (m+40)) n c13 [.d (sagaD rt nn st wy n1 n2 n3 fc hops steps parts nm)] []) = bif decide ((↑(List.length hops) : Int) ≤ (50 : Int)) then bif decide ((↑(List.length steps) : Int) ≤ (50 : Int)) then some [D.bool (decide ((↑(List.length parts) : Int) ≤ (200 : Int)))] else some [D.bool false] else some [D.bool false] := by kernel_rfl
def few (hops steps parts : List D) : Bool := decide ((hops.length : Int) ≤ 50) && (decide ((steps.length : Int) ≤ 50) && decide ((parts.length : Int) ≤ 200))
theorem run19 (m n : Nat) (rt nn st wy : Int) (n1 n2 n3 fc : Bool) (hops steps parts : List D) (nm : List UInt8) : (enterM E14 (callN E14 (m+40)) n c13 [.d (sagaD rt nn st wy n1 n2 n3 fc hops steps parts nm)] []).out = some [.bool (few hops steps parts)] := by
  rw [e19]
  simp only [few]
  cases decide ((hops.length : Int) ≤ 50) <;> cases decide ((steps.length : Int) ≤ 50) <;> rfl
def g19 : List D → Tree (List D)
  | [.agg [.int .i64 _rt, .int .i64 _nn, .sl eh _n1 hops, .str _nm, .sl es _n2 steps, .int .i64 _st, .int .i64 _wy, .sl ep _n3 parts, .bool _fc]] => match (Sh.beq eh hopSh && (Sh.beq es stepSh && Sh.beq ep partSh)) with
    | true => .ret [.bool (few hops steps parts)]
    | false => .stuck
  | _ => .stuck
theorem pure19 {P : Program} (hm : P.follows .mixedOrders = true) (h0 : EnvOK P E14) : PureOK P 13 g19 := PureOK.run hm h0 fun ds rs h => by
  unfold g19 at h
  split at h
  · rename_i rt nn eh n1 hops nm es n2 steps st wy ep n3 parts fc
    split at h
    · rename_i hb
      simp only [Bool.and_eq_true] at hb
      obtain ⟨hb3, hb4, hb5⟩ := hb
      have hb3 := Sh.beq_eq hb3
      have hb4 := Sh.beq_eq hb4
      have hb5 := Sh.beq_eq hb5
      subst hb3 hb4 hb5
      cases h
      exact ⟨59 + 1, by rw [callN_succ (fn := c13) rfl]; exact run19 19 59 rt nn st wy n1 n2 n3 fc hops steps parts nm⟩
    · cases h
  · cases h
def E19 : Env := E14.pureAt 13 true g19
theorem ok19 {P : Program} (hm : P.follows .mixedOrders = true) (h0 : EnvOK P E14) : EnvOK P E19 := h0.pureAt (pure19 hm h0)
def g20 : List D → Tree (List D)
  | [] => .ret [.bool true]
  | _ => .stuck
end Go.Proofs.YtkjiaijkdefkgaaGreatDoor.A
/- Equations of the walk. -/
open Go Go.AM Go.Proofs
namespace Go.Proofs.YtkjiaijkdefkgaaGreatDoor.A
theorem e117 (m n : Nat) (s : List UInt8) : Go.AM.Tree.out (enterM E19 (callN E19 (m+40)) n c117 [.d (.str s)] []) = bif decide ((↑(List.length s) : Int) < (1 : Int)) then some [D.bool false] else bif decide ((16 : Int) < (↑(List.length s) : Int)) then some [D.bool false] else Tree.out (resume E19 (callN E19 (m + (40 : Nat))) n n (0 : Nat) c117 { fr := frame (53 : Nat) [((0 : Nat), V.d (D.str s)), ((3 : Nat), V.d (D.int IntKind.i64 (0 : Int)))], ob := [] }) := by kernel_rfl
def s117 (s : List UInt8) (i : Int) : St := { fr := frame 53 [(0, V.d (D.str s)), (3, V.d (D.int .i64 i))], ob := [] }
theorem l117 (m n j : Nat) (s : List UInt8) (i : Int) : Go.AM.Tree.out (resume E19 (callN E19 (m+40)) n (j+1) 0 c117 (s117 s i)) = bif decide (i < (↑(List.length s) : Int)) then bif decide ((0 : Int) ≤ i ∧ i < (↑(List.length s) : Int)) then bif decide ((97 : Int) ≤ (↑(UInt8.toNat (List.getD s (Int.toNat i) (0 : UInt8))) : Int)) then bif decide ((0 : Int) ≤ i ∧ i < (↑(List.length s) : Int)) then bif decide ((0 : Int) ≤ i ∧ i < (↑(List.length s) : Int)) then bif decide ((48 : Int) ≤ (↑(UInt8.toNat (List.getD s (Int.toNat i) (0 : UInt8))) : Int)) then bif decide ((0 : Int) ≤ i ∧ i < (↑(List.length s) : Int)) then bif !decide ((↑(UInt8.toNat (List.getD s (Int.toNat i) (0 : UInt8))) : Int) ≤ (122 : Int)) then bif !decide ((↑(UInt8.toNat (List.getD s (Int.toNat i) (0 : UInt8))) : Int) ≤ (57 : Int)) then some [D.bool false] else bif i == (0 : Int) then bif decide ((↑(UInt8.toNat (List.getD s (Int.toNat i) (0 : UInt8))) : Int) ≤ (57 : Int)) then some [D.bool false] else Tree.out (resume E19 (callN E19 (m + (40 : Nat))) n j (0 : Nat) c117 { fr := frame (53 : Nat) [((0 : Nat), V.d (D.str s)), ((3 : Nat), V.d (D.int IntKind.i64 (IntKind.wrap IntKind.i64 (i + (1 : Int)))))], ob := [] }) else Tree.out (resume E19 (callN E19 (m + (40 : Nat))) n j (0 : Nat) c117 { fr := frame (53 : Nat) [((0 : Nat), V.d (D.str s)), ((3 : Nat), V.d (D.int IntKind.i64 (IntKind.wrap IntKind.i64 (i + (1 : Int)))))], ob := [] }) else bif i == (0 : Int) then bif decide ((↑(UInt8.toNat (List.getD s (Int.toNat i) (0 : UInt8))) : Int) ≤ (57 : Int)) then some [D.bool false] else Tree.out (resume E19 (callN E19 (m + (40 : Nat))) n j (0 : Nat) c117 { fr := frame (53 : Nat) [((0 : Nat), V.d (D.str s)), ((3 : Nat), V.d (D.int IntKind.i64 (IntKind.wrap IntKind.i64 (i + (1 : Int)))))], ob := [] }) else Tree.out (resume E19 (callN E19 (m + (40 : Nat))) n j (0 : Nat) c117 { fr := frame (53 : Nat) [((0 : Nat), V.d (D.str s)), ((3 : Nat), V.d (D.int IntKind.i64 (IntKind.wrap IntKind.i64 (i + (1 : Int)))))], ob := [] }) else none else bif !decide ((↑(UInt8.toNat (List.getD s (Int.toNat i) (0 : UInt8))) : Int) ≤ (122 : Int)) then some [D.bool false] else bif i == (0 : Int) then Tree.out (resume E19 (callN E19 (m + (40 : Nat))) n j (0 : Nat) c117 { fr := frame (53 : Nat) [((0 : Nat), V.d (D.str s)), ((3 : Nat), V.d (D.int IntKind.i64 (IntKind.wrap IntKind.i64 (i + (1 : Int)))))], ob := [] }) else Tree.out (resume E19 (callN E19 (m + (40 : Nat))) n j (0 : Nat) c117 { fr := frame (53 : Nat) [((0 : Nat), V.d (D.str s)), ((3 : Nat), V.d (D.int IntKind.i64 (IntKind.wrap IntKind.i64 (i + (1 : Int)))))], ob := [] }) else none else none else bif decide ((0 : Int) ≤ i ∧ i < (↑(List.length s) : Int)) then bif decide ((48 : Int) ≤ (↑(UInt8.toNat (List.getD s (Int.toNat i) (0 : UInt8))) : Int)) then bif decide ((0 : Int) ≤ i ∧ i < (↑(List.length s) : Int)) then bif !decide ((↑(UInt8.toNat (List.getD s (Int.toNat i) (0 : UInt8))) : Int) ≤ (57 : Int)) then some [D.bool false] else bif i == (0 : Int) then bif decide ((↑(UInt8.toNat (List.getD s (Int.toNat i) (0 : UInt8))) : Int) ≤ (57 : Int)) then some [D.bool false] else Tree.out (resume E19 (callN E19 (m + (40 : Nat))) n j (0 : Nat) c117 { fr := frame (53 : Nat) [((0 : Nat), V.d (D.str s)), ((3 : Nat), V.d (D.int IntKind.i64 (IntKind.wrap IntKind.i64 (i + (1 : Int)))))], ob := [] }) else Tree.out (resume E19 (callN E19 (m + (40 : Nat))) n j (0 : Nat) c117 { fr := frame (53 : Nat) [((0 : Nat), V.d (D.str s)), ((3 : Nat), V.d (D.int IntKind.i64 (IntKind.wrap IntKind.i64 (i + (1 : Int)))))], ob := [] }) else none else some [D.bool false] else none else none else some [D.bool true] := by kernel_rfl
theorem e88 (m n : Nat) (rt nn st wy : Int) (n1 n2 n3 fc : Bool) (hops steps parts : List D) (nm : List UInt8) (i : Int) : Go.AM.Tree.out (enterM E19 (callN E19 (m+40)) n c88 [.d (sagaD rt nn st wy n1 n2 n3 fc hops steps parts nm), .d (.int .i64 i)] []) = bif decide ((0 : Int) ≤ i ∧ i < (↑(List.length steps) : Int)) then some [D.bool !fs (4 : Nat) (List.getD steps (Int.toNat i) D.nilp) == []] else none := by kernel_rfl
theorem e81 (m n : Nat) (i : Int) : Go.AM.Tree.out (enterM E19 (callN E19 (m+40)) n c81 [.d (.int .i64 i)] []) = bif decide ((1 : Int) ≤ i) then some [D.bool (decide (i ≤ (9 : Int)))] else some [D.bool false] := by kernel_rfl
theorem e89 (m n : Nat) (r q : Int) (nil : Bool) (es : List D) : Go.AM.Tree.out (enterM E19 (callN E19 (m+40)) n c89 [.d (.agg [.int .i64 r, .int .i64 q, .sl hopSh nil es])] []) = bif decide (q < (1 : Int)) then some [D.int IntKind.i64 (30 : Int)] else bif decide ((999999 : Int) < q) then some [D.int IntKind.i64 (30 : Int)] else bif decide ((4 : Int) < (↑(List.length es) : Int)) then some [D.int IntKind.i64 (30 : Int)] else bif decide (r < (0 : Int)) then some [D.int IntKind.i64 (30 : Int)] else bif decide ((15 : Int) < r) then some [D.int IntKind.i64 (30 : Int)] else Tree.out (resume E19 (callN E19 (m + (40 : Nat))) n n (0 : Nat) c89 { fr := frame (81 : Nat) [((1 : Nat), V.ptr (128 : Nat) (0 : Nat)), ((3 : Nat), V.d (D.int IntKind.i64 (0 : Int)))], ob := [((128 : Nat), Obj.box [V.d (D.int IntKind.i64 r), V.d (D.int IntKind.i64 q), V.d (D.sl hopSh nil es)])] }) := by kernel_rfl
def s89 (r q : Int) (nil : Bool) (es : List D) (i : Int) : St := { fr := frame 81 [(1, V.ptr 128 0), (3, V.d (D.int .i64 i))], ob := [(128, .box [V.d (D.int .i64 r), V.d (D.int .i64 q), V.d (D.sl hopSh nil es)])] }
theorem l89 (m n j : Nat) (r q : Int) (nil : Bool) (es : List D) (i : Int) : Go.AM.Tree.out (resume E19 (callN E19 (m+40)) n (j+1) 0 c89 (s89 r q nil es i)) = bif decide (i < (↑(List.length es) : Int)) then bif decide ((0 : Int) ≤ i ∧ i < (↑(List.length es) : Int)) then bif decide (fi (0 : Nat) (List.getD es (Int.toNat i) D.nilp) < (0 : Int)) then some [D.int IntKind.i64 (30 : Int)] else bif decide ((7 : Int) < fi (0 : Nat) (List.getD es (Int.toNat i) D.nilp)) then some [D.int IntKind.i64 (30 : Int)] else bif decide (fi (1 : Nat) (List.getD es (Int.toNat i) D.nilp) < (0 : Int)) then some [D.int IntKind.i64 (30 : Int)] else bif decide ((15 : Int) < fi (1 : Nat) (List.getD es (Int.toNat i) D.nilp)) then some [D.int IntKind.i64 (30 : Int)] else bif fi (1 : Nat) (List.getD es (Int.toNat i) D.nilp) == r then some [D.int IntKind.i64 (30 : Int)] else Tree.out (resumeL E19 (callN E19 (m + (40 : Nat))) n [((0 : Nat), j), ((1 : Nat), n)] c89 { fr := frame (81 : Nat) [((1 : Nat), V.ptr (128 : Nat) (0 : Nat)), ((3 : Nat), V.d (D.int IntKind.i64 i)), ((4 : Nat), V.ptr (320 : Nat) (0 : Nat)), ((5 : Nat), V.d (D.int IntKind.i64 (0 : Int)))], ob := [((128 : Nat), Obj.box [V.d (D.int IntKind.i64 r), V.d (D.int IntKind.i64 q), V.d (D.sl hopSh nil es)]), ((320 : Nat), Obj.box [V.d (D.int IntKind.i64 (fi (0 : Nat) (List.getD es (Int.toNat i) D.nilp))), V.d (D.int IntKind.i64 (fi (1 : Nat) (List.getD es (Int.toNat i) D.nilp)))])] }) else none else some [D.int IntKind.i64 (0 : Int)] := by kernel_rfl
def t89 (r q : Int) (nil : Bool) (es : List D) (i a b k : Int) : St := { fr := frame 81 [(1, V.ptr 128 0), (3, V.d (D.int .i64 i)), (4, V.ptr 320 0), (5, V.d (D.int .i64 k))], ob := [(128, .box [V.d (D.int .i64 r), V.d (D.int .i64 q), V.d (D.sl hopSh nil es)]), (320, .box [V.d (D.int .i64 a), V.d (D.int .i64 b)])] }
theorem kk89 (m n j jo : Nat) (r q : Int) (nil : Bool) (es : List D) (i a b k : Int) : Go.AM.Tree.out (resumeL E19 (callN E19 (m+40)) n [(0, jo), (1, j+1)] c89 (t89 r q nil es i a b k)) = bif decide (k < i) then bif decide ((0 : Int) ≤ k ∧ k < (↑(List.length es) : Int)) then bif fi (1 : Nat) (List.getD es (Int.toNat k) D.nilp) == b then some [D.int IntKind.i64 (30 : Int)] else Tree.out (resumeL E19 (callN E19 (m + (40 : Nat))) n [((0 : Nat), jo), ((1 : Nat), j)] c89 { fr := frame (81 : Nat) [((1 : Nat), V.ptr (128 : Nat) (0 : Nat)), ((3 : Nat), V.d (D.int IntKind.i64 i)), ((4 : Nat), V.ptr (320 : Nat) (0 : Nat)), ((5 : Nat), V.d (D.int IntKind.i64 (IntKind.wrap IntKind.i64 (k + (1 : Int)))))], ob := [((128 : Nat), Obj.box [V.d (D.int IntKind.i64 r), V.d (D.int IntKind.i64 q), V.d (D.sl hopSh nil es)]), ((320 : Nat), Obj.box [V.d (D.int IntKind.i64 a), V.d (D.int IntKind.i64 b)])] }) else none else Tree.out (resume E19 (callN E19 (m + (40 : Nat))) n jo (0 : Nat) c89 { fr := frame (81 : Nat) [((1 : Nat), V.ptr (128 : Nat) (0 : Nat)), ((3 : Nat), V.d (D.int IntKind.i64 (IntKind.wrap IntKind.i64 (i + (1 : Int)))))], ob := [((128 : Nat), Obj.box [V.d (D.int IntKind.i64 r), V.d (D.int IntKind.i64 q), V.d (D.sl hopSh nil es)])] }) := by kernel_rfl
end Go.Proofs.YtkjiaijkdefkgaaGreatDoor.A
/- What the document's functions answer: the contracts. -/
namespace Go.Proofs.YtkjiaijkdefkgaaGreatDoor.A
open Go Go.AM
def F1 : Env := (E19.pureAt 117 true g63)
def stepD (k am og tr wt : Int) (ac sub : List UInt8) : D := .agg [.int .i64 k, .str ac, .int .i64 am, .int .i64 og, .str sub, .int .i64 tr, .int .i64 wt]
def g179 : List D → Tree (List D)
  | [.agg [.int .i64 k, .str ac, .int .i64 am, .int .i64 og, .str sub, .int .i64 tr, .int .i64 wt]] => .ret [.bool (!badStep (stepD k am og tr wt ac sub))]
  | _ => .stuck
def F2 : Env := F1.pureAt 179 true g179
def g136 : List D → Tree (List D)
  | [.agg [.str s, .sl e _ es]] => match Sh.beq e stepSh with
    | true => .ret [.int .i64 (bif defOk s es then 0 else 90)]
    | false => .stuck
  | _ => .stuck
def g89 : List D → Tree (List D)
  | [.agg [.int .i64 r, .int .i64 q, .sl e _ es]] => match Sh.beq e hopSh with
    | true => .ret [.int .i64 (bif idOk r q es then 0 else 30)]
    | false => .stuck
  | _ => .stuck
def F3 : Env := (F2.pureAt 136 true g136).pureAt 89 true g89
def partsOk (nm : List UInt8) (steps parts : List D) : Bool := defOk nm steps && ((parts.length : Int) == (steps.length : Int) && allI p47 parts.length parts steps)
def g82 : List D → Tree (List D)
  | [.agg [.int .i64 _, .int .i64 _, .sl eh _ _, .str nm, .sl es _ steps, .int .i64 _, .int .i64 _, .sl ep _ parts, .bool _]] => match (Sh.beq eh hopSh && (Sh.beq es stepSh && Sh.beq ep partSh)) with
    | true => .ret [.bool (partsOk nm steps parts)]
    | false => .stuck
  | _ => .stuck
/-- how many -/
def cntN (q : Nat → Bool) : Nat → Nat
  | 0 => 0
  | k + 1 => cntN q k + (bif q k then 1 else 0)
def qcnt (own : Bool) (state : Int) (parts steps : List D) (i : Nat) : Bool := fi 0 (parts.getD i .nilp) == state && (asksAt (steps.getD i .nilp) != own)
def cntR (own : Bool) (state : Int) (parts steps : List D) : Int := (cntN (qcnt own state parts steps) parts.length : Nat)
def g86 : List D → Tree (List D)
  | [.agg [.int .i64 _, .int .i64 _, .sl eh _ _, .str _, .sl es _ steps, .int .i64 _, .int .i64 _, .sl ep _ parts, .bool _], .bool ow, .int .i64 state] => match (Sh.beq eh hopSh && (Sh.beq es stepSh && Sh.beq ep partSh)) with
    | true => .ite (decide (parts.length ≤ 1000000) && decide (parts.length ≤ steps.length)) (fun _ => .ret [.int .i64 (cntR ow state parts steps)]) (fun _ => .stuck)
    | false => .stuck
  | _ => .stuck
def g84 : List D → Tree (List D)
  | [.agg [.int .i64 _, .int .i64 _, .sl eh _ _, .str _, .sl es _ steps, .int .i64 _, .int .i64 _, .sl ep _ parts, .bool _]] => match (Sh.beq eh hopSh && (Sh.beq es stepSh && Sh.beq ep partSh)) with
    | true => .ite (decide (parts.length ≤ 1000000) && (decide (parts.length ≤ steps.length) && allI p47 parts.length parts steps)) (fun _ => .ret [.bool (runOk parts steps)]) (fun _ => .stuck)
    | false => .stuck
  | _ => .stuck
def g87 : List D → Tree (List D)
  | [.agg [.int .i64 _, .int .i64 _, .sl eh _ _, .str _, .sl es _ _, .int .i64 st, .int .i64 _, .sl ep _ parts, .bool _]] => match (Sh.beq eh hopSh && (Sh.beq es stepSh && Sh.beq ep partSh)) with
    | true => .ite (decide (parts.length ≤ 1000000) && st == 5) (fun _ => .ret [.int .i64 (cur st parts)]) (fun _ => .stuck)
    | false => .stuck
  | _ => .stuck
def F4 : Env := (((F3.pureAt 82 true g82).pureAt 86 true g86).pureAt 84 true g84).pureAt 87 true g87
end Go.Proofs.YtkjiaijkdefkgaaGreatDoor.A
/- Equations of the walk. -/
open Go Go.AM Go.Proofs
namespace Go.Proofs.YtkjiaijkdefkgaaGreatDoor.A
theorem e179 (m n : Nat) (k am og tr wt : Int) (ac sub : List UInt8) : Go.AM.Tree.out (enterM F1 (callN F1 (m+40)) n c179 [.d (stepD k am og tr wt ac sub)] []) = bif sub == [] then bif decide (k < (1 : Int)) then some [D.bool false] else bif decide ((4 : Int) < k) then some [D.bool false] else bif !name ac then some [D.bool false] else bif decide (am < (1 : Int)) then some [D.bool false] else bif decide ((1000000000000000 : Int) < am) then some [D.bool false] else bif og == (0 : Int) then bif wt == (0 : Int) then bif decide ((1 : Int) ≤ tr) then some [D.bool (decide (tr ≤ (5 : Int)))] else some [D.bool false] else some [D.bool false] else some [D.bool false] else bif k == (0 : Int) then bif ac == [] then bif am == (0 : Int) then bif tr == (0 : Int) then bif name sub then bif decide ((0 : Int) ≤ og) then bif decide (og ≤ (15 : Int)) then bif decide ((1 : Int) ≤ wt) then some [D.bool (decide (wt ≤ (50 : Int)))] else some [D.bool false] else some [D.bool false] else some [D.bool false] else some [D.bool false] else some [D.bool false] else some [D.bool false] else some [D.bool false] else some [D.bool false] := by kernel_rfl
theorem e136 (m n : Nat) (s : List UInt8) (nil : Bool) (es : List D) : Go.AM.Tree.out (enterM F2 (callN F2 (m+40)) n c136 [.d (.agg [.str s, .sl stepSh nil es])] []) = bif !name s then some [D.int IntKind.i64 (90 : Int)] else bif decide ((↑(List.length es) : Int) < (1 : Int)) then some [D.int IntKind.i64 (90 : Int)] else bif decide ((8 : Int) < (↑(List.length es) : Int)) then some [D.int IntKind.i64 (90 : Int)] else Tree.out (resume F2 (callN F2 (m + (40 : Nat))) n n (0 : Nat) c136 { fr := frame (34 : Nat) [((1 : Nat), V.ptr (128 : Nat) (0 : Nat)), ((3 : Nat), V.d (D.int IntKind.i64 (0 : Int)))], ob := [((128 : Nat), Obj.box [V.d (D.str s), V.d (D.sl stepSh nil es)])] }) := by kernel_rfl
theorem e82 (m n : Nat) (rt nn st wy : Int) (n1 n2 n3 fc : Bool) (hops steps parts : List D) (nm : List UInt8) : Go.AM.Tree.out (enterM F3 (callN F3 (m+40)) n c82 [.d (sagaD rt nn st wy n1 n2 n3 fc hops steps parts nm)] []) = bif (bif defOk nm steps then (0 : Int) else (90 : Int)) != (0 : Int) then some [D.bool false] else bif (↑(List.length parts) : Int) != (↑(List.length steps) : Int) then some [D.bool false] else Tree.out (resume F3 (callN F3 (m + (40 : Nat))) n n (0 : Nat) c82 { fr := frame (60 : Nat) [((1 : Nat), V.ptr (128 : Nat) (0 : Nat)), ((3 : Nat), V.d (D.int IntKind.i64 (0 : Int)))], ob := [((128 : Nat), Obj.box [V.d (D.int IntKind.i64 rt), V.d (D.int IntKind.i64 nn), V.d (D.sl hopSh n1 hops), V.d (D.str nm), V.d (D.sl stepSh n2 steps), V.d (D.int IntKind.i64 st), V.d (D.int IntKind.i64 wy), V.d (D.sl hopSh n3 parts), V.d (D.bool fc)])] }) := by kernel_rfl
theorem e86 (m n : Nat) (rt nn st wy : Int) (n1 n2 n3 fc : Bool) (hops steps parts : List D) (nm : List UInt8) (ow : Bool) (state : Int) : Go.AM.Tree.out (enterM F3 (callN F3 (m+40)) n c86 [.d (sagaD rt nn st wy n1 n2 n3 fc hops steps parts nm), .d (.bool ow), .d (.int .i64 state)] []) = Tree.out (resume F3 (callN F3 (m + (40 : Nat))) n n (0 : Nat) c86 { fr := frame (34 : Nat) [((1 : Nat), V.d (D.bool ow)), ((2 : Nat), V.d (D.int IntKind.i64 state)), ((3 : Nat), V.ptr (256 : Nat) (0 : Nat)), ((7 : Nat), V.d (D.int IntKind.i64 (0 : Int))), ((8 : Nat), V.d (D.int IntKind.i64 (0 : Int)))], ob := [((256 : Nat), Obj.box [V.d (D.int IntKind.i64 rt), V.d (D.int IntKind.i64 nn), V.d (D.sl hopSh n1 hops), V.d (D.str nm), V.d (D.sl stepSh n2 steps), V.d (D.int IntKind.i64 st), V.d (D.int IntKind.i64 wy), V.d (D.sl hopSh n3 parts), V.d (D.bool fc)])] }) := by kernel_rfl
theorem e84 (m n : Nat) (rt nn st wy : Int) (n1 n2 n3 fc : Bool) (hops steps parts : List D) (nm : List UInt8) : Go.AM.Tree.out (enterM F3 (callN F3 (m+40)) n c84 [.d (sagaD rt nn st wy n1 n2 n3 fc hops steps parts nm)] []) = Tree.out (resume F3 (callN F3 (m + (40 : Nat))) n n (0 : Nat) c84 { fr := frame (82 : Nat) [((1 : Nat), V.ptr (128 : Nat) (0 : Nat)), ((3 : Nat), V.d (D.int IntKind.i64 (0 : Int)))], ob := [((128 : Nat), Obj.box [V.d (D.int IntKind.i64 rt), V.d (D.int IntKind.i64 nn), V.d (D.sl hopSh n1 hops), V.d (D.str nm), V.d (D.sl stepSh n2 steps), V.d (D.int IntKind.i64 st), V.d (D.int IntKind.i64 wy), V.d (D.sl hopSh n3 parts), V.d (D.bool fc)])] }) := by kernel_rfl
theorem e87 (m n : Nat) (rt nn wy : Int) (n1 n2 n3 fc : Bool) (hops steps parts : List D) (nm : List UInt8) : Go.AM.Tree.out (enterM F3 (callN F3 (m+40)) n c87 [.d (sagaD rt nn 5 wy n1 n2 n3 fc hops steps parts nm)] []) = Tree.out (resume F3 (callN F3 (m + (40 : Nat))) n n (1 : Nat) c87 { fr := frame (56 : Nat) [((1 : Nat), V.ptr (128 : Nat) (0 : Nat)), ((4 : Nat), V.d (D.int IntKind.i64 (IntKind.wrap IntKind.i64 ((↑(List.length parts) : Int) - (1 : Int)))))], ob := [((128 : Nat), Obj.box [V.d (D.int IntKind.i64 rt), V.d (D.int IntKind.i64 nn), V.d (D.sl hopSh n1 hops), V.d (D.str nm), V.d (D.sl stepSh n2 steps), V.d (D.int IntKind.i64 (5 : Int)), V.d (D.int IntKind.i64 wy), V.d (D.sl hopSh n3 parts), V.d (D.bool fc)])] }) := by kernel_rfl
theorem e36 (m n : Nat) (rt nn st wy : Int) (n1 n2 n3 fc : Bool) (hops steps parts : List D) (nm : List UInt8) : Go.AM.Tree.out (enterM F4 (callN F4 (m+40)) n c36 [.d (sagaD rt nn st wy n1 n2 n3 fc hops steps parts nm)] []) = bif st == (7 : Int) then bif nm == [] then bif (↑(List.length steps) : Int) == (0 : Int) then bif (↑(List.length parts) : Int) == (0 : Int) then bif decide ((1 : Int) ≤ wy) then bif decide (wy ≤ (9 : Int)) then bif !fc then bif !decide ((0 : Int) < (↑(List.length hops) : Int)) then some [D.int IntKind.i64 (230 : Int)] else bif (bif idOk rt nn hops then (0 : Int) else (30 : Int)) != (0 : Int) then some [D.int IntKind.i64 (230 : Int)] else some [D.int IntKind.i64 (0 : Int)] else some [D.int IntKind.i64 (230 : Int)] else some [D.int IntKind.i64 (230 : Int)] else some [D.int IntKind.i64 (230 : Int)] else some [D.int IntKind.i64 (230 : Int)] else some [D.int IntKind.i64 (230 : Int)] else some [D.int IntKind.i64 (230 : Int)] else bif partsOk nm steps parts then bif fc then bif wy != (0 : Int) then bif decide ((1 : Int) ≤ wy) then bif !decide (wy ≤ (9 : Int)) then some [D.int IntKind.i64 (230 : Int)] else bif decide (List.length parts ≤ (1000000 : Nat)) && decide (List.length parts ≤ List.length steps) then bif decide ((0 : Int) < cntR true (2 : Int) parts steps) then some [D.int IntKind.i64 (230 : Int)] else bif st == (3 : Int) then bif (bif idOk rt nn hops then (0 : Int) else (30 : Int)) != (0 : Int) then some [D.int IntKind.i64 (230 : Int)] else some [D.int IntKind.i64 (0 : Int)] else bif st == (6 : Int) then bif decide (List.length parts ≤ (1000000 : Nat)) && decide (List.length parts ≤ List.length steps) then bif !cntR true (4 : Int) parts steps == (0 : Int) then some [D.int IntKind.i64 (230 : Int)] else bif (bif idOk rt nn hops then (0 : Int) else (30 : Int)) != (0 : Int) then some [D.int IntKind.i64 (230 : Int)] else some [D.int IntKind.i64 (0 : Int)] else none else some [D.int IntKind.i64 (230 : Int)] else none else some [D.int IntKind.i64 (230 : Int)] else bif decide (List.length parts ≤ (1000000 : Nat)) && decide (List.length parts ≤ List.length steps) then bif decide ((0 : Int) < cntR true (2 : Int) parts steps) then some [D.int IntKind.i64 (230 : Int)] else bif st == (3 : Int) then bif (bif idOk rt nn hops then (0 : Int) else (30 : Int)) != (0 : Int) then some [D.int IntKind.i64 (230 : Int)] else some [D.int IntKind.i64 (0 : Int)] else bif st == (6 : Int) then bif decide (List.length parts ≤ (1000000 : Nat)) && decide (List.length parts ≤ List.length steps) then bif !cntR true (4 : Int) parts steps == (0 : Int) then some [D.int IntKind.i64 (230 : Int)] else bif (bif idOk rt nn hops then (0 : Int) else (30 : Int)) != (0 : Int) then some [D.int IntKind.i64 (230 : Int)] else some [D.int IntKind.i64 (0 : Int)] else none else some [D.int IntKind.i64 (230 : Int)] else none else bif st == (1 : Int) then bif wy == (0 : Int) then bif decide (List.length parts ≤ (1000000 : Nat)) && (decide (List.length parts ≤ List.length steps) && allI p47 (List.length parts) parts steps) then bif !runOk parts steps then some [D.int IntKind.i64 (230 : Int)] else bif (bif idOk rt nn hops then (0 : Int) else (30 : Int)) != (0 : Int) then some [D.int IntKind.i64 (230 : Int)] else some [D.int IntKind.i64 (0 : Int)] else none else some [D.int IntKind.i64 (230 : Int)] else bif st == (2 : Int) then bif wy == (0 : Int) then bif decide ((0 : Int) < (↑(List.length hops) : Int)) then bif decide (List.length parts ≤ (1000000 : Nat)) && decide (List.length parts ≤ List.length steps) then bif decide (List.length parts ≤ (1000000 : Nat)) && decide (List.length parts ≤ List.length steps) then bif decide (List.length parts ≤ (1000000 : Nat)) && decide (List.length parts ≤ List.length steps) then bif !IntKind.wrap IntKind.i64 (IntKind.wrap IntKind.i64 (cntR true (2 : Int) parts steps + cntR false (2 : Int) parts steps) + cntR false (3 : Int) parts steps) == (↑(List.length parts) : Int) then some [D.int IntKind.i64 (230 : Int)] else bif (bif idOk rt nn hops then (0 : Int) else (30 : Int)) != (0 : Int) then some [D.int IntKind.i64 (230 : Int)] else some [D.int IntKind.i64 (0 : Int)] else none else none else none else some [D.int IntKind.i64 (230 : Int)] else some [D.int IntKind.i64 (230 : Int)] else bif st == (3 : Int) then bif wy == (0 : Int) then bif decide (List.length parts ≤ (1000000 : Nat)) && decide (List.length parts ≤ List.length steps) then bif decide (List.length parts ≤ (1000000 : Nat)) && decide (List.length parts ≤ List.length steps) then bif decide (List.length parts ≤ (1000000 : Nat)) && decide (List.length parts ≤ List.length steps) then bif !IntKind.wrap IntKind.i64 (IntKind.wrap IntKind.i64 (cntR true (4 : Int) parts steps + cntR false (4 : Int) parts steps) + cntR false (2 : Int) parts steps) == (↑(List.length parts) : Int) then some [D.int IntKind.i64 (230 : Int)] else bif (bif idOk rt nn hops then (0 : Int) else (30 : Int)) != (0 : Int) then some [D.int IntKind.i64 (230 : Int)] else some [D.int IntKind.i64 (0 : Int)] else none else none else none else some [D.int IntKind.i64 (230 : Int)] else bif st == (4 : Int) then bif decide ((1 : Int) ≤ wy) then bif decide (wy ≤ (9 : Int)) then bif decide (List.length parts ≤ (1000000 : Nat)) && decide (List.length parts ≤ List.length steps) then bif decide (List.length parts ≤ (1000000 : Nat)) && decide (List.length parts ≤ List.length steps) then bif !IntKind.wrap IntKind.i64 (cntR true (4 : Int) parts steps + cntR false (4 : Int) parts steps) == (0 : Int) then some [D.int IntKind.i64 (230 : Int)] else bif (bif idOk rt nn hops then (0 : Int) else (30 : Int)) != (0 : Int) then some [D.int IntKind.i64 (230 : Int)] else some [D.int IntKind.i64 (0 : Int)] else none else none else some [D.int IntKind.i64 (230 : Int)] else some [D.int IntKind.i64 (230 : Int)] else bif st == (5 : Int) then bif decide (List.length parts ≤ (1000000 : Nat)) && st == (5 : Int) then bif decide ((1 : Int) ≤ wy) then bif decide (wy ≤ (9 : Int)) then bif decide (List.length parts ≤ (1000000 : Nat)) && decide (List.length parts ≤ List.length steps) then bif decide (List.length parts ≤ (1000000 : Nat)) && decide (List.length parts ≤ List.length steps) then bif IntKind.wrap IntKind.i64 (cntR true (4 : Int) parts steps + cntR false (4 : Int) parts steps) == (0 : Int) then bif decide ((0 : Int) ≤ cur st parts) then bif decide ((0 : Int) ≤ cur st parts ∧ cur st parts < (↑(List.length steps) : Int)) then bif !!fs (4 : Nat) (List.getD steps (Int.toNat (cur st parts)) D.nilp) == [] then bif decide ((0 : Int) ≤ cur st parts ∧ cur st parts < (↑(List.length parts) : Int)) then bif !fi (1 : Nat) (List.getD parts (Int.toNat (cur st parts)) D.nilp) == (5 : Int) then some [D.int IntKind.i64 (230 : Int)] else bif (bif idOk rt nn hops then (0 : Int) else (30 : Int)) != (0 : Int) then some [D.int IntKind.i64 (230 : Int)] else some [D.int IntKind.i64 (0 : Int)] else none else some [D.int IntKind.i64 (230 : Int)] else none else some [D.int IntKind.i64 (230 : Int)] else some [D.int IntKind.i64 (230 : Int)] else none else none else some [D.int IntKind.i64 (230 : Int)] else some [D.int IntKind.i64 (230 : Int)] else none else bif st == (6 : Int) then bif decide ((1 : Int) ≤ wy) then bif decide (wy ≤ (9 : Int)) then bif decide (List.length parts ≤ (1000000 : Nat)) && decide (List.length parts ≤ List.length steps) then bif decide (List.length parts ≤ (1000000 : Nat)) && decide (List.length parts ≤ List.length steps) then bif decide (List.length parts ≤ (1000000 : Nat)) && decide (List.length parts ≤ List.length steps) then bif decide (List.length parts ≤ (1000000 : Nat)) && decide (List.length parts ≤ List.length steps) then bif !IntKind.wrap IntKind.i64 (IntKind.wrap IntKind.i64 (cntR true (0 : Int) parts steps + cntR false (0 : Int) parts steps) + IntKind.wrap IntKind.i64 (cntR true (3 : Int) parts steps + cntR false (3 : Int) parts steps)) == (↑(List.length parts) : Int) then some [D.int IntKind.i64 (230 : Int)] else bif (bif idOk rt nn hops then (0 : Int) else (30 : Int)) != (0 : Int) then some [D.int IntKind.i64 (230 : Int)] else some [D.int IntKind.i64 (0 : Int)] else none else none else none else none else some [D.int IntKind.i64 (230 : Int)] else some [D.int IntKind.i64 (230 : Int)] else some [D.int IntKind.i64 (230 : Int)] else some [D.int IntKind.i64 (230 : Int)] := by kernel_rfl
def s136 (s : List UInt8) (nil : Bool) (es : List D) (i : Int) : St := { fr := frame 34 [(1, V.ptr 128 0), (3, V.d (D.int .i64 i))], ob := [(128, .box [V.d (D.str s), V.d (D.sl stepSh nil es)])] }
theorem l136 (m n j : Nat) (s : List UInt8) (nil : Bool) (es : List D) (i : Int) : Go.AM.Tree.out (resume F2 (callN F2 (m+40)) n (j+1) 0 c136 (s136 s nil es i)) = bif decide (i < (↑(List.length es) : Int)) then bif decide ((0 : Int) ≤ i ∧ i < (↑(List.length es) : Int)) then bif !!badStep (D.agg [D.int IntKind.i64 (fi (0 : Nat) (List.getD es (Int.toNat i) D.nilp)), D.str (fs (1 : Nat) (List.getD es (Int.toNat i) D.nilp)), D.int IntKind.i64 (fi (2 : Nat) (List.getD es (Int.toNat i) D.nilp)), D.int IntKind.i64 (fi (3 : Nat) (List.getD es (Int.toNat i) D.nilp)), D.str (fs (4 : Nat) (List.getD es (Int.toNat i) D.nilp)), D.int IntKind.i64 (fi (5 : Nat) (List.getD es (Int.toNat i) D.nilp)), D.int IntKind.i64 (fi (6 : Nat) (List.getD es (Int.toNat i) D.nilp))]) then some [D.int IntKind.i64 (90 : Int)] else Tree.out (resume F2 (callN F2 (m + (40 : Nat))) n j (0 : Nat) c136 { fr := frame (34 : Nat) [((1 : Nat), V.ptr (128 : Nat) (0 : Nat)), ((3 : Nat), V.d (D.int IntKind.i64 (IntKind.wrap IntKind.i64 (i + (1 : Int)))))], ob := [((128 : Nat), Obj.box [V.d (D.str s), V.d (D.sl stepSh nil es)])] }) else none else some [D.int IntKind.i64 (0 : Int)] := by kernel_rfl
def s82 (rt nn st wy : Int) (n1 n2 n3 fc : Bool) (hops steps parts : List D) (nm : List UInt8) (i : Int) : St := { fr := frame 60 [(1, V.ptr 128 0), (3, V.d (D.int .i64 i))], ob := [(128, .box [V.d (D.int .i64 rt), V.d (D.int .i64 nn), V.d (D.sl hopSh n1 hops), V.d (D.str nm), V.d (D.sl stepSh n2 steps), V.d (D.int .i64 st), V.d (D.int .i64 wy), V.d (D.sl partSh n3 parts), V.d (D.bool fc)])] }
theorem l82 (m n j : Nat) (rt nn st wy : Int) (n1 n2 n3 fc : Bool) (hops steps parts : List D) (nm : List UInt8) (i : Int) : Go.AM.Tree.out (resume F3 (callN F3 (m+40)) n (j+1) 0 c82 (s82 rt nn st wy n1 n2 n3 fc hops steps parts nm i)) = bif decide (i < (↑(List.length parts) : Int)) then bif decide ((0 : Int) ≤ i ∧ i < (↑(List.length parts) : Int)) then bif decide (fi (0 : Nat) (List.getD parts (Int.toNat i) D.nilp) < (0 : Int)) then some [D.bool false] else bif decide ((4 : Int) < fi (0 : Nat) (List.getD parts (Int.toNat i) D.nilp)) then some [D.bool false] else bif fi (0 : Nat) (List.getD parts (Int.toNat i) D.nilp) == (1 : Int) then bif decide ((0 : Int) ≤ i ∧ i < (↑(List.length steps) : Int)) then bif !!fs (4 : Nat) (List.getD steps (Int.toNat i) D.nilp) == [] then some [D.bool false] else bif decide (fi (1 : Nat) (List.getD parts (Int.toNat i) D.nilp) < (0 : Int)) then some [D.bool false] else bif decide ((5 : Int) < fi (1 : Nat) (List.getD parts (Int.toNat i) D.nilp)) then some [D.bool false] else Tree.out (resume F3 (callN F3 (m + (40 : Nat))) n j (0 : Nat) c82 { fr := frame (60 : Nat) [((1 : Nat), V.ptr (128 : Nat) (0 : Nat)), ((3 : Nat), V.d (D.int IntKind.i64 (IntKind.wrap IntKind.i64 (i + (1 : Int)))))], ob := [((128 : Nat), Obj.box [V.d (D.int IntKind.i64 rt), V.d (D.int IntKind.i64 nn), V.d (D.sl hopSh n1 hops), V.d (D.str nm), V.d (D.sl stepSh n2 steps), V.d (D.int IntKind.i64 st), V.d (D.int IntKind.i64 wy), V.d (D.sl hopSh n3 parts), V.d (D.bool fc)])] }) else none else bif decide (fi (1 : Nat) (List.getD parts (Int.toNat i) D.nilp) < (0 : Int)) then some [D.bool false] else bif decide ((5 : Int) < fi (1 : Nat) (List.getD parts (Int.toNat i) D.nilp)) then some [D.bool false] else Tree.out (resume F3 (callN F3 (m + (40 : Nat))) n j (0 : Nat) c82 { fr := frame (60 : Nat) [((1 : Nat), V.ptr (128 : Nat) (0 : Nat)), ((3 : Nat), V.d (D.int IntKind.i64 (IntKind.wrap IntKind.i64 (i + (1 : Int)))))], ob := [((128 : Nat), Obj.box [V.d (D.int IntKind.i64 rt), V.d (D.int IntKind.i64 nn), V.d (D.sl hopSh n1 hops), V.d (D.str nm), V.d (D.sl stepSh n2 steps), V.d (D.int IntKind.i64 st), V.d (D.int IntKind.i64 wy), V.d (D.sl hopSh n3 parts), V.d (D.bool fc)])] }) else none else some [D.bool true] := by kernel_rfl
def s86 (rt nn st wy : Int) (n1 n2 n3 fc : Bool) (hops steps parts : List D) (nm : List UInt8) (ow : Bool) (state k i : Int) : St := { fr := frame 34 [(1, V.d (D.bool ow)), (2, V.d (D.int .i64 state)), (3, V.ptr 256 0), (7, V.d (D.int .i64 k)), (8, V.d (D.int .i64 i))], ob := [(256, .box [V.d (D.int .i64 rt), V.d (D.int .i64 nn), V.d (D.sl hopSh n1 hops), V.d (D.str nm), V.d (D.sl stepSh n2 steps), V.d (D.int .i64 st), V.d (D.int .i64 wy), V.d (D.sl partSh n3 parts), V.d (D.bool fc)])] }
theorem l86 (m n j : Nat) (rt nn st wy : Int) (n1 n2 n3 fc : Bool) (hops steps parts : List D) (nm : List UInt8) (ow : Bool) (state k i : Int) : Go.AM.Tree.out (resume F3 (callN F3 (m+40)) n (j+1) 0 c86 (s86 rt nn st wy n1 n2 n3 fc hops steps parts nm ow state k i)) = bif decide (i < (↑(List.length parts) : Int)) then bif decide ((0 : Int) ≤ i ∧ i < (↑(List.length parts) : Int)) then bif fi (0 : Nat) (List.getD parts (Int.toNat i) D.nilp) == state then bif decide ((0 : Int) ≤ i ∧ i < (↑(List.length steps) : Int)) then bif !(!fs (4 : Nat) (List.getD steps (Int.toNat i) D.nilp) == []) == ow then Tree.out (resume F3 (callN F3 (m + (40 : Nat))) n j (0 : Nat) c86 { fr := frame (34 : Nat) [((1 : Nat), V.d (D.bool ow)), ((2 : Nat), V.d (D.int IntKind.i64 state)), ((3 : Nat), V.ptr (256 : Nat) (0 : Nat)), ((7 : Nat), V.d (D.int IntKind.i64 (IntKind.wrap IntKind.i64 (k + (1 : Int))))), ((8 : Nat), V.d (D.int IntKind.i64 (IntKind.wrap IntKind.i64 (i + (1 : Int)))))], ob := [((256 : Nat), Obj.box [V.d (D.int IntKind.i64 rt), V.d (D.int IntKind.i64 nn), V.d (D.sl hopSh n1 hops), V.d (D.str nm), V.d (D.sl stepSh n2 steps), V.d (D.int IntKind.i64 st), V.d (D.int IntKind.i64 wy), V.d (D.sl hopSh n3 parts), V.d (D.bool fc)])] }) else Tree.out (resume F3 (callN F3 (m + (40 : Nat))) n j (0 : Nat) c86 { fr := frame (34 : Nat) [((1 : Nat), V.d (D.bool ow)), ((2 : Nat), V.d (D.int IntKind.i64 state)), ((3 : Nat), V.ptr (256 : Nat) (0 : Nat)), ((7 : Nat), V.d (D.int IntKind.i64 k)), ((8 : Nat), V.d (D.int IntKind.i64 (IntKind.wrap IntKind.i64 (i + (1 : Int)))))], ob := [((256 : Nat), Obj.box [V.d (D.int IntKind.i64 rt), V.d (D.int IntKind.i64 nn), V.d (D.sl hopSh n1 hops), V.d (D.str nm), V.d (D.sl stepSh n2 steps), V.d (D.int IntKind.i64 st), V.d (D.int IntKind.i64 wy), V.d (D.sl hopSh n3 parts), V.d (D.bool fc)])] }) else none else Tree.out (resume F3 (callN F3 (m + (40 : Nat))) n j (0 : Nat) c86 { fr := frame (34 : Nat) [((1 : Nat), V.d (D.bool ow)), ((2 : Nat), V.d (D.int IntKind.i64 state)), ((3 : Nat), V.ptr (256 : Nat) (0 : Nat)), ((7 : Nat), V.d (D.int IntKind.i64 k)), ((8 : Nat), V.d (D.int IntKind.i64 (IntKind.wrap IntKind.i64 (i + (1 : Int)))))], ob := [((256 : Nat), Obj.box [V.d (D.int IntKind.i64 rt), V.d (D.int IntKind.i64 nn), V.d (D.sl hopSh n1 hops), V.d (D.str nm), V.d (D.sl stepSh n2 steps), V.d (D.int IntKind.i64 st), V.d (D.int IntKind.i64 wy), V.d (D.sl hopSh n3 parts), V.d (D.bool fc)])] }) else none else some [D.int IntKind.i64 k] := by kernel_rfl
def s84 (rt nn st wy : Int) (n1 n2 n3 fc : Bool) (hops steps parts : List D) (nm : List UInt8) (i : Int) : St := { fr := frame 82 [(1, V.ptr 128 0), (3, V.d (D.int .i64 i))], ob := [(128, .box [V.d (D.int .i64 rt), V.d (D.int .i64 nn), V.d (D.sl hopSh n1 hops), V.d (D.str nm), V.d (D.sl stepSh n2 steps), V.d (D.int .i64 st), V.d (D.int .i64 wy), V.d (D.sl partSh n3 parts), V.d (D.bool fc)])] }
theorem l84 (m n j : Nat) (rt nn st wy : Int) (n1 n2 n3 fc : Bool) (hops steps parts : List D) (nm : List UInt8) (i : Int) : Go.AM.Tree.out (resume F3 (callN F3 (m+40)) n (j+1) 0 c84 (s84 rt nn st wy n1 n2 n3 fc hops steps parts nm i)) = bif decide (i < (↑(List.length parts) : Int)) then bif decide ((0 : Int) ≤ i ∧ i < (↑(List.length parts) : Int)) then bif fi (0 : Nat) (List.getD parts (Int.toNat i) D.nilp) == (2 : Int) then Tree.out (resume F3 (callN F3 (m + (40 : Nat))) n j (0 : Nat) c84 { fr := frame (82 : Nat) [((1 : Nat), V.ptr (128 : Nat) (0 : Nat)), ((3 : Nat), V.d (D.int IntKind.i64 (IntKind.wrap IntKind.i64 (i + (1 : Int)))))], ob := [((128 : Nat), Obj.box [V.d (D.int IntKind.i64 rt), V.d (D.int IntKind.i64 nn), V.d (D.sl hopSh n1 hops), V.d (D.str nm), V.d (D.sl stepSh n2 steps), V.d (D.int IntKind.i64 st), V.d (D.int IntKind.i64 wy), V.d (D.sl hopSh n3 parts), V.d (D.bool fc)])] }) else bif decide ((0 : Int) ≤ i ∧ i < (↑(List.length steps) : Int)) then bif !fs (4 : Nat) (List.getD steps (Int.toNat i) D.nilp) == [] then bif decide ((0 : Int) ≤ i ∧ i < (↑(List.length parts) : Int)) then bif fi (0 : Nat) (List.getD parts (Int.toNat i) D.nilp) == (3 : Int) then Tree.out (resume F3 (callN F3 (m + (40 : Nat))) n j (0 : Nat) c84 { fr := frame (82 : Nat) [((1 : Nat), V.ptr (128 : Nat) (0 : Nat)), ((3 : Nat), V.d (D.int IntKind.i64 (IntKind.wrap IntKind.i64 (i + (1 : Int)))))], ob := [((128 : Nat), Obj.box [V.d (D.int IntKind.i64 rt), V.d (D.int IntKind.i64 nn), V.d (D.sl hopSh n1 hops), V.d (D.str nm), V.d (D.sl stepSh n2 steps), V.d (D.int IntKind.i64 st), V.d (D.int IntKind.i64 wy), V.d (D.sl hopSh n3 parts), V.d (D.bool fc)])] }) else bif decide (i < (↑(List.length parts) : Int)) then bif decide ((0 : Int) ≤ i ∧ i < (↑(List.length parts) : Int)) then bif fi (0 : Nat) (List.getD parts (Int.toNat i) D.nilp) == (0 : Int) then Tree.out (resume F3 (callN F3 (m + (40 : Nat))) n n (1 : Nat) c84 { fr := frame (82 : Nat) [((1 : Nat), V.ptr (128 : Nat) (0 : Nat)), ((3 : Nat), V.d (D.int IntKind.i64 (IntKind.wrap IntKind.i64 (i + (1 : Int)))))], ob := [((128 : Nat), Obj.box [V.d (D.int IntKind.i64 rt), V.d (D.int IntKind.i64 nn), V.d (D.sl hopSh n1 hops), V.d (D.str nm), V.d (D.sl stepSh n2 steps), V.d (D.int IntKind.i64 st), V.d (D.int IntKind.i64 wy), V.d (D.sl hopSh n3 parts), V.d (D.bool fc)])] }) else bif decide ((0 : Int) ≤ i ∧ i < (↑(List.length parts) : Int)) then bif fi (0 : Nat) (List.getD parts (Int.toNat i) D.nilp) == (1 : Int) then Tree.out (resume F3 (callN F3 (m + (40 : Nat))) n n (1 : Nat) c84 { fr := frame (82 : Nat) [((1 : Nat), V.ptr (128 : Nat) (0 : Nat)), ((3 : Nat), V.d (D.int IntKind.i64 (IntKind.wrap IntKind.i64 (i + (1 : Int)))))], ob := [((128 : Nat), Obj.box [V.d (D.int IntKind.i64 rt), V.d (D.int IntKind.i64 nn), V.d (D.sl hopSh n1 hops), V.d (D.str nm), V.d (D.sl stepSh n2 steps), V.d (D.int IntKind.i64 st), V.d (D.int IntKind.i64 wy), V.d (D.sl hopSh n3 parts), V.d (D.bool fc)])] }) else Tree.out (resume F3 (callN F3 (m + (40 : Nat))) n n (1 : Nat) c84 { fr := frame (82 : Nat) [((1 : Nat), V.ptr (128 : Nat) (0 : Nat)), ((3 : Nat), V.d (D.int IntKind.i64 i))], ob := [((128 : Nat), Obj.box [V.d (D.int IntKind.i64 rt), V.d (D.int IntKind.i64 nn), V.d (D.sl hopSh n1 hops), V.d (D.str nm), V.d (D.sl stepSh n2 steps), V.d (D.int IntKind.i64 st), V.d (D.int IntKind.i64 wy), V.d (D.sl hopSh n3 parts), V.d (D.bool fc)])] }) else none else none else Tree.out (resume F3 (callN F3 (m + (40 : Nat))) n n (1 : Nat) c84 { fr := frame (82 : Nat) [((1 : Nat), V.ptr (128 : Nat) (0 : Nat)), ((3 : Nat), V.d (D.int IntKind.i64 i))], ob := [((128 : Nat), Obj.box [V.d (D.int IntKind.i64 rt), V.d (D.int IntKind.i64 nn), V.d (D.sl hopSh n1 hops), V.d (D.str nm), V.d (D.sl stepSh n2 steps), V.d (D.int IntKind.i64 st), V.d (D.int IntKind.i64 wy), V.d (D.sl hopSh n3 parts), V.d (D.bool fc)])] }) else none else bif decide (i < (↑(List.length parts) : Int)) then bif decide ((0 : Int) ≤ i ∧ i < (↑(List.length parts) : Int)) then bif fi (0 : Nat) (List.getD parts (Int.toNat i) D.nilp) == (0 : Int) then Tree.out (resume F3 (callN F3 (m + (40 : Nat))) n n (1 : Nat) c84 { fr := frame (82 : Nat) [((1 : Nat), V.ptr (128 : Nat) (0 : Nat)), ((3 : Nat), V.d (D.int IntKind.i64 (IntKind.wrap IntKind.i64 (i + (1 : Int)))))], ob := [((128 : Nat), Obj.box [V.d (D.int IntKind.i64 rt), V.d (D.int IntKind.i64 nn), V.d (D.sl hopSh n1 hops), V.d (D.str nm), V.d (D.sl stepSh n2 steps), V.d (D.int IntKind.i64 st), V.d (D.int IntKind.i64 wy), V.d (D.sl hopSh n3 parts), V.d (D.bool fc)])] }) else bif decide ((0 : Int) ≤ i ∧ i < (↑(List.length parts) : Int)) then bif fi (0 : Nat) (List.getD parts (Int.toNat i) D.nilp) == (1 : Int) then Tree.out (resume F3 (callN F3 (m + (40 : Nat))) n n (1 : Nat) c84 { fr := frame (82 : Nat) [((1 : Nat), V.ptr (128 : Nat) (0 : Nat)), ((3 : Nat), V.d (D.int IntKind.i64 (IntKind.wrap IntKind.i64 (i + (1 : Int)))))], ob := [((128 : Nat), Obj.box [V.d (D.int IntKind.i64 rt), V.d (D.int IntKind.i64 nn), V.d (D.sl hopSh n1 hops), V.d (D.str nm), V.d (D.sl stepSh n2 steps), V.d (D.int IntKind.i64 st), V.d (D.int IntKind.i64 wy), V.d (D.sl hopSh n3 parts), V.d (D.bool fc)])] }) else Tree.out (resume F3 (callN F3 (m + (40 : Nat))) n n (1 : Nat) c84 { fr := frame (82 : Nat) [((1 : Nat), V.ptr (128 : Nat) (0 : Nat)), ((3 : Nat), V.d (D.int IntKind.i64 i))], ob := [((128 : Nat), Obj.box [V.d (D.int IntKind.i64 rt), V.d (D.int IntKind.i64 nn), V.d (D.sl hopSh n1 hops), V.d (D.str nm), V.d (D.sl stepSh n2 steps), V.d (D.int IntKind.i64 st), V.d (D.int IntKind.i64 wy), V.d (D.sl hopSh n3 parts), V.d (D.bool fc)])] }) else none else none else Tree.out (resume F3 (callN F3 (m + (40 : Nat))) n n (1 : Nat) c84 { fr := frame (82 : Nat) [((1 : Nat), V.ptr (128 : Nat) (0 : Nat)), ((3 : Nat), V.d (D.int IntKind.i64 i))], ob := [((128 : Nat), Obj.box [V.d (D.int IntKind.i64 rt), V.d (D.int IntKind.i64 nn), V.d (D.sl hopSh n1 hops), V.d (D.str nm), V.d (D.sl stepSh n2 steps), V.d (D.int IntKind.i64 st), V.d (D.int IntKind.i64 wy), V.d (D.sl hopSh n3 parts), V.d (D.bool fc)])] }) else none else none else bif decide (i < (↑(List.length parts) : Int)) then bif decide ((0 : Int) ≤ i ∧ i < (↑(List.length parts) : Int)) then bif fi (0 : Nat) (List.getD parts (Int.toNat i) D.nilp) == (0 : Int) then Tree.out (resume F3 (callN F3 (m + (40 : Nat))) n n (1 : Nat) c84 { fr := frame (82 : Nat) [((1 : Nat), V.ptr (128 : Nat) (0 : Nat)), ((3 : Nat), V.d (D.int IntKind.i64 (IntKind.wrap IntKind.i64 (i + (1 : Int)))))], ob := [((128 : Nat), Obj.box [V.d (D.int IntKind.i64 rt), V.d (D.int IntKind.i64 nn), V.d (D.sl hopSh n1 hops), V.d (D.str nm), V.d (D.sl stepSh n2 steps), V.d (D.int IntKind.i64 st), V.d (D.int IntKind.i64 wy), V.d (D.sl hopSh n3 parts), V.d (D.bool fc)])] }) else bif decide ((0 : Int) ≤ i ∧ i < (↑(List.length parts) : Int)) then bif fi (0 : Nat) (List.getD parts (Int.toNat i) D.nilp) == (1 : Int) then Tree.out (resume F3 (callN F3 (m + (40 : Nat))) n n (1 : Nat) c84 { fr := frame (82 : Nat) [((1 : Nat), V.ptr (128 : Nat) (0 : Nat)), ((3 : Nat), V.d (D.int IntKind.i64 (IntKind.wrap IntKind.i64 (i + (1 : Int)))))], ob := [((128 : Nat), Obj.box [V.d (D.int IntKind.i64 rt), V.d (D.int IntKind.i64 nn), V.d (D.sl hopSh n1 hops), V.d (D.str nm), V.d (D.sl stepSh n2 steps), V.d (D.int IntKind.i64 st), V.d (D.int IntKind.i64 wy), V.d (D.sl hopSh n3 parts), V.d (D.bool fc)])] }) else Tree.out (resume F3 (callN F3 (m + (40 : Nat))) n n (1 : Nat) c84 { fr := frame (82 : Nat) [((1 : Nat), V.ptr (128 : Nat) (0 : Nat)), ((3 : Nat), V.d (D.int IntKind.i64 i))], ob := [((128 : Nat), Obj.box [V.d (D.int IntKind.i64 rt), V.d (D.int IntKind.i64 nn), V.d (D.sl hopSh n1 hops), V.d (D.str nm), V.d (D.sl stepSh n2 steps), V.d (D.int IntKind.i64 st), V.d (D.int IntKind.i64 wy), V.d (D.sl hopSh n3 parts), V.d (D.bool fc)])] }) else none else none else Tree.out (resume F3 (callN F3 (m + (40 : Nat))) n n (1 : Nat) c84 { fr := frame (82 : Nat) [((1 : Nat), V.ptr (128 : Nat) (0 : Nat)), ((3 : Nat), V.d (D.int IntKind.i64 i))], ob := [((128 : Nat), Obj.box [V.d (D.int IntKind.i64 rt), V.d (D.int IntKind.i64 nn), V.d (D.sl hopSh n1 hops), V.d (D.str nm), V.d (D.sl stepSh n2 steps), V.d (D.int IntKind.i64 st), V.d (D.int IntKind.i64 wy), V.d (D.sl hopSh n3 parts), V.d (D.bool fc)])] }) := by kernel_rfl
theorem kk84 (m n j : Nat) (rt nn st wy : Int) (n1 n2 n3 fc : Bool) (hops steps parts : List D) (nm : List UInt8) (i : Int) : Go.AM.Tree.out (resume F3 (callN F3 (m+40)) n (j+1) 1 c84 (s84 rt nn st wy n1 n2 n3 fc hops steps parts nm i)) = bif decide (i < (↑(List.length parts) : Int)) then bif decide ((0 : Int) ≤ i ∧ i < (↑(List.length parts) : Int)) then bif fi (0 : Nat) (List.getD parts (Int.toNat i) D.nilp) != (0 : Int) then some [D.bool false] else bif decide ((0 : Int) ≤ i ∧ i < (↑(List.length parts) : Int)) then bif fi (1 : Nat) (List.getD parts (Int.toNat i) D.nilp) != (0 : Int) then some [D.bool false] else Tree.out (resume F3 (callN F3 (m + (40 : Nat))) n j (1 : Nat) c84 { fr := frame (82 : Nat) [((1 : Nat), V.ptr (128 : Nat) (0 : Nat)), ((3 : Nat), V.d (D.int IntKind.i64 (IntKind.wrap IntKind.i64 (i + (1 : Int)))))], ob := [((128 : Nat), Obj.box [V.d (D.int IntKind.i64 rt), V.d (D.int IntKind.i64 nn), V.d (D.sl hopSh n1 hops), V.d (D.str nm), V.d (D.sl stepSh n2 steps), V.d (D.int IntKind.i64 st), V.d (D.int IntKind.i64 wy), V.d (D.sl hopSh n3 parts), V.d (D.bool fc)])] }) else none else none else some [D.bool true] := by kernel_rfl
def s87 (rt nn wy : Int) (n1 n2 n3 fc : Bool) (hops steps parts : List D) (nm : List UInt8) (i : Int) : St := { fr := frame 56 [(1, V.ptr 128 0), (4, V.d (D.int .i64 i))], ob := [(128, .box [V.d (D.int .i64 rt), V.d (D.int .i64 nn), V.d (D.sl hopSh n1 hops), V.d (D.str nm), V.d (D.sl stepSh n2 steps), V.d (D.int .i64 5), V.d (D.int .i64 wy), V.d (D.sl partSh n3 parts), V.d (D.bool fc)])] }
theorem l87 (m n j : Nat) (rt nn wy : Int) (n1 n2 n3 fc : Bool) (hops steps parts : List D) (nm : List UInt8) (i : Int) : Go.AM.Tree.out (resume F3 (callN F3 (m+40)) n (j+1) 1 c87 (s87 rt nn wy n1 n2 n3 fc hops steps parts nm i)) = bif decide ((0 : Int) ≤ i) then bif decide ((0 : Int) ≤ i ∧ i < (↑(List.length parts) : Int)) then bif fi (0 : Nat) (List.getD parts (Int.toNat i) D.nilp) == (1 : Int) then some [D.int IntKind.i64 i] else bif decide ((0 : Int) ≤ i ∧ i < (↑(List.length parts) : Int)) then bif fi (0 : Nat) (List.getD parts (Int.toNat i) D.nilp) == (2 : Int) then some [D.int IntKind.i64 i] else Tree.out (resume F3 (callN F3 (m + (40 : Nat))) n j (1 : Nat) c87 { fr := frame (56 : Nat) [((1 : Nat), V.ptr (128 : Nat) (0 : Nat)), ((4 : Nat), V.d (D.int IntKind.i64 (IntKind.wrap IntKind.i64 (i - (1 : Int)))))], ob := [((128 : Nat), Obj.box [V.d (D.int IntKind.i64 rt), V.d (D.int IntKind.i64 nn), V.d (D.sl hopSh n1 hops), V.d (D.str nm), V.d (D.sl stepSh n2 steps), V.d (D.int IntKind.i64 (5 : Int)), V.d (D.int IntKind.i64 wy), V.d (D.sl hopSh n3 parts), V.d (D.bool fc)])] }) else none else none else some [D.int IntKind.i64 (-1 : Int)] := by kernel_rfl
end Go.Proofs.YtkjiaijkdefkgaaGreatDoor.A
/- What the document's functions answer: names, steps, definitions. -/
namespace Go.Proofs.YtkjiaijkdefkgaaGreatDoor.A
open Go Go.AM
theorem ltd (a b : Int) : decide (a < b) = !decide (b ≤ a) := by by_cases h : b ≤ a <;> simp [h] <;> omega
def smallc (c : Int) : Bool := decide (97 ≤ c) && decide (c ≤ 122)
def digitc (c : Int) : Bool := decide (48 ≤ c) && decide (c ≤ 57)
def nm1 (s : List UInt8) (i : Nat) : Bool := (smallc (s.getD i 0).toNat || digitc (s.getD i 0).toNat) && !(((i : Int) == 0) && digitc (s.getD i 0).toNat)
def refName (s : List UInt8) : Bool := bif decide ((s.length : Int) < 1) then false else bif decide ((16 : Int) < (s.length : Int)) then false else scan (fun i => !nm1 s i) (fun _ => false) true s.length 0
theorem getD_at {s : List UInt8} {i : Nat} (h : i < s.length) : s.getD i 0 = s[i]'h := by rw [List.getD_eq_getElem?_getD, List.getElem?_eq_getElem h]; rfl
theorem okc_iff (c : UInt8) : okc c = true ↔ smallc c.toNat = true ∨ digitc c.toNat = true := by
  simp only [okc, smallc, digitc, ltd, Bool.and_eq_true, Bool.or_eq_true, Bool.not_eq_true', decide_eq_true_eq, Bool.and_eq_false_iff, Bool.or_eq_false_iff, Bool.not_eq_false']
theorem refName_eq (s : List UInt8) : refName s = name s := by
  rw [Bool.eq_iff_iff]
  unfold refName name
  cases h1 : decide ((s.length : Int) < 1)
  · cases h2 : decide ((16 : Int) < (s.length : Int))
    · have h1 := of_decide_eq_false h1
      have hl : 0 < s.length := by omega
      have hne : (s == []) = false := by cases s with | nil => simp at hl | cons a l => rfl
      simp only [cond_false, hne, Bool.not_false, Bool.true_and, Bool.and_eq_true]
      rw [scan_all, List.all_eq_true]
      constructor
      · intro h
        have h0 := h 0 (by omega) (by omega)
        refine ⟨?_, fun c hc => ?_⟩
        · simp only [nm1, smallc, digitc, Bool.and_eq_true, Bool.or_eq_true, Bool.not_eq_true', decide_eq_true_eq, Bool.and_eq_false_iff, decide_eq_false_iff_not] at h0 ⊢
          have : (((0 : Nat) : Int) == 0) = true := rfl
          rw [this] at h0
          simp only [Bool.true_eq_false, false_or] at h0
          omega
        · obtain ⟨i, hi, rfl⟩ := List.getElem_of_mem hc
          have := h i (by omega) (by omega)
          rw [nm1, getD_at hi] at this
          simp only [Bool.and_eq_true, Bool.or_eq_true] at this
          exact (okc_iff _).2 this.1
      · rintro ⟨h0, h⟩ i - hi
        have hi : i < s.length := by omega
        have hc := (okc_iff _).1 (h _ (List.getElem_mem hi))
        rw [nm1, getD_at hi]
        simp only [Bool.and_eq_true, Bool.or_eq_true, Bool.not_eq_true', Bool.and_eq_false_iff]
        refine ⟨hc, ?_⟩
        by_cases hz : i = 0
        · subst hz
          right
          rw [getD_at hi] at h0
          simp only [Bool.not_eq_true', decide_eq_false_iff_not] at h0
          simp only [digitc, Bool.and_eq_false_iff, decide_eq_false_iff_not]
          omega
        · left
          simp; omega
    · simp [h2]
  · have h1 := of_decide_eq_true h1
    have : s = [] := by cases s with | nil => rfl | cons a l => simp at h1; omega
    subst this
    simp
theorem run117 (m n : Nat) (s : List UInt8) (hn : 18 ≤ n) : (enterM E19 (callN E19 (m+40)) n c117 [.d (.str s)] []).out = some [.bool (name s)] := by
  rw [← refName_eq]
  rw [e117]
  unfold refName
  cases h1 : decide ((s.length : Int) < 1)
  · cases h2 : decide ((16 : Int) < (s.length : Int))
    · have h2 := of_decide_eq_false h2
      have := scan_loop (fun j i => (resume E19 (callN E19 (m+40)) n j 0 c117 (s117 s (i : Nat))).out) s.length (fun i => !nm1 s i) (fun _ => [.bool false]) [.bool true]
        (fun j i hi => ?_) (fun j => ?_) s.length 0 n (by omega) (by omega)
      · refine this.trans ?_
        rw [scan_map (fun b : Bool => [D.bool b]) _ (fun _ => false) true]
        rfl
      · rw [l117]
        simp only [Int.toNat_natCast, wrap_up hi (by omega), dec_lt hi, dec_ix hi, cond_true, nm1, smallc, digitc]
        generalize decide ((97 : Int) ≤ _) = b1
        generalize decide (_ ≤ (122 : Int)) = b2
        generalize decide ((48 : Int) ≤ _) = b3
        generalize decide (_ ≤ (57 : Int)) = b4
        generalize ((i : Int) == 0) = b5
        cases b1 <;> cases b2 <;> cases b3 <;> cases b4 <;> cases b5 <;> rfl
      · rw [l117]
        simp only [dec_end, cond_false]
    · rfl
  · rfl
theorem pure117 {P : Program} (hm : P.follows .mixedOrders = true) (h0 : EnvOK P E19) : PureOK P 117 g63 := PureOK.run hm h0 fun ds rs h => by
  unfold g63 at h
  split at h
  · cases h
    exact ⟨59 + 1, by rw [callN_succ (fn := c117) rfl]; exact run117 19 59 _ (by omega)⟩
  · cases h
theorem run179 (m n : Nat) (k am og tr wt : Int) (ac sub : List UInt8) : (enterM F1 (callN F1 (m+40)) n c179 [.d (stepD k am og tr wt ac sub)] []).out = some [.bool (!badStep (stepD k am og tr wt ac sub))] := by
  rw [e179]
  show _ = some [D.bool (!(!own k ac am og sub tr wt && !asks k ac am og sub tr wt))]
  unfold own asks
  simp only [ltd]
  have ha : am ≤ 0 → decide ((1 : Int) ≤ am) = false := fun h => by simp; omega
  by_cases hs : sub = []
  · subst hs
    have : name [] = false := rfl
    rw [this]
    have e0 : decide ((0 : Int) ≤ am) = (decide ((1 : Int) ≤ am) || decide ((0 : Int) ≤ am)) := by
      by_cases h : (1 : Int) ≤ am
      · simp [h]; omega
      · simp [h]
    rw [e0]
    generalize decide ((1 : Int) ≤ k) = b1
    generalize decide (k ≤ (4 : Int)) = b2
    generalize name ac = b3
    generalize decide ((1 : Int) ≤ am) = b4
    generalize decide (am ≤ (1000000000000000 : Int)) = b5
    generalize (og == 0) = b6
    generalize (wt == 0) = b7
    generalize decide ((1 : Int) ≤ tr) = b8
    generalize decide (tr ≤ (5 : Int)) = b9
    cases b1 <;> cases b2 <;> cases b3 <;> cases b4 <;> cases b5 <;> cases b6 <;> cases b7 <;> cases b8 <;> cases b9 <;> rfl
  · have : (sub == []) = false := by simpa using hs
    rw [this]
    have e1 : decide ((16 : Int) ≤ og) = !decide (og ≤ (15 : Int)) := by by_cases h : og ≤ (15 : Int) <;> simp [h] <;> omega
    rw [e1]
    generalize (k == 0) = b1
    generalize (ac == []) = b2
    generalize (am == 0) = b3
    generalize (tr == 0) = b4
    generalize name sub = b5
    generalize decide ((0 : Int) ≤ og) = b6
    generalize decide (og ≤ (15 : Int)) = b7
    generalize decide ((1 : Int) ≤ wt) = b8
    generalize decide (wt ≤ (50 : Int)) = b9
    cases b1 <;> cases b2 <;> cases b3 <;> cases b4 <;> cases b5 <;> cases b6 <;> cases b7 <;> cases b8 <;> cases b9 <;> rfl
theorem pure179 {P : Program} (hm : P.follows .mixedOrders = true) (h0 : EnvOK P F1) : PureOK P 179 g179 := PureOK.run hm h0 fun ds rs h => by
  unfold g179 at h
  split at h
  · cases h
    exact ⟨59 + 1, by rw [callN_succ (fn := c179) rfl]; exact run179 19 59 _ _ _ _ _ _ _⟩
  · cases h
theorem run136 (m n : Nat) (s : List UInt8) (nil : Bool) (es : List D) (hn : 18 ≤ n) : (enterM F2 (callN F2 (m+40)) n c136 [.d (.agg [.str s, .sl stepSh nil es])] []).out = some [.int .i64 (bif defOk s es then 0 else 90)] := by
  rw [e136]
  unfold defOk
  cases name s
  · rfl
  · cases h1 : decide ((es.length : Int) < 1)
    · cases h2 : decide ((8 : Int) < (es.length : Int))
      · have h2 := of_decide_eq_false h2
        have := scan_loop (fun j i => (resume F2 (callN F2 (m+40)) n j 0 c136 (s136 s nil es (i : Nat))).out) es.length (fun i => !(!badStep (es.getD i .nilp))) (fun _ => [.int .i64 90]) [.int .i64 0]
          (fun j i hi => ?_) (fun j => ?_) es.length 0 n (by omega) (by omega)
        · refine this.trans ?_
          have e : scan (fun i => !!badStep (es.getD i .nilp)) (fun _ => [D.int .i64 90]) [D.int .i64 0] es.length 0 = [D.int .i64 (bif scan (fun i => !!badStep (es.getD i .nilp)) (fun _ => false) true es.length 0 then 0 else 90)] := scan_map (fun b : Bool => [D.int .i64 (bif b then 0 else 90)]) _ (fun _ => false) true _ _
          rw [e]
          have : scan (fun i => !(!badStep (es.getD i .nilp))) (fun _ => false) true es.length 0 = !es.any badStep := by
            rw [Bool.eq_iff_iff, scan_all (fun i => !badStep (es.getD i .nilp))]
            simp only [Bool.not_eq_true']
            rw [Bool.eq_false_iff, ne_eq, any_iff]
            constructor
            · rintro h ⟨i, hi, hb⟩
              rw [h i (by omega) (by omega)] at hb; cases hb
            · intro h i _ hi
              cases hb : badStep (es.getD i .nilp)
              · rfl
              · exact (h ⟨i, by omega, hb⟩).elim
          rw [this]
          rfl
        · rw [l136]
          simp only [Int.toNat_natCast, wrap_up hi (by omega), dec_lt hi, dec_ix hi, cond_true]
          rfl
        · rw [l136]
          simp only [dec_end, cond_false]
      · rfl
    · rfl
theorem pure136 {P : Program} (hm : P.follows .mixedOrders = true) (h0 : EnvOK P F2) : PureOK P 136 g136 := PureOK.run hm h0 fun ds rs h => by
  unfold g136 at h
  split at h
  · split at h
    · rename_i hb
      have hb := Sh.beq_eq hb
      subst hb
      cases h
      exact ⟨59 + 1, by rw [callN_succ (fn := c136) rfl]; exact run136 19 59 _ _ _ (by omega)⟩
    · cases h
  · cases h
end Go.Proofs.YtkjiaijkdefkgaaGreatDoor.A
/- What the document's functions answer: ids, parts, counts. -/
namespace Go.Proofs.YtkjiaijkdefkgaaGreatDoor.A
open Go Go.AM
theorem path_iff : ∀ (l : List D) (met : List D), met.length = 16 → (pathOk l met = true ↔ (∀ i, i < l.length → 0 ≤ fi 0 (l.getD i .nilp) ∧ fi 0 (l.getD i .nilp) ≤ 15 ∧ fb 0 (met.getD (fi 0 (l.getD i .nilp)).toNat .nilp) = false) ∧ ∀ i j, i < j → j < l.length → fi 0 (l.getD i .nilp) ≠ fi 0 (l.getD j .nilp))
  | [], met, _ => by simp [pathOk]
  | p :: ps, met, hm => by
    simp only [pathOk, Bool.and_eq_true, Bool.not_eq_true', decide_eq_false_iff_not]
    constructor
    · rintro ⟨h1, h2, h3, h4⟩
      obtain ⟨a, b⟩ := (path_iff ps _ (by rw [List.length_set]; exact hm)).1 h4
      have c : (fi 0 p).toNat < met.length := by omega
      refine ⟨fun i hi => ?_, fun i j hij hj => ?_⟩
      · cases i with
        | zero => exact ⟨by show 0 ≤ fi 0 p; omega, by show fi 0 p ≤ 15; omega, h3⟩
        | succ i =>
          have := a i (by simpa using hi)
          rw [getD_set c] at this
          show 0 ≤ fi 0 (ps.getD i .nilp) ∧ fi 0 (ps.getD i .nilp) ≤ 15 ∧ fb 0 (met.getD (fi 0 (ps.getD i .nilp)).toNat .nilp) = false
          refine ⟨this.1, this.2.1, ?_⟩
          have h5 := this.2.2
          split at h5
          · cases h5
          · exact h5
      · cases j with
        | zero => omega
        | succ j =>
          have hj : j < ps.length := by simpa using hj
          cases i with
          | zero =>
            show fi 0 p ≠ fi 0 (ps.getD j .nilp)
            intro e
            have := (a j hj).2.2
            rw [getD_set c, if_pos (by rw [e])] at this
            cases this
          | succ i => exact b i j (by omega) hj
    · rintro ⟨a, b⟩
      have a0 : 0 ≤ fi 0 p ∧ fi 0 p ≤ 15 ∧ fb 0 (met.getD (fi 0 p).toNat .nilp) = false := a 0 (by simp)
      have c : (fi 0 p).toNat < met.length := by omega
      refine ⟨by omega, by omega, a0.2.2, (path_iff ps _ (by rw [List.length_set]; exact hm)).2 ⟨fun i hi => ?_, fun i j h1 h2 => b (i + 1) (j + 1) (by omega) (by simpa using h2)⟩⟩
      have h1 : 0 ≤ fi 0 (ps.getD i .nilp) ∧ fi 0 (ps.getD i .nilp) ≤ 15 ∧ fb 0 (met.getD (fi 0 (ps.getD i .nilp)).toNat .nilp) = false := a (i + 1) (by simpa using hi)
      have h2 : fi 0 p ≠ fi 0 (ps.getD i .nilp) := b 0 (i + 1) (by omega) (by simpa using hi)
      rw [getD_set c, if_neg (by omega)]
      exact h1
theorem met0_at {k : Nat} (h : k < 16) : fb 0 (met0.getD k .nilp) = false := by
  have : ∀ k : Fin 16, fb 0 (met0.getD k.1 .nilp) = false := by decide
  exact this ⟨k, h⟩
theorem map_org {es : List D} {i : Nat} (h : i < es.length) : fi 0 ((es.map orgOf).getD i .nilp) = fi 1 (es.getD i .nilp) := by
  rw [List.getD_eq_getElem?_getD, List.getElem?_map, List.getD_eq_getElem?_getD, List.getElem?_eq_getElem h]
  rfl
theorem idOk_iff {r q : Int} {es : List D} : idOk r q es = true ↔ (1 ≤ q ∧ q ≤ 999999) ∧ es.length ≤ 4 ∧ (0 ≤ r ∧ r ≤ 15) ∧ (∀ i, i < es.length → (0 ≤ fi 0 (es.getD i .nilp) ∧ fi 0 (es.getD i .nilp) ≤ 7) ∧ (0 ≤ fi 1 (es.getD i .nilp) ∧ fi 1 (es.getD i .nilp) ≤ 15) ∧ fi 1 (es.getD i .nilp) ≠ r) ∧ ∀ i j, i < j → j < es.length → fi 1 (es.getD i .nilp) ≠ fi 1 (es.getD j .nilp) := by
  unfold idOk
  simp only [Bool.and_eq_true, Bool.not_eq_true', decide_eq_false_iff_not]
  rw [path_iff _ _ rfl]
  have hb : es.any badHop = false ↔ ∀ i, i < es.length → 0 ≤ fi 0 (es.getD i .nilp) ∧ fi 0 (es.getD i .nilp) ≤ 7 := by
    rw [Bool.eq_false_iff, ne_eq, any_iff]
    constructor
    · intro h i hi
      have : ¬ badHop (es.getD i .nilp) = true := fun hb => h ⟨i, hi, hb⟩
      simp only [badHop, Bool.or_eq_true, decide_eq_true_eq] at this
      omega
    · rintro h ⟨i, hi, hb⟩
      have := h i hi
      simp only [badHop, Bool.or_eq_true, decide_eq_true_eq] at hb
      omega
  rw [hb]
  have hl : (D.int .i64 r :: es.map orgOf).length = es.length + 1 := by simp
  rw [hl]
  constructor
  · rintro ⟨h1, h2, h3, ⟨h4, h5⟩, h6⟩
    refine ⟨by omega, by omega, ?_, fun i hi => ?_, fun i j hij hj => ?_⟩
    · have := h4 0 (by omega)
      exact ⟨this.1, this.2.1⟩
    · have a := h4 (i + 1) (by omega)
      have b := h5 0 (i + 1) (by omega) (by omega)
      simp only [List.getD_cons_succ, List.getD_cons_zero, map_org hi] at a b
      exact ⟨h6 i hi, ⟨a.1, a.2.1⟩, fun e => b e.symm⟩
    · have b := h5 (i + 1) (j + 1) (by omega) (by omega)
      simp only [List.getD_cons_succ, map_org (show i < es.length by omega), map_org hj] at b
      exact b
  · rintro ⟨h1, h2, h3, h4, h5⟩
    refine ⟨by omega, by omega, by omega, ⟨fun i hi => ?_, fun i j hij hj => ?_⟩, fun i hi => (h4 i hi).1⟩
    · cases i with
      | zero => exact ⟨h3.1, h3.2, met0_at (show r.toNat < 16 by omega)⟩
      | succ i =>
        have hi : i < es.length := by omega
        have := (h4 i hi).2.1
        simp only [List.getD_cons_succ, map_org hi]
        exact ⟨this.1, this.2, met0_at (by omega)⟩
    · cases j with
      | zero => omega
      | succ j =>
        have hj : j < es.length := by omega
        cases i with
        | zero =>
          simp only [List.getD_cons_succ, List.getD_cons_zero, map_org hj]
          exact fun e => (h4 j hj).2.2 e.symm
        | succ i =>
          simp only [List.getD_cons_succ, map_org hj, map_org (show i < es.length by omega)]
          exact h5 i j (by omega) hj
def met89 (es : List D) (i : Nat) : Bool := scan (fun k => fi 1 (es.getD k .nilp) == fi 1 (es.getD i .nilp)) (fun _ => true) false i 0
def bad89 (r : Int) (es : List D) (i : Nat) : Bool := decide (fi 0 (es.getD i .nilp) < 0) || (decide (7 < fi 0 (es.getD i .nilp)) || (decide (fi 1 (es.getD i .nilp) < 0) || (decide (15 < fi 1 (es.getD i .nilp)) || (fi 1 (es.getD i .nilp) == r || met89 es i))))
theorem scan_any (p : Nat → Bool) : ∀ k i, scan p (fun _ => true) false k i = true ↔ ∃ j, i ≤ j ∧ j < i + k ∧ p j = true
  | 0, i => by
    simp only [scan, Bool.false_eq_true, false_iff]
    rintro ⟨j, h1, h2, -⟩
    omega
  | k + 1, i => by
    simp only [scan]
    cases hp : p i
    · rw [cond_false, scan_any p k (i + 1)]
      constructor
      · rintro ⟨j, h1, h2, h3⟩; exact ⟨j, by omega, by omega, h3⟩
      · rintro ⟨j, h1, h2, h3⟩
        by_cases he : j = i
        · subst he; rw [hp] at h3; cases h3
        · exact ⟨j, by omega, by omega, h3⟩
    · simp only [cond_true, true_iff]
      exact ⟨i, by omega, by omega, hp⟩
theorem loop89k (m n jo : Nat) (r q : Int) (nil : Bool) (es : List D) (i : Nat) (hi : i < es.length) (hl : es.length ≤ 1000000) : ∀ (d k j : Nat), k + d = i → d < j →
    (resumeL E19 (callN E19 (m+40)) n [(0, jo), (1, j)] c89 (t89 r q nil es (i : Nat) (fi 0 (es.getD i .nilp)) (fi 1 (es.getD i .nilp)) (k : Nat))).out
      = bif scan (fun k => fi 1 (es.getD k .nilp) == fi 1 (es.getD i .nilp)) (fun _ => true) false d k then some [.int .i64 30] else (resume E19 (callN E19 (m+40)) n jo 0 c89 (s89 r q nil es (i + 1 : Nat))).out := by
  intro d
  induction d with
  | zero =>
    intro k j hk hj
    cases j with
    | zero => omega
    | succ j =>
      have : k = i := by omega
      subst this
      rw [kk89]
      simp only [dec_end, cond_false, wrap_up hi hl, scan]
      rfl
  | succ d ih =>
    intro k j hk hj
    cases j with
    | zero => omega
    | succ j =>
      have hr := ih (k + 1) j (by omega) (by omega)
      rw [kk89]
      simp only [Int.toNat_natCast, wrap_up (show k < i by omega) (by omega), dec_lt (show k < i by omega), dec_ix (show k < es.length by omega), cond_true, scan]
      cases (fi 1 (es.getD k .nilp) == fi 1 (es.getD i .nilp))
      · simp only [cond_false]
        exact hr
      · rfl
theorem run89 (m n : Nat) (r q : Int) (nil : Bool) (es : List D) (hn : 18 ≤ n) : (enterM E19 (callN E19 (m+40)) n c89 [.d (.agg [.int .i64 r, .int .i64 q, .sl hopSh nil es])] []).out = some [.int .i64 (bif idOk r q es then 0 else 30)] := by
  rw [e89]
  by_cases h1 : q < 1
  · have : idOk r q es = false := by rw [Bool.eq_false_iff]; intro h; have := (idOk_iff.1 h).1; omega
    rw [this, decide_eq_true h1]; rfl
  by_cases h2 : 999999 < q
  · have : idOk r q es = false := by rw [Bool.eq_false_iff]; intro h; have := (idOk_iff.1 h).1; omega
    rw [this, decide_eq_false h1, decide_eq_true h2]; rfl
  by_cases h3 : (4 : Int) < es.length
  · have : idOk r q es = false := by rw [Bool.eq_false_iff]; intro h; have := (idOk_iff.1 h).2.1; omega
    rw [this, decide_eq_false h1, decide_eq_false h2, decide_eq_true h3]; rfl
  by_cases h4 : r < 0
  · have : idOk r q es = false := by rw [Bool.eq_false_iff]; intro h; have := (idOk_iff.1 h).2.2.1; omega
    rw [this, decide_eq_false h1, decide_eq_false h2, decide_eq_false h3, decide_eq_true h4]; rfl
  by_cases h5 : 15 < r
  · have : idOk r q es = false := by rw [Bool.eq_false_iff]; intro h; have := (idOk_iff.1 h).2.2.1; omega
    rw [this, decide_eq_false h1, decide_eq_false h2, decide_eq_false h3, decide_eq_false h4, decide_eq_true h5]; rfl
  rw [decide_eq_false h1, decide_eq_false h2, decide_eq_false h3, decide_eq_false h4, decide_eq_false h5]
  simp only [cond_false]
  have := scan_loop (fun j i => (resume E19 (callN E19 (m+40)) n j 0 c89 (s89 r q nil es (i : Nat))).out) es.length (fun i => bad89 r es i) (fun _ => [.int .i64 30]) [.int .i64 0]
    (fun j i hi => ?_) (fun j => ?_) es.length 0 n (by omega) (by omega)
  · refine this.trans ?_
    have e : scan (fun i => bad89 r es i) (fun _ => [D.int .i64 30]) [D.int .i64 0] es.length 0 = [D.int .i64 (bif scan (fun i => bad89 r es i) (fun _ => true) false es.length 0 then 30 else 0)] := scan_map (fun b : Bool => [D.int .i64 (bif b then 30 else 0)]) _ (fun _ => true) false _ _
    rw [e]
    have : scan (fun i => bad89 r es i) (fun _ => true) false es.length 0 = !idOk r q es := by
      rw [Bool.eq_iff_iff, scan_any, Bool.not_eq_true', Bool.eq_false_iff, ne_eq, idOk_iff]
      constructor
      · rintro ⟨i, -, hi, hb⟩ ⟨-, -, -, a, b⟩
        have hi : i < es.length := by omega
        have := a i hi
        simp only [bad89, Bool.or_eq_true, decide_eq_true_eq, beq_iff_eq] at hb
        rcases hb with hb | hb | hb | hb | hb | hb
        · omega
        · omega
        · omega
        · omega
        · exact this.2.2 hb
        · unfold met89 at hb
          obtain ⟨k, -, hk, he⟩ := (scan_any _ _ _).1 hb
          exact b k i (by omega) hi (by simpa using he)
      · intro h
        apply Classical.byContradiction
        intro hno
        refine h ⟨by omega, by omega, by omega, fun i hi => ?_, fun i j hij hj e => ?_⟩
        · have : ¬ bad89 r es i = true := fun hb => hno ⟨i, by omega, by omega, hb⟩
          simp only [bad89, Bool.or_eq_true, decide_eq_true_eq, beq_iff_eq, not_or] at this
          obtain ⟨a, b, c, d, f, -⟩ := this
          exact ⟨by omega, by omega, f⟩
        · refine hno ⟨j, by omega, by omega, ?_⟩
          simp only [bad89, Bool.or_eq_true]
          refine .inr (.inr (.inr (.inr (.inr ?_))))
          unfold met89
          exact (scan_any _ _ _).2 ⟨i, by omega, by omega, by simpa using e⟩
    rw [this]
    cases idOk r q es <;> rfl
  · have hl : es.length ≤ 1000000 := by omega
    have hk := loop89k m n j r q nil es i hi hl i 0 n (by omega) (by omega)
    rw [l89]
    simp only [Int.toNat_natCast, dec_lt hi, dec_ix hi, cond_true, bad89, met89]
    generalize decide (fi 0 (es.getD i .nilp) < 0) = b1
    generalize decide (7 < fi 0 (es.getD i .nilp)) = b2
    generalize decide (fi 1 (es.getD i .nilp) < 0) = b3
    generalize decide (15 < fi 1 (es.getD i .nilp)) = b4
    generalize (fi 1 (es.getD i .nilp) == r) = b5
    cases b1
    · cases b2
      · cases b3
        · cases b4
          · cases b5
            · refine Eq.trans hk ?_
              rfl
            · rfl
          · rfl
        · rfl
      · rfl
    · rfl
  · rw [l89]
    simp only [dec_end, cond_false]
theorem pure89 {P : Program} (hm : P.follows .mixedOrders = true) (h0 : EnvOK P E19) : PureOK P 89 g89 := PureOK.run hm h0 fun ds rs h => by
  unfold g89 at h
  split at h
  · split at h
    · rename_i hb
      have hb := Sh.beq_eq hb
      subst hb
      cases h
      exact ⟨59 + 1, by rw [callN_succ (fn := c89) rfl]; exact run89 19 59 _ _ _ _ (by omega)⟩
    · cases h
  · cases h
end Go.Proofs.YtkjiaijkdefkgaaGreatDoor.A
/- What the document's functions answer: parts, counts, a running saga, the current step of a stuck one. -/
namespace Go.Proofs.YtkjiaijkdefkgaaGreatDoor.A
open Go Go.AM
theorem run82 (m n : Nat) (rt nn st wy : Int) (n1 n2 n3 fc : Bool) (hops steps parts : List D) (nm : List UInt8) (hn : 18 ≤ n) : (enterM F3 (callN F3 (m+40)) n c82 [.d (sagaD rt nn st wy n1 n2 n3 fc hops steps parts nm)] []).out = some [.bool (partsOk nm steps parts)] := by
  rw [e82]
  unfold partsOk
  cases hd : defOk nm steps
  · rfl
  · by_cases hl : (parts.length : Int) = (steps.length : Int)
    · have h8 : steps.length ≤ 8 := by
        unfold defOk at hd
        simp only [Bool.and_eq_true, Bool.not_eq_true', decide_eq_false_iff_not] at hd
        omega
      have hb : ((parts.length : Int) != (steps.length : Int)) = false := by simpa using hl
      have hb' : ((parts.length : Int) == (steps.length : Int)) = true := by simpa using hl
      rw [hb, hb']
      have := scan_loop (fun j i => (resume F3 (callN F3 (m+40)) n j 0 c82 (s82 rt nn st wy n1 n2 n3 fc hops steps parts nm (i : Nat))).out) parts.length (fun i => !p47 (parts.getD i .nilp) (steps.getD i .nilp)) (fun _ => [.bool false]) [.bool true]
        (fun j i hi => ?_) (fun j => ?_) parts.length 0 n (by omega) (by omega)
      · refine this.trans ?_
        rw [scan_map (fun b : Bool => [D.bool b]) _ (fun _ => false) true]
        rfl
      · have hp : p47 (parts.getD i .nilp) (steps.getD i .nilp) = (!decide (fi 0 (parts.getD i .nilp) < 0) && (!decide (4 < fi 0 (parts.getD i .nilp)) && ((!(fi 0 (parts.getD i .nilp) == 1) || asksAt (steps.getD i .nilp)) && (!decide (fi 1 (parts.getD i .nilp) < 0) && !decide (5 < fi 1 (parts.getD i .nilp)))))) := by
          unfold p47
          simp only [ltd, Bool.not_not]
          congr 2
          rw [Bool.or_comm]
          rfl
        rw [l82]
        simp only [Int.toNat_natCast, wrap_up hi (by omega), dec_lt hi, dec_ix hi, dec_ix (show i < steps.length by omega), cond_true, hp, asksAt]
        generalize decide (fi 0 (parts.getD i .nilp) < 0) = b1
        generalize decide (4 < fi 0 (parts.getD i .nilp)) = b2
        generalize (fi 0 (parts.getD i .nilp) == 1) = b3
        generalize (fs 4 (steps.getD i .nilp) == []) = b4
        generalize decide (fi 1 (parts.getD i .nilp) < 0) = b5
        generalize decide (5 < fi 1 (parts.getD i .nilp)) = b6
        cases b1 <;> cases b2 <;> cases b3 <;> cases b4 <;> cases b5 <;> cases b6 <;> rfl
      · rw [l82]
        simp only [dec_end, cond_false]
    · have hb : ((parts.length : Int) != (steps.length : Int)) = true := by simpa using hl
      have hb' : ((parts.length : Int) == (steps.length : Int)) = false := by simpa using hl
      rw [hb, hb']
      rfl
theorem cntN_le (q : Nat → Bool) : ∀ k, cntN q k ≤ k
  | 0 => by simp [cntN]
  | k + 1 => by
    have := cntN_le q k
    simp only [cntN]
    cases q k <;> simp <;> omega
theorem run86 (m n : Nat) (rt nn st wy : Int) (n1 n2 n3 fc : Bool) (hops steps parts : List D) (nm : List UInt8) (ow : Bool) (state : Int) (hl : parts.length ≤ 1000000) (hs : parts.length ≤ steps.length) (hn : parts.length < n) :
    (enterM F3 (callN F3 (m+40)) n c86 [.d (sagaD rt nn st wy n1 n2 n3 fc hops steps parts nm), .d (.bool ow), .d (.int .i64 state)] []).out = some [.int .i64 (cntR ow state parts steps)] := by
  rw [e86]
  have main : ∀ (r i j : Nat), i + r = parts.length → r < j → (resume F3 (callN F3 (m+40)) n j 0 c86 (s86 rt nn st wy n1 n2 n3 fc hops steps parts nm ow state (cntN (qcnt ow state parts steps) i : Nat) (i : Nat))).out = some [.int .i64 (cntR ow state parts steps)] := by
    intro r
    induction r with
    | zero =>
      intro i j hi hj
      cases j with
      | zero => omega
      | succ j =>
        have : i = parts.length := by omega
        subst this
        rw [l86]
        simp only [dec_end, cond_false]
        rfl
    | succ r ih =>
      intro i j hi hj
      cases j with
      | zero => omega
      | succ j =>
        have hlt : i < parts.length := by omega
        have hr := ih (i + 1) j (by omega) (by omega)
        have hc : cntN (qcnt ow state parts steps) (i + 1) = cntN (qcnt ow state parts steps) i + (bif qcnt ow state parts steps i then 1 else 0) := rfl
        have hq : qcnt ow state parts steps i = (fi 0 (parts.getD i .nilp) == state && ((!fs 4 (steps.getD i .nilp) == []) != ow)) := rfl
        have hw : IntKind.wrap .i64 ((cntN (qcnt ow state parts steps) i : Nat) + 1 : Int) = ((cntN (qcnt ow state parts steps) i + 1 : Nat) : Int) := by
          have := cntN_le (qcnt ow state parts steps) i
          rw [wrap_i64 (by omega) (by omega)]
          omega
        rw [l86]
        simp only [Int.toNat_natCast, wrap_up hlt hl, dec_lt hlt, dec_ix hlt, dec_ix (show i < steps.length by omega), cond_true, hw]
        rw [hc, hq] at hr
        cases h1 : (fi 0 (parts.getD i .nilp) == state)
        · rw [h1] at hr
          exact hr
        · rw [h1] at hr
          cases h2 : ((!fs 4 (steps.getD i .nilp) == []) == ow)
          · have h3 : ((!fs 4 (steps.getD i .nilp) == []) != ow) = true := by rw [bne, h2]; rfl
            rw [h3] at hr
            exact hr
          · have h3 : ((!fs 4 (steps.getD i .nilp) == []) != ow) = false := by rw [bne, h2]; rfl
            rw [h3] at hr
            exact hr
  exact main parts.length 0 n (by omega) (by omega)
/-- nothing was begun from a step on -/
def restOk (k : Nat) (parts : List D) : Bool := scan (fun i => !(fi 0 (parts.getD i .nilp) == 0 && fi 1 (parts.getD i .nilp) == 0)) (fun _ => false) true (parts.length - k) k
theorem rest_iff {k : Nat} {parts : List D} : restOk k parts = true ↔ ∀ j, k ≤ j → j < parts.length → stAt parts j = 0 ∧ trAt parts j = 0 := by
  unfold restOk
  rw [scan_all (fun i => (fi 0 (parts.getD i .nilp) == 0 && fi 1 (parts.getD i .nilp) == 0))]
  constructor
  · intro h j h1 h2
    have := h j h1 (by omega)
    simp only [Bool.and_eq_true, beq_iff_eq] at this
    exact this
  · intro h j h1 h2
    have := h j h1 (by omega)
    have a : (fi 0 (parts.getD j .nilp) == 0) = true := beq_iff_eq.2 this.1
    have b : (fi 1 (parts.getD j .nilp) == 0) = true := beq_iff_eq.2 this.2
    rw [a, b]; rfl
theorem tail_rest {parts steps : List D} {k : Nat} (hk : k < parts.length) (hs : p47 (parts.getD k .nilp) (steps.getD k .nilp) = true) : tailOk k parts steps = bif (fi 0 (parts.getD k .nilp) == 0 || fi 0 (parts.getD k .nilp) == 1) then restOk (k + 1) parts else restOk k parts := by
  have hs := q47.1 hs
  rw [Bool.eq_iff_iff, tail_iff (by omega)]
  cases h : (fi 0 (parts.getD k .nilp) == 0 || fi 0 (parts.getD k .nilp) == 1)
  · rw [cond_false, rest_iff]
    simp only [Bool.or_eq_false_iff, beq_eq_false_iff_ne, ne_eq] at h
    constructor
    · intro g j h1 h2
      rcases g j h1 h2 with ⟨rfl, g | ⟨-, g⟩⟩ | g
      · exact absurd g h.1
      · exact absurd g h.2
      · exact g
    · intro g j h1 h2
      exact .inr (g j h1 h2)
  · rw [cond_true, rest_iff]
    simp only [Bool.or_eq_true, beq_iff_eq] at h
    constructor
    · intro g j h1 h2
      rcases g j (by omega) h2 with ⟨e, -⟩ | g
      · omega
      · exact g
    · intro g j h1 h2
      by_cases he : j = k
      · subst he
        left
        refine ⟨rfl, ?_⟩
        rcases h with h | h
        · exact .inl h
        · refine .inr ⟨?_, h⟩
          rcases hs.2.2.1 with a | a
          · exact a
          · exact absurd h a
      · exact .inr (g j (by omega) h2)
theorem run84 (m n : Nat) (rt nn st wy : Int) (n1 n2 n3 fc : Bool) (hops steps parts : List D) (nm : List UInt8) (hl : parts.length ≤ 1000000) (hs : parts.length ≤ steps.length) (hsane : allI p47 parts.length parts steps = true) (hn : parts.length < n) :
    (enterM F3 (callN F3 (m+40)) n c84 [.d (sagaD rt nn st wy n1 n2 n3 fc hops steps parts nm)] []).out = some [.bool (runOk parts steps)] := by
  rw [e84]
  have rest : ∀ i, i ≤ parts.length → (resume F3 (callN F3 (m+40)) n n 1 c84 (s84 rt nn st wy n1 n2 n3 fc hops steps parts nm (i : Nat))).out = some [.bool (restOk i parts)] := by
    intro i hi
    have := scan_loop (fun j i => (resume F3 (callN F3 (m+40)) n j 1 c84 (s84 rt nn st wy n1 n2 n3 fc hops steps parts nm (i : Nat))).out) parts.length (fun i => !(fi 0 (parts.getD i .nilp) == 0 && fi 1 (parts.getD i .nilp) == 0)) (fun _ => [.bool false]) [.bool true]
      (fun j i hi => ?_) (fun j => ?_) (parts.length - i) i n (by omega) (by omega)
    · refine this.trans ?_
      rw [scan_map (fun b : Bool => [D.bool b]) _ (fun _ => false) true]
      rfl
    · rw [kk84]
      simp only [Int.toNat_natCast, wrap_up hi hl, dec_lt hi, dec_ix hi, cond_true, bne]
      generalize (fi 0 (parts.getD i .nilp) == 0) = b1
      generalize (fi 1 (parts.getD i .nilp) == 0) = b2
      cases b1 <;> cases b2 <;> rfl
    · rw [kk84]
      simp only [dec_end, cond_false]
  have main : ∀ (r i j : Nat), i + r = parts.length → r < j → (resume F3 (callN F3 (m+40)) n j 0 c84 (s84 rt nn st wy n1 n2 n3 fc hops steps parts nm (i : Nat))).out = some [.bool (scan (fun i => !p80 (parts.getD i .nilp) (steps.getD i .nilp)) (fun i => tailOk i parts steps) (tailOk parts.length parts steps) r i)] := by
    intro r
    induction r with
    | zero =>
      intro i j hi hj
      cases j with
      | zero => omega
      | succ j =>
        have : i = parts.length := by omega
        subst this
        have hr := rest parts.length (by omega)
        have e1 : tailOk parts.length parts steps = true := (tail_iff (by omega)).2 fun j h1 h2 => by omega
        have e2 : restOk parts.length parts = true := rest_iff.2 fun j h1 h2 => by omega
        rw [e2] at hr
        rw [l84]
        simp only [dec_end, cond_false, scan, e1]
        exact hr
    | succ r ih =>
      intro i j hi hj
      cases j with
      | zero => omega
      | succ j =>
        have hlt : i < parts.length := by omega
        have hr := ih (i + 1) j (by omega) (by omega)
        have ra := rest i (by omega)
        have rb := rest (i + 1) (by omega)
        have ht := tail_rest hlt ((allI_iff _ _ _ _).1 hsane i hlt)
        have hp : p80 (parts.getD i .nilp) (steps.getD i .nilp) = (fi 0 (parts.getD i .nilp) == 2 || ((!fs 4 (steps.getD i .nilp) == []) && fi 0 (parts.getD i .nilp) == 3)) := rfl
        rw [l84]
        simp only [Int.toNat_natCast, wrap_up hlt hl, dec_lt hlt, dec_ix hlt, dec_ix (show i < steps.length by omega), cond_true, scan, hp]
        rw [ht]
        generalize scan _ _ _ r (i + 1) = sc at hr ⊢
        generalize restOk i parts = ri at ra ⊢
        generalize restOk (i + 1) parts = rj at rb ⊢
        cases (fi 0 (parts.getD i .nilp) == 2)
        · cases (fs 4 (steps.getD i .nilp) == [])
          · cases (fi 0 (parts.getD i .nilp) == 3)
            · cases (fi 0 (parts.getD i .nilp) == 0)
              · cases (fi 0 (parts.getD i .nilp) == 1)
                · exact ra
                · exact rb
              · exact rb
            · exact hr
          · cases (fi 0 (parts.getD i .nilp) == 0)
            · cases (fi 0 (parts.getD i .nilp) == 1)
              · exact ra
              · exact rb
            · exact rb
        · exact hr
  exact main parts.length 0 n (by omega) (by omega)
theorem run87 (m n : Nat) (rt nn wy : Int) (n1 n2 n3 fc : Bool) (hops steps parts : List D) (nm : List UInt8) (hl : parts.length ≤ 1000000) (hn : parts.length < n) :
    (enterM F3 (callN F3 (m+40)) n c87 [.d (sagaD rt nn 5 wy n1 n2 n3 fc hops steps parts nm)] []).out = some [.int .i64 (cur 5 parts)] := by
  rw [e87, wrap_down hl]
  refine down_loop (fun j i => (resume F3 (callN F3 (m+40)) n j 1 c87 (s87 rt nn wy n1 n2 n3 fc hops steps parts nm i)).out) parts.length (fun i => isOpen (parts.getD i .nilp)) (fun i => [.int .i64 i]) [.int .i64 (-1)]
    (fun j i hi => ?_) (fun j => ?_) (fun i => [.int .i64 i]) (fun _ => rfl) rfl parts.length n (by omega) (by omega)
  · have h0 : decide ((0 : Int) ≤ (i : Int)) = true := by simp
    rw [l87]
    simp only [Int.toNat_natCast, wrap_down (show i ≤ 1000000 by omega), h0, dec_ix hi, cond_true, isOpen]
    generalize (fi 0 _ == 1) = a0
    generalize (fi 0 _ == 2) = a1
    cases a0 <;> cases a1 <;> rfl
  · have h0 : decide ((0 : Int) ≤ -1) = false := by decide
    rw [l87]
    simp only [h0, cond_false]
theorem pure82 {P : Program} (hm : P.follows .mixedOrders = true) (h0 : EnvOK P F3) : PureOK P 82 g82 := PureOK.run hm h0 fun ds rs h => by
  unfold g82 at h
  split at h
  · split at h
    · rename_i hb
      simp only [Bool.and_eq_true] at hb
      obtain ⟨hb1, hb2, hb3⟩ := hb
      have hb1 := Sh.beq_eq hb1
      have hb2 := Sh.beq_eq hb2
      have hb3 := Sh.beq_eq hb3
      subst hb1 hb2 hb3
      cases h
      exact ⟨59 + 1, by rw [callN_succ (fn := c82) rfl]; exact run82 19 59 _ _ _ _ _ _ _ _ _ _ _ _ (by omega)⟩
    · cases h
  · cases h
theorem pure86 {P : Program} (hm : P.follows .mixedOrders = true) (h0 : EnvOK P F3) : PureOK P 86 g86 := PureOK.run hm h0 fun ds rs h => by
  unfold g86 at h
  split at h
  · rename_i rt nn eh n1 hops nm es n2 steps st wy ep n3 parts fc ow state
    split at h
    · rename_i hb
      simp only [Bool.and_eq_true] at hb
      obtain ⟨hb1, hb2, hb3⟩ := hb
      have hb1 := Sh.beq_eq hb1
      have hb2 := Sh.beq_eq hb2
      have hb3 := Sh.beq_eq hb3
      subst hb1 hb2 hb3
      obtain ⟨hg, h⟩ := eval_guard h
      simp only [Bool.and_eq_true, decide_eq_true_eq] at hg
      cases h
      exact ⟨(parts.length + 40) + 1, by rw [callN_succ (fn := c86) rfl]; exact run86 parts.length (parts.length + 40) rt nn st wy n1 n2 n3 fc hops steps parts nm ow state hg.1 hg.2 (by omega)⟩
    · cases h
  · cases h
theorem pure84 {P : Program} (hm : P.follows .mixedOrders = true) (h0 : EnvOK P F3) : PureOK P 84 g84 := PureOK.run hm h0 fun ds rs h => by
  unfold g84 at h
  split at h
  · rename_i rt nn eh n1 hops nm es n2 steps st wy ep n3 parts fc
    split at h
    · rename_i hb
      simp only [Bool.and_eq_true] at hb
      obtain ⟨hb1, hb2, hb3⟩ := hb
      have hb1 := Sh.beq_eq hb1
      have hb2 := Sh.beq_eq hb2
      have hb3 := Sh.beq_eq hb3
      subst hb1 hb2 hb3
      obtain ⟨hg, h⟩ := eval_guard h
      simp only [Bool.and_eq_true, decide_eq_true_eq] at hg
      cases h
      exact ⟨(parts.length + 40) + 1, by rw [callN_succ (fn := c84) rfl]; exact run84 parts.length (parts.length + 40) rt nn st wy n1 n2 n3 fc hops steps parts nm hg.1 hg.2.1 hg.2.2 (by omega)⟩
    · cases h
  · cases h
theorem pure87 {P : Program} (hm : P.follows .mixedOrders = true) (h0 : EnvOK P F3) : PureOK P 87 g87 := PureOK.run hm h0 fun ds rs h => by
  unfold g87 at h
  split at h
  · rename_i rt nn eh n1 hops nm es n2 steps st wy ep n3 parts fc
    split at h
    · rename_i hb
      simp only [Bool.and_eq_true] at hb
      obtain ⟨hb1, hb2, hb3⟩ := hb
      have hb1 := Sh.beq_eq hb1
      have hb2 := Sh.beq_eq hb2
      have hb3 := Sh.beq_eq hb3
      subst hb1 hb2 hb3
      obtain ⟨hg, h⟩ := eval_guard h
      simp only [Bool.and_eq_true, decide_eq_true_eq, beq_iff_eq] at hg
      obtain ⟨hg, rfl⟩ := hg
      cases h
      exact ⟨(parts.length + 40) + 1, by rw [callN_succ (fn := c87) rfl]; exact run87 parts.length (parts.length + 40) rt nn wy n1 n2 n3 fc hops steps parts nm hg (by omega)⟩
    · cases h
  · cases h
theorem okF4 {P : Program} (hm : P.follows .mixedOrders = true) (h0 : EnvOK P E19) : EnvOK P F4 := by
  have f1 : EnvOK P F1 := h0.pureAt (pure117 hm h0)
  have f2 : EnvOK P F2 := f1.pureAt (pure179 hm f1)
  have f3 : EnvOK P F3 := (f2.pureAt (pure136 hm f2)).pureAt (pure89 hm h0)
  exact (((f3.pureAt (pure82 hm f3)).pureAt (pure86 hm f3)).pureAt (pure84 hm f3)).pureAt (pure87 hm f3)
end Go.Proofs.YtkjiaijkdefkgaaGreatDoor.A
/- The document's saga may be where the program's may be. -/
namespace Go.Proofs.YtkjiaijkdefkgaaGreatDoor.A
open Go Go.AM
theorem cnt_all {q : Nat → Bool} : ∀ {n : Nat}, cntN q n = n ↔ ∀ i, i < n → q i = true
  | 0 => by simp [cntN]
  | n + 1 => by
    have hle := cntN_le q n
    have ih := @cnt_all q n
    simp only [cntN]
    cases hq : q n
    · constructor
      · intro h; simp only [cond_false] at h; omega
      · intro h; have := h n (by omega); rw [hq] at this; cases this
    · constructor
      · intro h i hi
        simp only [cond_true] at h
        by_cases he : i = n
        · rw [he]; exact hq
        · exact ih.1 (by omega) i (by omega)
      · intro h
        have := ih.2 fun i hi => h i (by omega)
        simp only [cond_true]; omega
theorem cnt_none {q : Nat → Bool} : ∀ {n : Nat}, cntN q n = 0 ↔ ∀ i, i < n → q i = false
  | 0 => by simp [cntN]
  | n + 1 => by
    have ih := @cnt_none q n
    simp only [cntN]
    cases hq : q n
    · constructor
      · intro h i hi
        by_cases he : i = n
        · rw [he]; exact hq
        · exact ih.1 (by simpa using h) i (by omega)
      · intro h
        have := ih.2 fun i hi => h i (by omega)
        simpa using this
    · constructor
      · intro h; simp at h
      · intro h; have := h n (by omega); rw [hq] at this; cases this
def b2n (b : Bool) : Nat := bif b then 1 else 0
theorem cnt_add {q a b : Nat → Bool} : ∀ {n : Nat}, (∀ i, i < n → b2n (q i) = b2n (a i) + b2n (b i)) → cntN q n = cntN a n + cntN b n
  | 0, _ => rfl
  | n + 1, h => by
    have := cnt_add (n := n) fun i hi => h i (by omega)
    have h2 := h n (by omega)
    simp only [b2n] at h2
    simp only [cntN]
    omega
theorem cntR_small {ow : Bool} {k : Int} {parts steps : List D} : 0 ≤ cntR ow k parts steps ∧ cntR ow k parts steps ≤ parts.length := by
  have := cntN_le (qcnt ow k parts steps) parts.length
  unfold cntR
  omega
theorem any_sum {k : Int} {parts steps : List D} : cntR true k parts steps + cntR false k parts steps = (cntN (fun i => fi 0 (parts.getD i .nilp) == k) parts.length : Nat) := by
  unfold cntR
  rw [cnt_add (q := fun i => fi 0 (parts.getD i .nilp) == k) (a := qcnt true k parts steps) (b := qcnt false k parts steps)]
  · omega
  · intro i _
    unfold qcnt
    cases (fi 0 (parts.getD i .nilp) == k) <;> cases asksAt (steps.getD i .nilp) <;> rfl
theorem all_cnt {p : D → D → Bool} {parts steps : List D} : allI p parts.length parts steps = ((cntN (fun i => p (parts.getD i .nilp) (steps.getD i .nilp)) parts.length : Nat) == (parts.length : Int)) := by
  rw [Bool.eq_iff_iff, allI_iff, beq_iff_eq]
  constructor
  · intro h; have := cnt_all.2 h; omega
  · intro h; exact cnt_all.1 (by omega)
theorem none_cnt {p : D → D → Bool} {q : Nat → Bool} {parts steps : List D} (h : ∀ i, i < parts.length → q i = !p (parts.getD i .nilp) (steps.getD i .nilp)) : allI p parts.length parts steps = ((cntN q parts.length : Nat) == (0 : Int)) := by
  rw [Bool.eq_iff_iff, allI_iff, beq_iff_eq]
  constructor
  · intro g
    have := (cnt_none (q := q)).2 fun i hi => by rw [h i hi, g i hi]; rfl
    omega
  · intro g i hi
    have := cnt_none.1 (show cntN q parts.length = 0 by omega) i hi
    rw [h i hi] at this
    simpa using this
theorem w_small {a : Int} (h0 : 0 ≤ a) (h : a ≤ 1000) : IntKind.wrap .i64 a = a := wrap_i64 h0 (by omega)
section
variable {parts steps : List D}
theorem fA : decide (0 < cntR true 2 parts steps) = !allI p81 parts.length parts steps := by
  rw [none_cnt (q := qcnt true 2 parts steps)]
  · have := (cntR_small (ow := true) (k := 2) (parts := parts) (steps := steps)).1
    unfold cntR at *
    by_cases h : cntN (qcnt true 2 parts steps) parts.length = 0
    · rw [h]; rfl
    · rw [decide_eq_true (by omega), beqF (by omega)]; rfl
  · intro i _
    unfold qcnt p81
    cases (fi 0 (parts.getD i .nilp) == 2) <;> cases asksAt (steps.getD i .nilp) <;> rfl
theorem fB : allI p84 parts.length parts steps = (allI p81 parts.length parts steps && (cntR true 4 parts steps == 0)) := by
  have h4 : (cntR true 4 parts steps == 0) = allI (fun x y => asksAt y || !(fi 0 x == 4)) parts.length parts steps := by
    rw [none_cnt (q := qcnt true 4 parts steps)]
    · rfl
    · intro i _
      unfold qcnt
      cases (fi 0 (parts.getD i .nilp) == 4) <;> cases asksAt (steps.getD i .nilp) <;> rfl
  rw [h4, Bool.eq_iff_iff, Bool.and_eq_true, allI_iff, allI_iff, allI_iff]
  have pt : ∀ x y, p84 x y = (p81 x y && (asksAt y || !(fi 0 x == 4))) := by
    intro x y
    unfold p84 p81
    cases asksAt y <;> cases (fi 0 x == 2) <;> cases (fi 0 x == 4) <;> rfl
  constructor
  · intro h
    exact ⟨fun i hi => by have := h i hi; rw [pt, Bool.and_eq_true] at this; exact this.1, fun i hi => by have := h i hi; rw [pt, Bool.and_eq_true] at this; exact this.2⟩
  · rintro ⟨h1, h2⟩ i hi
    rw [pt, h1 i hi, h2 i hi]; rfl
theorem fC (h8 : parts.length ≤ 8) : (IntKind.wrap .i64 (IntKind.wrap .i64 (cntR true 2 parts steps + cntR false 2 parts steps) + cntR false 3 parts steps) == (parts.length : Int)) = allI p80 parts.length parts steps := by
  have a := cntR_small (ow := true) (k := 2) (parts := parts) (steps := steps)
  have b := cntR_small (ow := false) (k := 2) (parts := parts) (steps := steps)
  have c := cntR_small (ow := false) (k := 3) (parts := parts) (steps := steps)
  rw [w_small (show 0 ≤ cntR true 2 parts steps + cntR false 2 parts steps by omega) (by omega), w_small (by omega) (by omega), all_cnt, any_sum]
  rw [cnt_add (q := fun i => p80 (parts.getD i .nilp) (steps.getD i .nilp)) (a := fun i => fi 0 (parts.getD i .nilp) == 2) (b := qcnt false 3 parts steps)]
  · unfold cntR
    rw [Int.natCast_add]
  · intro i _
    unfold p80 qcnt
    by_cases h : fi 0 (parts.getD i .nilp) = 2
    · rw [h]; cases asksAt (steps.getD i .nilp) <;> rfl
    · rw [beqF h]; cases (fi 0 (parts.getD i .nilp) == 3) <;> cases asksAt (steps.getD i .nilp) <;> rfl
theorem fD (h8 : parts.length ≤ 8) : (IntKind.wrap .i64 (IntKind.wrap .i64 (cntR true 4 parts steps + cntR false 4 parts steps) + cntR false 2 parts steps) == (parts.length : Int)) = allI p83 parts.length parts steps := by
  have a := cntR_small (ow := true) (k := 4) (parts := parts) (steps := steps)
  have b := cntR_small (ow := false) (k := 4) (parts := parts) (steps := steps)
  have c := cntR_small (ow := false) (k := 2) (parts := parts) (steps := steps)
  rw [w_small (show 0 ≤ cntR true 4 parts steps + cntR false 4 parts steps by omega) (by omega), w_small (by omega) (by omega), all_cnt, any_sum]
  rw [cnt_add (q := fun i => p83 (parts.getD i .nilp) (steps.getD i .nilp)) (a := fun i => fi 0 (parts.getD i .nilp) == 4) (b := qcnt false 2 parts steps)]
  · unfold cntR
    rw [Int.natCast_add]
  · intro i _
    unfold p83 qcnt
    by_cases h : fi 0 (parts.getD i .nilp) = 4
    · rw [h]; cases asksAt (steps.getD i .nilp) <;> rfl
    · rw [beqF h]; cases (fi 0 (parts.getD i .nilp) == 2) <;> cases asksAt (steps.getD i .nilp) <;> rfl
theorem fE (h8 : parts.length ≤ 8) : (IntKind.wrap .i64 (cntR true 4 parts steps + cntR false 4 parts steps) == 0) = allI (p97 w4) parts.length parts steps := by
  have a := cntR_small (ow := true) (k := 4) (parts := parts) (steps := steps)
  have b := cntR_small (ow := false) (k := 4) (parts := parts) (steps := steps)
  rw [w_small (by omega) (by omega), any_sum, none_cnt (q := fun i => fi 0 (parts.getD i .nilp) == 4)]
  intro i _
  have := @q974 (parts.getD i .nilp) (steps.getD i .nilp)
  by_cases h : fi 0 (parts.getD i .nilp) = 4
  · have h2 : p97 w4 (parts.getD i .nilp) (steps.getD i .nilp) = false := by rw [Bool.eq_false_iff]; intro g; exact this.1 g h
    rw [h2, h]; rfl
  · rw [this.2 h, beqF h]; rfl
theorem fF (h8 : parts.length ≤ 8) (hs : allI p47 parts.length parts steps = true) : (IntKind.wrap .i64 (IntKind.wrap .i64 (cntR true 0 parts steps + cntR false 0 parts steps) + IntKind.wrap .i64 (cntR true 3 parts steps + cntR false 3 parts steps)) == (parts.length : Int)) = allI (p97 w124) parts.length parts steps := by
  have a := cntR_small (ow := true) (k := 0) (parts := parts) (steps := steps)
  have b := cntR_small (ow := false) (k := 0) (parts := parts) (steps := steps)
  have c := cntR_small (ow := true) (k := 3) (parts := parts) (steps := steps)
  have d := cntR_small (ow := false) (k := 3) (parts := parts) (steps := steps)
  rw [w_small (show 0 ≤ cntR true 0 parts steps + cntR false 0 parts steps by omega) (by omega), w_small (show 0 ≤ cntR true 3 parts steps + cntR false 3 parts steps by omega) (by omega), w_small (by omega) (by omega), all_cnt, any_sum, any_sum]
  rw [cnt_add (q := fun i => p97 w124 (parts.getD i .nilp) (steps.getD i .nilp)) (a := fun i => fi 0 (parts.getD i .nilp) == 0) (b := fun i => fi 0 (parts.getD i .nilp) == 3)]
  · rw [Int.natCast_add]
  · intro i hi
    have hq := q47.1 ((allI_iff _ _ _ _).1 hs i hi)
    have := @q97124 (parts.getD i .nilp) (steps.getD i .nilp)
    have hv : fi 0 (parts.getD i .nilp) = 0 ∨ fi 0 (parts.getD i .nilp) = 1 ∨ fi 0 (parts.getD i .nilp) = 2 ∨ fi 0 (parts.getD i .nilp) = 3 ∨ fi 0 (parts.getD i .nilp) = 4 := by omega
    cases hp : p97 w124 (parts.getD i .nilp) (steps.getD i .nilp)
    · have h2 : ¬ (fi 0 (parts.getD i .nilp) ≠ 1 ∧ fi 0 (parts.getD i .nilp) ≠ 2 ∧ fi 0 (parts.getD i .nilp) ≠ 4) := fun g => by rw [this.2 g] at hp; cases hp
      rcases hv with h | h | h | h | h
      · exact (h2 ⟨by omega, by omega, by omega⟩).elim
      · rw [h]; rfl
      · rw [h]; rfl
      · exact (h2 ⟨by omega, by omega, by omega⟩).elim
      · rw [h]; rfl
    · have h2 := this.1 hp
      rcases hv with h | h | h | h | h
      · rw [h]; rfl
      · omega
      · omega
      · rw [h]; rfl
      · omega
end
theorem run36 (m n : Nat) (rt nn st wy : Int) (n1 n2 n3 fc : Bool) (hops steps parts : List D) (nm : List UInt8) :
    (enterM F4 (callN F4 (m+40)) n c36 [.d (sagaD rt nn st wy n1 n2 n3 fc hops steps parts nm)] []).out = some [.int .i64 (bif mayOk rt nn st wy fc hops steps parts nm then 0 else 230)] := by
  rw [e36]
  have hid : ((bif idOk rt nn hops then (0 : Int) else 30) != 0) = !idOk rt nn hops := by cases idOk rt nn hops <;> rfl
  have hwy : (wy != 0) = !(wy == 0) := rfl
  rw [hid, hwy]
  by_cases h7 : st = 7
  · subst h7
    unfold mayOk
    have e1 : decide (0 < (steps.length : Int) + (parts.length : Int)) = !((steps.length : Int) == 0 && (parts.length : Int) == 0) := by
      by_cases h1 : (steps.length : Int) = 0
      · by_cases h2 : (parts.length : Int) = 0
        · rw [h1, h2]; rfl
        · rw [h1, beqF h2, decide_eq_true (by omega)]; rfl
      · rw [beqF h1, decide_eq_true (by omega)]; rfl
    have e2 : ((hops.length : Int) == 0) = !decide (0 < (hops.length : Int)) := by
      by_cases h1 : (hops.length : Int) = 0
      · rw [h1]; rfl
      · rw [beqF h1, decide_eq_true (by omega)]; rfl
    rw [e1, e2]
    have e77 : ((7 : Int) == 7) = true := rfl
    simp only [e77, cond_true]
    generalize (nm == []) = b1
    generalize ((steps.length : Int) == 0) = b2
    generalize ((parts.length : Int) == 0) = b3
    generalize decide (1 ≤ wy) = b4
    generalize decide (wy ≤ 9) = b5
    generalize decide (0 < (hops.length : Int)) = b6
    generalize idOk rt nn hops = b7
    cases b1 <;> cases b2 <;> cases b3 <;> cases b4 <;> cases b5 <;> cases b6 <;> cases b7 <;> cases fc <;> rfl
  · have b7 := beqF h7
    rw [b7]
    simp only [cond_false]
    cases hp : partsOk nm steps parts
    · have hm : mayOk rt nn st wy fc hops steps parts nm = false := by
        unfold mayOk
        rw [b7]
        unfold partsOk at hp
        rw [bne]
        cases idOk rt nn hops
        · rfl
        · cases hd : defOk nm steps
          · rfl
          · rw [hd] at hp
            cases hl : ((parts.length : Int) == (steps.length : Int))
            · rfl
            · rw [hl] at hp
              cases hs : allI p47 parts.length parts steps
              · rfl
              · rw [hs] at hp; cases hp
      rw [hm]
      rfl
    · have hp' := hp
      unfold partsOk at hp'
      simp only [Bool.and_eq_true, beq_iff_eq] at hp'
      obtain ⟨hd, hl, hs⟩ := hp'
      have h8 : parts.length ≤ 8 := by
        unfold defOk at hd
        simp only [Bool.and_eq_true, Bool.not_eq_true', decide_eq_false_iff_not] at hd
        omega
      have hm : mayOk rt nn st wy fc hops steps parts nm = (idOk rt nn hops && fitsOk st wy fc hops parts steps) := by
        unfold mayOk
        rw [b7, hd, hs, bne, beq_iff_eq.2 hl]
        cases idOk rt nn hops <;> cases fitsOk st wy fc hops parts steps <;> rfl
      have gg : (decide (parts.length ≤ 1000000) && decide (parts.length ≤ steps.length)) = true := by
        rw [decide_eq_true (show parts.length ≤ 1000000 by omega), decide_eq_true (show parts.length ≤ steps.length by omega)]; rfl
      have gs : (decide (parts.length ≤ 1000000) && (decide (parts.length ≤ steps.length) && allI p47 parts.length parts steps)) = true := by
        rw [decide_eq_true (show parts.length ≤ 1000000 by omega), decide_eq_true (show parts.length ≤ steps.length by omega), hs]; rfl
      rw [hm, gg, gs, fA, fC h8, fD h8, fE h8, fF h8 hs]
      simp only [cond_true]
      generalize idOk rt nn hops = a
      by_cases h1 : st = 1
      · subst h1
        show _ = some [D.int .i64 (bif a && (bif !fc then bif wy == 0 then runOk parts steps else false else false) then 0 else 230)]
        generalize (wy == 0) = w0
        generalize decide (1 ≤ wy) = w1
        generalize decide (wy ≤ 9) = w9
        generalize runOk parts steps = ro
        generalize allI p81 parts.length parts steps = x81
        cases a <;> cases fc <;> cases w0 <;> cases w1 <;> cases w9 <;> cases ro <;> cases x81 <;> rfl
      by_cases h2 : st = 2
      · subst h2
        show _ = some [D.int .i64 (bif a && (bif !fc then bif wy == 0 then bif decide (0 < (hops.length : Int)) then allI p80 parts.length parts steps else false else false else false) then 0 else 230)]
        generalize (wy == 0) = w0
        generalize decide (1 ≤ wy) = w1
        generalize decide (wy ≤ 9) = w9
        generalize decide (0 < (hops.length : Int)) = hh
        generalize allI p80 parts.length parts steps = x80
        generalize allI p81 parts.length parts steps = x81
        cases a <;> cases fc <;> cases w0 <;> cases w1 <;> cases w9 <;> cases hh <;> cases x80 <;> cases x81 <;> rfl
      by_cases h3 : st = 3
      · subst h3
        show _ = some [D.int .i64 (bif a && (bif fc then bif wy == 0 then allI p81 parts.length parts steps else bif decide (1 ≤ wy) then bif decide (wy ≤ 9) then allI p81 parts.length parts steps else false else false
          else bif wy == 0 then allI p83 parts.length parts steps else false) then 0 else 230)]
        generalize (wy == 0) = w0
        generalize decide (1 ≤ wy) = w1
        generalize decide (wy ≤ 9) = w9
        generalize allI p83 parts.length parts steps = x83
        generalize allI p81 parts.length parts steps = x81
        cases a <;> cases fc <;> cases w0 <;> cases w1 <;> cases w9 <;> cases x83 <;> cases x81 <;> rfl
      by_cases h4 : st = 4
      · subst h4
        show _ = some [D.int .i64 (bif a && (bif fc then false else bif decide (1 ≤ wy) then bif !decide (wy ≤ 9) then false else bif !allI (p97 w4) parts.length parts steps then false else true else false) then 0 else 230)]
        generalize (wy == 0) = w0
        generalize decide (1 ≤ wy) = w1
        generalize decide (wy ≤ 9) = w9
        generalize allI (p97 w4) parts.length parts steps = x4
        generalize allI p81 parts.length parts steps = x81
        cases a <;> cases fc <;> cases w0 <;> cases w1 <;> cases w9 <;> cases x4 <;> cases x81 <;> rfl
      by_cases h5 : st = 5
      · subst h5
        have hx : (decide (parts.length ≤ 1000000) && (5 : Int) == 5) = true := by rw [decide_eq_true (show parts.length ≤ 1000000 by omega)]; rfl
        rw [hx]
        show _ = some [D.int .i64 (bif a && (bif fc then false else bif decide (1 ≤ wy) then bif !decide (wy ≤ 9) then false else bif !allI (p97 w4) parts.length parts steps then false else
          bif decide (0 ≤ cur 5 parts) then bif !!fs 4 (steps.getD (cur 5 parts).toNat .nilp) == [] then fi 1 (parts.getD (cur 5 parts).toNat .nilp) == 5 else false else false else false) then 0 else 230)]
        by_cases hc : 0 ≤ cur 5 parts
        · have hlt := (cur5_spec hc).1
          have d1 : decide ((0 : Int) ≤ cur 5 parts ∧ cur 5 parts < (steps.length : Int)) = true := decide_eq_true (by omega)
          have d2 : decide ((0 : Int) ≤ cur 5 parts ∧ cur 5 parts < (parts.length : Int)) = true := decide_eq_true (by omega)
          rw [decide_eq_true hc, d1, d2]
          generalize (wy == 0) = w0
          generalize decide (1 ≤ wy) = w1
          generalize decide (wy ≤ 9) = w9
          generalize allI (p97 w4) parts.length parts steps = x4
          generalize allI p81 parts.length parts steps = x81
          generalize (fs 4 (steps.getD (cur 5 parts).toNat .nilp) == []) = y1
          generalize (fi 1 (parts.getD (cur 5 parts).toNat .nilp) == 5) = y2
          cases a <;> cases fc <;> cases w0 <;> cases w1 <;> cases w9 <;> cases x4 <;> cases x81 <;> cases y1 <;> cases y2 <;> rfl
        · rw [decide_eq_false hc]
          generalize (wy == 0) = w0
          generalize decide (1 ≤ wy) = w1
          generalize decide (wy ≤ 9) = w9
          generalize allI (p97 w4) parts.length parts steps = x4
          generalize allI p81 parts.length parts steps = x81
          cases a <;> cases fc <;> cases w0 <;> cases w1 <;> cases w9 <;> cases x4 <;> cases x81 <;> rfl
      by_cases h6 : st = 6
      · subst h6
        show _ = some [D.int .i64 (bif a && (bif fc then bif wy == 0 then allI p84 parts.length parts steps else bif decide (1 ≤ wy) then bif decide (wy ≤ 9) then allI p84 parts.length parts steps else false else false
          else bif decide (1 ≤ wy) then bif decide (wy ≤ 9) then !!allI (p97 w124) parts.length parts steps else false else false) then 0 else 230)]
        rw [fB]
        generalize (wy == 0) = w0
        generalize decide (1 ≤ wy) = w1
        generalize decide (wy ≤ 9) = w9
        generalize allI (p97 w124) parts.length parts steps = x4
        generalize allI p81 parts.length parts steps = x81
        generalize (cntR true 4 parts steps == 0) = c4
        cases a <;> cases fc <;> cases w0 <;> cases w1 <;> cases w9 <;> cases x4 <;> cases x81 <;> cases c4 <;> rfl
      · have hf : fitsOk st wy fc hops parts steps = false := by
          unfold fitsOk
          rw [beqF h1, beqF h2, beqF h3, beqF h4, beqF h5, beqF h6]
          rfl
        rw [hf, beqF h1, beqF h2, beqF h3, beqF h4, beqF h5, beqF h6]
        generalize (wy == 0) = w0
        generalize decide (1 ≤ wy) = w1
        generalize decide (wy ≤ 9) = w9
        generalize allI p81 parts.length parts steps = x81
        cases a <;> cases fc <;> cases w0 <;> cases w1 <;> cases w9 <;> cases x81 <;> rfl
def g36 : List D → Tree (List D)
  | [.agg [.int .i64 rt, .int .i64 nn, .sl eh _ hops, .str nm, .sl es _ steps, .int .i64 st, .int .i64 wy, .sl ep _ parts, .bool fc]] => match (Sh.beq eh hopSh && (Sh.beq es stepSh && Sh.beq ep partSh)) with
    | true => .ret [.int .i64 (bif mayOk rt nn st wy fc hops steps parts nm then 0 else 230)]
    | false => .stuck
  | _ => .stuck
theorem pure36 {P : Program} (hm : P.follows .mixedOrders = true) (h0 : EnvOK P F4) : PureOK P 36 g36 := PureOK.run hm h0 fun ds rs h => by
  unfold g36 at h
  split at h
  · split at h
    · rename_i hb
      simp only [Bool.and_eq_true] at hb
      obtain ⟨hb1, hb2, hb3⟩ := hb
      have hb1 := Sh.beq_eq hb1
      have hb2 := Sh.beq_eq hb2
      have hb3 := Sh.beq_eq hb3
      subst hb1 hb2 hb3
      cases h
      exact ⟨59 + 1, by rw [callN_succ (fn := c36) rfl]; exact run36 19 59 _ _ _ _ _ _ _ _ _ _ _ _⟩
    · cases h
  · cases h
def F5 : Env := F4.pureAt 36 true g36
theorem okF5 {P : Program} (hm : P.follows .mixedOrders = true) (h0 : EnvOK P E19) : EnvOK P F5 := (okF4 hm h0).pureAt (pure36 hm (okF4 hm h0))
end Go.Proofs.YtkjiaijkdefkgaaGreatDoor.A
/- Equations of the walk. -/
open Go Go.AM Go.Proofs
namespace Go.Proofs.YtkjiaijkdefkgaaGreatDoor.A
theorem e15 (m n : Nat) (rt nn st wy : Int) (n1 n2 n3 fc : Bool) (hops steps parts : List D) (nm : List UInt8) : Go.AM.Tree.out (enterM F5 (callN F5 (m+40)) n c15 [.d (sagaD rt nn st wy n1 n2 n3 fc hops steps parts nm)] []) = bif decide (List.length steps ≤ (1000000 : Nat)) then bif decide (List.length parts ≤ (1000000 : Nat)) then bif (bif mayOk rt nn st wy fc hops steps parts nm then (0 : Int) else (230 : Int)) != (0 : Int) then some [D.agg [D.int IntKind.i64 (0 : Int), D.int IntKind.i64 (0 : Int), D.int IntKind.i64 (0 : Int), D.sl hopSh true [], D.str [], D.int IntKind.i64 (0 : Int)], D.bool false] else bif (↑(List.length hops) : Int) == (0 : Int) then some [D.agg [D.int IntKind.i64 (0 : Int), D.int IntKind.i64 (0 : Int), D.int IntKind.i64 (0 : Int), D.sl hopSh true [], D.str [], D.int IntKind.i64 (0 : Int)], D.bool false] else bif n1 then bif st == (2 : Int) then some [D.agg [D.int IntKind.i64 (5 : Int), D.int IntKind.i64 rt, D.int IntKind.i64 nn, D.sl hopSh true [], D.str [], D.int IntKind.i64 (0 : Int)], D.bool true] else bif st == (3 : Int) then some [D.agg [D.int IntKind.i64 (7 : Int), D.int IntKind.i64 rt, D.int IntKind.i64 nn, D.sl hopSh true [], D.str [], D.int IntKind.i64 (0 : Int)], D.bool true] else bif st == (6 : Int) then bif wy == (0 : Int) then some [D.agg [D.int IntKind.i64 (6 : Int), D.int IntKind.i64 rt, D.int IntKind.i64 nn, D.sl hopSh true [], D.str [], D.int IntKind.i64 (6 : Int)], D.bool true] else some [D.agg [D.int IntKind.i64 (6 : Int), D.int IntKind.i64 rt, D.int IntKind.i64 nn, D.sl hopSh true [], D.str [], D.int IntKind.i64 wy], D.bool true] else bif st == (7 : Int) then bif wy == (0 : Int) then some [D.agg [D.int IntKind.i64 (6 : Int), D.int IntKind.i64 rt, D.int IntKind.i64 nn, D.sl hopSh true [], D.str [], D.int IntKind.i64 (6 : Int)], D.bool true] else some [D.agg [D.int IntKind.i64 (6 : Int), D.int IntKind.i64 rt, D.int IntKind.i64 nn, D.sl hopSh true [], D.str [], D.int IntKind.i64 wy], D.bool true] else some [D.agg [D.int IntKind.i64 (0 : Int), D.int IntKind.i64 (0 : Int), D.int IntKind.i64 (0 : Int), D.sl hopSh true [], D.str [], D.int IntKind.i64 (0 : Int)], D.bool false] else bif decide (List.length hops ≤ (1000000 : Nat)) then bif st == (2 : Int) then some [D.agg [D.int IntKind.i64 (5 : Int), D.int IntKind.i64 rt, D.int IntKind.i64 nn, D.sl hopSh false hops, D.str [], D.int IntKind.i64 (0 : Int)], D.bool true] else bif st == (3 : Int) then some [D.agg [D.int IntKind.i64 (7 : Int), D.int IntKind.i64 rt, D.int IntKind.i64 nn, D.sl hopSh false hops, D.str [], D.int IntKind.i64 (0 : Int)], D.bool true] else bif st == (6 : Int) then bif wy == (0 : Int) then some [D.agg [D.int IntKind.i64 (6 : Int), D.int IntKind.i64 rt, D.int IntKind.i64 nn, D.sl hopSh false hops, D.str [], D.int IntKind.i64 (6 : Int)], D.bool true] else some [D.agg [D.int IntKind.i64 (6 : Int), D.int IntKind.i64 rt, D.int IntKind.i64 nn, D.sl hopSh false hops, D.str [], D.int IntKind.i64 wy], D.bool true] else bif st == (7 : Int) then bif wy == (0 : Int) then some [D.agg [D.int IntKind.i64 (6 : Int), D.int IntKind.i64 rt, D.int IntKind.i64 nn, D.sl hopSh false hops, D.str [], D.int IntKind.i64 (6 : Int)], D.bool true] else some [D.agg [D.int IntKind.i64 (6 : Int), D.int IntKind.i64 rt, D.int IntKind.i64 nn, D.sl hopSh false hops, D.str [], D.int IntKind.i64 wy], D.bool true] else some [D.agg [D.int IntKind.i64 (0 : Int), D.int IntKind.i64 (0 : Int), D.int IntKind.i64 (0 : Int), D.sl hopSh true [], D.str [], D.int IntKind.i64 (0 : Int)], D.bool false] else none else none else none := by kernel_rfl
theorem e16 (m n : Nat) (rt nn st wy : Int) (n1 n2 n3 fc : Bool) (hops steps parts : List D) (nm : List UInt8) : Go.AM.Tree.out (enterM F5 (callN F5 (m+40)) n c16 [.d (sagaD rt nn st wy n1 n2 n3 fc hops steps parts nm)] []) = bif (bif mayOk rt nn st wy fc hops steps parts nm then (0 : Int) else (230 : Int)) != (0 : Int) then some [D.agg [D.int IntKind.i64 (0 : Int), D.int IntKind.i64 (0 : Int), D.int IntKind.i64 (0 : Int), D.sl hopSh true [], D.str [], D.int IntKind.i64 (0 : Int)], D.bool false] else bif (↑(List.length hops) : Int) == (0 : Int) then some [D.agg [D.int IntKind.i64 (0 : Int), D.int IntKind.i64 (0 : Int), D.int IntKind.i64 (0 : Int), D.sl hopSh true [], D.str [], D.int IntKind.i64 (0 : Int)], D.bool false] else bif st == (2 : Int) then some [D.agg [D.int IntKind.i64 (5 : Int), D.int IntKind.i64 rt, D.int IntKind.i64 nn, D.sl hopSh n1 hops, D.str [], D.int IntKind.i64 (0 : Int)], D.bool true] else bif st == (3 : Int) then some [D.agg [D.int IntKind.i64 (7 : Int), D.int IntKind.i64 rt, D.int IntKind.i64 nn, D.sl hopSh n1 hops, D.str [], D.int IntKind.i64 (0 : Int)], D.bool true] else bif st != (6 : Int) then bif st != (7 : Int) then some [D.agg [D.int IntKind.i64 (0 : Int), D.int IntKind.i64 (0 : Int), D.int IntKind.i64 (0 : Int), D.sl hopSh true [], D.str [], D.int IntKind.i64 (0 : Int)], D.bool false] else bif wy == (0 : Int) then some [D.agg [D.int IntKind.i64 (6 : Int), D.int IntKind.i64 rt, D.int IntKind.i64 nn, D.sl hopSh n1 hops, D.str [], D.int IntKind.i64 (6 : Int)], D.bool true] else some [D.agg [D.int IntKind.i64 (6 : Int), D.int IntKind.i64 rt, D.int IntKind.i64 nn, D.sl hopSh n1 hops, D.str [], D.int IntKind.i64 wy], D.bool true] else bif wy == (0 : Int) then some [D.agg [D.int IntKind.i64 (6 : Int), D.int IntKind.i64 rt, D.int IntKind.i64 nn, D.sl hopSh n1 hops, D.str [], D.int IntKind.i64 (6 : Int)], D.bool true] else some [D.agg [D.int IntKind.i64 (6 : Int), D.int IntKind.i64 rt, D.int IntKind.i64 nn, D.sl hopSh n1 hops, D.str [], D.int IntKind.i64 wy], D.bool true] := by kernel_rfl
theorem e100 (m n : Nat) (r q : Int) (nil : Bool) (es : List D) (r' q' : Int) (nil' : Bool) (es' : List D) : Go.AM.Tree.out (enterM F5 (callN F5 (m+40)) n c100 [.d (.agg [.int .i64 r, .int .i64 q, .sl hopSh nil es]), .d (.agg [.int .i64 r', .int .i64 q', .sl hopSh nil' es'])] []) = bif r != r' then bif decide (r < r') then some [D.int IntKind.i64 (-1 : Int)] else bif decide (r' < r) then some [D.int IntKind.i64 (1 : Int)] else some [D.int IntKind.i64 (0 : Int)] else bif q != q' then bif decide (q < q') then some [D.int IntKind.i64 (-1 : Int)] else bif decide (q' < q) then some [D.int IntKind.i64 (1 : Int)] else some [D.int IntKind.i64 (0 : Int)] else Tree.out (resume F5 (callN F5 (m + (40 : Nat))) n n (0 : Nat) c100 { fr := frame (79 : Nat) [((2 : Nat), V.ptr (192 : Nat) (0 : Nat)), ((3 : Nat), V.ptr (256 : Nat) (0 : Nat)), ((5 : Nat), V.d (D.int IntKind.i64 (0 : Int)))], ob := [((192 : Nat), Obj.box [V.d (D.int IntKind.i64 r), V.d (D.int IntKind.i64 q), V.d (D.sl hopSh nil es)]), ((256 : Nat), Obj.box [V.d (D.int IntKind.i64 r'), V.d (D.int IntKind.i64 q'), V.d (D.sl hopSh nil' es')])] }) := by kernel_rfl
def s100 (r q : Int) (nil : Bool) (es : List D) (r' q' : Int) (nil' : Bool) (es' : List D) (i : Int) : St := { fr := frame 79 [(2, V.ptr 192 0), (3, V.ptr 256 0), (5, V.d (D.int .i64 i))], ob := [(192, .box [V.d (D.int .i64 r), V.d (D.int .i64 q), V.d (D.sl hopSh nil es)]), (256, .box [V.d (D.int .i64 r'), V.d (D.int .i64 q'), V.d (D.sl hopSh nil' es')])] }
theorem l100 (m n j : Nat) (r q : Int) (nil : Bool) (es : List D) (r' q' : Int) (nil' : Bool) (es' : List D) (i : Int) : Go.AM.Tree.out (resume F5 (callN F5 (m+40)) n (j+1) 0 c100 (s100 r q nil es r' q' nil' es' i)) = bif decide (i < (↑(List.length es) : Int)) then bif decide (i < (↑(List.length es') : Int)) then bif decide ((0 : Int) ≤ i ∧ i < (↑(List.length es) : Int)) then bif decide ((0 : Int) ≤ i ∧ i < (↑(List.length es') : Int)) then bif fi (0 : Nat) (List.getD es (Int.toNat i) D.nilp) != fi (0 : Nat) (List.getD es' (Int.toNat i) D.nilp) then bif decide (fi (0 : Nat) (List.getD es (Int.toNat i) D.nilp) < fi (0 : Nat) (List.getD es' (Int.toNat i) D.nilp)) then some [D.int IntKind.i64 (-1 : Int)] else bif decide (fi (0 : Nat) (List.getD es' (Int.toNat i) D.nilp) < fi (0 : Nat) (List.getD es (Int.toNat i) D.nilp)) then some [D.int IntKind.i64 (1 : Int)] else some [D.int IntKind.i64 (0 : Int)] else bif fi (1 : Nat) (List.getD es (Int.toNat i) D.nilp) != fi (1 : Nat) (List.getD es' (Int.toNat i) D.nilp) then bif decide (fi (1 : Nat) (List.getD es (Int.toNat i) D.nilp) < fi (1 : Nat) (List.getD es' (Int.toNat i) D.nilp)) then some [D.int IntKind.i64 (-1 : Int)] else bif decide (fi (1 : Nat) (List.getD es' (Int.toNat i) D.nilp) < fi (1 : Nat) (List.getD es (Int.toNat i) D.nilp)) then some [D.int IntKind.i64 (1 : Int)] else some [D.int IntKind.i64 (0 : Int)] else Tree.out (resume F5 (callN F5 (m + (40 : Nat))) n j (0 : Nat) c100 { fr := frame (79 : Nat) [((2 : Nat), V.ptr (192 : Nat) (0 : Nat)), ((3 : Nat), V.ptr (256 : Nat) (0 : Nat)), ((5 : Nat), V.d (D.int IntKind.i64 (IntKind.wrap IntKind.i64 (i + (1 : Int)))))], ob := [((192 : Nat), Obj.box [V.d (D.int IntKind.i64 r), V.d (D.int IntKind.i64 q), V.d (D.sl hopSh nil es)]), ((256 : Nat), Obj.box [V.d (D.int IntKind.i64 r'), V.d (D.int IntKind.i64 q'), V.d (D.sl hopSh nil' es')])] }) else none else none else bif decide ((↑(List.length es) : Int) < (↑(List.length es') : Int)) then some [D.int IntKind.i64 (-1 : Int)] else bif decide ((↑(List.length es') : Int) < (↑(List.length es) : Int)) then some [D.int IntKind.i64 (1 : Int)] else some [D.int IntKind.i64 (0 : Int)] else bif decide ((↑(List.length es) : Int) < (↑(List.length es') : Int)) then some [D.int IntKind.i64 (-1 : Int)] else bif decide ((↑(List.length es') : Int) < (↑(List.length es) : Int)) then some [D.int IntKind.i64 (1 : Int)] else some [D.int IntKind.i64 (0 : Int)] := by kernel_rfl
end Go.Proofs.YtkjiaijkdefkgaaGreatDoor.A
/- Ids are compared; a saga tells its parent. -/
namespace Go.Proofs.YtkjiaijkdefkgaaGreatDoor.A
open Go Go.AM
def numb (x y : Int) : Int := bif decide (x < y) then -1 else bif decide (y < x) then 1 else 0
def refCmp (r q : Int) (es : List D) (r' q' : Int) (es' : List D) : Int :=
  bif r != r' then numb r r' else bif q != q' then numb q q' else
    scan (fun i => (fi 0 (es.getD i .nilp) != fi 0 (es'.getD i .nilp)) || (fi 1 (es.getD i .nilp) != fi 1 (es'.getD i .nilp)))
      (fun i => bif fi 0 (es.getD i .nilp) != fi 0 (es'.getD i .nilp) then numb (fi 0 (es.getD i .nilp)) (fi 0 (es'.getD i .nilp)) else numb (fi 1 (es.getD i .nilp)) (fi 1 (es'.getD i .nilp)))
      (numb es.length es'.length) (min es.length es'.length) 0
theorem refCmp_self (r q : Int) (es : List D) : refCmp r q es r q es = 0 := by
  unfold refCmp
  have h1 : ∀ x : Int, (x != x) = false := fun x => by simp
  have h2 : ∀ x : Int, numb x x = 0 := fun x => by unfold numb; simp
  rw [h1, h1, scan_none]
  · exact h2 _
  · intro j _ _
    rw [h1, h1]; rfl
theorem run100 (m n : Nat) (r q : Int) (nil : Bool) (es : List D) (r' q' : Int) (nil' : Bool) (es' : List D) (hl : es.length ≤ 1000000) (hn : es.length < n) :
    (enterM F5 (callN F5 (m+40)) n c100 [.d (.agg [.int .i64 r, .int .i64 q, .sl hopSh nil es]), .d (.agg [.int .i64 r', .int .i64 q', .sl hopSh nil' es'])] []).out = some [.int .i64 (refCmp r q es r' q' es')] := by
  rw [e100]
  unfold refCmp
  have three : ∀ x y : Int, (bif decide (x < y) then some [D.int .i64 (-1)] else bif decide (y < x) then some [D.int .i64 1] else some [D.int .i64 0]) = some [D.int .i64 (numb x y)] := by
    intro x y
    unfold numb
    cases decide (x < y) <;> cases decide (y < x) <;> rfl
  rw [three, three]
  cases (r != r')
  · cases (q != q')
    · have := scan_loop (fun j i => (resume F5 (callN F5 (m+40)) n j 0 c100 (s100 r q nil es r' q' nil' es' (i : Nat))).out) (min es.length es'.length) (fun i => (fi 0 (es.getD i .nilp) != fi 0 (es'.getD i .nilp)) || (fi 1 (es.getD i .nilp) != fi 1 (es'.getD i .nilp)))
        (fun i => [.int .i64 (bif fi 0 (es.getD i .nilp) != fi 0 (es'.getD i .nilp) then numb (fi 0 (es.getD i .nilp)) (fi 0 (es'.getD i .nilp)) else numb (fi 1 (es.getD i .nilp)) (fi 1 (es'.getD i .nilp)))]) [.int .i64 (numb es.length es'.length)]
        (fun j i hi => ?_) (fun j => ?_) (min es.length es'.length) 0 n (by omega) (by omega)
      · refine this.trans ?_
        rw [scan_map (fun b : Int => [D.int .i64 b])]
        rfl
      · have hi1 : i < es.length := by omega
        have hi2 : i < es'.length := by omega
        rw [l100]
        simp only [Int.toNat_natCast, wrap_up hi1 hl, dec_lt hi1, dec_ix hi1, dec_lt hi2, dec_ix hi2, cond_true, three]
        cases (fi 0 (es.getD i .nilp) != fi 0 (es'.getD i .nilp))
        · cases (fi 1 (es.getD i .nilp) != fi 1 (es'.getD i .nilp)) <;> rfl
        · rfl
      · rw [l100]
        simp only [three]
        by_cases h : es.length ≤ es'.length
        · rw [Nat.min_eq_left h]
          simp only [dec_end, cond_false]
        · rw [Nat.min_eq_right (by omega)]
          simp only [dec_end, cond_false, dec_lt (show es'.length < es.length by omega), cond_true]
    · rfl
  · rfl
def g100 : List D → Tree (List D)
  | [.agg [.int .i64 r, .int .i64 q, .sl e _ es], .agg [.int .i64 r', .int .i64 q', .sl e' _ es']] => match Sh.beq e hopSh && Sh.beq e' hopSh with
    | true => .ite (decide (es.length ≤ 1000000)) (fun _ => .ret [.int .i64 (refCmp r q es r' q' es')]) (fun _ => .stuck)
    | false => .stuck
  | _ => .stuck
theorem pure100 {P : Program} (hm : P.follows .mixedOrders = true) (h0 : EnvOK P F5) : PureOK P 100 g100 := PureOK.run hm h0 fun ds rs h => by
  unfold g100 at h
  split at h
  · rename_i r q e nil es r' q' e' nil' es'
    split at h
    · rename_i hb
      simp only [Bool.and_eq_true] at hb
      obtain ⟨hb1, hb2⟩ := hb
      have hb1 := Sh.beq_eq hb1
      have hb2 := Sh.beq_eq hb2
      subst hb1 hb2
      obtain ⟨hg, h⟩ := eval_guard h
      cases h
      exact ⟨(es.length + 40) + 1, by rw [callN_succ (fn := c100) rfl]; exact run100 es.length (es.length + 40) r q nil es r' q' nil' es' (of_decide_eq_true hg) (by omega)⟩
    · cases h
  · cases h
def tellOk (rt nn st wy : Int) (fc : Bool) (hops steps parts : List D) (nm : List UInt8) : Bool :=
  mayOk rt nn st wy fc hops steps parts nm && (!((hops.length : Int) == 0) && (st == 2 || (st == 3 || (st == 6 || st == 7))))
def tellK (st : Int) : Int := bif st == 2 then 5 else bif st == 3 then 7 else 6
def tellW (st wy : Int) : Int := bif st == 2 || st == 3 then 0 else bif wy == 0 then 6 else wy
def noteD (k r q : Int) (nil : Bool) (hops : List D) (df : List UInt8) (w : Int) : D := .agg [.int .i64 k, .int .i64 r, .int .i64 q, .sl hopSh nil hops, .str df, .int .i64 w]
def tellT (rt nn st wy : Int) (n1 fc : Bool) (hops steps parts : List D) (nm : List UInt8) : Tree (List D) :=
  .ite (tellOk rt nn st wy fc hops steps parts nm) (fun _ => .ret [.agg [.int .i64 (tellK st), .int .i64 rt, .int .i64 nn, .sl hopSh n1 hops, .str [], .int .i64 (tellW st wy)], .bool true])
    (fun _ => .ret [.agg [.int .i64 0, .int .i64 0, .int .i64 0, .sl hopSh true [], .str [], .int .i64 0], .bool false])
theorem tell_st {st : Int} : st = 2 ∨ st = 3 ∨ st = 6 ∨ st = 7 ∨ ((st == 2) = false ∧ (st == 3) = false ∧ (st == 6) = false ∧ (st == 7) = false) := by
  by_cases h2 : st = 2
  · exact .inl h2
  · by_cases h3 : st = 3
    · exact .inr (.inl h3)
    · by_cases h6 : st = 6
      · exact .inr (.inr (.inl h6))
      · by_cases h7 : st = 7
        · exact .inr (.inr (.inr (.inl h7)))
        · exact .inr (.inr (.inr (.inr ⟨beqF h2, beqF h3, beqF h6, beqF h7⟩)))
theorem run16 (m n : Nat) (rt nn st wy : Int) (n1 n2 n3 fc : Bool) (hops steps parts : List D) (nm : List UInt8) :
    (enterM F5 (callN F5 (m+40)) n c16 [.d (sagaD rt nn st wy n1 n2 n3 fc hops steps parts nm)] []).out = (tellT rt nn st wy n1 fc hops steps parts nm).eval := by
  rw [e16]
  unfold tellT tellOk tellK tellW
  cases mayOk rt nn st wy fc hops steps parts nm
  · rfl
  · cases ((hops.length : Int) == 0)
    · rcases tell_st (st := st) with rfl | rfl | rfl | rfl | ⟨a, b, c, d⟩
      · rfl
      · rfl
      · cases (wy == 0) <;> rfl
      · cases (wy == 0) <;> rfl
      · have e6 : (st != 6) = true := by rw [bne, c]; rfl
        have e7 : (st != 7) = true := by rw [bne, d]; rfl
        rw [e6, e7, a, b, c, d]; rfl
    · rfl
theorem run15 (m n : Nat) (rt nn st wy : Int) (n1 n2 n3 fc : Bool) (hops steps parts : List D) (nm : List UInt8) (h1 : n1 = true → hops = []) (l1 : hops.length ≤ 1000000) (l2 : steps.length ≤ 1000000) (l3 : parts.length ≤ 1000000) :
    (enterM F5 (callN F5 (m+40)) n c15 [.d (sagaD rt nn st wy n1 n2 n3 fc hops steps parts nm)] []).out = (tellT rt nn st wy n1 fc hops steps parts nm).eval := by
  rw [e15, decide_eq_true l1, decide_eq_true l2, decide_eq_true l3]
  unfold tellT tellOk tellK tellW
  cases mayOk rt nn st wy fc hops steps parts nm
  · rfl
  · cases hl : ((hops.length : Int) == 0)
    · have hn : n1 = false := by
        cases n1 with
        | false => rfl
        | true => rw [h1 rfl] at hl; cases hl
      subst hn
      rcases tell_st (st := st) with rfl | rfl | rfl | rfl | ⟨a, b, c, d⟩
      · rfl
      · rfl
      · cases (wy == 0) <;> rfl
      · cases (wy == 0) <;> rfl
      · rw [a, b, c, d]; rfl
    · rfl
def g16 : List D → Tree (List D)
  | [.agg [.int .i64 rt, .int .i64 nn, .sl eh n1 hops, .str nm, .sl es _ steps, .int .i64 st, .int .i64 wy, .sl ep _ parts, .bool fc]] => match (Sh.beq eh hopSh && (Sh.beq es stepSh && Sh.beq ep partSh)) with
    | true => tellT rt nn st wy n1 fc hops steps parts nm
    | false => .stuck
  | _ => .stuck
def g15 : List D → Tree (List D)
  | [.agg [.int .i64 rt, .int .i64 nn, .sl eh n1 hops, .str nm, .sl es _ steps, .int .i64 st, .int .i64 wy, .sl ep _ parts, .bool fc]] => match (Sh.beq eh hopSh && (Sh.beq es stepSh && Sh.beq ep partSh)) with
    | true => .ite ((!n1 || hops.isEmpty) && (decide (hops.length ≤ 1000000) && (decide (steps.length ≤ 1000000) && decide (parts.length ≤ 1000000)))) (fun _ => tellT rt nn st wy n1 fc hops steps parts nm) (fun _ => .stuck)
    | false => .stuck
  | _ => .stuck
theorem pure16 {P : Program} (hm : P.follows .mixedOrders = true) (h0 : EnvOK P F5) : PureOK P 16 g16 := PureOK.run hm h0 fun ds rs h => by
  unfold g16 at h
  split at h
  · split at h
    · rename_i hb
      simp only [Bool.and_eq_true] at hb
      obtain ⟨hb1, hb2, hb3⟩ := hb
      have hb1 := Sh.beq_eq hb1
      have hb2 := Sh.beq_eq hb2
      have hb3 := Sh.beq_eq hb3
      subst hb1 hb2 hb3
      exact ⟨59 + 1, by rw [callN_succ (fn := c16) rfl]; exact (run16 19 59 _ _ _ _ _ _ _ _ _ _ _ _).trans h⟩
    · cases h
  · cases h
theorem pure15 {P : Program} (hm : P.follows .mixedOrders = true) (h0 : EnvOK P F5) : PureOK P 15 g15 := PureOK.run hm h0 fun ds rs h => by
  unfold g15 at h
  split at h
  · split at h
    · rename_i hb
      simp only [Bool.and_eq_true] at hb
      obtain ⟨hb1, hb2, hb3⟩ := hb
      have hb1 := Sh.beq_eq hb1
      have hb2 := Sh.beq_eq hb2
      have hb3 := Sh.beq_eq hb3
      subst hb1 hb2 hb3
      obtain ⟨hg, h⟩ := eval_guard h
      simp only [Bool.and_eq_true, Bool.or_eq_true, Bool.not_eq_true', List.isEmpty_iff, decide_eq_true_eq] at hg
      obtain ⟨a1, a2, a3, a4⟩ := hg
      exact ⟨59 + 1, by rw [callN_succ (fn := c15) rfl]; exact (run15 19 59 _ _ _ _ _ _ _ _ _ _ _ _ (fun h => by rcases a1 with a | a; (rw [h] at a; cases a); exact a) a2 a3 a4).trans h⟩
    · cases h
  · cases h
def F6 : Env := ((F5.pureAt 100 true g100).pureAt 15 false g15).pureAt 16 false g16
theorem okF6 {P : Program} (hm : P.follows .mixedOrders = true) (h0 : EnvOK P E19) : EnvOK P F6 := (((okF5 hm h0).pureAt (pure100 hm (okF5 hm h0))).pureAt (pure15 hm (okF5 hm h0))).pureAt (pure16 hm (okF5 hm h0))
/-- the document's probes are known -/
def F7 : Env := F6.pureAt 14 true g20
end Go.Proofs.YtkjiaijkdefkgaaGreatDoor.A
/- Equations of the walk. -/
open Go Go.AM Go.Proofs
namespace Go.Proofs.YtkjiaijkdefkgaaGreatDoor.A
theorem e3 (m n : Nat) (rt nn st wy : Int) (n1 n2 n3 fc : Bool) (hops steps parts : List D) (nm : List UInt8) : Go.AM.Tree.out (enterM F7 (callN F7 (m+40)) n c3 [.d (sagaD rt nn st wy n1 n2 n3 fc hops steps parts nm)] []) = bif !few hops steps parts then some [D.bool true] else bif (!n1 || List.isEmpty hops) && (decide (List.length hops ≤ (1000000 : Nat)) && (decide (List.length steps ≤ (1000000 : Nat)) && decide (List.length parts ≤ (1000000 : Nat)))) then bif tellOk rt nn st wy fc hops steps parts nm then bif tellOk rt nn st wy fc hops steps parts nm then bif tellK st == tellK st then bif decide (List.length hops ≤ (1000000 : Nat)) then bif refCmp rt nn hops rt nn hops == (0 : Int) then bif tellW st wy == tellW st wy then some [D.bool true] else some [D.bool false] else some [D.bool false] else none else some [D.bool false] else bif tellK st == (0 : Int) then bif decide (List.length hops ≤ (1000000 : Nat)) then bif refCmp rt nn hops (0 : Int) (0 : Int) [] == (0 : Int) then bif tellW st wy == (0 : Int) then some [D.bool false] else some [D.bool false] else some [D.bool false] else none else some [D.bool false] else bif tellOk rt nn st wy fc hops steps parts nm then bif (0 : Int) == tellK st then bif refCmp (0 : Int) (0 : Int) [] rt nn hops == (0 : Int) then bif (0 : Int) == tellW st wy then some [D.bool false] else some [D.bool false] else some [D.bool false] else some [D.bool false] else some [D.bool true] else none := by kernel_rfl
end Go.Proofs.YtkjiaijkdefkgaaGreatDoor.A
/- ChildTells: the walk and the law joined. -/
namespace Go.Proofs.YtkjiaijkdefkgaaGreatDoor.A
open Go Go.AM
theorem tells (m n : Nat) (rt nn st wy : Int) (n1 n2 n3 fc : Bool) (hops steps parts : List D) (nm : List UInt8) (h1 : n1 = true → hops = []) :
    (enterM F7 (callN F7 (m+40)) n c3 [.d (sagaD rt nn st wy n1 n2 n3 fc hops steps parts nm)] []).out = some [.bool true] := by
  rw [e3]
  cases hf : few hops steps parts
  · rfl
  · unfold few at hf
    simp only [Bool.and_eq_true, decide_eq_true_eq] at hf
    obtain ⟨f1, f2, f3⟩ := hf
    have g : ((!n1 || hops.isEmpty) && (decide (hops.length ≤ 1000000) && (decide (steps.length ≤ 1000000) && decide (parts.length ≤ 1000000)))) = true := by
      rw [decide_eq_true (show hops.length ≤ 1000000 by omega), decide_eq_true (show steps.length ≤ 1000000 by omega), decide_eq_true (show parts.length ≤ 1000000 by omega)]
      cases n1 with
      | false => rfl
      | true => rw [h1 rfl]; rfl
    have e1 : (tellK st == tellK st) = true := by simp
    have e2 : (tellW st wy == tellW st wy) = true := by simp
    rw [g, e1, e2, refCmp_self, decide_eq_true (show hops.length ≤ 1000000 by omega)]
    cases tellOk rt nn st wy fc hops steps parts nm <;> rfl
end Go.Proofs.YtkjiaijkdefkgaaGreatDoor.A
