/- Equations of the walk. -/
import Derived.Test.YtkjiaijkdefkgaaGreatDoorHe
import Derived.Test.YtkjiaijkdefkgaaGreatDoorGc
import Derived.KernelRfl

open Go Go.AM Go.Proofs
namespace Go.Proofs.YtkjiaijkdefkgaaGreatDoor.A
theorem e45 (m n : Nat) (rt nn st wy : Int) (n1 n2 n3 fc : Bool) (hops steps parts : List D) (nm : List UInt8) (rt' nn' st' wy' : Int) (n1' n2' n3' fc' : Bool) (hops' steps' parts' : List D) (nm' : List UInt8) (i : Int) : Go.AM.Tree.out (enterM E20 (callN E20 (m+40)) n c45 [.d (sagaD rt nn st wy n1 n2 n3 fc hops steps parts nm), .d (sagaD rt' nn' st' wy' n1' n2' n3' fc' hops' steps' parts' nm'), .d (.int .i64 i)] []) = bif decide ((0 : Int) ≤ i ∧ i < (↑(List.length parts) : Int)) then bif fi (0 : Nat) (List.getD parts (Int.toNat i) D.nilp) != (3 : Int) then bif decide ((0 : Int) ≤ i ∧ i < (↑(List.length parts') : Int)) then some [D.bool (fi (0 : Nat) (List.getD parts' (Int.toNat i) D.nilp) == (3 : Int))] else none else some [D.bool false] else none := by kernel_rfl
def moveSh : Sh := .agg [.int .i64, .int .i64, .int .i64, .sl hopSh, .int .i64, .int .i64, .str, .sl stepSh]
theorem e43 (m n : Nat) (kd mr mn sp mw : Int) (k1 k2 : Bool) (mh ms : List D) (mm : List UInt8) (nl : Bool) (l : List D) : Go.AM.Tree.out (enterM E20 (callN E20 (m+40)) n c43 [.d (moveD kd mr mn sp mw k1 k2 mh ms mm), .d (.sl moveSh nl l)] []) = bif decide ((100 : Int) < (↑(List.length l) : Int)) then some [D.bool false] else bif !fewM mh ms then some [D.bool false] else Tree.out (resume E20 (callN E20 (m + (40 : Nat))) n n (0 : Nat) c43 { fr := frame (26 : Nat) [((1 : Nat), V.d (D.sl (Sh.agg [Sh.int IntKind.i64, Sh.int IntKind.i64, Sh.int IntKind.i64, Sh.sl hopSh, Sh.int IntKind.i64, Sh.int IntKind.i64, Sh.str, Sh.sl stepSh]) nl l)), ((5 : Nat), V.d (D.int IntKind.i64 (0 : Int)))], ob := [((192 : Nat), Obj.box [V.d (D.int IntKind.i64 kd), V.d (D.int IntKind.i64 mr), V.d (D.int IntKind.i64 mn), V.d (D.sl hopSh k1 mh), V.d (D.int IntKind.i64 sp), V.d (D.int IntKind.i64 mw), V.d (D.str mm), V.d (D.sl stepSh k2 ms)])] }) := by kernel_rfl
def s43 (kd mr mn sp mw : Int) (k1 k2 : Bool) (mh ms : List D) (mm : List UInt8) (nl : Bool) (l : List D) (i : Int) : St := { fr := frame 26 [(1, V.d (D.sl moveSh nl l)), (5, V.d (D.int .i64 i))], ob := [(192, .box [V.d (D.int IntKind.i64 kd), V.d (D.int IntKind.i64 mr), V.d (D.int IntKind.i64 mn), V.d (D.sl hopSh k1 mh), V.d (D.int IntKind.i64 sp), V.d (D.int IntKind.i64 mw), V.d (D.str mm), V.d (D.sl stepSh k2 ms)])] }
theorem l43 (m n j : Nat) (kd mr mn sp mw : Int) (k1 k2 : Bool) (mh ms : List D) (mm : List UInt8) (nl : Bool) (l : List D) (i : Int) : Go.AM.Tree.out (resume E20 (callN E20 (m+40)) n (j+1) 0 c43 (s43 kd mr mn sp mw k1 k2 mh ms mm nl l i)) = bif decide (i < (↑(List.length l) : Int)) then bif decide ((0 : Int) ≤ i ∧ i < (↑(List.length l) : Int)) then bif !fewM (fl (3 : Nat) (List.getD l (Int.toNat i) D.nilp)) (fl (7 : Nat) (List.getD l (Int.toNat i) D.nilp)) then some [D.bool false] else Tree.out (resume E20 (callN E20 (m + (40 : Nat))) n j (0 : Nat) c43 { fr := frame (26 : Nat) [((1 : Nat), V.d (D.sl (Sh.agg [Sh.int IntKind.i64, Sh.int IntKind.i64, Sh.int IntKind.i64, Sh.sl hopSh, Sh.int IntKind.i64, Sh.int IntKind.i64, Sh.str, Sh.sl stepSh]) nl l)), ((5 : Nat), V.d (D.int IntKind.i64 (IntKind.wrap IntKind.i64 (i + (1 : Int)))))], ob := [((192 : Nat), Obj.box [V.d (D.int IntKind.i64 kd), V.d (D.int IntKind.i64 mr), V.d (D.int IntKind.i64 mn), V.d (D.sl hopSh k1 mh), V.d (D.int IntKind.i64 sp), V.d (D.int IntKind.i64 mw), V.d (D.str mm), V.d (D.sl stepSh k2 ms)])] }) else none else some [D.bool true] := by kernel_rfl
theorem e148o (m n : Nat) (es : List D) : Go.AM.Tree.eval (enterM E20 (callN E20 (m+40)) n c148 [.own 0] [(0, .lst partSh false false false es)]) = bif decide ((0 : Nat) + List.length es ≤ (4294967296 : Nat)) then some (V.own (384 : Nat), [((0 : Nat), Obj.lst hopSh false false false es), ((384 : Nat), Obj.lst hopSh false true false es)]) else none := by kernel_rfl
end Go.Proofs.YtkjiaijkdefkgaaGreatDoor.A
/- New memory of an own list of parts; few moves; what is gone. -/
namespace Go.Proofs.YtkjiaijkdefkgaaGreatDoor.A
open Go Go.AM
def C148o (args : List V) (ob : Obs) : Tree (V × Obs) :=
  match args, ob with
  | [.own o], [(k, .lst e nl mv fz es)] => match Nat.beq o 0 && (Nat.beq k 0 && (Sh.beq e partSh && (!nl && (!mv && !fz)))) with
    | true => .ite (decide (es.length ≤ 1000000)) (fun _ => .ret (.own 384, [(k, .lst e nl mv fz es), (384, .lst partSh false true false es)])) (fun _ => .stuck)
    | false => .stuck
  | _, _ => .stuck
theorem fn148o {P : Program} (hm : P.follows .mixedOrders = true) (h0 : EnvOK P E20) : FnOK P 148 C148o := FnOK.run hm h0 fun args ob r h => by
  unfold C148o at h
  split at h
  · rename_i o k e nl mv fz es
    split at h
    · rename_i hb
      simp only [Bool.and_eq_true, Bool.not_eq_true'] at hb
      obtain ⟨h1, h2, h3, h4, h5, h6⟩ := hb
      have h1 := Nat.eq_of_beq_eq_true h1
      have h2 := Nat.eq_of_beq_eq_true h2
      have h3 := Sh.beq_eq h3
      subst h1 h2 h3 h4 h5 h6
      obtain ⟨hl, h⟩ := eval_guard h
      cases h
      have hl := of_decide_eq_true hl
      refine ⟨59 + 1, ?_⟩
      rw [callN_succ (fn := c148) rfl]
      refine (e148o 19 59 es).trans ?_
      have : decide (0 + es.length ≤ 4294967296) = true := decide_eq_true (by omega)
      rw [this]
      rfl
    · cases h
  · cases h
def E22 : Env := E20.genAt 148 (Cor (fun args _ => isOwnV args) C148o (Cclone partSh))
theorem ok22 {P : Program} (hm : P.follows .mixedOrders = true) (h0 : EnvOK P E20) (h148 : FnOK P 148 (Cclone partSh)) : EnvOK P E22 := h0.genAt (fnOr (fn148o hm h0) h148 _)
end Go.Proofs.YtkjiaijkdefkgaaGreatDoor.A
/- Equations of the walk. -/
open Go Go.AM Go.Proofs
namespace Go.Proofs.YtkjiaijkdefkgaaGreatDoor.A
theorem e69 (m n : Nat) (kd mr mn sp mw : Int) (k1 k2 : Bool) (mh ms : List D) (mm : List UInt8) : Go.AM.Tree.out (enterM E22 (callN E22 (m+40)) n c69 [.d (moveD kd mr mn sp mw k1 k2 mh ms mm)] []) = bif (bif moveOk kd mr mn sp mw mh ms mm then (0 : Int) else (140 : Int)) != (0 : Int) then some [D.agg [D.int IntKind.i64 (0 : Int), D.int IntKind.i64 (0 : Int), D.sl hopSh true [], D.str [], D.sl stepSh true [], D.int IntKind.i64 (0 : Int), D.int IntKind.i64 (0 : Int), D.sl hopSh true [], D.bool false], D.int IntKind.i64 (210 : Int)] else bif kd == (1 : Int) then bif decide ((0 : Int) ≤ (↑(List.length ms) : Int) ∧ (↑(List.length ms) : Int) ≤ (↑(List.length ms) : Int) ∧ (↑(List.length ms) : Int) ≤ (4294967296 : Int)) then bif k1 then bif k2 then bif decide (List.length (List.replicate (List.length ms) (D.agg [D.int IntKind.i64 (0 : Int), D.int IntKind.i64 (0 : Int)])) ≤ (1000000 : Nat)) then some [D.agg [D.int IntKind.i64 mr, D.int IntKind.i64 mn, D.sl hopSh true [], D.str mm, D.sl stepSh true [], D.int IntKind.i64 (1 : Int), D.int IntKind.i64 (0 : Int), D.sl hopSh false (List.replicate (List.length ms) (D.agg [D.int IntKind.i64 (0 : Int), D.int IntKind.i64 (0 : Int)])), D.bool false], D.int IntKind.i64 (0 : Int)] else none else bif decide (List.length ms ≤ (1000000 : Nat)) then bif decide (List.length (List.replicate (List.length ms) (D.agg [D.int IntKind.i64 (0 : Int), D.int IntKind.i64 (0 : Int)])) ≤ (1000000 : Nat)) then some [D.agg [D.int IntKind.i64 mr, D.int IntKind.i64 mn, D.sl hopSh true [], D.str mm, D.sl stepSh false ms, D.int IntKind.i64 (1 : Int), D.int IntKind.i64 (0 : Int), D.sl hopSh false (List.replicate (List.length ms) (D.agg [D.int IntKind.i64 (0 : Int), D.int IntKind.i64 (0 : Int)])), D.bool false], D.int IntKind.i64 (0 : Int)] else none else none else bif decide (List.length mh ≤ (1000000 : Nat)) then bif k2 then bif decide (List.length (List.replicate (List.length ms) (D.agg [D.int IntKind.i64 (0 : Int), D.int IntKind.i64 (0 : Int)])) ≤ (1000000 : Nat)) then some [D.agg [D.int IntKind.i64 mr, D.int IntKind.i64 mn, D.sl hopSh false mh, D.str mm, D.sl stepSh true [], D.int IntKind.i64 (1 : Int), D.int IntKind.i64 (0 : Int), D.sl hopSh false (List.replicate (List.length ms) (D.agg [D.int IntKind.i64 (0 : Int), D.int IntKind.i64 (0 : Int)])), D.bool false], D.int IntKind.i64 (0 : Int)] else none else bif decide (List.length ms ≤ (1000000 : Nat)) then bif decide (List.length (List.replicate (List.length ms) (D.agg [D.int IntKind.i64 (0 : Int), D.int IntKind.i64 (0 : Int)])) ≤ (1000000 : Nat)) then some [D.agg [D.int IntKind.i64 mr, D.int IntKind.i64 mn, D.sl hopSh false mh, D.str mm, D.sl stepSh false ms, D.int IntKind.i64 (1 : Int), D.int IntKind.i64 (0 : Int), D.sl hopSh false (List.replicate (List.length ms) (D.agg [D.int IntKind.i64 (0 : Int), D.int IntKind.i64 (0 : Int)])), D.bool false], D.int IntKind.i64 (0 : Int)] else none else none else none else none else bif kd == (2 : Int) then bif k1 then some [D.agg [D.int IntKind.i64 mr, D.int IntKind.i64 mn, D.sl hopSh true [], D.str [], D.sl stepSh true [], D.int IntKind.i64 (7 : Int), D.int IntKind.i64 mw, D.sl hopSh true [], D.bool false], D.int IntKind.i64 (0 : Int)] else bif decide (List.length mh ≤ (1000000 : Nat)) then some [D.agg [D.int IntKind.i64 mr, D.int IntKind.i64 mn, D.sl hopSh false mh, D.str [], D.sl stepSh true [], D.int IntKind.i64 (7 : Int), D.int IntKind.i64 mw, D.sl hopSh true [], D.bool false], D.int IntKind.i64 (0 : Int)] else none else some [D.agg [D.int IntKind.i64 (0 : Int), D.int IntKind.i64 (0 : Int), D.sl hopSh true [], D.str [], D.sl stepSh true [], D.int IntKind.i64 (0 : Int), D.int IntKind.i64 (0 : Int), D.sl hopSh true [], D.bool false], D.int IntKind.i64 (210 : Int)] := by kernel_rfl
end Go.Proofs.YtkjiaijkdefkgaaGreatDoor.A
/- Few moves; a saga's beginning. -/
namespace Go.Proofs.YtkjiaijkdefkgaaGreatDoor.A
open Go Go.AM
def allM (l : List D) : Bool := scan (fun i => !fewM (fl 3 (l.getD i .nilp)) (fl 7 (l.getD i .nilp))) (fun _ => false) true l.length 0
def fewL (mh ms l : List D) : Bool := bif decide ((100 : Int) < (l.length : Int)) then false else bif !fewM mh ms then false else allM l
theorem loop43 (m n : Nat) (kd mr mn sp mw : Int) (k1 k2 : Bool) (mh ms : List D) (mm : List UInt8) (nl : Bool) (l : List D) (hl : l.length ≤ 1000000) (hn : l.length < n) :
    (resume E20 (callN E20 (m+40)) n n 0 c43 (s43 kd mr mn sp mw k1 k2 mh ms mm nl l (0 : Nat))).out = some [.bool (allM l)] := by
  have := scan_loop (fun j i => (resume E20 (callN E20 (m+40)) n j 0 c43 (s43 kd mr mn sp mw k1 k2 mh ms mm nl l (i : Nat))).out) l.length (fun i => !fewM (fl 3 (l.getD i .nilp)) (fl 7 (l.getD i .nilp))) (fun _ => [.bool false]) [.bool true]
    (fun j i hi => ?_) (fun j => ?_) l.length 0 n (by omega) (by omega)
  · refine this.trans ?_
    rw [scan_map (fun b : Bool => [D.bool b]) _ (fun _ => false) true]
    rfl
  · rw [l43]
    simp only [Int.toNat_natCast, wrap_up hi hl, dec_lt hi, dec_ix hi, cond_true]
    rfl
  · rw [l43]
    simp only [dec_end, cond_false]
theorem run43 (m n : Nat) (kd mr mn sp mw : Int) (k1 k2 : Bool) (mh ms : List D) (mm : List UInt8) (nl : Bool) (l : List D) (hn : 200 ≤ n) :
    (enterM E20 (callN E20 (m+40)) n c43 [.d (moveD kd mr mn sp mw k1 k2 mh ms mm), .d (.sl moveSh nl l)] []).out = some [.bool (fewL mh ms l)] := by
  rw [e43]
  unfold fewL
  cases h : decide ((100 : Int) < (l.length : Int))
  · have h' := of_decide_eq_false h
    cases fewM mh ms
    · rfl
    · exact loop43 m n kd mr mn sp mw k1 k2 mh ms mm nl l (by omega) (by omega)
  · rfl
def g43 : List D → Tree (List D)
  | [.agg [.int .i64 _, .int .i64 _, .int .i64 _, .sl eh _ mh, .int .i64 _, .int .i64 _, .str _, .sl es _ ms], .sl em _ l] => match (Sh.beq eh hopSh && Sh.beq es stepSh) && Sh.beq em moveSh with
    | true => .ret [.bool (fewL mh ms l)]
    | false => .stuck
  | _ => .stuck
theorem pure43 {P : Program} (hm : P.follows .mixedOrders = true) (h0 : EnvOK P E20) : PureOK P 43 g43 := PureOK.run hm h0 fun ds rs h => by
  unfold g43 at h
  split at h
  · rename_i kd mr mn eh k1 mh sp mw mm es k2 ms em nl l
    split at h
    · rename_i hb
      simp only [Bool.and_eq_true] at hb
      obtain ⟨⟨hb1, hb2⟩, hb3⟩ := hb
      have hb1 := Sh.beq_eq hb1
      have hb2 := Sh.beq_eq hb2
      have hb3 := Sh.beq_eq hb3
      subst hb1 hb2 hb3
      cases h
      exact ⟨299 + 1, by rw [callN_succ (fn := c43) rfl]; exact run43 259 299 kd mr mn sp mw k1 k2 mh ms mm nl l (by omega)⟩
    · cases h
  · cases h
def zeroS : List D := [D.agg [.int .i64 0, .int .i64 0, .sl hopSh true [], .str [], .sl stepSh true [], .int .i64 0, .int .i64 0, .sl partSh true [], .bool false], .int .i64 210]
def newT (kd mr mn sp mw : Int) (k1 k2 : Bool) (mh ms : List D) (mm : List UInt8) : Tree (List D) :=
  .ite (moveOk kd mr mn sp mw mh ms mm) (fun _ => .ite (kd == 1) (fun _ => .ret [D.agg [.int .i64 mr, .int .i64 mn, .sl hopSh k1 mh, .str mm, .sl stepSh k2 ms, .int .i64 1, .int .i64 0, .sl partSh false (List.replicate ms.length (.agg [.int .i64 0, .int .i64 0])), .bool false], .int .i64 0])
    (fun _ => .ite (kd == 2) (fun _ => .ret [D.agg [.int .i64 mr, .int .i64 mn, .sl hopSh k1 mh, .str [], .sl stepSh true [], .int .i64 7, .int .i64 mw, .sl partSh true [], .bool false], .int .i64 0]) (fun _ => .ret zeroS))) (fun _ => .ret zeroS)
theorem run69 (m n : Nat) (kd mr mn sp mw : Int) (k1 k2 : Bool) (mh ms : List D) (mm : List UInt8) (h1 : k1 = true → mh = []) (h2 : k2 = true → ms = []) (l1 : mh.length ≤ 1000000) (l2 : ms.length ≤ 1000000) :
    (enterM E22 (callN E22 (m+40)) n c69 [.d (moveD kd mr mn sp mw k1 k2 mh ms mm)] []).out = (newT kd mr mn sp mw k1 k2 mh ms mm).eval := by
  rw [e69]
  have d1 : decide ((0 : Int) ≤ (ms.length : Int) ∧ (ms.length : Int) ≤ (ms.length : Int) ∧ (ms.length : Int) ≤ 4294967296) = true := decide_eq_true (by omega)
  simp only [d1, List.length_replicate, decide_eq_true l1, decide_eq_true l2, cond_true]
  unfold newT
  cases moveOk kd mr mn sp mw mh ms mm
  · rfl
  · cases (kd == 1)
    · cases (kd == 2)
      · rfl
      · cases k1 with
        | false => rfl
        | true => rw [h1 rfl]; rfl
    · cases k1 with
      | false => cases k2 with
        | false => rfl
        | true => rw [h2 rfl]; rfl
      | true => rw [h1 rfl]; cases k2 with
        | false => rfl
        | true => rw [h2 rfl]; rfl
def g69 : List D → Tree (List D)
  | [.agg [.int .i64 kd, .int .i64 mr, .int .i64 mn, .sl eh k1 mh, .int .i64 sp, .int .i64 mw, .str mm, .sl es k2 ms]] => match (Sh.beq eh hopSh && Sh.beq es stepSh) with
    | true => .ite (((!k1 || mh.isEmpty) && (!k2 || ms.isEmpty)) && (decide (mh.length ≤ 1000000) && decide (ms.length ≤ 1000000))) (fun _ => newT kd mr mn sp mw k1 k2 mh ms mm) (fun _ => .stuck)
    | false => .stuck
  | _ => .stuck
theorem pure69 {P : Program} (hm : P.follows .mixedOrders = true) (h0 : EnvOK P E22) : PureOK P 69 g69 := PureOK.run hm h0 fun ds rs h => by
  unfold g69 at h
  split at h
  · rename_i kd mr mn eh k1 mh sp mw mm es k2 ms
    split at h
    · rename_i hb
      simp only [Bool.and_eq_true] at hb
      obtain ⟨hb1, hb2⟩ := hb
      have hb1 := Sh.beq_eq hb1
      have hb2 := Sh.beq_eq hb2
      subst hb1 hb2
      obtain ⟨hg, h⟩ := eval_guard h
      simp only [Bool.and_eq_true, Bool.or_eq_true, Bool.not_eq_true', List.isEmpty_iff, decide_eq_true_eq] at hg
      obtain ⟨⟨a1, a2⟩, a3, a4⟩ := hg
      exact ⟨59 + 1, by rw [callN_succ (fn := c69) rfl]; exact (run69 19 59 kd mr mn sp mw k1 k2 mh ms mm (fun h => by rcases a1 with a | a; (rw [h] at a; cases a); exact a) (fun h => by rcases a2 with a | a; (rw [h] at a; cases a); exact a) a3 a4).trans h⟩
    · cases h
  · cases h
def E23 : Env := (E22.pureAt 43 true g43).pureAt 69 false g69
theorem ok23 {P : Program} (hm : P.follows .mixedOrders = true) (h0 : EnvOK P E20) (h148 : FnOK P 148 (Cclone partSh)) : EnvOK P E23 := ((ok22 hm h0 h148).pureAt (pure43 hm h0)).pureAt (pure69 hm (ok22 hm h0 h148))
end Go.Proofs.YtkjiaijkdefkgaaGreatDoor.A
/- Equations of the walk. -/
open Go Go.AM Go.Proofs
namespace Go.Proofs.YtkjiaijkdefkgaaGreatDoor.A
theorem e10 (m n : Nat) (kd mr mn sp mw : Int) (k1 k2 : Bool) (mh ms : List D) (mm : List UInt8) (nl : Bool) (l : List D) : Go.AM.Tree.out (enterM E23 (callN E23 (m+40)) n c10 [.d (moveD kd mr mn sp mw k1 k2 mh ms mm), .d (.sl moveSh nl l)] []) = bif !fewL mh ms l then some [D.bool true] else bif (!k1 || List.isEmpty mh) && (!k2 || List.isEmpty ms) && (decide (List.length mh ≤ (1000000 : Nat)) && decide (List.length ms ≤ (1000000 : Nat))) then bif moveOk kd mr mn sp mw mh ms mm then bif kd == (1 : Int) then Tree.out (resume E23 (callN E23 (m + (40 : Nat))) n n (0 : Nat) c10 { fr := frame (105 : Nat) [((1 : Nat), V.d (D.sl (Sh.agg [Sh.int IntKind.i64, Sh.int IntKind.i64, Sh.int IntKind.i64, Sh.sl hopSh, Sh.int IntKind.i64, Sh.int IntKind.i64, Sh.str, Sh.sl stepSh]) nl l)), ((5 : Nat), V.ptr (384 : Nat) (0 : Nat)), ((7 : Nat), V.d (D.int IntKind.i64 (0 : Int)))], ob := [((192 : Nat), Obj.box [V.d (D.int IntKind.i64 kd), V.d (D.int IntKind.i64 mr), V.d (D.int IntKind.i64 mn), V.d (D.sl hopSh k1 mh), V.d (D.int IntKind.i64 sp), V.d (D.int IntKind.i64 mw), V.d (D.str mm), V.d (D.sl stepSh k2 ms)]), ((384 : Nat), Obj.box [V.d (D.int IntKind.i64 mr), V.d (D.int IntKind.i64 mn), V.d (D.sl hopSh k1 mh), V.d (D.str mm), V.d (D.sl stepSh k2 ms), V.d (D.int IntKind.i64 (1 : Int)), V.d (D.int IntKind.i64 (0 : Int)), V.d (D.sl hopSh false (List.replicate (List.length ms) (D.agg [D.int IntKind.i64 (0 : Int), D.int IntKind.i64 (0 : Int)]))), V.d (D.bool false)])] }) else bif kd == (2 : Int) then Tree.out (resume E23 (callN E23 (m + (40 : Nat))) n n (0 : Nat) c10 { fr := frame (105 : Nat) [((1 : Nat), V.d (D.sl (Sh.agg [Sh.int IntKind.i64, Sh.int IntKind.i64, Sh.int IntKind.i64, Sh.sl hopSh, Sh.int IntKind.i64, Sh.int IntKind.i64, Sh.str, Sh.sl stepSh]) nl l)), ((5 : Nat), V.ptr (384 : Nat) (0 : Nat)), ((7 : Nat), V.d (D.int IntKind.i64 (0 : Int)))], ob := [((192 : Nat), Obj.box [V.d (D.int IntKind.i64 kd), V.d (D.int IntKind.i64 mr), V.d (D.int IntKind.i64 mn), V.d (D.sl hopSh k1 mh), V.d (D.int IntKind.i64 sp), V.d (D.int IntKind.i64 mw), V.d (D.str mm), V.d (D.sl stepSh k2 ms)]), ((384 : Nat), Obj.box [V.d (D.int IntKind.i64 mr), V.d (D.int IntKind.i64 mn), V.d (D.sl hopSh k1 mh), V.d (D.str []), V.d (D.sl stepSh true []), V.d (D.int IntKind.i64 (7 : Int)), V.d (D.int IntKind.i64 mw), V.d (D.sl hopSh true []), V.d (D.bool false)])] }) else some [D.bool true] else some [D.bool true] else none := by kernel_rfl
def s10 (a0 a1 a2 a3 a4 a5 a6 a7 : D) (nl : Bool) (l : List D) (rt nn st wy : Int) (n1 n2 n3 fc : Bool) (hops steps parts : List D) (nm : List UInt8) (i : Int) : St := { fr := frame 105 [(1, V.d (D.sl moveSh nl l)), (5, V.ptr 384 0), (7, V.d (D.int .i64 i))], ob := [(192, .box [V.d a0, V.d a1, V.d a2, V.d a3, V.d a4, V.d a5, V.d a6, V.d a7]), (384, .box [V.d (D.int .i64 rt), V.d (D.int .i64 nn), V.d (D.sl hopSh n1 hops), V.d (D.str nm), V.d (D.sl stepSh n2 steps), V.d (D.int .i64 st), V.d (D.int .i64 wy), V.d (D.sl partSh n3 parts), V.d (D.bool fc)])] }
theorem l10 (m n j : Nat) (a0 a1 a2 a3 a4 a5 a6 a7 : D) (nl : Bool) (l : List D) (rt nn st wy : Int) (n1 n2 n3 fc : Bool) (hops steps parts : List D) (nm : List UInt8) (i : Int) : Go.AM.Tree.out (resume E23 (callN E23 (m+40)) n (j+1) 0 c10 (s10 a0 a1 a2 a3 a4 a5 a6 a7 nl l rt nn st wy n1 n2 n3 fc hops steps parts nm i)) = bif decide (i < (↑(List.length l) : Int)) then bif decide ((0 : Int) ≤ i ∧ i < (↑(List.length l) : Int)) then bif fi (0 : Nat) (List.getD l (Int.toNat i) D.nilp) == (16 : Int) then Tree.out (resume E23 (callN E23 (m + (40 : Nat))) n j (0 : Nat) c10 { fr := frame (105 : Nat) [((1 : Nat), V.d (D.sl (Sh.agg [Sh.int IntKind.i64, Sh.int IntKind.i64, Sh.int IntKind.i64, Sh.sl hopSh, Sh.int IntKind.i64, Sh.int IntKind.i64, Sh.str, Sh.sl stepSh]) nl l)), ((5 : Nat), V.ptr (384 : Nat) (0 : Nat)), ((7 : Nat), V.d (D.int IntKind.i64 (IntKind.wrap IntKind.i64 (i + (1 : Int)))))], ob := [((192 : Nat), Obj.box [V.d a0, V.d a1, V.d a2, V.d a3, V.d a4, V.d a5, V.d a6, V.d a7]), ((384 : Nat), Obj.box [V.d (D.int IntKind.i64 rt), V.d (D.int IntKind.i64 nn), V.d (D.sl hopSh n1 hops), V.d (D.str nm), V.d (D.sl stepSh n2 steps), V.d (D.int IntKind.i64 st), V.d (D.int IntKind.i64 wy), V.d (D.sl hopSh n3 parts), V.d (D.bool fc)])] }) else bif decide ((0 : Int) ≤ i ∧ i < (↑(List.length l) : Int)) then bif fi (0 : Nat) (List.getD l (Int.toNat i) D.nilp) == (7 : Int) then bif decide ((0 : Int) ≤ i ∧ i < (↑(List.length l) : Int)) then bif decide (List.length steps ≤ (1000000 : Nat)) then bif decide (List.length parts ≤ (1000000 : Nat)) then bif fi (4 : Nat) (List.getD l (Int.toNat i) D.nilp) != curR rt nn st wy fc hops steps parts nm then Tree.out (resume E23 (callN E23 (m + (40 : Nat))) n j (0 : Nat) c10 { fr := frame (105 : Nat) [((1 : Nat), V.d (D.sl (Sh.agg [Sh.int IntKind.i64, Sh.int IntKind.i64, Sh.int IntKind.i64, Sh.sl hopSh, Sh.int IntKind.i64, Sh.int IntKind.i64, Sh.str, Sh.sl stepSh]) nl l)), ((5 : Nat), V.ptr (384 : Nat) (0 : Nat)), ((7 : Nat), V.d (D.int IntKind.i64 (IntKind.wrap IntKind.i64 (i + (1 : Int)))))], ob := [((192 : Nat), Obj.box [V.d a0, V.d a1, V.d a2, V.d a3, V.d a4, V.d a5, V.d a6, V.d a7]), ((384 : Nat), Obj.box [V.d (D.int IntKind.i64 rt), V.d (D.int IntKind.i64 nn), V.d (D.sl hopSh n1 hops), V.d (D.str nm), V.d (D.sl stepSh n2 steps), V.d (D.int IntKind.i64 st), V.d (D.int IntKind.i64 wy), V.d (D.sl hopSh n3 parts), V.d (D.bool fc)])] }) else bif decide ((0 : Int) ≤ i ∧ i < (↑(List.length l) : Int)) then bif gd24 rt nn st wy n1 n2 n3 fc hops steps parts nm (fi (0 : Nat) (List.getD l (Int.toNat i) D.nilp)) (fl (3 : Nat) (List.getD l (Int.toNat i) D.nilp)) then bif arE (appR rt nn st wy fc hops steps parts nm (fi (0 : Nat) (List.getD l (Int.toNat i) D.nilp)) (fi (1 : Nat) (List.getD l (Int.toNat i) D.nilp)) (fi (2 : Nat) (List.getD l (Int.toNat i) D.nilp)) (fi (4 : Nat) (List.getD l (Int.toNat i) D.nilp)) (fi (5 : Nat) (List.getD l (Int.toNat i) D.nilp)) (fl (3 : Nat) (List.getD l (Int.toNat i) D.nilp)) (fl (7 : Nat) (List.getD l (Int.toNat i) D.nilp)) (fs (6 : Nat) (List.getD l (Int.toNat i) D.nilp))) != (0 : Int) then Tree.out (resume E23 (callN E23 (m + (40 : Nat))) n j (0 : Nat) c10 { fr := frame (105 : Nat) [((1 : Nat), V.d (D.sl (Sh.agg [Sh.int IntKind.i64, Sh.int IntKind.i64, Sh.int IntKind.i64, Sh.sl hopSh, Sh.int IntKind.i64, Sh.int IntKind.i64, Sh.str, Sh.sl stepSh]) nl l)), ((5 : Nat), V.ptr (384 : Nat) (0 : Nat)), ((7 : Nat), V.d (D.int IntKind.i64 (IntKind.wrap IntKind.i64 (i + (1 : Int)))))], ob := [((192 : Nat), Obj.box [V.d a0, V.d a1, V.d a2, V.d a3, V.d a4, V.d a5, V.d a6, V.d a7]), ((384 : Nat), Obj.box [V.d (D.int IntKind.i64 rt), V.d (D.int IntKind.i64 nn), V.d (D.sl hopSh n1 hops), V.d (D.str nm), V.d (D.sl stepSh n2 steps), V.d (D.int IntKind.i64 st), V.d (D.int IntKind.i64 wy), V.d (D.sl hopSh n3 parts), V.d (D.bool fc)])] }) else Tree.out (resumeL E23 (callN E23 (m + (40 : Nat))) n [((0 : Nat), j), ((1 : Nat), n)] c10 { fr := frame (105 : Nat) [((1 : Nat), V.d (D.sl (Sh.agg [Sh.int IntKind.i64, Sh.int IntKind.i64, Sh.int IntKind.i64, Sh.sl hopSh, Sh.int IntKind.i64, Sh.int IntKind.i64, Sh.str, Sh.sl stepSh]) nl l)), ((5 : Nat), V.ptr (384 : Nat) (0 : Nat)), ((7 : Nat), V.d (D.int IntKind.i64 i)), ((8 : Nat), V.ptr (576 : Nat) (0 : Nat)), ((10 : Nat), V.d (D.int IntKind.i64 (0 : Int)))], ob := [((192 : Nat), Obj.box [V.d a0, V.d a1, V.d a2, V.d a3, V.d a4, V.d a5, V.d a6, V.d a7]), ((384 : Nat), Obj.box [V.d (D.int IntKind.i64 rt), V.d (D.int IntKind.i64 nn), V.d (D.sl hopSh n1 hops), V.d (D.str nm), V.d (D.sl stepSh n2 steps), V.d (D.int IntKind.i64 st), V.d (D.int IntKind.i64 wy), V.d (D.sl hopSh n3 parts), V.d (D.bool fc)]), ((576 : Nat), Obj.box [V.d (D.int IntKind.i64 (bif arOk (appR rt nn st wy fc hops steps parts nm (fi (0 : Nat) (List.getD l (Int.toNat i) D.nilp)) (fi (1 : Nat) (List.getD l (Int.toNat i) D.nilp)) (fi (2 : Nat) (List.getD l (Int.toNat i) D.nilp)) (fi (4 : Nat) (List.getD l (Int.toNat i) D.nilp)) (fi (5 : Nat) (List.getD l (Int.toNat i) D.nilp)) (fl (3 : Nat) (List.getD l (Int.toNat i) D.nilp)) (fl (7 : Nat) (List.getD l (Int.toNat i) D.nilp)) (fs (6 : Nat) (List.getD l (Int.toNat i) D.nilp))) then rt else (0 : Int))), V.d (D.int IntKind.i64 (bif arOk (appR rt nn st wy fc hops steps parts nm (fi (0 : Nat) (List.getD l (Int.toNat i) D.nilp)) (fi (1 : Nat) (List.getD l (Int.toNat i) D.nilp)) (fi (2 : Nat) (List.getD l (Int.toNat i) D.nilp)) (fi (4 : Nat) (List.getD l (Int.toNat i) D.nilp)) (fi (5 : Nat) (List.getD l (Int.toNat i) D.nilp)) (fl (3 : Nat) (List.getD l (Int.toNat i) D.nilp)) (fl (7 : Nat) (List.getD l (Int.toNat i) D.nilp)) (fs (6 : Nat) (List.getD l (Int.toNat i) D.nilp))) then nn else (0 : Int))), V.d (D.sl hopSh (bif arOk (appR rt nn st wy fc hops steps parts nm (fi (0 : Nat) (List.getD l (Int.toNat i) D.nilp)) (fi (1 : Nat) (List.getD l (Int.toNat i) D.nilp)) (fi (2 : Nat) (List.getD l (Int.toNat i) D.nilp)) (fi (4 : Nat) (List.getD l (Int.toNat i) D.nilp)) (fi (5 : Nat) (List.getD l (Int.toNat i) D.nilp)) (fl (3 : Nat) (List.getD l (Int.toNat i) D.nilp)) (fl (7 : Nat) (List.getD l (Int.toNat i) D.nilp)) (fs (6 : Nat) (List.getD l (Int.toNat i) D.nilp))) then n1 else true) (bif arOk (appR rt nn st wy fc hops steps parts nm (fi (0 : Nat) (List.getD l (Int.toNat i) D.nilp)) (fi (1 : Nat) (List.getD l (Int.toNat i) D.nilp)) (fi (2 : Nat) (List.getD l (Int.toNat i) D.nilp)) (fi (4 : Nat) (List.getD l (Int.toNat i) D.nilp)) (fi (5 : Nat) (List.getD l (Int.toNat i) D.nilp)) (fl (3 : Nat) (List.getD l (Int.toNat i) D.nilp)) (fl (7 : Nat) (List.getD l (Int.toNat i) D.nilp)) (fs (6 : Nat) (List.getD l (Int.toNat i) D.nilp))) then hops else [])), V.d (D.str (bif arOk (appR rt nn st wy fc hops steps parts nm (fi (0 : Nat) (List.getD l (Int.toNat i) D.nilp)) (fi (1 : Nat) (List.getD l (Int.toNat i) D.nilp)) (fi (2 : Nat) (List.getD l (Int.toNat i) D.nilp)) (fi (4 : Nat) (List.getD l (Int.toNat i) D.nilp)) (fi (5 : Nat) (List.getD l (Int.toNat i) D.nilp)) (fl (3 : Nat) (List.getD l (Int.toNat i) D.nilp)) (fl (7 : Nat) (List.getD l (Int.toNat i) D.nilp)) (fs (6 : Nat) (List.getD l (Int.toNat i) D.nilp))) then nm else [])), V.d (D.sl stepSh (!arOk (appR rt nn st wy fc hops steps parts nm (fi (0 : Nat) (List.getD l (Int.toNat i) D.nilp)) (fi (1 : Nat) (List.getD l (Int.toNat i) D.nilp)) (fi (2 : Nat) (List.getD l (Int.toNat i) D.nilp)) (fi (4 : Nat) (List.getD l (Int.toNat i) D.nilp)) (fi (5 : Nat) (List.getD l (Int.toNat i) D.nilp)) (fl (3 : Nat) (List.getD l (Int.toNat i) D.nilp)) (fl (7 : Nat) (List.getD l (Int.toNat i) D.nilp)) (fs (6 : Nat) (List.getD l (Int.toNat i) D.nilp)))) (bif arOk (appR rt nn st wy fc hops steps parts nm (fi (0 : Nat) (List.getD l (Int.toNat i) D.nilp)) (fi (1 : Nat) (List.getD l (Int.toNat i) D.nilp)) (fi (2 : Nat) (List.getD l (Int.toNat i) D.nilp)) (fi (4 : Nat) (List.getD l (Int.toNat i) D.nilp)) (fi (5 : Nat) (List.getD l (Int.toNat i) D.nilp)) (fl (3 : Nat) (List.getD l (Int.toNat i) D.nilp)) (fl (7 : Nat) (List.getD l (Int.toNat i) D.nilp)) (fs (6 : Nat) (List.getD l (Int.toNat i) D.nilp))) then steps else [])), V.d (D.int IntKind.i64 (arS (appR rt nn st wy fc hops steps parts nm (fi (0 : Nat) (List.getD l (Int.toNat i) D.nilp)) (fi (1 : Nat) (List.getD l (Int.toNat i) D.nilp)) (fi (2 : Nat) (List.getD l (Int.toNat i) D.nilp)) (fi (4 : Nat) (List.getD l (Int.toNat i) D.nilp)) (fi (5 : Nat) (List.getD l (Int.toNat i) D.nilp)) (fl (3 : Nat) (List.getD l (Int.toNat i) D.nilp)) (fl (7 : Nat) (List.getD l (Int.toNat i) D.nilp)) (fs (6 : Nat) (List.getD l (Int.toNat i) D.nilp))))), V.d (D.int IntKind.i64 (arW (appR rt nn st wy fc hops steps parts nm (fi (0 : Nat) (List.getD l (Int.toNat i) D.nilp)) (fi (1 : Nat) (List.getD l (Int.toNat i) D.nilp)) (fi (2 : Nat) (List.getD l (Int.toNat i) D.nilp)) (fi (4 : Nat) (List.getD l (Int.toNat i) D.nilp)) (fi (5 : Nat) (List.getD l (Int.toNat i) D.nilp)) (fl (3 : Nat) (List.getD l (Int.toNat i) D.nilp)) (fl (7 : Nat) (List.getD l (Int.toNat i) D.nilp)) (fs (6 : Nat) (List.getD l (Int.toNat i) D.nilp))))), V.d (D.sl hopSh (!arOk (appR rt nn st wy fc hops steps parts nm (fi (0 : Nat) (List.getD l (Int.toNat i) D.nilp)) (fi (1 : Nat) (List.getD l (Int.toNat i) D.nilp)) (fi (2 : Nat) (List.getD l (Int.toNat i) D.nilp)) (fi (4 : Nat) (List.getD l (Int.toNat i) D.nilp)) (fi (5 : Nat) (List.getD l (Int.toNat i) D.nilp)) (fl (3 : Nat) (List.getD l (Int.toNat i) D.nilp)) (fl (7 : Nat) (List.getD l (Int.toNat i) D.nilp)) (fs (6 : Nat) (List.getD l (Int.toNat i) D.nilp)))) (arP (appR rt nn st wy fc hops steps parts nm (fi (0 : Nat) (List.getD l (Int.toNat i) D.nilp)) (fi (1 : Nat) (List.getD l (Int.toNat i) D.nilp)) (fi (2 : Nat) (List.getD l (Int.toNat i) D.nilp)) (fi (4 : Nat) (List.getD l (Int.toNat i) D.nilp)) (fi (5 : Nat) (List.getD l (Int.toNat i) D.nilp)) (fl (3 : Nat) (List.getD l (Int.toNat i) D.nilp)) (fl (7 : Nat) (List.getD l (Int.toNat i) D.nilp)) (fs (6 : Nat) (List.getD l (Int.toNat i) D.nilp))))), V.d (D.bool (arF (appR rt nn st wy fc hops steps parts nm (fi (0 : Nat) (List.getD l (Int.toNat i) D.nilp)) (fi (1 : Nat) (List.getD l (Int.toNat i) D.nilp)) (fi (2 : Nat) (List.getD l (Int.toNat i) D.nilp)) (fi (4 : Nat) (List.getD l (Int.toNat i) D.nilp)) (fi (5 : Nat) (List.getD l (Int.toNat i) D.nilp)) (fl (3 : Nat) (List.getD l (Int.toNat i) D.nilp)) (fl (7 : Nat) (List.getD l (Int.toNat i) D.nilp)) (fs (6 : Nat) (List.getD l (Int.toNat i) D.nilp)))))])] }) else none else none else none else none else none else bif decide ((0 : Int) ≤ i ∧ i < (↑(List.length l) : Int)) then bif gd24 rt nn st wy n1 n2 n3 fc hops steps parts nm (fi (0 : Nat) (List.getD l (Int.toNat i) D.nilp)) (fl (3 : Nat) (List.getD l (Int.toNat i) D.nilp)) then bif arE (appR rt nn st wy fc hops steps parts nm (fi (0 : Nat) (List.getD l (Int.toNat i) D.nilp)) (fi (1 : Nat) (List.getD l (Int.toNat i) D.nilp)) (fi (2 : Nat) (List.getD l (Int.toNat i) D.nilp)) (fi (4 : Nat) (List.getD l (Int.toNat i) D.nilp)) (fi (5 : Nat) (List.getD l (Int.toNat i) D.nilp)) (fl (3 : Nat) (List.getD l (Int.toNat i) D.nilp)) (fl (7 : Nat) (List.getD l (Int.toNat i) D.nilp)) (fs (6 : Nat) (List.getD l (Int.toNat i) D.nilp))) != (0 : Int) then Tree.out (resume E23 (callN E23 (m + (40 : Nat))) n j (0 : Nat) c10 { fr := frame (105 : Nat) [((1 : Nat), V.d (D.sl (Sh.agg [Sh.int IntKind.i64, Sh.int IntKind.i64, Sh.int IntKind.i64, Sh.sl hopSh, Sh.int IntKind.i64, Sh.int IntKind.i64, Sh.str, Sh.sl stepSh]) nl l)), ((5 : Nat), V.ptr (384 : Nat) (0 : Nat)), ((7 : Nat), V.d (D.int IntKind.i64 (IntKind.wrap IntKind.i64 (i + (1 : Int)))))], ob := [((192 : Nat), Obj.box [V.d a0, V.d a1, V.d a2, V.d a3, V.d a4, V.d a5, V.d a6, V.d a7]), ((384 : Nat), Obj.box [V.d (D.int IntKind.i64 rt), V.d (D.int IntKind.i64 nn), V.d (D.sl hopSh n1 hops), V.d (D.str nm), V.d (D.sl stepSh n2 steps), V.d (D.int IntKind.i64 st), V.d (D.int IntKind.i64 wy), V.d (D.sl hopSh n3 parts), V.d (D.bool fc)])] }) else Tree.out (resumeL E23 (callN E23 (m + (40 : Nat))) n [((0 : Nat), j), ((1 : Nat), n)] c10 { fr := frame (105 : Nat) [((1 : Nat), V.d (D.sl (Sh.agg [Sh.int IntKind.i64, Sh.int IntKind.i64, Sh.int IntKind.i64, Sh.sl hopSh, Sh.int IntKind.i64, Sh.int IntKind.i64, Sh.str, Sh.sl stepSh]) nl l)), ((5 : Nat), V.ptr (384 : Nat) (0 : Nat)), ((7 : Nat), V.d (D.int IntKind.i64 i)), ((8 : Nat), V.ptr (576 : Nat) (0 : Nat)), ((10 : Nat), V.d (D.int IntKind.i64 (0 : Int)))], ob := [((192 : Nat), Obj.box [V.d a0, V.d a1, V.d a2, V.d a3, V.d a4, V.d a5, V.d a6, V.d a7]), ((384 : Nat), Obj.box [V.d (D.int IntKind.i64 rt), V.d (D.int IntKind.i64 nn), V.d (D.sl hopSh n1 hops), V.d (D.str nm), V.d (D.sl stepSh n2 steps), V.d (D.int IntKind.i64 st), V.d (D.int IntKind.i64 wy), V.d (D.sl hopSh n3 parts), V.d (D.bool fc)]), ((576 : Nat), Obj.box [V.d (D.int IntKind.i64 (bif arOk (appR rt nn st wy fc hops steps parts nm (fi (0 : Nat) (List.getD l (Int.toNat i) D.nilp)) (fi (1 : Nat) (List.getD l (Int.toNat i) D.nilp)) (fi (2 : Nat) (List.getD l (Int.toNat i) D.nilp)) (fi (4 : Nat) (List.getD l (Int.toNat i) D.nilp)) (fi (5 : Nat) (List.getD l (Int.toNat i) D.nilp)) (fl (3 : Nat) (List.getD l (Int.toNat i) D.nilp)) (fl (7 : Nat) (List.getD l (Int.toNat i) D.nilp)) (fs (6 : Nat) (List.getD l (Int.toNat i) D.nilp))) then rt else (0 : Int))), V.d (D.int IntKind.i64 (bif arOk (appR rt nn st wy fc hops steps parts nm (fi (0 : Nat) (List.getD l (Int.toNat i) D.nilp)) (fi (1 : Nat) (List.getD l (Int.toNat i) D.nilp)) (fi (2 : Nat) (List.getD l (Int.toNat i) D.nilp)) (fi (4 : Nat) (List.getD l (Int.toNat i) D.nilp)) (fi (5 : Nat) (List.getD l (Int.toNat i) D.nilp)) (fl (3 : Nat) (List.getD l (Int.toNat i) D.nilp)) (fl (7 : Nat) (List.getD l (Int.toNat i) D.nilp)) (fs (6 : Nat) (List.getD l (Int.toNat i) D.nilp))) then nn else (0 : Int))), V.d (D.sl hopSh (bif arOk (appR rt nn st wy fc hops steps parts nm (fi (0 : Nat) (List.getD l (Int.toNat i) D.nilp)) (fi (1 : Nat) (List.getD l (Int.toNat i) D.nilp)) (fi (2 : Nat) (List.getD l (Int.toNat i) D.nilp)) (fi (4 : Nat) (List.getD l (Int.toNat i) D.nilp)) (fi (5 : Nat) (List.getD l (Int.toNat i) D.nilp)) (fl (3 : Nat) (List.getD l (Int.toNat i) D.nilp)) (fl (7 : Nat) (List.getD l (Int.toNat i) D.nilp)) (fs (6 : Nat) (List.getD l (Int.toNat i) D.nilp))) then n1 else true) (bif arOk (appR rt nn st wy fc hops steps parts nm (fi (0 : Nat) (List.getD l (Int.toNat i) D.nilp)) (fi (1 : Nat) (List.getD l (Int.toNat i) D.nilp)) (fi (2 : Nat) (List.getD l (Int.toNat i) D.nilp)) (fi (4 : Nat) (List.getD l (Int.toNat i) D.nilp)) (fi (5 : Nat) (List.getD l (Int.toNat i) D.nilp)) (fl (3 : Nat) (List.getD l (Int.toNat i) D.nilp)) (fl (7 : Nat) (List.getD l (Int.toNat i) D.nilp)) (fs (6 : Nat) (List.getD l (Int.toNat i) D.nilp))) then hops else [])), V.d (D.str (bif arOk (appR rt nn st wy fc hops steps parts nm (fi (0 : Nat) (List.getD l (Int.toNat i) D.nilp)) (fi (1 : Nat) (List.getD l (Int.toNat i) D.nilp)) (fi (2 : Nat) (List.getD l (Int.toNat i) D.nilp)) (fi (4 : Nat) (List.getD l (Int.toNat i) D.nilp)) (fi (5 : Nat) (List.getD l (Int.toNat i) D.nilp)) (fl (3 : Nat) (List.getD l (Int.toNat i) D.nilp)) (fl (7 : Nat) (List.getD l (Int.toNat i) D.nilp)) (fs (6 : Nat) (List.getD l (Int.toNat i) D.nilp))) then nm else [])), V.d (D.sl stepSh (!arOk (appR rt nn st wy fc hops steps parts nm (fi (0 : Nat) (List.getD l (Int.toNat i) D.nilp)) (fi (1 : Nat) (List.getD l (Int.toNat i) D.nilp)) (fi (2 : Nat) (List.getD l (Int.toNat i) D.nilp)) (fi (4 : Nat) (List.getD l (Int.toNat i) D.nilp)) (fi (5 : Nat) (List.getD l (Int.toNat i) D.nilp)) (fl (3 : Nat) (List.getD l (Int.toNat i) D.nilp)) (fl (7 : Nat) (List.getD l (Int.toNat i) D.nilp)) (fs (6 : Nat) (List.getD l (Int.toNat i) D.nilp)))) (bif arOk (appR rt nn st wy fc hops steps parts nm (fi (0 : Nat) (List.getD l (Int.toNat i) D.nilp)) (fi (1 : Nat) (List.getD l (Int.toNat i) D.nilp)) (fi (2 : Nat) (List.getD l (Int.toNat i) D.nilp)) (fi (4 : Nat) (List.getD l (Int.toNat i) D.nilp)) (fi (5 : Nat) (List.getD l (Int.toNat i) D.nilp)) (fl (3 : Nat) (List.getD l (Int.toNat i) D.nilp)) (fl (7 : Nat) (List.getD l (Int.toNat i) D.nilp)) (fs (6 : Nat) (List.getD l (Int.toNat i) D.nilp))) then steps else [])), V.d (D.int IntKind.i64 (arS (appR rt nn st wy fc hops steps parts nm (fi (0 : Nat) (List.getD l (Int.toNat i) D.nilp)) (fi (1 : Nat) (List.getD l (Int.toNat i) D.nilp)) (fi (2 : Nat) (List.getD l (Int.toNat i) D.nilp)) (fi (4 : Nat) (List.getD l (Int.toNat i) D.nilp)) (fi (5 : Nat) (List.getD l (Int.toNat i) D.nilp)) (fl (3 : Nat) (List.getD l (Int.toNat i) D.nilp)) (fl (7 : Nat) (List.getD l (Int.toNat i) D.nilp)) (fs (6 : Nat) (List.getD l (Int.toNat i) D.nilp))))), V.d (D.int IntKind.i64 (arW (appR rt nn st wy fc hops steps parts nm (fi (0 : Nat) (List.getD l (Int.toNat i) D.nilp)) (fi (1 : Nat) (List.getD l (Int.toNat i) D.nilp)) (fi (2 : Nat) (List.getD l (Int.toNat i) D.nilp)) (fi (4 : Nat) (List.getD l (Int.toNat i) D.nilp)) (fi (5 : Nat) (List.getD l (Int.toNat i) D.nilp)) (fl (3 : Nat) (List.getD l (Int.toNat i) D.nilp)) (fl (7 : Nat) (List.getD l (Int.toNat i) D.nilp)) (fs (6 : Nat) (List.getD l (Int.toNat i) D.nilp))))), V.d (D.sl hopSh (!arOk (appR rt nn st wy fc hops steps parts nm (fi (0 : Nat) (List.getD l (Int.toNat i) D.nilp)) (fi (1 : Nat) (List.getD l (Int.toNat i) D.nilp)) (fi (2 : Nat) (List.getD l (Int.toNat i) D.nilp)) (fi (4 : Nat) (List.getD l (Int.toNat i) D.nilp)) (fi (5 : Nat) (List.getD l (Int.toNat i) D.nilp)) (fl (3 : Nat) (List.getD l (Int.toNat i) D.nilp)) (fl (7 : Nat) (List.getD l (Int.toNat i) D.nilp)) (fs (6 : Nat) (List.getD l (Int.toNat i) D.nilp)))) (arP (appR rt nn st wy fc hops steps parts nm (fi (0 : Nat) (List.getD l (Int.toNat i) D.nilp)) (fi (1 : Nat) (List.getD l (Int.toNat i) D.nilp)) (fi (2 : Nat) (List.getD l (Int.toNat i) D.nilp)) (fi (4 : Nat) (List.getD l (Int.toNat i) D.nilp)) (fi (5 : Nat) (List.getD l (Int.toNat i) D.nilp)) (fl (3 : Nat) (List.getD l (Int.toNat i) D.nilp)) (fl (7 : Nat) (List.getD l (Int.toNat i) D.nilp)) (fs (6 : Nat) (List.getD l (Int.toNat i) D.nilp))))), V.d (D.bool (arF (appR rt nn st wy fc hops steps parts nm (fi (0 : Nat) (List.getD l (Int.toNat i) D.nilp)) (fi (1 : Nat) (List.getD l (Int.toNat i) D.nilp)) (fi (2 : Nat) (List.getD l (Int.toNat i) D.nilp)) (fi (4 : Nat) (List.getD l (Int.toNat i) D.nilp)) (fi (5 : Nat) (List.getD l (Int.toNat i) D.nilp)) (fl (3 : Nat) (List.getD l (Int.toNat i) D.nilp)) (fl (7 : Nat) (List.getD l (Int.toNat i) D.nilp)) (fs (6 : Nat) (List.getD l (Int.toNat i) D.nilp)))))])] }) else none else none else none else none else some [D.bool true] := by kernel_rfl
def s10k (a0 a1 a2 a3 a4 a5 a6 a7 : D) (nl : Bool) (l : List D) (rt nn st wy : Int) (n1 n2 n3 fc : Bool) (hops steps parts : List D) (nm : List UInt8) (i : Int) (s w : Int) (f : Bool) (p : List D) (k : Int) : St := { fr := frame 105 [(1, V.d (D.sl moveSh nl l)), (5, V.ptr 384 0), (7, V.d (D.int .i64 i)), (8, V.ptr 576 0), (10, V.d (D.int .i64 k))], ob := [(192, .box [V.d a0, V.d a1, V.d a2, V.d a3, V.d a4, V.d a5, V.d a6, V.d a7]), (384, .box [V.d (D.int .i64 rt), V.d (D.int .i64 nn), V.d (D.sl hopSh n1 hops), V.d (D.str nm), V.d (D.sl stepSh n2 steps), V.d (D.int .i64 st), V.d (D.int .i64 wy), V.d (D.sl partSh n3 parts), V.d (D.bool fc)]), (576, .box [V.d (D.int .i64 rt), V.d (D.int .i64 nn), V.d (D.sl hopSh n1 hops), V.d (D.str nm), V.d (D.sl stepSh false steps), V.d (D.int .i64 s), V.d (D.int .i64 w), V.d (D.sl partSh false p), V.d (D.bool f)])] }
theorem kk10 (m n jo j : Nat) (a0 a1 a2 a3 a4 a5 a6 a7 : D) (nl : Bool) (l : List D) (rt nn st wy : Int) (n1 n2 n3 fc : Bool) (hops steps parts : List D) (nm : List UInt8) (i : Int) (s w : Int) (f : Bool) (p : List D) (k : Int) : Go.AM.Tree.out (resumeL E23 (callN E23 (m+40)) n [(0, jo), (1, j+1)] c10 (s10k a0 a1 a2 a3 a4 a5 a6 a7 nl l rt nn st wy n1 n2 n3 fc hops steps parts nm i s w f p k)) = bif decide (k < (↑(List.length p) : Int)) then bif decide ((0 : Int) ≤ k ∧ k < (↑(List.length parts) : Int)) then bif fi (0 : Nat) (List.getD parts (Int.toNat k) D.nilp) != (3 : Int) then bif decide ((0 : Int) ≤ k ∧ k < (↑(List.length p) : Int)) then bif !fi (0 : Nat) (List.getD p (Int.toNat k) D.nilp) == (3 : Int) then Tree.out (resumeL E23 (callN E23 (m + (40 : Nat))) n [((0 : Nat), jo), ((1 : Nat), j)] c10 { fr := frame (105 : Nat) [((1 : Nat), V.d (D.sl (Sh.agg [Sh.int IntKind.i64, Sh.int IntKind.i64, Sh.int IntKind.i64, Sh.sl hopSh, Sh.int IntKind.i64, Sh.int IntKind.i64, Sh.str, Sh.sl stepSh]) nl l)), ((5 : Nat), V.ptr (384 : Nat) (0 : Nat)), ((7 : Nat), V.d (D.int IntKind.i64 i)), ((8 : Nat), V.ptr (576 : Nat) (0 : Nat)), ((10 : Nat), V.d (D.int IntKind.i64 (IntKind.wrap IntKind.i64 (k + (1 : Int)))))], ob := [((192 : Nat), Obj.box [V.d a0, V.d a1, V.d a2, V.d a3, V.d a4, V.d a5, V.d a6, V.d a7]), ((384 : Nat), Obj.box [V.d (D.int IntKind.i64 rt), V.d (D.int IntKind.i64 nn), V.d (D.sl hopSh n1 hops), V.d (D.str nm), V.d (D.sl stepSh n2 steps), V.d (D.int IntKind.i64 st), V.d (D.int IntKind.i64 wy), V.d (D.sl hopSh n3 parts), V.d (D.bool fc)]), ((576 : Nat), Obj.box [V.d (D.int IntKind.i64 rt), V.d (D.int IntKind.i64 nn), V.d (D.sl hopSh n1 hops), V.d (D.str nm), V.d (D.sl stepSh false steps), V.d (D.int IntKind.i64 s), V.d (D.int IntKind.i64 w), V.d (D.sl hopSh false p), V.d (D.bool f)])] }) else Tree.out (resumeL E23 (callN E23 (m + (40 : Nat))) n [((0 : Nat), jo), ((1 : Nat), j), ((2 : Nat), n)] c10 { fr := frame (105 : Nat) [((1 : Nat), V.d (D.sl (Sh.agg [Sh.int IntKind.i64, Sh.int IntKind.i64, Sh.int IntKind.i64, Sh.sl hopSh, Sh.int IntKind.i64, Sh.int IntKind.i64, Sh.str, Sh.sl stepSh]) nl l)), ((5 : Nat), V.ptr (384 : Nat) (0 : Nat)), ((7 : Nat), V.d (D.int IntKind.i64 i)), ((8 : Nat), V.ptr (576 : Nat) (0 : Nat)), ((10 : Nat), V.d (D.int IntKind.i64 k)), ((11 : Nat), V.d (D.int IntKind.i64 (IntKind.wrap IntKind.i64 (k + (1 : Int)))))], ob := [((192 : Nat), Obj.box [V.d a0, V.d a1, V.d a2, V.d a3, V.d a4, V.d a5, V.d a6, V.d a7]), ((384 : Nat), Obj.box [V.d (D.int IntKind.i64 rt), V.d (D.int IntKind.i64 nn), V.d (D.sl hopSh n1 hops), V.d (D.str nm), V.d (D.sl stepSh n2 steps), V.d (D.int IntKind.i64 st), V.d (D.int IntKind.i64 wy), V.d (D.sl hopSh n3 parts), V.d (D.bool fc)]), ((576 : Nat), Obj.box [V.d (D.int IntKind.i64 rt), V.d (D.int IntKind.i64 nn), V.d (D.sl hopSh n1 hops), V.d (D.str nm), V.d (D.sl stepSh false steps), V.d (D.int IntKind.i64 s), V.d (D.int IntKind.i64 w), V.d (D.sl hopSh false p), V.d (D.bool f)])] }) else none else Tree.out (resumeL E23 (callN E23 (m + (40 : Nat))) n [((0 : Nat), jo), ((1 : Nat), j)] c10 { fr := frame (105 : Nat) [((1 : Nat), V.d (D.sl (Sh.agg [Sh.int IntKind.i64, Sh.int IntKind.i64, Sh.int IntKind.i64, Sh.sl hopSh, Sh.int IntKind.i64, Sh.int IntKind.i64, Sh.str, Sh.sl stepSh]) nl l)), ((5 : Nat), V.ptr (384 : Nat) (0 : Nat)), ((7 : Nat), V.d (D.int IntKind.i64 i)), ((8 : Nat), V.ptr (576 : Nat) (0 : Nat)), ((10 : Nat), V.d (D.int IntKind.i64 (IntKind.wrap IntKind.i64 (k + (1 : Int)))))], ob := [((192 : Nat), Obj.box [V.d a0, V.d a1, V.d a2, V.d a3, V.d a4, V.d a5, V.d a6, V.d a7]), ((384 : Nat), Obj.box [V.d (D.int IntKind.i64 rt), V.d (D.int IntKind.i64 nn), V.d (D.sl hopSh n1 hops), V.d (D.str nm), V.d (D.sl stepSh n2 steps), V.d (D.int IntKind.i64 st), V.d (D.int IntKind.i64 wy), V.d (D.sl hopSh n3 parts), V.d (D.bool fc)]), ((576 : Nat), Obj.box [V.d (D.int IntKind.i64 rt), V.d (D.int IntKind.i64 nn), V.d (D.sl hopSh n1 hops), V.d (D.str nm), V.d (D.sl stepSh false steps), V.d (D.int IntKind.i64 s), V.d (D.int IntKind.i64 w), V.d (D.sl hopSh false p), V.d (D.bool f)])] }) else none else Tree.out (resume E23 (callN E23 (m + (40 : Nat))) n jo (0 : Nat) c10 { fr := frame (105 : Nat) [((1 : Nat), V.d (D.sl (Sh.agg [Sh.int IntKind.i64, Sh.int IntKind.i64, Sh.int IntKind.i64, Sh.sl hopSh, Sh.int IntKind.i64, Sh.int IntKind.i64, Sh.str, Sh.sl stepSh]) nl l)), ((5 : Nat), V.ptr (384 : Nat) (0 : Nat)), ((7 : Nat), V.d (D.int IntKind.i64 (IntKind.wrap IntKind.i64 (i + (1 : Int)))))], ob := [((192 : Nat), Obj.box [V.d a0, V.d a1, V.d a2, V.d a3, V.d a4, V.d a5, V.d a6, V.d a7]), ((384 : Nat), Obj.box [V.d (D.int IntKind.i64 rt), V.d (D.int IntKind.i64 nn), V.d (D.sl hopSh n1 hops), V.d (D.str nm), V.d (D.sl stepSh false steps), V.d (D.int IntKind.i64 s), V.d (D.int IntKind.i64 w), V.d (D.sl hopSh false p), V.d (D.bool f)])] }) := by kernel_rfl
def s10m (a0 a1 a2 a3 a4 a5 a6 a7 : D) (nl : Bool) (l : List D) (rt nn st wy : Int) (n1 n2 n3 fc : Bool) (hops steps parts : List D) (nm : List UInt8) (i : Int) (s w : Int) (f : Bool) (p : List D) (k q : Int) : St := { fr := frame 105 [(1, V.d (D.sl moveSh nl l)), (5, V.ptr 384 0), (7, V.d (D.int .i64 i)), (8, V.ptr 576 0), (10, V.d (D.int .i64 k)), (11, V.d (D.int .i64 q))], ob := [(192, .box [V.d a0, V.d a1, V.d a2, V.d a3, V.d a4, V.d a5, V.d a6, V.d a7]), (384, .box [V.d (D.int .i64 rt), V.d (D.int .i64 nn), V.d (D.sl hopSh n1 hops), V.d (D.str nm), V.d (D.sl stepSh n2 steps), V.d (D.int .i64 st), V.d (D.int .i64 wy), V.d (D.sl partSh n3 parts), V.d (D.bool fc)]), (576, .box [V.d (D.int .i64 rt), V.d (D.int .i64 nn), V.d (D.sl hopSh n1 hops), V.d (D.str nm), V.d (D.sl stepSh false steps), V.d (D.int .i64 s), V.d (D.int .i64 w), V.d (D.sl partSh false p), V.d (D.bool f)])] }
theorem m10 (m n jo jm j : Nat) (a0 a1 a2 a3 a4 a5 a6 a7 : D) (nl : Bool) (l : List D) (rt nn st wy : Int) (n1 n2 n3 fc : Bool) (hops steps parts : List D) (nm : List UInt8) (i : Int) (s w : Int) (f : Bool) (p : List D) (k q : Int) : Go.AM.Tree.out (resumeL E23 (callN E23 (m+40)) n [(0, jo), (1, jm), (2, j+1)] c10 (s10m a0 a1 a2 a3 a4 a5 a6 a7 nl l rt nn st wy n1 n2 n3 fc hops steps parts nm i s w f p k q)) = bif decide (q < (↑(List.length p) : Int)) then bif decide ((0 : Int) ≤ q ∧ q < (↑(List.length p) : Int)) then bif fi (0 : Nat) (List.getD p (Int.toNat q) D.nilp) == (1 : Int) then some [D.bool false] else bif decide ((0 : Int) ≤ q ∧ q < (↑(List.length p) : Int)) then bif fi (0 : Nat) (List.getD p (Int.toNat q) D.nilp) == (2 : Int) then some [D.bool false] else Tree.out (resumeL E23 (callN E23 (m + (40 : Nat))) n [((0 : Nat), jo), ((1 : Nat), jm), ((2 : Nat), j)] c10 { fr := frame (105 : Nat) [((1 : Nat), V.d (D.sl (Sh.agg [Sh.int IntKind.i64, Sh.int IntKind.i64, Sh.int IntKind.i64, Sh.sl hopSh, Sh.int IntKind.i64, Sh.int IntKind.i64, Sh.str, Sh.sl stepSh]) nl l)), ((5 : Nat), V.ptr (384 : Nat) (0 : Nat)), ((7 : Nat), V.d (D.int IntKind.i64 i)), ((8 : Nat), V.ptr (576 : Nat) (0 : Nat)), ((10 : Nat), V.d (D.int IntKind.i64 k)), ((11 : Nat), V.d (D.int IntKind.i64 (IntKind.wrap IntKind.i64 (q + (1 : Int)))))], ob := [((192 : Nat), Obj.box [V.d a0, V.d a1, V.d a2, V.d a3, V.d a4, V.d a5, V.d a6, V.d a7]), ((384 : Nat), Obj.box [V.d (D.int IntKind.i64 rt), V.d (D.int IntKind.i64 nn), V.d (D.sl hopSh n1 hops), V.d (D.str nm), V.d (D.sl stepSh n2 steps), V.d (D.int IntKind.i64 st), V.d (D.int IntKind.i64 wy), V.d (D.sl hopSh n3 parts), V.d (D.bool fc)]), ((576 : Nat), Obj.box [V.d (D.int IntKind.i64 rt), V.d (D.int IntKind.i64 nn), V.d (D.sl hopSh n1 hops), V.d (D.str nm), V.d (D.sl stepSh false steps), V.d (D.int IntKind.i64 s), V.d (D.int IntKind.i64 w), V.d (D.sl hopSh false p), V.d (D.bool f)])] }) else none else none else Tree.out (resumeL E23 (callN E23 (m + (40 : Nat))) n [((0 : Nat), jo), ((1 : Nat), jm)] c10 { fr := frame (105 : Nat) [((1 : Nat), V.d (D.sl (Sh.agg [Sh.int IntKind.i64, Sh.int IntKind.i64, Sh.int IntKind.i64, Sh.sl hopSh, Sh.int IntKind.i64, Sh.int IntKind.i64, Sh.str, Sh.sl stepSh]) nl l)), ((5 : Nat), V.ptr (384 : Nat) (0 : Nat)), ((7 : Nat), V.d (D.int IntKind.i64 i)), ((8 : Nat), V.ptr (576 : Nat) (0 : Nat)), ((10 : Nat), V.d (D.int IntKind.i64 (IntKind.wrap IntKind.i64 (k + (1 : Int)))))], ob := [((192 : Nat), Obj.box [V.d a0, V.d a1, V.d a2, V.d a3, V.d a4, V.d a5, V.d a6, V.d a7]), ((384 : Nat), Obj.box [V.d (D.int IntKind.i64 rt), V.d (D.int IntKind.i64 nn), V.d (D.sl hopSh n1 hops), V.d (D.str nm), V.d (D.sl stepSh n2 steps), V.d (D.int IntKind.i64 st), V.d (D.int IntKind.i64 wy), V.d (D.sl hopSh n3 parts), V.d (D.bool fc)]), ((576 : Nat), Obj.box [V.d (D.int IntKind.i64 rt), V.d (D.int IntKind.i64 nn), V.d (D.sl hopSh n1 hops), V.d (D.str nm), V.d (D.sl stepSh false steps), V.d (D.int IntKind.i64 s), V.d (D.int IntKind.i64 w), V.d (D.sl hopSh false p), V.d (D.bool f)])] }) := by kernel_rfl
end Go.Proofs.YtkjiaijkdefkgaaGreatDoor.A
/- Without force, and without the loss of a step that is not current, a part that goes away has no open one behind it. -/
namespace Go.Proofs.YtkjiaijkdefkgaaGreatDoor.A
open Go Go.AM
theorem cur_at {st : Int} {parts : List D} (hc : 0 ≤ cur st parts) : st = 1 ∨ st = 4 ∨ st = 5 := by
  by_cases h1 : st = 1
  · exact .inl h1
  · by_cases h4 : st = 4
    · exact .inr (.inl h4)
    · by_cases h5 : st = 5
      · exact .inr (.inr h5)
      · exfalso
        unfold cur at hc
        rw [beqF h1, beqF h4, beqF h5] at hc
        simp only [Bool.or_self, cond_false] at hc
        omega
theorem behind {st wy : Int} {fc : Bool} {hops parts steps : List D} {sp : Int} (hg : Good st wy fc hops steps parts) (hs0 : 0 ≤ sp) (hc : sp = cur st parts) (h3 : stAt parts sp.toNat ≠ 3) :
    ∀ j, sp.toNat < j → j < parts.length → stAt parts j ≠ 1 ∧ stAt parts j ≠ 2 := by
  subst hc
  rcases cur_at hs0 with rfl | rfl | rfl
  · have hf := hg.fit'
    cases hf with
    | running hf hw hr =>
      intro j h1 h2
      have := (run_at hr hs0 h3).2 j h1 h2
      omega
  · rw [cur4] at *
    exact (cur5_spec hs0).2.2
  · exact (cur5_spec hs0).2.2
theorem set_gone {parts : List D} {c k : Nat} {a b : Int} (hl : c < parts.length) (h1 : stAt parts k ≠ 3) (h2 : stAt (parts.set c (part a b)) k = 3) : c = k ∧ a = 3 := by
  rw [st_set hl] at h2
  split at h2
  · rename_i e; exact ⟨e, h2⟩
  · exact absurd h2 h1
theorem order_mv {st wy : Int} {fc : Bool} {hops parts steps : List D} {kd sp mw s w : Int} {f : Bool} {p : List D} (hg : Good st wy fc hops steps parts) (hs0 : 0 ≤ sp) (h16 : kd ≠ 16) (h7 : kd = 7 → sp = cur st parts) (hpl : p.length = parts.length) (h : Mv st wy fc hops parts steps sp mw kd s w f p) :
    ∀ k, k < p.length → stAt parts k ≠ 3 → stAt p k = 3 → ∀ j, k < j → j < p.length → stAt p j ≠ 1 ∧ stAt p j ≠ 2 := by
  intro k hk h1 h2
  cases h with
  | fail hl hc ha hs => obtain ⟨rfl, e⟩ := set_gone hl h1 h2; exact absurd e h1
  | does hl hc ha hs => obtain ⟨rfl, e⟩ := set_gone hl h1 h2; omega
  | ask hl hc ha hs h0 => obtain ⟨rfl, e⟩ := set_gone hl h1 h2; omega
  | got hl hc ha hs h0 => obtain ⟨rfl, e⟩ := set_gone hl h1 h2; omega
  | lost hl ha ho h0 =>
    obtain ⟨rfl, -⟩ := set_gone hl h1 h2
    intro j hj hj2
    rw [st_set hl, if_neg (by omega)]
    exact behind hg hs0 (h7 rfl) h1 j hj (by omega)
  | hold => exact absurd h2 h1
  | commit =>
    rw [own_st (by omega)] at h2
    split at h2
    · omega
    · exact absurd h2 h1
  | back => rw [calm_st (by omega)] at h2; exact absurd h2 h1
  | undo hl hc ha hs =>
    obtain ⟨rfl, -⟩ := set_gone hl h1 h2
    intro j hj hj2
    rw [st_set hl, if_neg (by omega)]
    exact behind hg hs0 hc h1 j hj (by omega)
  | jam => exact absurd h2 h1
  | again hs =>
    by_cases hl : (cur st parts).toNat < parts.length
    · obtain ⟨rfl, e⟩ := set_gone hl h1 h2; exact absurd e h1
    · rw [set_ge (by omega)] at h2; exact absurd h2 h1
  | ends => exact absurd h2 h1
  | kept hl ha hs h0 => obtain ⟨rfl, e⟩ := set_gone hl h1 h2; omega
  | forceC => exact absurd rfl h16
  | forceU => exact absurd rfl h16
end Go.Proofs.YtkjiaijkdefkgaaGreatDoor.A
/- SagaOrder: the walk and the law joined. -/
namespace Go.Proofs.YtkjiaijkdefkgaaGreatDoor.A
open Go Go.AM
theorem loop10m (m n jo jm : Nat) (a0 a1 a2 a3 a4 a5 a6 a7 : D) (nl : Bool) (l : List D) (rt nn st wy : Int) (n1 n2 n3 fc : Bool) (hops steps parts : List D) (nm : List UInt8) (i : Int) (s w : Int) (f : Bool) (p : List D) (k : Nat) (lp : p.length ≤ 1000000) (hk : k < p.length) : ∀ (r q j : Nat), q + r = p.length → r < j → (∀ x, q ≤ x → x < p.length → stAt p x ≠ 1 ∧ stAt p x ≠ 2) →
    (resumeL E23 (callN E23 (m+40)) n [(0, jo), (1, jm), (2, j)] c10 (s10m a0 a1 a2 a3 a4 a5 a6 a7 nl l rt nn st wy n1 n2 n3 fc hops steps parts nm i s w f p k (q : Nat))).out
      = (resumeL E23 (callN E23 (m+40)) n [(0, jo), (1, jm)] c10 (s10k a0 a1 a2 a3 a4 a5 a6 a7 nl l rt nn st wy n1 n2 n3 fc hops steps parts nm i s w f p (k + 1 : Nat))).out := by
  intro r
  induction r with
  | zero =>
    intro q j hq hj H
    cases j with
    | zero => omega
    | succ j =>
      have : q = p.length := by omega
      subst this
      rw [m10]
      simp only [dec_end, cond_false, wrap_up hk lp]
      rfl
  | succ r ih =>
    intro q j hq hj H
    cases j with
    | zero => omega
    | succ j =>
      have hlt : q < p.length := by omega
      rw [m10]
      simp only [Int.toNat_natCast, wrap_up hlt lp, dec_lt hlt, dec_ix hlt, cond_true]
      obtain ⟨g1, g2⟩ := H q (by omega) hlt
      have g1 : (fi 0 (p.getD q .nilp) == 1) = false := beqF g1
      have g2 : (fi 0 (p.getD q .nilp) == 2) = false := beqF g2
      simp only [g1, g2, cond_false]
      exact ih (q + 1) j (by omega) (by omega) fun x hx => H x (by omega)
theorem loop10k (m n jo : Nat) (a0 a1 a2 a3 a4 a5 a6 a7 : D) (nl : Bool) (l : List D) (rt nn st wy : Int) (n1 n2 n3 fc : Bool) (hops steps parts : List D) (nm : List UInt8) (i : Nat) (s w : Int) (f : Bool) (p : List D) (lp : p.length ≤ 1000000) (hn : p.length < n) (hpl : p.length = parts.length) (hi : i < l.length) (ll : l.length ≤ 1000000)
    (H : ∀ k, k < p.length → stAt parts k ≠ 3 → stAt p k = 3 → ∀ j, k < j → j < p.length → stAt p j ≠ 1 ∧ stAt p j ≠ 2) : ∀ (r k j : Nat), k + r = p.length → r < j →
    (resumeL E23 (callN E23 (m+40)) n [(0, jo), (1, j)] c10 (s10k a0 a1 a2 a3 a4 a5 a6 a7 nl l rt nn st wy n1 n2 n3 fc hops steps parts nm (i : Nat) s w f p (k : Nat))).out
      = (resume E23 (callN E23 (m+40)) n jo 0 c10 (s10 a0 a1 a2 a3 a4 a5 a6 a7 nl l rt nn s w n1 false false f hops steps p nm (i + 1 : Nat))).out := by
  intro r
  induction r with
  | zero =>
    intro k j hk hj
    cases j with
    | zero => omega
    | succ j =>
      have : k = p.length := by omega
      subst this
      rw [kk10]
      simp only [dec_end, cond_false, wrap_up hi ll]
      rfl
  | succ r ih =>
    intro k j hk hj
    cases j with
    | zero => omega
    | succ j =>
      have hlt : k < p.length := by omega
      have hr := ih (k + 1) j (by omega) (by omega)
      rw [kk10]
      simp only [Int.toNat_natCast, wrap_up hlt lp, dec_lt hlt, dec_ix hlt, dec_ix (show k < parts.length by omega), cond_true]
      cases h3 : (fi 0 (parts.getD k .nilp) != 3)
      · simp only [cond_false]
        exact hr
      · cases h4 : (fi 0 (p.getD k .nilp) == 3)
        · simp only [cond_true, Bool.not_false]
          exact hr
        · simp only [cond_true, cond_false, Bool.not_true]
          refine Eq.trans ?_ hr
          exact loop10m m n jo j a0 a1 a2 a3 a4 a5 a6 a7 nl l rt nn st wy n1 n2 n3 fc hops steps parts nm i s w f p k lp hlt (p.length - (k + 1)) (k + 1) n (by omega) (by omega)
            fun x h1 h2 => H k hlt (bne_iff_ne.1 h3) (beq_iff_eq.1 h4) x (by omega) h2
theorem loop10 (m n : Nat) (a0 a1 a2 a3 a4 a5 a6 a7 : D) (nl : Bool) (l : List D) (rt nn : Int) (n1 : Bool) (hops steps : List D) (nm : List UInt8) (h1 : n1 = true → hops = []) (l1 : hops.length ≤ 1000000) (l2 : steps.length ≤ 1000000) (ll : l.length ≤ 1000000) (hn : 3000 ≤ n)
    (hl : ∀ i, i < l.length → fewM (fl 3 (l.getD i .nilp)) (fl 7 (l.getD i .nilp)) = true) : ∀ (r i j : Nat) (st wy : Int) (n2 n3 fc : Bool) (parts : List D), i + r = l.length → r < j → (n2 = true → steps = []) → (n3 = true → parts = []) → parts.length ≤ 1000 →
    (resume E23 (callN E23 (m+40)) n j 0 c10 (s10 a0 a1 a2 a3 a4 a5 a6 a7 nl l rt nn st wy n1 n2 n3 fc hops steps parts nm (i : Nat))).out = some [.bool true] := by
  intro r
  induction r with
  | zero =>
    intro i j st wy n2 n3 fc parts hi hj h2 h3 l3
    cases j with
    | zero => omega
    | succ j =>
      have : i = l.length := by omega
      subst this
      rw [l10]
      simp only [dec_end, cond_false]
  | succ r ih =>
    intro i j st wy n2 n3 fc parts hi hj h2 h3 l3
    cases j with
    | zero => omega
    | succ j =>
      have hlt : i < l.length := by omega
      have skip := ih (i + 1) j st wy n2 n3 fc parts (by omega) (by omega) h2 h3 l3
      have hfm := hl i hlt
      unfold fewM at hfm
      simp only [Bool.and_eq_true, decide_eq_true_eq] at hfm
      rw [l10]
      simp only [Int.toNat_natCast, wrap_up hlt ll, dec_lt hlt, dec_ix hlt, decide_eq_true l2, decide_eq_true (show parts.length ≤ 1000000 by omega), cond_true]
      generalize l.getD i .nilp = x at hfm ⊢
      have hgd := gd_ok (rt := rt) (nn := nn) (st := st) (wy := wy) (fc := fc) (nm := nm) (kd := fi 0 x) (mh := fl 3 x) h1 h2 h3 l1 l2 (by omega) (by omega)
      cases h16 : (fi 0 x == 16)
      · have go : ((fi 0 x = 7) → arE (appR rt nn st wy fc hops steps parts nm (fi 0 x) (fi 1 x) (fi 2 x) (fi 4 x) (fi 5 x) (fl 3 x) (fl 7 x) (fs 6 x)) = 0 → fi 4 x = cur st parts) → ∀ s w f p, appR rt nn st wy fc hops steps parts nm (fi 0 x) (fi 1 x) (fi 2 x) (fi 4 x) (fi 5 x) (fl 3 x) (fl 7 x) (fs 6 x) = .good s w f p →
            (resumeL E23 (callN E23 (m+40)) n [(0, j), (1, n)] c10 (s10k a0 a1 a2 a3 a4 a5 a6 a7 nl l rt nn st wy n1 n2 n3 fc hops steps parts nm (i : Nat) s w f p (0 : Nat))).out = some [.bool true] := by
          intro h7 s w f p hR
          have ha : arE (appR rt nn st wy fc hops steps parts nm (fi 0 x) (fi 1 x) (fi 2 x) (fi 4 x) (fi 5 x) (fl 3 x) (fl 7 x) (fs 6 x)) = 0 := by rw [hR]; rfl
          obtain ⟨hm, hs7, hmv, s', w', f', p', hR', hA, hpl⟩ := appR_good ha
          rw [hR] at hR'
          obtain ⟨rfl, rfl, rfl, rfl⟩ := good_inj hR'
          have hM := apply_mv (moveOk_sp hmv) (moveOk_kd hmv) hA
          have H := order_mv (mayOk_good hm hs7) (moveOk_sp hmv) (by simpa using h16) (fun h => h7 h ha) hpl hM
          rw [loop10k m n j a0 a1 a2 a3 a4 a5 a6 a7 nl l rt nn st wy n1 n2 n3 fc hops steps parts nm i _ _ _ _ (by omega) (by omega) hpl hlt ll H parts.length 0 n (by omega) (by omega)]
          exact ih (i + 1) j _ _ false false _ _ (by omega) (by omega) (fun h => by cases h) (fun h => by cases h) (by omega)
        cases h7 : (fi 0 x == 7)
        · simp only [cond_false, hgd, cond_true]
          cases ha : (arE (appR rt nn st wy fc hops steps parts nm (fi 0 x) (fi 1 x) (fi 2 x) (fi 4 x) (fi 5 x) (fl 3 x) (fl 7 x) (fs 6 x)) != 0)
          · have ha : arE (appR rt nn st wy fc hops steps parts nm (fi 0 x) (fi 1 x) (fi 2 x) (fi 4 x) (fi 5 x) (fl 3 x) (fl 7 x) (fs 6 x)) = 0 := by simpa using ha
            obtain ⟨-, -, -, s, w, f, p, hR, -, -⟩ := appR_good ha
            have := go (fun h => by rw [h] at h7; cases h7) s w f p hR
            rw [hR]
            exact this
          · exact skip
        · cases hc : (fi 4 x != curR rt nn st wy fc hops steps parts nm)
          · simp only [cond_false, hgd, cond_true]
            cases ha : (arE (appR rt nn st wy fc hops steps parts nm (fi 0 x) (fi 1 x) (fi 2 x) (fi 4 x) (fi 5 x) (fl 3 x) (fl 7 x) (fs 6 x)) != 0)
            · have ha : arE (appR rt nn st wy fc hops steps parts nm (fi 0 x) (fi 1 x) (fi 2 x) (fi 4 x) (fi 5 x) (fl 3 x) (fl 7 x) (fs 6 x)) = 0 := by simpa using ha
              obtain ⟨hm, -, -, s, w, f, p, hR, -, -⟩ := appR_good ha
              have hc : fi 4 x = curR rt nn st wy fc hops steps parts nm := by simpa using hc
              have hcc : curR rt nn st wy fc hops steps parts nm = cur st parts := by unfold curR; rw [hm]; rfl
              have := go (fun _ _ => hc.trans hcc) s w f p hR
              rw [hR]
              exact this
            · exact skip
          · exact skip
      · exact skip
theorem allM_iff {l : List D} : allM l = true ↔ ∀ i, i < l.length → fewM (fl 3 (l.getD i .nilp)) (fl 7 (l.getD i .nilp)) = true := by
  unfold allM
  rw [scan_all (fun i => fewM (fl 3 (l.getD i .nilp)) (fl 7 (l.getD i .nilp)))]
  exact ⟨fun h i hi => h i (by omega) (by omega), fun h i _ hi => h i (by omega)⟩
theorem fewL_iff {mh ms l : List D} (h : fewL mh ms l = true) : l.length ≤ 100 ∧ mh.length ≤ 50 ∧ ms.length ≤ 50 ∧ ∀ i, i < l.length → fewM (fl 3 (l.getD i .nilp)) (fl 7 (l.getD i .nilp)) = true := by
  unfold fewL at h
  cases h1 : decide ((100 : Int) < (l.length : Int))
  · have h1 := of_decide_eq_false h1
    cases h2 : fewM mh ms
    · rw [h2] at h; simp at h
    · have h2' := h2
      unfold fewM at h2
      simp only [Bool.and_eq_true, decide_eq_true_eq] at h2
      rw [h2', decide_eq_false h1] at h
      exact ⟨by omega, by omega, by omega, allM_iff.1 h⟩
  · rw [h1] at h; cases h
theorem order (m n : Nat) (kd mr mn sp mw : Int) (k1 k2 : Bool) (mh ms : List D) (mm : List UInt8) (nl : Bool) (l : List D) (h1 : k1 = true → mh = []) (h2 : k2 = true → ms = []) (hn : 3000 ≤ n) :
    (enterM E23 (callN E23 (m+40)) n c10 [.d (moveD kd mr mn sp mw k1 k2 mh ms mm), .d (.sl moveSh nl l)] []).out = some [.bool true] := by
  rw [e10]
  cases hf : fewL mh ms l
  · rfl
  · obtain ⟨f1, f2, f3, f4⟩ := fewL_iff hf
    have g : ((!k1 || mh.isEmpty) && (!k2 || ms.isEmpty) && (decide (mh.length ≤ 1000000) && decide (ms.length ≤ 1000000))) = true := by
      rw [decide_eq_true (show mh.length ≤ 1000000 by omega), decide_eq_true (show ms.length ≤ 1000000 by omega)]
      cases k1 with
      | false => cases k2 with
        | false => rfl
        | true => rw [h2 rfl]; rfl
      | true => rw [h1 rfl]; cases k2 with
        | false => rfl
        | true => rw [h2 rfl]; rfl
    rw [g]
    simp only [Bool.not_true, cond_false, cond_true]
    cases moveOk kd mr mn sp mw mh ms mm
    · rfl
    · cases (kd == 1)
      · cases (kd == 2)
        · rfl
        · exact loop10 m n _ _ _ _ _ _ _ _ nl l mr mn k1 mh [] [] h1 (by omega) (by simp) (by omega) hn f4 l.length 0 n 7 mw true true false [] (by omega) (by omega) (fun _ => rfl) (fun _ => rfl) (by simp)
      · exact loop10 m n _ _ _ _ _ _ _ _ nl l mr mn k1 mh ms mm h1 (by omega) (by omega) (by omega) hn f4 l.length 0 n 1 0 k2 false false _ (by omega) (by omega) h2 (fun h => by cases h) (by rw [List.length_replicate]; omega)
end Go.Proofs.YtkjiaijkdefkgaaGreatDoor.A
