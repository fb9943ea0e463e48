/- Parts of the walk: P1, QN1, SN1, QN2, SN2, Lg, PL, I0, QI1, I1, QI2, I2, QI4, I4, I5, QI6, I6, QI7, I7, SR1, SR2, K0, QK2, SK2, SK3, QK3, SK4, SK5, PY, QK6, SK7, QKa, SKa, SK8, PX. -/
import Derived.Test.YtkjiaijkdefkgaaGreatDoorGj
import Derived.Test.YtkjiaijkdefkgaaGreatDoorRows
import Derived.Test.YtkjiaijkdefkgaaGreatDoorTie
import Derived.Test.YtkjiaijkdefkgaaGreatDoorCards
import Derived.ProofKit
import Derived.LaidMore
import Derived.Lay
import Derived.OpenShut
import Derived.Stop.Joined
import Derived.KernelRfl
namespace Go.Proofs.YtkjiaijkdefkgaaGreatDoor.A
open Go Go.AM Go.Proofs
theorem okE0 : EnvOK Tryz.prog E0 := EnvOK.of_table tableOK
theorem okE7 : EnvOK Tryz.prog E7 := ok7 mixed (ok6 mixed (ok5 mixed (ok4 mixed (ok3 mixed (ok2 mixed (ok1 mixed okE0))))))
theorem okE5 : EnvOK Tryz.prog E5 := ok5 mixed (ok4 mixed (ok3 mixed (ok2 mixed (ok1 mixed okE0))))
theorem okE8 : EnvOK Tryz.prog E8 := ok8 mixed okE7
theorem okE14 : EnvOK Tryz.prog E14 := ok14 mixed (ok13 mixed (ok12 mixed (ok11 mixed (ok10 mixed (ok9 mixed okE8)))))
theorem okE15 : EnvOK Tryz.prog E15 := ok15 mixed okE14 (fn74 mixed okE5)
theorem okE16 : EnvOK Tryz.prog E16 := ok16 mixed okE15 (fn46 mixed okE7) (fn50 mixed okE7)
theorem okE17 : EnvOK Tryz.prog E17 := ok17 mixed okE16 (fn56 mixed okE8)
theorem okE18 : EnvOK Tryz.prog E18 := ok18 mixed okE17
theorem pure122 : PureOK Tryz.prog 122 (gAt [([.str lit21], toks21)]) := PureOK.at mixed okE18 fun p hp => by
 simp only [List.mem_singleton] at hp
 subst hp
 exact ⟨60, scan_run⟩
theorem pure172 : PureOK Tryz.prog 172 (gAt [(tokl21, [.int .i64 0])]) := PureOK.at mixed okE18 fun p hp => by
 simp only [List.mem_singleton] at hp
 subst hp
 exact ⟨60, lex_run⟩
theorem okEW3 : EnvOK Tryz.prog EW3 := (okE18.pureAt pure122).pureAt pure172
theorem pure68 : PureOK Tryz.prog 68 (gAt [([.str lit21], text21)]) := PureOK.at mixed okEW3 fun p hp => by
 simp only [List.mem_singleton] at hp
 subst hp
 exact ⟨60, text_run⟩
theorem okEW4 : EnvOK Tryz.prog EW4 := EnvOK.selfAt mixed ((okE18.pureAt pure68).pureAt (PureOK.self mixed okE0 60 69)) 60 33
theorem pureAw : PureOK Tryz.prog 32 g20 := PureOK.run mixed okEW4 fun ds rs h => by
 unfold g20 at h
 split at h
 ·cases h
  exact ⟨60, awake_run⟩
 ·cases h
theorem okE20 : EnvOK Tryz.prog E20 := (ok19 mixed okE18).pureAt pureAw
def hopTy : Ty := .st [.int .i64, .int .i64]
def stepTy : Ty := .st [.st [.int .i64, .str, .int .i64], .int .i64, .str, .int .i64, .int .i64]
def moveTy : Ty := .st [.int .i64, .st [.int .i64, .int .i64, .sl hopTy], .int .i64, .int .i64, .st [.str, .sl stepTy]]
theorem move_in {x : D} (h0 : WF moveTy.sh x) : ∃ kd mr mn sp mw k1 k2 mh ms mm, x = moveD kd mr mn sp mw k1 k2 mh ms mm ∧ (k1 = true → mh = []) ∧ (k2 = true → ms = []) := by
 obtain ⟨cs, rfl, h⟩ := WF.inv_agg h0
 obtain ⟨_, _, rfl, a1, h⟩ := h.inv
 obtain ⟨_, _, rfl, a2, h⟩ := h.inv
 obtain ⟨_, _, rfl, a3, h⟩ := h.inv
 obtain ⟨_, _, rfl, a4, h⟩ := h.inv
 obtain ⟨_, _, rfl, a5, h⟩ := h.inv
 obtain ⟨_, _, rfl, a6, h⟩ := h.inv
 obtain ⟨_, _, rfl, a7, h⟩ := h.inv
 obtain ⟨_, _, rfl, a8, h⟩ := h.inv
 obtain rfl := h.inv_nil
 obtain ⟨kd, rfl⟩ := a1.inv_int
 obtain ⟨mr, rfl⟩ := a2.inv_int
 obtain ⟨mn, rfl⟩ := a3.inv_int
 obtain ⟨k1, mh, rfl, b1, -⟩ := a4.inv_sl
 obtain ⟨sp, rfl⟩ := a5.inv_int
 obtain ⟨mw, rfl⟩ := a6.inv_int
 obtain ⟨mm, rfl⟩ := a7.inv_str
 obtain ⟨k2, ms, rfl, b2, -⟩ := a8.inv_sl
 exact ⟨kd, mr, mn, sp, mw, k1, k2, mh, ms, mm, rfl, b1, b2⟩
theorem empty_of {b : Bool} {l : List D} (h : b = false ∨ l = []) (hb : b = true) : l = [] := by
 rcases h with h | h
 ·rw [hb] at h; cases h
 ·exact h
theorem or_empty {b : Bool} {l : List D} (h : b = true → l = []) : (!b || l.isEmpty) = true := by
 cases b with
 | false => rfl
 | true => rw [h rfl]; rfl
theorem own1 : ownKnob Tryz.prog.godebug = none := by kernel_rfl
theorem laidOut : laidOutB Tryz.prog = true := by kernel_rfl
def tabs5 : List (String × DataW Unit) := Rows.sagaDecidedRow.laid
theorem tabs5_met (os : Os) (args : Array Value) : laidMetH Tryz.prog tabs5 ((World.laidAll Tryz.prog os tabs5).forCall (fun _ _ => 0) ⟨#[], args, []⟩).memory := by
 rw [MakeChecks.laidMetH_plain _ _ _ (by kernel_rfl)]
 exact laidMet_laidAll _ (by kernel_rfl) (by kernel_rfl)
theorem tabs5_pow : ("internal/strconv.uint64pow10", (Rows.laid_internal_strconv_uint64pow10 : DataW Unit)) ∈ tabs5 := .tail _ (.tail _ (.head _))
def moveSh : Sh := .agg [.int .i64, .int .i64, .int .i64, .sl hopSh, .int .i64, .int .i64, .str, .sl stepSh]
theorem e43 (m n : Nat) (kd mr mn sp mw : Int) (k1 k2 : Bool) (mh ms : List D) (mm : List UInt8) (nl : Bool) (l : List D) : Tree.out (enterM E20 (callN E20 (m+40)) n c43 [.d (moveD kd mr mn sp mw k1 k2 mh ms mm), .d (.sl moveSh nl l)] []) = bif decide (100 < (l.length : Int)) then some [D.bool false] else bif !fewM mh ms then some [D.bool false] else Tree.out (resume E20 (callN E20 (m+40)) n n 0 c43 { fr := frame 26 [(1, V.d (D.sl (Sh.agg [Sh.int .i64, Sh.int .i64, Sh.int .i64, Sh.sl hopSh, Sh.int .i64, Sh.int .i64, Sh.str, Sh.sl stepSh]) nl l)), (5, V.d (D.int .i64 0))], ob := [(192, Obj.box [V.d (D.int .i64 kd), V.d (D.int .i64 mr), V.d (D.int .i64 mn), V.d (D.sl hopSh k1 mh), V.d (D.int .i64 sp), V.d (D.int .i64 mw), V.d (D.str mm), V.d (D.sl stepSh k2 ms)])] }) := by kernel_rfl
def s43 (kd mr mn sp mw : Int) (k1 k2 : Bool) (mh ms : List D) (mm : List UInt8) (nl : Bool) (l : List D) (i : Int) : St := { fr := frame 26 [(1, V.d (D.sl moveSh nl l)), (5, V.d (D.int .i64 i))], ob := [(192, .box [V.d (D.int IntKind.i64 kd), V.d (D.int IntKind.i64 mr), V.d (D.int IntKind.i64 mn), V.d (D.sl hopSh k1 mh), V.d (D.int IntKind.i64 sp), V.d (D.int IntKind.i64 mw), V.d (D.str mm), V.d (D.sl stepSh k2 ms)])] }
theorem l43 (m n j : Nat) (kd mr mn sp mw : Int) (k1 k2 : Bool) (mh ms : List D) (mm : List UInt8) (nl : Bool) (l : List D) (i : Int) : Tree.out (resume E20 (callN E20 (m+40)) n (j+1) 0 c43 (s43 kd mr mn sp mw k1 k2 mh ms mm nl l i)) = bif decide (i < (l.length : Int)) then bif decide (0 ≤ i ∧ i < (l.length : Int)) then bif !fewM (fl 3 (l.getD i.toNat .nilp)) (fl 7 (l.getD i.toNat .nilp)) then some [D.bool false] else Tree.out (resume E20 (callN E20 (m+40)) n j 0 c43 { fr := frame 26 [(1, V.d (D.sl (Sh.agg [Sh.int .i64, Sh.int .i64, Sh.int .i64, Sh.sl hopSh, Sh.int .i64, Sh.int .i64, Sh.str, Sh.sl stepSh]) nl l)), (5, V.d (D.int .i64 (IntKind.wrap .i64 (i + 1))))], ob := [(192, Obj.box [V.d (D.int .i64 kd), V.d (D.int .i64 mr), V.d (D.int .i64 mn), V.d (D.sl hopSh k1 mh), V.d (D.int .i64 sp), V.d (D.int .i64 mw), V.d (D.str mm), V.d (D.sl stepSh k2 ms)])] }) else none else some [D.bool true] := by kernel_rfl
theorem e148o (m n : Nat) (es : List D) : Tree.eval (enterM E20 (callN E20 (m+40)) n c148 [.own 0] [(0, .lst partSh false false false es)]) = bif decide (0 + es.length ≤ 4294967296) then some (V.own 384, [(0, Obj.lst hopSh false false false es), (384, Obj.lst hopSh false true false es)]) else none := by kernel_rfl
open Go Go.AM
def C148o (args : List V) (ob : Obs) : Tree (V × Obs) :=
 match args, ob with
 | [.own o], [(k, .lst e nl mv fz es)] => match Nat.beq o 0 && (Nat.beq k 0 && (Sh.beq e partSh && (!nl && (!mv && !fz)))) with
  | true => .ite (decide (es.length ≤ 1000000)) (fun _ => .ret (.own 384, [(k, .lst e nl mv fz es), (384, .lst partSh false true false es)])) (fun _ => .stuck)
  | false => .stuck
 | _, _ => .stuck
theorem fn148o {P : Program} (hm : P.follows .mixedOrders = true) (h0 : EnvOK P E20) : FnOK P 148 C148o := FnOK.run hm h0 fun args ob r h => by
 unfold C148o at h
 split at h
 ·rename_i o k e nl mv fz es
  split at h
  ·rename_i hb
   simp only [Bool.and_eq_true, Bool.not_eq_true'] at hb
   obtain ⟨h1, h2, h3, h4, h5, h6⟩ := hb
   have h1 := Nat.eq_of_beq_eq_true h1
   have h2 := Nat.eq_of_beq_eq_true h2
   have h3 := Sh.beq_eq h3
   subst h1 h2 h3 h4 h5 h6
   obtain ⟨hl, h⟩ := eval_guard h
   cases h
   have hl := of_decide_eq_true hl
   refine ⟨59 + 1, ?_⟩
   rw [callN_succ (fn := c148) rfl]
   refine (e148o 19 59 es).trans ?_
   have : decide (0 + es.length ≤ 4294967296) = true := decide_eq_true (by omega)
   rw [this]
   rfl
  ·cases h
 ·cases h
def E22 : Env := E20.genAt 148 (Cor (fun args _ => isOwnV args) C148o (Cclone partSh))
theorem ok22 {P : Program} (hm : P.follows .mixedOrders = true) (h0 : EnvOK P E20) (h148 : FnOK P 148 (Cclone partSh)) : EnvOK P E22 := h0.genAt (fnOr (fn148o hm h0) h148 _)
theorem e69 (m n : Nat) (kd mr mn sp mw : Int) (k1 k2 : Bool) (mh ms : List D) (mm : List UInt8) : Tree.out (enterM E22 (callN E22 (m+40)) n c69 [.d (moveD kd mr mn sp mw k1 k2 mh ms mm)] []) = bif (bif moveOk kd mr mn sp mw mh ms mm then (0 : Int) else (140 : Int)) != 0 then some [D.agg [D.int .i64 0, D.int .i64 0, D.sl hopSh true [], D.str [], D.sl stepSh true [], D.int .i64 0, D.int .i64 0, D.sl hopSh true [], D.bool false], D.int .i64 210] else bif kd == 1 then bif decide (0 ≤ (ms.length : Int) ∧ (ms.length : Int) ≤ (ms.length : Int) ∧ (ms.length : Int) ≤ 4294967296) then bif k1 then bif k2 then bif decide (List.length (List.replicate (ms.length) (D.agg [D.int .i64 0, D.int .i64 0])) ≤ 1000000) then some [D.agg [D.int .i64 mr, D.int .i64 mn, D.sl hopSh true [], D.str mm, D.sl stepSh true [], D.int .i64 1, D.int .i64 0, D.sl hopSh false (List.replicate (ms.length) (D.agg [D.int .i64 0, D.int .i64 0])), D.bool false], D.int .i64 0] else none else bif decide (ms.length ≤ 1000000) then bif decide (List.length (List.replicate (ms.length) (D.agg [D.int .i64 0, D.int .i64 0])) ≤ 1000000) then some [D.agg [D.int .i64 mr, D.int .i64 mn, D.sl hopSh true [], D.str mm, D.sl stepSh false ms, D.int .i64 1, D.int .i64 0, D.sl hopSh false (List.replicate (ms.length) (D.agg [D.int .i64 0, D.int .i64 0])), D.bool false], D.int .i64 0] else none else none else bif decide (mh.length ≤ 1000000) then bif k2 then bif decide (List.length (List.replicate (ms.length) (D.agg [D.int .i64 0, D.int .i64 0])) ≤ 1000000) then some [D.agg [D.int .i64 mr, D.int .i64 mn, D.sl hopSh false mh, D.str mm, D.sl stepSh true [], D.int .i64 1, D.int .i64 0, D.sl hopSh false (List.replicate (ms.length) (D.agg [D.int .i64 0, D.int .i64 0])), D.bool false], D.int .i64 0] else none else bif decide (ms.length ≤ 1000000) then bif decide (List.length (List.replicate (ms.length) (D.agg [D.int .i64 0, D.int .i64 0])) ≤ 1000000) then some [D.agg [D.int .i64 mr, D.int .i64 mn, D.sl hopSh false mh, D.str mm, D.sl stepSh false ms, D.int .i64 1, D.int .i64 0, D.sl hopSh false (List.replicate (ms.length) (D.agg [D.int .i64 0, D.int .i64 0])), D.bool false], D.int .i64 0] else none else none else none else none else bif kd == 2 then bif k1 then some [D.agg [D.int .i64 mr, D.int .i64 mn, D.sl hopSh true [], D.str [], D.sl stepSh true [], D.int .i64 7, D.int .i64 mw, D.sl hopSh true [], D.bool false], D.int .i64 0] else bif decide (mh.length ≤ 1000000) then some [D.agg [D.int .i64 mr, D.int .i64 mn, D.sl hopSh false mh, D.str [], D.sl stepSh true [], D.int .i64 7, D.int .i64 mw, D.sl hopSh true [], D.bool false], D.int .i64 0] else none else some [D.agg [D.int .i64 0, D.int .i64 0, D.sl hopSh true [], D.str [], D.sl stepSh true [], D.int .i64 0, D.int .i64 0, D.sl hopSh true [], D.bool false], D.int .i64 210] := by kernel_rfl
def allM (l : List D) : Bool := scan (fun i => !fewM (fl 3 (l.getD i .nilp)) (fl 7 (l.getD i .nilp))) (fun _ => false) true l.length 0
def fewL (mh ms l : List D) : Bool := bif decide ((100 : Int) < (l.length : Int)) then false else bif !fewM mh ms then false else allM l
theorem loop43 (m n : Nat) (kd mr mn sp mw : Int) (k1 k2 : Bool) (mh ms : List D) (mm : List UInt8) (nl : Bool) (l : List D) (hl : l.length ≤ 1000000) (hn : l.length < n) :
  (resume E20 (callN E20 (m+40)) n n 0 c43 (s43 kd mr mn sp mw k1 k2 mh ms mm nl l (0 : Nat))).out = some [.bool (allM l)] := by
 have := scan_loop (fun j i => (resume E20 (callN E20 (m+40)) n j 0 c43 (s43 kd mr mn sp mw k1 k2 mh ms mm nl l (i : Nat))).out) l.length (fun i => !fewM (fl 3 (l.getD i .nilp)) (fl 7 (l.getD i .nilp))) (fun _ => [.bool false]) [.bool true]
  (fun j i hi => ?_) (fun j => ?_) l.length 0 n (by omega) (by omega)
 ·refine this.trans ?_
  rw [scan_map (fun b : Bool => [D.bool b]) _ (fun _ => false) true]
  rfl
 ·rw [l43]
  simp only [Int.toNat_natCast, wrap_up hi hl, dec_lt hi, dec_ix hi, cond_true]
  rfl
 ·rw [l43]
  simp only [dec_end, cond_false]
theorem run43 (m n : Nat) (kd mr mn sp mw : Int) (k1 k2 : Bool) (mh ms : List D) (mm : List UInt8) (nl : Bool) (l : List D) (hn : 200 ≤ n) :
  (enterM E20 (callN E20 (m+40)) n c43 [.d (moveD kd mr mn sp mw k1 k2 mh ms mm), .d (.sl moveSh nl l)] []).out = some [.bool (fewL mh ms l)] := by
 rw [e43]
 unfold fewL
 cases h : decide ((100 : Int) < (l.length : Int))
 ·have h' := of_decide_eq_false h
  cases fewM mh ms
  ·rfl
  ·exact loop43 m n kd mr mn sp mw k1 k2 mh ms mm nl l (by omega) (by omega)
 ·rfl
def g43 : List D → Tree (List D)
 | [.agg [.int .i64 _, .int .i64 _, .int .i64 _, .sl eh _ mh, .int .i64 _, .int .i64 _, .str _, .sl es _ ms], .sl em _ l] => match (Sh.beq eh hopSh && Sh.beq es stepSh) && Sh.beq em moveSh with
  | true => .ret [.bool (fewL mh ms l)]
  | false => .stuck
 | _ => .stuck
theorem pure43 {P : Program} (hm : P.follows .mixedOrders = true) (h0 : EnvOK P E20) : PureOK P 43 g43 := PureOK.run hm h0 fun ds rs h => by
 unfold g43 at h
 split at h
 ·rename_i kd mr mn eh k1 mh sp mw mm es k2 ms em nl l
  split at h
  ·rename_i hb
   simp only [Bool.and_eq_true] at hb
   obtain ⟨⟨hb1, hb2⟩, hb3⟩ := hb
   have hb1 := Sh.beq_eq hb1
   have hb2 := Sh.beq_eq hb2
   have hb3 := Sh.beq_eq hb3
   subst hb1 hb2 hb3
   cases h
   exact ⟨299 + 1, by rw [callN_succ (fn := c43) rfl]; exact run43 259 299 kd mr mn sp mw k1 k2 mh ms mm nl l (by omega)⟩
  ·cases h
 ·cases h
def zeroS : List D := [D.agg [.int .i64 0, .int .i64 0, .sl hopSh true [], .str [], .sl stepSh true [], .int .i64 0, .int .i64 0, .sl partSh true [], .bool false], .int .i64 210]
def newT (kd mr mn sp mw : Int) (k1 k2 : Bool) (mh ms : List D) (mm : List UInt8) : Tree (List D) :=
 .ite (moveOk kd mr mn sp mw mh ms mm) (fun _ => .ite (kd == 1) (fun _ => .ret [D.agg [.int .i64 mr, .int .i64 mn, .sl hopSh k1 mh, .str mm, .sl stepSh k2 ms, .int .i64 1, .int .i64 0, .sl partSh false (List.replicate ms.length (.agg [.int .i64 0, .int .i64 0])), .bool false], .int .i64 0])
  (fun _ => .ite (kd == 2) (fun _ => .ret [D.agg [.int .i64 mr, .int .i64 mn, .sl hopSh k1 mh, .str [], .sl stepSh true [], .int .i64 7, .int .i64 mw, .sl partSh true [], .bool false], .int .i64 0]) (fun _ => .ret zeroS))) (fun _ => .ret zeroS)
theorem run69 (m n : Nat) (kd mr mn sp mw : Int) (k1 k2 : Bool) (mh ms : List D) (mm : List UInt8) (h1 : k1 = true → mh = []) (h2 : k2 = true → ms = []) (l1 : mh.length ≤ 1000000) (l2 : ms.length ≤ 1000000) :
  (enterM E22 (callN E22 (m+40)) n c69 [.d (moveD kd mr mn sp mw k1 k2 mh ms mm)] []).out = (newT kd mr mn sp mw k1 k2 mh ms mm).eval := by
 rw [e69]
 have d1 : decide ((0 : Int) ≤ (ms.length : Int) ∧ (ms.length : Int) ≤ (ms.length : Int) ∧ (ms.length : Int) ≤ 4294967296) = true := decide_eq_true (by omega)
 simp only [d1, List.length_replicate, decide_eq_true l1, decide_eq_true l2, cond_true]
 unfold newT
 cases moveOk kd mr mn sp mw mh ms mm
 ·rfl
 ·cases (kd == 1)
  ·cases (kd == 2)
   ·rfl
   ·cases k1 with
    | false => rfl
    | true => rw [h1 rfl]; rfl
  ·cases k1 with
   | false => cases k2 with
    | false => rfl
    | true => rw [h2 rfl]; rfl
   | true => rw [h1 rfl]; cases k2 with
    | false => rfl
    | true => rw [h2 rfl]; rfl
def g69 : List D → Tree (List D)
 | [.agg [.int .i64 kd, .int .i64 mr, .int .i64 mn, .sl eh k1 mh, .int .i64 sp, .int .i64 mw, .str mm, .sl es k2 ms]] => match (Sh.beq eh hopSh && Sh.beq es stepSh) with
  | true => .ite (((!k1 || mh.isEmpty) && (!k2 || ms.isEmpty)) && (decide (mh.length ≤ 1000000) && decide (ms.length ≤ 1000000))) (fun _ => newT kd mr mn sp mw k1 k2 mh ms mm) (fun _ => .stuck)
  | false => .stuck
 | _ => .stuck
theorem pure69 {P : Program} (hm : P.follows .mixedOrders = true) (h0 : EnvOK P E22) : PureOK P 69 g69 := PureOK.run hm h0 fun ds rs h => by
 unfold g69 at h
 split at h
 ·rename_i kd mr mn eh k1 mh sp mw mm es k2 ms
  split at h
  ·rename_i hb
   simp only [Bool.and_eq_true] at hb
   obtain ⟨hb1, hb2⟩ := hb
   have hb1 := Sh.beq_eq hb1
   have hb2 := Sh.beq_eq hb2
   subst hb1 hb2
   obtain ⟨hg, h⟩ := eval_guard h
   simp only [Bool.and_eq_true, Bool.or_eq_true, Bool.not_eq_true', List.isEmpty_iff, decide_eq_true_eq] at hg
   obtain ⟨⟨a1, a2⟩, a3, a4⟩ := hg
   exact ⟨59 + 1, by rw [callN_succ (fn := c69) rfl]; exact (run69 19 59 kd mr mn sp mw k1 k2 mh ms mm (fun h => by rcases a1 with a | a; (rw [h] at a; cases a); exact a) (fun h => by rcases a2 with a | a; (rw [h] at a; cases a); exact a) a3 a4).trans h⟩
  ·cases h
 ·cases h
def E23 : Env := (E22.pureAt 43 true g43).pureAt 69 false g69
theorem ok23 {P : Program} (hm : P.follows .mixedOrders = true) (h0 : EnvOK P E20) (h148 : FnOK P 148 (Cclone partSh)) : EnvOK P E23 := ((ok22 hm h0 h148).pureAt (pure43 hm h0)).pureAt (pure69 hm (ok22 hm h0 h148))
theorem allM_iff {l : List D} : allM l = true ↔ ∀ i, i < l.length → fewM (fl 3 (l.getD i .nilp)) (fl 7 (l.getD i .nilp)) = true := by
 unfold allM
 rw [scan_all (fun i => fewM (fl 3 (l.getD i .nilp)) (fl 7 (l.getD i .nilp)))]
 exact ⟨fun h i hi => h i (by omega) (by omega), fun h i _ hi => h i (by omega)⟩
theorem fewL_iff {mh ms l : List D} (h : fewL mh ms l = true) : l.length ≤ 100 ∧ mh.length ≤ 50 ∧ ms.length ≤ 50 ∧ ∀ i, i < l.length → fewM (fl 3 (l.getD i .nilp)) (fl 7 (l.getD i .nilp)) = true := by
 unfold fewL at h
 cases h1 : decide ((100 : Int) < (l.length : Int))
 ·have h1 := of_decide_eq_false h1
  cases h2 : fewM mh ms
  ·rw [h2] at h; simp at h
  ·have h2' := h2
   unfold fewM at h2
   simp only [Bool.and_eq_true, decide_eq_true_eq] at h2
   rw [h2', decide_eq_false h1] at h
   exact ⟨by omega, by omega, by omega, allM_iff.1 h⟩
 ·rw [h1] at h; cases h
theorem okE13 : EnvOK Tryz.prog E13 := ok13 mixed (ok12 mixed (ok11 mixed (ok10 mixed (ok9 mixed okE8))))
theorem fnClone : FnOK Tryz.prog 148 (Cclone partSh) := fn93 mixed okE13
theorem okE23 : EnvOK Tryz.prog E23 := ok23 mixed okE20 fnClone
def gTrueL : List D → Tree (List D)
 | [.agg [.int .i64 _, .int .i64 _, .int .i64 _, .sl eh k1 mh, .int .i64 _, .int .i64 _, .str _, .sl es k2 ms], .sl em _ _] =>
  match ((Sh.beq eh hopSh && Sh.beq es stepSh) && Sh.beq em moveSh) && ((!k1 || mh.isEmpty) && (!k2 || ms.isEmpty)) with
  | true => .ret [.bool true]
  | false => .stuck
 | _ => .stuck
theorem gTrueL_run {E : Env} {f : Nat} (hE : EnvOK Tryz.prog E) (h : ∀ kd mr mn sp mw k1 k2 mh ms mm nl l, (k1 = true → mh = []) → (k2 = true → ms = []) →
  ∃ n, (callN E n f [.d (moveD kd mr mn sp mw k1 k2 mh ms mm), .d (.sl moveSh nl l)] []).out = some [.bool true]) : PureOK Tryz.prog f gTrueL := PureOK.run mixed hE fun ds rs hr => by
 unfold gTrueL at hr
 split at hr
 ·rename_i kd mr mn eh k1 mh sp mw mm es k2 ms em nl l
  split at hr
  ·rename_i hb
   simp only [Bool.and_eq_true, Bool.or_eq_true, Bool.not_eq_true', List.isEmpty_iff] at hb
   obtain ⟨⟨⟨hb3, hb4⟩, hb5⟩, c1, c2⟩ := hb
   have hb3 := Sh.beq_eq hb3
   have hb4 := Sh.beq_eq hb4
   have hb5 := Sh.beq_eq hb5
   subst hb3 hb4 hb5
   cases hr
   exact h kd mr mn sp mw k1 k2 mh ms mm nl l (empty_of c1) (empty_of c2)
  ·cases hr
 ·cases hr
theorem gTrueL_in : ∀ xs, WFs [moveTy, .sl moveTy] xs → (gTrueL xs).eval = some [.bool true] := by
 intro xs h
 match xs, h with
 | [x, y], h =>
  obtain ⟨kd, mr, mn, sp, mw, k1, k2, mh, ms, mm, rfl, b1, b2⟩ := move_in h.1
  obtain ⟨nl, l, rfl, -, -⟩ := WF.inv_sl h.2.1
  have s1 : Sh.beq hopSh hopSh = true := rfl
  have s2 : Sh.beq stepSh stepSh = true := rfl
  have s3 : Sh.beq (Ty.sh moveTy) moveSh = true := rfl
  simp only [gTrueL, s1, s2, s3, or_empty b1, or_empty b2, Bool.and_self]
  rfl
def I0 : Env := ⟨fun _ => none, prog⟩
theorem i226 (m n : Nat) (u : Int) : Tree.out (enterM I0 (callN I0 (m+40)) n c226 [.d (.int .u64 u)] []) = bif decide (4294967296 ≤ u) then bif decide (65536 ≤ Int.fdiv u 4294967296) then bif decide (256 ≤ Int.fdiv (Int.fdiv u 4294967296) 65536) then bif decide (0 ≤ IntKind.wrap .u8 (Int.fdiv (Int.fdiv (Int.fdiv u 4294967296) 65536) 256) ∧ IntKind.wrap .u8 (Int.fdiv (Int.fdiv (Int.fdiv u 4294967296) 65536) 256) < 256) then some [D.int .i64 (IntKind.wrap .i64 (56 + IntKind.wrap .i64 (↑(UInt8.toNat (List.getD [0, 1, 2, 2, 3, 3, 3, 3, 4, 4, 4, 4, 4, 4, 4, 4, 5, 5, 5, 5, 5, 5, 5, 5, 5, 5, 5, 5, 5, 5, 5, 5, 6, 6, 6, 6, 6, 6, 6, 6, 6, 6, 6, 6, 6, 6, 6, 6, 6, 6, 6, 6, 6, 6, 6, 6, 6, 6, 6, 6, 6, 6, 6, 6, 7, 7, 7, 7, 7, 7, 7, 7, 7, 7, 7, 7, 7, 7, 7, 7, 7, 7, 7, 7, 7, 7, 7, 7, 7, 7, 7, 7, 7, 7, 7, 7, 7, 7, 7, 7, 7, 7, 7, 7, 7, 7, 7, 7, 7, 7, 7, 7, 7, 7, 7, 7, 7, 7, 7, 7, 7, 7, 7, 7, 7, 7, 7, 7, 8, 8, 8, 8, 8, 8, 8, 8, 8, 8, 8, 8, 8, 8, 8, 8, 8, 8, 8, 8, 8, 8, 8, 8, 8, 8, 8, 8, 8, 8, 8, 8, 8, 8, 8, 8, 8, 8, 8, 8, 8, 8, 8, 8, 8, 8, 8, 8, 8, 8, 8, 8, 8, 8, 8, 8, 8, 8, 8, 8, 8, 8, 8, 8, 8, 8, 8, 8, 8, 8, 8, 8, 8, 8, 8, 8, 8, 8, 8, 8, 8, 8, 8, 8, 8, 8, 8, 8, 8, 8, 8, 8, 8, 8, 8, 8, 8, 8, 8, 8, 8, 8, 8, 8, 8, 8, 8, 8, 8, 8, 8, 8, 8, 8, 8, 8, 8, 8, 8, 8, 8, 8, 8, 8, 8, 8, 8, 8] (Int.toNat (IntKind.wrap .u8 (Int.fdiv (Int.fdiv (Int.fdiv u 4294967296) 65536) 256))) 0)) : Int)))] else none else bif decide (0 ≤ IntKind.wrap .u8 (Int.fdiv (Int.fdiv u 4294967296) 65536) ∧ IntKind.wrap .u8 (Int.fdiv (Int.fdiv u 4294967296) 65536) < 256) then some [D.int .i64 (IntKind.wrap .i64 (48 + IntKind.wrap .i64 (↑(UInt8.toNat (List.getD [0, 1, 2, 2, 3, 3, 3, 3, 4, 4, 4, 4, 4, 4, 4, 4, 5, 5, 5, 5, 5, 5, 5, 5, 5, 5, 5, 5, 5, 5, 5, 5, 6, 6, 6, 6, 6, 6, 6, 6, 6, 6, 6, 6, 6, 6, 6, 6, 6, 6, 6, 6, 6, 6, 6, 6, 6, 6, 6, 6, 6, 6, 6, 6, 7, 7, 7, 7, 7, 7, 7, 7, 7, 7, 7, 7, 7, 7, 7, 7, 7, 7, 7, 7, 7, 7, 7, 7, 7, 7, 7, 7, 7, 7, 7, 7, 7, 7, 7, 7, 7, 7, 7, 7, 7, 7, 7, 7, 7, 7, 7, 7, 7, 7, 7, 7, 7, 7, 7, 7, 7, 7, 7, 7, 7, 7, 7, 7, 8, 8, 8, 8, 8, 8, 8, 8, 8, 8, 8, 8, 8, 8, 8, 8, 8, 8, 8, 8, 8, 8, 8, 8, 8, 8, 8, 8, 8, 8, 8, 8, 8, 8, 8, 8, 8, 8, 8, 8, 8, 8, 8, 8, 8, 8, 8, 8, 8, 8, 8, 8, 8, 8, 8, 8, 8, 8, 8, 8, 8, 8, 8, 8, 8, 8, 8, 8, 8, 8, 8, 8, 8, 8, 8, 8, 8, 8, 8, 8, 8, 8, 8, 8, 8, 8, 8, 8, 8, 8, 8, 8, 8, 8, 8, 8, 8, 8, 8, 8, 8, 8, 8, 8, 8, 8, 8, 8, 8, 8, 8, 8, 8, 8, 8, 8, 8, 8, 8, 8, 8, 8, 8, 8, 8, 8, 8, 8] (Int.toNat (IntKind.wrap .u8 (Int.fdiv (Int.fdiv u 4294967296) 65536))) 0)) : Int)))] else none else bif decide (256 ≤ Int.fdiv u 4294967296) then bif decide (0 ≤ IntKind.wrap .u8 (Int.fdiv (Int.fdiv u 4294967296) 256) ∧ IntKind.wrap .u8 (Int.fdiv (Int.fdiv u 4294967296) 256) < 256) then some [D.int .i64 (IntKind.wrap .i64 (40 + IntKind.wrap .i64 (↑(UInt8.toNat (List.getD [0, 1, 2, 2, 3, 3, 3, 3, 4, 4, 4, 4, 4, 4, 4, 4, 5, 5, 5, 5, 5, 5, 5, 5, 5, 5, 5, 5, 5, 5, 5, 5, 6, 6, 6, 6, 6, 6, 6, 6, 6, 6, 6, 6, 6, 6, 6, 6, 6, 6, 6, 6, 6, 6, 6, 6, 6, 6, 6, 6, 6, 6, 6, 6, 7, 7, 7, 7, 7, 7, 7, 7, 7, 7, 7, 7, 7, 7, 7, 7, 7, 7, 7, 7, 7, 7, 7, 7, 7, 7, 7, 7, 7, 7, 7, 7, 7, 7, 7, 7, 7, 7, 7, 7, 7, 7, 7, 7, 7, 7, 7, 7, 7, 7, 7, 7, 7, 7, 7, 7, 7, 7, 7, 7, 7, 7, 7, 7, 8, 8, 8, 8, 8, 8, 8, 8, 8, 8, 8, 8, 8, 8, 8, 8, 8, 8, 8, 8, 8, 8, 8, 8, 8, 8, 8, 8, 8, 8, 8, 8, 8, 8, 8, 8, 8, 8, 8, 8, 8, 8, 8, 8, 8, 8, 8, 8, 8, 8, 8, 8, 8, 8, 8, 8, 8, 8, 8, 8, 8, 8, 8, 8, 8, 8, 8, 8, 8, 8, 8, 8, 8, 8, 8, 8, 8, 8, 8, 8, 8, 8, 8, 8, 8, 8, 8, 8, 8, 8, 8, 8, 8, 8, 8, 8, 8, 8, 8, 8, 8, 8, 8, 8, 8, 8, 8, 8, 8, 8, 8, 8, 8, 8, 8, 8, 8, 8, 8, 8, 8, 8, 8, 8, 8, 8, 8, 8] (Int.toNat (IntKind.wrap .u8 (Int.fdiv (Int.fdiv u 4294967296) 256))) 0)) : Int)))] else none else bif decide (0 ≤ IntKind.wrap .u8 (Int.fdiv u 4294967296) ∧ IntKind.wrap .u8 (Int.fdiv u 4294967296) < 256) then some [D.int .i64 (IntKind.wrap .i64 (32 + IntKind.wrap .i64 (↑(UInt8.toNat (List.getD [0, 1, 2, 2, 3, 3, 3, 3, 4, 4, 4, 4, 4, 4, 4, 4, 5, 5, 5, 5, 5, 5, 5, 5, 5, 5, 5, 5, 5, 5, 5, 5, 6, 6, 6, 6, 6, 6, 6, 6, 6, 6, 6, 6, 6, 6, 6, 6, 6, 6, 6, 6, 6, 6, 6, 6, 6, 6, 6, 6, 6, 6, 6, 6, 7, 7, 7, 7, 7, 7, 7, 7, 7, 7, 7, 7, 7, 7, 7, 7, 7, 7, 7, 7, 7, 7, 7, 7, 7, 7, 7, 7, 7, 7, 7, 7, 7, 7, 7, 7, 7, 7, 7, 7, 7, 7, 7, 7, 7, 7, 7, 7, 7, 7, 7, 7, 7, 7, 7, 7, 7, 7, 7, 7, 7, 7, 7, 7, 8, 8, 8, 8, 8, 8, 8, 8, 8, 8, 8, 8, 8, 8, 8, 8, 8, 8, 8, 8, 8, 8, 8, 8, 8, 8, 8, 8, 8, 8, 8, 8, 8, 8, 8, 8, 8, 8, 8, 8, 8, 8, 8, 8, 8, 8, 8, 8, 8, 8, 8, 8, 8, 8, 8, 8, 8, 8, 8, 8, 8, 8, 8, 8, 8, 8, 8, 8, 8, 8, 8, 8, 8, 8, 8, 8, 8, 8, 8, 8, 8, 8, 8, 8, 8, 8, 8, 8, 8, 8, 8, 8, 8, 8, 8, 8, 8, 8, 8, 8, 8, 8, 8, 8, 8, 8, 8, 8, 8, 8, 8, 8, 8, 8, 8, 8, 8, 8, 8, 8, 8, 8, 8, 8, 8, 8, 8, 8] (Int.toNat (IntKind.wrap .u8 (Int.fdiv u 4294967296))) 0)) : Int)))] else none else bif decide (65536 ≤ u) then bif decide (256 ≤ Int.fdiv u 65536) then bif decide (0 ≤ IntKind.wrap .u8 (Int.fdiv (Int.fdiv u 65536) 256) ∧ IntKind.wrap .u8 (Int.fdiv (Int.fdiv u 65536) 256) < 256) then some [D.int .i64 (IntKind.wrap .i64 (24 + IntKind.wrap .i64 (↑(UInt8.toNat (List.getD [0, 1, 2, 2, 3, 3, 3, 3, 4, 4, 4, 4, 4, 4, 4, 4, 5, 5, 5, 5, 5, 5, 5, 5, 5, 5, 5, 5, 5, 5, 5, 5, 6, 6, 6, 6, 6, 6, 6, 6, 6, 6, 6, 6, 6, 6, 6, 6, 6, 6, 6, 6, 6, 6, 6, 6, 6, 6, 6, 6, 6, 6, 6, 6, 7, 7, 7, 7, 7, 7, 7, 7, 7, 7, 7, 7, 7, 7, 7, 7, 7, 7, 7, 7, 7, 7, 7, 7, 7, 7, 7, 7, 7, 7, 7, 7, 7, 7, 7, 7, 7, 7, 7, 7, 7, 7, 7, 7, 7, 7, 7, 7, 7, 7, 7, 7, 7, 7, 7, 7, 7, 7, 7, 7, 7, 7, 7, 7, 8, 8, 8, 8, 8, 8, 8, 8, 8, 8, 8, 8, 8, 8, 8, 8, 8, 8, 8, 8, 8, 8, 8, 8, 8, 8, 8, 8, 8, 8, 8, 8, 8, 8, 8, 8, 8, 8, 8, 8, 8, 8, 8, 8, 8, 8, 8, 8, 8, 8, 8, 8, 8, 8, 8, 8, 8, 8, 8, 8, 8, 8, 8, 8, 8, 8, 8, 8, 8, 8, 8, 8, 8, 8, 8, 8, 8, 8, 8, 8, 8, 8, 8, 8, 8, 8, 8, 8, 8, 8, 8, 8, 8, 8, 8, 8, 8, 8, 8, 8, 8, 8, 8, 8, 8, 8, 8, 8, 8, 8, 8, 8, 8, 8, 8, 8, 8, 8, 8, 8, 8, 8, 8, 8, 8, 8, 8, 8] (Int.toNat (IntKind.wrap .u8 (Int.fdiv (Int.fdiv u 65536) 256))) 0)) : Int)))] else none else bif decide (0 ≤ IntKind.wrap .u8 (Int.fdiv u 65536) ∧ IntKind.wrap .u8 (Int.fdiv u 65536) < 256) then some [D.int .i64 (IntKind.wrap .i64 (16 + IntKind.wrap .i64 (↑(UInt8.toNat (List.getD [0, 1, 2, 2, 3, 3, 3, 3, 4, 4, 4, 4, 4, 4, 4, 4, 5, 5, 5, 5, 5, 5, 5, 5, 5, 5, 5, 5, 5, 5, 5, 5, 6, 6, 6, 6, 6, 6, 6, 6, 6, 6, 6, 6, 6, 6, 6, 6, 6, 6, 6, 6, 6, 6, 6, 6, 6, 6, 6, 6, 6, 6, 6, 6, 7, 7, 7, 7, 7, 7, 7, 7, 7, 7, 7, 7, 7, 7, 7, 7, 7, 7, 7, 7, 7, 7, 7, 7, 7, 7, 7, 7, 7, 7, 7, 7, 7, 7, 7, 7, 7, 7, 7, 7, 7, 7, 7, 7, 7, 7, 7, 7, 7, 7, 7, 7, 7, 7, 7, 7, 7, 7, 7, 7, 7, 7, 7, 7, 8, 8, 8, 8, 8, 8, 8, 8, 8, 8, 8, 8, 8, 8, 8, 8, 8, 8, 8, 8, 8, 8, 8, 8, 8, 8, 8, 8, 8, 8, 8, 8, 8, 8, 8, 8, 8, 8, 8, 8, 8, 8, 8, 8, 8, 8, 8, 8, 8, 8, 8, 8, 8, 8, 8, 8, 8, 8, 8, 8, 8, 8, 8, 8, 8, 8, 8, 8, 8, 8, 8, 8, 8, 8, 8, 8, 8, 8, 8, 8, 8, 8, 8, 8, 8, 8, 8, 8, 8, 8, 8, 8, 8, 8, 8, 8, 8, 8, 8, 8, 8, 8, 8, 8, 8, 8, 8, 8, 8, 8, 8, 8, 8, 8, 8, 8, 8, 8, 8, 8, 8, 8, 8, 8, 8, 8, 8, 8] (Int.toNat (IntKind.wrap .u8 (Int.fdiv u 65536))) 0)) : Int)))] else none else bif decide (256 ≤ u) then bif decide (0 ≤ IntKind.wrap .u8 (Int.fdiv u 256) ∧ IntKind.wrap .u8 (Int.fdiv u 256) < 256) then some [D.int .i64 (IntKind.wrap .i64 (8 + IntKind.wrap .i64 (↑(UInt8.toNat (List.getD [0, 1, 2, 2, 3, 3, 3, 3, 4, 4, 4, 4, 4, 4, 4, 4, 5, 5, 5, 5, 5, 5, 5, 5, 5, 5, 5, 5, 5, 5, 5, 5, 6, 6, 6, 6, 6, 6, 6, 6, 6, 6, 6, 6, 6, 6, 6, 6, 6, 6, 6, 6, 6, 6, 6, 6, 6, 6, 6, 6, 6, 6, 6, 6, 7, 7, 7, 7, 7, 7, 7, 7, 7, 7, 7, 7, 7, 7, 7, 7, 7, 7, 7, 7, 7, 7, 7, 7, 7, 7, 7, 7, 7, 7, 7, 7, 7, 7, 7, 7, 7, 7, 7, 7, 7, 7, 7, 7, 7, 7, 7, 7, 7, 7, 7, 7, 7, 7, 7, 7, 7, 7, 7, 7, 7, 7, 7, 7, 8, 8, 8, 8, 8, 8, 8, 8, 8, 8, 8, 8, 8, 8, 8, 8, 8, 8, 8, 8, 8, 8, 8, 8, 8, 8, 8, 8, 8, 8, 8, 8, 8, 8, 8, 8, 8, 8, 8, 8, 8, 8, 8, 8, 8, 8, 8, 8, 8, 8, 8, 8, 8, 8, 8, 8, 8, 8, 8, 8, 8, 8, 8, 8, 8, 8, 8, 8, 8, 8, 8, 8, 8, 8, 8, 8, 8, 8, 8, 8, 8, 8, 8, 8, 8, 8, 8, 8, 8, 8, 8, 8, 8, 8, 8, 8, 8, 8, 8, 8, 8, 8, 8, 8, 8, 8, 8, 8, 8, 8, 8, 8, 8, 8, 8, 8, 8, 8, 8, 8, 8, 8, 8, 8, 8, 8, 8, 8] (Int.toNat (IntKind.wrap .u8 (Int.fdiv u 256))) 0)) : Int)))] else none else bif decide (0 ≤ IntKind.wrap .u8 u ∧ IntKind.wrap .u8 u < 256) then some [D.int .i64 (IntKind.wrap .i64 (0 + IntKind.wrap .i64 (↑(UInt8.toNat (List.getD [0, 1, 2, 2, 3, 3, 3, 3, 4, 4, 4, 4, 4, 4, 4, 4, 5, 5, 5, 5, 5, 5, 5, 5, 5, 5, 5, 5, 5, 5, 5, 5, 6, 6, 6, 6, 6, 6, 6, 6, 6, 6, 6, 6, 6, 6, 6, 6, 6, 6, 6, 6, 6, 6, 6, 6, 6, 6, 6, 6, 6, 6, 6, 6, 7, 7, 7, 7, 7, 7, 7, 7, 7, 7, 7, 7, 7, 7, 7, 7, 7, 7, 7, 7, 7, 7, 7, 7, 7, 7, 7, 7, 7, 7, 7, 7, 7, 7, 7, 7, 7, 7, 7, 7, 7, 7, 7, 7, 7, 7, 7, 7, 7, 7, 7, 7, 7, 7, 7, 7, 7, 7, 7, 7, 7, 7, 7, 7, 8, 8, 8, 8, 8, 8, 8, 8, 8, 8, 8, 8, 8, 8, 8, 8, 8, 8, 8, 8, 8, 8, 8, 8, 8, 8, 8, 8, 8, 8, 8, 8, 8, 8, 8, 8, 8, 8, 8, 8, 8, 8, 8, 8, 8, 8, 8, 8, 8, 8, 8, 8, 8, 8, 8, 8, 8, 8, 8, 8, 8, 8, 8, 8, 8, 8, 8, 8, 8, 8, 8, 8, 8, 8, 8, 8, 8, 8, 8, 8, 8, 8, 8, 8, 8, 8, 8, 8, 8, 8, 8, 8, 8, 8, 8, 8, 8, 8, 8, 8, 8, 8, 8, 8, 8, 8, 8, 8, 8, 8, 8, 8, 8, 8, 8, 8, 8, 8, 8, 8, 8, 8, 8, 8, 8, 8, 8, 8] (Int.toNat (IntKind.wrap .u8 u)) 0)) : Int)))] else none := by kernel_rfl
set_option maxRecDepth 20000
abbrev L8 : List UInt8 := [0, 1, 2, 2, 3, 3, 3, 3, 4, 4, 4, 4, 4, 4, 4, 4, 5, 5, 5, 5, 5, 5, 5, 5, 5, 5, 5, 5, 5, 5, 5, 5, 6, 6, 6, 6, 6, 6, 6, 6, 6, 6, 6, 6, 6, 6, 6, 6, 6, 6, 6, 6, 6, 6, 6, 6, 6, 6, 6, 6, 6, 6, 6, 6, 7, 7, 7, 7, 7, 7, 7, 7, 7, 7, 7, 7, 7, 7, 7, 7, 7, 7, 7, 7, 7, 7, 7, 7, 7, 7, 7, 7, 7, 7, 7, 7, 7, 7, 7, 7, 7, 7, 7, 7, 7, 7, 7, 7, 7, 7, 7, 7, 7, 7, 7, 7, 7, 7, 7, 7, 7, 7, 7, 7, 7, 7, 7, 7, 8, 8, 8, 8, 8, 8, 8, 8, 8, 8, 8, 8, 8, 8, 8, 8, 8, 8, 8, 8, 8, 8, 8, 8, 8, 8, 8, 8, 8, 8, 8, 8, 8, 8, 8, 8, 8, 8, 8, 8, 8, 8, 8, 8, 8, 8, 8, 8, 8, 8, 8, 8, 8, 8, 8, 8, 8, 8, 8, 8, 8, 8, 8, 8, 8, 8, 8, 8, 8, 8, 8, 8, 8, 8, 8, 8, 8, 8, 8, 8, 8, 8, 8, 8, 8, 8, 8, 8, 8, 8, 8, 8, 8, 8, 8, 8, 8, 8, 8, 8, 8, 8, 8, 8, 8, 8, 8, 8, 8, 8, 8, 8, 8, 8, 8, 8, 8, 8, 8, 8, 8, 8, 8, 8, 8, 8, 8, 8]
def bitsN (x : Nat) : Nat := if x < 1 then 0 else if x < 2 then 1 else if x < 4 then 2 else if x < 8 then 3 else if x < 16 then 4 else if x < 32 then 5 else if x < 64 then 6 else if x < 128 then 7 else 8
theorem L8_at {x : Nat} (h : x < 256) : (L8.getD x 0).toNat = bitsN x := by
 have : ∀ x : Fin 256, (L8.getD x.1 0).toNat = bitsN x.1 := by decide +kernel
 exact this ⟨x, h⟩
def lenT (u : Int) : Tree (List D) :=
 .ite (decide (u < 128)) (fun _ => .ret [.int .i64 7]) fun _ => .ite (decide (u < 256)) (fun _ => .ret [.int .i64 8]) fun _ => .ite (decide (u < 512)) (fun _ => .ret [.int .i64 9]) fun _ =>
 .ite (decide (u < 1024)) (fun _ => .ret [.int .i64 10]) fun _ => .ite (decide (u < 2048)) (fun _ => .ret [.int .i64 11]) fun _ => .ite (decide (u < 4096)) (fun _ => .ret [.int .i64 12]) fun _ =>
 .ite (decide (u < 8192)) (fun _ => .ret [.int .i64 13]) fun _ => .ite (decide (u < 16384)) (fun _ => .ret [.int .i64 14]) fun _ => .ite (decide (u < 32768)) (fun _ => .ret [.int .i64 15]) fun _ =>
 .ite (decide (u < 65536)) (fun _ => .ret [.int .i64 16]) fun _ => .ite (decide (u < 131072)) (fun _ => .ret [.int .i64 17]) fun _ => .ite (decide (u < 262144)) (fun _ => .ret [.int .i64 18]) fun _ =>
 .ite (decide (u < 524288)) (fun _ => .ret [.int .i64 19]) fun _ => .ret [.int .i64 20]
def lenI (u : Int) : Int := bif decide (u < 128) then 7 else bif decide (u < 256) then 8 else bif decide (u < 512) then 9 else bif decide (u < 1024) then 10 else bif decide (u < 2048) then 11 else bif decide (u < 4096) then 12 else bif decide (u < 8192) then 13 else bif decide (u < 16384) then 14 else bif decide (u < 32768) then 15 else bif decide (u < 65536) then 16 else bif decide (u < 131072) then 17 else bif decide (u < 262144) then 18 else bif decide (u < 524288) then 19 else 20
theorem ite_ev {b : Bool} {x : List D} {f : Unit → Tree (List D)} : (Tree.ite b (fun _ => .ret x) f).eval = bif b then some x else (f ()).eval := by cases b <;> rfl
theorem push_int (b : Bool) (x y : Int) : some [D.int .i64 (bif b then x else y)] = bif b then some [D.int .i64 x] else some [D.int .i64 y] := by cases b <;> rfl
theorem lenT_eval (u : Int) : (lenT u).eval = some [.int .i64 (lenI u)] := by
 unfold lenT lenI
 simp only [ite_ev, push_int]
 rfl
theorem wrap_u8 {x : Int} (h0 : 0 ≤ x) (h : x < 256) : IntKind.wrap .u8 x = x := by
 obtain ⟨n, rfl⟩ := Int.eq_ofNat_of_zero_le h0
 have : ∀ n : Fin 256, IntKind.wrap .u8 (n.1 : Int) = (n.1 : Int) := by decide +kernel
 exact this ⟨n, by omega⟩
theorem lenI_16 {u : Int} (h0 : 65536 ≤ u) (h1 : u < 1048576) : (16 : Int) + (bitsN (u / 65536).toNat : Nat) = lenI u := by
 unfold lenI
 rw [decide_eq_false (show ¬ u < 128 by omega), decide_eq_false (show ¬ u < 256 by omega), decide_eq_false (show ¬ u < 512 by omega), decide_eq_false (show ¬ u < 1024 by omega), decide_eq_false (show ¬ u < 2048 by omega), decide_eq_false (show ¬ u < 4096 by omega), decide_eq_false (show ¬ u < 8192 by omega), decide_eq_false (show ¬ u < 16384 by omega), decide_eq_false (show ¬ u < 32768 by omega), decide_eq_false (show ¬ u < 65536 by omega)]
 simp only [cond_false, cond_dec]
 generalize hx : (u / 65536).toNat = x
 have hx : u / 65536 = (x : Int) := by omega
 unfold bitsN
 split
 ·omega
 split
 ·rw [if_pos (by omega)]; omega
 split
 ·rw [if_neg (by omega), if_pos (by omega)]; omega
 split
 ·rw [if_neg (by omega), if_neg (by omega), if_pos (by omega)]; omega
 split
 ·rw [if_neg (by omega), if_neg (by omega), if_neg (by omega)]; omega
 omega
theorem lenI_8 {u : Int} (h0 : 256 ≤ u) (h1 : u < 65536) : (8 : Int) + (bitsN (u / 256).toNat : Nat) = lenI u := by
 unfold lenI
 rw [decide_eq_false (show ¬ u < 128 by omega), decide_eq_false (show ¬ u < 256 by omega)]
 simp only [cond_false, cond_dec]
 generalize hx : (u / 256).toNat = x
 have hx : u / 256 = (x : Int) := by omega
 unfold bitsN
 split
 ·omega
 split
 ·rw [if_pos (by omega)]; omega
 split
 ·rw [if_neg (by omega), if_pos (by omega)]; omega
 split
 ·rw [if_neg (by omega), if_neg (by omega), if_pos (by omega)]; omega
 split
 ·rw [if_neg (by omega), if_neg (by omega), if_neg (by omega), if_pos (by omega)]; omega
 split
 ·rw [if_neg (by omega), if_neg (by omega), if_neg (by omega), if_neg (by omega), if_pos (by omega)]; omega
 split
 ·rw [if_neg (by omega), if_neg (by omega), if_neg (by omega), if_neg (by omega), if_neg (by omega), if_pos (by omega)]; omega
 split
 ·rw [if_neg (by omega), if_neg (by omega), if_neg (by omega), if_neg (by omega), if_neg (by omega), if_neg (by omega), if_pos (by omega)]; omega
 ·rw [if_neg (by omega), if_neg (by omega), if_neg (by omega), if_neg (by omega), if_neg (by omega), if_neg (by omega), if_neg (by omega)]; first | omega | (rw [if_pos (by omega)]; omega)
theorem lenI_0 {u : Int} (h0 : 64 ≤ u) (h1 : u < 256) : (0 : Int) + (bitsN u.toNat : Nat) = lenI u := by
 unfold lenI bitsN
 by_cases h : u < 128
 ·rw [decide_eq_true h, if_neg (by omega), if_neg (by omega), if_neg (by omega), if_neg (by omega), if_neg (by omega), if_neg (by omega), if_neg (by omega), if_pos (by omega)]
  rfl
 ·rw [decide_eq_false h, decide_eq_true (show u < 256 by omega), if_neg (by omega), if_neg (by omega), if_neg (by omega), if_neg (by omega), if_neg (by omega), if_neg (by omega), if_neg (by omega), if_neg (by omega)]
  rfl
set_option maxRecDepth 100000 in
theorem run226 (m n : Nat) (u : Int) (h0 : 64 ≤ u) (h1 : u < 1048576) : (enterM I0 (callN I0 (m+40)) n c226 [.d (.int .u64 u)] []).out = (lenT u).eval := by
  rw [i226, lenT_eval, decide_eq_false (show ¬ (4294967296 : Int) ≤ u by omega), cond_false]
  have key : ∀ (k x : Int), 0 ≤ k → k ≤ 16 → 0 ≤ x → x < 256 → (bif decide ((0 : Int) ≤ IntKind.wrap .u8 x ∧ IntKind.wrap .u8 x < 256) then some [D.int .i64 (IntKind.wrap .i64 (k + IntKind.wrap .i64 (((L8.getD (Int.toNat (IntKind.wrap .u8 x)) 0).toNat : Nat) : Int)))] else none) = some [D.int .i64 (k + bitsN x.toNat)] := by
    intro k x hk0 hk hx0 hx
    rw [wrap_u8 hx0 hx, decide_eq_true (show (0 : Int) ≤ x ∧ x < 256 by omega), L8_at (show x.toNat < 256 by omega)]
    have hb : bitsN x.toNat ≤ 8 := by unfold bitsN; repeat' split
                                      all_goals omega
    rw [wrap_i64 (n := ((bitsN x.toNat : Nat) : Int)) (by omega) (by omega), wrap_i64 (by omega) (by omega)]
    rfl
  have f1 : Int.fdiv u 65536 = u / 65536 := Int.fdiv_eq_ediv_of_nonneg _ (by omega)
  have f2 : Int.fdiv u 256 = u / 256 := Int.fdiv_eq_ediv_of_nonneg _ (by omega)
  rw [f1, f2]
  by_cases h2 : 65536 ≤ u
  · rw [decide_eq_true h2, decide_eq_false (show ¬ (256 : Int) ≤ u / 65536 by omega)]
    rw [cond_true, cond_false]
    refine (key 16 (u / 65536) (by omega) (by omega) (by omega) (by omega)).trans ?_
    rw [lenI_16 h2 h1]
  · rw [decide_eq_false h2, cond_false]
    by_cases h3 : 256 ≤ u
    · rw [decide_eq_true h3, cond_true]
      refine (key 8 (u / 256) (by omega) (by omega) (by omega) (by omega)).trans ?_
      rw [lenI_8 h3 (by omega)]
    · rw [decide_eq_false h3, cond_false]
      refine (key 0 u (by omega) (by omega) (by omega) (by omega)).trans ?_
      rw [lenI_0 h0 (by omega)]
def g226 : List D → Tree (List D)
 | [.int .u64 u] => .ite (decide (64 ≤ u) && decide (u < 1048576)) (fun _ => lenT u) (fun _ => .stuck)
 | _ => .stuck
theorem pure226 {P : Program} (hm : P.follows .mixedOrders = true) (h0 : EnvOK P I0) : PureOK P 226 g226 := PureOK.run hm h0 fun ds rs h => by
 unfold g226 at h
 split at h
 ·obtain ⟨hg, h⟩ := eval_guard h
  simp only [Bool.and_eq_true, decide_eq_true_eq] at hg
  exact ⟨59 + 1, by rw [callN_succ (fn := c226) rfl]; exact (run226 19 59 _ hg.1 hg.2).trans h⟩
 ·cases h
def I1 : Env := I0.pureAt 226 true g226
theorem i212 (m n : Nat) (u : Int) : Tree.out (enterM I1 (callN I1 (m+40)) n c212 [.d (.int .u64 u)] []) = bif decide (64 ≤ u) && decide (u < 1048576) then bif decide (u < 128) then bif decide (100 ≤ u) then some [D.int .i64 3] else some [D.int .i64 2] else bif decide (u < 256) then bif decide (100 ≤ u) then some [D.int .i64 3] else some [D.int .i64 2] else bif decide (u < 512) then bif decide (100 ≤ u) then some [D.int .i64 3] else some [D.int .i64 2] else bif decide (u < 1024) then bif decide (1000 ≤ u) then some [D.int .i64 4] else some [D.int .i64 3] else bif decide (u < 2048) then bif decide (1000 ≤ u) then some [D.int .i64 4] else some [D.int .i64 3] else bif decide (u < 4096) then bif decide (1000 ≤ u) then some [D.int .i64 4] else some [D.int .i64 3] else bif decide (u < 8192) then bif decide (1000 ≤ u) then some [D.int .i64 4] else some [D.int .i64 3] else bif decide (u < 16384) then bif decide (10000 ≤ u) then some [D.int .i64 5] else some [D.int .i64 4] else bif decide (u < 32768) then bif decide (10000 ≤ u) then some [D.int .i64 5] else some [D.int .i64 4] else bif decide (u < 65536) then bif decide (10000 ≤ u) then some [D.int .i64 5] else some [D.int .i64 4] else bif decide (u < 131072) then bif decide (100000 ≤ u) then some [D.int .i64 6] else some [D.int .i64 5] else bif decide (u < 262144) then bif decide (100000 ≤ u) then some [D.int .i64 6] else some [D.int .i64 5] else bif decide (u < 524288) then bif decide (100000 ≤ u) then some [D.int .i64 6] else some [D.int .i64 5] else bif decide (1000000 ≤ u) then some [D.int .i64 7] else some [D.int .i64 6] else none := by kernel_rfl
def digT (u : Int) : Tree (List D) :=
 .ite (decide (u < 1000)) (fun _ => .ret [.int .i64 3]) fun _ => .ite (decide (u < 10000)) (fun _ => .ret [.int .i64 4]) fun _ => .ite (decide (u < 100000)) (fun _ => .ret [.int .i64 5]) fun _ => .ret [.int .i64 6]
def digI (u : Int) : Int := bif decide (u < 1000) then 3 else bif decide (u < 10000) then 4 else bif decide (u < 100000) then 5 else 6
theorem digT_eval (u : Int) : (digT u).eval = some [.int .i64 (digI u)] := by
 unfold digT digI
 simp only [ite_ev, push_int]
 rfl
theorem two (a : Int) (x y : Int) (u : Int) (h : (a ≤ u → x = digI u) ∧ (u < a → y = digI u)) : (bif decide (a ≤ u) then some [D.int .i64 x] else some [D.int .i64 y]) = some [D.int .i64 (digI u)] := by
 by_cases g : a ≤ u
 ·rw [decide_eq_true g, ← h.1 g]; rfl
 ·rw [decide_eq_false g, ← h.2 (by omega)]; rfl
theorem digI3 {u : Int} (h : u < 1000) : 3 = digI u := by unfold digI; rw [decide_eq_true h]; rfl
theorem digI4 {u : Int} (h0 : 1000 ≤ u) (h : u < 10000) : 4 = digI u := by unfold digI; rw [decide_eq_false (by omega), decide_eq_true h]; rfl
theorem digI5 {u : Int} (h0 : 10000 ≤ u) (h : u < 100000) : 5 = digI u := by unfold digI; rw [decide_eq_false (by omega), decide_eq_false (by omega), decide_eq_true h]; rfl
theorem digI6 {u : Int} (h0 : 100000 ≤ u) : 6 = digI u := by unfold digI; rw [decide_eq_false (by omega), decide_eq_false (by omega), decide_eq_false (by omega)]; rfl
theorem stepc {c u : Int} {x y r : Option (List D)} (h1 : u < c → x = r) (h2 : c ≤ u → y = r) : (bif decide (u < c) then x else y) = r := by
 by_cases g : u < c
 ·rw [decide_eq_true g]; exact h1 g
 ·rw [decide_eq_false g]; exact h2 (by omega)
theorem run212 (m n : Nat) (u : Int) (h0 : 100 ≤ u) (h1 : u ≤ 999999) : (enterM I1 (callN I1 (m+40)) n c212 [.d (.int .u64 u)] []).out = (digT u).eval := by
 rw [i212, digT_eval, decide_eq_true (show (64 : Int) ≤ u by omega), decide_eq_true (show u < 1048576 by omega)]
 refine stepc (fun a => two _ _ _ _ ⟨fun _ => digI3 (by omega), fun _ => by omega⟩) fun a => ?_
 refine stepc (fun b => two _ _ _ _ ⟨fun _ => digI3 (by omega), fun _ => by omega⟩) fun a => ?_
 refine stepc (fun b => two _ _ _ _ ⟨fun _ => digI3 (by omega), fun _ => by omega⟩) fun a => ?_
 refine stepc (fun b => two _ _ _ _ ⟨fun _ => digI4 (by omega) (by omega), fun _ => digI3 (by omega)⟩) fun a => ?_
 refine stepc (fun b => two _ _ _ _ ⟨fun _ => digI4 (by omega) (by omega), fun _ => digI3 (by omega)⟩) fun a => ?_
 refine stepc (fun b => two _ _ _ _ ⟨fun _ => digI4 (by omega) (by omega), fun _ => digI3 (by omega)⟩) fun a => ?_
 refine stepc (fun b => two _ _ _ _ ⟨fun _ => digI4 (by omega) (by omega), fun _ => digI3 (by omega)⟩) fun a => ?_
 refine stepc (fun b => two _ _ _ _ ⟨fun _ => digI5 (by omega) (by omega), fun _ => digI4 (by omega) (by omega)⟩) fun a => ?_
 refine stepc (fun b => two _ _ _ _ ⟨fun _ => digI5 (by omega) (by omega), fun _ => digI4 (by omega) (by omega)⟩) fun a => ?_
 refine stepc (fun b => two _ _ _ _ ⟨fun _ => digI5 (by omega) (by omega), fun _ => digI4 (by omega) (by omega)⟩) fun a => ?_
 refine stepc (fun b => two _ _ _ _ ⟨fun _ => digI6 (by omega), fun _ => digI5 (by omega) (by omega)⟩) fun a => ?_
 refine stepc (fun b => two _ _ _ _ ⟨fun _ => digI6 (by omega), fun _ => digI5 (by omega) (by omega)⟩) fun a => ?_
 refine stepc (fun b => two _ _ _ _ ⟨fun _ => digI6 (by omega), fun _ => digI5 (by omega) (by omega)⟩) fun a => ?_
 exact two _ _ _ _ ⟨fun _ => by omega, fun _ => digI6 (by omega)⟩
def g212 : List D → Tree (List D)
 | [.int .u64 u] => .ite (decide (100 ≤ u) && decide (u ≤ 999999)) (fun _ => digT u) (fun _ => .stuck)
 | _ => .stuck
theorem pure212 {P : Program} (hm : P.follows .mixedOrders = true) (h0 : EnvOK P I1) : PureOK P 212 g212 := PureOK.run hm h0 fun ds rs h => by
 unfold g212 at h
 split at h
 ·obtain ⟨hg, h⟩ := eval_guard h
  simp only [Bool.and_eq_true, decide_eq_true_eq] at hg
  exact ⟨59 + 1, by rw [callN_succ (fn := c212) rfl]; exact (run212 19 59 _ hg.1 hg.2).trans h⟩
 ·cases h
def I2 : Env := I1.pureAt 212 true g212
theorem j213_3 (m n : Nat) (u : Int) : Tree.eval (enterM I2 (callN I2 (m+40)) n c213 [.sla 0 1 3, .d (.int .u64 u)] [(0, .arr (.int .u8) 24 false [D.int .u8 0, D.int .u8 0, D.int .u8 0, D.int .u8 0, D.int .u8 0, D.int .u8 0, D.int .u8 0, D.int .u8 0, D.int .u8 0, D.int .u8 0, D.int .u8 0, D.int .u8 0, D.int .u8 0, D.int .u8 0, D.int .u8 0, D.int .u8 0, D.int .u8 0, D.int .u8 0, D.int .u8 0, D.int .u8 0, D.int .u8 0, D.int .u8 0, D.int .u8 0, D.int .u8 0])]) = Tree.eval (resume I2 (callN I2 (m+40)) n n 0 c213 { fr := frame 167 [(0, V.sla 0 1 3), (1, V.d (D.int .u64 u)), (4, V.d (D.int .i64 3))], ob := [(0, Obj.arr (Sh.int .u8) 24 false [D.int .u8 0, D.int .u8 0, D.int .u8 0, D.int .u8 0, D.int .u8 0, D.int .u8 0, D.int .u8 0, D.int .u8 0, D.int .u8 0, D.int .u8 0, D.int .u8 0, D.int .u8 0, D.int .u8 0, D.int .u8 0, D.int .u8 0, D.int .u8 0, D.int .u8 0, D.int .u8 0, D.int .u8 0, D.int .u8 0, D.int .u8 0, D.int .u8 0, D.int .u8 0, D.int .u8 0])] }) := by kernel_rfl
theorem j213_4 (m n : Nat) (u : Int) : Tree.eval (enterM I2 (callN I2 (m+40)) n c213 [.sla 0 1 4, .d (.int .u64 u)] [(0, .arr (.int .u8) 24 false [D.int .u8 0, D.int .u8 0, D.int .u8 0, D.int .u8 0, D.int .u8 0, D.int .u8 0, D.int .u8 0, D.int .u8 0, D.int .u8 0, D.int .u8 0, D.int .u8 0, D.int .u8 0, D.int .u8 0, D.int .u8 0, D.int .u8 0, D.int .u8 0, D.int .u8 0, D.int .u8 0, D.int .u8 0, D.int .u8 0, D.int .u8 0, D.int .u8 0, D.int .u8 0, D.int .u8 0])]) = Tree.eval (resume I2 (callN I2 (m+40)) n n 0 c213 { fr := frame 167 [(0, V.sla 0 1 4), (1, V.d (D.int .u64 u)), (4, V.d (D.int .i64 4))], ob := [(0, Obj.arr (Sh.int .u8) 24 false [D.int .u8 0, D.int .u8 0, D.int .u8 0, D.int .u8 0, D.int .u8 0, D.int .u8 0, D.int .u8 0, D.int .u8 0, D.int .u8 0, D.int .u8 0, D.int .u8 0, D.int .u8 0, D.int .u8 0, D.int .u8 0, D.int .u8 0, D.int .u8 0, D.int .u8 0, D.int .u8 0, D.int .u8 0, D.int .u8 0, D.int .u8 0, D.int .u8 0, D.int .u8 0, D.int .u8 0])] }) := by kernel_rfl
theorem j213_5 (m n : Nat) (u : Int) : Tree.eval (enterM I2 (callN I2 (m+40)) n c213 [.sla 0 1 5, .d (.int .u64 u)] [(0, .arr (.int .u8) 24 false [D.int .u8 0, D.int .u8 0, D.int .u8 0, D.int .u8 0, D.int .u8 0, D.int .u8 0, D.int .u8 0, D.int .u8 0, D.int .u8 0, D.int .u8 0, D.int .u8 0, D.int .u8 0, D.int .u8 0, D.int .u8 0, D.int .u8 0, D.int .u8 0, D.int .u8 0, D.int .u8 0, D.int .u8 0, D.int .u8 0, D.int .u8 0, D.int .u8 0, D.int .u8 0, D.int .u8 0])]) = Tree.eval (resume I2 (callN I2 (m+40)) n n 0 c213 { fr := frame 167 [(0, V.sla 0 1 5), (1, V.d (D.int .u64 u)), (4, V.d (D.int .i64 5))], ob := [(0, Obj.arr (Sh.int .u8) 24 false [D.int .u8 0, D.int .u8 0, D.int .u8 0, D.int .u8 0, D.int .u8 0, D.int .u8 0, D.int .u8 0, D.int .u8 0, D.int .u8 0, D.int .u8 0, D.int .u8 0, D.int .u8 0, D.int .u8 0, D.int .u8 0, D.int .u8 0, D.int .u8 0, D.int .u8 0, D.int .u8 0, D.int .u8 0, D.int .u8 0, D.int .u8 0, D.int .u8 0, D.int .u8 0, D.int .u8 0])] }) := by kernel_rfl
theorem j213_6 (m n : Nat) (u : Int) : Tree.eval (enterM I2 (callN I2 (m+40)) n c213 [.sla 0 1 6, .d (.int .u64 u)] [(0, .arr (.int .u8) 24 false [D.int .u8 0, D.int .u8 0, D.int .u8 0, D.int .u8 0, D.int .u8 0, D.int .u8 0, D.int .u8 0, D.int .u8 0, D.int .u8 0, D.int .u8 0, D.int .u8 0, D.int .u8 0, D.int .u8 0, D.int .u8 0, D.int .u8 0, D.int .u8 0, D.int .u8 0, D.int .u8 0, D.int .u8 0, D.int .u8 0, D.int .u8 0, D.int .u8 0, D.int .u8 0, D.int .u8 0])]) = Tree.eval (resume I2 (callN I2 (m+40)) n n 0 c213 { fr := frame 167 [(0, V.sla 0 1 6), (1, V.d (D.int .u64 u)), (4, V.d (D.int .i64 6))], ob := [(0, Obj.arr (Sh.int .u8) 24 false [D.int .u8 0, D.int .u8 0, D.int .u8 0, D.int .u8 0, D.int .u8 0, D.int .u8 0, D.int .u8 0, D.int .u8 0, D.int .u8 0, D.int .u8 0, D.int .u8 0, D.int .u8 0, D.int .u8 0, D.int .u8 0, D.int .u8 0, D.int .u8 0, D.int .u8 0, D.int .u8 0, D.int .u8 0, D.int .u8 0, D.int .u8 0, D.int .u8 0, D.int .u8 0, D.int .u8 0])] }) := by kernel_rfl
def s213 (k : Nat) (u : Int) : St := { fr := frame 167 [(0, V.sla 0 1 k), (1, V.d (D.int .u64 u)), (4, V.d (D.int .i64 k))], ob := [(0, .arr (.int .u8) 24 false [D.int .u8 0, D.int .u8 0, D.int .u8 0, D.int .u8 0, D.int .u8 0, D.int .u8 0, D.int .u8 0, D.int .u8 0, D.int .u8 0, D.int .u8 0, D.int .u8 0, D.int .u8 0, D.int .u8 0, D.int .u8 0, D.int .u8 0, D.int .u8 0, D.int .u8 0, D.int .u8 0, D.int .u8 0, D.int .u8 0, D.int .u8 0, D.int .u8 0, D.int .u8 0, D.int .u8 0])] }
theorem l213_3 (m n j : Nat) (u : Int) : Tree.eval (resume I2 (callN I2 (m+40)) n (j+1) 0 c213 (s213 3 u)) = bif decide (0 ≤ IntKind.wrap .u32 (IntKind.wrap .u32 (Int.tmod (IntKind.wrap .u32 u) 100 * 2) + 1) ∧ IntKind.wrap .u32 (IntKind.wrap .u32 (Int.tmod (IntKind.wrap .u32 u) 100 * 2) + 1) < 200) then bif decide (0 ≤ IntKind.wrap .u32 (Int.tmod (IntKind.wrap .u32 u) 100 * 2) ∧ IntKind.wrap .u32 (Int.tmod (IntKind.wrap .u32 u) 100 * 2) < 200) then some (V.tup [], [(0, Obj.arr (Sh.int .u8) 24 false [D.int .u8 0, D.int .u8 (IntKind.wrap .u8 (IntKind.wrap .u32 (48 + IntKind.wrap .u32 (Int.tdiv (IntKind.wrap .u32 u) 100)))), D.int .u8 (↑(UInt8.toNat (List.getD [48, 48, 48, 49, 48, 50, 48, 51, 48, 52, 48, 53, 48, 54, 48, 55, 48, 56, 48, 57, 49, 48, 49, 49, 49, 50, 49, 51, 49, 52, 49, 53, 49, 54, 49, 55, 49, 56, 49, 57, 50, 48, 50, 49, 50, 50, 50, 51, 50, 52, 50, 53, 50, 54, 50, 55, 50, 56, 50, 57, 51, 48, 51, 49, 51, 50, 51, 51, 51, 52, 51, 53, 51, 54, 51, 55, 51, 56, 51, 57, 52, 48, 52, 49, 52, 50, 52, 51, 52, 52, 52, 53, 52, 54, 52, 55, 52, 56, 52, 57, 53, 48, 53, 49, 53, 50, 53, 51, 53, 52, 53, 53, 53, 54, 53, 55, 53, 56, 53, 57, 54, 48, 54, 49, 54, 50, 54, 51, 54, 52, 54, 53, 54, 54, 54, 55, 54, 56, 54, 57, 55, 48, 55, 49, 55, 50, 55, 51, 55, 52, 55, 53, 55, 54, 55, 55, 55, 56, 55, 57, 56, 48, 56, 49, 56, 50, 56, 51, 56, 52, 56, 53, 56, 54, 56, 55, 56, 56, 56, 57, 57, 48, 57, 49, 57, 50, 57, 51, 57, 52, 57, 53, 57, 54, 57, 55, 57, 56, 57, 57] (Int.toNat (IntKind.wrap .u32 (Int.tmod (IntKind.wrap .u32 u) 100 * 2))) 0)) : Int), D.int .u8 (↑(UInt8.toNat (List.getD [48, 48, 48, 49, 48, 50, 48, 51, 48, 52, 48, 53, 48, 54, 48, 55, 48, 56, 48, 57, 49, 48, 49, 49, 49, 50, 49, 51, 49, 52, 49, 53, 49, 54, 49, 55, 49, 56, 49, 57, 50, 48, 50, 49, 50, 50, 50, 51, 50, 52, 50, 53, 50, 54, 50, 55, 50, 56, 50, 57, 51, 48, 51, 49, 51, 50, 51, 51, 51, 52, 51, 53, 51, 54, 51, 55, 51, 56, 51, 57, 52, 48, 52, 49, 52, 50, 52, 51, 52, 52, 52, 53, 52, 54, 52, 55, 52, 56, 52, 57, 53, 48, 53, 49, 53, 50, 53, 51, 53, 52, 53, 53, 53, 54, 53, 55, 53, 56, 53, 57, 54, 48, 54, 49, 54, 50, 54, 51, 54, 52, 54, 53, 54, 54, 54, 55, 54, 56, 54, 57, 55, 48, 55, 49, 55, 50, 55, 51, 55, 52, 55, 53, 55, 54, 55, 55, 55, 56, 55, 57, 56, 48, 56, 49, 56, 50, 56, 51, 56, 52, 56, 53, 56, 54, 56, 55, 56, 56, 56, 57, 57, 48, 57, 49, 57, 50, 57, 51, 57, 52, 57, 53, 57, 54, 57, 55, 57, 56, 57, 57] (Int.toNat (IntKind.wrap .u32 (IntKind.wrap .u32 (Int.tmod (IntKind.wrap .u32 u) 100 * 2) + 1))) 0)) : Int), D.int .u8 0, D.int .u8 0, D.int .u8 0, D.int .u8 0, D.int .u8 0, D.int .u8 0, D.int .u8 0, D.int .u8 0, D.int .u8 0, D.int .u8 0, D.int .u8 0, D.int .u8 0, D.int .u8 0, D.int .u8 0, D.int .u8 0, D.int .u8 0, D.int .u8 0, D.int .u8 0, D.int .u8 0, D.int .u8 0])]) else none else none := by kernel_rfl
theorem l213_4 (m n j : Nat) (u : Int) : Tree.eval (resume I2 (callN I2 (m+40)) n (j+1) 0 c213 (s213 4 u)) = bif decide (0 ≤ IntKind.wrap .u32 (IntKind.wrap .u32 (Int.tmod (Int.tmod (IntKind.wrap .u32 u) 10000) 100 * 2) + 1) ∧ IntKind.wrap .u32 (IntKind.wrap .u32 (Int.tmod (Int.tmod (IntKind.wrap .u32 u) 10000) 100 * 2) + 1) < 200) then bif decide (0 ≤ IntKind.wrap .u32 (Int.tmod (Int.tmod (IntKind.wrap .u32 u) 10000) 100 * 2) ∧ IntKind.wrap .u32 (Int.tmod (Int.tmod (IntKind.wrap .u32 u) 10000) 100 * 2) < 200) then bif decide (0 ≤ IntKind.wrap .u32 (IntKind.wrap .u32 (IntKind.wrap .u32 (Int.tdiv (Int.tmod (IntKind.wrap .u32 u) 10000) 100) * 2) + 1) ∧ IntKind.wrap .u32 (IntKind.wrap .u32 (IntKind.wrap .u32 (Int.tdiv (Int.tmod (IntKind.wrap .u32 u) 10000) 100) * 2) + 1) < 200) then bif decide (0 ≤ IntKind.wrap .u32 (IntKind.wrap .u32 (Int.tdiv (Int.tmod (IntKind.wrap .u32 u) 10000) 100) * 2) ∧ IntKind.wrap .u32 (IntKind.wrap .u32 (Int.tdiv (Int.tmod (IntKind.wrap .u32 u) 10000) 100) * 2) < 200) then some (V.tup [], [(0, Obj.arr (Sh.int .u8) 24 false [D.int .u8 0, D.int .u8 (↑(UInt8.toNat (List.getD [48, 48, 48, 49, 48, 50, 48, 51, 48, 52, 48, 53, 48, 54, 48, 55, 48, 56, 48, 57, 49, 48, 49, 49, 49, 50, 49, 51, 49, 52, 49, 53, 49, 54, 49, 55, 49, 56, 49, 57, 50, 48, 50, 49, 50, 50, 50, 51, 50, 52, 50, 53, 50, 54, 50, 55, 50, 56, 50, 57, 51, 48, 51, 49, 51, 50, 51, 51, 51, 52, 51, 53, 51, 54, 51, 55, 51, 56, 51, 57, 52, 48, 52, 49, 52, 50, 52, 51, 52, 52, 52, 53, 52, 54, 52, 55, 52, 56, 52, 57, 53, 48, 53, 49, 53, 50, 53, 51, 53, 52, 53, 53, 53, 54, 53, 55, 53, 56, 53, 57, 54, 48, 54, 49, 54, 50, 54, 51, 54, 52, 54, 53, 54, 54, 54, 55, 54, 56, 54, 57, 55, 48, 55, 49, 55, 50, 55, 51, 55, 52, 55, 53, 55, 54, 55, 55, 55, 56, 55, 57, 56, 48, 56, 49, 56, 50, 56, 51, 56, 52, 56, 53, 56, 54, 56, 55, 56, 56, 56, 57, 57, 48, 57, 49, 57, 50, 57, 51, 57, 52, 57, 53, 57, 54, 57, 55, 57, 56, 57, 57] (Int.toNat (IntKind.wrap .u32 (IntKind.wrap .u32 (Int.tdiv (Int.tmod (IntKind.wrap .u32 u) 10000) 100) * 2))) 0)) : Int), D.int .u8 (↑(UInt8.toNat (List.getD [48, 48, 48, 49, 48, 50, 48, 51, 48, 52, 48, 53, 48, 54, 48, 55, 48, 56, 48, 57, 49, 48, 49, 49, 49, 50, 49, 51, 49, 52, 49, 53, 49, 54, 49, 55, 49, 56, 49, 57, 50, 48, 50, 49, 50, 50, 50, 51, 50, 52, 50, 53, 50, 54, 50, 55, 50, 56, 50, 57, 51, 48, 51, 49, 51, 50, 51, 51, 51, 52, 51, 53, 51, 54, 51, 55, 51, 56, 51, 57, 52, 48, 52, 49, 52, 50, 52, 51, 52, 52, 52, 53, 52, 54, 52, 55, 52, 56, 52, 57, 53, 48, 53, 49, 53, 50, 53, 51, 53, 52, 53, 53, 53, 54, 53, 55, 53, 56, 53, 57, 54, 48, 54, 49, 54, 50, 54, 51, 54, 52, 54, 53, 54, 54, 54, 55, 54, 56, 54, 57, 55, 48, 55, 49, 55, 50, 55, 51, 55, 52, 55, 53, 55, 54, 55, 55, 55, 56, 55, 57, 56, 48, 56, 49, 56, 50, 56, 51, 56, 52, 56, 53, 56, 54, 56, 55, 56, 56, 56, 57, 57, 48, 57, 49, 57, 50, 57, 51, 57, 52, 57, 53, 57, 54, 57, 55, 57, 56, 57, 57] (Int.toNat (IntKind.wrap .u32 (IntKind.wrap .u32 (IntKind.wrap .u32 (Int.tdiv (Int.tmod (IntKind.wrap .u32 u) 10000) 100) * 2) + 1))) 0)) : Int), D.int .u8 (↑(UInt8.toNat (List.getD [48, 48, 48, 49, 48, 50, 48, 51, 48, 52, 48, 53, 48, 54, 48, 55, 48, 56, 48, 57, 49, 48, 49, 49, 49, 50, 49, 51, 49, 52, 49, 53, 49, 54, 49, 55, 49, 56, 49, 57, 50, 48, 50, 49, 50, 50, 50, 51, 50, 52, 50, 53, 50, 54, 50, 55, 50, 56, 50, 57, 51, 48, 51, 49, 51, 50, 51, 51, 51, 52, 51, 53, 51, 54, 51, 55, 51, 56, 51, 57, 52, 48, 52, 49, 52, 50, 52, 51, 52, 52, 52, 53, 52, 54, 52, 55, 52, 56, 52, 57, 53, 48, 53, 49, 53, 50, 53, 51, 53, 52, 53, 53, 53, 54, 53, 55, 53, 56, 53, 57, 54, 48, 54, 49, 54, 50, 54, 51, 54, 52, 54, 53, 54, 54, 54, 55, 54, 56, 54, 57, 55, 48, 55, 49, 55, 50, 55, 51, 55, 52, 55, 53, 55, 54, 55, 55, 55, 56, 55, 57, 56, 48, 56, 49, 56, 50, 56, 51, 56, 52, 56, 53, 56, 54, 56, 55, 56, 56, 56, 57, 57, 48, 57, 49, 57, 50, 57, 51, 57, 52, 57, 53, 57, 54, 57, 55, 57, 56, 57, 57] (Int.toNat (IntKind.wrap .u32 (Int.tmod (Int.tmod (IntKind.wrap .u32 u) 10000) 100 * 2))) 0)) : Int), D.int .u8 (↑(UInt8.toNat (List.getD [48, 48, 48, 49, 48, 50, 48, 51, 48, 52, 48, 53, 48, 54, 48, 55, 48, 56, 48, 57, 49, 48, 49, 49, 49, 50, 49, 51, 49, 52, 49, 53, 49, 54, 49, 55, 49, 56, 49, 57, 50, 48, 50, 49, 50, 50, 50, 51, 50, 52, 50, 53, 50, 54, 50, 55, 50, 56, 50, 57, 51, 48, 51, 49, 51, 50, 51, 51, 51, 52, 51, 53, 51, 54, 51, 55, 51, 56, 51, 57, 52, 48, 52, 49, 52, 50, 52, 51, 52, 52, 52, 53, 52, 54, 52, 55, 52, 56, 52, 57, 53, 48, 53, 49, 53, 50, 53, 51, 53, 52, 53, 53, 53, 54, 53, 55, 53, 56, 53, 57, 54, 48, 54, 49, 54, 50, 54, 51, 54, 52, 54, 53, 54, 54, 54, 55, 54, 56, 54, 57, 55, 48, 55, 49, 55, 50, 55, 51, 55, 52, 55, 53, 55, 54, 55, 55, 55, 56, 55, 57, 56, 48, 56, 49, 56, 50, 56, 51, 56, 52, 56, 53, 56, 54, 56, 55, 56, 56, 56, 57, 57, 48, 57, 49, 57, 50, 57, 51, 57, 52, 57, 53, 57, 54, 57, 55, 57, 56, 57, 57] (Int.toNat (IntKind.wrap .u32 (IntKind.wrap .u32 (Int.tmod (Int.tmod (IntKind.wrap .u32 u) 10000) 100 * 2) + 1))) 0)) : Int), D.int .u8 0, D.int .u8 0, D.int .u8 0, D.int .u8 0, D.int .u8 0, D.int .u8 0, D.int .u8 0, D.int .u8 0, D.int .u8 0, D.int .u8 0, D.int .u8 0, D.int .u8 0, D.int .u8 0, D.int .u8 0, D.int .u8 0, D.int .u8 0, D.int .u8 0, D.int .u8 0, D.int .u8 0])]) else none else none else none else none := by kernel_rfl
theorem l213_5 (m n j : Nat) (u : Int) : Tree.eval (resume I2 (callN I2 (m+40)) n (j+1) 0 c213 (s213 5 u)) = bif decide (0 ≤ IntKind.wrap .u32 (IntKind.wrap .u32 (Int.tmod (Int.tmod (IntKind.wrap .u32 u) 10000) 100 * 2) + 1) ∧ IntKind.wrap .u32 (IntKind.wrap .u32 (Int.tmod (Int.tmod (IntKind.wrap .u32 u) 10000) 100 * 2) + 1) < 200) then bif decide (0 ≤ IntKind.wrap .u32 (Int.tmod (Int.tmod (IntKind.wrap .u32 u) 10000) 100 * 2) ∧ IntKind.wrap .u32 (Int.tmod (Int.tmod (IntKind.wrap .u32 u) 10000) 100 * 2) < 200) then bif decide (0 ≤ IntKind.wrap .u32 (IntKind.wrap .u32 (IntKind.wrap .u32 (Int.tdiv (Int.tmod (IntKind.wrap .u32 u) 10000) 100) * 2) + 1) ∧ IntKind.wrap .u32 (IntKind.wrap .u32 (IntKind.wrap .u32 (Int.tdiv (Int.tmod (IntKind.wrap .u32 u) 10000) 100) * 2) + 1) < 200) then bif decide (0 ≤ IntKind.wrap .u32 (IntKind.wrap .u32 (Int.tdiv (Int.tmod (IntKind.wrap .u32 u) 10000) 100) * 2) ∧ IntKind.wrap .u32 (IntKind.wrap .u32 (Int.tdiv (Int.tmod (IntKind.wrap .u32 u) 10000) 100) * 2) < 200) then some (V.tup [], [(0, Obj.arr (Sh.int .u8) 24 false [D.int .u8 0, D.int .u8 (IntKind.wrap .u8 (IntKind.wrap .u32 (48 + IntKind.wrap .u32 (Int.tdiv (IntKind.wrap .u32 u) 10000)))), D.int .u8 (↑(UInt8.toNat (List.getD [48, 48, 48, 49, 48, 50, 48, 51, 48, 52, 48, 53, 48, 54, 48, 55, 48, 56, 48, 57, 49, 48, 49, 49, 49, 50, 49, 51, 49, 52, 49, 53, 49, 54, 49, 55, 49, 56, 49, 57, 50, 48, 50, 49, 50, 50, 50, 51, 50, 52, 50, 53, 50, 54, 50, 55, 50, 56, 50, 57, 51, 48, 51, 49, 51, 50, 51, 51, 51, 52, 51, 53, 51, 54, 51, 55, 51, 56, 51, 57, 52, 48, 52, 49, 52, 50, 52, 51, 52, 52, 52, 53, 52, 54, 52, 55, 52, 56, 52, 57, 53, 48, 53, 49, 53, 50, 53, 51, 53, 52, 53, 53, 53, 54, 53, 55, 53, 56, 53, 57, 54, 48, 54, 49, 54, 50, 54, 51, 54, 52, 54, 53, 54, 54, 54, 55, 54, 56, 54, 57, 55, 48, 55, 49, 55, 50, 55, 51, 55, 52, 55, 53, 55, 54, 55, 55, 55, 56, 55, 57, 56, 48, 56, 49, 56, 50, 56, 51, 56, 52, 56, 53, 56, 54, 56, 55, 56, 56, 56, 57, 57, 48, 57, 49, 57, 50, 57, 51, 57, 52, 57, 53, 57, 54, 57, 55, 57, 56, 57, 57] (Int.toNat (IntKind.wrap .u32 (IntKind.wrap .u32 (Int.tdiv (Int.tmod (IntKind.wrap .u32 u) 10000) 100) * 2))) 0)) : Int), D.int .u8 (↑(UInt8.toNat (List.getD [48, 48, 48, 49, 48, 50, 48, 51, 48, 52, 48, 53, 48, 54, 48, 55, 48, 56, 48, 57, 49, 48, 49, 49, 49, 50, 49, 51, 49, 52, 49, 53, 49, 54, 49, 55, 49, 56, 49, 57, 50, 48, 50, 49, 50, 50, 50, 51, 50, 52, 50, 53, 50, 54, 50, 55, 50, 56, 50, 57, 51, 48, 51, 49, 51, 50, 51, 51, 51, 52, 51, 53, 51, 54, 51, 55, 51, 56, 51, 57, 52, 48, 52, 49, 52, 50, 52, 51, 52, 52, 52, 53, 52, 54, 52, 55, 52, 56, 52, 57, 53, 48, 53, 49, 53, 50, 53, 51, 53, 52, 53, 53, 53, 54, 53, 55, 53, 56, 53, 57, 54, 48, 54, 49, 54, 50, 54, 51, 54, 52, 54, 53, 54, 54, 54, 55, 54, 56, 54, 57, 55, 48, 55, 49, 55, 50, 55, 51, 55, 52, 55, 53, 55, 54, 55, 55, 55, 56, 55, 57, 56, 48, 56, 49, 56, 50, 56, 51, 56, 52, 56, 53, 56, 54, 56, 55, 56, 56, 56, 57, 57, 48, 57, 49, 57, 50, 57, 51, 57, 52, 57, 53, 57, 54, 57, 55, 57, 56, 57, 57] (Int.toNat (IntKind.wrap .u32 (IntKind.wrap .u32 (IntKind.wrap .u32 (Int.tdiv (Int.tmod (IntKind.wrap .u32 u) 10000) 100) * 2) + 1))) 0)) : Int), D.int .u8 (↑(UInt8.toNat (List.getD [48, 48, 48, 49, 48, 50, 48, 51, 48, 52, 48, 53, 48, 54, 48, 55, 48, 56, 48, 57, 49, 48, 49, 49, 49, 50, 49, 51, 49, 52, 49, 53, 49, 54, 49, 55, 49, 56, 49, 57, 50, 48, 50, 49, 50, 50, 50, 51, 50, 52, 50, 53, 50, 54, 50, 55, 50, 56, 50, 57, 51, 48, 51, 49, 51, 50, 51, 51, 51, 52, 51, 53, 51, 54, 51, 55, 51, 56, 51, 57, 52, 48, 52, 49, 52, 50, 52, 51, 52, 52, 52, 53, 52, 54, 52, 55, 52, 56, 52, 57, 53, 48, 53, 49, 53, 50, 53, 51, 53, 52, 53, 53, 53, 54, 53, 55, 53, 56, 53, 57, 54, 48, 54, 49, 54, 50, 54, 51, 54, 52, 54, 53, 54, 54, 54, 55, 54, 56, 54, 57, 55, 48, 55, 49, 55, 50, 55, 51, 55, 52, 55, 53, 55, 54, 55, 55, 55, 56, 55, 57, 56, 48, 56, 49, 56, 50, 56, 51, 56, 52, 56, 53, 56, 54, 56, 55, 56, 56, 56, 57, 57, 48, 57, 49, 57, 50, 57, 51, 57, 52, 57, 53, 57, 54, 57, 55, 57, 56, 57, 57] (Int.toNat (IntKind.wrap .u32 (Int.tmod (Int.tmod (IntKind.wrap .u32 u) 10000) 100 * 2))) 0)) : Int), D.int .u8 (↑(UInt8.toNat (List.getD [48, 48, 48, 49, 48, 50, 48, 51, 48, 52, 48, 53, 48, 54, 48, 55, 48, 56, 48, 57, 49, 48, 49, 49, 49, 50, 49, 51, 49, 52, 49, 53, 49, 54, 49, 55, 49, 56, 49, 57, 50, 48, 50, 49, 50, 50, 50, 51, 50, 52, 50, 53, 50, 54, 50, 55, 50, 56, 50, 57, 51, 48, 51, 49, 51, 50, 51, 51, 51, 52, 51, 53, 51, 54, 51, 55, 51, 56, 51, 57, 52, 48, 52, 49, 52, 50, 52, 51, 52, 52, 52, 53, 52, 54, 52, 55, 52, 56, 52, 57, 53, 48, 53, 49, 53, 50, 53, 51, 53, 52, 53, 53, 53, 54, 53, 55, 53, 56, 53, 57, 54, 48, 54, 49, 54, 50, 54, 51, 54, 52, 54, 53, 54, 54, 54, 55, 54, 56, 54, 57, 55, 48, 55, 49, 55, 50, 55, 51, 55, 52, 55, 53, 55, 54, 55, 55, 55, 56, 55, 57, 56, 48, 56, 49, 56, 50, 56, 51, 56, 52, 56, 53, 56, 54, 56, 55, 56, 56, 56, 57, 57, 48, 57, 49, 57, 50, 57, 51, 57, 52, 57, 53, 57, 54, 57, 55, 57, 56, 57, 57] (Int.toNat (IntKind.wrap .u32 (IntKind.wrap .u32 (Int.tmod (Int.tmod (IntKind.wrap .u32 u) 10000) 100 * 2) + 1))) 0)) : Int), D.int .u8 0, D.int .u8 0, D.int .u8 0, D.int .u8 0, D.int .u8 0, D.int .u8 0, D.int .u8 0, D.int .u8 0, D.int .u8 0, D.int .u8 0, D.int .u8 0, D.int .u8 0, D.int .u8 0, D.int .u8 0, D.int .u8 0, D.int .u8 0, D.int .u8 0, D.int .u8 0])]) else none else none else none else none := by kernel_rfl
theorem l213_6 (m n j : Nat) (u : Int) : Tree.eval (resume I2 (callN I2 (m+40)) n (j+1) 0 c213 (s213 6 u)) = bif decide (0 ≤ IntKind.wrap .u32 (IntKind.wrap .u32 (Int.tmod (Int.tmod (IntKind.wrap .u32 u) 10000) 100 * 2) + 1) ∧ IntKind.wrap .u32 (IntKind.wrap .u32 (Int.tmod (Int.tmod (IntKind.wrap .u32 u) 10000) 100 * 2) + 1) < 200) then bif decide (0 ≤ IntKind.wrap .u32 (Int.tmod (Int.tmod (IntKind.wrap .u32 u) 10000) 100 * 2) ∧ IntKind.wrap .u32 (Int.tmod (Int.tmod (IntKind.wrap .u32 u) 10000) 100 * 2) < 200) then bif decide (0 ≤ IntKind.wrap .u32 (IntKind.wrap .u32 (IntKind.wrap .u32 (Int.tdiv (Int.tmod (IntKind.wrap .u32 u) 10000) 100) * 2) + 1) ∧ IntKind.wrap .u32 (IntKind.wrap .u32 (IntKind.wrap .u32 (Int.tdiv (Int.tmod (IntKind.wrap .u32 u) 10000) 100) * 2) + 1) < 200) then bif decide (0 ≤ IntKind.wrap .u32 (IntKind.wrap .u32 (Int.tdiv (Int.tmod (IntKind.wrap .u32 u) 10000) 100) * 2) ∧ IntKind.wrap .u32 (IntKind.wrap .u32 (Int.tdiv (Int.tmod (IntKind.wrap .u32 u) 10000) 100) * 2) < 200) then bif decide (0 ≤ IntKind.wrap .u32 (IntKind.wrap .u32 (Int.tmod (IntKind.wrap .u32 (Int.tdiv (IntKind.wrap .u32 u) 10000)) 100 * 2) + 1) ∧ IntKind.wrap .u32 (IntKind.wrap .u32 (Int.tmod (IntKind.wrap .u32 (Int.tdiv (IntKind.wrap .u32 u) 10000)) 100 * 2) + 1) < 200) then bif decide (0 ≤ IntKind.wrap .u32 (Int.tmod (IntKind.wrap .u32 (Int.tdiv (IntKind.wrap .u32 u) 10000)) 100 * 2) ∧ IntKind.wrap .u32 (Int.tmod (IntKind.wrap .u32 (Int.tdiv (IntKind.wrap .u32 u) 10000)) 100 * 2) < 200) then some (V.tup [], [(0, Obj.arr (Sh.int .u8) 24 false [D.int .u8 0, D.int .u8 (↑(UInt8.toNat (List.getD [48, 48, 48, 49, 48, 50, 48, 51, 48, 52, 48, 53, 48, 54, 48, 55, 48, 56, 48, 57, 49, 48, 49, 49, 49, 50, 49, 51, 49, 52, 49, 53, 49, 54, 49, 55, 49, 56, 49, 57, 50, 48, 50, 49, 50, 50, 50, 51, 50, 52, 50, 53, 50, 54, 50, 55, 50, 56, 50, 57, 51, 48, 51, 49, 51, 50, 51, 51, 51, 52, 51, 53, 51, 54, 51, 55, 51, 56, 51, 57, 52, 48, 52, 49, 52, 50, 52, 51, 52, 52, 52, 53, 52, 54, 52, 55, 52, 56, 52, 57, 53, 48, 53, 49, 53, 50, 53, 51, 53, 52, 53, 53, 53, 54, 53, 55, 53, 56, 53, 57, 54, 48, 54, 49, 54, 50, 54, 51, 54, 52, 54, 53, 54, 54, 54, 55, 54, 56, 54, 57, 55, 48, 55, 49, 55, 50, 55, 51, 55, 52, 55, 53, 55, 54, 55, 55, 55, 56, 55, 57, 56, 48, 56, 49, 56, 50, 56, 51, 56, 52, 56, 53, 56, 54, 56, 55, 56, 56, 56, 57, 57, 48, 57, 49, 57, 50, 57, 51, 57, 52, 57, 53, 57, 54, 57, 55, 57, 56, 57, 57] (Int.toNat (IntKind.wrap .u32 (Int.tmod (IntKind.wrap .u32 (Int.tdiv (IntKind.wrap .u32 u) 10000)) 100 * 2))) 0)) : Int), D.int .u8 (↑(UInt8.toNat (List.getD [48, 48, 48, 49, 48, 50, 48, 51, 48, 52, 48, 53, 48, 54, 48, 55, 48, 56, 48, 57, 49, 48, 49, 49, 49, 50, 49, 51, 49, 52, 49, 53, 49, 54, 49, 55, 49, 56, 49, 57, 50, 48, 50, 49, 50, 50, 50, 51, 50, 52, 50, 53, 50, 54, 50, 55, 50, 56, 50, 57, 51, 48, 51, 49, 51, 50, 51, 51, 51, 52, 51, 53, 51, 54, 51, 55, 51, 56, 51, 57, 52, 48, 52, 49, 52, 50, 52, 51, 52, 52, 52, 53, 52, 54, 52, 55, 52, 56, 52, 57, 53, 48, 53, 49, 53, 50, 53, 51, 53, 52, 53, 53, 53, 54, 53, 55, 53, 56, 53, 57, 54, 48, 54, 49, 54, 50, 54, 51, 54, 52, 54, 53, 54, 54, 54, 55, 54, 56, 54, 57, 55, 48, 55, 49, 55, 50, 55, 51, 55, 52, 55, 53, 55, 54, 55, 55, 55, 56, 55, 57, 56, 48, 56, 49, 56, 50, 56, 51, 56, 52, 56, 53, 56, 54, 56, 55, 56, 56, 56, 57, 57, 48, 57, 49, 57, 50, 57, 51, 57, 52, 57, 53, 57, 54, 57, 55, 57, 56, 57, 57] (Int.toNat (IntKind.wrap .u32 (IntKind.wrap .u32 (Int.tmod (IntKind.wrap .u32 (Int.tdiv (IntKind.wrap .u32 u) 10000)) 100 * 2) + 1))) 0)) : Int), D.int .u8 (↑(UInt8.toNat (List.getD [48, 48, 48, 49, 48, 50, 48, 51, 48, 52, 48, 53, 48, 54, 48, 55, 48, 56, 48, 57, 49, 48, 49, 49, 49, 50, 49, 51, 49, 52, 49, 53, 49, 54, 49, 55, 49, 56, 49, 57, 50, 48, 50, 49, 50, 50, 50, 51, 50, 52, 50, 53, 50, 54, 50, 55, 50, 56, 50, 57, 51, 48, 51, 49, 51, 50, 51, 51, 51, 52, 51, 53, 51, 54, 51, 55, 51, 56, 51, 57, 52, 48, 52, 49, 52, 50, 52, 51, 52, 52, 52, 53, 52, 54, 52, 55, 52, 56, 52, 57, 53, 48, 53, 49, 53, 50, 53, 51, 53, 52, 53, 53, 53, 54, 53, 55, 53, 56, 53, 57, 54, 48, 54, 49, 54, 50, 54, 51, 54, 52, 54, 53, 54, 54, 54, 55, 54, 56, 54, 57, 55, 48, 55, 49, 55, 50, 55, 51, 55, 52, 55, 53, 55, 54, 55, 55, 55, 56, 55, 57, 56, 48, 56, 49, 56, 50, 56, 51, 56, 52, 56, 53, 56, 54, 56, 55, 56, 56, 56, 57, 57, 48, 57, 49, 57, 50, 57, 51, 57, 52, 57, 53, 57, 54, 57, 55, 57, 56, 57, 57] (Int.toNat (IntKind.wrap .u32 (IntKind.wrap .u32 (Int.tdiv (Int.tmod (IntKind.wrap .u32 u) 10000) 100) * 2))) 0)) : Int), D.int .u8 (↑(UInt8.toNat (List.getD [48, 48, 48, 49, 48, 50, 48, 51, 48, 52, 48, 53, 48, 54, 48, 55, 48, 56, 48, 57, 49, 48, 49, 49, 49, 50, 49, 51, 49, 52, 49, 53, 49, 54, 49, 55, 49, 56, 49, 57, 50, 48, 50, 49, 50, 50, 50, 51, 50, 52, 50, 53, 50, 54, 50, 55, 50, 56, 50, 57, 51, 48, 51, 49, 51, 50, 51, 51, 51, 52, 51, 53, 51, 54, 51, 55, 51, 56, 51, 57, 52, 48, 52, 49, 52, 50, 52, 51, 52, 52, 52, 53, 52, 54, 52, 55, 52, 56, 52, 57, 53, 48, 53, 49, 53, 50, 53, 51, 53, 52, 53, 53, 53, 54, 53, 55, 53, 56, 53, 57, 54, 48, 54, 49, 54, 50, 54, 51, 54, 52, 54, 53, 54, 54, 54, 55, 54, 56, 54, 57, 55, 48, 55, 49, 55, 50, 55, 51, 55, 52, 55, 53, 55, 54, 55, 55, 55, 56, 55, 57, 56, 48, 56, 49, 56, 50, 56, 51, 56, 52, 56, 53, 56, 54, 56, 55, 56, 56, 56, 57, 57, 48, 57, 49, 57, 50, 57, 51, 57, 52, 57, 53, 57, 54, 57, 55, 57, 56, 57, 57] (Int.toNat (IntKind.wrap .u32 (IntKind.wrap .u32 (IntKind.wrap .u32 (Int.tdiv (Int.tmod (IntKind.wrap .u32 u) 10000) 100) * 2) + 1))) 0)) : Int), D.int .u8 (↑(UInt8.toNat (List.getD [48, 48, 48, 49, 48, 50, 48, 51, 48, 52, 48, 53, 48, 54, 48, 55, 48, 56, 48, 57, 49, 48, 49, 49, 49, 50, 49, 51, 49, 52, 49, 53, 49, 54, 49, 55, 49, 56, 49, 57, 50, 48, 50, 49, 50, 50, 50, 51, 50, 52, 50, 53, 50, 54, 50, 55, 50, 56, 50, 57, 51, 48, 51, 49, 51, 50, 51, 51, 51, 52, 51, 53, 51, 54, 51, 55, 51, 56, 51, 57, 52, 48, 52, 49, 52, 50, 52, 51, 52, 52, 52, 53, 52, 54, 52, 55, 52, 56, 52, 57, 53, 48, 53, 49, 53, 50, 53, 51, 53, 52, 53, 53, 53, 54, 53, 55, 53, 56, 53, 57, 54, 48, 54, 49, 54, 50, 54, 51, 54, 52, 54, 53, 54, 54, 54, 55, 54, 56, 54, 57, 55, 48, 55, 49, 55, 50, 55, 51, 55, 52, 55, 53, 55, 54, 55, 55, 55, 56, 55, 57, 56, 48, 56, 49, 56, 50, 56, 51, 56, 52, 56, 53, 56, 54, 56, 55, 56, 56, 56, 57, 57, 48, 57, 49, 57, 50, 57, 51, 57, 52, 57, 53, 57, 54, 57, 55, 57, 56, 57, 57] (Int.toNat (IntKind.wrap .u32 (Int.tmod (Int.tmod (IntKind.wrap .u32 u) 10000) 100 * 2))) 0)) : Int), D.int .u8 (↑(UInt8.toNat (List.getD [48, 48, 48, 49, 48, 50, 48, 51, 48, 52, 48, 53, 48, 54, 48, 55, 48, 56, 48, 57, 49, 48, 49, 49, 49, 50, 49, 51, 49, 52, 49, 53, 49, 54, 49, 55, 49, 56, 49, 57, 50, 48, 50, 49, 50, 50, 50, 51, 50, 52, 50, 53, 50, 54, 50, 55, 50, 56, 50, 57, 51, 48, 51, 49, 51, 50, 51, 51, 51, 52, 51, 53, 51, 54, 51, 55, 51, 56, 51, 57, 52, 48, 52, 49, 52, 50, 52, 51, 52, 52, 52, 53, 52, 54, 52, 55, 52, 56, 52, 57, 53, 48, 53, 49, 53, 50, 53, 51, 53, 52, 53, 53, 53, 54, 53, 55, 53, 56, 53, 57, 54, 48, 54, 49, 54, 50, 54, 51, 54, 52, 54, 53, 54, 54, 54, 55, 54, 56, 54, 57, 55, 48, 55, 49, 55, 50, 55, 51, 55, 52, 55, 53, 55, 54, 55, 55, 55, 56, 55, 57, 56, 48, 56, 49, 56, 50, 56, 51, 56, 52, 56, 53, 56, 54, 56, 55, 56, 56, 56, 57, 57, 48, 57, 49, 57, 50, 57, 51, 57, 52, 57, 53, 57, 54, 57, 55, 57, 56, 57, 57] (Int.toNat (IntKind.wrap .u32 (IntKind.wrap .u32 (Int.tmod (Int.tmod (IntKind.wrap .u32 u) 10000) 100 * 2) + 1))) 0)) : Int), D.int .u8 0, D.int .u8 0, D.int .u8 0, D.int .u8 0, D.int .u8 0, D.int .u8 0, D.int .u8 0, D.int .u8 0, D.int .u8 0, D.int .u8 0, D.int .u8 0, D.int .u8 0, D.int .u8 0, D.int .u8 0, D.int .u8 0, D.int .u8 0, D.int .u8 0])]) else none else none else none else none else none else none := by kernel_rfl
abbrev SM : List UInt8 := [48, 48, 48, 49, 48, 50, 48, 51, 48, 52, 48, 53, 48, 54, 48, 55, 48, 56, 48, 57, 49, 48, 49, 49, 49, 50, 49, 51, 49, 52, 49, 53, 49, 54, 49, 55, 49, 56, 49, 57, 50, 48, 50, 49, 50, 50, 50, 51, 50, 52, 50, 53, 50, 54, 50, 55, 50, 56, 50, 57, 51, 48, 51, 49, 51, 50, 51, 51, 51, 52, 51, 53, 51, 54, 51, 55, 51, 56, 51, 57, 52, 48, 52, 49, 52, 50, 52, 51, 52, 52, 52, 53, 52, 54, 52, 55, 52, 56, 52, 57, 53, 48, 53, 49, 53, 50, 53, 51, 53, 52, 53, 53, 53, 54, 53, 55, 53, 56, 53, 57, 54, 48, 54, 49, 54, 50, 54, 51, 54, 52, 54, 53, 54, 54, 54, 55, 54, 56, 54, 57, 55, 48, 55, 49, 55, 50, 55, 51, 55, 52, 55, 53, 55, 54, 55, 55, 55, 56, 55, 57, 56, 48, 56, 49, 56, 50, 56, 51, 56, 52, 56, 53, 56, 54, 56, 55, 56, 56, 56, 57, 57, 48, 57, 49, 57, 50, 57, 51, 57, 52, 57, 53, 57, 54, 57, 55, 57, 56, 57, 57]
theorem SM_at {x : Nat} (h : x < 100) : ((SM.getD (2 * x) 0).toNat = 48 + x / 10) ∧ ((SM.getD (2 * x + 1) 0).toNat = 48 + x % 10) := by
 have : ∀ x : Fin 100, ((SM.getD (2 * x.1) 0).toNat = 48 + x.1 / 10) ∧ ((SM.getD (2 * x.1 + 1) 0).toNat = 48 + x.1 % 10) := by decide +kernel
 exact this ⟨x, h⟩
theorem wrap_u32 {n : Int} (h0 : 0 ≤ n) (h1 : n < 4294967296) : IntKind.wrap .u32 n = n := by
  have e : n % (2 ^ 32 : Int) = n := Int.emod_eq_of_lt h0 (by have : (2 : Int) ^ 32 = 4294967296 := by decide
                                                              omega)
  unfold IntKind.wrap
  simp only [IntKind.bits, IntKind.signed, e, Bool.false_and, Bool.false_eq_true, if_false]
theorem lo2 {x : Int} (h0 : 0 ≤ x) (h : x < 100) : ((SM.getD (Int.toNat (IntKind.wrap .u32 (x * 2))) 0).toNat : Int) = 48 + x / 10 := by
 rw [wrap_u32 (by omega) (by omega), show (x * 2).toNat = 2 * x.toNat by omega, (SM_at (show x.toNat < 100 by omega)).1]
 omega
theorem hi2 {x : Int} (h0 : 0 ≤ x) (h : x < 100) : ((SM.getD (Int.toNat (IntKind.wrap .u32 (IntKind.wrap .u32 (x * 2) + 1))) 0).toNat : Int) = 48 + x % 10 := by
 rw [wrap_u32 (n := x * 2) (by omega) (by omega), wrap_u32 (by omega) (by omega), show (x * 2 + 1).toNat = 2 * x.toNat + 1 by omega, (SM_at (show x.toNat < 100 by omega)).2]
 omega
theorem iok1 {x : Int} (h0 : 0 ≤ x) (h : x < 100) : decide ((0 : Int) ≤ IntKind.wrap .u32 (IntKind.wrap .u32 (x * 2) + 1) ∧ IntKind.wrap .u32 (IntKind.wrap .u32 (x * 2) + 1) < 200) = true := by
 rw [wrap_u32 (n := x * 2) (by omega) (by omega), wrap_u32 (by omega) (by omega)]
 exact decide_eq_true (by omega)
theorem ok0 {x : Int} (h0 : 0 ≤ x) (h : x < 100) : decide ((0 : Int) ≤ IntKind.wrap .u32 (x * 2) ∧ IntKind.wrap .u32 (x * 2) < 200) = true := by
 rw [wrap_u32 (by omega) (by omega)]
 exact decide_eq_true (by omega)
set_option maxRecDepth 100000 in
theorem w213_3 (m n j : Nat) (u : Int) (h0 : 100 ≤ u) (h1 : u ≤ 999) : (resume I2 (callN I2 (m+40)) n (j+1) 0 c213 (s213 3 u)).eval = some (.tup [], [(0, .arr (.int .u8) 24 false [D.int .u8 0, .int .u8 (48 + (u / 100) % 10), .int .u8 (48 + (u / 10) % 10), .int .u8 (48 + (u / 1) % 10), D.int .u8 0, D.int .u8 0, D.int .u8 0, D.int .u8 0, D.int .u8 0, D.int .u8 0, D.int .u8 0, D.int .u8 0, D.int .u8 0, D.int .u8 0, D.int .u8 0, D.int .u8 0, D.int .u8 0, D.int .u8 0, D.int .u8 0, D.int .u8 0, D.int .u8 0, D.int .u8 0, D.int .u8 0, D.int .u8 0])]) := by
 have a0 : 0 ≤ u % 100 := by omega
 have a1 : u % 100 < 100 := by omega
 have t1 : Int.tmod u 100 = u % 100 := Int.tmod_eq_emod_of_nonneg (by omega)
 have t2 : Int.tdiv u 100 = u / 100 := Int.tdiv_eq_ediv_of_nonneg (by omega)
 rw [l213_3, wrap_u32 (n := u) (by omega) (by omega), t1, t2, iok1 a0 a1, ok0 a0 a1, lo2 a0 a1, hi2 a0 a1, wrap_u32 (n := u / 100) (by omega) (by omega), wrap_u32 (n := 48 + u / 100) (by omega) (by omega), wrap_u8 (by omega) (by omega), cond_true, cond_true]
 rw [show 48 + u / 100 = 48 + u / 100 % 10 by omega, show 48 + u % 100 / 10 = 48 + u / 10 % 10 by omega, show 48 + u % 100 % 10 = 48 + u / 1 % 10 by omega]
set_option maxRecDepth 100000 in
theorem w213_4 (m n j : Nat) (u : Int) (h0 : 1000 ≤ u) (h1 : u ≤ 9999) : (resume I2 (callN I2 (m+40)) n (j+1) 0 c213 (s213 4 u)).eval = some (.tup [], [(0, .arr (.int .u8) 24 false [D.int .u8 0, .int .u8 (48 + (u / 1000) % 10), .int .u8 (48 + (u / 100) % 10), .int .u8 (48 + (u / 10) % 10), .int .u8 (48 + (u / 1) % 10), D.int .u8 0, D.int .u8 0, D.int .u8 0, D.int .u8 0, D.int .u8 0, D.int .u8 0, D.int .u8 0, D.int .u8 0, D.int .u8 0, D.int .u8 0, D.int .u8 0, D.int .u8 0, D.int .u8 0, D.int .u8 0, D.int .u8 0, D.int .u8 0, D.int .u8 0, D.int .u8 0, D.int .u8 0])]) := by
 have p0 : 0 ≤ u % 10000 := by omega
 have a0 : 0 ≤ u % 10000 % 100 := by omega
 have a1 : u % 10000 % 100 < 100 := by omega
 have b0 : 0 ≤ u % 10000 / 100 := by omega
 have b1 : u % 10000 / 100 < 100 := by omega
 have t1 : Int.tmod u 10000 = u % 10000 := Int.tmod_eq_emod_of_nonneg (by omega)
 have t2 : Int.tmod (u % 10000) 100 = u % 10000 % 100 := Int.tmod_eq_emod_of_nonneg (by omega)
 have t3 : Int.tdiv (u % 10000) 100 = u % 10000 / 100 := Int.tdiv_eq_ediv_of_nonneg (by omega)
 rw [l213_4, wrap_u32 (n := u) (by omega) (by omega), t1, t2, t3, wrap_u32 (n := u % 10000 / 100) (by omega) (by omega), iok1 a0 a1, ok0 a0 a1, iok1 b0 b1, ok0 b0 b1, lo2 a0 a1, hi2 a0 a1, lo2 b0 b1, hi2 b0 b1, cond_true, cond_true, cond_true, cond_true]
 rw [show 48 + u % 10000 / 100 / 10 = 48 + u / 1000 % 10 by omega, show 48 + u % 10000 / 100 % 10 = 48 + u / 100 % 10 by omega, show 48 + u % 10000 % 100 / 10 = 48 + u / 10 % 10 by omega, show 48 + u % 10000 % 100 % 10 = 48 + u / 1 % 10 by omega]
set_option maxRecDepth 100000 in
theorem w213_5 (m n j : Nat) (u : Int) (h0 : 10000 ≤ u) (h1 : u ≤ 99999) : (resume I2 (callN I2 (m+40)) n (j+1) 0 c213 (s213 5 u)).eval = some (.tup [], [(0, .arr (.int .u8) 24 false [D.int .u8 0, .int .u8 (48 + (u / 10000) % 10), .int .u8 (48 + (u / 1000) % 10), .int .u8 (48 + (u / 100) % 10), .int .u8 (48 + (u / 10) % 10), .int .u8 (48 + (u / 1) % 10), D.int .u8 0, D.int .u8 0, D.int .u8 0, D.int .u8 0, D.int .u8 0, D.int .u8 0, D.int .u8 0, D.int .u8 0, D.int .u8 0, D.int .u8 0, D.int .u8 0, D.int .u8 0, D.int .u8 0, D.int .u8 0, D.int .u8 0, D.int .u8 0, D.int .u8 0, D.int .u8 0])]) := by
 have p0 : 0 ≤ u % 10000 := by omega
 have a0 : 0 ≤ u % 10000 % 100 := by omega
 have a1 : u % 10000 % 100 < 100 := by omega
 have b0 : 0 ≤ u % 10000 / 100 := by omega
 have b1 : u % 10000 / 100 < 100 := by omega
 have t1 : Int.tmod u 10000 = u % 10000 := Int.tmod_eq_emod_of_nonneg (by omega)
 have t2 : Int.tmod (u % 10000) 100 = u % 10000 % 100 := Int.tmod_eq_emod_of_nonneg (by omega)
 have t3 : Int.tdiv (u % 10000) 100 = u % 10000 / 100 := Int.tdiv_eq_ediv_of_nonneg (by omega)
 have t4 : Int.tdiv u 10000 = u / 10000 := Int.tdiv_eq_ediv_of_nonneg (by omega)
 rw [l213_5, wrap_u32 (n := u) (by omega) (by omega), t1, t2, t3, wrap_u32 (n := u % 10000 / 100) (by omega) (by omega), iok1 a0 a1, ok0 a0 a1, iok1 b0 b1, ok0 b0 b1, lo2 a0 a1, hi2 a0 a1, lo2 b0 b1, hi2 b0 b1, t4, wrap_u32 (n := u / 10000) (by omega) (by omega), wrap_u32 (n := 48 + u / 10000) (by omega) (by omega), wrap_u8 (by omega) (by omega), cond_true, cond_true, cond_true, cond_true]
 rw [show 48 + u / 10000 = 48 + u / 10000 % 10 by omega, show 48 + u % 10000 / 100 / 10 = 48 + u / 1000 % 10 by omega, show 48 + u % 10000 / 100 % 10 = 48 + u / 100 % 10 by omega, show 48 + u % 10000 % 100 / 10 = 48 + u / 10 % 10 by omega, show 48 + u % 10000 % 100 % 10 = 48 + u / 1 % 10 by omega]
set_option maxRecDepth 100000 in
theorem w213_6 (m n j : Nat) (u : Int) (h0 : 100000 ≤ u) (h1 : u ≤ 999999) : (resume I2 (callN I2 (m+40)) n (j+1) 0 c213 (s213 6 u)).eval = some (.tup [], [(0, .arr (.int .u8) 24 false [D.int .u8 0, .int .u8 (48 + (u / 100000) % 10), .int .u8 (48 + (u / 10000) % 10), .int .u8 (48 + (u / 1000) % 10), .int .u8 (48 + (u / 100) % 10), .int .u8 (48 + (u / 10) % 10), .int .u8 (48 + (u / 1) % 10), D.int .u8 0, D.int .u8 0, D.int .u8 0, D.int .u8 0, D.int .u8 0, D.int .u8 0, D.int .u8 0, D.int .u8 0, D.int .u8 0, D.int .u8 0, D.int .u8 0, D.int .u8 0, D.int .u8 0, D.int .u8 0, D.int .u8 0, D.int .u8 0, D.int .u8 0])]) := by
 have p0 : 0 ≤ u % 10000 := by omega
 have a0 : 0 ≤ u % 10000 % 100 := by omega
 have a1 : u % 10000 % 100 < 100 := by omega
 have b0 : 0 ≤ u % 10000 / 100 := by omega
 have b1 : u % 10000 / 100 < 100 := by omega
 have t1 : Int.tmod u 10000 = u % 10000 := Int.tmod_eq_emod_of_nonneg (by omega)
 have t2 : Int.tmod (u % 10000) 100 = u % 10000 % 100 := Int.tmod_eq_emod_of_nonneg (by omega)
 have t3 : Int.tdiv (u % 10000) 100 = u % 10000 / 100 := Int.tdiv_eq_ediv_of_nonneg (by omega)
 have t4 : Int.tdiv u 10000 = u / 10000 := Int.tdiv_eq_ediv_of_nonneg (by omega)
 have t5 : Int.tmod (u / 10000) 100 = u / 10000 % 100 := Int.tmod_eq_emod_of_nonneg (by omega)
 have c0 : 0 ≤ u / 10000 % 100 := by omega
 have c1 : u / 10000 % 100 < 100 := by omega
 rw [l213_6, wrap_u32 (n := u) (by omega) (by omega), t1, t2, t3, wrap_u32 (n := u % 10000 / 100) (by omega) (by omega), iok1 a0 a1, ok0 a0 a1, iok1 b0 b1, ok0 b0 b1, lo2 a0 a1, hi2 a0 a1, lo2 b0 b1, hi2 b0 b1, t4, wrap_u32 (n := u / 10000) (by omega) (by omega), t5, iok1 c0 c1, ok0 c0 c1, lo2 c0 c1, hi2 c0 c1, cond_true, cond_true, cond_true, cond_true, cond_true, cond_true]
 rw [show 48 + u / 10000 % 100 / 10 = 48 + u / 100000 % 10 by omega, show 48 + u / 10000 % 100 % 10 = 48 + u / 10000 % 10 by omega, show 48 + u % 10000 / 100 / 10 = 48 + u / 1000 % 10 by omega, show 48 + u % 10000 / 100 % 10 = 48 + u / 100 % 10 by omega, show 48 + u % 10000 % 100 / 10 = 48 + u / 10 % 10 by omega, show 48 + u % 10000 % 100 % 10 = 48 + u / 1 % 10 by omega]
def ZZ24 : List D := [D.int .u8 0, D.int .u8 0, D.int .u8 0, D.int .u8 0, D.int .u8 0, D.int .u8 0, D.int .u8 0, D.int .u8 0, D.int .u8 0, D.int .u8 0, D.int .u8 0, D.int .u8 0, D.int .u8 0, D.int .u8 0, D.int .u8 0, D.int .u8 0, D.int .u8 0, D.int .u8 0, D.int .u8 0, D.int .u8 0, D.int .u8 0, D.int .u8 0, D.int .u8 0, D.int .u8 0]
def W3 (u : Int) : List D := [D.int .u8 0, .int .u8 (48 + (u / 100) % 10), .int .u8 (48 + (u / 10) % 10), .int .u8 (48 + (u / 1) % 10), D.int .u8 0, D.int .u8 0, D.int .u8 0, D.int .u8 0, D.int .u8 0, D.int .u8 0, D.int .u8 0, D.int .u8 0, D.int .u8 0, D.int .u8 0, D.int .u8 0, D.int .u8 0, D.int .u8 0, D.int .u8 0, D.int .u8 0, D.int .u8 0, D.int .u8 0, D.int .u8 0, D.int .u8 0, D.int .u8 0]
def W4 (u : Int) : List D := [D.int .u8 0, .int .u8 (48 + (u / 1000) % 10), .int .u8 (48 + (u / 100) % 10), .int .u8 (48 + (u / 10) % 10), .int .u8 (48 + (u / 1) % 10), D.int .u8 0, D.int .u8 0, D.int .u8 0, D.int .u8 0, D.int .u8 0, D.int .u8 0, D.int .u8 0, D.int .u8 0, D.int .u8 0, D.int .u8 0, D.int .u8 0, D.int .u8 0, D.int .u8 0, D.int .u8 0, D.int .u8 0, D.int .u8 0, D.int .u8 0, D.int .u8 0, D.int .u8 0]
def W5 (u : Int) : List D := [D.int .u8 0, .int .u8 (48 + (u / 10000) % 10), .int .u8 (48 + (u / 1000) % 10), .int .u8 (48 + (u / 100) % 10), .int .u8 (48 + (u / 10) % 10), .int .u8 (48 + (u / 1) % 10), D.int .u8 0, D.int .u8 0, D.int .u8 0, D.int .u8 0, D.int .u8 0, D.int .u8 0, D.int .u8 0, D.int .u8 0, D.int .u8 0, D.int .u8 0, D.int .u8 0, D.int .u8 0, D.int .u8 0, D.int .u8 0, D.int .u8 0, D.int .u8 0, D.int .u8 0, D.int .u8 0]
def W6 (u : Int) : List D := [D.int .u8 0, .int .u8 (48 + (u / 100000) % 10), .int .u8 (48 + (u / 10000) % 10), .int .u8 (48 + (u / 1000) % 10), .int .u8 (48 + (u / 100) % 10), .int .u8 (48 + (u / 10) % 10), .int .u8 (48 + (u / 1) % 10), D.int .u8 0, D.int .u8 0, D.int .u8 0, D.int .u8 0, D.int .u8 0, D.int .u8 0, D.int .u8 0, D.int .u8 0, D.int .u8 0, D.int .u8 0, D.int .u8 0, D.int .u8 0, D.int .u8 0, D.int .u8 0, D.int .u8 0, D.int .u8 0, D.int .u8 0]
def C213 (args : List V) (ob : Obs) : Tree (V × Obs) :=
 match args, ob with
 | [.sla o lo n, .d (.int .u64 u)], [(k, .arr e m fz es)] => match Nat.beq o 0 && (Nat.beq lo 1 && (Nat.beq k 0 && (Sh.beq e (.int .u8) && (Nat.beq m 24 && (!fz && D.eqbL es ZZ24))))) with
  | true => match Nat.beq n 3 with
   | true => .ite (decide (100 ≤ u) && decide (u ≤ 999)) (fun _ => .ret (.tup [], [(0, .arr (.int .u8) 24 false (W3 u))])) (fun _ => .stuck)
   | false => match Nat.beq n 4 with
    | true => .ite (decide (1000 ≤ u) && decide (u ≤ 9999)) (fun _ => .ret (.tup [], [(0, .arr (.int .u8) 24 false (W4 u))])) (fun _ => .stuck)
    | false => match Nat.beq n 5 with
     | true => .ite (decide (10000 ≤ u) && decide (u ≤ 99999)) (fun _ => .ret (.tup [], [(0, .arr (.int .u8) 24 false (W5 u))])) (fun _ => .stuck)
     | false => match Nat.beq n 6 with
      | true => .ite (decide (100000 ≤ u) && decide (u ≤ 999999)) (fun _ => .ret (.tup [], [(0, .arr (.int .u8) 24 false (W6 u))])) (fun _ => .stuck)
      | false => .stuck
  | false => .stuck
 | _, _ => .stuck
theorem fn213 {P : Program} (hm : P.follows .mixedOrders = true) (h0 : EnvOK P I2) : FnOK P 213 C213 := FnOK.run hm h0 fun args ob r h => by
 unfold C213 at h
 split at h
 ·rename_i o lo n u k e m fz es
  split at h
  ·rename_i hb
   simp only [Bool.and_eq_true, Bool.not_eq_true'] at hb
   obtain ⟨h1, h2, h3, h4, h5, h6, h7⟩ := hb
   have h1 := Nat.eq_of_beq_eq_true h1
   have h2 := Nat.eq_of_beq_eq_true h2
   have h3 := Nat.eq_of_beq_eq_true h3
   have h4 := Sh.beq_eq h4
   have h5 := Nat.eq_of_beq_eq_true h5
   have h7 := D.eqbL_eq _ _ h7
   subst h1 h2 h3 h4 h5 h6 h7
   refine ⟨59 + 1, ?_⟩
   rw [callN_succ (fn := c213) rfl]
   split at h
   ·rename_i hn
    have hn := Nat.eq_of_beq_eq_true hn
    subst hn
    obtain ⟨hg, h⟩ := eval_guard h
    simp only [Bool.and_eq_true, decide_eq_true_eq] at hg
    cases h
    exact (j213_3 19 59 u).trans (w213_3 19 59 58 u hg.1 hg.2)
   split at h
   ·rename_i hn
    have hn := Nat.eq_of_beq_eq_true hn
    subst hn
    obtain ⟨hg, h⟩ := eval_guard h
    simp only [Bool.and_eq_true, decide_eq_true_eq] at hg
    cases h
    exact (j213_4 19 59 u).trans (w213_4 19 59 58 u hg.1 hg.2)
   split at h
   ·rename_i hn
    have hn := Nat.eq_of_beq_eq_true hn
    subst hn
    obtain ⟨hg, h⟩ := eval_guard h
    simp only [Bool.and_eq_true, decide_eq_true_eq] at hg
    cases h
    exact (j213_5 19 59 u).trans (w213_5 19 59 58 u hg.1 hg.2)
   split at h
   ·rename_i hn
    have hn := Nat.eq_of_beq_eq_true hn
    subst hn
    obtain ⟨hg, h⟩ := eval_guard h
    simp only [Bool.and_eq_true, decide_eq_true_eq] at hg
    cases h
    exact (j213_6 19 59 u).trans (w213_6 19 59 58 u hg.1 hg.2)
   cases h
  ·cases h
 ·cases h
def I3 : Env := I2.genAt 213 C213
theorem i175 (m n : Nat) (u : Int) : Tree.out (enterM I3 (callN I3 (m+40)) n c175 [.d (.int .i64 u), .d (.int .i64 10)] []) = bif decide (0 ≤ u) then bif decide (u < 100) then bif decide (u < 10) then bif decide (0 ≤ IntKind.wrap .i64 (u + 1) ∧ IntKind.wrap .i64 (u + 1) ≤ 36) then bif decide (0 ≤ u ∧ u ≤ IntKind.wrap .i64 (u + 1)) then some [D.str (List.take (Int.toNat (IntKind.wrap .i64 (u + 1)) - u.toNat) (List.drop (u.toNat) [48, 49, 50, 51, 52, 53, 54, 55, 56, 57, 97, 98, 99, 100, 101, 102, 103, 104, 105, 106, 107, 108, 109, 110, 111, 112, 113, 114, 115, 116, 117, 118, 119, 120, 121, 122]))] else none else none else bif decide (0 ≤ IntKind.wrap .i64 (IntKind.wrap .i64 (u * 2) + 2) ∧ IntKind.wrap .i64 (IntKind.wrap .i64 (u * 2) + 2) ≤ 200) then bif decide (0 ≤ IntKind.wrap .i64 (u * 2) ∧ IntKind.wrap .i64 (u * 2) ≤ IntKind.wrap .i64 (IntKind.wrap .i64 (u * 2) + 2)) then some [D.str (List.take (Int.toNat (IntKind.wrap .i64 (IntKind.wrap .i64 (u * 2) + 2)) - Int.toNat (IntKind.wrap .i64 (u * 2))) (List.drop (Int.toNat (IntKind.wrap .i64 (u * 2))) [48, 48, 48, 49, 48, 50, 48, 51, 48, 52, 48, 53, 48, 54, 48, 55, 48, 56, 48, 57, 49, 48, 49, 49, 49, 50, 49, 51, 49, 52, 49, 53, 49, 54, 49, 55, 49, 56, 49, 57, 50, 48, 50, 49, 50, 50, 50, 51, 50, 52, 50, 53, 50, 54, 50, 55, 50, 56, 50, 57, 51, 48, 51, 49, 51, 50, 51, 51, 51, 52, 51, 53, 51, 54, 51, 55, 51, 56, 51, 57, 52, 48, 52, 49, 52, 50, 52, 51, 52, 52, 52, 53, 52, 54, 52, 55, 52, 56, 52, 57, 53, 48, 53, 49, 53, 50, 53, 51, 53, 52, 53, 53, 53, 54, 53, 55, 53, 56, 53, 57, 54, 48, 54, 49, 54, 50, 54, 51, 54, 52, 54, 53, 54, 54, 54, 55, 54, 56, 54, 57, 55, 48, 55, 49, 55, 50, 55, 51, 55, 52, 55, 53, 55, 54, 55, 55, 55, 56, 55, 57, 56, 48, 56, 49, 56, 50, 56, 51, 56, 52, 56, 53, 56, 54, 56, 55, 56, 56, 56, 57, 57, 48, 57, 49, 57, 50, 57, 51, 57, 52, 57, 53, 57, 54, 57, 55, 57, 56, 57, 57]))] else none else none else bif decide (u < 0) then bif decide (100 ≤ IntKind.wrap .u64 (0 - IntKind.wrap .u64 u)) && decide (IntKind.wrap .u64 (0 - IntKind.wrap .u64 u) ≤ 999999) then bif decide (IntKind.wrap .u64 (0 - IntKind.wrap .u64 u) < 1000) then bif decide (100 ≤ IntKind.wrap .u64 (0 - IntKind.wrap .u64 u)) && decide (IntKind.wrap .u64 (0 - IntKind.wrap .u64 u) ≤ 999) then bif decide (u < 0) then some [D.str [UInt8.ofNat 45, UInt8.ofNat (Int.toNat (48 + IntKind.wrap .u64 (0 - IntKind.wrap .u64 u) / 100 % 10)), UInt8.ofNat (Int.toNat (48 + IntKind.wrap .u64 (0 - IntKind.wrap .u64 u) / 10 % 10)), UInt8.ofNat (Int.toNat (48 + IntKind.wrap .u64 (0 - IntKind.wrap .u64 u) / 1 % 10))]] else some [D.str [UInt8.ofNat (Int.toNat (48 + IntKind.wrap .u64 (0 - IntKind.wrap .u64 u) / 100 % 10)), UInt8.ofNat (Int.toNat (48 + IntKind.wrap .u64 (0 - IntKind.wrap .u64 u) / 10 % 10)), UInt8.ofNat (Int.toNat (48 + IntKind.wrap .u64 (0 - IntKind.wrap .u64 u) / 1 % 10))]] else none else bif decide (IntKind.wrap .u64 (0 - IntKind.wrap .u64 u) < 10000) then bif decide (1000 ≤ IntKind.wrap .u64 (0 - IntKind.wrap .u64 u)) && decide (IntKind.wrap .u64 (0 - IntKind.wrap .u64 u) ≤ 9999) then bif decide (u < 0) then some [D.str [UInt8.ofNat 45, UInt8.ofNat (Int.toNat (48 + IntKind.wrap .u64 (0 - IntKind.wrap .u64 u) / 1000 % 10)), UInt8.ofNat (Int.toNat (48 + IntKind.wrap .u64 (0 - IntKind.wrap .u64 u) / 100 % 10)), UInt8.ofNat (Int.toNat (48 + IntKind.wrap .u64 (0 - IntKind.wrap .u64 u) / 10 % 10)), UInt8.ofNat (Int.toNat (48 + IntKind.wrap .u64 (0 - IntKind.wrap .u64 u) / 1 % 10))]] else some [D.str [UInt8.ofNat (Int.toNat (48 + IntKind.wrap .u64 (0 - IntKind.wrap .u64 u) / 1000 % 10)), UInt8.ofNat (Int.toNat (48 + IntKind.wrap .u64 (0 - IntKind.wrap .u64 u) / 100 % 10)), UInt8.ofNat (Int.toNat (48 + IntKind.wrap .u64 (0 - IntKind.wrap .u64 u) / 10 % 10)), UInt8.ofNat (Int.toNat (48 + IntKind.wrap .u64 (0 - IntKind.wrap .u64 u) / 1 % 10))]] else none else bif decide (IntKind.wrap .u64 (0 - IntKind.wrap .u64 u) < 100000) then bif decide (10000 ≤ IntKind.wrap .u64 (0 - IntKind.wrap .u64 u)) && decide (IntKind.wrap .u64 (0 - IntKind.wrap .u64 u) ≤ 99999) then bif decide (u < 0) then some [D.str [UInt8.ofNat 45, UInt8.ofNat (Int.toNat (48 + IntKind.wrap .u64 (0 - IntKind.wrap .u64 u) / 10000 % 10)), UInt8.ofNat (Int.toNat (48 + IntKind.wrap .u64 (0 - IntKind.wrap .u64 u) / 1000 % 10)), UInt8.ofNat (Int.toNat (48 + IntKind.wrap .u64 (0 - IntKind.wrap .u64 u) / 100 % 10)), UInt8.ofNat (Int.toNat (48 + IntKind.wrap .u64 (0 - IntKind.wrap .u64 u) / 10 % 10)), UInt8.ofNat (Int.toNat (48 + IntKind.wrap .u64 (0 - IntKind.wrap .u64 u) / 1 % 10))]] else some [D.str [UInt8.ofNat (Int.toNat (48 + IntKind.wrap .u64 (0 - IntKind.wrap .u64 u) / 10000 % 10)), UInt8.ofNat (Int.toNat (48 + IntKind.wrap .u64 (0 - IntKind.wrap .u64 u) / 1000 % 10)), UInt8.ofNat (Int.toNat (48 + IntKind.wrap .u64 (0 - IntKind.wrap .u64 u) / 100 % 10)), UInt8.ofNat (Int.toNat (48 + IntKind.wrap .u64 (0 - IntKind.wrap .u64 u) / 10 % 10)), UInt8.ofNat (Int.toNat (48 + IntKind.wrap .u64 (0 - IntKind.wrap .u64 u) / 1 % 10))]] else none else bif decide (100000 ≤ IntKind.wrap .u64 (0 - IntKind.wrap .u64 u)) && decide (IntKind.wrap .u64 (0 - IntKind.wrap .u64 u) ≤ 999999) then bif decide (u < 0) then some [D.str [UInt8.ofNat 45, UInt8.ofNat (Int.toNat (48 + IntKind.wrap .u64 (0 - IntKind.wrap .u64 u) / 100000 % 10)), UInt8.ofNat (Int.toNat (48 + IntKind.wrap .u64 (0 - IntKind.wrap .u64 u) / 10000 % 10)), UInt8.ofNat (Int.toNat (48 + IntKind.wrap .u64 (0 - IntKind.wrap .u64 u) / 1000 % 10)), UInt8.ofNat (Int.toNat (48 + IntKind.wrap .u64 (0 - IntKind.wrap .u64 u) / 100 % 10)), UInt8.ofNat (Int.toNat (48 + IntKind.wrap .u64 (0 - IntKind.wrap .u64 u) / 10 % 10)), UInt8.ofNat (Int.toNat (48 + IntKind.wrap .u64 (0 - IntKind.wrap .u64 u) / 1 % 10))]] else some [D.str [UInt8.ofNat (Int.toNat (48 + IntKind.wrap .u64 (0 - IntKind.wrap .u64 u) / 100000 % 10)), UInt8.ofNat (Int.toNat (48 + IntKind.wrap .u64 (0 - IntKind.wrap .u64 u) / 10000 % 10)), UInt8.ofNat (Int.toNat (48 + IntKind.wrap .u64 (0 - IntKind.wrap .u64 u) / 1000 % 10)), UInt8.ofNat (Int.toNat (48 + IntKind.wrap .u64 (0 - IntKind.wrap .u64 u) / 100 % 10)), UInt8.ofNat (Int.toNat (48 + IntKind.wrap .u64 (0 - IntKind.wrap .u64 u) / 10 % 10)), UInt8.ofNat (Int.toNat (48 + IntKind.wrap .u64 (0 - IntKind.wrap .u64 u) / 1 % 10))]] else none else none else bif decide (100 ≤ IntKind.wrap .u64 u) && decide (IntKind.wrap .u64 u ≤ 999999) then bif decide (IntKind.wrap .u64 u < 1000) then bif decide (100 ≤ IntKind.wrap .u64 u) && decide (IntKind.wrap .u64 u ≤ 999) then bif decide (u < 0) then some [D.str [UInt8.ofNat 45, UInt8.ofNat (Int.toNat (48 + IntKind.wrap .u64 u / 100 % 10)), UInt8.ofNat (Int.toNat (48 + IntKind.wrap .u64 u / 10 % 10)), UInt8.ofNat (Int.toNat (48 + IntKind.wrap .u64 u / 1 % 10))]] else some [D.str [UInt8.ofNat (Int.toNat (48 + IntKind.wrap .u64 u / 100 % 10)), UInt8.ofNat (Int.toNat (48 + IntKind.wrap .u64 u / 10 % 10)), UInt8.ofNat (Int.toNat (48 + IntKind.wrap .u64 u / 1 % 10))]] else none else bif decide (IntKind.wrap .u64 u < 10000) then bif decide (1000 ≤ IntKind.wrap .u64 u) && decide (IntKind.wrap .u64 u ≤ 9999) then bif decide (u < 0) then some [D.str [UInt8.ofNat 45, UInt8.ofNat (Int.toNat (48 + IntKind.wrap .u64 u / 1000 % 10)), UInt8.ofNat (Int.toNat (48 + IntKind.wrap .u64 u / 100 % 10)), UInt8.ofNat (Int.toNat (48 + IntKind.wrap .u64 u / 10 % 10)), UInt8.ofNat (Int.toNat (48 + IntKind.wrap .u64 u / 1 % 10))]] else some [D.str [UInt8.ofNat (Int.toNat (48 + IntKind.wrap .u64 u / 1000 % 10)), UInt8.ofNat (Int.toNat (48 + IntKind.wrap .u64 u / 100 % 10)), UInt8.ofNat (Int.toNat (48 + IntKind.wrap .u64 u / 10 % 10)), UInt8.ofNat (Int.toNat (48 + IntKind.wrap .u64 u / 1 % 10))]] else none else bif decide (IntKind.wrap .u64 u < 100000) then bif decide (10000 ≤ IntKind.wrap .u64 u) && decide (IntKind.wrap .u64 u ≤ 99999) then bif decide (u < 0) then some [D.str [UInt8.ofNat 45, UInt8.ofNat (Int.toNat (48 + IntKind.wrap .u64 u / 10000 % 10)), UInt8.ofNat (Int.toNat (48 + IntKind.wrap .u64 u / 1000 % 10)), UInt8.ofNat (Int.toNat (48 + IntKind.wrap .u64 u / 100 % 10)), UInt8.ofNat (Int.toNat (48 + IntKind.wrap .u64 u / 10 % 10)), UInt8.ofNat (Int.toNat (48 + IntKind.wrap .u64 u / 1 % 10))]] else some [D.str [UInt8.ofNat (Int.toNat (48 + IntKind.wrap .u64 u / 10000 % 10)), UInt8.ofNat (Int.toNat (48 + IntKind.wrap .u64 u / 1000 % 10)), UInt8.ofNat (Int.toNat (48 + IntKind.wrap .u64 u / 100 % 10)), UInt8.ofNat (Int.toNat (48 + IntKind.wrap .u64 u / 10 % 10)), UInt8.ofNat (Int.toNat (48 + IntKind.wrap .u64 u / 1 % 10))]] else none else bif decide (100000 ≤ IntKind.wrap .u64 u) && decide (IntKind.wrap .u64 u ≤ 999999) then bif decide (u < 0) then some [D.str [UInt8.ofNat 45, UInt8.ofNat (Int.toNat (48 + IntKind.wrap .u64 u / 100000 % 10)), UInt8.ofNat (Int.toNat (48 + IntKind.wrap .u64 u / 10000 % 10)), UInt8.ofNat (Int.toNat (48 + IntKind.wrap .u64 u / 1000 % 10)), UInt8.ofNat (Int.toNat (48 + IntKind.wrap .u64 u / 100 % 10)), UInt8.ofNat (Int.toNat (48 + IntKind.wrap .u64 u / 10 % 10)), UInt8.ofNat (Int.toNat (48 + IntKind.wrap .u64 u / 1 % 10))]] else some [D.str [UInt8.ofNat (Int.toNat (48 + IntKind.wrap .u64 u / 100000 % 10)), UInt8.ofNat (Int.toNat (48 + IntKind.wrap .u64 u / 10000 % 10)), UInt8.ofNat (Int.toNat (48 + IntKind.wrap .u64 u / 1000 % 10)), UInt8.ofNat (Int.toNat (48 + IntKind.wrap .u64 u / 100 % 10)), UInt8.ofNat (Int.toNat (48 + IntKind.wrap .u64 u / 10 % 10)), UInt8.ofNat (Int.toNat (48 + IntKind.wrap .u64 u / 1 % 10))]] else none else none else bif decide (u < 0) then bif decide (100 ≤ IntKind.wrap .u64 (0 - IntKind.wrap .u64 u)) && decide (IntKind.wrap .u64 (0 - IntKind.wrap .u64 u) ≤ 999999) then bif decide (IntKind.wrap .u64 (0 - IntKind.wrap .u64 u) < 1000) then bif decide (100 ≤ IntKind.wrap .u64 (0 - IntKind.wrap .u64 u)) && decide (IntKind.wrap .u64 (0 - IntKind.wrap .u64 u) ≤ 999) then bif decide (u < 0) then some [D.str [UInt8.ofNat 45, UInt8.ofNat (Int.toNat (48 + IntKind.wrap .u64 (0 - IntKind.wrap .u64 u) / 100 % 10)), UInt8.ofNat (Int.toNat (48 + IntKind.wrap .u64 (0 - IntKind.wrap .u64 u) / 10 % 10)), UInt8.ofNat (Int.toNat (48 + IntKind.wrap .u64 (0 - IntKind.wrap .u64 u) / 1 % 10))]] else some [D.str [UInt8.ofNat (Int.toNat (48 + IntKind.wrap .u64 (0 - IntKind.wrap .u64 u) / 100 % 10)), UInt8.ofNat (Int.toNat (48 + IntKind.wrap .u64 (0 - IntKind.wrap .u64 u) / 10 % 10)), UInt8.ofNat (Int.toNat (48 + IntKind.wrap .u64 (0 - IntKind.wrap .u64 u) / 1 % 10))]] else none else bif decide (IntKind.wrap .u64 (0 - IntKind.wrap .u64 u) < 10000) then bif decide (1000 ≤ IntKind.wrap .u64 (0 - IntKind.wrap .u64 u)) && decide (IntKind.wrap .u64 (0 - IntKind.wrap .u64 u) ≤ 9999) then bif decide (u < 0) then some [D.str [UInt8.ofNat 45, UInt8.ofNat (Int.toNat (48 + IntKind.wrap .u64 (0 - IntKind.wrap .u64 u) / 1000 % 10)), UInt8.ofNat (Int.toNat (48 + IntKind.wrap .u64 (0 - IntKind.wrap .u64 u) / 100 % 10)), UInt8.ofNat (Int.toNat (48 + IntKind.wrap .u64 (0 - IntKind.wrap .u64 u) / 10 % 10)), UInt8.ofNat (Int.toNat (48 + IntKind.wrap .u64 (0 - IntKind.wrap .u64 u) / 1 % 10))]] else some [D.str [UInt8.ofNat (Int.toNat (48 + IntKind.wrap .u64 (0 - IntKind.wrap .u64 u) / 1000 % 10)), UInt8.ofNat (Int.toNat (48 + IntKind.wrap .u64 (0 - IntKind.wrap .u64 u) / 100 % 10)), UInt8.ofNat (Int.toNat (48 + IntKind.wrap .u64 (0 - IntKind.wrap .u64 u) / 10 % 10)), UInt8.ofNat (Int.toNat (48 + IntKind.wrap .u64 (0 - IntKind.wrap .u64 u) / 1 % 10))]] else none else bif decide (IntKind.wrap .u64 (0 - IntKind.wrap .u64 u) < 100000) then bif decide (10000 ≤ IntKind.wrap .u64 (0 - IntKind.wrap .u64 u)) && decide (IntKind.wrap .u64 (0 - IntKind.wrap .u64 u) ≤ 99999) then bif decide (u < 0) then some [D.str [UInt8.ofNat 45, UInt8.ofNat (Int.toNat (48 + IntKind.wrap .u64 (0 - IntKind.wrap .u64 u) / 10000 % 10)), UInt8.ofNat (Int.toNat (48 + IntKind.wrap .u64 (0 - IntKind.wrap .u64 u) / 1000 % 10)), UInt8.ofNat (Int.toNat (48 + IntKind.wrap .u64 (0 - IntKind.wrap .u64 u) / 100 % 10)), UInt8.ofNat (Int.toNat (48 + IntKind.wrap .u64 (0 - IntKind.wrap .u64 u) / 10 % 10)), UInt8.ofNat (Int.toNat (48 + IntKind.wrap .u64 (0 - IntKind.wrap .u64 u) / 1 % 10))]] else some [D.str [UInt8.ofNat (Int.toNat (48 + IntKind.wrap .u64 (0 - IntKind.wrap .u64 u) / 10000 % 10)), UInt8.ofNat (Int.toNat (48 + IntKind.wrap .u64 (0 - IntKind.wrap .u64 u) / 1000 % 10)), UInt8.ofNat (Int.toNat (48 + IntKind.wrap .u64 (0 - IntKind.wrap .u64 u) / 100 % 10)), UInt8.ofNat (Int.toNat (48 + IntKind.wrap .u64 (0 - IntKind.wrap .u64 u) / 10 % 10)), UInt8.ofNat (Int.toNat (48 + IntKind.wrap .u64 (0 - IntKind.wrap .u64 u) / 1 % 10))]] else none else bif decide (100000 ≤ IntKind.wrap .u64 (0 - IntKind.wrap .u64 u)) && decide (IntKind.wrap .u64 (0 - IntKind.wrap .u64 u) ≤ 999999) then bif decide (u < 0) then some [D.str [UInt8.ofNat 45, UInt8.ofNat (Int.toNat (48 + IntKind.wrap .u64 (0 - IntKind.wrap .u64 u) / 100000 % 10)), UInt8.ofNat (Int.toNat (48 + IntKind.wrap .u64 (0 - IntKind.wrap .u64 u) / 10000 % 10)), UInt8.ofNat (Int.toNat (48 + IntKind.wrap .u64 (0 - IntKind.wrap .u64 u) / 1000 % 10)), UInt8.ofNat (Int.toNat (48 + IntKind.wrap .u64 (0 - IntKind.wrap .u64 u) / 100 % 10)), UInt8.ofNat (Int.toNat (48 + IntKind.wrap .u64 (0 - IntKind.wrap .u64 u) / 10 % 10)), UInt8.ofNat (Int.toNat (48 + IntKind.wrap .u64 (0 - IntKind.wrap .u64 u) / 1 % 10))]] else some [D.str [UInt8.ofNat (Int.toNat (48 + IntKind.wrap .u64 (0 - IntKind.wrap .u64 u) / 100000 % 10)), UInt8.ofNat (Int.toNat (48 + IntKind.wrap .u64 (0 - IntKind.wrap .u64 u) / 10000 % 10)), UInt8.ofNat (Int.toNat (48 + IntKind.wrap .u64 (0 - IntKind.wrap .u64 u) / 1000 % 10)), UInt8.ofNat (Int.toNat (48 + IntKind.wrap .u64 (0 - IntKind.wrap .u64 u) / 100 % 10)), UInt8.ofNat (Int.toNat (48 + IntKind.wrap .u64 (0 - IntKind.wrap .u64 u) / 10 % 10)), UInt8.ofNat (Int.toNat (48 + IntKind.wrap .u64 (0 - IntKind.wrap .u64 u) / 1 % 10))]] else none else none else bif decide (100 ≤ IntKind.wrap .u64 u) && decide (IntKind.wrap .u64 u ≤ 999999) then bif decide (IntKind.wrap .u64 u < 1000) then bif decide (100 ≤ IntKind.wrap .u64 u) && decide (IntKind.wrap .u64 u ≤ 999) then bif decide (u < 0) then some [D.str [UInt8.ofNat 45, UInt8.ofNat (Int.toNat (48 + IntKind.wrap .u64 u / 100 % 10)), UInt8.ofNat (Int.toNat (48 + IntKind.wrap .u64 u / 10 % 10)), UInt8.ofNat (Int.toNat (48 + IntKind.wrap .u64 u / 1 % 10))]] else some [D.str [UInt8.ofNat (Int.toNat (48 + IntKind.wrap .u64 u / 100 % 10)), UInt8.ofNat (Int.toNat (48 + IntKind.wrap .u64 u / 10 % 10)), UInt8.ofNat (Int.toNat (48 + IntKind.wrap .u64 u / 1 % 10))]] else none else bif decide (IntKind.wrap .u64 u < 10000) then bif decide (1000 ≤ IntKind.wrap .u64 u) && decide (IntKind.wrap .u64 u ≤ 9999) then bif decide (u < 0) then some [D.str [UInt8.ofNat 45, UInt8.ofNat (Int.toNat (48 + IntKind.wrap .u64 u / 1000 % 10)), UInt8.ofNat (Int.toNat (48 + IntKind.wrap .u64 u / 100 % 10)), UInt8.ofNat (Int.toNat (48 + IntKind.wrap .u64 u / 10 % 10)), UInt8.ofNat (Int.toNat (48 + IntKind.wrap .u64 u / 1 % 10))]] else some [D.str [UInt8.ofNat (Int.toNat (48 + IntKind.wrap .u64 u / 1000 % 10)), UInt8.ofNat (Int.toNat (48 + IntKind.wrap .u64 u / 100 % 10)), UInt8.ofNat (Int.toNat (48 + IntKind.wrap .u64 u / 10 % 10)), UInt8.ofNat (Int.toNat (48 + IntKind.wrap .u64 u / 1 % 10))]] else none else bif decide (IntKind.wrap .u64 u < 100000) then bif decide (10000 ≤ IntKind.wrap .u64 u) && decide (IntKind.wrap .u64 u ≤ 99999) then bif decide (u < 0) then some [D.str [UInt8.ofNat 45, UInt8.ofNat (Int.toNat (48 + IntKind.wrap .u64 u / 10000 % 10)), UInt8.ofNat (Int.toNat (48 + IntKind.wrap .u64 u / 1000 % 10)), UInt8.ofNat (Int.toNat (48 + IntKind.wrap .u64 u / 100 % 10)), UInt8.ofNat (Int.toNat (48 + IntKind.wrap .u64 u / 10 % 10)), UInt8.ofNat (Int.toNat (48 + IntKind.wrap .u64 u / 1 % 10))]] else some [D.str [UInt8.ofNat (Int.toNat (48 + IntKind.wrap .u64 u / 10000 % 10)), UInt8.ofNat (Int.toNat (48 + IntKind.wrap .u64 u / 1000 % 10)), UInt8.ofNat (Int.toNat (48 + IntKind.wrap .u64 u / 100 % 10)), UInt8.ofNat (Int.toNat (48 + IntKind.wrap .u64 u / 10 % 10)), UInt8.ofNat (Int.toNat (48 + IntKind.wrap .u64 u / 1 % 10))]] else none else bif decide (100000 ≤ IntKind.wrap .u64 u) && decide (IntKind.wrap .u64 u ≤ 999999) then bif decide (u < 0) then some [D.str [UInt8.ofNat 45, UInt8.ofNat (Int.toNat (48 + IntKind.wrap .u64 u / 100000 % 10)), UInt8.ofNat (Int.toNat (48 + IntKind.wrap .u64 u / 10000 % 10)), UInt8.ofNat (Int.toNat (48 + IntKind.wrap .u64 u / 1000 % 10)), UInt8.ofNat (Int.toNat (48 + IntKind.wrap .u64 u / 100 % 10)), UInt8.ofNat (Int.toNat (48 + IntKind.wrap .u64 u / 10 % 10)), UInt8.ofNat (Int.toNat (48 + IntKind.wrap .u64 u / 1 % 10))]] else some [D.str [UInt8.ofNat (Int.toNat (48 + IntKind.wrap .u64 u / 100000 % 10)), UInt8.ofNat (Int.toNat (48 + IntKind.wrap .u64 u / 10000 % 10)), UInt8.ofNat (Int.toNat (48 + IntKind.wrap .u64 u / 1000 % 10)), UInt8.ofNat (Int.toNat (48 + IntKind.wrap .u64 u / 100 % 10)), UInt8.ofNat (Int.toNat (48 + IntKind.wrap .u64 u / 10 % 10)), UInt8.ofNat (Int.toNat (48 + IntKind.wrap .u64 u / 1 % 10))]] else none else none := by kernel_rfl
def digF : Nat → Nat → List UInt8
 | 0, n => [UInt8.ofNat (48 + n % 10)]
 | k + 1, n => if n < 10 then [UInt8.ofNat (48 + n)] else digF k (n / 10) ++ [UInt8.ofNat (48 + n % 10)]
def digN (n : Nat) : List UInt8 := digF 6 n
theorem wrap_u64 {n : Int} (h0 : 0 ≤ n) (h1 : n < 18446744073709551616) : IntKind.wrap .u64 n = n := by
  have e : n % (2 ^ 64 : Int) = n := Int.emod_eq_of_lt h0 (by have : (2 : Int) ^ 64 = 18446744073709551616 := by decide
                                                              omega)
  unfold IntKind.wrap
  simp only [IntKind.bits, IntKind.signed, e, Bool.false_and, Bool.false_eq_true, if_false]
theorem small_u {u : Int} (h0 : 0 ≤ u) (h1 : u < 100) : ∀ m n : Nat, (enterM I3 (callN I3 (m+40)) n c175 [.d (.int .i64 u), .d (.int .i64 10)] []).out = some [.str (digN u.toNat)] := by
 intro m n
 rw [i175, decide_eq_true h0, decide_eq_true h1]
 obtain ⟨k, rfl⟩ := Int.eq_ofNat_of_zero_le h0
 have hk : k < 100 := by omega
 have hw : ∀ k : Fin 100, IntKind.wrap .i64 ((k.1 : Int) + 1) = (k.1 : Int) + 1 ∧ IntKind.wrap .i64 ((k.1 : Int) * 2) = (k.1 : Int) * 2 ∧ IntKind.wrap .i64 ((k.1 : Int) * 2 + 2) = (k.1 : Int) * 2 + 2 := by decide +kernel
 obtain ⟨w1, w2, w3⟩ := hw ⟨k, hk⟩
 simp only at w1 w2 w3
 rw [w2, w3, w1]
 by_cases h10 : k < 10
 ·have : ∀ k : Fin 10, List.take (Int.toNat ((k.1 : Int) + 1) - Int.toNat (k.1 : Int)) (List.drop (Int.toNat (k.1 : Int)) [(48 : UInt8), 49, 50, 51, 52, 53, 54, 55, 56, 57, 97, 98, 99, 100, 101, 102, 103, 104, 105, 106, 107, 108, 109, 110, 111, 112, 113, 114, 115, 116, 117, 118, 119, 120, 121, 122]) = digN (Int.toNat (k.1 : Int)) := by decide +kernel
  rw [decide_eq_true (show (k : Int) < 10 by omega), decide_eq_true (show (0 : Int) ≤ (k : Int) + 1 ∧ (k : Int) + 1 ≤ 36 by omega), decide_eq_true (show (0 : Int) ≤ (k : Int) ∧ (k : Int) ≤ (k : Int) + 1 by omega), cond_true, cond_true, cond_true, cond_true, cond_true]
  exact congrArg (fun l => some [D.str l]) (this ⟨k, h10⟩)
 ·have : ∀ k : Fin 100, 10 ≤ k.1 → List.take (Int.toNat ((k.1 : Int) * 2 + 2) - Int.toNat ((k.1 : Int) * 2)) (List.drop (Int.toNat ((k.1 : Int) * 2)) SM) = digN (Int.toNat (k.1 : Int)) := by decide +kernel
  rw [decide_eq_false (show ¬ (k : Int) < 10 by omega), decide_eq_true (show (0 : Int) ≤ (k : Int) * 2 + 2 ∧ (k : Int) * 2 + 2 ≤ 200 by omega), decide_eq_true (show (0 : Int) ≤ (k : Int) * 2 ∧ (k : Int) * 2 ≤ (k : Int) * 2 + 2 by omega), cond_true, cond_true, cond_false, cond_true, cond_true]
  exact congrArg (fun l => some [D.str l]) (this ⟨k, hk⟩ (by simpa using h10))
theorem up {k n : Nat} (h : 10 ≤ n) : digF (k + 1) n = digF k (n / 10) ++ [UInt8.ofNat (48 + n % 10)] := by
 simp only [digF]
 rw [if_neg (by omega)]
theorem dn {k n : Nat} (h : n < 10) : digF (k + 1) n = [UInt8.ofNat (48 + n)] := by
 simp only [digF]
 rw [if_pos h]
theorem big_u {u : Int} (h0 : 100 ≤ u) (h1 : u ≤ 999999) (m n : Nat) : (enterM I3 (callN I3 (m+40)) n c175 [.d (.int .i64 u), .d (.int .i64 10)] []).out = some [.str (digN u.toNat)] := by
 rw [i175, decide_eq_true (show (0 : Int) ≤ u by omega), decide_eq_false (show ¬ u < 100 by omega), decide_eq_false (show ¬ u < 0 by omega), wrap_u64 (n := u) (by omega) (by omega), decide_eq_true (show (100 : Int) ≤ u by omega), decide_eq_true h1]
 rw [cond_true, cond_false, cond_false, Bool.and_self, cond_true]
 unfold digN
 by_cases k3 : u < 1000
 ·rw [decide_eq_true k3, decide_eq_true (show u ≤ 999 by omega)]
  rw [up (show 10 ≤ u.toNat by omega), up (show 10 ≤ u.toNat / 10 by omega), dn (show u.toNat / 10 / 10 < 10 by omega)]
  rw [show (48 + u / 100 % 10).toNat = 48 + u.toNat / 10 / 10 by omega, show (48 + u / 10 % 10).toNat = 48 + u.toNat / 10 % 10 by omega, show (48 + u / 1 % 10).toNat = 48 + u.toNat % 10 by omega]
  rfl
 rw [decide_eq_false k3]
 by_cases k4 : u < 10000
 ·rw [decide_eq_true k4, decide_eq_true (show (1000 : Int) ≤ u by omega), decide_eq_true (show u ≤ 9999 by omega)]
  rw [up (show 10 ≤ u.toNat by omega), up (show 10 ≤ u.toNat / 10 by omega), up (show 10 ≤ u.toNat / 10 / 10 by omega), dn (show u.toNat / 10 / 10 / 10 < 10 by omega)]
  rw [show (48 + u / 1000 % 10).toNat = 48 + u.toNat / 10 / 10 / 10 by omega, show (48 + u / 100 % 10).toNat = 48 + u.toNat / 10 / 10 % 10 by omega, show (48 + u / 10 % 10).toNat = 48 + u.toNat / 10 % 10 by omega, show (48 + u / 1 % 10).toNat = 48 + u.toNat % 10 by omega]
  rfl
 rw [decide_eq_false k4]
 by_cases k5 : u < 100000
 ·rw [decide_eq_true k5, decide_eq_true (show (10000 : Int) ≤ u by omega), decide_eq_true (show u ≤ 99999 by omega)]
  rw [up (show 10 ≤ u.toNat by omega), up (show 10 ≤ u.toNat / 10 by omega), up (show 10 ≤ u.toNat / 10 / 10 by omega), up (show 10 ≤ u.toNat / 10 / 10 / 10 by omega), dn (show u.toNat / 10 / 10 / 10 / 10 < 10 by omega)]
  rw [show (48 + u / 10000 % 10).toNat = 48 + u.toNat / 10 / 10 / 10 / 10 by omega, show (48 + u / 1000 % 10).toNat = 48 + u.toNat / 10 / 10 / 10 % 10 by omega, show (48 + u / 100 % 10).toNat = 48 + u.toNat / 10 / 10 % 10 by omega, show (48 + u / 10 % 10).toNat = 48 + u.toNat / 10 % 10 by omega, show (48 + u / 1 % 10).toNat = 48 + u.toNat % 10 by omega]
  rfl
 rw [decide_eq_false k5]
 rw [decide_eq_true (show (100000 : Int) ≤ u by omega)]
 rw [up (show 10 ≤ u.toNat by omega), up (show 10 ≤ u.toNat / 10 by omega), up (show 10 ≤ u.toNat / 10 / 10 by omega), up (show 10 ≤ u.toNat / 10 / 10 / 10 by omega), up (show 10 ≤ u.toNat / 10 / 10 / 10 / 10 by omega), dn (show u.toNat / 10 / 10 / 10 / 10 / 10 < 10 by omega)]
 rw [show (48 + u / 100000 % 10).toNat = 48 + u.toNat / 10 / 10 / 10 / 10 / 10 by omega, show (48 + u / 10000 % 10).toNat = 48 + u.toNat / 10 / 10 / 10 / 10 % 10 by omega, show (48 + u / 1000 % 10).toNat = 48 + u.toNat / 10 / 10 / 10 % 10 by omega, show (48 + u / 100 % 10).toNat = 48 + u.toNat / 10 / 10 % 10 by omega, show (48 + u / 10 % 10).toNat = 48 + u.toNat / 10 % 10 by omega, show (48 + u / 1 % 10).toNat = 48 + u.toNat % 10 by omega]
 rfl
theorem run175 {u : Int} (h0 : 0 ≤ u) (h1 : u ≤ 999999) (m n : Nat) : (enterM I3 (callN I3 (m+40)) n c175 [.d (.int .i64 u), .d (.int .i64 10)] []).out = some [.str (digN u.toNat)] := by
 by_cases h : u < 100
 ·exact small_u h0 h m n
 ·exact big_u (by omega) h1 m n
def g175 : List D → Tree (List D)
 | [.int .i64 u, .int .i64 b] => .ite (decide (0 ≤ u) && (decide (u ≤ 999999) && b == 10)) (fun _ => .ret [.str (digN u.toNat)]) (fun _ => .stuck)
 | _ => .stuck
theorem pure175 {P : Program} (hm : P.follows .mixedOrders = true) (h0 : EnvOK P I3) : PureOK P 175 g175 := PureOK.run hm h0 fun ds rs h => by
 unfold g175 at h
 split at h
 ·obtain ⟨hg, h'⟩ := eval_guard h
  clear h
  simp only [Bool.and_eq_true, decide_eq_true_eq, beq_iff_eq] at hg
  obtain ⟨g1, g2, rfl⟩ := hg
  cases h'
  exact ⟨59 + 1, by rw [callN_succ (fn := c175) rfl]; exact run175 g1 g2 19 59⟩
 ·cases h
def I4 : Env := I3.pureAt 175 true g175
theorem i71 (m n : Nat) (u : Int) : Tree.out (enterM I4 (callN I4 (m+40)) n c71 [.d (.int .i64 u)] []) = bif decide (0 ≤ u) && (decide (u ≤ 999999) && true) then some [D.str (digN (u.toNat))] else none := by kernel_rfl
def g71 : List D → Tree (List D)
 | [.int .i64 u] => .ite (decide (0 ≤ u) && decide (u ≤ 999999)) (fun _ => .ret [.str (digN u.toNat)]) (fun _ => .stuck)
 | _ => .stuck
theorem run71 {u : Int} (h0 : 0 ≤ u) (h1 : u ≤ 999999) (m n : Nat) : (enterM I4 (callN I4 (m+40)) n c71 [.d (.int .i64 u)] []).out = some [.str (digN u.toNat)] := by
 rw [i71, decide_eq_true h0, decide_eq_true h1]
 rfl
theorem pure71 {P : Program} (hm : P.follows .mixedOrders = true) (h0 : EnvOK P I4) : PureOK P 71 g71 := PureOK.run hm h0 fun ds rs h => by
 unfold g71 at h
 split at h
 ·obtain ⟨hg, h'⟩ := eval_guard h
  clear h
  simp only [Bool.and_eq_true, decide_eq_true_eq] at hg
  cases h'
  exact ⟨59 + 1, by rw [callN_succ (fn := c71) rfl]; exact run71 hg.1 hg.2 19 59⟩
 ·cases h
theorem itoa {P : Program} (hm : P.follows .mixedOrders = true) (h0 : EnvOK P I0) : PureOK P 71 g71 := by
 have e1 : EnvOK P I1 := h0.pureAt (pure226 hm h0)
 have e2 : EnvOK P I2 := e1.pureAt (pure212 hm e1)
 have e3 : EnvOK P I3 := e2.genAt (fn213 hm e2)
 exact pure71 hm (e3.pureAt (pure175 hm e3))
def smallc (c : Int) : Bool := decide (97 ≤ c) && decide (c ≤ 122)
def digitc (c : Int) : Bool := decide (48 ≤ c) && decide (c ≤ 57)
def nm1 (s : List UInt8) (i : Nat) : Bool := (smallc (s.getD i 0).toNat || digitc (s.getD i 0).toNat) && !(((i : Int) == 0) && digitc (s.getD i 0).toNat)
theorem path_iff : ∀ (l : List D) (met : List D), met.length = 16 → (pathOk l met = true ↔ (∀ i, i < l.length → 0 ≤ fi 0 (l.getD i .nilp) ∧ fi 0 (l.getD i .nilp) ≤ 15 ∧ fb 0 (met.getD (fi 0 (l.getD i .nilp)).toNat .nilp) = false) ∧ ∀ i j, i < j → j < l.length → fi 0 (l.getD i .nilp) ≠ fi 0 (l.getD j .nilp))
 | [], met, _ => by simp [pathOk]
 | p :: ps, met, hm => by
  simp only [pathOk, Bool.and_eq_true, Bool.not_eq_true', decide_eq_false_iff_not]
  constructor
  ·rintro ⟨h1, h2, h3, h4⟩
   obtain ⟨a, b⟩ := (path_iff ps _ (by rw [List.length_set]; exact hm)).1 h4
   have c : (fi 0 p).toNat < met.length := by omega
   refine ⟨fun i hi => ?_, fun i j hij hj => ?_⟩
   ·cases i with
    | zero => exact ⟨by show 0 ≤ fi 0 p; omega, by show fi 0 p ≤ 15; omega, h3⟩
    | succ i =>
     have := a i (by simpa using hi)
     rw [getD_set c] at this
     show 0 ≤ fi 0 (ps.getD i .nilp) ∧ fi 0 (ps.getD i .nilp) ≤ 15 ∧ fb 0 (met.getD (fi 0 (ps.getD i .nilp)).toNat .nilp) = false
     refine ⟨this.1, this.2.1, ?_⟩
     have h5 := this.2.2
     split at h5
     ·cases h5
     ·exact h5
   ·cases j with
    | zero => omega
    | succ j =>
     have hj : j < ps.length := by simpa using hj
     cases i with
     | zero =>
      show fi 0 p ≠ fi 0 (ps.getD j .nilp)
      intro e
      have := (a j hj).2.2
      rw [getD_set c, if_pos (by rw [e])] at this
      cases this
     | succ i => exact b i j (by omega) hj
  ·rintro ⟨a, b⟩
   have a0 : 0 ≤ fi 0 p ∧ fi 0 p ≤ 15 ∧ fb 0 (met.getD (fi 0 p).toNat .nilp) = false := a 0 (by simp)
   have c : (fi 0 p).toNat < met.length := by omega
   refine ⟨by omega, by omega, a0.2.2, (path_iff ps _ (by rw [List.length_set]; exact hm)).2 ⟨fun i hi => ?_, fun i j h1 h2 => b (i + 1) (j + 1) (by omega) (by simpa using h2)⟩⟩
   have h1 : 0 ≤ fi 0 (ps.getD i .nilp) ∧ fi 0 (ps.getD i .nilp) ≤ 15 ∧ fb 0 (met.getD (fi 0 (ps.getD i .nilp)).toNat .nilp) = false := a (i + 1) (by simpa using hi)
   have h2 : fi 0 p ≠ fi 0 (ps.getD i .nilp) := b 0 (i + 1) (by omega) (by simpa using hi)
   rw [getD_set c, if_neg (by omega)]
   exact h1
theorem met0_at {k : Nat} (h : k < 16) : fb 0 (met0.getD k .nilp) = false := by
 have : ∀ k : Fin 16, fb 0 (met0.getD k.1 .nilp) = false := by decide
 exact this ⟨k, h⟩
theorem map_org {es : List D} {i : Nat} (h : i < es.length) : fi 0 ((es.map orgOf).getD i .nilp) = fi 1 (es.getD i .nilp) := by
 rw [List.getD_eq_getElem?_getD, List.getElem?_map, List.getD_eq_getElem?_getD, List.getElem?_eq_getElem h]
 rfl
theorem idOk_iff {r q : Int} {es : List D} : idOk r q es = true ↔ (1 ≤ q ∧ q ≤ 999999) ∧ es.length ≤ 4 ∧ (0 ≤ r ∧ r ≤ 15) ∧ (∀ i, i < es.length → (0 ≤ fi 0 (es.getD i .nilp) ∧ fi 0 (es.getD i .nilp) ≤ 7) ∧ (0 ≤ fi 1 (es.getD i .nilp) ∧ fi 1 (es.getD i .nilp) ≤ 15) ∧ fi 1 (es.getD i .nilp) ≠ r) ∧ ∀ i j, i < j → j < es.length → fi 1 (es.getD i .nilp) ≠ fi 1 (es.getD j .nilp) := by
 unfold idOk
 simp only [Bool.and_eq_true, Bool.not_eq_true', decide_eq_false_iff_not]
 rw [path_iff _ _ rfl]
 have hb : es.any badHop = false ↔ ∀ i, i < es.length → 0 ≤ fi 0 (es.getD i .nilp) ∧ fi 0 (es.getD i .nilp) ≤ 7 := by
  rw [Bool.eq_false_iff, ne_eq, any_iff]
  constructor
  ·intro h i hi
   have : ¬ badHop (es.getD i .nilp) = true := fun hb => h ⟨i, hi, hb⟩
   simp only [badHop, Bool.or_eq_true, decide_eq_true_eq] at this
   omega
  ·rintro h ⟨i, hi, hb⟩
   have := h i hi
   simp only [badHop, Bool.or_eq_true, decide_eq_true_eq] at hb
   omega
 rw [hb]
 have hl : (D.int .i64 r :: es.map orgOf).length = es.length + 1 := by simp
 rw [hl]
 constructor
 ·rintro ⟨h1, h2, h3, ⟨h4, h5⟩, h6⟩
  refine ⟨by omega, by omega, ?_, fun i hi => ?_, fun i j hij hj => ?_⟩
  ·have := h4 0 (by omega)
   exact ⟨this.1, this.2.1⟩
  ·have a := h4 (i + 1) (by omega)
   have b := h5 0 (i + 1) (by omega) (by omega)
   simp only [List.getD_cons_succ, List.getD_cons_zero, map_org hi] at a b
   exact ⟨h6 i hi, ⟨a.1, a.2.1⟩, fun e => b e.symm⟩
  ·have b := h5 (i + 1) (j + 1) (by omega) (by omega)
   simp only [List.getD_cons_succ, map_org (show i < es.length by omega), map_org hj] at b
   exact b
 ·rintro ⟨h1, h2, h3, h4, h5⟩
  refine ⟨by omega, by omega, by omega, ⟨fun i hi => ?_, fun i j hij hj => ?_⟩, fun i hi => (h4 i hi).1⟩
  ·cases i with
   | zero => exact ⟨h3.1, h3.2, met0_at (show r.toNat < 16 by omega)⟩
   | succ i =>
    have hi : i < es.length := by omega
    have := (h4 i hi).2.1
    simp only [List.getD_cons_succ, map_org hi]
    exact ⟨this.1, this.2, met0_at (by omega)⟩
  ·cases j with
   | zero => omega
   | succ j =>
    have hj : j < es.length := by omega
    cases i with
    | zero =>
     simp only [List.getD_cons_succ, List.getD_cons_zero, map_org hj]
     exact fun e => (h4 j hj).2.2 e.symm
    | succ i =>
     simp only [List.getD_cons_succ, map_org hj, map_org (show i < es.length by omega)]
     exact h5 i j (by omega) hj
theorem scan_any (p : Nat → Bool) : ∀ k i, scan p (fun _ => true) false k i = true ↔ ∃ j, i ≤ j ∧ j < i + k ∧ p j = true
 | 0, i => by
  simp only [scan, Bool.false_eq_true, false_iff]
  rintro ⟨j, h1, h2, -⟩
  omega
 | k + 1, i => by
  simp only [scan]
  cases hp : p i
  ·rw [cond_false, scan_any p k (i + 1)]
   constructor
   ·rintro ⟨j, h1, h2, h3⟩; exact ⟨j, by omega, by omega, h3⟩
   ·rintro ⟨j, h1, h2, h3⟩
    by_cases he : j = i
    ·subst he; rw [hp] at h3; cases h3
    ·exact ⟨j, by omega, by omega, h3⟩
  ·simp only [cond_true, true_iff]
   exact ⟨i, by omega, by omega, hp⟩
def K0 : Env := E19.pureAt 71 true g71
def hopTxt (h : D) : List UInt8 := [47] ++ digN (fi 0 h).toNat ++ [64] ++ digN (fi 1 h).toNat
def showN (r q : Int) (es : List D) : List UInt8 := digN r.toNat ++ [46] ++ digN q.toNat ++ es.flatMap hopTxt
theorem e70 (m n : Nat) (r q : Int) (nil : Bool) (es : List D) : Tree.out (enterM K0 (callN K0 (m+40)) n c70 [.d (.agg [.int .i64 r, .int .i64 q, .sl hopSh nil es])] []) = bif (bif idOk r q es then (0 : Int) else (30 : Int)) != 0 then some [D.str [], D.int .i64 (bif idOk r q es then (0 : Int) else (30 : Int))] else bif decide (0 ≤ r) && decide (r ≤ 999999) then bif decide (List.length (digN (r.toNat)) + 1 ≤ 4611686018427387904) then bif decide (0 ≤ q) && decide (q ≤ 999999) then bif decide (List.length (List.append (digN (r.toNat)) [46]) + List.length (digN (q.toNat)) ≤ 4611686018427387904) then Tree.out (resume K0 (callN K0 (m+40)) n n 0 c70 { fr := frame 41 [(5, V.d (D.str (List.append (List.append (digN (r.toNat)) [46]) (digN (q.toNat))))), (22, V.d (D.sl hopSh nil es)), (23, V.d (D.int .i64 (es.length : Int))), (24, V.d (D.int .i64 0))], ob := [(128, Obj.box [V.d (D.int .i64 r), V.d (D.int .i64 q), V.d (D.sl hopSh nil es)])] }) else none else none else none else none := by kernel_rfl
def s70 (r q : Int) (nil : Bool) (es : List D) (s : List UInt8) (i : Int) : St := { fr := frame 41 [(5, V.d (D.str s)), (22, V.d (D.sl hopSh nil es)), (23, V.d (D.int .i64 (↑(List.length es) : Int))), (24, V.d (D.int .i64 i))], ob := [(128, Obj.box [V.d (D.int .i64 r), V.d (D.int .i64 q), V.d (D.sl hopSh nil es)])] }
theorem l70 (m n j : Nat) (r q : Int) (nil : Bool) (es : List D) (s : List UInt8) (i : Int) : Tree.out (resume K0 (callN K0 (m+40)) n (j+1) 0 c70 (s70 r q nil es s i)) = bif decide (i < (es.length : Int)) then bif decide (0 ≤ i ∧ i < (es.length : Int)) then bif decide (0 ≤ fi 0 (es.getD i.toNat .nilp)) && decide (fi 0 (es.getD i.toNat .nilp) ≤ 999999) then bif decide (1 + List.length (digN (Int.toNat (fi 0 (es.getD i.toNat .nilp)))) ≤ 4611686018427387904) then bif decide (List.length (digN (Int.toNat (fi 0 (es.getD i.toNat .nilp)))) + 1 + 1 ≤ 4611686018427387904) then bif decide (0 ≤ fi 1 (es.getD i.toNat .nilp)) && decide (fi 1 (es.getD i.toNat .nilp) ≤ 999999) then bif decide (List.length (List.append (digN (Int.toNat (fi 0 (es.getD i.toNat .nilp)))) [64]) + 1 + List.length (digN (Int.toNat (fi 1 (es.getD i.toNat .nilp)))) ≤ 4611686018427387904) then bif decide (s.length + (List.length (List.append (List.append (digN (Int.toNat (fi 0 (es.getD i.toNat .nilp)))) [64]) (digN (Int.toNat (fi 1 (es.getD i.toNat .nilp))))) + 1) ≤ 4611686018427387904) then Tree.out (resume K0 (callN K0 (m+40)) n j 0 c70 (s70 r q nil es (List.append s (47 :: List.append (List.append (digN (Int.toNat (fi 0 (es.getD i.toNat .nilp)))) [64]) (digN (Int.toNat (fi 1 (es.getD i.toNat .nilp)))))) (IntKind.wrap .i64 (i + 1)))) else none else none else none else none else none else none else none else some [D.str s, D.int .i64 0] := by kernel_rfl
theorem ct {α : Type} {c : Bool} {a b : α} (h : c = true) : cond c a b = a := by rw [h]; rfl
theorem cf {α : Type} {c : Bool} {a b : α} (h : c = false) : cond c a b = b := by rw [h]; rfl
theorem digF_len : ∀ k n, (digF k n).length ≤ k + 1 := by
 intro k
 induction k with
 | zero => intro n; simp [digF]
 | succ k ih =>
  intro n
  simp only [digF]
  split
  ·simp
  ·rw [List.length_append]; have := ih (n / 10); simp; omega
theorem digN_len (n : Nat) : (digN n).length ≤ 7 := digF_len 6 n
theorem drop_at {es : List D} {i : Nat} (h : i < es.length) : es.drop i = es.getD i .nilp :: es.drop (i + 1) := by
 rw [List.drop_eq_getElem_cons h, List.getD_eq_getElem?_getD, List.getElem?_eq_getElem h]; rfl
theorem loop70 (m n : Nat) (r q : Int) (nil : Bool) (es : List D) (h : idOk r q es = true) : ∀ k i j s, i + k = es.length → k < j → s.length ≤ 1000 + 100 * i →
  (resume K0 (callN K0 (m+40)) n j 0 c70 (s70 r q nil es s (i : Nat))).out = some [.str (s ++ (es.drop i).flatMap hopTxt), .int .i64 0] := by
 obtain ⟨-, h4, -, hh, -⟩ := idOk_iff.1 h
 intro k
 induction k with
 | zero =>
  intro i j s hi hj hs
  cases j with
  | zero => omega
  | succ j =>
   have : i = es.length := by omega
   subst this
   rw [l70, List.drop_length, List.flatMap_nil, List.append_nil]
   exact cf (dec_end _)
 | succ k ih =>
  intro i j s hi hj hs
  cases j with
  | zero => omega
  | succ j =>
   have hlt : i < es.length := by omega
   have hx := (hh i hlt).1
   have hy := (hh i hlt).2.1
   rw [l70, drop_at hlt, List.flatMap_cons]
   simp only [Int.toNat_natCast, wrap_up hlt (show es.length ≤ 1000000 by omega), List.append_eq]
   have d0 := digN_len (fi 0 (es.getD i .nilp)).toNat
   have d1 := digN_len (fi 1 (es.getD i .nilp)).toNat
   refine (ct (dec_lt hlt)).trans ?_
   refine (ct (dec_ix hlt)).trans ?_
   iterate 6 refine (ct (by simp only [Bool.and_eq_true, decide_eq_true_eq, List.length_append, List.length_cons, List.length_nil]; omega)).trans ?_
   refine (ih (i + 1) j _ (by omega) (by omega) ?_).trans ?_
   ·simp only [List.length_append, List.length_cons, List.length_nil]; omega
   ·simp only [hopTxt, List.append_assoc, List.cons_append, List.nil_append]
theorem run70 (m n : Nat) (r q : Int) (nil : Bool) (es : List D) (hn : 18 ≤ n) : (enterM K0 (callN K0 (m+40)) n c70 [.d (.agg [.int .i64 r, .int .i64 q, .sl hopSh nil es])] []).out = some [.str (bif idOk r q es then showN r q es else []), .int .i64 (bif idOk r q es then 0 else 30)] := by
 rw [e70]
 cases h : idOk r q es
 ·rfl
 ·obtain ⟨hq, h4, hr, hh, -⟩ := idOk_iff.1 h
  have d0 := digN_len r.toNat
  have d1 := digN_len q.toNat
  simp only [cond_true, List.append_eq]
  refine (cf rfl).trans ?_
  iterate 4 refine (ct (by simp only [Bool.and_eq_true, decide_eq_true_eq, List.length_append, List.length_cons, List.length_nil]; omega)).trans ?_
  refine (loop70 m n r q nil es h es.length 0 n _ (by omega) (by omega) (by simp only [List.length_append, List.length_cons, List.length_nil]; omega)).trans ?_
  simp only [showN, List.drop_zero, List.append_assoc]
def g70 : List D → Tree (List D)
 | [.agg [.int .i64 r, .int .i64 q, .sl e0 _nil es]] => match Sh.beq e0 hopSh with
  | true => .ret [.str (bif idOk r q es then showN r q es else []), .int .i64 (bif idOk r q es then 0 else 30)]
  | false => .stuck
 | _ => .stuck
theorem pure70 {P : Program} (hm : P.follows .mixedOrders = true) (h0 : EnvOK P K0) : PureOK P 70 g70 := PureOK.run hm h0 fun ds rs h => by
 unfold g70 at h
 split at h
 ·rename_i r q e0 nil es
  split at h
  ·rename_i hb
   have hb0 := hb
   have hb0 := Sh.beq_eq hb0
   subst hb0
   cases h
   exact ⟨59 + 1, by rw [callN_succ (fn := c70) rfl]; exact run70 19 59 r q nil es (by omega)⟩
  ·cases h
 ·cases h
def K1 : Env := K0.pureAt 70 true g70
theorem okK0 {P : Program} (hm : P.follows .mixedOrders = true) (h0 : EnvOK P E19) (hI : EnvOK P I0) : EnvOK P K0 := h0.pureAt (itoa hm hI)
theorem okK1 {P : Program} (hm : P.follows .mixedOrders = true) (h0 : EnvOK P E19) (hI : EnvOK P I0) : EnvOK P K1 := (okK0 hm h0 hI).pureAt (pure70 hm (okK0 hm h0 hI))
theorem e33 (m n : Nat) (r q k : Int) (nil : Bool) (es : List D) : Tree.out (enterM K1 (callN K1 (m+40)) n c33 [.d (.agg [.int .i64 r, .int .i64 q, .sl hopSh nil es]), .d (.int .i64 k)] []) = bif (bif idOk r q es then (0 : Int) else (30 : Int)) != 0 then some [D.str [], D.int .i64 30] else bif decide (k < 0) then some [D.str [], D.int .i64 30] else bif decide (8 ≤ k) then some [D.str [], D.int .i64 30] else bif decide (List.length (bif idOk r q es then showN r q es else []) + 1 ≤ 4611686018427387904) then bif decide (0 ≤ k) && decide (k ≤ 999999) then bif decide (List.length (List.append (bif idOk r q es then showN r q es else []) [35]) + List.length (digN (k.toNat)) ≤ 4611686018427387904) then some [D.str (List.append (List.append (bif idOk r q es then showN r q es else []) [35]) (digN (k.toNat))), D.int .i64 0] else none else none else none := by kernel_rfl
def keyN (r q : Int) (es : List D) (k : Int) : List UInt8 := showN r q es ++ ([35] ++ digN k.toNat)
def keyOk (r q : Int) (es : List D) (k : Int) : Bool := idOk r q es && (decide (0 ≤ k) && decide (k < 8))
theorem flat_len {f : D → List UInt8} {b : Nat} (h : ∀ x, (f x).length ≤ b) : ∀ es : List D, (es.flatMap f).length ≤ b * es.length
 | [] => by simp
 | x :: es => by
  have h1 := h x
  have h2 := flat_len h es
  rw [List.flatMap_cons, List.length_append, List.length_cons, Nat.mul_succ]
  omega
theorem showN_len {r q : Int} {es : List D} (h : idOk r q es = true) : (showN r q es).length ≤ 100 := by
 obtain ⟨-, h4, -, -, -⟩ := idOk_iff.1 h
 have d0 := digN_len r.toNat
 have d1 := digN_len q.toNat
 have := flat_len (f := hopTxt) (b := 16) (fun x => by
  have d0 := digN_len (fi 0 x).toNat
  have d1 := digN_len (fi 1 x).toNat
  simp only [hopTxt, List.length_append, List.length_cons, List.length_nil]; omega) es
 simp only [showN, List.length_append, List.length_cons, List.length_nil]
 omega
theorem run33 (m n : Nat) (r q k : Int) (nil : Bool) (es : List D) : (enterM K1 (callN K1 (m+40)) n c33 [.d (.agg [.int .i64 r, .int .i64 q, .sl hopSh nil es]), .d (.int .i64 k)] []).out = some [.str (bif keyOk r q es k then keyN r q es k else []), .int .i64 (bif keyOk r q es k then 0 else 30)] := by
 rw [e33]
 unfold keyOk
 cases h : idOk r q es
 ·rfl
 ·refine (cf rfl).trans ?_
  by_cases h0 : k < 0
  ·refine (ct (decide_eq_true h0)).trans ?_
   rw [decide_eq_false (show ¬ 0 ≤ k by omega)]; rfl
  ·refine (cf (decide_eq_false h0)).trans ?_
   by_cases h8 : 8 ≤ k
   ·refine (ct (decide_eq_true h8)).trans ?_
    rw [decide_eq_false (show ¬ k < 8 by omega), Bool.and_false, Bool.and_false]; rfl
   ·refine (cf (decide_eq_false h8)).trans ?_
    have := showN_len h
    have := digN_len k.toNat
    simp only [cond_true, List.append_eq]
    iterate 3 refine (ct (by simp only [Bool.and_eq_true, decide_eq_true_eq, List.length_append, List.length_cons, List.length_nil]; omega)).trans ?_
    rw [decide_eq_true (show 0 ≤ k by omega), decide_eq_true (show k < 8 by omega)]
    simp only [Bool.and_self, cond_true, keyN, List.append_assoc]
theorem mayOk_parts {rt nn st wy : Int} {fc : Bool} {hops qz pz : List D} {nm : List UInt8} (h : mayOk rt nn st wy fc hops qz pz nm = true) : pz.length ≤ 8 ∧ pz.length ≤ qz.length := by
 by_cases h7 : st = 7
 ·subst h7
  unfold mayOk at h
  have : ((7 : Int) == 7) = true := rfl
  rw [this] at h
  cases h1 : idOk rt nn hops
  ·simp [h1] at h
  ·cases hd : decide (0 < (qz.length : Int) + (pz.length : Int))
   ·have := of_decide_eq_false hd
    omega
   ·rw [h1, hd] at h
    cases hn : (nm == []) <;> rw [hn] at h <;> cases h
 ·have := mayOk_len h h7
  omega
def g33 : List D → Tree (List D)
 | [.agg [.int .i64 r, .int .i64 q, .sl e0 _nil es], .int .i64 k] => match Sh.beq e0 hopSh with
  | true => .ret [.str (bif keyOk r q es k then keyN r q es k else []), .int .i64 (bif keyOk r q es k then 0 else 30)]
  | false => .stuck
 | _ => .stuck
theorem pure33 {P : Program} (hm : P.follows .mixedOrders = true) (h0 : EnvOK P K1) : PureOK P 33 g33 := PureOK.run hm h0 fun ds rs h => by
 unfold g33 at h
 split at h
 ·rename_i r q e0 nil es k
  split at h
  ·rename_i hb
   have hb0 := hb
   have hb0 := Sh.beq_eq hb0
   subst hb0
   cases h
   exact ⟨59 + 1, by rw [callN_succ (fn := c33) rfl]; exact run33 19 59 r q k nil es⟩
  ·cases h
 ·cases h
def K2 : Env := (K1.pureAt 33 true g33).pureAt 32 true g20
theorem okK2 {P : Program} (hm : P.follows .mixedOrders = true) (h : EnvOK P K1) (ha : PureOK P 32 g20) : EnvOK P K2 := (h.pureAt (pure33 hm h)).pureAt ha
theorem okI0 : EnvOK Tryz.prog I0 := okE0
theorem okE19 : EnvOK Tryz.prog E19 := ok19 mixed okE18
theorem okZK1 : EnvOK Tryz.prog K1 := okK1 mixed okE19 okI0
theorem okZK2 : EnvOK Tryz.prog K2 := okK2 mixed okZK1 pureAw
abbrev effSh : Sh := .agg [.int .i64, .str, .int .i64, .str, .int .i64]
abbrev bx8 (f : Nat → D) : AM.Obj := .box [.d (f 0), .d (f 1), .d (f 2), .d (f 3), .d (f 4), .d (f 5), .d (f 6), .d (f 7)]
abbrev bx9 (f : Nat → D) : AM.Obj := .box [.d (f 0), .d (f 1), .d (f 2), .d (f 3), .d (f 4), .d (f 5), .d (f 6), .d (f 7), .d (f 8)]
def s47n (A B C : Nat → D) (rt nn st wy : Int) (n1 n2 n3 fc : Bool) (hops qz pz : List D) (nm : List UInt8) (w i : Int) : St := { fr := frame 73 [(7, V.ptr 1408 0), (8, V.d (D.int .i64 w)), (9, V.d (D.sl effSh true [])), (50, V.d (D.int .i64 (pz.length : Int))), (51, V.d (D.int .i64 i))], ob := [(192, bx9 A), (256, bx8 B), (384, bx9 C), (1408, HD rt nn st wy n1 n2 n3 fc hops qz pz nm)] }
def s47o (A B C : Nat → D) (rt nn st wy : Int) (n1 n2 n3 fc : Bool) (hops qz pz : List D) (nm : List UInt8) (mv : Bool) (es : List D) (w i : Int) : St := { fr := frame 73 [(7, V.ptr 1408 0), (8, V.d (D.int .i64 w)), (9, V.own 4544), (50, V.d (D.int .i64 (pz.length : Int))), (51, V.d (D.int .i64 i))], ob := [(192, bx9 A), (256, bx8 B), (384, bx9 C), (1408, HD rt nn st wy n1 n2 n3 fc hops qz pz nm), (4544, .lst effSh false mv false es)] }
theorem e47 (m n : Nat) (rt nn st wy : Int) (n1 n2 n3 fc : Bool) (hops qz pz : List D) (nm : List UInt8) (kd mr mn sp mw : Int) (k1 k2 : Bool) (mh ms : List D) (mm : List UInt8) : Tree.out (enterM K2 (callN K2 (m+40)) n c47 [.d (sagaD rt nn st wy n1 n2 n3 fc hops qz pz nm), .d (moveD kd mr mn sp mw k1 k2 mh ms mm)] []) = bif gd24 rt nn st wy n1 n2 n3 fc hops qz pz nm kd mh then bif arE (appR rt nn st wy fc hops qz pz nm kd mr mn sp mw mh ms mm) != 0 then some [D.sl effSh true []] else bif kd == 4 then bif decide (0 ≤ sp ∧ sp < (qz.length : Int)) then some [D.sl effSh false [D.agg [D.int .i64 1, D.str (bif keyOk rt nn hops sp then keyN rt nn hops sp else []), D.int .i64 (fi 0 (qz.getD sp.toNat .nilp)), D.str (fs 1 (qz.getD sp.toNat .nilp)), D.int .i64 (fi 2 (qz.getD sp.toNat .nilp))]]] else none else bif kd == 11 then bif decide (0 ≤ sp ∧ sp < (qz.length : Int)) then some [D.sl effSh false [D.agg [D.int .i64 2, D.str (bif keyOk rt nn hops sp then keyN rt nn hops sp else []), D.int .i64 (fi 0 (qz.getD sp.toNat .nilp)), D.str (fs 1 (qz.getD sp.toNat .nilp)), D.int .i64 (fi 2 (qz.getD sp.toNat .nilp))]]] else none else bif kd == 16 then bif sp == 0 then Tree.out (resume K2 (callN K2 (m+40)) n n 0 c47 { fr := frame 73 [(7, V.ptr 1408 0), (8, V.d (D.int .i64 2)), (9, V.d (D.sl effSh true [])), (50, V.d (D.int .i64 (pz.length : Int))), (51, V.d (D.int .i64 0))], ob := [(192, Obj.box [V.d (D.int .i64 rt), V.d (D.int .i64 nn), V.d (D.sl hopSh n1 hops), V.d (D.str nm), V.d (D.sl stepSh n2 qz), V.d (D.int .i64 st), V.d (D.int .i64 wy), V.d (D.sl hopSh n3 pz), V.d (D.bool fc)]), (256, Obj.box [V.d (D.int .i64 kd), V.d (D.int .i64 mr), V.d (D.int .i64 mn), V.d (D.sl hopSh k1 mh), V.d (D.int .i64 sp), V.d (D.int .i64 mw), V.d (D.str mm), V.d (D.sl stepSh k2 ms)]), (384, Obj.box [V.d (D.int .i64 (bif arOk (appR rt nn st wy fc hops qz pz nm kd mr mn sp mw mh ms mm) then rt else (0 : Int))), V.d (D.int .i64 (bif arOk (appR rt nn st wy fc hops qz pz nm kd mr mn sp mw mh ms mm) then nn else (0 : Int))), V.d (D.sl hopSh (bif arOk (appR rt nn st wy fc hops qz pz nm kd mr mn sp mw mh ms mm) then n1 else true) (bif arOk (appR rt nn st wy fc hops qz pz nm kd mr mn sp mw mh ms mm) then hops else [])), V.d (D.str (bif arOk (appR rt nn st wy fc hops qz pz nm kd mr mn sp mw mh ms mm) then nm else [])), V.d (D.sl stepSh (!arOk (appR rt nn st wy fc hops qz pz nm kd mr mn sp mw mh ms mm)) (bif arOk (appR rt nn st wy fc hops qz pz nm kd mr mn sp mw mh ms mm) then qz else [])), V.d (D.int .i64 (arS (appR rt nn st wy fc hops qz pz nm kd mr mn sp mw mh ms mm))), V.d (D.int .i64 (arW (appR rt nn st wy fc hops qz pz nm kd mr mn sp mw mh ms mm))), V.d (D.sl hopSh (!arOk (appR rt nn st wy fc hops qz pz nm kd mr mn sp mw mh ms mm)) (arP (appR rt nn st wy fc hops qz pz nm kd mr mn sp mw mh ms mm))), V.d (D.bool (arF (appR rt nn st wy fc hops qz pz nm kd mr mn sp mw mh ms mm)))]), (1408, Obj.box [V.d (D.int .i64 rt), V.d (D.int .i64 nn), V.d (D.sl hopSh n1 hops), V.d (D.str nm), V.d (D.sl stepSh n2 qz), V.d (D.int .i64 st), V.d (D.int .i64 wy), V.d (D.sl hopSh n3 pz), V.d (D.bool fc)])] }) else Tree.out (resume K2 (callN K2 (m+40)) n n 0 c47 { fr := frame 73 [(7, V.ptr 1408 0), (8, V.d (D.int .i64 3)), (9, V.d (D.sl effSh true [])), (50, V.d (D.int .i64 (pz.length : Int))), (51, V.d (D.int .i64 0))], ob := [(192, Obj.box [V.d (D.int .i64 rt), V.d (D.int .i64 nn), V.d (D.sl hopSh n1 hops), V.d (D.str nm), V.d (D.sl stepSh n2 qz), V.d (D.int .i64 st), V.d (D.int .i64 wy), V.d (D.sl hopSh n3 pz), V.d (D.bool fc)]), (256, Obj.box [V.d (D.int .i64 kd), V.d (D.int .i64 mr), V.d (D.int .i64 mn), V.d (D.sl hopSh k1 mh), V.d (D.int .i64 sp), V.d (D.int .i64 mw), V.d (D.str mm), V.d (D.sl stepSh k2 ms)]), (384, Obj.box [V.d (D.int .i64 (bif arOk (appR rt nn st wy fc hops qz pz nm kd mr mn sp mw mh ms mm) then rt else (0 : Int))), V.d (D.int .i64 (bif arOk (appR rt nn st wy fc hops qz pz nm kd mr mn sp mw mh ms mm) then nn else (0 : Int))), V.d (D.sl hopSh (bif arOk (appR rt nn st wy fc hops qz pz nm kd mr mn sp mw mh ms mm) then n1 else true) (bif arOk (appR rt nn st wy fc hops qz pz nm kd mr mn sp mw mh ms mm) then hops else [])), V.d (D.str (bif arOk (appR rt nn st wy fc hops qz pz nm kd mr mn sp mw mh ms mm) then nm else [])), V.d (D.sl stepSh (!arOk (appR rt nn st wy fc hops qz pz nm kd mr mn sp mw mh ms mm)) (bif arOk (appR rt nn st wy fc hops qz pz nm kd mr mn sp mw mh ms mm) then qz else [])), V.d (D.int .i64 (arS (appR rt nn st wy fc hops qz pz nm kd mr mn sp mw mh ms mm))), V.d (D.int .i64 (arW (appR rt nn st wy fc hops qz pz nm kd mr mn sp mw mh ms mm))), V.d (D.sl hopSh (!arOk (appR rt nn st wy fc hops qz pz nm kd mr mn sp mw mh ms mm)) (arP (appR rt nn st wy fc hops qz pz nm kd mr mn sp mw mh ms mm))), V.d (D.bool (arF (appR rt nn st wy fc hops qz pz nm kd mr mn sp mw mh ms mm)))]), (1408, Obj.box [V.d (D.int .i64 rt), V.d (D.int .i64 nn), V.d (D.sl hopSh n1 hops), V.d (D.str nm), V.d (D.sl stepSh n2 qz), V.d (D.int .i64 st), V.d (D.int .i64 wy), V.d (D.sl hopSh n3 pz), V.d (D.bool fc)])] }) else bif kd == 9 then Tree.out (resume K2 (callN K2 (m+40)) n n 0 c47 { fr := frame 73 [(7, V.ptr 1408 0), (8, V.d (D.int .i64 3)), (9, V.d (D.sl effSh true [])), (50, V.d (D.int .i64 (pz.length : Int))), (51, V.d (D.int .i64 0))], ob := [(192, Obj.box [V.d (D.int .i64 rt), V.d (D.int .i64 nn), V.d (D.sl hopSh n1 hops), V.d (D.str nm), V.d (D.sl stepSh n2 qz), V.d (D.int .i64 st), V.d (D.int .i64 wy), V.d (D.sl hopSh n3 pz), V.d (D.bool fc)]), (256, Obj.box [V.d (D.int .i64 kd), V.d (D.int .i64 mr), V.d (D.int .i64 mn), V.d (D.sl hopSh k1 mh), V.d (D.int .i64 sp), V.d (D.int .i64 mw), V.d (D.str mm), V.d (D.sl stepSh k2 ms)]), (384, Obj.box [V.d (D.int .i64 (bif arOk (appR rt nn st wy fc hops qz pz nm kd mr mn sp mw mh ms mm) then rt else (0 : Int))), V.d (D.int .i64 (bif arOk (appR rt nn st wy fc hops qz pz nm kd mr mn sp mw mh ms mm) then nn else (0 : Int))), V.d (D.sl hopSh (bif arOk (appR rt nn st wy fc hops qz pz nm kd mr mn sp mw mh ms mm) then n1 else true) (bif arOk (appR rt nn st wy fc hops qz pz nm kd mr mn sp mw mh ms mm) then hops else [])), V.d (D.str (bif arOk (appR rt nn st wy fc hops qz pz nm kd mr mn sp mw mh ms mm) then nm else [])), V.d (D.sl stepSh (!arOk (appR rt nn st wy fc hops qz pz nm kd mr mn sp mw mh ms mm)) (bif arOk (appR rt nn st wy fc hops qz pz nm kd mr mn sp mw mh ms mm) then qz else [])), V.d (D.int .i64 (arS (appR rt nn st wy fc hops qz pz nm kd mr mn sp mw mh ms mm))), V.d (D.int .i64 (arW (appR rt nn st wy fc hops qz pz nm kd mr mn sp mw mh ms mm))), V.d (D.sl hopSh (!arOk (appR rt nn st wy fc hops qz pz nm kd mr mn sp mw mh ms mm)) (arP (appR rt nn st wy fc hops qz pz nm kd mr mn sp mw mh ms mm))), V.d (D.bool (arF (appR rt nn st wy fc hops qz pz nm kd mr mn sp mw mh ms mm)))]), (1408, Obj.box [V.d (D.int .i64 rt), V.d (D.int .i64 nn), V.d (D.sl hopSh n1 hops), V.d (D.str nm), V.d (D.sl stepSh n2 qz), V.d (D.int .i64 st), V.d (D.int .i64 wy), V.d (D.sl hopSh n3 pz), V.d (D.bool fc)])] }) else some [D.sl effSh true []] else none := by kernel_rfl
theorem l47n (m n j : Nat) (A B C : Nat → D) (rt nn st wy : Int) (n1 n2 n3 fc : Bool) (hops qz pz : List D) (nm : List UInt8) (w i : Int) : Tree.out (resume K2 (callN K2 (m+40)) n (j+1) 0 c47 (s47n A B C rt nn st wy n1 n2 n3 fc hops qz pz nm w i)) = bif decide (i < (pz.length : Int)) then bif decide (0 ≤ i ∧ i < (qz.length : Int)) then bif !!fs 4 (qz.getD i.toNat .nilp) == [] then bif decide (0 ≤ i ∧ i < (pz.length : Int)) then bif hasI (fi 0 (pz.getD i.toNat .nilp)) (D.int .i64 2) || false then bif decide (0 ≤ i ∧ i < (qz.length : Int)) then Tree.out (resume K2 (callN K2 (m+40)) n j 0 c47 (s47o A B C rt nn st wy n1 n2 n3 fc hops qz pz nm false [D.agg [D.int .i64 w, D.str (bif keyOk rt nn hops i then keyN rt nn hops i else []), D.int .i64 (fi 0 (qz.getD i.toNat .nilp)), D.str (fs 1 (qz.getD i.toNat .nilp)), D.int .i64 (fi 2 (qz.getD i.toNat .nilp))]] w (IntKind.wrap .i64 (i + 1)))) else none else Tree.out (resume K2 (callN K2 (m+40)) n j 0 c47 (s47n A B C rt nn st wy n1 n2 n3 fc hops qz pz nm w (IntKind.wrap .i64 (i + 1)))) else none else Tree.out (resume K2 (callN K2 (m+40)) n j 0 c47 (s47n A B C rt nn st wy n1 n2 n3 fc hops qz pz nm w (IntKind.wrap .i64 (i + 1)))) else none else some [D.sl effSh true []] := by kernel_rfl
theorem l47o (m n j : Nat) (A B C : Nat → D) (rt nn st wy : Int) (n1 n2 n3 fc : Bool) (hops qz pz : List D) (nm : List UInt8) (mv : Bool) (es : List D) (w i : Int) : Tree.out (resume K2 (callN K2 (m+40)) n (j+1) 0 c47 (s47o A B C rt nn st wy n1 n2 n3 fc hops qz pz nm mv es w i)) = bif decide (i < (pz.length : Int)) then bif decide (0 ≤ i ∧ i < (qz.length : Int)) then bif !!fs 4 (qz.getD i.toNat .nilp) == [] then bif decide (0 ≤ i ∧ i < (pz.length : Int)) then bif hasI (fi 0 (pz.getD i.toNat .nilp)) (D.int .i64 2) || false then bif decide (0 ≤ i ∧ i < (qz.length : Int)) then bif decide (es.length + 1 ≤ 4294967296) then Tree.out (resume K2 (callN K2 (m+40)) n j 0 c47 (s47o A B C rt nn st wy n1 n2 n3 fc hops qz pz nm true (List.append es [D.agg [D.int .i64 w, D.str (bif keyOk rt nn hops i then keyN rt nn hops i else []), D.int .i64 (fi 0 (qz.getD i.toNat .nilp)), D.str (fs 1 (qz.getD i.toNat .nilp)), D.int .i64 (fi 2 (qz.getD i.toNat .nilp))]]) w (IntKind.wrap .i64 (i + 1)))) else none else none else Tree.out (resume K2 (callN K2 (m+40)) n j 0 c47 (s47o A B C rt nn st wy n1 n2 n3 fc hops qz pz nm mv es w (IntKind.wrap .i64 (i + 1)))) else none else Tree.out (resume K2 (callN K2 (m+40)) n j 0 c47 (s47o A B C rt nn st wy n1 n2 n3 fc hops qz pz nm mv es w (IntKind.wrap .i64 (i + 1)))) else none else some [D.sl effSh false es] := by kernel_rfl
def effAt (rt nn : Int) (hops qz : List D) (w i : Int) : D := .agg [.int .i64 w, .str (bif keyOk rt nn hops i then keyN rt nn hops i else []), .int .i64 (fi 0 (qz.getD i.toNat .nilp)), .str (fs 1 (qz.getD i.toNat .nilp)), .int .i64 (fi 2 (qz.getD i.toNat .nilp))]
def ownAt (pz qz : List D) (i : Nat) : Bool := loc qz i && fi 0 (pz.getD i .nilp) == 2
def effTo (rt nn : Int) (hops qz pz : List D) (w : Int) : Nat → List D
 | 0 => []
 | k + 1 => effTo rt nn hops qz pz w k ++ (bif ownAt pz qz k then [effAt rt nn hops qz w k] else [])
theorem effTo_len (rt nn : Int) (hops qz pz : List D) (w : Int) : ∀ k, (effTo rt nn hops qz pz w k).length ≤ k
 | 0 => by simp [effTo]
 | k + 1 => by
  have := effTo_len rt nn hops qz pz w k
  simp only [effTo, List.length_append]
  cases ownAt pz qz k <;> simp <;> omega
def s47 (A B C : Nat → D) (rt nn st wy : Int) (n1 n2 n3 fc : Bool) (hops qz pz : List D) (nm : List UInt8) (w : Int) (mv : Bool) : List D → Int → St
 | [], i => s47n A B C rt nn st wy n1 n2 n3 fc hops qz pz nm w i
 | e :: es, i => s47o A B C rt nn st wy n1 n2 n3 fc hops qz pz nm mv (e :: es) w i
theorem loop47 (m n : Nat) (A B C : Nat → D) (rt nn st wy : Int) (n1 n2 n3 fc : Bool) (hops qz pz : List D) (nm : List UInt8) (w : Int) (hl : pz.length ≤ 1000000) (hs : pz.length ≤ qz.length) : ∀ k i j mv, i + k = pz.length → k < j →
  (resume K2 (callN K2 (m+40)) n j 0 c47 (s47 A B C rt nn st wy n1 n2 n3 fc hops qz pz nm w mv (effTo rt nn hops qz pz w i) (i : Nat))).out = some [.sl effSh (effTo rt nn hops qz pz w pz.length).isEmpty (effTo rt nn hops qz pz w pz.length)] := by
 intro k
 induction k with
 | zero =>
  intro i j mv hi hj
  cases j with
  | zero => omega
  | succ j =>
   have : i = pz.length := by omega
   subst this
   cases effTo rt nn hops qz pz w pz.length with
   | nil =>
    simp only [s47]
    rw [l47n]
    exact cf (dec_end _)
   | cons e es =>
    simp only [s47]
    rw [l47o]
    exact cf (dec_end _)
 | succ k ih =>
  intro i j mv hi hj
  cases j with
  | zero => omega
  | succ j =>
   have hlt : i < pz.length := by omega
   have h2 : i < qz.length := by omega
   have hlen := effTo_len rt nn hops qz pz w i
   have hnext : effTo rt nn hops qz pz w (i + 1) = effTo rt nn hops qz pz w i ++ (bif ownAt pz qz i then [effAt rt nn hops qz w i] else []) := rfl
   have ih := fun mv => ih (i + 1) j mv (by omega) (by omega)
   rw [hnext] at ih
   have e1 : (!!fs 4 (qz.getD i .nilp) == []) = loc qz i := by
    unfold loc
    cases (fs 4 (qz.getD i .nilp) == []) <;> rfl
   have e2 : (hasI (fi 0 (pz.getD i .nilp)) (D.int .i64 2) || false) = (fi 0 (pz.getD i .nilp) == 2) := hasI_or
   generalize effTo rt nn hops qz pz w i = es at ih hlen ⊢
   cases es with
   | nil =>
    simp only [s47]
    rw [l47n]
    simp only [Int.toNat_natCast, wrap_up hlt hl, dec_lt hlt, dec_ix hlt, dec_ix h2, cond_true, e1, e2]
    simp only [ownAt] at ih
    cases ha : loc qz i
    ·rw [ha] at ih
     exact ih mv
    ·cases hb : (fi 0 (pz.getD i .nilp) == 2)
     ·rw [ha, hb] at ih
      exact ih mv
     ·rw [ha, hb] at ih
      exact ih false
   | cons e es =>
    simp only [s47]
    rw [l47o]
    have hlen : (e :: es).length + 1 ≤ 4294967296 := by omega
    simp only [Int.toNat_natCast, wrap_up hlt hl, dec_lt hlt, dec_ix hlt, dec_ix h2, cond_true, e1, e2, decide_eq_true hlen]
    simp only [ownAt] at ih
    cases ha : loc qz i
    ·rw [ha] at ih
     have := ih mv
     rw [show (bif false && (fi 0 (pz.getD i .nilp) == 2) then [effAt rt nn hops qz w i] else []) = [] from rfl, List.append_nil] at this
     exact this
    ·cases hb : (fi 0 (pz.getD i .nilp) == 2)
     ·rw [ha, hb] at ih
      have := ih mv
      rw [show (bif true && false then [effAt rt nn hops qz w i] else []) = [] from rfl, List.append_nil] at this
      exact this
     ·rw [ha, hb] at ih
      exact ih true
def effR (rt nn st wy : Int) (fc : Bool) (hops qz pz : List D) (nm : List UInt8) (kd mr mn sp mw : Int) (mh ms : List D) (mm : List UInt8) : List D :=
 bif arE (appR rt nn st wy fc hops qz pz nm kd mr mn sp mw mh ms mm) != 0 then [] else bif kd == 4 then [effAt rt nn hops qz 1 sp] else bif kd == 11 then [effAt rt nn hops qz 2 sp] else
  bif kd == 16 then effTo rt nn hops qz pz (bif sp == 0 then 2 else 3) pz.length else bif kd == 9 then effTo rt nn hops qz pz 3 pz.length else []
theorem eff_at {rt nn st wy : Int} {fc : Bool} {hops qz pz : List D} {nm : List UInt8} {kd mr mn sp mw : Int} {mh ms : List D} {mm : List UInt8} (h : arE (appR rt nn st wy fc hops qz pz nm kd mr mn sp mw mh ms mm) = 0) (hk : kd = 4 ∨ kd = 11) :
  0 ≤ sp ∧ sp < (qz.length : Int) := by
 obtain ⟨hm, h7, hmv, s, w, f, p, hR, hA, hpl⟩ := appR_good h
 have hl := mayOk_len hm h7
 have h0 := moveOk_sp hmv
 have := apply_mv h0 (moveOk_kd hmv) hA
 have : sp.toNat < pz.length := by
  rcases hk with rfl | rfl
  ·cases this; assumption
  ·cases this; assumption
 omega
def d3 (l : List D) (i : Nat) : D := l.getD i .nilp
def tmp47 (R : AR) (rt nn : Int) (n1 : Bool) (hops qz : List D) (nm : List UInt8) : List D := [.int .i64 (bif arOk R then rt else 0), .int .i64 (bif arOk R then nn else 0), .sl hopSh (bif arOk R then n1 else true) (bif arOk R then hops else []), .str (bif arOk R then nm else []), .sl stepSh (!arOk R) (bif arOk R then qz else []), .int .i64 (arS R), .int .i64 (arW R), .sl partSh (!arOk R) (arP R), .bool (arF R)]
theorem run47 (m n : Nat) (rt nn st wy : Int) (n1 n2 n3 fc : Bool) (hops qz pz : List D) (nm : List UInt8) (kd mr mn sp mw : Int) (k1 k2 : Bool) (mh ms : List D) (mm : List UInt8) (hg : gd24 rt nn st wy n1 n2 n3 fc hops qz pz nm kd mh = true) (hn : 18 ≤ n) :
  (enterM K2 (callN K2 (m+40)) n c47 [.d (sagaD rt nn st wy n1 n2 n3 fc hops qz pz nm), .d (moveD kd mr mn sp mw k1 k2 mh ms mm)] []).out = some [.sl effSh (effR rt nn st wy fc hops qz pz nm kd mr mn sp mw mh ms mm).isEmpty (effR rt nn st wy fc hops qz pz nm kd mr mn sp mw mh ms mm)] := by
 rw [e47]
 refine (ct hg).trans ?_
 unfold effR
 cases ha : (arE (appR rt nn st wy fc hops qz pz nm kd mr mn sp mw mh ms mm) != 0)
 ·refine (cf rfl).trans ?_
  have h0 : arE (appR rt nn st wy fc hops qz pz nm kd mr mn sp mw mh ms mm) = 0 := by simpa using ha
  obtain ⟨hm, h7, -, -⟩ := appR_good h0
  have hl := mayOk_len hm h7
  have L : ∀ w A B C, (resume K2 (callN K2 (m+40)) n n 0 c47 (s47 A B C rt nn st wy n1 n2 n3 fc hops qz pz nm w false (effTo rt nn hops qz pz w 0) (0 : Nat))).out = some [.sl effSh (effTo rt nn hops qz pz w pz.length).isEmpty (effTo rt nn hops qz pz w pz.length)] :=
   fun w A B C => loop47 m n A B C rt nn st wy n1 n2 n3 fc hops qz pz nm w (by omega) (by omega) pz.length 0 n false (by omega) (by omega)
  by_cases h4 : kd = 4
  ·subst h4
   refine (ct rfl).trans ((ct (decide_eq_true (eff_at h0 (.inl rfl)))).trans rfl)
  refine (cf (beqF h4)).trans ?_
  by_cases h11 : kd = 11
  ·subst h11
   refine (ct rfl).trans ((ct (decide_eq_true (eff_at h0 (.inr rfl)))).trans rfl)
  refine (cf (beqF h11)).trans ?_
  rw [beqF h4, beqF h11]
  by_cases h16 : kd = 16
  ·subst h16
   refine (ct rfl).trans ?_
   cases (sp == 0)
   ·refine (cf rfl).trans ?_
    exact L 3 (d3 [.int .i64 rt, .int .i64 nn, .sl hopSh n1 hops, .str nm, .sl stepSh n2 qz, .int .i64 st, .int .i64 wy, .sl partSh n3 pz, .bool fc]) (d3 [.int .i64 16, .int .i64 mr, .int .i64 mn, .sl hopSh k1 mh, .int .i64 sp, .int .i64 mw, .str mm, .sl stepSh k2 ms]) (d3 (tmp47 (appR rt nn st wy fc hops qz pz nm 16 mr mn sp mw mh ms mm) rt nn n1 hops qz nm))
   ·refine (ct rfl).trans ?_
    exact L 2 (d3 [.int .i64 rt, .int .i64 nn, .sl hopSh n1 hops, .str nm, .sl stepSh n2 qz, .int .i64 st, .int .i64 wy, .sl partSh n3 pz, .bool fc]) (d3 [.int .i64 16, .int .i64 mr, .int .i64 mn, .sl hopSh k1 mh, .int .i64 sp, .int .i64 mw, .str mm, .sl stepSh k2 ms]) (d3 (tmp47 (appR rt nn st wy fc hops qz pz nm 16 mr mn sp mw mh ms mm) rt nn n1 hops qz nm))
  refine (cf (beqF h16)).trans ?_
  rw [beqF h16]
  by_cases h9 : kd = 9
  ·subst h9
   refine (ct rfl).trans ?_
   exact L 3 (d3 [.int .i64 rt, .int .i64 nn, .sl hopSh n1 hops, .str nm, .sl stepSh n2 qz, .int .i64 st, .int .i64 wy, .sl partSh n3 pz, .bool fc]) (d3 [.int .i64 9, .int .i64 mr, .int .i64 mn, .sl hopSh k1 mh, .int .i64 sp, .int .i64 mw, .str mm, .sl stepSh k2 ms]) (d3 (tmp47 (appR rt nn st wy fc hops qz pz nm 9 mr mn sp mw mh ms mm) rt nn n1 hops qz nm))
  ·refine (cf (beqF h9)).trans ?_
   rw [beqF h9]
   rfl
 ·rfl
theorem e46 (m n : Nat) (rt nn st wy : Int) (n1 n2 n3 fc : Bool) (hops qz pz : List D) (nm : List UInt8) : Go.AM.Tree.out (enterM E0 (callN E0 (m+40)) (n+1) c46 [.d (sagaD rt nn st wy n1 n2 n3 fc hops qz pz nm), .d (sagaD 0 0 0 0 true true true false [] [] [] [])] []) = bif rt != (0 : Int) then bif decide (rt < (0 : Int)) then some [D.bool false] else bif decide ((0 : Int) < rt) then some [D.bool false] else bif !nm == [] then some [D.bool false] else bif (↑(List.length qz) : Int) != (0 : Int) then some [D.bool false] else bif decide ((0 : Int) < (↑(List.length qz) : Int)) then bif decide ((0 : Int) ≤ (0 : Int) ∧ (0 : Int) < (↑(List.length qz) : Int)) then none else none else bif st != (0 : Int) then some [D.bool false] else bif wy != (0 : Int) then some [D.bool false] else bif !fc == false then some [D.bool false] else bif (↑(List.length pz) : Int) != (0 : Int) then some [D.bool false] else bif decide ((0 : Int) < (↑(List.length pz) : Int)) then bif decide ((0 : Int) ≤ (0 : Int) ∧ (0 : Int) < (↑(List.length pz) : Int)) then none else none else some [D.bool true] else bif nn != (0 : Int) then bif decide (nn < (0 : Int)) then some [D.bool false] else bif decide ((0 : Int) < nn) then some [D.bool false] else bif !nm == [] then some [D.bool false] else bif (↑(List.length qz) : Int) != (0 : Int) then some [D.bool false] else bif decide ((0 : Int) < (↑(List.length qz) : Int)) then bif decide ((0 : Int) ≤ (0 : Int) ∧ (0 : Int) < (↑(List.length qz) : Int)) then none else none else bif st != (0 : Int) then some [D.bool false] else bif wy != (0 : Int) then some [D.bool false] else bif !fc == false then some [D.bool false] else bif (↑(List.length pz) : Int) != (0 : Int) then some [D.bool false] else bif decide ((0 : Int) < (↑(List.length pz) : Int)) then bif decide ((0 : Int) ≤ (0 : Int) ∧ (0 : Int) < (↑(List.length pz) : Int)) then none else none else some [D.bool true] else bif decide ((0 : Int) < (↑(List.length hops) : Int)) then bif decide ((↑(List.length hops) : Int) < (0 : Int)) then some [D.bool false] else bif decide ((0 : Int) < (↑(List.length hops) : Int)) then some [D.bool false] else bif !nm == [] then some [D.bool false] else bif (↑(List.length qz) : Int) != (0 : Int) then some [D.bool false] else bif decide ((0 : Int) < (↑(List.length qz) : Int)) then bif decide ((0 : Int) ≤ (0 : Int) ∧ (0 : Int) < (↑(List.length qz) : Int)) then none else none else bif st != (0 : Int) then some [D.bool false] else bif wy != (0 : Int) then some [D.bool false] else bif !fc == false then some [D.bool false] else bif (↑(List.length pz) : Int) != (0 : Int) then some [D.bool false] else bif decide ((0 : Int) < (↑(List.length pz) : Int)) then bif decide ((0 : Int) ≤ (0 : Int) ∧ (0 : Int) < (↑(List.length pz) : Int)) then none else none else some [D.bool true] else bif decide ((↑(List.length hops) : Int) < (0 : Int)) then some [D.bool false] else bif decide ((0 : Int) < (↑(List.length hops) : Int)) then some [D.bool false] else bif !nm == [] then some [D.bool false] else bif (↑(List.length qz) : Int) != (0 : Int) then some [D.bool false] else bif decide ((0 : Int) < (↑(List.length qz) : Int)) then bif decide ((0 : Int) ≤ (0 : Int) ∧ (0 : Int) < (↑(List.length qz) : Int)) then none else none else bif st != (0 : Int) then some [D.bool false] else bif wy != (0 : Int) then some [D.bool false] else bif !fc == false then some [D.bool false] else bif (↑(List.length pz) : Int) != (0 : Int) then some [D.bool false] else bif decide ((0 : Int) < (↑(List.length pz) : Int)) then bif decide ((0 : Int) ≤ (0 : Int) ∧ (0 : Int) < (↑(List.length pz) : Int)) then none else none else some [D.bool true] := by kernel_rfl
def zeroG : D := sagaD 0 0 0 0 true true true false [] [] [] []
def isZ (rt nn st wy : Int) (fc : Bool) (hops qz pz : List D) (nm : List UInt8) : Bool := rt == 0 && (nn == 0 && (hops.isEmpty && (nm == [] && (qz.isEmpty && (st == 0 && (wy == 0 && (!fc && pz.isEmpty)))))))
theorem isZ_false (nn st wy : Int) (fc : Bool) (hops qz pz : List D) (nm : List UInt8) {rt : Int} (h : rt ≠ 0) : isZ rt nn st wy fc hops qz pz nm = false := by
 unfold isZ
 rw [beqF h]; rfl
theorem run46 (m n : Nat) (rt nn st wy : Int) (n1 n2 n3 fc : Bool) (hops qz pz : List D) (nm : List UInt8) : (enterM E0 (callN E0 (m+40)) (n+1) c46 [.d (sagaD rt nn st wy n1 n2 n3 fc hops qz pz nm), .d zeroG] []).out = some [.bool (isZ rt nn st wy fc hops qz pz nm)] := by
 unfold zeroG
 rw [e46]
 by_cases h1 : rt = 0
 ·subst h1
  refine (cf rfl).trans ?_
  by_cases h2 : nn = 0
  ·subst h2
   refine (cf rfl).trans ?_
   cases hops with
   | nil =>
    cases nm with
    | nil =>
     cases qz with
     | nil =>
      by_cases h4 : st = 0
      ·subst h4
       by_cases h5 : wy = 0
       ·subst h5
        cases fc
        ·cases pz with
         | nil => rfl
         | cons x l =>
          have : (((x :: l).length : Int) != 0) = true := by rw [bne, beqF (by rw [List.length_cons]; omega)]; rfl
          rw [this]
          rfl
        ·rfl
       ·have : (wy != 0) = true := by rw [bne, beqF h5]; rfl
        rw [this]
        unfold isZ
        rw [beqF h5]
        rfl
      ·have : (st != 0) = true := by rw [bne, beqF h4]; rfl
       rw [this]
       unfold isZ
       rw [beqF h4]
       rfl
     | cons x l =>
      have : (((x :: l).length : Int) != 0) = true := by rw [bne, beqF (by rw [List.length_cons]; omega)]; rfl
      rw [this]
      rfl
    | cons x l => rfl
   | cons x l =>
    have p : decide ((0 : Int) < ((x :: l).length : Int)) = true := decide_eq_true (by rw [List.length_cons]; omega)
    have q : decide (((x :: l).length : Int) < 0) = false := decide_eq_false (by rw [List.length_cons]; omega)
    rw [p, q]
    rfl
  ·have b : (nn != 0) = true := by rw [bne, beqF h2]; rfl
   rw [b]
   refine (ct rfl).trans ?_
   have z : isZ 0 nn st wy fc hops qz pz nm = false := by
    unfold isZ
    rw [beqF h2]; rfl
   rw [z]
   by_cases h : nn < 0
   ·exact ct (decide_eq_true h)
   ·exact (cf (decide_eq_false h)).trans (ct (decide_eq_true (by omega)))
 ·have b : (rt != 0) = true := by rw [bne, beqF h1]; rfl
  rw [b, isZ_false _ _ _ _ _ _ _ _ h1]
  refine (ct rfl).trans ?_
  by_cases h : rt < 0
  ·exact ct (decide_eq_true h)
  ·exact (cf (decide_eq_false h)).trans (ct (decide_eq_true (by omega)))
def g46z : List D → Tree (List D)
 | [.agg [.int .i64 rt, .int .i64 nn, .sl eh _n1 hops, .str nm, .sl es _n2 qz, .int .i64 st, .int .i64 wy, .sl ep _n3 pz, .bool fc], z] => match (Sh.beq eh hopSh && (Sh.beq es stepSh && Sh.beq ep partSh)) && D.eqb z zeroG with
  | true => .ret [.bool (isZ rt nn st wy fc hops qz pz nm)]
  | false => .stuck
 | _ => .stuck
theorem pure46z {P : Program} (hm : P.follows .mixedOrders = true) (h0 : EnvOK P E0) : PureOK P 46 g46z := PureOK.run hm h0 fun ds rs h => by
 unfold g46z at h
 split at h
 ·split at h
  ·rename_i hb
   simp only [Bool.and_eq_true] at hb
   obtain ⟨⟨hb1, hb2, hb3⟩, hz⟩ := hb
   have hb1 := Sh.beq_eq hb1
   have hb2 := Sh.beq_eq hb2
   have hb3 := Sh.beq_eq hb3
   have hz := D.eqb_eq _ _ hz
   subst hb1 hb2 hb3 hz
   cases h
   exact ⟨59 + 1, by rw [callN_succ (fn := c46) rfl]; exact run46 19 58 _ _ _ _ _ _ _ _ _ _ _ _⟩
  ·cases h
 ·cases h
def g47 : List D → Tree (List D)
 | [.agg [.int .i64 rt, .int .i64 nn, .sl e0h n1 hops, .str nm, .sl e0s n2 qz, .int .i64 st, .int .i64 wy, .sl e0p n3 pz, .bool fc], .agg [.int .i64 kd, .int .i64 mr, .int .i64 mn, .sl e1h _k1 mh, .int .i64 sp, .int .i64 mw, .str mm, .sl e1s _k2 ms]] => match Sh.beq e0h hopSh && Sh.beq e0s stepSh && Sh.beq e0p partSh && Sh.beq e1h hopSh && Sh.beq e1s stepSh with
  | true => .ite (gd24 rt nn st wy n1 n2 n3 fc hops qz pz nm kd mh) (fun _ => .ret [.sl effSh (effR rt nn st wy fc hops qz pz nm kd mr mn sp mw mh ms mm).isEmpty (effR rt nn st wy fc hops qz pz nm kd mr mn sp mw mh ms mm)]) (fun _ => .stuck)
  | false => .stuck
 | _ => .stuck
theorem pure47 {P : Program} (hm : P.follows .mixedOrders = true) (h0 : EnvOK P K2) : PureOK P 47 g47 := PureOK.run hm h0 fun ds rs h => by
 unfold g47 at h
 split at h
 ·rename_i rt nn e0h n1 hops nm e0s n2 qz st wy e0p n3 pz fc kd mr mn e1h k1 mh sp mw mm e1s k2 ms
  split at h
  ·rename_i hb
   simp only [Bool.and_eq_true] at hb
   obtain ⟨⟨⟨⟨hb0, hb1⟩, hb2⟩, hb3⟩, hb4⟩ := hb
   have hb0 := Sh.beq_eq hb0
   have hb1 := Sh.beq_eq hb1
   have hb2 := Sh.beq_eq hb2
   have hb3 := Sh.beq_eq hb3
   have hb4 := Sh.beq_eq hb4
   subst hb0 hb1 hb2 hb3 hb4
   obtain ⟨hg, h'⟩ := eval_guard h
   clear h
   cases h'
   exact ⟨59 + 1, by rw [callN_succ (fn := c47) rfl]; exact run47 19 59 rt nn st wy n1 n2 n3 fc hops qz pz nm kd mr mn sp mw k1 k2 mh ms mm hg (by omega)⟩
  ·cases h
 ·cases h
def K3 : Env := (((K2.pureAt 43 true g43).pureAt 69 false g69).pureAt 47 false g47).pureAt 46 true g46z
theorem okK3 {P : Program} (hm : P.follows .mixedOrders = true) (h0 : EnvOK P E0) (h : EnvOK P K2) (h1 : PureOK P 43 g43) (h2 : PureOK P 69 g69) : EnvOK P K3 :=
 (((h.pureAt h1).pureAt h2).pureAt (pure47 hm h)).pureAt (pure46z hm h0)
theorem okZK3 : EnvOK Tryz.prog K3 := okK3 mixed okE0 okZK2 (okE23.pure 43 true g43 rfl) (okE23.pure 69 false g69 rfl)
end Go.Proofs.YtkjiaijkdefkgaaGreatDoor.A
