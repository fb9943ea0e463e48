/- Parts of the walk: Q22a, Q22b, Q22c, Q22d, S19, S19b, Q23, S20. -/
import Derived.Test.YtkjiaijkdefkgaaGreatDoorGf
import Derived.KernelRfl
open Go Go.AM Go.Proofs
namespace Go.Proofs.YtkjiaijkdefkgaaGreatDoor.A
theorem e24A1 (m n : Nat) (rt nn st wy : Int) (fc : Bool) (hops qz pz : List D) (nm : List UInt8) (mr mn sp mw : Int) (k1 k2 : Bool) (mh ms : List D) (mm : List UInt8) : Tree.out (enterM E17 (callN E17 (m+40)) n c42 [.d (sagaD rt nn st wy false false false fc hops qz pz nm), .d (moveD 1 mr mn sp mw k1 k2 mh ms mm)] []) = bif decide (qz.length ≤ 1000000) then bif decide (pz.length ≤ 1000000) then bif (bif mayOk rt nn st wy fc hops qz pz nm then (0 : Int) else (230 : Int)) != 0 then some (mkA false rt nn hops nm qz (AR.bad (bif mayOk rt nn st wy fc hops qz pz nm then (0 : Int) else (230 : Int)))) else bif (bif moveOk 1 mr mn sp mw mh ms mm then (0 : Int) else (140 : Int)) != 0 then some (mkA false rt nn hops nm qz (AR.bad 210)) else bif decide (mh.length ≤ 1000000) then bif idCmp mr mn rt nn mh hops != 0 then some (mkA false rt nn hops nm qz (AR.bad 210)) else bif decide (hops.length ≤ 1000000) then bif decide (qz.length ≤ 1000000) then bif decide (pz.length ≤ 1000000) then bif st == 7 then some (mkA false rt nn hops nm qz (AR.bad 210)) else some (mkA false rt nn hops nm qz (AR.bad 210)) else none else none else none else none else none else none := by kernel_rfl
theorem e24A2 (m n : Nat) (rt nn st wy : Int) (fc : Bool) (hops qz pz : List D) (nm : List UInt8) (mr mn sp mw : Int) (k1 k2 : Bool) (mh ms : List D) (mm : List UInt8) : Tree.out (enterM E17 (callN E17 (m+40)) n c42 [.d (sagaD rt nn st wy false false false fc hops qz pz nm), .d (moveD 2 mr mn sp mw k1 k2 mh ms mm)] []) = bif decide (qz.length ≤ 1000000) then bif decide (pz.length ≤ 1000000) then bif (bif mayOk rt nn st wy fc hops qz pz nm then (0 : Int) else (230 : Int)) != 0 then some (mkA false rt nn hops nm qz (AR.bad (bif mayOk rt nn st wy fc hops qz pz nm then (0 : Int) else (230 : Int)))) else bif (bif moveOk 2 mr mn sp mw mh ms mm then (0 : Int) else (140 : Int)) != 0 then some (mkA false rt nn hops nm qz (AR.bad 210)) else bif decide (mh.length ≤ 1000000) then bif idCmp mr mn rt nn mh hops != 0 then some (mkA false rt nn hops nm qz (AR.bad 210)) else bif decide (hops.length ≤ 1000000) then bif decide (qz.length ≤ 1000000) then bif decide (pz.length ≤ 1000000) then bif st == 7 then some (mkA false rt nn hops nm qz (AR.bad 210)) else some (mkA false rt nn hops nm qz (AR.bad 210)) else none else none else none else none else none else none := by kernel_rfl
theorem e24A3 (m n : Nat) (rt nn st wy : Int) (fc : Bool) (hops qz pz : List D) (nm : List UInt8) (mr mn sp mw : Int) (k1 k2 : Bool) (mh ms : List D) (mm : List UInt8) : Tree.out (enterM E17 (callN E17 (m+40)) n c42 [.d (sagaD rt nn st wy false false false fc hops qz pz nm), .d (moveD 3 mr mn sp mw k1 k2 mh ms mm)] []) = bif decide (qz.length ≤ 1000000) then bif decide (pz.length ≤ 1000000) then bif (bif mayOk rt nn st wy fc hops qz pz nm then (0 : Int) else (230 : Int)) != 0 then some (mkA false rt nn hops nm qz (AR.bad (bif mayOk rt nn st wy fc hops qz pz nm then (0 : Int) else (230 : Int)))) else bif (bif moveOk 3 mr mn sp mw mh ms mm then (0 : Int) else (140 : Int)) != 0 then some (mkA false rt nn hops nm qz (AR.bad 210)) else bif decide (mh.length ≤ 1000000) then bif idCmp mr mn rt nn mh hops != 0 then some (mkA false rt nn hops nm qz (AR.bad 210)) else bif decide (hops.length ≤ 1000000) then bif decide (qz.length ≤ 1000000) then bif decide (pz.length ≤ 1000000) then bif st == 7 then some (mkA false rt nn hops nm qz (AR.bad 210)) else bif decide ((pz.length : Int) ≤ sp) then some (mkA false rt nn hops nm qz (AR.bad 210)) else bif decide (0 ≤ sp ∧ sp < (qz.length : Int)) then bif !fs 4 (qz.getD sp.toNat .nilp) == [] then bif decide (0 ≤ sp ∧ sp < (pz.length : Int)) then bif st == 1 then bif decide (pz.length ≤ 1000000) then some (mkA false rt nn hops nm qz (AR.bad 210)) else none else some (mkA false rt nn hops nm qz (AR.bad 210)) else none else bif decide (pz.length ≤ 1000000) then bif sp == cur st pz then bif decide (0 ≤ sp ∧ sp < (qz.length : Int)) then bif !!!fs 4 (qz.getD sp.toNat .nilp) == [] then some (mkA false rt nn hops nm qz (AR.bad 210)) else bif decide (0 ≤ sp ∧ sp < (pz.length : Int)) then bif st == 1 then bif decide (0 ≤ sp ∧ sp < (qz.length : Int)) then bif decide (fi 1 (pz.getD sp.toNat .nilp) < fi 5 (qz.getD sp.toNat .nilp)) then bif decide (0 ≤ sp ∧ sp < (pz.length : Int)) then bif decide (0 ≤ sp ∧ sp < (pz.length : Int)) then some (mkA false rt nn hops nm qz (AR.good st wy fc ((List.set pz (sp.toNat) (D.agg [D.int .i64 (fi 0 (pz.getD sp.toNat .nilp)), D.int .i64 (IntKind.wrap .i64 (fi 1 (pz.getD sp.toNat .nilp) + 1))]))))) else none else none else bif st == 4 then bif decide (fi 1 (pz.getD sp.toNat .nilp) < 5) then bif decide (0 ≤ sp ∧ sp < (pz.length : Int)) then bif decide (0 ≤ sp ∧ sp < (pz.length : Int)) then some (mkA false rt nn hops nm qz (AR.good st wy fc ((List.set pz (sp.toNat) (D.agg [D.int .i64 (fi 0 (pz.getD sp.toNat .nilp)), D.int .i64 (IntKind.wrap .i64 (fi 1 (pz.getD sp.toNat .nilp) + 1))]))))) else none else none else some (mkA false rt nn hops nm qz (AR.bad 210)) else some (mkA false rt nn hops nm qz (AR.bad 210)) else none else bif st == 4 then bif decide (fi 1 (pz.getD sp.toNat .nilp) < 5) then bif decide (0 ≤ sp ∧ sp < (pz.length : Int)) then bif decide (0 ≤ sp ∧ sp < (pz.length : Int)) then some (mkA false rt nn hops nm qz (AR.good st wy fc ((List.set pz (sp.toNat) (D.agg [D.int .i64 (fi 0 (pz.getD sp.toNat .nilp)), D.int .i64 (IntKind.wrap .i64 (fi 1 (pz.getD sp.toNat .nilp) + 1))]))))) else none else none else some (mkA false rt nn hops nm qz (AR.bad 210)) else some (mkA false rt nn hops nm qz (AR.bad 210)) else none else none else some (mkA false rt nn hops nm qz (AR.bad 210)) else none else none else none else none else none else none else none else none := by kernel_rfl
theorem e24A4 (m n : Nat) (rt nn st wy : Int) (fc : Bool) (hops qz pz : List D) (nm : List UInt8) (mr mn sp mw : Int) (k1 k2 : Bool) (mh ms : List D) (mm : List UInt8) : Tree.out (enterM E17 (callN E17 (m+40)) n c42 [.d (sagaD rt nn st wy false false false fc hops qz pz nm), .d (moveD 4 mr mn sp mw k1 k2 mh ms mm)] []) = bif decide (qz.length ≤ 1000000) then bif decide (pz.length ≤ 1000000) then bif (bif mayOk rt nn st wy fc hops qz pz nm then (0 : Int) else (230 : Int)) != 0 then some (mkA false rt nn hops nm qz (AR.bad (bif mayOk rt nn st wy fc hops qz pz nm then (0 : Int) else (230 : Int)))) else bif (bif moveOk 4 mr mn sp mw mh ms mm then (0 : Int) else (140 : Int)) != 0 then some (mkA false rt nn hops nm qz (AR.bad 210)) else bif decide (mh.length ≤ 1000000) then bif idCmp mr mn rt nn mh hops != 0 then some (mkA false rt nn hops nm qz (AR.bad 210)) else bif decide (hops.length ≤ 1000000) then bif decide (qz.length ≤ 1000000) then bif decide (pz.length ≤ 1000000) then bif st == 7 then some (mkA false rt nn hops nm qz (AR.bad 210)) else bif decide ((pz.length : Int) ≤ sp) then some (mkA false rt nn hops nm qz (AR.bad 210)) else bif decide (0 ≤ sp ∧ sp < (qz.length : Int)) then bif !fs 4 (qz.getD sp.toNat .nilp) == [] then bif decide (0 ≤ sp ∧ sp < (pz.length : Int)) then bif st == 1 then bif decide (pz.length ≤ 1000000) then some (mkA false rt nn hops nm qz (AR.bad 210)) else none else some (mkA false rt nn hops nm qz (AR.bad 210)) else none else bif decide (pz.length ≤ 1000000) then bif sp == cur st pz then bif decide (0 ≤ sp ∧ sp < (qz.length : Int)) then bif !!!fs 4 (qz.getD sp.toNat .nilp) == [] then some (mkA false rt nn hops nm qz (AR.bad 210)) else bif decide (0 ≤ sp ∧ sp < (pz.length : Int)) then bif st == 1 then bif decide (0 ≤ sp ∧ sp < (pz.length : Int)) then some (mkA false rt nn hops nm qz (AR.good st wy fc ((List.set pz (sp.toNat) (D.agg [D.int .i64 2, D.int .i64 0]))))) else none else some (mkA false rt nn hops nm qz (AR.bad 210)) else none else none else some (mkA false rt nn hops nm qz (AR.bad 210)) else none else none else none else none else none else none else none else none := by kernel_rfl
theorem e24A5 (m n : Nat) (rt nn st wy : Int) (fc : Bool) (hops qz pz : List D) (nm : List UInt8) (mr mn sp mw : Int) (k1 k2 : Bool) (mh ms : List D) (mm : List UInt8) : Tree.out (enterM E17 (callN E17 (m+40)) n c42 [.d (sagaD rt nn st wy false false false fc hops qz pz nm), .d (moveD 5 mr mn sp mw k1 k2 mh ms mm)] []) = bif decide (qz.length ≤ 1000000) then bif decide (pz.length ≤ 1000000) then bif (bif mayOk rt nn st wy fc hops qz pz nm then (0 : Int) else (230 : Int)) != 0 then some (mkA false rt nn hops nm qz (AR.bad (bif mayOk rt nn st wy fc hops qz pz nm then (0 : Int) else (230 : Int)))) else bif (bif moveOk 5 mr mn sp mw mh ms mm then (0 : Int) else (140 : Int)) != 0 then some (mkA false rt nn hops nm qz (AR.bad 210)) else bif decide (mh.length ≤ 1000000) then bif idCmp mr mn rt nn mh hops != 0 then some (mkA false rt nn hops nm qz (AR.bad 210)) else bif decide (hops.length ≤ 1000000) then bif decide (qz.length ≤ 1000000) then bif decide (pz.length ≤ 1000000) then bif st == 7 then some (mkA false rt nn hops nm qz (AR.bad 210)) else bif decide ((pz.length : Int) ≤ sp) then some (mkA false rt nn hops nm qz (AR.bad 210)) else bif decide (0 ≤ sp ∧ sp < (qz.length : Int)) then bif !fs 4 (qz.getD sp.toNat .nilp) == [] then bif decide (0 ≤ sp ∧ sp < (pz.length : Int)) then bif st == 1 then bif decide (pz.length ≤ 1000000) then bif sp == cur st pz then bif decide (0 ≤ sp ∧ sp < (pz.length : Int)) then bif hasI (fi 0 (pz.getD sp.toNat .nilp)) (D.int .i64 0) || false then bif decide (0 ≤ sp ∧ sp < (pz.length : Int)) then some (mkA false rt nn hops nm qz (AR.good st wy fc ((List.set pz (sp.toNat) (D.agg [D.int .i64 1, D.int .i64 (fi 1 (pz.getD sp.toNat .nilp))]))))) else none else some (mkA false rt nn hops nm qz (AR.bad 210)) else none else some (mkA false rt nn hops nm qz (AR.bad 210)) else none else some (mkA false rt nn hops nm qz (AR.bad 210)) else none else bif decide (pz.length ≤ 1000000) then bif sp == cur st pz then bif decide (0 ≤ sp ∧ sp < (qz.length : Int)) then bif !!!fs 4 (qz.getD sp.toNat .nilp) == [] then some (mkA false rt nn hops nm qz (AR.bad 210)) else bif decide (0 ≤ sp ∧ sp < (pz.length : Int)) then some (mkA false rt nn hops nm qz (AR.bad 210)) else none else none else some (mkA false rt nn hops nm qz (AR.bad 210)) else none else none else none else none else none else none else none else none := by kernel_rfl
theorem e24A6 (m n : Nat) (rt nn st wy : Int) (fc : Bool) (hops qz pz : List D) (nm : List UInt8) (mr mn sp mw : Int) (k1 k2 : Bool) (mh ms : List D) (mm : List UInt8) : Tree.out (enterM E17 (callN E17 (m+40)) n c42 [.d (sagaD rt nn st wy false false false fc hops qz pz nm), .d (moveD 6 mr mn sp mw k1 k2 mh ms mm)] []) = bif decide (qz.length ≤ 1000000) then bif decide (pz.length ≤ 1000000) then bif (bif mayOk rt nn st wy fc hops qz pz nm then (0 : Int) else (230 : Int)) != 0 then some (mkA false rt nn hops nm qz (AR.bad (bif mayOk rt nn st wy fc hops qz pz nm then (0 : Int) else (230 : Int)))) else bif (bif moveOk 6 mr mn sp mw mh ms mm then (0 : Int) else (140 : Int)) != 0 then some (mkA false rt nn hops nm qz (AR.bad 210)) else bif decide (mh.length ≤ 1000000) then bif idCmp mr mn rt nn mh hops != 0 then some (mkA false rt nn hops nm qz (AR.bad 210)) else bif decide (hops.length ≤ 1000000) then bif decide (qz.length ≤ 1000000) then bif decide (pz.length ≤ 1000000) then bif st == 7 then some (mkA false rt nn hops nm qz (AR.bad 210)) else bif decide ((pz.length : Int) ≤ sp) then some (mkA false rt nn hops nm qz (AR.bad 210)) else bif decide (0 ≤ sp ∧ sp < (qz.length : Int)) then bif !fs 4 (qz.getD sp.toNat .nilp) == [] then bif decide (0 ≤ sp ∧ sp < (pz.length : Int)) then bif st == 1 then bif decide (pz.length ≤ 1000000) then bif sp == cur st pz then bif decide (0 ≤ sp ∧ sp < (pz.length : Int)) then bif hasI (fi 0 (pz.getD sp.toNat .nilp)) (D.int .i64 1) || false then bif decide (0 ≤ sp ∧ sp < (pz.length : Int)) then some (mkA false rt nn hops nm qz (AR.good st wy fc ((List.set pz (sp.toNat) (D.agg [D.int .i64 2, D.int .i64 (fi 1 (pz.getD sp.toNat .nilp))]))))) else none else some (mkA false rt nn hops nm qz (AR.bad 210)) else none else some (mkA false rt nn hops nm qz (AR.bad 210)) else none else some (mkA false rt nn hops nm qz (AR.bad 210)) else none else bif decide (pz.length ≤ 1000000) then bif sp == cur st pz then bif decide (0 ≤ sp ∧ sp < (qz.length : Int)) then bif !!!fs 4 (qz.getD sp.toNat .nilp) == [] then some (mkA false rt nn hops nm qz (AR.bad 210)) else bif decide (0 ≤ sp ∧ sp < (pz.length : Int)) then some (mkA false rt nn hops nm qz (AR.bad 210)) else none else none else some (mkA false rt nn hops nm qz (AR.bad 210)) else none else none else none else none else none else none else none else none := by kernel_rfl
theorem e24A7 (m n : Nat) (rt nn st wy : Int) (fc : Bool) (hops qz pz : List D) (nm : List UInt8) (mr mn sp mw : Int) (k1 k2 : Bool) (mh ms : List D) (mm : List UInt8) : Tree.out (enterM E17 (callN E17 (m+40)) n c42 [.d (sagaD rt nn st wy false false false fc hops qz pz nm), .d (moveD 7 mr mn sp mw k1 k2 mh ms mm)] []) = bif decide (qz.length ≤ 1000000) then bif decide (pz.length ≤ 1000000) then bif (bif mayOk rt nn st wy fc hops qz pz nm then (0 : Int) else (230 : Int)) != 0 then some (mkA false rt nn hops nm qz (AR.bad (bif mayOk rt nn st wy fc hops qz pz nm then (0 : Int) else (230 : Int)))) else bif (bif moveOk 7 mr mn sp mw mh ms mm then (0 : Int) else (140 : Int)) != 0 then some (mkA false rt nn hops nm qz (AR.bad 210)) else bif decide (mh.length ≤ 1000000) then bif idCmp mr mn rt nn mh hops != 0 then some (mkA false rt nn hops nm qz (AR.bad 210)) else bif decide (hops.length ≤ 1000000) then bif decide (qz.length ≤ 1000000) then bif decide (pz.length ≤ 1000000) then bif st == 7 then some (mkA false rt nn hops nm qz (AR.bad 210)) else bif decide ((pz.length : Int) ≤ sp) then some (mkA false rt nn hops nm qz (AR.bad 210)) else bif decide (0 ≤ sp ∧ sp < (qz.length : Int)) then bif !fs 4 (qz.getD sp.toNat .nilp) == [] then bif decide (0 ≤ sp ∧ sp < (pz.length : Int)) then bif st == 1 then bif decide (pz.length ≤ 1000000) then bif fc then bif decide (0 ≤ sp ∧ sp < (pz.length : Int)) then bif hasI (fi 0 (pz.getD sp.toNat .nilp)) (D.int .i64 1) || (hasI (fi 0 (pz.getD sp.toNat .nilp)) (D.int .i64 2) || false) then bif decide (0 ≤ sp ∧ sp < (pz.length : Int)) then some (mkA false rt nn hops nm qz (AR.good st wy fc ((List.set pz (sp.toNat) (D.agg [D.int .i64 3, D.int .i64 (fi 1 (pz.getD sp.toNat .nilp))]))))) else none else some (mkA false rt nn hops nm qz (AR.bad 210)) else none else bif st != 3 then bif st != 6 then bif decide (0 ≤ sp ∧ sp < (pz.length : Int)) then bif hasI (fi 0 (pz.getD sp.toNat .nilp)) (D.int .i64 1) || (hasI (fi 0 (pz.getD sp.toNat .nilp)) (D.int .i64 2) || false) then bif decide (0 ≤ sp ∧ sp < (pz.length : Int)) then some (mkA false rt nn hops nm qz (AR.good st wy fc ((List.set pz (sp.toNat) (D.agg [D.int .i64 3, D.int .i64 (fi 1 (pz.getD sp.toNat .nilp))]))))) else none else some (mkA false rt nn hops nm qz (AR.bad 210)) else none else some (mkA false rt nn hops nm qz (AR.bad 210)) else some (mkA false rt nn hops nm qz (AR.bad 210)) else none else bif fc then bif decide (0 ≤ sp ∧ sp < (pz.length : Int)) then bif hasI (fi 0 (pz.getD sp.toNat .nilp)) (D.int .i64 1) || (hasI (fi 0 (pz.getD sp.toNat .nilp)) (D.int .i64 2) || false) then bif decide (0 ≤ sp ∧ sp < (pz.length : Int)) then some (mkA false rt nn hops nm qz (AR.good st wy fc ((List.set pz (sp.toNat) (D.agg [D.int .i64 3, D.int .i64 (fi 1 (pz.getD sp.toNat .nilp))]))))) else none else some (mkA false rt nn hops nm qz (AR.bad 210)) else none else bif st != 3 then bif st != 6 then bif decide (0 ≤ sp ∧ sp < (pz.length : Int)) then bif hasI (fi 0 (pz.getD sp.toNat .nilp)) (D.int .i64 1) || (hasI (fi 0 (pz.getD sp.toNat .nilp)) (D.int .i64 2) || false) then bif decide (0 ≤ sp ∧ sp < (pz.length : Int)) then some (mkA false rt nn hops nm qz (AR.good st wy fc ((List.set pz (sp.toNat) (D.agg [D.int .i64 3, D.int .i64 (fi 1 (pz.getD sp.toNat .nilp))]))))) else none else some (mkA false rt nn hops nm qz (AR.bad 210)) else none else some (mkA false rt nn hops nm qz (AR.bad 210)) else some (mkA false rt nn hops nm qz (AR.bad 210)) else none else bif decide (pz.length ≤ 1000000) then bif sp == cur st pz then bif decide (0 ≤ sp ∧ sp < (qz.length : Int)) then bif !!!fs 4 (qz.getD sp.toNat .nilp) == [] then some (mkA false rt nn hops nm qz (AR.bad 210)) else bif decide (0 ≤ sp ∧ sp < (pz.length : Int)) then some (mkA false rt nn hops nm qz (AR.bad 210)) else none else none else some (mkA false rt nn hops nm qz (AR.bad 210)) else none else none else none else none else none else none else none else none := by kernel_rfl
theorem e24A8 (m n : Nat) (rt nn st wy : Int) (fc : Bool) (hops qz pz : List D) (nm : List UInt8) (mr mn sp mw : Int) (k1 k2 : Bool) (mh ms : List D) (mm : List UInt8) : Tree.out (enterM E17 (callN E17 (m+40)) n c42 [.d (sagaD rt nn st wy false false false fc hops qz pz nm), .d (moveD 8 mr mn sp mw k1 k2 mh ms mm)] []) = bif decide (qz.length ≤ 1000000) then bif decide (pz.length ≤ 1000000) then bif (bif mayOk rt nn st wy fc hops qz pz nm then (0 : Int) else (230 : Int)) != 0 then some (mkA false rt nn hops nm qz (AR.bad (bif mayOk rt nn st wy fc hops qz pz nm then (0 : Int) else (230 : Int)))) else bif (bif moveOk 8 mr mn sp mw mh ms mm then (0 : Int) else (140 : Int)) != 0 then some (mkA false rt nn hops nm qz (AR.bad 210)) else bif decide (mh.length ≤ 1000000) then bif idCmp mr mn rt nn mh hops != 0 then some (mkA false rt nn hops nm qz (AR.bad 210)) else bif decide (hops.length ≤ 1000000) then bif decide (qz.length ≤ 1000000) then bif decide (pz.length ≤ 1000000) then bif st == 7 then some (mkA false rt nn hops nm qz (AR.bad 210)) else bif st == 1 then bif decide (0 < (hops.length : Int)) then bif decide (pz.length ≤ 1000000) then bif allI p135 (pz.length) pz qz then some (mkA false rt nn hops nm qz (AR.good 2 0 fc (pz))) else some (mkA false rt nn hops nm qz (AR.bad 210)) else none else some (mkA false rt nn hops nm qz (AR.bad 210)) else some (mkA false rt nn hops nm qz (AR.bad 210)) else none else none else none else none else none else none := by kernel_rfl
theorem e24A9 (m n : Nat) (rt nn st wy : Int) (fc : Bool) (hops qz pz : List D) (nm : List UInt8) (mr mn sp mw : Int) (k1 k2 : Bool) (mh ms : List D) (mm : List UInt8) : Tree.out (enterM E17 (callN E17 (m+40)) n c42 [.d (sagaD rt nn st wy false false false fc hops qz pz nm), .d (moveD 9 mr mn sp mw k1 k2 mh ms mm)] []) = bif decide (qz.length ≤ 1000000) then bif decide (pz.length ≤ 1000000) then bif (bif mayOk rt nn st wy fc hops qz pz nm then (0 : Int) else (230 : Int)) != 0 then some (mkA false rt nn hops nm qz (AR.bad (bif mayOk rt nn st wy fc hops qz pz nm then (0 : Int) else (230 : Int)))) else bif (bif moveOk 9 mr mn sp mw mh ms mm then (0 : Int) else (140 : Int)) != 0 then some (mkA false rt nn hops nm qz (AR.bad 210)) else bif decide (mh.length ≤ 1000000) then bif idCmp mr mn rt nn mh hops != 0 then some (mkA false rt nn hops nm qz (AR.bad 210)) else bif decide (hops.length ≤ 1000000) then bif decide (qz.length ≤ 1000000) then bif decide (pz.length ≤ 1000000) then bif st == 7 then some (mkA false rt nn hops nm qz (AR.bad 210)) else bif st == 1 then bif !decide (0 < (hops.length : Int)) then bif decide (pz.length ≤ 1000000) then bif !allI p135 (pz.length) pz qz then some (mkA false rt nn hops nm qz (AR.bad 210)) else bif decide (pz.length ≤ 1000000) then bif decide (pz.length ≤ qz.length) then some (mkA false rt nn hops nm qz (AR.good 3 0 fc ((ownParts 4 pz qz)))) else none else none else none else bif !st == 2 then some (mkA false rt nn hops nm qz (AR.bad 210)) else bif decide (pz.length ≤ 1000000) then bif !allI p135 (pz.length) pz qz then some (mkA false rt nn hops nm qz (AR.bad 210)) else bif decide (pz.length ≤ 1000000) then bif decide (pz.length ≤ qz.length) then some (mkA false rt nn hops nm qz (AR.good 3 0 fc ((ownParts 4 pz qz)))) else none else none else none else bif !st == 2 then some (mkA false rt nn hops nm qz (AR.bad 210)) else bif decide (pz.length ≤ 1000000) then bif !allI p135 (pz.length) pz qz then some (mkA false rt nn hops nm qz (AR.bad 210)) else bif decide (pz.length ≤ 1000000) then bif decide (pz.length ≤ qz.length) then some (mkA false rt nn hops nm qz (AR.good 3 0 fc ((ownParts 4 pz qz)))) else none else none else none else none else none else none else none else none else none := by kernel_rfl
theorem e24A10 (m n : Nat) (rt nn st wy : Int) (fc : Bool) (hops qz pz : List D) (nm : List UInt8) (mr mn sp mw : Int) (k1 k2 : Bool) (mh ms : List D) (mm : List UInt8) : Tree.out (enterM E17 (callN E17 (m+40)) n c42 [.d (sagaD rt nn st wy false false false fc hops qz pz nm), .d (moveD 10 mr mn sp mw k1 k2 mh ms mm)] []) = bif decide (qz.length ≤ 1000000) then bif decide (pz.length ≤ 1000000) then bif (bif mayOk rt nn st wy fc hops qz pz nm then (0 : Int) else (230 : Int)) != 0 then some (mkA false rt nn hops nm qz (AR.bad (bif mayOk rt nn st wy fc hops qz pz nm then (0 : Int) else (230 : Int)))) else bif (bif moveOk 10 mr mn sp mw mh ms mm then (0 : Int) else (140 : Int)) != 0 then some (mkA false rt nn hops nm qz (AR.bad 210)) else bif decide (mh.length ≤ 1000000) then bif idCmp mr mn rt nn mh hops != 0 then some (mkA false rt nn hops nm qz (AR.bad 210)) else bif decide (hops.length ≤ 1000000) then bif decide (qz.length ≤ 1000000) then bif decide (pz.length ≤ 1000000) then bif st == 7 then some (mkA false rt nn hops nm qz (AR.bad 210)) else bif !st == 1 then bif st == 2 then bif mw == 7 then bif decide (pz.length ≤ 1000000) then some (mkA false rt nn hops nm qz (AR.good 4 mw fc ((calmParts pz)))) else none else bif mw == 5 then bif decide (pz.length ≤ 1000000) then bif !!allI (p97 [D.int .i64 3]) (pz.length) pz qz then some (mkA false rt nn hops nm qz (AR.bad 210)) else bif decide (pz.length ≤ 1000000) then some (mkA false rt nn hops nm qz (AR.good 4 mw fc ((calmParts pz)))) else none else none else some (mkA false rt nn hops nm qz (AR.bad 210)) else some (mkA false rt nn hops nm qz (AR.bad 210)) else bif decide (pz.length ≤ 1000000) then some (mkA false rt nn hops nm qz (AR.good 4 mw fc ((calmParts pz)))) else none else none else none else none else none else none else none := by kernel_rfl
theorem e24A11 (m n : Nat) (rt nn st wy : Int) (fc : Bool) (hops qz pz : List D) (nm : List UInt8) (mr mn sp mw : Int) (k1 k2 : Bool) (mh ms : List D) (mm : List UInt8) : Tree.out (enterM E17 (callN E17 (m+40)) n c42 [.d (sagaD rt nn st wy false false false fc hops qz pz nm), .d (moveD 11 mr mn sp mw k1 k2 mh ms mm)] []) = bif decide (qz.length ≤ 1000000) then bif decide (pz.length ≤ 1000000) then bif (bif mayOk rt nn st wy fc hops qz pz nm then (0 : Int) else (230 : Int)) != 0 then some (mkA false rt nn hops nm qz (AR.bad (bif mayOk rt nn st wy fc hops qz pz nm then (0 : Int) else (230 : Int)))) else bif (bif moveOk 11 mr mn sp mw mh ms mm then (0 : Int) else (140 : Int)) != 0 then some (mkA false rt nn hops nm qz (AR.bad 210)) else bif decide (mh.length ≤ 1000000) then bif idCmp mr mn rt nn mh hops != 0 then some (mkA false rt nn hops nm qz (AR.bad 210)) else bif decide (hops.length ≤ 1000000) then bif decide (qz.length ≤ 1000000) then bif decide (pz.length ≤ 1000000) then bif st == 7 then some (mkA false rt nn hops nm qz (AR.bad 210)) else bif decide ((pz.length : Int) ≤ sp) then some (mkA false rt nn hops nm qz (AR.bad 210)) else bif decide (0 ≤ sp ∧ sp < (qz.length : Int)) then bif !fs 4 (qz.getD sp.toNat .nilp) == [] then bif decide (0 ≤ sp ∧ sp < (pz.length : Int)) then bif st == 1 then bif decide (pz.length ≤ 1000000) then some (mkA false rt nn hops nm qz (AR.bad 210)) else none else some (mkA false rt nn hops nm qz (AR.bad 210)) else none else bif decide (pz.length ≤ 1000000) then bif sp == cur st pz then bif decide (0 ≤ sp ∧ sp < (qz.length : Int)) then bif !!!fs 4 (qz.getD sp.toNat .nilp) == [] then some (mkA false rt nn hops nm qz (AR.bad 210)) else bif decide (0 ≤ sp ∧ sp < (pz.length : Int)) then bif st == 4 then bif decide (0 ≤ sp ∧ sp < (pz.length : Int)) then some (mkA false rt nn hops nm qz (AR.good st wy fc ((List.set pz (sp.toNat) (D.agg [D.int .i64 3, D.int .i64 0]))))) else none else some (mkA false rt nn hops nm qz (AR.bad 210)) else none else none else some (mkA false rt nn hops nm qz (AR.bad 210)) else none else none else none else none else none else none else none else none := by kernel_rfl
theorem e24A12 (m n : Nat) (rt nn st wy : Int) (fc : Bool) (hops qz pz : List D) (nm : List UInt8) (mr mn sp mw : Int) (k1 k2 : Bool) (mh ms : List D) (mm : List UInt8) : Tree.out (enterM E17 (callN E17 (m+40)) n c42 [.d (sagaD rt nn st wy false false false fc hops qz pz nm), .d (moveD 12 mr mn sp mw k1 k2 mh ms mm)] []) = bif decide (qz.length ≤ 1000000) then bif decide (pz.length ≤ 1000000) then bif (bif mayOk rt nn st wy fc hops qz pz nm then (0 : Int) else (230 : Int)) != 0 then some (mkA false rt nn hops nm qz (AR.bad (bif mayOk rt nn st wy fc hops qz pz nm then (0 : Int) else (230 : Int)))) else bif (bif moveOk 12 mr mn sp mw mh ms mm then (0 : Int) else (140 : Int)) != 0 then some (mkA false rt nn hops nm qz (AR.bad 210)) else bif decide (mh.length ≤ 1000000) then bif idCmp mr mn rt nn mh hops != 0 then some (mkA false rt nn hops nm qz (AR.bad 210)) else bif decide (hops.length ≤ 1000000) then bif decide (qz.length ≤ 1000000) then bif decide (pz.length ≤ 1000000) then bif st == 7 then some (mkA false rt nn hops nm qz (AR.bad 210)) else bif decide ((pz.length : Int) ≤ sp) then some (mkA false rt nn hops nm qz (AR.bad 210)) else bif decide (0 ≤ sp ∧ sp < (qz.length : Int)) then bif !fs 4 (qz.getD sp.toNat .nilp) == [] then bif decide (0 ≤ sp ∧ sp < (pz.length : Int)) then bif st == 1 then bif decide (pz.length ≤ 1000000) then some (mkA false rt nn hops nm qz (AR.bad 210)) else none else some (mkA false rt nn hops nm qz (AR.bad 210)) else none else bif decide (pz.length ≤ 1000000) then bif sp == cur st pz then bif decide (0 ≤ sp ∧ sp < (qz.length : Int)) then bif !!!fs 4 (qz.getD sp.toNat .nilp) == [] then some (mkA false rt nn hops nm qz (AR.bad 210)) else bif decide (0 ≤ sp ∧ sp < (pz.length : Int)) then bif st == 4 then bif fi 1 (pz.getD sp.toNat .nilp) == 5 then some (mkA false rt nn hops nm qz (AR.good 5 wy fc (pz))) else some (mkA false rt nn hops nm qz (AR.bad 210)) else some (mkA false rt nn hops nm qz (AR.bad 210)) else none else none else some (mkA false rt nn hops nm qz (AR.bad 210)) else none else none else none else none else none else none else none else none := by kernel_rfl
theorem e24A13 (m n : Nat) (rt nn st wy : Int) (fc : Bool) (hops qz pz : List D) (nm : List UInt8) (mr mn sp mw : Int) (k1 k2 : Bool) (mh ms : List D) (mm : List UInt8) : Tree.out (enterM E17 (callN E17 (m+40)) n c42 [.d (sagaD rt nn st wy false false false fc hops qz pz nm), .d (moveD 13 mr mn sp mw k1 k2 mh ms mm)] []) = bif decide (qz.length ≤ 1000000) then bif decide (pz.length ≤ 1000000) then bif (bif mayOk rt nn st wy fc hops qz pz nm then (0 : Int) else (230 : Int)) != 0 then some (mkA false rt nn hops nm qz (AR.bad (bif mayOk rt nn st wy fc hops qz pz nm then (0 : Int) else (230 : Int)))) else bif (bif moveOk 13 mr mn sp mw mh ms mm then (0 : Int) else (140 : Int)) != 0 then some (mkA false rt nn hops nm qz (AR.bad 210)) else bif decide (mh.length ≤ 1000000) then bif idCmp mr mn rt nn mh hops != 0 then some (mkA false rt nn hops nm qz (AR.bad 210)) else bif decide (hops.length ≤ 1000000) then bif decide (qz.length ≤ 1000000) then bif decide (pz.length ≤ 1000000) then bif st == 7 then some (mkA false rt nn hops nm qz (AR.bad 210)) else bif st != 5 then some (mkA false rt nn hops nm qz (AR.bad 210)) else bif decide (pz.length ≤ 1000000) then bif decide (0 ≤ cur st pz ∧ cur st pz < (pz.length : Int)) then some (mkA false rt nn hops nm qz (AR.good 4 wy fc ((List.set pz (Int.toNat (cur st pz)) (D.agg [D.int .i64 (fi 0 (List.getD pz (Int.toNat (cur st pz)) D.nilp)), D.int .i64 0]))))) else none else none else none else none else none else none else none else none := by kernel_rfl
theorem e24A14 (m n : Nat) (rt nn st wy : Int) (fc : Bool) (hops qz pz : List D) (nm : List UInt8) (mr mn sp mw : Int) (k1 k2 : Bool) (mh ms : List D) (mm : List UInt8) : Tree.out (enterM E17 (callN E17 (m+40)) n c42 [.d (sagaD rt nn st wy false false false fc hops qz pz nm), .d (moveD 14 mr mn sp mw k1 k2 mh ms mm)] []) = bif decide (qz.length ≤ 1000000) then bif decide (pz.length ≤ 1000000) then bif (bif mayOk rt nn st wy fc hops qz pz nm then (0 : Int) else (230 : Int)) != 0 then some (mkA false rt nn hops nm qz (AR.bad (bif mayOk rt nn st wy fc hops qz pz nm then (0 : Int) else (230 : Int)))) else bif (bif moveOk 14 mr mn sp mw mh ms mm then (0 : Int) else (140 : Int)) != 0 then some (mkA false rt nn hops nm qz (AR.bad 210)) else bif decide (mh.length ≤ 1000000) then bif idCmp mr mn rt nn mh hops != 0 then some (mkA false rt nn hops nm qz (AR.bad 210)) else bif decide (hops.length ≤ 1000000) then bif decide (qz.length ≤ 1000000) then bif decide (pz.length ≤ 1000000) then bif st == 7 then some (mkA false rt nn hops nm qz (AR.bad 210)) else bif st == 4 then bif decide (pz.length ≤ 1000000) then bif decide (cur st pz < 0) then some (mkA false rt nn hops nm qz (AR.good 6 wy fc (pz))) else some (mkA false rt nn hops nm qz (AR.bad 210)) else none else some (mkA false rt nn hops nm qz (AR.bad 210)) else none else none else none else none else none else none := by kernel_rfl
theorem e24A15 (m n : Nat) (rt nn st wy : Int) (fc : Bool) (hops qz pz : List D) (nm : List UInt8) (mr mn sp mw : Int) (k1 k2 : Bool) (mh ms : List D) (mm : List UInt8) : Tree.out (enterM E17 (callN E17 (m+40)) n c42 [.d (sagaD rt nn st wy false false false fc hops qz pz nm), .d (moveD 15 mr mn sp mw k1 k2 mh ms mm)] []) = bif decide (qz.length ≤ 1000000) then bif decide (pz.length ≤ 1000000) then bif (bif mayOk rt nn st wy fc hops qz pz nm then (0 : Int) else (230 : Int)) != 0 then some (mkA false rt nn hops nm qz (AR.bad (bif mayOk rt nn st wy fc hops qz pz nm then (0 : Int) else (230 : Int)))) else bif (bif moveOk 15 mr mn sp mw mh ms mm then (0 : Int) else (140 : Int)) != 0 then some (mkA false rt nn hops nm qz (AR.bad 210)) else bif decide (mh.length ≤ 1000000) then bif idCmp mr mn rt nn mh hops != 0 then some (mkA false rt nn hops nm qz (AR.bad 210)) else bif decide (hops.length ≤ 1000000) then bif decide (qz.length ≤ 1000000) then bif decide (pz.length ≤ 1000000) then bif st == 7 then some (mkA false rt nn hops nm qz (AR.bad 210)) else bif decide ((pz.length : Int) ≤ sp) then some (mkA false rt nn hops nm qz (AR.bad 210)) else bif decide (0 ≤ sp ∧ sp < (qz.length : Int)) then bif !fs 4 (qz.getD sp.toNat .nilp) == [] then bif decide (0 ≤ sp ∧ sp < (pz.length : Int)) then bif st == 1 then bif decide (pz.length ≤ 1000000) then bif st == 3 then bif decide (0 ≤ sp ∧ sp < (pz.length : Int)) then bif hasI (fi 0 (pz.getD sp.toNat .nilp)) (D.int .i64 2) || false then bif decide (0 ≤ sp ∧ sp < (pz.length : Int)) then some (mkA false rt nn hops nm qz (AR.good st wy fc ((List.set pz (sp.toNat) (D.agg [D.int .i64 4, D.int .i64 (fi 1 (pz.getD sp.toNat .nilp))]))))) else none else some (mkA false rt nn hops nm qz (AR.bad 210)) else none else some (mkA false rt nn hops nm qz (AR.bad 210)) else none else bif st == 3 then bif decide (0 ≤ sp ∧ sp < (pz.length : Int)) then bif hasI (fi 0 (pz.getD sp.toNat .nilp)) (D.int .i64 2) || false then bif decide (0 ≤ sp ∧ sp < (pz.length : Int)) then some (mkA false rt nn hops nm qz (AR.good st wy fc ((List.set pz (sp.toNat) (D.agg [D.int .i64 4, D.int .i64 (fi 1 (pz.getD sp.toNat .nilp))]))))) else none else some (mkA false rt nn hops nm qz (AR.bad 210)) else none else some (mkA false rt nn hops nm qz (AR.bad 210)) else none else bif decide (pz.length ≤ 1000000) then bif sp == cur st pz then bif decide (0 ≤ sp ∧ sp < (qz.length : Int)) then bif !!!fs 4 (qz.getD sp.toNat .nilp) == [] then some (mkA false rt nn hops nm qz (AR.bad 210)) else bif decide (0 ≤ sp ∧ sp < (pz.length : Int)) then some (mkA false rt nn hops nm qz (AR.bad 210)) else none else none else some (mkA false rt nn hops nm qz (AR.bad 210)) else none else none else none else none else none else none else none else none := by kernel_rfl
theorem e24A16 (m n : Nat) (rt nn st wy : Int) (fc : Bool) (hops qz pz : List D) (nm : List UInt8) (mr mn sp mw : Int) (k1 k2 : Bool) (mh ms : List D) (mm : List UInt8) : Tree.out (enterM E17 (callN E17 (m+40)) n c42 [.d (sagaD rt nn st wy false false false fc hops qz pz nm), .d (moveD 16 mr mn sp mw k1 k2 mh ms mm)] []) = bif decide (qz.length ≤ 1000000) then bif decide (pz.length ≤ 1000000) then bif (bif mayOk rt nn st wy fc hops qz pz nm then (0 : Int) else (230 : Int)) != 0 then some (mkA false rt nn hops nm qz (AR.bad (bif mayOk rt nn st wy fc hops qz pz nm then (0 : Int) else (230 : Int)))) else bif (bif moveOk 16 mr mn sp mw mh ms mm then (0 : Int) else (140 : Int)) != 0 then some (mkA false rt nn hops nm qz (AR.bad 210)) else bif decide (mh.length ≤ 1000000) then bif idCmp mr mn rt nn mh hops != 0 then some (mkA false rt nn hops nm qz (AR.bad 210)) else bif decide (hops.length ≤ 1000000) then bif decide (qz.length ≤ 1000000) then bif decide (pz.length ≤ 1000000) then bif st == 7 then some (mkA false rt nn hops nm qz (AR.bad 210)) else bif st == 3 then some (mkA false rt nn hops nm qz (AR.bad 210)) else bif st == 6 then some (mkA false rt nn hops nm qz (AR.bad 210)) else bif decide (pz.length ≤ 1000000) then bif sp == 1 then bif decide (List.length (calmParts pz) ≤ 1000000) then bif decide (List.length (calmParts pz) ≤ qz.length) then some (mkA false rt nn hops nm qz (AR.good 3 wy true ((ownParts 4 (calmParts pz) qz)))) else none else none else bif decide (List.length (calmParts pz) ≤ 1000000) then bif decide (List.length (calmParts pz) ≤ qz.length) then some (mkA false rt nn hops nm qz (AR.good 6 wy true ((ownParts 3 (calmParts pz) qz)))) else none else none else none else none else none else none else none else none else none := by kernel_rfl
theorem e24B1 (m n : Nat) (rt nn st wy : Int) (fc : Bool) (qz pz : List D) (nm : List UInt8) (mr mn sp mw : Int) (k1 k2 : Bool) (mh ms : List D) (mm : List UInt8) : Tree.out (enterM E17 (callN E17 (m+40)) n c42 [.d (sagaD rt nn st wy true false false fc [] qz pz nm), .d (moveD 1 mr mn sp mw k1 k2 mh ms mm)] []) = bif decide (qz.length ≤ 1000000) then bif decide (pz.length ≤ 1000000) then bif (bif mayOk rt nn st wy fc [] qz pz nm then (0 : Int) else (230 : Int)) != 0 then some (mkA true rt nn [] nm qz (AR.bad (bif mayOk rt nn st wy fc [] qz pz nm then (0 : Int) else (230 : Int)))) else bif (bif moveOk 1 mr mn sp mw mh ms mm then (0 : Int) else (140 : Int)) != 0 then some (mkA true rt nn [] nm qz (AR.bad 210)) else bif decide (mh.length ≤ 1000000) then bif idCmp mr mn rt nn mh [] != 0 then some (mkA true rt nn [] nm qz (AR.bad 210)) else bif decide (qz.length ≤ 1000000) then bif decide (pz.length ≤ 1000000) then bif st == 7 then some (mkA true rt nn [] nm qz (AR.bad 210)) else some (mkA true rt nn [] nm qz (AR.bad 210)) else none else none else none else none else none := by kernel_rfl
theorem e24B2 (m n : Nat) (rt nn st wy : Int) (fc : Bool) (qz pz : List D) (nm : List UInt8) (mr mn sp mw : Int) (k1 k2 : Bool) (mh ms : List D) (mm : List UInt8) : Tree.out (enterM E17 (callN E17 (m+40)) n c42 [.d (sagaD rt nn st wy true false false fc [] qz pz nm), .d (moveD 2 mr mn sp mw k1 k2 mh ms mm)] []) = bif decide (qz.length ≤ 1000000) then bif decide (pz.length ≤ 1000000) then bif (bif mayOk rt nn st wy fc [] qz pz nm then (0 : Int) else (230 : Int)) != 0 then some (mkA true rt nn [] nm qz (AR.bad (bif mayOk rt nn st wy fc [] qz pz nm then (0 : Int) else (230 : Int)))) else bif (bif moveOk 2 mr mn sp mw mh ms mm then (0 : Int) else (140 : Int)) != 0 then some (mkA true rt nn [] nm qz (AR.bad 210)) else bif decide (mh.length ≤ 1000000) then bif idCmp mr mn rt nn mh [] != 0 then some (mkA true rt nn [] nm qz (AR.bad 210)) else bif decide (qz.length ≤ 1000000) then bif decide (pz.length ≤ 1000000) then bif st == 7 then some (mkA true rt nn [] nm qz (AR.bad 210)) else some (mkA true rt nn [] nm qz (AR.bad 210)) else none else none else none else none else none := by kernel_rfl
theorem e24B3 (m n : Nat) (rt nn st wy : Int) (fc : Bool) (qz pz : List D) (nm : List UInt8) (mr mn sp mw : Int) (k1 k2 : Bool) (mh ms : List D) (mm : List UInt8) : Tree.out (enterM E17 (callN E17 (m+40)) n c42 [.d (sagaD rt nn st wy true false false fc [] qz pz nm), .d (moveD 3 mr mn sp mw k1 k2 mh ms mm)] []) = bif decide (qz.length ≤ 1000000) then bif decide (pz.length ≤ 1000000) then bif (bif mayOk rt nn st wy fc [] qz pz nm then (0 : Int) else (230 : Int)) != 0 then some (mkA true rt nn [] nm qz (AR.bad (bif mayOk rt nn st wy fc [] qz pz nm then (0 : Int) else (230 : Int)))) else bif (bif moveOk 3 mr mn sp mw mh ms mm then (0 : Int) else (140 : Int)) != 0 then some (mkA true rt nn [] nm qz (AR.bad 210)) else bif decide (mh.length ≤ 1000000) then bif idCmp mr mn rt nn mh [] != 0 then some (mkA true rt nn [] nm qz (AR.bad 210)) else bif decide (qz.length ≤ 1000000) then bif decide (pz.length ≤ 1000000) then bif st == 7 then some (mkA true rt nn [] nm qz (AR.bad 210)) else bif decide ((pz.length : Int) ≤ sp) then some (mkA true rt nn [] nm qz (AR.bad 210)) else bif decide (0 ≤ sp ∧ sp < (qz.length : Int)) then bif !fs 4 (qz.getD sp.toNat .nilp) == [] then bif decide (0 ≤ sp ∧ sp < (pz.length : Int)) then bif st == 1 then bif decide (pz.length ≤ 1000000) then some (mkA true rt nn [] nm qz (AR.bad 210)) else none else some (mkA true rt nn [] nm qz (AR.bad 210)) else none else bif decide (pz.length ≤ 1000000) then bif sp == cur st pz then bif decide (0 ≤ sp ∧ sp < (qz.length : Int)) then bif !!!fs 4 (qz.getD sp.toNat .nilp) == [] then some (mkA true rt nn [] nm qz (AR.bad 210)) else bif decide (0 ≤ sp ∧ sp < (pz.length : Int)) then bif st == 1 then bif decide (0 ≤ sp ∧ sp < (qz.length : Int)) then bif decide (fi 1 (pz.getD sp.toNat .nilp) < fi 5 (qz.getD sp.toNat .nilp)) then bif decide (0 ≤ sp ∧ sp < (pz.length : Int)) then bif decide (0 ≤ sp ∧ sp < (pz.length : Int)) then some (mkA true rt nn [] nm qz (AR.good st wy fc ((List.set pz (sp.toNat) (D.agg [D.int .i64 (fi 0 (pz.getD sp.toNat .nilp)), D.int .i64 (IntKind.wrap .i64 (fi 1 (pz.getD sp.toNat .nilp) + 1))]))))) else none else none else bif st == 4 then bif decide (fi 1 (pz.getD sp.toNat .nilp) < 5) then bif decide (0 ≤ sp ∧ sp < (pz.length : Int)) then bif decide (0 ≤ sp ∧ sp < (pz.length : Int)) then some (mkA true rt nn [] nm qz (AR.good st wy fc ((List.set pz (sp.toNat) (D.agg [D.int .i64 (fi 0 (pz.getD sp.toNat .nilp)), D.int .i64 (IntKind.wrap .i64 (fi 1 (pz.getD sp.toNat .nilp) + 1))]))))) else none else none else some (mkA true rt nn [] nm qz (AR.bad 210)) else some (mkA true rt nn [] nm qz (AR.bad 210)) else none else bif st == 4 then bif decide (fi 1 (pz.getD sp.toNat .nilp) < 5) then bif decide (0 ≤ sp ∧ sp < (pz.length : Int)) then bif decide (0 ≤ sp ∧ sp < (pz.length : Int)) then some (mkA true rt nn [] nm qz (AR.good st wy fc ((List.set pz (sp.toNat) (D.agg [D.int .i64 (fi 0 (pz.getD sp.toNat .nilp)), D.int .i64 (IntKind.wrap .i64 (fi 1 (pz.getD sp.toNat .nilp) + 1))]))))) else none else none else some (mkA true rt nn [] nm qz (AR.bad 210)) else some (mkA true rt nn [] nm qz (AR.bad 210)) else none else none else some (mkA true rt nn [] nm qz (AR.bad 210)) else none else none else none else none else none else none else none := by kernel_rfl
theorem e24B4 (m n : Nat) (rt nn st wy : Int) (fc : Bool) (qz pz : List D) (nm : List UInt8) (mr mn sp mw : Int) (k1 k2 : Bool) (mh ms : List D) (mm : List UInt8) : Tree.out (enterM E17 (callN E17 (m+40)) n c42 [.d (sagaD rt nn st wy true false false fc [] qz pz nm), .d (moveD 4 mr mn sp mw k1 k2 mh ms mm)] []) = bif decide (qz.length ≤ 1000000) then bif decide (pz.length ≤ 1000000) then bif (bif mayOk rt nn st wy fc [] qz pz nm then (0 : Int) else (230 : Int)) != 0 then some (mkA true rt nn [] nm qz (AR.bad (bif mayOk rt nn st wy fc [] qz pz nm then (0 : Int) else (230 : Int)))) else bif (bif moveOk 4 mr mn sp mw mh ms mm then (0 : Int) else (140 : Int)) != 0 then some (mkA true rt nn [] nm qz (AR.bad 210)) else bif decide (mh.length ≤ 1000000) then bif idCmp mr mn rt nn mh [] != 0 then some (mkA true rt nn [] nm qz (AR.bad 210)) else bif decide (qz.length ≤ 1000000) then bif decide (pz.length ≤ 1000000) then bif st == 7 then some (mkA true rt nn [] nm qz (AR.bad 210)) else bif decide ((pz.length : Int) ≤ sp) then some (mkA true rt nn [] nm qz (AR.bad 210)) else bif decide (0 ≤ sp ∧ sp < (qz.length : Int)) then bif !fs 4 (qz.getD sp.toNat .nilp) == [] then bif decide (0 ≤ sp ∧ sp < (pz.length : Int)) then bif st == 1 then bif decide (pz.length ≤ 1000000) then some (mkA true rt nn [] nm qz (AR.bad 210)) else none else some (mkA true rt nn [] nm qz (AR.bad 210)) else none else bif decide (pz.length ≤ 1000000) then bif sp == cur st pz then bif decide (0 ≤ sp ∧ sp < (qz.length : Int)) then bif !!!fs 4 (qz.getD sp.toNat .nilp) == [] then some (mkA true rt nn [] nm qz (AR.bad 210)) else bif decide (0 ≤ sp ∧ sp < (pz.length : Int)) then bif st == 1 then bif decide (0 ≤ sp ∧ sp < (pz.length : Int)) then some (mkA true rt nn [] nm qz (AR.good st wy fc ((List.set pz (sp.toNat) (D.agg [D.int .i64 2, D.int .i64 0]))))) else none else some (mkA true rt nn [] nm qz (AR.bad 210)) else none else none else some (mkA true rt nn [] nm qz (AR.bad 210)) else none else none else none else none else none else none else none := by kernel_rfl
theorem e24B5 (m n : Nat) (rt nn st wy : Int) (fc : Bool) (qz pz : List D) (nm : List UInt8) (mr mn sp mw : Int) (k1 k2 : Bool) (mh ms : List D) (mm : List UInt8) : Tree.out (enterM E17 (callN E17 (m+40)) n c42 [.d (sagaD rt nn st wy true false false fc [] qz pz nm), .d (moveD 5 mr mn sp mw k1 k2 mh ms mm)] []) = bif decide (qz.length ≤ 1000000) then bif decide (pz.length ≤ 1000000) then bif (bif mayOk rt nn st wy fc [] qz pz nm then (0 : Int) else (230 : Int)) != 0 then some (mkA true rt nn [] nm qz (AR.bad (bif mayOk rt nn st wy fc [] qz pz nm then (0 : Int) else (230 : Int)))) else bif (bif moveOk 5 mr mn sp mw mh ms mm then (0 : Int) else (140 : Int)) != 0 then some (mkA true rt nn [] nm qz (AR.bad 210)) else bif decide (mh.length ≤ 1000000) then bif idCmp mr mn rt nn mh [] != 0 then some (mkA true rt nn [] nm qz (AR.bad 210)) else bif decide (qz.length ≤ 1000000) then bif decide (pz.length ≤ 1000000) then bif st == 7 then some (mkA true rt nn [] nm qz (AR.bad 210)) else bif decide ((pz.length : Int) ≤ sp) then some (mkA true rt nn [] nm qz (AR.bad 210)) else bif decide (0 ≤ sp ∧ sp < (qz.length : Int)) then bif !fs 4 (qz.getD sp.toNat .nilp) == [] then bif decide (0 ≤ sp ∧ sp < (pz.length : Int)) then bif st == 1 then bif decide (pz.length ≤ 1000000) then bif sp == cur st pz then bif decide (0 ≤ sp ∧ sp < (pz.length : Int)) then bif hasI (fi 0 (pz.getD sp.toNat .nilp)) (D.int .i64 0) || false then bif decide (0 ≤ sp ∧ sp < (pz.length : Int)) then some (mkA true rt nn [] nm qz (AR.good st wy fc ((List.set pz (sp.toNat) (D.agg [D.int .i64 1, D.int .i64 (fi 1 (pz.getD sp.toNat .nilp))]))))) else none else some (mkA true rt nn [] nm qz (AR.bad 210)) else none else some (mkA true rt nn [] nm qz (AR.bad 210)) else none else some (mkA true rt nn [] nm qz (AR.bad 210)) else none else bif decide (pz.length ≤ 1000000) then bif sp == cur st pz then bif decide (0 ≤ sp ∧ sp < (qz.length : Int)) then bif !!!fs 4 (qz.getD sp.toNat .nilp) == [] then some (mkA true rt nn [] nm qz (AR.bad 210)) else bif decide (0 ≤ sp ∧ sp < (pz.length : Int)) then some (mkA true rt nn [] nm qz (AR.bad 210)) else none else none else some (mkA true rt nn [] nm qz (AR.bad 210)) else none else none else none else none else none else none else none := by kernel_rfl
theorem e24B6 (m n : Nat) (rt nn st wy : Int) (fc : Bool) (qz pz : List D) (nm : List UInt8) (mr mn sp mw : Int) (k1 k2 : Bool) (mh ms : List D) (mm : List UInt8) : Tree.out (enterM E17 (callN E17 (m+40)) n c42 [.d (sagaD rt nn st wy true false false fc [] qz pz nm), .d (moveD 6 mr mn sp mw k1 k2 mh ms mm)] []) = bif decide (qz.length ≤ 1000000) then bif decide (pz.length ≤ 1000000) then bif (bif mayOk rt nn st wy fc [] qz pz nm then (0 : Int) else (230 : Int)) != 0 then some (mkA true rt nn [] nm qz (AR.bad (bif mayOk rt nn st wy fc [] qz pz nm then (0 : Int) else (230 : Int)))) else bif (bif moveOk 6 mr mn sp mw mh ms mm then (0 : Int) else (140 : Int)) != 0 then some (mkA true rt nn [] nm qz (AR.bad 210)) else bif decide (mh.length ≤ 1000000) then bif idCmp mr mn rt nn mh [] != 0 then some (mkA true rt nn [] nm qz (AR.bad 210)) else bif decide (qz.length ≤ 1000000) then bif decide (pz.length ≤ 1000000) then bif st == 7 then some (mkA true rt nn [] nm qz (AR.bad 210)) else bif decide ((pz.length : Int) ≤ sp) then some (mkA true rt nn [] nm qz (AR.bad 210)) else bif decide (0 ≤ sp ∧ sp < (qz.length : Int)) then bif !fs 4 (qz.getD sp.toNat .nilp) == [] then bif decide (0 ≤ sp ∧ sp < (pz.length : Int)) then bif st == 1 then bif decide (pz.length ≤ 1000000) then bif sp == cur st pz then bif decide (0 ≤ sp ∧ sp < (pz.length : Int)) then bif hasI (fi 0 (pz.getD sp.toNat .nilp)) (D.int .i64 1) || false then bif decide (0 ≤ sp ∧ sp < (pz.length : Int)) then some (mkA true rt nn [] nm qz (AR.good st wy fc ((List.set pz (sp.toNat) (D.agg [D.int .i64 2, D.int .i64 (fi 1 (pz.getD sp.toNat .nilp))]))))) else none else some (mkA true rt nn [] nm qz (AR.bad 210)) else none else some (mkA true rt nn [] nm qz (AR.bad 210)) else none else some (mkA true rt nn [] nm qz (AR.bad 210)) else none else bif decide (pz.length ≤ 1000000) then bif sp == cur st pz then bif decide (0 ≤ sp ∧ sp < (qz.length : Int)) then bif !!!fs 4 (qz.getD sp.toNat .nilp) == [] then some (mkA true rt nn [] nm qz (AR.bad 210)) else bif decide (0 ≤ sp ∧ sp < (pz.length : Int)) then some (mkA true rt nn [] nm qz (AR.bad 210)) else none else none else some (mkA true rt nn [] nm qz (AR.bad 210)) else none else none else none else none else none else none else none := by kernel_rfl
theorem e24B7 (m n : Nat) (rt nn st wy : Int) (fc : Bool) (qz pz : List D) (nm : List UInt8) (mr mn sp mw : Int) (k1 k2 : Bool) (mh ms : List D) (mm : List UInt8) : Tree.out (enterM E17 (callN E17 (m+40)) n c42 [.d (sagaD rt nn st wy true false false fc [] qz pz nm), .d (moveD 7 mr mn sp mw k1 k2 mh ms mm)] []) = bif decide (qz.length ≤ 1000000) then bif decide (pz.length ≤ 1000000) then bif (bif mayOk rt nn st wy fc [] qz pz nm then (0 : Int) else (230 : Int)) != 0 then some (mkA true rt nn [] nm qz (AR.bad (bif mayOk rt nn st wy fc [] qz pz nm then (0 : Int) else (230 : Int)))) else bif (bif moveOk 7 mr mn sp mw mh ms mm then (0 : Int) else (140 : Int)) != 0 then some (mkA true rt nn [] nm qz (AR.bad 210)) else bif decide (mh.length ≤ 1000000) then bif idCmp mr mn rt nn mh [] != 0 then some (mkA true rt nn [] nm qz (AR.bad 210)) else bif decide (qz.length ≤ 1000000) then bif decide (pz.length ≤ 1000000) then bif st == 7 then some (mkA true rt nn [] nm qz (AR.bad 210)) else bif decide ((pz.length : Int) ≤ sp) then some (mkA true rt nn [] nm qz (AR.bad 210)) else bif decide (0 ≤ sp ∧ sp < (qz.length : Int)) then bif !fs 4 (qz.getD sp.toNat .nilp) == [] then bif decide (0 ≤ sp ∧ sp < (pz.length : Int)) then bif st == 1 then bif decide (pz.length ≤ 1000000) then bif fc then bif decide (0 ≤ sp ∧ sp < (pz.length : Int)) then bif hasI (fi 0 (pz.getD sp.toNat .nilp)) (D.int .i64 1) || (hasI (fi 0 (pz.getD sp.toNat .nilp)) (D.int .i64 2) || false) then bif decide (0 ≤ sp ∧ sp < (pz.length : Int)) then some (mkA true rt nn [] nm qz (AR.good st wy fc ((List.set pz (sp.toNat) (D.agg [D.int .i64 3, D.int .i64 (fi 1 (pz.getD sp.toNat .nilp))]))))) else none else some (mkA true rt nn [] nm qz (AR.bad 210)) else none else bif st != 3 then bif st != 6 then bif decide (0 ≤ sp ∧ sp < (pz.length : Int)) then bif hasI (fi 0 (pz.getD sp.toNat .nilp)) (D.int .i64 1) || (hasI (fi 0 (pz.getD sp.toNat .nilp)) (D.int .i64 2) || false) then bif decide (0 ≤ sp ∧ sp < (pz.length : Int)) then some (mkA true rt nn [] nm qz (AR.good st wy fc ((List.set pz (sp.toNat) (D.agg [D.int .i64 3, D.int .i64 (fi 1 (pz.getD sp.toNat .nilp))]))))) else none else some (mkA true rt nn [] nm qz (AR.bad 210)) else none else some (mkA true rt nn [] nm qz (AR.bad 210)) else some (mkA true rt nn [] nm qz (AR.bad 210)) else none else bif fc then bif decide (0 ≤ sp ∧ sp < (pz.length : Int)) then bif hasI (fi 0 (pz.getD sp.toNat .nilp)) (D.int .i64 1) || (hasI (fi 0 (pz.getD sp.toNat .nilp)) (D.int .i64 2) || false) then bif decide (0 ≤ sp ∧ sp < (pz.length : Int)) then some (mkA true rt nn [] nm qz (AR.good st wy fc ((List.set pz (sp.toNat) (D.agg [D.int .i64 3, D.int .i64 (fi 1 (pz.getD sp.toNat .nilp))]))))) else none else some (mkA true rt nn [] nm qz (AR.bad 210)) else none else bif st != 3 then bif st != 6 then bif decide (0 ≤ sp ∧ sp < (pz.length : Int)) then bif hasI (fi 0 (pz.getD sp.toNat .nilp)) (D.int .i64 1) || (hasI (fi 0 (pz.getD sp.toNat .nilp)) (D.int .i64 2) || false) then bif decide (0 ≤ sp ∧ sp < (pz.length : Int)) then some (mkA true rt nn [] nm qz (AR.good st wy fc ((List.set pz (sp.toNat) (D.agg [D.int .i64 3, D.int .i64 (fi 1 (pz.getD sp.toNat .nilp))]))))) else none else some (mkA true rt nn [] nm qz (AR.bad 210)) else none else some (mkA true rt nn [] nm qz (AR.bad 210)) else some (mkA true rt nn [] nm qz (AR.bad 210)) else none else bif decide (pz.length ≤ 1000000) then bif sp == cur st pz then bif decide (0 ≤ sp ∧ sp < (qz.length : Int)) then bif !!!fs 4 (qz.getD sp.toNat .nilp) == [] then some (mkA true rt nn [] nm qz (AR.bad 210)) else bif decide (0 ≤ sp ∧ sp < (pz.length : Int)) then some (mkA true rt nn [] nm qz (AR.bad 210)) else none else none else some (mkA true rt nn [] nm qz (AR.bad 210)) else none else none else none else none else none else none else none := by kernel_rfl
theorem e24B8 (m n : Nat) (rt nn st wy : Int) (fc : Bool) (qz pz : List D) (nm : List UInt8) (mr mn sp mw : Int) (k1 k2 : Bool) (mh ms : List D) (mm : List UInt8) : Tree.out (enterM E17 (callN E17 (m+40)) n c42 [.d (sagaD rt nn st wy true false false fc [] qz pz nm), .d (moveD 8 mr mn sp mw k1 k2 mh ms mm)] []) = bif decide (qz.length ≤ 1000000) then bif decide (pz.length ≤ 1000000) then bif (bif mayOk rt nn st wy fc [] qz pz nm then (0 : Int) else (230 : Int)) != 0 then some (mkA true rt nn [] nm qz (AR.bad (bif mayOk rt nn st wy fc [] qz pz nm then (0 : Int) else (230 : Int)))) else bif (bif moveOk 8 mr mn sp mw mh ms mm then (0 : Int) else (140 : Int)) != 0 then some (mkA true rt nn [] nm qz (AR.bad 210)) else bif decide (mh.length ≤ 1000000) then bif idCmp mr mn rt nn mh [] != 0 then some (mkA true rt nn [] nm qz (AR.bad 210)) else bif decide (qz.length ≤ 1000000) then bif decide (pz.length ≤ 1000000) then bif st == 7 then some (mkA true rt nn [] nm qz (AR.bad 210)) else bif st == 1 then some (mkA true rt nn [] nm qz (AR.bad 210)) else some (mkA true rt nn [] nm qz (AR.bad 210)) else none else none else none else none else none := by kernel_rfl
theorem e24B9 (m n : Nat) (rt nn st wy : Int) (fc : Bool) (qz pz : List D) (nm : List UInt8) (mr mn sp mw : Int) (k1 k2 : Bool) (mh ms : List D) (mm : List UInt8) : Tree.out (enterM E17 (callN E17 (m+40)) n c42 [.d (sagaD rt nn st wy true false false fc [] qz pz nm), .d (moveD 9 mr mn sp mw k1 k2 mh ms mm)] []) = bif decide (qz.length ≤ 1000000) then bif decide (pz.length ≤ 1000000) then bif (bif mayOk rt nn st wy fc [] qz pz nm then (0 : Int) else (230 : Int)) != 0 then some (mkA true rt nn [] nm qz (AR.bad (bif mayOk rt nn st wy fc [] qz pz nm then (0 : Int) else (230 : Int)))) else bif (bif moveOk 9 mr mn sp mw mh ms mm then (0 : Int) else (140 : Int)) != 0 then some (mkA true rt nn [] nm qz (AR.bad 210)) else bif decide (mh.length ≤ 1000000) then bif idCmp mr mn rt nn mh [] != 0 then some (mkA true rt nn [] nm qz (AR.bad 210)) else bif decide (qz.length ≤ 1000000) then bif decide (pz.length ≤ 1000000) then bif st == 7 then some (mkA true rt nn [] nm qz (AR.bad 210)) else bif st == 1 then bif decide (pz.length ≤ 1000000) then bif !allI p135 (pz.length) pz qz then some (mkA true rt nn [] nm qz (AR.bad 210)) else bif decide (pz.length ≤ 1000000) then bif decide (pz.length ≤ qz.length) then some (mkA true rt nn [] nm qz (AR.good 3 0 fc ((ownParts 4 pz qz)))) else none else none else none else bif !st == 2 then some (mkA true rt nn [] nm qz (AR.bad 210)) else bif decide (pz.length ≤ 1000000) then bif !allI p135 (pz.length) pz qz then some (mkA true rt nn [] nm qz (AR.bad 210)) else bif decide (pz.length ≤ 1000000) then bif decide (pz.length ≤ qz.length) then some (mkA true rt nn [] nm qz (AR.good 3 0 fc ((ownParts 4 pz qz)))) else none else none else none else none else none else none else none else none := by kernel_rfl
theorem e24B10 (m n : Nat) (rt nn st wy : Int) (fc : Bool) (qz pz : List D) (nm : List UInt8) (mr mn sp mw : Int) (k1 k2 : Bool) (mh ms : List D) (mm : List UInt8) : Tree.out (enterM E17 (callN E17 (m+40)) n c42 [.d (sagaD rt nn st wy true false false fc [] qz pz nm), .d (moveD 10 mr mn sp mw k1 k2 mh ms mm)] []) = bif decide (qz.length ≤ 1000000) then bif decide (pz.length ≤ 1000000) then bif (bif mayOk rt nn st wy fc [] qz pz nm then (0 : Int) else (230 : Int)) != 0 then some (mkA true rt nn [] nm qz (AR.bad (bif mayOk rt nn st wy fc [] qz pz nm then (0 : Int) else (230 : Int)))) else bif (bif moveOk 10 mr mn sp mw mh ms mm then (0 : Int) else (140 : Int)) != 0 then some (mkA true rt nn [] nm qz (AR.bad 210)) else bif decide (mh.length ≤ 1000000) then bif idCmp mr mn rt nn mh [] != 0 then some (mkA true rt nn [] nm qz (AR.bad 210)) else bif decide (qz.length ≤ 1000000) then bif decide (pz.length ≤ 1000000) then bif st == 7 then some (mkA true rt nn [] nm qz (AR.bad 210)) else bif !st == 1 then bif st == 2 then bif mw == 7 then bif decide (pz.length ≤ 1000000) then some (mkA true rt nn [] nm qz (AR.good 4 mw fc ((calmParts pz)))) else none else bif mw == 5 then bif decide (pz.length ≤ 1000000) then bif !!allI (p97 [D.int .i64 3]) (pz.length) pz qz then some (mkA true rt nn [] nm qz (AR.bad 210)) else bif decide (pz.length ≤ 1000000) then some (mkA true rt nn [] nm qz (AR.good 4 mw fc ((calmParts pz)))) else none else none else some (mkA true rt nn [] nm qz (AR.bad 210)) else some (mkA true rt nn [] nm qz (AR.bad 210)) else bif decide (pz.length ≤ 1000000) then some (mkA true rt nn [] nm qz (AR.good 4 mw fc ((calmParts pz)))) else none else none else none else none else none else none := by kernel_rfl
theorem e24B11 (m n : Nat) (rt nn st wy : Int) (fc : Bool) (qz pz : List D) (nm : List UInt8) (mr mn sp mw : Int) (k1 k2 : Bool) (mh ms : List D) (mm : List UInt8) : Tree.out (enterM E17 (callN E17 (m+40)) n c42 [.d (sagaD rt nn st wy true false false fc [] qz pz nm), .d (moveD 11 mr mn sp mw k1 k2 mh ms mm)] []) = bif decide (qz.length ≤ 1000000) then bif decide (pz.length ≤ 1000000) then bif (bif mayOk rt nn st wy fc [] qz pz nm then (0 : Int) else (230 : Int)) != 0 then some (mkA true rt nn [] nm qz (AR.bad (bif mayOk rt nn st wy fc [] qz pz nm then (0 : Int) else (230 : Int)))) else bif (bif moveOk 11 mr mn sp mw mh ms mm then (0 : Int) else (140 : Int)) != 0 then some (mkA true rt nn [] nm qz (AR.bad 210)) else bif decide (mh.length ≤ 1000000) then bif idCmp mr mn rt nn mh [] != 0 then some (mkA true rt nn [] nm qz (AR.bad 210)) else bif decide (qz.length ≤ 1000000) then bif decide (pz.length ≤ 1000000) then bif st == 7 then some (mkA true rt nn [] nm qz (AR.bad 210)) else bif decide ((pz.length : Int) ≤ sp) then some (mkA true rt nn [] nm qz (AR.bad 210)) else bif decide (0 ≤ sp ∧ sp < (qz.length : Int)) then bif !fs 4 (qz.getD sp.toNat .nilp) == [] then bif decide (0 ≤ sp ∧ sp < (pz.length : Int)) then bif st == 1 then bif decide (pz.length ≤ 1000000) then some (mkA true rt nn [] nm qz (AR.bad 210)) else none else some (mkA true rt nn [] nm qz (AR.bad 210)) else none else bif decide (pz.length ≤ 1000000) then bif sp == cur st pz then bif decide (0 ≤ sp ∧ sp < (qz.length : Int)) then bif !!!fs 4 (qz.getD sp.toNat .nilp) == [] then some (mkA true rt nn [] nm qz (AR.bad 210)) else bif decide (0 ≤ sp ∧ sp < (pz.length : Int)) then bif st == 4 then bif decide (0 ≤ sp ∧ sp < (pz.length : Int)) then some (mkA true rt nn [] nm qz (AR.good st wy fc ((List.set pz (sp.toNat) (D.agg [D.int .i64 3, D.int .i64 0]))))) else none else some (mkA true rt nn [] nm qz (AR.bad 210)) else none else none else some (mkA true rt nn [] nm qz (AR.bad 210)) else none else none else none else none else none else none else none := by kernel_rfl
theorem e24B12 (m n : Nat) (rt nn st wy : Int) (fc : Bool) (qz pz : List D) (nm : List UInt8) (mr mn sp mw : Int) (k1 k2 : Bool) (mh ms : List D) (mm : List UInt8) : Tree.out (enterM E17 (callN E17 (m+40)) n c42 [.d (sagaD rt nn st wy true false false fc [] qz pz nm), .d (moveD 12 mr mn sp mw k1 k2 mh ms mm)] []) = bif decide (qz.length ≤ 1000000) then bif decide (pz.length ≤ 1000000) then bif (bif mayOk rt nn st wy fc [] qz pz nm then (0 : Int) else (230 : Int)) != 0 then some (mkA true rt nn [] nm qz (AR.bad (bif mayOk rt nn st wy fc [] qz pz nm then (0 : Int) else (230 : Int)))) else bif (bif moveOk 12 mr mn sp mw mh ms mm then (0 : Int) else (140 : Int)) != 0 then some (mkA true rt nn [] nm qz (AR.bad 210)) else bif decide (mh.length ≤ 1000000) then bif idCmp mr mn rt nn mh [] != 0 then some (mkA true rt nn [] nm qz (AR.bad 210)) else bif decide (qz.length ≤ 1000000) then bif decide (pz.length ≤ 1000000) then bif st == 7 then some (mkA true rt nn [] nm qz (AR.bad 210)) else bif decide ((pz.length : Int) ≤ sp) then some (mkA true rt nn [] nm qz (AR.bad 210)) else bif decide (0 ≤ sp ∧ sp < (qz.length : Int)) then bif !fs 4 (qz.getD sp.toNat .nilp) == [] then bif decide (0 ≤ sp ∧ sp < (pz.length : Int)) then bif st == 1 then bif decide (pz.length ≤ 1000000) then some (mkA true rt nn [] nm qz (AR.bad 210)) else none else some (mkA true rt nn [] nm qz (AR.bad 210)) else none else bif decide (pz.length ≤ 1000000) then bif sp == cur st pz then bif decide (0 ≤ sp ∧ sp < (qz.length : Int)) then bif !!!fs 4 (qz.getD sp.toNat .nilp) == [] then some (mkA true rt nn [] nm qz (AR.bad 210)) else bif decide (0 ≤ sp ∧ sp < (pz.length : Int)) then bif st == 4 then bif fi 1 (pz.getD sp.toNat .nilp) == 5 then some (mkA true rt nn [] nm qz (AR.good 5 wy fc (pz))) else some (mkA true rt nn [] nm qz (AR.bad 210)) else some (mkA true rt nn [] nm qz (AR.bad 210)) else none else none else some (mkA true rt nn [] nm qz (AR.bad 210)) else none else none else none else none else none else none else none := by kernel_rfl
theorem e24B13 (m n : Nat) (rt nn st wy : Int) (fc : Bool) (qz pz : List D) (nm : List UInt8) (mr mn sp mw : Int) (k1 k2 : Bool) (mh ms : List D) (mm : List UInt8) : Tree.out (enterM E17 (callN E17 (m+40)) n c42 [.d (sagaD rt nn st wy true false false fc [] qz pz nm), .d (moveD 13 mr mn sp mw k1 k2 mh ms mm)] []) = bif decide (qz.length ≤ 1000000) then bif decide (pz.length ≤ 1000000) then bif (bif mayOk rt nn st wy fc [] qz pz nm then (0 : Int) else (230 : Int)) != 0 then some (mkA true rt nn [] nm qz (AR.bad (bif mayOk rt nn st wy fc [] qz pz nm then (0 : Int) else (230 : Int)))) else bif (bif moveOk 13 mr mn sp mw mh ms mm then (0 : Int) else (140 : Int)) != 0 then some (mkA true rt nn [] nm qz (AR.bad 210)) else bif decide (mh.length ≤ 1000000) then bif idCmp mr mn rt nn mh [] != 0 then some (mkA true rt nn [] nm qz (AR.bad 210)) else bif decide (qz.length ≤ 1000000) then bif decide (pz.length ≤ 1000000) then bif st == 7 then some (mkA true rt nn [] nm qz (AR.bad 210)) else bif st != 5 then some (mkA true rt nn [] nm qz (AR.bad 210)) else bif decide (pz.length ≤ 1000000) then bif decide (0 ≤ cur st pz ∧ cur st pz < (pz.length : Int)) then some (mkA true rt nn [] nm qz (AR.good 4 wy fc ((List.set pz (Int.toNat (cur st pz)) (D.agg [D.int .i64 (fi 0 (List.getD pz (Int.toNat (cur st pz)) D.nilp)), D.int .i64 0]))))) else none else none else none else none else none else none else none := by kernel_rfl
theorem e24B14 (m n : Nat) (rt nn st wy : Int) (fc : Bool) (qz pz : List D) (nm : List UInt8) (mr mn sp mw : Int) (k1 k2 : Bool) (mh ms : List D) (mm : List UInt8) : Tree.out (enterM E17 (callN E17 (m+40)) n c42 [.d (sagaD rt nn st wy true false false fc [] qz pz nm), .d (moveD 14 mr mn sp mw k1 k2 mh ms mm)] []) = bif decide (qz.length ≤ 1000000) then bif decide (pz.length ≤ 1000000) then bif (bif mayOk rt nn st wy fc [] qz pz nm then (0 : Int) else (230 : Int)) != 0 then some (mkA true rt nn [] nm qz (AR.bad (bif mayOk rt nn st wy fc [] qz pz nm then (0 : Int) else (230 : Int)))) else bif (bif moveOk 14 mr mn sp mw mh ms mm then (0 : Int) else (140 : Int)) != 0 then some (mkA true rt nn [] nm qz (AR.bad 210)) else bif decide (mh.length ≤ 1000000) then bif idCmp mr mn rt nn mh [] != 0 then some (mkA true rt nn [] nm qz (AR.bad 210)) else bif decide (qz.length ≤ 1000000) then bif decide (pz.length ≤ 1000000) then bif st == 7 then some (mkA true rt nn [] nm qz (AR.bad 210)) else bif st == 4 then bif decide (pz.length ≤ 1000000) then bif decide (cur st pz < 0) then some (mkA true rt nn [] nm qz (AR.good 6 wy fc (pz))) else some (mkA true rt nn [] nm qz (AR.bad 210)) else none else some (mkA true rt nn [] nm qz (AR.bad 210)) else none else none else none else none else none := by kernel_rfl
theorem e24B15 (m n : Nat) (rt nn st wy : Int) (fc : Bool) (qz pz : List D) (nm : List UInt8) (mr mn sp mw : Int) (k1 k2 : Bool) (mh ms : List D) (mm : List UInt8) : Tree.out (enterM E17 (callN E17 (m+40)) n c42 [.d (sagaD rt nn st wy true false false fc [] qz pz nm), .d (moveD 15 mr mn sp mw k1 k2 mh ms mm)] []) = bif decide (qz.length ≤ 1000000) then bif decide (pz.length ≤ 1000000) then bif (bif mayOk rt nn st wy fc [] qz pz nm then (0 : Int) else (230 : Int)) != 0 then some (mkA true rt nn [] nm qz (AR.bad (bif mayOk rt nn st wy fc [] qz pz nm then (0 : Int) else (230 : Int)))) else bif (bif moveOk 15 mr mn sp mw mh ms mm then (0 : Int) else (140 : Int)) != 0 then some (mkA true rt nn [] nm qz (AR.bad 210)) else bif decide (mh.length ≤ 1000000) then bif idCmp mr mn rt nn mh [] != 0 then some (mkA true rt nn [] nm qz (AR.bad 210)) else bif decide (qz.length ≤ 1000000) then bif decide (pz.length ≤ 1000000) then bif st == 7 then some (mkA true rt nn [] nm qz (AR.bad 210)) else bif decide ((pz.length : Int) ≤ sp) then some (mkA true rt nn [] nm qz (AR.bad 210)) else bif decide (0 ≤ sp ∧ sp < (qz.length : Int)) then bif !fs 4 (qz.getD sp.toNat .nilp) == [] then bif decide (0 ≤ sp ∧ sp < (pz.length : Int)) then bif st == 1 then bif decide (pz.length ≤ 1000000) then bif st == 3 then bif decide (0 ≤ sp ∧ sp < (pz.length : Int)) then bif hasI (fi 0 (pz.getD sp.toNat .nilp)) (D.int .i64 2) || false then bif decide (0 ≤ sp ∧ sp < (pz.length : Int)) then some (mkA true rt nn [] nm qz (AR.good st wy fc ((List.set pz (sp.toNat) (D.agg [D.int .i64 4, D.int .i64 (fi 1 (pz.getD sp.toNat .nilp))]))))) else none else some (mkA true rt nn [] nm qz (AR.bad 210)) else none else some (mkA true rt nn [] nm qz (AR.bad 210)) else none else bif st == 3 then bif decide (0 ≤ sp ∧ sp < (pz.length : Int)) then bif hasI (fi 0 (pz.getD sp.toNat .nilp)) (D.int .i64 2) || false then bif decide (0 ≤ sp ∧ sp < (pz.length : Int)) then some (mkA true rt nn [] nm qz (AR.good st wy fc ((List.set pz (sp.toNat) (D.agg [D.int .i64 4, D.int .i64 (fi 1 (pz.getD sp.toNat .nilp))]))))) else none else some (mkA true rt nn [] nm qz (AR.bad 210)) else none else some (mkA true rt nn [] nm qz (AR.bad 210)) else none else bif decide (pz.length ≤ 1000000) then bif sp == cur st pz then bif decide (0 ≤ sp ∧ sp < (qz.length : Int)) then bif !!!fs 4 (qz.getD sp.toNat .nilp) == [] then some (mkA true rt nn [] nm qz (AR.bad 210)) else bif decide (0 ≤ sp ∧ sp < (pz.length : Int)) then some (mkA true rt nn [] nm qz (AR.bad 210)) else none else none else some (mkA true rt nn [] nm qz (AR.bad 210)) else none else none else none else none else none else none else none := by kernel_rfl
theorem e24B16 (m n : Nat) (rt nn st wy : Int) (fc : Bool) (qz pz : List D) (nm : List UInt8) (mr mn sp mw : Int) (k1 k2 : Bool) (mh ms : List D) (mm : List UInt8) : Tree.out (enterM E17 (callN E17 (m+40)) n c42 [.d (sagaD rt nn st wy true false false fc [] qz pz nm), .d (moveD 16 mr mn sp mw k1 k2 mh ms mm)] []) = bif decide (qz.length ≤ 1000000) then bif decide (pz.length ≤ 1000000) then bif (bif mayOk rt nn st wy fc [] qz pz nm then (0 : Int) else (230 : Int)) != 0 then some (mkA true rt nn [] nm qz (AR.bad (bif mayOk rt nn st wy fc [] qz pz nm then (0 : Int) else (230 : Int)))) else bif (bif moveOk 16 mr mn sp mw mh ms mm then (0 : Int) else (140 : Int)) != 0 then some (mkA true rt nn [] nm qz (AR.bad 210)) else bif decide (mh.length ≤ 1000000) then bif idCmp mr mn rt nn mh [] != 0 then some (mkA true rt nn [] nm qz (AR.bad 210)) else bif decide (qz.length ≤ 1000000) then bif decide (pz.length ≤ 1000000) then bif st == 7 then some (mkA true rt nn [] nm qz (AR.bad 210)) else bif st == 3 then some (mkA true rt nn [] nm qz (AR.bad 210)) else bif st == 6 then some (mkA true rt nn [] nm qz (AR.bad 210)) else bif decide (pz.length ≤ 1000000) then bif sp == 1 then bif decide (List.length (calmParts pz) ≤ 1000000) then bif decide (List.length (calmParts pz) ≤ qz.length) then some (mkA true rt nn [] nm qz (AR.good 3 wy true ((ownParts 4 (calmParts pz) qz)))) else none else none else bif decide (List.length (calmParts pz) ≤ 1000000) then bif decide (List.length (calmParts pz) ≤ qz.length) then some (mkA true rt nn [] nm qz (AR.good 6 wy true ((ownParts 3 (calmParts pz) qz)))) else none else none else none else none else none else none else none else none := by kernel_rfl
theorem e24C (m n : Nat) (rt nn wy : Int) (n1 n2 n3 fc : Bool) (hops qz pz : List D) (nm : List UInt8) (kd mr mn sp mw : Int) (k1 k2 : Bool) (mh ms : List D) (mm : List UInt8) : Tree.out (enterM E17 (callN E17 (m+40)) n c42 [.d (sagaD rt nn 7 wy n1 n2 n3 fc hops qz pz nm), .d (moveD kd mr mn sp mw k1 k2 mh ms mm)] []) = bif decide (qz.length ≤ 1000000) then bif decide (pz.length ≤ 1000000) then bif (bif mayOk rt nn 7 wy fc hops qz pz nm then (0 : Int) else (230 : Int)) != 0 then some (mkA n1 rt nn hops nm qz (AR.bad (bif mayOk rt nn 7 wy fc hops qz pz nm then (0 : Int) else (230 : Int)))) else bif (bif moveOk kd mr mn sp mw mh ms mm then (0 : Int) else (140 : Int)) != 0 then some (mkA n1 rt nn hops nm qz (AR.bad 210)) else bif decide (mh.length ≤ 1000000) then bif idCmp mr mn rt nn mh hops != 0 then some (mkA n1 rt nn hops nm qz (AR.bad 210)) else bif n1 then bif n2 then bif n3 then some (mkA n1 rt nn hops nm qz (AR.bad 210)) else bif decide (pz.length ≤ 1000000) then some (mkA n1 rt nn hops nm qz (AR.bad 210)) else none else bif decide (qz.length ≤ 1000000) then bif n3 then some (mkA n1 rt nn hops nm qz (AR.bad 210)) else bif decide (pz.length ≤ 1000000) then some (mkA n1 rt nn hops nm qz (AR.bad 210)) else none else none else bif decide (hops.length ≤ 1000000) then bif n2 then bif n3 then some (mkA n1 rt nn hops nm qz (AR.bad 210)) else bif decide (pz.length ≤ 1000000) then some (mkA n1 rt nn hops nm qz (AR.bad 210)) else none else bif decide (qz.length ≤ 1000000) then bif n3 then some (mkA n1 rt nn hops nm qz (AR.bad 210)) else bif decide (pz.length ≤ 1000000) then some (mkA n1 rt nn hops nm qz (AR.bad 210)) else none else none else none else none else none else none := by kernel_rfl
theorem e24P (m n : Nat) (rt nn st wy : Int) (n1 n2 n3 fc : Bool) (hops qz pz : List D) (nm : List UInt8) (kd mr mn sp mw : Int) (k1 k2 : Bool) (mh ms : List D) (mm : List UInt8) : Tree.out (enterM EP24 (callN EP24 (m+40)) n c42 [.d (sagaD rt nn st wy n1 n2 n3 fc hops qz pz nm), .d (moveD kd mr mn sp mw k1 k2 mh ms mm)] []) = bif decide (qz.length ≤ 1000000) then bif decide (pz.length ≤ 1000000) then bif (bif mayOk rt nn st wy fc hops qz pz nm then (0 : Int) else (230 : Int)) != 0 then some (mkA n1 rt nn hops nm qz (AR.bad (bif mayOk rt nn st wy fc hops qz pz nm then (0 : Int) else (230 : Int)))) else bif (bif moveOk kd mr mn sp mw mh ms mm then (0 : Int) else (140 : Int)) != 0 then some (mkA n1 rt nn hops nm qz (AR.bad 210)) else bif decide (mh.length ≤ 1000000) then bif idCmp mr mn rt nn mh hops != 0 then some (mkA n1 rt nn hops nm qz (AR.bad 210)) else bif n1 then bif n2 then bif n3 then none else bif decide (pz.length ≤ 1000000) then none else none else bif decide (qz.length ≤ 1000000) then bif n3 then none else bif decide (pz.length ≤ 1000000) then none else none else none else bif decide (hops.length ≤ 1000000) then bif n2 then bif n3 then none else bif decide (pz.length ≤ 1000000) then none else none else bif decide (qz.length ≤ 1000000) then bif n3 then none else bif decide (pz.length ≤ 1000000) then none else none else none else none else none else none else none := by kernel_rfl
open Go Go.AM
def ap1 (st _wy : Int) (_fc : Bool) (_hops _parts _steps : List D) (_sp _mw : Int) : AR := bif st == (7 : Int) then AR.bad (210 : Int) else AR.bad (210 : Int)
def ap2 (st _wy : Int) (_fc : Bool) (_hops _parts _steps : List D) (_sp _mw : Int) : AR := bif st == (7 : Int) then AR.bad (210 : Int) else AR.bad (210 : Int)
def ap3 (st wy : Int) (fc : Bool) (_hops pz qz : List D) (sp _mw : Int) : AR := bif st == (7 : Int) then AR.bad (210 : Int) else bif decide ((↑(List.length pz) : Int) ≤ sp) then AR.bad (210 : Int) else bif !fs (4 : Nat) (List.getD qz (Int.toNat sp) D.nilp) == [] then bif st == (1 : Int) then AR.bad (210 : Int) else AR.bad (210 : Int) else bif sp == cur st pz then bif !!!fs (4 : Nat) (List.getD qz (Int.toNat sp) D.nilp) == [] then AR.bad (210 : Int) else bif st == (1 : Int) then bif decide (fi (1 : Nat) (List.getD pz (Int.toNat sp) D.nilp) < fi (5 : Nat) (List.getD qz (Int.toNat sp) D.nilp)) then AR.good st wy fc ((List.set pz (Int.toNat sp) (D.agg [D.int IntKind.i64 (fi (0 : Nat) (List.getD pz (Int.toNat sp) D.nilp)), D.int IntKind.i64 (IntKind.wrap IntKind.i64 (fi (1 : Nat) (List.getD pz (Int.toNat sp) D.nilp) + (1 : Int)))]))) else bif st == (4 : Int) then bif decide (fi (1 : Nat) (List.getD pz (Int.toNat sp) D.nilp) < (5 : Int)) then AR.good st wy fc ((List.set pz (Int.toNat sp) (D.agg [D.int IntKind.i64 (fi (0 : Nat) (List.getD pz (Int.toNat sp) D.nilp)), D.int IntKind.i64 (IntKind.wrap IntKind.i64 (fi (1 : Nat) (List.getD pz (Int.toNat sp) D.nilp) + (1 : Int)))]))) else AR.bad (210 : Int) else AR.bad (210 : Int) else bif st == (4 : Int) then bif decide (fi (1 : Nat) (List.getD pz (Int.toNat sp) D.nilp) < (5 : Int)) then AR.good st wy fc ((List.set pz (Int.toNat sp) (D.agg [D.int IntKind.i64 (fi (0 : Nat) (List.getD pz (Int.toNat sp) D.nilp)), D.int IntKind.i64 (IntKind.wrap IntKind.i64 (fi (1 : Nat) (List.getD pz (Int.toNat sp) D.nilp) + (1 : Int)))]))) else AR.bad (210 : Int) else AR.bad (210 : Int) else AR.bad (210 : Int)
def ap4 (st wy : Int) (fc : Bool) (_hops pz qz : List D) (sp _mw : Int) : AR := bif st == (7 : Int) then AR.bad (210 : Int) else bif decide ((↑(List.length pz) : Int) ≤ sp) then AR.bad (210 : Int) else bif !fs (4 : Nat) (List.getD qz (Int.toNat sp) D.nilp) == [] then bif st == (1 : Int) then AR.bad (210 : Int) else AR.bad (210 : Int) else bif sp == cur st pz then bif !!!fs (4 : Nat) (List.getD qz (Int.toNat sp) D.nilp) == [] then AR.bad (210 : Int) else bif st == (1 : Int) then AR.good st wy fc ((List.set pz (Int.toNat sp) (D.agg [D.int IntKind.i64 (2 : Int), D.int IntKind.i64 (0 : Int)]))) else AR.bad (210 : Int) else AR.bad (210 : Int)
def ap5 (st wy : Int) (fc : Bool) (_hops pz qz : List D) (sp _mw : Int) : AR := bif st == (7 : Int) then AR.bad (210 : Int) else bif decide ((↑(List.length pz) : Int) ≤ sp) then AR.bad (210 : Int) else bif !fs (4 : Nat) (List.getD qz (Int.toNat sp) D.nilp) == [] then bif st == (1 : Int) then bif sp == cur st pz then bif hasI (fi (0 : Nat) (List.getD pz (Int.toNat sp) D.nilp)) (D.int IntKind.i64 (0 : Int)) || false then AR.good st wy fc ((List.set pz (Int.toNat sp) (D.agg [D.int IntKind.i64 (1 : Int), D.int IntKind.i64 (fi (1 : Nat) (List.getD pz (Int.toNat sp) D.nilp))]))) else AR.bad (210 : Int) else AR.bad (210 : Int) else AR.bad (210 : Int) else bif sp == cur st pz then bif !!!fs (4 : Nat) (List.getD qz (Int.toNat sp) D.nilp) == [] then AR.bad (210 : Int) else AR.bad (210 : Int) else AR.bad (210 : Int)
def ap6 (st wy : Int) (fc : Bool) (_hops pz qz : List D) (sp _mw : Int) : AR := bif st == (7 : Int) then AR.bad (210 : Int) else bif decide ((↑(List.length pz) : Int) ≤ sp) then AR.bad (210 : Int) else bif !fs (4 : Nat) (List.getD qz (Int.toNat sp) D.nilp) == [] then bif st == (1 : Int) then bif sp == cur st pz then bif hasI (fi (0 : Nat) (List.getD pz (Int.toNat sp) D.nilp)) (D.int IntKind.i64 (1 : Int)) || false then AR.good st wy fc ((List.set pz (Int.toNat sp) (D.agg [D.int IntKind.i64 (2 : Int), D.int IntKind.i64 (fi (1 : Nat) (List.getD pz (Int.toNat sp) D.nilp))]))) else AR.bad (210 : Int) else AR.bad (210 : Int) else AR.bad (210 : Int) else bif sp == cur st pz then bif !!!fs (4 : Nat) (List.getD qz (Int.toNat sp) D.nilp) == [] then AR.bad (210 : Int) else AR.bad (210 : Int) else AR.bad (210 : Int)
def ap7 (st wy : Int) (fc : Bool) (_hops pz qz : List D) (sp _mw : Int) : AR := bif st == (7 : Int) then AR.bad (210 : Int) else bif decide ((↑(List.length pz) : Int) ≤ sp) then AR.bad (210 : Int) else bif !fs (4 : Nat) (List.getD qz (Int.toNat sp) D.nilp) == [] then bif st == (1 : Int) then bif fc then bif hasI (fi (0 : Nat) (List.getD pz (Int.toNat sp) D.nilp)) (D.int IntKind.i64 (1 : Int)) || (hasI (fi (0 : Nat) (List.getD pz (Int.toNat sp) D.nilp)) (D.int IntKind.i64 (2 : Int)) || false) then AR.good st wy fc ((List.set pz (Int.toNat sp) (D.agg [D.int IntKind.i64 (3 : Int), D.int IntKind.i64 (fi (1 : Nat) (List.getD pz (Int.toNat sp) D.nilp))]))) else AR.bad (210 : Int) else bif st != (3 : Int) then bif st != (6 : Int) then bif hasI (fi (0 : Nat) (List.getD pz (Int.toNat sp) D.nilp)) (D.int IntKind.i64 (1 : Int)) || (hasI (fi (0 : Nat) (List.getD pz (Int.toNat sp) D.nilp)) (D.int IntKind.i64 (2 : Int)) || false) then AR.good st wy fc ((List.set pz (Int.toNat sp) (D.agg [D.int IntKind.i64 (3 : Int), D.int IntKind.i64 (fi (1 : Nat) (List.getD pz (Int.toNat sp) D.nilp))]))) else AR.bad (210 : Int) else AR.bad (210 : Int) else AR.bad (210 : Int) else bif fc then bif hasI (fi (0 : Nat) (List.getD pz (Int.toNat sp) D.nilp)) (D.int IntKind.i64 (1 : Int)) || (hasI (fi (0 : Nat) (List.getD pz (Int.toNat sp) D.nilp)) (D.int IntKind.i64 (2 : Int)) || false) then AR.good st wy fc ((List.set pz (Int.toNat sp) (D.agg [D.int IntKind.i64 (3 : Int), D.int IntKind.i64 (fi (1 : Nat) (List.getD pz (Int.toNat sp) D.nilp))]))) else AR.bad (210 : Int) else bif st != (3 : Int) then bif st != (6 : Int) then bif hasI (fi (0 : Nat) (List.getD pz (Int.toNat sp) D.nilp)) (D.int IntKind.i64 (1 : Int)) || (hasI (fi (0 : Nat) (List.getD pz (Int.toNat sp) D.nilp)) (D.int IntKind.i64 (2 : Int)) || false) then AR.good st wy fc ((List.set pz (Int.toNat sp) (D.agg [D.int IntKind.i64 (3 : Int), D.int IntKind.i64 (fi (1 : Nat) (List.getD pz (Int.toNat sp) D.nilp))]))) else AR.bad (210 : Int) else AR.bad (210 : Int) else AR.bad (210 : Int) else bif sp == cur st pz then bif !!!fs (4 : Nat) (List.getD qz (Int.toNat sp) D.nilp) == [] then AR.bad (210 : Int) else AR.bad (210 : Int) else AR.bad (210 : Int)
def ap8 (st _wy : Int) (fc : Bool) (hops pz qz : List D) (_sp _mw : Int) : AR := bif st == (7 : Int) then AR.bad (210 : Int) else bif st == (1 : Int) then bif decide ((0 : Int) < (↑(List.length hops) : Int)) then bif allI p135 (List.length pz) pz qz then AR.good (2 : Int) (0 : Int) fc (pz) else AR.bad (210 : Int) else AR.bad (210 : Int) else AR.bad (210 : Int)
def ap9 (st _wy : Int) (fc : Bool) (hops pz qz : List D) (_sp _mw : Int) : AR := bif st == (7 : Int) then AR.bad (210 : Int) else bif st == (1 : Int) then bif !decide ((0 : Int) < (↑(List.length hops) : Int)) then bif !allI p135 (List.length pz) pz qz then AR.bad (210 : Int) else AR.good (3 : Int) (0 : Int) fc ((ownParts (4 : Int) pz qz)) else bif !st == (2 : Int) then AR.bad (210 : Int) else bif !allI p135 (List.length pz) pz qz then AR.bad (210 : Int) else AR.good (3 : Int) (0 : Int) fc ((ownParts (4 : Int) pz qz)) else bif !st == (2 : Int) then AR.bad (210 : Int) else bif !allI p135 (List.length pz) pz qz then AR.bad (210 : Int) else AR.good (3 : Int) (0 : Int) fc ((ownParts (4 : Int) pz qz))
def ap10 (st _wy : Int) (fc : Bool) (_hops pz qz : List D) (_sp mw : Int) : AR := bif st == (7 : Int) then AR.bad (210 : Int) else bif !st == (1 : Int) then bif st == (2 : Int) then bif mw == (7 : Int) then AR.good (4 : Int) mw fc ((calmParts pz)) else bif mw == (5 : Int) then bif !!allI (p97 [D.int IntKind.i64 (3 : Int)]) (List.length pz) pz qz then AR.bad (210 : Int) else AR.good (4 : Int) mw fc ((calmParts pz)) else AR.bad (210 : Int) else AR.bad (210 : Int) else AR.good (4 : Int) mw fc ((calmParts pz))
def ap11 (st wy : Int) (fc : Bool) (_hops pz qz : List D) (sp _mw : Int) : AR := bif st == (7 : Int) then AR.bad (210 : Int) else bif decide ((↑(List.length pz) : Int) ≤ sp) then AR.bad (210 : Int) else bif !fs (4 : Nat) (List.getD qz (Int.toNat sp) D.nilp) == [] then bif st == (1 : Int) then AR.bad (210 : Int) else AR.bad (210 : Int) else bif sp == cur st pz then bif !!!fs (4 : Nat) (List.getD qz (Int.toNat sp) D.nilp) == [] then AR.bad (210 : Int) else bif st == (4 : Int) then AR.good st wy fc ((List.set pz (Int.toNat sp) (D.agg [D.int IntKind.i64 (3 : Int), D.int IntKind.i64 (0 : Int)]))) else AR.bad (210 : Int) else AR.bad (210 : Int)
def ap12 (st wy : Int) (fc : Bool) (_hops pz qz : List D) (sp _mw : Int) : AR := bif st == (7 : Int) then AR.bad (210 : Int) else bif decide ((↑(List.length pz) : Int) ≤ sp) then AR.bad (210 : Int) else bif !fs (4 : Nat) (List.getD qz (Int.toNat sp) D.nilp) == [] then bif st == (1 : Int) then AR.bad (210 : Int) else AR.bad (210 : Int) else bif sp == cur st pz then bif !!!fs (4 : Nat) (List.getD qz (Int.toNat sp) D.nilp) == [] then AR.bad (210 : Int) else bif st == (4 : Int) then bif fi (1 : Nat) (List.getD pz (Int.toNat sp) D.nilp) == (5 : Int) then AR.good (5 : Int) wy fc (pz) else AR.bad (210 : Int) else AR.bad (210 : Int) else AR.bad (210 : Int)
def ap13 (st wy : Int) (fc : Bool) (_hops pz _steps : List D) (_sp _mw : Int) : AR := bif st == (7 : Int) then AR.bad (210 : Int) else bif st != (5 : Int) then AR.bad (210 : Int) else AR.good (4 : Int) wy fc ((List.set pz (Int.toNat (cur st pz)) (D.agg [D.int IntKind.i64 (fi (0 : Nat) (List.getD pz (Int.toNat (cur st pz)) D.nilp)), D.int IntKind.i64 (0 : Int)])))
def ap14 (st wy : Int) (fc : Bool) (_hops pz _steps : List D) (_sp _mw : Int) : AR := bif st == (7 : Int) then AR.bad (210 : Int) else bif st == (4 : Int) then bif decide (cur st pz < (0 : Int)) then AR.good (6 : Int) wy fc (pz) else AR.bad (210 : Int) else AR.bad (210 : Int)
def ap15 (st wy : Int) (fc : Bool) (_hops pz qz : List D) (sp _mw : Int) : AR := bif st == (7 : Int) then AR.bad (210 : Int) else bif decide ((↑(List.length pz) : Int) ≤ sp) then AR.bad (210 : Int) else bif !fs (4 : Nat) (List.getD qz (Int.toNat sp) D.nilp) == [] then bif st == (1 : Int) then bif st == (3 : Int) then bif hasI (fi (0 : Nat) (List.getD pz (Int.toNat sp) D.nilp)) (D.int IntKind.i64 (2 : Int)) || false then AR.good st wy fc ((List.set pz (Int.toNat sp) (D.agg [D.int IntKind.i64 (4 : Int), D.int IntKind.i64 (fi (1 : Nat) (List.getD pz (Int.toNat sp) D.nilp))]))) else AR.bad (210 : Int) else AR.bad (210 : Int) else bif st == (3 : Int) then bif hasI (fi (0 : Nat) (List.getD pz (Int.toNat sp) D.nilp)) (D.int IntKind.i64 (2 : Int)) || false then AR.good st wy fc ((List.set pz (Int.toNat sp) (D.agg [D.int IntKind.i64 (4 : Int), D.int IntKind.i64 (fi (1 : Nat) (List.getD pz (Int.toNat sp) D.nilp))]))) else AR.bad (210 : Int) else AR.bad (210 : Int) else bif sp == cur st pz then bif !!!fs (4 : Nat) (List.getD qz (Int.toNat sp) D.nilp) == [] then AR.bad (210 : Int) else AR.bad (210 : Int) else AR.bad (210 : Int)
def ap16 (st wy : Int) (_fc : Bool) (_hops pz qz : List D) (sp _mw : Int) : AR := bif st == (7 : Int) then AR.bad (210 : Int) else bif st == (3 : Int) then AR.bad (210 : Int) else bif st == (6 : Int) then AR.bad (210 : Int) else bif sp == (1 : Int) then AR.good (3 : Int) wy true ((ownParts (4 : Int) (calmParts pz) qz)) else AR.good (6 : Int) wy true ((ownParts (3 : Int) (calmParts pz) qz))
def applyR (st wy : Int) (fc : Bool) (hops pz qz : List D) (kd sp mw : Int) : AR :=
 bif kd == 1 then ap1 st wy fc hops pz qz sp mw else bif kd == 2 then ap2 st wy fc hops pz qz sp mw else bif kd == 3 then ap3 st wy fc hops pz qz sp mw else bif kd == 4 then ap4 st wy fc hops pz qz sp mw else bif kd == 5 then ap5 st wy fc hops pz qz sp mw else bif kd == 6 then ap6 st wy fc hops pz qz sp mw else bif kd == 7 then ap7 st wy fc hops pz qz sp mw else bif kd == 8 then ap8 st wy fc hops pz qz sp mw else bif kd == 9 then ap9 st wy fc hops pz qz sp mw else bif kd == 10 then ap10 st wy fc hops pz qz sp mw else bif kd == 11 then ap11 st wy fc hops pz qz sp mw else bif kd == 12 then ap12 st wy fc hops pz qz sp mw else bif kd == 13 then ap13 st wy fc hops pz qz sp mw else bif kd == 14 then ap14 st wy fc hops pz qz sp mw else bif kd == 15 then ap15 st wy fc hops pz qz sp mw else bif kd == 16 then ap16 st wy fc hops pz qz sp mw else AR.bad 0
theorem condM (b n1 : Bool) (rt nn : Int) (hops : List D) (nm : List UInt8) (qz : List D) (x y : AR) : (bif b then some (mkA n1 rt nn hops nm qz x) else some (mkA n1 rt nn hops nm qz y)) = some (mkA n1 rt nn hops nm qz (bif b then x else y)) := by cases b <;> rfl
theorem foldI_len (f : Nat → List D → List D) (hf : ∀ i l, (f i l).length = l.length) : ∀ k i l, (foldI f k i l).length = l.length
 | 0, _, _ => rfl
 | k + 1, i, l => by
  simp only [foldI]
  rw [foldI_len f hf k, hf]
theorem calm_len (pz : List D) : (calmParts pz).length = pz.length := foldI_len _ fCalm_len _ _ _
theorem own_len (v : Int) (pz qz : List D) : (ownParts v pz qz).length = pz.length := foldI_len _ (fOwn_len v qz) _ _ _
theorem cself {α : Type} (b : Bool) (x : α) : (bif b then x else x) = x := by cases b <;> rfl
theorem kindHas_some {kd : Int} (h1 : 1 ≤ kd) (h2 : kd ≤ 16) : kindHas kd = 0 ∨ kindHas kd = 1 ∨ kindHas kd = 2 ∨ kindHas kd = 3 ∨ kindHas kd = 4 := by
 have : kd = 1 ∨ kd = 2 ∨ kd = 3 ∨ kd = 4 ∨ kd = 5 ∨ kd = 6 ∨ kd = 7 ∨ kd = 8 ∨ kd = 9 ∨ kd = 10 ∨ kd = 11 ∨ kd = 12 ∨ kd = 13 ∨ kd = 14 ∨ kd = 15 ∨ kd = 16 := by omega
 rcases this with rfl | rfl | rfl | rfl | rfl | rfl | rfl | rfl | rfl | rfl | rfl | rfl | rfl | rfl | rfl | rfl <;> decide
theorem moveOk_kd {kd mr mn sp mw : Int} {mh ms : List D} {mm : List UInt8} (h : moveOk kd mr mn sp mw mh ms mm = true) : 1 ≤ kd ∧ kd ≤ 16 := by
 unfold moveOk at h
 simp only [Bool.and_eq_true, Bool.not_eq_true', decide_eq_false_iff_not] at h
 omega
theorem moveOk_sp {kd mr mn sp mw : Int} {mh ms : List D} {mm : List UInt8} (h : moveOk kd mr mn sp mw mh ms mm = true) : 0 ≤ sp := by
 by_cases hs : 0 ≤ sp
 ·exact hs
 ·exfalso
  have h1 : (sp == 0) = false := by simp; omega
  have h2 : (sp != 0) = true := by simp; omega
  have h3 : decide (0 ≤ sp) = false := by simp; omega
  have h4 : (sp == 1) = false := by simp; omega
  have hkd := moveOk_kd h
  have e0 : ∀ x y : Int, x ≠ y → (x == y) = false := fun x y h => by simpa using h
  revert h
  unfold moveOk moveOk0
  rcases kindHas_some hkd.1 hkd.2 with hk | hk | hk | hk | hk <;>
   simp only [hk, h1, h2, h3, h4, cond_true, cond_false, Bool.not_false, cself, Bool.and_false, beq_self_eq_true, e0 1 0 (by decide), e0 2 0 (by decide), e0 2 1 (by decide), e0 3 0 (by decide), e0 3 1 (by decide), e0 3 2 (by decide), e0 3 4 (by decide), e0 4 0 (by decide), e0 4 1 (by decide), e0 4 2 (by decide), Bool.false_eq_true, false_implies]
theorem run24A1 (m n : Nat) (rt nn st wy : Int) (fc : Bool) (hops qz pz : List D) (nm : List UInt8) (mr mn sp mw : Int) (k1 k2 : Bool) (mh ms : List D) (mm : List UInt8) (hl : pz.length ≤ 1000000) (hs : qz.length ≤ 1000000) (hh : (hops : List D).length ≤ 1000000) (hmh : mh.length ≤ 1000000)
  (hps : pz.length ≤ qz.length) (hmay : mayOk rt nn st wy fc hops qz pz nm = true) (hmove : moveOk 1 mr mn sp mw mh ms mm = true) (hid : idCmp mr mn rt nn mh hops = 0) :
  (enterM E17 (callN E17 (m+40)) n c42 [.d (sagaD rt nn st wy false false false fc hops qz pz nm), .d (moveD 1 mr mn sp mw k1 k2 mh ms mm)] []).out = some (mkA false rt nn hops nm qz (ap1 st wy fc hops pz qz sp mw)) := by
 have hsp := moveOk_sp hmove
 have hl' : decide (pz.length ≤ 1000000) = true := decide_eq_true hl
 have hs' : decide (qz.length ≤ 1000000) = true := decide_eq_true hs
 have hh' : decide ((hops : List D).length ≤ 1000000) = true := decide_eq_true hh
 have hmh' : decide (mh.length ≤ 1000000) = true := decide_eq_true hmh
 have hps' : decide (pz.length ≤ qz.length) = true := decide_eq_true hps
 rw [e24A1]
 simp only [hl', hs', hh', hmh', hmay, hmove, hid, cond_true, bne_self_eq_false, cond_false]
 unfold ap1
 by_cases hp : (pz.length : Int) ≤ sp
 ·simp only [condM]
  first | done | rfl
 ·have h1 : decide (0 ≤ sp ∧ sp < (pz.length : Int)) = true := by simp; omega
  have h2 : decide (0 ≤ sp ∧ sp < (qz.length : Int)) = true := by simp; omega
  have h3 : decide ((pz.length : Int) ≤ sp) = false := decide_eq_false hp
  simp only [condM]
  first | done | rfl
theorem run24A2 (m n : Nat) (rt nn st wy : Int) (fc : Bool) (hops qz pz : List D) (nm : List UInt8) (mr mn sp mw : Int) (k1 k2 : Bool) (mh ms : List D) (mm : List UInt8) (hl : pz.length ≤ 1000000) (hs : qz.length ≤ 1000000) (hh : (hops : List D).length ≤ 1000000) (hmh : mh.length ≤ 1000000)
  (hps : pz.length ≤ qz.length) (hmay : mayOk rt nn st wy fc hops qz pz nm = true) (hmove : moveOk 2 mr mn sp mw mh ms mm = true) (hid : idCmp mr mn rt nn mh hops = 0) :
  (enterM E17 (callN E17 (m+40)) n c42 [.d (sagaD rt nn st wy false false false fc hops qz pz nm), .d (moveD 2 mr mn sp mw k1 k2 mh ms mm)] []).out = some (mkA false rt nn hops nm qz (ap2 st wy fc hops pz qz sp mw)) := by
 have hsp := moveOk_sp hmove
 have hl' : decide (pz.length ≤ 1000000) = true := decide_eq_true hl
 have hs' : decide (qz.length ≤ 1000000) = true := decide_eq_true hs
 have hh' : decide ((hops : List D).length ≤ 1000000) = true := decide_eq_true hh
 have hmh' : decide (mh.length ≤ 1000000) = true := decide_eq_true hmh
 have hps' : decide (pz.length ≤ qz.length) = true := decide_eq_true hps
 rw [e24A2]
 simp only [hl', hs', hh', hmh', hmay, hmove, hid, cond_true, bne_self_eq_false, cond_false]
 unfold ap2
 by_cases hp : (pz.length : Int) ≤ sp
 ·simp only [condM]
  first | done | rfl
 ·have h1 : decide (0 ≤ sp ∧ sp < (pz.length : Int)) = true := by simp; omega
  have h2 : decide (0 ≤ sp ∧ sp < (qz.length : Int)) = true := by simp; omega
  have h3 : decide ((pz.length : Int) ≤ sp) = false := decide_eq_false hp
  simp only [condM]
  first | done | rfl
theorem run24A3 (m n : Nat) (rt nn st wy : Int) (fc : Bool) (hops qz pz : List D) (nm : List UInt8) (mr mn sp mw : Int) (k1 k2 : Bool) (mh ms : List D) (mm : List UInt8) (hl : pz.length ≤ 1000000) (hs : qz.length ≤ 1000000) (hh : (hops : List D).length ≤ 1000000) (hmh : mh.length ≤ 1000000)
  (hps : pz.length ≤ qz.length) (hmay : mayOk rt nn st wy fc hops qz pz nm = true) (hmove : moveOk 3 mr mn sp mw mh ms mm = true) (hid : idCmp mr mn rt nn mh hops = 0) :
  (enterM E17 (callN E17 (m+40)) n c42 [.d (sagaD rt nn st wy false false false fc hops qz pz nm), .d (moveD 3 mr mn sp mw k1 k2 mh ms mm)] []).out = some (mkA false rt nn hops nm qz (ap3 st wy fc hops pz qz sp mw)) := by
 have hsp := moveOk_sp hmove
 have hl' : decide (pz.length ≤ 1000000) = true := decide_eq_true hl
 have hs' : decide (qz.length ≤ 1000000) = true := decide_eq_true hs
 have hh' : decide ((hops : List D).length ≤ 1000000) = true := decide_eq_true hh
 have hmh' : decide (mh.length ≤ 1000000) = true := decide_eq_true hmh
 have hps' : decide (pz.length ≤ qz.length) = true := decide_eq_true hps
 rw [e24A3]
 simp only [hl', hs', hh', hmh', hmay, hmove, hid, cond_true, bne_self_eq_false, cond_false]
 unfold ap3
 by_cases hp : (pz.length : Int) ≤ sp
 ·simp only [decide_eq_true hp, cond_true, condM]
  first | done | rfl
 ·have h1 : decide (0 ≤ sp ∧ sp < (pz.length : Int)) = true := by simp; omega
  have h2 : decide (0 ≤ sp ∧ sp < (qz.length : Int)) = true := by simp; omega
  have h3 : decide ((pz.length : Int) ≤ sp) = false := decide_eq_false hp
  simp only [h1, h2, h3, cond_true, cond_false, condM]
  first | done | rfl
theorem run24A4 (m n : Nat) (rt nn st wy : Int) (fc : Bool) (hops qz pz : List D) (nm : List UInt8) (mr mn sp mw : Int) (k1 k2 : Bool) (mh ms : List D) (mm : List UInt8) (hl : pz.length ≤ 1000000) (hs : qz.length ≤ 1000000) (hh : (hops : List D).length ≤ 1000000) (hmh : mh.length ≤ 1000000)
  (hps : pz.length ≤ qz.length) (hmay : mayOk rt nn st wy fc hops qz pz nm = true) (hmove : moveOk 4 mr mn sp mw mh ms mm = true) (hid : idCmp mr mn rt nn mh hops = 0) :
  (enterM E17 (callN E17 (m+40)) n c42 [.d (sagaD rt nn st wy false false false fc hops qz pz nm), .d (moveD 4 mr mn sp mw k1 k2 mh ms mm)] []).out = some (mkA false rt nn hops nm qz (ap4 st wy fc hops pz qz sp mw)) := by
 have hsp := moveOk_sp hmove
 have hl' : decide (pz.length ≤ 1000000) = true := decide_eq_true hl
 have hs' : decide (qz.length ≤ 1000000) = true := decide_eq_true hs
 have hh' : decide ((hops : List D).length ≤ 1000000) = true := decide_eq_true hh
 have hmh' : decide (mh.length ≤ 1000000) = true := decide_eq_true hmh
 have hps' : decide (pz.length ≤ qz.length) = true := decide_eq_true hps
 rw [e24A4]
 simp only [hl', hs', hh', hmh', hmay, hmove, hid, cond_true, bne_self_eq_false, cond_false]
 unfold ap4
 by_cases hp : (pz.length : Int) ≤ sp
 ·simp only [decide_eq_true hp, cond_true, condM]
  first | done | rfl
 ·have h1 : decide (0 ≤ sp ∧ sp < (pz.length : Int)) = true := by simp; omega
  have h2 : decide (0 ≤ sp ∧ sp < (qz.length : Int)) = true := by simp; omega
  have h3 : decide ((pz.length : Int) ≤ sp) = false := decide_eq_false hp
  simp only [h1, h2, h3, cond_true, cond_false, condM]
  first | done | rfl
theorem run24A5 (m n : Nat) (rt nn st wy : Int) (fc : Bool) (hops qz pz : List D) (nm : List UInt8) (mr mn sp mw : Int) (k1 k2 : Bool) (mh ms : List D) (mm : List UInt8) (hl : pz.length ≤ 1000000) (hs : qz.length ≤ 1000000) (hh : (hops : List D).length ≤ 1000000) (hmh : mh.length ≤ 1000000)
  (hps : pz.length ≤ qz.length) (hmay : mayOk rt nn st wy fc hops qz pz nm = true) (hmove : moveOk 5 mr mn sp mw mh ms mm = true) (hid : idCmp mr mn rt nn mh hops = 0) :
  (enterM E17 (callN E17 (m+40)) n c42 [.d (sagaD rt nn st wy false false false fc hops qz pz nm), .d (moveD 5 mr mn sp mw k1 k2 mh ms mm)] []).out = some (mkA false rt nn hops nm qz (ap5 st wy fc hops pz qz sp mw)) := by
 have hsp := moveOk_sp hmove
 have hl' : decide (pz.length ≤ 1000000) = true := decide_eq_true hl
 have hs' : decide (qz.length ≤ 1000000) = true := decide_eq_true hs
 have hh' : decide ((hops : List D).length ≤ 1000000) = true := decide_eq_true hh
 have hmh' : decide (mh.length ≤ 1000000) = true := decide_eq_true hmh
 have hps' : decide (pz.length ≤ qz.length) = true := decide_eq_true hps
 rw [e24A5]
 simp only [hl', hs', hh', hmh', hmay, hmove, hid, cond_true, bne_self_eq_false, cond_false]
 unfold ap5
 by_cases hp : (pz.length : Int) ≤ sp
 ·simp only [decide_eq_true hp, cond_true, condM]
  first | done | rfl
 ·have h1 : decide (0 ≤ sp ∧ sp < (pz.length : Int)) = true := by simp; omega
  have h2 : decide (0 ≤ sp ∧ sp < (qz.length : Int)) = true := by simp; omega
  have h3 : decide ((pz.length : Int) ≤ sp) = false := decide_eq_false hp
  simp only [h1, h2, h3, cond_true, cond_false, condM]
  first | done | rfl
theorem run24A6 (m n : Nat) (rt nn st wy : Int) (fc : Bool) (hops qz pz : List D) (nm : List UInt8) (mr mn sp mw : Int) (k1 k2 : Bool) (mh ms : List D) (mm : List UInt8) (hl : pz.length ≤ 1000000) (hs : qz.length ≤ 1000000) (hh : (hops : List D).length ≤ 1000000) (hmh : mh.length ≤ 1000000)
  (hps : pz.length ≤ qz.length) (hmay : mayOk rt nn st wy fc hops qz pz nm = true) (hmove : moveOk 6 mr mn sp mw mh ms mm = true) (hid : idCmp mr mn rt nn mh hops = 0) :
  (enterM E17 (callN E17 (m+40)) n c42 [.d (sagaD rt nn st wy false false false fc hops qz pz nm), .d (moveD 6 mr mn sp mw k1 k2 mh ms mm)] []).out = some (mkA false rt nn hops nm qz (ap6 st wy fc hops pz qz sp mw)) := by
 have hsp := moveOk_sp hmove
 have hl' : decide (pz.length ≤ 1000000) = true := decide_eq_true hl
 have hs' : decide (qz.length ≤ 1000000) = true := decide_eq_true hs
 have hh' : decide ((hops : List D).length ≤ 1000000) = true := decide_eq_true hh
 have hmh' : decide (mh.length ≤ 1000000) = true := decide_eq_true hmh
 have hps' : decide (pz.length ≤ qz.length) = true := decide_eq_true hps
 rw [e24A6]
 simp only [hl', hs', hh', hmh', hmay, hmove, hid, cond_true, bne_self_eq_false, cond_false]
 unfold ap6
 by_cases hp : (pz.length : Int) ≤ sp
 ·simp only [decide_eq_true hp, cond_true, condM]
  first | done | rfl
 ·have h1 : decide (0 ≤ sp ∧ sp < (pz.length : Int)) = true := by simp; omega
  have h2 : decide (0 ≤ sp ∧ sp < (qz.length : Int)) = true := by simp; omega
  have h3 : decide ((pz.length : Int) ≤ sp) = false := decide_eq_false hp
  simp only [h1, h2, h3, cond_true, cond_false, condM]
  first | done | rfl
theorem run24A7 (m n : Nat) (rt nn st wy : Int) (fc : Bool) (hops qz pz : List D) (nm : List UInt8) (mr mn sp mw : Int) (k1 k2 : Bool) (mh ms : List D) (mm : List UInt8) (hl : pz.length ≤ 1000000) (hs : qz.length ≤ 1000000) (hh : (hops : List D).length ≤ 1000000) (hmh : mh.length ≤ 1000000)
  (hps : pz.length ≤ qz.length) (hmay : mayOk rt nn st wy fc hops qz pz nm = true) (hmove : moveOk 7 mr mn sp mw mh ms mm = true) (hid : idCmp mr mn rt nn mh hops = 0) :
  (enterM E17 (callN E17 (m+40)) n c42 [.d (sagaD rt nn st wy false false false fc hops qz pz nm), .d (moveD 7 mr mn sp mw k1 k2 mh ms mm)] []).out = some (mkA false rt nn hops nm qz (ap7 st wy fc hops pz qz sp mw)) := by
 have hsp := moveOk_sp hmove
 have hl' : decide (pz.length ≤ 1000000) = true := decide_eq_true hl
 have hs' : decide (qz.length ≤ 1000000) = true := decide_eq_true hs
 have hh' : decide ((hops : List D).length ≤ 1000000) = true := decide_eq_true hh
 have hmh' : decide (mh.length ≤ 1000000) = true := decide_eq_true hmh
 have hps' : decide (pz.length ≤ qz.length) = true := decide_eq_true hps
 rw [e24A7]
 simp only [hl', hs', hh', hmh', hmay, hmove, hid, cond_true, bne_self_eq_false, cond_false]
 unfold ap7
 by_cases hp : (pz.length : Int) ≤ sp
 ·simp only [decide_eq_true hp, cond_true, condM]
  first | done | rfl
 ·have h1 : decide (0 ≤ sp ∧ sp < (pz.length : Int)) = true := by simp; omega
  have h2 : decide (0 ≤ sp ∧ sp < (qz.length : Int)) = true := by simp; omega
  have h3 : decide ((pz.length : Int) ≤ sp) = false := decide_eq_false hp
  simp only [h1, h2, h3, cond_true, cond_false, condM]
  first | done | rfl
theorem run24A8 (m n : Nat) (rt nn st wy : Int) (fc : Bool) (hops qz pz : List D) (nm : List UInt8) (mr mn sp mw : Int) (k1 k2 : Bool) (mh ms : List D) (mm : List UInt8) (hl : pz.length ≤ 1000000) (hs : qz.length ≤ 1000000) (hh : (hops : List D).length ≤ 1000000) (hmh : mh.length ≤ 1000000)
  (hps : pz.length ≤ qz.length) (hmay : mayOk rt nn st wy fc hops qz pz nm = true) (hmove : moveOk 8 mr mn sp mw mh ms mm = true) (hid : idCmp mr mn rt nn mh hops = 0) :
  (enterM E17 (callN E17 (m+40)) n c42 [.d (sagaD rt nn st wy false false false fc hops qz pz nm), .d (moveD 8 mr mn sp mw k1 k2 mh ms mm)] []).out = some (mkA false rt nn hops nm qz (ap8 st wy fc hops pz qz sp mw)) := by
 have hsp := moveOk_sp hmove
 have hl' : decide (pz.length ≤ 1000000) = true := decide_eq_true hl
 have hs' : decide (qz.length ≤ 1000000) = true := decide_eq_true hs
 have hh' : decide ((hops : List D).length ≤ 1000000) = true := decide_eq_true hh
 have hmh' : decide (mh.length ≤ 1000000) = true := decide_eq_true hmh
 have hps' : decide (pz.length ≤ qz.length) = true := decide_eq_true hps
 rw [e24A8]
 simp only [hl', hs', hh', hmh', hmay, hmove, hid, cond_true, bne_self_eq_false, cond_false]
 unfold ap8
 by_cases hp : (pz.length : Int) ≤ sp
 ·simp only [condM]
  first | done | rfl
 ·have h1 : decide (0 ≤ sp ∧ sp < (pz.length : Int)) = true := by simp; omega
  have h2 : decide (0 ≤ sp ∧ sp < (qz.length : Int)) = true := by simp; omega
  have h3 : decide ((pz.length : Int) ≤ sp) = false := decide_eq_false hp
  simp only [condM]
  first | done | rfl
theorem run24A9 (m n : Nat) (rt nn st wy : Int) (fc : Bool) (hops qz pz : List D) (nm : List UInt8) (mr mn sp mw : Int) (k1 k2 : Bool) (mh ms : List D) (mm : List UInt8) (hl : pz.length ≤ 1000000) (hs : qz.length ≤ 1000000) (hh : (hops : List D).length ≤ 1000000) (hmh : mh.length ≤ 1000000)
  (hps : pz.length ≤ qz.length) (hmay : mayOk rt nn st wy fc hops qz pz nm = true) (hmove : moveOk 9 mr mn sp mw mh ms mm = true) (hid : idCmp mr mn rt nn mh hops = 0) :
  (enterM E17 (callN E17 (m+40)) n c42 [.d (sagaD rt nn st wy false false false fc hops qz pz nm), .d (moveD 9 mr mn sp mw k1 k2 mh ms mm)] []).out = some (mkA false rt nn hops nm qz (ap9 st wy fc hops pz qz sp mw)) := by
 have hsp := moveOk_sp hmove
 have hl' : decide (pz.length ≤ 1000000) = true := decide_eq_true hl
 have hs' : decide (qz.length ≤ 1000000) = true := decide_eq_true hs
 have hh' : decide ((hops : List D).length ≤ 1000000) = true := decide_eq_true hh
 have hmh' : decide (mh.length ≤ 1000000) = true := decide_eq_true hmh
 have hps' : decide (pz.length ≤ qz.length) = true := decide_eq_true hps
 rw [e24A9]
 simp only [hl', hs', hh', hmh', hps', hmay, hmove, hid, cond_true, bne_self_eq_false, cond_false]
 unfold ap9
 by_cases hp : (pz.length : Int) ≤ sp
 ·simp only [condM]
  first | done | rfl
 ·have h1 : decide (0 ≤ sp ∧ sp < (pz.length : Int)) = true := by simp; omega
  have h2 : decide (0 ≤ sp ∧ sp < (qz.length : Int)) = true := by simp; omega
  have h3 : decide ((pz.length : Int) ≤ sp) = false := decide_eq_false hp
  simp only [condM]
  first | done | rfl
theorem run24A10 (m n : Nat) (rt nn st wy : Int) (fc : Bool) (hops qz pz : List D) (nm : List UInt8) (mr mn sp mw : Int) (k1 k2 : Bool) (mh ms : List D) (mm : List UInt8) (hl : pz.length ≤ 1000000) (hs : qz.length ≤ 1000000) (hh : (hops : List D).length ≤ 1000000) (hmh : mh.length ≤ 1000000)
  (hps : pz.length ≤ qz.length) (hmay : mayOk rt nn st wy fc hops qz pz nm = true) (hmove : moveOk 10 mr mn sp mw mh ms mm = true) (hid : idCmp mr mn rt nn mh hops = 0) :
  (enterM E17 (callN E17 (m+40)) n c42 [.d (sagaD rt nn st wy false false false fc hops qz pz nm), .d (moveD 10 mr mn sp mw k1 k2 mh ms mm)] []).out = some (mkA false rt nn hops nm qz (ap10 st wy fc hops pz qz sp mw)) := by
 have hsp := moveOk_sp hmove
 have hl' : decide (pz.length ≤ 1000000) = true := decide_eq_true hl
 have hs' : decide (qz.length ≤ 1000000) = true := decide_eq_true hs
 have hh' : decide ((hops : List D).length ≤ 1000000) = true := decide_eq_true hh
 have hmh' : decide (mh.length ≤ 1000000) = true := decide_eq_true hmh
 have hps' : decide (pz.length ≤ qz.length) = true := decide_eq_true hps
 rw [e24A10]
 simp only [hl', hs', hh', hmh', hmay, hmove, hid, cond_true, bne_self_eq_false, cond_false]
 unfold ap10
 by_cases hp : (pz.length : Int) ≤ sp
 ·simp only [condM]
  first | done | rfl
 ·have h1 : decide (0 ≤ sp ∧ sp < (pz.length : Int)) = true := by simp; omega
  have h2 : decide (0 ≤ sp ∧ sp < (qz.length : Int)) = true := by simp; omega
  have h3 : decide ((pz.length : Int) ≤ sp) = false := decide_eq_false hp
  simp only [condM]
  first | done | rfl
theorem run24A11 (m n : Nat) (rt nn st wy : Int) (fc : Bool) (hops qz pz : List D) (nm : List UInt8) (mr mn sp mw : Int) (k1 k2 : Bool) (mh ms : List D) (mm : List UInt8) (hl : pz.length ≤ 1000000) (hs : qz.length ≤ 1000000) (hh : (hops : List D).length ≤ 1000000) (hmh : mh.length ≤ 1000000)
  (hps : pz.length ≤ qz.length) (hmay : mayOk rt nn st wy fc hops qz pz nm = true) (hmove : moveOk 11 mr mn sp mw mh ms mm = true) (hid : idCmp mr mn rt nn mh hops = 0) :
  (enterM E17 (callN E17 (m+40)) n c42 [.d (sagaD rt nn st wy false false false fc hops qz pz nm), .d (moveD 11 mr mn sp mw k1 k2 mh ms mm)] []).out = some (mkA false rt nn hops nm qz (ap11 st wy fc hops pz qz sp mw)) := by
 have hsp := moveOk_sp hmove
 have hl' : decide (pz.length ≤ 1000000) = true := decide_eq_true hl
 have hs' : decide (qz.length ≤ 1000000) = true := decide_eq_true hs
 have hh' : decide ((hops : List D).length ≤ 1000000) = true := decide_eq_true hh
 have hmh' : decide (mh.length ≤ 1000000) = true := decide_eq_true hmh
 have hps' : decide (pz.length ≤ qz.length) = true := decide_eq_true hps
 rw [e24A11]
 simp only [hl', hs', hh', hmh', hmay, hmove, hid, cond_true, bne_self_eq_false, cond_false]
 unfold ap11
 by_cases hp : (pz.length : Int) ≤ sp
 ·simp only [decide_eq_true hp, cond_true, condM]
  first | done | rfl
 ·have h1 : decide (0 ≤ sp ∧ sp < (pz.length : Int)) = true := by simp; omega
  have h2 : decide (0 ≤ sp ∧ sp < (qz.length : Int)) = true := by simp; omega
  have h3 : decide ((pz.length : Int) ≤ sp) = false := decide_eq_false hp
  simp only [h1, h2, h3, cond_true, cond_false, condM]
  first | done | rfl
theorem run24A12 (m n : Nat) (rt nn st wy : Int) (fc : Bool) (hops qz pz : List D) (nm : List UInt8) (mr mn sp mw : Int) (k1 k2 : Bool) (mh ms : List D) (mm : List UInt8) (hl : pz.length ≤ 1000000) (hs : qz.length ≤ 1000000) (hh : (hops : List D).length ≤ 1000000) (hmh : mh.length ≤ 1000000)
  (hps : pz.length ≤ qz.length) (hmay : mayOk rt nn st wy fc hops qz pz nm = true) (hmove : moveOk 12 mr mn sp mw mh ms mm = true) (hid : idCmp mr mn rt nn mh hops = 0) :
  (enterM E17 (callN E17 (m+40)) n c42 [.d (sagaD rt nn st wy false false false fc hops qz pz nm), .d (moveD 12 mr mn sp mw k1 k2 mh ms mm)] []).out = some (mkA false rt nn hops nm qz (ap12 st wy fc hops pz qz sp mw)) := by
 have hsp := moveOk_sp hmove
 have hl' : decide (pz.length ≤ 1000000) = true := decide_eq_true hl
 have hs' : decide (qz.length ≤ 1000000) = true := decide_eq_true hs
 have hh' : decide ((hops : List D).length ≤ 1000000) = true := decide_eq_true hh
 have hmh' : decide (mh.length ≤ 1000000) = true := decide_eq_true hmh
 have hps' : decide (pz.length ≤ qz.length) = true := decide_eq_true hps
 rw [e24A12]
 simp only [hl', hs', hh', hmh', hmay, hmove, hid, cond_true, bne_self_eq_false, cond_false]
 unfold ap12
 by_cases hp : (pz.length : Int) ≤ sp
 ·simp only [decide_eq_true hp, cond_true, condM]
  first | done | rfl
 ·have h1 : decide (0 ≤ sp ∧ sp < (pz.length : Int)) = true := by simp; omega
  have h2 : decide (0 ≤ sp ∧ sp < (qz.length : Int)) = true := by simp; omega
  have h3 : decide ((pz.length : Int) ≤ sp) = false := decide_eq_false hp
  simp only [h1, h2, h3, cond_true, cond_false, condM]
  first | done | rfl
theorem run24A13 (m n : Nat) (rt nn st wy : Int) (fc : Bool) (hops qz pz : List D) (nm : List UInt8) (mr mn sp mw : Int) (k1 k2 : Bool) (mh ms : List D) (mm : List UInt8) (h13 : st = 5 → 0 ≤ cur st pz) (hl : pz.length ≤ 1000000) (hs : qz.length ≤ 1000000) (hh : (hops : List D).length ≤ 1000000) (hmh : mh.length ≤ 1000000)
  (hps : pz.length ≤ qz.length) (hmay : mayOk rt nn st wy fc hops qz pz nm = true) (hmove : moveOk 13 mr mn sp mw mh ms mm = true) (hid : idCmp mr mn rt nn mh hops = 0) :
  (enterM E17 (callN E17 (m+40)) n c42 [.d (sagaD rt nn st wy false false false fc hops qz pz nm), .d (moveD 13 mr mn sp mw k1 k2 mh ms mm)] []).out = some (mkA false rt nn hops nm qz (ap13 st wy fc hops pz qz sp mw)) := by
 have hsp := moveOk_sp hmove
 have hl' : decide (pz.length ≤ 1000000) = true := decide_eq_true hl
 have hs' : decide (qz.length ≤ 1000000) = true := decide_eq_true hs
 have hh' : decide ((hops : List D).length ≤ 1000000) = true := decide_eq_true hh
 have hmh' : decide (mh.length ≤ 1000000) = true := decide_eq_true hmh
 have hps' : decide (pz.length ≤ qz.length) = true := decide_eq_true hps
 have hlt13 := cur_lt st pz
 rw [e24A13]
 simp only [hl', hs', hh', hmh', hmay, hmove, hid, cond_true, bne_self_eq_false, cond_false]
 unfold ap13
 by_cases h5 : st = 5
 ·have c1 : decide (0 ≤ cur st pz ∧ cur st pz < (pz.length : Int)) = true := by have := h13 h5; simp; omega
  simp only [c1, cond_true, condM]
  first | done | rfl
 ·have h5' : (st != 5) = true := by simpa using h5
  simp only [h5', cond_true, condM]
  first | done | rfl
theorem run24A14 (m n : Nat) (rt nn st wy : Int) (fc : Bool) (hops qz pz : List D) (nm : List UInt8) (mr mn sp mw : Int) (k1 k2 : Bool) (mh ms : List D) (mm : List UInt8) (hl : pz.length ≤ 1000000) (hs : qz.length ≤ 1000000) (hh : (hops : List D).length ≤ 1000000) (hmh : mh.length ≤ 1000000)
  (hps : pz.length ≤ qz.length) (hmay : mayOk rt nn st wy fc hops qz pz nm = true) (hmove : moveOk 14 mr mn sp mw mh ms mm = true) (hid : idCmp mr mn rt nn mh hops = 0) :
  (enterM E17 (callN E17 (m+40)) n c42 [.d (sagaD rt nn st wy false false false fc hops qz pz nm), .d (moveD 14 mr mn sp mw k1 k2 mh ms mm)] []).out = some (mkA false rt nn hops nm qz (ap14 st wy fc hops pz qz sp mw)) := by
 have hsp := moveOk_sp hmove
 have hl' : decide (pz.length ≤ 1000000) = true := decide_eq_true hl
 have hs' : decide (qz.length ≤ 1000000) = true := decide_eq_true hs
 have hh' : decide ((hops : List D).length ≤ 1000000) = true := decide_eq_true hh
 have hmh' : decide (mh.length ≤ 1000000) = true := decide_eq_true hmh
 have hps' : decide (pz.length ≤ qz.length) = true := decide_eq_true hps
 rw [e24A14]
 simp only [hl', hs', hh', hmh', hmay, hmove, hid, cond_true, bne_self_eq_false, cond_false]
 unfold ap14
 by_cases hp : (pz.length : Int) ≤ sp
 ·simp only [condM]
  first | done | rfl
 ·have h1 : decide (0 ≤ sp ∧ sp < (pz.length : Int)) = true := by simp; omega
  have h2 : decide (0 ≤ sp ∧ sp < (qz.length : Int)) = true := by simp; omega
  have h3 : decide ((pz.length : Int) ≤ sp) = false := decide_eq_false hp
  simp only [condM]
  first | done | rfl
theorem run24A15 (m n : Nat) (rt nn st wy : Int) (fc : Bool) (hops qz pz : List D) (nm : List UInt8) (mr mn sp mw : Int) (k1 k2 : Bool) (mh ms : List D) (mm : List UInt8) (hl : pz.length ≤ 1000000) (hs : qz.length ≤ 1000000) (hh : (hops : List D).length ≤ 1000000) (hmh : mh.length ≤ 1000000)
  (hps : pz.length ≤ qz.length) (hmay : mayOk rt nn st wy fc hops qz pz nm = true) (hmove : moveOk 15 mr mn sp mw mh ms mm = true) (hid : idCmp mr mn rt nn mh hops = 0) :
  (enterM E17 (callN E17 (m+40)) n c42 [.d (sagaD rt nn st wy false false false fc hops qz pz nm), .d (moveD 15 mr mn sp mw k1 k2 mh ms mm)] []).out = some (mkA false rt nn hops nm qz (ap15 st wy fc hops pz qz sp mw)) := by
 have hsp := moveOk_sp hmove
 have hl' : decide (pz.length ≤ 1000000) = true := decide_eq_true hl
 have hs' : decide (qz.length ≤ 1000000) = true := decide_eq_true hs
 have hh' : decide ((hops : List D).length ≤ 1000000) = true := decide_eq_true hh
 have hmh' : decide (mh.length ≤ 1000000) = true := decide_eq_true hmh
 have hps' : decide (pz.length ≤ qz.length) = true := decide_eq_true hps
 rw [e24A15]
 simp only [hl', hs', hh', hmh', hmay, hmove, hid, cond_true, bne_self_eq_false, cond_false]
 unfold ap15
 by_cases hp : (pz.length : Int) ≤ sp
 ·simp only [decide_eq_true hp, cond_true, condM]
  first | done | rfl
 ·have h1 : decide (0 ≤ sp ∧ sp < (pz.length : Int)) = true := by simp; omega
  have h2 : decide (0 ≤ sp ∧ sp < (qz.length : Int)) = true := by simp; omega
  have h3 : decide ((pz.length : Int) ≤ sp) = false := decide_eq_false hp
  simp only [h1, h2, h3, cond_true, cond_false, condM]
  first | done | rfl
theorem run24A16 (m n : Nat) (rt nn st wy : Int) (fc : Bool) (hops qz pz : List D) (nm : List UInt8) (mr mn sp mw : Int) (k1 k2 : Bool) (mh ms : List D) (mm : List UInt8) (hl : pz.length ≤ 1000000) (hs : qz.length ≤ 1000000) (hh : (hops : List D).length ≤ 1000000) (hmh : mh.length ≤ 1000000)
  (hps : pz.length ≤ qz.length) (hmay : mayOk rt nn st wy fc hops qz pz nm = true) (hmove : moveOk 16 mr mn sp mw mh ms mm = true) (hid : idCmp mr mn rt nn mh hops = 0) :
  (enterM E17 (callN E17 (m+40)) n c42 [.d (sagaD rt nn st wy false false false fc hops qz pz nm), .d (moveD 16 mr mn sp mw k1 k2 mh ms mm)] []).out = some (mkA false rt nn hops nm qz (ap16 st wy fc hops pz qz sp mw)) := by
 have hsp := moveOk_sp hmove
 have hl' : decide (pz.length ≤ 1000000) = true := decide_eq_true hl
 have hs' : decide (qz.length ≤ 1000000) = true := decide_eq_true hs
 have hh' : decide ((hops : List D).length ≤ 1000000) = true := decide_eq_true hh
 have hmh' : decide (mh.length ≤ 1000000) = true := decide_eq_true hmh
 have hps' : decide (pz.length ≤ qz.length) = true := decide_eq_true hps
 rw [e24A16]
 simp only [hl', hs', hh', hmh', hps', hmay, hmove, hid, calm_len, cond_true, bne_self_eq_false, cond_false]
 unfold ap16
 by_cases hp : (pz.length : Int) ≤ sp
 ·simp only [condM]
  first | done | rfl
 ·have h1 : decide (0 ≤ sp ∧ sp < (pz.length : Int)) = true := by simp; omega
  have h2 : decide (0 ≤ sp ∧ sp < (qz.length : Int)) = true := by simp; omega
  have h3 : decide ((pz.length : Int) ≤ sp) = false := decide_eq_false hp
  simp only [condM]
  first | done | rfl
theorem run24B1 (m n : Nat) (rt nn st wy : Int) (fc : Bool) (qz pz : List D) (nm : List UInt8) (mr mn sp mw : Int) (k1 k2 : Bool) (mh ms : List D) (mm : List UInt8) (hl : pz.length ≤ 1000000) (hs : qz.length ≤ 1000000) (hh : ([] : List D).length ≤ 1000000) (hmh : mh.length ≤ 1000000)
  (hps : pz.length ≤ qz.length) (hmay : mayOk rt nn st wy fc [] qz pz nm = true) (hmove : moveOk 1 mr mn sp mw mh ms mm = true) (hid : idCmp mr mn rt nn mh [] = 0) :
  (enterM E17 (callN E17 (m+40)) n c42 [.d (sagaD rt nn st wy true false false fc [] qz pz nm), .d (moveD 1 mr mn sp mw k1 k2 mh ms mm)] []).out = some (mkA true rt nn [] nm qz (ap1 st wy fc [] pz qz sp mw)) := by
 have hsp := moveOk_sp hmove
 have hl' : decide (pz.length ≤ 1000000) = true := decide_eq_true hl
 have hs' : decide (qz.length ≤ 1000000) = true := decide_eq_true hs
 have hh' : decide (([] : List D).length ≤ 1000000) = true := decide_eq_true hh
 have hmh' : decide (mh.length ≤ 1000000) = true := decide_eq_true hmh
 have hps' : decide (pz.length ≤ qz.length) = true := decide_eq_true hps
 rw [e24B1]
 simp only [hl', hs', hmh', hmay, hmove, hid, cond_true, bne_self_eq_false, cond_false]
 unfold ap1
 by_cases hp : (pz.length : Int) ≤ sp
 ·simp only [condM]
  first | done | rfl
 ·have h1 : decide (0 ≤ sp ∧ sp < (pz.length : Int)) = true := by simp; omega
  have h2 : decide (0 ≤ sp ∧ sp < (qz.length : Int)) = true := by simp; omega
  have h3 : decide ((pz.length : Int) ≤ sp) = false := decide_eq_false hp
  simp only [condM]
  first | done | rfl
theorem run24B2 (m n : Nat) (rt nn st wy : Int) (fc : Bool) (qz pz : List D) (nm : List UInt8) (mr mn sp mw : Int) (k1 k2 : Bool) (mh ms : List D) (mm : List UInt8) (hl : pz.length ≤ 1000000) (hs : qz.length ≤ 1000000) (hh : ([] : List D).length ≤ 1000000) (hmh : mh.length ≤ 1000000)
  (hps : pz.length ≤ qz.length) (hmay : mayOk rt nn st wy fc [] qz pz nm = true) (hmove : moveOk 2 mr mn sp mw mh ms mm = true) (hid : idCmp mr mn rt nn mh [] = 0) :
  (enterM E17 (callN E17 (m+40)) n c42 [.d (sagaD rt nn st wy true false false fc [] qz pz nm), .d (moveD 2 mr mn sp mw k1 k2 mh ms mm)] []).out = some (mkA true rt nn [] nm qz (ap2 st wy fc [] pz qz sp mw)) := by
 have hsp := moveOk_sp hmove
 have hl' : decide (pz.length ≤ 1000000) = true := decide_eq_true hl
 have hs' : decide (qz.length ≤ 1000000) = true := decide_eq_true hs
 have hh' : decide (([] : List D).length ≤ 1000000) = true := decide_eq_true hh
 have hmh' : decide (mh.length ≤ 1000000) = true := decide_eq_true hmh
 have hps' : decide (pz.length ≤ qz.length) = true := decide_eq_true hps
 rw [e24B2]
 simp only [hl', hs', hmh', hmay, hmove, hid, cond_true, bne_self_eq_false, cond_false]
 unfold ap2
 by_cases hp : (pz.length : Int) ≤ sp
 ·simp only [condM]
  first | done | rfl
 ·have h1 : decide (0 ≤ sp ∧ sp < (pz.length : Int)) = true := by simp; omega
  have h2 : decide (0 ≤ sp ∧ sp < (qz.length : Int)) = true := by simp; omega
  have h3 : decide ((pz.length : Int) ≤ sp) = false := decide_eq_false hp
  simp only [condM]
  first | done | rfl
theorem run24B3 (m n : Nat) (rt nn st wy : Int) (fc : Bool) (qz pz : List D) (nm : List UInt8) (mr mn sp mw : Int) (k1 k2 : Bool) (mh ms : List D) (mm : List UInt8) (hl : pz.length ≤ 1000000) (hs : qz.length ≤ 1000000) (hh : ([] : List D).length ≤ 1000000) (hmh : mh.length ≤ 1000000)
  (hps : pz.length ≤ qz.length) (hmay : mayOk rt nn st wy fc [] qz pz nm = true) (hmove : moveOk 3 mr mn sp mw mh ms mm = true) (hid : idCmp mr mn rt nn mh [] = 0) :
  (enterM E17 (callN E17 (m+40)) n c42 [.d (sagaD rt nn st wy true false false fc [] qz pz nm), .d (moveD 3 mr mn sp mw k1 k2 mh ms mm)] []).out = some (mkA true rt nn [] nm qz (ap3 st wy fc [] pz qz sp mw)) := by
 have hsp := moveOk_sp hmove
 have hl' : decide (pz.length ≤ 1000000) = true := decide_eq_true hl
 have hs' : decide (qz.length ≤ 1000000) = true := decide_eq_true hs
 have hh' : decide (([] : List D).length ≤ 1000000) = true := decide_eq_true hh
 have hmh' : decide (mh.length ≤ 1000000) = true := decide_eq_true hmh
 have hps' : decide (pz.length ≤ qz.length) = true := decide_eq_true hps
 rw [e24B3]
 simp only [hl', hs', hmh', hmay, hmove, hid, cond_true, bne_self_eq_false, cond_false]
 unfold ap3
 by_cases hp : (pz.length : Int) ≤ sp
 ·simp only [decide_eq_true hp, cond_true, condM]
  first | done | rfl
 ·have h1 : decide (0 ≤ sp ∧ sp < (pz.length : Int)) = true := by simp; omega
  have h2 : decide (0 ≤ sp ∧ sp < (qz.length : Int)) = true := by simp; omega
  have h3 : decide ((pz.length : Int) ≤ sp) = false := decide_eq_false hp
  simp only [h1, h2, h3, cond_true, cond_false, condM]
  first | done | rfl
theorem run24B4 (m n : Nat) (rt nn st wy : Int) (fc : Bool) (qz pz : List D) (nm : List UInt8) (mr mn sp mw : Int) (k1 k2 : Bool) (mh ms : List D) (mm : List UInt8) (hl : pz.length ≤ 1000000) (hs : qz.length ≤ 1000000) (hh : ([] : List D).length ≤ 1000000) (hmh : mh.length ≤ 1000000)
  (hps : pz.length ≤ qz.length) (hmay : mayOk rt nn st wy fc [] qz pz nm = true) (hmove : moveOk 4 mr mn sp mw mh ms mm = true) (hid : idCmp mr mn rt nn mh [] = 0) :
  (enterM E17 (callN E17 (m+40)) n c42 [.d (sagaD rt nn st wy true false false fc [] qz pz nm), .d (moveD 4 mr mn sp mw k1 k2 mh ms mm)] []).out = some (mkA true rt nn [] nm qz (ap4 st wy fc [] pz qz sp mw)) := by
 have hsp := moveOk_sp hmove
 have hl' : decide (pz.length ≤ 1000000) = true := decide_eq_true hl
 have hs' : decide (qz.length ≤ 1000000) = true := decide_eq_true hs
 have hh' : decide (([] : List D).length ≤ 1000000) = true := decide_eq_true hh
 have hmh' : decide (mh.length ≤ 1000000) = true := decide_eq_true hmh
 have hps' : decide (pz.length ≤ qz.length) = true := decide_eq_true hps
 rw [e24B4]
 simp only [hl', hs', hmh', hmay, hmove, hid, cond_true, bne_self_eq_false, cond_false]
 unfold ap4
 by_cases hp : (pz.length : Int) ≤ sp
 ·simp only [decide_eq_true hp, cond_true, condM]
  first | done | rfl
 ·have h1 : decide (0 ≤ sp ∧ sp < (pz.length : Int)) = true := by simp; omega
  have h2 : decide (0 ≤ sp ∧ sp < (qz.length : Int)) = true := by simp; omega
  have h3 : decide ((pz.length : Int) ≤ sp) = false := decide_eq_false hp
  simp only [h1, h2, h3, cond_true, cond_false, condM]
  first | done | rfl
theorem run24B5 (m n : Nat) (rt nn st wy : Int) (fc : Bool) (qz pz : List D) (nm : List UInt8) (mr mn sp mw : Int) (k1 k2 : Bool) (mh ms : List D) (mm : List UInt8) (hl : pz.length ≤ 1000000) (hs : qz.length ≤ 1000000) (hh : ([] : List D).length ≤ 1000000) (hmh : mh.length ≤ 1000000)
  (hps : pz.length ≤ qz.length) (hmay : mayOk rt nn st wy fc [] qz pz nm = true) (hmove : moveOk 5 mr mn sp mw mh ms mm = true) (hid : idCmp mr mn rt nn mh [] = 0) :
  (enterM E17 (callN E17 (m+40)) n c42 [.d (sagaD rt nn st wy true false false fc [] qz pz nm), .d (moveD 5 mr mn sp mw k1 k2 mh ms mm)] []).out = some (mkA true rt nn [] nm qz (ap5 st wy fc [] pz qz sp mw)) := by
 have hsp := moveOk_sp hmove
 have hl' : decide (pz.length ≤ 1000000) = true := decide_eq_true hl
 have hs' : decide (qz.length ≤ 1000000) = true := decide_eq_true hs
 have hh' : decide (([] : List D).length ≤ 1000000) = true := decide_eq_true hh
 have hmh' : decide (mh.length ≤ 1000000) = true := decide_eq_true hmh
 have hps' : decide (pz.length ≤ qz.length) = true := decide_eq_true hps
 rw [e24B5]
 simp only [hl', hs', hmh', hmay, hmove, hid, cond_true, bne_self_eq_false, cond_false]
 unfold ap5
 by_cases hp : (pz.length : Int) ≤ sp
 ·simp only [decide_eq_true hp, cond_true, condM]
  first | done | rfl
 ·have h1 : decide (0 ≤ sp ∧ sp < (pz.length : Int)) = true := by simp; omega
  have h2 : decide (0 ≤ sp ∧ sp < (qz.length : Int)) = true := by simp; omega
  have h3 : decide ((pz.length : Int) ≤ sp) = false := decide_eq_false hp
  simp only [h1, h2, h3, cond_true, cond_false, condM]
  first | done | rfl
theorem run24B6 (m n : Nat) (rt nn st wy : Int) (fc : Bool) (qz pz : List D) (nm : List UInt8) (mr mn sp mw : Int) (k1 k2 : Bool) (mh ms : List D) (mm : List UInt8) (hl : pz.length ≤ 1000000) (hs : qz.length ≤ 1000000) (hh : ([] : List D).length ≤ 1000000) (hmh : mh.length ≤ 1000000)
  (hps : pz.length ≤ qz.length) (hmay : mayOk rt nn st wy fc [] qz pz nm = true) (hmove : moveOk 6 mr mn sp mw mh ms mm = true) (hid : idCmp mr mn rt nn mh [] = 0) :
  (enterM E17 (callN E17 (m+40)) n c42 [.d (sagaD rt nn st wy true false false fc [] qz pz nm), .d (moveD 6 mr mn sp mw k1 k2 mh ms mm)] []).out = some (mkA true rt nn [] nm qz (ap6 st wy fc [] pz qz sp mw)) := by
 have hsp := moveOk_sp hmove
 have hl' : decide (pz.length ≤ 1000000) = true := decide_eq_true hl
 have hs' : decide (qz.length ≤ 1000000) = true := decide_eq_true hs
 have hh' : decide (([] : List D).length ≤ 1000000) = true := decide_eq_true hh
 have hmh' : decide (mh.length ≤ 1000000) = true := decide_eq_true hmh
 have hps' : decide (pz.length ≤ qz.length) = true := decide_eq_true hps
 rw [e24B6]
 simp only [hl', hs', hmh', hmay, hmove, hid, cond_true, bne_self_eq_false, cond_false]
 unfold ap6
 by_cases hp : (pz.length : Int) ≤ sp
 ·simp only [decide_eq_true hp, cond_true, condM]
  first | done | rfl
 ·have h1 : decide (0 ≤ sp ∧ sp < (pz.length : Int)) = true := by simp; omega
  have h2 : decide (0 ≤ sp ∧ sp < (qz.length : Int)) = true := by simp; omega
  have h3 : decide ((pz.length : Int) ≤ sp) = false := decide_eq_false hp
  simp only [h1, h2, h3, cond_true, cond_false, condM]
  first | done | rfl
theorem run24B7 (m n : Nat) (rt nn st wy : Int) (fc : Bool) (qz pz : List D) (nm : List UInt8) (mr mn sp mw : Int) (k1 k2 : Bool) (mh ms : List D) (mm : List UInt8) (hl : pz.length ≤ 1000000) (hs : qz.length ≤ 1000000) (hh : ([] : List D).length ≤ 1000000) (hmh : mh.length ≤ 1000000)
  (hps : pz.length ≤ qz.length) (hmay : mayOk rt nn st wy fc [] qz pz nm = true) (hmove : moveOk 7 mr mn sp mw mh ms mm = true) (hid : idCmp mr mn rt nn mh [] = 0) :
  (enterM E17 (callN E17 (m+40)) n c42 [.d (sagaD rt nn st wy true false false fc [] qz pz nm), .d (moveD 7 mr mn sp mw k1 k2 mh ms mm)] []).out = some (mkA true rt nn [] nm qz (ap7 st wy fc [] pz qz sp mw)) := by
 have hsp := moveOk_sp hmove
 have hl' : decide (pz.length ≤ 1000000) = true := decide_eq_true hl
 have hs' : decide (qz.length ≤ 1000000) = true := decide_eq_true hs
 have hh' : decide (([] : List D).length ≤ 1000000) = true := decide_eq_true hh
 have hmh' : decide (mh.length ≤ 1000000) = true := decide_eq_true hmh
 have hps' : decide (pz.length ≤ qz.length) = true := decide_eq_true hps
 rw [e24B7]
 simp only [hl', hs', hmh', hmay, hmove, hid, cond_true, bne_self_eq_false, cond_false]
 unfold ap7
 by_cases hp : (pz.length : Int) ≤ sp
 ·simp only [decide_eq_true hp, cond_true, condM]
  first | done | rfl
 ·have h1 : decide (0 ≤ sp ∧ sp < (pz.length : Int)) = true := by simp; omega
  have h2 : decide (0 ≤ sp ∧ sp < (qz.length : Int)) = true := by simp; omega
  have h3 : decide ((pz.length : Int) ≤ sp) = false := decide_eq_false hp
  simp only [h1, h2, h3, cond_true, cond_false, condM]
  first | done | rfl
theorem run24B8 (m n : Nat) (rt nn st wy : Int) (fc : Bool) (qz pz : List D) (nm : List UInt8) (mr mn sp mw : Int) (k1 k2 : Bool) (mh ms : List D) (mm : List UInt8) (hl : pz.length ≤ 1000000) (hs : qz.length ≤ 1000000) (hh : ([] : List D).length ≤ 1000000) (hmh : mh.length ≤ 1000000)
  (hps : pz.length ≤ qz.length) (hmay : mayOk rt nn st wy fc [] qz pz nm = true) (hmove : moveOk 8 mr mn sp mw mh ms mm = true) (hid : idCmp mr mn rt nn mh [] = 0) :
  (enterM E17 (callN E17 (m+40)) n c42 [.d (sagaD rt nn st wy true false false fc [] qz pz nm), .d (moveD 8 mr mn sp mw k1 k2 mh ms mm)] []).out = some (mkA true rt nn [] nm qz (ap8 st wy fc [] pz qz sp mw)) := by
 have hsp := moveOk_sp hmove
 have hl' : decide (pz.length ≤ 1000000) = true := decide_eq_true hl
 have hs' : decide (qz.length ≤ 1000000) = true := decide_eq_true hs
 have hh' : decide (([] : List D).length ≤ 1000000) = true := decide_eq_true hh
 have hmh' : decide (mh.length ≤ 1000000) = true := decide_eq_true hmh
 have hps' : decide (pz.length ≤ qz.length) = true := decide_eq_true hps
 rw [e24B8]
 simp only [hl', hs', hmh', hmay, hmove, hid, cond_true, bne_self_eq_false, cond_false]
 unfold ap8
 by_cases hp : (pz.length : Int) ≤ sp
 ·simp only [condM]
  first | done | rfl
 ·have h1 : decide (0 ≤ sp ∧ sp < (pz.length : Int)) = true := by simp; omega
  have h2 : decide (0 ≤ sp ∧ sp < (qz.length : Int)) = true := by simp; omega
  have h3 : decide ((pz.length : Int) ≤ sp) = false := decide_eq_false hp
  simp only [condM]
  first | done | rfl
theorem run24B9 (m n : Nat) (rt nn st wy : Int) (fc : Bool) (qz pz : List D) (nm : List UInt8) (mr mn sp mw : Int) (k1 k2 : Bool) (mh ms : List D) (mm : List UInt8) (hl : pz.length ≤ 1000000) (hs : qz.length ≤ 1000000) (hh : ([] : List D).length ≤ 1000000) (hmh : mh.length ≤ 1000000)
  (hps : pz.length ≤ qz.length) (hmay : mayOk rt nn st wy fc [] qz pz nm = true) (hmove : moveOk 9 mr mn sp mw mh ms mm = true) (hid : idCmp mr mn rt nn mh [] = 0) :
  (enterM E17 (callN E17 (m+40)) n c42 [.d (sagaD rt nn st wy true false false fc [] qz pz nm), .d (moveD 9 mr mn sp mw k1 k2 mh ms mm)] []).out = some (mkA true rt nn [] nm qz (ap9 st wy fc [] pz qz sp mw)) := by
 have hsp := moveOk_sp hmove
 have hl' : decide (pz.length ≤ 1000000) = true := decide_eq_true hl
 have hs' : decide (qz.length ≤ 1000000) = true := decide_eq_true hs
 have hh' : decide (([] : List D).length ≤ 1000000) = true := decide_eq_true hh
 have hmh' : decide (mh.length ≤ 1000000) = true := decide_eq_true hmh
 have hps' : decide (pz.length ≤ qz.length) = true := decide_eq_true hps
 rw [e24B9]
 simp only [hl', hs', hmh', hps', hmay, hmove, hid, cond_true, bne_self_eq_false, cond_false]
 unfold ap9
 by_cases hp : (pz.length : Int) ≤ sp
 ·simp only [condM]
  first | done | rfl
 ·have h1 : decide (0 ≤ sp ∧ sp < (pz.length : Int)) = true := by simp; omega
  have h2 : decide (0 ≤ sp ∧ sp < (qz.length : Int)) = true := by simp; omega
  have h3 : decide ((pz.length : Int) ≤ sp) = false := decide_eq_false hp
  simp only [condM]
  first | done | rfl
theorem run24B10 (m n : Nat) (rt nn st wy : Int) (fc : Bool) (qz pz : List D) (nm : List UInt8) (mr mn sp mw : Int) (k1 k2 : Bool) (mh ms : List D) (mm : List UInt8) (hl : pz.length ≤ 1000000) (hs : qz.length ≤ 1000000) (hh : ([] : List D).length ≤ 1000000) (hmh : mh.length ≤ 1000000)
  (hps : pz.length ≤ qz.length) (hmay : mayOk rt nn st wy fc [] qz pz nm = true) (hmove : moveOk 10 mr mn sp mw mh ms mm = true) (hid : idCmp mr mn rt nn mh [] = 0) :
  (enterM E17 (callN E17 (m+40)) n c42 [.d (sagaD rt nn st wy true false false fc [] qz pz nm), .d (moveD 10 mr mn sp mw k1 k2 mh ms mm)] []).out = some (mkA true rt nn [] nm qz (ap10 st wy fc [] pz qz sp mw)) := by
 have hsp := moveOk_sp hmove
 have hl' : decide (pz.length ≤ 1000000) = true := decide_eq_true hl
 have hs' : decide (qz.length ≤ 1000000) = true := decide_eq_true hs
 have hh' : decide (([] : List D).length ≤ 1000000) = true := decide_eq_true hh
 have hmh' : decide (mh.length ≤ 1000000) = true := decide_eq_true hmh
 have hps' : decide (pz.length ≤ qz.length) = true := decide_eq_true hps
 rw [e24B10]
 simp only [hl', hs', hmh', hmay, hmove, hid, cond_true, bne_self_eq_false, cond_false]
 unfold ap10
 by_cases hp : (pz.length : Int) ≤ sp
 ·simp only [condM]
  first | done | rfl
 ·have h1 : decide (0 ≤ sp ∧ sp < (pz.length : Int)) = true := by simp; omega
  have h2 : decide (0 ≤ sp ∧ sp < (qz.length : Int)) = true := by simp; omega
  have h3 : decide ((pz.length : Int) ≤ sp) = false := decide_eq_false hp
  simp only [condM]
  first | done | rfl
theorem run24B11 (m n : Nat) (rt nn st wy : Int) (fc : Bool) (qz pz : List D) (nm : List UInt8) (mr mn sp mw : Int) (k1 k2 : Bool) (mh ms : List D) (mm : List UInt8) (hl : pz.length ≤ 1000000) (hs : qz.length ≤ 1000000) (hh : ([] : List D).length ≤ 1000000) (hmh : mh.length ≤ 1000000)
  (hps : pz.length ≤ qz.length) (hmay : mayOk rt nn st wy fc [] qz pz nm = true) (hmove : moveOk 11 mr mn sp mw mh ms mm = true) (hid : idCmp mr mn rt nn mh [] = 0) :
  (enterM E17 (callN E17 (m+40)) n c42 [.d (sagaD rt nn st wy true false false fc [] qz pz nm), .d (moveD 11 mr mn sp mw k1 k2 mh ms mm)] []).out = some (mkA true rt nn [] nm qz (ap11 st wy fc [] pz qz sp mw)) := by
 have hsp := moveOk_sp hmove
 have hl' : decide (pz.length ≤ 1000000) = true := decide_eq_true hl
 have hs' : decide (qz.length ≤ 1000000) = true := decide_eq_true hs
 have hh' : decide (([] : List D).length ≤ 1000000) = true := decide_eq_true hh
 have hmh' : decide (mh.length ≤ 1000000) = true := decide_eq_true hmh
 have hps' : decide (pz.length ≤ qz.length) = true := decide_eq_true hps
 rw [e24B11]
 simp only [hl', hs', hmh', hmay, hmove, hid, cond_true, bne_self_eq_false, cond_false]
 unfold ap11
 by_cases hp : (pz.length : Int) ≤ sp
 ·simp only [decide_eq_true hp, cond_true, condM]
  first | done | rfl
 ·have h1 : decide (0 ≤ sp ∧ sp < (pz.length : Int)) = true := by simp; omega
  have h2 : decide (0 ≤ sp ∧ sp < (qz.length : Int)) = true := by simp; omega
  have h3 : decide ((pz.length : Int) ≤ sp) = false := decide_eq_false hp
  simp only [h1, h2, h3, cond_true, cond_false, condM]
  first | done | rfl
theorem run24B12 (m n : Nat) (rt nn st wy : Int) (fc : Bool) (qz pz : List D) (nm : List UInt8) (mr mn sp mw : Int) (k1 k2 : Bool) (mh ms : List D) (mm : List UInt8) (hl : pz.length ≤ 1000000) (hs : qz.length ≤ 1000000) (hh : ([] : List D).length ≤ 1000000) (hmh : mh.length ≤ 1000000)
  (hps : pz.length ≤ qz.length) (hmay : mayOk rt nn st wy fc [] qz pz nm = true) (hmove : moveOk 12 mr mn sp mw mh ms mm = true) (hid : idCmp mr mn rt nn mh [] = 0) :
  (enterM E17 (callN E17 (m+40)) n c42 [.d (sagaD rt nn st wy true false false fc [] qz pz nm), .d (moveD 12 mr mn sp mw k1 k2 mh ms mm)] []).out = some (mkA true rt nn [] nm qz (ap12 st wy fc [] pz qz sp mw)) := by
 have hsp := moveOk_sp hmove
 have hl' : decide (pz.length ≤ 1000000) = true := decide_eq_true hl
 have hs' : decide (qz.length ≤ 1000000) = true := decide_eq_true hs
 have hh' : decide (([] : List D).length ≤ 1000000) = true := decide_eq_true hh
 have hmh' : decide (mh.length ≤ 1000000) = true := decide_eq_true hmh
 have hps' : decide (pz.length ≤ qz.length) = true := decide_eq_true hps
 rw [e24B12]
 simp only [hl', hs', hmh', hmay, hmove, hid, cond_true, bne_self_eq_false, cond_false]
 unfold ap12
 by_cases hp : (pz.length : Int) ≤ sp
 ·simp only [decide_eq_true hp, cond_true, condM]
  first | done | rfl
 ·have h1 : decide (0 ≤ sp ∧ sp < (pz.length : Int)) = true := by simp; omega
  have h2 : decide (0 ≤ sp ∧ sp < (qz.length : Int)) = true := by simp; omega
  have h3 : decide ((pz.length : Int) ≤ sp) = false := decide_eq_false hp
  simp only [h1, h2, h3, cond_true, cond_false, condM]
  first | done | rfl
theorem run24B13 (m n : Nat) (rt nn st wy : Int) (fc : Bool) (qz pz : List D) (nm : List UInt8) (mr mn sp mw : Int) (k1 k2 : Bool) (mh ms : List D) (mm : List UInt8) (h13 : st = 5 → 0 ≤ cur st pz) (hl : pz.length ≤ 1000000) (hs : qz.length ≤ 1000000) (hh : ([] : List D).length ≤ 1000000) (hmh : mh.length ≤ 1000000)
  (hps : pz.length ≤ qz.length) (hmay : mayOk rt nn st wy fc [] qz pz nm = true) (hmove : moveOk 13 mr mn sp mw mh ms mm = true) (hid : idCmp mr mn rt nn mh [] = 0) :
  (enterM E17 (callN E17 (m+40)) n c42 [.d (sagaD rt nn st wy true false false fc [] qz pz nm), .d (moveD 13 mr mn sp mw k1 k2 mh ms mm)] []).out = some (mkA true rt nn [] nm qz (ap13 st wy fc [] pz qz sp mw)) := by
 have hsp := moveOk_sp hmove
 have hl' : decide (pz.length ≤ 1000000) = true := decide_eq_true hl
 have hs' : decide (qz.length ≤ 1000000) = true := decide_eq_true hs
 have hh' : decide (([] : List D).length ≤ 1000000) = true := decide_eq_true hh
 have hmh' : decide (mh.length ≤ 1000000) = true := decide_eq_true hmh
 have hps' : decide (pz.length ≤ qz.length) = true := decide_eq_true hps
 have hlt13 := cur_lt st pz
 rw [e24B13]
 simp only [hl', hs', hmh', hmay, hmove, hid, cond_true, bne_self_eq_false, cond_false]
 unfold ap13
 by_cases h5 : st = 5
 ·have c1 : decide (0 ≤ cur st pz ∧ cur st pz < (pz.length : Int)) = true := by have := h13 h5; simp; omega
  simp only [c1, cond_true, condM]
  first | done | rfl
 ·have h5' : (st != 5) = true := by simpa using h5
  simp only [h5', cond_true, condM]
  first | done | rfl
theorem run24B14 (m n : Nat) (rt nn st wy : Int) (fc : Bool) (qz pz : List D) (nm : List UInt8) (mr mn sp mw : Int) (k1 k2 : Bool) (mh ms : List D) (mm : List UInt8) (hl : pz.length ≤ 1000000) (hs : qz.length ≤ 1000000) (hh : ([] : List D).length ≤ 1000000) (hmh : mh.length ≤ 1000000)
  (hps : pz.length ≤ qz.length) (hmay : mayOk rt nn st wy fc [] qz pz nm = true) (hmove : moveOk 14 mr mn sp mw mh ms mm = true) (hid : idCmp mr mn rt nn mh [] = 0) :
  (enterM E17 (callN E17 (m+40)) n c42 [.d (sagaD rt nn st wy true false false fc [] qz pz nm), .d (moveD 14 mr mn sp mw k1 k2 mh ms mm)] []).out = some (mkA true rt nn [] nm qz (ap14 st wy fc [] pz qz sp mw)) := by
 have hsp := moveOk_sp hmove
 have hl' : decide (pz.length ≤ 1000000) = true := decide_eq_true hl
 have hs' : decide (qz.length ≤ 1000000) = true := decide_eq_true hs
 have hh' : decide (([] : List D).length ≤ 1000000) = true := decide_eq_true hh
 have hmh' : decide (mh.length ≤ 1000000) = true := decide_eq_true hmh
 have hps' : decide (pz.length ≤ qz.length) = true := decide_eq_true hps
 rw [e24B14]
 simp only [hl', hs', hmh', hmay, hmove, hid, cond_true, bne_self_eq_false, cond_false]
 unfold ap14
 by_cases hp : (pz.length : Int) ≤ sp
 ·simp only [condM]
  first | done | rfl
 ·have h1 : decide (0 ≤ sp ∧ sp < (pz.length : Int)) = true := by simp; omega
  have h2 : decide (0 ≤ sp ∧ sp < (qz.length : Int)) = true := by simp; omega
  have h3 : decide ((pz.length : Int) ≤ sp) = false := decide_eq_false hp
  simp only [condM]
  first | done | rfl
theorem run24B15 (m n : Nat) (rt nn st wy : Int) (fc : Bool) (qz pz : List D) (nm : List UInt8) (mr mn sp mw : Int) (k1 k2 : Bool) (mh ms : List D) (mm : List UInt8) (hl : pz.length ≤ 1000000) (hs : qz.length ≤ 1000000) (hh : ([] : List D).length ≤ 1000000) (hmh : mh.length ≤ 1000000)
  (hps : pz.length ≤ qz.length) (hmay : mayOk rt nn st wy fc [] qz pz nm = true) (hmove : moveOk 15 mr mn sp mw mh ms mm = true) (hid : idCmp mr mn rt nn mh [] = 0) :
  (enterM E17 (callN E17 (m+40)) n c42 [.d (sagaD rt nn st wy true false false fc [] qz pz nm), .d (moveD 15 mr mn sp mw k1 k2 mh ms mm)] []).out = some (mkA true rt nn [] nm qz (ap15 st wy fc [] pz qz sp mw)) := by
 have hsp := moveOk_sp hmove
 have hl' : decide (pz.length ≤ 1000000) = true := decide_eq_true hl
 have hs' : decide (qz.length ≤ 1000000) = true := decide_eq_true hs
 have hh' : decide (([] : List D).length ≤ 1000000) = true := decide_eq_true hh
 have hmh' : decide (mh.length ≤ 1000000) = true := decide_eq_true hmh
 have hps' : decide (pz.length ≤ qz.length) = true := decide_eq_true hps
 rw [e24B15]
 simp only [hl', hs', hmh', hmay, hmove, hid, cond_true, bne_self_eq_false, cond_false]
 unfold ap15
 by_cases hp : (pz.length : Int) ≤ sp
 ·simp only [decide_eq_true hp, cond_true, condM]
  first | done | rfl
 ·have h1 : decide (0 ≤ sp ∧ sp < (pz.length : Int)) = true := by simp; omega
  have h2 : decide (0 ≤ sp ∧ sp < (qz.length : Int)) = true := by simp; omega
  have h3 : decide ((pz.length : Int) ≤ sp) = false := decide_eq_false hp
  simp only [h1, h2, h3, cond_true, cond_false, condM]
  first | done | rfl
theorem run24B16 (m n : Nat) (rt nn st wy : Int) (fc : Bool) (qz pz : List D) (nm : List UInt8) (mr mn sp mw : Int) (k1 k2 : Bool) (mh ms : List D) (mm : List UInt8) (hl : pz.length ≤ 1000000) (hs : qz.length ≤ 1000000) (hh : ([] : List D).length ≤ 1000000) (hmh : mh.length ≤ 1000000)
  (hps : pz.length ≤ qz.length) (hmay : mayOk rt nn st wy fc [] qz pz nm = true) (hmove : moveOk 16 mr mn sp mw mh ms mm = true) (hid : idCmp mr mn rt nn mh [] = 0) :
  (enterM E17 (callN E17 (m+40)) n c42 [.d (sagaD rt nn st wy true false false fc [] qz pz nm), .d (moveD 16 mr mn sp mw k1 k2 mh ms mm)] []).out = some (mkA true rt nn [] nm qz (ap16 st wy fc [] pz qz sp mw)) := by
 have hsp := moveOk_sp hmove
 have hl' : decide (pz.length ≤ 1000000) = true := decide_eq_true hl
 have hs' : decide (qz.length ≤ 1000000) = true := decide_eq_true hs
 have hh' : decide (([] : List D).length ≤ 1000000) = true := decide_eq_true hh
 have hmh' : decide (mh.length ≤ 1000000) = true := decide_eq_true hmh
 have hps' : decide (pz.length ≤ qz.length) = true := decide_eq_true hps
 rw [e24B16]
 simp only [hl', hs', hmh', hps', hmay, hmove, hid, calm_len, cond_true, bne_self_eq_false, cond_false]
 unfold ap16
 by_cases hp : (pz.length : Int) ≤ sp
 ·simp only [condM]
  first | done | rfl
 ·have h1 : decide (0 ≤ sp ∧ sp < (pz.length : Int)) = true := by simp; omega
  have h2 : decide (0 ≤ sp ∧ sp < (qz.length : Int)) = true := by simp; omega
  have h3 : decide ((pz.length : Int) ≤ sp) = false := decide_eq_false hp
  simp only [condM]
  first | done | rfl
theorem e23 (m n : Nat) (rt nn st wy : Int) (n1 n2 n3 fc : Bool) (hops qz pz : List D) (nm : List UInt8) : Tree.out (enterM E17 (callN E17 (m+40)) n c37 [.d (sagaD rt nn st wy n1 n2 n3 fc hops qz pz nm)] []) = bif decide (List.length qz ≤ (1000000 : Nat)) then bif decide (List.length pz ≤ (1000000 : Nat)) then bif (bif mayOk rt nn st wy fc hops qz pz nm then (0 : Int) else (230 : Int)) != (0 : Int) then some [D.int .i64 (-1 : Int)] else bif decide (List.length pz ≤ (1000000 : Nat)) then some [D.int .i64 (cur st pz)] else none else none else none := by kernel_rfl
theorem e27 (m n : Nat) (rt nn st wy : Int) (n1 n2 n3 fc : Bool) (hops qz pz : List D) (nm : List UInt8) : Tree.out (enterM E17 (callN E17 (m+40)) n c39 [.d (sagaD rt nn st wy n1 n2 n3 fc hops qz pz nm)] []) = bif decide (List.length qz ≤ (1000000 : Nat)) then bif decide (List.length pz ≤ (1000000 : Nat)) then bif (bif mayOk rt nn st wy fc hops qz pz nm then (0 : Int) else (230 : Int)) != (0 : Int) then some [D.bool false] else bif st == (7 : Int) then some [D.bool true] else bif st == (6 : Int) then bif decide (List.length pz ≤ (1000000 : Nat)) then bif decide (List.length pz ≤ List.length qz) then some [D.bool !!allI (p97 [D.int .i64 1, D.int .i64 2]) (List.length pz) pz qz] else none else none else bif st == (3 : Int) then bif decide (List.length pz ≤ (1000000 : Nat)) then bif decide (List.length pz ≤ List.length qz) then bif !!allI (p97 [D.int .i64 2]) (List.length pz) pz qz then bif fc then bif decide (List.length pz ≤ (1000000 : Nat)) then bif decide (List.length pz ≤ List.length qz) then some [D.bool !!allI (p97 [D.int .i64 1]) (List.length pz) pz qz] else none else none else some [D.bool true] else some [D.bool false] else none else none else some [D.bool false] else none else none := by kernel_rfl
theorem mayOk_len {rt nn st wy : Int} {fc : Bool} {hops qz pz : List D} {nm : List UInt8} (h : mayOk rt nn st wy fc hops qz pz nm = true) (h7 : st ≠ 7) :
  pz.length = qz.length ∧ 1 ≤ qz.length ∧ qz.length ≤ 8 := by
 have h7' : (st == 7) = false := by simpa using h7
 unfold mayOk at h
 rw [h7'] at h
 cases h1 : idOk rt nn hops
 ·simp [h1] at h
 ·cases h2 : defOk nm qz
  ·simp [h1, h2] at h
  ·cases h3 : ((pz.length : Int) != (qz.length : Int))
   ·have h3 : (pz.length : Int) = qz.length := by simpa using h3
    unfold defOk at h2
    simp only [Bool.and_eq_true, Bool.not_eq_true', decide_eq_false_iff_not] at h2
    omega
   ·simp [h1, h2, h3] at h
theorem may_stuck {rt nn st wy : Int} {fc : Bool} {hops qz pz : List D} {nm : List UInt8} (h : mayOk rt nn st wy fc hops qz pz nm = true) (h5 : st = 5) : 0 ≤ cur st pz := by
 subst h5
 have e7 : ((5 : Int) == 7) = false := rfl
 unfold mayOk at h
 rw [e7] at h
 cases h1 : idOk rt nn hops
 ·simp [h1] at h
 ·cases h2 : defOk nm qz
  ·simp [h1, h2] at h
  ·cases h3 : ((pz.length : Int) != (qz.length : Int))
   ·cases h4 : allI p47 pz.length pz qz
    ·simp [h1, h2, h3, h4] at h
    ·cases h5 : fitsOk 5 wy fc hops pz qz
     ·simp [h1, h2, h3, h4, h5] at h
     ·have h6 : undoOk 5 wy fc pz qz = true := h5
      unfold undoOk at h6
      by_cases hc : 0 ≤ cur 5 pz
      ·exact hc
      ·exfalso
       have e4 : ((5 : Int) == 4) = false := rfl
       simp only [decide_eq_false hc, cond_false, e4, cself] at h6
       cases fc <;> cases decide (1 ≤ wy) <;> cases decide (wy ≤ 9) <;> cases allI (p97 w4) pz.length pz qz <;> cases h6
   ·simp [h1, h2, h3] at h
def arOk : AR → Bool
 | .bad _ => false
 | .good _ _ _ _ => true
def arE : AR → Int
 | .bad e => e
 | .good _ _ _ _ => 0
def arS : AR → Int
 | .bad _ => 0
 | .good s _ _ _ => s
def arW : AR → Int
 | .bad _ => 0
 | .good _ w _ _ => w
def arF : AR → Bool
 | .bad _ => false
 | .good _ _ f _ => f
def arP : AR → List D
 | .bad _ => []
 | .good _ _ _ p => p
def mkE (n1 : Bool) (rt nn : Int) (hops : List D) (nm : List UInt8) (qz : List D) (r : AR) : List D :=
 [D.agg [.int .i64 (bif arOk r then rt else 0), .int .i64 (bif arOk r then nn else 0), .sl hopSh (bif arOk r then n1 else true) (bif arOk r then hops else []), .str (bif arOk r then nm else []), .sl stepSh (!arOk r) (bif arOk r then qz else []),
  .int .i64 (arS r), .int .i64 (arW r), .sl partSh (!arOk r) (arP r), .bool (arF r)], .int .i64 (arE r)]
theorem mkE_eq (n1 : Bool) (rt nn : Int) (hops : List D) (nm : List UInt8) (qz : List D) (r : AR) : mkE n1 rt nn hops nm qz r = mkA n1 rt nn hops nm qz r := by cases r <;> rfl
def appR (rt nn st wy : Int) (fc : Bool) (hops qz pz : List D) (nm : List UInt8) (kd mr mn sp mw : Int) (mh ms : List D) (mm : List UInt8) : AR :=
 bif mayOk rt nn st wy fc hops qz pz nm then bif moveOk kd mr mn sp mw mh ms mm && idCmp mr mn rt nn mh hops == 0 then bif st == 7 then AR.bad 210 else applyR st wy fc hops pz qz kd sp mw else AR.bad 210 else AR.bad 230
def gd24 (rt nn st wy : Int) (n1 n2 n3 fc : Bool) (hops qz pz : List D) (nm : List UInt8) (_kd : Int) (mh : List D) : Bool :=
 (decide (qz.length ≤ 1000000) && (decide (pz.length ≤ 1000000) && (decide (hops.length ≤ 1000000) && decide (mh.length ≤ 1000000)))) &&
 ((!mayOk rt nn st wy fc hops qz pz nm || st == 7) || (!n2 && (!n3 && (!n1 || hops.isEmpty))))
theorem run24P (m n : Nat) (rt nn st wy : Int) (n1 n2 n3 fc : Bool) (hops qz pz : List D) (nm : List UInt8) (kd mr mn sp mw : Int) (k1 k2 : Bool) (mh ms : List D) (mm : List UInt8) (h1 : qz.length ≤ 1000000) (h2 : pz.length ≤ 1000000) (h3 : mh.length ≤ 1000000)
  (h : ¬ (mayOk rt nn st wy fc hops qz pz nm = true ∧ moveOk kd mr mn sp mw mh ms mm = true ∧ idCmp mr mn rt nn mh hops = 0)) :
  (enterM EP24 (callN EP24 (m+40)) n c42 [.d (sagaD rt nn st wy n1 n2 n3 fc hops qz pz nm), .d (moveD kd mr mn sp mw k1 k2 mh ms mm)] []).out = some (mkE n1 rt nn hops nm qz (appR rt nn st wy fc hops qz pz nm kd mr mn sp mw mh ms mm)) := by
 rw [e24P, mkE_eq]
 simp only [decide_eq_true h1, decide_eq_true h2, decide_eq_true h3, cond_true]
 unfold appR
 cases a : mayOk rt nn st wy fc hops qz pz nm
 ·rfl
 ·cases b : moveOk kd mr mn sp mw mh ms mm
  ·rfl
  ·have c : (idCmp mr mn rt nn mh hops != 0) = true := by
    simp only [bne_iff_ne, ne_eq]
    intro hc
    exact h ⟨a, b, hc⟩
   have c' : (idCmp mr mn rt nn mh hops == 0) = false := by simpa using c
   simp only [c, c']
   rfl
theorem run24C (m n : Nat) (rt nn wy : Int) (n1 n2 n3 fc : Bool) (hops qz pz : List D) (nm : List UInt8) (kd mr mn sp mw : Int) (k1 k2 : Bool) (mh ms : List D) (mm : List UInt8) (h1 : qz.length ≤ 1000000) (h2 : pz.length ≤ 1000000) (h3 : mh.length ≤ 1000000) (h4 : hops.length ≤ 1000000)
  (hmay : mayOk rt nn 7 wy fc hops qz pz nm = true) (hmove : moveOk kd mr mn sp mw mh ms mm = true) (hid : idCmp mr mn rt nn mh hops = 0) :
  (enterM E17 (callN E17 (m+40)) n c42 [.d (sagaD rt nn 7 wy n1 n2 n3 fc hops qz pz nm), .d (moveD kd mr mn sp mw k1 k2 mh ms mm)] []).out = some (mkE n1 rt nn hops nm qz (appR rt nn 7 wy fc hops qz pz nm kd mr mn sp mw mh ms mm)) := by
 rw [e24C, mkE_eq]
 unfold appR
 simp only [decide_eq_true h1, decide_eq_true h2, decide_eq_true h3, decide_eq_true h4, cond_true, hmay, hmove, hid]
 cases n1 <;> cases n2 <;> cases n3 <;> rfl
theorem run24A (m n : Nat) (rt nn st wy : Int) (fc : Bool) (hops qz pz : List D) (nm : List UInt8) (kd mr mn sp mw : Int) (k1 k2 : Bool) (mh ms : List D) (mm : List UInt8) (h7 : st ≠ 7) (hl : pz.length ≤ 1000000) (hs : qz.length ≤ 1000000) (hh : (hops : List D).length ≤ 1000000) (hmh : mh.length ≤ 1000000)
  (hmay : mayOk rt nn st wy fc hops qz pz nm = true) (hmove : moveOk kd mr mn sp mw mh ms mm = true) (hid : idCmp mr mn rt nn mh hops = 0) :
  (enterM E17 (callN E17 (m+40)) n c42 [.d (sagaD rt nn st wy false false false fc hops qz pz nm), .d (moveD kd mr mn sp mw k1 k2 mh ms mm)] []).out = some (mkE false rt nn hops nm qz (appR rt nn st wy fc hops qz pz nm kd mr mn sp mw mh ms mm)) := by
 have hps : pz.length ≤ qz.length := by have := mayOk_len hmay h7; omega
 have h7' : (st == 7) = false := by simpa using h7
 have he : appR rt nn st wy fc hops qz pz nm kd mr mn sp mw mh ms mm = applyR st wy fc hops pz qz kd sp mw := by
  unfold appR
  rw [hmay, hmove, hid, h7']
  rfl
 rw [mkE_eq, he]
 have := moveOk_kd hmove
 have hk : kd = 1 ∨ kd = 2 ∨ kd = 3 ∨ kd = 4 ∨ kd = 5 ∨ kd = 6 ∨ kd = 7 ∨ kd = 8 ∨ kd = 9 ∨ kd = 10 ∨ kd = 11 ∨ kd = 12 ∨ kd = 13 ∨ kd = 14 ∨ kd = 15 ∨ kd = 16 := by omega
 rcases hk with rfl | rfl | rfl | rfl | rfl | rfl | rfl | rfl | rfl | rfl | rfl | rfl | rfl | rfl | rfl | rfl
 ·exact run24A1 m n rt nn st wy fc hops qz pz nm mr mn sp mw k1 k2 mh ms mm hl hs hh hmh hps hmay hmove hid
 ·exact run24A2 m n rt nn st wy fc hops qz pz nm mr mn sp mw k1 k2 mh ms mm hl hs hh hmh hps hmay hmove hid
 ·exact run24A3 m n rt nn st wy fc hops qz pz nm mr mn sp mw k1 k2 mh ms mm hl hs hh hmh hps hmay hmove hid
 ·exact run24A4 m n rt nn st wy fc hops qz pz nm mr mn sp mw k1 k2 mh ms mm hl hs hh hmh hps hmay hmove hid
 ·exact run24A5 m n rt nn st wy fc hops qz pz nm mr mn sp mw k1 k2 mh ms mm hl hs hh hmh hps hmay hmove hid
 ·exact run24A6 m n rt nn st wy fc hops qz pz nm mr mn sp mw k1 k2 mh ms mm hl hs hh hmh hps hmay hmove hid
 ·exact run24A7 m n rt nn st wy fc hops qz pz nm mr mn sp mw k1 k2 mh ms mm hl hs hh hmh hps hmay hmove hid
 ·exact run24A8 m n rt nn st wy fc hops qz pz nm mr mn sp mw k1 k2 mh ms mm hl hs hh hmh hps hmay hmove hid
 ·exact run24A9 m n rt nn st wy fc hops qz pz nm mr mn sp mw k1 k2 mh ms mm hl hs hh hmh hps hmay hmove hid
 ·exact run24A10 m n rt nn st wy fc hops qz pz nm mr mn sp mw k1 k2 mh ms mm hl hs hh hmh hps hmay hmove hid
 ·exact run24A11 m n rt nn st wy fc hops qz pz nm mr mn sp mw k1 k2 mh ms mm hl hs hh hmh hps hmay hmove hid
 ·exact run24A12 m n rt nn st wy fc hops qz pz nm mr mn sp mw k1 k2 mh ms mm hl hs hh hmh hps hmay hmove hid
 ·exact run24A13 m n rt nn st wy fc hops qz pz nm mr mn sp mw k1 k2 mh ms mm (fun h => may_stuck hmay h) hl hs hh hmh hps hmay hmove hid
 ·exact run24A14 m n rt nn st wy fc hops qz pz nm mr mn sp mw k1 k2 mh ms mm hl hs hh hmh hps hmay hmove hid
 ·exact run24A15 m n rt nn st wy fc hops qz pz nm mr mn sp mw k1 k2 mh ms mm hl hs hh hmh hps hmay hmove hid
 ·exact run24A16 m n rt nn st wy fc hops qz pz nm mr mn sp mw k1 k2 mh ms mm hl hs hh hmh hps hmay hmove hid
theorem run24B (m n : Nat) (rt nn st wy : Int) (fc : Bool) (qz pz : List D) (nm : List UInt8) (kd mr mn sp mw : Int) (k1 k2 : Bool) (mh ms : List D) (mm : List UInt8) (h7 : st ≠ 7) (hl : pz.length ≤ 1000000) (hs : qz.length ≤ 1000000) (hh : ([] : List D).length ≤ 1000000) (hmh : mh.length ≤ 1000000)
  (hmay : mayOk rt nn st wy fc [] qz pz nm = true) (hmove : moveOk kd mr mn sp mw mh ms mm = true) (hid : idCmp mr mn rt nn mh [] = 0) :
  (enterM E17 (callN E17 (m+40)) n c42 [.d (sagaD rt nn st wy true false false fc [] qz pz nm), .d (moveD kd mr mn sp mw k1 k2 mh ms mm)] []).out = some (mkE true rt nn [] nm qz (appR rt nn st wy fc [] qz pz nm kd mr mn sp mw mh ms mm)) := by
 have hps : pz.length ≤ qz.length := by have := mayOk_len hmay h7; omega
 have h7' : (st == 7) = false := by simpa using h7
 have he : appR rt nn st wy fc [] qz pz nm kd mr mn sp mw mh ms mm = applyR st wy fc [] pz qz kd sp mw := by
  unfold appR
  rw [hmay, hmove, hid, h7']
  rfl
 rw [mkE_eq, he]
 have := moveOk_kd hmove
 have hk : kd = 1 ∨ kd = 2 ∨ kd = 3 ∨ kd = 4 ∨ kd = 5 ∨ kd = 6 ∨ kd = 7 ∨ kd = 8 ∨ kd = 9 ∨ kd = 10 ∨ kd = 11 ∨ kd = 12 ∨ kd = 13 ∨ kd = 14 ∨ kd = 15 ∨ kd = 16 := by omega
 rcases hk with rfl | rfl | rfl | rfl | rfl | rfl | rfl | rfl | rfl | rfl | rfl | rfl | rfl | rfl | rfl | rfl
 ·exact run24B1 m n rt nn st wy fc qz pz nm mr mn sp mw k1 k2 mh ms mm hl hs hh hmh hps hmay hmove hid
 ·exact run24B2 m n rt nn st wy fc qz pz nm mr mn sp mw k1 k2 mh ms mm hl hs hh hmh hps hmay hmove hid
 ·exact run24B3 m n rt nn st wy fc qz pz nm mr mn sp mw k1 k2 mh ms mm hl hs hh hmh hps hmay hmove hid
 ·exact run24B4 m n rt nn st wy fc qz pz nm mr mn sp mw k1 k2 mh ms mm hl hs hh hmh hps hmay hmove hid
 ·exact run24B5 m n rt nn st wy fc qz pz nm mr mn sp mw k1 k2 mh ms mm hl hs hh hmh hps hmay hmove hid
 ·exact run24B6 m n rt nn st wy fc qz pz nm mr mn sp mw k1 k2 mh ms mm hl hs hh hmh hps hmay hmove hid
 ·exact run24B7 m n rt nn st wy fc qz pz nm mr mn sp mw k1 k2 mh ms mm hl hs hh hmh hps hmay hmove hid
 ·exact run24B8 m n rt nn st wy fc qz pz nm mr mn sp mw k1 k2 mh ms mm hl hs hh hmh hps hmay hmove hid
 ·exact run24B9 m n rt nn st wy fc qz pz nm mr mn sp mw k1 k2 mh ms mm hl hs hh hmh hps hmay hmove hid
 ·exact run24B10 m n rt nn st wy fc qz pz nm mr mn sp mw k1 k2 mh ms mm hl hs hh hmh hps hmay hmove hid
 ·exact run24B11 m n rt nn st wy fc qz pz nm mr mn sp mw k1 k2 mh ms mm hl hs hh hmh hps hmay hmove hid
 ·exact run24B12 m n rt nn st wy fc qz pz nm mr mn sp mw k1 k2 mh ms mm hl hs hh hmh hps hmay hmove hid
 ·exact run24B13 m n rt nn st wy fc qz pz nm mr mn sp mw k1 k2 mh ms mm (fun h => may_stuck hmay h) hl hs hh hmh hps hmay hmove hid
 ·exact run24B14 m n rt nn st wy fc qz pz nm mr mn sp mw k1 k2 mh ms mm hl hs hh hmh hps hmay hmove hid
 ·exact run24B15 m n rt nn st wy fc qz pz nm mr mn sp mw k1 k2 mh ms mm hl hs hh hmh hps hmay hmove hid
 ·exact run24B16 m n rt nn st wy fc qz pz nm mr mn sp mw k1 k2 mh ms mm hl hs hh hmh hps hmay hmove hid
def g24 : List D → Tree (List D)
 | [.agg [.int .i64 rt, .int .i64 nn, .sl eh n1 hops, .str nm, .sl es n2 qz, .int .i64 st, .int .i64 wy, .sl ep n3 pz, .bool fc], .agg [.int .i64 kd, .int .i64 mr, .int .i64 mn, .sl eh' _k1 mh, .int .i64 sp, .int .i64 mw, .str mm, .sl es' _k2 ms]] => match ((Sh.beq eh hopSh && (Sh.beq es stepSh && Sh.beq ep partSh)) && (Sh.beq eh' hopSh && Sh.beq es' stepSh)) with
  | true => .ite (gd24 rt nn st wy n1 n2 n3 fc hops qz pz nm kd mh) (fun _ => .ret (mkE n1 rt nn hops nm qz (appR rt nn st wy fc hops qz pz nm kd mr mn sp mw mh ms mm))) (fun _ => .stuck)
  | false => .stuck
 | _ => .stuck
theorem PureOK.or {P : Program} {f : FuncId} {g g1 g2 : List D → Tree (List D)} (h1 : PureOK P f g1) (h2 : PureOK P f g2) (h : ∀ ds rs, (g ds).eval = some rs → (g1 ds).eval = some rs ∨ (g2 ds).eval = some rs) : PureOK P f g :=
 fun ds rs hr w X us hX hR => (h ds rs hr).elim (fun hr => h1 ds rs hr w X us hX hR) (fun hr => h2 ds rs hr w X us hX hR)
def g24p : List D → Tree (List D)
 | [.agg [.int .i64 rt, .int .i64 nn, .sl eh n1 hops, .str nm, .sl es n2 qz, .int .i64 st, .int .i64 wy, .sl ep n3 pz, .bool fc], .agg [.int .i64 kd, .int .i64 mr, .int .i64 mn, .sl eh' _k1 mh, .int .i64 sp, .int .i64 mw, .str mm, .sl es' _k2 ms]] => match ((Sh.beq eh hopSh && (Sh.beq es stepSh && Sh.beq ep partSh)) && (Sh.beq eh' hopSh && Sh.beq es' stepSh)) with
  | true => .ite (gd24 rt nn st wy n1 n2 n3 fc hops qz pz nm kd mh) (fun _ => .ite (mayOk rt nn st wy fc hops qz pz nm && (moveOk kd mr mn sp mw mh ms mm && idCmp mr mn rt nn mh hops == 0)) (fun _ => .stuck) (fun _ => .ret (mkE n1 rt nn hops nm qz (appR rt nn st wy fc hops qz pz nm kd mr mn sp mw mh ms mm)))) (fun _ => .stuck)
  | false => .stuck
 | _ => .stuck
def g24q : List D → Tree (List D)
 | [.agg [.int .i64 rt, .int .i64 nn, .sl eh n1 hops, .str nm, .sl es n2 qz, .int .i64 st, .int .i64 wy, .sl ep n3 pz, .bool fc], .agg [.int .i64 kd, .int .i64 mr, .int .i64 mn, .sl eh' _k1 mh, .int .i64 sp, .int .i64 mw, .str mm, .sl es' _k2 ms]] => match ((Sh.beq eh hopSh && (Sh.beq es stepSh && Sh.beq ep partSh)) && (Sh.beq eh' hopSh && Sh.beq es' stepSh)) with
  | true => .ite (gd24 rt nn st wy n1 n2 n3 fc hops qz pz nm kd mh) (fun _ => .ite (mayOk rt nn st wy fc hops qz pz nm && (moveOk kd mr mn sp mw mh ms mm && idCmp mr mn rt nn mh hops == 0)) (fun _ => .ret (mkE n1 rt nn hops nm qz (appR rt nn st wy fc hops qz pz nm kd mr mn sp mw mh ms mm))) (fun _ => .stuck)) (fun _ => .stuck)
  | false => .stuck
 | _ => .stuck
theorem okEP24 {P : Program} (h0 : EnvOK P E17) : EnvOK P EP24 := h0.genAt fnNone
theorem pure24p {P : Program} (hm : P.follows .mixedOrders = true) (h0 : EnvOK P EP24) : PureOK P 42 g24p := PureOK.run hm h0 fun ds rs h => by
 unfold g24p at h
 split at h
 ·rename_i rt nn eh n1 hops nm es n2 qz st wy ep n3 pz fc kd mr mn eh' k1 mh sp mw mm es' k2 ms
  split at h
  ·rename_i hb
   simp only [Bool.and_eq_true] at hb
   obtain ⟨⟨hb1, hb2, hb3⟩, hb4, hb5⟩ := hb
   have hb1 := Sh.beq_eq hb1
   have hb2 := Sh.beq_eq hb2
   have hb3 := Sh.beq_eq hb3
   have hb4 := Sh.beq_eq hb4
   have hb5 := Sh.beq_eq hb5
   subst hb1 hb2 hb3 hb4 hb5
   obtain ⟨hg, h⟩ := eval_guard h
   unfold gd24 at hg
   simp only [Bool.and_eq_true, decide_eq_true_eq] at hg
   obtain ⟨⟨g1, g2, g3, g4⟩, hg⟩ := hg
   rcases eval_ite h with ⟨hc, h'⟩ | ⟨hc, h'⟩
   ·cases h'
   ·cases h'
    refine ⟨59 + 1, ?_⟩
    rw [callN_succ (fn := c42) rfl]
    refine run24P 19 59 rt nn st wy n1 n2 n3 fc hops qz pz nm kd mr mn sp mw k1 k2 mh ms mm g1 g2 g4 ?_
    rintro ⟨a, b, c⟩
    simp [a, b, c] at hc
  ·cases h
 ·cases h
theorem pure24q {P : Program} (hm : P.follows .mixedOrders = true) (h0 : EnvOK P E17) : PureOK P 42 g24q := PureOK.run hm h0 fun ds rs h => by
 unfold g24q at h
 split at h
 ·rename_i rt nn eh n1 hops nm es n2 qz st wy ep n3 pz fc kd mr mn eh' k1 mh sp mw mm es' k2 ms
  split at h
  ·rename_i hb
   simp only [Bool.and_eq_true] at hb
   obtain ⟨⟨hb1, hb2, hb3⟩, hb4, hb5⟩ := hb
   have hb1 := Sh.beq_eq hb1
   have hb2 := Sh.beq_eq hb2
   have hb3 := Sh.beq_eq hb3
   have hb4 := Sh.beq_eq hb4
   have hb5 := Sh.beq_eq hb5
   subst hb1 hb2 hb3 hb4 hb5
   obtain ⟨hg, h⟩ := eval_guard h
   unfold gd24 at hg
   simp only [Bool.and_eq_true, decide_eq_true_eq] at hg
   obtain ⟨⟨g1, g2, g3, g4⟩, hg⟩ := hg
   obtain ⟨hc, h⟩ := eval_guard h
   simp only [Bool.and_eq_true, beq_iff_eq] at hc
   obtain ⟨hmay, hmove, hid⟩ := hc
   cases h
   refine ⟨59 + 1, ?_⟩
   rw [callN_succ (fn := c42) rfl]
   by_cases h7 : st = 7
   ·subst h7
    exact run24C 19 59 rt nn wy n1 n2 n3 fc hops qz pz nm kd mr mn sp mw k1 k2 mh ms mm g1 g2 g4 g3 hmay hmove hid
   ·have h7' : (st == 7) = false := by simpa using h7
    rw [hmay, h7'] at hg
    simp only [Bool.not_true, Bool.false_or, Bool.and_eq_true, Bool.not_eq_true', Bool.or_eq_true] at hg
    obtain ⟨rfl, rfl, hn⟩ := hg
    cases n1 with
    | false => exact run24A 19 59 rt nn st wy fc hops qz pz nm kd mr mn sp mw k1 k2 mh ms mm h7 g2 g1 g3 g4 hmay hmove hid
    | true =>
     have hn : hops = [] := by
      rcases hn with hn | hn
      ·cases hn
      ·simpa using hn
     subst hn
     exact run24B 19 59 rt nn st wy fc qz pz nm kd mr mn sp mw k1 k2 mh ms mm h7 g2 g1 g3 g4 hmay hmove hid
  ·cases h
 ·cases h
theorem pure24 {P : Program} (hm : P.follows .mixedOrders = true) (h0 : EnvOK P E17) : PureOK P 42 g24 :=
 PureOK.or (pure24p hm (okEP24 h0)) (pure24q hm h0) fun ds rs h => by
  unfold g24 at h
  split at h
  ·rename_i rt nn eh n1 hops nm es n2 qz st wy ep n3 pz fc kd mr mn eh' k1 mh sp mw mm es' k2 ms
   split at h
   ·rename_i hb
    obtain ⟨hg, h⟩ := eval_guard h
    cases hc : (mayOk rt nn st wy fc hops qz pz nm && (moveOk kd mr mn sp mw mh ms mm && idCmp mr mn rt nn mh hops == 0))
    ·left
     simp only [g24p, hb, hg, hc]
     exact h
    ·right
     simp only [g24q, hb, hg, hc]
     exact h
   ·cases h
  ·cases h
def curR (rt nn st wy : Int) (fc : Bool) (hops qz pz : List D) (nm : List UInt8) : Int := bif mayOk rt nn st wy fc hops qz pz nm then cur st pz else -1
def w12 : List D := [.int .i64 1, .int .i64 2]
def w2 : List D := [.int .i64 2]
def w1 : List D := [.int .i64 1]
def endR0 (st : Int) (fc : Bool) (pz qz : List D) : Bool :=
 bif st == 7 then true else bif st == 6 then allI (p97 w12) pz.length pz qz else bif st == 3 then bif allI (p97 w2) pz.length pz qz then bif fc then allI (p97 w1) pz.length pz qz else true else false else false
def endR (rt nn st wy : Int) (fc : Bool) (hops qz pz : List D) (nm : List UInt8) : Bool := bif mayOk rt nn st wy fc hops qz pz nm then endR0 st fc pz qz else false
theorem run23 (m n : Nat) (rt nn st wy : Int) (n1 n2 n3 fc : Bool) (hops qz pz : List D) (nm : List UInt8) (h1 : qz.length ≤ 1000000) (h2 : pz.length ≤ 1000000) :
  (enterM E17 (callN E17 (m+40)) n c37 [.d (sagaD rt nn st wy n1 n2 n3 fc hops qz pz nm)] []).out = some [.int .i64 (curR rt nn st wy fc hops qz pz nm)] := by
 rw [e23]
 simp only [decide_eq_true h1, decide_eq_true h2, cond_true, curR]
 cases mayOk rt nn st wy fc hops qz pz nm <;> rfl
theorem condB (b x y : Bool) : (bif b then some [D.bool x] else some [D.bool y]) = some [D.bool (bif b then x else y)] := by cases b <;> rfl
theorem run27 (m n : Nat) (rt nn st wy : Int) (n1 n2 n3 fc : Bool) (hops qz pz : List D) (nm : List UInt8) (h1 : qz.length ≤ 1000000) (h2 : pz.length ≤ 1000000) :
  (enterM E17 (callN E17 (m+40)) n c39 [.d (sagaD rt nn st wy n1 n2 n3 fc hops qz pz nm)] []).out = some [.bool (endR rt nn st wy fc hops qz pz nm)] := by
 rw [e27]
 unfold endR
 cases hm : mayOk rt nn st wy fc hops qz pz nm
 ·simp only [decide_eq_true h1, decide_eq_true h2, cond_true]
  rfl
 ·by_cases h7 : st = 7
  ·subst h7
   simp only [decide_eq_true h1, decide_eq_true h2, cond_true]
   rfl
  ·have hps : pz.length ≤ qz.length := by have := mayOk_len hm h7; omega
   simp only [decide_eq_true h1, decide_eq_true h2, decide_eq_true hps, cond_true, condB, Bool.not_not, bne_self_eq_false, cond_false]
   rfl
def g23 : List D → Tree (List D)
 | [.agg [.int .i64 rt, .int .i64 nn, .sl eh _n1 hops, .str nm, .sl es _n2 qz, .int .i64 st, .int .i64 wy, .sl ep _n3 pz, .bool fc]] => match (Sh.beq eh hopSh && (Sh.beq es stepSh && Sh.beq ep partSh)) with
  | true => .ite (decide (qz.length ≤ 1000000)) (fun _ => .ite (decide (pz.length ≤ 1000000)) (fun _ => .ret [.int .i64 (curR rt nn st wy fc hops qz pz nm)]) (fun _ => .stuck)) (fun _ => .stuck)
  | false => .stuck
 | _ => .stuck
theorem pure23 {P : Program} (hm : P.follows .mixedOrders = true) (h0 : EnvOK P E17) : PureOK P 37 g23 := PureOK.run hm h0 fun ds rs h => by
 unfold g23 at h
 split at h
 ·rename_i rt nn eh n1 hops nm es n2 qz st wy ep n3 pz fc
  split at h
  ·rename_i hb
   simp only [Bool.and_eq_true] at hb
   obtain ⟨hb3, hb4, hb5⟩ := hb
   have hb3 := Sh.beq_eq hb3
   have hb4 := Sh.beq_eq hb4
   have hb5 := Sh.beq_eq hb5
   subst hb3 hb4 hb5
   obtain ⟨hl, h⟩ := eval_guard h
   obtain ⟨hs, h⟩ := eval_guard h
   cases h
   exact ⟨59 + 1, by rw [callN_succ (fn := c37) rfl]; exact run23 19 59 rt nn st wy n1 n2 n3 fc hops qz pz nm (of_decide_eq_true hl) (of_decide_eq_true hs)⟩
  ·cases h
 ·cases h
def g27 : List D → Tree (List D)
 | [.agg [.int .i64 rt, .int .i64 nn, .sl eh _n1 hops, .str nm, .sl es _n2 qz, .int .i64 st, .int .i64 wy, .sl ep _n3 pz, .bool fc]] => match (Sh.beq eh hopSh && (Sh.beq es stepSh && Sh.beq ep partSh)) with
  | true => .ite (decide (qz.length ≤ 1000000)) (fun _ => .ite (decide (pz.length ≤ 1000000)) (fun _ => .ret [.bool (endR rt nn st wy fc hops qz pz nm)]) (fun _ => .stuck)) (fun _ => .stuck)
  | false => .stuck
 | _ => .stuck
theorem pure27 {P : Program} (hm : P.follows .mixedOrders = true) (h0 : EnvOK P E17) : PureOK P 39 g27 := PureOK.run hm h0 fun ds rs h => by
 unfold g27 at h
 split at h
 ·rename_i rt nn eh n1 hops nm es n2 qz st wy ep n3 pz fc
  split at h
  ·rename_i hb
   simp only [Bool.and_eq_true] at hb
   obtain ⟨hb3, hb4, hb5⟩ := hb
   have hb3 := Sh.beq_eq hb3
   have hb4 := Sh.beq_eq hb4
   have hb5 := Sh.beq_eq hb5
   subst hb3 hb4 hb5
   obtain ⟨hl, h⟩ := eval_guard h
   obtain ⟨hs, h⟩ := eval_guard h
   cases h
   exact ⟨59 + 1, by rw [callN_succ (fn := c39) rfl]; exact run27 19 59 rt nn st wy n1 n2 n3 fc hops qz pz nm (of_decide_eq_true hl) (of_decide_eq_true hs)⟩
  ·cases h
 ·cases h
def E18 : Env := ((E17.pureAt 42 false g24).pureAt 37 true g23).pureAt 39 true g27
theorem ok18 {P : Program} (hm : P.follows .mixedOrders = true) (h0 : EnvOK P E17) : EnvOK P E18 := ((h0.pureAt (pure24 hm h0)).pureAt (pure23 hm h0)).pureAt (pure27 hm h0)
end Go.Proofs.YtkjiaijkdefkgaaGreatDoor.A
