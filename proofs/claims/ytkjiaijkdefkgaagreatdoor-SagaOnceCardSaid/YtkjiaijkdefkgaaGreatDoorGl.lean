/- Parts of the walk: QKb, L9, SKb, SKc, SKd. -/
import Derived.Test.YtkjiaijkdefkgaaGreatDoorGk
import Derived.KernelRfl
open Go Go.AM Go.Proofs
namespace Go.Proofs.YtkjiaijkdefkgaaGreatDoor.A
theorem e12 (m n : Nat) (kd mr mn sp mw : Int) (k1 k2 : Bool) (mh ms : List D) (mm : List UInt8) (nl : Bool) (l : List D) : Tree.out (enterM K3 (callN K3 (m+40)) n c12 [.d (moveD kd mr mn sp mw k1 k2 mh ms mm), .d (.sl moveSh nl l)] []) = bif !fewL mh ms l then some [D.bool true] else bif (!k1 || List.isEmpty mh) && (!k2 || List.isEmpty ms) && (decide (mh.length ≤ 1000000) && decide (ms.length ≤ 1000000)) then bif moveOk kd mr mn sp mw mh ms mm then bif kd == 1 then bif decide (0 ≤ (↑(List.length (List.replicate (ms.length) (D.agg [D.int .i64 0, D.int .i64 0]))) : Int) ∧ (↑(List.length (List.replicate (ms.length) (D.agg [D.int .i64 0, D.int .i64 0]))) : Int) ≤ (↑(List.length (List.replicate (ms.length) (D.agg [D.int .i64 0, D.int .i64 0]))) : Int) ∧ (↑(List.length (List.replicate (ms.length) (D.agg [D.int .i64 0, D.int .i64 0]))) : Int) ≤ 4294967296) then Tree.out (resume K3 (callN K3 (m+40)) n n 0 c12 { fr := frame 175 [(1, V.d (D.sl moveSh nl l)), (5, V.ptr 384 0), (7, V.own 2240), (8, V.d (D.int .i64 0))], ob := [(192, Obj.box [V.d (D.int .i64 kd), V.d (D.int .i64 mr), V.d (D.int .i64 mn), V.d (D.sl hopSh k1 mh), V.d (D.int .i64 sp), V.d (D.int .i64 mw), V.d (D.str mm), V.d (D.sl stepSh k2 ms)]), (384, Obj.box [V.d (D.int .i64 mr), V.d (D.int .i64 mn), V.d (D.sl hopSh k1 mh), V.d (D.str mm), V.d (D.sl stepSh k2 ms), V.d (D.int .i64 1), V.d (D.int .i64 0), V.d (D.sl hopSh false (List.replicate (ms.length) (D.agg [D.int .i64 0, D.int .i64 0]))), V.d (D.bool false)]), (2240, Obj.lst (Sh.int .i64) false false false (List.replicate (List.length (List.replicate (ms.length) (D.agg [D.int .i64 0, D.int .i64 0]))) (D.int .i64 0)))] }) else none else bif kd == 2 then Tree.out (resume K3 (callN K3 (m+40)) n n 0 c12 { fr := frame 175 [(1, V.d (D.sl moveSh nl l)), (5, V.ptr 384 0), (7, V.own 2240), (8, V.d (D.int .i64 0))], ob := [(192, Obj.box [V.d (D.int .i64 kd), V.d (D.int .i64 mr), V.d (D.int .i64 mn), V.d (D.sl hopSh k1 mh), V.d (D.int .i64 sp), V.d (D.int .i64 mw), V.d (D.str mm), V.d (D.sl stepSh k2 ms)]), (384, Obj.box [V.d (D.int .i64 mr), V.d (D.int .i64 mn), V.d (D.sl hopSh k1 mh), V.d (D.str []), V.d (D.sl stepSh true []), V.d (D.int .i64 7), V.d (D.int .i64 mw), V.d (D.sl hopSh true []), V.d (D.bool false)]), (2240, Obj.lst (Sh.int .i64) false false false [])] }) else some [D.bool true] else some [D.bool true] else none := by kernel_rfl
def s12 (A : Nat → D) (nl : Bool) (l : List D) (rt nn st wy : Int) (n1 n2 n3 fc : Bool) (hops qz pz : List D) (nm : List UInt8) (mv : Bool) (mk : List D) (i : Int) : St := { fr := frame 175 [(1, V.d (D.sl moveSh nl l)), (5, V.ptr 384 0), (7, V.own 2240), (8, V.d (D.int .i64 i))], ob := [(192, bx8 A), (384, HD rt nn st wy n1 n2 n3 fc hops qz pz nm), (2240, .lst (.int .i64) false mv false mk)] }
theorem l12 (m n j : Nat) (A : Nat → D) (nl : Bool) (l : List D) (rt nn st wy : Int) (n1 n2 n3 fc : Bool) (hops qz pz : List D) (nm : List UInt8) (mv : Bool) (mk : List D) (i : Int) : Tree.out (resume K3 (callN K3 (m+40)) n (j+1) 0 c12 (s12 A nl l rt nn st wy n1 n2 n3 fc hops qz pz nm mv mk i)) = bif decide (i < (l.length : Int)) then bif decide (0 ≤ i ∧ i < (l.length : Int)) then bif gd24 rt nn st wy n1 n2 n3 fc hops qz pz nm (fi 0 (l.getD i.toNat .nilp)) (fl 3 (l.getD i.toNat .nilp)) then bif arE (appR rt nn st wy fc hops qz pz nm (fi 0 (l.getD i.toNat .nilp)) (fi 1 (l.getD i.toNat .nilp)) (fi 2 (l.getD i.toNat .nilp)) (fi 4 (l.getD i.toNat .nilp)) (fi 5 (l.getD i.toNat .nilp)) (fl 3 (l.getD i.toNat .nilp)) (fl 7 (l.getD i.toNat .nilp)) (fs 6 (l.getD i.toNat .nilp))) != 0 then Tree.out (resume K3 (callN K3 (m+40)) n j 0 c12 (s12 A nl l rt nn st wy n1 n2 n3 fc hops qz pz nm mv mk (IntKind.wrap .i64 (i + 1)))) else bif decide (0 ≤ i ∧ i < (l.length : Int)) then bif gd24 rt nn st wy n1 n2 n3 fc hops qz pz nm (fi 0 (l.getD i.toNat .nilp)) (fl 3 (l.getD i.toNat .nilp)) then Tree.out (resumeL K3 (callN K3 (m+40)) n [(0, j), (1, n)] c12 { fr := frame 175 [(1, V.d (D.sl moveSh nl l)), (5, V.ptr 384 0), (7, V.own 2240), (8, V.d (D.int .i64 i)), (9, V.ptr 640 0), (57, V.d (D.sl effSh (List.isEmpty (effR rt nn st wy fc hops qz pz nm (fi 0 (l.getD i.toNat .nilp)) (fi 1 (l.getD i.toNat .nilp)) (fi 2 (l.getD i.toNat .nilp)) (fi 4 (l.getD i.toNat .nilp)) (fi 5 (l.getD i.toNat .nilp)) (fl 3 (l.getD i.toNat .nilp)) (fl 7 (l.getD i.toNat .nilp)) (fs 6 (l.getD i.toNat .nilp)))) (effR rt nn st wy fc hops qz pz nm (fi 0 (l.getD i.toNat .nilp)) (fi 1 (l.getD i.toNat .nilp)) (fi 2 (l.getD i.toNat .nilp)) (fi 4 (l.getD i.toNat .nilp)) (fi 5 (l.getD i.toNat .nilp)) (fl 3 (l.getD i.toNat .nilp)) (fl 7 (l.getD i.toNat .nilp)) (fs 6 (l.getD i.toNat .nilp))))), (58, V.d (D.int .i64 (↑(List.length (effR rt nn st wy fc hops qz pz nm (fi 0 (l.getD i.toNat .nilp)) (fi 1 (l.getD i.toNat .nilp)) (fi 2 (l.getD i.toNat .nilp)) (fi 4 (l.getD i.toNat .nilp)) (fi 5 (l.getD i.toNat .nilp)) (fl 3 (l.getD i.toNat .nilp)) (fl 7 (l.getD i.toNat .nilp)) (fs 6 (l.getD i.toNat .nilp)))) : Int))), (59, V.d (D.int .i64 0))], ob := [(192, Obj.box [V.d (A 0), V.d (A 1), V.d (A 2), V.d (A 3), V.d (A 4), V.d (A 5), V.d (A 6), V.d (A 7)]), (384, Obj.box [V.d (D.int .i64 rt), V.d (D.int .i64 nn), V.d (D.sl hopSh n1 hops), V.d (D.str nm), V.d (D.sl stepSh n2 qz), V.d (D.int .i64 st), V.d (D.int .i64 wy), V.d (D.sl hopSh n3 pz), V.d (D.bool fc)]), (2240, Obj.lst (Sh.int .i64) false mv false mk), (640, Obj.box [V.d (D.int .i64 (bif arOk (appR rt nn st wy fc hops qz pz nm (fi 0 (l.getD i.toNat .nilp)) (fi 1 (l.getD i.toNat .nilp)) (fi 2 (l.getD i.toNat .nilp)) (fi 4 (l.getD i.toNat .nilp)) (fi 5 (l.getD i.toNat .nilp)) (fl 3 (l.getD i.toNat .nilp)) (fl 7 (l.getD i.toNat .nilp)) (fs 6 (l.getD i.toNat .nilp))) then rt else (0 : Int))), V.d (D.int .i64 (bif arOk (appR rt nn st wy fc hops qz pz nm (fi 0 (l.getD i.toNat .nilp)) (fi 1 (l.getD i.toNat .nilp)) (fi 2 (l.getD i.toNat .nilp)) (fi 4 (l.getD i.toNat .nilp)) (fi 5 (l.getD i.toNat .nilp)) (fl 3 (l.getD i.toNat .nilp)) (fl 7 (l.getD i.toNat .nilp)) (fs 6 (l.getD i.toNat .nilp))) then nn else (0 : Int))), V.d (D.sl hopSh (bif arOk (appR rt nn st wy fc hops qz pz nm (fi 0 (l.getD i.toNat .nilp)) (fi 1 (l.getD i.toNat .nilp)) (fi 2 (l.getD i.toNat .nilp)) (fi 4 (l.getD i.toNat .nilp)) (fi 5 (l.getD i.toNat .nilp)) (fl 3 (l.getD i.toNat .nilp)) (fl 7 (l.getD i.toNat .nilp)) (fs 6 (l.getD i.toNat .nilp))) then n1 else true) (bif arOk (appR rt nn st wy fc hops qz pz nm (fi 0 (l.getD i.toNat .nilp)) (fi 1 (l.getD i.toNat .nilp)) (fi 2 (l.getD i.toNat .nilp)) (fi 4 (l.getD i.toNat .nilp)) (fi 5 (l.getD i.toNat .nilp)) (fl 3 (l.getD i.toNat .nilp)) (fl 7 (l.getD i.toNat .nilp)) (fs 6 (l.getD i.toNat .nilp))) then hops else [])), V.d (D.str (bif arOk (appR rt nn st wy fc hops qz pz nm (fi 0 (l.getD i.toNat .nilp)) (fi 1 (l.getD i.toNat .nilp)) (fi 2 (l.getD i.toNat .nilp)) (fi 4 (l.getD i.toNat .nilp)) (fi 5 (l.getD i.toNat .nilp)) (fl 3 (l.getD i.toNat .nilp)) (fl 7 (l.getD i.toNat .nilp)) (fs 6 (l.getD i.toNat .nilp))) then nm else [])), V.d (D.sl stepSh (!arOk (appR rt nn st wy fc hops qz pz nm (fi 0 (l.getD i.toNat .nilp)) (fi 1 (l.getD i.toNat .nilp)) (fi 2 (l.getD i.toNat .nilp)) (fi 4 (l.getD i.toNat .nilp)) (fi 5 (l.getD i.toNat .nilp)) (fl 3 (l.getD i.toNat .nilp)) (fl 7 (l.getD i.toNat .nilp)) (fs 6 (l.getD i.toNat .nilp)))) (bif arOk (appR rt nn st wy fc hops qz pz nm (fi 0 (l.getD i.toNat .nilp)) (fi 1 (l.getD i.toNat .nilp)) (fi 2 (l.getD i.toNat .nilp)) (fi 4 (l.getD i.toNat .nilp)) (fi 5 (l.getD i.toNat .nilp)) (fl 3 (l.getD i.toNat .nilp)) (fl 7 (l.getD i.toNat .nilp)) (fs 6 (l.getD i.toNat .nilp))) then qz else [])), V.d (D.int .i64 (arS (appR rt nn st wy fc hops qz pz nm (fi 0 (l.getD i.toNat .nilp)) (fi 1 (l.getD i.toNat .nilp)) (fi 2 (l.getD i.toNat .nilp)) (fi 4 (l.getD i.toNat .nilp)) (fi 5 (l.getD i.toNat .nilp)) (fl 3 (l.getD i.toNat .nilp)) (fl 7 (l.getD i.toNat .nilp)) (fs 6 (l.getD i.toNat .nilp))))), V.d (D.int .i64 (arW (appR rt nn st wy fc hops qz pz nm (fi 0 (l.getD i.toNat .nilp)) (fi 1 (l.getD i.toNat .nilp)) (fi 2 (l.getD i.toNat .nilp)) (fi 4 (l.getD i.toNat .nilp)) (fi 5 (l.getD i.toNat .nilp)) (fl 3 (l.getD i.toNat .nilp)) (fl 7 (l.getD i.toNat .nilp)) (fs 6 (l.getD i.toNat .nilp))))), V.d (D.sl hopSh (!arOk (appR rt nn st wy fc hops qz pz nm (fi 0 (l.getD i.toNat .nilp)) (fi 1 (l.getD i.toNat .nilp)) (fi 2 (l.getD i.toNat .nilp)) (fi 4 (l.getD i.toNat .nilp)) (fi 5 (l.getD i.toNat .nilp)) (fl 3 (l.getD i.toNat .nilp)) (fl 7 (l.getD i.toNat .nilp)) (fs 6 (l.getD i.toNat .nilp)))) (arP (appR rt nn st wy fc hops qz pz nm (fi 0 (l.getD i.toNat .nilp)) (fi 1 (l.getD i.toNat .nilp)) (fi 2 (l.getD i.toNat .nilp)) (fi 4 (l.getD i.toNat .nilp)) (fi 5 (l.getD i.toNat .nilp)) (fl 3 (l.getD i.toNat .nilp)) (fl 7 (l.getD i.toNat .nilp)) (fs 6 (l.getD i.toNat .nilp))))), V.d (D.bool (arF (appR rt nn st wy fc hops qz pz nm (fi 0 (l.getD i.toNat .nilp)) (fi 1 (l.getD i.toNat .nilp)) (fi 2 (l.getD i.toNat .nilp)) (fi 4 (l.getD i.toNat .nilp)) (fi 5 (l.getD i.toNat .nilp)) (fl 3 (l.getD i.toNat .nilp)) (fl 7 (l.getD i.toNat .nilp)) (fs 6 (l.getD i.toNat .nilp)))))])] }) else none else none else none else none else Tree.out (resume K3 (callN K3 (m+40)) n n 3 c12 { fr := frame 175 [(5, V.ptr 384 0), (7, V.own 2240), (16, V.d (D.int .i64 0))], ob := [(192, Obj.box [V.d (A 0), V.d (A 1), V.d (A 2), V.d (A 3), V.d (A 4), V.d (A 5), V.d (A 6), V.d (A 7)]), (384, Obj.box [V.d (D.int .i64 rt), V.d (D.int .i64 nn), V.d (D.sl hopSh n1 hops), V.d (D.str nm), V.d (D.sl stepSh n2 qz), V.d (D.int .i64 st), V.d (D.int .i64 wy), V.d (D.sl hopSh n3 pz), V.d (D.bool fc)]), (2240, Obj.lst (Sh.int .i64) false mv false mk)] }) := by kernel_rfl
def s12e (A : Nat → D) (nl : Bool) (l : List D) (rt nn st wy : Int) (n1 n2 n3 fc : Bool) (hops qz pz : List D) (nm : List UInt8) (s w : Int) (f : Bool) (p : List D) (mv : Bool) (mk : List D) (ne : Bool) (es : List D) (i k : Int) : St := { fr := frame 175 [(1, V.d (D.sl moveSh nl l)), (5, V.ptr 384 0), (7, V.own 2240), (8, V.d (D.int .i64 i)), (9, V.ptr 640 0), (57, V.d (D.sl effSh ne es)), (58, V.d (D.int .i64 (es.length : Int))), (59, V.d (D.int .i64 k))], ob := [(192, bx8 A), (384, HD rt nn st wy n1 n2 n3 fc hops qz pz nm), (2240, .lst (.int .i64) false mv false mk), (640, HD rt nn s w n1 false false f hops qz p nm)] }
theorem l12e (m n jo j : Nat) (A : Nat → D) (nl : Bool) (l : List D) (rt nn st wy : Int) (n1 n2 n3 fc : Bool) (hops qz pz : List D) (nm : List UInt8) (s w : Int) (f : Bool) (p : List D) (mv : Bool) (mk : List D) (ne : Bool) (es : List D) (i k : Int) : Tree.out (resumeL K3 (callN K3 (m+40)) n [(0, jo), (1, j+1)] c12 (s12e A nl l rt nn st wy n1 n2 n3 fc hops qz pz nm s w f p mv mk ne es i k)) = bif decide (k < (es.length : Int)) then bif decide (0 ≤ k ∧ k < (es.length : Int)) then Tree.out (resumeL K3 (callN K3 (m+40)) n [(0, jo), (1, j), (2, n)] c12 { fr := frame 175 [(1, V.d (D.sl moveSh nl l)), (5, V.ptr 384 0), (7, V.own 2240), (8, V.d (D.int .i64 i)), (9, V.ptr 640 0), (12, V.ptr 832 0), (13, V.d (D.int .i64 0)), (57, V.d (D.sl effSh ne es)), (58, V.d (D.int .i64 (es.length : Int))), (59, V.d (D.int .i64 k))], ob := [(192, Obj.box [V.d (A 0), V.d (A 1), V.d (A 2), V.d (A 3), V.d (A 4), V.d (A 5), V.d (A 6), V.d (A 7)]), (384, Obj.box [V.d (D.int .i64 rt), V.d (D.int .i64 nn), V.d (D.sl hopSh n1 hops), V.d (D.str nm), V.d (D.sl stepSh n2 qz), V.d (D.int .i64 st), V.d (D.int .i64 wy), V.d (D.sl hopSh n3 pz), V.d (D.bool fc)]), (2240, Obj.lst (Sh.int .i64) false mv false mk), (640, Obj.box [V.d (D.int .i64 rt), V.d (D.int .i64 nn), V.d (D.sl hopSh n1 hops), V.d (D.str nm), V.d (D.sl stepSh false qz), V.d (D.int .i64 s), V.d (D.int .i64 w), V.d (D.sl hopSh false p), V.d (D.bool f)]), (832, Obj.box [V.d (D.int .i64 (fi 0 (es.getD k.toNat .nilp))), V.d (D.str (fs 1 (es.getD k.toNat .nilp))), V.d (D.int .i64 (fi 2 (es.getD k.toNat .nilp))), V.d (D.str (fs 3 (es.getD k.toNat .nilp))), V.d (D.int .i64 (fi 4 (es.getD k.toNat .nilp)))])] }) else none else Tree.out (resume K3 (callN K3 (m+40)) n jo 0 c12 (s12 A nl l rt nn s w n1 false false f hops qz p nm mv mk (IntKind.wrap .i64 (i + 1)))) := by kernel_rfl
def s12z (A : Nat → D) (rt nn st wy : Int) (n1 n2 n3 fc : Bool) (hops qz pz : List D) (nm : List UInt8) (mv : Bool) (mk : List D) (k : Int) : St := { fr := frame 175 [(5, V.ptr 384 0), (7, V.own 2240), (16, V.d (D.int .i64 k))], ob := [(192, bx8 A), (384, HD rt nn st wy n1 n2 n3 fc hops qz pz nm), (2240, .lst (.int .i64) false mv false mk)] }
theorem l12z (m n j : Nat) (A : Nat → D) (rt nn st wy : Int) (n1 n2 n3 fc : Bool) (hops qz pz : List D) (nm : List UInt8) (mv : Bool) (mk : List D) (k : Int) : Tree.out (resume K3 (callN K3 (m+40)) n (j+1) 3 c12 (s12z A rt nn st wy n1 n2 n3 fc hops qz pz nm mv mk k)) = bif decide (k < (mk.length : Int)) then bif decide (qz.length ≤ 1000000) then bif decide (pz.length ≤ 1000000) then bif endR rt nn st wy fc hops qz pz nm then bif !fc then bif st == 6 then bif decide (0 ≤ k ∧ k < (mk.length : Int)) then bif fi 0 (mk.getD k.toNat .nilp) != 2 then bif decide (0 ≤ k ∧ k < (mk.length : Int)) then bif fi 0 (mk.getD k.toNat .nilp) != 0 then some [D.bool false] else bif st == 3 then bif decide (0 ≤ k ∧ k < (qz.length : Int)) then bif fs 4 (qz.getD k.toNat .nilp) == [] then bif decide (0 ≤ k ∧ k < (mk.length : Int)) then bif fi 0 (mk.getD k.toNat .nilp) == 0 then some [D.bool false] else Tree.out (resume K3 (callN K3 (m+40)) n j 3 c12 (s12z A rt nn st wy n1 n2 n3 fc hops qz pz nm mv mk (IntKind.wrap .i64 (k + 1)))) else none else Tree.out (resume K3 (callN K3 (m+40)) n j 3 c12 (s12z A rt nn st wy n1 n2 n3 fc hops qz pz nm mv mk (IntKind.wrap .i64 (k + 1)))) else none else Tree.out (resume K3 (callN K3 (m+40)) n j 3 c12 (s12z A rt nn st wy n1 n2 n3 fc hops qz pz nm mv mk (IntKind.wrap .i64 (k + 1)))) else none else bif st == 3 then bif decide (0 ≤ k ∧ k < (qz.length : Int)) then bif fs 4 (qz.getD k.toNat .nilp) == [] then bif decide (0 ≤ k ∧ k < (mk.length : Int)) then bif fi 0 (mk.getD k.toNat .nilp) == 0 then some [D.bool false] else Tree.out (resume K3 (callN K3 (m+40)) n j 3 c12 (s12z A rt nn st wy n1 n2 n3 fc hops qz pz nm mv mk (IntKind.wrap .i64 (k + 1)))) else none else Tree.out (resume K3 (callN K3 (m+40)) n j 3 c12 (s12z A rt nn st wy n1 n2 n3 fc hops qz pz nm mv mk (IntKind.wrap .i64 (k + 1)))) else none else Tree.out (resume K3 (callN K3 (m+40)) n j 3 c12 (s12z A rt nn st wy n1 n2 n3 fc hops qz pz nm mv mk (IntKind.wrap .i64 (k + 1)))) else none else bif decide (0 ≤ k ∧ k < (mk.length : Int)) then bif fi 0 (mk.getD k.toNat .nilp) != 3 then bif decide (0 ≤ k ∧ k < (mk.length : Int)) then bif fi 0 (mk.getD k.toNat .nilp) != 0 then some [D.bool false] else bif st == 3 then bif decide (0 ≤ k ∧ k < (qz.length : Int)) then bif fs 4 (qz.getD k.toNat .nilp) == [] then bif decide (0 ≤ k ∧ k < (mk.length : Int)) then bif fi 0 (mk.getD k.toNat .nilp) == 0 then some [D.bool false] else Tree.out (resume K3 (callN K3 (m+40)) n j 3 c12 (s12z A rt nn st wy n1 n2 n3 fc hops qz pz nm mv mk (IntKind.wrap .i64 (k + 1)))) else none else Tree.out (resume K3 (callN K3 (m+40)) n j 3 c12 (s12z A rt nn st wy n1 n2 n3 fc hops qz pz nm mv mk (IntKind.wrap .i64 (k + 1)))) else none else Tree.out (resume K3 (callN K3 (m+40)) n j 3 c12 (s12z A rt nn st wy n1 n2 n3 fc hops qz pz nm mv mk (IntKind.wrap .i64 (k + 1)))) else none else bif st == 3 then bif decide (0 ≤ k ∧ k < (qz.length : Int)) then bif fs 4 (qz.getD k.toNat .nilp) == [] then bif decide (0 ≤ k ∧ k < (mk.length : Int)) then bif fi 0 (mk.getD k.toNat .nilp) == 0 then some [D.bool false] else Tree.out (resume K3 (callN K3 (m+40)) n j 3 c12 (s12z A rt nn st wy n1 n2 n3 fc hops qz pz nm mv mk (IntKind.wrap .i64 (k + 1)))) else none else Tree.out (resume K3 (callN K3 (m+40)) n j 3 c12 (s12z A rt nn st wy n1 n2 n3 fc hops qz pz nm mv mk (IntKind.wrap .i64 (k + 1)))) else none else Tree.out (resume K3 (callN K3 (m+40)) n j 3 c12 (s12z A rt nn st wy n1 n2 n3 fc hops qz pz nm mv mk (IntKind.wrap .i64 (k + 1)))) else none else some [D.bool true] else some [D.bool true] else none else none else some [D.bool true] := by kernel_rfl
def s12k (A : Nat → D) (nl : Bool) (l : List D) (rt nn st wy : Int) (n1 n2 n3 fc : Bool) (hops qz pz : List D) (nm : List UInt8) (s w : Int) (f : Bool) (p : List D) (mv : Bool) (mk : List D) (ne : Bool) (es : List D) (i k : Int) (xw xk xm : Int) (xs xa : List UInt8) (q : Int) : St := { fr := frame 175 [(1, V.d (D.sl moveSh nl l)), (5, V.ptr 384 0), (7, V.own 2240), (8, V.d (D.int .i64 i)), (9, V.ptr 640 0), (12, V.ptr 832 0), (13, V.d (D.int .i64 q)), (57, V.d (D.sl effSh ne es)), (58, V.d (D.int .i64 (es.length : Int))), (59, V.d (D.int .i64 k))], ob := [(192, bx8 A), (384, HD rt nn st wy n1 n2 n3 fc hops qz pz nm), (2240, .lst (.int .i64) false mv false mk), (640, HD rt nn s w n1 false false f hops qz p nm), (832, .box [V.d (D.int .i64 xw), V.d (D.str xs), V.d (D.int .i64 xk), V.d (D.str xa), V.d (D.int .i64 xm)])] }
theorem l12k (m n jo je j : Nat) (A : Nat → D) (nl : Bool) (l : List D) (rt nn st wy : Int) (n1 n2 n3 fc : Bool) (hops qz pz : List D) (nm : List UInt8) (s w : Int) (f : Bool) (p : List D) (mv : Bool) (mk : List D) (ne : Bool) (es : List D) (i k : Int) (xw xk xm : Int) (xs xa : List UInt8) (q : Int) : Tree.out (resumeL K3 (callN K3 (m+40)) n [(0, jo), (1, je), (2, j+1)] c12 (s12k A nl l rt nn st wy n1 n2 n3 fc hops qz pz nm s w f p mv mk ne es i k xw xk xm xs xa q)) = bif decide (q < (mk.length : Int)) then bif !(bif keyOk rt nn hops q then keyN rt nn hops q else []) == xs then Tree.out (resumeL K3 (callN K3 (m+40)) n [(0, jo), (1, je), (2, j)] c12 (s12k A nl l rt nn st wy n1 n2 n3 fc hops qz pz nm s w f p mv mk ne es i k xw xk xm xs xa (IntKind.wrap .i64 (q + 1)))) else bif xw == 1 then bif decide (0 ≤ q ∧ q < (mk.length : Int)) then bif fi 0 (mk.getD q.toNat .nilp) != 0 then some [D.bool false] else bif xw != 1 then bif decide (0 ≤ q ∧ q < (mk.length : Int)) then bif fi 0 (mk.getD q.toNat .nilp) != 1 then some [D.bool false] else bif decide (0 ≤ q ∧ q < (qz.length : Int)) then bif !(xk == fi 0 (qz.getD q.toNat .nilp) && (xa == fs 1 (qz.getD q.toNat .nilp) && (xm == fi 2 (qz.getD q.toNat .nilp) && true))) then some [D.bool false] else bif decide (0 ≤ q ∧ q < (mk.length : Int)) then Tree.out (resumeL K3 (callN K3 (m+40)) n [(0, jo), (1, je), (2, j)] c12 (s12k A nl l rt nn st wy n1 n2 n3 fc hops qz pz nm s w f p mv (List.set mk (q.toNat) (D.int .i64 xw)) ne es i k xw xk xm xs xa (IntKind.wrap .i64 (q + 1)))) else none else none else none else bif decide (0 ≤ q ∧ q < (qz.length : Int)) then bif !(xk == fi 0 (qz.getD q.toNat .nilp) && (xa == fs 1 (qz.getD q.toNat .nilp) && (xm == fi 2 (qz.getD q.toNat .nilp) && true))) then some [D.bool false] else bif decide (0 ≤ q ∧ q < (mk.length : Int)) then Tree.out (resumeL K3 (callN K3 (m+40)) n [(0, jo), (1, je), (2, j)] c12 (s12k A nl l rt nn st wy n1 n2 n3 fc hops qz pz nm s w f p mv (List.set mk (q.toNat) (D.int .i64 xw)) ne es i k xw xk xm xs xa (IntKind.wrap .i64 (q + 1)))) else none else none else none else bif xw != 1 then bif decide (0 ≤ q ∧ q < (mk.length : Int)) then bif fi 0 (mk.getD q.toNat .nilp) != 1 then some [D.bool false] else bif decide (0 ≤ q ∧ q < (qz.length : Int)) then bif !(xk == fi 0 (qz.getD q.toNat .nilp) && (xa == fs 1 (qz.getD q.toNat .nilp) && (xm == fi 2 (qz.getD q.toNat .nilp) && true))) then some [D.bool false] else bif decide (0 ≤ q ∧ q < (mk.length : Int)) then Tree.out (resumeL K3 (callN K3 (m+40)) n [(0, jo), (1, je), (2, j)] c12 (s12k A nl l rt nn st wy n1 n2 n3 fc hops qz pz nm s w f p mv (List.set mk (q.toNat) (D.int .i64 xw)) ne es i k xw xk xm xs xa (IntKind.wrap .i64 (q + 1)))) else none else none else none else bif decide (0 ≤ q ∧ q < (qz.length : Int)) then bif !(xk == fi 0 (qz.getD q.toNat .nilp) && (xa == fs 1 (qz.getD q.toNat .nilp) && (xm == fi 2 (qz.getD q.toNat .nilp) && true))) then some [D.bool false] else bif decide (0 ≤ q ∧ q < (mk.length : Int)) then Tree.out (resumeL K3 (callN K3 (m+40)) n [(0, jo), (1, je), (2, j)] c12 (s12k A nl l rt nn st wy n1 n2 n3 fc hops qz pz nm s w f p mv (List.set mk (q.toNat) (D.int .i64 xw)) ne es i k xw xk xm xs xa (IntKind.wrap .i64 (q + 1)))) else none else none else Tree.out (resumeL K3 (callN K3 (m+40)) n [(0, jo), (1, je)] c12 (s12e A nl l rt nn st wy n1 n2 n3 fc hops qz pz nm s w f p mv mk ne es i (IntKind.wrap .i64 (k + 1)))) := by kernel_rfl
open Go Go.AM
set_option maxRecDepth 20000
theorem may_split {rt nn st wy : Int} {fc : Bool} {hops qz pz : List D} {nm : List UInt8} (h : mayOk rt nn st wy fc hops qz pz nm = true) (h7 : st ≠ 7) : idOk rt nn hops = true ∧ defOk nm qz = true := by
 unfold mayOk at h
 rw [beqF h7] at h
 cases h1 : idOk rt nn hops
 ·rw [h1] at h; cases h
 ·cases h2 : defOk nm qz
  ·rw [h1, h2] at h; cases h
  ·exact ⟨rfl, rfl⟩
theorem may_mk {rt nn st wy : Int} {fc : Bool} {hops qz pz : List D} {nm : List UInt8} (hi : idOk rt nn hops = true) (hd : defOk nm qz = true) (h7 : st ≠ 7) (hg : Good st wy fc hops qz pz) : mayOk rt nn st wy fc hops qz pz nm = true := by
 unfold mayOk
 rw [hi, hd, beqF h7, (allI_iff _ _ _ _).2 hg.sane, hg.fits, bne, beq_iff_eq.2 (show (pz.length : Int) = (qz.length : Int) by have := hg.len; omega)]
 rfl
theorem may_steps {rt nn st wy : Int} {fc : Bool} {hops qz pz : List D} {nm : List UInt8} (h : mayOk rt nn st wy fc hops qz pz nm = true) : qz.length ≤ 8 ∧ hops.length ≤ 4 := by
 have hid := mayOk_id h
 have h4 := (idOk_iff.1 hid).2.1
 by_cases h7 : st = 7
 ·subst h7
  unfold mayOk at h
  have : ((7 : Int) == 7) = true := rfl
  rw [this, hid] at h
  cases hd : decide (0 < (qz.length : Int) + (pz.length : Int))
  ·have := of_decide_eq_false hd
   omega
  ·rw [hd] at h
   cases hn : (nm == []) <;> rw [hn] at h <;> cases h
 ·have := mayOk_len h h7
  omega
theorem st_not7 {st wy : Int} {fc : Bool} {hops qz pz : List D} (hg : Good st wy fc hops qz pz) : st ≠ 7 := by
 have := fits_st hg.fits
 omega
theorem back_mw {rt nn sp mw : Int} {hops ms : List D} {mm : List UInt8} (h : moveOk 10 rt nn sp mw hops ms mm = true) : 1 ≤ mw ∧ mw ≤ 9 := by
 have hk : kindHas 10 = 2 := by decide
 unfold moveOk moveOk0 at h
 rw [hk] at h
 cases h1 : idOk rt nn hops
 ·simp [h1] at h
 ·cases mm with
  | nil => simp [h1] at h; omega
  | cons x l => simp [h1] at h
theorem begin_ok {rt nn sp mw : Int} {hops ms : List D} {mm : List UInt8} (h : moveOk 1 rt nn sp mw hops ms mm = true) : idOk rt nn hops = true ∧ defOk mm ms = true := by
 have hk : kindHas 1 = 3 := by decide
 unfold moveOk moveOk0 at h
 rw [hk] at h
 cases h1 : idOk rt nn hops
 ·simp [h1] at h
 ·cases h2 : defOk mm ms
  ·cases mm <;> simp [h1, h2] at h
  ·exact ⟨rfl, rfl⟩
theorem refuse_ok {rt nn sp mw : Int} {hops ms : List D} {mm : List UInt8} (h : moveOk 2 rt nn sp mw hops ms mm = true) : idOk rt nn hops = true ∧ (1 ≤ mw ∧ mw ≤ 9) ∧ hops.length ≠ 0 := by
 have hk : kindHas 2 = 2 := by decide
 unfold moveOk moveOk0 at h
 rw [hk] at h
 cases h1 : idOk rt nn hops
 ·simp [h1] at h
 ·cases mm with
  | nil =>
   simp [h1] at h
   exact ⟨rfl, by omega, by simpa using h.2.2.2.2⟩
  | cons x l => simp [h1] at h
theorem may_next {rt nn st wy : Int} {fc : Bool} {hops qz pz : List D} {nm : List UInt8} {kd mr mn sp mw : Int} {mh ms : List D} {mm : List UInt8} {s w : Int} {f : Bool} {p : List D}
  (h : appR rt nn st wy fc hops qz pz nm kd mr mn sp mw mh ms mm = .good s w f p) : mayOk rt nn s w f hops qz p nm = true := by
 have ha : arE (appR rt nn st wy fc hops qz pz nm kd mr mn sp mw mh ms mm) = 0 := by rw [h]; rfl
 obtain ⟨hm, h7, hmv, s', w', f', p', hR, hA, hpl⟩ := appR_good ha
 rw [h] at hR
 obtain ⟨rfl, rfl, rfl, rfl⟩ := good_inj hR
 have hM := apply_mv (moveOk_sp hmv) (moveOk_kd hmv) hA
 have hg := keeps (mayOk_good hm h7) (moveOk_sp hmv) (fun hk => by subst hk; exact back_mw hmv) hM
 obtain ⟨hi, hd⟩ := may_split hm h7
 exact may_mk hi hd (st_not7 hg) hg
theorem may_begin {rt nn sp mw : Int} {hops ms : List D} {mm : List UInt8} (h : moveOk 1 rt nn sp mw hops ms mm = true) : mayOk rt nn 1 0 false hops ms (List.replicate ms.length (part 0 0)) mm = true := by
 obtain ⟨hi, hd⟩ := begin_ok h
 have hd' := hd
 unfold defOk at hd'
 simp only [Bool.and_eq_true, Bool.not_eq_true', decide_eq_false_iff_not] at hd'
 have rep : ∀ i, i < (List.replicate ms.length (part 0 0)).length → (List.replicate ms.length (part 0 0)).getD i .nilp = part 0 0 := by
  intro i hi
  rw [List.getD_eq_getElem?_getD, List.getElem?_eq_getElem hi, List.getElem_replicate]; rfl
 refine may_mk hi hd (by decide) ⟨by simp, by omega, by omega, fun i hi => ?_, fun i hi => ?_, ?_⟩
 ·have := hd'.2.2.2
  simp only [List.any_eq_false] at this
  simpa using this _ (getD_mem hi)
 ·rw [rep i hi]
  exact q47.2 ⟨by decide, by decide, .inr (by decide), by decide, by decide⟩
 ·have : runOk (List.replicate ms.length (part 0 0)) ms = true := run_iff.2 ⟨0, by omega, fun i hi => by omega, fun i _ h2 => .inr (by unfold stAt trAt; rw [rep i h2]; exact ⟨rfl, rfl⟩)⟩
  unfold fitsOk
  rw [this]; rfl
theorem may_refuse {rt nn sp mw : Int} {hops ms : List D} {mm : List UInt8} (h : moveOk 2 rt nn sp mw hops ms mm = true) : mayOk rt nn 7 mw false hops [] [] [] = true := by
 obtain ⟨hi, hw, hh⟩ := refuse_ok h
 unfold mayOk
 rw [hi, decide_eq_true hw.1, decide_eq_true hw.2, beqF (show (hops.length : Int) ≠ 0 by omega)]
 rfl
def mkOf (s : Int) : Int := if s = 2 then 1 else if s = 3 then 2 else if s = 4 then 3 else 0
def mkAt (pz qz : List D) (k : Nat) : Int := if loc qz k = true then mkOf (stAt pz k) else 0
def ownIdx (pz qz : List D) : Nat → List Nat
 | 0 => []
 | k + 1 => ownIdx pz qz k ++ (bif ownAt pz qz k then [k] else [])
theorem effTo_map (rt nn : Int) (hops qz pz : List D) (w : Int) : ∀ k, effTo rt nn hops qz pz w k = (ownIdx pz qz k).map fun c => effAt rt nn hops qz w (c : Nat)
 | 0 => rfl
 | k + 1 => by
  simp only [effTo, ownIdx, List.map_append, effTo_map rt nn hops qz pz w k]
  cases ownAt pz qz k <;> rfl
theorem own_mem {pz qz : List D} {c : Nat} : ∀ {k : Nat}, c ∈ ownIdx pz qz k ↔ c < k ∧ ownAt pz qz c = true
 | 0 => by simp [ownIdx]
 | k + 1 => by
  have ih := @own_mem pz qz c k
  simp only [ownIdx, List.mem_append, ih]
  cases hk : ownAt pz qz k
  ·simp only [cond_false, List.not_mem_nil, or_false]
   constructor
   ·rintro ⟨h1, h2⟩; exact ⟨by omega, h2⟩
   ·rintro ⟨h1, h2⟩
    refine ⟨?_, h2⟩
    by_cases he : c = k
    ·rw [he, hk] at h2; cases h2
    ·omega
  ·simp only [cond_true, List.mem_singleton]
   constructor
   ·rintro (⟨h1, h2⟩ | rfl)
    ·exact ⟨by omega, h2⟩
    ·exact ⟨by omega, hk⟩
   ·rintro ⟨h1, h2⟩
    by_cases he : c = k
    ·exact .inr he
    ·exact .inl ⟨by omega, h2⟩
theorem own_nodup {pz qz : List D} : ∀ k, (ownIdx pz qz k).Nodup
 | 0 => List.nodup_nil
 | k + 1 => by
  simp only [ownIdx]
  cases hk : ownAt pz qz k
  ·simp only [cond_false, List.append_nil]; exact own_nodup k
  ·simp only [cond_true]
   rw [List.nodup_append]
   refine ⟨own_nodup k, by simp, ?_⟩
   rintro a ha b hb rfl
   rw [List.mem_singleton] at hb
   have := (own_mem.1 ha).1
   omega
theorem own_iff {pz qz : List D} {c : Nat} : ownAt pz qz c = true ↔ loc qz c = true ∧ stAt pz c = 2 := by
 unfold ownAt
 rw [Bool.and_eq_true]
 exact ⟨fun ⟨h1, h2⟩ => ⟨h1, eq_of_beq h2⟩, fun ⟨h1, h2⟩ => ⟨h1, beq_iff_eq.2 h2⟩⟩
def Does (pz qz p : List D) (w : Int) (cs : List Nat) : Prop :=
 cs.Nodup ∧ (∀ c ∈ cs, c < pz.length ∧ (w = 1 → mkAt pz qz c = 0) ∧ (w ≠ 1 → mkAt pz qz c = 1)) ∧ p.length = pz.length ∧
  ∀ k, k < pz.length → mkAt p qz k = if k ∈ cs then w else mkAt pz qz k
theorem force_sp {rt nn sp mw : Int} {hops ms : List D} {mm : List UInt8} (h : moveOk 16 rt nn sp mw hops ms mm = true) : sp = 0 ∨ sp = 1 := by
 have hk : kindHas 16 = 4 := by decide
 unfold moveOk moveOk0 at h
 rw [hk] at h
 cases h1 : idOk rt nn hops
 ·simp [h1] at h
 ·cases mm with
  | nil =>
   by_cases h0 : sp = 0
   ·exact .inl h0
   ·by_cases h2 : sp = 1
    ·exact .inr h2
    ·simp [h1, h0, h2] at h
  | cons x l => simp [h1] at h
theorem mk_same {pz qz p : List D} {k : Nat} (h : loc qz k = true → stAt p k = stAt pz k) : mkAt p qz k = mkAt pz qz k := by
 unfold mkAt
 split
 ·rename_i hl; rw [h hl]
 ·rfl
theorem set_same {pz qz : List D} {c : Nat} {a b : Int} (hc : c < pz.length) (h : loc qz c = true → a = stAt pz c) : ∀ k, mkAt (pz.set c (part a b)) qz k = mkAt pz qz k := fun k => mk_same fun hl => by
 rw [st_set hc]
 split
 ·rename_i he; subst he; exact h hl
 ·rfl
theorem does_nil {pz qz p : List D} (hl : p.length = pz.length) (h : ∀ k, k < pz.length → mkAt p qz k = mkAt pz qz k) (w : Int) : Does pz qz p w [] :=
 ⟨List.nodup_nil, fun c hc => by simp at hc, hl, fun k hk => by rw [h k hk]; simp⟩
theorem does_one {pz qz : List D} {c : Nat} {a w : Int} (hc : c < pz.length) (hl : loc qz c = true) (h1 : w = 1 → mkOf (stAt pz c) = 0) (h2 : w ≠ 1 → mkOf (stAt pz c) = 1) (ha : mkOf a = w) : Does pz qz (pz.set c (part a 0)) w [c] := by
 refine ⟨by simp, fun d hd => ?_, by simp, fun k hk => ?_⟩
 ·rw [List.mem_singleton] at hd
  subst hd
  refine ⟨hc, fun h => ?_, fun h => ?_⟩
  ·unfold mkAt; rw [if_pos hl]; exact h1 h
  ·unfold mkAt; rw [if_pos hl]; exact h2 h
 ·by_cases he : k = c
  ·subst he
   rw [if_pos (by simp)]
   unfold mkAt
   rw [if_pos hl, st_set hc, if_pos rfl, ha]
  ·rw [if_neg (by simpa using he)]
   refine mk_same fun _ => ?_
   rw [st_set hc, if_neg (fun h => he h.symm)]
theorem does_own {pz q qz : List D} {v w : Int} (hq : q.length = pz.length) (hs : ∀ k, k < pz.length → stAt q k = stAt pz k) (hw : w ≠ 1) (hv : mkOf v = w) : Does pz qz (ownParts v q qz) w (ownIdx pz qz pz.length) := by
 have hlen : (ownParts v q qz).length = q.length := by
  unfold ownParts
  exact foldI_len _ (fOwn_len v qz) _ _ _
 refine ⟨own_nodup _, fun c hc => ?_, by rw [hlen, hq], fun k hk => ?_⟩
 ·obtain ⟨h1, h2⟩ := own_mem.1 hc
  obtain ⟨h3, h4⟩ := own_iff.1 h2
  refine ⟨h1, fun h => absurd h hw, fun _ => ?_⟩
  unfold mkAt
  rw [if_pos h3, h4]; rfl
 ·by_cases hm : k ∈ ownIdx pz qz pz.length
  ·rw [if_pos hm]
   obtain ⟨h1, h2⟩ := own_mem.1 hm
   obtain ⟨h3, h4⟩ := own_iff.1 h2
   unfold mkAt
   rw [if_pos h3, own_st (by omega), hs k hk, if_pos ⟨h3, h4⟩, hv]
  ·rw [if_neg hm]
   refine mk_same fun hl => ?_
   rw [own_st (by omega), hs k hk]
   split
   ·rename_i h
    exact absurd (own_mem.2 ⟨hk, own_iff.2 h⟩) hm
   ·rfl
theorem run_cur0 {pz qz : List D} {c : Nat} (h : Run pz.length (stAt pz) (trAt pz) (loc qz)) (hc : c < pz.length) (hl : loc qz c = true) (h2 : stAt pz c ≠ 2) : stAt pz c = 0 := by
 obtain ⟨k, -, h3, h4⟩ := h
 by_cases hk : c < k
 ·rcases h3 c hk with g | ⟨g, -⟩
  ·exact absurd g h2
  ·rw [hl] at g; cases g
 ·rcases h4 c (by omega) hc with ⟨-, g | ⟨g, -⟩⟩ | g
  ·exact g
  ·rw [hl] at g; cases g
  ·exact g.1
theorem cur_in {st : Int} {pz : List D} {c : Nat} (h : (c : Int) = cur st pz) (hs : st = 4 ∨ st = 5) : stAt pz c = 1 ∨ stAt pz c = 2 := by
 have h5 : cur st pz = cur 5 pz := by rcases hs with rfl | rfl <;> rfl
 have := (cur5_spec (pz := pz) (by omega)).2.1
 rw [← h5, ← h, Int.toNat_natCast] at this
 exact this
theorem does_mv {rt nn st wy : Int} {fc : Bool} {hops qz pz : List D} {nm : List UInt8} {kd mr mn sp mw : Int} {mh ms : List D} {mm : List UInt8} {s w : Int} {f : Bool} {p : List D}
  (h : appR rt nn st wy fc hops qz pz nm kd mr mn sp mw mh ms mm = .good s w f p) :
  ∃ v cs, effR rt nn st wy fc hops qz pz nm kd mr mn sp mw mh ms mm = cs.map (fun c => effAt rt nn hops qz v (c : Nat)) ∧ Does pz qz p v cs ∧ 1 ≤ v := by
 have ha : arE (appR rt nn st wy fc hops qz pz nm kd mr mn sp mw mh ms mm) = 0 := by rw [h]; rfl
 obtain ⟨hm, h7, hmv, s', w', f', p', hR, hA, hpl⟩ := appR_good ha
 rw [h] at hR
 obtain ⟨rfl, rfl, rfl, rfl⟩ := good_inj hR
 have hM := apply_mv (moveOk_sp hmv) (moveOk_kd hmv) hA
 have hs0 := moveOk_sp hmv
 have hg := mayOk_good hm h7
 have hsane := hg.sane'
 have e0 : effR rt nn st wy fc hops qz pz nm kd mr mn sp mw mh ms mm = bif kd == 4 then [effAt rt nn hops qz 1 sp] else bif kd == 11 then [effAt rt nn hops qz 2 sp] else
   bif kd == 16 then effTo rt nn hops qz pz (bif sp == 0 then 2 else 3) pz.length else bif kd == 9 then effTo rt nn hops qz pz 3 pz.length else [] := by
  unfold effR
  rw [ha]; rfl
 have hsp : ((sp.toNat : Nat) : Int) = sp := by omega
 rw [e0]
 cases hM with
 | fail hl hc hloc hs => exact ⟨1, [], rfl, does_nil (by simp) (fun k _ => set_same hl (fun _ => rfl) k) 1, by omega⟩
 | does hl hc hloc hs =>
  subst hs
  have hcur : 0 ≤ cur 1 pz := by omega
  have h2 := (cur1_spec hcur).2.1
  rw [← hc] at h2
  have hf := hg.fit'
  have hrun : Run pz.length (stAt pz) (trAt pz) (loc qz) := by cases hf; assumption
  have hz := run_cur0 hrun hl hloc h2
  refine ⟨1, [sp.toNat], ?_, does_one hl hloc (fun _ => by rw [hz]; rfl) (fun h => absurd rfl h) rfl, by omega⟩
  show [effAt rt nn hops qz 1 sp] = [effAt rt nn hops qz 1 (sp.toNat : Nat)]
  rw [hsp]
 | ask hl hc hloc hs h0 => exact ⟨1, [], rfl, does_nil (by simp) (fun k _ => set_same hl (fun hh => by rw [hloc] at hh; cases hh) k) 1, by omega⟩
 | got hl hc hloc hs h0 => exact ⟨1, [], rfl, does_nil (by simp) (fun k _ => set_same hl (fun hh => by rw [hloc] at hh; cases hh) k) 1, by omega⟩
 | lost hl hloc ho h0 => exact ⟨1, [], rfl, does_nil (by simp) (fun k _ => set_same hl (fun hh => by rw [hloc] at hh; cases hh) k) 1, by omega⟩
 | hold hs hh hd => exact ⟨1, [], rfl, does_nil rfl (fun k _ => rfl) 1, by omega⟩
 | commit hs hd => exact ⟨3, _, effTo_map _ _ _ _ _ _ _, does_own rfl (fun k _ => rfl) (by omega) rfl, by omega⟩
 | back hs => exact ⟨1, [], rfl, does_nil (calm_len _) (fun k hk => mk_same fun _ => calm_st hk) 1, by omega⟩
 | undo hl hc hloc hs =>
  have h2 := cur_in (c := sp.toNat) (by rw [hsp]; exact hc) (.inl hs)
  have h1 := (hsane sp.toNat hl).2.2.1
  have hz : stAt pz sp.toNat = 2 := by
   rcases h2 with g | g
   ·rcases h1 with g1 | g1
    ·rw [hloc] at g1; cases g1
    ·exact absurd g g1
   ·exact g
  refine ⟨2, [sp.toNat], ?_, does_one hl hloc (fun h => by cases h) (fun _ => by rw [hz]; rfl) rfl, by omega⟩
  show [effAt rt nn hops qz 2 sp] = [effAt rt nn hops qz 2 (sp.toNat : Nat)]
  rw [hsp]
 | jam hl hc hloc hs h5 => exact ⟨1, [], rfl, does_nil rfl (fun k _ => rfl) 1, by omega⟩
 | again hs =>
  refine ⟨1, [], rfl, does_nil (by simp) (fun k hk => ?_) 1, by omega⟩
  by_cases hcl : (cur st pz).toNat < pz.length
  ·exact set_same hcl (fun _ => rfl) k
  ·rw [set_ge (by omega)]
 | ends hs hc => exact ⟨1, [], rfl, does_nil rfl (fun k _ => rfl) 1, by omega⟩
 | kept hl hloc hs h0 => exact ⟨1, [], rfl, does_nil (by simp) (fun k _ => set_same hl (fun hh => by rw [hloc] at hh; cases hh) k) 1, by omega⟩
 | forceC hs hs6 h1 =>
  subst h1
  exact ⟨3, _, effTo_map _ _ _ _ _ _ _, does_own (calm_len _) (fun k hk => calm_st hk) (by omega) rfl, by omega⟩
 | forceU hs hs6 h1 =>
  have : sp = 0 := by rcases force_sp hmv with g | g; exact g; exact absurd g h1
  subst this
  exact ⟨2, _, effTo_map _ _ _ _ _ _ _, does_own (calm_len _) (fun k hk => calm_st hk) (by omega) rfl, by omega⟩
theorem marks_end {rt nn st wy : Int} {hops qz pz : List D} {nm : List UInt8} {k : Nat} (he : endR rt nn st wy false hops qz pz nm = true) (hk : k < pz.length) :
  (st = 6 → mkAt pz qz k = 2 ∨ mkAt pz qz k = 0) ∧ (st ≠ 6 → mkAt pz qz k = 3 ∨ mkAt pz qz k = 0) ∧ (st = 3 → loc qz k = true → mkAt pz qz k ≠ 0) := by
 have hm : mayOk rt nn st wy false hops qz pz nm = true := by
  unfold endR at he
  cases h : mayOk rt nn st wy false hops qz pz nm
  ·rw [h] at he; cases he
  ·rfl
 by_cases h7 : st = 7
 ·subst h7
  exfalso
  unfold mayOk at hm
  have : ((7 : Int) == 7) = true := rfl
  rw [this, mayOk_id (rt := rt) (nn := nn) (st := 7) (wy := wy) (fc := false) (hops := hops) (qz := qz) (pz := pz) (nm := nm) (by unfold endR at he; cases h : mayOk rt nn 7 wy false hops qz pz nm; rw [h] at he; cases he; rfl)] at hm
  cases hd : decide (0 < (qz.length : Int) + (pz.length : Int))
  ·have := of_decide_eq_false hd
   omega
  ·rw [hd] at hm
   cases hn : (nm == []) <;> rw [hn] at hm <;> cases hm
 ·have hg := mayOk_good hm h7
  have hst : st = 3 ∨ st = 6 := by
   unfold endR endR0 at he
   rw [hm, beqF h7] at he
   by_cases h3 : st = 3
   ·exact .inl h3
   ·by_cases h6 : st = 6
    ·exact .inr h6
    ·rw [beqF h3, beqF h6] at he; cases he
  have hfit := hg.fits
  unfold fitsOk at hfit
  rcases hst with rfl | rfl
  ·have hw : wy = 0 := by
    by_cases h0 : wy = 0
    ·exact h0
    ·exfalso
     have : (bif (3 : Int) == 1 then bif !false then bif wy == 0 then runOk pz qz else false else false else bif wy == 0 then allI p83 pz.length pz qz else false) = true := hfit
     rw [beqF h0] at this
     cases this
   subst hw
   have h83 : allI p83 pz.length pz qz = true := hfit
   have := q83.1 ((allI_iff _ _ _ _).1 h83 k hk)
   refine ⟨fun h => by omega, fun _ => ?_, fun _ hl => ?_⟩
   ·unfold mkAt
    split
    ·rename_i hl
     rcases this with g | ⟨g, -⟩
     ·left; unfold stAt; rw [g]; rfl
     ·rw [show (fs 4 (qz.getD k .nilp) == []) = loc qz k from rfl, hl] at g; cases g
    ·exact .inr rfl
   ·unfold mkAt
    rw [if_pos hl]
    rcases this with g | ⟨g, -⟩
    ·unfold stAt; rw [g]; decide
    ·rw [show (fs 4 (qz.getD k .nilp) == []) = loc qz k from rfl, hl] at g; cases g
  ·have h124 : allI (p97 w124) pz.length pz qz = true := by
    have : (bif decide (1 ≤ wy) then bif decide (wy ≤ 9) then !!allI (p97 w124) pz.length pz qz else false else false) = true := hfit
    cases h1 : decide (1 ≤ wy)
    ·rw [h1] at this; cases this
    ·cases h2 : decide (wy ≤ 9)
     ·rw [h1, h2] at this; cases this
     ·rw [h1, h2] at this; simpa using this
   have := q97124.1 ((allI_iff _ _ _ _).1 h124 k hk)
   have hs := hg.sane' k hk
   refine ⟨fun _ => ?_, fun h => absurd rfl h, fun h => by omega⟩
   unfold mkAt
   split
   ·have hv : stAt pz k = 0 ∨ stAt pz k = 3 := by unfold stAt at hs ⊢; omega
    rcases hv with g | g
    ·right; rw [g]; rfl
    ·left; rw [g]; rfl
   ·exact .inr rfl
theorem dig_inj {q c : Nat} (hq : q < 8) (hc : c < 8) (h : digN q = digN c) : q = c := by
 have : ∀ a b : Fin 8, digN a.1 = digN b.1 → a.1 = b.1 := by decide +kernel
 exact this ⟨q, hq⟩ ⟨c, hc⟩ h
theorem key_hit {rt nn : Int} {hops : List D} {q c : Nat} (hid : idOk rt nn hops = true) (hq : q < 8) (hc : c < 8) : (!(bif keyOk rt nn hops (q : Nat) then keyN rt nn hops (q : Nat) else []) == (bif keyOk rt nn hops (c : Nat) then keyN rt nn hops (c : Nat) else [])) = !decide (q = c) := by
 have ok : ∀ x : Nat, x < 8 → keyOk rt nn hops (x : Nat) = true := by
  intro x hx
  unfold keyOk
  rw [hid, decide_eq_true (show (0 : Int) ≤ (x : Int) by omega), decide_eq_true (show (x : Int) < 8 by omega)]; rfl
 rw [ok q hq, ok c hc]
 simp only [cond_true]
 by_cases h : q = c
 ·subst h; simp
 ·rw [decide_eq_false h]
  have : (keyN rt nn hops (q : Nat) == keyN rt nn hops (c : Nat)) = false := by
   rw [beq_eq_false_iff_ne]
   intro he
   unfold keyN at he
   have he := List.append_cancel_left he
   have he := List.append_cancel_left he
   simp only [Int.toNat_natCast] at he
   exact h (dig_inj hq hc he)
  rw [this]
section
variable (m n jo je : Nat) (A : Nat → D) (nl : Bool) (l : List D) (rt nn st wy : Int) (n1 n2 n3 fc : Bool) (hops qz pz : List D) (nm : List UInt8) (s w : Int) (f : Bool) (p : List D) (mv : Bool) (ne : Bool) (es : List D) (i : Int) (k : Nat) (xw : Int) (c : Nat)
def s12c (mk : List D) (q : Int) : St := s12k A nl l rt nn st wy n1 n2 n3 fc hops qz pz nm s w f p mv mk ne es i (k : Nat) xw (fi 0 (qz.getD c .nilp)) (fi 2 (qz.getD c .nilp)) (bif keyOk rt nn hops (c : Nat) then keyN rt nn hops (c : Nat) else []) (fs 1 (qz.getD c .nilp)) q
theorem skip12 (mk : List D) (hid : idOk rt nn hops = true) (h8 : mk.length ≤ 8) (hc : c < mk.length) {q : Nat} (hq : q < mk.length) (hne : q ≠ c) (j : Nat) :
  (resumeL K3 (callN K3 (m+40)) n [(0, jo), (1, je), (2, j+1)] c12 (s12c A nl l rt nn st wy n1 n2 n3 fc hops qz pz nm s w f p mv ne es i k xw c mk (q : Nat))).out = (resumeL K3 (callN K3 (m+40)) n [(0, jo), (1, je), (2, j)] c12 (s12c A nl l rt nn st wy n1 n2 n3 fc hops qz pz nm s w f p mv ne es i k xw c mk ((q + 1 : Nat) : Int))).out := by
 unfold s12c
 rw [l12k]
 simp only [wrap_up hq (show mk.length ≤ 1000000 by omega)]
 refine (ct (dec_lt hq)).trans ?_
 rw [key_hit hid (by omega) (by omega), decide_eq_false hne]
 rfl
theorem end12 (mk : List D) (hk : k < es.length) (he : es.length ≤ 8) (j : Nat) :
  (resumeL K3 (callN K3 (m+40)) n [(0, jo), (1, je), (2, j+1)] c12 (s12c A nl l rt nn st wy n1 n2 n3 fc hops qz pz nm s w f p mv ne es i k xw c mk (mk.length : Nat))).out = (resumeL K3 (callN K3 (m+40)) n [(0, jo), (1, je)] c12 (s12e A nl l rt nn st wy n1 n2 n3 fc hops qz pz nm s w f p mv mk ne es i ((k + 1 : Nat) : Int))).out := by
 unfold s12c
 rw [l12k]
 simp only [wrap_up hk (show es.length ≤ 1000000 by omega)]
 refine (cf (dec_end _)).trans ?_
 rfl
theorem hit12 (mk : List D) (hid : idOk rt nn hops = true) (h8 : mk.length ≤ 8) (hs : mk.length ≤ qz.length) (hc : c < mk.length) (h1 : xw = 1 → fi 0 (mk.getD c .nilp) = 0) (h2 : xw ≠ 1 → fi 0 (mk.getD c .nilp) = 1) (j : Nat) :
  (resumeL K3 (callN K3 (m+40)) n [(0, jo), (1, je), (2, j+1)] c12 (s12c A nl l rt nn st wy n1 n2 n3 fc hops qz pz nm s w f p mv ne es i k xw c mk (c : Nat))).out = (resumeL K3 (callN K3 (m+40)) n [(0, jo), (1, je), (2, j)] c12 (s12c A nl l rt nn st wy n1 n2 n3 fc hops qz pz nm s w f p mv ne es i k xw c (mk.set c (D.int .i64 xw)) ((c + 1 : Nat) : Int))).out := by
 unfold s12c
 rw [l12k]
 simp only [Int.toNat_natCast, wrap_up hc (show mk.length ≤ 1000000 by omega)]
 refine (ct (dec_lt hc)).trans ?_
 rw [key_hit hid (by omega) (by omega)]
 refine (cf (by simp)).trans ?_
 have hact : (!(fi 0 (qz.getD c .nilp) == fi 0 (qz.getD c .nilp) && (fs 1 (qz.getD c .nilp) == fs 1 (qz.getD c .nilp) && (fi 2 (qz.getD c .nilp) == fi 2 (qz.getD c .nilp) && true)))) = false := by simp
 have hst : decide ((0 : Int) ≤ (c : Int) ∧ (c : Int) < (qz.length : Int)) = true := dec_ix (by omega)
 by_cases hx : xw = 1
 ·refine (ct (beq_iff_eq.2 hx)).trans ?_
  refine (ct (dec_ix hc)).trans ?_
  refine (cf (by rw [h1 hx]; rfl)).trans ?_
  refine (cf (by rw [hx]; rfl)).trans ?_
  refine (ct hst).trans ?_
  refine (cf hact).trans ?_
  exact ct (dec_ix hc)
 ·refine (cf (beqF hx)).trans ?_
  refine (ct (bne_iff_ne.2 hx)).trans ?_
  refine (ct (dec_ix hc)).trans ?_
  refine (cf (by rw [h2 hx]; rfl)).trans ?_
  refine (ct hst).trans ?_
  refine (cf hact).trans ?_
  exact ct (dec_ix hc)
theorem behind12 (mk : List D) (hid : idOk rt nn hops = true) (h8 : mk.length ≤ 8) (hk : k < es.length) (he : es.length ≤ 8) (hc : c < mk.length) : ∀ (r q j : Nat), q + r = mk.length → r < j → c < q →
  (resumeL K3 (callN K3 (m+40)) n [(0, jo), (1, je), (2, j)] c12 (s12c A nl l rt nn st wy n1 n2 n3 fc hops qz pz nm s w f p mv ne es i k xw c mk (q : Nat))).out = (resumeL K3 (callN K3 (m+40)) n [(0, jo), (1, je)] c12 (s12e A nl l rt nn st wy n1 n2 n3 fc hops qz pz nm s w f p mv mk ne es i ((k + 1 : Nat) : Int))).out := by
 intro r
 induction r with
 | zero =>
  intro q j hq hj hcq
  cases j with
  | zero => omega
  | succ j =>
   have : q = mk.length := by omega
   subst this
   exact end12 m n jo je A nl l rt nn st wy n1 n2 n3 fc hops qz pz nm s w f p mv ne es i k xw c mk hk he j
 | succ r ih =>
  intro q j hq hj hcq
  cases j with
  | zero => omega
  | succ j =>
   rw [skip12 m n jo je A nl l rt nn st wy n1 n2 n3 fc hops qz pz nm s w f p mv ne es i k xw c mk hid h8 hc (by omega) (by omega) j]
   exact ih (q + 1) j (by omega) (by omega) (by omega)
theorem marks12 (mk : List D) (hid : idOk rt nn hops = true) (h8 : mk.length ≤ 8) (hs : mk.length ≤ qz.length) (hk : k < es.length) (he : es.length ≤ 8) (hc : c < mk.length) (h1 : xw = 1 → fi 0 (mk.getD c .nilp) = 0) (h2 : xw ≠ 1 → fi 0 (mk.getD c .nilp) = 1) : ∀ (r q j : Nat), q + r = mk.length → r < j → q ≤ c →
  (resumeL K3 (callN K3 (m+40)) n [(0, jo), (1, je), (2, j)] c12 (s12c A nl l rt nn st wy n1 n2 n3 fc hops qz pz nm s w f p mv ne es i k xw c mk (q : Nat))).out = (resumeL K3 (callN K3 (m+40)) n [(0, jo), (1, je)] c12 (s12e A nl l rt nn st wy n1 n2 n3 fc hops qz pz nm s w f p mv (mk.set c (D.int .i64 xw)) ne es i ((k + 1 : Nat) : Int))).out := by
 intro r
 induction r with
 | zero => intro q j hq hj hcq; omega
 | succ r ih =>
  intro q j hq hj hcq
  cases j with
  | zero => omega
  | succ j =>
   by_cases hqc : q = c
   ·subst hqc
    rw [hit12 m n jo je A nl l rt nn st wy n1 n2 n3 fc hops qz pz nm s w f p mv ne es i k xw q mk hid h8 hs hc h1 h2 j]
    exact behind12 m n jo je A nl l rt nn st wy n1 n2 n3 fc hops qz pz nm s w f p mv ne es i k xw q (mk.set q (D.int .i64 xw)) hid (by simpa using h8) hk he (by simpa using hc) r (q + 1) j (by simp; omega) (by omega) (by omega)
   ·rw [skip12 m n jo je A nl l rt nn st wy n1 n2 n3 fc hops qz pz nm s w f p mv ne es i k xw c mk hid h8 hc (by omega) hqc j]
    exact ih (q + 1) j (by omega) (by omega) (by omega)
end
theorem effects12 (m n jo : Nat) (A : Nat → D) (nl : Bool) (l : List D) (rt nn st wy : Int) (n1 n2 n3 fc : Bool) (hops qz pz : List D) (nm : List UInt8) (s w : Int) (f : Bool) (p : List D) (mv ne : Bool) (i : Nat) (xw : Int) (cs : List Nat) (hi : i < l.length) (ll : l.length ≤ 1000000) (hn : 10 ≤ n)
  (hid : idOk rt nn hops = true) (h8 : pz.length ≤ 8) (hs : pz.length ≤ qz.length) (g : Nat → Int) (hd : cs.Nodup) (hpre : ∀ c ∈ cs, c < pz.length ∧ (xw = 1 → g c = 0) ∧ (xw ≠ 1 → g c = 1)) (hcl : cs.length ≤ 8) {X : Option (List D)}
  (H : ∀ mk : List D, mk.length = pz.length → (∀ j, j < pz.length → fi 0 (mk.getD j .nilp) = if j ∈ cs then xw else g j) → (resume K3 (callN K3 (m+40)) n jo 0 c12 (s12 A nl l rt nn s w n1 false false f hops qz p nm mv mk ((i + 1 : Nat) : Int))).out = X) :
  ∀ (r k j : Nat) (mk : List D), k + r = cs.length → r < j → mk.length = pz.length → (∀ j, j < pz.length → fi 0 (mk.getD j .nilp) = if j ∈ cs.take k then xw else g j) →
  (resumeL K3 (callN K3 (m+40)) n [(0, jo), (1, j)] c12 (s12e A nl l rt nn st wy n1 n2 n3 fc hops qz pz nm s w f p mv mk ne (cs.map fun c => effAt rt nn hops qz xw (c : Nat)) (i : Nat) (k : Nat))).out = X := by
 intro r
 induction r with
 | zero =>
  intro k j mk hk hj hl hm
  cases j with
  | zero => omega
  | succ j =>
   have : k = cs.length := by omega
   subst this
   rw [l12e]
   simp only [wrap_up hi ll, List.length_map]
   refine (cf (dec_end _)).trans ?_
   exact H mk hl (fun j hj => by rw [hm j hj, List.take_length])
 | succ r ih =>
  intro k j mk hk hj hl hm
  cases j with
  | zero => omega
  | succ j =>
   have hlt : k < cs.length := by omega
   have hc := hpre cs[k] (List.getElem_mem hlt)
   have hnot : cs[k] ∉ cs.take k := by
    intro hmem
    obtain ⟨x, hx, he⟩ := List.mem_take_iff_getElem.1 hmem
    have := (List.getElem_inj hd).1 he
    omega
   have hval := hm cs[k] hc.1
   rw [if_neg hnot] at hval
   rw [l12e]
   simp only [Int.toNat_natCast, List.length_map]
   refine (ct (dec_lt hlt)).trans ?_
   refine (ct (dec_ix hlt)).trans ?_
   have hget : (cs.map fun c => effAt rt nn hops qz xw (c : Nat)).getD k .nilp = effAt rt nn hops qz xw (cs[k] : Nat) := by
    rw [List.getD_eq_getElem?_getD, List.getElem?_map, List.getElem?_eq_getElem hlt]; rfl
   rw [hget]
   have hM := marks12 m n jo j A nl l rt nn st wy n1 n2 n3 fc hops qz pz nm s w f p mv ne (cs.map fun c => effAt rt nn hops qz xw (c : Nat)) (i : Nat) k xw cs[k] mk hid (by omega) (by omega) (by rw [List.length_map]; exact hlt) (by rw [List.length_map]; exact hcl) (by omega)
    (fun h => by rw [hval]; exact hc.2.1 h) (fun h => by rw [hval]; exact hc.2.2 h) mk.length 0 n (by omega) (by omega) (by omega)
   refine Eq.trans ?_ (hM.trans (ih (k + 1) j (mk.set cs[k] (D.int .i64 xw)) (by omega) (by omega) (by simpa using hl) (fun q hq => ?_)))
   ·unfold s12c s12k
    simp only [List.length_map, Int.toNat_natCast]
    rfl
   ·have htk : q ∈ cs.take (k + 1) ↔ q ∈ cs.take k ∨ q = cs[k] := by
     rw [List.take_add_one, List.getElem?_eq_getElem hlt, List.mem_append]
     simp
    rw [getD_set (by omega)]
    by_cases he : cs[k] = q
    ·rw [if_pos he, if_pos (htk.2 (.inr he.symm))]; rfl
    ·rw [if_neg he, hm q hq]
     by_cases ht : q ∈ cs.take k
     ·rw [if_pos ht, if_pos (htk.2 (.inl ht))]
     ·rw [if_neg ht, if_neg (fun h => by rcases htk.1 h with h | h; exact ht h; exact he h.symm)]
theorem final12 (m n : Nat) (A : Nat → D) (rt nn st wy : Int) (n1 n2 n3 fc : Bool) (hops qz pz : List D) (nm : List UInt8) (mv : Bool) (mk : List D) (hm : mayOk rt nn st wy fc hops qz pz nm = true) (hl : mk.length = pz.length) (hg : ∀ j, j < pz.length → fi 0 (mk.getD j .nilp) = mkAt pz qz j) : ∀ (r q j : Nat), q + r = mk.length → r < j →
  (resume K3 (callN K3 (m+40)) n j 3 c12 (s12z A rt nn st wy n1 n2 n3 fc hops qz pz nm mv mk (q : Nat))).out = some [.bool true] := by
 have b1 := may_steps hm
 have b2 := mayOk_parts hm
 intro r
 induction r with
 | zero =>
  intro q j hq hj
  cases j with
  | zero => omega
  | succ j =>
   have : q = mk.length := by omega
   subst this
   rw [l12z]
   exact cf (dec_end _)
 | succ r ih =>
  intro q j hq hj
  cases j with
  | zero => omega
  | succ j =>
   have hlt : q < mk.length := by omega
   have next := ih (q + 1) j (by omega) (by omega)
   have hst : decide ((0 : Int) ≤ (q : Int) ∧ (q : Int) < (qz.length : Int)) = true := dec_ix (by omega)
   rw [l12z]
   simp only [Int.toNat_natCast, wrap_up hlt (show mk.length ≤ 1000000 by omega)]
   refine (ct (dec_lt hlt)).trans ?_
   refine (ct (decide_eq_true (by omega))).trans ?_
   refine (ct (decide_eq_true (by omega))).trans ?_
   cases he : endR rt nn st wy fc hops qz pz nm
   ·rfl
   ·refine (ct rfl).trans ?_
    cases fc with
    | true => rfl
    | false =>
     refine (ct rfl).trans ?_
     obtain ⟨m1, m2, m3⟩ := marks_end he (show q < pz.length by omega)
     have hv := hg q (by omega)
     rw [← hv] at m1 m2 m3
     by_cases h6 : st = 6
     ·subst h6
      have h63 : ((6 : Int) == 3) = false := rfl
      refine (ct rfl).trans ?_
      refine (ct (dec_ix hlt)).trans ?_
      rcases m1 rfl with g | g
      ·refine (cf (by rw [g]; rfl)).trans ?_
       exact (cf h63).trans next
      ·refine (ct (by rw [g]; rfl)).trans ?_
       refine (ct (dec_ix hlt)).trans ?_
       refine (cf (by rw [g]; rfl)).trans ?_
       exact (cf h63).trans next
     ·refine (cf (beqF h6)).trans ?_
      refine (ct (dec_ix hlt)).trans ?_
      have tail : (bif st == 3 then bif decide ((0 : Int) ≤ (q : Int) ∧ (q : Int) < (qz.length : Int)) then bif fs 4 (qz.getD q .nilp) == [] then bif decide ((0 : Int) ≤ (q : Int) ∧ (q : Int) < (mk.length : Int)) then bif fi 0 (mk.getD q .nilp) == 0 then some [D.bool false] else (resume K3 (callN K3 (m+40)) n j 3 c12 (s12z A rt nn st wy n1 n2 n3 false hops qz pz nm mv mk ((q + 1 : Nat) : Int))).out else none
        else (resume K3 (callN K3 (m+40)) n j 3 c12 (s12z A rt nn st wy n1 n2 n3 false hops qz pz nm mv mk ((q + 1 : Nat) : Int))).out else none else (resume K3 (callN K3 (m+40)) n j 3 c12 (s12z A rt nn st wy n1 n2 n3 false hops qz pz nm mv mk ((q + 1 : Nat) : Int))).out) = some [.bool true] := by
       by_cases h3 : st = 3
       ·refine (ct (beq_iff_eq.2 h3)).trans ?_
        refine (ct hst).trans ?_
        cases hloc : (fs 4 (qz.getD q .nilp) == [])
        ·exact (cf rfl).trans next
        ·refine (ct rfl).trans ?_
         refine (ct (dec_ix hlt)).trans ?_
         exact (cf (beqF (m3 h3 hloc))).trans next
       ·exact (cf (beqF h3)).trans next
      rcases m2 h6 with g | g
      ·refine (cf (by rw [g]; rfl)).trans ?_
       exact tail
      ·refine (ct (by rw [g]; rfl)).trans ?_
       refine (ct (dec_ix hlt)).trans ?_
       refine (cf (by rw [g]; rfl)).trans ?_
       exact tail
theorem nodup_len : ∀ {n : Nat} {cs : List Nat}, cs.Nodup → (∀ c ∈ cs, c < n) → cs.length ≤ n
 | 0, cs, hd, h => by
  cases cs with
  | nil => simp
  | cons c cs => have := h c (by simp); omega
 | n + 1, cs, hd, h => by
  by_cases hm : n ∈ cs
  ·have h1 := nodup_len (n := n) (cs := cs.erase n) (hd.erase n) (fun c hc => by
    have := hd.mem_erase_iff.1 hc
    have := h c this.2
    omega)
   rw [List.length_erase_of_mem hm] at h1
   omega
  ·have := nodup_len (n := n) (cs := cs) hd (fun c hc => by
    have := h c hc
    have : c ≠ n := fun he => hm (he ▸ hc)
    omega)
   omega
theorem loop12 (m n : Nat) (A : Nat → D) (nl : Bool) (l : List D) (rt nn : Int) (n1 : Bool) (hops qz : List D) (nm : List UInt8) (h1 : n1 = true → hops = []) (ll : l.length ≤ 1000000) (hn : 20 ≤ n)
  (hl : ∀ i, i < l.length → fewM (fl 3 (l.getD i .nilp)) (fl 7 (l.getD i .nilp)) = true) : ∀ (r i j : Nat) (st wy : Int) (n2 n3 fc mv : Bool) (pz mk : List D), i + r = l.length → r < j → (n2 = true → qz = []) → (n3 = true → pz = []) → mayOk rt nn st wy fc hops qz pz nm = true →
  mk.length = pz.length → (∀ j, j < pz.length → fi 0 (mk.getD j .nilp) = mkAt pz qz j) →
  (resume K3 (callN K3 (m+40)) n j 0 c12 (s12 A nl l rt nn st wy n1 n2 n3 fc hops qz pz nm mv mk (i : Nat))).out = some [.bool true] := by
 intro r
 induction r with
 | zero =>
  intro i j st wy n2 n3 fc mv pz mk hi hj h2 h3 hm hml hg
  cases j with
  | zero => omega
  | succ j =>
   have : i = l.length := by omega
   subst this
   have b2 := mayOk_parts hm
   rw [l12]
   refine (cf (dec_end _)).trans ?_
   exact final12 m n A rt nn st wy n1 n2 n3 fc hops qz pz nm mv mk hm hml hg mk.length 0 n (by omega) (by omega)
 | succ r ih =>
  intro i j st wy n2 n3 fc mv pz mk hi hj h2 h3 hm hml hg
  cases j with
  | zero => omega
  | succ j =>
   have hlt : i < l.length := by omega
   have b1 := may_steps hm
   have b2 := mayOk_parts hm
   have hfm := hl i hlt
   unfold fewM at hfm
   simp only [Bool.and_eq_true, decide_eq_true_eq] at hfm
   rw [l12]
   simp only [Int.toNat_natCast, wrap_up hlt ll]
   refine (ct (dec_lt hlt)).trans ?_
   refine (ct (dec_ix hlt)).trans ?_
   have hgd := gd_ok (rt := rt) (nn := nn) (st := st) (wy := wy) (fc := fc) (nm := nm) (kd := fi 0 (l.getD i .nilp)) (mh := fl 3 (l.getD i .nilp)) h1 h2 h3 (by omega) (by omega) (by omega) (by omega)
   refine (ct hgd).trans ?_
   cases ha : (arE (appR rt nn st wy fc hops qz pz nm (fi 0 (l.getD i .nilp)) (fi 1 (l.getD i .nilp)) (fi 2 (l.getD i .nilp)) (fi 4 (l.getD i .nilp)) (fi 5 (l.getD i .nilp)) (fl 3 (l.getD i .nilp)) (fl 7 (l.getD i .nilp)) (fs 6 (l.getD i .nilp))) != 0)
   ·refine (cf rfl).trans ?_
    have h0 : arE (appR rt nn st wy fc hops qz pz nm (fi 0 (l.getD i .nilp)) (fi 1 (l.getD i .nilp)) (fi 2 (l.getD i .nilp)) (fi 4 (l.getD i .nilp)) (fi 5 (l.getD i .nilp)) (fl 3 (l.getD i .nilp)) (fl 7 (l.getD i .nilp)) (fs 6 (l.getD i .nilp))) = 0 := by simpa using ha
    obtain ⟨-, -, -, s, w, f, p, hR, -, -⟩ := appR_good h0
    obtain ⟨v, cs, hE, ⟨d1, d2, d3, d4⟩, -⟩ := does_mv hR
    have hnext := may_next hR
    refine (ct (dec_ix hlt)).trans ?_
    refine (ct hgd).trans ?_
    have main := effects12 m n j A nl l rt nn st wy n1 n2 n3 fc hops qz pz nm s w f p mv (effR rt nn st wy fc hops qz pz nm (fi 0 (l.getD i .nilp)) (fi 1 (l.getD i .nilp)) (fi 2 (l.getD i .nilp)) (fi 4 (l.getD i .nilp)) (fi 5 (l.getD i .nilp)) (fl 3 (l.getD i .nilp)) (fl 7 (l.getD i .nilp)) (fs 6 (l.getD i .nilp))).isEmpty i v cs hlt ll (by omega) (mayOk_id hm) (by omega) (by omega) (mkAt pz qz) d1 d2
     (by have := nodup_len d1 (fun c hc => (d2 c hc).1); omega) (X := some [.bool true])
     (fun mk' hl' hg' => ih (i + 1) j s w false false f mv p mk' (by omega) (by omega) (fun h => by cases h) (fun h => by cases h) hnext (by omega) (fun q hq => by rw [hg' q (by omega), d4 q (by omega)]))
     cs.length 0 n mk (by omega) (by have := nodup_len d1 (fun c hc => (d2 c hc).1); omega) hml (fun q hq => by rw [hg q hq]; simp)
    rw [← hE] at main
    rw [hR]
    exact main
   ·refine (ct rfl).trans ?_
    exact ih (i + 1) j st wy n2 n3 fc mv pz mk (by omega) (by omega) h2 h3 hm hml hg
theorem once (m n : Nat) (kd mr mn sp mw : Int) (k1 k2 : Bool) (mh ms : List D) (mm : List UInt8) (nl : Bool) (l : List D) (h1 : k1 = true → mh = []) (h2 : k2 = true → ms = []) (hn : 3000 ≤ n) :
  (enterM K3 (callN K3 (m+40)) n c12 [.d (moveD kd mr mn sp mw k1 k2 mh ms mm), .d (.sl moveSh nl l)] []).out = some [.bool true] := by
 rw [e12]
 cases hf : fewL mh ms l
 ·rfl
 ·refine (cf rfl).trans ?_
  obtain ⟨f1, f2, f3, f4⟩ := fewL_iff hf
  have g : ((!k1 || mh.isEmpty) && (!k2 || ms.isEmpty) && (decide (mh.length ≤ 1000000) && decide (ms.length ≤ 1000000))) = true := by
   rw [decide_eq_true (show mh.length ≤ 1000000 by omega), decide_eq_true (show ms.length ≤ 1000000 by omega)]
   cases k1 with
   | false => cases k2 with
    | false => rfl
    | true => rw [h2 rfl]; rfl
   | true => rw [h1 rfl]; cases k2 with
    | false => rfl
    | true => rw [h2 rfl]; rfl
  refine (ct g).trans ?_
  cases hmv : moveOk kd mr mn sp mw mh ms mm
  ·rfl
  ·refine (ct rfl).trans ?_
   by_cases hk1 : kd = 1
   ·subst hk1
    refine (ct rfl).trans ?_
    refine (ct (decide_eq_true (by rw [List.length_replicate]; omega))).trans ?_
    refine loop12 m n (d3 [.int .i64 1, .int .i64 mr, .int .i64 mn, .sl hopSh k1 mh, .int .i64 sp, .int .i64 mw, .str mm, .sl stepSh k2 ms]) nl l mr mn k1 mh ms mm h1 (by omega) (by omega) f4 l.length 0 n 1 0 k2 false false false (List.replicate ms.length (part 0 0)) (List.replicate (List.replicate ms.length (part 0 0)).length (D.int .i64 0)) (by omega) (by omega) h2 (fun h => by cases h) (may_begin hmv) (by simp) (fun q hq => ?_)
    have r1 : (List.replicate (List.replicate ms.length (part 0 0)).length (D.int .i64 0)).getD q .nilp = D.int .i64 0 := by
     rw [List.getD_eq_getElem?_getD, List.getElem?_eq_getElem (by simpa using hq), List.getElem_replicate]; rfl
    have r2 : (List.replicate ms.length (part 0 0)).getD q .nilp = part 0 0 := by
     rw [List.getD_eq_getElem?_getD, List.getElem?_eq_getElem hq, List.getElem_replicate]; rfl
    rw [r1]
    unfold mkAt stAt
    rw [r2]
    split <;> rfl
   ·refine (cf (beqF hk1)).trans ?_
    by_cases hk2 : kd = 2
    ·subst hk2
     refine (ct rfl).trans ?_
     exact loop12 m n (d3 [.int .i64 2, .int .i64 mr, .int .i64 mn, .sl hopSh k1 mh, .int .i64 sp, .int .i64 mw, .str mm, .sl stepSh k2 ms]) nl l mr mn k1 mh [] [] h1 (by omega) (by omega) f4 l.length 0 n 7 mw true true false false [] [] (by omega) (by omega) (fun _ => rfl) (fun _ => rfl) (may_refuse hmv) rfl (fun q hq => by simp at hq)
    ·exact cf (beqF hk2)
end Go.Proofs.YtkjiaijkdefkgaaGreatDoor.A
