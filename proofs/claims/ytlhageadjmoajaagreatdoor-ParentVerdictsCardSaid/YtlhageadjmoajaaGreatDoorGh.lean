/- Parts of the walk: QMe, Me, Mf, QMg, QR5, SR5, Mh, Mi, QMh, Mj, Mk, Ml, Mb, Mc, Mm, Mn, Mo, QN1, Mq, QMq, Mr, Ms, QMt, Mt, QMu, Mu, Mv, My. -/
import Derived.Test.YtlhageadjmoajaaGreatDoorGg
import Derived.KernelRfl
set_option maxRecDepth 20000
open Go Go.AM Go.Proofs
namespace Go.Proofs.YtlhageadjmoajaaGreatDoor.A
abbrev sgSh:Sh:= .agg [.int .i64,.int .i64,.sl hopSh,.str,.sl stepSh,.int .i64,.int .i64,.sl partSh,.bool]
theorem x59(m n:Nat)(r q:Int)(nil:Bool)(es:List D):Tree.out (enterM Md (callN Md (m+40)) n c84 [.d (.agg [.int .i64 r,.int .i64 q,.sl hopSh nil es])] [])=bif (↑(List.length (bif idOk r q es then orgs r es else [])):Int)==0 then some [D.int .i64 (-1)] else bif decide (0≤IntKind.wrap .i64 ((↑(List.length (bif idOk r q es then orgs r es else [])):Int) - 1)∧IntKind.wrap .i64 ((↑(List.length (bif idOk r q es then orgs r es else [])):Int) - 1)<(↑(List.length (bif idOk r q es then orgs r es else [])):Int)) then some [D.int .i64 (fi 0 (List.getD (bif idOk r q es then orgs r es else []) (Int.toNat (IntKind.wrap .i64 ((↑(List.length (bif idOk r q es then orgs r es else [])):Int) - 1))) D.nilp))] else none:=by kernel_rfl
theorem x104(m n:Nat)(ns:Bool)(ss:List D):Tree.eval (enterM Md (callN Md (m+40)) n c80 [.d (.sl sgSh ns ss)] [])=Tree.eval (resume Md (callN Md (m+40)) n n 0 c80 { fr:=frame 64 [(3,V.mp 832),(13,V.d (D.sl (Sh.agg [Sh.int .i64,Sh.int .i64,Sh.sl hopSh,Sh.str,Sh.sl stepSh,Sh.int .i64,Sh.int .i64,Sh.sl hopSh,Sh.bool]) ns ss)),(14,V.d (D.int .i64 (ss.length:Int))),(15,V.d (D.int .i64 0))],ob:=[(832,AM.Obj.map Sh.str mrkSh [])] }):=by kernel_rfl
def v104(ns:Bool)(ss:List D)(kv:List (D×D))(i:Int):St:= { fr:=frame 64 [(3,V.mp 832),(13,V.d (D.sl sgSh ns ss)),(14,V.d (D.int .i64 (ss.length:Int))),(15,V.d (D.int .i64 i))],ob:=[(832,AM.Obj.map Sh.str mrkSh kv)] }
theorem y104(m n j:Nat)(ns:Bool)(ss:List D)(kv:List (D×D))(i:Int):Go.AM.Tree.eval (resume Md (callN Md (m+40)) n (j+1) 0 c80 (v104 ns ss kv i))=bif decide (i<(↑(List.length ss):Int)) then bif decide ((0:Int)≤i∧i<(↑(List.length ss):Int)) then @Tree.eval (V×Obs) (resumeL Md (callN Md (m+(40:Nat))) n [((0:Nat),j),((1:Nat),n)] c80 { fr:=frame (64:Nat) [((3:Nat),V.mp (832:Nat)),((5:Nat),V.ptr (384:Nat) (0:Nat)),((13:Nat),V.d (D.sl (Sh.agg [Sh.int IntKind.i64,Sh.int IntKind.i64,Sh.sl hopSh,Sh.str,Sh.sl stepSh,Sh.int IntKind.i64,Sh.int IntKind.i64,Sh.sl hopSh,Sh.bool]) ns ss)),((14:Nat),V.d (D.int IntKind.i64 (↑(List.length ss):Int))),((15:Nat),V.d (D.int IntKind.i64 i)),((20:Nat),V.d (D.sl hopSh (fn (7:Nat) (List.getD ss (Int.toNat i) D.nilp)) (fl (7:Nat) (List.getD ss (Int.toNat i) D.nilp)))),((21:Nat),V.d (D.int IntKind.i64 (↑(List.length (fl (7:Nat) (List.getD ss (Int.toNat i) D.nilp))):Int))),((22:Nat),V.d (D.int IntKind.i64 (0:Int)))],ob:=[((832:Nat),AM.Obj.map Sh.str mrkSh kv),((384:Nat),Obj.box [V.d (D.int IntKind.i64 (fi (0:Nat) (List.getD ss (Int.toNat i) D.nilp))),V.d (D.int IntKind.i64 (fi (1:Nat) (List.getD ss (Int.toNat i) D.nilp))),V.d (D.sl hopSh (fn (2:Nat) (List.getD ss (Int.toNat i) D.nilp)) (fl (2:Nat) (List.getD ss (Int.toNat i) D.nilp))),V.d (D.str (fs (3:Nat) (List.getD ss (Int.toNat i) D.nilp))),V.d (D.sl stepSh (fn (4:Nat) (List.getD ss (Int.toNat i) D.nilp)) (fl (4:Nat) (List.getD ss (Int.toNat i) D.nilp))),V.d (D.int IntKind.i64 (fi (5:Nat) (List.getD ss (Int.toNat i) D.nilp))),V.d (D.int IntKind.i64 (fi (6:Nat) (List.getD ss (Int.toNat i) D.nilp))),V.d (D.sl hopSh (fn (7:Nat) (List.getD ss (Int.toNat i) D.nilp)) (fl (7:Nat) (List.getD ss (Int.toNat i) D.nilp))),V.d (D.bool (fb (8:Nat) (List.getD ss (Int.toNat i) D.nilp)))])] }) else none else some (V.mp (832:Nat),[((832:Nat),AM.Obj.map Sh.str mrkSh kv)]):=by kernel_rfl
theorem x103(m n:Nat)(og ep co:Int)(na nm' nb ns:Bool)(zas ms bs ss:List D):Tree.outG (enterM Md (callN Md (m+40)) n c79 [.ptr 0 0] [(0,.box [.d (.int .i64 og),.d (.int .i64 ep),.d (.int .i64 co),.d (.sl accSh na zas),.d (.sl mrkSh nm' ms),.d (.sl defSh nb bs),.d (.sl sgSh ns ss)])])=bif decide (24<(ss.length:Int)) then some (V.d (D.bool false),[(0,Obj.box [V.d (D.int .i64 og),V.d (D.int .i64 ep),V.d (D.int .i64 co),V.d (D.sl accSh na zas),V.d (D.sl mrkSh nm' ms),V.d (D.sl (Sh.agg [Sh.str,Sh.sl stepSh]) nb bs),V.d (D.sl (Sh.agg [Sh.int .i64,Sh.int .i64,Sh.sl hopSh,Sh.str,Sh.sl stepSh,Sh.int .i64,Sh.int .i64,Sh.sl hopSh,Sh.bool]) ns ss)])]) else Tree.outG (resume Md (callN Md (m+40)) n n 0 c79 { fr:=frame 74 [(0,V.ptr 0 0),(16,V.d (D.sl (Sh.agg [Sh.int .i64,Sh.int .i64,Sh.sl hopSh,Sh.str,Sh.sl stepSh,Sh.int .i64,Sh.int .i64,Sh.sl hopSh,Sh.bool]) ns ss)),(17,V.d (D.int .i64 (ss.length:Int))),(18,V.d (D.int .i64 0))],ob:=[(0,Obj.box [V.d (D.int .i64 og),V.d (D.int .i64 ep),V.d (D.int .i64 co),V.d (D.sl accSh na zas),V.d (D.sl mrkSh nm' ms),V.d (D.sl (Sh.agg [Sh.str,Sh.sl stepSh]) nb bs),V.d (D.sl (Sh.agg [Sh.int .i64,Sh.int .i64,Sh.sl hopSh,Sh.str,Sh.sl stepSh,Sh.int .i64,Sh.int .i64,Sh.sl hopSh,Sh.bool]) ns ss)])] }):=by kernel_rfl
def v104b(ns:Bool)(ss:List D)(kv:List (D×D))(i:Int)(rt nn st wy:Int)(n1 n2 n3 fc:Bool)(hops steps parts:List D)(nm:List UInt8)(k:Int):St:= { fr:=frame 64 [(3,V.mp 832),(5,V.ptr 384 0),(13,V.d (D.sl sgSh ns ss)),(14,V.d (D.int .i64 (ss.length:Int))),(15,V.d (D.int .i64 i)),(20,V.d (D.sl partSh n3 parts)),(21,V.d (D.int .i64 (parts.length:Int))),(22,V.d (D.int .i64 k))],ob:=[(832,AM.Obj.map Sh.str mrkSh kv),(384,.box [V.d (D.int .i64 rt),V.d (D.int .i64 nn),V.d (D.sl hopSh n1 hops),V.d (D.str nm),V.d (D.sl stepSh n2 steps),V.d (D.int .i64 st),V.d (D.int .i64 wy),V.d (D.sl partSh n3 parts),V.d (D.bool fc)])] }
theorem y104b(m n j h:Nat)(ns:Bool)(ss:List D)(kv:List (D×D))(i:Int)(rt nn st wy:Int)(n1 n2 n3 fc:Bool)(hops steps parts:List D)(nm:List UInt8)(k:Int):Go.AM.Tree.eval (resumeL Md (callN Md (m+40)) n [(0,j),(1,h+1)] c80 (v104b ns ss kv i rt nn st wy n1 n2 n3 fc hops steps parts nm k))=bif decide (k<(↑(List.length parts):Int)) then bif decide ((0:Int)≤k∧k<(↑(List.length parts):Int)) then bif decide ((0:Int)≤k∧k<(↑(List.length steps):Int)) then bif fs (4:Nat) (List.getD steps (Int.toNat k) D.nilp)==[] then bif decide ((0:Int)≤fi (0:Nat) (List.getD parts (Int.toNat k) D.nilp)∧fi (0:Nat) (List.getD parts (Int.toNat k) D.nilp)<(5:Int)) then bif fi (0:Nat) (List.getD [D.int IntKind.i64 (0:Int),D.int IntKind.i64 (0:Int),D.int IntKind.i64 (1:Int),D.int IntKind.i64 (2:Int),D.int IntKind.i64 (3:Int)] (Int.toNat (fi (0:Nat) (List.getD parts (Int.toNat k) D.nilp))) D.nilp) != (0:Int) then bif decide ((0:Int)≤fi (0:Nat) (List.getD parts (Int.toNat k) D.nilp)∧fi (0:Nat) (List.getD parts (Int.toNat k) D.nilp)<(5:Int)) then @Tree.eval (V×Obs) (resumeL Md (callN Md (m+(40:Nat))) n [((0:Nat),j),((1:Nat),h)] c80 { fr:=frame (64:Nat) [((3:Nat),V.mp (832:Nat)),((5:Nat),V.ptr (384:Nat) (0:Nat)),((13:Nat),V.d (D.sl (Sh.agg [Sh.int IntKind.i64,Sh.int IntKind.i64,Sh.sl hopSh,Sh.str,Sh.sl stepSh,Sh.int IntKind.i64,Sh.int IntKind.i64,Sh.sl hopSh,Sh.bool]) ns ss)),((14:Nat),V.d (D.int IntKind.i64 (↑(List.length ss):Int))),((15:Nat),V.d (D.int IntKind.i64 i)),((20:Nat),V.d (D.sl hopSh n3 parts)),((21:Nat),V.d (D.int IntKind.i64 (↑(List.length parts):Int))),((22:Nat),V.d (D.int IntKind.i64 (IntKind.wrap IntKind.i64 (k+(1:Int)))))],ob:=[((832:Nat),AM.Obj.map Sh.str mrkSh (kvSet (D.str (bif keyOk rt nn hops k then keyN rt nn hops k else [])) (D.agg [D.str (bif keyOk rt nn hops k then keyN rt nn hops k else []),D.int IntKind.i64 (fi (0:Nat) (List.getD steps (Int.toNat k) D.nilp)),D.str (fs (1:Nat) (List.getD steps (Int.toNat k) D.nilp)),D.int IntKind.i64 (fi (2:Nat) (List.getD steps (Int.toNat k) D.nilp)),D.int IntKind.i64 (fi (0:Nat) (List.getD [D.int IntKind.i64 (0:Int),D.int IntKind.i64 (0:Int),D.int IntKind.i64 (1:Int),D.int IntKind.i64 (2:Int),D.int IntKind.i64 (3:Int)] (Int.toNat (fi (0:Nat) (List.getD parts (Int.toNat k) D.nilp))) D.nilp))]) kv)),((384:Nat),Obj.box [V.d (D.int IntKind.i64 rt),V.d (D.int IntKind.i64 nn),V.d (D.sl hopSh n1 hops),V.d (D.str nm),V.d (D.sl stepSh n2 steps),V.d (D.int IntKind.i64 st),V.d (D.int IntKind.i64 wy),V.d (D.sl hopSh n3 parts),V.d (D.bool fc)])] }) else none else @Tree.eval (V×Obs) (resumeL Md (callN Md (m+(40:Nat))) n [((0:Nat),j),((1:Nat),h)] c80 { fr:=frame (64:Nat) [((3:Nat),V.mp (832:Nat)),((5:Nat),V.ptr (384:Nat) (0:Nat)),((13:Nat),V.d (D.sl (Sh.agg [Sh.int IntKind.i64,Sh.int IntKind.i64,Sh.sl hopSh,Sh.str,Sh.sl stepSh,Sh.int IntKind.i64,Sh.int IntKind.i64,Sh.sl hopSh,Sh.bool]) ns ss)),((14:Nat),V.d (D.int IntKind.i64 (↑(List.length ss):Int))),((15:Nat),V.d (D.int IntKind.i64 i)),((20:Nat),V.d (D.sl hopSh n3 parts)),((21:Nat),V.d (D.int IntKind.i64 (↑(List.length parts):Int))),((22:Nat),V.d (D.int IntKind.i64 (IntKind.wrap IntKind.i64 (k+(1:Int)))))],ob:=[((832:Nat),AM.Obj.map Sh.str mrkSh kv),((384:Nat),Obj.box [V.d (D.int IntKind.i64 rt),V.d (D.int IntKind.i64 nn),V.d (D.sl hopSh n1 hops),V.d (D.str nm),V.d (D.sl stepSh n2 steps),V.d (D.int IntKind.i64 st),V.d (D.int IntKind.i64 wy),V.d (D.sl hopSh n3 parts),V.d (D.bool fc)])] }) else none else @Tree.eval (V×Obs) (resumeL Md (callN Md (m+(40:Nat))) n [((0:Nat),j),((1:Nat),h)] c80 { fr:=frame (64:Nat) [((3:Nat),V.mp (832:Nat)),((5:Nat),V.ptr (384:Nat) (0:Nat)),((13:Nat),V.d (D.sl (Sh.agg [Sh.int IntKind.i64,Sh.int IntKind.i64,Sh.sl hopSh,Sh.str,Sh.sl stepSh,Sh.int IntKind.i64,Sh.int IntKind.i64,Sh.sl hopSh,Sh.bool]) ns ss)),((14:Nat),V.d (D.int IntKind.i64 (↑(List.length ss):Int))),((15:Nat),V.d (D.int IntKind.i64 i)),((20:Nat),V.d (D.sl hopSh n3 parts)),((21:Nat),V.d (D.int IntKind.i64 (↑(List.length parts):Int))),((22:Nat),V.d (D.int IntKind.i64 (IntKind.wrap IntKind.i64 (k+(1:Int)))))],ob:=[((832:Nat),AM.Obj.map Sh.str mrkSh kv),((384:Nat),Obj.box [V.d (D.int IntKind.i64 rt),V.d (D.int IntKind.i64 nn),V.d (D.sl hopSh n1 hops),V.d (D.str nm),V.d (D.sl stepSh n2 steps),V.d (D.int IntKind.i64 st),V.d (D.int IntKind.i64 wy),V.d (D.sl hopSh n3 parts),V.d (D.bool fc)])] }) else none else none else @Tree.eval (V×Obs) (resume Md (callN Md (m+(40:Nat))) n j (0:Nat) c80 { fr:=frame (64:Nat) [((3:Nat),V.mp (832:Nat)),((13:Nat),V.d (D.sl (Sh.agg [Sh.int IntKind.i64,Sh.int IntKind.i64,Sh.sl hopSh,Sh.str,Sh.sl stepSh,Sh.int IntKind.i64,Sh.int IntKind.i64,Sh.sl hopSh,Sh.bool]) ns ss)),((14:Nat),V.d (D.int IntKind.i64 (↑(List.length ss):Int))),((15:Nat),V.d (D.int IntKind.i64 (IntKind.wrap IntKind.i64 (i+(1:Int)))))],ob:=[((832:Nat),AM.Obj.map Sh.str mrkSh kv)] }):=by kernel_rfl
def v103(og ep co:Int)(na nm' nb ns:Bool)(zas ms bs ss:List D)(i:Int):St:= { fr:=frame 74 [(0,V.ptr 0 0),(16,V.d (D.sl sgSh ns ss)),(17,V.d (D.int .i64 (ss.length:Int))),(18,V.d (D.int .i64 i))],ob:=[(0,.box [.d (.int .i64 og),.d (.int .i64 ep),.d (.int .i64 co),.d (.sl accSh na zas),.d (.sl mrkSh nm' ms),.d (.sl defSh nb bs),.d (.sl sgSh ns ss)])] }
theorem y103(m n j:Nat)(og ep co:Int)(na nm' nb ns:Bool)(zas ms bs ss:List D)(i:Int):Tree.outG (resume Md (callN Md (m+40)) n (j+1) 0 c79 (v103 og ep co na nm' nb ns zas ms bs ss i))=bif decide (i<(ss.length:Int)) then bif decide (0≤i∧i<(ss.length:Int)) then bif decide (List.length (fl 4 (ss.getD i.toNat .nilp))≤1000000) then bif decide (List.length (fl 7 (ss.getD i.toNat .nilp))≤1000000) then bif (bif mayOk (fi 0 (ss.getD i.toNat .nilp)) (fi 1 (ss.getD i.toNat .nilp)) (fi 5 (ss.getD i.toNat .nilp)) (fi 6 (ss.getD i.toNat .nilp)) (fb 8 (ss.getD i.toNat .nilp)) (fl 2 (ss.getD i.toNat .nilp)) (fl 4 (ss.getD i.toNat .nilp)) (fl 7 (ss.getD i.toNat .nilp)) (fs 3 (ss.getD i.toNat .nilp)) then (0:Int) else (230:Int)) != 0 then some (V.d (D.bool false),[(0,Obj.box [V.d (D.int .i64 og),V.d (D.int .i64 ep),V.d (D.int .i64 co),V.d (D.sl accSh na zas),V.d (D.sl mrkSh nm' ms),V.d (D.sl (Sh.agg [Sh.str,Sh.sl stepSh]) nb bs),V.d (D.sl (Sh.agg [Sh.int .i64,Sh.int .i64,Sh.sl hopSh,Sh.str,Sh.sl stepSh,Sh.int .i64,Sh.int .i64,Sh.sl hopSh,Sh.bool]) ns ss)])]) else bif orgOfId (fi 0 (ss.getD i.toNat .nilp)) (fi 1 (ss.getD i.toNat .nilp)) (fl 2 (ss.getD i.toNat .nilp)) != og then some (V.d (D.bool false),[(0,Obj.box [V.d (D.int .i64 og),V.d (D.int .i64 ep),V.d (D.int .i64 co),V.d (D.sl accSh na zas),V.d (D.sl mrkSh nm' ms),V.d (D.sl (Sh.agg [Sh.str,Sh.sl stepSh]) nb bs),V.d (D.sl (Sh.agg [Sh.int .i64,Sh.int .i64,Sh.sl hopSh,Sh.str,Sh.sl stepSh,Sh.int .i64,Sh.int .i64,Sh.sl hopSh,Sh.bool]) ns ss)])]) else bif (↑(List.length (fl 2 (ss.getD i.toNat .nilp))):Int)==0 then bif decide (co<fi 1 (ss.getD i.toNat .nilp)) then some (V.d (D.bool false),[(0,Obj.box [V.d (D.int .i64 og),V.d (D.int .i64 ep),V.d (D.int .i64 co),V.d (D.sl accSh na zas),V.d (D.sl mrkSh nm' ms),V.d (D.sl (Sh.agg [Sh.str,Sh.sl stepSh]) nb bs),V.d (D.sl (Sh.agg [Sh.int .i64,Sh.int .i64,Sh.sl hopSh,Sh.str,Sh.sl stepSh,Sh.int .i64,Sh.int .i64,Sh.sl hopSh,Sh.bool]) ns ss)])]) else bif decide (0<i) then bif decide (0≤IntKind.wrap .i64 (i - 1)∧IntKind.wrap .i64 (i - 1)<(ss.length:Int)) then bif decide (List.length (fl 2 (List.getD ss (Int.toNat (IntKind.wrap .i64 (i - 1))) D.nilp))≤1000000) then bif decide (0≤idCmp (fi 0 (List.getD ss (Int.toNat (IntKind.wrap .i64 (i - 1))) D.nilp)) (fi 1 (List.getD ss (Int.toNat (IntKind.wrap .i64 (i - 1))) D.nilp)) (fi 0 (ss.getD i.toNat .nilp)) (fi 1 (ss.getD i.toNat .nilp)) (fl 2 (List.getD ss (Int.toNat (IntKind.wrap .i64 (i - 1))) D.nilp)) (fl 2 (ss.getD i.toNat .nilp))) then some (V.d (D.bool false),[(0,Obj.box [V.d (D.int .i64 og),V.d (D.int .i64 ep),V.d (D.int .i64 co),V.d (D.sl accSh na zas),V.d (D.sl mrkSh nm' ms),V.d (D.sl (Sh.agg [Sh.str,Sh.sl stepSh]) nb bs),V.d (D.sl (Sh.agg [Sh.int .i64,Sh.int .i64,Sh.sl hopSh,Sh.str,Sh.sl stepSh,Sh.int .i64,Sh.int .i64,Sh.sl hopSh,Sh.bool]) ns ss)])]) else Tree.outG (resume Md (callN Md (m+40)) n j 0 c79 { fr:=frame 74 [(0,V.ptr 0 0),(16,V.d (D.sl (Sh.agg [Sh.int .i64,Sh.int .i64,Sh.sl hopSh,Sh.str,Sh.sl stepSh,Sh.int .i64,Sh.int .i64,Sh.sl hopSh,Sh.bool]) ns ss)),(17,V.d (D.int .i64 (ss.length:Int))),(18,V.d (D.int .i64 (IntKind.wrap .i64 (i+1))))],ob:=[(0,Obj.box [V.d (D.int .i64 og),V.d (D.int .i64 ep),V.d (D.int .i64 co),V.d (D.sl accSh na zas),V.d (D.sl mrkSh nm' ms),V.d (D.sl (Sh.agg [Sh.str,Sh.sl stepSh]) nb bs),V.d (D.sl (Sh.agg [Sh.int .i64,Sh.int .i64,Sh.sl hopSh,Sh.str,Sh.sl stepSh,Sh.int .i64,Sh.int .i64,Sh.sl hopSh,Sh.bool]) ns ss)])] }) else none else none else Tree.outG (resume Md (callN Md (m+40)) n j 0 c79 { fr:=frame 74 [(0,V.ptr 0 0),(16,V.d (D.sl (Sh.agg [Sh.int .i64,Sh.int .i64,Sh.sl hopSh,Sh.str,Sh.sl stepSh,Sh.int .i64,Sh.int .i64,Sh.sl hopSh,Sh.bool]) ns ss)),(17,V.d (D.int .i64 (ss.length:Int))),(18,V.d (D.int .i64 (IntKind.wrap .i64 (i+1))))],ob:=[(0,Obj.box [V.d (D.int .i64 og),V.d (D.int .i64 ep),V.d (D.int .i64 co),V.d (D.sl accSh na zas),V.d (D.sl mrkSh nm' ms),V.d (D.sl (Sh.agg [Sh.str,Sh.sl stepSh]) nb bs),V.d (D.sl (Sh.agg [Sh.int .i64,Sh.int .i64,Sh.sl hopSh,Sh.str,Sh.sl stepSh,Sh.int .i64,Sh.int .i64,Sh.sl hopSh,Sh.bool]) ns ss)])] }) else bif decide (0<i) then bif decide (0≤IntKind.wrap .i64 (i - 1)∧IntKind.wrap .i64 (i - 1)<(ss.length:Int)) then bif decide (List.length (fl 2 (List.getD ss (Int.toNat (IntKind.wrap .i64 (i - 1))) D.nilp))≤1000000) then bif decide (0≤idCmp (fi 0 (List.getD ss (Int.toNat (IntKind.wrap .i64 (i - 1))) D.nilp)) (fi 1 (List.getD ss (Int.toNat (IntKind.wrap .i64 (i - 1))) D.nilp)) (fi 0 (ss.getD i.toNat .nilp)) (fi 1 (ss.getD i.toNat .nilp)) (fl 2 (List.getD ss (Int.toNat (IntKind.wrap .i64 (i - 1))) D.nilp)) (fl 2 (ss.getD i.toNat .nilp))) then some (V.d (D.bool false),[(0,Obj.box [V.d (D.int .i64 og),V.d (D.int .i64 ep),V.d (D.int .i64 co),V.d (D.sl accSh na zas),V.d (D.sl mrkSh nm' ms),V.d (D.sl (Sh.agg [Sh.str,Sh.sl stepSh]) nb bs),V.d (D.sl (Sh.agg [Sh.int .i64,Sh.int .i64,Sh.sl hopSh,Sh.str,Sh.sl stepSh,Sh.int .i64,Sh.int .i64,Sh.sl hopSh,Sh.bool]) ns ss)])]) else Tree.outG (resume Md (callN Md (m+40)) n j 0 c79 { fr:=frame 74 [(0,V.ptr 0 0),(16,V.d (D.sl (Sh.agg [Sh.int .i64,Sh.int .i64,Sh.sl hopSh,Sh.str,Sh.sl stepSh,Sh.int .i64,Sh.int .i64,Sh.sl hopSh,Sh.bool]) ns ss)),(17,V.d (D.int .i64 (ss.length:Int))),(18,V.d (D.int .i64 (IntKind.wrap .i64 (i+1))))],ob:=[(0,Obj.box [V.d (D.int .i64 og),V.d (D.int .i64 ep),V.d (D.int .i64 co),V.d (D.sl accSh na zas),V.d (D.sl mrkSh nm' ms),V.d (D.sl (Sh.agg [Sh.str,Sh.sl stepSh]) nb bs),V.d (D.sl (Sh.agg [Sh.int .i64,Sh.int .i64,Sh.sl hopSh,Sh.str,Sh.sl stepSh,Sh.int .i64,Sh.int .i64,Sh.sl hopSh,Sh.bool]) ns ss)])] }) else none else none else Tree.outG (resume Md (callN Md (m+40)) n j 0 c79 { fr:=frame 74 [(0,V.ptr 0 0),(16,V.d (D.sl (Sh.agg [Sh.int .i64,Sh.int .i64,Sh.sl hopSh,Sh.str,Sh.sl stepSh,Sh.int .i64,Sh.int .i64,Sh.sl hopSh,Sh.bool]) ns ss)),(17,V.d (D.int .i64 (ss.length:Int))),(18,V.d (D.int .i64 (IntKind.wrap .i64 (i+1))))],ob:=[(0,Obj.box [V.d (D.int .i64 og),V.d (D.int .i64 ep),V.d (D.int .i64 co),V.d (D.sl accSh na zas),V.d (D.sl mrkSh nm' ms),V.d (D.sl (Sh.agg [Sh.str,Sh.sl stepSh]) nb bs),V.d (D.sl (Sh.agg [Sh.int .i64,Sh.int .i64,Sh.sl hopSh,Sh.str,Sh.sl stepSh,Sh.int .i64,Sh.int .i64,Sh.sl hopSh,Sh.bool]) ns ss)])] }) else none else none else none else some (V.d (D.bool true),[(0,Obj.box [V.d (D.int .i64 og),V.d (D.int .i64 ep),V.d (D.int .i64 co),V.d (D.sl accSh na zas),V.d (D.sl mrkSh nm' ms),V.d (D.sl (Sh.agg [Sh.str,Sh.sl stepSh]) nb bs),V.d (D.sl (Sh.agg [Sh.int .i64,Sh.int .i64,Sh.sl hopSh,Sh.str,Sh.sl stepSh,Sh.int .i64,Sh.int .i64,Sh.sl hopSh,Sh.bool]) ns ss)])]):=by kernel_rfl
open Go Go.AM
set_option maxRecDepth 20000
def wantM(s:Int):Int:=fi 0 (List.getD [D.int .i64 0,D.int .i64 0,D.int .i64 1,D.int .i64 2,D.int .i64 3] s.toNat .nilp)
def keyM(rt nn:Int)(hops:List D)(k:Nat):List UInt8:=bif keyOk rt nn hops (k:Int) then keyN rt nn hops (k:Int) else []
def markM(rt nn:Int)(hops steps parts:List D)(k:Nat):D:= .agg [.str (keyM rt nn hops k),.int .i64 (fi 0 (steps.getD k .nilp)),.str (fs 1 (steps.getD k .nilp)),.int .i64 (fi 2 (steps.getD k .nilp)),.int .i64 (wantM (fi 0 (parts.getD k .nilp)))]
def askM(steps parts:List D)(k:Nat):Bool:=(fs 4 (steps.getD k .nilp)==[])&&(wantM (fi 0 (parts.getD k .nilp)) != 0)
def stepM(rt nn:Int)(hops steps parts:List D)(kv:List (D×D))(k:Nat):List (D×D):=bif askM steps parts k then kvSet (.str (keyM rt nn hops k)) (markM rt nn hops steps parts k) kv else kv
def partRun(steps parts:List D)(k:Nat):Bool:=decide (k<steps.length)&&(!(fs 4 (steps.getD k .nilp)==[])||(decide (0≤fi 0 (parts.getD k .nilp)∧fi 0 (parts.getD k .nilp)<5)))
def foldM(rt nn:Int)(hops steps parts:List D):Nat→Nat→List (D×D)→List (D×D)
 | 0,_,kv=>kv
 | d+1,k,kv=>foldM rt nn hops steps parts d (k+1) (stepM rt nn hops steps parts kv k)
theorem lp104b(m n j:Nat)(ns:Bool)(ss:List D)(i:Int)(rt nn st wy:Int)(n1 n2 n3 fc:Bool)(hops steps parts:List D)(nm:List UInt8)(hl:parts.length≤1000000)(hr: ∀q,q<parts.length→partRun steps parts q=true):
  ∀d k h kv,k+d=parts.length→d<h→(resumeL Md (callN Md (m+40)) n [(0,j),(1,h)] c80 (v104b ns ss kv i rt nn st wy n1 n2 n3 fc hops steps parts nm (k:Nat))).eval
   =(resume Md (callN Md (m+40)) n j 0 c80 (v104 ns ss (foldM rt nn hops steps parts d k kv) (IntKind.wrap .i64 (i+1)))).eval:=by
 intro d
 induction d with
 | zero=>
  intro k h kv hk hh
  cases h with
  | zero=>omega
  | succ h=>
   have:k=parts.length:=by omega
   subst this
   rw [y104b]
   exact cf (dec_end _)
 | succ d ih=>
  intro k h kv hk hh
  cases h with
  | zero=>omega
  | succ h=>
   have hlt:k<parts.length:=by omega
   have hp:=hr k hlt
   unfold partRun at hp
   simp only [Bool.and_eq_true,decide_eq_true_eq] at hp
   have next:=ih (k+1) h (stepM rt nn hops steps parts kv k) (by omega) (by omega)
   rw [y104b]
   simp only [Int.toNat_natCast,wrap_up hlt hl]
   refine (ct (dec_lt hlt)).trans ((ct (dec_ix hlt)).trans ((ct (dec_ix hp.1)).trans ?_))
   have hf: ∀kv',stepM rt nn hops steps parts kv k=kv'→foldM rt nn hops steps parts (d+1) k kv=foldM rt nn hops steps parts d (k+1) kv':=fun kv' e=>by rw [←e];rfl
   cases h1:(fs 4 (steps.getD k .nilp)==[])
   ·have hs:stepM rt nn hops steps parts kv k=kv:=by
     unfold stepM askM
     rw [h1];rfl
    rw [hf _ hs]
    rw [hs] at next
    exact next
   ·have h2:=hp.2
    rw [h1] at h2
    refine (ct rfl).trans ?_
    refine (ct h2).trans ?_
    cases h3:(wantM (fi 0 (parts.getD k .nilp)) != 0)
    ·have hs:stepM rt nn hops steps parts kv k=kv:=by
      unfold stepM askM
      rw [h1,h3];rfl
     rw [hf _ hs]
     rw [hs] at next
     exact (cf h3).trans next
    ·have hs:stepM rt nn hops steps parts kv k=kvSet (.str (keyM rt nn hops k)) (markM rt nn hops steps parts k) kv:=by
      unfold stepM askM
      rw [h1,h3];rfl
     rw [hf _ hs]
     rw [hs] at next
     exact (ct h3).trans ((ct h2).trans next)
def sagaM(kv:List (D×D))(x:D):List (D×D):=foldM (fi 0 x) (fi 1 x) (fl 2 x) (fl 4 x) (fl 7 x) (fl 7 x).length 0 kv
def marksKV(ss:List D):List (D×D):=ss.foldl sagaM []
def sagaRun(x:D):Bool:=decide ((fl 7 x).length≤1000)&&allN (partRun (fl 4 x) (fl 7 x)) (fl 7 x).length
def marksRun(ss:List D):Bool:=decide (ss.length≤1000000)&&allN (fun i=>sagaRun (ss.getD i .nilp)) ss.length
theorem lp104(m n:Nat)(ns:Bool)(ss:List D)(hl:ss.length≤1000000)(hr: ∀i,i<ss.length→sagaRun (ss.getD i .nilp)=true)(hn:1000<n):
  ∀d i j kv,i+d=ss.length→d<j→kv=(ss.take i).foldl sagaM []→(resume Md (callN Md (m+40)) n j 0 c80 (v104 ns ss kv (i:Nat))).eval=some (.mp 832,[(832,AM.Obj.map Sh.str mrkSh (marksKV ss))]):=by
 intro d
 induction d with
 | zero=>
  intro i j kv hi hj hk
  cases j with
  | zero=>omega
  | succ j=>
   have:i=ss.length:=by omega
   subst this
   rw [List.take_length] at hk
   have hk:marksKV ss=kv:=hk.symm
   rw [y104,hk]
   exact cf (dec_end _)
 | succ d ih=>
  intro i j kv hi hj hk
  cases j with
  | zero=>omega
  | succ j=>
   have hlt:i<ss.length:=by omega
   have hs:=hr i hlt
   unfold sagaRun at hs
   rw [Bool.and_eq_true,decide_eq_true_eq,allN_iff] at hs
   have next:=ih (i+1) j (sagaM kv (ss.getD i .nilp)) (by omega) (by omega) (by
    rw [List.take_add_one,List.getElem?_eq_getElem hlt,List.foldl_append,←hk,List.getD_eq_getElem?_getD,List.getElem?_eq_getElem hlt];rfl)
   have inner:=lp104b m n j ns ss (i:Nat) (fi 0 (ss.getD i .nilp)) (fi 1 (ss.getD i .nilp)) (fi 5 (ss.getD i .nilp)) (fi 6 (ss.getD i .nilp)) (fn 2 (ss.getD i .nilp)) (fn 4 (ss.getD i .nilp)) (fn 7 (ss.getD i .nilp)) (fb 8 (ss.getD i .nilp)) (fl 2 (ss.getD i .nilp)) (fl 4 (ss.getD i .nilp)) (fl 7 (ss.getD i .nilp)) (fs 3 (ss.getD i .nilp)) (by omega) hs.2 _ 0 n kv (Nat.zero_add _) (by omega)
   rw [wrap_up hlt hl] at inner
   rw [y104]
   simp only [Int.toNat_natCast]
   exact (ct (dec_lt hlt)).trans ((ct (dec_ix hlt)).trans (inner.trans next))
theorem rn104(m n:Nat)(ns:Bool)(ss:List D)(hr:marksRun ss=true)(hn:ss.length+1000<n):(enterM Md (callN Md (m+40)) n c80 [.d (.sl sgSh ns ss)] []).eval=some (.mp 832,[(832,AM.Obj.map Sh.str mrkSh (marksKV ss))]):=by
 unfold marksRun at hr
 rw [Bool.and_eq_true,decide_eq_true_eq,allN_iff] at hr
 rw [x104]
 exact lp104 m n ns ss hr.1 hr.2 (by omega) ss.length 0 n [] (by omega) (by omega) rfl
def C104(args:List V)(ob:Obs):Tree (V×Obs):=
 match args,ob with
 | [.d (.sl e _ ss)],[]=>match Sh.beq e sgSh with
  | true=> .ite (marksRun ss) (fun _=> .ret (.mp 832,[(832,AM.Obj.map Sh.str mrkSh (marksKV ss))])) (fun _=> .stuck)
  | false=> .stuck
 | _,_=> .stuck
theorem fn104{P:Program}(hm:P.follows .mixedOrders=true)(h0:EnvOK P Md):FnOK P 80 C104:=FnOK.run hm h0 fun args ob r h=>by
 unfold C104 at h
 split at h
 ·rename_i e ns ss
  split at h
  ·rename_i hb
   have hb0:=Sh.beq_eq hb
   subst hb0
   obtain ⟨hg,h'⟩:=eval_guard h
   clear h
   cases h'
   exact ⟨(ss.length+1001)+1,by rw [callN_succ (fn:=c80) rfl];exact rn104 (ss.length+961) (ss.length+1001) ns ss hg (by omega)⟩
  ·cases h
 ·cases h
theorem rn59(m n:Nat)(r q:Int)(nil:Bool)(es:List D):(enterM Md (callN Md (m+40)) n c84 [.d (.agg [.int .i64 r,.int .i64 q,.sl hopSh nil es])] []).out=some [.int .i64 (orgOfId r q es)]:=by
 rw [x59]
 unfold orgOfId
 cases h:idOk r q es
 ·rfl
 ·have h4:=(idOk_iff.1 h).2.1
  have ho:(orgs r es).length=es.length+1:=by unfold orgs;rw [List.length_cons,List.length_map]
  simp only [cond_true,ho]
  refine (cf (beq_eq_false_iff_ne.2 (by omega))).trans ?_
  have hl:((es.length+1:Nat):Int) - 1=(es.length:Int):=by omega
  rw [hl,wrap_i64 (n:=(es.length:Int)) (by omega) (by omega)]
  refine (ct (decide_eq_true (by omega))).trans ?_
  rw [Int.toNat_natCast]
def cmpS(x y:D):Int:=idCmp (fi 0 x) (fi 1 x) (fi 0 y) (fi 1 y) (fl 2 x) (fl 2 y)
def sgLess(ss:List D)(i:Nat):Bool:=decide (i=0)|| !decide (0≤cmpS (ss.getD (i - 1) .nilp) (ss.getD i .nilp))
def mayS(x:D):Bool:=mayOk (fi 0 x) (fi 1 x) (fi 5 x) (fi 6 x) (fb 8 x) (fl 2 x) (fl 4 x) (fl 7 x) (fs 3 x)
def sagaAt(og co:Int)(ss:List D)(i:Nat):Bool:=mayS (ss.getD i .nilp)&&(!(orgOfId (fi 0 (ss.getD i .nilp)) (fi 1 (ss.getD i .nilp)) (fl 2 (ss.getD i .nilp)) != og)&&(!((((fl 2 (ss.getD i .nilp)).length:Int)==0)&&decide (co<fi 1 (ss.getD i .nilp)))&&sgLess ss i))
def sagasOk(og co:Int)(ss:List D):Bool:= !decide (24<(ss.length:Int))&&allN (sagaAt og co ss) ss.length
def sgIn(x:D):Bool:=decide ((fl 4 x).length≤1000000)&&(decide ((fl 7 x).length≤1000000)&&decide ((fl 2 x).length≤1000000))
theorem sg_at{α:Type}{ss:List D}{i:Nat}(hi:i<ss.length)(hl:ss.length≤1000000)(hp: ∀k,k<ss.length→(fl 2 (ss.getD k .nilp)).length≤1000000)(a b:Option α):
  (bif decide (0<(i:Int)) then bif decide (0≤IntKind.wrap .i64 ((i:Int) - 1)∧IntKind.wrap .i64 ((i:Int) - 1)<(ss.length:Int)) then bif decide ((fl 2 (ss.getD (Int.toNat (IntKind.wrap .i64 ((i:Int) - 1))) .nilp)).length≤1000000) then
   bif decide (0≤idCmp (fi 0 (ss.getD (Int.toNat (IntKind.wrap .i64 ((i:Int) - 1))) .nilp)) (fi 1 (ss.getD (Int.toNat (IntKind.wrap .i64 ((i:Int) - 1))) .nilp)) (fi 0 (ss.getD i .nilp)) (fi 1 (ss.getD i .nilp)) (fl 2 (ss.getD (Int.toNat (IntKind.wrap .i64 ((i:Int) - 1))) .nilp)) (fl 2 (ss.getD i .nilp))) then a else b else none else none else b)
   =bif sgLess ss i then b else a:=by
 unfold sgLess cmpS
 by_cases h0:i=0
 ·subst h0
  refine (cf (decide_eq_false (by omega))).trans ?_
  rfl
 ·rw [decide_eq_false h0,wrap_pred (by omega) (by omega)]
  refine (ct (decide_eq_true (by omega))).trans ?_
  refine (ct (dec_ix (show i - 1<ss.length by omega))).trans ?_
  rw [Int.toNat_natCast]
  refine (ct (decide_eq_true (hp _ (by omega)))).trans ?_
  generalize decide (0≤idCmp (fi 0 (ss.getD (i - 1) .nilp)) (fi 1 (ss.getD (i - 1) .nilp)) (fi 0 (ss.getD i .nilp)) (fi 1 (ss.getD i .nilp)) (fl 2 (ss.getD (i - 1) .nilp)) (fl 2 (ss.getD i .nilp)))=c
  cases c <;> rfl
abbrev HS(og ep co:Int)(na nm' nb ns:Bool)(zas ms bs ss:List D):AM.Obj:= .box [.d (.int .i64 og),.d (.int .i64 ep),.d (.int .i64 co),.d (.sl accSh na zas),.d (.sl mrkSh nm' ms),.d (.sl defSh nb bs),.d (.sl sgSh ns ss)]
theorem scan_boolV(p:Nat→Bool)(o:Obs)(n:Nat):scan (fun i=> !p i) (fun _=>((.d (.bool false),o):V×Obs)) (.d (.bool true),o) n 0=(.d (.bool (allN p n)),o):=by
 unfold allN
 have: ∀k i,scan (fun i=> !p i) (fun _=>((.d (.bool false),o):V×Obs)) (.d (.bool true),o) k i=(.d (.bool (scan (fun i=> !p i) (fun _=>false) true k i)),o):=by
  intro k
  induction k with
  | zero=>intro i;rfl
  | succ k ih=>
   intro i
   simp only [scan]
   cases p i
   ·rfl
   ·exact ih (i+1)
 exact this n 0
theorem rn103(m n:Nat)(og ep co:Int)(na nm' nb ns:Bool)(zas ms bs ss:List D)(hr:allN (fun i=>sgIn (ss.getD i .nilp)) ss.length=true)(hn:30≤n):
  (enterM Md (callN Md (m+40)) n c79 [.ptr 0 0] [(0,HS og ep co na nm' nb ns zas ms bs ss)]).outG=some (.d (.bool (sagasOk og co ss)),[(0,HS og ep co na nm' nb ns zas ms bs ss)]):=by
 rw [allN_iff] at hr
 have h4: ∀k,k<ss.length→(fl 4 (ss.getD k .nilp)).length≤1000000∧(fl 7 (ss.getD k .nilp)).length≤1000000∧(fl 2 (ss.getD k .nilp)).length≤1000000:=fun k hk=>by
  have:=hr k hk
  unfold sgIn at this
  simpa only [Bool.and_eq_true,decide_eq_true_eq] using this
 refine (x103 m n og ep co na nm' nb ns zas ms bs ss).trans ?_
 unfold sagasOk
 by_cases h1:24<(ss.length:Int)
 ·rw [decide_eq_true h1];rfl
 ·rw [decide_eq_false h1]
  refine (cf rfl).trans ?_
  have hl:ss.length≤1000000:=by omega
  have:=scan_loop (fun j i=>(resume Md (callN Md (m+40)) n j 0 c79 (v103 og ep co na nm' nb ns zas ms bs ss (i:Nat))).outG) ss.length (fun i=> !sagaAt og co ss i) (fun _=>((.d (.bool false),[(0,HS og ep co na nm' nb ns zas ms bs ss)]):V×Obs)) (.d (.bool true),[(0,HS og ep co na nm' nb ns zas ms bs ss)])
   (fun j i hi=> ?_) (fun j=> ?_) ss.length 0 n (by omega) (by omega)
  ·refine this.trans ?_
   rw [scan_boolV]
   rfl
  ·rw [y103]
   simp only [Int.toNat_natCast,wrap_up hi hl]
   refine (ct (dec_lt hi)).trans ((ct (dec_ix hi)).trans ((ct (decide_eq_true (h4 i hi).1)).trans ((ct (decide_eq_true (h4 i hi).2.1)).trans ?_)))
   rw [sg_at hi hl (fun k hk=>(h4 k hk).2.2)]
   unfold sagaAt mayS
   cases mayOk (fi 0 (ss.getD i .nilp)) (fi 1 (ss.getD i .nilp)) (fi 5 (ss.getD i .nilp)) (fi 6 (ss.getD i .nilp)) (fb 8 (ss.getD i .nilp)) (fl 2 (ss.getD i .nilp)) (fl 4 (ss.getD i .nilp)) (fl 7 (ss.getD i .nilp)) (fs 3 (ss.getD i .nilp))
   ·rfl
   ·cases (orgOfId (fi 0 (ss.getD i .nilp)) (fi 1 (ss.getD i .nilp)) (fl 2 (ss.getD i .nilp)) != og)
    ·cases (((fl 2 (ss.getD i .nilp)).length:Int)==0)
     ·cases sgLess ss i <;> rfl
     ·cases decide (co<fi 1 (ss.getD i .nilp))
      ·cases sgLess ss i <;> rfl
      ·rfl
    ·rfl
  ·rw [y103]
   exact cf (dec_end _)
def C103(args:List V)(ob:Obs):Tree (V×Obs):=
 match args,ob with
 | [.ptr p q],[(k,.box [.d (.int .i64 og),.d (.int .i64 ep),.d (.int .i64 co),.d (.sl ea na zas),.d (.sl em nm ms),.d (.sl eb nb bs),.d (.sl es ns ss)])]=>
  match at00 p q&&(Nat.beq k 0&&(Sh.beq ea accSh&&(Sh.beq em mrkSh&&(Sh.beq eb defSh&&Sh.beq es sgSh)))) with
  | true=> .ite (allN (fun i=>sgIn (ss.getD i .nilp)) ss.length) (fun _=> .ret (.d (.bool (sagasOk og co ss)),[(k,.box [.d (.int .i64 og),.d (.int .i64 ep),.d (.int .i64 co),.d (.sl ea na zas),.d (.sl em nm ms),.d (.sl eb nb bs),.d (.sl es ns ss)])])) (fun _=> .stuck)
  | false=> .stuck
 | _,_=> .stuck
theorem fn103{P:Program}(hm:P.follows .mixedOrders=true)(h0:EnvOK P Md):FnOK P 79 C103:=FnOK.runG hm h0 fun args ob r h=>by
 unfold C103 at h
 split at h
 ·rename_i p q k og ep co ea na zas em nm ms eb nb bs es ns ss
  split at h
  ·rename_i hb
   simp only [Bool.and_eq_true] at hb
   obtain ⟨hb1,hb2,hb3,hb4,hb5,hb6⟩:=hb
   obtain ⟨rfl,rfl⟩:=at00_eq hb1
   have hb2:=Nat.eq_of_beq_eq_true hb2
   have hb3:=Sh.beq_eq hb3
   have hb4:=Sh.beq_eq hb4
   have hb5:=Sh.beq_eq hb5
   have hb6:=Sh.beq_eq hb6
   subst hb2 hb3 hb4 hb5 hb6
   obtain ⟨hg,h⟩:=eval_guard h
   cases h
   exact ⟨40+1,by rw [callN_succ (fn:=c79) rfl];exact rn103 0 40 og ep co na nm nb ns zas ms bs ss hg (by omega)⟩
  ·cases h
 ·cases h
theorem pure59b{P:Program}(hm:P.follows .mixedOrders=true)(h0:EnvOK P Md):PureOK P 84 g53b:=PureOK.run hm h0 fun ds rs h=>by
 unfold g53b at h
 split at h
 ·rename_i r q e0 nil es
  split at h
  ·rename_i hb
   have hb0:=Sh.beq_eq hb
   subst hb0
   cases h
   exact ⟨59+1,by rw [callN_succ (fn:=c84) rfl];exact rn59 19 59 r q nil es⟩
  ·cases h
 ·cases h
def Mg:Env:=((Md.pureAt 84 true g53b).genAt 80 C104).genAt 79 C103
theorem okMg{P:Program}(hm:P.follows .mixedOrders=true)(h:EnvOK P Md):EnvOK P Mg:=((h.pureAt (pure59b hm h)).genAt (fn104 hm h)).genAt (fn103 hm h)
theorem x51(m n:Nat)(og ep co:Int)(na nm' nb ns:Bool)(zas ms bs ss:List D):Tree.out (enterM Mg (callN Mg (m+40)) n c27 [.d (.agg [.int .i64 og,.int .i64 ep,.int .i64 co,.sl accSh na zas,.sl mrkSh nm' ms,.sl defSh nb bs,.sl sgSh ns ss])] [])=bif decide (og<0) then some [D.int .i64 230] else bif decide (16≤og) then some [D.int .i64 230] else bif decide (ep<0) then some [D.int .i64 230] else bif decide (1000000000<ep) then some [D.int .i64 230] else bif decide (co<0) then some [D.int .i64 230] else bif decide (999999<co) then some [D.int .i64 230] else bif (bif ledOk zas ms then (0:Int) else (2:Int)) != 0 then some [D.int .i64 230] else bif (bif bookOk bs then (0:Int) else (2:Int)) != 0 then some [D.int .i64 230] else bif allN (fun (i:Nat) ↦ sgIn (ss.getD i .nilp)) (ss.length) then bif !sagasOk og co ss then some [D.int .i64 230] else bif marksRun ss then bif (↑(List.length (marksKV ss)):Int) != (ms.length:Int) then some [D.int .i64 230] else Tree.out (resume Mg (callN Mg (m+40)) n n 0 c27 { fr:=frame 78 [(4,V.mp 3584),(65,V.d (D.sl mrkSh nm' ms)),(66,V.d (D.int .i64 (ms.length:Int))),(67,V.d (D.int .i64 0))],ob:=[(128,Obj.box [V.d (D.int .i64 og),V.d (D.int .i64 ep),V.d (D.int .i64 co),V.d (D.sl accSh na zas),V.d (D.sl mrkSh nm' ms),V.d (D.sl (Sh.agg [Sh.str,Sh.sl stepSh]) nb bs),V.d (D.sl (Sh.agg [Sh.int .i64,Sh.int .i64,Sh.sl hopSh,Sh.str,Sh.sl stepSh,Sh.int .i64,Sh.int .i64,Sh.sl hopSh,Sh.bool]) ns ss)]),(640,Obj.box [V.d (D.int .i64 og),V.d (D.int .i64 ep),V.d (D.int .i64 co),V.d (D.sl accSh na zas),V.d (D.sl mrkSh nm' ms),V.d (D.sl (Sh.agg [Sh.str,Sh.sl stepSh]) nb bs),V.d (D.sl (Sh.agg [Sh.int .i64,Sh.int .i64,Sh.sl hopSh,Sh.str,Sh.sl stepSh,Sh.int .i64,Sh.int .i64,Sh.sl hopSh,Sh.bool]) ns ss)]),(3584,AM.Obj.map Sh.str mrkSh (marksKV ss))] }) else none else none:=by kernel_rfl
theorem x116(m n:Nat)(og ep co:Int)(na nm' nb ns:Bool)(zas ms bs ss:List D)(rt nn st wy:Int)(n1 n2 n3 fc:Bool)(hops steps parts:List D)(nm:List UInt8)(i:Int):Tree.out (enterM Mg (callN Mg (m+40)) n c86 [.d (.agg [.int .i64 og,.int .i64 ep,.int .i64 co,.sl accSh na zas,.sl mrkSh nm' ms,.sl defSh nb bs,.sl sgSh ns ss]),.d (sagaD rt nn st wy n1 n2 n3 fc hops steps parts nm),.d (.int .i64 i)] [])=bif decide (0≤i∧i<(parts.length:Int)) then bif fi 0 (parts.getD i.toNat .nilp)==2 then bif decide (0≤i∧i<(steps.length:Int)) then bif !fs 4 (steps.getD i.toNat .nilp)==[] then some [D.int .i64 0,D.bool true] else bif decide (ms.length≤1000000) then bif decide (0≤nameIdx (bif keyOk rt nn hops i then keyN rt nn hops i else []) ms) then bif decide (0≤nameIdx (bif keyOk rt nn hops i then keyN rt nn hops i else []) ms∧nameIdx (bif keyOk rt nn hops i then keyN rt nn hops i else []) ms<(ms.length:Int)) then bif decide (0≤i∧i<(steps.length:Int)) then bif fi 1 (List.getD ms (Int.toNat (nameIdx (bif keyOk rt nn hops i then keyN rt nn hops i else []) ms)) D.nilp)==fi 0 (steps.getD i.toNat .nilp)&&(fs 2 (List.getD ms (Int.toNat (nameIdx (bif keyOk rt nn hops i then keyN rt nn hops i else []) ms)) D.nilp)==fs 1 (steps.getD i.toNat .nilp)&&(fi 3 (List.getD ms (Int.toNat (nameIdx (bif keyOk rt nn hops i then keyN rt nn hops i else []) ms)) D.nilp)==fi 2 (steps.getD i.toNat .nilp)&&true)) then bif decide (0≤nameIdx (bif keyOk rt nn hops i then keyN rt nn hops i else []) ms∧nameIdx (bif keyOk rt nn hops i then keyN rt nn hops i else []) ms<(ms.length:Int)) then some [D.int .i64 1,D.bool (fi 4 (List.getD ms (Int.toNat (nameIdx (bif keyOk rt nn hops i then keyN rt nn hops i else []) ms)) D.nilp)==1)] else none else some [D.int .i64 1,D.bool false] else none else none else some [D.int .i64 1,D.bool false] else none else none else bif fi 0 (parts.getD i.toNat .nilp)==3 then bif decide (0≤i∧i<(steps.length:Int)) then bif !fs 4 (steps.getD i.toNat .nilp)==[] then some [D.int .i64 0,D.bool true] else bif decide (ms.length≤1000000) then bif decide (0≤nameIdx (bif keyOk rt nn hops i then keyN rt nn hops i else []) ms) then bif decide (0≤nameIdx (bif keyOk rt nn hops i then keyN rt nn hops i else []) ms∧nameIdx (bif keyOk rt nn hops i then keyN rt nn hops i else []) ms<(ms.length:Int)) then bif decide (0≤i∧i<(steps.length:Int)) then bif fi 1 (List.getD ms (Int.toNat (nameIdx (bif keyOk rt nn hops i then keyN rt nn hops i else []) ms)) D.nilp)==fi 0 (steps.getD i.toNat .nilp)&&(fs 2 (List.getD ms (Int.toNat (nameIdx (bif keyOk rt nn hops i then keyN rt nn hops i else []) ms)) D.nilp)==fs 1 (steps.getD i.toNat .nilp)&&(fi 3 (List.getD ms (Int.toNat (nameIdx (bif keyOk rt nn hops i then keyN rt nn hops i else []) ms)) D.nilp)==fi 2 (steps.getD i.toNat .nilp)&&true)) then bif decide (0≤nameIdx (bif keyOk rt nn hops i then keyN rt nn hops i else []) ms∧nameIdx (bif keyOk rt nn hops i then keyN rt nn hops i else []) ms<(ms.length:Int)) then some [D.int .i64 1,D.bool (fi 4 (List.getD ms (Int.toNat (nameIdx (bif keyOk rt nn hops i then keyN rt nn hops i else []) ms)) D.nilp)==2)] else none else some [D.int .i64 1,D.bool false] else none else none else some [D.int .i64 1,D.bool false] else none else none else bif fi 0 (parts.getD i.toNat .nilp)==4 then bif decide (0≤i∧i<(steps.length:Int)) then bif !fs 4 (steps.getD i.toNat .nilp)==[] then some [D.int .i64 0,D.bool true] else bif decide (ms.length≤1000000) then bif decide (0≤nameIdx (bif keyOk rt nn hops i then keyN rt nn hops i else []) ms) then bif decide (0≤nameIdx (bif keyOk rt nn hops i then keyN rt nn hops i else []) ms∧nameIdx (bif keyOk rt nn hops i then keyN rt nn hops i else []) ms<(ms.length:Int)) then bif decide (0≤i∧i<(steps.length:Int)) then bif fi 1 (List.getD ms (Int.toNat (nameIdx (bif keyOk rt nn hops i then keyN rt nn hops i else []) ms)) D.nilp)==fi 0 (steps.getD i.toNat .nilp)&&(fs 2 (List.getD ms (Int.toNat (nameIdx (bif keyOk rt nn hops i then keyN rt nn hops i else []) ms)) D.nilp)==fs 1 (steps.getD i.toNat .nilp)&&(fi 3 (List.getD ms (Int.toNat (nameIdx (bif keyOk rt nn hops i then keyN rt nn hops i else []) ms)) D.nilp)==fi 2 (steps.getD i.toNat .nilp)&&true)) then bif decide (0≤nameIdx (bif keyOk rt nn hops i then keyN rt nn hops i else []) ms∧nameIdx (bif keyOk rt nn hops i then keyN rt nn hops i else []) ms<(ms.length:Int)) then some [D.int .i64 1,D.bool (fi 4 (List.getD ms (Int.toNat (nameIdx (bif keyOk rt nn hops i then keyN rt nn hops i else []) ms)) D.nilp)==3)] else none else some [D.int .i64 1,D.bool false] else none else none else some [D.int .i64 1,D.bool false] else none else none else bif decide (0≤i∧i<(steps.length:Int)) then bif !fs 4 (steps.getD i.toNat .nilp)==[] then some [D.int .i64 0,D.bool true] else some [D.int .i64 0,D.bool true] else none else none:=by kernel_rfl
def v51(og ep co:Int)(na nm' nb ns:Bool)(zas ms bs ss:List D)(kv:List (D×D))(i:Int):St:= { fr:=frame 78 [(4,V.mp 3584),(65,V.d (D.sl mrkSh nm' ms)),(66,V.d (D.int .i64 (ms.length:Int))),(67,V.d (D.int .i64 i))],ob:=[(128,HS og ep co na nm' nb ns zas ms bs ss),(640,HS og ep co na nm' nb ns zas ms bs ss),(3584,AM.Obj.map Sh.str mrkSh kv)] }
theorem y51(m n j:Nat)(og ep co:Int)(na nm' nb ns:Bool)(zas ms bs ss:List D)(kv:List (D×D))(i:Int):Go.AM.Tree.out (resume Mg (callN Mg (m+40)) n (j+1) 0 c27 (v51 og ep co na nm' nb ns zas ms bs ss kv i))=bif decide (i<(↑(List.length ms):Int)) then bif decide ((0:Int)≤i∧i<(↑(List.length ms):Int)) then bif !(fs (0:Nat) (kvGet (D.str (fs (0:Nat) (List.getD ms (Int.toNat i) D.nilp))) (D.agg [D.str [],D.int IntKind.i64 (0:Int),D.str [],D.int IntKind.i64 (0:Int),D.int IntKind.i64 (0:Int)]) kv)==fs (0:Nat) (List.getD ms (Int.toNat i) D.nilp)&&(fi (1:Nat) (kvGet (D.str (fs (0:Nat) (List.getD ms (Int.toNat i) D.nilp))) (D.agg [D.str [],D.int IntKind.i64 (0:Int),D.str [],D.int IntKind.i64 (0:Int),D.int IntKind.i64 (0:Int)]) kv)==fi (1:Nat) (List.getD ms (Int.toNat i) D.nilp)&&(fs (2:Nat) (kvGet (D.str (fs (0:Nat) (List.getD ms (Int.toNat i) D.nilp))) (D.agg [D.str [],D.int IntKind.i64 (0:Int),D.str [],D.int IntKind.i64 (0:Int),D.int IntKind.i64 (0:Int)]) kv)==fs (2:Nat) (List.getD ms (Int.toNat i) D.nilp)&&(fi (3:Nat) (kvGet (D.str (fs (0:Nat) (List.getD ms (Int.toNat i) D.nilp))) (D.agg [D.str [],D.int IntKind.i64 (0:Int),D.str [],D.int IntKind.i64 (0:Int),D.int IntKind.i64 (0:Int)]) kv)==fi (3:Nat) (List.getD ms (Int.toNat i) D.nilp)&&(fi (4:Nat) (kvGet (D.str (fs (0:Nat) (List.getD ms (Int.toNat i) D.nilp))) (D.agg [D.str [],D.int IntKind.i64 (0:Int),D.str [],D.int IntKind.i64 (0:Int),D.int IntKind.i64 (0:Int)]) kv)==fi (4:Nat) (List.getD ms (Int.toNat i) D.nilp)&&true))))) then some [D.int IntKind.i64 (230:Int)] else Tree.out (resume Mg (callN Mg (m+(40:Nat))) n j (0:Nat) c27 { fr:=frame (78:Nat) [((4:Nat),V.mp (3584:Nat)),((65:Nat),V.d (D.sl mrkSh nm' ms)),((66:Nat),V.d (D.int IntKind.i64 (↑(List.length ms):Int))),((67:Nat),V.d (D.int IntKind.i64 (IntKind.wrap IntKind.i64 (i+(1:Int)))))],ob:=[((128:Nat),Obj.box [V.d (D.int IntKind.i64 og),V.d (D.int IntKind.i64 ep),V.d (D.int IntKind.i64 co),V.d (D.sl accSh na zas),V.d (D.sl mrkSh nm' ms),V.d (D.sl (Sh.agg [Sh.str,Sh.sl stepSh]) nb bs),V.d (D.sl (Sh.agg [Sh.int IntKind.i64,Sh.int IntKind.i64,Sh.sl hopSh,Sh.str,Sh.sl stepSh,Sh.int IntKind.i64,Sh.int IntKind.i64,Sh.sl hopSh,Sh.bool]) ns ss)]),((640:Nat),Obj.box [V.d (D.int IntKind.i64 og),V.d (D.int IntKind.i64 ep),V.d (D.int IntKind.i64 co),V.d (D.sl accSh na zas),V.d (D.sl mrkSh nm' ms),V.d (D.sl (Sh.agg [Sh.str,Sh.sl stepSh]) nb bs),V.d (D.sl (Sh.agg [Sh.int IntKind.i64,Sh.int IntKind.i64,Sh.sl hopSh,Sh.str,Sh.sl stepSh,Sh.int IntKind.i64,Sh.int IntKind.i64,Sh.sl hopSh,Sh.bool]) ns ss)]),((3584:Nat),AM.Obj.map Sh.str mrkSh kv)] }) else none else some [D.int IntKind.i64 (0:Int)]:=by kernel_rfl
theorem e100(m n:Nat)(r q:Int)(nil:Bool)(es:List D)(r' q':Int)(nil':Bool)(es':List D):Tree.out (enterM F5 (callN F5 (m+40)) n c85 [.d (.agg [.int .i64 r,.int .i64 q,.sl hopSh nil es]),.d (.agg [.int .i64 r',.int .i64 q',.sl hopSh nil' es'])] [])=bif r != r' then bif decide (r<r') then some [D.int .i64 (-1)] else bif decide (r'<r) then some [D.int .i64 1] else some [D.int .i64 0] else bif q != q' then bif decide (q<q') then some [D.int .i64 (-1)] else bif decide (q'<q) then some [D.int .i64 1] else some [D.int .i64 0] else Tree.out (resume F5 (callN F5 (m+40)) n n 0 c85 { fr:=frame 79 [(2,V.ptr 192 0),(3,V.ptr 256 0),(5,V.d (D.int .i64 0))],ob:=[(192,Obj.box [V.d (D.int .i64 r),V.d (D.int .i64 q),V.d (D.sl hopSh nil es)]),(256,Obj.box [V.d (D.int .i64 r'),V.d (D.int .i64 q'),V.d (D.sl hopSh nil' es')])] }):=by kernel_rfl
def s100(r q:Int)(nil:Bool)(es:List D)(r' q':Int)(nil':Bool)(es':List D)(i:Int):St:= { fr:=frame 79 [(2,V.ptr 192 0),(3,V.ptr 256 0),(5,V.d (D.int .i64 i))],ob:=[(192,.box [V.d (D.int .i64 r),V.d (D.int .i64 q),V.d (D.sl hopSh nil es)]),(256,.box [V.d (D.int .i64 r'),V.d (D.int .i64 q'),V.d (D.sl hopSh nil' es')])] }
theorem l100(m n j:Nat)(r q:Int)(nil:Bool)(es:List D)(r' q':Int)(nil':Bool)(es':List D)(i:Int):Tree.out (resume F5 (callN F5 (m+40)) n (j+1) 0 c85 (s100 r q nil es r' q' nil' es' i))=bif decide (i<(↑(List.length es):Int)) then bif decide (i<(↑(List.length es'):Int)) then bif decide ((0:Int)≤i∧i<(↑(List.length es):Int)) then bif decide ((0:Int)≤i∧i<(↑(List.length es'):Int)) then bif fi 0 (List.getD es (Int.toNat i) D.nilp) != fi 0 (List.getD es' (Int.toNat i) D.nilp) then bif decide (fi 0 (List.getD es (Int.toNat i) D.nilp)<fi 0 (List.getD es' (Int.toNat i) D.nilp)) then some [D.int .i64 (-1:Int)] else bif decide (fi 0 (List.getD es' (Int.toNat i) D.nilp)<fi 0 (List.getD es (Int.toNat i) D.nilp)) then some [D.int .i64 1] else some [D.int .i64 0] else bif fi 1 (List.getD es (Int.toNat i) D.nilp) != fi 1 (List.getD es' (Int.toNat i) D.nilp) then bif decide (fi 1 (List.getD es (Int.toNat i) D.nilp)<fi 1 (List.getD es' (Int.toNat i) D.nilp)) then some [D.int .i64 (-1:Int)] else bif decide (fi 1 (List.getD es' (Int.toNat i) D.nilp)<fi 1 (List.getD es (Int.toNat i) D.nilp)) then some [D.int .i64 1] else some [D.int .i64 0] else Tree.out (resume F5 (callN F5 (m+40)) n j (0:Nat) c85 (s100 r q nil es r' q' nil' es' (IntKind.wrap .i64 (i+(1:Int))))) else none else none else bif decide ((↑(List.length es):Int)<(↑(List.length es'):Int)) then some [D.int .i64 (-1:Int)] else bif decide ((↑(List.length es'):Int)<(↑(List.length es):Int)) then some [D.int .i64 1] else some [D.int .i64 0] else bif decide ((↑(List.length es):Int)<(↑(List.length es'):Int)) then some [D.int .i64 (-1:Int)] else bif decide ((↑(List.length es'):Int)<(↑(List.length es):Int)) then some [D.int .i64 1] else some [D.int .i64 0]:=by kernel_rfl
def numb(x y:Int):Int:=bif decide (x<y) then -1 else bif decide (y<x) then 1 else 0
def refCmp(r q:Int)(es:List D)(r' q':Int)(es':List D):Int:=
 bif r != r' then numb r r' else bif q != q' then numb q q' else
  scan (fun i=>(fi 0 (es.getD i .nilp) != fi 0 (es'.getD i .nilp))||(fi 1 (es.getD i .nilp) != fi 1 (es'.getD i .nilp)))
   (fun i=>bif fi 0 (es.getD i .nilp) != fi 0 (es'.getD i .nilp) then numb (fi 0 (es.getD i .nilp)) (fi 0 (es'.getD i .nilp)) else numb (fi 1 (es.getD i .nilp)) (fi 1 (es'.getD i .nilp)))
   (numb es.length es'.length) (min es.length es'.length) 0
theorem refCmp_self(r q:Int)(es:List D):refCmp r q es r q es=0:=by
 unfold refCmp
 have h1: ∀x:Int,(x != x)=false:=fun x=>by simp
 have h2: ∀x:Int,numb x x=0:=fun x=>by unfold numb;simp
 rw [h1,h1,scan_none]
 ·exact h2 _
 ·intro j _ _
  rw [h1,h1];rfl
theorem run100(m n:Nat)(r q:Int)(nil:Bool)(es:List D)(r' q':Int)(nil':Bool)(es':List D)(hl:es.length≤1000000)(hn:es.length<n):
  (enterM F5 (callN F5 (m+40)) n c85 [.d (.agg [.int .i64 r,.int .i64 q,.sl hopSh nil es]),.d (.agg [.int .i64 r',.int .i64 q',.sl hopSh nil' es'])] []).out=some [.int .i64 (refCmp r q es r' q' es')]:=by
 rw [e100]
 unfold refCmp
 have three: ∀x y:Int,(bif decide (x<y) then some [D.int .i64 (-1)] else bif decide (y<x) then some [D.int .i64 1] else some [D.int .i64 0])=some [D.int .i64 (numb x y)]:=by
  intro x y
  unfold numb
  cases decide (x<y) <;> cases decide (y<x) <;> rfl
 rw [three,three]
 cases (r != r')
 ·cases (q != q')
  ·have:=scan_loop (fun j i=>(resume F5 (callN F5 (m+40)) n j 0 c85 (s100 r q nil es r' q' nil' es' (i:Nat))).out) (min es.length es'.length) (fun i=>(fi 0 (es.getD i .nilp) != fi 0 (es'.getD i .nilp))||(fi 1 (es.getD i .nilp) != fi 1 (es'.getD i .nilp)))
    (fun i=>[.int .i64 (bif fi 0 (es.getD i .nilp) != fi 0 (es'.getD i .nilp) then numb (fi 0 (es.getD i .nilp)) (fi 0 (es'.getD i .nilp)) else numb (fi 1 (es.getD i .nilp)) (fi 1 (es'.getD i .nilp)))]) [.int .i64 (numb es.length es'.length)]
    (fun j i hi=> ?_) (fun j=> ?_) (min es.length es'.length) 0 n (by omega) (by omega)
   ·refine this.trans ?_
    rw [scan_map (fun b:Int=>[D.int .i64 b])]
    rfl
   ·have hi1:i<es.length:=by omega
    have hi2:i<es'.length:=by omega
    rw [l100]
    simp only [Int.toNat_natCast,wrap_up hi1 hl,dec_lt hi1,dec_ix hi1,dec_lt hi2,dec_ix hi2,cond_true,three]
    cases (fi 0 (es.getD i .nilp) != fi 0 (es'.getD i .nilp))
    ·cases (fi 1 (es.getD i .nilp) != fi 1 (es'.getD i .nilp)) <;> rfl
    ·rfl
   ·rw [l100]
    simp only [three]
    by_cases h:es.length≤es'.length
    ·rw [Nat.min_eq_left h]
     simp only [dec_end,cond_false]
    ·rw [Nat.min_eq_right (by omega)]
     simp only [dec_end,cond_false,dec_lt (show es'.length<es.length by omega),cond_true]
  ·rfl
 ·rfl
def g100:List D→Tree (List D)
 | [.agg [.int .i64 r,.int .i64 q,.sl e _ es],.agg [.int .i64 r',.int .i64 q',.sl e' _ es']]=>match Sh.beq e hopSh&&Sh.beq e' hopSh with
  | true=> .ite (decide (es.length≤1000000)) (fun _=> .ret [.int .i64 (refCmp r q es r' q' es')]) (fun _=> .stuck)
  | false=> .stuck
 | _=> .stuck
theorem pure100{P:Program}(hm:P.follows .mixedOrders=true)(h0:EnvOK P F5):PureOK P 85 g100:=PureOK.run hm h0 fun ds rs h=>by
 unfold g100 at h
 split at h
 ·rename_i r q e nil es r' q' e' nil' es'
  split at h
  ·rename_i hb
   simp only [Bool.and_eq_true] at hb
   obtain ⟨hb1,hb2⟩:=hb
   have hb1:=Sh.beq_eq hb1
   have hb2:=Sh.beq_eq hb2
   subst hb1 hb2
   obtain ⟨hg,h⟩:=eval_guard h
   cases h
   exact ⟨(es.length+40)+1,by rw [callN_succ (fn:=c85) rfl];exact run100 es.length (es.length+40) r q nil es r' q' nil' es' (of_decide_eq_true hg) (by omega)⟩
  ·cases h
 ·cases h
def noteD(k r q:Int)(nil:Bool)(hops:List D)(df:List UInt8)(w:Int):D:= .agg [.int .i64 k,.int .i64 r,.int .i64 q,.sl hopSh nil hops,.str df,.int .i64 w]
def Mh:Env:=(Mg.pureAt 83 true g36).pureAt 85 true g100
theorem okMh{P:Program}(hm:P.follows .mixedOrders=true)(h4:EnvOK P F4)(h5:EnvOK P F5)(h:EnvOK P Mg):EnvOK P Mh:=(h.pureAt (pure36 hm h4)).pureAt (pure100 hm h5)
def hasM(ms:List D)(key:List UInt8)(w:Int)(x:D):Bool:=decide (0≤nameIdx key ms)&&((fi 1 (ms.getD (nameIdx key ms).toNat .nilp)==fi 0 x&&(fs 2 (ms.getD (nameIdx key ms).toNat .nilp)==fs 1 x&&(fi 3 (ms.getD (nameIdx key ms).toNat .nilp)==fi 2 x&&true)))&&(fi 4 (ms.getD (nameIdx key ms).toNat .nilp)==w))
theorem ownm_at(ms:List D)(key:List UInt8)(w:Int)(x:D)(c:Bool)(hc:c=true)(hm:ms.length≤1000000):
  (bif decide (ms.length≤1000000) then bif decide (0≤nameIdx key ms) then bif decide (0≤nameIdx key ms∧nameIdx key ms<(ms.length:Int)) then bif c then bif fi 1 (ms.getD (nameIdx key ms).toNat .nilp)==fi 0 x&&(fs 2 (ms.getD (nameIdx key ms).toNat .nilp)==fs 1 x&&(fi 3 (ms.getD (nameIdx key ms).toNat .nilp)==fi 2 x&&true)) then
   bif decide (0≤nameIdx key ms∧nameIdx key ms<(ms.length:Int)) then some [D.int .i64 1,D.bool (fi 4 (ms.getD (nameIdx key ms).toNat .nilp)==w)] else none else some [D.int .i64 1,D.bool false] else none else none else some [D.int .i64 1,D.bool false] else none)
   =some [.int .i64 1,.bool (hasM ms key w x)]:=by
 unfold hasM
 rw [decide_eq_true hm,hc]
 by_cases h:0≤nameIdx key ms
 ·have hp:=(idxOf_pos (show 0≤idxOf (fun x=>fs 0 x==key) ms from h)).1
  have hp:(nameIdx key ms).toNat<ms.length:=hp
  rw [decide_eq_true h,decide_eq_true (show 0≤nameIdx key ms∧nameIdx key ms<(ms.length:Int) by omega)]
  generalize (fi 1 (ms.getD (nameIdx key ms).toNat .nilp)==fi 0 x&&(fs 2 (ms.getD (nameIdx key ms).toNat .nilp)==fs 1 x&&(fi 3 (ms.getD (nameIdx key ms).toNat .nilp)==fi 2 x&&true)))=q
  cases q <;> rfl
 ·rw [decide_eq_false h]
  rfl
def wantR(s:Int):Int:=bif s==2 then 1 else bif s==3 then 2 else bif s==4 then 3 else 0
def askR(steps parts:List D)(k:Nat):Bool:=(fs 4 (steps.getD k .nilp)==[])&&(wantR (fi 0 (parts.getD k .nilp)) != 0)
def ownM(ms:List D)(rt nn:Int)(hops steps parts:List D)(k:Nat):Bool:=hasM ms (keyM rt nn hops k) (wantR (fi 0 (parts.getD k .nilp))) (steps.getD k .nilp)
theorem rn116(m n:Nat)(og ep co:Int)(na nm' nb ns:Bool)(zas ms bs ss:List D)(rt nn st wy:Int)(n1 n2 n3 fc:Bool)(hops steps parts:List D)(nm:List UInt8)(k:Nat)(hp:k<parts.length)(hs:k<steps.length)(hm:ms.length≤1000000):
  (enterM Mg (callN Mg (m+40)) n c86 [.d (.agg [.int .i64 og,.int .i64 ep,.int .i64 co,.sl accSh na zas,.sl mrkSh nm' ms,.sl defSh nb bs,.sl sgSh ns ss]),.d (sagaD rt nn st wy n1 n2 n3 fc hops steps parts nm),.d (.int .i64 k)] []).out
   =some [.int .i64 (bif askR steps parts k then 1 else 0),.bool (bif askR steps parts k then ownM ms rt nn hops steps parts k else true)]:=by
 rw [x116]
 simp only [Int.toNat_natCast]
 refine (ct (dec_ix hp)).trans ?_
 have hc:decide (0≤(k:Int)∧(k:Int)<(steps.length:Int))=true:=dec_ix hs
 rw [hc]
 have a:=fun w=>ownm_at ms (bif keyOk rt nn hops (k:Int) then keyN rt nn hops (k:Int) else []) w (steps.getD k .nilp) true rfl hm
 rw [a 1,a 2,a 3]
 unfold askR ownM wantR keyM
 cases (fi 0 (parts.getD k .nilp)==2)
 ·cases (fi 0 (parts.getD k .nilp)==3)
  ·cases (fi 0 (parts.getD k .nilp)==4)
   ·cases (fs 4 (steps.getD k .nilp)==[]) <;> rfl
   ·cases (fs 4 (steps.getD k .nilp)==[]) <;> rfl
  ·cases (fs 4 (steps.getD k .nilp)==[]) <;> rfl
 ·cases (fs 4 (steps.getD k .nilp)==[]) <;> rfl
def g116:List D→Tree (List D)
 | [.agg [.int .i64 _og,.int .i64 _ep,.int .i64 _co,.sl ea _na _as,.sl em _nm ms,.sl eb _nb _bs,.sl es _ns _ss],.agg [.int .i64 rt,.int .i64 nn,.sl eh _n1 hops,.str _nm2,.sl et _n2 steps,.int .i64 _st,.int .i64 _wy,.sl ep _n3 parts,.bool _fc],.int .i64 i]=>
  match Sh.beq ea accSh&&(Sh.beq em mrkSh&&(Sh.beq eb defSh&&(Sh.beq es sgSh&&(Sh.beq eh hopSh&&(Sh.beq et stepSh&&Sh.beq ep partSh))))) with
  | true=> .ite (decide (0≤i)&&(decide (i.toNat<parts.length)&&(decide (i.toNat<steps.length)&&decide (ms.length≤1000000)))) (fun _=> .ret [.int .i64 (bif askR steps parts i.toNat then 1 else 0),.bool (bif askR steps parts i.toNat then ownM ms rt nn hops steps parts i.toNat else true)]) (fun _=> .stuck)
  | false=> .stuck
 | _=> .stuck
theorem pure116{P:Program}(hm:P.follows .mixedOrders=true)(h0:EnvOK P Mg):PureOK P 86 g116:=PureOK.run hm h0 fun ds rs h=>by
 unfold g116 at h
 split at h
 ·rename_i og ep' co ea na zas em nm ms eb nb bs es ns ss rt nn eh n1 hops nm2 et n2 steps st wy ep n3 parts fc i
  split at h
  ·rename_i hb
   simp only [Bool.and_eq_true] at hb
   obtain ⟨hb1,hb2,hb3,hb4,hb5,hb6,hb7⟩:=hb
   have hb1:=Sh.beq_eq hb1
   have hb2:=Sh.beq_eq hb2
   have hb3:=Sh.beq_eq hb3
   have hb4:=Sh.beq_eq hb4
   have hb5:=Sh.beq_eq hb5
   have hb6:=Sh.beq_eq hb6
   have hb7:=Sh.beq_eq hb7
   subst hb1 hb2 hb3 hb4 hb5 hb6 hb7
   obtain ⟨hg,h'⟩:=eval_guard h
   clear h
   simp only [Bool.and_eq_true,decide_eq_true_eq] at hg
   obtain ⟨hi,hp,hs,hl⟩:=hg
   obtain ⟨k,rfl⟩:=Int.eq_ofNat_of_zero_le hi
   rw [Int.toNat_natCast] at hp hs h'
   cases h'
   exact ⟨59+1,by rw [callN_succ (fn:=c86) rfl];exact rn116 19 59 og ep' co na nm nb ns zas ms bs ss rt nn st wy n1 n2 n3 fc hops steps parts nm2 k hp hs hl⟩
  ·cases h
 ·cases h
def Mi:Env:=Mh.pureAt 86 true g116
theorem okMi{P:Program}(hm:P.follows .mixedOrders=true)(hg:EnvOK P Mg)(h:EnvOK P Mh):EnvOK P Mi:=h.pureAt (pure116 hm hg)
theorem x57(m n:Nat)(og ep co:Int)(na nm' nb ns:Bool)(zas ms bs ss:List D):Go.AM.Tree.out (enterM Mi (callN Mi (m+40)) n c28 [.d (.agg [.int .i64 og,.int .i64 ep,.int .i64 co,.sl accSh na zas,.sl mrkSh nm' ms,.sl defSh nb bs,.sl sgSh ns ss])] [])=bif decide (og<(0:Int)) then some [D.int IntKind.i64 (230:Int)] else bif decide ((15:Int)<og) then some [D.int IntKind.i64 (230:Int)] else bif decide (ep<(0:Int)) then some [D.int IntKind.i64 (230:Int)] else bif decide ((1000000000:Int)<ep) then some [D.int IntKind.i64 (230:Int)] else bif decide (co<(0:Int)) then some [D.int IntKind.i64 (230:Int)] else bif decide ((999999:Int)<co) then some [D.int IntKind.i64 (230:Int)] else bif decide ((24:Int)<(↑(List.length ss):Int)) then some [D.int IntKind.i64 (230:Int)] else bif (bif ledOk zas ms then (0:Int) else (2:Int)) != (0:Int) then some [D.int IntKind.i64 (230:Int)] else bif (bif bookOk bs then (0:Int) else (2:Int)) != (0:Int) then some [D.int IntKind.i64 (230:Int)] else Tree.out (resume Mi (callN Mi (m+(40:Nat))) n n (0:Nat) c28 { fr:=frame (131:Nat) [((1:Nat),V.ptr (128:Nat) (0:Nat)),((3:Nat),V.d (D.int IntKind.i64 (0:Int))),((4:Nat),V.d (D.int IntKind.i64 (0:Int)))],ob:=[((128:Nat),Obj.box [V.d (D.int IntKind.i64 og),V.d (D.int IntKind.i64 ep),V.d (D.int IntKind.i64 co),V.d (D.sl accSh na zas),V.d (D.sl mrkSh nm' ms),V.d (D.sl (Sh.agg [Sh.str,Sh.sl stepSh]) nb bs),V.d (D.sl (Sh.agg [Sh.int IntKind.i64,Sh.int IntKind.i64,Sh.sl hopSh,Sh.str,Sh.sl stepSh,Sh.int IntKind.i64,Sh.int IntKind.i64,Sh.sl hopSh,Sh.bool]) ns ss)])] }):=by kernel_rfl
def v57(og ep co:Int)(na nm' nb ns:Bool)(zas ms bs ss:List D)(q i:Int):St:= { fr:=frame 131 [(1,V.ptr 128 0),(3,V.d (D.int .i64 q)),(4,V.d (D.int .i64 i))],ob:=[(128,HS og ep co na nm' nb ns zas ms bs ss)] }
theorem y57(m n j:Nat)(og ep co:Int)(na nm' nb ns:Bool)(zas ms bs ss:List D)(q i:Int):Go.AM.Tree.out (resume Mi (callN Mi (m+40)) n (j+1) 0 c28 (v57 og ep co na nm' nb ns zas ms bs ss q i))=bif decide (i<(↑(List.length ss):Int)) then bif decide ((0:Int)≤i∧i<(↑(List.length ss):Int)) then bif (bif mayOk (fi (0:Nat) (List.getD ss (Int.toNat i) D.nilp)) (fi (1:Nat) (List.getD ss (Int.toNat i) D.nilp)) (fi (5:Nat) (List.getD ss (Int.toNat i) D.nilp)) (fi (6:Nat) (List.getD ss (Int.toNat i) D.nilp)) (fb (8:Nat) (List.getD ss (Int.toNat i) D.nilp)) (fl (2:Nat) (List.getD ss (Int.toNat i) D.nilp)) (fl (4:Nat) (List.getD ss (Int.toNat i) D.nilp)) (fl (7:Nat) (List.getD ss (Int.toNat i) D.nilp)) (fs (3:Nat) (List.getD ss (Int.toNat i) D.nilp)) then (0:Int) else (230:Int)) != (0:Int) then some [D.int IntKind.i64 (230:Int)] else bif orgOfId (fi (0:Nat) (List.getD ss (Int.toNat i) D.nilp)) (fi (1:Nat) (List.getD ss (Int.toNat i) D.nilp)) (fl (2:Nat) (List.getD ss (Int.toNat i) D.nilp)) != og then some [D.int IntKind.i64 (230:Int)] else bif (↑(List.length (fl (2:Nat) (List.getD ss (Int.toNat i) D.nilp))):Int)==(0:Int) then bif decide (co<fi (1:Nat) (List.getD ss (Int.toNat i) D.nilp)) then some [D.int IntKind.i64 (230:Int)] else bif decide ((0:Int)<i) then bif decide ((0:Int)≤IntKind.wrap IntKind.i64 (i - (1:Int))∧IntKind.wrap IntKind.i64 (i - (1:Int))<(↑(List.length ss):Int)) then bif decide (List.length (fl (2:Nat) (List.getD ss (Int.toNat (IntKind.wrap IntKind.i64 (i - (1:Int)))) D.nilp))≤(1000000:Nat)) then bif decide ((0:Int)≤refCmp (fi (0:Nat) (List.getD ss (Int.toNat (IntKind.wrap IntKind.i64 (i - (1:Int)))) D.nilp)) (fi (1:Nat) (List.getD ss (Int.toNat (IntKind.wrap IntKind.i64 (i - (1:Int)))) D.nilp)) (fl (2:Nat) (List.getD ss (Int.toNat (IntKind.wrap IntKind.i64 (i - (1:Int)))) D.nilp)) (fi (0:Nat) (List.getD ss (Int.toNat i) D.nilp)) (fi (1:Nat) (List.getD ss (Int.toNat i) D.nilp)) (fl (2:Nat) (List.getD ss (Int.toNat i) D.nilp))) then some [D.int IntKind.i64 (230:Int)] else Tree.out (resumeL Mi (callN Mi (m+(40:Nat))) n [((0:Nat),j),((1:Nat),n)] c28 { fr:=frame (131:Nat) [((1:Nat),V.ptr (128:Nat) (0:Nat)),((3:Nat),V.d (D.int IntKind.i64 q)),((4:Nat),V.d (D.int IntKind.i64 i)),((5:Nat),V.ptr (384:Nat) (0:Nat)),((6:Nat),V.d (D.int IntKind.i64 (0:Int)))],ob:=[((128:Nat),Obj.box [V.d (D.int IntKind.i64 og),V.d (D.int IntKind.i64 ep),V.d (D.int IntKind.i64 co),V.d (D.sl accSh na zas),V.d (D.sl mrkSh nm' ms),V.d (D.sl (Sh.agg [Sh.str,Sh.sl stepSh]) nb bs),V.d (D.sl (Sh.agg [Sh.int IntKind.i64,Sh.int IntKind.i64,Sh.sl hopSh,Sh.str,Sh.sl stepSh,Sh.int IntKind.i64,Sh.int IntKind.i64,Sh.sl hopSh,Sh.bool]) ns ss)]),((384:Nat),Obj.box [V.d (D.int IntKind.i64 (fi (0:Nat) (List.getD ss (Int.toNat i) D.nilp))),V.d (D.int IntKind.i64 (fi (1:Nat) (List.getD ss (Int.toNat i) D.nilp))),V.d (D.sl hopSh (fn (2:Nat) (List.getD ss (Int.toNat i) D.nilp)) (fl (2:Nat) (List.getD ss (Int.toNat i) D.nilp))),V.d (D.str (fs (3:Nat) (List.getD ss (Int.toNat i) D.nilp))),V.d (D.sl stepSh (fn (4:Nat) (List.getD ss (Int.toNat i) D.nilp)) (fl (4:Nat) (List.getD ss (Int.toNat i) D.nilp))),V.d (D.int IntKind.i64 (fi (5:Nat) (List.getD ss (Int.toNat i) D.nilp))),V.d (D.int IntKind.i64 (fi (6:Nat) (List.getD ss (Int.toNat i) D.nilp))),V.d (D.sl hopSh (fn (7:Nat) (List.getD ss (Int.toNat i) D.nilp)) (fl (7:Nat) (List.getD ss (Int.toNat i) D.nilp))),V.d (D.bool (fb (8:Nat) (List.getD ss (Int.toNat i) D.nilp)))])] }) else none else none else Tree.out (resumeL Mi (callN Mi (m+(40:Nat))) n [((0:Nat),j),((1:Nat),n)] c28 { fr:=frame (131:Nat) [((1:Nat),V.ptr (128:Nat) (0:Nat)),((3:Nat),V.d (D.int IntKind.i64 q)),((4:Nat),V.d (D.int IntKind.i64 i)),((5:Nat),V.ptr (384:Nat) (0:Nat)),((6:Nat),V.d (D.int IntKind.i64 (0:Int)))],ob:=[((128:Nat),Obj.box [V.d (D.int IntKind.i64 og),V.d (D.int IntKind.i64 ep),V.d (D.int IntKind.i64 co),V.d (D.sl accSh na zas),V.d (D.sl mrkSh nm' ms),V.d (D.sl (Sh.agg [Sh.str,Sh.sl stepSh]) nb bs),V.d (D.sl (Sh.agg [Sh.int IntKind.i64,Sh.int IntKind.i64,Sh.sl hopSh,Sh.str,Sh.sl stepSh,Sh.int IntKind.i64,Sh.int IntKind.i64,Sh.sl hopSh,Sh.bool]) ns ss)]),((384:Nat),Obj.box [V.d (D.int IntKind.i64 (fi (0:Nat) (List.getD ss (Int.toNat i) D.nilp))),V.d (D.int IntKind.i64 (fi (1:Nat) (List.getD ss (Int.toNat i) D.nilp))),V.d (D.sl hopSh (fn (2:Nat) (List.getD ss (Int.toNat i) D.nilp)) (fl (2:Nat) (List.getD ss (Int.toNat i) D.nilp))),V.d (D.str (fs (3:Nat) (List.getD ss (Int.toNat i) D.nilp))),V.d (D.sl stepSh (fn (4:Nat) (List.getD ss (Int.toNat i) D.nilp)) (fl (4:Nat) (List.getD ss (Int.toNat i) D.nilp))),V.d (D.int IntKind.i64 (fi (5:Nat) (List.getD ss (Int.toNat i) D.nilp))),V.d (D.int IntKind.i64 (fi (6:Nat) (List.getD ss (Int.toNat i) D.nilp))),V.d (D.sl hopSh (fn (7:Nat) (List.getD ss (Int.toNat i) D.nilp)) (fl (7:Nat) (List.getD ss (Int.toNat i) D.nilp))),V.d (D.bool (fb (8:Nat) (List.getD ss (Int.toNat i) D.nilp)))])] }) else bif decide ((0:Int)<i) then bif decide ((0:Int)≤IntKind.wrap IntKind.i64 (i - (1:Int))∧IntKind.wrap IntKind.i64 (i - (1:Int))<(↑(List.length ss):Int)) then bif decide (List.length (fl (2:Nat) (List.getD ss (Int.toNat (IntKind.wrap IntKind.i64 (i - (1:Int)))) D.nilp))≤(1000000:Nat)) then bif decide ((0:Int)≤refCmp (fi (0:Nat) (List.getD ss (Int.toNat (IntKind.wrap IntKind.i64 (i - (1:Int)))) D.nilp)) (fi (1:Nat) (List.getD ss (Int.toNat (IntKind.wrap IntKind.i64 (i - (1:Int)))) D.nilp)) (fl (2:Nat) (List.getD ss (Int.toNat (IntKind.wrap IntKind.i64 (i - (1:Int)))) D.nilp)) (fi (0:Nat) (List.getD ss (Int.toNat i) D.nilp)) (fi (1:Nat) (List.getD ss (Int.toNat i) D.nilp)) (fl (2:Nat) (List.getD ss (Int.toNat i) D.nilp))) then some [D.int IntKind.i64 (230:Int)] else Tree.out (resumeL Mi (callN Mi (m+(40:Nat))) n [((0:Nat),j),((1:Nat),n)] c28 { fr:=frame (131:Nat) [((1:Nat),V.ptr (128:Nat) (0:Nat)),((3:Nat),V.d (D.int IntKind.i64 q)),((4:Nat),V.d (D.int IntKind.i64 i)),((5:Nat),V.ptr (384:Nat) (0:Nat)),((6:Nat),V.d (D.int IntKind.i64 (0:Int)))],ob:=[((128:Nat),Obj.box [V.d (D.int IntKind.i64 og),V.d (D.int IntKind.i64 ep),V.d (D.int IntKind.i64 co),V.d (D.sl accSh na zas),V.d (D.sl mrkSh nm' ms),V.d (D.sl (Sh.agg [Sh.str,Sh.sl stepSh]) nb bs),V.d (D.sl (Sh.agg [Sh.int IntKind.i64,Sh.int IntKind.i64,Sh.sl hopSh,Sh.str,Sh.sl stepSh,Sh.int IntKind.i64,Sh.int IntKind.i64,Sh.sl hopSh,Sh.bool]) ns ss)]),((384:Nat),Obj.box [V.d (D.int IntKind.i64 (fi (0:Nat) (List.getD ss (Int.toNat i) D.nilp))),V.d (D.int IntKind.i64 (fi (1:Nat) (List.getD ss (Int.toNat i) D.nilp))),V.d (D.sl hopSh (fn (2:Nat) (List.getD ss (Int.toNat i) D.nilp)) (fl (2:Nat) (List.getD ss (Int.toNat i) D.nilp))),V.d (D.str (fs (3:Nat) (List.getD ss (Int.toNat i) D.nilp))),V.d (D.sl stepSh (fn (4:Nat) (List.getD ss (Int.toNat i) D.nilp)) (fl (4:Nat) (List.getD ss (Int.toNat i) D.nilp))),V.d (D.int IntKind.i64 (fi (5:Nat) (List.getD ss (Int.toNat i) D.nilp))),V.d (D.int IntKind.i64 (fi (6:Nat) (List.getD ss (Int.toNat i) D.nilp))),V.d (D.sl hopSh (fn (7:Nat) (List.getD ss (Int.toNat i) D.nilp)) (fl (7:Nat) (List.getD ss (Int.toNat i) D.nilp))),V.d (D.bool (fb (8:Nat) (List.getD ss (Int.toNat i) D.nilp)))])] }) else none else none else Tree.out (resumeL Mi (callN Mi (m+(40:Nat))) n [((0:Nat),j),((1:Nat),n)] c28 { fr:=frame (131:Nat) [((1:Nat),V.ptr (128:Nat) (0:Nat)),((3:Nat),V.d (D.int IntKind.i64 q)),((4:Nat),V.d (D.int IntKind.i64 i)),((5:Nat),V.ptr (384:Nat) (0:Nat)),((6:Nat),V.d (D.int IntKind.i64 (0:Int)))],ob:=[((128:Nat),Obj.box [V.d (D.int IntKind.i64 og),V.d (D.int IntKind.i64 ep),V.d (D.int IntKind.i64 co),V.d (D.sl accSh na zas),V.d (D.sl mrkSh nm' ms),V.d (D.sl (Sh.agg [Sh.str,Sh.sl stepSh]) nb bs),V.d (D.sl (Sh.agg [Sh.int IntKind.i64,Sh.int IntKind.i64,Sh.sl hopSh,Sh.str,Sh.sl stepSh,Sh.int IntKind.i64,Sh.int IntKind.i64,Sh.sl hopSh,Sh.bool]) ns ss)]),((384:Nat),Obj.box [V.d (D.int IntKind.i64 (fi (0:Nat) (List.getD ss (Int.toNat i) D.nilp))),V.d (D.int IntKind.i64 (fi (1:Nat) (List.getD ss (Int.toNat i) D.nilp))),V.d (D.sl hopSh (fn (2:Nat) (List.getD ss (Int.toNat i) D.nilp)) (fl (2:Nat) (List.getD ss (Int.toNat i) D.nilp))),V.d (D.str (fs (3:Nat) (List.getD ss (Int.toNat i) D.nilp))),V.d (D.sl stepSh (fn (4:Nat) (List.getD ss (Int.toNat i) D.nilp)) (fl (4:Nat) (List.getD ss (Int.toNat i) D.nilp))),V.d (D.int IntKind.i64 (fi (5:Nat) (List.getD ss (Int.toNat i) D.nilp))),V.d (D.int IntKind.i64 (fi (6:Nat) (List.getD ss (Int.toNat i) D.nilp))),V.d (D.sl hopSh (fn (7:Nat) (List.getD ss (Int.toNat i) D.nilp)) (fl (7:Nat) (List.getD ss (Int.toNat i) D.nilp))),V.d (D.bool (fb (8:Nat) (List.getD ss (Int.toNat i) D.nilp)))])] }) else none else bif q != (↑(List.length ms):Int) then some [D.int IntKind.i64 (230:Int)] else some [D.int IntKind.i64 (0:Int)]:=by kernel_rfl
def v57b(og ep co:Int)(na nm' nb ns:Bool)(zas ms bs ss:List D)(q i:Int)(rt nn st wy:Int)(n1 n2 n3 fc:Bool)(hops steps parts:List D)(nm:List UInt8)(k:Int):St:= { fr:=frame 131 [(1,V.ptr 128 0),(3,V.d (D.int .i64 q)),(4,V.d (D.int .i64 i)),(5,V.ptr 384 0),(6,V.d (D.int .i64 k))],ob:=[(128,HS og ep co na nm' nb ns zas ms bs ss),(384,.box [V.d (D.int .i64 rt),V.d (D.int .i64 nn),V.d (D.sl hopSh n1 hops),V.d (D.str nm),V.d (D.sl stepSh n2 steps),V.d (D.int .i64 st),V.d (D.int .i64 wy),V.d (D.sl partSh n3 parts),V.d (D.bool fc)])] }
theorem y57b(m n j h:Nat)(og ep co:Int)(na nm' nb ns:Bool)(zas ms bs ss:List D)(q i:Int)(rt nn st wy:Int)(n1 n2 n3 fc:Bool)(hops steps parts:List D)(nm:List UInt8)(k:Int):Go.AM.Tree.out (resumeL Mi (callN Mi (m+40)) n [(0,j),(1,h+1)] c28 (v57b og ep co na nm' nb ns zas ms bs ss q i rt nn st wy n1 n2 n3 fc hops steps parts nm k))=bif decide (k<(↑(List.length parts):Int)) then bif decide ((0:Int)≤k)&&(decide (Int.toNat k<List.length parts)&&(decide (Int.toNat k<List.length steps)&&decide (List.length ms≤(1000000:Nat)))) then bif !bif askR steps parts (Int.toNat k) then ownM ms rt nn hops steps parts (Int.toNat k) else true then some [D.int IntKind.i64 (230:Int)] else Tree.out (resumeL Mi (callN Mi (m+(40:Nat))) n [((0:Nat),j),((1:Nat),h)] c28 { fr:=frame (131:Nat) [((1:Nat),V.ptr (128:Nat) (0:Nat)),((3:Nat),V.d (D.int IntKind.i64 (IntKind.wrap IntKind.i64 (q+bif askR steps parts (Int.toNat k) then (1:Int) else (0:Int))))),((4:Nat),V.d (D.int IntKind.i64 i)),((5:Nat),V.ptr (384:Nat) (0:Nat)),((6:Nat),V.d (D.int IntKind.i64 (IntKind.wrap IntKind.i64 (k+(1:Int)))))],ob:=[((128:Nat),Obj.box [V.d (D.int IntKind.i64 og),V.d (D.int IntKind.i64 ep),V.d (D.int IntKind.i64 co),V.d (D.sl accSh na zas),V.d (D.sl mrkSh nm' ms),V.d (D.sl (Sh.agg [Sh.str,Sh.sl stepSh]) nb bs),V.d (D.sl (Sh.agg [Sh.int IntKind.i64,Sh.int IntKind.i64,Sh.sl hopSh,Sh.str,Sh.sl stepSh,Sh.int IntKind.i64,Sh.int IntKind.i64,Sh.sl hopSh,Sh.bool]) ns ss)]),((384:Nat),Obj.box [V.d (D.int IntKind.i64 rt),V.d (D.int IntKind.i64 nn),V.d (D.sl hopSh n1 hops),V.d (D.str nm),V.d (D.sl stepSh n2 steps),V.d (D.int IntKind.i64 st),V.d (D.int IntKind.i64 wy),V.d (D.sl hopSh n3 parts),V.d (D.bool fc)])] }) else none else Tree.out (resume Mi (callN Mi (m+(40:Nat))) n j (0:Nat) c28 { fr:=frame (131:Nat) [((1:Nat),V.ptr (128:Nat) (0:Nat)),((3:Nat),V.d (D.int IntKind.i64 q)),((4:Nat),V.d (D.int IntKind.i64 (IntKind.wrap IntKind.i64 (i+(1:Int)))))],ob:=[((128:Nat),Obj.box [V.d (D.int IntKind.i64 og),V.d (D.int IntKind.i64 ep),V.d (D.int IntKind.i64 co),V.d (D.sl accSh na zas),V.d (D.sl mrkSh nm' ms),V.d (D.sl (Sh.agg [Sh.str,Sh.sl stepSh]) nb bs),V.d (D.sl (Sh.agg [Sh.int IntKind.i64,Sh.int IntKind.i64,Sh.sl hopSh,Sh.str,Sh.sl stepSh,Sh.int IntKind.i64,Sh.int IntKind.i64,Sh.sl hopSh,Sh.bool]) ns ss)])] }):=by kernel_rfl
def mkEq(kv:List (D×D))(x:D):Bool:=fs 0 (kvGet (.str (fs 0 x)) zMrk kv)==fs 0 x&&(fi 1 (kvGet (.str (fs 0 x)) zMrk kv)==fi 1 x&&(fs 2 (kvGet (.str (fs 0 x)) zMrk kv)==fs 2 x&&(fi 3 (kvGet (.str (fs 0 x)) zMrk kv)==fi 3 x&&(fi 4 (kvGet (.str (fs 0 x)) zMrk kv)==fi 4 x&&true))))
def marksOk(ms ss:List D):Bool:= !(((marksKV ss).length:Int) != (ms.length:Int))&&allN (fun i=>mkEq (marksKV ss) (ms.getD i .nilp)) ms.length
def mayP(og ep co:Int)(zas ms bs ss:List D):Bool:= !decide (og<0)&&(!decide (16≤og)&&(!decide (ep<0)&&(!decide (1000000000<ep)&&(!decide (co<0)&&(!decide (999999<co)&&(ledOk zas ms&&(bookOk bs&&(sagasOk og co ss&&marksOk ms ss))))))))
theorem led_len{zas ms:List D}(h:ledOk zas ms=true):ms.length≤500:=by
 unfold ledOk at h
 simp only [Bool.and_eq_true,Bool.not_eq_true',decide_eq_false_iff_not] at h
 omega
theorem rn51(m n:Nat)(og ep co:Int)(na nm' nb ns:Bool)(zas ms bs ss:List D)(hs:allN (fun i=>sgIn (ss.getD i .nilp)) ss.length=true)(hr:sagasOk og co ss=true→marksRun ss=true)(hn:600≤n):
  (enterM Mg (callN Mg (m+40)) n c27 [.d (.agg [.int .i64 og,.int .i64 ep,.int .i64 co,.sl accSh na zas,.sl mrkSh nm' ms,.sl defSh nb bs,.sl sgSh ns ss])] []).out=some [.int .i64 (bif mayP og ep co zas ms bs ss then 0 else 230)]:=by
 rw [x51]
 unfold mayP
 cases decide (og<0)
 ·cases decide (16≤og)
  ·cases decide (ep<0)
   ·cases decide (1000000000<ep)
    ·cases decide (co<0)
     ·cases decide (999999<co)
      ·cases hl:ledOk zas ms
       ·rfl
       ·cases bookOk bs
        ·rfl
        ·refine (ct hs).trans ?_
         cases hk:sagasOk og co ss
         ·rfl
         ·refine (ct (hr hk)).trans ?_
          have hm:=led_len hl
          unfold marksOk
          cases (((marksKV ss).length:Int) != (ms.length:Int))
          ·have:=scan_loop (fun j i=>(resume Mg (callN Mg (m+40)) n j 0 c27 (v51 og ep co na nm' nb ns zas ms bs ss (marksKV ss) (i:Nat))).out) ms.length (fun i=> !mkEq (marksKV ss) (ms.getD i .nilp)) (fun _=>[D.int .i64 230]) [.int .i64 0]
            (fun j i hi=> ?_) (fun j=> ?_) ms.length 0 n (by omega) (by omega)
           ·refine this.trans ?_
            rw [scan_bool]
            rfl
           ·rw [y51]
            simp only [Int.toNat_natCast,wrap_up hi (show ms.length≤1000000 by omega)]
            exact (ct (dec_lt hi)).trans (ct (dec_ix hi))
           ·rw [y51]
            exact cf (dec_end _)
          ·rfl
      ·rfl
     ·rfl
    ·rfl
   ·rfl
  ·rfl
 ·rfl
def ownB(ms:List D)(rt nn:Int)(hops steps parts:List D)(k:Nat):Bool:=bif askR steps parts k then ownM ms rt nn hops steps parts k else true
def one(b:Bool):Nat:=bif b then 1 else 0
def cntP(steps parts:List D):Nat→Nat→Nat
 | 0,_=>0
 | d+1,k=>one (askR steps parts k)+cntP steps parts d (k+1)
def allP(ms:List D)(rt nn:Int)(hops steps parts:List D):Nat→Nat→Bool
 | 0,_=>true
 | d+1,k=>ownB ms rt nn hops steps parts k&&allP ms rt nn hops steps parts d (k+1)
theorem cntP_le(steps parts:List D): ∀d k,cntP steps parts d k≤d
 | 0,_=>Nat.le_refl _
 | d+1,k=>by
  have:=cntP_le steps parts d (k+1)
  unfold cntP one
  cases askR steps parts k <;> simp only [cond_true,cond_false] <;> omega
theorem lp57b(m n j:Nat)(og ep co:Int)(na nm' nb ns:Bool)(zas ms bs ss:List D)(i:Int)(rt nn st wy:Int)(n1 n2 n3 fc:Bool)(hops steps parts:List D)(nm:List UInt8)(hl:parts.length≤1000)(hs:parts.length≤steps.length)(hm:ms.length≤1000000):
  ∀d k h (q:Nat),k+d=parts.length→d<h→q+d≤1000000→(resumeL Mi (callN Mi (m+40)) n [(0,j),(1,h)] c28 (v57b og ep co na nm' nb ns zas ms bs ss q i rt nn st wy n1 n2 n3 fc hops steps parts nm (k:Nat))).out
   =bif allP ms rt nn hops steps parts d k then (resume Mi (callN Mi (m+40)) n j 0 c28 (v57 og ep co na nm' nb ns zas ms bs ss ((q+cntP steps parts d k:Nat):Int) (IntKind.wrap .i64 (i+1)))).out else some [.int .i64 230]:=by
 intro d
 induction d with
 | zero=>
  intro k h q hk hh hq
  cases h with
  | zero=>omega
  | succ h=>
   have:k=parts.length:=by omega
   subst this
   rw [y57b]
   exact cf (dec_end _)
 | succ d ih=>
  intro k h q hk hh hq
  cases h with
  | zero=>omega
  | succ h=>
   have hlt:k<parts.length:=by omega
   have next:=ih (k+1) h (q+one (askR steps parts k)) (by omega) (by omega) (by unfold one;cases askR steps parts k <;> simp only [cond_true,cond_false] <;> omega)
   rw [y57b]
   simp only [Int.toNat_natCast,wrap_up hlt (show parts.length≤1000000 by omega)]
   refine (ct (dec_lt hlt)).trans ?_
   have hg:(decide (0≤(k:Int))&&(decide (k<parts.length)&&(decide (k<steps.length)&&decide (ms.length≤1000000))))=true:=by
    simp only [Bool.and_eq_true,decide_eq_true_eq]
    exact ⟨by omega,hlt,by omega,hm⟩
   refine (ct hg).trans ?_
   have hw:IntKind.wrap .i64 ((q:Int)+(bif askR steps parts k then 1 else 0))=((q+one (askR steps parts k):Nat):Int):=by
    unfold one
    cases askR steps parts k
    ·simp only [cond_false];rw [wrap_i64 (by omega) (by omega)];omega
    ·simp only [cond_true];rw [wrap_i64 (by omega) (by omega)];omega
   rw [hw]
   have e:q+cntP steps parts (d+1) k=q+one (askR steps parts k)+cntP steps parts d (k+1):=by
    rw [cntP];omega
   rw [e]
   cases ho:ownB ms rt nn hops steps parts k
   ·have ha:allP ms rt nn hops steps parts (d+1) k=false:=by rw [allP,ho];rfl
    rw [ha]
    unfold ownB at ho
    rw [ho]
    rfl
   ·have ha:allP ms rt nn hops steps parts (d+1) k=allP ms rt nn hops steps parts d (k+1):=by rw [allP,ho];rfl
    rw [ha]
    unfold ownB at ho
    rw [ho]
    exact next
def cmpR(x y:D):Int:=refCmp (fi 0 x) (fi 1 x) (fl 2 x) (fi 0 y) (fi 1 y) (fl 2 y)
def sgLessR(ss:List D)(i:Nat):Bool:=decide (i=0)|| !decide (0≤cmpR (ss.getD (i - 1) .nilp) (ss.getD i .nilp))
def sagaAtR(og co:Int)(ss:List D)(i:Nat):Bool:=mayS (ss.getD i .nilp)&&(!(orgOfId (fi 0 (ss.getD i .nilp)) (fi 1 (ss.getD i .nilp)) (fl 2 (ss.getD i .nilp)) != og)&&(!((((fl 2 (ss.getD i .nilp)).length:Int)==0)&&decide (co<fi 1 (ss.getD i .nilp)))&&sgLessR ss i))
theorem sg_atR{α:Type}{ss:List D}{i:Nat}(hi:i<ss.length)(hl:ss.length≤1000000)(hp: ∀k,k<ss.length→(fl 2 (ss.getD k .nilp)).length≤1000000)(a b:Option α):
  (bif decide (0<(i:Int)) then bif decide (0≤IntKind.wrap .i64 ((i:Int) - 1)∧IntKind.wrap .i64 ((i:Int) - 1)<(ss.length:Int)) then bif decide ((fl 2 (ss.getD (Int.toNat (IntKind.wrap .i64 ((i:Int) - 1))) .nilp)).length≤1000000) then
   bif decide (0≤refCmp (fi 0 (ss.getD (Int.toNat (IntKind.wrap .i64 ((i:Int) - 1))) .nilp)) (fi 1 (ss.getD (Int.toNat (IntKind.wrap .i64 ((i:Int) - 1))) .nilp)) (fl 2 (ss.getD (Int.toNat (IntKind.wrap .i64 ((i:Int) - 1))) .nilp)) (fi 0 (ss.getD i .nilp)) (fi 1 (ss.getD i .nilp)) (fl 2 (ss.getD i .nilp))) then a else b else none else none else b)
   =bif sgLessR ss i then b else a:=by
 unfold sgLessR cmpR
 by_cases h0:i=0
 ·subst h0
  refine (cf (decide_eq_false (by omega))).trans ?_
  rfl
 ·rw [decide_eq_false h0,wrap_pred (by omega) (by omega)]
  refine (ct (decide_eq_true (by omega))).trans ?_
  refine (ct (dec_ix (show i - 1<ss.length by omega))).trans ?_
  rw [Int.toNat_natCast]
  refine (ct (decide_eq_true (hp _ (by omega)))).trans ?_
  generalize decide (0≤refCmp (fi 0 (ss.getD (i - 1) .nilp)) (fi 1 (ss.getD (i - 1) .nilp)) (fl 2 (ss.getD (i - 1) .nilp)) (fi 0 (ss.getD i .nilp)) (fi 1 (ss.getD i .nilp)) (fl 2 (ss.getD i .nilp)))=c
  cases c <;> rfl
def partsR(ms:List D)(x:D):Bool:=allP ms (fi 0 x) (fi 1 x) (fl 2 x) (fl 4 x) (fl 7 x) (fl 7 x).length 0
def cntRs(x:D):Nat:=cntP (fl 4 x) (fl 7 x) (fl 7 x).length 0
def cntS(ss:List D):Nat→Nat→Nat
 | 0,_=>0
 | d+1,i=>cntRs (ss.getD i .nilp)+cntS ss d (i+1)
def allS(ms:List D)(og co:Int)(ss:List D):Nat→Nat→Bool
 | 0,_=>true
 | d+1,i=>sagaAtR og co ss i&&(partsR ms (ss.getD i .nilp)&&allS ms og co ss d (i+1))
theorem lp57(m n:Nat)(og ep co:Int)(na nm' nb ns:Bool)(zas ms bs ss:List D)(hl:ss.length≤24)(hm:ms.length≤1000000)(hn:1000<n)
  (hx: ∀i,i<ss.length→mayS (ss.getD i .nilp)=true→(fl 7 (ss.getD i .nilp)).length≤1000∧(fl 7 (ss.getD i .nilp)).length≤(fl 4 (ss.getD i .nilp)).length) (h2: ∀k,k<ss.length→(fl 2 (ss.getD k .nilp)).length≤1000000):
  ∀d i j (q:Nat),i+d=ss.length→d<j→q+1000*d≤100000→(resume Mi (callN Mi (m+40)) n j 0 c28 (v57 og ep co na nm' nb ns zas ms bs ss q (i:Nat))).out
   =some [.int .i64 (bif allS ms og co ss d i&&(((q+cntS ss d i:Nat):Int)==(ms.length:Int)) then 0 else 230)]:=by
 intro d
 induction d with
 | zero=>
  intro i j q hi hj hq
  cases j with
  | zero=>omega
  | succ j=>
   have:i=ss.length:=by omega
   subst this
   rw [y57]
   refine (cf (dec_end _)).trans ?_
   unfold allS cntS bne
   rw [Nat.add_zero,Bool.true_and]
   cases ((q:Int)==(ms.length:Int)) <;> rfl
 | succ d ih=>
  intro i j q hi hj hq
  cases j with
  | zero=>omega
  | succ j=>
   have hlt:i<ss.length:=by omega
   rw [y57]
   simp only [Int.toNat_natCast]
   refine (ct (dec_lt hlt)).trans ((ct (dec_ix hlt)).trans ?_)
   rw [sg_atR hlt (by omega) h2]
   have e:allS ms og co ss (d+1) i=(sagaAtR og co ss i&&(partsR ms (ss.getD i .nilp)&&allS ms og co ss d (i+1))):=rfl
   rw [e]
   unfold sagaAtR
   cases hmay:mayS (ss.getD i .nilp)
   ·unfold mayS at hmay
    rw [hmay]
    rfl
   ·have hy:=hx i hlt hmay
    unfold mayS at hmay
    rw [hmay]
    refine (cf rfl).trans ?_
    cases (orgOfId (fi 0 (ss.getD i .nilp)) (fi 1 (ss.getD i .nilp)) (fl 2 (ss.getD i .nilp)) != og)
    ·have inner:=lp57b m n j og ep co na nm' nb ns zas ms bs ss (i:Nat) (fi 0 (ss.getD i .nilp)) (fi 1 (ss.getD i .nilp)) (fi 5 (ss.getD i .nilp)) (fi 6 (ss.getD i .nilp)) (fn 2 (ss.getD i .nilp)) (fn 4 (ss.getD i .nilp)) (fn 7 (ss.getD i .nilp)) (fb 8 (ss.getD i .nilp)) (fl 2 (ss.getD i .nilp)) (fl 4 (ss.getD i .nilp)) (fl 7 (ss.getD i .nilp)) (fs 3 (ss.getD i .nilp)) hy.1 hy.2 hm _ 0 n q (Nat.zero_add _) (by omega) (by omega)
     rw [wrap_up hlt (show ss.length≤1000000 by omega)] at inner
     have hc:=cntP_le (fl 4 (ss.getD i .nilp)) (fl 7 (ss.getD i .nilp)) (fl 7 (ss.getD i .nilp)).length 0
     have next:=ih (i+1) j (q+cntRs (ss.getD i .nilp)) (by omega) (by omega) (by unfold cntRs;omega)
     have ec:q+cntS ss (d+1) i=q+cntRs (ss.getD i .nilp)+cntS ss d (i+1):=by rw [cntS];omega
     rw [ec]
     have fin:(bif partsR ms (ss.getD i .nilp) then (resume Mi (callN Mi (m+40)) n j 0 c28 (v57 og ep co na nm' nb ns zas ms bs ss ((q+cntRs (ss.getD i .nilp):Nat):Int) ((i+1:Nat):Int))).out else some [D.int .i64 230])=some [D.int .i64 (bif (partsR ms (ss.getD i .nilp)&&allS ms og co ss d (i+1))&&(((q+cntRs (ss.getD i .nilp)+cntS ss d (i+1):Nat):Int)==(ms.length:Int)) then 0 else 230)]:=by
      rw [next]
      cases partsR ms (ss.getD i .nilp) <;> rfl
     have done:=inner.trans fin
     cases (((fl 2 (ss.getD i .nilp)).length:Int)==0)
     ·cases sgLessR ss i
      ·rfl
      ·exact done
     ·cases decide (co<fi 1 (ss.getD i .nilp))
      ·cases sgLessR ss i
       ·rfl
       ·exact done
      ·rfl
    ·rfl
def mayR(og ep co:Int)(zas ms bs ss:List D):Bool:= !decide (og<0)&&(!decide (15<og)&&(!decide (ep<0)&&(!decide (1000000000<ep)&&(!decide (co<0)&&(!decide (999999<co)&&(!decide (24<(ss.length:Int))&&(ledOk zas ms&&(bookOk bs&&(allS ms og co ss ss.length 0&&(((0+cntS ss ss.length 0:Nat):Int)==(ms.length:Int)))))))))))
theorem rn57(m n:Nat)(og ep co:Int)(na nm' nb ns:Bool)(zas ms bs ss:List D)(hn:1000<n)
  (hx: ∀i,i<ss.length→mayS (ss.getD i .nilp)=true→(fl 7 (ss.getD i .nilp)).length≤1000∧(fl 7 (ss.getD i .nilp)).length≤(fl 4 (ss.getD i .nilp)).length) (h2: ∀k,k<ss.length→(fl 2 (ss.getD k .nilp)).length≤1000000):
  (enterM Mi (callN Mi (m+40)) n c28 [.d (.agg [.int .i64 og,.int .i64 ep,.int .i64 co,.sl accSh na zas,.sl mrkSh nm' ms,.sl defSh nb bs,.sl sgSh ns ss])] []).out=some [.int .i64 (bif mayR og ep co zas ms bs ss then 0 else 230)]:=by
 rw [x57]
 unfold mayR
 cases decide (og<0)
 ·cases decide (15<og)
  ·cases decide (ep<0)
   ·cases decide (1000000000<ep)
    ·cases decide (co<0)
     ·cases decide (999999<co)
      ·by_cases h24:24<(ss.length:Int)
       ·rw [decide_eq_true h24];rfl
       ·rw [decide_eq_false h24]
        cases hl:ledOk zas ms
        ·rfl
        ·cases bookOk bs
         ·rfl
         ·have hm:=led_len hl
          exact lp57 m n og ep co na nm' nb ns zas ms bs ss (by omega) (by omega) hn hx h2 ss.length 0 n 0 (by omega) (by omega) (by omega)
      ·rfl
     ·rfl
    ·rfl
   ·rfl
  ·rfl
 ·rfl
def isDig(c:UInt8):Bool:=decide (48≤c.toNat)&&decide (c.toNat≤57)
theorem dig_chr{d:Nat}(h:d<10):isDig (UInt8.ofNat (48+d))=true:=by
 have: ∀x:Fin 10,isDig (UInt8.ofNat (48+x.1))=true:=by decide
 exact this ⟨d,h⟩
theorem digF_dig: ∀k n,∀c∈digF k n,isDig c=true
 | 0,n,c,h=>by
  simp only [digF,List.mem_singleton] at h
  subst h
  exact dig_chr (Nat.mod_lt _ (by omega))
 | k+1,n,c,h=>by
  simp only [digF] at h
  split at h
  ·rename_i hn
   rw [List.mem_singleton] at h
   subst h
   exact dig_chr hn
  ·rcases List.mem_append.1 h with h | h
   ·exact digF_dig k _ c h
   ·rw [List.mem_singleton] at h
    subst h
    exact dig_chr (Nat.mod_lt _ (by omega))
theorem digN_dig(n:Nat): ∀c∈digN n,isDig c=true:=digF_dig 6 n
def valN(l:List UInt8):Nat:=l.foldl (fun a c=>10*a+(c.toNat - 48)) 0
theorem chr_val{d:Nat}(h:d<10):(UInt8.ofNat (48+d)).toNat - 48=d:=by
 have: ∀x:Fin 10,(UInt8.ofNat (48+x.1)).toNat - 48=x.1:=by decide
 exact this ⟨d,h⟩
theorem digF_val: ∀k n,n<10 ^ (k+1)→valN (digF k n)=n
 | 0,n,h=>by
  have h:n<10:=by simpa using h
  simp only [digF,valN,List.foldl_cons,List.foldl_nil,Nat.mod_eq_of_lt h,chr_val h]
  omega
 | k+1,n,h=>by
  simp only [digF]
  split
  ·rename_i hn
   simp only [valN,List.foldl_cons,List.foldl_nil,chr_val hn]
   omega
  ·have ih:=digF_val k (n / 10) (by rw [Nat.pow_succ] at h;omega)
   unfold valN at ih ⊢
   rw [List.foldl_append,ih,List.foldl_cons,List.foldl_nil,chr_val (Nat.mod_lt _ (by omega))]
   omega
theorem digN_inj{a b:Nat}(ha:a<10000000)(hb:b<10000000)(h:digN a=digN b):a=b:=by
 have e1:=digF_val 6 a (by omega)
 have e2:=digF_val 6 b (by omega)
 unfold digN at h
 rw [←e1,←e2,h]
theorem cut_dig: ∀{a b:List UInt8} {c d:UInt8} {x y:List UInt8},(∀z∈a,isDig z=true)→(∀z∈b,isDig z=true)→isDig c=false→isDig d=false→a++c :: x=b++d :: y→a=b∧c=d∧x=y
 | [],[],c,d,x,y,_,_,_,_,h=>by
  simp only [List.nil_append,List.cons.injEq] at h
  exact ⟨rfl,h.1,h.2⟩
 | [],z :: b,c,d,x,y,_,hb,hc,_,h=>by
  simp only [List.nil_append,List.cons_append,List.cons.injEq] at h
  have:=hb z (by simp)
  rw [←h.1,hc] at this;cases this
 | z :: a,[],c,d,x,y,ha,_,_,hd,h=>by
  simp only [List.nil_append,List.cons_append,List.cons.injEq] at h
  have:=ha z (by simp)
  rw [h.1,hd] at this;cases this
 | z :: a,u :: b,c,d,x,y,ha,hb,hc,hd,h=>by
  simp only [List.cons_append,List.cons.injEq] at h
  obtain ⟨h1,h2,h3⟩:=cut_dig (fun z hz=>ha z (by simp [hz])) (fun z hz=>hb z (by simp [hz])) hc hd h.2
  exact ⟨by rw [h.1,h1],h2,h3⟩
def keyT(es:List D)(k:Int):List UInt8:=es.flatMap hopTxt++35 :: digN k.toNat
theorem keyT_cons(h:D)(es:List D)(k:Int):keyT (h :: es) k=47 :: (digN (fi 0 h).toNat++64 :: (digN (fi 1 h).toNat++keyT es k)):=by
 simp only [keyT,List.flatMap_cons,hopTxt,List.append_assoc,List.cons_append,List.nil_append]
theorem keyT_head(es:List D)(k:Int): ∃c x,keyT es k=c :: x∧isDig c=false:=by
 cases es with
 | nil=>exact ⟨35,_,rfl,by decide⟩
 | cons h es=>exact ⟨47,_,keyT_cons h es k,by decide⟩
def hopP(h:D):Int×Int:=(fi 0 h,fi 1 h)
def HopB(es:List D):Prop:= ∀h∈es,(0≤fi 0 h∧fi 0 h<1000000)∧0≤fi 1 h∧fi 1 h<1000000
theorem keyT_inj: ∀{es es':List D} {k k':Int},HopB es→HopB es'→0≤k∧k<1000000→0≤k'∧k'<1000000→keyT es k=keyT es' k'→es.map hopP=es'.map hopP∧k=k'
 | [],[],k,k',_,_,hk,hk',h=>by
  simp only [keyT,List.flatMap_nil,List.nil_append,List.cons.injEq,true_and] at h
  have:=digN_inj (by omega) (by omega) h
  exact ⟨rfl,by omega⟩
 | [],h' :: es',k,k',_,_,_,_,h=>by
  rw [keyT_cons] at h
  simp only [keyT,List.flatMap_nil,List.nil_append,List.cons.injEq] at h
  exact absurd h.1 (by decide)
 | h0 :: es,[],k,k',_,_,_,_,h=>by
  rw [keyT_cons] at h
  simp only [keyT,List.flatMap_nil,List.nil_append,List.cons.injEq] at h
  exact absurd h.1 (by decide)
 | h0 :: es,h1 :: es',k,k',hb,hb',hk,hk',h=>by
  rw [keyT_cons,keyT_cons,List.cons.injEq] at h
  obtain ⟨e1,-,h2⟩:=cut_dig (digN_dig _) (digN_dig _) (by decide) (by decide) h.2
  obtain ⟨c,x,hc,hc'⟩:=keyT_head es k
  obtain ⟨d,y,hd,hd'⟩:=keyT_head es' k'
  rw [hc,hd] at h2
  obtain ⟨e2,e3,e4⟩:=cut_dig (digN_dig _) (digN_dig _) hc' hd' h2
  have hr:keyT es k=keyT es' k':=by rw [hc,hd,e3,e4]
  obtain ⟨i1,i2⟩:=keyT_inj (fun z hz=>hb z (by simp [hz])) (fun z hz=>hb' z (by simp [hz])) hk hk' hr
  have b0:=hb h0 (by simp)
  have b1:=hb' h1 (by simp)
  have q1:=digN_inj (by omega) (by omega) e1
  have q2:=digN_inj (by omega) (by omega) e2
  refine ⟨?_,i2⟩
  rw [List.map_cons,List.map_cons,i1]
  unfold hopP
  rw [show fi 0 h0=fi 0 h1 by omega,show fi 1 h0=fi 1 h1 by omega]
theorem keyN_T(r q:Int)(es:List D)(k:Int):keyN r q es k=digN r.toNat++46 :: (digN q.toNat++keyT es k):=by
 simp only [keyN,showN,keyT,List.append_assoc,List.cons_append,List.nil_append]
theorem keyN_inj{r q r' q' k k':Int}{es es':List D}(h1:idOk r q es=true)(h2:idOk r' q' es'=true)(hk:0≤k∧k<8)(hk':0≤k'∧k'<8)(h:keyN r q es k=keyN r' q' es' k'):
  r=r'∧q=q'∧es.map hopP=es'.map hopP∧k=k':=by
 obtain ⟨a1,-,a3,a4,-⟩:=idOk_iff.1 h1
 obtain ⟨c1,-,c3,c4,-⟩:=idOk_iff.1 h2
 rw [keyN_T,keyN_T] at h
 obtain ⟨e1,-,h2⟩:=cut_dig (digN_dig _) (digN_dig _) (by decide) (by decide) h
 obtain ⟨c,x,hc,hc'⟩:=keyT_head es k
 obtain ⟨d,y,hd,hd'⟩:=keyT_head es' k'
 rw [hc,hd] at h2
 obtain ⟨e2,e3,e4⟩:=cut_dig (digN_dig _) (digN_dig _) hc' hd' h2
 have hr:keyT es k=keyT es' k':=by rw [hc,hd,e3,e4]
 obtain ⟨i1,i2⟩:=keyT_inj (es:=es) (es':=es')
  (fun z hz=>by obtain ⟨i,hi,rfl⟩:=mem_getD hz;have:=a4 i hi;omega)
  (fun z hz=>by obtain ⟨i,hi,rfl⟩:=mem_getD hz;have:=c4 i hi;omega) (by omega) (by omega) hr
 have q1:=digN_inj (by omega) (by omega) e1
 have q2:=digN_inj (by omega) (by omega) e2
 exact ⟨by omega,by omega,i1,i2⟩
theorem scan_shift{α:Type}(p:Nat→Bool)(hit:Nat→α)(fin:α): ∀k i,scan p hit fin k (i+1)=scan (fun j=>p (j+1)) (fun j=>hit (j+1)) fin k i
 | 0,_=>rfl
 | k+1,i=>by
  simp only [scan]
  rw [scan_shift p hit fin k (i+1)]
def hopsC:List D→List D→Int
 | [],[]=>0
 | [],_ :: _=> -1
 | _ :: _,[]=>1
 | x :: a,y :: b=>bif fi 0 x != fi 0 y then cmpI (fi 0 x) (fi 0 y) else bif fi 1 x != fi 1 y then cmpI (fi 1 x) (fi 1 y) else hopsC a b
theorem cmpI_ne{a b:Int}:(cmpI a b != 0)=(a != b):=by
 unfold cmpI
 by_cases h:a=b
 ·subst h;simp
 ·have:(a != b)=true:=bne_iff_ne.2 h
  rw [this]
  by_cases h1:a<b
  ·rw [decide_eq_true h1];rfl
  ·rw [decide_eq_false h1,decide_eq_true (show b<a by omega)];rfl
theorem scan_congr{α:Type}{p p':Nat→Bool}{hit hit':Nat→α}{fin:α}: ∀k i,(∀j,i≤j→j<i+k→p j=p' j)→(∀j,i≤j→j<i+k→hit j=hit' j)→scan p hit fin k i=scan p' hit' fin k i
 | 0,_,_,_=>rfl
 | k+1,i,h1,h2=>by
  simp only [scan]
  rw [h1 i (by omega) (by omega),h2 i (by omega) (by omega),scan_congr k (i+1) (fun j a b=>h1 j (by omega) (by omega)) (fun j a b=>h2 j (by omega) (by omega))]
theorem cmpHops_eq: ∀a b:List D,cmpHops a b=hopsC a b
 | [],[]=>rfl
 | [],y :: b=>by
  unfold cmpHops
  simp only [List.length_nil,scan,hopsC]
  rw [decide_eq_true (by rw [List.length_cons];omega)];rfl
 | x :: a,[]=>by
  unfold cmpHops
  simp only [List.length_cons,scan,hopsC]
  rfl
 | x :: a,y :: b=>by
  have ih:=cmpHops_eq a b
  unfold cmpHops at ih ⊢
  simp only [List.length_cons,scan]
  rw [decide_eq_false (show¬(((b.length+1:Nat):Int)≤((0:Nat):Int)) by omega)]
  have e:cmpHop ((x :: a).getD 0 .nilp) ((y :: b).getD 0 .nilp)=cmpHop x y:=rfl
  rw [e,scan_shift]
  have hs:scan (fun j=>decide (((b.length+1:Nat):Int)≤((j+1:Nat):Int))||cmpHop ((x :: a).getD (j+1) .nilp) ((y :: b).getD (j+1) .nilp) != 0) (fun j=>bif decide (((b.length+1:Nat):Int)≤((j+1:Nat):Int)) then 1 else cmpHop ((x :: a).getD (j+1) .nilp) ((y :: b).getD (j+1) .nilp))
    (bif decide (((a.length+1:Nat):Int)<((b.length+1:Nat):Int)) then -1 else 0) a.length 0=hopsC a b:=by
   rw [←ih]
   have hd: ∀j:Nat,decide (((b.length+1:Nat):Int)≤((j+1:Nat):Int))=decide ((b.length:Int)≤(j:Int)):=fun j=>by
    by_cases h:b.length≤j
    ·rw [decide_eq_true (by omega),decide_eq_true (by omega)]
    ·rw [decide_eq_false (by omega),decide_eq_false (by omega)]
   have hf:decide (((a.length+1:Nat):Int)<((b.length+1:Nat):Int))=decide ((a.length:Int)<(b.length:Int)):=by
    by_cases h:a.length<b.length
    ·rw [decide_eq_true (by omega),decide_eq_true (by omega)]
    ·rw [decide_eq_false (by omega),decide_eq_false (by omega)]
   rw [hf]
   refine scan_congr _ _ (fun j _ _=> ?_) (fun j _ _=> ?_)
   ·rw [hd];rfl
   ·rw [hd];rfl
  rw [hs]
  simp only [hopsC,Bool.false_or,cond_false]
  have hne:(cmpHop x y != 0)=(fi 0 x != fi 0 y||fi 1 x != fi 1 y):=by
   unfold cmpHop
   rw [cmpI_ne]
   cases h:(fi 0 x != fi 0 y)
   ·simp only [cond_false,cmpI_ne,Bool.false_or]
   ·simp only [cond_true,cmpI_ne,h,Bool.true_or]
  rw [hne]
  unfold cmpHop
  rw [cmpI_ne]
  cases (fi 0 x != fi 0 y) <;> cases (fi 1 x != fi 1 y) <;> rfl
theorem numb_cmp(a b:Int):numb a b=cmpI a b:=rfl
theorem refHops_eq: ∀a b:List D,scan (fun i=>(fi 0 (a.getD i .nilp) != fi 0 (b.getD i .nilp))||(fi 1 (a.getD i .nilp) != fi 1 (b.getD i .nilp)))
   (fun i=>bif fi 0 (a.getD i .nilp) != fi 0 (b.getD i .nilp) then numb (fi 0 (a.getD i .nilp)) (fi 0 (b.getD i .nilp)) else numb (fi 1 (a.getD i .nilp)) (fi 1 (b.getD i .nilp)))
   (numb a.length b.length) (min a.length b.length) 0=hopsC a b
 | [],[]=>rfl
 | [],y :: b=>by
  simp only [List.length_nil,Nat.zero_min,scan,hopsC]
  unfold numb
  rw [decide_eq_true (by rw [List.length_cons];omega)];rfl
 | x :: a,[]=>by
  simp only [List.length_nil,Nat.min_zero,scan,hopsC]
  unfold numb
  rw [decide_eq_false (by rw [List.length_cons];omega),decide_eq_true (by rw [List.length_cons];omega)];rfl
 | x :: a,y :: b=>by
  have ih:=refHops_eq a b
  have hmin:min (x :: a).length (y :: b).length=min a.length b.length+1:=by simp only [List.length_cons];omega
  have hn:numb ((x :: a).length:Int) ((y :: b).length:Int)=numb (a.length:Int) (b.length:Int):=by
   unfold numb
   have h1:decide (((x :: a).length:Int)<((y :: b).length:Int))=decide ((a.length:Int)<(b.length:Int)):=by
    simp only [List.length_cons]
    by_cases h:a.length<b.length
    ·rw [decide_eq_true (by omega),decide_eq_true (by omega)]
    ·rw [decide_eq_false (by omega),decide_eq_false (by omega)]
   have h2:decide (((y :: b).length:Int)<((x :: a).length:Int))=decide ((b.length:Int)<(a.length:Int)):=by
    simp only [List.length_cons]
    by_cases h:b.length<a.length
    ·rw [decide_eq_true (by omega),decide_eq_true (by omega)]
    ·rw [decide_eq_false (by omega),decide_eq_false (by omega)]
   rw [h1,h2]
  rw [hmin,hn]
  simp only [scan,hopsC]
  rw [scan_shift]
  have hs: ∀(fin:Int) (k:Nat),scan (fun j=>(fi 0 ((x :: a).getD (j+1) .nilp) != fi 0 ((y :: b).getD (j+1) .nilp))||(fi 1 ((x :: a).getD (j+1) .nilp) != fi 1 ((y :: b).getD (j+1) .nilp)))
   (fun j=>bif fi 0 ((x :: a).getD (j+1) .nilp) != fi 0 ((y :: b).getD (j+1) .nilp) then numb (fi 0 ((x :: a).getD (j+1) .nilp)) (fi 0 ((y :: b).getD (j+1) .nilp)) else numb (fi 1 ((x :: a).getD (j+1) .nilp)) (fi 1 ((y :: b).getD (j+1) .nilp))) fin k 0
   =scan (fun i=>(fi 0 (a.getD i .nilp) != fi 0 (b.getD i .nilp))||(fi 1 (a.getD i .nilp) != fi 1 (b.getD i .nilp)))
   (fun i=>bif fi 0 (a.getD i .nilp) != fi 0 (b.getD i .nilp) then numb (fi 0 (a.getD i .nilp)) (fi 0 (b.getD i .nilp)) else numb (fi 1 (a.getD i .nilp)) (fi 1 (b.getD i .nilp))) fin k 0:=fun fin k=>rfl
  rw [hs,ih]
  have g0:(x :: a).getD 0 .nilp=x:=rfl
  have g1:(y :: b).getD 0 .nilp=y:=rfl
  rw [g0,g1,numb_cmp,numb_cmp]
  cases (fi 0 x != fi 0 y) <;> cases (fi 1 x != fi 1 y) <;> rfl
def idC(r q:Int)(es:List D)(r' q':Int)(es':List D):Int:=bif r != r' then cmpI r r' else bif q != q' then cmpI q q' else hopsC es es'
theorem refCmp_eq(r q:Int)(es:List D)(r' q':Int)(es':List D):refCmp r q es r' q' es'=idC r q es r' q' es':=by
 unfold refCmp idC
 rw [refHops_eq]
 rfl
theorem idCmp_eq(r q:Int)(es:List D)(r' q':Int)(es':List D):idCmp r q r' q' es es'=idC r q es r' q' es':=by
 unfold idCmp idC
 rw [cmpI_ne,cmpI_ne,cmpHops_eq]
 cases (r != r')
 ·cases (q != q')
  ·simp only [cond_false]
   cases h:(hopsC es es' != 0)
   ·have:hopsC es es'=0:=by simpa using h
    rw [this];rfl
   ·rfl
  ·rfl
 ·rfl
theorem cmpI_lt{a b:Int}:cmpI a b<0↔a<b:=by
 unfold cmpI
 by_cases h1:a<b
 ·rw [decide_eq_true h1];simp [h1]
 ·rw [decide_eq_false h1]
  cases decide (b<a) <;> simp [h1]
theorem hopsC_zero: ∀{a b:List D},hopsC a b=0↔a.map hopP=b.map hopP
 | [],[]=>by simp [hopsC]
 | [],_ :: _=>by simp [hopsC]
 | _ :: _,[]=>by simp [hopsC]
 | x :: a,y :: b=>by
  have ih:= @hopsC_zero a b
  simp only [hopsC,List.map_cons,List.cons.injEq,hopP,Prod.mk.injEq]
  cases h0:(fi 0 x != fi 0 y)
  ·have e0:fi 0 x=fi 0 y:=by simpa using h0
   cases h1:(fi 1 x != fi 1 y)
   ·have e1:fi 1 x=fi 1 y:=by simpa using h1
    simp only [cond_false]
    rw [ih]
    exact ⟨fun h=>⟨⟨e0,e1⟩,h⟩,fun h=>h.2⟩
   ·simp only [cond_false,cond_true]
    have n1:fi 1 x≠fi 1 y:=bne_iff_ne.1 h1
    have:= @cmpI_ne (fi 1 x) (fi 1 y)
    rw [h1] at this
    exact ⟨fun h=>absurd h (bne_iff_ne.1 this),fun h=>absurd h.1.2 n1⟩
  ·simp only [cond_true]
   have n0:fi 0 x≠fi 0 y:=bne_iff_ne.1 h0
   have:= @cmpI_ne (fi 0 x) (fi 0 y)
   rw [h0] at this
   exact ⟨fun h=>absurd h (bne_iff_ne.1 this),fun h=>absurd h.1.1 n0⟩
theorem hopsC_trans: ∀{a b c:List D},hopsC a b<0→hopsC b c<0→hopsC a c<0
 | [],[],_,h,_=>by simp [hopsC] at h
 | [],_ :: _,[],_,h=>by simp [hopsC] at h
 | [],_ :: _,_ :: _,_,_=>by simp [hopsC]
 | _ :: _,[],_,h,_=>by simp [hopsC] at h
 | _ :: _,_ :: _,[],_,h=>by simp [hopsC] at h
 | x :: a,y :: b,z :: c,h1,h2=>by
  simp only [hopsC] at h1 h2 ⊢
  by_cases e0:fi 0 x=fi 0 y
  ·by_cases f0:fi 0 y=fi 0 z
   ·rw [show (fi 0 x != fi 0 y)=false by simp [e0]] at h1
    rw [show (fi 0 y != fi 0 z)=false by simp [f0]] at h2
    rw [show (fi 0 x != fi 0 z)=false by simp [e0,f0]]
    simp only [cond_false] at h1 h2 ⊢
    by_cases e1:fi 1 x=fi 1 y
    ·by_cases f1:fi 1 y=fi 1 z
     ·rw [show (fi 1 x != fi 1 y)=false by simp [e1]] at h1
      rw [show (fi 1 y != fi 1 z)=false by simp [f1]] at h2
      rw [show (fi 1 x != fi 1 z)=false by simp [e1,f1]]
      exact hopsC_trans h1 h2
     ·rw [show (fi 1 y != fi 1 z)=true from bne_iff_ne.2 f1] at h2
      rw [show (fi 1 x != fi 1 z)=true from bne_iff_ne.2 (by rw [e1];exact f1),e1]
      exact h2
    ·rw [show (fi 1 x != fi 1 y)=true from bne_iff_ne.2 e1] at h1
     have g1:=cmpI_lt.1 h1
     by_cases f1:fi 1 y=fi 1 z
     ·rw [show (fi 1 x != fi 1 z)=true from bne_iff_ne.2 (by omega)]
      exact cmpI_lt.2 (by omega)
     ·rw [show (fi 1 y != fi 1 z)=true from bne_iff_ne.2 f1] at h2
      have g2:=cmpI_lt.1 h2
      rw [show (fi 1 x != fi 1 z)=true from bne_iff_ne.2 (by omega)]
      exact cmpI_lt.2 (by omega)
   ·rw [show (fi 0 y != fi 0 z)=true from bne_iff_ne.2 f0] at h2
    rw [show (fi 0 x != fi 0 z)=true from bne_iff_ne.2 (by rw [e0];exact f0),e0]
    exact h2
  ·rw [show (fi 0 x != fi 0 y)=true from bne_iff_ne.2 e0] at h1
   have g1:=cmpI_lt.1 h1
   by_cases f0:fi 0 y=fi 0 z
   ·rw [show (fi 0 x != fi 0 z)=true from bne_iff_ne.2 (by omega)]
    exact cmpI_lt.2 (by omega)
   ·rw [show (fi 0 y != fi 0 z)=true from bne_iff_ne.2 f0] at h2
    have g2:=cmpI_lt.1 h2
    rw [show (fi 0 x != fi 0 z)=true from bne_iff_ne.2 (by omega)]
    exact cmpI_lt.2 (by omega)
theorem may_parts{rt nn st wy:Int}{fc:Bool}{hops steps parts:List D}{nm:List UInt8}(h:mayOk rt nn st wy fc hops steps parts nm=true):
  parts.length=steps.length∧steps.length≤8∧ ∀k,k<parts.length→0≤fi 0 (parts.getD k .nilp)∧fi 0 (parts.getD k .nilp)≤4:=by
 by_cases h7:st=7
 ·subst h7
  have hid:=mayOk_id h
  unfold mayOk at h
  rw [hid] at h
  have: ¬(0<(steps.length:Int)+(parts.length:Int)):=by
   intro hp
   rw [decide_eq_true hp] at h
   cases hn:(nm==[]) <;> simp [hn] at h
  exact ⟨by omega,by omega,fun k hk=>by omega⟩
 ·have hg:=mayOk_good h h7
  refine ⟨hg.len,hg.few,fun k hk=> ?_⟩
  have:=hg.sane k hk
  unfold p47 at this
  simp only [Bool.and_eq_true,decide_eq_true_eq] at this
  exact ⟨this.1,this.2.1⟩
theorem want_eq{s:Int}(h0:0≤s)(h4:s≤4):wantM s=wantR s:=by
 have:s=0∨s=1∨s=2∨s=3∨s=4:=by omega
 rcases this with rfl | rfl | rfl | rfl | rfl <;> rfl
theorem ask_eq{steps parts:List D}{k:Nat}(h0:0≤fi 0 (parts.getD k .nilp))(h4:fi 0 (parts.getD k .nilp)≤4):askM steps parts k=askR steps parts k:=by
 unfold askM askR
 rw [want_eq h0 h4]
def marksFrom(x:D)(k d:Nat):List D:=((List.range' k d).filter (askM (fl 4 x) (fl 7 x))).map (markM (fi 0 x) (fi 1 x) (fl 2 x) (fl 4 x) (fl 7 x))
def sagaL(x:D):List D:=marksFrom x 0 (fl 7 x).length
def marksL(ss:List D):List D:=ss.flatMap sagaL
def setM(kv:List (D×D))(m:D):List (D×D):=kvSet (.str (fs 0 m)) m kv
def prM(m:D):D×D:=(.str (fs 0 m),m)
theorem foldM_eq(x:D): ∀d k kv,foldM (fi 0 x) (fi 1 x) (fl 2 x) (fl 4 x) (fl 7 x) d k kv=(marksFrom x k d).foldl setM kv
 | 0,_,_=>rfl
 | d+1,k,kv=>by
  rw [foldM,foldM_eq x d (k+1)]
  unfold marksFrom stepM
  rw [List.range'_succ,List.filter_cons]
  cases askM (fl 4 x) (fl 7 x) k <;> rfl
theorem marksKV_eq(ss:List D):marksKV ss=(marksL ss).foldl setM []:=by
 unfold marksKV marksL
 rw [List.foldl_flatMap]
 congr 1
 funext kv x
 exact foldM_eq x _ 0 kv
theorem kvSet_new{s:List UInt8}{v:D}: ∀{l:List D},(∀m∈l,fs 0 m≠s)→kvSet (.str s) v (l.map prM)=l.map prM++[(.str s,v)]
 | [],_=>rfl
 | m :: l,h=>by
  have h1:(s==fs 0 m)=false:=beq_eq_false_iff_ne.2 fun e=>h m (by simp) e.symm
  simp only [List.map_cons,prM,kvSet,keyEq,h1,cond_false,List.cons_append]
  congr 1
  exact kvSet_new fun m' hm=>h m' (by simp [hm])
theorem setM_all: ∀{l l0:List D},(l0++l).Pairwise (fun a b=>fs 0 a≠fs 0 b)→l.foldl setM (l0.map prM)=(l0++l).map prM
 | [],l0,_=>by simp
 | m :: l,l0,h=>by
  have h1: ∀a∈l0,fs 0 a≠fs 0 m:=fun a ha=>(List.pairwise_append.1 h).2.2 a ha m (by simp)
  rw [List.foldl_cons]
  have e:setM (l0.map prM) m=(l0++[m]).map prM:=by
   unfold setM
   rw [kvSet_new h1,List.map_append];rfl
  rw [e,setM_all (by simpa using h)]
  simp
def mark5(m:D):List UInt8×Int×List UInt8×Int×Int:=(fs 0 m,fi 1 m,fs 2 m,fi 3 m,fi 4 m)
theorem kvGet_map(s:List UInt8)(z:D): ∀l:List D,(∃m∈l,fs 0 m=s∧kvGet (.str s) z (l.map prM)=m)∨(∀m∈l,fs 0 m≠s)∧kvGet (.str s) z (l.map prM)=z
 | []=> .inr ⟨by simp,rfl⟩
 | m :: l=>by
  simp only [List.map_cons,prM,kvGet,keyEq]
  cases h:(s==fs 0 m)
  ·have hne:fs 0 m≠s:=fun e=>by rw [e] at h;simp at h
   rw [cond_false]
   rcases kvGet_map s z l with ⟨m',hm,e1,e2⟩ | ⟨h1,h2⟩
   ·exact .inl ⟨m',by simp [hm],e1,e2⟩
   ·exact .inr ⟨fun a ha=>by rcases List.mem_cons.1 ha with rfl | ha;exact hne;exact h1 a ha,h2⟩
  ·exact .inl ⟨m,by simp,(beq_iff_eq.1 h).symm,rfl⟩
theorem pw_ne: ∀{l:List D},l.Pairwise (fun a b=>fs 0 a≠fs 0 b)→ ∀{a b:D},a∈l→b∈l→a≠b→fs 0 a≠fs 0 b
 | [],_,_,_,h,_,_=>by cases h
 | x :: l,hp,a,b,ha,hb,hne=>by
  obtain ⟨h1,h2⟩:=List.pairwise_cons.1 hp
  rcases List.mem_cons.1 ha with rfl | ha'
  ·rcases List.mem_cons.1 hb with rfl | hb'
   ·exact absurd rfl hne
   ·exact h1 b hb'
  ·rcases List.mem_cons.1 hb with rfl | hb'
   ·exact (h1 a ha').symm
   ·exact pw_ne h2 ha' hb' hne
theorem mkEq_iff{l:List D}{x:D}(hp:l.Pairwise (fun a b=>fs 0 a≠fs 0 b))(h4:fi 4 x≠0):mkEq (l.map prM) x=true↔mark5 x∈l.map mark5:=by
 unfold mkEq
 simp only [Bool.and_eq_true,beq_iff_eq,and_true]
 rcases kvGet_map (fs 0 x) zMrk l with ⟨m,hm,e1,e2⟩ | ⟨h1,h2⟩
 ·rw [e2,List.mem_map]
  constructor
  ·rintro ⟨a,b,c,d,e⟩
   exact ⟨m,hm,by simp only [mark5,a,b,c,d,e]⟩
  ·rintro ⟨m',hm',e⟩
   simp only [mark5,Prod.mk.injEq] at e
   have:m'=m:=by
    by_cases he:m'=m
    ·exact he
    ·exact absurd (e.1.trans e1.symm) (pw_ne hp hm' hm he)
   subst this
   exact e
 ·rw [h2,List.mem_map]
  constructor
  ·rintro ⟨-,-,-,-,e⟩
   exact absurd e.symm h4
  ·rintro ⟨m',hm',e⟩
   simp only [mark5,Prod.mk.injEq] at e
   exact absurd e.1 (h1 m' hm')
theorem rising_inj{es:List D}(h:Rising es){i j:Nat}(hi:i<es.length)(hj:j<es.length)(e:fs 0 (es.getD i .nilp)=fs 0 (es.getD j .nilp)):i=j:=by
 have key: ∀a b:Nat,a<b→b<es.length→fs 0 (es.getD a .nilp)≠fs 0 (es.getD b .nilp):=fun a b hab hb he=>by
  have:=rising_lt h (d:=b - a - 1) (a:=a) (by omega)
  rw [show a+(b - a - 1)+1=b by omega,he,less_irr] at this
  cases this
 by_cases h1:i<j
 ·exact absurd e (key i j h1 hj)
 ·by_cases h2:j<i
  ·exact absurd e.symm (key j i h2 hi)
  ·omega
theorem hasM_iff{ms:List D}(h:Rising ms)(key:List UInt8)(w:Int)(x:D):hasM ms key w x=true↔(key,fi 0 x,fs 1 x,fi 2 x,w)∈ms.map mark5:=by
 unfold hasM
 simp only [Bool.and_eq_true,beq_iff_eq,and_true,decide_eq_true_eq,List.mem_map]
 constructor
 ·rintro ⟨h0,⟨h1,h2,h3⟩,h4⟩
  obtain ⟨p1,p2,-⟩:=idxOf_pos (show 0≤idxOf (fun x=>fs 0 x==key) ms from h0)
  rw [beq_iff_eq] at p2
  exact ⟨_,getD_mem p1,by simp only [mark5,Prod.mk.injEq];exact ⟨p2,h1,h2,h3,h4⟩⟩
 ·rintro ⟨y,hy,e⟩
  simp only [mark5,Prod.mk.injEq] at e
  obtain ⟨j,hj,rfl⟩:=mem_getD hy
  have h0:0≤nameIdx key ms:=idx_iff.2 ⟨j,hj,e.1⟩
  obtain ⟨p1,p2,-⟩:=idxOf_pos (show 0≤idxOf (fun x=>fs 0 x==key) ms from h0)
  rw [beq_iff_eq] at p2
  have:(idxOf (fun x=>fs 0 x==key) ms).toNat=j:=rising_inj h p1 hj (p2.trans e.1.symm)
  have:(nameIdx key ms).toNat=j:=this
  rw [this]
  exact ⟨h0,⟨e.2.1,e.2.2.1,e.2.2.2.1⟩,e.2.2.2.2⟩
theorem sub_len{α:Type} [BEq α] [LawfulBEq α]: ∀{A B:List α},A.Nodup→(∀a∈A,a∈B)→B.length≤A.length→ ∀b∈B,b∈A
 | [],B,_,_,hl,b,hb=>by
  cases B with
  | nil=>exact hb
  | cons c B=>simp at hl
 | a :: A,B,hn,hs,hl,b,hb=>by
  have hn:=List.nodup_cons.1 hn
  have ha:=hs a (by simp)
  by_cases he:b=a
  ·rw [he];simp
  ·have hlen:=List.length_erase_of_mem ha
   have:=sub_len (A:=A) (B:=B.erase a) hn.2 (fun c hc=>(List.mem_erase_of_ne (fun h=>hn.1 (by rw [←h];exact hc))).2 (hs c (by simp [hc]))) (by
    rw [hlen];rw [List.length_cons] at hl;omega) b ((List.mem_erase_of_ne he).2 hb)
   exact List.mem_cons_of_mem _ this
theorem idC_trans{a b c x y z:Int}{l m n:List D}(h1:idC a x l b y m<0)(h2:idC b y m c z n<0):idC a x l c z n<0:=by
 unfold idC at h1 h2 ⊢
 by_cases e0:a=b
 ·subst e0
  rw [show (a != a)=false by simp,cond_false] at h1
  by_cases f0:a=c
  ·subst f0
   rw [show (a != a)=false by simp,cond_false] at h2 ⊢
   by_cases e1:x=y
   ·subst e1
    rw [show (x != x)=false by simp,cond_false] at h1
    by_cases f1:x=z
    ·subst f1
     rw [show (x != x)=false by simp,cond_false] at h2 ⊢
     exact hopsC_trans h1 h2
    ·rw [show (x != z)=true from bne_iff_ne.2 f1] at h2 ⊢
     exact h2
   ·rw [show (x != y)=true from bne_iff_ne.2 e1] at h1
    have g1:=cmpI_lt.1 h1
    by_cases f1:y=z
    ·subst f1
     rw [show (x != y)=true from bne_iff_ne.2 e1]
     exact h1
    ·rw [show (y != z)=true from bne_iff_ne.2 f1] at h2
     have g2:=cmpI_lt.1 h2
     rw [show (x != z)=true from bne_iff_ne.2 (by omega)]
     exact cmpI_lt.2 (by omega)
  ·rw [show (a != c)=true from bne_iff_ne.2 f0] at h2 ⊢
   exact h2
 ·rw [show (a != b)=true from bne_iff_ne.2 e0] at h1
  have g1:=cmpI_lt.1 h1
  by_cases f0:b=c
  ·subst f0
   rw [show (a != b)=true from bne_iff_ne.2 e0]
   exact h1
  ·rw [show (b != c)=true from bne_iff_ne.2 f0] at h2
   have g2:=cmpI_lt.1 h2
   rw [show (a != c)=true from bne_iff_ne.2 (by omega)]
   exact cmpI_lt.2 (by omega)
def idcS(x y:D):Int:=idC (fi 0 x) (fi 1 x) (fl 2 x) (fi 0 y) (fi 1 y) (fl 2 y)
theorem cmpS_eq(x y:D):cmpS x y=idcS x y:=idCmp_eq _ _ _ _ _ _
theorem cmpR_eq(x y:D):cmpR x y=idcS x y:=refCmp_eq _ _ _ _ _ _
theorem sagaAt_eq(og co:Int)(ss:List D)(i:Nat):sagaAtR og co ss i=sagaAt og co ss i:=by
 unfold sagaAtR sagaAt sgLessR sgLess
 rw [cmpS_eq,cmpR_eq]
theorem sagas_lt{ss:List D}(h: ∀i,i<ss.length→sgLess ss i=true): ∀{d a:Nat},a+d+1<ss.length→idcS (ss.getD a .nilp) (ss.getD (a+d+1) .nilp)<0
 | 0,a,hd=>by
  have:=h (a+1) hd
  unfold sgLess at this
  rw [decide_eq_false (by omega),cmpS_eq] at this
  simpa using this
 | d+1,a,hd=>by
  have h1:=sagas_lt h (d:=d) (a:=a) (by omega)
  have h2:=h (a+(d+1)+1) hd
  unfold sgLess at h2
  rw [decide_eq_false (by omega),cmpS_eq] at h2
  have h2:idcS (ss.getD (a+d+1) .nilp) (ss.getD (a+(d+1)+1) .nilp)<0:=by simpa [Nat.add_assoc] using h2
  exact idC_trans h1 h2
theorem idC_ne{a b x y:Int}{l m:List D}(h:idC a x l b y m<0): ¬(a=b∧x=y∧l.map hopP=m.map hopP):=by
 rintro ⟨rfl,rfl,e⟩
 unfold idC at h
 rw [show (a != a)=false by simp,show (x != x)=false by simp,cond_false,cond_false,hopsC_zero.2 e] at h
 omega
theorem mayS_parts{x:D}(h:mayS x=true):(fl 7 x).length=(fl 4 x).length∧(fl 4 x).length≤8∧ ∀k,k<(fl 7 x).length→0≤fi 0 ((fl 7 x).getD k .nilp)∧fi 0 ((fl 7 x).getD k .nilp)≤4:=may_parts h
theorem keyM_eq{x:D}(h:mayS x=true){k:Nat}(hk:k<(fl 7 x).length):idOk (fi 0 x) (fi 1 x) (fl 2 x)=true∧keyM (fi 0 x) (fi 1 x) (fl 2 x) k=keyN (fi 0 x) (fi 1 x) (fl 2 x) k:=by
 have hid:idOk (fi 0 x) (fi 1 x) (fl 2 x)=true:=mayOk_id h
 have hp:=mayS_parts h
 refine ⟨hid,?_⟩
 unfold keyM keyOk
 rw [hid,decide_eq_true (show 0≤(k:Int) by omega),decide_eq_true (show (k:Int)<8 by omega)]
 rfl
theorem key_one{x y:D}(hx:mayS x=true)(hy:mayS y=true){k q:Nat}(hk:k<(fl 7 x).length)(hq:q<(fl 7 y).length)(e:keyM (fi 0 x) (fi 1 x) (fl 2 x) k=keyM (fi 0 y) (fi 1 y) (fl 2 y) q):
  (fi 0 x=fi 0 y∧fi 1 x=fi 1 y∧(fl 2 x).map hopP=(fl 2 y).map hopP)∧k=q:=by
 obtain ⟨i1,e1⟩:=keyM_eq hx hk
 obtain ⟨i2,e2⟩:=keyM_eq hy hq
 have p1:=mayS_parts hx
 have p2:=mayS_parts hy
 rw [e1,e2] at e
 obtain ⟨a,b,c,d⟩:=keyN_inj i1 i2 (show 0≤(k:Int)∧(k:Int)<8 by omega) (show 0≤(q:Int)∧(q:Int)<8 by omega) e
 exact ⟨⟨a,b,c⟩,by omega⟩
theorem mem_saga{x m:D}:m∈sagaL x↔ ∃k,k<(fl 7 x).length∧askM (fl 4 x) (fl 7 x) k=true∧markM (fi 0 x) (fi 1 x) (fl 2 x) (fl 4 x) (fl 7 x) k=m:=by
 unfold sagaL marksFrom
 simp only [List.mem_map,List.mem_filter,List.mem_range'_1,Nat.zero_add,Nat.zero_le,true_and,and_assoc]
theorem mark_key(rt nn:Int)(hops steps parts:List D)(k:Nat):fs 0 (markM rt nn hops steps parts k)=keyM rt nn hops k:=rfl
theorem marks_apart{ss:List D}(hm: ∀x∈ss,mayS x=true)(hl: ∀i,i<ss.length→sgLess ss i=true):(marksL ss).Pairwise (fun a b=>fs 0 a≠fs 0 b):=by
 unfold marksL
 rw [List.pairwise_flatMap]
 refine ⟨fun x hx=> ?_,?_⟩
 ·unfold sagaL marksFrom
  rw [List.pairwise_map]
  refine List.Pairwise.imp_of_mem ?_ ((List.pairwise_lt_range' (s:=0) (n:=(fl 7 x).length)).filter _)
  intro a b ha hb hab e
  rw [mark_key,mark_key] at e
  simp only [List.mem_filter,List.mem_range'_1] at ha hb
  have:=(key_one (hm x hx) (hm x hx) (by omega) (by omega) e).2
  omega
 ·rw [List.pairwise_iff_getElem]
  intro i j hi hj hij a ha b hb e
  obtain ⟨k,hk,-,rfl⟩:=mem_saga.1 ha
  obtain ⟨q,hq,-,rfl⟩:=mem_saga.1 hb
  rw [mark_key,mark_key] at e
  have h1:=(key_one (hm _ (List.getElem_mem hi)) (hm _ (List.getElem_mem hj)) hk hq e).1
  have h2:=sagas_lt hl (d:=j - i - 1) (a:=i) (by omega)
  rw [show i+(j - i - 1)+1=j by omega,List.getD_eq_getElem?_getD,List.getD_eq_getElem?_getD,List.getElem?_eq_getElem hi,List.getElem?_eq_getElem hj] at h2
  exact idC_ne h2 h1
theorem cntP_len{x:D}: ∀d k,(∀q,k≤q→q<k+d→askM (fl 4 x) (fl 7 x) q=askR (fl 4 x) (fl 7 x) q)→cntP (fl 4 x) (fl 7 x) d k=(marksFrom x k d).length
 | 0,_,_=>rfl
 | d+1,k,h=>by
  have ih:=cntP_len (x:=x) d (k+1) fun q h1 h2=>h q (by omega) (by omega)
  unfold marksFrom at ih ⊢
  rw [List.length_map] at ih ⊢
  rw [cntP,List.range'_succ,List.filter_cons,←h k (by omega) (by omega),ih]
  unfold one
  cases askM (fl 4 x) (fl 7 x) k
  ·simp
  ·simp;omega
theorem cntS_len{ss:List D}(h: ∀x∈ss,cntRs x=(sagaL x).length): ∀d i,i+d=ss.length→cntS ss d i=((ss.drop i).flatMap sagaL).length
 | 0,i,hi=>by rw [List.drop_of_length_le (by omega)];rfl
 | d+1,i,hi=>by
  have hlt:i<ss.length:=by omega
  rw [cntS,cntS_len h d (i+1) (by omega),List.drop_eq_getElem_cons hlt,List.flatMap_cons,List.length_append,List.getD_eq_getElem?_getD,List.getElem?_eq_getElem hlt]
  have:=h _ (List.getElem_mem hlt)
  simp only [Option.getD_some]
  omega
theorem allP_iff{ms:List D}{rt nn:Int}{hops steps parts:List D}: ∀d k,allP ms rt nn hops steps parts d k=true↔ ∀q,k≤q→q<k+d→ownB ms rt nn hops steps parts q=true
 | 0,k=>by simp only [allP,true_iff];intro q h1 h2;omega
 | d+1,k=>by
  rw [allP,Bool.and_eq_true,allP_iff d (k+1)]
  constructor
  ·rintro ⟨h1,h2⟩ q h3 h4
   by_cases he:q=k
   ·rw [he];exact h1
   ·exact h2 q (by omega) (by omega)
  ·intro h
   exact ⟨h k (by omega) (by omega),fun q h1 h2=>h q (by omega) (by omega)⟩
theorem allS_iff{ms:List D}{og co:Int}{ss:List D}: ∀d i,allS ms og co ss d i=true↔ ∀q,i≤q→q<i+d→sagaAtR og co ss q=true∧partsR ms (ss.getD q .nilp)=true
 | 0,i=>by simp only [allS,true_iff];intro q h1 h2;omega
 | d+1,i=>by
  rw [allS,Bool.and_eq_true,Bool.and_eq_true,allS_iff d (i+1)]
  constructor
  ·rintro ⟨h1,h2,h5⟩ q h3 h4
   by_cases he:q=i
   ·rw [he];exact ⟨h1,h2⟩
   ·exact h5 q (by omega) (by omega)
  ·intro h
   exact ⟨(h i (by omega) (by omega)).1,(h i (by omega) (by omega)).2,fun q h1 h2=>h q (by omega) (by omega)⟩
theorem led_marks{zas ms:List D}(h:ledOk zas ms=true):Rising ms∧ ∀y∈ms,fi 4 y≠0:=by
 unfold ledOk at h
 simp only [Bool.and_eq_true] at h
 have hk:=allN_iff.1 h.2.2.1
 have hk': ∀i,i<ms.length→prevLess ms i=true∧fi 4 (ms.getD i .nilp)≠0:=fun i hi=>by
  have:=hk i hi
  unfold mkOkAt at this
  simp only [Bool.and_eq_true,Bool.not_eq_true',decide_eq_false_iff_not] at this
  exact ⟨this.2.2.2.2.2,by omega⟩
 refine ⟨fun i hi=>(hk' i hi).1,fun y hy=> ?_⟩
 obtain ⟨i,hi,rfl⟩:=mem_getD hy
 exact (hk' i hi).2
theorem rising_nodup{ms:List D}(h:Rising ms):(ms.map mark5).Nodup:=by
 unfold List.Nodup
 rw [List.pairwise_map,List.pairwise_iff_getElem]
 intro i j hi hj hij e
 simp only [mark5,Prod.mk.injEq] at e
 have:=rising_inj h hi hj (by
  rw [List.getD_eq_getElem?_getD,List.getD_eq_getElem?_getD,List.getElem?_eq_getElem hi,List.getElem?_eq_getElem hj];exact e.1)
 omega
theorem core_same(og co:Int){zas ms:List D}(ss:List D)(hl:ledOk zas ms=true):
  (sagasOk og co ss&&marksOk ms ss)=(!decide (24<(ss.length:Int))&&(allS ms og co ss ss.length 0&&(((0+cntS ss ss.length 0:Nat):Int)==(ms.length:Int)))):=by
 obtain ⟨hr,h4⟩:=led_marks hl
 unfold sagasOk
 rw [Bool.and_assoc]
 cases decide (24<(ss.length:Int))
 case true=>rfl
 simp only [Bool.not_false,Bool.true_and]
 by_cases hS: ∀i,i<ss.length→sagaAt og co ss i=true
 case neg=>
  have h1:allN (sagaAt og co ss) ss.length=false:=by
   cases h:allN (sagaAt og co ss) ss.length
   ·rfl
   ·exact absurd (allN_iff.1 h) hS
  have h2:allS ms og co ss ss.length 0=false:=by
   cases h:allS ms og co ss ss.length 0
   ·rfl
   ·refine absurd (fun i hi=> ?_) hS
    rw [←sagaAt_eq]
    exact ((allS_iff _ _).1 h i (by omega) (by omega)).1
  rw [h1,h2];rfl
 rw [allN_iff.2 hS,Bool.true_and]
 have hat: ∀i,i<ss.length→mayS (ss.getD i .nilp)=true∧sgLess ss i=true:=fun i hi=>by
  have:=hS i hi
  unfold sagaAt at this
  simp only [Bool.and_eq_true] at this
  exact ⟨this.1,this.2.2.2⟩
 have hmay: ∀x∈ss,mayS x=true:=fun x hx=>by
  obtain ⟨i,hi,rfl⟩:=mem_getD hx
  exact (hat i hi).1
 have hap:=marks_apart hmay fun i hi=>(hat i hi).2
 have hask: ∀x∈ss,∀q,q<(fl 7 x).length→askM (fl 4 x) (fl 7 x) q=askR (fl 4 x) (fl 7 x) q:=fun x hx q hq=>by
  have:=(mayS_parts (hmay x hx)).2.2 q hq
  exact ask_eq this.1 this.2
 have hcnt:cntS ss ss.length 0=(marksL ss).length:=by
  have:=cntS_len (ss:=ss) (fun x hx=>cntP_len (x:=x) _ 0 fun q _ h2=>hask x hx q (by omega)) ss.length 0 (by omega)
  rw [List.drop_zero] at this
  exact this
 have hkv:marksKV ss=(marksL ss).map prM:=by
  rw [marksKV_eq]
  have:=setM_all (l:=marksL ss) (l0:=[]) (by simpa using hap)
  simpa using this
 have hnd:((marksL ss).map mark5).Nodup:=by
  unfold List.Nodup
  rw [List.pairwise_map]
  exact hap.imp fun h e=>h (by simp only [mark5,Prod.mk.injEq] at e;exact e.1)
 rw [Nat.zero_add,hcnt]
 have hall:allS ms og co ss ss.length 0=true↔ ∀b∈(marksL ss).map mark5,b∈ms.map mark5:=by
  rw [allS_iff]
  constructor
  ·intro h b hb
   obtain ⟨m,hm,rfl⟩:=List.mem_map.1 hb
   obtain ⟨x,hx,hmx⟩:=List.mem_flatMap.1 hm
   obtain ⟨k,hk,hak,rfl⟩:=mem_saga.1 hmx
   obtain ⟨i,hi,rfl⟩:=mem_getD hx
   have h1:=(h i (by omega) (by omega)).2
   unfold partsR at h1
   have h2:=(allP_iff _ _).1 h1 k (by omega) (by omega)
   unfold ownB at h2
   have h3:=hask _ hx k hk
   rw [←h3,hak,cond_true] at h2
   unfold ownM at h2
   have h5:=(hasM_iff hr _ _ _).1 h2
   have p:=(mayS_parts (hmay _ hx)).2.2 k hk
   rw [←want_eq p.1 p.2] at h5
   exact h5
  ·intro h i _ hi
   have hi:i<ss.length:=by omega
   have hx:=getD_mem hi
   refine ⟨by rw [sagaAt_eq];exact hS i hi,?_⟩
   unfold partsR
   rw [allP_iff]
   intro k _ hk
   have hk:k<(fl 7 (ss.getD i .nilp)).length:=by omega
   unfold ownB
   rw [←hask _ hx k hk]
   cases hak:askM (fl 4 (ss.getD i .nilp)) (fl 7 (ss.getD i .nilp)) k
   ·rfl
   ·rw [cond_true]
    unfold ownM
    rw [hasM_iff hr]
    have p:=(mayS_parts (hmay _ hx)).2.2 k hk
    rw [←want_eq p.1 p.2]
    exact h _ (List.mem_map.2 ⟨_,List.mem_flatMap.2 ⟨_,hx,mem_saga.2 ⟨k,hk,hak,rfl⟩⟩,rfl⟩)
 have hmk:allN (fun i=>mkEq (marksKV ss) (ms.getD i .nilp)) ms.length=true↔ ∀b∈ms.map mark5,b∈(marksL ss).map mark5:=by
  rw [allN_iff,hkv]
  constructor
  ·intro h b hb
   obtain ⟨y,hy,rfl⟩:=List.mem_map.1 hb
   obtain ⟨i,hi,rfl⟩:=mem_getD hy
   exact (mkEq_iff hap (h4 _ hy)).1 (h i hi)
  ·intro h i hi
   have hy:=getD_mem hi
   exact (mkEq_iff hap (h4 _ hy)).2 (h _ (List.mem_map.2 ⟨_,hy,rfl⟩))
 unfold marksOk
 rw [Bool.eq_iff_iff,Bool.and_eq_true,Bool.and_eq_true,hmk,hall,hkv,List.length_map]
 simp only [Bool.not_eq_true',bne_eq_false_iff_eq,beq_iff_eq]
 constructor
 ·rintro ⟨h1,h2⟩
  exact ⟨sub_len (rising_nodup hr) h2 (by simp only [List.length_map];omega),h1⟩
 ·rintro ⟨h1,h2⟩
  exact ⟨h2,sub_len hnd h1 (by simp only [List.length_map];omega)⟩
theorem may_same(og ep co:Int)(zas ms bs ss:List D):mayP og ep co zas ms bs ss=mayR og ep co zas ms bs ss:=by
 unfold mayP mayR
 have e:decide (16≤og)=decide (15<og):=by
  by_cases h:16≤og
  ·rw [decide_eq_true h,decide_eq_true (by omega)]
  ·rw [decide_eq_false h,decide_eq_false (by omega)]
 rw [e]
 cases hl:ledOk zas ms
 ·simp only [Bool.false_and,Bool.and_false]
 ·rw [core_same og co ss hl]
  generalize allS ms og co ss ss.length 0=a
  generalize (((0+cntS ss ss.length 0:Nat):Int)==(ms.length:Int))=b
  generalize (!decide (24<(ss.length:Int)))=c
  cases bookOk bs <;> cases a <;> cases b <;> cases c <;> rfl
theorem sagas_run{og co:Int}{ss:List D}(h:sagasOk og co ss=true):marksRun ss=true:=by
 unfold sagasOk at h
 simp only [Bool.and_eq_true,Bool.not_eq_true',decide_eq_false_iff_not,allN_iff] at h
 unfold marksRun
 rw [decide_eq_true (show ss.length≤1000000 by omega),Bool.true_and,allN_iff]
 intro i hi
 have:=h.2 i hi
 unfold sagaAt at this
 simp only [Bool.and_eq_true] at this
 obtain ⟨h1,h2,h3⟩:=mayS_parts this.1
 unfold sagaRun
 rw [decide_eq_true (show (fl 7 (ss.getD i .nilp)).length≤1000 by omega),Bool.true_and,allN_iff]
 intro k hk
 have:=h3 k hk
 unfold partRun
 rw [decide_eq_true (show k<(fl 4 (ss.getD i .nilp)).length by omega),decide_eq_true (show 0≤fi 0 ((fl 7 (ss.getD i .nilp)).getD k .nilp)∧fi 0 ((fl 7 (ss.getD i .nilp)).getD k .nilp)<5 by omega)]
 simp
def sgsIn(ss:List D):Bool:=allN (fun i=>sgIn (ss.getD i .nilp)) ss.length
theorem sgs_hops{ss:List D}(h:sgsIn ss=true): ∀k,k<ss.length→(fl 2 (ss.getD k .nilp)).length≤1000000:=fun k hk=>by
 have:=allN_iff.1 h k hk
 unfold sgIn at this
 simp only [Bool.and_eq_true,decide_eq_true_eq] at this
 exact this.2.2
def gMay:List D→Tree (List D)
 | [.agg [.int .i64 og,.int .i64 ep,.int .i64 co,.sl ea _na zas,.sl em _nm ms,.sl eb _nb bs,.sl es _ns ss]]=>
  match Sh.beq ea accSh&&(Sh.beq em mrkSh&&(Sh.beq eb defSh&&Sh.beq es sgSh)) with
  | true=> .ite (sgsIn ss) (fun _=> .ret [.int .i64 (bif mayR og ep co zas ms bs ss then 0 else 230)]) (fun _=> .stuck)
  | false=> .stuck
 | _=> .stuck
theorem pureM51{P:Program}(hm:P.follows .mixedOrders=true)(h0:EnvOK P Mg):PureOK P 27 gMay:=PureOK.run hm h0 fun ds rs h=>by
 unfold gMay at h
 split at h
 ·rename_i og ep' co ea na zas em nm ms eb nb bs es ns ss
  split at h
  ·rename_i hb
   simp only [Bool.and_eq_true] at hb
   obtain ⟨hb1,hb2,hb3,hb4⟩:=hb
   have hb1:=Sh.beq_eq hb1
   have hb2:=Sh.beq_eq hb2
   have hb3:=Sh.beq_eq hb3
   have hb4:=Sh.beq_eq hb4
   subst hb1 hb2 hb3 hb4
   obtain ⟨hg,h'⟩:=eval_guard h
   clear h
   cases h'
   rw [←may_same]
   exact ⟨1999+1,by rw [callN_succ (fn:=c27) rfl];exact rn51 1959 1999 og ep' co na nm nb ns zas ms bs ss hg sagas_run (by omega)⟩
  ·cases h
 ·cases h
theorem pureM57{P:Program}(hm:P.follows .mixedOrders=true)(h0:EnvOK P Mi):PureOK P 28 gMay:=PureOK.run hm h0 fun ds rs h=>by
 unfold gMay at h
 split at h
 ·rename_i og ep' co ea na zas em nm ms eb nb bs es ns ss
  split at h
  ·rename_i hb
   simp only [Bool.and_eq_true] at hb
   obtain ⟨hb1,hb2,hb3,hb4⟩:=hb
   have hb1:=Sh.beq_eq hb1
   have hb2:=Sh.beq_eq hb2
   have hb3:=Sh.beq_eq hb3
   have hb4:=Sh.beq_eq hb4
   subst hb1 hb2 hb3 hb4
   obtain ⟨hg,h'⟩:=eval_guard h
   clear h
   cases h'
   exact ⟨1999+1,by rw [callN_succ (fn:=c28) rfl];exact rn57 1959 1999 og ep' co na nm nb ns zas ms bs ss (by omega) (fun i _ hm=>by have:=mayS_parts hm;omega) (sgs_hops hg)⟩
  ·cases h
 ·cases h
def Mp:Env:=(Mi.pureAt 27 true gMay).pureAt 28 true gMay
theorem okMp{P:Program}(hm:P.follows .mixedOrders=true)(hg:EnvOK P Mg)(h:EnvOK P Mi):EnvOK P Mp:=(h.pureAt (pureM51 hm hg)).pureAt (pureM57 hm h)
def moveSh:Sh:= .agg [.int .i64,.int .i64,.int .i64,.sl hopSh,.int .i64,.int .i64,.str,.sl stepSh]
def Mq:Env:=Mp
theorem okMq{P:Program}(h:EnvOK P Mp):EnvOK P Mq:=h
def stD(og ep co:Int)(na nm nb ns:Bool)(zas ms bs ss:List D):D:= .agg [.int .i64 og,.int .i64 ep,.int .i64 co,.sl accSh na zas,.sl mrkSh nm ms,.sl defSh nb bs,.sl sgSh ns ss]
theorem x159(m n:Nat)(ns:Bool)(ss:List D)(r q:Int)(nil:Bool)(es:List D):Tree.outG (enterM Mq (callN Mq (m+40)) n c129 [.d (.sl sgSh ns ss),.d (.agg [.int .i64 r,.int .i64 q,.sl hopSh nil es]),.fn 130 [] []] [])=Tree.outG (resume Mq (callN Mq (m+40)) n n 0 c129 { fr:=frame 49 [(0,V.d (D.sl sgSh ns ss)),(2,V.fn 130 [] []),(4,V.ptr 320 0),(8,V.d (D.int .i64 (ss.length:Int))),(9,V.d (D.int .i64 0)),(10,V.d (D.int .i64 (ss.length:Int)))],ob:=[(320,Obj.box [V.d (D.int .i64 r),V.d (D.int .i64 q),V.d (D.sl hopSh nil es)])] }):=by kernel_rfl
theorem x119(m n:Nat)(og ep co:Int)(na nm' nb ns:Bool)(zas ms bs ss:List D)(r q:Int)(nil:Bool)(es:List D):Tree.out (enterM Mq (callN Mq (m+40)) n c70 [.d (stD og ep co na nm' nb ns zas ms bs ss),.d (.agg [.int .i64 r,.int .i64 q,.sl hopSh nil es])] [])=Tree.out (resume Mq (callN Mq (m+40)) n n 0 c70 { fr:=frame 22 [(2,V.ptr 192 0),(3,V.ptr 256 0),(5,V.d (D.int .i64 0))],ob:=[(192,Obj.box [V.d (D.int .i64 og),V.d (D.int .i64 ep),V.d (D.int .i64 co),V.d (D.sl accSh na zas),V.d (D.sl mrkSh nm' ms),V.d (D.sl defSh nb bs),V.d (D.sl sgSh ns ss)]),(256,Obj.box [V.d (D.int .i64 r),V.d (D.int .i64 q),V.d (D.sl hopSh nil es)])] }):=by kernel_rfl
def noteSh:Sh:= .agg [.int .i64,.int .i64,.int .i64,.sl hopSh,.str,.int .i64]
abbrev idV(r q:Int)(nil:Bool)(es:List D):AM.Obj:= .box [V.d (D.int .i64 r),V.d (D.int .i64 q),V.d (D.sl hopSh nil es)]
def v159(ns:Bool)(ss:List D)(r q:Int)(nil:Bool)(es:List D)(i j:Int):St:= { fr:=frame 49 [(0,V.d (D.sl sgSh ns ss)),(2,V.fn 130 [] []),(4,V.ptr 320 0),(8,V.d (D.int .i64 (ss.length:Int))),(9,V.d (D.int .i64 i)),(10,V.d (D.int .i64 j))],ob:=[(320,idV r q nil es)] }
theorem y159(m n f:Nat)(ns:Bool)(ss:List D)(r q:Int)(nil:Bool)(es:List D)(i j:Int):Tree.outG (resume Mq (callN Mq (m+40)) n (f+1) 0 c129 (v159 ns ss r q nil es i j))=bif decide (i<j) then bif decide (0≤IntKind.wrap .i64 (Int.fdiv (IntKind.wrap .u64 (IntKind.wrap .i64 (i+j))) 2)∧IntKind.wrap .i64 (Int.fdiv (IntKind.wrap .u64 (IntKind.wrap .i64 (i+j))) 2)<(ss.length:Int)) then bif decide (List.length (fl 2 (List.getD ss (Int.toNat (IntKind.wrap .i64 (Int.fdiv (IntKind.wrap .u64 (IntKind.wrap .i64 (i+j))) 2))) D.nilp))≤1000000) then bif decide (idCmp (fi 0 (List.getD ss (Int.toNat (IntKind.wrap .i64 (Int.fdiv (IntKind.wrap .u64 (IntKind.wrap .i64 (i+j))) 2))) D.nilp)) (fi 1 (List.getD ss (Int.toNat (IntKind.wrap .i64 (Int.fdiv (IntKind.wrap .u64 (IntKind.wrap .i64 (i+j))) 2))) D.nilp)) r q (fl 2 (List.getD ss (Int.toNat (IntKind.wrap .i64 (Int.fdiv (IntKind.wrap .u64 (IntKind.wrap .i64 (i+j))) 2))) D.nilp)) es<0) then Tree.outG (resume Mq (callN Mq (m+40)) n f 0 c129 (v159 ns ss r q nil es (IntKind.wrap .i64 (IntKind.wrap .i64 (Int.fdiv (IntKind.wrap .u64 (IntKind.wrap .i64 (i+j))) 2)+1)) j)) else Tree.outG (resume Mq (callN Mq (m+40)) n f 0 c129 (v159 ns ss r q nil es i (IntKind.wrap .i64 (Int.fdiv (IntKind.wrap .u64 (IntKind.wrap .i64 (i+j))) 2)))) else none else none else bif decide (i<(ss.length:Int)) then bif decide (0≤i∧i<(ss.length:Int)) then bif decide (List.length (fl 2 (ss.getD i.toNat .nilp))≤1000000) then some (V.tup [V.d (D.int .i64 i),V.d (D.bool (idCmp (fi 0 (ss.getD i.toNat .nilp)) (fi 1 (ss.getD i.toNat .nilp)) r q (fl 2 (ss.getD i.toNat .nilp)) es==0))],[]) else none else none else some (V.tup [V.d (D.int .i64 i),V.d (D.bool false)],[]):=by kernel_rfl
def v119(og ep co:Int)(na nm' nb ns:Bool)(zas ms bs ss:List D)(r q:Int)(nil:Bool)(es:List D)(i:Int):St:= { fr:=frame 22 [(2,V.ptr 192 0),(3,V.ptr 256 0),(5,V.d (D.int .i64 i))],ob:=[(192,HS og ep co na nm' nb ns zas ms bs ss),(256,idV r q nil es)] }
theorem y119(m n f:Nat)(og ep co:Int)(na nm' nb ns:Bool)(zas ms bs ss:List D)(r q:Int)(nil:Bool)(es:List D)(i:Int):Tree.out (resume Mq (callN Mq (m+40)) n (f+1) 0 c70 (v119 og ep co na nm' nb ns zas ms bs ss r q nil es i))=bif decide (i<(ss.length:Int)) then bif decide (0≤i∧i<(ss.length:Int)) then bif decide (List.length (fl 2 (ss.getD i.toNat .nilp))≤1000000) then bif refCmp (fi 0 (ss.getD i.toNat .nilp)) (fi 1 (ss.getD i.toNat .nilp)) (fl 2 (ss.getD i.toNat .nilp)) r q es==0 then some [D.int .i64 i] else Tree.out (resume Mq (callN Mq (m+40)) n f 0 c70 (v119 og ep co na nm' nb ns zas ms bs ss r q nil es (IntKind.wrap .i64 (i+1)))) else none else none else some [D.int .i64 (-1)]:=by kernel_rfl
theorem x50(m n:Nat)(nb:Bool)(bs:List D):Tree.out (enterM Mq (callN Mq (m+40)) n c48 [.d (.sl defSh nb bs)] [])=bif decide (100<(bs.length:Int)) then some [D.bool false] else Tree.out (resume Mq (callN Mq (m+40)) n n 0 c48 { fr:=frame 20 [(0,V.d (D.sl defSh nb bs)),(3,V.d (D.int .i64 0))],ob:=[] }):=by kernel_rfl
def v50(nb:Bool)(bs:List D)(i:Int):St:= { fr:=frame 20 [(0,V.d (D.sl defSh nb bs)),(3,V.d (D.int .i64 i))],ob:=[] }
theorem y50(m n f:Nat)(nb:Bool)(bs:List D)(i:Int):Tree.out (resume Mq (callN Mq (m+40)) n (f+1) 0 c48 (v50 nb bs i))=bif decide (i<(bs.length:Int)) then bif decide (0≤i∧i<(bs.length:Int)) then bif decide (100<(↑(List.length (fl 1 (bs.getD i.toNat .nilp))):Int)) then some [D.bool false] else Tree.out (resume Mq (callN Mq (m+40)) n f 0 c48 (v50 nb bs (IntKind.wrap .i64 (i+1)))) else none else some [D.bool true]:=by kernel_rfl
theorem bs_loop{α:Type}(R:Nat→Nat→Nat→Option α)(n:Nat)(p:Nat→Bool)(fin:Nat→α)
  (hstop: ∀g i j,¬i<j→i≤n→R (g+1) i j=some (fin i))
  (hstep: ∀g i j,i<j→j≤n→R (g+1) i j=bif p ((i+j) / 2) then R g ((i+j) / 2+1) j else R g i ((i+j) / 2)):
  ∀f i j g,j - i≤f→f<g→i≤n→j≤n→R g i j=some (fin (bsF p f i j)):=by
 intro f
 induction f with
 | zero=>
  intro i j g hf hg hi hj
  cases g with
  | zero=>omega
  | succ g=>exact hstop g i j (by omega) hi
 | succ f ih=>
  intro i j g hf hg hi hj
  cases g with
  | zero=>omega
  | succ g=>
   by_cases hij:i<j
   ·rw [hstep g i j hij hj]
    simp only [bsF]
    rw [decide_eq_true hij,cond_true]
    cases p ((i+j) / 2)
    ·exact ih i ((i+j) / 2) g (by omega) (by omega) hi (by omega)
    ·exact ih ((i+j) / 2+1) j g (by omega) (by omega) (by omega) hj
   ·rw [hstop g i j hij hi]
    simp only [bsF]
    rw [decide_eq_false hij,cond_false]
def cmpAt(r q:Int)(es ss:List D)(i:Nat):Int:=idCmp (fi 0 (ss.getD i .nilp)) (fi 1 (ss.getD i .nilp)) r q (fl 2 (ss.getD i .nilp)) es
def plcS(r q:Int)(es ss:List D):Nat:=bsF (fun i=>decide (cmpAt r q es ss i<0)) ss.length 0 ss.length
def foundS(r q:Int)(es ss:List D)(i:Nat):Bool:=bif decide ((i:Int)<(ss.length:Int)) then cmpAt r q es ss i==0 else false
def thereS(r q:Int)(es ss:List D):Bool:=foundS r q es ss (plcS r q es ss)
theorem rn159(m n:Nat)(ns:Bool)(ss:List D)(r q:Int)(nil:Bool)(es:List D)(hl:ss.length≤1000000)(h2: ∀k,k<ss.length→(fl 2 (ss.getD k .nilp)).length≤1000000)(hn:ss.length<n):
  (enterM Mq (callN Mq (m+40)) n c129 [.d (.sl sgSh ns ss),.d (.agg [.int .i64 r,.int .i64 q,.sl hopSh nil es]),.fn 130 [] []] []).outG=some (.tup [.d (.int .i64 (plcS r q es ss:Nat)),.d (.bool (thereS r q es ss))],[]):=by
 rw [x159]
 refine bs_loop (fun g i j=>(resume Mq (callN Mq (m+40)) n g 0 c129 (v159 ns ss r q nil es (i:Nat) (j:Nat))).outG) ss.length (fun i=>decide (cmpAt r q es ss i<0)) (fun i=>((.tup [.d (.int .i64 (i:Nat)),.d (.bool (foundS r q es ss i))],[]):V×Obs)) (fun g i j hij hi=> ?_) (fun g i j hij hj=> ?_) ss.length 0 ss.length n (by omega) hn (by omega) (by omega)
 ·show (resume Mq (callN Mq (m+40)) n (g+1) 0 c129 (v159 ns ss r q nil es (i:Nat) (j:Nat))).outG=_
  rw [y159]
  refine (cf (decide_eq_false (by omega))).trans ?_
  unfold foundS
  by_cases hlt:i<ss.length
  ·simp only [Int.toNat_natCast]
   refine (ct (dec_lt hlt)).trans ((ct (dec_ix hlt)).trans ((ct (decide_eq_true (h2 i hlt))).trans ?_))
   rw [dec_lt hlt];rfl
  ·have:decide ((i:Int)<(ss.length:Int))=false:=decide_eq_false (by omega)
   refine (cf this).trans ?_
   rw [this];rfl
 ·show (resume Mq (callN Mq (m+40)) n (g+1) 0 c129 (v159 ns ss r q nil es (i:Nat) (j:Nat))).outG=_
  have hh:=half (i:=i) (j:=j) (by omega) (by omega)
  have hlt:(i+j) / 2<ss.length:=by omega
  rw [y159,hh]
  simp only [Int.toNat_natCast,wrap_up hlt hl]
  refine (ct (decide_eq_true (by omega))).trans ((ct (dec_ix hlt)).trans ((ct (decide_eq_true (h2 _ hlt))).trans ?_))
  rfl
def C159(args:List V)(ob:Obs):Tree (V×Obs):=
 match args,ob with
 | [.d (.sl e _ns ss),.d (.agg [.int .i64 r,.int .i64 q,.sl eh _nil es]),.fn f [] []],[]=>match Sh.beq e sgSh&&(Sh.beq eh hopSh&&Nat.beq f 130) with
  | true=> .ite (sgsIn ss&&decide (ss.length≤1000000)) (fun _=> .ret (.tup [.d (.int .i64 (plcS r q es ss:Nat)),.d (.bool (thereS r q es ss))],[])) (fun _=> .stuck)
  | false=> .stuck
 | _,_=> .stuck
theorem fn159{P:Program}(hm:P.follows .mixedOrders=true)(h0:EnvOK P Mq):FnOK P 129 C159:=FnOK.runG hm h0 fun args ob r h=>by
 unfold C159 at h
 split at h
 ·rename_i e ns ss r q eh nil es f
  split at h
  ·rename_i hb
   simp only [Bool.and_eq_true] at hb
   have hb1:=Sh.beq_eq hb.1
   have hb2:=Sh.beq_eq hb.2.1
   have hb3:=Nat.eq_of_beq_eq_true hb.2.2
   subst hb1 hb2 hb3
   obtain ⟨hg,h'⟩:=eval_guard h
   clear h
   simp only [Bool.and_eq_true,decide_eq_true_eq] at hg
   cases h'
   exact ⟨(ss.length+40)+1,by rw [callN_succ (fn:=c129) rfl];exact rn159 ss.length (ss.length+40) ns ss r q nil es hg.2 (sgs_hops hg.1) (by omega)⟩
  ·cases h
 ·cases h
def idxS(r q:Int)(es ss:List D):Int:=idxOf (fun x=>refCmp (fi 0 x) (fi 1 x) (fl 2 x) r q es==0) ss
theorem rn119(m n:Nat)(og ep co:Int)(na nm' nb ns:Bool)(zas ms bs ss:List D)(r q:Int)(nil:Bool)(es:List D)(hl:ss.length≤1000000)(h2: ∀k,k<ss.length→(fl 2 (ss.getD k .nilp)).length≤1000000)(hn:ss.length<n):
  (enterM Mq (callN Mq (m+40)) n c70 [.d (stD og ep co na nm' nb ns zas ms bs ss),.d (.agg [.int .i64 r,.int .i64 q,.sl hopSh nil es])] []).out=some [.int .i64 (idxS r q es ss)]:=by
 rw [x119]
 have:=scan_loop (fun j i=>(resume Mq (callN Mq (m+40)) n j 0 c70 (v119 og ep co na nm' nb ns zas ms bs ss r q nil es (i:Nat))).out) ss.length (fun i=>refCmp (fi 0 (ss.getD i .nilp)) (fi 1 (ss.getD i .nilp)) (fl 2 (ss.getD i .nilp)) r q es==0) (fun i=>[D.int .i64 (i:Int)]) [.int .i64 (-1)]
  (fun j i hi=> ?_) (fun j=> ?_) ss.length 0 n (by omega) hn
 ·refine this.trans ?_
  rw [scan_map (fun x:Int=>[D.int .i64 x])]
  unfold idxS
  rw [←scan_idx0 (fun x=>refCmp (fi 0 x) (fi 1 x) (fl 2 x) r q es==0) .nilp ss]
 ·rw [y119]
  simp only [Int.toNat_natCast,wrap_up hi hl]
  exact (ct (dec_lt hi)).trans ((ct (dec_ix hi)).trans (ct (decide_eq_true (h2 i hi))))
 ·rw [y119]
  exact cf (dec_end _)
theorem scan_boolD(p:Nat→Bool)(n:Nat):scan (fun i=> !p i) (fun _=>[D.bool false]) [D.bool true] n 0=[D.bool (allN p n)]:=by
 unfold allN
 exact scan_map (fun x:Bool=>[D.bool x]) (fun i=> !p i) (fun _=>false) true n 0
def fewB(bs:List D):Bool:= !decide (100<(bs.length:Int))&&allN (fun i=> !decide (100<((fl 1 (bs.getD i .nilp)).length:Int))) bs.length
theorem rn50(m n:Nat)(nb:Bool)(bs:List D)(hn:100<n):(enterM Mq (callN Mq (m+40)) n c48 [.d (.sl defSh nb bs)] []).out=some [.bool (fewB bs)]:=by
 rw [x50]
 unfold fewB
 by_cases h:100<(bs.length:Int)
 ·rw [decide_eq_true h];rfl
 ·rw [decide_eq_false h]
  refine (cf rfl).trans ?_
  have:=scan_loop (fun j i=>(resume Mq (callN Mq (m+40)) n j 0 c48 (v50 nb bs (i:Nat))).out) bs.length (fun i=> !!decide (100<((fl 1 (bs.getD i .nilp)).length:Int))) (fun _=>[D.bool false]) [.bool true]
   (fun j i hi=> ?_) (fun j=> ?_) bs.length 0 n (by omega) (by omega)
  ·refine this.trans ?_
   rw [scan_boolD (fun i=> !decide (100<((fl 1 (bs.getD i .nilp)).length:Int)))]
   rfl
  ·rw [y50,Bool.not_not]
   simp only [Int.toNat_natCast,wrap_up hi (show bs.length≤1000000 by omega)]
   exact (ct (dec_lt hi)).trans (ct (dec_ix hi))
  ·rw [y50]
   exact cf (dec_end _)
def g119m:List D→Tree (List D)
 | [.agg [.int .i64 _og,.int .i64 _ep,.int .i64 _co,.sl e0a _na _as,.sl e0m _nm _ms,.sl e0b _nb _bs,.sl e0s _ns ss],.agg [.int .i64 r,.int .i64 q,.sl e1 _nil es]]=>match Sh.beq e0a accSh&&Sh.beq e0m mrkSh&&Sh.beq e0b defSh&&Sh.beq e0s sgSh&&Sh.beq e1 hopSh with
  | true=> .ite (sgsIn ss&&decide (ss.length≤1000000)) (fun _=> .ret [.int .i64 (idxS r q es ss)]) (fun _=> .stuck)
  | false=> .stuck
 | _=> .stuck
theorem pure119m{P:Program}(hm:P.follows .mixedOrders=true)(h0:EnvOK P Mq):PureOK P 70 g119m:=PureOK.run hm h0 fun ds rs h=>by
 unfold g119m at h
 split at h
 ·rename_i og ep co e0a na zas e0m nm ms e0b nb bs e0s ns ss r q e1 nil es
  split at h
  ·rename_i hb
   simp only [Bool.and_eq_true] at hb
   obtain ⟨⟨⟨⟨hb0,hb1⟩,hb2⟩,hb3⟩,hb4⟩:=hb
   have hb0:=Sh.beq_eq hb0
   have hb1:=Sh.beq_eq hb1
   have hb2:=Sh.beq_eq hb2
   have hb3:=Sh.beq_eq hb3
   have hb4:=Sh.beq_eq hb4
   subst hb0 hb1 hb2 hb3 hb4
   obtain ⟨hg,h'⟩:=eval_guard h
   clear h
   simp only [Bool.and_eq_true,decide_eq_true_eq] at hg
   cases h'
   exact ⟨(ss.length+40)+1,by rw [callN_succ (fn:=c70) rfl];exact rn119 ss.length (ss.length+40) og ep co na nm nb ns zas ms bs ss r q nil es hg.2 (sgs_hops hg.1) (by omega)⟩
  ·cases h
 ·cases h
def g50m:List D→Tree (List D)
 | [.sl e0 _nb bs]=>match Sh.beq e0 defSh with
  | true=> .ret [.bool (fewB bs)]
  | false=> .stuck
 | _=> .stuck
theorem pure50m{P:Program}(hm:P.follows .mixedOrders=true)(h0:EnvOK P Mq):PureOK P 48 g50m:=PureOK.run hm h0 fun ds rs h=>by
 unfold g50m at h
 split at h
 ·rename_i e0 nb bs
  split at h
  ·rename_i hb
   have hb0:=hb
   have hb0:=Sh.beq_eq hb0
   subst hb0
   cases h
   exact ⟨159+1,by rw [callN_succ (fn:=c48) rfl];exact rn50 119 159 nb bs (by omega)⟩
  ·cases h
 ·cases h
def Ms:Env:=((Mq.pureAt 70 true g119m).pureAt 48 true g50m).genAt 129 C159
theorem okMs{P:Program}(hm:P.follows .mixedOrders=true)(h:EnvOK P Mq):EnvOK P Ms:=((h.pureAt (pure119m hm h)).pureAt (pure50m hm h)).genAt (fn159 hm h)
theorem x109(m n:Nat)(rt nn st wy:Int)(n1 n2 n3 fc:Bool)(hops steps parts:List D)(nm:List UInt8):Tree.out (enterM Ms (callN Ms (m+40)) n c69 [.d (sagaD rt nn st wy n1 n2 n3 fc hops steps parts nm)] [])=bif n1 then bif n2 then bif n3 then some [D.agg [D.int .i64 rt,D.int .i64 nn,D.sl hopSh true [],D.str nm,D.sl stepSh true [],D.int .i64 st,D.int .i64 wy,D.sl hopSh true [],D.bool fc]] else bif decide (parts.length≤1000000) then some [D.agg [D.int .i64 rt,D.int .i64 nn,D.sl hopSh true [],D.str nm,D.sl stepSh true [],D.int .i64 st,D.int .i64 wy,D.sl hopSh false parts,D.bool fc]] else none else bif decide (steps.length≤1000000) then bif n3 then some [D.agg [D.int .i64 rt,D.int .i64 nn,D.sl hopSh true [],D.str nm,D.sl stepSh false steps,D.int .i64 st,D.int .i64 wy,D.sl hopSh true [],D.bool fc]] else bif decide (parts.length≤1000000) then some [D.agg [D.int .i64 rt,D.int .i64 nn,D.sl hopSh true [],D.str nm,D.sl stepSh false steps,D.int .i64 st,D.int .i64 wy,D.sl hopSh false parts,D.bool fc]] else none else none else bif decide (hops.length≤1000000) then bif n2 then bif n3 then some [D.agg [D.int .i64 rt,D.int .i64 nn,D.sl hopSh false hops,D.str nm,D.sl stepSh true [],D.int .i64 st,D.int .i64 wy,D.sl hopSh true [],D.bool fc]] else bif decide (parts.length≤1000000) then some [D.agg [D.int .i64 rt,D.int .i64 nn,D.sl hopSh false hops,D.str nm,D.sl stepSh true [],D.int .i64 st,D.int .i64 wy,D.sl hopSh false parts,D.bool fc]] else none else bif decide (steps.length≤1000000) then bif n3 then some [D.agg [D.int .i64 rt,D.int .i64 nn,D.sl hopSh false hops,D.str nm,D.sl stepSh false steps,D.int .i64 st,D.int .i64 wy,D.sl hopSh true [],D.bool fc]] else bif decide (parts.length≤1000000) then some [D.agg [D.int .i64 rt,D.int .i64 nn,D.sl hopSh false hops,D.str nm,D.sl stepSh false steps,D.int .i64 st,D.int .i64 wy,D.sl hopSh false parts,D.bool fc]] else none else none else none:=by kernel_rfl
theorem empty_if{b:Bool}{l:List D}(h:(!b||l.isEmpty)=true)(hb:b=true):l=[]:=by
 rw [hb] at h;exact List.isEmpty_iff.1 h
def shortL(b:Bool)(l:List D):Bool:=(!b||l.isEmpty)&&decide (l.length≤1000000)
theorem shortL_iff{b:Bool}{l:List D}:shortL b l=true↔(b=true→l=[])∧l.length≤1000000:=by
 unfold shortL
 rw [Bool.and_eq_true,decide_eq_true_eq]
 exact and_congr_left fun _=>⟨empty_if,fun h=>by cases b with
  | false=>rfl
  | true=>rw [h rfl];rfl⟩
theorem rn109(m n:Nat)(rt nn st wy:Int)(n1 n2 n3 fc:Bool)(hops steps parts:List D)(nm:List UInt8)(h1:shortL n1 hops=true)(h2:shortL n2 steps=true)(h3:shortL n3 parts=true):
  (enterM Ms (callN Ms (m+40)) n c69 [.d (sagaD rt nn st wy n1 n2 n3 fc hops steps parts nm)] []).out=some [sagaD rt nn st wy n1 n2 n3 fc hops steps parts nm]:=by
 rw [shortL_iff] at h1 h2 h3
 rw [x109,decide_eq_true h1.2,decide_eq_true h2.2,decide_eq_true h3.2]
 have e1:=h1.1
 have e2:=h2.1
 have e3:=h3.1
 cases n1 <;> cases n2 <;> cases n3 <;> simp only [forall_const,Bool.false_eq_true,false_implies] at e1 e2 e3 <;> (try subst e1) <;> (try subst e2) <;> (try subst e3) <;> rfl
def g109m:List D→Tree (List D)
 | [.agg [.int .i64 rt,.int .i64 nn,.sl e0h n1 hops,.str nm,.sl e0s n2 steps,.int .i64 st,.int .i64 wy,.sl e0p n3 parts,.bool fc]]=>match Sh.beq e0h hopSh&&Sh.beq e0s stepSh&&Sh.beq e0p partSh with
  | true=> .ite (shortL n1 hops&&(shortL n2 steps&&shortL n3 parts)) (fun _=> .ret [.agg [.int .i64 rt,.int .i64 nn,.sl e0h n1 hops,.str nm,.sl e0s n2 steps,.int .i64 st,.int .i64 wy,.sl e0p n3 parts,.bool fc]]) (fun _=> .stuck)
  | false=> .stuck
 | _=> .stuck
theorem pure109m{P:Program}(hm:P.follows .mixedOrders=true)(h0:EnvOK P Ms):PureOK P 69 g109m:=PureOK.run hm h0 fun ds rs h=>by
 unfold g109m at h
 split at h
 ·rename_i rt nn e0h n1 hops nm e0s n2 steps st wy e0p n3 parts fc
  split at h
  ·rename_i hb
   simp only [Bool.and_eq_true] at hb
   obtain ⟨⟨hb0,hb1⟩,hb2⟩:=hb
   have hb0:=Sh.beq_eq hb0
   have hb1:=Sh.beq_eq hb1
   have hb2:=Sh.beq_eq hb2
   subst hb0 hb1 hb2
   obtain ⟨hg,h'⟩:=eval_guard h
   clear h
   cases h'
   exact ⟨59+1,by rw [callN_succ (fn:=c69) rfl];exact rn109 19 59 rt nn st wy n1 n2 n3 fc hops steps parts nm (Bool.and_eq_true _ _ |>.mp hg).1 (Bool.and_eq_true _ _ |>.mp (Bool.and_eq_true _ _ |>.mp hg).2).1 (Bool.and_eq_true _ _ |>.mp (Bool.and_eq_true _ _ |>.mp hg).2).2⟩
  ·cases h
 ·cases h
def Mt:Env:=Ms.pureAt 69 false g109m
theorem okMt{P:Program}(hm:P.follows .mixedOrders=true)(h:EnvOK P Ms):EnvOK P Mt:=h.pureAt (pure109m hm h)
theorem x54(m n:Nat)(og ep co:Int)(na nm' nb ns:Bool)(zas ms bs ss:List D)(r q:Int)(nil:Bool)(es:List D):Tree.out (enterM Mt (callN Mt (m+40)) n c21 [.d (stD og ep co na nm' nb ns zas ms bs ss),.d (.agg [.int .i64 r,.int .i64 q,.sl hopSh nil es])] [])=bif sgsIn ss then bif (bif mayR og ep co zas ms bs ss then (0:Int) else (230:Int)) != 0 then some [D.agg [D.int .i64 0,D.int .i64 0,D.sl hopSh true [],D.str [],D.sl stepSh true [],D.int .i64 0,D.int .i64 0,D.sl hopSh true [],D.bool false],D.bool false] else bif sgsIn ss&&decide (ss.length≤1000000) then bif !thereS r q es ss then some [D.agg [D.int .i64 0,D.int .i64 0,D.sl hopSh true [],D.str [],D.sl stepSh true [],D.int .i64 0,D.int .i64 0,D.sl hopSh true [],D.bool false],D.bool false] else bif decide (0≤(↑(plcS r q es ss):Int)∧(↑(plcS r q es ss):Int)<(ss.length:Int)) then bif shortL (fn 2 (List.getD ss (plcS r q es ss) D.nilp)) (fl 2 (List.getD ss (plcS r q es ss) D.nilp))&&(shortL (fn 4 (List.getD ss (plcS r q es ss) D.nilp)) (fl 4 (List.getD ss (plcS r q es ss) D.nilp))&&shortL (fn 7 (List.getD ss (plcS r q es ss) D.nilp)) (fl 7 (List.getD ss (plcS r q es ss) D.nilp))) then some [D.agg [D.int .i64 (fi 0 (List.getD ss (plcS r q es ss) D.nilp)),D.int .i64 (fi 1 (List.getD ss (plcS r q es ss) D.nilp)),D.sl hopSh (fn 2 (List.getD ss (plcS r q es ss) D.nilp)) (fl 2 (List.getD ss (plcS r q es ss) D.nilp)),D.str (fs 3 (List.getD ss (plcS r q es ss) D.nilp)),D.sl stepSh (fn 4 (List.getD ss (plcS r q es ss) D.nilp)) (fl 4 (List.getD ss (plcS r q es ss) D.nilp)),D.int .i64 (fi 5 (List.getD ss (plcS r q es ss) D.nilp)),D.int .i64 (fi 6 (List.getD ss (plcS r q es ss) D.nilp)),D.sl hopSh (fn 7 (List.getD ss (plcS r q es ss) D.nilp)) (fl 7 (List.getD ss (plcS r q es ss) D.nilp)),D.bool (fb 8 (List.getD ss (plcS r q es ss) D.nilp))],D.bool true] else none else none else none else none:=by kernel_rfl
theorem x60(m n:Nat)(og ep co:Int)(na nm' nb ns:Bool)(zas ms bs ss:List D)(r q:Int)(nil:Bool)(es:List D):Tree.out (enterM Mt (callN Mt (m+40)) n c22 [.d (stD og ep co na nm' nb ns zas ms bs ss),.d (.agg [.int .i64 r,.int .i64 q,.sl hopSh nil es])] [])=bif sgsIn ss&&decide (ss.length≤1000000) then bif sgsIn ss then bif (bif mayR og ep co zas ms bs ss then (0:Int) else (230:Int)) != 0 then some [D.agg [D.int .i64 0,D.int .i64 0,D.sl hopSh true [],D.str [],D.sl stepSh true [],D.int .i64 0,D.int .i64 0,D.sl hopSh true [],D.bool false],D.bool false] else bif decide (idxS r q es ss<0) then some [D.agg [D.int .i64 0,D.int .i64 0,D.sl hopSh true [],D.str [],D.sl stepSh true [],D.int .i64 0,D.int .i64 0,D.sl hopSh true [],D.bool false],D.bool false] else bif decide (0≤idxS r q es ss∧idxS r q es ss<(ss.length:Int)) then some [D.agg [D.int .i64 (fi 0 (List.getD ss (Int.toNat (idxS r q es ss)) D.nilp)),D.int .i64 (fi 1 (List.getD ss (Int.toNat (idxS r q es ss)) D.nilp)),D.sl hopSh (fn 2 (List.getD ss (Int.toNat (idxS r q es ss)) D.nilp)) (fl 2 (List.getD ss (Int.toNat (idxS r q es ss)) D.nilp)),D.str (fs 3 (List.getD ss (Int.toNat (idxS r q es ss)) D.nilp)),D.sl stepSh (fn 4 (List.getD ss (Int.toNat (idxS r q es ss)) D.nilp)) (fl 4 (List.getD ss (Int.toNat (idxS r q es ss)) D.nilp)),D.int .i64 (fi 5 (List.getD ss (Int.toNat (idxS r q es ss)) D.nilp)),D.int .i64 (fi 6 (List.getD ss (Int.toNat (idxS r q es ss)) D.nilp)),D.sl hopSh (fn 7 (List.getD ss (Int.toNat (idxS r q es ss)) D.nilp)) (fl 7 (List.getD ss (Int.toNat (idxS r q es ss)) D.nilp)),D.bool (fb 8 (List.getD ss (Int.toNat (idxS r q es ss)) D.nilp))],D.bool true] else none else none else none:=by kernel_rfl
theorem x18(m n:Nat)(og ep co:Int)(na nm' nb ns:Bool)(zas ms bs ss:List D):Tree.out (enterM Mt (callN Mt (m+40)) n c10 [.d (stD og ep co na nm' nb ns zas ms bs ss)] [])=bif decide (50<(zas.length:Int)) then some [D.bool false] else bif decide (200<(ms.length:Int)) then some [D.bool false] else bif decide (40<(ss.length:Int)) then some [D.bool false] else bif !fewB bs then some [D.bool false] else Tree.out (resume Mt (callN Mt (m+40)) n n 0 c10 { fr:=frame 60 [(1,V.ptr 128 0),(3,V.d (D.int .i64 0))],ob:=[(128,Obj.box [V.d (D.int .i64 og),V.d (D.int .i64 ep),V.d (D.int .i64 co),V.d (D.sl accSh na zas),V.d (D.sl mrkSh nm' ms),V.d (D.sl defSh nb bs),V.d (D.sl sgSh ns ss)])] }):=by kernel_rfl
def v18(og ep co:Int)(na nm' nb ns:Bool)(zas ms bs ss:List D)(i:Int):St:= { fr:=frame 60 [(1,V.ptr 128 0),(3,V.d (D.int .i64 i))],ob:=[(128,HS og ep co na nm' nb ns zas ms bs ss)] }
theorem y18(m n f:Nat)(og ep co:Int)(na nm' nb ns:Bool)(zas ms bs ss:List D)(i:Int):Tree.out (resume Mt (callN Mt (m+40)) n (f+1) 0 c10 (v18 og ep co na nm' nb ns zas ms bs ss i))=bif decide (i<(ss.length:Int)) then bif decide (0≤i∧i<(ss.length:Int)) then bif !few (fl 2 (ss.getD i.toNat .nilp)) (fl 4 (ss.getD i.toNat .nilp)) (fl 7 (ss.getD i.toNat .nilp)) then some [D.bool false] else Tree.out (resume Mt (callN Mt (m+40)) n f 0 c10 (v18 og ep co na nm' nb ns zas ms bs ss (IntKind.wrap .i64 (i+1)))) else none else Tree.out (resume Mt (callN Mt (m+40)) n n 1 c10 { fr:=frame 60 [(1,V.ptr 128 0),(4,V.d (D.int .i64 0))],ob:=[(128,Obj.box [V.d (D.int .i64 og),V.d (D.int .i64 ep),V.d (D.int .i64 co),V.d (D.sl accSh na zas),V.d (D.sl mrkSh nm' ms),V.d (D.sl defSh nb bs),V.d (D.sl sgSh ns ss)])] }):=by kernel_rfl
def v18b(og ep co:Int)(na nm' nb ns:Bool)(zas ms bs ss:List D)(i:Int):St:= { fr:=frame 60 [(1,V.ptr 128 0),(4,V.d (D.int .i64 i))],ob:=[(128,HS og ep co na nm' nb ns zas ms bs ss)] }
theorem y18b(m n f:Nat)(og ep co:Int)(na nm' nb ns:Bool)(zas ms bs ss:List D)(i:Int):Tree.out (resume Mt (callN Mt (m+40)) n (f+1) 1 c10 (v18b og ep co na nm' nb ns zas ms bs ss i))=bif decide (i<(ms.length:Int)) then bif decide (0≤i∧i<(ms.length:Int)) then bif decide (1000<(↑(List.length (fs 0 (ms.getD i.toNat .nilp))):Int)) then some [D.bool false] else Tree.out (resume Mt (callN Mt (m+40)) n f 1 c10 (v18b og ep co na nm' nb ns zas ms bs ss (IntKind.wrap .i64 (i+1)))) else none else some [D.bool true]:=by kernel_rfl
theorem hopsC_map: ∀{l m n:List D},m.map hopP=n.map hopP→hopsC l m=hopsC l n
 | [],[],[],_=>rfl
 | [],_ :: _,_ :: _,_=>rfl
 | _ :: _,[],[],_=>rfl
 | x :: l,y :: m,z :: n,h=>by
  simp only [List.map_cons,List.cons.injEq,hopP,Prod.mk.injEq] at h
  simp only [hopsC]
  rw [h.1.1,h.1.2,hopsC_map h.2]
 | [],[],_ :: _,h=>by simp at h
 | [],_ :: _,[],h=>by simp at h
 | _ :: _,[],_ :: _,h=>by simp at h
 | _ :: _,_ :: _,[],h=>by simp at h
theorem idC_zero{a b x y:Int}{l m:List D}:idC a x l b y m=0↔a=b∧x=y∧l.map hopP=m.map hopP:=by
 unfold idC
 have hne: ∀{p q:Int},p≠q→cmpI p q≠0:=fun {p q} h=>by
  have:= @cmpI_ne p q
  rw [bne_iff_ne.2 h] at this
  exact bne_iff_ne.1 this
 by_cases e0:a=b
 ·subst e0
  rw [show (a != a)=false by simp,cond_false]
  by_cases e1:x=y
  ·subst e1
   rw [show (x != x)=false by simp,cond_false,hopsC_zero]
   simp
  ·rw [bne_iff_ne.2 e1,cond_true]
   exact ⟨fun h=>absurd h (hne e1),fun h=>absurd h.2.1 e1⟩
 ·rw [bne_iff_ne.2 e0,cond_true]
  exact ⟨fun h=>absurd h (hne e0),fun h=>absurd h.1 e0⟩
theorem sagas_inj{ss:List D}(h: ∀i,i<ss.length→sgLess ss i=true){i j:Nat}(hi:i<ss.length)(hj:j<ss.length)
  (e:fi 0 (ss.getD i .nilp)=fi 0 (ss.getD j .nilp)∧fi 1 (ss.getD i .nilp)=fi 1 (ss.getD j .nilp)∧(fl 2 (ss.getD i .nilp)).map hopP=(fl 2 (ss.getD j .nilp)).map hopP):i=j:=by
 have key: ∀a b:Nat,a<b→b<ss.length→ ¬(fi 0 (ss.getD a .nilp)=fi 0 (ss.getD b .nilp)∧fi 1 (ss.getD a .nilp)=fi 1 (ss.getD b .nilp)∧(fl 2 (ss.getD a .nilp)).map hopP=(fl 2 (ss.getD b .nilp)).map hopP):=fun a b hab hb=>by
  have:=sagas_lt h (d:=b - a - 1) (a:=a) (by omega)
  rw [show a+(b - a - 1)+1=b by omega] at this
  exact idC_ne this
 by_cases h1:i<j
 ·exact absurd e (key i j h1 hj)
 ·by_cases h2:j<i
  ·exact absurd ⟨e.1.symm,e.2.1.symm,e.2.2.symm⟩ (key j i h2 hi)
  ·omega
def AtS(r q:Int)(es ss:List D)(i:Nat):Prop:=fi 0 (ss.getD i .nilp)=r∧fi 1 (ss.getD i .nilp)=q∧(fl 2 (ss.getD i .nilp)).map hopP=es.map hopP
theorem idxS_at{r q:Int}{es ss:List D}(h:0≤idxS r q es ss):(idxS r q es ss).toNat<ss.length∧AtS r q es ss (idxS r q es ss).toNat:=by
 obtain ⟨p1,p2,-⟩:=idxOf_pos (q:=fun x=>refCmp (fi 0 x) (fi 1 x) (fl 2 x) r q es==0) h
 rw [beq_iff_eq,refCmp_eq,idC_zero] at p2
 exact ⟨p1,p2⟩
theorem idxS_iff{r q:Int}{es ss:List D}:0≤idxS r q es ss↔ ∃i,i<ss.length∧AtS r q es ss i:=by
 have:=idxOf_nonneg (fun x=>refCmp (fi 0 x) (fi 1 x) (fl 2 x) r q es==0) ss
 unfold idxS
 rw [←decide_eq_true_eq (p:=0≤idxOf _ ss),this,any_iff]
 simp only [beq_iff_eq,refCmp_eq,idC_zero]
 rfl
theorem find_same{ss:List D}(h: ∀i,i<ss.length→sgLess ss i=true)(r q:Int)(es:List D):thereS r q es ss=decide (0≤idxS r q es ss)∧(thereS r q es ss=true→plcS r q es ss=(idxS r q es ss).toNat∧plcS r q es ss<ss.length):=by
 have hmono: ∀a b,a≤b→b<ss.length→decide (cmpAt r q es ss b<0)=true→decide (cmpAt r q es ss a<0)=true:=fun a b hab hb hp=>by
  rw [decide_eq_true_eq] at hp ⊢
  unfold cmpAt at hp ⊢
  rw [idCmp_eq] at hp ⊢
  by_cases he:a=b
  ·rw [he];exact hp
  ·have:=sagas_lt h (d:=b - a - 1) (a:=a) (by omega)
   rw [show a+(b - a - 1)+1=b by omega] at this
   exact idC_trans this hp
 obtain ⟨h1,h2,h3⟩:=bsF_spec (fun i=>decide (cmpAt r q es ss i<0)) ss.length hmono ss.length 0 ss.length (by omega) (by omega) (by omega) (fun k hk=>by omega) (fun k h1 h2=>by omega)
 have hat: ∀i,i<ss.length→((cmpAt r q es ss i==0)=true↔AtS r q es ss i):=fun i _=>by
  unfold cmpAt
  rw [beq_iff_eq,idCmp_eq,idC_zero]
  rfl
 have hth:thereS r q es ss=true→plcS r q es ss<ss.length∧AtS r q es ss (plcS r q es ss):=fun ht=>by
  unfold thereS foundS at ht
  by_cases hlt:plcS r q es ss<ss.length
  ·rw [dec_lt hlt,cond_true] at ht
   exact ⟨hlt,(hat _ hlt).1 ht⟩
  ·rw [decide_eq_false (by omega)] at ht;cases ht
 have hback:0≤idxS r q es ss→thereS r q es ss=true:=fun h0=>by
  obtain ⟨i,hi,ha⟩:=idxS_iff.1 h0
  have hz:idC (fi 0 (ss.getD i .nilp)) (fi 1 (ss.getD i .nilp)) (fl 2 (ss.getD i .nilp)) r q es=0:=idC_zero.2 ha
  have hle:plcS r q es ss≤i:=by
   by_cases hc:i<plcS r q es ss
   ·have:=h2 i hc
    rw [decide_eq_true_eq] at this
    unfold cmpAt at this
    rw [idCmp_eq,hz] at this
    omega
   ·omega
  have hlt:plcS r q es ss<ss.length:=by omega
  have he:plcS r q es ss=i:=by
   by_cases he:plcS r q es ss=i
   ·exact he
   ·have hp:=h3 _ (Nat.le_refl _) hlt
    rw [decide_eq_false_iff_not] at hp
    have hs:=sagas_lt h (d:=i - plcS r q es ss - 1) (a:=plcS r q es ss) (by omega)
    rw [show plcS r q es ss+(i - plcS r q es ss - 1)+1=i by omega] at hs
    exfalso
    apply hp
    show cmpAt r q es ss (plcS r q es ss)<0
    unfold cmpAt
    rw [idCmp_eq]
    unfold idcS at hs
    rw [ha.1,ha.2.1] at hs
    have:idC (fi 0 (ss.getD (plcS r q es ss) .nilp)) (fi 1 (ss.getD (plcS r q es ss) .nilp)) (fl 2 (ss.getD (plcS r q es ss) .nilp)) r q es=idC (fi 0 (ss.getD (plcS r q es ss) .nilp)) (fi 1 (ss.getD (plcS r q es ss) .nilp)) (fl 2 (ss.getD (plcS r q es ss) .nilp)) r q (fl 2 (ss.getD i .nilp)):=by
     unfold idC
     rw [hopsC_map ha.2.2.symm]
    rw [this]
    exact hs
  unfold thereS foundS
  rw [dec_lt hlt,cond_true,hat _ hlt,he]
  exact ha
 constructor
 ·rw [Bool.eq_iff_iff,decide_eq_true_eq]
  exact ⟨fun ht=>idxS_iff.2 ⟨_,hth ht⟩,hback⟩
 ·intro ht
  obtain ⟨hlt,ha⟩:=hth ht
  obtain ⟨p1,p2⟩:=idxS_at (idxS_iff.2 ⟨_,hlt,ha⟩)
  refine ⟨?_,hlt⟩
  exact sagas_inj h hlt p1 ⟨ha.1.trans p2.1.symm,ha.2.1.trans p2.2.1.symm,ha.2.2.trans p2.2.2.symm⟩
theorem mayR_all{og ep co:Int}{zas ms bs ss:List D}(h:mayR og ep co zas ms bs ss=true):(∀i,i<ss.length→mayS (ss.getD i .nilp)=true∧sgLess ss i=true∧orgOfId (fi 0 (ss.getD i .nilp)) (fi 1 (ss.getD i .nilp)) (fl 2 (ss.getD i .nilp))=og)∧bookOk bs=true∧ledOk zas ms=true∧ss.length≤24:=by
 rw [←may_same] at h
 unfold mayP sagasOk at h
 simp only [Bool.and_eq_true,Bool.not_eq_true',decide_eq_false_iff_not] at h
 obtain ⟨-,-,-,-,-,-,hl,hb,⟨h24,hs⟩,-⟩:=h
 refine ⟨fun i hi=> ?_,hb,hl,by omega⟩
 have:=allN_iff.1 hs i hi
 unfold sagaAt at this
 simp only [Bool.and_eq_true,Bool.not_eq_true',bne_eq_false_iff_eq] at this
 exact ⟨this.1,this.2.2.2,this.2.1⟩
def sgShort(x:D):Bool:=shortL (fn 2 x) (fl 2 x)&&(shortL (fn 4 x) (fl 4 x)&&shortL (fn 7 x) (fl 7 x))
def sgsShort(ss:List D):Bool:=allN (fun i=>sgShort (ss.getD i .nilp)) ss.length&&decide (ss.length≤1000000)
theorem short_in{ss:List D}(h:sgsShort ss=true):sgsIn ss=true∧ss.length≤1000000∧ ∀i,i<ss.length→sgShort (ss.getD i .nilp)=true:=by
 unfold sgsShort at h
 rw [Bool.and_eq_true,decide_eq_true_eq,allN_iff] at h
 refine ⟨allN_iff.2 fun i hi=> ?_,h.2,h.1⟩
 have:=h.1 i hi
 unfold sgShort at this
 simp only [Bool.and_eq_true,shortL_iff] at this
 unfold sgIn
 rw [decide_eq_true this.2.1.2,decide_eq_true this.2.2.2,decide_eq_true this.1.2];rfl
abbrev sagaI(x:D):D:=sagaD (fi 0 x) (fi 1 x) (fi 5 x) (fi 6 x) (fn 2 x) (fn 4 x) (fn 7 x) (fb 8 x) (fl 2 x) (fl 4 x) (fl 7 x) (fs 3 x)
abbrev zSaga:D:=sagaD 0 0 0 0 true true true false [] [] [] []
def gotS(og ep co:Int)(zas ms bs ss:List D)(r q:Int)(es:List D):Bool:=mayR og ep co zas ms bs ss&&decide (0≤idxS r q es ss)
def fndT(og ep co:Int)(zas ms bs ss:List D)(r q:Int)(es:List D):Tree (List D):= .ite (gotS og ep co zas ms bs ss r q es) (fun _=> .ret [sagaI (ss.getD (idxS r q es ss).toNat .nilp),.bool true]) (fun _=> .ret [zSaga,.bool false])
theorem fndT_eval(og ep co:Int)(zas ms bs ss:List D)(r q:Int)(es:List D):(fndT og ep co zas ms bs ss r q es).eval=some (bif gotS og ep co zas ms bs ss r q es then [sagaI (ss.getD (idxS r q es ss).toNat .nilp),.bool true] else [zSaga,.bool false]):=by
 unfold fndT
 cases gotS og ep co zas ms bs ss r q es <;> rfl
theorem rn60(m n:Nat)(og ep co:Int)(na nm' nb ns:Bool)(zas ms bs ss:List D)(r q:Int)(nil:Bool)(es:List D)(h:sgsShort ss=true):
  (enterM Mt (callN Mt (m+40)) n c22 [.d (stD og ep co na nm' nb ns zas ms bs ss),.d (.agg [.int .i64 r,.int .i64 q,.sl hopSh nil es])] []).out=(fndT og ep co zas ms bs ss r q es).eval:=by
 obtain ⟨h1,h2,-⟩:=short_in h
 rw [x60,fndT_eval,h1,decide_eq_true h2]
 unfold gotS
 cases mayR og ep co zas ms bs ss
 ·rfl
 ·by_cases h0:0≤idxS r q es ss
  ·have hp:=(idxS_at h0).1
   rw [decide_eq_true h0]
   refine (ct rfl).trans ((ct rfl).trans ((cf rfl).trans ((cf (decide_eq_false (by omega))).trans ((ct (decide_eq_true (by omega))).trans ?_))))
   rfl
  ·rw [decide_eq_false h0]
   refine (ct rfl).trans ((ct rfl).trans ((cf rfl).trans ((ct (decide_eq_true (by omega))).trans ?_)))
   rfl
theorem rn54(m n:Nat)(og ep co:Int)(na nm' nb ns:Bool)(zas ms bs ss:List D)(r q:Int)(nil:Bool)(es:List D)(h:sgsShort ss=true):
  (enterM Mt (callN Mt (m+40)) n c21 [.d (stD og ep co na nm' nb ns zas ms bs ss),.d (.agg [.int .i64 r,.int .i64 q,.sl hopSh nil es])] []).out=(fndT og ep co zas ms bs ss r q es).eval:=by
 obtain ⟨h1,h2,h3⟩:=short_in h
 rw [x54,fndT_eval,h1,decide_eq_true h2]
 unfold gotS
 cases hm:mayR og ep co zas ms bs ss
 ·rfl
 ·obtain ⟨e1,e2⟩:=find_same (fun i hi=>((mayR_all hm).1 i hi).2.1) r q es
  rw [←e1]
  cases ht:thereS r q es ss
  ·rfl
  ·obtain ⟨e3,e4⟩:=e2 ht
   have hs:=h3 _ e4
   unfold sgShort at hs
   refine (ct rfl).trans ((cf rfl).trans ((ct rfl).trans ((cf rfl).trans ((ct (dec_ix e4)).trans ((ct hs).trans ?_)))))
   rw [e3];rfl
def bookShort(bs:List D):Bool:=allN (fun i=>shortL (fn 1 (bs.getD i .nilp)) (fl 1 (bs.getD i .nilp))) bs.length&&decide (bs.length≤1000000)
def fewS(x:D):Bool:=few (fl 2 x) (fl 4 x) (fl 7 x)
def fewSt(zas ms bs ss:List D):Bool:= !decide (50<(zas.length:Int))&&(!decide (200<(ms.length:Int))&&(!decide (40<(ss.length:Int))&&(fewB bs&&(allN (fun i=>fewS (ss.getD i .nilp)) ss.length&&allN (fun i=> !decide (1000<((fs 0 (ms.getD i .nilp)).length:Int))) ms.length))))
theorem rn18(m n:Nat)(og ep co:Int)(na nm' nb ns:Bool)(zas ms bs ss:List D)(hn:300<n):(enterM Mt (callN Mt (m+40)) n c10 [.d (stD og ep co na nm' nb ns zas ms bs ss)] []).out=some [.bool (fewSt zas ms bs ss)]:=by
 rw [x18]
 unfold fewSt
 cases decide (50<(zas.length:Int))
 ·by_cases hm:200<(ms.length:Int)
  ·rw [decide_eq_true hm];rfl
  ·rw [decide_eq_false hm]
   by_cases hs:40<(ss.length:Int)
   ·rw [decide_eq_true hs];rfl
   ·rw [decide_eq_false hs]
    cases fewB bs
    ·rfl
    ·refine (cf rfl).trans ((cf rfl).trans ((cf rfl).trans ((cf rfl).trans ?_)))
     have inner:(resume Mt (callN Mt (m+40)) n n 1 c10 (v18b og ep co na nm' nb ns zas ms bs ss 0)).out=some [.bool (allN (fun i=> !decide (1000<((fs 0 (ms.getD i .nilp)).length:Int))) ms.length)]:=by
      have:=scan_loop (fun j i=>(resume Mt (callN Mt (m+40)) n j 1 c10 (v18b og ep co na nm' nb ns zas ms bs ss (i:Nat))).out) ms.length (fun i=> !!decide (1000<((fs 0 (ms.getD i .nilp)).length:Int))) (fun _=>[D.bool false]) [.bool true]
       (fun j i hi=> ?_) (fun j=> ?_) ms.length 0 n (by omega) (by omega)
      ·refine this.trans ?_
       rw [scan_boolD (fun i=> !decide (1000<((fs 0 (ms.getD i .nilp)).length:Int)))]
      ·rw [y18b,Bool.not_not]
       simp only [Int.toNat_natCast,wrap_up hi (show ms.length≤1000000 by omega)]
       exact (ct (dec_lt hi)).trans (ct (dec_ix hi))
      ·rw [y18b]
       exact cf (dec_end _)
     have:=scan_loop (fun j i=>(resume Mt (callN Mt (m+40)) n j 0 c10 (v18 og ep co na nm' nb ns zas ms bs ss (i:Nat))).out) ss.length (fun i=> !fewS (ss.getD i .nilp)) (fun _=>[D.bool false]) [.bool (allN (fun i=> !decide (1000<((fs 0 (ms.getD i .nilp)).length:Int))) ms.length)]
      (fun j i hi=> ?_) (fun j=> ?_) ss.length 0 n (by omega) (by omega)
     ·refine this.trans ?_
      cases hx:allN (fun i=> !decide (1000<((fs 0 (ms.getD i .nilp)).length:Int))) ms.length
      ·have e:=scan_map (fun x:Bool=>[D.bool x]) (fun i=> !fewS (ss.getD i .nilp)) (fun _=>false) false ss.length 0
       refine congrArg some (e.trans ?_)
       have: ∀k i,scan (fun i=> !fewS (ss.getD i .nilp)) (fun _=>false) false k i=false:=by
        intro k
        induction k with
        | zero=>intro i;rfl
        | succ k ih=>
         intro i
         simp only [scan,ih]
         cases (!fewS (ss.getD i .nilp)) <;> rfl
       rw [this,Bool.and_false];rfl
      ·rw [scan_boolD,Bool.and_true];rfl
     ·rw [y18]
      simp only [Int.toNat_natCast,wrap_up hi (show ss.length≤1000000 by omega)]
      exact (ct (dec_lt hi)).trans (ct (dec_ix hi))
     ·rw [y18]
      exact (cf (dec_end _)).trans inner
 ·rfl
def g54m:List D→Tree (List D)
 | [.agg [.int .i64 og,.int .i64 ep,.int .i64 co,.sl e0a _na zas,.sl e0m _nm ms,.sl e0b _nb bs,.sl e0s _ns ss],.agg [.int .i64 r,.int .i64 q,.sl e1 _nil es]]=>match Sh.beq e0a accSh&&Sh.beq e0m mrkSh&&Sh.beq e0b defSh&&Sh.beq e0s sgSh&&Sh.beq e1 hopSh with
  | true=> .ite (sgsShort ss) (fun _=>fndT og ep co zas ms bs ss r q es) (fun _=> .stuck)
  | false=> .stuck
 | _=> .stuck
theorem pure54m{P:Program}(hm:P.follows .mixedOrders=true)(h0:EnvOK P Mt):PureOK P 21 g54m:=PureOK.run hm h0 fun ds rs h=>by
 unfold g54m at h
 split at h
 ·rename_i og ep co e0a na zas e0m nm ms e0b nb bs e0s ns ss r q e1 nil es
  split at h
  ·rename_i hb
   simp only [Bool.and_eq_true] at hb
   obtain ⟨⟨⟨⟨hb0,hb1⟩,hb2⟩,hb3⟩,hb4⟩:=hb
   have hb0:=Sh.beq_eq hb0
   have hb1:=Sh.beq_eq hb1
   have hb2:=Sh.beq_eq hb2
   have hb3:=Sh.beq_eq hb3
   have hb4:=Sh.beq_eq hb4
   subst hb0 hb1 hb2 hb3 hb4
   obtain ⟨hg,h'⟩:=eval_guard h
   clear h
   exact ⟨59+1,by rw [callN_succ (fn:=c21) rfl];exact (rn54 19 59 og ep co na nm nb ns zas ms bs ss r q nil es hg).trans h'⟩
  ·cases h
 ·cases h
def g60m:List D→Tree (List D)
 | [.agg [.int .i64 og,.int .i64 ep,.int .i64 co,.sl e0a _na zas,.sl e0m _nm ms,.sl e0b _nb bs,.sl e0s _ns ss],.agg [.int .i64 r,.int .i64 q,.sl e1 _nil es]]=>match Sh.beq e0a accSh&&Sh.beq e0m mrkSh&&Sh.beq e0b defSh&&Sh.beq e0s sgSh&&Sh.beq e1 hopSh with
  | true=> .ite (sgsShort ss) (fun _=>fndT og ep co zas ms bs ss r q es) (fun _=> .stuck)
  | false=> .stuck
 | _=> .stuck
theorem pure60m{P:Program}(hm:P.follows .mixedOrders=true)(h0:EnvOK P Mt):PureOK P 22 g60m:=PureOK.run hm h0 fun ds rs h=>by
 unfold g60m at h
 split at h
 ·rename_i og ep co e0a na zas e0m nm ms e0b nb bs e0s ns ss r q e1 nil es
  split at h
  ·rename_i hb
   simp only [Bool.and_eq_true] at hb
   obtain ⟨⟨⟨⟨hb0,hb1⟩,hb2⟩,hb3⟩,hb4⟩:=hb
   have hb0:=Sh.beq_eq hb0
   have hb1:=Sh.beq_eq hb1
   have hb2:=Sh.beq_eq hb2
   have hb3:=Sh.beq_eq hb3
   have hb4:=Sh.beq_eq hb4
   subst hb0 hb1 hb2 hb3 hb4
   obtain ⟨hg,h'⟩:=eval_guard h
   clear h
   exact ⟨59+1,by rw [callN_succ (fn:=c22) rfl];exact (rn60 19 59 og ep co na nm nb ns zas ms bs ss r q nil es hg).trans h'⟩
  ·cases h
 ·cases h
def g18m:List D→Tree (List D)
 | [.agg [.int .i64 _og,.int .i64 _ep,.int .i64 _co,.sl e0a _na zas,.sl e0m _nm ms,.sl e0b _nb bs,.sl e0s _ns ss]]=>match Sh.beq e0a accSh&&Sh.beq e0m mrkSh&&Sh.beq e0b defSh&&Sh.beq e0s sgSh with
  | true=> .ret [.bool (fewSt zas ms bs ss)]
  | false=> .stuck
 | _=> .stuck
theorem pure18m{P:Program}(hm:P.follows .mixedOrders=true)(h0:EnvOK P Mt):PureOK P 10 g18m:=PureOK.run hm h0 fun ds rs h=>by
 unfold g18m at h
 split at h
 ·rename_i og ep co e0a na zas e0m nm ms e0b nb bs e0s ns ss
  split at h
  ·rename_i hb
   simp only [Bool.and_eq_true] at hb
   obtain ⟨⟨⟨hb0,hb1⟩,hb2⟩,hb3⟩:=hb
   have hb0:=Sh.beq_eq hb0
   have hb1:=Sh.beq_eq hb1
   have hb2:=Sh.beq_eq hb2
   have hb3:=Sh.beq_eq hb3
   subst hb0 hb1 hb2 hb3
   cases h
   exact ⟨359+1,by rw [callN_succ (fn:=c10) rfl];exact rn18 319 359 og ep co na nm nb ns zas ms bs ss (by omega)⟩
  ·cases h
 ·cases h
structure An where
 b1:Bool
 ms:List D
 b2:Bool
 ns:List D
def An.d(a:An):D:= .agg [.sl moveSh a.b1 a.ms,.sl noteSh a.b2 a.ns]
def nilS(ss:List D):Prop:= ∀i,i<ss.length→(fn 2 (ss.getD i .nilp)=true→fl 2 (ss.getD i .nilp)=[])∧(fn 4 (ss.getD i .nilp)=true→fl 4 (ss.getD i .nilp)=[])∧(fn 7 (ss.getD i .nilp)=true→fl 7 (ss.getD i .nilp)=[])
def nilB(bs:List D):Prop:= ∀i,i<bs.length→(fn 1 (bs.getD i .nilp)=true→fl 1 (bs.getD i .nilp)=[])
theorem few_short{zas ms bs ss:List D}(h:fewSt zas ms bs ss=true)(h1:nilS ss)(h2:nilB bs):sgsShort ss=true∧bookShort bs=true:=by
 unfold fewSt fewB at h
 simp only [Bool.and_eq_true,Bool.not_eq_true',decide_eq_false_iff_not,allN_iff] at h
 obtain ⟨-,-,hs,⟨hb,hd⟩,hf,-⟩:=h
 constructor
 ·unfold sgsShort
  rw [decide_eq_true (by omega),Bool.and_true,allN_iff]
  intro i hi
  have:=hf i hi
  unfold fewS few at this
  simp only [Bool.and_eq_true,decide_eq_true_eq] at this
  obtain ⟨a,b,c⟩:=h1 i hi
  unfold sgShort
  rw [shortL_iff.2 ⟨a,by omega⟩,shortL_iff.2 ⟨b,by omega⟩,shortL_iff.2 ⟨c,by omega⟩];rfl
 ·unfold bookShort
  rw [decide_eq_true (by omega),Bool.and_true,allN_iff]
  intro i hi
  have:=hd i hi
  exact shortL_iff.2 ⟨h2 i hi,by omega⟩
end Go.Proofs.YtlhageadjmoajaaGreatDoor.A
