/- Parts of the walk: P1, QR1, SR0, QR2, SR1, SR2, SR3, SR4, QR5, SR5, PM, I0, QI1, I1, QI2, I2, QI4, I4, I5. -/
import Derived.Test.YtkjiaijkdefkgaaGreatDoorGg
import Derived.Test.YtkjiaijkdefkgaaGreatDoorRows
import Derived.Test.YtkjiaijkdefkgaaGreatDoorTie
import Derived.Test.YtkjiaijkdefkgaaGreatDoorCards
import Derived.ProofKit
import Derived.LaidMore
import Derived.Lay
import Derived.OpenShut
import Derived.Stop.Joined
import Derived.KernelRfl
namespace Go.Proofs.YtkjiaijkdefkgaaGreatDoor.A
open Go Go.AM Go.Proofs
theorem okE0:EnvOK Tryz.prog E0:=EnvOK.of_table tableOK
theorem okE7:EnvOK Tryz.prog E7:=ok7 mixed (ok6 mixed (ok5 mixed (ok4 mixed (ok3 mixed (ok2 mixed (ok1 mixed okE0))))))
theorem okE8:EnvOK Tryz.prog E8:=ok8 mixed okE7
theorem okE14:EnvOK Tryz.prog E14:=ok14 mixed (ok13 mixed (ok12 mixed (ok11 mixed (ok10 mixed (ok9 mixed okE8)))))
def hopTy:Ty:= .st [.int .i64,.int .i64]
def stepTy:Ty:= .st [.st [.int .i64,.str,.int .i64],.int .i64,.str,.int .i64,.int .i64]
def partTy:Ty:= .st [.int .i64,.int .i64]
def sagaTy:Ty:= .st [.st [.int .i64,.int .i64,.sl hopTy],.st [.str,.sl stepTy],.int .i64,.int .i64,.sl partTy,.bool]
theorem saga_in{x:D}(h0:WF sagaTy.sh x): ∃rt nn st wy n1 n2 n3 fc hops steps parts nm,x=sagaD rt nn st wy n1 n2 n3 fc hops steps parts nm∧(n1=true→hops=[])∧(n2=true→steps=[])∧(n3=true→parts=[]):=by
 obtain ⟨cs,rfl,h⟩:=WF.inv_agg h0
 obtain ⟨_,_,rfl,a1,h⟩:=h.inv
 obtain ⟨_,_,rfl,a2,h⟩:=h.inv
 obtain ⟨_,_,rfl,a3,h⟩:=h.inv
 obtain ⟨_,_,rfl,a4,h⟩:=h.inv
 obtain ⟨_,_,rfl,a5,h⟩:=h.inv
 obtain ⟨_,_,rfl,a6,h⟩:=h.inv
 obtain ⟨_,_,rfl,a7,h⟩:=h.inv
 obtain ⟨_,_,rfl,a8,h⟩:=h.inv
 obtain ⟨_,_,rfl,a9,h⟩:=h.inv
 obtain rfl:=h.inv_nil
 obtain ⟨rt,rfl⟩:=a1.inv_int
 obtain ⟨nn,rfl⟩:=a2.inv_int
 obtain ⟨n1,hops,rfl,b1,-⟩:=a3.inv_sl
 obtain ⟨nm,rfl⟩:=a4.inv_str
 obtain ⟨n2,steps,rfl,b2,-⟩:=a5.inv_sl
 obtain ⟨st,rfl⟩:=a6.inv_int
 obtain ⟨wy,rfl⟩:=a7.inv_int
 obtain ⟨n3,parts,rfl,b3,-⟩:=a8.inv_sl
 obtain ⟨fc,rfl⟩:=a9.inv_bool
 exact ⟨rt,nn,st,wy,n1,n2,n3,fc,hops,steps,parts,nm,rfl,b1,b2,b3⟩
theorem own1:ownKnob Tryz.prog.godebug=none:=by kernel_rfl
theorem laidOut:laidOutB Tryz.prog=true:=by kernel_rfl
theorem e117(m n:Nat)(s:List UInt8):Tree.out (enterM E19 (callN E19 (m+40)) n c117 [.d (.str s)] [])=bif decide ((s.length:Int)<1) then some [D.bool false] else bif decide (16<(s.length:Int)) then some [D.bool false] else Tree.out (resume E19 (callN E19 (m+40)) n n 0 c117 { fr:=frame 53 [(0,V.d (D.str s)),(3,V.d (D.int .i64 0))],ob:=[] }):=by kernel_rfl
def s117(s:List UInt8)(i:Int):St:= { fr:=frame 53 [(0,V.d (D.str s)),(3,V.d (D.int .i64 i))],ob:=[] }
theorem l117(m n j:Nat)(s:List UInt8)(i:Int):Tree.out (resume E19 (callN E19 (m+40)) n (j+1) 0 c117 (s117 s i))=bif decide (i<(s.length:Int)) then bif decide (0≤i∧i<(s.length:Int)) then bif decide (97≤(↑(UInt8.toNat (List.getD s (i.toNat) (0:UInt8))):Int)) then bif decide (0≤i∧i<(s.length:Int)) then bif decide (0≤i∧i<(s.length:Int)) then bif decide (48≤(↑(UInt8.toNat (List.getD s (i.toNat) (0:UInt8))):Int)) then bif decide (0≤i∧i<(s.length:Int)) then bif !decide ((↑(UInt8.toNat (List.getD s (i.toNat) (0:UInt8))):Int)≤122) then bif !decide ((↑(UInt8.toNat (List.getD s (i.toNat) (0:UInt8))):Int)≤57) then some [D.bool false] else bif i==0 then bif decide ((↑(UInt8.toNat (List.getD s (i.toNat) (0:UInt8))):Int)≤57) then some [D.bool false] else Tree.out (resume E19 (callN E19 (m+40)) n j 0 c117 { fr:=frame 53 [(0,V.d (D.str s)),(3,V.d (D.int .i64 (IntKind.wrap .i64 (i+1))))],ob:=[] }) else Tree.out (resume E19 (callN E19 (m+40)) n j 0 c117 { fr:=frame 53 [(0,V.d (D.str s)),(3,V.d (D.int .i64 (IntKind.wrap .i64 (i+1))))],ob:=[] }) else bif i==0 then bif decide ((↑(UInt8.toNat (List.getD s (i.toNat) (0:UInt8))):Int)≤57) then some [D.bool false] else Tree.out (resume E19 (callN E19 (m+40)) n j 0 c117 { fr:=frame 53 [(0,V.d (D.str s)),(3,V.d (D.int .i64 (IntKind.wrap .i64 (i+1))))],ob:=[] }) else Tree.out (resume E19 (callN E19 (m+40)) n j 0 c117 { fr:=frame 53 [(0,V.d (D.str s)),(3,V.d (D.int .i64 (IntKind.wrap .i64 (i+1))))],ob:=[] }) else none else bif !decide ((↑(UInt8.toNat (List.getD s (i.toNat) (0:UInt8))):Int)≤122) then some [D.bool false] else bif i==0 then Tree.out (resume E19 (callN E19 (m+40)) n j 0 c117 { fr:=frame 53 [(0,V.d (D.str s)),(3,V.d (D.int .i64 (IntKind.wrap .i64 (i+1))))],ob:=[] }) else Tree.out (resume E19 (callN E19 (m+40)) n j 0 c117 { fr:=frame 53 [(0,V.d (D.str s)),(3,V.d (D.int .i64 (IntKind.wrap .i64 (i+1))))],ob:=[] }) else none else none else bif decide (0≤i∧i<(s.length:Int)) then bif decide (48≤(↑(UInt8.toNat (List.getD s (i.toNat) (0:UInt8))):Int)) then bif decide (0≤i∧i<(s.length:Int)) then bif !decide ((↑(UInt8.toNat (List.getD s (i.toNat) (0:UInt8))):Int)≤57) then some [D.bool false] else bif i==0 then bif decide ((↑(UInt8.toNat (List.getD s (i.toNat) (0:UInt8))):Int)≤57) then some [D.bool false] else Tree.out (resume E19 (callN E19 (m+40)) n j 0 c117 { fr:=frame 53 [(0,V.d (D.str s)),(3,V.d (D.int .i64 (IntKind.wrap .i64 (i+1))))],ob:=[] }) else Tree.out (resume E19 (callN E19 (m+40)) n j 0 c117 { fr:=frame 53 [(0,V.d (D.str s)),(3,V.d (D.int .i64 (IntKind.wrap .i64 (i+1))))],ob:=[] }) else none else some [D.bool false] else none else none else some [D.bool true]:=by kernel_rfl
theorem e89(m n:Nat)(r q:Int)(nil:Bool)(es:List D):Tree.out (enterM E19 (callN E19 (m+40)) n c89 [.d (.agg [.int .i64 r,.int .i64 q,.sl hopSh nil es])] [])=bif decide (q<1) then some [D.int .i64 30] else bif decide (999999<q) then some [D.int .i64 30] else bif decide (4<(es.length:Int)) then some [D.int .i64 30] else bif decide (r<0) then some [D.int .i64 30] else bif decide (15<r) then some [D.int .i64 30] else Tree.out (resume E19 (callN E19 (m+40)) n n 0 c89 { fr:=frame 81 [(1,V.ptr 128 0),(3,V.d (D.int .i64 0))],ob:=[(128,Obj.box [V.d (D.int .i64 r),V.d (D.int .i64 q),V.d (D.sl hopSh nil es)])] }):=by kernel_rfl
def s89(r q:Int)(nil:Bool)(es:List D)(i:Int):St:= { fr:=frame 81 [(1,V.ptr 128 0),(3,V.d (D.int .i64 i))],ob:=[(128,.box [V.d (D.int .i64 r),V.d (D.int .i64 q),V.d (D.sl hopSh nil es)])] }
theorem l89(m n j:Nat)(r q:Int)(nil:Bool)(es:List D)(i:Int):Tree.out (resume E19 (callN E19 (m+40)) n (j+1) 0 c89 (s89 r q nil es i))=bif decide (i<(es.length:Int)) then bif decide (0≤i∧i<(es.length:Int)) then bif decide (fi 0 (es.getD i.toNat .nilp)<0) then some [D.int .i64 30] else bif decide (7<fi 0 (es.getD i.toNat .nilp)) then some [D.int .i64 30] else bif decide (fi 1 (es.getD i.toNat .nilp)<0) then some [D.int .i64 30] else bif decide (15<fi 1 (es.getD i.toNat .nilp)) then some [D.int .i64 30] else bif fi 1 (es.getD i.toNat .nilp)==r then some [D.int .i64 30] else Tree.out (resumeL E19 (callN E19 (m+40)) n [(0,j),(1,n)] c89 { fr:=frame 81 [(1,V.ptr 128 0),(3,V.d (D.int .i64 i)),(4,V.ptr 320 0),(5,V.d (D.int .i64 0))],ob:=[(128,Obj.box [V.d (D.int .i64 r),V.d (D.int .i64 q),V.d (D.sl hopSh nil es)]),(320,Obj.box [V.d (D.int .i64 (fi 0 (es.getD i.toNat .nilp))),V.d (D.int .i64 (fi 1 (es.getD i.toNat .nilp)))])] }) else none else some [D.int .i64 0]:=by kernel_rfl
def t89(r q:Int)(nil:Bool)(es:List D)(i a b k:Int):St:= { fr:=frame 81 [(1,V.ptr 128 0),(3,V.d (D.int .i64 i)),(4,V.ptr 320 0),(5,V.d (D.int .i64 k))],ob:=[(128,.box [V.d (D.int .i64 r),V.d (D.int .i64 q),V.d (D.sl hopSh nil es)]),(320,.box [V.d (D.int .i64 a),V.d (D.int .i64 b)])] }
theorem kk89(m n j jo:Nat)(r q:Int)(nil:Bool)(es:List D)(i a b k:Int):Tree.out (resumeL E19 (callN E19 (m+40)) n [(0,jo),(1,j+1)] c89 (t89 r q nil es i a b k))=bif decide (k<i) then bif decide (0≤k∧k<(es.length:Int)) then bif fi 1 (es.getD k.toNat .nilp)==b then some [D.int .i64 30] else Tree.out (resumeL E19 (callN E19 (m+40)) n [(0,jo),(1,j)] c89 { fr:=frame 81 [(1,V.ptr 128 0),(3,V.d (D.int .i64 i)),(4,V.ptr 320 0),(5,V.d (D.int .i64 (IntKind.wrap .i64 (k+1))))],ob:=[(128,Obj.box [V.d (D.int .i64 r),V.d (D.int .i64 q),V.d (D.sl hopSh nil es)]),(320,Obj.box [V.d (D.int .i64 a),V.d (D.int .i64 b)])] }) else none else Tree.out (resume E19 (callN E19 (m+40)) n jo 0 c89 { fr:=frame 81 [(1,V.ptr 128 0),(3,V.d (D.int .i64 (IntKind.wrap .i64 (i+1))))],ob:=[(128,Obj.box [V.d (D.int .i64 r),V.d (D.int .i64 q),V.d (D.sl hopSh nil es)])] }):=by kernel_rfl
open Go Go.AM
def F1:Env:=(E19.pureAt 117 true g63)
def stepD(k am og tr wt:Int)(ac sub:List UInt8):D:= .agg [.int .i64 k,.str ac,.int .i64 am,.int .i64 og,.str sub,.int .i64 tr,.int .i64 wt]
def g179:List D→Tree (List D)
 | [.agg [.int .i64 k,.str ac,.int .i64 am,.int .i64 og,.str sub,.int .i64 tr,.int .i64 wt]]=> .ret [.bool (!badStep (stepD k am og tr wt ac sub))]
 | _=> .stuck
def F2:Env:=F1.pureAt 179 true g179
def g136:List D→Tree (List D)
 | [.agg [.str s,.sl e _ es]]=>match Sh.beq e stepSh with
  | true=> .ret [.int .i64 (bif defOk s es then 0 else 90)]
  | false=> .stuck
 | _=> .stuck
def g89:List D→Tree (List D)
 | [.agg [.int .i64 r,.int .i64 q,.sl e _ es]]=>match Sh.beq e hopSh with
  | true=> .ret [.int .i64 (bif idOk r q es then 0 else 30)]
  | false=> .stuck
 | _=> .stuck
def F3:Env:=(F2.pureAt 136 true g136).pureAt 89 true g89
def partsOk(nm:List UInt8)(steps parts:List D):Bool:=defOk nm steps&&((parts.length:Int)==(steps.length:Int)&&allI p47 parts.length parts steps)
def g82:List D→Tree (List D)
 | [.agg [.int .i64 _,.int .i64 _,.sl eh _ _,.str nm,.sl es _ steps,.int .i64 _,.int .i64 _,.sl ep _ parts,.bool _]]=>match (Sh.beq eh hopSh&&(Sh.beq es stepSh&&Sh.beq ep partSh)) with
  | true=> .ret [.bool (partsOk nm steps parts)]
  | false=> .stuck
 | _=> .stuck
def cntN(q:Nat→Bool):Nat→Nat
 | 0=>0
 | k+1=>cntN q k+(bif q k then 1 else 0)
def qcnt(own:Bool)(state:Int)(parts steps:List D)(i:Nat):Bool:=fi 0 (parts.getD i .nilp)==state&&(asksAt (steps.getD i .nilp) != own)
def cntR(own:Bool)(state:Int)(parts steps:List D):Int:=(cntN (qcnt own state parts steps) parts.length:Nat)
def g86:List D→Tree (List D)
 | [.agg [.int .i64 _,.int .i64 _,.sl eh _ _,.str _,.sl es _ steps,.int .i64 _,.int .i64 _,.sl ep _ parts,.bool _],.bool ow,.int .i64 state]=>match (Sh.beq eh hopSh&&(Sh.beq es stepSh&&Sh.beq ep partSh)) with
  | true=> .ite (decide (parts.length≤1000000)&&decide (parts.length≤steps.length)) (fun _=> .ret [.int .i64 (cntR ow state parts steps)]) (fun _=> .stuck)
  | false=> .stuck
 | _=> .stuck
def g84:List D→Tree (List D)
 | [.agg [.int .i64 _,.int .i64 _,.sl eh _ _,.str _,.sl es _ steps,.int .i64 _,.int .i64 _,.sl ep _ parts,.bool _]]=>match (Sh.beq eh hopSh&&(Sh.beq es stepSh&&Sh.beq ep partSh)) with
  | true=> .ite (decide (parts.length≤1000000)&&(decide (parts.length≤steps.length)&&allI p47 parts.length parts steps)) (fun _=> .ret [.bool (runOk parts steps)]) (fun _=> .stuck)
  | false=> .stuck
 | _=> .stuck
def g87:List D→Tree (List D)
 | [.agg [.int .i64 _,.int .i64 _,.sl eh _ _,.str _,.sl es _ _,.int .i64 st,.int .i64 _,.sl ep _ parts,.bool _]]=>match (Sh.beq eh hopSh&&(Sh.beq es stepSh&&Sh.beq ep partSh)) with
  | true=> .ite (decide (parts.length≤1000000)&&st==5) (fun _=> .ret [.int .i64 (cur st parts)]) (fun _=> .stuck)
  | false=> .stuck
 | _=> .stuck
def F4:Env:=(((F3.pureAt 82 true g82).pureAt 86 true g86).pureAt 84 true g84).pureAt 87 true g87
theorem e179(m n:Nat)(k am og tr wt:Int)(ac sub:List UInt8):Tree.out (enterM F1 (callN F1 (m+40)) n c179 [.d (stepD k am og tr wt ac sub)] [])=bif sub==[] then bif decide (k<1) then some [D.bool false] else bif decide (4<k) then some [D.bool false] else bif !name ac then some [D.bool false] else bif decide (am<1) then some [D.bool false] else bif decide (1000000000000000<am) then some [D.bool false] else bif og==0 then bif wt==0 then bif decide (1≤tr) then some [D.bool (decide (tr≤5))] else some [D.bool false] else some [D.bool false] else some [D.bool false] else bif k==0 then bif ac==[] then bif am==0 then bif tr==0 then bif name sub then bif decide (0≤og) then bif decide (og≤15) then bif decide (1≤wt) then some [D.bool (decide (wt≤50))] else some [D.bool false] else some [D.bool false] else some [D.bool false] else some [D.bool false] else some [D.bool false] else some [D.bool false] else some [D.bool false] else some [D.bool false]:=by kernel_rfl
theorem e136(m n:Nat)(s:List UInt8)(nil:Bool)(es:List D):Tree.out (enterM F2 (callN F2 (m+40)) n c136 [.d (.agg [.str s,.sl stepSh nil es])] [])=bif !name s then some [D.int .i64 90] else bif decide ((es.length:Int)<1) then some [D.int .i64 90] else bif decide (8<(es.length:Int)) then some [D.int .i64 90] else Tree.out (resume F2 (callN F2 (m+40)) n n 0 c136 { fr:=frame 34 [(1,V.ptr 128 0),(3,V.d (D.int .i64 0))],ob:=[(128,Obj.box [V.d (D.str s),V.d (D.sl stepSh nil es)])] }):=by kernel_rfl
theorem e82(m n:Nat)(rt nn st wy:Int)(n1 n2 n3 fc:Bool)(hops steps parts:List D)(nm:List UInt8):Tree.out (enterM F3 (callN F3 (m+40)) n c82 [.d (sagaD rt nn st wy n1 n2 n3 fc hops steps parts nm)] [])=bif (bif defOk nm steps then (0:Int) else (90:Int)) != 0 then some [D.bool false] else bif (parts.length:Int) != (steps.length:Int) then some [D.bool false] else Tree.out (resume F3 (callN F3 (m+40)) n n 0 c82 { fr:=frame 60 [(1,V.ptr 128 0),(3,V.d (D.int .i64 0))],ob:=[(128,Obj.box [V.d (D.int .i64 rt),V.d (D.int .i64 nn),V.d (D.sl hopSh n1 hops),V.d (D.str nm),V.d (D.sl stepSh n2 steps),V.d (D.int .i64 st),V.d (D.int .i64 wy),V.d (D.sl hopSh n3 parts),V.d (D.bool fc)])] }):=by kernel_rfl
theorem e86(m n:Nat)(rt nn st wy:Int)(n1 n2 n3 fc:Bool)(hops steps parts:List D)(nm:List UInt8)(ow:Bool)(state:Int):Tree.out (enterM F3 (callN F3 (m+40)) n c86 [.d (sagaD rt nn st wy n1 n2 n3 fc hops steps parts nm),.d (.bool ow),.d (.int .i64 state)] [])=Tree.out (resume F3 (callN F3 (m+40)) n n 0 c86 { fr:=frame 34 [(1,V.d (D.bool ow)),(2,V.d (D.int .i64 state)),(3,V.ptr 256 0),(7,V.d (D.int .i64 0)),(8,V.d (D.int .i64 0))],ob:=[(256,Obj.box [V.d (D.int .i64 rt),V.d (D.int .i64 nn),V.d (D.sl hopSh n1 hops),V.d (D.str nm),V.d (D.sl stepSh n2 steps),V.d (D.int .i64 st),V.d (D.int .i64 wy),V.d (D.sl hopSh n3 parts),V.d (D.bool fc)])] }):=by kernel_rfl
theorem e84(m n:Nat)(rt nn st wy:Int)(n1 n2 n3 fc:Bool)(hops steps parts:List D)(nm:List UInt8):Tree.out (enterM F3 (callN F3 (m+40)) n c84 [.d (sagaD rt nn st wy n1 n2 n3 fc hops steps parts nm)] [])=Tree.out (resume F3 (callN F3 (m+40)) n n 0 c84 { fr:=frame 82 [(1,V.ptr 128 0),(3,V.d (D.int .i64 0))],ob:=[(128,Obj.box [V.d (D.int .i64 rt),V.d (D.int .i64 nn),V.d (D.sl hopSh n1 hops),V.d (D.str nm),V.d (D.sl stepSh n2 steps),V.d (D.int .i64 st),V.d (D.int .i64 wy),V.d (D.sl hopSh n3 parts),V.d (D.bool fc)])] }):=by kernel_rfl
theorem e87(m n:Nat)(rt nn wy:Int)(n1 n2 n3 fc:Bool)(hops steps parts:List D)(nm:List UInt8):Tree.out (enterM F3 (callN F3 (m+40)) n c87 [.d (sagaD rt nn 5 wy n1 n2 n3 fc hops steps parts nm)] [])=Tree.out (resume F3 (callN F3 (m+40)) n n 1 c87 { fr:=frame 56 [(1,V.ptr 128 0),(4,V.d (D.int .i64 (IntKind.wrap .i64 ((parts.length:Int) - 1))))],ob:=[(128,Obj.box [V.d (D.int .i64 rt),V.d (D.int .i64 nn),V.d (D.sl hopSh n1 hops),V.d (D.str nm),V.d (D.sl stepSh n2 steps),V.d (D.int .i64 5),V.d (D.int .i64 wy),V.d (D.sl hopSh n3 parts),V.d (D.bool fc)])] }):=by kernel_rfl
theorem e36(m n:Nat)(rt nn st wy:Int)(n1 n2 n3 fc:Bool)(hops steps parts:List D)(nm:List UInt8):Tree.out (enterM F4 (callN F4 (m+40)) n c36 [.d (sagaD rt nn st wy n1 n2 n3 fc hops steps parts nm)] [])=bif st==7 then bif nm==[] then bif (steps.length:Int)==0 then bif (parts.length:Int)==0 then bif decide (1≤wy) then bif decide (wy≤9) then bif !fc then bif !decide (0<(hops.length:Int)) then some [D.int .i64 230] else bif (bif idOk rt nn hops then (0:Int) else (30:Int)) != 0 then some [D.int .i64 230] else some [D.int .i64 0] else some [D.int .i64 230] else some [D.int .i64 230] else some [D.int .i64 230] else some [D.int .i64 230] else some [D.int .i64 230] else some [D.int .i64 230] else bif partsOk nm steps parts then bif fc then bif wy != 0 then bif decide (1≤wy) then bif !decide (wy≤9) then some [D.int .i64 230] else bif decide (parts.length≤1000000)&&decide (parts.length≤steps.length) then bif decide (0<cntR true 2 parts steps) then some [D.int .i64 230] else bif st==3 then bif (bif idOk rt nn hops then (0:Int) else (30:Int)) != 0 then some [D.int .i64 230] else some [D.int .i64 0] else bif st==6 then bif decide (parts.length≤1000000)&&decide (parts.length≤steps.length) then bif !cntR true 4 parts steps==0 then some [D.int .i64 230] else bif (bif idOk rt nn hops then (0:Int) else (30:Int)) != 0 then some [D.int .i64 230] else some [D.int .i64 0] else none else some [D.int .i64 230] else none else some [D.int .i64 230] else bif decide (parts.length≤1000000)&&decide (parts.length≤steps.length) then bif decide (0<cntR true 2 parts steps) then some [D.int .i64 230] else bif st==3 then bif (bif idOk rt nn hops then (0:Int) else (30:Int)) != 0 then some [D.int .i64 230] else some [D.int .i64 0] else bif st==6 then bif decide (parts.length≤1000000)&&decide (parts.length≤steps.length) then bif !cntR true 4 parts steps==0 then some [D.int .i64 230] else bif (bif idOk rt nn hops then (0:Int) else (30:Int)) != 0 then some [D.int .i64 230] else some [D.int .i64 0] else none else some [D.int .i64 230] else none else bif st==1 then bif wy==0 then bif decide (parts.length≤1000000)&&(decide (parts.length≤steps.length)&&allI p47 (parts.length) parts steps) then bif !runOk parts steps then some [D.int .i64 230] else bif (bif idOk rt nn hops then (0:Int) else (30:Int)) != 0 then some [D.int .i64 230] else some [D.int .i64 0] else none else some [D.int .i64 230] else bif st==2 then bif wy==0 then bif decide (0<(hops.length:Int)) then bif decide (parts.length≤1000000)&&decide (parts.length≤steps.length) then bif decide (parts.length≤1000000)&&decide (parts.length≤steps.length) then bif decide (parts.length≤1000000)&&decide (parts.length≤steps.length) then bif !IntKind.wrap .i64 (IntKind.wrap .i64 (cntR true 2 parts steps+cntR false 2 parts steps)+cntR false 3 parts steps)==(parts.length:Int) then some [D.int .i64 230] else bif (bif idOk rt nn hops then (0:Int) else (30:Int)) != 0 then some [D.int .i64 230] else some [D.int .i64 0] else none else none else none else some [D.int .i64 230] else some [D.int .i64 230] else bif st==3 then bif wy==0 then bif decide (parts.length≤1000000)&&decide (parts.length≤steps.length) then bif decide (parts.length≤1000000)&&decide (parts.length≤steps.length) then bif decide (parts.length≤1000000)&&decide (parts.length≤steps.length) then bif !IntKind.wrap .i64 (IntKind.wrap .i64 (cntR true 4 parts steps+cntR false 4 parts steps)+cntR false 2 parts steps)==(parts.length:Int) then some [D.int .i64 230] else bif (bif idOk rt nn hops then (0:Int) else (30:Int)) != 0 then some [D.int .i64 230] else some [D.int .i64 0] else none else none else none else some [D.int .i64 230] else bif st==4 then bif decide (1≤wy) then bif decide (wy≤9) then bif decide (parts.length≤1000000)&&decide (parts.length≤steps.length) then bif decide (parts.length≤1000000)&&decide (parts.length≤steps.length) then bif !IntKind.wrap .i64 (cntR true 4 parts steps+cntR false 4 parts steps)==0 then some [D.int .i64 230] else bif (bif idOk rt nn hops then (0:Int) else (30:Int)) != 0 then some [D.int .i64 230] else some [D.int .i64 0] else none else none else some [D.int .i64 230] else some [D.int .i64 230] else bif st==5 then bif decide (parts.length≤1000000)&&st==5 then bif decide (1≤wy) then bif decide (wy≤9) then bif decide (parts.length≤1000000)&&decide (parts.length≤steps.length) then bif decide (parts.length≤1000000)&&decide (parts.length≤steps.length) then bif IntKind.wrap .i64 (cntR true 4 parts steps+cntR false 4 parts steps)==0 then bif decide (0≤cur st parts) then bif decide (0≤cur st parts∧cur st parts<(steps.length:Int)) then bif !!fs 4 (List.getD steps (Int.toNat (cur st parts)) D.nilp)==[] then bif decide (0≤cur st parts∧cur st parts<(parts.length:Int)) then bif !fi 1 (List.getD parts (Int.toNat (cur st parts)) D.nilp)==5 then some [D.int .i64 230] else bif (bif idOk rt nn hops then (0:Int) else (30:Int)) != 0 then some [D.int .i64 230] else some [D.int .i64 0] else none else some [D.int .i64 230] else none else some [D.int .i64 230] else some [D.int .i64 230] else none else none else some [D.int .i64 230] else some [D.int .i64 230] else none else bif st==6 then bif decide (1≤wy) then bif decide (wy≤9) then bif decide (parts.length≤1000000)&&decide (parts.length≤steps.length) then bif decide (parts.length≤1000000)&&decide (parts.length≤steps.length) then bif decide (parts.length≤1000000)&&decide (parts.length≤steps.length) then bif decide (parts.length≤1000000)&&decide (parts.length≤steps.length) then bif !IntKind.wrap .i64 (IntKind.wrap .i64 (cntR true 0 parts steps+cntR false 0 parts steps)+IntKind.wrap .i64 (cntR true 3 parts steps+cntR false 3 parts steps))==(parts.length:Int) then some [D.int .i64 230] else bif (bif idOk rt nn hops then (0:Int) else (30:Int)) != 0 then some [D.int .i64 230] else some [D.int .i64 0] else none else none else none else none else some [D.int .i64 230] else some [D.int .i64 230] else some [D.int .i64 230] else some [D.int .i64 230]:=by kernel_rfl
def s136(s:List UInt8)(nil:Bool)(es:List D)(i:Int):St:= { fr:=frame 34 [(1,V.ptr 128 0),(3,V.d (D.int .i64 i))],ob:=[(128,.box [V.d (D.str s),V.d (D.sl stepSh nil es)])] }
theorem l136(m n j:Nat)(s:List UInt8)(nil:Bool)(es:List D)(i:Int):Tree.out (resume F2 (callN F2 (m+40)) n (j+1) 0 c136 (s136 s nil es i))=bif decide (i<(es.length:Int)) then bif decide (0≤i∧i<(es.length:Int)) then bif !!badStep (D.agg [D.int .i64 (fi 0 (es.getD i.toNat .nilp)),D.str (fs 1 (es.getD i.toNat .nilp)),D.int .i64 (fi 2 (es.getD i.toNat .nilp)),D.int .i64 (fi 3 (es.getD i.toNat .nilp)),D.str (fs 4 (es.getD i.toNat .nilp)),D.int .i64 (fi 5 (es.getD i.toNat .nilp)),D.int .i64 (fi 6 (es.getD i.toNat .nilp))]) then some [D.int .i64 90] else Tree.out (resume F2 (callN F2 (m+40)) n j 0 c136 (s136 s nil es (IntKind.wrap .i64 (i+1)))) else none else some [D.int .i64 0]:=by kernel_rfl
def s82(rt nn st wy:Int)(n1 n2 n3 fc:Bool)(hops steps parts:List D)(nm:List UInt8)(i:Int):St:= { fr:=frame 60 [(1,V.ptr 128 0),(3,V.d (D.int .i64 i))],ob:=[(128,.box [V.d (D.int .i64 rt),V.d (D.int .i64 nn),V.d (D.sl hopSh n1 hops),V.d (D.str nm),V.d (D.sl stepSh n2 steps),V.d (D.int .i64 st),V.d (D.int .i64 wy),V.d (D.sl partSh n3 parts),V.d (D.bool fc)])] }
theorem l82(m n j:Nat)(rt nn st wy:Int)(n1 n2 n3 fc:Bool)(hops steps parts:List D)(nm:List UInt8)(i:Int):Tree.out (resume F3 (callN F3 (m+40)) n (j+1) 0 c82 (s82 rt nn st wy n1 n2 n3 fc hops steps parts nm i))=bif decide (i<(parts.length:Int)) then bif decide (0≤i∧i<(parts.length:Int)) then bif decide (fi 0 (parts.getD i.toNat .nilp)<0) then some [D.bool false] else bif decide (4<fi 0 (parts.getD i.toNat .nilp)) then some [D.bool false] else bif fi 0 (parts.getD i.toNat .nilp)==1 then bif decide (0≤i∧i<(steps.length:Int)) then bif !!fs 4 (steps.getD i.toNat .nilp)==[] then some [D.bool false] else bif decide (fi 1 (parts.getD i.toNat .nilp)<0) then some [D.bool false] else bif decide (5<fi 1 (parts.getD i.toNat .nilp)) then some [D.bool false] else Tree.out (resume F3 (callN F3 (m+40)) n j 0 c82 (s82 rt nn st wy n1 n2 n3 fc hops steps parts nm (IntKind.wrap .i64 (i+1)))) else none else bif decide (fi 1 (parts.getD i.toNat .nilp)<0) then some [D.bool false] else bif decide (5<fi 1 (parts.getD i.toNat .nilp)) then some [D.bool false] else Tree.out (resume F3 (callN F3 (m+40)) n j 0 c82 (s82 rt nn st wy n1 n2 n3 fc hops steps parts nm (IntKind.wrap .i64 (i+1)))) else none else some [D.bool true]:=by kernel_rfl
def s86(rt nn st wy:Int)(n1 n2 n3 fc:Bool)(hops steps parts:List D)(nm:List UInt8)(ow:Bool)(state k i:Int):St:= { fr:=frame 34 [(1,V.d (D.bool ow)),(2,V.d (D.int .i64 state)),(3,V.ptr 256 0),(7,V.d (D.int .i64 k)),(8,V.d (D.int .i64 i))],ob:=[(256,.box [V.d (D.int .i64 rt),V.d (D.int .i64 nn),V.d (D.sl hopSh n1 hops),V.d (D.str nm),V.d (D.sl stepSh n2 steps),V.d (D.int .i64 st),V.d (D.int .i64 wy),V.d (D.sl partSh n3 parts),V.d (D.bool fc)])] }
theorem l86(m n j:Nat)(rt nn st wy:Int)(n1 n2 n3 fc:Bool)(hops steps parts:List D)(nm:List UInt8)(ow:Bool)(state k i:Int):Tree.out (resume F3 (callN F3 (m+40)) n (j+1) 0 c86 (s86 rt nn st wy n1 n2 n3 fc hops steps parts nm ow state k i))=bif decide (i<(parts.length:Int)) then bif decide (0≤i∧i<(parts.length:Int)) then bif fi 0 (parts.getD i.toNat .nilp)==state then bif decide (0≤i∧i<(steps.length:Int)) then bif !(!fs 4 (steps.getD i.toNat .nilp)==[])==ow then Tree.out (resume F3 (callN F3 (m+40)) n j 0 c86 (s86 rt nn st wy n1 n2 n3 fc hops steps parts nm ow state (IntKind.wrap .i64 (k+1)) (IntKind.wrap .i64 (i+1)))) else Tree.out (resume F3 (callN F3 (m+40)) n j 0 c86 (s86 rt nn st wy n1 n2 n3 fc hops steps parts nm ow state k (IntKind.wrap .i64 (i+1)))) else none else Tree.out (resume F3 (callN F3 (m+40)) n j 0 c86 (s86 rt nn st wy n1 n2 n3 fc hops steps parts nm ow state k (IntKind.wrap .i64 (i+1)))) else none else some [D.int .i64 k]:=by kernel_rfl
def s84(rt nn st wy:Int)(n1 n2 n3 fc:Bool)(hops steps parts:List D)(nm:List UInt8)(i:Int):St:= { fr:=frame 82 [(1,V.ptr 128 0),(3,V.d (D.int .i64 i))],ob:=[(128,.box [V.d (D.int .i64 rt),V.d (D.int .i64 nn),V.d (D.sl hopSh n1 hops),V.d (D.str nm),V.d (D.sl stepSh n2 steps),V.d (D.int .i64 st),V.d (D.int .i64 wy),V.d (D.sl partSh n3 parts),V.d (D.bool fc)])] }
theorem l84(m n j:Nat)(rt nn st wy:Int)(n1 n2 n3 fc:Bool)(hops steps parts:List D)(nm:List UInt8)(i:Int):Tree.out (resume F3 (callN F3 (m+40)) n (j+1) 0 c84 (s84 rt nn st wy n1 n2 n3 fc hops steps parts nm i))=bif decide (i<(parts.length:Int)) then bif decide (0≤i∧i<(parts.length:Int)) then bif fi 0 (parts.getD i.toNat .nilp)==2 then Tree.out (resume F3 (callN F3 (m+40)) n j 0 c84 (s84 rt nn st wy n1 n2 n3 fc hops steps parts nm (IntKind.wrap .i64 (i+1)))) else bif decide (0≤i∧i<(steps.length:Int)) then bif !fs 4 (steps.getD i.toNat .nilp)==[] then bif decide (0≤i∧i<(parts.length:Int)) then bif fi 0 (parts.getD i.toNat .nilp)==3 then Tree.out (resume F3 (callN F3 (m+40)) n j 0 c84 (s84 rt nn st wy n1 n2 n3 fc hops steps parts nm (IntKind.wrap .i64 (i+1)))) else bif decide (i<(parts.length:Int)) then bif decide (0≤i∧i<(parts.length:Int)) then bif fi 0 (parts.getD i.toNat .nilp)==0 then Tree.out (resume F3 (callN F3 (m+40)) n n 1 c84 (s84 rt nn st wy n1 n2 n3 fc hops steps parts nm (IntKind.wrap .i64 (i+1)))) else bif decide (0≤i∧i<(parts.length:Int)) then bif fi 0 (parts.getD i.toNat .nilp)==1 then Tree.out (resume F3 (callN F3 (m+40)) n n 1 c84 (s84 rt nn st wy n1 n2 n3 fc hops steps parts nm (IntKind.wrap .i64 (i+1)))) else Tree.out (resume F3 (callN F3 (m+40)) n n 1 c84 (s84 rt nn st wy n1 n2 n3 fc hops steps parts nm i)) else none else none else Tree.out (resume F3 (callN F3 (m+40)) n n 1 c84 (s84 rt nn st wy n1 n2 n3 fc hops steps parts nm i)) else none else bif decide (i<(parts.length:Int)) then bif decide (0≤i∧i<(parts.length:Int)) then bif fi 0 (parts.getD i.toNat .nilp)==0 then Tree.out (resume F3 (callN F3 (m+40)) n n 1 c84 (s84 rt nn st wy n1 n2 n3 fc hops steps parts nm (IntKind.wrap .i64 (i+1)))) else bif decide (0≤i∧i<(parts.length:Int)) then bif fi 0 (parts.getD i.toNat .nilp)==1 then Tree.out (resume F3 (callN F3 (m+40)) n n 1 c84 (s84 rt nn st wy n1 n2 n3 fc hops steps parts nm (IntKind.wrap .i64 (i+1)))) else Tree.out (resume F3 (callN F3 (m+40)) n n 1 c84 (s84 rt nn st wy n1 n2 n3 fc hops steps parts nm i)) else none else none else Tree.out (resume F3 (callN F3 (m+40)) n n 1 c84 (s84 rt nn st wy n1 n2 n3 fc hops steps parts nm i)) else none else none else bif decide (i<(parts.length:Int)) then bif decide (0≤i∧i<(parts.length:Int)) then bif fi 0 (parts.getD i.toNat .nilp)==0 then Tree.out (resume F3 (callN F3 (m+40)) n n 1 c84 (s84 rt nn st wy n1 n2 n3 fc hops steps parts nm (IntKind.wrap .i64 (i+1)))) else bif decide (0≤i∧i<(parts.length:Int)) then bif fi 0 (parts.getD i.toNat .nilp)==1 then Tree.out (resume F3 (callN F3 (m+40)) n n 1 c84 (s84 rt nn st wy n1 n2 n3 fc hops steps parts nm (IntKind.wrap .i64 (i+1)))) else Tree.out (resume F3 (callN F3 (m+40)) n n 1 c84 (s84 rt nn st wy n1 n2 n3 fc hops steps parts nm i)) else none else none else Tree.out (resume F3 (callN F3 (m+40)) n n 1 c84 (s84 rt nn st wy n1 n2 n3 fc hops steps parts nm i)):=by kernel_rfl
theorem kk84(m n j:Nat)(rt nn st wy:Int)(n1 n2 n3 fc:Bool)(hops steps parts:List D)(nm:List UInt8)(i:Int):Tree.out (resume F3 (callN F3 (m+40)) n (j+1) 1 c84 (s84 rt nn st wy n1 n2 n3 fc hops steps parts nm i))=bif decide (i<(parts.length:Int)) then bif decide (0≤i∧i<(parts.length:Int)) then bif fi 0 (parts.getD i.toNat .nilp) != 0 then some [D.bool false] else bif decide (0≤i∧i<(parts.length:Int)) then bif fi 1 (parts.getD i.toNat .nilp) != 0 then some [D.bool false] else Tree.out (resume F3 (callN F3 (m+40)) n j 1 c84 (s84 rt nn st wy n1 n2 n3 fc hops steps parts nm (IntKind.wrap .i64 (i+1)))) else none else none else some [D.bool true]:=by kernel_rfl
def s87(rt nn wy:Int)(n1 n2 n3 fc:Bool)(hops steps parts:List D)(nm:List UInt8)(i:Int):St:= { fr:=frame 56 [(1,V.ptr 128 0),(4,V.d (D.int .i64 i))],ob:=[(128,.box [V.d (D.int .i64 rt),V.d (D.int .i64 nn),V.d (D.sl hopSh n1 hops),V.d (D.str nm),V.d (D.sl stepSh n2 steps),V.d (D.int .i64 5),V.d (D.int .i64 wy),V.d (D.sl partSh n3 parts),V.d (D.bool fc)])] }
theorem l87(m n j:Nat)(rt nn wy:Int)(n1 n2 n3 fc:Bool)(hops steps parts:List D)(nm:List UInt8)(i:Int):Tree.out (resume F3 (callN F3 (m+40)) n (j+1) 1 c87 (s87 rt nn wy n1 n2 n3 fc hops steps parts nm i))=bif decide (0≤i) then bif decide (0≤i∧i<(parts.length:Int)) then bif fi 0 (parts.getD i.toNat .nilp)==1 then some [D.int .i64 i] else bif decide (0≤i∧i<(parts.length:Int)) then bif fi 0 (parts.getD i.toNat .nilp)==2 then some [D.int .i64 i] else Tree.out (resume F3 (callN F3 (m+40)) n j 1 c87 (s87 rt nn wy n1 n2 n3 fc hops steps parts nm (IntKind.wrap .i64 (i - 1)))) else none else none else some [D.int .i64 (-1)]:=by kernel_rfl
theorem ltd(a b:Int):decide (a<b)= !decide (b≤a):=by by_cases h:b≤a <;> simp [h] <;> omega
def smallc(c:Int):Bool:=decide (97≤c)&&decide (c≤122)
def digitc(c:Int):Bool:=decide (48≤c)&&decide (c≤57)
def nm1(s:List UInt8)(i:Nat):Bool:=(smallc (s.getD i 0).toNat||digitc (s.getD i 0).toNat)&& !(((i:Int)==0)&&digitc (s.getD i 0).toNat)
def refName(s:List UInt8):Bool:=bif decide ((s.length:Int)<1) then false else bif decide ((16:Int)<(s.length:Int)) then false else scan (fun i=> !nm1 s i) (fun _=>false) true s.length 0
theorem getD_at{s:List UInt8}{i:Nat}(h:i<s.length):s.getD i 0=s[i]'h:=by rw [List.getD_eq_getElem?_getD,List.getElem?_eq_getElem h];rfl
theorem okc_iff(c:UInt8):okc c=true↔smallc c.toNat=true∨digitc c.toNat=true:=by
 simp only [okc,smallc,digitc,ltd,Bool.and_eq_true,Bool.not_eq_true',decide_eq_true_eq,Bool.and_eq_false_iff,Bool.or_eq_false_iff,Bool.not_eq_false']
theorem refName_eq(s:List UInt8):refName s=name s:=by
 rw [Bool.eq_iff_iff]
 unfold refName name
 cases h1:decide ((s.length:Int)<1)
 ·cases h2:decide ((16:Int)<(s.length:Int))
  ·have h1:=of_decide_eq_false h1
   have hl:0<s.length:=by omega
   have hne:(s==[])=false:=by cases s with | nil=>simp at hl | cons a l=>rfl
   simp only [cond_false,hne,Bool.not_false,Bool.true_and,Bool.and_eq_true]
   rw [scan_all,List.all_eq_true]
   constructor
   ·intro h
    have h0:=h 0 (by omega) (by omega)
    refine ⟨?_,fun c hc=> ?_⟩
    ·simp only [nm1,smallc,digitc,Bool.and_eq_true,Bool.or_eq_true,Bool.not_eq_true',decide_eq_true_eq,Bool.and_eq_false_iff,decide_eq_false_iff_not] at h0 ⊢
     have:(((0:Nat):Int)==0)=true:=rfl
     rw [this] at h0
     simp only [Bool.true_eq_false,false_or] at h0
     omega
    ·obtain ⟨i,hi,rfl⟩:=List.getElem_of_mem hc
     have:=h i (by omega) (by omega)
     rw [nm1,getD_at hi] at this
     simp only [Bool.and_eq_true,Bool.or_eq_true] at this
     exact (okc_iff _).2 this.1
   ·rintro ⟨h0,h⟩ i - hi
    have hi:i<s.length:=by omega
    have hc:=(okc_iff _).1 (h _ (List.getElem_mem hi))
    rw [nm1,getD_at hi]
    simp only [Bool.and_eq_true,Bool.or_eq_true,Bool.not_eq_true',Bool.and_eq_false_iff]
    refine ⟨hc,?_⟩
    by_cases hz:i=0
    ·subst hz
     right
     rw [getD_at hi] at h0
     simp only [Bool.not_eq_true',decide_eq_false_iff_not] at h0
     simp only [digitc,Bool.and_eq_false_iff,decide_eq_false_iff_not]
     omega
    ·left
     simp;omega
  ·simp
 ·have h1:=of_decide_eq_true h1
  have:s=[]:=by cases s with | nil=>rfl | cons a l=>simp at h1;omega
  subst this
  simp
theorem run117(m n:Nat)(s:List UInt8)(hn:18≤n):(enterM E19 (callN E19 (m+40)) n c117 [.d (.str s)] []).out=some [.bool (name s)]:=by
 rw [←refName_eq]
 rw [e117]
 unfold refName
 cases h1:decide ((s.length:Int)<1)
 ·cases h2:decide ((16:Int)<(s.length:Int))
  ·have h2:=of_decide_eq_false h2
   have:=scan_loop (fun j i=>(resume E19 (callN E19 (m+40)) n j 0 c117 (s117 s (i:Nat))).out) s.length (fun i=> !nm1 s i) (fun _=>[.bool false]) [.bool true]
    (fun j i hi=> ?_) (fun j=> ?_) s.length 0 n (by omega) (by omega)
   ·refine this.trans ?_
    rw [scan_map (fun b:Bool=>[D.bool b]) _ (fun _=>false) true]
    rfl
   ·rw [l117]
    simp only [Int.toNat_natCast,wrap_up hi (by omega),dec_lt hi,dec_ix hi,cond_true,nm1,smallc,digitc]
    generalize decide ((97:Int)≤_)=b1
    generalize decide (_≤(122:Int))=b2
    generalize decide ((48:Int)≤_)=b3
    generalize decide (_≤(57:Int))=b4
    generalize ((i:Int)==0)=b5
    cases b1 <;> cases b2 <;> cases b3 <;> cases b4 <;> cases b5 <;> rfl
   ·rw [l117]
    simp only [dec_end,cond_false]
  ·rfl
 ·rfl
theorem pure117{P:Program}(hm:P.follows .mixedOrders=true)(h0:EnvOK P E19):PureOK P 117 g63:=PureOK.run hm h0 fun ds rs h=>by
 unfold g63 at h
 split at h
 ·cases h
  exact ⟨59+1,by rw [callN_succ (fn:=c117) rfl];exact run117 19 59 _ (by omega)⟩
 ·cases h
theorem run179(m n:Nat)(k am og tr wt:Int)(ac sub:List UInt8):(enterM F1 (callN F1 (m+40)) n c179 [.d (stepD k am og tr wt ac sub)] []).out=some [.bool (!badStep (stepD k am og tr wt ac sub))]:=by
 rw [e179]
 show _=some [D.bool (!(!own k ac am og sub tr wt&& !asks k ac am og sub tr wt))]
 unfold own asks
 simp only [ltd]
 have ha:am≤0→decide ((1:Int)≤am)=false:=fun h=>by simp;omega
 by_cases hs:sub=[]
 ·subst hs
  have:name []=false:=rfl
  rw [this]
  have e0:decide ((0:Int)≤am)=(decide ((1:Int)≤am)||decide ((0:Int)≤am)):=by
   by_cases h:(1:Int)≤am
   ·simp [h];omega
   ·simp [h]
  rw [e0]
  generalize decide ((1:Int)≤k)=b1
  generalize decide (k≤(4:Int))=b2
  generalize name ac=b3
  generalize decide ((1:Int)≤am)=b4
  generalize decide (am≤(1000000000000000:Int))=b5
  generalize (og==0)=b6
  generalize (wt==0)=b7
  generalize decide ((1:Int)≤tr)=b8
  generalize decide (tr≤(5:Int))=b9
  cases b1 <;> cases b2 <;> cases b3 <;> cases b4 <;> cases b5 <;> cases b6 <;> cases b7 <;> cases b8 <;> cases b9 <;> rfl
 ·have:(sub==[])=false:=by simpa using hs
  rw [this]
  have e1:decide ((16:Int)≤og)= !decide (og≤(15:Int)):=by by_cases h:og≤(15:Int) <;> simp [h] <;> omega
  rw [e1]
  generalize (k==0)=b1
  generalize (ac==[])=b2
  generalize (am==0)=b3
  generalize (tr==0)=b4
  generalize name sub=b5
  generalize decide ((0:Int)≤og)=b6
  generalize decide (og≤(15:Int))=b7
  generalize decide ((1:Int)≤wt)=b8
  generalize decide (wt≤(50:Int))=b9
  cases b1 <;> cases b2 <;> cases b3 <;> cases b4 <;> cases b5 <;> cases b6 <;> cases b7 <;> cases b8 <;> cases b9 <;> rfl
theorem pure179{P:Program}(hm:P.follows .mixedOrders=true)(h0:EnvOK P F1):PureOK P 179 g179:=PureOK.run hm h0 fun ds rs h=>by
 unfold g179 at h
 split at h
 ·cases h
  exact ⟨59+1,by rw [callN_succ (fn:=c179) rfl];exact run179 19 59 _ _ _ _ _ _ _⟩
 ·cases h
theorem run136(m n:Nat)(s:List UInt8)(nil:Bool)(es:List D)(hn:18≤n):(enterM F2 (callN F2 (m+40)) n c136 [.d (.agg [.str s,.sl stepSh nil es])] []).out=some [.int .i64 (bif defOk s es then 0 else 90)]:=by
 rw [e136]
 unfold defOk
 cases name s
 ·rfl
 ·cases h1:decide ((es.length:Int)<1)
  ·cases h2:decide ((8:Int)<(es.length:Int))
   ·have h2:=of_decide_eq_false h2
    have:=scan_loop (fun j i=>(resume F2 (callN F2 (m+40)) n j 0 c136 (s136 s nil es (i:Nat))).out) es.length (fun i=> !(!badStep (es.getD i .nilp))) (fun _=>[.int .i64 90]) [.int .i64 0]
     (fun j i hi=> ?_) (fun j=> ?_) es.length 0 n (by omega) (by omega)
    ·refine this.trans ?_
     have e:scan (fun i=> !!badStep (es.getD i .nilp)) (fun _=>[D.int .i64 90]) [D.int .i64 0] es.length 0=[D.int .i64 (bif scan (fun i=> !!badStep (es.getD i .nilp)) (fun _=>false) true es.length 0 then 0 else 90)]:=scan_map (fun b:Bool=>[D.int .i64 (bif b then 0 else 90)]) _ (fun _=>false) true _ _
     rw [e]
     have:scan (fun i=> !(!badStep (es.getD i .nilp))) (fun _=>false) true es.length 0= !es.any badStep:=by
      rw [Bool.eq_iff_iff,scan_all (fun i=> !badStep (es.getD i .nilp))]
      simp only [Bool.not_eq_true']
      rw [Bool.eq_false_iff,ne_eq,any_iff]
      constructor
      ·rintro h ⟨i,hi,hb⟩
       rw [h i (by omega) (by omega)] at hb;cases hb
      ·intro h i _ hi
       cases hb:badStep (es.getD i .nilp)
       ·rfl
       ·exact (h ⟨i,by omega,hb⟩).elim
     rw [this]
     rfl
    ·rw [l136]
     simp only [Int.toNat_natCast,wrap_up hi (by omega),dec_lt hi,dec_ix hi,cond_true]
     rfl
    ·rw [l136]
     simp only [dec_end,cond_false]
   ·rfl
  ·rfl
theorem pure136{P:Program}(hm:P.follows .mixedOrders=true)(h0:EnvOK P F2):PureOK P 136 g136:=PureOK.run hm h0 fun ds rs h=>by
 unfold g136 at h
 split at h
 ·split at h
  ·rename_i hb
   have hb:=Sh.beq_eq hb
   subst hb
   cases h
   exact ⟨59+1,by rw [callN_succ (fn:=c136) rfl];exact run136 19 59 _ _ _ (by omega)⟩
  ·cases h
 ·cases h
theorem path_iff: ∀(l:List D) (met:List D),met.length=16→(pathOk l met=true↔(∀i,i<l.length→0≤fi 0 (l.getD i .nilp)∧fi 0 (l.getD i .nilp)≤15∧fb 0 (met.getD (fi 0 (l.getD i .nilp)).toNat .nilp)=false)∧ ∀i j,i<j→j<l.length→fi 0 (l.getD i .nilp)≠fi 0 (l.getD j .nilp))
 | [],met,_=>by simp [pathOk]
 | p :: ps,met,hm=>by
  simp only [pathOk,Bool.and_eq_true,Bool.not_eq_true',decide_eq_false_iff_not]
  constructor
  ·rintro ⟨h1,h2,h3,h4⟩
   obtain ⟨a,b⟩:=(path_iff ps _ (by rw [List.length_set];exact hm)).1 h4
   have c:(fi 0 p).toNat<met.length:=by omega
   refine ⟨fun i hi=> ?_,fun i j hij hj=> ?_⟩
   ·cases i with
    | zero=>exact ⟨by show 0≤fi 0 p;omega,by show fi 0 p≤15;omega,h3⟩
    | succ i=>
     have:=a i (by simpa using hi)
     rw [getD_set c] at this
     show 0≤fi 0 (ps.getD i .nilp)∧fi 0 (ps.getD i .nilp)≤15∧fb 0 (met.getD (fi 0 (ps.getD i .nilp)).toNat .nilp)=false
     refine ⟨this.1,this.2.1,?_⟩
     have h5:=this.2.2
     split at h5
     ·cases h5
     ·exact h5
   ·cases j with
    | zero=>omega
    | succ j=>
     have hj:j<ps.length:=by simpa using hj
     cases i with
     | zero=>
      show fi 0 p≠fi 0 (ps.getD j .nilp)
      intro e
      have:=(a j hj).2.2
      rw [getD_set c,if_pos (by rw [e])] at this
      cases this
     | succ i=>exact b i j (by omega) hj
  ·rintro ⟨a,b⟩
   have a0:0≤fi 0 p∧fi 0 p≤15∧fb 0 (met.getD (fi 0 p).toNat .nilp)=false:=a 0 (by simp)
   have c:(fi 0 p).toNat<met.length:=by omega
   refine ⟨by omega,by omega,a0.2.2,(path_iff ps _ (by rw [List.length_set];exact hm)).2 ⟨fun i hi=> ?_,fun i j h1 h2=>b (i+1) (j+1) (by omega) (by simpa using h2)⟩⟩
   have h1:0≤fi 0 (ps.getD i .nilp)∧fi 0 (ps.getD i .nilp)≤15∧fb 0 (met.getD (fi 0 (ps.getD i .nilp)).toNat .nilp)=false:=a (i+1) (by simpa using hi)
   have h2:fi 0 p≠fi 0 (ps.getD i .nilp):=b 0 (i+1) (by omega) (by simpa using hi)
   rw [getD_set c,if_neg (by omega)]
   exact h1
theorem met0_at{k:Nat}(h:k<16):fb 0 (met0.getD k .nilp)=false:=by
 have: ∀k:Fin 16,fb 0 (met0.getD k.1 .nilp)=false:=by decide
 exact this ⟨k,h⟩
theorem map_org{es:List D}{i:Nat}(h:i<es.length):fi 0 ((es.map orgOf).getD i .nilp)=fi 1 (es.getD i .nilp):=by
 rw [List.getD_eq_getElem?_getD,List.getElem?_map,List.getD_eq_getElem?_getD,List.getElem?_eq_getElem h]
 rfl
theorem idOk_iff{r q:Int}{es:List D}:idOk r q es=true↔(1≤q∧q≤999999)∧es.length≤4∧(0≤r∧r≤15)∧(∀i,i<es.length→(0≤fi 0 (es.getD i .nilp)∧fi 0 (es.getD i .nilp)≤7)∧(0≤fi 1 (es.getD i .nilp)∧fi 1 (es.getD i .nilp)≤15)∧fi 1 (es.getD i .nilp)≠r)∧ ∀i j,i<j→j<es.length→fi 1 (es.getD i .nilp)≠fi 1 (es.getD j .nilp):=by
 unfold idOk
 simp only [Bool.and_eq_true,Bool.not_eq_true',decide_eq_false_iff_not]
 rw [path_iff _ _ rfl]
 have hb:es.any badHop=false↔ ∀i,i<es.length→0≤fi 0 (es.getD i .nilp)∧fi 0 (es.getD i .nilp)≤7:=by
  rw [Bool.eq_false_iff,ne_eq,any_iff]
  constructor
  ·intro h i hi
   have: ¬badHop (es.getD i .nilp)=true:=fun hb=>h ⟨i,hi,hb⟩
   simp only [badHop,Bool.or_eq_true,decide_eq_true_eq] at this
   omega
  ·rintro h ⟨i,hi,hb⟩
   have:=h i hi
   simp only [badHop,Bool.or_eq_true,decide_eq_true_eq] at hb
   omega
 rw [hb]
 have hl:(D.int .i64 r :: es.map orgOf).length=es.length+1:=by simp
 rw [hl]
 constructor
 ·rintro ⟨h1,h2,h3,⟨h4,h5⟩,h6⟩
  refine ⟨by omega,by omega,?_,fun i hi=> ?_,fun i j hij hj=> ?_⟩
  ·have:=h4 0 (by omega)
   exact ⟨this.1,this.2.1⟩
  ·have a:=h4 (i+1) (by omega)
   have b:=h5 0 (i+1) (by omega) (by omega)
   simp only [List.getD_cons_succ,List.getD_cons_zero,map_org hi] at a b
   exact ⟨h6 i hi,⟨a.1,a.2.1⟩,fun e=>b e.symm⟩
  ·have b:=h5 (i+1) (j+1) (by omega) (by omega)
   simp only [List.getD_cons_succ,map_org (show i<es.length by omega),map_org hj] at b
   exact b
 ·rintro ⟨h1,h2,h3,h4,h5⟩
  refine ⟨by omega,by omega,by omega,⟨fun i hi=> ?_,fun i j hij hj=> ?_⟩,fun i hi=>(h4 i hi).1⟩
  ·cases i with
   | zero=>exact ⟨h3.1,h3.2,met0_at (show r.toNat<16 by omega)⟩
   | succ i=>
    have hi:i<es.length:=by omega
    have:=(h4 i hi).2.1
    simp only [List.getD_cons_succ,map_org hi]
    exact ⟨this.1,this.2,met0_at (by omega)⟩
  ·cases j with
   | zero=>omega
   | succ j=>
    have hj:j<es.length:=by omega
    cases i with
    | zero=>
     simp only [List.getD_cons_succ,List.getD_cons_zero,map_org hj]
     exact fun e=>(h4 j hj).2.2 e.symm
    | succ i=>
     simp only [List.getD_cons_succ,map_org hj,map_org (show i<es.length by omega)]
     exact h5 i j (by omega) hj
def met89(es:List D)(i:Nat):Bool:=scan (fun k=>fi 1 (es.getD k .nilp)==fi 1 (es.getD i .nilp)) (fun _=>true) false i 0
def bad89(r:Int)(es:List D)(i:Nat):Bool:=decide (fi 0 (es.getD i .nilp)<0)||(decide (7<fi 0 (es.getD i .nilp))||(decide (fi 1 (es.getD i .nilp)<0)||(decide (15<fi 1 (es.getD i .nilp))||(fi 1 (es.getD i .nilp)==r||met89 es i))))
theorem scan_any(p:Nat→Bool): ∀k i,scan p (fun _=>true) false k i=true↔ ∃j,i≤j∧j<i+k∧p j=true
 | 0,i=>by
  simp only [scan,Bool.false_eq_true,false_iff]
  rintro ⟨j,h1,h2,-⟩
  omega
 | k+1,i=>by
  simp only [scan]
  cases hp:p i
  ·rw [cond_false,scan_any p k (i+1)]
   constructor
   ·rintro ⟨j,h1,h2,h3⟩;exact ⟨j,by omega,by omega,h3⟩
   ·rintro ⟨j,h1,h2,h3⟩
    by_cases he:j=i
    ·subst he;rw [hp] at h3;cases h3
    ·exact ⟨j,by omega,by omega,h3⟩
  ·simp only [cond_true,true_iff]
   exact ⟨i,by omega,by omega,hp⟩
theorem loop89k(m n jo:Nat)(r q:Int)(nil:Bool)(es:List D)(i:Nat)(hi:i<es.length)(hl:es.length≤1000000): ∀(d k j:Nat),k+d=i→d<j→
  (resumeL E19 (callN E19 (m+40)) n [(0,jo),(1,j)] c89 (t89 r q nil es (i:Nat) (fi 0 (es.getD i .nilp)) (fi 1 (es.getD i .nilp)) (k:Nat))).out
   =bif scan (fun k=>fi 1 (es.getD k .nilp)==fi 1 (es.getD i .nilp)) (fun _=>true) false d k then some [.int .i64 30] else (resume E19 (callN E19 (m+40)) n jo 0 c89 (s89 r q nil es (i+1:Nat))).out:=by
 intro d
 induction d with
 | zero=>
  intro k j hk hj
  cases j with
  | zero=>omega
  | succ j=>
   have:k=i:=by omega
   subst this
   rw [kk89]
   simp only [dec_end,cond_false,wrap_up hi hl,scan]
   rfl
 | succ d ih=>
  intro k j hk hj
  cases j with
  | zero=>omega
  | succ j=>
   have hr:=ih (k+1) j (by omega) (by omega)
   rw [kk89]
   simp only [Int.toNat_natCast,wrap_up (show k<i by omega) (by omega),dec_lt (show k<i by omega),dec_ix (show k<es.length by omega),cond_true,scan]
   cases (fi 1 (es.getD k .nilp)==fi 1 (es.getD i .nilp))
   ·simp only [cond_false]
    exact hr
   ·rfl
theorem run89(m n:Nat)(r q:Int)(nil:Bool)(es:List D)(hn:18≤n):(enterM E19 (callN E19 (m+40)) n c89 [.d (.agg [.int .i64 r,.int .i64 q,.sl hopSh nil es])] []).out=some [.int .i64 (bif idOk r q es then 0 else 30)]:=by
 rw [e89]
 by_cases h1:q<1
 ·have:idOk r q es=false:=by rw [Bool.eq_false_iff];intro h;have:=(idOk_iff.1 h).1;omega
  rw [this,decide_eq_true h1];rfl
 by_cases h2:999999<q
 ·have:idOk r q es=false:=by rw [Bool.eq_false_iff];intro h;have:=(idOk_iff.1 h).1;omega
  rw [this,decide_eq_false h1,decide_eq_true h2];rfl
 by_cases h3:(4:Int)<es.length
 ·have:idOk r q es=false:=by rw [Bool.eq_false_iff];intro h;have:=(idOk_iff.1 h).2.1;omega
  rw [this,decide_eq_false h1,decide_eq_false h2,decide_eq_true h3];rfl
 by_cases h4:r<0
 ·have:idOk r q es=false:=by rw [Bool.eq_false_iff];intro h;have:=(idOk_iff.1 h).2.2.1;omega
  rw [this,decide_eq_false h1,decide_eq_false h2,decide_eq_false h3,decide_eq_true h4];rfl
 by_cases h5:15<r
 ·have:idOk r q es=false:=by rw [Bool.eq_false_iff];intro h;have:=(idOk_iff.1 h).2.2.1;omega
  rw [this,decide_eq_false h1,decide_eq_false h2,decide_eq_false h3,decide_eq_false h4,decide_eq_true h5];rfl
 rw [decide_eq_false h1,decide_eq_false h2,decide_eq_false h3,decide_eq_false h4,decide_eq_false h5]
 simp only [cond_false]
 have:=scan_loop (fun j i=>(resume E19 (callN E19 (m+40)) n j 0 c89 (s89 r q nil es (i:Nat))).out) es.length (fun i=>bad89 r es i) (fun _=>[.int .i64 30]) [.int .i64 0]
  (fun j i hi=> ?_) (fun j=> ?_) es.length 0 n (by omega) (by omega)
 ·refine this.trans ?_
  have e:scan (fun i=>bad89 r es i) (fun _=>[D.int .i64 30]) [D.int .i64 0] es.length 0=[D.int .i64 (bif scan (fun i=>bad89 r es i) (fun _=>true) false es.length 0 then 30 else 0)]:=scan_map (fun b:Bool=>[D.int .i64 (bif b then 30 else 0)]) _ (fun _=>true) false _ _
  rw [e]
  have:scan (fun i=>bad89 r es i) (fun _=>true) false es.length 0= !idOk r q es:=by
   rw [Bool.eq_iff_iff,scan_any,Bool.not_eq_true',Bool.eq_false_iff,ne_eq,idOk_iff]
   constructor
   ·rintro ⟨i,-,hi,hb⟩ ⟨-,-,-,a,b⟩
    have hi:i<es.length:=by omega
    have:=a i hi
    simp only [bad89,Bool.or_eq_true,decide_eq_true_eq,beq_iff_eq] at hb
    rcases hb with hb | hb | hb | hb | hb | hb
    ·omega
    ·omega
    ·omega
    ·omega
    ·exact this.2.2 hb
    ·unfold met89 at hb
     obtain ⟨k,-,hk,he⟩:=(scan_any _ _ _).1 hb
     exact b k i (by omega) hi (by simpa using he)
   ·intro h
    apply Classical.byContradiction
    intro hno
    refine h ⟨by omega,by omega,by omega,fun i hi=> ?_,fun i j hij hj e=> ?_⟩
    ·have: ¬bad89 r es i=true:=fun hb=>hno ⟨i,by omega,by omega,hb⟩
     simp only [bad89,Bool.or_eq_true,decide_eq_true_eq,beq_iff_eq,not_or] at this
     obtain ⟨a,b,c,d,f,-⟩:=this
     exact ⟨by omega,by omega,f⟩
    ·refine hno ⟨j,by omega,by omega,?_⟩
     simp only [bad89,Bool.or_eq_true]
     refine .inr (.inr (.inr (.inr (.inr ?_))))
     unfold met89
     exact (scan_any _ _ _).2 ⟨i,by omega,by omega,by simpa using e⟩
  rw [this]
  cases idOk r q es <;> rfl
 ·have hl:es.length≤1000000:=by omega
  have hk:=loop89k m n j r q nil es i hi hl i 0 n (by omega) (by omega)
  rw [l89]
  simp only [Int.toNat_natCast,dec_lt hi,dec_ix hi,cond_true,bad89,met89]
  generalize decide (fi 0 (es.getD i .nilp)<0)=b1
  generalize decide (7<fi 0 (es.getD i .nilp))=b2
  generalize decide (fi 1 (es.getD i .nilp)<0)=b3
  generalize decide (15<fi 1 (es.getD i .nilp))=b4
  generalize (fi 1 (es.getD i .nilp)==r)=b5
  cases b1
  ·cases b2
   ·cases b3
    ·cases b4
     ·cases b5
      ·refine Eq.trans hk ?_
       rfl
      ·rfl
     ·rfl
    ·rfl
   ·rfl
  ·rfl
 ·rw [l89]
  simp only [dec_end,cond_false]
theorem pure89{P:Program}(hm:P.follows .mixedOrders=true)(h0:EnvOK P E19):PureOK P 89 g89:=PureOK.run hm h0 fun ds rs h=>by
 unfold g89 at h
 split at h
 ·split at h
  ·rename_i hb
   have hb:=Sh.beq_eq hb
   subst hb
   cases h
   exact ⟨59+1,by rw [callN_succ (fn:=c89) rfl];exact run89 19 59 _ _ _ _ (by omega)⟩
  ·cases h
 ·cases h
theorem run82(m n:Nat)(rt nn st wy:Int)(n1 n2 n3 fc:Bool)(hops steps parts:List D)(nm:List UInt8)(hn:18≤n):(enterM F3 (callN F3 (m+40)) n c82 [.d (sagaD rt nn st wy n1 n2 n3 fc hops steps parts nm)] []).out=some [.bool (partsOk nm steps parts)]:=by
 rw [e82]
 unfold partsOk
 cases hd:defOk nm steps
 ·rfl
 ·by_cases hl:(parts.length:Int)=(steps.length:Int)
  ·have h8:steps.length≤8:=by
    unfold defOk at hd
    simp only [Bool.and_eq_true,Bool.not_eq_true',decide_eq_false_iff_not] at hd
    omega
   have hb:((parts.length:Int) != (steps.length:Int))=false:=by simpa using hl
   have hb':((parts.length:Int)==(steps.length:Int))=true:=by simpa using hl
   rw [hb,hb']
   have:=scan_loop (fun j i=>(resume F3 (callN F3 (m+40)) n j 0 c82 (s82 rt nn st wy n1 n2 n3 fc hops steps parts nm (i:Nat))).out) parts.length (fun i=> !p47 (parts.getD i .nilp) (steps.getD i .nilp)) (fun _=>[.bool false]) [.bool true]
    (fun j i hi=> ?_) (fun j=> ?_) parts.length 0 n (by omega) (by omega)
   ·refine this.trans ?_
    rw [scan_map (fun b:Bool=>[D.bool b]) _ (fun _=>false) true]
    rfl
   ·have hp:p47 (parts.getD i .nilp) (steps.getD i .nilp)=(!decide (fi 0 (parts.getD i .nilp)<0)&&(!decide (4<fi 0 (parts.getD i .nilp))&&((!(fi 0 (parts.getD i .nilp)==1)||asksAt (steps.getD i .nilp))&&(!decide (fi 1 (parts.getD i .nilp)<0)&& !decide (5<fi 1 (parts.getD i .nilp)))))):=by
     unfold p47
     simp only [ltd,Bool.not_not]
     congr 2
     rw [Bool.or_comm]
     rfl
    rw [l82]
    simp only [Int.toNat_natCast,wrap_up hi (by omega),dec_lt hi,dec_ix hi,dec_ix (show i<steps.length by omega),cond_true,hp,asksAt]
    generalize decide (fi 0 (parts.getD i .nilp)<0)=b1
    generalize decide (4<fi 0 (parts.getD i .nilp))=b2
    generalize (fi 0 (parts.getD i .nilp)==1)=b3
    generalize (fs 4 (steps.getD i .nilp)==[])=b4
    generalize decide (fi 1 (parts.getD i .nilp)<0)=b5
    generalize decide (5<fi 1 (parts.getD i .nilp))=b6
    cases b1 <;> cases b2 <;> cases b3 <;> cases b4 <;> cases b5 <;> cases b6 <;> rfl
   ·rw [l82]
    simp only [dec_end,cond_false]
  ·have hb:((parts.length:Int) != (steps.length:Int))=true:=by simpa using hl
   have hb':((parts.length:Int)==(steps.length:Int))=false:=by simpa using hl
   rw [hb,hb']
   rfl
theorem cntN_le(q:Nat→Bool): ∀k,cntN q k≤k
 | 0=>by simp [cntN]
 | k+1=>by
  have:=cntN_le q k
  simp only [cntN]
  cases q k <;> simp <;> omega
theorem run86(m n:Nat)(rt nn st wy:Int)(n1 n2 n3 fc:Bool)(hops steps parts:List D)(nm:List UInt8)(ow:Bool)(state:Int)(hl:parts.length≤1000000)(hs:parts.length≤steps.length)(hn:parts.length<n):
  (enterM F3 (callN F3 (m+40)) n c86 [.d (sagaD rt nn st wy n1 n2 n3 fc hops steps parts nm),.d (.bool ow),.d (.int .i64 state)] []).out=some [.int .i64 (cntR ow state parts steps)]:=by
 rw [e86]
 have main: ∀(r i j:Nat),i+r=parts.length→r<j→(resume F3 (callN F3 (m+40)) n j 0 c86 (s86 rt nn st wy n1 n2 n3 fc hops steps parts nm ow state (cntN (qcnt ow state parts steps) i:Nat) (i:Nat))).out=some [.int .i64 (cntR ow state parts steps)]:=by
  intro r
  induction r with
  | zero=>
   intro i j hi hj
   cases j with
   | zero=>omega
   | succ j=>
    have:i=parts.length:=by omega
    subst this
    rw [l86]
    simp only [dec_end,cond_false]
    rfl
  | succ r ih=>
   intro i j hi hj
   cases j with
   | zero=>omega
   | succ j=>
    have hlt:i<parts.length:=by omega
    have hr:=ih (i+1) j (by omega) (by omega)
    have hc:cntN (qcnt ow state parts steps) (i+1)=cntN (qcnt ow state parts steps) i+(bif qcnt ow state parts steps i then 1 else 0):=rfl
    have hq:qcnt ow state parts steps i=(fi 0 (parts.getD i .nilp)==state&&((!fs 4 (steps.getD i .nilp)==[]) != ow)):=rfl
    have hw:IntKind.wrap .i64 ((cntN (qcnt ow state parts steps) i:Nat)+1:Int)=((cntN (qcnt ow state parts steps) i+1:Nat):Int):=by
     have:=cntN_le (qcnt ow state parts steps) i
     rw [wrap_i64 (by omega) (by omega)]
     omega
    rw [l86]
    simp only [Int.toNat_natCast,wrap_up hlt hl,dec_lt hlt,dec_ix hlt,dec_ix (show i<steps.length by omega),cond_true,hw]
    rw [hc,hq] at hr
    cases h1:(fi 0 (parts.getD i .nilp)==state)
    ·rw [h1] at hr
     exact hr
    ·rw [h1] at hr
     cases h2:((!fs 4 (steps.getD i .nilp)==[])==ow)
     ·have h3:((!fs 4 (steps.getD i .nilp)==[]) != ow)=true:=by rw [bne,h2];rfl
      rw [h3] at hr
      exact hr
     ·have h3:((!fs 4 (steps.getD i .nilp)==[]) != ow)=false:=by rw [bne,h2];rfl
      rw [h3] at hr
      exact hr
 exact main parts.length 0 n (by omega) (by omega)
def restOk(k:Nat)(parts:List D):Bool:=scan (fun i=> !(fi 0 (parts.getD i .nilp)==0&&fi 1 (parts.getD i .nilp)==0)) (fun _=>false) true (parts.length - k) k
theorem rest_iff{k:Nat}{parts:List D}:restOk k parts=true↔ ∀j,k≤j→j<parts.length→stAt parts j=0∧trAt parts j=0:=by
 unfold restOk
 rw [scan_all (fun i=>(fi 0 (parts.getD i .nilp)==0&&fi 1 (parts.getD i .nilp)==0))]
 constructor
 ·intro h j h1 h2
  have:=h j h1 (by omega)
  simp only [Bool.and_eq_true,beq_iff_eq] at this
  exact this
 ·intro h j h1 h2
  have:=h j h1 (by omega)
  have a:(fi 0 (parts.getD j .nilp)==0)=true:=beq_iff_eq.2 this.1
  have b:(fi 1 (parts.getD j .nilp)==0)=true:=beq_iff_eq.2 this.2
  rw [a,b];rfl
theorem tail_rest{parts steps:List D}{k:Nat}(hk:k<parts.length)(hs:p47 (parts.getD k .nilp) (steps.getD k .nilp)=true):tailOk k parts steps=bif (fi 0 (parts.getD k .nilp)==0||fi 0 (parts.getD k .nilp)==1) then restOk (k+1) parts else restOk k parts:=by
 have hs:=q47.1 hs
 rw [Bool.eq_iff_iff,tail_iff (by omega)]
 cases h:(fi 0 (parts.getD k .nilp)==0||fi 0 (parts.getD k .nilp)==1)
 ·rw [cond_false,rest_iff]
  simp only [Bool.or_eq_false_iff,beq_eq_false_iff_ne,ne_eq] at h
  constructor
  ·intro g j h1 h2
   rcases g j h1 h2 with ⟨rfl,g | ⟨-,g⟩⟩ | g
   ·exact absurd g h.1
   ·exact absurd g h.2
   ·exact g
  ·intro g j h1 h2
   exact .inr (g j h1 h2)
 ·rw [cond_true,rest_iff]
  simp only [Bool.or_eq_true,beq_iff_eq] at h
  constructor
  ·intro g j h1 h2
   rcases g j (by omega) h2 with ⟨e,-⟩ | g
   ·omega
   ·exact g
  ·intro g j h1 h2
   by_cases he:j=k
   ·subst he
    left
    refine ⟨rfl,?_⟩
    rcases h with h | h
    ·exact .inl h
    ·refine .inr ⟨?_,h⟩
     rcases hs.2.2.1 with a | a
     ·exact a
     ·exact absurd h a
   ·exact .inr (g j (by omega) h2)
theorem run84(m n:Nat)(rt nn st wy:Int)(n1 n2 n3 fc:Bool)(hops steps parts:List D)(nm:List UInt8)(hl:parts.length≤1000000)(hs:parts.length≤steps.length)(hsane:allI p47 parts.length parts steps=true)(hn:parts.length<n):
  (enterM F3 (callN F3 (m+40)) n c84 [.d (sagaD rt nn st wy n1 n2 n3 fc hops steps parts nm)] []).out=some [.bool (runOk parts steps)]:=by
 rw [e84]
 have rest: ∀i,i≤parts.length→(resume F3 (callN F3 (m+40)) n n 1 c84 (s84 rt nn st wy n1 n2 n3 fc hops steps parts nm (i:Nat))).out=some [.bool (restOk i parts)]:=by
  intro i hi
  have:=scan_loop (fun j i=>(resume F3 (callN F3 (m+40)) n j 1 c84 (s84 rt nn st wy n1 n2 n3 fc hops steps parts nm (i:Nat))).out) parts.length (fun i=> !(fi 0 (parts.getD i .nilp)==0&&fi 1 (parts.getD i .nilp)==0)) (fun _=>[.bool false]) [.bool true]
   (fun j i hi=> ?_) (fun j=> ?_) (parts.length - i) i n (by omega) (by omega)
  ·refine this.trans ?_
   rw [scan_map (fun b:Bool=>[D.bool b]) _ (fun _=>false) true]
   rfl
  ·rw [kk84]
   simp only [Int.toNat_natCast,wrap_up hi hl,dec_lt hi,dec_ix hi,cond_true,bne]
   generalize (fi 0 (parts.getD i .nilp)==0)=b1
   generalize (fi 1 (parts.getD i .nilp)==0)=b2
   cases b1 <;> cases b2 <;> rfl
  ·rw [kk84]
   simp only [dec_end,cond_false]
 have main: ∀(r i j:Nat),i+r=parts.length→r<j→(resume F3 (callN F3 (m+40)) n j 0 c84 (s84 rt nn st wy n1 n2 n3 fc hops steps parts nm (i:Nat))).out=some [.bool (scan (fun i=> !p80 (parts.getD i .nilp) (steps.getD i .nilp)) (fun i=>tailOk i parts steps) (tailOk parts.length parts steps) r i)]:=by
  intro r
  induction r with
  | zero=>
   intro i j hi hj
   cases j with
   | zero=>omega
   | succ j=>
    have:i=parts.length:=by omega
    subst this
    have hr:=rest parts.length (by omega)
    have e1:tailOk parts.length parts steps=true:=(tail_iff (by omega)).2 fun j h1 h2=>by omega
    have e2:restOk parts.length parts=true:=rest_iff.2 fun j h1 h2=>by omega
    rw [e2] at hr
    rw [l84]
    simp only [dec_end,cond_false,scan,e1]
    exact hr
  | succ r ih=>
   intro i j hi hj
   cases j with
   | zero=>omega
   | succ j=>
    have hlt:i<parts.length:=by omega
    have hr:=ih (i+1) j (by omega) (by omega)
    have ra:=rest i (by omega)
    have rb:=rest (i+1) (by omega)
    have ht:=tail_rest hlt ((allI_iff _ _ _ _).1 hsane i hlt)
    have hp:p80 (parts.getD i .nilp) (steps.getD i .nilp)=(fi 0 (parts.getD i .nilp)==2||((!fs 4 (steps.getD i .nilp)==[])&&fi 0 (parts.getD i .nilp)==3)):=rfl
    rw [l84]
    simp only [Int.toNat_natCast,wrap_up hlt hl,dec_lt hlt,dec_ix hlt,dec_ix (show i<steps.length by omega),cond_true,scan,hp]
    rw [ht]
    generalize scan _ _ _ r (i+1)=sc at hr ⊢
    generalize restOk i parts=ri at ra ⊢
    generalize restOk (i+1) parts=rj at rb ⊢
    cases (fi 0 (parts.getD i .nilp)==2)
    ·cases (fs 4 (steps.getD i .nilp)==[])
     ·cases (fi 0 (parts.getD i .nilp)==3)
      ·cases (fi 0 (parts.getD i .nilp)==0)
       ·cases (fi 0 (parts.getD i .nilp)==1)
        ·exact ra
        ·exact rb
       ·exact rb
      ·exact hr
     ·cases (fi 0 (parts.getD i .nilp)==0)
      ·cases (fi 0 (parts.getD i .nilp)==1)
       ·exact ra
       ·exact rb
      ·exact rb
    ·exact hr
 exact main parts.length 0 n (by omega) (by omega)
theorem run87(m n:Nat)(rt nn wy:Int)(n1 n2 n3 fc:Bool)(hops steps parts:List D)(nm:List UInt8)(hl:parts.length≤1000000)(hn:parts.length<n):
  (enterM F3 (callN F3 (m+40)) n c87 [.d (sagaD rt nn 5 wy n1 n2 n3 fc hops steps parts nm)] []).out=some [.int .i64 (cur 5 parts)]:=by
 rw [e87,wrap_down hl]
 refine down_loop (fun j i=>(resume F3 (callN F3 (m+40)) n j 1 c87 (s87 rt nn wy n1 n2 n3 fc hops steps parts nm i)).out) parts.length (fun i=>isOpen (parts.getD i .nilp)) (fun i=>[.int .i64 i]) [.int .i64 (-1)]
  (fun j i hi=> ?_) (fun j=> ?_) (fun i=>[.int .i64 i]) (fun _=>rfl) rfl parts.length n (by omega) (by omega)
 ·have h0:decide ((0:Int)≤(i:Int))=true:=by simp
  rw [l87]
  simp only [Int.toNat_natCast,wrap_down (show i≤1000000 by omega),h0,dec_ix hi,cond_true,isOpen]
  generalize (fi 0 _==1)=a0
  generalize (fi 0 _==2)=a1
  cases a0 <;> cases a1 <;> rfl
 ·have h0:decide ((0:Int)≤ -1)=false:=by decide
  rw [l87]
  simp only [h0,cond_false]
theorem pure82{P:Program}(hm:P.follows .mixedOrders=true)(h0:EnvOK P F3):PureOK P 82 g82:=PureOK.run hm h0 fun ds rs h=>by
 unfold g82 at h
 split at h
 ·split at h
  ·rename_i hb
   simp only [Bool.and_eq_true] at hb
   obtain ⟨hb1,hb2,hb3⟩:=hb
   have hb1:=Sh.beq_eq hb1
   have hb2:=Sh.beq_eq hb2
   have hb3:=Sh.beq_eq hb3
   subst hb1 hb2 hb3
   cases h
   exact ⟨59+1,by rw [callN_succ (fn:=c82) rfl];exact run82 19 59 _ _ _ _ _ _ _ _ _ _ _ _ (by omega)⟩
  ·cases h
 ·cases h
theorem pure86{P:Program}(hm:P.follows .mixedOrders=true)(h0:EnvOK P F3):PureOK P 86 g86:=PureOK.run hm h0 fun ds rs h=>by
 unfold g86 at h
 split at h
 ·rename_i rt nn eh n1 hops nm es n2 steps st wy ep n3 parts fc ow state
  split at h
  ·rename_i hb
   simp only [Bool.and_eq_true] at hb
   obtain ⟨hb1,hb2,hb3⟩:=hb
   have hb1:=Sh.beq_eq hb1
   have hb2:=Sh.beq_eq hb2
   have hb3:=Sh.beq_eq hb3
   subst hb1 hb2 hb3
   obtain ⟨hg,h⟩:=eval_guard h
   simp only [Bool.and_eq_true,decide_eq_true_eq] at hg
   cases h
   exact ⟨(parts.length+40)+1,by rw [callN_succ (fn:=c86) rfl];exact run86 parts.length (parts.length+40) rt nn st wy n1 n2 n3 fc hops steps parts nm ow state hg.1 hg.2 (by omega)⟩
  ·cases h
 ·cases h
theorem pure84{P:Program}(hm:P.follows .mixedOrders=true)(h0:EnvOK P F3):PureOK P 84 g84:=PureOK.run hm h0 fun ds rs h=>by
 unfold g84 at h
 split at h
 ·rename_i rt nn eh n1 hops nm es n2 steps st wy ep n3 parts fc
  split at h
  ·rename_i hb
   simp only [Bool.and_eq_true] at hb
   obtain ⟨hb1,hb2,hb3⟩:=hb
   have hb1:=Sh.beq_eq hb1
   have hb2:=Sh.beq_eq hb2
   have hb3:=Sh.beq_eq hb3
   subst hb1 hb2 hb3
   obtain ⟨hg,h⟩:=eval_guard h
   simp only [Bool.and_eq_true,decide_eq_true_eq] at hg
   cases h
   exact ⟨(parts.length+40)+1,by rw [callN_succ (fn:=c84) rfl];exact run84 parts.length (parts.length+40) rt nn st wy n1 n2 n3 fc hops steps parts nm hg.1 hg.2.1 hg.2.2 (by omega)⟩
  ·cases h
 ·cases h
theorem pure87{P:Program}(hm:P.follows .mixedOrders=true)(h0:EnvOK P F3):PureOK P 87 g87:=PureOK.run hm h0 fun ds rs h=>by
 unfold g87 at h
 split at h
 ·rename_i rt nn eh n1 hops nm es n2 steps st wy ep n3 parts fc
  split at h
  ·rename_i hb
   simp only [Bool.and_eq_true] at hb
   obtain ⟨hb1,hb2,hb3⟩:=hb
   have hb1:=Sh.beq_eq hb1
   have hb2:=Sh.beq_eq hb2
   have hb3:=Sh.beq_eq hb3
   subst hb1 hb2 hb3
   obtain ⟨hg,h⟩:=eval_guard h
   simp only [Bool.and_eq_true,decide_eq_true_eq,beq_iff_eq] at hg
   obtain ⟨hg,rfl⟩:=hg
   cases h
   exact ⟨(parts.length+40)+1,by rw [callN_succ (fn:=c87) rfl];exact run87 parts.length (parts.length+40) rt nn wy n1 n2 n3 fc hops steps parts nm hg (by omega)⟩
  ·cases h
 ·cases h
theorem okF4{P:Program}(hm:P.follows .mixedOrders=true)(h0:EnvOK P E19):EnvOK P F4:=by
 have f1:EnvOK P F1:=h0.pureAt (pure117 hm h0)
 have f2:EnvOK P F2:=f1.pureAt (pure179 hm f1)
 have f3:EnvOK P F3:=(f2.pureAt (pure136 hm f2)).pureAt (pure89 hm h0)
 exact (((f3.pureAt (pure82 hm f3)).pureAt (pure86 hm f3)).pureAt (pure84 hm f3)).pureAt (pure87 hm f3)
theorem cnt_all{q:Nat→Bool}: ∀{n:Nat},cntN q n=n↔ ∀i,i<n→q i=true
 | 0=>by simp [cntN]
 | n+1=>by
  have hle:=cntN_le q n
  have ih:= @cnt_all q n
  simp only [cntN]
  cases hq:q n
  ·constructor
   ·intro h;simp only [cond_false] at h;omega
   ·intro h;have:=h n (by omega);rw [hq] at this;cases this
  ·constructor
   ·intro h i hi
    simp only [cond_true] at h
    by_cases he:i=n
    ·rw [he];exact hq
    ·exact ih.1 (by omega) i (by omega)
   ·intro h
    have:=ih.2 fun i hi=>h i (by omega)
    simp only [cond_true];omega
theorem cnt_none{q:Nat→Bool}: ∀{n:Nat},cntN q n=0↔ ∀i,i<n→q i=false
 | 0=>by simp [cntN]
 | n+1=>by
  have ih:= @cnt_none q n
  simp only [cntN]
  cases hq:q n
  ·constructor
   ·intro h i hi
    by_cases he:i=n
    ·rw [he];exact hq
    ·exact ih.1 (by simpa using h) i (by omega)
   ·intro h
    have:=ih.2 fun i hi=>h i (by omega)
    simpa using this
  ·constructor
   ·intro h;simp at h
   ·intro h;have:=h n (by omega);rw [hq] at this;cases this
def b2n(b:Bool):Nat:=bif b then 1 else 0
theorem cnt_add{q a b:Nat→Bool}: ∀{n:Nat},(∀i,i<n→b2n (q i)=b2n (a i)+b2n (b i))→cntN q n=cntN a n+cntN b n
 | 0,_=>rfl
 | n+1,h=>by
  have:=cnt_add (n:=n) fun i hi=>h i (by omega)
  have h2:=h n (by omega)
  simp only [b2n] at h2
  simp only [cntN]
  omega
theorem cntR_small{ow:Bool}{k:Int}{parts steps:List D}:0≤cntR ow k parts steps∧cntR ow k parts steps≤parts.length:=by
 have:=cntN_le (qcnt ow k parts steps) parts.length
 unfold cntR
 omega
theorem any_sum{k:Int}{parts steps:List D}:cntR true k parts steps+cntR false k parts steps=(cntN (fun i=>fi 0 (parts.getD i .nilp)==k) parts.length:Nat):=by
 unfold cntR
 rw [cnt_add (q:=fun i=>fi 0 (parts.getD i .nilp)==k) (a:=qcnt true k parts steps) (b:=qcnt false k parts steps)]
 ·omega
 ·intro i _
  unfold qcnt
  cases (fi 0 (parts.getD i .nilp)==k) <;> cases asksAt (steps.getD i .nilp) <;> rfl
theorem all_cnt{p:D→D→Bool}{parts steps:List D}:allI p parts.length parts steps=((cntN (fun i=>p (parts.getD i .nilp) (steps.getD i .nilp)) parts.length:Nat)==(parts.length:Int)):=by
 rw [Bool.eq_iff_iff,allI_iff,beq_iff_eq]
 constructor
 ·intro h;have:=cnt_all.2 h;omega
 ·intro h;exact cnt_all.1 (by omega)
theorem none_cnt{p:D→D→Bool}{q:Nat→Bool}{parts steps:List D}(h: ∀i,i<parts.length→q i= !p (parts.getD i .nilp) (steps.getD i .nilp)):allI p parts.length parts steps=((cntN q parts.length:Nat)==(0:Int)):=by
 rw [Bool.eq_iff_iff,allI_iff,beq_iff_eq]
 constructor
 ·intro g
  have:=(cnt_none (q:=q)).2 fun i hi=>by rw [h i hi,g i hi];rfl
  omega
 ·intro g i hi
  have:=cnt_none.1 (show cntN q parts.length=0 by omega) i hi
  rw [h i hi] at this
  simpa using this
theorem w_small{a:Int}(h0:0≤a)(h:a≤1000):IntKind.wrap .i64 a=a:=wrap_i64 h0 (by omega)
section
variable {parts steps:List D}
theorem fA:decide (0<cntR true 2 parts steps)= !allI p81 parts.length parts steps:=by
 rw [none_cnt (q:=qcnt true 2 parts steps)]
 ·have:=(cntR_small (ow:=true) (k:=2) (parts:=parts) (steps:=steps)).1
  unfold cntR at*
  by_cases h:cntN (qcnt true 2 parts steps) parts.length=0
  ·rw [h];rfl
  ·rw [decide_eq_true (by omega),beqF (by omega)];rfl
 ·intro i _
  unfold qcnt p81
  cases (fi 0 (parts.getD i .nilp)==2) <;> cases asksAt (steps.getD i .nilp) <;> rfl
theorem fB:allI p84 parts.length parts steps=(allI p81 parts.length parts steps&&(cntR true 4 parts steps==0)):=by
 have h4:(cntR true 4 parts steps==0)=allI (fun x y=>asksAt y|| !(fi 0 x==4)) parts.length parts steps:=by
  rw [none_cnt (q:=qcnt true 4 parts steps)]
  ·rfl
  ·intro i _
   unfold qcnt
   cases (fi 0 (parts.getD i .nilp)==4) <;> cases asksAt (steps.getD i .nilp) <;> rfl
 rw [h4,Bool.eq_iff_iff,Bool.and_eq_true,allI_iff,allI_iff,allI_iff]
 have pt: ∀x y,p84 x y=(p81 x y&&(asksAt y|| !(fi 0 x==4))):=by
  intro x y
  unfold p84 p81
  cases asksAt y <;> cases (fi 0 x==2) <;> cases (fi 0 x==4) <;> rfl
 constructor
 ·intro h
  exact ⟨fun i hi=>by have:=h i hi;rw [pt,Bool.and_eq_true] at this;exact this.1,fun i hi=>by have:=h i hi;rw [pt,Bool.and_eq_true] at this;exact this.2⟩
 ·rintro ⟨h1,h2⟩ i hi
  rw [pt,h1 i hi,h2 i hi];rfl
theorem fC(h8:parts.length≤8):(IntKind.wrap .i64 (IntKind.wrap .i64 (cntR true 2 parts steps+cntR false 2 parts steps)+cntR false 3 parts steps)==(parts.length:Int))=allI p80 parts.length parts steps:=by
 have a:=cntR_small (ow:=true) (k:=2) (parts:=parts) (steps:=steps)
 have b:=cntR_small (ow:=false) (k:=2) (parts:=parts) (steps:=steps)
 have c:=cntR_small (ow:=false) (k:=3) (parts:=parts) (steps:=steps)
 rw [w_small (show 0≤cntR true 2 parts steps+cntR false 2 parts steps by omega) (by omega),w_small (by omega) (by omega),all_cnt,any_sum]
 rw [cnt_add (q:=fun i=>p80 (parts.getD i .nilp) (steps.getD i .nilp)) (a:=fun i=>fi 0 (parts.getD i .nilp)==2) (b:=qcnt false 3 parts steps)]
 ·unfold cntR
  rw [Int.natCast_add]
 ·intro i _
  unfold p80 qcnt
  by_cases h:fi 0 (parts.getD i .nilp)=2
  ·rw [h];cases asksAt (steps.getD i .nilp) <;> rfl
  ·rw [beqF h];cases (fi 0 (parts.getD i .nilp)==3) <;> cases asksAt (steps.getD i .nilp) <;> rfl
theorem fD(h8:parts.length≤8):(IntKind.wrap .i64 (IntKind.wrap .i64 (cntR true 4 parts steps+cntR false 4 parts steps)+cntR false 2 parts steps)==(parts.length:Int))=allI p83 parts.length parts steps:=by
 have a:=cntR_small (ow:=true) (k:=4) (parts:=parts) (steps:=steps)
 have b:=cntR_small (ow:=false) (k:=4) (parts:=parts) (steps:=steps)
 have c:=cntR_small (ow:=false) (k:=2) (parts:=parts) (steps:=steps)
 rw [w_small (show 0≤cntR true 4 parts steps+cntR false 4 parts steps by omega) (by omega),w_small (by omega) (by omega),all_cnt,any_sum]
 rw [cnt_add (q:=fun i=>p83 (parts.getD i .nilp) (steps.getD i .nilp)) (a:=fun i=>fi 0 (parts.getD i .nilp)==4) (b:=qcnt false 2 parts steps)]
 ·unfold cntR
  rw [Int.natCast_add]
 ·intro i _
  unfold p83 qcnt
  by_cases h:fi 0 (parts.getD i .nilp)=4
  ·rw [h];cases asksAt (steps.getD i .nilp) <;> rfl
  ·rw [beqF h];cases (fi 0 (parts.getD i .nilp)==2) <;> cases asksAt (steps.getD i .nilp) <;> rfl
theorem fE(h8:parts.length≤8):(IntKind.wrap .i64 (cntR true 4 parts steps+cntR false 4 parts steps)==0)=allI (p97 w4) parts.length parts steps:=by
 have a:=cntR_small (ow:=true) (k:=4) (parts:=parts) (steps:=steps)
 have b:=cntR_small (ow:=false) (k:=4) (parts:=parts) (steps:=steps)
 rw [w_small (by omega) (by omega),any_sum,none_cnt (q:=fun i=>fi 0 (parts.getD i .nilp)==4)]
 intro i _
 have:= @q974 (parts.getD i .nilp) (steps.getD i .nilp)
 by_cases h:fi 0 (parts.getD i .nilp)=4
 ·have h2:p97 w4 (parts.getD i .nilp) (steps.getD i .nilp)=false:=by rw [Bool.eq_false_iff];intro g;exact this.1 g h
  rw [h2,h];rfl
 ·rw [this.2 h,beqF h];rfl
theorem fF(h8:parts.length≤8)(hs:allI p47 parts.length parts steps=true):(IntKind.wrap .i64 (IntKind.wrap .i64 (cntR true 0 parts steps+cntR false 0 parts steps)+IntKind.wrap .i64 (cntR true 3 parts steps+cntR false 3 parts steps))==(parts.length:Int))=allI (p97 w124) parts.length parts steps:=by
 have a:=cntR_small (ow:=true) (k:=0) (parts:=parts) (steps:=steps)
 have b:=cntR_small (ow:=false) (k:=0) (parts:=parts) (steps:=steps)
 have c:=cntR_small (ow:=true) (k:=3) (parts:=parts) (steps:=steps)
 have d:=cntR_small (ow:=false) (k:=3) (parts:=parts) (steps:=steps)
 rw [w_small (show 0≤cntR true 0 parts steps+cntR false 0 parts steps by omega) (by omega),w_small (show 0≤cntR true 3 parts steps+cntR false 3 parts steps by omega) (by omega),w_small (by omega) (by omega),all_cnt,any_sum,any_sum]
 rw [cnt_add (q:=fun i=>p97 w124 (parts.getD i .nilp) (steps.getD i .nilp)) (a:=fun i=>fi 0 (parts.getD i .nilp)==0) (b:=fun i=>fi 0 (parts.getD i .nilp)==3)]
 ·rw [Int.natCast_add]
 ·intro i hi
  have hq:=q47.1 ((allI_iff _ _ _ _).1 hs i hi)
  have:= @q97124 (parts.getD i .nilp) (steps.getD i .nilp)
  have hv:fi 0 (parts.getD i .nilp)=0∨fi 0 (parts.getD i .nilp)=1∨fi 0 (parts.getD i .nilp)=2∨fi 0 (parts.getD i .nilp)=3∨fi 0 (parts.getD i .nilp)=4:=by omega
  cases hp:p97 w124 (parts.getD i .nilp) (steps.getD i .nilp)
  ·have h2: ¬(fi 0 (parts.getD i .nilp)≠1∧fi 0 (parts.getD i .nilp)≠2∧fi 0 (parts.getD i .nilp)≠4):=fun g=>by rw [this.2 g] at hp;cases hp
   rcases hv with h | h | h | h | h
   ·exact (h2 ⟨by omega,by omega,by omega⟩).elim
   ·rw [h];rfl
   ·rw [h];rfl
   ·exact (h2 ⟨by omega,by omega,by omega⟩).elim
   ·rw [h];rfl
  ·have h2:=this.1 hp
   rcases hv with h | h | h | h | h
   ·rw [h];rfl
   ·omega
   ·omega
   ·rw [h];rfl
   ·omega
end
theorem run36(m n:Nat)(rt nn st wy:Int)(n1 n2 n3 fc:Bool)(hops steps parts:List D)(nm:List UInt8):
  (enterM F4 (callN F4 (m+40)) n c36 [.d (sagaD rt nn st wy n1 n2 n3 fc hops steps parts nm)] []).out=some [.int .i64 (bif mayOk rt nn st wy fc hops steps parts nm then 0 else 230)]:=by
 rw [e36]
 have hid:((bif idOk rt nn hops then (0:Int) else 30) != 0)= !idOk rt nn hops:=by cases idOk rt nn hops <;> rfl
 have hwy:(wy != 0)= !(wy==0):=rfl
 rw [hid,hwy]
 by_cases h7:st=7
 ·subst h7
  unfold mayOk
  have e1:decide (0<(steps.length:Int)+(parts.length:Int))= !((steps.length:Int)==0&&(parts.length:Int)==0):=by
   by_cases h1:(steps.length:Int)=0
   ·by_cases h2:(parts.length:Int)=0
    ·rw [h1,h2];rfl
    ·rw [h1,beqF h2,decide_eq_true (by omega)];rfl
   ·rw [beqF h1,decide_eq_true (by omega)];rfl
  have e2:((hops.length:Int)==0)= !decide (0<(hops.length:Int)):=by
   by_cases h1:(hops.length:Int)=0
   ·rw [h1];rfl
   ·rw [beqF h1,decide_eq_true (by omega)];rfl
  rw [e1,e2]
  have e77:((7:Int)==7)=true:=rfl
  simp only [e77,cond_true]
  generalize (nm==[])=b1
  generalize ((steps.length:Int)==0)=b2
  generalize ((parts.length:Int)==0)=b3
  generalize decide (1≤wy)=b4
  generalize decide (wy≤9)=b5
  generalize decide (0<(hops.length:Int))=b6
  generalize idOk rt nn hops=b7
  cases b1 <;> cases b2 <;> cases b3 <;> cases b4 <;> cases b5 <;> cases b6 <;> cases b7 <;> cases fc <;> rfl
 ·have b7:=beqF h7
  rw [b7]
  simp only [cond_false]
  cases hp:partsOk nm steps parts
  ·have hm:mayOk rt nn st wy fc hops steps parts nm=false:=by
    unfold mayOk
    rw [b7]
    unfold partsOk at hp
    rw [bne]
    cases idOk rt nn hops
    ·rfl
    ·cases hd:defOk nm steps
     ·rfl
     ·rw [hd] at hp
      cases hl:((parts.length:Int)==(steps.length:Int))
      ·rfl
      ·rw [hl] at hp
       cases hs:allI p47 parts.length parts steps
       ·rfl
       ·rw [hs] at hp;cases hp
   rw [hm]
   rfl
  ·have hp':=hp
   unfold partsOk at hp'
   simp only [Bool.and_eq_true,beq_iff_eq] at hp'
   obtain ⟨hd,hl,hs⟩:=hp'
   have h8:parts.length≤8:=by
    unfold defOk at hd
    simp only [Bool.and_eq_true,Bool.not_eq_true',decide_eq_false_iff_not] at hd
    omega
   have hm:mayOk rt nn st wy fc hops steps parts nm=(idOk rt nn hops&&fitsOk st wy fc hops parts steps):=by
    unfold mayOk
    rw [b7,hd,hs,bne,beq_iff_eq.2 hl]
    cases idOk rt nn hops <;> cases fitsOk st wy fc hops parts steps <;> rfl
   have gg:(decide (parts.length≤1000000)&&decide (parts.length≤steps.length))=true:=by
    rw [decide_eq_true (show parts.length≤1000000 by omega),decide_eq_true (show parts.length≤steps.length by omega)];rfl
   have gs:(decide (parts.length≤1000000)&&(decide (parts.length≤steps.length)&&allI p47 parts.length parts steps))=true:=by
    rw [decide_eq_true (show parts.length≤1000000 by omega),decide_eq_true (show parts.length≤steps.length by omega),hs];rfl
   rw [hm,gg,gs,fA,fC h8,fD h8,fE h8,fF h8 hs]
   simp only [cond_true]
   generalize idOk rt nn hops=a
   by_cases h1:st=1
   ·subst h1
    show _=some [D.int .i64 (bif a&&(bif !fc then bif wy==0 then runOk parts steps else false else false) then 0 else 230)]
    generalize (wy==0)=w0
    generalize decide (1≤wy)=w1
    generalize decide (wy≤9)=w9
    generalize runOk parts steps=ro
    generalize allI p81 parts.length parts steps=x81
    cases a <;> cases fc <;> cases w0 <;> cases w1 <;> cases w9 <;> cases ro <;> cases x81 <;> rfl
   by_cases h2:st=2
   ·subst h2
    show _=some [D.int .i64 (bif a&&(bif !fc then bif wy==0 then bif decide (0<(hops.length:Int)) then allI p80 parts.length parts steps else false else false else false) then 0 else 230)]
    generalize (wy==0)=w0
    generalize decide (1≤wy)=w1
    generalize decide (wy≤9)=w9
    generalize decide (0<(hops.length:Int))=hh
    generalize allI p80 parts.length parts steps=x80
    generalize allI p81 parts.length parts steps=x81
    cases a <;> cases fc <;> cases w0 <;> cases w1 <;> cases w9 <;> cases hh <;> cases x80 <;> cases x81 <;> rfl
   by_cases h3:st=3
   ·subst h3
    show _=some [D.int .i64 (bif a&&(bif fc then bif wy==0 then allI p81 parts.length parts steps else bif decide (1≤wy) then bif decide (wy≤9) then allI p81 parts.length parts steps else false else false
     else bif wy==0 then allI p83 parts.length parts steps else false) then 0 else 230)]
    generalize (wy==0)=w0
    generalize decide (1≤wy)=w1
    generalize decide (wy≤9)=w9
    generalize allI p83 parts.length parts steps=x83
    generalize allI p81 parts.length parts steps=x81
    cases a <;> cases fc <;> cases w0 <;> cases w1 <;> cases w9 <;> cases x83 <;> cases x81 <;> rfl
   by_cases h4:st=4
   ·subst h4
    show _=some [D.int .i64 (bif a&&(bif fc then false else bif decide (1≤wy) then bif !decide (wy≤9) then false else bif !allI (p97 w4) parts.length parts steps then false else true else false) then 0 else 230)]
    generalize (wy==0)=w0
    generalize decide (1≤wy)=w1
    generalize decide (wy≤9)=w9
    generalize allI (p97 w4) parts.length parts steps=x4
    generalize allI p81 parts.length parts steps=x81
    cases a <;> cases fc <;> cases w0 <;> cases w1 <;> cases w9 <;> cases x4 <;> cases x81 <;> rfl
   by_cases h5:st=5
   ·subst h5
    have hx:(decide (parts.length≤1000000)&&(5:Int)==5)=true:=by rw [decide_eq_true (show parts.length≤1000000 by omega)];rfl
    rw [hx]
    show _=some [D.int .i64 (bif a&&(bif fc then false else bif decide (1≤wy) then bif !decide (wy≤9) then false else bif !allI (p97 w4) parts.length parts steps then false else
     bif decide (0≤cur 5 parts) then bif !!fs 4 (steps.getD (cur 5 parts).toNat .nilp)==[] then fi 1 (parts.getD (cur 5 parts).toNat .nilp)==5 else false else false else false) then 0 else 230)]
    by_cases hc:0≤cur 5 parts
    ·have hlt:=(cur5_spec hc).1
     have d1:decide ((0:Int)≤cur 5 parts∧cur 5 parts<(steps.length:Int))=true:=decide_eq_true (by omega)
     have d2:decide ((0:Int)≤cur 5 parts∧cur 5 parts<(parts.length:Int))=true:=decide_eq_true (by omega)
     rw [decide_eq_true hc,d1,d2]
     generalize (wy==0)=w0
     generalize decide (1≤wy)=w1
     generalize decide (wy≤9)=w9
     generalize allI (p97 w4) parts.length parts steps=x4
     generalize allI p81 parts.length parts steps=x81
     generalize (fs 4 (steps.getD (cur 5 parts).toNat .nilp)==[])=y1
     generalize (fi 1 (parts.getD (cur 5 parts).toNat .nilp)==5)=y2
     cases a <;> cases fc <;> cases w0 <;> cases w1 <;> cases w9 <;> cases x4 <;> cases x81 <;> cases y1 <;> cases y2 <;> rfl
    ·rw [decide_eq_false hc]
     generalize (wy==0)=w0
     generalize decide (1≤wy)=w1
     generalize decide (wy≤9)=w9
     generalize allI (p97 w4) parts.length parts steps=x4
     generalize allI p81 parts.length parts steps=x81
     cases a <;> cases fc <;> cases w0 <;> cases w1 <;> cases w9 <;> cases x4 <;> cases x81 <;> rfl
   by_cases h6:st=6
   ·subst h6
    show _=some [D.int .i64 (bif a&&(bif fc then bif wy==0 then allI p84 parts.length parts steps else bif decide (1≤wy) then bif decide (wy≤9) then allI p84 parts.length parts steps else false else false
     else bif decide (1≤wy) then bif decide (wy≤9) then !!allI (p97 w124) parts.length parts steps else false else false) then 0 else 230)]
    rw [fB]
    generalize (wy==0)=w0
    generalize decide (1≤wy)=w1
    generalize decide (wy≤9)=w9
    generalize allI (p97 w124) parts.length parts steps=x4
    generalize allI p81 parts.length parts steps=x81
    generalize (cntR true 4 parts steps==0)=c4
    cases a <;> cases fc <;> cases w0 <;> cases w1 <;> cases w9 <;> cases x4 <;> cases x81 <;> cases c4 <;> rfl
   ·have hf:fitsOk st wy fc hops parts steps=false:=by
     unfold fitsOk
     rw [beqF h1,beqF h2,beqF h3,beqF h4,beqF h5,beqF h6]
     rfl
    rw [hf,beqF h1,beqF h2,beqF h3,beqF h4,beqF h5,beqF h6]
    generalize (wy==0)=w0
    generalize decide (1≤wy)=w1
    generalize decide (wy≤9)=w9
    generalize allI p81 parts.length parts steps=x81
    cases a <;> cases fc <;> cases w0 <;> cases w1 <;> cases w9 <;> cases x81 <;> rfl
def g36:List D→Tree (List D)
 | [.agg [.int .i64 rt,.int .i64 nn,.sl eh _ hops,.str nm,.sl es _ steps,.int .i64 st,.int .i64 wy,.sl ep _ parts,.bool fc]]=>match (Sh.beq eh hopSh&&(Sh.beq es stepSh&&Sh.beq ep partSh)) with
  | true=> .ret [.int .i64 (bif mayOk rt nn st wy fc hops steps parts nm then 0 else 230)]
  | false=> .stuck
 | _=> .stuck
theorem pure36{P:Program}(hm:P.follows .mixedOrders=true)(h0:EnvOK P F4):PureOK P 36 g36:=PureOK.run hm h0 fun ds rs h=>by
 unfold g36 at h
 split at h
 ·split at h
  ·rename_i hb
   simp only [Bool.and_eq_true] at hb
   obtain ⟨hb1,hb2,hb3⟩:=hb
   have hb1:=Sh.beq_eq hb1
   have hb2:=Sh.beq_eq hb2
   have hb3:=Sh.beq_eq hb3
   subst hb1 hb2 hb3
   cases h
   exact ⟨59+1,by rw [callN_succ (fn:=c36) rfl];exact run36 19 59 _ _ _ _ _ _ _ _ _ _ _ _⟩
  ·cases h
 ·cases h
def F5:Env:=F4.pureAt 36 true g36
theorem okF5{P:Program}(hm:P.follows .mixedOrders=true)(h0:EnvOK P E19):EnvOK P F5:=(okF4 hm h0).pureAt (pure36 hm (okF4 hm h0))
theorem e15(m n:Nat)(rt nn st wy:Int)(n1 n2 n3 fc:Bool)(hops steps parts:List D)(nm:List UInt8):Tree.out (enterM F5 (callN F5 (m+40)) n c15 [.d (sagaD rt nn st wy n1 n2 n3 fc hops steps parts nm)] [])=bif decide (steps.length≤1000000) then bif decide (parts.length≤1000000) then bif (bif mayOk rt nn st wy fc hops steps parts nm then (0:Int) else (230:Int)) != 0 then some [D.agg [D.int .i64 0,D.int .i64 0,D.int .i64 0,D.sl hopSh true [],D.str [],D.int .i64 0],D.bool false] else bif (hops.length:Int)==0 then some [D.agg [D.int .i64 0,D.int .i64 0,D.int .i64 0,D.sl hopSh true [],D.str [],D.int .i64 0],D.bool false] else bif n1 then bif st==2 then some [D.agg [D.int .i64 5,D.int .i64 rt,D.int .i64 nn,D.sl hopSh true [],D.str [],D.int .i64 0],D.bool true] else bif st==3 then some [D.agg [D.int .i64 7,D.int .i64 rt,D.int .i64 nn,D.sl hopSh true [],D.str [],D.int .i64 0],D.bool true] else bif st==6 then bif wy==0 then some [D.agg [D.int .i64 6,D.int .i64 rt,D.int .i64 nn,D.sl hopSh true [],D.str [],D.int .i64 6],D.bool true] else some [D.agg [D.int .i64 6,D.int .i64 rt,D.int .i64 nn,D.sl hopSh true [],D.str [],D.int .i64 wy],D.bool true] else bif st==7 then bif wy==0 then some [D.agg [D.int .i64 6,D.int .i64 rt,D.int .i64 nn,D.sl hopSh true [],D.str [],D.int .i64 6],D.bool true] else some [D.agg [D.int .i64 6,D.int .i64 rt,D.int .i64 nn,D.sl hopSh true [],D.str [],D.int .i64 wy],D.bool true] else some [D.agg [D.int .i64 0,D.int .i64 0,D.int .i64 0,D.sl hopSh true [],D.str [],D.int .i64 0],D.bool false] else bif decide (hops.length≤1000000) then bif st==2 then some [D.agg [D.int .i64 5,D.int .i64 rt,D.int .i64 nn,D.sl hopSh false hops,D.str [],D.int .i64 0],D.bool true] else bif st==3 then some [D.agg [D.int .i64 7,D.int .i64 rt,D.int .i64 nn,D.sl hopSh false hops,D.str [],D.int .i64 0],D.bool true] else bif st==6 then bif wy==0 then some [D.agg [D.int .i64 6,D.int .i64 rt,D.int .i64 nn,D.sl hopSh false hops,D.str [],D.int .i64 6],D.bool true] else some [D.agg [D.int .i64 6,D.int .i64 rt,D.int .i64 nn,D.sl hopSh false hops,D.str [],D.int .i64 wy],D.bool true] else bif st==7 then bif wy==0 then some [D.agg [D.int .i64 6,D.int .i64 rt,D.int .i64 nn,D.sl hopSh false hops,D.str [],D.int .i64 6],D.bool true] else some [D.agg [D.int .i64 6,D.int .i64 rt,D.int .i64 nn,D.sl hopSh false hops,D.str [],D.int .i64 wy],D.bool true] else some [D.agg [D.int .i64 0,D.int .i64 0,D.int .i64 0,D.sl hopSh true [],D.str [],D.int .i64 0],D.bool false] else none else none else none:=by kernel_rfl
theorem e16(m n:Nat)(rt nn st wy:Int)(n1 n2 n3 fc:Bool)(hops steps parts:List D)(nm:List UInt8):Tree.out (enterM F5 (callN F5 (m+40)) n c16 [.d (sagaD rt nn st wy n1 n2 n3 fc hops steps parts nm)] [])=bif (bif mayOk rt nn st wy fc hops steps parts nm then (0:Int) else (230:Int)) != 0 then some [D.agg [D.int .i64 0,D.int .i64 0,D.int .i64 0,D.sl hopSh true [],D.str [],D.int .i64 0],D.bool false] else bif (hops.length:Int)==0 then some [D.agg [D.int .i64 0,D.int .i64 0,D.int .i64 0,D.sl hopSh true [],D.str [],D.int .i64 0],D.bool false] else bif st==2 then some [D.agg [D.int .i64 5,D.int .i64 rt,D.int .i64 nn,D.sl hopSh n1 hops,D.str [],D.int .i64 0],D.bool true] else bif st==3 then some [D.agg [D.int .i64 7,D.int .i64 rt,D.int .i64 nn,D.sl hopSh n1 hops,D.str [],D.int .i64 0],D.bool true] else bif st != 6 then bif st != 7 then some [D.agg [D.int .i64 0,D.int .i64 0,D.int .i64 0,D.sl hopSh true [],D.str [],D.int .i64 0],D.bool false] else bif wy==0 then some [D.agg [D.int .i64 6,D.int .i64 rt,D.int .i64 nn,D.sl hopSh n1 hops,D.str [],D.int .i64 6],D.bool true] else some [D.agg [D.int .i64 6,D.int .i64 rt,D.int .i64 nn,D.sl hopSh n1 hops,D.str [],D.int .i64 wy],D.bool true] else bif wy==0 then some [D.agg [D.int .i64 6,D.int .i64 rt,D.int .i64 nn,D.sl hopSh n1 hops,D.str [],D.int .i64 6],D.bool true] else some [D.agg [D.int .i64 6,D.int .i64 rt,D.int .i64 nn,D.sl hopSh n1 hops,D.str [],D.int .i64 wy],D.bool true]:=by kernel_rfl
theorem e100(m n:Nat)(r q:Int)(nil:Bool)(es:List D)(r' q':Int)(nil':Bool)(es':List D):Tree.out (enterM F5 (callN F5 (m+40)) n c100 [.d (.agg [.int .i64 r,.int .i64 q,.sl hopSh nil es]),.d (.agg [.int .i64 r',.int .i64 q',.sl hopSh nil' es'])] [])=bif r != r' then bif decide (r<r') then some [D.int .i64 (-1)] else bif decide (r'<r) then some [D.int .i64 1] else some [D.int .i64 0] else bif q != q' then bif decide (q<q') then some [D.int .i64 (-1)] else bif decide (q'<q) then some [D.int .i64 1] else some [D.int .i64 0] else Tree.out (resume F5 (callN F5 (m+40)) n n 0 c100 { fr:=frame 79 [(2,V.ptr 192 0),(3,V.ptr 256 0),(5,V.d (D.int .i64 0))],ob:=[(192,Obj.box [V.d (D.int .i64 r),V.d (D.int .i64 q),V.d (D.sl hopSh nil es)]),(256,Obj.box [V.d (D.int .i64 r'),V.d (D.int .i64 q'),V.d (D.sl hopSh nil' es')])] }):=by kernel_rfl
def s100(r q:Int)(nil:Bool)(es:List D)(r' q':Int)(nil':Bool)(es':List D)(i:Int):St:= { fr:=frame 79 [(2,V.ptr 192 0),(3,V.ptr 256 0),(5,V.d (D.int .i64 i))],ob:=[(192,.box [V.d (D.int .i64 r),V.d (D.int .i64 q),V.d (D.sl hopSh nil es)]),(256,.box [V.d (D.int .i64 r'),V.d (D.int .i64 q'),V.d (D.sl hopSh nil' es')])] }
theorem l100(m n j:Nat)(r q:Int)(nil:Bool)(es:List D)(r' q':Int)(nil':Bool)(es':List D)(i:Int):Tree.out (resume F5 (callN F5 (m+40)) n (j+1) 0 c100 (s100 r q nil es r' q' nil' es' i))=bif decide (i<(↑(List.length es):Int)) then bif decide (i<(↑(List.length es'):Int)) then bif decide ((0:Int)≤i∧i<(↑(List.length es):Int)) then bif decide ((0:Int)≤i∧i<(↑(List.length es'):Int)) then bif fi 0 (List.getD es (Int.toNat i) D.nilp) != fi 0 (List.getD es' (Int.toNat i) D.nilp) then bif decide (fi 0 (List.getD es (Int.toNat i) D.nilp)<fi 0 (List.getD es' (Int.toNat i) D.nilp)) then some [D.int .i64 (-1:Int)] else bif decide (fi 0 (List.getD es' (Int.toNat i) D.nilp)<fi 0 (List.getD es (Int.toNat i) D.nilp)) then some [D.int .i64 1] else some [D.int .i64 0] else bif fi 1 (List.getD es (Int.toNat i) D.nilp) != fi 1 (List.getD es' (Int.toNat i) D.nilp) then bif decide (fi 1 (List.getD es (Int.toNat i) D.nilp)<fi 1 (List.getD es' (Int.toNat i) D.nilp)) then some [D.int .i64 (-1:Int)] else bif decide (fi 1 (List.getD es' (Int.toNat i) D.nilp)<fi 1 (List.getD es (Int.toNat i) D.nilp)) then some [D.int .i64 1] else some [D.int .i64 0] else Tree.out (resume F5 (callN F5 (m+40)) n j (0:Nat) c100 (s100 r q nil es r' q' nil' es' (IntKind.wrap .i64 (i+(1:Int))))) else none else none else bif decide ((↑(List.length es):Int)<(↑(List.length es'):Int)) then some [D.int .i64 (-1:Int)] else bif decide ((↑(List.length es'):Int)<(↑(List.length es):Int)) then some [D.int .i64 1] else some [D.int .i64 0] else bif decide ((↑(List.length es):Int)<(↑(List.length es'):Int)) then some [D.int .i64 (-1:Int)] else bif decide ((↑(List.length es'):Int)<(↑(List.length es):Int)) then some [D.int .i64 1] else some [D.int .i64 0]:=by kernel_rfl
def numb(x y:Int):Int:=bif decide (x<y) then -1 else bif decide (y<x) then 1 else 0
def refCmp(r q:Int)(es:List D)(r' q':Int)(es':List D):Int:=
 bif r != r' then numb r r' else bif q != q' then numb q q' else
  scan (fun i=>(fi 0 (es.getD i .nilp) != fi 0 (es'.getD i .nilp))||(fi 1 (es.getD i .nilp) != fi 1 (es'.getD i .nilp)))
   (fun i=>bif fi 0 (es.getD i .nilp) != fi 0 (es'.getD i .nilp) then numb (fi 0 (es.getD i .nilp)) (fi 0 (es'.getD i .nilp)) else numb (fi 1 (es.getD i .nilp)) (fi 1 (es'.getD i .nilp)))
   (numb es.length es'.length) (min es.length es'.length) 0
theorem refCmp_self(r q:Int)(es:List D):refCmp r q es r q es=0:=by
 unfold refCmp
 have h1: ∀x:Int,(x != x)=false:=fun x=>by simp
 have h2: ∀x:Int,numb x x=0:=fun x=>by unfold numb;simp
 rw [h1,h1,scan_none]
 ·exact h2 _
 ·intro j _ _
  rw [h1,h1];rfl
theorem run100(m n:Nat)(r q:Int)(nil:Bool)(es:List D)(r' q':Int)(nil':Bool)(es':List D)(hl:es.length≤1000000)(hn:es.length<n):
  (enterM F5 (callN F5 (m+40)) n c100 [.d (.agg [.int .i64 r,.int .i64 q,.sl hopSh nil es]),.d (.agg [.int .i64 r',.int .i64 q',.sl hopSh nil' es'])] []).out=some [.int .i64 (refCmp r q es r' q' es')]:=by
 rw [e100]
 unfold refCmp
 have three: ∀x y:Int,(bif decide (x<y) then some [D.int .i64 (-1)] else bif decide (y<x) then some [D.int .i64 1] else some [D.int .i64 0])=some [D.int .i64 (numb x y)]:=by
  intro x y
  unfold numb
  cases decide (x<y) <;> cases decide (y<x) <;> rfl
 rw [three,three]
 cases (r != r')
 ·cases (q != q')
  ·have:=scan_loop (fun j i=>(resume F5 (callN F5 (m+40)) n j 0 c100 (s100 r q nil es r' q' nil' es' (i:Nat))).out) (min es.length es'.length) (fun i=>(fi 0 (es.getD i .nilp) != fi 0 (es'.getD i .nilp))||(fi 1 (es.getD i .nilp) != fi 1 (es'.getD i .nilp)))
    (fun i=>[.int .i64 (bif fi 0 (es.getD i .nilp) != fi 0 (es'.getD i .nilp) then numb (fi 0 (es.getD i .nilp)) (fi 0 (es'.getD i .nilp)) else numb (fi 1 (es.getD i .nilp)) (fi 1 (es'.getD i .nilp)))]) [.int .i64 (numb es.length es'.length)]
    (fun j i hi=> ?_) (fun j=> ?_) (min es.length es'.length) 0 n (by omega) (by omega)
   ·refine this.trans ?_
    rw [scan_map (fun b:Int=>[D.int .i64 b])]
    rfl
   ·have hi1:i<es.length:=by omega
    have hi2:i<es'.length:=by omega
    rw [l100]
    simp only [Int.toNat_natCast,wrap_up hi1 hl,dec_lt hi1,dec_ix hi1,dec_lt hi2,dec_ix hi2,cond_true,three]
    cases (fi 0 (es.getD i .nilp) != fi 0 (es'.getD i .nilp))
    ·cases (fi 1 (es.getD i .nilp) != fi 1 (es'.getD i .nilp)) <;> rfl
    ·rfl
   ·rw [l100]
    simp only [three]
    by_cases h:es.length≤es'.length
    ·rw [Nat.min_eq_left h]
     simp only [dec_end,cond_false]
    ·rw [Nat.min_eq_right (by omega)]
     simp only [dec_end,cond_false,dec_lt (show es'.length<es.length by omega),cond_true]
  ·rfl
 ·rfl
def g100:List D→Tree (List D)
 | [.agg [.int .i64 r,.int .i64 q,.sl e _ es],.agg [.int .i64 r',.int .i64 q',.sl e' _ es']]=>match Sh.beq e hopSh&&Sh.beq e' hopSh with
  | true=> .ite (decide (es.length≤1000000)) (fun _=> .ret [.int .i64 (refCmp r q es r' q' es')]) (fun _=> .stuck)
  | false=> .stuck
 | _=> .stuck
theorem pure100{P:Program}(hm:P.follows .mixedOrders=true)(h0:EnvOK P F5):PureOK P 100 g100:=PureOK.run hm h0 fun ds rs h=>by
 unfold g100 at h
 split at h
 ·rename_i r q e nil es r' q' e' nil' es'
  split at h
  ·rename_i hb
   simp only [Bool.and_eq_true] at hb
   obtain ⟨hb1,hb2⟩:=hb
   have hb1:=Sh.beq_eq hb1
   have hb2:=Sh.beq_eq hb2
   subst hb1 hb2
   obtain ⟨hg,h⟩:=eval_guard h
   cases h
   exact ⟨(es.length+40)+1,by rw [callN_succ (fn:=c100) rfl];exact run100 es.length (es.length+40) r q nil es r' q' nil' es' (of_decide_eq_true hg) (by omega)⟩
  ·cases h
 ·cases h
def tellOk(rt nn st wy:Int)(fc:Bool)(hops steps parts:List D)(nm:List UInt8):Bool:=
 mayOk rt nn st wy fc hops steps parts nm&&(!((hops.length:Int)==0)&&(st==2||(st==3||(st==6||st==7))))
def tellK(st:Int):Int:=bif st==2 then 5 else bif st==3 then 7 else 6
def tellW(st wy:Int):Int:=bif st==2||st==3 then 0 else bif wy==0 then 6 else wy
def noteD(k r q:Int)(nil:Bool)(hops:List D)(df:List UInt8)(w:Int):D:= .agg [.int .i64 k,.int .i64 r,.int .i64 q,.sl hopSh nil hops,.str df,.int .i64 w]
def tellT(rt nn st wy:Int)(n1 fc:Bool)(hops steps parts:List D)(nm:List UInt8):Tree (List D):=
 .ite (tellOk rt nn st wy fc hops steps parts nm) (fun _=> .ret [.agg [.int .i64 (tellK st),.int .i64 rt,.int .i64 nn,.sl hopSh n1 hops,.str [],.int .i64 (tellW st wy)],.bool true])
  (fun _=> .ret [.agg [.int .i64 0,.int .i64 0,.int .i64 0,.sl hopSh true [],.str [],.int .i64 0],.bool false])
theorem tell_st{st:Int}:st=2∨st=3∨st=6∨st=7∨((st==2)=false∧(st==3)=false∧(st==6)=false∧(st==7)=false):=by
 by_cases h2:st=2
 ·exact .inl h2
 ·by_cases h3:st=3
  ·exact .inr (.inl h3)
  ·by_cases h6:st=6
   ·exact .inr (.inr (.inl h6))
   ·by_cases h7:st=7
    ·exact .inr (.inr (.inr (.inl h7)))
    ·exact .inr (.inr (.inr (.inr ⟨beqF h2,beqF h3,beqF h6,beqF h7⟩)))
theorem run16(m n:Nat)(rt nn st wy:Int)(n1 n2 n3 fc:Bool)(hops steps parts:List D)(nm:List UInt8):
  (enterM F5 (callN F5 (m+40)) n c16 [.d (sagaD rt nn st wy n1 n2 n3 fc hops steps parts nm)] []).out=(tellT rt nn st wy n1 fc hops steps parts nm).eval:=by
 rw [e16]
 unfold tellT tellOk tellK tellW
 cases mayOk rt nn st wy fc hops steps parts nm
 ·rfl
 ·cases ((hops.length:Int)==0)
  ·rcases tell_st (st:=st) with rfl | rfl | rfl | rfl | ⟨a,b,c,d⟩
   ·rfl
   ·rfl
   ·cases (wy==0) <;> rfl
   ·cases (wy==0) <;> rfl
   ·have e6:(st != 6)=true:=by rw [bne,c];rfl
    have e7:(st != 7)=true:=by rw [bne,d];rfl
    rw [e6,e7,a,b,c,d];rfl
  ·rfl
theorem run15(m n:Nat)(rt nn st wy:Int)(n1 n2 n3 fc:Bool)(hops steps parts:List D)(nm:List UInt8)(h1:n1=true→hops=[])(l1:hops.length≤1000000)(l2:steps.length≤1000000)(l3:parts.length≤1000000):
  (enterM F5 (callN F5 (m+40)) n c15 [.d (sagaD rt nn st wy n1 n2 n3 fc hops steps parts nm)] []).out=(tellT rt nn st wy n1 fc hops steps parts nm).eval:=by
 rw [e15,decide_eq_true l1,decide_eq_true l2,decide_eq_true l3]
 unfold tellT tellOk tellK tellW
 cases mayOk rt nn st wy fc hops steps parts nm
 ·rfl
 ·cases hl:((hops.length:Int)==0)
  ·have hn:n1=false:=by
    cases n1 with
    | false=>rfl
    | true=>rw [h1 rfl] at hl;cases hl
   subst hn
   rcases tell_st (st:=st) with rfl | rfl | rfl | rfl | ⟨a,b,c,d⟩
   ·rfl
   ·rfl
   ·cases (wy==0) <;> rfl
   ·cases (wy==0) <;> rfl
   ·rw [a,b,c,d];rfl
  ·rfl
def g16:List D→Tree (List D)
 | [.agg [.int .i64 rt,.int .i64 nn,.sl eh n1 hops,.str nm,.sl es _ steps,.int .i64 st,.int .i64 wy,.sl ep _ parts,.bool fc]]=>match (Sh.beq eh hopSh&&(Sh.beq es stepSh&&Sh.beq ep partSh)) with
  | true=>tellT rt nn st wy n1 fc hops steps parts nm
  | false=> .stuck
 | _=> .stuck
def g15:List D→Tree (List D)
 | [.agg [.int .i64 rt,.int .i64 nn,.sl eh n1 hops,.str nm,.sl es _ steps,.int .i64 st,.int .i64 wy,.sl ep _ parts,.bool fc]]=>match (Sh.beq eh hopSh&&(Sh.beq es stepSh&&Sh.beq ep partSh)) with
  | true=> .ite ((!n1||hops.isEmpty)&&(decide (hops.length≤1000000)&&(decide (steps.length≤1000000)&&decide (parts.length≤1000000)))) (fun _=>tellT rt nn st wy n1 fc hops steps parts nm) (fun _=> .stuck)
  | false=> .stuck
 | _=> .stuck
theorem pure16{P:Program}(hm:P.follows .mixedOrders=true)(h0:EnvOK P F5):PureOK P 16 g16:=PureOK.run hm h0 fun ds rs h=>by
 unfold g16 at h
 split at h
 ·split at h
  ·rename_i hb
   simp only [Bool.and_eq_true] at hb
   obtain ⟨hb1,hb2,hb3⟩:=hb
   have hb1:=Sh.beq_eq hb1
   have hb2:=Sh.beq_eq hb2
   have hb3:=Sh.beq_eq hb3
   subst hb1 hb2 hb3
   exact ⟨59+1,by rw [callN_succ (fn:=c16) rfl];exact (run16 19 59 _ _ _ _ _ _ _ _ _ _ _ _).trans h⟩
  ·cases h
 ·cases h
theorem pure15{P:Program}(hm:P.follows .mixedOrders=true)(h0:EnvOK P F5):PureOK P 15 g15:=PureOK.run hm h0 fun ds rs h=>by
 unfold g15 at h
 split at h
 ·split at h
  ·rename_i hb
   simp only [Bool.and_eq_true] at hb
   obtain ⟨hb1,hb2,hb3⟩:=hb
   have hb1:=Sh.beq_eq hb1
   have hb2:=Sh.beq_eq hb2
   have hb3:=Sh.beq_eq hb3
   subst hb1 hb2 hb3
   obtain ⟨hg,h⟩:=eval_guard h
   simp only [Bool.and_eq_true,Bool.or_eq_true,Bool.not_eq_true',List.isEmpty_iff,decide_eq_true_eq] at hg
   obtain ⟨a1,a2,a3,a4⟩:=hg
   exact ⟨59+1,by rw [callN_succ (fn:=c15) rfl];exact (run15 19 59 _ _ _ _ _ _ _ _ _ _ _ _ (fun h=>by rcases a1 with a | a; (rw [h] at a;cases a);exact a) a2 a3 a4).trans h⟩
  ·cases h
 ·cases h
theorem okE19:EnvOK Tryz.prog E19:=ok19 mixed okE14
def I0:Env:=⟨fun _=>none,prog⟩
theorem i226(m n:Nat)(u:Int):Tree.out (enterM I0 (callN I0 (m+40)) n c226 [.d (.int .u64 u)] [])=bif decide (4294967296≤u) then bif decide (65536≤Int.fdiv u 4294967296) then bif decide (256≤Int.fdiv (Int.fdiv u 4294967296) 65536) then bif decide (0≤IntKind.wrap .u8 (Int.fdiv (Int.fdiv (Int.fdiv u 4294967296) 65536) 256)∧IntKind.wrap .u8 (Int.fdiv (Int.fdiv (Int.fdiv u 4294967296) 65536) 256)<256) then some [D.int .i64 (IntKind.wrap .i64 (56+IntKind.wrap .i64 (↑(UInt8.toNat (List.getD [0,1,2,2,3,3,3,3,4,4,4,4,4,4,4,4,5,5,5,5,5,5,5,5,5,5,5,5,5,5,5,5,6,6,6,6,6,6,6,6,6,6,6,6,6,6,6,6,6,6,6,6,6,6,6,6,6,6,6,6,6,6,6,6,7,7,7,7,7,7,7,7,7,7,7,7,7,7,7,7,7,7,7,7,7,7,7,7,7,7,7,7,7,7,7,7,7,7,7,7,7,7,7,7,7,7,7,7,7,7,7,7,7,7,7,7,7,7,7,7,7,7,7,7,7,7,7,7,8,8,8,8,8,8,8,8,8,8,8,8,8,8,8,8,8,8,8,8,8,8,8,8,8,8,8,8,8,8,8,8,8,8,8,8,8,8,8,8,8,8,8,8,8,8,8,8,8,8,8,8,8,8,8,8,8,8,8,8,8,8,8,8,8,8,8,8,8,8,8,8,8,8,8,8,8,8,8,8,8,8,8,8,8,8,8,8,8,8,8,8,8,8,8,8,8,8,8,8,8,8,8,8,8,8,8,8,8,8,8,8,8,8,8,8,8,8,8,8,8,8,8,8,8,8,8,8] (Int.toNat (IntKind.wrap .u8 (Int.fdiv (Int.fdiv (Int.fdiv u 4294967296) 65536) 256))) 0)):Int)))] else none else bif decide (0≤IntKind.wrap .u8 (Int.fdiv (Int.fdiv u 4294967296) 65536)∧IntKind.wrap .u8 (Int.fdiv (Int.fdiv u 4294967296) 65536)<256) then some [D.int .i64 (IntKind.wrap .i64 (48+IntKind.wrap .i64 (↑(UInt8.toNat (List.getD [0,1,2,2,3,3,3,3,4,4,4,4,4,4,4,4,5,5,5,5,5,5,5,5,5,5,5,5,5,5,5,5,6,6,6,6,6,6,6,6,6,6,6,6,6,6,6,6,6,6,6,6,6,6,6,6,6,6,6,6,6,6,6,6,7,7,7,7,7,7,7,7,7,7,7,7,7,7,7,7,7,7,7,7,7,7,7,7,7,7,7,7,7,7,7,7,7,7,7,7,7,7,7,7,7,7,7,7,7,7,7,7,7,7,7,7,7,7,7,7,7,7,7,7,7,7,7,7,8,8,8,8,8,8,8,8,8,8,8,8,8,8,8,8,8,8,8,8,8,8,8,8,8,8,8,8,8,8,8,8,8,8,8,8,8,8,8,8,8,8,8,8,8,8,8,8,8,8,8,8,8,8,8,8,8,8,8,8,8,8,8,8,8,8,8,8,8,8,8,8,8,8,8,8,8,8,8,8,8,8,8,8,8,8,8,8,8,8,8,8,8,8,8,8,8,8,8,8,8,8,8,8,8,8,8,8,8,8,8,8,8,8,8,8,8,8,8,8,8,8,8,8,8,8,8,8] (Int.toNat (IntKind.wrap .u8 (Int.fdiv (Int.fdiv u 4294967296) 65536))) 0)):Int)))] else none else bif decide (256≤Int.fdiv u 4294967296) then bif decide (0≤IntKind.wrap .u8 (Int.fdiv (Int.fdiv u 4294967296) 256)∧IntKind.wrap .u8 (Int.fdiv (Int.fdiv u 4294967296) 256)<256) then some [D.int .i64 (IntKind.wrap .i64 (40+IntKind.wrap .i64 (↑(UInt8.toNat (List.getD [0,1,2,2,3,3,3,3,4,4,4,4,4,4,4,4,5,5,5,5,5,5,5,5,5,5,5,5,5,5,5,5,6,6,6,6,6,6,6,6,6,6,6,6,6,6,6,6,6,6,6,6,6,6,6,6,6,6,6,6,6,6,6,6,7,7,7,7,7,7,7,7,7,7,7,7,7,7,7,7,7,7,7,7,7,7,7,7,7,7,7,7,7,7,7,7,7,7,7,7,7,7,7,7,7,7,7,7,7,7,7,7,7,7,7,7,7,7,7,7,7,7,7,7,7,7,7,7,8,8,8,8,8,8,8,8,8,8,8,8,8,8,8,8,8,8,8,8,8,8,8,8,8,8,8,8,8,8,8,8,8,8,8,8,8,8,8,8,8,8,8,8,8,8,8,8,8,8,8,8,8,8,8,8,8,8,8,8,8,8,8,8,8,8,8,8,8,8,8,8,8,8,8,8,8,8,8,8,8,8,8,8,8,8,8,8,8,8,8,8,8,8,8,8,8,8,8,8,8,8,8,8,8,8,8,8,8,8,8,8,8,8,8,8,8,8,8,8,8,8,8,8,8,8,8,8] (Int.toNat (IntKind.wrap .u8 (Int.fdiv (Int.fdiv u 4294967296) 256))) 0)):Int)))] else none else bif decide (0≤IntKind.wrap .u8 (Int.fdiv u 4294967296)∧IntKind.wrap .u8 (Int.fdiv u 4294967296)<256) then some [D.int .i64 (IntKind.wrap .i64 (32+IntKind.wrap .i64 (↑(UInt8.toNat (List.getD [0,1,2,2,3,3,3,3,4,4,4,4,4,4,4,4,5,5,5,5,5,5,5,5,5,5,5,5,5,5,5,5,6,6,6,6,6,6,6,6,6,6,6,6,6,6,6,6,6,6,6,6,6,6,6,6,6,6,6,6,6,6,6,6,7,7,7,7,7,7,7,7,7,7,7,7,7,7,7,7,7,7,7,7,7,7,7,7,7,7,7,7,7,7,7,7,7,7,7,7,7,7,7,7,7,7,7,7,7,7,7,7,7,7,7,7,7,7,7,7,7,7,7,7,7,7,7,7,8,8,8,8,8,8,8,8,8,8,8,8,8,8,8,8,8,8,8,8,8,8,8,8,8,8,8,8,8,8,8,8,8,8,8,8,8,8,8,8,8,8,8,8,8,8,8,8,8,8,8,8,8,8,8,8,8,8,8,8,8,8,8,8,8,8,8,8,8,8,8,8,8,8,8,8,8,8,8,8,8,8,8,8,8,8,8,8,8,8,8,8,8,8,8,8,8,8,8,8,8,8,8,8,8,8,8,8,8,8,8,8,8,8,8,8,8,8,8,8,8,8,8,8,8,8,8,8] (Int.toNat (IntKind.wrap .u8 (Int.fdiv u 4294967296))) 0)):Int)))] else none else bif decide (65536≤u) then bif decide (256≤Int.fdiv u 65536) then bif decide (0≤IntKind.wrap .u8 (Int.fdiv (Int.fdiv u 65536) 256)∧IntKind.wrap .u8 (Int.fdiv (Int.fdiv u 65536) 256)<256) then some [D.int .i64 (IntKind.wrap .i64 (24+IntKind.wrap .i64 (↑(UInt8.toNat (List.getD [0,1,2,2,3,3,3,3,4,4,4,4,4,4,4,4,5,5,5,5,5,5,5,5,5,5,5,5,5,5,5,5,6,6,6,6,6,6,6,6,6,6,6,6,6,6,6,6,6,6,6,6,6,6,6,6,6,6,6,6,6,6,6,6,7,7,7,7,7,7,7,7,7,7,7,7,7,7,7,7,7,7,7,7,7,7,7,7,7,7,7,7,7,7,7,7,7,7,7,7,7,7,7,7,7,7,7,7,7,7,7,7,7,7,7,7,7,7,7,7,7,7,7,7,7,7,7,7,8,8,8,8,8,8,8,8,8,8,8,8,8,8,8,8,8,8,8,8,8,8,8,8,8,8,8,8,8,8,8,8,8,8,8,8,8,8,8,8,8,8,8,8,8,8,8,8,8,8,8,8,8,8,8,8,8,8,8,8,8,8,8,8,8,8,8,8,8,8,8,8,8,8,8,8,8,8,8,8,8,8,8,8,8,8,8,8,8,8,8,8,8,8,8,8,8,8,8,8,8,8,8,8,8,8,8,8,8,8,8,8,8,8,8,8,8,8,8,8,8,8,8,8,8,8,8,8] (Int.toNat (IntKind.wrap .u8 (Int.fdiv (Int.fdiv u 65536) 256))) 0)):Int)))] else none else bif decide (0≤IntKind.wrap .u8 (Int.fdiv u 65536)∧IntKind.wrap .u8 (Int.fdiv u 65536)<256) then some [D.int .i64 (IntKind.wrap .i64 (16+IntKind.wrap .i64 (↑(UInt8.toNat (List.getD [0,1,2,2,3,3,3,3,4,4,4,4,4,4,4,4,5,5,5,5,5,5,5,5,5,5,5,5,5,5,5,5,6,6,6,6,6,6,6,6,6,6,6,6,6,6,6,6,6,6,6,6,6,6,6,6,6,6,6,6,6,6,6,6,7,7,7,7,7,7,7,7,7,7,7,7,7,7,7,7,7,7,7,7,7,7,7,7,7,7,7,7,7,7,7,7,7,7,7,7,7,7,7,7,7,7,7,7,7,7,7,7,7,7,7,7,7,7,7,7,7,7,7,7,7,7,7,7,8,8,8,8,8,8,8,8,8,8,8,8,8,8,8,8,8,8,8,8,8,8,8,8,8,8,8,8,8,8,8,8,8,8,8,8,8,8,8,8,8,8,8,8,8,8,8,8,8,8,8,8,8,8,8,8,8,8,8,8,8,8,8,8,8,8,8,8,8,8,8,8,8,8,8,8,8,8,8,8,8,8,8,8,8,8,8,8,8,8,8,8,8,8,8,8,8,8,8,8,8,8,8,8,8,8,8,8,8,8,8,8,8,8,8,8,8,8,8,8,8,8,8,8,8,8,8,8] (Int.toNat (IntKind.wrap .u8 (Int.fdiv u 65536))) 0)):Int)))] else none else bif decide (256≤u) then bif decide (0≤IntKind.wrap .u8 (Int.fdiv u 256)∧IntKind.wrap .u8 (Int.fdiv u 256)<256) then some [D.int .i64 (IntKind.wrap .i64 (8+IntKind.wrap .i64 (↑(UInt8.toNat (List.getD [0,1,2,2,3,3,3,3,4,4,4,4,4,4,4,4,5,5,5,5,5,5,5,5,5,5,5,5,5,5,5,5,6,6,6,6,6,6,6,6,6,6,6,6,6,6,6,6,6,6,6,6,6,6,6,6,6,6,6,6,6,6,6,6,7,7,7,7,7,7,7,7,7,7,7,7,7,7,7,7,7,7,7,7,7,7,7,7,7,7,7,7,7,7,7,7,7,7,7,7,7,7,7,7,7,7,7,7,7,7,7,7,7,7,7,7,7,7,7,7,7,7,7,7,7,7,7,7,8,8,8,8,8,8,8,8,8,8,8,8,8,8,8,8,8,8,8,8,8,8,8,8,8,8,8,8,8,8,8,8,8,8,8,8,8,8,8,8,8,8,8,8,8,8,8,8,8,8,8,8,8,8,8,8,8,8,8,8,8,8,8,8,8,8,8,8,8,8,8,8,8,8,8,8,8,8,8,8,8,8,8,8,8,8,8,8,8,8,8,8,8,8,8,8,8,8,8,8,8,8,8,8,8,8,8,8,8,8,8,8,8,8,8,8,8,8,8,8,8,8,8,8,8,8,8,8] (Int.toNat (IntKind.wrap .u8 (Int.fdiv u 256))) 0)):Int)))] else none else bif decide (0≤IntKind.wrap .u8 u∧IntKind.wrap .u8 u<256) then some [D.int .i64 (IntKind.wrap .i64 (0+IntKind.wrap .i64 (↑(UInt8.toNat (List.getD [0,1,2,2,3,3,3,3,4,4,4,4,4,4,4,4,5,5,5,5,5,5,5,5,5,5,5,5,5,5,5,5,6,6,6,6,6,6,6,6,6,6,6,6,6,6,6,6,6,6,6,6,6,6,6,6,6,6,6,6,6,6,6,6,7,7,7,7,7,7,7,7,7,7,7,7,7,7,7,7,7,7,7,7,7,7,7,7,7,7,7,7,7,7,7,7,7,7,7,7,7,7,7,7,7,7,7,7,7,7,7,7,7,7,7,7,7,7,7,7,7,7,7,7,7,7,7,7,8,8,8,8,8,8,8,8,8,8,8,8,8,8,8,8,8,8,8,8,8,8,8,8,8,8,8,8,8,8,8,8,8,8,8,8,8,8,8,8,8,8,8,8,8,8,8,8,8,8,8,8,8,8,8,8,8,8,8,8,8,8,8,8,8,8,8,8,8,8,8,8,8,8,8,8,8,8,8,8,8,8,8,8,8,8,8,8,8,8,8,8,8,8,8,8,8,8,8,8,8,8,8,8,8,8,8,8,8,8,8,8,8,8,8,8,8,8,8,8,8,8,8,8,8,8,8,8] (Int.toNat (IntKind.wrap .u8 u)) 0)):Int)))] else none:=by kernel_rfl
set_option maxRecDepth 20000
abbrev L8:List UInt8:=[0,1,2,2,3,3,3,3,4,4,4,4,4,4,4,4,5,5,5,5,5,5,5,5,5,5,5,5,5,5,5,5,6,6,6,6,6,6,6,6,6,6,6,6,6,6,6,6,6,6,6,6,6,6,6,6,6,6,6,6,6,6,6,6,7,7,7,7,7,7,7,7,7,7,7,7,7,7,7,7,7,7,7,7,7,7,7,7,7,7,7,7,7,7,7,7,7,7,7,7,7,7,7,7,7,7,7,7,7,7,7,7,7,7,7,7,7,7,7,7,7,7,7,7,7,7,7,7,8,8,8,8,8,8,8,8,8,8,8,8,8,8,8,8,8,8,8,8,8,8,8,8,8,8,8,8,8,8,8,8,8,8,8,8,8,8,8,8,8,8,8,8,8,8,8,8,8,8,8,8,8,8,8,8,8,8,8,8,8,8,8,8,8,8,8,8,8,8,8,8,8,8,8,8,8,8,8,8,8,8,8,8,8,8,8,8,8,8,8,8,8,8,8,8,8,8,8,8,8,8,8,8,8,8,8,8,8,8,8,8,8,8,8,8,8,8,8,8,8,8,8,8,8,8,8,8]
def bitsN(x:Nat):Nat:=if x<1 then 0 else if x<2 then 1 else if x<4 then 2 else if x<8 then 3 else if x<16 then 4 else if x<32 then 5 else if x<64 then 6 else if x<128 then 7 else 8
theorem L8_at{x:Nat}(h:x<256):(L8.getD x 0).toNat=bitsN x:=by
 have: ∀x:Fin 256,(L8.getD x.1 0).toNat=bitsN x.1:=by decide +kernel
 exact this ⟨x,h⟩
def lenT(u:Int):Tree (List D):=
 .ite (decide (u<128)) (fun _=> .ret [.int .i64 7]) fun _=> .ite (decide (u<256)) (fun _=> .ret [.int .i64 8]) fun _=> .ite (decide (u<512)) (fun _=> .ret [.int .i64 9]) fun _=>
 .ite (decide (u<1024)) (fun _=> .ret [.int .i64 10]) fun _=> .ite (decide (u<2048)) (fun _=> .ret [.int .i64 11]) fun _=> .ite (decide (u<4096)) (fun _=> .ret [.int .i64 12]) fun _=>
 .ite (decide (u<8192)) (fun _=> .ret [.int .i64 13]) fun _=> .ite (decide (u<16384)) (fun _=> .ret [.int .i64 14]) fun _=> .ite (decide (u<32768)) (fun _=> .ret [.int .i64 15]) fun _=>
 .ite (decide (u<65536)) (fun _=> .ret [.int .i64 16]) fun _=> .ite (decide (u<131072)) (fun _=> .ret [.int .i64 17]) fun _=> .ite (decide (u<262144)) (fun _=> .ret [.int .i64 18]) fun _=>
 .ite (decide (u<524288)) (fun _=> .ret [.int .i64 19]) fun _=> .ret [.int .i64 20]
def lenI(u:Int):Int:=bif decide (u<128) then 7 else bif decide (u<256) then 8 else bif decide (u<512) then 9 else bif decide (u<1024) then 10 else bif decide (u<2048) then 11 else bif decide (u<4096) then 12 else bif decide (u<8192) then 13 else bif decide (u<16384) then 14 else bif decide (u<32768) then 15 else bif decide (u<65536) then 16 else bif decide (u<131072) then 17 else bif decide (u<262144) then 18 else bif decide (u<524288) then 19 else 20
theorem ite_ev{b:Bool}{x:List D}{f:Unit→Tree (List D)}:(Tree.ite b (fun _=> .ret x) f).eval=bif b then some x else (f ()).eval:=by cases b <;> rfl
theorem push_int(b:Bool)(x y:Int):some [D.int .i64 (bif b then x else y)]=bif b then some [D.int .i64 x] else some [D.int .i64 y]:=by cases b <;> rfl
theorem lenT_eval(u:Int):(lenT u).eval=some [.int .i64 (lenI u)]:=by
 unfold lenT lenI
 simp only [ite_ev,push_int]
 rfl
theorem wrap_u8{x:Int}(h0:0≤x)(h:x<256):IntKind.wrap .u8 x=x:=by
 obtain ⟨n,rfl⟩:=Int.eq_ofNat_of_zero_le h0
 have: ∀n:Fin 256,IntKind.wrap .u8 (n.1:Int)=(n.1:Int):=by decide +kernel
 exact this ⟨n,by omega⟩
theorem lenI_16{u:Int}(h0:65536≤u)(h1:u<1048576):(16:Int)+(bitsN (u / 65536).toNat:Nat)=lenI u:=by
 unfold lenI
 rw [decide_eq_false (show¬u<128 by omega),decide_eq_false (show¬u<256 by omega),decide_eq_false (show¬u<512 by omega),decide_eq_false (show¬u<1024 by omega),decide_eq_false (show¬u<2048 by omega),decide_eq_false (show¬u<4096 by omega),decide_eq_false (show¬u<8192 by omega),decide_eq_false (show¬u<16384 by omega),decide_eq_false (show¬u<32768 by omega),decide_eq_false (show¬u<65536 by omega)]
 simp only [cond_false,cond_dec]
 generalize hx:(u / 65536).toNat=x
 have hx:u / 65536=(x:Int):=by omega
 unfold bitsN
 split
 ·omega
 split
 ·rw [if_pos (by omega)];omega
 split
 ·rw [if_neg (by omega),if_pos (by omega)];omega
 split
 ·rw [if_neg (by omega),if_neg (by omega),if_pos (by omega)];omega
 split
 ·rw [if_neg (by omega),if_neg (by omega),if_neg (by omega)];omega
 omega
theorem lenI_8{u:Int}(h0:256≤u)(h1:u<65536):(8:Int)+(bitsN (u / 256).toNat:Nat)=lenI u:=by
 unfold lenI
 rw [decide_eq_false (show¬u<128 by omega),decide_eq_false (show¬u<256 by omega)]
 simp only [cond_false,cond_dec]
 generalize hx:(u / 256).toNat=x
 have hx:u / 256=(x:Int):=by omega
 unfold bitsN
 split
 ·omega
 split
 ·rw [if_pos (by omega)];omega
 split
 ·rw [if_neg (by omega),if_pos (by omega)];omega
 split
 ·rw [if_neg (by omega),if_neg (by omega),if_pos (by omega)];omega
 split
 ·rw [if_neg (by omega),if_neg (by omega),if_neg (by omega),if_pos (by omega)];omega
 split
 ·rw [if_neg (by omega),if_neg (by omega),if_neg (by omega),if_neg (by omega),if_pos (by omega)];omega
 split
 ·rw [if_neg (by omega),if_neg (by omega),if_neg (by omega),if_neg (by omega),if_neg (by omega),if_pos (by omega)];omega
 split
 ·rw [if_neg (by omega),if_neg (by omega),if_neg (by omega),if_neg (by omega),if_neg (by omega),if_neg (by omega),if_pos (by omega)];omega
 ·rw [if_neg (by omega),if_neg (by omega),if_neg (by omega),if_neg (by omega),if_neg (by omega),if_neg (by omega),if_neg (by omega)];first | omega | (rw [if_pos (by omega)];omega)
theorem lenI_0{u:Int}(h0:64≤u)(h1:u<256):(0:Int)+(bitsN u.toNat:Nat)=lenI u:=by
 unfold lenI bitsN
 by_cases h:u<128
 ·rw [decide_eq_true h,if_neg (by omega),if_neg (by omega),if_neg (by omega),if_neg (by omega),if_neg (by omega),if_neg (by omega),if_neg (by omega),if_pos (by omega)]
  rfl
 ·rw [decide_eq_false h,decide_eq_true (show u<256 by omega),if_neg (by omega),if_neg (by omega),if_neg (by omega),if_neg (by omega),if_neg (by omega),if_neg (by omega),if_neg (by omega),if_neg (by omega)]
  rfl
set_option maxRecDepth 100000 in
theorem run226(m n:Nat)(u:Int)(h0:64≤u)(h1:u<1048576):(enterM I0 (callN I0 (m+40)) n c226 [.d (.int .u64 u)] []).out=(lenT u).eval:=by
  rw [i226,lenT_eval,decide_eq_false (show¬(4294967296:Int)≤u by omega),cond_false]
  have key: ∀(k x:Int),0≤k→k≤16→0≤x→x<256→(bif decide ((0:Int)≤IntKind.wrap .u8 x∧IntKind.wrap .u8 x<256) then some [D.int .i64 (IntKind.wrap .i64 (k+IntKind.wrap .i64 (((L8.getD (Int.toNat (IntKind.wrap .u8 x)) 0).toNat:Nat):Int)))] else none)=some [D.int .i64 (k+bitsN x.toNat)]:=by
    intro k x hk0 hk hx0 hx
    rw [wrap_u8 hx0 hx,decide_eq_true (show (0:Int)≤x∧x<256 by omega),L8_at (show x.toNat<256 by omega)]
    have hb : bitsN x.toNat ≤ 8 := by unfold bitsN; repeat' split
                                      all_goals omega
    rw [wrap_i64 (n:=((bitsN x.toNat:Nat):Int)) (by omega) (by omega),wrap_i64 (by omega) (by omega)]
    rfl
  have f1:Int.fdiv u 65536=u / 65536:=Int.fdiv_eq_ediv_of_nonneg _ (by omega)
  have f2:Int.fdiv u 256=u / 256:=Int.fdiv_eq_ediv_of_nonneg _ (by omega)
  rw [f1,f2]
  by_cases h2:65536≤u
  · rw [decide_eq_true h2,decide_eq_false (show¬(256:Int)≤u / 65536 by omega)]
    rw [cond_true,cond_false]
    refine (key 16 (u / 65536) (by omega) (by omega) (by omega) (by omega)).trans ?_
    rw [lenI_16 h2 h1]
  · rw [decide_eq_false h2,cond_false]
    by_cases h3:256≤u
    · rw [decide_eq_true h3,cond_true]
      refine (key 8 (u / 256) (by omega) (by omega) (by omega) (by omega)).trans ?_
      rw [lenI_8 h3 (by omega)]
    · rw [decide_eq_false h3,cond_false]
      refine (key 0 u (by omega) (by omega) (by omega) (by omega)).trans ?_
      rw [lenI_0 h0 (by omega)]
def g226:List D→Tree (List D)
 | [.int .u64 u]=> .ite (decide (64≤u)&&decide (u<1048576)) (fun _=>lenT u) (fun _=> .stuck)
 | _=> .stuck
theorem pure226{P:Program}(hm:P.follows .mixedOrders=true)(h0:EnvOK P I0):PureOK P 226 g226:=PureOK.run hm h0 fun ds rs h=>by
 unfold g226 at h
 split at h
 ·obtain ⟨hg,h⟩:=eval_guard h
  simp only [Bool.and_eq_true,decide_eq_true_eq] at hg
  exact ⟨59+1,by rw [callN_succ (fn:=c226) rfl];exact (run226 19 59 _ hg.1 hg.2).trans h⟩
 ·cases h
def I1:Env:=I0.pureAt 226 true g226
theorem i212(m n:Nat)(u:Int):Tree.out (enterM I1 (callN I1 (m+40)) n c212 [.d (.int .u64 u)] [])=bif decide (64≤u)&&decide (u<1048576) then bif decide (u<128) then bif decide (100≤u) then some [D.int .i64 3] else some [D.int .i64 2] else bif decide (u<256) then bif decide (100≤u) then some [D.int .i64 3] else some [D.int .i64 2] else bif decide (u<512) then bif decide (100≤u) then some [D.int .i64 3] else some [D.int .i64 2] else bif decide (u<1024) then bif decide (1000≤u) then some [D.int .i64 4] else some [D.int .i64 3] else bif decide (u<2048) then bif decide (1000≤u) then some [D.int .i64 4] else some [D.int .i64 3] else bif decide (u<4096) then bif decide (1000≤u) then some [D.int .i64 4] else some [D.int .i64 3] else bif decide (u<8192) then bif decide (1000≤u) then some [D.int .i64 4] else some [D.int .i64 3] else bif decide (u<16384) then bif decide (10000≤u) then some [D.int .i64 5] else some [D.int .i64 4] else bif decide (u<32768) then bif decide (10000≤u) then some [D.int .i64 5] else some [D.int .i64 4] else bif decide (u<65536) then bif decide (10000≤u) then some [D.int .i64 5] else some [D.int .i64 4] else bif decide (u<131072) then bif decide (100000≤u) then some [D.int .i64 6] else some [D.int .i64 5] else bif decide (u<262144) then bif decide (100000≤u) then some [D.int .i64 6] else some [D.int .i64 5] else bif decide (u<524288) then bif decide (100000≤u) then some [D.int .i64 6] else some [D.int .i64 5] else bif decide (1000000≤u) then some [D.int .i64 7] else some [D.int .i64 6] else none:=by kernel_rfl
def digT(u:Int):Tree (List D):=
 .ite (decide (u<1000)) (fun _=> .ret [.int .i64 3]) fun _=> .ite (decide (u<10000)) (fun _=> .ret [.int .i64 4]) fun _=> .ite (decide (u<100000)) (fun _=> .ret [.int .i64 5]) fun _=> .ret [.int .i64 6]
def digI(u:Int):Int:=bif decide (u<1000) then 3 else bif decide (u<10000) then 4 else bif decide (u<100000) then 5 else 6
theorem digT_eval(u:Int):(digT u).eval=some [.int .i64 (digI u)]:=by
 unfold digT digI
 simp only [ite_ev,push_int]
 rfl
theorem two(a:Int)(x y:Int)(u:Int)(h:(a≤u→x=digI u)∧(u<a→y=digI u)):(bif decide (a≤u) then some [D.int .i64 x] else some [D.int .i64 y])=some [D.int .i64 (digI u)]:=by
 by_cases g:a≤u
 ·rw [decide_eq_true g,←h.1 g];rfl
 ·rw [decide_eq_false g,←h.2 (by omega)];rfl
theorem digI3{u:Int}(h:u<1000):3=digI u:=by unfold digI;rw [decide_eq_true h];rfl
theorem digI4{u:Int}(h0:1000≤u)(h:u<10000):4=digI u:=by unfold digI;rw [decide_eq_false (by omega),decide_eq_true h];rfl
theorem digI5{u:Int}(h0:10000≤u)(h:u<100000):5=digI u:=by unfold digI;rw [decide_eq_false (by omega),decide_eq_false (by omega),decide_eq_true h];rfl
theorem digI6{u:Int}(h0:100000≤u):6=digI u:=by unfold digI;rw [decide_eq_false (by omega),decide_eq_false (by omega),decide_eq_false (by omega)];rfl
theorem stepc{c u:Int}{x y r:Option (List D)}(h1:u<c→x=r)(h2:c≤u→y=r):(bif decide (u<c) then x else y)=r:=by
 by_cases g:u<c
 ·rw [decide_eq_true g];exact h1 g
 ·rw [decide_eq_false g];exact h2 (by omega)
theorem run212(m n:Nat)(u:Int)(h0:100≤u)(h1:u≤999999):(enterM I1 (callN I1 (m+40)) n c212 [.d (.int .u64 u)] []).out=(digT u).eval:=by
 rw [i212,digT_eval,decide_eq_true (show (64:Int)≤u by omega),decide_eq_true (show u<1048576 by omega)]
 refine stepc (fun a=>two _ _ _ _ ⟨fun _=>digI3 (by omega),fun _=>by omega⟩) fun a=> ?_
 refine stepc (fun b=>two _ _ _ _ ⟨fun _=>digI3 (by omega),fun _=>by omega⟩) fun a=> ?_
 refine stepc (fun b=>two _ _ _ _ ⟨fun _=>digI3 (by omega),fun _=>by omega⟩) fun a=> ?_
 refine stepc (fun b=>two _ _ _ _ ⟨fun _=>digI4 (by omega) (by omega),fun _=>digI3 (by omega)⟩) fun a=> ?_
 refine stepc (fun b=>two _ _ _ _ ⟨fun _=>digI4 (by omega) (by omega),fun _=>digI3 (by omega)⟩) fun a=> ?_
 refine stepc (fun b=>two _ _ _ _ ⟨fun _=>digI4 (by omega) (by omega),fun _=>digI3 (by omega)⟩) fun a=> ?_
 refine stepc (fun b=>two _ _ _ _ ⟨fun _=>digI4 (by omega) (by omega),fun _=>digI3 (by omega)⟩) fun a=> ?_
 refine stepc (fun b=>two _ _ _ _ ⟨fun _=>digI5 (by omega) (by omega),fun _=>digI4 (by omega) (by omega)⟩) fun a=> ?_
 refine stepc (fun b=>two _ _ _ _ ⟨fun _=>digI5 (by omega) (by omega),fun _=>digI4 (by omega) (by omega)⟩) fun a=> ?_
 refine stepc (fun b=>two _ _ _ _ ⟨fun _=>digI5 (by omega) (by omega),fun _=>digI4 (by omega) (by omega)⟩) fun a=> ?_
 refine stepc (fun b=>two _ _ _ _ ⟨fun _=>digI6 (by omega),fun _=>digI5 (by omega) (by omega)⟩) fun a=> ?_
 refine stepc (fun b=>two _ _ _ _ ⟨fun _=>digI6 (by omega),fun _=>digI5 (by omega) (by omega)⟩) fun a=> ?_
 refine stepc (fun b=>two _ _ _ _ ⟨fun _=>digI6 (by omega),fun _=>digI5 (by omega) (by omega)⟩) fun a=> ?_
 exact two _ _ _ _ ⟨fun _=>by omega,fun _=>digI6 (by omega)⟩
def g212:List D→Tree (List D)
 | [.int .u64 u]=> .ite (decide (100≤u)&&decide (u≤999999)) (fun _=>digT u) (fun _=> .stuck)
 | _=> .stuck
theorem pure212{P:Program}(hm:P.follows .mixedOrders=true)(h0:EnvOK P I1):PureOK P 212 g212:=PureOK.run hm h0 fun ds rs h=>by
 unfold g212 at h
 split at h
 ·obtain ⟨hg,h⟩:=eval_guard h
  simp only [Bool.and_eq_true,decide_eq_true_eq] at hg
  exact ⟨59+1,by rw [callN_succ (fn:=c212) rfl];exact (run212 19 59 _ hg.1 hg.2).trans h⟩
 ·cases h
def I2:Env:=I1.pureAt 212 true g212
theorem j213_3(m n:Nat)(u:Int):Tree.eval (enterM I2 (callN I2 (m+40)) n c213 [.sla 0 1 3,.d (.int .u64 u)] [(0,.arr (.int .u8) 24 false [D.int .u8 0,D.int .u8 0,D.int .u8 0,D.int .u8 0,D.int .u8 0,D.int .u8 0,D.int .u8 0,D.int .u8 0,D.int .u8 0,D.int .u8 0,D.int .u8 0,D.int .u8 0,D.int .u8 0,D.int .u8 0,D.int .u8 0,D.int .u8 0,D.int .u8 0,D.int .u8 0,D.int .u8 0,D.int .u8 0,D.int .u8 0,D.int .u8 0,D.int .u8 0,D.int .u8 0])])=Tree.eval (resume I2 (callN I2 (m+40)) n n 0 c213 { fr:=frame 167 [(0,V.sla 0 1 3),(1,V.d (D.int .u64 u)),(4,V.d (D.int .i64 3))],ob:=[(0,Obj.arr (Sh.int .u8) 24 false [D.int .u8 0,D.int .u8 0,D.int .u8 0,D.int .u8 0,D.int .u8 0,D.int .u8 0,D.int .u8 0,D.int .u8 0,D.int .u8 0,D.int .u8 0,D.int .u8 0,D.int .u8 0,D.int .u8 0,D.int .u8 0,D.int .u8 0,D.int .u8 0,D.int .u8 0,D.int .u8 0,D.int .u8 0,D.int .u8 0,D.int .u8 0,D.int .u8 0,D.int .u8 0,D.int .u8 0])] }):=by kernel_rfl
theorem j213_4(m n:Nat)(u:Int):Tree.eval (enterM I2 (callN I2 (m+40)) n c213 [.sla 0 1 4,.d (.int .u64 u)] [(0,.arr (.int .u8) 24 false [D.int .u8 0,D.int .u8 0,D.int .u8 0,D.int .u8 0,D.int .u8 0,D.int .u8 0,D.int .u8 0,D.int .u8 0,D.int .u8 0,D.int .u8 0,D.int .u8 0,D.int .u8 0,D.int .u8 0,D.int .u8 0,D.int .u8 0,D.int .u8 0,D.int .u8 0,D.int .u8 0,D.int .u8 0,D.int .u8 0,D.int .u8 0,D.int .u8 0,D.int .u8 0,D.int .u8 0])])=Tree.eval (resume I2 (callN I2 (m+40)) n n 0 c213 { fr:=frame 167 [(0,V.sla 0 1 4),(1,V.d (D.int .u64 u)),(4,V.d (D.int .i64 4))],ob:=[(0,Obj.arr (Sh.int .u8) 24 false [D.int .u8 0,D.int .u8 0,D.int .u8 0,D.int .u8 0,D.int .u8 0,D.int .u8 0,D.int .u8 0,D.int .u8 0,D.int .u8 0,D.int .u8 0,D.int .u8 0,D.int .u8 0,D.int .u8 0,D.int .u8 0,D.int .u8 0,D.int .u8 0,D.int .u8 0,D.int .u8 0,D.int .u8 0,D.int .u8 0,D.int .u8 0,D.int .u8 0,D.int .u8 0,D.int .u8 0])] }):=by kernel_rfl
theorem j213_5(m n:Nat)(u:Int):Tree.eval (enterM I2 (callN I2 (m+40)) n c213 [.sla 0 1 5,.d (.int .u64 u)] [(0,.arr (.int .u8) 24 false [D.int .u8 0,D.int .u8 0,D.int .u8 0,D.int .u8 0,D.int .u8 0,D.int .u8 0,D.int .u8 0,D.int .u8 0,D.int .u8 0,D.int .u8 0,D.int .u8 0,D.int .u8 0,D.int .u8 0,D.int .u8 0,D.int .u8 0,D.int .u8 0,D.int .u8 0,D.int .u8 0,D.int .u8 0,D.int .u8 0,D.int .u8 0,D.int .u8 0,D.int .u8 0,D.int .u8 0])])=Tree.eval (resume I2 (callN I2 (m+40)) n n 0 c213 { fr:=frame 167 [(0,V.sla 0 1 5),(1,V.d (D.int .u64 u)),(4,V.d (D.int .i64 5))],ob:=[(0,Obj.arr (Sh.int .u8) 24 false [D.int .u8 0,D.int .u8 0,D.int .u8 0,D.int .u8 0,D.int .u8 0,D.int .u8 0,D.int .u8 0,D.int .u8 0,D.int .u8 0,D.int .u8 0,D.int .u8 0,D.int .u8 0,D.int .u8 0,D.int .u8 0,D.int .u8 0,D.int .u8 0,D.int .u8 0,D.int .u8 0,D.int .u8 0,D.int .u8 0,D.int .u8 0,D.int .u8 0,D.int .u8 0,D.int .u8 0])] }):=by kernel_rfl
theorem j213_6(m n:Nat)(u:Int):Tree.eval (enterM I2 (callN I2 (m+40)) n c213 [.sla 0 1 6,.d (.int .u64 u)] [(0,.arr (.int .u8) 24 false [D.int .u8 0,D.int .u8 0,D.int .u8 0,D.int .u8 0,D.int .u8 0,D.int .u8 0,D.int .u8 0,D.int .u8 0,D.int .u8 0,D.int .u8 0,D.int .u8 0,D.int .u8 0,D.int .u8 0,D.int .u8 0,D.int .u8 0,D.int .u8 0,D.int .u8 0,D.int .u8 0,D.int .u8 0,D.int .u8 0,D.int .u8 0,D.int .u8 0,D.int .u8 0,D.int .u8 0])])=Tree.eval (resume I2 (callN I2 (m+40)) n n 0 c213 { fr:=frame 167 [(0,V.sla 0 1 6),(1,V.d (D.int .u64 u)),(4,V.d (D.int .i64 6))],ob:=[(0,Obj.arr (Sh.int .u8) 24 false [D.int .u8 0,D.int .u8 0,D.int .u8 0,D.int .u8 0,D.int .u8 0,D.int .u8 0,D.int .u8 0,D.int .u8 0,D.int .u8 0,D.int .u8 0,D.int .u8 0,D.int .u8 0,D.int .u8 0,D.int .u8 0,D.int .u8 0,D.int .u8 0,D.int .u8 0,D.int .u8 0,D.int .u8 0,D.int .u8 0,D.int .u8 0,D.int .u8 0,D.int .u8 0,D.int .u8 0])] }):=by kernel_rfl
def s213(k:Nat)(u:Int):St:= { fr:=frame 167 [(0,V.sla 0 1 k),(1,V.d (D.int .u64 u)),(4,V.d (D.int .i64 k))],ob:=[(0,.arr (.int .u8) 24 false [D.int .u8 0,D.int .u8 0,D.int .u8 0,D.int .u8 0,D.int .u8 0,D.int .u8 0,D.int .u8 0,D.int .u8 0,D.int .u8 0,D.int .u8 0,D.int .u8 0,D.int .u8 0,D.int .u8 0,D.int .u8 0,D.int .u8 0,D.int .u8 0,D.int .u8 0,D.int .u8 0,D.int .u8 0,D.int .u8 0,D.int .u8 0,D.int .u8 0,D.int .u8 0,D.int .u8 0])] }
theorem l213_3(m n j:Nat)(u:Int):Tree.eval (resume I2 (callN I2 (m+40)) n (j+1) 0 c213 (s213 3 u))=bif decide (0≤IntKind.wrap .u32 (IntKind.wrap .u32 (Int.tmod (IntKind.wrap .u32 u) 100*2)+1)∧IntKind.wrap .u32 (IntKind.wrap .u32 (Int.tmod (IntKind.wrap .u32 u) 100*2)+1)<200) then bif decide (0≤IntKind.wrap .u32 (Int.tmod (IntKind.wrap .u32 u) 100*2)∧IntKind.wrap .u32 (Int.tmod (IntKind.wrap .u32 u) 100*2)<200) then some (V.tup [],[(0,Obj.arr (Sh.int .u8) 24 false [D.int .u8 0,D.int .u8 (IntKind.wrap .u8 (IntKind.wrap .u32 (48+IntKind.wrap .u32 (Int.tdiv (IntKind.wrap .u32 u) 100)))),D.int .u8 (↑(UInt8.toNat (List.getD [48,48,48,49,48,50,48,51,48,52,48,53,48,54,48,55,48,56,48,57,49,48,49,49,49,50,49,51,49,52,49,53,49,54,49,55,49,56,49,57,50,48,50,49,50,50,50,51,50,52,50,53,50,54,50,55,50,56,50,57,51,48,51,49,51,50,51,51,51,52,51,53,51,54,51,55,51,56,51,57,52,48,52,49,52,50,52,51,52,52,52,53,52,54,52,55,52,56,52,57,53,48,53,49,53,50,53,51,53,52,53,53,53,54,53,55,53,56,53,57,54,48,54,49,54,50,54,51,54,52,54,53,54,54,54,55,54,56,54,57,55,48,55,49,55,50,55,51,55,52,55,53,55,54,55,55,55,56,55,57,56,48,56,49,56,50,56,51,56,52,56,53,56,54,56,55,56,56,56,57,57,48,57,49,57,50,57,51,57,52,57,53,57,54,57,55,57,56,57,57] (Int.toNat (IntKind.wrap .u32 (Int.tmod (IntKind.wrap .u32 u) 100*2))) 0)):Int),D.int .u8 (↑(UInt8.toNat (List.getD [48,48,48,49,48,50,48,51,48,52,48,53,48,54,48,55,48,56,48,57,49,48,49,49,49,50,49,51,49,52,49,53,49,54,49,55,49,56,49,57,50,48,50,49,50,50,50,51,50,52,50,53,50,54,50,55,50,56,50,57,51,48,51,49,51,50,51,51,51,52,51,53,51,54,51,55,51,56,51,57,52,48,52,49,52,50,52,51,52,52,52,53,52,54,52,55,52,56,52,57,53,48,53,49,53,50,53,51,53,52,53,53,53,54,53,55,53,56,53,57,54,48,54,49,54,50,54,51,54,52,54,53,54,54,54,55,54,56,54,57,55,48,55,49,55,50,55,51,55,52,55,53,55,54,55,55,55,56,55,57,56,48,56,49,56,50,56,51,56,52,56,53,56,54,56,55,56,56,56,57,57,48,57,49,57,50,57,51,57,52,57,53,57,54,57,55,57,56,57,57] (Int.toNat (IntKind.wrap .u32 (IntKind.wrap .u32 (Int.tmod (IntKind.wrap .u32 u) 100*2)+1))) 0)):Int),D.int .u8 0,D.int .u8 0,D.int .u8 0,D.int .u8 0,D.int .u8 0,D.int .u8 0,D.int .u8 0,D.int .u8 0,D.int .u8 0,D.int .u8 0,D.int .u8 0,D.int .u8 0,D.int .u8 0,D.int .u8 0,D.int .u8 0,D.int .u8 0,D.int .u8 0,D.int .u8 0,D.int .u8 0,D.int .u8 0])]) else none else none:=by kernel_rfl
theorem l213_4(m n j:Nat)(u:Int):Tree.eval (resume I2 (callN I2 (m+40)) n (j+1) 0 c213 (s213 4 u))=bif decide (0≤IntKind.wrap .u32 (IntKind.wrap .u32 (Int.tmod (Int.tmod (IntKind.wrap .u32 u) 10000) 100*2)+1)∧IntKind.wrap .u32 (IntKind.wrap .u32 (Int.tmod (Int.tmod (IntKind.wrap .u32 u) 10000) 100*2)+1)<200) then bif decide (0≤IntKind.wrap .u32 (Int.tmod (Int.tmod (IntKind.wrap .u32 u) 10000) 100*2)∧IntKind.wrap .u32 (Int.tmod (Int.tmod (IntKind.wrap .u32 u) 10000) 100*2)<200) then bif decide (0≤IntKind.wrap .u32 (IntKind.wrap .u32 (IntKind.wrap .u32 (Int.tdiv (Int.tmod (IntKind.wrap .u32 u) 10000) 100)*2)+1)∧IntKind.wrap .u32 (IntKind.wrap .u32 (IntKind.wrap .u32 (Int.tdiv (Int.tmod (IntKind.wrap .u32 u) 10000) 100)*2)+1)<200) then bif decide (0≤IntKind.wrap .u32 (IntKind.wrap .u32 (Int.tdiv (Int.tmod (IntKind.wrap .u32 u) 10000) 100)*2)∧IntKind.wrap .u32 (IntKind.wrap .u32 (Int.tdiv (Int.tmod (IntKind.wrap .u32 u) 10000) 100)*2)<200) then some (V.tup [],[(0,Obj.arr (Sh.int .u8) 24 false [D.int .u8 0,D.int .u8 (↑(UInt8.toNat (List.getD [48,48,48,49,48,50,48,51,48,52,48,53,48,54,48,55,48,56,48,57,49,48,49,49,49,50,49,51,49,52,49,53,49,54,49,55,49,56,49,57,50,48,50,49,50,50,50,51,50,52,50,53,50,54,50,55,50,56,50,57,51,48,51,49,51,50,51,51,51,52,51,53,51,54,51,55,51,56,51,57,52,48,52,49,52,50,52,51,52,52,52,53,52,54,52,55,52,56,52,57,53,48,53,49,53,50,53,51,53,52,53,53,53,54,53,55,53,56,53,57,54,48,54,49,54,50,54,51,54,52,54,53,54,54,54,55,54,56,54,57,55,48,55,49,55,50,55,51,55,52,55,53,55,54,55,55,55,56,55,57,56,48,56,49,56,50,56,51,56,52,56,53,56,54,56,55,56,56,56,57,57,48,57,49,57,50,57,51,57,52,57,53,57,54,57,55,57,56,57,57] (Int.toNat (IntKind.wrap .u32 (IntKind.wrap .u32 (Int.tdiv (Int.tmod (IntKind.wrap .u32 u) 10000) 100)*2))) 0)):Int),D.int .u8 (↑(UInt8.toNat (List.getD [48,48,48,49,48,50,48,51,48,52,48,53,48,54,48,55,48,56,48,57,49,48,49,49,49,50,49,51,49,52,49,53,49,54,49,55,49,56,49,57,50,48,50,49,50,50,50,51,50,52,50,53,50,54,50,55,50,56,50,57,51,48,51,49,51,50,51,51,51,52,51,53,51,54,51,55,51,56,51,57,52,48,52,49,52,50,52,51,52,52,52,53,52,54,52,55,52,56,52,57,53,48,53,49,53,50,53,51,53,52,53,53,53,54,53,55,53,56,53,57,54,48,54,49,54,50,54,51,54,52,54,53,54,54,54,55,54,56,54,57,55,48,55,49,55,50,55,51,55,52,55,53,55,54,55,55,55,56,55,57,56,48,56,49,56,50,56,51,56,52,56,53,56,54,56,55,56,56,56,57,57,48,57,49,57,50,57,51,57,52,57,53,57,54,57,55,57,56,57,57] (Int.toNat (IntKind.wrap .u32 (IntKind.wrap .u32 (IntKind.wrap .u32 (Int.tdiv (Int.tmod (IntKind.wrap .u32 u) 10000) 100)*2)+1))) 0)):Int),D.int .u8 (↑(UInt8.toNat (List.getD [48,48,48,49,48,50,48,51,48,52,48,53,48,54,48,55,48,56,48,57,49,48,49,49,49,50,49,51,49,52,49,53,49,54,49,55,49,56,49,57,50,48,50,49,50,50,50,51,50,52,50,53,50,54,50,55,50,56,50,57,51,48,51,49,51,50,51,51,51,52,51,53,51,54,51,55,51,56,51,57,52,48,52,49,52,50,52,51,52,52,52,53,52,54,52,55,52,56,52,57,53,48,53,49,53,50,53,51,53,52,53,53,53,54,53,55,53,56,53,57,54,48,54,49,54,50,54,51,54,52,54,53,54,54,54,55,54,56,54,57,55,48,55,49,55,50,55,51,55,52,55,53,55,54,55,55,55,56,55,57,56,48,56,49,56,50,56,51,56,52,56,53,56,54,56,55,56,56,56,57,57,48,57,49,57,50,57,51,57,52,57,53,57,54,57,55,57,56,57,57] (Int.toNat (IntKind.wrap .u32 (Int.tmod (Int.tmod (IntKind.wrap .u32 u) 10000) 100*2))) 0)):Int),D.int .u8 (↑(UInt8.toNat (List.getD [48,48,48,49,48,50,48,51,48,52,48,53,48,54,48,55,48,56,48,57,49,48,49,49,49,50,49,51,49,52,49,53,49,54,49,55,49,56,49,57,50,48,50,49,50,50,50,51,50,52,50,53,50,54,50,55,50,56,50,57,51,48,51,49,51,50,51,51,51,52,51,53,51,54,51,55,51,56,51,57,52,48,52,49,52,50,52,51,52,52,52,53,52,54,52,55,52,56,52,57,53,48,53,49,53,50,53,51,53,52,53,53,53,54,53,55,53,56,53,57,54,48,54,49,54,50,54,51,54,52,54,53,54,54,54,55,54,56,54,57,55,48,55,49,55,50,55,51,55,52,55,53,55,54,55,55,55,56,55,57,56,48,56,49,56,50,56,51,56,52,56,53,56,54,56,55,56,56,56,57,57,48,57,49,57,50,57,51,57,52,57,53,57,54,57,55,57,56,57,57] (Int.toNat (IntKind.wrap .u32 (IntKind.wrap .u32 (Int.tmod (Int.tmod (IntKind.wrap .u32 u) 10000) 100*2)+1))) 0)):Int),D.int .u8 0,D.int .u8 0,D.int .u8 0,D.int .u8 0,D.int .u8 0,D.int .u8 0,D.int .u8 0,D.int .u8 0,D.int .u8 0,D.int .u8 0,D.int .u8 0,D.int .u8 0,D.int .u8 0,D.int .u8 0,D.int .u8 0,D.int .u8 0,D.int .u8 0,D.int .u8 0,D.int .u8 0])]) else none else none else none else none:=by kernel_rfl
theorem l213_5(m n j:Nat)(u:Int):Tree.eval (resume I2 (callN I2 (m+40)) n (j+1) 0 c213 (s213 5 u))=bif decide (0≤IntKind.wrap .u32 (IntKind.wrap .u32 (Int.tmod (Int.tmod (IntKind.wrap .u32 u) 10000) 100*2)+1)∧IntKind.wrap .u32 (IntKind.wrap .u32 (Int.tmod (Int.tmod (IntKind.wrap .u32 u) 10000) 100*2)+1)<200) then bif decide (0≤IntKind.wrap .u32 (Int.tmod (Int.tmod (IntKind.wrap .u32 u) 10000) 100*2)∧IntKind.wrap .u32 (Int.tmod (Int.tmod (IntKind.wrap .u32 u) 10000) 100*2)<200) then bif decide (0≤IntKind.wrap .u32 (IntKind.wrap .u32 (IntKind.wrap .u32 (Int.tdiv (Int.tmod (IntKind.wrap .u32 u) 10000) 100)*2)+1)∧IntKind.wrap .u32 (IntKind.wrap .u32 (IntKind.wrap .u32 (Int.tdiv (Int.tmod (IntKind.wrap .u32 u) 10000) 100)*2)+1)<200) then bif decide (0≤IntKind.wrap .u32 (IntKind.wrap .u32 (Int.tdiv (Int.tmod (IntKind.wrap .u32 u) 10000) 100)*2)∧IntKind.wrap .u32 (IntKind.wrap .u32 (Int.tdiv (Int.tmod (IntKind.wrap .u32 u) 10000) 100)*2)<200) then some (V.tup [],[(0,Obj.arr (Sh.int .u8) 24 false [D.int .u8 0,D.int .u8 (IntKind.wrap .u8 (IntKind.wrap .u32 (48+IntKind.wrap .u32 (Int.tdiv (IntKind.wrap .u32 u) 10000)))),D.int .u8 (↑(UInt8.toNat (List.getD [48,48,48,49,48,50,48,51,48,52,48,53,48,54,48,55,48,56,48,57,49,48,49,49,49,50,49,51,49,52,49,53,49,54,49,55,49,56,49,57,50,48,50,49,50,50,50,51,50,52,50,53,50,54,50,55,50,56,50,57,51,48,51,49,51,50,51,51,51,52,51,53,51,54,51,55,51,56,51,57,52,48,52,49,52,50,52,51,52,52,52,53,52,54,52,55,52,56,52,57,53,48,53,49,53,50,53,51,53,52,53,53,53,54,53,55,53,56,53,57,54,48,54,49,54,50,54,51,54,52,54,53,54,54,54,55,54,56,54,57,55,48,55,49,55,50,55,51,55,52,55,53,55,54,55,55,55,56,55,57,56,48,56,49,56,50,56,51,56,52,56,53,56,54,56,55,56,56,56,57,57,48,57,49,57,50,57,51,57,52,57,53,57,54,57,55,57,56,57,57] (Int.toNat (IntKind.wrap .u32 (IntKind.wrap .u32 (Int.tdiv (Int.tmod (IntKind.wrap .u32 u) 10000) 100)*2))) 0)):Int),D.int .u8 (↑(UInt8.toNat (List.getD [48,48,48,49,48,50,48,51,48,52,48,53,48,54,48,55,48,56,48,57,49,48,49,49,49,50,49,51,49,52,49,53,49,54,49,55,49,56,49,57,50,48,50,49,50,50,50,51,50,52,50,53,50,54,50,55,50,56,50,57,51,48,51,49,51,50,51,51,51,52,51,53,51,54,51,55,51,56,51,57,52,48,52,49,52,50,52,51,52,52,52,53,52,54,52,55,52,56,52,57,53,48,53,49,53,50,53,51,53,52,53,53,53,54,53,55,53,56,53,57,54,48,54,49,54,50,54,51,54,52,54,53,54,54,54,55,54,56,54,57,55,48,55,49,55,50,55,51,55,52,55,53,55,54,55,55,55,56,55,57,56,48,56,49,56,50,56,51,56,52,56,53,56,54,56,55,56,56,56,57,57,48,57,49,57,50,57,51,57,52,57,53,57,54,57,55,57,56,57,57] (Int.toNat (IntKind.wrap .u32 (IntKind.wrap .u32 (IntKind.wrap .u32 (Int.tdiv (Int.tmod (IntKind.wrap .u32 u) 10000) 100)*2)+1))) 0)):Int),D.int .u8 (↑(UInt8.toNat (List.getD [48,48,48,49,48,50,48,51,48,52,48,53,48,54,48,55,48,56,48,57,49,48,49,49,49,50,49,51,49,52,49,53,49,54,49,55,49,56,49,57,50,48,50,49,50,50,50,51,50,52,50,53,50,54,50,55,50,56,50,57,51,48,51,49,51,50,51,51,51,52,51,53,51,54,51,55,51,56,51,57,52,48,52,49,52,50,52,51,52,52,52,53,52,54,52,55,52,56,52,57,53,48,53,49,53,50,53,51,53,52,53,53,53,54,53,55,53,56,53,57,54,48,54,49,54,50,54,51,54,52,54,53,54,54,54,55,54,56,54,57,55,48,55,49,55,50,55,51,55,52,55,53,55,54,55,55,55,56,55,57,56,48,56,49,56,50,56,51,56,52,56,53,56,54,56,55,56,56,56,57,57,48,57,49,57,50,57,51,57,52,57,53,57,54,57,55,57,56,57,57] (Int.toNat (IntKind.wrap .u32 (Int.tmod (Int.tmod (IntKind.wrap .u32 u) 10000) 100*2))) 0)):Int),D.int .u8 (↑(UInt8.toNat (List.getD [48,48,48,49,48,50,48,51,48,52,48,53,48,54,48,55,48,56,48,57,49,48,49,49,49,50,49,51,49,52,49,53,49,54,49,55,49,56,49,57,50,48,50,49,50,50,50,51,50,52,50,53,50,54,50,55,50,56,50,57,51,48,51,49,51,50,51,51,51,52,51,53,51,54,51,55,51,56,51,57,52,48,52,49,52,50,52,51,52,52,52,53,52,54,52,55,52,56,52,57,53,48,53,49,53,50,53,51,53,52,53,53,53,54,53,55,53,56,53,57,54,48,54,49,54,50,54,51,54,52,54,53,54,54,54,55,54,56,54,57,55,48,55,49,55,50,55,51,55,52,55,53,55,54,55,55,55,56,55,57,56,48,56,49,56,50,56,51,56,52,56,53,56,54,56,55,56,56,56,57,57,48,57,49,57,50,57,51,57,52,57,53,57,54,57,55,57,56,57,57] (Int.toNat (IntKind.wrap .u32 (IntKind.wrap .u32 (Int.tmod (Int.tmod (IntKind.wrap .u32 u) 10000) 100*2)+1))) 0)):Int),D.int .u8 0,D.int .u8 0,D.int .u8 0,D.int .u8 0,D.int .u8 0,D.int .u8 0,D.int .u8 0,D.int .u8 0,D.int .u8 0,D.int .u8 0,D.int .u8 0,D.int .u8 0,D.int .u8 0,D.int .u8 0,D.int .u8 0,D.int .u8 0,D.int .u8 0,D.int .u8 0])]) else none else none else none else none:=by kernel_rfl
theorem l213_6(m n j:Nat)(u:Int):Tree.eval (resume I2 (callN I2 (m+40)) n (j+1) 0 c213 (s213 6 u))=bif decide (0≤IntKind.wrap .u32 (IntKind.wrap .u32 (Int.tmod (Int.tmod (IntKind.wrap .u32 u) 10000) 100*2)+1)∧IntKind.wrap .u32 (IntKind.wrap .u32 (Int.tmod (Int.tmod (IntKind.wrap .u32 u) 10000) 100*2)+1)<200) then bif decide (0≤IntKind.wrap .u32 (Int.tmod (Int.tmod (IntKind.wrap .u32 u) 10000) 100*2)∧IntKind.wrap .u32 (Int.tmod (Int.tmod (IntKind.wrap .u32 u) 10000) 100*2)<200) then bif decide (0≤IntKind.wrap .u32 (IntKind.wrap .u32 (IntKind.wrap .u32 (Int.tdiv (Int.tmod (IntKind.wrap .u32 u) 10000) 100)*2)+1)∧IntKind.wrap .u32 (IntKind.wrap .u32 (IntKind.wrap .u32 (Int.tdiv (Int.tmod (IntKind.wrap .u32 u) 10000) 100)*2)+1)<200) then bif decide (0≤IntKind.wrap .u32 (IntKind.wrap .u32 (Int.tdiv (Int.tmod (IntKind.wrap .u32 u) 10000) 100)*2)∧IntKind.wrap .u32 (IntKind.wrap .u32 (Int.tdiv (Int.tmod (IntKind.wrap .u32 u) 10000) 100)*2)<200) then bif decide (0≤IntKind.wrap .u32 (IntKind.wrap .u32 (Int.tmod (IntKind.wrap .u32 (Int.tdiv (IntKind.wrap .u32 u) 10000)) 100*2)+1)∧IntKind.wrap .u32 (IntKind.wrap .u32 (Int.tmod (IntKind.wrap .u32 (Int.tdiv (IntKind.wrap .u32 u) 10000)) 100*2)+1)<200) then bif decide (0≤IntKind.wrap .u32 (Int.tmod (IntKind.wrap .u32 (Int.tdiv (IntKind.wrap .u32 u) 10000)) 100*2)∧IntKind.wrap .u32 (Int.tmod (IntKind.wrap .u32 (Int.tdiv (IntKind.wrap .u32 u) 10000)) 100*2)<200) then some (V.tup [],[(0,Obj.arr (Sh.int .u8) 24 false [D.int .u8 0,D.int .u8 (↑(UInt8.toNat (List.getD [48,48,48,49,48,50,48,51,48,52,48,53,48,54,48,55,48,56,48,57,49,48,49,49,49,50,49,51,49,52,49,53,49,54,49,55,49,56,49,57,50,48,50,49,50,50,50,51,50,52,50,53,50,54,50,55,50,56,50,57,51,48,51,49,51,50,51,51,51,52,51,53,51,54,51,55,51,56,51,57,52,48,52,49,52,50,52,51,52,52,52,53,52,54,52,55,52,56,52,57,53,48,53,49,53,50,53,51,53,52,53,53,53,54,53,55,53,56,53,57,54,48,54,49,54,50,54,51,54,52,54,53,54,54,54,55,54,56,54,57,55,48,55,49,55,50,55,51,55,52,55,53,55,54,55,55,55,56,55,57,56,48,56,49,56,50,56,51,56,52,56,53,56,54,56,55,56,56,56,57,57,48,57,49,57,50,57,51,57,52,57,53,57,54,57,55,57,56,57,57] (Int.toNat (IntKind.wrap .u32 (Int.tmod (IntKind.wrap .u32 (Int.tdiv (IntKind.wrap .u32 u) 10000)) 100*2))) 0)):Int),D.int .u8 (↑(UInt8.toNat (List.getD [48,48,48,49,48,50,48,51,48,52,48,53,48,54,48,55,48,56,48,57,49,48,49,49,49,50,49,51,49,52,49,53,49,54,49,55,49,56,49,57,50,48,50,49,50,50,50,51,50,52,50,53,50,54,50,55,50,56,50,57,51,48,51,49,51,50,51,51,51,52,51,53,51,54,51,55,51,56,51,57,52,48,52,49,52,50,52,51,52,52,52,53,52,54,52,55,52,56,52,57,53,48,53,49,53,50,53,51,53,52,53,53,53,54,53,55,53,56,53,57,54,48,54,49,54,50,54,51,54,52,54,53,54,54,54,55,54,56,54,57,55,48,55,49,55,50,55,51,55,52,55,53,55,54,55,55,55,56,55,57,56,48,56,49,56,50,56,51,56,52,56,53,56,54,56,55,56,56,56,57,57,48,57,49,57,50,57,51,57,52,57,53,57,54,57,55,57,56,57,57] (Int.toNat (IntKind.wrap .u32 (IntKind.wrap .u32 (Int.tmod (IntKind.wrap .u32 (Int.tdiv (IntKind.wrap .u32 u) 10000)) 100*2)+1))) 0)):Int),D.int .u8 (↑(UInt8.toNat (List.getD [48,48,48,49,48,50,48,51,48,52,48,53,48,54,48,55,48,56,48,57,49,48,49,49,49,50,49,51,49,52,49,53,49,54,49,55,49,56,49,57,50,48,50,49,50,50,50,51,50,52,50,53,50,54,50,55,50,56,50,57,51,48,51,49,51,50,51,51,51,52,51,53,51,54,51,55,51,56,51,57,52,48,52,49,52,50,52,51,52,52,52,53,52,54,52,55,52,56,52,57,53,48,53,49,53,50,53,51,53,52,53,53,53,54,53,55,53,56,53,57,54,48,54,49,54,50,54,51,54,52,54,53,54,54,54,55,54,56,54,57,55,48,55,49,55,50,55,51,55,52,55,53,55,54,55,55,55,56,55,57,56,48,56,49,56,50,56,51,56,52,56,53,56,54,56,55,56,56,56,57,57,48,57,49,57,50,57,51,57,52,57,53,57,54,57,55,57,56,57,57] (Int.toNat (IntKind.wrap .u32 (IntKind.wrap .u32 (Int.tdiv (Int.tmod (IntKind.wrap .u32 u) 10000) 100)*2))) 0)):Int),D.int .u8 (↑(UInt8.toNat (List.getD [48,48,48,49,48,50,48,51,48,52,48,53,48,54,48,55,48,56,48,57,49,48,49,49,49,50,49,51,49,52,49,53,49,54,49,55,49,56,49,57,50,48,50,49,50,50,50,51,50,52,50,53,50,54,50,55,50,56,50,57,51,48,51,49,51,50,51,51,51,52,51,53,51,54,51,55,51,56,51,57,52,48,52,49,52,50,52,51,52,52,52,53,52,54,52,55,52,56,52,57,53,48,53,49,53,50,53,51,53,52,53,53,53,54,53,55,53,56,53,57,54,48,54,49,54,50,54,51,54,52,54,53,54,54,54,55,54,56,54,57,55,48,55,49,55,50,55,51,55,52,55,53,55,54,55,55,55,56,55,57,56,48,56,49,56,50,56,51,56,52,56,53,56,54,56,55,56,56,56,57,57,48,57,49,57,50,57,51,57,52,57,53,57,54,57,55,57,56,57,57] (Int.toNat (IntKind.wrap .u32 (IntKind.wrap .u32 (IntKind.wrap .u32 (Int.tdiv (Int.tmod (IntKind.wrap .u32 u) 10000) 100)*2)+1))) 0)):Int),D.int .u8 (↑(UInt8.toNat (List.getD [48,48,48,49,48,50,48,51,48,52,48,53,48,54,48,55,48,56,48,57,49,48,49,49,49,50,49,51,49,52,49,53,49,54,49,55,49,56,49,57,50,48,50,49,50,50,50,51,50,52,50,53,50,54,50,55,50,56,50,57,51,48,51,49,51,50,51,51,51,52,51,53,51,54,51,55,51,56,51,57,52,48,52,49,52,50,52,51,52,52,52,53,52,54,52,55,52,56,52,57,53,48,53,49,53,50,53,51,53,52,53,53,53,54,53,55,53,56,53,57,54,48,54,49,54,50,54,51,54,52,54,53,54,54,54,55,54,56,54,57,55,48,55,49,55,50,55,51,55,52,55,53,55,54,55,55,55,56,55,57,56,48,56,49,56,50,56,51,56,52,56,53,56,54,56,55,56,56,56,57,57,48,57,49,57,50,57,51,57,52,57,53,57,54,57,55,57,56,57,57] (Int.toNat (IntKind.wrap .u32 (Int.tmod (Int.tmod (IntKind.wrap .u32 u) 10000) 100*2))) 0)):Int),D.int .u8 (↑(UInt8.toNat (List.getD [48,48,48,49,48,50,48,51,48,52,48,53,48,54,48,55,48,56,48,57,49,48,49,49,49,50,49,51,49,52,49,53,49,54,49,55,49,56,49,57,50,48,50,49,50,50,50,51,50,52,50,53,50,54,50,55,50,56,50,57,51,48,51,49,51,50,51,51,51,52,51,53,51,54,51,55,51,56,51,57,52,48,52,49,52,50,52,51,52,52,52,53,52,54,52,55,52,56,52,57,53,48,53,49,53,50,53,51,53,52,53,53,53,54,53,55,53,56,53,57,54,48,54,49,54,50,54,51,54,52,54,53,54,54,54,55,54,56,54,57,55,48,55,49,55,50,55,51,55,52,55,53,55,54,55,55,55,56,55,57,56,48,56,49,56,50,56,51,56,52,56,53,56,54,56,55,56,56,56,57,57,48,57,49,57,50,57,51,57,52,57,53,57,54,57,55,57,56,57,57] (Int.toNat (IntKind.wrap .u32 (IntKind.wrap .u32 (Int.tmod (Int.tmod (IntKind.wrap .u32 u) 10000) 100*2)+1))) 0)):Int),D.int .u8 0,D.int .u8 0,D.int .u8 0,D.int .u8 0,D.int .u8 0,D.int .u8 0,D.int .u8 0,D.int .u8 0,D.int .u8 0,D.int .u8 0,D.int .u8 0,D.int .u8 0,D.int .u8 0,D.int .u8 0,D.int .u8 0,D.int .u8 0,D.int .u8 0])]) else none else none else none else none else none else none:=by kernel_rfl
abbrev SM:List UInt8:=[48,48,48,49,48,50,48,51,48,52,48,53,48,54,48,55,48,56,48,57,49,48,49,49,49,50,49,51,49,52,49,53,49,54,49,55,49,56,49,57,50,48,50,49,50,50,50,51,50,52,50,53,50,54,50,55,50,56,50,57,51,48,51,49,51,50,51,51,51,52,51,53,51,54,51,55,51,56,51,57,52,48,52,49,52,50,52,51,52,52,52,53,52,54,52,55,52,56,52,57,53,48,53,49,53,50,53,51,53,52,53,53,53,54,53,55,53,56,53,57,54,48,54,49,54,50,54,51,54,52,54,53,54,54,54,55,54,56,54,57,55,48,55,49,55,50,55,51,55,52,55,53,55,54,55,55,55,56,55,57,56,48,56,49,56,50,56,51,56,52,56,53,56,54,56,55,56,56,56,57,57,48,57,49,57,50,57,51,57,52,57,53,57,54,57,55,57,56,57,57]
theorem SM_at{x:Nat}(h:x<100):((SM.getD (2*x) 0).toNat=48+x / 10)∧((SM.getD (2*x+1) 0).toNat=48+x % 10):=by
 have: ∀x:Fin 100,((SM.getD (2*x.1) 0).toNat=48+x.1 / 10)∧((SM.getD (2*x.1+1) 0).toNat=48+x.1 % 10):=by decide +kernel
 exact this ⟨x,h⟩
theorem wrap_u32{n:Int}(h0:0≤n)(h1:n<4294967296):IntKind.wrap .u32 n=n:=by
  have e : n % (2 ^ 32 : Int) = n := Int.emod_eq_of_lt h0 (by have : (2 : Int) ^ 32 = 4294967296 := by decide
                                                              omega)
  unfold IntKind.wrap
  simp only [IntKind.bits,IntKind.signed,e,Bool.false_and,Bool.false_eq_true,if_false]
theorem lo2{x:Int}(h0:0≤x)(h:x<100):((SM.getD (Int.toNat (IntKind.wrap .u32 (x*2))) 0).toNat:Int)=48+x / 10:=by
 rw [wrap_u32 (by omega) (by omega),show (x*2).toNat=2*x.toNat by omega,(SM_at (show x.toNat<100 by omega)).1]
 omega
theorem hi2{x:Int}(h0:0≤x)(h:x<100):((SM.getD (Int.toNat (IntKind.wrap .u32 (IntKind.wrap .u32 (x*2)+1))) 0).toNat:Int)=48+x % 10:=by
 rw [wrap_u32 (n:=x*2) (by omega) (by omega),wrap_u32 (by omega) (by omega),show (x*2+1).toNat=2*x.toNat+1 by omega,(SM_at (show x.toNat<100 by omega)).2]
 omega
theorem iok1{x:Int}(h0:0≤x)(h:x<100):decide ((0:Int)≤IntKind.wrap .u32 (IntKind.wrap .u32 (x*2)+1)∧IntKind.wrap .u32 (IntKind.wrap .u32 (x*2)+1)<200)=true:=by
 rw [wrap_u32 (n:=x*2) (by omega) (by omega),wrap_u32 (by omega) (by omega)]
 exact decide_eq_true (by omega)
theorem ok0{x:Int}(h0:0≤x)(h:x<100):decide ((0:Int)≤IntKind.wrap .u32 (x*2)∧IntKind.wrap .u32 (x*2)<200)=true:=by
 rw [wrap_u32 (by omega) (by omega)]
 exact decide_eq_true (by omega)
set_option maxRecDepth 100000 in
theorem w213_3(m n j:Nat)(u:Int)(h0:100≤u)(h1:u≤999):(resume I2 (callN I2 (m+40)) n (j+1) 0 c213 (s213 3 u)).eval=some (.tup [],[(0,.arr (.int .u8) 24 false [D.int .u8 0,.int .u8 (48+(u / 100) % 10),.int .u8 (48+(u / 10) % 10),.int .u8 (48+(u / 1) % 10),D.int .u8 0,D.int .u8 0,D.int .u8 0,D.int .u8 0,D.int .u8 0,D.int .u8 0,D.int .u8 0,D.int .u8 0,D.int .u8 0,D.int .u8 0,D.int .u8 0,D.int .u8 0,D.int .u8 0,D.int .u8 0,D.int .u8 0,D.int .u8 0,D.int .u8 0,D.int .u8 0,D.int .u8 0,D.int .u8 0])]):=by
 have a0:0≤u % 100:=by omega
 have a1:u % 100<100:=by omega
 have t1:Int.tmod u 100=u % 100:=Int.tmod_eq_emod_of_nonneg (by omega)
 have t2:Int.tdiv u 100=u / 100:=Int.tdiv_eq_ediv_of_nonneg (by omega)
 rw [l213_3,wrap_u32 (n:=u) (by omega) (by omega),t1,t2,iok1 a0 a1,ok0 a0 a1,lo2 a0 a1,hi2 a0 a1,wrap_u32 (n:=u / 100) (by omega) (by omega),wrap_u32 (n:=48+u / 100) (by omega) (by omega),wrap_u8 (by omega) (by omega),cond_true,cond_true]
 rw [show 48+u / 100=48+u / 100 % 10 by omega,show 48+u % 100 / 10=48+u / 10 % 10 by omega,show 48+u % 100 % 10=48+u / 1 % 10 by omega]
set_option maxRecDepth 100000 in
theorem w213_4(m n j:Nat)(u:Int)(h0:1000≤u)(h1:u≤9999):(resume I2 (callN I2 (m+40)) n (j+1) 0 c213 (s213 4 u)).eval=some (.tup [],[(0,.arr (.int .u8) 24 false [D.int .u8 0,.int .u8 (48+(u / 1000) % 10),.int .u8 (48+(u / 100) % 10),.int .u8 (48+(u / 10) % 10),.int .u8 (48+(u / 1) % 10),D.int .u8 0,D.int .u8 0,D.int .u8 0,D.int .u8 0,D.int .u8 0,D.int .u8 0,D.int .u8 0,D.int .u8 0,D.int .u8 0,D.int .u8 0,D.int .u8 0,D.int .u8 0,D.int .u8 0,D.int .u8 0,D.int .u8 0,D.int .u8 0,D.int .u8 0,D.int .u8 0,D.int .u8 0])]):=by
 have p0:0≤u % 10000:=by omega
 have a0:0≤u % 10000 % 100:=by omega
 have a1:u % 10000 % 100<100:=by omega
 have b0:0≤u % 10000 / 100:=by omega
 have b1:u % 10000 / 100<100:=by omega
 have t1:Int.tmod u 10000=u % 10000:=Int.tmod_eq_emod_of_nonneg (by omega)
 have t2:Int.tmod (u % 10000) 100=u % 10000 % 100:=Int.tmod_eq_emod_of_nonneg (by omega)
 have t3:Int.tdiv (u % 10000) 100=u % 10000 / 100:=Int.tdiv_eq_ediv_of_nonneg (by omega)
 rw [l213_4,wrap_u32 (n:=u) (by omega) (by omega),t1,t2,t3,wrap_u32 (n:=u % 10000 / 100) (by omega) (by omega),iok1 a0 a1,ok0 a0 a1,iok1 b0 b1,ok0 b0 b1,lo2 a0 a1,hi2 a0 a1,lo2 b0 b1,hi2 b0 b1,cond_true,cond_true,cond_true,cond_true]
 rw [show 48+u % 10000 / 100 / 10=48+u / 1000 % 10 by omega,show 48+u % 10000 / 100 % 10=48+u / 100 % 10 by omega,show 48+u % 10000 % 100 / 10=48+u / 10 % 10 by omega,show 48+u % 10000 % 100 % 10=48+u / 1 % 10 by omega]
set_option maxRecDepth 100000 in
theorem w213_5(m n j:Nat)(u:Int)(h0:10000≤u)(h1:u≤99999):(resume I2 (callN I2 (m+40)) n (j+1) 0 c213 (s213 5 u)).eval=some (.tup [],[(0,.arr (.int .u8) 24 false [D.int .u8 0,.int .u8 (48+(u / 10000) % 10),.int .u8 (48+(u / 1000) % 10),.int .u8 (48+(u / 100) % 10),.int .u8 (48+(u / 10) % 10),.int .u8 (48+(u / 1) % 10),D.int .u8 0,D.int .u8 0,D.int .u8 0,D.int .u8 0,D.int .u8 0,D.int .u8 0,D.int .u8 0,D.int .u8 0,D.int .u8 0,D.int .u8 0,D.int .u8 0,D.int .u8 0,D.int .u8 0,D.int .u8 0,D.int .u8 0,D.int .u8 0,D.int .u8 0,D.int .u8 0])]):=by
 have p0:0≤u % 10000:=by omega
 have a0:0≤u % 10000 % 100:=by omega
 have a1:u % 10000 % 100<100:=by omega
 have b0:0≤u % 10000 / 100:=by omega
 have b1:u % 10000 / 100<100:=by omega
 have t1:Int.tmod u 10000=u % 10000:=Int.tmod_eq_emod_of_nonneg (by omega)
 have t2:Int.tmod (u % 10000) 100=u % 10000 % 100:=Int.tmod_eq_emod_of_nonneg (by omega)
 have t3:Int.tdiv (u % 10000) 100=u % 10000 / 100:=Int.tdiv_eq_ediv_of_nonneg (by omega)
 have t4:Int.tdiv u 10000=u / 10000:=Int.tdiv_eq_ediv_of_nonneg (by omega)
 rw [l213_5,wrap_u32 (n:=u) (by omega) (by omega),t1,t2,t3,wrap_u32 (n:=u % 10000 / 100) (by omega) (by omega),iok1 a0 a1,ok0 a0 a1,iok1 b0 b1,ok0 b0 b1,lo2 a0 a1,hi2 a0 a1,lo2 b0 b1,hi2 b0 b1,t4,wrap_u32 (n:=u / 10000) (by omega) (by omega),wrap_u32 (n:=48+u / 10000) (by omega) (by omega),wrap_u8 (by omega) (by omega),cond_true,cond_true,cond_true,cond_true]
 rw [show 48+u / 10000=48+u / 10000 % 10 by omega,show 48+u % 10000 / 100 / 10=48+u / 1000 % 10 by omega,show 48+u % 10000 / 100 % 10=48+u / 100 % 10 by omega,show 48+u % 10000 % 100 / 10=48+u / 10 % 10 by omega,show 48+u % 10000 % 100 % 10=48+u / 1 % 10 by omega]
set_option maxRecDepth 100000 in
theorem w213_6(m n j:Nat)(u:Int)(h0:100000≤u)(h1:u≤999999):(resume I2 (callN I2 (m+40)) n (j+1) 0 c213 (s213 6 u)).eval=some (.tup [],[(0,.arr (.int .u8) 24 false [D.int .u8 0,.int .u8 (48+(u / 100000) % 10),.int .u8 (48+(u / 10000) % 10),.int .u8 (48+(u / 1000) % 10),.int .u8 (48+(u / 100) % 10),.int .u8 (48+(u / 10) % 10),.int .u8 (48+(u / 1) % 10),D.int .u8 0,D.int .u8 0,D.int .u8 0,D.int .u8 0,D.int .u8 0,D.int .u8 0,D.int .u8 0,D.int .u8 0,D.int .u8 0,D.int .u8 0,D.int .u8 0,D.int .u8 0,D.int .u8 0,D.int .u8 0,D.int .u8 0,D.int .u8 0,D.int .u8 0])]):=by
 have p0:0≤u % 10000:=by omega
 have a0:0≤u % 10000 % 100:=by omega
 have a1:u % 10000 % 100<100:=by omega
 have b0:0≤u % 10000 / 100:=by omega
 have b1:u % 10000 / 100<100:=by omega
 have t1:Int.tmod u 10000=u % 10000:=Int.tmod_eq_emod_of_nonneg (by omega)
 have t2:Int.tmod (u % 10000) 100=u % 10000 % 100:=Int.tmod_eq_emod_of_nonneg (by omega)
 have t3:Int.tdiv (u % 10000) 100=u % 10000 / 100:=Int.tdiv_eq_ediv_of_nonneg (by omega)
 have t4:Int.tdiv u 10000=u / 10000:=Int.tdiv_eq_ediv_of_nonneg (by omega)
 have t5:Int.tmod (u / 10000) 100=u / 10000 % 100:=Int.tmod_eq_emod_of_nonneg (by omega)
 have c0:0≤u / 10000 % 100:=by omega
 have c1:u / 10000 % 100<100:=by omega
 rw [l213_6,wrap_u32 (n:=u) (by omega) (by omega),t1,t2,t3,wrap_u32 (n:=u % 10000 / 100) (by omega) (by omega),iok1 a0 a1,ok0 a0 a1,iok1 b0 b1,ok0 b0 b1,lo2 a0 a1,hi2 a0 a1,lo2 b0 b1,hi2 b0 b1,t4,wrap_u32 (n:=u / 10000) (by omega) (by omega),t5,iok1 c0 c1,ok0 c0 c1,lo2 c0 c1,hi2 c0 c1,cond_true,cond_true,cond_true,cond_true,cond_true,cond_true]
 rw [show 48+u / 10000 % 100 / 10=48+u / 100000 % 10 by omega,show 48+u / 10000 % 100 % 10=48+u / 10000 % 10 by omega,show 48+u % 10000 / 100 / 10=48+u / 1000 % 10 by omega,show 48+u % 10000 / 100 % 10=48+u / 100 % 10 by omega,show 48+u % 10000 % 100 / 10=48+u / 10 % 10 by omega,show 48+u % 10000 % 100 % 10=48+u / 1 % 10 by omega]
def ZZ24:List D:=[D.int .u8 0,D.int .u8 0,D.int .u8 0,D.int .u8 0,D.int .u8 0,D.int .u8 0,D.int .u8 0,D.int .u8 0,D.int .u8 0,D.int .u8 0,D.int .u8 0,D.int .u8 0,D.int .u8 0,D.int .u8 0,D.int .u8 0,D.int .u8 0,D.int .u8 0,D.int .u8 0,D.int .u8 0,D.int .u8 0,D.int .u8 0,D.int .u8 0,D.int .u8 0,D.int .u8 0]
def W3(u:Int):List D:=[D.int .u8 0,.int .u8 (48+(u / 100) % 10),.int .u8 (48+(u / 10) % 10),.int .u8 (48+(u / 1) % 10),D.int .u8 0,D.int .u8 0,D.int .u8 0,D.int .u8 0,D.int .u8 0,D.int .u8 0,D.int .u8 0,D.int .u8 0,D.int .u8 0,D.int .u8 0,D.int .u8 0,D.int .u8 0,D.int .u8 0,D.int .u8 0,D.int .u8 0,D.int .u8 0,D.int .u8 0,D.int .u8 0,D.int .u8 0,D.int .u8 0]
def W4(u:Int):List D:=[D.int .u8 0,.int .u8 (48+(u / 1000) % 10),.int .u8 (48+(u / 100) % 10),.int .u8 (48+(u / 10) % 10),.int .u8 (48+(u / 1) % 10),D.int .u8 0,D.int .u8 0,D.int .u8 0,D.int .u8 0,D.int .u8 0,D.int .u8 0,D.int .u8 0,D.int .u8 0,D.int .u8 0,D.int .u8 0,D.int .u8 0,D.int .u8 0,D.int .u8 0,D.int .u8 0,D.int .u8 0,D.int .u8 0,D.int .u8 0,D.int .u8 0,D.int .u8 0]
def W5(u:Int):List D:=[D.int .u8 0,.int .u8 (48+(u / 10000) % 10),.int .u8 (48+(u / 1000) % 10),.int .u8 (48+(u / 100) % 10),.int .u8 (48+(u / 10) % 10),.int .u8 (48+(u / 1) % 10),D.int .u8 0,D.int .u8 0,D.int .u8 0,D.int .u8 0,D.int .u8 0,D.int .u8 0,D.int .u8 0,D.int .u8 0,D.int .u8 0,D.int .u8 0,D.int .u8 0,D.int .u8 0,D.int .u8 0,D.int .u8 0,D.int .u8 0,D.int .u8 0,D.int .u8 0,D.int .u8 0]
def W6(u:Int):List D:=[D.int .u8 0,.int .u8 (48+(u / 100000) % 10),.int .u8 (48+(u / 10000) % 10),.int .u8 (48+(u / 1000) % 10),.int .u8 (48+(u / 100) % 10),.int .u8 (48+(u / 10) % 10),.int .u8 (48+(u / 1) % 10),D.int .u8 0,D.int .u8 0,D.int .u8 0,D.int .u8 0,D.int .u8 0,D.int .u8 0,D.int .u8 0,D.int .u8 0,D.int .u8 0,D.int .u8 0,D.int .u8 0,D.int .u8 0,D.int .u8 0,D.int .u8 0,D.int .u8 0,D.int .u8 0,D.int .u8 0]
def C213(args:List V)(ob:Obs):Tree (V×Obs):=
 match args,ob with
 | [.sla o lo n,.d (.int .u64 u)],[(k,.arr e m fz es)]=>match Nat.beq o 0&&(Nat.beq lo 1&&(Nat.beq k 0&&(Sh.beq e (.int .u8)&&(Nat.beq m 24&&(!fz&&D.eqbL es ZZ24))))) with
  | true=>match Nat.beq n 3 with
   | true=> .ite (decide (100≤u)&&decide (u≤999)) (fun _=> .ret (.tup [],[(0,.arr (.int .u8) 24 false (W3 u))])) (fun _=> .stuck)
   | false=>match Nat.beq n 4 with
    | true=> .ite (decide (1000≤u)&&decide (u≤9999)) (fun _=> .ret (.tup [],[(0,.arr (.int .u8) 24 false (W4 u))])) (fun _=> .stuck)
    | false=>match Nat.beq n 5 with
     | true=> .ite (decide (10000≤u)&&decide (u≤99999)) (fun _=> .ret (.tup [],[(0,.arr (.int .u8) 24 false (W5 u))])) (fun _=> .stuck)
     | false=>match Nat.beq n 6 with
      | true=> .ite (decide (100000≤u)&&decide (u≤999999)) (fun _=> .ret (.tup [],[(0,.arr (.int .u8) 24 false (W6 u))])) (fun _=> .stuck)
      | false=> .stuck
  | false=> .stuck
 | _,_=> .stuck
theorem fn213{P:Program}(hm:P.follows .mixedOrders=true)(h0:EnvOK P I2):FnOK P 213 C213:=FnOK.run hm h0 fun args ob r h=>by
 unfold C213 at h
 split at h
 ·rename_i o lo n u k e m fz es
  split at h
  ·rename_i hb
   simp only [Bool.and_eq_true,Bool.not_eq_true'] at hb
   obtain ⟨h1,h2,h3,h4,h5,h6,h7⟩:=hb
   have h1:=Nat.eq_of_beq_eq_true h1
   have h2:=Nat.eq_of_beq_eq_true h2
   have h3:=Nat.eq_of_beq_eq_true h3
   have h4:=Sh.beq_eq h4
   have h5:=Nat.eq_of_beq_eq_true h5
   have h7:=D.eqbL_eq _ _ h7
   subst h1 h2 h3 h4 h5 h6 h7
   refine ⟨59+1,?_⟩
   rw [callN_succ (fn:=c213) rfl]
   split at h
   ·rename_i hn
    have hn:=Nat.eq_of_beq_eq_true hn
    subst hn
    obtain ⟨hg,h⟩:=eval_guard h
    simp only [Bool.and_eq_true,decide_eq_true_eq] at hg
    cases h
    exact (j213_3 19 59 u).trans (w213_3 19 59 58 u hg.1 hg.2)
   split at h
   ·rename_i hn
    have hn:=Nat.eq_of_beq_eq_true hn
    subst hn
    obtain ⟨hg,h⟩:=eval_guard h
    simp only [Bool.and_eq_true,decide_eq_true_eq] at hg
    cases h
    exact (j213_4 19 59 u).trans (w213_4 19 59 58 u hg.1 hg.2)
   split at h
   ·rename_i hn
    have hn:=Nat.eq_of_beq_eq_true hn
    subst hn
    obtain ⟨hg,h⟩:=eval_guard h
    simp only [Bool.and_eq_true,decide_eq_true_eq] at hg
    cases h
    exact (j213_5 19 59 u).trans (w213_5 19 59 58 u hg.1 hg.2)
   split at h
   ·rename_i hn
    have hn:=Nat.eq_of_beq_eq_true hn
    subst hn
    obtain ⟨hg,h⟩:=eval_guard h
    simp only [Bool.and_eq_true,decide_eq_true_eq] at hg
    cases h
    exact (j213_6 19 59 u).trans (w213_6 19 59 58 u hg.1 hg.2)
   cases h
  ·cases h
 ·cases h
def I3:Env:=I2.genAt 213 C213
end Go.Proofs.YtkjiaijkdefkgaaGreatDoor.A
