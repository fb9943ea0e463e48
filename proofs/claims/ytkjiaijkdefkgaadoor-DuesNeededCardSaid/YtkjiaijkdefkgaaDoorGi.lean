/- Parts of the walk: Ma, QM8, M8, M9, Md, QMe, Me, Mf, QMg, Mh, Mi, Mj, Mk, Ml, Mb, Mc, Mm, Mn, Mo, QN1, Mq, QMq, Mr, Ms, QMt, Mt, QMu, Mu, Mv, My, M6, PZ, V2, QDa, Db, AMRfn, QDb, Dc, QDc, Dd, De, PW. -/
import Derived.Test.YtkjiaijkdefkgaaDoorGh
import Derived.KernelRfl
namespace Go.Proofs.YtkjiaijkdefkgaaDoor.A
open Go Go.AM
set_option maxRecDepth 20000
def accA(zas:List D)(i:Nat):Bool:=accOk (fs 0 (zas.getD i .nilp)) (fi 1 (zas.getD i .nilp)) (fi 2 (zas.getD i .nilp)) (fi 3 (zas.getD i .nilp)) (fi 4 (zas.getD i .nilp)) (fi 5 (zas.getD i .nilp)) (fi 6 (zas.getD i .nilp))&&prevLess zas i
def mkB(zas ms:List D)(i:Nat):Bool:=ledKey (fs 0 (ms.getD i .nilp))&&(prevLess ms i&&(actOk (fi 1 (ms.getD i .nilp)) (fi 3 (ms.getD i .nilp)) (fs 2 (ms.getD i .nilp))&&(!decide (fi 4 (ms.getD i .nilp)<1)&&(!decide (3<fi 4 (ms.getD i .nilp))&&there (fs 2 (ms.getD i .nilp)) zas))))
def potC(zas ms:List D)(i:Nat):Bool:=potsEq (q4 (pendKV ms) (fs 0 (zas.getD i .nilp))) (fi 2 (zas.getD i .nilp)) (fi 3 (zas.getD i .nilp)) (fi 5 (zas.getD i .nilp)) (fi 6 (zas.getD i .nilp))
theorem led_eq{zas ms:List D}(hm:ms.length≤500):(allN (accA zas) zas.length&&(allN (mkB zas ms) ms.length&&allN (potC zas ms) zas.length))=(allN (mkOkAt zas ms) ms.length&&allN (acOkAt zas ms) zas.length):=by
 rw [Bool.eq_iff_iff]
 simp only [Bool.and_eq_true,allN_iff]
 constructor
 ·rintro ⟨h1,h2,h3⟩
  have hr:Rising zas:=fun i hi=>by
   have:=h1 i hi
   unfold accA at this
   rw [Bool.and_eq_true] at this
   exact this.2
  have hk: ∀i,i<ms.length→actOk (fi 1 (ms.getD i .nilp)) (fi 3 (ms.getD i .nilp)) (fs 2 (ms.getD i .nilp))=true:=fun i hi=>by
   have:=h2 i hi
   unfold mkB at this
   simp only [Bool.and_eq_true] at this
   exact this.2.2.1
  refine ⟨fun i hi=> ?_,fun i hi=> ?_⟩
  ·have:=h2 i hi
   unfold mkB at this
   rw [there_idx hr] at this
   simp only [Bool.and_eq_true] at this
   unfold mkOkAt
   simp only [Bool.and_eq_true]
   exact ⟨this.1,this.2.2.1,this.2.2.2.1,this.2.2.2.2.1,this.2.2.2.2.2,this.2.1⟩
  ·have a:=h1 i hi
   have c:=h3 i hi
   unfold accA at a
   unfold potC at c
   rw [pend_ref hk hm] at c
   rw [Bool.and_eq_true] at a
   unfold acOkAt
   rw [a.1,a.2,c]
   rfl
 ·rintro ⟨h1,h2⟩
  have hr:Rising zas:=fun i hi=>by
   have:=h2 i hi
   unfold acOkAt at this
   simp only [Bool.and_eq_true] at this
   exact this.2.1
  have hk: ∀i,i<ms.length→actOk (fi 1 (ms.getD i .nilp)) (fi 3 (ms.getD i .nilp)) (fs 2 (ms.getD i .nilp))=true:=fun i hi=>by
   have:=h1 i hi
   unfold mkOkAt at this
   simp only [Bool.and_eq_true] at this
   exact this.2.1
  refine ⟨fun i hi=> ?_,fun i hi=> ?_,fun i hi=> ?_⟩
  ·have:=h2 i hi
   unfold acOkAt at this
   simp only [Bool.and_eq_true] at this
   unfold accA
   rw [this.1,this.2.1]
   rfl
  ·have:=h1 i hi
   unfold mkOkAt at this
   simp only [Bool.and_eq_true] at this
   unfold mkB
   rw [there_idx hr]
   simp only [Bool.and_eq_true]
   exact ⟨this.1,this.2.2.2.2.2,this.2.1,this.2.2.1,this.2.2.2.1,this.2.2.2.2.1⟩
  ·have:=h2 i hi
   unfold acOkAt at this
   simp only [Bool.and_eq_true] at this
   unfold potC
   rw [pend_ref hk hm]
   exact this.2.2
abbrev defSh:Sh:= .agg [.str,.sl stepSh]
theorem x102(m n:Nat)(nb:Bool)(bs:List D):Tree.out (enterM M6 (callN M6 (m+40)) n c24 [.d (.sl defSh nb bs)] [])=bif decide (8<(bs.length:Int)) then some [D.int .i64 2] else Tree.out (resume M6 (callN M6 (m+40)) n n 0 c24 { fr:=frame 34 [(0,V.d (D.sl defSh nb bs)),(8,V.d (D.sl defSh nb bs)),(9,V.d (D.int .i64 (bs.length:Int))),(10,V.d (D.int .i64 0))],ob:=[] }):=by kernel_rfl
def v102(nb:Bool)(bs:List D)(i:Int):St:= { fr:=frame 34 [(0,V.d (D.sl defSh nb bs)),(8,V.d (D.sl defSh nb bs)),(9,V.d (D.int .i64 (bs.length:Int))),(10,V.d (D.int .i64 i))],ob:=[] }
theorem y102(m n j:Nat)(nb:Bool)(bs:List D)(i:Int):Tree.out (resume M6 (callN M6 (m+40)) n (j+1) 0 c24 (v102 nb bs i))=bif decide (i<(bs.length:Int)) then bif decide (0≤i∧i<(bs.length:Int)) then bif (bif defOk (fs 0 (bs.getD i.toNat .nilp)) (fl 1 (bs.getD i.toNat .nilp)) then (0:Int) else (90:Int)) != 0 then some [D.int .i64 2] else bif decide (0<i) then bif decide (0≤IntKind.wrap .i64 (i - 1)∧IntKind.wrap .i64 (i - 1)<(bs.length:Int)) then bif !Op.bytesLess (fs 0 (List.getD bs (Int.toNat (IntKind.wrap .i64 (i - 1))) D.nilp)) (fs 0 (bs.getD i.toNat .nilp)) then some [D.int .i64 2] else Tree.out (resume M6 (callN M6 (m+40)) n j 0 c24 (v102 nb bs (IntKind.wrap .i64 (i+1)))) else none else Tree.out (resume M6 (callN M6 (m+40)) n j 0 c24 (v102 nb bs (IntKind.wrap .i64 (i+1)))) else none else some [D.int .i64 0]:=by kernel_rfl
theorem x53(m n:Nat)(r q:Int)(nil:Bool)(es:List D):Tree.out (enterM M6 (callN M6 (m+40)) n c14 [.d (.agg [.int .i64 r,.int .i64 q,.sl hopSh nil es])] [])=bif (bif idOk r q es then (0:Int) else (30:Int)) != 0 then some [D.int .i64 (-1)] else bif decide (es.length≤1000000) then bif decide (0≤IntKind.wrap .i64 ((↑(List.length (List.map orgOf es)+1):Int) - 1)∧IntKind.wrap .i64 ((↑(List.length (List.map orgOf es)+1):Int) - 1)<(↑(List.length (List.map orgOf es)+1):Int)) then some [D.int .i64 (fi 0 (List.getD (D.int .i64 r :: List.map orgOf es) (Int.toNat (IntKind.wrap .i64 ((↑(List.length (List.map orgOf es)+1):Int) - 1))) D.nilp))] else none else none:=by kernel_rfl
def defAt(bs:List D)(i:Nat):Bool:=defOk (fs 0 (bs.getD i .nilp)) (fl 1 (bs.getD i .nilp))&&prevLess bs i
def bookOk(bs:List D):Bool:= !decide (8<(bs.length:Int))&&allN (defAt bs) bs.length
theorem rn102(m n:Nat)(nb:Bool)(bs:List D)(hn:10≤n):(enterM M6 (callN M6 (m+40)) n c24 [.d (.sl defSh nb bs)] []).out=some [.int .i64 (bif bookOk bs then 0 else 2)]:=by
 rw [x102]
 unfold bookOk
 by_cases h8:8<(bs.length:Int)
 ·rw [decide_eq_true h8];rfl
 ·rw [decide_eq_false h8]
  refine (cf rfl).trans ?_
  have:=scan_loop (fun j i=>(resume M6 (callN M6 (m+40)) n j 0 c24 (v102 nb bs (i:Nat))).out) bs.length (fun i=> !defAt bs i) (fun _=>[D.int .i64 2]) [.int .i64 0]
   (fun j i hi=> ?_) (fun j=> ?_) bs.length 0 n (by omega) (by omega)
  ·refine this.trans ?_
   rw [scan_bool]
   rfl
  ·rw [y102]
   simp only [Int.toNat_natCast,wrap_up hi (show bs.length≤1000000 by omega)]
   refine (ct (dec_lt hi)).trans ((ct (dec_ix hi)).trans ?_)
   rw [ord_at hi (show bs.length≤1000000 by omega)]
   unfold defAt
   cases defOk (fs 0 (bs.getD i .nilp)) (fl 1 (bs.getD i .nilp))
   ·rfl
   ·cases prevLess bs i <;> rfl
  ·rw [y102]
   exact cf (dec_end _)
def orgs(r:Int)(es:List D):List D:= .int .i64 r :: es.map orgOf
def orgOfId(r q:Int)(es:List D):Int:=bif idOk r q es then fi 0 ((orgs r es).getD es.length .nilp) else -1
theorem rn53(m n:Nat)(r q:Int)(nil:Bool)(es:List D):(enterM M6 (callN M6 (m+40)) n c14 [.d (.agg [.int .i64 r,.int .i64 q,.sl hopSh nil es])] []).out=some [.int .i64 (orgOfId r q es)]:=by
 rw [x53]
 unfold orgOfId
 cases h:idOk r q es
 ·rfl
 ·have h4:=(idOk_iff.1 h).2.1
  refine (cf rfl).trans ?_
  refine (ct (decide_eq_true (by omega))).trans ?_
  have hl:(((es.map orgOf).length+1:Nat):Int) - 1=(es.length:Int):=by rw [List.length_map];omega
  rw [hl,wrap_i64 (n:=(es.length:Int)) (by omega) (by omega)]
  refine (ct (decide_eq_true (by rw [List.length_map];omega))).trans ?_
  rw [Int.toNat_natCast]
  rfl
def g102b:List D→Tree (List D)
 | [.sl e0 _nb bs]=>match Sh.beq e0 defSh with
  | true=> .ret [.int .i64 (bif bookOk bs then 0 else 2)]
  | false=> .stuck
 | _=> .stuck
theorem pure102b{P:Program}(hm:P.follows .mixedOrders=true)(h0:EnvOK P M6):PureOK P 24 g102b:=PureOK.run hm h0 fun ds rs h=>by
 unfold g102b at h
 split at h
 ·rename_i e0 nb bs
  split at h
  ·rename_i hb
   have hb0:=hb
   have hb0:=Sh.beq_eq hb0
   subst hb0
   cases h
   exact ⟨59+1,by rw [callN_succ (fn:=c24) rfl];exact rn102 19 59 nb bs (by omega)⟩
  ·cases h
 ·cases h
def g53b:List D→Tree (List D)
 | [.agg [.int .i64 r,.int .i64 q,.sl e0 _nil es]]=>match Sh.beq e0 hopSh with
  | true=> .ret [.int .i64 (orgOfId r q es)]
  | false=> .stuck
 | _=> .stuck
theorem pure53b{P:Program}(hm:P.follows .mixedOrders=true)(h0:EnvOK P M6):PureOK P 14 g53b:=PureOK.run hm h0 fun ds rs h=>by
 unfold g53b at h
 split at h
 ·rename_i r q e0 nil es
  split at h
  ·rename_i hb
   have hb0:=hb
   have hb0:=Sh.beq_eq hb0
   subst hb0
   cases h
   exact ⟨59+1,by rw [callN_succ (fn:=c14) rfl];exact rn53 19 59 r q nil es⟩
  ·cases h
 ·cases h
def M9:Env:=(M6.pureAt 24 true g102b).pureAt 14 true g53b
theorem okM9{P:Program}(hm:P.follows .mixedOrders=true)(h:EnvOK P M6):EnvOK P M9:=(h.pureAt (pure102b hm h)).pureAt (pure53b hm h)
def zMrk:D:= .agg [.str [],.int .i64 0,.str [],.int .i64 0,.int .i64 0]
theorem int_beq_comm(a b:Int):(a==b)=(b==a):=by
 rw [Bool.eq_iff_iff]
 simp only [beq_iff_eq]
 exact ⟨Eq.symm,Eq.symm⟩
theorem pots_and(a b c d e f g h:Int):(a==e&&(b==f&&(c==g&&(d==h&&true))))=potsEq ⟨a,b,c,d⟩ e f g h:=by
 unfold potsEq
 rw [int_beq_comm a e,int_beq_comm b f,int_beq_comm c g,int_beq_comm d h]
 cases (e==a) <;> cases (f==b) <;> cases (g==c) <;> cases (h==d) <;> rfl
theorem lp101c(m n:Nat)(na nm':Bool)(zas ms:List D)(hl:zas.length≤1000000)(hn:zas.length<n):(resume M6 (callN M6 (m+40)) n n 2 c23 (v101c na nm' zas ms (pendKV ms) 0)).out=some [.int .i64 (bif allN (potC zas ms) zas.length then 0 else 2)]:=by
 have:=scan_loop (fun j i=>(resume M6 (callN M6 (m+40)) n j 2 c23 (v101c na nm' zas ms (pendKV ms) (i:Nat))).out) zas.length (fun i=> !potC zas ms i) (fun _=>[D.int .i64 2]) [.int .i64 0]
  (fun j i hi=> ?_) (fun j=> ?_) zas.length 0 n (by omega) (by omega)
 ·refine this.trans ?_
  rw [scan_bool]
 ·rw [y101c]
  simp only [Int.toNat_natCast,wrap_up hi hl]
  refine (ct (dec_lt hi)).trans ((ct (dec_ix hi)).trans ?_)
  rw [pots_and]
  rfl
 ·rw [y101c]
  exact cf (dec_end _)
theorem lp101b(m n:Nat)(na nm':Bool)(zas ms:List D)(hl:zas.length≤1000000)(hm:ms.length≤1000000)(hn:zas.length<n)(hn':ms.length<n):
  (resume M6 (callN M6 (m+40)) n n 1 c23 (v101b na nm' zas ms 0)).out=some [.int .i64 (bif allN (mkB zas ms) ms.length&&allN (potC zas ms) zas.length then 0 else 2)]:=by
 have hb:=lp101c m n na nm' zas ms hl hn
 have:=scan_loop (fun j i=>(resume M6 (callN M6 (m+40)) n j 1 c23 (v101b na nm' zas ms (i:Nat))).out) ms.length (fun i=> !mkB zas ms i) (fun _=>[D.int .i64 2]) [.int .i64 (bif allN (potC zas ms) zas.length then 0 else 2)]
  (fun j i hi=> ?_) (fun j=> ?_) ms.length 0 n (by omega) (by omega)
 ·refine this.trans ?_
  rw [scan_bool]
  cases allN (mkB zas ms) ms.length <;> cases allN (potC zas ms) zas.length <;> rfl
 ·rw [y101b]
  simp only [Int.toNat_natCast,wrap_up hi hm]
  refine (ct (dec_lt hi)).trans ((ct (dec_ix hi)).trans ?_)
  rw [decide_eq_true hl,ord_at hi hm]
  unfold mkB
  cases ledKey (fs 0 (ms.getD i .nilp))
  ·rfl
  ·cases prevLess ms i
   ·rfl
   ·cases actOk (fi 1 (ms.getD i .nilp)) (fi 3 (ms.getD i .nilp)) (fs 2 (ms.getD i .nilp))
    ·rfl
    ·cases decide (fi 4 (ms.getD i .nilp)<1)
     ·cases decide (3<fi 4 (ms.getD i .nilp))
      ·cases there (fs 2 (ms.getD i .nilp)) zas <;> rfl
      ·rfl
     ·rfl
 ·rw [y101b]
  exact (cf (dec_end _)).trans ((ct (decide_eq_true hm)).trans hb)
theorem rn101(m n:Nat)(na nm':Bool)(zas ms:List D)(hn:600≤n):(enterM M6 (callN M6 (m+40)) n c23 [.d (.agg [.sl accSh na zas,.sl mrkSh nm' ms])] []).out=some [.int .i64 (bif ledOk zas ms then 0 else 2)]:=by
 rw [x101]
 unfold ledOk
 by_cases h1:12<(zas.length:Int)
 ·rw [decide_eq_true h1];rfl
 ·rw [decide_eq_false h1]
  refine (cf rfl).trans ?_
  by_cases h2:500<(ms.length:Int)
  ·rw [decide_eq_true h2];rfl
  ·rw [decide_eq_false h2]
   refine (cf rfl).trans ?_
   rw [←led_eq (show ms.length≤500 by omega)]
   have hb:=lp101b m n na nm' zas ms (by omega) (by omega) (by omega) (by omega)
   have:=scan_loop (fun j i=>(resume M6 (callN M6 (m+40)) n j 0 c23 (v101 na nm' zas ms (i:Nat))).out) zas.length (fun i=> !accA zas i) (fun _=>[D.int .i64 2]) [.int .i64 (bif allN (mkB zas ms) ms.length&&allN (potC zas ms) zas.length then 0 else 2)]
    (fun j i hi=> ?_) (fun j=> ?_) zas.length 0 n (by omega) (by omega)
   ·refine this.trans ?_
    rw [scan_bool]
    cases allN (accA zas) zas.length <;> cases (allN (mkB zas ms) ms.length&&allN (potC zas ms) zas.length) <;> rfl
   ·rw [y101]
    simp only [Int.toNat_natCast,wrap_up hi (show zas.length≤1000000 by omega)]
    refine (ct (dec_lt hi)).trans ((ct (dec_ix hi)).trans ?_)
    rw [ord_at hi (show zas.length≤1000000 by omega)]
    unfold accA
    cases accOk (fs 0 (zas.getD i .nilp)) (fi 1 (zas.getD i .nilp)) (fi 2 (zas.getD i .nilp)) (fi 3 (zas.getD i .nilp)) (fi 4 (zas.getD i .nilp)) (fi 5 (zas.getD i .nilp)) (fi 6 (zas.getD i .nilp))
    ·rfl
    ·cases prevLess zas i <;> rfl
   ·rw [y101]
    exact (cf (dec_end _)).trans hb
def g101b:List D→Tree (List D)
 | [.agg [.sl ea _ zas,.sl em _ ms]]=>match Sh.beq ea accSh&&Sh.beq em mrkSh with
  | true=> .ret [.int .i64 (bif ledOk zas ms then 0 else 2)]
  | false=> .stuck
 | _=> .stuck
theorem pure101b{P:Program}(hm:P.follows .mixedOrders=true)(h0:EnvOK P M6):PureOK P 23 g101b:=PureOK.run hm h0 fun ds rs h=>by
 unfold g101b at h
 split at h
 ·rename_i ea na zas em nm ms
  split at h
  ·rename_i hb
   simp only [Bool.and_eq_true] at hb
   have hb0:=Sh.beq_eq hb.1
   have hb1:=Sh.beq_eq hb.2
   subst hb0 hb1
   cases h
   exact ⟨600+1,by rw [callN_succ (fn:=c23) rfl];exact rn101 560 600 na nm zas ms (by omega)⟩
  ·cases h
 ·cases h
def Md:Env:=M9.pureAt 23 true g101b
theorem okMd{P:Program}(hm:P.follows .mixedOrders=true)(h6:EnvOK P M6)(h9:EnvOK P M9):EnvOK P Md:=h9.pureAt (pure101b hm h6)
abbrev sgSh:Sh:= .agg [.int .i64,.int .i64,.sl hopSh,.str,.sl stepSh,.int .i64,.int .i64,.sl partSh,.bool]
theorem x104(m n:Nat)(ns:Bool)(ss:List D):Tree.eval (enterM Md (callN Md (m+40)) n c26 [.d (.sl sgSh ns ss)] [])=Tree.eval (resume Md (callN Md (m+40)) n n 0 c26 { fr:=frame 64 [(3,V.mp 832),(13,V.d (D.sl (Sh.agg [Sh.int .i64,Sh.int .i64,Sh.sl hopSh,Sh.str,Sh.sl stepSh,Sh.int .i64,Sh.int .i64,Sh.sl hopSh,Sh.bool]) ns ss)),(14,V.d (D.int .i64 (ss.length:Int))),(15,V.d (D.int .i64 0))],ob:=[(832,AM.Obj.map Sh.str mrkSh [])] }):=by kernel_rfl
def v104(ns:Bool)(ss:List D)(kv:List (D×D))(i:Int):St:= { fr:=frame 64 [(3,V.mp 832),(13,V.d (D.sl sgSh ns ss)),(14,V.d (D.int .i64 (ss.length:Int))),(15,V.d (D.int .i64 i))],ob:=[(832,AM.Obj.map Sh.str mrkSh kv)] }
theorem y104(m n j:Nat)(ns:Bool)(ss:List D)(kv:List (D×D))(i:Int):Go.AM.Tree.eval (resume Md (callN Md (m+40)) n (j+1) 0 c26 (v104 ns ss kv i))=bif decide (i<(↑(List.length ss):Int)) then bif decide ((0:Int)≤i∧i<(↑(List.length ss):Int)) then @Tree.eval (V×Obs) (resumeL Md (callN Md (m+(40:Nat))) n [((0:Nat),j),((1:Nat),n)] c26 { fr:=frame (64:Nat) [((3:Nat),V.mp (832:Nat)),((5:Nat),V.ptr (384:Nat) (0:Nat)),((13:Nat),V.d (D.sl (Sh.agg [Sh.int IntKind.i64,Sh.int IntKind.i64,Sh.sl hopSh,Sh.str,Sh.sl stepSh,Sh.int IntKind.i64,Sh.int IntKind.i64,Sh.sl hopSh,Sh.bool]) ns ss)),((14:Nat),V.d (D.int IntKind.i64 (↑(List.length ss):Int))),((15:Nat),V.d (D.int IntKind.i64 i)),((20:Nat),V.d (D.sl hopSh (fn (7:Nat) (List.getD ss (Int.toNat i) D.nilp)) (fl (7:Nat) (List.getD ss (Int.toNat i) D.nilp)))),((21:Nat),V.d (D.int IntKind.i64 (↑(List.length (fl (7:Nat) (List.getD ss (Int.toNat i) D.nilp))):Int))),((22:Nat),V.d (D.int IntKind.i64 (0:Int)))],ob:=[((832:Nat),AM.Obj.map Sh.str mrkSh kv),((384:Nat),Obj.box [V.d (D.int IntKind.i64 (fi (0:Nat) (List.getD ss (Int.toNat i) D.nilp))),V.d (D.int IntKind.i64 (fi (1:Nat) (List.getD ss (Int.toNat i) D.nilp))),V.d (D.sl hopSh (fn (2:Nat) (List.getD ss (Int.toNat i) D.nilp)) (fl (2:Nat) (List.getD ss (Int.toNat i) D.nilp))),V.d (D.str (fs (3:Nat) (List.getD ss (Int.toNat i) D.nilp))),V.d (D.sl stepSh (fn (4:Nat) (List.getD ss (Int.toNat i) D.nilp)) (fl (4:Nat) (List.getD ss (Int.toNat i) D.nilp))),V.d (D.int IntKind.i64 (fi (5:Nat) (List.getD ss (Int.toNat i) D.nilp))),V.d (D.int IntKind.i64 (fi (6:Nat) (List.getD ss (Int.toNat i) D.nilp))),V.d (D.sl hopSh (fn (7:Nat) (List.getD ss (Int.toNat i) D.nilp)) (fl (7:Nat) (List.getD ss (Int.toNat i) D.nilp))),V.d (D.bool (fb (8:Nat) (List.getD ss (Int.toNat i) D.nilp)))])] }) else none else some (V.mp (832:Nat),[((832:Nat),AM.Obj.map Sh.str mrkSh kv)]):=by kernel_rfl
theorem x103(m n:Nat)(og ep co:Int)(na nm' nb ns:Bool)(zas ms bs ss:List D):Tree.outG (enterM Md (callN Md (m+40)) n c25 [.ptr 0 0] [(0,.box [.d (.int .i64 og),.d (.int .i64 ep),.d (.int .i64 co),.d (.sl accSh na zas),.d (.sl mrkSh nm' ms),.d (.sl defSh nb bs),.d (.sl sgSh ns ss)])])=bif decide (24<(ss.length:Int)) then some (V.d (D.bool false),[(0,Obj.box [V.d (D.int .i64 og),V.d (D.int .i64 ep),V.d (D.int .i64 co),V.d (D.sl accSh na zas),V.d (D.sl mrkSh nm' ms),V.d (D.sl (Sh.agg [Sh.str,Sh.sl stepSh]) nb bs),V.d (D.sl (Sh.agg [Sh.int .i64,Sh.int .i64,Sh.sl hopSh,Sh.str,Sh.sl stepSh,Sh.int .i64,Sh.int .i64,Sh.sl hopSh,Sh.bool]) ns ss)])]) else Tree.outG (resume Md (callN Md (m+40)) n n 0 c25 { fr:=frame 74 [(0,V.ptr 0 0),(16,V.d (D.sl (Sh.agg [Sh.int .i64,Sh.int .i64,Sh.sl hopSh,Sh.str,Sh.sl stepSh,Sh.int .i64,Sh.int .i64,Sh.sl hopSh,Sh.bool]) ns ss)),(17,V.d (D.int .i64 (ss.length:Int))),(18,V.d (D.int .i64 0))],ob:=[(0,Obj.box [V.d (D.int .i64 og),V.d (D.int .i64 ep),V.d (D.int .i64 co),V.d (D.sl accSh na zas),V.d (D.sl mrkSh nm' ms),V.d (D.sl (Sh.agg [Sh.str,Sh.sl stepSh]) nb bs),V.d (D.sl (Sh.agg [Sh.int .i64,Sh.int .i64,Sh.sl hopSh,Sh.str,Sh.sl stepSh,Sh.int .i64,Sh.int .i64,Sh.sl hopSh,Sh.bool]) ns ss)])] }):=by kernel_rfl
def v104b(ns:Bool)(ss:List D)(kv:List (D×D))(i:Int)(rt nn st wy:Int)(n1 n2 n3 fc:Bool)(hops steps parts:List D)(nm:List UInt8)(k:Int):St:= { fr:=frame 64 [(3,V.mp 832),(5,V.ptr 384 0),(13,V.d (D.sl sgSh ns ss)),(14,V.d (D.int .i64 (ss.length:Int))),(15,V.d (D.int .i64 i)),(20,V.d (D.sl partSh n3 parts)),(21,V.d (D.int .i64 (parts.length:Int))),(22,V.d (D.int .i64 k))],ob:=[(832,AM.Obj.map Sh.str mrkSh kv),(384,.box [V.d (D.int .i64 rt),V.d (D.int .i64 nn),V.d (D.sl hopSh n1 hops),V.d (D.str nm),V.d (D.sl stepSh n2 steps),V.d (D.int .i64 st),V.d (D.int .i64 wy),V.d (D.sl partSh n3 parts),V.d (D.bool fc)])] }
theorem y104b(m n j h:Nat)(ns:Bool)(ss:List D)(kv:List (D×D))(i:Int)(rt nn st wy:Int)(n1 n2 n3 fc:Bool)(hops steps parts:List D)(nm:List UInt8)(k:Int):Go.AM.Tree.eval (resumeL Md (callN Md (m+40)) n [(0,j),(1,h+1)] c26 (v104b ns ss kv i rt nn st wy n1 n2 n3 fc hops steps parts nm k))=bif decide (k<(↑(List.length parts):Int)) then bif decide ((0:Int)≤k∧k<(↑(List.length parts):Int)) then bif decide ((0:Int)≤k∧k<(↑(List.length steps):Int)) then bif fs (4:Nat) (List.getD steps (Int.toNat k) D.nilp)==[] then bif decide ((0:Int)≤fi (0:Nat) (List.getD parts (Int.toNat k) D.nilp)∧fi (0:Nat) (List.getD parts (Int.toNat k) D.nilp)<(5:Int)) then bif fi (0:Nat) (List.getD [D.int IntKind.i64 (0:Int),D.int IntKind.i64 (0:Int),D.int IntKind.i64 (1:Int),D.int IntKind.i64 (2:Int),D.int IntKind.i64 (3:Int)] (Int.toNat (fi (0:Nat) (List.getD parts (Int.toNat k) D.nilp))) D.nilp) != (0:Int) then bif decide ((0:Int)≤fi (0:Nat) (List.getD parts (Int.toNat k) D.nilp)∧fi (0:Nat) (List.getD parts (Int.toNat k) D.nilp)<(5:Int)) then @Tree.eval (V×Obs) (resumeL Md (callN Md (m+(40:Nat))) n [((0:Nat),j),((1:Nat),h)] c26 { fr:=frame (64:Nat) [((3:Nat),V.mp (832:Nat)),((5:Nat),V.ptr (384:Nat) (0:Nat)),((13:Nat),V.d (D.sl (Sh.agg [Sh.int IntKind.i64,Sh.int IntKind.i64,Sh.sl hopSh,Sh.str,Sh.sl stepSh,Sh.int IntKind.i64,Sh.int IntKind.i64,Sh.sl hopSh,Sh.bool]) ns ss)),((14:Nat),V.d (D.int IntKind.i64 (↑(List.length ss):Int))),((15:Nat),V.d (D.int IntKind.i64 i)),((20:Nat),V.d (D.sl hopSh n3 parts)),((21:Nat),V.d (D.int IntKind.i64 (↑(List.length parts):Int))),((22:Nat),V.d (D.int IntKind.i64 (IntKind.wrap IntKind.i64 (k+(1:Int)))))],ob:=[((832:Nat),AM.Obj.map Sh.str mrkSh (kvSet (D.str (bif keyOk rt nn hops k then keyN rt nn hops k else [])) (D.agg [D.str (bif keyOk rt nn hops k then keyN rt nn hops k else []),D.int IntKind.i64 (fi (0:Nat) (List.getD steps (Int.toNat k) D.nilp)),D.str (fs (1:Nat) (List.getD steps (Int.toNat k) D.nilp)),D.int IntKind.i64 (fi (2:Nat) (List.getD steps (Int.toNat k) D.nilp)),D.int IntKind.i64 (fi (0:Nat) (List.getD [D.int IntKind.i64 (0:Int),D.int IntKind.i64 (0:Int),D.int IntKind.i64 (1:Int),D.int IntKind.i64 (2:Int),D.int IntKind.i64 (3:Int)] (Int.toNat (fi (0:Nat) (List.getD parts (Int.toNat k) D.nilp))) D.nilp))]) kv)),((384:Nat),Obj.box [V.d (D.int IntKind.i64 rt),V.d (D.int IntKind.i64 nn),V.d (D.sl hopSh n1 hops),V.d (D.str nm),V.d (D.sl stepSh n2 steps),V.d (D.int IntKind.i64 st),V.d (D.int IntKind.i64 wy),V.d (D.sl hopSh n3 parts),V.d (D.bool fc)])] }) else none else @Tree.eval (V×Obs) (resumeL Md (callN Md (m+(40:Nat))) n [((0:Nat),j),((1:Nat),h)] c26 { fr:=frame (64:Nat) [((3:Nat),V.mp (832:Nat)),((5:Nat),V.ptr (384:Nat) (0:Nat)),((13:Nat),V.d (D.sl (Sh.agg [Sh.int IntKind.i64,Sh.int IntKind.i64,Sh.sl hopSh,Sh.str,Sh.sl stepSh,Sh.int IntKind.i64,Sh.int IntKind.i64,Sh.sl hopSh,Sh.bool]) ns ss)),((14:Nat),V.d (D.int IntKind.i64 (↑(List.length ss):Int))),((15:Nat),V.d (D.int IntKind.i64 i)),((20:Nat),V.d (D.sl hopSh n3 parts)),((21:Nat),V.d (D.int IntKind.i64 (↑(List.length parts):Int))),((22:Nat),V.d (D.int IntKind.i64 (IntKind.wrap IntKind.i64 (k+(1:Int)))))],ob:=[((832:Nat),AM.Obj.map Sh.str mrkSh kv),((384:Nat),Obj.box [V.d (D.int IntKind.i64 rt),V.d (D.int IntKind.i64 nn),V.d (D.sl hopSh n1 hops),V.d (D.str nm),V.d (D.sl stepSh n2 steps),V.d (D.int IntKind.i64 st),V.d (D.int IntKind.i64 wy),V.d (D.sl hopSh n3 parts),V.d (D.bool fc)])] }) else none else @Tree.eval (V×Obs) (resumeL Md (callN Md (m+(40:Nat))) n [((0:Nat),j),((1:Nat),h)] c26 { fr:=frame (64:Nat) [((3:Nat),V.mp (832:Nat)),((5:Nat),V.ptr (384:Nat) (0:Nat)),((13:Nat),V.d (D.sl (Sh.agg [Sh.int IntKind.i64,Sh.int IntKind.i64,Sh.sl hopSh,Sh.str,Sh.sl stepSh,Sh.int IntKind.i64,Sh.int IntKind.i64,Sh.sl hopSh,Sh.bool]) ns ss)),((14:Nat),V.d (D.int IntKind.i64 (↑(List.length ss):Int))),((15:Nat),V.d (D.int IntKind.i64 i)),((20:Nat),V.d (D.sl hopSh n3 parts)),((21:Nat),V.d (D.int IntKind.i64 (↑(List.length parts):Int))),((22:Nat),V.d (D.int IntKind.i64 (IntKind.wrap IntKind.i64 (k+(1:Int)))))],ob:=[((832:Nat),AM.Obj.map Sh.str mrkSh kv),((384:Nat),Obj.box [V.d (D.int IntKind.i64 rt),V.d (D.int IntKind.i64 nn),V.d (D.sl hopSh n1 hops),V.d (D.str nm),V.d (D.sl stepSh n2 steps),V.d (D.int IntKind.i64 st),V.d (D.int IntKind.i64 wy),V.d (D.sl hopSh n3 parts),V.d (D.bool fc)])] }) else none else none else @Tree.eval (V×Obs) (resume Md (callN Md (m+(40:Nat))) n j (0:Nat) c26 { fr:=frame (64:Nat) [((3:Nat),V.mp (832:Nat)),((13:Nat),V.d (D.sl (Sh.agg [Sh.int IntKind.i64,Sh.int IntKind.i64,Sh.sl hopSh,Sh.str,Sh.sl stepSh,Sh.int IntKind.i64,Sh.int IntKind.i64,Sh.sl hopSh,Sh.bool]) ns ss)),((14:Nat),V.d (D.int IntKind.i64 (↑(List.length ss):Int))),((15:Nat),V.d (D.int IntKind.i64 (IntKind.wrap IntKind.i64 (i+(1:Int)))))],ob:=[((832:Nat),AM.Obj.map Sh.str mrkSh kv)] }):=by kernel_rfl
def v103(og ep co:Int)(na nm' nb ns:Bool)(zas ms bs ss:List D)(i:Int):St:= { fr:=frame 74 [(0,V.ptr 0 0),(16,V.d (D.sl sgSh ns ss)),(17,V.d (D.int .i64 (ss.length:Int))),(18,V.d (D.int .i64 i))],ob:=[(0,.box [.d (.int .i64 og),.d (.int .i64 ep),.d (.int .i64 co),.d (.sl accSh na zas),.d (.sl mrkSh nm' ms),.d (.sl defSh nb bs),.d (.sl sgSh ns ss)])] }
theorem y103(m n j:Nat)(og ep co:Int)(na nm' nb ns:Bool)(zas ms bs ss:List D)(i:Int):Tree.outG (resume Md (callN Md (m+40)) n (j+1) 0 c25 (v103 og ep co na nm' nb ns zas ms bs ss i))=bif decide (i<(ss.length:Int)) then bif decide (0≤i∧i<(ss.length:Int)) then bif decide (List.length (fl 4 (ss.getD i.toNat .nilp))≤1000000) then bif decide (List.length (fl 7 (ss.getD i.toNat .nilp))≤1000000) then bif (bif mayOk (fi 0 (ss.getD i.toNat .nilp)) (fi 1 (ss.getD i.toNat .nilp)) (fi 5 (ss.getD i.toNat .nilp)) (fi 6 (ss.getD i.toNat .nilp)) (fb 8 (ss.getD i.toNat .nilp)) (fl 2 (ss.getD i.toNat .nilp)) (fl 4 (ss.getD i.toNat .nilp)) (fl 7 (ss.getD i.toNat .nilp)) (fs 3 (ss.getD i.toNat .nilp)) then (0:Int) else (230:Int)) != 0 then some (V.d (D.bool false),[(0,Obj.box [V.d (D.int .i64 og),V.d (D.int .i64 ep),V.d (D.int .i64 co),V.d (D.sl accSh na zas),V.d (D.sl mrkSh nm' ms),V.d (D.sl (Sh.agg [Sh.str,Sh.sl stepSh]) nb bs),V.d (D.sl (Sh.agg [Sh.int .i64,Sh.int .i64,Sh.sl hopSh,Sh.str,Sh.sl stepSh,Sh.int .i64,Sh.int .i64,Sh.sl hopSh,Sh.bool]) ns ss)])]) else bif orgOfId (fi 0 (ss.getD i.toNat .nilp)) (fi 1 (ss.getD i.toNat .nilp)) (fl 2 (ss.getD i.toNat .nilp)) != og then some (V.d (D.bool false),[(0,Obj.box [V.d (D.int .i64 og),V.d (D.int .i64 ep),V.d (D.int .i64 co),V.d (D.sl accSh na zas),V.d (D.sl mrkSh nm' ms),V.d (D.sl (Sh.agg [Sh.str,Sh.sl stepSh]) nb bs),V.d (D.sl (Sh.agg [Sh.int .i64,Sh.int .i64,Sh.sl hopSh,Sh.str,Sh.sl stepSh,Sh.int .i64,Sh.int .i64,Sh.sl hopSh,Sh.bool]) ns ss)])]) else bif (↑(List.length (fl 2 (ss.getD i.toNat .nilp))):Int)==0 then bif decide (co<fi 1 (ss.getD i.toNat .nilp)) then some (V.d (D.bool false),[(0,Obj.box [V.d (D.int .i64 og),V.d (D.int .i64 ep),V.d (D.int .i64 co),V.d (D.sl accSh na zas),V.d (D.sl mrkSh nm' ms),V.d (D.sl (Sh.agg [Sh.str,Sh.sl stepSh]) nb bs),V.d (D.sl (Sh.agg [Sh.int .i64,Sh.int .i64,Sh.sl hopSh,Sh.str,Sh.sl stepSh,Sh.int .i64,Sh.int .i64,Sh.sl hopSh,Sh.bool]) ns ss)])]) else bif decide (0<i) then bif decide (0≤IntKind.wrap .i64 (i - 1)∧IntKind.wrap .i64 (i - 1)<(ss.length:Int)) then bif decide (List.length (fl 2 (List.getD ss (Int.toNat (IntKind.wrap .i64 (i - 1))) D.nilp))≤1000000) then bif decide (0≤idCmp (fi 0 (List.getD ss (Int.toNat (IntKind.wrap .i64 (i - 1))) D.nilp)) (fi 1 (List.getD ss (Int.toNat (IntKind.wrap .i64 (i - 1))) D.nilp)) (fi 0 (ss.getD i.toNat .nilp)) (fi 1 (ss.getD i.toNat .nilp)) (fl 2 (List.getD ss (Int.toNat (IntKind.wrap .i64 (i - 1))) D.nilp)) (fl 2 (ss.getD i.toNat .nilp))) then some (V.d (D.bool false),[(0,Obj.box [V.d (D.int .i64 og),V.d (D.int .i64 ep),V.d (D.int .i64 co),V.d (D.sl accSh na zas),V.d (D.sl mrkSh nm' ms),V.d (D.sl (Sh.agg [Sh.str,Sh.sl stepSh]) nb bs),V.d (D.sl (Sh.agg [Sh.int .i64,Sh.int .i64,Sh.sl hopSh,Sh.str,Sh.sl stepSh,Sh.int .i64,Sh.int .i64,Sh.sl hopSh,Sh.bool]) ns ss)])]) else Tree.outG (resume Md (callN Md (m+40)) n j 0 c25 { fr:=frame 74 [(0,V.ptr 0 0),(16,V.d (D.sl (Sh.agg [Sh.int .i64,Sh.int .i64,Sh.sl hopSh,Sh.str,Sh.sl stepSh,Sh.int .i64,Sh.int .i64,Sh.sl hopSh,Sh.bool]) ns ss)),(17,V.d (D.int .i64 (ss.length:Int))),(18,V.d (D.int .i64 (IntKind.wrap .i64 (i+1))))],ob:=[(0,Obj.box [V.d (D.int .i64 og),V.d (D.int .i64 ep),V.d (D.int .i64 co),V.d (D.sl accSh na zas),V.d (D.sl mrkSh nm' ms),V.d (D.sl (Sh.agg [Sh.str,Sh.sl stepSh]) nb bs),V.d (D.sl (Sh.agg [Sh.int .i64,Sh.int .i64,Sh.sl hopSh,Sh.str,Sh.sl stepSh,Sh.int .i64,Sh.int .i64,Sh.sl hopSh,Sh.bool]) ns ss)])] }) else none else none else Tree.outG (resume Md (callN Md (m+40)) n j 0 c25 { fr:=frame 74 [(0,V.ptr 0 0),(16,V.d (D.sl (Sh.agg [Sh.int .i64,Sh.int .i64,Sh.sl hopSh,Sh.str,Sh.sl stepSh,Sh.int .i64,Sh.int .i64,Sh.sl hopSh,Sh.bool]) ns ss)),(17,V.d (D.int .i64 (ss.length:Int))),(18,V.d (D.int .i64 (IntKind.wrap .i64 (i+1))))],ob:=[(0,Obj.box [V.d (D.int .i64 og),V.d (D.int .i64 ep),V.d (D.int .i64 co),V.d (D.sl accSh na zas),V.d (D.sl mrkSh nm' ms),V.d (D.sl (Sh.agg [Sh.str,Sh.sl stepSh]) nb bs),V.d (D.sl (Sh.agg [Sh.int .i64,Sh.int .i64,Sh.sl hopSh,Sh.str,Sh.sl stepSh,Sh.int .i64,Sh.int .i64,Sh.sl hopSh,Sh.bool]) ns ss)])] }) else bif decide (0<i) then bif decide (0≤IntKind.wrap .i64 (i - 1)∧IntKind.wrap .i64 (i - 1)<(ss.length:Int)) then bif decide (List.length (fl 2 (List.getD ss (Int.toNat (IntKind.wrap .i64 (i - 1))) D.nilp))≤1000000) then bif decide (0≤idCmp (fi 0 (List.getD ss (Int.toNat (IntKind.wrap .i64 (i - 1))) D.nilp)) (fi 1 (List.getD ss (Int.toNat (IntKind.wrap .i64 (i - 1))) D.nilp)) (fi 0 (ss.getD i.toNat .nilp)) (fi 1 (ss.getD i.toNat .nilp)) (fl 2 (List.getD ss (Int.toNat (IntKind.wrap .i64 (i - 1))) D.nilp)) (fl 2 (ss.getD i.toNat .nilp))) then some (V.d (D.bool false),[(0,Obj.box [V.d (D.int .i64 og),V.d (D.int .i64 ep),V.d (D.int .i64 co),V.d (D.sl accSh na zas),V.d (D.sl mrkSh nm' ms),V.d (D.sl (Sh.agg [Sh.str,Sh.sl stepSh]) nb bs),V.d (D.sl (Sh.agg [Sh.int .i64,Sh.int .i64,Sh.sl hopSh,Sh.str,Sh.sl stepSh,Sh.int .i64,Sh.int .i64,Sh.sl hopSh,Sh.bool]) ns ss)])]) else Tree.outG (resume Md (callN Md (m+40)) n j 0 c25 { fr:=frame 74 [(0,V.ptr 0 0),(16,V.d (D.sl (Sh.agg [Sh.int .i64,Sh.int .i64,Sh.sl hopSh,Sh.str,Sh.sl stepSh,Sh.int .i64,Sh.int .i64,Sh.sl hopSh,Sh.bool]) ns ss)),(17,V.d (D.int .i64 (ss.length:Int))),(18,V.d (D.int .i64 (IntKind.wrap .i64 (i+1))))],ob:=[(0,Obj.box [V.d (D.int .i64 og),V.d (D.int .i64 ep),V.d (D.int .i64 co),V.d (D.sl accSh na zas),V.d (D.sl mrkSh nm' ms),V.d (D.sl (Sh.agg [Sh.str,Sh.sl stepSh]) nb bs),V.d (D.sl (Sh.agg [Sh.int .i64,Sh.int .i64,Sh.sl hopSh,Sh.str,Sh.sl stepSh,Sh.int .i64,Sh.int .i64,Sh.sl hopSh,Sh.bool]) ns ss)])] }) else none else none else Tree.outG (resume Md (callN Md (m+40)) n j 0 c25 { fr:=frame 74 [(0,V.ptr 0 0),(16,V.d (D.sl (Sh.agg [Sh.int .i64,Sh.int .i64,Sh.sl hopSh,Sh.str,Sh.sl stepSh,Sh.int .i64,Sh.int .i64,Sh.sl hopSh,Sh.bool]) ns ss)),(17,V.d (D.int .i64 (ss.length:Int))),(18,V.d (D.int .i64 (IntKind.wrap .i64 (i+1))))],ob:=[(0,Obj.box [V.d (D.int .i64 og),V.d (D.int .i64 ep),V.d (D.int .i64 co),V.d (D.sl accSh na zas),V.d (D.sl mrkSh nm' ms),V.d (D.sl (Sh.agg [Sh.str,Sh.sl stepSh]) nb bs),V.d (D.sl (Sh.agg [Sh.int .i64,Sh.int .i64,Sh.sl hopSh,Sh.str,Sh.sl stepSh,Sh.int .i64,Sh.int .i64,Sh.sl hopSh,Sh.bool]) ns ss)])] }) else none else none else none else some (V.d (D.bool true),[(0,Obj.box [V.d (D.int .i64 og),V.d (D.int .i64 ep),V.d (D.int .i64 co),V.d (D.sl accSh na zas),V.d (D.sl mrkSh nm' ms),V.d (D.sl (Sh.agg [Sh.str,Sh.sl stepSh]) nb bs),V.d (D.sl (Sh.agg [Sh.int .i64,Sh.int .i64,Sh.sl hopSh,Sh.str,Sh.sl stepSh,Sh.int .i64,Sh.int .i64,Sh.sl hopSh,Sh.bool]) ns ss)])]):=by kernel_rfl
def wantM(s:Int):Int:=fi 0 (List.getD [D.int .i64 0,D.int .i64 0,D.int .i64 1,D.int .i64 2,D.int .i64 3] s.toNat .nilp)
def keyM(rt nn:Int)(hops:List D)(k:Nat):List UInt8:=bif keyOk rt nn hops (k:Int) then keyN rt nn hops (k:Int) else []
def markM(rt nn:Int)(hops steps parts:List D)(k:Nat):D:= .agg [.str (keyM rt nn hops k),.int .i64 (fi 0 (steps.getD k .nilp)),.str (fs 1 (steps.getD k .nilp)),.int .i64 (fi 2 (steps.getD k .nilp)),.int .i64 (wantM (fi 0 (parts.getD k .nilp)))]
def askM(steps parts:List D)(k:Nat):Bool:=(fs 4 (steps.getD k .nilp)==[])&&(wantM (fi 0 (parts.getD k .nilp)) != 0)
def stepM(rt nn:Int)(hops steps parts:List D)(kv:List (D×D))(k:Nat):List (D×D):=bif askM steps parts k then kvSet (.str (keyM rt nn hops k)) (markM rt nn hops steps parts k) kv else kv
def partRun(steps parts:List D)(k:Nat):Bool:=decide (k<steps.length)&&(!(fs 4 (steps.getD k .nilp)==[])||(decide (0≤fi 0 (parts.getD k .nilp)∧fi 0 (parts.getD k .nilp)<5)))
def foldM(rt nn:Int)(hops steps parts:List D):Nat→Nat→List (D×D)→List (D×D)
 | 0,_,kv=>kv
 | d+1,k,kv=>foldM rt nn hops steps parts d (k+1) (stepM rt nn hops steps parts kv k)
theorem lp104b(m n j:Nat)(ns:Bool)(ss:List D)(i:Int)(rt nn st wy:Int)(n1 n2 n3 fc:Bool)(hops steps parts:List D)(nm:List UInt8)(hl:parts.length≤1000000)(hr: ∀q,q<parts.length→partRun steps parts q=true):
  ∀d k h kv,k+d=parts.length→d<h→(resumeL Md (callN Md (m+40)) n [(0,j),(1,h)] c26 (v104b ns ss kv i rt nn st wy n1 n2 n3 fc hops steps parts nm (k:Nat))).eval
   =(resume Md (callN Md (m+40)) n j 0 c26 (v104 ns ss (foldM rt nn hops steps parts d k kv) (IntKind.wrap .i64 (i+1)))).eval:=by
 intro d
 induction d with
 | zero=>
  intro k h kv hk hh
  cases h with
  | zero=>omega
  | succ h=>
   have:k=parts.length:=by omega
   subst this
   rw [y104b]
   exact cf (dec_end _)
 | succ d ih=>
  intro k h kv hk hh
  cases h with
  | zero=>omega
  | succ h=>
   have hlt:k<parts.length:=by omega
   have hp:=hr k hlt
   unfold partRun at hp
   simp only [Bool.and_eq_true,decide_eq_true_eq] at hp
   have next:=ih (k+1) h (stepM rt nn hops steps parts kv k) (by omega) (by omega)
   rw [y104b]
   simp only [Int.toNat_natCast,wrap_up hlt hl]
   refine (ct (dec_lt hlt)).trans ((ct (dec_ix hlt)).trans ((ct (dec_ix hp.1)).trans ?_))
   have hf: ∀kv',stepM rt nn hops steps parts kv k=kv'→foldM rt nn hops steps parts (d+1) k kv=foldM rt nn hops steps parts d (k+1) kv':=fun kv' e=>by rw [←e];rfl
   cases h1:(fs 4 (steps.getD k .nilp)==[])
   ·have hs:stepM rt nn hops steps parts kv k=kv:=by
     unfold stepM askM
     rw [h1];rfl
    rw [hf _ hs]
    rw [hs] at next
    exact next
   ·have h2:=hp.2
    rw [h1] at h2
    refine (ct rfl).trans ?_
    refine (ct h2).trans ?_
    cases h3:(wantM (fi 0 (parts.getD k .nilp)) != 0)
    ·have hs:stepM rt nn hops steps parts kv k=kv:=by
      unfold stepM askM
      rw [h1,h3];rfl
     rw [hf _ hs]
     rw [hs] at next
     exact (cf h3).trans next
    ·have hs:stepM rt nn hops steps parts kv k=kvSet (.str (keyM rt nn hops k)) (markM rt nn hops steps parts k) kv:=by
      unfold stepM askM
      rw [h1,h3];rfl
     rw [hf _ hs]
     rw [hs] at next
     exact (ct h3).trans ((ct h2).trans next)
def sagaM(kv:List (D×D))(x:D):List (D×D):=foldM (fi 0 x) (fi 1 x) (fl 2 x) (fl 4 x) (fl 7 x) (fl 7 x).length 0 kv
def marksKV(ss:List D):List (D×D):=ss.foldl sagaM []
def sagaRun(x:D):Bool:=decide ((fl 7 x).length≤1000)&&allN (partRun (fl 4 x) (fl 7 x)) (fl 7 x).length
def marksRun(ss:List D):Bool:=decide (ss.length≤1000000)&&allN (fun i=>sagaRun (ss.getD i .nilp)) ss.length
theorem lp104(m n:Nat)(ns:Bool)(ss:List D)(hl:ss.length≤1000000)(hr: ∀i,i<ss.length→sagaRun (ss.getD i .nilp)=true)(hn:1000<n):
  ∀d i j kv,i+d=ss.length→d<j→kv=(ss.take i).foldl sagaM []→(resume Md (callN Md (m+40)) n j 0 c26 (v104 ns ss kv (i:Nat))).eval=some (.mp 832,[(832,AM.Obj.map Sh.str mrkSh (marksKV ss))]):=by
 intro d
 induction d with
 | zero=>
  intro i j kv hi hj hk
  cases j with
  | zero=>omega
  | succ j=>
   have:i=ss.length:=by omega
   subst this
   rw [List.take_length] at hk
   have hk:marksKV ss=kv:=hk.symm
   rw [y104,hk]
   exact cf (dec_end _)
 | succ d ih=>
  intro i j kv hi hj hk
  cases j with
  | zero=>omega
  | succ j=>
   have hlt:i<ss.length:=by omega
   have hs:=hr i hlt
   unfold sagaRun at hs
   rw [Bool.and_eq_true,decide_eq_true_eq,allN_iff] at hs
   have next:=ih (i+1) j (sagaM kv (ss.getD i .nilp)) (by omega) (by omega) (by
    rw [List.take_add_one,List.getElem?_eq_getElem hlt,List.foldl_append,←hk,List.getD_eq_getElem?_getD,List.getElem?_eq_getElem hlt];rfl)
   have inner:=lp104b m n j ns ss (i:Nat) (fi 0 (ss.getD i .nilp)) (fi 1 (ss.getD i .nilp)) (fi 5 (ss.getD i .nilp)) (fi 6 (ss.getD i .nilp)) (fn 2 (ss.getD i .nilp)) (fn 4 (ss.getD i .nilp)) (fn 7 (ss.getD i .nilp)) (fb 8 (ss.getD i .nilp)) (fl 2 (ss.getD i .nilp)) (fl 4 (ss.getD i .nilp)) (fl 7 (ss.getD i .nilp)) (fs 3 (ss.getD i .nilp)) (by omega) hs.2 _ 0 n kv (Nat.zero_add _) (by omega)
   rw [wrap_up hlt hl] at inner
   rw [y104]
   simp only [Int.toNat_natCast]
   exact (ct (dec_lt hlt)).trans ((ct (dec_ix hlt)).trans (inner.trans next))
theorem rn104(m n:Nat)(ns:Bool)(ss:List D)(hr:marksRun ss=true)(hn:ss.length+1000<n):(enterM Md (callN Md (m+40)) n c26 [.d (.sl sgSh ns ss)] []).eval=some (.mp 832,[(832,AM.Obj.map Sh.str mrkSh (marksKV ss))]):=by
 unfold marksRun at hr
 rw [Bool.and_eq_true,decide_eq_true_eq,allN_iff] at hr
 rw [x104]
 exact lp104 m n ns ss hr.1 hr.2 (by omega) ss.length 0 n [] (by omega) (by omega) rfl
def C104(args:List V)(ob:Obs):Tree (V×Obs):=
 match args,ob with
 | [.d (.sl e _ ss)],[]=>match Sh.beq e sgSh with
  | true=> .ite (marksRun ss) (fun _=> .ret (.mp 832,[(832,AM.Obj.map Sh.str mrkSh (marksKV ss))])) (fun _=> .stuck)
  | false=> .stuck
 | _,_=> .stuck
theorem fn104{P:Program}(hm:P.follows .mixedOrders=true)(h0:EnvOK P Md):FnOK P 26 C104:=FnOK.run hm h0 fun args ob r h=>by
 unfold C104 at h
 split at h
 ·rename_i e ns ss
  split at h
  ·rename_i hb
   have hb0:=Sh.beq_eq hb
   subst hb0
   obtain ⟨hg,h'⟩:=eval_guard h
   clear h
   cases h'
   exact ⟨(ss.length+1001)+1,by rw [callN_succ (fn:=c26) rfl];exact rn104 (ss.length+961) (ss.length+1001) ns ss hg (by omega)⟩
  ·cases h
 ·cases h
def cmpS(x y:D):Int:=idCmp (fi 0 x) (fi 1 x) (fi 0 y) (fi 1 y) (fl 2 x) (fl 2 y)
def sgLess(ss:List D)(i:Nat):Bool:=decide (i=0)|| !decide (0≤cmpS (ss.getD (i - 1) .nilp) (ss.getD i .nilp))
def mayS(x:D):Bool:=mayOk (fi 0 x) (fi 1 x) (fi 5 x) (fi 6 x) (fb 8 x) (fl 2 x) (fl 4 x) (fl 7 x) (fs 3 x)
def sagaAt(og co:Int)(ss:List D)(i:Nat):Bool:=mayS (ss.getD i .nilp)&&(!(orgOfId (fi 0 (ss.getD i .nilp)) (fi 1 (ss.getD i .nilp)) (fl 2 (ss.getD i .nilp)) != og)&&(!((((fl 2 (ss.getD i .nilp)).length:Int)==0)&&decide (co<fi 1 (ss.getD i .nilp)))&&sgLess ss i))
def sagasOk(og co:Int)(ss:List D):Bool:= !decide (24<(ss.length:Int))&&allN (sagaAt og co ss) ss.length
def sgIn(x:D):Bool:=decide ((fl 4 x).length≤1000000)&&(decide ((fl 7 x).length≤1000000)&&decide ((fl 2 x).length≤1000000))
theorem sg_at{α:Type}{ss:List D}{i:Nat}(hi:i<ss.length)(hl:ss.length≤1000000)(hp: ∀k,k<ss.length→(fl 2 (ss.getD k .nilp)).length≤1000000)(a b:Option α):
  (bif decide (0<(i:Int)) then bif decide (0≤IntKind.wrap .i64 ((i:Int) - 1)∧IntKind.wrap .i64 ((i:Int) - 1)<(ss.length:Int)) then bif decide ((fl 2 (ss.getD (Int.toNat (IntKind.wrap .i64 ((i:Int) - 1))) .nilp)).length≤1000000) then
   bif decide (0≤idCmp (fi 0 (ss.getD (Int.toNat (IntKind.wrap .i64 ((i:Int) - 1))) .nilp)) (fi 1 (ss.getD (Int.toNat (IntKind.wrap .i64 ((i:Int) - 1))) .nilp)) (fi 0 (ss.getD i .nilp)) (fi 1 (ss.getD i .nilp)) (fl 2 (ss.getD (Int.toNat (IntKind.wrap .i64 ((i:Int) - 1))) .nilp)) (fl 2 (ss.getD i .nilp))) then a else b else none else none else b)
   =bif sgLess ss i then b else a:=by
 unfold sgLess cmpS
 by_cases h0:i=0
 ·subst h0
  refine (cf (decide_eq_false (by omega))).trans ?_
  rfl
 ·rw [decide_eq_false h0,wrap_pred (by omega) (by omega)]
  refine (ct (decide_eq_true (by omega))).trans ?_
  refine (ct (dec_ix (show i - 1<ss.length by omega))).trans ?_
  rw [Int.toNat_natCast]
  refine (ct (decide_eq_true (hp _ (by omega)))).trans ?_
  generalize decide (0≤idCmp (fi 0 (ss.getD (i - 1) .nilp)) (fi 1 (ss.getD (i - 1) .nilp)) (fi 0 (ss.getD i .nilp)) (fi 1 (ss.getD i .nilp)) (fl 2 (ss.getD (i - 1) .nilp)) (fl 2 (ss.getD i .nilp)))=c
  cases c <;> rfl
abbrev HS(og ep co:Int)(na nm' nb ns:Bool)(zas ms bs ss:List D):AM.Obj:= .box [.d (.int .i64 og),.d (.int .i64 ep),.d (.int .i64 co),.d (.sl accSh na zas),.d (.sl mrkSh nm' ms),.d (.sl defSh nb bs),.d (.sl sgSh ns ss)]
theorem scan_boolV(p:Nat→Bool)(o:Obs)(n:Nat):scan (fun i=> !p i) (fun _=>((.d (.bool false),o):V×Obs)) (.d (.bool true),o) n 0=(.d (.bool (allN p n)),o):=by
 unfold allN
 have: ∀k i,scan (fun i=> !p i) (fun _=>((.d (.bool false),o):V×Obs)) (.d (.bool true),o) k i=(.d (.bool (scan (fun i=> !p i) (fun _=>false) true k i)),o):=by
  intro k
  induction k with
  | zero=>intro i;rfl
  | succ k ih=>
   intro i
   simp only [scan]
   cases p i
   ·rfl
   ·exact ih (i+1)
 exact this n 0
theorem rn103(m n:Nat)(og ep co:Int)(na nm' nb ns:Bool)(zas ms bs ss:List D)(hr:allN (fun i=>sgIn (ss.getD i .nilp)) ss.length=true)(hn:30≤n):
  (enterM Md (callN Md (m+40)) n c25 [.ptr 0 0] [(0,HS og ep co na nm' nb ns zas ms bs ss)]).outG=some (.d (.bool (sagasOk og co ss)),[(0,HS og ep co na nm' nb ns zas ms bs ss)]):=by
 rw [allN_iff] at hr
 have h4: ∀k,k<ss.length→(fl 4 (ss.getD k .nilp)).length≤1000000∧(fl 7 (ss.getD k .nilp)).length≤1000000∧(fl 2 (ss.getD k .nilp)).length≤1000000:=fun k hk=>by
  have:=hr k hk
  unfold sgIn at this
  simpa only [Bool.and_eq_true,decide_eq_true_eq] using this
 refine (x103 m n og ep co na nm' nb ns zas ms bs ss).trans ?_
 unfold sagasOk
 by_cases h1:24<(ss.length:Int)
 ·rw [decide_eq_true h1];rfl
 ·rw [decide_eq_false h1]
  refine (cf rfl).trans ?_
  have hl:ss.length≤1000000:=by omega
  have:=scan_loop (fun j i=>(resume Md (callN Md (m+40)) n j 0 c25 (v103 og ep co na nm' nb ns zas ms bs ss (i:Nat))).outG) ss.length (fun i=> !sagaAt og co ss i) (fun _=>((.d (.bool false),[(0,HS og ep co na nm' nb ns zas ms bs ss)]):V×Obs)) (.d (.bool true),[(0,HS og ep co na nm' nb ns zas ms bs ss)])
   (fun j i hi=> ?_) (fun j=> ?_) ss.length 0 n (by omega) (by omega)
  ·refine this.trans ?_
   rw [scan_boolV]
   rfl
  ·rw [y103]
   simp only [Int.toNat_natCast,wrap_up hi hl]
   refine (ct (dec_lt hi)).trans ((ct (dec_ix hi)).trans ((ct (decide_eq_true (h4 i hi).1)).trans ((ct (decide_eq_true (h4 i hi).2.1)).trans ?_)))
   rw [sg_at hi hl (fun k hk=>(h4 k hk).2.2)]
   unfold sagaAt mayS
   cases mayOk (fi 0 (ss.getD i .nilp)) (fi 1 (ss.getD i .nilp)) (fi 5 (ss.getD i .nilp)) (fi 6 (ss.getD i .nilp)) (fb 8 (ss.getD i .nilp)) (fl 2 (ss.getD i .nilp)) (fl 4 (ss.getD i .nilp)) (fl 7 (ss.getD i .nilp)) (fs 3 (ss.getD i .nilp))
   ·rfl
   ·cases (orgOfId (fi 0 (ss.getD i .nilp)) (fi 1 (ss.getD i .nilp)) (fl 2 (ss.getD i .nilp)) != og)
    ·cases (((fl 2 (ss.getD i .nilp)).length:Int)==0)
     ·cases sgLess ss i <;> rfl
     ·cases decide (co<fi 1 (ss.getD i .nilp))
      ·cases sgLess ss i <;> rfl
      ·rfl
    ·rfl
  ·rw [y103]
   exact cf (dec_end _)
def C103(args:List V)(ob:Obs):Tree (V×Obs):=
 match args,ob with
 | [.ptr p q],[(k,.box [.d (.int .i64 og),.d (.int .i64 ep),.d (.int .i64 co),.d (.sl ea na zas),.d (.sl em nm ms),.d (.sl eb nb bs),.d (.sl es ns ss)])]=>
  match at00 p q&&(Nat.beq k 0&&(Sh.beq ea accSh&&(Sh.beq em mrkSh&&(Sh.beq eb defSh&&Sh.beq es sgSh)))) with
  | true=> .ite (allN (fun i=>sgIn (ss.getD i .nilp)) ss.length) (fun _=> .ret (.d (.bool (sagasOk og co ss)),[(k,.box [.d (.int .i64 og),.d (.int .i64 ep),.d (.int .i64 co),.d (.sl ea na zas),.d (.sl em nm ms),.d (.sl eb nb bs),.d (.sl es ns ss)])])) (fun _=> .stuck)
  | false=> .stuck
 | _,_=> .stuck
theorem fn103{P:Program}(hm:P.follows .mixedOrders=true)(h0:EnvOK P Md):FnOK P 25 C103:=FnOK.runG hm h0 fun args ob r h=>by
 unfold C103 at h
 split at h
 ·rename_i p q k og ep co ea na zas em nm ms eb nb bs es ns ss
  split at h
  ·rename_i hb
   simp only [Bool.and_eq_true] at hb
   obtain ⟨hb1,hb2,hb3,hb4,hb5,hb6⟩:=hb
   obtain ⟨rfl,rfl⟩:=at00_eq hb1
   have hb2:=Nat.eq_of_beq_eq_true hb2
   have hb3:=Sh.beq_eq hb3
   have hb4:=Sh.beq_eq hb4
   have hb5:=Sh.beq_eq hb5
   have hb6:=Sh.beq_eq hb6
   subst hb2 hb3 hb4 hb5 hb6
   obtain ⟨hg,h⟩:=eval_guard h
   cases h
   exact ⟨40+1,by rw [callN_succ (fn:=c25) rfl];exact rn103 0 40 og ep co na nm nb ns zas ms bs ss hg (by omega)⟩
  ·cases h
 ·cases h
def Mg:Env:=(Md.genAt 26 C104).genAt 25 C103
theorem okMg{P:Program}(hm:P.follows .mixedOrders=true)(h:EnvOK P Md):EnvOK P Mg:=(h.genAt (fn104 hm h)).genAt (fn103 hm h)
theorem x51(m n:Nat)(og ep co:Int)(na nm' nb ns:Bool)(zas ms bs ss:List D):Tree.out (enterM Mg (callN Mg (m+40)) n c8 [.d (.agg [.int .i64 og,.int .i64 ep,.int .i64 co,.sl accSh na zas,.sl mrkSh nm' ms,.sl defSh nb bs,.sl sgSh ns ss])] [])=bif decide (og<0) then some [D.int .i64 230] else bif decide (16≤og) then some [D.int .i64 230] else bif decide (ep<0) then some [D.int .i64 230] else bif decide (1000000000<ep) then some [D.int .i64 230] else bif decide (co<0) then some [D.int .i64 230] else bif decide (999999<co) then some [D.int .i64 230] else bif (bif ledOk zas ms then (0:Int) else (2:Int)) != 0 then some [D.int .i64 230] else bif (bif bookOk bs then (0:Int) else (2:Int)) != 0 then some [D.int .i64 230] else bif allN (fun (i:Nat) ↦ sgIn (ss.getD i .nilp)) (ss.length) then bif !sagasOk og co ss then some [D.int .i64 230] else bif marksRun ss then bif (↑(List.length (marksKV ss)):Int) != (ms.length:Int) then some [D.int .i64 230] else Tree.out (resume Mg (callN Mg (m+40)) n n 0 c8 { fr:=frame 78 [(4,V.mp 3584),(65,V.d (D.sl mrkSh nm' ms)),(66,V.d (D.int .i64 (ms.length:Int))),(67,V.d (D.int .i64 0))],ob:=[(128,Obj.box [V.d (D.int .i64 og),V.d (D.int .i64 ep),V.d (D.int .i64 co),V.d (D.sl accSh na zas),V.d (D.sl mrkSh nm' ms),V.d (D.sl (Sh.agg [Sh.str,Sh.sl stepSh]) nb bs),V.d (D.sl (Sh.agg [Sh.int .i64,Sh.int .i64,Sh.sl hopSh,Sh.str,Sh.sl stepSh,Sh.int .i64,Sh.int .i64,Sh.sl hopSh,Sh.bool]) ns ss)]),(640,Obj.box [V.d (D.int .i64 og),V.d (D.int .i64 ep),V.d (D.int .i64 co),V.d (D.sl accSh na zas),V.d (D.sl mrkSh nm' ms),V.d (D.sl (Sh.agg [Sh.str,Sh.sl stepSh]) nb bs),V.d (D.sl (Sh.agg [Sh.int .i64,Sh.int .i64,Sh.sl hopSh,Sh.str,Sh.sl stepSh,Sh.int .i64,Sh.int .i64,Sh.sl hopSh,Sh.bool]) ns ss)]),(3584,AM.Obj.map Sh.str mrkSh (marksKV ss))] }) else none else none:=by kernel_rfl
def v51(og ep co:Int)(na nm' nb ns:Bool)(zas ms bs ss:List D)(kv:List (D×D))(i:Int):St:= { fr:=frame 78 [(4,V.mp 3584),(65,V.d (D.sl mrkSh nm' ms)),(66,V.d (D.int .i64 (ms.length:Int))),(67,V.d (D.int .i64 i))],ob:=[(128,HS og ep co na nm' nb ns zas ms bs ss),(640,HS og ep co na nm' nb ns zas ms bs ss),(3584,AM.Obj.map Sh.str mrkSh kv)] }
theorem y51(m n j:Nat)(og ep co:Int)(na nm' nb ns:Bool)(zas ms bs ss:List D)(kv:List (D×D))(i:Int):Go.AM.Tree.out (resume Mg (callN Mg (m+40)) n (j+1) 0 c8 (v51 og ep co na nm' nb ns zas ms bs ss kv i))=bif decide (i<(↑(List.length ms):Int)) then bif decide ((0:Int)≤i∧i<(↑(List.length ms):Int)) then bif !(fs (0:Nat) (kvGet (D.str (fs (0:Nat) (List.getD ms (Int.toNat i) D.nilp))) (D.agg [D.str [],D.int IntKind.i64 (0:Int),D.str [],D.int IntKind.i64 (0:Int),D.int IntKind.i64 (0:Int)]) kv)==fs (0:Nat) (List.getD ms (Int.toNat i) D.nilp)&&(fi (1:Nat) (kvGet (D.str (fs (0:Nat) (List.getD ms (Int.toNat i) D.nilp))) (D.agg [D.str [],D.int IntKind.i64 (0:Int),D.str [],D.int IntKind.i64 (0:Int),D.int IntKind.i64 (0:Int)]) kv)==fi (1:Nat) (List.getD ms (Int.toNat i) D.nilp)&&(fs (2:Nat) (kvGet (D.str (fs (0:Nat) (List.getD ms (Int.toNat i) D.nilp))) (D.agg [D.str [],D.int IntKind.i64 (0:Int),D.str [],D.int IntKind.i64 (0:Int),D.int IntKind.i64 (0:Int)]) kv)==fs (2:Nat) (List.getD ms (Int.toNat i) D.nilp)&&(fi (3:Nat) (kvGet (D.str (fs (0:Nat) (List.getD ms (Int.toNat i) D.nilp))) (D.agg [D.str [],D.int IntKind.i64 (0:Int),D.str [],D.int IntKind.i64 (0:Int),D.int IntKind.i64 (0:Int)]) kv)==fi (3:Nat) (List.getD ms (Int.toNat i) D.nilp)&&(fi (4:Nat) (kvGet (D.str (fs (0:Nat) (List.getD ms (Int.toNat i) D.nilp))) (D.agg [D.str [],D.int IntKind.i64 (0:Int),D.str [],D.int IntKind.i64 (0:Int),D.int IntKind.i64 (0:Int)]) kv)==fi (4:Nat) (List.getD ms (Int.toNat i) D.nilp)&&true))))) then some [D.int IntKind.i64 (230:Int)] else Tree.out (resume Mg (callN Mg (m+(40:Nat))) n j (0:Nat) c8 { fr:=frame (78:Nat) [((4:Nat),V.mp (3584:Nat)),((65:Nat),V.d (D.sl mrkSh nm' ms)),((66:Nat),V.d (D.int IntKind.i64 (↑(List.length ms):Int))),((67:Nat),V.d (D.int IntKind.i64 (IntKind.wrap IntKind.i64 (i+(1:Int)))))],ob:=[((128:Nat),Obj.box [V.d (D.int IntKind.i64 og),V.d (D.int IntKind.i64 ep),V.d (D.int IntKind.i64 co),V.d (D.sl accSh na zas),V.d (D.sl mrkSh nm' ms),V.d (D.sl (Sh.agg [Sh.str,Sh.sl stepSh]) nb bs),V.d (D.sl (Sh.agg [Sh.int IntKind.i64,Sh.int IntKind.i64,Sh.sl hopSh,Sh.str,Sh.sl stepSh,Sh.int IntKind.i64,Sh.int IntKind.i64,Sh.sl hopSh,Sh.bool]) ns ss)]),((640:Nat),Obj.box [V.d (D.int IntKind.i64 og),V.d (D.int IntKind.i64 ep),V.d (D.int IntKind.i64 co),V.d (D.sl accSh na zas),V.d (D.sl mrkSh nm' ms),V.d (D.sl (Sh.agg [Sh.str,Sh.sl stepSh]) nb bs),V.d (D.sl (Sh.agg [Sh.int IntKind.i64,Sh.int IntKind.i64,Sh.sl hopSh,Sh.str,Sh.sl stepSh,Sh.int IntKind.i64,Sh.int IntKind.i64,Sh.sl hopSh,Sh.bool]) ns ss)]),((3584:Nat),AM.Obj.map Sh.str mrkSh kv)] }) else none else some [D.int IntKind.i64 (0:Int)]:=by kernel_rfl
def Mh:Env:=Mg.pureAt 51 true g100
theorem okMh{P:Program}(hm:P.follows .mixedOrders=true)(h5:EnvOK P F5)(h:EnvOK P Mg):EnvOK P Mh:=h.pureAt (pure100 hm h5)
def hasM(ms:List D)(key:List UInt8)(w:Int)(x:D):Bool:=decide (0≤nameIdx key ms)&&((fi 1 (ms.getD (nameIdx key ms).toNat .nilp)==fi 0 x&&(fs 2 (ms.getD (nameIdx key ms).toNat .nilp)==fs 1 x&&(fi 3 (ms.getD (nameIdx key ms).toNat .nilp)==fi 2 x&&true)))&&(fi 4 (ms.getD (nameIdx key ms).toNat .nilp)==w))
def wantR(s:Int):Int:=bif s==2 then 1 else bif s==3 then 2 else bif s==4 then 3 else 0
def askR(steps parts:List D)(k:Nat):Bool:=(fs 4 (steps.getD k .nilp)==[])&&(wantR (fi 0 (parts.getD k .nilp)) != 0)
def ownM(ms:List D)(rt nn:Int)(hops steps parts:List D)(k:Nat):Bool:=hasM ms (keyM rt nn hops k) (wantR (fi 0 (parts.getD k .nilp))) (steps.getD k .nilp)
def Mi:Env:=Mh
theorem okMi{P:Program}(h:EnvOK P Mh):EnvOK P Mi:=h
def mkEq(kv:List (D×D))(x:D):Bool:=fs 0 (kvGet (.str (fs 0 x)) zMrk kv)==fs 0 x&&(fi 1 (kvGet (.str (fs 0 x)) zMrk kv)==fi 1 x&&(fs 2 (kvGet (.str (fs 0 x)) zMrk kv)==fs 2 x&&(fi 3 (kvGet (.str (fs 0 x)) zMrk kv)==fi 3 x&&(fi 4 (kvGet (.str (fs 0 x)) zMrk kv)==fi 4 x&&true))))
def marksOk(ms ss:List D):Bool:= !(((marksKV ss).length:Int) != (ms.length:Int))&&allN (fun i=>mkEq (marksKV ss) (ms.getD i .nilp)) ms.length
def mayP(og ep co:Int)(zas ms bs ss:List D):Bool:= !decide (og<0)&&(!decide (16≤og)&&(!decide (ep<0)&&(!decide (1000000000<ep)&&(!decide (co<0)&&(!decide (999999<co)&&(ledOk zas ms&&(bookOk bs&&(sagasOk og co ss&&marksOk ms ss))))))))
theorem led_len{zas ms:List D}(h:ledOk zas ms=true):ms.length≤500:=by
 unfold ledOk at h
 simp only [Bool.and_eq_true,Bool.not_eq_true',decide_eq_false_iff_not] at h
 omega
theorem rn51(m n:Nat)(og ep co:Int)(na nm' nb ns:Bool)(zas ms bs ss:List D)(hs:allN (fun i=>sgIn (ss.getD i .nilp)) ss.length=true)(hr:sagasOk og co ss=true→marksRun ss=true)(hn:600≤n):
  (enterM Mg (callN Mg (m+40)) n c8 [.d (.agg [.int .i64 og,.int .i64 ep,.int .i64 co,.sl accSh na zas,.sl mrkSh nm' ms,.sl defSh nb bs,.sl sgSh ns ss])] []).out=some [.int .i64 (bif mayP og ep co zas ms bs ss then 0 else 230)]:=by
 rw [x51]
 unfold mayP
 cases decide (og<0)
 ·cases decide (16≤og)
  ·cases decide (ep<0)
   ·cases decide (1000000000<ep)
    ·cases decide (co<0)
     ·cases decide (999999<co)
      ·cases hl:ledOk zas ms
       ·rfl
       ·cases bookOk bs
        ·rfl
        ·refine (ct hs).trans ?_
         cases hk:sagasOk og co ss
         ·rfl
         ·refine (ct (hr hk)).trans ?_
          have hm:=led_len hl
          unfold marksOk
          cases (((marksKV ss).length:Int) != (ms.length:Int))
          ·have:=scan_loop (fun j i=>(resume Mg (callN Mg (m+40)) n j 0 c8 (v51 og ep co na nm' nb ns zas ms bs ss (marksKV ss) (i:Nat))).out) ms.length (fun i=> !mkEq (marksKV ss) (ms.getD i .nilp)) (fun _=>[D.int .i64 230]) [.int .i64 0]
            (fun j i hi=> ?_) (fun j=> ?_) ms.length 0 n (by omega) (by omega)
           ·refine this.trans ?_
            rw [scan_bool]
            rfl
           ·rw [y51]
            simp only [Int.toNat_natCast,wrap_up hi (show ms.length≤1000000 by omega)]
            exact (ct (dec_lt hi)).trans (ct (dec_ix hi))
           ·rw [y51]
            exact cf (dec_end _)
          ·rfl
      ·rfl
     ·rfl
    ·rfl
   ·rfl
  ·rfl
 ·rfl
def ownB(ms:List D)(rt nn:Int)(hops steps parts:List D)(k:Nat):Bool:=bif askR steps parts k then ownM ms rt nn hops steps parts k else true
def one(b:Bool):Nat:=bif b then 1 else 0
def cntP(steps parts:List D):Nat→Nat→Nat
 | 0,_=>0
 | d+1,k=>one (askR steps parts k)+cntP steps parts d (k+1)
def allP(ms:List D)(rt nn:Int)(hops steps parts:List D):Nat→Nat→Bool
 | 0,_=>true
 | d+1,k=>ownB ms rt nn hops steps parts k&&allP ms rt nn hops steps parts d (k+1)
def cmpR(x y:D):Int:=refCmp (fi 0 x) (fi 1 x) (fl 2 x) (fi 0 y) (fi 1 y) (fl 2 y)
def sgLessR(ss:List D)(i:Nat):Bool:=decide (i=0)|| !decide (0≤cmpR (ss.getD (i - 1) .nilp) (ss.getD i .nilp))
def sagaAtR(og co:Int)(ss:List D)(i:Nat):Bool:=mayS (ss.getD i .nilp)&&(!(orgOfId (fi 0 (ss.getD i .nilp)) (fi 1 (ss.getD i .nilp)) (fl 2 (ss.getD i .nilp)) != og)&&(!((((fl 2 (ss.getD i .nilp)).length:Int)==0)&&decide (co<fi 1 (ss.getD i .nilp)))&&sgLessR ss i))
def partsR(ms:List D)(x:D):Bool:=allP ms (fi 0 x) (fi 1 x) (fl 2 x) (fl 4 x) (fl 7 x) (fl 7 x).length 0
def cntRs(x:D):Nat:=cntP (fl 4 x) (fl 7 x) (fl 7 x).length 0
def cntS(ss:List D):Nat→Nat→Nat
 | 0,_=>0
 | d+1,i=>cntRs (ss.getD i .nilp)+cntS ss d (i+1)
def allS(ms:List D)(og co:Int)(ss:List D):Nat→Nat→Bool
 | 0,_=>true
 | d+1,i=>sagaAtR og co ss i&&(partsR ms (ss.getD i .nilp)&&allS ms og co ss d (i+1))
def mayR(og ep co:Int)(zas ms bs ss:List D):Bool:= !decide (og<0)&&(!decide (15<og)&&(!decide (ep<0)&&(!decide (1000000000<ep)&&(!decide (co<0)&&(!decide (999999<co)&&(!decide (24<(ss.length:Int))&&(ledOk zas ms&&(bookOk bs&&(allS ms og co ss ss.length 0&&(((0+cntS ss ss.length 0:Nat):Int)==(ms.length:Int)))))))))))
def isDig(c:UInt8):Bool:=decide (48≤c.toNat)&&decide (c.toNat≤57)
theorem dig_chr{d:Nat}(h:d<10):isDig (UInt8.ofNat (48+d))=true:=by
 have: ∀x:Fin 10,isDig (UInt8.ofNat (48+x.1))=true:=by decide
 exact this ⟨d,h⟩
theorem digF_dig: ∀k n,∀c∈digF k n,isDig c=true
 | 0,n,c,h=>by
  simp only [digF,List.mem_singleton] at h
  subst h
  exact dig_chr (Nat.mod_lt _ (by omega))
 | k+1,n,c,h=>by
  simp only [digF] at h
  split at h
  ·rename_i hn
   rw [List.mem_singleton] at h
   subst h
   exact dig_chr hn
  ·rcases List.mem_append.1 h with h | h
   ·exact digF_dig k _ c h
   ·rw [List.mem_singleton] at h
    subst h
    exact dig_chr (Nat.mod_lt _ (by omega))
theorem digN_dig(n:Nat): ∀c∈digN n,isDig c=true:=digF_dig 6 n
def valN(l:List UInt8):Nat:=l.foldl (fun a c=>10*a+(c.toNat - 48)) 0
theorem chr_val{d:Nat}(h:d<10):(UInt8.ofNat (48+d)).toNat - 48=d:=by
 have: ∀x:Fin 10,(UInt8.ofNat (48+x.1)).toNat - 48=x.1:=by decide
 exact this ⟨d,h⟩
theorem digF_val: ∀k n,n<10 ^ (k+1)→valN (digF k n)=n
 | 0,n,h=>by
  have h:n<10:=by simpa using h
  simp only [digF,valN,List.foldl_cons,List.foldl_nil,Nat.mod_eq_of_lt h,chr_val h]
  omega
 | k+1,n,h=>by
  simp only [digF]
  split
  ·rename_i hn
   simp only [valN,List.foldl_cons,List.foldl_nil,chr_val hn]
   omega
  ·have ih:=digF_val k (n / 10) (by rw [Nat.pow_succ] at h;omega)
   unfold valN at ih ⊢
   rw [List.foldl_append,ih,List.foldl_cons,List.foldl_nil,chr_val (Nat.mod_lt _ (by omega))]
   omega
theorem digN_inj{a b:Nat}(ha:a<10000000)(hb:b<10000000)(h:digN a=digN b):a=b:=by
 have e1:=digF_val 6 a (by omega)
 have e2:=digF_val 6 b (by omega)
 unfold digN at h
 rw [←e1,←e2,h]
theorem cut_dig: ∀{a b:List UInt8} {c d:UInt8} {x y:List UInt8},(∀z∈a,isDig z=true)→(∀z∈b,isDig z=true)→isDig c=false→isDig d=false→a++c :: x=b++d :: y→a=b∧c=d∧x=y
 | [],[],c,d,x,y,_,_,_,_,h=>by
  simp only [List.nil_append,List.cons.injEq] at h
  exact ⟨rfl,h.1,h.2⟩
 | [],z :: b,c,d,x,y,_,hb,hc,_,h=>by
  simp only [List.nil_append,List.cons_append,List.cons.injEq] at h
  have:=hb z (by simp)
  rw [←h.1,hc] at this;cases this
 | z :: a,[],c,d,x,y,ha,_,_,hd,h=>by
  simp only [List.nil_append,List.cons_append,List.cons.injEq] at h
  have:=ha z (by simp)
  rw [h.1,hd] at this;cases this
 | z :: a,u :: b,c,d,x,y,ha,hb,hc,hd,h=>by
  simp only [List.cons_append,List.cons.injEq] at h
  obtain ⟨h1,h2,h3⟩:=cut_dig (fun z hz=>ha z (by simp [hz])) (fun z hz=>hb z (by simp [hz])) hc hd h.2
  exact ⟨by rw [h.1,h1],h2,h3⟩
def keyT(es:List D)(k:Int):List UInt8:=es.flatMap hopTxt++35 :: digN k.toNat
theorem keyT_cons(h:D)(es:List D)(k:Int):keyT (h :: es) k=47 :: (digN (fi 0 h).toNat++64 :: (digN (fi 1 h).toNat++keyT es k)):=by
 simp only [keyT,List.flatMap_cons,hopTxt,List.append_assoc,List.cons_append,List.nil_append]
theorem keyT_head(es:List D)(k:Int): ∃c x,keyT es k=c :: x∧isDig c=false:=by
 cases es with
 | nil=>exact ⟨35,_,rfl,by decide⟩
 | cons h es=>exact ⟨47,_,keyT_cons h es k,by decide⟩
def hopP(h:D):Int×Int:=(fi 0 h,fi 1 h)
def HopB(es:List D):Prop:= ∀h∈es,(0≤fi 0 h∧fi 0 h<1000000)∧0≤fi 1 h∧fi 1 h<1000000
theorem keyT_inj: ∀{es es':List D} {k k':Int},HopB es→HopB es'→0≤k∧k<1000000→0≤k'∧k'<1000000→keyT es k=keyT es' k'→es.map hopP=es'.map hopP∧k=k'
 | [],[],k,k',_,_,hk,hk',h=>by
  simp only [keyT,List.flatMap_nil,List.nil_append,List.cons.injEq,true_and] at h
  have:=digN_inj (by omega) (by omega) h
  exact ⟨rfl,by omega⟩
 | [],h' :: es',k,k',_,_,_,_,h=>by
  rw [keyT_cons] at h
  simp only [keyT,List.flatMap_nil,List.nil_append,List.cons.injEq] at h
  exact absurd h.1 (by decide)
 | h0 :: es,[],k,k',_,_,_,_,h=>by
  rw [keyT_cons] at h
  simp only [keyT,List.flatMap_nil,List.nil_append,List.cons.injEq] at h
  exact absurd h.1 (by decide)
 | h0 :: es,h1 :: es',k,k',hb,hb',hk,hk',h=>by
  rw [keyT_cons,keyT_cons,List.cons.injEq] at h
  obtain ⟨e1,-,h2⟩:=cut_dig (digN_dig _) (digN_dig _) (by decide) (by decide) h.2
  obtain ⟨c,x,hc,hc'⟩:=keyT_head es k
  obtain ⟨d,y,hd,hd'⟩:=keyT_head es' k'
  rw [hc,hd] at h2
  obtain ⟨e2,e3,e4⟩:=cut_dig (digN_dig _) (digN_dig _) hc' hd' h2
  have hr:keyT es k=keyT es' k':=by rw [hc,hd,e3,e4]
  obtain ⟨i1,i2⟩:=keyT_inj (fun z hz=>hb z (by simp [hz])) (fun z hz=>hb' z (by simp [hz])) hk hk' hr
  have b0:=hb h0 (by simp)
  have b1:=hb' h1 (by simp)
  have q1:=digN_inj (by omega) (by omega) e1
  have q2:=digN_inj (by omega) (by omega) e2
  refine ⟨?_,i2⟩
  rw [List.map_cons,List.map_cons,i1]
  unfold hopP
  rw [show fi 0 h0=fi 0 h1 by omega,show fi 1 h0=fi 1 h1 by omega]
theorem keyN_T(r q:Int)(es:List D)(k:Int):keyN r q es k=digN r.toNat++46 :: (digN q.toNat++keyT es k):=by
 simp only [keyN,showN,keyT,List.append_assoc,List.cons_append,List.nil_append]
theorem keyN_inj{r q r' q' k k':Int}{es es':List D}(h1:idOk r q es=true)(h2:idOk r' q' es'=true)(hk:0≤k∧k<8)(hk':0≤k'∧k'<8)(h:keyN r q es k=keyN r' q' es' k'):
  r=r'∧q=q'∧es.map hopP=es'.map hopP∧k=k':=by
 obtain ⟨a1,-,a3,a4,-⟩:=idOk_iff.1 h1
 obtain ⟨c1,-,c3,c4,-⟩:=idOk_iff.1 h2
 rw [keyN_T,keyN_T] at h
 obtain ⟨e1,-,h2⟩:=cut_dig (digN_dig _) (digN_dig _) (by decide) (by decide) h
 obtain ⟨c,x,hc,hc'⟩:=keyT_head es k
 obtain ⟨d,y,hd,hd'⟩:=keyT_head es' k'
 rw [hc,hd] at h2
 obtain ⟨e2,e3,e4⟩:=cut_dig (digN_dig _) (digN_dig _) hc' hd' h2
 have hr:keyT es k=keyT es' k':=by rw [hc,hd,e3,e4]
 obtain ⟨i1,i2⟩:=keyT_inj (es:=es) (es':=es')
  (fun z hz=>by obtain ⟨i,hi,rfl⟩:=mem_getD hz;have:=a4 i hi;omega)
  (fun z hz=>by obtain ⟨i,hi,rfl⟩:=mem_getD hz;have:=c4 i hi;omega) (by omega) (by omega) hr
 have q1:=digN_inj (by omega) (by omega) e1
 have q2:=digN_inj (by omega) (by omega) e2
 exact ⟨by omega,by omega,i1,i2⟩
theorem scan_shift{α:Type}(p:Nat→Bool)(hit:Nat→α)(fin:α): ∀k i,scan p hit fin k (i+1)=scan (fun j=>p (j+1)) (fun j=>hit (j+1)) fin k i
 | 0,_=>rfl
 | k+1,i=>by
  simp only [scan]
  rw [scan_shift p hit fin k (i+1)]
def hopsC:List D→List D→Int
 | [],[]=>0
 | [],_ :: _=> -1
 | _ :: _,[]=>1
 | x :: a,y :: b=>bif fi 0 x != fi 0 y then cmpI (fi 0 x) (fi 0 y) else bif fi 1 x != fi 1 y then cmpI (fi 1 x) (fi 1 y) else hopsC a b
theorem cmpI_ne{a b:Int}:(cmpI a b != 0)=(a != b):=by
 unfold cmpI
 by_cases h:a=b
 ·subst h;simp
 ·have:(a != b)=true:=bne_iff_ne.2 h
  rw [this]
  by_cases h1:a<b
  ·rw [decide_eq_true h1];rfl
  ·rw [decide_eq_false h1,decide_eq_true (show b<a by omega)];rfl
theorem scan_congr{α:Type}{p p':Nat→Bool}{hit hit':Nat→α}{fin:α}: ∀k i,(∀j,i≤j→j<i+k→p j=p' j)→(∀j,i≤j→j<i+k→hit j=hit' j)→scan p hit fin k i=scan p' hit' fin k i
 | 0,_,_,_=>rfl
 | k+1,i,h1,h2=>by
  simp only [scan]
  rw [h1 i (by omega) (by omega),h2 i (by omega) (by omega),scan_congr k (i+1) (fun j a b=>h1 j (by omega) (by omega)) (fun j a b=>h2 j (by omega) (by omega))]
theorem cmpHops_eq: ∀a b:List D,cmpHops a b=hopsC a b
 | [],[]=>rfl
 | [],y :: b=>by
  unfold cmpHops
  simp only [List.length_nil,scan,hopsC]
  rw [decide_eq_true (by rw [List.length_cons];omega)];rfl
 | x :: a,[]=>by
  unfold cmpHops
  simp only [List.length_cons,scan,hopsC]
  rfl
 | x :: a,y :: b=>by
  have ih:=cmpHops_eq a b
  unfold cmpHops at ih ⊢
  simp only [List.length_cons,scan]
  rw [decide_eq_false (show¬(((b.length+1:Nat):Int)≤((0:Nat):Int)) by omega)]
  have e:cmpHop ((x :: a).getD 0 .nilp) ((y :: b).getD 0 .nilp)=cmpHop x y:=rfl
  rw [e,scan_shift]
  have hs:scan (fun j=>decide (((b.length+1:Nat):Int)≤((j+1:Nat):Int))||cmpHop ((x :: a).getD (j+1) .nilp) ((y :: b).getD (j+1) .nilp) != 0) (fun j=>bif decide (((b.length+1:Nat):Int)≤((j+1:Nat):Int)) then 1 else cmpHop ((x :: a).getD (j+1) .nilp) ((y :: b).getD (j+1) .nilp))
    (bif decide (((a.length+1:Nat):Int)<((b.length+1:Nat):Int)) then -1 else 0) a.length 0=hopsC a b:=by
   rw [←ih]
   have hd: ∀j:Nat,decide (((b.length+1:Nat):Int)≤((j+1:Nat):Int))=decide ((b.length:Int)≤(j:Int)):=fun j=>by
    by_cases h:b.length≤j
    ·rw [decide_eq_true (by omega),decide_eq_true (by omega)]
    ·rw [decide_eq_false (by omega),decide_eq_false (by omega)]
   have hf:decide (((a.length+1:Nat):Int)<((b.length+1:Nat):Int))=decide ((a.length:Int)<(b.length:Int)):=by
    by_cases h:a.length<b.length
    ·rw [decide_eq_true (by omega),decide_eq_true (by omega)]
    ·rw [decide_eq_false (by omega),decide_eq_false (by omega)]
   rw [hf]
   refine scan_congr _ _ (fun j _ _=> ?_) (fun j _ _=> ?_)
   ·rw [hd];rfl
   ·rw [hd];rfl
  rw [hs]
  simp only [hopsC,Bool.false_or,cond_false]
  have hne:(cmpHop x y != 0)=(fi 0 x != fi 0 y||fi 1 x != fi 1 y):=by
   unfold cmpHop
   rw [cmpI_ne]
   cases h:(fi 0 x != fi 0 y)
   ·simp only [cond_false,cmpI_ne,Bool.false_or]
   ·simp only [cond_true,cmpI_ne,h,Bool.true_or]
  rw [hne]
  unfold cmpHop
  rw [cmpI_ne]
  cases (fi 0 x != fi 0 y) <;> cases (fi 1 x != fi 1 y) <;> rfl
theorem numb_cmp(a b:Int):numb a b=cmpI a b:=rfl
theorem refHops_eq: ∀a b:List D,scan (fun i=>(fi 0 (a.getD i .nilp) != fi 0 (b.getD i .nilp))||(fi 1 (a.getD i .nilp) != fi 1 (b.getD i .nilp)))
   (fun i=>bif fi 0 (a.getD i .nilp) != fi 0 (b.getD i .nilp) then numb (fi 0 (a.getD i .nilp)) (fi 0 (b.getD i .nilp)) else numb (fi 1 (a.getD i .nilp)) (fi 1 (b.getD i .nilp)))
   (numb a.length b.length) (min a.length b.length) 0=hopsC a b
 | [],[]=>rfl
 | [],y :: b=>by
  simp only [List.length_nil,Nat.zero_min,scan,hopsC]
  unfold numb
  rw [decide_eq_true (by rw [List.length_cons];omega)];rfl
 | x :: a,[]=>by
  simp only [List.length_nil,Nat.min_zero,scan,hopsC]
  unfold numb
  rw [decide_eq_false (by rw [List.length_cons];omega),decide_eq_true (by rw [List.length_cons];omega)];rfl
 | x :: a,y :: b=>by
  have ih:=refHops_eq a b
  have hmin:min (x :: a).length (y :: b).length=min a.length b.length+1:=by simp only [List.length_cons];omega
  have hn:numb ((x :: a).length:Int) ((y :: b).length:Int)=numb (a.length:Int) (b.length:Int):=by
   unfold numb
   have h1:decide (((x :: a).length:Int)<((y :: b).length:Int))=decide ((a.length:Int)<(b.length:Int)):=by
    simp only [List.length_cons]
    by_cases h:a.length<b.length
    ·rw [decide_eq_true (by omega),decide_eq_true (by omega)]
    ·rw [decide_eq_false (by omega),decide_eq_false (by omega)]
   have h2:decide (((y :: b).length:Int)<((x :: a).length:Int))=decide ((b.length:Int)<(a.length:Int)):=by
    simp only [List.length_cons]
    by_cases h:b.length<a.length
    ·rw [decide_eq_true (by omega),decide_eq_true (by omega)]
    ·rw [decide_eq_false (by omega),decide_eq_false (by omega)]
   rw [h1,h2]
  rw [hmin,hn]
  simp only [scan,hopsC]
  rw [scan_shift]
  have hs: ∀(fin:Int) (k:Nat),scan (fun j=>(fi 0 ((x :: a).getD (j+1) .nilp) != fi 0 ((y :: b).getD (j+1) .nilp))||(fi 1 ((x :: a).getD (j+1) .nilp) != fi 1 ((y :: b).getD (j+1) .nilp)))
   (fun j=>bif fi 0 ((x :: a).getD (j+1) .nilp) != fi 0 ((y :: b).getD (j+1) .nilp) then numb (fi 0 ((x :: a).getD (j+1) .nilp)) (fi 0 ((y :: b).getD (j+1) .nilp)) else numb (fi 1 ((x :: a).getD (j+1) .nilp)) (fi 1 ((y :: b).getD (j+1) .nilp))) fin k 0
   =scan (fun i=>(fi 0 (a.getD i .nilp) != fi 0 (b.getD i .nilp))||(fi 1 (a.getD i .nilp) != fi 1 (b.getD i .nilp)))
   (fun i=>bif fi 0 (a.getD i .nilp) != fi 0 (b.getD i .nilp) then numb (fi 0 (a.getD i .nilp)) (fi 0 (b.getD i .nilp)) else numb (fi 1 (a.getD i .nilp)) (fi 1 (b.getD i .nilp))) fin k 0:=fun fin k=>rfl
  rw [hs,ih]
  have g0:(x :: a).getD 0 .nilp=x:=rfl
  have g1:(y :: b).getD 0 .nilp=y:=rfl
  rw [g0,g1,numb_cmp,numb_cmp]
  cases (fi 0 x != fi 0 y) <;> cases (fi 1 x != fi 1 y) <;> rfl
def idC(r q:Int)(es:List D)(r' q':Int)(es':List D):Int:=bif r != r' then cmpI r r' else bif q != q' then cmpI q q' else hopsC es es'
theorem refCmp_eq(r q:Int)(es:List D)(r' q':Int)(es':List D):refCmp r q es r' q' es'=idC r q es r' q' es':=by
 unfold refCmp idC
 rw [refHops_eq]
 rfl
theorem idCmp_eq(r q:Int)(es:List D)(r' q':Int)(es':List D):idCmp r q r' q' es es'=idC r q es r' q' es':=by
 unfold idCmp idC
 rw [cmpI_ne,cmpI_ne,cmpHops_eq]
 cases (r != r')
 ·cases (q != q')
  ·simp only [cond_false]
   cases h:(hopsC es es' != 0)
   ·have:hopsC es es'=0:=by simpa using h
    rw [this];rfl
   ·rfl
  ·rfl
 ·rfl
theorem cmpI_lt{a b:Int}:cmpI a b<0↔a<b:=by
 unfold cmpI
 by_cases h1:a<b
 ·rw [decide_eq_true h1];simp [h1]
 ·rw [decide_eq_false h1]
  cases decide (b<a) <;> simp [h1]
theorem hopsC_zero: ∀{a b:List D},hopsC a b=0↔a.map hopP=b.map hopP
 | [],[]=>by simp [hopsC]
 | [],_ :: _=>by simp [hopsC]
 | _ :: _,[]=>by simp [hopsC]
 | x :: a,y :: b=>by
  have ih:= @hopsC_zero a b
  simp only [hopsC,List.map_cons,List.cons.injEq,hopP,Prod.mk.injEq]
  cases h0:(fi 0 x != fi 0 y)
  ·have e0:fi 0 x=fi 0 y:=by simpa using h0
   cases h1:(fi 1 x != fi 1 y)
   ·have e1:fi 1 x=fi 1 y:=by simpa using h1
    simp only [cond_false]
    rw [ih]
    exact ⟨fun h=>⟨⟨e0,e1⟩,h⟩,fun h=>h.2⟩
   ·simp only [cond_false,cond_true]
    have n1:fi 1 x≠fi 1 y:=bne_iff_ne.1 h1
    have:= @cmpI_ne (fi 1 x) (fi 1 y)
    rw [h1] at this
    exact ⟨fun h=>absurd h (bne_iff_ne.1 this),fun h=>absurd h.1.2 n1⟩
  ·simp only [cond_true]
   have n0:fi 0 x≠fi 0 y:=bne_iff_ne.1 h0
   have:= @cmpI_ne (fi 0 x) (fi 0 y)
   rw [h0] at this
   exact ⟨fun h=>absurd h (bne_iff_ne.1 this),fun h=>absurd h.1.1 n0⟩
theorem hopsC_trans: ∀{a b c:List D},hopsC a b<0→hopsC b c<0→hopsC a c<0
 | [],[],_,h,_=>by simp [hopsC] at h
 | [],_ :: _,[],_,h=>by simp [hopsC] at h
 | [],_ :: _,_ :: _,_,_=>by simp [hopsC]
 | _ :: _,[],_,h,_=>by simp [hopsC] at h
 | _ :: _,_ :: _,[],_,h=>by simp [hopsC] at h
 | x :: a,y :: b,z :: c,h1,h2=>by
  simp only [hopsC] at h1 h2 ⊢
  by_cases e0:fi 0 x=fi 0 y
  ·by_cases f0:fi 0 y=fi 0 z
   ·rw [show (fi 0 x != fi 0 y)=false by simp [e0]] at h1
    rw [show (fi 0 y != fi 0 z)=false by simp [f0]] at h2
    rw [show (fi 0 x != fi 0 z)=false by simp [e0,f0]]
    simp only [cond_false] at h1 h2 ⊢
    by_cases e1:fi 1 x=fi 1 y
    ·by_cases f1:fi 1 y=fi 1 z
     ·rw [show (fi 1 x != fi 1 y)=false by simp [e1]] at h1
      rw [show (fi 1 y != fi 1 z)=false by simp [f1]] at h2
      rw [show (fi 1 x != fi 1 z)=false by simp [e1,f1]]
      exact hopsC_trans h1 h2
     ·rw [show (fi 1 y != fi 1 z)=true from bne_iff_ne.2 f1] at h2
      rw [show (fi 1 x != fi 1 z)=true from bne_iff_ne.2 (by rw [e1];exact f1),e1]
      exact h2
    ·rw [show (fi 1 x != fi 1 y)=true from bne_iff_ne.2 e1] at h1
     have g1:=cmpI_lt.1 h1
     by_cases f1:fi 1 y=fi 1 z
     ·rw [show (fi 1 x != fi 1 z)=true from bne_iff_ne.2 (by omega)]
      exact cmpI_lt.2 (by omega)
     ·rw [show (fi 1 y != fi 1 z)=true from bne_iff_ne.2 f1] at h2
      have g2:=cmpI_lt.1 h2
      rw [show (fi 1 x != fi 1 z)=true from bne_iff_ne.2 (by omega)]
      exact cmpI_lt.2 (by omega)
   ·rw [show (fi 0 y != fi 0 z)=true from bne_iff_ne.2 f0] at h2
    rw [show (fi 0 x != fi 0 z)=true from bne_iff_ne.2 (by rw [e0];exact f0),e0]
    exact h2
  ·rw [show (fi 0 x != fi 0 y)=true from bne_iff_ne.2 e0] at h1
   have g1:=cmpI_lt.1 h1
   by_cases f0:fi 0 y=fi 0 z
   ·rw [show (fi 0 x != fi 0 z)=true from bne_iff_ne.2 (by omega)]
    exact cmpI_lt.2 (by omega)
   ·rw [show (fi 0 y != fi 0 z)=true from bne_iff_ne.2 f0] at h2
    have g2:=cmpI_lt.1 h2
    rw [show (fi 0 x != fi 0 z)=true from bne_iff_ne.2 (by omega)]
    exact cmpI_lt.2 (by omega)
theorem may_parts{rt nn st wy:Int}{fc:Bool}{hops steps parts:List D}{nm:List UInt8}(h:mayOk rt nn st wy fc hops steps parts nm=true):
  parts.length=steps.length∧steps.length≤8∧ ∀k,k<parts.length→0≤fi 0 (parts.getD k .nilp)∧fi 0 (parts.getD k .nilp)≤4:=by
 by_cases h7:st=7
 ·subst h7
  have hid:=mayOk_id h
  unfold mayOk at h
  rw [hid] at h
  have: ¬(0<(steps.length:Int)+(parts.length:Int)):=by
   intro hp
   rw [decide_eq_true hp] at h
   cases hn:(nm==[]) <;> simp [hn] at h
  exact ⟨by omega,by omega,fun k hk=>by omega⟩
 ·have hg:=mayOk_good h h7
  refine ⟨hg.len,hg.few,fun k hk=> ?_⟩
  have:=hg.sane k hk
  unfold p47 at this
  simp only [Bool.and_eq_true,decide_eq_true_eq] at this
  exact ⟨this.1,this.2.1⟩
theorem want_eq{s:Int}(h0:0≤s)(h4:s≤4):wantM s=wantR s:=by
 have:s=0∨s=1∨s=2∨s=3∨s=4:=by omega
 rcases this with rfl | rfl | rfl | rfl | rfl <;> rfl
theorem ask_eq{steps parts:List D}{k:Nat}(h0:0≤fi 0 (parts.getD k .nilp))(h4:fi 0 (parts.getD k .nilp)≤4):askM steps parts k=askR steps parts k:=by
 unfold askM askR
 rw [want_eq h0 h4]
def marksFrom(x:D)(k d:Nat):List D:=((List.range' k d).filter (askM (fl 4 x) (fl 7 x))).map (markM (fi 0 x) (fi 1 x) (fl 2 x) (fl 4 x) (fl 7 x))
def sagaL(x:D):List D:=marksFrom x 0 (fl 7 x).length
def marksL(ss:List D):List D:=ss.flatMap sagaL
def setM(kv:List (D×D))(m:D):List (D×D):=kvSet (.str (fs 0 m)) m kv
def prM(m:D):D×D:=(.str (fs 0 m),m)
theorem foldM_eq(x:D): ∀d k kv,foldM (fi 0 x) (fi 1 x) (fl 2 x) (fl 4 x) (fl 7 x) d k kv=(marksFrom x k d).foldl setM kv
 | 0,_,_=>rfl
 | d+1,k,kv=>by
  rw [foldM,foldM_eq x d (k+1)]
  unfold marksFrom stepM
  rw [List.range'_succ,List.filter_cons]
  cases askM (fl 4 x) (fl 7 x) k <;> rfl
theorem marksKV_eq(ss:List D):marksKV ss=(marksL ss).foldl setM []:=by
 unfold marksKV marksL
 rw [List.foldl_flatMap]
 congr 1
 funext kv x
 exact foldM_eq x _ 0 kv
theorem kvSet_new{s:List UInt8}{v:D}: ∀{l:List D},(∀m∈l,fs 0 m≠s)→kvSet (.str s) v (l.map prM)=l.map prM++[(.str s,v)]
 | [],_=>rfl
 | m :: l,h=>by
  have h1:(s==fs 0 m)=false:=beq_eq_false_iff_ne.2 fun e=>h m (by simp) e.symm
  simp only [List.map_cons,prM,kvSet,keyEq,h1,cond_false,List.cons_append]
  congr 1
  exact kvSet_new fun m' hm=>h m' (by simp [hm])
theorem setM_all: ∀{l l0:List D},(l0++l).Pairwise (fun a b=>fs 0 a≠fs 0 b)→l.foldl setM (l0.map prM)=(l0++l).map prM
 | [],l0,_=>by simp
 | m :: l,l0,h=>by
  have h1: ∀a∈l0,fs 0 a≠fs 0 m:=fun a ha=>(List.pairwise_append.1 h).2.2 a ha m (by simp)
  rw [List.foldl_cons]
  have e:setM (l0.map prM) m=(l0++[m]).map prM:=by
   unfold setM
   rw [kvSet_new h1,List.map_append];rfl
  rw [e,setM_all (by simpa using h)]
  simp
def mark5(m:D):List UInt8×Int×List UInt8×Int×Int:=(fs 0 m,fi 1 m,fs 2 m,fi 3 m,fi 4 m)
theorem kvGet_map(s:List UInt8)(z:D): ∀l:List D,(∃m∈l,fs 0 m=s∧kvGet (.str s) z (l.map prM)=m)∨(∀m∈l,fs 0 m≠s)∧kvGet (.str s) z (l.map prM)=z
 | []=> .inr ⟨by simp,rfl⟩
 | m :: l=>by
  simp only [List.map_cons,prM,kvGet,keyEq]
  cases h:(s==fs 0 m)
  ·have hne:fs 0 m≠s:=fun e=>by rw [e] at h;simp at h
   rw [cond_false]
   rcases kvGet_map s z l with ⟨m',hm,e1,e2⟩ | ⟨h1,h2⟩
   ·exact .inl ⟨m',by simp [hm],e1,e2⟩
   ·exact .inr ⟨fun a ha=>by rcases List.mem_cons.1 ha with rfl | ha;exact hne;exact h1 a ha,h2⟩
  ·exact .inl ⟨m,by simp,(beq_iff_eq.1 h).symm,rfl⟩
theorem pw_ne: ∀{l:List D},l.Pairwise (fun a b=>fs 0 a≠fs 0 b)→ ∀{a b:D},a∈l→b∈l→a≠b→fs 0 a≠fs 0 b
 | [],_,_,_,h,_,_=>by cases h
 | x :: l,hp,a,b,ha,hb,hne=>by
  obtain ⟨h1,h2⟩:=List.pairwise_cons.1 hp
  rcases List.mem_cons.1 ha with rfl | ha'
  ·rcases List.mem_cons.1 hb with rfl | hb'
   ·exact absurd rfl hne
   ·exact h1 b hb'
  ·rcases List.mem_cons.1 hb with rfl | hb'
   ·exact (h1 a ha').symm
   ·exact pw_ne h2 ha' hb' hne
theorem mkEq_iff{l:List D}{x:D}(hp:l.Pairwise (fun a b=>fs 0 a≠fs 0 b))(h4:fi 4 x≠0):mkEq (l.map prM) x=true↔mark5 x∈l.map mark5:=by
 unfold mkEq
 simp only [Bool.and_eq_true,beq_iff_eq,and_true]
 rcases kvGet_map (fs 0 x) zMrk l with ⟨m,hm,e1,e2⟩ | ⟨h1,h2⟩
 ·rw [e2,List.mem_map]
  constructor
  ·rintro ⟨a,b,c,d,e⟩
   exact ⟨m,hm,by simp only [mark5,a,b,c,d,e]⟩
  ·rintro ⟨m',hm',e⟩
   simp only [mark5,Prod.mk.injEq] at e
   have:m'=m:=by
    by_cases he:m'=m
    ·exact he
    ·exact absurd (e.1.trans e1.symm) (pw_ne hp hm' hm he)
   subst this
   exact e
 ·rw [h2,List.mem_map]
  constructor
  ·rintro ⟨-,-,-,-,e⟩
   exact absurd e.symm h4
  ·rintro ⟨m',hm',e⟩
   simp only [mark5,Prod.mk.injEq] at e
   exact absurd e.1 (h1 m' hm')
theorem rising_inj{es:List D}(h:Rising es){i j:Nat}(hi:i<es.length)(hj:j<es.length)(e:fs 0 (es.getD i .nilp)=fs 0 (es.getD j .nilp)):i=j:=by
 have key: ∀a b:Nat,a<b→b<es.length→fs 0 (es.getD a .nilp)≠fs 0 (es.getD b .nilp):=fun a b hab hb he=>by
  have:=rising_lt h (d:=b - a - 1) (a:=a) (by omega)
  rw [show a+(b - a - 1)+1=b by omega,he,less_irr] at this
  cases this
 by_cases h1:i<j
 ·exact absurd e (key i j h1 hj)
 ·by_cases h2:j<i
  ·exact absurd e.symm (key j i h2 hi)
  ·omega
theorem hasM_iff{ms:List D}(h:Rising ms)(key:List UInt8)(w:Int)(x:D):hasM ms key w x=true↔(key,fi 0 x,fs 1 x,fi 2 x,w)∈ms.map mark5:=by
 unfold hasM
 simp only [Bool.and_eq_true,beq_iff_eq,and_true,decide_eq_true_eq,List.mem_map]
 constructor
 ·rintro ⟨h0,⟨h1,h2,h3⟩,h4⟩
  obtain ⟨p1,p2,-⟩:=idxOf_pos (show 0≤idxOf (fun x=>fs 0 x==key) ms from h0)
  rw [beq_iff_eq] at p2
  exact ⟨_,getD_mem p1,by simp only [mark5,Prod.mk.injEq];exact ⟨p2,h1,h2,h3,h4⟩⟩
 ·rintro ⟨y,hy,e⟩
  simp only [mark5,Prod.mk.injEq] at e
  obtain ⟨j,hj,rfl⟩:=mem_getD hy
  have h0:0≤nameIdx key ms:=idx_iff.2 ⟨j,hj,e.1⟩
  obtain ⟨p1,p2,-⟩:=idxOf_pos (show 0≤idxOf (fun x=>fs 0 x==key) ms from h0)
  rw [beq_iff_eq] at p2
  have:(idxOf (fun x=>fs 0 x==key) ms).toNat=j:=rising_inj h p1 hj (p2.trans e.1.symm)
  have:(nameIdx key ms).toNat=j:=this
  rw [this]
  exact ⟨h0,⟨e.2.1,e.2.2.1,e.2.2.2.1⟩,e.2.2.2.2⟩
theorem sub_len{α:Type} [BEq α] [LawfulBEq α]: ∀{A B:List α},A.Nodup→(∀a∈A,a∈B)→B.length≤A.length→ ∀b∈B,b∈A
 | [],B,_,_,hl,b,hb=>by
  cases B with
  | nil=>exact hb
  | cons c B=>simp at hl
 | a :: A,B,hn,hs,hl,b,hb=>by
  have hn:=List.nodup_cons.1 hn
  have ha:=hs a (by simp)
  by_cases he:b=a
  ·rw [he];simp
  ·have hlen:=List.length_erase_of_mem ha
   have:=sub_len (A:=A) (B:=B.erase a) hn.2 (fun c hc=>(List.mem_erase_of_ne (fun h=>hn.1 (by rw [←h];exact hc))).2 (hs c (by simp [hc]))) (by
    rw [hlen];rw [List.length_cons] at hl;omega) b ((List.mem_erase_of_ne he).2 hb)
   exact List.mem_cons_of_mem _ this
theorem idC_trans{a b c x y z:Int}{l m n:List D}(h1:idC a x l b y m<0)(h2:idC b y m c z n<0):idC a x l c z n<0:=by
 unfold idC at h1 h2 ⊢
 by_cases e0:a=b
 ·subst e0
  rw [show (a != a)=false by simp,cond_false] at h1
  by_cases f0:a=c
  ·subst f0
   rw [show (a != a)=false by simp,cond_false] at h2 ⊢
   by_cases e1:x=y
   ·subst e1
    rw [show (x != x)=false by simp,cond_false] at h1
    by_cases f1:x=z
    ·subst f1
     rw [show (x != x)=false by simp,cond_false] at h2 ⊢
     exact hopsC_trans h1 h2
    ·rw [show (x != z)=true from bne_iff_ne.2 f1] at h2 ⊢
     exact h2
   ·rw [show (x != y)=true from bne_iff_ne.2 e1] at h1
    have g1:=cmpI_lt.1 h1
    by_cases f1:y=z
    ·subst f1
     rw [show (x != y)=true from bne_iff_ne.2 e1]
     exact h1
    ·rw [show (y != z)=true from bne_iff_ne.2 f1] at h2
     have g2:=cmpI_lt.1 h2
     rw [show (x != z)=true from bne_iff_ne.2 (by omega)]
     exact cmpI_lt.2 (by omega)
  ·rw [show (a != c)=true from bne_iff_ne.2 f0] at h2 ⊢
   exact h2
 ·rw [show (a != b)=true from bne_iff_ne.2 e0] at h1
  have g1:=cmpI_lt.1 h1
  by_cases f0:b=c
  ·subst f0
   rw [show (a != b)=true from bne_iff_ne.2 e0]
   exact h1
  ·rw [show (b != c)=true from bne_iff_ne.2 f0] at h2
   have g2:=cmpI_lt.1 h2
   rw [show (a != c)=true from bne_iff_ne.2 (by omega)]
   exact cmpI_lt.2 (by omega)
def idcS(x y:D):Int:=idC (fi 0 x) (fi 1 x) (fl 2 x) (fi 0 y) (fi 1 y) (fl 2 y)
theorem cmpS_eq(x y:D):cmpS x y=idcS x y:=idCmp_eq _ _ _ _ _ _
theorem cmpR_eq(x y:D):cmpR x y=idcS x y:=refCmp_eq _ _ _ _ _ _
theorem sagaAt_eq(og co:Int)(ss:List D)(i:Nat):sagaAtR og co ss i=sagaAt og co ss i:=by
 unfold sagaAtR sagaAt sgLessR sgLess
 rw [cmpS_eq,cmpR_eq]
theorem sagas_lt{ss:List D}(h: ∀i,i<ss.length→sgLess ss i=true): ∀{d a:Nat},a+d+1<ss.length→idcS (ss.getD a .nilp) (ss.getD (a+d+1) .nilp)<0
 | 0,a,hd=>by
  have:=h (a+1) hd
  unfold sgLess at this
  rw [decide_eq_false (by omega),cmpS_eq] at this
  simpa using this
 | d+1,a,hd=>by
  have h1:=sagas_lt h (d:=d) (a:=a) (by omega)
  have h2:=h (a+(d+1)+1) hd
  unfold sgLess at h2
  rw [decide_eq_false (by omega),cmpS_eq] at h2
  have h2:idcS (ss.getD (a+d+1) .nilp) (ss.getD (a+(d+1)+1) .nilp)<0:=by simpa [Nat.add_assoc] using h2
  exact idC_trans h1 h2
theorem idC_ne{a b x y:Int}{l m:List D}(h:idC a x l b y m<0): ¬(a=b∧x=y∧l.map hopP=m.map hopP):=by
 rintro ⟨rfl,rfl,e⟩
 unfold idC at h
 rw [show (a != a)=false by simp,show (x != x)=false by simp,cond_false,cond_false,hopsC_zero.2 e] at h
 omega
theorem mayS_parts{x:D}(h:mayS x=true):(fl 7 x).length=(fl 4 x).length∧(fl 4 x).length≤8∧ ∀k,k<(fl 7 x).length→0≤fi 0 ((fl 7 x).getD k .nilp)∧fi 0 ((fl 7 x).getD k .nilp)≤4:=may_parts h
theorem keyM_eq{x:D}(h:mayS x=true){k:Nat}(hk:k<(fl 7 x).length):idOk (fi 0 x) (fi 1 x) (fl 2 x)=true∧keyM (fi 0 x) (fi 1 x) (fl 2 x) k=keyN (fi 0 x) (fi 1 x) (fl 2 x) k:=by
 have hid:idOk (fi 0 x) (fi 1 x) (fl 2 x)=true:=mayOk_id h
 have hp:=mayS_parts h
 refine ⟨hid,?_⟩
 unfold keyM keyOk
 rw [hid,decide_eq_true (show 0≤(k:Int) by omega),decide_eq_true (show (k:Int)<8 by omega)]
 rfl
theorem key_one{x y:D}(hx:mayS x=true)(hy:mayS y=true){k q:Nat}(hk:k<(fl 7 x).length)(hq:q<(fl 7 y).length)(e:keyM (fi 0 x) (fi 1 x) (fl 2 x) k=keyM (fi 0 y) (fi 1 y) (fl 2 y) q):
  (fi 0 x=fi 0 y∧fi 1 x=fi 1 y∧(fl 2 x).map hopP=(fl 2 y).map hopP)∧k=q:=by
 obtain ⟨i1,e1⟩:=keyM_eq hx hk
 obtain ⟨i2,e2⟩:=keyM_eq hy hq
 have p1:=mayS_parts hx
 have p2:=mayS_parts hy
 rw [e1,e2] at e
 obtain ⟨a,b,c,d⟩:=keyN_inj i1 i2 (show 0≤(k:Int)∧(k:Int)<8 by omega) (show 0≤(q:Int)∧(q:Int)<8 by omega) e
 exact ⟨⟨a,b,c⟩,by omega⟩
theorem mem_saga{x m:D}:m∈sagaL x↔ ∃k,k<(fl 7 x).length∧askM (fl 4 x) (fl 7 x) k=true∧markM (fi 0 x) (fi 1 x) (fl 2 x) (fl 4 x) (fl 7 x) k=m:=by
 unfold sagaL marksFrom
 simp only [List.mem_map,List.mem_filter,List.mem_range'_1,Nat.zero_add,Nat.zero_le,true_and,and_assoc]
theorem mark_key(rt nn:Int)(hops steps parts:List D)(k:Nat):fs 0 (markM rt nn hops steps parts k)=keyM rt nn hops k:=rfl
theorem marks_apart{ss:List D}(hm: ∀x∈ss,mayS x=true)(hl: ∀i,i<ss.length→sgLess ss i=true):(marksL ss).Pairwise (fun a b=>fs 0 a≠fs 0 b):=by
 unfold marksL
 rw [List.pairwise_flatMap]
 refine ⟨fun x hx=> ?_,?_⟩
 ·unfold sagaL marksFrom
  rw [List.pairwise_map]
  refine List.Pairwise.imp_of_mem ?_ ((List.pairwise_lt_range' (s:=0) (n:=(fl 7 x).length)).filter _)
  intro a b ha hb hab e
  rw [mark_key,mark_key] at e
  simp only [List.mem_filter,List.mem_range'_1] at ha hb
  have:=(key_one (hm x hx) (hm x hx) (by omega) (by omega) e).2
  omega
 ·rw [List.pairwise_iff_getElem]
  intro i j hi hj hij a ha b hb e
  obtain ⟨k,hk,-,rfl⟩:=mem_saga.1 ha
  obtain ⟨q,hq,-,rfl⟩:=mem_saga.1 hb
  rw [mark_key,mark_key] at e
  have h1:=(key_one (hm _ (List.getElem_mem hi)) (hm _ (List.getElem_mem hj)) hk hq e).1
  have h2:=sagas_lt hl (d:=j - i - 1) (a:=i) (by omega)
  rw [show i+(j - i - 1)+1=j by omega,List.getD_eq_getElem?_getD,List.getD_eq_getElem?_getD,List.getElem?_eq_getElem hi,List.getElem?_eq_getElem hj] at h2
  exact idC_ne h2 h1
theorem cntP_len{x:D}: ∀d k,(∀q,k≤q→q<k+d→askM (fl 4 x) (fl 7 x) q=askR (fl 4 x) (fl 7 x) q)→cntP (fl 4 x) (fl 7 x) d k=(marksFrom x k d).length
 | 0,_,_=>rfl
 | d+1,k,h=>by
  have ih:=cntP_len (x:=x) d (k+1) fun q h1 h2=>h q (by omega) (by omega)
  unfold marksFrom at ih ⊢
  rw [List.length_map] at ih ⊢
  rw [cntP,List.range'_succ,List.filter_cons,←h k (by omega) (by omega),ih]
  unfold one
  cases askM (fl 4 x) (fl 7 x) k
  ·simp
  ·simp;omega
theorem cntS_len{ss:List D}(h: ∀x∈ss,cntRs x=(sagaL x).length): ∀d i,i+d=ss.length→cntS ss d i=((ss.drop i).flatMap sagaL).length
 | 0,i,hi=>by rw [List.drop_of_length_le (by omega)];rfl
 | d+1,i,hi=>by
  have hlt:i<ss.length:=by omega
  rw [cntS,cntS_len h d (i+1) (by omega),List.drop_eq_getElem_cons hlt,List.flatMap_cons,List.length_append,List.getD_eq_getElem?_getD,List.getElem?_eq_getElem hlt]
  have:=h _ (List.getElem_mem hlt)
  simp only [Option.getD_some]
  omega
theorem allP_iff{ms:List D}{rt nn:Int}{hops steps parts:List D}: ∀d k,allP ms rt nn hops steps parts d k=true↔ ∀q,k≤q→q<k+d→ownB ms rt nn hops steps parts q=true
 | 0,k=>by simp only [allP,true_iff];intro q h1 h2;omega
 | d+1,k=>by
  rw [allP,Bool.and_eq_true,allP_iff d (k+1)]
  constructor
  ·rintro ⟨h1,h2⟩ q h3 h4
   by_cases he:q=k
   ·rw [he];exact h1
   ·exact h2 q (by omega) (by omega)
  ·intro h
   exact ⟨h k (by omega) (by omega),fun q h1 h2=>h q (by omega) (by omega)⟩
theorem allS_iff{ms:List D}{og co:Int}{ss:List D}: ∀d i,allS ms og co ss d i=true↔ ∀q,i≤q→q<i+d→sagaAtR og co ss q=true∧partsR ms (ss.getD q .nilp)=true
 | 0,i=>by simp only [allS,true_iff];intro q h1 h2;omega
 | d+1,i=>by
  rw [allS,Bool.and_eq_true,Bool.and_eq_true,allS_iff d (i+1)]
  constructor
  ·rintro ⟨h1,h2,h5⟩ q h3 h4
   by_cases he:q=i
   ·rw [he];exact ⟨h1,h2⟩
   ·exact h5 q (by omega) (by omega)
  ·intro h
   exact ⟨(h i (by omega) (by omega)).1,(h i (by omega) (by omega)).2,fun q h1 h2=>h q (by omega) (by omega)⟩
theorem led_marks{zas ms:List D}(h:ledOk zas ms=true):Rising ms∧ ∀y∈ms,fi 4 y≠0:=by
 unfold ledOk at h
 simp only [Bool.and_eq_true] at h
 have hk:=allN_iff.1 h.2.2.1
 have hk': ∀i,i<ms.length→prevLess ms i=true∧fi 4 (ms.getD i .nilp)≠0:=fun i hi=>by
  have:=hk i hi
  unfold mkOkAt at this
  simp only [Bool.and_eq_true,Bool.not_eq_true',decide_eq_false_iff_not] at this
  exact ⟨this.2.2.2.2.2,by omega⟩
 refine ⟨fun i hi=>(hk' i hi).1,fun y hy=> ?_⟩
 obtain ⟨i,hi,rfl⟩:=mem_getD hy
 exact (hk' i hi).2
theorem rising_nodup{ms:List D}(h:Rising ms):(ms.map mark5).Nodup:=by
 unfold List.Nodup
 rw [List.pairwise_map,List.pairwise_iff_getElem]
 intro i j hi hj hij e
 simp only [mark5,Prod.mk.injEq] at e
 have:=rising_inj h hi hj (by
  rw [List.getD_eq_getElem?_getD,List.getD_eq_getElem?_getD,List.getElem?_eq_getElem hi,List.getElem?_eq_getElem hj];exact e.1)
 omega
theorem core_same(og co:Int){zas ms:List D}(ss:List D)(hl:ledOk zas ms=true):
  (sagasOk og co ss&&marksOk ms ss)=(!decide (24<(ss.length:Int))&&(allS ms og co ss ss.length 0&&(((0+cntS ss ss.length 0:Nat):Int)==(ms.length:Int)))):=by
 obtain ⟨hr,h4⟩:=led_marks hl
 unfold sagasOk
 rw [Bool.and_assoc]
 cases decide (24<(ss.length:Int))
 case true=>rfl
 simp only [Bool.not_false,Bool.true_and]
 by_cases hS: ∀i,i<ss.length→sagaAt og co ss i=true
 case neg=>
  have h1:allN (sagaAt og co ss) ss.length=false:=by
   cases h:allN (sagaAt og co ss) ss.length
   ·rfl
   ·exact absurd (allN_iff.1 h) hS
  have h2:allS ms og co ss ss.length 0=false:=by
   cases h:allS ms og co ss ss.length 0
   ·rfl
   ·refine absurd (fun i hi=> ?_) hS
    rw [←sagaAt_eq]
    exact ((allS_iff _ _).1 h i (by omega) (by omega)).1
  rw [h1,h2];rfl
 rw [allN_iff.2 hS,Bool.true_and]
 have hat: ∀i,i<ss.length→mayS (ss.getD i .nilp)=true∧sgLess ss i=true:=fun i hi=>by
  have:=hS i hi
  unfold sagaAt at this
  simp only [Bool.and_eq_true] at this
  exact ⟨this.1,this.2.2.2⟩
 have hmay: ∀x∈ss,mayS x=true:=fun x hx=>by
  obtain ⟨i,hi,rfl⟩:=mem_getD hx
  exact (hat i hi).1
 have hap:=marks_apart hmay fun i hi=>(hat i hi).2
 have hask: ∀x∈ss,∀q,q<(fl 7 x).length→askM (fl 4 x) (fl 7 x) q=askR (fl 4 x) (fl 7 x) q:=fun x hx q hq=>by
  have:=(mayS_parts (hmay x hx)).2.2 q hq
  exact ask_eq this.1 this.2
 have hcnt:cntS ss ss.length 0=(marksL ss).length:=by
  have:=cntS_len (ss:=ss) (fun x hx=>cntP_len (x:=x) _ 0 fun q _ h2=>hask x hx q (by omega)) ss.length 0 (by omega)
  rw [List.drop_zero] at this
  exact this
 have hkv:marksKV ss=(marksL ss).map prM:=by
  rw [marksKV_eq]
  have:=setM_all (l:=marksL ss) (l0:=[]) (by simpa using hap)
  simpa using this
 have hnd:((marksL ss).map mark5).Nodup:=by
  unfold List.Nodup
  rw [List.pairwise_map]
  exact hap.imp fun h e=>h (by simp only [mark5,Prod.mk.injEq] at e;exact e.1)
 rw [Nat.zero_add,hcnt]
 have hall:allS ms og co ss ss.length 0=true↔ ∀b∈(marksL ss).map mark5,b∈ms.map mark5:=by
  rw [allS_iff]
  constructor
  ·intro h b hb
   obtain ⟨m,hm,rfl⟩:=List.mem_map.1 hb
   obtain ⟨x,hx,hmx⟩:=List.mem_flatMap.1 hm
   obtain ⟨k,hk,hak,rfl⟩:=mem_saga.1 hmx
   obtain ⟨i,hi,rfl⟩:=mem_getD hx
   have h1:=(h i (by omega) (by omega)).2
   unfold partsR at h1
   have h2:=(allP_iff _ _).1 h1 k (by omega) (by omega)
   unfold ownB at h2
   have h3:=hask _ hx k hk
   rw [←h3,hak,cond_true] at h2
   unfold ownM at h2
   have h5:=(hasM_iff hr _ _ _).1 h2
   have p:=(mayS_parts (hmay _ hx)).2.2 k hk
   rw [←want_eq p.1 p.2] at h5
   exact h5
  ·intro h i _ hi
   have hi:i<ss.length:=by omega
   have hx:=getD_mem hi
   refine ⟨by rw [sagaAt_eq];exact hS i hi,?_⟩
   unfold partsR
   rw [allP_iff]
   intro k _ hk
   have hk:k<(fl 7 (ss.getD i .nilp)).length:=by omega
   unfold ownB
   rw [←hask _ hx k hk]
   cases hak:askM (fl 4 (ss.getD i .nilp)) (fl 7 (ss.getD i .nilp)) k
   ·rfl
   ·rw [cond_true]
    unfold ownM
    rw [hasM_iff hr]
    have p:=(mayS_parts (hmay _ hx)).2.2 k hk
    rw [←want_eq p.1 p.2]
    exact h _ (List.mem_map.2 ⟨_,List.mem_flatMap.2 ⟨_,hx,mem_saga.2 ⟨k,hk,hak,rfl⟩⟩,rfl⟩)
 have hmk:allN (fun i=>mkEq (marksKV ss) (ms.getD i .nilp)) ms.length=true↔ ∀b∈ms.map mark5,b∈(marksL ss).map mark5:=by
  rw [allN_iff,hkv]
  constructor
  ·intro h b hb
   obtain ⟨y,hy,rfl⟩:=List.mem_map.1 hb
   obtain ⟨i,hi,rfl⟩:=mem_getD hy
   exact (mkEq_iff hap (h4 _ hy)).1 (h i hi)
  ·intro h i hi
   have hy:=getD_mem hi
   exact (mkEq_iff hap (h4 _ hy)).2 (h _ (List.mem_map.2 ⟨_,hy,rfl⟩))
 unfold marksOk
 rw [Bool.eq_iff_iff,Bool.and_eq_true,Bool.and_eq_true,hmk,hall,hkv,List.length_map]
 simp only [Bool.not_eq_true',bne_eq_false_iff_eq,beq_iff_eq]
 constructor
 ·rintro ⟨h1,h2⟩
  exact ⟨sub_len (rising_nodup hr) h2 (by simp only [List.length_map];omega),h1⟩
 ·rintro ⟨h1,h2⟩
  exact ⟨h2,sub_len hnd h1 (by simp only [List.length_map];omega)⟩
theorem may_same(og ep co:Int)(zas ms bs ss:List D):mayP og ep co zas ms bs ss=mayR og ep co zas ms bs ss:=by
 unfold mayP mayR
 have e:decide (16≤og)=decide (15<og):=by
  by_cases h:16≤og
  ·rw [decide_eq_true h,decide_eq_true (by omega)]
  ·rw [decide_eq_false h,decide_eq_false (by omega)]
 rw [e]
 cases hl:ledOk zas ms
 ·simp only [Bool.false_and,Bool.and_false]
 ·rw [core_same og co ss hl]
  generalize allS ms og co ss ss.length 0=a
  generalize (((0+cntS ss ss.length 0:Nat):Int)==(ms.length:Int))=b
  generalize (!decide (24<(ss.length:Int)))=c
  cases bookOk bs <;> cases a <;> cases b <;> cases c <;> rfl
theorem sagas_run{og co:Int}{ss:List D}(h:sagasOk og co ss=true):marksRun ss=true:=by
 unfold sagasOk at h
 simp only [Bool.and_eq_true,Bool.not_eq_true',decide_eq_false_iff_not,allN_iff] at h
 unfold marksRun
 rw [decide_eq_true (show ss.length≤1000000 by omega),Bool.true_and,allN_iff]
 intro i hi
 have:=h.2 i hi
 unfold sagaAt at this
 simp only [Bool.and_eq_true] at this
 obtain ⟨h1,h2,h3⟩:=mayS_parts this.1
 unfold sagaRun
 rw [decide_eq_true (show (fl 7 (ss.getD i .nilp)).length≤1000 by omega),Bool.true_and,allN_iff]
 intro k hk
 have:=h3 k hk
 unfold partRun
 rw [decide_eq_true (show k<(fl 4 (ss.getD i .nilp)).length by omega),decide_eq_true (show 0≤fi 0 ((fl 7 (ss.getD i .nilp)).getD k .nilp)∧fi 0 ((fl 7 (ss.getD i .nilp)).getD k .nilp)<5 by omega)]
 simp
def sgsIn(ss:List D):Bool:=allN (fun i=>sgIn (ss.getD i .nilp)) ss.length
def gMay:List D→Tree (List D)
 | [.agg [.int .i64 og,.int .i64 ep,.int .i64 co,.sl ea _na zas,.sl em _nm ms,.sl eb _nb bs,.sl es _ns ss]]=>
  match Sh.beq ea accSh&&(Sh.beq em mrkSh&&(Sh.beq eb defSh&&Sh.beq es sgSh)) with
  | true=> .ite (sgsIn ss) (fun _=> .ret [.int .i64 (bif mayR og ep co zas ms bs ss then 0 else 230)]) (fun _=> .stuck)
  | false=> .stuck
 | _=> .stuck
theorem pureM51{P:Program}(hm:P.follows .mixedOrders=true)(h0:EnvOK P Mg):PureOK P 8 gMay:=PureOK.run hm h0 fun ds rs h=>by
 unfold gMay at h
 split at h
 ·rename_i og ep' co ea na zas em nm ms eb nb bs es ns ss
  split at h
  ·rename_i hb
   simp only [Bool.and_eq_true] at hb
   obtain ⟨hb1,hb2,hb3,hb4⟩:=hb
   have hb1:=Sh.beq_eq hb1
   have hb2:=Sh.beq_eq hb2
   have hb3:=Sh.beq_eq hb3
   have hb4:=Sh.beq_eq hb4
   subst hb1 hb2 hb3 hb4
   obtain ⟨hg,h'⟩:=eval_guard h
   clear h
   cases h'
   rw [←may_same]
   exact ⟨1999+1,by rw [callN_succ (fn:=c8) rfl];exact rn51 1959 1999 og ep' co na nm nb ns zas ms bs ss hg sagas_run (by omega)⟩
  ·cases h
 ·cases h
def Mp:Env:=Mi.pureAt 8 true gMay
theorem okMp{P:Program}(hm:P.follows .mixedOrders=true)(hg:EnvOK P Mg)(h:EnvOK P Mi):EnvOK P Mp:=h.pureAt (pureM51 hm hg)
def moveSh:Sh:= .agg [.int .i64,.int .i64,.int .i64,.sl hopSh,.int .i64,.int .i64,.str,.sl stepSh]
def Mq:Env:=Mp.pureAt 43 false g15
theorem okMq{P:Program}(hm:P.follows .mixedOrders=true)(h0:EnvOK P E19)(h:EnvOK P Mp):EnvOK P Mq:=h.pureAt (pure15 hm (okF5 hm h0))
def stD(og ep co:Int)(na nm nb ns:Bool)(zas ms bs ss:List D):D:= .agg [.int .i64 og,.int .i64 ep,.int .i64 co,.sl accSh na zas,.sl mrkSh nm ms,.sl defSh nb bs,.sl sgSh ns ss]
theorem x52(m n:Nat)(k r q w:Int)(nil:Bool)(es:List D)(df:List UInt8):Tree.out (enterM Mq (callN Mq (m+40)) n c10 [.d (.agg [.int .i64 k,.int .i64 r,.int .i64 q,.sl hopSh nil es,.str df,.int .i64 w])] [])=bif (bif idOk r q es then (0:Int) else (30:Int)) != 0 then bif decide (k<1) then some [D.int .i64 130] else bif decide (7<k) then some [D.int .i64 130] else some [D.int .i64 130] else bif decide (IntKind.wrap .i64 ((es.length:Int) - 1)<0) then bif decide (k<1) then some [D.int .i64 130] else bif decide (7<k) then some [D.int .i64 130] else some [D.int .i64 130] else bif decide (0≤IntKind.wrap .i64 ((es.length:Int) - 1)∧IntKind.wrap .i64 ((es.length:Int) - 1)≤(es.length:Int)) then bif nil then bif decide (0≤IntKind.wrap .i64 ((es.length:Int) - 1)∧IntKind.wrap .i64 ((es.length:Int) - 1)<(es.length:Int)) then bif decide (k<1) then some [D.int .i64 130] else bif decide (7<k) then some [D.int .i64 130] else bif !(k==1)==name df then some [D.int .i64 130] else bif !k==1 then bif !df==[] then some [D.int .i64 130] else bif decide (1≤w) then bif !(k==6)==decide (w≤9) then some [D.int .i64 130] else bif !k==6 then bif w != 0 then some [D.int .i64 130] else some [D.int .i64 0] else some [D.int .i64 0] else bif !(k==6)==false then some [D.int .i64 130] else bif !k==6 then bif w != 0 then some [D.int .i64 130] else some [D.int .i64 0] else some [D.int .i64 0] else bif decide (1≤w) then bif !(k==6)==decide (w≤9) then some [D.int .i64 130] else bif !k==6 then bif w != 0 then some [D.int .i64 130] else some [D.int .i64 0] else some [D.int .i64 0] else bif !(k==6)==false then some [D.int .i64 130] else bif !k==6 then bif w != 0 then some [D.int .i64 130] else some [D.int .i64 0] else some [D.int .i64 0] else none else bif decide (List.length (List.take (Int.toNat (IntKind.wrap .i64 ((es.length:Int) - 1)) - 0) es)≤1000000) then bif decide (0≤IntKind.wrap .i64 ((es.length:Int) - 1)∧IntKind.wrap .i64 ((es.length:Int) - 1)<(es.length:Int)) then bif decide (k<1) then some [D.int .i64 130] else bif decide (7<k) then some [D.int .i64 130] else bif !(k==1)==name df then some [D.int .i64 130] else bif !k==1 then bif !df==[] then some [D.int .i64 130] else bif decide (1≤w) then bif !(k==6)==decide (w≤9) then some [D.int .i64 130] else bif !k==6 then bif w != 0 then some [D.int .i64 130] else some [D.int .i64 0] else some [D.int .i64 0] else bif !(k==6)==false then some [D.int .i64 130] else bif !k==6 then bif w != 0 then some [D.int .i64 130] else some [D.int .i64 0] else some [D.int .i64 0] else bif decide (1≤w) then bif !(k==6)==decide (w≤9) then some [D.int .i64 130] else bif !k==6 then bif w != 0 then some [D.int .i64 130] else some [D.int .i64 0] else some [D.int .i64 0] else bif !(k==6)==false then some [D.int .i64 130] else bif !k==6 then bif w != 0 then some [D.int .i64 130] else some [D.int .i64 0] else some [D.int .i64 0] else none else none else none:=by kernel_rfl
def noteSh:Sh:= .agg [.int .i64,.int .i64,.int .i64,.sl hopSh,.str,.int .i64]
theorem x50(m n:Nat)(nb:Bool)(bs:List D):Tree.out (enterM Mq (callN Mq (m+40)) n c20 [.d (.sl defSh nb bs)] [])=bif decide (100<(bs.length:Int)) then some [D.bool false] else Tree.out (resume Mq (callN Mq (m+40)) n n 0 c20 { fr:=frame 20 [(0,V.d (D.sl defSh nb bs)),(3,V.d (D.int .i64 0))],ob:=[] }):=by kernel_rfl
def v50(nb:Bool)(bs:List D)(i:Int):St:= { fr:=frame 20 [(0,V.d (D.sl defSh nb bs)),(3,V.d (D.int .i64 i))],ob:=[] }
theorem y50(m n f:Nat)(nb:Bool)(bs:List D)(i:Int):Tree.out (resume Mq (callN Mq (m+40)) n (f+1) 0 c20 (v50 nb bs i))=bif decide (i<(bs.length:Int)) then bif decide (0≤i∧i<(bs.length:Int)) then bif decide (100<(↑(List.length (fl 1 (bs.getD i.toNat .nilp))):Int)) then some [D.bool false] else Tree.out (resume Mq (callN Mq (m+40)) n f 0 c20 (v50 nb bs (IntKind.wrap .i64 (i+1)))) else none else some [D.bool true]:=by kernel_rfl
theorem scan_boolD(p:Nat→Bool)(n:Nat):scan (fun i=> !p i) (fun _=>[D.bool false]) [D.bool true] n 0=[D.bool (allN p n)]:=by
 unfold allN
 exact scan_map (fun x:Bool=>[D.bool x]) (fun i=> !p i) (fun _=>false) true n 0
def noteEq(x y:D):Bool:=fi 0 x==fi 0 y&&(refCmp (fi 1 x) (fi 2 x) (fl 3 x) (fi 1 y) (fi 2 y) (fl 3 y)==0&&(fs 4 x==fs 4 y&&fi 5 x==fi 5 y))
def fewB(bs:List D):Bool:= !decide (100<(bs.length:Int))&&allN (fun i=> !decide (100<((fl 1 (bs.getD i .nilp)).length:Int))) bs.length
theorem rn50(m n:Nat)(nb:Bool)(bs:List D)(hn:100<n):(enterM Mq (callN Mq (m+40)) n c20 [.d (.sl defSh nb bs)] []).out=some [.bool (fewB bs)]:=by
 rw [x50]
 unfold fewB
 by_cases h:100<(bs.length:Int)
 ·rw [decide_eq_true h];rfl
 ·rw [decide_eq_false h]
  refine (cf rfl).trans ?_
  have:=scan_loop (fun j i=>(resume Mq (callN Mq (m+40)) n j 0 c20 (v50 nb bs (i:Nat))).out) bs.length (fun i=> !!decide (100<((fl 1 (bs.getD i .nilp)).length:Int))) (fun _=>[D.bool false]) [.bool true]
   (fun j i hi=> ?_) (fun j=> ?_) bs.length 0 n (by omega) (by omega)
  ·refine this.trans ?_
   rw [scan_boolD (fun i=> !decide (100<((fl 1 (bs.getD i .nilp)).length:Int)))]
   rfl
  ·rw [y50,Bool.not_not]
   simp only [Int.toNat_natCast,wrap_up hi (show bs.length≤1000000 by omega)]
   exact (ct (dec_lt hi)).trans (ct (dec_ix hi))
  ·rw [y50]
   exact cf (dec_end _)
def noteOk(kd r q:Int)(es:List D)(df:List UInt8)(w:Int):Bool:= !decide (kd<1)&&(!decide (7<kd)&&(idOk r q es&&(!((es.length:Int)==0)&&((bif kd==1 then name df else df==[])&&(bif kd==6 then decide (1≤w)&&decide (w≤9) else w==0)))))
theorem rn52(m n:Nat)(kd r q w:Int)(nil:Bool)(es:List D)(df:List UInt8)(hn:nil=true→es=[]):(enterM Mq (callN Mq (m+40)) n c10 [.d (.agg [.int .i64 kd,.int .i64 r,.int .i64 q,.sl hopSh nil es,.str df,.int .i64 w])] []).out=some [.int .i64 (bif noteOk kd r q es df w then 0 else 130)]:=by
 rw [x52]
 unfold noteOk
 cases hid:idOk r q es
 ·cases decide (kd<1) <;> cases decide (7<kd) <;> rfl
 ·refine (cf rfl).trans ?_
  have h4:=(idOk_iff.1 hid).2.1
  by_cases h0:es.length=0
  ·have e:((es.length:Int)==0)=true:=by rw [h0];rfl
   rw [e,h0]
   refine (ct (decide_eq_true (by decide:IntKind.wrap .i64 (((0:Nat):Int) - 1)<0))).trans ?_
   cases decide (kd<1) <;> cases decide (7<kd) <;> rfl
  ·have e:((es.length:Int)==0)=false:=beq_eq_false_iff_ne.2 (by omega)
   have hnil:nil=false:=by
    cases nil with
    | false=>rfl
    | true=>rw [hn rfl] at h0;exact absurd rfl h0
   subst hnil
   rw [e,wrap_pred (by omega) (by omega),Int.toNat_natCast]
   refine (cf (decide_eq_false (by omega))).trans ((ct (decide_eq_true (by omega))).trans ((cf rfl).trans ((ct (decide_eq_true (by rw [List.length_take];omega))).trans ((ct (decide_eq_true (by omega))).trans ?_))))
   cases decide (kd<1)
   ·cases decide (7<kd)
    ·cases h1:(kd==1)
     ·cases hd:(df==[])
      ·cases name df <;> rfl
      ·have hd:=beq_iff_eq.1 hd
       subst hd
       rw [name_nil]
       have w0:decide (1≤w)=true→(w==0)=false:=fun h=>beq_eq_false_iff_ne.2 (by have:=of_decide_eq_true h;omega)
       cases (kd==6)
       ·cases h2:decide (1≤w)
        ·unfold bne
         cases (w==0) <;> rfl
        ·unfold bne
         rw [w0 h2]
         cases decide (w≤9) <;> rfl
       ·cases decide (1≤w)
        ·rfl
        ·cases decide (w≤9) <;> rfl
     ·cases name df
      ·rfl
      ·have w0:decide (1≤w)=true→(w==0)=false:=fun h=>beq_eq_false_iff_ne.2 (by have:=of_decide_eq_true h;omega)
       cases (kd==6)
       ·cases h2:decide (1≤w)
        ·unfold bne
         cases (w==0) <;> rfl
        ·unfold bne
         rw [w0 h2]
         cases decide (w≤9) <;> rfl
       ·cases decide (1≤w)
        ·rfl
        ·cases decide (w≤9) <;> rfl
    ·rfl
   ·rfl
def g52m:List D→Tree (List D)
 | [.agg [.int .i64 kd,.int .i64 r,.int .i64 q,.sl e0 nil es,.str df,.int .i64 w]]=>match Sh.beq e0 hopSh with
  | true=> .ite (!nil||es.isEmpty) (fun _=> .ret [.int .i64 (bif noteOk kd r q es df w then 0 else 130)]) (fun _=> .stuck)
  | false=> .stuck
 | _=> .stuck
theorem pure52m{P:Program}(hm:P.follows .mixedOrders=true)(h0:EnvOK P Mq):PureOK P 10 g52m:=PureOK.run hm h0 fun ds rs h=>by
 unfold g52m at h
 split at h
 ·rename_i kd r q e0 nil es df w
  split at h
  ·rename_i hb
   have hb0:=hb
   have hb0:=Sh.beq_eq hb0
   subst hb0
   obtain ⟨hg,h'⟩:=eval_guard h
   clear h
   cases h'
   exact ⟨59+1,by rw [callN_succ (fn:=c10) rfl];exact rn52 19 59 kd r q w nil es df (fun h=>by rw [h] at hg;exact List.isEmpty_iff.1 hg)⟩
  ·cases h
 ·cases h
def g50m:List D→Tree (List D)
 | [.sl e0 _nb bs]=>match Sh.beq e0 defSh with
  | true=> .ret [.bool (fewB bs)]
  | false=> .stuck
 | _=> .stuck
theorem pure50m{P:Program}(hm:P.follows .mixedOrders=true)(h0:EnvOK P Mq):PureOK P 20 g50m:=PureOK.run hm h0 fun ds rs h=>by
 unfold g50m at h
 split at h
 ·rename_i e0 nb bs
  split at h
  ·rename_i hb
   have hb0:=hb
   have hb0:=Sh.beq_eq hb0
   subst hb0
   cases h
   exact ⟨159+1,by rw [callN_succ (fn:=c20) rfl];exact rn50 119 159 nb bs (by omega)⟩
  ·cases h
 ·cases h
def Ms:Env:=(Mq.pureAt 10 true g52m).pureAt 20 true g50m
theorem okMs{P:Program}(hm:P.follows .mixedOrders=true)(h:EnvOK P Mq):EnvOK P Ms:=(h.pureAt (pure52m hm h)).pureAt (pure50m hm h)
theorem x48(m n:Nat)(r q:Int)(nil:Bool)(es:List D):Tree.out (enterM Ms (callN Ms (m+40)) n c68 [.d (.agg [.int .i64 r,.int .i64 q,.sl hopSh nil es])] [])=bif nil then some [D.agg [D.int .i64 r,D.int .i64 q,D.sl hopSh true []]] else bif decide (es.length≤1000000) then some [D.agg [D.int .i64 r,D.int .i64 q,D.sl hopSh false es]] else none:=by kernel_rfl
theorem empty_if{b:Bool}{l:List D}(h:(!b||l.isEmpty)=true)(hb:b=true):l=[]:=by
 rw [hb] at h;exact List.isEmpty_iff.1 h
def shortL(b:Bool)(l:List D):Bool:=(!b||l.isEmpty)&&decide (l.length≤1000000)
theorem shortL_iff{b:Bool}{l:List D}:shortL b l=true↔(b=true→l=[])∧l.length≤1000000:=by
 unfold shortL
 rw [Bool.and_eq_true,decide_eq_true_eq]
 exact and_congr_left fun _=>⟨empty_if,fun h=>by cases b with
  | false=>rfl
  | true=>rw [h rfl];rfl⟩
theorem rn48(m n:Nat)(r q:Int)(nil:Bool)(es:List D)(h:shortL nil es=true):(enterM Ms (callN Ms (m+40)) n c68 [.d (.agg [.int .i64 r,.int .i64 q,.sl hopSh nil es])] []).out=some [.agg [.int .i64 r,.int .i64 q,.sl hopSh nil es]]:=by
 rw [shortL_iff] at h
 rw [x48,decide_eq_true h.2]
 have e:=h.1
 cases nil
 ·rfl
 ·rw [e rfl];rfl
def g48m:List D→Tree (List D)
 | [.agg [.int .i64 r,.int .i64 q,.sl e0 nil es]]=>match Sh.beq e0 hopSh with
  | true=> .ite (shortL nil es) (fun _=> .ret [.agg [.int .i64 r,.int .i64 q,.sl e0 nil es]]) (fun _=> .stuck)
  | false=> .stuck
 | _=> .stuck
theorem pure48m{P:Program}(hm:P.follows .mixedOrders=true)(h0:EnvOK P Ms):PureOK P 68 g48m:=PureOK.run hm h0 fun ds rs h=>by
 unfold g48m at h
 split at h
 ·rename_i r q e0 nil es
  split at h
  ·rename_i hb
   have hb0:=hb
   have hb0:=Sh.beq_eq hb0
   subst hb0
   obtain ⟨hg,h'⟩:=eval_guard h
   clear h
   cases h'
   exact ⟨59+1,by rw [callN_succ (fn:=c68) rfl];exact rn48 19 59 r q nil es hg⟩
  ·cases h
 ·cases h
def Mt:Env:=Ms.pureAt 68 false g48m
theorem okMt{P:Program}(hm:P.follows .mixedOrders=true)(h:EnvOK P Ms):EnvOK P Mt:=h.pureAt (pure48m hm h)
theorem x18(m n:Nat)(og ep co:Int)(na nm' nb ns:Bool)(zas ms bs ss:List D):Tree.out (enterM Mt (callN Mt (m+40)) n c5 [.d (stD og ep co na nm' nb ns zas ms bs ss)] [])=bif decide (50<(zas.length:Int)) then some [D.bool false] else bif decide (200<(ms.length:Int)) then some [D.bool false] else bif decide (40<(ss.length:Int)) then some [D.bool false] else bif !fewB bs then some [D.bool false] else Tree.out (resume Mt (callN Mt (m+40)) n n 0 c5 { fr:=frame 60 [(1,V.ptr 128 0),(3,V.d (D.int .i64 0))],ob:=[(128,Obj.box [V.d (D.int .i64 og),V.d (D.int .i64 ep),V.d (D.int .i64 co),V.d (D.sl accSh na zas),V.d (D.sl mrkSh nm' ms),V.d (D.sl defSh nb bs),V.d (D.sl sgSh ns ss)])] }):=by kernel_rfl
def v18(og ep co:Int)(na nm' nb ns:Bool)(zas ms bs ss:List D)(i:Int):St:= { fr:=frame 60 [(1,V.ptr 128 0),(3,V.d (D.int .i64 i))],ob:=[(128,HS og ep co na nm' nb ns zas ms bs ss)] }
theorem y18(m n f:Nat)(og ep co:Int)(na nm' nb ns:Bool)(zas ms bs ss:List D)(i:Int):Tree.out (resume Mt (callN Mt (m+40)) n (f+1) 0 c5 (v18 og ep co na nm' nb ns zas ms bs ss i))=bif decide (i<(ss.length:Int)) then bif decide (0≤i∧i<(ss.length:Int)) then bif !few (fl 2 (ss.getD i.toNat .nilp)) (fl 4 (ss.getD i.toNat .nilp)) (fl 7 (ss.getD i.toNat .nilp)) then some [D.bool false] else Tree.out (resume Mt (callN Mt (m+40)) n f 0 c5 (v18 og ep co na nm' nb ns zas ms bs ss (IntKind.wrap .i64 (i+1)))) else none else Tree.out (resume Mt (callN Mt (m+40)) n n 1 c5 { fr:=frame 60 [(1,V.ptr 128 0),(4,V.d (D.int .i64 0))],ob:=[(128,Obj.box [V.d (D.int .i64 og),V.d (D.int .i64 ep),V.d (D.int .i64 co),V.d (D.sl accSh na zas),V.d (D.sl mrkSh nm' ms),V.d (D.sl defSh nb bs),V.d (D.sl sgSh ns ss)])] }):=by kernel_rfl
def v18b(og ep co:Int)(na nm' nb ns:Bool)(zas ms bs ss:List D)(i:Int):St:= { fr:=frame 60 [(1,V.ptr 128 0),(4,V.d (D.int .i64 i))],ob:=[(128,HS og ep co na nm' nb ns zas ms bs ss)] }
theorem y18b(m n f:Nat)(og ep co:Int)(na nm' nb ns:Bool)(zas ms bs ss:List D)(i:Int):Tree.out (resume Mt (callN Mt (m+40)) n (f+1) 1 c5 (v18b og ep co na nm' nb ns zas ms bs ss i))=bif decide (i<(ms.length:Int)) then bif decide (0≤i∧i<(ms.length:Int)) then bif decide (1000<(↑(List.length (fs 0 (ms.getD i.toNat .nilp))):Int)) then some [D.bool false] else Tree.out (resume Mt (callN Mt (m+40)) n f 1 c5 (v18b og ep co na nm' nb ns zas ms bs ss (IntKind.wrap .i64 (i+1)))) else none else some [D.bool true]:=by kernel_rfl
theorem idC_zero{a b x y:Int}{l m:List D}:idC a x l b y m=0↔a=b∧x=y∧l.map hopP=m.map hopP:=by
 unfold idC
 have hne: ∀{p q:Int},p≠q→cmpI p q≠0:=fun {p q} h=>by
  have:= @cmpI_ne p q
  rw [bne_iff_ne.2 h] at this
  exact bne_iff_ne.1 this
 by_cases e0:a=b
 ·subst e0
  rw [show (a != a)=false by simp,cond_false]
  by_cases e1:x=y
  ·subst e1
   rw [show (x != x)=false by simp,cond_false,hopsC_zero]
   simp
  ·rw [bne_iff_ne.2 e1,cond_true]
   exact ⟨fun h=>absurd h (hne e1),fun h=>absurd h.2.1 e1⟩
 ·rw [bne_iff_ne.2 e0,cond_true]
  exact ⟨fun h=>absurd h (hne e0),fun h=>absurd h.1 e0⟩
theorem mayR_all{og ep co:Int}{zas ms bs ss:List D}(h:mayR og ep co zas ms bs ss=true):(∀i,i<ss.length→mayS (ss.getD i .nilp)=true∧sgLess ss i=true∧orgOfId (fi 0 (ss.getD i .nilp)) (fi 1 (ss.getD i .nilp)) (fl 2 (ss.getD i .nilp))=og)∧bookOk bs=true∧ledOk zas ms=true∧ss.length≤24:=by
 rw [←may_same] at h
 unfold mayP sagasOk at h
 simp only [Bool.and_eq_true,Bool.not_eq_true',decide_eq_false_iff_not] at h
 obtain ⟨-,-,-,-,-,-,hl,hb,⟨h24,hs⟩,-⟩:=h
 refine ⟨fun i hi=> ?_,hb,hl,by omega⟩
 have:=allN_iff.1 hs i hi
 unfold sagaAt at this
 simp only [Bool.and_eq_true,Bool.not_eq_true',bne_eq_false_iff_eq] at this
 exact ⟨this.1,this.2.2.2,this.2.1⟩
def fewS(x:D):Bool:=few (fl 2 x) (fl 4 x) (fl 7 x)
def fewSt(zas ms bs ss:List D):Bool:= !decide (50<(zas.length:Int))&&(!decide (200<(ms.length:Int))&&(!decide (40<(ss.length:Int))&&(fewB bs&&(allN (fun i=>fewS (ss.getD i .nilp)) ss.length&&allN (fun i=> !decide (1000<((fs 0 (ms.getD i .nilp)).length:Int))) ms.length))))
theorem rn18(m n:Nat)(og ep co:Int)(na nm' nb ns:Bool)(zas ms bs ss:List D)(hn:300<n):(enterM Mt (callN Mt (m+40)) n c5 [.d (stD og ep co na nm' nb ns zas ms bs ss)] []).out=some [.bool (fewSt zas ms bs ss)]:=by
 rw [x18]
 unfold fewSt
 cases decide (50<(zas.length:Int))
 ·by_cases hm:200<(ms.length:Int)
  ·rw [decide_eq_true hm];rfl
  ·rw [decide_eq_false hm]
   by_cases hs:40<(ss.length:Int)
   ·rw [decide_eq_true hs];rfl
   ·rw [decide_eq_false hs]
    cases fewB bs
    ·rfl
    ·refine (cf rfl).trans ((cf rfl).trans ((cf rfl).trans ((cf rfl).trans ?_)))
     have inner:(resume Mt (callN Mt (m+40)) n n 1 c5 (v18b og ep co na nm' nb ns zas ms bs ss 0)).out=some [.bool (allN (fun i=> !decide (1000<((fs 0 (ms.getD i .nilp)).length:Int))) ms.length)]:=by
      have:=scan_loop (fun j i=>(resume Mt (callN Mt (m+40)) n j 1 c5 (v18b og ep co na nm' nb ns zas ms bs ss (i:Nat))).out) ms.length (fun i=> !!decide (1000<((fs 0 (ms.getD i .nilp)).length:Int))) (fun _=>[D.bool false]) [.bool true]
       (fun j i hi=> ?_) (fun j=> ?_) ms.length 0 n (by omega) (by omega)
      ·refine this.trans ?_
       rw [scan_boolD (fun i=> !decide (1000<((fs 0 (ms.getD i .nilp)).length:Int)))]
      ·rw [y18b,Bool.not_not]
       simp only [Int.toNat_natCast,wrap_up hi (show ms.length≤1000000 by omega)]
       exact (ct (dec_lt hi)).trans (ct (dec_ix hi))
      ·rw [y18b]
       exact cf (dec_end _)
     have:=scan_loop (fun j i=>(resume Mt (callN Mt (m+40)) n j 0 c5 (v18 og ep co na nm' nb ns zas ms bs ss (i:Nat))).out) ss.length (fun i=> !fewS (ss.getD i .nilp)) (fun _=>[D.bool false]) [.bool (allN (fun i=> !decide (1000<((fs 0 (ms.getD i .nilp)).length:Int))) ms.length)]
      (fun j i hi=> ?_) (fun j=> ?_) ss.length 0 n (by omega) (by omega)
     ·refine this.trans ?_
      cases hx:allN (fun i=> !decide (1000<((fs 0 (ms.getD i .nilp)).length:Int))) ms.length
      ·have e:=scan_map (fun x:Bool=>[D.bool x]) (fun i=> !fewS (ss.getD i .nilp)) (fun _=>false) false ss.length 0
       refine congrArg some (e.trans ?_)
       have: ∀k i,scan (fun i=> !fewS (ss.getD i .nilp)) (fun _=>false) false k i=false:=by
        intro k
        induction k with
        | zero=>intro i;rfl
        | succ k ih=>
         intro i
         simp only [scan,ih]
         cases (!fewS (ss.getD i .nilp)) <;> rfl
       rw [this,Bool.and_false];rfl
      ·rw [scan_boolD,Bool.and_true];rfl
     ·rw [y18]
      simp only [Int.toNat_natCast,wrap_up hi (show ss.length≤1000000 by omega)]
      exact (ct (dec_lt hi)).trans (ct (dec_ix hi))
     ·rw [y18]
      exact (cf (dec_end _)).trans inner
 ·rfl
def g18m:List D→Tree (List D)
 | [.agg [.int .i64 _og,.int .i64 _ep,.int .i64 _co,.sl e0a _na zas,.sl e0m _nm ms,.sl e0b _nb bs,.sl e0s _ns ss]]=>match Sh.beq e0a accSh&&Sh.beq e0m mrkSh&&Sh.beq e0b defSh&&Sh.beq e0s sgSh with
  | true=> .ret [.bool (fewSt zas ms bs ss)]
  | false=> .stuck
 | _=> .stuck
theorem pure18m{P:Program}(hm:P.follows .mixedOrders=true)(h0:EnvOK P Mt):PureOK P 5 g18m:=PureOK.run hm h0 fun ds rs h=>by
 unfold g18m at h
 split at h
 ·rename_i og ep co e0a na zas e0m nm ms e0b nb bs e0s ns ss
  split at h
  ·rename_i hb
   simp only [Bool.and_eq_true] at hb
   obtain ⟨⟨⟨hb0,hb1⟩,hb2⟩,hb3⟩:=hb
   have hb0:=Sh.beq_eq hb0
   have hb1:=Sh.beq_eq hb1
   have hb2:=Sh.beq_eq hb2
   have hb3:=Sh.beq_eq hb3
   subst hb0 hb1 hb2 hb3
   cases h
   exact ⟨359+1,by rw [callN_succ (fn:=c5) rfl];exact rn18 319 359 og ep co na nm nb ns zas ms bs ss (by omega)⟩
  ·cases h
 ·cases h
structure An where
 b1:Bool
 ms:List D
 b2:Bool
 ns:List D
def An.d(a:An):D:= .agg [.sl moveSh a.b1 a.ms,.sl noteSh a.b2 a.ns]
def nilS(ss:List D):Prop:= ∀i,i<ss.length→(fn 2 (ss.getD i .nilp)=true→fl 2 (ss.getD i .nilp)=[])∧(fn 4 (ss.getD i .nilp)=true→fl 4 (ss.getD i .nilp)=[])∧(fn 7 (ss.getD i .nilp)=true→fl 7 (ss.getD i .nilp)=[])
def nilB(bs:List D):Prop:= ∀i,i<bs.length→(fn 1 (bs.getD i .nilp)=true→fl 1 (bs.getD i .nilp)=[])
theorem pure155{P:Program}(hm:P.follows .mixedOrders=true)(h0:EnvOK P M3):PureOK P 45 g155:=PureOK.run hm h0 fun ds rs h=>by
 unfold g155 at h
 split at h
 ·rename_i ea na zas em nm ms s
  split at h
  ·rename_i hb
   simp only [Bool.and_eq_true] at hb
   have hb0:=Sh.beq_eq hb.1
   have hb1:=Sh.beq_eq hb.2
   subst hb0 hb1
   obtain ⟨hg,h'⟩:=eval_guard h
   clear h
   simp only [decide_eq_true_eq] at hg
   cases h'
   exact ⟨59+1,by rw [callN_succ (fn:=c45) rfl];exact run155 19 59 na nm zas ms s hg⟩
  ·cases h
 ·cases h
theorem kv_loop(m n:Nat)(na nm':Bool)(zas ms:List D)(hl:ms.length≤1000000): ∀k i j kv,i+k=ms.length→k<j→kv=(ms.take i).foldl pendStep []→
  (resume M3 (callN M3 (m+40)) n j 0 c48 (s158 na nm' zas ms kv (i:Nat))).eval=some (.mp 640,[(128,.box [V.d (D.sl accSh na zas),V.d (D.sl mrkSh nm' ms)]),(640,AM.Obj.map Sh.str i4Sh (pendKV ms))]):=by
 intro k
 induction k with
 | zero=>
  intro i j kv hi hj hp
  cases j with
  | zero=>omega
  | succ j=>
   have:i=ms.length:=by omega
   subst this
   rw [List.take_length] at hp
   have hp:pendKV ms=kv:=hp.symm
   rw [l158,hp]
   exact cf (dec_end _)
 | succ k ih=>
  intro i j kv hi hj hp
  cases j with
  | zero=>omega
  | succ j=>
   have hlt:i<ms.length:=by omega
   have next:=ih (i+1) j (pendStep kv (ms.getD i .nilp)) (by omega) (by omega) (by
    rw [List.take_add_one,List.getElem?_eq_getElem hlt,List.foldl_append,←hp,List.getD_eq_getElem?_getD,List.getElem?_eq_getElem hlt];rfl)
   rw [l158]
   simp only [Int.toNat_natCast,wrap_up hlt hl]
   refine (ct (dec_lt hlt)).trans ((ct (dec_ix hlt)).trans ?_)
   unfold pendStep at next
   cases h1:(fi 4 (ms.getD i .nilp) != 1)
   ·rw [h1] at next
    exact next
   ·rw [h1] at next
    exact next
theorem run158(m n:Nat)(na nm':Bool)(zas ms:List D)(hl:ms.length≤1000000)(hn:ms.length<n):(enterM M3 (callN M3 (m+40)) n c48 [.d (.agg [.sl accSh na zas,.sl mrkSh nm' ms])] []).eval=some (.mp 640,[(128,.box [V.d (D.sl accSh na zas),V.d (D.sl mrkSh nm' ms)]),(640,AM.Obj.map Sh.str i4Sh (pendKV ms))]):=by
 rw [e158]
 exact kv_loop m n na nm' zas ms hl ms.length 0 n [] (by omega) (by omega) rfl
theorem fn158{P:Program}(hm:P.follows .mixedOrders=true)(h0:EnvOK P M3):FnOK P 48 C158:=FnOK.run hm h0 fun args ob r h=>by
 unfold C158 at h
 split at h
 ·rename_i ea na zas em nm ms
  split at h
  ·rename_i hb
   simp only [Bool.and_eq_true] at hb
   have hb0:=Sh.beq_eq hb.1
   have hb1:=Sh.beq_eq hb.2
   subst hb0 hb1
   obtain ⟨hg,h'⟩:=eval_guard h
   clear h
   simp only [decide_eq_true_eq] at hg
   cases h'
   exact ⟨(ms.length+40)+1,by rw [callN_succ (fn:=c48) rfl];exact run158 ms.length (ms.length+40) na nm zas ms hg (by omega)⟩
  ·cases h
 ·cases h
theorem okM6{P:Program}(hm:P.follows .mixedOrders=true)(h:EnvOK P M3):EnvOK P M6:=(h.pureAt (pure155 hm h)).genAt (fn158 hm h)
theorem okM2:EnvOK Tryd.prog M2:=(okM1 mixed okZK2).pureAt pure192
theorem okM3t:EnvOK Tryd.prog M3:=okM3 mixed okM2
theorem okM6t:EnvOK Tryd.prog M6:=okM6 mixed okM3t
theorem okMgt:EnvOK Tryd.prog Mg:=okMg mixed (okMd mixed okM6t (okM9 mixed okM6t))
theorem okMit:EnvOK Tryd.prog Mi:=okMi (okMh mixed (okF5 mixed okE19) okMgt)
theorem okMpt:EnvOK Tryd.prog Mp:=okMp mixed okMgt okMit
theorem okMqt:EnvOK Tryd.prog Mq:=okMq mixed okE19 okMpt
def accTy:Ty:= .st [.str,.st [.int .i64,.int .i64,.int .i64],.st [.int .i64,.int .i64,.int .i64]]
def mrkTy:Ty:= .st [.str,.st [.int .i64,.str,.int .i64],.int .i64]
def defTy:Ty:= .st [.str,.sl stepTy]
def stateTy:Ty:= .st [.int .i64,.int .i64,.int .i64,.st [.sl accTy,.sl mrkTy],.sl defTy,.sl sagaTy]
theorem def_in{x:D}(h0:WF defTy.sh x): ∃nm nil es,x= .agg [.str nm,.sl stepSh nil es]∧(nil=true→es=[]):=by
 obtain ⟨cs,rfl,h⟩:=WF.inv_agg h0
 obtain ⟨_,_,rfl,a1,h⟩:=h.inv
 obtain ⟨_,_,rfl,a2,h⟩:=h.inv
 obtain rfl:=h.inv_nil
 obtain ⟨nm,rfl⟩:=a1.inv_str
 obtain ⟨nil,es,rfl,b,-⟩:=a2.inv_sl
 exact ⟨nm,nil,es,rfl,b⟩
theorem state_in{x:D}(h0:WF stateTy.sh x): ∃og ep co na nm nb ns ac ms bs ss,x=stD og ep co na nm nb ns ac ms bs ss∧nilS ss∧nilB bs:=by
 obtain ⟨cs,rfl,h⟩:=WF.inv_agg h0
 obtain ⟨_,_,rfl,a1,h⟩:=h.inv
 obtain ⟨_,_,rfl,a2,h⟩:=h.inv
 obtain ⟨_,_,rfl,a3,h⟩:=h.inv
 obtain ⟨_,_,rfl,a4,h⟩:=h.inv
 obtain ⟨_,_,rfl,a5,h⟩:=h.inv
 obtain ⟨_,_,rfl,a6,h⟩:=h.inv
 obtain ⟨_,_,rfl,a7,h⟩:=h.inv
 obtain rfl:=h.inv_nil
 obtain ⟨og,rfl⟩:=a1.inv_int
 obtain ⟨ep,rfl⟩:=a2.inv_int
 obtain ⟨co,rfl⟩:=a3.inv_int
 obtain ⟨na,ac,rfl,-,-⟩:=a4.inv_sl
 obtain ⟨nm,ms,rfl,-,-⟩:=a5.inv_sl
 obtain ⟨nb,bs,rfl,-,hb⟩:=a6.inv_sl
 obtain ⟨ns,ss,rfl,-,hs⟩:=a7.inv_sl
 refine ⟨og,ep,co,na,nm,nb,ns,ac,ms,bs,ss,rfl,fun i hi=> ?_,fun i hi=> ?_⟩
 ·obtain ⟨rt,nn,st,wy,n1,n2,n3,fc,hops,steps,parts,nm,e,b1,b2,b3⟩:=saga_in (hs _ (getD_mem hi))
  rw [e]
  exact ⟨b1,b2,b3⟩
 ·obtain ⟨nm,nil,es,e,b⟩:=def_in (hb _ (getD_mem hi))
  rw [e]
  exact b
theorem law_true{E:Env}{f:Nat}{tys:List Ty}(hE:EnvOK Tryd.prog E)(h: ∀ds,WFs tys ds→ ∃n,(callN E n f (ds.map .d) []).out=some [.bool true]):
  ∃g,PureOK Tryd.prog f g∧ ∀xs,WFs tys xs→(g xs).eval=some [.bool true]:=by
 refine ⟨fun ds=> @ite _ (WFs tys ds) (Classical.propDecidable _) (.ret [D.bool true]) .stuck,PureOK.run mixed hE fun ds rs hr=> ?_,fun xs hw=> ?_⟩
 ·by_cases hw:WFs tys ds
  ·rw [if_pos hw] at hr
   cases hr
   exact h ds hw
  ·rw [if_neg hw] at hr
   cases hr
 ·show Tree.eval (@ite _ (WFs tys xs) (Classical.propDecidable _) (.ret [D.bool true]) .stuck)=_
  rw [if_pos hw];rfl
def tabs4:List (String×DataW Unit):=Rows.duesSoundRow.laid
theorem tabs4_met(os:Os)(args:Array Value):laidMetH Tryd.prog tabs4 ((World.laidAll Tryd.prog os tabs4).forCall (fun _ _=>0) ⟨#[],args,[]⟩).memory:=by
 rw [MakeChecks.laidMetH_plain _ _ _ (by kernel_rfl)]
 exact laidMet_laidAll _ (by kernel_rfl) (by kernel_rfl)
theorem tabs4_pow : ("internal/strconv.uint64pow10", (Rows.laid_internal_strconv_uint64pow10 : DataW Unit)) ∈ tabs4 := .tail _ (.tail _ (.head _))
def EV2:Env:=((E0.pureAt 13 false (gSelf E0 60 13)).pureAt 7 false (gSelf E0 60 7)).pureAt 21 false (gSelf E0 60 21)
theorem awake27_run:(callN EV2 60 6 [] []).out=some [D.bool true]:=by kernel_rfl
def Da:Env:=Mt.pureAt 5 true g18m
theorem okDa{P:Program}(hm:P.follows .mixedOrders=true)(h:EnvOK P Mt):EnvOK P Da:=h.pureAt (pure18m hm h)
theorem x170(m n:Nat)(r q k o:Int)(nil:Bool)(es:List D):Go.AM.Tree.out (enterM Da (callN Da (m+40)) n c19 [.d (.agg [.int .i64 r,.int .i64 q,.sl hopSh nil es]),.d (.int .i64 k),.d (.int .i64 o)] [])=bif (bif idOk r q es then (0:Int) else (30:Int)) != (0:Int) then some [D.agg [D.int IntKind.i64 (0:Int),D.int IntKind.i64 (0:Int),D.sl hopSh true []],D.int IntKind.i64 (bif idOk r q es then (0:Int) else (30:Int))] else bif nil then bif (bif idOk r q [D.agg [D.int IntKind.i64 k,D.int IntKind.i64 o]] then (0:Int) else (30:Int)) != (0:Int) then some [D.agg [D.int IntKind.i64 (0:Int),D.int IntKind.i64 (0:Int),D.sl hopSh true []],D.int IntKind.i64 (bif idOk r q [D.agg [D.int IntKind.i64 k,D.int IntKind.i64 o]] then (0:Int) else (30:Int))] else some [D.agg [D.int IntKind.i64 r,D.int IntKind.i64 q,D.sl hopSh false [D.agg [D.int IntKind.i64 k,D.int IntKind.i64 o]]],D.int IntKind.i64 (0:Int)] else bif decide (List.length es≤(1000000:Nat)) then bif decide (List.length es+(1:Nat)≤(4294967296:Nat)) then bif (bif idOk r q (List.append es [D.agg [D.int IntKind.i64 k,D.int IntKind.i64 o]]) then (0:Int) else (30:Int)) != (0:Int) then some [D.agg [D.int IntKind.i64 (0:Int),D.int IntKind.i64 (0:Int),D.sl hopSh true []],D.int IntKind.i64 (bif idOk r q (List.append es [D.agg [D.int IntKind.i64 k,D.int IntKind.i64 o]]) then (0:Int) else (30:Int))] else some [D.agg [D.int IntKind.i64 r,D.int IntKind.i64 q,D.sl hopSh false (List.append es [D.agg [D.int IntKind.i64 k,D.int IntKind.i64 o]])],D.int IntKind.i64 (0:Int)] else none else none:=by kernel_rfl
theorem x121(m n:Nat)(rt nn st wy:Int)(n1 n2 n3 fc:Bool)(hops steps parts:List D)(nm:List UInt8)(i:Int):Go.AM.Tree.out (enterM Da (callN Da (m+40)) n c42 [.d (sagaD rt nn st wy n1 n2 n3 fc hops steps parts nm),.d (.int .i64 i)] [])=bif decide ((0:Int)≤i∧i<(↑(List.length parts):Int)) then bif decide ((0:Int)≤i∧i<(↑(List.length parts):Int)) then bif st==(1:Int) then bif fi (0:Nat) (List.getD parts (Int.toNat i) D.nilp)==(1:Int) then some [D.int IntKind.i64 (1:Int)] else some [D.int IntKind.i64 (0:Int)] else bif st==(4:Int) then bif decide (List.length steps≤(1000000:Nat)) then bif decide (List.length parts≤(1000000:Nat)) then bif i==curR rt nn st wy fc hops steps parts nm then bif fi (0:Nat) (List.getD parts (Int.toNat i) D.nilp)==(1:Int) then some [D.int IntKind.i64 (4:Int)] else bif fi (0:Nat) (List.getD parts (Int.toNat i) D.nilp)==(2:Int) then some [D.int IntKind.i64 (4:Int)] else some [D.int IntKind.i64 (0:Int)] else some [D.int IntKind.i64 (0:Int)] else none else none else bif st==(5:Int) then bif decide (List.length steps≤(1000000:Nat)) then bif decide (List.length parts≤(1000000:Nat)) then bif i==curR rt nn st wy fc hops steps parts nm then bif fi (0:Nat) (List.getD parts (Int.toNat i) D.nilp)==(1:Int) then some [D.int IntKind.i64 (4:Int)] else bif fi (0:Nat) (List.getD parts (Int.toNat i) D.nilp)==(2:Int) then some [D.int IntKind.i64 (4:Int)] else some [D.int IntKind.i64 (0:Int)] else some [D.int IntKind.i64 (0:Int)] else none else none else bif st==(3:Int) then bif fi (0:Nat) (List.getD parts (Int.toNat i) D.nilp)==(2:Int) then some [D.int IntKind.i64 (3:Int)] else bif fi (0:Nat) (List.getD parts (Int.toNat i) D.nilp)==(1:Int) then bif fc then some [D.int IntKind.i64 (4:Int)] else some [D.int IntKind.i64 (0:Int)] else some [D.int IntKind.i64 (0:Int)] else bif st==(6:Int) then bif fi (0:Nat) (List.getD parts (Int.toNat i) D.nilp)==(1:Int) then some [D.int IntKind.i64 (4:Int)] else bif fi (0:Nat) (List.getD parts (Int.toNat i) D.nilp)==(2:Int) then some [D.int IntKind.i64 (4:Int)] else some [D.int IntKind.i64 (0:Int)] else some [D.int IntKind.i64 (0:Int)] else none else none:=by kernel_rfl
def hpD(k o:Int):D:= .agg [.int .i64 k,.int .i64 o]
def kidOk(r q:Int)(es:List D)(k o:Int):Bool:=idOk r q es&&idOk r q (es++[hpD k o])
def kidD(r q:Int)(es:List D)(k o:Int):D:= .agg [.int .i64 r,.int .i64 q,.sl hopSh false (es++[hpD k o])]
def zId:D:= .agg [.int .i64 0,.int .i64 0,.sl hopSh true []]
def kidT(r q:Int)(es:List D)(k o:Int):Tree (List D):= .ite (kidOk r q es k o) (fun _=> .ret [kidD r q es k o,.int .i64 0]) (fun _=> .ret [zId,.int .i64 30])
def owedK(st c i p:Int)(fc:Bool):Int:=
 bif st==1 then bif p==1 then 1 else 0 else bif st==4||st==5 then bif i==c&&(p==1||p==2) then 4 else 0 else
 bif st==3 then bif p==2 then 3 else bif p==1&&fc then 4 else 0 else bif st==6 then bif p==1||p==2 then 4 else 0 else 0
theorem rn170(m n:Nat)(r q k o:Int)(nil:Bool)(es:List D)(h1:nil=true→es=[])(h2:es.length≤1000000):
  (enterM Da (callN Da (m+40)) n c19 [.d (.agg [.int .i64 r,.int .i64 q,.sl hopSh nil es]),.d (.int .i64 k),.d (.int .i64 o)] []).out=(kidT r q es k o).eval:=by
 rw [x170]
 simp only [ne0 _ 30 (by decide)]
 unfold kidT kidOk
 cases hi:idOk r q es
 ·rfl
 ·cases hj:idOk r q (es++[hpD k o])
  ·have hj':idOk r q (List.append es [D.agg [D.int .i64 k,D.int .i64 o]])=false:=hj
   cases nil
   ·refine (cf rfl).trans ((cf rfl).trans ((ct (decide_eq_true h2)).trans ((ct (decide_eq_true (by omega))).trans ?_)))
    rw [hj'];rfl
   ·obtain rfl:=h1 rfl
    have hj':idOk r q [D.agg [D.int .i64 k,D.int .i64 o]]=false:=hj
    rw [hj'];rfl
  ·have hj':idOk r q (List.append es [D.agg [D.int .i64 k,D.int .i64 o]])=true:=hj
   cases nil
   ·refine (cf rfl).trans ((cf rfl).trans ((ct (decide_eq_true h2)).trans ((ct (decide_eq_true (by omega))).trans ?_)))
    rw [hj'];rfl
   ·obtain rfl:=h1 rfl
    have hj':idOk r q [D.agg [D.int .i64 k,D.int .i64 o]]=true:=hj
    rw [hj'];rfl
theorem rn121(m n:Nat)(rt nn st wy:Int)(n1 n2 n3 fc:Bool)(hops steps parts:List D)(nm:List UInt8)(i:Int)(h0:0≤i∧i<(parts.length:Int))(h1:steps.length≤1000000)(h2:parts.length≤1000000):
  (enterM Da (callN Da (m+40)) n c42 [.d (sagaD rt nn st wy n1 n2 n3 fc hops steps parts nm),.d (.int .i64 i)] []).out=some [.int .i64 (owedK st (curR rt nn st wy fc hops steps parts nm) i (fi 0 (parts.getD i.toNat .nilp)) fc)]:=by
 rw [x121,decide_eq_true h0,decide_eq_true h1,decide_eq_true h2]
 unfold owedK
 generalize (i==curR rt nn st wy fc hops steps parts nm)=c
 generalize (fi 0 (parts.getD i.toNat .nilp)==1)=p1
 generalize (fi 0 (parts.getD i.toNat .nilp)==2)=p2
 generalize (st==1)=s1
 generalize (st==3)=s3
 generalize (st==4)=s4
 generalize (st==5)=s5
 generalize (st==6)=s6
 cases s1
 ·cases s4 <;> cases s5 <;> cases s3 <;> cases s6 <;> cases p1 <;> cases p2 <;> cases c <;> cases fc <;> rfl
 ·cases p1 <;> rfl
def g170d:List D→Tree (List D)
 | [.agg [.int .i64 r,.int .i64 q,.sl e0 nil es],.int .i64 k,.int .i64 o]=>match Sh.beq e0 hopSh with
  | true=> .ite ((!nil||es.isEmpty)&&decide (es.length≤1000000)) (fun _=>kidT r q es k o) (fun _=> .stuck)
  | false=> .stuck
 | _=> .stuck
theorem pure170d{P:Program}(hm:P.follows .mixedOrders=true)(h0:EnvOK P Da):PureOK P 19 g170d:=PureOK.run hm h0 fun ds rs h=>by
 unfold g170d at h
 split at h
 ·rename_i r q e0 nil es k o
  split at h
  ·rename_i hb
   have hb0:=hb
   have hb0:=Sh.beq_eq hb0
   subst hb0
   obtain ⟨hg,h'⟩:=eval_guard h
   clear h
   simp only [Bool.and_eq_true,decide_eq_true_eq] at hg
   exact ⟨59+1,by rw [callN_succ (fn:=c19) rfl];exact (rn170 19 59 r q k o nil es (fun h=>by rw [h] at hg;exact List.isEmpty_iff.1 hg.1) hg.2).trans h'⟩
  ·cases h
 ·cases h
def g121d:List D→Tree (List D)
 | [.agg [.int .i64 rt,.int .i64 nn,.sl e0h _n1 hops,.str nm,.sl e0s _n2 steps,.int .i64 st,.int .i64 wy,.sl e0p _n3 parts,.bool fc],.int .i64 i]=>match Sh.beq e0h hopSh&&Sh.beq e0s stepSh&&Sh.beq e0p partSh with
  | true=> .ite (decide (0≤i∧i<(parts.length:Int))&&(decide (steps.length≤1000000)&&decide (parts.length≤1000000))) (fun _=> .ret [.int .i64 (owedK st (curR rt nn st wy fc hops steps parts nm) i (fi 0 (parts.getD i.toNat .nilp)) fc)]) (fun _=> .stuck)
  | false=> .stuck
 | _=> .stuck
theorem pure121d{P:Program}(hm:P.follows .mixedOrders=true)(h0:EnvOK P Da):PureOK P 42 g121d:=PureOK.run hm h0 fun ds rs h=>by
 unfold g121d at h
 split at h
 ·rename_i rt nn e0h n1 hops nm e0s n2 steps st wy e0p n3 parts fc i
  split at h
  ·rename_i hb
   simp only [Bool.and_eq_true] at hb
   obtain ⟨⟨hb0,hb1⟩,hb2⟩:=hb
   have hb0:=Sh.beq_eq hb0
   have hb1:=Sh.beq_eq hb1
   have hb2:=Sh.beq_eq hb2
   subst hb0 hb1 hb2
   obtain ⟨hg,h'⟩:=eval_guard h
   clear h
   simp only [Bool.and_eq_true,decide_eq_true_eq] at hg
   cases h'
   exact ⟨59+1,by rw [callN_succ (fn:=c42) rfl];exact rn121 19 59 rt nn st wy n1 n2 n3 fc hops steps parts nm i hg.1 hg.2.1 hg.2.2⟩
  ·cases h
 ·cases h
def Db:Env:=(Da.pureAt 19 false g170d).pureAt 42 true g121d
theorem okDb{P:Program}(hm:P.follows .mixedOrders=true)(h:EnvOK P Da):EnvOK P Db:=(h.pureAt (pure170d hm h)).pureAt (pure121d hm h)
end Go.Proofs.YtkjiaijkdefkgaaDoor.A
namespace Go.AM
open Go
def hasR:AC→Bool
 | .seq a b=>hasR a||hasR b
 | .block _ c=>hasR c
 | .scope c=>hasR c
 | .rfn _ _ _ _ _ _=>true
 | _=>false
def toR(E:Env)(cf:CallF)(n:Nat):AC→St→Tree St
 | .seq a b,st=>match hasR a with
  | true=>toR E cf n a st
  | false=>(runM E cf n a st).bind fun (e,st')=>match e with
   | .nrm=>toR E cf n b st'
   | _=> .stuck
 | .block _ c,st=>toR E cf n c st
 | .scope c,st=>toR E cf n c st
 | .rfn _ _ _ _ _ _,st=> .ret st
 | _,_=> .stuck
def fromR(E:Env)(cf:CallF)(n:Nat)(K:Tree (V×Obs)):AC→St→Tree (Ex×St)
 | .seq a b,st=>match hasR a with
  | true=>(fromR E cf n K a st).bind fun (e,st')=>match e with
   | .nrm=>runM E cf n b st'
   | .ext id=> .ret (.ext id,st')
   | .ret=> .ret (.ret,st')
  | false=>fromR E cf n K b st
 | .block id c,st=>(fromR E cf n K c st).bind fun (e,st')=>match e with
  | .ext j=>if Nat.beq j id then .ret (.nrm,st') else .ret (.ext j,st')
  | .nrm=> .ret (.nrm,st')
  | .ret=> .ret (.ret,st')
 | .scope c,st=>fromR E cf n K c st
 | .rfn base live f ps a c,st=>runC E (fun _ _ _=>K) n (.rfn base live f ps a c) st
 | _,_=> .stuck
def rCall:AC→St→Option (Nat×List V×Obs)
 | .seq a b,st=>match hasR a with
  | true=>rCall a st
  | false=>rCall b st
 | .block _ c,st=>rCall c st
 | .scope c,st=>rCall c st
 | .rfn _ live f ps a c,st=>match opd st.fr f with
  | .fn g zas caps=>
   let ob:=(St.kill [63] ⟨st.fr,st.ob.set 63 (.loop ps a c (maskF live 0 st.fr) 0 none)⟩).ob
   let args:=V.subL (killOf [63]) zas++ .yl 63 :: V.subL (killOf [63]) caps
   let ids:=reach ob 64 (V.idsL args) []
   some (g,V.renL (indexIn ids 0) args,takeObs ob (indexIn ids 0) ids 0)
  | _=>none
 | _,_=>none
theorem callGen_one{C:List V→Obs→Tree (V×Obs)}{base:Nat}{args:List V}{st:St}{p:V×Obs}{r:V×St}
  (h:(C (V.renL (indexIn (reach st.ob 64 (V.idsL args) []) 0) args) (takeObs st.ob (indexIn (reach st.ob 64 (V.idsL args) []) 0) (reach st.ob 64 (V.idsL args) []) 0)).eval=some p)
  (h1:(callGen (fun _ _=> .ret p) base args st).eval=some r):(callGen C base args st).eval=some r:=by
 unfold callGen callD at h1 ⊢
 simp only [Tree.bind_eval] at h1 ⊢
 obtain ⟨d,h1,h2⟩:=h1
 refine ⟨d,?_,h2⟩
 split at h1
 ·rename_i hc
  rw [if_pos hc]
  exact h1
 ·rename_i hc
  rw [if_neg hc]
  simp only [Tree.bind_eval] at h1 ⊢
  obtain ⟨q,hq,h1⟩:=h1
  simp only [Tree.eval,Option.some.injEq] at hq
  subst hq
  exact ⟨p,h,h1⟩
theorem runM_rfn{E:Env}{cf:CallF}{n g:Nat}{zas:List V}{ob:Obs}{p:V×Obs}(hcon:E.con g=none)(hp:(cf g zas ob).eval=some p):
  ∀(c:AC) (st st1:St) (r:Ex×St),(toR E cf n c st).eval=some st1→rCall c st1=some (g,zas,ob)→(fromR E cf n (.ret p) c st1).eval=some r→(runM E cf n c st).eval=some r
 | .seq a b,st,st1,r,h1,h2,h3=>by
  simp only [toR] at h1
  simp only [rCall] at h2
  simp only [fromR] at h3
  simp only [runM,Tree.bind_eval]
  cases ha:hasR a with
  | true=>
   rw [ha] at h1 h2 h3
   simp only [Tree.bind_eval] at h3
   obtain ⟨x,h3,h4⟩:=h3
   exact ⟨x,runM_rfn hcon hp a st st1 x h1 h2 h3,h4⟩
  | false=>
   rw [ha] at h1 h2 h3
   simp only [Tree.bind_eval] at h1
   obtain ⟨⟨e,st'⟩,h0,h1⟩:=h1
   cases e with
   | nrm=>exact ⟨_,h0,runM_rfn hcon hp b st' st1 r h1 h2 h3⟩
   | ext _=>cases h1
   | ret=>cases h1
 | .block id c,st,st1,r,h1,h2,h3=>by
  simp only [toR] at h1
  simp only [rCall] at h2
  simp only [fromR,Tree.bind_eval] at h3
  simp only [runM,Tree.bind_eval]
  obtain ⟨x,h3,h4⟩:=h3
  exact ⟨x,runM_rfn hcon hp c st st1 x h1 h2 h3,h4⟩
 | .scope c,st,st1,r,h1,h2,h3=>by
  simp only [toR] at h1
  simp only [rCall] at h2
  simp only [fromR] at h3
  simp only [runM]
  exact runM_rfn hcon hp c st st1 r h1 h2 h3
 | .rfn base live f ps a c,st,st1,r,h1,h2,h3=>by
  simp only [toR,Tree.eval,Option.some.injEq] at h1
  subst h1
  simp only [fromR,runM,runC] at h3 ⊢
  simp only [rCall] at h2
  split at h3
  ·rename_i g' xs caps hf
   rw [hf] at h2
   simp only [Option.some.injEq,Prod.mk.injEq] at h2
   obtain ⟨e1,e2,e3⟩:=h2
   subst e1
   split at h3
   ·rename_i h63 hpr
    simp only [Tree.bind_eval] at h3 ⊢
    obtain ⟨x,h3,h4⟩:=h3
    refine ⟨x,?_,h4⟩
    unfold callV at h3 ⊢
    split at h3
    ·cases h3
    ·rename_i hy
     rw [if_neg hy]
     rw [hcon] at h3 ⊢
     refine callGen_one ?_ h3
     rw [e2,e3]
     exact hp
   ·cases h3
  ·cases h3
 | .skip,_,_,_,h1,_,_=>by cases h1
 | .ret,_,_,_,h1,_,_=>by cases h1
 | .cond _ _ _,_,_,_,h1,_,_=>by cases h1
 | .loop _ _ _,_,_,_,h1,_,_=>by cases h1
 | .exit _,_,_,_,h1,_,_=>by cases h1
 | .ops _ _,_,_,_,h1,_,_=>by cases h1
 | .bad,_,_,_,h1,_,_=>by cases h1
def rfnA:AC→AC
 | .seq a b=>match hasR a with
  | true=>rfnA a
  | false=>rfnA b
 | .block _ c=>rfnA c
 | .scope c=>rfnA c
 | .rfn _ _ _ _ a _=>a
 | _=> .bad
def rfnC:AC→AC
 | .seq a b=>match hasR a with
  | true=>rfnC a
  | false=>rfnC b
 | .block _ c=>rfnC c
 | .scope c=>rfnC c
 | .rfn _ _ _ _ _ c=>c
 | _=> .bad
def headR(E:Env)(cf:CallF)(n:Nat)(fn:AFn)(args:List V)(ob:Obs):Tree St:=toR E cf n fn.body ⟨padTo fn.ntmps args,ob⟩
def resumeR(E:Env)(cf:CallF)(n:Nat)(K:Tree (V×Obs))(fn:AFn)(st:St):Tree (V×Obs):=leave fn (fromR E cf n K fn.body st)
theorem enterM_rfn{E:Env}{cf:CallF}{n g:Nat}{fn:AFn}{zas xs:List V}{ob ob0:Obs}{st1:St}{p r:V×Obs}(hcon:E.con g=none)(hp:(cf g zas ob).eval=some p)
  (h1:(headR E cf n fn xs ob0).eval=some st1) (h2:rCall fn.body st1=some (g,zas,ob)) (h3:(resumeR E cf n (.ret p) fn st1).eval=some r):(enterM E cf n fn xs ob0).eval=some r:=by
 unfold resumeR leave at h3
 unfold enterM leave
 rw [Tree.bind_eval] at h3 ⊢
 obtain ⟨x,h3,h4⟩:=h3
 exact ⟨x,runM_rfn hcon hp fn.body _ st1 x h1 h2 h3,h4⟩
theorem outM_rfn{E:Env}{cf:CallF}{n g:Nat}{fn:AFn}{zas xs:List V}{ob ob0:Obs}{st1:St}{p:V×Obs}{rs:List D}(hcon:E.con g=none)(hp:(cf g zas ob).eval=some p)
  (h1:(headR E cf n fn xs ob0).eval=some st1) (h2:rCall fn.body st1=some (g,zas,ob)) (h3:(resumeR E cf n (.ret p) fn st1).out=some rs):(enterM E cf n fn xs ob0).out=some rs:=by
 obtain ⟨v,o,h4,h5⟩:=Tree.out_eval h3
 exact Tree.out_of (enterM_rfn hcon hp h1 h2 h4) h5
end Go.AM
open Go Go.AM Go.Proofs
namespace Go.Proofs.YtkjiaijkdefkgaaDoor.A
def ra64:AC:=rfnA c22.body
def rc64:AC:=rfnC c22.body
def lp64:AM.Obj:= .loop [11,12] ra64 rc64 (frame 47 [(1,.ptr 1 0),(3,.ptr 2 0)]) 0 none
def bxS(rt nn st wy:Int)(n1 n2 n3 fc:Bool)(hops steps parts:List D)(nm:List UInt8):AM.Obj:= .box [.d (.int .i64 rt),.d (.int .i64 nn),.d (.sl hopSh n1 hops),.d (.str nm),.d (.sl stepSh n2 steps),.d (.int .i64 st),.d (.int .i64 wy),.d (.sl partSh n3 parts),.d (.bool fc)]
def ob64(rt nn st wy:Int)(n1 n2 n3 fc:Bool)(hops steps parts:List D)(nm:List UInt8)(x:V)(l:Obs):Obs:=(0,lp64) :: (1,bxS rt nn st wy n1 n2 n3 fc hops steps parts nm) :: (2,.box [x]) :: (3,bxS rt nn st wy n1 n2 n3 fc hops steps parts nm) :: l
def obA(rt nn st wy:Int)(n1 n2 n3 fc:Bool)(hops steps parts:List D)(nm:List UInt8):Obs:=ob64 rt nn st wy n1 n2 n3 fc hops steps parts nm (.d (.sl noteSh true [])) []
def obB(rt nn st wy:Int)(n1 n2 n3 fc:Bool)(hops steps parts:List D)(nm:List UInt8)(mv:Bool)(out:List D):Obs:=ob64 rt nn st wy n1 n2 n3 fc hops steps parts nm (.own 2240) [(2240,.lst noteSh false mv false out)]
def v169(rt nn st wy:Int)(n1 n2 n3 fc:Bool)(hops steps parts:List D)(nm:List UInt8)(i:Int):St:=⟨frame 38 [(0,.yl 0),(1,.ptr 3 0),(9,.d (.sl stepSh n2 steps)),(10,.d (.int .i64 (steps.length:Int))),(11,.d (.int .i64 i))],obA rt nn st wy n1 n2 n3 fc hops steps parts nm⟩
def w169(rt nn st wy:Int)(n1 n2 n3 fc:Bool)(hops steps parts:List D)(nm:List UInt8)(mv:Bool)(out:List D)(i:Int):St:=⟨frame 38 [(0,.yl 0),(1,.ptr 3 0),(9,.d (.sl stepSh n2 steps)),(10,.d (.int .i64 (steps.length:Int))),(11,.d (.int .i64 i))],obB rt nn st wy n1 n2 n3 fc hops steps parts nm mv out⟩
def st64(rt nn st wy:Int)(n1 n2 n3 fc:Bool)(hops steps parts:List D)(nm:List UInt8):St:=
  ⟨[.d (sagaD rt nn st wy n1 n2 n3 fc hops steps parts nm),.ptr 128 0,.d (.sl noteSh true []),.ptr 256 0]++List.replicate 5 (.tup [])++[.d (sagaD rt nn st wy n1 n2 n3 fc hops steps parts nm),.fn 67 [] [.ptr 704 0]]++List.replicate 36 (.tup []),
   [(128,bxS rt nn st wy n1 n2 n3 fc hops steps parts nm),(256,.box [.d (.sl noteSh true [])]),(704,bxS rt nn st wy n1 n2 n3 fc hops steps parts nm)]⟩
theorem hd64(m n:Nat)(rt nn st wy:Int)(n1 n2 n3 fc:Bool)(hops steps parts:List D)(nm:List UInt8):(headR Db (callN Db (m+40)) n c22 [.d (sagaD rt nn st wy n1 n2 n3 fc hops steps parts nm)] []).eval=some (st64 rt nn st wy n1 n2 n3 fc hops steps parts nm):=by kernel_rfl
theorem rc64_call(rt nn st wy:Int)(n1 n2 n3 fc:Bool)(hops steps parts:List D)(nm:List UInt8):rCall c22.body (st64 rt nn st wy n1 n2 n3 fc hops steps parts nm)=some (67,[.yl 0,.ptr 3 0],obA rt nn st wy n1 n2 n3 fc hops steps parts nm):=by kernel_rfl
theorem x169(m n:Nat)(rt nn st wy:Int)(n1 n2 n3 fc:Bool)(hops steps parts:List D)(nm:List UInt8):Tree.eval (enterM Db (callN Db (m+40)) n c67 [.yl 0,.ptr 3 0] (obA rt nn st wy n1 n2 n3 fc hops steps parts nm))=Tree.eval (resume Db (callN Db (m+40)) n n 0 c67 (v169 rt nn st wy n1 n2 n3 fc hops steps parts nm 0)):=by kernel_rfl
theorem y169(m n f:Nat)(rt nn st wy:Int)(n1 n2 n3 fc:Bool)(hops steps parts:List D)(nm:List UInt8)(i:Int):Tree.eval (resume Db (callN Db (m+40)) n (f+1) 0 c67 (v169 rt nn st wy n1 n2 n3 fc hops steps parts nm i))=bif decide (i<(steps.length:Int)) then bif decide (0≤i∧i<(steps.length:Int)) then bif fs 4 (steps.getD i.toNat .nilp)==[] then Tree.eval (resume Db (callN Db (m+40)) n f 0 c67 (v169 rt nn st wy n1 n2 n3 fc hops steps parts nm (IntKind.wrap .i64 (i+1)))) else bif (!n1||List.isEmpty hops)&&decide (hops.length≤1000000) then bif kidOk rt nn hops i (fi 3 (steps.getD i.toNat .nilp)) then bif decide (0≤i∧i<(parts.length:Int))&&(decide (steps.length≤1000000)&&decide (parts.length≤1000000)) then bif owedK st (curR rt nn st wy fc hops steps parts nm) i (fi 0 (parts.getD i.toNat .nilp)) fc==1 then bif decide (0≤i∧i<(steps.length:Int)) then bif owedK st (curR rt nn st wy fc hops steps parts nm) i (fi 0 (parts.getD i.toNat .nilp)) fc != 0 then Tree.eval (resume Db (callN Db (m+40)) n f 0 c67 (w169 rt nn st wy n1 n2 n3 fc hops steps parts nm false [D.agg [D.int .i64 (owedK st (curR rt nn st wy fc hops steps parts nm) i (fi 0 (parts.getD i.toNat .nilp)) fc),D.int .i64 rt,D.int .i64 nn,D.sl hopSh false (List.append hops [D.agg [D.int .i64 i,D.int .i64 (fi 3 (steps.getD i.toNat .nilp))]]),D.str (fs 4 (steps.getD i.toNat .nilp)),D.int .i64 0]] (IntKind.wrap .i64 (i+1)))) else Tree.eval (resume Db (callN Db (m+40)) n f 0 c67 (v169 rt nn st wy n1 n2 n3 fc hops steps parts nm (IntKind.wrap .i64 (i+1)))) else none else bif owedK st (curR rt nn st wy fc hops steps parts nm) i (fi 0 (parts.getD i.toNat .nilp)) fc != 0 then Tree.eval (resume Db (callN Db (m+40)) n f 0 c67 (w169 rt nn st wy n1 n2 n3 fc hops steps parts nm false [D.agg [D.int .i64 (owedK st (curR rt nn st wy fc hops steps parts nm) i (fi 0 (parts.getD i.toNat .nilp)) fc),D.int .i64 rt,D.int .i64 nn,D.sl hopSh false (List.append hops [D.agg [D.int .i64 i,D.int .i64 (fi 3 (steps.getD i.toNat .nilp))]]),D.str [],D.int .i64 0]] (IntKind.wrap .i64 (i+1)))) else Tree.eval (resume Db (callN Db (m+40)) n f 0 c67 (v169 rt nn st wy n1 n2 n3 fc hops steps parts nm (IntKind.wrap .i64 (i+1)))) else none else Tree.eval (resume Db (callN Db (m+40)) n f 0 c67 (v169 rt nn st wy n1 n2 n3 fc hops steps parts nm (IntKind.wrap .i64 (i+1)))) else none else none else some (V.tup [],obA rt nn st wy n1 n2 n3 fc hops steps parts nm):=by kernel_rfl
theorem z169(m n f:Nat)(rt nn st wy:Int)(n1 n2 n3 fc:Bool)(hops steps parts:List D)(nm:List UInt8)(mv:Bool)(out:List D)(i:Int):Tree.eval (resume Db (callN Db (m+40)) n (f+1) 0 c67 (w169 rt nn st wy n1 n2 n3 fc hops steps parts nm mv out i))=bif decide (i<(steps.length:Int)) then bif decide (0≤i∧i<(steps.length:Int)) then bif fs 4 (steps.getD i.toNat .nilp)==[] then Tree.eval (resume Db (callN Db (m+40)) n f 0 c67 (w169 rt nn st wy n1 n2 n3 fc hops steps parts nm mv out (IntKind.wrap .i64 (i+1)))) else bif (!n1||List.isEmpty hops)&&decide (hops.length≤1000000) then bif kidOk rt nn hops i (fi 3 (steps.getD i.toNat .nilp)) then bif decide (0≤i∧i<(parts.length:Int))&&(decide (steps.length≤1000000)&&decide (parts.length≤1000000)) then bif owedK st (curR rt nn st wy fc hops steps parts nm) i (fi 0 (parts.getD i.toNat .nilp)) fc==1 then bif decide (0≤i∧i<(steps.length:Int)) then bif owedK st (curR rt nn st wy fc hops steps parts nm) i (fi 0 (parts.getD i.toNat .nilp)) fc != 0 then bif decide (out.length+1≤4294967296) then Tree.eval (resume Db (callN Db (m+40)) n f 0 c67 (w169 rt nn st wy n1 n2 n3 fc hops steps parts nm (mv||true) (List.append out [D.agg [D.int .i64 (owedK st (curR rt nn st wy fc hops steps parts nm) i (fi 0 (parts.getD i.toNat .nilp)) fc),D.int .i64 rt,D.int .i64 nn,D.sl hopSh false (List.append hops [D.agg [D.int .i64 i,D.int .i64 (fi 3 (steps.getD i.toNat .nilp))]]),D.str (fs 4 (steps.getD i.toNat .nilp)),D.int .i64 0]]) (IntKind.wrap .i64 (i+1)))) else none else Tree.eval (resume Db (callN Db (m+40)) n f 0 c67 (w169 rt nn st wy n1 n2 n3 fc hops steps parts nm (mv||false) out (IntKind.wrap .i64 (i+1)))) else none else bif owedK st (curR rt nn st wy fc hops steps parts nm) i (fi 0 (parts.getD i.toNat .nilp)) fc != 0 then bif decide (out.length+1≤4294967296) then Tree.eval (resume Db (callN Db (m+40)) n f 0 c67 (w169 rt nn st wy n1 n2 n3 fc hops steps parts nm (mv||true) (List.append out [D.agg [D.int .i64 (owedK st (curR rt nn st wy fc hops steps parts nm) i (fi 0 (parts.getD i.toNat .nilp)) fc),D.int .i64 rt,D.int .i64 nn,D.sl hopSh false (List.append hops [D.agg [D.int .i64 i,D.int .i64 (fi 3 (steps.getD i.toNat .nilp))]]),D.str [],D.int .i64 0]]) (IntKind.wrap .i64 (i+1)))) else none else Tree.eval (resume Db (callN Db (m+40)) n f 0 c67 (w169 rt nn st wy n1 n2 n3 fc hops steps parts nm (mv||false) out (IntKind.wrap .i64 (i+1)))) else none else Tree.eval (resume Db (callN Db (m+40)) n f 0 c67 (w169 rt nn st wy n1 n2 n3 fc hops steps parts nm mv out (IntKind.wrap .i64 (i+1)))) else none else none else some (V.tup [],obB rt nn st wy n1 n2 n3 fc hops steps parts nm mv out):=by kernel_rfl
theorem x64a(m n:Nat)(rt nn st wy:Int)(n1 n2 n3 fc:Bool)(hops steps parts:List D)(nm:List UInt8):Tree.out (resumeR Db (callN Db (m+40)) n (.ret (.tup [],obA rt nn st wy n1 n2 n3 fc hops steps parts nm)) c22 (st64 rt nn st wy n1 n2 n3 fc hops steps parts nm))=bif (!n1||List.isEmpty hops)&&(decide (hops.length≤1000000)&&(decide (steps.length≤1000000)&&decide (parts.length≤1000000))) then bif tellOk rt nn st wy fc hops steps parts nm then some [D.sl noteSh false [D.agg [D.int .i64 (tellK st),D.int .i64 rt,D.int .i64 nn,D.sl hopSh n1 hops,D.str [],D.int .i64 (tellW st wy)]]] else some [D.sl noteSh true []] else none:=by kernel_rfl
theorem x64b(m n:Nat)(rt nn st wy:Int)(n1 n2 n3 fc:Bool)(hops steps parts:List D)(nm:List UInt8)(mv:Bool)(out:List D):Tree.out (resumeR Db (callN Db (m+40)) n (.ret (.tup [],obB rt nn st wy n1 n2 n3 fc hops steps parts nm mv out)) c22 (st64 rt nn st wy n1 n2 n3 fc hops steps parts nm))=bif (!n1||List.isEmpty hops)&&(decide (hops.length≤1000000)&&(decide (steps.length≤1000000)&&decide (parts.length≤1000000))) then bif tellOk rt nn st wy fc hops steps parts nm then bif decide (out.length+1≤4294967296) then some [D.sl noteSh false (List.append out [D.agg [D.int .i64 (tellK st),D.int .i64 rt,D.int .i64 nn,D.sl hopSh n1 hops,D.str [],D.int .i64 (tellW st wy)]])] else none else some [D.sl noteSh false out] else none:=by kernel_rfl
open Go Go.AM
set_option maxRecDepth 20000
def oweN(kf:Int→Int→Int)(rt nn:Int)(hops steps parts:List D)(i:Nat):List D:=
 bif fs 4 (steps.getD i .nilp)==[] then [] else bif kidOk rt nn hops i (fi 3 (steps.getD i .nilp)) then
  bif kf i (fi 0 (parts.getD i .nilp))==0 then [] else [noteD (kf i (fi 0 (parts.getD i .nilp))) rt nn false (hops++[hpD i (fi 3 (steps.getD i .nilp))]) (bif kf i (fi 0 (parts.getD i .nilp))==1 then fs 4 (steps.getD i .nilp) else []) 0] else []
def dueL(kf:Int→Int→Int)(rt nn:Int)(hops steps parts:List D):Nat→Nat→List D
 | 0,_=>[]
 | d+1,i=>oweN kf rt nn hops steps parts i++dueL kf rt nn hops steps parts d (i+1)
def ow(st c:Int)(fc:Bool):Int→Int→Int:=fun i p=>owedK st c i p fc
theorem lp169b(m n:Nat)(rt nn st wy:Int)(n1 n2 n3 fc:Bool)(hops steps parts:List D)(nm:List UInt8)(h1:n1=true→hops=[])(l1:hops.length≤1000000)(l2:steps.length≤1000000)(l3:parts.length≤1000000)(hl:steps.length≤parts.length):
  ∀d i f mv out,i+d=steps.length→d<f→out.length+d≤2000000→ ∃mv',(resume Db (callN Db (m+40)) n f 0 c67 (w169 rt nn st wy n1 n2 n3 fc hops steps parts nm mv out (i:Nat))).eval=some (.tup [],obB rt nn st wy n1 n2 n3 fc hops steps parts nm mv' (out++dueL (ow st (curR rt nn st wy fc hops steps parts nm) fc) rt nn hops steps parts d i)):=by
 have hg:((!n1||List.isEmpty hops)&&decide (hops.length≤1000000))=true:=by
  rw [decide_eq_true l1]
  cases n1 with
  | false=>rfl
  | true=>rw [h1 rfl];rfl
 intro d
 induction d with
 | zero=>
  intro i f mv out hi hf ho
  cases f with
  | zero=>omega
  | succ f=>
   have:i=steps.length:=by omega
   subst this
   refine ⟨mv,?_⟩
   rw [z169]
   refine (cf (dec_end _)).trans ?_
   unfold dueL
   rw [List.append_nil]
 | succ d ih=>
  intro i f mv out hi hf ho
  cases f with
  | zero=>omega
  | succ f=>
   have hlt:i<steps.length:=by omega
   have hp:decide (0≤(i:Int)∧(i:Int)<(parts.length:Int))=true:=decide_eq_true (by omega)
   rw [z169,hg,wrap_up hlt l2,hp,decide_eq_true l2,decide_eq_true l3]
   simp only [Int.toNat_natCast,dec_lt hlt,dec_ix hlt,cond_true,Bool.and_self,decide_eq_true (show out.length+1≤4294967296 by omega)]
   have e:dueL (ow st (curR rt nn st wy fc hops steps parts nm) fc) rt nn hops steps parts (d+1) i=oweN (ow st (curR rt nn st wy fc hops steps parts nm) fc) rt nn hops steps parts i++dueL (ow st (curR rt nn st wy fc hops steps parts nm) fc) rt nn hops steps parts d (i+1):=rfl
   rw [e]
   unfold oweN
   cases hs:(fs 4 (steps.getD i .nilp)==[])
   ·cases hk:kidOk rt nn hops i (fi 3 (steps.getD i .nilp))
    ·exact ih (i+1) f mv out (by omega) (by omega) (by omega)
    ·cases h0:(owedK st (curR rt nn st wy fc hops steps parts nm) i (fi 0 (parts.getD i .nilp)) fc==0)
     ·have hne:(owedK st (curR rt nn st wy fc hops steps parts nm) i (fi 0 (parts.getD i .nilp)) fc != 0)=true:=by rw [bne,h0];rfl
      have h0':(ow st (curR rt nn st wy fc hops steps parts nm) fc i (fi 0 (parts.getD i .nilp))==0)=false:=h0
      rw [hne]
      simp only [h0',cond_false,cond_true]
      cases h1k:(owedK st (curR rt nn st wy fc hops steps parts nm) i (fi 0 (parts.getD i .nilp)) fc==1)
      ·have h1':(ow st (curR rt nn st wy fc hops steps parts nm) fc i (fi 0 (parts.getD i .nilp))==1)=false:=h1k
       simp only [h1',cond_false]
       obtain ⟨mv',h⟩:=ih (i+1) f (mv||true) (out++[noteD (ow st (curR rt nn st wy fc hops steps parts nm) fc i (fi 0 (parts.getD i .nilp))) rt nn false (hops++[hpD i (fi 3 (steps.getD i .nilp))]) [] 0]) (by omega) (by omega) (by simp only [List.length_append,List.length_cons,List.length_nil];omega)
       exact ⟨mv',by rw [←List.append_assoc];exact h⟩
      ·have h1':(ow st (curR rt nn st wy fc hops steps parts nm) fc i (fi 0 (parts.getD i .nilp))==1)=true:=h1k
       simp only [h1',cond_true]
       obtain ⟨mv',h⟩:=ih (i+1) f (mv||true) (out++[noteD (ow st (curR rt nn st wy fc hops steps parts nm) fc i (fi 0 (parts.getD i .nilp))) rt nn false (hops++[hpD i (fi 3 (steps.getD i .nilp))]) (fs 4 (steps.getD i .nilp)) 0]) (by omega) (by omega) (by simp only [List.length_append,List.length_cons,List.length_nil];omega)
       exact ⟨mv',by rw [←List.append_assoc];exact h⟩
     ·have hne:(owedK st (curR rt nn st wy fc hops steps parts nm) i (fi 0 (parts.getD i .nilp)) fc != 0)=false:=by rw [bne,h0];rfl
      have h0':(ow st (curR rt nn st wy fc hops steps parts nm) fc i (fi 0 (parts.getD i .nilp))==0)=true:=h0
      have h1k:(owedK st (curR rt nn st wy fc hops steps parts nm) i (fi 0 (parts.getD i .nilp)) fc==1)=false:=by
       rw [beq_iff_eq] at h0
       rw [h0];rfl
      rw [hne,h1k]
      simp only [h0',cond_true]
      exact ih (i+1) f (mv||false) out (by omega) (by omega) (by omega)
   ·exact ih (i+1) f mv out (by omega) (by omega) (by omega)
theorem lp169(m n:Nat)(rt nn st wy:Int)(n1 n2 n3 fc:Bool)(hops steps parts:List D)(nm:List UInt8)(h1:n1=true→hops=[])(l1:hops.length≤1000000)(l2:steps.length≤1000000)(l3:parts.length≤1000000)(hl:steps.length≤parts.length):
  ∀d i f,i+d=steps.length→d<f→((resume Db (callN Db (m+40)) n f 0 c67 (v169 rt nn st wy n1 n2 n3 fc hops steps parts nm (i:Nat))).eval=some (.tup [],obA rt nn st wy n1 n2 n3 fc hops steps parts nm)∧dueL (ow st (curR rt nn st wy fc hops steps parts nm) fc) rt nn hops steps parts d i=[])∨
   ∃mv' x l,dueL (ow st (curR rt nn st wy fc hops steps parts nm) fc) rt nn hops steps parts d i=x :: l∧(resume Db (callN Db (m+40)) n f 0 c67 (v169 rt nn st wy n1 n2 n3 fc hops steps parts nm (i:Nat))).eval=some (.tup [],obB rt nn st wy n1 n2 n3 fc hops steps parts nm mv' (x :: l)):=by
 have hg:((!n1||List.isEmpty hops)&&decide (hops.length≤1000000))=true:=by
  rw [decide_eq_true l1]
  cases n1 with
  | false=>rfl
  | true=>rw [h1 rfl];rfl
 intro d
 induction d with
 | zero=>
  intro i f hi hf
  cases f with
  | zero=>omega
  | succ f=>
   have:i=steps.length:=by omega
   subst this
   refine .inl ⟨?_,rfl⟩
   rw [y169]
   exact cf (dec_end _)
 | succ d ih=>
  intro i f hi hf
  cases f with
  | zero=>omega
  | succ f=>
   have hlt:i<steps.length:=by omega
   have hp:decide (0≤(i:Int)∧(i:Int)<(parts.length:Int))=true:=decide_eq_true (by omega)
   rw [y169,hg,wrap_up hlt l2,hp,decide_eq_true l2,decide_eq_true l3]
   simp only [Int.toNat_natCast,dec_lt hlt,dec_ix hlt,cond_true,Bool.and_self]
   have e:dueL (ow st (curR rt nn st wy fc hops steps parts nm) fc) rt nn hops steps parts (d+1) i=oweN (ow st (curR rt nn st wy fc hops steps parts nm) fc) rt nn hops steps parts i++dueL (ow st (curR rt nn st wy fc hops steps parts nm) fc) rt nn hops steps parts d (i+1):=rfl
   rw [e]
   unfold oweN
   cases hs:(fs 4 (steps.getD i .nilp)==[])
   ·cases hk:kidOk rt nn hops i (fi 3 (steps.getD i .nilp))
    ·exact ih (i+1) f (by omega) (by omega)
    ·cases h0:(owedK st (curR rt nn st wy fc hops steps parts nm) i (fi 0 (parts.getD i .nilp)) fc==0)
     ·have hne:(owedK st (curR rt nn st wy fc hops steps parts nm) i (fi 0 (parts.getD i .nilp)) fc != 0)=true:=by rw [bne,h0];rfl
      have h0':(ow st (curR rt nn st wy fc hops steps parts nm) fc i (fi 0 (parts.getD i .nilp))==0)=false:=h0
      rw [hne]
      simp only [h0',cond_false,cond_true]
      refine .inr ?_
      cases h1k:(owedK st (curR rt nn st wy fc hops steps parts nm) i (fi 0 (parts.getD i .nilp)) fc==1)
      ·have h1':(ow st (curR rt nn st wy fc hops steps parts nm) fc i (fi 0 (parts.getD i .nilp))==1)=false:=h1k
       simp only [h1',cond_false]
       obtain ⟨mv',h⟩:=lp169b m n rt nn st wy n1 n2 n3 fc hops steps parts nm h1 l1 l2 l3 hl d (i+1) f false [noteD (ow st (curR rt nn st wy fc hops steps parts nm) fc i (fi 0 (parts.getD i .nilp))) rt nn false (hops++[hpD i (fi 3 (steps.getD i .nilp))]) [] 0] (by omega) (by omega) (by simp only [List.length_cons,List.length_nil];omega)
       exact ⟨mv',_,_,rfl,h⟩
      ·have h1':(ow st (curR rt nn st wy fc hops steps parts nm) fc i (fi 0 (parts.getD i .nilp))==1)=true:=h1k
       simp only [h1',cond_true]
       obtain ⟨mv',h⟩:=lp169b m n rt nn st wy n1 n2 n3 fc hops steps parts nm h1 l1 l2 l3 hl d (i+1) f false [noteD (ow st (curR rt nn st wy fc hops steps parts nm) fc i (fi 0 (parts.getD i .nilp))) rt nn false (hops++[hpD i (fi 3 (steps.getD i .nilp))]) (fs 4 (steps.getD i .nilp)) 0] (by omega) (by omega) (by simp only [List.length_cons,List.length_nil];omega)
       exact ⟨mv',_,_,rfl,h⟩
     ·have hne:(owedK st (curR rt nn st wy fc hops steps parts nm) i (fi 0 (parts.getD i .nilp)) fc != 0)=false:=by rw [bne,h0];rfl
      have h0':(ow st (curR rt nn st wy fc hops steps parts nm) fc i (fi 0 (parts.getD i .nilp))==0)=true:=h0
      have h1k:(owedK st (curR rt nn st wy fc hops steps parts nm) i (fi 0 (parts.getD i .nilp)) fc==1)=false:=by
       rw [beq_iff_eq] at h0
       rw [h0];rfl
      rw [hne,h1k]
      simp only [h0',cond_true]
      exact ih (i+1) f (by omega) (by omega)
   ·exact ih (i+1) f (by omega) (by omega)
def tellL(rt nn st wy:Int)(n1 fc:Bool)(hops steps parts:List D)(nm:List UInt8):List D:=bif tellOk rt nn st wy fc hops steps parts nm then [noteD (tellK st) rt nn n1 hops [] (tellW st wy)] else []
def ofL(rt nn st wy:Int)(n1 fc:Bool)(hops steps parts:List D)(nm:List UInt8):List D:=dueL (ow st (curR rt nn st wy fc hops steps parts nm) fc) rt nn hops steps parts steps.length 0++tellL rt nn st wy n1 fc hops steps parts nm
theorem dueL_le(kf:Int→Int→Int)(rt nn:Int)(hops steps parts:List D): ∀d i,(dueL kf rt nn hops steps parts d i).length≤d
 | 0,i=>by simp [dueL]
 | d+1,i=>by
  have:=dueL_le kf rt nn hops steps parts d (i+1)
  have h1:(oweN kf rt nn hops steps parts i).length≤1:=by
   unfold oweN
   cases (fs 4 (steps.getD i .nilp)==[]) <;> cases kidOk rt nn hops i (fi 3 (steps.getD i .nilp)) <;> cases (kf i (fi 0 (parts.getD i .nilp))==0) <;> simp
  unfold dueL
  rw [List.length_append];omega
theorem rn64(m n:Nat)(rt nn st wy:Int)(n1 n2 n3 fc:Bool)(hops steps parts:List D)(nm:List UInt8)(h1:n1=true→hops=[])(l1:hops.length≤1000000)(l2:steps.length≤1000000)(l3:parts.length≤1000000)(hl:steps.length≤parts.length)(hm:steps.length<m+40):
  (enterM Db (callN Db (m+1+40)) n c22 [.d (sagaD rt nn st wy n1 n2 n3 fc hops steps parts nm)] []).out=some [.sl noteSh (ofL rt nn st wy n1 fc hops steps parts nm).isEmpty (ofL rt nn st wy n1 fc hops steps parts nm)]:=by
 have g:((!n1||hops.isEmpty)&&(decide (hops.length≤1000000)&&(decide (steps.length≤1000000)&&decide (parts.length≤1000000))))=true:=by
  rw [decide_eq_true l1,decide_eq_true l2,decide_eq_true l3]
  cases n1 with
  | false=>rfl
  | true=>rw [h1 rfl];rfl
 have hc: ∀p,(enterM Db (callN Db (m+40)) (m+40) c67 [.yl 0,.ptr 3 0] (obA rt nn st wy n1 n2 n3 fc hops steps parts nm)).eval=some p→(callN Db (m+1+40) 67 [.yl 0,.ptr 3 0] (obA rt nn st wy n1 n2 n3 fc hops steps parts nm)).eval=some p:=fun p h=>by
  rw [show m+1+40=(m+40)+1 by omega,callN_succ (fn:=c67) rfl];exact h
 have hn:Db.con 67=none:=by kernel_rfl
 have hd:=dueL_le (ow st (curR rt nn st wy fc hops steps parts nm) fc) rt nn hops steps parts steps.length 0
 rcases lp169 m (m+40) rt nn st wy n1 n2 n3 fc hops steps parts nm h1 l1 l2 l3 hl steps.length 0 (m+40) (by omega) hm with ⟨he,h0⟩ | ⟨mv,x,l,h0,he⟩
 ·refine outM_rfn hn (hc _ ((x169 m (m+40) rt nn st wy n1 n2 n3 fc hops steps parts nm).trans he)) (hd64 (m+1) n rt nn st wy n1 n2 n3 fc hops steps parts nm) (rc64_call rt nn st wy n1 n2 n3 fc hops steps parts nm) ?_
  rw [x64a,g]
  unfold ofL tellL
  rw [h0]
  cases tellOk rt nn st wy fc hops steps parts nm <;> rfl
 ·rw [h0] at hd
  refine outM_rfn hn (hc _ ((x169 m (m+40) rt nn st wy n1 n2 n3 fc hops steps parts nm).trans he)) (hd64 (m+1) n rt nn st wy n1 n2 n3 fc hops steps parts nm) (rc64_call rt nn st wy n1 n2 n3 fc hops steps parts nm) ?_
  rw [x64b,g,decide_eq_true (show (x :: l).length+1≤4294967296 by omega)]
  unfold ofL tellL
  rw [h0]
  cases tellOk rt nn st wy fc hops steps parts nm
  ·simp only [cond_false,cond_true,List.append_nil];rfl
  ·rfl
def g64d:List D→Tree (List D)
 | [.agg [.int .i64 rt,.int .i64 nn,.sl e0h n1 hops,.str nm,.sl e0s _n2 steps,.int .i64 st,.int .i64 wy,.sl e0p _n3 parts,.bool fc]]=>match Sh.beq e0h hopSh&&Sh.beq e0s stepSh&&Sh.beq e0p partSh with
  | true=> .ite ((!n1||hops.isEmpty)&&(decide (hops.length≤1000000)&&(decide (steps.length≤1000000)&&(decide (parts.length≤1000000)&&decide (steps.length≤parts.length))))) (fun _=> .ret [.sl noteSh (ofL rt nn st wy n1 fc hops steps parts nm).isEmpty (ofL rt nn st wy n1 fc hops steps parts nm)]) (fun _=> .stuck)
  | false=> .stuck
 | _=> .stuck
theorem pure64d{P:Program}(hm:P.follows .mixedOrders=true)(h0:EnvOK P Db):PureOK P 22 g64d:=PureOK.run hm h0 fun ds rs h=>by
 unfold g64d at h
 split at h
 ·rename_i rt nn e0h n1 hops nm e0s n2 steps st wy e0p n3 parts fc
  split at h
  ·rename_i hb
   simp only [Bool.and_eq_true] at hb
   obtain ⟨⟨hb0,hb1⟩,hb2⟩:=hb
   have hb0:=Sh.beq_eq hb0
   have hb1:=Sh.beq_eq hb1
   have hb2:=Sh.beq_eq hb2
   subst hb0 hb1 hb2
   obtain ⟨hg,h'⟩:=eval_guard h
   clear h
   simp only [Bool.and_eq_true,decide_eq_true_eq] at hg
   cases h'
   exact ⟨(steps.length+1+40)+1,by rw [callN_succ (fn:=c22) rfl];exact rn64 steps.length (steps.length+41) rt nn st wy n1 n2 n3 fc hops steps parts nm (fun h=>by rw [h] at hg;exact List.isEmpty_iff.1 hg.1) hg.2.1 hg.2.2.1 hg.2.2.2.1 hg.2.2.2.2 (by omega)⟩
  ·cases h
 ·cases h
def Dc:Env:=Db.pureAt 22 false g64d
theorem okDc{P:Program}(hm:P.follows .mixedOrders=true)(h:EnvOK P Db):EnvOK P Dc:=h.pureAt (pure64d hm h)
theorem x26(m n:Nat)(og ep co:Int)(na nm' nb ns:Bool)(zas ms bs ss:List D)(rt nn st wy:Int)(n1 n2 n3 fc:Bool)(hops steps parts:List D)(nm:List UInt8):Tree.out (enterM Dc (callN Dc (m+40)) n c13 [.d (stD og ep co na nm' nb ns zas ms bs ss),.d (sagaD rt nn st wy n1 n2 n3 fc hops steps parts nm)] [])=bif decide (steps.length≤1000000) then bif decide (parts.length≤1000000) then bif (bif mayOk rt nn st wy fc hops steps parts nm then (0:Int) else (230:Int)) != 0 then some [D.sl noteSh true []] else bif orgOfId rt nn hops != og then some [D.sl noteSh true []] else bif (!n1||List.isEmpty hops)&&(decide (hops.length≤1000000)&&(decide (steps.length≤1000000)&&(decide (parts.length≤1000000)&&decide (steps.length≤parts.length)))) then some [D.sl noteSh (List.isEmpty (ofL rt nn st wy n1 fc hops steps parts nm)) (ofL rt nn st wy n1 fc hops steps parts nm)] else none else none else none:=by kernel_rfl
theorem may_lens{rt nn st wy:Int}{fc:Bool}{hops steps parts:List D}{nm:List UInt8}(h:mayOk rt nn st wy fc hops steps parts nm=true):parts.length=steps.length∧steps.length≤8∧hops.length≤4:=by
 have hid:=mayOk_id h
 have h4:=(idOk_iff.1 hid).2.1
 by_cases h7:st=7
 ·subst h7
  unfold mayOk at h
  have:((7:Int)==7)=true:=rfl
  rw [this,hid] at h
  cases hd:decide (0<(steps.length:Int)+(parts.length:Int))
  ·have:=of_decide_eq_false hd
   omega
  ·rw [hd] at h
   cases hn:(nm==[]) <;> rw [hn] at h <;> cases h
 ·have:=mayOk_len h h7
  omega
def duesOf(og:Int)(rt nn st wy:Int)(n1 fc:Bool)(hops steps parts:List D)(nm:List UInt8):List D:=bif mayOk rt nn st wy fc hops steps parts nm&&(orgOfId rt nn hops==og) then ofL rt nn st wy n1 fc hops steps parts nm else []
theorem curR_may{rt nn st wy:Int}{fc:Bool}{hops steps parts:List D}{nm:List UInt8}(h:mayOk rt nn st wy fc hops steps parts nm=true):curR rt nn st wy fc hops steps parts nm=cur st parts:=by
 unfold curR
 rw [h];rfl
theorem rn26(m n:Nat)(og ep co:Int)(na nm' nb ns:Bool)(zas ms bs ss:List D)(rt nn st wy:Int)(n1 n2 n3 fc:Bool)(hops steps parts:List D)(nm:List UInt8)(h1:n1=true→hops=[])(l2:steps.length≤1000000)(l3:parts.length≤1000000):
  (enterM Dc (callN Dc (m+40)) n c13 [.d (stD og ep co na nm' nb ns zas ms bs ss),.d (sagaD rt nn st wy n1 n2 n3 fc hops steps parts nm)] []).out=some [.sl noteSh (duesOf og rt nn st wy n1 fc hops steps parts nm).isEmpty (duesOf og rt nn st wy n1 fc hops steps parts nm)]:=by
 rw [x26,ne0 _ 230 (by decide),decide_eq_true l2,decide_eq_true l3]
 unfold duesOf
 cases hm:mayOk rt nn st wy fc hops steps parts nm
 ·rfl
 ·obtain ⟨hl,h8,h4⟩:=may_lens hm
  have g:((!n1||hops.isEmpty)&&(decide (hops.length≤1000000)&&(true&&(true&&decide (steps.length≤parts.length)))))=true:=by
   rw [decide_eq_true (show hops.length≤1000000 by omega),decide_eq_true (show steps.length≤parts.length by omega)]
   cases n1 with
   | false=>rfl
   | true=>rw [h1 rfl];rfl
  rw [g]
  cases ho:(orgOfId rt nn hops==og)
  ·have ho':(orgOfId rt nn hops != og)=true:=by rw [bne,ho];rfl
   rw [ho'];rfl
  ·have ho':(orgOfId rt nn hops != og)=false:=by rw [bne,ho];rfl
   rw [ho'];rfl
def g26d:List D→Tree (List D)
 | [.agg [.int .i64 og,.int .i64 _ep,.int .i64 _co,.sl e0a _na _as,.sl e0m _nm' _ms,.sl e0b _nb _bs,.sl e0s _ns _ss],.agg [.int .i64 rt,.int .i64 nn,.sl e1h n1 hops,.str nm,.sl e1s _n2 steps,.int .i64 st,.int .i64 wy,.sl e1p _n3 parts,.bool fc]]=>match Sh.beq e0a accSh&&Sh.beq e0m mrkSh&&Sh.beq e0b defSh&&Sh.beq e0s sgSh&&Sh.beq e1h hopSh&&Sh.beq e1s stepSh&&Sh.beq e1p partSh with
  | true=> .ite ((!n1||hops.isEmpty)&&(decide (steps.length≤1000000)&&decide (parts.length≤1000000))) (fun _=> .ret [.sl noteSh (duesOf og rt nn st wy n1 fc hops steps parts nm).isEmpty (duesOf og rt nn st wy n1 fc hops steps parts nm)]) (fun _=> .stuck)
  | false=> .stuck
 | _=> .stuck
theorem pure26d{P:Program}(hm:P.follows .mixedOrders=true)(h0:EnvOK P Dc):PureOK P 13 g26d:=PureOK.run hm h0 fun ds rs h=>by
 unfold g26d at h
 split at h
 ·rename_i og ep co e0a na zas e0m nm' ms e0b nb bs e0s ns ss rt nn e1h n1 hops nm e1s n2 steps st wy e1p n3 parts fc
  split at h
  ·rename_i hb
   simp only [Bool.and_eq_true] at hb
   obtain ⟨⟨⟨⟨⟨⟨hb0,hb1⟩,hb2⟩,hb3⟩,hb4⟩,hb5⟩,hb6⟩:=hb
   have hb0:=Sh.beq_eq hb0
   have hb1:=Sh.beq_eq hb1
   have hb2:=Sh.beq_eq hb2
   have hb3:=Sh.beq_eq hb3
   have hb4:=Sh.beq_eq hb4
   have hb5:=Sh.beq_eq hb5
   have hb6:=Sh.beq_eq hb6
   subst hb0 hb1 hb2 hb3 hb4 hb5 hb6
   obtain ⟨hg,h'⟩:=eval_guard h
   clear h
   simp only [Bool.and_eq_true,decide_eq_true_eq] at hg
   cases h'
   exact ⟨59+1,by rw [callN_succ (fn:=c13) rfl];exact rn26 19 59 og ep co na nm' nb ns zas ms bs ss rt nn st wy n1 n2 n3 fc hops steps parts nm (fun h=>by rw [h] at hg;exact List.isEmpty_iff.1 hg.1) hg.2.1 hg.2.2⟩
  ·cases h
 ·cases h
def Dd:Env:=Dc.pureAt 13 false g26d
theorem okDd{P:Program}(hm:P.follows .mixedOrders=true)(h:EnvOK P Dc):EnvOK P Dd:=h.pureAt (pure26d hm h)
theorem dueL_mem{kf:Int→Int→Int}{rt nn:Int}{hops steps parts:List D}{x:D}: ∀d i:Nat,x∈dueL kf rt nn hops steps parts d i→ ∃j,i≤j∧j<i+d∧x∈oweN kf rt nn hops steps parts j
 | 0,i,h=>by simp [dueL] at h
 | d+1,i,h=>by
  unfold dueL at h
  rcases List.mem_append.1 h with h | h
  ·exact ⟨i,by omega,by omega,h⟩
  ·obtain ⟨j,h1,h2,h3⟩:=dueL_mem d (i+1) h
   exact ⟨j,by omega,by omega,h3⟩
theorem oweN_mem{kf:Int→Int→Int}{rt nn:Int}{hops steps parts:List D}{x:D}{i:Nat}(h:x∈oweN kf rt nn hops steps parts i):
  (fs 4 (steps.getD i .nilp)==[])=false∧kidOk rt nn hops i (fi 3 (steps.getD i .nilp))=true∧(kf i (fi 0 (parts.getD i .nilp))==0)=false∧
   x=noteD (kf i (fi 0 (parts.getD i .nilp))) rt nn false (hops++[hpD i (fi 3 (steps.getD i .nilp))]) (bif kf i (fi 0 (parts.getD i .nilp))==1 then fs 4 (steps.getD i .nilp) else []) 0:=by
 unfold oweN at h
 cases h1:(fs 4 (steps.getD i .nilp)==[])
 ·cases h2:kidOk rt nn hops i (fi 3 (steps.getD i .nilp))
  ·rw [h1,h2] at h;cases h
  ·cases h3:(kf i (fi 0 (parts.getD i .nilp))==0)
   ·rw [h1,h2,h3] at h
    exact ⟨rfl,rfl,rfl,List.mem_singleton.1 h⟩
   ·rw [h1,h2,h3] at h;cases h
 ·rw [h1] at h;cases h
theorem ofL_in{rt nn st wy:Int}{n1 fc:Bool}{hops steps parts:List D}{nm:List UInt8}{x:D}(h:x∈ofL rt nn st wy n1 fc hops steps parts nm):(fl 3 x).length≤hops.length+1:=by
 unfold ofL at h
 rcases List.mem_append.1 h with h | h
 ·obtain ⟨j,-,-,hx⟩:=dueL_mem _ _ h
  obtain ⟨-,-,-,rfl⟩:=oweN_mem hx
  show (hops++[hpD j (fi 3 (steps.getD j .nilp))]).length≤_
  simp
 ·unfold tellL at h
  cases ht:tellOk rt nn st wy fc hops steps parts nm
  ·rw [ht] at h;cases h
  ·rw [ht] at h
   obtain rfl:=List.mem_singleton.1 h
   show hops.length≤_
   omega
theorem ofL_le{rt nn st wy:Int}{n1 fc:Bool}{hops steps parts:List D}{nm:List UInt8}:(ofL rt nn st wy n1 fc hops steps parts nm).length≤steps.length+1:=by
 have hd:=dueL_le (ow st (curR rt nn st wy fc hops steps parts nm) fc) rt nn hops steps parts steps.length 0
 unfold ofL
 rw [List.length_append]
 have:(tellL rt nn st wy n1 fc hops steps parts nm).length≤1:=by
  unfold tellL
  cases tellOk rt nn st wy fc hops steps parts nm <;> simp
 omega
theorem duesOf_in{og rt nn st wy:Int}{n1 fc:Bool}{hops steps parts:List D}{nm:List UInt8}:(∀x∈duesOf og rt nn st wy n1 fc hops steps parts nm,(fl 3 x).length≤5)∧(duesOf og rt nn st wy n1 fc hops steps parts nm).length≤9:=by
 unfold duesOf
 cases h:mayOk rt nn st wy fc hops steps parts nm&&(orgOfId rt nn hops==og)
 ·exact ⟨(fun _ h=>by cases h),by simp⟩
 ·simp only [cond_true]
  obtain ⟨hl,h8,h4⟩:=may_lens (Bool.and_eq_true _ _ ▸ h).1
  exact ⟨fun x hx=>by have:=ofL_in hx;omega,by have:=ofL_le (rt:=rt) (nn:=nn) (st:=st) (wy:=wy) (n1:=n1) (fc:=fc) (hops:=hops) (steps:=steps) (parts:=parts) (nm:=nm);omega⟩
theorem okEV2:EnvOK Tryd.prog EV2:=((okE0.pureAt (PureOK.self mixed okE0 60 13)).pureAt (PureOK.self mixed okE0 60 7)).pureAt (PureOK.self mixed okE0 60 21)
theorem pureAw27:PureOK Tryd.prog 6 g20:=PureOK.run mixed okEV2 fun ds rs h=>by
 unfold g20 at h
 split at h
 ·cases h
  exact ⟨60,awake27_run⟩
 ·cases h
theorem okDdt:EnvOK Tryd.prog Dd:=okDd mixed (okDc mixed (okDb mixed (okDa mixed (okMt mixed (okMs mixed okMqt)))))
end Go.Proofs.YtkjiaijkdefkgaaDoor.A
