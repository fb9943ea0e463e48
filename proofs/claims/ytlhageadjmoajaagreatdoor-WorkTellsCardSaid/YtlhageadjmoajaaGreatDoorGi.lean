/- Parts of the walk: Mr, Ms, QMt, Mt, QMu, Mu, Mv, My, AMEntry, AMLaw, PG, PT, QDa, Db, QWb, Wb, QWa, Dc, Dd, Wc, QWd, We, Xc, V3, M6. -/
import Derived.Test.YtlhageadjmoajaaGreatDoorGh
import Derived.KernelRfl
import Derived.ChangeArms
import Derived.OpenShut
import Derived.DataReads
import Derived.ChangeSame
import Derived.ChangeShapes
import Derived.WideKeyArgs
import Derived.Handed
import Derived.RowKit
import Derived.SevenTiedAt
import Derived.Stop.Joined
import Derived.ProofKit
import Derived.LaidMore
set_option maxRecDepth 20000
namespace Go.Proofs.YtlhageadjmoajaaGreatDoor.A
open Go Go.AM
set_option maxRecDepth 20000
theorem bs_loop{α:Type}(R:Nat→Nat→Nat→Option α)(n:Nat)(p:Nat→Bool)(fin:Nat→α)
  (hstop: ∀g i j,¬i<j→i≤n→R (g+1) i j=some (fin i))
  (hstep: ∀g i j,i<j→j≤n→R (g+1) i j=bif p ((i+j) / 2) then R g ((i+j) / 2+1) j else R g i ((i+j) / 2)):
  ∀f i j g,j - i≤f→f<g→i≤n→j≤n→R g i j=some (fin (bsF p f i j)):=by
 intro f
 induction f with
 | zero=>
  intro i j g hf hg hi hj
  cases g with
  | zero=>omega
  | succ g=>exact hstop g i j (by omega) hi
 | succ f ih=>
  intro i j g hf hg hi hj
  cases g with
  | zero=>omega
  | succ g=>
   by_cases hij:i<j
   ·rw [hstep g i j hij hj]
    simp only [bsF]
    rw [decide_eq_true hij,cond_true]
    cases p ((i+j) / 2)
    ·exact ih i ((i+j) / 2) g (by omega) (by omega) hi (by omega)
    ·exact ih ((i+j) / 2+1) j g (by omega) (by omega) (by omega) hj
   ·rw [hstop g i j hij hi]
    simp only [bsF]
    rw [decide_eq_false hij,cond_false]
def cmpAt(r q:Int)(es ss:List D)(i:Nat):Int:=idCmp (fi 0 (ss.getD i .nilp)) (fi 1 (ss.getD i .nilp)) r q (fl 2 (ss.getD i .nilp)) es
def plcS(r q:Int)(es ss:List D):Nat:=bsF (fun i=>decide (cmpAt r q es ss i<0)) ss.length 0 ss.length
def foundS(r q:Int)(es ss:List D)(i:Nat):Bool:=bif decide ((i:Int)<(ss.length:Int)) then cmpAt r q es ss i==0 else false
def thereS(r q:Int)(es ss:List D):Bool:=foundS r q es ss (plcS r q es ss)
theorem rn159(m n:Nat)(ns:Bool)(ss:List D)(r q:Int)(nil:Bool)(es:List D)(hl:ss.length≤1000000)(h2: ∀k,k<ss.length→(fl 2 (ss.getD k .nilp)).length≤1000000)(hn:ss.length<n):
  (enterM Mq (callN Mq (m+40)) n c129 [.d (.sl sgSh ns ss),.d (.agg [.int .i64 r,.int .i64 q,.sl hopSh nil es]),.fn 130 [] []] []).outG=some (.tup [.d (.int .i64 (plcS r q es ss:Nat)),.d (.bool (thereS r q es ss))],[]):=by
 rw [x159]
 refine bs_loop (fun g i j=>(resume Mq (callN Mq (m+40)) n g 0 c129 (v159 ns ss r q nil es (i:Nat) (j:Nat))).outG) ss.length (fun i=>decide (cmpAt r q es ss i<0)) (fun i=>((.tup [.d (.int .i64 (i:Nat)),.d (.bool (foundS r q es ss i))],[]):V×Obs)) (fun g i j hij hi=> ?_) (fun g i j hij hj=> ?_) ss.length 0 ss.length n (by omega) hn (by omega) (by omega)
 ·show (resume Mq (callN Mq (m+40)) n (g+1) 0 c129 (v159 ns ss r q nil es (i:Nat) (j:Nat))).outG=_
  rw [y159]
  refine (cf (decide_eq_false (by omega))).trans ?_
  unfold foundS
  by_cases hlt:i<ss.length
  ·simp only [Int.toNat_natCast]
   refine (ct (dec_lt hlt)).trans ((ct (dec_ix hlt)).trans ((ct (decide_eq_true (h2 i hlt))).trans ?_))
   rw [dec_lt hlt];rfl
  ·have:decide ((i:Int)<(ss.length:Int))=false:=decide_eq_false (by omega)
   refine (cf this).trans ?_
   rw [this];rfl
 ·show (resume Mq (callN Mq (m+40)) n (g+1) 0 c129 (v159 ns ss r q nil es (i:Nat) (j:Nat))).outG=_
  have hh:=half (i:=i) (j:=j) (by omega) (by omega)
  have hlt:(i+j) / 2<ss.length:=by omega
  rw [y159,hh]
  simp only [Int.toNat_natCast,wrap_up hlt hl]
  refine (ct (decide_eq_true (by omega))).trans ((ct (dec_ix hlt)).trans ((ct (decide_eq_true (h2 _ hlt))).trans ?_))
  rfl
def C159(args:List V)(ob:Obs):Tree (V×Obs):=
 match args,ob with
 | [.d (.sl e _ns ss),.d (.agg [.int .i64 r,.int .i64 q,.sl eh _nil es]),.fn f [] []],[]=>match Sh.beq e sgSh&&(Sh.beq eh hopSh&&Nat.beq f 130) with
  | true=> .ite (sgsIn ss&&decide (ss.length≤1000000)) (fun _=> .ret (.tup [.d (.int .i64 (plcS r q es ss:Nat)),.d (.bool (thereS r q es ss))],[])) (fun _=> .stuck)
  | false=> .stuck
 | _,_=> .stuck
theorem fn159{P:Program}(hm:P.follows .mixedOrders=true)(h0:EnvOK P Mq):FnOK P 129 C159:=FnOK.runG hm h0 fun args ob r h=>by
 unfold C159 at h
 split at h
 ·rename_i e ns ss r q eh nil es f
  split at h
  ·rename_i hb
   simp only [Bool.and_eq_true] at hb
   have hb1:=Sh.beq_eq hb.1
   have hb2:=Sh.beq_eq hb.2.1
   have hb3:=Nat.eq_of_beq_eq_true hb.2.2
   subst hb1 hb2 hb3
   obtain ⟨hg,h'⟩:=eval_guard h
   clear h
   simp only [Bool.and_eq_true,decide_eq_true_eq] at hg
   cases h'
   exact ⟨(ss.length+40)+1,by rw [callN_succ (fn:=c129) rfl];exact rn159 ss.length (ss.length+40) ns ss r q nil es hg.2 (sgs_hops hg.1) (by omega)⟩
  ·cases h
 ·cases h
def idxS(r q:Int)(es ss:List D):Int:=idxOf (fun x=>refCmp (fi 0 x) (fi 1 x) (fl 2 x) r q es==0) ss
theorem rn119(m n:Nat)(og ep co:Int)(na nm' nb ns:Bool)(zas ms bs ss:List D)(r q:Int)(nil:Bool)(es:List D)(hl:ss.length≤1000000)(h2: ∀k,k<ss.length→(fl 2 (ss.getD k .nilp)).length≤1000000)(hn:ss.length<n):
  (enterM Mq (callN Mq (m+40)) n c70 [.d (stD og ep co na nm' nb ns zas ms bs ss),.d (.agg [.int .i64 r,.int .i64 q,.sl hopSh nil es])] []).out=some [.int .i64 (idxS r q es ss)]:=by
 rw [x119]
 have:=scan_loop (fun j i=>(resume Mq (callN Mq (m+40)) n j 0 c70 (v119 og ep co na nm' nb ns zas ms bs ss r q nil es (i:Nat))).out) ss.length (fun i=>refCmp (fi 0 (ss.getD i .nilp)) (fi 1 (ss.getD i .nilp)) (fl 2 (ss.getD i .nilp)) r q es==0) (fun i=>[D.int .i64 (i:Int)]) [.int .i64 (-1)]
  (fun j i hi=> ?_) (fun j=> ?_) ss.length 0 n (by omega) hn
 ·refine this.trans ?_
  rw [scan_map (fun x:Int=>[D.int .i64 x])]
  unfold idxS
  rw [←scan_idx0 (fun x=>refCmp (fi 0 x) (fi 1 x) (fl 2 x) r q es==0) .nilp ss]
 ·rw [y119]
  simp only [Int.toNat_natCast,wrap_up hi hl]
  exact (ct (dec_lt hi)).trans ((ct (dec_ix hi)).trans (ct (decide_eq_true (h2 i hi))))
 ·rw [y119]
  exact cf (dec_end _)
theorem scan_boolD(p:Nat→Bool)(n:Nat):scan (fun i=> !p i) (fun _=>[D.bool false]) [D.bool true] n 0=[D.bool (allN p n)]:=by
 unfold allN
 exact scan_map (fun x:Bool=>[D.bool x]) (fun i=> !p i) (fun _=>false) true n 0
def fewB(bs:List D):Bool:= !decide (100<(bs.length:Int))&&allN (fun i=> !decide (100<((fl 1 (bs.getD i .nilp)).length:Int))) bs.length
theorem rn50(m n:Nat)(nb:Bool)(bs:List D)(hn:100<n):(enterM Mq (callN Mq (m+40)) n c48 [.d (.sl defSh nb bs)] []).out=some [.bool (fewB bs)]:=by
 rw [x50]
 unfold fewB
 by_cases h:100<(bs.length:Int)
 ·rw [decide_eq_true h];rfl
 ·rw [decide_eq_false h]
  refine (cf rfl).trans ?_
  have:=scan_loop (fun j i=>(resume Mq (callN Mq (m+40)) n j 0 c48 (v50 nb bs (i:Nat))).out) bs.length (fun i=> !!decide (100<((fl 1 (bs.getD i .nilp)).length:Int))) (fun _=>[D.bool false]) [.bool true]
   (fun j i hi=> ?_) (fun j=> ?_) bs.length 0 n (by omega) (by omega)
  ·refine this.trans ?_
   rw [scan_boolD (fun i=> !decide (100<((fl 1 (bs.getD i .nilp)).length:Int)))]
   rfl
  ·rw [y50,Bool.not_not]
   simp only [Int.toNat_natCast,wrap_up hi (show bs.length≤1000000 by omega)]
   exact (ct (dec_lt hi)).trans (ct (dec_ix hi))
  ·rw [y50]
   exact cf (dec_end _)
def g119m:List D→Tree (List D)
 | [.agg [.int .i64 _og,.int .i64 _ep,.int .i64 _co,.sl e0a _na _as,.sl e0m _nm _ms,.sl e0b _nb _bs,.sl e0s _ns ss],.agg [.int .i64 r,.int .i64 q,.sl e1 _nil es]]=>match Sh.beq e0a accSh&&Sh.beq e0m mrkSh&&Sh.beq e0b defSh&&Sh.beq e0s sgSh&&Sh.beq e1 hopSh with
  | true=> .ite (sgsIn ss&&decide (ss.length≤1000000)) (fun _=> .ret [.int .i64 (idxS r q es ss)]) (fun _=> .stuck)
  | false=> .stuck
 | _=> .stuck
theorem pure119m{P:Program}(hm:P.follows .mixedOrders=true)(h0:EnvOK P Mq):PureOK P 70 g119m:=PureOK.run hm h0 fun ds rs h=>by
 unfold g119m at h
 split at h
 ·rename_i og ep co e0a na zas e0m nm ms e0b nb bs e0s ns ss r q e1 nil es
  split at h
  ·rename_i hb
   simp only [Bool.and_eq_true] at hb
   obtain ⟨⟨⟨⟨hb0,hb1⟩,hb2⟩,hb3⟩,hb4⟩:=hb
   have hb0:=Sh.beq_eq hb0
   have hb1:=Sh.beq_eq hb1
   have hb2:=Sh.beq_eq hb2
   have hb3:=Sh.beq_eq hb3
   have hb4:=Sh.beq_eq hb4
   subst hb0 hb1 hb2 hb3 hb4
   obtain ⟨hg,h'⟩:=eval_guard h
   clear h
   simp only [Bool.and_eq_true,decide_eq_true_eq] at hg
   cases h'
   exact ⟨(ss.length+40)+1,by rw [callN_succ (fn:=c70) rfl];exact rn119 ss.length (ss.length+40) og ep co na nm nb ns zas ms bs ss r q nil es hg.2 (sgs_hops hg.1) (by omega)⟩
  ·cases h
 ·cases h
def g50m:List D→Tree (List D)
 | [.sl e0 _nb bs]=>match Sh.beq e0 defSh with
  | true=> .ret [.bool (fewB bs)]
  | false=> .stuck
 | _=> .stuck
theorem pure50m{P:Program}(hm:P.follows .mixedOrders=true)(h0:EnvOK P Mq):PureOK P 48 g50m:=PureOK.run hm h0 fun ds rs h=>by
 unfold g50m at h
 split at h
 ·rename_i e0 nb bs
  split at h
  ·rename_i hb
   have hb0:=hb
   have hb0:=Sh.beq_eq hb0
   subst hb0
   cases h
   exact ⟨159+1,by rw [callN_succ (fn:=c48) rfl];exact rn50 119 159 nb bs (by omega)⟩
  ·cases h
 ·cases h
def Ms:Env:=((Mq.pureAt 70 true g119m).pureAt 48 true g50m).genAt 129 C159
theorem okMs{P:Program}(hm:P.follows .mixedOrders=true)(h:EnvOK P Mq):EnvOK P Ms:=((h.pureAt (pure119m hm h)).pureAt (pure50m hm h)).genAt (fn159 hm h)
theorem x109(m n:Nat)(rt nn st wy:Int)(n1 n2 n3 fc:Bool)(hops steps parts:List D)(nm:List UInt8):Tree.out (enterM Ms (callN Ms (m+40)) n c69 [.d (sagaD rt nn st wy n1 n2 n3 fc hops steps parts nm)] [])=bif n1 then bif n2 then bif n3 then some [D.agg [D.int .i64 rt,D.int .i64 nn,D.sl hopSh true [],D.str nm,D.sl stepSh true [],D.int .i64 st,D.int .i64 wy,D.sl hopSh true [],D.bool fc]] else bif decide (parts.length≤1000000) then some [D.agg [D.int .i64 rt,D.int .i64 nn,D.sl hopSh true [],D.str nm,D.sl stepSh true [],D.int .i64 st,D.int .i64 wy,D.sl hopSh false parts,D.bool fc]] else none else bif decide (steps.length≤1000000) then bif n3 then some [D.agg [D.int .i64 rt,D.int .i64 nn,D.sl hopSh true [],D.str nm,D.sl stepSh false steps,D.int .i64 st,D.int .i64 wy,D.sl hopSh true [],D.bool fc]] else bif decide (parts.length≤1000000) then some [D.agg [D.int .i64 rt,D.int .i64 nn,D.sl hopSh true [],D.str nm,D.sl stepSh false steps,D.int .i64 st,D.int .i64 wy,D.sl hopSh false parts,D.bool fc]] else none else none else bif decide (hops.length≤1000000) then bif n2 then bif n3 then some [D.agg [D.int .i64 rt,D.int .i64 nn,D.sl hopSh false hops,D.str nm,D.sl stepSh true [],D.int .i64 st,D.int .i64 wy,D.sl hopSh true [],D.bool fc]] else bif decide (parts.length≤1000000) then some [D.agg [D.int .i64 rt,D.int .i64 nn,D.sl hopSh false hops,D.str nm,D.sl stepSh true [],D.int .i64 st,D.int .i64 wy,D.sl hopSh false parts,D.bool fc]] else none else bif decide (steps.length≤1000000) then bif n3 then some [D.agg [D.int .i64 rt,D.int .i64 nn,D.sl hopSh false hops,D.str nm,D.sl stepSh false steps,D.int .i64 st,D.int .i64 wy,D.sl hopSh true [],D.bool fc]] else bif decide (parts.length≤1000000) then some [D.agg [D.int .i64 rt,D.int .i64 nn,D.sl hopSh false hops,D.str nm,D.sl stepSh false steps,D.int .i64 st,D.int .i64 wy,D.sl hopSh false parts,D.bool fc]] else none else none else none:=by kernel_rfl
theorem empty_if{b:Bool}{l:List D}(h:(!b||l.isEmpty)=true)(hb:b=true):l=[]:=by
 rw [hb] at h;exact List.isEmpty_iff.1 h
def shortL(b:Bool)(l:List D):Bool:=(!b||l.isEmpty)&&decide (l.length≤1000000)
theorem shortL_iff{b:Bool}{l:List D}:shortL b l=true↔(b=true→l=[])∧l.length≤1000000:=by
 unfold shortL
 rw [Bool.and_eq_true,decide_eq_true_eq]
 exact and_congr_left fun _=>⟨empty_if,fun h=>by cases b with
  | false=>rfl
  | true=>rw [h rfl];rfl⟩
theorem rn109(m n:Nat)(rt nn st wy:Int)(n1 n2 n3 fc:Bool)(hops steps parts:List D)(nm:List UInt8)(h1:shortL n1 hops=true)(h2:shortL n2 steps=true)(h3:shortL n3 parts=true):
  (enterM Ms (callN Ms (m+40)) n c69 [.d (sagaD rt nn st wy n1 n2 n3 fc hops steps parts nm)] []).out=some [sagaD rt nn st wy n1 n2 n3 fc hops steps parts nm]:=by
 rw [shortL_iff] at h1 h2 h3
 rw [x109,decide_eq_true h1.2,decide_eq_true h2.2,decide_eq_true h3.2]
 have e1:=h1.1
 have e2:=h2.1
 have e3:=h3.1
 cases n1 <;> cases n2 <;> cases n3 <;> simp only [forall_const,Bool.false_eq_true,false_implies] at e1 e2 e3 <;> (try subst e1) <;> (try subst e2) <;> (try subst e3) <;> rfl
def g109m:List D→Tree (List D)
 | [.agg [.int .i64 rt,.int .i64 nn,.sl e0h n1 hops,.str nm,.sl e0s n2 steps,.int .i64 st,.int .i64 wy,.sl e0p n3 parts,.bool fc]]=>match Sh.beq e0h hopSh&&Sh.beq e0s stepSh&&Sh.beq e0p partSh with
  | true=> .ite (shortL n1 hops&&(shortL n2 steps&&shortL n3 parts)) (fun _=> .ret [.agg [.int .i64 rt,.int .i64 nn,.sl e0h n1 hops,.str nm,.sl e0s n2 steps,.int .i64 st,.int .i64 wy,.sl e0p n3 parts,.bool fc]]) (fun _=> .stuck)
  | false=> .stuck
 | _=> .stuck
theorem pure109m{P:Program}(hm:P.follows .mixedOrders=true)(h0:EnvOK P Ms):PureOK P 69 g109m:=PureOK.run hm h0 fun ds rs h=>by
 unfold g109m at h
 split at h
 ·rename_i rt nn e0h n1 hops nm e0s n2 steps st wy e0p n3 parts fc
  split at h
  ·rename_i hb
   simp only [Bool.and_eq_true] at hb
   obtain ⟨⟨hb0,hb1⟩,hb2⟩:=hb
   have hb0:=Sh.beq_eq hb0
   have hb1:=Sh.beq_eq hb1
   have hb2:=Sh.beq_eq hb2
   subst hb0 hb1 hb2
   obtain ⟨hg,h'⟩:=eval_guard h
   clear h
   cases h'
   exact ⟨59+1,by rw [callN_succ (fn:=c69) rfl];exact rn109 19 59 rt nn st wy n1 n2 n3 fc hops steps parts nm (Bool.and_eq_true _ _ |>.mp hg).1 (Bool.and_eq_true _ _ |>.mp (Bool.and_eq_true _ _ |>.mp hg).2).1 (Bool.and_eq_true _ _ |>.mp (Bool.and_eq_true _ _ |>.mp hg).2).2⟩
  ·cases h
 ·cases h
def Mt:Env:=Ms.pureAt 69 false g109m
theorem okMt{P:Program}(hm:P.follows .mixedOrders=true)(h:EnvOK P Ms):EnvOK P Mt:=h.pureAt (pure109m hm h)
theorem x54(m n:Nat)(og ep co:Int)(na nm' nb ns:Bool)(zas ms bs ss:List D)(r q:Int)(nil:Bool)(es:List D):Tree.out (enterM Mt (callN Mt (m+40)) n c21 [.d (stD og ep co na nm' nb ns zas ms bs ss),.d (.agg [.int .i64 r,.int .i64 q,.sl hopSh nil es])] [])=bif sgsIn ss then bif (bif mayR og ep co zas ms bs ss then (0:Int) else (230:Int)) != 0 then some [D.agg [D.int .i64 0,D.int .i64 0,D.sl hopSh true [],D.str [],D.sl stepSh true [],D.int .i64 0,D.int .i64 0,D.sl hopSh true [],D.bool false],D.bool false] else bif sgsIn ss&&decide (ss.length≤1000000) then bif !thereS r q es ss then some [D.agg [D.int .i64 0,D.int .i64 0,D.sl hopSh true [],D.str [],D.sl stepSh true [],D.int .i64 0,D.int .i64 0,D.sl hopSh true [],D.bool false],D.bool false] else bif decide (0≤(↑(plcS r q es ss):Int)∧(↑(plcS r q es ss):Int)<(ss.length:Int)) then bif shortL (fn 2 (List.getD ss (plcS r q es ss) D.nilp)) (fl 2 (List.getD ss (plcS r q es ss) D.nilp))&&(shortL (fn 4 (List.getD ss (plcS r q es ss) D.nilp)) (fl 4 (List.getD ss (plcS r q es ss) D.nilp))&&shortL (fn 7 (List.getD ss (plcS r q es ss) D.nilp)) (fl 7 (List.getD ss (plcS r q es ss) D.nilp))) then some [D.agg [D.int .i64 (fi 0 (List.getD ss (plcS r q es ss) D.nilp)),D.int .i64 (fi 1 (List.getD ss (plcS r q es ss) D.nilp)),D.sl hopSh (fn 2 (List.getD ss (plcS r q es ss) D.nilp)) (fl 2 (List.getD ss (plcS r q es ss) D.nilp)),D.str (fs 3 (List.getD ss (plcS r q es ss) D.nilp)),D.sl stepSh (fn 4 (List.getD ss (plcS r q es ss) D.nilp)) (fl 4 (List.getD ss (plcS r q es ss) D.nilp)),D.int .i64 (fi 5 (List.getD ss (plcS r q es ss) D.nilp)),D.int .i64 (fi 6 (List.getD ss (plcS r q es ss) D.nilp)),D.sl hopSh (fn 7 (List.getD ss (plcS r q es ss) D.nilp)) (fl 7 (List.getD ss (plcS r q es ss) D.nilp)),D.bool (fb 8 (List.getD ss (plcS r q es ss) D.nilp))],D.bool true] else none else none else none else none:=by kernel_rfl
theorem x60(m n:Nat)(og ep co:Int)(na nm' nb ns:Bool)(zas ms bs ss:List D)(r q:Int)(nil:Bool)(es:List D):Tree.out (enterM Mt (callN Mt (m+40)) n c22 [.d (stD og ep co na nm' nb ns zas ms bs ss),.d (.agg [.int .i64 r,.int .i64 q,.sl hopSh nil es])] [])=bif sgsIn ss&&decide (ss.length≤1000000) then bif sgsIn ss then bif (bif mayR og ep co zas ms bs ss then (0:Int) else (230:Int)) != 0 then some [D.agg [D.int .i64 0,D.int .i64 0,D.sl hopSh true [],D.str [],D.sl stepSh true [],D.int .i64 0,D.int .i64 0,D.sl hopSh true [],D.bool false],D.bool false] else bif decide (idxS r q es ss<0) then some [D.agg [D.int .i64 0,D.int .i64 0,D.sl hopSh true [],D.str [],D.sl stepSh true [],D.int .i64 0,D.int .i64 0,D.sl hopSh true [],D.bool false],D.bool false] else bif decide (0≤idxS r q es ss∧idxS r q es ss<(ss.length:Int)) then some [D.agg [D.int .i64 (fi 0 (List.getD ss (Int.toNat (idxS r q es ss)) D.nilp)),D.int .i64 (fi 1 (List.getD ss (Int.toNat (idxS r q es ss)) D.nilp)),D.sl hopSh (fn 2 (List.getD ss (Int.toNat (idxS r q es ss)) D.nilp)) (fl 2 (List.getD ss (Int.toNat (idxS r q es ss)) D.nilp)),D.str (fs 3 (List.getD ss (Int.toNat (idxS r q es ss)) D.nilp)),D.sl stepSh (fn 4 (List.getD ss (Int.toNat (idxS r q es ss)) D.nilp)) (fl 4 (List.getD ss (Int.toNat (idxS r q es ss)) D.nilp)),D.int .i64 (fi 5 (List.getD ss (Int.toNat (idxS r q es ss)) D.nilp)),D.int .i64 (fi 6 (List.getD ss (Int.toNat (idxS r q es ss)) D.nilp)),D.sl hopSh (fn 7 (List.getD ss (Int.toNat (idxS r q es ss)) D.nilp)) (fl 7 (List.getD ss (Int.toNat (idxS r q es ss)) D.nilp)),D.bool (fb 8 (List.getD ss (Int.toNat (idxS r q es ss)) D.nilp))],D.bool true] else none else none else none:=by kernel_rfl
theorem x18(m n:Nat)(og ep co:Int)(na nm' nb ns:Bool)(zas ms bs ss:List D):Tree.out (enterM Mt (callN Mt (m+40)) n c10 [.d (stD og ep co na nm' nb ns zas ms bs ss)] [])=bif decide (50<(zas.length:Int)) then some [D.bool false] else bif decide (200<(ms.length:Int)) then some [D.bool false] else bif decide (40<(ss.length:Int)) then some [D.bool false] else bif !fewB bs then some [D.bool false] else Tree.out (resume Mt (callN Mt (m+40)) n n 0 c10 { fr:=frame 60 [(1,V.ptr 128 0),(3,V.d (D.int .i64 0))],ob:=[(128,Obj.box [V.d (D.int .i64 og),V.d (D.int .i64 ep),V.d (D.int .i64 co),V.d (D.sl accSh na zas),V.d (D.sl mrkSh nm' ms),V.d (D.sl defSh nb bs),V.d (D.sl sgSh ns ss)])] }):=by kernel_rfl
def v18(og ep co:Int)(na nm' nb ns:Bool)(zas ms bs ss:List D)(i:Int):St:= { fr:=frame 60 [(1,V.ptr 128 0),(3,V.d (D.int .i64 i))],ob:=[(128,HS og ep co na nm' nb ns zas ms bs ss)] }
theorem y18(m n f:Nat)(og ep co:Int)(na nm' nb ns:Bool)(zas ms bs ss:List D)(i:Int):Tree.out (resume Mt (callN Mt (m+40)) n (f+1) 0 c10 (v18 og ep co na nm' nb ns zas ms bs ss i))=bif decide (i<(ss.length:Int)) then bif decide (0≤i∧i<(ss.length:Int)) then bif !few (fl 2 (ss.getD i.toNat .nilp)) (fl 4 (ss.getD i.toNat .nilp)) (fl 7 (ss.getD i.toNat .nilp)) then some [D.bool false] else Tree.out (resume Mt (callN Mt (m+40)) n f 0 c10 (v18 og ep co na nm' nb ns zas ms bs ss (IntKind.wrap .i64 (i+1)))) else none else Tree.out (resume Mt (callN Mt (m+40)) n n 1 c10 { fr:=frame 60 [(1,V.ptr 128 0),(4,V.d (D.int .i64 0))],ob:=[(128,Obj.box [V.d (D.int .i64 og),V.d (D.int .i64 ep),V.d (D.int .i64 co),V.d (D.sl accSh na zas),V.d (D.sl mrkSh nm' ms),V.d (D.sl defSh nb bs),V.d (D.sl sgSh ns ss)])] }):=by kernel_rfl
def v18b(og ep co:Int)(na nm' nb ns:Bool)(zas ms bs ss:List D)(i:Int):St:= { fr:=frame 60 [(1,V.ptr 128 0),(4,V.d (D.int .i64 i))],ob:=[(128,HS og ep co na nm' nb ns zas ms bs ss)] }
theorem y18b(m n f:Nat)(og ep co:Int)(na nm' nb ns:Bool)(zas ms bs ss:List D)(i:Int):Tree.out (resume Mt (callN Mt (m+40)) n (f+1) 1 c10 (v18b og ep co na nm' nb ns zas ms bs ss i))=bif decide (i<(ms.length:Int)) then bif decide (0≤i∧i<(ms.length:Int)) then bif decide (1000<(↑(List.length (fs 0 (ms.getD i.toNat .nilp))):Int)) then some [D.bool false] else Tree.out (resume Mt (callN Mt (m+40)) n f 1 c10 (v18b og ep co na nm' nb ns zas ms bs ss (IntKind.wrap .i64 (i+1)))) else none else some [D.bool true]:=by kernel_rfl
theorem hopsC_map: ∀{l m n:List D},m.map hopP=n.map hopP→hopsC l m=hopsC l n
 | [],[],[],_=>rfl
 | [],_ :: _,_ :: _,_=>rfl
 | _ :: _,[],[],_=>rfl
 | x :: l,y :: m,z :: n,h=>by
  simp only [List.map_cons,List.cons.injEq,hopP,Prod.mk.injEq] at h
  simp only [hopsC]
  rw [h.1.1,h.1.2,hopsC_map h.2]
 | [],[],_ :: _,h=>by simp at h
 | [],_ :: _,[],h=>by simp at h
 | _ :: _,[],_ :: _,h=>by simp at h
 | _ :: _,_ :: _,[],h=>by simp at h
theorem idC_zero{a b x y:Int}{l m:List D}:idC a x l b y m=0↔a=b∧x=y∧l.map hopP=m.map hopP:=by
 unfold idC
 have hne: ∀{p q:Int},p≠q→cmpI p q≠0:=fun {p q} h=>by
  have:= @cmpI_ne p q
  rw [bne_iff_ne.2 h] at this
  exact bne_iff_ne.1 this
 by_cases e0:a=b
 ·subst e0
  rw [show (a != a)=false by simp,cond_false]
  by_cases e1:x=y
  ·subst e1
   rw [show (x != x)=false by simp,cond_false,hopsC_zero]
   simp
  ·rw [bne_iff_ne.2 e1,cond_true]
   exact ⟨fun h=>absurd h (hne e1),fun h=>absurd h.2.1 e1⟩
 ·rw [bne_iff_ne.2 e0,cond_true]
  exact ⟨fun h=>absurd h (hne e0),fun h=>absurd h.1 e0⟩
theorem sagas_inj{ss:List D}(h: ∀i,i<ss.length→sgLess ss i=true){i j:Nat}(hi:i<ss.length)(hj:j<ss.length)
  (e:fi 0 (ss.getD i .nilp)=fi 0 (ss.getD j .nilp)∧fi 1 (ss.getD i .nilp)=fi 1 (ss.getD j .nilp)∧(fl 2 (ss.getD i .nilp)).map hopP=(fl 2 (ss.getD j .nilp)).map hopP):i=j:=by
 have key: ∀a b:Nat,a<b→b<ss.length→ ¬(fi 0 (ss.getD a .nilp)=fi 0 (ss.getD b .nilp)∧fi 1 (ss.getD a .nilp)=fi 1 (ss.getD b .nilp)∧(fl 2 (ss.getD a .nilp)).map hopP=(fl 2 (ss.getD b .nilp)).map hopP):=fun a b hab hb=>by
  have:=sagas_lt h (d:=b - a - 1) (a:=a) (by omega)
  rw [show a+(b - a - 1)+1=b by omega] at this
  exact idC_ne this
 by_cases h1:i<j
 ·exact absurd e (key i j h1 hj)
 ·by_cases h2:j<i
  ·exact absurd ⟨e.1.symm,e.2.1.symm,e.2.2.symm⟩ (key j i h2 hi)
  ·omega
def AtS(r q:Int)(es ss:List D)(i:Nat):Prop:=fi 0 (ss.getD i .nilp)=r∧fi 1 (ss.getD i .nilp)=q∧(fl 2 (ss.getD i .nilp)).map hopP=es.map hopP
theorem idxS_at{r q:Int}{es ss:List D}(h:0≤idxS r q es ss):(idxS r q es ss).toNat<ss.length∧AtS r q es ss (idxS r q es ss).toNat:=by
 obtain ⟨p1,p2,-⟩:=idxOf_pos (q:=fun x=>refCmp (fi 0 x) (fi 1 x) (fl 2 x) r q es==0) h
 rw [beq_iff_eq,refCmp_eq,idC_zero] at p2
 exact ⟨p1,p2⟩
theorem idxS_iff{r q:Int}{es ss:List D}:0≤idxS r q es ss↔ ∃i,i<ss.length∧AtS r q es ss i:=by
 have:=idxOf_nonneg (fun x=>refCmp (fi 0 x) (fi 1 x) (fl 2 x) r q es==0) ss
 unfold idxS
 rw [←decide_eq_true_eq (p:=0≤idxOf _ ss),this,any_iff]
 simp only [beq_iff_eq,refCmp_eq,idC_zero]
 rfl
theorem find_same{ss:List D}(h: ∀i,i<ss.length→sgLess ss i=true)(r q:Int)(es:List D):thereS r q es ss=decide (0≤idxS r q es ss)∧(thereS r q es ss=true→plcS r q es ss=(idxS r q es ss).toNat∧plcS r q es ss<ss.length):=by
 have hmono: ∀a b,a≤b→b<ss.length→decide (cmpAt r q es ss b<0)=true→decide (cmpAt r q es ss a<0)=true:=fun a b hab hb hp=>by
  rw [decide_eq_true_eq] at hp ⊢
  unfold cmpAt at hp ⊢
  rw [idCmp_eq] at hp ⊢
  by_cases he:a=b
  ·rw [he];exact hp
  ·have:=sagas_lt h (d:=b - a - 1) (a:=a) (by omega)
   rw [show a+(b - a - 1)+1=b by omega] at this
   exact idC_trans this hp
 obtain ⟨h1,h2,h3⟩:=bsF_spec (fun i=>decide (cmpAt r q es ss i<0)) ss.length hmono ss.length 0 ss.length (by omega) (by omega) (by omega) (fun k hk=>by omega) (fun k h1 h2=>by omega)
 have hat: ∀i,i<ss.length→((cmpAt r q es ss i==0)=true↔AtS r q es ss i):=fun i _=>by
  unfold cmpAt
  rw [beq_iff_eq,idCmp_eq,idC_zero]
  rfl
 have hth:thereS r q es ss=true→plcS r q es ss<ss.length∧AtS r q es ss (plcS r q es ss):=fun ht=>by
  unfold thereS foundS at ht
  by_cases hlt:plcS r q es ss<ss.length
  ·rw [dec_lt hlt,cond_true] at ht
   exact ⟨hlt,(hat _ hlt).1 ht⟩
  ·rw [decide_eq_false (by omega)] at ht;cases ht
 have hback:0≤idxS r q es ss→thereS r q es ss=true:=fun h0=>by
  obtain ⟨i,hi,ha⟩:=idxS_iff.1 h0
  have hz:idC (fi 0 (ss.getD i .nilp)) (fi 1 (ss.getD i .nilp)) (fl 2 (ss.getD i .nilp)) r q es=0:=idC_zero.2 ha
  have hle:plcS r q es ss≤i:=by
   by_cases hc:i<plcS r q es ss
   ·have:=h2 i hc
    rw [decide_eq_true_eq] at this
    unfold cmpAt at this
    rw [idCmp_eq,hz] at this
    omega
   ·omega
  have hlt:plcS r q es ss<ss.length:=by omega
  have he:plcS r q es ss=i:=by
   by_cases he:plcS r q es ss=i
   ·exact he
   ·have hp:=h3 _ (Nat.le_refl _) hlt
    rw [decide_eq_false_iff_not] at hp
    have hs:=sagas_lt h (d:=i - plcS r q es ss - 1) (a:=plcS r q es ss) (by omega)
    rw [show plcS r q es ss+(i - plcS r q es ss - 1)+1=i by omega] at hs
    exfalso
    apply hp
    show cmpAt r q es ss (plcS r q es ss)<0
    unfold cmpAt
    rw [idCmp_eq]
    unfold idcS at hs
    rw [ha.1,ha.2.1] at hs
    have:idC (fi 0 (ss.getD (plcS r q es ss) .nilp)) (fi 1 (ss.getD (plcS r q es ss) .nilp)) (fl 2 (ss.getD (plcS r q es ss) .nilp)) r q es=idC (fi 0 (ss.getD (plcS r q es ss) .nilp)) (fi 1 (ss.getD (plcS r q es ss) .nilp)) (fl 2 (ss.getD (plcS r q es ss) .nilp)) r q (fl 2 (ss.getD i .nilp)):=by
     unfold idC
     rw [hopsC_map ha.2.2.symm]
    rw [this]
    exact hs
  unfold thereS foundS
  rw [dec_lt hlt,cond_true,hat _ hlt,he]
  exact ha
 constructor
 ·rw [Bool.eq_iff_iff,decide_eq_true_eq]
  exact ⟨fun ht=>idxS_iff.2 ⟨_,hth ht⟩,hback⟩
 ·intro ht
  obtain ⟨hlt,ha⟩:=hth ht
  obtain ⟨p1,p2⟩:=idxS_at (idxS_iff.2 ⟨_,hlt,ha⟩)
  refine ⟨?_,hlt⟩
  exact sagas_inj h hlt p1 ⟨ha.1.trans p2.1.symm,ha.2.1.trans p2.2.1.symm,ha.2.2.trans p2.2.2.symm⟩
theorem mayR_all{og ep co:Int}{zas ms bs ss:List D}(h:mayR og ep co zas ms bs ss=true):(∀i,i<ss.length→mayS (ss.getD i .nilp)=true∧sgLess ss i=true∧orgOfId (fi 0 (ss.getD i .nilp)) (fi 1 (ss.getD i .nilp)) (fl 2 (ss.getD i .nilp))=og)∧bookOk bs=true∧ledOk zas ms=true∧ss.length≤24:=by
 rw [←may_same] at h
 unfold mayP sagasOk at h
 simp only [Bool.and_eq_true,Bool.not_eq_true',decide_eq_false_iff_not] at h
 obtain ⟨-,-,-,-,-,-,hl,hb,⟨h24,hs⟩,-⟩:=h
 refine ⟨fun i hi=> ?_,hb,hl,by omega⟩
 have:=allN_iff.1 hs i hi
 unfold sagaAt at this
 simp only [Bool.and_eq_true,Bool.not_eq_true',bne_eq_false_iff_eq] at this
 exact ⟨this.1,this.2.2.2,this.2.1⟩
def sgShort(x:D):Bool:=shortL (fn 2 x) (fl 2 x)&&(shortL (fn 4 x) (fl 4 x)&&shortL (fn 7 x) (fl 7 x))
def sgsShort(ss:List D):Bool:=allN (fun i=>sgShort (ss.getD i .nilp)) ss.length&&decide (ss.length≤1000000)
theorem short_in{ss:List D}(h:sgsShort ss=true):sgsIn ss=true∧ss.length≤1000000∧ ∀i,i<ss.length→sgShort (ss.getD i .nilp)=true:=by
 unfold sgsShort at h
 rw [Bool.and_eq_true,decide_eq_true_eq,allN_iff] at h
 refine ⟨allN_iff.2 fun i hi=> ?_,h.2,h.1⟩
 have:=h.1 i hi
 unfold sgShort at this
 simp only [Bool.and_eq_true,shortL_iff] at this
 unfold sgIn
 rw [decide_eq_true this.2.1.2,decide_eq_true this.2.2.2,decide_eq_true this.1.2];rfl
abbrev sagaI(x:D):D:=sagaD (fi 0 x) (fi 1 x) (fi 5 x) (fi 6 x) (fn 2 x) (fn 4 x) (fn 7 x) (fb 8 x) (fl 2 x) (fl 4 x) (fl 7 x) (fs 3 x)
abbrev zSaga:D:=sagaD 0 0 0 0 true true true false [] [] [] []
def gotS(og ep co:Int)(zas ms bs ss:List D)(r q:Int)(es:List D):Bool:=mayR og ep co zas ms bs ss&&decide (0≤idxS r q es ss)
def fndT(og ep co:Int)(zas ms bs ss:List D)(r q:Int)(es:List D):Tree (List D):= .ite (gotS og ep co zas ms bs ss r q es) (fun _=> .ret [sagaI (ss.getD (idxS r q es ss).toNat .nilp),.bool true]) (fun _=> .ret [zSaga,.bool false])
theorem fndT_eval(og ep co:Int)(zas ms bs ss:List D)(r q:Int)(es:List D):(fndT og ep co zas ms bs ss r q es).eval=some (bif gotS og ep co zas ms bs ss r q es then [sagaI (ss.getD (idxS r q es ss).toNat .nilp),.bool true] else [zSaga,.bool false]):=by
 unfold fndT
 cases gotS og ep co zas ms bs ss r q es <;> rfl
theorem rn60(m n:Nat)(og ep co:Int)(na nm' nb ns:Bool)(zas ms bs ss:List D)(r q:Int)(nil:Bool)(es:List D)(h:sgsShort ss=true):
  (enterM Mt (callN Mt (m+40)) n c22 [.d (stD og ep co na nm' nb ns zas ms bs ss),.d (.agg [.int .i64 r,.int .i64 q,.sl hopSh nil es])] []).out=(fndT og ep co zas ms bs ss r q es).eval:=by
 obtain ⟨h1,h2,-⟩:=short_in h
 rw [x60,fndT_eval,h1,decide_eq_true h2]
 unfold gotS
 cases mayR og ep co zas ms bs ss
 ·rfl
 ·by_cases h0:0≤idxS r q es ss
  ·have hp:=(idxS_at h0).1
   rw [decide_eq_true h0]
   refine (ct rfl).trans ((ct rfl).trans ((cf rfl).trans ((cf (decide_eq_false (by omega))).trans ((ct (decide_eq_true (by omega))).trans ?_))))
   rfl
  ·rw [decide_eq_false h0]
   refine (ct rfl).trans ((ct rfl).trans ((cf rfl).trans ((ct (decide_eq_true (by omega))).trans ?_)))
   rfl
theorem rn54(m n:Nat)(og ep co:Int)(na nm' nb ns:Bool)(zas ms bs ss:List D)(r q:Int)(nil:Bool)(es:List D)(h:sgsShort ss=true):
  (enterM Mt (callN Mt (m+40)) n c21 [.d (stD og ep co na nm' nb ns zas ms bs ss),.d (.agg [.int .i64 r,.int .i64 q,.sl hopSh nil es])] []).out=(fndT og ep co zas ms bs ss r q es).eval:=by
 obtain ⟨h1,h2,h3⟩:=short_in h
 rw [x54,fndT_eval,h1,decide_eq_true h2]
 unfold gotS
 cases hm:mayR og ep co zas ms bs ss
 ·rfl
 ·obtain ⟨e1,e2⟩:=find_same (fun i hi=>((mayR_all hm).1 i hi).2.1) r q es
  rw [←e1]
  cases ht:thereS r q es ss
  ·rfl
  ·obtain ⟨e3,e4⟩:=e2 ht
   have hs:=h3 _ e4
   unfold sgShort at hs
   refine (ct rfl).trans ((cf rfl).trans ((ct rfl).trans ((cf rfl).trans ((ct (dec_ix e4)).trans ((ct hs).trans ?_)))))
   rw [e3];rfl
def bookShort(bs:List D):Bool:=allN (fun i=>shortL (fn 1 (bs.getD i .nilp)) (fl 1 (bs.getD i .nilp))) bs.length&&decide (bs.length≤1000000)
def fewS(x:D):Bool:=few (fl 2 x) (fl 4 x) (fl 7 x)
def fewSt(zas ms bs ss:List D):Bool:= !decide (50<(zas.length:Int))&&(!decide (200<(ms.length:Int))&&(!decide (40<(ss.length:Int))&&(fewB bs&&(allN (fun i=>fewS (ss.getD i .nilp)) ss.length&&allN (fun i=> !decide (1000<((fs 0 (ms.getD i .nilp)).length:Int))) ms.length))))
theorem rn18(m n:Nat)(og ep co:Int)(na nm' nb ns:Bool)(zas ms bs ss:List D)(hn:300<n):(enterM Mt (callN Mt (m+40)) n c10 [.d (stD og ep co na nm' nb ns zas ms bs ss)] []).out=some [.bool (fewSt zas ms bs ss)]:=by
 rw [x18]
 unfold fewSt
 cases decide (50<(zas.length:Int))
 ·by_cases hm:200<(ms.length:Int)
  ·rw [decide_eq_true hm];rfl
  ·rw [decide_eq_false hm]
   by_cases hs:40<(ss.length:Int)
   ·rw [decide_eq_true hs];rfl
   ·rw [decide_eq_false hs]
    cases fewB bs
    ·rfl
    ·refine (cf rfl).trans ((cf rfl).trans ((cf rfl).trans ((cf rfl).trans ?_)))
     have inner:(resume Mt (callN Mt (m+40)) n n 1 c10 (v18b og ep co na nm' nb ns zas ms bs ss 0)).out=some [.bool (allN (fun i=> !decide (1000<((fs 0 (ms.getD i .nilp)).length:Int))) ms.length)]:=by
      have:=scan_loop (fun j i=>(resume Mt (callN Mt (m+40)) n j 1 c10 (v18b og ep co na nm' nb ns zas ms bs ss (i:Nat))).out) ms.length (fun i=> !!decide (1000<((fs 0 (ms.getD i .nilp)).length:Int))) (fun _=>[D.bool false]) [.bool true]
       (fun j i hi=> ?_) (fun j=> ?_) ms.length 0 n (by omega) (by omega)
      ·refine this.trans ?_
       rw [scan_boolD (fun i=> !decide (1000<((fs 0 (ms.getD i .nilp)).length:Int)))]
      ·rw [y18b,Bool.not_not]
       simp only [Int.toNat_natCast,wrap_up hi (show ms.length≤1000000 by omega)]
       exact (ct (dec_lt hi)).trans (ct (dec_ix hi))
      ·rw [y18b]
       exact cf (dec_end _)
     have:=scan_loop (fun j i=>(resume Mt (callN Mt (m+40)) n j 0 c10 (v18 og ep co na nm' nb ns zas ms bs ss (i:Nat))).out) ss.length (fun i=> !fewS (ss.getD i .nilp)) (fun _=>[D.bool false]) [.bool (allN (fun i=> !decide (1000<((fs 0 (ms.getD i .nilp)).length:Int))) ms.length)]
      (fun j i hi=> ?_) (fun j=> ?_) ss.length 0 n (by omega) (by omega)
     ·refine this.trans ?_
      cases hx:allN (fun i=> !decide (1000<((fs 0 (ms.getD i .nilp)).length:Int))) ms.length
      ·have e:=scan_map (fun x:Bool=>[D.bool x]) (fun i=> !fewS (ss.getD i .nilp)) (fun _=>false) false ss.length 0
       refine congrArg some (e.trans ?_)
       have: ∀k i,scan (fun i=> !fewS (ss.getD i .nilp)) (fun _=>false) false k i=false:=by
        intro k
        induction k with
        | zero=>intro i;rfl
        | succ k ih=>
         intro i
         simp only [scan,ih]
         cases (!fewS (ss.getD i .nilp)) <;> rfl
       rw [this,Bool.and_false];rfl
      ·rw [scan_boolD,Bool.and_true];rfl
     ·rw [y18]
      simp only [Int.toNat_natCast,wrap_up hi (show ss.length≤1000000 by omega)]
      exact (ct (dec_lt hi)).trans (ct (dec_ix hi))
     ·rw [y18]
      exact (cf (dec_end _)).trans inner
 ·rfl
def g54m:List D→Tree (List D)
 | [.agg [.int .i64 og,.int .i64 ep,.int .i64 co,.sl e0a _na zas,.sl e0m _nm ms,.sl e0b _nb bs,.sl e0s _ns ss],.agg [.int .i64 r,.int .i64 q,.sl e1 _nil es]]=>match Sh.beq e0a accSh&&Sh.beq e0m mrkSh&&Sh.beq e0b defSh&&Sh.beq e0s sgSh&&Sh.beq e1 hopSh with
  | true=> .ite (sgsShort ss) (fun _=>fndT og ep co zas ms bs ss r q es) (fun _=> .stuck)
  | false=> .stuck
 | _=> .stuck
theorem pure54m{P:Program}(hm:P.follows .mixedOrders=true)(h0:EnvOK P Mt):PureOK P 21 g54m:=PureOK.run hm h0 fun ds rs h=>by
 unfold g54m at h
 split at h
 ·rename_i og ep co e0a na zas e0m nm ms e0b nb bs e0s ns ss r q e1 nil es
  split at h
  ·rename_i hb
   simp only [Bool.and_eq_true] at hb
   obtain ⟨⟨⟨⟨hb0,hb1⟩,hb2⟩,hb3⟩,hb4⟩:=hb
   have hb0:=Sh.beq_eq hb0
   have hb1:=Sh.beq_eq hb1
   have hb2:=Sh.beq_eq hb2
   have hb3:=Sh.beq_eq hb3
   have hb4:=Sh.beq_eq hb4
   subst hb0 hb1 hb2 hb3 hb4
   obtain ⟨hg,h'⟩:=eval_guard h
   clear h
   exact ⟨59+1,by rw [callN_succ (fn:=c21) rfl];exact (rn54 19 59 og ep co na nm nb ns zas ms bs ss r q nil es hg).trans h'⟩
  ·cases h
 ·cases h
def g60m:List D→Tree (List D)
 | [.agg [.int .i64 og,.int .i64 ep,.int .i64 co,.sl e0a _na zas,.sl e0m _nm ms,.sl e0b _nb bs,.sl e0s _ns ss],.agg [.int .i64 r,.int .i64 q,.sl e1 _nil es]]=>match Sh.beq e0a accSh&&Sh.beq e0m mrkSh&&Sh.beq e0b defSh&&Sh.beq e0s sgSh&&Sh.beq e1 hopSh with
  | true=> .ite (sgsShort ss) (fun _=>fndT og ep co zas ms bs ss r q es) (fun _=> .stuck)
  | false=> .stuck
 | _=> .stuck
theorem pure60m{P:Program}(hm:P.follows .mixedOrders=true)(h0:EnvOK P Mt):PureOK P 22 g60m:=PureOK.run hm h0 fun ds rs h=>by
 unfold g60m at h
 split at h
 ·rename_i og ep co e0a na zas e0m nm ms e0b nb bs e0s ns ss r q e1 nil es
  split at h
  ·rename_i hb
   simp only [Bool.and_eq_true] at hb
   obtain ⟨⟨⟨⟨hb0,hb1⟩,hb2⟩,hb3⟩,hb4⟩:=hb
   have hb0:=Sh.beq_eq hb0
   have hb1:=Sh.beq_eq hb1
   have hb2:=Sh.beq_eq hb2
   have hb3:=Sh.beq_eq hb3
   have hb4:=Sh.beq_eq hb4
   subst hb0 hb1 hb2 hb3 hb4
   obtain ⟨hg,h'⟩:=eval_guard h
   clear h
   exact ⟨59+1,by rw [callN_succ (fn:=c22) rfl];exact (rn60 19 59 og ep co na nm nb ns zas ms bs ss r q nil es hg).trans h'⟩
  ·cases h
 ·cases h
def g18m:List D→Tree (List D)
 | [.agg [.int .i64 _og,.int .i64 _ep,.int .i64 _co,.sl e0a _na zas,.sl e0m _nm ms,.sl e0b _nb bs,.sl e0s _ns ss]]=>match Sh.beq e0a accSh&&Sh.beq e0m mrkSh&&Sh.beq e0b defSh&&Sh.beq e0s sgSh with
  | true=> .ret [.bool (fewSt zas ms bs ss)]
  | false=> .stuck
 | _=> .stuck
theorem pure18m{P:Program}(hm:P.follows .mixedOrders=true)(h0:EnvOK P Mt):PureOK P 10 g18m:=PureOK.run hm h0 fun ds rs h=>by
 unfold g18m at h
 split at h
 ·rename_i og ep co e0a na zas e0m nm ms e0b nb bs e0s ns ss
  split at h
  ·rename_i hb
   simp only [Bool.and_eq_true] at hb
   obtain ⟨⟨⟨hb0,hb1⟩,hb2⟩,hb3⟩:=hb
   have hb0:=Sh.beq_eq hb0
   have hb1:=Sh.beq_eq hb1
   have hb2:=Sh.beq_eq hb2
   have hb3:=Sh.beq_eq hb3
   subst hb0 hb1 hb2 hb3
   cases h
   exact ⟨359+1,by rw [callN_succ (fn:=c10) rfl];exact rn18 319 359 og ep co na nm nb ns zas ms bs ss (by omega)⟩
  ·cases h
 ·cases h
structure An where
 b1:Bool
 ms:List D
 b2:Bool
 ns:List D
def An.d(a:An):D:= .agg [.sl moveSh a.b1 a.ms,.sl noteSh a.b2 a.ns]
def nilS(ss:List D):Prop:= ∀i,i<ss.length→(fn 2 (ss.getD i .nilp)=true→fl 2 (ss.getD i .nilp)=[])∧(fn 4 (ss.getD i .nilp)=true→fl 4 (ss.getD i .nilp)=[])∧(fn 7 (ss.getD i .nilp)=true→fl 7 (ss.getD i .nilp)=[])
def nilB(bs:List D):Prop:= ∀i,i<bs.length→(fn 1 (bs.getD i .nilp)=true→fl 1 (bs.getD i .nilp)=[])
theorem few_short{zas ms bs ss:List D}(h:fewSt zas ms bs ss=true)(h1:nilS ss)(h2:nilB bs):sgsShort ss=true∧bookShort bs=true:=by
 unfold fewSt fewB at h
 simp only [Bool.and_eq_true,Bool.not_eq_true',decide_eq_false_iff_not,allN_iff] at h
 obtain ⟨-,-,hs,⟨hb,hd⟩,hf,-⟩:=h
 constructor
 ·unfold sgsShort
  rw [decide_eq_true (by omega),Bool.and_true,allN_iff]
  intro i hi
  have:=hf i hi
  unfold fewS few at this
  simp only [Bool.and_eq_true,decide_eq_true_eq] at this
  obtain ⟨a,b,c⟩:=h1 i hi
  unfold sgShort
  rw [shortL_iff.2 ⟨a,by omega⟩,shortL_iff.2 ⟨b,by omega⟩,shortL_iff.2 ⟨c,by omega⟩];rfl
 ·unfold bookShort
  rw [decide_eq_true (by omega),Bool.and_true,allN_iff]
  intro i hi
  have:=hd i hi
  exact shortL_iff.2 ⟨h2 i hi,by omega⟩
end Go.Proofs.YtlhageadjmoajaaGreatDoor.A
namespace Go.AM
open Go
inductive WF:Sh→D→Prop where
 | bool (b:Bool):WF .bool (.bool b)
 | int (k:IntKind) (n:Int) (h:k.min≤n∧n≤k.max):WF (.int k) (.int k n)
 | str (s:List UInt8) (h:s.length≤maxLen):WF .str (.str s)
 | slnil (e:Sh):WF (.sl e) (.sl e true [])
 | sl (e:Sh) (es:List D) (hl:es.length≤maxLen) (h: ∀x∈es,WF e x):WF (.sl e) (.sl e false es)
 | agg (fs:List Sh) (cs:List D) (ha: ∀f∈fs,f.isAgg=false) (hl:fs.length=cs.length) (h: ∀(i:Nat) f c,fs[i]? =some f→cs[i]? =some c→WF f c):WF (.agg fs) (.agg cs)
def WFL(fs:List Sh)(cs:List D):Prop:=(∀f∈fs,f.isAgg=false)∧fs.length=cs.length∧ ∀(i:Nat) f c,fs[i]? =some f→cs[i]? =some c→WF f c
inductive Ty where
 | bool | int (k:IntKind) | str | sl (e:Ty) | st (fs:List Ty)
mutual
def Ty.shl:Ty→List Sh
 | .bool=>[.bool]
 | .int k=>[.int k]
 | .str=>[.str]
 | .sl e=>[.sl (Ty.sh e)]
 | .st fs=>Ty.shls fs
def Ty.shls:List Ty→List Sh
 | []=>[]
 | f :: fs=>Ty.shl f++Ty.shls fs
def Ty.sh:Ty→Sh
 | .bool=> .bool
 | .int k=> .int k
 | .str=> .str
 | .sl e=> .sl (Ty.sh e)
 | .st fs=> .agg (Ty.shls fs)
end
theorem Ty.sh_leafs(t:Ty):t.sh.leafs=t.shl:=by
 cases t <;> simp [Ty.sh,Ty.shl,Sh.leafs]
mutual
def tyOk(P:Program):Ty→TypeId→Bool
 | .bool,t=>match P.underlying t with
  | some .bool=>true
  | _=>false
 | .int k,t=>match P.underlying t with
  | some (.int j)=>decide (j=k)
  | _=>false
 | .str,t=>match P.underlying t with
  | some .string=>true
  | _=>false
 | .sl e,t=>match P.underlying t with
  | some (.slice u)=>tyOk P e u&&Nat.beq (P.cellsOf u) (Ty.shl e).length&& !((Ty.shl e).isEmpty)
  | _=>false
 | .st ts,t=>match P.underlying t with
  | some (.struct fs)=>tyOks P ts fs.toList 0 (P.cellsOf t)
  | _=>false
def tyOks(P:Program):List Ty→List Field→Nat→Nat→Bool
 | [],[],off,tot=>Nat.beq off tot
 | t :: ts,f :: fs,off,tot=>Nat.beq f.offset off&&Nat.beq (P.cellsOf f.type) (Ty.shl t).length&&tyOk P t f.type&&tyOks P ts fs (off+(Ty.shl t).length) tot
 | _,_,_,_=>false
end
section
variable {P:Program} {w:World} {H:Type} {enc:TypeId×Value→H} {base:Nat} {spare:Nat→Bool} {held:Bool}
theorem WFL.nil:WFL [] []:=⟨by simp,rfl,fun i f c h=>by simp at h⟩
theorem WFL.append{fs gs:List Sh}{cs ds:List D}(h:WFL fs cs)(h':WFL gs ds):WFL (fs++gs) (cs++ds):=by
 refine ⟨fun f hf=>(List.mem_append.1 hf).elim (h.1 f) (h'.1 f),by simp [h.2.1,h'.2.1],fun i f c hf hc=> ?_⟩
 have hl:=h.2.1
 by_cases hi:i<fs.length
 ·rw [List.getElem?_append_left hi] at hf
  rw [List.getElem?_append_left (by rw [←hl];exact hi)] at hc
  exact h.2.2 i f c hf hc
 ·rw [List.getElem?_append_right (by omega)] at hf
  rw [List.getElem?_append_right (by rw [←hl];omega),←hl] at hc
  exact h'.2.2 _ f c hf hc
theorem WFL.cons{f:Sh}{c:D}{fs:List Sh}{cs:List D}(ha:f.isAgg=false)(hc:WF f c)(h:WFL fs cs):WFL (f :: fs) (c :: cs):=
 WFL.append (fs:=[f]) (cs:=[c]) ⟨by simpa using ha,rfl,fun i g d hg hd=>by
  cases i with
  | zero=>simp at hg hd;subst hg hd;exact hc
  | succ i=>simp at hg⟩ h
theorem RDs.append{Y:Nat→Prop}{cs ds:List D}{us vs:List Value}(h:RDs w Y cs us)(h':RDs w Y ds vs):RDs w Y (cs++ds) (us++vs):=by
 have:=(RVL.map_d (β:=fun _=> .nil) (ob:=[]) h.1 h.2).append (RVL.map_d (β:=fun _=> .nil) (ob:=[]) h'.1 h'.2)
 rw [←List.map_append] at this
 exact this.of_map_d
theorem WF.fitsLeaf{s:Sh}{x:D}(h:WF s x)(ha:s.isAgg=false):fitsLeaf s x=true:=by
 cases h <;> simp_all [AM.fitsLeaf,Sh.isAgg]
 ·have: ∀e:Sh,Sh.beq e e=true:=by
   intro e
   induction e using Sh.rec (motive_2:=fun l=>Sh.beqL l l=true) with
   | bool=>rfl
   | int k=>simp [Sh.beq]
   | str=>rfl
   | sl e ih=>simpa [Sh.beq] using ih
   | agg fs ih=>simpa [Sh.beq] using ih
   | nil=>rfl
   | cons a l ih1 ih2=>simp [Sh.beqL,ih1,ih2]
  exact this _
 ·have: ∀e:Sh,Sh.beq e e=true:=by
   intro e
   induction e using Sh.rec (motive_2:=fun l=>Sh.beqL l l=true) with
   | bool=>rfl
   | int k=>simp [Sh.beq]
   | str=>rfl
   | sl e ih=>simpa [Sh.beq] using ih
   | agg fs ih=>simpa [Sh.beq] using ih
   | nil=>rfl
   | cons a l ih1 ih2=>simp [Sh.beqL,ih1,ih2]
  exact this _
theorem WFL.fitsL: ∀{fs:List Sh} {cs:List D},WFL fs cs→fitsL fs cs=true
 | [],[],_=>rfl
 | [],_ :: _,h=>by simp [WFL] at h
 | _ :: _,[],h=>by simp [WFL] at h
 | f :: fs,c :: cs,h=>by
  simp only [AM.fitsL,Bool.and_eq_true]
  refine ⟨(h.2.2 0 f c rfl rfl).fitsLeaf (h.1 f (by simp)),WFL.fitsL ⟨fun g hg=>h.1 g (by simp [hg]),by simpa using h.2.1,fun i g d hg hd=>h.2.2 (i+1) g d (by simpa using hg) (by simpa using hd)⟩⟩
theorem WF.fits{s:Sh}{x:D}(h:WF s x):fits s x=true:=by
 cases h with
 | agg fs cs ha hl hh=>exact WFL.fitsL ⟨ha,hl,hh⟩
 | bool b=>rfl
 | int k n hn=>simp [AM.fits,AM.fitsLeaf]
 | str s hs=>rfl
 | slnil e=>exact (WF.slnil e).fitsLeaf rfl
 | sl e es hl hh=>exact (WF.sl e es hl hh).fitsLeaf rfl
theorem WFL.one{s:Sh}{ds:List D}(h:WFL s.leafs ds): ∃x,x.cells=ds∧WF s x:=by
 cases s with
 | agg fs=>exact ⟨.agg ds,rfl,.agg fs ds h.1 h.2.1 h.2.2⟩
 | _=>
  obtain ⟨h1,h2,h3⟩:=h
  simp only [Sh.leafs,List.length_singleton] at h2
  match ds,h2 with
  | [c],_=>
   have hc:=h3 0 _ c rfl rfl
   refine ⟨c,?_,hc⟩
   cases hc <;> rfl
theorem rds_one{Y:Nat→Prop}{d:D}{v:Value}(h:RD w Y d v):RDs w Y [d] [v]:=by
 refine ⟨rfl,fun j c u h1 h2=> ?_⟩
 cases j with
 | zero=>simp only [List.getElem?_cons_zero,Option.some.injEq] at h1 h2;subst h1 h2;exact h
 | succ j=>simp at h1
theorem wfl_one{s:Sh}{d:D}(ha:s.isAgg=false)(h:WF s d):WFL [s] [d]:=WFL.cons ha h WFL.nil
theorem lit_int{k:IntKind}{n:Int}(h:(Lit.int k n).wf=true):k.min≤n∧n≤k.max:=by
 simpa [Lit.wf,and_comm] using h
mutual
theorem trod_ty: ∀(τ:Ty) (fuel:Nat) (t:TypeId) (cs:List Value) (x:DataW H×List MemPlace),tyOk P τ t=true→DataW.trod enc P w base spare held fuel t cs=some x→
  ∃ds,RDs w (fun _=>False) ds cs∧WFL τ.shl ds
 | .bool,fuel,t,cs,x,ht,h=>by
  unfold tyOk at ht
  split at ht
  ·rename_i hu
   obtain ⟨b,rfl,-⟩:=DataW.trod_bool hu h
   exact ⟨[.bool b],rds_one (.bool b),wfl_one rfl (.bool b)⟩
  ·cases ht
 | .int k,fuel,t,cs,x,ht,h=>by
  unfold tyOk at ht
  split at ht
  ·rename_i j hu
   have hj:=of_decide_eq_true ht
   subst hj
   obtain ⟨n,rfl,-,hn⟩:=DataW.trod_int hu h
   exact ⟨[.int j n],rds_one (.int j n),wfl_one rfl (.int j n (lit_int hn))⟩
  ·cases ht
 | .str,fuel,t,cs,x,ht,h=>by
  unfold tyOk at ht
  split at ht
  ·rename_i hu
   obtain ⟨s,rfl,-,hs⟩:=DataW.trod_string hu h
   refine ⟨[.str s.data.toList],rds_one ?_,wfl_one rfl (.str _ (by simpa using hs))⟩
   have:=RD.str (w:=w) (Y:=fun _=>False) s.data.toList
   simpa using this
  ·cases ht
 | .sl e,fuel,t,cs,x,ht,h=>by
  unfold tyOk at ht
  split at ht
  ·rename_i u hu
   simp only [Bool.and_eq_true,Bool.not_eq_true'] at ht
   obtain ⟨⟨he,hsz⟩,hne⟩:=ht
   have hsz:=Nat.eq_of_beq_eq_true hsz
   rcases DataW.trod_slice hu h with ⟨rfl,-⟩ | ⟨a,len,cap,elems,rest,n,-,rfl,-,hb,hlc,hcm,hel,hget,-,-⟩
   ·exact ⟨[.sl e.sh true []],rds_one (.slnil e.sh),wfl_one rfl (.slnil e.sh)⟩
   ·have key: ∀i,∃y:D,i<len→ ∃ci,w.cells? base (a.add (i*P.cellsOf u)) (P.cellsOf u)=some ci∧RDs w (fun _=>False) y.cells ci∧WF e.sh y:=by
     intro i
     by_cases hi:i<len
     ·have hg:=hget i hi
      have:i<elems.length:=by omega
      rw [List.getElem?_eq_getElem this] at hg
      cases hc:w.cells? base (a.add (i*P.cellsOf u)) (P.cellsOf u) with
      | none=>rw [hc] at hg;cases hg
      | some ci=>
       rw [hc] at hg
       obtain ⟨ds,h1,h2⟩:=trod_ty e n u ci _ he hg
       rw [←Ty.sh_leafs] at h2
       obtain ⟨y,rfl,hy⟩:=h2.one
       exact ⟨y,fun _=>⟨ci,rfl,h1,hy⟩⟩
     ·exact ⟨.nilp,fun h=>(hi h).elim⟩
    obtain ⟨f,hf⟩: ∃f:Nat→D,∀i,i<len→ ∃ci,w.cells? base (a.add (i*P.cellsOf u)) (P.cellsOf u)=some ci∧RDs w (fun _=>False) (f i).cells ci∧WF e.sh (f i):=
     ⟨fun i=>Classical.choose (key i),fun i=>Classical.choose_spec (key i)⟩
    have hes:((List.range len).map f).length=len:=by simp
    have hat: ∀(i:Nat) y,((List.range len).map f)[i]? =some y→i<len∧y=f i:=by
     intro i y hy
     have hi:i<len:=by
      have:=(List.getElem?_eq_some_iff.1 hy).1
      simpa using this
     refine ⟨hi,?_⟩
     simp only [List.getElem?_map,List.getElem?_range hi,Option.map_some,Option.some.injEq] at hy
     exact hy.symm
    have hwf: ∀y∈(List.range len).map f,WF e.sh y:=by
     intro y hy
     obtain ⟨i,hi,rfl⟩:=List.mem_map.1 hy
     obtain ⟨ci,-,-,hw⟩:=hf i (List.mem_range.1 hi)
     exact hw
    refine ⟨[.sl e.sh false ((List.range len).map f)],rds_one ?_,wfl_one rfl (.sl e.sh _ (by rw [hes];omega) hwf)⟩
    have hsize:e.sh.size=P.cellsOf u:=by rw [hsz,Sh.size,Ty.sh_leafs]
    have hcell: ∀(i:Nat) y (j:Nat) c,((List.range len).map f)[i]? =some y→y.cells[j]? =some c→ ∃v,w.cell? ((a.add (i*P.cellsOf u)).add j)=some v∧RD w (fun _=>False) c v:=by
     intro i y j c hy hc
     obtain ⟨hi,rfl⟩:=hat i y hy
     obtain ⟨ci,hci,hr,-⟩:=hf i hi
     obtain ⟨-,hl,hcs⟩:=World.cells?_some hci
     have hj:j<ci.length:=by rw [←hr.1];exact (List.getElem?_eq_some_iff.1 hc).1
     refine ⟨ci[j],?_,hr.2 j c _ hc (List.getElem?_eq_getElem hj)⟩
     rw [hcs j (by omega),List.getElem?_eq_getElem hj]
    have hspot:0<len→a.spot=none:=by
     intro h0
     obtain ⟨ci,hci,hr,-⟩:=hf 0 h0
     obtain ⟨-,hl,hcs⟩:=World.cells?_some hci
     have hpos:0<P.cellsOf u:=by
      rw [hsz]
      cases hz:Ty.shl e with
      | nil=>rw [hz] at hne;cases hne
      | cons s l=>simp
     have h1:=hcs 0 hpos
     have h2:0<ci.length:=by omega
     rw [List.getElem?_eq_getElem h2] at h1
     have e1:(a.add (0*P.cellsOf u)).add 0=a:=by simp [Addr.add]
     rw [e1] at h1
     unfold World.cell? at h1
     split at h1
     ·split at h1
      ·cases h1
      ·rename_i hs
       cases hsp:a.spot with
       | none=>rfl
       | some z=>rw [hsp] at hs;simp at hs
     ·cases h1
    have hadd: ∀i j,a.spot=none→(a.add (i*P.cellsOf u)).add j=⟨a.block,a.off+(i*e.sh.size+j),none⟩:=by
     intro i j hs
     rw [hsize]
     obtain ⟨ab,ao,zas⟩:=a
     simp only at hs
     subst hs
     unfold Addr.add
     by_cases h1:i*P.cellsOf u=0 <;> by_cases h2:j=0 <;> simp [h1,h2]
     omega
    have hmain:=RD.sl (w:=w) (Y:=fun _=>False) e.sh ((List.range len).map f) a cap
     (fun i j=>(w.cell? ((a.add (i*P.cellsOf u)).add j)).getD undef) (by rw [hes];exact hlc) (fun y hy=>(hwf y hy).fits)
     (fun i y j c hy hc=>by
      obtain ⟨v,hv,-⟩:=hcell i y j c hy hc
      have hs:=hspot (by have:=(hat i y hy).1;omega)
      refine ⟨fun h=>h.elim,hs,?_⟩
      rw [←hadd i j hs,hv]
      rfl)
     (fun i y j c hy hc=>by
      obtain ⟨v,hv,hr⟩:=hcell i y j c hy hc
      show RD w _ c ((w.cell? ((a.add (i*P.cellsOf u)).add j)).getD undef)
      rw [hv]
      exact hr)
    rw [hes] at hmain
    exact hmain
  ·cases ht
 | .st ts,fuel,t,cs,x,ht,h=>by
  unfold tyOk at ht
  split at ht
  ·rename_i fs hu
   obtain ⟨xs,n,-,-,hcs,hxl,hf⟩:=DataW.trod_struct hu h
   have:=trod_tys ts fs.toList 0 (P.cellsOf t) n cs ht hcs (fun f hfm=>by
    obtain ⟨i,hi,rfl⟩:=List.mem_iff_getElem.1 hfm
    have hi':i<fs.size:=by simpa using hi
    have:=hf i fs[i] (by simp [hi'])
    have hx:i<xs.length:=by omega
    rw [List.getElem?_eq_getElem hx] at this
    exact ⟨xs[i],by simpa using this⟩)
   simpa [Ty.shl] using this
  ·cases ht
theorem trod_tys: ∀(ts:List Ty) (fs:List Field) (off tot n:Nat) (cs:List Value),tyOks P ts fs off tot=true→cs.length=tot→
  (∀f∈fs,∃y,DataW.trod enc P w base spare held n f.type ((cs.drop f.offset).take (P.cellsOf f.type))=some y)→ ∃ds,RDs w (fun _=>False) ds (cs.drop off)∧WFL (Ty.shls ts) ds
 | [],[],off,tot,n,cs,h,hl,_=>by
  simp only [tyOks] at h
  have:=Nat.eq_of_beq_eq_true h
  refine ⟨[],⟨?_,fun j c v hc=>by simp at hc⟩,WFL.nil⟩
  simp;omega
 | [],_ :: _,off,tot,n,cs,h,_,_=>by simp [tyOks] at h
 | _ :: _,[],off,tot,n,cs,h,_,_=>by simp [tyOks] at h
 | τ :: ts,f :: fs,off,tot,n,cs,h,hl,hf=>by
  simp only [tyOks,Bool.and_eq_true] at h
  obtain ⟨⟨⟨h1,h2⟩,h3⟩,h4⟩:=h
  have h1:=Nat.eq_of_beq_eq_true h1
  have h2:=Nat.eq_of_beq_eq_true h2
  obtain ⟨y,hy⟩:=hf f (by simp)
  obtain ⟨ds1,r1,w1⟩:=trod_ty τ n f.type _ y h3 hy
  obtain ⟨ds2,r2,w2⟩:=trod_tys ts fs (off+(Ty.shl τ).length) tot n cs h4 hl (fun g hg=>hf g (by simp [hg]))
  refine ⟨ds1++ds2,?_,by simpa [Ty.shls] using w1.append w2⟩
  have:=r1.append r2
  rw [h1,h2] at this
  have e:List.take (Ty.shl τ).length (List.drop off cs)++List.drop (off+(Ty.shl τ).length) cs=List.drop off cs:=by
   rw [←List.drop_drop,List.take_append_drop]
  rw [e] at this
  exact this
end
end
open Go Go.ChangeShapes Go.WideElems
section
variable {P:Program} {w w':World} {H:Type} {enc:TypeId×Value→H}
def tyArg(P:Program)(τ:Ty)(t:TypeId):Bool:=tyOk P τ t&&decide (t<P.types.size)&&P.readableRec t
theorem cells_leaf{b0:Nat}{τ:Ty}{t:TypeId}{v:Value}(hs: ∀ts,τ≠ .st ts)(h:tyOk P τ t=true)(hv:Value.okWide P w .any b0 t v):v.cells= #[v]:=by
 cases v with
 | agg cs=>
  exfalso
  cases τ with
  | st ts=>exact hs ts rfl
  | bool=>
   unfold tyOk at h
   split at h
   ·rename_i hu
    unfold Value.okWide Cell.okWide Cell.ok at hv
    rw [hu] at hv
    exact hv
   ·cases h
  | int k=>
   unfold tyOk at h
   split at h
   ·rename_i hu
    unfold Value.okWide Cell.okWide Cell.ok at hv
    rw [hu] at hv
    exact hv
   ·cases h
  | str=>
   unfold tyOk at h
   split at h
   ·rename_i hu
    unfold Value.okWide Cell.okWide Cell.ok at hv
    rw [hu] at hv
    exact hv
   ·cases h
  | sl e=>
   unfold tyOk at h
   split at h
   ·rename_i hu
    unfold Value.okWide Cell.okWide Cell.ok at hv
    rw [hu] at hv
    exact hv
   ·cases h
 | _=>rfl
theorem WFL.leaf{s:Sh}{ds:List D}(h:WFL [s] ds): ∃d,ds=[d]∧WF s d:=by
 obtain ⟨h1,h2,h3⟩:=h
 match ds,h2 with
 | [d],_=>exact ⟨d,rfl,h3 0 s d rfl rfl⟩
def tyArgs(P:Program):List Ty→List TypeId→Bool
 | [],[]=>true
 | τ :: τs,t :: ts=>tyArg P τ t&&tyArgs P τs ts
 | _,_=>false
def WFs:List Ty→List D→Prop
 | [],[]=>True
 | τ :: τs,x :: xs=>WF τ.sh x∧WFs τs xs
 | _,_=>False
theorem args_data{b0:Nat}: ∀(τs:List Ty) (ts:List TypeId) (vs:List Value) (ds:List (DataW H)) (ps:List MemPlace),tyArgs P τs ts=true→DataW.TrodAll enc P w 0 (fun _=>true) true ts vs ds ps→
  (∀(j:Nat) t v,ts[j]? =some t→vs[j]? =some v→Value.okWide P w .any b0 t v)→ ∃xs,RDs w (fun _=>False) xs vs∧WFs τs xs
 | [],[],vs,ds,ps,_,h,_=>by
  cases vs with
  | nil=>exact ⟨[],⟨rfl,fun j c v hc=>by simp at hc⟩,trivial⟩
  | cons v vs=>simp [DataW.TrodAll] at h
 | [],_ :: _,_,_,_,h,_,_=>by simp [tyArgs] at h
 | _ :: _,[],_,_,_,h,_,_=>by simp [tyArgs] at h
 | τ :: τs,t :: ts,vs,ds,ps,ht,h,hok=>by
  simp only [tyArgs,Bool.and_eq_true] at ht
  cases vs with
  | nil=>simp [DataW.TrodAll] at h
  | cons v vs=>
   cases ds with
   | nil=>simp [DataW.TrodAll] at h
   | cons d ds=>
    obtain ⟨p,q,h1,h2,-⟩:=h
    obtain ⟨xs,hr,hw⟩:=args_data τs ts vs ds q ht.2 h2 fun j t v ht hv=>hok (j+1) t v (by simpa using ht) (by simpa using hv)
    have hτ:=ht.1
    unfold tyArg at hτ
    simp only [Bool.and_eq_true,decide_eq_true_eq] at hτ
    obtain ⟨⟨h3,h4⟩,h5⟩:=hτ
    obtain ⟨fuel,hf⟩:=h1
    obtain ⟨cs,hcs,hwf⟩:=trod_ty τ fuel t v.cells.toList _ h3 hf
    have hv:=hok 0 t v rfl rfl
    have one: ∀s:Sh,(∀ts,τ≠ .st ts)→WFL [s] cs→WF s=WF τ.sh→ ∃xs,RDs w (fun _=>False) xs (v :: vs)∧WFs (τ :: τs) xs:=by
     intro s hs hl he
     obtain ⟨d,rfl,hd⟩:=hl.leaf
     rw [cells_leaf hs h3 hv] at hcs
     exact ⟨d :: xs,RDs.append hcs hr,he ▸ hd,hw⟩
    cases τ with
    | bool=>exact one _ (fun _ h=>by cases h) hwf rfl
    | int k=>exact one _ (fun _ h=>by cases h) hwf rfl
    | str=>exact one _ (fun _ h=>by cases h) hwf rfl
    | sl e=>exact one _ (fun _ h=>by cases h) hwf rfl
    | st fs=>
     unfold tyOk at h3
     split at h3
     ·rename_i fields hu
      unfold Value.okWide at hv
      rw [hu] at hv
      obtain ⟨vs0,rfl,-,-⟩:=hv
      refine ⟨.agg cs :: xs,?_,⟨.agg _ _ hwf.1 hwf.2.1 hwf.2.2,hw⟩⟩
      have h6:=rds_one (w:=w) (Y:=fun _=>False) (RD.agg (w:=w) cs vs0.toList hcs.1 hcs.2)
      exact h6.append hr
     ·cases h3
theorem reads_on{sp:Nat→Bool}(hl:laidOutB P=true)(hsame: ∀p:MemPlace,p.block<w.heap.size→w.sameAt w' p): ∀(τs:List Ty) (ts:List TypeId) (vs:List Value) (ds:List (DataW H)) (ps:List MemPlace),tyArgs P τs ts=true→
  DataW.TrodAll enc P w 0 (fun _=>true) true ts vs ds ps→(∀p∈ps,p.block<w.heap.size)→(∀p∈ps,sp p.block=true)→DataW.TrodAll enc P w' 0 sp true ts vs ds ps
 | [],[],vs,ds,ps,_,h,_,_=>by
  cases vs <;> cases ds <;> simp_all [DataW.TrodAll]
 | [],_ :: _,_,_,_,h,_,_,_=>by simp [tyArgs] at h
 | _ :: _,[],_,_,_,h,_,_,_=>by simp [tyArgs] at h
 | τ :: τs,t :: ts,vs,ds,ps,ht,h,hb,hs=>by
  simp only [tyArgs,Bool.and_eq_true] at ht
  cases vs with
  | nil=>simp [DataW.TrodAll] at h
  | cons v vs=>
   cases ds with
   | nil=>simp [DataW.TrodAll] at h
   | cons d ds=>
    obtain ⟨p,q,h1,h2,rfl⟩:=h
    have hτ:=ht.1
    unfold tyArg at hτ
    simp only [Bool.and_eq_true,decide_eq_true_eq] at hτ
    obtain ⟨⟨h3,h4⟩,h5⟩:=hτ
    exact ⟨p,q,Trod_stays hl h5 h4 h1 (fun x hx=>hsame x (hb x (List.mem_append_left _ hx))) (fun x hx=>hs x (List.mem_append_left _ hx)),
     reads_on hl hsame τs ts vs ds q ht.2 h2 (fun x hx=>hb x (List.mem_append_right _ hx)) (fun x hx=>hs x (List.mem_append_right _ hx)),rfl⟩
theorem frozen_of_keep(hk:Keep (fun _=>False) w w')(a:Addr)(ha:a.block<w.heap.size):w'.frozen? a=w.frozen? a:=by
 unfold World.frozen?
 rw [hk.heap a.block ha (fun h=>h)]
theorem keptBut_of_keep(hk:Keep (fun _=>False) w w')(may:MemPlace→Prop):w.keptBut w' may:=by
 refine World.keptBut_mono (may:=fun _=>False) (fun _ h=>h.elim) (World.keptBut_none_iff.2 ⟨hk.out.1,hk.out.2,fun i hi=>hk.heap i hi (fun h=>h)⟩)
theorem sameAt_of_keep(hk:Keep (fun _=>False) w w')(p:MemPlace)(hp:p.block<w.heap.size):w.sameAt w' p:=by
 cases p with
 | cell b off=>
  show w'.cell? ⟨b,off,none⟩=w.cell? ⟨b,off,none⟩
  unfold World.cell?
  rw [hk.heap b hp (fun h=>h)]
 | map b=>exact hk.heap b hp (fun h=>h)
theorem law_calls {b0 : Nat} {f : FuncId} {fn : Func} {c : Code} {g : List D → Tree (List D)} {τs : List Ty} (hfn : P.funcs[f]? = some fn) (hname : fn.name ≠ "runtime.NumGoroutine") (hbody : fn.body = some c)
  (hp:PureOK P f g) (hty:tyArgs P τs fn.params.toList=true) (hg: ∀xs,WFs τs xs→(g xs).eval=some [.bool true])
  {args:Array Value} {ds:List (DataW H)} {p:List MemPlace} (hA:DataW.TrodAll enc P w 0 (fun _=>true) true fn.params.toList args.toList ds p)
  (hok: ∀(j:Nat) t v,fn.params[j]? =some t→args[j]? =some v→Value.okWide P w .any b0 t v) (hT:TabOK P w (fun _=>False)) (hyn:f≠yNo:=by decide):
  Calls P f args w fun e w'=>e= .returned (.bool true)∧Keep (fun _=>False) w w':=by
 obtain ⟨xs,hr,hw⟩:=args_data τs _ _ _ _ hty hA (fun j t v ht hv=>hok j t v (by simpa using ht) (by simpa using hv))
 have:=hp hyn xs [.bool true] (hg xs hw) w (fun _=>False) args (fun b h=>h.elim) hT hr
 rcases this with ⟨-,h⟩ | ⟨u,w',h,-⟩
 ·refine Calls.mono h ?_
  rintro e w' ⟨u,rfl,hv,hk⟩
  simp only [retV,RV] at hv
  cases hv
  exact ⟨rfl,hk⟩
 ·rw [MuLone.run_callFunc_enter hfn (by simpa using hname) hbody args w] at h
  cases h
end
open Go Go.ChangeShapes
theorem WFL.inv{f:Sh}{fs:List Sh}{cs:List D}(h:WFL (f :: fs) cs): ∃c cs',cs=c :: cs'∧WF f c∧WFL fs cs':=by
 obtain ⟨h1,h2,h3⟩:=h
 cases cs with
 | nil=>simp at h2
 | cons c cs=>exact ⟨c,cs,rfl,h3 0 f c rfl rfl,fun g hg=>h1 g (by simp [hg]),by simpa using h2,fun i g d hg hd=>h3 (i+1) g d (by simpa using hg) (by simpa using hd)⟩
theorem WFL.inv_nil{cs:List D}(h:WFL [] cs):cs=[]:=by
 have:=h.2.1
 cases cs with
 | nil=>rfl
 | cons c cs=>simp at this
theorem WF.inv_agg{fs:List Sh}{x:D}(h:WF (.agg fs) x): ∃cs,x= .agg cs∧WFL fs cs:=by
 cases h with
 | agg fs cs ha hl hh=>exact ⟨cs,rfl,ha,hl,hh⟩
theorem WF.inv_int{k:IntKind}{x:D}(h:WF (.int k) x): ∃n,x= .int k n:=by
 cases h with
 | int k n hn=>exact ⟨n,rfl⟩
theorem WF.inv_str{x:D}(h:WF .str x): ∃s,x= .str s:=by
 cases h with
 | str s hs=>exact ⟨s,rfl⟩
theorem WF.inv_bool{x:D}(h:WF .bool x): ∃b,x= .bool b:=by
 cases h with
 | bool b=>exact ⟨b,rfl⟩
theorem WF.inv_sl{e:Sh}{x:D}(h:WF (.sl e) x): ∃n es,x= .sl e n es∧(n=true→es=[])∧ ∀y∈es,WF e y:=by
 cases h with
 | slnil e=>exact ⟨true,[],rfl,fun _=>rfl,fun y hy=>by simp at hy⟩
 | sl e es hl hh=>exact ⟨false,es,rfl,fun h=>by simp at h,hh⟩
theorem law_post{H:Type}{enc:TypeId×Value→H}{P:Program}{fn:Func}{s:ChangeSpec}{τs:List Ty}{tb:TypeId}{W W':World}{args:Array Value}{ds gs:List (DataW H)}{before:List MemPlace}{fresh handsOn again:Bool}
  (hW:DataW.Whole enc P fn.params.toList s.vars false W args.toList ds gs before) (hv:s.vars=[]) (hl:laidOutB P=true) (hty:tyArgs P τs fn.params.toList=true) (hrt:fn.resultTypes= #[tb]) (htb:P.underlying tb=some .bool)
  (hr:(s.fn H ds).results=[.lit (.bool true)]) (ha:(s.fn H ds).args=ds) (hvs:(s.fn H ds).vars=[]) (hk:Keep (fun _=>False) W W'):
  s.post enc P fn false fresh handsOn again W args (.bool true) W':=by
 have hlt:=hW.lt
 obtain ⟨pa,pv,hA,hV,rfl,hz,hn⟩:=hW
 rw [hv] at hV
 obtain ⟨rfl,rfl⟩:=trodVars_none hV
 simp only [List.append_nil] at hlt hz
 have hargs: ∀sp:Nat→Bool,(∀p∈pa,sp p.block=true)→DataW.TrodAll enc P W' 0 sp true fn.params.toList args.toList ds pa:=fun sp hsp=>
  reads_on hl (fun p hp=>sameAt_of_keep hk p hp) τs _ _ _ _ hty hA hlt hsp
 have hres: ∀(b:Nat) (sp:Nat→Bool) (hd:Bool),DataW.TrodAll enc P W' b sp hd fn.resultTypes.toList ((Value.bool true).resultList fn.resultTypes.size) [.lit (.bool true)] []:=by
  intro b sp hd
  rw [hrt]
  exact trodAll_mk1 (RowKit.shut_bool htb true)
 have hvars: ∀sp:Nat→Bool,DataW.TrodVars enc P W' sp s.vars [] []:=by
  intro sp
  rw [hv]
  rfl
 refine ⟨ds,[],pa++[],[],pa,[],⟨pa,[],hA,by rw [hv];exact hV,rfl,by simpa using hz,hn⟩,?_,?_,?_,keptBut_of_keep hk _,fun _=>⟨?_,?_⟩⟩
 ·simp only [List.append_nil,hr]
  exact hres _ _ _
 ·simp only [List.append_nil,ha]
  exact hargs _ (fun p hp=>by simpa using hlt p hp)
 ·simp only [List.append_nil,hvs]
  exact hvars _
 ·exact RowKit.ok_one hrt rfl (RowKit.okWide_bool_mk htb true)
 ·refine ⟨_,_,([]++pa)++[],⟨[]++pa,[],trodAll_append (hargs _ (fun _ _=>rfl)) (hres _ _ _),hvars _,rfl,?_,fun h=>by cases h⟩,?_⟩
  ·intro b off hp
   have hp:MemPlace.cell b off∈pa:=by simpa using hp
   rw [frozen_of_keep hk _ (show b<W.heap.size from hlt _ hp)]
   exact hz b off hp
  ·intro p hp _
   simpa using hp
end Go.AM
namespace Go.Proofs.YtlhageadjmoajaaGreatDoor.A
open Go Go.AM
set_option maxRecDepth 20000
def hopTy:Ty:= .st [.int .i64,.int .i64]
def stepTy:Ty:= .st [.st [.int .i64,.str,.int .i64],.int .i64,.str,.int .i64,.int .i64]
def partTy:Ty:= .st [.int .i64,.int .i64]
def sagaTy:Ty:= .st [.st [.int .i64,.int .i64,.sl hopTy],.st [.str,.sl stepTy],.int .i64,.int .i64,.sl partTy,.bool]
theorem saga_in{x:D}(h0:WF sagaTy.sh x): ∃rt nn st wy n1 n2 n3 fc hops steps parts nm,x=sagaD rt nn st wy n1 n2 n3 fc hops steps parts nm∧(n1=true→hops=[])∧(n2=true→steps=[])∧(n3=true→parts=[]):=by
 obtain ⟨cs,rfl,h⟩:=WF.inv_agg h0
 obtain ⟨_,_,rfl,a1,h⟩:=h.inv
 obtain ⟨_,_,rfl,a2,h⟩:=h.inv
 obtain ⟨_,_,rfl,a3,h⟩:=h.inv
 obtain ⟨_,_,rfl,a4,h⟩:=h.inv
 obtain ⟨_,_,rfl,a5,h⟩:=h.inv
 obtain ⟨_,_,rfl,a6,h⟩:=h.inv
 obtain ⟨_,_,rfl,a7,h⟩:=h.inv
 obtain ⟨_,_,rfl,a8,h⟩:=h.inv
 obtain ⟨_,_,rfl,a9,h⟩:=h.inv
 obtain rfl:=h.inv_nil
 obtain ⟨rt,rfl⟩:=a1.inv_int
 obtain ⟨nn,rfl⟩:=a2.inv_int
 obtain ⟨n1,hops,rfl,b1,-⟩:=a3.inv_sl
 obtain ⟨nm,rfl⟩:=a4.inv_str
 obtain ⟨n2,steps,rfl,b2,-⟩:=a5.inv_sl
 obtain ⟨st,rfl⟩:=a6.inv_int
 obtain ⟨wy,rfl⟩:=a7.inv_int
 obtain ⟨n3,parts,rfl,b3,-⟩:=a8.inv_sl
 obtain ⟨fc,rfl⟩:=a9.inv_bool
 exact ⟨rt,nn,st,wy,n1,n2,n3,fc,hops,steps,parts,nm,rfl,b1,b2,b3⟩
def accTy:Ty:= .st [.str,.st [.int .i64,.int .i64,.int .i64],.st [.int .i64,.int .i64,.int .i64]]
def mrkTy:Ty:= .st [.str,.st [.int .i64,.str,.int .i64],.int .i64]
def defTy:Ty:= .st [.str,.sl stepTy]
def stateTy:Ty:= .st [.int .i64,.int .i64,.int .i64,.st [.sl accTy,.sl mrkTy],.sl defTy,.sl sagaTy]
def idTy:Ty:= .st [.int .i64,.int .i64,.sl hopTy]
theorem def_in{x:D}(h0:WF defTy.sh x): ∃nm nil es,x= .agg [.str nm,.sl stepSh nil es]∧(nil=true→es=[]):=by
 obtain ⟨cs,rfl,h⟩:=WF.inv_agg h0
 obtain ⟨_,_,rfl,a1,h⟩:=h.inv
 obtain ⟨_,_,rfl,a2,h⟩:=h.inv
 obtain rfl:=h.inv_nil
 obtain ⟨nm,rfl⟩:=a1.inv_str
 obtain ⟨nil,es,rfl,b,-⟩:=a2.inv_sl
 exact ⟨nm,nil,es,rfl,b⟩
theorem state_in{x:D}(h0:WF stateTy.sh x): ∃og ep co na nm nb ns ac ms bs ss,x=stD og ep co na nm nb ns ac ms bs ss∧nilS ss∧nilB bs:=by
 obtain ⟨cs,rfl,h⟩:=WF.inv_agg h0
 obtain ⟨_,_,rfl,a1,h⟩:=h.inv
 obtain ⟨_,_,rfl,a2,h⟩:=h.inv
 obtain ⟨_,_,rfl,a3,h⟩:=h.inv
 obtain ⟨_,_,rfl,a4,h⟩:=h.inv
 obtain ⟨_,_,rfl,a5,h⟩:=h.inv
 obtain ⟨_,_,rfl,a6,h⟩:=h.inv
 obtain ⟨_,_,rfl,a7,h⟩:=h.inv
 obtain rfl:=h.inv_nil
 obtain ⟨og,rfl⟩:=a1.inv_int
 obtain ⟨ep,rfl⟩:=a2.inv_int
 obtain ⟨co,rfl⟩:=a3.inv_int
 obtain ⟨na,ac,rfl,-,-⟩:=a4.inv_sl
 obtain ⟨nm,ms,rfl,-,-⟩:=a5.inv_sl
 obtain ⟨nb,bs,rfl,-,hb⟩:=a6.inv_sl
 obtain ⟨ns,ss,rfl,-,hs⟩:=a7.inv_sl
 refine ⟨og,ep,co,na,nm,nb,ns,ac,ms,bs,ss,rfl,fun i hi=> ?_,fun i hi=> ?_⟩
 ·obtain ⟨rt,nn,st,wy,n1,n2,n3,fc,hops,steps,parts,nm,e,b1,b2,b3⟩:=saga_in (hs _ (getD_mem hi))
  rw [e]
  exact ⟨b1,b2,b3⟩
 ·obtain ⟨nm,nil,es,e,b⟩:=def_in (hb _ (getD_mem hi))
  rw [e]
  exact b
theorem id_in{x:D}(h0:WF idTy.sh x): ∃r q nil es,x= .agg [.int .i64 r,.int .i64 q,.sl hopSh nil es]∧(nil=true→es=[]):=by
 obtain ⟨cs,rfl,h⟩:=WF.inv_agg h0
 obtain ⟨_,_,rfl,a1,h⟩:=h.inv
 obtain ⟨_,_,rfl,a2,h⟩:=h.inv
 obtain ⟨_,_,rfl,a3,h⟩:=h.inv
 obtain rfl:=h.inv_nil
 obtain ⟨r,rfl⟩:=a1.inv_int
 obtain ⟨q,rfl⟩:=a2.inv_int
 obtain ⟨nil,es,rfl,b,-⟩:=a3.inv_sl
 exact ⟨r,q,nil,es,rfl,b⟩
theorem law_trueP{P:Program}(hm:P.follows .mixedOrders=true){E:Env}{f:Nat}{tys:List Ty}(hE:EnvOK P E)(h: ∀ds,WFs tys ds→ ∃n,(callN E n f (ds.map .d) []).out=some [.bool true]):
  ∃g,PureOK P f g∧ ∀xs,WFs tys xs→(g xs).eval=some [.bool true]:=by
 refine ⟨fun ds=> @ite _ (WFs tys ds) (Classical.propDecidable _) (.ret [D.bool true]) .stuck,PureOK.run hm hE fun ds rs hr=> ?_,fun xs hw=> ?_⟩
 ·by_cases hw:WFs tys ds
  ·rw [if_pos hw] at hr
   cases hr
   exact h ds hw
  ·rw [if_neg hw] at hr
   cases hr
 ·show Tree.eval (@ite _ (WFs tys xs) (Classical.propDecidable _) (.ret [D.bool true]) .stuck)=_
  rw [if_pos hw];rfl
open Go Go.AM Go.Proofs Go.ChangeShapes
def powZ:List Int:=[1,10,100,1000,10000,100000,1000000,10000000,100000000,1000000000,10000000000,100000000000,1000000000000,10000000000000,100000000000000,1000000000000000,10000000000000000,100000000000000000,1000000000000000000,10000000000000000000]
def powW:DataW Unit:= .agg (powZ.map fun n=> .lit (.int .u64 n))
theorem powLaid:powW= .agg (powZ.map fun n=> .lit (.int .u64 n)):=rfl
theorem tab_cellsP {P : Program} {gN tN eN : Nat} (hgn : P.globalNamed "internal/strconv.uint64pow10" = some gN) (hgt : (P.globals[gN]?).map (·.type) = some tN) (hun : P.underlying tN = some (.array 20 eN)) (hce : P.cellsOf eN = 1) (hue : P.underlying eN = some (.int .u64)) {W : World} {l : List (String × DataW Unit)} {ps : List MemPlace} (h : DataW.LaidVars P W l ps) (hm : ("internal/strconv.uint64pow10", powW) ∈ l) :
  ∀r,r<20→W.cell? ⟨gN,r,none⟩=some (.int .u64 (powZ.getD r 0)):=by
 induction l generalizing ps with
 | nil=>cases hm
 | cons x l ih=>
  obtain ⟨nm,d⟩:=x
  obtain ⟨g,t,cs,fuel,p,q,hg,ht,hv,hd,hrest,-⟩:=h
  rcases List.mem_cons.1 hm with he | hm
  ·cases he
   intro r hr
   obtain rfl:=Option.some.inj (hgn.symm.trans hg)
   obtain rfl:=Option.some.inj (hgt.symm.trans ht)
   obtain ⟨xs,m,_,ex,_,hl,hel⟩:=DataW.trod_array hun hd
   have c5:P.cellsOf eN=1:=hce
   have hE:=hel r hr
   rw [c5,Nat.mul_one,List.getElem?_eq_getElem (by omega)] at hE
   obtain ⟨z,e1,e2,_⟩:=DataW.trod_int hue hE
   have hlen:powZ.length=20:=rfl
   have e3:(xs.map (·.1))=powZ.map fun n=> .lit (.int .u64 n):=(DataW.agg.inj (powLaid.symm.trans (Prod.mk.inj ex).1)).symm
   have e4:(xs.map (·.1))[r]? =(powZ.map fun n=>(DataW.lit (.int .u64 n):DataW Unit))[r]? :=by rw [e3]
   rw [List.getElem?_map,List.getElem?_map,List.getElem?_eq_getElem (by omega:r<xs.length),List.getElem?_eq_getElem (by omega:r<powZ.length),e2] at e4
   have hz:z=powZ.getD r 0:=by
    simp only [Option.map_some,Option.some.injEq,DataW.lit.injEq,Lit.int.injEq,true_and] at e4
    rw [e4,List.getD,List.getElem?_eq_getElem (by omega:r<powZ.length)];rfl
   rw [World.var?_cell hg hv r,←hz]
   have:cs.toList[r]? =some (.int .u64 z):=by
    have h0:((cs.toList.drop r).take 1)[0]? =some (.int .u64 z):=by rw [e1];rfl
    simpa using h0
   simpa using this
  ·exact ih hrest hm
theorem tab_okP {P : Program} {gN tN eN : Nat} (hgn : P.globalNamed "internal/strconv.uint64pow10" = some gN) (hgt : (P.globals[gN]?).map (·.type) = some tN) (hun : P.underlying tN = some (.array 20 eN)) (hce : P.cellsOf eN = 1) (hue : P.underlying eN = some (.int .u64)) (htab : (tabOf P).map (·.1) = [gN]) {W : World} {l : List (String × DataW Unit)} {ps : List MemPlace} (h : DataW.LaidVars P W l ps) (hm : ("internal/strconv.uint64pow10", powW) ∈ l) : TabOK P W (fun _ => False) := by
 have hc:=tab_cellsP hgn hgt hun hce hue h hm
 have ht:tabOf P=[(gN,pow10)]:=by
  have:=htab
  unfold tabOf at this ⊢
  split
  ·rename_i g hg;rw [hg] at this;simp at this;rw [this]
  ·rename_i hg;rw [hg] at this;cases this
 intro p hp
 rw [ht] at hp
 rw [List.mem_singleton] at hp
 subst hp
 refine ⟨?_,fun h=>h,fun j c hj=> ?_⟩
 ·have h0:=hc 0 (by omega)
  unfold World.cell? at h0
  cases hh:W.heap[gN]? with
  | none=>rw [hh] at h0;cases h0
  | some o=>exact (Array.getElem?_eq_some_iff.1 hh).1
 ·have hj20:j<20:=(List.getElem?_eq_some_iff.1 hj).1
  have:c= .int .u64 (powZ.getD j 0):=by
   have e:pow10=powZ.map fun n=> .int .u64 n:=rfl
   rw [e,List.getElem?_map] at hj
   rw [List.getD]
   cases hx:powZ[j]? with
   | none=>rw [hx] at hj;cases hj
   | some x=>rw [hx] at hj;simpa using hj.symm
  subst this
  exact ⟨_,hc j hj20,.int _ _⟩
def Da:Env:=Mt.pureAt 10 true g18m
theorem okDa{P:Program}(hm:P.follows .mixedOrders=true)(h:EnvOK P Mt):EnvOK P Da:=h.pureAt (pure18m hm h)
theorem x170(m n:Nat)(r q k o:Int)(nil:Bool)(es:List D):Go.AM.Tree.out (enterM Da (callN Da (m+40)) n c116 [.d (.agg [.int .i64 r,.int .i64 q,.sl hopSh nil es]),.d (.int .i64 k),.d (.int .i64 o)] [])=bif (bif idOk r q es then (0:Int) else (30:Int)) != (0:Int) then some [D.agg [D.int IntKind.i64 (0:Int),D.int IntKind.i64 (0:Int),D.sl hopSh true []],D.int IntKind.i64 (bif idOk r q es then (0:Int) else (30:Int))] else bif nil then bif (bif idOk r q [D.agg [D.int IntKind.i64 k,D.int IntKind.i64 o]] then (0:Int) else (30:Int)) != (0:Int) then some [D.agg [D.int IntKind.i64 (0:Int),D.int IntKind.i64 (0:Int),D.sl hopSh true []],D.int IntKind.i64 (bif idOk r q [D.agg [D.int IntKind.i64 k,D.int IntKind.i64 o]] then (0:Int) else (30:Int))] else some [D.agg [D.int IntKind.i64 r,D.int IntKind.i64 q,D.sl hopSh false [D.agg [D.int IntKind.i64 k,D.int IntKind.i64 o]]],D.int IntKind.i64 (0:Int)] else bif decide (List.length es≤(1000000:Nat)) then bif decide (List.length es+(1:Nat)≤(4294967296:Nat)) then bif (bif idOk r q (List.append es [D.agg [D.int IntKind.i64 k,D.int IntKind.i64 o]]) then (0:Int) else (30:Int)) != (0:Int) then some [D.agg [D.int IntKind.i64 (0:Int),D.int IntKind.i64 (0:Int),D.sl hopSh true []],D.int IntKind.i64 (bif idOk r q (List.append es [D.agg [D.int IntKind.i64 k,D.int IntKind.i64 o]]) then (0:Int) else (30:Int))] else some [D.agg [D.int IntKind.i64 r,D.int IntKind.i64 q,D.sl hopSh false (List.append es [D.agg [D.int IntKind.i64 k,D.int IntKind.i64 o]])],D.int IntKind.i64 (0:Int)] else none else none:=by kernel_rfl
theorem x65(m n:Nat)(r q k o:Int)(nil:Bool)(es:List D):Go.AM.Tree.out (enterM Da (callN Da (m+40)) n c117 [.d (.agg [.int .i64 r,.int .i64 q,.sl hopSh nil es]),.d (.int .i64 k),.d (.int .i64 o)] [])=bif decide ((0:Nat)+List.length es≤(4294967296:Nat)) then bif decide (List.length es+(1:Nat)≤(4294967296:Nat)) then bif (bif idOk r q es then (0:Int) else (30:Int)) != (0:Int) then some [D.agg [D.int IntKind.i64 (0:Int),D.int IntKind.i64 (0:Int),D.sl hopSh true []],D.int IntKind.i64 (30:Int)] else bif (bif idOk r q (List.append es [D.agg [D.int IntKind.i64 k,D.int IntKind.i64 o]]) then (0:Int) else (30:Int)) != (0:Int) then some [D.agg [D.int IntKind.i64 (0:Int),D.int IntKind.i64 (0:Int),D.sl hopSh true []],D.int IntKind.i64 (30:Int)] else some [D.agg [D.int IntKind.i64 r,D.int IntKind.i64 q,D.sl hopSh false (List.append es [D.agg [D.int IntKind.i64 k,D.int IntKind.i64 o]])],D.int IntKind.i64 (0:Int)] else none else none:=by kernel_rfl
def hpD(k o:Int):D:= .agg [.int .i64 k,.int .i64 o]
def kidOk(r q:Int)(es:List D)(k o:Int):Bool:=idOk r q es&&idOk r q (es++[hpD k o])
def kidD(r q:Int)(es:List D)(k o:Int):D:= .agg [.int .i64 r,.int .i64 q,.sl hopSh false (es++[hpD k o])]
def zId:D:= .agg [.int .i64 0,.int .i64 0,.sl hopSh true []]
def kidT(r q:Int)(es:List D)(k o:Int):Tree (List D):= .ite (kidOk r q es k o) (fun _=> .ret [kidD r q es k o,.int .i64 0]) (fun _=> .ret [zId,.int .i64 30])
def owedK(st c i p:Int)(fc:Bool):Int:=
 bif st==1 then bif p==1 then 1 else 0 else bif st==4||st==5 then bif i==c&&(p==1||p==2) then 4 else 0 else
 bif st==3 then bif p==2 then 3 else bif p==1&&fc then 4 else 0 else bif st==6 then bif p==1||p==2 then 4 else 0 else 0
theorem rn170(m n:Nat)(r q k o:Int)(nil:Bool)(es:List D)(h1:nil=true→es=[])(h2:es.length≤1000000):
  (enterM Da (callN Da (m+40)) n c116 [.d (.agg [.int .i64 r,.int .i64 q,.sl hopSh nil es]),.d (.int .i64 k),.d (.int .i64 o)] []).out=(kidT r q es k o).eval:=by
 rw [x170]
 simp only [ne0 _ 30 (by decide)]
 unfold kidT kidOk
 cases hi:idOk r q es
 ·rfl
 ·cases hj:idOk r q (es++[hpD k o])
  ·have hj':idOk r q (List.append es [D.agg [D.int .i64 k,D.int .i64 o]])=false:=hj
   cases nil
   ·refine (cf rfl).trans ((cf rfl).trans ((ct (decide_eq_true h2)).trans ((ct (decide_eq_true (by omega))).trans ?_)))
    rw [hj'];rfl
   ·obtain rfl:=h1 rfl
    have hj':idOk r q [D.agg [D.int .i64 k,D.int .i64 o]]=false:=hj
    rw [hj'];rfl
  ·have hj':idOk r q (List.append es [D.agg [D.int .i64 k,D.int .i64 o]])=true:=hj
   cases nil
   ·refine (cf rfl).trans ((cf rfl).trans ((ct (decide_eq_true h2)).trans ((ct (decide_eq_true (by omega))).trans ?_)))
    rw [hj'];rfl
   ·obtain rfl:=h1 rfl
    have hj':idOk r q [D.agg [D.int .i64 k,D.int .i64 o]]=true:=hj
    rw [hj'];rfl
theorem rn65(m n:Nat)(r q k o:Int)(nil:Bool)(es:List D)(h2:es.length≤1000000):
  (enterM Da (callN Da (m+40)) n c117 [.d (.agg [.int .i64 r,.int .i64 q,.sl hopSh nil es]),.d (.int .i64 k),.d (.int .i64 o)] []).out=(kidT r q es k o).eval:=by
 rw [x65]
 simp only [ne0 _ 30 (by decide)]
 unfold kidT kidOk
 refine (ct (decide_eq_true (by omega))).trans ((ct (decide_eq_true (by omega))).trans ?_)
 cases hi:idOk r q es
 ·rfl
 ·cases hj:idOk r q (es++[hpD k o])
  ·have hj':idOk r q (List.append es [D.agg [D.int .i64 k,D.int .i64 o]])=false:=hj
   rw [hj'];rfl
  ·have hj':idOk r q (List.append es [D.agg [D.int .i64 k,D.int .i64 o]])=true:=hj
   rw [hj'];rfl
def g170d:List D→Tree (List D)
 | [.agg [.int .i64 r,.int .i64 q,.sl e0 nil es],.int .i64 k,.int .i64 o]=>match Sh.beq e0 hopSh with
  | true=> .ite ((!nil||es.isEmpty)&&decide (es.length≤1000000)) (fun _=>kidT r q es k o) (fun _=> .stuck)
  | false=> .stuck
 | _=> .stuck
theorem pure170d{P:Program}(hm:P.follows .mixedOrders=true)(h0:EnvOK P Da):PureOK P 116 g170d:=PureOK.run hm h0 fun ds rs h=>by
 unfold g170d at h
 split at h
 ·rename_i r q e0 nil es k o
  split at h
  ·rename_i hb
   have hb0:=hb
   have hb0:=Sh.beq_eq hb0
   subst hb0
   obtain ⟨hg,h'⟩:=eval_guard h
   clear h
   simp only [Bool.and_eq_true,decide_eq_true_eq] at hg
   exact ⟨59+1,by rw [callN_succ (fn:=c116) rfl];exact (rn170 19 59 r q k o nil es (fun h=>by rw [h] at hg;exact List.isEmpty_iff.1 hg.1) hg.2).trans h'⟩
  ·cases h
 ·cases h
def g65d:List D→Tree (List D)
 | [.agg [.int .i64 r,.int .i64 q,.sl e0 _nil es],.int .i64 k,.int .i64 o]=>match Sh.beq e0 hopSh with
  | true=> .ite (decide (es.length≤1000000)) (fun _=>kidT r q es k o) (fun _=> .stuck)
  | false=> .stuck
 | _=> .stuck
theorem pure65d{P:Program}(hm:P.follows .mixedOrders=true)(h0:EnvOK P Da):PureOK P 117 g65d:=PureOK.run hm h0 fun ds rs h=>by
 unfold g65d at h
 split at h
 ·rename_i r q e0 nil es k o
  split at h
  ·rename_i hb
   have hb0:=hb
   have hb0:=Sh.beq_eq hb0
   subst hb0
   obtain ⟨hg,h'⟩:=eval_guard h
   clear h
   simp only [decide_eq_true_eq] at hg
   exact ⟨59+1,by rw [callN_succ (fn:=c117) rfl];exact (rn65 19 59 r q k o nil es hg).trans h'⟩
  ·cases h
 ·cases h
def Db:Env:=(Da.pureAt 116 false g170d).pureAt 117 false g65d
theorem okDb{P:Program}(hm:P.follows .mixedOrders=true)(h:EnvOK P Da):EnvOK P Db:=(h.pureAt (pure170d hm h)).pureAt (pure65d hm h)
def wkC(rt nn st wy:Int)(n1 n2 n3 fc f1 f2 f3 f4:Bool)(hops steps parts:List D)(nm:List UInt8)(og ep co:Int)(na nm' nb ns:Bool)(ac ms bs ss:List D)(ix:Int):List V:=[.d (.int .i64 rt),.d (.int .i64 nn),.d (.sl hopSh n1 hops),.d (.str nm),.d (.sl stepSh n2 steps),.d (.int .i64 st),.d (.int .i64 wy),.d (.sl partSh n3 parts),.d (.bool fc),.d (.bool f1),.d (.bool f2),.d (.bool f3),.d (.bool f4),.d (.int .i64 og),.d (.int .i64 ep),.d (.int .i64 co),.d (.sl accSh na ac),.d (.sl mrkSh nm' ms),.d (.sl defSh nb bs),.d (.sl sgSh ns ss),.d (.int .i64 ix)]
theorem x1054(m n:Nat)(rt nn st wy:Int)(n1 n2 n3 fc f1 f2 f3 f4:Bool)(hops steps parts:List D)(nm:List UInt8)(og ep co:Int)(na nm' nb ns:Bool)(ac ms bs ss:List D)(ix:Int):Tree.outG (enterM Db (callN Db (m+40)) n c54 [.ptr 0 0] [(0,.box (wkC rt nn st wy n1 n2 n3 fc f1 f2 f3 f4 hops steps parts nm og ep co na nm' nb ns ac ms bs ss ix))])=bif st==1 then bif decide (0≤ix) then bif decide (0≤ix∧ix<(↑(List.length parts):Int)) then some (V.d (D.bool (fi 0 (List.getD parts (Int.toNat ix) D.nilp)==1)),[(0,Obj.box [V.d (D.int .i64 rt),V.d (D.int .i64 nn),V.d (D.sl hopSh n1 hops),V.d (D.str nm),V.d (D.sl stepSh n2 steps),V.d (D.int .i64 st),V.d (D.int .i64 wy),V.d (D.sl hopSh n3 parts),V.d (D.bool fc),V.d (D.bool f1),V.d (D.bool f2),V.d (D.bool f3),V.d (D.bool f4),V.d (D.int .i64 og),V.d (D.int .i64 ep),V.d (D.int .i64 co),V.d (D.sl accSh na ac),V.d (D.sl mrkSh nm' ms),V.d (D.sl (Sh.agg [Sh.str,Sh.sl stepSh]) nb bs),V.d (D.sl (Sh.agg [Sh.int .i64,Sh.int .i64,Sh.sl hopSh,Sh.str,Sh.sl stepSh,Sh.int .i64,Sh.int .i64,Sh.sl hopSh,Sh.bool]) ns ss),V.d (D.int .i64 ix)])]) else none else some (V.d (D.bool false),[(0,Obj.box [V.d (D.int .i64 rt),V.d (D.int .i64 nn),V.d (D.sl hopSh n1 hops),V.d (D.str nm),V.d (D.sl stepSh n2 steps),V.d (D.int .i64 st),V.d (D.int .i64 wy),V.d (D.sl hopSh n3 parts),V.d (D.bool fc),V.d (D.bool f1),V.d (D.bool f2),V.d (D.bool f3),V.d (D.bool f4),V.d (D.int .i64 og),V.d (D.int .i64 ep),V.d (D.int .i64 co),V.d (D.sl accSh na ac),V.d (D.sl mrkSh nm' ms),V.d (D.sl (Sh.agg [Sh.str,Sh.sl stepSh]) nb bs),V.d (D.sl (Sh.agg [Sh.int .i64,Sh.int .i64,Sh.sl hopSh,Sh.str,Sh.sl stepSh,Sh.int .i64,Sh.int .i64,Sh.sl hopSh,Sh.bool]) ns ss),V.d (D.int .i64 ix)])]) else some (V.d (D.bool false),[(0,Obj.box [V.d (D.int .i64 rt),V.d (D.int .i64 nn),V.d (D.sl hopSh n1 hops),V.d (D.str nm),V.d (D.sl stepSh n2 steps),V.d (D.int .i64 st),V.d (D.int .i64 wy),V.d (D.sl hopSh n3 parts),V.d (D.bool fc),V.d (D.bool f1),V.d (D.bool f2),V.d (D.bool f3),V.d (D.bool f4),V.d (D.int .i64 og),V.d (D.int .i64 ep),V.d (D.int .i64 co),V.d (D.sl accSh na ac),V.d (D.sl mrkSh nm' ms),V.d (D.sl (Sh.agg [Sh.str,Sh.sl stepSh]) nb bs),V.d (D.sl (Sh.agg [Sh.int .i64,Sh.int .i64,Sh.sl hopSh,Sh.str,Sh.sl stepSh,Sh.int .i64,Sh.int .i64,Sh.sl hopSh,Sh.bool]) ns ss),V.d (D.int .i64 ix)])]):=by kernel_rfl
def waitsP(st ix:Int)(parts:List D):Bool:=st==1&&(decide (0≤ix)&&fi 0 (parts.getD ix.toNat .nilp)==1)
theorem rn1054(m n:Nat)(rt nn st wy:Int)(n1 n2 n3 fc f1 f2 f3 f4:Bool)(hops steps parts:List D)(nm:List UInt8)(og ep co:Int)(na nm' nb ns:Bool)(ac ms bs ss:List D)(ix:Int)(h:0≤ix→ix<(parts.length:Int)):
  (enterM Db (callN Db (m+40)) n c54 [.ptr 0 0] [(0,.box (wkC rt nn st wy n1 n2 n3 fc f1 f2 f3 f4 hops steps parts nm og ep co na nm' nb ns ac ms bs ss ix))]).outG=some (.d (.bool (waitsP st ix parts)),[(0,.box (wkC rt nn st wy n1 n2 n3 fc f1 f2 f3 f4 hops steps parts nm og ep co na nm' nb ns ac ms bs ss ix))]):=by
 rw [x1054]
 unfold waitsP
 cases (st==1)
 ·rfl
 ·by_cases h0:0≤ix
  ·rw [decide_eq_true h0,decide_eq_true (show 0≤ix∧ix<(parts.length:Int) from ⟨h0,h h0⟩)]
   rfl
  ·rw [decide_eq_false h0];rfl
def C1054(args:List V)(ob:Obs):Tree (V×Obs):=
 match args,ob with
 | [.ptr p q],[(k,.box [.d (.int .i64 rt),.d (.int .i64 nn),.d (.sl e1 n1 hops),.d (.str nm),.d (.sl e2 n2 steps),.d (.int .i64 st),.d (.int .i64 wy),.d (.sl e3 n3 parts),.d (.bool fc),.d (.bool f1),.d (.bool f2),.d (.bool f3),.d (.bool f4),.d (.int .i64 og),.d (.int .i64 ep),.d (.int .i64 co),.d (.sl e4 na ac),.d (.sl e5 nm' ms),.d (.sl e6 nb bs),.d (.sl e7 ns ss),.d (.int .i64 ix)])]=>
  match at00 p q&&(Nat.beq k 0&&(Sh.beq e1 hopSh&&(Sh.beq e2 stepSh&&(Sh.beq e3 partSh&&(Sh.beq e4 accSh&&(Sh.beq e5 mrkSh&&(Sh.beq e6 defSh&&Sh.beq e7 sgSh))))))) with
  | true=> .ite (decide (0≤ix→ix<(parts.length:Int))) (fun _=> .ret (.d (.bool (waitsP st ix parts)),[(k,.box [.d (.int .i64 rt),.d (.int .i64 nn),.d (.sl e1 n1 hops),.d (.str nm),.d (.sl e2 n2 steps),.d (.int .i64 st),.d (.int .i64 wy),.d (.sl e3 n3 parts),.d (.bool fc),.d (.bool f1),.d (.bool f2),.d (.bool f3),.d (.bool f4),.d (.int .i64 og),.d (.int .i64 ep),.d (.int .i64 co),.d (.sl e4 na ac),.d (.sl e5 nm' ms),.d (.sl e6 nb bs),.d (.sl e7 ns ss),.d (.int .i64 ix)])])) (fun _=> .stuck)
  | false=> .stuck
 | _,_=> .stuck
theorem fn1054{P:Program}(hm:P.follows .mixedOrders=true)(h0:EnvOK P Db):FnOK P 54 C1054:=FnOK.runG hm h0 fun args ob r h=>by
 unfold C1054 at h
 split at h
 ·rename_i p q k rt nn e1 n1 hops nm e2 n2 steps st wy e3 n3 parts fc f1 f2 f3 f4 og ep co e4 na ac e5 nm' ms e6 nb bs e7 ns ss ix
  split at h
  ·rename_i hb
   simp only [Bool.and_eq_true] at hb
   obtain ⟨hb1,hb2,hb3,hb4,hb5,hb6,hb7,hb8,hb9⟩:=hb
   obtain ⟨rfl,rfl⟩:=at00_eq hb1
   have hb2:=Nat.eq_of_beq_eq_true hb2
   have hb3:=Sh.beq_eq hb3
   have hb4:=Sh.beq_eq hb4
   have hb5:=Sh.beq_eq hb5
   have hb6:=Sh.beq_eq hb6
   have hb7:=Sh.beq_eq hb7
   have hb8:=Sh.beq_eq hb8
   have hb9:=Sh.beq_eq hb9
   subst hb2 hb3 hb4 hb5 hb6 hb7 hb8 hb9
   obtain ⟨hl,h⟩:=eval_guard h
   cases h
   exact ⟨59+1,by rw [callN_succ (fn:=c54) rfl];exact rn1054 19 59 rt nn st wy n1 n2 n3 fc f1 f2 f3 f4 hops steps parts nm og ep co na nm' nb ns ac ms bs ss ix (of_decide_eq_true hl)⟩
  ·cases h
 ·cases h
theorem C1054_ro: ∀args ob v ob',(C1054 args ob).eval=some (v,ob')→ob'=ob:=by
 intro args ob v ob' h
 unfold C1054 at h
 split at h
 ·split at h
  ·obtain ⟨-,h⟩:=eval_guard h
   cases h;rfl
  ·cases h
 ·cases h
def xJ(r q:Int)(es ss:List D):D:=ss.getD (idxS r q es ss).toNat .nilp
def curX(x:D):Int:=curR (fi 0 x) (fi 1 x) (fi 5 x) (fi 6 x) (fb 8 x) (fl 2 x) (fl 4 x) (fl 7 x) (fs 3 x)
def fndX(og ep co:Int)(zas ms bs ss:List D)(r q:Int)(es:List D):Tree (List D):= .ite (gotS og ep co zas ms bs ss r q es) (fun _=> .ret [sagaI (xJ r q es ss),.bool true]) (fun _=> .ret [zSaga,.bool false])
def g54x:List D→Tree (List D)
 | [.agg [.int .i64 og,.int .i64 ep,.int .i64 co,.sl e0a _na zas,.sl e0m _nm ms,.sl e0b _nb bs,.sl e0s _ns ss],.agg [.int .i64 r,.int .i64 q,.sl e1 _nil es]]=>match Sh.beq e0a accSh&&Sh.beq e0m mrkSh&&Sh.beq e0b defSh&&Sh.beq e0s sgSh&&Sh.beq e1 hopSh with
  | true=> .ite (sgsShort ss) (fun _=>fndX og ep co zas ms bs ss r q es) (fun _=> .stuck)
  | false=> .stuck
 | _=> .stuck
theorem pure54x{P:Program}(hm:P.follows .mixedOrders=true)(h0:EnvOK P Mt):PureOK P 21 g54x:=pure54m hm h0
theorem pure60x{P:Program}(hm:P.follows .mixedOrders=true)(h0:EnvOK P Mt):PureOK P 22 g54x:=pure60m hm h0
def Wa:Env:=(((Db.pureAt 21 false g54x).pureAt 22 false g54x).pureAt 64 true g38).roAt 54 C1054
theorem x1012(m n:Nat)(og ep co:Int)(na nm' nb ns:Bool)(zas ms bs ss:List D)(r q:Int)(nil:Bool)(es:List D):Tree.out (enterM Wa (callN Wa (m+40)) n c12 [.d (stD og ep co na nm' nb ns zas ms bs ss),.d (.agg [.int .i64 r,.int .i64 q,.sl hopSh nil es])] [])=bif sgsShort ss then bif gotS og ep co zas ms bs ss r q es then bif decide (List.length (fl 4 (xJ r q es ss))≤1000000) then bif decide (List.length (fl 7 (xJ r q es ss))≤1000000) then bif decide (curX (xJ r q es ss)<0) then bif decide (0≤curX (xJ r q es ss)→curX (xJ r q es ss)<(↑(List.length (fl 7 (xJ r q es ss))):Int)) then bif !waitsP (fi 5 (xJ r q es ss)) (curX (xJ r q es ss)) (fl 7 (xJ r q es ss)) then some [D.agg [D.int .i64 0,D.int .i64 0,D.int .i64 0,D.sl hopSh true [],D.str [],D.int .i64 0],D.bool false] else some [D.agg [D.int .i64 0,D.int .i64 0,D.int .i64 0,D.sl hopSh true [],D.str [],D.int .i64 0],D.bool false] else none else bif decide (0≤curX (xJ r q es ss)∧curX (xJ r q es ss)<(↑(List.length (fl 4 (xJ r q es ss))):Int)) then bif fs 4 (List.getD (fl 4 (xJ r q es ss)) (Int.toNat (curX (xJ r q es ss))) D.nilp)==[] then bif decide (0≤curX (xJ r q es ss)→curX (xJ r q es ss)<(↑(List.length (fl 7 (xJ r q es ss))):Int)) then bif !waitsP (fi 5 (xJ r q es ss)) (curX (xJ r q es ss)) (fl 7 (xJ r q es ss)) then some [D.agg [D.int .i64 0,D.int .i64 0,D.int .i64 0,D.sl hopSh true [],D.str [],D.int .i64 0],D.bool false] else some [D.agg [D.int .i64 0,D.int .i64 0,D.int .i64 0,D.sl hopSh true [],D.str [],D.int .i64 0],D.bool false] else none else bif decide (0≤curX (xJ r q es ss)∧curX (xJ r q es ss)<(↑(List.length (fl 4 (xJ r q es ss))):Int)) then bif (!fn 2 (xJ r q es ss)||List.isEmpty (fl 2 (xJ r q es ss)))&&decide (List.length (fl 2 (xJ r q es ss))≤1000000) then bif kidOk (fi 0 (xJ r q es ss)) (fi 1 (xJ r q es ss)) (fl 2 (xJ r q es ss)) (curX (xJ r q es ss)) (fi 3 (List.getD (fl 4 (xJ r q es ss)) (Int.toNat (curX (xJ r q es ss))) D.nilp)) then bif decide (0≤curX (xJ r q es ss)→curX (xJ r q es ss)<(↑(List.length (fl 7 (xJ r q es ss))):Int)) then bif !waitsP (fi 5 (xJ r q es ss)) (curX (xJ r q es ss)) (fl 7 (xJ r q es ss)) then some [D.agg [D.int .i64 0,D.int .i64 0,D.int .i64 0,D.sl hopSh true [],D.str [],D.int .i64 0],D.bool false] else some [D.agg [D.int .i64 2,D.int .i64 (fi 0 (xJ r q es ss)),D.int .i64 (fi 1 (xJ r q es ss)),D.sl hopSh false (List.append (fl 2 (xJ r q es ss)) [D.agg [D.int .i64 (curX (xJ r q es ss)),D.int .i64 (fi 3 (List.getD (fl 4 (xJ r q es ss)) (Int.toNat (curX (xJ r q es ss))) D.nilp))]]),D.str [],D.int .i64 0],D.bool true] else none else bif decide (0≤curX (xJ r q es ss)→curX (xJ r q es ss)<(↑(List.length (fl 7 (xJ r q es ss))):Int)) then bif !waitsP (fi 5 (xJ r q es ss)) (curX (xJ r q es ss)) (fl 7 (xJ r q es ss)) then some [D.agg [D.int .i64 0,D.int .i64 0,D.int .i64 0,D.sl hopSh true [],D.str [],D.int .i64 0],D.bool false] else some [D.agg [D.int .i64 0,D.int .i64 0,D.int .i64 0,D.sl hopSh true [],D.str [],D.int .i64 0],D.bool false] else none else none else none else none else none else none else some [D.agg [D.int .i64 0,D.int .i64 0,D.int .i64 0,D.sl hopSh true [],D.str [],D.int .i64 0],D.bool false] else none:=by kernel_rfl
theorem x1013(m n:Nat)(og ep co:Int)(na nm' nb ns:Bool)(zas ms bs ss:List D)(r q:Int)(nil:Bool)(es:List D):Tree.out (enterM Wa (callN Wa (m+40)) n c13 [.d (stD og ep co na nm' nb ns zas ms bs ss),.d (.agg [.int .i64 r,.int .i64 q,.sl hopSh nil es])] [])=bif sgsShort ss then bif gotS og ep co zas ms bs ss r q es then bif decide (curX (xJ r q es ss)<0) then bif fi 5 (xJ r q es ss)==1 then bif decide (0≤curX (xJ r q es ss)) then bif decide (0≤curX (xJ r q es ss)∧curX (xJ r q es ss)<(↑(List.length (fl 7 (xJ r q es ss))):Int)) then bif !fi 0 (List.getD (fl 7 (xJ r q es ss)) (Int.toNat (curX (xJ r q es ss))) D.nilp)==1 then some [D.agg [D.int .i64 0,D.int .i64 0,D.int .i64 0,D.sl hopSh true [],D.str [],D.int .i64 0],D.bool false] else some [D.agg [D.int .i64 0,D.int .i64 0,D.int .i64 0,D.sl hopSh true [],D.str [],D.int .i64 0],D.bool false] else none else some [D.agg [D.int .i64 0,D.int .i64 0,D.int .i64 0,D.sl hopSh true [],D.str [],D.int .i64 0],D.bool false] else some [D.agg [D.int .i64 0,D.int .i64 0,D.int .i64 0,D.sl hopSh true [],D.str [],D.int .i64 0],D.bool false] else bif decide (0≤curX (xJ r q es ss)∧curX (xJ r q es ss)<(↑(List.length (fl 4 (xJ r q es ss))):Int)) then bif fs 4 (List.getD (fl 4 (xJ r q es ss)) (Int.toNat (curX (xJ r q es ss))) D.nilp)==[] then bif fi 5 (xJ r q es ss)==1 then bif decide (0≤curX (xJ r q es ss)) then bif decide (0≤curX (xJ r q es ss)∧curX (xJ r q es ss)<(↑(List.length (fl 7 (xJ r q es ss))):Int)) then bif !fi 0 (List.getD (fl 7 (xJ r q es ss)) (Int.toNat (curX (xJ r q es ss))) D.nilp)==1 then some [D.agg [D.int .i64 0,D.int .i64 0,D.int .i64 0,D.sl hopSh true [],D.str [],D.int .i64 0],D.bool false] else some [D.agg [D.int .i64 0,D.int .i64 0,D.int .i64 0,D.sl hopSh true [],D.str [],D.int .i64 0],D.bool false] else none else some [D.agg [D.int .i64 0,D.int .i64 0,D.int .i64 0,D.sl hopSh true [],D.str [],D.int .i64 0],D.bool false] else some [D.agg [D.int .i64 0,D.int .i64 0,D.int .i64 0,D.sl hopSh true [],D.str [],D.int .i64 0],D.bool false] else bif decide (0≤curX (xJ r q es ss)∧curX (xJ r q es ss)<(↑(List.length (fl 4 (xJ r q es ss))):Int)) then bif decide (List.length (fl 2 (xJ r q es ss))≤1000000) then bif kidOk (fi 0 (xJ r q es ss)) (fi 1 (xJ r q es ss)) (fl 2 (xJ r q es ss)) (curX (xJ r q es ss)) (fi 3 (List.getD (fl 4 (xJ r q es ss)) (Int.toNat (curX (xJ r q es ss))) D.nilp)) then bif fi 5 (xJ r q es ss)==1 then bif decide (0≤curX (xJ r q es ss)) then bif decide (0≤curX (xJ r q es ss)∧curX (xJ r q es ss)<(↑(List.length (fl 7 (xJ r q es ss))):Int)) then bif !fi 0 (List.getD (fl 7 (xJ r q es ss)) (Int.toNat (curX (xJ r q es ss))) D.nilp)==1 then some [D.agg [D.int .i64 0,D.int .i64 0,D.int .i64 0,D.sl hopSh true [],D.str [],D.int .i64 0],D.bool false] else some [D.agg [D.int .i64 2,D.int .i64 (fi 0 (xJ r q es ss)),D.int .i64 (fi 1 (xJ r q es ss)),D.sl hopSh false (List.append (fl 2 (xJ r q es ss)) [D.agg [D.int .i64 (curX (xJ r q es ss)),D.int .i64 (fi 3 (List.getD (fl 4 (xJ r q es ss)) (Int.toNat (curX (xJ r q es ss))) D.nilp))]]),D.str [],D.int .i64 0],D.bool true] else none else some [D.agg [D.int .i64 0,D.int .i64 0,D.int .i64 0,D.sl hopSh true [],D.str [],D.int .i64 0],D.bool false] else some [D.agg [D.int .i64 0,D.int .i64 0,D.int .i64 0,D.sl hopSh true [],D.str [],D.int .i64 0],D.bool false] else bif fi 5 (xJ r q es ss)==1 then bif decide (0≤curX (xJ r q es ss)) then bif decide (0≤curX (xJ r q es ss)∧curX (xJ r q es ss)<(↑(List.length (fl 7 (xJ r q es ss))):Int)) then bif !fi 0 (List.getD (fl 7 (xJ r q es ss)) (Int.toNat (curX (xJ r q es ss))) D.nilp)==1 then some [D.agg [D.int .i64 0,D.int .i64 0,D.int .i64 0,D.sl hopSh true [],D.str [],D.int .i64 0],D.bool false] else some [D.agg [D.int .i64 0,D.int .i64 0,D.int .i64 0,D.sl hopSh true [],D.str [],D.int .i64 0],D.bool false] else none else some [D.agg [D.int .i64 0,D.int .i64 0,D.int .i64 0,D.sl hopSh true [],D.str [],D.int .i64 0],D.bool false] else some [D.agg [D.int .i64 0,D.int .i64 0,D.int .i64 0,D.sl hopSh true [],D.str [],D.int .i64 0],D.bool false] else none else none else none else some [D.agg [D.int .i64 0,D.int .i64 0,D.int .i64 0,D.sl hopSh true [],D.str [],D.int .i64 0],D.bool false] else none:=by kernel_rfl
theorem x1014(m n:Nat)(og ep co:Int)(na nm' nb ns:Bool)(zas ms bs ss:List D)(r q:Int)(nil:Bool)(es:List D):Tree.out (enterM Wa (callN Wa (m+40)) n c14 [.d (stD og ep co na nm' nb ns zas ms bs ss),.d (.agg [.int .i64 r,.int .i64 q,.sl hopSh nil es])] [])=bif sgsShort ss then bif gotS og ep co zas ms bs ss r q es then bif fi 5 (xJ r q es ss)==1 then bif fi 5 (xJ r q es ss)==1 then bif decide (0≤curX (xJ r q es ss)) then bif decide (0≤curX (xJ r q es ss)∧curX (xJ r q es ss)<(↑(List.length (fl 7 (xJ r q es ss))):Int)) then some [D.bool (decide (0<(↑(List.length (fl 2 (xJ r q es ss))):Int))),D.bool (fi 0 (List.getD (fl 7 (xJ r q es ss)) (Int.toNat (curX (xJ r q es ss))) D.nilp)==1)] else none else some [D.bool (decide (0<(↑(List.length (fl 2 (xJ r q es ss))):Int))),D.bool false] else some [D.bool (decide (0<(↑(List.length (fl 2 (xJ r q es ss))):Int))),D.bool false] else bif fi 5 (xJ r q es ss)==1 then bif decide (0≤curX (xJ r q es ss)) then bif decide (0≤curX (xJ r q es ss)∧curX (xJ r q es ss)<(↑(List.length (fl 7 (xJ r q es ss))):Int)) then some [D.bool false,D.bool (fi 0 (List.getD (fl 7 (xJ r q es ss)) (Int.toNat (curX (xJ r q es ss))) D.nilp)==1)] else none else some [D.bool false,D.bool false] else some [D.bool false,D.bool false] else some [D.bool false,D.bool false] else none:=by kernel_rfl
theorem x1016(m n:Nat)(og ep co:Int)(na nm' nb ns:Bool)(zas ms bs ss:List D)(r q:Int)(nil:Bool)(es:List D):Tree.out (enterM Wa (callN Wa (m+40)) n c16 [.d (stD og ep co na nm' nb ns zas ms bs ss),.d (.agg [.int .i64 r,.int .i64 q,.sl hopSh nil es])] [])=bif sgsShort ss then bif gotS og ep co zas ms bs ss r q es then bif decide (List.length (fl 4 (xJ r q es ss))≤1000000) then bif decide (List.length (fl 7 (xJ r q es ss))≤1000000) then bif fi 5 (xJ r q es ss)==1 then bif decide (0≤curX (xJ r q es ss)→curX (xJ r q es ss)<(↑(List.length (fl 7 (xJ r q es ss))):Int)) then bif decide (0≤curX (xJ r q es ss)→curX (xJ r q es ss)<(↑(List.length (fl 7 (xJ r q es ss))):Int)) then some [D.agg [D.bool (decide (0<(↑(List.length (fl 2 (xJ r q es ss))):Int))),D.bool (waitsP (fi 5 (xJ r q es ss)) (curX (xJ r q es ss)) (fl 7 (xJ r q es ss))),D.bool (waitsP (fi 5 (xJ r q es ss)) (curX (xJ r q es ss)) (fl 7 (xJ r q es ss)))]] else none else none else bif decide (0≤curX (xJ r q es ss)→curX (xJ r q es ss)<(↑(List.length (fl 7 (xJ r q es ss))):Int)) then bif decide (0≤curX (xJ r q es ss)→curX (xJ r q es ss)<(↑(List.length (fl 7 (xJ r q es ss))):Int)) then some [D.agg [D.bool false,D.bool (waitsP (fi 5 (xJ r q es ss)) (curX (xJ r q es ss)) (fl 7 (xJ r q es ss))),D.bool (waitsP (fi 5 (xJ r q es ss)) (curX (xJ r q es ss)) (fl 7 (xJ r q es ss)))]] else none else none else none else none else some [D.agg [D.bool false,D.bool false,D.bool false]] else none:=by kernel_rfl
def ow(st c:Int)(fc:Bool):Int→Int→Int:=fun i p=>owedK st c i p fc
theorem may_lens{rt nn st wy:Int}{fc:Bool}{hops steps parts:List D}{nm:List UInt8}(h:mayOk rt nn st wy fc hops steps parts nm=true):parts.length=steps.length∧steps.length≤8∧hops.length≤4:=by
 have hid:=mayOk_id h
 have h4:=(idOk_iff.1 hid).2.1
 by_cases h7:st=7
 ·subst h7
  unfold mayOk at h
  have:((7:Int)==7)=true:=rfl
  rw [this,hid] at h
  cases hd:decide (0<(steps.length:Int)+(parts.length:Int))
  ·have:=of_decide_eq_false hd
   omega
  ·rw [hd] at h
   cases hn:(nm==[]) <;> rw [hn] at h <;> cases h
 ·have:=mayOk_len h h7
  omega
theorem curR_may{rt nn st wy:Int}{fc:Bool}{hops steps parts:List D}{nm:List UInt8}(h:mayOk rt nn st wy fc hops steps parts nm=true):curR rt nn st wy fc hops steps parts nm=cur st parts:=by
 unfold curR
 rw [h];rfl
def stpX(x:D):D:=(fl 4 x).getD (curX x).toNat .nilp
abbrev zNt:D:=noteD 0 0 0 true [] [] 0
def renX(x:D):Bool:=waitsP (fi 5 x) (curX x) (fl 7 x)&&(!(fs 4 (stpX x)==[])&&kidOk (fi 0 x) (fi 1 x) (fl 2 x) (curX x) (fi 3 (stpX x)))
def renB(og ep co:Int)(zas ms bs ss:List D)(r q:Int)(es:List D):Bool:=gotS og ep co zas ms bs ss r q es&&renX (xJ r q es ss)
def kidN(x:D):D:=noteD 2 (fi 0 x) (fi 1 x) false (fl 2 x++[hpD (curX x) (fi 3 (stpX x))]) [] 0
def renT(og ep co:Int)(zas ms bs ss:List D)(r q:Int)(es:List D):Tree (List D):= .ite (renB og ep co zas ms bs ss r q es) (fun _=> .ret [kidN (xJ r q es ss),.bool true]) (fun _=> .ret [zNt,.bool false])
def leaB(og ep co:Int)(zas ms bs ss:List D)(r q:Int)(es:List D):Bool:=gotS og ep co zas ms bs ss r q es&&(fi 5 (xJ r q es ss)==1&&decide (0<((fl 2 (xJ r q es ss)).length:Int)))
def wtB(og ep co:Int)(zas ms bs ss:List D)(r q:Int)(es:List D):Bool:=gotS og ep co zas ms bs ss r q es&&waitsP (fi 5 (xJ r q es ss)) (curX (xJ r q es ss)) (fl 7 (xJ r q es ss))
theorem cur_bd{x:D}(h:mayS x=true):0≤curX x→curX x<((fl 7 x).length:Int)∧curX x<((fl 4 x).length:Int):=by
 intro h0
 have hl:=(may_lens h).1
 have hc:curX x=cur (fi 5 x) (fl 7 x):=curR_may h
 rw [hc] at h0 ⊢
 have:cur (fi 5 x) (fl 7 x)<((fl 7 x).length:Int):=by
  unfold cur at h0 ⊢
  cases h1:(fi 5 x==1)
  ·rw [h1] at h0
   cases h4:(fi 5 x==4||fi 5 x==5)
   ·rw [h4] at h0;simp at h0
   ·rw [h4] at h0
    simp only [cond_true,cond_false] at h0 ⊢
    have:=(lastFrom_pos _ _ h0).1
    omega
  ·rw [h1] at h0
   simp only [cond_true] at h0 ⊢
   have:=(idxOf_pos h0).1
   omega
 omega
theorem got_at{og ep co:Int}{zas ms bs ss:List D}{r q:Int}{es:List D}(hg:gotS og ep co zas ms bs ss r q es=true)(hs:sgsShort ss=true):
  mayS (xJ r q es ss)=true∧(fl 4 (xJ r q es ss)).length≤1000000∧(fl 7 (xJ r q es ss)).length≤1000000∧(fl 2 (xJ r q es ss)).length≤4∧(!fn 2 (xJ r q es ss)||List.isEmpty (fl 2 (xJ r q es ss)))=true:=by
 unfold gotS at hg
 rw [Bool.and_eq_true,decide_eq_true_eq] at hg
 have hi:=(idxS_at hg.2).1
 have hm:mayS (xJ r q es ss)=true:=((mayR_all hg.1).1 _ hi).1
 obtain ⟨h1,h2,h3⟩:=may_lens hm
 have hsh:=(short_in hs).2.2 _ hi
 unfold sgShort at hsh
 simp only [Bool.and_eq_true] at hsh
 have h4:(fl 4 (xJ r q es ss)).length≤8:=h2
 have h7:(fl 7 (xJ r q es ss)).length=(fl 4 (xJ r q es ss)).length:=h1
 refine ⟨hm,by omega,by omega,h3,?_⟩
 have:shortL (fn 2 (xJ r q es ss)) (fl 2 (xJ r q es ss))=true:=hsh.1
 unfold shortL at this
 exact (Bool.and_eq_true _ _ ▸ this).1
theorem renT_eval(og ep co:Int)(zas ms bs ss:List D)(r q:Int)(es:List D):(renT og ep co zas ms bs ss r q es).eval=some (bif renB og ep co zas ms bs ss r q es then [kidN (xJ r q es ss),.bool true] else [zNt,.bool false]):=by
 unfold renT
 cases renB og ep co zas ms bs ss r q es <;> rfl
theorem rn1012(m n:Nat)(og ep co:Int)(na nm' nb ns:Bool)(zas ms bs ss:List D)(r q:Int)(nil:Bool)(es:List D)(hs:sgsShort ss=true):(enterM Wa (callN Wa (m+40)) n c12 [.d (stD og ep co na nm' nb ns zas ms bs ss),.d (.agg [.int .i64 r,.int .i64 q,.sl hopSh nil es])] []).out=(renT og ep co zas ms bs ss r q es).eval:=by
 rw [x1012,hs,renT_eval]
 unfold renB
 cases hg:gotS og ep co zas ms bs ss r q es
 ·rfl
 ·obtain ⟨hm,h4,h7,h2,hn⟩:=got_at hg hs
  have hb:=cur_bd hm
  revert hb hn h2 h7 h4
  generalize xJ r q es ss=x
  intro h4 h7 h2 hn hb
  have hb1:(0≤curX x→curX x<((fl 7 x).length:Int)):=fun h=>(hb h).1
  rw [decide_eq_true h4,decide_eq_true h7,decide_eq_true hb1,hn,decide_eq_true (show (fl 2 x).length≤1000000 by omega)]
  unfold renX waitsP stpX
  by_cases h0:0≤curX x
  ·obtain ⟨g1,g2⟩:=hb h0
   rw [decide_eq_false (show¬curX x<0 by omega),decide_eq_true h0,decide_eq_true (show 0≤curX x∧curX x<((fl 4 x).length:Int) from ⟨h0,g2⟩)]
   cases h5:(fs 4 ((fl 4 x).getD (curX x).toNat .nilp)==[])
   ·cases hk:kidOk (fi 0 x) (fi 1 x) (fl 2 x) (curX x) (fi 3 ((fl 4 x).getD (curX x).toNat .nilp))
    ·cases (fi 5 x==1) <;> cases (fi 0 ((fl 7 x).getD (curX x).toNat .nilp)==1) <;> rfl
    ·cases (fi 5 x==1) <;> cases (fi 0 ((fl 7 x).getD (curX x).toNat .nilp)==1) <;> rfl
   ·cases (fi 5 x==1) <;> cases (fi 0 ((fl 7 x).getD (curX x).toNat .nilp)==1) <;> rfl
  ·rw [decide_eq_true (show curX x<0 by omega),decide_eq_false h0]
   cases (fi 5 x==1) <;> rfl
theorem rn1013(m n:Nat)(og ep co:Int)(na nm' nb ns:Bool)(zas ms bs ss:List D)(r q:Int)(nil:Bool)(es:List D)(hs:sgsShort ss=true):(enterM Wa (callN Wa (m+40)) n c13 [.d (stD og ep co na nm' nb ns zas ms bs ss),.d (.agg [.int .i64 r,.int .i64 q,.sl hopSh nil es])] []).out=(renT og ep co zas ms bs ss r q es).eval:=by
 rw [x1013,hs,renT_eval]
 unfold renB
 cases hg:gotS og ep co zas ms bs ss r q es
 ·rfl
 ·obtain ⟨hm,h4,h7,h2,hn⟩:=got_at hg hs
  have hb:=cur_bd hm
  revert hb hn h2 h7 h4
  generalize xJ r q es ss=x
  intro h4 h7 h2 hn hb
  have hb1:(0≤curX x→curX x<((fl 7 x).length:Int)):=fun h=>(hb h).1
  unfold renX waitsP stpX
  by_cases h0:0≤curX x
  ·obtain ⟨g1,g2⟩:=hb h0
   rw [decide_eq_true (show (fl 2 x).length≤1000000 by omega),decide_eq_false (show¬curX x<0 by omega),decide_eq_true h0,decide_eq_true (show 0≤curX x∧curX x<((fl 4 x).length:Int) from ⟨h0,g2⟩),decide_eq_true (show 0≤curX x∧curX x<((fl 7 x).length:Int) from ⟨h0,g1⟩)]
   cases h5:(fs 4 ((fl 4 x).getD (curX x).toNat .nilp)==[])
   ·cases hk:kidOk (fi 0 x) (fi 1 x) (fl 2 x) (curX x) (fi 3 ((fl 4 x).getD (curX x).toNat .nilp))
    ·cases (fi 5 x==1) <;> cases (fi 0 ((fl 7 x).getD (curX x).toNat .nilp)==1) <;> rfl
    ·cases (fi 5 x==1) <;> cases (fi 0 ((fl 7 x).getD (curX x).toNat .nilp)==1) <;> rfl
   ·cases (fi 5 x==1) <;> cases (fi 0 ((fl 7 x).getD (curX x).toNat .nilp)==1) <;> rfl
  ·rw [decide_eq_true (show curX x<0 by omega),decide_eq_false h0]
   cases (fi 5 x==1) <;> rfl
theorem rn1014(m n:Nat)(og ep co:Int)(na nm' nb ns:Bool)(zas ms bs ss:List D)(r q:Int)(nil:Bool)(es:List D)(hs:sgsShort ss=true):(enterM Wa (callN Wa (m+40)) n c14 [.d (stD og ep co na nm' nb ns zas ms bs ss),.d (.agg [.int .i64 r,.int .i64 q,.sl hopSh nil es])] []).out=some [.bool (leaB og ep co zas ms bs ss r q es),.bool (wtB og ep co zas ms bs ss r q es)]:=by
 rw [x1014,hs]
 unfold leaB wtB
 cases hg:gotS og ep co zas ms bs ss r q es
 ·rfl
 ·obtain ⟨hm,h4,h7,h2,hn⟩:=got_at hg hs
  have hb:=cur_bd hm
  revert hb hn h2 h7 h4
  generalize xJ r q es ss=x
  intro h4 h7 h2 hn hb
  unfold waitsP
  by_cases h0:0≤curX x
  ·obtain ⟨g1,g2⟩:=hb h0
   rw [decide_eq_true h0,decide_eq_true (show 0≤curX x∧curX x<((fl 7 x).length:Int) from ⟨h0,g1⟩)]
   cases (fi 5 x==1) <;> rfl
  ·rw [decide_eq_false h0]
   cases (fi 5 x==1) <;> rfl
theorem rn1016(m n:Nat)(og ep co:Int)(na nm' nb ns:Bool)(zas ms bs ss:List D)(r q:Int)(nil:Bool)(es:List D)(hs:sgsShort ss=true):(enterM Wa (callN Wa (m+40)) n c16 [.d (stD og ep co na nm' nb ns zas ms bs ss),.d (.agg [.int .i64 r,.int .i64 q,.sl hopSh nil es])] []).out=some [.agg [.bool (leaB og ep co zas ms bs ss r q es),.bool (wtB og ep co zas ms bs ss r q es),.bool (wtB og ep co zas ms bs ss r q es)]]:=by
 rw [x1016,hs]
 unfold leaB wtB
 cases hg:gotS og ep co zas ms bs ss r q es
 ·rfl
 ·obtain ⟨hm,h4,h7,h2,hn⟩:=got_at hg hs
  have hb:=cur_bd hm
  revert hb hn h2 h7 h4
  generalize xJ r q es ss=x
  intro h4 h7 h2 hn hb
  have hb1:(0≤curX x→curX x<((fl 7 x).length:Int)):=fun h=>(hb h).1
  rw [decide_eq_true h4,decide_eq_true h7,decide_eq_true hb1]
  cases (fi 5 x==1) <;> rfl
def g1012:List D→Tree (List D)
 | [.agg [.int .i64 og,.int .i64 ep,.int .i64 co,.sl e0a _na zas,.sl e0m _nm' ms,.sl e0b _nb bs,.sl e0s _ns ss],.agg [.int .i64 r,.int .i64 q,.sl e1 _nil es]]=>match Sh.beq e0a accSh&&Sh.beq e0m mrkSh&&Sh.beq e0b defSh&&Sh.beq e0s sgSh&&Sh.beq e1 hopSh with
  | true=> .ite (sgsShort ss) (fun _=>renT og ep co zas ms bs ss r q es) (fun _=> .stuck)
  | false=> .stuck
 | _=> .stuck
theorem pure1012{P:Program}(hm:P.follows .mixedOrders=true)(h0:EnvOK P Wa):PureOK P 12 g1012:=PureOK.run hm h0 fun ds rs h=>by
 unfold g1012 at h
 split at h
 ·rename_i og ep co e0a na zas e0m nm' ms e0b nb bs e0s ns ss r q e1 nil es
  split at h
  ·rename_i hb
   simp only [Bool.and_eq_true] at hb
   obtain ⟨⟨⟨⟨hb0,hb1⟩,hb2⟩,hb3⟩,hb4⟩:=hb
   have hb0:=Sh.beq_eq hb0
   have hb1:=Sh.beq_eq hb1
   have hb2:=Sh.beq_eq hb2
   have hb3:=Sh.beq_eq hb3
   have hb4:=Sh.beq_eq hb4
   subst hb0 hb1 hb2 hb3 hb4
   obtain ⟨hg,h'⟩:=eval_guard h
   clear h
   exact ⟨59+1,by rw [callN_succ (fn:=c12) rfl];exact ((rn1012 19 59 og ep co na nm' nb ns zas ms bs ss r q nil es hg)).trans h'⟩
  ·cases h
 ·cases h
def g1013:List D→Tree (List D)
 | [.agg [.int .i64 og,.int .i64 ep,.int .i64 co,.sl e0a _na zas,.sl e0m _nm' ms,.sl e0b _nb bs,.sl e0s _ns ss],.agg [.int .i64 r,.int .i64 q,.sl e1 _nil es]]=>match Sh.beq e0a accSh&&Sh.beq e0m mrkSh&&Sh.beq e0b defSh&&Sh.beq e0s sgSh&&Sh.beq e1 hopSh with
  | true=> .ite (sgsShort ss) (fun _=>renT og ep co zas ms bs ss r q es) (fun _=> .stuck)
  | false=> .stuck
 | _=> .stuck
theorem pure1013{P:Program}(hm:P.follows .mixedOrders=true)(h0:EnvOK P Wa):PureOK P 13 g1013:=PureOK.run hm h0 fun ds rs h=>by
 unfold g1013 at h
 split at h
 ·rename_i og ep co e0a na zas e0m nm' ms e0b nb bs e0s ns ss r q e1 nil es
  split at h
  ·rename_i hb
   simp only [Bool.and_eq_true] at hb
   obtain ⟨⟨⟨⟨hb0,hb1⟩,hb2⟩,hb3⟩,hb4⟩:=hb
   have hb0:=Sh.beq_eq hb0
   have hb1:=Sh.beq_eq hb1
   have hb2:=Sh.beq_eq hb2
   have hb3:=Sh.beq_eq hb3
   have hb4:=Sh.beq_eq hb4
   subst hb0 hb1 hb2 hb3 hb4
   obtain ⟨hg,h'⟩:=eval_guard h
   clear h
   exact ⟨59+1,by rw [callN_succ (fn:=c13) rfl];exact ((rn1013 19 59 og ep co na nm' nb ns zas ms bs ss r q nil es hg)).trans h'⟩
  ·cases h
 ·cases h
def g1014:List D→Tree (List D)
 | [.agg [.int .i64 og,.int .i64 ep,.int .i64 co,.sl e0a _na zas,.sl e0m _nm' ms,.sl e0b _nb bs,.sl e0s _ns ss],.agg [.int .i64 r,.int .i64 q,.sl e1 _nil es]]=>match Sh.beq e0a accSh&&Sh.beq e0m mrkSh&&Sh.beq e0b defSh&&Sh.beq e0s sgSh&&Sh.beq e1 hopSh with
  | true=> .ite (sgsShort ss) (fun _=> .ret [.bool (leaB og ep co zas ms bs ss r q es),.bool (wtB og ep co zas ms bs ss r q es)]) (fun _=> .stuck)
  | false=> .stuck
 | _=> .stuck
theorem pure1014{P:Program}(hm:P.follows .mixedOrders=true)(h0:EnvOK P Wa):PureOK P 14 g1014:=PureOK.run hm h0 fun ds rs h=>by
 unfold g1014 at h
 split at h
 ·rename_i og ep co e0a na zas e0m nm' ms e0b nb bs e0s ns ss r q e1 nil es
  split at h
  ·rename_i hb
   simp only [Bool.and_eq_true] at hb
   obtain ⟨⟨⟨⟨hb0,hb1⟩,hb2⟩,hb3⟩,hb4⟩:=hb
   have hb0:=Sh.beq_eq hb0
   have hb1:=Sh.beq_eq hb1
   have hb2:=Sh.beq_eq hb2
   have hb3:=Sh.beq_eq hb3
   have hb4:=Sh.beq_eq hb4
   subst hb0 hb1 hb2 hb3 hb4
   obtain ⟨hg,h'⟩:=eval_guard h
   clear h
   cases h'
   exact ⟨59+1,by rw [callN_succ (fn:=c14) rfl];exact (rn1014 19 59 og ep co na nm' nb ns zas ms bs ss r q nil es hg)⟩
  ·cases h
 ·cases h
def g1016:List D→Tree (List D)
 | [.agg [.int .i64 og,.int .i64 ep,.int .i64 co,.sl e0a _na zas,.sl e0m _nm' ms,.sl e0b _nb bs,.sl e0s _ns ss],.agg [.int .i64 r,.int .i64 q,.sl e1 _nil es]]=>match Sh.beq e0a accSh&&Sh.beq e0m mrkSh&&Sh.beq e0b defSh&&Sh.beq e0s sgSh&&Sh.beq e1 hopSh with
  | true=> .ite (sgsShort ss) (fun _=> .ret [.agg [.bool (leaB og ep co zas ms bs ss r q es),.bool (wtB og ep co zas ms bs ss r q es),.bool (wtB og ep co zas ms bs ss r q es)]]) (fun _=> .stuck)
  | false=> .stuck
 | _=> .stuck
theorem pure1016{P:Program}(hm:P.follows .mixedOrders=true)(h0:EnvOK P Wa):PureOK P 16 g1016:=PureOK.run hm h0 fun ds rs h=>by
 unfold g1016 at h
 split at h
 ·rename_i og ep co e0a na zas e0m nm' ms e0b nb bs e0s ns ss r q e1 nil es
  split at h
  ·rename_i hb
   simp only [Bool.and_eq_true] at hb
   obtain ⟨⟨⟨⟨hb0,hb1⟩,hb2⟩,hb3⟩,hb4⟩:=hb
   have hb0:=Sh.beq_eq hb0
   have hb1:=Sh.beq_eq hb1
   have hb2:=Sh.beq_eq hb2
   have hb3:=Sh.beq_eq hb3
   have hb4:=Sh.beq_eq hb4
   subst hb0 hb1 hb2 hb3 hb4
   obtain ⟨hg,h'⟩:=eval_guard h
   clear h
   cases h'
   exact ⟨59+1,by rw [callN_succ (fn:=c16) rfl];exact (rn1016 19 59 og ep co na nm' nb ns zas ms bs ss r q nil es hg)⟩
  ·cases h
 ·cases h
def Wd:Env:=((((Wa.pureAt 12 false g1012).pureAt 13 false g1013).pureAt 14 true g1014).pureAt 16 false g1016).pureAt 11 true g20
theorem okWd{P:Program}(hm:P.follows .mixedOrders=true)(h:EnvOK P Wa)(ha:PureOK P 11 g20):EnvOK P Wd:=((((h.pureAt (pure1012 hm h)).pureAt (pure1013 hm h)).pureAt (pure1014 hm h)).pureAt (pure1016 hm h)).pureAt ha
theorem x1003(m n:Nat)(og ep co:Int)(na nm' nb ns:Bool)(zas ms bs ss:List D)(r q:Int)(nil:Bool)(es:List D):Tree.out (enterM Wd (callN Wd (m+40)) n c3 [.d (stD og ep co na nm' nb ns zas ms bs ss),.d (.agg [.int .i64 r,.int .i64 q,.sl hopSh nil es])] [])=bif !fewSt zas ms bs ss then some [D.bool true] else bif decide (50<(↑(List.length es):Int)) then some [D.bool true] else bif sgsShort ss then bif renB og ep co zas ms bs ss r q es then bif sgsShort ss then bif renB og ep co zas ms bs ss r q es then bif sgsShort ss then bif decide (List.length (List.append (fl 2 (xJ r q es ss)) [D.agg [D.int .i64 (curX (xJ r q es ss)),D.int .i64 (fi 3 (stpX (xJ r q es ss)))]])≤1000000) then bif refCmp (fi 0 (xJ r q es ss)) (fi 1 (xJ r q es ss)) (List.append (fl 2 (xJ r q es ss)) [D.agg [D.int .i64 (curX (xJ r q es ss)),D.int .i64 (fi 3 (stpX (xJ r q es ss)))]]) (fi 0 (xJ r q es ss)) (fi 1 (xJ r q es ss)) (List.append (fl 2 (xJ r q es ss)) [D.agg [D.int .i64 (curX (xJ r q es ss)),D.int .i64 (fi 3 (stpX (xJ r q es ss)))]])==0 then bif sgsShort ss then bif leaB og ep co zas ms bs ss r q es==leaB og ep co zas ms bs ss r q es&&(wtB og ep co zas ms bs ss r q es==wtB og ep co zas ms bs ss r q es&&(wtB og ep co zas ms bs ss r q es==wtB og ep co zas ms bs ss r q es&&true)) then some [D.bool true] else some [D.bool false] else none else some [D.bool false] else none else none else bif sgsShort ss then some [D.bool false] else none else none else bif sgsShort ss then bif renB og ep co zas ms bs ss r q es then bif sgsShort ss then some [D.bool false] else none else bif sgsShort ss then bif sgsShort ss then bif leaB og ep co zas ms bs ss r q es==leaB og ep co zas ms bs ss r q es&&(wtB og ep co zas ms bs ss r q es==wtB og ep co zas ms bs ss r q es&&(wtB og ep co zas ms bs ss r q es==wtB og ep co zas ms bs ss r q es&&true)) then some [D.bool true] else some [D.bool false] else none else none else none else none:=by kernel_rfl
theorem wtells(m n:Nat)(og ep co:Int)(na nm' nb ns:Bool)(zas ms bs ss:List D)(r q:Int)(nil:Bool)(es:List D)(h1:nilS ss)(h2:nilB bs):
  (enterM Wd (callN Wd (m+40)) n c3 [.d (stD og ep co na nm' nb ns zas ms bs ss),.d (.agg [.int .i64 r,.int .i64 q,.sl hopSh nil es])] []).out=some [.bool true]:=by
 rw [x1003]
 cases hf:fewSt zas ms bs ss
 ·rfl
 ·refine (cf rfl).trans ?_
  by_cases he:50<(es.length:Int)
  ·rw [decide_eq_true he];rfl
  ·rw [decide_eq_false he]
   refine (cf rfl).trans ?_
   obtain ⟨hs,-⟩:=few_short hf h1 h2
   rw [hs,refCmp_self]
   simp only [beq_self_eq_true,Bool.and_self]
   cases hr:renB og ep co zas ms bs ss r q es
   ·rfl
   ·have hg:gotS og ep co zas ms bs ss r q es=true:=by
     unfold renB at hr
     exact (Bool.and_eq_true _ _ ▸ hr).1
    obtain ⟨-,-,-,h4,-⟩:=got_at hg hs
    rw [decide_eq_true (show (List.append (fl 2 (xJ r q es ss)) [D.agg [D.int .i64 (curX (xJ r q es ss)),D.int .i64 (fi 3 (stpX (xJ r q es ss)))]]).length≤1000000 by
     show (fl 2 (xJ r q es ss)++[_]).length≤_
     simp;omega)]
    rfl
def E0s:Env:=((E0.pureAt 21 false (gSelf E0 60 21)).pureAt 115 true (gSelf E0 60 115)).roAt 54 C1054
def st28(o:Int):D:= .agg [.int .i64 0,.int .i64 0,.int .i64 1,.sl accSh true [],.sl mrkSh true [],.sl defSh false [.agg [.str [116,114,105,112],.sl stepSh false [.agg [.int .i64 0,.str [],.int .i64 0,.int .i64 o,.str [104,111,116,101,108],.int .i64 0,.int .i64 9]]]],.sl sgSh false [.agg [.int .i64 0,.int .i64 1,.sl hopSh true [],.str [116,114,105,112],.sl stepSh false [.agg [.int .i64 0,.str [],.int .i64 0,.int .i64 o,.str [104,111,116,101,108],.int .i64 0,.int .i64 9]],.int .i64 1,.int .i64 0,.sl partSh false [.agg [.int .i64 0,.int .i64 0]],.bool false]]]
def id28:D:= .agg [.int .i64 0,.int .i64 1,.sl hopSh true []]
def fz28:D:= .agg [.bool false,.bool false,.bool false,.bool false]
def mv28(k w:Int):D:= .agg [.int .i64 k,.int .i64 0,.int .i64 1,.sl hopSh true [],.int .i64 0,.int .i64 w,.str [],.sl stepSh true []]
theorem move3_run:(callN E0s 60 50 [.d (st28 3),.d id28,.d fz28] []).out=some [mv28 5 0,.bool true]:=by kernel_rfl
theorem move0_run:(callN E0s 60 50 [.d (st28 0),.d id28,.d fz28] []).out=some [mv28 10 5,.bool true]:=by kernel_rfl
theorem renew3_run:(callN E0s 60 12 [.d (st28 3),.d id28] []).out=some [noteD 0 0 0 true [] [] 0,.bool false]:=by kernel_rfl
theorem need3_run:(callN E0s 60 16 [.d (st28 3),.d id28] []).out=some [.agg [.bool false,.bool false,.bool false]]:=by kernel_rfl
def EV3:Env:=((E0s.pureAt 50 false (gAt [([st28 3,id28,fz28],[mv28 5 0,.bool true]),([st28 0,id28,fz28],[mv28 10 5,.bool true])])).pureAt 12 false (gAt [([st28 3,id28],[noteD 0 0 0 true [] [] 0,.bool false])])).pureAt 16 false (gAt [([st28 3,id28],[.agg [.bool false,.bool false,.bool false]])])
theorem awake28_run:(callN EV3 60 11 [] []).out=some [D.bool true]:=by kernel_rfl
theorem pure155{P:Program}(hm:P.follows .mixedOrders=true)(h0:EnvOK P M3):PureOK P 134 g155:=PureOK.run hm h0 fun ds rs h=>by
 unfold g155 at h
 split at h
 ·rename_i ea na zas em nm ms s
  split at h
  ·rename_i hb
   simp only [Bool.and_eq_true] at hb
   have hb0:=Sh.beq_eq hb.1
   have hb1:=Sh.beq_eq hb.2
   subst hb0 hb1
   obtain ⟨hg,h'⟩:=eval_guard h
   clear h
   simp only [decide_eq_true_eq] at hg
   cases h'
   exact ⟨59+1,by rw [callN_succ (fn:=c134) rfl];exact run155 19 59 na nm zas ms s hg⟩
  ·cases h
 ·cases h
theorem kv_loop(m n:Nat)(na nm':Bool)(zas ms:List D)(hl:ms.length≤1000000): ∀k i j kv,i+k=ms.length→k<j→kv=(ms.take i).foldl pendStep []→
  (resume M3 (callN M3 (m+40)) n j 0 c142 (s158 na nm' zas ms kv (i:Nat))).eval=some (.mp 640,[(128,.box [V.d (D.sl accSh na zas),V.d (D.sl mrkSh nm' ms)]),(640,AM.Obj.map Sh.str i4Sh (pendKV ms))]):=by
 intro k
 induction k with
 | zero=>
  intro i j kv hi hj hp
  cases j with
  | zero=>omega
  | succ j=>
   have:i=ms.length:=by omega
   subst this
   rw [List.take_length] at hp
   have hp:pendKV ms=kv:=hp.symm
   rw [l158,hp]
   exact cf (dec_end _)
 | succ k ih=>
  intro i j kv hi hj hp
  cases j with
  | zero=>omega
  | succ j=>
   have hlt:i<ms.length:=by omega
   have next:=ih (i+1) j (pendStep kv (ms.getD i .nilp)) (by omega) (by omega) (by
    rw [List.take_add_one,List.getElem?_eq_getElem hlt,List.foldl_append,←hp,List.getD_eq_getElem?_getD,List.getElem?_eq_getElem hlt];rfl)
   rw [l158]
   simp only [Int.toNat_natCast,wrap_up hlt hl]
   refine (ct (dec_lt hlt)).trans ((ct (dec_ix hlt)).trans ?_)
   unfold pendStep at next
   cases h1:(fi 4 (ms.getD i .nilp) != 1)
   ·rw [h1] at next
    exact next
   ·rw [h1] at next
    exact next
theorem run158(m n:Nat)(na nm':Bool)(zas ms:List D)(hl:ms.length≤1000000)(hn:ms.length<n):(enterM M3 (callN M3 (m+40)) n c142 [.d (.agg [.sl accSh na zas,.sl mrkSh nm' ms])] []).eval=some (.mp 640,[(128,.box [V.d (D.sl accSh na zas),V.d (D.sl mrkSh nm' ms)]),(640,AM.Obj.map Sh.str i4Sh (pendKV ms))]):=by
 rw [e158]
 exact kv_loop m n na nm' zas ms hl ms.length 0 n [] (by omega) (by omega) rfl
theorem fn158{P:Program}(hm:P.follows .mixedOrders=true)(h0:EnvOK P M3):FnOK P 142 C158:=FnOK.run hm h0 fun args ob r h=>by
 unfold C158 at h
 split at h
 ·rename_i ea na zas em nm ms
  split at h
  ·rename_i hb
   simp only [Bool.and_eq_true] at hb
   have hb0:=Sh.beq_eq hb.1
   have hb1:=Sh.beq_eq hb.2
   subst hb0 hb1
   obtain ⟨hg,h'⟩:=eval_guard h
   clear h
   simp only [decide_eq_true_eq] at hg
   cases h'
   exact ⟨(ms.length+40)+1,by rw [callN_succ (fn:=c142) rfl];exact run158 ms.length (ms.length+40) na nm zas ms hg (by omega)⟩
  ·cases h
 ·cases h
theorem okM6{P:Program}(hm:P.follows .mixedOrders=true)(h:EnvOK P M3):EnvOK P M6:=(h.pureAt (pure155 hm h)).genAt (fn158 hm h)
end Go.Proofs.YtlhageadjmoajaaGreatDoor.A
