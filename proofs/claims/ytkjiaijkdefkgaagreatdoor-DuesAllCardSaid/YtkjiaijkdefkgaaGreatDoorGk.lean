/- Parts of the walk: Mu, Mv, My, M6, PZ, V2, QDa, Db, AMRfn, QDb, Dc, QDc, Dp, Dd, De, PW, QDf, Df, QDh, Dh, QDi, Di, PV. -/
import Derived.Test.YtkjiaijkdefkgaaGreatDoorGj
import Derived.KernelRfl
namespace Go.Proofs.YtkjiaijkdefkgaaGreatDoor.A
open Go Go.AM
set_option maxRecDepth 20000
theorem mayR_all{og ep co:Int}{zas ms bs ss:List D}(h:mayR og ep co zas ms bs ss=true):(∀i,i<ss.length→mayS (ss.getD i .nilp)=true∧sgLess ss i=true∧orgOfId (fi 0 (ss.getD i .nilp)) (fi 1 (ss.getD i .nilp)) (fl 2 (ss.getD i .nilp))=og)∧bookOk bs=true∧ledOk zas ms=true∧ss.length≤24:=by
 rw [←may_same] at h
 unfold mayP sagasOk at h
 simp only [Bool.and_eq_true,Bool.not_eq_true',decide_eq_false_iff_not] at h
 obtain ⟨-,-,-,-,-,-,hl,hb,⟨h24,hs⟩,-⟩:=h
 refine ⟨fun i hi=> ?_,hb,hl,by omega⟩
 have:=allN_iff.1 hs i hi
 unfold sagaAt at this
 simp only [Bool.and_eq_true,Bool.not_eq_true',bne_eq_false_iff_eq] at this
 exact ⟨this.1,this.2.2.2,this.2.1⟩
def fewS(x:D):Bool:=few (fl 2 x) (fl 4 x) (fl 7 x)
def fewSt(zas ms bs ss:List D):Bool:= !decide (50<(zas.length:Int))&&(!decide (200<(ms.length:Int))&&(!decide (40<(ss.length:Int))&&(fewB bs&&(allN (fun i=>fewS (ss.getD i .nilp)) ss.length&&allN (fun i=> !decide (1000<((fs 0 (ms.getD i .nilp)).length:Int))) ms.length))))
theorem rn18(m n:Nat)(og ep co:Int)(na nm' nb ns:Bool)(zas ms bs ss:List D)(hn:300<n):(enterM Mt (callN Mt (m+40)) n c18 [.d (stD og ep co na nm' nb ns zas ms bs ss)] []).out=some [.bool (fewSt zas ms bs ss)]:=by
 rw [x18]
 unfold fewSt
 cases decide (50<(zas.length:Int))
 ·by_cases hm:200<(ms.length:Int)
  ·rw [decide_eq_true hm];rfl
  ·rw [decide_eq_false hm]
   by_cases hs:40<(ss.length:Int)
   ·rw [decide_eq_true hs];rfl
   ·rw [decide_eq_false hs]
    cases fewB bs
    ·rfl
    ·refine (cf rfl).trans ((cf rfl).trans ((cf rfl).trans ((cf rfl).trans ?_)))
     have inner:(resume Mt (callN Mt (m+40)) n n 1 c18 (v18b og ep co na nm' nb ns zas ms bs ss 0)).out=some [.bool (allN (fun i=> !decide (1000<((fs 0 (ms.getD i .nilp)).length:Int))) ms.length)]:=by
      have:=scan_loop (fun j i=>(resume Mt (callN Mt (m+40)) n j 1 c18 (v18b og ep co na nm' nb ns zas ms bs ss (i:Nat))).out) ms.length (fun i=> !!decide (1000<((fs 0 (ms.getD i .nilp)).length:Int))) (fun _=>[D.bool false]) [.bool true]
       (fun j i hi=> ?_) (fun j=> ?_) ms.length 0 n (by omega) (by omega)
      ·refine this.trans ?_
       rw [scan_boolD (fun i=> !decide (1000<((fs 0 (ms.getD i .nilp)).length:Int)))]
      ·rw [y18b,Bool.not_not]
       simp only [Int.toNat_natCast,wrap_up hi (show ms.length≤1000000 by omega)]
       exact (ct (dec_lt hi)).trans (ct (dec_ix hi))
      ·rw [y18b]
       exact cf (dec_end _)
     have:=scan_loop (fun j i=>(resume Mt (callN Mt (m+40)) n j 0 c18 (v18 og ep co na nm' nb ns zas ms bs ss (i:Nat))).out) ss.length (fun i=> !fewS (ss.getD i .nilp)) (fun _=>[D.bool false]) [.bool (allN (fun i=> !decide (1000<((fs 0 (ms.getD i .nilp)).length:Int))) ms.length)]
      (fun j i hi=> ?_) (fun j=> ?_) ss.length 0 n (by omega) (by omega)
     ·refine this.trans ?_
      cases hx:allN (fun i=> !decide (1000<((fs 0 (ms.getD i .nilp)).length:Int))) ms.length
      ·have e:=scan_map (fun x:Bool=>[D.bool x]) (fun i=> !fewS (ss.getD i .nilp)) (fun _=>false) false ss.length 0
       refine congrArg some (e.trans ?_)
       have: ∀k i,scan (fun i=> !fewS (ss.getD i .nilp)) (fun _=>false) false k i=false:=by
        intro k
        induction k with
        | zero=>intro i;rfl
        | succ k ih=>
         intro i
         simp only [scan,ih]
         cases (!fewS (ss.getD i .nilp)) <;> rfl
       rw [this,Bool.and_false];rfl
      ·rw [scan_boolD,Bool.and_true];rfl
     ·rw [y18]
      simp only [Int.toNat_natCast,wrap_up hi (show ss.length≤1000000 by omega)]
      exact (ct (dec_lt hi)).trans (ct (dec_ix hi))
     ·rw [y18]
      exact (cf (dec_end _)).trans inner
 ·rfl
def g18m:List D→Tree (List D)
 | [.agg [.int .i64 _og,.int .i64 _ep,.int .i64 _co,.sl e0a _na zas,.sl e0m _nm ms,.sl e0b _nb bs,.sl e0s _ns ss]]=>match Sh.beq e0a accSh&&Sh.beq e0m mrkSh&&Sh.beq e0b defSh&&Sh.beq e0s sgSh with
  | true=> .ret [.bool (fewSt zas ms bs ss)]
  | false=> .stuck
 | _=> .stuck
theorem pure18m{P:Program}(hm:P.follows .mixedOrders=true)(h0:EnvOK P Mt):PureOK P 18 g18m:=PureOK.run hm h0 fun ds rs h=>by
 unfold g18m at h
 split at h
 ·rename_i og ep co e0a na zas e0m nm ms e0b nb bs e0s ns ss
  split at h
  ·rename_i hb
   simp only [Bool.and_eq_true] at hb
   obtain ⟨⟨⟨hb0,hb1⟩,hb2⟩,hb3⟩:=hb
   have hb0:=Sh.beq_eq hb0
   have hb1:=Sh.beq_eq hb1
   have hb2:=Sh.beq_eq hb2
   have hb3:=Sh.beq_eq hb3
   subst hb0 hb1 hb2 hb3
   cases h
   exact ⟨359+1,by rw [callN_succ (fn:=c18) rfl];exact rn18 319 359 og ep co na nm nb ns zas ms bs ss (by omega)⟩
  ·cases h
 ·cases h
structure An where
 b1:Bool
 ms:List D
 b2:Bool
 ns:List D
def An.d(a:An):D:= .agg [.sl moveSh a.b1 a.ms,.sl noteSh a.b2 a.ns]
theorem noteEq_self(x:D):noteEq x x=true:=by
 unfold noteEq
 rw [refCmp_self]
 simp only [beq_self_eq_true,Bool.and_self]
theorem notesEq_self(a:List D):notesEq a a=true:=by
 unfold notesEq
 rw [allN_iff.2 fun i _=>noteEq_self _];simp
def nilS(ss:List D):Prop:= ∀i,i<ss.length→(fn 2 (ss.getD i .nilp)=true→fl 2 (ss.getD i .nilp)=[])∧(fn 4 (ss.getD i .nilp)=true→fl 4 (ss.getD i .nilp)=[])∧(fn 7 (ss.getD i .nilp)=true→fl 7 (ss.getD i .nilp)=[])
def nilB(bs:List D):Prop:= ∀i,i<bs.length→(fn 1 (bs.getD i .nilp)=true→fl 1 (bs.getD i .nilp)=[])
theorem pure155{P:Program}(hm:P.follows .mixedOrders=true)(h0:EnvOK P M3):PureOK P 155 g155:=PureOK.run hm h0 fun ds rs h=>by
 unfold g155 at h
 split at h
 ·rename_i ea na zas em nm ms s
  split at h
  ·rename_i hb
   simp only [Bool.and_eq_true] at hb
   have hb0:=Sh.beq_eq hb.1
   have hb1:=Sh.beq_eq hb.2
   subst hb0 hb1
   obtain ⟨hg,h'⟩:=eval_guard h
   clear h
   simp only [decide_eq_true_eq] at hg
   cases h'
   exact ⟨59+1,by rw [callN_succ (fn:=c155) rfl];exact run155 19 59 na nm zas ms s hg⟩
  ·cases h
 ·cases h
theorem kv_loop(m n:Nat)(na nm':Bool)(zas ms:List D)(hl:ms.length≤1000000): ∀k i j kv,i+k=ms.length→k<j→kv=(ms.take i).foldl pendStep []→
  (resume M3 (callN M3 (m+40)) n j 0 c158 (s158 na nm' zas ms kv (i:Nat))).eval=some (.mp 640,[(128,.box [V.d (D.sl accSh na zas),V.d (D.sl mrkSh nm' ms)]),(640,AM.Obj.map Sh.str i4Sh (pendKV ms))]):=by
 intro k
 induction k with
 | zero=>
  intro i j kv hi hj hp
  cases j with
  | zero=>omega
  | succ j=>
   have:i=ms.length:=by omega
   subst this
   rw [List.take_length] at hp
   have hp:pendKV ms=kv:=hp.symm
   rw [l158,hp]
   exact cf (dec_end _)
 | succ k ih=>
  intro i j kv hi hj hp
  cases j with
  | zero=>omega
  | succ j=>
   have hlt:i<ms.length:=by omega
   have next:=ih (i+1) j (pendStep kv (ms.getD i .nilp)) (by omega) (by omega) (by
    rw [List.take_add_one,List.getElem?_eq_getElem hlt,List.foldl_append,←hp,List.getD_eq_getElem?_getD,List.getElem?_eq_getElem hlt];rfl)
   rw [l158]
   simp only [Int.toNat_natCast,wrap_up hlt hl]
   refine (ct (dec_lt hlt)).trans ((ct (dec_ix hlt)).trans ?_)
   unfold pendStep at next
   cases h1:(fi 4 (ms.getD i .nilp) != 1)
   ·rw [h1] at next
    exact next
   ·rw [h1] at next
    exact next
theorem run158(m n:Nat)(na nm':Bool)(zas ms:List D)(hl:ms.length≤1000000)(hn:ms.length<n):(enterM M3 (callN M3 (m+40)) n c158 [.d (.agg [.sl accSh na zas,.sl mrkSh nm' ms])] []).eval=some (.mp 640,[(128,.box [V.d (D.sl accSh na zas),V.d (D.sl mrkSh nm' ms)]),(640,AM.Obj.map Sh.str i4Sh (pendKV ms))]):=by
 rw [e158]
 exact kv_loop m n na nm' zas ms hl ms.length 0 n [] (by omega) (by omega) rfl
theorem fn158{P:Program}(hm:P.follows .mixedOrders=true)(h0:EnvOK P M3):FnOK P 158 C158:=FnOK.run hm h0 fun args ob r h=>by
 unfold C158 at h
 split at h
 ·rename_i ea na zas em nm ms
  split at h
  ·rename_i hb
   simp only [Bool.and_eq_true] at hb
   have hb0:=Sh.beq_eq hb.1
   have hb1:=Sh.beq_eq hb.2
   subst hb0 hb1
   obtain ⟨hg,h'⟩:=eval_guard h
   clear h
   simp only [decide_eq_true_eq] at hg
   cases h'
   exact ⟨(ms.length+40)+1,by rw [callN_succ (fn:=c158) rfl];exact run158 ms.length (ms.length+40) na nm zas ms hg (by omega)⟩
  ·cases h
 ·cases h
theorem okM6{P:Program}(hm:P.follows .mixedOrders=true)(h:EnvOK P M3):EnvOK P M6:=(h.pureAt (pure155 hm h)).genAt (fn158 hm h)
open Go Go.AM Go.Proofs
theorem okM2:EnvOK Tryz.prog M2:=(okM1 mixed okZK2).pureAt pure192
theorem okM3t:EnvOK Tryz.prog M3:=okM3 mixed okM2
theorem okM6t:EnvOK Tryz.prog M6:=okM6 mixed okM3t
theorem okMgt:EnvOK Tryz.prog Mg:=okMg mixed (okMd mixed okM3t okM6t (okM9 mixed okM6t))
theorem okMit:EnvOK Tryz.prog Mi:=okMi mixed okMgt (okMh mixed (okF4 mixed okE19) (okF5 mixed okE19) okMgt)
theorem okMpt:EnvOK Tryz.prog Mp:=okMp mixed okMgt okMit
theorem okMqt:EnvOK Tryz.prog Mq:=okMq mixed okE19 okMpt
def accTy:Ty:= .st [.str,.st [.int .i64,.int .i64,.int .i64],.st [.int .i64,.int .i64,.int .i64]]
def mrkTy:Ty:= .st [.str,.st [.int .i64,.str,.int .i64],.int .i64]
def defTy:Ty:= .st [.str,.sl stepTy]
def stateTy:Ty:= .st [.int .i64,.int .i64,.int .i64,.st [.sl accTy,.sl mrkTy],.sl defTy,.sl sagaTy]
def idTy:Ty:= .st [.int .i64,.int .i64,.sl hopTy]
def noteTy:Ty:= .st [.int .i64,idTy,.str,.int .i64]
theorem def_in{x:D}(h0:WF defTy.sh x): ∃nm nil es,x= .agg [.str nm,.sl stepSh nil es]∧(nil=true→es=[]):=by
 obtain ⟨cs,rfl,h⟩:=WF.inv_agg h0
 obtain ⟨_,_,rfl,a1,h⟩:=h.inv
 obtain ⟨_,_,rfl,a2,h⟩:=h.inv
 obtain rfl:=h.inv_nil
 obtain ⟨nm,rfl⟩:=a1.inv_str
 obtain ⟨nil,es,rfl,b,-⟩:=a2.inv_sl
 exact ⟨nm,nil,es,rfl,b⟩
theorem note_in{x:D}(h0:WF noteTy.sh x): ∃k r q w nil es df,x=noteD k r q nil es df w∧(nil=true→es=[]):=by
 obtain ⟨cs,rfl,h⟩:=WF.inv_agg h0
 obtain ⟨_,_,rfl,a1,h⟩:=h.inv
 obtain ⟨_,_,rfl,a2,h⟩:=h.inv
 obtain ⟨_,_,rfl,a3,h⟩:=h.inv
 obtain ⟨_,_,rfl,a4,h⟩:=h.inv
 obtain ⟨_,_,rfl,a5,h⟩:=h.inv
 obtain ⟨_,_,rfl,a6,h⟩:=h.inv
 obtain rfl:=h.inv_nil
 obtain ⟨k,rfl⟩:=a1.inv_int
 obtain ⟨r,rfl⟩:=a2.inv_int
 obtain ⟨q,rfl⟩:=a3.inv_int
 obtain ⟨nil,es,rfl,b,-⟩:=a4.inv_sl
 obtain ⟨df,rfl⟩:=a5.inv_str
 obtain ⟨w,rfl⟩:=a6.inv_int
 exact ⟨k,r,q,w,nil,es,df,rfl,b⟩
theorem state_in{x:D}(h0:WF stateTy.sh x): ∃og ep co na nm nb ns ac ms bs ss,x=stD og ep co na nm nb ns ac ms bs ss∧nilS ss∧nilB bs:=by
 obtain ⟨cs,rfl,h⟩:=WF.inv_agg h0
 obtain ⟨_,_,rfl,a1,h⟩:=h.inv
 obtain ⟨_,_,rfl,a2,h⟩:=h.inv
 obtain ⟨_,_,rfl,a3,h⟩:=h.inv
 obtain ⟨_,_,rfl,a4,h⟩:=h.inv
 obtain ⟨_,_,rfl,a5,h⟩:=h.inv
 obtain ⟨_,_,rfl,a6,h⟩:=h.inv
 obtain ⟨_,_,rfl,a7,h⟩:=h.inv
 obtain rfl:=h.inv_nil
 obtain ⟨og,rfl⟩:=a1.inv_int
 obtain ⟨ep,rfl⟩:=a2.inv_int
 obtain ⟨co,rfl⟩:=a3.inv_int
 obtain ⟨na,ac,rfl,-,-⟩:=a4.inv_sl
 obtain ⟨nm,ms,rfl,-,-⟩:=a5.inv_sl
 obtain ⟨nb,bs,rfl,-,hb⟩:=a6.inv_sl
 obtain ⟨ns,ss,rfl,-,hs⟩:=a7.inv_sl
 refine ⟨og,ep,co,na,nm,nb,ns,ac,ms,bs,ss,rfl,fun i hi=> ?_,fun i hi=> ?_⟩
 ·obtain ⟨rt,nn,st,wy,n1,n2,n3,fc,hops,steps,parts,nm,e,b1,b2,b3⟩:=saga_in (hs _ (getD_mem hi))
  rw [e]
  exact ⟨b1,b2,b3⟩
 ·obtain ⟨nm,nil,es,e,b⟩:=def_in (hb _ (getD_mem hi))
  rw [e]
  exact b
theorem law_true{E:Env}{f:Nat}{tys:List Ty}(hE:EnvOK Tryz.prog E)(h: ∀ds,WFs tys ds→ ∃n,(callN E n f (ds.map .d) []).out=some [.bool true]):
  ∃g,PureOK Tryz.prog f g∧ ∀xs,WFs tys xs→(g xs).eval=some [.bool true]:=by
 refine ⟨fun ds=> @ite _ (WFs tys ds) (Classical.propDecidable _) (.ret [D.bool true]) .stuck,PureOK.run mixed hE fun ds rs hr=> ?_,fun xs hw=> ?_⟩
 ·by_cases hw:WFs tys ds
  ·rw [if_pos hw] at hr
   cases hr
   exact h ds hw
  ·rw [if_neg hw] at hr
   cases hr
 ·show Tree.eval (@ite _ (WFs tys xs) (Classical.propDecidable _) (.ret [D.bool true]) .stuck)=_
  rw [if_pos hw];rfl
def tabs4:List (String×DataW Unit):=Rows.childTakesRow.laid
theorem tabs4_met(os:Os)(args:Array Value):laidMetH Tryz.prog tabs4 ((World.laidAll Tryz.prog os tabs4).forCall (fun _ _=>0) ⟨#[],args,[]⟩).memory:=by
 rw [MakeChecks.laidMetH_plain _ _ _ (by kernel_rfl)]
 exact laidMet_laidAll _ (by kernel_rfl) (by kernel_rfl)
theorem tabs4_pow : ("internal/strconv.uint64pow10", (Rows.laid_internal_strconv_uint64pow10 : DataW Unit)) ∈ tabs4 := .tail _ (.tail _ (.head _))
def EV2:Env:=((E0.pureAt 26 false (gSelf E0 60 26)).pureAt 28 false (gSelf E0 60 28)).pureAt 30 false (gSelf E0 60 30)
theorem awake27_run:(callN EV2 60 25 [] []).out=some [D.bool true]:=by kernel_rfl
def Da:Env:=Mt.pureAt 18 true g18m
theorem okDa{P:Program}(hm:P.follows .mixedOrders=true)(h:EnvOK P Mt):EnvOK P Da:=h.pureAt (pure18m hm h)
theorem x170(m n:Nat)(r q k o:Int)(nil:Bool)(es:List D):Go.AM.Tree.out (enterM Da (callN Da (m+40)) n c170 [.d (.agg [.int .i64 r,.int .i64 q,.sl hopSh nil es]),.d (.int .i64 k),.d (.int .i64 o)] [])=bif (bif idOk r q es then (0:Int) else (30:Int)) != (0:Int) then some [D.agg [D.int IntKind.i64 (0:Int),D.int IntKind.i64 (0:Int),D.sl hopSh true []],D.int IntKind.i64 (bif idOk r q es then (0:Int) else (30:Int))] else bif nil then bif (bif idOk r q [D.agg [D.int IntKind.i64 k,D.int IntKind.i64 o]] then (0:Int) else (30:Int)) != (0:Int) then some [D.agg [D.int IntKind.i64 (0:Int),D.int IntKind.i64 (0:Int),D.sl hopSh true []],D.int IntKind.i64 (bif idOk r q [D.agg [D.int IntKind.i64 k,D.int IntKind.i64 o]] then (0:Int) else (30:Int))] else some [D.agg [D.int IntKind.i64 r,D.int IntKind.i64 q,D.sl hopSh false [D.agg [D.int IntKind.i64 k,D.int IntKind.i64 o]]],D.int IntKind.i64 (0:Int)] else bif decide (List.length es≤(1000000:Nat)) then bif decide (List.length es+(1:Nat)≤(4294967296:Nat)) then bif (bif idOk r q (List.append es [D.agg [D.int IntKind.i64 k,D.int IntKind.i64 o]]) then (0:Int) else (30:Int)) != (0:Int) then some [D.agg [D.int IntKind.i64 (0:Int),D.int IntKind.i64 (0:Int),D.sl hopSh true []],D.int IntKind.i64 (bif idOk r q (List.append es [D.agg [D.int IntKind.i64 k,D.int IntKind.i64 o]]) then (0:Int) else (30:Int))] else some [D.agg [D.int IntKind.i64 r,D.int IntKind.i64 q,D.sl hopSh false (List.append es [D.agg [D.int IntKind.i64 k,D.int IntKind.i64 o]])],D.int IntKind.i64 (0:Int)] else none else none:=by kernel_rfl
theorem x65(m n:Nat)(r q k o:Int)(nil:Bool)(es:List D):Go.AM.Tree.out (enterM Da (callN Da (m+40)) n c65 [.d (.agg [.int .i64 r,.int .i64 q,.sl hopSh nil es]),.d (.int .i64 k),.d (.int .i64 o)] [])=bif decide ((0:Nat)+List.length es≤(4294967296:Nat)) then bif decide (List.length es+(1:Nat)≤(4294967296:Nat)) then bif (bif idOk r q es then (0:Int) else (30:Int)) != (0:Int) then some [D.agg [D.int IntKind.i64 (0:Int),D.int IntKind.i64 (0:Int),D.sl hopSh true []],D.int IntKind.i64 (30:Int)] else bif (bif idOk r q (List.append es [D.agg [D.int IntKind.i64 k,D.int IntKind.i64 o]]) then (0:Int) else (30:Int)) != (0:Int) then some [D.agg [D.int IntKind.i64 (0:Int),D.int IntKind.i64 (0:Int),D.sl hopSh true []],D.int IntKind.i64 (30:Int)] else some [D.agg [D.int IntKind.i64 r,D.int IntKind.i64 q,D.sl hopSh false (List.append es [D.agg [D.int IntKind.i64 k,D.int IntKind.i64 o]])],D.int IntKind.i64 (0:Int)] else none else none:=by kernel_rfl
theorem x121(m n:Nat)(rt nn st wy:Int)(n1 n2 n3 fc:Bool)(hops steps parts:List D)(nm:List UInt8)(i:Int):Go.AM.Tree.out (enterM Da (callN Da (m+40)) n c121 [.d (sagaD rt nn st wy n1 n2 n3 fc hops steps parts nm),.d (.int .i64 i)] [])=bif decide ((0:Int)≤i∧i<(↑(List.length parts):Int)) then bif decide ((0:Int)≤i∧i<(↑(List.length parts):Int)) then bif st==(1:Int) then bif fi (0:Nat) (List.getD parts (Int.toNat i) D.nilp)==(1:Int) then some [D.int IntKind.i64 (1:Int)] else some [D.int IntKind.i64 (0:Int)] else bif st==(4:Int) then bif decide (List.length steps≤(1000000:Nat)) then bif decide (List.length parts≤(1000000:Nat)) then bif i==curR rt nn st wy fc hops steps parts nm then bif fi (0:Nat) (List.getD parts (Int.toNat i) D.nilp)==(1:Int) then some [D.int IntKind.i64 (4:Int)] else bif fi (0:Nat) (List.getD parts (Int.toNat i) D.nilp)==(2:Int) then some [D.int IntKind.i64 (4:Int)] else some [D.int IntKind.i64 (0:Int)] else some [D.int IntKind.i64 (0:Int)] else none else none else bif st==(5:Int) then bif decide (List.length steps≤(1000000:Nat)) then bif decide (List.length parts≤(1000000:Nat)) then bif i==curR rt nn st wy fc hops steps parts nm then bif fi (0:Nat) (List.getD parts (Int.toNat i) D.nilp)==(1:Int) then some [D.int IntKind.i64 (4:Int)] else bif fi (0:Nat) (List.getD parts (Int.toNat i) D.nilp)==(2:Int) then some [D.int IntKind.i64 (4:Int)] else some [D.int IntKind.i64 (0:Int)] else some [D.int IntKind.i64 (0:Int)] else none else none else bif st==(3:Int) then bif fi (0:Nat) (List.getD parts (Int.toNat i) D.nilp)==(2:Int) then some [D.int IntKind.i64 (3:Int)] else bif fi (0:Nat) (List.getD parts (Int.toNat i) D.nilp)==(1:Int) then bif fc then some [D.int IntKind.i64 (4:Int)] else some [D.int IntKind.i64 (0:Int)] else some [D.int IntKind.i64 (0:Int)] else bif st==(6:Int) then bif fi (0:Nat) (List.getD parts (Int.toNat i) D.nilp)==(1:Int) then some [D.int IntKind.i64 (4:Int)] else bif fi (0:Nat) (List.getD parts (Int.toNat i) D.nilp)==(2:Int) then some [D.int IntKind.i64 (4:Int)] else some [D.int IntKind.i64 (0:Int)] else some [D.int IntKind.i64 (0:Int)] else none else none:=by kernel_rfl
def hpD(k o:Int):D:= .agg [.int .i64 k,.int .i64 o]
def kidOk(r q:Int)(es:List D)(k o:Int):Bool:=idOk r q es&&idOk r q (es++[hpD k o])
def kidD(r q:Int)(es:List D)(k o:Int):D:= .agg [.int .i64 r,.int .i64 q,.sl hopSh false (es++[hpD k o])]
def zId:D:= .agg [.int .i64 0,.int .i64 0,.sl hopSh true []]
def kidT(r q:Int)(es:List D)(k o:Int):Tree (List D):= .ite (kidOk r q es k o) (fun _=> .ret [kidD r q es k o,.int .i64 0]) (fun _=> .ret [zId,.int .i64 30])
def owedK(st c i p:Int)(fc:Bool):Int:=
 bif st==1 then bif p==1 then 1 else 0 else bif st==4||st==5 then bif i==c&&(p==1||p==2) then 4 else 0 else
 bif st==3 then bif p==2 then 3 else bif p==1&&fc then 4 else 0 else bif st==6 then bif p==1||p==2 then 4 else 0 else 0
theorem rn170(m n:Nat)(r q k o:Int)(nil:Bool)(es:List D)(h1:nil=true→es=[])(h2:es.length≤1000000):
  (enterM Da (callN Da (m+40)) n c170 [.d (.agg [.int .i64 r,.int .i64 q,.sl hopSh nil es]),.d (.int .i64 k),.d (.int .i64 o)] []).out=(kidT r q es k o).eval:=by
 rw [x170]
 simp only [ne0 _ 30 (by decide)]
 unfold kidT kidOk
 cases hi:idOk r q es
 ·rfl
 ·cases hj:idOk r q (es++[hpD k o])
  ·have hj':idOk r q (List.append es [D.agg [D.int .i64 k,D.int .i64 o]])=false:=hj
   cases nil
   ·refine (cf rfl).trans ((cf rfl).trans ((ct (decide_eq_true h2)).trans ((ct (decide_eq_true (by omega))).trans ?_)))
    rw [hj'];rfl
   ·obtain rfl:=h1 rfl
    have hj':idOk r q [D.agg [D.int .i64 k,D.int .i64 o]]=false:=hj
    rw [hj'];rfl
  ·have hj':idOk r q (List.append es [D.agg [D.int .i64 k,D.int .i64 o]])=true:=hj
   cases nil
   ·refine (cf rfl).trans ((cf rfl).trans ((ct (decide_eq_true h2)).trans ((ct (decide_eq_true (by omega))).trans ?_)))
    rw [hj'];rfl
   ·obtain rfl:=h1 rfl
    have hj':idOk r q [D.agg [D.int .i64 k,D.int .i64 o]]=true:=hj
    rw [hj'];rfl
theorem rn65(m n:Nat)(r q k o:Int)(nil:Bool)(es:List D)(h2:es.length≤1000000):
  (enterM Da (callN Da (m+40)) n c65 [.d (.agg [.int .i64 r,.int .i64 q,.sl hopSh nil es]),.d (.int .i64 k),.d (.int .i64 o)] []).out=(kidT r q es k o).eval:=by
 rw [x65]
 simp only [ne0 _ 30 (by decide)]
 unfold kidT kidOk
 refine (ct (decide_eq_true (by omega))).trans ((ct (decide_eq_true (by omega))).trans ?_)
 cases hi:idOk r q es
 ·rfl
 ·cases hj:idOk r q (es++[hpD k o])
  ·have hj':idOk r q (List.append es [D.agg [D.int .i64 k,D.int .i64 o]])=false:=hj
   rw [hj'];rfl
  ·have hj':idOk r q (List.append es [D.agg [D.int .i64 k,D.int .i64 o]])=true:=hj
   rw [hj'];rfl
theorem rn121(m n:Nat)(rt nn st wy:Int)(n1 n2 n3 fc:Bool)(hops steps parts:List D)(nm:List UInt8)(i:Int)(h0:0≤i∧i<(parts.length:Int))(h1:steps.length≤1000000)(h2:parts.length≤1000000):
  (enterM Da (callN Da (m+40)) n c121 [.d (sagaD rt nn st wy n1 n2 n3 fc hops steps parts nm),.d (.int .i64 i)] []).out=some [.int .i64 (owedK st (curR rt nn st wy fc hops steps parts nm) i (fi 0 (parts.getD i.toNat .nilp)) fc)]:=by
 rw [x121,decide_eq_true h0,decide_eq_true h1,decide_eq_true h2]
 unfold owedK
 generalize (i==curR rt nn st wy fc hops steps parts nm)=c
 generalize (fi 0 (parts.getD i.toNat .nilp)==1)=p1
 generalize (fi 0 (parts.getD i.toNat .nilp)==2)=p2
 generalize (st==1)=s1
 generalize (st==3)=s3
 generalize (st==4)=s4
 generalize (st==5)=s5
 generalize (st==6)=s6
 cases s1
 ·cases s4 <;> cases s5 <;> cases s3 <;> cases s6 <;> cases p1 <;> cases p2 <;> cases c <;> cases fc <;> rfl
 ·cases p1 <;> rfl
def g170d:List D→Tree (List D)
 | [.agg [.int .i64 r,.int .i64 q,.sl e0 nil es],.int .i64 k,.int .i64 o]=>match Sh.beq e0 hopSh with
  | true=> .ite ((!nil||es.isEmpty)&&decide (es.length≤1000000)) (fun _=>kidT r q es k o) (fun _=> .stuck)
  | false=> .stuck
 | _=> .stuck
theorem pure170d{P:Program}(hm:P.follows .mixedOrders=true)(h0:EnvOK P Da):PureOK P 170 g170d:=PureOK.run hm h0 fun ds rs h=>by
 unfold g170d at h
 split at h
 ·rename_i r q e0 nil es k o
  split at h
  ·rename_i hb
   have hb0:=hb
   have hb0:=Sh.beq_eq hb0
   subst hb0
   obtain ⟨hg,h'⟩:=eval_guard h
   clear h
   simp only [Bool.and_eq_true,decide_eq_true_eq] at hg
   exact ⟨59+1,by rw [callN_succ (fn:=c170) rfl];exact (rn170 19 59 r q k o nil es (fun h=>by rw [h] at hg;exact List.isEmpty_iff.1 hg.1) hg.2).trans h'⟩
  ·cases h
 ·cases h
def g65d:List D→Tree (List D)
 | [.agg [.int .i64 r,.int .i64 q,.sl e0 _nil es],.int .i64 k,.int .i64 o]=>match Sh.beq e0 hopSh with
  | true=> .ite (decide (es.length≤1000000)) (fun _=>kidT r q es k o) (fun _=> .stuck)
  | false=> .stuck
 | _=> .stuck
theorem pure65d{P:Program}(hm:P.follows .mixedOrders=true)(h0:EnvOK P Da):PureOK P 65 g65d:=PureOK.run hm h0 fun ds rs h=>by
 unfold g65d at h
 split at h
 ·rename_i r q e0 nil es k o
  split at h
  ·rename_i hb
   have hb0:=hb
   have hb0:=Sh.beq_eq hb0
   subst hb0
   obtain ⟨hg,h'⟩:=eval_guard h
   clear h
   simp only [decide_eq_true_eq] at hg
   exact ⟨59+1,by rw [callN_succ (fn:=c65) rfl];exact (rn65 19 59 r q k o nil es hg).trans h'⟩
  ·cases h
 ·cases h
def g121d:List D→Tree (List D)
 | [.agg [.int .i64 rt,.int .i64 nn,.sl e0h _n1 hops,.str nm,.sl e0s _n2 steps,.int .i64 st,.int .i64 wy,.sl e0p _n3 parts,.bool fc],.int .i64 i]=>match Sh.beq e0h hopSh&&Sh.beq e0s stepSh&&Sh.beq e0p partSh with
  | true=> .ite (decide (0≤i∧i<(parts.length:Int))&&(decide (steps.length≤1000000)&&decide (parts.length≤1000000))) (fun _=> .ret [.int .i64 (owedK st (curR rt nn st wy fc hops steps parts nm) i (fi 0 (parts.getD i.toNat .nilp)) fc)]) (fun _=> .stuck)
  | false=> .stuck
 | _=> .stuck
theorem pure121d{P:Program}(hm:P.follows .mixedOrders=true)(h0:EnvOK P Da):PureOK P 121 g121d:=PureOK.run hm h0 fun ds rs h=>by
 unfold g121d at h
 split at h
 ·rename_i rt nn e0h n1 hops nm e0s n2 steps st wy e0p n3 parts fc i
  split at h
  ·rename_i hb
   simp only [Bool.and_eq_true] at hb
   obtain ⟨⟨hb0,hb1⟩,hb2⟩:=hb
   have hb0:=Sh.beq_eq hb0
   have hb1:=Sh.beq_eq hb1
   have hb2:=Sh.beq_eq hb2
   subst hb0 hb1 hb2
   obtain ⟨hg,h'⟩:=eval_guard h
   clear h
   simp only [Bool.and_eq_true,decide_eq_true_eq] at hg
   cases h'
   exact ⟨59+1,by rw [callN_succ (fn:=c121) rfl];exact rn121 19 59 rt nn st wy n1 n2 n3 fc hops steps parts nm i hg.1 hg.2.1 hg.2.2⟩
  ·cases h
 ·cases h
def Db:Env:=((Da.pureAt 170 false g170d).pureAt 65 false g65d).pureAt 121 true g121d
theorem okDb{P:Program}(hm:P.follows .mixedOrders=true)(h:EnvOK P Da):EnvOK P Db:=((h.pureAt (pure170d hm h)).pureAt (pure65d hm h)).pureAt (pure121d hm h)
end Go.Proofs.YtkjiaijkdefkgaaGreatDoor.A
namespace Go.AM
open Go
def hasR:AC→Bool
 | .seq a b=>hasR a||hasR b
 | .block _ c=>hasR c
 | .scope c=>hasR c
 | .rfn _ _ _ _ _ _=>true
 | _=>false
def toR(E:Env)(cf:CallF)(n:Nat):AC→St→Tree St
 | .seq a b,st=>match hasR a with
  | true=>toR E cf n a st
  | false=>(runM E cf n a st).bind fun (e,st')=>match e with
   | .nrm=>toR E cf n b st'
   | _=> .stuck
 | .block _ c,st=>toR E cf n c st
 | .scope c,st=>toR E cf n c st
 | .rfn _ _ _ _ _ _,st=> .ret st
 | _,_=> .stuck
def fromR(E:Env)(cf:CallF)(n:Nat)(K:Tree (V×Obs)):AC→St→Tree (Ex×St)
 | .seq a b,st=>match hasR a with
  | true=>(fromR E cf n K a st).bind fun (e,st')=>match e with
   | .nrm=>runM E cf n b st'
   | .ext id=> .ret (.ext id,st')
   | .ret=> .ret (.ret,st')
  | false=>fromR E cf n K b st
 | .block id c,st=>(fromR E cf n K c st).bind fun (e,st')=>match e with
  | .ext j=>if Nat.beq j id then .ret (.nrm,st') else .ret (.ext j,st')
  | .nrm=> .ret (.nrm,st')
  | .ret=> .ret (.ret,st')
 | .scope c,st=>fromR E cf n K c st
 | .rfn base live f ps a c,st=>runC E (fun _ _ _=>K) n (.rfn base live f ps a c) st
 | _,_=> .stuck
def rCall:AC→St→Option (Nat×List V×Obs)
 | .seq a b,st=>match hasR a with
  | true=>rCall a st
  | false=>rCall b st
 | .block _ c,st=>rCall c st
 | .scope c,st=>rCall c st
 | .rfn _ live f ps a c,st=>match opd st.fr f with
  | .fn g zas caps=>
   let ob:=(St.kill [63] ⟨st.fr,st.ob.set 63 (.loop ps a c (maskF live 0 st.fr) 0 none)⟩).ob
   let args:=V.subL (killOf [63]) zas++ .yl 63 :: V.subL (killOf [63]) caps
   let ids:=reach ob 64 (V.idsL args) []
   some (g,V.renL (indexIn ids 0) args,takeObs ob (indexIn ids 0) ids 0)
  | _=>none
 | _,_=>none
theorem callGen_one{C:List V→Obs→Tree (V×Obs)}{base:Nat}{args:List V}{st:St}{p:V×Obs}{r:V×St}
  (h:(C (V.renL (indexIn (reach st.ob 64 (V.idsL args) []) 0) args) (takeObs st.ob (indexIn (reach st.ob 64 (V.idsL args) []) 0) (reach st.ob 64 (V.idsL args) []) 0)).eval=some p)
  (h1:(callGen (fun _ _=> .ret p) base args st).eval=some r):(callGen C base args st).eval=some r:=by
 unfold callGen callD at h1 ⊢
 simp only [Tree.bind_eval] at h1 ⊢
 obtain ⟨d,h1,h2⟩:=h1
 refine ⟨d,?_,h2⟩
 split at h1
 ·rename_i hc
  rw [if_pos hc]
  exact h1
 ·rename_i hc
  rw [if_neg hc]
  simp only [Tree.bind_eval] at h1 ⊢
  obtain ⟨q,hq,h1⟩:=h1
  simp only [Tree.eval,Option.some.injEq] at hq
  subst hq
  exact ⟨p,h,h1⟩
theorem runM_rfn{E:Env}{cf:CallF}{n g:Nat}{zas:List V}{ob:Obs}{p:V×Obs}(hcon:E.con g=none)(hp:(cf g zas ob).eval=some p):
  ∀(c:AC) (st st1:St) (r:Ex×St),(toR E cf n c st).eval=some st1→rCall c st1=some (g,zas,ob)→(fromR E cf n (.ret p) c st1).eval=some r→(runM E cf n c st).eval=some r
 | .seq a b,st,st1,r,h1,h2,h3=>by
  simp only [toR] at h1
  simp only [rCall] at h2
  simp only [fromR] at h3
  simp only [runM,Tree.bind_eval]
  cases ha:hasR a with
  | true=>
   rw [ha] at h1 h2 h3
   simp only [Tree.bind_eval] at h3
   obtain ⟨x,h3,h4⟩:=h3
   exact ⟨x,runM_rfn hcon hp a st st1 x h1 h2 h3,h4⟩
  | false=>
   rw [ha] at h1 h2 h3
   simp only [Tree.bind_eval] at h1
   obtain ⟨⟨e,st'⟩,h0,h1⟩:=h1
   cases e with
   | nrm=>exact ⟨_,h0,runM_rfn hcon hp b st' st1 r h1 h2 h3⟩
   | ext _=>cases h1
   | ret=>cases h1
 | .block id c,st,st1,r,h1,h2,h3=>by
  simp only [toR] at h1
  simp only [rCall] at h2
  simp only [fromR,Tree.bind_eval] at h3
  simp only [runM,Tree.bind_eval]
  obtain ⟨x,h3,h4⟩:=h3
  exact ⟨x,runM_rfn hcon hp c st st1 x h1 h2 h3,h4⟩
 | .scope c,st,st1,r,h1,h2,h3=>by
  simp only [toR] at h1
  simp only [rCall] at h2
  simp only [fromR] at h3
  simp only [runM]
  exact runM_rfn hcon hp c st st1 r h1 h2 h3
 | .rfn base live f ps a c,st,st1,r,h1,h2,h3=>by
  simp only [toR,Tree.eval,Option.some.injEq] at h1
  subst h1
  simp only [fromR,runM,runC] at h3 ⊢
  simp only [rCall] at h2
  split at h3
  ·rename_i g' xs caps hf
   rw [hf] at h2
   simp only [Option.some.injEq,Prod.mk.injEq] at h2
   obtain ⟨e1,e2,e3⟩:=h2
   subst e1
   split at h3
   ·rename_i h63 hpr
    simp only [Tree.bind_eval] at h3 ⊢
    obtain ⟨x,h3,h4⟩:=h3
    refine ⟨x,?_,h4⟩
    unfold callV at h3 ⊢
    split at h3
    ·cases h3
    ·rename_i hy
     rw [if_neg hy]
     rw [hcon] at h3 ⊢
     refine callGen_one ?_ h3
     rw [e2,e3]
     exact hp
   ·cases h3
  ·cases h3
 | .skip,_,_,_,h1,_,_=>by cases h1
 | .ret,_,_,_,h1,_,_=>by cases h1
 | .cond _ _ _,_,_,_,h1,_,_=>by cases h1
 | .loop _ _ _,_,_,_,h1,_,_=>by cases h1
 | .exit _,_,_,_,h1,_,_=>by cases h1
 | .ops _ _,_,_,_,h1,_,_=>by cases h1
 | .bad,_,_,_,h1,_,_=>by cases h1
def rfnA:AC→AC
 | .seq a b=>match hasR a with
  | true=>rfnA a
  | false=>rfnA b
 | .block _ c=>rfnA c
 | .scope c=>rfnA c
 | .rfn _ _ _ _ a _=>a
 | _=> .bad
def rfnC:AC→AC
 | .seq a b=>match hasR a with
  | true=>rfnC a
  | false=>rfnC b
 | .block _ c=>rfnC c
 | .scope c=>rfnC c
 | .rfn _ _ _ _ _ c=>c
 | _=> .bad
def headR(E:Env)(cf:CallF)(n:Nat)(fn:AFn)(args:List V)(ob:Obs):Tree St:=toR E cf n fn.body ⟨padTo fn.ntmps args,ob⟩
def resumeR(E:Env)(cf:CallF)(n:Nat)(K:Tree (V×Obs))(fn:AFn)(st:St):Tree (V×Obs):=leave fn (fromR E cf n K fn.body st)
theorem enterM_rfn{E:Env}{cf:CallF}{n g:Nat}{fn:AFn}{zas xs:List V}{ob ob0:Obs}{st1:St}{p r:V×Obs}(hcon:E.con g=none)(hp:(cf g zas ob).eval=some p)
  (h1:(headR E cf n fn xs ob0).eval=some st1) (h2:rCall fn.body st1=some (g,zas,ob)) (h3:(resumeR E cf n (.ret p) fn st1).eval=some r):(enterM E cf n fn xs ob0).eval=some r:=by
 unfold resumeR leave at h3
 unfold enterM leave
 rw [Tree.bind_eval] at h3 ⊢
 obtain ⟨x,h3,h4⟩:=h3
 exact ⟨x,runM_rfn hcon hp fn.body _ st1 x h1 h2 h3,h4⟩
theorem outM_rfn{E:Env}{cf:CallF}{n g:Nat}{fn:AFn}{zas xs:List V}{ob ob0:Obs}{st1:St}{p:V×Obs}{rs:List D}(hcon:E.con g=none)(hp:(cf g zas ob).eval=some p)
  (h1:(headR E cf n fn xs ob0).eval=some st1) (h2:rCall fn.body st1=some (g,zas,ob)) (h3:(resumeR E cf n (.ret p) fn st1).out=some rs):(enterM E cf n fn xs ob0).out=some rs:=by
 obtain ⟨v,o,h4,h5⟩:=Tree.out_eval h3
 exact Tree.out_of (enterM_rfn hcon hp h1 h2 h4) h5
end Go.AM
open Go Go.AM Go.Proofs
namespace Go.Proofs.YtkjiaijkdefkgaaGreatDoor.A
def ra64:AC:=rfnA c64.body
def rc64:AC:=rfnC c64.body
def lp64:AM.Obj:= .loop [11,12] ra64 rc64 (frame 47 [(1,.ptr 1 0),(3,.ptr 2 0)]) 0 none
def bxS(rt nn st wy:Int)(n1 n2 n3 fc:Bool)(hops steps parts:List D)(nm:List UInt8):AM.Obj:= .box [.d (.int .i64 rt),.d (.int .i64 nn),.d (.sl hopSh n1 hops),.d (.str nm),.d (.sl stepSh n2 steps),.d (.int .i64 st),.d (.int .i64 wy),.d (.sl partSh n3 parts),.d (.bool fc)]
def ob64(rt nn st wy:Int)(n1 n2 n3 fc:Bool)(hops steps parts:List D)(nm:List UInt8)(x:V)(l:Obs):Obs:=(0,lp64) :: (1,bxS rt nn st wy n1 n2 n3 fc hops steps parts nm) :: (2,.box [x]) :: (3,bxS rt nn st wy n1 n2 n3 fc hops steps parts nm) :: l
def obA(rt nn st wy:Int)(n1 n2 n3 fc:Bool)(hops steps parts:List D)(nm:List UInt8):Obs:=ob64 rt nn st wy n1 n2 n3 fc hops steps parts nm (.d (.sl noteSh true [])) []
def obB(rt nn st wy:Int)(n1 n2 n3 fc:Bool)(hops steps parts:List D)(nm:List UInt8)(mv:Bool)(out:List D):Obs:=ob64 rt nn st wy n1 n2 n3 fc hops steps parts nm (.own 2240) [(2240,.lst noteSh false mv false out)]
def v169(rt nn st wy:Int)(n1 n2 n3 fc:Bool)(hops steps parts:List D)(nm:List UInt8)(i:Int):St:=⟨frame 38 [(0,.yl 0),(1,.ptr 3 0),(9,.d (.sl stepSh n2 steps)),(10,.d (.int .i64 (steps.length:Int))),(11,.d (.int .i64 i))],obA rt nn st wy n1 n2 n3 fc hops steps parts nm⟩
def w169(rt nn st wy:Int)(n1 n2 n3 fc:Bool)(hops steps parts:List D)(nm:List UInt8)(mv:Bool)(out:List D)(i:Int):St:=⟨frame 38 [(0,.yl 0),(1,.ptr 3 0),(9,.d (.sl stepSh n2 steps)),(10,.d (.int .i64 (steps.length:Int))),(11,.d (.int .i64 i))],obB rt nn st wy n1 n2 n3 fc hops steps parts nm mv out⟩
def st64(rt nn st wy:Int)(n1 n2 n3 fc:Bool)(hops steps parts:List D)(nm:List UInt8):St:=
  ⟨[.d (sagaD rt nn st wy n1 n2 n3 fc hops steps parts nm),.ptr 128 0,.d (.sl noteSh true []),.ptr 256 0]++List.replicate 5 (.tup [])++[.d (sagaD rt nn st wy n1 n2 n3 fc hops steps parts nm),.fn 169 [] [.ptr 704 0]]++List.replicate 36 (.tup []),
   [(128,bxS rt nn st wy n1 n2 n3 fc hops steps parts nm),(256,.box [.d (.sl noteSh true [])]),(704,bxS rt nn st wy n1 n2 n3 fc hops steps parts nm)]⟩
theorem hd64(m n:Nat)(rt nn st wy:Int)(n1 n2 n3 fc:Bool)(hops steps parts:List D)(nm:List UInt8):(headR Db (callN Db (m+40)) n c64 [.d (sagaD rt nn st wy n1 n2 n3 fc hops steps parts nm)] []).eval=some (st64 rt nn st wy n1 n2 n3 fc hops steps parts nm):=by kernel_rfl
theorem rc64_call(rt nn st wy:Int)(n1 n2 n3 fc:Bool)(hops steps parts:List D)(nm:List UInt8):rCall c64.body (st64 rt nn st wy n1 n2 n3 fc hops steps parts nm)=some (169,[.yl 0,.ptr 3 0],obA rt nn st wy n1 n2 n3 fc hops steps parts nm):=by kernel_rfl
theorem x169(m n:Nat)(rt nn st wy:Int)(n1 n2 n3 fc:Bool)(hops steps parts:List D)(nm:List UInt8):Tree.eval (enterM Db (callN Db (m+40)) n c169 [.yl 0,.ptr 3 0] (obA rt nn st wy n1 n2 n3 fc hops steps parts nm))=Tree.eval (resume Db (callN Db (m+40)) n n 0 c169 (v169 rt nn st wy n1 n2 n3 fc hops steps parts nm 0)):=by kernel_rfl
theorem y169(m n f:Nat)(rt nn st wy:Int)(n1 n2 n3 fc:Bool)(hops steps parts:List D)(nm:List UInt8)(i:Int):Tree.eval (resume Db (callN Db (m+40)) n (f+1) 0 c169 (v169 rt nn st wy n1 n2 n3 fc hops steps parts nm i))=bif decide (i<(steps.length:Int)) then bif decide (0≤i∧i<(steps.length:Int)) then bif fs 4 (steps.getD i.toNat .nilp)==[] then Tree.eval (resume Db (callN Db (m+40)) n f 0 c169 (v169 rt nn st wy n1 n2 n3 fc hops steps parts nm (IntKind.wrap .i64 (i+1)))) else bif (!n1||List.isEmpty hops)&&decide (hops.length≤1000000) then bif kidOk rt nn hops i (fi 3 (steps.getD i.toNat .nilp)) then bif decide (0≤i∧i<(parts.length:Int))&&(decide (steps.length≤1000000)&&decide (parts.length≤1000000)) then bif owedK st (curR rt nn st wy fc hops steps parts nm) i (fi 0 (parts.getD i.toNat .nilp)) fc==1 then bif decide (0≤i∧i<(steps.length:Int)) then bif owedK st (curR rt nn st wy fc hops steps parts nm) i (fi 0 (parts.getD i.toNat .nilp)) fc != 0 then Tree.eval (resume Db (callN Db (m+40)) n f 0 c169 (w169 rt nn st wy n1 n2 n3 fc hops steps parts nm false [D.agg [D.int .i64 (owedK st (curR rt nn st wy fc hops steps parts nm) i (fi 0 (parts.getD i.toNat .nilp)) fc),D.int .i64 rt,D.int .i64 nn,D.sl hopSh false (List.append hops [D.agg [D.int .i64 i,D.int .i64 (fi 3 (steps.getD i.toNat .nilp))]]),D.str (fs 4 (steps.getD i.toNat .nilp)),D.int .i64 0]] (IntKind.wrap .i64 (i+1)))) else Tree.eval (resume Db (callN Db (m+40)) n f 0 c169 (v169 rt nn st wy n1 n2 n3 fc hops steps parts nm (IntKind.wrap .i64 (i+1)))) else none else bif owedK st (curR rt nn st wy fc hops steps parts nm) i (fi 0 (parts.getD i.toNat .nilp)) fc != 0 then Tree.eval (resume Db (callN Db (m+40)) n f 0 c169 (w169 rt nn st wy n1 n2 n3 fc hops steps parts nm false [D.agg [D.int .i64 (owedK st (curR rt nn st wy fc hops steps parts nm) i (fi 0 (parts.getD i.toNat .nilp)) fc),D.int .i64 rt,D.int .i64 nn,D.sl hopSh false (List.append hops [D.agg [D.int .i64 i,D.int .i64 (fi 3 (steps.getD i.toNat .nilp))]]),D.str [],D.int .i64 0]] (IntKind.wrap .i64 (i+1)))) else Tree.eval (resume Db (callN Db (m+40)) n f 0 c169 (v169 rt nn st wy n1 n2 n3 fc hops steps parts nm (IntKind.wrap .i64 (i+1)))) else none else Tree.eval (resume Db (callN Db (m+40)) n f 0 c169 (v169 rt nn st wy n1 n2 n3 fc hops steps parts nm (IntKind.wrap .i64 (i+1)))) else none else none else some (V.tup [],obA rt nn st wy n1 n2 n3 fc hops steps parts nm):=by kernel_rfl
theorem z169(m n f:Nat)(rt nn st wy:Int)(n1 n2 n3 fc:Bool)(hops steps parts:List D)(nm:List UInt8)(mv:Bool)(out:List D)(i:Int):Tree.eval (resume Db (callN Db (m+40)) n (f+1) 0 c169 (w169 rt nn st wy n1 n2 n3 fc hops steps parts nm mv out i))=bif decide (i<(steps.length:Int)) then bif decide (0≤i∧i<(steps.length:Int)) then bif fs 4 (steps.getD i.toNat .nilp)==[] then Tree.eval (resume Db (callN Db (m+40)) n f 0 c169 (w169 rt nn st wy n1 n2 n3 fc hops steps parts nm mv out (IntKind.wrap .i64 (i+1)))) else bif (!n1||List.isEmpty hops)&&decide (hops.length≤1000000) then bif kidOk rt nn hops i (fi 3 (steps.getD i.toNat .nilp)) then bif decide (0≤i∧i<(parts.length:Int))&&(decide (steps.length≤1000000)&&decide (parts.length≤1000000)) then bif owedK st (curR rt nn st wy fc hops steps parts nm) i (fi 0 (parts.getD i.toNat .nilp)) fc==1 then bif decide (0≤i∧i<(steps.length:Int)) then bif owedK st (curR rt nn st wy fc hops steps parts nm) i (fi 0 (parts.getD i.toNat .nilp)) fc != 0 then bif decide (out.length+1≤4294967296) then Tree.eval (resume Db (callN Db (m+40)) n f 0 c169 (w169 rt nn st wy n1 n2 n3 fc hops steps parts nm (mv||true) (List.append out [D.agg [D.int .i64 (owedK st (curR rt nn st wy fc hops steps parts nm) i (fi 0 (parts.getD i.toNat .nilp)) fc),D.int .i64 rt,D.int .i64 nn,D.sl hopSh false (List.append hops [D.agg [D.int .i64 i,D.int .i64 (fi 3 (steps.getD i.toNat .nilp))]]),D.str (fs 4 (steps.getD i.toNat .nilp)),D.int .i64 0]]) (IntKind.wrap .i64 (i+1)))) else none else Tree.eval (resume Db (callN Db (m+40)) n f 0 c169 (w169 rt nn st wy n1 n2 n3 fc hops steps parts nm (mv||false) out (IntKind.wrap .i64 (i+1)))) else none else bif owedK st (curR rt nn st wy fc hops steps parts nm) i (fi 0 (parts.getD i.toNat .nilp)) fc != 0 then bif decide (out.length+1≤4294967296) then Tree.eval (resume Db (callN Db (m+40)) n f 0 c169 (w169 rt nn st wy n1 n2 n3 fc hops steps parts nm (mv||true) (List.append out [D.agg [D.int .i64 (owedK st (curR rt nn st wy fc hops steps parts nm) i (fi 0 (parts.getD i.toNat .nilp)) fc),D.int .i64 rt,D.int .i64 nn,D.sl hopSh false (List.append hops [D.agg [D.int .i64 i,D.int .i64 (fi 3 (steps.getD i.toNat .nilp))]]),D.str [],D.int .i64 0]]) (IntKind.wrap .i64 (i+1)))) else none else Tree.eval (resume Db (callN Db (m+40)) n f 0 c169 (w169 rt nn st wy n1 n2 n3 fc hops steps parts nm (mv||false) out (IntKind.wrap .i64 (i+1)))) else none else Tree.eval (resume Db (callN Db (m+40)) n f 0 c169 (w169 rt nn st wy n1 n2 n3 fc hops steps parts nm mv out (IntKind.wrap .i64 (i+1)))) else none else none else some (V.tup [],obB rt nn st wy n1 n2 n3 fc hops steps parts nm mv out):=by kernel_rfl
theorem x64a(m n:Nat)(rt nn st wy:Int)(n1 n2 n3 fc:Bool)(hops steps parts:List D)(nm:List UInt8):Tree.out (resumeR Db (callN Db (m+40)) n (.ret (.tup [],obA rt nn st wy n1 n2 n3 fc hops steps parts nm)) c64 (st64 rt nn st wy n1 n2 n3 fc hops steps parts nm))=bif (!n1||List.isEmpty hops)&&(decide (hops.length≤1000000)&&(decide (steps.length≤1000000)&&decide (parts.length≤1000000))) then bif tellOk rt nn st wy fc hops steps parts nm then some [D.sl noteSh false [D.agg [D.int .i64 (tellK st),D.int .i64 rt,D.int .i64 nn,D.sl hopSh n1 hops,D.str [],D.int .i64 (tellW st wy)]]] else some [D.sl noteSh true []] else none:=by kernel_rfl
theorem x64b(m n:Nat)(rt nn st wy:Int)(n1 n2 n3 fc:Bool)(hops steps parts:List D)(nm:List UInt8)(mv:Bool)(out:List D):Tree.out (resumeR Db (callN Db (m+40)) n (.ret (.tup [],obB rt nn st wy n1 n2 n3 fc hops steps parts nm mv out)) c64 (st64 rt nn st wy n1 n2 n3 fc hops steps parts nm))=bif (!n1||List.isEmpty hops)&&(decide (hops.length≤1000000)&&(decide (steps.length≤1000000)&&decide (parts.length≤1000000))) then bif tellOk rt nn st wy fc hops steps parts nm then bif decide (out.length+1≤4294967296) then some [D.sl noteSh false (List.append out [D.agg [D.int .i64 (tellK st),D.int .i64 rt,D.int .i64 nn,D.sl hopSh n1 hops,D.str [],D.int .i64 (tellW st wy)]])] else none else some [D.sl noteSh false out] else none:=by kernel_rfl
open Go Go.AM
set_option maxRecDepth 20000
def oweN(kf:Int→Int→Int)(rt nn:Int)(hops steps parts:List D)(i:Nat):List D:=
 bif fs 4 (steps.getD i .nilp)==[] then [] else bif kidOk rt nn hops i (fi 3 (steps.getD i .nilp)) then
  bif kf i (fi 0 (parts.getD i .nilp))==0 then [] else [noteD (kf i (fi 0 (parts.getD i .nilp))) rt nn false (hops++[hpD i (fi 3 (steps.getD i .nilp))]) (bif kf i (fi 0 (parts.getD i .nilp))==1 then fs 4 (steps.getD i .nilp) else []) 0] else []
def dueL(kf:Int→Int→Int)(rt nn:Int)(hops steps parts:List D):Nat→Nat→List D
 | 0,_=>[]
 | d+1,i=>oweN kf rt nn hops steps parts i++dueL kf rt nn hops steps parts d (i+1)
def ow(st c:Int)(fc:Bool):Int→Int→Int:=fun i p=>owedK st c i p fc
theorem lp169b(m n:Nat)(rt nn st wy:Int)(n1 n2 n3 fc:Bool)(hops steps parts:List D)(nm:List UInt8)(h1:n1=true→hops=[])(l1:hops.length≤1000000)(l2:steps.length≤1000000)(l3:parts.length≤1000000)(hl:steps.length≤parts.length):
  ∀d i f mv out,i+d=steps.length→d<f→out.length+d≤2000000→ ∃mv',(resume Db (callN Db (m+40)) n f 0 c169 (w169 rt nn st wy n1 n2 n3 fc hops steps parts nm mv out (i:Nat))).eval=some (.tup [],obB rt nn st wy n1 n2 n3 fc hops steps parts nm mv' (out++dueL (ow st (curR rt nn st wy fc hops steps parts nm) fc) rt nn hops steps parts d i)):=by
 have hg:((!n1||List.isEmpty hops)&&decide (hops.length≤1000000))=true:=by
  rw [decide_eq_true l1]
  cases n1 with
  | false=>rfl
  | true=>rw [h1 rfl];rfl
 intro d
 induction d with
 | zero=>
  intro i f mv out hi hf ho
  cases f with
  | zero=>omega
  | succ f=>
   have:i=steps.length:=by omega
   subst this
   refine ⟨mv,?_⟩
   rw [z169]
   refine (cf (dec_end _)).trans ?_
   unfold dueL
   rw [List.append_nil]
 | succ d ih=>
  intro i f mv out hi hf ho
  cases f with
  | zero=>omega
  | succ f=>
   have hlt:i<steps.length:=by omega
   have hp:decide (0≤(i:Int)∧(i:Int)<(parts.length:Int))=true:=decide_eq_true (by omega)
   rw [z169,hg,wrap_up hlt l2,hp,decide_eq_true l2,decide_eq_true l3]
   simp only [Int.toNat_natCast,dec_lt hlt,dec_ix hlt,cond_true,Bool.and_self,decide_eq_true (show out.length+1≤4294967296 by omega)]
   have e:dueL (ow st (curR rt nn st wy fc hops steps parts nm) fc) rt nn hops steps parts (d+1) i=oweN (ow st (curR rt nn st wy fc hops steps parts nm) fc) rt nn hops steps parts i++dueL (ow st (curR rt nn st wy fc hops steps parts nm) fc) rt nn hops steps parts d (i+1):=rfl
   rw [e]
   unfold oweN
   cases hs:(fs 4 (steps.getD i .nilp)==[])
   ·cases hk:kidOk rt nn hops i (fi 3 (steps.getD i .nilp))
    ·exact ih (i+1) f mv out (by omega) (by omega) (by omega)
    ·cases h0:(owedK st (curR rt nn st wy fc hops steps parts nm) i (fi 0 (parts.getD i .nilp)) fc==0)
     ·have hne:(owedK st (curR rt nn st wy fc hops steps parts nm) i (fi 0 (parts.getD i .nilp)) fc != 0)=true:=by rw [bne,h0];rfl
      have h0':(ow st (curR rt nn st wy fc hops steps parts nm) fc i (fi 0 (parts.getD i .nilp))==0)=false:=h0
      rw [hne]
      simp only [h0',cond_false,cond_true]
      cases h1k:(owedK st (curR rt nn st wy fc hops steps parts nm) i (fi 0 (parts.getD i .nilp)) fc==1)
      ·have h1':(ow st (curR rt nn st wy fc hops steps parts nm) fc i (fi 0 (parts.getD i .nilp))==1)=false:=h1k
       simp only [h1',cond_false]
       obtain ⟨mv',h⟩:=ih (i+1) f (mv||true) (out++[noteD (ow st (curR rt nn st wy fc hops steps parts nm) fc i (fi 0 (parts.getD i .nilp))) rt nn false (hops++[hpD i (fi 3 (steps.getD i .nilp))]) [] 0]) (by omega) (by omega) (by simp only [List.length_append,List.length_cons,List.length_nil];omega)
       exact ⟨mv',by rw [←List.append_assoc];exact h⟩
      ·have h1':(ow st (curR rt nn st wy fc hops steps parts nm) fc i (fi 0 (parts.getD i .nilp))==1)=true:=h1k
       simp only [h1',cond_true]
       obtain ⟨mv',h⟩:=ih (i+1) f (mv||true) (out++[noteD (ow st (curR rt nn st wy fc hops steps parts nm) fc i (fi 0 (parts.getD i .nilp))) rt nn false (hops++[hpD i (fi 3 (steps.getD i .nilp))]) (fs 4 (steps.getD i .nilp)) 0]) (by omega) (by omega) (by simp only [List.length_append,List.length_cons,List.length_nil];omega)
       exact ⟨mv',by rw [←List.append_assoc];exact h⟩
     ·have hne:(owedK st (curR rt nn st wy fc hops steps parts nm) i (fi 0 (parts.getD i .nilp)) fc != 0)=false:=by rw [bne,h0];rfl
      have h0':(ow st (curR rt nn st wy fc hops steps parts nm) fc i (fi 0 (parts.getD i .nilp))==0)=true:=h0
      have h1k:(owedK st (curR rt nn st wy fc hops steps parts nm) i (fi 0 (parts.getD i .nilp)) fc==1)=false:=by
       rw [beq_iff_eq] at h0
       rw [h0];rfl
      rw [hne,h1k]
      simp only [h0',cond_true]
      exact ih (i+1) f (mv||false) out (by omega) (by omega) (by omega)
   ·exact ih (i+1) f mv out (by omega) (by omega) (by omega)
theorem lp169(m n:Nat)(rt nn st wy:Int)(n1 n2 n3 fc:Bool)(hops steps parts:List D)(nm:List UInt8)(h1:n1=true→hops=[])(l1:hops.length≤1000000)(l2:steps.length≤1000000)(l3:parts.length≤1000000)(hl:steps.length≤parts.length):
  ∀d i f,i+d=steps.length→d<f→((resume Db (callN Db (m+40)) n f 0 c169 (v169 rt nn st wy n1 n2 n3 fc hops steps parts nm (i:Nat))).eval=some (.tup [],obA rt nn st wy n1 n2 n3 fc hops steps parts nm)∧dueL (ow st (curR rt nn st wy fc hops steps parts nm) fc) rt nn hops steps parts d i=[])∨
   ∃mv' x l,dueL (ow st (curR rt nn st wy fc hops steps parts nm) fc) rt nn hops steps parts d i=x :: l∧(resume Db (callN Db (m+40)) n f 0 c169 (v169 rt nn st wy n1 n2 n3 fc hops steps parts nm (i:Nat))).eval=some (.tup [],obB rt nn st wy n1 n2 n3 fc hops steps parts nm mv' (x :: l)):=by
 have hg:((!n1||List.isEmpty hops)&&decide (hops.length≤1000000))=true:=by
  rw [decide_eq_true l1]
  cases n1 with
  | false=>rfl
  | true=>rw [h1 rfl];rfl
 intro d
 induction d with
 | zero=>
  intro i f hi hf
  cases f with
  | zero=>omega
  | succ f=>
   have:i=steps.length:=by omega
   subst this
   refine .inl ⟨?_,rfl⟩
   rw [y169]
   exact cf (dec_end _)
 | succ d ih=>
  intro i f hi hf
  cases f with
  | zero=>omega
  | succ f=>
   have hlt:i<steps.length:=by omega
   have hp:decide (0≤(i:Int)∧(i:Int)<(parts.length:Int))=true:=decide_eq_true (by omega)
   rw [y169,hg,wrap_up hlt l2,hp,decide_eq_true l2,decide_eq_true l3]
   simp only [Int.toNat_natCast,dec_lt hlt,dec_ix hlt,cond_true,Bool.and_self]
   have e:dueL (ow st (curR rt nn st wy fc hops steps parts nm) fc) rt nn hops steps parts (d+1) i=oweN (ow st (curR rt nn st wy fc hops steps parts nm) fc) rt nn hops steps parts i++dueL (ow st (curR rt nn st wy fc hops steps parts nm) fc) rt nn hops steps parts d (i+1):=rfl
   rw [e]
   unfold oweN
   cases hs:(fs 4 (steps.getD i .nilp)==[])
   ·cases hk:kidOk rt nn hops i (fi 3 (steps.getD i .nilp))
    ·exact ih (i+1) f (by omega) (by omega)
    ·cases h0:(owedK st (curR rt nn st wy fc hops steps parts nm) i (fi 0 (parts.getD i .nilp)) fc==0)
     ·have hne:(owedK st (curR rt nn st wy fc hops steps parts nm) i (fi 0 (parts.getD i .nilp)) fc != 0)=true:=by rw [bne,h0];rfl
      have h0':(ow st (curR rt nn st wy fc hops steps parts nm) fc i (fi 0 (parts.getD i .nilp))==0)=false:=h0
      rw [hne]
      simp only [h0',cond_false,cond_true]
      refine .inr ?_
      cases h1k:(owedK st (curR rt nn st wy fc hops steps parts nm) i (fi 0 (parts.getD i .nilp)) fc==1)
      ·have h1':(ow st (curR rt nn st wy fc hops steps parts nm) fc i (fi 0 (parts.getD i .nilp))==1)=false:=h1k
       simp only [h1',cond_false]
       obtain ⟨mv',h⟩:=lp169b m n rt nn st wy n1 n2 n3 fc hops steps parts nm h1 l1 l2 l3 hl d (i+1) f false [noteD (ow st (curR rt nn st wy fc hops steps parts nm) fc i (fi 0 (parts.getD i .nilp))) rt nn false (hops++[hpD i (fi 3 (steps.getD i .nilp))]) [] 0] (by omega) (by omega) (by simp only [List.length_cons,List.length_nil];omega)
       exact ⟨mv',_,_,rfl,h⟩
      ·have h1':(ow st (curR rt nn st wy fc hops steps parts nm) fc i (fi 0 (parts.getD i .nilp))==1)=true:=h1k
       simp only [h1',cond_true]
       obtain ⟨mv',h⟩:=lp169b m n rt nn st wy n1 n2 n3 fc hops steps parts nm h1 l1 l2 l3 hl d (i+1) f false [noteD (ow st (curR rt nn st wy fc hops steps parts nm) fc i (fi 0 (parts.getD i .nilp))) rt nn false (hops++[hpD i (fi 3 (steps.getD i .nilp))]) (fs 4 (steps.getD i .nilp)) 0] (by omega) (by omega) (by simp only [List.length_cons,List.length_nil];omega)
       exact ⟨mv',_,_,rfl,h⟩
     ·have hne:(owedK st (curR rt nn st wy fc hops steps parts nm) i (fi 0 (parts.getD i .nilp)) fc != 0)=false:=by rw [bne,h0];rfl
      have h0':(ow st (curR rt nn st wy fc hops steps parts nm) fc i (fi 0 (parts.getD i .nilp))==0)=true:=h0
      have h1k:(owedK st (curR rt nn st wy fc hops steps parts nm) i (fi 0 (parts.getD i .nilp)) fc==1)=false:=by
       rw [beq_iff_eq] at h0
       rw [h0];rfl
      rw [hne,h1k]
      simp only [h0',cond_true]
      exact ih (i+1) f (by omega) (by omega)
   ·exact ih (i+1) f (by omega) (by omega)
def tellL(rt nn st wy:Int)(n1 fc:Bool)(hops steps parts:List D)(nm:List UInt8):List D:=bif tellOk rt nn st wy fc hops steps parts nm then [noteD (tellK st) rt nn n1 hops [] (tellW st wy)] else []
def ofL(rt nn st wy:Int)(n1 fc:Bool)(hops steps parts:List D)(nm:List UInt8):List D:=dueL (ow st (curR rt nn st wy fc hops steps parts nm) fc) rt nn hops steps parts steps.length 0++tellL rt nn st wy n1 fc hops steps parts nm
theorem dueL_le(kf:Int→Int→Int)(rt nn:Int)(hops steps parts:List D): ∀d i,(dueL kf rt nn hops steps parts d i).length≤d
 | 0,i=>by simp [dueL]
 | d+1,i=>by
  have:=dueL_le kf rt nn hops steps parts d (i+1)
  have h1:(oweN kf rt nn hops steps parts i).length≤1:=by
   unfold oweN
   cases (fs 4 (steps.getD i .nilp)==[]) <;> cases kidOk rt nn hops i (fi 3 (steps.getD i .nilp)) <;> cases (kf i (fi 0 (parts.getD i .nilp))==0) <;> simp
  unfold dueL
  rw [List.length_append];omega
theorem rn64(m n:Nat)(rt nn st wy:Int)(n1 n2 n3 fc:Bool)(hops steps parts:List D)(nm:List UInt8)(h1:n1=true→hops=[])(l1:hops.length≤1000000)(l2:steps.length≤1000000)(l3:parts.length≤1000000)(hl:steps.length≤parts.length)(hm:steps.length<m+40):
  (enterM Db (callN Db (m+1+40)) n c64 [.d (sagaD rt nn st wy n1 n2 n3 fc hops steps parts nm)] []).out=some [.sl noteSh (ofL rt nn st wy n1 fc hops steps parts nm).isEmpty (ofL rt nn st wy n1 fc hops steps parts nm)]:=by
 have g:((!n1||hops.isEmpty)&&(decide (hops.length≤1000000)&&(decide (steps.length≤1000000)&&decide (parts.length≤1000000))))=true:=by
  rw [decide_eq_true l1,decide_eq_true l2,decide_eq_true l3]
  cases n1 with
  | false=>rfl
  | true=>rw [h1 rfl];rfl
 have hc: ∀p,(enterM Db (callN Db (m+40)) (m+40) c169 [.yl 0,.ptr 3 0] (obA rt nn st wy n1 n2 n3 fc hops steps parts nm)).eval=some p→(callN Db (m+1+40) 169 [.yl 0,.ptr 3 0] (obA rt nn st wy n1 n2 n3 fc hops steps parts nm)).eval=some p:=fun p h=>by
  rw [show m+1+40=(m+40)+1 by omega,callN_succ (fn:=c169) rfl];exact h
 have hn:Db.con 169=none:=by kernel_rfl
 have hd:=dueL_le (ow st (curR rt nn st wy fc hops steps parts nm) fc) rt nn hops steps parts steps.length 0
 rcases lp169 m (m+40) rt nn st wy n1 n2 n3 fc hops steps parts nm h1 l1 l2 l3 hl steps.length 0 (m+40) (by omega) hm with ⟨he,h0⟩ | ⟨mv,x,l,h0,he⟩
 ·refine outM_rfn hn (hc _ ((x169 m (m+40) rt nn st wy n1 n2 n3 fc hops steps parts nm).trans he)) (hd64 (m+1) n rt nn st wy n1 n2 n3 fc hops steps parts nm) (rc64_call rt nn st wy n1 n2 n3 fc hops steps parts nm) ?_
  rw [x64a,g]
  unfold ofL tellL
  rw [h0]
  cases tellOk rt nn st wy fc hops steps parts nm <;> rfl
 ·rw [h0] at hd
  refine outM_rfn hn (hc _ ((x169 m (m+40) rt nn st wy n1 n2 n3 fc hops steps parts nm).trans he)) (hd64 (m+1) n rt nn st wy n1 n2 n3 fc hops steps parts nm) (rc64_call rt nn st wy n1 n2 n3 fc hops steps parts nm) ?_
  rw [x64b,g,decide_eq_true (show (x :: l).length+1≤4294967296 by omega)]
  unfold ofL tellL
  rw [h0]
  cases tellOk rt nn st wy fc hops steps parts nm
  ·simp only [cond_false,cond_true,List.append_nil];rfl
  ·rfl
def g64d:List D→Tree (List D)
 | [.agg [.int .i64 rt,.int .i64 nn,.sl e0h n1 hops,.str nm,.sl e0s _n2 steps,.int .i64 st,.int .i64 wy,.sl e0p _n3 parts,.bool fc]]=>match Sh.beq e0h hopSh&&Sh.beq e0s stepSh&&Sh.beq e0p partSh with
  | true=> .ite ((!n1||hops.isEmpty)&&(decide (hops.length≤1000000)&&(decide (steps.length≤1000000)&&(decide (parts.length≤1000000)&&decide (steps.length≤parts.length))))) (fun _=> .ret [.sl noteSh (ofL rt nn st wy n1 fc hops steps parts nm).isEmpty (ofL rt nn st wy n1 fc hops steps parts nm)]) (fun _=> .stuck)
  | false=> .stuck
 | _=> .stuck
theorem pure64d{P:Program}(hm:P.follows .mixedOrders=true)(h0:EnvOK P Db):PureOK P 64 g64d:=PureOK.run hm h0 fun ds rs h=>by
 unfold g64d at h
 split at h
 ·rename_i rt nn e0h n1 hops nm e0s n2 steps st wy e0p n3 parts fc
  split at h
  ·rename_i hb
   simp only [Bool.and_eq_true] at hb
   obtain ⟨⟨hb0,hb1⟩,hb2⟩:=hb
   have hb0:=Sh.beq_eq hb0
   have hb1:=Sh.beq_eq hb1
   have hb2:=Sh.beq_eq hb2
   subst hb0 hb1 hb2
   obtain ⟨hg,h'⟩:=eval_guard h
   clear h
   simp only [Bool.and_eq_true,decide_eq_true_eq] at hg
   cases h'
   exact ⟨(steps.length+1+40)+1,by rw [callN_succ (fn:=c64) rfl];exact rn64 steps.length (steps.length+41) rt nn st wy n1 n2 n3 fc hops steps parts nm (fun h=>by rw [h] at hg;exact List.isEmpty_iff.1 hg.1) hg.2.1 hg.2.2.1 hg.2.2.2.1 hg.2.2.2.2 (by omega)⟩
  ·cases h
 ·cases h
def Dc:Env:=Db.pureAt 64 false g64d
theorem okDc{P:Program}(hm:P.follows .mixedOrders=true)(h:EnvOK P Db):EnvOK P Dc:=h.pureAt (pure64d hm h)
def v27(og ep co:Int)(na nm' nb ns:Bool)(zas ms bs ss:List D)(rt nn st wy:Int)(n1 n2 n3 fc:Bool)(hops steps parts:List D)(nm:List UInt8)(i:Int):St:= { fr:=frame 150 [(3,V.ptr 256 0),(5,V.d (D.sl noteSh true [])),(6,V.d (D.int .i64 i))],ob:=[(192,HS og ep co na nm' nb ns zas ms bs ss),(256,bxS rt nn st wy n1 n2 n3 fc hops steps parts nm)] }
def w27(k:Nat)(og ep co:Int)(na nm' nb ns:Bool)(zas ms bs ss:List D)(rt nn st wy:Int)(n1 n2 n3 fc:Bool)(hops steps parts:List D)(nm:List UInt8)(mv:Bool)(out:List D)(i:Int):St:= { fr:=frame 150 [(3,V.ptr 256 0),(5,V.own k),(6,V.d (D.int .i64 i))],ob:=[(192,HS og ep co na nm' nb ns zas ms bs ss),(256,bxS rt nn st wy n1 n2 n3 fc hops steps parts nm),(k,.lst noteSh false mv false out)] }
def t27{α:Type}(s1 s3 s4 s5 s6 p1 p2 ic:Bool)(r0 r1 r4 r3:α):α:=bif s4 then bif s1 then bif p1 then r1 else bif ic then r4 else bif s6 then bif p1 then r4 else bif p2 then r4 else bif s3 then bif p1 then r4 else bif s3 then bif p2 then r3 else r0 else r0 else bif s3 then bif p2 then r3 else r0 else r0 else bif s3 then bif p1 then r4 else bif s3 then bif p2 then r3 else r0 else r0 else bif s3 then bif p2 then r3 else r0 else r0 else bif ic then r4 else bif s6 then bif p1 then r4 else bif p2 then r4 else bif s3 then bif p1 then r4 else bif s3 then bif p2 then r3 else r0 else r0 else bif s3 then bif p2 then r3 else r0 else r0 else bif s3 then bif p1 then r4 else bif s3 then bif p2 then r3 else r0 else r0 else bif s3 then bif p2 then r3 else r0 else r0 else bif s1 then bif p1 then r1 else bif s5 then bif ic then r4 else bif s6 then bif p1 then r4 else bif p2 then r4 else bif s3 then bif p1 then r4 else bif s3 then bif p2 then r3 else r0 else r0 else bif s3 then bif p2 then r3 else r0 else r0 else bif s3 then bif p1 then r4 else bif s3 then bif p2 then r3 else r0 else r0 else bif s3 then bif p2 then r3 else r0 else r0 else bif s6 then bif p1 then r4 else bif p2 then r4 else bif s3 then bif p1 then r4 else bif s3 then bif p2 then r3 else r0 else r0 else bif s3 then bif p2 then r3 else r0 else r0 else bif s3 then bif p1 then r4 else bif s3 then bif p2 then r3 else r0 else r0 else bif s3 then bif p2 then r3 else r0 else r0 else bif s5 then bif ic then r4 else bif s6 then bif p1 then r4 else bif p2 then r4 else bif s3 then bif p1 then r4 else bif s3 then bif p2 then r3 else r0 else r0 else bif s3 then bif p2 then r3 else r0 else r0 else bif s3 then bif p1 then r4 else bif s3 then bif p2 then r3 else r0 else r0 else bif s3 then bif p2 then r3 else r0 else r0 else bif s6 then bif p1 then r4 else bif p2 then r4 else bif s3 then bif p1 then r4 else bif s3 then bif p2 then r3 else r0 else r0 else bif s3 then bif p2 then r3 else r0 else r0 else bif s3 then bif p1 then r4 else bif s3 then bif p2 then r3 else r0 else r0 else bif s3 then bif p2 then r3 else r0 else r0
theorem x26(m n:Nat)(og ep co:Int)(na nm' nb ns:Bool)(zas ms bs ss:List D)(rt nn st wy:Int)(n1 n2 n3 fc:Bool)(hops steps parts:List D)(nm:List UInt8):Tree.out (enterM Dc (callN Dc (m+40)) n c26 [.d (stD og ep co na nm' nb ns zas ms bs ss),.d (sagaD rt nn st wy n1 n2 n3 fc hops steps parts nm)] [])=bif decide (steps.length≤1000000) then bif decide (parts.length≤1000000) then bif (bif mayOk rt nn st wy fc hops steps parts nm then (0:Int) else (230:Int)) != 0 then some [D.sl noteSh true []] else bif orgOfId rt nn hops != og then some [D.sl noteSh true []] else bif (!n1||List.isEmpty hops)&&(decide (hops.length≤1000000)&&(decide (steps.length≤1000000)&&(decide (parts.length≤1000000)&&decide (steps.length≤parts.length)))) then some [D.sl noteSh (List.isEmpty (ofL rt nn st wy n1 fc hops steps parts nm)) (ofL rt nn st wy n1 fc hops steps parts nm)] else none else none else none:=by kernel_rfl
theorem x27(m n:Nat)(og ep co:Int)(na nm' nb ns:Bool)(zas ms bs ss:List D)(rt nn st wy:Int)(n1 n2 n3 fc:Bool)(hops steps parts:List D)(nm:List UInt8):Tree.out (enterM Dc (callN Dc (m+40)) n c27 [.d (stD og ep co na nm' nb ns zas ms bs ss),.d (sagaD rt nn st wy n1 n2 n3 fc hops steps parts nm)] [])=bif (bif mayOk rt nn st wy fc hops steps parts nm then (0:Int) else (230:Int)) != 0 then some [D.sl noteSh true []] else bif orgOfId rt nn hops != og then some [D.sl noteSh true []] else Tree.out (resume Dc (callN Dc (m+40)) n n 0 c27 (v27 og ep co na nm' nb ns zas ms bs ss rt nn st wy n1 n2 n3 fc hops steps parts nm 0)):=by kernel_rfl
theorem y27(m n f:Nat)(og ep co:Int)(na nm' nb ns:Bool)(zas ms bs ss:List D)(rt nn st wy:Int)(n1 n2 n3 fc:Bool)(hops steps parts:List D)(nm:List UInt8)(i:Int):Tree.out (resume Dc (callN Dc (m+40)) n (f+1) 0 c27 (v27 og ep co na nm' nb ns zas ms bs ss rt nn st wy n1 n2 n3 fc hops steps parts nm i))=bif decide (i<(parts.length:Int)) then bif decide (0≤i∧i<(steps.length:Int)) then bif decide (hops.length≤1000000) then bif kidOk rt nn hops i (fi 3 (steps.getD i.toNat .nilp)) then bif decide (0≤i∧i<(steps.length:Int)) then bif fs 4 (steps.getD i.toNat .nilp)==[] then Tree.out (resume Dc (callN Dc (m+40)) n f 0 c27 (v27 og ep co na nm' nb ns zas ms bs ss rt nn st wy n1 n2 n3 fc hops steps parts nm (IntKind.wrap .i64 (i+1)))) else bif decide (0≤i∧i<(parts.length:Int)) then bif decide (0≤i∧i<(parts.length:Int)) then t27 (st==1) (st==3) (st==4) (st==5) (st==6) (fi 0 (parts.getD i.toNat .nilp)==1) (fi 0 (parts.getD i.toNat .nilp)==2) (i==curR rt nn st wy fc hops steps parts nm) (Tree.out (resume Dc (callN Dc (m+40)) n f 0 c27 (v27 og ep co na nm' nb ns zas ms bs ss rt nn st wy n1 n2 n3 fc hops steps parts nm (IntKind.wrap .i64 (i+1))))) (bif decide (0≤i∧i<(steps.length:Int)) then Tree.out (resume Dc (callN Dc (m+40)) n f 0 c27 (w27 6336 og ep co na nm' nb ns zas ms bs ss rt nn st wy n1 n2 n3 fc hops steps parts nm false [D.agg [D.int .i64 1,D.int .i64 rt,D.int .i64 nn,D.sl hopSh false (List.append hops [D.agg [D.int .i64 i,D.int .i64 (fi 3 (steps.getD i.toNat .nilp))]]),D.str (fs 4 (steps.getD i.toNat .nilp)),D.int .i64 0]] (IntKind.wrap .i64 (i+1)))) else none) (Tree.out (resume Dc (callN Dc (m+40)) n f 0 c27 (w27 8128 og ep co na nm' nb ns zas ms bs ss rt nn st wy n1 n2 n3 fc hops steps parts nm false [D.agg [D.int .i64 4,D.int .i64 rt,D.int .i64 nn,D.sl hopSh false (List.append hops [D.agg [D.int .i64 i,D.int .i64 (fi 3 (steps.getD i.toNat .nilp))]]),D.str [],D.int .i64 0]] (IntKind.wrap .i64 (i+1))))) (Tree.out (resume Dc (callN Dc (m+40)) n f 0 c27 (w27 8896 og ep co na nm' nb ns zas ms bs ss rt nn st wy n1 n2 n3 fc hops steps parts nm false [D.agg [D.int .i64 3,D.int .i64 rt,D.int .i64 nn,D.sl hopSh false (List.append hops [D.agg [D.int .i64 i,D.int .i64 (fi 3 (steps.getD i.toNat .nilp))]]),D.str [],D.int .i64 0]] (IntKind.wrap .i64 (i+1))))) else none else none else none else bif decide (0≤i∧i<(steps.length:Int)) then bif fs 4 (steps.getD i.toNat .nilp)==[] then Tree.out (resume Dc (callN Dc (m+40)) n f 0 c27 (v27 og ep co na nm' nb ns zas ms bs ss rt nn st wy n1 n2 n3 fc hops steps parts nm (IntKind.wrap .i64 (i+1)))) else Tree.out (resume Dc (callN Dc (m+40)) n f 0 c27 (v27 og ep co na nm' nb ns zas ms bs ss rt nn st wy n1 n2 n3 fc hops steps parts nm (IntKind.wrap .i64 (i+1)))) else none else none else none else bif tellOk rt nn st wy fc hops steps parts nm then some [D.sl noteSh false [D.agg [D.int .i64 (tellK st),D.int .i64 rt,D.int .i64 nn,D.sl hopSh n1 hops,D.str [],D.int .i64 (tellW st wy)]]] else some [D.sl noteSh true []]:=by kernel_rfl
theorem z27a(m n f:Nat)(og ep co:Int)(na nm' nb ns:Bool)(zas ms bs ss:List D)(rt nn st wy:Int)(n1 n2 n3 fc:Bool)(hops steps parts:List D)(nm:List UInt8)(mv:Bool)(out:List D)(i:Int):Tree.out (resume Dc (callN Dc (m+40)) n (f+1) 0 c27 (w27 6336 og ep co na nm' nb ns zas ms bs ss rt nn st wy n1 n2 n3 fc hops steps parts nm mv out i))=bif decide (i<(parts.length:Int)) then bif decide (0≤i∧i<(steps.length:Int)) then bif decide (hops.length≤1000000) then bif kidOk rt nn hops i (fi 3 (steps.getD i.toNat .nilp)) then bif decide (0≤i∧i<(steps.length:Int)) then bif fs 4 (steps.getD i.toNat .nilp)==[] then Tree.out (resume Dc (callN Dc (m+40)) n f 0 c27 (w27 6336 og ep co na nm' nb ns zas ms bs ss rt nn st wy n1 n2 n3 fc hops steps parts nm mv out (IntKind.wrap .i64 (i+1)))) else bif decide (0≤i∧i<(parts.length:Int)) then bif decide (0≤i∧i<(parts.length:Int)) then t27 (st==1) (st==3) (st==4) (st==5) (st==6) (fi 0 (parts.getD i.toNat .nilp)==1) (fi 0 (parts.getD i.toNat .nilp)==2) (i==curR rt nn st wy fc hops steps parts nm) (Tree.out (resume Dc (callN Dc (m+40)) n f 0 c27 (w27 6336 og ep co na nm' nb ns zas ms bs ss rt nn st wy n1 n2 n3 fc hops steps parts nm mv out (IntKind.wrap .i64 (i+1))))) (bif decide (0≤i∧i<(steps.length:Int)) then bif decide (out.length+1≤4294967296) then Tree.out (resume Dc (callN Dc (m+40)) n f 0 c27 (w27 6336 og ep co na nm' nb ns zas ms bs ss rt nn st wy n1 n2 n3 fc hops steps parts nm (mv||true) (List.append out [D.agg [D.int .i64 1,D.int .i64 rt,D.int .i64 nn,D.sl hopSh false (List.append hops [D.agg [D.int .i64 i,D.int .i64 (fi 3 (steps.getD i.toNat .nilp))]]),D.str (fs 4 (steps.getD i.toNat .nilp)),D.int .i64 0]]) (IntKind.wrap .i64 (i+1)))) else none else none) (bif decide (out.length+1≤4294967296) then Tree.out (resume Dc (callN Dc (m+40)) n f 0 c27 (w27 6336 og ep co na nm' nb ns zas ms bs ss rt nn st wy n1 n2 n3 fc hops steps parts nm true (List.append out [D.agg [D.int .i64 4,D.int .i64 rt,D.int .i64 nn,D.sl hopSh false (List.append hops [D.agg [D.int .i64 i,D.int .i64 (fi 3 (steps.getD i.toNat .nilp))]]),D.str [],D.int .i64 0]]) (IntKind.wrap .i64 (i+1)))) else none) (bif decide (out.length+1≤4294967296) then Tree.out (resume Dc (callN Dc (m+40)) n f 0 c27 (w27 6336 og ep co na nm' nb ns zas ms bs ss rt nn st wy n1 n2 n3 fc hops steps parts nm true (List.append out [D.agg [D.int .i64 3,D.int .i64 rt,D.int .i64 nn,D.sl hopSh false (List.append hops [D.agg [D.int .i64 i,D.int .i64 (fi 3 (steps.getD i.toNat .nilp))]]),D.str [],D.int .i64 0]]) (IntKind.wrap .i64 (i+1)))) else none) else none else none else none else bif decide (0≤i∧i<(steps.length:Int)) then bif fs 4 (steps.getD i.toNat .nilp)==[] then Tree.out (resume Dc (callN Dc (m+40)) n f 0 c27 (w27 6336 og ep co na nm' nb ns zas ms bs ss rt nn st wy n1 n2 n3 fc hops steps parts nm mv out (IntKind.wrap .i64 (i+1)))) else Tree.out (resume Dc (callN Dc (m+40)) n f 0 c27 (w27 6336 og ep co na nm' nb ns zas ms bs ss rt nn st wy n1 n2 n3 fc hops steps parts nm mv out (IntKind.wrap .i64 (i+1)))) else none else none else none else bif tellOk rt nn st wy fc hops steps parts nm then bif decide (out.length+1≤4294967296) then some [D.sl noteSh false (List.append out [D.agg [D.int .i64 (tellK st),D.int .i64 rt,D.int .i64 nn,D.sl hopSh n1 hops,D.str [],D.int .i64 (tellW st wy)]])] else none else some [D.sl noteSh false out]:=by kernel_rfl
theorem z27b(m n f:Nat)(og ep co:Int)(na nm' nb ns:Bool)(zas ms bs ss:List D)(rt nn st wy:Int)(n1 n2 n3 fc:Bool)(hops steps parts:List D)(nm:List UInt8)(mv:Bool)(out:List D)(i:Int):Tree.out (resume Dc (callN Dc (m+40)) n (f+1) 0 c27 (w27 8128 og ep co na nm' nb ns zas ms bs ss rt nn st wy n1 n2 n3 fc hops steps parts nm mv out i))=bif decide (i<(parts.length:Int)) then bif decide (0≤i∧i<(steps.length:Int)) then bif decide (hops.length≤1000000) then bif kidOk rt nn hops i (fi 3 (steps.getD i.toNat .nilp)) then bif decide (0≤i∧i<(steps.length:Int)) then bif fs 4 (steps.getD i.toNat .nilp)==[] then Tree.out (resume Dc (callN Dc (m+40)) n f 0 c27 (w27 8128 og ep co na nm' nb ns zas ms bs ss rt nn st wy n1 n2 n3 fc hops steps parts nm mv out (IntKind.wrap .i64 (i+1)))) else bif decide (0≤i∧i<(parts.length:Int)) then bif decide (0≤i∧i<(parts.length:Int)) then t27 (st==1) (st==3) (st==4) (st==5) (st==6) (fi 0 (parts.getD i.toNat .nilp)==1) (fi 0 (parts.getD i.toNat .nilp)==2) (i==curR rt nn st wy fc hops steps parts nm) (Tree.out (resume Dc (callN Dc (m+40)) n f 0 c27 (w27 8128 og ep co na nm' nb ns zas ms bs ss rt nn st wy n1 n2 n3 fc hops steps parts nm mv out (IntKind.wrap .i64 (i+1))))) (bif decide (0≤i∧i<(steps.length:Int)) then bif decide (out.length+1≤4294967296) then Tree.out (resume Dc (callN Dc (m+40)) n f 0 c27 (w27 8128 og ep co na nm' nb ns zas ms bs ss rt nn st wy n1 n2 n3 fc hops steps parts nm (mv||true) (List.append out [D.agg [D.int .i64 1,D.int .i64 rt,D.int .i64 nn,D.sl hopSh false (List.append hops [D.agg [D.int .i64 i,D.int .i64 (fi 3 (steps.getD i.toNat .nilp))]]),D.str (fs 4 (steps.getD i.toNat .nilp)),D.int .i64 0]]) (IntKind.wrap .i64 (i+1)))) else none else none) (bif decide (out.length+1≤4294967296) then Tree.out (resume Dc (callN Dc (m+40)) n f 0 c27 (w27 8128 og ep co na nm' nb ns zas ms bs ss rt nn st wy n1 n2 n3 fc hops steps parts nm true (List.append out [D.agg [D.int .i64 4,D.int .i64 rt,D.int .i64 nn,D.sl hopSh false (List.append hops [D.agg [D.int .i64 i,D.int .i64 (fi 3 (steps.getD i.toNat .nilp))]]),D.str [],D.int .i64 0]]) (IntKind.wrap .i64 (i+1)))) else none) (bif decide (out.length+1≤4294967296) then Tree.out (resume Dc (callN Dc (m+40)) n f 0 c27 (w27 8128 og ep co na nm' nb ns zas ms bs ss rt nn st wy n1 n2 n3 fc hops steps parts nm true (List.append out [D.agg [D.int .i64 3,D.int .i64 rt,D.int .i64 nn,D.sl hopSh false (List.append hops [D.agg [D.int .i64 i,D.int .i64 (fi 3 (steps.getD i.toNat .nilp))]]),D.str [],D.int .i64 0]]) (IntKind.wrap .i64 (i+1)))) else none) else none else none else none else bif decide (0≤i∧i<(steps.length:Int)) then bif fs 4 (steps.getD i.toNat .nilp)==[] then Tree.out (resume Dc (callN Dc (m+40)) n f 0 c27 (w27 8128 og ep co na nm' nb ns zas ms bs ss rt nn st wy n1 n2 n3 fc hops steps parts nm mv out (IntKind.wrap .i64 (i+1)))) else Tree.out (resume Dc (callN Dc (m+40)) n f 0 c27 (w27 8128 og ep co na nm' nb ns zas ms bs ss rt nn st wy n1 n2 n3 fc hops steps parts nm mv out (IntKind.wrap .i64 (i+1)))) else none else none else none else bif tellOk rt nn st wy fc hops steps parts nm then bif decide (out.length+1≤4294967296) then some [D.sl noteSh false (List.append out [D.agg [D.int .i64 (tellK st),D.int .i64 rt,D.int .i64 nn,D.sl hopSh n1 hops,D.str [],D.int .i64 (tellW st wy)]])] else none else some [D.sl noteSh false out]:=by kernel_rfl
theorem z27c(m n f:Nat)(og ep co:Int)(na nm' nb ns:Bool)(zas ms bs ss:List D)(rt nn st wy:Int)(n1 n2 n3 fc:Bool)(hops steps parts:List D)(nm:List UInt8)(mv:Bool)(out:List D)(i:Int):Tree.out (resume Dc (callN Dc (m+40)) n (f+1) 0 c27 (w27 8896 og ep co na nm' nb ns zas ms bs ss rt nn st wy n1 n2 n3 fc hops steps parts nm mv out i))=bif decide (i<(parts.length:Int)) then bif decide (0≤i∧i<(steps.length:Int)) then bif decide (hops.length≤1000000) then bif kidOk rt nn hops i (fi 3 (steps.getD i.toNat .nilp)) then bif decide (0≤i∧i<(steps.length:Int)) then bif fs 4 (steps.getD i.toNat .nilp)==[] then Tree.out (resume Dc (callN Dc (m+40)) n f 0 c27 (w27 8896 og ep co na nm' nb ns zas ms bs ss rt nn st wy n1 n2 n3 fc hops steps parts nm mv out (IntKind.wrap .i64 (i+1)))) else bif decide (0≤i∧i<(parts.length:Int)) then bif decide (0≤i∧i<(parts.length:Int)) then t27 (st==1) (st==3) (st==4) (st==5) (st==6) (fi 0 (parts.getD i.toNat .nilp)==1) (fi 0 (parts.getD i.toNat .nilp)==2) (i==curR rt nn st wy fc hops steps parts nm) (Tree.out (resume Dc (callN Dc (m+40)) n f 0 c27 (w27 8896 og ep co na nm' nb ns zas ms bs ss rt nn st wy n1 n2 n3 fc hops steps parts nm mv out (IntKind.wrap .i64 (i+1))))) (bif decide (0≤i∧i<(steps.length:Int)) then bif decide (out.length+1≤4294967296) then Tree.out (resume Dc (callN Dc (m+40)) n f 0 c27 (w27 8896 og ep co na nm' nb ns zas ms bs ss rt nn st wy n1 n2 n3 fc hops steps parts nm (mv||true) (List.append out [D.agg [D.int .i64 1,D.int .i64 rt,D.int .i64 nn,D.sl hopSh false (List.append hops [D.agg [D.int .i64 i,D.int .i64 (fi 3 (steps.getD i.toNat .nilp))]]),D.str (fs 4 (steps.getD i.toNat .nilp)),D.int .i64 0]]) (IntKind.wrap .i64 (i+1)))) else none else none) (bif decide (out.length+1≤4294967296) then Tree.out (resume Dc (callN Dc (m+40)) n f 0 c27 (w27 8896 og ep co na nm' nb ns zas ms bs ss rt nn st wy n1 n2 n3 fc hops steps parts nm true (List.append out [D.agg [D.int .i64 4,D.int .i64 rt,D.int .i64 nn,D.sl hopSh false (List.append hops [D.agg [D.int .i64 i,D.int .i64 (fi 3 (steps.getD i.toNat .nilp))]]),D.str [],D.int .i64 0]]) (IntKind.wrap .i64 (i+1)))) else none) (bif decide (out.length+1≤4294967296) then Tree.out (resume Dc (callN Dc (m+40)) n f 0 c27 (w27 8896 og ep co na nm' nb ns zas ms bs ss rt nn st wy n1 n2 n3 fc hops steps parts nm true (List.append out [D.agg [D.int .i64 3,D.int .i64 rt,D.int .i64 nn,D.sl hopSh false (List.append hops [D.agg [D.int .i64 i,D.int .i64 (fi 3 (steps.getD i.toNat .nilp))]]),D.str [],D.int .i64 0]]) (IntKind.wrap .i64 (i+1)))) else none) else none else none else none else bif decide (0≤i∧i<(steps.length:Int)) then bif fs 4 (steps.getD i.toNat .nilp)==[] then Tree.out (resume Dc (callN Dc (m+40)) n f 0 c27 (w27 8896 og ep co na nm' nb ns zas ms bs ss rt nn st wy n1 n2 n3 fc hops steps parts nm mv out (IntKind.wrap .i64 (i+1)))) else Tree.out (resume Dc (callN Dc (m+40)) n f 0 c27 (w27 8896 og ep co na nm' nb ns zas ms bs ss rt nn st wy n1 n2 n3 fc hops steps parts nm mv out (IntKind.wrap .i64 (i+1)))) else none else none else none else bif tellOk rt nn st wy fc hops steps parts nm then bif decide (out.length+1≤4294967296) then some [D.sl noteSh false (List.append out [D.agg [D.int .i64 (tellK st),D.int .i64 rt,D.int .i64 nn,D.sl hopSh n1 hops,D.str [],D.int .i64 (tellW st wy)]])] else none else some [D.sl noteSh false out]:=by kernel_rfl
def refK(st c i p:Int):Int:=
 bif st==1&&p==1 then 1 else bif (st==4||st==5)&&i==c||(st==6&&(p==1||p==2)||st==3&&p==1) then 4 else bif st==3&&p==2 then 3 else 0
theorem both12{p:Int}: ¬((p==1)=true∧(p==2)=true):=by
 simp only [beq_iff_eq];omega
theorem ref_owed{rt nn st wy:Int}{fc:Bool}{hops steps parts:List D}{nm:List UInt8}(hm:mayOk rt nn st wy fc hops steps parts nm=true){i:Nat}(_hi:i<parts.length):
  refK st (cur st parts) i (fi 0 (parts.getD i .nilp))=owedK st (cur st parts) i (fi 0 (parts.getD i .nilp)) fc:=by
 have hs:fi 0 (parts.getD i .nilp)=stAt parts i:=rfl
 by_cases h7:st=7
 ·subst h7;rfl
 ·have hg:=mayOk_good hm h7
  have hf:=hg.fit'
  have h12:=both12 (p:=stAt parts i)
  rw [hs]
  cases hf with
  | running hf hw hr=>unfold refK owedK;cases (stAt parts i==1) <;> cases (stAt parts i==2) <;> rfl
  | held hf hw hh ha=>rfl
  | committedF hf hw ha=>
   subst hf
   unfold refK owedK
   revert h12
   cases (stAt parts i==1) <;> cases (stAt parts i==2) <;> intro h12 <;> first | rfl | exact absurd ⟨rfl,rfl⟩ h12
  | committed hf hw ha=>
   subst hf
   have h1:(stAt parts i==1)=false:=by
    rw [beq_eq_false_iff_ne]
    rcases ha i _hi with h | ⟨-,h⟩ <;> omega
   unfold refK owedK
   rw [h1]
   cases (stAt parts i==2) <;> rfl
  | undoing hf hw ha=>
   unfold refK owedK
   by_cases hc:((i:Int)==cur 4 parts)=true
   ·rw [hc]
    have hc':(i:Int)=cur 4 parts:=by simpa using hc
    have h5:cur 4 parts=cur 5 parts:=cur4 parts
    obtain ⟨-,h,-⟩:=cur5_spec (parts:=parts) (by omega)
    rw [show (cur 5 parts).toNat=i by omega] at h
    rcases h with h | h <;> rw [h] <;> rfl
   ·rw [Bool.not_eq_true] at hc
    rw [hc];cases (stAt parts i==1) <;> cases (stAt parts i==2) <;> rfl
  | stuck hf hw ha hc0 hl h5=>
   unfold refK owedK
   by_cases hc:((i:Int)==cur 5 parts)=true
   ·rw [hc]
    have hc':(i:Int)=cur 5 parts:=by simpa using hc
    obtain ⟨-,h,-⟩:=cur5_spec (parts:=parts) (by omega)
    rw [show (cur 5 parts).toNat=i by omega] at h
    rcases h with h | h <;> rw [h] <;> rfl
   ·rw [Bool.not_eq_true] at hc
    rw [hc];cases (stAt parts i==1) <;> cases (stAt parts i==2) <;> rfl
  | compensatedF hf hw ha=>unfold refK owedK;cases (stAt parts i==1) <;> cases (stAt parts i==2) <;> rfl
  | compensated hf hw ha=>unfold refK owedK;cases (stAt parts i==1) <;> cases (stAt parts i==2) <;> rfl
theorem tr27{α:Type}(s1 s3 s4 s5 s6 p1 p2 ic:Bool)(r0 r1 r4 r3:α):t27 s1 s3 s4 s5 s6 p1 p2 ic r0 r1 r4 r3=
  bif s1&&p1 then r1 else bif (s4||s5)&&ic||(s6&&(p1||p2)||s3&&p1) then r4 else bif s3&&p2 then r3 else r0:=by
 unfold t27
 cases s4 <;> cases s5 <;> cases s1 <;> cases p1 <;> cases s6 <;> cases s3 <;> cases p2 <;> cases ic <;> rfl
def rk(st c:Int):Int→Int→Int:=fun i p=>refK st c i p
theorem out_app(a b c:List D)(x:D):a++[x]++b++c=a++([x]++b)++c:=by rw [List.append_assoc a [x] b]
theorem lp27a(m n:Nat)(og ep co:Int)(na nm' nb ns:Bool)(zas ms bs ss:List D)(rt nn st wy:Int)(n1 n2 n3 fc:Bool)(hops steps parts:List D)(nm:List UInt8)(l1:hops.length≤1000000)(l2:steps.length≤1000000)(hl:parts.length=steps.length):
  ∀d i f mv out,i+d=parts.length→d<f→out.length+d≤2000000→(resume Dc (callN Dc (m+40)) n f 0 c27 (w27 6336 og ep co na nm' nb ns zas ms bs ss rt nn st wy n1 n2 n3 fc hops steps parts nm mv out (i:Nat))).out=some [.sl noteSh false (out++dueL (rk st (curR rt nn st wy fc hops steps parts nm)) rt nn hops steps parts d i++tellL rt nn st wy n1 fc hops steps parts nm)]:=by
 intro d
 induction d with
 | zero=>
  intro i f mv out hi hf ho
  cases f with
  | zero=>omega
  | succ f=>
   have:i=parts.length:=by omega
   subst this
   rw [z27a]
   refine (cf (dec_end _)).trans ?_
   rw [decide_eq_true (show out.length+1≤4294967296 by omega)]
   unfold dueL tellL
   rw [List.append_nil]
   cases tellOk rt nn st wy fc hops steps parts nm
   ·simp only [cond_false,List.append_nil]
   ·rfl
 | succ d ih=>
  intro i f mv out hi hf ho
  cases f with
  | zero=>omega
  | succ f=>
   have hlt:i<parts.length:=by omega
   have h3:parts.length≤1000000:=by omega
   have hp:decide (0≤(i:Int)∧(i:Int)<(steps.length:Int))=true:=decide_eq_true (by omega)
   rw [z27a,wrap_up hlt h3,hp,decide_eq_true l1]
   simp only [Int.toNat_natCast,dec_lt hlt,dec_ix hlt,cond_true,decide_eq_true (show out.length+1≤4294967296 by omega)]
   have ih0:=fun mv=>ih (i+1) f mv out (by omega) (by omega) (by omega)
   have ihx:=fun mv x=>(ih (i+1) f mv (out++[x]) (by omega) (by omega) (by simp only [List.length_append,List.length_cons,List.length_nil];omega)).trans (by rw [out_app])
   have e:dueL (rk st (curR rt nn st wy fc hops steps parts nm)) rt nn hops steps parts (d+1) i=oweN (rk st (curR rt nn st wy fc hops steps parts nm)) rt nn hops steps parts i++dueL (rk st (curR rt nn st wy fc hops steps parts nm)) rt nn hops steps parts d (i+1):=rfl
   rw [e]
   unfold oweN
   cases hs:(fs 4 (steps.getD i .nilp)==[])
   ·cases hk:kidOk rt nn hops i (fi 3 (steps.getD i .nilp))
    ·exact ih0 _
    ·have ek:rk st (curR rt nn st wy fc hops steps parts nm) i (fi 0 (parts.getD i .nilp))=refK st (curR rt nn st wy fc hops steps parts nm) i (fi 0 (parts.getD i .nilp)):=rfl
     rw [ek]
     unfold refK
     refine (tr27 (st==1) (st==3) (st==4) (st==5) (st==6) ((fi 0 (parts.getD i .nilp))==1) ((fi 0 (parts.getD i .nilp))==2) ((i:Int)==(curR rt nn st wy fc hops steps parts nm)) _ _ _ _).trans ?_
     clear ih
     generalize (st==1&&(fi 0 (parts.getD i .nilp))==1)=A
     generalize ((st==4||st==5)&&(i:Int)==(curR rt nn st wy fc hops steps parts nm)||(st==6&&((fi 0 (parts.getD i .nilp))==1||(fi 0 (parts.getD i .nilp))==2)||st==3&&(fi 0 (parts.getD i .nilp))==1))=B
     generalize (st==3&&(fi 0 (parts.getD i .nilp))==2)=G
     cases A
     ·cases B
      ·cases G
       ·exact ih0 _
       ·exact ihx _ (noteD 3 rt nn false (hops++[hpD i (fi 3 (steps.getD i .nilp))]) [] 0)
      ·exact ihx _ (noteD 4 rt nn false (hops++[hpD i (fi 3 (steps.getD i .nilp))]) [] 0)
     ·exact ihx _ (noteD 1 rt nn false (hops++[hpD i (fi 3 (steps.getD i .nilp))]) (fs 4 (steps.getD i .nilp)) 0)
   ·cases hk:kidOk rt nn hops i (fi 3 (steps.getD i .nilp)) <;> exact ih0 _
theorem lp27b(m n:Nat)(og ep co:Int)(na nm' nb ns:Bool)(zas ms bs ss:List D)(rt nn st wy:Int)(n1 n2 n3 fc:Bool)(hops steps parts:List D)(nm:List UInt8)(l1:hops.length≤1000000)(l2:steps.length≤1000000)(hl:parts.length=steps.length):
  ∀d i f mv out,i+d=parts.length→d<f→out.length+d≤2000000→(resume Dc (callN Dc (m+40)) n f 0 c27 (w27 8128 og ep co na nm' nb ns zas ms bs ss rt nn st wy n1 n2 n3 fc hops steps parts nm mv out (i:Nat))).out=some [.sl noteSh false (out++dueL (rk st (curR rt nn st wy fc hops steps parts nm)) rt nn hops steps parts d i++tellL rt nn st wy n1 fc hops steps parts nm)]:=by
 intro d
 induction d with
 | zero=>
  intro i f mv out hi hf ho
  cases f with
  | zero=>omega
  | succ f=>
   have:i=parts.length:=by omega
   subst this
   rw [z27b]
   refine (cf (dec_end _)).trans ?_
   rw [decide_eq_true (show out.length+1≤4294967296 by omega)]
   unfold dueL tellL
   rw [List.append_nil]
   cases tellOk rt nn st wy fc hops steps parts nm
   ·simp only [cond_false,List.append_nil]
   ·rfl
 | succ d ih=>
  intro i f mv out hi hf ho
  cases f with
  | zero=>omega
  | succ f=>
   have hlt:i<parts.length:=by omega
   have h3:parts.length≤1000000:=by omega
   have hp:decide (0≤(i:Int)∧(i:Int)<(steps.length:Int))=true:=decide_eq_true (by omega)
   rw [z27b,wrap_up hlt h3,hp,decide_eq_true l1]
   simp only [Int.toNat_natCast,dec_lt hlt,dec_ix hlt,cond_true,decide_eq_true (show out.length+1≤4294967296 by omega)]
   have ih0:=fun mv=>ih (i+1) f mv out (by omega) (by omega) (by omega)
   have ihx:=fun mv x=>(ih (i+1) f mv (out++[x]) (by omega) (by omega) (by simp only [List.length_append,List.length_cons,List.length_nil];omega)).trans (by rw [out_app])
   have e:dueL (rk st (curR rt nn st wy fc hops steps parts nm)) rt nn hops steps parts (d+1) i=oweN (rk st (curR rt nn st wy fc hops steps parts nm)) rt nn hops steps parts i++dueL (rk st (curR rt nn st wy fc hops steps parts nm)) rt nn hops steps parts d (i+1):=rfl
   rw [e]
   unfold oweN
   cases hs:(fs 4 (steps.getD i .nilp)==[])
   ·cases hk:kidOk rt nn hops i (fi 3 (steps.getD i .nilp))
    ·exact ih0 _
    ·have ek:rk st (curR rt nn st wy fc hops steps parts nm) i (fi 0 (parts.getD i .nilp))=refK st (curR rt nn st wy fc hops steps parts nm) i (fi 0 (parts.getD i .nilp)):=rfl
     rw [ek]
     unfold refK
     refine (tr27 (st==1) (st==3) (st==4) (st==5) (st==6) ((fi 0 (parts.getD i .nilp))==1) ((fi 0 (parts.getD i .nilp))==2) ((i:Int)==(curR rt nn st wy fc hops steps parts nm)) _ _ _ _).trans ?_
     clear ih
     generalize (st==1&&(fi 0 (parts.getD i .nilp))==1)=A
     generalize ((st==4||st==5)&&(i:Int)==(curR rt nn st wy fc hops steps parts nm)||(st==6&&((fi 0 (parts.getD i .nilp))==1||(fi 0 (parts.getD i .nilp))==2)||st==3&&(fi 0 (parts.getD i .nilp))==1))=B
     generalize (st==3&&(fi 0 (parts.getD i .nilp))==2)=G
     cases A
     ·cases B
      ·cases G
       ·exact ih0 _
       ·exact ihx _ (noteD 3 rt nn false (hops++[hpD i (fi 3 (steps.getD i .nilp))]) [] 0)
      ·exact ihx _ (noteD 4 rt nn false (hops++[hpD i (fi 3 (steps.getD i .nilp))]) [] 0)
     ·exact ihx _ (noteD 1 rt nn false (hops++[hpD i (fi 3 (steps.getD i .nilp))]) (fs 4 (steps.getD i .nilp)) 0)
   ·cases hk:kidOk rt nn hops i (fi 3 (steps.getD i .nilp)) <;> exact ih0 _
theorem lp27c(m n:Nat)(og ep co:Int)(na nm' nb ns:Bool)(zas ms bs ss:List D)(rt nn st wy:Int)(n1 n2 n3 fc:Bool)(hops steps parts:List D)(nm:List UInt8)(l1:hops.length≤1000000)(l2:steps.length≤1000000)(hl:parts.length=steps.length):
  ∀d i f mv out,i+d=parts.length→d<f→out.length+d≤2000000→(resume Dc (callN Dc (m+40)) n f 0 c27 (w27 8896 og ep co na nm' nb ns zas ms bs ss rt nn st wy n1 n2 n3 fc hops steps parts nm mv out (i:Nat))).out=some [.sl noteSh false (out++dueL (rk st (curR rt nn st wy fc hops steps parts nm)) rt nn hops steps parts d i++tellL rt nn st wy n1 fc hops steps parts nm)]:=by
 intro d
 induction d with
 | zero=>
  intro i f mv out hi hf ho
  cases f with
  | zero=>omega
  | succ f=>
   have:i=parts.length:=by omega
   subst this
   rw [z27c]
   refine (cf (dec_end _)).trans ?_
   rw [decide_eq_true (show out.length+1≤4294967296 by omega)]
   unfold dueL tellL
   rw [List.append_nil]
   cases tellOk rt nn st wy fc hops steps parts nm
   ·simp only [cond_false,List.append_nil]
   ·rfl
 | succ d ih=>
  intro i f mv out hi hf ho
  cases f with
  | zero=>omega
  | succ f=>
   have hlt:i<parts.length:=by omega
   have h3:parts.length≤1000000:=by omega
   have hp:decide (0≤(i:Int)∧(i:Int)<(steps.length:Int))=true:=decide_eq_true (by omega)
   rw [z27c,wrap_up hlt h3,hp,decide_eq_true l1]
   simp only [Int.toNat_natCast,dec_lt hlt,dec_ix hlt,cond_true,decide_eq_true (show out.length+1≤4294967296 by omega)]
   have ih0:=fun mv=>ih (i+1) f mv out (by omega) (by omega) (by omega)
   have ihx:=fun mv x=>(ih (i+1) f mv (out++[x]) (by omega) (by omega) (by simp only [List.length_append,List.length_cons,List.length_nil];omega)).trans (by rw [out_app])
   have e:dueL (rk st (curR rt nn st wy fc hops steps parts nm)) rt nn hops steps parts (d+1) i=oweN (rk st (curR rt nn st wy fc hops steps parts nm)) rt nn hops steps parts i++dueL (rk st (curR rt nn st wy fc hops steps parts nm)) rt nn hops steps parts d (i+1):=rfl
   rw [e]
   unfold oweN
   cases hs:(fs 4 (steps.getD i .nilp)==[])
   ·cases hk:kidOk rt nn hops i (fi 3 (steps.getD i .nilp))
    ·exact ih0 _
    ·have ek:rk st (curR rt nn st wy fc hops steps parts nm) i (fi 0 (parts.getD i .nilp))=refK st (curR rt nn st wy fc hops steps parts nm) i (fi 0 (parts.getD i .nilp)):=rfl
     rw [ek]
     unfold refK
     refine (tr27 (st==1) (st==3) (st==4) (st==5) (st==6) ((fi 0 (parts.getD i .nilp))==1) ((fi 0 (parts.getD i .nilp))==2) ((i:Int)==(curR rt nn st wy fc hops steps parts nm)) _ _ _ _).trans ?_
     clear ih
     generalize (st==1&&(fi 0 (parts.getD i .nilp))==1)=A
     generalize ((st==4||st==5)&&(i:Int)==(curR rt nn st wy fc hops steps parts nm)||(st==6&&((fi 0 (parts.getD i .nilp))==1||(fi 0 (parts.getD i .nilp))==2)||st==3&&(fi 0 (parts.getD i .nilp))==1))=B
     generalize (st==3&&(fi 0 (parts.getD i .nilp))==2)=G
     cases A
     ·cases B
      ·cases G
       ·exact ih0 _
       ·exact ihx _ (noteD 3 rt nn false (hops++[hpD i (fi 3 (steps.getD i .nilp))]) [] 0)
      ·exact ihx _ (noteD 4 rt nn false (hops++[hpD i (fi 3 (steps.getD i .nilp))]) [] 0)
     ·exact ihx _ (noteD 1 rt nn false (hops++[hpD i (fi 3 (steps.getD i .nilp))]) (fs 4 (steps.getD i .nilp)) 0)
   ·cases hk:kidOk rt nn hops i (fi 3 (steps.getD i .nilp)) <;> exact ih0 _
theorem lp27(m n:Nat)(og ep co:Int)(na nm' nb ns:Bool)(zas ms bs ss:List D)(rt nn st wy:Int)(n1 n2 n3 fc:Bool)(hops steps parts:List D)(nm:List UInt8)(l1:hops.length≤1000000)(l2:steps.length≤1000000)(hl:parts.length=steps.length):
  ∀d i f,i+d=parts.length→d<f→(resume Dc (callN Dc (m+40)) n f 0 c27 (v27 og ep co na nm' nb ns zas ms bs ss rt nn st wy n1 n2 n3 fc hops steps parts nm (i:Nat))).out=some [.sl noteSh (dueL (rk st (curR rt nn st wy fc hops steps parts nm)) rt nn hops steps parts d i++tellL rt nn st wy n1 fc hops steps parts nm).isEmpty (dueL (rk st (curR rt nn st wy fc hops steps parts nm)) rt nn hops steps parts d i++tellL rt nn st wy n1 fc hops steps parts nm)]:=by
 intro d
 induction d with
 | zero=>
  intro i f hi hf
  cases f with
  | zero=>omega
  | succ f=>
   have:i=parts.length:=by omega
   subst this
   rw [y27]
   refine (cf (dec_end _)).trans ?_
   unfold dueL tellL
   cases tellOk rt nn st wy fc hops steps parts nm <;> rfl
 | succ d ih=>
  intro i f hi hf
  cases f with
  | zero=>omega
  | succ f=>
   have hlt:i<parts.length:=by omega
   have h3:parts.length≤1000000:=by omega
   have hp:decide (0≤(i:Int)∧(i:Int)<(steps.length:Int))=true:=decide_eq_true (by omega)
   rw [y27,wrap_up hlt h3,hp,decide_eq_true l1]
   simp only [Int.toNat_natCast,dec_lt hlt,dec_ix hlt,cond_true]
   have ih0:=ih (i+1) f (by omega) (by omega)
   have e:dueL (rk st (curR rt nn st wy fc hops steps parts nm)) rt nn hops steps parts (d+1) i=oweN (rk st (curR rt nn st wy fc hops steps parts nm)) rt nn hops steps parts i++dueL (rk st (curR rt nn st wy fc hops steps parts nm)) rt nn hops steps parts d (i+1):=rfl
   rw [e]
   unfold oweN
   cases hs:(fs 4 (steps.getD i .nilp)==[])
   ·cases hk:kidOk rt nn hops i (fi 3 (steps.getD i .nilp))
    ·exact ih0
    ·have ek:rk st (curR rt nn st wy fc hops steps parts nm) i (fi 0 (parts.getD i .nilp))=refK st (curR rt nn st wy fc hops steps parts nm) i (fi 0 (parts.getD i .nilp)):=rfl
     rw [ek]
     unfold refK
     refine (tr27 (st==1) (st==3) (st==4) (st==5) (st==6) ((fi 0 (parts.getD i .nilp))==1) ((fi 0 (parts.getD i .nilp))==2) ((i:Int)==(curR rt nn st wy fc hops steps parts nm)) _ _ _ _).trans ?_
     clear ih
     generalize (st==1&&(fi 0 (parts.getD i .nilp))==1)=A
     generalize ((st==4||st==5)&&(i:Int)==(curR rt nn st wy fc hops steps parts nm)||(st==6&&((fi 0 (parts.getD i .nilp))==1||(fi 0 (parts.getD i .nilp))==2)||st==3&&(fi 0 (parts.getD i .nilp))==1))=B
     generalize (st==3&&(fi 0 (parts.getD i .nilp))==2)=G
     cases A
     ·cases B
      ·cases G
       ·exact ih0
       ·exact lp27c m n og ep co na nm' nb ns zas ms bs ss rt nn st wy n1 n2 n3 fc hops steps parts nm l1 l2 hl d (i+1) f false [noteD 3 rt nn false (hops++[hpD i (fi 3 (steps.getD i .nilp))]) [] 0] (by omega) (by omega) (by simp only [List.length_cons,List.length_nil];omega)
      ·exact lp27b m n og ep co na nm' nb ns zas ms bs ss rt nn st wy n1 n2 n3 fc hops steps parts nm l1 l2 hl d (i+1) f false [noteD 4 rt nn false (hops++[hpD i (fi 3 (steps.getD i .nilp))]) [] 0] (by omega) (by omega) (by simp only [List.length_cons,List.length_nil];omega)
     ·exact lp27a m n og ep co na nm' nb ns zas ms bs ss rt nn st wy n1 n2 n3 fc hops steps parts nm l1 l2 hl d (i+1) f false [noteD 1 rt nn false (hops++[hpD i (fi 3 (steps.getD i .nilp))]) (fs 4 (steps.getD i .nilp)) 0] (by omega) (by omega) (by simp only [List.length_cons,List.length_nil];omega)
   ·cases hk:kidOk rt nn hops i (fi 3 (steps.getD i .nilp)) <;> exact ih0
theorem may_lens{rt nn st wy:Int}{fc:Bool}{hops steps parts:List D}{nm:List UInt8}(h:mayOk rt nn st wy fc hops steps parts nm=true):parts.length=steps.length∧steps.length≤8∧hops.length≤4:=by
 have hid:=mayOk_id h
 have h4:=(idOk_iff.1 hid).2.1
 by_cases h7:st=7
 ·subst h7
  unfold mayOk at h
  have:((7:Int)==7)=true:=rfl
  rw [this,hid] at h
  cases hd:decide (0<(steps.length:Int)+(parts.length:Int))
  ·have:=of_decide_eq_false hd
   omega
  ·rw [hd] at h
   cases hn:(nm==[]) <;> rw [hn] at h <;> cases h
 ·have:=mayOk_len h h7
  omega
theorem dueL_congr{kf kf':Int→Int→Int}{rt nn:Int}{hops steps parts:List D}: ∀d i:Nat,(∀j:Nat,i≤j→j<i+d→kf j (fi 0 (parts.getD j .nilp))=kf' j (fi 0 (parts.getD j .nilp)))→dueL kf rt nn hops steps parts d i=dueL kf' rt nn hops steps parts d i
 | 0,i,_=>rfl
 | d+1,i,h=>by
  unfold dueL
  rw [dueL_congr d (i+1) fun j h1 h2=>h j (by omega) (by omega)]
  unfold oweN
  rw [h i (by omega) (by omega)]
def duesOf(og:Int)(rt nn st wy:Int)(n1 fc:Bool)(hops steps parts:List D)(nm:List UInt8):List D:=bif mayOk rt nn st wy fc hops steps parts nm&&(orgOfId rt nn hops==og) then ofL rt nn st wy n1 fc hops steps parts nm else []
theorem curR_may{rt nn st wy:Int}{fc:Bool}{hops steps parts:List D}{nm:List UInt8}(h:mayOk rt nn st wy fc hops steps parts nm=true):curR rt nn st wy fc hops steps parts nm=cur st parts:=by
 unfold curR
 rw [h];rfl
theorem rn27(m n:Nat)(og ep co:Int)(na nm' nb ns:Bool)(zas ms bs ss:List D)(rt nn st wy:Int)(n1 n2 n3 fc:Bool)(hops steps parts:List D)(nm:List UInt8)(hn:9≤n):
  (enterM Dc (callN Dc (m+40)) n c27 [.d (stD og ep co na nm' nb ns zas ms bs ss),.d (sagaD rt nn st wy n1 n2 n3 fc hops steps parts nm)] []).out=some [.sl noteSh (duesOf og rt nn st wy n1 fc hops steps parts nm).isEmpty (duesOf og rt nn st wy n1 fc hops steps parts nm)]:=by
 rw [x27,ne0 _ 230 (by decide)]
 unfold duesOf
 cases hm:mayOk rt nn st wy fc hops steps parts nm
 ·rfl
 ·refine (cf rfl).trans ?_
  cases ho:(orgOfId rt nn hops==og)
  ·have ho':(orgOfId rt nn hops != og)=true:=by rw [bne,ho];rfl
   rw [ho'];rfl
  ·have ho':(orgOfId rt nn hops != og)=false:=by rw [bne,ho];rfl
   rw [ho']
   obtain ⟨hl,h8,h4⟩:=may_lens hm
   have hc:dueL (rk st (curR rt nn st wy fc hops steps parts nm)) rt nn hops steps parts parts.length 0=dueL (ow st (curR rt nn st wy fc hops steps parts nm) fc) rt nn hops steps parts parts.length 0:=dueL_congr _ _ fun j _ hj=>by
    have:=ref_owed hm (i:=j) (by omega)
    rw [curR_may hm]
    exact this
   refine (lp27 m n og ep co na nm' nb ns zas ms bs ss rt nn st wy n1 n2 n3 fc hops steps parts nm (by omega) (by omega) hl parts.length 0 n (by omega) (by omega)).trans ?_
   rw [hc,hl]
   rfl
theorem rn26(m n:Nat)(og ep co:Int)(na nm' nb ns:Bool)(zas ms bs ss:List D)(rt nn st wy:Int)(n1 n2 n3 fc:Bool)(hops steps parts:List D)(nm:List UInt8)(h1:n1=true→hops=[])(l2:steps.length≤1000000)(l3:parts.length≤1000000):
  (enterM Dc (callN Dc (m+40)) n c26 [.d (stD og ep co na nm' nb ns zas ms bs ss),.d (sagaD rt nn st wy n1 n2 n3 fc hops steps parts nm)] []).out=some [.sl noteSh (duesOf og rt nn st wy n1 fc hops steps parts nm).isEmpty (duesOf og rt nn st wy n1 fc hops steps parts nm)]:=by
 rw [x26,ne0 _ 230 (by decide),decide_eq_true l2,decide_eq_true l3]
 unfold duesOf
 cases hm:mayOk rt nn st wy fc hops steps parts nm
 ·rfl
 ·obtain ⟨hl,h8,h4⟩:=may_lens hm
  have g:((!n1||hops.isEmpty)&&(decide (hops.length≤1000000)&&(true&&(true&&decide (steps.length≤parts.length)))))=true:=by
   rw [decide_eq_true (show hops.length≤1000000 by omega),decide_eq_true (show steps.length≤parts.length by omega)]
   cases n1 with
   | false=>rfl
   | true=>rw [h1 rfl];rfl
  rw [g]
  cases ho:(orgOfId rt nn hops==og)
  ·have ho':(orgOfId rt nn hops != og)=true:=by rw [bne,ho];rfl
   rw [ho'];rfl
  ·have ho':(orgOfId rt nn hops != og)=false:=by rw [bne,ho];rfl
   rw [ho'];rfl
def g26d:List D→Tree (List D)
 | [.agg [.int .i64 og,.int .i64 _ep,.int .i64 _co,.sl e0a _na _as,.sl e0m _nm' _ms,.sl e0b _nb _bs,.sl e0s _ns _ss],.agg [.int .i64 rt,.int .i64 nn,.sl e1h n1 hops,.str nm,.sl e1s _n2 steps,.int .i64 st,.int .i64 wy,.sl e1p _n3 parts,.bool fc]]=>match Sh.beq e0a accSh&&Sh.beq e0m mrkSh&&Sh.beq e0b defSh&&Sh.beq e0s sgSh&&Sh.beq e1h hopSh&&Sh.beq e1s stepSh&&Sh.beq e1p partSh with
  | true=> .ite ((!n1||hops.isEmpty)&&(decide (steps.length≤1000000)&&decide (parts.length≤1000000))) (fun _=> .ret [.sl noteSh (duesOf og rt nn st wy n1 fc hops steps parts nm).isEmpty (duesOf og rt nn st wy n1 fc hops steps parts nm)]) (fun _=> .stuck)
  | false=> .stuck
 | _=> .stuck
theorem pure26d{P:Program}(hm:P.follows .mixedOrders=true)(h0:EnvOK P Dc):PureOK P 26 g26d:=PureOK.run hm h0 fun ds rs h=>by
 unfold g26d at h
 split at h
 ·rename_i og ep co e0a na zas e0m nm' ms e0b nb bs e0s ns ss rt nn e1h n1 hops nm e1s n2 steps st wy e1p n3 parts fc
  split at h
  ·rename_i hb
   simp only [Bool.and_eq_true] at hb
   obtain ⟨⟨⟨⟨⟨⟨hb0,hb1⟩,hb2⟩,hb3⟩,hb4⟩,hb5⟩,hb6⟩:=hb
   have hb0:=Sh.beq_eq hb0
   have hb1:=Sh.beq_eq hb1
   have hb2:=Sh.beq_eq hb2
   have hb3:=Sh.beq_eq hb3
   have hb4:=Sh.beq_eq hb4
   have hb5:=Sh.beq_eq hb5
   have hb6:=Sh.beq_eq hb6
   subst hb0 hb1 hb2 hb3 hb4 hb5 hb6
   obtain ⟨hg,h'⟩:=eval_guard h
   clear h
   simp only [Bool.and_eq_true,decide_eq_true_eq] at hg
   cases h'
   exact ⟨59+1,by rw [callN_succ (fn:=c26) rfl];exact rn26 19 59 og ep co na nm' nb ns zas ms bs ss rt nn st wy n1 n2 n3 fc hops steps parts nm (fun h=>by rw [h] at hg;exact List.isEmpty_iff.1 hg.1) hg.2.1 hg.2.2⟩
  ·cases h
 ·cases h
def g27d:List D→Tree (List D)
 | [.agg [.int .i64 og,.int .i64 _ep,.int .i64 _co,.sl e0a _na _as,.sl e0m _nm' _ms,.sl e0b _nb _bs,.sl e0s _ns _ss],.agg [.int .i64 rt,.int .i64 nn,.sl e1h n1 hops,.str nm,.sl e1s _n2 steps,.int .i64 st,.int .i64 wy,.sl e1p _n3 parts,.bool fc]]=>match Sh.beq e0a accSh&&Sh.beq e0m mrkSh&&Sh.beq e0b defSh&&Sh.beq e0s sgSh&&Sh.beq e1h hopSh&&Sh.beq e1s stepSh&&Sh.beq e1p partSh with
  | true=> .ret [.sl noteSh (duesOf og rt nn st wy n1 fc hops steps parts nm).isEmpty (duesOf og rt nn st wy n1 fc hops steps parts nm)]
  | false=> .stuck
 | _=> .stuck
theorem pure27d{P:Program}(hm:P.follows .mixedOrders=true)(h0:EnvOK P Dc):PureOK P 27 g27d:=PureOK.run hm h0 fun ds rs h=>by
 unfold g27d at h
 split at h
 ·rename_i og ep co e0a na zas e0m nm' ms e0b nb bs e0s ns ss rt nn e1h n1 hops nm e1s n2 steps st wy e1p n3 parts fc
  split at h
  ·rename_i hb
   simp only [Bool.and_eq_true] at hb
   obtain ⟨⟨⟨⟨⟨⟨hb0,hb1⟩,hb2⟩,hb3⟩,hb4⟩,hb5⟩,hb6⟩:=hb
   have hb0:=Sh.beq_eq hb0
   have hb1:=Sh.beq_eq hb1
   have hb2:=Sh.beq_eq hb2
   have hb3:=Sh.beq_eq hb3
   have hb4:=Sh.beq_eq hb4
   have hb5:=Sh.beq_eq hb5
   have hb6:=Sh.beq_eq hb6
   subst hb0 hb1 hb2 hb3 hb4 hb5 hb6
   cases h
   exact ⟨59+1,by rw [callN_succ (fn:=c27) rfl];exact rn27 19 59 og ep co na nm' nb ns zas ms bs ss rt nn st wy n1 n2 n3 fc hops steps parts nm (by omega)⟩
  ·cases h
 ·cases h
def Dd:Env:=(Dc.pureAt 26 false g26d).pureAt 27 false g27d
theorem okDd{P:Program}(hm:P.follows .mixedOrders=true)(h:EnvOK P Dc):EnvOK P Dd:=(h.pureAt (pure26d hm h)).pureAt (pure27d hm h)
theorem dueL_mem{kf:Int→Int→Int}{rt nn:Int}{hops steps parts:List D}{x:D}: ∀d i:Nat,x∈dueL kf rt nn hops steps parts d i→ ∃j,i≤j∧j<i+d∧x∈oweN kf rt nn hops steps parts j
 | 0,i,h=>by simp [dueL] at h
 | d+1,i,h=>by
  unfold dueL at h
  rcases List.mem_append.1 h with h | h
  ·exact ⟨i,by omega,by omega,h⟩
  ·obtain ⟨j,h1,h2,h3⟩:=dueL_mem d (i+1) h
   exact ⟨j,by omega,by omega,h3⟩
theorem oweN_mem{kf:Int→Int→Int}{rt nn:Int}{hops steps parts:List D}{x:D}{i:Nat}(h:x∈oweN kf rt nn hops steps parts i):
  (fs 4 (steps.getD i .nilp)==[])=false∧kidOk rt nn hops i (fi 3 (steps.getD i .nilp))=true∧(kf i (fi 0 (parts.getD i .nilp))==0)=false∧
   x=noteD (kf i (fi 0 (parts.getD i .nilp))) rt nn false (hops++[hpD i (fi 3 (steps.getD i .nilp))]) (bif kf i (fi 0 (parts.getD i .nilp))==1 then fs 4 (steps.getD i .nilp) else []) 0:=by
 unfold oweN at h
 cases h1:(fs 4 (steps.getD i .nilp)==[])
 ·cases h2:kidOk rt nn hops i (fi 3 (steps.getD i .nilp))
  ·rw [h1,h2] at h;cases h
  ·cases h3:(kf i (fi 0 (parts.getD i .nilp))==0)
   ·rw [h1,h2,h3] at h
    exact ⟨rfl,rfl,rfl,List.mem_singleton.1 h⟩
   ·rw [h1,h2,h3] at h;cases h
 ·rw [h1] at h;cases h
theorem hopsIn_all{k:Nat}{l:List D}(h: ∀x∈l,(fl k x).length≤1000000):hopsIn k l=true:=allN_iff.2 fun _ hi=>decide_eq_true (h _ (getD_mem hi))
theorem ofL_in{rt nn st wy:Int}{n1 fc:Bool}{hops steps parts:List D}{nm:List UInt8}{x:D}(h:x∈ofL rt nn st wy n1 fc hops steps parts nm):(fl 3 x).length≤hops.length+1:=by
 unfold ofL at h
 rcases List.mem_append.1 h with h | h
 ·obtain ⟨j,-,-,hx⟩:=dueL_mem _ _ h
  obtain ⟨-,-,-,rfl⟩:=oweN_mem hx
  show (hops++[hpD j (fi 3 (steps.getD j .nilp))]).length≤_
  simp
 ·unfold tellL at h
  cases ht:tellOk rt nn st wy fc hops steps parts nm
  ·rw [ht] at h;cases h
  ·rw [ht] at h
   obtain rfl:=List.mem_singleton.1 h
   show hops.length≤_
   omega
theorem ofL_le{rt nn st wy:Int}{n1 fc:Bool}{hops steps parts:List D}{nm:List UInt8}:(ofL rt nn st wy n1 fc hops steps parts nm).length≤steps.length+1:=by
 have hd:=dueL_le (ow st (curR rt nn st wy fc hops steps parts nm) fc) rt nn hops steps parts steps.length 0
 unfold ofL
 rw [List.length_append]
 have:(tellL rt nn st wy n1 fc hops steps parts nm).length≤1:=by
  unfold tellL
  cases tellOk rt nn st wy fc hops steps parts nm <;> simp
 omega
theorem okEV2:EnvOK Tryz.prog EV2:=((okE0.pureAt (PureOK.self mixed okE0 60 26)).pureAt (PureOK.self mixed okE0 60 28)).pureAt (PureOK.self mixed okE0 60 30)
theorem pureAw27:PureOK Tryz.prog 25 g20:=PureOK.run mixed okEV2 fun ds rs h=>by
 unfold g20 at h
 split at h
 ·cases h
  exact ⟨60,awake27_run⟩
 ·cases h
theorem okDdt:EnvOK Tryz.prog Dd:=okDd mixed (okDc mixed (okDb mixed (okDa mixed (okMt mixed (okMs mixed okMqt)))))
def ofX(x:D):List D:=ofL (fi 0 x) (fi 1 x) (fi 5 x) (fi 6 x) (fn 2 x) (fb 8 x) (fl 2 x) (fl 4 x) (fl 7 x) (fs 3 x)
def duX(og:Int)(x:D):List D:=duesOf og (fi 0 x) (fi 1 x) (fi 5 x) (fi 6 x) (fn 2 x) (fb 8 x) (fl 2 x) (fl 4 x) (fl 7 x) (fs 3 x)
def v28(og ep co:Int)(na nm' nb ns:Bool)(zas ms bs ss:List D)(x:V)(l:Obs)(i:Int):St:= { fr:=frame 22 [(3,x),(10,V.d (D.sl sgSh ns ss)),(11,V.d (D.int .i64 (ss.length:Int))),(12,V.d (D.int .i64 i))],ob:=(128,HS og ep co na nm' nb ns zas ms bs ss) :: l }
def v29(og ep co:Int)(na nm' nb ns:Bool)(zas ms bs ss:List D)(x:V)(l:Obs)(i:Int):St:= { fr:=frame 27 [(1,V.ptr 128 0),(3,x),(4,V.d (D.int .i64 i))],ob:=(128,HS og ep co na nm' nb ns zas ms bs ss) :: l }
theorem x66(m n:Nat)(k r q w:Int)(nil:Bool)(es:List D)(df:List UInt8):Tree.out (enterM Dd (callN Dd (m+40)) n c66 [.d (noteD k r q nil es df w)] [])=bif !nil||List.isEmpty es then bif (bif noteOk k r q es df w then (0:Int) else (130:Int)) != 0 then some [D.int .i64 (-1),D.int .i64 (-1)] else bif (bif idOk r q es then (0:Int) else (30:Int)) != 0 then bif decide (k≤4) then some [D.int .i64 (-1),D.int .i64 (orgOfId r q es)] else some [D.int .i64 (orgOfId r q es),D.int .i64 (-1)] else bif decide (IntKind.wrap .i64 ((es.length:Int) - 1)<0) then bif decide (k≤4) then some [D.int .i64 (-1),D.int .i64 (orgOfId r q es)] else some [D.int .i64 (orgOfId r q es),D.int .i64 (-1)] else bif decide (0≤IntKind.wrap .i64 ((es.length:Int) - 1)∧IntKind.wrap .i64 ((es.length:Int) - 1)≤(es.length:Int)) then bif nil then bif decide (0≤IntKind.wrap .i64 ((es.length:Int) - 1)∧IntKind.wrap .i64 ((es.length:Int) - 1)<(es.length:Int)) then bif decide (k≤4) then some [D.int .i64 (orgOfId r q []),D.int .i64 (orgOfId r q es)] else some [D.int .i64 (orgOfId r q es),D.int .i64 (orgOfId r q [])] else none else bif decide (List.length (List.take (Int.toNat (IntKind.wrap .i64 ((es.length:Int) - 1)) - 0) es)≤1000000) then bif decide (0≤IntKind.wrap .i64 ((es.length:Int) - 1)∧IntKind.wrap .i64 ((es.length:Int) - 1)<(es.length:Int)) then bif decide (k≤4) then some [D.int .i64 (orgOfId r q (List.take (Int.toNat (IntKind.wrap .i64 ((es.length:Int) - 1)) - 0) es)),D.int .i64 (orgOfId r q es)] else some [D.int .i64 (orgOfId r q es),D.int .i64 (orgOfId r q (List.take (Int.toNat (IntKind.wrap .i64 ((es.length:Int) - 1)) - 0) es))] else none else none else none else none:=by kernel_rfl
theorem x67(m n:Nat)(k r q w:Int)(nil:Bool)(es:List D)(df:List UInt8):Tree.out (enterM Dd (callN Dd (m+40)) n c67 [.d (noteD k r q nil es df w)] [])=bif (bif noteOk k r q es df w then (0:Int) else (130:Int)) != 0 then some [D.int .i64 (-1),D.int .i64 (-1)] else bif decide (0≤IntKind.wrap .i64 ((↑(List.length (bif idOk r q es then orgs r es else [])):Int) - 2)∧IntKind.wrap .i64 ((↑(List.length (bif idOk r q es then orgs r es else [])):Int) - 2)<(↑(List.length (bif idOk r q es then orgs r es else [])):Int)) then bif decide (0≤IntKind.wrap .i64 ((↑(List.length (bif idOk r q es then orgs r es else [])):Int) - 1)∧IntKind.wrap .i64 ((↑(List.length (bif idOk r q es then orgs r es else [])):Int) - 1)<(↑(List.length (bif idOk r q es then orgs r es else [])):Int)) then bif decide (5≤k) then some [D.int .i64 (fi 0 (List.getD (bif idOk r q es then orgs r es else []) (Int.toNat (IntKind.wrap .i64 ((↑(List.length (bif idOk r q es then orgs r es else [])):Int) - 1))) D.nilp)),D.int .i64 (fi 0 (List.getD (bif idOk r q es then orgs r es else []) (Int.toNat (IntKind.wrap .i64 ((↑(List.length (bif idOk r q es then orgs r es else [])):Int) - 2))) D.nilp))] else some [D.int .i64 (fi 0 (List.getD (bif idOk r q es then orgs r es else []) (Int.toNat (IntKind.wrap .i64 ((↑(List.length (bif idOk r q es then orgs r es else [])):Int) - 2))) D.nilp)),D.int .i64 (fi 0 (List.getD (bif idOk r q es then orgs r es else []) (Int.toNat (IntKind.wrap .i64 ((↑(List.length (bif idOk r q es then orgs r es else [])):Int) - 1))) D.nilp))] else none else none:=by kernel_rfl
theorem x28(m n:Nat)(og ep co:Int)(na nm' nb ns:Bool)(zas ms bs ss:List D):Tree.out (enterM Dd (callN Dd (m+40)) n c28 [.d (stD og ep co na nm' nb ns zas ms bs ss)] [])=bif sgsIn ss then bif (bif mayR og ep co zas ms bs ss then (0:Int) else (230:Int)) != 0 then some [D.sl noteSh true []] else Tree.out (resume Dd (callN Dd (m+40)) n n 0 c28 (v28 og ep co na nm' nb ns zas ms bs ss (V.d (D.sl noteSh true [])) [] 0)) else none:=by kernel_rfl
theorem x29(m n:Nat)(og ep co:Int)(na nm' nb ns:Bool)(zas ms bs ss:List D):Tree.out (enterM Dd (callN Dd (m+40)) n c29 [.d (stD og ep co na nm' nb ns zas ms bs ss)] [])=Tree.out (resume Dd (callN Dd (m+40)) n n 0 c29 (v29 og ep co na nm' nb ns zas ms bs ss (V.d (D.sl noteSh true [])) [] 0)):=by kernel_rfl
theorem y28(m n f:Nat)(og ep co:Int)(na nm' nb ns:Bool)(zas ms bs ss:List D)(i:Int):Tree.out (resume Dd (callN Dd (m+40)) n (f+1) 0 c28 (v28 og ep co na nm' nb ns zas ms bs ss (.d (.sl noteSh true [])) [] i))=bif decide (i<(ss.length:Int)) then bif decide (0≤i∧i<(ss.length:Int)) then bif (!fn 2 (ss.getD i.toNat .nilp)||List.isEmpty (fl 2 (ss.getD i.toNat .nilp)))&&(decide (List.length (fl 2 (ss.getD i.toNat .nilp))≤1000000)&&(decide (List.length (fl 4 (ss.getD i.toNat .nilp))≤1000000)&&(decide (List.length (fl 7 (ss.getD i.toNat .nilp))≤1000000)&&decide (List.length (fl 4 (ss.getD i.toNat .nilp))≤List.length (fl 7 (ss.getD i.toNat .nilp)))))) then bif decide (List.length (ofX (ss.getD i.toNat .nilp))≤4294967296) then Tree.out (resume Dd (callN Dd (m+40)) n f 0 c28 (v28 og ep co na nm' nb ns zas ms bs ss (V.own 1280) [(1280,Obj.lst noteSh (List.isEmpty (ofX (ss.getD i.toNat .nilp))) false false (ofX (ss.getD i.toNat .nilp)))] (IntKind.wrap .i64 (i+1)))) else none else none else none else some [D.sl noteSh true []]:=by kernel_rfl
theorem y29(m n f:Nat)(og ep co:Int)(na nm' nb ns:Bool)(zas ms bs ss:List D)(i:Int):Tree.out (resume Dd (callN Dd (m+40)) n (f+1) 0 c29 (v29 og ep co na nm' nb ns zas ms bs ss (.d (.sl noteSh true [])) [] i))=bif decide (i<(ss.length:Int)) then bif sgsIn ss then bif (bif mayR og ep co zas ms bs ss then (0:Int) else (230:Int))==0 then bif decide (0≤i∧i<(ss.length:Int)) then bif decide (List.length (duX og (ss.getD i.toNat .nilp))≤4294967296) then Tree.out (resume Dd (callN Dd (m+40)) n f 0 c29 (v29 og ep co na nm' nb ns zas ms bs ss (V.own 1664) [(1664,Obj.lst noteSh (List.isEmpty (duX og (ss.getD i.toNat .nilp))) false false (duX og (ss.getD i.toNat .nilp)))] (IntKind.wrap .i64 (i+1)))) else none else none else some [D.sl noteSh true []] else none else some [D.sl noteSh true []]:=by kernel_rfl
theorem z28(m n f:Nat)(og ep co:Int)(na nm' nb ns:Bool)(zas ms bs ss:List D)(nl mv:Bool)(out:List D)(i:Int):Tree.out (resume Dd (callN Dd (m+40)) n (f+1) 0 c28 (v28 og ep co na nm' nb ns zas ms bs ss (.own 1280) [(1280,.lst noteSh nl mv false out)] i))=bif decide (i<(ss.length:Int)) then bif decide (0≤i∧i<(ss.length:Int)) then bif (!fn 2 (ss.getD i.toNat .nilp)||List.isEmpty (fl 2 (ss.getD i.toNat .nilp)))&&(decide (List.length (fl 2 (ss.getD i.toNat .nilp))≤1000000)&&(decide (List.length (fl 4 (ss.getD i.toNat .nilp))≤1000000)&&(decide (List.length (fl 7 (ss.getD i.toNat .nilp))≤1000000)&&decide (List.length (fl 4 (ss.getD i.toNat .nilp))≤List.length (fl 7 (ss.getD i.toNat .nilp)))))) then bif decide (out.length+List.length (ofX (ss.getD i.toNat .nilp))≤4294967296) then Tree.out (resume Dd (callN Dd (m+40)) n f 0 c28 (v28 og ep co na nm' nb ns zas ms bs ss (V.own 1280) [(1280,Obj.lst noteSh (nl&&List.isEmpty (ofX (ss.getD i.toNat .nilp))) true false (List.append out (ofX (ss.getD i.toNat .nilp))))] (IntKind.wrap .i64 (i+1)))) else none else none else none else some [D.sl noteSh nl out]:=by kernel_rfl
theorem z29(m n f:Nat)(og ep co:Int)(na nm' nb ns:Bool)(zas ms bs ss:List D)(nl mv:Bool)(out:List D)(i:Int):Tree.out (resume Dd (callN Dd (m+40)) n (f+1) 0 c29 (v29 og ep co na nm' nb ns zas ms bs ss (.own 1664) [(1664,.lst noteSh nl mv false out)] i))=bif decide (i<(ss.length:Int)) then bif sgsIn ss then bif (bif mayR og ep co zas ms bs ss then (0:Int) else (230:Int))==0 then bif decide (0≤i∧i<(ss.length:Int)) then bif decide (out.length+List.length (duX og (ss.getD i.toNat .nilp))≤4294967296) then Tree.out (resume Dd (callN Dd (m+40)) n f 0 c29 (v29 og ep co na nm' nb ns zas ms bs ss (V.own 1664) [(1664,Obj.lst noteSh (nl&&List.isEmpty (duX og (ss.getD i.toNat .nilp))) (mv||true) false (List.append out (duX og (ss.getD i.toNat .nilp))))] (IntKind.wrap .i64 (i+1)))) else none else none else some [D.sl noteSh nl out] else none else some [D.sl noteSh nl out]:=by kernel_rfl
def dnO(r:Int)(es:List D):Int:=fi 0 ((orgs r es).getD es.length .nilp)
def upO(r:Int)(es:List D):Int:=fi 0 ((orgs r es).getD (es.length - 1) .nilp)
def endF(k r q w:Int)(es:List D)(df:List UInt8):Int:=bif noteOk k r q es df w then bif decide (k≤4) then upO r es else dnO r es else -1
def endT(k r q w:Int)(es:List D)(df:List UInt8):Int:=bif noteOk k r q es df w then bif decide (k≤4) then dnO r es else upO r es else -1
theorem take_getD{l:List D}{k i:Nat}(h:i<k):(l.take k).getD i .nilp=l.getD i .nilp:=by
 rw [List.getD_eq_getElem?_getD,List.getD_eq_getElem?_getD,List.getElem?_take_of_lt h]
theorem idOk_take{r q:Int}{es:List D}(k:Nat)(h:idOk r q es=true):idOk r q (es.take k)=true:=by
 rw [idOk_iff] at h ⊢
 obtain ⟨h1,h2,h3,h4,h5⟩:=h
 have hl:(es.take k).length≤k∧(es.take k).length≤es.length:=by rw [List.length_take];omega
 refine ⟨h1,by omega,h3,fun i hi=> ?_,fun i j hij hj=> ?_⟩
 ·rw [take_getD (by omega)];exact h4 i (by omega)
 ·rw [take_getD (by omega),take_getD (by omega)];exact h5 i j hij (by omega)
theorem noteOk_iff{k r q w:Int}{es:List D}{df:List UInt8}:noteOk k r q es df w=true↔(1≤k∧k≤7)∧idOk r q es=true∧es.length≠0∧(bif k==1 then name df else df==[])=true∧(bif k==6 then decide (1≤w)&&decide (w≤9) else w==0)=true:=by
 unfold noteOk
 simp only [Bool.and_eq_true,Bool.not_eq_true',decide_eq_false_iff_not,beq_eq_false_iff_ne]
 constructor
 ·rintro ⟨h1,h2,h3,h4,h5,h6⟩
  exact ⟨⟨by omega,by omega⟩,h3,by omega,h5,h6⟩
 ·rintro ⟨⟨h1,h2⟩,h3,h4,h5,h6⟩
  exact ⟨by omega,by omega,h3,by omega,h5,h6⟩
theorem org_dn{r q:Int}{es:List D}(h:idOk r q es=true):orgOfId r q es=dnO r es:=by
 unfold orgOfId
 rw [h];rfl
theorem org_up{r q:Int}{es:List D}(h:idOk r q es=true)(h0:es.length≠0):orgOfId r q (es.take (es.length - 1))=upO r es:=by
 unfold orgOfId upO
 rw [idOk_take _ h,List.length_take,show min (es.length - 1) es.length=es.length - 1 by omega]
 show fi 0 ((orgs r (es.take (es.length - 1))).getD (es.length - 1) .nilp)=_
 have e:orgs r (es.take (es.length - 1))=(orgs r es).take es.length:=by
  unfold orgs
  obtain ⟨n,hn⟩: ∃n,es.length=n+1:=⟨es.length - 1,by omega⟩
  rw [hn,List.take_succ_cons,Nat.add_sub_cancel,List.map_take]
 rw [e,take_getD (by omega)]
theorem rn66(m n:Nat)(k r q w:Int)(nil:Bool)(es:List D)(df:List UInt8)(h1:nil=true→es=[]):
  (enterM Dd (callN Dd (m+40)) n c66 [.d (noteD k r q nil es df w)] []).out=some [.int .i64 (endF k r q w es df),.int .i64 (endT k r q w es df)]:=by
 have hg:(!nil||es.isEmpty)=true:=by
  cases nil with
  | false=>rfl
  | true=>rw [h1 rfl];rfl
 rw [x66,hg]
 simp only [ne0 _ 130 (by decide),ne0 _ 30 (by decide)]
 unfold endF endT
 cases hn:noteOk k r q es df w
 ·rfl
 ·obtain ⟨-,hid,h0,-,-⟩:=noteOk_iff.1 hn
  have h4:=(idOk_iff.1 hid).2.1
  have hnil:nil=false:=by
   cases nil with
   | false=>rfl
   | true=>exact absurd (by rw [h1 rfl];rfl) h0
  subst hnil
  have hw:IntKind.wrap .i64 ((es.length:Int) - 1)=((es.length - 1:Nat):Int):=by rw [wrap_i64 (by omega) (by omega)];omega
  rw [hw,hid,org_dn hid,Int.toNat_natCast,Nat.sub_zero,org_up hid h0,decide_eq_false (show¬(((es.length - 1:Nat):Int)<0) by omega),decide_eq_true (show (0:Int)≤((es.length - 1:Nat):Int)∧((es.length - 1:Nat):Int)≤(es.length:Int) by omega),decide_eq_true (show (0:Int)≤((es.length - 1:Nat):Int)∧((es.length - 1:Nat):Int)<(es.length:Int) by omega),
   decide_eq_true (show (es.take (es.length - 1)).length≤1000000 by rw [List.length_take];omega)]
  cases decide (k≤4) <;> rfl
theorem rn67(m n:Nat)(k r q w:Int)(nil:Bool)(es:List D)(df:List UInt8):
  (enterM Dd (callN Dd (m+40)) n c67 [.d (noteD k r q nil es df w)] []).out=some [.int .i64 (endF k r q w es df),.int .i64 (endT k r q w es df)]:=by
 rw [x67]
 simp only [ne0 _ 130 (by decide)]
 unfold endF endT
 cases hn:noteOk k r q es df w
 ·rfl
 ·obtain ⟨-,hid,h0,-,-⟩:=noteOk_iff.1 hn
  have h4:=(idOk_iff.1 hid).2.1
  rw [hid]
  have hl:(orgs r es).length=es.length+1:=by unfold orgs;simp
  simp only [cond_true,hl]
  have hw1:IntKind.wrap .i64 (((es.length+1:Nat):Int) - 1)=((es.length:Nat):Int):=by rw [wrap_i64 (by omega) (by omega)];omega
  have hw2:IntKind.wrap .i64 (((es.length+1:Nat):Int) - 2)=((es.length - 1:Nat):Int):=by rw [wrap_i64 (by omega) (by omega)];omega
  rw [hw1,hw2,Int.toNat_natCast,Int.toNat_natCast,decide_eq_true (show (0:Int)≤((es.length - 1:Nat):Int)∧((es.length - 1:Nat):Int)<((es.length+1:Nat):Int) by omega),decide_eq_true (show (0:Int)≤(es.length:Int)∧(es.length:Int)<((es.length+1:Nat):Int) by omega)]
  by_cases h5:k≤4
  ·rw [decide_eq_true h5,decide_eq_false (show¬(5≤k) by omega)];rfl
  ·rw [decide_eq_false h5,decide_eq_true (show 5≤k by omega)];rfl
def allX(ss:List D):Nat→Nat→List D
 | 0,_=>[]
 | d+1,i=>ofX (ss.getD i .nilp)++allX ss d (i+1)
def hopsNil(ss:List D):Bool:=allN (fun i=> !fn 2 (ss.getD i .nilp)||(fl 2 (ss.getD i .nilp)).isEmpty) ss.length
def duesAll(og ep co:Int)(zas ms bs ss:List D):List D:=bif mayR og ep co zas ms bs ss then allX ss ss.length 0 else []
theorem ofX_le{x:D}(h:mayS x=true):(ofX x).length≤9:=by
 have:=ofL_le (rt:=fi 0 x) (nn:=fi 1 x) (st:=fi 5 x) (wy:=fi 6 x) (n1:=fn 2 x) (fc:=fb 8 x) (hops:=fl 2 x) (steps:=fl 4 x) (parts:=fl 7 x) (nm:=fs 3 x)
 obtain ⟨h1,h2,h3⟩:=may_lens h
 unfold ofX;omega
theorem app_empty(a b:List D):(a.isEmpty&&b.isEmpty)=(a++b).isEmpty:=by cases a <;> simp
theorem mayR_24{og ep co:Int}{zas ms bs ss:List D}(h:mayR og ep co zas ms bs ss=true):ss.length≤24:=by
 unfold mayR at h
 simp only [Bool.and_eq_true,Bool.not_eq_true',decide_eq_false_iff_not] at h
 omega
theorem lp28o(m n:Nat)(og ep co:Int)(na nm' nb ns:Bool)(zas ms bs ss:List D)(h: ∀i,i<ss.length→mayS (ss.getD i .nilp)=true)(hn:hopsNil ss=true)(hl:ss.length≤24):
  ∀d i f mv out,i+d=ss.length→d<f→out.length+9*d≤1000→(resume Dd (callN Dd (m+40)) n f 0 c28 (v28 og ep co na nm' nb ns zas ms bs ss (.own 1280) [(1280,.lst noteSh out.isEmpty mv false out)] (i:Nat))).out=some [.sl noteSh (out++allX ss d i).isEmpty (out++allX ss d i)]:=by
 intro d
 induction d with
 | zero=>
  intro i f mv out hi hf ho
  cases f with
  | zero=>omega
  | succ f=>
   have:i=ss.length:=by omega
   subst this
   rw [z28]
   refine (cf (dec_end _)).trans ?_
   unfold allX
   rw [List.append_nil]
 | succ d ih=>
  intro i f mv out hi hf ho
  cases f with
  | zero=>omega
  | succ f=>
   have hlt:i<ss.length:=by omega
   have hm:=h i hlt
   obtain ⟨p1,p2,p3⟩:=may_lens hm
   have hx:=ofX_le hm
   have hq:(!fn 2 (ss.getD i .nilp)||(fl 2 (ss.getD i .nilp)).isEmpty)=true:=allN_iff.1 hn i hlt
   rw [z28,wrap_up hlt (by omega)]
   simp only [Int.toNat_natCast,dec_lt hlt,dec_ix hlt,cond_true]
   rw [hq,decide_eq_true (show (fl 2 (ss.getD i .nilp)).length≤1000000 by omega),decide_eq_true (show (fl 4 (ss.getD i .nilp)).length≤1000000 by omega),decide_eq_true (show (fl 7 (ss.getD i .nilp)).length≤1000000 by omega),decide_eq_true (show (fl 4 (ss.getD i .nilp)).length≤(fl 7 (ss.getD i .nilp)).length by omega),decide_eq_true (show out.length+(ofX (ss.getD i .nilp)).length≤4294967296 by omega),app_empty]
   refine (ih (i+1) f true (out++ofX (ss.getD i .nilp)) (by omega) (by omega) (by rw [List.length_append];omega)).trans ?_
   rw [List.append_assoc];rfl
theorem rn28(m n:Nat)(og ep co:Int)(na nm' nb ns:Bool)(zas ms bs ss:List D)(hi:sgsIn ss=true)(hn:hopsNil ss=true)(hf:30≤n):
  (enterM Dd (callN Dd (m+40)) n c28 [.d (stD og ep co na nm' nb ns zas ms bs ss)] []).out=some [.sl noteSh (duesAll og ep co zas ms bs ss).isEmpty (duesAll og ep co zas ms bs ss)]:=by
 rw [x28,hi,ne0 _ 230 (by decide)]
 unfold duesAll
 cases hm:mayR og ep co zas ms bs ss
 ·rfl
 ·have h24:=mayR_24 hm
  have hs:=fun i hi=>((mayR_all hm).1 i hi).1
  show (resume Dd (callN Dd (m+40)) n n 0 c28 _).out=some [.sl noteSh (allX ss ss.length 0).isEmpty (allX ss ss.length 0)]
  cases n with
  | zero=>omega
  | succ n=>
   rw [y28]
   cases hl:ss.length with
   | zero=>rfl
   | succ d=>
    have hlt:0<ss.length:=by omega
    obtain ⟨p1,p2,p3⟩:=may_lens (hs 0 hlt)
    have hx:=ofX_le (hs 0 hlt)
    have hq:(!fn 2 (ss.getD 0 .nilp)||(fl 2 (ss.getD 0 .nilp)).isEmpty)=true:=allN_iff.1 hn 0 hlt
    have hz:((0:Int)).toNat=0:=rfl
    rw [hz,hq,decide_eq_true (show (0:Int)<((d+1:Nat):Int) by omega),decide_eq_true (show (0:Int)≤0∧(0:Int)<((d+1:Nat):Int) by omega),decide_eq_true (show (fl 2 (ss.getD 0 .nilp)).length≤1000000 by omega),decide_eq_true (show (fl 4 (ss.getD 0 .nilp)).length≤1000000 by omega),decide_eq_true (show (fl 7 (ss.getD 0 .nilp)).length≤1000000 by omega),decide_eq_true (show (fl 4 (ss.getD 0 .nilp)).length≤(fl 7 (ss.getD 0 .nilp)).length by omega),decide_eq_true (show (ofX (ss.getD 0 .nilp)).length≤4294967296 by omega)]
    exact lp28o m (n+1) og ep co na nm' nb ns zas ms bs ss hs hn h24 d 1 n false (ofX (ss.getD 0 .nilp)) (by omega) (by omega) (by omega)
theorem duX_of{og ep co:Int}{zas ms bs ss:List D}(h:mayR og ep co zas ms bs ss=true){i:Nat}(hi:i<ss.length):duX og (ss.getD i .nilp)=ofX (ss.getD i .nilp):=by
 obtain ⟨h1,-,h3⟩:=(mayR_all h).1 i hi
 unfold duX duesOf
 have h1':mayOk (fi 0 (ss.getD i .nilp)) (fi 1 (ss.getD i .nilp)) (fi 5 (ss.getD i .nilp)) (fi 6 (ss.getD i .nilp)) (fb 8 (ss.getD i .nilp)) (fl 2 (ss.getD i .nilp)) (fl 4 (ss.getD i .nilp)) (fl 7 (ss.getD i .nilp)) (fs 3 (ss.getD i .nilp))=true:=h1
 rw [h1',h3,beq_self_eq_true];rfl
theorem lp29o(m n:Nat)(og ep co:Int)(na nm' nb ns:Bool)(zas ms bs ss:List D)(h:mayR og ep co zas ms bs ss=true)(hi':sgsIn ss=true):
  ∀d i f mv out,i+d=ss.length→d<f→out.length+9*d≤1000→(resume Dd (callN Dd (m+40)) n f 0 c29 (v29 og ep co na nm' nb ns zas ms bs ss (.own 1664) [(1664,.lst noteSh out.isEmpty mv false out)] (i:Nat))).out=some [.sl noteSh (out++allX ss d i).isEmpty (out++allX ss d i)]:=by
 have hl:=mayR_24 h
 intro d
 induction d with
 | zero=>
  intro i f mv out hi hf ho
  cases f with
  | zero=>omega
  | succ f=>
   have:i=ss.length:=by omega
   subst this
   rw [z29]
   refine (cf (dec_end _)).trans ?_
   unfold allX
   rw [List.append_nil]
 | succ d ih=>
  intro i f mv out hi hf ho
  cases f with
  | zero=>omega
  | succ f=>
   have hlt:i<ss.length:=by omega
   have hx:=ofX_le ((mayR_all h).1 i hlt).1
   rw [z29,wrap_up hlt (by omega),hi',h]
   simp only [Int.toNat_natCast,dec_lt hlt,dec_ix hlt,cond_true,duX_of h hlt]
   rw [decide_eq_true (show out.length+(ofX (ss.getD i .nilp)).length≤4294967296 by omega),app_empty]
   refine (ih (i+1) f (mv||true) (out++ofX (ss.getD i .nilp)) (by omega) (by omega) (by rw [List.length_append];omega)).trans ?_
   rw [List.append_assoc];rfl
theorem rn29(m n:Nat)(og ep co:Int)(na nm' nb ns:Bool)(zas ms bs ss:List D)(hi:sgsIn ss=true)(hf:30≤n):
  (enterM Dd (callN Dd (m+40)) n c29 [.d (stD og ep co na nm' nb ns zas ms bs ss)] []).out=some [.sl noteSh (duesAll og ep co zas ms bs ss).isEmpty (duesAll og ep co zas ms bs ss)]:=by
 rw [x29]
 unfold duesAll
 cases n with
 | zero=>omega
 | succ n=>
  rw [y29,hi]
  cases hm:mayR og ep co zas ms bs ss
  ·cases decide ((0:Int)<(ss.length:Int)) <;> rfl
  ·have h24:=mayR_24 hm
   show _=some [D.sl noteSh (allX ss ss.length 0).isEmpty (allX ss ss.length 0)]
   cases hl:ss.length with
   | zero=>rfl
   | succ d=>
    have hlt:0<ss.length:=by omega
    have hx:=ofX_le ((mayR_all hm).1 0 hlt).1
    have hz:((0:Int)).toNat=0:=rfl
    rw [hz,duX_of hm hlt,decide_eq_true (show (0:Int)<((d+1:Nat):Int) by omega),decide_eq_true (show (0:Int)≤0∧(0:Int)<((d+1:Nat):Int) by omega),decide_eq_true (show (ofX (ss.getD 0 .nilp)).length≤4294967296 by omega)]
    exact lp29o m (n+1) og ep co na nm' nb ns zas ms bs ss hm hi d 1 n false (ofX (ss.getD 0 .nilp)) (by omega) (by omega) (by omega)
def g66d:List D→Tree (List D)
 | [.agg [.int .i64 k,.int .i64 r,.int .i64 q,.sl e0 nil es,.str df,.int .i64 w]]=>match Sh.beq e0 hopSh with
  | true=> .ite (!nil||es.isEmpty) (fun _=> .ret [.int .i64 (endF k r q w es df),.int .i64 (endT k r q w es df)]) (fun _=> .stuck)
  | false=> .stuck
 | _=> .stuck
theorem pure66d{P:Program}(hm:P.follows .mixedOrders=true)(h0:EnvOK P Dd):PureOK P 66 g66d:=PureOK.run hm h0 fun ds rs h=>by
 unfold g66d at h
 split at h
 ·rename_i k r q e0 nil es df w
  split at h
  ·rename_i hb
   have hb0:=hb
   have hb0:=Sh.beq_eq hb0
   subst hb0
   obtain ⟨hg,h'⟩:=eval_guard h
   clear h
   cases h'
   exact ⟨59+1,by rw [callN_succ (fn:=c66) rfl];exact rn66 19 59 k r q w nil es df (fun h=>by rw [h] at hg;exact List.isEmpty_iff.1 hg)⟩
  ·cases h
 ·cases h
def g67d:List D→Tree (List D)
 | [.agg [.int .i64 k,.int .i64 r,.int .i64 q,.sl e0 _nil es,.str df,.int .i64 w]]=>match Sh.beq e0 hopSh with
  | true=> .ret [.int .i64 (endF k r q w es df),.int .i64 (endT k r q w es df)]
  | false=> .stuck
 | _=> .stuck
theorem pure67d{P:Program}(hm:P.follows .mixedOrders=true)(h0:EnvOK P Dd):PureOK P 67 g67d:=PureOK.run hm h0 fun ds rs h=>by
 unfold g67d at h
 split at h
 ·rename_i k r q e0 nil es df w
  split at h
  ·rename_i hb
   have hb0:=hb
   have hb0:=Sh.beq_eq hb0
   subst hb0
   cases h
   exact ⟨59+1,by rw [callN_succ (fn:=c67) rfl];exact rn67 19 59 k r q w nil es df⟩
  ·cases h
 ·cases h
def g28d:List D→Tree (List D)
 | [.agg [.int .i64 og,.int .i64 ep,.int .i64 co,.sl e0a _na zas,.sl e0m _nm' ms,.sl e0b _nb bs,.sl e0s _ns ss]]=>match Sh.beq e0a accSh&&Sh.beq e0m mrkSh&&Sh.beq e0b defSh&&Sh.beq e0s sgSh with
  | true=> .ite (sgsIn ss&&hopsNil ss) (fun _=> .ret [.sl noteSh (duesAll og ep co zas ms bs ss).isEmpty (duesAll og ep co zas ms bs ss)]) (fun _=> .stuck)
  | false=> .stuck
 | _=> .stuck
theorem pure28d{P:Program}(hm:P.follows .mixedOrders=true)(h0:EnvOK P Dd):PureOK P 28 g28d:=PureOK.run hm h0 fun ds rs h=>by
 unfold g28d at h
 split at h
 ·rename_i og ep co e0a na zas e0m nm' ms e0b nb bs e0s ns ss
  split at h
  ·rename_i hb
   simp only [Bool.and_eq_true] at hb
   obtain ⟨⟨⟨hb0,hb1⟩,hb2⟩,hb3⟩:=hb
   have hb0:=Sh.beq_eq hb0
   have hb1:=Sh.beq_eq hb1
   have hb2:=Sh.beq_eq hb2
   have hb3:=Sh.beq_eq hb3
   subst hb0 hb1 hb2 hb3
   obtain ⟨hg,h'⟩:=eval_guard h
   clear h
   cases h'
   exact ⟨59+1,by rw [callN_succ (fn:=c28) rfl];exact rn28 19 59 og ep co na nm' nb ns zas ms bs ss (Bool.and_eq_true _ _ ▸ hg).1 (Bool.and_eq_true _ _ ▸ hg).2 (by omega)⟩
  ·cases h
 ·cases h
def g29d:List D→Tree (List D)
 | [.agg [.int .i64 og,.int .i64 ep,.int .i64 co,.sl e0a _na zas,.sl e0m _nm' ms,.sl e0b _nb bs,.sl e0s _ns ss]]=>match Sh.beq e0a accSh&&Sh.beq e0m mrkSh&&Sh.beq e0b defSh&&Sh.beq e0s sgSh with
  | true=> .ite (sgsIn ss) (fun _=> .ret [.sl noteSh (duesAll og ep co zas ms bs ss).isEmpty (duesAll og ep co zas ms bs ss)]) (fun _=> .stuck)
  | false=> .stuck
 | _=> .stuck
theorem pure29d{P:Program}(hm:P.follows .mixedOrders=true)(h0:EnvOK P Dd):PureOK P 29 g29d:=PureOK.run hm h0 fun ds rs h=>by
 unfold g29d at h
 split at h
 ·rename_i og ep co e0a na zas e0m nm' ms e0b nb bs e0s ns ss
  split at h
  ·rename_i hb
   simp only [Bool.and_eq_true] at hb
   obtain ⟨⟨⟨hb0,hb1⟩,hb2⟩,hb3⟩:=hb
   have hb0:=Sh.beq_eq hb0
   have hb1:=Sh.beq_eq hb1
   have hb2:=Sh.beq_eq hb2
   have hb3:=Sh.beq_eq hb3
   subst hb0 hb1 hb2 hb3
   obtain ⟨hg,h'⟩:=eval_guard h
   clear h
   cases h'
   exact ⟨59+1,by rw [callN_succ (fn:=c29) rfl];exact rn29 19 59 og ep co na nm' nb ns zas ms bs ss hg (by omega)⟩
  ·cases h
 ·cases h
def Dg:Env:=(((Dd.pureAt 66 false g66d).pureAt 67 false g67d).pureAt 28 false g28d).pureAt 29 false g29d
theorem okDg{P:Program}(hm:P.follows .mixedOrders=true)(h:EnvOK P Dd):EnvOK P Dg:=(((h.pureAt (pure66d hm h)).pureAt (pure67d hm h)).pureAt (pure28d hm h)).pureAt (pure29d hm h)
def noteX(x:D):Bool:=noteOk (fi 0 x) (fi 1 x) (fi 2 x) (fl 3 x) (fs 4 x) (fi 5 x)
def endX(x:D):Int:=endT (fi 0 x) (fi 1 x) (fi 2 x) (fi 5 x) (fl 3 x) (fs 4 x)
def noteC(nil:Bool)(x:D):D:=noteD (fi 0 x) (fi 1 x) (fi 2 x) nil (fl 3 x) (fs 4 x) (fi 5 x)
def v30(p:Int)(nl:Bool)(l:List D)(x:V)(o:Obs)(i:Int):St:=⟨frame 42 [(0,V.d (D.int .i64 p)),(5,x),(10,V.d (D.sl noteSh nl l)),(11,V.d (D.int .i64 (l.length:Int))),(12,V.d (D.int .i64 i))],o⟩
def v31(p:Int)(nl:Bool)(l:List D)(x:V)(o:Obs)(i:Int):St:=⟨frame 42 [(0,V.d (D.int .i64 p)),(1,V.d (D.sl noteSh nl l)),(5,x),(6,V.d (D.int .i64 i))],o⟩
theorem x30(m n:Nat)(p:Int)(nl:Bool)(l:List D):Tree.out (enterM Dg (callN Dg (m+40)) n c30 [.d (.int .i64 p),.d (.sl noteSh nl l)] [])=Tree.out (resume Dg (callN Dg (m+40)) n n 0 c30 (v30 p nl l (V.d (D.sl noteSh true [])) [] 0)):=by kernel_rfl
theorem x31(m n:Nat)(p:Int)(nl:Bool)(l:List D):Tree.out (enterM Dg (callN Dg (m+40)) n c31 [.d (.int .i64 p),.d (.sl noteSh nl l)] [])=Tree.out (resume Dg (callN Dg (m+40)) n n 0 c31 (v31 p nl l (V.d (D.sl noteSh true [])) [] 0)):=by kernel_rfl
theorem y30(m n f:Nat)(p:Int)(nl:Bool)(l:List D)(i:Int):Tree.out (resume Dg (callN Dg (m+40)) n (f+1) 0 c30 (v30 p nl l (.d (.sl noteSh true [])) [] i))=bif decide (i<(l.length:Int)) then bif decide (0≤i∧i<(l.length:Int)) then bif !fn 3 (l.getD i.toNat .nilp)||List.isEmpty (fl 3 (l.getD i.toNat .nilp)) then bif !fn 3 (l.getD i.toNat .nilp)||List.isEmpty (fl 3 (l.getD i.toNat .nilp)) then bif (bif noteX (l.getD i.toNat .nilp) then (0:Int) else (130:Int))==0 then bif endX (l.getD i.toNat .nilp)==p then bif decide (0+List.length (fl 3 (l.getD i.toNat .nilp))≤4294967296) then Tree.out (resume Dg (callN Dg (m+40)) n f 0 c30 (v30 p nl l (V.own 2560) [(2560,Obj.lst noteSh false false false [noteC false (l.getD i.toNat .nilp)])] (IntKind.wrap .i64 (i+1)))) else none else Tree.out (resume Dg (callN Dg (m+40)) n f 0 c30 (v30 p nl l (V.d (D.sl noteSh true [])) [] (IntKind.wrap .i64 (i+1)))) else Tree.out (resume Dg (callN Dg (m+40)) n f 0 c30 (v30 p nl l (V.d (D.sl noteSh true [])) [] (IntKind.wrap .i64 (i+1)))) else none else none else none else some [D.sl noteSh true []]:=by kernel_rfl
theorem y31(m n f:Nat)(p:Int)(nl:Bool)(l:List D)(i:Int):Tree.out (resume Dg (callN Dg (m+40)) n (f+1) 0 c31 (v31 p nl l (.d (.sl noteSh true [])) [] i))=bif decide (i<(l.length:Int)) then bif decide (0≤i∧i<(l.length:Int)) then bif decide (0≤i∧i<(l.length:Int)) then bif (bif noteX (l.getD i.toNat .nilp) then (0:Int) else (130:Int))==0 then bif endX (l.getD i.toNat .nilp)==p then bif decide (0≤i∧i<(l.length:Int)) then Tree.out (resume Dg (callN Dg (m+40)) n f 0 c31 (v31 p nl l (V.own 2624) [(2624,Obj.lst noteSh false false false [noteC (fn 3 (l.getD i.toNat .nilp)) (l.getD i.toNat .nilp)])] (IntKind.wrap .i64 (i+1)))) else none else Tree.out (resume Dg (callN Dg (m+40)) n f 0 c31 (v31 p nl l (V.d (D.sl noteSh true [])) [] (IntKind.wrap .i64 (i+1)))) else Tree.out (resume Dg (callN Dg (m+40)) n f 0 c31 (v31 p nl l (V.d (D.sl noteSh true [])) [] (IntKind.wrap .i64 (i+1)))) else none else none else some [D.sl noteSh true []]:=by kernel_rfl
theorem z30(m n f:Nat)(p:Int)(nl:Bool)(l:List D)(mv:Bool)(out:List D)(i:Int):Tree.out (resume Dg (callN Dg (m+40)) n (f+1) 0 c30 (v30 p nl l (.own 2560) [(2560,.lst noteSh false mv false out)] i))=bif decide (i<(l.length:Int)) then bif decide (0≤i∧i<(l.length:Int)) then bif !fn 3 (l.getD i.toNat .nilp)||List.isEmpty (fl 3 (l.getD i.toNat .nilp)) then bif !fn 3 (l.getD i.toNat .nilp)||List.isEmpty (fl 3 (l.getD i.toNat .nilp)) then bif (bif noteX (l.getD i.toNat .nilp) then (0:Int) else (130:Int))==0 then bif endX (l.getD i.toNat .nilp)==p then bif decide (0+List.length (fl 3 (l.getD i.toNat .nilp))≤4294967296) then bif decide (out.length+1≤4294967296) then Tree.out (resume Dg (callN Dg (m+40)) n f 0 c30 (v30 p nl l (V.own 2560) [(2560,Obj.lst noteSh false true false (List.append out [noteC false (l.getD i.toNat .nilp)]))] (IntKind.wrap .i64 (i+1)))) else none else none else Tree.out (resume Dg (callN Dg (m+40)) n f 0 c30 (v30 p nl l (V.own 2560) [(2560,Obj.lst noteSh false mv false out)] (IntKind.wrap .i64 (i+1)))) else Tree.out (resume Dg (callN Dg (m+40)) n f 0 c30 (v30 p nl l (V.own 2560) [(2560,Obj.lst noteSh false mv false out)] (IntKind.wrap .i64 (i+1)))) else none else none else none else some [D.sl noteSh false out]:=by kernel_rfl
theorem z31(m n f:Nat)(p:Int)(nl:Bool)(l:List D)(mv:Bool)(out:List D)(i:Int):Tree.out (resume Dg (callN Dg (m+40)) n (f+1) 0 c31 (v31 p nl l (.own 2624) [(2624,.lst noteSh false mv false out)] i))=bif decide (i<(l.length:Int)) then bif decide (0≤i∧i<(l.length:Int)) then bif decide (0≤i∧i<(l.length:Int)) then bif (bif noteX (l.getD i.toNat .nilp) then (0:Int) else (130:Int))==0 then bif endX (l.getD i.toNat .nilp)==p then bif decide (0≤i∧i<(l.length:Int)) then bif decide (out.length+1≤4294967296) then Tree.out (resume Dg (callN Dg (m+40)) n f 0 c31 (v31 p nl l (V.own 2624) [(2624,Obj.lst noteSh false true false (List.append out [noteC (fn 3 (l.getD i.toNat .nilp)) (l.getD i.toNat .nilp)]))] (IntKind.wrap .i64 (i+1)))) else none else none else Tree.out (resume Dg (callN Dg (m+40)) n f 0 c31 (v31 p nl l (V.own 2624) [(2624,Obj.lst noteSh false mv false out)] (IntKind.wrap .i64 (i+1)))) else Tree.out (resume Dg (callN Dg (m+40)) n f 0 c31 (v31 p nl l (V.own 2624) [(2624,Obj.lst noteSh false mv false out)] (IntKind.wrap .i64 (i+1)))) else none else none else some [D.sl noteSh false out]:=by kernel_rfl
def toN(p:Int)(x:D):List D:=bif noteX x&&(endX x==p) then [noteC false x] else []
def toL(p:Int)(l:List D):Nat→Nat→List D
 | 0,_=>[]
 | d+1,i=>toN p (l.getD i .nilp)++toL p l d (i+1)
def hopsNilN(l:List D):Bool:=allN (fun i=> !fn 3 (l.getD i .nilp)||(fl 3 (l.getD i .nilp)).isEmpty) l.length
theorem noteX_few{x:D}(h:noteX x=true):(fl 3 x).length≠0∧(fl 3 x).length≤4:=by
 obtain ⟨-,hid,h0,-,-⟩:=noteOk_iff.1 h
 exact ⟨h0,(idOk_iff.1 hid).2.1⟩
theorem noteX_nil{x:D}(h:noteX x=true)(hq:(!fn 3 x||(fl 3 x).isEmpty)=true):fn 3 x=false:=by
 cases hf:fn 3 x
 ·rfl
 ·rw [hf] at hq
  exact absurd (by rw [List.isEmpty_iff.1 hq];rfl) (noteX_few h).1
theorem eq130(b:Bool):((bif b then (0:Int) else 130)==0)=b:=by cases b <;> rfl
theorem lp30o(m n:Nat)(p:Int)(nl:Bool)(l:List D)(hn:hopsNilN l=true)(hl:l.length≤1000000):
  ∀d i f mv out,i+d=l.length→d<f→out.length+d≤1000000→(resume Dg (callN Dg (m+40)) n f 0 c30 (v30 p nl l (.own 2560) [(2560,.lst noteSh false mv false out)] (i:Nat))).out=some [.sl noteSh false (out++toL p l d i)]:=by
 intro d
 induction d with
 | zero=>
  intro i f mv out hi hf ho
  cases f with
  | zero=>omega
  | succ f=>
   have:i=l.length:=by omega
   subst this
   rw [z30]
   refine (cf (dec_end _)).trans ?_
   unfold toL
   rw [List.append_nil]
 | succ d ih=>
  intro i f mv out hi hf ho
  cases f with
  | zero=>omega
  | succ f=>
   have hlt:i<l.length:=by omega
   have hq:(!fn 3 (l.getD i .nilp)||(fl 3 (l.getD i .nilp)).isEmpty)=true:=allN_iff.1 hn i hlt
   rw [z30,wrap_up hlt hl]
   simp only [Int.toNat_natCast,dec_lt hlt,dec_ix hlt,cond_true,decide_eq_true (show out.length+1≤4294967296 by omega),hq,eq130]
   have e:toL p l (d+1) i=toN p (l.getD i .nilp)++toL p l d (i+1):=rfl
   rw [e]
   unfold toN
   cases hx:noteX (l.getD i .nilp)
   ·exact ih (i+1) f mv out (by omega) (by omega) (by omega)
   ·have h4:=noteX_few hx
    cases he:(endX (l.getD i .nilp)==p)
    ·exact ih (i+1) f mv out (by omega) (by omega) (by omega)
    ·refine (ct (decide_eq_true (show 0+(fl 3 (l.getD i .nilp)).length≤4294967296 by omega))).trans ?_
     refine (ih (i+1) f true (out++[noteC false (l.getD i .nilp)]) (by omega) (by omega) (by rw [List.length_append,List.length_singleton];omega)).trans ?_
     rw [List.append_assoc];rfl
theorem lp30(m n:Nat)(p:Int)(nl:Bool)(l:List D)(hn:hopsNilN l=true)(hl:l.length≤1000000):
  ∀d i f,i+d=l.length→d<f→(resume Dg (callN Dg (m+40)) n f 0 c30 (v30 p nl l (.d (.sl noteSh true [])) [] (i:Nat))).out=some [.sl noteSh (toL p l d i).isEmpty (toL p l d i)]:=by
 intro d
 induction d with
 | zero=>
  intro i f hi hf
  cases f with
  | zero=>omega
  | succ f=>
   have:i=l.length:=by omega
   subst this
   rw [y30]
   exact cf (dec_end _)
 | succ d ih=>
  intro i f hi hf
  cases f with
  | zero=>omega
  | succ f=>
   have hlt:i<l.length:=by omega
   have hq:(!fn 3 (l.getD i .nilp)||(fl 3 (l.getD i .nilp)).isEmpty)=true:=allN_iff.1 hn i hlt
   rw [y30,wrap_up hlt hl]
   simp only [Int.toNat_natCast,dec_lt hlt,dec_ix hlt,cond_true,hq,eq130]
   have e:toL p l (d+1) i=toN p (l.getD i .nilp)++toL p l d (i+1):=rfl
   rw [e]
   unfold toN
   cases hx:noteX (l.getD i .nilp)
   ·exact ih (i+1) f (by omega) (by omega)
   ·have h4:=noteX_few hx
    cases he:(endX (l.getD i .nilp)==p)
    ·exact ih (i+1) f (by omega) (by omega)
    ·refine (ct (decide_eq_true (show 0+(fl 3 (l.getD i .nilp)).length≤4294967296 by omega))).trans ?_
     exact lp30o m n p nl l hn hl d (i+1) f false [noteC false (l.getD i .nilp)] (by omega) (by omega) (by rw [List.length_singleton];omega)
theorem rn30(m n:Nat)(p:Int)(nl:Bool)(l:List D)(hn:hopsNilN l=true)(hl:l.length≤1000000)(hf:l.length<n):
  (enterM Dg (callN Dg (m+40)) n c30 [.d (.int .i64 p),.d (.sl noteSh nl l)] []).out=some [.sl noteSh (toL p l l.length 0).isEmpty (toL p l l.length 0)]:=by
 rw [x30]
 exact lp30 m n p nl l hn hl l.length 0 n (by omega) hf
theorem lp31o(m n:Nat)(p:Int)(nl:Bool)(l:List D)(hn:hopsNilN l=true)(hl:l.length≤1000000):
  ∀d i f mv out,i+d=l.length→d<f→out.length+d≤1000000→(resume Dg (callN Dg (m+40)) n f 0 c31 (v31 p nl l (.own 2624) [(2624,.lst noteSh false mv false out)] (i:Nat))).out=some [.sl noteSh false (out++toL p l d i)]:=by
 intro d
 induction d with
 | zero=>
  intro i f mv out hi hf ho
  cases f with
  | zero=>omega
  | succ f=>
   have:i=l.length:=by omega
   subst this
   rw [z31]
   refine (cf (dec_end _)).trans ?_
   unfold toL
   rw [List.append_nil]
 | succ d ih=>
  intro i f mv out hi hf ho
  cases f with
  | zero=>omega
  | succ f=>
   have hlt:i<l.length:=by omega
   have hq:(!fn 3 (l.getD i .nilp)||(fl 3 (l.getD i .nilp)).isEmpty)=true:=allN_iff.1 hn i hlt
   rw [z31,wrap_up hlt hl]
   simp only [Int.toNat_natCast,dec_lt hlt,dec_ix hlt,cond_true,decide_eq_true (show out.length+1≤4294967296 by omega),eq130]
   have e:toL p l (d+1) i=toN p (l.getD i .nilp)++toL p l d (i+1):=rfl
   rw [e]
   unfold toN
   cases hx:noteX (l.getD i .nilp)
   ·exact ih (i+1) f mv out (by omega) (by omega) (by omega)
   ·have h4:=noteX_few hx
    rw [noteX_nil hx hq]
    cases he:(endX (l.getD i .nilp)==p)
    ·exact ih (i+1) f mv out (by omega) (by omega) (by omega)
    ·refine (ih (i+1) f true (out++[noteC false (l.getD i .nilp)]) (by omega) (by omega) (by rw [List.length_append,List.length_singleton];omega)).trans ?_
     rw [List.append_assoc];rfl
theorem lp31(m n:Nat)(p:Int)(nl:Bool)(l:List D)(hn:hopsNilN l=true)(hl:l.length≤1000000):
  ∀d i f,i+d=l.length→d<f→(resume Dg (callN Dg (m+40)) n f 0 c31 (v31 p nl l (.d (.sl noteSh true [])) [] (i:Nat))).out=some [.sl noteSh (toL p l d i).isEmpty (toL p l d i)]:=by
 intro d
 induction d with
 | zero=>
  intro i f hi hf
  cases f with
  | zero=>omega
  | succ f=>
   have:i=l.length:=by omega
   subst this
   rw [y31]
   exact cf (dec_end _)
 | succ d ih=>
  intro i f hi hf
  cases f with
  | zero=>omega
  | succ f=>
   have hlt:i<l.length:=by omega
   have hq:(!fn 3 (l.getD i .nilp)||(fl 3 (l.getD i .nilp)).isEmpty)=true:=allN_iff.1 hn i hlt
   rw [y31,wrap_up hlt hl]
   simp only [Int.toNat_natCast,dec_lt hlt,dec_ix hlt,cond_true,eq130]
   have e:toL p l (d+1) i=toN p (l.getD i .nilp)++toL p l d (i+1):=rfl
   rw [e]
   unfold toN
   cases hx:noteX (l.getD i .nilp)
   ·exact ih (i+1) f (by omega) (by omega)
   ·have h4:=noteX_few hx
    rw [noteX_nil hx hq]
    cases he:(endX (l.getD i .nilp)==p)
    ·exact ih (i+1) f (by omega) (by omega)
    ·exact lp31o m n p nl l hn hl d (i+1) f false [noteC false (l.getD i .nilp)] (by omega) (by omega) (by rw [List.length_singleton];omega)
theorem rn31(m n:Nat)(p:Int)(nl:Bool)(l:List D)(hn:hopsNilN l=true)(hl:l.length≤1000000)(hf:l.length<n):
  (enterM Dg (callN Dg (m+40)) n c31 [.d (.int .i64 p),.d (.sl noteSh nl l)] []).out=some [.sl noteSh (toL p l l.length 0).isEmpty (toL p l l.length 0)]:=by
 rw [x31]
 exact lp31 m n p nl l hn hl l.length 0 n (by omega) hf
def g30d:List D→Tree (List D)
 | [.int .i64 p,.sl e1 _nl l]=>match Sh.beq e1 noteSh with
  | true=> .ite (hopsNilN l&&decide (l.length≤1000000)) (fun _=> .ret [.sl noteSh (toL p l l.length 0).isEmpty (toL p l l.length 0)]) (fun _=> .stuck)
  | false=> .stuck
 | _=> .stuck
theorem pure30d{P:Program}(hm:P.follows .mixedOrders=true)(h0:EnvOK P Dg):PureOK P 30 g30d:=PureOK.run hm h0 fun ds rs h=>by
 unfold g30d at h
 split at h
 ·rename_i p e1 nl l
  split at h
  ·rename_i hb
   have hb0:=hb
   have hb0:=Sh.beq_eq hb0
   subst hb0
   obtain ⟨hg,h'⟩:=eval_guard h
   clear h
   simp only [Bool.and_eq_true,decide_eq_true_eq] at hg
   cases h'
   exact ⟨(l.length+40)+1,by rw [callN_succ (fn:=c30) rfl];exact rn30 l.length (l.length+40) p nl l hg.1 hg.2 (by omega)⟩
  ·cases h
 ·cases h
def g31d:List D→Tree (List D)
 | [.int .i64 p,.sl e1 _nl l]=>match Sh.beq e1 noteSh with
  | true=> .ite (hopsNilN l&&decide (l.length≤1000000)) (fun _=> .ret [.sl noteSh (toL p l l.length 0).isEmpty (toL p l l.length 0)]) (fun _=> .stuck)
  | false=> .stuck
 | _=> .stuck
theorem pure31d{P:Program}(hm:P.follows .mixedOrders=true)(h0:EnvOK P Dg):PureOK P 31 g31d:=PureOK.run hm h0 fun ds rs h=>by
 unfold g31d at h
 split at h
 ·rename_i p e1 nl l
  split at h
  ·rename_i hb
   have hb0:=hb
   have hb0:=Sh.beq_eq hb0
   subst hb0
   obtain ⟨hg,h'⟩:=eval_guard h
   clear h
   simp only [Bool.and_eq_true,decide_eq_true_eq] at hg
   cases h'
   exact ⟨(l.length+40)+1,by rw [callN_succ (fn:=c31) rfl];exact rn31 l.length (l.length+40) p nl l hg.1 hg.2 (by omega)⟩
  ·cases h
 ·cases h
def Dh:Env:=((Dg.pureAt 30 false g30d).pureAt 31 false g31d).pureAt 25 true g20
theorem okDh{P:Program}(hm:P.follows .mixedOrders=true)(h:EnvOK P Dg)(ha:PureOK P 25 g20):EnvOK P Dh:=((h.pureAt (pure30d hm h)).pureAt (pure31d hm h)).pureAt ha
theorem x7(m n:Nat)(og ep co:Int)(na nm' nb ns:Bool)(zas ms bs ss:List D)(nl:Bool)(l:List D)(p:Int):Tree.out (enterM Dh (callN Dh (m+40)) n c7 [.d (stD og ep co na nm' nb ns zas ms bs ss),.d (.sl noteSh nl l),.d (.int .i64 p)] [])=bif !fewSt zas ms bs ss then some [D.bool true] else bif decide (100<(l.length:Int)) then some [D.bool true] else Tree.out (resume Dh (callN Dh (m+40)) n n 0 c7 { fr:=frame 49 [(1,V.d (D.sl noteSh nl l)),(2,V.d (D.int .i64 p)),(3,V.ptr 256 0),(7,V.d (D.int .i64 0))],ob:=[(256,Obj.box [V.d (D.int .i64 og),V.d (D.int .i64 ep),V.d (D.int .i64 co),V.d (D.sl accSh na zas),V.d (D.sl mrkSh nm' ms),V.d (D.sl defSh nb bs),V.d (D.sl sgSh ns ss)])] }):=by kernel_rfl
def v7(og ep co:Int)(na nm' nb ns:Bool)(zas ms bs ss:List D)(nl:Bool)(l:List D)(p:Int)(i:Int):St:= { fr:=frame 49 [(1,V.d (D.sl noteSh nl l)),(2,V.d (D.int .i64 p)),(3,V.ptr 256 0),(7,V.d (D.int .i64 i))],ob:=[(256,HS og ep co na nm' nb ns zas ms bs ss)] }
theorem y7(m n f:Nat)(og ep co:Int)(na nm' nb ns:Bool)(zas ms bs ss:List D)(nl:Bool)(l:List D)(p:Int)(i:Int):Tree.out (resume Dh (callN Dh (m+40)) n (f+1) 0 c7 (v7 og ep co na nm' nb ns zas ms bs ss nl l p i))=bif decide (i<(l.length:Int)) then bif decide (0≤i∧i<(l.length:Int)) then bif decide (50<(↑(List.length (fl 3 (l.getD i.toNat .nilp))):Int)) then some [D.bool true] else Tree.out (resume Dh (callN Dh (m+40)) n f 0 c7 { fr:=frame 49 [(1,V.d (D.sl noteSh nl l)),(2,V.d (D.int .i64 p)),(3,V.ptr 256 0),(7,V.d (D.int .i64 (IntKind.wrap .i64 (i+1))))],ob:=[(256,Obj.box [V.d (D.int .i64 og),V.d (D.int .i64 ep),V.d (D.int .i64 co),V.d (D.sl accSh na zas),V.d (D.sl mrkSh nm' ms),V.d (D.sl defSh nb bs),V.d (D.sl sgSh ns ss)])] }) else none else bif sgsIn ss&&hopsNil ss then bif sgsIn ss then bif hopsIn 3 (duesAll og ep co zas ms bs ss)&&decide (List.length (duesAll og ep co zas ms bs ss)≤1000000) then bif notesEq (duesAll og ep co zas ms bs ss) (duesAll og ep co zas ms bs ss) then bif hopsNilN l&&decide (l.length≤1000000) then bif hopsNilN l&&decide (l.length≤1000000) then bif hopsIn 3 (toL p l (l.length) 0)&&decide (List.length (toL p l (l.length) 0)≤1000000) then bif notesEq (toL p l (l.length) 0) (toL p l (l.length) 0) then some [D.bool true] else some [D.bool false] else none else none else none else some [D.bool false] else none else none else none:=by kernel_rfl
theorem allX_mem{ss:List D}{x:D}: ∀d i:Nat,x∈allX ss d i→ ∃j,i≤j∧j<i+d∧x∈ofX (ss.getD j .nilp)
 | 0,i,h=>by simp [allX] at h
 | d+1,i,h=>by
  unfold allX at h
  rcases List.mem_append.1 h with h | h
  ·exact ⟨i,by omega,by omega,h⟩
  ·obtain ⟨j,h1,h2,h3⟩:=allX_mem d (i+1) h
   exact ⟨j,by omega,by omega,h3⟩
theorem allX_le{ss:List D}(h: ∀i,i<ss.length→mayS (ss.getD i .nilp)=true): ∀d i:Nat,i+d≤ss.length→(allX ss d i).length≤9*d
 | 0,i,_=>by simp [allX]
 | d+1,i,hi=>by
  have:=allX_le h d (i+1) (by omega)
  have:=ofX_le (h i (by omega))
  unfold allX
  rw [List.length_append];omega
theorem duesAll_in{og ep co:Int}{zas ms bs ss:List D}:(∀x∈duesAll og ep co zas ms bs ss,(fl 3 x).length≤5)∧(duesAll og ep co zas ms bs ss).length≤1000:=by
 unfold duesAll
 cases h:mayR og ep co zas ms bs ss
 ·exact ⟨(fun _ h=>by cases h),by simp⟩
 ·have hm:=fun i hi=>((mayR_all h).1 i hi).1
  have h24:=mayR_24 h
  refine ⟨fun x hx=> ?_,?_⟩
  ·obtain ⟨j,-,hj,hx⟩:=allX_mem _ _ hx
   have:=ofL_in hx
   have:=(may_lens (hm j (by omega))).2.2
   omega
  ·have:=allX_le hm ss.length 0 (by omega)
   show (allX ss ss.length 0).length≤1000
   omega
theorem toL_in{p:Int}{l:List D}: ∀d i:Nat,(∀x∈toL p l d i,(fl 3 x).length≤4)∧(toL p l d i).length≤d
 | 0,i=>⟨(fun _ h=>by cases h),by simp [toL]⟩
 | d+1,i=>by
  obtain ⟨h1,h2⟩:=toL_in (p:=p) (l:=l) d (i+1)
  have h3:(∀x∈toN p (l.getD i .nilp),(fl 3 x).length≤4)∧(toN p (l.getD i .nilp)).length≤1:=by
   unfold toN
   cases hx:noteX (l.getD i .nilp)
   ·exact ⟨(fun _ h=>by cases h),by simp⟩
   ·cases (endX (l.getD i .nilp)==p)
    ·exact ⟨(fun _ h=>by cases h),by simp⟩
    ·refine ⟨fun x hm=> ?_,by simp⟩
     obtain rfl:=List.mem_singleton.1 hm
     exact (noteX_few hx).2
  unfold toL
  refine ⟨fun x hx=> ?_,by rw [List.length_append];omega⟩
  rcases List.mem_append.1 hx with h | h
  ·exact h3.1 x h
  ·exact h1 x h
theorem hopsNil_of{ss:List D}(h:nilS ss):hopsNil ss=true:=allN_iff.2 fun i hi=>by
 cases hf:fn 2 (ss.getD i .nilp)
 ·rfl
 ·rw [(h i hi).1 hf];rfl
def nilN(l:List D):Prop:= ∀i,i<l.length→fn 3 (l.getD i .nilp)=true→fl 3 (l.getD i .nilp)=[]
theorem hopsNilN_of{l:List D}(h:nilN l):hopsNilN l=true:=allN_iff.2 fun i hi=>by
 cases hf:fn 3 (l.getD i .nilp)
 ·rfl
 ·rw [h i hi hf];rfl
theorem few_in{zas ms bs ss:List D}(h:fewSt zas ms bs ss=true):sgsIn ss=true:=by
 unfold fewSt at h
 simp only [Bool.and_eq_true,Bool.not_eq_true',decide_eq_false_iff_not,allN_iff] at h
 obtain ⟨-,-,hs,-,hf,-⟩:=h
 refine allN_iff.2 fun i hi=> ?_
 have:=hf i hi
 unfold fewS few at this
 simp only [Bool.and_eq_true,decide_eq_true_eq] at this
 unfold sgIn
 rw [decide_eq_true (by omega),decide_eq_true (by omega),decide_eq_true (by omega)];rfl
theorem duesall(m n:Nat)(og ep co:Int)(na nm' nb ns:Bool)(zas ms bs ss:List D)(nl:Bool)(l:List D)(p:Int)(h1:nilS ss)(h3:nilN l)(hn:101<n):
  (enterM Dh (callN Dh (m+40)) n c7 [.d (stD og ep co na nm' nb ns zas ms bs ss),.d (.sl noteSh nl l),.d (.int .i64 p)] []).out=some [.bool true]:=by
 rw [x7]
 cases hf:fewSt zas ms bs ss
 ·rfl
 ·refine (cf rfl).trans ?_
  by_cases he:100<(l.length:Int)
  ·rw [decide_eq_true he];rfl
  ·rw [decide_eq_false he]
   refine (cf rfl).trans ?_
   have a:=few_in hf
   have b:=hopsNil_of h1
   have b3:=hopsNilN_of h3
   obtain ⟨d1,d2⟩:=duesAll_in (og:=og) (ep:=ep) (co:=co) (zas:=zas) (ms:=ms) (bs:=bs) (ss:=ss)
   obtain ⟨t1,t2⟩:=toL_in (p:=p) (l:=l) l.length 0
   have:=scan_loop (fun j i=>(resume Dh (callN Dh (m+40)) n j 0 c7 (v7 og ep co na nm' nb ns zas ms bs ss nl l p (i:Nat))).out) l.length (fun i=>decide (50<((fl 3 (l.getD i .nilp)).length:Int))) (fun _=>[D.bool true]) [.bool true]
    (fun j i hi=> ?_) (fun j=> ?_) l.length 0 n (by omega) (by omega)
   ·refine this.trans ?_
    have: ∀k i,scan (fun i=>decide (50<((fl 3 (l.getD i .nilp)).length:Int))) (fun _=>[D.bool true]) [D.bool true] k i=[D.bool true]:=by
     intro k
     induction k with
     | zero=>intro i;rfl
     | succ k ih=>
      intro i
      simp only [scan,ih]
      cases decide (50<((fl 3 (l.getD i .nilp)).length:Int)) <;> rfl
    rw [this]
   ·show (resume Dh (callN Dh (m+40)) n (j+1) 0 c7 (v7 og ep co na nm' nb ns zas ms bs ss nl l p (i:Nat))).out=_
    rw [y7,wrap_up hi (by omega)]
    simp only [Int.toNat_natCast]
    refine (ct (dec_lt hi)).trans ((ct (dec_ix hi)).trans ?_)
    cases decide (50<((fl 3 (l.getD i .nilp)).length:Int)) <;> rfl
   ·show (resume Dh (callN Dh (m+40)) n (j+1) 0 c7 (v7 og ep co na nm' nb ns zas ms bs ss nl l p (l.length:Nat))).out=_
    rw [y7,a,b,b3,notesEq_self,notesEq_self,hopsIn_all (fun x hx=>by have:=d1 x hx;omega),hopsIn_all (fun x hx=>by have:=t1 x hx;omega),decide_eq_true (show (duesAll og ep co zas ms bs ss).length≤1000000 by omega),decide_eq_true (show (toL p l l.length 0).length≤1000000 by omega),decide_eq_true (show l.length≤1000000 by omega)]
    refine (cf (dec_end _)).trans ?_
    rfl
theorem okDgt:EnvOK Tryz.prog Dg:=okDg mixed okDdt
theorem okDht:EnvOK Tryz.prog Dh:=okDh mixed okDgt pureAw27
theorem notes_in{l:List D}(h: ∀x∈l,WF noteTy.sh x):nilN l:=fun i hi=>by
 obtain ⟨k,r,q,w,nil,es,df,e,h1⟩:=note_in (h _ (getD_mem hi))
 rw [e]
 exact h1
end Go.Proofs.YtkjiaijkdefkgaaGreatDoor.A
