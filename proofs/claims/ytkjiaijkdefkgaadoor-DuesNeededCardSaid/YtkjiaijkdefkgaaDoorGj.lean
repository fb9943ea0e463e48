/- Parts of the walk: QDf, Df, QDh, Dh, Di, PV, Cx, QDj, Dj, Dk, Dl, QDm, Lf, Dn. -/
import Derived.Test.YtkjiaijkdefkgaaDoorGi
import Derived.KernelRfl
open Go Go.AM Go.Proofs
namespace Go.Proofs.YtkjiaijkdefkgaaDoor.A
def ofX(x:D):List D:=ofL (fi 0 x) (fi 1 x) (fi 5 x) (fi 6 x) (fn 2 x) (fb 8 x) (fl 2 x) (fl 4 x) (fl 7 x) (fs 3 x)
def v28(og ep co:Int)(na nm' nb ns:Bool)(zas ms bs ss:List D)(x:V)(l:Obs)(i:Int):St:= { fr:=frame 22 [(3,x),(10,V.d (D.sl sgSh ns ss)),(11,V.d (D.int .i64 (ss.length:Int))),(12,V.d (D.int .i64 i))],ob:=(128,HS og ep co na nm' nb ns zas ms bs ss) :: l }
theorem x66(m n:Nat)(k r q w:Int)(nil:Bool)(es:List D)(df:List UInt8):Tree.out (enterM Dd (callN Dd (m+40)) n c9 [.d (noteD k r q nil es df w)] [])=bif !nil||List.isEmpty es then bif (bif noteOk k r q es df w then (0:Int) else (130:Int)) != 0 then some [D.int .i64 (-1),D.int .i64 (-1)] else bif (bif idOk r q es then (0:Int) else (30:Int)) != 0 then bif decide (k≤4) then some [D.int .i64 (-1),D.int .i64 (orgOfId r q es)] else some [D.int .i64 (orgOfId r q es),D.int .i64 (-1)] else bif decide (IntKind.wrap .i64 ((es.length:Int) - 1)<0) then bif decide (k≤4) then some [D.int .i64 (-1),D.int .i64 (orgOfId r q es)] else some [D.int .i64 (orgOfId r q es),D.int .i64 (-1)] else bif decide (0≤IntKind.wrap .i64 ((es.length:Int) - 1)∧IntKind.wrap .i64 ((es.length:Int) - 1)≤(es.length:Int)) then bif nil then bif decide (0≤IntKind.wrap .i64 ((es.length:Int) - 1)∧IntKind.wrap .i64 ((es.length:Int) - 1)<(es.length:Int)) then bif decide (k≤4) then some [D.int .i64 (orgOfId r q []),D.int .i64 (orgOfId r q es)] else some [D.int .i64 (orgOfId r q es),D.int .i64 (orgOfId r q [])] else none else bif decide (List.length (List.take (Int.toNat (IntKind.wrap .i64 ((es.length:Int) - 1)) - 0) es)≤1000000) then bif decide (0≤IntKind.wrap .i64 ((es.length:Int) - 1)∧IntKind.wrap .i64 ((es.length:Int) - 1)<(es.length:Int)) then bif decide (k≤4) then some [D.int .i64 (orgOfId r q (List.take (Int.toNat (IntKind.wrap .i64 ((es.length:Int) - 1)) - 0) es)),D.int .i64 (orgOfId r q es)] else some [D.int .i64 (orgOfId r q es),D.int .i64 (orgOfId r q (List.take (Int.toNat (IntKind.wrap .i64 ((es.length:Int) - 1)) - 0) es))] else none else none else none else none:=by kernel_rfl
theorem x28(m n:Nat)(og ep co:Int)(na nm' nb ns:Bool)(zas ms bs ss:List D):Tree.out (enterM Dd (callN Dd (m+40)) n c7 [.d (stD og ep co na nm' nb ns zas ms bs ss)] [])=bif sgsIn ss then bif (bif mayR og ep co zas ms bs ss then (0:Int) else (230:Int)) != 0 then some [D.sl noteSh true []] else Tree.out (resume Dd (callN Dd (m+40)) n n 0 c7 (v28 og ep co na nm' nb ns zas ms bs ss (V.d (D.sl noteSh true [])) [] 0)) else none:=by kernel_rfl
theorem y28(m n f:Nat)(og ep co:Int)(na nm' nb ns:Bool)(zas ms bs ss:List D)(i:Int):Tree.out (resume Dd (callN Dd (m+40)) n (f+1) 0 c7 (v28 og ep co na nm' nb ns zas ms bs ss (.d (.sl noteSh true [])) [] i))=bif decide (i<(ss.length:Int)) then bif decide (0≤i∧i<(ss.length:Int)) then bif (!fn 2 (ss.getD i.toNat .nilp)||List.isEmpty (fl 2 (ss.getD i.toNat .nilp)))&&(decide (List.length (fl 2 (ss.getD i.toNat .nilp))≤1000000)&&(decide (List.length (fl 4 (ss.getD i.toNat .nilp))≤1000000)&&(decide (List.length (fl 7 (ss.getD i.toNat .nilp))≤1000000)&&decide (List.length (fl 4 (ss.getD i.toNat .nilp))≤List.length (fl 7 (ss.getD i.toNat .nilp)))))) then bif decide (List.length (ofX (ss.getD i.toNat .nilp))≤4294967296) then Tree.out (resume Dd (callN Dd (m+40)) n f 0 c7 (v28 og ep co na nm' nb ns zas ms bs ss (V.own 1280) [(1280,Obj.lst noteSh (List.isEmpty (ofX (ss.getD i.toNat .nilp))) false false (ofX (ss.getD i.toNat .nilp)))] (IntKind.wrap .i64 (i+1)))) else none else none else none else some [D.sl noteSh true []]:=by kernel_rfl
theorem z28(m n f:Nat)(og ep co:Int)(na nm' nb ns:Bool)(zas ms bs ss:List D)(nl mv:Bool)(out:List D)(i:Int):Tree.out (resume Dd (callN Dd (m+40)) n (f+1) 0 c7 (v28 og ep co na nm' nb ns zas ms bs ss (.own 1280) [(1280,.lst noteSh nl mv false out)] i))=bif decide (i<(ss.length:Int)) then bif decide (0≤i∧i<(ss.length:Int)) then bif (!fn 2 (ss.getD i.toNat .nilp)||List.isEmpty (fl 2 (ss.getD i.toNat .nilp)))&&(decide (List.length (fl 2 (ss.getD i.toNat .nilp))≤1000000)&&(decide (List.length (fl 4 (ss.getD i.toNat .nilp))≤1000000)&&(decide (List.length (fl 7 (ss.getD i.toNat .nilp))≤1000000)&&decide (List.length (fl 4 (ss.getD i.toNat .nilp))≤List.length (fl 7 (ss.getD i.toNat .nilp)))))) then bif decide (out.length+List.length (ofX (ss.getD i.toNat .nilp))≤4294967296) then Tree.out (resume Dd (callN Dd (m+40)) n f 0 c7 (v28 og ep co na nm' nb ns zas ms bs ss (V.own 1280) [(1280,Obj.lst noteSh (nl&&List.isEmpty (ofX (ss.getD i.toNat .nilp))) true false (List.append out (ofX (ss.getD i.toNat .nilp))))] (IntKind.wrap .i64 (i+1)))) else none else none else none else some [D.sl noteSh nl out]:=by kernel_rfl
open Go Go.AM
set_option maxRecDepth 20000
def dnO(r:Int)(es:List D):Int:=fi 0 ((orgs r es).getD es.length .nilp)
def upO(r:Int)(es:List D):Int:=fi 0 ((orgs r es).getD (es.length - 1) .nilp)
def endF(k r q w:Int)(es:List D)(df:List UInt8):Int:=bif noteOk k r q es df w then bif decide (k≤4) then upO r es else dnO r es else -1
def endT(k r q w:Int)(es:List D)(df:List UInt8):Int:=bif noteOk k r q es df w then bif decide (k≤4) then dnO r es else upO r es else -1
theorem take_getD{l:List D}{k i:Nat}(h:i<k):(l.take k).getD i .nilp=l.getD i .nilp:=by
 rw [List.getD_eq_getElem?_getD,List.getD_eq_getElem?_getD,List.getElem?_take_of_lt h]
theorem idOk_take{r q:Int}{es:List D}(k:Nat)(h:idOk r q es=true):idOk r q (es.take k)=true:=by
 rw [idOk_iff] at h ⊢
 obtain ⟨h1,h2,h3,h4,h5⟩:=h
 have hl:(es.take k).length≤k∧(es.take k).length≤es.length:=by rw [List.length_take];omega
 refine ⟨h1,by omega,h3,fun i hi=> ?_,fun i j hij hj=> ?_⟩
 ·rw [take_getD (by omega)];exact h4 i (by omega)
 ·rw [take_getD (by omega),take_getD (by omega)];exact h5 i j hij (by omega)
theorem noteOk_iff{k r q w:Int}{es:List D}{df:List UInt8}:noteOk k r q es df w=true↔(1≤k∧k≤7)∧idOk r q es=true∧es.length≠0∧(bif k==1 then name df else df==[])=true∧(bif k==6 then decide (1≤w)&&decide (w≤9) else w==0)=true:=by
 unfold noteOk
 simp only [Bool.and_eq_true,Bool.not_eq_true',decide_eq_false_iff_not,beq_eq_false_iff_ne]
 constructor
 ·rintro ⟨h1,h2,h3,h4,h5,h6⟩
  exact ⟨⟨by omega,by omega⟩,h3,by omega,h5,h6⟩
 ·rintro ⟨⟨h1,h2⟩,h3,h4,h5,h6⟩
  exact ⟨by omega,by omega,h3,by omega,h5,h6⟩
theorem org_dn{r q:Int}{es:List D}(h:idOk r q es=true):orgOfId r q es=dnO r es:=by
 unfold orgOfId
 rw [h];rfl
theorem org_up{r q:Int}{es:List D}(h:idOk r q es=true)(h0:es.length≠0):orgOfId r q (es.take (es.length - 1))=upO r es:=by
 unfold orgOfId upO
 rw [idOk_take _ h,List.length_take,show min (es.length - 1) es.length=es.length - 1 by omega]
 show fi 0 ((orgs r (es.take (es.length - 1))).getD (es.length - 1) .nilp)=_
 have e:orgs r (es.take (es.length - 1))=(orgs r es).take es.length:=by
  unfold orgs
  obtain ⟨n,hn⟩: ∃n,es.length=n+1:=⟨es.length - 1,by omega⟩
  rw [hn,List.take_succ_cons,Nat.add_sub_cancel,List.map_take]
 rw [e,take_getD (by omega)]
theorem rn66(m n:Nat)(k r q w:Int)(nil:Bool)(es:List D)(df:List UInt8)(h1:nil=true→es=[]):
  (enterM Dd (callN Dd (m+40)) n c9 [.d (noteD k r q nil es df w)] []).out=some [.int .i64 (endF k r q w es df),.int .i64 (endT k r q w es df)]:=by
 have hg:(!nil||es.isEmpty)=true:=by
  cases nil with
  | false=>rfl
  | true=>rw [h1 rfl];rfl
 rw [x66,hg]
 simp only [ne0 _ 130 (by decide),ne0 _ 30 (by decide)]
 unfold endF endT
 cases hn:noteOk k r q es df w
 ·rfl
 ·obtain ⟨-,hid,h0,-,-⟩:=noteOk_iff.1 hn
  have h4:=(idOk_iff.1 hid).2.1
  have hnil:nil=false:=by
   cases nil with
   | false=>rfl
   | true=>exact absurd (by rw [h1 rfl];rfl) h0
  subst hnil
  have hw:IntKind.wrap .i64 ((es.length:Int) - 1)=((es.length - 1:Nat):Int):=by rw [wrap_i64 (by omega) (by omega)];omega
  rw [hw,hid,org_dn hid,Int.toNat_natCast,Nat.sub_zero,org_up hid h0,decide_eq_false (show¬(((es.length - 1:Nat):Int)<0) by omega),decide_eq_true (show (0:Int)≤((es.length - 1:Nat):Int)∧((es.length - 1:Nat):Int)≤(es.length:Int) by omega),decide_eq_true (show (0:Int)≤((es.length - 1:Nat):Int)∧((es.length - 1:Nat):Int)<(es.length:Int) by omega),
   decide_eq_true (show (es.take (es.length - 1)).length≤1000000 by rw [List.length_take];omega)]
  cases decide (k≤4) <;> rfl
def allX(ss:List D):Nat→Nat→List D
 | 0,_=>[]
 | d+1,i=>ofX (ss.getD i .nilp)++allX ss d (i+1)
def hopsNil(ss:List D):Bool:=allN (fun i=> !fn 2 (ss.getD i .nilp)||(fl 2 (ss.getD i .nilp)).isEmpty) ss.length
def duesAll(og ep co:Int)(zas ms bs ss:List D):List D:=bif mayR og ep co zas ms bs ss then allX ss ss.length 0 else []
theorem ofX_le{x:D}(h:mayS x=true):(ofX x).length≤9:=by
 have:=ofL_le (rt:=fi 0 x) (nn:=fi 1 x) (st:=fi 5 x) (wy:=fi 6 x) (n1:=fn 2 x) (fc:=fb 8 x) (hops:=fl 2 x) (steps:=fl 4 x) (parts:=fl 7 x) (nm:=fs 3 x)
 obtain ⟨h1,h2,h3⟩:=may_lens h
 unfold ofX;omega
theorem app_empty(a b:List D):(a.isEmpty&&b.isEmpty)=(a++b).isEmpty:=by cases a <;> simp
theorem mayR_24{og ep co:Int}{zas ms bs ss:List D}(h:mayR og ep co zas ms bs ss=true):ss.length≤24:=by
 unfold mayR at h
 simp only [Bool.and_eq_true,Bool.not_eq_true',decide_eq_false_iff_not] at h
 omega
theorem lp28o(m n:Nat)(og ep co:Int)(na nm' nb ns:Bool)(zas ms bs ss:List D)(h: ∀i,i<ss.length→mayS (ss.getD i .nilp)=true)(hn:hopsNil ss=true)(hl:ss.length≤24):
  ∀d i f mv out,i+d=ss.length→d<f→out.length+9*d≤1000→(resume Dd (callN Dd (m+40)) n f 0 c7 (v28 og ep co na nm' nb ns zas ms bs ss (.own 1280) [(1280,.lst noteSh out.isEmpty mv false out)] (i:Nat))).out=some [.sl noteSh (out++allX ss d i).isEmpty (out++allX ss d i)]:=by
 intro d
 induction d with
 | zero=>
  intro i f mv out hi hf ho
  cases f with
  | zero=>omega
  | succ f=>
   have:i=ss.length:=by omega
   subst this
   rw [z28]
   refine (cf (dec_end _)).trans ?_
   unfold allX
   rw [List.append_nil]
 | succ d ih=>
  intro i f mv out hi hf ho
  cases f with
  | zero=>omega
  | succ f=>
   have hlt:i<ss.length:=by omega
   have hm:=h i hlt
   obtain ⟨p1,p2,p3⟩:=may_lens hm
   have hx:=ofX_le hm
   have hq:(!fn 2 (ss.getD i .nilp)||(fl 2 (ss.getD i .nilp)).isEmpty)=true:=allN_iff.1 hn i hlt
   rw [z28,wrap_up hlt (by omega)]
   simp only [Int.toNat_natCast,dec_lt hlt,dec_ix hlt,cond_true]
   rw [hq,decide_eq_true (show (fl 2 (ss.getD i .nilp)).length≤1000000 by omega),decide_eq_true (show (fl 4 (ss.getD i .nilp)).length≤1000000 by omega),decide_eq_true (show (fl 7 (ss.getD i .nilp)).length≤1000000 by omega),decide_eq_true (show (fl 4 (ss.getD i .nilp)).length≤(fl 7 (ss.getD i .nilp)).length by omega),decide_eq_true (show out.length+(ofX (ss.getD i .nilp)).length≤4294967296 by omega),app_empty]
   refine (ih (i+1) f true (out++ofX (ss.getD i .nilp)) (by omega) (by omega) (by rw [List.length_append];omega)).trans ?_
   rw [List.append_assoc];rfl
theorem rn28(m n:Nat)(og ep co:Int)(na nm' nb ns:Bool)(zas ms bs ss:List D)(hi:sgsIn ss=true)(hn:hopsNil ss=true)(hf:30≤n):
  (enterM Dd (callN Dd (m+40)) n c7 [.d (stD og ep co na nm' nb ns zas ms bs ss)] []).out=some [.sl noteSh (duesAll og ep co zas ms bs ss).isEmpty (duesAll og ep co zas ms bs ss)]:=by
 rw [x28,hi,ne0 _ 230 (by decide)]
 unfold duesAll
 cases hm:mayR og ep co zas ms bs ss
 ·rfl
 ·have h24:=mayR_24 hm
  have hs:=fun i hi=>((mayR_all hm).1 i hi).1
  show (resume Dd (callN Dd (m+40)) n n 0 c7 _).out=some [.sl noteSh (allX ss ss.length 0).isEmpty (allX ss ss.length 0)]
  cases n with
  | zero=>omega
  | succ n=>
   rw [y28]
   cases hl:ss.length with
   | zero=>rfl
   | succ d=>
    have hlt:0<ss.length:=by omega
    obtain ⟨p1,p2,p3⟩:=may_lens (hs 0 hlt)
    have hx:=ofX_le (hs 0 hlt)
    have hq:(!fn 2 (ss.getD 0 .nilp)||(fl 2 (ss.getD 0 .nilp)).isEmpty)=true:=allN_iff.1 hn 0 hlt
    have hz:((0:Int)).toNat=0:=rfl
    rw [hz,hq,decide_eq_true (show (0:Int)<((d+1:Nat):Int) by omega),decide_eq_true (show (0:Int)≤0∧(0:Int)<((d+1:Nat):Int) by omega),decide_eq_true (show (fl 2 (ss.getD 0 .nilp)).length≤1000000 by omega),decide_eq_true (show (fl 4 (ss.getD 0 .nilp)).length≤1000000 by omega),decide_eq_true (show (fl 7 (ss.getD 0 .nilp)).length≤1000000 by omega),decide_eq_true (show (fl 4 (ss.getD 0 .nilp)).length≤(fl 7 (ss.getD 0 .nilp)).length by omega),decide_eq_true (show (ofX (ss.getD 0 .nilp)).length≤4294967296 by omega)]
    exact lp28o m (n+1) og ep co na nm' nb ns zas ms bs ss hs hn h24 d 1 n false (ofX (ss.getD 0 .nilp)) (by omega) (by omega) (by omega)
def g66d:List D→Tree (List D)
 | [.agg [.int .i64 k,.int .i64 r,.int .i64 q,.sl e0 nil es,.str df,.int .i64 w]]=>match Sh.beq e0 hopSh with
  | true=> .ite (!nil||es.isEmpty) (fun _=> .ret [.int .i64 (endF k r q w es df),.int .i64 (endT k r q w es df)]) (fun _=> .stuck)
  | false=> .stuck
 | _=> .stuck
theorem pure66d{P:Program}(hm:P.follows .mixedOrders=true)(h0:EnvOK P Dd):PureOK P 9 g66d:=PureOK.run hm h0 fun ds rs h=>by
 unfold g66d at h
 split at h
 ·rename_i k r q e0 nil es df w
  split at h
  ·rename_i hb
   have hb0:=hb
   have hb0:=Sh.beq_eq hb0
   subst hb0
   obtain ⟨hg,h'⟩:=eval_guard h
   clear h
   cases h'
   exact ⟨59+1,by rw [callN_succ (fn:=c9) rfl];exact rn66 19 59 k r q w nil es df (fun h=>by rw [h] at hg;exact List.isEmpty_iff.1 hg)⟩
  ·cases h
 ·cases h
def g28d:List D→Tree (List D)
 | [.agg [.int .i64 og,.int .i64 ep,.int .i64 co,.sl e0a _na zas,.sl e0m _nm' ms,.sl e0b _nb bs,.sl e0s _ns ss]]=>match Sh.beq e0a accSh&&Sh.beq e0m mrkSh&&Sh.beq e0b defSh&&Sh.beq e0s sgSh with
  | true=> .ite (sgsIn ss&&hopsNil ss) (fun _=> .ret [.sl noteSh (duesAll og ep co zas ms bs ss).isEmpty (duesAll og ep co zas ms bs ss)]) (fun _=> .stuck)
  | false=> .stuck
 | _=> .stuck
theorem pure28d{P:Program}(hm:P.follows .mixedOrders=true)(h0:EnvOK P Dd):PureOK P 7 g28d:=PureOK.run hm h0 fun ds rs h=>by
 unfold g28d at h
 split at h
 ·rename_i og ep co e0a na zas e0m nm' ms e0b nb bs e0s ns ss
  split at h
  ·rename_i hb
   simp only [Bool.and_eq_true] at hb
   obtain ⟨⟨⟨hb0,hb1⟩,hb2⟩,hb3⟩:=hb
   have hb0:=Sh.beq_eq hb0
   have hb1:=Sh.beq_eq hb1
   have hb2:=Sh.beq_eq hb2
   have hb3:=Sh.beq_eq hb3
   subst hb0 hb1 hb2 hb3
   obtain ⟨hg,h'⟩:=eval_guard h
   clear h
   cases h'
   exact ⟨59+1,by rw [callN_succ (fn:=c7) rfl];exact rn28 19 59 og ep co na nm' nb ns zas ms bs ss (Bool.and_eq_true _ _ ▸ hg).1 (Bool.and_eq_true _ _ ▸ hg).2 (by omega)⟩
  ·cases h
 ·cases h
def Dg:Env:=(Dd.pureAt 9 false g66d).pureAt 7 false g28d
theorem okDg{P:Program}(hm:P.follows .mixedOrders=true)(h:EnvOK P Dd):EnvOK P Dg:=(h.pureAt (pure66d hm h)).pureAt (pure28d hm h)
def noteX(x:D):Bool:=noteOk (fi 0 x) (fi 1 x) (fi 2 x) (fl 3 x) (fs 4 x) (fi 5 x)
def endX(x:D):Int:=endT (fi 0 x) (fi 1 x) (fi 2 x) (fi 5 x) (fl 3 x) (fs 4 x)
def Dh:Env:=Dg.pureAt 6 true g20
theorem okDh{P:Program}(h:EnvOK P Dg)(ha:PureOK P 6 g20):EnvOK P Dh:=h.pureAt ha
theorem allX_mem{ss:List D}{x:D}: ∀d i:Nat,x∈allX ss d i→ ∃j,i≤j∧j<i+d∧x∈ofX (ss.getD j .nilp)
 | 0,i,h=>by simp [allX] at h
 | d+1,i,h=>by
  unfold allX at h
  rcases List.mem_append.1 h with h | h
  ·exact ⟨i,by omega,by omega,h⟩
  ·obtain ⟨j,h1,h2,h3⟩:=allX_mem d (i+1) h
   exact ⟨j,by omega,by omega,h3⟩
theorem allX_le{ss:List D}(h: ∀i,i<ss.length→mayS (ss.getD i .nilp)=true): ∀d i:Nat,i+d≤ss.length→(allX ss d i).length≤9*d
 | 0,i,_=>by simp [allX]
 | d+1,i,hi=>by
  have:=allX_le h d (i+1) (by omega)
  have:=ofX_le (h i (by omega))
  unfold allX
  rw [List.length_append];omega
theorem duesAll_in{og ep co:Int}{zas ms bs ss:List D}:(∀x∈duesAll og ep co zas ms bs ss,(fl 3 x).length≤5)∧(duesAll og ep co zas ms bs ss).length≤1000:=by
 unfold duesAll
 cases h:mayR og ep co zas ms bs ss
 ·exact ⟨(fun _ h=>by cases h),by simp⟩
 ·have hm:=fun i hi=>((mayR_all h).1 i hi).1
  have h24:=mayR_24 h
  refine ⟨fun x hx=> ?_,?_⟩
  ·obtain ⟨j,-,hj,hx⟩:=allX_mem _ _ hx
   have:=ofL_in hx
   have:=(may_lens (hm j (by omega))).2.2
   omega
  ·have:=allX_le hm ss.length 0 (by omega)
   show (allX ss ss.length 0).length≤1000
   omega
theorem hopsNil_of{ss:List D}(h:nilS ss):hopsNil ss=true:=allN_iff.2 fun i hi=>by
 cases hf:fn 2 (ss.getD i .nilp)
 ·rfl
 ·rw [(h i hi).1 hf];rfl
theorem few_in{zas ms bs ss:List D}(h:fewSt zas ms bs ss=true):sgsIn ss=true:=by
 unfold fewSt at h
 simp only [Bool.and_eq_true,Bool.not_eq_true',decide_eq_false_iff_not,allN_iff] at h
 obtain ⟨-,-,hs,-,hf,-⟩:=h
 refine allN_iff.2 fun i hi=> ?_
 have:=hf i hi
 unfold fewS few at this
 simp only [Bool.and_eq_true,decide_eq_true_eq] at this
 unfold sgIn
 rw [decide_eq_true (by omega),decide_eq_true (by omega),decide_eq_true (by omega)];rfl
theorem okDgt:EnvOK Tryd.prog Dg:=okDg mixed okDdt
theorem okDht:EnvOK Tryd.prog Dh:=okDh okDgt pureAw27
def Dx:Env:=Dh
def endY(x:D):Int:=endF (fi 0 x) (fi 1 x) (fi 2 x) (fi 5 x) (fl 3 x) (fs 4 x)
def v903(og ep co:Int)(na nm' nb ns:Bool)(zas ms bs ss:List D)(nl:Bool)(l:List D)(i:Int):St:= { fr:=frame 70 [(1,V.ptr 128 0),(3,V.d (D.sl noteSh nl l)),(4,V.d (D.int .i64 i))],ob:=[(128,HS og ep co na nm' nb ns zas ms bs ss)] }
def w903(og ep co:Int)(na nm' nb ns:Bool)(zas ms bs ss:List D)(nl:Bool)(l:List D)(i k:Int):St:= { fr:=frame 70 [(1,V.ptr 128 0),(3,V.d (D.sl noteSh nl l)),(4,V.d (D.int .i64 i)),(7,V.d (D.int .i64 k))],ob:=[(128,HS og ep co na nm' nb ns zas ms bs ss)] }
def v916(nl:Bool)(l:List D)(up:Bool)(c i:Int):St:= { fr:=frame 24 [(0,V.d (D.sl noteSh nl l)),(1,V.d (D.bool up)),(5,V.d (D.int .i64 c)),(6,V.d (D.int .i64 i))],ob:=[] }
theorem x903(m n:Nat)(og ep co:Int)(na nm' nb ns:Bool)(zas ms bs ss:List D):Tree.out (enterM Dx (callN Dx (m+40)) n c3 [.d (stD og ep co na nm' nb ns zas ms bs ss)] [])=bif !fewSt zas ms bs ss then some [D.bool true] else bif sgsIn ss&&hopsNil ss then bif sgsIn ss then bif (bif mayR og ep co zas ms bs ss then (0:Int) else (230:Int)) != 0 then bif (↑(List.length (duesAll og ep co zas ms bs ss)):Int)==0 then some [D.bool true] else some [D.bool false] else Tree.out (resume Dx (callN Dx (m+40)) n n 0 c3 { fr:=frame 70 [(1,V.ptr 128 0),(3,V.d (D.sl noteSh (List.isEmpty (duesAll og ep co zas ms bs ss)) (duesAll og ep co zas ms bs ss))),(4,V.d (D.int .i64 0))],ob:=[(128,HS og ep co na nm' nb ns zas ms bs ss)] }) else none else none:=by kernel_rfl
theorem x916(m n:Nat)(nl:Bool)(l:List D)(up:Bool):Tree.out (enterM Dx (callN Dx (m+40)) n c16 [.d (.sl noteSh nl l),.d (.bool up)] [])=Tree.out (resume Dx (callN Dx (m+40)) n n 0 c16 { fr:=frame 24 [(0,V.d (D.sl noteSh nl l)),(1,V.d (D.bool up)),(5,V.d (D.int .i64 0)),(6,V.d (D.int .i64 0))],ob:=[] }):=by kernel_rfl
theorem y903(m n f:Nat)(og ep co:Int)(na nm' nb ns:Bool)(zas ms bs ss:List D)(nl:Bool)(l:List D)(i:Int):Tree.out (resume Dx (callN Dx (m+40)) n (f+1) 0 c3 (v903 og ep co na nm' nb ns zas ms bs ss nl l i))=bif decide (i<(l.length:Int)) then bif decide (0≤i∧i<(l.length:Int)) then bif !fn 3 (l.getD i.toNat .nilp)||List.isEmpty (fl 3 (l.getD i.toNat .nilp)) then bif decide (0≤i∧i<(l.length:Int)) then bif !fn 3 (l.getD i.toNat .nilp)||List.isEmpty (fl 3 (l.getD i.toNat .nilp)) then bif (bif noteX (l.getD i.toNat .nilp) then (0:Int) else (130:Int)) != 0 then some [D.bool false] else bif endY (l.getD i.toNat .nilp) != og then some [D.bool false] else bif endX (l.getD i.toNat .nilp)==og then some [D.bool false] else Tree.out (resumeL Dx (callN Dx (m+40)) n [(0,f),(1,n)] c3 (w903 og ep co na nm' nb ns zas ms bs ss nl l i 0)) else none else none else none else none else some [D.bool true]:=by kernel_rfl
theorem z903(m n jo f:Nat)(og ep co:Int)(na nm' nb ns:Bool)(zas ms bs ss:List D)(nl:Bool)(l:List D)(i k:Int):Tree.out (resumeL Dx (callN Dx (m+40)) n [(0,jo),(1,f+1)] c3 (w903 og ep co na nm' nb ns zas ms bs ss nl l i k))=bif decide (k<i) then bif decide (0≤i∧i<(l.length:Int)) then bif decide (0≤k∧k<(l.length:Int)) then bif fi 0 (l.getD i.toNat .nilp)==fi 0 (l.getD k.toNat .nilp) then bif decide (List.length (fl 3 (l.getD i.toNat .nilp))≤1000000) then bif refCmp (fi 1 (l.getD i.toNat .nilp)) (fi 2 (l.getD i.toNat .nilp)) (fl 3 (l.getD i.toNat .nilp)) (fi 1 (l.getD k.toNat .nilp)) (fi 2 (l.getD k.toNat .nilp)) (fl 3 (l.getD k.toNat .nilp))==0 then bif fs 4 (l.getD i.toNat .nilp)==fs 4 (l.getD k.toNat .nilp) then bif fi 5 (l.getD i.toNat .nilp)==fi 5 (l.getD k.toNat .nilp) then some [D.bool false] else Tree.out (resumeL Dx (callN Dx (m+40)) n [(0,jo),(1,f)] c3 (w903 og ep co na nm' nb ns zas ms bs ss nl l i (IntKind.wrap .i64 (k+1)))) else Tree.out (resumeL Dx (callN Dx (m+40)) n [(0,jo),(1,f)] c3 (w903 og ep co na nm' nb ns zas ms bs ss nl l i (IntKind.wrap .i64 (k+1)))) else Tree.out (resumeL Dx (callN Dx (m+40)) n [(0,jo),(1,f)] c3 (w903 og ep co na nm' nb ns zas ms bs ss nl l i (IntKind.wrap .i64 (k+1)))) else none else Tree.out (resumeL Dx (callN Dx (m+40)) n [(0,jo),(1,f)] c3 (w903 og ep co na nm' nb ns zas ms bs ss nl l i (IntKind.wrap .i64 (k+1)))) else none else none else Tree.out (resume Dx (callN Dx (m+40)) n jo 0 c3 (v903 og ep co na nm' nb ns zas ms bs ss nl l (IntKind.wrap .i64 (i+1)))):=by kernel_rfl
theorem y916(m n f:Nat)(nl:Bool)(l:List D)(up:Bool)(c i:Int):Tree.out (resume Dx (callN Dx (m+40)) n (f+1) 0 c16 (v916 nl l up c i))=bif decide (i<(l.length:Int)) then bif decide (0≤i∧i<(l.length:Int)) then bif decide (5≤fi 0 (l.getD i.toNat .nilp))==up then Tree.out (resume Dx (callN Dx (m+40)) n f 0 c16 { fr:=frame 24 [(0,V.d (D.sl noteSh nl l)),(1,V.d (D.bool up)),(5,V.d (D.int .i64 (IntKind.wrap .i64 (c+1)))),(6,V.d (D.int .i64 (IntKind.wrap .i64 (i+1))))],ob:=[] }) else Tree.out (resume Dx (callN Dx (m+40)) n f 0 c16 { fr:=frame 24 [(0,V.d (D.sl noteSh nl l)),(1,V.d (D.bool up)),(5,V.d (D.int .i64 c)),(6,V.d (D.int .i64 (IntKind.wrap .i64 (i+1))))],ob:=[] }) else none else some [D.int .i64 c]:=by kernel_rfl
theorem endX_eq{x:D}(h:noteX x=true):endX x=bif decide (fi 0 x≤4) then dnO (fi 1 x) (fl 3 x) else upO (fi 1 x) (fl 3 x):=by
 have h':noteOk (fi 0 x) (fi 1 x) (fi 2 x) (fl 3 x) (fs 4 x) (fi 5 x)=true:=h
 unfold endX endT
 rw [h'];rfl
theorem endY_eq{x:D}(h:noteX x=true):endY x=bif decide (fi 0 x≤4) then upO (fi 1 x) (fl 3 x) else dnO (fi 1 x) (fl 3 x):=by
 have h':noteOk (fi 0 x) (fi 1 x) (fi 2 x) (fl 3 x) (fs 4 x) (fi 5 x)=true:=h
 unfold endY endF
 rw [h'];rfl
theorem orgs_zero(r:Int)(es:List D):fi 0 ((orgs r es).getD 0 .nilp)=r:=rfl
theorem orgs_succ{r:Int}{es:List D}{i:Nat}(h:i<es.length):fi 0 ((orgs r es).getD (i+1) .nilp)=fi 1 (es.getD i .nilp):=by
 unfold orgs
 rw [List.getD_cons_succ]
 exact map_org h
theorem up_dn{r q:Int}{es:List D}(h:idOk r q es=true)(h0:es.length≠0):upO r es≠dnO r es:=by
 obtain ⟨-,-,-,h4,h5⟩:=idOk_iff.1 h
 obtain ⟨n,hn⟩: ∃n,es.length=n+1:=⟨es.length - 1,by omega⟩
 have e1:dnO r es=fi 1 (es.getD n .nilp):=by
  unfold dnO
  rw [hn]
  exact orgs_succ (by omega)
 rw [e1]
 unfold upO
 rw [hn,Nat.add_sub_cancel]
 cases n with
 | zero=>rw [orgs_zero];exact fun he=>(h4 0 (by omega)).2.2 he.symm
 | succ k=>rw [orgs_succ (by omega)];exact h5 k (k+1) (by omega) (by omega)
theorem up_app{r q:Int}{es:List D}{h:D}(hi:idOk r q es=true):upO r (es++[h])=orgOfId r q es:=by
 have e:(es++[h]).length - 1=es.length:=by simp
 rw [org_dn hi]
 unfold upO dnO
 rw [e]
 cases hl:es.length with
 | zero=>rfl
 | succ n=>
  rw [orgs_succ (by rw [List.length_append];omega),orgs_succ (by omega),List.getD_eq_getElem?_getD,List.getD_eq_getElem?_getD,List.getElem?_append_left (by omega)]
theorem sub_name{y:D}(hb:badStep y=false)(hs:(fs 4 y==[])=false):name (fs 4 y)=true:=by
 unfold badStep at hb
 cases ho:isOwn y
 ·cases ha:isAsks y
  ·rw [ho,ha] at hb;cases hb
  ·unfold isAsks asks at ha
   rw [Bool.and_eq_true] at ha
   exact ha.1
 ·unfold isOwn own at ho
  rw [Bool.and_eq_true,hs] at ho
  cases ho.1
theorem owed_kind{st c i p:Int}{fc:Bool}(h:(owedK st c i p fc==0)=false):owedK st c i p fc=1∨owedK st c i p fc=3∨owedK st c i p fc=4:=by
 revert h
 unfold owedK
 cases (st==1) <;> cases (st==4||st==5) <;> cases (st==3) <;> cases (st==6) <;> cases (p==1) <;> cases (p==2) <;> cases (i==c) <;> cases fc <;> intro h <;> first | exact .inl rfl | exact .inr (.inl rfl) | exact .inr (.inr rfl) | exact absurd h (by decide)
structure Out(og:Int)(x:D):Prop where
 ok:noteX x=true
 src:endY x=og
 dst:endX x≠og
 nil:fn 3 x=false
theorem good_step{rt nn st wy:Int}{fc:Bool}{hops steps parts:List D}{nm:List UInt8}(hm:mayOk rt nn st wy fc hops steps parts nm=true){i:Nat}(hi:i<steps.length):badStep (steps.getD i .nilp)=false:=by
 by_cases h7:st=7
 ·subst h7
  obtain ⟨h1,-,-⟩:=may_lens hm
  unfold mayOk at hm
  have:((7:Int)==7)=true:=rfl
  rw [this,mayOk_id (by unfold mayOk;rw [this];exact hm)] at hm
  rw [decide_eq_true (show 0<(steps.length:Int)+(parts.length:Int) by omega)] at hm
  cases hn:(nm==[]) <;> rw [hn] at hm <;> cases hm
 ·exact (mayOk_good hm h7).step i hi
theorem kid_out{rt nn st wy:Int}{fc:Bool}{hops steps parts:List D}{nm:List UInt8}{c:Int}{x:D}{i:Nat}(hm:mayOk rt nn st wy fc hops steps parts nm=true)(hi:i<steps.length)(h:x∈oweN (ow st c fc) rt nn hops steps parts i):
  Out (orgOfId rt nn hops) x∧fi 0 x≤4∧fi 1 x=rt∧fi 2 x=nn∧fl 3 x=hops++[hpD i (fi 3 (steps.getD i .nilp))]:=by
 obtain ⟨h1,h2,h3,rfl⟩:=oweN_mem h
 have hk:=owed_kind h3
 unfold kidOk at h2
 rw [Bool.and_eq_true] at h2
 have hn:noteX (noteD (ow st c fc i (fi 0 (parts.getD i .nilp))) rt nn false (hops++[hpD i (fi 3 (steps.getD i .nilp))]) (bif ow st c fc i (fi 0 (parts.getD i .nilp))==1 then fs 4 (steps.getD i .nilp) else []) 0)=true:=by
  show noteOk _ _ _ _ _ _=true
  rw [noteOk_iff]
  have hk':ow st c fc i (fi 0 (parts.getD i .nilp))=1∨ow st c fc i (fi 0 (parts.getD i .nilp))=3∨ow st c fc i (fi 0 (parts.getD i .nilp))=4:=hk
  refine ⟨?_,h2.2,by show (hops++[_]).length≠0;simp,?_,?_⟩
  ·show 1≤ow st c fc i (fi 0 (parts.getD i .nilp))∧ow st c fc i (fi 0 (parts.getD i .nilp))≤7
   omega
  ·show (bif ow st c fc i (fi 0 (parts.getD i .nilp))==1 then name (bif ow st c fc i (fi 0 (parts.getD i .nilp))==1 then fs 4 (steps.getD i .nilp) else []) else (bif ow st c fc i (fi 0 (parts.getD i .nilp))==1 then fs 4 (steps.getD i .nilp) else [])==[])=true
   cases (ow st c fc i (fi 0 (parts.getD i .nilp))==1)
   ·rfl
   ·exact sub_name (good_step hm hi) h1
  ·show (bif ow st c fc i (fi 0 (parts.getD i .nilp))==6 then decide ((1:Int)≤0)&&decide ((0:Int)≤9) else (0:Int)==0)=true
   rcases hk' with e | e | e <;> rw [e] <;> rfl
 have h4:(ow st c fc i (fi 0 (parts.getD i .nilp)))≤4:=by
  have hk':ow st c fc i (fi 0 (parts.getD i .nilp))=1∨ow st c fc i (fi 0 (parts.getD i .nilp))=3∨ow st c fc i (fi 0 (parts.getD i .nilp))=4:=hk
  omega
 refine ⟨⟨hn,?_,?_,rfl⟩,h4,rfl,rfl,rfl⟩
 ·rw [endY_eq hn]
  refine (ct (decide_eq_true h4)).trans ?_
  exact up_app h2.1
 ·rw [endX_eq hn]
  have:=up_dn h2.2 (by simp)
  rw [up_app h2.1] at this
  intro he
  exact this (he.symm.trans (ct (decide_eq_true h4)))
theorem tell_out{rt nn st wy:Int}{n1 fc:Bool}{hops steps parts:List D}{nm:List UInt8}{x:D}(h1:n1=true→hops=[])(h:x∈tellL rt nn st wy n1 fc hops steps parts nm):
  Out (orgOfId rt nn hops) x∧5≤fi 0 x∧fi 1 x=rt∧fi 2 x=nn∧fl 3 x=hops:=by
 unfold tellL at h
 cases ht:tellOk rt nn st wy fc hops steps parts nm
 ·rw [ht] at h;cases h
 ·rw [ht] at h
  obtain rfl:=List.mem_singleton.1 h
  unfold tellOk at ht
  simp only [Bool.and_eq_true,Bool.not_eq_true',beq_eq_false_iff_ne,Bool.or_eq_true,beq_iff_eq] at ht
  obtain ⟨hm,h0,hst⟩:=ht
  have hid:=mayOk_id hm
  have h5:5≤tellK st∧tellK st≤7:=by
   unfold tellK
   cases (st==2) <;> cases (st==3) <;> decide
  have hn:noteX (noteD (tellK st) rt nn n1 hops [] (tellW st wy))=true:=by
   show noteOk _ _ _ _ _ _=true
   rw [noteOk_iff]
   refine ⟨?_,hid,?_,?_,?_⟩
   ·show 1≤tellK st∧tellK st≤7
    omega
   ·show hops.length≠0
    omega
   ·show (bif tellK st==1 then name [] else ([]:List UInt8)==[])=true
    rw [beq_eq_false_iff_ne.2 (show tellK st≠1 by omega)];rfl
   ·show (bif tellK st==6 then decide (1≤tellW st wy)&&decide (tellW st wy≤9) else tellW st wy==0)=true
    have hw:st=6∨st=7→0≤wy∧wy≤9:=fun hs=>by
     rcases hs with rfl | rfl
     ·have hf:=(mayOk_good hm (by decide)).fit'
      cases hf with
      | compensatedF _ hw _=>exact hw
      | compensated _ hw _=>omega
     ·unfold mayOk at hm
      have:((7:Int)==7)=true:=rfl
      rw [this,hid] at hm
      cases hn:(nm==[])
      ·rw [hn] at hm;cases hm
      ·rw [hn] at hm
       cases hd:decide (0<(steps.length:Int)+(parts.length:Int))
       ·rw [hd] at hm
        by_cases ha:1≤wy
        ·by_cases hb:wy≤9
         ·omega
         ·rw [decide_eq_true ha,decide_eq_false hb] at hm;cases hm
        ·rw [decide_eq_false ha] at hm;cases hm
       ·rw [hd] at hm;cases hm
    have key:st=6∨st=7→(decide (1≤(bif wy==0 then 6 else wy))&&decide ((bif wy==0 then 6 else wy)≤9))=true:=fun hs=>by
     have:=hw hs
     by_cases h0:wy=0
     ·subst h0;rfl
     ·rw [beq_eq_false_iff_ne.2 h0]
      show (decide (1≤wy)&&decide (wy≤9))=true
      rw [decide_eq_true (by omega),decide_eq_true (by omega)];rfl
    rcases hst with rfl | rfl | rfl | rfl
    ·rfl
    ·rfl
    ·exact key (.inl rfl)
    ·exact key (.inr rfl)
  have h4: ¬(tellK st≤4):=by omega
  have hnil:n1=false:=by
   cases n1 with
   | false=>rfl
   | true=>exact absurd (by rw [h1 rfl];rfl) h0
  refine ⟨⟨hn,?_,?_,hnil⟩,h5.1,rfl,rfl,rfl⟩
  ·rw [endY_eq hn]
   refine (cf (decide_eq_false h4)).trans ?_
   exact (org_dn hid).symm
  ·rw [endX_eq hn]
   have:=up_dn hid (by omega)
   rw [←org_dn hid] at this
   intro he
   exact this ((cf (decide_eq_false h4)).symm.trans he)
def Rn(a b:D):Prop:=noteEq b a=false
theorem ne_kind{a b:D}(h:fi 0 b≠fi 0 a):Rn a b:=by
 unfold Rn noteEq
 rw [beq_eq_false_iff_ne.2 h];rfl
theorem ne_id{a b:D}(h: ¬(fi 1 b=fi 1 a∧fi 2 b=fi 2 a∧(fl 3 b).map hopP=(fl 3 a).map hopP)):Rn a b:=by
 unfold Rn noteEq
 rw [refCmp_eq,beq_eq_false_iff_ne.2 (fun he=>h (idC_zero.1 he))]
 simp
theorem dueL_pw{kf:Int→Int→Int}{rt nn:Int}{hops steps parts:List D}: ∀d i:Nat,(dueL kf rt nn hops steps parts d i).Pairwise Rn
 | 0,i=>List.Pairwise.nil
 | d+1,i=>by
  unfold dueL
  rw [List.pairwise_append]
  refine ⟨?_,dueL_pw d (i+1),fun a ha b hb=> ?_⟩
  ·unfold oweN
   cases (fs 4 (steps.getD i .nilp)==[]) <;> cases kidOk rt nn hops i (fi 3 (steps.getD i .nilp)) <;> cases (kf i (fi 0 (parts.getD i .nilp))==0) <;> first | exact List.Pairwise.nil | exact List.pairwise_singleton _ _
  ·obtain ⟨j,hj,-,hb⟩:=dueL_mem d (i+1) hb
   obtain ⟨-,-,-,rfl⟩:=oweN_mem ha
   obtain ⟨-,-,-,rfl⟩:=oweN_mem hb
   refine ne_id fun h=> ?_
   have h3:(hops++[hpD j (fi 3 (steps.getD j .nilp))]).map hopP=(hops++[hpD i (fi 3 (steps.getD i .nilp))]).map hopP:=h.2.2
   rw [List.map_append,List.map_append] at h3
   have h4:=List.append_cancel_left h3
   simp only [List.map_cons,List.map_nil,List.cons.injEq,and_true] at h4
   have h5:(j:Int)=(i:Int):=congrArg Prod.fst h4
   omega
theorem ofX_mem{x a:D}(hm:mayS x=true)(hn:fn 2 x=true→fl 2 x=[])(h:a∈ofX x):
  Out (orgOfId (fi 0 x) (fi 1 x) (fl 2 x)) a∧fi 1 a=fi 0 x∧fi 2 a=fi 1 x∧((fi 0 a≤4∧ ∃y,fl 3 a=fl 2 x++[y])∨(5≤fi 0 a∧fl 3 a=fl 2 x)):=by
 unfold ofX ofL at h
 rcases List.mem_append.1 h with h | h
 ·obtain ⟨j,-,hj,h⟩:=dueL_mem _ _ h
  obtain ⟨h1,h2,h3,h4,h5⟩:=kid_out (wy:=fi 6 x) (nm:=fs 3 x) hm (by omega) h
  exact ⟨h1,h3,h4,.inl ⟨h2,_,h5⟩⟩
 ·obtain ⟨h1,h2,h3,h4,h5⟩:=tell_out hn h
  exact ⟨h1,h3,h4,.inr ⟨h2,h5⟩⟩
theorem ofX_pw{x:D}(hm:mayS x=true)(hn:fn 2 x=true→fl 2 x=[]):(ofX x).Pairwise Rn:=by
 unfold ofX ofL
 rw [List.pairwise_append]
 refine ⟨dueL_pw _ _,?_,fun a ha b hb=> ?_⟩
 ·unfold tellL
  cases tellOk (fi 0 x) (fi 1 x) (fi 5 x) (fi 6 x) (fb 8 x) (fl 2 x) (fl 4 x) (fl 7 x) (fs 3 x)
  ·exact List.Pairwise.nil
  ·exact List.pairwise_singleton _ _
 ·obtain ⟨j,-,hj,ha⟩:=dueL_mem _ _ ha
  obtain ⟨-,h2,-⟩:=kid_out (wy:=fi 6 x) (nm:=fs 3 x) hm (by omega) ha
  obtain ⟨-,h3,-⟩:=tell_out hn hb
  exact ne_kind (by omega)
theorem of_cross{x y a b:D}(hx:mayS x=true)(hy:mayS y=true)(nx:fn 2 x=true→fl 2 x=[])(ny:fn 2 y=true→fl 2 y=[])
  (hne: ¬(fi 0 x=fi 0 y∧fi 1 x=fi 1 y∧(fl 2 x).map hopP=(fl 2 y).map hopP)) (ha:a∈ofX x) (hb:b∈ofX y):Rn a b:=by
 obtain ⟨-,a1,a2,ha⟩:=ofX_mem hx nx ha
 obtain ⟨-,b1,b2,hb⟩:=ofX_mem hy ny hb
 rcases ha with ⟨a0,u,au⟩ | ⟨a0,au⟩
 ·rcases hb with ⟨b0,v,bv⟩ | ⟨b0,bv⟩
  ·refine ne_id fun h=>hne ⟨by rw [←a1,←b1];exact h.1.symm,by rw [←a2,←b2];exact h.2.1.symm,?_⟩
   have h3:=h.2.2
   rw [au,bv,List.map_append,List.map_append] at h3
   exact (List.append_inj_left' h3 (by simp)).symm
  ·exact ne_kind (by omega)
 ·rcases hb with ⟨b0,v,bv⟩ | ⟨b0,bv⟩
  ·exact ne_kind (by omega)
  ·refine ne_id fun h=>hne ⟨by rw [←a1,←b1];exact h.1.symm,by rw [←a2,←b2];exact h.2.1.symm,?_⟩
   have h3:=h.2.2
   rw [au,bv] at h3
   exact h3.symm
theorem allX_pw{og ep co:Int}{zas ms bs ss:List D}(h:mayR og ep co zas ms bs ss=true)(hn:nilS ss): ∀d i:Nat,i+d≤ss.length→(allX ss d i).Pairwise Rn
 | 0,i,_=>List.Pairwise.nil
 | d+1,i,hi=>by
  have hm:=(mayR_all h).1
  unfold allX
  rw [List.pairwise_append]
  refine ⟨ofX_pw (hm i (by omega)).1 (hn i (by omega)).1,allX_pw h hn d (i+1) (by omega),fun a ha b hb=> ?_⟩
  obtain ⟨j,h1,h2,hb⟩:=allX_mem d (i+1) hb
  refine of_cross (hm i (by omega)).1 (hm j (by omega)).1 (hn i (by omega)).1 (hn j (by omega)).1 (fun he=> ?_) ha hb
  have hs:=sagas_lt (fun k hk=>(hm k hk).2.1) (d:=j - i - 1) (a:=i) (by omega)
  rw [show i+(j - i - 1)+1=j by omega] at hs
  unfold idcS at hs
  rw [idC_zero.2 he] at hs
  omega
theorem duesAll_pw{og ep co:Int}{zas ms bs ss:List D}(hn:nilS ss):(duesAll og ep co zas ms bs ss).Pairwise Rn:=by
 unfold duesAll
 cases h:mayR og ep co zas ms bs ss
 ·exact List.Pairwise.nil
 ·exact allX_pw h hn ss.length 0 (by omega)
theorem duesAll_out{og ep co:Int}{zas ms bs ss:List D}(hn:nilS ss){x:D}(hx:x∈duesAll og ep co zas ms bs ss):Out og x:=by
 unfold duesAll at hx
 cases h:mayR og ep co zas ms bs ss
 ·rw [h] at hx;cases hx
 ·rw [h] at hx
  obtain ⟨j,-,hj,hx⟩:=allX_mem _ _ hx
  obtain ⟨h1,-,h3⟩:=(mayR_all h).1 j (by omega)
  have:=(ofX_mem h1 (hn j (by omega)).1 hx).1
  rwa [h3] at this
theorem pw_at{l:List D}(h:l.Pairwise Rn){i k:Nat}(hk:k<i)(hi:i<l.length):noteEq (l.getD i .nilp) (l.getD k .nilp)=false:=by
 have:=(List.pairwise_iff_getElem.1 h) k i (by omega) hi hk
 rw [List.getD_eq_getElem?_getD,List.getD_eq_getElem?_getD,List.getElem?_eq_getElem hi,List.getElem?_eq_getElem (show k<l.length by omega)]
 exact this
theorem lp903k(m n jo:Nat)(og ep co:Int)(na nm' nb ns:Bool)(zas ms bs ss:List D)(nl:Bool)(l:List D)(hp:l.Pairwise Rn)(hl:l.length≤1000)(h5: ∀x∈l,(fl 3 x).length≤5)(i:Nat)(hi:i<l.length):
  ∀d f k,k+d=i→d<f→(resumeL Dx (callN Dx (m+40)) n [(0,jo),(1,f)] c3 (w903 og ep co na nm' nb ns zas ms bs ss nl l (i:Nat) (k:Nat))).out=(resume Dx (callN Dx (m+40)) n jo 0 c3 (v903 og ep co na nm' nb ns zas ms bs ss nl l ((i+1:Nat):Int))).out:=by
 have h5i:=h5 _ (getD_mem hi)
 have hw:IntKind.wrap .i64 ((i:Int)+1)=((i+1:Nat):Int):=wrap_up hi (by omega)
 intro d
 induction d with
 | zero=>
  intro f k hk hf
  cases f with
  | zero=>omega
  | succ f=>
   have:k=i:=by omega
   subst this
   rw [z903,hw]
   exact cf (dec_end _)
 | succ d ih=>
  intro f k hk hf
  cases f with
  | zero=>omega
  | succ f=>
   have hlt:k<i:=by omega
   have hwk:IntKind.wrap .i64 ((k:Int)+1)=((k+1:Nat):Int):=wrap_up (show k<l.length by omega) (by omega)
   have hne:=pw_at hp hlt hi
   rw [z903,hwk]
   simp only [Int.toNat_natCast,decide_eq_true (show (k:Int)<(i:Int) by omega),dec_ix hi,dec_ix (show k<l.length by omega),cond_true,decide_eq_true (show (fl 3 (l.getD i .nilp)).length≤1000000 by omega)]
   have ih':=ih f (k+1) (by omega) (by omega)
   unfold noteEq at hne
   cases h0:(fi 0 (l.getD i .nilp)==fi 0 (l.getD k .nilp))
   ·exact ih'
   ·rw [h0] at hne
    cases h1:(refCmp (fi 1 (l.getD i .nilp)) (fi 2 (l.getD i .nilp)) (fl 3 (l.getD i .nilp)) (fi 1 (l.getD k .nilp)) (fi 2 (l.getD k .nilp)) (fl 3 (l.getD k .nilp))==0)
    ·exact ih'
    ·rw [h1] at hne
     cases h2:(fs 4 (l.getD i .nilp)==fs 4 (l.getD k .nilp))
     ·exact ih'
     ·rw [h2] at hne
      cases h3:(fi 5 (l.getD i .nilp)==fi 5 (l.getD k .nilp))
      ·exact ih'
      ·rw [h3] at hne;cases hne
theorem lp903(m n:Nat)(og ep co:Int)(na nm' nb ns:Bool)(zas ms bs ss:List D)(nl:Bool)(l:List D)(hp:l.Pairwise Rn)(hl:l.length≤1000)(h5: ∀x∈l,(fl 3 x).length≤5)(ho: ∀x∈l,Out og x)(hn:l.length<n):
  ∀d f i,i+d=l.length→d<f→(resume Dx (callN Dx (m+40)) n f 0 c3 (v903 og ep co na nm' nb ns zas ms bs ss nl l (i:Nat))).out=some [.bool true]:=by
 intro d
 induction d with
 | zero=>
  intro f i hi hf
  cases f with
  | zero=>omega
  | succ f=>
   have:i=l.length:=by omega
   subst this
   rw [y903]
   exact cf (dec_end _)
 | succ d ih=>
  intro f i hi hf
  cases f with
  | zero=>omega
  | succ f=>
   have hlt:i<l.length:=by omega
   obtain ⟨o1,o2,o3,o4⟩:=ho _ (getD_mem hlt)
   have hq:(!fn 3 (l.getD i .nilp)||(fl 3 (l.getD i .nilp)).isEmpty)=true:=by rw [o4];rfl
   rw [y903]
   simp only [Int.toNat_natCast,dec_lt hlt,dec_ix hlt,cond_true,hq,o1,o2,cond_false,bne_self_eq_false,beq_eq_false_iff_ne.2 o3]
   have:=lp903k m n f og ep co na nm' nb ns zas ms bs ss nl l hp hl h5 i hlt i n 0 (by omega) (by omega)
   exact this.trans (ih f (i+1) (by omega) (by omega))
theorem duessound(m n:Nat)(og ep co:Int)(na nm' nb ns:Bool)(zas ms bs ss:List D)(h1:nilS ss)(hf:1001≤n):
  (enterM Dx (callN Dx (m+40)) n c3 [.d (stD og ep co na nm' nb ns zas ms bs ss)] []).out=some [.bool true]:=by
 rw [x903]
 cases hw:fewSt zas ms bs ss
 ·rfl
 ·rw [few_in hw,hopsNil_of h1,ne0 _ 230 (by decide)]
  obtain ⟨d1,d2⟩:=duesAll_in (og:=og) (ep:=ep) (co:=co) (zas:=zas) (ms:=ms) (bs:=bs) (ss:=ss)
  cases hm:mayR og ep co zas ms bs ss
  ·have:duesAll og ep co zas ms bs ss=[]:=by unfold duesAll;rw [hm];rfl
   rw [this];rfl
  ·exact lp903 m n og ep co na nm' nb ns zas ms bs ss _ _ (duesAll_pw h1) d2 d1 (fun x hx=>duesAll_out h1 hx) (by omega) (duesAll og ep co zas ms bs ss).length n 0 (by omega) (by omega)
def cntUp(up:Bool)(l:List D):Nat→Nat→Nat
 | 0,_=>0
 | d+1,i=>(bif decide (5≤fi 0 (l.getD i .nilp))==up then 1 else 0)+cntUp up l d (i+1)
theorem lp916(m n:Nat)(nl:Bool)(l:List D)(up:Bool)(hl:l.length≤1000000):
  ∀d f i (c:Nat),i+d=l.length→d<f→c+d≤1000000→(resume Dx (callN Dx (m+40)) n f 0 c16 { fr:=frame 24 [(0,V.d (D.sl noteSh nl l)),(1,V.d (D.bool up)),(5,V.d (D.int .i64 (c:Nat))),(6,V.d (D.int .i64 (i:Nat)))],ob:=[] }).out=some [.int .i64 ((c+cntUp up l d i:Nat):Int)]:=by
 intro d
 induction d with
 | zero=>
  intro f i c hi hf hc
  cases f with
  | zero=>omega
  | succ f=>
   have:i=l.length:=by omega
   subst this
   refine (y916 m n f nl l up (c:Nat) (l.length:Nat)).trans ((cf (dec_end _)).trans ?_)
   rfl
 | succ d ih=>
  intro f i c hi hf hc
  cases f with
  | zero=>omega
  | succ f=>
   have hlt:i<l.length:=by omega
   refine (y916 m n f nl l up (c:Nat) (i:Nat)).trans ?_
   have hwc:IntKind.wrap .i64 ((c:Int)+1)=((c+1:Nat):Int):=by rw [wrap_i64 (by omega) (by omega)];omega
   rw [wrap_up hlt hl,hwc]
   simp only [Int.toNat_natCast,dec_lt hlt,dec_ix hlt,cond_true]
   have e:cntUp up l (d+1) i=(bif decide (5≤fi 0 (l.getD i .nilp))==up then 1 else 0)+cntUp up l d (i+1):=rfl
   rw [e]
   cases (decide (5≤fi 0 (l.getD i .nilp))==up)
   ·refine (ih f (i+1) c (by omega) (by omega) (by omega)).trans ?_
    simp only [cond_false,Nat.zero_add]
   ·refine (ih f (i+1) (c+1) (by omega) (by omega) (by omega)).trans ?_
    simp only [cond_true,Nat.add_assoc]
theorem rn916(m n:Nat)(nl:Bool)(l:List D)(up:Bool)(hl:l.length≤1000000)(hn:l.length<n):
  (enterM Dx (callN Dx (m+40)) n c16 [.d (.sl noteSh nl l),.d (.bool up)] []).out=some [.int .i64 (cntUp up l l.length 0:Nat)]:=by
 rw [x916]
 refine (lp916 m n nl l up hl l.length n 0 0 (by omega) hn (by omega)).trans ?_
 rw [Nat.zero_add]
def g916d:List D→Tree (List D)
 | [.sl e0 _nl l,.bool up]=>match Sh.beq e0 noteSh with
  | true=> .ite (decide (l.length≤1000000)) (fun _=> .ret [.int .i64 (cntUp up l l.length 0:Nat)]) (fun _=> .stuck)
  | false=> .stuck
 | _=> .stuck
theorem pure916d{P:Program}(hm:P.follows .mixedOrders=true)(h0:EnvOK P Dx):PureOK P 16 g916d:=PureOK.run hm h0 fun ds rs h=>by
 unfold g916d at h
 split at h
 ·rename_i e0 nl l up
  split at h
  ·rename_i hb
   have hb0:=hb
   have hb0:=Sh.beq_eq hb0
   subst hb0
   obtain ⟨hg,h'⟩:=eval_guard h
   clear h
   simp only [decide_eq_true_eq] at hg
   cases h'
   exact ⟨(l.length+40)+1,by rw [callN_succ (fn:=c16) rfl];exact rn916 l.length (l.length+40) nl l up hg (by omega)⟩
  ·cases h
 ·cases h
def Dy:Env:=Dx.pureAt 16 true g916d
theorem okDy{P:Program}(hm:P.follows .mixedOrders=true)(h:EnvOK P Dx):EnvOK P Dy:=h.pureAt (pure916d hm h)
def g35b(b:Bool):List D→Tree (List D)
 | [.agg [.int .i64 rt,.int .i64 nn,.sl eh _n1 hops,.str nm,.sl es _n2 steps,.int .i64 st,.int .i64 wy,.sl ep _n3 parts,.bool fc]]=>match (Sh.beq eh hopSh&&(Sh.beq es stepSh&&Sh.beq ep partSh)) with
  | true=> .ite (decide (steps.length≤1000000)) (fun _=> .ite (decide (parts.length≤1000000)) (fun _=> .ite (mayOk rt nn st wy fc hops steps parts nm==b) (fun _=> .ret [.int .i64 (bif b then 0 else 230)]) (fun _=> .stuck)) (fun _=> .stuck)) (fun _=> .stuck)
  | false=> .stuck
 | _=> .stuck
theorem pure35b{P:Program}(b:Bool)(h:PureOK P 15 g22):PureOK P 15 (g35b b):=fun hy ds rs hr=>h hy ds rs (by
 unfold g35b at hr
 split at hr
 ·split at hr
  ·rename_i hb
   obtain ⟨h1,hr⟩:=eval_guard hr
   obtain ⟨h2,hr⟩:=eval_guard hr
   obtain ⟨h3,hr⟩:=eval_guard hr
   simp only [g22,hb,h1,h2,Tree.eval,beq_iff_eq.1 h3]
   exact hr
  ·cases hr
 ·cases hr)
def Dt(b:Bool):Env:=Dy.pureAt 15 true (g35b b)
theorem okDt{P:Program}(b:Bool)(h:EnvOK P Dy):EnvOK P (Dt b):=h.pureAt (pure35b b (h.pure 15 true g22 (by kernel_rfl)))
theorem x904f(m n:Nat)(rt nn st wy:Int)(n1 n2 n3 fc:Bool)(hops steps parts:List D)(nm:List UInt8):Tree.out (enterM (Dt false) (callN (Dt false) (m+40)) n c4 [.d (sagaD rt nn st wy n1 n2 n3 fc hops steps parts nm)] [])=bif !few hops steps parts then some [D.bool true] else bif (!n1||List.isEmpty hops)&&(decide (steps.length≤1000000)&&decide (parts.length≤1000000)) then bif decide (steps.length≤1000000) then bif decide (parts.length≤1000000) then bif mayOk rt nn st wy fc hops steps parts nm==false then bif (↑(List.length (duesOf (orgOfId rt nn hops) rt nn st wy n1 fc hops steps parts nm)):Int)==0 then some [D.bool true] else some [D.bool false] else none else none else none else none:=by kernel_rfl
theorem x904s1(m n:Nat)(rt nn wy:Int)(n1 n2 n3 fc:Bool)(hops steps parts:List D)(nm:List UInt8):Tree.out (enterM (Dt true) (callN (Dt true) (m+40)) n c4 [.d (sagaD rt nn 1 wy n1 n2 n3 fc hops steps parts nm)] [])=bif !few hops steps parts then some [D.bool true] else bif (!n1||List.isEmpty hops)&&(decide (steps.length≤1000000)&&decide (parts.length≤1000000)) then bif decide (steps.length≤1000000) then bif decide (parts.length≤1000000) then bif mayOk rt nn 1 wy fc hops steps parts nm==true then bif decide (List.length (duesOf (orgOfId rt nn hops) rt nn 1 wy n1 fc hops steps parts nm)≤1000000) then bif (↑(cntUp true (duesOf (orgOfId rt nn hops) rt nn 1 wy n1 fc hops steps parts nm) (List.length (duesOf (orgOfId rt nn hops) rt nn 1 wy n1 fc hops steps parts nm)) 0):Int) != 0 then some [D.bool false] else bif decide (steps.length≤1000000) then bif decide (parts.length≤1000000) then bif endR rt nn 1 wy fc hops steps parts nm then bif decide (List.length (duesOf (orgOfId rt nn hops) rt nn 1 wy n1 fc hops steps parts nm)≤1000000) then bif (↑(cntUp false (duesOf (orgOfId rt nn hops) rt nn 1 wy n1 fc hops steps parts nm) (List.length (duesOf (orgOfId rt nn hops) rt nn 1 wy n1 fc hops steps parts nm)) 0):Int) != 0 then some [D.bool false] else bif decide (steps.length≤1000000) then bif decide (parts.length≤1000000) then bif decide (0≤curR rt nn 1 wy fc hops steps parts nm) then bif decide (0≤curR rt nn 1 wy fc hops steps parts nm∧curR rt nn 1 wy fc hops steps parts nm<(steps.length:Int)) then bif !fs 4 (List.getD steps (Int.toNat (curR rt nn 1 wy fc hops steps parts nm)) D.nilp)==[] then bif decide (0≤curR rt nn 1 wy fc hops steps parts nm∧curR rt nn 1 wy fc hops steps parts nm<(parts.length:Int)) then bif fi 0 (List.getD parts (Int.toNat (curR rt nn 1 wy fc hops steps parts nm)) D.nilp)==1 then bif decide (0≤curR rt nn 1 wy fc hops steps parts nm∧curR rt nn 1 wy fc hops steps parts nm<(steps.length:Int)) then bif (!n1||List.isEmpty hops)&&decide (hops.length≤1000000) then bif kidOk rt nn hops (curR rt nn 1 wy fc hops steps parts nm) (fi 3 (List.getD steps (Int.toNat (curR rt nn 1 wy fc hops steps parts nm)) D.nilp)) then bif decide (List.length (duesOf (orgOfId rt nn hops) rt nn 1 wy n1 fc hops steps parts nm)≤1000000) then bif decide (0<(↑(cntUp false (duesOf (orgOfId rt nn hops) rt nn 1 wy n1 fc hops steps parts nm) (List.length (duesOf (orgOfId rt nn hops) rt nn 1 wy n1 fc hops steps parts nm)) 0):Int)) then some [D.bool true] else some [D.bool false] else none else some [D.bool true] else none else none else some [D.bool true] else none else some [D.bool true] else none else some [D.bool true] else none else none else none else bif decide (steps.length≤1000000) then bif decide (parts.length≤1000000) then bif decide (0≤curR rt nn 1 wy fc hops steps parts nm) then bif decide (0≤curR rt nn 1 wy fc hops steps parts nm∧curR rt nn 1 wy fc hops steps parts nm<(steps.length:Int)) then bif !fs 4 (List.getD steps (Int.toNat (curR rt nn 1 wy fc hops steps parts nm)) D.nilp)==[] then bif decide (0≤curR rt nn 1 wy fc hops steps parts nm∧curR rt nn 1 wy fc hops steps parts nm<(parts.length:Int)) then bif fi 0 (List.getD parts (Int.toNat (curR rt nn 1 wy fc hops steps parts nm)) D.nilp)==1 then bif decide (0≤curR rt nn 1 wy fc hops steps parts nm∧curR rt nn 1 wy fc hops steps parts nm<(steps.length:Int)) then bif (!n1||List.isEmpty hops)&&decide (hops.length≤1000000) then bif kidOk rt nn hops (curR rt nn 1 wy fc hops steps parts nm) (fi 3 (List.getD steps (Int.toNat (curR rt nn 1 wy fc hops steps parts nm)) D.nilp)) then bif decide (List.length (duesOf (orgOfId rt nn hops) rt nn 1 wy n1 fc hops steps parts nm)≤1000000) then bif decide (0<(↑(cntUp false (duesOf (orgOfId rt nn hops) rt nn 1 wy n1 fc hops steps parts nm) (List.length (duesOf (orgOfId rt nn hops) rt nn 1 wy n1 fc hops steps parts nm)) 0):Int)) then some [D.bool true] else some [D.bool false] else none else some [D.bool true] else none else none else some [D.bool true] else none else some [D.bool true] else none else some [D.bool true] else none else none else none else none else none else none else none else none else none:=by kernel_rfl
theorem x904s2(m n:Nat)(rt nn wy:Int)(n1 n2 n3 fc:Bool)(hops steps parts:List D)(nm:List UInt8):Tree.out (enterM (Dt true) (callN (Dt true) (m+40)) n c4 [.d (sagaD rt nn 2 wy n1 n2 n3 fc hops steps parts nm)] [])=bif !few hops steps parts then some [D.bool true] else bif (!n1||List.isEmpty hops)&&(decide (steps.length≤1000000)&&decide (parts.length≤1000000)) then bif decide (steps.length≤1000000) then bif decide (parts.length≤1000000) then bif mayOk rt nn 2 wy fc hops steps parts nm==true then bif decide (0<(hops.length:Int)) then bif decide (List.length (duesOf (orgOfId rt nn hops) rt nn 2 wy n1 fc hops steps parts nm)≤1000000) then bif (↑(cntUp true (duesOf (orgOfId rt nn hops) rt nn 2 wy n1 fc hops steps parts nm) (List.length (duesOf (orgOfId rt nn hops) rt nn 2 wy n1 fc hops steps parts nm)) 0):Int) != 1 then some [D.bool false] else bif decide (steps.length≤1000000) then bif decide (parts.length≤1000000) then bif endR rt nn 2 wy fc hops steps parts nm then bif decide (List.length (duesOf (orgOfId rt nn hops) rt nn 2 wy n1 fc hops steps parts nm)≤1000000) then bif (↑(cntUp false (duesOf (orgOfId rt nn hops) rt nn 2 wy n1 fc hops steps parts nm) (List.length (duesOf (orgOfId rt nn hops) rt nn 2 wy n1 fc hops steps parts nm)) 0):Int) != 0 then some [D.bool false] else bif decide (steps.length≤1000000) then bif decide (parts.length≤1000000) then bif decide (0≤curR rt nn 2 wy fc hops steps parts nm) then bif decide (0≤curR rt nn 2 wy fc hops steps parts nm∧curR rt nn 2 wy fc hops steps parts nm<(steps.length:Int)) then bif !fs 4 (List.getD steps (Int.toNat (curR rt nn 2 wy fc hops steps parts nm)) D.nilp)==[] then bif decide (0≤curR rt nn 2 wy fc hops steps parts nm∧curR rt nn 2 wy fc hops steps parts nm<(parts.length:Int)) then bif fi 0 (List.getD parts (Int.toNat (curR rt nn 2 wy fc hops steps parts nm)) D.nilp)==1 then bif decide (0≤curR rt nn 2 wy fc hops steps parts nm∧curR rt nn 2 wy fc hops steps parts nm<(steps.length:Int)) then bif (!n1||List.isEmpty hops)&&decide (hops.length≤1000000) then bif kidOk rt nn hops (curR rt nn 2 wy fc hops steps parts nm) (fi 3 (List.getD steps (Int.toNat (curR rt nn 2 wy fc hops steps parts nm)) D.nilp)) then bif decide (List.length (duesOf (orgOfId rt nn hops) rt nn 2 wy n1 fc hops steps parts nm)≤1000000) then bif decide (0<(↑(cntUp false (duesOf (orgOfId rt nn hops) rt nn 2 wy n1 fc hops steps parts nm) (List.length (duesOf (orgOfId rt nn hops) rt nn 2 wy n1 fc hops steps parts nm)) 0):Int)) then some [D.bool true] else some [D.bool false] else none else some [D.bool true] else none else none else some [D.bool true] else none else some [D.bool true] else none else some [D.bool true] else none else none else none else bif decide (steps.length≤1000000) then bif decide (parts.length≤1000000) then bif decide (0≤curR rt nn 2 wy fc hops steps parts nm) then bif decide (0≤curR rt nn 2 wy fc hops steps parts nm∧curR rt nn 2 wy fc hops steps parts nm<(steps.length:Int)) then bif !fs 4 (List.getD steps (Int.toNat (curR rt nn 2 wy fc hops steps parts nm)) D.nilp)==[] then bif decide (0≤curR rt nn 2 wy fc hops steps parts nm∧curR rt nn 2 wy fc hops steps parts nm<(parts.length:Int)) then bif fi 0 (List.getD parts (Int.toNat (curR rt nn 2 wy fc hops steps parts nm)) D.nilp)==1 then bif decide (0≤curR rt nn 2 wy fc hops steps parts nm∧curR rt nn 2 wy fc hops steps parts nm<(steps.length:Int)) then bif (!n1||List.isEmpty hops)&&decide (hops.length≤1000000) then bif kidOk rt nn hops (curR rt nn 2 wy fc hops steps parts nm) (fi 3 (List.getD steps (Int.toNat (curR rt nn 2 wy fc hops steps parts nm)) D.nilp)) then bif decide (List.length (duesOf (orgOfId rt nn hops) rt nn 2 wy n1 fc hops steps parts nm)≤1000000) then bif decide (0<(↑(cntUp false (duesOf (orgOfId rt nn hops) rt nn 2 wy n1 fc hops steps parts nm) (List.length (duesOf (orgOfId rt nn hops) rt nn 2 wy n1 fc hops steps parts nm)) 0):Int)) then some [D.bool true] else some [D.bool false] else none else some [D.bool true] else none else none else some [D.bool true] else none else some [D.bool true] else none else some [D.bool true] else none else none else none else none else none else bif decide (List.length (duesOf (orgOfId rt nn hops) rt nn 2 wy n1 fc hops steps parts nm)≤1000000) then bif (↑(cntUp true (duesOf (orgOfId rt nn hops) rt nn 2 wy n1 fc hops steps parts nm) (List.length (duesOf (orgOfId rt nn hops) rt nn 2 wy n1 fc hops steps parts nm)) 0):Int) != 0 then some [D.bool false] else bif decide (steps.length≤1000000) then bif decide (parts.length≤1000000) then bif endR rt nn 2 wy fc hops steps parts nm then bif decide (List.length (duesOf (orgOfId rt nn hops) rt nn 2 wy n1 fc hops steps parts nm)≤1000000) then bif (↑(cntUp false (duesOf (orgOfId rt nn hops) rt nn 2 wy n1 fc hops steps parts nm) (List.length (duesOf (orgOfId rt nn hops) rt nn 2 wy n1 fc hops steps parts nm)) 0):Int) != 0 then some [D.bool false] else bif decide (steps.length≤1000000) then bif decide (parts.length≤1000000) then bif decide (0≤curR rt nn 2 wy fc hops steps parts nm) then bif decide (0≤curR rt nn 2 wy fc hops steps parts nm∧curR rt nn 2 wy fc hops steps parts nm<(steps.length:Int)) then bif !fs 4 (List.getD steps (Int.toNat (curR rt nn 2 wy fc hops steps parts nm)) D.nilp)==[] then bif decide (0≤curR rt nn 2 wy fc hops steps parts nm∧curR rt nn 2 wy fc hops steps parts nm<(parts.length:Int)) then bif fi 0 (List.getD parts (Int.toNat (curR rt nn 2 wy fc hops steps parts nm)) D.nilp)==1 then bif decide (0≤curR rt nn 2 wy fc hops steps parts nm∧curR rt nn 2 wy fc hops steps parts nm<(steps.length:Int)) then bif (!n1||List.isEmpty hops)&&decide (hops.length≤1000000) then bif kidOk rt nn hops (curR rt nn 2 wy fc hops steps parts nm) (fi 3 (List.getD steps (Int.toNat (curR rt nn 2 wy fc hops steps parts nm)) D.nilp)) then bif decide (List.length (duesOf (orgOfId rt nn hops) rt nn 2 wy n1 fc hops steps parts nm)≤1000000) then bif decide (0<(↑(cntUp false (duesOf (orgOfId rt nn hops) rt nn 2 wy n1 fc hops steps parts nm) (List.length (duesOf (orgOfId rt nn hops) rt nn 2 wy n1 fc hops steps parts nm)) 0):Int)) then some [D.bool true] else some [D.bool false] else none else some [D.bool true] else none else none else some [D.bool true] else none else some [D.bool true] else none else some [D.bool true] else none else none else none else bif decide (steps.length≤1000000) then bif decide (parts.length≤1000000) then bif decide (0≤curR rt nn 2 wy fc hops steps parts nm) then bif decide (0≤curR rt nn 2 wy fc hops steps parts nm∧curR rt nn 2 wy fc hops steps parts nm<(steps.length:Int)) then bif !fs 4 (List.getD steps (Int.toNat (curR rt nn 2 wy fc hops steps parts nm)) D.nilp)==[] then bif decide (0≤curR rt nn 2 wy fc hops steps parts nm∧curR rt nn 2 wy fc hops steps parts nm<(parts.length:Int)) then bif fi 0 (List.getD parts (Int.toNat (curR rt nn 2 wy fc hops steps parts nm)) D.nilp)==1 then bif decide (0≤curR rt nn 2 wy fc hops steps parts nm∧curR rt nn 2 wy fc hops steps parts nm<(steps.length:Int)) then bif (!n1||List.isEmpty hops)&&decide (hops.length≤1000000) then bif kidOk rt nn hops (curR rt nn 2 wy fc hops steps parts nm) (fi 3 (List.getD steps (Int.toNat (curR rt nn 2 wy fc hops steps parts nm)) D.nilp)) then bif decide (List.length (duesOf (orgOfId rt nn hops) rt nn 2 wy n1 fc hops steps parts nm)≤1000000) then bif decide (0<(↑(cntUp false (duesOf (orgOfId rt nn hops) rt nn 2 wy n1 fc hops steps parts nm) (List.length (duesOf (orgOfId rt nn hops) rt nn 2 wy n1 fc hops steps parts nm)) 0):Int)) then some [D.bool true] else some [D.bool false] else none else some [D.bool true] else none else none else some [D.bool true] else none else some [D.bool true] else none else some [D.bool true] else none else none else none else none else none else none else none else none else none:=by kernel_rfl
theorem x904s3(m n:Nat)(rt nn wy:Int)(n1 n2 n3 fc:Bool)(hops steps parts:List D)(nm:List UInt8):Tree.out (enterM (Dt true) (callN (Dt true) (m+40)) n c4 [.d (sagaD rt nn 3 wy n1 n2 n3 fc hops steps parts nm)] [])=bif !few hops steps parts then some [D.bool true] else bif (!n1||List.isEmpty hops)&&(decide (steps.length≤1000000)&&decide (parts.length≤1000000)) then bif decide (steps.length≤1000000) then bif decide (parts.length≤1000000) then bif mayOk rt nn 3 wy fc hops steps parts nm==true then bif decide (0<(hops.length:Int)) then bif decide (List.length (duesOf (orgOfId rt nn hops) rt nn 3 wy n1 fc hops steps parts nm)≤1000000) then bif (↑(cntUp true (duesOf (orgOfId rt nn hops) rt nn 3 wy n1 fc hops steps parts nm) (List.length (duesOf (orgOfId rt nn hops) rt nn 3 wy n1 fc hops steps parts nm)) 0):Int) != 1 then some [D.bool false] else bif decide (steps.length≤1000000) then bif decide (parts.length≤1000000) then bif endR rt nn 3 wy fc hops steps parts nm then bif decide (List.length (duesOf (orgOfId rt nn hops) rt nn 3 wy n1 fc hops steps parts nm)≤1000000) then bif (↑(cntUp false (duesOf (orgOfId rt nn hops) rt nn 3 wy n1 fc hops steps parts nm) (List.length (duesOf (orgOfId rt nn hops) rt nn 3 wy n1 fc hops steps parts nm)) 0):Int) != 0 then some [D.bool false] else bif decide (steps.length≤1000000) then bif decide (parts.length≤1000000) then bif decide (0≤curR rt nn 3 wy fc hops steps parts nm) then bif decide (0≤curR rt nn 3 wy fc hops steps parts nm∧curR rt nn 3 wy fc hops steps parts nm<(steps.length:Int)) then bif !fs 4 (List.getD steps (Int.toNat (curR rt nn 3 wy fc hops steps parts nm)) D.nilp)==[] then bif decide (0≤curR rt nn 3 wy fc hops steps parts nm∧curR rt nn 3 wy fc hops steps parts nm<(parts.length:Int)) then bif fi 0 (List.getD parts (Int.toNat (curR rt nn 3 wy fc hops steps parts nm)) D.nilp)==1 then bif decide (0≤curR rt nn 3 wy fc hops steps parts nm∧curR rt nn 3 wy fc hops steps parts nm<(steps.length:Int)) then bif (!n1||List.isEmpty hops)&&decide (hops.length≤1000000) then bif kidOk rt nn hops (curR rt nn 3 wy fc hops steps parts nm) (fi 3 (List.getD steps (Int.toNat (curR rt nn 3 wy fc hops steps parts nm)) D.nilp)) then bif decide (List.length (duesOf (orgOfId rt nn hops) rt nn 3 wy n1 fc hops steps parts nm)≤1000000) then bif decide (0<(↑(cntUp false (duesOf (orgOfId rt nn hops) rt nn 3 wy n1 fc hops steps parts nm) (List.length (duesOf (orgOfId rt nn hops) rt nn 3 wy n1 fc hops steps parts nm)) 0):Int)) then some [D.bool true] else some [D.bool false] else none else some [D.bool true] else none else none else some [D.bool true] else none else some [D.bool true] else none else some [D.bool true] else none else none else none else bif decide (steps.length≤1000000) then bif decide (parts.length≤1000000) then bif decide (0≤curR rt nn 3 wy fc hops steps parts nm) then bif decide (0≤curR rt nn 3 wy fc hops steps parts nm∧curR rt nn 3 wy fc hops steps parts nm<(steps.length:Int)) then bif !fs 4 (List.getD steps (Int.toNat (curR rt nn 3 wy fc hops steps parts nm)) D.nilp)==[] then bif decide (0≤curR rt nn 3 wy fc hops steps parts nm∧curR rt nn 3 wy fc hops steps parts nm<(parts.length:Int)) then bif fi 0 (List.getD parts (Int.toNat (curR rt nn 3 wy fc hops steps parts nm)) D.nilp)==1 then bif decide (0≤curR rt nn 3 wy fc hops steps parts nm∧curR rt nn 3 wy fc hops steps parts nm<(steps.length:Int)) then bif (!n1||List.isEmpty hops)&&decide (hops.length≤1000000) then bif kidOk rt nn hops (curR rt nn 3 wy fc hops steps parts nm) (fi 3 (List.getD steps (Int.toNat (curR rt nn 3 wy fc hops steps parts nm)) D.nilp)) then bif decide (List.length (duesOf (orgOfId rt nn hops) rt nn 3 wy n1 fc hops steps parts nm)≤1000000) then bif decide (0<(↑(cntUp false (duesOf (orgOfId rt nn hops) rt nn 3 wy n1 fc hops steps parts nm) (List.length (duesOf (orgOfId rt nn hops) rt nn 3 wy n1 fc hops steps parts nm)) 0):Int)) then some [D.bool true] else some [D.bool false] else none else some [D.bool true] else none else none else some [D.bool true] else none else some [D.bool true] else none else some [D.bool true] else none else none else none else none else none else bif decide (List.length (duesOf (orgOfId rt nn hops) rt nn 3 wy n1 fc hops steps parts nm)≤1000000) then bif (↑(cntUp true (duesOf (orgOfId rt nn hops) rt nn 3 wy n1 fc hops steps parts nm) (List.length (duesOf (orgOfId rt nn hops) rt nn 3 wy n1 fc hops steps parts nm)) 0):Int) != 0 then some [D.bool false] else bif decide (steps.length≤1000000) then bif decide (parts.length≤1000000) then bif endR rt nn 3 wy fc hops steps parts nm then bif decide (List.length (duesOf (orgOfId rt nn hops) rt nn 3 wy n1 fc hops steps parts nm)≤1000000) then bif (↑(cntUp false (duesOf (orgOfId rt nn hops) rt nn 3 wy n1 fc hops steps parts nm) (List.length (duesOf (orgOfId rt nn hops) rt nn 3 wy n1 fc hops steps parts nm)) 0):Int) != 0 then some [D.bool false] else bif decide (steps.length≤1000000) then bif decide (parts.length≤1000000) then bif decide (0≤curR rt nn 3 wy fc hops steps parts nm) then bif decide (0≤curR rt nn 3 wy fc hops steps parts nm∧curR rt nn 3 wy fc hops steps parts nm<(steps.length:Int)) then bif !fs 4 (List.getD steps (Int.toNat (curR rt nn 3 wy fc hops steps parts nm)) D.nilp)==[] then bif decide (0≤curR rt nn 3 wy fc hops steps parts nm∧curR rt nn 3 wy fc hops steps parts nm<(parts.length:Int)) then bif fi 0 (List.getD parts (Int.toNat (curR rt nn 3 wy fc hops steps parts nm)) D.nilp)==1 then bif decide (0≤curR rt nn 3 wy fc hops steps parts nm∧curR rt nn 3 wy fc hops steps parts nm<(steps.length:Int)) then bif (!n1||List.isEmpty hops)&&decide (hops.length≤1000000) then bif kidOk rt nn hops (curR rt nn 3 wy fc hops steps parts nm) (fi 3 (List.getD steps (Int.toNat (curR rt nn 3 wy fc hops steps parts nm)) D.nilp)) then bif decide (List.length (duesOf (orgOfId rt nn hops) rt nn 3 wy n1 fc hops steps parts nm)≤1000000) then bif decide (0<(↑(cntUp false (duesOf (orgOfId rt nn hops) rt nn 3 wy n1 fc hops steps parts nm) (List.length (duesOf (orgOfId rt nn hops) rt nn 3 wy n1 fc hops steps parts nm)) 0):Int)) then some [D.bool true] else some [D.bool false] else none else some [D.bool true] else none else none else some [D.bool true] else none else some [D.bool true] else none else some [D.bool true] else none else none else none else bif decide (steps.length≤1000000) then bif decide (parts.length≤1000000) then bif decide (0≤curR rt nn 3 wy fc hops steps parts nm) then bif decide (0≤curR rt nn 3 wy fc hops steps parts nm∧curR rt nn 3 wy fc hops steps parts nm<(steps.length:Int)) then bif !fs 4 (List.getD steps (Int.toNat (curR rt nn 3 wy fc hops steps parts nm)) D.nilp)==[] then bif decide (0≤curR rt nn 3 wy fc hops steps parts nm∧curR rt nn 3 wy fc hops steps parts nm<(parts.length:Int)) then bif fi 0 (List.getD parts (Int.toNat (curR rt nn 3 wy fc hops steps parts nm)) D.nilp)==1 then bif decide (0≤curR rt nn 3 wy fc hops steps parts nm∧curR rt nn 3 wy fc hops steps parts nm<(steps.length:Int)) then bif (!n1||List.isEmpty hops)&&decide (hops.length≤1000000) then bif kidOk rt nn hops (curR rt nn 3 wy fc hops steps parts nm) (fi 3 (List.getD steps (Int.toNat (curR rt nn 3 wy fc hops steps parts nm)) D.nilp)) then bif decide (List.length (duesOf (orgOfId rt nn hops) rt nn 3 wy n1 fc hops steps parts nm)≤1000000) then bif decide (0<(↑(cntUp false (duesOf (orgOfId rt nn hops) rt nn 3 wy n1 fc hops steps parts nm) (List.length (duesOf (orgOfId rt nn hops) rt nn 3 wy n1 fc hops steps parts nm)) 0):Int)) then some [D.bool true] else some [D.bool false] else none else some [D.bool true] else none else none else some [D.bool true] else none else some [D.bool true] else none else some [D.bool true] else none else none else none else none else none else none else none else none else none:=by kernel_rfl
theorem x904s4(m n:Nat)(rt nn wy:Int)(n1 n2 n3 fc:Bool)(hops steps parts:List D)(nm:List UInt8):Tree.out (enterM (Dt true) (callN (Dt true) (m+40)) n c4 [.d (sagaD rt nn 4 wy n1 n2 n3 fc hops steps parts nm)] [])=bif !few hops steps parts then some [D.bool true] else bif (!n1||List.isEmpty hops)&&(decide (steps.length≤1000000)&&decide (parts.length≤1000000)) then bif decide (steps.length≤1000000) then bif decide (parts.length≤1000000) then bif mayOk rt nn 4 wy fc hops steps parts nm==true then bif decide (List.length (duesOf (orgOfId rt nn hops) rt nn 4 wy n1 fc hops steps parts nm)≤1000000) then bif (↑(cntUp true (duesOf (orgOfId rt nn hops) rt nn 4 wy n1 fc hops steps parts nm) (List.length (duesOf (orgOfId rt nn hops) rt nn 4 wy n1 fc hops steps parts nm)) 0):Int) != 0 then some [D.bool false] else bif decide (steps.length≤1000000) then bif decide (parts.length≤1000000) then bif endR rt nn 4 wy fc hops steps parts nm then bif decide (List.length (duesOf (orgOfId rt nn hops) rt nn 4 wy n1 fc hops steps parts nm)≤1000000) then bif (↑(cntUp false (duesOf (orgOfId rt nn hops) rt nn 4 wy n1 fc hops steps parts nm) (List.length (duesOf (orgOfId rt nn hops) rt nn 4 wy n1 fc hops steps parts nm)) 0):Int) != 0 then some [D.bool false] else bif decide (steps.length≤1000000) then bif decide (parts.length≤1000000) then bif decide (0≤curR rt nn 4 wy fc hops steps parts nm) then bif decide (0≤curR rt nn 4 wy fc hops steps parts nm∧curR rt nn 4 wy fc hops steps parts nm<(steps.length:Int)) then bif !fs 4 (List.getD steps (Int.toNat (curR rt nn 4 wy fc hops steps parts nm)) D.nilp)==[] then bif decide (0≤curR rt nn 4 wy fc hops steps parts nm∧curR rt nn 4 wy fc hops steps parts nm<(parts.length:Int)) then bif fi 0 (List.getD parts (Int.toNat (curR rt nn 4 wy fc hops steps parts nm)) D.nilp)==1 then bif decide (0≤curR rt nn 4 wy fc hops steps parts nm∧curR rt nn 4 wy fc hops steps parts nm<(steps.length:Int)) then bif (!n1||List.isEmpty hops)&&decide (hops.length≤1000000) then bif kidOk rt nn hops (curR rt nn 4 wy fc hops steps parts nm) (fi 3 (List.getD steps (Int.toNat (curR rt nn 4 wy fc hops steps parts nm)) D.nilp)) then bif decide (List.length (duesOf (orgOfId rt nn hops) rt nn 4 wy n1 fc hops steps parts nm)≤1000000) then bif decide (0<(↑(cntUp false (duesOf (orgOfId rt nn hops) rt nn 4 wy n1 fc hops steps parts nm) (List.length (duesOf (orgOfId rt nn hops) rt nn 4 wy n1 fc hops steps parts nm)) 0):Int)) then some [D.bool true] else some [D.bool false] else none else some [D.bool true] else none else none else bif decide (0≤curR rt nn 4 wy fc hops steps parts nm∧curR rt nn 4 wy fc hops steps parts nm<(parts.length:Int)) then bif !fi 0 (List.getD parts (Int.toNat (curR rt nn 4 wy fc hops steps parts nm)) D.nilp)==2 then some [D.bool true] else bif decide (0≤curR rt nn 4 wy fc hops steps parts nm∧curR rt nn 4 wy fc hops steps parts nm<(steps.length:Int)) then bif (!n1||List.isEmpty hops)&&decide (hops.length≤1000000) then bif kidOk rt nn hops (curR rt nn 4 wy fc hops steps parts nm) (fi 3 (List.getD steps (Int.toNat (curR rt nn 4 wy fc hops steps parts nm)) D.nilp)) then bif decide (List.length (duesOf (orgOfId rt nn hops) rt nn 4 wy n1 fc hops steps parts nm)≤1000000) then bif decide (0<(↑(cntUp false (duesOf (orgOfId rt nn hops) rt nn 4 wy n1 fc hops steps parts nm) (List.length (duesOf (orgOfId rt nn hops) rt nn 4 wy n1 fc hops steps parts nm)) 0):Int)) then some [D.bool true] else some [D.bool false] else none else some [D.bool true] else none else none else none else none else some [D.bool true] else none else some [D.bool true] else none else none else none else bif decide (steps.length≤1000000) then bif decide (parts.length≤1000000) then bif decide (0≤curR rt nn 4 wy fc hops steps parts nm) then bif decide (0≤curR rt nn 4 wy fc hops steps parts nm∧curR rt nn 4 wy fc hops steps parts nm<(steps.length:Int)) then bif !fs 4 (List.getD steps (Int.toNat (curR rt nn 4 wy fc hops steps parts nm)) D.nilp)==[] then bif decide (0≤curR rt nn 4 wy fc hops steps parts nm∧curR rt nn 4 wy fc hops steps parts nm<(parts.length:Int)) then bif fi 0 (List.getD parts (Int.toNat (curR rt nn 4 wy fc hops steps parts nm)) D.nilp)==1 then bif decide (0≤curR rt nn 4 wy fc hops steps parts nm∧curR rt nn 4 wy fc hops steps parts nm<(steps.length:Int)) then bif (!n1||List.isEmpty hops)&&decide (hops.length≤1000000) then bif kidOk rt nn hops (curR rt nn 4 wy fc hops steps parts nm) (fi 3 (List.getD steps (Int.toNat (curR rt nn 4 wy fc hops steps parts nm)) D.nilp)) then bif decide (List.length (duesOf (orgOfId rt nn hops) rt nn 4 wy n1 fc hops steps parts nm)≤1000000) then bif decide (0<(↑(cntUp false (duesOf (orgOfId rt nn hops) rt nn 4 wy n1 fc hops steps parts nm) (List.length (duesOf (orgOfId rt nn hops) rt nn 4 wy n1 fc hops steps parts nm)) 0):Int)) then some [D.bool true] else some [D.bool false] else none else some [D.bool true] else none else none else bif decide (0≤curR rt nn 4 wy fc hops steps parts nm∧curR rt nn 4 wy fc hops steps parts nm<(parts.length:Int)) then bif !fi 0 (List.getD parts (Int.toNat (curR rt nn 4 wy fc hops steps parts nm)) D.nilp)==2 then some [D.bool true] else bif decide (0≤curR rt nn 4 wy fc hops steps parts nm∧curR rt nn 4 wy fc hops steps parts nm<(steps.length:Int)) then bif (!n1||List.isEmpty hops)&&decide (hops.length≤1000000) then bif kidOk rt nn hops (curR rt nn 4 wy fc hops steps parts nm) (fi 3 (List.getD steps (Int.toNat (curR rt nn 4 wy fc hops steps parts nm)) D.nilp)) then bif decide (List.length (duesOf (orgOfId rt nn hops) rt nn 4 wy n1 fc hops steps parts nm)≤1000000) then bif decide (0<(↑(cntUp false (duesOf (orgOfId rt nn hops) rt nn 4 wy n1 fc hops steps parts nm) (List.length (duesOf (orgOfId rt nn hops) rt nn 4 wy n1 fc hops steps parts nm)) 0):Int)) then some [D.bool true] else some [D.bool false] else none else some [D.bool true] else none else none else none else none else some [D.bool true] else none else some [D.bool true] else none else none else none else none else none else none else none else none else none:=by kernel_rfl
theorem x904s5(m n:Nat)(rt nn wy:Int)(n1 n2 n3 fc:Bool)(hops steps parts:List D)(nm:List UInt8):Tree.out (enterM (Dt true) (callN (Dt true) (m+40)) n c4 [.d (sagaD rt nn 5 wy n1 n2 n3 fc hops steps parts nm)] [])=bif !few hops steps parts then some [D.bool true] else bif (!n1||List.isEmpty hops)&&(decide (steps.length≤1000000)&&decide (parts.length≤1000000)) then bif decide (steps.length≤1000000) then bif decide (parts.length≤1000000) then bif mayOk rt nn 5 wy fc hops steps parts nm==true then bif decide (List.length (duesOf (orgOfId rt nn hops) rt nn 5 wy n1 fc hops steps parts nm)≤1000000) then bif (↑(cntUp true (duesOf (orgOfId rt nn hops) rt nn 5 wy n1 fc hops steps parts nm) (List.length (duesOf (orgOfId rt nn hops) rt nn 5 wy n1 fc hops steps parts nm)) 0):Int) != 0 then some [D.bool false] else bif decide (steps.length≤1000000) then bif decide (parts.length≤1000000) then bif endR rt nn 5 wy fc hops steps parts nm then bif decide (List.length (duesOf (orgOfId rt nn hops) rt nn 5 wy n1 fc hops steps parts nm)≤1000000) then bif (↑(cntUp false (duesOf (orgOfId rt nn hops) rt nn 5 wy n1 fc hops steps parts nm) (List.length (duesOf (orgOfId rt nn hops) rt nn 5 wy n1 fc hops steps parts nm)) 0):Int) != 0 then some [D.bool false] else bif decide (steps.length≤1000000) then bif decide (parts.length≤1000000) then bif decide (0≤curR rt nn 5 wy fc hops steps parts nm) then bif decide (0≤curR rt nn 5 wy fc hops steps parts nm∧curR rt nn 5 wy fc hops steps parts nm<(steps.length:Int)) then bif !fs 4 (List.getD steps (Int.toNat (curR rt nn 5 wy fc hops steps parts nm)) D.nilp)==[] then bif decide (0≤curR rt nn 5 wy fc hops steps parts nm∧curR rt nn 5 wy fc hops steps parts nm<(parts.length:Int)) then bif fi 0 (List.getD parts (Int.toNat (curR rt nn 5 wy fc hops steps parts nm)) D.nilp)==1 then bif decide (0≤curR rt nn 5 wy fc hops steps parts nm∧curR rt nn 5 wy fc hops steps parts nm<(steps.length:Int)) then bif (!n1||List.isEmpty hops)&&decide (hops.length≤1000000) then bif kidOk rt nn hops (curR rt nn 5 wy fc hops steps parts nm) (fi 3 (List.getD steps (Int.toNat (curR rt nn 5 wy fc hops steps parts nm)) D.nilp)) then bif decide (List.length (duesOf (orgOfId rt nn hops) rt nn 5 wy n1 fc hops steps parts nm)≤1000000) then bif decide (0<(↑(cntUp false (duesOf (orgOfId rt nn hops) rt nn 5 wy n1 fc hops steps parts nm) (List.length (duesOf (orgOfId rt nn hops) rt nn 5 wy n1 fc hops steps parts nm)) 0):Int)) then some [D.bool true] else some [D.bool false] else none else some [D.bool true] else none else none else some [D.bool true] else none else some [D.bool true] else none else some [D.bool true] else none else none else none else bif decide (steps.length≤1000000) then bif decide (parts.length≤1000000) then bif decide (0≤curR rt nn 5 wy fc hops steps parts nm) then bif decide (0≤curR rt nn 5 wy fc hops steps parts nm∧curR rt nn 5 wy fc hops steps parts nm<(steps.length:Int)) then bif !fs 4 (List.getD steps (Int.toNat (curR rt nn 5 wy fc hops steps parts nm)) D.nilp)==[] then bif decide (0≤curR rt nn 5 wy fc hops steps parts nm∧curR rt nn 5 wy fc hops steps parts nm<(parts.length:Int)) then bif fi 0 (List.getD parts (Int.toNat (curR rt nn 5 wy fc hops steps parts nm)) D.nilp)==1 then bif decide (0≤curR rt nn 5 wy fc hops steps parts nm∧curR rt nn 5 wy fc hops steps parts nm<(steps.length:Int)) then bif (!n1||List.isEmpty hops)&&decide (hops.length≤1000000) then bif kidOk rt nn hops (curR rt nn 5 wy fc hops steps parts nm) (fi 3 (List.getD steps (Int.toNat (curR rt nn 5 wy fc hops steps parts nm)) D.nilp)) then bif decide (List.length (duesOf (orgOfId rt nn hops) rt nn 5 wy n1 fc hops steps parts nm)≤1000000) then bif decide (0<(↑(cntUp false (duesOf (orgOfId rt nn hops) rt nn 5 wy n1 fc hops steps parts nm) (List.length (duesOf (orgOfId rt nn hops) rt nn 5 wy n1 fc hops steps parts nm)) 0):Int)) then some [D.bool true] else some [D.bool false] else none else some [D.bool true] else none else none else some [D.bool true] else none else some [D.bool true] else none else some [D.bool true] else none else none else none else none else none else none else none else none else none:=by kernel_rfl
theorem x904s6(m n:Nat)(rt nn wy:Int)(n1 n2 n3 fc:Bool)(hops steps parts:List D)(nm:List UInt8):Tree.out (enterM (Dt true) (callN (Dt true) (m+40)) n c4 [.d (sagaD rt nn 6 wy n1 n2 n3 fc hops steps parts nm)] [])=bif !few hops steps parts then some [D.bool true] else bif (!n1||List.isEmpty hops)&&(decide (steps.length≤1000000)&&decide (parts.length≤1000000)) then bif decide (steps.length≤1000000) then bif decide (parts.length≤1000000) then bif mayOk rt nn 6 wy fc hops steps parts nm==true then bif decide (0<(hops.length:Int)) then bif decide (List.length (duesOf (orgOfId rt nn hops) rt nn 6 wy n1 fc hops steps parts nm)≤1000000) then bif (↑(cntUp true (duesOf (orgOfId rt nn hops) rt nn 6 wy n1 fc hops steps parts nm) (List.length (duesOf (orgOfId rt nn hops) rt nn 6 wy n1 fc hops steps parts nm)) 0):Int) != 1 then some [D.bool false] else bif decide (steps.length≤1000000) then bif decide (parts.length≤1000000) then bif endR rt nn 6 wy fc hops steps parts nm then bif decide (List.length (duesOf (orgOfId rt nn hops) rt nn 6 wy n1 fc hops steps parts nm)≤1000000) then bif (↑(cntUp false (duesOf (orgOfId rt nn hops) rt nn 6 wy n1 fc hops steps parts nm) (List.length (duesOf (orgOfId rt nn hops) rt nn 6 wy n1 fc hops steps parts nm)) 0):Int) != 0 then some [D.bool false] else bif decide (steps.length≤1000000) then bif decide (parts.length≤1000000) then bif decide (0≤curR rt nn 6 wy fc hops steps parts nm) then bif decide (0≤curR rt nn 6 wy fc hops steps parts nm∧curR rt nn 6 wy fc hops steps parts nm<(steps.length:Int)) then bif !fs 4 (List.getD steps (Int.toNat (curR rt nn 6 wy fc hops steps parts nm)) D.nilp)==[] then bif decide (0≤curR rt nn 6 wy fc hops steps parts nm∧curR rt nn 6 wy fc hops steps parts nm<(parts.length:Int)) then bif fi 0 (List.getD parts (Int.toNat (curR rt nn 6 wy fc hops steps parts nm)) D.nilp)==1 then bif decide (0≤curR rt nn 6 wy fc hops steps parts nm∧curR rt nn 6 wy fc hops steps parts nm<(steps.length:Int)) then bif (!n1||List.isEmpty hops)&&decide (hops.length≤1000000) then bif kidOk rt nn hops (curR rt nn 6 wy fc hops steps parts nm) (fi 3 (List.getD steps (Int.toNat (curR rt nn 6 wy fc hops steps parts nm)) D.nilp)) then bif decide (List.length (duesOf (orgOfId rt nn hops) rt nn 6 wy n1 fc hops steps parts nm)≤1000000) then bif decide (0<(↑(cntUp false (duesOf (orgOfId rt nn hops) rt nn 6 wy n1 fc hops steps parts nm) (List.length (duesOf (orgOfId rt nn hops) rt nn 6 wy n1 fc hops steps parts nm)) 0):Int)) then some [D.bool true] else some [D.bool false] else none else some [D.bool true] else none else none else some [D.bool true] else none else some [D.bool true] else none else some [D.bool true] else none else none else none else bif decide (steps.length≤1000000) then bif decide (parts.length≤1000000) then bif decide (0≤curR rt nn 6 wy fc hops steps parts nm) then bif decide (0≤curR rt nn 6 wy fc hops steps parts nm∧curR rt nn 6 wy fc hops steps parts nm<(steps.length:Int)) then bif !fs 4 (List.getD steps (Int.toNat (curR rt nn 6 wy fc hops steps parts nm)) D.nilp)==[] then bif decide (0≤curR rt nn 6 wy fc hops steps parts nm∧curR rt nn 6 wy fc hops steps parts nm<(parts.length:Int)) then bif fi 0 (List.getD parts (Int.toNat (curR rt nn 6 wy fc hops steps parts nm)) D.nilp)==1 then bif decide (0≤curR rt nn 6 wy fc hops steps parts nm∧curR rt nn 6 wy fc hops steps parts nm<(steps.length:Int)) then bif (!n1||List.isEmpty hops)&&decide (hops.length≤1000000) then bif kidOk rt nn hops (curR rt nn 6 wy fc hops steps parts nm) (fi 3 (List.getD steps (Int.toNat (curR rt nn 6 wy fc hops steps parts nm)) D.nilp)) then bif decide (List.length (duesOf (orgOfId rt nn hops) rt nn 6 wy n1 fc hops steps parts nm)≤1000000) then bif decide (0<(↑(cntUp false (duesOf (orgOfId rt nn hops) rt nn 6 wy n1 fc hops steps parts nm) (List.length (duesOf (orgOfId rt nn hops) rt nn 6 wy n1 fc hops steps parts nm)) 0):Int)) then some [D.bool true] else some [D.bool false] else none else some [D.bool true] else none else none else some [D.bool true] else none else some [D.bool true] else none else some [D.bool true] else none else none else none else none else none else bif decide (List.length (duesOf (orgOfId rt nn hops) rt nn 6 wy n1 fc hops steps parts nm)≤1000000) then bif (↑(cntUp true (duesOf (orgOfId rt nn hops) rt nn 6 wy n1 fc hops steps parts nm) (List.length (duesOf (orgOfId rt nn hops) rt nn 6 wy n1 fc hops steps parts nm)) 0):Int) != 0 then some [D.bool false] else bif decide (steps.length≤1000000) then bif decide (parts.length≤1000000) then bif endR rt nn 6 wy fc hops steps parts nm then bif decide (List.length (duesOf (orgOfId rt nn hops) rt nn 6 wy n1 fc hops steps parts nm)≤1000000) then bif (↑(cntUp false (duesOf (orgOfId rt nn hops) rt nn 6 wy n1 fc hops steps parts nm) (List.length (duesOf (orgOfId rt nn hops) rt nn 6 wy n1 fc hops steps parts nm)) 0):Int) != 0 then some [D.bool false] else bif decide (steps.length≤1000000) then bif decide (parts.length≤1000000) then bif decide (0≤curR rt nn 6 wy fc hops steps parts nm) then bif decide (0≤curR rt nn 6 wy fc hops steps parts nm∧curR rt nn 6 wy fc hops steps parts nm<(steps.length:Int)) then bif !fs 4 (List.getD steps (Int.toNat (curR rt nn 6 wy fc hops steps parts nm)) D.nilp)==[] then bif decide (0≤curR rt nn 6 wy fc hops steps parts nm∧curR rt nn 6 wy fc hops steps parts nm<(parts.length:Int)) then bif fi 0 (List.getD parts (Int.toNat (curR rt nn 6 wy fc hops steps parts nm)) D.nilp)==1 then bif decide (0≤curR rt nn 6 wy fc hops steps parts nm∧curR rt nn 6 wy fc hops steps parts nm<(steps.length:Int)) then bif (!n1||List.isEmpty hops)&&decide (hops.length≤1000000) then bif kidOk rt nn hops (curR rt nn 6 wy fc hops steps parts nm) (fi 3 (List.getD steps (Int.toNat (curR rt nn 6 wy fc hops steps parts nm)) D.nilp)) then bif decide (List.length (duesOf (orgOfId rt nn hops) rt nn 6 wy n1 fc hops steps parts nm)≤1000000) then bif decide (0<(↑(cntUp false (duesOf (orgOfId rt nn hops) rt nn 6 wy n1 fc hops steps parts nm) (List.length (duesOf (orgOfId rt nn hops) rt nn 6 wy n1 fc hops steps parts nm)) 0):Int)) then some [D.bool true] else some [D.bool false] else none else some [D.bool true] else none else none else some [D.bool true] else none else some [D.bool true] else none else some [D.bool true] else none else none else none else bif decide (steps.length≤1000000) then bif decide (parts.length≤1000000) then bif decide (0≤curR rt nn 6 wy fc hops steps parts nm) then bif decide (0≤curR rt nn 6 wy fc hops steps parts nm∧curR rt nn 6 wy fc hops steps parts nm<(steps.length:Int)) then bif !fs 4 (List.getD steps (Int.toNat (curR rt nn 6 wy fc hops steps parts nm)) D.nilp)==[] then bif decide (0≤curR rt nn 6 wy fc hops steps parts nm∧curR rt nn 6 wy fc hops steps parts nm<(parts.length:Int)) then bif fi 0 (List.getD parts (Int.toNat (curR rt nn 6 wy fc hops steps parts nm)) D.nilp)==1 then bif decide (0≤curR rt nn 6 wy fc hops steps parts nm∧curR rt nn 6 wy fc hops steps parts nm<(steps.length:Int)) then bif (!n1||List.isEmpty hops)&&decide (hops.length≤1000000) then bif kidOk rt nn hops (curR rt nn 6 wy fc hops steps parts nm) (fi 3 (List.getD steps (Int.toNat (curR rt nn 6 wy fc hops steps parts nm)) D.nilp)) then bif decide (List.length (duesOf (orgOfId rt nn hops) rt nn 6 wy n1 fc hops steps parts nm)≤1000000) then bif decide (0<(↑(cntUp false (duesOf (orgOfId rt nn hops) rt nn 6 wy n1 fc hops steps parts nm) (List.length (duesOf (orgOfId rt nn hops) rt nn 6 wy n1 fc hops steps parts nm)) 0):Int)) then some [D.bool true] else some [D.bool false] else none else some [D.bool true] else none else none else some [D.bool true] else none else some [D.bool true] else none else some [D.bool true] else none else none else none else none else none else none else none else none else none:=by kernel_rfl
theorem x904s7(m n:Nat)(rt nn wy:Int)(n1 n2 n3 fc:Bool)(hops steps parts:List D)(nm:List UInt8):Tree.out (enterM (Dt true) (callN (Dt true) (m+40)) n c4 [.d (sagaD rt nn 7 wy n1 n2 n3 fc hops steps parts nm)] [])=bif !few hops steps parts then some [D.bool true] else bif (!n1||List.isEmpty hops)&&(decide (steps.length≤1000000)&&decide (parts.length≤1000000)) then bif decide (steps.length≤1000000) then bif decide (parts.length≤1000000) then bif mayOk rt nn 7 wy fc hops steps parts nm==true then bif decide (0<(hops.length:Int)) then bif decide (List.length (duesOf (orgOfId rt nn hops) rt nn 7 wy n1 fc hops steps parts nm)≤1000000) then bif (↑(cntUp true (duesOf (orgOfId rt nn hops) rt nn 7 wy n1 fc hops steps parts nm) (List.length (duesOf (orgOfId rt nn hops) rt nn 7 wy n1 fc hops steps parts nm)) 0):Int) != 1 then some [D.bool false] else bif decide (steps.length≤1000000) then bif decide (parts.length≤1000000) then bif endR rt nn 7 wy fc hops steps parts nm then bif decide (List.length (duesOf (orgOfId rt nn hops) rt nn 7 wy n1 fc hops steps parts nm)≤1000000) then bif (↑(cntUp false (duesOf (orgOfId rt nn hops) rt nn 7 wy n1 fc hops steps parts nm) (List.length (duesOf (orgOfId rt nn hops) rt nn 7 wy n1 fc hops steps parts nm)) 0):Int) != 0 then some [D.bool false] else bif decide (steps.length≤1000000) then bif decide (parts.length≤1000000) then bif decide (0≤curR rt nn 7 wy fc hops steps parts nm) then bif decide (0≤curR rt nn 7 wy fc hops steps parts nm∧curR rt nn 7 wy fc hops steps parts nm<(steps.length:Int)) then bif !fs 4 (List.getD steps (Int.toNat (curR rt nn 7 wy fc hops steps parts nm)) D.nilp)==[] then bif decide (0≤curR rt nn 7 wy fc hops steps parts nm∧curR rt nn 7 wy fc hops steps parts nm<(parts.length:Int)) then bif fi 0 (List.getD parts (Int.toNat (curR rt nn 7 wy fc hops steps parts nm)) D.nilp)==1 then bif decide (0≤curR rt nn 7 wy fc hops steps parts nm∧curR rt nn 7 wy fc hops steps parts nm<(steps.length:Int)) then bif (!n1||List.isEmpty hops)&&decide (hops.length≤1000000) then bif kidOk rt nn hops (curR rt nn 7 wy fc hops steps parts nm) (fi 3 (List.getD steps (Int.toNat (curR rt nn 7 wy fc hops steps parts nm)) D.nilp)) then bif decide (List.length (duesOf (orgOfId rt nn hops) rt nn 7 wy n1 fc hops steps parts nm)≤1000000) then bif decide (0<(↑(cntUp false (duesOf (orgOfId rt nn hops) rt nn 7 wy n1 fc hops steps parts nm) (List.length (duesOf (orgOfId rt nn hops) rt nn 7 wy n1 fc hops steps parts nm)) 0):Int)) then some [D.bool true] else some [D.bool false] else none else some [D.bool true] else none else none else some [D.bool true] else none else some [D.bool true] else none else some [D.bool true] else none else none else none else bif decide (steps.length≤1000000) then bif decide (parts.length≤1000000) then bif decide (0≤curR rt nn 7 wy fc hops steps parts nm) then bif decide (0≤curR rt nn 7 wy fc hops steps parts nm∧curR rt nn 7 wy fc hops steps parts nm<(steps.length:Int)) then bif !fs 4 (List.getD steps (Int.toNat (curR rt nn 7 wy fc hops steps parts nm)) D.nilp)==[] then bif decide (0≤curR rt nn 7 wy fc hops steps parts nm∧curR rt nn 7 wy fc hops steps parts nm<(parts.length:Int)) then bif fi 0 (List.getD parts (Int.toNat (curR rt nn 7 wy fc hops steps parts nm)) D.nilp)==1 then bif decide (0≤curR rt nn 7 wy fc hops steps parts nm∧curR rt nn 7 wy fc hops steps parts nm<(steps.length:Int)) then bif (!n1||List.isEmpty hops)&&decide (hops.length≤1000000) then bif kidOk rt nn hops (curR rt nn 7 wy fc hops steps parts nm) (fi 3 (List.getD steps (Int.toNat (curR rt nn 7 wy fc hops steps parts nm)) D.nilp)) then bif decide (List.length (duesOf (orgOfId rt nn hops) rt nn 7 wy n1 fc hops steps parts nm)≤1000000) then bif decide (0<(↑(cntUp false (duesOf (orgOfId rt nn hops) rt nn 7 wy n1 fc hops steps parts nm) (List.length (duesOf (orgOfId rt nn hops) rt nn 7 wy n1 fc hops steps parts nm)) 0):Int)) then some [D.bool true] else some [D.bool false] else none else some [D.bool true] else none else none else some [D.bool true] else none else some [D.bool true] else none else some [D.bool true] else none else none else none else none else none else bif decide (List.length (duesOf (orgOfId rt nn hops) rt nn 7 wy n1 fc hops steps parts nm)≤1000000) then bif (↑(cntUp true (duesOf (orgOfId rt nn hops) rt nn 7 wy n1 fc hops steps parts nm) (List.length (duesOf (orgOfId rt nn hops) rt nn 7 wy n1 fc hops steps parts nm)) 0):Int) != 0 then some [D.bool false] else bif decide (steps.length≤1000000) then bif decide (parts.length≤1000000) then bif endR rt nn 7 wy fc hops steps parts nm then bif decide (List.length (duesOf (orgOfId rt nn hops) rt nn 7 wy n1 fc hops steps parts nm)≤1000000) then bif (↑(cntUp false (duesOf (orgOfId rt nn hops) rt nn 7 wy n1 fc hops steps parts nm) (List.length (duesOf (orgOfId rt nn hops) rt nn 7 wy n1 fc hops steps parts nm)) 0):Int) != 0 then some [D.bool false] else bif decide (steps.length≤1000000) then bif decide (parts.length≤1000000) then bif decide (0≤curR rt nn 7 wy fc hops steps parts nm) then bif decide (0≤curR rt nn 7 wy fc hops steps parts nm∧curR rt nn 7 wy fc hops steps parts nm<(steps.length:Int)) then bif !fs 4 (List.getD steps (Int.toNat (curR rt nn 7 wy fc hops steps parts nm)) D.nilp)==[] then bif decide (0≤curR rt nn 7 wy fc hops steps parts nm∧curR rt nn 7 wy fc hops steps parts nm<(parts.length:Int)) then bif fi 0 (List.getD parts (Int.toNat (curR rt nn 7 wy fc hops steps parts nm)) D.nilp)==1 then bif decide (0≤curR rt nn 7 wy fc hops steps parts nm∧curR rt nn 7 wy fc hops steps parts nm<(steps.length:Int)) then bif (!n1||List.isEmpty hops)&&decide (hops.length≤1000000) then bif kidOk rt nn hops (curR rt nn 7 wy fc hops steps parts nm) (fi 3 (List.getD steps (Int.toNat (curR rt nn 7 wy fc hops steps parts nm)) D.nilp)) then bif decide (List.length (duesOf (orgOfId rt nn hops) rt nn 7 wy n1 fc hops steps parts nm)≤1000000) then bif decide (0<(↑(cntUp false (duesOf (orgOfId rt nn hops) rt nn 7 wy n1 fc hops steps parts nm) (List.length (duesOf (orgOfId rt nn hops) rt nn 7 wy n1 fc hops steps parts nm)) 0):Int)) then some [D.bool true] else some [D.bool false] else none else some [D.bool true] else none else none else some [D.bool true] else none else some [D.bool true] else none else some [D.bool true] else none else none else none else bif decide (steps.length≤1000000) then bif decide (parts.length≤1000000) then bif decide (0≤curR rt nn 7 wy fc hops steps parts nm) then bif decide (0≤curR rt nn 7 wy fc hops steps parts nm∧curR rt nn 7 wy fc hops steps parts nm<(steps.length:Int)) then bif !fs 4 (List.getD steps (Int.toNat (curR rt nn 7 wy fc hops steps parts nm)) D.nilp)==[] then bif decide (0≤curR rt nn 7 wy fc hops steps parts nm∧curR rt nn 7 wy fc hops steps parts nm<(parts.length:Int)) then bif fi 0 (List.getD parts (Int.toNat (curR rt nn 7 wy fc hops steps parts nm)) D.nilp)==1 then bif decide (0≤curR rt nn 7 wy fc hops steps parts nm∧curR rt nn 7 wy fc hops steps parts nm<(steps.length:Int)) then bif (!n1||List.isEmpty hops)&&decide (hops.length≤1000000) then bif kidOk rt nn hops (curR rt nn 7 wy fc hops steps parts nm) (fi 3 (List.getD steps (Int.toNat (curR rt nn 7 wy fc hops steps parts nm)) D.nilp)) then bif decide (List.length (duesOf (orgOfId rt nn hops) rt nn 7 wy n1 fc hops steps parts nm)≤1000000) then bif decide (0<(↑(cntUp false (duesOf (orgOfId rt nn hops) rt nn 7 wy n1 fc hops steps parts nm) (List.length (duesOf (orgOfId rt nn hops) rt nn 7 wy n1 fc hops steps parts nm)) 0):Int)) then some [D.bool true] else some [D.bool false] else none else some [D.bool true] else none else none else some [D.bool true] else none else some [D.bool true] else none else some [D.bool true] else none else none else none else none else none else none else none else none else none:=by kernel_rfl
theorem cur_at{st:Int}{parts:List D}(hc:0≤cur st parts):st=1∨st=4∨st=5:=by
 by_cases h1:st=1
 ·exact .inl h1
 ·by_cases h4:st=4
  ·exact .inr (.inl h4)
  ·by_cases h5:st=5
   ·exact .inr (.inr h5)
   ·exfalso
    unfold cur at hc
    rw [beqF h1,beqF h4,beqF h5] at hc
    simp only [Bool.or_self,cond_false] at hc
    omega
theorem cntUp_eq(up:Bool)(l:List D): ∀d i:Nat,i+d=l.length→cntUp up l d i=((l.drop i).filter (fun x=>decide (5≤fi 0 x)==up)).length
 | 0,i,h=>by
  rw [List.drop_eq_nil_of_le (by omega)];rfl
 | d+1,i,h=>by
  have hi:i<l.length:=by omega
  have e:l.getD i .nilp=l[i]:=by rw [List.getD_eq_getElem?_getD,List.getElem?_eq_getElem hi];rfl
  unfold cntUp
  rw [cntUp_eq up l d (i+1) (by omega),List.drop_eq_getElem_cons hi,List.filter_cons,e]
  cases (decide (5≤fi 0 l[i])==up)
  ·simp
  ·simp [Nat.add_comm]
theorem cntU_all(up:Bool)(l:List D):cntUp up l l.length 0=(l.filter (fun x=>decide (5≤fi 0 x)==up)).length:=cntUp_eq up l l.length 0 (by omega)
theorem cnt_of{rt nn st wy:Int}{n1 fc:Bool}{hops steps parts:List D}{nm:List UInt8}(hm:mayOk rt nn st wy fc hops steps parts nm=true)(h1:n1=true→hops=[]):
  cntUp true (ofL rt nn st wy n1 fc hops steps parts nm) (ofL rt nn st wy n1 fc hops steps parts nm).length 0=(bif tellOk rt nn st wy fc hops steps parts nm then 1 else 0)∧
  cntUp false (ofL rt nn st wy n1 fc hops steps parts nm) (ofL rt nn st wy n1 fc hops steps parts nm).length 0=(dueL (ow st (curR rt nn st wy fc hops steps parts nm) fc) rt nn hops steps parts steps.length 0).length:=by
 have hd: ∀x∈dueL (ow st (curR rt nn st wy fc hops steps parts nm) fc) rt nn hops steps parts steps.length 0,decide (5≤fi 0 x)=false:=fun x hx=>by
  obtain ⟨j,-,hj,hx⟩:=dueL_mem _ _ hx
  obtain ⟨-,h4,-⟩:=kid_out (wy:=wy) (nm:=nm) hm (by omega) hx
  exact decide_eq_false (by omega)
 have ht: ∀x∈tellL rt nn st wy n1 fc hops steps parts nm,decide (5≤fi 0 x)=true:=fun x hx=>by
  obtain ⟨-,h5,-⟩:=tell_out h1 hx
  exact decide_eq_true h5
 constructor
 ·rw [cntU_all]
  unfold ofL
  rw [List.filter_append,List.filter_eq_nil_iff.2 (fun x hx=>by rw [hd x hx];decide),List.filter_eq_self.2 (fun x hx=>by rw [ht x hx];rfl),List.nil_append]
  unfold tellL
  cases tellOk rt nn st wy fc hops steps parts nm <;> rfl
 ·rw [cntU_all]
  unfold ofL
  rw [List.filter_append,List.filter_eq_self.2 (fun x hx=>by rw [hd x hx];rfl),List.filter_eq_nil_iff.2 (fun x hx=>by rw [ht x hx];decide),List.append_nil]
theorem q12{x y:D}:p97 w12 x y=true↔fi 0 x≠1∧fi 0 x≠2:=by
 simp [p97,w12,hasI_int]
theorem q2{x y:D}:p97 w2 x y=true↔fi 0 x≠2:=by
 simp [p97,w2,hasI_int]
theorem q1{x y:D}:p97 w1 x y=true↔fi 0 x≠1:=by
 simp [p97,w1,hasI_int]
theorem dueL_none{kf:Int→Int→Int}{rt nn:Int}{hops steps parts:List D}: ∀d i:Nat,(∀j:Nat,i≤j→j<i+d→kf j (fi 0 (parts.getD j .nilp))=0)→dueL kf rt nn hops steps parts d i=[]
 | 0,i,_=>rfl
 | d+1,i,h=>by
  unfold dueL
  rw [dueL_none d (i+1) fun j h1 h2=>h j (by omega) (by omega)]
  unfold oweN
  rw [h i (by omega) (by omega)]
  cases (fs 4 (steps.getD i .nilp)==[]) <;> cases kidOk rt nn hops i (fi 3 (steps.getD i .nilp)) <;> rfl
theorem ended_none{rt nn st wy:Int}{fc:Bool}{hops steps parts:List D}{nm:List UInt8}(he:endR rt nn st wy fc hops steps parts nm=true)(c:Int):dueL (ow st c fc) rt nn hops steps parts steps.length 0=[]:=by
 unfold endR at he
 cases hm:mayOk rt nn st wy fc hops steps parts nm
 ·rw [hm] at he;cases he
 ·rw [hm] at he
  have he:endR0 st fc parts steps=true:=he
  have hl:=(may_lens hm).1
  refine dueL_none _ _ fun j _ hj=> ?_
  have hj:j<parts.length:=by omega
  show owedK st c j (fi 0 (parts.getD j .nilp)) fc=0
  unfold endR0 at he
  by_cases h7:st=7
  ·subst h7;rfl
  ·rw [beqF h7] at he
   by_cases h6:st=6
   ·subst h6
    have he:allI (p97 w12) parts.length parts steps=true:=he
    obtain ⟨a,b⟩:=q12.1 ((allI_iff _ _ _ _).1 he j hj)
    unfold owedK
    rw [beqF a,beqF b];rfl
   ·rw [beqF h6] at he
    by_cases h3:st=3
    ·subst h3
     cases h2:allI (p97 w2) parts.length parts steps
     ·rw [h2] at he;cases he
     ·rw [h2] at he
      have b:=q2.1 ((allI_iff _ _ _ _).1 h2 j hj)
      unfold owedK
      rw [beqF b]
      cases fc
      ·cases (fi 0 (parts.getD j .nilp)==1) <;> rfl
      ·have he:allI (p97 w1) parts.length parts steps=true:=he
       rw [beqF (q1.1 ((allI_iff _ _ _ _).1 he j hj))];rfl
    ·rw [beqF h3] at he;cases he
theorem dueL_some{kf:Int→Int→Int}{rt nn:Int}{hops steps parts:List D}{j:Nat}(h:oweN kf rt nn hops steps parts j≠[]): ∀d i:Nat,i≤j→j<i+d→0<(dueL kf rt nn hops steps parts d i).length
 | 0,i,h1,h2=>by omega
 | d+1,i,h1,h2=>by
  unfold dueL
  rw [List.length_append]
  by_cases he:i=j
  ·subst he
   have:=List.length_pos_iff.2 h
   omega
  ·have:=dueL_some h d (i+1) (by omega) (by omega)
   omega
theorem waits_some{rt nn st wy:Int}{fc:Bool}{hops steps parts:List D}{nm:List UInt8}(hm:mayOk rt nn st wy fc hops steps parts nm=true)(h0:0≤(curR rt nn st wy fc hops steps parts nm))(hs:(fs 4 (steps.getD (curR rt nn st wy fc hops steps parts nm).toNat .nilp)==[])=false)
  (hp:(fi 0 (parts.getD (curR rt nn st wy fc hops steps parts nm).toNat .nilp)==1)=true∨st=4∧(fi 0 (parts.getD (curR rt nn st wy fc hops steps parts nm).toNat .nilp)==2)=true) (hk:kidOk rt nn hops (curR rt nn st wy fc hops steps parts nm) (fi 3 (steps.getD (curR rt nn st wy fc hops steps parts nm).toNat .nilp))=true):
  0<(dueL (ow st (curR rt nn st wy fc hops steps parts nm) fc) rt nn hops steps parts steps.length 0).length:=by
 have hc:=curR_may hm
 rw [hc] at h0 hs hp hk ⊢
 have hlt:=cur_lt st parts
 have hl:=(may_lens hm).1
 have hn:((cur st parts).toNat:Int)=cur st parts:=Int.toNat_of_nonneg h0
 refine dueL_some (j:=(cur st parts).toNat) ?_ _ _ (by omega) (by omega)
 unfold oweN
 rw [hs,hn,hk]
 have hK:(ow st (cur st parts) fc (cur st parts) (fi 0 (parts.getD (cur st parts).toNat .nilp))==0)=false:=by
  show (owedK st (cur st parts) (cur st parts) (fi 0 (parts.getD (cur st parts).toNat .nilp)) fc==0)=false
  unfold owedK
  rw [beq_self_eq_true]
  rcases cur_at h0 with rfl | rfl | rfl
  ·rcases hp with hp | ⟨h4,-⟩
   ·rw [hp];rfl
   ·cases h4
  ·rcases hp with hp | ⟨-,hp⟩
   ·rw [hp];rfl
   ·rw [hp];cases (fi 0 (parts.getD (cur 4 parts).toNat .nilp)==1) <;> rfl
  ·rcases hp with hp | ⟨h4,-⟩
   ·rw [hp];rfl
   ·cases h4
 rw [hK]
 simp
theorem f904a{rt nn st wy:Int}{n1 fc:Bool}{hops steps parts:List D}{nm:List UInt8}(hm:mayOk rt nn st wy fc hops steps parts nm=true)(g:((!n1||List.isEmpty hops)&&decide (hops.length≤1000000))=true)(hL:(decide (List.length (duesOf (orgOfId rt nn hops) rt nn st wy n1 fc hops steps parts nm)≤1000000))=true)
  (hw:0<(dueL (ow st (curR rt nn st wy fc hops steps parts nm) fc) rt nn hops steps parts steps.length 0).length→decide (0<(↑(cntUp false (duesOf (orgOfId rt nn hops) rt nn st wy n1 fc hops steps parts nm) (List.length (duesOf (orgOfId rt nn hops) rt nn st wy n1 fc hops steps parts nm)) 0):Int))=true):
  (bif decide (0≤curR rt nn st wy fc hops steps parts nm) then bif decide (0≤curR rt nn st wy fc hops steps parts nm∧curR rt nn st wy fc hops steps parts nm<(steps.length:Int)) then bif !fs 4 (List.getD steps (Int.toNat (curR rt nn st wy fc hops steps parts nm)) D.nilp)==[] then bif decide (0≤curR rt nn st wy fc hops steps parts nm∧curR rt nn st wy fc hops steps parts nm<(parts.length:Int)) then bif fi 0 (List.getD parts (Int.toNat (curR rt nn st wy fc hops steps parts nm)) D.nilp)==1 then bif decide (0≤curR rt nn st wy fc hops steps parts nm∧curR rt nn st wy fc hops steps parts nm<(steps.length:Int)) then bif (!n1||List.isEmpty hops)&&decide (hops.length≤1000000) then bif kidOk rt nn hops (curR rt nn st wy fc hops steps parts nm) (fi 3 (List.getD steps (Int.toNat (curR rt nn st wy fc hops steps parts nm)) D.nilp)) then bif decide (List.length (duesOf (orgOfId rt nn hops) rt nn st wy n1 fc hops steps parts nm)≤1000000) then bif decide (0<(↑(cntUp false (duesOf (orgOfId rt nn hops) rt nn st wy n1 fc hops steps parts nm) (List.length (duesOf (orgOfId rt nn hops) rt nn st wy n1 fc hops steps parts nm)) 0):Int)) then some [D.bool true] else some [D.bool false] else none else some [D.bool true] else none else none else some [D.bool true] else none else some [D.bool true] else none else some [D.bool true])=some [D.bool true]:=by
 rw [g,hL]
 by_cases h0:0≤(curR rt nn st wy fc hops steps parts nm)
 ·have hlt:=cur_lt st parts
  have hl:=(may_lens hm).1
  have hc:=curR_may hm
  rw [decide_eq_true h0,decide_eq_true (show 0≤(curR rt nn st wy fc hops steps parts nm)∧(curR rt nn st wy fc hops steps parts nm)<(steps.length:Int) by omega),decide_eq_true (show 0≤(curR rt nn st wy fc hops steps parts nm)∧(curR rt nn st wy fc hops steps parts nm)<(parts.length:Int) by omega)]
  cases hs:(fs 4 (List.getD steps (Int.toNat (curR rt nn st wy fc hops steps parts nm)) D.nilp)==[])
  ·cases hk:kidOk rt nn hops (curR rt nn st wy fc hops steps parts nm) (fi 3 (List.getD steps (Int.toNat (curR rt nn st wy fc hops steps parts nm)) D.nilp))
   ·cases (fi 0 (List.getD parts (Int.toNat (curR rt nn st wy fc hops steps parts nm)) D.nilp)==1) <;> rfl
   ·cases hp:(fi 0 (List.getD parts (Int.toNat (curR rt nn st wy fc hops steps parts nm)) D.nilp)==1)
    ·rfl
    ·rw [hw (waits_some hm h0 hs (.inl hp) hk)];rfl
  ·rfl
 ·rw [decide_eq_false h0];rfl
theorem f904b{rt nn st wy:Int}{n1 fc:Bool}{hops steps parts:List D}{nm:List UInt8}(hm:mayOk rt nn st wy fc hops steps parts nm=true)(g:((!n1||List.isEmpty hops)&&decide (hops.length≤1000000))=true)(hL:(decide (List.length (duesOf (orgOfId rt nn hops) rt nn st wy n1 fc hops steps parts nm)≤1000000))=true)
  (hw:0<(dueL (ow st (curR rt nn st wy fc hops steps parts nm) fc) rt nn hops steps parts steps.length 0).length→decide (0<(↑(cntUp false (duesOf (orgOfId rt nn hops) rt nn st wy n1 fc hops steps parts nm) (List.length (duesOf (orgOfId rt nn hops) rt nn st wy n1 fc hops steps parts nm)) 0):Int))=true) (h4:st=4):
  (bif decide (0≤curR rt nn st wy fc hops steps parts nm) then bif decide (0≤curR rt nn st wy fc hops steps parts nm∧curR rt nn st wy fc hops steps parts nm<(steps.length:Int)) then bif !fs 4 (List.getD steps (Int.toNat (curR rt nn st wy fc hops steps parts nm)) D.nilp)==[] then bif decide (0≤curR rt nn st wy fc hops steps parts nm∧curR rt nn st wy fc hops steps parts nm<(parts.length:Int)) then bif fi 0 (List.getD parts (Int.toNat (curR rt nn st wy fc hops steps parts nm)) D.nilp)==1 then bif decide (0≤curR rt nn st wy fc hops steps parts nm∧curR rt nn st wy fc hops steps parts nm<(steps.length:Int)) then bif (!n1||List.isEmpty hops)&&decide (hops.length≤1000000) then bif kidOk rt nn hops (curR rt nn st wy fc hops steps parts nm) (fi 3 (List.getD steps (Int.toNat (curR rt nn st wy fc hops steps parts nm)) D.nilp)) then bif decide (List.length (duesOf (orgOfId rt nn hops) rt nn st wy n1 fc hops steps parts nm)≤1000000) then bif decide (0<(↑(cntUp false (duesOf (orgOfId rt nn hops) rt nn st wy n1 fc hops steps parts nm) (List.length (duesOf (orgOfId rt nn hops) rt nn st wy n1 fc hops steps parts nm)) 0):Int)) then some [D.bool true] else some [D.bool false] else none else some [D.bool true] else none else none else bif decide (0≤curR rt nn st wy fc hops steps parts nm∧curR rt nn st wy fc hops steps parts nm<(parts.length:Int)) then bif !fi 0 (List.getD parts (Int.toNat (curR rt nn st wy fc hops steps parts nm)) D.nilp)==2 then some [D.bool true] else bif decide (0≤curR rt nn st wy fc hops steps parts nm∧curR rt nn st wy fc hops steps parts nm<(steps.length:Int)) then bif (!n1||List.isEmpty hops)&&decide (hops.length≤1000000) then bif kidOk rt nn hops (curR rt nn st wy fc hops steps parts nm) (fi 3 (List.getD steps (Int.toNat (curR rt nn st wy fc hops steps parts nm)) D.nilp)) then bif decide (List.length (duesOf (orgOfId rt nn hops) rt nn st wy n1 fc hops steps parts nm)≤1000000) then bif decide (0<(↑(cntUp false (duesOf (orgOfId rt nn hops) rt nn st wy n1 fc hops steps parts nm) (List.length (duesOf (orgOfId rt nn hops) rt nn st wy n1 fc hops steps parts nm)) 0):Int)) then some [D.bool true] else some [D.bool false] else none else some [D.bool true] else none else none else none else none else some [D.bool true] else none else some [D.bool true])=some [D.bool true]:=by
 rw [g,hL]
 by_cases h0:0≤(curR rt nn st wy fc hops steps parts nm)
 ·have hlt:=cur_lt st parts
  have hl:=(may_lens hm).1
  have hc:=curR_may hm
  rw [decide_eq_true h0,decide_eq_true (show 0≤(curR rt nn st wy fc hops steps parts nm)∧(curR rt nn st wy fc hops steps parts nm)<(steps.length:Int) by omega),decide_eq_true (show 0≤(curR rt nn st wy fc hops steps parts nm)∧(curR rt nn st wy fc hops steps parts nm)<(parts.length:Int) by omega)]
  cases hs:(fs 4 (List.getD steps (Int.toNat (curR rt nn st wy fc hops steps parts nm)) D.nilp)==[])
  ·cases hk:kidOk rt nn hops (curR rt nn st wy fc hops steps parts nm) (fi 3 (List.getD steps (Int.toNat (curR rt nn st wy fc hops steps parts nm)) D.nilp))
   ·cases (fi 0 (List.getD parts (Int.toNat (curR rt nn st wy fc hops steps parts nm)) D.nilp)==1) <;> cases (fi 0 (List.getD parts (Int.toNat (curR rt nn st wy fc hops steps parts nm)) D.nilp)==2) <;> rfl
   ·cases hp:(fi 0 (List.getD parts (Int.toNat (curR rt nn st wy fc hops steps parts nm)) D.nilp)==1)
    ·cases hp2:(fi 0 (List.getD parts (Int.toNat (curR rt nn st wy fc hops steps parts nm)) D.nilp)==2)
     ·rfl
     ·rw [hw (waits_some hm h0 hs (.inr ⟨h4,hp2⟩) hk)];rfl
    ·rw [hw (waits_some hm h0 hs (.inl hp) hk)];rfl
  ·rfl
 ·rw [decide_eq_false h0];rfl
theorem duesneeded(m n:Nat)(rt nn st wy:Int)(n1 n2 n3 fc:Bool)(hops steps parts:List D)(nm:List UInt8)(h1:n1=true→hops=[]):
  ∃b,(enterM (Dt b) (callN (Dt b) (m+40)) n c4 [.d (sagaD rt nn st wy n1 n2 n3 fc hops steps parts nm)] []).out=some [.bool true]:=by
 by_cases hf:few hops steps parts=true
 ·have hf':=hf
  unfold few at hf'
  simp only [Bool.and_eq_true,decide_eq_true_eq] at hf'
  obtain ⟨f1,f2,f3⟩:=hf'
  have l1:decide (hops.length≤1000000)=true:=decide_eq_true (by omega)
  have l2:decide (steps.length≤1000000)=true:=decide_eq_true (by omega)
  have l3:decide (parts.length≤1000000)=true:=decide_eq_true (by omega)
  have gn:(!n1||List.isEmpty hops)=true:=by
   cases n1 with
   | false=>rfl
   | true=>rw [h1 rfl];rfl
  have hL:decide (List.length (duesOf (orgOfId rt nn hops) rt nn st wy n1 fc hops steps parts nm)≤1000000)=true:=decide_eq_true (by have:=(duesOf_in (og:=orgOfId rt nn hops) (rt:=rt) (nn:=nn) (st:=st) (wy:=wy) (n1:=n1) (fc:=fc) (hops:=hops) (steps:=steps) (parts:=parts) (nm:=nm)).2;omega)
  cases hm:mayOk rt nn st wy fc hops steps parts nm
  ·refine ⟨false,?_⟩
   have:(duesOf (orgOfId rt nn hops) rt nn st wy n1 fc hops steps parts nm)=[]:=by unfold duesOf;rw [hm];rfl
   rw [x904f,hf,this,gn,l2,l3,hm];rfl
  ·refine ⟨true,?_⟩
   have hd:(duesOf (orgOfId rt nn hops) rt nn st wy n1 fc hops steps parts nm)=ofL rt nn st wy n1 fc hops steps parts nm:=by unfold duesOf;rw [hm,beq_self_eq_true];rfl
   obtain ⟨hu,hv⟩:=cnt_of hm h1
   have g:((!n1||List.isEmpty hops)&&decide (hops.length≤1000000))=true:=by rw [gn,l1];rfl
   have hw:0<(dueL (ow st (curR rt nn st wy fc hops steps parts nm) fc) rt nn hops steps parts steps.length 0).length→decide (0<(↑(cntUp false (duesOf (orgOfId rt nn hops) rt nn st wy n1 fc hops steps parts nm) (List.length (duesOf (orgOfId rt nn hops) rt nn st wy n1 fc hops steps parts nm)) 0):Int))=true:=fun hw=>by rw [hd,hv];exact decide_eq_true (by omega)
   have he:endR rt nn st wy fc hops steps parts nm=true→(((dueL (ow st (curR rt nn st wy fc hops steps parts nm) fc) rt nn hops steps parts steps.length 0).length:Nat):Int)=0:=fun he=>by rw [ended_none he];rfl
   have hend: ∀E:Bool,E=endR rt nn st wy fc hops steps parts nm→((bif E then bif ((((dueL (ow st (curR rt nn st wy fc hops steps parts nm) fc) rt nn hops steps parts steps.length 0).length:Nat):Int) != 0) then some [D.bool false] else some [D.bool true] else some [D.bool true]):Option (List D))=some [D.bool true]:=fun E hE=>by
    cases hE':E
    ·rfl
    ·rw [he (by rw [←hE,hE'])];rfl
   have hT:tellOk rt nn st wy fc hops steps parts nm=(!((hops.length:Int)==0)&&(st==2||(st==3||(st==6||st==7)))):=by unfold tellOk;rw [hm];rfl
   have hst:st=1∨st=2∨st=3∨st=4∨st=5∨st=6∨st=7:=by
    by_cases h7:st=7
    ·omega
    ·have:=fits_st (mayOk_good hm h7).fits
     omega
   have hh:decide (0<(hops.length:Int))= !((hops.length:Int)==0):=by
    by_cases h:(hops.length:Int)=0
    ·rw [h];rfl
    ·rw [beq_eq_false_iff_ne.2 h,decide_eq_true (by omega)];rfl
   rcases hst with rfl | rfl | rfl | rfl | rfl | rfl | rfl
   ·rw [x904s1,f904a hm g hL hw,hf,hm,gn,l2,l3,hL,hd,hu,hv,hT]
    cases ((hops.length:Int)==0) <;> exact hend _ rfl
   ·rw [x904s2,f904a hm g hL hw,hf,hm,gn,l2,l3,hL,hd,hu,hv,hT,hh]
    cases ((hops.length:Int)==0) <;> exact hend _ rfl
   ·rw [x904s3,f904a hm g hL hw,hf,hm,gn,l2,l3,hL,hd,hu,hv,hT,hh]
    cases ((hops.length:Int)==0) <;> exact hend _ rfl
   ·rw [x904s4,f904b hm g hL hw rfl,hf,hm,gn,l2,l3,hL,hd,hu,hv,hT]
    cases ((hops.length:Int)==0) <;> exact hend _ rfl
   ·rw [x904s5,f904a hm g hL hw,hf,hm,gn,l2,l3,hL,hd,hu,hv,hT]
    cases ((hops.length:Int)==0) <;> exact hend _ rfl
   ·rw [x904s6,f904a hm g hL hw,hf,hm,gn,l2,l3,hL,hd,hu,hv,hT,hh]
    cases ((hops.length:Int)==0) <;> exact hend _ rfl
   ·rw [x904s7,f904a hm g hL hw,hf,hm,gn,l2,l3,hL,hd,hu,hv,hT,hh]
    cases ((hops.length:Int)==0) <;> exact hend _ rfl
 ·refine ⟨false,?_⟩
  rw [Bool.not_eq_true] at hf
  rw [x904f,hf];rfl
end Go.Proofs.YtkjiaijkdefkgaaDoor.A
