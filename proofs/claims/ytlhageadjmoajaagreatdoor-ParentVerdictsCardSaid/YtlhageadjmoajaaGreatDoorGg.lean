/- Parts of the walk: SR3, Ld, SR4, K0, QK2, SK2, SK3, QK3, SK4, QD9, SK5, QM1, M1, M2a, QM3, M3, QM4, M4, M5, M6a, QMd, M7, Ma, QM8, M8, M9, Md. -/
import Derived.Test.YtlhageadjmoajaaGreatDoorGf
import Derived.KernelRfl
set_option maxRecDepth 20000
namespace Go.Proofs.YtlhageadjmoajaaGreatDoor.A
open Go Go.AM
theorem run82(m n:Nat)(rt nn st wy:Int)(n1 n2 n3 fc:Bool)(hops steps parts:List D)(nm:List UInt8)(hn:18≤n):(enterM F3 (callN F3 (m+40)) n c151 [.d (sagaD rt nn st wy n1 n2 n3 fc hops steps parts nm)] []).out=some [.bool (partsOk nm steps parts)]:=by
 rw [e82]
 unfold partsOk
 cases hd:defOk nm steps
 ·rfl
 ·by_cases hl:(parts.length:Int)=(steps.length:Int)
  ·have h8:steps.length≤8:=by
    unfold defOk at hd
    simp only [Bool.and_eq_true,Bool.not_eq_true',decide_eq_false_iff_not] at hd
    omega
   have hb:((parts.length:Int) != (steps.length:Int))=false:=by simpa using hl
   have hb':((parts.length:Int)==(steps.length:Int))=true:=by simpa using hl
   rw [hb,hb']
   have:=scan_loop (fun j i=>(resume F3 (callN F3 (m+40)) n j 0 c151 (s82 rt nn st wy n1 n2 n3 fc hops steps parts nm (i:Nat))).out) parts.length (fun i=> !p47 (parts.getD i .nilp) (steps.getD i .nilp)) (fun _=>[.bool false]) [.bool true]
    (fun j i hi=> ?_) (fun j=> ?_) parts.length 0 n (by omega) (by omega)
   ·refine this.trans ?_
    rw [scan_map (fun b:Bool=>[D.bool b]) _ (fun _=>false) true]
    rfl
   ·have hp:p47 (parts.getD i .nilp) (steps.getD i .nilp)=(!decide (fi 0 (parts.getD i .nilp)<0)&&(!decide (4<fi 0 (parts.getD i .nilp))&&((!(fi 0 (parts.getD i .nilp)==1)||asksAt (steps.getD i .nilp))&&(!decide (fi 1 (parts.getD i .nilp)<0)&& !decide (5<fi 1 (parts.getD i .nilp)))))):=by
     unfold p47
     simp only [ltd,Bool.not_not]
     congr 2
     rw [Bool.or_comm]
     rfl
    rw [l82]
    simp only [Int.toNat_natCast,wrap_up hi (by omega),dec_lt hi,dec_ix hi,dec_ix (show i<steps.length by omega),cond_true,hp,asksAt]
    generalize decide (fi 0 (parts.getD i .nilp)<0)=b1
    generalize decide (4<fi 0 (parts.getD i .nilp))=b2
    generalize (fi 0 (parts.getD i .nilp)==1)=b3
    generalize (fs 4 (steps.getD i .nilp)==[])=b4
    generalize decide (fi 1 (parts.getD i .nilp)<0)=b5
    generalize decide (5<fi 1 (parts.getD i .nilp))=b6
    cases b1 <;> cases b2 <;> cases b3 <;> cases b4 <;> cases b5 <;> cases b6 <;> rfl
   ·rw [l82]
    simp only [dec_end,cond_false]
  ·have hb:((parts.length:Int) != (steps.length:Int))=true:=by simpa using hl
   have hb':((parts.length:Int)==(steps.length:Int))=false:=by simpa using hl
   rw [hb,hb']
   rfl
theorem cntN_le(q:Nat→Bool): ∀k,cntN q k≤k
 | 0=>by simp [cntN]
 | k+1=>by
  have:=cntN_le q k
  simp only [cntN]
  cases q k <;> simp <;> omega
theorem run86(m n:Nat)(rt nn st wy:Int)(n1 n2 n3 fc:Bool)(hops steps parts:List D)(nm:List UInt8)(ow:Bool)(state:Int)(hl:parts.length≤1000000)(hs:parts.length≤steps.length)(hn:parts.length<n):
  (enterM F3 (callN F3 (m+40)) n c155 [.d (sagaD rt nn st wy n1 n2 n3 fc hops steps parts nm),.d (.bool ow),.d (.int .i64 state)] []).out=some [.int .i64 (cntR ow state parts steps)]:=by
 rw [e86]
 have main: ∀(r i j:Nat),i+r=parts.length→r<j→(resume F3 (callN F3 (m+40)) n j 0 c155 (s86 rt nn st wy n1 n2 n3 fc hops steps parts nm ow state (cntN (qcnt ow state parts steps) i:Nat) (i:Nat))).out=some [.int .i64 (cntR ow state parts steps)]:=by
  intro r
  induction r with
  | zero=>
   intro i j hi hj
   cases j with
   | zero=>omega
   | succ j=>
    have:i=parts.length:=by omega
    subst this
    rw [l86]
    simp only [dec_end,cond_false]
    rfl
  | succ r ih=>
   intro i j hi hj
   cases j with
   | zero=>omega
   | succ j=>
    have hlt:i<parts.length:=by omega
    have hr:=ih (i+1) j (by omega) (by omega)
    have hc:cntN (qcnt ow state parts steps) (i+1)=cntN (qcnt ow state parts steps) i+(bif qcnt ow state parts steps i then 1 else 0):=rfl
    have hq:qcnt ow state parts steps i=(fi 0 (parts.getD i .nilp)==state&&((!fs 4 (steps.getD i .nilp)==[]) != ow)):=rfl
    have hw:IntKind.wrap .i64 ((cntN (qcnt ow state parts steps) i:Nat)+1:Int)=((cntN (qcnt ow state parts steps) i+1:Nat):Int):=by
     have:=cntN_le (qcnt ow state parts steps) i
     rw [wrap_i64 (by omega) (by omega)]
     omega
    rw [l86]
    simp only [Int.toNat_natCast,wrap_up hlt hl,dec_lt hlt,dec_ix hlt,dec_ix (show i<steps.length by omega),cond_true,hw]
    rw [hc,hq] at hr
    cases h1:(fi 0 (parts.getD i .nilp)==state)
    ·rw [h1] at hr
     exact hr
    ·rw [h1] at hr
     cases h2:((!fs 4 (steps.getD i .nilp)==[])==ow)
     ·have h3:((!fs 4 (steps.getD i .nilp)==[]) != ow)=true:=by rw [bne,h2];rfl
      rw [h3] at hr
      exact hr
     ·have h3:((!fs 4 (steps.getD i .nilp)==[]) != ow)=false:=by rw [bne,h2];rfl
      rw [h3] at hr
      exact hr
 exact main parts.length 0 n (by omega) (by omega)
def restOk(k:Nat)(parts:List D):Bool:=scan (fun i=> !(fi 0 (parts.getD i .nilp)==0&&fi 1 (parts.getD i .nilp)==0)) (fun _=>false) true (parts.length - k) k
theorem rest_iff{k:Nat}{parts:List D}:restOk k parts=true↔ ∀j,k≤j→j<parts.length→stAt parts j=0∧trAt parts j=0:=by
 unfold restOk
 rw [scan_all (fun i=>(fi 0 (parts.getD i .nilp)==0&&fi 1 (parts.getD i .nilp)==0))]
 constructor
 ·intro h j h1 h2
  have:=h j h1 (by omega)
  simp only [Bool.and_eq_true,beq_iff_eq] at this
  exact this
 ·intro h j h1 h2
  have:=h j h1 (by omega)
  have a:(fi 0 (parts.getD j .nilp)==0)=true:=beq_iff_eq.2 this.1
  have b:(fi 1 (parts.getD j .nilp)==0)=true:=beq_iff_eq.2 this.2
  rw [a,b];rfl
theorem tail_rest{parts steps:List D}{k:Nat}(hk:k<parts.length)(hs:p47 (parts.getD k .nilp) (steps.getD k .nilp)=true):tailOk k parts steps=bif (fi 0 (parts.getD k .nilp)==0||fi 0 (parts.getD k .nilp)==1) then restOk (k+1) parts else restOk k parts:=by
 have hs:=q47.1 hs
 rw [Bool.eq_iff_iff,tail_iff (by omega)]
 cases h:(fi 0 (parts.getD k .nilp)==0||fi 0 (parts.getD k .nilp)==1)
 ·rw [cond_false,rest_iff]
  simp only [Bool.or_eq_false_iff,beq_eq_false_iff_ne,ne_eq] at h
  constructor
  ·intro g j h1 h2
   rcases g j h1 h2 with ⟨rfl,g | ⟨-,g⟩⟩ | g
   ·exact absurd g h.1
   ·exact absurd g h.2
   ·exact g
  ·intro g j h1 h2
   exact .inr (g j h1 h2)
 ·rw [cond_true,rest_iff]
  simp only [Bool.or_eq_true,beq_iff_eq] at h
  constructor
  ·intro g j h1 h2
   rcases g j (by omega) h2 with ⟨e,-⟩ | g
   ·omega
   ·exact g
  ·intro g j h1 h2
   by_cases he:j=k
   ·subst he
    left
    refine ⟨rfl,?_⟩
    rcases h with h | h
    ·exact .inl h
    ·refine .inr ⟨?_,h⟩
     rcases hs.2.2.1 with a | a
     ·exact a
     ·exact absurd h a
   ·exact .inr (g j (by omega) h2)
theorem run84(m n:Nat)(rt nn st wy:Int)(n1 n2 n3 fc:Bool)(hops steps parts:List D)(nm:List UInt8)(hl:parts.length≤1000000)(hs:parts.length≤steps.length)(hsane:allI p47 parts.length parts steps=true)(hn:parts.length<n):
  (enterM F3 (callN F3 (m+40)) n c153 [.d (sagaD rt nn st wy n1 n2 n3 fc hops steps parts nm)] []).out=some [.bool (runOk parts steps)]:=by
 rw [e84]
 have rest: ∀i,i≤parts.length→(resume F3 (callN F3 (m+40)) n n 1 c153 (s84 rt nn st wy n1 n2 n3 fc hops steps parts nm (i:Nat))).out=some [.bool (restOk i parts)]:=by
  intro i hi
  have:=scan_loop (fun j i=>(resume F3 (callN F3 (m+40)) n j 1 c153 (s84 rt nn st wy n1 n2 n3 fc hops steps parts nm (i:Nat))).out) parts.length (fun i=> !(fi 0 (parts.getD i .nilp)==0&&fi 1 (parts.getD i .nilp)==0)) (fun _=>[.bool false]) [.bool true]
   (fun j i hi=> ?_) (fun j=> ?_) (parts.length - i) i n (by omega) (by omega)
  ·refine this.trans ?_
   rw [scan_map (fun b:Bool=>[D.bool b]) _ (fun _=>false) true]
   rfl
  ·rw [kk84]
   simp only [Int.toNat_natCast,wrap_up hi hl,dec_lt hi,dec_ix hi,cond_true,bne]
   generalize (fi 0 (parts.getD i .nilp)==0)=b1
   generalize (fi 1 (parts.getD i .nilp)==0)=b2
   cases b1 <;> cases b2 <;> rfl
  ·rw [kk84]
   simp only [dec_end,cond_false]
 have main: ∀(r i j:Nat),i+r=parts.length→r<j→(resume F3 (callN F3 (m+40)) n j 0 c153 (s84 rt nn st wy n1 n2 n3 fc hops steps parts nm (i:Nat))).out=some [.bool (scan (fun i=> !p80 (parts.getD i .nilp) (steps.getD i .nilp)) (fun i=>tailOk i parts steps) (tailOk parts.length parts steps) r i)]:=by
  intro r
  induction r with
  | zero=>
   intro i j hi hj
   cases j with
   | zero=>omega
   | succ j=>
    have:i=parts.length:=by omega
    subst this
    have hr:=rest parts.length (by omega)
    have e1:tailOk parts.length parts steps=true:=(tail_iff (by omega)).2 fun j h1 h2=>by omega
    have e2:restOk parts.length parts=true:=rest_iff.2 fun j h1 h2=>by omega
    rw [e2] at hr
    rw [l84]
    simp only [dec_end,cond_false,scan,e1]
    exact hr
  | succ r ih=>
   intro i j hi hj
   cases j with
   | zero=>omega
   | succ j=>
    have hlt:i<parts.length:=by omega
    have hr:=ih (i+1) j (by omega) (by omega)
    have ra:=rest i (by omega)
    have rb:=rest (i+1) (by omega)
    have ht:=tail_rest hlt ((allI_iff _ _ _ _).1 hsane i hlt)
    have hp:p80 (parts.getD i .nilp) (steps.getD i .nilp)=(fi 0 (parts.getD i .nilp)==2||((!fs 4 (steps.getD i .nilp)==[])&&fi 0 (parts.getD i .nilp)==3)):=rfl
    rw [l84]
    simp only [Int.toNat_natCast,wrap_up hlt hl,dec_lt hlt,dec_ix hlt,dec_ix (show i<steps.length by omega),cond_true,scan,hp]
    rw [ht]
    generalize scan _ _ _ r (i+1)=sc at hr ⊢
    generalize restOk i parts=ri at ra ⊢
    generalize restOk (i+1) parts=rj at rb ⊢
    cases (fi 0 (parts.getD i .nilp)==2)
    ·cases (fs 4 (steps.getD i .nilp)==[])
     ·cases (fi 0 (parts.getD i .nilp)==3)
      ·cases (fi 0 (parts.getD i .nilp)==0)
       ·cases (fi 0 (parts.getD i .nilp)==1)
        ·exact ra
        ·exact rb
       ·exact rb
      ·exact hr
     ·cases (fi 0 (parts.getD i .nilp)==0)
      ·cases (fi 0 (parts.getD i .nilp)==1)
       ·exact ra
       ·exact rb
      ·exact rb
    ·exact hr
 exact main parts.length 0 n (by omega) (by omega)
theorem run87(m n:Nat)(rt nn wy:Int)(n1 n2 n3 fc:Bool)(hops steps parts:List D)(nm:List UInt8)(hl:parts.length≤1000000)(hn:parts.length<n):
  (enterM F3 (callN F3 (m+40)) n c125 [.d (sagaD rt nn 5 wy n1 n2 n3 fc hops steps parts nm)] []).out=some [.int .i64 (cur 5 parts)]:=by
 rw [e87,wrap_down hl]
 refine down_loop (fun j i=>(resume F3 (callN F3 (m+40)) n j 1 c125 (s87 rt nn wy n1 n2 n3 fc hops steps parts nm i)).out) parts.length (fun i=>isOpen (parts.getD i .nilp)) (fun i=>[.int .i64 i]) [.int .i64 (-1)]
  (fun j i hi=> ?_) (fun j=> ?_) (fun i=>[.int .i64 i]) (fun _=>rfl) rfl parts.length n (by omega) (by omega)
 ·have h0:decide ((0:Int)≤(i:Int))=true:=by simp
  rw [l87]
  simp only [Int.toNat_natCast,wrap_down (show i≤1000000 by omega),h0,dec_ix hi,cond_true,isOpen]
  generalize (fi 0 _==1)=a0
  generalize (fi 0 _==2)=a1
  cases a0 <;> cases a1 <;> rfl
 ·have h0:decide ((0:Int)≤ -1)=false:=by decide
  rw [l87]
  simp only [h0,cond_false]
theorem pure82{P:Program}(hm:P.follows .mixedOrders=true)(h0:EnvOK P F3):PureOK P 151 g82:=PureOK.run hm h0 fun ds rs h=>by
 unfold g82 at h
 split at h
 ·split at h
  ·rename_i hb
   simp only [Bool.and_eq_true] at hb
   obtain ⟨hb1,hb2,hb3⟩:=hb
   have hb1:=Sh.beq_eq hb1
   have hb2:=Sh.beq_eq hb2
   have hb3:=Sh.beq_eq hb3
   subst hb1 hb2 hb3
   cases h
   exact ⟨59+1,by rw [callN_succ (fn:=c151) rfl];exact run82 19 59 _ _ _ _ _ _ _ _ _ _ _ _ (by omega)⟩
  ·cases h
 ·cases h
theorem pure86{P:Program}(hm:P.follows .mixedOrders=true)(h0:EnvOK P F3):PureOK P 155 g86:=PureOK.run hm h0 fun ds rs h=>by
 unfold g86 at h
 split at h
 ·rename_i rt nn eh n1 hops nm es n2 steps st wy ep n3 parts fc ow state
  split at h
  ·rename_i hb
   simp only [Bool.and_eq_true] at hb
   obtain ⟨hb1,hb2,hb3⟩:=hb
   have hb1:=Sh.beq_eq hb1
   have hb2:=Sh.beq_eq hb2
   have hb3:=Sh.beq_eq hb3
   subst hb1 hb2 hb3
   obtain ⟨hg,h⟩:=eval_guard h
   simp only [Bool.and_eq_true,decide_eq_true_eq] at hg
   cases h
   exact ⟨(parts.length+40)+1,by rw [callN_succ (fn:=c155) rfl];exact run86 parts.length (parts.length+40) rt nn st wy n1 n2 n3 fc hops steps parts nm ow state hg.1 hg.2 (by omega)⟩
  ·cases h
 ·cases h
theorem pure84{P:Program}(hm:P.follows .mixedOrders=true)(h0:EnvOK P F3):PureOK P 153 g84:=PureOK.run hm h0 fun ds rs h=>by
 unfold g84 at h
 split at h
 ·rename_i rt nn eh n1 hops nm es n2 steps st wy ep n3 parts fc
  split at h
  ·rename_i hb
   simp only [Bool.and_eq_true] at hb
   obtain ⟨hb1,hb2,hb3⟩:=hb
   have hb1:=Sh.beq_eq hb1
   have hb2:=Sh.beq_eq hb2
   have hb3:=Sh.beq_eq hb3
   subst hb1 hb2 hb3
   obtain ⟨hg,h⟩:=eval_guard h
   simp only [Bool.and_eq_true,decide_eq_true_eq] at hg
   cases h
   exact ⟨(parts.length+40)+1,by rw [callN_succ (fn:=c153) rfl];exact run84 parts.length (parts.length+40) rt nn st wy n1 n2 n3 fc hops steps parts nm hg.1 hg.2.1 hg.2.2 (by omega)⟩
  ·cases h
 ·cases h
theorem pure87{P:Program}(hm:P.follows .mixedOrders=true)(h0:EnvOK P F3):PureOK P 125 g87:=PureOK.run hm h0 fun ds rs h=>by
 unfold g87 at h
 split at h
 ·rename_i rt nn eh n1 hops nm es n2 steps st wy ep n3 parts fc
  split at h
  ·rename_i hb
   simp only [Bool.and_eq_true] at hb
   obtain ⟨hb1,hb2,hb3⟩:=hb
   have hb1:=Sh.beq_eq hb1
   have hb2:=Sh.beq_eq hb2
   have hb3:=Sh.beq_eq hb3
   subst hb1 hb2 hb3
   obtain ⟨hg,h⟩:=eval_guard h
   simp only [Bool.and_eq_true,decide_eq_true_eq,beq_iff_eq] at hg
   obtain ⟨hg,rfl⟩:=hg
   cases h
   exact ⟨(parts.length+40)+1,by rw [callN_succ (fn:=c125) rfl];exact run87 parts.length (parts.length+40) rt nn wy n1 n2 n3 fc hops steps parts nm hg (by omega)⟩
  ·cases h
 ·cases h
theorem okF4{P:Program}(hm:P.follows .mixedOrders=true)(h0:EnvOK P E19):EnvOK P F4:=by
 have f1:EnvOK P F1:=h0.pureAt (pure117 hm h0)
 have f2:EnvOK P F2:=f1.pureAt (pure179 hm f1)
 have f3:EnvOK P F3:=(f2.pureAt (pure136 hm f2)).pureAt (pure89 hm h0)
 exact (((f3.pureAt (pure82 hm f3)).pureAt (pure86 hm f3)).pureAt (pure84 hm f3)).pureAt (pure87 hm f3)
theorem st_set{parts:List D}{c:Nat}{a b:Int}(hc:c<parts.length)(j:Nat):stAt (parts.set c (part a b)) j=if c=j then a else stAt parts j:=by
 unfold stAt
 rw [getD_set hc]
 split <;> rfl
theorem tr_set{parts:List D}{c:Nat}{a b:Int}(hc:c<parts.length)(j:Nat):trAt (parts.set c (part a b)) j=if c=j then b else trAt parts j:=by
 unfold trAt
 rw [getD_set hc]
 split <;> rfl
theorem cur1_spec{parts:List D}(hc:0≤cur 1 parts):(cur 1 parts).toNat<parts.length∧stAt parts (cur 1 parts).toNat≠2∧ ∀i,i<(cur 1 parts).toNat→stAt parts i=2:=by
 have hcur:cur 1 parts=idxOf notDone parts:=rfl
 rw [hcur] at hc ⊢
 obtain ⟨h1,h2,h3⟩:=idxOf_pos hc
 exact ⟨h1,by simpa only [notDone,bne_iff_ne,ne_eq] using h2,fun i hi=>by have:=h3 i hi;simpa only [notDone,bne_eq_false_iff_eq] using this⟩
theorem open_iff{x:D}:isOpen x=true↔fi 0 x=1∨fi 0 x=2:=by simp only [isOpen,Bool.or_false,Bool.or_eq_true,beq_iff_eq]
theorem cur5(parts:List D):cur 5 parts=lastFrom (fun i=>isOpen (parts.getD i .nilp)) parts.length:=rfl
theorem cur5_spec{parts:List D}(hc:0≤cur 5 parts):(cur 5 parts).toNat<parts.length∧(stAt parts (cur 5 parts).toNat=1∨stAt parts (cur 5 parts).toNat=2)∧ ∀i,(cur 5 parts).toNat<i→i<parts.length→stAt parts i≠1∧stAt parts i≠2:=by
 rw [cur5] at hc ⊢
 obtain ⟨h1,h2,h3⟩:=lastFrom_pos _ _ hc
 refine ⟨h1,open_iff.1 h2,fun i h4 h5=> ?_⟩
 have:=h3 i h4 h5
 have hn: ¬(fi 0 (parts.getD i .nilp)=1∨fi 0 (parts.getD i .nilp)=2):=fun e=>by rw [open_iff.2 e] at this;cases this
 exact ⟨fun e=>hn (.inl e),fun e=>hn (.inr e)⟩
theorem run_at{parts steps:List D}(h:Run parts.length (stAt parts) (trAt parts) (loc steps))(hc:0≤cur 1 parts)(h3:stAt parts (cur 1 parts).toNat≠3):
  (stAt parts (cur 1 parts).toNat=0∨loc steps (cur 1 parts).toNat=false∧stAt parts (cur 1 parts).toNat=1)∧ ∀j,(cur 1 parts).toNat<j→j<parts.length→stAt parts j=0∧trAt parts j=0:=by
 obtain ⟨h1,h2,hb⟩:=cur1_spec hc
 generalize (cur 1 parts).toNat=c at*
 obtain ⟨k,k1,k2,k3⟩:=h
 have hck:c=k:=by
  by_cases hlt:c<k
  ·have:=k2 c hlt;omega
  ·by_cases hgt:k<c
   ·have h4:=k3 k (by omega) (by omega);have h5:=hb k hgt;omega
   ·omega
 subst hck
 refine ⟨?_,fun j hj hn=> ?_⟩
 ·rcases k3 c (by omega) h1 with ⟨-,h4⟩ | h4
  ·exact h4
  ·exact .inl h4.1
 ·rcases k3 j (by omega) hn with ⟨h4,-⟩ | h4
  ·omega
  ·exact h4
theorem run_next{parts steps:List D}{a b:Int}(h:Run parts.length (stAt parts) (trAt parts) (loc steps))(hc:0≤cur 1 parts)(h3:stAt parts (cur 1 parts).toNat≠3)
  (ha:a=2∨a=0∨loc steps (cur 1 parts).toNat=false∧a=1):Run (parts.set (cur 1 parts).toNat (part a b)).length (stAt (parts.set (cur 1 parts).toNat (part a b))) (trAt (parts.set (cur 1 parts).toNat (part a b))) (loc steps):=by
 obtain ⟨h1,h2,hb⟩:=cur1_spec hc
 obtain ⟨-,h4⟩:=run_at h hc h3
 rw [List.length_set]
 generalize (cur 1 parts).toNat=c at*
 by_cases he:a=2
 ·refine ⟨c+1,by omega,fun j hj=> ?_,fun j hj hn=> ?_⟩
  ·rw [st_set h1]
   by_cases hcj:c=j
   ·rw [if_pos hcj];exact .inl he
   ·rw [if_neg hcj];exact .inl (hb j (by omega))
  ·rw [st_set h1,tr_set h1,if_neg (by omega),if_neg (by omega)]
   exact .inr (h4 j (by omega) hn)
 ·refine ⟨c,by omega,fun j hj=> ?_,fun j hj hn=> ?_⟩
  ·rw [st_set h1,if_neg (by omega)];exact .inl (hb j hj)
  ·rw [st_set h1,tr_set h1]
   by_cases hcj:c=j
   ·subst hcj
    rw [if_pos rfl]
    exact .inl ⟨rfl,ha.resolve_left he⟩
   ·rw [if_neg hcj,if_neg hcj];exact .inr (h4 j (by omega) hn)
theorem cnt_all{q:Nat→Bool}: ∀{n:Nat},cntN q n=n↔ ∀i,i<n→q i=true
 | 0=>by simp [cntN]
 | n+1=>by
  have hle:=cntN_le q n
  have ih:= @cnt_all q n
  simp only [cntN]
  cases hq:q n
  ·constructor
   ·intro h;simp only [cond_false] at h;omega
   ·intro h;have:=h n (by omega);rw [hq] at this;cases this
  ·constructor
   ·intro h i hi
    simp only [cond_true] at h
    by_cases he:i=n
    ·rw [he];exact hq
    ·exact ih.1 (by omega) i (by omega)
   ·intro h
    have:=ih.2 fun i hi=>h i (by omega)
    simp only [cond_true];omega
theorem cnt_none{q:Nat→Bool}: ∀{n:Nat},cntN q n=0↔ ∀i,i<n→q i=false
 | 0=>by simp [cntN]
 | n+1=>by
  have ih:= @cnt_none q n
  simp only [cntN]
  cases hq:q n
  ·constructor
   ·intro h i hi
    by_cases he:i=n
    ·rw [he];exact hq
    ·exact ih.1 (by simpa using h) i (by omega)
   ·intro h
    have:=ih.2 fun i hi=>h i (by omega)
    simpa using this
  ·constructor
   ·intro h;simp at h
   ·intro h;have:=h n (by omega);rw [hq] at this;cases this
def b2n(b:Bool):Nat:=bif b then 1 else 0
theorem cnt_add{q a b:Nat→Bool}: ∀{n:Nat},(∀i,i<n→b2n (q i)=b2n (a i)+b2n (b i))→cntN q n=cntN a n+cntN b n
 | 0,_=>rfl
 | n+1,h=>by
  have:=cnt_add (n:=n) fun i hi=>h i (by omega)
  have h2:=h n (by omega)
  simp only [b2n] at h2
  simp only [cntN]
  omega
theorem cntR_small{ow:Bool}{k:Int}{parts steps:List D}:0≤cntR ow k parts steps∧cntR ow k parts steps≤parts.length:=by
 have:=cntN_le (qcnt ow k parts steps) parts.length
 unfold cntR
 omega
theorem any_sum{k:Int}{parts steps:List D}:cntR true k parts steps+cntR false k parts steps=(cntN (fun i=>fi 0 (parts.getD i .nilp)==k) parts.length:Nat):=by
 unfold cntR
 rw [cnt_add (q:=fun i=>fi 0 (parts.getD i .nilp)==k) (a:=qcnt true k parts steps) (b:=qcnt false k parts steps)]
 ·omega
 ·intro i _
  unfold qcnt
  cases (fi 0 (parts.getD i .nilp)==k) <;> cases asksAt (steps.getD i .nilp) <;> rfl
theorem all_cnt{p:D→D→Bool}{parts steps:List D}:allI p parts.length parts steps=((cntN (fun i=>p (parts.getD i .nilp) (steps.getD i .nilp)) parts.length:Nat)==(parts.length:Int)):=by
 rw [Bool.eq_iff_iff,allI_iff,beq_iff_eq]
 constructor
 ·intro h;have:=cnt_all.2 h;omega
 ·intro h;exact cnt_all.1 (by omega)
theorem none_cnt{p:D→D→Bool}{q:Nat→Bool}{parts steps:List D}(h: ∀i,i<parts.length→q i= !p (parts.getD i .nilp) (steps.getD i .nilp)):allI p parts.length parts steps=((cntN q parts.length:Nat)==(0:Int)):=by
 rw [Bool.eq_iff_iff,allI_iff,beq_iff_eq]
 constructor
 ·intro g
  have:=(cnt_none (q:=q)).2 fun i hi=>by rw [h i hi,g i hi];rfl
  omega
 ·intro g i hi
  have:=cnt_none.1 (show cntN q parts.length=0 by omega) i hi
  rw [h i hi] at this
  simpa using this
theorem w_small{a:Int}(h0:0≤a)(h:a≤1000):IntKind.wrap .i64 a=a:=wrap_i64 h0 (by omega)
section
variable {parts steps:List D}
theorem fA:decide (0<cntR true 2 parts steps)= !allI p81 parts.length parts steps:=by
 rw [none_cnt (q:=qcnt true 2 parts steps)]
 ·have:=(cntR_small (ow:=true) (k:=2) (parts:=parts) (steps:=steps)).1
  unfold cntR at*
  by_cases h:cntN (qcnt true 2 parts steps) parts.length=0
  ·rw [h];rfl
  ·rw [decide_eq_true (by omega),beqF (by omega)];rfl
 ·intro i _
  unfold qcnt p81
  cases (fi 0 (parts.getD i .nilp)==2) <;> cases asksAt (steps.getD i .nilp) <;> rfl
theorem fB:allI p84 parts.length parts steps=(allI p81 parts.length parts steps&&(cntR true 4 parts steps==0)):=by
 have h4:(cntR true 4 parts steps==0)=allI (fun x y=>asksAt y|| !(fi 0 x==4)) parts.length parts steps:=by
  rw [none_cnt (q:=qcnt true 4 parts steps)]
  ·rfl
  ·intro i _
   unfold qcnt
   cases (fi 0 (parts.getD i .nilp)==4) <;> cases asksAt (steps.getD i .nilp) <;> rfl
 rw [h4,Bool.eq_iff_iff,Bool.and_eq_true,allI_iff,allI_iff,allI_iff]
 have pt: ∀x y,p84 x y=(p81 x y&&(asksAt y|| !(fi 0 x==4))):=by
  intro x y
  unfold p84 p81
  cases asksAt y <;> cases (fi 0 x==2) <;> cases (fi 0 x==4) <;> rfl
 constructor
 ·intro h
  exact ⟨fun i hi=>by have:=h i hi;rw [pt,Bool.and_eq_true] at this;exact this.1,fun i hi=>by have:=h i hi;rw [pt,Bool.and_eq_true] at this;exact this.2⟩
 ·rintro ⟨h1,h2⟩ i hi
  rw [pt,h1 i hi,h2 i hi];rfl
theorem fC(h8:parts.length≤8):(IntKind.wrap .i64 (IntKind.wrap .i64 (cntR true 2 parts steps+cntR false 2 parts steps)+cntR false 3 parts steps)==(parts.length:Int))=allI p80 parts.length parts steps:=by
 have a:=cntR_small (ow:=true) (k:=2) (parts:=parts) (steps:=steps)
 have b:=cntR_small (ow:=false) (k:=2) (parts:=parts) (steps:=steps)
 have c:=cntR_small (ow:=false) (k:=3) (parts:=parts) (steps:=steps)
 rw [w_small (show 0≤cntR true 2 parts steps+cntR false 2 parts steps by omega) (by omega),w_small (by omega) (by omega),all_cnt,any_sum]
 rw [cnt_add (q:=fun i=>p80 (parts.getD i .nilp) (steps.getD i .nilp)) (a:=fun i=>fi 0 (parts.getD i .nilp)==2) (b:=qcnt false 3 parts steps)]
 ·unfold cntR
  rw [Int.natCast_add]
 ·intro i _
  unfold p80 qcnt
  by_cases h:fi 0 (parts.getD i .nilp)=2
  ·rw [h];cases asksAt (steps.getD i .nilp) <;> rfl
  ·rw [beqF h];cases (fi 0 (parts.getD i .nilp)==3) <;> cases asksAt (steps.getD i .nilp) <;> rfl
theorem fD(h8:parts.length≤8):(IntKind.wrap .i64 (IntKind.wrap .i64 (cntR true 4 parts steps+cntR false 4 parts steps)+cntR false 2 parts steps)==(parts.length:Int))=allI p83 parts.length parts steps:=by
 have a:=cntR_small (ow:=true) (k:=4) (parts:=parts) (steps:=steps)
 have b:=cntR_small (ow:=false) (k:=4) (parts:=parts) (steps:=steps)
 have c:=cntR_small (ow:=false) (k:=2) (parts:=parts) (steps:=steps)
 rw [w_small (show 0≤cntR true 4 parts steps+cntR false 4 parts steps by omega) (by omega),w_small (by omega) (by omega),all_cnt,any_sum]
 rw [cnt_add (q:=fun i=>p83 (parts.getD i .nilp) (steps.getD i .nilp)) (a:=fun i=>fi 0 (parts.getD i .nilp)==4) (b:=qcnt false 2 parts steps)]
 ·unfold cntR
  rw [Int.natCast_add]
 ·intro i _
  unfold p83 qcnt
  by_cases h:fi 0 (parts.getD i .nilp)=4
  ·rw [h];cases asksAt (steps.getD i .nilp) <;> rfl
  ·rw [beqF h];cases (fi 0 (parts.getD i .nilp)==2) <;> cases asksAt (steps.getD i .nilp) <;> rfl
theorem fE(h8:parts.length≤8):(IntKind.wrap .i64 (cntR true 4 parts steps+cntR false 4 parts steps)==0)=allI (p97 w4) parts.length parts steps:=by
 have a:=cntR_small (ow:=true) (k:=4) (parts:=parts) (steps:=steps)
 have b:=cntR_small (ow:=false) (k:=4) (parts:=parts) (steps:=steps)
 rw [w_small (by omega) (by omega),any_sum,none_cnt (q:=fun i=>fi 0 (parts.getD i .nilp)==4)]
 intro i _
 have:= @q974 (parts.getD i .nilp) (steps.getD i .nilp)
 by_cases h:fi 0 (parts.getD i .nilp)=4
 ·have h2:p97 w4 (parts.getD i .nilp) (steps.getD i .nilp)=false:=by rw [Bool.eq_false_iff];intro g;exact this.1 g h
  rw [h2,h];rfl
 ·rw [this.2 h,beqF h];rfl
theorem fF(h8:parts.length≤8)(hs:allI p47 parts.length parts steps=true):(IntKind.wrap .i64 (IntKind.wrap .i64 (cntR true 0 parts steps+cntR false 0 parts steps)+IntKind.wrap .i64 (cntR true 3 parts steps+cntR false 3 parts steps))==(parts.length:Int))=allI (p97 w124) parts.length parts steps:=by
 have a:=cntR_small (ow:=true) (k:=0) (parts:=parts) (steps:=steps)
 have b:=cntR_small (ow:=false) (k:=0) (parts:=parts) (steps:=steps)
 have c:=cntR_small (ow:=true) (k:=3) (parts:=parts) (steps:=steps)
 have d:=cntR_small (ow:=false) (k:=3) (parts:=parts) (steps:=steps)
 rw [w_small (show 0≤cntR true 0 parts steps+cntR false 0 parts steps by omega) (by omega),w_small (show 0≤cntR true 3 parts steps+cntR false 3 parts steps by omega) (by omega),w_small (by omega) (by omega),all_cnt,any_sum,any_sum]
 rw [cnt_add (q:=fun i=>p97 w124 (parts.getD i .nilp) (steps.getD i .nilp)) (a:=fun i=>fi 0 (parts.getD i .nilp)==0) (b:=fun i=>fi 0 (parts.getD i .nilp)==3)]
 ·rw [Int.natCast_add]
 ·intro i hi
  have hq:=q47.1 ((allI_iff _ _ _ _).1 hs i hi)
  have:= @q97124 (parts.getD i .nilp) (steps.getD i .nilp)
  have hv:fi 0 (parts.getD i .nilp)=0∨fi 0 (parts.getD i .nilp)=1∨fi 0 (parts.getD i .nilp)=2∨fi 0 (parts.getD i .nilp)=3∨fi 0 (parts.getD i .nilp)=4:=by omega
  cases hp:p97 w124 (parts.getD i .nilp) (steps.getD i .nilp)
  ·have h2: ¬(fi 0 (parts.getD i .nilp)≠1∧fi 0 (parts.getD i .nilp)≠2∧fi 0 (parts.getD i .nilp)≠4):=fun g=>by rw [this.2 g] at hp;cases hp
   rcases hv with h | h | h | h | h
   ·exact (h2 ⟨by omega,by omega,by omega⟩).elim
   ·rw [h];rfl
   ·rw [h];rfl
   ·exact (h2 ⟨by omega,by omega,by omega⟩).elim
   ·rw [h];rfl
  ·have h2:=this.1 hp
   rcases hv with h | h | h | h | h
   ·rw [h];rfl
   ·omega
   ·omega
   ·rw [h];rfl
   ·omega
end
theorem run36(m n:Nat)(rt nn st wy:Int)(n1 n2 n3 fc:Bool)(hops steps parts:List D)(nm:List UInt8):
  (enterM F4 (callN F4 (m+40)) n c83 [.d (sagaD rt nn st wy n1 n2 n3 fc hops steps parts nm)] []).out=some [.int .i64 (bif mayOk rt nn st wy fc hops steps parts nm then 0 else 230)]:=by
 rw [e36]
 have hid:((bif idOk rt nn hops then (0:Int) else 30) != 0)= !idOk rt nn hops:=by cases idOk rt nn hops <;> rfl
 have hwy:(wy != 0)= !(wy==0):=rfl
 rw [hid,hwy]
 by_cases h7:st=7
 ·subst h7
  unfold mayOk
  have e1:decide (0<(steps.length:Int)+(parts.length:Int))= !((steps.length:Int)==0&&(parts.length:Int)==0):=by
   by_cases h1:(steps.length:Int)=0
   ·by_cases h2:(parts.length:Int)=0
    ·rw [h1,h2];rfl
    ·rw [h1,beqF h2,decide_eq_true (by omega)];rfl
   ·rw [beqF h1,decide_eq_true (by omega)];rfl
  have e2:((hops.length:Int)==0)= !decide (0<(hops.length:Int)):=by
   by_cases h1:(hops.length:Int)=0
   ·rw [h1];rfl
   ·rw [beqF h1,decide_eq_true (by omega)];rfl
  rw [e1,e2]
  have e77:((7:Int)==7)=true:=rfl
  simp only [e77,cond_true]
  generalize (nm==[])=b1
  generalize ((steps.length:Int)==0)=b2
  generalize ((parts.length:Int)==0)=b3
  generalize decide (1≤wy)=b4
  generalize decide (wy≤9)=b5
  generalize decide (0<(hops.length:Int))=b6
  generalize idOk rt nn hops=b7
  cases b1 <;> cases b2 <;> cases b3 <;> cases b4 <;> cases b5 <;> cases b6 <;> cases b7 <;> cases fc <;> rfl
 ·have b7:=beqF h7
  rw [b7]
  simp only [cond_false]
  cases hp:partsOk nm steps parts
  ·have hm:mayOk rt nn st wy fc hops steps parts nm=false:=by
    unfold mayOk
    rw [b7]
    unfold partsOk at hp
    rw [bne]
    cases idOk rt nn hops
    ·rfl
    ·cases hd:defOk nm steps
     ·rfl
     ·rw [hd] at hp
      cases hl:((parts.length:Int)==(steps.length:Int))
      ·rfl
      ·rw [hl] at hp
       cases hs:allI p47 parts.length parts steps
       ·rfl
       ·rw [hs] at hp;cases hp
   rw [hm]
   rfl
  ·have hp':=hp
   unfold partsOk at hp'
   simp only [Bool.and_eq_true,beq_iff_eq] at hp'
   obtain ⟨hd,hl,hs⟩:=hp'
   have h8:parts.length≤8:=by
    unfold defOk at hd
    simp only [Bool.and_eq_true,Bool.not_eq_true',decide_eq_false_iff_not] at hd
    omega
   have hm:mayOk rt nn st wy fc hops steps parts nm=(idOk rt nn hops&&fitsOk st wy fc hops parts steps):=by
    unfold mayOk
    rw [b7,hd,hs,bne,beq_iff_eq.2 hl]
    cases idOk rt nn hops <;> cases fitsOk st wy fc hops parts steps <;> rfl
   have gg:(decide (parts.length≤1000000)&&decide (parts.length≤steps.length))=true:=by
    rw [decide_eq_true (show parts.length≤1000000 by omega),decide_eq_true (show parts.length≤steps.length by omega)];rfl
   have gs:(decide (parts.length≤1000000)&&(decide (parts.length≤steps.length)&&allI p47 parts.length parts steps))=true:=by
    rw [decide_eq_true (show parts.length≤1000000 by omega),decide_eq_true (show parts.length≤steps.length by omega),hs];rfl
   rw [hm,gg,gs,fA,fC h8,fD h8,fE h8,fF h8 hs]
   simp only [cond_true]
   generalize idOk rt nn hops=a
   by_cases h1:st=1
   ·subst h1
    show _=some [D.int .i64 (bif a&&(bif !fc then bif wy==0 then runOk parts steps else false else false) then 0 else 230)]
    generalize (wy==0)=w0
    generalize decide (1≤wy)=w1
    generalize decide (wy≤9)=w9
    generalize runOk parts steps=ro
    generalize allI p81 parts.length parts steps=x81
    cases a <;> cases fc <;> cases w0 <;> cases w1 <;> cases w9 <;> cases ro <;> cases x81 <;> rfl
   by_cases h2:st=2
   ·subst h2
    show _=some [D.int .i64 (bif a&&(bif !fc then bif wy==0 then bif decide (0<(hops.length:Int)) then allI p80 parts.length parts steps else false else false else false) then 0 else 230)]
    generalize (wy==0)=w0
    generalize decide (1≤wy)=w1
    generalize decide (wy≤9)=w9
    generalize decide (0<(hops.length:Int))=hh
    generalize allI p80 parts.length parts steps=x80
    generalize allI p81 parts.length parts steps=x81
    cases a <;> cases fc <;> cases w0 <;> cases w1 <;> cases w9 <;> cases hh <;> cases x80 <;> cases x81 <;> rfl
   by_cases h3:st=3
   ·subst h3
    show _=some [D.int .i64 (bif a&&(bif fc then bif wy==0 then allI p81 parts.length parts steps else bif decide (1≤wy) then bif decide (wy≤9) then allI p81 parts.length parts steps else false else false
     else bif wy==0 then allI p83 parts.length parts steps else false) then 0 else 230)]
    generalize (wy==0)=w0
    generalize decide (1≤wy)=w1
    generalize decide (wy≤9)=w9
    generalize allI p83 parts.length parts steps=x83
    generalize allI p81 parts.length parts steps=x81
    cases a <;> cases fc <;> cases w0 <;> cases w1 <;> cases w9 <;> cases x83 <;> cases x81 <;> rfl
   by_cases h4:st=4
   ·subst h4
    show _=some [D.int .i64 (bif a&&(bif fc then false else bif decide (1≤wy) then bif !decide (wy≤9) then false else bif !allI (p97 w4) parts.length parts steps then false else true else false) then 0 else 230)]
    generalize (wy==0)=w0
    generalize decide (1≤wy)=w1
    generalize decide (wy≤9)=w9
    generalize allI (p97 w4) parts.length parts steps=x4
    generalize allI p81 parts.length parts steps=x81
    cases a <;> cases fc <;> cases w0 <;> cases w1 <;> cases w9 <;> cases x4 <;> cases x81 <;> rfl
   by_cases h5:st=5
   ·subst h5
    have hx:(decide (parts.length≤1000000)&&(5:Int)==5)=true:=by rw [decide_eq_true (show parts.length≤1000000 by omega)];rfl
    rw [hx]
    show _=some [D.int .i64 (bif a&&(bif fc then false else bif decide (1≤wy) then bif !decide (wy≤9) then false else bif !allI (p97 w4) parts.length parts steps then false else
     bif decide (0≤cur 5 parts) then bif !!fs 4 (steps.getD (cur 5 parts).toNat .nilp)==[] then fi 1 (parts.getD (cur 5 parts).toNat .nilp)==5 else false else false else false) then 0 else 230)]
    by_cases hc:0≤cur 5 parts
    ·have hlt:=(cur5_spec hc).1
     have d1:decide ((0:Int)≤cur 5 parts∧cur 5 parts<(steps.length:Int))=true:=decide_eq_true (by omega)
     have d2:decide ((0:Int)≤cur 5 parts∧cur 5 parts<(parts.length:Int))=true:=decide_eq_true (by omega)
     rw [decide_eq_true hc,d1,d2]
     generalize (wy==0)=w0
     generalize decide (1≤wy)=w1
     generalize decide (wy≤9)=w9
     generalize allI (p97 w4) parts.length parts steps=x4
     generalize allI p81 parts.length parts steps=x81
     generalize (fs 4 (steps.getD (cur 5 parts).toNat .nilp)==[])=y1
     generalize (fi 1 (parts.getD (cur 5 parts).toNat .nilp)==5)=y2
     cases a <;> cases fc <;> cases w0 <;> cases w1 <;> cases w9 <;> cases x4 <;> cases x81 <;> cases y1 <;> cases y2 <;> rfl
    ·rw [decide_eq_false hc]
     generalize (wy==0)=w0
     generalize decide (1≤wy)=w1
     generalize decide (wy≤9)=w9
     generalize allI (p97 w4) parts.length parts steps=x4
     generalize allI p81 parts.length parts steps=x81
     cases a <;> cases fc <;> cases w0 <;> cases w1 <;> cases w9 <;> cases x4 <;> cases x81 <;> rfl
   by_cases h6:st=6
   ·subst h6
    show _=some [D.int .i64 (bif a&&(bif fc then bif wy==0 then allI p84 parts.length parts steps else bif decide (1≤wy) then bif decide (wy≤9) then allI p84 parts.length parts steps else false else false
     else bif decide (1≤wy) then bif decide (wy≤9) then !!allI (p97 w124) parts.length parts steps else false else false) then 0 else 230)]
    rw [fB]
    generalize (wy==0)=w0
    generalize decide (1≤wy)=w1
    generalize decide (wy≤9)=w9
    generalize allI (p97 w124) parts.length parts steps=x4
    generalize allI p81 parts.length parts steps=x81
    generalize (cntR true 4 parts steps==0)=c4
    cases a <;> cases fc <;> cases w0 <;> cases w1 <;> cases w9 <;> cases x4 <;> cases x81 <;> cases c4 <;> rfl
   ·have hf:fitsOk st wy fc hops parts steps=false:=by
     unfold fitsOk
     rw [beqF h1,beqF h2,beqF h3,beqF h4,beqF h5,beqF h6]
     rfl
    rw [hf,beqF h1,beqF h2,beqF h3,beqF h4,beqF h5,beqF h6]
    generalize (wy==0)=w0
    generalize decide (1≤wy)=w1
    generalize decide (wy≤9)=w9
    generalize allI p81 parts.length parts steps=x81
    cases a <;> cases fc <;> cases w0 <;> cases w1 <;> cases w9 <;> cases x81 <;> rfl
def g36:List D→Tree (List D)
 | [.agg [.int .i64 rt,.int .i64 nn,.sl eh _ hops,.str nm,.sl es _ steps,.int .i64 st,.int .i64 wy,.sl ep _ parts,.bool fc]]=>match (Sh.beq eh hopSh&&(Sh.beq es stepSh&&Sh.beq ep partSh)) with
  | true=> .ret [.int .i64 (bif mayOk rt nn st wy fc hops steps parts nm then 0 else 230)]
  | false=> .stuck
 | _=> .stuck
theorem pure36{P:Program}(hm:P.follows .mixedOrders=true)(h0:EnvOK P F4):PureOK P 83 g36:=PureOK.run hm h0 fun ds rs h=>by
 unfold g36 at h
 split at h
 ·split at h
  ·rename_i hb
   simp only [Bool.and_eq_true] at hb
   obtain ⟨hb1,hb2,hb3⟩:=hb
   have hb1:=Sh.beq_eq hb1
   have hb2:=Sh.beq_eq hb2
   have hb3:=Sh.beq_eq hb3
   subst hb1 hb2 hb3
   cases h
   exact ⟨59+1,by rw [callN_succ (fn:=c83) rfl];exact run36 19 59 _ _ _ _ _ _ _ _ _ _ _ _⟩
  ·cases h
 ·cases h
def F5:Env:=F4.pureAt 83 true g36
theorem okF5{P:Program}(hm:P.follows .mixedOrders=true)(h0:EnvOK P E19):EnvOK P F5:=(okF4 hm h0).pureAt (pure36 hm (okF4 hm h0))
def K0:Env:=(F5.pureAt 180 true g71).pureAt 226 true (g73 1000000)
def hopTxt(h:D):List UInt8:=[47]++digN (fi 0 h).toNat++[64]++digN (fi 1 h).toNat
def showN(r q:Int)(es:List D):List UInt8:=digN r.toNat++[46]++digN q.toNat++es.flatMap hopTxt
theorem e70(m n:Nat)(r q:Int)(nil:Bool)(es:List D):Tree.out (enterM K0 (callN K0 (m+40)) n c179 [.d (.agg [.int .i64 r,.int .i64 q,.sl hopSh nil es])] [])=bif (bif idOk r q es then (0:Int) else (30:Int)) != 0 then some [D.str [],D.int .i64 (bif idOk r q es then (0:Int) else (30:Int))] else bif decide (0≤r)&&decide (r≤999999) then bif decide (List.length (digN (r.toNat))+1≤4611686018427387904) then bif decide (0≤q)&&decide (q≤999999) then bif decide (List.length (List.append (digN (r.toNat)) [46])+List.length (digN (q.toNat))≤4611686018427387904) then Tree.out (resume K0 (callN K0 (m+40)) n n 0 c179 { fr:=frame 41 [(5,V.d (D.str (List.append (List.append (digN (r.toNat)) [46]) (digN (q.toNat))))),(22,V.d (D.sl hopSh nil es)),(23,V.d (D.int .i64 (es.length:Int))),(24,V.d (D.int .i64 0))],ob:=[(128,Obj.box [V.d (D.int .i64 r),V.d (D.int .i64 q),V.d (D.sl hopSh nil es)])] }) else none else none else none else none:=by kernel_rfl
def s70(r q:Int)(nil:Bool)(es:List D)(s:List UInt8)(i:Int):St:= { fr:=frame 41 [(5,V.d (D.str s)),(22,V.d (D.sl hopSh nil es)),(23,V.d (D.int .i64 (↑(List.length es):Int))),(24,V.d (D.int .i64 i))],ob:=[(128,Obj.box [V.d (D.int .i64 r),V.d (D.int .i64 q),V.d (D.sl hopSh nil es)])] }
theorem l70(m n j:Nat)(r q:Int)(nil:Bool)(es:List D)(s:List UInt8)(i:Int):Tree.out (resume K0 (callN K0 (m+40)) n (j+1) 0 c179 (s70 r q nil es s i))=bif decide (i<(es.length:Int)) then bif decide (0≤i∧i<(es.length:Int)) then bif decide (0≤fi 0 (es.getD i.toNat .nilp))&&decide (fi 0 (es.getD i.toNat .nilp)≤999999) then bif decide (1+List.length (digN (Int.toNat (fi 0 (es.getD i.toNat .nilp))))≤4611686018427387904) then bif decide (List.length (digN (Int.toNat (fi 0 (es.getD i.toNat .nilp))))+1+1≤4611686018427387904) then bif decide (0≤fi 1 (es.getD i.toNat .nilp))&&decide (fi 1 (es.getD i.toNat .nilp)≤999999) then bif decide (List.length (List.append (digN (Int.toNat (fi 0 (es.getD i.toNat .nilp)))) [64])+1+List.length (digN (Int.toNat (fi 1 (es.getD i.toNat .nilp))))≤4611686018427387904) then bif decide (s.length+(List.length (List.append (List.append (digN (Int.toNat (fi 0 (es.getD i.toNat .nilp)))) [64]) (digN (Int.toNat (fi 1 (es.getD i.toNat .nilp)))))+1)≤4611686018427387904) then Tree.out (resume K0 (callN K0 (m+40)) n j 0 c179 (s70 r q nil es (List.append s (47 :: List.append (List.append (digN (Int.toNat (fi 0 (es.getD i.toNat .nilp)))) [64]) (digN (Int.toNat (fi 1 (es.getD i.toNat .nilp)))))) (IntKind.wrap .i64 (i+1)))) else none else none else none else none else none else none else none else some [D.str s,D.int .i64 0]:=by kernel_rfl
theorem e72(m n:Nat)(r q:Int)(nil:Bool)(es:List D):Tree.out (enterM K0 (callN K0 (m+40)) n c225 [.d (.agg [.int .i64 r,.int .i64 q,.sl hopSh nil es])] [])=bif (bif idOk r q es then (0:Int) else (30:Int)) != 0 then some [D.str [],D.int .i64 30] else bif decide (0≤r)&&decide (r<1000000) then bif decide (List.length (digN (r.toNat))+1≤4611686018427387904) then bif decide (0≤q)&&decide (q<1000000) then bif decide (List.length (List.append (digN (r.toNat)) [46])+List.length (digN (q.toNat))≤4611686018427387904) then Tree.out (resume K0 (callN K0 (m+40)) n n 0 c225 { fr:=frame 44 [(1,V.ptr 128 0),(4,V.d (D.str (List.append (List.append (digN (r.toNat)) [46]) (digN (q.toNat))))),(5,V.d (D.int .i64 0))],ob:=[(128,Obj.box [V.d (D.int .i64 r),V.d (D.int .i64 q),V.d (D.sl hopSh nil es)])] }) else none else none else none else none:=by kernel_rfl
def s72(r q:Int)(nil:Bool)(es:List D)(s:List UInt8)(i:Int):St:= { fr:=frame 44 [(1,V.ptr 128 0),(4,V.d (D.str s)),(5,V.d (D.int .i64 i))],ob:=[(128,Obj.box [V.d (D.int .i64 r),V.d (D.int .i64 q),V.d (D.sl hopSh nil es)])] }
theorem l72(m n j:Nat)(r q:Int)(nil:Bool)(es:List D)(s:List UInt8)(i:Int):Tree.out (resume K0 (callN K0 (m+40)) n (j+1) 0 c225 (s72 r q nil es s i))=bif decide (i<(es.length:Int)) then bif decide (s.length+1≤4611686018427387904) then bif decide (0≤i∧i<(es.length:Int)) then bif decide (0≤fi 0 (es.getD i.toNat .nilp))&&decide (fi 0 (es.getD i.toNat .nilp)<1000000) then bif decide (List.length (List.append s [47])+List.length (digN (Int.toNat (fi 0 (es.getD i.toNat .nilp))))≤4611686018427387904) then bif decide (List.length (List.append (List.append s [47]) (digN (Int.toNat (fi 0 (es.getD i.toNat .nilp)))))+1≤4611686018427387904) then bif decide (0≤i∧i<(es.length:Int)) then bif decide (0≤fi 1 (es.getD i.toNat .nilp))&&decide (fi 1 (es.getD i.toNat .nilp)<1000000) then bif decide (List.length (List.append (List.append (List.append s [47]) (digN (Int.toNat (fi 0 (es.getD i.toNat .nilp))))) [64])+List.length (digN (Int.toNat (fi 1 (es.getD i.toNat .nilp))))≤4611686018427387904) then Tree.out (resume K0 (callN K0 (m+40)) n j 0 c225 (s72 r q nil es (List.append (List.append (List.append (List.append s [47]) (digN (Int.toNat (fi 0 (es.getD i.toNat .nilp))))) [64]) (digN (Int.toNat (fi 1 (es.getD i.toNat .nilp))))) (IntKind.wrap .i64 (i+1)))) else none else none else none else none else none else none else none else none else some [D.str s,D.int .i64 0]:=by kernel_rfl
theorem e87g(m n:Nat)(rt nn st wy:Int)(n1 n2 n3 fc:Bool)(hops steps parts:List D)(nm:List UInt8):Tree.out (enterM F3 (callN F3 (m+40)) n c125 [.d (sagaD rt nn st wy n1 n2 n3 fc hops steps parts nm)] [])=bif st==1 then Tree.out (resume F3 (callN F3 (m+40)) n n 0 c125 { fr:=frame 56 [(1,V.ptr 128 0),(3,V.d (D.int .i64 0))],ob:=[(128,Obj.box [V.d (D.int .i64 rt),V.d (D.int .i64 nn),V.d (D.sl hopSh n1 hops),V.d (D.str nm),V.d (D.sl stepSh n2 steps),V.d (D.int .i64 st),V.d (D.int .i64 wy),V.d (D.sl hopSh n3 parts),V.d (D.bool fc)])] }) else bif st==4 then Tree.out (resume F3 (callN F3 (m+40)) n n 1 c125 { fr:=frame 56 [(1,V.ptr 128 0),(4,V.d (D.int .i64 (IntKind.wrap .i64 ((parts.length:Int) - 1))))],ob:=[(128,Obj.box [V.d (D.int .i64 rt),V.d (D.int .i64 nn),V.d (D.sl hopSh n1 hops),V.d (D.str nm),V.d (D.sl stepSh n2 steps),V.d (D.int .i64 st),V.d (D.int .i64 wy),V.d (D.sl hopSh n3 parts),V.d (D.bool fc)])] }) else bif st==5 then Tree.out (resume F3 (callN F3 (m+40)) n n 1 c125 { fr:=frame 56 [(1,V.ptr 128 0),(4,V.d (D.int .i64 (IntKind.wrap .i64 ((parts.length:Int) - 1))))],ob:=[(128,Obj.box [V.d (D.int .i64 rt),V.d (D.int .i64 nn),V.d (D.sl hopSh n1 hops),V.d (D.str nm),V.d (D.sl stepSh n2 steps),V.d (D.int .i64 st),V.d (D.int .i64 wy),V.d (D.sl hopSh n3 parts),V.d (D.bool fc)])] }) else some [D.int .i64 (-1)]:=by kernel_rfl
def s87g(rt nn st wy:Int)(n1 n2 n3 fc:Bool)(hops steps parts:List D)(nm:List UInt8)(i:Int):St:= { fr:=frame 56 [(1,V.ptr 128 0),(3,V.d (D.int .i64 i))],ob:=[(128,.box [V.d (D.int .i64 rt),V.d (D.int .i64 nn),V.d (D.sl hopSh n1 hops),V.d (D.str nm),V.d (D.sl stepSh n2 steps),V.d (D.int .i64 st),V.d (D.int .i64 wy),V.d (D.sl partSh n3 parts),V.d (D.bool fc)])] }
theorem l87g(m n j:Nat)(rt nn st wy:Int)(n1 n2 n3 fc:Bool)(hops steps parts:List D)(nm:List UInt8)(i:Int):Tree.out (resume F3 (callN F3 (m+40)) n (j+1) 0 c125 (s87g rt nn st wy n1 n2 n3 fc hops steps parts nm i))=bif decide (i<(parts.length:Int)) then bif decide (0≤i∧i<(parts.length:Int)) then bif fi 0 (parts.getD i.toNat .nilp) != 2 then some [D.int .i64 i] else Tree.out (resume F3 (callN F3 (m+40)) n j 0 c125 (s87g rt nn st wy n1 n2 n3 fc hops steps parts nm (IntKind.wrap .i64 (i+1)))) else none else bif st==4 then Tree.out (resume F3 (callN F3 (m+40)) n n 1 c125 { fr:=frame 56 [(1,V.ptr 128 0),(4,V.d (D.int .i64 (IntKind.wrap .i64 ((parts.length:Int) - 1))))],ob:=[(128,Obj.box [V.d (D.int .i64 rt),V.d (D.int .i64 nn),V.d (D.sl hopSh n1 hops),V.d (D.str nm),V.d (D.sl stepSh n2 steps),V.d (D.int .i64 st),V.d (D.int .i64 wy),V.d (D.sl hopSh n3 parts),V.d (D.bool fc)])] }) else bif st==5 then Tree.out (resume F3 (callN F3 (m+40)) n n 1 c125 { fr:=frame 56 [(1,V.ptr 128 0),(4,V.d (D.int .i64 (IntKind.wrap .i64 ((parts.length:Int) - 1))))],ob:=[(128,Obj.box [V.d (D.int .i64 rt),V.d (D.int .i64 nn),V.d (D.sl hopSh n1 hops),V.d (D.str nm),V.d (D.sl stepSh n2 steps),V.d (D.int .i64 st),V.d (D.int .i64 wy),V.d (D.sl hopSh n3 parts),V.d (D.bool fc)])] }) else some [D.int .i64 (-1)]:=by kernel_rfl
def s87h(rt nn st wy:Int)(n1 n2 n3 fc:Bool)(hops steps parts:List D)(nm:List UInt8)(i:Int):St:= { fr:=frame 56 [(1,V.ptr 128 0),(4,V.d (D.int .i64 i))],ob:=[(128,.box [V.d (D.int .i64 rt),V.d (D.int .i64 nn),V.d (D.sl hopSh n1 hops),V.d (D.str nm),V.d (D.sl stepSh n2 steps),V.d (D.int .i64 st),V.d (D.int .i64 wy),V.d (D.sl partSh n3 parts),V.d (D.bool fc)])] }
theorem l87h(m n j:Nat)(rt nn st wy:Int)(n1 n2 n3 fc:Bool)(hops steps parts:List D)(nm:List UInt8)(i:Int):Tree.out (resume F3 (callN F3 (m+40)) n (j+1) 1 c125 (s87h rt nn st wy n1 n2 n3 fc hops steps parts nm i))=bif decide (0≤i) then bif decide (0≤i∧i<(parts.length:Int)) then bif fi 0 (parts.getD i.toNat .nilp)==1 then some [D.int .i64 i] else bif decide (0≤i∧i<(parts.length:Int)) then bif fi 0 (parts.getD i.toNat .nilp)==2 then some [D.int .i64 i] else Tree.out (resume F3 (callN F3 (m+40)) n j 1 c125 (s87h rt nn st wy n1 n2 n3 fc hops steps parts nm (IntKind.wrap .i64 (i - 1)))) else none else none else some [D.int .i64 (-1)]:=by kernel_rfl
set_option maxRecDepth 20000
theorem ct{α:Type}{c:Bool}{a b:α}(h:c=true):cond c a b=a:=by rw [h];rfl
theorem cf{α:Type}{c:Bool}{a b:α}(h:c=false):cond c a b=b:=by rw [h];rfl
theorem digF_len: ∀k n,(digF k n).length≤k+1:=by
 intro k
 induction k with
 | zero=>intro n;simp [digF]
 | succ k ih=>
  intro n
  simp only [digF]
  split
  ·simp
  ·rw [List.length_append];have:=ih (n / 10);simp;omega
theorem digN_len(n:Nat):(digN n).length≤7:=digF_len 6 n
theorem drop_at{es:List D}{i:Nat}(h:i<es.length):es.drop i=es.getD i .nilp :: es.drop (i+1):=by
 rw [List.drop_eq_getElem_cons h,List.getD_eq_getElem?_getD,List.getElem?_eq_getElem h];rfl
theorem loop70(m n:Nat)(r q:Int)(nil:Bool)(es:List D)(h:idOk r q es=true): ∀k i j s,i+k=es.length→k<j→s.length≤1000+100*i→
  (resume K0 (callN K0 (m+40)) n j 0 c179 (s70 r q nil es s (i:Nat))).out=some [.str (s++(es.drop i).flatMap hopTxt),.int .i64 0]:=by
 obtain ⟨-,h4,-,hh,-⟩:=idOk_iff.1 h
 intro k
 induction k with
 | zero=>
  intro i j s hi hj hs
  cases j with
  | zero=>omega
  | succ j=>
   have:i=es.length:=by omega
   subst this
   rw [l70,List.drop_length,List.flatMap_nil,List.append_nil]
   exact cf (dec_end _)
 | succ k ih=>
  intro i j s hi hj hs
  cases j with
  | zero=>omega
  | succ j=>
   have hlt:i<es.length:=by omega
   have hx:=(hh i hlt).1
   have hy:=(hh i hlt).2.1
   rw [l70,drop_at hlt,List.flatMap_cons]
   simp only [Int.toNat_natCast,wrap_up hlt (show es.length≤1000000 by omega),List.append_eq]
   have d0:=digN_len (fi 0 (es.getD i .nilp)).toNat
   have d1:=digN_len (fi 1 (es.getD i .nilp)).toNat
   refine (ct (dec_lt hlt)).trans ?_
   refine (ct (dec_ix hlt)).trans ?_
   iterate 6 refine (ct (by simp only [Bool.and_eq_true,decide_eq_true_eq,List.length_append,List.length_cons,List.length_nil];omega)).trans ?_
   refine (ih (i+1) j _ (by omega) (by omega) ?_).trans ?_
   ·simp only [List.length_append,List.length_cons,List.length_nil];omega
   ·simp only [hopTxt,List.append_assoc,List.cons_append,List.nil_append]
theorem run70(m n:Nat)(r q:Int)(nil:Bool)(es:List D)(hn:18≤n):(enterM K0 (callN K0 (m+40)) n c179 [.d (.agg [.int .i64 r,.int .i64 q,.sl hopSh nil es])] []).out=some [.str (bif idOk r q es then showN r q es else []),.int .i64 (bif idOk r q es then 0 else 30)]:=by
 rw [e70]
 cases h:idOk r q es
 ·rfl
 ·obtain ⟨hq,h4,hr,hh,-⟩:=idOk_iff.1 h
  have d0:=digN_len r.toNat
  have d1:=digN_len q.toNat
  simp only [cond_true,List.append_eq]
  refine (cf rfl).trans ?_
  iterate 4 refine (ct (by simp only [Bool.and_eq_true,decide_eq_true_eq,List.length_append,List.length_cons,List.length_nil];omega)).trans ?_
  refine (loop70 m n r q nil es h es.length 0 n _ (by omega) (by omega) (by simp only [List.length_append,List.length_cons,List.length_nil];omega)).trans ?_
  simp only [showN,List.drop_zero,List.append_assoc]
theorem loop72(m n:Nat)(r q:Int)(nil:Bool)(es:List D)(h:idOk r q es=true): ∀k i j s,i+k=es.length→k<j→s.length≤1000+100*i→
  (resume K0 (callN K0 (m+40)) n j 0 c225 (s72 r q nil es s (i:Nat))).out=some [.str (s++(es.drop i).flatMap hopTxt),.int .i64 0]:=by
 obtain ⟨-,h4,-,hh,-⟩:=idOk_iff.1 h
 intro k
 induction k with
 | zero=>
  intro i j s hi hj hs
  cases j with
  | zero=>omega
  | succ j=>
   have:i=es.length:=by omega
   subst this
   rw [l72,List.drop_length,List.flatMap_nil,List.append_nil]
   exact cf (dec_end _)
 | succ k ih=>
  intro i j s hi hj hs
  cases j with
  | zero=>omega
  | succ j=>
   have hlt:i<es.length:=by omega
   have hx:=(hh i hlt).1
   have hy:=(hh i hlt).2.1
   rw [l72,drop_at hlt,List.flatMap_cons]
   simp only [Int.toNat_natCast,wrap_up hlt (show es.length≤1000000 by omega),List.append_eq]
   have d0:=digN_len (fi 0 (es.getD i .nilp)).toNat
   have d1:=digN_len (fi 1 (es.getD i .nilp)).toNat
   refine (ct (dec_lt hlt)).trans ?_
   iterate 8 refine (ct (by first | exact dec_ix hlt | (simp only [Bool.and_eq_true,decide_eq_true_eq,List.length_append,List.length_cons,List.length_nil];omega))).trans ?_
   refine (ih (i+1) j _ (by omega) (by omega) ?_).trans ?_
   ·simp only [List.length_append,List.length_cons,List.length_nil];omega
   ·simp only [hopTxt,List.append_assoc,List.cons_append,List.nil_append]
theorem run72(m n:Nat)(r q:Int)(nil:Bool)(es:List D)(hn:18≤n):(enterM K0 (callN K0 (m+40)) n c225 [.d (.agg [.int .i64 r,.int .i64 q,.sl hopSh nil es])] []).out=some [.str (bif idOk r q es then showN r q es else []),.int .i64 (bif idOk r q es then 0 else 30)]:=by
 rw [e72]
 cases h:idOk r q es
 ·rfl
 ·obtain ⟨hq,h4,hr,hh,-⟩:=idOk_iff.1 h
  have d0:=digN_len r.toNat
  have d1:=digN_len q.toNat
  simp only [cond_true,List.append_eq]
  refine (cf rfl).trans ?_
  iterate 4 refine (ct (by simp only [Bool.and_eq_true,decide_eq_true_eq,List.length_append,List.length_cons,List.length_nil];omega)).trans ?_
  refine (loop72 m n r q nil es h es.length 0 n _ (by omega) (by omega) (by simp only [List.length_append,List.length_cons,List.length_nil];omega)).trans ?_
  simp only [showN,List.drop_zero,List.append_assoc]
theorem run87g(m n:Nat)(rt nn st wy:Int)(n1 n2 n3 fc:Bool)(hops steps parts:List D)(nm:List UInt8)(hl:parts.length≤1000000)(hn:parts.length<n):
  (enterM F3 (callN F3 (m+40)) n c125 [.d (sagaD rt nn st wy n1 n2 n3 fc hops steps parts nm)] []).out=some [.int .i64 (cur st parts)]:=by
 have H: ∀st,(resume F3 (callN F3 (m+40)) n n 1 c125 (s87h rt nn st wy n1 n2 n3 fc hops steps parts nm ((parts.length:Int) - 1))).out=some [.int .i64 (lastFrom (fun i=>isOpen (parts.getD i .nilp)) parts.length)]:=by
  intro st
  refine down_loop (fun j i=>(resume F3 (callN F3 (m+40)) n j 1 c125 (s87h rt nn st wy n1 n2 n3 fc hops steps parts nm i)).out) parts.length (fun i=>isOpen (parts.getD i .nilp)) (fun i=>[.int .i64 i]) [.int .i64 (-1)]
   (fun j i hi=> ?_) (fun j=> ?_) (fun i=>[.int .i64 i]) (fun _=>rfl) rfl parts.length n (by omega) (by omega)
  ·have h0:decide ((0:Int)≤(i:Int))=true:=by simp
   rw [l87h]
   simp only [Int.toNat_natCast,wrap_down (show i≤1000000 by omega),h0,dec_ix hi,cond_true,isOpen]
   generalize (fi 0 _==1)=a0
   generalize (fi 0 _==2)=a1
   cases a0 <;> cases a1 <;> rfl
  ·have h0:decide ((0:Int)≤ -1)=false:=by decide
   rw [l87h]
   simp only [h0,cond_false]
 rw [e87g,wrap_down hl]
 by_cases h1:st=1
 ·subst h1
  refine (ct rfl).trans ?_
  have:=scan_loop (fun j i=>(resume F3 (callN F3 (m+40)) n j 0 c125 (s87g rt nn 1 wy n1 n2 n3 fc hops steps parts nm (i:Nat))).out) parts.length (fun i=>notDone (parts.getD i .nilp)) (fun i=>[.int .i64 (i:Nat)]) [.int .i64 (-1)]
   (fun j i hi=> ?_) (fun j=> ?_) parts.length 0 n (by omega) (by omega)
  ·refine this.trans ?_
   rw [scan_map (fun b:Int=>[D.int .i64 b]),scan_idx0 notDone .nilp parts]
   rfl
  ·rw [l87g]
   simp only [Int.toNat_natCast,wrap_up hi hl,dec_lt hi,dec_ix hi,cond_true,notDone]
   all_goals rfl
  ·rw [l87g]
   refine (cf (dec_end _)).trans ?_
   rfl
 ·refine (cf (beqF h1)).trans ?_
  by_cases h4:st=4
  ·subst h4
   exact (ct rfl).trans (H 4)
  ·refine (cf (beqF h4)).trans ?_
   by_cases h5:st=5
   ·subst h5
    exact (ct rfl).trans (H 5)
   ·refine (cf (beqF h5)).trans ?_
    unfold cur
    rw [beqF h1,beqF h4,beqF h5]
    rfl
def g70:List D→Tree (List D)
 | [.agg [.int .i64 r,.int .i64 q,.sl e0 _nil es]]=>match Sh.beq e0 hopSh with
  | true=> .ret [.str (bif idOk r q es then showN r q es else []),.int .i64 (bif idOk r q es then 0 else 30)]
  | false=> .stuck
 | _=> .stuck
theorem pure70{P:Program}(hm:P.follows .mixedOrders=true)(h0:EnvOK P K0):PureOK P 179 g70:=PureOK.run hm h0 fun ds rs h=>by
 unfold g70 at h
 split at h
 ·rename_i r q e0 nil es
  split at h
  ·rename_i hb
   have hb0:=hb
   have hb0:=Sh.beq_eq hb0
   subst hb0
   cases h
   exact ⟨59+1,by rw [callN_succ (fn:=c179) rfl];exact run70 19 59 r q nil es (by omega)⟩
  ·cases h
 ·cases h
def g72:List D→Tree (List D)
 | [.agg [.int .i64 r,.int .i64 q,.sl e0 _nil es]]=>match Sh.beq e0 hopSh with
  | true=> .ret [.str (bif idOk r q es then showN r q es else []),.int .i64 (bif idOk r q es then 0 else 30)]
  | false=> .stuck
 | _=> .stuck
theorem pure72{P:Program}(hm:P.follows .mixedOrders=true)(h0:EnvOK P K0):PureOK P 225 g72:=PureOK.run hm h0 fun ds rs h=>by
 unfold g72 at h
 split at h
 ·rename_i r q e0 nil es
  split at h
  ·rename_i hb
   have hb0:=hb
   have hb0:=Sh.beq_eq hb0
   subst hb0
   cases h
   exact ⟨59+1,by rw [callN_succ (fn:=c225) rfl];exact run72 19 59 r q nil es (by omega)⟩
  ·cases h
 ·cases h
def g87b:List D→Tree (List D)
 | [.agg [.int .i64 _rt,.int .i64 _nn,.sl e0h _n1 _hops,.str _nm,.sl e0s _n2 _steps,.int .i64 st,.int .i64 _wy,.sl e0p _n3 parts,.bool _fc]]=>match Sh.beq e0h hopSh&&Sh.beq e0s stepSh&&Sh.beq e0p partSh with
  | true=> .ite (decide (parts.length≤1000000)) (fun _=> .ret [.int .i64 (cur st parts)]) (fun _=> .stuck)
  | false=> .stuck
 | _=> .stuck
theorem pure87b{P:Program}(hm:P.follows .mixedOrders=true)(h0:EnvOK P F3):PureOK P 125 g87b:=PureOK.run hm h0 fun ds rs h=>by
 unfold g87b at h
 split at h
 ·rename_i rt nn e0h n1 hops nm e0s n2 steps st wy e0p n3 parts fc
  split at h
  ·rename_i hb
   simp only [Bool.and_eq_true] at hb
   obtain ⟨⟨hb0,hb1⟩,hb2⟩:=hb
   have hb0:=Sh.beq_eq hb0
   have hb1:=Sh.beq_eq hb1
   have hb2:=Sh.beq_eq hb2
   subst hb0 hb1 hb2
   obtain ⟨hg,h'⟩:=eval_guard h
   clear h
   simp only [decide_eq_true_eq] at hg
   cases h'
   exact ⟨(parts.length+40)+1,by rw [callN_succ (fn:=c125) rfl];exact run87g parts.length (parts.length+40) rt nn st wy n1 n2 n3 fc hops steps parts nm hg (by omega)⟩
  ·cases h
 ·cases h
def K1:Env:=((K0.pureAt 125 true g87b).pureAt 179 true g70).pureAt 225 true g72
theorem okK0{P:Program}(hm:P.follows .mixedOrders=true)(h0:EnvOK P E19)(hI:EnvOK P I0):EnvOK P K0:=((okF5 hm h0).pureAt (itoa hm hI)).pureAt (pure73 hm hI)
theorem okF3{P:Program}(hm:P.follows .mixedOrders=true)(h0:EnvOK P E19):EnvOK P F3:=
 have f1:EnvOK P F1:=h0.pureAt (pure117 hm h0)
 have f2:EnvOK P F2:=f1.pureAt (pure179 hm f1)
 (f2.pureAt (pure136 hm f2)).pureAt (pure89 hm h0)
theorem okK1{P:Program}(hm:P.follows .mixedOrders=true)(h0:EnvOK P E19)(hI:EnvOK P I0):EnvOK P K1:=
 (((okK0 hm h0 hI).pureAt (pure87b hm (okF3 hm h0))).pureAt (pure70 hm (okK0 hm h0 hI))).pureAt (pure72 hm (okK0 hm h0 hI))
theorem e33(m n:Nat)(r q k:Int)(nil:Bool)(es:List D):Tree.out (enterM K1 (callN K1 (m+40)) n c145 [.d (.agg [.int .i64 r,.int .i64 q,.sl hopSh nil es]),.d (.int .i64 k)] [])=bif (bif idOk r q es then (0:Int) else (30:Int)) != 0 then some [D.str [],D.int .i64 30] else bif decide (k<0) then some [D.str [],D.int .i64 30] else bif decide (8≤k) then some [D.str [],D.int .i64 30] else bif decide (List.length (bif idOk r q es then showN r q es else [])+1≤4611686018427387904) then bif decide (0≤k)&&decide (k≤999999) then bif decide (List.length (List.append (bif idOk r q es then showN r q es else []) [35])+List.length (digN (k.toNat))≤4611686018427387904) then some [D.str (List.append (List.append (bif idOk r q es then showN r q es else []) [35]) (digN (k.toNat))),D.int .i64 0] else none else none else none:=by kernel_rfl
theorem e34(m n:Nat)(r q k:Int)(nil:Bool)(es:List D):Tree.out (enterM K1 (callN K1 (m+40)) n c159 [.d (.agg [.int .i64 r,.int .i64 q,.sl hopSh nil es]),.d (.int .i64 k)] [])=bif (bif idOk r q es then (0:Int) else (30:Int)) != 0 then some [D.str [],D.int .i64 30] else bif decide (k<0) then some [D.str [],D.int .i64 30] else bif decide (7<k) then some [D.str [],D.int .i64 30] else bif decide (List.length (bif idOk r q es then showN r q es else [])+1≤4611686018427387904) then bif decide (0≤k)&&decide (k<1000000) then bif decide (List.length (List.append (bif idOk r q es then showN r q es else []) [35])+List.length (digN (k.toNat))≤4611686018427387904) then some [D.str (List.append (List.append (bif idOk r q es then showN r q es else []) [35]) (digN (k.toNat))),D.int .i64 0] else none else none else none:=by kernel_rfl
theorem e38(m n:Nat)(rt nn st wy:Int)(n1 n2 n3 fc:Bool)(hops steps parts:List D)(nm:List UInt8):Tree.out (enterM K1 (callN K1 (m+40)) n c64 [.d (sagaD rt nn st wy n1 n2 n3 fc hops steps parts nm)] [])=bif (bif mayOk rt nn st wy fc hops steps parts nm then (0:Int) else (230:Int)) != 0 then some [D.int .i64 (-1)] else bif decide (parts.length≤1000000) then some [D.int .i64 (cur st parts)] else none:=by kernel_rfl
def keyN(r q:Int)(es:List D)(k:Int):List UInt8:=showN r q es++([35]++digN k.toNat)
def keyOk(r q:Int)(es:List D)(k:Int):Bool:=idOk r q es&&(decide (0≤k)&&decide (k<8))
theorem flat_len{f:D→List UInt8}{b:Nat}(h: ∀x,(f x).length≤b): ∀es:List D,(es.flatMap f).length≤b*es.length
 | []=>by simp
 | x :: es=>by
  have h1:=h x
  have h2:=flat_len h es
  rw [List.flatMap_cons,List.length_append,List.length_cons,Nat.mul_succ]
  omega
theorem showN_len{r q:Int}{es:List D}(h:idOk r q es=true):(showN r q es).length≤100:=by
 obtain ⟨-,h4,-,-,-⟩:=idOk_iff.1 h
 have d0:=digN_len r.toNat
 have d1:=digN_len q.toNat
 have:=flat_len (f:=hopTxt) (b:=16) (fun x=>by
  have d0:=digN_len (fi 0 x).toNat
  have d1:=digN_len (fi 1 x).toNat
  simp only [hopTxt,List.length_append,List.length_cons,List.length_nil];omega) es
 simp only [showN,List.length_append,List.length_cons,List.length_nil]
 omega
theorem run33(m n:Nat)(r q k:Int)(nil:Bool)(es:List D):(enterM K1 (callN K1 (m+40)) n c145 [.d (.agg [.int .i64 r,.int .i64 q,.sl hopSh nil es]),.d (.int .i64 k)] []).out=some [.str (bif keyOk r q es k then keyN r q es k else []),.int .i64 (bif keyOk r q es k then 0 else 30)]:=by
 rw [e33]
 unfold keyOk
 cases h:idOk r q es
 ·rfl
 ·refine (cf rfl).trans ?_
  by_cases h0:k<0
  ·refine (ct (decide_eq_true h0)).trans ?_
   rw [decide_eq_false (show¬0≤k by omega)];rfl
  ·refine (cf (decide_eq_false h0)).trans ?_
   by_cases h8:8≤k
   ·refine (ct (decide_eq_true h8)).trans ?_
    rw [decide_eq_false (show¬k<8 by omega),Bool.and_false,Bool.and_false];rfl
   ·refine (cf (decide_eq_false h8)).trans ?_
    have:=showN_len h
    have:=digN_len k.toNat
    simp only [cond_true,List.append_eq]
    iterate 3 refine (ct (by simp only [Bool.and_eq_true,decide_eq_true_eq,List.length_append,List.length_cons,List.length_nil];omega)).trans ?_
    rw [decide_eq_true (show 0≤k by omega),decide_eq_true (show k<8 by omega)]
    simp only [Bool.and_self,cond_true,keyN,List.append_assoc]
theorem run34(m n:Nat)(r q k:Int)(nil:Bool)(es:List D):(enterM K1 (callN K1 (m+40)) n c159 [.d (.agg [.int .i64 r,.int .i64 q,.sl hopSh nil es]),.d (.int .i64 k)] []).out=some [.str (bif keyOk r q es k then keyN r q es k else []),.int .i64 (bif keyOk r q es k then 0 else 30)]:=by
 rw [e34]
 unfold keyOk
 cases h:idOk r q es
 ·rfl
 ·refine (cf rfl).trans ?_
  by_cases h0:k<0
  ·refine (ct (decide_eq_true h0)).trans ?_
   rw [decide_eq_false (show¬0≤k by omega)];rfl
  ·refine (cf (decide_eq_false h0)).trans ?_
   by_cases h8:7<k
   ·refine (ct (decide_eq_true h8)).trans ?_
    rw [decide_eq_false (show¬k<8 by omega),Bool.and_false,Bool.and_false];rfl
   ·refine (cf (decide_eq_false h8)).trans ?_
    have:=showN_len h
    have:=digN_len k.toNat
    simp only [cond_true,List.append_eq]
    iterate 3 refine (ct (by simp only [Bool.and_eq_true,decide_eq_true_eq,List.length_append,List.length_cons,List.length_nil];omega)).trans ?_
    rw [decide_eq_true (show 0≤k by omega),decide_eq_true (show k<8 by omega)]
    simp only [Bool.and_self,cond_true,keyN,List.append_assoc]
theorem mayOk_parts{rt nn st wy:Int}{fc:Bool}{hops steps parts:List D}{nm:List UInt8}(h:mayOk rt nn st wy fc hops steps parts nm=true):parts.length≤8∧parts.length≤steps.length:=by
 by_cases h7:st=7
 ·subst h7
  unfold mayOk at h
  have:((7:Int)==7)=true:=rfl
  rw [this] at h
  cases h1:idOk rt nn hops
  ·simp [h1] at h
  ·cases hd:decide (0<(steps.length:Int)+(parts.length:Int))
   ·have:=of_decide_eq_false hd
    omega
   ·rw [h1,hd] at h
    cases hn:(nm==[]) <;> rw [hn] at h <;> cases h
 ·have:=mayOk_len h h7
  omega
theorem run38(m n:Nat)(rt nn st wy:Int)(n1 n2 n3 fc:Bool)(hops steps parts:List D)(nm:List UInt8):(enterM K1 (callN K1 (m+40)) n c64 [.d (sagaD rt nn st wy n1 n2 n3 fc hops steps parts nm)] []).out=some [.int .i64 (curR rt nn st wy fc hops steps parts nm)]:=by
 rw [e38]
 unfold curR
 cases h:mayOk rt nn st wy fc hops steps parts nm
 ·rfl
 ·have:=mayOk_parts h
  refine (cf rfl).trans ?_
  exact ct (decide_eq_true (by omega))
def g20:List D→Tree (List D)
 | []=> .ret [.bool true]
 | _=> .stuck
def g33:List D→Tree (List D)
 | [.agg [.int .i64 r,.int .i64 q,.sl e0 _nil es],.int .i64 k]=>match Sh.beq e0 hopSh with
  | true=> .ret [.str (bif keyOk r q es k then keyN r q es k else []),.int .i64 (bif keyOk r q es k then 0 else 30)]
  | false=> .stuck
 | _=> .stuck
theorem pure33{P:Program}(hm:P.follows .mixedOrders=true)(h0:EnvOK P K1):PureOK P 145 g33:=PureOK.run hm h0 fun ds rs h=>by
 unfold g33 at h
 split at h
 ·rename_i r q e0 nil es k
  split at h
  ·rename_i hb
   have hb0:=hb
   have hb0:=Sh.beq_eq hb0
   subst hb0
   cases h
   exact ⟨59+1,by rw [callN_succ (fn:=c145) rfl];exact run33 19 59 r q k nil es⟩
  ·cases h
 ·cases h
def g34:List D→Tree (List D)
 | [.agg [.int .i64 r,.int .i64 q,.sl e0 _nil es],.int .i64 k]=>match Sh.beq e0 hopSh with
  | true=> .ret [.str (bif keyOk r q es k then keyN r q es k else []),.int .i64 (bif keyOk r q es k then 0 else 30)]
  | false=> .stuck
 | _=> .stuck
theorem pure34{P:Program}(hm:P.follows .mixedOrders=true)(h0:EnvOK P K1):PureOK P 159 g34:=PureOK.run hm h0 fun ds rs h=>by
 unfold g34 at h
 split at h
 ·rename_i r q e0 nil es k
  split at h
  ·rename_i hb
   have hb0:=hb
   have hb0:=Sh.beq_eq hb0
   subst hb0
   cases h
   exact ⟨59+1,by rw [callN_succ (fn:=c159) rfl];exact run34 19 59 r q k nil es⟩
  ·cases h
 ·cases h
def g38:List D→Tree (List D)
 | [.agg [.int .i64 rt,.int .i64 nn,.sl e0h _n1 hops,.str nm,.sl e0s _n2 steps,.int .i64 st,.int .i64 wy,.sl e0p _n3 parts,.bool fc]]=>match Sh.beq e0h hopSh&&Sh.beq e0s stepSh&&Sh.beq e0p partSh with
  | true=> .ret [.int .i64 (curR rt nn st wy fc hops steps parts nm)]
  | false=> .stuck
 | _=> .stuck
theorem pure38{P:Program}(hm:P.follows .mixedOrders=true)(h0:EnvOK P K1):PureOK P 64 g38:=PureOK.run hm h0 fun ds rs h=>by
 unfold g38 at h
 split at h
 ·rename_i rt nn e0h n1 hops nm e0s n2 steps st wy e0p n3 parts fc
  split at h
  ·rename_i hb
   simp only [Bool.and_eq_true] at hb
   obtain ⟨⟨hb0,hb1⟩,hb2⟩:=hb
   have hb0:=Sh.beq_eq hb0
   have hb1:=Sh.beq_eq hb1
   have hb2:=Sh.beq_eq hb2
   subst hb0 hb1 hb2
   cases h
   exact ⟨59+1,by rw [callN_succ (fn:=c64) rfl];exact run38 19 59 rt nn st wy n1 n2 n3 fc hops steps parts nm⟩
  ·cases h
 ·cases h
def K2:Env:=((K1.pureAt 145 true g33).pureAt 159 true g34).pureAt 64 true g38
theorem okK2{P:Program}(hm:P.follows .mixedOrders=true)(h:EnvOK P K1):EnvOK P K2:=((h.pureAt (pure33 hm h)).pureAt (pure34 hm h)).pureAt (pure38 hm h)
theorem m157(m n:Nat)(k am:Int)(ac:List UInt8):Tree.out (enterM K2 (callN K2 (m+40)) n c137 [.d (.agg [.int .i64 k,.str ac,.int .i64 am])] [])=bif decide (k<1) then some [D.int .i64 60] else bif decide (4<k) then some [D.int .i64 60] else bif !name ac then some [D.int .i64 60] else bif decide (am<1) then some [D.int .i64 60] else bif decide (0≤am) then bif !decide (am≤1000000000000000) then some [D.int .i64 60] else some [D.int .i64 0] else some [D.int .i64 60]:=by kernel_rfl
theorem m164(m n:Nat)(k am:Int)(ac:List UInt8):Tree.out (enterM K2 (callN K2 (m+40)) n c139 [.d (.agg [.int .i64 k,.str ac,.int .i64 am])] [])=bif decide (k<1) then some [D.int .i64 60] else bif decide (4<k) then some [D.int .i64 60] else bif !name ac then some [D.int .i64 60] else bif decide (am<1) then some [D.int .i64 60] else bif decide (1000000000000000<am) then some [D.int .i64 60] else some [D.int .i64 0]:=by kernel_rfl
theorem m154(m n:Nat)(nm:List UInt8)(fh fi' fo kh ki ko:Int):Tree.out (enterM K2 (callN K2 (m+40)) n c140 [.d (.agg [.str nm,.int .i64 fh,.int .i64 fi',.int .i64 fo,.int .i64 kh,.int .i64 ki,.int .i64 ko])] [])=bif !name nm then some [D.int .i64 2] else bif decide (fi'<0) then some [D.int .i64 2] else bif decide (fh<fi') then some [D.int .i64 2] else bif decide (fo<0) then some [D.int .i64 2] else bif decide (1000000000000000<fh) then some [D.int .i64 2] else bif decide (IntKind.wrap .i64 (1000000000000000 - fh)<fo) then some [D.int .i64 2] else bif decide (ki<0) then some [D.int .i64 2] else bif decide (kh<ki) then some [D.int .i64 2] else bif decide (ko<0) then some [D.int .i64 2] else bif decide (1000000000000000<kh) then some [D.int .i64 2] else bif decide (IntKind.wrap .i64 (1000000000000000 - kh)<ko) then some [D.int .i64 2] else some [D.int .i64 0]:=by kernel_rfl
theorem m166(m n:Nat)(nm:List UInt8)(fh fi' fo kh ki ko:Int):Tree.out (enterM K2 (callN K2 (m+40)) n c147 [.d (.agg [.str nm,.int .i64 fh,.int .i64 fi',.int .i64 fo,.int .i64 kh,.int .i64 ki,.int .i64 ko])] [])=bif !name nm then some [D.int .i64 2] else bif decide (fi'<0) then some [D.int .i64 2] else bif decide (fh<fi') then some [D.int .i64 2] else bif decide (fo<0) then some [D.int .i64 2] else bif decide (1000000000000000<fh) then some [D.int .i64 2] else bif decide (1000000000000000<fo) then some [D.int .i64 2] else bif decide (1000000000000000<IntKind.wrap .i64 (fh+fo)) then some [D.int .i64 2] else bif decide (ki<0) then some [D.int .i64 2] else bif decide (kh<ki) then some [D.int .i64 2] else bif decide (ko<0) then some [D.int .i64 2] else bif decide (1000000000000000<kh) then some [D.int .i64 2] else bif decide (1000000000000000<ko) then some [D.int .i64 2] else bif decide (1000000000000000<IntKind.wrap .i64 (kh+ko)) then some [D.int .i64 2] else some [D.int .i64 0]:=by kernel_rfl
theorem m156(m n:Nat)(s:List UInt8):Tree.out (enterM K2 (callN K2 (m+40)) n c141 [.d (.str s)] [])=bif !s==[] then some [D.bool (decide ((s.length:Int)≤100))] else some [D.bool false]:=by kernel_rfl
theorem m163(m n:Nat)(s:List UInt8):Tree.out (enterM K2 (callN K2 (m+40)) n c146 [.d (.str s)] [])=bif decide (1≤(s.length:Int)) then some [D.bool (decide ((s.length:Int)≤100))] else some [D.bool false]:=by kernel_rfl
theorem m194(m n:Nat)(k am:Int)(ac:List UInt8):Tree.out (enterM K2 (callN K2 (m+40)) n c73 [.d (.agg [.int .i64 k,.str ac,.int .i64 am])] [])=bif decide (k<1) then some [D.int .i64 0,D.int .i64 0] else bif decide (4<k) then some [D.int .i64 0,D.int .i64 0] else bif !name ac then some [D.int .i64 0,D.int .i64 0] else bif decide (am<1) then some [D.int .i64 0,D.int .i64 0] else bif decide (0≤am) then bif !decide (am≤1000000000000000) then some [D.int .i64 0,D.int .i64 0] else bif k==3 then some [D.int .i64 (IntKind.wrap .i64 ((-1)*am)),D.int .i64 (IntKind.wrap .i64 (1*am))] else bif k==1 then some [D.int .i64 (IntKind.wrap .i64 ((-1)*am)),D.int .i64 (IntKind.wrap .i64 (0*am))] else bif k==4 then some [D.int .i64 (IntKind.wrap .i64 (1*am)),D.int .i64 (IntKind.wrap .i64 ((-1)*am))] else bif k==2 then some [D.int .i64 (IntKind.wrap .i64 (1*am)),D.int .i64 (IntKind.wrap .i64 (0*am))] else some [D.int .i64 (IntKind.wrap .i64 (0*am)),D.int .i64 (IntKind.wrap .i64 (0*am))] else some [D.int .i64 0,D.int .i64 0]:=by kernel_rfl
theorem pull{c x:Bool}{e:Int}{a:Option (List D)}(h:a=some [D.int .i64 (bif x then 0 else e)]):(bif c then some [D.int .i64 e] else a)=some [D.int .i64 (bif (bif c then false else x) then 0 else e)]:=by
 subst h
 cases c <;> rfl
def actOk(k am:Int)(ac:List UInt8):Bool:=bif decide (k<1) then false else bif decide (4<k) then false else bif !name ac then false else bif decide (am<1) then false else bif decide (1000000000000000<am) then false else true
theorem actOk_iff{k am:Int}{ac:List UInt8}:actOk k am ac=true↔1≤k∧k≤4∧name ac=true∧1≤am∧am≤1000000000000000:=by
 unfold actOk
 cases hn:name ac
 ·simp
 ·simp
theorem run164(m n:Nat)(k am:Int)(ac:List UInt8):(enterM K2 (callN K2 (m+40)) n c139 [.d (.agg [.int .i64 k,.str ac,.int .i64 am])] []).out=some [.int .i64 (bif actOk k am ac then 0 else 60)]:=by
 rw [m164]
 exact pull (pull (pull (pull (pull rfl))))
theorem run157(m n:Nat)(k am:Int)(ac:List UInt8):(enterM K2 (callN K2 (m+40)) n c137 [.d (.agg [.int .i64 k,.str ac,.int .i64 am])] []).out=some [.int .i64 (bif actOk k am ac then 0 else 60)]:=by
 rw [m157]
 refine pull (pull (pull ?_))
 by_cases h:am<1
 ·rw [decide_eq_true h];rfl
 ·rw [decide_eq_false h,decide_eq_true (show 0≤am by omega)]
  refine pull ?_
  refine (ct rfl).trans ?_
  have:(!decide (am≤1000000000000000))=decide (1000000000000000<am):=by
   by_cases h:am≤1000000000000000
   ·rw [decide_eq_true h,decide_eq_false (by omega)];rfl
   ·rw [decide_eq_false h,decide_eq_true (by omega)];rfl
  rw [this]
  exact pull rfl
def potOk(h i o:Int):Bool:=bif decide (i<0) then false else bif decide (h<i) then false else bif decide (o<0) then false else bif decide (1000000000000000<h) then false else bif decide (1000000000000000<h+o) then false else true
def accOk(nm:List UInt8)(fh fj fo kh kj ko:Int):Bool:=bif !name nm then false else bif potOk fh fj fo then potOk kh kj ko else false
theorem pot_a{h i o:Int}(a b:Option (List D)):(bif decide (i<0) then a else bif decide (h<i) then a else bif decide (o<0) then a else bif decide (1000000000000000<h) then a else bif decide (IntKind.wrap .i64 (1000000000000000 - h)<o) then a else b)=bif potOk h i o then b else a:=by
 unfold potOk
 by_cases h1:i<0
 ·rw [decide_eq_true h1];rfl
 by_cases h2:h<i
 ·rw [decide_eq_false h1,decide_eq_true h2];rfl
 by_cases h3:o<0
 ·rw [decide_eq_false h1,decide_eq_false h2,decide_eq_true h3];rfl
 by_cases h4:1000000000000000<h
 ·rw [decide_eq_false h1,decide_eq_false h2,decide_eq_false h3,decide_eq_true h4];rfl
 rw [decide_eq_false h1,decide_eq_false h2,decide_eq_false h3,decide_eq_false h4,wrap_i64 (by omega) (by omega)]
 by_cases h5:1000000000000000 - h<o
 ·rw [decide_eq_true h5,decide_eq_true (show 1000000000000000<h+o by omega)];rfl
 ·rw [decide_eq_false h5,decide_eq_false (show¬1000000000000000<h+o by omega)];rfl
theorem pot_b{h i o:Int}(a b:Option (List D)):(bif decide (i<0) then a else bif decide (h<i) then a else bif decide (o<0) then a else bif decide (1000000000000000<h) then a else bif decide (1000000000000000<o) then a else bif decide (1000000000000000<IntKind.wrap .i64 (h+o)) then a else b)=bif potOk h i o then b else a:=by
 unfold potOk
 by_cases h1:i<0
 ·rw [decide_eq_true h1];rfl
 by_cases h2:h<i
 ·rw [decide_eq_false h1,decide_eq_true h2];rfl
 by_cases h3:o<0
 ·rw [decide_eq_false h1,decide_eq_false h2,decide_eq_true h3];rfl
 by_cases h4:1000000000000000<h
 ·rw [decide_eq_false h1,decide_eq_false h2,decide_eq_false h3,decide_eq_true h4];rfl
 rw [decide_eq_false h1,decide_eq_false h2,decide_eq_false h3,decide_eq_false h4]
 by_cases h5:1000000000000000<o
 ·rw [decide_eq_true h5,decide_eq_true (show 1000000000000000<h+o by omega)];rfl
 ·rw [decide_eq_false h5,wrap_i64 (by omega) (by omega)]
  cases decide (1000000000000000<h+o) <;> rfl
theorem run154(m n:Nat)(nm:List UInt8)(fh fi' fo kh ki ko:Int):(enterM K2 (callN K2 (m+40)) n c140 [.d (.agg [.str nm,.int .i64 fh,.int .i64 fi',.int .i64 fo,.int .i64 kh,.int .i64 ki,.int .i64 ko])] []).out=some [.int .i64 (bif accOk nm fh fi' fo kh ki ko then 0 else 2)]:=by
 rw [m154,pot_a,pot_a]
 unfold accOk
 cases name nm <;> cases potOk fh fi' fo <;> cases potOk kh ki ko <;> rfl
theorem run166(m n:Nat)(nm:List UInt8)(fh fi' fo kh ki ko:Int):(enterM K2 (callN K2 (m+40)) n c147 [.d (.agg [.str nm,.int .i64 fh,.int .i64 fi',.int .i64 fo,.int .i64 kh,.int .i64 ki,.int .i64 ko])] []).out=some [.int .i64 (bif accOk nm fh fi' fo kh ki ko then 0 else 2)]:=by
 rw [m166,pot_b,pot_b]
 unfold accOk
 cases name nm <;> cases potOk fh fi' fo <;> cases potOk kh ki ko <;> rfl
def ledKey(s:List UInt8):Bool:=bif decide (1≤(s.length:Int)) then decide ((s.length:Int)≤100) else false
theorem run163(m n:Nat)(s:List UInt8):(enterM K2 (callN K2 (m+40)) n c146 [.d (.str s)] []).out=some [.bool (ledKey s)]:=by
 rw [m163]
 unfold ledKey
 cases decide (1≤(s.length:Int)) <;> rfl
theorem run156(m n:Nat)(s:List UInt8):(enterM K2 (callN K2 (m+40)) n c141 [.d (.str s)] []).out=some [.bool (ledKey s)]:=by
 rw [m156]
 unfold ledKey
 cases s with
 | nil=>rfl
 | cons x l=>rw [decide_eq_true (show 1≤((x :: l).length:Int) by rw [List.length_cons];omega)];rfl
def dFree(k am:Int)(ac:List UInt8):Int:=bif actOk k am ac then bif k==1||k==3 then 0 - am else am else 0
def dKept(k am:Int)(ac:List UInt8):Int:=bif actOk k am ac then bif k==3 then am else bif k==4 then 0 - am else 0 else 0
theorem wrap_in{n:Int}(h0: -9223372036854775808≤n)(h1:n<9223372036854775808):IntKind.wrap .i64 n=n:=by
 by_cases h:0≤n
 ·exact wrap_i64 h h1
 ·have p64:(2:Int) ^ 64=18446744073709551616:=by decide
  have p63:(2:Int) ^ (64 - 1)=9223372036854775808:=by decide
  have e:n % (2 ^ 64:Int)=n+18446744073709551616:=by
   rw [p64,←Int.add_emod_right,Int.emod_eq_of_lt (by omega) (by omega)]
  have h4:decide (n+18446744073709551616≥(2:Int) ^ (64 - 1))=true:=by rw [p63];exact decide_eq_true (by omega)
  unfold IntKind.wrap
  simp only [IntKind.bits,IntKind.signed,e,h4,Bool.and_true,if_true]
  rw [p64]
  omega
theorem run194(m n:Nat)(k am:Int)(ac:List UInt8):(enterM K2 (callN K2 (m+40)) n c73 [.d (.agg [.int .i64 k,.str ac,.int .i64 am])] []).out=some [.int .i64 (dFree k am ac),.int .i64 (dKept k am ac)]:=by
 rw [m194]
 unfold dFree dKept
 cases ha:actOk k am ac
 ·unfold actOk at ha
  by_cases h1:k<1
  ·exact ct (decide_eq_true h1)
  refine (cf (decide_eq_false h1)).trans ?_
  by_cases h2:4<k
  ·exact ct (decide_eq_true h2)
  refine (cf (decide_eq_false h2)).trans ?_
  cases hn:name ac
  ·rfl
  refine (cf rfl).trans ?_
  by_cases h3:am<1
  ·exact ct (decide_eq_true h3)
  refine (cf (decide_eq_false h3)).trans ?_
  refine (ct (decide_eq_true (by omega))).trans ?_
  rw [decide_eq_false h1,decide_eq_false h2,decide_eq_false h3,hn] at ha
  have h4:1000000000000000<am:=by
   by_cases h4:1000000000000000<am
   ·exact h4
   ·rw [decide_eq_false h4] at ha;cases ha
  exact ct (by rw [decide_eq_false (show¬am≤1000000000000000 by omega)];rfl)
 ·obtain ⟨h1,h2,h3,h4,h5⟩:=actOk_iff.1 ha
  refine (cf (decide_eq_false (by omega))).trans ?_
  refine (cf (decide_eq_false (by omega))).trans ?_
  refine (cf (by rw [h3];rfl)).trans ?_
  refine (cf (decide_eq_false (by omega))).trans ?_
  refine (ct (decide_eq_true (by omega))).trans ?_
  refine (cf (by rw [decide_eq_true h5];rfl)).trans ?_
  have w1:IntKind.wrap .i64 (-1*am)=0 - am:=by rw [wrap_in (by omega) (by omega)];omega
  have w2:IntKind.wrap .i64 (1*am)=am:=by rw [wrap_in (by omega) (by omega)];omega
  have w3:IntKind.wrap .i64 (0*am)=0:=by rw [wrap_in (by omega) (by omega)];omega
  rw [w1,w2,w3]
  have hk:k=1∨k=2∨k=3∨k=4:=by omega
  rcases hk with rfl | rfl | rfl | rfl <;> rfl
def g157:List D→Tree (List D)
 | [.agg [.int .i64 k,.str ac,.int .i64 am]]=> .ret [.int .i64 (bif actOk k am ac then 0 else 60)]
 | _=> .stuck
theorem pure157{P:Program}(hm:P.follows .mixedOrders=true)(h0:EnvOK P K2):PureOK P 137 g157:=PureOK.run hm h0 fun ds rs h=>by
 unfold g157 at h
 split at h
 ·rename_i k ac am
  cases h
  exact ⟨59+1,by rw [callN_succ (fn:=c137) rfl];exact run157 19 59 k am ac⟩
 ·cases h
def g164:List D→Tree (List D)
 | [.agg [.int .i64 k,.str ac,.int .i64 am]]=> .ret [.int .i64 (bif actOk k am ac then 0 else 60)]
 | _=> .stuck
theorem pure164{P:Program}(hm:P.follows .mixedOrders=true)(h0:EnvOK P K2):PureOK P 139 g164:=PureOK.run hm h0 fun ds rs h=>by
 unfold g164 at h
 split at h
 ·rename_i k ac am
  cases h
  exact ⟨59+1,by rw [callN_succ (fn:=c139) rfl];exact run164 19 59 k am ac⟩
 ·cases h
def g154:List D→Tree (List D)
 | [.agg [.str nm,.int .i64 fh,.int .i64 fj,.int .i64 fo,.int .i64 kh,.int .i64 kj,.int .i64 ko]]=> .ret [.int .i64 (bif accOk nm fh fj fo kh kj ko then 0 else 2)]
 | _=> .stuck
theorem pure154{P:Program}(hm:P.follows .mixedOrders=true)(h0:EnvOK P K2):PureOK P 140 g154:=PureOK.run hm h0 fun ds rs h=>by
 unfold g154 at h
 split at h
 ·rename_i nm fh fj fo kh kj ko
  cases h
  exact ⟨59+1,by rw [callN_succ (fn:=c140) rfl];exact run154 19 59 nm fh fj fo kh kj ko⟩
 ·cases h
def g166:List D→Tree (List D)
 | [.agg [.str nm,.int .i64 fh,.int .i64 fj,.int .i64 fo,.int .i64 kh,.int .i64 kj,.int .i64 ko]]=> .ret [.int .i64 (bif accOk nm fh fj fo kh kj ko then 0 else 2)]
 | _=> .stuck
theorem pure166{P:Program}(hm:P.follows .mixedOrders=true)(h0:EnvOK P K2):PureOK P 147 g166:=PureOK.run hm h0 fun ds rs h=>by
 unfold g166 at h
 split at h
 ·rename_i nm fh fj fo kh kj ko
  cases h
  exact ⟨59+1,by rw [callN_succ (fn:=c147) rfl];exact run166 19 59 nm fh fj fo kh kj ko⟩
 ·cases h
def g156:List D→Tree (List D)
 | [.str s]=> .ret [.bool (ledKey s)]
 | _=> .stuck
theorem pure156{P:Program}(hm:P.follows .mixedOrders=true)(h0:EnvOK P K2):PureOK P 141 g156:=PureOK.run hm h0 fun ds rs h=>by
 unfold g156 at h
 split at h
 ·rename_i s
  cases h
  exact ⟨59+1,by rw [callN_succ (fn:=c141) rfl];exact run156 19 59 s⟩
 ·cases h
def g163:List D→Tree (List D)
 | [.str s]=> .ret [.bool (ledKey s)]
 | _=> .stuck
theorem pure163{P:Program}(hm:P.follows .mixedOrders=true)(h0:EnvOK P K2):PureOK P 146 g163:=PureOK.run hm h0 fun ds rs h=>by
 unfold g163 at h
 split at h
 ·rename_i s
  cases h
  exact ⟨59+1,by rw [callN_succ (fn:=c146) rfl];exact run163 19 59 s⟩
 ·cases h
def g194:List D→Tree (List D)
 | [.agg [.int .i64 k,.str ac,.int .i64 am]]=> .ret [.int .i64 (dFree k am ac),.int .i64 (dKept k am ac)]
 | _=> .stuck
theorem pure194{P:Program}(hm:P.follows .mixedOrders=true)(h0:EnvOK P K2):PureOK P 73 g194:=PureOK.run hm h0 fun ds rs h=>by
 unfold g194 at h
 split at h
 ·rename_i k ac am
  cases h
  exact ⟨59+1,by rw [callN_succ (fn:=c73) rfl];exact run194 19 59 k am ac⟩
 ·cases h
def M1:Env:=((((((K2.pureAt 137 true g157).pureAt 139 true g164).pureAt 140 true g154).pureAt 147 true g166).pureAt 141 true g156).pureAt 146 true g163).pureAt 73 true g194
theorem okM1{P:Program}(hm:P.follows .mixedOrders=true)(h:EnvOK P K2):EnvOK P M1:=
 ((((((h.pureAt (pure157 hm h)).pureAt (pure164 hm h)).pureAt (pure154 hm h)).pureAt (pure166 hm h)).pureAt (pure156 hm h)).pureAt (pure163 hm h)).pureAt (pure194 hm h)
abbrev accSh:Sh:= .agg [.str,.int .i64,.int .i64,.int .i64,.int .i64,.int .i64,.int .i64]
abbrev mrkSh:Sh:= .agg [.str,.int .i64,.str,.int .i64,.int .i64]
def cmpB(a b:List UInt8):Int:=bif a==b then 0 else bif Op.bytesLess a b then -1 else 1
def g192:List D→Tree (List D)
 | [.str a,.str b]=> .ret [.int .i64 (cmpB a b)]
 | _=> .stuck
def M2:Env:=M1.pureAt 210 true g192
theorem e165(m n:Nat)(na nm':Bool)(zas ms:List D)(s:List UInt8):Tree.out (enterM M2 (callN M2 (m+40)) n c74 [.d (.agg [.sl accSh na zas,.sl mrkSh nm' ms]),.d (.str s)] [])=Tree.out (resume M2 (callN M2 (m+40)) n n 0 c74 { fr:=frame 22 [(1,V.d (D.str s)),(2,V.ptr 192 0),(5,V.d (D.int .i64 0))],ob:=[(192,Obj.box [V.d (D.sl accSh na zas),V.d (D.sl mrkSh nm' ms)])] }):=by kernel_rfl
def s165(na nm':Bool)(zas ms:List D)(s:List UInt8)(i:Int):St:= { fr:=frame 22 [(1,V.d (D.str s)),(2,V.ptr 192 0),(5,V.d (D.int .i64 i))],ob:=[(192,.box [V.d (D.sl accSh na zas),V.d (D.sl mrkSh nm' ms)])] }
theorem l165(m n j:Nat)(na nm':Bool)(zas ms:List D)(s:List UInt8)(i:Int):Tree.out (resume M2 (callN M2 (m+40)) n (j+1) 0 c74 (s165 na nm' zas ms s i))=bif decide (i<(zas.length:Int)) then bif decide (0≤i∧i<(zas.length:Int)) then bif fs 0 (zas.getD i.toNat .nilp)==s then some [D.int .i64 i] else Tree.out (resume M2 (callN M2 (m+40)) n j 0 c74 { fr:=frame 22 [(1,V.d (D.str s)),(2,V.ptr 192 0),(5,V.d (D.int .i64 (IntKind.wrap .i64 (i+1))))],ob:=[(192,Obj.box [V.d (D.sl accSh na zas),V.d (D.sl mrkSh nm' ms)])] }) else none else some [D.int .i64 (-1)]:=by kernel_rfl
theorem e168(m n:Nat)(na nm':Bool)(zas ms:List D)(s:List UInt8):Tree.out (enterM M2 (callN M2 (m+40)) n c160 [.d (.agg [.sl accSh na zas,.sl mrkSh nm' ms]),.d (.str s)] [])=Tree.out (resume M2 (callN M2 (m+40)) n n 0 c160 { fr:=frame 22 [(1,V.d (D.str s)),(2,V.ptr 192 0),(5,V.d (D.int .i64 0))],ob:=[(192,Obj.box [V.d (D.sl accSh na zas),V.d (D.sl mrkSh nm' ms)])] }):=by kernel_rfl
theorem l168(m n j:Nat)(na nm':Bool)(zas ms:List D)(s:List UInt8)(i:Int):Tree.out (resume M2 (callN M2 (m+40)) n (j+1) 0 c160 (s165 na nm' zas ms s i))=bif decide (i<(ms.length:Int)) then bif decide (0≤i∧i<(ms.length:Int)) then bif fs 0 (ms.getD i.toNat .nilp)==s then some [D.int .i64 i] else Tree.out (resume M2 (callN M2 (m+40)) n j 0 c160 { fr:=frame 22 [(1,V.d (D.str s)),(2,V.ptr 192 0),(5,V.d (D.int .i64 (IntKind.wrap .i64 (i+1))))],ob:=[(192,Obj.box [V.d (D.sl accSh na zas),V.d (D.sl mrkSh nm' ms)])] }) else none else some [D.int .i64 (-1)]:=by kernel_rfl
theorem e167(m n:Nat)(na nm':Bool)(zas ms:List D)(s:List UInt8)(fh fj fo kh kj ko:Int):Tree.out (enterM M2 (callN M2 (m+40)) n c148 [.d (.agg [.sl accSh na zas,.sl mrkSh nm' ms]),.d (.agg [.str s,.int .i64 fh,.int .i64 fj,.int .i64 fo,.int .i64 kh,.int .i64 kj,.int .i64 ko])] [])=Tree.out (resume M2 (callN M2 (m+40)) n n 0 c148 { fr:=frame 93 [(2,V.ptr 192 0),(3,V.ptr 256 0),(5,V.d (D.int .i64 0)),(6,V.d (D.int .i64 0)),(7,V.d (D.int .i64 0)),(8,V.d (D.int .i64 0)),(9,V.d (D.int .i64 0))],ob:=[(192,Obj.box [V.d (D.sl accSh na zas),V.d (D.sl mrkSh nm' ms)]),(256,Obj.box [V.d (D.str s),V.d (D.int .i64 fh),V.d (D.int .i64 fj),V.d (D.int .i64 fo),V.d (D.int .i64 kh),V.d (D.int .i64 kj),V.d (D.int .i64 ko)])] }):=by kernel_rfl
def s167(na nm':Bool)(zas ms:List D)(s:List UInt8)(fh fj fo kh kj ko:Int)(x y z u i:Int):St:= { fr:=frame 93 [(2,V.ptr 192 0),(3,V.ptr 256 0),(5,V.d (D.int .i64 x)),(6,V.d (D.int .i64 y)),(7,V.d (D.int .i64 z)),(8,V.d (D.int .i64 u)),(9,V.d (D.int .i64 i))],ob:=[(192,.box [V.d (D.sl accSh na zas),V.d (D.sl mrkSh nm' ms)]),(256,.box [V.d (D.str s),V.d (D.int .i64 fh),V.d (D.int .i64 fj),V.d (D.int .i64 fo),V.d (D.int .i64 kh),V.d (D.int .i64 kj),V.d (D.int .i64 ko)])] }
theorem l167(m n j:Nat)(na nm':Bool)(zas ms:List D)(s:List UInt8)(fh fj fo kh kj ko:Int)(x y z u i:Int):Tree.out (resume M2 (callN M2 (m+40)) n (j+1) 0 c148 (s167 na nm' zas ms s fh fj fo kh kj ko x y z u i))=bif decide (i<(ms.length:Int)) then bif decide (0≤i∧i<(ms.length:Int)) then bif !fs 2 (ms.getD i.toNat .nilp)==s then Tree.out (resume M2 (callN M2 (m+40)) n j 0 c148 { fr:=frame 93 [(2,V.ptr 192 0),(3,V.ptr 256 0),(5,V.d (D.int .i64 x)),(6,V.d (D.int .i64 y)),(7,V.d (D.int .i64 z)),(8,V.d (D.int .i64 u)),(9,V.d (D.int .i64 (IntKind.wrap .i64 (i+1))))],ob:=[(192,Obj.box [V.d (D.sl accSh na zas),V.d (D.sl mrkSh nm' ms)]),(256,Obj.box [V.d (D.str s),V.d (D.int .i64 fh),V.d (D.int .i64 fj),V.d (D.int .i64 fo),V.d (D.int .i64 kh),V.d (D.int .i64 kj),V.d (D.int .i64 ko)])] }) else bif fi 4 (ms.getD i.toNat .nilp) != 1 then Tree.out (resume M2 (callN M2 (m+40)) n j 0 c148 { fr:=frame 93 [(2,V.ptr 192 0),(3,V.ptr 256 0),(5,V.d (D.int .i64 x)),(6,V.d (D.int .i64 y)),(7,V.d (D.int .i64 z)),(8,V.d (D.int .i64 u)),(9,V.d (D.int .i64 (IntKind.wrap .i64 (i+1))))],ob:=[(192,Obj.box [V.d (D.sl accSh na zas),V.d (D.sl mrkSh nm' ms)]),(256,Obj.box [V.d (D.str s),V.d (D.int .i64 fh),V.d (D.int .i64 fj),V.d (D.int .i64 fo),V.d (D.int .i64 kh),V.d (D.int .i64 kj),V.d (D.int .i64 ko)])] }) else bif fi 1 (ms.getD i.toNat .nilp)==1 then Tree.out (resume M2 (callN M2 (m+40)) n j 0 c148 { fr:=frame 93 [(2,V.ptr 192 0),(3,V.ptr 256 0),(5,V.d (D.int .i64 x)),(6,V.d (D.int .i64 (IntKind.wrap .i64 (y+fi 3 (ms.getD i.toNat .nilp))))),(7,V.d (D.int .i64 z)),(8,V.d (D.int .i64 u)),(9,V.d (D.int .i64 (IntKind.wrap .i64 (i+1))))],ob:=[(192,Obj.box [V.d (D.sl accSh na zas),V.d (D.sl mrkSh nm' ms)]),(256,Obj.box [V.d (D.str s),V.d (D.int .i64 fh),V.d (D.int .i64 fj),V.d (D.int .i64 fo),V.d (D.int .i64 kh),V.d (D.int .i64 kj),V.d (D.int .i64 ko)])] }) else bif fi 1 (ms.getD i.toNat .nilp)==2 then Tree.out (resume M2 (callN M2 (m+40)) n j 0 c148 { fr:=frame 93 [(2,V.ptr 192 0),(3,V.ptr 256 0),(5,V.d (D.int .i64 (IntKind.wrap .i64 (x+fi 3 (ms.getD i.toNat .nilp))))),(6,V.d (D.int .i64 y)),(7,V.d (D.int .i64 z)),(8,V.d (D.int .i64 u)),(9,V.d (D.int .i64 (IntKind.wrap .i64 (i+1))))],ob:=[(192,Obj.box [V.d (D.sl accSh na zas),V.d (D.sl mrkSh nm' ms)]),(256,Obj.box [V.d (D.str s),V.d (D.int .i64 fh),V.d (D.int .i64 fj),V.d (D.int .i64 fo),V.d (D.int .i64 kh),V.d (D.int .i64 kj),V.d (D.int .i64 ko)])] }) else bif fi 1 (ms.getD i.toNat .nilp)==3 then Tree.out (resume M2 (callN M2 (m+40)) n j 0 c148 { fr:=frame 93 [(2,V.ptr 192 0),(3,V.ptr 256 0),(5,V.d (D.int .i64 x)),(6,V.d (D.int .i64 (IntKind.wrap .i64 (y+fi 3 (ms.getD i.toNat .nilp))))),(7,V.d (D.int .i64 (IntKind.wrap .i64 (z+fi 3 (ms.getD i.toNat .nilp))))),(8,V.d (D.int .i64 u)),(9,V.d (D.int .i64 (IntKind.wrap .i64 (i+1))))],ob:=[(192,Obj.box [V.d (D.sl accSh na zas),V.d (D.sl mrkSh nm' ms)]),(256,Obj.box [V.d (D.str s),V.d (D.int .i64 fh),V.d (D.int .i64 fj),V.d (D.int .i64 fo),V.d (D.int .i64 kh),V.d (D.int .i64 kj),V.d (D.int .i64 ko)])] }) else bif fi 1 (ms.getD i.toNat .nilp)==4 then Tree.out (resume M2 (callN M2 (m+40)) n j 0 c148 { fr:=frame 93 [(2,V.ptr 192 0),(3,V.ptr 256 0),(5,V.d (D.int .i64 (IntKind.wrap .i64 (x+fi 3 (ms.getD i.toNat .nilp))))),(6,V.d (D.int .i64 y)),(7,V.d (D.int .i64 z)),(8,V.d (D.int .i64 (IntKind.wrap .i64 (u+fi 3 (ms.getD i.toNat .nilp))))),(9,V.d (D.int .i64 (IntKind.wrap .i64 (i+1))))],ob:=[(192,Obj.box [V.d (D.sl accSh na zas),V.d (D.sl mrkSh nm' ms)]),(256,Obj.box [V.d (D.str s),V.d (D.int .i64 fh),V.d (D.int .i64 fj),V.d (D.int .i64 fo),V.d (D.int .i64 kh),V.d (D.int .i64 kj),V.d (D.int .i64 ko)])] }) else Tree.out (resume M2 (callN M2 (m+40)) n j 0 c148 { fr:=frame 93 [(2,V.ptr 192 0),(3,V.ptr 256 0),(5,V.d (D.int .i64 x)),(6,V.d (D.int .i64 y)),(7,V.d (D.int .i64 z)),(8,V.d (D.int .i64 u)),(9,V.d (D.int .i64 (IntKind.wrap .i64 (i+1))))],ob:=[(192,Obj.box [V.d (D.sl accSh na zas),V.d (D.sl mrkSh nm' ms)]),(256,Obj.box [V.d (D.str s),V.d (D.int .i64 fh),V.d (D.int .i64 fj),V.d (D.int .i64 fo),V.d (D.int .i64 kh),V.d (D.int .i64 kj),V.d (D.int .i64 ko)])] }) else none else bif fj==x then bif fo==y then bif kj==z then some [D.bool (ko==u)] else some [D.bool false] else some [D.bool false] else some [D.bool false]:=by kernel_rfl
theorem e190(m n:Nat)(na:Bool)(zas:List D)(s:List UInt8):Tree.outG (enterM M2 (callN M2 (m+40)) n c208 [.d (.sl accSh na zas),.d (.str s),.fn 209 [] []] [])=Tree.outG (resume M2 (callN M2 (m+40)) n n 0 c208 { fr:=frame 49 [(0,V.d (D.sl accSh na zas)),(1,V.d (D.str s)),(2,V.fn 209 [] []),(8,V.d (D.int .i64 (zas.length:Int))),(9,V.d (D.int .i64 0)),(10,V.d (D.int .i64 (zas.length:Int)))],ob:=[] }):=by kernel_rfl
def s190(na:Bool)(zas:List D)(s:List UInt8)(i j:Int):St:= { fr:=frame 49 [(0,V.d (D.sl accSh na zas)),(1,V.d (D.str s)),(2,V.fn 209 [] []),(8,V.d (D.int .i64 (zas.length:Int))),(9,V.d (D.int .i64 i)),(10,V.d (D.int .i64 j))],ob:=[] }
theorem l190(m n f:Nat)(na:Bool)(zas:List D)(s:List UInt8)(i j:Int):Tree.outG (resume M2 (callN M2 (m+40)) n (f+1) 0 c208 (s190 na zas s i j))=bif decide (i<j) then bif decide (0≤IntKind.wrap .i64 (Int.fdiv (IntKind.wrap .u64 (IntKind.wrap .i64 (i+j))) 2)∧IntKind.wrap .i64 (Int.fdiv (IntKind.wrap .u64 (IntKind.wrap .i64 (i+j))) 2)<(zas.length:Int)) then bif decide (cmpB (fs 0 (List.getD zas (Int.toNat (IntKind.wrap .i64 (Int.fdiv (IntKind.wrap .u64 (IntKind.wrap .i64 (i+j))) 2))) D.nilp)) s<0) then Tree.outG (resume M2 (callN M2 (m+40)) n f 0 c208 { fr:=frame 49 [(0,V.d (D.sl accSh na zas)),(1,V.d (D.str s)),(2,V.fn 209 [] []),(8,V.d (D.int .i64 (zas.length:Int))),(9,V.d (D.int .i64 (IntKind.wrap .i64 (IntKind.wrap .i64 (Int.fdiv (IntKind.wrap .u64 (IntKind.wrap .i64 (i+j))) 2)+1)))),(10,V.d (D.int .i64 j))],ob:=[] }) else Tree.outG (resume M2 (callN M2 (m+40)) n f 0 c208 { fr:=frame 49 [(0,V.d (D.sl accSh na zas)),(1,V.d (D.str s)),(2,V.fn 209 [] []),(8,V.d (D.int .i64 (zas.length:Int))),(9,V.d (D.int .i64 i)),(10,V.d (D.int .i64 (IntKind.wrap .i64 (Int.fdiv (IntKind.wrap .u64 (IntKind.wrap .i64 (i+j))) 2))))],ob:=[] }) else none else bif decide (i<(zas.length:Int)) then bif decide (0≤i∧i<(zas.length:Int)) then some (V.tup [V.d (D.int .i64 i),V.d (D.bool (cmpB (fs 0 (zas.getD i.toNat .nilp)) s==0))],[]) else none else some (V.tup [V.d (D.int .i64 i),V.d (D.bool false)],[]):=by kernel_rfl
def nameIdx(s:List UInt8)(es:List D):Int:=idxOf (fun x=>fs 0 x==s) es
theorem run165(m n:Nat)(na nm':Bool)(zas ms:List D)(s:List UInt8)(hl:zas.length≤1000000)(hn:zas.length<n):(enterM M2 (callN M2 (m+40)) n c74 [.d (.agg [.sl accSh na zas,.sl mrkSh nm' ms]),.d (.str s)] []).out=some [.int .i64 (nameIdx s zas)]:=by
 rw [e165]
 have:=scan_loop (fun j i=>(resume M2 (callN M2 (m+40)) n j 0 c74 (s165 na nm' zas ms s (i:Nat))).out) zas.length (fun i=>fs 0 (zas.getD i .nilp)==s) (fun i=>[.int .i64 (i:Nat)]) [.int .i64 (-1)]
  (fun j i hi=> ?_) (fun j=> ?_) zas.length 0 n (by omega) (by omega)
 ·refine this.trans ?_
  rw [scan_map (fun b:Int=>[D.int .i64 b]),scan_idx0 (fun x=>fs 0 x==s) .nilp zas]
  rfl
 ·rw [l165]
  simp only [Int.toNat_natCast,wrap_up hi hl]
  refine (ct (dec_lt hi)).trans ((ct (dec_ix hi)).trans ?_)
  rfl
 ·rw [l165]
  exact cf (dec_end _)
theorem run168(m n:Nat)(na nm':Bool)(zas ms:List D)(s:List UInt8)(hl:ms.length≤1000000)(hn:ms.length<n):(enterM M2 (callN M2 (m+40)) n c160 [.d (.agg [.sl accSh na zas,.sl mrkSh nm' ms]),.d (.str s)] []).out=some [.int .i64 (nameIdx s ms)]:=by
 rw [e168]
 have:=scan_loop (fun j i=>(resume M2 (callN M2 (m+40)) n j 0 c160 (s165 na nm' zas ms s (i:Nat))).out) ms.length (fun i=>fs 0 (ms.getD i .nilp)==s) (fun i=>[.int .i64 (i:Nat)]) [.int .i64 (-1)]
  (fun j i hi=> ?_) (fun j=> ?_) ms.length 0 n (by omega) (by omega)
 ·refine this.trans ?_
  rw [scan_map (fun b:Int=>[D.int .i64 b]),scan_idx0 (fun x=>fs 0 x==s) .nilp ms]
  rfl
 ·rw [l168]
  simp only [Int.toNat_natCast,wrap_up hi hl]
  refine (ct (dec_lt hi)).trans ((ct (dec_ix hi)).trans ?_)
  rfl
 ·rw [l168]
  exact cf (dec_end _)
structure P4 where
 a:Int
 b:Int
 c:Int
 d:Int
abbrev wad(x y:Int):Int:=IntKind.wrap .i64 (x+y)
def refStep(s:List UInt8)(p:P4)(m:D):P4:=
 bif !(fs 2 m==s) then p else bif fi 4 m != 1 then p else bif fi 1 m==1 then ⟨p.a,wad p.b (fi 3 m),p.c,p.d⟩ else bif fi 1 m==2 then ⟨wad p.a (fi 3 m),p.b,p.c,p.d⟩ else
  bif fi 1 m==3 then ⟨p.a,wad p.b (fi 3 m),wad p.c (fi 3 m),p.d⟩ else bif fi 1 m==4 then ⟨wad p.a (fi 3 m),p.b,p.c,wad p.d (fi 3 m)⟩ else p
def refPots(s:List UInt8)(ms:List D):P4:=ms.foldl (refStep s) ⟨0,0,0,0⟩
def potsEq(p:P4)(fj fo kj ko:Int):Bool:=bif fj==p.a then bif fo==p.b then bif kj==p.c then ko==p.d else false else false else false
theorem loop167(m n:Nat)(na nm':Bool)(zas ms:List D)(s:List UInt8)(fh fj fo kh kj ko:Int)(hl:ms.length≤1000000): ∀k i j (p:P4),i+k=ms.length→k<j→p=(ms.take i).foldl (refStep s) ⟨0,0,0,0⟩→
  (resume M2 (callN M2 (m+40)) n j 0 c148 (s167 na nm' zas ms s fh fj fo kh kj ko p.a p.b p.c p.d (i:Nat))).out=some [.bool (potsEq (refPots s ms) fj fo kj ko)]:=by
 intro k
 induction k with
 | zero=>
  intro i j p hi hj hp
  cases j with
  | zero=>omega
  | succ j=>
   have:i=ms.length:=by omega
   subst this
   rw [List.take_length] at hp
   have hp:refPots s ms=p:=hp.symm
   rw [l167,hp]
   refine (cf (dec_end _)).trans ?_
   unfold potsEq
   cases (fj==p.a) <;> cases (fo==p.b) <;> cases (kj==p.c) <;> rfl
 | succ k ih=>
  intro i j p hi hj hp
  cases j with
  | zero=>omega
  | succ j=>
   have hlt:i<ms.length:=by omega
   have next:=ih (i+1) j (refStep s p (ms.getD i .nilp)) (by omega) (by omega) (by
    rw [List.take_add_one,List.getElem?_eq_getElem hlt,List.foldl_append,←hp,List.getD_eq_getElem?_getD,List.getElem?_eq_getElem hlt];rfl)
   rw [l167]
   simp only [Int.toNat_natCast,wrap_up hlt hl]
   refine (ct (dec_lt hlt)).trans ((ct (dec_ix hlt)).trans ?_)
   unfold refStep at next
   cases h1:(fs 2 (ms.getD i .nilp)==s)
   ·rw [h1] at next
    exact next
   ·rw [h1] at next
    cases h2:(fi 4 (ms.getD i .nilp) != 1)
    ·rw [h2] at next
     cases h3:(fi 1 (ms.getD i .nilp)==1)
     ·rw [h3] at next
      cases h4:(fi 1 (ms.getD i .nilp)==2)
      ·rw [h4] at next
       cases h5:(fi 1 (ms.getD i .nilp)==3)
       ·rw [h5] at next
        cases h6:(fi 1 (ms.getD i .nilp)==4)
        ·rw [h6] at next;exact next
        ·rw [h6] at next;exact next
       ·rw [h5] at next;exact next
      ·rw [h4] at next;exact next
     ·rw [h3] at next;exact next
    ·rw [h2] at next
     exact next
theorem run167(m n:Nat)(na nm':Bool)(zas ms:List D)(s:List UInt8)(fh fj fo kh kj ko:Int)(hl:ms.length≤1000000)(hn:ms.length<n):(enterM M2 (callN M2 (m+40)) n c148 [.d (.agg [.sl accSh na zas,.sl mrkSh nm' ms]),.d (.agg [.str s,.int .i64 fh,.int .i64 fj,.int .i64 fo,.int .i64 kh,.int .i64 kj,.int .i64 ko])] []).out=some [.bool (potsEq (refPots s ms) fj fo kj ko)]:=by
 rw [e167]
 exact loop167 m n na nm' zas ms s fh fj fo kh kj ko hl ms.length 0 n ⟨0,0,0,0⟩ (by omega) (by omega) rfl
def bsF(p:Nat→Bool):Nat→Nat→Nat→Nat
 | 0,i,_=>i
 | f+1,i,j=>bif decide (i<j) then bif p ((i+j) / 2) then bsF p f ((i+j) / 2+1) j else bsF p f i ((i+j) / 2) else i
theorem bsF_spec(p:Nat→Bool)(n:Nat)(hm: ∀a b,a≤b→b<n→p b=true→p a=true): ∀f i j,j - i≤f→i≤j→j≤n→(∀k,k<i→p k=true)→(∀k,j≤k→k<n→p k=false)→
  (bsF p f i j≤n∧(∀k,k<bsF p f i j→p k=true)∧ ∀k,bsF p f i j≤k→k<n→p k=false)
 | 0,i,j,hf,hij,hj,h1,h2=>by
  have:i=j:=by omega
  subst this
  exact ⟨by simp only [bsF];omega,h1,h2⟩
 | f+1,i,j,hf,hij,hj,h1,h2=>by
  simp only [bsF]
  by_cases hlt:i<j
  ·rw [decide_eq_true hlt,cond_true]
   cases hp:p ((i+j) / 2)
   ·rw [cond_false]
    refine bsF_spec p n hm f i ((i+j) / 2) (by omega) (by omega) (by omega) h1 fun k hk hkn=> ?_
    cases hpk:p k
    ·rfl
    ·rw [hm _ _ hk hkn hpk] at hp;cases hp
   ·rw [cond_true]
    refine bsF_spec p n hm f ((i+j) / 2+1) j (by omega) (by omega) hj (fun k hk=> ?_) h2
    exact hm k ((i+j) / 2) (by omega) (by omega) hp
  ·rw [decide_eq_false hlt,cond_false]
   have:i=j:=by omega
   subst this
   exact ⟨by omega,h1,h2⟩
theorem half{i j:Nat}(hi:i≤1000000)(hj:j≤1000000):IntKind.wrap .i64 (Int.fdiv (IntKind.wrap .u64 (IntKind.wrap .i64 ((i:Int)+(j:Int)))) 2)=(((i+j) / 2:Nat):Int):=by
 rw [wrap_i64 (n:=(i:Int)+(j:Int)) (by omega) (by omega),wrap_u64 (by omega) (by omega),Int.fdiv_eq_ediv_of_nonneg _ (by omega)]
 have:((i:Int)+(j:Int)) / 2=(((i+j) / 2:Nat):Int):=by omega
 rw [this,wrap_i64 (by omega) (by omega)]
def lessAt(s:List UInt8)(zas:List D)(i:Nat):Bool:=decide (cmpB (fs 0 (zas.getD i .nilp)) s<0)
def plc(s:List UInt8)(zas:List D):Nat:=bsF (lessAt s zas) zas.length 0 zas.length
def there(s:List UInt8)(zas:List D):Bool:=bif decide ((plc s zas:Int)<(zas.length:Int)) then cmpB (fs 0 (zas.getD (plc s zas) .nilp)) s==0 else false
theorem loop190(m n:Nat)(na:Bool)(zas:List D)(s:List UInt8)(hl:zas.length≤1000000): ∀f i j g,j - i≤f→f<g→i≤zas.length→j≤zas.length→
  (resume M2 (callN M2 (m+40)) n g 0 c208 (s190 na zas s (i:Nat) (j:Nat))).outG=some (.tup [.d (.int .i64 (bsF (lessAt s zas) f i j:Nat)),.d (.bool (bif decide ((bsF (lessAt s zas) f i j:Nat)<(zas.length:Int)) then cmpB (fs 0 (zas.getD (bsF (lessAt s zas) f i j) .nilp)) s==0 else false))],[]):=by
 intro f
 have stop: ∀i j g,¬i<j→0<g→(resume M2 (callN M2 (m+40)) n g 0 c208 (s190 na zas s (i:Nat) (j:Nat))).outG=some (.tup [.d (.int .i64 (i:Nat)),.d (.bool (bif decide (((i:Nat):Int)<(zas.length:Int)) then cmpB (fs 0 (zas.getD i .nilp)) s==0 else false))],[]):=by
  intro i j g hij hg
  cases g with
  | zero=>omega
  | succ g=>
   rw [l190]
   refine (cf (decide_eq_false (by omega))).trans ?_
   by_cases hi:i<zas.length
   ·simp only [Int.toNat_natCast]
    refine (ct (dec_lt hi)).trans ((ct (dec_ix hi)).trans ?_)
    rw [dec_lt hi];rfl
   ·have:decide ((i:Int)<(zas.length:Int))=false:=decide_eq_false (by omega)
    refine (cf this).trans ?_
    rw [this];rfl
 induction f with
 | zero=>
  intro i j g hf hg hi hj
  exact stop i j g (by omega) (by omega)
 | succ f ih=>
  intro i j g hf hg hi hj
  by_cases hij:i<j
  ·cases g with
   | zero=>omega
   | succ g=>
    have hh:=half (i:=i) (j:=j) (by omega) (by omega)
    rw [l190,hh]
    simp only [Int.toNat_natCast,wrap_up (show (i+j) / 2<zas.length by omega) hl]
    refine (ct (decide_eq_true (by omega))).trans ((ct (dec_ix (show (i+j) / 2<zas.length by omega))).trans ?_)
    have e:bsF (lessAt s zas) (f+1) i j=bif lessAt s zas ((i+j) / 2) then bsF (lessAt s zas) f ((i+j) / 2+1) j else bsF (lessAt s zas) f i ((i+j) / 2):=by
     simp only [bsF]
     rw [decide_eq_true hij];rfl
    cases hp:lessAt s zas ((i+j) / 2)
    ·have hp':decide (cmpB (fs 0 (zas.getD ((i+j) / 2) .nilp)) s<0)=false:=hp
     refine (cf hp').trans ?_
     rw [e,hp]
     exact ih i ((i+j) / 2) g (by omega) (by omega) hi (by omega)
    ·have hp':decide (cmpB (fs 0 (zas.getD ((i+j) / 2) .nilp)) s<0)=true:=hp
     refine (ct hp').trans ?_
     rw [e,hp]
     exact ih ((i+j) / 2+1) j g (by omega) (by omega) (by omega) hj
  ·rw [stop i j g hij (by omega)]
   have e:bsF (lessAt s zas) (f+1) i j=i:=by
    simp only [bsF]
    rw [decide_eq_false hij];rfl
   rw [e]
theorem run190(m n:Nat)(na:Bool)(zas:List D)(s:List UInt8)(hl:zas.length≤1000000)(hn:zas.length<n):(enterM M2 (callN M2 (m+40)) n c208 [.d (.sl accSh na zas),.d (.str s),.fn 209 [] []] []).outG=some (.tup [.d (.int .i64 (plc s zas:Nat)),.d (.bool (there s zas))],[]):=by
 rw [e190]
 exact loop190 m n na zas s hl zas.length 0 zas.length n (by omega) (by omega) (by omega) (by omega)
def C190(args:List V)(ob:Obs):Tree (V×Obs):=
 match args,ob with
 | [.d (.sl e _na zas),.d (.str s),.fn f [] []],[]=>match Sh.beq e accSh&&Nat.beq f 209 with
  | true=> .ite (decide (zas.length≤1000000)) (fun _=> .ret (.tup [.d (.int .i64 (plc s zas:Nat)),.d (.bool (there s zas))],[])) (fun _=> .stuck)
  | false=> .stuck
 | _,_=> .stuck
theorem fn190{P:Program}(hm:P.follows .mixedOrders=true)(h0:EnvOK P M2):FnOK P 208 C190:=FnOK.runG hm h0 fun args ob r h=>by
 unfold C190 at h
 split at h
 ·rename_i e na zas s f
  split at h
  ·rename_i hb
   simp only [Bool.and_eq_true] at hb
   have hb1:=Sh.beq_eq hb.1
   have hb2:=Nat.eq_of_beq_eq_true hb.2
   subst hb1 hb2
   obtain ⟨hg,h'⟩:=eval_guard h
   clear h
   simp only [decide_eq_true_eq] at hg
   cases h'
   exact ⟨(zas.length+40)+1,by rw [callN_succ (fn:=c208) rfl];exact run190 zas.length (zas.length+40) na zas s hg (by omega)⟩
  ·cases h
 ·cases h
def g165:List D→Tree (List D)
 | [.agg [.sl ea _na zas,.sl em _nm _ms],.str s]=>match Sh.beq ea accSh&&Sh.beq em mrkSh with
  | true=> .ite (decide (zas.length≤1000000)) (fun _=> .ret [.int .i64 (nameIdx s zas)]) (fun _=> .stuck)
  | false=> .stuck
 | _=> .stuck
theorem pure165{P:Program}(hm:P.follows .mixedOrders=true)(h0:EnvOK P M2):PureOK P 74 g165:=PureOK.run hm h0 fun ds rs h=>by
 unfold g165 at h
 split at h
 ·rename_i ea na zas em nm ms s
  split at h
  ·rename_i hb
   simp only [Bool.and_eq_true] at hb
   obtain ⟨hb0,hb1⟩:=hb
   have hb0:=Sh.beq_eq hb0
   have hb1:=Sh.beq_eq hb1
   subst hb0 hb1
   obtain ⟨hg,h'⟩:=eval_guard h
   clear h
   simp only [decide_eq_true_eq] at hg
   cases h'
   exact ⟨(zas.length+40)+1,by rw [callN_succ (fn:=c74) rfl];exact run165 zas.length (zas.length+40) na nm zas ms s hg (by omega)⟩
  ·cases h
 ·cases h
def g168:List D→Tree (List D)
 | [.agg [.sl ea _na _as,.sl em _nm ms],.str s]=>match Sh.beq ea accSh&&Sh.beq em mrkSh with
  | true=> .ite (decide (ms.length≤1000000)) (fun _=> .ret [.int .i64 (nameIdx s ms)]) (fun _=> .stuck)
  | false=> .stuck
 | _=> .stuck
theorem pure168{P:Program}(hm:P.follows .mixedOrders=true)(h0:EnvOK P M2):PureOK P 160 g168:=PureOK.run hm h0 fun ds rs h=>by
 unfold g168 at h
 split at h
 ·rename_i ea na zas em nm ms s
  split at h
  ·rename_i hb
   simp only [Bool.and_eq_true] at hb
   obtain ⟨hb0,hb1⟩:=hb
   have hb0:=Sh.beq_eq hb0
   have hb1:=Sh.beq_eq hb1
   subst hb0 hb1
   obtain ⟨hg,h'⟩:=eval_guard h
   clear h
   simp only [decide_eq_true_eq] at hg
   cases h'
   exact ⟨(ms.length+40)+1,by rw [callN_succ (fn:=c160) rfl];exact run168 ms.length (ms.length+40) na nm zas ms s hg (by omega)⟩
  ·cases h
 ·cases h
def g167:List D→Tree (List D)
 | [.agg [.sl ea _na _as,.sl em _nm ms],.agg [.str s,.int .i64 _fh,.int .i64 fj,.int .i64 fo,.int .i64 _kh,.int .i64 kj,.int .i64 ko]]=>match Sh.beq ea accSh&&Sh.beq em mrkSh with
  | true=> .ite (decide (ms.length≤1000000)) (fun _=> .ret [.bool (potsEq (refPots s ms) fj fo kj ko)]) (fun _=> .stuck)
  | false=> .stuck
 | _=> .stuck
theorem pure167{P:Program}(hm:P.follows .mixedOrders=true)(h0:EnvOK P M2):PureOK P 148 g167:=PureOK.run hm h0 fun ds rs h=>by
 unfold g167 at h
 split at h
 ·rename_i ea na zas em nm ms s fh fj fo kh kj ko
  split at h
  ·rename_i hb
   simp only [Bool.and_eq_true] at hb
   obtain ⟨hb0,hb1⟩:=hb
   have hb0:=Sh.beq_eq hb0
   have hb1:=Sh.beq_eq hb1
   subst hb0 hb1
   obtain ⟨hg,h'⟩:=eval_guard h
   clear h
   simp only [decide_eq_true_eq] at hg
   cases h'
   exact ⟨(ms.length+40)+1,by rw [callN_succ (fn:=c148) rfl];exact run167 ms.length (ms.length+40) na nm zas ms s fh fj fo kh kj ko hg (by omega)⟩
  ·cases h
 ·cases h
def M3:Env:=(((M2.pureAt 74 true g165).pureAt 160 true g168).pureAt 148 true g167).genAt 208 C190
theorem okM3{P:Program}(hm:P.follows .mixedOrders=true)(h:EnvOK P M2):EnvOK P M3:=(((h.pureAt (pure165 hm h)).pureAt (pure168 hm h)).pureAt (pure167 hm h)).genAt (fn190 hm h)
abbrev i4Sh:Sh:= .agg [.int .i64,.int .i64,.int .i64,.int .i64]
abbrev z4:D:= .agg [.int .i64 0,.int .i64 0,.int .i64 0,.int .i64 0]
theorem e155(m n:Nat)(na nm':Bool)(zas ms:List D)(s:List UInt8):Tree.out (enterM M3 (callN M3 (m+40)) n c134 [.d (.agg [.sl accSh na zas,.sl mrkSh nm' ms]),.d (.str s)] [])=bif decide (zas.length≤1000000) then some [D.int .i64 (↑(plc s zas):Int),D.bool (there s zas)] else none:=by kernel_rfl
theorem e158(m n:Nat)(na nm':Bool)(zas ms:List D):Tree.eval (enterM M3 (callN M3 (m+40)) n c142 [.d (.agg [.sl accSh na zas,.sl mrkSh nm' ms])] [])=Tree.eval (resume M3 (callN M3 (m+40)) n n 0 c142 { fr:=frame 64 [(3,V.mp 640),(11,V.d (D.sl mrkSh nm' ms)),(12,V.d (D.int .i64 (ms.length:Int))),(13,V.d (D.int .i64 0))],ob:=[(128,Obj.box [V.d (D.sl accSh na zas),V.d (D.sl mrkSh nm' ms)]),(640,AM.Obj.map Sh.str i4Sh [])] }):=by kernel_rfl
def s158(na nm':Bool)(zas ms:List D)(kv:List (D×D))(i:Int):St:= { fr:=frame 64 [(3,V.mp 640),(11,V.d (D.sl mrkSh nm' ms)),(12,V.d (D.int .i64 (ms.length:Int))),(13,V.d (D.int .i64 i))],ob:=[(128,.box [V.d (D.sl accSh na zas),V.d (D.sl mrkSh nm' ms)]),(640,AM.Obj.map Sh.str i4Sh kv)] }
theorem l158(m n j:Nat)(na nm':Bool)(zas ms:List D)(kv:List (D×D))(i:Int):Go.AM.Tree.eval (resume M3 (callN M3 (m+40)) n (j+1) 0 c142 (s158 na nm' zas ms kv i))=bif decide (i<(↑(List.length ms):Int)) then bif decide ((0:Int)≤i∧i<(↑(List.length ms):Int)) then bif fi (4:Nat) (List.getD ms (Int.toNat i) D.nilp) != (1:Int) then @Tree.eval (V×Obs) (resume M3 (callN M3 (m+(40:Nat))) n j (0:Nat) c142 { fr:=frame (64:Nat) [((3:Nat),V.mp (640:Nat)),((11:Nat),V.d (D.sl mrkSh nm' ms)),((12:Nat),V.d (D.int IntKind.i64 (↑(List.length ms):Int))),((13:Nat),V.d (D.int IntKind.i64 (IntKind.wrap IntKind.i64 (i+(1:Int)))))],ob:=[((128:Nat),Obj.box [V.d (D.sl accSh na zas),V.d (D.sl mrkSh nm' ms)]),((640:Nat),AM.Obj.map Sh.str i4Sh kv)] }) else @Tree.eval (V×Obs) (resume M3 (callN M3 (m+(40:Nat))) n j (0:Nat) c142 { fr:=frame (64:Nat) [((3:Nat),V.mp (640:Nat)),((11:Nat),V.d (D.sl mrkSh nm' ms)),((12:Nat),V.d (D.int IntKind.i64 (↑(List.length ms):Int))),((13:Nat),V.d (D.int IntKind.i64 (IntKind.wrap IntKind.i64 (i+(1:Int)))))],ob:=[((128:Nat),Obj.box [V.d (D.sl accSh na zas),V.d (D.sl mrkSh nm' ms)]),((640:Nat),AM.Obj.map Sh.str i4Sh (kvSet (D.str (fs (2:Nat) (List.getD ms (Int.toNat i) D.nilp))) (D.agg [D.int IntKind.i64 (IntKind.wrap IntKind.i64 (fi (0:Nat) (kvGet (D.str (fs (2:Nat) (List.getD ms (Int.toNat i) D.nilp))) (D.agg [D.int IntKind.i64 (0:Int),D.int IntKind.i64 (0:Int),D.int IntKind.i64 (0:Int),D.int IntKind.i64 (0:Int)]) kv)+if (0:Int) > dFree (fi (1:Nat) (List.getD ms (Int.toNat i) D.nilp)) (fi (3:Nat) (List.getD ms (Int.toNat i) D.nilp)) (fs (2:Nat) (List.getD ms (Int.toNat i) D.nilp)) then (0:Int) else dFree (fi (1:Nat) (List.getD ms (Int.toNat i) D.nilp)) (fi (3:Nat) (List.getD ms (Int.toNat i) D.nilp)) (fs (2:Nat) (List.getD ms (Int.toNat i) D.nilp)))),D.int IntKind.i64 (IntKind.wrap IntKind.i64 (fi (1:Nat) (kvGet (D.str (fs (2:Nat) (List.getD ms (Int.toNat i) D.nilp))) (D.agg [D.int IntKind.i64 (0:Int),D.int IntKind.i64 (0:Int),D.int IntKind.i64 (0:Int),D.int IntKind.i64 (0:Int)]) kv)+if (0:Int) > IntKind.wrap IntKind.i64 ((0:Int) - dFree (fi (1:Nat) (List.getD ms (Int.toNat i) D.nilp)) (fi (3:Nat) (List.getD ms (Int.toNat i) D.nilp)) (fs (2:Nat) (List.getD ms (Int.toNat i) D.nilp))) then (0:Int) else IntKind.wrap IntKind.i64 ((0:Int) - dFree (fi (1:Nat) (List.getD ms (Int.toNat i) D.nilp)) (fi (3:Nat) (List.getD ms (Int.toNat i) D.nilp)) (fs (2:Nat) (List.getD ms (Int.toNat i) D.nilp))))),D.int IntKind.i64 (IntKind.wrap IntKind.i64 (fi (2:Nat) (kvGet (D.str (fs (2:Nat) (List.getD ms (Int.toNat i) D.nilp))) (D.agg [D.int IntKind.i64 (0:Int),D.int IntKind.i64 (0:Int),D.int IntKind.i64 (0:Int),D.int IntKind.i64 (0:Int)]) kv)+if (0:Int) > dKept (fi (1:Nat) (List.getD ms (Int.toNat i) D.nilp)) (fi (3:Nat) (List.getD ms (Int.toNat i) D.nilp)) (fs (2:Nat) (List.getD ms (Int.toNat i) D.nilp)) then (0:Int) else dKept (fi (1:Nat) (List.getD ms (Int.toNat i) D.nilp)) (fi (3:Nat) (List.getD ms (Int.toNat i) D.nilp)) (fs (2:Nat) (List.getD ms (Int.toNat i) D.nilp)))),D.int IntKind.i64 (IntKind.wrap IntKind.i64 (fi (3:Nat) (kvGet (D.str (fs (2:Nat) (List.getD ms (Int.toNat i) D.nilp))) (D.agg [D.int IntKind.i64 (0:Int),D.int IntKind.i64 (0:Int),D.int IntKind.i64 (0:Int),D.int IntKind.i64 (0:Int)]) kv)+if (0:Int) > IntKind.wrap IntKind.i64 ((0:Int) - dKept (fi (1:Nat) (List.getD ms (Int.toNat i) D.nilp)) (fi (3:Nat) (List.getD ms (Int.toNat i) D.nilp)) (fs (2:Nat) (List.getD ms (Int.toNat i) D.nilp))) then (0:Int) else IntKind.wrap IntKind.i64 ((0:Int) - dKept (fi (1:Nat) (List.getD ms (Int.toNat i) D.nilp)) (fi (3:Nat) (List.getD ms (Int.toNat i) D.nilp)) (fs (2:Nat) (List.getD ms (Int.toNat i) D.nilp)))))]) kv))] }) else none else some (V.mp (640:Nat),[((128:Nat),Obj.box [V.d (D.sl accSh na zas),V.d (D.sl mrkSh nm' ms)]),((640:Nat),AM.Obj.map Sh.str i4Sh kv)]):=by kernel_rfl
theorem e114(m n:Nat)(na nm':Bool)(zas ms:List D):Tree.out (enterM M3 (callN M3 (m+40)) n c81 [.d (.agg [.sl accSh na zas,.sl mrkSh nm' ms])] [])=bif decide (12<(zas.length:Int)) then some [D.int .i64 2] else bif decide (500<(ms.length:Int)) then some [D.int .i64 2] else Tree.out (resume M3 (callN M3 (m+40)) n n 0 c81 { fr:=frame 108 [(1,V.ptr 128 0),(3,V.d (D.int .i64 0))],ob:=[(128,Obj.box [V.d (D.sl accSh na zas),V.d (D.sl mrkSh nm' ms)])] }):=by kernel_rfl
def s114a(na nm':Bool)(zas ms:List D)(i:Int):St:= { fr:=frame 108 [(1,V.ptr 128 0),(3,V.d (D.int .i64 i))],ob:=[(128,.box [V.d (D.sl accSh na zas),V.d (D.sl mrkSh nm' ms)])] }
theorem l114(m n j:Nat)(na nm':Bool)(zas ms:List D)(i:Int):Tree.out (resume M3 (callN M3 (m+40)) n (j+1) 0 c81 (s114a na nm' zas ms i))=bif decide (i<(ms.length:Int)) then bif decide (0≤i∧i<(ms.length:Int)) then bif !ledKey (fs 0 (ms.getD i.toNat .nilp)) then some [D.int .i64 2] else bif (bif actOk (fi 1 (ms.getD i.toNat .nilp)) (fi 3 (ms.getD i.toNat .nilp)) (fs 2 (ms.getD i.toNat .nilp)) then (0:Int) else (60:Int)) != 0 then some [D.int .i64 2] else bif decide (fi 4 (ms.getD i.toNat .nilp)<1) then some [D.int .i64 2] else bif decide (3<fi 4 (ms.getD i.toNat .nilp)) then some [D.int .i64 2] else bif decide (zas.length≤1000000) then bif decide (nameIdx (fs 2 (ms.getD i.toNat .nilp)) zas<0) then some [D.int .i64 2] else bif decide (0<i) then bif decide (0≤IntKind.wrap .i64 (i - 1)∧IntKind.wrap .i64 (i - 1)<(ms.length:Int)) then bif !Op.bytesLess (fs 0 (List.getD ms (Int.toNat (IntKind.wrap .i64 (i - 1))) D.nilp)) (fs 0 (ms.getD i.toNat .nilp)) then some [D.int .i64 2] else Tree.out (resume M3 (callN M3 (m+40)) n j 0 c81 { fr:=frame 108 [(1,V.ptr 128 0),(3,V.d (D.int .i64 (IntKind.wrap .i64 (i+1))))],ob:=[(128,Obj.box [V.d (D.sl accSh na zas),V.d (D.sl mrkSh nm' ms)])] }) else none else Tree.out (resume M3 (callN M3 (m+40)) n j 0 c81 { fr:=frame 108 [(1,V.ptr 128 0),(3,V.d (D.int .i64 (IntKind.wrap .i64 (i+1))))],ob:=[(128,Obj.box [V.d (D.sl accSh na zas),V.d (D.sl mrkSh nm' ms)])] }) else none else none else Tree.out (resume M3 (callN M3 (m+40)) n n 1 c81 { fr:=frame 108 [(1,V.ptr 128 0),(5,V.d (D.int .i64 0))],ob:=[(128,Obj.box [V.d (D.sl accSh na zas),V.d (D.sl mrkSh nm' ms)])] }):=by kernel_rfl
def s114b(na nm':Bool)(zas ms:List D)(i:Int):St:= { fr:=frame 108 [(1,V.ptr 128 0),(5,V.d (D.int .i64 i))],ob:=[(128,.box [V.d (D.sl accSh na zas),V.d (D.sl mrkSh nm' ms)])] }
theorem l114b(m n j:Nat)(na nm':Bool)(zas ms:List D)(i:Int):Tree.out (resume M3 (callN M3 (m+40)) n (j+1) 1 c81 (s114b na nm' zas ms i))=bif decide (i<(zas.length:Int)) then bif decide (0≤i∧i<(zas.length:Int)) then bif (bif accOk (fs 0 (zas.getD i.toNat .nilp)) (fi 1 (zas.getD i.toNat .nilp)) (fi 2 (zas.getD i.toNat .nilp)) (fi 3 (zas.getD i.toNat .nilp)) (fi 4 (zas.getD i.toNat .nilp)) (fi 5 (zas.getD i.toNat .nilp)) (fi 6 (zas.getD i.toNat .nilp)) then (0:Int) else (2:Int)) != 0 then some [D.int .i64 2] else bif decide (0<i) then bif decide (0≤IntKind.wrap .i64 (i - 1)∧IntKind.wrap .i64 (i - 1)<(zas.length:Int)) then bif !Op.bytesLess (fs 0 (List.getD zas (Int.toNat (IntKind.wrap .i64 (i - 1))) D.nilp)) (fs 0 (zas.getD i.toNat .nilp)) then some [D.int .i64 2] else bif decide (ms.length≤1000000) then bif !potsEq (refPots (fs 0 (zas.getD i.toNat .nilp)) ms) (fi 2 (zas.getD i.toNat .nilp)) (fi 3 (zas.getD i.toNat .nilp)) (fi 5 (zas.getD i.toNat .nilp)) (fi 6 (zas.getD i.toNat .nilp)) then some [D.int .i64 2] else Tree.out (resume M3 (callN M3 (m+40)) n j 1 c81 { fr:=frame 108 [(1,V.ptr 128 0),(5,V.d (D.int .i64 (IntKind.wrap .i64 (i+1))))],ob:=[(128,Obj.box [V.d (D.sl accSh na zas),V.d (D.sl mrkSh nm' ms)])] }) else none else none else bif decide (ms.length≤1000000) then bif !potsEq (refPots (fs 0 (zas.getD i.toNat .nilp)) ms) (fi 2 (zas.getD i.toNat .nilp)) (fi 3 (zas.getD i.toNat .nilp)) (fi 5 (zas.getD i.toNat .nilp)) (fi 6 (zas.getD i.toNat .nilp)) then some [D.int .i64 2] else Tree.out (resume M3 (callN M3 (m+40)) n j 1 c81 { fr:=frame 108 [(1,V.ptr 128 0),(5,V.d (D.int .i64 (IntKind.wrap .i64 (i+1))))],ob:=[(128,Obj.box [V.d (D.sl accSh na zas),V.d (D.sl mrkSh nm' ms)])] }) else none else none else some [D.int .i64 0]:=by kernel_rfl
def prevLess(es:List D)(i:Nat):Bool:=decide (i=0)||Op.bytesLess (fs 0 (es.getD (i - 1) .nilp)) (fs 0 (es.getD i .nilp))
theorem wrap_pred{i:Nat}(h:0<i)(hi:i≤1000000):IntKind.wrap .i64 ((i:Int) - 1)=((i - 1:Nat):Int):=by
 rw [wrap_i64 (by omega) (by omega)];omega
theorem ord_at{es:List D}{i:Nat}(hi:i<es.length)(hl:es.length≤1000000)(a b:Option (List D)):
  (bif decide (0<(i:Int)) then bif decide (0≤IntKind.wrap .i64 ((i:Int) - 1)∧IntKind.wrap .i64 ((i:Int) - 1)<(es.length:Int)) then bif !Op.bytesLess (fs 0 (es.getD (Int.toNat (IntKind.wrap .i64 ((i:Int) - 1))) .nilp)) (fs 0 (es.getD i .nilp)) then a else b else none else b)=bif prevLess es i then b else a:=by
 unfold prevLess
 by_cases h0:i=0
 ·subst h0
  refine (cf (decide_eq_false (by omega))).trans ?_
  rfl
 ·rw [decide_eq_false h0,wrap_pred (by omega) (by omega)]
  refine (ct (decide_eq_true (by omega))).trans ?_
  refine (ct (dec_ix (show i - 1<es.length by omega))).trans ?_
  rw [Int.toNat_natCast]
  cases Op.bytesLess (fs 0 (es.getD (i - 1) .nilp)) (fs 0 (es.getD i .nilp)) <;> rfl
def allN(p:Nat→Bool)(n:Nat):Bool:=scan (fun i=> !p i) (fun _=>false) true n 0
theorem allN_iff{p:Nat→Bool}{n:Nat}:allN p n=true↔ ∀i,i<n→p i=true:=by
 unfold allN
 rw [scan_all]
 exact ⟨fun h i hi=>h i (by omega) (by omega),fun h i _ hi=>h i (by omega)⟩
def mkOkAt(zas ms:List D)(i:Nat):Bool:=ledKey (fs 0 (ms.getD i .nilp))&&(actOk (fi 1 (ms.getD i .nilp)) (fi 3 (ms.getD i .nilp)) (fs 2 (ms.getD i .nilp))&&(!decide (fi 4 (ms.getD i .nilp)<1)&&(!decide (3<fi 4 (ms.getD i .nilp))&&
 (!decide (nameIdx (fs 2 (ms.getD i .nilp)) zas<0)&&prevLess ms i))))
def acOkAt(zas ms:List D)(i:Nat):Bool:=accOk (fs 0 (zas.getD i .nilp)) (fi 1 (zas.getD i .nilp)) (fi 2 (zas.getD i .nilp)) (fi 3 (zas.getD i .nilp)) (fi 4 (zas.getD i .nilp)) (fi 5 (zas.getD i .nilp)) (fi 6 (zas.getD i .nilp))&&(prevLess zas i&&
 potsEq (refPots (fs 0 (zas.getD i .nilp)) ms) (fi 2 (zas.getD i .nilp)) (fi 3 (zas.getD i .nilp)) (fi 5 (zas.getD i .nilp)) (fi 6 (zas.getD i .nilp)))
def ledOk(zas ms:List D):Bool:= !decide (12<(zas.length:Int))&&(!decide (500<(ms.length:Int))&&(allN (mkOkAt zas ms) ms.length&&allN (acOkAt zas ms) zas.length))
theorem scan_bool(p:Nat→Bool)(x y:Int)(n:Nat):scan (fun i=> !p i) (fun _=>[D.int .i64 x]) [D.int .i64 y] n 0=[D.int .i64 (bif allN p n then y else x)]:=by
 unfold allN
 have: ∀k i,scan (fun i=> !p i) (fun _=>[D.int .i64 x]) [D.int .i64 y] k i=[D.int .i64 (bif scan (fun i=> !p i) (fun _=>false) true k i then y else x)]:=by
  intro k
  induction k with
  | zero=>intro i;rfl
  | succ k ih=>
   intro i
   simp only [scan]
   cases p i
   ·rfl
   ·exact ih (i+1)
 exact this n 0
theorem loop114b(m n:Nat)(na nm':Bool)(zas ms:List D)(hl:zas.length≤1000000)(hm:ms.length≤1000000)(hn:zas.length<n):(resume M3 (callN M3 (m+40)) n n 1 c81 (s114b na nm' zas ms 0)).out=some [.int .i64 (bif allN (acOkAt zas ms) zas.length then 0 else 2)]:=by
 have:=scan_loop (fun j i=>(resume M3 (callN M3 (m+40)) n j 1 c81 (s114b na nm' zas ms (i:Nat))).out) zas.length (fun i=> !acOkAt zas ms i) (fun _=>[D.int .i64 2]) [.int .i64 0]
  (fun j i hi=> ?_) (fun j=> ?_) zas.length 0 n (by omega) (by omega)
 ·refine this.trans ?_
  rw [scan_bool]
 ·rw [l114b]
  simp only [Int.toNat_natCast,wrap_up hi hl]
  refine (ct (dec_lt hi)).trans ((ct (dec_ix hi)).trans ?_)
  rw [decide_eq_true hm,ord_at hi hl]
  unfold acOkAt
  cases accOk (fs 0 (zas.getD i .nilp)) (fi 1 (zas.getD i .nilp)) (fi 2 (zas.getD i .nilp)) (fi 3 (zas.getD i .nilp)) (fi 4 (zas.getD i .nilp)) (fi 5 (zas.getD i .nilp)) (fi 6 (zas.getD i .nilp))
  ·rfl
  ·cases prevLess zas i
   ·rfl
   ·cases potsEq (refPots (fs 0 (zas.getD i .nilp)) ms) (fi 2 (zas.getD i .nilp)) (fi 3 (zas.getD i .nilp)) (fi 5 (zas.getD i .nilp)) (fi 6 (zas.getD i .nilp)) <;> rfl
 ·rw [l114b]
  exact cf (dec_end _)
theorem run114(m n:Nat)(na nm':Bool)(zas ms:List D)(hn:600≤n):(enterM M3 (callN M3 (m+40)) n c81 [.d (.agg [.sl accSh na zas,.sl mrkSh nm' ms])] []).out=some [.int .i64 (bif ledOk zas ms then 0 else 2)]:=by
 rw [e114]
 unfold ledOk
 by_cases h1:12<(zas.length:Int)
 ·rw [decide_eq_true h1];rfl
 ·rw [decide_eq_false h1]
  refine (cf rfl).trans ?_
  by_cases h2:500<(ms.length:Int)
  ·rw [decide_eq_true h2];rfl
  ·rw [decide_eq_false h2]
   refine (cf rfl).trans ?_
   have hb:=loop114b m n na nm' zas ms (by omega) (by omega) (by omega)
   have:=scan_loop (fun j i=>(resume M3 (callN M3 (m+40)) n j 0 c81 (s114a na nm' zas ms (i:Nat))).out) ms.length (fun i=> !mkOkAt zas ms i) (fun _=>[D.int .i64 2]) [.int .i64 (bif allN (acOkAt zas ms) zas.length then 0 else 2)]
    (fun j i hi=> ?_) (fun j=> ?_) ms.length 0 n (by omega) (by omega)
   ·refine this.trans ?_
    rw [scan_bool]
    cases allN (mkOkAt zas ms) ms.length <;> cases allN (acOkAt zas ms) zas.length <;> rfl
   ·rw [l114]
    simp only [Int.toNat_natCast,wrap_up hi (show ms.length≤1000000 by omega)]
    refine (ct (dec_lt hi)).trans ((ct (dec_ix hi)).trans ?_)
    rw [decide_eq_true (show zas.length≤1000000 by omega),ord_at hi (show ms.length≤1000000 by omega)]
    unfold mkOkAt
    cases ledKey (fs 0 (ms.getD i .nilp))
    ·rfl
    ·cases actOk (fi 1 (ms.getD i .nilp)) (fi 3 (ms.getD i .nilp)) (fs 2 (ms.getD i .nilp))
     ·rfl
     ·cases decide (fi 4 (ms.getD i .nilp)<1)
      ·cases decide (3<fi 4 (ms.getD i .nilp))
       ·cases decide (nameIdx (fs 2 (ms.getD i .nilp)) zas<0)
        ·cases prevLess ms i <;> rfl
        ·rfl
       ·rfl
      ·rfl
   ·rw [l114]
    exact (cf (dec_end _)).trans hb
theorem run155(m n:Nat)(na nm':Bool)(zas ms:List D)(s:List UInt8)(hl:zas.length≤1000000):(enterM M3 (callN M3 (m+40)) n c134 [.d (.agg [.sl accSh na zas,.sl mrkSh nm' ms]),.d (.str s)] []).out=some [.int .i64 (plc s zas:Nat),.bool (there s zas)]:=by
 rw [e155]
 exact ct (decide_eq_true hl)
theorem less_irr: ∀a:List UInt8,Op.bytesLess a a=false
 | []=>rfl
 | x :: a=>by
  simp only [Op.bytesLess,less_irr a]
  simp
theorem less_trans: ∀{a b c:List UInt8},Op.bytesLess a b=true→Op.bytesLess b c=true→Op.bytesLess a c=true
 | [],[],_,h,_=>by simp [Op.bytesLess] at h
 | [],_ :: _,[],_,h=>by simp [Op.bytesLess] at h
 | [],_ :: _,_ :: _,_,_=>by simp [Op.bytesLess]
 | _ :: _,[],_,h,_=>by simp [Op.bytesLess] at h
 | _ :: _,_ :: _,[],_,h=>by simp [Op.bytesLess] at h
 | x :: a,y :: b,z :: c,h1,h2=>by
  simp only [Op.bytesLess,Bool.or_eq_true,Bool.and_eq_true,decide_eq_true_eq,beq_iff_eq] at h1 h2 ⊢
  rcases h1 with h1 | ⟨rfl,h1⟩
  ·rcases h2 with h2 | ⟨rfl,h2⟩
   ·exact .inl (UInt8.lt_trans h1 h2)
   ·exact .inl h1
  ·rcases h2 with h2 | ⟨rfl,h2⟩
   ·exact .inl h2
   ·exact .inr ⟨rfl,less_trans h1 h2⟩
theorem cmp_neg{a b:List UInt8}:cmpB a b<0↔Op.bytesLess a b=true:=by
 unfold cmpB
 by_cases h:a=b
 ·subst h
  rw [beq_self_eq_true,less_irr];simp
 ·rw [beq_eq_false_iff_ne.2 h]
  cases Op.bytesLess a b <;> simp
theorem cmp_zero{a b:List UInt8}:(cmpB a b==0)=(a==b):=by
 unfold cmpB
 cases (a==b)
 ·cases Op.bytesLess a b <;> rfl
 ·rfl
def Rising(es:List D):Prop:= ∀i,i<es.length→prevLess es i=true
theorem rising_lt{es:List D}(h:Rising es): ∀{d a:Nat},a+d+1<es.length→Op.bytesLess (fs 0 (es.getD a .nilp)) (fs 0 (es.getD (a+d+1) .nilp))=true
 | 0,a,hd=>by
  have:=h (a+1) hd
  unfold prevLess at this
  rw [decide_eq_false (by omega)] at this
  simpa using this
 | d+1,a,hd=>by
  have h1:=rising_lt h (d:=d) (a:=a) (by omega)
  have h2:=h (a+(d+1)+1) hd
  unfold prevLess at h2
  rw [decide_eq_false (by omega),Bool.false_or] at h2
  exact less_trans h1 h2
theorem rising_mono{es:List D}(h:Rising es)(s:List UInt8)(a b:Nat)(hab:a≤b)(hb:b<es.length)(hp:lessAt s es b=true):lessAt s es a=true:=by
 unfold lessAt at hp ⊢
 rw [decide_eq_true_eq,cmp_neg] at hp ⊢
 by_cases he:a=b
 ·rw [he];exact hp
 ·have:=rising_lt h (d:=b - a - 1) (a:=a) (by omega)
  rw [show a+(b - a - 1)+1=b by omega] at this
  exact less_trans this hp
theorem there_iff{es:List D}(h:Rising es)(s:List UInt8):there s es=true↔ ∃i,i<es.length∧fs 0 (es.getD i .nilp)=s:=by
 obtain ⟨h1,h2,h3⟩:=bsF_spec (lessAt s es) es.length (rising_mono h s) es.length 0 es.length (by omega) (by omega) (by omega) (fun k hk=>by omega) (fun k h1 h2=>by omega)
 unfold there
 constructor
 ·intro ht
  by_cases hlt:plc s es<es.length
  ·rw [dec_lt hlt,cond_true,cmp_zero,beq_iff_eq] at ht
   exact ⟨_,hlt,ht⟩
  ·rw [decide_eq_false (by omega)] at ht;cases ht
 ·rintro ⟨i,hi,rfl⟩
  have hle:plc (fs 0 (es.getD i .nilp)) es≤i:=by
   by_cases hc:i<plc (fs 0 (es.getD i .nilp)) es
   ·have:=h2 i hc
    unfold lessAt at this
    rw [decide_eq_true_eq,cmp_neg,less_irr] at this;cases this
   ·omega
  have hlt:plc (fs 0 (es.getD i .nilp)) es<es.length:=by omega
  rw [dec_lt hlt,cond_true,cmp_zero,beq_iff_eq]
  by_cases he:plc (fs 0 (es.getD i .nilp)) es=i
  ·rw [he]
  ·have hp:=h3 _ (Nat.le_refl _) hlt
   unfold lessAt at hp
   rw [decide_eq_false_iff_not,cmp_neg] at hp
   have:=rising_lt h (d:=i - plc (fs 0 (es.getD i .nilp)) es - 1) (a:=plc (fs 0 (es.getD i .nilp)) es) (by omega)
   rw [show plc (fs 0 (es.getD i .nilp)) es+(i - plc (fs 0 (es.getD i .nilp)) es - 1)+1=i by omega] at this
   exact absurd this hp
theorem idx_iff{es:List D}{s:List UInt8}:0≤nameIdx s es↔ ∃i,i<es.length∧fs 0 (es.getD i .nilp)=s:=by
 have:=idxOf_nonneg (fun x=>fs 0 x==s) es
 unfold nameIdx
 rw [←decide_eq_true_eq (p:=0≤idxOf _ es),this,any_iff]
 simp only [beq_iff_eq]
theorem there_idx{es:List D}(h:Rising es)(s:List UInt8):there s es= !decide (nameIdx s es<0):=by
 rw [Bool.eq_iff_iff,there_iff h,←idx_iff]
 simp
def g155:List D→Tree (List D)
 | [.agg [.sl ea _ zas,.sl em _ _],.str s]=>match Sh.beq ea accSh&&Sh.beq em mrkSh with
  | true=> .ite (decide (zas.length≤1000000)) (fun _=> .ret [.int .i64 (plc s zas:Nat),.bool (there s zas)]) (fun _=> .stuck)
  | false=> .stuck
 | _=> .stuck
def pendStep(kv:List (D×D))(x:D):List (D×D):=
 bif fi 4 x != 1 then kv else kvSet (.str (fs 2 x)) (.agg [.int .i64 (IntKind.wrap .i64 (fi 0 (kvGet (.str (fs 2 x)) z4 kv)+if 0 > dFree (fi 1 x) (fi 3 x) (fs 2 x) then 0 else dFree (fi 1 x) (fi 3 x) (fs 2 x))),
  .int .i64 (IntKind.wrap .i64 (fi 1 (kvGet (.str (fs 2 x)) z4 kv)+if 0 > IntKind.wrap .i64 (0 - dFree (fi 1 x) (fi 3 x) (fs 2 x)) then 0 else IntKind.wrap .i64 (0 - dFree (fi 1 x) (fi 3 x) (fs 2 x)))),
  .int .i64 (IntKind.wrap .i64 (fi 2 (kvGet (.str (fs 2 x)) z4 kv)+if 0 > dKept (fi 1 x) (fi 3 x) (fs 2 x) then 0 else dKept (fi 1 x) (fi 3 x) (fs 2 x))),
  .int .i64 (IntKind.wrap .i64 (fi 3 (kvGet (.str (fs 2 x)) z4 kv)+if 0 > IntKind.wrap .i64 (0 - dKept (fi 1 x) (fi 3 x) (fs 2 x)) then 0 else IntKind.wrap .i64 (0 - dKept (fi 1 x) (fi 3 x) (fs 2 x))))]) kv
def pendKV(ms:List D):List (D×D):=ms.foldl pendStep []
def C158(args:List V)(ob:Obs):Tree (V×Obs):=
 match args,ob with
 | [.d (.agg [.sl ea na zas,.sl em nm ms])],[]=>match Sh.beq ea accSh&&Sh.beq em mrkSh with
  | true=> .ite (decide (ms.length≤1000000)) (fun _=> .ret (.mp 640,[(128,.box [V.d (D.sl accSh na zas),V.d (D.sl mrkSh nm ms)]),(640,AM.Obj.map Sh.str i4Sh (pendKV ms))])) (fun _=> .stuck)
  | false=> .stuck
 | _,_=> .stuck
def M6:Env:=(M3.pureAt 134 true g155).genAt 142 C158
theorem x101(m n:Nat)(na nm':Bool)(zas ms:List D):Tree.out (enterM M6 (callN M6 (m+40)) n c77 [.d (.agg [.sl accSh na zas,.sl mrkSh nm' ms])] [])=bif decide (12<(zas.length:Int)) then some [D.int .i64 2] else bif decide (500<(ms.length:Int)) then some [D.int .i64 2] else Tree.out (resume M6 (callN M6 (m+40)) n n 0 c77 { fr:=frame 137 [(1,V.ptr 128 0),(24,V.d (D.sl accSh na zas)),(25,V.d (D.int .i64 (zas.length:Int))),(26,V.d (D.int .i64 0))],ob:=[(128,Obj.box [V.d (D.sl accSh na zas),V.d (D.sl mrkSh nm' ms)])] }):=by kernel_rfl
def v101(na nm':Bool)(zas ms:List D)(i:Int):St:= { fr:=frame 137 [(1,V.ptr 128 0),(24,V.d (D.sl accSh na zas)),(25,V.d (D.int .i64 (zas.length:Int))),(26,V.d (D.int .i64 i))],ob:=[(128,.box [V.d (D.sl accSh na zas),V.d (D.sl mrkSh nm' ms)])] }
theorem y101(m n j:Nat)(na nm':Bool)(zas ms:List D)(i:Int):Tree.out (resume M6 (callN M6 (m+40)) n (j+1) 0 c77 (v101 na nm' zas ms i))=bif decide (i<(zas.length:Int)) then bif decide (0≤i∧i<(zas.length:Int)) then bif (bif accOk (fs 0 (zas.getD i.toNat .nilp)) (fi 1 (zas.getD i.toNat .nilp)) (fi 2 (zas.getD i.toNat .nilp)) (fi 3 (zas.getD i.toNat .nilp)) (fi 4 (zas.getD i.toNat .nilp)) (fi 5 (zas.getD i.toNat .nilp)) (fi 6 (zas.getD i.toNat .nilp)) then (0:Int) else (2:Int)) != 0 then some [D.int .i64 2] else bif decide (0<i) then bif decide (0≤IntKind.wrap .i64 (i - 1)∧IntKind.wrap .i64 (i - 1)<(zas.length:Int)) then bif !Op.bytesLess (fs 0 (List.getD zas (Int.toNat (IntKind.wrap .i64 (i - 1))) D.nilp)) (fs 0 (zas.getD i.toNat .nilp)) then some [D.int .i64 2] else Tree.out (resume M6 (callN M6 (m+40)) n j 0 c77 (v101 na nm' zas ms (IntKind.wrap .i64 (i+1)))) else none else Tree.out (resume M6 (callN M6 (m+40)) n j 0 c77 (v101 na nm' zas ms (IntKind.wrap .i64 (i+1)))) else none else Tree.out (resume M6 (callN M6 (m+40)) n n 1 c77 { fr:=frame 137 [(1,V.ptr 128 0),(5,V.fn 134 [V.d (D.agg [D.sl accSh na zas,D.sl mrkSh nm' ms])] []),(55,V.d (D.sl mrkSh nm' ms)),(56,V.d (D.int .i64 (ms.length:Int))),(57,V.d (D.int .i64 0))],ob:=[(128,Obj.box [V.d (D.sl accSh na zas),V.d (D.sl mrkSh nm' ms)])] }):=by kernel_rfl
def v101b(na nm':Bool)(zas ms:List D)(i:Int):St:= { fr:=frame 137 [(1,V.ptr 128 0),(5,V.fn 134 [V.d (D.agg [D.sl accSh na zas,D.sl mrkSh nm' ms])] []),(55,V.d (D.sl mrkSh nm' ms)),(56,V.d (D.int .i64 (ms.length:Int))),(57,V.d (D.int .i64 i))],ob:=[(128,.box [V.d (D.sl accSh na zas),V.d (D.sl mrkSh nm' ms)])] }
theorem y101b(m n j:Nat)(na nm':Bool)(zas ms:List D)(i:Int):Tree.out (resume M6 (callN M6 (m+40)) n (j+1) 1 c77 (v101b na nm' zas ms i))=bif decide (i<(ms.length:Int)) then bif decide (0≤i∧i<(ms.length:Int)) then bif !ledKey (fs 0 (ms.getD i.toNat .nilp)) then some [D.int .i64 2] else bif decide (0<i) then bif decide (0≤IntKind.wrap .i64 (i - 1)∧IntKind.wrap .i64 (i - 1)<(ms.length:Int)) then bif !Op.bytesLess (fs 0 (List.getD ms (Int.toNat (IntKind.wrap .i64 (i - 1))) D.nilp)) (fs 0 (ms.getD i.toNat .nilp)) then some [D.int .i64 2] else bif (bif actOk (fi 1 (ms.getD i.toNat .nilp)) (fi 3 (ms.getD i.toNat .nilp)) (fs 2 (ms.getD i.toNat .nilp)) then (0:Int) else (60:Int)) != 0 then some [D.int .i64 2] else bif decide (fi 4 (ms.getD i.toNat .nilp)<1) then some [D.int .i64 2] else bif decide (3<fi 4 (ms.getD i.toNat .nilp)) then some [D.int .i64 2] else bif decide (zas.length≤1000000) then bif !there (fs 2 (ms.getD i.toNat .nilp)) zas then some [D.int .i64 2] else Tree.out (resume M6 (callN M6 (m+40)) n j 1 c77 (v101b na nm' zas ms (IntKind.wrap .i64 (i+1)))) else none else none else bif (bif actOk (fi 1 (ms.getD i.toNat .nilp)) (fi 3 (ms.getD i.toNat .nilp)) (fs 2 (ms.getD i.toNat .nilp)) then (0:Int) else (60:Int)) != 0 then some [D.int .i64 2] else bif decide (fi 4 (ms.getD i.toNat .nilp)<1) then some [D.int .i64 2] else bif decide (3<fi 4 (ms.getD i.toNat .nilp)) then some [D.int .i64 2] else bif decide (zas.length≤1000000) then bif !there (fs 2 (ms.getD i.toNat .nilp)) zas then some [D.int .i64 2] else Tree.out (resume M6 (callN M6 (m+40)) n j 1 c77 (v101b na nm' zas ms (IntKind.wrap .i64 (i+1)))) else none else none else bif decide (ms.length≤1000000) then Tree.out (resume M6 (callN M6 (m+40)) n n 2 c77 { fr:=frame 137 [(10,V.mp 7104),(112,V.d (D.sl accSh na zas)),(113,V.d (D.int .i64 (zas.length:Int))),(114,V.d (D.int .i64 0))],ob:=[(128,Obj.box [V.d (D.sl accSh na zas),V.d (D.sl mrkSh nm' ms)]),(7104,AM.Obj.map Sh.str i4Sh (pendKV ms))] }) else none:=by kernel_rfl
def v101c(na nm':Bool)(zas ms:List D)(kv:List (D×D))(i:Int):St:= { fr:=frame 137 [(10,V.mp 7104),(112,V.d (D.sl accSh na zas)),(113,V.d (D.int .i64 (zas.length:Int))),(114,V.d (D.int .i64 i))],ob:=[(128,.box [V.d (D.sl accSh na zas),V.d (D.sl mrkSh nm' ms)]),(7104,AM.Obj.map Sh.str i4Sh kv)] }
theorem y101c(m n j:Nat)(na nm':Bool)(zas ms:List D)(kv:List (D×D))(i:Int):Go.AM.Tree.out (resume M6 (callN M6 (m+40)) n (j+1) 2 c77 (v101c na nm' zas ms kv i))=bif decide (i<(↑(List.length zas):Int)) then bif decide ((0:Int)≤i∧i<(↑(List.length zas):Int)) then bif !(fi (0:Nat) (kvGet (D.str (fs (0:Nat) (List.getD zas (Int.toNat i) D.nilp))) (D.agg [D.int IntKind.i64 (0:Int),D.int IntKind.i64 (0:Int),D.int IntKind.i64 (0:Int),D.int IntKind.i64 (0:Int)]) kv)==fi (2:Nat) (List.getD zas (Int.toNat i) D.nilp)&&(fi (1:Nat) (kvGet (D.str (fs (0:Nat) (List.getD zas (Int.toNat i) D.nilp))) (D.agg [D.int IntKind.i64 (0:Int),D.int IntKind.i64 (0:Int),D.int IntKind.i64 (0:Int),D.int IntKind.i64 (0:Int)]) kv)==fi (3:Nat) (List.getD zas (Int.toNat i) D.nilp)&&(fi (2:Nat) (kvGet (D.str (fs (0:Nat) (List.getD zas (Int.toNat i) D.nilp))) (D.agg [D.int IntKind.i64 (0:Int),D.int IntKind.i64 (0:Int),D.int IntKind.i64 (0:Int),D.int IntKind.i64 (0:Int)]) kv)==fi (5:Nat) (List.getD zas (Int.toNat i) D.nilp)&&(fi (3:Nat) (kvGet (D.str (fs (0:Nat) (List.getD zas (Int.toNat i) D.nilp))) (D.agg [D.int IntKind.i64 (0:Int),D.int IntKind.i64 (0:Int),D.int IntKind.i64 (0:Int),D.int IntKind.i64 (0:Int)]) kv)==fi (6:Nat) (List.getD zas (Int.toNat i) D.nilp)&&true)))) then some [D.int IntKind.i64 (2:Int)] else Tree.out (resume M6 (callN M6 (m+(40:Nat))) n j (2:Nat) c77 { fr:=frame (137:Nat) [((10:Nat),V.mp (7104:Nat)),((112:Nat),V.d (D.sl accSh na zas)),((113:Nat),V.d (D.int IntKind.i64 (↑(List.length zas):Int))),((114:Nat),V.d (D.int IntKind.i64 (IntKind.wrap IntKind.i64 (i+(1:Int)))))],ob:=[((128:Nat),Obj.box [V.d (D.sl accSh na zas),V.d (D.sl mrkSh nm' ms)]),((7104:Nat),AM.Obj.map Sh.str i4Sh kv)] }) else none else some [D.int IntKind.i64 (0:Int)]:=by kernel_rfl
theorem kv_get(s t:List UInt8)(z v:D): ∀kv:List (D×D),kvGet (.str s) z (kvSet (.str t) v kv)=bif s==t then v else kvGet (.str s) z kv
 | []=>by
  simp only [kvSet,kvGet,keyEq]
 | (j,u) :: l=>by
  simp only [kvSet]
  cases h:keyEq (.str t) j
  ·simp only [cond_false,kvGet,kv_get s t z v l]
   cases h2:keyEq (.str s) j
   ·rfl
   ·cases h3:(s==t)
    ·rfl
    ·rw [beq_iff_eq.1 h3] at h2
     rw [h] at h2;cases h2
  ·simp only [cond_true,kvGet]
   cases h3:(s==t)
   ·cases h2:keyEq (.str s) j
    ·rfl
    ·exfalso
     cases j <;> simp only [keyEq] at h h2 <;> first | cases h | skip
     rw [beq_iff_eq] at h h2
     rw [h,h2] at h3
     simp at h3
   ·rw [beq_iff_eq.1 h3,h];rfl
def q4(kv:List (D×D))(s:List UInt8):P4:=⟨fi 0 (kvGet (.str s) z4 kv),fi 1 (kvGet (.str s) z4 kv),fi 2 (kvGet (.str s) z4 kv),fi 3 (kvGet (.str s) z4 kv)⟩
def mx0(x:Int):Int:=if 0 > x then 0 else x
def pend(s:List UInt8)(p:P4)(x:D):P4:=
 bif fi 4 x != 1 then p else bif s==fs 2 x then ⟨wad p.a (mx0 (dFree (fi 1 x) (fi 3 x) (fs 2 x))),wad p.b (mx0 (IntKind.wrap .i64 (0 - dFree (fi 1 x) (fi 3 x) (fs 2 x)))),wad p.c (mx0 (dKept (fi 1 x) (fi 3 x) (fs 2 x))),wad p.d (mx0 (IntKind.wrap .i64 (0 - dKept (fi 1 x) (fi 3 x) (fs 2 x))))⟩ else p
theorem q4_step(kv:List (D×D))(x:D)(s:List UInt8):q4 (pendStep kv x) s=pend s (q4 kv s) x:=by
 unfold pendStep pend
 cases (fi 4 x != 1)
 ·simp only [cond_false]
  unfold q4
  rw [kv_get]
  cases h:(s==fs 2 x)
  ·rfl
  ·rw [beq_iff_eq.1 h];rfl
 ·rfl
theorem q4_all(s:List UInt8): ∀(ms:List D) (kv:List (D×D)),q4 (ms.foldl pendStep kv) s=ms.foldl (pend s) (q4 kv s)
 | [],_=>rfl
 | x :: ms,kv=>by
  rw [List.foldl_cons,List.foldl_cons,q4_all s ms,q4_step]
def Small(p:P4)(c:Int):Prop:=(0≤p.a∧p.a≤c)∧(0≤p.b∧p.b≤c)∧(0≤p.c∧p.c≤c)∧(0≤p.d∧p.d≤c)
theorem pend_step{s:List UInt8}{p:P4}{x:D}{c:Int}(hx:actOk (fi 1 x) (fi 3 x) (fs 2 x)=true)(hp:Small p c)(hc:c≤1000000000000000000):
  pend s p x=refStep s p x∧Small (refStep s p x) (c+1000000000000000):=by
 obtain ⟨⟨a0,a1⟩,⟨b0,b1⟩,⟨c0,c1⟩,d0,d1⟩:=hp
 have same:Small p (c+1000000000000000):=⟨⟨a0,by omega⟩,⟨b0,by omega⟩,⟨c0,by omega⟩,d0,by omega⟩
 obtain ⟨h1,h2,-,h4,h5⟩:=actOk_iff.1 hx
 unfold pend refStep
 cases hs:(fi 4 x != 1)
 ·cases he:(s==fs 2 x)
  ·have he':(fs 2 x==s)=false:=by
    rw [beq_eq_false_iff_ne] at he ⊢
    exact fun h=>he h.symm
   rw [he']
   exact ⟨rfl,same⟩
  ·have he':(fs 2 x==s)=true:=by
    rw [beq_iff_eq] at he ⊢
    exact he.symm
   rw [he']
   simp only [Bool.not_true,cond_false,cond_true]
   have hw: ∀y:Int,0≤y→y≤c→wad y 0=y:=fun y y0 y1=>by unfold wad;rw [Int.add_zero,wrap_in (by omega) (by omega)]
   have hv: ∀y:Int,0≤y→y≤c→wad y (fi 3 x)=y+fi 3 x:=fun y y0 y1=>by unfold wad;rw [wrap_in (by omega) (by omega)]
   unfold dFree dKept
   rw [hx]
   simp only [cond_true]
   have m1:mx0 (0 - fi 3 x)=0:=by unfold mx0;rw [if_pos (by omega)]
   have m2:mx0 (fi 3 x)=fi 3 x:=by unfold mx0;rw [if_neg (by omega)]
   have m3:IntKind.wrap .i64 (0 - (0 - fi 3 x))=fi 3 x:=by rw [wrap_in (by omega) (by omega)];omega
   have m4:IntKind.wrap .i64 (0 - fi 3 x)=0 - fi 3 x:=wrap_in (by omega) (by omega)
   have m5:mx0 (IntKind.wrap .i64 (0 - 0))=0:=by decide
   have m6:mx0 0=0:=by decide
   have hk:fi 1 x=1∨fi 1 x=2∨fi 1 x=3∨fi 1 x=4:=by omega
   rcases hk with hk | hk | hk | hk
   ·rw [hk]
    show (⟨wad p.a (mx0 (0 - fi 3 x)),wad p.b (mx0 (IntKind.wrap .i64 (0 - (0 - fi 3 x)))),wad p.c (mx0 0),wad p.d (mx0 (IntKind.wrap .i64 (0 - 0)))⟩:P4)=⟨p.a,wad p.b (fi 3 x),p.c,p.d⟩∧Small ⟨p.a,wad p.b (fi 3 x),p.c,p.d⟩ _
    rw [m1,m3,m2,m5,m6,hw _ a0 a1,hw _ c0 c1,hw _ d0 d1,hv _ b0 b1]
    exact ⟨rfl,⟨a0,by show p.a≤_;omega⟩,⟨by show 0≤p.b+_;omega,by show p.b+_≤_;omega⟩,⟨c0,by show p.c≤_;omega⟩,d0,by show p.d≤_;omega⟩
   ·rw [hk]
    show (⟨wad p.a (mx0 (fi 3 x)),wad p.b (mx0 (IntKind.wrap .i64 (0 - fi 3 x))),wad p.c (mx0 0),wad p.d (mx0 (IntKind.wrap .i64 (0 - 0)))⟩:P4)=⟨wad p.a (fi 3 x),p.b,p.c,p.d⟩∧Small ⟨wad p.a (fi 3 x),p.b,p.c,p.d⟩ _
    rw [m2,m4,m1,m5,m6,hw _ b0 b1,hw _ c0 c1,hw _ d0 d1,hv _ a0 a1]
    exact ⟨rfl,⟨by show 0≤p.a+_;omega,by show p.a+_≤_;omega⟩,⟨b0,by show p.b≤_;omega⟩,⟨c0,by show p.c≤_;omega⟩,d0,by show p.d≤_;omega⟩
   ·rw [hk]
    show (⟨wad p.a (mx0 (0 - fi 3 x)),wad p.b (mx0 (IntKind.wrap .i64 (0 - (0 - fi 3 x)))),wad p.c (mx0 (fi 3 x)),wad p.d (mx0 (IntKind.wrap .i64 (0 - fi 3 x)))⟩:P4)=⟨p.a,wad p.b (fi 3 x),wad p.c (fi 3 x),p.d⟩∧Small ⟨p.a,wad p.b (fi 3 x),wad p.c (fi 3 x),p.d⟩ _
    rw [m3,m4,m1,m2,hw _ a0 a1,hw _ d0 d1,hv _ b0 b1,hv _ c0 c1]
    exact ⟨rfl,⟨a0,by show p.a≤_;omega⟩,⟨by show 0≤p.b+_;omega,by show p.b+_≤_;omega⟩,⟨by show 0≤p.c+_;omega,by show p.c+_≤_;omega⟩,d0,by show p.d≤_;omega⟩
   ·rw [hk]
    show (⟨wad p.a (mx0 (fi 3 x)),wad p.b (mx0 (IntKind.wrap .i64 (0 - fi 3 x))),wad p.c (mx0 (0 - fi 3 x)),wad p.d (mx0 (IntKind.wrap .i64 (0 - (0 - fi 3 x))))⟩:P4)=⟨wad p.a (fi 3 x),p.b,p.c,wad p.d (fi 3 x)⟩∧Small ⟨wad p.a (fi 3 x),p.b,p.c,wad p.d (fi 3 x)⟩ _
    rw [m3,m4,m1,m2,hw _ b0 b1,hw _ c0 c1,hv _ a0 a1,hv _ d0 d1]
    exact ⟨rfl,⟨by show 0≤p.a+_;omega,by show p.a+_≤_;omega⟩,⟨b0,by show p.b≤_;omega⟩,⟨c0,by show p.c≤_;omega⟩,by show 0≤p.d+_;omega,by show p.d+_≤_;omega⟩
 ·cases (fs 2 x==s)
  ·exact ⟨rfl,same⟩
  ·exact ⟨rfl,same⟩
theorem pend_all{s:List UInt8}: ∀(ms:List D) (p:P4) (c:Int),(∀x∈ms,actOk (fi 1 x) (fi 3 x) (fs 2 x)=true)→Small p c→c+1000000000000000*(ms.length:Int)≤1000000000000000000→0≤c→ms.foldl (pend s) p=ms.foldl (refStep s) p
 | [],_,_,_,_,_,_=>rfl
 | x :: ms,p,c,hx,hp,hc,h0=>by
  rw [List.length_cons] at hc
  obtain ⟨h1,h2⟩:=pend_step (s:=s) (hx x (by simp)) hp (by omega)
  rw [List.foldl_cons,List.foldl_cons,h1]
  exact pend_all ms _ _ (fun y hy=>hx y (by simp [hy])) h2 (by omega) (by omega)
theorem pend_ref{s:List UInt8}{ms:List D}(hx: ∀i,i<ms.length→actOk (fi 1 (ms.getD i .nilp)) (fi 3 (ms.getD i .nilp)) (fs 2 (ms.getD i .nilp))=true)(hl:ms.length≤500):q4 (pendKV ms) s=refPots s ms:=by
 unfold pendKV refPots
 rw [q4_all,show q4 [] s=⟨0,0,0,0⟩ from rfl]
 refine pend_all ms _ 0 (fun x hm=> ?_) ⟨⟨by decide,by decide⟩,⟨by decide,by decide⟩,⟨by decide,by decide⟩,by decide,by decide⟩ (by omega) (by omega)
 obtain ⟨i,hi,rfl⟩:=mem_getD hm
 exact hx i hi
def accA(zas:List D)(i:Nat):Bool:=accOk (fs 0 (zas.getD i .nilp)) (fi 1 (zas.getD i .nilp)) (fi 2 (zas.getD i .nilp)) (fi 3 (zas.getD i .nilp)) (fi 4 (zas.getD i .nilp)) (fi 5 (zas.getD i .nilp)) (fi 6 (zas.getD i .nilp))&&prevLess zas i
def mkB(zas ms:List D)(i:Nat):Bool:=ledKey (fs 0 (ms.getD i .nilp))&&(prevLess ms i&&(actOk (fi 1 (ms.getD i .nilp)) (fi 3 (ms.getD i .nilp)) (fs 2 (ms.getD i .nilp))&&(!decide (fi 4 (ms.getD i .nilp)<1)&&(!decide (3<fi 4 (ms.getD i .nilp))&&there (fs 2 (ms.getD i .nilp)) zas))))
def potC(zas ms:List D)(i:Nat):Bool:=potsEq (q4 (pendKV ms) (fs 0 (zas.getD i .nilp))) (fi 2 (zas.getD i .nilp)) (fi 3 (zas.getD i .nilp)) (fi 5 (zas.getD i .nilp)) (fi 6 (zas.getD i .nilp))
theorem led_eq{zas ms:List D}(hm:ms.length≤500):(allN (accA zas) zas.length&&(allN (mkB zas ms) ms.length&&allN (potC zas ms) zas.length))=(allN (mkOkAt zas ms) ms.length&&allN (acOkAt zas ms) zas.length):=by
 rw [Bool.eq_iff_iff]
 simp only [Bool.and_eq_true,allN_iff]
 constructor
 ·rintro ⟨h1,h2,h3⟩
  have hr:Rising zas:=fun i hi=>by
   have:=h1 i hi
   unfold accA at this
   rw [Bool.and_eq_true] at this
   exact this.2
  have hk: ∀i,i<ms.length→actOk (fi 1 (ms.getD i .nilp)) (fi 3 (ms.getD i .nilp)) (fs 2 (ms.getD i .nilp))=true:=fun i hi=>by
   have:=h2 i hi
   unfold mkB at this
   simp only [Bool.and_eq_true] at this
   exact this.2.2.1
  refine ⟨fun i hi=> ?_,fun i hi=> ?_⟩
  ·have:=h2 i hi
   unfold mkB at this
   rw [there_idx hr] at this
   simp only [Bool.and_eq_true] at this
   unfold mkOkAt
   simp only [Bool.and_eq_true]
   exact ⟨this.1,this.2.2.1,this.2.2.2.1,this.2.2.2.2.1,this.2.2.2.2.2,this.2.1⟩
  ·have a:=h1 i hi
   have c:=h3 i hi
   unfold accA at a
   unfold potC at c
   rw [pend_ref hk hm] at c
   rw [Bool.and_eq_true] at a
   unfold acOkAt
   rw [a.1,a.2,c]
   rfl
 ·rintro ⟨h1,h2⟩
  have hr:Rising zas:=fun i hi=>by
   have:=h2 i hi
   unfold acOkAt at this
   simp only [Bool.and_eq_true] at this
   exact this.2.1
  have hk: ∀i,i<ms.length→actOk (fi 1 (ms.getD i .nilp)) (fi 3 (ms.getD i .nilp)) (fs 2 (ms.getD i .nilp))=true:=fun i hi=>by
   have:=h1 i hi
   unfold mkOkAt at this
   simp only [Bool.and_eq_true] at this
   exact this.2.1
  refine ⟨fun i hi=> ?_,fun i hi=> ?_,fun i hi=> ?_⟩
  ·have:=h2 i hi
   unfold acOkAt at this
   simp only [Bool.and_eq_true] at this
   unfold accA
   rw [this.1,this.2.1]
   rfl
  ·have:=h1 i hi
   unfold mkOkAt at this
   simp only [Bool.and_eq_true] at this
   unfold mkB
   rw [there_idx hr]
   simp only [Bool.and_eq_true]
   exact ⟨this.1,this.2.2.2.2.2,this.2.1,this.2.2.1,this.2.2.2.1,this.2.2.2.2.1⟩
  ·have:=h2 i hi
   unfold acOkAt at this
   simp only [Bool.and_eq_true] at this
   unfold potC
   rw [pend_ref hk hm]
   exact this.2.2
abbrev defSh:Sh:= .agg [.str,.sl stepSh]
theorem x102(m n:Nat)(nb:Bool)(bs:List D):Tree.out (enterM M6 (callN M6 (m+40)) n c78 [.d (.sl defSh nb bs)] [])=bif decide (8<(bs.length:Int)) then some [D.int .i64 2] else Tree.out (resume M6 (callN M6 (m+40)) n n 0 c78 { fr:=frame 34 [(0,V.d (D.sl defSh nb bs)),(8,V.d (D.sl defSh nb bs)),(9,V.d (D.int .i64 (bs.length:Int))),(10,V.d (D.int .i64 0))],ob:=[] }):=by kernel_rfl
def v102(nb:Bool)(bs:List D)(i:Int):St:= { fr:=frame 34 [(0,V.d (D.sl defSh nb bs)),(8,V.d (D.sl defSh nb bs)),(9,V.d (D.int .i64 (bs.length:Int))),(10,V.d (D.int .i64 i))],ob:=[] }
theorem y102(m n j:Nat)(nb:Bool)(bs:List D)(i:Int):Tree.out (resume M6 (callN M6 (m+40)) n (j+1) 0 c78 (v102 nb bs i))=bif decide (i<(bs.length:Int)) then bif decide (0≤i∧i<(bs.length:Int)) then bif (bif defOk (fs 0 (bs.getD i.toNat .nilp)) (fl 1 (bs.getD i.toNat .nilp)) then (0:Int) else (90:Int)) != 0 then some [D.int .i64 2] else bif decide (0<i) then bif decide (0≤IntKind.wrap .i64 (i - 1)∧IntKind.wrap .i64 (i - 1)<(bs.length:Int)) then bif !Op.bytesLess (fs 0 (List.getD bs (Int.toNat (IntKind.wrap .i64 (i - 1))) D.nilp)) (fs 0 (bs.getD i.toNat .nilp)) then some [D.int .i64 2] else Tree.out (resume M6 (callN M6 (m+40)) n j 0 c78 (v102 nb bs (IntKind.wrap .i64 (i+1)))) else none else Tree.out (resume M6 (callN M6 (m+40)) n j 0 c78 (v102 nb bs (IntKind.wrap .i64 (i+1)))) else none else some [D.int .i64 0]:=by kernel_rfl
theorem x115(m n:Nat)(nb:Bool)(bs:List D):Tree.out (enterM M6 (callN M6 (m+40)) n c82 [.d (.sl defSh nb bs)] [])=bif decide (8<(bs.length:Int)) then some [D.int .i64 2] else Tree.out (resume M6 (callN M6 (m+40)) n n 0 c82 { fr:=frame 37 [(0,V.d (D.sl defSh nb bs)),(3,V.d (D.int .i64 0))],ob:=[] }):=by kernel_rfl
def v115(nb:Bool)(bs:List D)(i:Int):St:= { fr:=frame 37 [(0,V.d (D.sl defSh nb bs)),(3,V.d (D.int .i64 i))],ob:=[] }
theorem y115(m n j:Nat)(nb:Bool)(bs:List D)(i:Int):Tree.out (resume M6 (callN M6 (m+40)) n (j+1) 0 c82 (v115 nb bs i))=bif decide (i<(bs.length:Int)) then bif decide (0≤i∧i<(bs.length:Int)) then bif (bif defOk (fs 0 (bs.getD i.toNat .nilp)) (fl 1 (bs.getD i.toNat .nilp)) then (0:Int) else (90:Int)) != 0 then some [D.int .i64 2] else bif decide (0<i) then bif decide (0≤IntKind.wrap .i64 (i - 1)∧IntKind.wrap .i64 (i - 1)<(bs.length:Int)) then bif decide (0≤i∧i<(bs.length:Int)) then bif !Op.bytesLess (fs 0 (List.getD bs (Int.toNat (IntKind.wrap .i64 (i - 1))) D.nilp)) (fs 0 (bs.getD i.toNat .nilp)) then some [D.int .i64 2] else Tree.out (resume M6 (callN M6 (m+40)) n j 0 c82 (v115 nb bs (IntKind.wrap .i64 (i+1)))) else none else none else Tree.out (resume M6 (callN M6 (m+40)) n j 0 c82 (v115 nb bs (IntKind.wrap .i64 (i+1)))) else none else some [D.int .i64 0]:=by kernel_rfl
theorem x53(m n:Nat)(r q:Int)(nil:Bool)(es:List D):Tree.out (enterM M6 (callN M6 (m+40)) n c121 [.d (.agg [.int .i64 r,.int .i64 q,.sl hopSh nil es])] [])=bif (bif idOk r q es then (0:Int) else (30:Int)) != 0 then some [D.int .i64 (-1)] else bif decide (es.length≤1000000) then bif decide (0≤IntKind.wrap .i64 ((↑(List.length (List.map orgOf es)+1):Int) - 1)∧IntKind.wrap .i64 ((↑(List.length (List.map orgOf es)+1):Int) - 1)<(↑(List.length (List.map orgOf es)+1):Int)) then some [D.int .i64 (fi 0 (List.getD (D.int .i64 r :: List.map orgOf es) (Int.toNat (IntKind.wrap .i64 ((↑(List.length (List.map orgOf es)+1):Int) - 1))) D.nilp))] else none else none:=by kernel_rfl
theorem x118(m n:Nat)(r q:Int)(nil:Bool)(es:List D):Tree.out (enterM M6 (callN M6 (m+40)) n c157 [.d (.agg [.int .i64 r,.int .i64 q,.sl hopSh nil es])] [])=bif (bif idOk r q es then (0:Int) else (30:Int)) != 0 then some [D.sl (Sh.int .i64) true []] else Tree.out (resume M6 (callN M6 (m+40)) n n 0 c157 { fr:=frame 28 [(1,V.ptr 128 0),(3,V.own 704),(4,V.d (D.int .i64 0))],ob:=[(128,Obj.box [V.d (D.int .i64 r),V.d (D.int .i64 q),V.d (D.sl hopSh nil es)]),(704,Obj.lst (Sh.int .i64) false false false [D.int .i64 r])] }):=by kernel_rfl
def v118(r q:Int)(nil:Bool)(es:List D)(mv:Bool)(l:List D)(i:Int):St:= { fr:=frame 28 [(1,V.ptr 128 0),(3,V.own 704),(4,V.d (D.int .i64 i))],ob:=[(128,.box [V.d (D.int .i64 r),V.d (D.int .i64 q),V.d (D.sl hopSh nil es)]),(704,.lst (.int .i64) false mv false l)] }
theorem y118(m n j:Nat)(r q:Int)(nil:Bool)(es:List D)(mv:Bool)(l:List D)(i:Int):Tree.out (resume M6 (callN M6 (m+40)) n (j+1) 0 c157 (v118 r q nil es mv l i))=bif decide (i<(es.length:Int)) then bif decide (0≤i∧i<(es.length:Int)) then bif decide (l.length+1≤4294967296) then Tree.out (resume M6 (callN M6 (m+40)) n j 0 c157 (v118 r q nil es true (List.append l [D.int .i64 (fi 1 (es.getD i.toNat .nilp))]) (IntKind.wrap .i64 (i+1)))) else none else none else some [D.sl (Sh.int .i64) false l]:=by kernel_rfl
def defAt(bs:List D)(i:Nat):Bool:=defOk (fs 0 (bs.getD i .nilp)) (fl 1 (bs.getD i .nilp))&&prevLess bs i
def bookOk(bs:List D):Bool:= !decide (8<(bs.length:Int))&&allN (defAt bs) bs.length
theorem ord_at'{es:List D}{i:Nat}(hi:i<es.length)(hl:es.length≤1000000)(a b:Option (List D)):
  (bif decide (0<(i:Int)) then bif decide (0≤IntKind.wrap .i64 ((i:Int) - 1)∧IntKind.wrap .i64 ((i:Int) - 1)<(es.length:Int)) then bif decide ((0:Int)≤(i:Int)∧(i:Int)<(es.length:Int)) then bif !Op.bytesLess (fs 0 (es.getD (Int.toNat (IntKind.wrap .i64 ((i:Int) - 1))) .nilp)) (fs 0 (es.getD i .nilp)) then a else b else none else none else b)=bif prevLess es i then b else a:=by
 rw [dec_ix hi]
 exact ord_at hi hl a b
theorem rn102(m n:Nat)(nb:Bool)(bs:List D)(hn:10≤n):(enterM M6 (callN M6 (m+40)) n c78 [.d (.sl defSh nb bs)] []).out=some [.int .i64 (bif bookOk bs then 0 else 2)]:=by
 rw [x102]
 unfold bookOk
 by_cases h8:8<(bs.length:Int)
 ·rw [decide_eq_true h8];rfl
 ·rw [decide_eq_false h8]
  refine (cf rfl).trans ?_
  have:=scan_loop (fun j i=>(resume M6 (callN M6 (m+40)) n j 0 c78 (v102 nb bs (i:Nat))).out) bs.length (fun i=> !defAt bs i) (fun _=>[D.int .i64 2]) [.int .i64 0]
   (fun j i hi=> ?_) (fun j=> ?_) bs.length 0 n (by omega) (by omega)
  ·refine this.trans ?_
   rw [scan_bool]
   rfl
  ·rw [y102]
   simp only [Int.toNat_natCast,wrap_up hi (show bs.length≤1000000 by omega)]
   refine (ct (dec_lt hi)).trans ((ct (dec_ix hi)).trans ?_)
   rw [ord_at hi (show bs.length≤1000000 by omega)]
   unfold defAt
   cases defOk (fs 0 (bs.getD i .nilp)) (fl 1 (bs.getD i .nilp))
   ·rfl
   ·cases prevLess bs i <;> rfl
  ·rw [y102]
   exact cf (dec_end _)
theorem rn115(m n:Nat)(nb:Bool)(bs:List D)(hn:10≤n):(enterM M6 (callN M6 (m+40)) n c82 [.d (.sl defSh nb bs)] []).out=some [.int .i64 (bif bookOk bs then 0 else 2)]:=by
 rw [x115]
 unfold bookOk
 by_cases h8:8<(bs.length:Int)
 ·rw [decide_eq_true h8];rfl
 ·rw [decide_eq_false h8]
  refine (cf rfl).trans ?_
  have:=scan_loop (fun j i=>(resume M6 (callN M6 (m+40)) n j 0 c82 (v115 nb bs (i:Nat))).out) bs.length (fun i=> !defAt bs i) (fun _=>[D.int .i64 2]) [.int .i64 0]
   (fun j i hi=> ?_) (fun j=> ?_) bs.length 0 n (by omega) (by omega)
  ·refine this.trans ?_
   rw [scan_bool]
   rfl
  ·rw [y115]
   simp only [Int.toNat_natCast,wrap_up hi (show bs.length≤1000000 by omega)]
   refine (ct (dec_lt hi)).trans ((ct (dec_ix hi)).trans ?_)
   rw [ord_at' hi (show bs.length≤1000000 by omega)]
   unfold defAt
   cases defOk (fs 0 (bs.getD i .nilp)) (fl 1 (bs.getD i .nilp))
   ·rfl
   ·cases prevLess bs i <;> rfl
  ·rw [y115]
   exact cf (dec_end _)
def orgs(r:Int)(es:List D):List D:= .int .i64 r :: es.map orgOf
theorem lp118(m n:Nat)(r q:Int)(nil:Bool)(es:List D)(hl:es.length≤1000000): ∀k i j mv,i+k=es.length→k<j→
  (resume M6 (callN M6 (m+40)) n j 0 c157 (v118 r q nil es mv (orgs r (es.take i)) (i:Nat))).out=some [.sl (.int .i64) false (orgs r es)]:=by
 intro k
 induction k with
 | zero=>
  intro i j mv hi hj
  cases j with
  | zero=>omega
  | succ j=>
   have:i=es.length:=by omega
   subst this
   rw [y118,List.take_length]
   exact cf (dec_end _)
 | succ k ih=>
  intro i j mv hi hj
  cases j with
  | zero=>omega
  | succ j=>
   have hlt:i<es.length:=by omega
   have hlen:(orgs r (es.take i)).length+1≤4294967296:=by
    unfold orgs
    rw [List.length_cons,List.length_map,List.length_take];omega
   have e:List.append (orgs r (es.take i)) [.int .i64 (fi 1 (es.getD i .nilp))]=orgs r (es.take (i+1)):=by
    unfold orgs
    rw [List.take_add_one,List.getElem?_eq_getElem hlt,List.map_append,List.getD_eq_getElem?_getD,List.getElem?_eq_getElem hlt]
    rfl
   rw [y118]
   simp only [Int.toNat_natCast,wrap_up hlt hl]
   refine (ct (dec_lt hlt)).trans ((ct (dec_ix hlt)).trans ((ct (decide_eq_true hlen)).trans ?_))
   rw [e]
   exact ih (i+1) j true (by omega) (by omega)
theorem rn118(m n:Nat)(r q:Int)(nil:Bool)(es:List D)(hn:18≤n):(enterM M6 (callN M6 (m+40)) n c157 [.d (.agg [.int .i64 r,.int .i64 q,.sl hopSh nil es])] []).out=some [.sl (.int .i64) (!idOk r q es) (bif idOk r q es then orgs r es else [])]:=by
 rw [x118]
 cases h:idOk r q es
 ·rfl
 ·have h4:=(idOk_iff.1 h).2.1
  refine (cf rfl).trans ?_
  exact lp118 m n r q nil es (by omega) es.length 0 n false (by omega) (by omega)
def orgOfId(r q:Int)(es:List D):Int:=bif idOk r q es then fi 0 ((orgs r es).getD es.length .nilp) else -1
theorem rn53(m n:Nat)(r q:Int)(nil:Bool)(es:List D):(enterM M6 (callN M6 (m+40)) n c121 [.d (.agg [.int .i64 r,.int .i64 q,.sl hopSh nil es])] []).out=some [.int .i64 (orgOfId r q es)]:=by
 rw [x53]
 unfold orgOfId
 cases h:idOk r q es
 ·rfl
 ·have h4:=(idOk_iff.1 h).2.1
  refine (cf rfl).trans ?_
  refine (ct (decide_eq_true (by omega))).trans ?_
  have hl:(((es.map orgOf).length+1:Nat):Int) - 1=(es.length:Int):=by rw [List.length_map];omega
  rw [hl,wrap_i64 (n:=(es.length:Int)) (by omega) (by omega)]
  refine (ct (decide_eq_true (by rw [List.length_map];omega))).trans ?_
  rw [Int.toNat_natCast]
  rfl
def g102b:List D→Tree (List D)
 | [.sl e0 _nb bs]=>match Sh.beq e0 defSh with
  | true=> .ret [.int .i64 (bif bookOk bs then 0 else 2)]
  | false=> .stuck
 | _=> .stuck
theorem pure102b{P:Program}(hm:P.follows .mixedOrders=true)(h0:EnvOK P M6):PureOK P 78 g102b:=PureOK.run hm h0 fun ds rs h=>by
 unfold g102b at h
 split at h
 ·rename_i e0 nb bs
  split at h
  ·rename_i hb
   have hb0:=hb
   have hb0:=Sh.beq_eq hb0
   subst hb0
   cases h
   exact ⟨59+1,by rw [callN_succ (fn:=c78) rfl];exact rn102 19 59 nb bs (by omega)⟩
  ·cases h
 ·cases h
def g115b:List D→Tree (List D)
 | [.sl e0 _nb bs]=>match Sh.beq e0 defSh with
  | true=> .ret [.int .i64 (bif bookOk bs then 0 else 2)]
  | false=> .stuck
 | _=> .stuck
theorem pure115b{P:Program}(hm:P.follows .mixedOrders=true)(h0:EnvOK P M6):PureOK P 82 g115b:=PureOK.run hm h0 fun ds rs h=>by
 unfold g115b at h
 split at h
 ·rename_i e0 nb bs
  split at h
  ·rename_i hb
   have hb0:=hb
   have hb0:=Sh.beq_eq hb0
   subst hb0
   cases h
   exact ⟨59+1,by rw [callN_succ (fn:=c82) rfl];exact rn115 19 59 nb bs (by omega)⟩
  ·cases h
 ·cases h
def g118b:List D→Tree (List D)
 | [.agg [.int .i64 r,.int .i64 q,.sl e0 _nil es]]=>match Sh.beq e0 hopSh with
  | true=> .ret [.sl (.int .i64) (!idOk r q es) (bif idOk r q es then orgs r es else [])]
  | false=> .stuck
 | _=> .stuck
theorem pure118b{P:Program}(hm:P.follows .mixedOrders=true)(h0:EnvOK P M6):PureOK P 157 g118b:=PureOK.run hm h0 fun ds rs h=>by
 unfold g118b at h
 split at h
 ·rename_i r q e0 nil es
  split at h
  ·rename_i hb
   have hb0:=hb
   have hb0:=Sh.beq_eq hb0
   subst hb0
   cases h
   exact ⟨59+1,by rw [callN_succ (fn:=c157) rfl];exact rn118 19 59 r q nil es (by omega)⟩
  ·cases h
 ·cases h
def g53b:List D→Tree (List D)
 | [.agg [.int .i64 r,.int .i64 q,.sl e0 _nil es]]=>match Sh.beq e0 hopSh with
  | true=> .ret [.int .i64 (orgOfId r q es)]
  | false=> .stuck
 | _=> .stuck
theorem pure53b{P:Program}(hm:P.follows .mixedOrders=true)(h0:EnvOK P M6):PureOK P 121 g53b:=PureOK.run hm h0 fun ds rs h=>by
 unfold g53b at h
 split at h
 ·rename_i r q e0 nil es
  split at h
  ·rename_i hb
   have hb0:=hb
   have hb0:=Sh.beq_eq hb0
   subst hb0
   cases h
   exact ⟨59+1,by rw [callN_succ (fn:=c121) rfl];exact rn53 19 59 r q nil es⟩
  ·cases h
 ·cases h
def M9:Env:=(((M6.pureAt 78 true g102b).pureAt 82 true g115b).pureAt 157 false g118b).pureAt 121 true g53b
theorem okM9{P:Program}(hm:P.follows .mixedOrders=true)(h:EnvOK P M6):EnvOK P M9:=(((h.pureAt (pure102b hm h)).pureAt (pure115b hm h)).pureAt (pure118b hm h)).pureAt (pure53b hm h)
def zMrk:D:= .agg [.str [],.int .i64 0,.str [],.int .i64 0,.int .i64 0]
theorem int_beq_comm(a b:Int):(a==b)=(b==a):=by
 rw [Bool.eq_iff_iff]
 simp only [beq_iff_eq]
 exact ⟨Eq.symm,Eq.symm⟩
theorem pots_and(a b c d e f g h:Int):(a==e&&(b==f&&(c==g&&(d==h&&true))))=potsEq ⟨a,b,c,d⟩ e f g h:=by
 unfold potsEq
 rw [int_beq_comm a e,int_beq_comm b f,int_beq_comm c g,int_beq_comm d h]
 cases (e==a) <;> cases (f==b) <;> cases (g==c) <;> cases (h==d) <;> rfl
theorem lp101c(m n:Nat)(na nm':Bool)(zas ms:List D)(hl:zas.length≤1000000)(hn:zas.length<n):(resume M6 (callN M6 (m+40)) n n 2 c77 (v101c na nm' zas ms (pendKV ms) 0)).out=some [.int .i64 (bif allN (potC zas ms) zas.length then 0 else 2)]:=by
 have:=scan_loop (fun j i=>(resume M6 (callN M6 (m+40)) n j 2 c77 (v101c na nm' zas ms (pendKV ms) (i:Nat))).out) zas.length (fun i=> !potC zas ms i) (fun _=>[D.int .i64 2]) [.int .i64 0]
  (fun j i hi=> ?_) (fun j=> ?_) zas.length 0 n (by omega) (by omega)
 ·refine this.trans ?_
  rw [scan_bool]
 ·rw [y101c]
  simp only [Int.toNat_natCast,wrap_up hi hl]
  refine (ct (dec_lt hi)).trans ((ct (dec_ix hi)).trans ?_)
  rw [pots_and]
  rfl
 ·rw [y101c]
  exact cf (dec_end _)
theorem lp101b(m n:Nat)(na nm':Bool)(zas ms:List D)(hl:zas.length≤1000000)(hm:ms.length≤1000000)(hn:zas.length<n)(hn':ms.length<n):
  (resume M6 (callN M6 (m+40)) n n 1 c77 (v101b na nm' zas ms 0)).out=some [.int .i64 (bif allN (mkB zas ms) ms.length&&allN (potC zas ms) zas.length then 0 else 2)]:=by
 have hb:=lp101c m n na nm' zas ms hl hn
 have:=scan_loop (fun j i=>(resume M6 (callN M6 (m+40)) n j 1 c77 (v101b na nm' zas ms (i:Nat))).out) ms.length (fun i=> !mkB zas ms i) (fun _=>[D.int .i64 2]) [.int .i64 (bif allN (potC zas ms) zas.length then 0 else 2)]
  (fun j i hi=> ?_) (fun j=> ?_) ms.length 0 n (by omega) (by omega)
 ·refine this.trans ?_
  rw [scan_bool]
  cases allN (mkB zas ms) ms.length <;> cases allN (potC zas ms) zas.length <;> rfl
 ·rw [y101b]
  simp only [Int.toNat_natCast,wrap_up hi hm]
  refine (ct (dec_lt hi)).trans ((ct (dec_ix hi)).trans ?_)
  rw [decide_eq_true hl,ord_at hi hm]
  unfold mkB
  cases ledKey (fs 0 (ms.getD i .nilp))
  ·rfl
  ·cases prevLess ms i
   ·rfl
   ·cases actOk (fi 1 (ms.getD i .nilp)) (fi 3 (ms.getD i .nilp)) (fs 2 (ms.getD i .nilp))
    ·rfl
    ·cases decide (fi 4 (ms.getD i .nilp)<1)
     ·cases decide (3<fi 4 (ms.getD i .nilp))
      ·cases there (fs 2 (ms.getD i .nilp)) zas <;> rfl
      ·rfl
     ·rfl
 ·rw [y101b]
  exact (cf (dec_end _)).trans ((ct (decide_eq_true hm)).trans hb)
theorem rn101(m n:Nat)(na nm':Bool)(zas ms:List D)(hn:600≤n):(enterM M6 (callN M6 (m+40)) n c77 [.d (.agg [.sl accSh na zas,.sl mrkSh nm' ms])] []).out=some [.int .i64 (bif ledOk zas ms then 0 else 2)]:=by
 rw [x101]
 unfold ledOk
 by_cases h1:12<(zas.length:Int)
 ·rw [decide_eq_true h1];rfl
 ·rw [decide_eq_false h1]
  refine (cf rfl).trans ?_
  by_cases h2:500<(ms.length:Int)
  ·rw [decide_eq_true h2];rfl
  ·rw [decide_eq_false h2]
   refine (cf rfl).trans ?_
   rw [←led_eq (show ms.length≤500 by omega)]
   have hb:=lp101b m n na nm' zas ms (by omega) (by omega) (by omega) (by omega)
   have:=scan_loop (fun j i=>(resume M6 (callN M6 (m+40)) n j 0 c77 (v101 na nm' zas ms (i:Nat))).out) zas.length (fun i=> !accA zas i) (fun _=>[D.int .i64 2]) [.int .i64 (bif allN (mkB zas ms) ms.length&&allN (potC zas ms) zas.length then 0 else 2)]
    (fun j i hi=> ?_) (fun j=> ?_) zas.length 0 n (by omega) (by omega)
   ·refine this.trans ?_
    rw [scan_bool]
    cases allN (accA zas) zas.length <;> cases (allN (mkB zas ms) ms.length&&allN (potC zas ms) zas.length) <;> rfl
   ·rw [y101]
    simp only [Int.toNat_natCast,wrap_up hi (show zas.length≤1000000 by omega)]
    refine (ct (dec_lt hi)).trans ((ct (dec_ix hi)).trans ?_)
    rw [ord_at hi (show zas.length≤1000000 by omega)]
    unfold accA
    cases accOk (fs 0 (zas.getD i .nilp)) (fi 1 (zas.getD i .nilp)) (fi 2 (zas.getD i .nilp)) (fi 3 (zas.getD i .nilp)) (fi 4 (zas.getD i .nilp)) (fi 5 (zas.getD i .nilp)) (fi 6 (zas.getD i .nilp))
    ·rfl
    ·cases prevLess zas i <;> rfl
   ·rw [y101]
    exact (cf (dec_end _)).trans hb
def g101b:List D→Tree (List D)
 | [.agg [.sl ea _ zas,.sl em _ ms]]=>match Sh.beq ea accSh&&Sh.beq em mrkSh with
  | true=> .ret [.int .i64 (bif ledOk zas ms then 0 else 2)]
  | false=> .stuck
 | _=> .stuck
theorem pure101b{P:Program}(hm:P.follows .mixedOrders=true)(h0:EnvOK P M6):PureOK P 77 g101b:=PureOK.run hm h0 fun ds rs h=>by
 unfold g101b at h
 split at h
 ·rename_i ea na zas em nm ms
  split at h
  ·rename_i hb
   simp only [Bool.and_eq_true] at hb
   have hb0:=Sh.beq_eq hb.1
   have hb1:=Sh.beq_eq hb.2
   subst hb0 hb1
   cases h
   exact ⟨600+1,by rw [callN_succ (fn:=c77) rfl];exact rn101 560 600 na nm zas ms (by omega)⟩
  ·cases h
 ·cases h
theorem pure114b{P:Program}(hm:P.follows .mixedOrders=true)(h0:EnvOK P M3):PureOK P 81 g101b:=PureOK.run hm h0 fun ds rs h=>by
 unfold g101b at h
 split at h
 ·rename_i ea na zas em nm ms
  split at h
  ·rename_i hb
   simp only [Bool.and_eq_true] at hb
   have hb0:=Sh.beq_eq hb.1
   have hb1:=Sh.beq_eq hb.2
   subst hb0 hb1
   cases h
   exact ⟨600+1,by rw [callN_succ (fn:=c81) rfl];exact run114 560 600 na nm zas ms (by omega)⟩
  ·cases h
 ·cases h
def Md:Env:=(M9.pureAt 77 true g101b).pureAt 81 true g101b
theorem okMd{P:Program}(hm:P.follows .mixedOrders=true)(h3:EnvOK P M3)(h6:EnvOK P M6)(h9:EnvOK P M9):EnvOK P Md:=(h9.pureAt (pure101b hm h6)).pureAt (pure114b hm h3)
end Go.Proofs.YtlhageadjmoajaaGreatDoor.A
