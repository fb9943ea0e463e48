/- Parts of the walk: M4, M5, M6a, QM8, M8, M9, Mk, Mm, QN1, Mq, QMq, Mr, Ms, QMt, Mt, QMu, Mu, Mv, My, AMEntry, AMLaw, PG, Ba, QBb, BL, Bb, AMIns, AMIns2, Bc, Bd, QBd, Be, Bg, QBe, Bh. -/
import Derived.Test.YtlhageadjmoajaaDoorGd
import Derived.KernelRfl
import Derived.ChangeArms
import Derived.OpenShut
import Derived.DataReads
import Derived.ChangeSame
import Derived.ChangeShapes
import Derived.WideKeyArgs
import Derived.Handed
import Derived.RowKit
import Derived.Shelf.Spec.SlicesInsertGrow
set_option maxRecDepth 20000
namespace Go.Proofs.YtlhageadjmoajaaDoor.A
open Go Go.AM
set_option maxRecDepth 20000
def prevLess(es:List D)(i:Nat):Bool:=decide (i=0)||Op.bytesLess (fs 0 (es.getD (i - 1) .nilp)) (fs 0 (es.getD i .nilp))
theorem wrap_pred{i:Nat}(h:0<i)(hi:i≤1000000):IntKind.wrap .i64 ((i:Int) - 1)=((i - 1:Nat):Int):=by
 rw [wrap_i64 (by omega) (by omega)];omega
theorem ord_at{es:List D}{i:Nat}(hi:i<es.length)(hl:es.length≤1000000)(a b:Option (List D)):
  (bif decide (0<(i:Int)) then bif decide (0≤IntKind.wrap .i64 ((i:Int) - 1)∧IntKind.wrap .i64 ((i:Int) - 1)<(es.length:Int)) then bif !Op.bytesLess (fs 0 (es.getD (Int.toNat (IntKind.wrap .i64 ((i:Int) - 1))) .nilp)) (fs 0 (es.getD i .nilp)) then a else b else none else b)=bif prevLess es i then b else a:=by
 unfold prevLess
 by_cases h0:i=0
 ·subst h0
  refine (cf (decide_eq_false (by omega))).trans ?_
  rfl
 ·rw [decide_eq_false h0,wrap_pred (by omega) (by omega)]
  refine (ct (decide_eq_true (by omega))).trans ?_
  refine (ct (dec_ix (show i - 1<es.length by omega))).trans ?_
  rw [Int.toNat_natCast]
  cases Op.bytesLess (fs 0 (es.getD (i - 1) .nilp)) (fs 0 (es.getD i .nilp)) <;> rfl
def allN(p:Nat→Bool)(n:Nat):Bool:=scan (fun i=> !p i) (fun _=>false) true n 0
theorem allN_iff{p:Nat→Bool}{n:Nat}:allN p n=true↔ ∀i,i<n→p i=true:=by
 unfold allN
 rw [scan_all]
 exact ⟨fun h i hi=>h i (by omega) (by omega),fun h i _ hi=>h i (by omega)⟩
theorem scan_bool(p:Nat→Bool)(x y:Int)(n:Nat):scan (fun i=> !p i) (fun _=>[D.int .i64 x]) [D.int .i64 y] n 0=[D.int .i64 (bif allN p n then y else x)]:=by
 unfold allN
 have: ∀k i,scan (fun i=> !p i) (fun _=>[D.int .i64 x]) [D.int .i64 y] k i=[D.int .i64 (bif scan (fun i=> !p i) (fun _=>false) true k i then y else x)]:=by
  intro k
  induction k with
  | zero=>intro i;rfl
  | succ k ih=>
   intro i
   simp only [scan]
   cases p i
   ·rfl
   ·exact ih (i+1)
 exact this n 0
theorem less_irr: ∀a:List UInt8,Op.bytesLess a a=false
 | []=>rfl
 | x :: a=>by
  simp only [Op.bytesLess,less_irr a]
  simp
theorem less_trans: ∀{a b c:List UInt8},Op.bytesLess a b=true→Op.bytesLess b c=true→Op.bytesLess a c=true
 | [],[],_,h,_=>by simp [Op.bytesLess] at h
 | [],_ :: _,[],_,h=>by simp [Op.bytesLess] at h
 | [],_ :: _,_ :: _,_,_=>by simp [Op.bytesLess]
 | _ :: _,[],_,h,_=>by simp [Op.bytesLess] at h
 | _ :: _,_ :: _,[],_,h=>by simp [Op.bytesLess] at h
 | x :: a,y :: b,z :: c,h1,h2=>by
  simp only [Op.bytesLess,Bool.or_eq_true,Bool.and_eq_true,decide_eq_true_eq,beq_iff_eq] at h1 h2 ⊢
  rcases h1 with h1 | ⟨rfl,h1⟩
  ·rcases h2 with h2 | ⟨rfl,h2⟩
   ·exact .inl (UInt8.lt_trans h1 h2)
   ·exact .inl h1
  ·rcases h2 with h2 | ⟨rfl,h2⟩
   ·exact .inl h2
   ·exact .inr ⟨rfl,less_trans h1 h2⟩
theorem less_tri: ∀a b:List UInt8,a=b∨Op.bytesLess a b=true∨Op.bytesLess b a=true
 | [],[]=> .inl rfl
 | [],_ :: _=> .inr (.inl (by simp [Op.bytesLess]))
 | _ :: _,[]=> .inr (.inr (by simp [Op.bytesLess]))
 | x :: a,y :: b=>by
  simp only [Op.bytesLess,Bool.or_eq_true,Bool.and_eq_true,decide_eq_true_eq,beq_iff_eq]
  by_cases h1:x<y
  ·exact .inr (.inl (.inl h1))
  ·by_cases h2:y<x
   ·exact .inr (.inr (.inl h2))
   ·have:x=y:=by
     apply UInt8.toNat_inj.1
     have e1:=UInt8.not_lt.1 h1
     have e2:=UInt8.not_lt.1 h2
     rw [UInt8.le_iff_toNat_le] at e1 e2
     omega
    subst this
    rcases less_tri a b with rfl | h | h
    ·exact .inl rfl
    ·exact .inr (.inl (.inr ⟨rfl,h⟩))
    ·exact .inr (.inr (.inr ⟨rfl,h⟩))
theorem cmp_neg{a b:List UInt8}:cmpB a b<0↔Op.bytesLess a b=true:=by
 unfold cmpB
 by_cases h:a=b
 ·subst h
  rw [beq_self_eq_true,less_irr];simp
 ·rw [beq_eq_false_iff_ne.2 h]
  cases Op.bytesLess a b <;> simp
theorem cmp_zero{a b:List UInt8}:(cmpB a b==0)=(a==b):=by
 unfold cmpB
 cases (a==b)
 ·cases Op.bytesLess a b <;> rfl
 ·rfl
def Rising(es:List D):Prop:= ∀i,i<es.length→prevLess es i=true
theorem rising_lt{es:List D}(h:Rising es): ∀{d a:Nat},a+d+1<es.length→Op.bytesLess (fs 0 (es.getD a .nilp)) (fs 0 (es.getD (a+d+1) .nilp))=true
 | 0,a,hd=>by
  have:=h (a+1) hd
  unfold prevLess at this
  rw [decide_eq_false (by omega)] at this
  simpa using this
 | d+1,a,hd=>by
  have h1:=rising_lt h (d:=d) (a:=a) (by omega)
  have h2:=h (a+(d+1)+1) hd
  unfold prevLess at h2
  rw [decide_eq_false (by omega),Bool.false_or] at h2
  exact less_trans h1 h2
theorem rising_mono{es:List D}(h:Rising es)(s:List UInt8)(a b:Nat)(hab:a≤b)(hb:b<es.length)(hp:lessAt s es b=true):lessAt s es a=true:=by
 unfold lessAt at hp ⊢
 rw [decide_eq_true_eq,cmp_neg] at hp ⊢
 by_cases he:a=b
 ·rw [he];exact hp
 ·have:=rising_lt h (d:=b - a - 1) (a:=a) (by omega)
  rw [show a+(b - a - 1)+1=b by omega] at this
  exact less_trans this hp
theorem there_iff{es:List D}(h:Rising es)(s:List UInt8):there s es=true↔ ∃i,i<es.length∧fs 0 (es.getD i .nilp)=s:=by
 obtain ⟨h1,h2,h3⟩:=bsF_spec (lessAt s es) es.length (rising_mono h s) es.length 0 es.length (by omega) (by omega) (by omega) (fun k hk=>by omega) (fun k h1 h2=>by omega)
 unfold there
 constructor
 ·intro ht
  by_cases hlt:plc s es<es.length
  ·rw [dec_lt hlt,cond_true,cmp_zero,beq_iff_eq] at ht
   exact ⟨_,hlt,ht⟩
  ·rw [decide_eq_false (by omega)] at ht;cases ht
 ·rintro ⟨i,hi,rfl⟩
  have hle:plc (fs 0 (es.getD i .nilp)) es≤i:=by
   by_cases hc:i<plc (fs 0 (es.getD i .nilp)) es
   ·have:=h2 i hc
    unfold lessAt at this
    rw [decide_eq_true_eq,cmp_neg,less_irr] at this;cases this
   ·omega
  have hlt:plc (fs 0 (es.getD i .nilp)) es<es.length:=by omega
  rw [dec_lt hlt,cond_true,cmp_zero,beq_iff_eq]
  by_cases he:plc (fs 0 (es.getD i .nilp)) es=i
  ·rw [he]
  ·have hp:=h3 _ (Nat.le_refl _) hlt
   unfold lessAt at hp
   rw [decide_eq_false_iff_not,cmp_neg] at hp
   have:=rising_lt h (d:=i - plc (fs 0 (es.getD i .nilp)) es - 1) (a:=plc (fs 0 (es.getD i .nilp)) es) (by omega)
   rw [show plc (fs 0 (es.getD i .nilp)) es+(i - plc (fs 0 (es.getD i .nilp)) es - 1)+1=i by omega] at this
   exact absurd this hp
theorem idx_iff{es:List D}{s:List UInt8}:0≤nameIdx s es↔ ∃i,i<es.length∧fs 0 (es.getD i .nilp)=s:=by
 have:=idxOf_nonneg (fun x=>fs 0 x==s) es
 unfold nameIdx
 rw [←decide_eq_true_eq (p:=0≤idxOf _ es),this,any_iff]
 simp only [beq_iff_eq]
theorem there_idx{es:List D}(h:Rising es)(s:List UInt8):there s es= !decide (nameIdx s es<0):=by
 rw [Bool.eq_iff_iff,there_iff h,←idx_iff]
 simp
def M6:Env:=M2
abbrev defSh:Sh:= .agg [.str,.sl stepSh]
theorem x102(m n:Nat)(nb:Bool)(bs:List D):Tree.out (enterM M6 (callN M6 (m+40)) n c10 [.d (.sl defSh nb bs)] [])=bif decide (8<(bs.length:Int)) then some [D.int .i64 2] else Tree.out (resume M6 (callN M6 (m+40)) n n 0 c10 { fr:=frame 34 [(0,V.d (D.sl defSh nb bs)),(8,V.d (D.sl defSh nb bs)),(9,V.d (D.int .i64 (bs.length:Int))),(10,V.d (D.int .i64 0))],ob:=[] }):=by kernel_rfl
def v102(nb:Bool)(bs:List D)(i:Int):St:= { fr:=frame 34 [(0,V.d (D.sl defSh nb bs)),(8,V.d (D.sl defSh nb bs)),(9,V.d (D.int .i64 (bs.length:Int))),(10,V.d (D.int .i64 i))],ob:=[] }
theorem y102(m n j:Nat)(nb:Bool)(bs:List D)(i:Int):Tree.out (resume M6 (callN M6 (m+40)) n (j+1) 0 c10 (v102 nb bs i))=bif decide (i<(bs.length:Int)) then bif decide (0≤i∧i<(bs.length:Int)) then bif (bif defOk (fs 0 (bs.getD i.toNat .nilp)) (fl 1 (bs.getD i.toNat .nilp)) then (0:Int) else (90:Int)) != 0 then some [D.int .i64 2] else bif decide (0<i) then bif decide (0≤IntKind.wrap .i64 (i - 1)∧IntKind.wrap .i64 (i - 1)<(bs.length:Int)) then bif !Op.bytesLess (fs 0 (List.getD bs (Int.toNat (IntKind.wrap .i64 (i - 1))) D.nilp)) (fs 0 (bs.getD i.toNat .nilp)) then some [D.int .i64 2] else Tree.out (resume M6 (callN M6 (m+40)) n j 0 c10 (v102 nb bs (IntKind.wrap .i64 (i+1)))) else none else Tree.out (resume M6 (callN M6 (m+40)) n j 0 c10 (v102 nb bs (IntKind.wrap .i64 (i+1)))) else none else some [D.int .i64 0]:=by kernel_rfl
theorem x115(m n:Nat)(nb:Bool)(bs:List D):Tree.out (enterM M6 (callN M6 (m+40)) n c11 [.d (.sl defSh nb bs)] [])=bif decide (8<(bs.length:Int)) then some [D.int .i64 2] else Tree.out (resume M6 (callN M6 (m+40)) n n 0 c11 { fr:=frame 37 [(0,V.d (D.sl defSh nb bs)),(3,V.d (D.int .i64 0))],ob:=[] }):=by kernel_rfl
def v115(nb:Bool)(bs:List D)(i:Int):St:= { fr:=frame 37 [(0,V.d (D.sl defSh nb bs)),(3,V.d (D.int .i64 i))],ob:=[] }
theorem y115(m n j:Nat)(nb:Bool)(bs:List D)(i:Int):Tree.out (resume M6 (callN M6 (m+40)) n (j+1) 0 c11 (v115 nb bs i))=bif decide (i<(bs.length:Int)) then bif decide (0≤i∧i<(bs.length:Int)) then bif (bif defOk (fs 0 (bs.getD i.toNat .nilp)) (fl 1 (bs.getD i.toNat .nilp)) then (0:Int) else (90:Int)) != 0 then some [D.int .i64 2] else bif decide (0<i) then bif decide (0≤IntKind.wrap .i64 (i - 1)∧IntKind.wrap .i64 (i - 1)<(bs.length:Int)) then bif decide (0≤i∧i<(bs.length:Int)) then bif !Op.bytesLess (fs 0 (List.getD bs (Int.toNat (IntKind.wrap .i64 (i - 1))) D.nilp)) (fs 0 (bs.getD i.toNat .nilp)) then some [D.int .i64 2] else Tree.out (resume M6 (callN M6 (m+40)) n j 0 c11 (v115 nb bs (IntKind.wrap .i64 (i+1)))) else none else none else Tree.out (resume M6 (callN M6 (m+40)) n j 0 c11 (v115 nb bs (IntKind.wrap .i64 (i+1)))) else none else some [D.int .i64 0]:=by kernel_rfl
def defAt(bs:List D)(i:Nat):Bool:=defOk (fs 0 (bs.getD i .nilp)) (fl 1 (bs.getD i .nilp))&&prevLess bs i
def bookOk(bs:List D):Bool:= !decide (8<(bs.length:Int))&&allN (defAt bs) bs.length
theorem ord_at'{es:List D}{i:Nat}(hi:i<es.length)(hl:es.length≤1000000)(a b:Option (List D)):
  (bif decide (0<(i:Int)) then bif decide (0≤IntKind.wrap .i64 ((i:Int) - 1)∧IntKind.wrap .i64 ((i:Int) - 1)<(es.length:Int)) then bif decide ((0:Int)≤(i:Int)∧(i:Int)<(es.length:Int)) then bif !Op.bytesLess (fs 0 (es.getD (Int.toNat (IntKind.wrap .i64 ((i:Int) - 1))) .nilp)) (fs 0 (es.getD i .nilp)) then a else b else none else none else b)=bif prevLess es i then b else a:=by
 rw [dec_ix hi]
 exact ord_at hi hl a b
theorem rn102(m n:Nat)(nb:Bool)(bs:List D)(hn:10≤n):(enterM M6 (callN M6 (m+40)) n c10 [.d (.sl defSh nb bs)] []).out=some [.int .i64 (bif bookOk bs then 0 else 2)]:=by
 rw [x102]
 unfold bookOk
 by_cases h8:8<(bs.length:Int)
 ·rw [decide_eq_true h8];rfl
 ·rw [decide_eq_false h8]
  refine (cf rfl).trans ?_
  have:=scan_loop (fun j i=>(resume M6 (callN M6 (m+40)) n j 0 c10 (v102 nb bs (i:Nat))).out) bs.length (fun i=> !defAt bs i) (fun _=>[D.int .i64 2]) [.int .i64 0]
   (fun j i hi=> ?_) (fun j=> ?_) bs.length 0 n (by omega) (by omega)
  ·refine this.trans ?_
   rw [scan_bool]
   rfl
  ·rw [y102]
   simp only [Int.toNat_natCast,wrap_up hi (show bs.length≤1000000 by omega)]
   refine (ct (dec_lt hi)).trans ((ct (dec_ix hi)).trans ?_)
   rw [ord_at hi (show bs.length≤1000000 by omega)]
   unfold defAt
   cases defOk (fs 0 (bs.getD i .nilp)) (fl 1 (bs.getD i .nilp))
   ·rfl
   ·cases prevLess bs i <;> rfl
  ·rw [y102]
   exact cf (dec_end _)
theorem rn115(m n:Nat)(nb:Bool)(bs:List D)(hn:10≤n):(enterM M6 (callN M6 (m+40)) n c11 [.d (.sl defSh nb bs)] []).out=some [.int .i64 (bif bookOk bs then 0 else 2)]:=by
 rw [x115]
 unfold bookOk
 by_cases h8:8<(bs.length:Int)
 ·rw [decide_eq_true h8];rfl
 ·rw [decide_eq_false h8]
  refine (cf rfl).trans ?_
  have:=scan_loop (fun j i=>(resume M6 (callN M6 (m+40)) n j 0 c11 (v115 nb bs (i:Nat))).out) bs.length (fun i=> !defAt bs i) (fun _=>[D.int .i64 2]) [.int .i64 0]
   (fun j i hi=> ?_) (fun j=> ?_) bs.length 0 n (by omega) (by omega)
  ·refine this.trans ?_
   rw [scan_bool]
   rfl
  ·rw [y115]
   simp only [Int.toNat_natCast,wrap_up hi (show bs.length≤1000000 by omega)]
   refine (ct (dec_lt hi)).trans ((ct (dec_ix hi)).trans ?_)
   rw [ord_at' hi (show bs.length≤1000000 by omega)]
   unfold defAt
   cases defOk (fs 0 (bs.getD i .nilp)) (fl 1 (bs.getD i .nilp))
   ·rfl
   ·cases prevLess bs i <;> rfl
  ·rw [y115]
   exact cf (dec_end _)
def g102b:List D→Tree (List D)
 | [.sl e0 _nb bs]=>match Sh.beq e0 defSh with
  | true=> .ret [.int .i64 (bif bookOk bs then 0 else 2)]
  | false=> .stuck
 | _=> .stuck
theorem pure102b{P:Program}(hm:P.follows .mixedOrders=true)(h0:EnvOK P M6):PureOK P 10 g102b:=PureOK.run hm h0 fun ds rs h=>by
 unfold g102b at h
 split at h
 ·rename_i e0 nb bs
  split at h
  ·rename_i hb
   have hb0:=hb
   have hb0:=Sh.beq_eq hb0
   subst hb0
   cases h
   exact ⟨59+1,by rw [callN_succ (fn:=c10) rfl];exact rn102 19 59 nb bs (by omega)⟩
  ·cases h
 ·cases h
def g115b:List D→Tree (List D)
 | [.sl e0 _nb bs]=>match Sh.beq e0 defSh with
  | true=> .ret [.int .i64 (bif bookOk bs then 0 else 2)]
  | false=> .stuck
 | _=> .stuck
theorem pure115b{P:Program}(hm:P.follows .mixedOrders=true)(h0:EnvOK P M6):PureOK P 11 g115b:=PureOK.run hm h0 fun ds rs h=>by
 unfold g115b at h
 split at h
 ·rename_i e0 nb bs
  split at h
  ·rename_i hb
   have hb0:=hb
   have hb0:=Sh.beq_eq hb0
   subst hb0
   cases h
   exact ⟨59+1,by rw [callN_succ (fn:=c11) rfl];exact rn115 19 59 nb bs (by omega)⟩
  ·cases h
 ·cases h
def M9:Env:=(M6.pureAt 10 true g102b).pureAt 11 true g115b
theorem okM9{P:Program}(hm:P.follows .mixedOrders=true)(h:EnvOK P M6):EnvOK P M9:=(h.pureAt (pure102b hm h)).pureAt (pure115b hm h)
def one(b:Bool):Nat:=bif b then 1 else 0
theorem rising_inj{es:List D}(h:Rising es){i j:Nat}(hi:i<es.length)(hj:j<es.length)(e:fs 0 (es.getD i .nilp)=fs 0 (es.getD j .nilp)):i=j:=by
 have key: ∀a b:Nat,a<b→b<es.length→fs 0 (es.getD a .nilp)≠fs 0 (es.getD b .nilp):=fun a b hab hb he=>by
  have:=rising_lt h (d:=b - a - 1) (a:=a) (by omega)
  rw [show a+(b - a - 1)+1=b by omega,he,less_irr] at this
  cases this
 by_cases h1:i<j
 ·exact absurd e (key i j h1 hj)
 ·by_cases h2:j<i
  ·exact absurd e.symm (key j i h2 hi)
  ·omega
def moveSh:Sh:= .agg [.int .i64,.int .i64,.int .i64,.sl hopSh,.int .i64,.int .i64,.str,.sl stepSh]
def Mq:Env:=M9
theorem x195(m n:Nat)(nb:Bool)(bs:List D)(s:List UInt8):Tree.outG (enterM Mq (callN Mq (m+40)) n c25 [.d (.sl defSh nb bs),.d (.str s),.fn 26 [] []] [])=Tree.outG (resume Mq (callN Mq (m+40)) n n 0 c25 { fr:=frame 49 [(0,V.d (D.sl defSh nb bs)),(1,V.d (D.str s)),(2,V.fn 26 [] []),(8,V.d (D.int .i64 (bs.length:Int))),(9,V.d (D.int .i64 0)),(10,V.d (D.int .i64 (bs.length:Int)))],ob:=[] }):=by kernel_rfl
theorem x62(m n:Nat)(nb:Bool)(bs:List D)(s:List UInt8):Tree.out (enterM Mq (callN Mq (m+40)) n c9 [.d (.sl defSh nb bs),.d (.str s)] [])=bif (bif bookOk bs then (0:Int) else (2:Int)) != 0 then some [D.agg [D.str [],D.sl stepSh true []],D.bool false] else Tree.out (resume Mq (callN Mq (m+40)) n n 0 c9 { fr:=frame 29 [(0,V.d (D.sl defSh nb bs)),(1,V.d (D.str s)),(4,V.ptr 320 0),(6,V.d (D.int .i64 0))],ob:=[(320,Obj.box [V.d (D.str []),V.d (D.sl stepSh true [])])] }):=by kernel_rfl
theorem x96(m n:Nat)(nm nm':List UInt8)(n1 n2:Bool)(s1 s2:List D):Tree.out (enterM Mq (callN Mq (m+40)) n c12 [.d (.agg [.str nm,.sl stepSh n1 s1]),.d (.agg [.str nm',.sl stepSh n2 s2])] [])=bif !nm==nm' then some [D.bool false] else bif (s1.length:Int) != (s2.length:Int) then some [D.bool false] else Tree.out (resume Mq (callN Mq (m+40)) n n 0 c12 { fr:=frame 38 [(2,V.ptr 192 0),(3,V.ptr 256 0),(5,V.d (D.int .i64 0))],ob:=[(192,Obj.box [V.d (D.str nm),V.d (D.sl stepSh n1 s1)]),(256,Obj.box [V.d (D.str nm'),V.d (D.sl stepSh n2 s2)])] }):=by kernel_rfl
def noteSh:Sh:= .agg [.int .i64,.int .i64,.int .i64,.sl hopSh,.str,.int .i64]
def v195(nb:Bool)(bs:List D)(s:List UInt8)(i j:Int):St:= { fr:=frame 49 [(0,V.d (D.sl defSh nb bs)),(1,V.d (D.str s)),(2,V.fn 26 [] []),(8,V.d (D.int .i64 (bs.length:Int))),(9,V.d (D.int .i64 i)),(10,V.d (D.int .i64 j))],ob:=[] }
theorem y195(m n f:Nat)(nb:Bool)(bs:List D)(s:List UInt8)(i j:Int):Tree.outG (resume Mq (callN Mq (m+40)) n (f+1) 0 c25 (v195 nb bs s i j))=bif decide (i<j) then bif decide (0≤IntKind.wrap .i64 (Int.fdiv (IntKind.wrap .u64 (IntKind.wrap .i64 (i+j))) 2)∧IntKind.wrap .i64 (Int.fdiv (IntKind.wrap .u64 (IntKind.wrap .i64 (i+j))) 2)<(bs.length:Int)) then bif decide (cmpB (fs 0 (List.getD bs (Int.toNat (IntKind.wrap .i64 (Int.fdiv (IntKind.wrap .u64 (IntKind.wrap .i64 (i+j))) 2))) D.nilp)) s<0) then Tree.outG (resume Mq (callN Mq (m+40)) n f 0 c25 (v195 nb bs s (IntKind.wrap .i64 (IntKind.wrap .i64 (Int.fdiv (IntKind.wrap .u64 (IntKind.wrap .i64 (i+j))) 2)+1)) j)) else Tree.outG (resume Mq (callN Mq (m+40)) n f 0 c25 (v195 nb bs s i (IntKind.wrap .i64 (Int.fdiv (IntKind.wrap .u64 (IntKind.wrap .i64 (i+j))) 2)))) else none else bif decide (i<(bs.length:Int)) then bif decide (0≤i∧i<(bs.length:Int)) then some (V.tup [V.d (D.int .i64 i),V.d (D.bool (cmpB (fs 0 (bs.getD i.toNat .nilp)) s==0))],[]) else none else some (V.tup [V.d (D.int .i64 i),V.d (D.bool false)],[]):=by kernel_rfl
def v62(nb:Bool)(bs:List D)(s:List UInt8)(i:Int):St:= { fr:=frame 29 [(0,V.d (D.sl defSh nb bs)),(1,V.d (D.str s)),(4,V.ptr 320 0),(6,V.d (D.int .i64 i))],ob:=[(320,.box [V.d (D.str []),V.d (D.sl stepSh true [])])] }
theorem y62(m n f:Nat)(nb:Bool)(bs:List D)(s:List UInt8)(i:Int):Tree.out (resume Mq (callN Mq (m+40)) n (f+1) 0 c9 (v62 nb bs s i))=bif decide (i<(bs.length:Int)) then bif decide (0≤i∧i<(bs.length:Int)) then bif fs 0 (bs.getD i.toNat .nilp)==s then bif decide (0≤i∧i<(bs.length:Int)) then some [D.agg [D.str (fs 0 (bs.getD i.toNat .nilp)),D.sl stepSh (fn 1 (bs.getD i.toNat .nilp)) (fl 1 (bs.getD i.toNat .nilp))],D.bool true] else none else Tree.out (resume Mq (callN Mq (m+40)) n f 0 c9 (v62 nb bs s (IntKind.wrap .i64 (i+1)))) else none else some [D.agg [D.str [],D.sl stepSh true []],D.bool false]:=by kernel_rfl
def v96(nm nm':List UInt8)(n1 n2:Bool)(s1 s2:List D)(i:Int):St:= { fr:=frame 38 [(2,V.ptr 192 0),(3,V.ptr 256 0),(5,V.d (D.int .i64 i))],ob:=[(192,.box [V.d (D.str nm),V.d (D.sl stepSh n1 s1)]),(256,.box [V.d (D.str nm'),V.d (D.sl stepSh n2 s2)])] }
theorem y96(m n f:Nat)(nm nm':List UInt8)(n1 n2:Bool)(s1 s2:List D)(i:Int):Tree.out (resume Mq (callN Mq (m+40)) n (f+1) 0 c12 (v96 nm nm' n1 n2 s1 s2 i))=bif decide (i<(s1.length:Int)) then bif decide (0≤i∧i<(s1.length:Int)) then bif decide (0≤i∧i<(s2.length:Int)) then bif !(fi 0 (s1.getD i.toNat .nilp)==fi 0 (s2.getD i.toNat .nilp)&&(fs 1 (s1.getD i.toNat .nilp)==fs 1 (s2.getD i.toNat .nilp)&&(fi 2 (s1.getD i.toNat .nilp)==fi 2 (s2.getD i.toNat .nilp)&&(fi 3 (s1.getD i.toNat .nilp)==fi 3 (s2.getD i.toNat .nilp)&&(fs 4 (s1.getD i.toNat .nilp)==fs 4 (s2.getD i.toNat .nilp)&&(fi 5 (s1.getD i.toNat .nilp)==fi 5 (s2.getD i.toNat .nilp)&&(fi 6 (s1.getD i.toNat .nilp)==fi 6 (s2.getD i.toNat .nilp)&&true))))))) then some [D.bool false] else Tree.out (resume Mq (callN Mq (m+40)) n f 0 c12 (v96 nm nm' n1 n2 s1 s2 (IntKind.wrap .i64 (i+1)))) else none else none else some [D.bool true]:=by kernel_rfl
theorem x50(m n:Nat)(nb:Bool)(bs:List D):Tree.out (enterM Mq (callN Mq (m+40)) n c6 [.d (.sl defSh nb bs)] [])=bif decide (100<(bs.length:Int)) then some [D.bool false] else Tree.out (resume Mq (callN Mq (m+40)) n n 0 c6 { fr:=frame 20 [(0,V.d (D.sl defSh nb bs)),(3,V.d (D.int .i64 0))],ob:=[] }):=by kernel_rfl
def v50(nb:Bool)(bs:List D)(i:Int):St:= { fr:=frame 20 [(0,V.d (D.sl defSh nb bs)),(3,V.d (D.int .i64 i))],ob:=[] }
theorem y50(m n f:Nat)(nb:Bool)(bs:List D)(i:Int):Tree.out (resume Mq (callN Mq (m+40)) n (f+1) 0 c6 (v50 nb bs i))=bif decide (i<(bs.length:Int)) then bif decide (0≤i∧i<(bs.length:Int)) then bif decide (100<(↑(List.length (fl 1 (bs.getD i.toNat .nilp))):Int)) then some [D.bool false] else Tree.out (resume Mq (callN Mq (m+40)) n f 0 c6 (v50 nb bs (IntKind.wrap .i64 (i+1)))) else none else some [D.bool true]:=by kernel_rfl
theorem bs_loop{α:Type}(R:Nat→Nat→Nat→Option α)(n:Nat)(p:Nat→Bool)(fin:Nat→α)
  (hstop: ∀g i j,¬i<j→i≤n→R (g+1) i j=some (fin i))
  (hstep: ∀g i j,i<j→j≤n→R (g+1) i j=bif p ((i+j) / 2) then R g ((i+j) / 2+1) j else R g i ((i+j) / 2)):
  ∀f i j g,j - i≤f→f<g→i≤n→j≤n→R g i j=some (fin (bsF p f i j)):=by
 intro f
 induction f with
 | zero=>
  intro i j g hf hg hi hj
  cases g with
  | zero=>omega
  | succ g=>exact hstop g i j (by omega) hi
 | succ f ih=>
  intro i j g hf hg hi hj
  cases g with
  | zero=>omega
  | succ g=>
   by_cases hij:i<j
   ·rw [hstep g i j hij hj]
    simp only [bsF]
    rw [decide_eq_true hij,cond_true]
    cases p ((i+j) / 2)
    ·exact ih i ((i+j) / 2) g (by omega) (by omega) hi (by omega)
    ·exact ih ((i+j) / 2+1) j g (by omega) (by omega) (by omega) hj
   ·rw [hstop g i j hij hi]
    simp only [bsF]
    rw [decide_eq_false hij,cond_false]
theorem rn195(m n:Nat)(nb:Bool)(bs:List D)(s:List UInt8)(hl:bs.length≤1000000)(hn:bs.length<n):
  (enterM Mq (callN Mq (m+40)) n c25 [.d (.sl defSh nb bs),.d (.str s),.fn 26 [] []] []).outG=some (.tup [.d (.int .i64 (plc s bs:Nat)),.d (.bool (there s bs))],[]):=by
 rw [x195]
 refine bs_loop (fun g i j=>(resume Mq (callN Mq (m+40)) n g 0 c25 (v195 nb bs s (i:Nat) (j:Nat))).outG) bs.length (lessAt s bs) (fun i=>((.tup [.d (.int .i64 (i:Nat)),.d (.bool (bif decide ((i:Int)<(bs.length:Int)) then cmpB (fs 0 (bs.getD i .nilp)) s==0 else false))],[]):V×Obs)) (fun g i j hij hi=> ?_) (fun g i j hij hj=> ?_) bs.length 0 bs.length n (by omega) hn (by omega) (by omega)
 ·show (resume Mq (callN Mq (m+40)) n (g+1) 0 c25 (v195 nb bs s (i:Nat) (j:Nat))).outG=_
  rw [y195]
  refine (cf (decide_eq_false (by omega))).trans ?_
  by_cases hlt:i<bs.length
  ·simp only [Int.toNat_natCast]
   refine (ct (dec_lt hlt)).trans ((ct (dec_ix hlt)).trans ?_)
   rw [dec_lt hlt];rfl
  ·have:decide ((i:Int)<(bs.length:Int))=false:=decide_eq_false (by omega)
   refine (cf this).trans ?_
   rw [this];rfl
 ·show (resume Mq (callN Mq (m+40)) n (g+1) 0 c25 (v195 nb bs s (i:Nat) (j:Nat))).outG=_
  have hh:=half (i:=i) (j:=j) (by omega) (by omega)
  have hlt:(i+j) / 2<bs.length:=by omega
  rw [y195,hh]
  simp only [Int.toNat_natCast,wrap_up hlt hl]
  refine (ct (decide_eq_true (by omega))).trans ((ct (dec_ix hlt)).trans ?_)
  rfl
def C195(args:List V)(ob:Obs):Tree (V×Obs):=
 match args,ob with
 | [.d (.sl e _nb bs),.d (.str s),.fn f [] []],[]=>match Sh.beq e defSh&&Nat.beq f 26 with
  | true=> .ite (decide (bs.length≤1000000)) (fun _=> .ret (.tup [.d (.int .i64 (plc s bs:Nat)),.d (.bool (there s bs))],[])) (fun _=> .stuck)
  | false=> .stuck
 | _,_=> .stuck
theorem fn195{P:Program}(hm:P.follows .mixedOrders=true)(h0:EnvOK P Mq):FnOK P 25 C195:=FnOK.runG hm h0 fun args ob r h=>by
 unfold C195 at h
 split at h
 ·rename_i e nb bs s f
  split at h
  ·rename_i hb
   simp only [Bool.and_eq_true] at hb
   have hb1:=Sh.beq_eq hb.1
   have hb2:=Nat.eq_of_beq_eq_true hb.2
   subst hb1 hb2
   obtain ⟨hg,h'⟩:=eval_guard h
   clear h
   simp only [decide_eq_true_eq] at hg
   cases h'
   exact ⟨(bs.length+40)+1,by rw [callN_succ (fn:=c25) rfl];exact rn195 bs.length (bs.length+40) nb bs s hg (by omega)⟩
  ·cases h
 ·cases h
def defAtI(bs:List D)(i:Nat):D:= .agg [.str (fs 0 (bs.getD i .nilp)),.sl stepSh (fn 1 (bs.getD i .nilp)) (fl 1 (bs.getD i .nilp))]
def zDef:D:= .agg [.str [],.sl stepSh true []]
def findT(bs:List D)(s:List UInt8):Tree (List D):= .ite (bookOk bs&&decide (0≤nameIdx s bs)) (fun _=> .ret [defAtI bs (nameIdx s bs).toNat,.bool true]) (fun _=> .ret [zDef,.bool false])
theorem rn62(m n:Nat)(nb:Bool)(bs:List D)(s:List UInt8)(hl:bs.length≤1000000)(hn:bs.length<n):(enterM Mq (callN Mq (m+40)) n c9 [.d (.sl defSh nb bs),.d (.str s)] []).out=(findT bs s).eval:=by
 rw [x62]
 have e1:(findT bs s).eval=some (bif bookOk bs&&decide (0≤nameIdx s bs) then [defAtI bs (nameIdx s bs).toNat,.bool true] else [zDef,.bool false]):=by
  unfold findT
  cases (bookOk bs&&decide (0≤nameIdx s bs)) <;> rfl
 rw [e1]
 cases hb:bookOk bs
 ·rfl
 ·refine (cf rfl).trans ?_
  have:=scan_loop (fun j i=>(resume Mq (callN Mq (m+40)) n j 0 c9 (v62 nb bs s (i:Nat))).out) bs.length (fun i=>fs 0 (bs.getD i .nilp)==s) (fun i=>[defAtI bs i,.bool true]) [zDef,.bool false]
   (fun j i hi=> ?_) (fun j=> ?_) bs.length 0 n (by omega) hn
  ·refine this.trans ?_
   have e:=scan_map (fun x:Int=>bif decide (0≤x) then [defAtI bs x.toNat,.bool true] else [zDef,.bool false]) (fun i=>fs 0 (bs.getD i .nilp)==s) (fun i=>(i:Int)) (-1) bs.length 0
   have e0:(fun i:Nat=>bif decide (0≤(i:Int)) then [defAtI bs (i:Int).toNat,.bool true] else [zDef,.bool false])=fun i=>[defAtI bs i,.bool true]:=by
    funext i
    rw [decide_eq_true (Int.natCast_nonneg i),Int.toNat_natCast];rfl
   rw [e0] at e
   refine congrArg some (e.trans ?_)
   rw [scan_idx0 (fun x=>fs 0 x==s) .nilp bs]
   rfl
  ·rw [y62]
   simp only [Int.toNat_natCast,wrap_up hi hl]
   refine (ct (dec_lt hi)).trans ((ct (dec_ix hi)).trans ?_)
   rw [dec_ix hi];rfl
  ·rw [y62]
   exact cf (dec_end _)
def stepEq(x y:D):Bool:=fi 0 x==fi 0 y&&(fs 1 x==fs 1 y&&(fi 2 x==fi 2 y&&(fi 3 x==fi 3 y&&(fs 4 x==fs 4 y&&(fi 5 x==fi 5 y&&(fi 6 x==fi 6 y&&true))))))
def stepsEq(a b:List D):Bool:= !((a.length:Int) != (b.length:Int))&&allN (fun i=>stepEq (a.getD i .nilp) (b.getD i .nilp)) a.length
theorem stepsEq_self(a:List D):stepsEq a a=true:=by
 unfold stepsEq
 have:allN (fun i=>stepEq (a.getD i .nilp) (a.getD i .nilp)) a.length=true:=allN_iff.2 fun i _=>by
  unfold stepEq
  simp only [beq_self_eq_true,Bool.and_self]
 rw [this];simp
theorem scan_boolD(p:Nat→Bool)(n:Nat):scan (fun i=> !p i) (fun _=>[D.bool false]) [D.bool true] n 0=[D.bool (allN p n)]:=by
 unfold allN
 exact scan_map (fun x:Bool=>[D.bool x]) (fun i=> !p i) (fun _=>false) true n 0
theorem rn96(m n:Nat)(nm nm':List UInt8)(n1 n2:Bool)(s1 s2:List D)(hl:s1.length≤1000000)(hn:s1.length<n):
  (enterM Mq (callN Mq (m+40)) n c12 [.d (.agg [.str nm,.sl stepSh n1 s1]),.d (.agg [.str nm',.sl stepSh n2 s2])] []).out=some [.bool (nm==nm'&&stepsEq s1 s2)]:=by
 rw [x96]
 unfold stepsEq
 cases (nm==nm')
 ·rfl
 ·refine (cf rfl).trans ?_
  cases he:((s1.length:Int) != (s2.length:Int))
  ·refine (cf rfl).trans ?_
   have he:s1.length=s2.length:=by simp only [bne_eq_false_iff_eq] at he;omega
   have:=scan_loop (fun j i=>(resume Mq (callN Mq (m+40)) n j 0 c12 (v96 nm nm' n1 n2 s1 s2 (i:Nat))).out) s1.length (fun i=> !stepEq (s1.getD i .nilp) (s2.getD i .nilp)) (fun _=>[D.bool false]) [.bool true]
    (fun j i hi=> ?_) (fun j=> ?_) s1.length 0 n (by omega) hn
   ·refine this.trans ?_
    rw [scan_boolD]
    rfl
   ·rw [y96]
    simp only [Int.toNat_natCast,wrap_up hi hl]
    exact (ct (dec_lt hi)).trans ((ct (dec_ix hi)).trans (ct (dec_ix (show i<s2.length by omega))))
   ·rw [y96]
    exact cf (dec_end _)
  ·rfl
def fewB(bs:List D):Bool:= !decide (100<(bs.length:Int))&&allN (fun i=> !decide (100<((fl 1 (bs.getD i .nilp)).length:Int))) bs.length
theorem rn50(m n:Nat)(nb:Bool)(bs:List D)(hn:100<n):(enterM Mq (callN Mq (m+40)) n c6 [.d (.sl defSh nb bs)] []).out=some [.bool (fewB bs)]:=by
 rw [x50]
 unfold fewB
 by_cases h:100<(bs.length:Int)
 ·rw [decide_eq_true h];rfl
 ·rw [decide_eq_false h]
  refine (cf rfl).trans ?_
  have:=scan_loop (fun j i=>(resume Mq (callN Mq (m+40)) n j 0 c6 (v50 nb bs (i:Nat))).out) bs.length (fun i=> !!decide (100<((fl 1 (bs.getD i .nilp)).length:Int))) (fun _=>[D.bool false]) [.bool true]
   (fun j i hi=> ?_) (fun j=> ?_) bs.length 0 n (by omega) (by omega)
  ·refine this.trans ?_
   rw [scan_boolD (fun i=> !decide (100<((fl 1 (bs.getD i .nilp)).length:Int)))]
   rfl
  ·rw [y50,Bool.not_not]
   simp only [Int.toNat_natCast,wrap_up hi (show bs.length≤1000000 by omega)]
   exact (ct (dec_lt hi)).trans (ct (dec_ix hi))
  ·rw [y50]
   exact cf (dec_end _)
def g62m:List D→Tree (List D)
 | [.sl e0 _nb bs,.str s]=>match Sh.beq e0 defSh with
  | true=> .ite (decide (bs.length≤1000000)) (fun _=>findT bs s) (fun _=> .stuck)
  | false=> .stuck
 | _=> .stuck
theorem pure62m{P:Program}(hm:P.follows .mixedOrders=true)(h0:EnvOK P Mq):PureOK P 9 g62m:=PureOK.run hm h0 fun ds rs h=>by
 unfold g62m at h
 split at h
 ·rename_i e0 nb bs s
  split at h
  ·rename_i hb
   have hb0:=hb
   have hb0:=Sh.beq_eq hb0
   subst hb0
   obtain ⟨hg,h'⟩:=eval_guard h
   clear h
   simp only [decide_eq_true_eq] at hg
   exact ⟨(bs.length+40)+1,by rw [callN_succ (fn:=c9) rfl];exact (rn62 bs.length (bs.length+40) nb bs s hg (by omega)).trans h'⟩
  ·cases h
 ·cases h
def g96m:List D→Tree (List D)
 | [.agg [.str nm,.sl e0 _n1 s1],.agg [.str nm',.sl e1 _n2 s2]]=>match Sh.beq e0 stepSh&&Sh.beq e1 stepSh with
  | true=> .ite (decide (s1.length≤1000000)) (fun _=> .ret [.bool (nm==nm'&&stepsEq s1 s2)]) (fun _=> .stuck)
  | false=> .stuck
 | _=> .stuck
theorem pure96m{P:Program}(hm:P.follows .mixedOrders=true)(h0:EnvOK P Mq):PureOK P 12 g96m:=PureOK.run hm h0 fun ds rs h=>by
 unfold g96m at h
 split at h
 ·rename_i nm e0 n1 s1 nm' e1 n2 s2
  split at h
  ·rename_i hb
   simp only [Bool.and_eq_true] at hb
   obtain ⟨hb0,hb1⟩:=hb
   have hb0:=Sh.beq_eq hb0
   have hb1:=Sh.beq_eq hb1
   subst hb0 hb1
   obtain ⟨hg,h'⟩:=eval_guard h
   clear h
   simp only [decide_eq_true_eq] at hg
   cases h'
   exact ⟨(s1.length+40)+1,by rw [callN_succ (fn:=c12) rfl];exact rn96 s1.length (s1.length+40) nm nm' n1 n2 s1 s2 hg (by omega)⟩
  ·cases h
 ·cases h
def g50m:List D→Tree (List D)
 | [.sl e0 _nb bs]=>match Sh.beq e0 defSh with
  | true=> .ret [.bool (fewB bs)]
  | false=> .stuck
 | _=> .stuck
theorem pure50m{P:Program}(hm:P.follows .mixedOrders=true)(h0:EnvOK P Mq):PureOK P 6 g50m:=PureOK.run hm h0 fun ds rs h=>by
 unfold g50m at h
 split at h
 ·rename_i e0 nb bs
  split at h
  ·rename_i hb
   have hb0:=hb
   have hb0:=Sh.beq_eq hb0
   subst hb0
   cases h
   exact ⟨159+1,by rw [callN_succ (fn:=c6) rfl];exact rn50 119 159 nb bs (by omega)⟩
  ·cases h
 ·cases h
def Ms:Env:=(((Mq.pureAt 9 false g62m).pureAt 12 true g96m).pureAt 6 true g50m).genAt 25 C195
theorem okMs{P:Program}(hm:P.follows .mixedOrders=true)(h:EnvOK P Mq):EnvOK P Ms:=(((h.pureAt (pure62m hm h)).pureAt (pure96m hm h)).pureAt (pure50m hm h)).genAt (fn195 hm h)
theorem x162(m n:Nat)(nm:List UInt8)(nil:Bool)(es:List D):Tree.out (enterM Ms (callN Ms (m+40)) n c18 [.d (.agg [.str nm,.sl stepSh nil es])] [])=bif nil then some [D.agg [D.str nm,D.sl stepSh true []]] else bif decide (es.length≤1000000) then some [D.agg [D.str nm,D.sl stepSh false es]] else none:=by kernel_rfl
theorem empty_if{b:Bool}{l:List D}(h:(!b||l.isEmpty)=true)(hb:b=true):l=[]:=by
 rw [hb] at h;exact List.isEmpty_iff.1 h
def shortL(b:Bool)(l:List D):Bool:=(!b||l.isEmpty)&&decide (l.length≤1000000)
theorem shortL_iff{b:Bool}{l:List D}:shortL b l=true↔(b=true→l=[])∧l.length≤1000000:=by
 unfold shortL
 rw [Bool.and_eq_true,decide_eq_true_eq]
 exact and_congr_left fun _=>⟨empty_if,fun h=>by cases b with
  | false=>rfl
  | true=>rw [h rfl];rfl⟩
theorem rn162(m n:Nat)(nm:List UInt8)(nil:Bool)(es:List D)(h:shortL nil es=true):(enterM Ms (callN Ms (m+40)) n c18 [.d (.agg [.str nm,.sl stepSh nil es])] []).out=some [.agg [.str nm,.sl stepSh nil es]]:=by
 rw [shortL_iff] at h
 rw [x162,decide_eq_true h.2]
 have e:=h.1
 cases nil
 ·rfl
 ·rw [e rfl];rfl
def g162m:List D→Tree (List D)
 | [.agg [.str nm,.sl e0 nil es]]=>match Sh.beq e0 stepSh with
  | true=> .ite (shortL nil es) (fun _=> .ret [.agg [.str nm,.sl e0 nil es]]) (fun _=> .stuck)
  | false=> .stuck
 | _=> .stuck
theorem pure162m{P:Program}(hm:P.follows .mixedOrders=true)(h0:EnvOK P Ms):PureOK P 18 g162m:=PureOK.run hm h0 fun ds rs h=>by
 unfold g162m at h
 split at h
 ·rename_i nm e0 nil es
  split at h
  ·rename_i hb
   have hb0:=hb
   have hb0:=Sh.beq_eq hb0
   subst hb0
   obtain ⟨hg,h'⟩:=eval_guard h
   clear h
   cases h'
   exact ⟨59+1,by rw [callN_succ (fn:=c18) rfl];exact rn162 19 59 nm nil es hg⟩
  ·cases h
 ·cases h
def Mt:Env:=Ms.pureAt 18 false g162m
theorem okMt{P:Program}(hm:P.follows .mixedOrders=true)(h:EnvOK P Ms):EnvOK P Mt:=h.pureAt (pure162m hm h)
theorem x110(m n:Nat)(nb:Bool)(bs:List D)(s:List UInt8):Tree.out (enterM Mt (callN Mt (m+40)) n c8 [.d (.sl defSh nb bs),.d (.str s)] [])=bif (bif bookOk bs then (0:Int) else (2:Int)) != 0 then some [D.agg [D.str [],D.sl stepSh true []],D.bool false] else bif decide (bs.length≤1000000) then bif !there s bs then some [D.agg [D.str [],D.sl stepSh true []],D.bool false] else bif decide (0≤(↑(plc s bs):Int)∧(↑(plc s bs):Int)<(bs.length:Int)) then bif shortL (fn 1 (List.getD bs (plc s bs) D.nilp)) (fl 1 (List.getD bs (plc s bs) D.nilp)) then some [D.agg [D.str (fs 0 (List.getD bs (plc s bs) D.nilp)),D.sl stepSh (fn 1 (List.getD bs (plc s bs) D.nilp)) (fl 1 (List.getD bs (plc s bs) D.nilp))],D.bool true] else none else none else none:=by kernel_rfl
def bookShort(bs:List D):Bool:=allN (fun i=>shortL (fn 1 (bs.getD i .nilp)) (fl 1 (bs.getD i .nilp))) bs.length&&decide (bs.length≤1000000)
theorem book_rising{bs:List D}(h:bookOk bs=true):Rising bs:=fun i hi=>by
 unfold bookOk at h
 rw [Bool.and_eq_true] at h
 have:=allN_iff.1 h.2 i hi
 unfold defAt at this
 rw [Bool.and_eq_true] at this
 exact this.2
theorem plc_idx{es:List D}(h:Rising es){s:List UInt8}(ht:there s es=true):plc s es=(nameIdx s es).toNat∧plc s es<es.length:=by
 have hn:=there_idx h s
 rw [ht] at hn
 have h0:0≤nameIdx s es:=by
  by_cases hc:nameIdx s es<0
  ·rw [decide_eq_true hc] at hn;cases hn
  ·omega
 have hp:plc s es<es.length∧fs 0 (es.getD (plc s es) .nilp)=s:=by
  unfold there at ht
  by_cases hlt:plc s es<es.length
  ·rw [dec_lt hlt,cond_true,cmp_zero,beq_iff_eq] at ht
   exact ⟨hlt,ht⟩
  ·rw [decide_eq_false (by omega)] at ht;cases ht
 obtain ⟨p1,p2,-⟩:=idxOf_pos (q:=fun x=>fs 0 x==s) (show 0≤idxOf (fun x=>fs 0 x==s) es from h0)
 rw [beq_iff_eq] at p2
 exact ⟨rising_inj h hp.1 p1 (hp.2.trans p2.symm),hp.1⟩
theorem findT_eval(bs:List D)(s:List UInt8):(findT bs s).eval=some (bif bookOk bs&&decide (0≤nameIdx s bs) then [defAtI bs (nameIdx s bs).toNat,.bool true] else [zDef,.bool false]):=by
 unfold findT
 cases (bookOk bs&&decide (0≤nameIdx s bs)) <;> rfl
theorem rn110(m n:Nat)(nb:Bool)(bs:List D)(s:List UInt8)(h:bookShort bs=true):(enterM Mt (callN Mt (m+40)) n c8 [.d (.sl defSh nb bs),.d (.str s)] []).out=(findT bs s).eval:=by
 unfold bookShort at h
 rw [Bool.and_eq_true,decide_eq_true_eq,allN_iff] at h
 rw [x110,findT_eval,decide_eq_true h.2]
 cases hb:bookOk bs
 ·rfl
 ·have hr:=book_rising hb
  have e1:decide (0≤nameIdx s bs)=there s bs:=by
   rw [there_idx hr]
   by_cases hc:nameIdx s bs<0
   ·rw [decide_eq_true hc,decide_eq_false (by omega)];rfl
   ·rw [decide_eq_false hc,decide_eq_true (by omega)];rfl
  rw [e1]
  cases ht:there s bs
  ·rfl
  ·obtain ⟨e3,e4⟩:=plc_idx hr ht
   refine (cf rfl).trans ((ct rfl).trans ((cf rfl).trans ((ct (dec_ix e4)).trans ((ct (h.1 _ e4)).trans ?_))))
   rw [e3];rfl
def g110m:List D→Tree (List D)
 | [.sl e0 _nb bs,.str s]=>match Sh.beq e0 defSh with
  | true=> .ite (bookShort bs) (fun _=>findT bs s) (fun _=> .stuck)
  | false=> .stuck
 | _=> .stuck
theorem pure110m{P:Program}(hm:P.follows .mixedOrders=true)(h0:EnvOK P Mt):PureOK P 8 g110m:=PureOK.run hm h0 fun ds rs h=>by
 unfold g110m at h
 split at h
 ·rename_i e0 nb bs s
  split at h
  ·rename_i hb
   have hb0:=hb
   have hb0:=Sh.beq_eq hb0
   subst hb0
   obtain ⟨hg,h'⟩:=eval_guard h
   clear h
   exact ⟨59+1,by rw [callN_succ (fn:=c8) rfl];exact (rn110 19 59 nb bs s hg).trans h'⟩
  ·cases h
 ·cases h
def Mu:Env:=Mt.pureAt 8 false g110m
theorem okMu{P:Program}(hm:P.follows .mixedOrders=true)(h:EnvOK P Mt):EnvOK P Mu:=h.pureAt (pure110m hm h)
structure An where
 b1:Bool
 ms:List D
 b2:Bool
 ns:List D
def An.d(a:An):D:= .agg [.sl moveSh a.b1 a.ms,.sl noteSh a.b2 a.ns]
def nilB(bs:List D):Prop:= ∀i,i<bs.length→(fn 1 (bs.getD i .nilp)=true→fl 1 (bs.getD i .nilp)=[])
end Go.Proofs.YtlhageadjmoajaaDoor.A
namespace Go.AM
open Go
inductive WF:Sh→D→Prop where
 | bool (b:Bool):WF .bool (.bool b)
 | int (k:IntKind) (n:Int) (h:k.min≤n∧n≤k.max):WF (.int k) (.int k n)
 | str (s:List UInt8) (h:s.length≤maxLen):WF .str (.str s)
 | slnil (e:Sh):WF (.sl e) (.sl e true [])
 | sl (e:Sh) (es:List D) (hl:es.length≤maxLen) (h: ∀x∈es,WF e x):WF (.sl e) (.sl e false es)
 | agg (fs:List Sh) (cs:List D) (ha: ∀f∈fs,f.isAgg=false) (hl:fs.length=cs.length) (h: ∀(i:Nat) f c,fs[i]? =some f→cs[i]? =some c→WF f c):WF (.agg fs) (.agg cs)
def WFL(fs:List Sh)(cs:List D):Prop:=(∀f∈fs,f.isAgg=false)∧fs.length=cs.length∧ ∀(i:Nat) f c,fs[i]? =some f→cs[i]? =some c→WF f c
inductive Ty where
 | bool | int (k:IntKind) | str | sl (e:Ty) | st (fs:List Ty)
mutual
def Ty.shl:Ty→List Sh
 | .bool=>[.bool]
 | .int k=>[.int k]
 | .str=>[.str]
 | .sl e=>[.sl (Ty.sh e)]
 | .st fs=>Ty.shls fs
def Ty.shls:List Ty→List Sh
 | []=>[]
 | f :: fs=>Ty.shl f++Ty.shls fs
def Ty.sh:Ty→Sh
 | .bool=> .bool
 | .int k=> .int k
 | .str=> .str
 | .sl e=> .sl (Ty.sh e)
 | .st fs=> .agg (Ty.shls fs)
end
theorem Ty.sh_leafs(t:Ty):t.sh.leafs=t.shl:=by
 cases t <;> simp [Ty.sh,Ty.shl,Sh.leafs]
mutual
def tyOk(P:Program):Ty→TypeId→Bool
 | .bool,t=>match P.underlying t with
  | some .bool=>true
  | _=>false
 | .int k,t=>match P.underlying t with
  | some (.int j)=>decide (j=k)
  | _=>false
 | .str,t=>match P.underlying t with
  | some .string=>true
  | _=>false
 | .sl e,t=>match P.underlying t with
  | some (.slice u)=>tyOk P e u&&Nat.beq (P.cellsOf u) (Ty.shl e).length&& !((Ty.shl e).isEmpty)
  | _=>false
 | .st ts,t=>match P.underlying t with
  | some (.struct fs)=>tyOks P ts fs.toList 0 (P.cellsOf t)
  | _=>false
def tyOks(P:Program):List Ty→List Field→Nat→Nat→Bool
 | [],[],off,tot=>Nat.beq off tot
 | t :: ts,f :: fs,off,tot=>Nat.beq f.offset off&&Nat.beq (P.cellsOf f.type) (Ty.shl t).length&&tyOk P t f.type&&tyOks P ts fs (off+(Ty.shl t).length) tot
 | _,_,_,_=>false
end
section
variable {P:Program} {w:World} {H:Type} {enc:TypeId×Value→H} {base:Nat} {spare:Nat→Bool} {held:Bool}
theorem WFL.nil:WFL [] []:=⟨by simp,rfl,fun i f c h=>by simp at h⟩
theorem WFL.append{fs gs:List Sh}{cs ds:List D}(h:WFL fs cs)(h':WFL gs ds):WFL (fs++gs) (cs++ds):=by
 refine ⟨fun f hf=>(List.mem_append.1 hf).elim (h.1 f) (h'.1 f),by simp [h.2.1,h'.2.1],fun i f c hf hc=> ?_⟩
 have hl:=h.2.1
 by_cases hi:i<fs.length
 ·rw [List.getElem?_append_left hi] at hf
  rw [List.getElem?_append_left (by rw [←hl];exact hi)] at hc
  exact h.2.2 i f c hf hc
 ·rw [List.getElem?_append_right (by omega)] at hf
  rw [List.getElem?_append_right (by rw [←hl];omega),←hl] at hc
  exact h'.2.2 _ f c hf hc
theorem WFL.cons{f:Sh}{c:D}{fs:List Sh}{cs:List D}(ha:f.isAgg=false)(hc:WF f c)(h:WFL fs cs):WFL (f :: fs) (c :: cs):=
 WFL.append (fs:=[f]) (cs:=[c]) ⟨by simpa using ha,rfl,fun i g d hg hd=>by
  cases i with
  | zero=>simp at hg hd;subst hg hd;exact hc
  | succ i=>simp at hg⟩ h
theorem RDs.append{Y:Nat→Prop}{cs ds:List D}{us vs:List Value}(h:RDs w Y cs us)(h':RDs w Y ds vs):RDs w Y (cs++ds) (us++vs):=by
 have:=(RVL.map_d (β:=fun _=> .nil) (ob:=[]) h.1 h.2).append (RVL.map_d (β:=fun _=> .nil) (ob:=[]) h'.1 h'.2)
 rw [←List.map_append] at this
 exact this.of_map_d
theorem WF.fitsLeaf{s:Sh}{x:D}(h:WF s x)(ha:s.isAgg=false):fitsLeaf s x=true:=by
 cases h <;> simp_all [AM.fitsLeaf,Sh.isAgg]
 ·have: ∀e:Sh,Sh.beq e e=true:=by
   intro e
   induction e using Sh.rec (motive_2:=fun l=>Sh.beqL l l=true) with
   | bool=>rfl
   | int k=>simp [Sh.beq]
   | str=>rfl
   | sl e ih=>simpa [Sh.beq] using ih
   | agg fs ih=>simpa [Sh.beq] using ih
   | nil=>rfl
   | cons a l ih1 ih2=>simp [Sh.beqL,ih1,ih2]
  exact this _
 ·have: ∀e:Sh,Sh.beq e e=true:=by
   intro e
   induction e using Sh.rec (motive_2:=fun l=>Sh.beqL l l=true) with
   | bool=>rfl
   | int k=>simp [Sh.beq]
   | str=>rfl
   | sl e ih=>simpa [Sh.beq] using ih
   | agg fs ih=>simpa [Sh.beq] using ih
   | nil=>rfl
   | cons a l ih1 ih2=>simp [Sh.beqL,ih1,ih2]
  exact this _
theorem WFL.fitsL: ∀{fs:List Sh} {cs:List D},WFL fs cs→fitsL fs cs=true
 | [],[],_=>rfl
 | [],_ :: _,h=>by simp [WFL] at h
 | _ :: _,[],h=>by simp [WFL] at h
 | f :: fs,c :: cs,h=>by
  simp only [AM.fitsL,Bool.and_eq_true]
  refine ⟨(h.2.2 0 f c rfl rfl).fitsLeaf (h.1 f (by simp)),WFL.fitsL ⟨fun g hg=>h.1 g (by simp [hg]),by simpa using h.2.1,fun i g d hg hd=>h.2.2 (i+1) g d (by simpa using hg) (by simpa using hd)⟩⟩
theorem WF.fits{s:Sh}{x:D}(h:WF s x):fits s x=true:=by
 cases h with
 | agg fs cs ha hl hh=>exact WFL.fitsL ⟨ha,hl,hh⟩
 | bool b=>rfl
 | int k n hn=>simp [AM.fits,AM.fitsLeaf]
 | str s hs=>rfl
 | slnil e=>exact (WF.slnil e).fitsLeaf rfl
 | sl e es hl hh=>exact (WF.sl e es hl hh).fitsLeaf rfl
theorem WFL.one{s:Sh}{ds:List D}(h:WFL s.leafs ds): ∃x,x.cells=ds∧WF s x:=by
 cases s with
 | agg fs=>exact ⟨.agg ds,rfl,.agg fs ds h.1 h.2.1 h.2.2⟩
 | _=>
  obtain ⟨h1,h2,h3⟩:=h
  simp only [Sh.leafs,List.length_singleton] at h2
  match ds,h2 with
  | [c],_=>
   have hc:=h3 0 _ c rfl rfl
   refine ⟨c,?_,hc⟩
   cases hc <;> rfl
theorem rds_one{Y:Nat→Prop}{d:D}{v:Value}(h:RD w Y d v):RDs w Y [d] [v]:=by
 refine ⟨rfl,fun j c u h1 h2=> ?_⟩
 cases j with
 | zero=>simp only [List.getElem?_cons_zero,Option.some.injEq] at h1 h2;subst h1 h2;exact h
 | succ j=>simp at h1
theorem wfl_one{s:Sh}{d:D}(ha:s.isAgg=false)(h:WF s d):WFL [s] [d]:=WFL.cons ha h WFL.nil
theorem lit_int{k:IntKind}{n:Int}(h:(Lit.int k n).wf=true):k.min≤n∧n≤k.max:=by
 simpa [Lit.wf,and_comm] using h
mutual
theorem trod_ty: ∀(τ:Ty) (fuel:Nat) (t:TypeId) (cs:List Value) (x:DataW H×List MemPlace),tyOk P τ t=true→DataW.trod enc P w base spare held fuel t cs=some x→
  ∃ds,RDs w (fun _=>False) ds cs∧WFL τ.shl ds
 | .bool,fuel,t,cs,x,ht,h=>by
  unfold tyOk at ht
  split at ht
  ·rename_i hu
   obtain ⟨b,rfl,-⟩:=DataW.trod_bool hu h
   exact ⟨[.bool b],rds_one (.bool b),wfl_one rfl (.bool b)⟩
  ·cases ht
 | .int k,fuel,t,cs,x,ht,h=>by
  unfold tyOk at ht
  split at ht
  ·rename_i j hu
   have hj:=of_decide_eq_true ht
   subst hj
   obtain ⟨n,rfl,-,hn⟩:=DataW.trod_int hu h
   exact ⟨[.int j n],rds_one (.int j n),wfl_one rfl (.int j n (lit_int hn))⟩
  ·cases ht
 | .str,fuel,t,cs,x,ht,h=>by
  unfold tyOk at ht
  split at ht
  ·rename_i hu
   obtain ⟨s,rfl,-,hs⟩:=DataW.trod_string hu h
   refine ⟨[.str s.data.toList],rds_one ?_,wfl_one rfl (.str _ (by simpa using hs))⟩
   have:=RD.str (w:=w) (Y:=fun _=>False) s.data.toList
   simpa using this
  ·cases ht
 | .sl e,fuel,t,cs,x,ht,h=>by
  unfold tyOk at ht
  split at ht
  ·rename_i u hu
   simp only [Bool.and_eq_true,Bool.not_eq_true'] at ht
   obtain ⟨⟨he,hsz⟩,hne⟩:=ht
   have hsz:=Nat.eq_of_beq_eq_true hsz
   rcases DataW.trod_slice hu h with ⟨rfl,-⟩ | ⟨a,len,cap,elems,rest,n,-,rfl,-,hb,hlc,hcm,hel,hget,-,-⟩
   ·exact ⟨[.sl e.sh true []],rds_one (.slnil e.sh),wfl_one rfl (.slnil e.sh)⟩
   ·have key: ∀i,∃y:D,i<len→ ∃ci,w.cells? base (a.add (i*P.cellsOf u)) (P.cellsOf u)=some ci∧RDs w (fun _=>False) y.cells ci∧WF e.sh y:=by
     intro i
     by_cases hi:i<len
     ·have hg:=hget i hi
      have:i<elems.length:=by omega
      rw [List.getElem?_eq_getElem this] at hg
      cases hc:w.cells? base (a.add (i*P.cellsOf u)) (P.cellsOf u) with
      | none=>rw [hc] at hg;cases hg
      | some ci=>
       rw [hc] at hg
       obtain ⟨ds,h1,h2⟩:=trod_ty e n u ci _ he hg
       rw [←Ty.sh_leafs] at h2
       obtain ⟨y,rfl,hy⟩:=h2.one
       exact ⟨y,fun _=>⟨ci,rfl,h1,hy⟩⟩
     ·exact ⟨.nilp,fun h=>(hi h).elim⟩
    obtain ⟨f,hf⟩: ∃f:Nat→D,∀i,i<len→ ∃ci,w.cells? base (a.add (i*P.cellsOf u)) (P.cellsOf u)=some ci∧RDs w (fun _=>False) (f i).cells ci∧WF e.sh (f i):=
     ⟨fun i=>Classical.choose (key i),fun i=>Classical.choose_spec (key i)⟩
    have hes:((List.range len).map f).length=len:=by simp
    have hat: ∀(i:Nat) y,((List.range len).map f)[i]? =some y→i<len∧y=f i:=by
     intro i y hy
     have hi:i<len:=by
      have:=(List.getElem?_eq_some_iff.1 hy).1
      simpa using this
     refine ⟨hi,?_⟩
     simp only [List.getElem?_map,List.getElem?_range hi,Option.map_some,Option.some.injEq] at hy
     exact hy.symm
    have hwf: ∀y∈(List.range len).map f,WF e.sh y:=by
     intro y hy
     obtain ⟨i,hi,rfl⟩:=List.mem_map.1 hy
     obtain ⟨ci,-,-,hw⟩:=hf i (List.mem_range.1 hi)
     exact hw
    refine ⟨[.sl e.sh false ((List.range len).map f)],rds_one ?_,wfl_one rfl (.sl e.sh _ (by rw [hes];omega) hwf)⟩
    have hsize:e.sh.size=P.cellsOf u:=by rw [hsz,Sh.size,Ty.sh_leafs]
    have hcell: ∀(i:Nat) y (j:Nat) c,((List.range len).map f)[i]? =some y→y.cells[j]? =some c→ ∃v,w.cell? ((a.add (i*P.cellsOf u)).add j)=some v∧RD w (fun _=>False) c v:=by
     intro i y j c hy hc
     obtain ⟨hi,rfl⟩:=hat i y hy
     obtain ⟨ci,hci,hr,-⟩:=hf i hi
     obtain ⟨-,hl,hcs⟩:=World.cells?_some hci
     have hj:j<ci.length:=by rw [←hr.1];exact (List.getElem?_eq_some_iff.1 hc).1
     refine ⟨ci[j],?_,hr.2 j c _ hc (List.getElem?_eq_getElem hj)⟩
     rw [hcs j (by omega),List.getElem?_eq_getElem hj]
    have hspot:0<len→a.spot=none:=by
     intro h0
     obtain ⟨ci,hci,hr,-⟩:=hf 0 h0
     obtain ⟨-,hl,hcs⟩:=World.cells?_some hci
     have hpos:0<P.cellsOf u:=by
      rw [hsz]
      cases hz:Ty.shl e with
      | nil=>rw [hz] at hne;cases hne
      | cons s l=>simp
     have h1:=hcs 0 hpos
     have h2:0<ci.length:=by omega
     rw [List.getElem?_eq_getElem h2] at h1
     have e1:(a.add (0*P.cellsOf u)).add 0=a:=by simp [Addr.add]
     rw [e1] at h1
     unfold World.cell? at h1
     split at h1
     ·split at h1
      ·cases h1
      ·rename_i hs
       cases hsp:a.spot with
       | none=>rfl
       | some z=>rw [hsp] at hs;simp at hs
     ·cases h1
    have hadd: ∀i j,a.spot=none→(a.add (i*P.cellsOf u)).add j=⟨a.block,a.off+(i*e.sh.size+j),none⟩:=by
     intro i j hs
     rw [hsize]
     obtain ⟨ab,ao,zas⟩:=a
     simp only at hs
     subst hs
     unfold Addr.add
     by_cases h1:i*P.cellsOf u=0 <;> by_cases h2:j=0 <;> simp [h1,h2]
     omega
    have hmain:=RD.sl (w:=w) (Y:=fun _=>False) e.sh ((List.range len).map f) a cap
     (fun i j=>(w.cell? ((a.add (i*P.cellsOf u)).add j)).getD undef) (by rw [hes];exact hlc) (fun y hy=>(hwf y hy).fits)
     (fun i y j c hy hc=>by
      obtain ⟨v,hv,-⟩:=hcell i y j c hy hc
      have hs:=hspot (by have:=(hat i y hy).1;omega)
      refine ⟨fun h=>h.elim,hs,?_⟩
      rw [←hadd i j hs,hv]
      rfl)
     (fun i y j c hy hc=>by
      obtain ⟨v,hv,hr⟩:=hcell i y j c hy hc
      show RD w _ c ((w.cell? ((a.add (i*P.cellsOf u)).add j)).getD undef)
      rw [hv]
      exact hr)
    rw [hes] at hmain
    exact hmain
  ·cases ht
 | .st ts,fuel,t,cs,x,ht,h=>by
  unfold tyOk at ht
  split at ht
  ·rename_i fs hu
   obtain ⟨xs,n,-,-,hcs,hxl,hf⟩:=DataW.trod_struct hu h
   have:=trod_tys ts fs.toList 0 (P.cellsOf t) n cs ht hcs (fun f hfm=>by
    obtain ⟨i,hi,rfl⟩:=List.mem_iff_getElem.1 hfm
    have hi':i<fs.size:=by simpa using hi
    have:=hf i fs[i] (by simp [hi'])
    have hx:i<xs.length:=by omega
    rw [List.getElem?_eq_getElem hx] at this
    exact ⟨xs[i],by simpa using this⟩)
   simpa [Ty.shl] using this
  ·cases ht
theorem trod_tys: ∀(ts:List Ty) (fs:List Field) (off tot n:Nat) (cs:List Value),tyOks P ts fs off tot=true→cs.length=tot→
  (∀f∈fs,∃y,DataW.trod enc P w base spare held n f.type ((cs.drop f.offset).take (P.cellsOf f.type))=some y)→ ∃ds,RDs w (fun _=>False) ds (cs.drop off)∧WFL (Ty.shls ts) ds
 | [],[],off,tot,n,cs,h,hl,_=>by
  simp only [tyOks] at h
  have:=Nat.eq_of_beq_eq_true h
  refine ⟨[],⟨?_,fun j c v hc=>by simp at hc⟩,WFL.nil⟩
  simp;omega
 | [],_ :: _,off,tot,n,cs,h,_,_=>by simp [tyOks] at h
 | _ :: _,[],off,tot,n,cs,h,_,_=>by simp [tyOks] at h
 | τ :: ts,f :: fs,off,tot,n,cs,h,hl,hf=>by
  simp only [tyOks,Bool.and_eq_true] at h
  obtain ⟨⟨⟨h1,h2⟩,h3⟩,h4⟩:=h
  have h1:=Nat.eq_of_beq_eq_true h1
  have h2:=Nat.eq_of_beq_eq_true h2
  obtain ⟨y,hy⟩:=hf f (by simp)
  obtain ⟨ds1,r1,w1⟩:=trod_ty τ n f.type _ y h3 hy
  obtain ⟨ds2,r2,w2⟩:=trod_tys ts fs (off+(Ty.shl τ).length) tot n cs h4 hl (fun g hg=>hf g (by simp [hg]))
  refine ⟨ds1++ds2,?_,by simpa [Ty.shls] using w1.append w2⟩
  have:=r1.append r2
  rw [h1,h2] at this
  have e:List.take (Ty.shl τ).length (List.drop off cs)++List.drop (off+(Ty.shl τ).length) cs=List.drop off cs:=by
   rw [←List.drop_drop,List.take_append_drop]
  rw [e] at this
  exact this
end
end
open Go Go.ChangeShapes Go.WideElems
section
variable {P:Program} {w w':World} {H:Type} {enc:TypeId×Value→H}
def tyArg(P:Program)(τ:Ty)(t:TypeId):Bool:=tyOk P τ t&&decide (t<P.types.size)&&P.readableRec t
theorem cells_leaf{b0:Nat}{τ:Ty}{t:TypeId}{v:Value}(hs: ∀ts,τ≠ .st ts)(h:tyOk P τ t=true)(hv:Value.okWide P w .any b0 t v):v.cells= #[v]:=by
 cases v with
 | agg cs=>
  exfalso
  cases τ with
  | st ts=>exact hs ts rfl
  | bool=>
   unfold tyOk at h
   split at h
   ·rename_i hu
    unfold Value.okWide Cell.okWide Cell.ok at hv
    rw [hu] at hv
    exact hv
   ·cases h
  | int k=>
   unfold tyOk at h
   split at h
   ·rename_i hu
    unfold Value.okWide Cell.okWide Cell.ok at hv
    rw [hu] at hv
    exact hv
   ·cases h
  | str=>
   unfold tyOk at h
   split at h
   ·rename_i hu
    unfold Value.okWide Cell.okWide Cell.ok at hv
    rw [hu] at hv
    exact hv
   ·cases h
  | sl e=>
   unfold tyOk at h
   split at h
   ·rename_i hu
    unfold Value.okWide Cell.okWide Cell.ok at hv
    rw [hu] at hv
    exact hv
   ·cases h
 | _=>rfl
theorem WFL.leaf{s:Sh}{ds:List D}(h:WFL [s] ds): ∃d,ds=[d]∧WF s d:=by
 obtain ⟨h1,h2,h3⟩:=h
 match ds,h2 with
 | [d],_=>exact ⟨d,rfl,h3 0 s d rfl rfl⟩
def tyArgs(P:Program):List Ty→List TypeId→Bool
 | [],[]=>true
 | τ :: τs,t :: ts=>tyArg P τ t&&tyArgs P τs ts
 | _,_=>false
def WFs:List Ty→List D→Prop
 | [],[]=>True
 | τ :: τs,x :: xs=>WF τ.sh x∧WFs τs xs
 | _,_=>False
theorem args_data{b0:Nat}: ∀(τs:List Ty) (ts:List TypeId) (vs:List Value) (ds:List (DataW H)) (ps:List MemPlace),tyArgs P τs ts=true→DataW.TrodAll enc P w 0 (fun _=>true) true ts vs ds ps→
  (∀(j:Nat) t v,ts[j]? =some t→vs[j]? =some v→Value.okWide P w .any b0 t v)→ ∃xs,RDs w (fun _=>False) xs vs∧WFs τs xs
 | [],[],vs,ds,ps,_,h,_=>by
  cases vs with
  | nil=>exact ⟨[],⟨rfl,fun j c v hc=>by simp at hc⟩,trivial⟩
  | cons v vs=>simp [DataW.TrodAll] at h
 | [],_ :: _,_,_,_,h,_,_=>by simp [tyArgs] at h
 | _ :: _,[],_,_,_,h,_,_=>by simp [tyArgs] at h
 | τ :: τs,t :: ts,vs,ds,ps,ht,h,hok=>by
  simp only [tyArgs,Bool.and_eq_true] at ht
  cases vs with
  | nil=>simp [DataW.TrodAll] at h
  | cons v vs=>
   cases ds with
   | nil=>simp [DataW.TrodAll] at h
   | cons d ds=>
    obtain ⟨p,q,h1,h2,-⟩:=h
    obtain ⟨xs,hr,hw⟩:=args_data τs ts vs ds q ht.2 h2 fun j t v ht hv=>hok (j+1) t v (by simpa using ht) (by simpa using hv)
    have hτ:=ht.1
    unfold tyArg at hτ
    simp only [Bool.and_eq_true,decide_eq_true_eq] at hτ
    obtain ⟨⟨h3,h4⟩,h5⟩:=hτ
    obtain ⟨fuel,hf⟩:=h1
    obtain ⟨cs,hcs,hwf⟩:=trod_ty τ fuel t v.cells.toList _ h3 hf
    have hv:=hok 0 t v rfl rfl
    have one: ∀s:Sh,(∀ts,τ≠ .st ts)→WFL [s] cs→WF s=WF τ.sh→ ∃xs,RDs w (fun _=>False) xs (v :: vs)∧WFs (τ :: τs) xs:=by
     intro s hs hl he
     obtain ⟨d,rfl,hd⟩:=hl.leaf
     rw [cells_leaf hs h3 hv] at hcs
     exact ⟨d :: xs,RDs.append hcs hr,he ▸ hd,hw⟩
    cases τ with
    | bool=>exact one _ (fun _ h=>by cases h) hwf rfl
    | int k=>exact one _ (fun _ h=>by cases h) hwf rfl
    | str=>exact one _ (fun _ h=>by cases h) hwf rfl
    | sl e=>exact one _ (fun _ h=>by cases h) hwf rfl
    | st fs=>
     unfold tyOk at h3
     split at h3
     ·rename_i fields hu
      unfold Value.okWide at hv
      rw [hu] at hv
      obtain ⟨vs0,rfl,-,-⟩:=hv
      refine ⟨.agg cs :: xs,?_,⟨.agg _ _ hwf.1 hwf.2.1 hwf.2.2,hw⟩⟩
      have h6:=rds_one (w:=w) (Y:=fun _=>False) (RD.agg (w:=w) cs vs0.toList hcs.1 hcs.2)
      exact h6.append hr
     ·cases h3
theorem reads_on{sp:Nat→Bool}(hl:laidOutB P=true)(hsame: ∀p:MemPlace,p.block<w.heap.size→w.sameAt w' p): ∀(τs:List Ty) (ts:List TypeId) (vs:List Value) (ds:List (DataW H)) (ps:List MemPlace),tyArgs P τs ts=true→
  DataW.TrodAll enc P w 0 (fun _=>true) true ts vs ds ps→(∀p∈ps,p.block<w.heap.size)→(∀p∈ps,sp p.block=true)→DataW.TrodAll enc P w' 0 sp true ts vs ds ps
 | [],[],vs,ds,ps,_,h,_,_=>by
  cases vs <;> cases ds <;> simp_all [DataW.TrodAll]
 | [],_ :: _,_,_,_,h,_,_,_=>by simp [tyArgs] at h
 | _ :: _,[],_,_,_,h,_,_,_=>by simp [tyArgs] at h
 | τ :: τs,t :: ts,vs,ds,ps,ht,h,hb,hs=>by
  simp only [tyArgs,Bool.and_eq_true] at ht
  cases vs with
  | nil=>simp [DataW.TrodAll] at h
  | cons v vs=>
   cases ds with
   | nil=>simp [DataW.TrodAll] at h
   | cons d ds=>
    obtain ⟨p,q,h1,h2,rfl⟩:=h
    have hτ:=ht.1
    unfold tyArg at hτ
    simp only [Bool.and_eq_true,decide_eq_true_eq] at hτ
    obtain ⟨⟨h3,h4⟩,h5⟩:=hτ
    exact ⟨p,q,Trod_stays hl h5 h4 h1 (fun x hx=>hsame x (hb x (List.mem_append_left _ hx))) (fun x hx=>hs x (List.mem_append_left _ hx)),
     reads_on hl hsame τs ts vs ds q ht.2 h2 (fun x hx=>hb x (List.mem_append_right _ hx)) (fun x hx=>hs x (List.mem_append_right _ hx)),rfl⟩
theorem frozen_of_keep(hk:Keep (fun _=>False) w w')(a:Addr)(ha:a.block<w.heap.size):w'.frozen? a=w.frozen? a:=by
 unfold World.frozen?
 rw [hk.heap a.block ha (fun h=>h)]
theorem keptBut_of_keep(hk:Keep (fun _=>False) w w')(may:MemPlace→Prop):w.keptBut w' may:=by
 refine World.keptBut_mono (may:=fun _=>False) (fun _ h=>h.elim) (World.keptBut_none_iff.2 ⟨hk.out.1,hk.out.2,fun i hi=>hk.heap i hi (fun h=>h)⟩)
theorem sameAt_of_keep(hk:Keep (fun _=>False) w w')(p:MemPlace)(hp:p.block<w.heap.size):w.sameAt w' p:=by
 cases p with
 | cell b off=>
  show w'.cell? ⟨b,off,none⟩=w.cell? ⟨b,off,none⟩
  unfold World.cell?
  rw [hk.heap b hp (fun h=>h)]
 | map b=>exact hk.heap b hp (fun h=>h)
theorem law_calls {b0 : Nat} {f : FuncId} {fn : Func} {c : Code} {g : List D → Tree (List D)} {τs : List Ty} (hfn : P.funcs[f]? = some fn) (hname : fn.name ≠ "runtime.NumGoroutine") (hbody : fn.body = some c)
  (hp:PureOK P f g) (hty:tyArgs P τs fn.params.toList=true) (hg: ∀xs,WFs τs xs→(g xs).eval=some [.bool true])
  {args:Array Value} {ds:List (DataW H)} {p:List MemPlace} (hA:DataW.TrodAll enc P w 0 (fun _=>true) true fn.params.toList args.toList ds p)
  (hok: ∀(j:Nat) t v,fn.params[j]? =some t→args[j]? =some v→Value.okWide P w .any b0 t v) (hT:TabOK P w (fun _=>False)) (hyn:f≠yNo:=by decide):
  Calls P f args w fun e w'=>e= .returned (.bool true)∧Keep (fun _=>False) w w':=by
 obtain ⟨xs,hr,hw⟩:=args_data τs _ _ _ _ hty hA (fun j t v ht hv=>hok j t v (by simpa using ht) (by simpa using hv))
 have:=hp hyn xs [.bool true] (hg xs hw) w (fun _=>False) args (fun b h=>h.elim) hT hr
 rcases this with ⟨-,h⟩ | ⟨u,w',h,-⟩
 ·refine Calls.mono h ?_
  rintro e w' ⟨u,rfl,hv,hk⟩
  simp only [retV,RV] at hv
  cases hv
  exact ⟨rfl,hk⟩
 ·rw [MuLone.run_callFunc_enter hfn (by simpa using hname) hbody args w] at h
  cases h
end
open Go Go.ChangeShapes
theorem WFL.inv{f:Sh}{fs:List Sh}{cs:List D}(h:WFL (f :: fs) cs): ∃c cs',cs=c :: cs'∧WF f c∧WFL fs cs':=by
 obtain ⟨h1,h2,h3⟩:=h
 cases cs with
 | nil=>simp at h2
 | cons c cs=>exact ⟨c,cs,rfl,h3 0 f c rfl rfl,fun g hg=>h1 g (by simp [hg]),by simpa using h2,fun i g d hg hd=>h3 (i+1) g d (by simpa using hg) (by simpa using hd)⟩
theorem WFL.inv_nil{cs:List D}(h:WFL [] cs):cs=[]:=by
 have:=h.2.1
 cases cs with
 | nil=>rfl
 | cons c cs=>simp at this
theorem WF.inv_agg{fs:List Sh}{x:D}(h:WF (.agg fs) x): ∃cs,x= .agg cs∧WFL fs cs:=by
 cases h with
 | agg fs cs ha hl hh=>exact ⟨cs,rfl,ha,hl,hh⟩
theorem WF.inv_str{x:D}(h:WF .str x): ∃s,x= .str s:=by
 cases h with
 | str s hs=>exact ⟨s,rfl⟩
theorem WF.inv_sl{e:Sh}{x:D}(h:WF (.sl e) x): ∃n es,x= .sl e n es∧(n=true→es=[])∧ ∀y∈es,WF e y:=by
 cases h with
 | slnil e=>exact ⟨true,[],rfl,fun _=>rfl,fun y hy=>by simp at hy⟩
 | sl e es hl hh=>exact ⟨false,es,rfl,fun h=>by simp at h,hh⟩
theorem law_post{H:Type}{enc:TypeId×Value→H}{P:Program}{fn:Func}{s:ChangeSpec}{τs:List Ty}{tb:TypeId}{W W':World}{args:Array Value}{ds gs:List (DataW H)}{before:List MemPlace}{fresh handsOn again:Bool}
  (hW:DataW.Whole enc P fn.params.toList s.vars false W args.toList ds gs before) (hv:s.vars=[]) (hl:laidOutB P=true) (hty:tyArgs P τs fn.params.toList=true) (hrt:fn.resultTypes= #[tb]) (htb:P.underlying tb=some .bool)
  (hr:(s.fn H ds).results=[.lit (.bool true)]) (ha:(s.fn H ds).args=ds) (hvs:(s.fn H ds).vars=[]) (hk:Keep (fun _=>False) W W'):
  s.post enc P fn false fresh handsOn again W args (.bool true) W':=by
 have hlt:=hW.lt
 obtain ⟨pa,pv,hA,hV,rfl,hz,hn⟩:=hW
 rw [hv] at hV
 obtain ⟨rfl,rfl⟩:=trodVars_none hV
 simp only [List.append_nil] at hlt hz
 have hargs: ∀sp:Nat→Bool,(∀p∈pa,sp p.block=true)→DataW.TrodAll enc P W' 0 sp true fn.params.toList args.toList ds pa:=fun sp hsp=>
  reads_on hl (fun p hp=>sameAt_of_keep hk p hp) τs _ _ _ _ hty hA hlt hsp
 have hres: ∀(b:Nat) (sp:Nat→Bool) (hd:Bool),DataW.TrodAll enc P W' b sp hd fn.resultTypes.toList ((Value.bool true).resultList fn.resultTypes.size) [.lit (.bool true)] []:=by
  intro b sp hd
  rw [hrt]
  exact trodAll_mk1 (RowKit.shut_bool htb true)
 have hvars: ∀sp:Nat→Bool,DataW.TrodVars enc P W' sp s.vars [] []:=by
  intro sp
  rw [hv]
  rfl
 refine ⟨ds,[],pa++[],[],pa,[],⟨pa,[],hA,by rw [hv];exact hV,rfl,by simpa using hz,hn⟩,?_,?_,?_,keptBut_of_keep hk _,fun _=>⟨?_,?_⟩⟩
 ·simp only [List.append_nil,hr]
  exact hres _ _ _
 ·simp only [List.append_nil,ha]
  exact hargs _ (fun p hp=>by simpa using hlt p hp)
 ·simp only [List.append_nil,hvs]
  exact hvars _
 ·exact RowKit.ok_one hrt rfl (RowKit.okWide_bool_mk htb true)
 ·refine ⟨_,_,([]++pa)++[],⟨[]++pa,[],trodAll_append (hargs _ (fun _ _=>rfl)) (hres _ _ _),hvars _,rfl,?_,fun h=>by cases h⟩,?_⟩
  ·intro b off hp
   have hp:MemPlace.cell b off∈pa:=by simpa using hp
   rw [frozen_of_keep hk _ (show b<W.heap.size from hlt _ hp)]
   exact hz b off hp
  ·intro p hp _
   simpa using hp
end Go.AM
namespace Go.Proofs.YtlhageadjmoajaaDoor.A
open Go Go.AM
set_option maxRecDepth 20000
def stepTy:Ty:= .st [.st [.int .i64,.str,.int .i64],.int .i64,.str,.int .i64,.int .i64]
def defTy:Ty:= .st [.str,.sl stepTy]
theorem def_in{x:D}(h0:WF defTy.sh x): ∃nm nil es,x= .agg [.str nm,.sl stepSh nil es]∧(nil=true→es=[]):=by
 obtain ⟨cs,rfl,h⟩:=WF.inv_agg h0
 obtain ⟨_,_,rfl,a1,h⟩:=h.inv
 obtain ⟨_,_,rfl,a2,h⟩:=h.inv
 obtain rfl:=h.inv_nil
 obtain ⟨nm,rfl⟩:=a1.inv_str
 obtain ⟨nil,es,rfl,b,-⟩:=a2.inv_sl
 exact ⟨nm,nil,es,rfl,b⟩
theorem law_trueP{P:Program}(hm:P.follows .mixedOrders=true){E:Env}{f:Nat}{tys:List Ty}(hE:EnvOK P E)(h: ∀ds,WFs tys ds→ ∃n,(callN E n f (ds.map .d) []).out=some [.bool true]):
  ∃g,PureOK P f g∧ ∀xs,WFs tys xs→(g xs).eval=some [.bool true]:=by
 refine ⟨fun ds=> @ite _ (WFs tys ds) (Classical.propDecidable _) (.ret [D.bool true]) .stuck,PureOK.run hm hE fun ds rs hr=> ?_,fun xs hw=> ?_⟩
 ·by_cases hw:WFs tys ds
  ·rw [if_pos hw] at hr
   cases hr
   exact h ds hw
  ·rw [if_neg hw] at hr
   cases hr
 ·show Tree.eval (@ite _ (WFs tys xs) (Classical.propDecidable _) (.ret [D.bool true]) .stuck)=_
  rw [if_pos hw];rfl
def tableB:List (Nat×AFn):=[]
def progB:Nat→Option AFn:=fun f=>match findFn tableB f with
 | some x=>some x
 | none=>prog f
def Ba:Env:=⟨Mu.con,progB⟩
theorem okBa{P:Program}(h:EnvOK P Mu)(hb:AllOK P tableB):EnvOK P Ba:=⟨fun f fn hf=>by
 have hf:progB f=some fn:=hf
 unfold progB at hf
 split at hf
 ·rename_i x hx
  cases hf
  exact AllOK.find hb f _ hx
 ·exact h.prog f fn hf,h.pure,h.gen⟩
def E0b:Env:=⟨E0.con,progB⟩
theorem okE0b{P:Program}(h:EnvOK P E0)(hb:AllOK P tableB):EnvOK P E0b:=⟨fun f fn hf=>by
 have hf:progB f=some fn:=hf
 unfold progB at hf
 split at hf
 ·rename_i x hx
  cases hf
  exact AllOK.find hb f _ hx
 ·exact h.prog f fn hf,h.pure,h.gen⟩
def v195o(nl mv:Bool)(bs:List D)(s:List UInt8)(i j:Int):St:= { fr:=frame 49 [(0,V.own 0),(1,V.d (D.str s)),(2,V.fn 26 [] []),(8,V.d (D.int .i64 (bs.length:Int))),(9,V.d (D.int .i64 i)),(10,V.d (D.int .i64 j))],ob:=[(0,Obj.lst defSh nl mv false bs)] }
theorem x195o(m n:Nat)(nl mv:Bool)(bs:List D)(s:List UInt8):Tree.outG (enterM Ba (callN Ba (m+40)) n c25 [.own 0,.d (.str s),.fn 26 [] []] [(0,.lst defSh nl mv false bs)])=Tree.outG (resume Ba (callN Ba (m+40)) n n 0 c25 { fr:=frame 49 [(0,V.own 0),(1,V.d (D.str s)),(2,V.fn 26 [] []),(8,V.d (D.int .i64 (↑(List.length bs):Int))),(9,V.d (D.int .i64 0)),(10,V.d (D.int .i64 (↑(List.length bs):Int)))],ob:=[(0,Obj.lst (Sh.agg [Sh.str,Sh.sl stepSh]) nl mv false bs)] }):=by kernel_rfl
theorem y195o(m n f:Nat)(nl mv:Bool)(bs:List D)(s:List UInt8)(i j:Int):Tree.outG (resume Ba (callN Ba (m+40)) n (f+1) 0 c25 (v195o nl mv bs s i j))=bif decide (i<j) then bif decide (0≤IntKind.wrap .i64 (Int.fdiv (IntKind.wrap IntKind.u64 (IntKind.wrap .i64 (i+j))) 2)∧IntKind.wrap .i64 (Int.fdiv (IntKind.wrap IntKind.u64 (IntKind.wrap .i64 (i+j))) 2)<(↑(List.length bs):Int)) then bif decide (cmpB (fs 0 (List.getD bs (Int.toNat (IntKind.wrap .i64 (Int.fdiv (IntKind.wrap IntKind.u64 (IntKind.wrap .i64 (i+j))) 2))) D.nilp)) s<0) then Tree.outG (resume Ba (callN Ba (m+40)) n f 0 c25 { fr:=frame 49 [(0,V.own 0),(1,V.d (D.str s)),(2,V.fn 26 [] []),(8,V.d (D.int .i64 (↑(List.length bs):Int))),(9,V.d (D.int .i64 (IntKind.wrap .i64 (IntKind.wrap .i64 (Int.fdiv (IntKind.wrap IntKind.u64 (IntKind.wrap .i64 (i+j))) 2)+1)))),(10,V.d (D.int .i64 j))],ob:=[(0,Obj.lst (Sh.agg [Sh.str,Sh.sl stepSh]) nl mv false bs)] }) else Tree.outG (resume Ba (callN Ba (m+40)) n f 0 c25 { fr:=frame 49 [(0,V.own 0),(1,V.d (D.str s)),(2,V.fn 26 [] []),(8,V.d (D.int .i64 (↑(List.length bs):Int))),(9,V.d (D.int .i64 i)),(10,V.d (D.int .i64 (IntKind.wrap .i64 (Int.fdiv (IntKind.wrap IntKind.u64 (IntKind.wrap .i64 (i+j))) 2))))],ob:=[(0,Obj.lst (Sh.agg [Sh.str,Sh.sl stepSh]) nl mv false bs)] }) else none else bif decide (i<(↑(List.length bs):Int)) then bif decide (0≤i∧i<(↑(List.length bs):Int)) then some (V.tup [V.d (D.int .i64 i),V.d (D.bool (cmpB (fs 0 (List.getD bs (Int.toNat i) D.nilp)) s==0))],[(0,Obj.lst (Sh.agg [Sh.str,Sh.sl stepSh]) nl mv false bs)]) else none else some (V.tup [V.d (D.int .i64 i),V.d (D.bool false)],[(0,Obj.lst (Sh.agg [Sh.str,Sh.sl stepSh]) nl mv false bs)]):=by kernel_rfl
def Bf:Env:=Ba.pureAt 7 true g20
theorem x2003(m n:Nat)(nb:Bool)(bs:List D)(s:List UInt8):Tree.out (enterM Bf (callN Bf (m+40)) n c3 [.d (.sl defSh nb bs),.d (.str s)] [])=bif !fewB bs then some [D.bool true] else bif bookShort bs then bif bookOk bs&&decide (0≤nameIdx s bs) then bif decide (List.length bs≤1000000) then bif bookOk bs&&decide (0≤nameIdx s bs) then bif (bif bookOk bs then (0:Int) else (2:Int))==bif bookOk bs then (0:Int) else (2:Int) then bif decide (List.length (fl 1 (List.getD bs (Int.toNat (nameIdx s bs)) D.nilp))≤1000000) then bif fs 0 (List.getD bs (Int.toNat (nameIdx s bs)) D.nilp)==fs 0 (List.getD bs (Int.toNat (nameIdx s bs)) D.nilp)&&stepsEq (fl 1 (List.getD bs (Int.toNat (nameIdx s bs)) D.nilp)) (fl 1 (List.getD bs (Int.toNat (nameIdx s bs)) D.nilp)) then some [D.bool true] else some [D.bool false] else none else some [D.bool false] else bif (bif bookOk bs then (0:Int) else (2:Int))==bif bookOk bs then (0:Int) else (2:Int) then bif decide (List.length (fl 1 (List.getD bs (Int.toNat (nameIdx s bs)) D.nilp))≤1000000) then bif fs 0 (List.getD bs (Int.toNat (nameIdx s bs)) D.nilp)==[]&&stepsEq (fl 1 (List.getD bs (Int.toNat (nameIdx s bs)) D.nilp)) [] then some [D.bool false] else some [D.bool false] else none else some [D.bool false] else none else bif decide (List.length bs≤1000000) then bif bookOk bs&&decide (0≤nameIdx s bs) then bif (bif bookOk bs then (0:Int) else (2:Int))==bif bookOk bs then (0:Int) else (2:Int) then bif []==fs 0 (List.getD bs (Int.toNat (nameIdx s bs)) D.nilp)&&stepsEq [] (fl 1 (List.getD bs (Int.toNat (nameIdx s bs)) D.nilp)) then some [D.bool false] else some [D.bool false] else some [D.bool false] else bif (bif bookOk bs then (0:Int) else (2:Int))==bif bookOk bs then (0:Int) else (2:Int) then some [D.bool true] else some [D.bool false] else none else none:=by kernel_rfl
def insD(s:List UInt8)(d:D)(bs:List D):List D:=bs.take (plc s bs)++d :: bs.drop (plc s bs)
def dX(d:D):D:= .agg [.str (fs 0 d),.sl stepSh (fn 1 d) (fl 1 d)]
def okX(d:D):Bool:=defOk (fs 0 d) (fl 1 d)
def addE:List D→List D→Int×List D
 | out,[]=>(0,out)
 | out,d :: ms=>bif okX d then bif there (fs 0 d) out then (71,[]) else bif (out.length:Int)==8 then (3,[]) else addE (insD (fs 0 d) (dX d) out) ms else (90,[])
def lessD(a b:D):Prop:=Op.bytesLess (fs 0 a) (fs 0 b)=true
theorem getD_lt{bs:List D}{k:Nat}(h:k<bs.length):bs.getD k .nilp=bs[k]:=by
 rw [List.getD_eq_getElem?_getD,List.getElem?_eq_getElem h];rfl
theorem rising_pw{bs:List D}:Rising bs↔bs.Pairwise lessD:=by
 rw [List.pairwise_iff_getElem]
 constructor
 ·intro h i j hi hj hij
  obtain ⟨d,rfl⟩: ∃d,j=i+d+1:=⟨j - i - 1,by omega⟩
  have:=rising_lt h (d:=d) (a:=i) hj
  rw [getD_lt hi,getD_lt hj] at this
  exact this
 ·intro h i hi
  unfold prevLess
  by_cases h0:i=0
  ·rw [decide_eq_true h0];rfl
  ·rw [decide_eq_false h0,Bool.false_or,getD_lt hi,getD_lt (by omega)]
   exact h (i - 1) i (by omega) hi (by omega)
theorem plc_spec{bs:List D}(h:Rising bs)(s:List UInt8):plc s bs≤bs.length∧(∀k,k<plc s bs→Op.bytesLess (fs 0 (bs.getD k .nilp)) s=true)∧ ∀k,plc s bs≤k→k<bs.length→Op.bytesLess (fs 0 (bs.getD k .nilp)) s=false:=by
 obtain ⟨h1,h2,h3⟩:=bsF_spec (lessAt s bs) bs.length (rising_mono h s) bs.length 0 bs.length (by omega) (by omega) (by omega) (fun k hk=>by omega) (fun k hk hk'=>by omega)
 refine ⟨h1,fun k hk=> ?_,fun k hk hk'=> ?_⟩
 ·have:=h2 k hk
  unfold lessAt at this
  exact cmp_neg.1 (of_decide_eq_true this)
 ·have:=h3 k hk hk'
  unfold lessAt at this
  have h4:=of_decide_eq_false this
  cases hb:Op.bytesLess (fs 0 (bs.getD k .nilp)) s
  ·rfl
  ·exact absurd (cmp_neg.2 hb) h4
theorem there_mem{bs:List D}(h:Rising bs){s:List UInt8}:there s bs=true↔ ∃x∈bs,fs 0 x=s:=by
 rw [there_iff h]
 constructor
 ·rintro ⟨i,hi,e⟩
  exact ⟨bs.getD i .nilp,by rw [getD_lt hi];exact List.getElem_mem hi,e⟩
 ·rintro ⟨x,hx,e⟩
  obtain ⟨i,hi,rfl⟩:=List.getElem_of_mem hx
  exact ⟨i,hi,by rw [getD_lt hi];exact e⟩
theorem ins_perm(s:List UInt8)(d:D)(bs:List D):(insD s d bs).Perm (d :: bs):=by
 unfold insD
 have:= @List.perm_middle _ d (bs.take (plc s bs)) (bs.drop (plc s bs))
 rw [List.take_append_drop] at this
 exact this
theorem ins_rising{bs:List D}(h:Rising bs){d:D}(ht:there (fs 0 d) bs=false):Rising (insD (fs 0 d) d bs):=by
 obtain ⟨h1,h2,h3⟩:=plc_spec h (fs 0 d)
 have hp:=rising_pw.1 h
 have hp':=hp
 rw [←List.take_append_drop (plc (fs 0 d) bs) bs,List.pairwise_append] at hp'
 obtain ⟨p1,p2,p3⟩:=hp'
 rw [rising_pw]
 unfold insD
 have hlt: ∀a∈bs.take (plc (fs 0 d) bs),lessD a d:=by
  intro a ha
  obtain ⟨i,hi,rfl⟩:=List.getElem_of_mem ha
  rw [List.length_take] at hi
  rw [List.getElem_take]
  have:=h2 i (by omega)
  rw [getD_lt (by omega)] at this
  exact this
 have hgt: ∀b∈bs.drop (plc (fs 0 d) bs),lessD d b:=by
  intro b hb
  obtain ⟨i,hi,rfl⟩:=List.getElem_of_mem hb
  rw [List.length_drop] at hi
  rw [List.getElem_drop]
  have:=h3 (plc (fs 0 d) bs+i) (by omega) (by omega)
  rw [getD_lt (by omega)] at this
  rcases less_tri (fs 0 (bs[plc (fs 0 d) bs+i]'(by omega))) (fs 0 d) with e | e | e
  ·exfalso
   have:there (fs 0 d) bs=true:=(there_mem h).2 ⟨_,List.getElem_mem (by omega),e⟩
   rw [ht] at this;cases this
  ·rw [this] at e;cases e
  ·exact e
 refine List.pairwise_append.2 ⟨p1,List.pairwise_cons.2 ⟨hgt,p2⟩,fun a ha b hb=> ?_⟩
 rcases List.mem_cons.1 hb with rfl | hb
 ·exact hlt a ha
 ·exact p3 a ha b hb
theorem addE_ok: ∀(ms out r:List D),Rising out→out.length≤8→addE out ms=(0,r)→Rising r∧r.Perm (out++ms.map dX)∧r.length≤8∧ ∀d∈ms,okX d=true
 | [],out,r,h,h8,he=>by
  cases he
  exact ⟨h,by simp,h8,fun d hd=>by cases hd⟩
 | d :: ms,out,r,h,h8,he=>by
  unfold addE at he
  cases ho:okX d
  ·rw [ho] at he;cases he
  ·rw [ho] at he
   cases ht:there (fs 0 d) out
   ·rw [ht] at he
    cases h9:((out.length:Int)==8)
    ·rw [h9] at he
     have hne:out.length≠8:=fun e=>by rw [e] at h9;exact absurd h9 (by decide)
     have hp:=ins_perm (fs 0 d) (dX d) out
     have hl:(insD (fs 0 d) (dX d) out).length≤8:=by rw [hp.length_eq,List.length_cons];omega
     obtain ⟨q1,q2,q3,q4⟩:=addE_ok ms (insD (fs 0 d) (dX d) out) r (ins_rising (d:=dX d) h ht) hl he
     refine ⟨q1,?_,q3,fun x hx=> ?_⟩
     ·refine q2.trans ?_
      rw [List.map_cons]
      refine ((hp.append_right _).trans ?_)
      exact List.perm_middle.symm
     ·rcases List.mem_cons.1 hx with rfl | hx
      ·exact ho
      ·exact q4 x hx
    ·rw [h9] at he;cases he
   ·rw [ht] at he;cases he
theorem addE_go: ∀(ms out:List D),Rising out→(∀d∈ms,okX d=true)→(out++ms.map dX).Pairwise (fun a b=>fs 0 a≠fs 0 b)→out.length+ms.length≤8→ ∃r,addE out ms=(0,r)
 | [],out,h,ho,hp,h8=>⟨out,rfl⟩
 | d :: ms,out,h,ho,hp,h8=>by
  have ht:there (fs 0 d) out=false:=by
   cases ht:there (fs 0 d) out
   ·rfl
   ·obtain ⟨x,hx,e⟩:=(there_mem h).1 ht
    have:=(List.pairwise_append.1 hp).2.2 x hx (dX d) (by simp)
    exact absurd e this
  have h9:((out.length:Int)==8)=false:=beq_eq_false_iff_ne.2 (by rw [List.length_cons] at h8;omega)
  have hpm:=ins_perm (fs 0 d) (dX d) out
  obtain ⟨r,hr⟩:=addE_go ms (insD (fs 0 d) (dX d) out) (ins_rising (d:=dX d) h ht) (fun x hx=>ho x (List.mem_cons_of_mem _ hx)) (by
   have hq:(out++(d :: ms).map dX).Perm (insD (fs 0 d) (dX d) out++ms.map dX):=by
    rw [List.map_cons]
    exact List.perm_middle.trans (hpm.append_right _).symm
   exact (hq.pairwise_iff fun {a b} hab=>Ne.symm hab).1 hp) (by rw [hpm.length_eq,List.length_cons];rw [List.length_cons] at h8;omega)
  refine ⟨r,?_⟩
  unfold addE
  rw [ho d (by simp),ht,h9]
  exact hr
theorem rising_ne{bs:List D}(h:Rising bs):bs.Pairwise (fun a b=>fs 0 a≠fs 0 b):=(rising_pw.1 h).imp fun {a b} hab e=>by
 unfold lessD at hab
 rw [e,less_irr] at hab;cases hab
theorem addE_turn{out ms r:List D}(h:Rising out)(h8:out.length≤8)(he:addE out ms=(0,r)):addE out ms.reverse=(0,r):=by
 obtain ⟨q1,q2,q3,q4⟩:=addE_ok ms out r h h8 he
 have hlen:r.length=out.length+ms.length:=by rw [q2.length_eq];simp
 have hpm:(out++ms.map dX).Perm (out++ms.reverse.map dX):=by
  rw [List.map_reverse]
  exact (List.reverse_perm _).symm.append_left out
 obtain ⟨r',hr'⟩:=addE_go ms.reverse out h (fun d hd=>q4 d (List.mem_reverse.1 hd)) (((q2.trans hpm).pairwise_iff fun {a b} hab=>Ne.symm hab).1 (rising_ne q1)) (by rw [List.length_reverse];omega)
 obtain ⟨p1,p2,-,-⟩:=addE_ok ms.reverse out r' h h8 hr'
 have:r=r':=by
  refine List.Perm.eq_of_pairwise (le:=lessD) (fun a b _ _ h1 h2=> ?_) (rising_pw.1 q1) (rising_pw.1 p1) (q2.trans (hpm.trans p2.symm))
  unfold lessD at h1 h2
  have:=less_trans h1 h2
  rw [less_irr] at this;cases this
 rw [hr',this]
theorem rn195o(m n:Nat)(nl mv:Bool)(bs:List D)(s:List UInt8)(hl:bs.length≤1000000)(hn:bs.length<n):
  (enterM Ba (callN Ba (m+40)) n c25 [.own 0,.d (.str s),.fn 26 [] []] [(0,.lst defSh nl mv false bs)]).outG=some (.tup [.d (.int .i64 (plc s bs:Nat)),.d (.bool (there s bs))],[(0,.lst defSh nl mv false bs)]):=by
 rw [x195o]
 refine bs_loop (fun g i j=>(resume Ba (callN Ba (m+40)) n g 0 c25 (v195o nl mv bs s (i:Nat) (j:Nat))).outG) bs.length (lessAt s bs) (fun i=>((.tup [.d (.int .i64 (i:Nat)),.d (.bool (bif decide ((i:Int)<(bs.length:Int)) then cmpB (fs 0 (bs.getD i .nilp)) s==0 else false))],[(0,.lst defSh nl mv false bs)]):V×Obs)) (fun g i j hij hi=> ?_) (fun g i j hij hj=> ?_) bs.length 0 bs.length n (by omega) hn (by omega) (by omega)
 ·show (resume Ba (callN Ba (m+40)) n (g+1) 0 c25 (v195o nl mv bs s (i:Nat) (j:Nat))).outG=_
  rw [y195o]
  refine (cf (decide_eq_false (by omega))).trans ?_
  by_cases hlt:i<bs.length
  ·simp only [Int.toNat_natCast]
   refine (ct (dec_lt hlt)).trans ((ct (dec_ix hlt)).trans ?_)
   rw [dec_lt hlt];rfl
  ·have:decide ((i:Int)<(bs.length:Int))=false:=decide_eq_false (by omega)
   refine (cf this).trans ?_
   rw [this];rfl
 ·show (resume Ba (callN Ba (m+40)) n (g+1) 0 c25 (v195o nl mv bs s (i:Nat) (j:Nat))).outG=_
  have hh:=half (i:=i) (j:=j) (by omega) (by omega)
  have hlt:(i+j) / 2<bs.length:=by omega
  rw [y195o,hh]
  simp only [Int.toNat_natCast,wrap_up hlt hl]
  refine (ct (decide_eq_true (by omega))).trans ((ct (dec_ix hlt)).trans ?_)
  rfl
def C195o(args:List V)(ob:Obs):Tree (V×Obs):=
 match args,ob with
 | [.own p,.d (.str s),.fn f [] []],[(k,.lst e nl mv false bs)]=>match (Nat.beq p 0&&Nat.beq k 0)&&(Sh.beq e defSh&&Nat.beq f 26) with
  | true=> .ite (decide (bs.length≤1000000)) (fun _=> .ret (.tup [.d (.int .i64 (plc s bs:Nat)),.d (.bool (there s bs))],[(k,.lst e nl mv false bs)])) (fun _=> .stuck)
  | false=> .stuck
 | _,_=> .stuck
theorem fn195o{P:Program}(hm:P.follows .mixedOrders=true)(h0:EnvOK P Ba):FnOK P 25 C195o:=FnOK.runG hm h0 fun args ob r h=>by
 unfold C195o at h
 split at h
 ·rename_i p s f k e nl mv bs
  split at h
  ·rename_i hb
   simp only [Bool.and_eq_true] at hb
   obtain ⟨⟨hb1,hb2⟩,hb3,hb4⟩:=hb
   have hb1:=Nat.eq_of_beq_eq_true hb1
   have hb2:=Nat.eq_of_beq_eq_true hb2
   have hb3:=Sh.beq_eq hb3
   have hb4:=Nat.eq_of_beq_eq_true hb4
   subst hb1 hb2 hb3 hb4
   obtain ⟨hg,h⟩:=eval_guard h
   cases h
   exact ⟨(bs.length+40)+1,by rw [callN_succ (fn:=c25) rfl];exact rn195o bs.length (bs.length+40) nl mv bs s (of_decide_eq_true hg) (by omega)⟩
  ·cases h
 ·cases h
theorem few_bookShort{bs:List D}(h:fewB bs=true)(h2:nilB bs):bookShort bs=true:=by
 unfold fewB at h
 simp only [Bool.and_eq_true,Bool.not_eq_true',decide_eq_false_iff_not,allN_iff] at h
 obtain ⟨hb,hd⟩:=h
 unfold bookShort
 rw [decide_eq_true (by omega),Bool.and_true,allN_iff]
 intro i hi
 have:=hd i hi
 exact shortL_iff.2 ⟨h2 i hi,by omega⟩
theorem few_len{bs:List D}(h:fewB bs=true):bs.length≤100∧ ∀i,i<bs.length→(fl 1 (bs.getD i .nilp)).length≤100:=by
 unfold fewB at h
 simp only [Bool.and_eq_true,Bool.not_eq_true',decide_eq_false_iff_not,allN_iff] at h
 exact ⟨by omega,fun i hi=>by have:=h.2 i hi;omega⟩
theorem bfinds(m n:Nat)(nb:Bool)(bs:List D)(s:List UInt8)(h2:nilB bs):(enterM Bf (callN Bf (m+40)) n c3 [.d (.sl defSh nb bs),.d (.str s)] []).out=some [.bool true]:=by
 rw [x2003]
 cases hf:fewB bs
 ·rfl
 ·obtain ⟨hl,hd⟩:=few_len hf
  rw [few_bookShort hf h2,decide_eq_true (show bs.length≤1000000 by omega)]
  simp only [beq_self_eq_true,stepsEq_self,Bool.and_self]
  cases hb:(bookOk bs&&decide (0≤nameIdx s bs))
  ·rfl
  ·have hi:0≤nameIdx s bs:=of_decide_eq_true (Bool.and_eq_true _ _ ▸ hb).2
   have hlt:(nameIdx s bs).toNat<bs.length:=(idxOf_pos (q:=fun x=>fs 0 x==s) (show 0≤idxOf (fun x=>fs 0 x==s) bs from hi)).1
   rw [decide_eq_true (show (fl 1 (bs.getD (nameIdx s bs).toNat .nilp)).length≤1000000 by have:=hd _ hlt;omega)]
   rfl
end Go.Proofs.YtlhageadjmoajaaDoor.A
set_option linter.unusedVariables false
set_option linter.unusedSimpArgs false
namespace Go.AM
open Go Go.Proofs Go.Shelf Go.RowKit Go.Lib
def fnName (P : Program) (f : Nat) : String := ((P.funcs[f]?).map (·.name)).getD ""
noncomputable abbrev n22n (P:Program) (ρ:Ren):Func:= { Body2.n22 ρ with name:=fnName P (ρ.f 22) }
noncomputable abbrev n29n (P:Program) (ρ:Ren):Func:= { Body2.n29 ρ with name:=fnName P (ρ.f 29) }
theorem n22n_ntmps(P:Program)(ρ:Ren):(n22n P ρ).ntmps=95:=Body2.n22_ntmps ρ
structure InsAt(P:Program)(ρ:Ren)(s:Sh):Prop where
 mixed:P.follows .mixedOrders=true
 f22:P.funcs[ρ.f 22]? =some (n22n P ρ)
 f29:P.funcs[ρ.f 29]? =some (n29n P ρ)
 nn22 : ((n22n P ρ).name == "runtime.NumGoroutine") = false
 nn29 : ((n29n P ρ).name == "runtime.NumGoroutine") = false
 nx29:Extern.findNext (n29n P ρ)=none
 ex29:Extern.find (n29n P ρ)=some (Extern.SlicesOverlaps.overlaps #[(ρ.t 24),(ρ.t 24)] #[(ρ.t 4)])
 t0:P.underlying (ρ.t 0)=some (TypeDesc.tuple #[])
 a0: ∀w,(isAgg (ρ.t 0)).run P w= .ok false w
 z0: ∀w,(Go.sizeOf (ρ.t 0)).run P w= .ok 1 w
 v0: ∀w,(zeroValue (ρ.t 0)).run P w= .ok (Value.tuple #[]) w
 t3:P.underlying (ρ.t 3)=some (TypeDesc.int IntKind.i64)
 a3: ∀w,(isAgg (ρ.t 3)).run P w= .ok false w
 z3: ∀w,(Go.sizeOf (ρ.t 3)).run P w= .ok 1 w
 v3: ∀w,(zeroValue (ρ.t 3)).run P w= .ok (Value.int IntKind.i64 0) w
 t4:P.underlying (ρ.t 4)=some (TypeDesc.bool)
 a4: ∀w,(isAgg (ρ.t 4)).run P w= .ok false w
 z4: ∀w,(Go.sizeOf (ρ.t 4)).run P w= .ok 1 w
 v4: ∀w,(zeroValue (ρ.t 4)).run P w= .ok (Value.bool false) w
 t24:P.underlying (ρ.t 24)=some (TypeDesc.slice (ρ.t 9))
 a24: ∀w,(isAgg (ρ.t 24)).run P w= .ok false w
 z24: ∀w,(Go.sizeOf (ρ.t 24)).run P w= .ok 1 w
 v24: ∀w,(zeroValue (ρ.t 24)).run P w= .ok (Value.slice none 0 0) w
 s9:sh P (ρ.t 9)=some s
 zs: ∃zs,zeroOf P (ρ.t 9)=some zs∧zs.length=s.size
 su8:Sh.beq s (.int .u8)=false
 pos:0<s.size
section
variable {P:Program} {ρ:Ren} {s:Sh}
theorem copy_cells(w:World){dT sT ty elem:TypeId}{s:Sh}(hu:P.underlying dT=some (.slice elem))(hs:sh P elem=some s)(b o dLen dCap:Nat)(a:Addr)(sLen sCap m:Nat)(cs:List Value)
  (hm:m=Nat.min sLen dLen) (hn:cs.length=m*s.size) (hsrc: ∀j v,cs[j]? =some v→w.cell? (a.add j)=some v) (hc: ∀j,j<cs.length→(w.cell? ⟨b,o+j,none⟩).isSome=true)
  (hf: ∀j,j<cs.length→w.frozen? ⟨b,o+j,none⟩=false) (h1: ∀v∈cs,v.oneCell'=true):
  (Builtin.copy_ #[dT,sT] ty #[.slice (some ⟨b,o,none⟩) dLen dCap,.slice (some a) sLen sCap]).run P w= .ok (goInt m) (w.setCells b o cs):=by
 have hl:=run_loadCells_list (P:=P) w a cs hsrc
 have hst:=run_storeCells_cells (P:=P) b o cs 0 w (by simpa using hc) (by simpa using hf) h1
 have hz:=fun w=>sh_size (P:=P) (w:=w) hs
 simp [Builtin.copy_,run_underlying hu,Builtin.lenOf,Builtin.firstCells,hz,←hm,←hn,hl,hst]
set_option maxHeartbeats 4000000 in
set_option maxRecDepth 100000 in
theorem ins_end(L:InsAt P ρ s)(base:Option Addr)(n c vb vc:Nat)(w w':World)(u':Value)(hnc:n≤c)
  (hrun:(Builtin.append_ #[ρ.t 24,ρ.t 24] (ρ.t 24) #[.slice base n c,.slice (some ⟨vb,0,none⟩) 1 vc]).run P w= .ok u' w'):
  Calls P (ρ.f 22) #[.slice base n c,.int .i64 n,.slice (some ⟨vb,0,none⟩) 1 vc] w fun e w2=>e= .returned u'∧w2=w':=by
 have t0:=L.t0;have a0:=L.a0;have z0:=L.z0;have v0:=L.v0;have t3:=L.t3;have a3:=L.a3;have z3:=L.z3;have v3:=L.v3;have t4:=L.t4;have a4:=L.a4;have z4:=L.z4;have v4:=L.v4;have t24:=L.t24;have a24:=L.a24;have z24:=L.z24;have v24:=L.v24
 have z9:=fun w=>sh_size (P:=P) (w:=w) L.s9
 have u0:=run_underlying L.t0;have u3:=run_underlying L.t3;have u4:=run_underlying L.t4;have u24:=run_underlying L.t24
 have mixed:=L.mixed
 have hf22:=L.f22
 simp only [n22n,Body2.n22] at hf22
 go_enter hf22,n22n_ntmps P ρ
 cases base with
 | none=>
  go_wp2_with (at_builtin;refine Lib.wpList_append_run _ rfl _ _ _ _ rfl _ _ rfl rfl _ _ hrun ?_)
  go_ret
  exact ⟨rfl,rfl⟩
 | some a=>
  obtain ⟨ab,ao,asp⟩:=a
  go_wp2_with (at_builtin;refine Lib.wpList_append_run _ rfl _ _ _ _ rfl _ _ rfl rfl _ _ hrun ?_)
  all_goals (go_ret;exact ⟨rfl,rfl⟩)
set_option maxHeartbeats 4000000 in
set_option maxRecDepth 100000 in
theorem ins_shift(L:InsAt P ρ s)(b n c i vb vc:Nat)(cs vs:List Value)(w:World)(hi:i<n)(hroom:n+1≤c)(hlim:n≤4294967296)(hvb:vb≠b)
  (hcl:cs.length=n*s.size) (hvl:vs.length=s.size)
  (hcs: ∀j v,cs[j]? =some v→w.cell? ⟨b,j,none⟩=some v) (hsp: ∀j,j<(n+1)*s.size→(w.cell? ⟨b,j,none⟩).isSome=true) (hfz: ∀j,j<(n+1)*s.size→w.frozen? ⟨b,j,none⟩=false)
  (hvs: ∀j v,vs[j]? =some v→w.cell? ⟨vb,j,none⟩=some v) (h1c: ∀v∈cs,v.oneCell'=true) (h1v: ∀v∈vs,v.oneCell'=true)
  (tA tB:TypeId) (kA kB:Nat) (hsa:w.shape? vb=some (tA,kA)) (hsb:w.shape? b=some (tB,kB)) (hkB:kB≠0) (hfa:w.frozen? ⟨vb,0,none⟩=false) (hfe:w.frozen? ⟨vb,kA,none⟩=false):
  Calls P (ρ.f 22) #[.slice (some ⟨b,0,none⟩) n c,.int .i64 i,.slice (some ⟨vb,0,none⟩) 1 vc] w fun e w'=>
   e= .returned (.slice (some ⟨b,0,none⟩) (n+1) c)∧w'=(w.drew.setCells b (i*s.size+s.size) (cs.drop (i*s.size))).setCells b (i*s.size) vs:=by
 have t0:=L.t0;have a0:=L.a0;have z0:=L.z0;have v0:=L.v0;have t3:=L.t3;have a3:=L.a3;have z3:=L.z3;have v3:=L.v3;have t4:=L.t4;have a4:=L.a4;have z4:=L.z4;have v4:=L.v4;have t24:=L.t24;have a24:=L.a24;have z24:=L.z24;have v24:=L.v24
 have z9:=fun w=>sh_size (P:=P) (w:=w) L.s9
 have u0:=run_underlying L.t0;have u3:=run_underlying L.t3;have u4:=run_underlying L.t4;have u24:=run_underlying L.t24
 have mixed:=L.mixed
 have hz2: ¬((i:Int)=(n:Int)):=by omega
 have hov: ∀x lb cb,(callFunc (ρ.f 29) #[.slice (some ⟨vb,0,none⟩) 1 vc,.slice (some ⟨b,x,none⟩) lb cb]).run P w= .ok (.value (.bool false)) w:=fun x lb cb=>by
  rw [run_callFunc_extern L.f29 L.nn29 (by kernel_rfl) L.nx29 (e:=Extern.SlicesOverlaps.overlaps #[(ρ.t 24),(ρ.t 24)] #[(ρ.t 4)]) L.ex29,
   Lib.run_overlaps_apart w (ρ.t 24) (ρ.t 4) (ρ.t 9) L.t24 s.size z9 ⟨vb,0,none⟩ ⟨b,x,none⟩ 1 vc lb cb hvb tA tB kA kB hsa hsb hkB hfa hfe]
  rfl
 have hdl:(cs.drop (i*s.size)).length=(n - i)*s.size:=by rw [List.length_drop,hcl,Nat.sub_mul]
 have hik:i*s.size+(n - i)*s.size=n*s.size:=by rw [←Nat.add_mul];congr 1;omega
 have hi1:(i+1)*s.size=i*s.size+s.size:=by rw [Nat.add_mul,Nat.one_mul]
 have hn1:(n+1)*s.size=n*s.size+s.size:=by rw [Nat.add_mul,Nat.one_mul]
 have hw1:IntKind.i64.wrap ((i:Int)+1)=(i:Int)+1:=by rw [IntKind.wrap_i64];omega
 have hb1:(0:Int)≤(i:Int)+1:=by omega
 have hin:i≤n:=by omega
 have htn:((i:Int)+1).toNat=i+1:=by omega
 have hb2: ¬(c=i+1):=by omega
 have hb3:(i:Int)≤(n:Int)+1:=by omega
 have hb4: ¬(c=i):=by omega
 have hcp1: ∀ty dc sc,(Builtin.copy_ #[(ρ.t 24),(ρ.t 24)] ty #[.slice (some ⟨b,i*s.size+s.size,none⟩) (n - i) dc,.slice (some ⟨b,i*s.size,none⟩) (n+1 - i) sc]).run P w.drew= .ok (goInt ((n - i:Nat):Int)) (w.drew.setCells b (i*s.size+s.size) (cs.drop (i*s.size))):=fun ty dc sc=>
  copy_cells w.drew L.t24 L.s9 b (i*s.size+s.size) (n - i) dc ⟨b,i*s.size,none⟩ (n+1 - i) sc (n - i) (cs.drop (i*s.size)) (by simp only [Nat.min_def];split <;> omega) hdl
   (fun j v hj=>by rw [Addr.add_lit];exact hcs (i*s.size+j) v (by rwa [List.getElem?_drop] at hj))
   (fun j hj=>hsp _ (by omega)) (fun j hj=>hfz _ (by omega)) (fun v hv=>h1c v (List.mem_of_mem_drop hv))
 obtain ⟨W1,hW1⟩: ∃W1,W1=w.drew.setCells b (i*s.size+s.size) (cs.drop (i*s.size)):=⟨_,rfl⟩
 have hsp1: ∀k,k<(n+1)*s.size→(W1.cell? ⟨b,k,none⟩).isSome=true:=fun k hk=>by
  rw [hW1]
  exact isSome_setCells b (cs.drop (i*s.size)) (i*s.size+s.size) w.drew (fun j hj=>hsp (i*s.size+s.size+j) (by omega)) k (hsp k hk)
 have hcp2: ∀(W:World),(∀x,W.cell? x=W1.cell? x)→(∀x,W.frozen? x=W1.frozen? x)→ ∀ty dc,(Builtin.copy_ #[(ρ.t 24),(ρ.t 24)] ty #[.slice (some ⟨b,i*s.size,none⟩) (n+1 - i) dc,.slice (some ⟨vb,0,none⟩) 1 vc]).run P W= .ok (goInt ((1:Nat):Int)) (W.setCells b (i*s.size) vs):=fun W hWc hWf ty dc=>
  copy_cells W L.t24 L.s9 b (i*s.size) (n+1 - i) dc ⟨vb,0,none⟩ 1 vc 1 vs (by simp only [Nat.min_def];split <;> omega) (by rw [Nat.one_mul];exact hvl)
   (fun j v hj=>by
    rw [Addr.add_lit,hWc,hW1,World.cell?_setCells_out b _ _ _ _ (fun h _=>absurd h hvb),Nat.zero_add]
    exact hvs j v hj)
   (fun j hj=>by rw [hWc];exact hsp1 _ (by omega)) (fun j hj=>by rw [hWf,hW1,World.frozen?_setCells];exact hfz _ (by omega)) h1v
 rw [←hW1] at hcp1
 have hf22:=L.f22
 simp only [n22n,Body2.n22] at hf22
 go_enter hf22,n22n_ntmps P ρ
 go_wp2_with (simp only [hov])
 go_region_law_o (refine step_copy_runI rfl _ _ (ρ.t 24) (ρ.t 24) rfl _ _ (by simp [Act.eval,Act.put]) (by simp [Act.eval,Act.put]) (hcp1 _ _ _) ?_)
 go_wp2_with (at_builtin;refine wpList_copy_runI _ rfl _ _ (ρ.t 24) (ρ.t 24) rfl _ _ rfl rfl (hcp2 _ (fun _=>rfl) (fun _=>rfl) _ _) ?_)
 go_ret
 first | exact ⟨rfl,rfl⟩ | exact ⟨rfl,by rw [hW1]⟩
set_option maxHeartbeats 4000000 in
set_option maxRecDepth 100000 in
theorem ins_grow(L:InsAt P ρ s)(b n c i vb vc:Nat)(cs vs:List Value)(w:World)(hi:i<n)(hnc:n≤c)(hroom:c<n+1)(hlim:n≤4294967296)
  (hcl:cs.length=n*s.size) (hvl:vs.length=s.size)
  (hcs: ∀j v,cs[j]? =some v→w.cell? ⟨b,j,none⟩=some v)
  (hvs: ∀j v,vs[j]? =some v→w.cell? ⟨vb,j,none⟩=some v) (h1c: ∀v∈cs,v.oneCell'=true) (h1v: ∀v∈vs,v.oneCell'=true)
  (zv:Value) (i0:TypeInfo) (hi0:P.info? (ρ.t 9)=some i0) (hz0:i0.zero=some zv) (hzc:zv.cells.size=s.size) (hzs:i0.size=s.size) (hzb:i0.bytes≤1024) (hpos:0<s.size) (G:Nat) (hGe:G=grownCap w (n+1) c (ρ.t 9)) (ROW:Array Value)
  (hROW:ROW=(cs.take (i*s.size)).toArray++Builtin.zeroCells zv.cells (n+1 - i)++Builtin.zeroCells zv.cells (G - (n+1))):
  Calls P (ρ.f 22) #[.slice (some ⟨b,0,none⟩) n c,.int .i64 i,.slice (some ⟨vb,0,none⟩) 1 vc] w fun e w'=>
   e= .returned (.slice (some ⟨w.heap.size,0,none⟩) (n+1) G)∧
   w'=(((w.alloc (.cells ROW (ρ.t 9))).drew.setCells w.heap.size (i*s.size) vs).drew).setCells w.heap.size (i*s.size+s.size) (cs.drop (i*s.size)):=by
 have t0:=L.t0;have a0:=L.a0;have z0:=L.z0;have v0:=L.v0;have t3:=L.t3;have a3:=L.a3;have z3:=L.z3;have v3:=L.v3;have t4:=L.t4;have a4:=L.a4;have z4:=L.z4;have v4:=L.v4;have t24:=L.t24;have a24:=L.a24;have z24:=L.z24;have v24:=L.v24
 have z9:=fun w=>sh_size (P:=P) (w:=w) L.s9
 have u0:=run_underlying L.t0;have u3:=run_underlying L.t3;have u4:=run_underlying L.t4;have u24:=run_underlying L.t24
 have mixed:=L.mixed
 have hz2: ¬((i:Int)=(n:Int)):=by omega
 have hz3:(c:Int)<(n:Int)+1:=by omega
 have hdl:(cs.drop (i*s.size)).length=(n - i)*s.size:=by rw [List.length_drop,hcl,Nat.sub_mul]
 have hik:i*s.size+(n - i)*s.size=n*s.size:=by rw [←Nat.add_mul];congr 1;omega
 have hn1:(n+1)*s.size=n*s.size+s.size:=by rw [Nat.add_mul,Nat.one_mul]
 have hns:0<n*s.size:=Nat.mul_pos (by omega) hpos
 have hbw:b<w.heap.size:=block_lt_of_cell (hcs 0 _ (List.getElem?_eq_getElem (by omega)))
 have hvw:vb<w.heap.size:=block_lt_of_cell (hvs 0 _ (List.getElem?_eq_getElem (by omega)))
 have hkk:(n:Int)+1 - (i:Int)=((n+1 - i:Nat):Int):=by omega
 have hik2:i+(n+1 - i)=n+1:=by omega
 have hile:i*s.size≤n*s.size:=by omega
 have hold:(Builtin.firstCells i0.size i (.slice (some ⟨b,0,none⟩) i c)).run P w.drew= .ok (cs.take (i*s.size)).toArray w.drew:=by
  rw [hzs]
  exact run_firstCells_some w.drew s.size i ⟨b,0,none⟩ i c (cs.take (i*s.size)) (by rw [List.length_take];omega) (fun j v hj=>by
   rw [Addr.add_lit,Nat.zero_add]
   rw [List.getElem?_take] at hj
   split at hj
   ·exact hcs j v hj
   ·cases hj)
 have hb48:(n+1)*i0.bytes≤(4294967296+1)*1024:=Nat.mul_le_mul (by omega) hzb
 have hb48':(n+1 - i)*i0.bytes≤(4294967296+1)*1024:=Nat.mul_le_mul (by omega) hzb
 have hrz: ∀ty,(Builtin.append_ #[(ρ.t 24),(ρ.t 3)] ty #[.slice (some ⟨b,0,none⟩) i c,.int .i64 ((n:Int)+1 - (i:Int))]).run P w=
   .ok (.slice (some ⟨w.heap.size,0,none⟩) (n+1) G) (w.drew.alloc (.cells ROW (ρ.t 9))):=fun ty=>by
  have h:=Lib.run_append_grow_zeros w (ρ.t 24) (ρ.t 3) ty (ρ.t 9) i0 _ .i64 .i64 L.t24 L.t3 hi0 hz0 (some ⟨b,0,none⟩) i c (cs.take (i*s.size)) hold (n+1 - i) (by omega) (by omega) (by omega) (by omega) (by omega) (by rw [hik2];exact growslice_fits hroom (by omega))
  rw [hik2,←hGe,←hROW] at h
  rw [hkk]
  exact h
 have hGn:n+1≤G:=by rw [hGe];exact grownCap_ge w _ _ _
 have hG63:G≤9223372036854775807:=by
  have:=grownCap_le_maxLen w (n+1) c (ρ.t 9) (by unfold maxLen;omega)
  rw [←hGe] at this
  unfold maxLen at this
  omega
 have hRl:(n+1)*s.size≤ROW.size:=by
  rw [hROW]
  simp only [Array.size_append,List.size_toArray,zeroCells_size,hzc,List.length_take]
  rw [Nat.sub_mul]
  omega
 obtain ⟨W1,hW1⟩: ∃W1,W1=w.drew.alloc (.cells ROW (ρ.t 9)):=⟨_,rfl⟩
 rw [←hW1] at hrz
 have hN: ∀j,j<(n+1)*s.size→(W1.cell? ⟨w.heap.size,j,none⟩).isSome=true:=fun j hj=>by
  rw [hW1,World.cell?_alloc_at (w:=w.drew) ROW _ w.heap.size j rfl,Array.getElem?_eq_getElem (by omega)];rfl
 have hNf: ∀j,W1.frozen? ⟨w.heap.size,j,none⟩=false:=fun j=>by rw [hW1];exact World.frozen?_alloc_at (w:=w.drew) ROW _ w.heap.size j rfl
 have hOb: ∀j v,w.cell? ⟨b,j,none⟩=some v→W1.cell? ⟨b,j,none⟩=some v:=fun j v h=>by rw [hW1,World.cell?_alloc_past (w:=w.drew) _ b j hbw];exact h
 have hOv: ∀j v,w.cell? ⟨vb,j,none⟩=some v→W1.cell? ⟨vb,j,none⟩=some v:=fun j v h=>by rw [hW1,World.cell?_alloc_past (w:=w.drew) _ vb j hvw];exact h
 have hcpA: ∀(W:World),(∀x,W.cell? x=W1.cell? x)→(∀x,W.frozen? x=W1.frozen? x)→ ∀ty dc,(Builtin.copy_ #[(ρ.t 24),(ρ.t 24)] ty #[.slice (some ⟨w.heap.size,i*s.size,none⟩) (n+1 - i) dc,.slice (some ⟨vb,0,none⟩) 1 vc]).run P W= .ok (goInt ((1:Nat):Int)) (W.setCells w.heap.size (i*s.size) vs):=fun W hWc hWf ty dc=>
  copy_cells W L.t24 L.s9 w.heap.size (i*s.size) (n+1 - i) dc ⟨vb,0,none⟩ 1 vc 1 vs (by simp only [Nat.min_def];split <;> omega) (by rw [Nat.one_mul];exact hvl)
   (fun j v hj=>by rw [Addr.add_lit,hWc,Nat.zero_add];exact hOv _ v (hvs j v hj))
   (fun j hj=>by rw [hWc];exact hN _ (by omega)) (fun j hj=>by rw [hWf];exact hNf _) h1v
 have hGi: ¬(G=i):=by omega
 have hGim: ¬(G=i+1):=by omega
 have hci: ¬(c=i):=by omega
 have hbN:b≠w.heap.size:=by omega
 have hcpB: ∀(W:World),(∀x,W.cell? x=(W1.setCells w.heap.size (i*s.size) vs).cell? x)→(∀x,W.frozen? x=(W1.setCells w.heap.size (i*s.size) vs).frozen? x)→ ∀ty dc sc,(Builtin.copy_ #[(ρ.t 24),(ρ.t 24)] ty #[.slice (some ⟨w.heap.size,i*s.size+s.size,none⟩) (n - i) dc,.slice (some ⟨b,i*s.size,none⟩) (n - i) sc]).run P W= .ok (goInt ((n - i:Nat):Int)) (W.setCells w.heap.size (i*s.size+s.size) (cs.drop (i*s.size))):=fun W hWc hWf ty dc sc=>
  copy_cells W L.t24 L.s9 w.heap.size (i*s.size+s.size) (n - i) dc ⟨b,i*s.size,none⟩ (n - i) sc (n - i) (cs.drop (i*s.size)) (by simp only [Nat.min_def];split <;> omega) hdl
   (fun j v hj=>by
    rw [Addr.add_lit,hWc,World.cell?_setCells_out _ _ _ _ _ (fun h _=>absurd h hbN)]
    exact hOb _ v (hcs (i*s.size+j) v (by rwa [List.getElem?_drop] at hj)))
   (fun j hj=>by rw [hWc];exact isSome_setCells w.heap.size vs (i*s.size) W1 (fun t ht=>hN (i*s.size+t) (by omega)) (i*s.size+s.size+j) (hN _ (by omega)))
   (fun j hj=>by rw [hWf,World.frozen?_setCells];exact hNf _) (fun v hv=>h1c v (List.mem_of_mem_drop hv))
 subst hW1
 have hE1: ∀x,((w.alloc (.cells ROW (ρ.t 9))).drew).cell? x=(w.drew.alloc (.cells ROW (ρ.t 9))).cell? x:=fun x=>rfl
 have hE2: ∀x,((w.alloc (.cells ROW (ρ.t 9))).drew).frozen? x=(w.drew.alloc (.cells ROW (ρ.t 9))).frozen? x:=fun x=>rfl
 have hF1: ∀x,(((w.alloc (.cells ROW (ρ.t 9))).drew.setCells w.heap.size (i*s.size) vs).drew).cell? x=((w.drew.alloc (.cells ROW (ρ.t 9))).setCells w.heap.size (i*s.size) vs).cell? x:=fun x=>rfl
 have hF2: ∀x,(((w.alloc (.cells ROW (ρ.t 9))).drew.setCells w.heap.size (i*s.size) vs).drew).frozen? x=((w.drew.alloc (.cells ROW (ρ.t 9))).setCells w.heap.size (i*s.size) vs).frozen? x:=fun x=>rfl
 have hw1:IntKind.i64.wrap ((i:Int)+1)=(i:Int)+1:=by rw [IntKind.wrap_i64];omega
 have hb1:(0:Int)≤(i:Int)+1:=by omega
 have hin:i≤n:=by omega
 have htn:((i:Int)+1).toNat=i+1:=by omega
 have hb3:(i:Int)≤(n:Int):=by omega
 clear hkk hik2 hold hROW hGe hRl hb48 hb48'
 have hf22:=L.f22
 simp only [n22n,Body2.n22] at hf22
 go_enter hf22,n22n_ntmps P ρ
 go_wp2_with (first
  | (at_builtin;refine Lib.wpList_append_run _ rfl _ _ _ _ rfl _ _ rfl rfl _ _ (hrz _) ?_)
  | (at_builtin;refine wpList_copy_runI _ rfl _ _ (ρ.t 24) (ρ.t 24) rfl _ _ rfl rfl (hcpA _ hE1 hE2 _ _) ?_)
  | (at_builtin;refine wpList_copy_runI _ rfl _ _ (ρ.t 24) (ρ.t 24) rfl _ _ rfl rfl (hcpB _ (fun _=>rfl) (fun _=>rfl) _ _ _) ?_))
 go_region_law_o (refine step_copy_runI rfl _ _ (ρ.t 24) (ρ.t 24) rfl (.slice (some ⟨w.heap.size,i*s.size+s.size,none⟩) (n - i) (G - (i+1))) (.slice (some ⟨b,i*s.size,none⟩) (n - i) (c - i)) (by simp [Act.eval,Act.put,Nat.add_mul]) (by simp [Act.eval,Act.put]) (hcpB _ hF1 hF2 (ρ.t 3) (G - (i+1)) (c - i)) ?_)
 go_wp2
 go_ret
 exact ⟨rfl,rfl⟩
end
open Go Go.Proofs Go.Shelf
def Cins(e:Sh)(args:List V)(ob:Obs):Tree (V×Obs):=
 match args with
 | [S,.d (.int .i64 i),.own j]=>match ob.get j with
  | some (.lst f _ _ _ [y])=>(match Sh.beq f e with
   | true=>(match S with
    | .own id=>(match ob.get id with
     | some (.lst g _ _ false es)=>(match Sh.beq g e&& !(Nat.beq id j) with
      | true=> .ite (decide (0≤i∧i≤(es.length:Int))&&decide (es.length<lim)) (fun _=> .ret (.own id,(St.kill [id] ⟨[],ob.set id (.lst e false true false (es.take i.toNat++y :: es.drop i.toNat))⟩).ob)) (fun _=> .stuck)
      | false=> .stuck)
     | _=> .stuck)
    | .d (.sl g true [])=>(match Sh.beq g e with
     | true=> .ite (decide (i=0)) (fun _=> .ret (.own 64,(St.kill [64] ⟨[],ob.set 64 (.lst e false false false [y])⟩).ob)) (fun _=> .stuck)
     | false=> .stuck)
    | _=> .stuck)
   | false=> .stuck)
  | _=> .stuck
 | _=> .stuck
section
variable {P:Program} {ρ:Ren} {e:Sh} {w w':World} {X Y:Nat→Prop} {β β':Nat→Pl} {ob:Obs}
theorem RL_ins{es:List D}{y:D}{vs new row:Array Value}(h:RL w Y e es vs)(hn:RL w Y e [y] new){i:Nat}(hi:i≤es.length)
  (h1: ∀j,j<i*e.size→row[j]? =vs[j]?) (h2: ∀j,j<e.size→row[i*e.size+j]? =new[j]?) (h3: ∀j,j<(es.length - i)*e.size→row[(i+1)*e.size+j]? =vs[i*e.size+j]?):
  RL w Y e (es.take i++y :: es.drop i) row:=by
 have hfit: ∀x∈es.take i++y :: es.drop i,fits e x=true:=by
  intro x hx
  rcases List.mem_append.1 hx with hx | hx
  ·exact h.1 x (List.mem_of_mem_take hx)
  ·rcases List.mem_cons.1 hx with rfl | hx
   ·exact hn.1 _ (by simp)
   ·exact h.1 x (List.mem_of_mem_drop hx)
 refine ⟨hfit,fun p x j c hp hj=> ?_⟩
 have hjl:j<e.size:=by rw [←fits_size (hfit x (List.mem_of_getElem? hp))];exact (List.getElem?_eq_some_iff.mp hj).1
 have htl:(es.take i).length=i:=by rw [List.length_take];omega
 by_cases hpi:p<i
 ·rw [List.getElem?_append_left (by omega),List.getElem?_take_of_lt hpi] at hp
  obtain ⟨u,hu,hr⟩:=h.2 p x j c hp hj
  have hlt:p*e.size+j<i*e.size:=by
   have:(p+1)*e.size≤i*e.size:=Nat.mul_le_mul_right _ hpi
   rw [Nat.add_mul] at this;omega
  exact ⟨u,by rw [h1 _ hlt];exact hu,hr⟩
 ·rw [List.getElem?_append_right (by omega),htl] at hp
  by_cases hpe:p=i
  ·subst hpe
   rw [Nat.sub_self,List.getElem?_cons_zero] at hp
   obtain ⟨u,hu,hr⟩:=hn.2 0 x j c (by simpa using hp) hj
   rw [Nat.zero_mul,Nat.zero_add] at hu
   exact ⟨u,by rw [h2 j hjl];exact hu,hr⟩
  ·obtain ⟨q,rfl⟩: ∃q,p=i+1+q:=⟨p - i - 1,by omega⟩
   rw [show i+1+q - i=q+1 by omega,List.getElem?_cons_succ,List.getElem?_drop] at hp
   obtain ⟨u,hu,hr⟩:=h.2 (i+q) x j c hp hj
   have hql:i+q<es.length:=(List.getElem?_eq_some_iff.mp hp).1
   have hlt:q*e.size+j<(es.length - i)*e.size:=by
    have:(q+1)*e.size≤(es.length - i)*e.size:=Nat.mul_le_mul_right _ (by omega)
    rw [Nat.add_mul] at this;omega
   refine ⟨u,?_,hr⟩
   have e1:(i+1+q)*e.size+j=(i+1)*e.size+(q*e.size+j):=by rw [Nat.add_mul (i+1) q];omega
   have e2:(i+q)*e.size+j=i*e.size+(q*e.size+j):=by rw [Nat.add_mul i q];omega
   rw [e1,h3 _ hlt,←e2];exact hu
theorem rel_none(h:RelO P w X β ob):Rel P w X β ⟨[],ob⟩ ⟨#[],[]⟩:=⟨h,by simp [RVL],by simp [Marks]⟩
theorem Good.came{a:Act}{st':St}{v:V}{u:Value}(h:Good P w w' X β β' ob st' a v u):Came P w w' X β β' ob st'.ob v u:=⟨h.rel.ob,h.val,h.keep,h.own,h.stay⟩
theorem setCells_row(b:Nat)(T:TypeId)(fz:Nat×Nat): ∀(cs:List Value) (o:Nat) (cur:Array Value) (w:World),w.heap[b]? =some (.cells cur T fz)→o+cs.length≤cur.size→
  w.setCells b o cs=w.setRow b (cur.toList.take o++cs++cur.toList.drop (o+cs.length)).toArray
 | [],o,cur,w,hg,_=>by
  simp only [World.setCells,List.append_nil,List.length_nil,Nat.add_zero,List.take_append_drop,Array.toArray_toList]
  rw [setRow_self w b cur T fz hg]
 | v :: r,o,cur,w,hg,hl=>by
  have ih:=setCells_row b T fz r (o+1) (cur.setIfInBounds o v) (w.setRow b (cur.setIfInBounds o v)) (setRow_heap w b cur _ T _ hg) (by simp at hl ⊢;omega)
  rw [World.setCells,setCell_eq_setRow w b o cur T fz v hg,ih,setRow_setRow]
  congr 2
  have e:=list_seg_step cur.toList o v r (by simp at hl ⊢;omega)
  simpa [Array.toList_setIfInBounds,Nat.add_assoc] using e
theorem seg_get{α:Type}(l cs:List α)(o j:Nat)(h:o+cs.length≤l.length):(l.take o++cs++l.drop (o+cs.length))[j]? =if j<o then l[j]? else if j<o+cs.length then cs[j - o]? else l[j]? :=by
 have h1:(l.take o).length=o:=by rw [List.length_take];omega
 split
 ·rename_i hj
  rw [List.append_assoc,List.getElem?_append_left (by omega),List.getElem?_take_of_lt hj]
 ·rename_i hj
  split
  ·rename_i hj2
   rw [List.append_assoc,List.getElem?_append_right (by omega),h1,List.getElem?_append_left (by omega)]
  ·rename_i hj2
   rw [List.getElem?_append_right (by rw [List.length_append];omega),List.length_append,h1,List.getElem?_drop]
   congr 1;omega
theorem two_rows(b:Nat)(T:TypeId)(fz:Nat×Nat)(row:Array Value)(W:World)(o1:Nat)(c1:List Value)(o2:Nat)(c2:List Value)(hh:W.heap[b]? =some (.cells row T fz))(h1:o1+c1.length≤row.size)(h2:o2+c2.length≤row.size)
  (hd:o1+c1.length≤o2∨o2+c2.length≤o1): ∃r:Array Value,(W.setCells b o1 c1).setCells b o2 c2=W.setRow b r∧r.size=row.size∧(∀j,j<c1.length→r[o1+j]? =c1[j]?)∧(∀j,j<c2.length→r[o2+j]? =c2[j]?)∧
   (∀j,¬(o1≤j∧j<o1+c1.length)→ ¬(o2≤j∧j<o2+c2.length)→r[j]? =row[j]?):=by
 obtain ⟨r1,hr1⟩: ∃r1:Array Value,r1=(row.toList.take o1++c1++row.toList.drop (o1+c1.length)).toArray:=⟨_,rfl⟩
 have e1:=setCells_row b T fz c1 o1 row W hh h1
 rw [←hr1] at e1
 have s1:r1.size=row.size:=by rw [hr1];simp;omega
 have e2:=setCells_row b T fz c2 o2 r1 (W.setRow b r1) (setRow_heap W b row r1 T fz hh) (by omega)
 rw [setRow_setRow] at e2
 have g1: ∀j,r1[j]? =if j<o1 then row[j]? else if j<o1+c1.length then c1[j - o1]? else row[j]? :=fun j=>by
  have:=seg_get row.toList c1 o1 j (by simpa using h1)
  rw [hr1,List.getElem?_toArray,this];simp
 have g2: ∀j,(r1.toList.take o2++c2++r1.toList.drop (o2+c2.length)).toArray[j]? =if j<o2 then r1[j]? else if j<o2+c2.length then c2[j - o2]? else r1[j]? :=fun j=>by
  have:=seg_get r1.toList c2 o2 j (by have:=Array.length_toList (xs:=r1);omega)
  rw [List.getElem?_toArray,this];simp
 refine ⟨_,by rw [e1,e2],by simp;omega,fun j hj=> ?_,fun j hj=> ?_,fun j n1 n2=> ?_⟩
 ·rw [g2]
  have hn:(if o1+j<o2 then r1[o1+j]? else if o1+j<o2+c2.length then c2[o1+j - o2]? else r1[o1+j]?)=r1[o1+j]? :=by
   split
   ·rfl
   ·rw [if_neg (by omega)]
  rw [hn,g1,if_neg (by omega),if_pos (by omega)]
  congr 1;omega
 ·rw [g2,if_neg (by omega),if_pos (by omega)]
  congr 1;omega
 ·rw [g2]
  have hn:(if j<o2 then r1[j]? else if j<o2+c2.length then c2[j - o2]? else r1[j]?)=r1[j]? :=by
   split
   ·rfl
   ·rw [if_neg (by omega)]
  rw [hn,g1]
  split
  ·rfl
  ·rw [if_neg (by omega)]
theorem fnIns(L:InsAt P ρ e):FnOK P (ρ.f 22) (Cins e):=by
 intro hyn args ob v ob' h w X β us hR hv
 have hbody: ∃c,(n22n P ρ).body=some c:=⟨_,rfl⟩
 obtain ⟨cb,hcb⟩:=hbody
 have hcall: ∀(us:Array Value) (R:Value→World→Prop),Calls P (ρ.f 22) us w (fun e w'=> ∃u,e= .returned u∧R u w')→Invokes P (ρ.f 22) us w R:=fun us R hc=>
  .inl ⟨MuLone.run_callFunc_enter L.f22 L.nn22 hcb _ w,hc⟩
 unfold Cins at h
 split at h
 ·rename_i S i j
  split at h
  ·rename_i f nlj mvj fzj y hoj
   split at h
   ·rename_i hfe0
    have hfe:=Sh.beq_eq hfe0
    subst hfe
    obtain ⟨us⟩:=us
    match us,hv with
    | [sv,iv,xv],hv=>
    simp only [RVL] at hv
    obtain ⟨hS,hi,hX,-⟩:=hv
    cases RVd hi
    have hX0:=hX
    simp only [RV] at hX
    obtain ⟨a',n',c',rfl,hp⟩:=hX
    have hp:=hp _ _ _ _ _ hoj
    have hroj:=hR.obj j _ hoj
    cases hbj:β j with
    | nil=>rw [hbj] at hroj;cases hroj.2
    | capless a=>rw [hbj] at hroj;cases hroj.2
    | blk vb vc=>
    rw [hbj] at hroj hp
    obtain ⟨-,hcapj,vsj,Tj,fj,hhj,hfj,hcsj,hlj⟩:=hroj
    simp only [Pl.slice,List.length_singleton] at hp
    rw [hp]
    rw [hp] at hX0
    have hpos:=L.pos
    have hszj:f.size≤vsj.size:=by
     have:1*f.size≤vc*f.size:=Nat.mul_le_mul_right _ hcapj
     omega
    have happ: ∀(es:List D) (id:Nat) (nl mv:Bool),elemsOf ob f (.own j)=some ([y],[j]):=fun _ _ _ _=>by simp only [elemsOf,hoj];rw [hfe0];rfl
    have hel:elemsOf ob f (.own j)=some ([y],[j]):=by simp only [elemsOf,hoj];rw [hfe0];rfl
    split at h
    ·rename_i id
     split at h
     ·rename_i g nl mv es ho
      split at h
      ·rename_i hb
       simp only [Bool.and_eq_true,Bool.not_eq_true'] at hb
       have hge:=Sh.beq_eq hb.1
       subst hge
       have hij:id≠j:=fun h=>by rw [h,Nat.beq_refl] at hb;exact absurd hb.2 (by decide)
       obtain ⟨hg,h⟩:=eval_guard h
       simp only [Bool.and_eq_true,decide_eq_true_eq] at hg
       obtain ⟨⟨hg0,hg1⟩,hg2⟩:=hg
       have hg2:es.length<4294967296:=hg2
       simp only [Tree.eval,Option.some.injEq,Prod.mk.injEq] at h
       obtain ⟨rfl,rfl⟩:=h
       obtain ⟨i,rfl⟩: ∃k:Nat,i=k:=⟨i.toNat,by omega⟩
       have hg1:i≤es.length:=by omega
       rw [Int.toNat_natCast]
       have hS0:=hS
       simp only [RV] at hS
       obtain ⟨ax,ns,cs0,rfl,hps⟩:=hS
       have hps:=hps _ _ _ _ _ ho
       have hros:=hR.obj id _ ho
       rw [hps] at hS0 ⊢
       by_cases hil:i=es.length
       ·subst hil
        obtain ⟨w',u',β',hrun,hgood⟩:=appD_ok (P:=P) (t:=ρ.t 24) (u:=ρ.t 24) (ty:=ρ.t 24) (e:=ρ.t 9) (s:=g) (S:= .own id) (x:= .own j) (bs:=64) (rel_none hR) (Nat.le_refl _) L.t24 L.s9
         ⟨_,L.t24,fun k hk=>by cases hk⟩ L.zs hS0 hX0 (r:=⟨.own id,ob.set id (.lst g (nl&&[y].isEmpty) true false (es++[y])),[id]⟩) (by
          unfold appD
          rw [hel]
          simp only [ho]
          rw [hb.1]
          have:(!([j]:List Nat).contains id)=true:=by simp;exact hij
          rw [this]
          simp only [Bool.and_true,if_true]
          show Tree.eval (.ite _ _ _)=_
          rw [decide_eq_true (show es.length+[y].length≤lim by simp [lim];omega)]
          rfl)
        have hres:(St.kill [id] ⟨[],ob.set id (.lst g false true false (es.take es.length++y :: es.drop es.length))⟩).ob=(St.kill [id] ⟨[],ob.set id (.lst g (nl&&[y].isEmpty) true false (es++[y]))⟩).ob:=by
         rw [List.take_length,List.drop_length];simp
        rw [hres]
        have hgo: ∀(base:Option Addr) (c:Nat),es.length≤c→(β id).slice es.length= .slice base es.length c→Invokes P (ρ.f 22) #[(β id).slice es.length,.int .i64 (es.length:Int),.slice (some ⟨vb,0,none⟩) 1 vc] w fun u w'=> ∃β',Came P w w' X β β' ob (St.kill [id] ⟨[],ob.set id (.lst g (nl&&[y].isEmpty) true false (es++[y]))⟩).ob (.own id) u:=by
         intro base c hc he
         rw [he] at hrun ⊢
         exact hcall _ _ ((ins_end L base es.length c vb vc w w' u' hc hrun).mono fun e w2 hh=>by
          obtain ⟨rfl,rfl⟩:=hh
          exact ⟨u',rfl,β',hgood.came⟩)
        cases hbi:β id with
        | nil=>
         rw [hbi] at hros hgo
         obtain ⟨-,rfl⟩:=hros
         exact hgo none 0 (Nat.le_refl _) rfl
        | capless a=>
         rw [hbi] at hros hgo
         obtain ⟨-,rfl⟩:=hros
         exact hgo (some a) 0 (Nat.le_refl _) rfl
        | blk b cap=>
         rw [hbi] at hros hgo
         exact hgo _ cap hros.2.1 rfl
       ·have hilt:i<es.length:=by omega
        cases hbi:β id with
        | nil=>rw [hbi] at hros;obtain ⟨-,rfl⟩:=hros;simp at hilt
        | capless a=>rw [hbi] at hros;obtain ⟨-,rfl⟩:=hros;simp at hilt
        | blk b cap=>
        rw [hbi] at hros
        obtain ⟨-,hcap,vs,T,fz,hh,hf,hcs,hl⟩:=hros
        have hvb:vb≠b:=fun he=>hij (hR.inj id j _ _ b cap vc ho hoj hbi (by rw [hbj,he]) rfl)
        have hnsz:es.length*g.size≤vs.size:=Nat.le_trans (Nat.mul_le_mul_right _ hcap) hcs
        obtain ⟨cs,hcse⟩: ∃cs,cs=vs.toList.take (es.length*g.size):=⟨_,rfl⟩
        obtain ⟨new,hnew⟩: ∃new,new=vsj.toList.take g.size:=⟨_,rfl⟩
        have hcl:cs.length=es.length*g.size:=by have:=Array.length_toList (xs:=vs);rw [hcse,List.length_take];omega
        have hvl:new.length=g.size:=by have:=Array.length_toList (xs:=vsj);rw [hnew,List.length_take];omega
        have hcg: ∀j,j<es.length*g.size→cs[j]? =vs[j]? :=fun j hj=>by rw [hcse,List.getElem?_take_of_lt hj];simp
        have hng: ∀j,j<g.size→new[j]? =vsj[j]? :=fun j hj=>by rw [hnew,List.getElem?_take_of_lt hj];simp
        have hcw: ∀j v,cs[j]? =some v→w.cell? ⟨b,j,none⟩=some v:=fun j v hj=>by
         have hlt:=(List.getElem?_eq_some_iff.1 hj).1
         rw [cell_of_row w b j vs T fz hh,←hcg j (by omega)];exact hj
        have hnw: ∀j v,new[j]? =some v→w.cell? ⟨vb,j,none⟩=some v:=fun j v hj=>by
         have hlt:=(List.getElem?_eq_some_iff.1 hj).1
         rw [cell_of_row w vb j vsj Tj fj hhj,←hng j (by omega)];exact hj
        have hrlc:RL w (Ys X β ob) g es cs.toArray:=⟨hl.1,fun p x q c hp hq=>by
         obtain ⟨u,hu,hr⟩:=hl.2 p x q c hp hq
         refine ⟨u,?_,hr⟩
         have hfx:=hl.1 x (List.mem_of_getElem? hp)
         have hql:q<g.size:=by rw [←fits_size hfx];exact (List.getElem?_eq_some_iff.mp hq).1
         have hpl:=(List.getElem?_eq_some_iff.mp hp).1
         have hlt:p*g.size+q<es.length*g.size:=by
          have:(p+1)*g.size≤es.length*g.size:=Nat.mul_le_mul_right _ hpl
          rw [Nat.add_mul] at this;omega
         rw [List.getElem?_toArray,hcg _ hlt];exact hu⟩
        have hrln:RL w (Ys X β ob) g [y] new.toArray:=⟨hlj.1,fun p x q c hp hq=>by
         obtain ⟨u,hu,hr⟩:=hlj.2 p x q c hp hq
         refine ⟨u,?_,hr⟩
         have hfx:=hlj.1 x (List.mem_of_getElem? hp)
         have hql:q<g.size:=by rw [←fits_size hfx];exact (List.getElem?_eq_some_iff.mp hq).1
         have hpl:=(List.getElem?_eq_some_iff.mp hp).1
         have hp0:p=0:=by simp at hpl;omega
         subst hp0
         rw [Nat.zero_mul,Nat.zero_add] at hu ⊢
         rw [List.getElem?_toArray,hng _ hql];exact hu⟩
        have h1c:=RL_one hrlc hcl
        have h1n:=RL_one hrln (by rw [hvl];simp)
        have hik:i*g.size+(es.length - i)*g.size=es.length*g.size:=by rw [←Nat.add_mul];congr 1;omega
        have hi1:(i+1)*g.size=i*g.size+g.size:=by rw [Nat.add_mul,Nat.one_mul]
        have hn1:(es.length+1)*g.size=es.length*g.size+g.size:=by rw [Nat.add_mul,Nat.one_mul]
        have hdl:(cs.drop (i*g.size)).length=(es.length - i)*g.size:=by rw [List.length_drop,hcl,Nat.sub_mul]
        have hlen:(es.take i++y :: es.drop i).length=es.length+1:=by simp;omega
        have hfin: ∀(W':World) (B G:Nat) (row r:Array Value) (T:TypeId) (fz:Nat×Nat),W'.heap[B]? =some (.cells r T fz)→NoFzE g fz r.size→es.length+1≤G→G*g.size≤r.size→Grew w W'→(∀b',b'<w.heap.size→ ¬Ch β ob id b'→W'.heap[b']? =w.heap[b']?)→
          (B<w.heap.size→B=b)→(∀j,j<i*g.size→r[j]? =cs[j]?)→(∀j,j<g.size→r[i*g.size+j]? =new[j]?)→(∀j,j<(es.length - i)*g.size→r[i*g.size+g.size+j]? =cs[i*g.size+j]?)→
          Good P w W' X β (putPl β id (.blk B G)) ob (St.kill [id] ⟨[],ob.set id (.lst g false true false (es.take i++y :: es.drop i))⟩) ⟨#[],[]⟩ (.own id) (.slice (some ⟨B,0,none⟩) (es.length+1) G):=by
         intro W' B G row r T fz hr hz hG hGr hgrew hoth hB q1 q2 q3
         have hgd:=own_good (w':=W') (id:=id) (s:=g) (nl:=false) (mv:=true) (es:=es.take i++y :: es.drop i) (p:= .blk B G) (rel_none hR) (.inr rfl) hgrew hoth (fun b' c hp' hlt=>by
          cases hp'
          rw [hB hlt]
          exact ⟨cap,_,ho,hbi,rfl⟩) (fun hd=>by
          refine ⟨rfl,by rw [hlen];exact hG,r,T,fz,hr,hz,hGr,?_⟩
          have hrl:=RL_ins (row:=r) hrlc hrln (i:=i) hg1 (fun j hj=>by rw [List.getElem?_toArray (xs:=cs)];exact q1 j hj) (fun j hj=>by rw [List.getElem?_toArray (xs:=new)];exact q2 j hj) (fun j hj=>by rw [hi1,List.getElem?_toArray (xs:=cs)];exact q3 j hj)
          refine ⟨hrl.1,fun p x q c hp hq=> ?_⟩
          obtain ⟨u,hu,hr⟩:=hrl.2 p x q c hp hq
          exact ⟨u,hu,hd _ _ hr⟩)
         rw [hlen] at hgd
         exact hgd
        by_cases hroom:es.length+1≤cap
        ·have hr1:(es.length+1)*g.size≤vs.size:=Nat.le_trans (Nat.mul_le_mul_right _ hroom) hcs
         have hfj0:fj.1=fj.2:=hfj.2 L.su8
         have hf0:fz.1=fz.2:=hf.2 L.su8
         have hfro: ∀x,w.frozen? ⟨vb,x,none⟩=false:=fun x=>by
          simp only [World.frozen?,hhj]
          have: ¬(fj.1≤x∧x<fj.2):=by omega
          simpa using this
         have hfro2: ∀x,w.frozen? ⟨b,x,none⟩=false:=fun x=>by
          simp only [World.frozen?,hh]
          have: ¬(fz.1≤x∧x<fz.2):=by omega
          simpa using this
         obtain ⟨r,hr,hrs,k1,k2,k3⟩:=two_rows b T fz vs w.drew (i*g.size+g.size) (cs.drop (i*g.size)) (i*g.size) new hh (by rw [hdl];omega) (by rw [hvl];omega) (.inr (by rw [hvl];omega))
         refine hcall _ _ ((ins_shift L b es.length cap i vb vc cs new w hilt hroom (by omega) hvb hcl hvl hcw (fun j hj=>by rw [cell_of_row w b j vs T fz hh,Array.getElem?_eq_getElem (by omega)];rfl) (fun j _=>hfro2 j) hnw h1c h1n Tj T vsj.size vs.size
          (by simp only [World.shape?,hhj]) (by simp only [World.shape?,hh]) (by omega) (hfro 0) (hfro _)).mono fun e w2 hh2=> ?_)
         obtain ⟨rfl,rfl⟩:=hh2
         rw [hr]
         refine ⟨_,rfl,_,(hfin (w.drew.setRow b r) b cap vs r T fz (setRow_heap w.drew b vs r T fz hh) (by rw [hrs];exact hf) hroom (by rw [hrs];exact hcs) ⟨by rw [setRow_size];exact Nat.le_refl _,rfl,rfl⟩ (fun b' hb' hn'=> ?_) (fun _=>rfl) (fun j hj=> ?_) (fun j hj=> ?_) (fun j hj=> ?_)).came⟩
         ·exact setRow_other w.drew _ _ _ fun he=>hn' (by subst he;exact ⟨_,cap,ho,rfl,hbi⟩)
         ·rw [k3 j (by omega) (by omega),hcg j (by omega)]
         ·rw [k2 j (by omega)]
         ·rw [k1 j (by omega),List.getElem?_drop]
        ·obtain ⟨i0,hi0,hzs,hzb,-⟩:=info_of_sh L.s9
         obtain ⟨zs,hzo,hzl⟩:=L.zs
         obtain ⟨i0',zv,hi0',hz0,-,hrd⟩:=zeroOf_ok (P:=P) (w:=w) (Y:=fun _=>False) hzo
         have hii:i0'=i0:=Option.some.inj (hi0'.symm.trans hi0)
         subst hii
         have hzc:zv.cells.size=g.size:=by rw [←hzl];simpa using hrd.1.symm
         obtain ⟨G,hGe⟩: ∃G,G=grownCap w (es.length+1) cap (ρ.t 9):=⟨_,rfl⟩
         have hGn:es.length+1≤G:=by rw [hGe];exact grownCap_ge w _ _ _
         obtain ⟨ROW,hROW⟩: ∃ROW:Array Value,ROW=(cs.take (i*g.size)).toArray++Builtin.zeroCells zv.cells (es.length+1 - i)++Builtin.zeroCells zv.cells (G - (es.length+1)):=⟨_,rfl⟩
         have hRs:ROW.size=G*g.size:=by
          rw [hROW]
          simp only [Array.size_append,List.size_toArray,zeroCells_size,hzc,List.length_take]
          have e1:i*g.size+(es.length+1 - i)*g.size=(es.length+1)*g.size:=by rw [←Nat.add_mul];congr 1;omega
          have e2:(es.length+1)*g.size+(G - (es.length+1))*g.size=G*g.size:=by rw [←Nat.add_mul];congr 1;omega
          rw [show min (i*g.size) cs.length=i*g.size by omega];omega
         have hRG:(es.length+1)*g.size≤ROW.size:=by rw [hRs];exact Nat.mul_le_mul_right _ hGn
         have hAh:((w.alloc (.cells ROW (ρ.t 9))).drew.drew).heap[w.heap.size]? =some (.cells ROW (ρ.t 9) (0,0)):=alloc_new w _
         obtain ⟨r,hr,hrs,k1,k2,k3⟩:=two_rows w.heap.size (ρ.t 9) (0,0) ROW (w.alloc (.cells ROW (ρ.t 9))).drew.drew (i*g.size) new (i*g.size+g.size) (cs.drop (i*g.size)) hAh (by rw [hvl];omega) (by rw [hdl];omega) (.inl (by rw [hvl];omega))
         refine hcall _ _ ((ins_grow L b es.length cap i vb vc cs new w hilt hcap (by omega) (by omega) hcl hvl hcw hnw h1c h1n zv i0' hi0 hz0 hzc hzs hzb hpos G hGe ROW hROW).mono fun e w2 hh2=> ?_)
         obtain ⟨rfl,rfl⟩:=hh2
         rw [drew_setCells,hr]
         refine ⟨_,rfl,_,(hfin _ w.heap.size G ROW r (ρ.t 9) (0,0) (setRow_heap _ _ ROW r _ _ hAh) ⟨.inl rfl,fun _=>rfl⟩ hGn (by rw [hrs,hRs];exact Nat.le_refl _) ⟨by rw [setRow_size];show _≤(w.alloc _).heap.size;rw [alloc_size];omega,rfl,rfl⟩ (fun b' hb' hn'=> ?_) (fun h=>by omega) (fun j hj=> ?_) (fun j hj=> ?_) (fun j hj=> ?_)).came⟩
         ·rw [setRow_other _ _ _ _ (by omega)]
          exact alloc_old w _ b' hb'
         ·rw [k3 j (by omega) (by omega),hROW,Array.getElem?_append_left (by simp only [Array.size_append,List.size_toArray,List.length_take];omega),Array.getElem?_append_left (by simp only [List.size_toArray,List.length_take];omega),List.getElem?_toArray,List.getElem?_take_of_lt hj]
         ·rw [k1 j (by omega)]
         ·rw [k2 j (by omega),List.getElem?_drop]
      ·cases h
     ·cases h
    ·rename_i g
     split at h
     ·rename_i hb
      have hge:=Sh.beq_eq hb
      subst hge
      obtain ⟨hg,h⟩:=eval_guard h
      have hi0:=of_decide_eq_true hg
      simp only [Tree.eval,Option.some.injEq,Prod.mk.injEq] at h
      obtain ⟨rfl,rfl⟩:=h
      subst hi0
      obtain ⟨w',u',β',hrun,hgood⟩:=appD_ok (P:=P) (t:=ρ.t 24) (u:=ρ.t 24) (ty:=ρ.t 24) (e:=ρ.t 9) (s:=g) (S:= .d (.sl g true [])) (x:= .own j) (bs:=64) (rel_none hR) (Nat.le_refl _) L.t24 L.s9
       ⟨_,L.t24,fun k hk=>by cases hk⟩ L.zs hS hX0 (r:=⟨.own 64,ob.set 64 (.lst g [y].isEmpty false false [y]),[64]⟩) (by
        unfold appD
        rw [hel]
        simp only []
        rw [hb]
        rfl)
      cases RVd hS
      exact hcall _ _ ((ins_end L none 0 0 vb vc w w' u' (Nat.le_refl _) hrun).mono fun e w2 hh=>by
       obtain ⟨rfl,rfl⟩:=hh
       exact ⟨u',rfl,β',hgood.came⟩)
     ·cases h
    ·cases h
   ·cases h
  ·cases h
 ·cases h
end
end Go.AM
namespace Go.Proofs.YtlhageadjmoajaaDoor.A
open Go Go.AM
set_option maxRecDepth 20000
def Bc:Env:=(Ba.genAt 25 (Cor (fun args _=>isOwnV args) C195o C195)).genAt 36 (Cins defSh)
theorem okBc{P:Program}(hm:P.follows .mixedOrders=true)(hq:EnvOK P Mq)(h:EnvOK P Ba)(hi:FnOK P 36 (Cins defSh)):EnvOK P Bc:=(h.genAt (fnOr (fn195o hm h) (fn195 hm hq) _)).genAt hi
open Go Go.AM Go.Proofs
def outK(l:List Nat):Tree (V×Obs)→Option (V×Obs)
 | .ret (v,ob)=>some (v,keepObs l ob)
 | .ite b t f=>match b with
  | true=>outK l (t ())
  | false=>outK l (f ())
 | .stuck=>none
theorem outK_eval{l:List Nat}: ∀{t:Tree (V×Obs)} {r:V×Obs},outK l t=some r→ ∃ob,t.eval=some (r.1,ob)∧r.2=keepObs l ob
 | .ret (v,ob),r,h=>by
  simp only [outK,Option.some.injEq] at h
  subst h
  exact ⟨ob,rfl,rfl⟩
 | .ite b t f,r,h=>by
  cases b with
  | true=>exact outK_eval (t:=t ()) h
  | false=>exact outK_eval (t:=f ()) h
 | .stuck,r,h=>by simp [outK] at h
theorem keepObs_sub(l:List Nat): ∀(ob:Obs),Sub (keepObs l ob) ob
 | [],i,o,h=>h
 | (k,p) :: ob,i,o,h=>by
  have ih:=keepObs_sub l ob
  have hno: ∀(ob:Obs) (k:Nat),l.contains k=false→ ∀o,(keepObs l ob).get k=some o→False:=by
   intro ob
   induction ob with
   | nil=>intro k _ o h;simp [keepObs,Obs.get] at h
   | cons p ob ih=>
    intro k hk o h
    obtain ⟨j,q⟩:=p
    simp only [keepObs] at h
    split at h
    ·rename_i hj
     simp only [Obs.get] at h
     split at h
     ·rename_i he
      have:=Nat.eq_of_beq_eq_true he
      subst this
      rw [hk] at hj;cases hj
     ·exact ih k hk o h
    ·exact ih k hk o h
  simp only [keepObs] at h
  simp only [Obs.get]
  split at h
  ·simp only [Obs.get] at h
   split
   ·rename_i hk;rw [if_pos hk] at h;exact h
   ·rename_i hk;rw [if_neg hk] at h;exact ih i o h
  ·rename_i hb
   split
   ·rename_i hk
    have:=Nat.eq_of_beq_eq_true hk
    subst this
    exact (hno ob k (by simpa using hb) o h).elim
   ·exact ih i o h
theorem FnOK.runK{P:Program}{E:Env}(hm:P.follows .mixedOrders=true)(hE:EnvOK P E){f:FuncId}{C:List V→Obs→Tree (V×Obs)}
  (h: ∀args ob r,(C args ob).eval=some r→ ∃n l,outK l (callN E n f args ob)=some r):FnOK P f C:=by
 intro hyn args ob v ob' hrun w X β us hr hv
 obtain ⟨n,l,hn⟩:=h args ob (v,ob') hrun
 obtain ⟨o1,h1,h2⟩:=outK_eval hn
 refine (callN_ok hm hE n f hyn args ob v o1 h1 w X β us hr hv).mono ?_
 rintro u w' ⟨β',hc⟩
 have hs:Sub ob' o1:=by
  have h2:ob'=keepObs l o1:=h2
  rw [h2]
  exact keepObs_sub l o1
 refine ⟨β',⟨hs.relO hc.rel,?_,hc.keep,fun b hb=>hc.own b (hs.owned hb),fun i o hi hg hm=>hc.stay i o hi (hs i o hg) hm⟩⟩
 have:=hs.rvl (vs:=[v]) (us:=[u]) (X:=X) (β:=β') (w:=w') (by simp only [RVL];exact ⟨hc.val,trivial⟩)
 simp only [RVL] at this
 exact this.1
theorem x1249k(m n:Nat)(nm:List UInt8)(b:Bool)(es:List D):outK [1856] (enterM Bc (callN Bc (m+40)) n c21 [.d (.sl defSh true []),.d (.agg [.str nm,.sl stepSh b es])] [])=bif shortL b es then some (V.tup [V.own 1856,V.d (D.int .i64 0)],[(1856,Obj.lst defSh false false false [D.agg [D.str nm,D.sl stepSh b es]])]) else none:=by kernel_rfl
theorem x1249o(m n:Nat)(nl mv:Bool)(bs:List D)(nm:List UInt8)(b:Bool)(es:List D):outK [0] (enterM Bc (callN Bc (m+40)) n c21 [.own 0,.d (.agg [.str nm,.sl stepSh b es])] [(0,.lst defSh nl mv false bs)])=bif decide (bs.length≤1000000) then bif there nm bs then some (V.tup [V.own 0,V.d (D.int .i64 71)],[(0,Obj.lst defSh nl (mv||false) false bs)]) else bif (bs.length:Int)==8 then some (V.tup [V.own 0,V.d (D.int .i64 3)],[(0,Obj.lst defSh nl (mv||false) false bs)]) else bif shortL b es then bif decide (0≤(↑(plc nm bs):Int)∧(↑(plc nm bs):Int)≤(bs.length:Int))&&decide (bs.length<4294967296) then some (V.tup [V.own 0,V.d (D.int .i64 0)],[(0,Obj.lst defSh false (mv||false||true) false (insD nm (D.agg [D.str nm,D.sl stepSh b es]) bs))]) else none else none else none:=by kernel_rfl
theorem plc_le(s:List UInt8)(bs:List D):plc s bs≤bs.length:=bsF_le _ _ _ _ _ (by omega) (by omega)
def putT'(nl mv:Bool)(bs:List D)(nm:List UInt8)(b:Bool)(es:List D):Tree (V×Obs):= .ite (there nm bs) (fun _=> .ret (.tup [.own 0,.d (.int .i64 71)],[(0,.lst defSh nl (mv||false) false bs)])) (fun _=>
 .ite ((bs.length:Int)==8) (fun _=> .ret (.tup [.own 0,.d (.int .i64 3)],[(0,.lst defSh nl (mv||false) false bs)])) (fun _=> .ret (.tup [.own 0,.d (.int .i64 0)],[(0,.lst defSh false (mv||false||true) false (insD nm (D.agg [D.str nm,D.sl stepSh b es]) bs))])))
theorem rn1249o(m n:Nat)(nl mv:Bool)(bs:List D)(nm:List UInt8)(b:Bool)(es:List D)(hl:bs.length≤1000000)(hs:shortL b es=true):outK [0] (enterM Bc (callN Bc (m+40)) n c21 [.own 0,.d (.agg [.str nm,.sl stepSh b es])] [(0,.lst defSh nl mv false bs)])=(putT' nl mv bs nm b es).eval:=by
 have hp:=plc_le nm bs
 rw [x1249o,hs,decide_eq_true hl,decide_eq_true (show 0≤(↑(plc nm bs):Int)∧(↑(plc nm bs):Int)≤(bs.length:Int) by omega),decide_eq_true (show bs.length<4294967296 by omega)]
 unfold putT'
 cases there nm bs
 ·cases ((bs.length:Int)==8) <;> rfl
 ·rfl
def C1249(args:List V)(ob:Obs):Tree (V×Obs):=
 match args,ob with
 | [.own p,.d (.agg [.str nm,.sl e2 b es])],[(k,.lst e nl mv false bs)]=>(match (Nat.beq p 0&&Nat.beq k 0)&&(Sh.beq e defSh&&Sh.beq e2 stepSh) with
  | true=> .ite (decide (bs.length≤1000000)&&shortL b es) (fun _=>putT' nl mv bs nm b es) (fun _=> .stuck)
  | false=> .stuck)
 | [.d (.sl e true []),.d (.agg [.str nm,.sl e2 b es])],[]=>(match Sh.beq e defSh&&Sh.beq e2 stepSh with
  | true=> .ite (shortL b es) (fun _=> .ret (.tup [.own 1856,.d (.int .i64 0)],[(1856,.lst defSh false false false [D.agg [D.str nm,D.sl stepSh b es]])])) (fun _=> .stuck)
  | false=> .stuck)
 | _,_=> .stuck
theorem fn1249{P:Program}(hm:P.follows .mixedOrders=true)(h0:EnvOK P Bc):FnOK P 21 C1249:=FnOK.runK hm h0 fun args ob r h=>by
 unfold C1249 at h
 split at h
 ·rename_i p nm e2 b es k e nl mv bs
  split at h
  ·rename_i hb
   simp only [Bool.and_eq_true] at hb
   obtain ⟨⟨hb1,hb2⟩,hb3,hb4⟩:=hb
   have hb1:=Nat.eq_of_beq_eq_true hb1
   have hb2:=Nat.eq_of_beq_eq_true hb2
   have hb3:=Sh.beq_eq hb3
   have hb4:=Sh.beq_eq hb4
   subst hb1 hb2 hb3 hb4
   obtain ⟨hg,h⟩:=eval_guard h
   simp only [Bool.and_eq_true,decide_eq_true_eq] at hg
   exact ⟨59+1,[0],by rw [callN_succ (fn:=c21) rfl];exact (rn1249o 19 59 nl mv bs nm b es hg.1 hg.2).trans h⟩
  ·cases h
 ·rename_i e nm e2 b es
  split at h
  ·rename_i hb
   simp only [Bool.and_eq_true] at hb
   have hb3:=Sh.beq_eq hb.1
   have hb4:=Sh.beq_eq hb.2
   subst hb3 hb4
   obtain ⟨hg,h⟩:=eval_guard h
   cases h
   exact ⟨59+1,[1856],by rw [callN_succ (fn:=c21) rfl];exact (x1249k 19 59 nm b es).trans (by rw [hg];rfl)⟩
  ·cases h
 ·cases h
def Bd:Env:=Bc.genAt 21 C1249
theorem okBd{P:Program}(hm:P.follows .mixedOrders=true)(h:EnvOK P Bc):EnvOK P Bd:=h.genAt (fn1249 hm h)
def vA(nb nm:Bool)(bs ms:List D)(x:V)(l:Obs)(i:Int):St:= { fr:=frame 51 [(1,V.d (D.sl defSh nm ms)),(7,x),(18,V.d (D.sl defSh nb bs)),(19,V.d (D.int .i64 (bs.length:Int))),(20,V.d (D.int .i64 i))],ob:=l }
def vB(nm:Bool)(ms:List D)(x:V)(l:Obs)(i:Int):St:= { fr:=frame 51 [(7,x),(30,V.d (D.sl defSh nm ms)),(31,V.d (D.int .i64 (ms.length:Int))),(32,V.d (D.int .i64 i))],ob:=l }
theorem x1201(m n:Nat)(nb nm:Bool)(bs ms:List D):Tree.out (enterM Bd (callN Bd (m+40)) n c13 [.d (.sl defSh nb bs),.d (.sl defSh nm ms)] [])=bif (bif bookOk bs then (0:Int) else (2:Int)) != 0 then some [D.sl (Sh.agg [Sh.str,Sh.sl stepSh]) true [],D.int .i64 (bif bookOk bs then (0:Int) else (2:Int))] else Tree.out (resume Bd (callN Bd (m+40)) n n 0 c13 { fr:=frame 51 [(1,V.d (D.sl (Sh.agg [Sh.str,Sh.sl stepSh]) nm ms)),(7,V.d (D.sl (Sh.agg [Sh.str,Sh.sl stepSh]) true [])),(18,V.d (D.sl (Sh.agg [Sh.str,Sh.sl stepSh]) nb bs)),(19,V.d (D.int .i64 (↑(List.length bs):Int))),(20,V.d (D.int .i64 0))],ob:=[] }):=by kernel_rfl
theorem yA(m n f:Nat)(nb nm:Bool)(bs ms:List D)(i:Int):Tree.out (resume Bd (callN Bd (m+40)) n (f+1) 0 c13 (vA nb nm bs ms (.d (.sl defSh true [])) [] i))=bif decide (i<(↑(List.length bs):Int)) then bif decide (0≤i∧i<(↑(List.length bs):Int)) then bif shortL (fn 1 (List.getD bs (Int.toNat i) D.nilp)) (fl 1 (List.getD bs (Int.toNat i) D.nilp)) then Tree.out (resume Bd (callN Bd (m+40)) n f 0 c13 { fr:=frame 51 [(1,V.d (D.sl (Sh.agg [Sh.str,Sh.sl stepSh]) nm ms)),(7,V.own 1856),(18,V.d (D.sl (Sh.agg [Sh.str,Sh.sl stepSh]) nb bs)),(19,V.d (D.int .i64 (↑(List.length bs):Int))),(20,V.d (D.int .i64 (IntKind.wrap .i64 (i+1))))],ob:=[(1856,Obj.lst (Sh.agg [Sh.str,Sh.sl stepSh]) false false false [D.agg [D.str (fs 0 (List.getD bs (Int.toNat i) D.nilp)),D.sl stepSh (fn 1 (List.getD bs (Int.toNat i) D.nilp)) (fl 1 (List.getD bs (Int.toNat i) D.nilp))]])] }) else none else none else Tree.out (resume Bd (callN Bd (m+40)) n n 1 c13 { fr:=frame 51 [(7,V.d (D.sl (Sh.agg [Sh.str,Sh.sl stepSh]) true [])),(30,V.d (D.sl (Sh.agg [Sh.str,Sh.sl stepSh]) nm ms)),(31,V.d (D.int .i64 (↑(List.length ms):Int))),(32,V.d (D.int .i64 0))],ob:=[] }):=by kernel_rfl
theorem zA(m n f:Nat)(nb nm:Bool)(bs ms:List D)(nl mv:Bool)(out:List D)(i:Int):Tree.out (resume Bd (callN Bd (m+40)) n (f+1) 0 c13 (vA nb nm bs ms (.own 1856) [(1856,.lst defSh nl mv false out)] i))=bif decide (i<(↑(List.length bs):Int)) then bif decide (0≤i∧i<(↑(List.length bs):Int)) then bif shortL (fn 1 (List.getD bs (Int.toNat i) D.nilp)) (fl 1 (List.getD bs (Int.toNat i) D.nilp)) then bif decide (List.length out+1≤4294967296) then Tree.out (resume Bd (callN Bd (m+40)) n f 0 c13 { fr:=frame 51 [(1,V.d (D.sl (Sh.agg [Sh.str,Sh.sl stepSh]) nm ms)),(7,V.own 1856),(18,V.d (D.sl (Sh.agg [Sh.str,Sh.sl stepSh]) nb bs)),(19,V.d (D.int .i64 (↑(List.length bs):Int))),(20,V.d (D.int .i64 (IntKind.wrap .i64 (i+1))))],ob:=[(1856,Obj.lst (Sh.agg [Sh.str,Sh.sl stepSh]) (nl&&false) true false (List.append out [D.agg [D.str (fs 0 (List.getD bs (Int.toNat i) D.nilp)),D.sl stepSh (fn 1 (List.getD bs (Int.toNat i) D.nilp)) (fl 1 (List.getD bs (Int.toNat i) D.nilp))]]))] }) else none else none else none else Tree.out (resume Bd (callN Bd (m+40)) n n 1 c13 { fr:=frame 51 [(7,V.own 1856),(30,V.d (D.sl (Sh.agg [Sh.str,Sh.sl stepSh]) nm ms)),(31,V.d (D.int .i64 (↑(List.length ms):Int))),(32,V.d (D.int .i64 0))],ob:=[(1856,Obj.lst (Sh.agg [Sh.str,Sh.sl stepSh]) nl mv false out)] }):=by kernel_rfl
theorem yB(m n f:Nat)(nm:Bool)(ms:List D)(i:Int):Tree.out (resume Bd (callN Bd (m+40)) n (f+1) 1 c13 (vB nm ms (.d (.sl defSh true [])) [] i))=bif decide (i<(↑(List.length ms):Int)) then bif decide (0≤i∧i<(↑(List.length ms):Int)) then bif (bif defOk (fs 0 (List.getD ms (Int.toNat i) D.nilp)) (fl 1 (List.getD ms (Int.toNat i) D.nilp)) then (0:Int) else (90:Int))==0 then bif shortL (fn 1 (List.getD ms (Int.toNat i) D.nilp)) (fl 1 (List.getD ms (Int.toNat i) D.nilp)) then Tree.out (resume Bd (callN Bd (m+40)) n f 1 c13 { fr:=frame 51 [(7,V.own 2816),(30,V.d (D.sl (Sh.agg [Sh.str,Sh.sl stepSh]) nm ms)),(31,V.d (D.int .i64 (↑(List.length ms):Int))),(32,V.d (D.int .i64 (IntKind.wrap .i64 (i+1))))],ob:=[(2816,Obj.lst (Sh.agg [Sh.str,Sh.sl stepSh]) false false false [D.agg [D.str (fs 0 (List.getD ms (Int.toNat i) D.nilp)),D.sl stepSh (fn 1 (List.getD ms (Int.toNat i) D.nilp)) (fl 1 (List.getD ms (Int.toNat i) D.nilp))]])] }) else none else bif (bif defOk (fs 0 (List.getD ms (Int.toNat i) D.nilp)) (fl 1 (List.getD ms (Int.toNat i) D.nilp)) then (0:Int) else (90:Int)) != 0 then some [D.sl (Sh.agg [Sh.str,Sh.sl stepSh]) true [],D.int .i64 (bif defOk (fs 0 (List.getD ms (Int.toNat i) D.nilp)) (fl 1 (List.getD ms (Int.toNat i) D.nilp)) then (0:Int) else (90:Int))] else Tree.out (resume Bd (callN Bd (m+40)) n f 1 c13 { fr:=frame 51 [(7,V.d (D.sl (Sh.agg [Sh.str,Sh.sl stepSh]) true [])),(30,V.d (D.sl (Sh.agg [Sh.str,Sh.sl stepSh]) nm ms)),(31,V.d (D.int .i64 (↑(List.length ms):Int))),(32,V.d (D.int .i64 (IntKind.wrap .i64 (i+1))))],ob:=[] }) else none else some [D.sl (Sh.agg [Sh.str,Sh.sl stepSh]) true [],D.int .i64 0]:=by kernel_rfl
theorem zB(m n f:Nat)(nm:Bool)(ms:List D)(nl mv:Bool)(out:List D)(i:Int):Tree.out (resume Bd (callN Bd (m+40)) n (f+1) 1 c13 (vB nm ms (.own 1856) [(1856,.lst defSh nl mv false out)] i))=bif decide (i<(↑(List.length ms):Int)) then bif decide (0≤i∧i<(↑(List.length ms):Int)) then bif (bif defOk (fs 0 (List.getD ms (Int.toNat i) D.nilp)) (fl 1 (List.getD ms (Int.toNat i) D.nilp)) then (0:Int) else (90:Int))==0 then bif decide (List.length out≤1000000)&&shortL (fn 1 (List.getD ms (Int.toNat i) D.nilp)) (fl 1 (List.getD ms (Int.toNat i) D.nilp)) then bif there (fs 0 (List.getD ms (Int.toNat i) D.nilp)) out then some [D.sl (Sh.agg [Sh.str,Sh.sl stepSh]) true [],D.int .i64 71] else bif (↑(List.length out):Int)==8 then some [D.sl (Sh.agg [Sh.str,Sh.sl stepSh]) true [],D.int .i64 3] else Tree.out (resume Bd (callN Bd (m+40)) n f 1 c13 { fr:=frame 51 [(7,V.own 1856),(30,V.d (D.sl (Sh.agg [Sh.str,Sh.sl stepSh]) nm ms)),(31,V.d (D.int .i64 (↑(List.length ms):Int))),(32,V.d (D.int .i64 (IntKind.wrap .i64 (i+1))))],ob:=[(1856,Obj.lst (Sh.agg [Sh.str,Sh.sl stepSh]) false (mv||true) false (insD (fs 0 (List.getD ms (Int.toNat i) D.nilp)) (D.agg [D.str (fs 0 (List.getD ms (Int.toNat i) D.nilp)),D.sl stepSh (fn 1 (List.getD ms (Int.toNat i) D.nilp)) (fl 1 (List.getD ms (Int.toNat i) D.nilp))]) out))] }) else none else bif (bif defOk (fs 0 (List.getD ms (Int.toNat i) D.nilp)) (fl 1 (List.getD ms (Int.toNat i) D.nilp)) then (0:Int) else (90:Int)) != 0 then some [D.sl (Sh.agg [Sh.str,Sh.sl stepSh]) true [],D.int .i64 (bif defOk (fs 0 (List.getD ms (Int.toNat i) D.nilp)) (fl 1 (List.getD ms (Int.toNat i) D.nilp)) then (0:Int) else (90:Int))] else Tree.out (resume Bd (callN Bd (m+40)) n f 1 c13 { fr:=frame 51 [(7,V.own 1856),(30,V.d (D.sl (Sh.agg [Sh.str,Sh.sl stepSh]) nm ms)),(31,V.d (D.int .i64 (↑(List.length ms):Int))),(32,V.d (D.int .i64 (IntKind.wrap .i64 (i+1))))],ob:=[(1856,Obj.lst (Sh.agg [Sh.str,Sh.sl stepSh]) nl mv false out)] }) else none else some [D.sl (Sh.agg [Sh.str,Sh.sl stepSh]) nl out,D.int .i64 0]:=by kernel_rfl
theorem zC(m n f:Nat)(nm:Bool)(ms:List D)(nl mv:Bool)(out:List D)(i:Int):Tree.out (resume Bd (callN Bd (m+40)) n (f+1) 1 c13 (vB nm ms (.own 2816) [(2816,.lst defSh nl mv false out)] i))=bif decide (i<(↑(List.length ms):Int)) then bif decide (0≤i∧i<(↑(List.length ms):Int)) then bif (bif defOk (fs 0 (List.getD ms (Int.toNat i) D.nilp)) (fl 1 (List.getD ms (Int.toNat i) D.nilp)) then (0:Int) else (90:Int))==0 then bif decide (List.length out≤1000000)&&shortL (fn 1 (List.getD ms (Int.toNat i) D.nilp)) (fl 1 (List.getD ms (Int.toNat i) D.nilp)) then bif there (fs 0 (List.getD ms (Int.toNat i) D.nilp)) out then some [D.sl (Sh.agg [Sh.str,Sh.sl stepSh]) true [],D.int .i64 71] else bif (↑(List.length out):Int)==8 then some [D.sl (Sh.agg [Sh.str,Sh.sl stepSh]) true [],D.int .i64 3] else Tree.out (resume Bd (callN Bd (m+40)) n f 1 c13 { fr:=frame 51 [(7,V.own 2816),(30,V.d (D.sl (Sh.agg [Sh.str,Sh.sl stepSh]) nm ms)),(31,V.d (D.int .i64 (↑(List.length ms):Int))),(32,V.d (D.int .i64 (IntKind.wrap .i64 (i+1))))],ob:=[(2816,Obj.lst (Sh.agg [Sh.str,Sh.sl stepSh]) false (mv||true) false (insD (fs 0 (List.getD ms (Int.toNat i) D.nilp)) (D.agg [D.str (fs 0 (List.getD ms (Int.toNat i) D.nilp)),D.sl stepSh (fn 1 (List.getD ms (Int.toNat i) D.nilp)) (fl 1 (List.getD ms (Int.toNat i) D.nilp))]) out))] }) else none else bif (bif defOk (fs 0 (List.getD ms (Int.toNat i) D.nilp)) (fl 1 (List.getD ms (Int.toNat i) D.nilp)) then (0:Int) else (90:Int)) != 0 then some [D.sl (Sh.agg [Sh.str,Sh.sl stepSh]) true [],D.int .i64 (bif defOk (fs 0 (List.getD ms (Int.toNat i) D.nilp)) (fl 1 (List.getD ms (Int.toNat i) D.nilp)) then (0:Int) else (90:Int))] else Tree.out (resume Bd (callN Bd (m+40)) n f 1 c13 { fr:=frame 51 [(7,V.own 2816),(30,V.d (D.sl (Sh.agg [Sh.str,Sh.sl stepSh]) nm ms)),(31,V.d (D.int .i64 (↑(List.length ms):Int))),(32,V.d (D.int .i64 (IntKind.wrap .i64 (i+1))))],ob:=[(2816,Obj.lst (Sh.agg [Sh.str,Sh.sl stepSh]) nl mv false out)] }) else none else some [D.sl (Sh.agg [Sh.str,Sh.sl stepSh]) nl out,D.int .i64 0]:=by kernel_rfl
def v89(nb nm:Bool)(bs ms:List D)(i:Int):St:= { fr:=frame 27 [(0,V.d (D.sl defSh nb bs)),(1,V.d (D.sl defSh nm ms)),(5,V.d (D.int .i64 i))],ob:=[] }
theorem x1089(m n:Nat)(nb nm:Bool)(bs ms:List D):Tree.out (enterM Bd (callN Bd (m+40)) n c15 [.d (.sl defSh nb bs),.d (.sl defSh nm ms)] [])=bif (↑(List.length bs):Int) != (↑(List.length ms):Int) then some [D.bool false] else Tree.out (resume Bd (callN Bd (m+40)) n n 0 c15 { fr:=frame 27 [(0,V.d (D.sl (Sh.agg [Sh.str,Sh.sl stepSh]) nb bs)),(1,V.d (D.sl (Sh.agg [Sh.str,Sh.sl stepSh]) nm ms)),(5,V.d (D.int .i64 0))],ob:=[] }):=by kernel_rfl
theorem y1089(m n f:Nat)(nb nm:Bool)(bs ms:List D)(i:Int):Tree.out (resume Bd (callN Bd (m+40)) n (f+1) 0 c15 (v89 nb nm bs ms i))=bif decide (i<(↑(List.length bs):Int)) then bif decide (0≤i∧i<(↑(List.length bs):Int)) then bif decide (0≤i∧i<(↑(List.length ms):Int)) then bif decide (List.length (fl 1 (List.getD bs (Int.toNat i) D.nilp))≤1000000) then bif !(fs 0 (List.getD bs (Int.toNat i) D.nilp)==fs 0 (List.getD ms (Int.toNat i) D.nilp)&&stepsEq (fl 1 (List.getD bs (Int.toNat i) D.nilp)) (fl 1 (List.getD ms (Int.toNat i) D.nilp))) then some [D.bool false] else Tree.out (resume Bd (callN Bd (m+40)) n f 0 c15 { fr:=frame 27 [(0,V.d (D.sl (Sh.agg [Sh.str,Sh.sl stepSh]) nb bs)),(1,V.d (D.sl (Sh.agg [Sh.str,Sh.sl stepSh]) nm ms)),(5,V.d (D.int .i64 (IntKind.wrap .i64 (i+1))))],ob:=[] }) else none else none else none else some [D.bool true]:=by kernel_rfl
def v22p(nb:Bool)(bs:List D)(nm:List UInt8)(b:Bool)(es:List D)(i:Int):St:= { fr:=frame 52 [(0,V.d (D.sl defSh nb bs)),(3,V.ptr 256 0),(6,V.d (D.int .i64 i))],ob:=[(256,Obj.box [V.d (D.str nm),V.d (D.sl stepSh b es)])] }
theorem x2022(m n:Nat)(nb:Bool)(bs:List D)(nm:List UInt8)(b:Bool)(es:List D):Tree.out (enterM Bd (callN Bd (m+40)) n c22 [.d (.sl defSh nb bs),.d (.agg [.str nm,.sl stepSh b es])] [])=Tree.out (resume Bd (callN Bd (m+40)) n n 0 c22 { fr:=frame 52 [(0,V.d (D.sl (Sh.agg [Sh.str,Sh.sl stepSh]) nb bs)),(3,V.ptr 256 0),(6,V.d (D.int .i64 0))],ob:=[(256,Obj.box [V.d (D.str nm),V.d (D.sl stepSh b es)])] }):=by kernel_rfl
theorem y2022(m n f:Nat)(nb:Bool)(bs:List D)(nm:List UInt8)(b:Bool)(es:List D)(i:Int):Tree.out (resume Bd (callN Bd (m+40)) n (f+1) 0 c22 (v22p nb bs nm b es i))=bif decide (i<(↑(List.length bs):Int)) then bif decide (0≤i∧i<(↑(List.length bs):Int)) then bif Op.bytesLess (fs 0 (List.getD bs (Int.toNat i) D.nilp)) nm then Tree.out (resume Bd (callN Bd (m+40)) n f 0 c22 { fr:=frame 52 [(0,V.d (D.sl (Sh.agg [Sh.str,Sh.sl stepSh]) nb bs)),(3,V.ptr 256 0),(6,V.d (D.int .i64 (IntKind.wrap .i64 (i+1))))],ob:=[(256,Obj.box [V.d (D.str nm),V.d (D.sl stepSh b es)])] }) else bif decide (i<(↑(List.length bs):Int)) then bif decide (0≤i∧i<(↑(List.length bs):Int)) then bif fs 0 (List.getD bs (Int.toNat i) D.nilp)==nm then some [D.sl (Sh.agg [Sh.str,Sh.sl stepSh]) true [],D.int .i64 71] else bif (↑(List.length bs):Int)==8 then some [D.sl (Sh.agg [Sh.str,Sh.sl stepSh]) true [],D.int .i64 3] else bif decide (0≤i∧i≤(↑(List.length bs):Int)) then bif decide (0+List.length (List.take (Int.toNat i - 0) bs)≤4294967296) then bif decide (List.length (List.take (Int.toNat i - 0) bs)+1≤4294967296) then bif decide (0≤i∧i≤(↑(List.length bs):Int)) then bif decide (List.length (List.append (List.take (Int.toNat i - 0) bs) [D.agg [D.str nm,D.sl stepSh b es]])+List.length (List.take (List.length bs - Int.toNat i) (List.drop (Int.toNat i) bs))≤4294967296) then some [D.sl (Sh.agg [Sh.str,Sh.sl stepSh]) false (List.append (List.append (List.take (Int.toNat i - 0) bs) [D.agg [D.str nm,D.sl stepSh b es]]) (List.take (List.length bs - Int.toNat i) (List.drop (Int.toNat i) bs))),D.int .i64 0] else none else none else none else none else none else none else bif (↑(List.length bs):Int)==8 then some [D.sl (Sh.agg [Sh.str,Sh.sl stepSh]) true [],D.int .i64 3] else bif decide (0≤i∧i≤(↑(List.length bs):Int)) then bif decide (0+List.length (List.take (Int.toNat i - 0) bs)≤4294967296) then bif decide (List.length (List.take (Int.toNat i - 0) bs)+1≤4294967296) then bif decide (0≤i∧i≤(↑(List.length bs):Int)) then bif decide (List.length (List.append (List.take (Int.toNat i - 0) bs) [D.agg [D.str nm,D.sl stepSh b es]])+List.length (List.take (List.length bs - Int.toNat i) (List.drop (Int.toNat i) bs))≤4294967296) then some [D.sl (Sh.agg [Sh.str,Sh.sl stepSh]) false (List.append (List.append (List.take (Int.toNat i - 0) bs) [D.agg [D.str nm,D.sl stepSh b es]]) (List.take (List.length bs - Int.toNat i) (List.drop (Int.toNat i) bs))),D.int .i64 0] else none else none else none else none else none else none else bif decide (i<(↑(List.length bs):Int)) then bif decide (0≤i∧i<(↑(List.length bs):Int)) then bif fs 0 (List.getD bs (Int.toNat i) D.nilp)==nm then some [D.sl (Sh.agg [Sh.str,Sh.sl stepSh]) true [],D.int .i64 71] else bif (↑(List.length bs):Int)==8 then some [D.sl (Sh.agg [Sh.str,Sh.sl stepSh]) true [],D.int .i64 3] else bif decide (0≤i∧i≤(↑(List.length bs):Int)) then bif decide (0+List.length (List.take (Int.toNat i - 0) bs)≤4294967296) then bif decide (List.length (List.take (Int.toNat i - 0) bs)+1≤4294967296) then bif decide (0≤i∧i≤(↑(List.length bs):Int)) then bif decide (List.length (List.append (List.take (Int.toNat i - 0) bs) [D.agg [D.str nm,D.sl stepSh b es]])+List.length (List.take (List.length bs - Int.toNat i) (List.drop (Int.toNat i) bs))≤4294967296) then some [D.sl (Sh.agg [Sh.str,Sh.sl stepSh]) false (List.append (List.append (List.take (Int.toNat i - 0) bs) [D.agg [D.str nm,D.sl stepSh b es]]) (List.take (List.length bs - Int.toNat i) (List.drop (Int.toNat i) bs))),D.int .i64 0] else none else none else none else none else none else none else bif (↑(List.length bs):Int)==8 then some [D.sl (Sh.agg [Sh.str,Sh.sl stepSh]) true [],D.int .i64 3] else bif decide (0≤i∧i≤(↑(List.length bs):Int)) then bif decide (0+List.length (List.take (Int.toNat i - 0) bs)≤4294967296) then bif decide (List.length (List.take (Int.toNat i - 0) bs)+1≤4294967296) then bif decide (0≤i∧i≤(↑(List.length bs):Int)) then bif decide (List.length (List.append (List.take (Int.toNat i - 0) bs) [D.agg [D.str nm,D.sl stepSh b es]])+List.length (List.take (List.length bs - Int.toNat i) (List.drop (Int.toNat i) bs))≤4294967296) then some [D.sl (Sh.agg [Sh.str,Sh.sl stepSh]) false (List.append (List.append (List.take (Int.toNat i - 0) bs) [D.agg [D.str nm,D.sl stepSh b es]]) (List.take (List.length bs - Int.toNat i) (List.drop (Int.toNat i) bs))),D.int .i64 0] else none else none else none else none else none:=by kernel_rfl
theorem insD_nil(s:List UInt8)(d:D):insD s d []=[d]:=by unfold insD;simp
def resP(p:Int×List D):List D:=bif p.1==0 then [.sl defSh p.2.isEmpty p.2,.int .i64 0] else [.sl defSh true [],.int .i64 p.1]
def resF(p:Int×List D):List D:=bif p.1==0 then [.sl defSh false p.2,.int .i64 0] else [.sl defSh true [],.int .i64 p.1]
theorem drop_g{l:List D}{i:Nat}(h:i<l.length):l.drop i=l.getD i .nilp :: l.drop (i+1):=by
 rw [getD_lt h];exact List.drop_eq_getElem_cons h
theorem addE_cons(out:List D)(d:D)(ms:List D):addE out (d :: ms)=bif okX d then bif there (fs 0 d) out then (71,[]) else bif (out.length:Int)==8 then (3,[]) else addE (insD (fs 0 d) (dX d) out) ms else (90,[]):=rfl
theorem book_short{bs:List D}(h:bookShort bs=true):bs.length≤1000000∧ ∀i,i<bs.length→shortL (fn 1 (bs.getD i .nilp)) (fl 1 (bs.getD i .nilp))=true:=by
 unfold bookShort at h
 rw [Bool.and_eq_true,allN_iff,decide_eq_true_eq] at h
 exact ⟨h.2,h.1⟩
theorem ok_ne(c:Bool):((bif c then (0:Int) else 90)==0)=c:=by cases c <;> rfl
theorem ins_len(s:List UInt8)(d:D)(bs:List D):(insD s d bs).length=bs.length+1:=by rw [(ins_perm s d bs).length_eq];rfl
theorem ne8{out:List D}(h:out.length≤8)(h9:((out.length:Int)==8)=false):out.length≤7:=by
 have:(out.length:Int)≠8:=beq_eq_false_iff_ne.1 h9
 omega
theorem lpB(m n:Nat)(nm:Bool)(ms:List D)(hs:bookShort ms=true): ∀d i f mv out,i+d=ms.length→d<f→out.length≤8→
  (resume Bd (callN Bd (m+40)) n f 1 c13 (vB nm ms (.own 1856) [(1856,.lst defSh false mv false out)] (i:Nat))).out=some (resF (addE out (ms.drop i))):=by
 obtain ⟨hl,hsh⟩:=book_short hs
 intro d
 induction d with
 | zero=>
  intro i f mv out hi hf ho
  cases f with
  | zero=>omega
  | succ f=>
   have:i=ms.length:=by omega
   subst this
   rw [zB,List.drop_length]
   exact cf (dec_end _)
 | succ d ih=>
  intro i f mv out hi hf ho
  cases f with
  | zero=>omega
  | succ f=>
   have hlt:i<ms.length:=by omega
   rw [zB,wrap_up hlt hl,drop_g hlt,addE_cons]
   simp only [Int.toNat_natCast,dec_lt hlt,dec_ix hlt,cond_true,ok_ne,decide_eq_true (show out.length≤1000000 by omega),hsh i hlt,Bool.and_self]
   unfold okX
   cases hd:defOk (fs 0 (ms.getD i .nilp)) (fl 1 (ms.getD i .nilp))
   ·rfl
   ·cases ht:there (fs 0 (ms.getD i .nilp)) out
    ·cases h8:((out.length:Int)==8)
     ·exact ih (i+1) f (mv||true) (insD (fs 0 (ms.getD i .nilp)) (dX (ms.getD i .nilp)) out) (by omega) (by omega) (by rw [ins_len];have:=ne8 ho h8;omega)
     ·rfl
    ·rfl
theorem lpC(m n:Nat)(nm:Bool)(ms:List D)(hs:bookShort ms=true): ∀d i f mv out,i+d=ms.length→d<f→out.length≤8→
  (resume Bd (callN Bd (m+40)) n f 1 c13 (vB nm ms (.own 2816) [(2816,.lst defSh false mv false out)] (i:Nat))).out=some (resF (addE out (ms.drop i))):=by
 obtain ⟨hl,hsh⟩:=book_short hs
 intro d
 induction d with
 | zero=>
  intro i f mv out hi hf ho
  cases f with
  | zero=>omega
  | succ f=>
   have:i=ms.length:=by omega
   subst this
   rw [zC,List.drop_length]
   exact cf (dec_end _)
 | succ d ih=>
  intro i f mv out hi hf ho
  cases f with
  | zero=>omega
  | succ f=>
   have hlt:i<ms.length:=by omega
   rw [zC,wrap_up hlt hl,drop_g hlt,addE_cons]
   simp only [Int.toNat_natCast,dec_lt hlt,dec_ix hlt,cond_true,ok_ne,decide_eq_true (show out.length≤1000000 by omega),hsh i hlt,Bool.and_self]
   unfold okX
   cases hd:defOk (fs 0 (ms.getD i .nilp)) (fl 1 (ms.getD i .nilp))
   ·rfl
   ·cases ht:there (fs 0 (ms.getD i .nilp)) out
    ·cases h8:((out.length:Int)==8)
     ·exact ih (i+1) f (mv||true) (insD (fs 0 (ms.getD i .nilp)) (dX (ms.getD i .nilp)) out) (by omega) (by omega) (by rw [ins_len];have:=ne8 ho h8;omega)
     ·rfl
    ·rfl
theorem resF_P{p:Int×List D}(h:p.1≠0∨p.2≠[]):resF p=resP p:=by
 unfold resF resP
 rcases h with h | h
 ·rw [beq_eq_false_iff_ne.2 h];rfl
 ·obtain ⟨e,l⟩:=p
  cases l with
  | nil=>exact absurd rfl h
  | cons x l=>rfl
theorem ne90:(90:Int)≠0:=by decide
theorem ne71:(71:Int)≠0:=by decide
theorem ne3:(3:Int)≠0:=by decide
theorem addE_ne: ∀(ms out:List D),out≠[]→(addE out ms).1≠0∨(addE out ms).2≠[]
 | [],out,h=> .inr h
 | d :: ms,out,h=>by
  rw [addE_cons]
  cases okX d
  ·exact .inl ne90
  ·cases there (fs 0 d) out
   ·cases ((out.length:Int)==8)
    ·exact addE_ne ms _ (fun e=>by have:=ins_len (fs 0 d) (dX d) out;rw [e] at this;simp at this)
    ·exact .inl ne3
   ·exact .inl ne71
theorem lpBn(m n:Nat)(nm:Bool)(ms:List D)(hs:bookShort ms=true): ∀d i f,i+d=ms.length→d<f→
  (resume Bd (callN Bd (m+40)) n f 1 c13 (vB nm ms (.d (.sl defSh true [])) [] (i:Nat))).out=some (resP (addE [] (ms.drop i))):=by
 obtain ⟨hl,hsh⟩:=book_short hs
 intro d i f hi hf
 cases f with
 | zero=>omega
 | succ f=>
  rw [yB]
  cases d with
  | zero=>
   have:i=ms.length:=by omega
   subst this
   rw [List.drop_length]
   exact cf (dec_end _)
  | succ d=>
   have hlt:i<ms.length:=by omega
   rw [wrap_up hlt hl,drop_g hlt,addE_cons]
   simp only [Int.toNat_natCast,dec_lt hlt,dec_ix hlt,cond_true,ok_ne,hsh i hlt]
   unfold okX
   cases hd:defOk (fs 0 (ms.getD i .nilp)) (fl 1 (ms.getD i .nilp))
   ·rfl
   ·have ht:there (fs 0 (ms.getD i .nilp)) []=false:=rfl
    rw [ht,insD_nil]
    show (resume Bd (callN Bd (m+40)) n f 1 c13 (vB nm ms (.own 2816) [(2816,.lst defSh false false false [dX (ms.getD i .nilp)])] ((i+1:Nat):Int))).out=some (resP (addE [dX (ms.getD i .nilp)] (ms.drop (i+1))))
    rw [lpC m n nm ms hs d (i+1) f false [dX (ms.getD i .nilp)] (by omega) (by omega) (by simp),resF_P (addE_ne _ _ (by simp))]
theorem lpA(m n:Nat)(nb nm:Bool)(bs ms:List D)(hb:bookShort bs=true)(hs:bookShort ms=true)(hn:ms.length<n)(h8:bs.length≤8): ∀d i f mv out,i+d=bs.length→d<f→out.length=i→out≠[]→
  (resume Bd (callN Bd (m+40)) n f 0 c13 (vA nb nm bs ms (.own 1856) [(1856,.lst defSh false mv false out)] (i:Nat))).out=some (resP (addE (out++(bs.drop i).map dX) ms)):=by
 obtain ⟨hl,hsh⟩:=book_short hb
 intro d
 induction d with
 | zero=>
  intro i f mv out hi hf ho hne
  cases f with
  | zero=>omega
  | succ f=>
   have:i=bs.length:=by omega
   subst this
   rw [zA,List.drop_length]
   refine (cf (dec_end _)).trans ?_
   have:=lpB m n nm ms hs ms.length 0 n mv out (by omega) hn (by omega)
   refine this.trans ?_
   rw [List.drop_zero,List.map_nil,List.append_nil,resF_P (addE_ne _ _ hne)]
 | succ d ih=>
  intro i f mv out hi hf ho hne
  cases f with
  | zero=>omega
  | succ f=>
   have hlt:i<bs.length:=by omega
   rw [zA,wrap_up hlt hl,drop_g hlt]
   simp only [Int.toNat_natCast,dec_lt hlt,dec_ix hlt,cond_true,hsh i hlt,decide_eq_true (show out.length+1≤4294967296 by omega)]
   refine (ih (i+1) f true (out++[dX (bs.getD i .nilp)]) (by omega) (by omega) (by rw [List.length_append,List.length_singleton];omega) (by simp)).trans ?_
   rw [List.append_assoc];rfl
def addT(bs ms:List D):List D:=bif bookOk bs then resP (addE (bs.map dX) ms) else [.sl defSh true [],.int .i64 2]
theorem rn1201(m n:Nat)(nb nm:Bool)(bs ms:List D)(hb:bookShort bs=true)(hs:bookShort ms=true)(hn:ms.length<n)(h9:9≤n):
  (enterM Bd (callN Bd (m+40)) n c13 [.d (.sl defSh nb bs),.d (.sl defSh nm ms)] []).out=some (addT bs ms):=by
 obtain ⟨hl,hsh⟩:=book_short hb
 rw [x1201]
 unfold addT
 cases hk:bookOk bs
 ·rfl
 ·have h8:bs.length≤8:=by
   unfold bookOk at hk
   simp only [Bool.and_eq_true,Bool.not_eq_true',decide_eq_false_iff_not] at hk
   omega
  show (resume Bd (callN Bd (m+40)) n n 0 c13 (vA nb nm bs ms (.d (.sl defSh true [])) [] 0)).out=_
  cases n with
  | zero=>omega
  | succ n=>
   rw [yA]
   cases hd:bs.length with
   | zero=>
    have:bs=[]:=List.eq_nil_of_length_eq_zero hd
    subst this
    have:=lpBn m (n+1) nm ms hs ms.length 0 (n+1) (by omega) hn
    rw [List.drop_zero] at this
    exact (cf (decide_eq_false (by omega))).trans this
   | succ d=>
    have hlt:0<bs.length:=by omega
    have hz:((0:Int)).toNat=0:=rfl
    rw [hz,hsh 0 hlt,decide_eq_true (show (0:Int)<((d+1:Nat):Int) by omega),decide_eq_true (show (0:Int)≤0∧(0:Int)<((d+1:Nat):Int) by omega),←hd]
    have:=lpA m (n+1) nb nm bs ms hb hs hn h8 d 1 n false [dX (bs.getD 0 .nilp)] (by omega) (by omega) rfl (by simp)
    refine this.trans ?_
    have e:bs=bs.getD 0 .nilp :: bs.drop 1:=by
     have:=drop_g hlt
     rw [List.drop_zero] at this
     exact this
    have e2:[dX (bs.getD 0 .nilp)]++(bs.drop 1).map dX=bs.map dX:=by
     conv=>rhs;rw [e]
     rfl
    rw [e2];rfl
def sameB(bs ms:List D):Bool:= !((bs.length:Int) != (ms.length:Int))&&allN (fun i=>fs 0 (bs.getD i .nilp)==fs 0 (ms.getD i .nilp)&&stepsEq (fl 1 (bs.getD i .nilp)) (fl 1 (ms.getD i .nilp))) bs.length
theorem rn1089(m n:Nat)(nb nm:Bool)(bs ms:List D)(hb:bookShort bs=true)(hn:bs.length<n):
  (enterM Bd (callN Bd (m+40)) n c15 [.d (.sl defSh nb bs),.d (.sl defSh nm ms)] []).out=some [.bool (sameB bs ms)]:=by
 obtain ⟨hl,hsh⟩:=book_short hb
 rw [x1089]
 unfold sameB
 cases hne:((bs.length:Int) != (ms.length:Int))
 ·have he:bs.length=ms.length:=by
   unfold bne at hne
   rw [Bool.not_eq_false'] at hne
   have:=eq_of_beq hne
   omega
  have:=scan_loop (fun j i=>(resume Bd (callN Bd (m+40)) n j 0 c15 (v89 nb nm bs ms (i:Nat))).out) bs.length (fun i=> !(fs 0 (bs.getD i .nilp)==fs 0 (ms.getD i .nilp)&&stepsEq (fl 1 (bs.getD i .nilp)) (fl 1 (ms.getD i .nilp)))) (fun _=>[D.bool false]) [D.bool true]
   (fun j i hi=> ?_) (fun j=> ?_) bs.length 0 n (by omega) hn
  ·refine this.trans ?_
   rw [scan_boolD]
   rfl
  ·rw [y1089]
   simp only [Int.toNat_natCast,wrap_up hi hl]
   have h2:=hsh i hi
   unfold shortL at h2
   rw [Bool.and_eq_true,decide_eq_true_eq] at h2
   refine (ct (dec_lt hi)).trans ((ct (dec_ix hi)).trans ((ct (dec_ix (show i<ms.length by omega))).trans ((ct (decide_eq_true h2.2)).trans rfl)))
  ·rw [y1089]
   exact cf (dec_end _)
 ·rfl
def riseB(bs:List D):Bool:=allN (prevLess bs) bs.length&&decide (bs.length≤1000000)
theorem rise_iff{bs:List D}:riseB bs=true↔Rising bs∧bs.length≤1000000:=by
 unfold riseB
 rw [Bool.and_eq_true,allN_iff,decide_eq_true_eq]
 rfl
def rputT(bs:List D)(nm:List UInt8)(b:Bool)(es:List D):List D:=bif there nm bs then [.sl defSh true [],.int .i64 71] else bif (bs.length:Int)==8 then [.sl defSh true [],.int .i64 3] else [.sl defSh false (insD nm (.agg [.str nm,.sl stepSh b es]) bs),.int .i64 0]
theorem there_eq(nm:List UInt8)(bs:List D):there nm bs=(decide (plc nm bs<bs.length)&&fs 0 (bs.getD (plc nm bs) .nilp)==nm):=by
 unfold there
 by_cases h:plc nm bs<bs.length
 ·rw [decide_eq_true (show ((plc nm bs:Nat):Int)<(bs.length:Int) by omega),decide_eq_true h,cond_true,cmp_zero];rfl
 ·rw [decide_eq_false (show¬((plc nm bs:Nat):Int)<(bs.length:Int) by omega),decide_eq_false h];rfl
theorem ins_app(nm:List UInt8)(d:D)(bs:List D):List.append (List.append (List.take (plc nm bs) bs) [d]) (List.take (bs.length - plc nm bs) (List.drop (plc nm bs) bs))=insD nm d bs:=by
 unfold insD
 rw [List.take_of_length_le (show (bs.drop (plc nm bs)).length≤bs.length - plc nm bs by rw [List.length_drop];omega)]
 show (bs.take (plc nm bs)++[d])++bs.drop (plc nm bs)=_
 rw [List.append_assoc];rfl
theorem lp2022(m n:Nat)(nb:Bool)(bs:List D)(nm:List UInt8)(b:Bool)(es:List D)(hr:riseB bs=true): ∀d i f,i+d=plc nm bs→d<f→
  (resume Bd (callN Bd (m+40)) n f 0 c22 (v22p nb bs nm b es (i:Nat))).out=some (rputT bs nm b es):=by
 obtain ⟨hri,hl⟩:=rise_iff.1 hr
 obtain ⟨hp,h2,h3⟩:=plc_spec hri nm
 intro d
 induction d with
 | zero=>
  intro i f hi hf
  cases f with
  | zero=>omega
  | succ f=>
   have:i=plc nm bs:=by omega
   subst this
   have e1:decide (0≤((plc nm bs:Nat):Int)∧((plc nm bs:Nat):Int)≤(bs.length:Int))=true:=decide_eq_true (by omega)
   have l1:(bs.take (plc nm bs)).length=plc nm bs:=by rw [List.length_take];omega
   have l2:(List.append (List.take (plc nm bs) bs) [D.agg [D.str nm,D.sl stepSh b es]]).length=plc nm bs+1:=by
    show (List.take (plc nm bs) bs++[_]).length=_
    rw [List.length_append,l1];rfl
   have l3:(List.take (bs.length - plc nm bs) (List.drop (plc nm bs) bs)).length≤bs.length:=by rw [List.length_take,List.length_drop];omega
   rw [y2022]
   unfold rputT
   rw [there_eq]
   simp only [Int.toNat_natCast,Nat.sub_zero,e1,l1,l2,ins_app,decide_eq_true (show 0+plc nm bs≤4294967296 by omega),decide_eq_true (show plc nm bs+1≤4294967296 by omega),decide_eq_true (show plc nm bs+1+(List.take (bs.length - plc nm bs) (List.drop (plc nm bs) bs)).length≤4294967296 by omega),cond_true]
   by_cases hlt:plc nm bs<bs.length
   ·rw [dec_lt hlt,dec_ix hlt,h3 _ (Nat.le_refl _) hlt,decide_eq_true hlt]
    cases (fs 0 (bs.getD (plc nm bs) .nilp)==nm)
    ·cases ((bs.length:Int)==8) <;> rfl
    ·rfl
   ·rw [decide_eq_false (show¬((plc nm bs:Nat):Int)<(bs.length:Int) by omega),decide_eq_false hlt]
    cases ((bs.length:Int)==8) <;> rfl
 | succ d ih=>
  intro i f hi hf
  cases f with
  | zero=>omega
  | succ f=>
   have hlt:i<bs.length:=by omega
   rw [y2022]
   simp only [Int.toNat_natCast,wrap_up hlt hl,dec_lt hlt,dec_ix hlt,cond_true,h2 i (by omega)]
   exact ih (i+1) f (by omega) (by omega)
theorem rn2022(m n:Nat)(nb:Bool)(bs:List D)(nm:List UInt8)(b:Bool)(es:List D)(hr:riseB bs=true)(hn:bs.length<n):
  (enterM Bd (callN Bd (m+40)) n c22 [.d (.sl defSh nb bs),.d (.agg [.str nm,.sl stepSh b es])] []).out=some (rputT bs nm b es):=by
 rw [x2022]
 exact lp2022 m n nb bs nm b es hr (plc nm bs) 0 n (by omega) (by have:=plc_le nm bs;omega)
def rputG(bs:List D)(nm:List UInt8)(b:Bool)(es:List D):Tree (List D):= .ite (there nm bs) (fun _=> .ret [.sl defSh true [],.int .i64 71]) (fun _=> .ite ((bs.length:Int)==8) (fun _=> .ret [.sl defSh true [],.int .i64 3]) (fun _=> .ret [.sl defSh false (insD nm (.agg [.str nm,.sl stepSh b es]) bs),.int .i64 0]))
theorem rputG_eval(bs:List D)(nm:List UInt8)(b:Bool)(es:List D):(rputG bs nm b es).eval=some (rputT bs nm b es):=by
 unfold rputG rputT
 cases there nm bs
 ·cases ((bs.length:Int)==8) <;> rfl
 ·rfl
def g2022:List D→Tree (List D)
 | [.sl e0 _nb bs,.agg [.str nm,.sl e1 b es]]=>match Sh.beq e0 defSh&&Sh.beq e1 stepSh with
  | true=> .ite (riseB bs) (fun _=>rputG bs nm b es) (fun _=> .stuck)
  | false=> .stuck
 | _=> .stuck
theorem pure2022{P:Program}(hm:P.follows .mixedOrders=true)(h0:EnvOK P Bd):PureOK P 22 g2022:=PureOK.run hm h0 fun ds rs h=>by
 unfold g2022 at h
 split at h
 ·rename_i e0 nb bs nm e1 b es
  split at h
  ·rename_i hb
   simp only [Bool.and_eq_true] at hb
   have hb0:=Sh.beq_eq hb.1
   have hb1:=Sh.beq_eq hb.2
   subst hb0 hb1
   obtain ⟨hg,h'⟩:=eval_guard h
   clear h
   exact ⟨(bs.length+40)+1,by rw [callN_succ (fn:=c22) rfl];exact (((rn2022 bs.length (bs.length+40) nb bs nm b es hg (by omega)).trans (rputG_eval bs nm b es).symm)).trans h'⟩
  ·cases h
 ·cases h
def Bg:Env:=Bd.pureAt 22 false g2022
theorem okBg{P:Program}(hm:P.follows .mixedOrders=true)(h:EnvOK P Bd):EnvOK P Bg:=h.pureAt (pure2022 hm h)
def v14(nm:Bool)(ms:List D)(nb:Bool)(out:List D)(i:Int):St:= { fr:=frame 40 [(1,V.d (D.sl defSh nm ms)),(6,V.d (D.sl defSh nb out)),(7,V.d (D.int .i64 i))],ob:=[] }
theorem x2014(m n:Nat)(nb nm:Bool)(bs ms:List D):Tree.out (enterM Bg (callN Bg (m+40)) n c14 [.d (.sl defSh nb bs),.d (.sl defSh nm ms)] [])=bif (bif bookOk bs then (0:Int) else (2:Int)) != 0 then some [D.sl (Sh.agg [Sh.str,Sh.sl stepSh]) true [],D.int .i64 2] else Tree.out (resume Bg (callN Bg (m+40)) n n 0 c14 { fr:=frame 40 [(1,V.d (D.sl (Sh.agg [Sh.str,Sh.sl stepSh]) nm ms)),(6,V.d (D.sl (Sh.agg [Sh.str,Sh.sl stepSh]) nb bs)),(7,V.d (D.int .i64 0))],ob:=[] }):=by kernel_rfl
theorem y2014(m n f:Nat)(nm:Bool)(ms:List D)(nb:Bool)(out:List D)(i:Int):Tree.out (resume Bg (callN Bg (m+40)) n (f+1) 0 c14 (v14 nm ms nb out i))=bif decide (i<(↑(List.length ms):Int)) then bif decide (0≤i∧i<(↑(List.length ms):Int)) then bif (bif defOk (fs 0 (List.getD ms (Int.toNat i) D.nilp)) (fl 1 (List.getD ms (Int.toNat i) D.nilp)) then (0:Int) else (90:Int)) != 0 then some [D.sl (Sh.agg [Sh.str,Sh.sl stepSh]) true [],D.int .i64 90] else bif decide (0≤i∧i<(↑(List.length ms):Int)) then bif riseB out then bif there (fs 0 (List.getD ms (Int.toNat i) D.nilp)) out then some [D.sl (Sh.agg [Sh.str,Sh.sl stepSh]) true [],D.int .i64 71] else bif (↑(List.length out):Int)==8 then some [D.sl (Sh.agg [Sh.str,Sh.sl stepSh]) true [],D.int .i64 3] else Tree.out (resume Bg (callN Bg (m+40)) n f 0 c14 { fr:=frame 40 [(1,V.d (D.sl (Sh.agg [Sh.str,Sh.sl stepSh]) nm ms)),(6,V.d (D.sl (Sh.agg [Sh.str,Sh.sl stepSh]) false (insD (fs 0 (List.getD ms (Int.toNat i) D.nilp)) (D.agg [D.str (fs 0 (List.getD ms (Int.toNat i) D.nilp)),D.sl stepSh (fn 1 (List.getD ms (Int.toNat i) D.nilp)) (fl 1 (List.getD ms (Int.toNat i) D.nilp))]) out))),(7,V.d (D.int .i64 (IntKind.wrap .i64 (i+1))))],ob:=[] }) else none else none else none else some [D.sl (Sh.agg [Sh.str,Sh.sl stepSh]) nb out,D.int .i64 0]:=by kernel_rfl
def refQ(fl:Bool)(p:Int×List D):List D:=bif p.1==0 then [.sl defSh fl p.2,.int .i64 0] else [.sl defSh true [],.int .i64 p.1]
theorem rise_of{out:List D}(h:Rising out)(h8:out.length≤8):riseB out=true:=rise_iff.2 ⟨h,by omega⟩
theorem ok_nne(c:Bool):((bif c then (0:Int) else 90) != 0)= !c:=by cases c <;> rfl
theorem lp2014(m n:Nat)(nm:Bool)(ms:List D)(hl:ms.length≤1000000): ∀d i f nb out,i+d=ms.length→d<f→Rising out→out.length≤8→
  (resume Bg (callN Bg (m+40)) n f 0 c14 (v14 nm ms nb out (i:Nat))).out=some (refQ (bif decide (d=0) then nb else false) (addE out (ms.drop i))):=by
 intro d
 induction d with
 | zero=>
  intro i f nb out hi hf hr ho
  cases f with
  | zero=>omega
  | succ f=>
   have:i=ms.length:=by omega
   subst this
   rw [y2014,List.drop_length]
   exact cf (dec_end _)
 | succ d ih=>
  intro i f nb out hi hf hr ho
  cases f with
  | zero=>omega
  | succ f=>
   have hlt:i<ms.length:=by omega
   rw [y2014,wrap_up hlt hl,drop_g hlt,addE_cons]
   simp only [Int.toNat_natCast,dec_lt hlt,dec_ix hlt,cond_true,ok_nne,rise_of hr ho]
   unfold okX
   cases hd:defOk (fs 0 (ms.getD i .nilp)) (fl 1 (ms.getD i .nilp))
   ·rfl
   ·cases ht:there (fs 0 (ms.getD i .nilp)) out
    ·cases h8:((out.length:Int)==8)
     ·have e:(bif decide (d+1=0) then nb else false)=false:=by rw [decide_eq_false (by omega)];rfl
      rw [e]
      refine (ih (i+1) f false (insD (fs 0 (ms.getD i .nilp)) (dX (ms.getD i .nilp)) out) (by omega) (by omega) (ins_rising (d:=dX (ms.getD i .nilp)) hr ht) (by rw [ins_len];have:=ne8 ho h8;omega)).trans ?_
      cases decide (d=0) <;> rfl
     ·rfl
    ·rfl
theorem book_8{bs:List D}(hk:bookOk bs=true):bs.length≤8:=by
 unfold bookOk at hk
 simp only [Bool.and_eq_true,Bool.not_eq_true',decide_eq_false_iff_not] at hk
 omega
def refT(nb:Bool)(bs ms:List D):List D:=bif bookOk bs then refQ (bif decide (ms.length=0) then nb else false) (addE bs ms) else [.sl defSh true [],.int .i64 2]
theorem rn2014(m n:Nat)(nb nm:Bool)(bs ms:List D)(hl:ms.length≤1000000)(hn:ms.length<n):
  (enterM Bg (callN Bg (m+40)) n c14 [.d (.sl defSh nb bs),.d (.sl defSh nm ms)] []).out=some (refT nb bs ms):=by
 rw [x2014]
 unfold refT
 cases hk:bookOk bs
 ·rfl
 ·exact lp2014 m n nm ms hl ms.length 0 n nb bs (by omega) hn (book_rising hk) (book_8 hk)
def addTr(bs ms:List D):Tree (List D):= .ite (bookOk bs) (fun _=> .ite ((addE (bs.map dX) ms).1==0) (fun _=> .ret [.sl defSh (addE (bs.map dX) ms).2.isEmpty (addE (bs.map dX) ms).2,.int .i64 0]) (fun _=> .ret [.sl defSh true [],.int .i64 (addE (bs.map dX) ms).1])) (fun _=> .ret [.sl defSh true [],.int .i64 2])
theorem addTr_eval(bs ms:List D):(addTr bs ms).eval=some (addT bs ms):=by
 unfold addTr addT resP
 cases bookOk bs
 ·rfl
 ·cases ((addE (bs.map dX) ms).1==0) <;> rfl
def refTr(nb:Bool)(bs ms:List D):Tree (List D):= .ite (bookOk bs) (fun _=> .ite ((addE bs ms).1==0) (fun _=> .ret [.sl defSh (bif decide (ms.length=0) then nb else false) (addE bs ms).2,.int .i64 0]) (fun _=> .ret [.sl defSh true [],.int .i64 (addE bs ms).1])) (fun _=> .ret [.sl defSh true [],.int .i64 2])
theorem refTr_eval(nb:Bool)(bs ms:List D):(refTr nb bs ms).eval=some (refT nb bs ms):=by
 unfold refTr refT refQ
 cases bookOk bs
 ·rfl
 ·cases ((addE bs ms).1==0) <;> rfl
def g1201:List D→Tree (List D)
 | [.sl e0 _nb bs,.sl e1 _nm ms]=>match Sh.beq e0 defSh&&Sh.beq e1 defSh with
  | true=> .ite (bookShort bs&&bookShort ms) (fun _=>addTr bs ms) (fun _=> .stuck)
  | false=> .stuck
 | _=> .stuck
theorem pure1201{P:Program}(hm:P.follows .mixedOrders=true)(h0:EnvOK P Bd):PureOK P 13 g1201:=PureOK.run hm h0 fun ds rs h=>by
 unfold g1201 at h
 split at h
 ·rename_i e0 nb bs e1 nm ms
  split at h
  ·rename_i hb
   simp only [Bool.and_eq_true] at hb
   obtain ⟨hb0,hb1⟩:=hb
   have hb0:=Sh.beq_eq hb0
   have hb1:=Sh.beq_eq hb1
   subst hb0 hb1
   obtain ⟨hg,h'⟩:=eval_guard h
   clear h
   exact ⟨(ms.length+40)+1,by rw [callN_succ (fn:=c13) rfl];exact (((rn1201 (ms.length) (ms.length+40) nb nm bs ms (Bool.and_eq_true _ _ ▸ hg).1 (Bool.and_eq_true _ _ ▸ hg).2 (by omega) (by omega)).trans (addTr_eval bs ms).symm)).trans h'⟩
  ·cases h
 ·cases h
def g2014:List D→Tree (List D)
 | [.sl e0 nb bs,.sl e1 _nm ms]=>match Sh.beq e0 defSh&&Sh.beq e1 defSh with
  | true=> .ite (decide (ms.length≤1000000)) (fun _=>refTr nb bs ms) (fun _=> .stuck)
  | false=> .stuck
 | _=> .stuck
theorem pure2014{P:Program}(hm:P.follows .mixedOrders=true)(h0:EnvOK P Bg):PureOK P 14 g2014:=PureOK.run hm h0 fun ds rs h=>by
 unfold g2014 at h
 split at h
 ·rename_i e0 nb bs e1 nm ms
  split at h
  ·rename_i hb
   simp only [Bool.and_eq_true] at hb
   obtain ⟨hb0,hb1⟩:=hb
   have hb0:=Sh.beq_eq hb0
   have hb1:=Sh.beq_eq hb1
   subst hb0 hb1
   obtain ⟨hg,h'⟩:=eval_guard h
   clear h
   simp only [decide_eq_true_eq] at hg
   exact ⟨(ms.length+40)+1,by rw [callN_succ (fn:=c14) rfl];exact (((rn2014 (ms.length) (ms.length+40) nb nm bs ms hg (by omega)).trans (refTr_eval nb bs ms).symm)).trans h'⟩
  ·cases h
 ·cases h
def g1089:List D→Tree (List D)
 | [.sl e0 _nb bs,.sl e1 _nm ms]=>match Sh.beq e0 defSh&&Sh.beq e1 defSh with
  | true=> .ite (bookShort bs) (fun _=> .ret [.bool (sameB bs ms)]) (fun _=> .stuck)
  | false=> .stuck
 | _=> .stuck
theorem pure1089{P:Program}(hm:P.follows .mixedOrders=true)(h0:EnvOK P Bd):PureOK P 15 g1089:=PureOK.run hm h0 fun ds rs h=>by
 unfold g1089 at h
 split at h
 ·rename_i e0 nb bs e1 nm ms
  split at h
  ·rename_i hb
   simp only [Bool.and_eq_true] at hb
   obtain ⟨hb0,hb1⟩:=hb
   have hb0:=Sh.beq_eq hb0
   have hb1:=Sh.beq_eq hb1
   subst hb0 hb1
   obtain ⟨hg,h'⟩:=eval_guard h
   clear h
   cases h'
   exact ⟨(bs.length+40)+1,by rw [callN_succ (fn:=c15) rfl];exact rn1089 bs.length (bs.length+40) nb nm bs ms hg (by omega)⟩
  ·cases h
 ·cases h
def Bi:Env:=(((Bg.pureAt 13 false g1201).pureAt 14 false g2014).pureAt 15 true g1089).pureAt 7 true g20
theorem okBi{P:Program}(hm:P.follows .mixedOrders=true)(hd:EnvOK P Bd)(h:EnvOK P Bg)(ha:PureOK P 7 g20):EnvOK P Bi:=(((h.pureAt (pure1201 hm hd)).pureAt (pure2014 hm h)).pureAt (pure1089 hm hd)).pureAt ha
end Go.Proofs.YtlhageadjmoajaaDoor.A
