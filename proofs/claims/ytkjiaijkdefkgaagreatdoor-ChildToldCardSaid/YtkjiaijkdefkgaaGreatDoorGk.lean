/- Parts of the walk: QMu, Mu, QMv, Mv, QMw, Mw, QMx, Mx, QMy, My, M6, PZ. -/
import Derived.Test.YtkjiaijkdefkgaaGreatDoorGj
import Derived.KernelRfl
open Go Go.AM Go.Proofs
namespace Go.Proofs.YtkjiaijkdefkgaaGreatDoor.A
theorem x54(m n:Nat)(og ep co:Int)(na nm' nb ns:Bool)(zas ms bs ss:List D)(r q:Int)(nil:Bool)(es:List D):Tree.out (enterM Mt (callN Mt (m+40)) n c54 [.d (stD og ep co na nm' nb ns zas ms bs ss),.d (.agg [.int .i64 r,.int .i64 q,.sl hopSh nil es])] [])=bif sgsIn ss then bif (bif mayR og ep co zas ms bs ss then (0:Int) else (230:Int)) != 0 then some [D.agg [D.int .i64 0,D.int .i64 0,D.sl hopSh true [],D.str [],D.sl stepSh true [],D.int .i64 0,D.int .i64 0,D.sl hopSh true [],D.bool false],D.bool false] else bif sgsIn ss&&decide (ss.length≤1000000) then bif !thereS r q es ss then some [D.agg [D.int .i64 0,D.int .i64 0,D.sl hopSh true [],D.str [],D.sl stepSh true [],D.int .i64 0,D.int .i64 0,D.sl hopSh true [],D.bool false],D.bool false] else bif decide (0≤(↑(plcS r q es ss):Int)∧(↑(plcS r q es ss):Int)<(ss.length:Int)) then bif shortL (fn 2 (List.getD ss (plcS r q es ss) D.nilp)) (fl 2 (List.getD ss (plcS r q es ss) D.nilp))&&(shortL (fn 4 (List.getD ss (plcS r q es ss) D.nilp)) (fl 4 (List.getD ss (plcS r q es ss) D.nilp))&&shortL (fn 7 (List.getD ss (plcS r q es ss) D.nilp)) (fl 7 (List.getD ss (plcS r q es ss) D.nilp))) then some [D.agg [D.int .i64 (fi 0 (List.getD ss (plcS r q es ss) D.nilp)),D.int .i64 (fi 1 (List.getD ss (plcS r q es ss) D.nilp)),D.sl hopSh (fn 2 (List.getD ss (plcS r q es ss) D.nilp)) (fl 2 (List.getD ss (plcS r q es ss) D.nilp)),D.str (fs 3 (List.getD ss (plcS r q es ss) D.nilp)),D.sl stepSh (fn 4 (List.getD ss (plcS r q es ss) D.nilp)) (fl 4 (List.getD ss (plcS r q es ss) D.nilp)),D.int .i64 (fi 5 (List.getD ss (plcS r q es ss) D.nilp)),D.int .i64 (fi 6 (List.getD ss (plcS r q es ss) D.nilp)),D.sl hopSh (fn 7 (List.getD ss (plcS r q es ss) D.nilp)) (fl 7 (List.getD ss (plcS r q es ss) D.nilp)),D.bool (fb 8 (List.getD ss (plcS r q es ss) D.nilp))],D.bool true] else none else none else none else none:=by kernel_rfl
theorem x60(m n:Nat)(og ep co:Int)(na nm' nb ns:Bool)(zas ms bs ss:List D)(r q:Int)(nil:Bool)(es:List D):Tree.out (enterM Mt (callN Mt (m+40)) n c60 [.d (stD og ep co na nm' nb ns zas ms bs ss),.d (.agg [.int .i64 r,.int .i64 q,.sl hopSh nil es])] [])=bif sgsIn ss&&decide (ss.length≤1000000) then bif sgsIn ss then bif (bif mayR og ep co zas ms bs ss then (0:Int) else (230:Int)) != 0 then some [D.agg [D.int .i64 0,D.int .i64 0,D.sl hopSh true [],D.str [],D.sl stepSh true [],D.int .i64 0,D.int .i64 0,D.sl hopSh true [],D.bool false],D.bool false] else bif decide (idxS r q es ss<0) then some [D.agg [D.int .i64 0,D.int .i64 0,D.sl hopSh true [],D.str [],D.sl stepSh true [],D.int .i64 0,D.int .i64 0,D.sl hopSh true [],D.bool false],D.bool false] else bif decide (0≤idxS r q es ss∧idxS r q es ss<(ss.length:Int)) then some [D.agg [D.int .i64 (fi 0 (List.getD ss (Int.toNat (idxS r q es ss)) D.nilp)),D.int .i64 (fi 1 (List.getD ss (Int.toNat (idxS r q es ss)) D.nilp)),D.sl hopSh (fn 2 (List.getD ss (Int.toNat (idxS r q es ss)) D.nilp)) (fl 2 (List.getD ss (Int.toNat (idxS r q es ss)) D.nilp)),D.str (fs 3 (List.getD ss (Int.toNat (idxS r q es ss)) D.nilp)),D.sl stepSh (fn 4 (List.getD ss (Int.toNat (idxS r q es ss)) D.nilp)) (fl 4 (List.getD ss (Int.toNat (idxS r q es ss)) D.nilp)),D.int .i64 (fi 5 (List.getD ss (Int.toNat (idxS r q es ss)) D.nilp)),D.int .i64 (fi 6 (List.getD ss (Int.toNat (idxS r q es ss)) D.nilp)),D.sl hopSh (fn 7 (List.getD ss (Int.toNat (idxS r q es ss)) D.nilp)) (fl 7 (List.getD ss (Int.toNat (idxS r q es ss)) D.nilp)),D.bool (fb 8 (List.getD ss (Int.toNat (idxS r q es ss)) D.nilp))],D.bool true] else none else none else none:=by kernel_rfl
theorem x110(m n:Nat)(nb:Bool)(bs:List D)(s:List UInt8):Tree.out (enterM Mt (callN Mt (m+40)) n c110 [.d (.sl defSh nb bs),.d (.str s)] [])=bif (bif bookOk bs then (0:Int) else (2:Int)) != 0 then some [D.agg [D.str [],D.sl stepSh true []],D.bool false] else bif decide (bs.length≤1000000) then bif !there s bs then some [D.agg [D.str [],D.sl stepSh true []],D.bool false] else bif decide (0≤(↑(plc s bs):Int)∧(↑(plc s bs):Int)<(bs.length:Int)) then bif shortL (fn 1 (List.getD bs (plc s bs) D.nilp)) (fl 1 (List.getD bs (plc s bs) D.nilp)) then some [D.agg [D.str (fs 0 (List.getD bs (plc s bs) D.nilp)),D.sl stepSh (fn 1 (List.getD bs (plc s bs) D.nilp)) (fl 1 (List.getD bs (plc s bs) D.nilp))],D.bool true] else none else none else none:=by kernel_rfl
theorem x21m(m n:Nat)(na nb:Bool)(a b:List D):Tree.out (enterM Mt (callN Mt (m+40)) n c21 [.d (.sl moveSh na a),.d (.sl moveSh nb b)] [])=bif (a.length:Int) != (b.length:Int) then some [D.bool false] else Tree.out (resume Mt (callN Mt (m+40)) n n 0 c21 { fr:=frame 27 [(0,V.d (D.sl moveSh na a)),(1,V.d (D.sl moveSh nb b)),(5,V.d (D.int .i64 0))],ob:=[] }):=by kernel_rfl
def v21(na nb:Bool)(a b:List D)(i:Int):St:= { fr:=frame 27 [(0,V.d (D.sl moveSh na a)),(1,V.d (D.sl moveSh nb b)),(5,V.d (D.int .i64 i))],ob:=[] }
theorem y21(m n f:Nat)(na nb:Bool)(a b:List D)(i:Int):Tree.out (resume Mt (callN Mt (m+40)) n (f+1) 0 c21 (v21 na nb a b i))=bif decide (i<(a.length:Int)) then bif decide (0≤i∧i<(a.length:Int)) then bif decide (0≤i∧i<(b.length:Int)) then bif fi 0 (a.getD i.toNat .nilp)==fi 0 (b.getD i.toNat .nilp) then bif decide (List.length (fl 3 (a.getD i.toNat .nilp))≤1000000) then bif refCmp (fi 1 (a.getD i.toNat .nilp)) (fi 2 (a.getD i.toNat .nilp)) (fl 3 (a.getD i.toNat .nilp)) (fi 1 (b.getD i.toNat .nilp)) (fi 2 (b.getD i.toNat .nilp)) (fl 3 (b.getD i.toNat .nilp))==0 then bif fi 4 (a.getD i.toNat .nilp)==fi 4 (b.getD i.toNat .nilp) then bif fi 5 (a.getD i.toNat .nilp)==fi 5 (b.getD i.toNat .nilp) then bif decide (List.length (fl 7 (a.getD i.toNat .nilp))≤1000000) then bif !(fs 6 (a.getD i.toNat .nilp)==fs 6 (b.getD i.toNat .nilp)&&stepsEq (fl 7 (a.getD i.toNat .nilp)) (fl 7 (b.getD i.toNat .nilp))) then some [D.bool false] else Tree.out (resume Mt (callN Mt (m+40)) n f 0 c21 (v21 na nb a b (IntKind.wrap .i64 (i+1)))) else none else some [D.bool false] else some [D.bool false] else some [D.bool false] else none else some [D.bool false] else none else none else some [D.bool true]:=by kernel_rfl
theorem x18(m n:Nat)(og ep co:Int)(na nm' nb ns:Bool)(zas ms bs ss:List D):Tree.out (enterM Mt (callN Mt (m+40)) n c18 [.d (stD og ep co na nm' nb ns zas ms bs ss)] [])=bif decide (50<(zas.length:Int)) then some [D.bool false] else bif decide (200<(ms.length:Int)) then some [D.bool false] else bif decide (40<(ss.length:Int)) then some [D.bool false] else bif !fewB bs then some [D.bool false] else Tree.out (resume Mt (callN Mt (m+40)) n n 0 c18 { fr:=frame 60 [(1,V.ptr 128 0),(3,V.d (D.int .i64 0))],ob:=[(128,Obj.box [V.d (D.int .i64 og),V.d (D.int .i64 ep),V.d (D.int .i64 co),V.d (D.sl accSh na zas),V.d (D.sl mrkSh nm' ms),V.d (D.sl defSh nb bs),V.d (D.sl sgSh ns ss)])] }):=by kernel_rfl
def v18(og ep co:Int)(na nm' nb ns:Bool)(zas ms bs ss:List D)(i:Int):St:= { fr:=frame 60 [(1,V.ptr 128 0),(3,V.d (D.int .i64 i))],ob:=[(128,HS og ep co na nm' nb ns zas ms bs ss)] }
theorem y18(m n f:Nat)(og ep co:Int)(na nm' nb ns:Bool)(zas ms bs ss:List D)(i:Int):Tree.out (resume Mt (callN Mt (m+40)) n (f+1) 0 c18 (v18 og ep co na nm' nb ns zas ms bs ss i))=bif decide (i<(ss.length:Int)) then bif decide (0≤i∧i<(ss.length:Int)) then bif !few (fl 2 (ss.getD i.toNat .nilp)) (fl 4 (ss.getD i.toNat .nilp)) (fl 7 (ss.getD i.toNat .nilp)) then some [D.bool false] else Tree.out (resume Mt (callN Mt (m+40)) n f 0 c18 (v18 og ep co na nm' nb ns zas ms bs ss (IntKind.wrap .i64 (i+1)))) else none else Tree.out (resume Mt (callN Mt (m+40)) n n 1 c18 { fr:=frame 60 [(1,V.ptr 128 0),(4,V.d (D.int .i64 0))],ob:=[(128,Obj.box [V.d (D.int .i64 og),V.d (D.int .i64 ep),V.d (D.int .i64 co),V.d (D.sl accSh na zas),V.d (D.sl mrkSh nm' ms),V.d (D.sl defSh nb bs),V.d (D.sl sgSh ns ss)])] }):=by kernel_rfl
def v18b(og ep co:Int)(na nm' nb ns:Bool)(zas ms bs ss:List D)(i:Int):St:= { fr:=frame 60 [(1,V.ptr 128 0),(4,V.d (D.int .i64 i))],ob:=[(128,HS og ep co na nm' nb ns zas ms bs ss)] }
theorem y18b(m n f:Nat)(og ep co:Int)(na nm' nb ns:Bool)(zas ms bs ss:List D)(i:Int):Tree.out (resume Mt (callN Mt (m+40)) n (f+1) 1 c18 (v18b og ep co na nm' nb ns zas ms bs ss i))=bif decide (i<(ms.length:Int)) then bif decide (0≤i∧i<(ms.length:Int)) then bif decide (1000<(↑(List.length (fs 0 (ms.getD i.toNat .nilp))):Int)) then some [D.bool false] else Tree.out (resume Mt (callN Mt (m+40)) n f 1 c18 (v18b og ep co na nm' nb ns zas ms bs ss (IntKind.wrap .i64 (i+1)))) else none else some [D.bool true]:=by kernel_rfl
open Go Go.AM
set_option maxRecDepth 20000
theorem hopsC_map: ∀{l m n:List D},m.map hopP=n.map hopP→hopsC l m=hopsC l n
 | [],[],[],_=>rfl
 | [],_ :: _,_ :: _,_=>rfl
 | _ :: _,[],[],_=>rfl
 | x :: l,y :: m,z :: n,h=>by
  simp only [List.map_cons,List.cons.injEq,hopP,Prod.mk.injEq] at h
  simp only [hopsC]
  rw [h.1.1,h.1.2,hopsC_map h.2]
 | [],[],_ :: _,h=>by simp at h
 | [],_ :: _,[],h=>by simp at h
 | _ :: _,[],_ :: _,h=>by simp at h
 | _ :: _,_ :: _,[],h=>by simp at h
theorem idC_zero{a b x y:Int}{l m:List D}:idC a x l b y m=0↔a=b∧x=y∧l.map hopP=m.map hopP:=by
 unfold idC
 have hne: ∀{p q:Int},p≠q→cmpI p q≠0:=fun {p q} h=>by
  have:= @cmpI_ne p q
  rw [bne_iff_ne.2 h] at this
  exact bne_iff_ne.1 this
 by_cases e0:a=b
 ·subst e0
  rw [show (a != a)=false by simp,cond_false]
  by_cases e1:x=y
  ·subst e1
   rw [show (x != x)=false by simp,cond_false,hopsC_zero]
   simp
  ·rw [bne_iff_ne.2 e1,cond_true]
   exact ⟨fun h=>absurd h (hne e1),fun h=>absurd h.2.1 e1⟩
 ·rw [bne_iff_ne.2 e0,cond_true]
  exact ⟨fun h=>absurd h (hne e0),fun h=>absurd h.1 e0⟩
theorem sagas_inj{ss:List D}(h: ∀i,i<ss.length→sgLess ss i=true){i j:Nat}(hi:i<ss.length)(hj:j<ss.length)
  (e:fi 0 (ss.getD i .nilp)=fi 0 (ss.getD j .nilp)∧fi 1 (ss.getD i .nilp)=fi 1 (ss.getD j .nilp)∧(fl 2 (ss.getD i .nilp)).map hopP=(fl 2 (ss.getD j .nilp)).map hopP):i=j:=by
 have key: ∀a b:Nat,a<b→b<ss.length→ ¬(fi 0 (ss.getD a .nilp)=fi 0 (ss.getD b .nilp)∧fi 1 (ss.getD a .nilp)=fi 1 (ss.getD b .nilp)∧(fl 2 (ss.getD a .nilp)).map hopP=(fl 2 (ss.getD b .nilp)).map hopP):=fun a b hab hb=>by
  have:=sagas_lt h (d:=b - a - 1) (a:=a) (by omega)
  rw [show a+(b - a - 1)+1=b by omega] at this
  exact idC_ne this
 by_cases h1:i<j
 ·exact absurd e (key i j h1 hj)
 ·by_cases h2:j<i
  ·exact absurd ⟨e.1.symm,e.2.1.symm,e.2.2.symm⟩ (key j i h2 hi)
  ·omega
def AtS(r q:Int)(es ss:List D)(i:Nat):Prop:=fi 0 (ss.getD i .nilp)=r∧fi 1 (ss.getD i .nilp)=q∧(fl 2 (ss.getD i .nilp)).map hopP=es.map hopP
theorem idxS_at{r q:Int}{es ss:List D}(h:0≤idxS r q es ss):(idxS r q es ss).toNat<ss.length∧AtS r q es ss (idxS r q es ss).toNat:=by
 obtain ⟨p1,p2,-⟩:=idxOf_pos (q:=fun x=>refCmp (fi 0 x) (fi 1 x) (fl 2 x) r q es==0) h
 rw [beq_iff_eq,refCmp_eq,idC_zero] at p2
 exact ⟨p1,p2⟩
theorem idxS_iff{r q:Int}{es ss:List D}:0≤idxS r q es ss↔ ∃i,i<ss.length∧AtS r q es ss i:=by
 have:=idxOf_nonneg (fun x=>refCmp (fi 0 x) (fi 1 x) (fl 2 x) r q es==0) ss
 unfold idxS
 rw [←decide_eq_true_eq (p:=0≤idxOf _ ss),this,any_iff]
 simp only [beq_iff_eq,refCmp_eq,idC_zero]
 rfl
theorem find_same{ss:List D}(h: ∀i,i<ss.length→sgLess ss i=true)(r q:Int)(es:List D):thereS r q es ss=decide (0≤idxS r q es ss)∧(thereS r q es ss=true→plcS r q es ss=(idxS r q es ss).toNat∧plcS r q es ss<ss.length):=by
 have hmono: ∀a b,a≤b→b<ss.length→decide (cmpAt r q es ss b<0)=true→decide (cmpAt r q es ss a<0)=true:=fun a b hab hb hp=>by
  rw [decide_eq_true_eq] at hp ⊢
  unfold cmpAt at hp ⊢
  rw [idCmp_eq] at hp ⊢
  by_cases he:a=b
  ·rw [he];exact hp
  ·have:=sagas_lt h (d:=b - a - 1) (a:=a) (by omega)
   rw [show a+(b - a - 1)+1=b by omega] at this
   exact idC_trans this hp
 obtain ⟨h1,h2,h3⟩:=bsF_spec (fun i=>decide (cmpAt r q es ss i<0)) ss.length hmono ss.length 0 ss.length (by omega) (by omega) (by omega) (fun k hk=>by omega) (fun k h1 h2=>by omega)
 have hat: ∀i,i<ss.length→((cmpAt r q es ss i==0)=true↔AtS r q es ss i):=fun i _=>by
  unfold cmpAt
  rw [beq_iff_eq,idCmp_eq,idC_zero]
  rfl
 have hth:thereS r q es ss=true→plcS r q es ss<ss.length∧AtS r q es ss (plcS r q es ss):=fun ht=>by
  unfold thereS foundS at ht
  by_cases hlt:plcS r q es ss<ss.length
  ·rw [dec_lt hlt,cond_true] at ht
   exact ⟨hlt,(hat _ hlt).1 ht⟩
  ·rw [decide_eq_false (by omega)] at ht;cases ht
 have hback:0≤idxS r q es ss→thereS r q es ss=true:=fun h0=>by
  obtain ⟨i,hi,ha⟩:=idxS_iff.1 h0
  have hz:idC (fi 0 (ss.getD i .nilp)) (fi 1 (ss.getD i .nilp)) (fl 2 (ss.getD i .nilp)) r q es=0:=idC_zero.2 ha
  have hle:plcS r q es ss≤i:=by
   by_cases hc:i<plcS r q es ss
   ·have:=h2 i hc
    rw [decide_eq_true_eq] at this
    unfold cmpAt at this
    rw [idCmp_eq,hz] at this
    omega
   ·omega
  have hlt:plcS r q es ss<ss.length:=by omega
  have he:plcS r q es ss=i:=by
   by_cases he:plcS r q es ss=i
   ·exact he
   ·have hp:=h3 _ (Nat.le_refl _) hlt
    rw [decide_eq_false_iff_not] at hp
    have hs:=sagas_lt h (d:=i - plcS r q es ss - 1) (a:=plcS r q es ss) (by omega)
    rw [show plcS r q es ss+(i - plcS r q es ss - 1)+1=i by omega] at hs
    exfalso
    apply hp
    show cmpAt r q es ss (plcS r q es ss)<0
    unfold cmpAt
    rw [idCmp_eq]
    unfold idcS at hs
    rw [ha.1,ha.2.1] at hs
    have:idC (fi 0 (ss.getD (plcS r q es ss) .nilp)) (fi 1 (ss.getD (plcS r q es ss) .nilp)) (fl 2 (ss.getD (plcS r q es ss) .nilp)) r q es=idC (fi 0 (ss.getD (plcS r q es ss) .nilp)) (fi 1 (ss.getD (plcS r q es ss) .nilp)) (fl 2 (ss.getD (plcS r q es ss) .nilp)) r q (fl 2 (ss.getD i .nilp)):=by
     unfold idC
     rw [hopsC_map ha.2.2.symm]
    rw [this]
    exact hs
  unfold thereS foundS
  rw [dec_lt hlt,cond_true,hat _ hlt,he]
  exact ha
 constructor
 ·rw [Bool.eq_iff_iff,decide_eq_true_eq]
  exact ⟨fun ht=>idxS_iff.2 ⟨_,hth ht⟩,hback⟩
 ·intro ht
  obtain ⟨hlt,ha⟩:=hth ht
  obtain ⟨p1,p2⟩:=idxS_at (idxS_iff.2 ⟨_,hlt,ha⟩)
  refine ⟨?_,hlt⟩
  exact sagas_inj h hlt p1 ⟨ha.1.trans p2.1.symm,ha.2.1.trans p2.2.1.symm,ha.2.2.trans p2.2.2.symm⟩
theorem mayR_all{og ep co:Int}{zas ms bs ss:List D}(h:mayR og ep co zas ms bs ss=true):(∀i,i<ss.length→mayS (ss.getD i .nilp)=true∧sgLess ss i=true∧orgOfId (fi 0 (ss.getD i .nilp)) (fi 1 (ss.getD i .nilp)) (fl 2 (ss.getD i .nilp))=og)∧bookOk bs=true∧ledOk zas ms=true∧ss.length≤24:=by
 rw [←may_same] at h
 unfold mayP sagasOk at h
 simp only [Bool.and_eq_true,Bool.not_eq_true',decide_eq_false_iff_not] at h
 obtain ⟨-,-,-,-,-,-,hl,hb,⟨h24,hs⟩,-⟩:=h
 refine ⟨fun i hi=> ?_,hb,hl,by omega⟩
 have:=allN_iff.1 hs i hi
 unfold sagaAt at this
 simp only [Bool.and_eq_true,Bool.not_eq_true',bne_eq_false_iff_eq] at this
 exact ⟨this.1,this.2.2.2,this.2.1⟩
def sgShort(x:D):Bool:=shortL (fn 2 x) (fl 2 x)&&(shortL (fn 4 x) (fl 4 x)&&shortL (fn 7 x) (fl 7 x))
def sgsShort(ss:List D):Bool:=allN (fun i=>sgShort (ss.getD i .nilp)) ss.length&&decide (ss.length≤1000000)
theorem short_in{ss:List D}(h:sgsShort ss=true):sgsIn ss=true∧ss.length≤1000000∧ ∀i,i<ss.length→sgShort (ss.getD i .nilp)=true:=by
 unfold sgsShort at h
 rw [Bool.and_eq_true,decide_eq_true_eq,allN_iff] at h
 refine ⟨allN_iff.2 fun i hi=> ?_,h.2,h.1⟩
 have:=h.1 i hi
 unfold sgShort at this
 simp only [Bool.and_eq_true,shortL_iff] at this
 unfold sgIn
 rw [decide_eq_true this.2.1.2,decide_eq_true this.2.2.2,decide_eq_true this.1.2];rfl
abbrev sagaI(x:D):D:=sagaD (fi 0 x) (fi 1 x) (fi 5 x) (fi 6 x) (fn 2 x) (fn 4 x) (fn 7 x) (fb 8 x) (fl 2 x) (fl 4 x) (fl 7 x) (fs 3 x)
abbrev zSaga:D:=sagaD 0 0 0 0 true true true false [] [] [] []
def gotS(og ep co:Int)(zas ms bs ss:List D)(r q:Int)(es:List D):Bool:=mayR og ep co zas ms bs ss&&decide (0≤idxS r q es ss)
def fndT(og ep co:Int)(zas ms bs ss:List D)(r q:Int)(es:List D):Tree (List D):= .ite (gotS og ep co zas ms bs ss r q es) (fun _=> .ret [sagaI (ss.getD (idxS r q es ss).toNat .nilp),.bool true]) (fun _=> .ret [zSaga,.bool false])
theorem fndT_eval(og ep co:Int)(zas ms bs ss:List D)(r q:Int)(es:List D):(fndT og ep co zas ms bs ss r q es).eval=some (bif gotS og ep co zas ms bs ss r q es then [sagaI (ss.getD (idxS r q es ss).toNat .nilp),.bool true] else [zSaga,.bool false]):=by
 unfold fndT
 cases gotS og ep co zas ms bs ss r q es <;> rfl
theorem rn60(m n:Nat)(og ep co:Int)(na nm' nb ns:Bool)(zas ms bs ss:List D)(r q:Int)(nil:Bool)(es:List D)(h:sgsShort ss=true):
  (enterM Mt (callN Mt (m+40)) n c60 [.d (stD og ep co na nm' nb ns zas ms bs ss),.d (.agg [.int .i64 r,.int .i64 q,.sl hopSh nil es])] []).out=(fndT og ep co zas ms bs ss r q es).eval:=by
 obtain ⟨h1,h2,-⟩:=short_in h
 rw [x60,fndT_eval,h1,decide_eq_true h2]
 unfold gotS
 cases mayR og ep co zas ms bs ss
 ·rfl
 ·by_cases h0:0≤idxS r q es ss
  ·have hp:=(idxS_at h0).1
   rw [decide_eq_true h0]
   refine (ct rfl).trans ((ct rfl).trans ((cf rfl).trans ((cf (decide_eq_false (by omega))).trans ((ct (decide_eq_true (by omega))).trans ?_))))
   rfl
  ·rw [decide_eq_false h0]
   refine (ct rfl).trans ((ct rfl).trans ((cf rfl).trans ((ct (decide_eq_true (by omega))).trans ?_)))
   rfl
theorem rn54(m n:Nat)(og ep co:Int)(na nm' nb ns:Bool)(zas ms bs ss:List D)(r q:Int)(nil:Bool)(es:List D)(h:sgsShort ss=true):
  (enterM Mt (callN Mt (m+40)) n c54 [.d (stD og ep co na nm' nb ns zas ms bs ss),.d (.agg [.int .i64 r,.int .i64 q,.sl hopSh nil es])] []).out=(fndT og ep co zas ms bs ss r q es).eval:=by
 obtain ⟨h1,h2,h3⟩:=short_in h
 rw [x54,fndT_eval,h1,decide_eq_true h2]
 unfold gotS
 cases hm:mayR og ep co zas ms bs ss
 ·rfl
 ·obtain ⟨e1,e2⟩:=find_same (fun i hi=>((mayR_all hm).1 i hi).2.1) r q es
  rw [←e1]
  cases ht:thereS r q es ss
  ·rfl
  ·obtain ⟨e3,e4⟩:=e2 ht
   have hs:=h3 _ e4
   unfold sgShort at hs
   refine (ct rfl).trans ((cf rfl).trans ((ct rfl).trans ((cf rfl).trans ((ct (dec_ix e4)).trans ((ct hs).trans ?_)))))
   rw [e3];rfl
def bookShort(bs:List D):Bool:=allN (fun i=>shortL (fn 1 (bs.getD i .nilp)) (fl 1 (bs.getD i .nilp))) bs.length&&decide (bs.length≤1000000)
theorem book_rising{bs:List D}(h:bookOk bs=true):Rising bs:=fun i hi=>by
 unfold bookOk at h
 rw [Bool.and_eq_true] at h
 have:=allN_iff.1 h.2 i hi
 unfold defAt at this
 rw [Bool.and_eq_true] at this
 exact this.2
theorem plc_idx{es:List D}(h:Rising es){s:List UInt8}(ht:there s es=true):plc s es=(nameIdx s es).toNat∧plc s es<es.length:=by
 have hn:=there_idx h s
 rw [ht] at hn
 have h0:0≤nameIdx s es:=by
  by_cases hc:nameIdx s es<0
  ·rw [decide_eq_true hc] at hn;cases hn
  ·omega
 have hp:plc s es<es.length∧fs 0 (es.getD (plc s es) .nilp)=s:=by
  unfold there at ht
  by_cases hlt:plc s es<es.length
  ·rw [dec_lt hlt,cond_true,cmp_zero,beq_iff_eq] at ht
   exact ⟨hlt,ht⟩
  ·rw [decide_eq_false (by omega)] at ht;cases ht
 obtain ⟨p1,p2,-⟩:=idxOf_pos (q:=fun x=>fs 0 x==s) (show 0≤idxOf (fun x=>fs 0 x==s) es from h0)
 rw [beq_iff_eq] at p2
 exact ⟨rising_inj h hp.1 p1 (hp.2.trans p2.symm),hp.1⟩
theorem findT_eval(bs:List D)(s:List UInt8):(findT bs s).eval=some (bif bookOk bs&&decide (0≤nameIdx s bs) then [defAtI bs (nameIdx s bs).toNat,.bool true] else [zDef,.bool false]):=by
 unfold findT
 cases (bookOk bs&&decide (0≤nameIdx s bs)) <;> rfl
theorem rn110(m n:Nat)(nb:Bool)(bs:List D)(s:List UInt8)(h:bookShort bs=true):(enterM Mt (callN Mt (m+40)) n c110 [.d (.sl defSh nb bs),.d (.str s)] []).out=(findT bs s).eval:=by
 unfold bookShort at h
 rw [Bool.and_eq_true,decide_eq_true_eq,allN_iff] at h
 rw [x110,findT_eval,decide_eq_true h.2]
 cases hb:bookOk bs
 ·rfl
 ·have hr:=book_rising hb
  have e1:decide (0≤nameIdx s bs)=there s bs:=by
   rw [there_idx hr]
   by_cases hc:nameIdx s bs<0
   ·rw [decide_eq_true hc,decide_eq_false (by omega)];rfl
   ·rw [decide_eq_false hc,decide_eq_true (by omega)];rfl
  rw [e1]
  cases ht:there s bs
  ·rfl
  ·obtain ⟨e3,e4⟩:=plc_idx hr ht
   refine (cf rfl).trans ((ct rfl).trans ((cf rfl).trans ((ct (dec_ix e4)).trans ((ct (h.1 _ e4)).trans ?_))))
   rw [e3];rfl
def moveEq(x y:D):Bool:=fi 0 x==fi 0 y&&(refCmp (fi 1 x) (fi 2 x) (fl 3 x) (fi 1 y) (fi 2 y) (fl 3 y)==0&&(fi 4 x==fi 4 y&&(fi 5 x==fi 5 y&&(fs 6 x==fs 6 y&&stepsEq (fl 7 x) (fl 7 y)))))
def movesEq(a b:List D):Bool:= !((a.length:Int) != (b.length:Int))&&allN (fun i=>moveEq (a.getD i .nilp) (b.getD i .nilp)) a.length
theorem rn21(m n:Nat)(na nb:Bool)(a b:List D)(hl:a.length≤1000000)(h3: ∀k,k<a.length→(fl 3 (a.getD k .nilp)).length≤1000000)(h7: ∀k,k<a.length→(fl 7 (a.getD k .nilp)).length≤1000000)(hn:a.length<n):
  (enterM Mt (callN Mt (m+40)) n c21 [.d (.sl moveSh na a),.d (.sl moveSh nb b)] []).out=some [.bool (movesEq a b)]:=by
 rw [x21m]
 unfold movesEq
 cases he:((a.length:Int) != (b.length:Int))
 ·refine (cf rfl).trans ?_
  have he:a.length=b.length:=by simp only [bne_eq_false_iff_eq] at he;omega
  have:=scan_loop (fun j i=>(resume Mt (callN Mt (m+40)) n j 0 c21 (v21 na nb a b (i:Nat))).out) a.length (fun i=> !moveEq (a.getD i .nilp) (b.getD i .nilp)) (fun _=>[D.bool false]) [.bool true]
   (fun j i hi=> ?_) (fun j=> ?_) a.length 0 n (by omega) hn
  ·refine this.trans ?_
   rw [scan_boolD]
   rfl
  ·rw [y21]
   simp only [Int.toNat_natCast,wrap_up hi hl]
   refine (ct (dec_lt hi)).trans ((ct (dec_ix hi)).trans ((ct (dec_ix (show i<b.length by omega))).trans ?_))
   rw [decide_eq_true (h3 i hi),decide_eq_true (h7 i hi)]
   unfold moveEq
   cases (fi 0 (a.getD i .nilp)==fi 0 (b.getD i .nilp))
   ·rfl
   ·cases (refCmp (fi 1 (a.getD i .nilp)) (fi 2 (a.getD i .nilp)) (fl 3 (a.getD i .nilp)) (fi 1 (b.getD i .nilp)) (fi 2 (b.getD i .nilp)) (fl 3 (b.getD i .nilp))==0)
    ·rfl
    ·cases (fi 4 (a.getD i .nilp)==fi 4 (b.getD i .nilp))
     ·rfl
     ·cases (fi 5 (a.getD i .nilp)==fi 5 (b.getD i .nilp)) <;> rfl
  ·rw [y21]
   exact cf (dec_end _)
 ·rfl
def fewS(x:D):Bool:=few (fl 2 x) (fl 4 x) (fl 7 x)
def fewSt(zas ms bs ss:List D):Bool:= !decide (50<(zas.length:Int))&&(!decide (200<(ms.length:Int))&&(!decide (40<(ss.length:Int))&&(fewB bs&&(allN (fun i=>fewS (ss.getD i .nilp)) ss.length&&allN (fun i=> !decide (1000<((fs 0 (ms.getD i .nilp)).length:Int))) ms.length))))
theorem rn18(m n:Nat)(og ep co:Int)(na nm' nb ns:Bool)(zas ms bs ss:List D)(hn:300<n):(enterM Mt (callN Mt (m+40)) n c18 [.d (stD og ep co na nm' nb ns zas ms bs ss)] []).out=some [.bool (fewSt zas ms bs ss)]:=by
 rw [x18]
 unfold fewSt
 cases decide (50<(zas.length:Int))
 ·by_cases hm:200<(ms.length:Int)
  ·rw [decide_eq_true hm];rfl
  ·rw [decide_eq_false hm]
   by_cases hs:40<(ss.length:Int)
   ·rw [decide_eq_true hs];rfl
   ·rw [decide_eq_false hs]
    cases fewB bs
    ·rfl
    ·refine (cf rfl).trans ((cf rfl).trans ((cf rfl).trans ((cf rfl).trans ?_)))
     have inner:(resume Mt (callN Mt (m+40)) n n 1 c18 (v18b og ep co na nm' nb ns zas ms bs ss 0)).out=some [.bool (allN (fun i=> !decide (1000<((fs 0 (ms.getD i .nilp)).length:Int))) ms.length)]:=by
      have:=scan_loop (fun j i=>(resume Mt (callN Mt (m+40)) n j 1 c18 (v18b og ep co na nm' nb ns zas ms bs ss (i:Nat))).out) ms.length (fun i=> !!decide (1000<((fs 0 (ms.getD i .nilp)).length:Int))) (fun _=>[D.bool false]) [.bool true]
       (fun j i hi=> ?_) (fun j=> ?_) ms.length 0 n (by omega) (by omega)
      ·refine this.trans ?_
       rw [scan_boolD (fun i=> !decide (1000<((fs 0 (ms.getD i .nilp)).length:Int)))]
      ·rw [y18b,Bool.not_not]
       simp only [Int.toNat_natCast,wrap_up hi (show ms.length≤1000000 by omega)]
       exact (ct (dec_lt hi)).trans (ct (dec_ix hi))
      ·rw [y18b]
       exact cf (dec_end _)
     have:=scan_loop (fun j i=>(resume Mt (callN Mt (m+40)) n j 0 c18 (v18 og ep co na nm' nb ns zas ms bs ss (i:Nat))).out) ss.length (fun i=> !fewS (ss.getD i .nilp)) (fun _=>[D.bool false]) [.bool (allN (fun i=> !decide (1000<((fs 0 (ms.getD i .nilp)).length:Int))) ms.length)]
      (fun j i hi=> ?_) (fun j=> ?_) ss.length 0 n (by omega) (by omega)
     ·refine this.trans ?_
      cases hx:allN (fun i=> !decide (1000<((fs 0 (ms.getD i .nilp)).length:Int))) ms.length
      ·have e:=scan_map (fun x:Bool=>[D.bool x]) (fun i=> !fewS (ss.getD i .nilp)) (fun _=>false) false ss.length 0
       refine congrArg some (e.trans ?_)
       have: ∀k i,scan (fun i=> !fewS (ss.getD i .nilp)) (fun _=>false) false k i=false:=by
        intro k
        induction k with
        | zero=>intro i;rfl
        | succ k ih=>
         intro i
         simp only [scan,ih]
         cases (!fewS (ss.getD i .nilp)) <;> rfl
       rw [this,Bool.and_false];rfl
      ·rw [scan_boolD,Bool.and_true];rfl
     ·rw [y18]
      simp only [Int.toNat_natCast,wrap_up hi (show ss.length≤1000000 by omega)]
      exact (ct (dec_lt hi)).trans (ct (dec_ix hi))
     ·rw [y18]
      exact (cf (dec_end _)).trans inner
 ·rfl
def g54m:List D→Tree (List D)
 | [.agg [.int .i64 og,.int .i64 ep,.int .i64 co,.sl e0a _na zas,.sl e0m _nm ms,.sl e0b _nb bs,.sl e0s _ns ss],.agg [.int .i64 r,.int .i64 q,.sl e1 _nil es]]=>match Sh.beq e0a accSh&&Sh.beq e0m mrkSh&&Sh.beq e0b defSh&&Sh.beq e0s sgSh&&Sh.beq e1 hopSh with
  | true=> .ite (sgsShort ss) (fun _=>fndT og ep co zas ms bs ss r q es) (fun _=> .stuck)
  | false=> .stuck
 | _=> .stuck
theorem pure54m{P:Program}(hm:P.follows .mixedOrders=true)(h0:EnvOK P Mt):PureOK P 54 g54m:=PureOK.run hm h0 fun ds rs h=>by
 unfold g54m at h
 split at h
 ·rename_i og ep co e0a na zas e0m nm ms e0b nb bs e0s ns ss r q e1 nil es
  split at h
  ·rename_i hb
   simp only [Bool.and_eq_true] at hb
   obtain ⟨⟨⟨⟨hb0,hb1⟩,hb2⟩,hb3⟩,hb4⟩:=hb
   have hb0:=Sh.beq_eq hb0
   have hb1:=Sh.beq_eq hb1
   have hb2:=Sh.beq_eq hb2
   have hb3:=Sh.beq_eq hb3
   have hb4:=Sh.beq_eq hb4
   subst hb0 hb1 hb2 hb3 hb4
   obtain ⟨hg,h'⟩:=eval_guard h
   clear h
   exact ⟨59+1,by rw [callN_succ (fn:=c54) rfl];exact (rn54 19 59 og ep co na nm nb ns zas ms bs ss r q nil es hg).trans h'⟩
  ·cases h
 ·cases h
def g60m:List D→Tree (List D)
 | [.agg [.int .i64 og,.int .i64 ep,.int .i64 co,.sl e0a _na zas,.sl e0m _nm ms,.sl e0b _nb bs,.sl e0s _ns ss],.agg [.int .i64 r,.int .i64 q,.sl e1 _nil es]]=>match Sh.beq e0a accSh&&Sh.beq e0m mrkSh&&Sh.beq e0b defSh&&Sh.beq e0s sgSh&&Sh.beq e1 hopSh with
  | true=> .ite (sgsShort ss) (fun _=>fndT og ep co zas ms bs ss r q es) (fun _=> .stuck)
  | false=> .stuck
 | _=> .stuck
theorem pure60m{P:Program}(hm:P.follows .mixedOrders=true)(h0:EnvOK P Mt):PureOK P 60 g60m:=PureOK.run hm h0 fun ds rs h=>by
 unfold g60m at h
 split at h
 ·rename_i og ep co e0a na zas e0m nm ms e0b nb bs e0s ns ss r q e1 nil es
  split at h
  ·rename_i hb
   simp only [Bool.and_eq_true] at hb
   obtain ⟨⟨⟨⟨hb0,hb1⟩,hb2⟩,hb3⟩,hb4⟩:=hb
   have hb0:=Sh.beq_eq hb0
   have hb1:=Sh.beq_eq hb1
   have hb2:=Sh.beq_eq hb2
   have hb3:=Sh.beq_eq hb3
   have hb4:=Sh.beq_eq hb4
   subst hb0 hb1 hb2 hb3 hb4
   obtain ⟨hg,h'⟩:=eval_guard h
   clear h
   exact ⟨59+1,by rw [callN_succ (fn:=c60) rfl];exact (rn60 19 59 og ep co na nm nb ns zas ms bs ss r q nil es hg).trans h'⟩
  ·cases h
 ·cases h
def g110m:List D→Tree (List D)
 | [.sl e0 _nb bs,.str s]=>match Sh.beq e0 defSh with
  | true=> .ite (bookShort bs) (fun _=>findT bs s) (fun _=> .stuck)
  | false=> .stuck
 | _=> .stuck
theorem pure110m{P:Program}(hm:P.follows .mixedOrders=true)(h0:EnvOK P Mt):PureOK P 110 g110m:=PureOK.run hm h0 fun ds rs h=>by
 unfold g110m at h
 split at h
 ·rename_i e0 nb bs s
  split at h
  ·rename_i hb
   have hb0:=hb
   have hb0:=Sh.beq_eq hb0
   subst hb0
   obtain ⟨hg,h'⟩:=eval_guard h
   clear h
   exact ⟨59+1,by rw [callN_succ (fn:=c110) rfl];exact (rn110 19 59 nb bs s hg).trans h'⟩
  ·cases h
 ·cases h
def g21m:List D→Tree (List D)
 | [.sl e0 _na a,.sl e1 _nb b]=>match Sh.beq e0 moveSh&&Sh.beq e1 moveSh with
  | true=> .ite (hopsIn 3 a&&(hopsIn 7 a&&decide (a.length≤1000000))) (fun _=> .ret [.bool (movesEq a b)]) (fun _=> .stuck)
  | false=> .stuck
 | _=> .stuck
theorem pure21m{P:Program}(hm:P.follows .mixedOrders=true)(h0:EnvOK P Mt):PureOK P 21 g21m:=PureOK.run hm h0 fun ds rs h=>by
 unfold g21m at h
 split at h
 ·rename_i e0 na a e1 nb b
  split at h
  ·rename_i hb
   simp only [Bool.and_eq_true] at hb
   obtain ⟨hb0,hb1⟩:=hb
   have hb0:=Sh.beq_eq hb0
   have hb1:=Sh.beq_eq hb1
   subst hb0 hb1
   obtain ⟨hg,h'⟩:=eval_guard h
   clear h
   simp only [Bool.and_eq_true,decide_eq_true_eq] at hg
   cases h'
   exact ⟨(a.length+40)+1,by rw [callN_succ (fn:=c21) rfl];exact rn21 a.length (a.length+40) na nb a b hg.2.2 (hops_in hg.1) (hops_in hg.2.1) (by omega)⟩
  ·cases h
 ·cases h
def g18m:List D→Tree (List D)
 | [.agg [.int .i64 _og,.int .i64 _ep,.int .i64 _co,.sl e0a _na zas,.sl e0m _nm ms,.sl e0b _nb bs,.sl e0s _ns ss]]=>match Sh.beq e0a accSh&&Sh.beq e0m mrkSh&&Sh.beq e0b defSh&&Sh.beq e0s sgSh with
  | true=> .ret [.bool (fewSt zas ms bs ss)]
  | false=> .stuck
 | _=> .stuck
theorem pure18m{P:Program}(hm:P.follows .mixedOrders=true)(h0:EnvOK P Mt):PureOK P 18 g18m:=PureOK.run hm h0 fun ds rs h=>by
 unfold g18m at h
 split at h
 ·rename_i og ep co e0a na zas e0m nm ms e0b nb bs e0s ns ss
  split at h
  ·rename_i hb
   simp only [Bool.and_eq_true] at hb
   obtain ⟨⟨⟨hb0,hb1⟩,hb2⟩,hb3⟩:=hb
   have hb0:=Sh.beq_eq hb0
   have hb1:=Sh.beq_eq hb1
   have hb2:=Sh.beq_eq hb2
   have hb3:=Sh.beq_eq hb3
   subst hb0 hb1 hb2 hb3
   cases h
   exact ⟨359+1,by rw [callN_succ (fn:=c18) rfl];exact rn18 319 359 og ep co na nm nb ns zas ms bs ss (by omega)⟩
  ·cases h
 ·cases h
def Mu:Env:=((((Mt.pureAt 54 false g54m).pureAt 60 false g60m).pureAt 110 false g110m).pureAt 21 true g21m).pureAt 18 true g18m
theorem okMu{P:Program}(hm:P.follows .mixedOrders=true)(h:EnvOK P Mt):EnvOK P Mu:=((((h.pureAt (pure54m hm h)).pureAt (pure60m hm h)).pureAt (pure110m hm h)).pureAt (pure21m hm h)).pureAt (pure18m hm h)
theorem x56(m n:Nat)(rt nn st wy:Int)(n1 n2 n3 fc:Bool)(hops steps parts:List D)(nm:List UInt8)(k r q w:Int)(nil:Bool)(es:List D)(df:List UInt8):Tree.out (enterM Mu (callN Mu (m+40)) n c56 [.d (sagaD rt nn st wy n1 n2 n3 fc hops steps parts nm),.d (noteD k r q nil es df w)] [])=bif decide (parts.length≤1000000) then bif k==3 then bif st==2 then bif !decide (0≤idxOf isGone parts) then bif shortL n1 hops then bif shortL n1 hops then some [D.agg [D.sl moveSh false [D.agg [D.int .i64 9,D.int .i64 rt,D.int .i64 nn,D.sl hopSh n1 hops,D.int .i64 0,D.int .i64 0,D.str [],D.sl stepSh true []]],D.sl noteSh false [D.agg [D.int .i64 7,D.int .i64 rt,D.int .i64 nn,D.sl hopSh n1 hops,D.str [],D.int .i64 0]]]] else none else none else bif k==4 then bif st==1 then bif shortL n1 hops then some [D.agg [D.sl moveSh false [D.agg [D.int .i64 10,D.int .i64 rt,D.int .i64 nn,D.sl hopSh n1 hops,D.int .i64 0,D.int .i64 7,D.str [],D.sl stepSh true []]],D.sl noteSh true []]] else none else bif st==2 then bif shortL n1 hops then some [D.agg [D.sl moveSh false [D.agg [D.int .i64 10,D.int .i64 rt,D.int .i64 nn,D.sl hopSh n1 hops,D.int .i64 0,D.int .i64 7,D.str [],D.sl stepSh true []]],D.sl noteSh true []]] else none else bif (!n1||List.isEmpty hops)&&(decide (hops.length≤1000000)&&(decide (steps.length≤1000000)&&decide (parts.length≤1000000))) then bif tellOk rt nn st wy fc hops steps parts nm then some [D.agg [D.sl moveSh true [],D.sl noteSh false [D.agg [D.int .i64 (tellK st),D.int .i64 rt,D.int .i64 nn,D.sl hopSh n1 hops,D.str [],D.int .i64 (tellW st wy)]]]] else some [D.agg [D.sl moveSh true [],D.sl noteSh true []]] else none else bif (!n1||List.isEmpty hops)&&(decide (hops.length≤1000000)&&(decide (steps.length≤1000000)&&decide (parts.length≤1000000))) then bif tellOk rt nn st wy fc hops steps parts nm then some [D.agg [D.sl moveSh true [],D.sl noteSh false [D.agg [D.int .i64 (tellK st),D.int .i64 rt,D.int .i64 nn,D.sl hopSh n1 hops,D.str [],D.int .i64 (tellW st wy)]]]] else some [D.agg [D.sl moveSh true [],D.sl noteSh true []]] else none else bif k==4 then bif st==1 then bif shortL n1 hops then some [D.agg [D.sl moveSh false [D.agg [D.int .i64 10,D.int .i64 rt,D.int .i64 nn,D.sl hopSh n1 hops,D.int .i64 0,D.int .i64 7,D.str [],D.sl stepSh true []]],D.sl noteSh true []]] else none else bif st==2 then bif shortL n1 hops then some [D.agg [D.sl moveSh false [D.agg [D.int .i64 10,D.int .i64 rt,D.int .i64 nn,D.sl hopSh n1 hops,D.int .i64 0,D.int .i64 7,D.str [],D.sl stepSh true []]],D.sl noteSh true []]] else none else bif (!n1||List.isEmpty hops)&&(decide (hops.length≤1000000)&&(decide (steps.length≤1000000)&&decide (parts.length≤1000000))) then bif tellOk rt nn st wy fc hops steps parts nm then some [D.agg [D.sl moveSh true [],D.sl noteSh false [D.agg [D.int .i64 (tellK st),D.int .i64 rt,D.int .i64 nn,D.sl hopSh n1 hops,D.str [],D.int .i64 (tellW st wy)]]]] else some [D.agg [D.sl moveSh true [],D.sl noteSh true []]] else none else bif (!n1||List.isEmpty hops)&&(decide (hops.length≤1000000)&&(decide (steps.length≤1000000)&&decide (parts.length≤1000000))) then bif tellOk rt nn st wy fc hops steps parts nm then some [D.agg [D.sl moveSh true [],D.sl noteSh false [D.agg [D.int .i64 (tellK st),D.int .i64 rt,D.int .i64 nn,D.sl hopSh n1 hops,D.str [],D.int .i64 (tellW st wy)]]]] else some [D.agg [D.sl moveSh true [],D.sl noteSh true []]] else none else bif k==4 then bif st==1 then bif shortL n1 hops then some [D.agg [D.sl moveSh false [D.agg [D.int .i64 10,D.int .i64 rt,D.int .i64 nn,D.sl hopSh n1 hops,D.int .i64 0,D.int .i64 7,D.str [],D.sl stepSh true []]],D.sl noteSh true []]] else none else bif st==2 then bif shortL n1 hops then some [D.agg [D.sl moveSh false [D.agg [D.int .i64 10,D.int .i64 rt,D.int .i64 nn,D.sl hopSh n1 hops,D.int .i64 0,D.int .i64 7,D.str [],D.sl stepSh true []]],D.sl noteSh true []]] else none else bif (!n1||List.isEmpty hops)&&(decide (hops.length≤1000000)&&(decide (steps.length≤1000000)&&decide (parts.length≤1000000))) then bif tellOk rt nn st wy fc hops steps parts nm then some [D.agg [D.sl moveSh true [],D.sl noteSh false [D.agg [D.int .i64 (tellK st),D.int .i64 rt,D.int .i64 nn,D.sl hopSh n1 hops,D.str [],D.int .i64 (tellW st wy)]]]] else some [D.agg [D.sl moveSh true [],D.sl noteSh true []]] else none else bif (!n1||List.isEmpty hops)&&(decide (hops.length≤1000000)&&(decide (steps.length≤1000000)&&decide (parts.length≤1000000))) then bif tellOk rt nn st wy fc hops steps parts nm then some [D.agg [D.sl moveSh true [],D.sl noteSh false [D.agg [D.int .i64 (tellK st),D.int .i64 rt,D.int .i64 nn,D.sl hopSh n1 hops,D.str [],D.int .i64 (tellW st wy)]]]] else some [D.agg [D.sl moveSh true [],D.sl noteSh true []]] else none else none:=by kernel_rfl
theorem x55(m n:Nat)(og ep co:Int)(na nm' nb ns:Bool)(zas ms bs ss:List D)(k r q w:Int)(nil:Bool)(es:List D)(df:List UInt8):Tree.out (enterM Mu (callN Mu (m+40)) n c55 [.d (stD og ep co na nm' nb ns zas ms bs ss),.d (noteD k r q nil es df w)] [])=bif k==1 then bif bookShort bs then bif bookOk bs&&decide (0≤nameIdx df bs) then bif decide ((ss.length:Int)<24) then bif shortL nil es then some [D.agg [D.sl moveSh false [D.agg [D.int .i64 1,D.int .i64 r,D.int .i64 q,D.sl hopSh nil es,D.int .i64 0,D.int .i64 0,D.str (fs 0 (List.getD bs (Int.toNat (nameIdx df bs)) D.nilp)),D.sl stepSh (fn 1 (List.getD bs (Int.toNat (nameIdx df bs)) D.nilp)) (fl 1 (List.getD bs (Int.toNat (nameIdx df bs)) D.nilp))]],D.sl noteSh true []]] else none else bif !decide ((ss.length:Int)<24) then bif shortL nil es then some [D.agg [D.sl moveSh true [],D.sl noteSh false [D.agg [D.int .i64 6,D.int .i64 r,D.int .i64 q,D.sl hopSh nil es,D.str [],D.int .i64 9]]]] else none else bif shortL nil es then bif shortL nil es then some [D.agg [D.sl moveSh false [D.agg [D.int .i64 2,D.int .i64 r,D.int .i64 q,D.sl hopSh nil es,D.int .i64 0,D.int .i64 8,D.str [],D.sl stepSh true []]],D.sl noteSh false [D.agg [D.int .i64 6,D.int .i64 r,D.int .i64 q,D.sl hopSh nil es,D.str [],D.int .i64 8]]]] else none else none else bif !decide ((ss.length:Int)<24) then bif shortL nil es then some [D.agg [D.sl moveSh true [],D.sl noteSh false [D.agg [D.int .i64 6,D.int .i64 r,D.int .i64 q,D.sl hopSh nil es,D.str [],D.int .i64 9]]]] else none else bif shortL nil es then bif shortL nil es then some [D.agg [D.sl moveSh false [D.agg [D.int .i64 2,D.int .i64 r,D.int .i64 q,D.sl hopSh nil es,D.int .i64 0,D.int .i64 8,D.str [],D.sl stepSh true []]],D.sl noteSh false [D.agg [D.int .i64 6,D.int .i64 r,D.int .i64 q,D.sl hopSh nil es,D.str [],D.int .i64 8]]]] else none else none else none else bif k==4 then bif !decide ((ss.length:Int)<24) then bif shortL nil es then some [D.agg [D.sl moveSh true [],D.sl noteSh false [D.agg [D.int .i64 6,D.int .i64 r,D.int .i64 q,D.sl hopSh nil es,D.str [],D.int .i64 9]]]] else none else bif shortL nil es then bif shortL nil es then some [D.agg [D.sl moveSh false [D.agg [D.int .i64 2,D.int .i64 r,D.int .i64 q,D.sl hopSh nil es,D.int .i64 0,D.int .i64 7,D.str [],D.sl stepSh true []]],D.sl noteSh false [D.agg [D.int .i64 6,D.int .i64 r,D.int .i64 q,D.sl hopSh nil es,D.str [],D.int .i64 7]]]] else none else none else some [D.agg [D.sl moveSh true [],D.sl noteSh true []]]:=by kernel_rfl
structure An where
 b1:Bool
 ms:List D
 b2:Bool
 ns:List D
abbrev mvD(kd r q:Int)(nil:Bool)(es:List D)(why:Int):D:=moveD kd r q 0 why nil true es [] []
abbrev ntD(kd r q:Int)(nil:Bool)(es:List D)(why:Int):D:=noteD kd r q nil es [] why
def An.d(a:An):D:= .agg [.sl moveSh a.b1 a.ms,.sl noteSh a.b2 a.ns]
def knA(k rt nn st wy:Int)(n1 fc:Bool)(hops steps parts:List D)(nm:List UInt8)(r q:Int)(nil:Bool)(es:List D):An:=
 bif k==3&&(st==2&& !decide (0≤idxOf isGone parts)) then ⟨false,[mvD 9 r q nil es 0],false,[ntD 7 r q nil es 0]⟩ else
 bif k==4&&(st==1||st==2) then ⟨false,[mvD 10 r q nil es 7],true,[]⟩ else
 bif tellOk rt nn st wy fc hops steps parts nm then ⟨true,[],false,[ntD (tellK st) rt nn n1 hops (tellW st wy)]⟩ else ⟨true,[],true,[]⟩
def unA(full found:Bool)(d:D)(k r q:Int)(nil:Bool)(es:List D):An:=
 bif k==1||k==4 then bif full then ⟨true,[],false,[ntD 6 r q nil es 9]⟩ else
  bif k==1&&found then ⟨false,[moveD 1 r q 0 0 nil (fn 1 d) es (fl 1 d) (fs 0 d)],true,[]⟩ else
  ⟨false,[mvD 2 r q nil es (bif k==1 then 8 else 7)],false,[ntD 6 r q nil es (bif k==1 then 8 else 7)]⟩
 else ⟨true,[],true,[]⟩
def unB(bs ss:List D)(k r q:Int)(nil:Bool)(es:List D)(df:List UInt8):An:=unA (!decide ((ss.length:Int)<24)) (bookOk bs&&decide (0≤nameIdx df bs)) (bs.getD (nameIdx df bs).toNat .nilp) k r q nil es
def kn1(k rt nn st wy:Int)(n1 fc:Bool)(hops steps parts:List D)(nm:List UInt8):Bool:=(knA k rt nn st wy n1 fc hops steps parts nm rt nn n1 hops).b1
def kn2(k rt nn st wy:Int)(n1 fc:Bool)(hops steps parts:List D)(nm:List UInt8):List D:=(knA k rt nn st wy n1 fc hops steps parts nm rt nn n1 hops).ms
def kn3(k rt nn st wy:Int)(n1 fc:Bool)(hops steps parts:List D)(nm:List UInt8):Bool:=(knA k rt nn st wy n1 fc hops steps parts nm rt nn n1 hops).b2
def kn4(k rt nn st wy:Int)(n1 fc:Bool)(hops steps parts:List D)(nm:List UInt8):List D:=(knA k rt nn st wy n1 fc hops steps parts nm rt nn n1 hops).ns
def un1(bs ss:List D)(k r q:Int)(nil:Bool)(es:List D)(df:List UInt8):Bool:=(unB bs ss k r q nil es df).b1
def un2(bs ss:List D)(k r q:Int)(nil:Bool)(es:List D)(df:List UInt8):List D:=(unB bs ss k r q nil es df).ms
def un3(bs ss:List D)(k r q:Int)(nil:Bool)(es:List D)(df:List UInt8):Bool:=(unB bs ss k r q nil es df).b2
def un4(bs ss:List D)(k r q:Int)(nil:Bool)(es:List D)(df:List UInt8):List D:=(unB bs ss k r q nil es df).ns
theorem rn56(m n:Nat)(rt nn st wy:Int)(n1 n2 n3 fc:Bool)(hops steps parts:List D)(nm:List UInt8)(k r q w:Int)(nil:Bool)(es:List D)(df:List UInt8)(h1:shortL n1 hops=true)(h2:steps.length≤1000000)(h3:parts.length≤1000000):
  (enterM Mu (callN Mu (m+40)) n c56 [.d (sagaD rt nn st wy n1 n2 n3 fc hops steps parts nm),.d (noteD k r q nil es df w)] []).out=some [(knA k rt nn st wy n1 fc hops steps parts nm rt nn n1 hops).d]:=by
 have h0:=h1
 unfold shortL at h0
 rw [Bool.and_eq_true] at h0
 rw [x56,h1,h0.1,h0.2,decide_eq_true h2,decide_eq_true h3]
 unfold knA
 by_cases k3:k=3
 ·subst k3
  cases (st==2)
  ·cases tellOk rt nn st wy fc hops steps parts nm <;> rfl
  ·cases decide (0≤idxOf isGone parts)
   ·rfl
   ·cases tellOk rt nn st wy fc hops steps parts nm <;> rfl
 ·rw [beq_eq_false_iff_ne.2 k3]
  cases (k==4)
  ·cases tellOk rt nn st wy fc hops steps parts nm <;> rfl
  ·cases (st==1)
   ·cases (st==2)
    ·cases tellOk rt nn st wy fc hops steps parts nm <;> rfl
    ·rfl
   ·rfl
theorem rn55(m n:Nat)(og ep co:Int)(na nm' nb ns:Bool)(zas ms bs ss:List D)(k r q w:Int)(nil:Bool)(es:List D)(df:List UInt8)(h1:shortL nil es=true)(h2:bookShort bs=true):
  (enterM Mu (callN Mu (m+40)) n c55 [.d (stD og ep co na nm' nb ns zas ms bs ss),.d (noteD k r q nil es df w)] []).out=some [(unB bs ss k r q nil es df).d]:=by
 rw [x55,h1,h2]
 unfold unB unA
 by_cases k1:k=1
 ·subst k1
  cases decide ((ss.length:Int)<24)
  ·cases (bookOk bs&&decide (0≤nameIdx df bs)) <;> rfl
  ·cases (bookOk bs&&decide (0≤nameIdx df bs)) <;> rfl
 ·rw [beq_eq_false_iff_ne.2 k1]
  cases (k==4)
  ·rfl
  ·cases decide ((ss.length:Int)<24) <;> rfl
def g56m:List D→Tree (List D)
 | [.agg [.int .i64 rt,.int .i64 nn,.sl e0h n1 hops,.str nm,.sl e0s _n2 steps,.int .i64 st,.int .i64 wy,.sl e0p _n3 parts,.bool fc],.agg [.int .i64 k,.int .i64 _r,.int .i64 _q,.sl e1 _nil _es,.str _df,.int .i64 _w]]=>match Sh.beq e0h hopSh&&Sh.beq e0s stepSh&&Sh.beq e0p partSh&&Sh.beq e1 hopSh with
  | true=> .ite (shortL n1 hops&&(decide (steps.length≤1000000)&&decide (parts.length≤1000000))) (fun _=> .ret [.agg [.sl moveSh (kn1 k rt nn st wy n1 fc hops steps parts nm) (kn2 k rt nn st wy n1 fc hops steps parts nm),.sl noteSh (kn3 k rt nn st wy n1 fc hops steps parts nm) (kn4 k rt nn st wy n1 fc hops steps parts nm)]]) (fun _=> .stuck)
  | false=> .stuck
 | _=> .stuck
theorem pure56m{P:Program}(hm:P.follows .mixedOrders=true)(h0:EnvOK P Mu):PureOK P 56 g56m:=PureOK.run hm h0 fun ds rs h=>by
 unfold g56m at h
 split at h
 ·rename_i rt nn e0h n1 hops nm e0s n2 steps st wy e0p n3 parts fc k r q e1 nil es df w
  split at h
  ·rename_i hb
   simp only [Bool.and_eq_true] at hb
   obtain ⟨⟨⟨hb0,hb1⟩,hb2⟩,hb3⟩:=hb
   have hb0:=Sh.beq_eq hb0
   have hb1:=Sh.beq_eq hb1
   have hb2:=Sh.beq_eq hb2
   have hb3:=Sh.beq_eq hb3
   subst hb0 hb1 hb2 hb3
   obtain ⟨hg,h'⟩:=eval_guard h
   clear h
   simp only [Bool.and_eq_true,decide_eq_true_eq] at hg
   cases h'
   exact ⟨59+1,by rw [callN_succ (fn:=c56) rfl];exact rn56 19 59 rt nn st wy n1 n2 n3 fc hops steps parts nm k r q w nil es df hg.1 hg.2.1 hg.2.2⟩
  ·cases h
 ·cases h
def g55m:List D→Tree (List D)
 | [.agg [.int .i64 _og,.int .i64 _ep,.int .i64 _co,.sl e0a _na _as,.sl e0m _nm _ms,.sl e0b _nb bs,.sl e0s _ns ss],.agg [.int .i64 k,.int .i64 r,.int .i64 q,.sl e1 nil es,.str df,.int .i64 _w]]=>match Sh.beq e0a accSh&&Sh.beq e0m mrkSh&&Sh.beq e0b defSh&&Sh.beq e0s sgSh&&Sh.beq e1 hopSh with
  | true=> .ite (shortL nil es&&bookShort bs) (fun _=> .ret [.agg [.sl moveSh (un1 bs ss k r q nil es df) (un2 bs ss k r q nil es df),.sl noteSh (un3 bs ss k r q nil es df) (un4 bs ss k r q nil es df)]]) (fun _=> .stuck)
  | false=> .stuck
 | _=> .stuck
theorem pure55m{P:Program}(hm:P.follows .mixedOrders=true)(h0:EnvOK P Mu):PureOK P 55 g55m:=PureOK.run hm h0 fun ds rs h=>by
 unfold g55m at h
 split at h
 ·rename_i og ep co e0a na zas e0m nm ms e0b nb bs e0s ns ss k r q e1 nil es df w
  split at h
  ·rename_i hb
   simp only [Bool.and_eq_true] at hb
   obtain ⟨⟨⟨⟨hb0,hb1⟩,hb2⟩,hb3⟩,hb4⟩:=hb
   have hb0:=Sh.beq_eq hb0
   have hb1:=Sh.beq_eq hb1
   have hb2:=Sh.beq_eq hb2
   have hb3:=Sh.beq_eq hb3
   have hb4:=Sh.beq_eq hb4
   subst hb0 hb1 hb2 hb3 hb4
   obtain ⟨hg,h'⟩:=eval_guard h
   clear h
   cases h'
   exact ⟨59+1,by rw [callN_succ (fn:=c55) rfl];exact rn55 19 59 og ep co na nm nb ns zas ms bs ss k r q w nil es df (Bool.and_eq_true _ _ |>.mp hg).1 (Bool.and_eq_true _ _ |>.mp hg).2⟩
  ·cases h
 ·cases h
def Mw:Env:=(Mu.pureAt 56 false g56m).pureAt 55 false g55m
theorem okMw{P:Program}(hm:P.follows .mixedOrders=true)(h:EnvOK P Mu):EnvOK P Mw:=(h.pureAt (pure56m hm h)).pureAt (pure55m hm h)
def xI(r q:Int)(es ss:List D):D:=ss.getD (idxS r q es ss).toNat .nilp
theorem x19(m n:Nat)(og ep co:Int)(na nm' nb ns:Bool)(zas ms bs ss:List D)(k r q w:Int)(nil:Bool)(es:List D)(df:List UInt8):Tree.out (enterM Mw (callN Mw (m+40)) n c19 [.d (stD og ep co na nm' nb ns zas ms bs ss),.d (noteD k r q nil es df w)] [])=bif sgsIn ss then bif (bif mayR og ep co zas ms bs ss then (0:Int) else (230:Int)) != 0 then some [D.agg [D.sl moveSh true [],D.sl noteSh true []],D.int .i64 (bif mayR og ep co zas ms bs ss then (0:Int) else (230:Int))] else bif !nil||List.isEmpty es then bif (bif noteOk k r q es df w then (0:Int) else (130:Int)) != 0 then some [D.agg [D.sl moveSh true [],D.sl noteSh true []],D.int .i64 130] else bif decide (4<k) then some [D.agg [D.sl moveSh true [],D.sl noteSh true []],D.int .i64 130] else bif orgOfId r q es != og then some [D.agg [D.sl moveSh true [],D.sl noteSh true []],D.int .i64 130] else bif sgsShort ss then bif gotS og ep co zas ms bs ss r q es then bif shortL (fn 2 (xI r q es ss)) (fl 2 (xI r q es ss))&&(decide (List.length (fl 4 (xI r q es ss))≤1000000)&&decide (List.length (fl 7 (xI r q es ss))≤1000000)) then some [D.agg [D.sl moveSh (kn1 k (fi 0 (xI r q es ss)) (fi 1 (xI r q es ss)) (fi 5 (xI r q es ss)) (fi 6 (xI r q es ss)) (fn 2 (xI r q es ss)) (fb 8 (xI r q es ss)) (fl 2 (xI r q es ss)) (fl 4 (xI r q es ss)) (fl 7 (xI r q es ss)) (fs 3 (xI r q es ss))) (kn2 k (fi 0 (xI r q es ss)) (fi 1 (xI r q es ss)) (fi 5 (xI r q es ss)) (fi 6 (xI r q es ss)) (fn 2 (xI r q es ss)) (fb 8 (xI r q es ss)) (fl 2 (xI r q es ss)) (fl 4 (xI r q es ss)) (fl 7 (xI r q es ss)) (fs 3 (xI r q es ss))),D.sl noteSh (kn3 k (fi 0 (xI r q es ss)) (fi 1 (xI r q es ss)) (fi 5 (xI r q es ss)) (fi 6 (xI r q es ss)) (fn 2 (xI r q es ss)) (fb 8 (xI r q es ss)) (fl 2 (xI r q es ss)) (fl 4 (xI r q es ss)) (fl 7 (xI r q es ss)) (fs 3 (xI r q es ss))) (kn4 k (fi 0 (xI r q es ss)) (fi 1 (xI r q es ss)) (fi 5 (xI r q es ss)) (fi 6 (xI r q es ss)) (fn 2 (xI r q es ss)) (fb 8 (xI r q es ss)) (fl 2 (xI r q es ss)) (fl 4 (xI r q es ss)) (fl 7 (xI r q es ss)) (fs 3 (xI r q es ss)))],D.int .i64 0] else none else bif shortL nil es&&bookShort bs then some [D.agg [D.sl moveSh (un1 bs ss k r q nil es df) (un2 bs ss k r q nil es df),D.sl noteSh (un3 bs ss k r q nil es df) (un4 bs ss k r q nil es df)],D.int .i64 0] else none else none else none else none:=by kernel_rfl
theorem x20(m n:Nat)(og ep co:Int)(na nm' nb ns:Bool)(zas ms bs ss:List D)(k r q w:Int)(nil:Bool)(es:List D)(df:List UInt8):Tree.out (enterM Mw (callN Mw (m+40)) n c20 [.d (stD og ep co na nm' nb ns zas ms bs ss),.d (noteD k r q nil es df w)] [])=bif sgsIn ss then bif (bif mayR og ep co zas ms bs ss then (0:Int) else (230:Int)) != 0 then some [D.agg [D.sl moveSh true [],D.sl noteSh true []],D.int .i64 (bif mayR og ep co zas ms bs ss then (0:Int) else (230:Int))] else bif (bif noteOk k r q es df w then (0:Int) else (130:Int)) != 0 then some [D.agg [D.sl moveSh true [],D.sl noteSh true []],D.int .i64 130] else bif decide (4<k) then some [D.agg [D.sl moveSh true [],D.sl noteSh true []],D.int .i64 130] else bif orgOfId r q es != og then some [D.agg [D.sl moveSh true [],D.sl noteSh true []],D.int .i64 130] else bif sgsShort ss then bif gotS og ep co zas ms bs ss r q es then bif k==3 then bif fi 5 (xI r q es ss)==2 then bif decide (List.length (fl 7 (xI r q es ss))≤1000000) then bif !decide (0≤idxOf isGone (fl 7 (xI r q es ss))) then some [D.agg [D.sl moveSh false [D.agg [D.int .i64 9,D.int .i64 r,D.int .i64 q,D.sl hopSh nil es,D.int .i64 0,D.int .i64 0,D.str [],D.sl stepSh true []]],D.sl noteSh false [D.agg [D.int .i64 7,D.int .i64 r,D.int .i64 q,D.sl hopSh nil es,D.str [],D.int .i64 0]]],D.int .i64 0] else bif k==4 then bif fi 5 (xI r q es ss)==1 then some [D.agg [D.sl moveSh false [D.agg [D.int .i64 10,D.int .i64 r,D.int .i64 q,D.sl hopSh nil es,D.int .i64 0,D.int .i64 7,D.str [],D.sl stepSh true []]],D.sl noteSh true []],D.int .i64 0] else bif fi 5 (xI r q es ss)==2 then some [D.agg [D.sl moveSh false [D.agg [D.int .i64 10,D.int .i64 r,D.int .i64 q,D.sl hopSh nil es,D.int .i64 0,D.int .i64 7,D.str [],D.sl stepSh true []]],D.sl noteSh true []],D.int .i64 0] else bif tellOk (fi 0 (xI r q es ss)) (fi 1 (xI r q es ss)) (fi 5 (xI r q es ss)) (fi 6 (xI r q es ss)) (fb 8 (xI r q es ss)) (fl 2 (xI r q es ss)) (fl 4 (xI r q es ss)) (fl 7 (xI r q es ss)) (fs 3 (xI r q es ss)) then some [D.agg [D.sl moveSh true [],D.sl noteSh false [D.agg [D.int .i64 (tellK (fi 5 (xI r q es ss))),D.int .i64 (fi 0 (xI r q es ss)),D.int .i64 (fi 1 (xI r q es ss)),D.sl hopSh (fn 2 (xI r q es ss)) (fl 2 (xI r q es ss)),D.str [],D.int .i64 (tellW (fi 5 (xI r q es ss)) (fi 6 (xI r q es ss)))]]],D.int .i64 0] else some [D.agg [D.sl moveSh true [],D.sl noteSh true []],D.int .i64 0] else bif tellOk (fi 0 (xI r q es ss)) (fi 1 (xI r q es ss)) (fi 5 (xI r q es ss)) (fi 6 (xI r q es ss)) (fb 8 (xI r q es ss)) (fl 2 (xI r q es ss)) (fl 4 (xI r q es ss)) (fl 7 (xI r q es ss)) (fs 3 (xI r q es ss)) then some [D.agg [D.sl moveSh true [],D.sl noteSh false [D.agg [D.int .i64 (tellK (fi 5 (xI r q es ss))),D.int .i64 (fi 0 (xI r q es ss)),D.int .i64 (fi 1 (xI r q es ss)),D.sl hopSh (fn 2 (xI r q es ss)) (fl 2 (xI r q es ss)),D.str [],D.int .i64 (tellW (fi 5 (xI r q es ss)) (fi 6 (xI r q es ss)))]]],D.int .i64 0] else some [D.agg [D.sl moveSh true [],D.sl noteSh true []],D.int .i64 0] else none else bif k==4 then bif fi 5 (xI r q es ss)==1 then some [D.agg [D.sl moveSh false [D.agg [D.int .i64 10,D.int .i64 r,D.int .i64 q,D.sl hopSh nil es,D.int .i64 0,D.int .i64 7,D.str [],D.sl stepSh true []]],D.sl noteSh true []],D.int .i64 0] else bif fi 5 (xI r q es ss)==2 then some [D.agg [D.sl moveSh false [D.agg [D.int .i64 10,D.int .i64 r,D.int .i64 q,D.sl hopSh nil es,D.int .i64 0,D.int .i64 7,D.str [],D.sl stepSh true []]],D.sl noteSh true []],D.int .i64 0] else bif tellOk (fi 0 (xI r q es ss)) (fi 1 (xI r q es ss)) (fi 5 (xI r q es ss)) (fi 6 (xI r q es ss)) (fb 8 (xI r q es ss)) (fl 2 (xI r q es ss)) (fl 4 (xI r q es ss)) (fl 7 (xI r q es ss)) (fs 3 (xI r q es ss)) then some [D.agg [D.sl moveSh true [],D.sl noteSh false [D.agg [D.int .i64 (tellK (fi 5 (xI r q es ss))),D.int .i64 (fi 0 (xI r q es ss)),D.int .i64 (fi 1 (xI r q es ss)),D.sl hopSh (fn 2 (xI r q es ss)) (fl 2 (xI r q es ss)),D.str [],D.int .i64 (tellW (fi 5 (xI r q es ss)) (fi 6 (xI r q es ss)))]]],D.int .i64 0] else some [D.agg [D.sl moveSh true [],D.sl noteSh true []],D.int .i64 0] else bif tellOk (fi 0 (xI r q es ss)) (fi 1 (xI r q es ss)) (fi 5 (xI r q es ss)) (fi 6 (xI r q es ss)) (fb 8 (xI r q es ss)) (fl 2 (xI r q es ss)) (fl 4 (xI r q es ss)) (fl 7 (xI r q es ss)) (fs 3 (xI r q es ss)) then some [D.agg [D.sl moveSh true [],D.sl noteSh false [D.agg [D.int .i64 (tellK (fi 5 (xI r q es ss))),D.int .i64 (fi 0 (xI r q es ss)),D.int .i64 (fi 1 (xI r q es ss)),D.sl hopSh (fn 2 (xI r q es ss)) (fl 2 (xI r q es ss)),D.str [],D.int .i64 (tellW (fi 5 (xI r q es ss)) (fi 6 (xI r q es ss)))]]],D.int .i64 0] else some [D.agg [D.sl moveSh true [],D.sl noteSh true []],D.int .i64 0] else bif k==4 then bif fi 5 (xI r q es ss)==1 then some [D.agg [D.sl moveSh false [D.agg [D.int .i64 10,D.int .i64 r,D.int .i64 q,D.sl hopSh nil es,D.int .i64 0,D.int .i64 7,D.str [],D.sl stepSh true []]],D.sl noteSh true []],D.int .i64 0] else bif fi 5 (xI r q es ss)==2 then some [D.agg [D.sl moveSh false [D.agg [D.int .i64 10,D.int .i64 r,D.int .i64 q,D.sl hopSh nil es,D.int .i64 0,D.int .i64 7,D.str [],D.sl stepSh true []]],D.sl noteSh true []],D.int .i64 0] else bif tellOk (fi 0 (xI r q es ss)) (fi 1 (xI r q es ss)) (fi 5 (xI r q es ss)) (fi 6 (xI r q es ss)) (fb 8 (xI r q es ss)) (fl 2 (xI r q es ss)) (fl 4 (xI r q es ss)) (fl 7 (xI r q es ss)) (fs 3 (xI r q es ss)) then some [D.agg [D.sl moveSh true [],D.sl noteSh false [D.agg [D.int .i64 (tellK (fi 5 (xI r q es ss))),D.int .i64 (fi 0 (xI r q es ss)),D.int .i64 (fi 1 (xI r q es ss)),D.sl hopSh (fn 2 (xI r q es ss)) (fl 2 (xI r q es ss)),D.str [],D.int .i64 (tellW (fi 5 (xI r q es ss)) (fi 6 (xI r q es ss)))]]],D.int .i64 0] else some [D.agg [D.sl moveSh true [],D.sl noteSh true []],D.int .i64 0] else bif tellOk (fi 0 (xI r q es ss)) (fi 1 (xI r q es ss)) (fi 5 (xI r q es ss)) (fi 6 (xI r q es ss)) (fb 8 (xI r q es ss)) (fl 2 (xI r q es ss)) (fl 4 (xI r q es ss)) (fl 7 (xI r q es ss)) (fs 3 (xI r q es ss)) then some [D.agg [D.sl moveSh true [],D.sl noteSh false [D.agg [D.int .i64 (tellK (fi 5 (xI r q es ss))),D.int .i64 (fi 0 (xI r q es ss)),D.int .i64 (fi 1 (xI r q es ss)),D.sl hopSh (fn 2 (xI r q es ss)) (fl 2 (xI r q es ss)),D.str [],D.int .i64 (tellW (fi 5 (xI r q es ss)) (fi 6 (xI r q es ss)))]]],D.int .i64 0] else some [D.agg [D.sl moveSh true [],D.sl noteSh true []],D.int .i64 0] else bif k != 1 then bif k != 4 then some [D.agg [D.sl moveSh true [],D.sl noteSh true []],D.int .i64 0] else bif decide (24≤(ss.length:Int)) then some [D.agg [D.sl moveSh true [],D.sl noteSh false [D.agg [D.int .i64 6,D.int .i64 r,D.int .i64 q,D.sl hopSh nil es,D.str [],D.int .i64 9]]],D.int .i64 0] else bif k==1 then bif decide (bs.length≤1000000) then bif bookOk bs&&decide (0≤nameIdx df bs) then some [D.agg [D.sl moveSh false [D.agg [D.int .i64 1,D.int .i64 r,D.int .i64 q,D.sl hopSh nil es,D.int .i64 0,D.int .i64 0,D.str (fs 0 (List.getD bs (Int.toNat (nameIdx df bs)) D.nilp)),D.sl stepSh (fn 1 (List.getD bs (Int.toNat (nameIdx df bs)) D.nilp)) (fl 1 (List.getD bs (Int.toNat (nameIdx df bs)) D.nilp))]],D.sl noteSh true []],D.int .i64 0] else some [D.agg [D.sl moveSh false [D.agg [D.int .i64 2,D.int .i64 r,D.int .i64 q,D.sl hopSh nil es,D.int .i64 0,D.int .i64 8,D.str [],D.sl stepSh true []]],D.sl noteSh false [D.agg [D.int .i64 6,D.int .i64 r,D.int .i64 q,D.sl hopSh nil es,D.str [],D.int .i64 8]]],D.int .i64 0] else none else some [D.agg [D.sl moveSh false [D.agg [D.int .i64 2,D.int .i64 r,D.int .i64 q,D.sl hopSh nil es,D.int .i64 0,D.int .i64 7,D.str [],D.sl stepSh true []]],D.sl noteSh false [D.agg [D.int .i64 6,D.int .i64 r,D.int .i64 q,D.sl hopSh nil es,D.str [],D.int .i64 7]]],D.int .i64 0] else bif decide (24≤(ss.length:Int)) then some [D.agg [D.sl moveSh true [],D.sl noteSh false [D.agg [D.int .i64 6,D.int .i64 r,D.int .i64 q,D.sl hopSh nil es,D.str [],D.int .i64 9]]],D.int .i64 0] else bif k==1 then bif decide (bs.length≤1000000) then bif bookOk bs&&decide (0≤nameIdx df bs) then some [D.agg [D.sl moveSh false [D.agg [D.int .i64 1,D.int .i64 r,D.int .i64 q,D.sl hopSh nil es,D.int .i64 0,D.int .i64 0,D.str (fs 0 (List.getD bs (Int.toNat (nameIdx df bs)) D.nilp)),D.sl stepSh (fn 1 (List.getD bs (Int.toNat (nameIdx df bs)) D.nilp)) (fl 1 (List.getD bs (Int.toNat (nameIdx df bs)) D.nilp))]],D.sl noteSh true []],D.int .i64 0] else some [D.agg [D.sl moveSh false [D.agg [D.int .i64 2,D.int .i64 r,D.int .i64 q,D.sl hopSh nil es,D.int .i64 0,D.int .i64 8,D.str [],D.sl stepSh true []]],D.sl noteSh false [D.agg [D.int .i64 6,D.int .i64 r,D.int .i64 q,D.sl hopSh nil es,D.str [],D.int .i64 8]]],D.int .i64 0] else none else some [D.agg [D.sl moveSh false [D.agg [D.int .i64 2,D.int .i64 r,D.int .i64 q,D.sl hopSh nil es,D.int .i64 0,D.int .i64 7,D.str [],D.sl stepSh true []]],D.sl noteSh false [D.agg [D.int .i64 6,D.int .i64 r,D.int .i64 q,D.sl hopSh nil es,D.str [],D.int .i64 7]]],D.int .i64 0] else none else none:=by kernel_rfl
def goodN(og ep co:Int)(zas ms bs ss:List D)(k r q w:Int)(es:List D)(df:List UInt8):Bool:=mayR og ep co zas ms bs ss&&(noteOk k r q es df w&&(!decide (4<k)&& !(orgOfId r q es != og)))
def tkE(og ep co:Int)(zas ms bs ss:List D)(k r q w:Int)(es:List D)(df:List UInt8):Int:=bif mayR og ep co zas ms bs ss then bif noteOk k r q es df w&&(!decide (4<k)&& !(orgOfId r q es != og)) then 0 else 130 else 230
def knX(k:Int)(x:D)(r q:Int)(nil:Bool)(es:List D):An:=knA k (fi 0 x) (fi 1 x) (fi 5 x) (fi 6 x) (fn 2 x) (fb 8 x) (fl 2 x) (fl 4 x) (fl 7 x) (fs 3 x) r q nil es
def ansA(own:Bool)(og ep co:Int)(zas ms bs ss:List D)(k r q w:Int)(nil:Bool)(es:List D)(df:List UInt8):An:=
 bif goodN og ep co zas ms bs ss k r q w es df then bif decide (0≤idxS r q es ss) then bif own then knX k (xI r q es ss) (fi 0 (xI r q es ss)) (fi 1 (xI r q es ss)) (fn 2 (xI r q es ss)) (fl 2 (xI r q es ss)) else knX k (xI r q es ss) r q nil es
  else unB bs ss k r q nil es df
 else ⟨true,[],true,[]⟩
def an1(own:Bool)(og ep co:Int)(zas ms bs ss:List D)(k r q w:Int)(nil:Bool)(es:List D)(df:List UInt8):Bool:=(ansA own og ep co zas ms bs ss k r q w nil es df).b1
def an2(own:Bool)(og ep co:Int)(zas ms bs ss:List D)(k r q w:Int)(nil:Bool)(es:List D)(df:List UInt8):List D:=(ansA own og ep co zas ms bs ss k r q w nil es df).ms
def an3(own:Bool)(og ep co:Int)(zas ms bs ss:List D)(k r q w:Int)(nil:Bool)(es:List D)(df:List UInt8):Bool:=(ansA own og ep co zas ms bs ss k r q w nil es df).b2
def an4(own:Bool)(og ep co:Int)(zas ms bs ss:List D)(k r q w:Int)(nil:Bool)(es:List D)(df:List UInt8):List D:=(ansA own og ep co zas ms bs ss k r q w nil es df).ns
theorem short_at{r q:Int}{es ss:List D}(h:sgsShort ss=true)(h0:0≤idxS r q es ss):shortL (fn 2 (xI r q es ss)) (fl 2 (xI r q es ss))=true∧(fl 4 (xI r q es ss)).length≤1000000∧(fl 7 (xI r q es ss)).length≤1000000:=by
 have:=(short_in h).2.2 _ (idxS_at h0).1
 unfold sgShort at this
 simp only [Bool.and_eq_true] at this
 exact ⟨this.1,(shortL_iff.1 this.2.1).2,(shortL_iff.1 this.2.2).2⟩
theorem rn19(m n:Nat)(og ep co:Int)(na nm' nb ns:Bool)(zas ms bs ss:List D)(k r q w:Int)(nil:Bool)(es:List D)(df:List UInt8)(h1:sgsShort ss=true)(h2:shortL nil es=true)(h3:bookShort bs=true):
  (enterM Mw (callN Mw (m+40)) n c19 [.d (stD og ep co na nm' nb ns zas ms bs ss),.d (noteD k r q nil es df w)] []).out=some [(ansA true og ep co zas ms bs ss k r q w nil es df).d,.int .i64 (tkE og ep co zas ms bs ss k r q w es df)]:=by
 have h4:(!nil||es.isEmpty)=true:=by
  unfold shortL at h2
  rw [Bool.and_eq_true] at h2
  exact h2.1
 rw [x19,(short_in h1).1,h1,h2,h3,h4]
 unfold ansA tkE goodN
 have hgot:gotS og ep co zas ms bs ss r q es=(mayR og ep co zas ms bs ss&&decide (0≤idxS r q es ss)):=rfl
 rw [hgot]
 cases mayR og ep co zas ms bs ss
 ·rfl
 ·cases noteOk k r q es df w
  ·rfl
  ·cases decide (4<k)
   ·cases (orgOfId r q es != og)
    ·by_cases h0:0≤idxS r q es ss
     ·obtain ⟨a1,a2,a3⟩:=short_at h1 h0
      rw [decide_eq_true h0,a1,decide_eq_true a2,decide_eq_true a3]
      rfl
     ·rw [decide_eq_false h0]
      rfl
    ·rfl
   ·rfl
theorem rn20(m n:Nat)(og ep co:Int)(na nm' nb ns:Bool)(zas ms bs ss:List D)(k r q w:Int)(nil:Bool)(es:List D)(df:List UInt8)(h1:sgsShort ss=true)(h3:bookShort bs=true):
  (enterM Mw (callN Mw (m+40)) n c20 [.d (stD og ep co na nm' nb ns zas ms bs ss),.d (noteD k r q nil es df w)] []).out=some [(ansA false og ep co zas ms bs ss k r q w nil es df).d,.int .i64 (tkE og ep co zas ms bs ss k r q w es df)]:=by
 have hb:bs.length≤1000000:=by
  unfold bookShort at h3
  rw [Bool.and_eq_true,decide_eq_true_eq] at h3
  exact h3.2
 rw [x20,(short_in h1).1,h1,decide_eq_true hb]
 unfold ansA tkE goodN
 have hgot:gotS og ep co zas ms bs ss r q es=(mayR og ep co zas ms bs ss&&decide (0≤idxS r q es ss)):=rfl
 rw [hgot]
 cases mayR og ep co zas ms bs ss
 ·rfl
 ·cases noteOk k r q es df w
  ·rfl
  ·cases decide (4<k)
   ·cases (orgOfId r q es != og)
    ·by_cases h0:0≤idxS r q es ss
     ·obtain ⟨a1,a2,a3⟩:=short_at h1 h0
      rw [decide_eq_true h0,decide_eq_true a3]
      unfold knX knA
      by_cases k3:k=3
      ·subst k3
       cases (fi 5 (xI r q es ss)==2)
       ·cases tellOk (fi 0 (xI r q es ss)) (fi 1 (xI r q es ss)) (fi 5 (xI r q es ss)) (fi 6 (xI r q es ss)) (fb 8 (xI r q es ss)) (fl 2 (xI r q es ss)) (fl 4 (xI r q es ss)) (fl 7 (xI r q es ss)) (fs 3 (xI r q es ss)) <;> rfl
       ·cases decide (0≤idxOf isGone (fl 7 (xI r q es ss)))
        ·rfl
        ·cases tellOk (fi 0 (xI r q es ss)) (fi 1 (xI r q es ss)) (fi 5 (xI r q es ss)) (fi 6 (xI r q es ss)) (fb 8 (xI r q es ss)) (fl 2 (xI r q es ss)) (fl 4 (xI r q es ss)) (fl 7 (xI r q es ss)) (fs 3 (xI r q es ss)) <;> rfl
      ·rw [beq_eq_false_iff_ne.2 k3]
       cases (k==4)
       ·cases tellOk (fi 0 (xI r q es ss)) (fi 1 (xI r q es ss)) (fi 5 (xI r q es ss)) (fi 6 (xI r q es ss)) (fb 8 (xI r q es ss)) (fl 2 (xI r q es ss)) (fl 4 (xI r q es ss)) (fl 7 (xI r q es ss)) (fs 3 (xI r q es ss)) <;> rfl
       ·cases (fi 5 (xI r q es ss)==1)
        ·cases (fi 5 (xI r q es ss)==2)
         ·cases tellOk (fi 0 (xI r q es ss)) (fi 1 (xI r q es ss)) (fi 5 (xI r q es ss)) (fi 6 (xI r q es ss)) (fb 8 (xI r q es ss)) (fl 2 (xI r q es ss)) (fl 4 (xI r q es ss)) (fl 7 (xI r q es ss)) (fs 3 (xI r q es ss)) <;> rfl
         ·rfl
        ·rfl
     ·rw [decide_eq_false h0]
      unfold unB unA
      have e24:decide (24≤(ss.length:Int))= !decide ((ss.length:Int)<24):=by
       by_cases h:(ss.length:Int)<24
       ·rw [decide_eq_true h,decide_eq_false (by omega)];rfl
       ·rw [decide_eq_false h,decide_eq_true (by omega)];rfl
      rw [e24]
      by_cases k1:k=1
      ·subst k1
       cases decide ((ss.length:Int)<24)
       ·rfl
       ·cases (bookOk bs&&decide (0≤nameIdx df bs)) <;> rfl
      ·rw [bne_iff_ne.2 k1,beq_eq_false_iff_ne.2 k1]
       by_cases k4:k=4
       ·subst k4
        cases decide ((ss.length:Int)<24) <;> rfl
       ·rw [bne_iff_ne.2 k4,beq_eq_false_iff_ne.2 k4];rfl
    ·rfl
   ·rfl
def idSh:Sh:= .agg [.int .i64,.int .i64,.sl hopSh]
def xL(ss l:List D)(i:Int):D:=xI (fi 0 (l.getD i.toNat .nilp)) (fi 1 (l.getD i.toNat .nilp)) (fl 2 (l.getD i.toNat .nilp)) ss
theorem x23(m n:Nat)(og ep co:Int)(na nm' nb ns:Bool)(zas ms bs ss:List D)(nl:Bool)(l:List D):Tree.out (enterM Mw (callN Mw (m+40)) n c23 [.d (stD og ep co na nm' nb ns zas ms bs ss),.d (.sl idSh nl l)] [])=Tree.out (resume Mw (callN Mw (m+40)) n n 0 c23 { fr:=frame 38 [(2,V.ptr 192 0),(5,V.d (D.sl noteSh true [])),(12,V.d (D.sl idSh nl l)),(13,V.d (D.int .i64 (l.length:Int))),(14,V.d (D.int .i64 0))],ob:=[(192,Obj.box [V.d (D.int .i64 og),V.d (D.int .i64 ep),V.d (D.int .i64 co),V.d (D.sl accSh na zas),V.d (D.sl mrkSh nm' ms),V.d (D.sl defSh nb bs),V.d (D.sl sgSh ns ss)])] }):=by kernel_rfl
theorem x24(m n:Nat)(og ep co:Int)(na nm' nb ns:Bool)(zas ms bs ss:List D)(nl:Bool)(l:List D):Tree.out (enterM Mw (callN Mw (m+40)) n c24 [.d (stD og ep co na nm' nb ns zas ms bs ss),.d (.sl idSh nl l)] [])=Tree.out (resume Mw (callN Mw (m+40)) n n 0 c24 { fr:=frame 40 [(1,V.d (D.sl idSh nl l)),(2,V.ptr 192 0),(5,V.d (D.sl noteSh true [])),(6,V.d (D.int .i64 0))],ob:=[(192,Obj.box [V.d (D.int .i64 og),V.d (D.int .i64 ep),V.d (D.int .i64 co),V.d (D.sl accSh na zas),V.d (D.sl mrkSh nm' ms),V.d (D.sl defSh nb bs),V.d (D.sl sgSh ns ss)])] }):=by kernel_rfl
def v23(og ep co:Int)(na nm' nb ns:Bool)(zas ms bs ss:List D)(nl:Bool)(l:List D)(i:Int):St:= { fr:=frame 38 [(2,V.ptr 192 0),(5,V.d (D.sl noteSh true [])),(12,V.d (D.sl idSh nl l)),(13,V.d (D.int .i64 (l.length:Int))),(14,V.d (D.int .i64 i))],ob:=[(192,HS og ep co na nm' nb ns zas ms bs ss)] }
theorem y23(m n f:Nat)(og ep co:Int)(na nm' nb ns:Bool)(zas ms bs ss:List D)(nl:Bool)(l:List D)(i:Int):Tree.out (resume Mw (callN Mw (m+40)) n (f+1) 0 c23 (v23 og ep co na nm' nb ns zas ms bs ss nl l i))=bif decide (i<(l.length:Int)) then bif decide (0≤i∧i<(l.length:Int)) then bif sgsShort ss then bif mayR og ep co zas ms bs ss&&decide (0≤idxS (fi 0 (l.getD i.toNat .nilp)) (fi 1 (l.getD i.toNat .nilp)) (fl 2 (l.getD i.toNat .nilp)) ss) then bif (!fn 2 (xL ss l i)||List.isEmpty (fl 2 (xL ss l i)))&&(decide (List.length (fl 2 (xL ss l i))≤1000000)&&(decide (List.length (fl 4 (xL ss l i))≤1000000)&&decide (List.length (fl 7 (xL ss l i))≤1000000))) then bif tellOk (fi 0 (xL ss l i)) (fi 1 (xL ss l i)) (fi 5 (xL ss l i)) (fi 6 (xL ss l i)) (fb 8 (xL ss l i)) (fl 2 (xL ss l i)) (fl 4 (xL ss l i)) (fl 7 (xL ss l i)) (fs 3 (xL ss l i)) then Tree.out (resume Mw (callN Mw (m+40)) n f 0 c23 { fr:=frame 38 [(2,V.ptr 192 0),(5,V.own 2304),(12,V.d (D.sl idSh nl l)),(13,V.d (D.int .i64 (l.length:Int))),(14,V.d (D.int .i64 (IntKind.wrap .i64 (i+1))))],ob:=[(192,Obj.box [V.d (D.int .i64 og),V.d (D.int .i64 ep),V.d (D.int .i64 co),V.d (D.sl accSh na zas),V.d (D.sl mrkSh nm' ms),V.d (D.sl defSh nb bs),V.d (D.sl sgSh ns ss)]),(2304,Obj.lst noteSh false false false [D.agg [D.int .i64 (tellK (fi 5 (xL ss l i))),D.int .i64 (fi 0 (xL ss l i)),D.int .i64 (fi 1 (xL ss l i)),D.sl hopSh (fn 2 (xL ss l i)) (fl 2 (xL ss l i)),D.str [],D.int .i64 (tellW (fi 5 (xL ss l i)) (fi 6 (xL ss l i)))]])] }) else Tree.out (resume Mw (callN Mw (m+40)) n f 0 c23 (v23 og ep co na nm' nb ns zas ms bs ss nl l (IntKind.wrap .i64 (i+1)))) else none else Tree.out (resume Mw (callN Mw (m+40)) n f 0 c23 (v23 og ep co na nm' nb ns zas ms bs ss nl l (IntKind.wrap .i64 (i+1)))) else none else none else some [D.sl noteSh true []]:=by kernel_rfl
def v24(og ep co:Int)(na nm' nb ns:Bool)(zas ms bs ss:List D)(nl:Bool)(l:List D)(i:Int):St:= { fr:=frame 40 [(1,V.d (D.sl idSh nl l)),(2,V.ptr 192 0),(5,V.d (D.sl noteSh true [])),(6,V.d (D.int .i64 i))],ob:=[(192,HS og ep co na nm' nb ns zas ms bs ss)] }
theorem y24(m n f:Nat)(og ep co:Int)(na nm' nb ns:Bool)(zas ms bs ss:List D)(nl:Bool)(l:List D)(i:Int):Tree.out (resume Mw (callN Mw (m+40)) n (f+1) 0 c24 (v24 og ep co na nm' nb ns zas ms bs ss nl l i))=bif decide (i<(l.length:Int)) then bif decide (0≤i∧i<(l.length:Int)) then bif sgsShort ss then bif mayR og ep co zas ms bs ss&&decide (0≤idxS (fi 0 (l.getD i.toNat .nilp)) (fi 1 (l.getD i.toNat .nilp)) (fl 2 (l.getD i.toNat .nilp)) ss) then bif tellOk (fi 0 (xL ss l i)) (fi 1 (xL ss l i)) (fi 5 (xL ss l i)) (fi 6 (xL ss l i)) (fb 8 (xL ss l i)) (fl 2 (xL ss l i)) (fl 4 (xL ss l i)) (fl 7 (xL ss l i)) (fs 3 (xL ss l i)) then Tree.out (resume Mw (callN Mw (m+40)) n f 0 c24 { fr:=frame 40 [(1,V.d (D.sl idSh nl l)),(2,V.ptr 192 0),(5,V.own 2496),(6,V.d (D.int .i64 (IntKind.wrap .i64 (i+1))))],ob:=[(192,Obj.box [V.d (D.int .i64 og),V.d (D.int .i64 ep),V.d (D.int .i64 co),V.d (D.sl accSh na zas),V.d (D.sl mrkSh nm' ms),V.d (D.sl defSh nb bs),V.d (D.sl sgSh ns ss)]),(2496,Obj.lst noteSh false false false [D.agg [D.int .i64 (tellK (fi 5 (xL ss l i))),D.int .i64 (fi 0 (xL ss l i)),D.int .i64 (fi 1 (xL ss l i)),D.sl hopSh (fn 2 (xL ss l i)) (fl 2 (xL ss l i)),D.str [],D.int .i64 (tellW (fi 5 (xL ss l i)) (fi 6 (xL ss l i)))]])] }) else Tree.out (resume Mw (callN Mw (m+40)) n f 0 c24 (v24 og ep co na nm' nb ns zas ms bs ss nl l (IntKind.wrap .i64 (i+1)))) else Tree.out (resume Mw (callN Mw (m+40)) n f 0 c24 (v24 og ep co na nm' nb ns zas ms bs ss nl l (IntKind.wrap .i64 (i+1)))) else none else none else some [D.sl noteSh true []]:=by kernel_rfl
def w23(og ep co:Int)(na nm' nb ns:Bool)(zas ms bs ss:List D)(nl:Bool)(l:List D)(mv:Bool)(out:List D)(i:Int):St:= { fr:=frame 38 [(2,V.ptr 192 0),(5,V.own 2304),(12,V.d (D.sl idSh nl l)),(13,V.d (D.int .i64 (l.length:Int))),(14,V.d (D.int .i64 i))],ob:=[(192,HS og ep co na nm' nb ns zas ms bs ss),(2304,.lst noteSh false mv false out)] }
theorem z23(m n f:Nat)(og ep co:Int)(na nm' nb ns:Bool)(zas ms bs ss:List D)(nl:Bool)(l:List D)(mv:Bool)(out:List D)(i:Int):Tree.out (resume Mw (callN Mw (m+40)) n (f+1) 0 c23 (w23 og ep co na nm' nb ns zas ms bs ss nl l mv out i))=bif decide (i<(l.length:Int)) then bif decide (0≤i∧i<(l.length:Int)) then bif sgsShort ss then bif mayR og ep co zas ms bs ss&&decide (0≤idxS (fi 0 (l.getD i.toNat .nilp)) (fi 1 (l.getD i.toNat .nilp)) (fl 2 (l.getD i.toNat .nilp)) ss) then bif (!fn 2 (xL ss l i)||List.isEmpty (fl 2 (xL ss l i)))&&(decide (List.length (fl 2 (xL ss l i))≤1000000)&&(decide (List.length (fl 4 (xL ss l i))≤1000000)&&decide (List.length (fl 7 (xL ss l i))≤1000000))) then bif tellOk (fi 0 (xL ss l i)) (fi 1 (xL ss l i)) (fi 5 (xL ss l i)) (fi 6 (xL ss l i)) (fb 8 (xL ss l i)) (fl 2 (xL ss l i)) (fl 4 (xL ss l i)) (fl 7 (xL ss l i)) (fs 3 (xL ss l i)) then bif decide (out.length+1≤4294967296) then Tree.out (resume Mw (callN Mw (m+40)) n f 0 c23 { fr:=frame 38 [(2,V.ptr 192 0),(5,V.own 2304),(12,V.d (D.sl idSh nl l)),(13,V.d (D.int .i64 (l.length:Int))),(14,V.d (D.int .i64 (IntKind.wrap .i64 (i+1))))],ob:=[(192,Obj.box [V.d (D.int .i64 og),V.d (D.int .i64 ep),V.d (D.int .i64 co),V.d (D.sl accSh na zas),V.d (D.sl mrkSh nm' ms),V.d (D.sl defSh nb bs),V.d (D.sl sgSh ns ss)]),(2304,Obj.lst noteSh false true false (List.append out [D.agg [D.int .i64 (tellK (fi 5 (xL ss l i))),D.int .i64 (fi 0 (xL ss l i)),D.int .i64 (fi 1 (xL ss l i)),D.sl hopSh (fn 2 (xL ss l i)) (fl 2 (xL ss l i)),D.str [],D.int .i64 (tellW (fi 5 (xL ss l i)) (fi 6 (xL ss l i)))]]))] }) else none else Tree.out (resume Mw (callN Mw (m+40)) n f 0 c23 { fr:=frame 38 [(2,V.ptr 192 0),(5,V.own 2304),(12,V.d (D.sl idSh nl l)),(13,V.d (D.int .i64 (l.length:Int))),(14,V.d (D.int .i64 (IntKind.wrap .i64 (i+1))))],ob:=[(192,Obj.box [V.d (D.int .i64 og),V.d (D.int .i64 ep),V.d (D.int .i64 co),V.d (D.sl accSh na zas),V.d (D.sl mrkSh nm' ms),V.d (D.sl defSh nb bs),V.d (D.sl sgSh ns ss)]),(2304,Obj.lst noteSh false mv false out)] }) else none else Tree.out (resume Mw (callN Mw (m+40)) n f 0 c23 { fr:=frame 38 [(2,V.ptr 192 0),(5,V.own 2304),(12,V.d (D.sl idSh nl l)),(13,V.d (D.int .i64 (l.length:Int))),(14,V.d (D.int .i64 (IntKind.wrap .i64 (i+1))))],ob:=[(192,Obj.box [V.d (D.int .i64 og),V.d (D.int .i64 ep),V.d (D.int .i64 co),V.d (D.sl accSh na zas),V.d (D.sl mrkSh nm' ms),V.d (D.sl defSh nb bs),V.d (D.sl sgSh ns ss)]),(2304,Obj.lst noteSh false mv false out)] }) else none else none else some [D.sl noteSh false out]:=by kernel_rfl
def w24(og ep co:Int)(na nm' nb ns:Bool)(zas ms bs ss:List D)(nl:Bool)(l:List D)(mv:Bool)(out:List D)(i:Int):St:= { fr:=frame 40 [(1,V.d (D.sl idSh nl l)),(2,V.ptr 192 0),(5,V.own 2496),(6,V.d (D.int .i64 i))],ob:=[(192,HS og ep co na nm' nb ns zas ms bs ss),(2496,.lst noteSh false mv false out)] }
theorem z24(m n f:Nat)(og ep co:Int)(na nm' nb ns:Bool)(zas ms bs ss:List D)(nl:Bool)(l:List D)(mv:Bool)(out:List D)(i:Int):Tree.out (resume Mw (callN Mw (m+40)) n (f+1) 0 c24 (w24 og ep co na nm' nb ns zas ms bs ss nl l mv out i))=bif decide (i<(l.length:Int)) then bif decide (0≤i∧i<(l.length:Int)) then bif sgsShort ss then bif mayR og ep co zas ms bs ss&&decide (0≤idxS (fi 0 (l.getD i.toNat .nilp)) (fi 1 (l.getD i.toNat .nilp)) (fl 2 (l.getD i.toNat .nilp)) ss) then bif tellOk (fi 0 (xL ss l i)) (fi 1 (xL ss l i)) (fi 5 (xL ss l i)) (fi 6 (xL ss l i)) (fb 8 (xL ss l i)) (fl 2 (xL ss l i)) (fl 4 (xL ss l i)) (fl 7 (xL ss l i)) (fs 3 (xL ss l i)) then bif decide (out.length+1≤4294967296) then Tree.out (resume Mw (callN Mw (m+40)) n f 0 c24 { fr:=frame 40 [(1,V.d (D.sl idSh nl l)),(2,V.ptr 192 0),(5,V.own 2496),(6,V.d (D.int .i64 (IntKind.wrap .i64 (i+1))))],ob:=[(192,Obj.box [V.d (D.int .i64 og),V.d (D.int .i64 ep),V.d (D.int .i64 co),V.d (D.sl accSh na zas),V.d (D.sl mrkSh nm' ms),V.d (D.sl defSh nb bs),V.d (D.sl sgSh ns ss)]),(2496,Obj.lst noteSh false true false (List.append out [D.agg [D.int .i64 (tellK (fi 5 (xL ss l i))),D.int .i64 (fi 0 (xL ss l i)),D.int .i64 (fi 1 (xL ss l i)),D.sl hopSh (fn 2 (xL ss l i)) (fl 2 (xL ss l i)),D.str [],D.int .i64 (tellW (fi 5 (xL ss l i)) (fi 6 (xL ss l i)))]]))] }) else none else Tree.out (resume Mw (callN Mw (m+40)) n f 0 c24 { fr:=frame 40 [(1,V.d (D.sl idSh nl l)),(2,V.ptr 192 0),(5,V.own 2496),(6,V.d (D.int .i64 (IntKind.wrap .i64 (i+1))))],ob:=[(192,Obj.box [V.d (D.int .i64 og),V.d (D.int .i64 ep),V.d (D.int .i64 co),V.d (D.sl accSh na zas),V.d (D.sl mrkSh nm' ms),V.d (D.sl defSh nb bs),V.d (D.sl sgSh ns ss)]),(2496,Obj.lst noteSh false mv false out)] }) else Tree.out (resume Mw (callN Mw (m+40)) n f 0 c24 { fr:=frame 40 [(1,V.d (D.sl idSh nl l)),(2,V.ptr 192 0),(5,V.own 2496),(6,V.d (D.int .i64 (IntKind.wrap .i64 (i+1))))],ob:=[(192,Obj.box [V.d (D.int .i64 og),V.d (D.int .i64 ep),V.d (D.int .i64 co),V.d (D.sl accSh na zas),V.d (D.sl mrkSh nm' ms),V.d (D.sl defSh nb bs),V.d (D.sl sgSh ns ss)]),(2496,Obj.lst noteSh false mv false out)] }) else none else none else some [D.sl noteSh false out]:=by kernel_rfl
def tlL(og ep co:Int)(zas ms bs ss l:List D)(i:Nat):List D:=
 bif (mayR og ep co zas ms bs ss&&decide (0≤idxS (fi 0 (l.getD i .nilp)) (fi 1 (l.getD i .nilp)) (fl 2 (l.getD i .nilp)) ss))&&tellOk (fi 0 (xL ss l i)) (fi 1 (xL ss l i)) (fi 5 (xL ss l i)) (fi 6 (xL ss l i)) (fb 8 (xL ss l i)) (fl 2 (xL ss l i)) (fl 4 (xL ss l i)) (fl 7 (xL ss l i)) (fs 3 (xL ss l i)) then
  [ntD (tellK (fi 5 (xL ss l i))) (fi 0 (xL ss l i)) (fi 1 (xL ss l i)) (fn 2 (xL ss l i)) (fl 2 (xL ss l i)) (tellW (fi 5 (xL ss l i)) (fi 6 (xL ss l i)))] else []
def toldL(og ep co:Int)(zas ms bs ss l:List D):Nat→Nat→List D
 | 0,_=>[]
 | d+1,i=>tlL og ep co zas ms bs ss l i++toldL og ep co zas ms bs ss l d (i+1)
theorem xL_nat(ss l:List D)(i:Nat):xL ss l (i:Int)=xI (fi 0 (l.getD i .nilp)) (fi 1 (l.getD i .nilp)) (fl 2 (l.getD i .nilp)) ss:=by
 unfold xL
 rw [Int.toNat_natCast]
theorem short_xL{ss l:List D}{i:Nat}(h:sgsShort ss=true)(h0:0≤idxS (fi 0 (l.getD i .nilp)) (fi 1 (l.getD i .nilp)) (fl 2 (l.getD i .nilp)) ss):
  ((!fn 2 (xL ss l i)||List.isEmpty (fl 2 (xL ss l i)))&&(decide (List.length (fl 2 (xL ss l i))≤1000000)&&(decide (List.length (fl 4 (xL ss l i))≤1000000)&&decide (List.length (fl 7 (xL ss l i))≤1000000))))=true:=by
 obtain ⟨a1,a2,a3⟩:=short_at h h0
 rw [xL_nat]
 unfold shortL at a1
 rw [Bool.and_eq_true] at a1
 rw [a1.1,a1.2,decide_eq_true a2,decide_eq_true a3];rfl
theorem lp23o(m n:Nat)(og ep co:Int)(na nm' nb ns:Bool)(zas ms bs ss:List D)(nl:Bool)(l:List D)(h:sgsShort ss=true)(hl:l.length≤1000000):
  ∀d i f mv out,i+d=l.length→d<f→out.length+d≤1000000→(resume Mw (callN Mw (m+40)) n f 0 c23 (w23 og ep co na nm' nb ns zas ms bs ss nl l mv out (i:Nat))).out=some [.sl noteSh false (out++toldL og ep co zas ms bs ss l d i)]:=by
 intro d
 induction d with
 | zero=>
  intro i f mv out hi hf ho
  cases f with
  | zero=>omega
  | succ f=>
   have:i=l.length:=by omega
   subst this
   rw [z23]
   refine (cf (dec_end _)).trans ?_
   unfold toldL
   rw [List.append_nil]
 | succ d ih=>
  intro i f mv out hi hf ho
  cases f with
  | zero=>omega
  | succ f=>
   have hlt:i<l.length:=by omega
   rw [z23,h,wrap_up hlt hl]
   simp only [Int.toNat_natCast]
   refine (ct (dec_lt hlt)).trans ((ct (dec_ix hlt)).trans ((ct rfl).trans ?_))
   have e:toldL og ep co zas ms bs ss l (d+1) i=tlL og ep co zas ms bs ss l i++toldL og ep co zas ms bs ss l d (i+1):=rfl
   rw [e]
   unfold tlL
   cases hm:(mayR og ep co zas ms bs ss&&decide (0≤idxS (fi 0 (l.getD i .nilp)) (fi 1 (l.getD i .nilp)) (fl 2 (l.getD i .nilp)) ss))
   ·exact ih (i+1) f mv out (by omega) (by omega) (by omega)
   ·refine (ct rfl).trans ?_
    rw [Bool.and_eq_true,decide_eq_true_eq] at hm
    refine (ct (short_xL h hm.2)).trans ?_
    cases ht:tellOk (fi 0 (xL ss l i)) (fi 1 (xL ss l i)) (fi 5 (xL ss l i)) (fi 6 (xL ss l i)) (fb 8 (xL ss l i)) (fl 2 (xL ss l i)) (fl 4 (xL ss l i)) (fl 7 (xL ss l i)) (fs 3 (xL ss l i))
    ·exact ih (i+1) f mv out (by omega) (by omega) (by omega)
    ·refine (ct rfl).trans ((ct (decide_eq_true (by omega))).trans ?_)
     refine (ih (i+1) f true (out++[ntD (tellK (fi 5 (xL ss l i))) (fi 0 (xL ss l i)) (fi 1 (xL ss l i)) (fn 2 (xL ss l i)) (fl 2 (xL ss l i)) (tellW (fi 5 (xL ss l i)) (fi 6 (xL ss l i)))]) (by omega) (by omega) (by simp only [List.length_append,List.length_cons,List.length_nil];omega)).trans ?_
     simp only [List.append_assoc,List.cons_append,List.nil_append,Bool.and_self,cond_true]
theorem lp23(m n:Nat)(og ep co:Int)(na nm' nb ns:Bool)(zas ms bs ss:List D)(nl:Bool)(l:List D)(h:sgsShort ss=true)(hl:l.length≤1000000):
  ∀d i f,i+d=l.length→d<f→(resume Mw (callN Mw (m+40)) n f 0 c23 (v23 og ep co na nm' nb ns zas ms bs ss nl l (i:Nat))).out=some [.sl noteSh (toldL og ep co zas ms bs ss l d i).isEmpty (toldL og ep co zas ms bs ss l d i)]:=by
 intro d
 induction d with
 | zero=>
  intro i f hi hf
  cases f with
  | zero=>omega
  | succ f=>
   have:i=l.length:=by omega
   subst this
   rw [y23]
   exact cf (dec_end _)
 | succ d ih=>
  intro i f hi hf
  cases f with
  | zero=>omega
  | succ f=>
   have hlt:i<l.length:=by omega
   rw [y23,h,wrap_up hlt hl]
   simp only [Int.toNat_natCast]
   refine (ct (dec_lt hlt)).trans ((ct (dec_ix hlt)).trans ((ct rfl).trans ?_))
   have e:toldL og ep co zas ms bs ss l (d+1) i=tlL og ep co zas ms bs ss l i++toldL og ep co zas ms bs ss l d (i+1):=rfl
   rw [e]
   unfold tlL
   cases hm:(mayR og ep co zas ms bs ss&&decide (0≤idxS (fi 0 (l.getD i .nilp)) (fi 1 (l.getD i .nilp)) (fl 2 (l.getD i .nilp)) ss))
   ·exact ih (i+1) f (by omega) (by omega)
   ·refine (ct rfl).trans ?_
    rw [Bool.and_eq_true,decide_eq_true_eq] at hm
    refine (ct (short_xL h hm.2)).trans ?_
    cases ht:tellOk (fi 0 (xL ss l i)) (fi 1 (xL ss l i)) (fi 5 (xL ss l i)) (fi 6 (xL ss l i)) (fb 8 (xL ss l i)) (fl 2 (xL ss l i)) (fl 4 (xL ss l i)) (fl 7 (xL ss l i)) (fs 3 (xL ss l i))
    ·exact ih (i+1) f (by omega) (by omega)
    ·refine (ct rfl).trans ?_
     refine (lp23o m n og ep co na nm' nb ns zas ms bs ss nl l h hl d (i+1) f false [ntD (tellK (fi 5 (xL ss l i))) (fi 0 (xL ss l i)) (fi 1 (xL ss l i)) (fn 2 (xL ss l i)) (fl 2 (xL ss l i)) (tellW (fi 5 (xL ss l i)) (fi 6 (xL ss l i)))] (by omega) (by omega) (by simp only [List.length_cons,List.length_nil];omega)).trans ?_
     rfl
theorem rn23(m n:Nat)(og ep co:Int)(na nm' nb ns:Bool)(zas ms bs ss:List D)(nl:Bool)(l:List D)(h:sgsShort ss=true)(hl:l.length≤1000000)(hn:l.length<n):
  (enterM Mw (callN Mw (m+40)) n c23 [.d (stD og ep co na nm' nb ns zas ms bs ss),.d (.sl idSh nl l)] []).out=some [.sl noteSh (toldL og ep co zas ms bs ss l l.length 0).isEmpty (toldL og ep co zas ms bs ss l l.length 0)]:=by
 rw [x23]
 exact lp23 m n og ep co na nm' nb ns zas ms bs ss nl l h hl l.length 0 n (by omega) hn
theorem lp24o(m n:Nat)(og ep co:Int)(na nm' nb ns:Bool)(zas ms bs ss:List D)(nl:Bool)(l:List D)(h:sgsShort ss=true)(hl:l.length≤1000000):
  ∀d i f mv out,i+d=l.length→d<f→out.length+d≤1000000→(resume Mw (callN Mw (m+40)) n f 0 c24 (w24 og ep co na nm' nb ns zas ms bs ss nl l mv out (i:Nat))).out=some [.sl noteSh false (out++toldL og ep co zas ms bs ss l d i)]:=by
 intro d
 induction d with
 | zero=>
  intro i f mv out hi hf ho
  cases f with
  | zero=>omega
  | succ f=>
   have:i=l.length:=by omega
   subst this
   rw [z24]
   refine (cf (dec_end _)).trans ?_
   unfold toldL
   rw [List.append_nil]
 | succ d ih=>
  intro i f mv out hi hf ho
  cases f with
  | zero=>omega
  | succ f=>
   have hlt:i<l.length:=by omega
   rw [z24,h,wrap_up hlt hl]
   simp only [Int.toNat_natCast]
   refine (ct (dec_lt hlt)).trans ((ct (dec_ix hlt)).trans ((ct rfl).trans ?_))
   have e:toldL og ep co zas ms bs ss l (d+1) i=tlL og ep co zas ms bs ss l i++toldL og ep co zas ms bs ss l d (i+1):=rfl
   rw [e]
   unfold tlL
   cases hm:(mayR og ep co zas ms bs ss&&decide (0≤idxS (fi 0 (l.getD i .nilp)) (fi 1 (l.getD i .nilp)) (fl 2 (l.getD i .nilp)) ss))
   ·exact ih (i+1) f mv out (by omega) (by omega) (by omega)
   ·refine (ct rfl).trans ?_
    cases ht:tellOk (fi 0 (xL ss l i)) (fi 1 (xL ss l i)) (fi 5 (xL ss l i)) (fi 6 (xL ss l i)) (fb 8 (xL ss l i)) (fl 2 (xL ss l i)) (fl 4 (xL ss l i)) (fl 7 (xL ss l i)) (fs 3 (xL ss l i))
    ·exact ih (i+1) f mv out (by omega) (by omega) (by omega)
    ·refine (ct rfl).trans ((ct (decide_eq_true (by omega))).trans ?_)
     refine (ih (i+1) f true (out++[ntD (tellK (fi 5 (xL ss l i))) (fi 0 (xL ss l i)) (fi 1 (xL ss l i)) (fn 2 (xL ss l i)) (fl 2 (xL ss l i)) (tellW (fi 5 (xL ss l i)) (fi 6 (xL ss l i)))]) (by omega) (by omega) (by simp only [List.length_append,List.length_cons,List.length_nil];omega)).trans ?_
     simp only [List.append_assoc,List.cons_append,List.nil_append,Bool.and_self,cond_true]
theorem lp24(m n:Nat)(og ep co:Int)(na nm' nb ns:Bool)(zas ms bs ss:List D)(nl:Bool)(l:List D)(h:sgsShort ss=true)(hl:l.length≤1000000):
  ∀d i f,i+d=l.length→d<f→(resume Mw (callN Mw (m+40)) n f 0 c24 (v24 og ep co na nm' nb ns zas ms bs ss nl l (i:Nat))).out=some [.sl noteSh (toldL og ep co zas ms bs ss l d i).isEmpty (toldL og ep co zas ms bs ss l d i)]:=by
 intro d
 induction d with
 | zero=>
  intro i f hi hf
  cases f with
  | zero=>omega
  | succ f=>
   have:i=l.length:=by omega
   subst this
   rw [y24]
   exact cf (dec_end _)
 | succ d ih=>
  intro i f hi hf
  cases f with
  | zero=>omega
  | succ f=>
   have hlt:i<l.length:=by omega
   rw [y24,h,wrap_up hlt hl]
   simp only [Int.toNat_natCast]
   refine (ct (dec_lt hlt)).trans ((ct (dec_ix hlt)).trans ((ct rfl).trans ?_))
   have e:toldL og ep co zas ms bs ss l (d+1) i=tlL og ep co zas ms bs ss l i++toldL og ep co zas ms bs ss l d (i+1):=rfl
   rw [e]
   unfold tlL
   cases hm:(mayR og ep co zas ms bs ss&&decide (0≤idxS (fi 0 (l.getD i .nilp)) (fi 1 (l.getD i .nilp)) (fl 2 (l.getD i .nilp)) ss))
   ·exact ih (i+1) f (by omega) (by omega)
   ·refine (ct rfl).trans ?_
    cases ht:tellOk (fi 0 (xL ss l i)) (fi 1 (xL ss l i)) (fi 5 (xL ss l i)) (fi 6 (xL ss l i)) (fb 8 (xL ss l i)) (fl 2 (xL ss l i)) (fl 4 (xL ss l i)) (fl 7 (xL ss l i)) (fs 3 (xL ss l i))
    ·exact ih (i+1) f (by omega) (by omega)
    ·refine (ct rfl).trans ?_
     refine (lp24o m n og ep co na nm' nb ns zas ms bs ss nl l h hl d (i+1) f false [ntD (tellK (fi 5 (xL ss l i))) (fi 0 (xL ss l i)) (fi 1 (xL ss l i)) (fn 2 (xL ss l i)) (fl 2 (xL ss l i)) (tellW (fi 5 (xL ss l i)) (fi 6 (xL ss l i)))] (by omega) (by omega) (by simp only [List.length_cons,List.length_nil];omega)).trans ?_
     rfl
theorem rn24(m n:Nat)(og ep co:Int)(na nm' nb ns:Bool)(zas ms bs ss:List D)(nl:Bool)(l:List D)(h:sgsShort ss=true)(hl:l.length≤1000000)(hn:l.length<n):
  (enterM Mw (callN Mw (m+40)) n c24 [.d (stD og ep co na nm' nb ns zas ms bs ss),.d (.sl idSh nl l)] []).out=some [.sl noteSh (toldL og ep co zas ms bs ss l l.length 0).isEmpty (toldL og ep co zas ms bs ss l l.length 0)]:=by
 rw [x24]
 exact lp24 m n og ep co na nm' nb ns zas ms bs ss nl l h hl l.length 0 n (by omega) hn
def g23m:List D→Tree (List D)
 | [.agg [.int .i64 og,.int .i64 ep,.int .i64 co,.sl e0a _na zas,.sl e0m _nm ms,.sl e0b _nb bs,.sl e0s _ns ss],.sl e1 _nl l]=>match Sh.beq e0a accSh&&Sh.beq e0m mrkSh&&Sh.beq e0b defSh&&Sh.beq e0s sgSh&&Sh.beq e1 idSh with
  | true=> .ite (sgsShort ss&&decide (l.length≤1000000)) (fun _=> .ret [.sl noteSh (toldL og ep co zas ms bs ss l l.length 0).isEmpty (toldL og ep co zas ms bs ss l l.length 0)]) (fun _=> .stuck)
  | false=> .stuck
 | _=> .stuck
theorem pure23m{P:Program}(hm:P.follows .mixedOrders=true)(h0:EnvOK P Mw):PureOK P 23 g23m:=PureOK.run hm h0 fun ds rs h=>by
 unfold g23m at h
 split at h
 ·rename_i og ep co e0a na zas e0m nm ms e0b nb bs e0s ns ss e1 nl l
  split at h
  ·rename_i hb
   simp only [Bool.and_eq_true] at hb
   obtain ⟨⟨⟨⟨hb0,hb1⟩,hb2⟩,hb3⟩,hb4⟩:=hb
   have hb0:=Sh.beq_eq hb0
   have hb1:=Sh.beq_eq hb1
   have hb2:=Sh.beq_eq hb2
   have hb3:=Sh.beq_eq hb3
   have hb4:=Sh.beq_eq hb4
   subst hb0 hb1 hb2 hb3 hb4
   obtain ⟨hg,h'⟩:=eval_guard h
   clear h
   simp only [Bool.and_eq_true,decide_eq_true_eq] at hg
   cases h'
   exact ⟨(l.length+40)+1,by rw [callN_succ (fn:=c23) rfl];exact rn23 l.length (l.length+40) og ep co na nm nb ns zas ms bs ss nl l hg.1 hg.2 (by omega)⟩
  ·cases h
 ·cases h
def g24m:List D→Tree (List D)
 | [.agg [.int .i64 og,.int .i64 ep,.int .i64 co,.sl e0a _na zas,.sl e0m _nm ms,.sl e0b _nb bs,.sl e0s _ns ss],.sl e1 _nl l]=>match Sh.beq e0a accSh&&Sh.beq e0m mrkSh&&Sh.beq e0b defSh&&Sh.beq e0s sgSh&&Sh.beq e1 idSh with
  | true=> .ite (sgsShort ss&&decide (l.length≤1000000)) (fun _=> .ret [.sl noteSh (toldL og ep co zas ms bs ss l l.length 0).isEmpty (toldL og ep co zas ms bs ss l l.length 0)]) (fun _=> .stuck)
  | false=> .stuck
 | _=> .stuck
theorem pure24m{P:Program}(hm:P.follows .mixedOrders=true)(h0:EnvOK P Mw):PureOK P 24 g24m:=PureOK.run hm h0 fun ds rs h=>by
 unfold g24m at h
 split at h
 ·rename_i og ep co e0a na zas e0m nm ms e0b nb bs e0s ns ss e1 nl l
  split at h
  ·rename_i hb
   simp only [Bool.and_eq_true] at hb
   obtain ⟨⟨⟨⟨hb0,hb1⟩,hb2⟩,hb3⟩,hb4⟩:=hb
   have hb0:=Sh.beq_eq hb0
   have hb1:=Sh.beq_eq hb1
   have hb2:=Sh.beq_eq hb2
   have hb3:=Sh.beq_eq hb3
   have hb4:=Sh.beq_eq hb4
   subst hb0 hb1 hb2 hb3 hb4
   obtain ⟨hg,h'⟩:=eval_guard h
   clear h
   simp only [Bool.and_eq_true,decide_eq_true_eq] at hg
   cases h'
   exact ⟨(l.length+40)+1,by rw [callN_succ (fn:=c24) rfl];exact rn24 l.length (l.length+40) og ep co na nm nb ns zas ms bs ss nl l hg.1 hg.2 (by omega)⟩
  ·cases h
 ·cases h
def g19m:List D→Tree (List D)
 | [.agg [.int .i64 og,.int .i64 ep,.int .i64 co,.sl e0a _na zas,.sl e0m _nm ms,.sl e0b _nb bs,.sl e0s _ns ss],.agg [.int .i64 k,.int .i64 r,.int .i64 q,.sl e1 nil es,.str df,.int .i64 w]]=>match Sh.beq e0a accSh&&Sh.beq e0m mrkSh&&Sh.beq e0b defSh&&Sh.beq e0s sgSh&&Sh.beq e1 hopSh with
  | true=> .ite (sgsShort ss&&(shortL nil es&&bookShort bs)) (fun _=> .ret [.agg [.sl moveSh (an1 true og ep co zas ms bs ss k r q w nil es df) (an2 true og ep co zas ms bs ss k r q w nil es df),.sl noteSh (an3 true og ep co zas ms bs ss k r q w nil es df) (an4 true og ep co zas ms bs ss k r q w nil es df)],.int .i64 (tkE og ep co zas ms bs ss k r q w es df)]) (fun _=> .stuck)
  | false=> .stuck
 | _=> .stuck
theorem pure19m{P:Program}(hm:P.follows .mixedOrders=true)(h0:EnvOK P Mw):PureOK P 19 g19m:=PureOK.run hm h0 fun ds rs h=>by
 unfold g19m at h
 split at h
 ·rename_i og ep co e0a na zas e0m nm ms e0b nb bs e0s ns ss k r q e1 nil es df w
  split at h
  ·rename_i hb
   simp only [Bool.and_eq_true] at hb
   obtain ⟨⟨⟨⟨hb0,hb1⟩,hb2⟩,hb3⟩,hb4⟩:=hb
   have hb0:=Sh.beq_eq hb0
   have hb1:=Sh.beq_eq hb1
   have hb2:=Sh.beq_eq hb2
   have hb3:=Sh.beq_eq hb3
   have hb4:=Sh.beq_eq hb4
   subst hb0 hb1 hb2 hb3 hb4
   obtain ⟨hg,h'⟩:=eval_guard h
   clear h
   simp only [Bool.and_eq_true] at hg
   cases h'
   exact ⟨59+1,by rw [callN_succ (fn:=c19) rfl];exact rn19 19 59 og ep co na nm nb ns zas ms bs ss k r q w nil es df hg.1 hg.2.1 hg.2.2⟩
  ·cases h
 ·cases h
def g20m:List D→Tree (List D)
 | [.agg [.int .i64 og,.int .i64 ep,.int .i64 co,.sl e0a _na zas,.sl e0m _nm ms,.sl e0b _nb bs,.sl e0s _ns ss],.agg [.int .i64 k,.int .i64 r,.int .i64 q,.sl e1 nil es,.str df,.int .i64 w]]=>match Sh.beq e0a accSh&&Sh.beq e0m mrkSh&&Sh.beq e0b defSh&&Sh.beq e0s sgSh&&Sh.beq e1 hopSh with
  | true=> .ite (sgsShort ss&&(shortL nil es&&bookShort bs)) (fun _=> .ret [.agg [.sl moveSh (an1 false og ep co zas ms bs ss k r q w nil es df) (an2 false og ep co zas ms bs ss k r q w nil es df),.sl noteSh (an3 false og ep co zas ms bs ss k r q w nil es df) (an4 false og ep co zas ms bs ss k r q w nil es df)],.int .i64 (tkE og ep co zas ms bs ss k r q w es df)]) (fun _=> .stuck)
  | false=> .stuck
 | _=> .stuck
theorem pure20m{P:Program}(hm:P.follows .mixedOrders=true)(h0:EnvOK P Mw):PureOK P 20 g20m:=PureOK.run hm h0 fun ds rs h=>by
 unfold g20m at h
 split at h
 ·rename_i og ep co e0a na zas e0m nm ms e0b nb bs e0s ns ss k r q e1 nil es df w
  split at h
  ·rename_i hb
   simp only [Bool.and_eq_true] at hb
   obtain ⟨⟨⟨⟨hb0,hb1⟩,hb2⟩,hb3⟩,hb4⟩:=hb
   have hb0:=Sh.beq_eq hb0
   have hb1:=Sh.beq_eq hb1
   have hb2:=Sh.beq_eq hb2
   have hb3:=Sh.beq_eq hb3
   have hb4:=Sh.beq_eq hb4
   subst hb0 hb1 hb2 hb3 hb4
   obtain ⟨hg,h'⟩:=eval_guard h
   clear h
   simp only [Bool.and_eq_true] at hg
   cases h'
   exact ⟨59+1,by rw [callN_succ (fn:=c20) rfl];exact rn20 19 59 og ep co na nm nb ns zas ms bs ss k r q w nil es df hg.1 hg.2.2⟩
  ·cases h
 ·cases h
def Mx:Env:=((((Mw.pureAt 23 false g23m).pureAt 24 false g24m).pureAt 19 false g19m).pureAt 20 false g20m).pureAt 14 true g20
theorem okMx{P:Program}(hm:P.follows .mixedOrders=true)(h:EnvOK P Mw)(h14:PureOK P 14 g20):EnvOK P Mx:=((((h.pureAt (pure23m hm h)).pureAt (pure24m hm h)).pureAt (pure19m hm h)).pureAt (pure20m hm h)).pureAt h14
theorem x5(m n:Nat)(og ep co:Int)(na nm' nb ns:Bool)(zas ms bs ss:List D)(nl:Bool)(l:List D):Tree.out (enterM Mx (callN Mx (m+40)) n c5 [.d (stD og ep co na nm' nb ns zas ms bs ss),.d (.sl idSh nl l)] [])=bif !fewSt zas ms bs ss then some [D.bool true] else bif decide (30<(l.length:Int)) then some [D.bool true] else Tree.out (resume Mx (callN Mx (m+40)) n n 0 c5 { fr:=frame 39 [(1,V.d (D.sl idSh nl l)),(2,V.ptr 192 0),(5,V.d (D.int .i64 0))],ob:=[(192,Obj.box [V.d (D.int .i64 og),V.d (D.int .i64 ep),V.d (D.int .i64 co),V.d (D.sl accSh na zas),V.d (D.sl mrkSh nm' ms),V.d (D.sl defSh nb bs),V.d (D.sl sgSh ns ss)])] }):=by kernel_rfl
def v5(og ep co:Int)(na nm' nb ns:Bool)(zas ms bs ss:List D)(nl:Bool)(l:List D)(i:Int):St:= { fr:=frame 39 [(1,V.d (D.sl idSh nl l)),(2,V.ptr 192 0),(5,V.d (D.int .i64 i))],ob:=[(192,HS og ep co na nm' nb ns zas ms bs ss)] }
theorem y5(m n f:Nat)(og ep co:Int)(na nm' nb ns:Bool)(zas ms bs ss:List D)(nl:Bool)(l:List D)(i:Int):Tree.out (resume Mx (callN Mx (m+40)) n (f+1) 0 c5 (v5 og ep co na nm' nb ns zas ms bs ss nl l i))=bif decide (i<(l.length:Int)) then bif decide (0≤i∧i<(l.length:Int)) then bif decide (50<(↑(List.length (fl 2 (l.getD i.toNat .nilp))):Int)) then some [D.bool true] else Tree.out (resume Mx (callN Mx (m+40)) n f 0 c5 (v5 og ep co na nm' nb ns zas ms bs ss nl l (IntKind.wrap .i64 (i+1)))) else none else bif sgsShort ss&&decide (l.length≤1000000) then bif sgsShort ss&&decide (l.length≤1000000) then bif hopsIn 3 (toldL og ep co zas ms bs ss l (l.length) 0)&&decide (List.length (toldL og ep co zas ms bs ss l (l.length) 0)≤1000000) then bif notesEq (toldL og ep co zas ms bs ss l (l.length) 0) (toldL og ep co zas ms bs ss l (l.length) 0) then some [D.bool true] else some [D.bool false] else none else none else none:=by kernel_rfl
theorem noteEq_self(x:D):noteEq x x=true:=by
 unfold noteEq
 rw [refCmp_self]
 simp only [beq_self_eq_true,Bool.and_self]
theorem notesEq_self(a:List D):notesEq a a=true:=by
 unfold notesEq
 rw [allN_iff.2 fun i _=>noteEq_self _];simp
def nilS(ss:List D):Prop:= ∀i,i<ss.length→(fn 2 (ss.getD i .nilp)=true→fl 2 (ss.getD i .nilp)=[])∧(fn 4 (ss.getD i .nilp)=true→fl 4 (ss.getD i .nilp)=[])∧(fn 7 (ss.getD i .nilp)=true→fl 7 (ss.getD i .nilp)=[])
def nilB(bs:List D):Prop:= ∀i,i<bs.length→(fn 1 (bs.getD i .nilp)=true→fl 1 (bs.getD i .nilp)=[])
theorem few_short{zas ms bs ss:List D}(h:fewSt zas ms bs ss=true)(h1:nilS ss)(h2:nilB bs):sgsShort ss=true∧bookShort bs=true:=by
 unfold fewSt fewB at h
 simp only [Bool.and_eq_true,Bool.not_eq_true',decide_eq_false_iff_not,allN_iff] at h
 obtain ⟨-,-,hs,⟨hb,hd⟩,hf,-⟩:=h
 constructor
 ·unfold sgsShort
  rw [decide_eq_true (by omega),Bool.and_true,allN_iff]
  intro i hi
  have:=hf i hi
  unfold fewS few at this
  simp only [Bool.and_eq_true,decide_eq_true_eq] at this
  obtain ⟨a,b,c⟩:=h1 i hi
  unfold sgShort
  rw [shortL_iff.2 ⟨a,by omega⟩,shortL_iff.2 ⟨b,by omega⟩,shortL_iff.2 ⟨c,by omega⟩];rfl
 ·unfold bookShort
  rw [decide_eq_true (by omega),Bool.and_true,allN_iff]
  intro i hi
  have:=hd i hi
  exact shortL_iff.2 ⟨h2 i hi,by omega⟩
theorem told_in{og ep co:Int}{zas ms bs ss l:List D}(h:sgsShort ss=true): ∀d i,(toldL og ep co zas ms bs ss l d i).length≤d∧ ∀x∈toldL og ep co zas ms bs ss l d i,(fl 3 x).length≤1000000
 | 0,_=>⟨Nat.le_refl _,fun x hx=>by simp [toldL] at hx⟩
 | d+1,i=>by
  obtain ⟨a,b⟩:=told_in h d (i+1)
  have e:toldL og ep co zas ms bs ss l (d+1) i=tlL og ep co zas ms bs ss l i++toldL og ep co zas ms bs ss l d (i+1):=rfl
  rw [e]
  unfold tlL
  cases hc:((mayR og ep co zas ms bs ss&&decide (0≤idxS (fi 0 (l.getD i .nilp)) (fi 1 (l.getD i .nilp)) (fl 2 (l.getD i .nilp)) ss))&&tellOk (fi 0 (xL ss l i)) (fi 1 (xL ss l i)) (fi 5 (xL ss l i)) (fi 6 (xL ss l i)) (fb 8 (xL ss l i)) (fl 2 (xL ss l i)) (fl 4 (xL ss l i)) (fl 7 (xL ss l i)) (fs 3 (xL ss l i)))
  ·simp only [cond_false,List.nil_append]
   exact ⟨by omega,b⟩
  ·simp only [cond_true,List.cons_append,List.nil_append,List.length_cons,List.mem_cons]
   refine ⟨by omega,?_⟩
   rintro x (rfl | hx)
   ·simp only [Bool.and_eq_true,decide_eq_true_eq] at hc
    have:=(shortL_iff.1 (short_at h hc.1.2).1).2
    rw [←xL_nat] at this
    exact this
   ·exact b x hx
theorem tolds(m n:Nat)(og ep co:Int)(na nm' nb ns:Bool)(zas ms bs ss:List D)(nl:Bool)(l:List D)(h1:nilS ss)(h2:nilB bs)(hn:30<n):
  (enterM Mx (callN Mx (m+40)) n c5 [.d (stD og ep co na nm' nb ns zas ms bs ss),.d (.sl idSh nl l)] []).out=some [.bool true]:=by
 rw [x5]
 cases hf:fewSt zas ms bs ss
 ·rfl
 ·refine (cf rfl).trans ?_
  by_cases he:30<(l.length:Int)
  ·rw [decide_eq_true he];rfl
  ·rw [decide_eq_false he]
   refine (cf rfl).trans ?_
   obtain ⟨a,-⟩:=few_short hf h1 h2
   obtain ⟨b1,b2⟩:=told_in (og:=og) (ep:=ep) (co:=co) (zas:=zas) (ms:=ms) (bs:=bs) (l:=l) a l.length 0
   have b3:hopsIn 3 (toldL og ep co zas ms bs ss l l.length 0)=true:=allN_iff.2 fun i hi=>decide_eq_true (b2 _ (getD_mem hi))
   have:=scan_loop (fun j i=>(resume Mx (callN Mx (m+40)) n j 0 c5 (v5 og ep co na nm' nb ns zas ms bs ss nl l (i:Nat))).out) l.length (fun i=>decide (50<((fl 2 (l.getD i .nilp)).length:Int))) (fun _=>[D.bool true]) [.bool true]
    (fun j i hi=> ?_) (fun j=> ?_) l.length 0 n (by omega) (by omega)
   ·refine this.trans ?_
    have: ∀k i,scan (fun i=>decide (50<((fl 2 (l.getD i .nilp)).length:Int))) (fun _=>[D.bool true]) [D.bool true] k i=[D.bool true]:=by
     intro k
     induction k with
     | zero=>intro i;rfl
     | succ k ih=>
      intro i
      simp only [scan,ih]
      cases decide (50<((fl 2 (l.getD i .nilp)).length:Int)) <;> rfl
    rw [this]
   ·rw [y5]
    simp only [Int.toNat_natCast,wrap_up hi (show l.length≤1000000 by omega)]
    exact (ct (dec_lt hi)).trans (ct (dec_ix hi))
   ·rw [y5]
    refine (cf (dec_end _)).trans ?_
    rw [a,b3,decide_eq_true (show l.length≤1000000 by omega),decide_eq_true (show (toldL og ep co zas ms bs ss l l.length 0).length≤1000000 by omega),notesEq_self]
    rfl
theorem pure155{P:Program}(hm:P.follows .mixedOrders=true)(h0:EnvOK P M3):PureOK P 155 g155:=PureOK.run hm h0 fun ds rs h=>by
 unfold g155 at h
 split at h
 ·rename_i ea na zas em nm ms s
  split at h
  ·rename_i hb
   simp only [Bool.and_eq_true] at hb
   have hb0:=Sh.beq_eq hb.1
   have hb1:=Sh.beq_eq hb.2
   subst hb0 hb1
   obtain ⟨hg,h'⟩:=eval_guard h
   clear h
   simp only [decide_eq_true_eq] at hg
   cases h'
   exact ⟨59+1,by rw [callN_succ (fn:=c155) rfl];exact run155 19 59 na nm zas ms s hg⟩
  ·cases h
 ·cases h
theorem kv_loop(m n:Nat)(na nm':Bool)(zas ms:List D)(hl:ms.length≤1000000): ∀k i j kv,i+k=ms.length→k<j→kv=(ms.take i).foldl pendStep []→
  (resume M3 (callN M3 (m+40)) n j 0 c158 (s158 na nm' zas ms kv (i:Nat))).eval=some (.mp 640,[(128,.box [V.d (D.sl accSh na zas),V.d (D.sl mrkSh nm' ms)]),(640,AM.Obj.map Sh.str i4Sh (pendKV ms))]):=by
 intro k
 induction k with
 | zero=>
  intro i j kv hi hj hp
  cases j with
  | zero=>omega
  | succ j=>
   have:i=ms.length:=by omega
   subst this
   rw [List.take_length] at hp
   have hp:pendKV ms=kv:=hp.symm
   rw [l158,hp]
   exact cf (dec_end _)
 | succ k ih=>
  intro i j kv hi hj hp
  cases j with
  | zero=>omega
  | succ j=>
   have hlt:i<ms.length:=by omega
   have next:=ih (i+1) j (pendStep kv (ms.getD i .nilp)) (by omega) (by omega) (by
    rw [List.take_add_one,List.getElem?_eq_getElem hlt,List.foldl_append,←hp,List.getD_eq_getElem?_getD,List.getElem?_eq_getElem hlt];rfl)
   rw [l158]
   simp only [Int.toNat_natCast,wrap_up hlt hl]
   refine (ct (dec_lt hlt)).trans ((ct (dec_ix hlt)).trans ?_)
   unfold pendStep at next
   cases h1:(fi 4 (ms.getD i .nilp) != 1)
   ·rw [h1] at next
    exact next
   ·rw [h1] at next
    exact next
theorem run158(m n:Nat)(na nm':Bool)(zas ms:List D)(hl:ms.length≤1000000)(hn:ms.length<n):(enterM M3 (callN M3 (m+40)) n c158 [.d (.agg [.sl accSh na zas,.sl mrkSh nm' ms])] []).eval=some (.mp 640,[(128,.box [V.d (D.sl accSh na zas),V.d (D.sl mrkSh nm' ms)]),(640,AM.Obj.map Sh.str i4Sh (pendKV ms))]):=by
 rw [e158]
 exact kv_loop m n na nm' zas ms hl ms.length 0 n [] (by omega) (by omega) rfl
theorem fn158{P:Program}(hm:P.follows .mixedOrders=true)(h0:EnvOK P M3):FnOK P 158 C158:=FnOK.run hm h0 fun args ob r h=>by
 unfold C158 at h
 split at h
 ·rename_i ea na zas em nm ms
  split at h
  ·rename_i hb
   simp only [Bool.and_eq_true] at hb
   have hb0:=Sh.beq_eq hb.1
   have hb1:=Sh.beq_eq hb.2
   subst hb0 hb1
   obtain ⟨hg,h'⟩:=eval_guard h
   clear h
   simp only [decide_eq_true_eq] at hg
   cases h'
   exact ⟨(ms.length+40)+1,by rw [callN_succ (fn:=c158) rfl];exact run158 ms.length (ms.length+40) na nm zas ms hg (by omega)⟩
  ·cases h
 ·cases h
theorem okM6{P:Program}(hm:P.follows .mixedOrders=true)(h:EnvOK P M3):EnvOK P M6:=(h.pureAt (pure155 hm h)).genAt (fn158 hm h)
theorem okM2:EnvOK Tryz.prog M2:=(okM1 mixed okZK2).pureAt pure192
theorem okM3t:EnvOK Tryz.prog M3:=okM3 mixed okM2
theorem okM6t:EnvOK Tryz.prog M6:=okM6 mixed okM3t
theorem okMgt:EnvOK Tryz.prog Mg:=okMg mixed (okMd mixed okM3t okM6t (okM9 mixed okM6t))
theorem okMit:EnvOK Tryz.prog Mi:=okMi mixed okMgt (okMh mixed (okF4 mixed okE19) (okF5 mixed okE19) okMgt)
theorem okMpt:EnvOK Tryz.prog Mp:=okMp mixed okMgt okMit
theorem okMqt:EnvOK Tryz.prog Mq:=okMq mixed okE19 okMpt
theorem okMxt:EnvOK Tryz.prog Mx:=okMx mixed (okMw mixed (okMu mixed (okMt mixed (okMs mixed okMqt)))) pure14
def accTy:Ty:= .st [.str,.st [.int .i64,.int .i64,.int .i64],.st [.int .i64,.int .i64,.int .i64]]
def mrkTy:Ty:= .st [.str,.st [.int .i64,.str,.int .i64],.int .i64]
def defTy:Ty:= .st [.str,.sl stepTy]
def stateTy:Ty:= .st [.int .i64,.int .i64,.int .i64,.st [.sl accTy,.sl mrkTy],.sl defTy,.sl sagaTy]
def idTy:Ty:= .st [.int .i64,.int .i64,.sl hopTy]
theorem def_in{x:D}(h0:WF defTy.sh x): ∃nm nil es,x= .agg [.str nm,.sl stepSh nil es]∧(nil=true→es=[]):=by
 obtain ⟨cs,rfl,h⟩:=WF.inv_agg h0
 obtain ⟨_,_,rfl,a1,h⟩:=h.inv
 obtain ⟨_,_,rfl,a2,h⟩:=h.inv
 obtain rfl:=h.inv_nil
 obtain ⟨nm,rfl⟩:=a1.inv_str
 obtain ⟨nil,es,rfl,b,-⟩:=a2.inv_sl
 exact ⟨nm,nil,es,rfl,b⟩
theorem state_in{x:D}(h0:WF stateTy.sh x): ∃og ep co na nm nb ns ac ms bs ss,x=stD og ep co na nm nb ns ac ms bs ss∧nilS ss∧nilB bs:=by
 obtain ⟨cs,rfl,h⟩:=WF.inv_agg h0
 obtain ⟨_,_,rfl,a1,h⟩:=h.inv
 obtain ⟨_,_,rfl,a2,h⟩:=h.inv
 obtain ⟨_,_,rfl,a3,h⟩:=h.inv
 obtain ⟨_,_,rfl,a4,h⟩:=h.inv
 obtain ⟨_,_,rfl,a5,h⟩:=h.inv
 obtain ⟨_,_,rfl,a6,h⟩:=h.inv
 obtain ⟨_,_,rfl,a7,h⟩:=h.inv
 obtain rfl:=h.inv_nil
 obtain ⟨og,rfl⟩:=a1.inv_int
 obtain ⟨ep,rfl⟩:=a2.inv_int
 obtain ⟨co,rfl⟩:=a3.inv_int
 obtain ⟨na,ac,rfl,-,-⟩:=a4.inv_sl
 obtain ⟨nm,ms,rfl,-,-⟩:=a5.inv_sl
 obtain ⟨nb,bs,rfl,-,hb⟩:=a6.inv_sl
 obtain ⟨ns,ss,rfl,-,hs⟩:=a7.inv_sl
 refine ⟨og,ep,co,na,nm,nb,ns,ac,ms,bs,ss,rfl,fun i hi=> ?_,fun i hi=> ?_⟩
 ·obtain ⟨rt,nn,st,wy,n1,n2,n3,fc,hops,steps,parts,nm,e,b1,b2,b3⟩:=saga_in (hs _ (getD_mem hi))
  rw [e]
  exact ⟨b1,b2,b3⟩
 ·obtain ⟨nm,nil,es,e,b⟩:=def_in (hb _ (getD_mem hi))
  rw [e]
  exact b
theorem law_true{E:Env}{f:Nat}{tys:List Ty}(hE:EnvOK Tryz.prog E)(h: ∀ds,WFs tys ds→ ∃n,(callN E n f (ds.map .d) []).out=some [.bool true]):
  ∃g,PureOK Tryz.prog f g∧ ∀xs,WFs tys xs→(g xs).eval=some [.bool true]:=by
 refine ⟨fun ds=> @ite _ (WFs tys ds) (Classical.propDecidable _) (.ret [D.bool true]) .stuck,PureOK.run mixed hE fun ds rs hr=> ?_,fun xs hw=> ?_⟩
 ·by_cases hw:WFs tys ds
  ·rw [if_pos hw] at hr
   cases hr
   exact h ds hw
  ·rw [if_neg hw] at hr
   cases hr
 ·show Tree.eval (@ite _ (WFs tys xs) (Classical.propDecidable _) (.ret [D.bool true]) .stuck)=_
  rw [if_pos hw];rfl
def tabs4:List (String×DataW Unit):=Rows.childTakesRow.laid
theorem tabs4_met(os:Os)(args:Array Value):laidMetH Tryz.prog tabs4 ((World.laidAll Tryz.prog os tabs4).forCall (fun _ _=>0) ⟨#[],args,[]⟩).memory:=by
 rw [MakeChecks.laidMetH_plain _ _ _ (by kernel_rfl)]
 exact laidMet_laidAll _ (by kernel_rfl) (by kernel_rfl)
theorem tabs4_pow : ("internal/strconv.uint64pow10", (Rows.laid_internal_strconv_uint64pow10 : DataW Unit)) ∈ tabs4 := .tail _ (.tail _ (.head _))
end Go.Proofs.YtkjiaijkdefkgaaGreatDoor.A
