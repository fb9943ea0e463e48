/- Parts of the walk: QBf, Bj, VB0, VB1, VB2, VB3, VB4, PO, VB5, AMIns3. -/
import Derived.Test.YtlhageadjmoajaaDoorGe
import Derived.KernelRfl
set_option maxRecDepth 20000
open Go Go.AM Go.Proofs
namespace Go.Proofs.YtlhageadjmoajaaDoor.A
theorem x2004(m n:Nat)(nb nm:Bool)(bs ms:List D):Tree.out (enterM Bi (callN Bi (m+40)) n c4 [.d (.sl defSh nb bs),.d (.sl defSh nm ms)] [])=bif !fewB bs then some [D.bool true] else bif !fewB ms then some [D.bool true] else bif bookShort bs&&bookShort ms then bif bookOk bs then bif Prod.fst (addE (List.map dX bs) ms)==0 then bif decide (List.length ms≤1000000) then bif bookOk bs then bif Prod.fst (addE bs ms)==0 then bif bookShort (Prod.snd (addE (List.map dX bs) ms)) then bif sameB (Prod.snd (addE (List.map dX bs) ms)) (Prod.snd (addE bs ms)) then some [D.bool true] else some [D.bool false] else none else bif bookShort (Prod.snd (addE (List.map dX bs) ms)) then bif sameB (Prod.snd (addE (List.map dX bs) ms)) [] then bif 0==Prod.fst (addE bs ms) then some [D.bool true] else some [D.bool false] else some [D.bool false] else none else bif bookShort (Prod.snd (addE (List.map dX bs) ms)) then bif sameB (Prod.snd (addE (List.map dX bs) ms)) [] then some [D.bool false] else some [D.bool false] else none else none else bif decide (List.length ms≤1000000) then bif bookOk bs then bif Prod.fst (addE bs ms)==0 then bif sameB [] (Prod.snd (addE bs ms)) then bif Prod.fst (addE (List.map dX bs) ms)==0 then some [D.bool true] else some [D.bool false] else some [D.bool false] else bif Prod.fst (addE (List.map dX bs) ms)==Prod.fst (addE bs ms) then some [D.bool true] else some [D.bool false] else bif Prod.fst (addE (List.map dX bs) ms)==2 then some [D.bool true] else some [D.bool false] else none else bif decide (List.length ms≤1000000) then bif bookOk bs then bif Prod.fst (addE bs ms)==0 then bif sameB [] (Prod.snd (addE bs ms)) then some [D.bool false] else some [D.bool false] else bif 2==Prod.fst (addE bs ms) then some [D.bool true] else some [D.bool false] else some [D.bool true] else none else none:=by kernel_rfl
theorem x2005(m n:Nat)(nb nm:Bool)(bs ms:List D):Tree.out (enterM Bi (callN Bi (m+40)) n c5 [.d (.sl defSh nb bs),.d (.sl defSh nm ms)] [])=bif !fewB bs then some [D.bool true] else bif !fewB ms then some [D.bool true] else bif bookShort bs&&bookShort ms then bif bookOk bs then bif Prod.fst (addE (List.map dX bs) ms)==0 then Tree.out (resume Bi (callN Bi (m+40)) n n 0 c5 { fr:=frame 108 [(0,V.d (D.sl (Sh.agg [Sh.str,Sh.sl stepSh]) nb bs)),(1,V.d (D.sl (Sh.agg [Sh.str,Sh.sl stepSh]) nm ms)),(5,V.d (D.sl (Sh.agg [Sh.str,Sh.sl stepSh]) (List.isEmpty (Prod.snd (addE (List.map dX bs) ms))) (Prod.snd (addE (List.map dX bs) ms)))),(7,V.d (D.sl (Sh.agg [Sh.str,Sh.sl stepSh]) true [])),(8,V.d (D.int .i64 (IntKind.wrap .i64 ((↑(List.length ms):Int) - 1))))],ob:=[] }) else bif Prod.fst (addE (List.map dX bs) ms) != 0 then some [D.bool true] else Tree.out (resume Bi (callN Bi (m+40)) n n 0 c5 { fr:=frame 108 [(0,V.d (D.sl (Sh.agg [Sh.str,Sh.sl stepSh]) nb bs)),(1,V.d (D.sl (Sh.agg [Sh.str,Sh.sl stepSh]) nm ms)),(5,V.d (D.sl (Sh.agg [Sh.str,Sh.sl stepSh]) true [])),(7,V.d (D.sl (Sh.agg [Sh.str,Sh.sl stepSh]) true [])),(8,V.d (D.int .i64 (IntKind.wrap .i64 ((↑(List.length ms):Int) - 1))))],ob:=[] }) else some [D.bool true] else none:=by kernel_rfl
def v5a(nb nm:Bool)(bs ms:List D)(fa:Bool)(a:List D)(x:V)(l:Obs)(i:Int):St:= { fr:=frame 108 [(0,V.d (D.sl defSh nb bs)),(1,V.d (D.sl defSh nm ms)),(5,V.d (D.sl defSh fa a)),(7,x),(8,V.d (D.int .i64 i))],ob:=l }
theorem y2005(m n f:Nat)(nb nm:Bool)(bs ms:List D)(fa:Bool)(a:List D)(i:Int):Tree.out (resume Bi (callN Bi (m+40)) n (f+1) 0 c5 (v5a nb nm bs ms fa a (.d (.sl defSh true [])) [] i))=bif decide (0≤i) then bif decide (0≤i∧i<(↑(List.length ms):Int)) then Tree.out (resume Bi (callN Bi (m+40)) n f 0 c5 { fr:=frame 108 [(0,V.d (D.sl (Sh.agg [Sh.str,Sh.sl stepSh]) nb bs)),(1,V.d (D.sl (Sh.agg [Sh.str,Sh.sl stepSh]) nm ms)),(5,V.d (D.sl (Sh.agg [Sh.str,Sh.sl stepSh]) fa a)),(7,V.own 3264),(8,V.d (D.int .i64 (IntKind.wrap .i64 (i - 1))))],ob:=[(3264,Obj.lst (Sh.agg [Sh.str,Sh.sl stepSh]) false false false [D.agg [D.str (fs 0 (List.getD ms (Int.toNat i) D.nilp)),D.sl stepSh (fn 1 (List.getD ms (Int.toNat i) D.nilp)) (fl 1 (List.getD ms (Int.toNat i) D.nilp))]])] }) else none else bif bookShort bs&&true then bif bookOk bs then bif Prod.fst (addE (List.map dX bs) [])==0 then bif bookShort a then bif !sameB a (Prod.snd (addE (List.map dX bs) [])) then some [D.bool false] else bif (↑(List.length a):Int) != IntKind.wrap .i64 ((↑(List.length bs):Int)+(↑(List.length ms):Int)) then some [D.bool false] else bif (bif bookOk a then (0:Int) else (2:Int)) != 0 then some [D.bool false] else Tree.out (resume Bi (callN Bi (m+40)) n n 1 c5 { fr:=frame 108 [(1,V.d (D.sl (Sh.agg [Sh.str,Sh.sl stepSh]) nm ms)),(5,V.d (D.sl (Sh.agg [Sh.str,Sh.sl stepSh]) fa a)),(11,V.d (D.int .i64 0))],ob:=[] }) else none else bif Prod.fst (addE (List.map dX bs) []) != 0 then some [D.bool false] else bif bookShort a then bif !sameB a [] then some [D.bool false] else bif (↑(List.length a):Int) != IntKind.wrap .i64 ((↑(List.length bs):Int)+(↑(List.length ms):Int)) then some [D.bool false] else bif (bif bookOk a then (0:Int) else (2:Int)) != 0 then some [D.bool false] else Tree.out (resume Bi (callN Bi (m+40)) n n 1 c5 { fr:=frame 108 [(1,V.d (D.sl (Sh.agg [Sh.str,Sh.sl stepSh]) nm ms)),(5,V.d (D.sl (Sh.agg [Sh.str,Sh.sl stepSh]) fa a)),(11,V.d (D.int .i64 0))],ob:=[] }) else none else some [D.bool false] else none:=by kernel_rfl
theorem z2005(m n f:Nat)(nb nm:Bool)(bs ms:List D)(fa:Bool)(a:List D)(nl mv:Bool)(tl:List D)(i:Int):Tree.out (resume Bi (callN Bi (m+40)) n (f+1) 0 c5 (v5a nb nm bs ms fa a (.own 3264) [(3264,.lst defSh nl mv false tl)] i))=bif decide (0≤i) then bif decide (0≤i∧i<(↑(List.length ms):Int)) then bif decide (List.length tl+1≤4294967296) then Tree.out (resume Bi (callN Bi (m+40)) n f 0 c5 { fr:=frame 108 [(0,V.d (D.sl (Sh.agg [Sh.str,Sh.sl stepSh]) nb bs)),(1,V.d (D.sl (Sh.agg [Sh.str,Sh.sl stepSh]) nm ms)),(5,V.d (D.sl (Sh.agg [Sh.str,Sh.sl stepSh]) fa a)),(7,V.own 3264),(8,V.d (D.int .i64 (IntKind.wrap .i64 (i - 1))))],ob:=[(3264,Obj.lst (Sh.agg [Sh.str,Sh.sl stepSh]) (nl&&false) true false (List.append tl [D.agg [D.str (fs 0 (List.getD ms (Int.toNat i) D.nilp)),D.sl stepSh (fn 1 (List.getD ms (Int.toNat i) D.nilp)) (fl 1 (List.getD ms (Int.toNat i) D.nilp))]]))] }) else none else none else bif bookShort bs&&bookShort tl then bif bookOk bs then bif Prod.fst (addE (List.map dX bs) tl)==0 then bif bookShort a then bif !sameB a (Prod.snd (addE (List.map dX bs) tl)) then some [D.bool false] else bif (↑(List.length a):Int) != IntKind.wrap .i64 ((↑(List.length bs):Int)+(↑(List.length ms):Int)) then some [D.bool false] else bif (bif bookOk a then (0:Int) else (2:Int)) != 0 then some [D.bool false] else Tree.out (resume Bi (callN Bi (m+40)) n n 1 c5 { fr:=frame 108 [(1,V.d (D.sl (Sh.agg [Sh.str,Sh.sl stepSh]) nm ms)),(5,V.d (D.sl (Sh.agg [Sh.str,Sh.sl stepSh]) fa a)),(11,V.d (D.int .i64 0))],ob:=[(3264,Obj.lst (Sh.agg [Sh.str,Sh.sl stepSh]) nl mv true tl)] }) else none else bif Prod.fst (addE (List.map dX bs) tl) != 0 then some [D.bool false] else bif bookShort a then bif !sameB a [] then some [D.bool false] else bif (↑(List.length a):Int) != IntKind.wrap .i64 ((↑(List.length bs):Int)+(↑(List.length ms):Int)) then some [D.bool false] else bif (bif bookOk a then (0:Int) else (2:Int)) != 0 then some [D.bool false] else Tree.out (resume Bi (callN Bi (m+40)) n n 1 c5 { fr:=frame 108 [(1,V.d (D.sl (Sh.agg [Sh.str,Sh.sl stepSh]) nm ms)),(5,V.d (D.sl (Sh.agg [Sh.str,Sh.sl stepSh]) fa a)),(11,V.d (D.int .i64 0))],ob:=[(3264,Obj.lst (Sh.agg [Sh.str,Sh.sl stepSh]) nl mv true tl)] }) else none else some [D.bool false] else none:=by kernel_rfl
def v5b(nm:Bool)(ms:List D)(fa:Bool)(a:List D)(i:Int):St:= { fr:=frame 108 [(1,V.d (D.sl defSh nm ms)),(5,V.d (D.sl defSh fa a)),(11,V.d (D.int .i64 i))],ob:=[] }
theorem w2005(m n f:Nat)(nm:Bool)(ms:List D)(fa:Bool)(a:List D)(i:Int):Tree.out (resume Bi (callN Bi (m+40)) n (f+1) 1 c5 (v5b nm ms fa a i))=bif decide (i<(↑(List.length ms):Int)) then bif decide (0≤i∧i<(↑(List.length ms):Int)) then bif bookShort a then bif bookOk a&&decide (0≤nameIdx (fs 0 (List.getD ms (Int.toNat i) D.nilp)) a) then bif decide (0≤i∧i<(↑(List.length ms):Int)) then bif decide (List.length (fl 1 (List.getD a (Int.toNat (nameIdx (fs 0 (List.getD ms (Int.toNat i) D.nilp)) a)) D.nilp))≤1000000) then bif !(fs 0 (List.getD a (Int.toNat (nameIdx (fs 0 (List.getD ms (Int.toNat i) D.nilp)) a)) D.nilp)==fs 0 (List.getD ms (Int.toNat i) D.nilp)&&stepsEq (fl 1 (List.getD a (Int.toNat (nameIdx (fs 0 (List.getD ms (Int.toNat i) D.nilp)) a)) D.nilp)) (fl 1 (List.getD ms (Int.toNat i) D.nilp))) then some [D.bool false] else Tree.out (resume Bi (callN Bi (m+40)) n f 1 c5 { fr:=frame 108 [(1,V.d (D.sl (Sh.agg [Sh.str,Sh.sl stepSh]) nm ms)),(5,V.d (D.sl (Sh.agg [Sh.str,Sh.sl stepSh]) fa a)),(11,V.d (D.int .i64 (IntKind.wrap .i64 (i+1))))],ob:=[] }) else none else none else some [D.bool false] else none else none else some [D.bool true]:=by kernel_rfl
def v5c(nm:Bool)(ms:List D)(fa:Bool)(a:List D)(nl mv:Bool)(tl:List D)(i:Int):St:= { fr:=frame 108 [(1,V.d (D.sl defSh nm ms)),(5,V.d (D.sl defSh fa a)),(11,V.d (D.int .i64 i))],ob:=[(3264,.lst defSh nl mv true tl)] }
theorem u2005(m n f:Nat)(nm:Bool)(ms:List D)(fa:Bool)(a:List D)(nl mv:Bool)(tl:List D)(i:Int):Tree.out (resume Bi (callN Bi (m+40)) n (f+1) 1 c5 (v5c nm ms fa a nl mv tl i))=bif decide (i<(↑(List.length ms):Int)) then bif decide (0≤i∧i<(↑(List.length ms):Int)) then bif bookShort a then bif bookOk a&&decide (0≤nameIdx (fs 0 (List.getD ms (Int.toNat i) D.nilp)) a) then bif decide (0≤i∧i<(↑(List.length ms):Int)) then bif decide (List.length (fl 1 (List.getD a (Int.toNat (nameIdx (fs 0 (List.getD ms (Int.toNat i) D.nilp)) a)) D.nilp))≤1000000) then bif !(fs 0 (List.getD a (Int.toNat (nameIdx (fs 0 (List.getD ms (Int.toNat i) D.nilp)) a)) D.nilp)==fs 0 (List.getD ms (Int.toNat i) D.nilp)&&stepsEq (fl 1 (List.getD a (Int.toNat (nameIdx (fs 0 (List.getD ms (Int.toNat i) D.nilp)) a)) D.nilp)) (fl 1 (List.getD ms (Int.toNat i) D.nilp))) then some [D.bool false] else Tree.out (resume Bi (callN Bi (m+40)) n f 1 c5 { fr:=frame 108 [(1,V.d (D.sl (Sh.agg [Sh.str,Sh.sl stepSh]) nm ms)),(5,V.d (D.sl (Sh.agg [Sh.str,Sh.sl stepSh]) fa a)),(11,V.d (D.int .i64 (IntKind.wrap .i64 (i+1))))],ob:=[(3264,Obj.lst (Sh.agg [Sh.str,Sh.sl stepSh]) nl mv true tl)] }) else none else none else some [D.bool false] else none else none else some [D.bool true]:=by kernel_rfl
open Go Go.AM
set_option maxRecDepth 20000
theorem dX_dX(d:D):dX (dX d)=dX d:=rfl
theorem getD_map(bs:List D)(k:Nat):fs 0 ((bs.map dX).getD k .nilp)=fs 0 (bs.getD k .nilp):=by
 rw [List.getD_eq_getElem?_getD,List.getD_eq_getElem?_getD,List.getElem?_map]
 cases bs[k]? <;> rfl
theorem plc_map(s:List UInt8)(bs:List D):plc s (bs.map dX)=plc s bs:=by
 unfold plc
 rw [List.length_map]
 congr 1
 funext i
 unfold lessAt
 rw [getD_map]
theorem there_map(s:List UInt8)(bs:List D):there s (bs.map dX)=there s bs:=by
 rw [there_eq,there_eq,plc_map,List.length_map,getD_map]
theorem insD_map(s:List UInt8)(d:D)(bs:List D):insD s (dX d) (bs.map dX)=(insD s (dX d) bs).map dX:=by
 unfold insD
 rw [plc_map,List.map_append,List.map_cons,List.map_take,List.map_drop,dX_dX]
theorem addE_map: ∀(ms bs:List D),addE (bs.map dX) ms=((addE bs ms).1,(addE bs ms).2.map dX)
 | [],bs=>rfl
 | d :: ms,bs=>by
  rw [addE_cons,addE_cons,there_map,List.length_map]
  cases okX d
  ·rfl
  ·cases there (fs 0 d) bs
   ·cases ((bs.length:Int)==8)
    ·have:=addE_map ms (insD (fs 0 d) (dX d) bs)
     rw [←insD_map] at this
     exact this
    ·rfl
   ·rfl
theorem addE_dX: ∀(ms bs:List D),addE bs (ms.map dX)=addE bs ms
 | [],bs=>rfl
 | d :: ms,bs=>by
  rw [List.map_cons,addE_cons,addE_cons,show okX (dX d)=okX d from rfl,show fs 0 (dX d)=fs 0 d from rfl,dX_dX,addE_dX ms]
theorem rising_map{bs:List D}(h:Rising bs):Rising (bs.map dX):=by
 rw [rising_pw] at h ⊢
 exact h.map dX fun a b hab=>hab
theorem allN_self(p:Nat→Bool)(n:Nat)(h: ∀i,i<n→p i=true):allN p n=true:=allN_iff.2 h
theorem sameB_map(bs:List D):sameB (bs.map dX) bs=true:=by
 unfold sameB
 have h1:((((bs.map dX).length:Nat):Int) != (bs.length:Int))=false:=by rw [List.length_map];simp
 rw [h1]
 refine Bool.and_eq_true_iff.2 ⟨rfl,allN_self _ _ fun i hi=> ?_⟩
 rw [List.length_map] at hi
 have e:(bs.map dX).getD i .nilp=dX (bs.getD i .nilp):=by
  rw [List.getD_eq_getElem?_getD,List.getD_eq_getElem?_getD,List.getElem?_map,List.getElem?_eq_getElem hi];rfl
 rw [e,show fs 0 (dX (bs.getD i .nilp))=fs 0 (bs.getD i .nilp) from rfl,show fl 1 (dX (bs.getD i .nilp))=fl 1 (bs.getD i .nilp) from rfl,stepsEq_self,beq_self_eq_true];rfl
theorem sameB_self(bs:List D):sameB bs bs=true:=by
 unfold sameB
 refine Bool.and_eq_true_iff.2 ⟨by simp,allN_self _ _ fun i hi=> ?_⟩
 rw [stepsEq_self,beq_self_eq_true];rfl
theorem short_mem{bs:List D}:bookShort bs=true↔bs.length≤1000000∧ ∀x∈bs,shortL (fn 1 x) (fl 1 x)=true:=by
 constructor
 ·intro h
  obtain ⟨h1,h2⟩:=book_short h
  refine ⟨h1,fun x hx=> ?_⟩
  obtain ⟨i,hi,rfl⟩:=List.getElem_of_mem hx
  have:=h2 i hi
  rw [getD_lt hi] at this
  exact this
 ·rintro ⟨h1,h2⟩
  unfold bookShort
  rw [decide_eq_true h1,Bool.and_true,allN_iff]
  intro i hi
  rw [getD_lt hi]
  exact h2 _ (List.getElem_mem hi)
theorem short_map{bs:List D}(h:bookShort bs=true):bookShort (bs.map dX)=true:=by
 obtain ⟨h1,h2⟩:=short_mem.1 h
 refine short_mem.2 ⟨by rw [List.length_map];exact h1,fun x hx=> ?_⟩
 obtain ⟨y,hy,rfl⟩:=List.mem_map.1 hx
 exact h2 y hy
theorem short_add{bs ms r:List D}(hb:bookShort bs=true)(hs:bookShort ms=true)(hk:bookOk bs=true)(he:(addE bs ms).1=0)(hr:r=(addE (bs.map dX) ms).2):bookShort r=true:=by
 have e:addE (bs.map dX) ms=(0,r):=by
  rw [hr,addE_map,he]
 obtain ⟨-,q2,q3,-⟩:=addE_ok ms (bs.map dX) r (rising_map (book_rising hk)) (by rw [List.length_map];exact book_8 hk) e
 refine short_mem.2 ⟨by omega,fun x hx=> ?_⟩
 have hx:=q2.mem_iff.1 hx
 rcases List.mem_append.1 hx with hx | hx
 ·exact (short_mem.1 (short_map hb)).2 x hx
 ·exact (short_mem.1 (short_map hs)).2 x hx
theorem badds(m n:Nat)(nb nm:Bool)(bs ms:List D)(h1:nilB bs)(h2:nilB ms):(enterM Bi (callN Bi (m+40)) n c4 [.d (.sl defSh nb bs),.d (.sl defSh nm ms)] []).out=some [.bool true]:=by
 rw [x2004]
 cases hf:fewB bs
 ·rfl
 ·cases hg:fewB ms
  ·rfl
  ·have hb:=few_bookShort hf h1
   have hs:=few_bookShort hg h2
   rw [hb,hs,decide_eq_true (show ms.length≤1000000 from (book_short hs).1)]
   cases hk:bookOk bs
   ·rfl
   ·rw [addE_map]
    cases he:((addE bs ms).1==0)
    ·simp only [he,beq_self_eq_true];rfl
    ·have he0:(addE bs ms).1=0:=eq_of_beq he
     have hsh:bookShort ((addE bs ms).2.map dX)=true:=short_add hb hs hk he0 (by rw [addE_map])
     simp only [he,hsh,sameB_map]
     rfl
theorem book_of{bs:List D}(h:Rising bs)(h8:bs.length≤8)(ho: ∀x∈bs,okX x=true):bookOk bs=true:=by
 unfold bookOk
 rw [decide_eq_false (show¬(8:Int)<(bs.length:Int) by omega)]
 refine Bool.and_eq_true_iff.2 ⟨rfl,allN_self _ _ fun i hi=> ?_⟩
 unfold defAt
 rw [h i hi,Bool.and_true]
 have:=ho (bs.getD i .nilp) (by rw [getD_lt hi];exact List.getElem_mem hi)
 exact this
theorem book_okX{bs:List D}(h:bookOk bs=true): ∀x∈bs,okX x=true:=by
 intro x hx
 obtain ⟨i,hi,rfl⟩:=List.getElem_of_mem hx
 unfold bookOk at h
 rw [Bool.and_eq_true] at h
 have:=allN_iff.1 h.2 i hi
 unfold defAt at this
 rw [Bool.and_eq_true,getD_lt hi] at this
 exact this.1
theorem found_at{a ms:List D}(h:Rising a)(hm: ∀x∈ms,dX x∈a){i:Nat}(hi:i<ms.length):0≤nameIdx (fs 0 (ms.getD i .nilp)) a∧(a.getD (nameIdx (fs 0 (ms.getD i .nilp)) a).toNat .nilp)=dX (ms.getD i .nilp):=by
 have hmem:dX (ms.getD i .nilp)∈a:=hm _ (by rw [getD_lt hi];exact List.getElem_mem hi)
 obtain ⟨k,hk,ek⟩:=List.getElem_of_mem hmem
 have ht:there (fs 0 (ms.getD i .nilp)) a=true:=(there_mem h).2 ⟨_,hmem,rfl⟩
 have h0:0≤nameIdx (fs 0 (ms.getD i .nilp)) a:=by
  have:=there_idx h (fs 0 (ms.getD i .nilp))
  rw [ht] at this
  by_cases hc:nameIdx (fs 0 (ms.getD i .nilp)) a<0
  ·rw [decide_eq_true hc] at this;cases this
  ·omega
 refine ⟨h0,?_⟩
 obtain ⟨p1,p2,-⟩:=idxOf_pos (q:=fun x=>fs 0 x==fs 0 (ms.getD i .nilp)) (show 0≤idxOf (fun x=>fs 0 x==fs 0 (ms.getD i .nilp)) a from h0)
 rw [beq_iff_eq] at p2
 have hkn:fs 0 (a.getD k .nilp)=fs 0 (ms.getD i .nilp):=by rw [getD_lt hk,ek];rfl
 have:(nameIdx (fs 0 (ms.getD i .nilp)) a).toNat=k:=rising_inj h p1 hk (p2.trans hkn.symm)
 rw [this,getD_lt hk,ek]
theorem lpW(m n:Nat)(nm:Bool)(ms:List D)(fa:Bool)(a:List D)(hk:bookOk a=true)(hs:bookShort a=true)(hl:ms.length≤1000000)(hm: ∀x∈ms,dX x∈a): ∀d i f,i+d=ms.length→d<f→
  (resume Bi (callN Bi (m+40)) n f 1 c5 (v5b nm ms fa a (i:Nat))).out=some [.bool true]:=by
 intro d
 induction d with
 | zero=>
  intro i f hi hf
  cases f with
  | zero=>omega
  | succ f=>
   have:i=ms.length:=by omega
   subst this
   rw [w2005]
   exact cf (dec_end _)
 | succ d ih=>
  intro i f hi hf
  cases f with
  | zero=>omega
  | succ f=>
   have hlt:i<ms.length:=by omega
   obtain ⟨h0,he⟩:=found_at (book_rising hk) hm hlt
   have hmem:dX (ms.getD i .nilp)∈a:=hm _ (by rw [getD_lt hlt];exact List.getElem_mem hlt)
   have hlen:(fl 1 (ms.getD i .nilp)).length≤1000000:=by
    have:=(short_mem.1 hs).2 _ hmem
    unfold shortL at this
    rw [Bool.and_eq_true,decide_eq_true_eq] at this
    exact this.2
   rw [w2005,wrap_up hlt hl]
   simp only [Int.toNat_natCast,dec_lt hlt,dec_ix hlt,cond_true,hs,hk,decide_eq_true h0,Bool.and_self,he,show fs 0 (dX (ms.getD i .nilp))=fs 0 (ms.getD i .nilp) from rfl,show fl 1 (dX (ms.getD i .nilp))=fl 1 (ms.getD i .nilp) from rfl,decide_eq_true hlen,stepsEq_self,beq_self_eq_true,Bool.not_true,cond_false]
   exact ih (i+1) f (by omega) (by omega)
theorem lpU(m n:Nat)(nm:Bool)(ms:List D)(fa:Bool)(a:List D)(nl mv:Bool)(tl:List D)(hk:bookOk a=true)(hs:bookShort a=true)(hl:ms.length≤1000000)(hm: ∀x∈ms,dX x∈a): ∀d i f,i+d=ms.length→d<f→
  (resume Bi (callN Bi (m+40)) n f 1 c5 (v5c nm ms fa a nl mv tl (i:Nat))).out=some [.bool true]:=by
 intro d
 induction d with
 | zero=>
  intro i f hi hf
  cases f with
  | zero=>omega
  | succ f=>
   have:i=ms.length:=by omega
   subst this
   rw [u2005]
   exact cf (dec_end _)
 | succ d ih=>
  intro i f hi hf
  cases f with
  | zero=>omega
  | succ f=>
   have hlt:i<ms.length:=by omega
   obtain ⟨h0,he⟩:=found_at (book_rising hk) hm hlt
   have hmem:dX (ms.getD i .nilp)∈a:=hm _ (by rw [getD_lt hlt];exact List.getElem_mem hlt)
   have hlen:(fl 1 (ms.getD i .nilp)).length≤1000000:=by
    have:=(short_mem.1 hs).2 _ hmem
    unfold shortL at this
    rw [Bool.and_eq_true,decide_eq_true_eq] at this
    exact this.2
   rw [u2005,wrap_up hlt hl]
   simp only [Int.toNat_natCast,dec_lt hlt,dec_ix hlt,cond_true,hs,hk,decide_eq_true h0,Bool.and_self,he,show fs 0 (dX (ms.getD i .nilp))=fs 0 (ms.getD i .nilp) from rfl,show fl 1 (dX (ms.getD i .nilp))=fl 1 (ms.getD i .nilp) from rfl,decide_eq_true hlen,stepsEq_self,beq_self_eq_true,Bool.not_true,cond_false]
   exact ih (i+1) f (by omega) (by omega)
theorem rev_at{ms:List D}{i:Nat}(h:i<ms.length):((ms.take (i+1)).map dX).reverse=dX (ms.getD i .nilp) :: ((ms.take i).map dX).reverse:=by
 rw [List.take_add_one,List.getElem?_eq_getElem h,getD_lt h,List.map_append,List.reverse_append];rfl
theorem lpT(m n:Nat)(nb nm:Bool)(bs ms:List D)(fa:Bool)(a:List D)(hb:bookShort bs=true)(hs:bookShort ms=true)(hk:bookOk bs=true)(ha:addE (bs.map dX) ms=(0,a))(hn:ms.length<n): ∀k f mv tl,k≤ms.length→k<f→tl≠[]→tl++((ms.take k).map dX).reverse=(ms.map dX).reverse→tl.length+k=ms.length→
  (resume Bi (callN Bi (m+40)) n f 0 c5 (v5a nb nm bs ms fa a (.own 3264) [(3264,.lst defSh false mv false tl)] ((k:Int) - 1))).out=some [.bool true]:=by
 have hr:=rising_map (book_rising hk)
 have h8:(bs.map dX).length≤8:=by rw [List.length_map];exact book_8 hk
 obtain ⟨q1,q2,q3,q4⟩:=addE_ok ms (bs.map dX) a hr h8 ha
 have hl:=(book_short hs).1
 have hla:a.length=bs.length+ms.length:=by rw [q2.length_eq];simp
 have hka:bookOk a=true:=book_of q1 q3 fun x hx=>by
  rcases List.mem_append.1 (q2.mem_iff.1 hx) with hx | hx
  ·obtain ⟨y,hy,rfl⟩:=List.mem_map.1 hx
   exact book_okX hk y hy
  ·obtain ⟨y,hy,rfl⟩:=List.mem_map.1 hx
   exact q4 y hy
 have hsa:bookShort a=true:=short_add hb hs hk (by have:=addE_map ms bs;rw [ha] at this;exact (Prod.mk.inj this).1.symm) (by rw [ha])
 have hm: ∀x∈ms,dX x∈a:=fun x hx=>q2.mem_iff.2 (List.mem_append_right _ (List.mem_map.2 ⟨x,hx,rfl⟩))
 intro k
 induction k with
 | zero=>
  intro f mv tl hk' hf hne he hlt
  cases f with
  | zero=>omega
  | succ f=>
   rw [List.take_zero,List.map_nil,List.reverse_nil,List.append_nil] at he
   have hst:bookShort tl=true:=by
    obtain ⟨s1,s2⟩:=short_mem.1 (short_map hs)
    rw [he]
    exact short_mem.2 ⟨by rw [List.length_reverse];exact s1,fun x hx=>s2 x (List.mem_reverse.1 hx)⟩
   have hadd:addE (bs.map dX) tl=(0,a):=by
    rw [he,←List.map_reverse,addE_dX]
    exact addE_turn hr h8 ha
   have hw:IntKind.wrap .i64 ((bs.length:Int)+(ms.length:Int))=((bs.length+ms.length:Nat):Int):=by rw [wrap_i64 (by omega) (by omega)];omega
   have hlen:((a.length:Int) != IntKind.wrap .i64 ((bs.length:Int)+(ms.length:Int)))=false:=by rw [hw,hla];simp
   rw [z2005,hb,hst,hk,hadd,hsa,hka,hlen,sameB_self]
   refine (cf (decide_eq_false (by omega))).trans ?_
   exact lpU m n nm ms fa a false mv tl hka hsa hl hm ms.length 0 n (by omega) hn
 | succ k ih=>
  intro f mv tl hk' hf hne he hlt
  cases f with
  | zero=>omega
  | succ f=>
   have hki:k<ms.length:=by omega
   have e1:(((k+1:Nat):Int) - 1)=(k:Int):=by omega
   have e2:IntKind.wrap .i64 ((k:Int) - 1)=(k:Int) - 1:=by
    by_cases h0:k=0
    ·subst h0;rfl
    ·rw [wrap_i64 (by omega) (by omega)]
   rw [e1,z2005,e2]
   simp only [Int.toNat_natCast]
   refine (ct (decide_eq_true (by omega))).trans ((ct (dec_ix hki)).trans ((ct (decide_eq_true (by omega))).trans ?_))
   refine ih f true (tl++[dX (ms.getD k .nilp)]) (by omega) (by omega) (by simp) ?_ (by simp;omega)
   rw [rev_at hki] at he
   rw [List.append_assoc]
   exact he
set_option maxHeartbeats 1000000 in
theorem border(m n:Nat)(nb nm:Bool)(bs ms:List D)(h1:nilB bs)(h2:nilB ms)(hn:200≤n):(enterM Bi (callN Bi (m+40)) n c5 [.d (.sl defSh nb bs),.d (.sl defSh nm ms)] []).out=some [.bool true]:=by
 rw [x2005]
 cases hf:fewB bs
 ·rfl
 ·cases hg:fewB ms
  ·rfl
  ·have hb:=few_bookShort hf h1
   have hs:=few_bookShort hg h2
   have hl:=(few_len hg).1
   rw [hb,hs]
   cases hk:bookOk bs
   ·rfl
   ·cases he:((addE (bs.map dX) ms).1==0)
    ·have:((addE (bs.map dX) ms).1 != 0)=true:=by unfold bne;rw [he];rfl
     rw [this];rfl
    ·have he0:(addE (bs.map dX) ms).1=0:=eq_of_beq he
     have ha:addE (bs.map dX) ms=(0,(addE (bs.map dX) ms).2):=by rw [←he0]
     revert ha
     generalize (addE (bs.map dX) ms).2=a
     intro ha
     have hw:IntKind.wrap .i64 ((ms.length:Int) - 1)=(ms.length:Int) - 1:=by
      by_cases h0:ms.length=0
      ·rw [h0];rfl
      ·rw [wrap_i64 (by omega) (by omega)]
     rw [hw]
     show (resume Bi (callN Bi (m+40)) n n 0 c5 (v5a nb nm bs ms a.isEmpty a (.d (.sl defSh true [])) [] ((ms.length:Int) - 1))).out=_
     cases n with
     | zero=>omega
     | succ n=>
      cases hd:ms.length with
      | zero=>
       have hnil:ms=[]:=List.eq_nil_of_length_eq_zero hd
       subst hnil
       have ha':a=bs.map dX:=by cases ha;rfl
       subst ha'
       have hr:=rising_map (book_rising hk)
       have h8:(bs.map dX).length≤8:=by rw [List.length_map];exact book_8 hk
       have hka:bookOk (bs.map dX)=true:=book_of hr h8 fun x hx=>by
        obtain ⟨y,hy,rfl⟩:=List.mem_map.1 hx
        exact book_okX hk y hy
       have hsa:=short_map hb
       have h88:=book_8 hk
       have hlen:((((bs.map dX).length:Nat):Int) != IntKind.wrap .i64 ((bs.length:Int)+((([]:List D).length:Nat):Int)))=false:=by
        have hz:((([]:List D).length:Nat):Int)=0:=rfl
        rw [hz,Int.add_zero,wrap_i64 (by omega) (by omega),List.length_map];simp
       have hadd:addE (bs.map dX) []=(0,bs.map dX):=rfl
       have hneg:decide ((0:Int)≤((0:Nat):Int) - 1)=false:=rfl
       rw [y2005,hneg,hb,hk,hsa,hka,hlen,hadd,sameB_self]
       simp only [cond_false,cond_true,Bool.and_self,beq_self_eq_true,Bool.not_true,bne_self_eq_false]
       exact lpW m (n+1) nm [] (bs.map dX).isEmpty (bs.map dX) hka hsa (by simp) (fun x hx=>by cases hx) 0 0 (n+1) rfl (by omega)
      | succ k=>
       have hki:k<ms.length:=by omega
       have e1:(((k+1:Nat):Int) - 1)=(k:Int):=by omega
       have e2:IntKind.wrap .i64 ((k:Int) - 1)=(k:Int) - 1:=by
        by_cases h0:k=0
        ·subst h0;rfl
        ·rw [wrap_i64 (by omega) (by omega)]
       rw [e1,y2005,e2]
       simp only [Int.toNat_natCast]
       refine (ct (decide_eq_true (by omega))).trans ((ct (dec_ix hki)).trans ?_)
       refine lpT m (n+1) nb nm bs ms a.isEmpty a hb hs hk ha (by omega) k n false [dX (ms.getD k .nilp)] (by omega) (by omega) (by simp) ?_ (by simp;omega)
       have:=rev_at hki
       rw [List.take_of_length_le (show ms.length≤k+1 by omega)] at this
       rw [this];rfl
def tokSh:Sh:= .agg [.int .i64,.str,.int .i64]
def tx1:D:=(.str [115,97,103,97,32,98,32,123,32,100,101,98,105,116,32,120,32,49,59,32,125,32,115,97,103,97,32,97,32,123,32,97,115,107,32,50,32,99,59,32,125])
def tx2:D:=(.str [115,97,103,97,32,98,32,123,32,100,101,98,105,116,32,120,32,49,59,32,125,32,115,97,103,97,32,98,32,123,32,97,115,107,32,50,32,99,59,32,125])
def tk1:List D:=[(.sl tokSh false [(.agg [(.int .i64 1),(.str [115,97,103,97]),(.int .i64 0)]),(.agg [(.int .i64 1),(.str [98]),(.int .i64 5)]),(.agg [(.int .i64 3),(.str [123]),(.int .i64 7)]),(.agg [(.int .i64 1),(.str [100,101,98,105,116]),(.int .i64 9)]),(.agg [(.int .i64 1),(.str [120]),(.int .i64 15)]),(.agg [(.int .i64 2),(.str [49]),(.int .i64 17)]),(.agg [(.int .i64 3),(.str [59]),(.int .i64 18)]),(.agg [(.int .i64 3),(.str [125]),(.int .i64 20)]),(.agg [(.int .i64 1),(.str [115,97,103,97]),(.int .i64 22)]),(.agg [(.int .i64 1),(.str [97]),(.int .i64 27)]),(.agg [(.int .i64 3),(.str [123]),(.int .i64 29)]),(.agg [(.int .i64 1),(.str [97,115,107]),(.int .i64 31)]),(.agg [(.int .i64 2),(.str [50]),(.int .i64 35)]),(.agg [(.int .i64 1),(.str [99]),(.int .i64 37)]),(.agg [(.int .i64 3),(.str [59]),(.int .i64 38)]),(.agg [(.int .i64 3),(.str [125]),(.int .i64 40)]),(.agg [(.int .i64 0),(.str []),(.int .i64 41)])]),(.agg [(.int .i64 0),(.int .i64 0)])]
def tk2:List D:=[(.sl tokSh false [(.agg [(.int .i64 1),(.str [115,97,103,97]),(.int .i64 0)]),(.agg [(.int .i64 1),(.str [98]),(.int .i64 5)]),(.agg [(.int .i64 3),(.str [123]),(.int .i64 7)]),(.agg [(.int .i64 1),(.str [100,101,98,105,116]),(.int .i64 9)]),(.agg [(.int .i64 1),(.str [120]),(.int .i64 15)]),(.agg [(.int .i64 2),(.str [49]),(.int .i64 17)]),(.agg [(.int .i64 3),(.str [59]),(.int .i64 18)]),(.agg [(.int .i64 3),(.str [125]),(.int .i64 20)]),(.agg [(.int .i64 1),(.str [115,97,103,97]),(.int .i64 22)]),(.agg [(.int .i64 1),(.str [98]),(.int .i64 27)]),(.agg [(.int .i64 3),(.str [123]),(.int .i64 29)]),(.agg [(.int .i64 1),(.str [97,115,107]),(.int .i64 31)]),(.agg [(.int .i64 2),(.str [50]),(.int .i64 35)]),(.agg [(.int .i64 1),(.str [99]),(.int .i64 37)]),(.agg [(.int .i64 3),(.str [59]),(.int .i64 38)]),(.agg [(.int .i64 3),(.str [125]),(.int .i64 40)]),(.agg [(.int .i64 0),(.str []),(.int .i64 41)])]),(.agg [(.int .i64 0),(.int .i64 0)])]
def tl1:D:=tk1.headD .nilp
def tl2:D:=tk2.headD .nilp
open Go Go.AM Go.Proofs
theorem scan1_run:(callN E0b 60 23 [.d tx1] []).out=some tk1:=by kernel_rfl
theorem scan2_run:(callN E0b 60 23 [.d tx2] []).out=some tk2:=by kernel_rfl
def ps10:List D:=[(.agg [(.str [98]),(.sl stepSh false [(.agg [(.int .i64 1),(.str [120]),(.int .i64 1),(.int .i64 0),(.str []),(.int .i64 1),(.int .i64 0)])])]),(.int .i64 8),(.agg [(.int .i64 0),(.int .i64 0)])]
theorem parse10_run:(callN E0b 60 39 [.d tl1,.d (.int .i64 0)] []).out=some ps10:=by kernel_rfl
def ps18:List D:=[(.agg [(.str [97]),(.sl stepSh false [(.agg [(.int .i64 0),(.str []),(.int .i64 0),(.int .i64 2),(.str [99]),(.int .i64 0),(.int .i64 20)])])]),(.int .i64 16),(.agg [(.int .i64 0),(.int .i64 0)])]
theorem parse18_run:(callN E0b 60 39 [.d tl1,.d (.int .i64 8)] []).out=some ps18:=by kernel_rfl
def ps20:List D:=[(.agg [(.str [98]),(.sl stepSh false [(.agg [(.int .i64 1),(.str [120]),(.int .i64 1),(.int .i64 0),(.str []),(.int .i64 1),(.int .i64 0)])])]),(.int .i64 8),(.agg [(.int .i64 0),(.int .i64 0)])]
theorem parse20_run:(callN E0b 60 39 [.d tl2,.d (.int .i64 0)] []).out=some ps20:=by kernel_rfl
def ps28:List D:=[(.agg [(.str [98]),(.sl stepSh false [(.agg [(.int .i64 0),(.str []),(.int .i64 0),(.int .i64 2),(.str [99]),(.int .i64 0),(.int .i64 20)])])]),(.int .i64 16),(.agg [(.int .i64 0),(.int .i64 0)])]
theorem parse28_run:(callN E0b 60 39 [.d tl2,.d (.int .i64 8)] []).out=some ps28:=by kernel_rfl
def EVr:Env:=(((E0b.pureAt 23 false (gAt [([tx1],tk1),([tx2],tk2)])).pureAt 39 false (gAt [([tl1,.int .i64 0],ps10),([tl1,.int .i64 8],ps18),([tl2,.int .i64 0],ps20),([tl2,.int .i64 8],ps28)])).pureAt 27 true g192).genAt 36 (Cins defSh)
def rd1:List D:=[(.sl defSh false [(.agg [(.str [97]),(.sl stepSh false [(.agg [(.int .i64 0),(.str []),(.int .i64 0),(.int .i64 2),(.str [99]),(.int .i64 0),(.int .i64 20)])])]),(.agg [(.str [98]),(.sl stepSh false [(.agg [(.int .i64 1),(.str [120]),(.int .i64 1),(.int .i64 0),(.str []),(.int .i64 1),(.int .i64 0)])])])]),(.agg [(.int .i64 0),(.int .i64 0)])]
def rd2:List D:=[(.sl defSh true []),(.agg [(.int .i64 71),(.int .i64 22)])]
def bk1:D:=rd1.headD .nilp
def fd1:List D:=[(.agg [(.str [98]),(.sl stepSh false [(.agg [(.int .i64 1),(.str [120]),(.int .i64 1),(.int .i64 0),(.str []),(.int .i64 1),(.int .i64 0)])])]),(.bool true)]
def zbk:D:= .sl defSh false [.agg [.str [],.sl stepSh true []]]
theorem read1_run:(callN EVr 60 16 [.d tx1] []).out=some rd1:=by kernel_rfl
theorem read2_run:(callN EVr 60 16 [.d tx2] []).out=some rd2:=by kernel_rfl
def E2c:Env:=(E0b.pureAt 27 true g192).genAt 36 (Cins defSh)
theorem find1_run:(callN E2c 60 8 [.d bk1,.d (.str [98])] []).out=some fd1:=by kernel_rfl
theorem add1_run:(callN E2c 60 13 [.d bk1,.d (.sl defSh false [fd1.headD .nilp])] []).out=some [(.sl defSh true []),(.int .i64 71)]:=by kernel_rfl
theorem may1_run:(callN E2c 60 10 [.d zbk] []).out=some [.int .i64 2]:=by kernel_rfl
def EVa:Env:=(((E0b.pureAt 16 false (gAt [([tx1],rd1),([tx2],rd2)])).pureAt 8 false (gAt [([bk1,.str [98]],fd1)])).pureAt 13 false (gAt [([bk1,.sl defSh false [fd1.headD .nilp]],[(.sl defSh true []),(.int .i64 71)])])).pureAt 10 true (gAt [([zbk],[.int .i64 2])])
theorem awake10_run:(callN EVa 60 7 [] []).out=some [D.bool true]:=by kernel_rfl
theorem pow_out{P:Program}(hm:P.follows .mixedOrders=true){E:Env}{f:Nat}(hE:EnvOK P E)(h:(callN E 60 f [] []).out=some [D.bool true]):PureOK P f g20:=PureOK.run hm hE fun ds rs hr=>by
 unfold g20 at hr
 split at hr
 ·cases hr
  exact ⟨60,h⟩
 ·cases hr
theorem atB{P:Program}(hm:P.follows .mixedOrders=true)(h0:EnvOK P E0b)(hc:PureOK P 27 g192)(hi:FnOK P 36 (Cins defSh)):PureOK P 7 g20:=by
 have s:PureOK P 23 (gAt [([tx1],tk1),([tx2],tk2)]):=PureOK.at hm h0 fun p hp=>by
  simp only [List.mem_cons,List.not_mem_nil,or_false] at hp
  rcases hp with rfl | rfl
  ·exact ⟨60,scan1_run⟩
  ·exact ⟨60,scan2_run⟩
 have ps:PureOK P 39 (gAt [([tl1,.int .i64 0],ps10),([tl1,.int .i64 8],ps18),([tl2,.int .i64 0],ps20),([tl2,.int .i64 8],ps28)]):=PureOK.at hm h0 fun p hp=>by
  simp only [List.mem_cons,List.not_mem_nil,or_false] at hp
  rcases hp with rfl | rfl | rfl | rfl
  ·exact ⟨60,parse10_run⟩
  ·exact ⟨60,parse18_run⟩
  ·exact ⟨60,parse20_run⟩
  ·exact ⟨60,parse28_run⟩
 have er:EnvOK P EVr:=(((h0.pureAt s).pureAt ps).pureAt hc).genAt hi
 have e2:EnvOK P E2c:=(h0.pureAt hc).genAt hi
 have q1:PureOK P 16 (gAt [([tx1],rd1),([tx2],rd2)]):=PureOK.at hm er fun p hp=>by
  simp only [List.mem_cons,List.not_mem_nil,or_false] at hp
  rcases hp with rfl | rfl
  ·exact ⟨60,read1_run⟩
  ·exact ⟨60,read2_run⟩
 have q2:PureOK P 8 (gAt [([bk1,.str [98]],fd1)]):=PureOK.at hm e2 fun p hp=>by
  simp only [List.mem_singleton] at hp
  subst hp
  exact ⟨60,find1_run⟩
 have q3:PureOK P 13 (gAt [([bk1,.sl defSh false [fd1.headD .nilp]],[(.sl defSh true []),(.int .i64 71)])]):=PureOK.at hm e2 fun p hp=>by
  simp only [List.mem_singleton] at hp
  subst hp
  exact ⟨60,add1_run⟩
 have q4:PureOK P 10 (gAt [([zbk],[.int .i64 2])]):=PureOK.at hm e2 fun p hp=>by
  simp only [List.mem_singleton] at hp
  subst hp
  exact ⟨60,may1_run⟩
 have ea:EnvOK P EVa:=(((h0.pureAt q1).pureAt q2).pureAt q3).pureAt q4
 exact pow_out hm ea awake10_run
end Go.Proofs.YtlhageadjmoajaaDoor.A
namespace Go.AM
open Go Go.Proofs Go.Shelf Go.RowKit
section
variable {P:Program} {ρ:Ren} {s:Sh}
theorem info_two{t:TypeId}{z:Value}{n:Nat}(h:(P.info? t).map (fun i=>(i.zero,i.size))=some (some z,n)): ∃i,P.info? t=some i∧i.zero=some z∧i.size=n:=by
 obtain ⟨i,hi,hz⟩:=Option.map_eq_some_iff.1 h
 simp only [Prod.mk.injEq] at hz
 exact ⟨i,hi,hz.1,hz.2⟩
theorem size_two{t:TypeId}{z:Value}{n:Nat}(h:(P.info? t).map (fun i=>(i.zero,i.size))=some (some z,n))(w:World):(Go.sizeOf t).run P w= .ok n w:=by
 obtain ⟨i,hi,-,hs⟩:=info_two h
 simp [Go.sizeOf,typeInfo,hi,hs]
theorem zero_two{t:TypeId}{z:Value}{n:Nat}(h:(P.info? t).map (fun i=>(i.zero,i.size))=some (some z,n))(w:World):(zeroValue t).run P w= .ok z w:=by
 obtain ⟨i,hi,hz,-⟩:=info_two h
 simp [zeroValue,typeInfo,hi,hz]
theorem ins_mk(mixed:P.follows .mixedOrders=true)(f22:P.funcs[ρ.f 22]? =some (n22n P ρ))(f29:P.funcs[ρ.f 29]? =some (n29n P ρ))
  (nn22 : ((n22n P ρ).name == "runtime.NumGoroutine") = false) (nn29 : ((n29n P ρ).name == "runtime.NumGoroutine") = false) (nx29 : Extern.findNext (n29n P ρ) = none) (ex29 : Extern.find (n29n P ρ) = some (Extern.SlicesOverlaps.overlaps #[(ρ.t 24), (ρ.t 24)] #[(ρ.t 4)]))
  (t0:P.underlying (ρ.t 0)=some (TypeDesc.tuple #[])) (t3:P.underlying (ρ.t 3)=some (TypeDesc.int IntKind.i64)) (t4:P.underlying (ρ.t 4)=some (TypeDesc.bool)) (t24:P.underlying (ρ.t 24)=some (TypeDesc.slice (ρ.t 9)))
  (i0:(P.info? (ρ.t 0)).map (fun i=>(i.zero,i.size))=some (some (Value.tuple #[]),1)) (i3:(P.info? (ρ.t 3)).map (fun i=>(i.zero,i.size))=some (some (Value.int .i64 0),1)) (i4:(P.info? (ρ.t 4)).map (fun i=>(i.zero,i.size))=some (some (Value.bool false),1))
  (i24:(P.info? (ρ.t 24)).map (fun i=>(i.zero,i.size))=some (some (Value.slice none 0 0),1)) (s9:sh P (ρ.t 9)=some s) {zs:List D} (hz:zeroOf P (ρ.t 9)=some zs) (hzl:zs.length=s.size) (su8:Sh.beq s (.int .u8)=false) (pos:0<s.size):InsAt P ρ s where
 mixed:=mixed
 f22:=f22
 f29:=f29
 nn22:=nn22
 nn29:=nn29
 nx29:=nx29
 ex29:=ex29
 t0:=t0
 a0:=fun w=>by simp [isAgg,run_underlying t0]
 z0:=size_two i0
 v0:=zero_two i0
 t3:=t3
 a3:=fun w=>by simp [isAgg,run_underlying t3]
 z3:=size_two i3
 v3:=zero_two i3
 t4:=t4
 a4:=fun w=>by simp [isAgg,run_underlying t4]
 z4:=size_two i4
 v4:=zero_two i4
 t24:=t24
 a24:=fun w=>by simp [isAgg,run_underlying t24]
 z24:=size_two i24
 v24:=zero_two i24
 s9:=s9
 zs:=⟨zs,hz,hzl⟩
 su8:=su8
 pos:=pos
end
end Go.AM
