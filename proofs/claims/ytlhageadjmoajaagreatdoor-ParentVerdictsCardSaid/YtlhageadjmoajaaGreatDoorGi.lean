/- Parts of the walk: AMEntry, AMLaw, PG, PT, QDa, Db, QWb, Wb, Dc, Dd, Wc, QXa, Xa, QXx, Xb, QXb, Xc, QXd, Xd, QXe, Xe, V4, M6. -/
import Derived.Test.YtlhageadjmoajaaGreatDoorGh
import Derived.ChangeArms
import Derived.OpenShut
import Derived.DataReads
import Derived.ChangeSame
import Derived.ChangeShapes
import Derived.WideKeyArgs
import Derived.Handed
import Derived.RowKit
import Derived.KernelRfl
import Derived.SevenTiedAt
import Derived.Stop.Joined
import Derived.ProofKit
import Derived.LaidMore
set_option maxRecDepth 20000
namespace Go.AM
open Go
inductive WF:Sh→D→Prop where
 | bool (b:Bool):WF .bool (.bool b)
 | int (k:IntKind) (n:Int) (h:k.min≤n∧n≤k.max):WF (.int k) (.int k n)
 | str (s:List UInt8) (h:s.length≤maxLen):WF .str (.str s)
 | slnil (e:Sh):WF (.sl e) (.sl e true [])
 | sl (e:Sh) (es:List D) (hl:es.length≤maxLen) (h: ∀x∈es,WF e x):WF (.sl e) (.sl e false es)
 | agg (fs:List Sh) (cs:List D) (ha: ∀f∈fs,f.isAgg=false) (hl:fs.length=cs.length) (h: ∀(i:Nat) f c,fs[i]? =some f→cs[i]? =some c→WF f c):WF (.agg fs) (.agg cs)
def WFL(fs:List Sh)(cs:List D):Prop:=(∀f∈fs,f.isAgg=false)∧fs.length=cs.length∧ ∀(i:Nat) f c,fs[i]? =some f→cs[i]? =some c→WF f c
inductive Ty where
 | bool | int (k:IntKind) | str | sl (e:Ty) | st (fs:List Ty)
mutual
def Ty.shl:Ty→List Sh
 | .bool=>[.bool]
 | .int k=>[.int k]
 | .str=>[.str]
 | .sl e=>[.sl (Ty.sh e)]
 | .st fs=>Ty.shls fs
def Ty.shls:List Ty→List Sh
 | []=>[]
 | f :: fs=>Ty.shl f++Ty.shls fs
def Ty.sh:Ty→Sh
 | .bool=> .bool
 | .int k=> .int k
 | .str=> .str
 | .sl e=> .sl (Ty.sh e)
 | .st fs=> .agg (Ty.shls fs)
end
theorem Ty.sh_leafs(t:Ty):t.sh.leafs=t.shl:=by
 cases t <;> simp [Ty.sh,Ty.shl,Sh.leafs]
mutual
def tyOk(P:Program):Ty→TypeId→Bool
 | .bool,t=>match P.underlying t with
  | some .bool=>true
  | _=>false
 | .int k,t=>match P.underlying t with
  | some (.int j)=>decide (j=k)
  | _=>false
 | .str,t=>match P.underlying t with
  | some .string=>true
  | _=>false
 | .sl e,t=>match P.underlying t with
  | some (.slice u)=>tyOk P e u&&Nat.beq (P.cellsOf u) (Ty.shl e).length&& !((Ty.shl e).isEmpty)
  | _=>false
 | .st ts,t=>match P.underlying t with
  | some (.struct fs)=>tyOks P ts fs.toList 0 (P.cellsOf t)
  | _=>false
def tyOks(P:Program):List Ty→List Field→Nat→Nat→Bool
 | [],[],off,tot=>Nat.beq off tot
 | t :: ts,f :: fs,off,tot=>Nat.beq f.offset off&&Nat.beq (P.cellsOf f.type) (Ty.shl t).length&&tyOk P t f.type&&tyOks P ts fs (off+(Ty.shl t).length) tot
 | _,_,_,_=>false
end
section
variable {P:Program} {w:World} {H:Type} {enc:TypeId×Value→H} {base:Nat} {spare:Nat→Bool} {held:Bool}
theorem WFL.nil:WFL [] []:=⟨by simp,rfl,fun i f c h=>by simp at h⟩
theorem WFL.append{fs gs:List Sh}{cs ds:List D}(h:WFL fs cs)(h':WFL gs ds):WFL (fs++gs) (cs++ds):=by
 refine ⟨fun f hf=>(List.mem_append.1 hf).elim (h.1 f) (h'.1 f),by simp [h.2.1,h'.2.1],fun i f c hf hc=> ?_⟩
 have hl:=h.2.1
 by_cases hi:i<fs.length
 ·rw [List.getElem?_append_left hi] at hf
  rw [List.getElem?_append_left (by rw [←hl];exact hi)] at hc
  exact h.2.2 i f c hf hc
 ·rw [List.getElem?_append_right (by omega)] at hf
  rw [List.getElem?_append_right (by rw [←hl];omega),←hl] at hc
  exact h'.2.2 _ f c hf hc
theorem WFL.cons{f:Sh}{c:D}{fs:List Sh}{cs:List D}(ha:f.isAgg=false)(hc:WF f c)(h:WFL fs cs):WFL (f :: fs) (c :: cs):=
 WFL.append (fs:=[f]) (cs:=[c]) ⟨by simpa using ha,rfl,fun i g d hg hd=>by
  cases i with
  | zero=>simp at hg hd;subst hg hd;exact hc
  | succ i=>simp at hg⟩ h
theorem RDs.append{Y:Nat→Prop}{cs ds:List D}{us vs:List Value}(h:RDs w Y cs us)(h':RDs w Y ds vs):RDs w Y (cs++ds) (us++vs):=by
 have:=(RVL.map_d (β:=fun _=> .nil) (ob:=[]) h.1 h.2).append (RVL.map_d (β:=fun _=> .nil) (ob:=[]) h'.1 h'.2)
 rw [←List.map_append] at this
 exact this.of_map_d
theorem WF.fitsLeaf{s:Sh}{x:D}(h:WF s x)(ha:s.isAgg=false):fitsLeaf s x=true:=by
 cases h <;> simp_all [AM.fitsLeaf,Sh.isAgg]
 ·have: ∀e:Sh,Sh.beq e e=true:=by
   intro e
   induction e using Sh.rec (motive_2:=fun l=>Sh.beqL l l=true) with
   | bool=>rfl
   | int k=>simp [Sh.beq]
   | str=>rfl
   | sl e ih=>simpa [Sh.beq] using ih
   | agg fs ih=>simpa [Sh.beq] using ih
   | nil=>rfl
   | cons a l ih1 ih2=>simp [Sh.beqL,ih1,ih2]
  exact this _
 ·have: ∀e:Sh,Sh.beq e e=true:=by
   intro e
   induction e using Sh.rec (motive_2:=fun l=>Sh.beqL l l=true) with
   | bool=>rfl
   | int k=>simp [Sh.beq]
   | str=>rfl
   | sl e ih=>simpa [Sh.beq] using ih
   | agg fs ih=>simpa [Sh.beq] using ih
   | nil=>rfl
   | cons a l ih1 ih2=>simp [Sh.beqL,ih1,ih2]
  exact this _
theorem WFL.fitsL: ∀{fs:List Sh} {cs:List D},WFL fs cs→fitsL fs cs=true
 | [],[],_=>rfl
 | [],_ :: _,h=>by simp [WFL] at h
 | _ :: _,[],h=>by simp [WFL] at h
 | f :: fs,c :: cs,h=>by
  simp only [AM.fitsL,Bool.and_eq_true]
  refine ⟨(h.2.2 0 f c rfl rfl).fitsLeaf (h.1 f (by simp)),WFL.fitsL ⟨fun g hg=>h.1 g (by simp [hg]),by simpa using h.2.1,fun i g d hg hd=>h.2.2 (i+1) g d (by simpa using hg) (by simpa using hd)⟩⟩
theorem WF.fits{s:Sh}{x:D}(h:WF s x):fits s x=true:=by
 cases h with
 | agg fs cs ha hl hh=>exact WFL.fitsL ⟨ha,hl,hh⟩
 | bool b=>rfl
 | int k n hn=>simp [AM.fits,AM.fitsLeaf]
 | str s hs=>rfl
 | slnil e=>exact (WF.slnil e).fitsLeaf rfl
 | sl e es hl hh=>exact (WF.sl e es hl hh).fitsLeaf rfl
theorem WFL.one{s:Sh}{ds:List D}(h:WFL s.leafs ds): ∃x,x.cells=ds∧WF s x:=by
 cases s with
 | agg fs=>exact ⟨.agg ds,rfl,.agg fs ds h.1 h.2.1 h.2.2⟩
 | _=>
  obtain ⟨h1,h2,h3⟩:=h
  simp only [Sh.leafs,List.length_singleton] at h2
  match ds,h2 with
  | [c],_=>
   have hc:=h3 0 _ c rfl rfl
   refine ⟨c,?_,hc⟩
   cases hc <;> rfl
theorem rds_one{Y:Nat→Prop}{d:D}{v:Value}(h:RD w Y d v):RDs w Y [d] [v]:=by
 refine ⟨rfl,fun j c u h1 h2=> ?_⟩
 cases j with
 | zero=>simp only [List.getElem?_cons_zero,Option.some.injEq] at h1 h2;subst h1 h2;exact h
 | succ j=>simp at h1
theorem wfl_one{s:Sh}{d:D}(ha:s.isAgg=false)(h:WF s d):WFL [s] [d]:=WFL.cons ha h WFL.nil
theorem lit_int{k:IntKind}{n:Int}(h:(Lit.int k n).wf=true):k.min≤n∧n≤k.max:=by
 simpa [Lit.wf,and_comm] using h
mutual
theorem trod_ty: ∀(τ:Ty) (fuel:Nat) (t:TypeId) (cs:List Value) (x:DataW H×List MemPlace),tyOk P τ t=true→DataW.trod enc P w base spare held fuel t cs=some x→
  ∃ds,RDs w (fun _=>False) ds cs∧WFL τ.shl ds
 | .bool,fuel,t,cs,x,ht,h=>by
  unfold tyOk at ht
  split at ht
  ·rename_i hu
   obtain ⟨b,rfl,-⟩:=DataW.trod_bool hu h
   exact ⟨[.bool b],rds_one (.bool b),wfl_one rfl (.bool b)⟩
  ·cases ht
 | .int k,fuel,t,cs,x,ht,h=>by
  unfold tyOk at ht
  split at ht
  ·rename_i j hu
   have hj:=of_decide_eq_true ht
   subst hj
   obtain ⟨n,rfl,-,hn⟩:=DataW.trod_int hu h
   exact ⟨[.int j n],rds_one (.int j n),wfl_one rfl (.int j n (lit_int hn))⟩
  ·cases ht
 | .str,fuel,t,cs,x,ht,h=>by
  unfold tyOk at ht
  split at ht
  ·rename_i hu
   obtain ⟨s,rfl,-,hs⟩:=DataW.trod_string hu h
   refine ⟨[.str s.data.toList],rds_one ?_,wfl_one rfl (.str _ (by simpa using hs))⟩
   have:=RD.str (w:=w) (Y:=fun _=>False) s.data.toList
   simpa using this
  ·cases ht
 | .sl e,fuel,t,cs,x,ht,h=>by
  unfold tyOk at ht
  split at ht
  ·rename_i u hu
   simp only [Bool.and_eq_true,Bool.not_eq_true'] at ht
   obtain ⟨⟨he,hsz⟩,hne⟩:=ht
   have hsz:=Nat.eq_of_beq_eq_true hsz
   rcases DataW.trod_slice hu h with ⟨rfl,-⟩ | ⟨a,len,cap,elems,rest,n,-,rfl,-,hb,hlc,hcm,hel,hget,-,-⟩
   ·exact ⟨[.sl e.sh true []],rds_one (.slnil e.sh),wfl_one rfl (.slnil e.sh)⟩
   ·have key: ∀i,∃y:D,i<len→ ∃ci,w.cells? base (a.add (i*P.cellsOf u)) (P.cellsOf u)=some ci∧RDs w (fun _=>False) y.cells ci∧WF e.sh y:=by
     intro i
     by_cases hi:i<len
     ·have hg:=hget i hi
      have:i<elems.length:=by omega
      rw [List.getElem?_eq_getElem this] at hg
      cases hc:w.cells? base (a.add (i*P.cellsOf u)) (P.cellsOf u) with
      | none=>rw [hc] at hg;cases hg
      | some ci=>
       rw [hc] at hg
       obtain ⟨ds,h1,h2⟩:=trod_ty e n u ci _ he hg
       rw [←Ty.sh_leafs] at h2
       obtain ⟨y,rfl,hy⟩:=h2.one
       exact ⟨y,fun _=>⟨ci,rfl,h1,hy⟩⟩
     ·exact ⟨.nilp,fun h=>(hi h).elim⟩
    obtain ⟨f,hf⟩: ∃f:Nat→D,∀i,i<len→ ∃ci,w.cells? base (a.add (i*P.cellsOf u)) (P.cellsOf u)=some ci∧RDs w (fun _=>False) (f i).cells ci∧WF e.sh (f i):=
     ⟨fun i=>Classical.choose (key i),fun i=>Classical.choose_spec (key i)⟩
    have hes:((List.range len).map f).length=len:=by simp
    have hat: ∀(i:Nat) y,((List.range len).map f)[i]? =some y→i<len∧y=f i:=by
     intro i y hy
     have hi:i<len:=by
      have:=(List.getElem?_eq_some_iff.1 hy).1
      simpa using this
     refine ⟨hi,?_⟩
     simp only [List.getElem?_map,List.getElem?_range hi,Option.map_some,Option.some.injEq] at hy
     exact hy.symm
    have hwf: ∀y∈(List.range len).map f,WF e.sh y:=by
     intro y hy
     obtain ⟨i,hi,rfl⟩:=List.mem_map.1 hy
     obtain ⟨ci,-,-,hw⟩:=hf i (List.mem_range.1 hi)
     exact hw
    refine ⟨[.sl e.sh false ((List.range len).map f)],rds_one ?_,wfl_one rfl (.sl e.sh _ (by rw [hes];omega) hwf)⟩
    have hsize:e.sh.size=P.cellsOf u:=by rw [hsz,Sh.size,Ty.sh_leafs]
    have hcell: ∀(i:Nat) y (j:Nat) c,((List.range len).map f)[i]? =some y→y.cells[j]? =some c→ ∃v,w.cell? ((a.add (i*P.cellsOf u)).add j)=some v∧RD w (fun _=>False) c v:=by
     intro i y j c hy hc
     obtain ⟨hi,rfl⟩:=hat i y hy
     obtain ⟨ci,hci,hr,-⟩:=hf i hi
     obtain ⟨-,hl,hcs⟩:=World.cells?_some hci
     have hj:j<ci.length:=by rw [←hr.1];exact (List.getElem?_eq_some_iff.1 hc).1
     refine ⟨ci[j],?_,hr.2 j c _ hc (List.getElem?_eq_getElem hj)⟩
     rw [hcs j (by omega),List.getElem?_eq_getElem hj]
    have hspot:0<len→a.spot=none:=by
     intro h0
     obtain ⟨ci,hci,hr,-⟩:=hf 0 h0
     obtain ⟨-,hl,hcs⟩:=World.cells?_some hci
     have hpos:0<P.cellsOf u:=by
      rw [hsz]
      cases hz:Ty.shl e with
      | nil=>rw [hz] at hne;cases hne
      | cons s l=>simp
     have h1:=hcs 0 hpos
     have h2:0<ci.length:=by omega
     rw [List.getElem?_eq_getElem h2] at h1
     have e1:(a.add (0*P.cellsOf u)).add 0=a:=by simp [Addr.add]
     rw [e1] at h1
     unfold World.cell? at h1
     split at h1
     ·split at h1
      ·cases h1
      ·rename_i hs
       cases hsp:a.spot with
       | none=>rfl
       | some z=>rw [hsp] at hs;simp at hs
     ·cases h1
    have hadd: ∀i j,a.spot=none→(a.add (i*P.cellsOf u)).add j=⟨a.block,a.off+(i*e.sh.size+j),none⟩:=by
     intro i j hs
     rw [hsize]
     obtain ⟨ab,ao,zas⟩:=a
     simp only at hs
     subst hs
     unfold Addr.add
     by_cases h1:i*P.cellsOf u=0 <;> by_cases h2:j=0 <;> simp [h1,h2]
     omega
    have hmain:=RD.sl (w:=w) (Y:=fun _=>False) e.sh ((List.range len).map f) a cap
     (fun i j=>(w.cell? ((a.add (i*P.cellsOf u)).add j)).getD undef) (by rw [hes];exact hlc) (fun y hy=>(hwf y hy).fits)
     (fun i y j c hy hc=>by
      obtain ⟨v,hv,-⟩:=hcell i y j c hy hc
      have hs:=hspot (by have:=(hat i y hy).1;omega)
      refine ⟨fun h=>h.elim,hs,?_⟩
      rw [←hadd i j hs,hv]
      rfl)
     (fun i y j c hy hc=>by
      obtain ⟨v,hv,hr⟩:=hcell i y j c hy hc
      show RD w _ c ((w.cell? ((a.add (i*P.cellsOf u)).add j)).getD undef)
      rw [hv]
      exact hr)
    rw [hes] at hmain
    exact hmain
  ·cases ht
 | .st ts,fuel,t,cs,x,ht,h=>by
  unfold tyOk at ht
  split at ht
  ·rename_i fs hu
   obtain ⟨xs,n,-,-,hcs,hxl,hf⟩:=DataW.trod_struct hu h
   have:=trod_tys ts fs.toList 0 (P.cellsOf t) n cs ht hcs (fun f hfm=>by
    obtain ⟨i,hi,rfl⟩:=List.mem_iff_getElem.1 hfm
    have hi':i<fs.size:=by simpa using hi
    have:=hf i fs[i] (by simp [hi'])
    have hx:i<xs.length:=by omega
    rw [List.getElem?_eq_getElem hx] at this
    exact ⟨xs[i],by simpa using this⟩)
   simpa [Ty.shl] using this
  ·cases ht
theorem trod_tys: ∀(ts:List Ty) (fs:List Field) (off tot n:Nat) (cs:List Value),tyOks P ts fs off tot=true→cs.length=tot→
  (∀f∈fs,∃y,DataW.trod enc P w base spare held n f.type ((cs.drop f.offset).take (P.cellsOf f.type))=some y)→ ∃ds,RDs w (fun _=>False) ds (cs.drop off)∧WFL (Ty.shls ts) ds
 | [],[],off,tot,n,cs,h,hl,_=>by
  simp only [tyOks] at h
  have:=Nat.eq_of_beq_eq_true h
  refine ⟨[],⟨?_,fun j c v hc=>by simp at hc⟩,WFL.nil⟩
  simp;omega
 | [],_ :: _,off,tot,n,cs,h,_,_=>by simp [tyOks] at h
 | _ :: _,[],off,tot,n,cs,h,_,_=>by simp [tyOks] at h
 | τ :: ts,f :: fs,off,tot,n,cs,h,hl,hf=>by
  simp only [tyOks,Bool.and_eq_true] at h
  obtain ⟨⟨⟨h1,h2⟩,h3⟩,h4⟩:=h
  have h1:=Nat.eq_of_beq_eq_true h1
  have h2:=Nat.eq_of_beq_eq_true h2
  obtain ⟨y,hy⟩:=hf f (by simp)
  obtain ⟨ds1,r1,w1⟩:=trod_ty τ n f.type _ y h3 hy
  obtain ⟨ds2,r2,w2⟩:=trod_tys ts fs (off+(Ty.shl τ).length) tot n cs h4 hl (fun g hg=>hf g (by simp [hg]))
  refine ⟨ds1++ds2,?_,by simpa [Ty.shls] using w1.append w2⟩
  have:=r1.append r2
  rw [h1,h2] at this
  have e:List.take (Ty.shl τ).length (List.drop off cs)++List.drop (off+(Ty.shl τ).length) cs=List.drop off cs:=by
   rw [←List.drop_drop,List.take_append_drop]
  rw [e] at this
  exact this
end
end
open Go Go.ChangeShapes Go.WideElems
section
variable {P:Program} {w w':World} {H:Type} {enc:TypeId×Value→H}
def tyArg(P:Program)(τ:Ty)(t:TypeId):Bool:=tyOk P τ t&&decide (t<P.types.size)&&P.readableRec t
theorem cells_leaf{b0:Nat}{τ:Ty}{t:TypeId}{v:Value}(hs: ∀ts,τ≠ .st ts)(h:tyOk P τ t=true)(hv:Value.okWide P w .any b0 t v):v.cells= #[v]:=by
 cases v with
 | agg cs=>
  exfalso
  cases τ with
  | st ts=>exact hs ts rfl
  | bool=>
   unfold tyOk at h
   split at h
   ·rename_i hu
    unfold Value.okWide Cell.okWide Cell.ok at hv
    rw [hu] at hv
    exact hv
   ·cases h
  | int k=>
   unfold tyOk at h
   split at h
   ·rename_i hu
    unfold Value.okWide Cell.okWide Cell.ok at hv
    rw [hu] at hv
    exact hv
   ·cases h
  | str=>
   unfold tyOk at h
   split at h
   ·rename_i hu
    unfold Value.okWide Cell.okWide Cell.ok at hv
    rw [hu] at hv
    exact hv
   ·cases h
  | sl e=>
   unfold tyOk at h
   split at h
   ·rename_i hu
    unfold Value.okWide Cell.okWide Cell.ok at hv
    rw [hu] at hv
    exact hv
   ·cases h
 | _=>rfl
theorem WFL.leaf{s:Sh}{ds:List D}(h:WFL [s] ds): ∃d,ds=[d]∧WF s d:=by
 obtain ⟨h1,h2,h3⟩:=h
 match ds,h2 with
 | [d],_=>exact ⟨d,rfl,h3 0 s d rfl rfl⟩
def tyArgs(P:Program):List Ty→List TypeId→Bool
 | [],[]=>true
 | τ :: τs,t :: ts=>tyArg P τ t&&tyArgs P τs ts
 | _,_=>false
def WFs:List Ty→List D→Prop
 | [],[]=>True
 | τ :: τs,x :: xs=>WF τ.sh x∧WFs τs xs
 | _,_=>False
theorem args_data{b0:Nat}: ∀(τs:List Ty) (ts:List TypeId) (vs:List Value) (ds:List (DataW H)) (ps:List MemPlace),tyArgs P τs ts=true→DataW.TrodAll enc P w 0 (fun _=>true) true ts vs ds ps→
  (∀(j:Nat) t v,ts[j]? =some t→vs[j]? =some v→Value.okWide P w .any b0 t v)→ ∃xs,RDs w (fun _=>False) xs vs∧WFs τs xs
 | [],[],vs,ds,ps,_,h,_=>by
  cases vs with
  | nil=>exact ⟨[],⟨rfl,fun j c v hc=>by simp at hc⟩,trivial⟩
  | cons v vs=>simp [DataW.TrodAll] at h
 | [],_ :: _,_,_,_,h,_,_=>by simp [tyArgs] at h
 | _ :: _,[],_,_,_,h,_,_=>by simp [tyArgs] at h
 | τ :: τs,t :: ts,vs,ds,ps,ht,h,hok=>by
  simp only [tyArgs,Bool.and_eq_true] at ht
  cases vs with
  | nil=>simp [DataW.TrodAll] at h
  | cons v vs=>
   cases ds with
   | nil=>simp [DataW.TrodAll] at h
   | cons d ds=>
    obtain ⟨p,q,h1,h2,-⟩:=h
    obtain ⟨xs,hr,hw⟩:=args_data τs ts vs ds q ht.2 h2 fun j t v ht hv=>hok (j+1) t v (by simpa using ht) (by simpa using hv)
    have hτ:=ht.1
    unfold tyArg at hτ
    simp only [Bool.and_eq_true,decide_eq_true_eq] at hτ
    obtain ⟨⟨h3,h4⟩,h5⟩:=hτ
    obtain ⟨fuel,hf⟩:=h1
    obtain ⟨cs,hcs,hwf⟩:=trod_ty τ fuel t v.cells.toList _ h3 hf
    have hv:=hok 0 t v rfl rfl
    have one: ∀s:Sh,(∀ts,τ≠ .st ts)→WFL [s] cs→WF s=WF τ.sh→ ∃xs,RDs w (fun _=>False) xs (v :: vs)∧WFs (τ :: τs) xs:=by
     intro s hs hl he
     obtain ⟨d,rfl,hd⟩:=hl.leaf
     rw [cells_leaf hs h3 hv] at hcs
     exact ⟨d :: xs,RDs.append hcs hr,he ▸ hd,hw⟩
    cases τ with
    | bool=>exact one _ (fun _ h=>by cases h) hwf rfl
    | int k=>exact one _ (fun _ h=>by cases h) hwf rfl
    | str=>exact one _ (fun _ h=>by cases h) hwf rfl
    | sl e=>exact one _ (fun _ h=>by cases h) hwf rfl
    | st fs=>
     unfold tyOk at h3
     split at h3
     ·rename_i fields hu
      unfold Value.okWide at hv
      rw [hu] at hv
      obtain ⟨vs0,rfl,-,-⟩:=hv
      refine ⟨.agg cs :: xs,?_,⟨.agg _ _ hwf.1 hwf.2.1 hwf.2.2,hw⟩⟩
      have h6:=rds_one (w:=w) (Y:=fun _=>False) (RD.agg (w:=w) cs vs0.toList hcs.1 hcs.2)
      exact h6.append hr
     ·cases h3
theorem reads_on{sp:Nat→Bool}(hl:laidOutB P=true)(hsame: ∀p:MemPlace,p.block<w.heap.size→w.sameAt w' p): ∀(τs:List Ty) (ts:List TypeId) (vs:List Value) (ds:List (DataW H)) (ps:List MemPlace),tyArgs P τs ts=true→
  DataW.TrodAll enc P w 0 (fun _=>true) true ts vs ds ps→(∀p∈ps,p.block<w.heap.size)→(∀p∈ps,sp p.block=true)→DataW.TrodAll enc P w' 0 sp true ts vs ds ps
 | [],[],vs,ds,ps,_,h,_,_=>by
  cases vs <;> cases ds <;> simp_all [DataW.TrodAll]
 | [],_ :: _,_,_,_,h,_,_,_=>by simp [tyArgs] at h
 | _ :: _,[],_,_,_,h,_,_,_=>by simp [tyArgs] at h
 | τ :: τs,t :: ts,vs,ds,ps,ht,h,hb,hs=>by
  simp only [tyArgs,Bool.and_eq_true] at ht
  cases vs with
  | nil=>simp [DataW.TrodAll] at h
  | cons v vs=>
   cases ds with
   | nil=>simp [DataW.TrodAll] at h
   | cons d ds=>
    obtain ⟨p,q,h1,h2,rfl⟩:=h
    have hτ:=ht.1
    unfold tyArg at hτ
    simp only [Bool.and_eq_true,decide_eq_true_eq] at hτ
    obtain ⟨⟨h3,h4⟩,h5⟩:=hτ
    exact ⟨p,q,Trod_stays hl h5 h4 h1 (fun x hx=>hsame x (hb x (List.mem_append_left _ hx))) (fun x hx=>hs x (List.mem_append_left _ hx)),
     reads_on hl hsame τs ts vs ds q ht.2 h2 (fun x hx=>hb x (List.mem_append_right _ hx)) (fun x hx=>hs x (List.mem_append_right _ hx)),rfl⟩
theorem frozen_of_keep(hk:Keep (fun _=>False) w w')(a:Addr)(ha:a.block<w.heap.size):w'.frozen? a=w.frozen? a:=by
 unfold World.frozen?
 rw [hk.heap a.block ha (fun h=>h)]
theorem keptBut_of_keep(hk:Keep (fun _=>False) w w')(may:MemPlace→Prop):w.keptBut w' may:=by
 refine World.keptBut_mono (may:=fun _=>False) (fun _ h=>h.elim) (World.keptBut_none_iff.2 ⟨hk.out.1,hk.out.2,fun i hi=>hk.heap i hi (fun h=>h)⟩)
theorem sameAt_of_keep(hk:Keep (fun _=>False) w w')(p:MemPlace)(hp:p.block<w.heap.size):w.sameAt w' p:=by
 cases p with
 | cell b off=>
  show w'.cell? ⟨b,off,none⟩=w.cell? ⟨b,off,none⟩
  unfold World.cell?
  rw [hk.heap b hp (fun h=>h)]
 | map b=>exact hk.heap b hp (fun h=>h)
theorem law_calls {b0 : Nat} {f : FuncId} {fn : Func} {c : Code} {g : List D → Tree (List D)} {τs : List Ty} (hfn : P.funcs[f]? = some fn) (hname : fn.name ≠ "runtime.NumGoroutine") (hbody : fn.body = some c)
  (hp:PureOK P f g) (hty:tyArgs P τs fn.params.toList=true) (hg: ∀xs,WFs τs xs→(g xs).eval=some [.bool true])
  {args:Array Value} {ds:List (DataW H)} {p:List MemPlace} (hA:DataW.TrodAll enc P w 0 (fun _=>true) true fn.params.toList args.toList ds p)
  (hok: ∀(j:Nat) t v,fn.params[j]? =some t→args[j]? =some v→Value.okWide P w .any b0 t v) (hT:TabOK P w (fun _=>False)) (hyn:f≠yNo:=by decide):
  Calls P f args w fun e w'=>e= .returned (.bool true)∧Keep (fun _=>False) w w':=by
 obtain ⟨xs,hr,hw⟩:=args_data τs _ _ _ _ hty hA (fun j t v ht hv=>hok j t v (by simpa using ht) (by simpa using hv))
 have:=hp hyn xs [.bool true] (hg xs hw) w (fun _=>False) args (fun b h=>h.elim) hT hr
 rcases this with ⟨-,h⟩ | ⟨u,w',h,-⟩
 ·refine Calls.mono h ?_
  rintro e w' ⟨u,rfl,hv,hk⟩
  simp only [retV,RV] at hv
  cases hv
  exact ⟨rfl,hk⟩
 ·rw [MuLone.run_callFunc_enter hfn (by simpa using hname) hbody args w] at h
  cases h
end
open Go Go.ChangeShapes
theorem WFL.inv{f:Sh}{fs:List Sh}{cs:List D}(h:WFL (f :: fs) cs): ∃c cs',cs=c :: cs'∧WF f c∧WFL fs cs':=by
 obtain ⟨h1,h2,h3⟩:=h
 cases cs with
 | nil=>simp at h2
 | cons c cs=>exact ⟨c,cs,rfl,h3 0 f c rfl rfl,fun g hg=>h1 g (by simp [hg]),by simpa using h2,fun i g d hg hd=>h3 (i+1) g d (by simpa using hg) (by simpa using hd)⟩
theorem WFL.inv_nil{cs:List D}(h:WFL [] cs):cs=[]:=by
 have:=h.2.1
 cases cs with
 | nil=>rfl
 | cons c cs=>simp at this
theorem WF.inv_agg{fs:List Sh}{x:D}(h:WF (.agg fs) x): ∃cs,x= .agg cs∧WFL fs cs:=by
 cases h with
 | agg fs cs ha hl hh=>exact ⟨cs,rfl,ha,hl,hh⟩
theorem WF.inv_int{k:IntKind}{x:D}(h:WF (.int k) x): ∃n,x= .int k n:=by
 cases h with
 | int k n hn=>exact ⟨n,rfl⟩
theorem WF.inv_str{x:D}(h:WF .str x): ∃s,x= .str s:=by
 cases h with
 | str s hs=>exact ⟨s,rfl⟩
theorem WF.inv_bool{x:D}(h:WF .bool x): ∃b,x= .bool b:=by
 cases h with
 | bool b=>exact ⟨b,rfl⟩
theorem WF.inv_sl{e:Sh}{x:D}(h:WF (.sl e) x): ∃n es,x= .sl e n es∧(n=true→es=[])∧ ∀y∈es,WF e y:=by
 cases h with
 | slnil e=>exact ⟨true,[],rfl,fun _=>rfl,fun y hy=>by simp at hy⟩
 | sl e es hl hh=>exact ⟨false,es,rfl,fun h=>by simp at h,hh⟩
theorem law_post{H:Type}{enc:TypeId×Value→H}{P:Program}{fn:Func}{s:ChangeSpec}{τs:List Ty}{tb:TypeId}{W W':World}{args:Array Value}{ds gs:List (DataW H)}{before:List MemPlace}{fresh handsOn again:Bool}
  (hW:DataW.Whole enc P fn.params.toList s.vars false W args.toList ds gs before) (hv:s.vars=[]) (hl:laidOutB P=true) (hty:tyArgs P τs fn.params.toList=true) (hrt:fn.resultTypes= #[tb]) (htb:P.underlying tb=some .bool)
  (hr:(s.fn H ds).results=[.lit (.bool true)]) (ha:(s.fn H ds).args=ds) (hvs:(s.fn H ds).vars=[]) (hk:Keep (fun _=>False) W W'):
  s.post enc P fn false fresh handsOn again W args (.bool true) W':=by
 have hlt:=hW.lt
 obtain ⟨pa,pv,hA,hV,rfl,hz,hn⟩:=hW
 rw [hv] at hV
 obtain ⟨rfl,rfl⟩:=trodVars_none hV
 simp only [List.append_nil] at hlt hz
 have hargs: ∀sp:Nat→Bool,(∀p∈pa,sp p.block=true)→DataW.TrodAll enc P W' 0 sp true fn.params.toList args.toList ds pa:=fun sp hsp=>
  reads_on hl (fun p hp=>sameAt_of_keep hk p hp) τs _ _ _ _ hty hA hlt hsp
 have hres: ∀(b:Nat) (sp:Nat→Bool) (hd:Bool),DataW.TrodAll enc P W' b sp hd fn.resultTypes.toList ((Value.bool true).resultList fn.resultTypes.size) [.lit (.bool true)] []:=by
  intro b sp hd
  rw [hrt]
  exact trodAll_mk1 (RowKit.shut_bool htb true)
 have hvars: ∀sp:Nat→Bool,DataW.TrodVars enc P W' sp s.vars [] []:=by
  intro sp
  rw [hv]
  rfl
 refine ⟨ds,[],pa++[],[],pa,[],⟨pa,[],hA,by rw [hv];exact hV,rfl,by simpa using hz,hn⟩,?_,?_,?_,keptBut_of_keep hk _,fun _=>⟨?_,?_⟩⟩
 ·simp only [List.append_nil,hr]
  exact hres _ _ _
 ·simp only [List.append_nil,ha]
  exact hargs _ (fun p hp=>by simpa using hlt p hp)
 ·simp only [List.append_nil,hvs]
  exact hvars _
 ·exact RowKit.ok_one hrt rfl (RowKit.okWide_bool_mk htb true)
 ·refine ⟨_,_,([]++pa)++[],⟨[]++pa,[],trodAll_append (hargs _ (fun _ _=>rfl)) (hres _ _ _),hvars _,rfl,?_,fun h=>by cases h⟩,?_⟩
  ·intro b off hp
   have hp:MemPlace.cell b off∈pa:=by simpa using hp
   rw [frozen_of_keep hk _ (show b<W.heap.size from hlt _ hp)]
   exact hz b off hp
  ·intro p hp _
   simpa using hp
end Go.AM
namespace Go.Proofs.YtlhageadjmoajaaGreatDoor.A
open Go Go.AM
set_option maxRecDepth 20000
def hopTy:Ty:= .st [.int .i64,.int .i64]
def stepTy:Ty:= .st [.st [.int .i64,.str,.int .i64],.int .i64,.str,.int .i64,.int .i64]
def partTy:Ty:= .st [.int .i64,.int .i64]
def sagaTy:Ty:= .st [.st [.int .i64,.int .i64,.sl hopTy],.st [.str,.sl stepTy],.int .i64,.int .i64,.sl partTy,.bool]
theorem saga_in{x:D}(h0:WF sagaTy.sh x): ∃rt nn st wy n1 n2 n3 fc hops steps parts nm,x=sagaD rt nn st wy n1 n2 n3 fc hops steps parts nm∧(n1=true→hops=[])∧(n2=true→steps=[])∧(n3=true→parts=[]):=by
 obtain ⟨cs,rfl,h⟩:=WF.inv_agg h0
 obtain ⟨_,_,rfl,a1,h⟩:=h.inv
 obtain ⟨_,_,rfl,a2,h⟩:=h.inv
 obtain ⟨_,_,rfl,a3,h⟩:=h.inv
 obtain ⟨_,_,rfl,a4,h⟩:=h.inv
 obtain ⟨_,_,rfl,a5,h⟩:=h.inv
 obtain ⟨_,_,rfl,a6,h⟩:=h.inv
 obtain ⟨_,_,rfl,a7,h⟩:=h.inv
 obtain ⟨_,_,rfl,a8,h⟩:=h.inv
 obtain ⟨_,_,rfl,a9,h⟩:=h.inv
 obtain rfl:=h.inv_nil
 obtain ⟨rt,rfl⟩:=a1.inv_int
 obtain ⟨nn,rfl⟩:=a2.inv_int
 obtain ⟨n1,hops,rfl,b1,-⟩:=a3.inv_sl
 obtain ⟨nm,rfl⟩:=a4.inv_str
 obtain ⟨n2,steps,rfl,b2,-⟩:=a5.inv_sl
 obtain ⟨st,rfl⟩:=a6.inv_int
 obtain ⟨wy,rfl⟩:=a7.inv_int
 obtain ⟨n3,parts,rfl,b3,-⟩:=a8.inv_sl
 obtain ⟨fc,rfl⟩:=a9.inv_bool
 exact ⟨rt,nn,st,wy,n1,n2,n3,fc,hops,steps,parts,nm,rfl,b1,b2,b3⟩
def accTy:Ty:= .st [.str,.st [.int .i64,.int .i64,.int .i64],.st [.int .i64,.int .i64,.int .i64]]
def mrkTy:Ty:= .st [.str,.st [.int .i64,.str,.int .i64],.int .i64]
def defTy:Ty:= .st [.str,.sl stepTy]
def stateTy:Ty:= .st [.int .i64,.int .i64,.int .i64,.st [.sl accTy,.sl mrkTy],.sl defTy,.sl sagaTy]
def idTy:Ty:= .st [.int .i64,.int .i64,.sl hopTy]
theorem def_in{x:D}(h0:WF defTy.sh x): ∃nm nil es,x= .agg [.str nm,.sl stepSh nil es]∧(nil=true→es=[]):=by
 obtain ⟨cs,rfl,h⟩:=WF.inv_agg h0
 obtain ⟨_,_,rfl,a1,h⟩:=h.inv
 obtain ⟨_,_,rfl,a2,h⟩:=h.inv
 obtain rfl:=h.inv_nil
 obtain ⟨nm,rfl⟩:=a1.inv_str
 obtain ⟨nil,es,rfl,b,-⟩:=a2.inv_sl
 exact ⟨nm,nil,es,rfl,b⟩
theorem state_in{x:D}(h0:WF stateTy.sh x): ∃og ep co na nm nb ns ac ms bs ss,x=stD og ep co na nm nb ns ac ms bs ss∧nilS ss∧nilB bs:=by
 obtain ⟨cs,rfl,h⟩:=WF.inv_agg h0
 obtain ⟨_,_,rfl,a1,h⟩:=h.inv
 obtain ⟨_,_,rfl,a2,h⟩:=h.inv
 obtain ⟨_,_,rfl,a3,h⟩:=h.inv
 obtain ⟨_,_,rfl,a4,h⟩:=h.inv
 obtain ⟨_,_,rfl,a5,h⟩:=h.inv
 obtain ⟨_,_,rfl,a6,h⟩:=h.inv
 obtain ⟨_,_,rfl,a7,h⟩:=h.inv
 obtain rfl:=h.inv_nil
 obtain ⟨og,rfl⟩:=a1.inv_int
 obtain ⟨ep,rfl⟩:=a2.inv_int
 obtain ⟨co,rfl⟩:=a3.inv_int
 obtain ⟨na,ac,rfl,-,-⟩:=a4.inv_sl
 obtain ⟨nm,ms,rfl,-,-⟩:=a5.inv_sl
 obtain ⟨nb,bs,rfl,-,hb⟩:=a6.inv_sl
 obtain ⟨ns,ss,rfl,-,hs⟩:=a7.inv_sl
 refine ⟨og,ep,co,na,nm,nb,ns,ac,ms,bs,ss,rfl,fun i hi=> ?_,fun i hi=> ?_⟩
 ·obtain ⟨rt,nn,st,wy,n1,n2,n3,fc,hops,steps,parts,nm,e,b1,b2,b3⟩:=saga_in (hs _ (getD_mem hi))
  rw [e]
  exact ⟨b1,b2,b3⟩
 ·obtain ⟨nm,nil,es,e,b⟩:=def_in (hb _ (getD_mem hi))
  rw [e]
  exact b
theorem id_in{x:D}(h0:WF idTy.sh x): ∃r q nil es,x= .agg [.int .i64 r,.int .i64 q,.sl hopSh nil es]∧(nil=true→es=[]):=by
 obtain ⟨cs,rfl,h⟩:=WF.inv_agg h0
 obtain ⟨_,_,rfl,a1,h⟩:=h.inv
 obtain ⟨_,_,rfl,a2,h⟩:=h.inv
 obtain ⟨_,_,rfl,a3,h⟩:=h.inv
 obtain rfl:=h.inv_nil
 obtain ⟨r,rfl⟩:=a1.inv_int
 obtain ⟨q,rfl⟩:=a2.inv_int
 obtain ⟨nil,es,rfl,b,-⟩:=a3.inv_sl
 exact ⟨r,q,nil,es,rfl,b⟩
theorem law_trueP{P:Program}(hm:P.follows .mixedOrders=true){E:Env}{f:Nat}{tys:List Ty}(hE:EnvOK P E)(h: ∀ds,WFs tys ds→ ∃n,(callN E n f (ds.map .d) []).out=some [.bool true]):
  ∃g,PureOK P f g∧ ∀xs,WFs tys xs→(g xs).eval=some [.bool true]:=by
 refine ⟨fun ds=> @ite _ (WFs tys ds) (Classical.propDecidable _) (.ret [D.bool true]) .stuck,PureOK.run hm hE fun ds rs hr=> ?_,fun xs hw=> ?_⟩
 ·by_cases hw:WFs tys ds
  ·rw [if_pos hw] at hr
   cases hr
   exact h ds hw
  ·rw [if_neg hw] at hr
   cases hr
 ·show Tree.eval (@ite _ (WFs tys xs) (Classical.propDecidable _) (.ret [D.bool true]) .stuck)=_
  rw [if_pos hw];rfl
open Go Go.AM Go.Proofs Go.ChangeShapes
def powZ:List Int:=[1,10,100,1000,10000,100000,1000000,10000000,100000000,1000000000,10000000000,100000000000,1000000000000,10000000000000,100000000000000,1000000000000000,10000000000000000,100000000000000000,1000000000000000000,10000000000000000000]
def powW:DataW Unit:= .agg (powZ.map fun n=> .lit (.int .u64 n))
theorem powLaid:powW= .agg (powZ.map fun n=> .lit (.int .u64 n)):=rfl
theorem tab_cellsP {P : Program} {gN tN eN : Nat} (hgn : P.globalNamed "internal/strconv.uint64pow10" = some gN) (hgt : (P.globals[gN]?).map (·.type) = some tN) (hun : P.underlying tN = some (.array 20 eN)) (hce : P.cellsOf eN = 1) (hue : P.underlying eN = some (.int .u64)) {W : World} {l : List (String × DataW Unit)} {ps : List MemPlace} (h : DataW.LaidVars P W l ps) (hm : ("internal/strconv.uint64pow10", powW) ∈ l) :
  ∀r,r<20→W.cell? ⟨gN,r,none⟩=some (.int .u64 (powZ.getD r 0)):=by
 induction l generalizing ps with
 | nil=>cases hm
 | cons x l ih=>
  obtain ⟨nm,d⟩:=x
  obtain ⟨g,t,cs,fuel,p,q,hg,ht,hv,hd,hrest,-⟩:=h
  rcases List.mem_cons.1 hm with he | hm
  ·cases he
   intro r hr
   obtain rfl:=Option.some.inj (hgn.symm.trans hg)
   obtain rfl:=Option.some.inj (hgt.symm.trans ht)
   obtain ⟨xs,m,_,ex,_,hl,hel⟩:=DataW.trod_array hun hd
   have c5:P.cellsOf eN=1:=hce
   have hE:=hel r hr
   rw [c5,Nat.mul_one,List.getElem?_eq_getElem (by omega)] at hE
   obtain ⟨z,e1,e2,_⟩:=DataW.trod_int hue hE
   have hlen:powZ.length=20:=rfl
   have e3:(xs.map (·.1))=powZ.map fun n=> .lit (.int .u64 n):=(DataW.agg.inj (powLaid.symm.trans (Prod.mk.inj ex).1)).symm
   have e4:(xs.map (·.1))[r]? =(powZ.map fun n=>(DataW.lit (.int .u64 n):DataW Unit))[r]? :=by rw [e3]
   rw [List.getElem?_map,List.getElem?_map,List.getElem?_eq_getElem (by omega:r<xs.length),List.getElem?_eq_getElem (by omega:r<powZ.length),e2] at e4
   have hz:z=powZ.getD r 0:=by
    simp only [Option.map_some,Option.some.injEq,DataW.lit.injEq,Lit.int.injEq,true_and] at e4
    rw [e4,List.getD,List.getElem?_eq_getElem (by omega:r<powZ.length)];rfl
   rw [World.var?_cell hg hv r,←hz]
   have:cs.toList[r]? =some (.int .u64 z):=by
    have h0:((cs.toList.drop r).take 1)[0]? =some (.int .u64 z):=by rw [e1];rfl
    simpa using h0
   simpa using this
  ·exact ih hrest hm
theorem tab_okP {P : Program} {gN tN eN : Nat} (hgn : P.globalNamed "internal/strconv.uint64pow10" = some gN) (hgt : (P.globals[gN]?).map (·.type) = some tN) (hun : P.underlying tN = some (.array 20 eN)) (hce : P.cellsOf eN = 1) (hue : P.underlying eN = some (.int .u64)) (htab : (tabOf P).map (·.1) = [gN]) {W : World} {l : List (String × DataW Unit)} {ps : List MemPlace} (h : DataW.LaidVars P W l ps) (hm : ("internal/strconv.uint64pow10", powW) ∈ l) : TabOK P W (fun _ => False) := by
 have hc:=tab_cellsP hgn hgt hun hce hue h hm
 have ht:tabOf P=[(gN,pow10)]:=by
  have:=htab
  unfold tabOf at this ⊢
  split
  ·rename_i g hg;rw [hg] at this;simp at this;rw [this]
  ·rename_i hg;rw [hg] at this;cases this
 intro p hp
 rw [ht] at hp
 rw [List.mem_singleton] at hp
 subst hp
 refine ⟨?_,fun h=>h,fun j c hj=> ?_⟩
 ·have h0:=hc 0 (by omega)
  unfold World.cell? at h0
  cases hh:W.heap[gN]? with
  | none=>rw [hh] at h0;cases h0
  | some o=>exact (Array.getElem?_eq_some_iff.1 hh).1
 ·have hj20:j<20:=(List.getElem?_eq_some_iff.1 hj).1
  have:c= .int .u64 (powZ.getD j 0):=by
   have e:pow10=powZ.map fun n=> .int .u64 n:=rfl
   rw [e,List.getElem?_map] at hj
   rw [List.getD]
   cases hx:powZ[j]? with
   | none=>rw [hx] at hj;cases hj
   | some x=>rw [hx] at hj;simpa using hj.symm
  subst this
  exact ⟨_,hc j hj20,.int _ _⟩
def Da:Env:=Mt.pureAt 10 true g18m
theorem okDa{P:Program}(hm:P.follows .mixedOrders=true)(h:EnvOK P Mt):EnvOK P Da:=h.pureAt (pure18m hm h)
theorem x170(m n:Nat)(r q k o:Int)(nil:Bool)(es:List D):Go.AM.Tree.out (enterM Da (callN Da (m+40)) n c116 [.d (.agg [.int .i64 r,.int .i64 q,.sl hopSh nil es]),.d (.int .i64 k),.d (.int .i64 o)] [])=bif (bif idOk r q es then (0:Int) else (30:Int)) != (0:Int) then some [D.agg [D.int IntKind.i64 (0:Int),D.int IntKind.i64 (0:Int),D.sl hopSh true []],D.int IntKind.i64 (bif idOk r q es then (0:Int) else (30:Int))] else bif nil then bif (bif idOk r q [D.agg [D.int IntKind.i64 k,D.int IntKind.i64 o]] then (0:Int) else (30:Int)) != (0:Int) then some [D.agg [D.int IntKind.i64 (0:Int),D.int IntKind.i64 (0:Int),D.sl hopSh true []],D.int IntKind.i64 (bif idOk r q [D.agg [D.int IntKind.i64 k,D.int IntKind.i64 o]] then (0:Int) else (30:Int))] else some [D.agg [D.int IntKind.i64 r,D.int IntKind.i64 q,D.sl hopSh false [D.agg [D.int IntKind.i64 k,D.int IntKind.i64 o]]],D.int IntKind.i64 (0:Int)] else bif decide (List.length es≤(1000000:Nat)) then bif decide (List.length es+(1:Nat)≤(4294967296:Nat)) then bif (bif idOk r q (List.append es [D.agg [D.int IntKind.i64 k,D.int IntKind.i64 o]]) then (0:Int) else (30:Int)) != (0:Int) then some [D.agg [D.int IntKind.i64 (0:Int),D.int IntKind.i64 (0:Int),D.sl hopSh true []],D.int IntKind.i64 (bif idOk r q (List.append es [D.agg [D.int IntKind.i64 k,D.int IntKind.i64 o]]) then (0:Int) else (30:Int))] else some [D.agg [D.int IntKind.i64 r,D.int IntKind.i64 q,D.sl hopSh false (List.append es [D.agg [D.int IntKind.i64 k,D.int IntKind.i64 o]])],D.int IntKind.i64 (0:Int)] else none else none:=by kernel_rfl
theorem x65(m n:Nat)(r q k o:Int)(nil:Bool)(es:List D):Go.AM.Tree.out (enterM Da (callN Da (m+40)) n c117 [.d (.agg [.int .i64 r,.int .i64 q,.sl hopSh nil es]),.d (.int .i64 k),.d (.int .i64 o)] [])=bif decide ((0:Nat)+List.length es≤(4294967296:Nat)) then bif decide (List.length es+(1:Nat)≤(4294967296:Nat)) then bif (bif idOk r q es then (0:Int) else (30:Int)) != (0:Int) then some [D.agg [D.int IntKind.i64 (0:Int),D.int IntKind.i64 (0:Int),D.sl hopSh true []],D.int IntKind.i64 (30:Int)] else bif (bif idOk r q (List.append es [D.agg [D.int IntKind.i64 k,D.int IntKind.i64 o]]) then (0:Int) else (30:Int)) != (0:Int) then some [D.agg [D.int IntKind.i64 (0:Int),D.int IntKind.i64 (0:Int),D.sl hopSh true []],D.int IntKind.i64 (30:Int)] else some [D.agg [D.int IntKind.i64 r,D.int IntKind.i64 q,D.sl hopSh false (List.append es [D.agg [D.int IntKind.i64 k,D.int IntKind.i64 o]])],D.int IntKind.i64 (0:Int)] else none else none:=by kernel_rfl
def hpD(k o:Int):D:= .agg [.int .i64 k,.int .i64 o]
def kidOk(r q:Int)(es:List D)(k o:Int):Bool:=idOk r q es&&idOk r q (es++[hpD k o])
def kidD(r q:Int)(es:List D)(k o:Int):D:= .agg [.int .i64 r,.int .i64 q,.sl hopSh false (es++[hpD k o])]
def zId:D:= .agg [.int .i64 0,.int .i64 0,.sl hopSh true []]
def kidT(r q:Int)(es:List D)(k o:Int):Tree (List D):= .ite (kidOk r q es k o) (fun _=> .ret [kidD r q es k o,.int .i64 0]) (fun _=> .ret [zId,.int .i64 30])
def owedK(st c i p:Int)(fc:Bool):Int:=
 bif st==1 then bif p==1 then 1 else 0 else bif st==4||st==5 then bif i==c&&(p==1||p==2) then 4 else 0 else
 bif st==3 then bif p==2 then 3 else bif p==1&&fc then 4 else 0 else bif st==6 then bif p==1||p==2 then 4 else 0 else 0
theorem rn170(m n:Nat)(r q k o:Int)(nil:Bool)(es:List D)(h1:nil=true→es=[])(h2:es.length≤1000000):
  (enterM Da (callN Da (m+40)) n c116 [.d (.agg [.int .i64 r,.int .i64 q,.sl hopSh nil es]),.d (.int .i64 k),.d (.int .i64 o)] []).out=(kidT r q es k o).eval:=by
 rw [x170]
 simp only [ne0 _ 30 (by decide)]
 unfold kidT kidOk
 cases hi:idOk r q es
 ·rfl
 ·cases hj:idOk r q (es++[hpD k o])
  ·have hj':idOk r q (List.append es [D.agg [D.int .i64 k,D.int .i64 o]])=false:=hj
   cases nil
   ·refine (cf rfl).trans ((cf rfl).trans ((ct (decide_eq_true h2)).trans ((ct (decide_eq_true (by omega))).trans ?_)))
    rw [hj'];rfl
   ·obtain rfl:=h1 rfl
    have hj':idOk r q [D.agg [D.int .i64 k,D.int .i64 o]]=false:=hj
    rw [hj'];rfl
  ·have hj':idOk r q (List.append es [D.agg [D.int .i64 k,D.int .i64 o]])=true:=hj
   cases nil
   ·refine (cf rfl).trans ((cf rfl).trans ((ct (decide_eq_true h2)).trans ((ct (decide_eq_true (by omega))).trans ?_)))
    rw [hj'];rfl
   ·obtain rfl:=h1 rfl
    have hj':idOk r q [D.agg [D.int .i64 k,D.int .i64 o]]=true:=hj
    rw [hj'];rfl
theorem rn65(m n:Nat)(r q k o:Int)(nil:Bool)(es:List D)(h2:es.length≤1000000):
  (enterM Da (callN Da (m+40)) n c117 [.d (.agg [.int .i64 r,.int .i64 q,.sl hopSh nil es]),.d (.int .i64 k),.d (.int .i64 o)] []).out=(kidT r q es k o).eval:=by
 rw [x65]
 simp only [ne0 _ 30 (by decide)]
 unfold kidT kidOk
 refine (ct (decide_eq_true (by omega))).trans ((ct (decide_eq_true (by omega))).trans ?_)
 cases hi:idOk r q es
 ·rfl
 ·cases hj:idOk r q (es++[hpD k o])
  ·have hj':idOk r q (List.append es [D.agg [D.int .i64 k,D.int .i64 o]])=false:=hj
   rw [hj'];rfl
  ·have hj':idOk r q (List.append es [D.agg [D.int .i64 k,D.int .i64 o]])=true:=hj
   rw [hj'];rfl
def g170d:List D→Tree (List D)
 | [.agg [.int .i64 r,.int .i64 q,.sl e0 nil es],.int .i64 k,.int .i64 o]=>match Sh.beq e0 hopSh with
  | true=> .ite ((!nil||es.isEmpty)&&decide (es.length≤1000000)) (fun _=>kidT r q es k o) (fun _=> .stuck)
  | false=> .stuck
 | _=> .stuck
theorem pure170d{P:Program}(hm:P.follows .mixedOrders=true)(h0:EnvOK P Da):PureOK P 116 g170d:=PureOK.run hm h0 fun ds rs h=>by
 unfold g170d at h
 split at h
 ·rename_i r q e0 nil es k o
  split at h
  ·rename_i hb
   have hb0:=hb
   have hb0:=Sh.beq_eq hb0
   subst hb0
   obtain ⟨hg,h'⟩:=eval_guard h
   clear h
   simp only [Bool.and_eq_true,decide_eq_true_eq] at hg
   exact ⟨59+1,by rw [callN_succ (fn:=c116) rfl];exact (rn170 19 59 r q k o nil es (fun h=>by rw [h] at hg;exact List.isEmpty_iff.1 hg.1) hg.2).trans h'⟩
  ·cases h
 ·cases h
def g65d:List D→Tree (List D)
 | [.agg [.int .i64 r,.int .i64 q,.sl e0 _nil es],.int .i64 k,.int .i64 o]=>match Sh.beq e0 hopSh with
  | true=> .ite (decide (es.length≤1000000)) (fun _=>kidT r q es k o) (fun _=> .stuck)
  | false=> .stuck
 | _=> .stuck
theorem pure65d{P:Program}(hm:P.follows .mixedOrders=true)(h0:EnvOK P Da):PureOK P 117 g65d:=PureOK.run hm h0 fun ds rs h=>by
 unfold g65d at h
 split at h
 ·rename_i r q e0 nil es k o
  split at h
  ·rename_i hb
   have hb0:=hb
   have hb0:=Sh.beq_eq hb0
   subst hb0
   obtain ⟨hg,h'⟩:=eval_guard h
   clear h
   simp only [decide_eq_true_eq] at hg
   exact ⟨59+1,by rw [callN_succ (fn:=c117) rfl];exact (rn65 19 59 r q k o nil es hg).trans h'⟩
  ·cases h
 ·cases h
def Db:Env:=(Da.pureAt 116 false g170d).pureAt 117 false g65d
theorem okDb{P:Program}(hm:P.follows .mixedOrders=true)(h:EnvOK P Da):EnvOK P Db:=(h.pureAt (pure170d hm h)).pureAt (pure65d hm h)
def wkC(rt nn st wy:Int)(n1 n2 n3 fc f1 f2 f3 f4:Bool)(hops steps parts:List D)(nm:List UInt8)(og ep co:Int)(na nm' nb ns:Bool)(ac ms bs ss:List D)(ix:Int):List V:=[.d (.int .i64 rt),.d (.int .i64 nn),.d (.sl hopSh n1 hops),.d (.str nm),.d (.sl stepSh n2 steps),.d (.int .i64 st),.d (.int .i64 wy),.d (.sl partSh n3 parts),.d (.bool fc),.d (.bool f1),.d (.bool f2),.d (.bool f3),.d (.bool f4),.d (.int .i64 og),.d (.int .i64 ep),.d (.int .i64 co),.d (.sl accSh na ac),.d (.sl mrkSh nm' ms),.d (.sl defSh nb bs),.d (.sl sgSh ns ss),.d (.int .i64 ix)]
theorem x1054(m n:Nat)(rt nn st wy:Int)(n1 n2 n3 fc f1 f2 f3 f4:Bool)(hops steps parts:List D)(nm:List UInt8)(og ep co:Int)(na nm' nb ns:Bool)(ac ms bs ss:List D)(ix:Int):Tree.outG (enterM Db (callN Db (m+40)) n c54 [.ptr 0 0] [(0,.box (wkC rt nn st wy n1 n2 n3 fc f1 f2 f3 f4 hops steps parts nm og ep co na nm' nb ns ac ms bs ss ix))])=bif st==1 then bif decide (0≤ix) then bif decide (0≤ix∧ix<(↑(List.length parts):Int)) then some (V.d (D.bool (fi 0 (List.getD parts (Int.toNat ix) D.nilp)==1)),[(0,Obj.box [V.d (D.int .i64 rt),V.d (D.int .i64 nn),V.d (D.sl hopSh n1 hops),V.d (D.str nm),V.d (D.sl stepSh n2 steps),V.d (D.int .i64 st),V.d (D.int .i64 wy),V.d (D.sl hopSh n3 parts),V.d (D.bool fc),V.d (D.bool f1),V.d (D.bool f2),V.d (D.bool f3),V.d (D.bool f4),V.d (D.int .i64 og),V.d (D.int .i64 ep),V.d (D.int .i64 co),V.d (D.sl accSh na ac),V.d (D.sl mrkSh nm' ms),V.d (D.sl (Sh.agg [Sh.str,Sh.sl stepSh]) nb bs),V.d (D.sl (Sh.agg [Sh.int .i64,Sh.int .i64,Sh.sl hopSh,Sh.str,Sh.sl stepSh,Sh.int .i64,Sh.int .i64,Sh.sl hopSh,Sh.bool]) ns ss),V.d (D.int .i64 ix)])]) else none else some (V.d (D.bool false),[(0,Obj.box [V.d (D.int .i64 rt),V.d (D.int .i64 nn),V.d (D.sl hopSh n1 hops),V.d (D.str nm),V.d (D.sl stepSh n2 steps),V.d (D.int .i64 st),V.d (D.int .i64 wy),V.d (D.sl hopSh n3 parts),V.d (D.bool fc),V.d (D.bool f1),V.d (D.bool f2),V.d (D.bool f3),V.d (D.bool f4),V.d (D.int .i64 og),V.d (D.int .i64 ep),V.d (D.int .i64 co),V.d (D.sl accSh na ac),V.d (D.sl mrkSh nm' ms),V.d (D.sl (Sh.agg [Sh.str,Sh.sl stepSh]) nb bs),V.d (D.sl (Sh.agg [Sh.int .i64,Sh.int .i64,Sh.sl hopSh,Sh.str,Sh.sl stepSh,Sh.int .i64,Sh.int .i64,Sh.sl hopSh,Sh.bool]) ns ss),V.d (D.int .i64 ix)])]) else some (V.d (D.bool false),[(0,Obj.box [V.d (D.int .i64 rt),V.d (D.int .i64 nn),V.d (D.sl hopSh n1 hops),V.d (D.str nm),V.d (D.sl stepSh n2 steps),V.d (D.int .i64 st),V.d (D.int .i64 wy),V.d (D.sl hopSh n3 parts),V.d (D.bool fc),V.d (D.bool f1),V.d (D.bool f2),V.d (D.bool f3),V.d (D.bool f4),V.d (D.int .i64 og),V.d (D.int .i64 ep),V.d (D.int .i64 co),V.d (D.sl accSh na ac),V.d (D.sl mrkSh nm' ms),V.d (D.sl (Sh.agg [Sh.str,Sh.sl stepSh]) nb bs),V.d (D.sl (Sh.agg [Sh.int .i64,Sh.int .i64,Sh.sl hopSh,Sh.str,Sh.sl stepSh,Sh.int .i64,Sh.int .i64,Sh.sl hopSh,Sh.bool]) ns ss),V.d (D.int .i64 ix)])]):=by kernel_rfl
def waitsP(st ix:Int)(parts:List D):Bool:=st==1&&(decide (0≤ix)&&fi 0 (parts.getD ix.toNat .nilp)==1)
theorem rn1054(m n:Nat)(rt nn st wy:Int)(n1 n2 n3 fc f1 f2 f3 f4:Bool)(hops steps parts:List D)(nm:List UInt8)(og ep co:Int)(na nm' nb ns:Bool)(ac ms bs ss:List D)(ix:Int)(h:0≤ix→ix<(parts.length:Int)):
  (enterM Db (callN Db (m+40)) n c54 [.ptr 0 0] [(0,.box (wkC rt nn st wy n1 n2 n3 fc f1 f2 f3 f4 hops steps parts nm og ep co na nm' nb ns ac ms bs ss ix))]).outG=some (.d (.bool (waitsP st ix parts)),[(0,.box (wkC rt nn st wy n1 n2 n3 fc f1 f2 f3 f4 hops steps parts nm og ep co na nm' nb ns ac ms bs ss ix))]):=by
 rw [x1054]
 unfold waitsP
 cases (st==1)
 ·rfl
 ·by_cases h0:0≤ix
  ·rw [decide_eq_true h0,decide_eq_true (show 0≤ix∧ix<(parts.length:Int) from ⟨h0,h h0⟩)]
   rfl
  ·rw [decide_eq_false h0];rfl
def C1054(args:List V)(ob:Obs):Tree (V×Obs):=
 match args,ob with
 | [.ptr p q],[(k,.box [.d (.int .i64 rt),.d (.int .i64 nn),.d (.sl e1 n1 hops),.d (.str nm),.d (.sl e2 n2 steps),.d (.int .i64 st),.d (.int .i64 wy),.d (.sl e3 n3 parts),.d (.bool fc),.d (.bool f1),.d (.bool f2),.d (.bool f3),.d (.bool f4),.d (.int .i64 og),.d (.int .i64 ep),.d (.int .i64 co),.d (.sl e4 na ac),.d (.sl e5 nm' ms),.d (.sl e6 nb bs),.d (.sl e7 ns ss),.d (.int .i64 ix)])]=>
  match at00 p q&&(Nat.beq k 0&&(Sh.beq e1 hopSh&&(Sh.beq e2 stepSh&&(Sh.beq e3 partSh&&(Sh.beq e4 accSh&&(Sh.beq e5 mrkSh&&(Sh.beq e6 defSh&&Sh.beq e7 sgSh))))))) with
  | true=> .ite (decide (0≤ix→ix<(parts.length:Int))) (fun _=> .ret (.d (.bool (waitsP st ix parts)),[(k,.box [.d (.int .i64 rt),.d (.int .i64 nn),.d (.sl e1 n1 hops),.d (.str nm),.d (.sl e2 n2 steps),.d (.int .i64 st),.d (.int .i64 wy),.d (.sl e3 n3 parts),.d (.bool fc),.d (.bool f1),.d (.bool f2),.d (.bool f3),.d (.bool f4),.d (.int .i64 og),.d (.int .i64 ep),.d (.int .i64 co),.d (.sl e4 na ac),.d (.sl e5 nm' ms),.d (.sl e6 nb bs),.d (.sl e7 ns ss),.d (.int .i64 ix)])])) (fun _=> .stuck)
  | false=> .stuck
 | _,_=> .stuck
theorem fn1054{P:Program}(hm:P.follows .mixedOrders=true)(h0:EnvOK P Db):FnOK P 54 C1054:=FnOK.runG hm h0 fun args ob r h=>by
 unfold C1054 at h
 split at h
 ·rename_i p q k rt nn e1 n1 hops nm e2 n2 steps st wy e3 n3 parts fc f1 f2 f3 f4 og ep co e4 na ac e5 nm' ms e6 nb bs e7 ns ss ix
  split at h
  ·rename_i hb
   simp only [Bool.and_eq_true] at hb
   obtain ⟨hb1,hb2,hb3,hb4,hb5,hb6,hb7,hb8,hb9⟩:=hb
   obtain ⟨rfl,rfl⟩:=at00_eq hb1
   have hb2:=Nat.eq_of_beq_eq_true hb2
   have hb3:=Sh.beq_eq hb3
   have hb4:=Sh.beq_eq hb4
   have hb5:=Sh.beq_eq hb5
   have hb6:=Sh.beq_eq hb6
   have hb7:=Sh.beq_eq hb7
   have hb8:=Sh.beq_eq hb8
   have hb9:=Sh.beq_eq hb9
   subst hb2 hb3 hb4 hb5 hb6 hb7 hb8 hb9
   obtain ⟨hl,h⟩:=eval_guard h
   cases h
   exact ⟨59+1,by rw [callN_succ (fn:=c54) rfl];exact rn1054 19 59 rt nn st wy n1 n2 n3 fc f1 f2 f3 f4 hops steps parts nm og ep co na nm' nb ns ac ms bs ss ix (of_decide_eq_true hl)⟩
  ·cases h
 ·cases h
theorem C1054_ro: ∀args ob v ob',(C1054 args ob).eval=some (v,ob')→ob'=ob:=by
 intro args ob v ob' h
 unfold C1054 at h
 split at h
 ·split at h
  ·obtain ⟨-,h⟩:=eval_guard h
   cases h;rfl
  ·cases h
 ·cases h
def xJ(r q:Int)(es ss:List D):D:=ss.getD (idxS r q es ss).toNat .nilp
def curX(x:D):Int:=curR (fi 0 x) (fi 1 x) (fi 5 x) (fi 6 x) (fb 8 x) (fl 2 x) (fl 4 x) (fl 7 x) (fs 3 x)
def fndX(og ep co:Int)(zas ms bs ss:List D)(r q:Int)(es:List D):Tree (List D):= .ite (gotS og ep co zas ms bs ss r q es) (fun _=> .ret [sagaI (xJ r q es ss),.bool true]) (fun _=> .ret [zSaga,.bool false])
def g54x:List D→Tree (List D)
 | [.agg [.int .i64 og,.int .i64 ep,.int .i64 co,.sl e0a _na zas,.sl e0m _nm ms,.sl e0b _nb bs,.sl e0s _ns ss],.agg [.int .i64 r,.int .i64 q,.sl e1 _nil es]]=>match Sh.beq e0a accSh&&Sh.beq e0m mrkSh&&Sh.beq e0b defSh&&Sh.beq e0s sgSh&&Sh.beq e1 hopSh with
  | true=> .ite (sgsShort ss) (fun _=>fndX og ep co zas ms bs ss r q es) (fun _=> .stuck)
  | false=> .stuck
 | _=> .stuck
theorem pure54x{P:Program}(hm:P.follows .mixedOrders=true)(h0:EnvOK P Mt):PureOK P 21 g54x:=pure54m hm h0
theorem pure60x{P:Program}(hm:P.follows .mixedOrders=true)(h0:EnvOK P Mt):PureOK P 22 g54x:=pure60m hm h0
def Wa:Env:=(((Db.pureAt 21 false g54x).pureAt 22 false g54x).pureAt 64 true g38).roAt 54 C1054
def ow(st c:Int)(fc:Bool):Int→Int→Int:=fun i p=>owedK st c i p fc
theorem may_lens{rt nn st wy:Int}{fc:Bool}{hops steps parts:List D}{nm:List UInt8}(h:mayOk rt nn st wy fc hops steps parts nm=true):parts.length=steps.length∧steps.length≤8∧hops.length≤4:=by
 have hid:=mayOk_id h
 have h4:=(idOk_iff.1 hid).2.1
 by_cases h7:st=7
 ·subst h7
  unfold mayOk at h
  have:((7:Int)==7)=true:=rfl
  rw [this,hid] at h
  cases hd:decide (0<(steps.length:Int)+(parts.length:Int))
  ·have:=of_decide_eq_false hd
   omega
  ·rw [hd] at h
   cases hn:(nm==[]) <;> rw [hn] at h <;> cases h
 ·have:=mayOk_len h h7
  omega
abbrev zNt:D:=noteD 0 0 0 true [] [] 0
theorem got_at{og ep co:Int}{zas ms bs ss:List D}{r q:Int}{es:List D}(hg:gotS og ep co zas ms bs ss r q es=true)(hs:sgsShort ss=true):
  mayS (xJ r q es ss)=true∧(fl 4 (xJ r q es ss)).length≤1000000∧(fl 7 (xJ r q es ss)).length≤1000000∧(fl 2 (xJ r q es ss)).length≤4∧(!fn 2 (xJ r q es ss)||List.isEmpty (fl 2 (xJ r q es ss)))=true:=by
 unfold gotS at hg
 rw [Bool.and_eq_true,decide_eq_true_eq] at hg
 have hi:=(idxS_at hg.2).1
 have hm:mayS (xJ r q es ss)=true:=((mayR_all hg.1).1 _ hi).1
 obtain ⟨h1,h2,h3⟩:=may_lens hm
 have hsh:=(short_in hs).2.2 _ hi
 unfold sgShort at hsh
 simp only [Bool.and_eq_true] at hsh
 have h4:(fl 4 (xJ r q es ss)).length≤8:=h2
 have h7:(fl 7 (xJ r q es ss)).length=(fl 4 (xJ r q es ss)).length:=h1
 refine ⟨hm,by omega,by omega,h3,?_⟩
 have:shortL (fn 2 (xJ r q es ss)) (fl 2 (xJ r q es ss))=true:=hsh.1
 unfold shortL at this
 exact (Bool.and_eq_true _ _ ▸ this).1
theorem x105(m n:Nat)(r q:Int)(nil:Bool)(es:List D):Tree.out (enterM Wa (callN Wa (m+40)) n c120 [.d (.agg [.int .i64 r,.int .i64 q,.sl hopSh nil es])] [])=bif (bif idOk r q es then (0:Int) else (30:Int)) != 0 then some [D.agg [D.int .i64 0,D.int .i64 0,D.sl hopSh true []],D.int .i64 0,D.bool false] else bif decide (IntKind.wrap .i64 ((↑(List.length es):Int) - 1)<0) then some [D.agg [D.int .i64 0,D.int .i64 0,D.sl hopSh true []],D.int .i64 0,D.bool false] else bif decide (0≤IntKind.wrap .i64 ((↑(List.length es):Int) - 1)∧IntKind.wrap .i64 ((↑(List.length es):Int) - 1)≤(↑(List.length es):Int)) then bif nil then bif decide (0≤IntKind.wrap .i64 ((↑(List.length es):Int) - 1)∧IntKind.wrap .i64 ((↑(List.length es):Int) - 1)<(↑(List.length es):Int)) then some [D.agg [D.int .i64 r,D.int .i64 q,D.sl hopSh true []],D.int .i64 (fi 0 (List.getD es (Int.toNat (IntKind.wrap .i64 ((↑(List.length es):Int) - 1))) D.nilp)),D.bool true] else none else bif decide (List.length (List.take (Int.toNat (IntKind.wrap .i64 ((↑(List.length es):Int) - 1)) - 0) es)≤1000000) then bif decide (0≤IntKind.wrap .i64 ((↑(List.length es):Int) - 1)∧IntKind.wrap .i64 ((↑(List.length es):Int) - 1)<(↑(List.length es):Int)) then some [D.agg [D.int .i64 r,D.int .i64 q,D.sl hopSh false (List.take (Int.toNat (IntKind.wrap .i64 ((↑(List.length es):Int) - 1)) - 0) es)],D.int .i64 (fi 0 (List.getD es (Int.toNat (IntKind.wrap .i64 ((↑(List.length es):Int) - 1))) D.nilp)),D.bool true] else none else none else none:=by kernel_rfl
theorem x1063(m n:Nat)(r q:Int)(nil:Bool)(es:List D):Tree.out (enterM Wa (callN Wa (m+40)) n c63 [.d (.agg [.int .i64 r,.int .i64 q,.sl hopSh nil es])] [])=bif (bif idOk r q es then (0:Int) else (30:Int)) != 0 then some [D.agg [D.int .i64 0,D.int .i64 0,D.sl hopSh true []],D.int .i64 0,D.bool false] else bif (↑(List.length es):Int)==0 then some [D.agg [D.int .i64 0,D.int .i64 0,D.sl hopSh true []],D.int .i64 0,D.bool false] else bif decide (0≤IntKind.wrap .i64 ((↑(List.length es):Int) - 1)∧IntKind.wrap .i64 ((↑(List.length es):Int) - 1)≤(↑(List.length es):Int)) then bif decide (0≤IntKind.wrap .i64 ((↑(List.length es):Int) - 1)∧IntKind.wrap .i64 ((↑(List.length es):Int) - 1)<(↑(List.length es):Int)) then some [D.agg [D.int .i64 r,D.int .i64 q,D.sl hopSh nil (List.take (Int.toNat (IntKind.wrap .i64 ((↑(List.length es):Int) - 1)) - 0) es)],D.int .i64 (fi 0 (List.getD es (Int.toNat (IntKind.wrap .i64 ((↑(List.length es):Int) - 1))) D.nilp)),D.bool true] else none else none:=by kernel_rfl
def upE(es:List D):List D:=es.take (es.length - 1)
def stE(es:List D):Int:=fi 0 (es.getD (es.length - 1) .nilp)
def upB(r q:Int)(es:List D):Bool:=idOk r q es&& !((es.length:Int)==0)
def parT(r q:Int)(es:List D):Tree (List D):= .ite (upB r q es) (fun _=> .ret [.agg [.int .i64 r,.int .i64 q,.sl hopSh false (upE es)],.int .i64 (stE es),.bool true]) (fun _=> .ret [zId,.int .i64 0,.bool false])
theorem parT_eval(r q:Int)(es:List D):(parT r q es).eval=some (bif upB r q es then [.agg [.int .i64 r,.int .i64 q,.sl hopSh false (upE es)],.int .i64 (stE es),.bool true] else [zId,.int .i64 0,.bool false]):=by
 unfold parT
 cases upB r q es <;> rfl
theorem rn105(m n:Nat)(r q:Int)(nil:Bool)(es:List D)(h1:(!nil||es.isEmpty)=true)(h2:es.length≤1000000):
  (enterM Wa (callN Wa (m+40)) n c120 [.d (.agg [.int .i64 r,.int .i64 q,.sl hopSh nil es])] []).out=(parT r q es).eval:=by
 rw [x105,parT_eval,ne0 _ 30 (by decide)]
 unfold upB upE stE
 cases hi:idOk r q es
 ·rfl
 ·by_cases h0:es.length=0
  ·have:es=[]:=List.eq_nil_of_length_eq_zero h0
   subst this
   rfl
  ·have hnil:nil=false:=by
    cases nil with
    | false=>rfl
    | true=>
     have:es=[]:=List.isEmpty_iff.1 h1
     rw [this] at h0
     exact absurd rfl h0
   subst hnil
   have hw:IntKind.wrap .i64 ((es.length:Int) - 1)=((es.length - 1:Nat):Int):=by rw [wrap_i64 (by omega) (by omega)];omega
   have hne:((es.length:Int)==0)=false:=beq_eq_false_iff_ne.2 (by omega)
   rw [hw,Int.toNat_natCast,Nat.sub_zero,hne,decide_eq_false (show¬(((es.length - 1:Nat):Int)<0) by omega),decide_eq_true (show (0:Int)≤((es.length - 1:Nat):Int)∧((es.length - 1:Nat):Int)≤(es.length:Int) by omega),decide_eq_true (show (0:Int)≤((es.length - 1:Nat):Int)∧((es.length - 1:Nat):Int)<(es.length:Int) by omega),decide_eq_true (show (es.take (es.length - 1)).length≤1000000 by rw [List.length_take];omega)]
   rfl
theorem rn1063(m n:Nat)(r q:Int)(nil:Bool)(es:List D)(h1:(!nil||es.isEmpty)=true)(h2:es.length≤1000000):
  (enterM Wa (callN Wa (m+40)) n c63 [.d (.agg [.int .i64 r,.int .i64 q,.sl hopSh nil es])] []).out=(parT r q es).eval:=by
 rw [x1063,parT_eval,ne0 _ 30 (by decide)]
 unfold upB upE stE
 cases hi:idOk r q es
 ·rfl
 ·by_cases h0:es.length=0
  ·have:es=[]:=List.eq_nil_of_length_eq_zero h0
   subst this
   rfl
  ·have hnil:nil=false:=by
    cases nil with
    | false=>rfl
    | true=>
     have:es=[]:=List.isEmpty_iff.1 h1
     rw [this] at h0
     exact absurd rfl h0
   subst hnil
   have hw:IntKind.wrap .i64 ((es.length:Int) - 1)=((es.length - 1:Nat):Int):=by rw [wrap_i64 (by omega) (by omega)];omega
   have hne:((es.length:Int)==0)=false:=beq_eq_false_iff_ne.2 (by omega)
   rw [hw,Int.toNat_natCast,Nat.sub_zero,hne,decide_eq_true (show (0:Int)≤((es.length - 1:Nat):Int)∧((es.length - 1:Nat):Int)≤(es.length:Int) by omega),decide_eq_true (show (0:Int)≤((es.length - 1:Nat):Int)∧((es.length - 1:Nat):Int)<(es.length:Int) by omega)]
   rfl
def g105:List D→Tree (List D)
 | [.agg [.int .i64 r,.int .i64 q,.sl e0 nil es]]=>match Sh.beq e0 hopSh with
  | true=> .ite ((!nil||es.isEmpty)&&decide (es.length≤1000000)) (fun _=>parT r q es) (fun _=> .stuck)
  | false=> .stuck
 | _=> .stuck
theorem pure105{P:Program}(hm:P.follows .mixedOrders=true)(h0:EnvOK P Wa):PureOK P 120 g105:=PureOK.run hm h0 fun ds rs h=>by
 unfold g105 at h
 split at h
 ·rename_i r q e0 nil es
  split at h
  ·rename_i hb
   have hb0:=hb
   have hb0:=Sh.beq_eq hb0
   subst hb0
   obtain ⟨hg,h'⟩:=eval_guard h
   clear h
   simp only [Bool.and_eq_true,decide_eq_true_eq] at hg
   exact ⟨59+1,by rw [callN_succ (fn:=c120) rfl];exact (rn105 19 59 r q nil es hg.1 hg.2).trans h'⟩
  ·cases h
 ·cases h
def g1063:List D→Tree (List D)
 | [.agg [.int .i64 r,.int .i64 q,.sl e0 nil es]]=>match Sh.beq e0 hopSh with
  | true=> .ite ((!nil||es.isEmpty)&&decide (es.length≤1000000)) (fun _=>parT r q es) (fun _=> .stuck)
  | false=> .stuck
 | _=> .stuck
theorem pure1063{P:Program}(hm:P.follows .mixedOrders=true)(h0:EnvOK P Wa):PureOK P 63 g1063:=PureOK.run hm h0 fun ds rs h=>by
 unfold g1063 at h
 split at h
 ·rename_i r q e0 nil es
  split at h
  ·rename_i hb
   have hb0:=hb
   have hb0:=Sh.beq_eq hb0
   subst hb0
   obtain ⟨hg,h'⟩:=eval_guard h
   clear h
   simp only [Bool.and_eq_true,decide_eq_true_eq] at hg
   exact ⟨59+1,by rw [callN_succ (fn:=c63) rfl];exact (rn1063 19 59 r q nil es hg.1 hg.2).trans h'⟩
  ·cases h
 ·cases h
def Xa:Env:=(Wa.pureAt 120 false g105).pureAt 63 false g1063
theorem okXa{P:Program}(hm:P.follows .mixedOrders=true)(h:EnvOK P Wa):EnvOK P Xa:=(h.pureAt (pure105 hm h)).pureAt (pure1063 hm h)
theorem x99p(m n:Nat)(nil:Bool)(es:List D):Tree.out (enterM Xa (callN Xa (m+40)) n c122 [.d (.sl hopSh nil es)] [])=bif nil then some [D.sl hopSh true []] else bif decide (0+List.length es≤4294967296) then some [D.sl hopSh false es] else none:=by kernel_rfl
theorem x1123(m n:Nat)(b:Bool)(x y:Int):Tree.out (enterM Xa (callN Xa (m+40)) n c123 [.d (.bool b),.d (.int .i64 x),.d (.int .i64 y)] [])=bif b then some [D.int .i64 x] else some [D.int .i64 y]:=by kernel_rfl
def yS(og ep co:Int)(zas ms bs ss:List D)(r q:Int)(es:List D):D:=bif gotS og ep co zas ms bs ss r q es then xJ r q es ss else zSaga
def g54y:List D→Tree (List D)
 | [.agg [.int .i64 og,.int .i64 ep,.int .i64 co,.sl e0a _na zas,.sl e0m _nm ms,.sl e0b _nb bs,.sl e0s _ns ss],.agg [.int .i64 r,.int .i64 q,.sl e1 _nil es]]=>match Sh.beq e0a accSh&&Sh.beq e0m mrkSh&&Sh.beq e0b defSh&&Sh.beq e0s sgSh&&Sh.beq e1 hopSh with
  | true=> .ite (sgsShort ss) (fun _=> .ret [sagaI (yS og ep co zas ms bs ss r q es),.bool (gotS og ep co zas ms bs ss r q es)]) (fun _=> .stuck)
  | false=> .stuck
 | _=> .stuck
theorem pure_as{P:Program}{f:Nat}{g g':List D→Tree (List D)}(h:PureOK P f g)(he: ∀ds rs,(g' ds).eval=some rs→(g ds).eval=some rs):PureOK P f g':=fun hy ds rs hr=>h hy ds rs (he ds rs hr)
theorem g54_y(ds rs:List D)(h:(g54y ds).eval=some rs):(g54x ds).eval=some rs:=by
 unfold g54y at h
 unfold g54x
 split at h
 ·rename_i og ep co e0a na zas e0m nm ms e0b nb bs e0s ns ss r q e1 nil es
  split at h
  ·rename_i hb
   try simp only [hb]
   obtain ⟨hg,h⟩:=eval_guard h
   cases h
   rw [hg]
   show (fndX og ep co zas ms bs ss r q es).eval=_
   unfold fndX yS
   cases gotS og ep co zas ms bs ss r q es <;> rfl
  ·cases h
 ·cases h
def Xb:Env:=(Xa.pureAt 21 false g54y).pureAt 22 false g54y
theorem okXb{P:Program}(hm:P.follows .mixedOrders=true)(ht:EnvOK P Mt)(h:EnvOK P Xa):EnvOK P Xb:=(h.pureAt (pure_as (pure54x hm ht) g54_y)).pureAt (pure_as (pure60x hm ht) g54_y)
def g1063u:List D→Tree (List D)
 | [.agg [.int .i64 r,.int .i64 q,.sl e0 nil es]]=>match Sh.beq e0 hopSh with
  | true=> .ite ((!nil||es.isEmpty)&&decide (es.length≤1000000)) (fun _=> .ite (upB r q es) (fun _=> .ret [.agg [.int .i64 r,.int .i64 q,.sl hopSh false (upE es)],.int .i64 (stE es),.bool true]) (fun _=> .stuck)) (fun _=> .stuck)
  | false=> .stuck
 | _=> .stuck
theorem g1063_u(ds rs:List D)(h:(g1063u ds).eval=some rs):(g1063 ds).eval=some rs:=by
 unfold g1063u at h
 unfold g1063
 split at h
 ·rename_i r q e0 nil es
  split at h
  ·rename_i hb
   try simp only [hb]
   obtain ⟨hg,h⟩:=eval_guard h
   obtain ⟨hu,h⟩:=eval_guard h
   cases h
   rw [hg]
   show (parT r q es).eval=_
   rw [parT_eval,hu];rfl
  ·cases h
 ·cases h
def Xu:Env:=Xb.pureAt 63 false g1063u
theorem okXu{P:Program}(hm:P.follows .mixedOrders=true)(ha:EnvOK P Wa)(h:EnvOK P Xb):EnvOK P Xu:=h.pureAt (pure_as (pure1063 hm ha) g1063_u)
theorem rn99p(m n:Nat)(nil:Bool)(es:List D)(h1:(!nil||es.isEmpty)=true)(h2:es.length≤1000000):(enterM Xa (callN Xa (m+40)) n c122 [.d (.sl hopSh nil es)] []).out=some [.sl hopSh nil es]:=by
 rw [x99p,decide_eq_true (show 0+es.length≤4294967296 by omega)]
 cases nil
 ·rfl
 ·obtain rfl:es=[]:=List.isEmpty_iff.1 h1
  rfl
theorem rn1123(m n:Nat)(b:Bool)(x y:Int):(enterM Xa (callN Xa (m+40)) n c123 [.d (.bool b),.d (.int .i64 x),.d (.int .i64 y)] []).out=some [.int .i64 (bif b then x else y)]:=by
 rw [x1123]
 cases b <;> rfl
def g99p:List D→Tree (List D)
 | [.sl e0 nil es]=>match Sh.beq e0 hopSh with
  | true=> .ite ((!nil||es.isEmpty)&&decide (es.length≤1000000)) (fun _=> .ret [.sl hopSh nil es]) (fun _=> .stuck)
  | false=> .stuck
 | _=> .stuck
theorem pure99p{P:Program}(hm:P.follows .mixedOrders=true)(h0:EnvOK P Xa):PureOK P 122 g99p:=PureOK.run hm h0 fun ds rs h=>by
 unfold g99p at h
 split at h
 ·rename_i e0 nil es
  split at h
  ·rename_i hb
   have hb0:=hb
   have hb0:=Sh.beq_eq hb0
   subst hb0
   obtain ⟨hg,h'⟩:=eval_guard h
   clear h
   simp only [Bool.and_eq_true,decide_eq_true_eq] at hg
   cases h'
   exact ⟨59+1,by rw [callN_succ (fn:=c122) rfl];exact rn99p 19 59 nil es hg.1 hg.2⟩
  ·cases h
 ·cases h
def g1123:List D→Tree (List D)
 | [.bool b,.int .i64 x,.int .i64 y]=> .ret [.int .i64 (bif b then x else y)]
 | _=> .stuck
theorem pure1123{P:Program}(hm:P.follows .mixedOrders=true)(h0:EnvOK P Xa):PureOK P 123 g1123:=PureOK.run hm h0 fun ds rs h=>by
 unfold g1123 at h
 split at h
 ·rename_i b x y
  cases h
  exact ⟨59+1,by rw [callN_succ (fn:=c123) rfl];exact rn1123 19 59 b x y⟩
 ·cases h
def g37c:List D→Tree (List D)
 | [.agg [.int .i64 rt,.int .i64 nn,.sl eh _n1 hops,.str nm,.sl es _n2 steps,.int .i64 st,.int .i64 wy,.sl ep _n3 parts,.bool fc]]=>match (Sh.beq eh hopSh&&(Sh.beq es stepSh&&Sh.beq ep partSh)) with
  | true=> .ite (decide (steps.length≤1000000)&&decide (parts.length≤1000000)) (fun _=> .ret [.int .i64 (curR rt nn st wy fc hops steps parts nm)]) (fun _=> .stuck)
  | false=> .stuck
 | _=> .stuck
theorem g37_c(ds rs:List D)(h:(g37c ds).eval=some rs):(g23 ds).eval=some rs:=by
 unfold g37c at h
 unfold g23
 split at h
 ·split at h
  ·rename_i hb
   try simp only [hb]
   obtain ⟨hg,h⟩:=eval_guard h
   rw [Bool.and_eq_true] at hg
   cases h
   rw [hg.1,hg.2];rfl
  ·cases h
 ·cases h
def Xv:Env:=((Xb.pureAt 122 false g99p).pureAt 123 true g1123).pureAt 115 true g37c
theorem okXv{P:Program}(hm:P.follows .mixedOrders=true)(h17:EnvOK P E17)(ha:EnvOK P Xa)(h:EnvOK P Xb):EnvOK P Xv:=((h.pureAt (pure99p hm ha)).pureAt (pure1123 hm ha)).pureAt (pure_as (pure23 hm h17) g37_c)
def famD(r q:Int)(nil:Bool)(es:List D)(rt nn st wy:Int)(n1 n2 n3 fc:Bool)(hops steps parts:List D)(nm:List UInt8)(sp pt:Int):D:= .agg [.int .i64 r,.int .i64 q,.sl hopSh nil es,.int .i64 rt,.int .i64 nn,.sl hopSh n1 hops,.str nm,.sl stepSh n2 steps,.int .i64 st,.int .i64 wy,.sl partSh n3 parts,.bool fc,.int .i64 sp,.int .i64 pt]
theorem x1059(m n:Nat)(og ep co:Int)(na nm' nb ns:Bool)(zas ms bs ss:List D)(r q:Int)(nil:Bool)(es:List D):Tree.out (enterM Xb (callN Xb (m+40)) n c59 [.d (stD og ep co na nm' nb ns zas ms bs ss),.d (.agg [.int .i64 r,.int .i64 q,.sl hopSh nil es])] [])=bif (!nil||List.isEmpty es)&&decide (List.length es≤1000000) then bif upB r q es then bif orgOfId r q (upE es) != og then some [D.agg [D.int .i64 0,D.int .i64 0,D.sl hopSh true [],D.int .i64 0,D.int .i64 0,D.sl hopSh true [],D.str [],D.sl stepSh true [],D.int .i64 0,D.int .i64 0,D.sl hopSh true [],D.bool false,D.int .i64 0,D.int .i64 0],D.bool false] else bif sgsShort ss then bif decide (stE es<(↑(List.length (fl 7 (yS og ep co zas ms bs ss r q (upE es)))):Int)) then bif decide (0≤stE es∧stE es<(↑(List.length (fl 4 (yS og ep co zas ms bs ss r q (upE es)))):Int)) then bif !fs 4 (List.getD (fl 4 (yS og ep co zas ms bs ss r q (upE es))) (Int.toNat (stE es)) D.nilp)==[] then bif fi 3 (List.getD (fl 4 (yS og ep co zas ms bs ss r q (upE es))) (Int.toNat (stE es)) D.nilp)==orgOfId r q es then bif decide (0≤stE es∧stE es<(↑(List.length (fl 7 (yS og ep co zas ms bs ss r q (upE es)))):Int)) then some [D.agg [D.int .i64 r,D.int .i64 q,D.sl hopSh nil es,D.int .i64 (fi 0 (yS og ep co zas ms bs ss r q (upE es))),D.int .i64 (fi 1 (yS og ep co zas ms bs ss r q (upE es))),D.sl hopSh (fn 2 (yS og ep co zas ms bs ss r q (upE es))) (fl 2 (yS og ep co zas ms bs ss r q (upE es))),D.str (fs 3 (yS og ep co zas ms bs ss r q (upE es))),D.sl stepSh (fn 4 (yS og ep co zas ms bs ss r q (upE es))) (fl 4 (yS og ep co zas ms bs ss r q (upE es))),D.int .i64 (fi 5 (yS og ep co zas ms bs ss r q (upE es))),D.int .i64 (fi 6 (yS og ep co zas ms bs ss r q (upE es))),D.sl hopSh (fn 7 (yS og ep co zas ms bs ss r q (upE es))) (fl 7 (yS og ep co zas ms bs ss r q (upE es))),D.bool (fb 8 (yS og ep co zas ms bs ss r q (upE es))),D.int .i64 (stE es),D.int .i64 (fi 0 (List.getD (fl 7 (yS og ep co zas ms bs ss r q (upE es))) (Int.toNat (stE es)) D.nilp))],D.bool true] else none else some [D.agg [D.int .i64 r,D.int .i64 q,D.sl hopSh nil es,D.int .i64 (fi 0 (yS og ep co zas ms bs ss r q (upE es))),D.int .i64 (fi 1 (yS og ep co zas ms bs ss r q (upE es))),D.sl hopSh (fn 2 (yS og ep co zas ms bs ss r q (upE es))) (fl 2 (yS og ep co zas ms bs ss r q (upE es))),D.str (fs 3 (yS og ep co zas ms bs ss r q (upE es))),D.sl stepSh (fn 4 (yS og ep co zas ms bs ss r q (upE es))) (fl 4 (yS og ep co zas ms bs ss r q (upE es))),D.int .i64 (fi 5 (yS og ep co zas ms bs ss r q (upE es))),D.int .i64 (fi 6 (yS og ep co zas ms bs ss r q (upE es))),D.sl hopSh (fn 7 (yS og ep co zas ms bs ss r q (upE es))) (fl 7 (yS og ep co zas ms bs ss r q (upE es))),D.bool (fb 8 (yS og ep co zas ms bs ss r q (upE es))),D.int .i64 (stE es),D.int .i64 (-1)],D.bool true] else some [D.agg [D.int .i64 r,D.int .i64 q,D.sl hopSh nil es,D.int .i64 (fi 0 (yS og ep co zas ms bs ss r q (upE es))),D.int .i64 (fi 1 (yS og ep co zas ms bs ss r q (upE es))),D.sl hopSh (fn 2 (yS og ep co zas ms bs ss r q (upE es))) (fl 2 (yS og ep co zas ms bs ss r q (upE es))),D.str (fs 3 (yS og ep co zas ms bs ss r q (upE es))),D.sl stepSh (fn 4 (yS og ep co zas ms bs ss r q (upE es))) (fl 4 (yS og ep co zas ms bs ss r q (upE es))),D.int .i64 (fi 5 (yS og ep co zas ms bs ss r q (upE es))),D.int .i64 (fi 6 (yS og ep co zas ms bs ss r q (upE es))),D.sl hopSh (fn 7 (yS og ep co zas ms bs ss r q (upE es))) (fl 7 (yS og ep co zas ms bs ss r q (upE es))),D.bool (fb 8 (yS og ep co zas ms bs ss r q (upE es))),D.int .i64 (stE es),D.int .i64 (-1)],D.bool true] else none else some [D.agg [D.int .i64 r,D.int .i64 q,D.sl hopSh nil es,D.int .i64 (fi 0 (yS og ep co zas ms bs ss r q (upE es))),D.int .i64 (fi 1 (yS og ep co zas ms bs ss r q (upE es))),D.sl hopSh (fn 2 (yS og ep co zas ms bs ss r q (upE es))) (fl 2 (yS og ep co zas ms bs ss r q (upE es))),D.str (fs 3 (yS og ep co zas ms bs ss r q (upE es))),D.sl stepSh (fn 4 (yS og ep co zas ms bs ss r q (upE es))) (fl 4 (yS og ep co zas ms bs ss r q (upE es))),D.int .i64 (fi 5 (yS og ep co zas ms bs ss r q (upE es))),D.int .i64 (fi 6 (yS og ep co zas ms bs ss r q (upE es))),D.sl hopSh (fn 7 (yS og ep co zas ms bs ss r q (upE es))) (fl 7 (yS og ep co zas ms bs ss r q (upE es))),D.bool (fb 8 (yS og ep co zas ms bs ss r q (upE es))),D.int .i64 (stE es),D.int .i64 (-1)],D.bool true] else none else some [D.agg [D.int .i64 0,D.int .i64 0,D.sl hopSh true [],D.int .i64 0,D.int .i64 0,D.sl hopSh true [],D.str [],D.sl stepSh true [],D.int .i64 0,D.int .i64 0,D.sl hopSh true [],D.bool false,D.int .i64 0,D.int .i64 0],D.bool false] else none:=by kernel_rfl
theorem x1062(m n:Nat)(og ep co:Int)(na nm' nb ns:Bool)(zas ms bs ss:List D)(r q:Int)(nil:Bool)(es:List D):Tree.out (enterM Xu (callN Xu (m+40)) n c62 [.d (stD og ep co na nm' nb ns zas ms bs ss),.d (.agg [.int .i64 r,.int .i64 q,.sl hopSh nil es])] [])=bif (!nil||List.isEmpty es)&&decide (List.length es≤1000000) then bif upB r q es then bif sgsShort ss then bif !gotS og ep co zas ms bs ss r q (upE es) then some [D.int .i64 (-1),D.agg [D.int .i64 (fi 0 (yS og ep co zas ms bs ss r q (upE es))),D.int .i64 (fi 1 (yS og ep co zas ms bs ss r q (upE es))),D.sl hopSh (fn 2 (yS og ep co zas ms bs ss r q (upE es))) (fl 2 (yS og ep co zas ms bs ss r q (upE es))),D.str (fs 3 (yS og ep co zas ms bs ss r q (upE es))),D.sl stepSh (fn 4 (yS og ep co zas ms bs ss r q (upE es))) (fl 4 (yS og ep co zas ms bs ss r q (upE es))),D.int .i64 (fi 5 (yS og ep co zas ms bs ss r q (upE es))),D.int .i64 (fi 6 (yS og ep co zas ms bs ss r q (upE es))),D.sl hopSh (fn 7 (yS og ep co zas ms bs ss r q (upE es))) (fl 7 (yS og ep co zas ms bs ss r q (upE es))),D.bool (fb 8 (yS og ep co zas ms bs ss r q (upE es)))]] else bif decide ((↑(List.length (fl 7 (yS og ep co zas ms bs ss r q (upE es)))):Int)≤stE es) then some [D.int .i64 (-1),D.agg [D.int .i64 (fi 0 (yS og ep co zas ms bs ss r q (upE es))),D.int .i64 (fi 1 (yS og ep co zas ms bs ss r q (upE es))),D.sl hopSh (fn 2 (yS og ep co zas ms bs ss r q (upE es))) (fl 2 (yS og ep co zas ms bs ss r q (upE es))),D.str (fs 3 (yS og ep co zas ms bs ss r q (upE es))),D.sl stepSh (fn 4 (yS og ep co zas ms bs ss r q (upE es))) (fl 4 (yS og ep co zas ms bs ss r q (upE es))),D.int .i64 (fi 5 (yS og ep co zas ms bs ss r q (upE es))),D.int .i64 (fi 6 (yS og ep co zas ms bs ss r q (upE es))),D.sl hopSh (fn 7 (yS og ep co zas ms bs ss r q (upE es))) (fl 7 (yS og ep co zas ms bs ss r q (upE es))),D.bool (fb 8 (yS og ep co zas ms bs ss r q (upE es)))]] else bif decide (0≤stE es∧stE es<(↑(List.length (fl 4 (yS og ep co zas ms bs ss r q (upE es)))):Int)) then bif fs 4 (List.getD (fl 4 (yS og ep co zas ms bs ss r q (upE es))) (Int.toNat (stE es)) D.nilp)==[] then some [D.int .i64 (-1),D.agg [D.int .i64 (fi 0 (yS og ep co zas ms bs ss r q (upE es))),D.int .i64 (fi 1 (yS og ep co zas ms bs ss r q (upE es))),D.sl hopSh (fn 2 (yS og ep co zas ms bs ss r q (upE es))) (fl 2 (yS og ep co zas ms bs ss r q (upE es))),D.str (fs 3 (yS og ep co zas ms bs ss r q (upE es))),D.sl stepSh (fn 4 (yS og ep co zas ms bs ss r q (upE es))) (fl 4 (yS og ep co zas ms bs ss r q (upE es))),D.int .i64 (fi 5 (yS og ep co zas ms bs ss r q (upE es))),D.int .i64 (fi 6 (yS og ep co zas ms bs ss r q (upE es))),D.sl hopSh (fn 7 (yS og ep co zas ms bs ss r q (upE es))) (fl 7 (yS og ep co zas ms bs ss r q (upE es))),D.bool (fb 8 (yS og ep co zas ms bs ss r q (upE es)))]] else bif decide (0≤stE es∧stE es<(↑(List.length (fl 4 (yS og ep co zas ms bs ss r q (upE es)))):Int)) then bif fi 3 (List.getD (fl 4 (yS og ep co zas ms bs ss r q (upE es))) (Int.toNat (stE es)) D.nilp) != orgOfId r q es then some [D.int .i64 (-1),D.agg [D.int .i64 (fi 0 (yS og ep co zas ms bs ss r q (upE es))),D.int .i64 (fi 1 (yS og ep co zas ms bs ss r q (upE es))),D.sl hopSh (fn 2 (yS og ep co zas ms bs ss r q (upE es))) (fl 2 (yS og ep co zas ms bs ss r q (upE es))),D.str (fs 3 (yS og ep co zas ms bs ss r q (upE es))),D.sl stepSh (fn 4 (yS og ep co zas ms bs ss r q (upE es))) (fl 4 (yS og ep co zas ms bs ss r q (upE es))),D.int .i64 (fi 5 (yS og ep co zas ms bs ss r q (upE es))),D.int .i64 (fi 6 (yS og ep co zas ms bs ss r q (upE es))),D.sl hopSh (fn 7 (yS og ep co zas ms bs ss r q (upE es))) (fl 7 (yS og ep co zas ms bs ss r q (upE es))),D.bool (fb 8 (yS og ep co zas ms bs ss r q (upE es)))]] else bif decide (0≤stE es∧stE es<(↑(List.length (fl 7 (yS og ep co zas ms bs ss r q (upE es)))):Int)) then some [D.int .i64 (fi 0 (List.getD (fl 7 (yS og ep co zas ms bs ss r q (upE es))) (Int.toNat (stE es)) D.nilp)),D.agg [D.int .i64 (fi 0 (yS og ep co zas ms bs ss r q (upE es))),D.int .i64 (fi 1 (yS og ep co zas ms bs ss r q (upE es))),D.sl hopSh (fn 2 (yS og ep co zas ms bs ss r q (upE es))) (fl 2 (yS og ep co zas ms bs ss r q (upE es))),D.str (fs 3 (yS og ep co zas ms bs ss r q (upE es))),D.sl stepSh (fn 4 (yS og ep co zas ms bs ss r q (upE es))) (fl 4 (yS og ep co zas ms bs ss r q (upE es))),D.int .i64 (fi 5 (yS og ep co zas ms bs ss r q (upE es))),D.int .i64 (fi 6 (yS og ep co zas ms bs ss r q (upE es))),D.sl hopSh (fn 7 (yS og ep co zas ms bs ss r q (upE es))) (fl 7 (yS og ep co zas ms bs ss r q (upE es))),D.bool (fb 8 (yS og ep co zas ms bs ss r q (upE es)))]] else none else none else none else none else none else none:=by kernel_rfl
theorem x1060(m n:Nat)(r q:Int)(nil:Bool)(es:List D)(rt nn st wy:Int)(n1 n2 n3 fc:Bool)(hops steps parts:List D)(nm:List UInt8)(sp pt:Int):Tree.out (enterM Xv (callN Xv (m+40)) n c60 [.d (famD r q nil es rt nn st wy n1 n2 n3 fc hops steps parts nm sp pt)] [])=bif pt==2 then bif st==1 then bif st==4 then bif decide (List.length steps≤1000000)&&decide (List.length parts≤1000000) then bif sp != curR rt nn st wy fc hops steps parts nm then some [D.agg [D.int .i64 0,D.int .i64 0,D.int .i64 0,D.sl hopSh true [],D.str [],D.int .i64 0],D.bool false] else some [D.agg [D.int .i64 0,D.int .i64 0,D.int .i64 0,D.sl hopSh true [],D.str [],D.int .i64 0],D.bool false] else none else bif st==5 then bif decide (List.length steps≤1000000)&&decide (List.length parts≤1000000) then bif sp != curR rt nn st wy fc hops steps parts nm then some [D.agg [D.int .i64 0,D.int .i64 0,D.int .i64 0,D.sl hopSh true [],D.str [],D.int .i64 0],D.bool false] else some [D.agg [D.int .i64 0,D.int .i64 0,D.int .i64 0,D.sl hopSh true [],D.str [],D.int .i64 0],D.bool false] else none else some [D.agg [D.int .i64 0,D.int .i64 0,D.int .i64 0,D.sl hopSh true [],D.str [],D.int .i64 0],D.bool false] else bif st==2 then bif st==4 then bif decide (List.length steps≤1000000)&&decide (List.length parts≤1000000) then bif sp != curR rt nn st wy fc hops steps parts nm then some [D.agg [D.int .i64 0,D.int .i64 0,D.int .i64 0,D.sl hopSh true [],D.str [],D.int .i64 0],D.bool false] else bif pt==2 then some [D.agg [D.int .i64 0,D.int .i64 0,D.int .i64 0,D.sl hopSh true [],D.str [],D.int .i64 0],D.bool false] else bif st==3 then bif pt==2 then bif (!nil||List.isEmpty es)&&decide (List.length es≤1000000) then some [D.agg [D.int .i64 3,D.int .i64 r,D.int .i64 q,D.sl hopSh nil es,D.str [],D.int .i64 0],D.bool true] else none else bif (!nil||List.isEmpty es)&&decide (List.length es≤1000000) then some [D.agg [D.int .i64 (bif pt==4 then (3:Int) else (4:Int)),D.int .i64 r,D.int .i64 q,D.sl hopSh nil es,D.str [],D.int .i64 0],D.bool true] else none else bif (!nil||List.isEmpty es)&&decide (List.length es≤1000000) then some [D.agg [D.int .i64 4,D.int .i64 r,D.int .i64 q,D.sl hopSh nil es,D.str [],D.int .i64 0],D.bool true] else none else none else bif st==5 then bif decide (List.length steps≤1000000)&&decide (List.length parts≤1000000) then bif sp != curR rt nn st wy fc hops steps parts nm then some [D.agg [D.int .i64 0,D.int .i64 0,D.int .i64 0,D.sl hopSh true [],D.str [],D.int .i64 0],D.bool false] else bif pt==2 then some [D.agg [D.int .i64 0,D.int .i64 0,D.int .i64 0,D.sl hopSh true [],D.str [],D.int .i64 0],D.bool false] else bif st==3 then bif pt==2 then bif (!nil||List.isEmpty es)&&decide (List.length es≤1000000) then some [D.agg [D.int .i64 3,D.int .i64 r,D.int .i64 q,D.sl hopSh nil es,D.str [],D.int .i64 0],D.bool true] else none else bif (!nil||List.isEmpty es)&&decide (List.length es≤1000000) then some [D.agg [D.int .i64 (bif pt==4 then (3:Int) else (4:Int)),D.int .i64 r,D.int .i64 q,D.sl hopSh nil es,D.str [],D.int .i64 0],D.bool true] else none else bif (!nil||List.isEmpty es)&&decide (List.length es≤1000000) then some [D.agg [D.int .i64 4,D.int .i64 r,D.int .i64 q,D.sl hopSh nil es,D.str [],D.int .i64 0],D.bool true] else none else none else bif pt==2 then some [D.agg [D.int .i64 0,D.int .i64 0,D.int .i64 0,D.sl hopSh true [],D.str [],D.int .i64 0],D.bool false] else bif st==3 then bif pt==2 then bif (!nil||List.isEmpty es)&&decide (List.length es≤1000000) then some [D.agg [D.int .i64 3,D.int .i64 r,D.int .i64 q,D.sl hopSh nil es,D.str [],D.int .i64 0],D.bool true] else none else bif (!nil||List.isEmpty es)&&decide (List.length es≤1000000) then some [D.agg [D.int .i64 (bif pt==4 then (3:Int) else (4:Int)),D.int .i64 r,D.int .i64 q,D.sl hopSh nil es,D.str [],D.int .i64 0],D.bool true] else none else bif (!nil||List.isEmpty es)&&decide (List.length es≤1000000) then some [D.agg [D.int .i64 4,D.int .i64 r,D.int .i64 q,D.sl hopSh nil es,D.str [],D.int .i64 0],D.bool true] else none else bif st==4 then bif decide (List.length steps≤1000000)&&decide (List.length parts≤1000000) then bif sp != curR rt nn st wy fc hops steps parts nm then some [D.agg [D.int .i64 0,D.int .i64 0,D.int .i64 0,D.sl hopSh true [],D.str [],D.int .i64 0],D.bool false] else bif st==3 then bif pt==2 then bif (!nil||List.isEmpty es)&&decide (List.length es≤1000000) then some [D.agg [D.int .i64 3,D.int .i64 r,D.int .i64 q,D.sl hopSh nil es,D.str [],D.int .i64 0],D.bool true] else none else bif (!nil||List.isEmpty es)&&decide (List.length es≤1000000) then some [D.agg [D.int .i64 (bif pt==4 then (3:Int) else (4:Int)),D.int .i64 r,D.int .i64 q,D.sl hopSh nil es,D.str [],D.int .i64 0],D.bool true] else none else bif (!nil||List.isEmpty es)&&decide (List.length es≤1000000) then some [D.agg [D.int .i64 4,D.int .i64 r,D.int .i64 q,D.sl hopSh nil es,D.str [],D.int .i64 0],D.bool true] else none else none else bif st==5 then bif decide (List.length steps≤1000000)&&decide (List.length parts≤1000000) then bif sp != curR rt nn st wy fc hops steps parts nm then some [D.agg [D.int .i64 0,D.int .i64 0,D.int .i64 0,D.sl hopSh true [],D.str [],D.int .i64 0],D.bool false] else bif st==3 then bif pt==2 then bif (!nil||List.isEmpty es)&&decide (List.length es≤1000000) then some [D.agg [D.int .i64 3,D.int .i64 r,D.int .i64 q,D.sl hopSh nil es,D.str [],D.int .i64 0],D.bool true] else none else bif (!nil||List.isEmpty es)&&decide (List.length es≤1000000) then some [D.agg [D.int .i64 (bif pt==4 then (3:Int) else (4:Int)),D.int .i64 r,D.int .i64 q,D.sl hopSh nil es,D.str [],D.int .i64 0],D.bool true] else none else bif (!nil||List.isEmpty es)&&decide (List.length es≤1000000) then some [D.agg [D.int .i64 4,D.int .i64 r,D.int .i64 q,D.sl hopSh nil es,D.str [],D.int .i64 0],D.bool true] else none else none else bif st==3 then bif pt==2 then bif (!nil||List.isEmpty es)&&decide (List.length es≤1000000) then some [D.agg [D.int .i64 3,D.int .i64 r,D.int .i64 q,D.sl hopSh nil es,D.str [],D.int .i64 0],D.bool true] else none else bif (!nil||List.isEmpty es)&&decide (List.length es≤1000000) then some [D.agg [D.int .i64 (bif pt==4 then (3:Int) else (4:Int)),D.int .i64 r,D.int .i64 q,D.sl hopSh nil es,D.str [],D.int .i64 0],D.bool true] else none else bif (!nil||List.isEmpty es)&&decide (List.length es≤1000000) then some [D.agg [D.int .i64 4,D.int .i64 r,D.int .i64 q,D.sl hopSh nil es,D.str [],D.int .i64 0],D.bool true] else none else bif st==1 then bif pt==1 then bif st==4 then bif pt==1 then bif decide (List.length steps≤1000000)&&decide (List.length parts≤1000000) then bif sp != curR rt nn st wy fc hops steps parts nm then some [D.agg [D.int .i64 0,D.int .i64 0,D.int .i64 0,D.sl hopSh true [],D.str [],D.int .i64 0],D.bool false] else some [D.agg [D.int .i64 0,D.int .i64 0,D.int .i64 0,D.sl hopSh true [],D.str [],D.int .i64 0],D.bool false] else none else some [D.agg [D.int .i64 0,D.int .i64 0,D.int .i64 0,D.sl hopSh true [],D.str [],D.int .i64 0],D.bool false] else bif st==5 then bif pt==1 then bif decide (List.length steps≤1000000)&&decide (List.length parts≤1000000) then bif sp != curR rt nn st wy fc hops steps parts nm then some [D.agg [D.int .i64 0,D.int .i64 0,D.int .i64 0,D.sl hopSh true [],D.str [],D.int .i64 0],D.bool false] else some [D.agg [D.int .i64 0,D.int .i64 0,D.int .i64 0,D.sl hopSh true [],D.str [],D.int .i64 0],D.bool false] else none else some [D.agg [D.int .i64 0,D.int .i64 0,D.int .i64 0,D.sl hopSh true [],D.str [],D.int .i64 0],D.bool false] else some [D.agg [D.int .i64 0,D.int .i64 0,D.int .i64 0,D.sl hopSh true [],D.str [],D.int .i64 0],D.bool false] else bif st==2 then bif st==4 then bif pt==1 then bif decide (List.length steps≤1000000)&&decide (List.length parts≤1000000) then bif sp != curR rt nn st wy fc hops steps parts nm then some [D.agg [D.int .i64 0,D.int .i64 0,D.int .i64 0,D.sl hopSh true [],D.str [],D.int .i64 0],D.bool false] else bif pt==2 then some [D.agg [D.int .i64 0,D.int .i64 0,D.int .i64 0,D.sl hopSh true [],D.str [],D.int .i64 0],D.bool false] else bif st==3 then bif pt==2 then bif (!nil||List.isEmpty es)&&decide (List.length es≤1000000) then some [D.agg [D.int .i64 3,D.int .i64 r,D.int .i64 q,D.sl hopSh nil es,D.str [],D.int .i64 0],D.bool true] else none else bif (!nil||List.isEmpty es)&&decide (List.length es≤1000000) then some [D.agg [D.int .i64 (bif pt==4 then (3:Int) else (4:Int)),D.int .i64 r,D.int .i64 q,D.sl hopSh nil es,D.str [],D.int .i64 0],D.bool true] else none else bif (!nil||List.isEmpty es)&&decide (List.length es≤1000000) then some [D.agg [D.int .i64 4,D.int .i64 r,D.int .i64 q,D.sl hopSh nil es,D.str [],D.int .i64 0],D.bool true] else none else none else bif pt==2 then some [D.agg [D.int .i64 0,D.int .i64 0,D.int .i64 0,D.sl hopSh true [],D.str [],D.int .i64 0],D.bool false] else bif st==3 then bif pt==2 then bif (!nil||List.isEmpty es)&&decide (List.length es≤1000000) then some [D.agg [D.int .i64 3,D.int .i64 r,D.int .i64 q,D.sl hopSh nil es,D.str [],D.int .i64 0],D.bool true] else none else bif (!nil||List.isEmpty es)&&decide (List.length es≤1000000) then some [D.agg [D.int .i64 (bif pt==4 then (3:Int) else (4:Int)),D.int .i64 r,D.int .i64 q,D.sl hopSh nil es,D.str [],D.int .i64 0],D.bool true] else none else bif (!nil||List.isEmpty es)&&decide (List.length es≤1000000) then some [D.agg [D.int .i64 4,D.int .i64 r,D.int .i64 q,D.sl hopSh nil es,D.str [],D.int .i64 0],D.bool true] else none else bif st==5 then bif pt==1 then bif decide (List.length steps≤1000000)&&decide (List.length parts≤1000000) then bif sp != curR rt nn st wy fc hops steps parts nm then some [D.agg [D.int .i64 0,D.int .i64 0,D.int .i64 0,D.sl hopSh true [],D.str [],D.int .i64 0],D.bool false] else bif pt==2 then some [D.agg [D.int .i64 0,D.int .i64 0,D.int .i64 0,D.sl hopSh true [],D.str [],D.int .i64 0],D.bool false] else bif st==3 then bif pt==2 then bif (!nil||List.isEmpty es)&&decide (List.length es≤1000000) then some [D.agg [D.int .i64 3,D.int .i64 r,D.int .i64 q,D.sl hopSh nil es,D.str [],D.int .i64 0],D.bool true] else none else bif (!nil||List.isEmpty es)&&decide (List.length es≤1000000) then some [D.agg [D.int .i64 (bif pt==4 then (3:Int) else (4:Int)),D.int .i64 r,D.int .i64 q,D.sl hopSh nil es,D.str [],D.int .i64 0],D.bool true] else none else bif (!nil||List.isEmpty es)&&decide (List.length es≤1000000) then some [D.agg [D.int .i64 4,D.int .i64 r,D.int .i64 q,D.sl hopSh nil es,D.str [],D.int .i64 0],D.bool true] else none else none else bif pt==2 then some [D.agg [D.int .i64 0,D.int .i64 0,D.int .i64 0,D.sl hopSh true [],D.str [],D.int .i64 0],D.bool false] else bif st==3 then bif pt==2 then bif (!nil||List.isEmpty es)&&decide (List.length es≤1000000) then some [D.agg [D.int .i64 3,D.int .i64 r,D.int .i64 q,D.sl hopSh nil es,D.str [],D.int .i64 0],D.bool true] else none else bif (!nil||List.isEmpty es)&&decide (List.length es≤1000000) then some [D.agg [D.int .i64 (bif pt==4 then (3:Int) else (4:Int)),D.int .i64 r,D.int .i64 q,D.sl hopSh nil es,D.str [],D.int .i64 0],D.bool true] else none else bif (!nil||List.isEmpty es)&&decide (List.length es≤1000000) then some [D.agg [D.int .i64 4,D.int .i64 r,D.int .i64 q,D.sl hopSh nil es,D.str [],D.int .i64 0],D.bool true] else none else bif pt==2 then some [D.agg [D.int .i64 0,D.int .i64 0,D.int .i64 0,D.sl hopSh true [],D.str [],D.int .i64 0],D.bool false] else bif st==3 then bif pt==2 then bif (!nil||List.isEmpty es)&&decide (List.length es≤1000000) then some [D.agg [D.int .i64 3,D.int .i64 r,D.int .i64 q,D.sl hopSh nil es,D.str [],D.int .i64 0],D.bool true] else none else bif (!nil||List.isEmpty es)&&decide (List.length es≤1000000) then some [D.agg [D.int .i64 (bif pt==4 then (3:Int) else (4:Int)),D.int .i64 r,D.int .i64 q,D.sl hopSh nil es,D.str [],D.int .i64 0],D.bool true] else none else bif (!nil||List.isEmpty es)&&decide (List.length es≤1000000) then some [D.agg [D.int .i64 4,D.int .i64 r,D.int .i64 q,D.sl hopSh nil es,D.str [],D.int .i64 0],D.bool true] else none else bif st==4 then bif pt==1 then bif decide (List.length steps≤1000000)&&decide (List.length parts≤1000000) then bif sp != curR rt nn st wy fc hops steps parts nm then some [D.agg [D.int .i64 0,D.int .i64 0,D.int .i64 0,D.sl hopSh true [],D.str [],D.int .i64 0],D.bool false] else bif st==3 then bif pt==2 then bif (!nil||List.isEmpty es)&&decide (List.length es≤1000000) then some [D.agg [D.int .i64 3,D.int .i64 r,D.int .i64 q,D.sl hopSh nil es,D.str [],D.int .i64 0],D.bool true] else none else bif (!nil||List.isEmpty es)&&decide (List.length es≤1000000) then some [D.agg [D.int .i64 (bif pt==4 then (3:Int) else (4:Int)),D.int .i64 r,D.int .i64 q,D.sl hopSh nil es,D.str [],D.int .i64 0],D.bool true] else none else bif (!nil||List.isEmpty es)&&decide (List.length es≤1000000) then some [D.agg [D.int .i64 4,D.int .i64 r,D.int .i64 q,D.sl hopSh nil es,D.str [],D.int .i64 0],D.bool true] else none else none else bif st==3 then bif pt==2 then bif (!nil||List.isEmpty es)&&decide (List.length es≤1000000) then some [D.agg [D.int .i64 3,D.int .i64 r,D.int .i64 q,D.sl hopSh nil es,D.str [],D.int .i64 0],D.bool true] else none else bif (!nil||List.isEmpty es)&&decide (List.length es≤1000000) then some [D.agg [D.int .i64 (bif pt==4 then (3:Int) else (4:Int)),D.int .i64 r,D.int .i64 q,D.sl hopSh nil es,D.str [],D.int .i64 0],D.bool true] else none else bif (!nil||List.isEmpty es)&&decide (List.length es≤1000000) then some [D.agg [D.int .i64 4,D.int .i64 r,D.int .i64 q,D.sl hopSh nil es,D.str [],D.int .i64 0],D.bool true] else none else bif st==5 then bif pt==1 then bif decide (List.length steps≤1000000)&&decide (List.length parts≤1000000) then bif sp != curR rt nn st wy fc hops steps parts nm then some [D.agg [D.int .i64 0,D.int .i64 0,D.int .i64 0,D.sl hopSh true [],D.str [],D.int .i64 0],D.bool false] else bif st==3 then bif pt==2 then bif (!nil||List.isEmpty es)&&decide (List.length es≤1000000) then some [D.agg [D.int .i64 3,D.int .i64 r,D.int .i64 q,D.sl hopSh nil es,D.str [],D.int .i64 0],D.bool true] else none else bif (!nil||List.isEmpty es)&&decide (List.length es≤1000000) then some [D.agg [D.int .i64 (bif pt==4 then (3:Int) else (4:Int)),D.int .i64 r,D.int .i64 q,D.sl hopSh nil es,D.str [],D.int .i64 0],D.bool true] else none else bif (!nil||List.isEmpty es)&&decide (List.length es≤1000000) then some [D.agg [D.int .i64 4,D.int .i64 r,D.int .i64 q,D.sl hopSh nil es,D.str [],D.int .i64 0],D.bool true] else none else none else bif st==3 then bif pt==2 then bif (!nil||List.isEmpty es)&&decide (List.length es≤1000000) then some [D.agg [D.int .i64 3,D.int .i64 r,D.int .i64 q,D.sl hopSh nil es,D.str [],D.int .i64 0],D.bool true] else none else bif (!nil||List.isEmpty es)&&decide (List.length es≤1000000) then some [D.agg [D.int .i64 (bif pt==4 then (3:Int) else (4:Int)),D.int .i64 r,D.int .i64 q,D.sl hopSh nil es,D.str [],D.int .i64 0],D.bool true] else none else bif (!nil||List.isEmpty es)&&decide (List.length es≤1000000) then some [D.agg [D.int .i64 4,D.int .i64 r,D.int .i64 q,D.sl hopSh nil es,D.str [],D.int .i64 0],D.bool true] else none else bif st==3 then bif pt==2 then bif (!nil||List.isEmpty es)&&decide (List.length es≤1000000) then some [D.agg [D.int .i64 3,D.int .i64 r,D.int .i64 q,D.sl hopSh nil es,D.str [],D.int .i64 0],D.bool true] else none else bif (!nil||List.isEmpty es)&&decide (List.length es≤1000000) then some [D.agg [D.int .i64 (bif pt==4 then (3:Int) else (4:Int)),D.int .i64 r,D.int .i64 q,D.sl hopSh nil es,D.str [],D.int .i64 0],D.bool true] else none else bif (!nil||List.isEmpty es)&&decide (List.length es≤1000000) then some [D.agg [D.int .i64 4,D.int .i64 r,D.int .i64 q,D.sl hopSh nil es,D.str [],D.int .i64 0],D.bool true] else none else bif st==2 then bif st==4 then bif pt==1 then bif decide (List.length steps≤1000000)&&decide (List.length parts≤1000000) then bif sp != curR rt nn st wy fc hops steps parts nm then some [D.agg [D.int .i64 0,D.int .i64 0,D.int .i64 0,D.sl hopSh true [],D.str [],D.int .i64 0],D.bool false] else bif pt==2 then some [D.agg [D.int .i64 0,D.int .i64 0,D.int .i64 0,D.sl hopSh true [],D.str [],D.int .i64 0],D.bool false] else bif st==3 then bif pt==2 then bif (!nil||List.isEmpty es)&&decide (List.length es≤1000000) then some [D.agg [D.int .i64 3,D.int .i64 r,D.int .i64 q,D.sl hopSh nil es,D.str [],D.int .i64 0],D.bool true] else none else bif (!nil||List.isEmpty es)&&decide (List.length es≤1000000) then some [D.agg [D.int .i64 (bif pt==4 then (3:Int) else (4:Int)),D.int .i64 r,D.int .i64 q,D.sl hopSh nil es,D.str [],D.int .i64 0],D.bool true] else none else bif (!nil||List.isEmpty es)&&decide (List.length es≤1000000) then some [D.agg [D.int .i64 4,D.int .i64 r,D.int .i64 q,D.sl hopSh nil es,D.str [],D.int .i64 0],D.bool true] else none else none else bif pt==2 then some [D.agg [D.int .i64 0,D.int .i64 0,D.int .i64 0,D.sl hopSh true [],D.str [],D.int .i64 0],D.bool false] else bif st==3 then bif pt==2 then bif (!nil||List.isEmpty es)&&decide (List.length es≤1000000) then some [D.agg [D.int .i64 3,D.int .i64 r,D.int .i64 q,D.sl hopSh nil es,D.str [],D.int .i64 0],D.bool true] else none else bif (!nil||List.isEmpty es)&&decide (List.length es≤1000000) then some [D.agg [D.int .i64 (bif pt==4 then (3:Int) else (4:Int)),D.int .i64 r,D.int .i64 q,D.sl hopSh nil es,D.str [],D.int .i64 0],D.bool true] else none else bif (!nil||List.isEmpty es)&&decide (List.length es≤1000000) then some [D.agg [D.int .i64 4,D.int .i64 r,D.int .i64 q,D.sl hopSh nil es,D.str [],D.int .i64 0],D.bool true] else none else bif st==5 then bif pt==1 then bif decide (List.length steps≤1000000)&&decide (List.length parts≤1000000) then bif sp != curR rt nn st wy fc hops steps parts nm then some [D.agg [D.int .i64 0,D.int .i64 0,D.int .i64 0,D.sl hopSh true [],D.str [],D.int .i64 0],D.bool false] else bif pt==2 then some [D.agg [D.int .i64 0,D.int .i64 0,D.int .i64 0,D.sl hopSh true [],D.str [],D.int .i64 0],D.bool false] else bif st==3 then bif pt==2 then bif (!nil||List.isEmpty es)&&decide (List.length es≤1000000) then some [D.agg [D.int .i64 3,D.int .i64 r,D.int .i64 q,D.sl hopSh nil es,D.str [],D.int .i64 0],D.bool true] else none else bif (!nil||List.isEmpty es)&&decide (List.length es≤1000000) then some [D.agg [D.int .i64 (bif pt==4 then (3:Int) else (4:Int)),D.int .i64 r,D.int .i64 q,D.sl hopSh nil es,D.str [],D.int .i64 0],D.bool true] else none else bif (!nil||List.isEmpty es)&&decide (List.length es≤1000000) then some [D.agg [D.int .i64 4,D.int .i64 r,D.int .i64 q,D.sl hopSh nil es,D.str [],D.int .i64 0],D.bool true] else none else none else bif pt==2 then some [D.agg [D.int .i64 0,D.int .i64 0,D.int .i64 0,D.sl hopSh true [],D.str [],D.int .i64 0],D.bool false] else bif st==3 then bif pt==2 then bif (!nil||List.isEmpty es)&&decide (List.length es≤1000000) then some [D.agg [D.int .i64 3,D.int .i64 r,D.int .i64 q,D.sl hopSh nil es,D.str [],D.int .i64 0],D.bool true] else none else bif (!nil||List.isEmpty es)&&decide (List.length es≤1000000) then some [D.agg [D.int .i64 (bif pt==4 then (3:Int) else (4:Int)),D.int .i64 r,D.int .i64 q,D.sl hopSh nil es,D.str [],D.int .i64 0],D.bool true] else none else bif (!nil||List.isEmpty es)&&decide (List.length es≤1000000) then some [D.agg [D.int .i64 4,D.int .i64 r,D.int .i64 q,D.sl hopSh nil es,D.str [],D.int .i64 0],D.bool true] else none else bif pt==2 then some [D.agg [D.int .i64 0,D.int .i64 0,D.int .i64 0,D.sl hopSh true [],D.str [],D.int .i64 0],D.bool false] else bif st==3 then bif pt==2 then bif (!nil||List.isEmpty es)&&decide (List.length es≤1000000) then some [D.agg [D.int .i64 3,D.int .i64 r,D.int .i64 q,D.sl hopSh nil es,D.str [],D.int .i64 0],D.bool true] else none else bif (!nil||List.isEmpty es)&&decide (List.length es≤1000000) then some [D.agg [D.int .i64 (bif pt==4 then (3:Int) else (4:Int)),D.int .i64 r,D.int .i64 q,D.sl hopSh nil es,D.str [],D.int .i64 0],D.bool true] else none else bif (!nil||List.isEmpty es)&&decide (List.length es≤1000000) then some [D.agg [D.int .i64 4,D.int .i64 r,D.int .i64 q,D.sl hopSh nil es,D.str [],D.int .i64 0],D.bool true] else none else bif st==4 then bif pt==1 then bif decide (List.length steps≤1000000)&&decide (List.length parts≤1000000) then bif sp != curR rt nn st wy fc hops steps parts nm then some [D.agg [D.int .i64 0,D.int .i64 0,D.int .i64 0,D.sl hopSh true [],D.str [],D.int .i64 0],D.bool false] else bif st==3 then bif pt==2 then bif (!nil||List.isEmpty es)&&decide (List.length es≤1000000) then some [D.agg [D.int .i64 3,D.int .i64 r,D.int .i64 q,D.sl hopSh nil es,D.str [],D.int .i64 0],D.bool true] else none else bif (!nil||List.isEmpty es)&&decide (List.length es≤1000000) then some [D.agg [D.int .i64 (bif pt==4 then (3:Int) else (4:Int)),D.int .i64 r,D.int .i64 q,D.sl hopSh nil es,D.str [],D.int .i64 0],D.bool true] else none else bif (!nil||List.isEmpty es)&&decide (List.length es≤1000000) then some [D.agg [D.int .i64 4,D.int .i64 r,D.int .i64 q,D.sl hopSh nil es,D.str [],D.int .i64 0],D.bool true] else none else none else bif st==3 then bif pt==2 then bif (!nil||List.isEmpty es)&&decide (List.length es≤1000000) then some [D.agg [D.int .i64 3,D.int .i64 r,D.int .i64 q,D.sl hopSh nil es,D.str [],D.int .i64 0],D.bool true] else none else bif (!nil||List.isEmpty es)&&decide (List.length es≤1000000) then some [D.agg [D.int .i64 (bif pt==4 then (3:Int) else (4:Int)),D.int .i64 r,D.int .i64 q,D.sl hopSh nil es,D.str [],D.int .i64 0],D.bool true] else none else bif (!nil||List.isEmpty es)&&decide (List.length es≤1000000) then some [D.agg [D.int .i64 4,D.int .i64 r,D.int .i64 q,D.sl hopSh nil es,D.str [],D.int .i64 0],D.bool true] else none else bif st==5 then bif pt==1 then bif decide (List.length steps≤1000000)&&decide (List.length parts≤1000000) then bif sp != curR rt nn st wy fc hops steps parts nm then some [D.agg [D.int .i64 0,D.int .i64 0,D.int .i64 0,D.sl hopSh true [],D.str [],D.int .i64 0],D.bool false] else bif st==3 then bif pt==2 then bif (!nil||List.isEmpty es)&&decide (List.length es≤1000000) then some [D.agg [D.int .i64 3,D.int .i64 r,D.int .i64 q,D.sl hopSh nil es,D.str [],D.int .i64 0],D.bool true] else none else bif (!nil||List.isEmpty es)&&decide (List.length es≤1000000) then some [D.agg [D.int .i64 (bif pt==4 then (3:Int) else (4:Int)),D.int .i64 r,D.int .i64 q,D.sl hopSh nil es,D.str [],D.int .i64 0],D.bool true] else none else bif (!nil||List.isEmpty es)&&decide (List.length es≤1000000) then some [D.agg [D.int .i64 4,D.int .i64 r,D.int .i64 q,D.sl hopSh nil es,D.str [],D.int .i64 0],D.bool true] else none else none else bif st==3 then bif pt==2 then bif (!nil||List.isEmpty es)&&decide (List.length es≤1000000) then some [D.agg [D.int .i64 3,D.int .i64 r,D.int .i64 q,D.sl hopSh nil es,D.str [],D.int .i64 0],D.bool true] else none else bif (!nil||List.isEmpty es)&&decide (List.length es≤1000000) then some [D.agg [D.int .i64 (bif pt==4 then (3:Int) else (4:Int)),D.int .i64 r,D.int .i64 q,D.sl hopSh nil es,D.str [],D.int .i64 0],D.bool true] else none else bif (!nil||List.isEmpty es)&&decide (List.length es≤1000000) then some [D.agg [D.int .i64 4,D.int .i64 r,D.int .i64 q,D.sl hopSh nil es,D.str [],D.int .i64 0],D.bool true] else none else bif st==3 then bif pt==2 then bif (!nil||List.isEmpty es)&&decide (List.length es≤1000000) then some [D.agg [D.int .i64 3,D.int .i64 r,D.int .i64 q,D.sl hopSh nil es,D.str [],D.int .i64 0],D.bool true] else none else bif (!nil||List.isEmpty es)&&decide (List.length es≤1000000) then some [D.agg [D.int .i64 (bif pt==4 then (3:Int) else (4:Int)),D.int .i64 r,D.int .i64 q,D.sl hopSh nil es,D.str [],D.int .i64 0],D.bool true] else none else bif (!nil||List.isEmpty es)&&decide (List.length es≤1000000) then some [D.agg [D.int .i64 4,D.int .i64 r,D.int .i64 q,D.sl hopSh nil es,D.str [],D.int .i64 0],D.bool true] else none:=by kernel_rfl
def paI(y:D)(r q:Int)(es:List D):Int:=bif decide (stE es<((fl 7 y).length:Int))&&(!(fs 4 ((fl 4 y).getD (stE es).toNat .nilp)==[])&&fi 3 ((fl 4 y).getD (stE es).toNat .nilp)==orgOfId r q es) then fi 0 ((fl 7 y).getD (stE es).toNat .nilp) else -1
def famI(r q:Int)(nil:Bool)(es:List D)(y:D)(sp pt:Int):D:=famD r q nil es (fi 0 y) (fi 1 y) (fi 5 y) (fi 6 y) (fn 2 y) (fn 4 y) (fn 7 y) (fb 8 y) (fl 2 y) (fl 4 y) (fl 7 y) (fs 3 y) sp pt
def zFam:D:=famD 0 0 true [] 0 0 0 0 true true true false [] [] [] [] 0 0
def hereB(og r q:Int)(es:List D):Bool:=upB r q es&&orgOfId r q (upE es)==og
theorem stE_pos{r q:Int}{es:List D}(h:upB r q es=true):0≤stE es:=by
 unfold upB at h
 simp only [Bool.and_eq_true,Bool.not_eq_true',beq_eq_false_iff_ne] at h
 have:=((idOk_iff.1 h.1).2.2.2.1 (es.length - 1) (by omega)).1.1
 exact this
theorem y_at{og ep co:Int}{zas ms bs ss:List D}{r q:Int}{es:List D}(hs:sgsShort ss=true):(fl 7 (yS og ep co zas ms bs ss r q es)).length=(fl 4 (yS og ep co zas ms bs ss r q es)).length∧(fl 4 (yS og ep co zas ms bs ss r q es)).length≤8:=by
 unfold yS
 cases hg:gotS og ep co zas ms bs ss r q es
 ·exact ⟨rfl,Nat.zero_le 8⟩
 ·obtain ⟨hm,-⟩:=got_at hg hs
  obtain ⟨h1,h2,-⟩:=may_lens hm
  exact ⟨h1,h2⟩
def ofT(og ep co:Int)(zas ms bs ss:List D)(r q:Int)(nil:Bool)(es:List D):Tree (List D):= .ite (hereB og r q es) (fun _=> .ret [famI r q nil es (yS og ep co zas ms bs ss r q (upE es)) (stE es) (paI (yS og ep co zas ms bs ss r q (upE es)) r q es),.bool true]) (fun _=> .ret [zFam,.bool false])
theorem rn1059(m n:Nat)(og ep co:Int)(na nm' nb ns:Bool)(zas ms bs ss:List D)(r q:Int)(nil:Bool)(es:List D)(hs:sgsShort ss=true)(h1:(!nil||es.isEmpty)=true)(h2:es.length≤1000000):(enterM Xb (callN Xb (m+40)) n c59 [.d (stD og ep co na nm' nb ns zas ms bs ss),.d (.agg [.int .i64 r,.int .i64 q,.sl hopSh nil es])] []).out=(ofT og ep co zas ms bs ss r q nil es).eval:=by
 rw [x1059,hs,h1,decide_eq_true h2]
 have e:(ofT og ep co zas ms bs ss r q nil es).eval=some (bif hereB og r q es then [famI r q nil es (yS og ep co zas ms bs ss r q (upE es)) (stE es) (paI (yS og ep co zas ms bs ss r q (upE es)) r q es),.bool true] else [zFam,.bool false]):=by
  unfold ofT
  cases hereB og r q es <;> rfl
 rw [e]
 unfold hereB
 cases hu:upB r q es
 ·rfl
 ·cases ho:(orgOfId r q (upE es)==og)
  ·have:(orgOfId r q (upE es) != og)=true:=by unfold bne;rw [ho];rfl
   rw [this];rfl
  ·have:(orgOfId r q (upE es) != og)=false:=by unfold bne;rw [ho];rfl
   rw [this]
   have h0:=stE_pos hu
   obtain ⟨y1,y2⟩:=y_at (og:=og) (ep:=ep) (co:=co) (zas:=zas) (ms:=ms) (bs:=bs) (r:=r) (q:=q) (es:=upE es) hs
   revert y1 y2
   generalize yS og ep co zas ms bs ss r q (upE es)=y
   intro y1 y2
   unfold paI
   by_cases h3:stE es<((fl 7 y).length:Int)
   ·rw [decide_eq_true h3,decide_eq_true (show 0≤stE es∧stE es<((fl 7 y).length:Int) from ⟨h0,h3⟩),decide_eq_true (show 0≤stE es∧stE es<((fl 4 y).length:Int) by omega)]
    cases (fs 4 ((fl 4 y).getD (stE es).toNat .nilp)==[])
    ·cases (fi 3 ((fl 4 y).getD (stE es).toNat .nilp)==orgOfId r q es) <;> rfl
    ·rfl
   ·rw [decide_eq_false h3];rfl
theorem rn1062(m n:Nat)(og ep co:Int)(na nm' nb ns:Bool)(zas ms bs ss:List D)(r q:Int)(nil:Bool)(es:List D)(hs:sgsShort ss=true)(hu:upB r q es=true)(h1:(!nil||es.isEmpty)=true)(h2:es.length≤1000000):(enterM Xu (callN Xu (m+40)) n c62 [.d (stD og ep co na nm' nb ns zas ms bs ss),.d (.agg [.int .i64 r,.int .i64 q,.sl hopSh nil es])] []).out=some [.int .i64 (paI (yS og ep co zas ms bs ss r q (upE es)) r q es),sagaI (yS og ep co zas ms bs ss r q (upE es))]:=by
 rw [x1062,hs,h1,hu,decide_eq_true h2]
 have h0:=stE_pos hu
 obtain ⟨y1,y2⟩:=y_at (og:=og) (ep:=ep) (co:=co) (zas:=zas) (ms:=ms) (bs:=bs) (r:=r) (q:=q) (es:=upE es) hs
 cases hg:gotS og ep co zas ms bs ss r q (upE es)
 ·have hy:yS og ep co zas ms bs ss r q (upE es)=zSaga:=by unfold yS;rw [hg];rfl
  rw [hy]
  have:paI zSaga r q es= -1:=by
   unfold paI
   have hl:((fl 7 zSaga).length:Int)=0:=rfl
   rw [hl,decide_eq_false (show¬stE es<0 by omega)];rfl
  rw [this];rfl
 ·revert y1 y2
  generalize yS og ep co zas ms bs ss r q (upE es)=y
  intro y1 y2
  unfold paI
  by_cases h3:stE es<((fl 7 y).length:Int)
  ·rw [decide_eq_true h3,decide_eq_false (show¬((fl 7 y).length:Int)≤stE es by omega),decide_eq_true (show 0≤stE es∧stE es<((fl 7 y).length:Int) from ⟨h0,h3⟩),decide_eq_true (show 0≤stE es∧stE es<((fl 4 y).length:Int) by omega)]
   cases (fs 4 ((fl 4 y).getD (stE es).toNat .nilp)==[])
   ·cases ho:(fi 3 ((fl 4 y).getD (stE es).toNat .nilp)==orgOfId r q es)
    ·have:(fi 3 ((fl 4 y).getD (stE es).toNat .nilp) != orgOfId r q es)=true:=by unfold bne;rw [ho];rfl
     rw [this];rfl
    ·have:(fi 3 ((fl 4 y).getD (stE es).toNat .nilp) != orgOfId r q es)=false:=by unfold bne;rw [ho];rfl
     rw [this];rfl
   ·rfl
  ·rw [decide_eq_false h3,decide_eq_true (show ((fl 7 y).length:Int)≤stE es by omega)];rfl
def verO(st pt:Int)(nc:Bool):Bool:=(st==1&&(pt==2||pt==1))||((st==2&&pt==2)||((st==4||st==5)&&((pt==2||pt==1)&&nc)))
def verK(st pt:Int):Int:=bif st==3&&(pt==2||pt==4) then 3 else 4
def verT(r q:Int)(nil:Bool)(es:List D)(st pt:Int)(nc:Bool):Tree (List D):= .ite (verO st pt nc) (fun _=> .ret [zNt,.bool false]) (fun _=> .ret [noteD (verK st pt) r q nil es [] 0,.bool true])
theorem verT_eval(r q:Int)(nil:Bool)(es:List D)(st pt:Int)(nc:Bool):(verT r q nil es st pt nc).eval=some (bif verO st pt nc then [zNt,.bool false] else [noteD (verK st pt) r q nil es [] 0,.bool true]):=by
 unfold verT
 cases verO st pt nc <;> rfl
theorem rn1060(m n:Nat)(r q:Int)(nil:Bool)(es:List D)(rt nn st wy:Int)(n1 n2 n3 fc:Bool)(hops steps parts:List D)(nm:List UInt8)(sp pt:Int)(h1:(!nil||es.isEmpty)=true)(h2:es.length≤1000000)(h3:steps.length≤1000000)(h4:parts.length≤1000000):
  (enterM Xv (callN Xv (m+40)) n c60 [.d (famD r q nil es rt nn st wy n1 n2 n3 fc hops steps parts nm sp pt)] []).out=(verT r q nil es st pt (sp != curR rt nn st wy fc hops steps parts nm)).eval:=by
 rw [x1060,verT_eval,h1,decide_eq_true h2,decide_eq_true h3,decide_eq_true h4]
 unfold verO verK
 generalize (sp != curR rt nn st wy fc hops steps parts nm)=nc
 generalize (pt==1)=p1
 generalize (pt==2)=p2
 generalize (pt==4)=p4
 generalize (st==1)=s1
 generalize (st==2)=s2
 generalize (st==3)=s3
 generalize (st==4)=s4
 generalize (st==5)=s5
 ·cases s1 <;> cases p2 <;> cases p1 <;> cases s4 <;> cases s5 <;> cases nc <;> cases s2 <;> cases s3 <;> cases p4 <;> rfl
def g1059:List D→Tree (List D)
 | [.agg [.int .i64 og,.int .i64 ep,.int .i64 co,.sl e0a _na zas,.sl e0m _nm' ms,.sl e0b _nb bs,.sl e0s _ns ss],.agg [.int .i64 r,.int .i64 q,.sl e1 nil es]]=>match Sh.beq e0a accSh&&Sh.beq e0m mrkSh&&Sh.beq e0b defSh&&Sh.beq e0s sgSh&&Sh.beq e1 hopSh with
  | true=> .ite (sgsShort ss&&((!nil||es.isEmpty)&&decide (es.length≤1000000))) (fun _=>ofT og ep co zas ms bs ss r q nil es) (fun _=> .stuck)
  | false=> .stuck
 | _=> .stuck
theorem pure1059{P:Program}(hm:P.follows .mixedOrders=true)(h0:EnvOK P Xb):PureOK P 59 g1059:=PureOK.run hm h0 fun ds rs h=>by
 unfold g1059 at h
 split at h
 ·rename_i og ep co e0a na zas e0m nm' ms e0b nb bs e0s ns ss r q e1 nil es
  split at h
  ·rename_i hb
   simp only [Bool.and_eq_true] at hb
   obtain ⟨⟨⟨⟨hb0,hb1⟩,hb2⟩,hb3⟩,hb4⟩:=hb
   have hb0:=Sh.beq_eq hb0
   have hb1:=Sh.beq_eq hb1
   have hb2:=Sh.beq_eq hb2
   have hb3:=Sh.beq_eq hb3
   have hb4:=Sh.beq_eq hb4
   subst hb0 hb1 hb2 hb3 hb4
   obtain ⟨hg,h'⟩:=eval_guard h
   clear h
   simp only [Bool.and_eq_true,decide_eq_true_eq] at hg
   exact ⟨59+1,by rw [callN_succ (fn:=c59) rfl];exact (rn1059 19 59 og ep co na nm' nb ns zas ms bs ss r q nil es hg.1 hg.2.1 hg.2.2).trans h'⟩
  ·cases h
 ·cases h
def g1062:List D→Tree (List D)
 | [.agg [.int .i64 og,.int .i64 ep,.int .i64 co,.sl e0a _na zas,.sl e0m _nm' ms,.sl e0b _nb bs,.sl e0s _ns ss],.agg [.int .i64 r,.int .i64 q,.sl e1 nil es]]=>match Sh.beq e0a accSh&&Sh.beq e0m mrkSh&&Sh.beq e0b defSh&&Sh.beq e0s sgSh&&Sh.beq e1 hopSh with
  | true=> .ite (sgsShort ss&&(upB r q es&&((!nil||es.isEmpty)&&decide (es.length≤1000000)))) (fun _=> .ret [.int .i64 (paI (yS og ep co zas ms bs ss r q (upE es)) r q es),sagaI (yS og ep co zas ms bs ss r q (upE es))]) (fun _=> .stuck)
  | false=> .stuck
 | _=> .stuck
theorem pure1062{P:Program}(hm:P.follows .mixedOrders=true)(h0:EnvOK P Xu):PureOK P 62 g1062:=PureOK.run hm h0 fun ds rs h=>by
 unfold g1062 at h
 split at h
 ·rename_i og ep co e0a na zas e0m nm' ms e0b nb bs e0s ns ss r q e1 nil es
  split at h
  ·rename_i hb
   simp only [Bool.and_eq_true] at hb
   obtain ⟨⟨⟨⟨hb0,hb1⟩,hb2⟩,hb3⟩,hb4⟩:=hb
   have hb0:=Sh.beq_eq hb0
   have hb1:=Sh.beq_eq hb1
   have hb2:=Sh.beq_eq hb2
   have hb3:=Sh.beq_eq hb3
   have hb4:=Sh.beq_eq hb4
   subst hb0 hb1 hb2 hb3 hb4
   obtain ⟨hg,h'⟩:=eval_guard h
   clear h
   simp only [Bool.and_eq_true,decide_eq_true_eq] at hg
   cases h'
   exact ⟨59+1,by rw [callN_succ (fn:=c62) rfl];exact rn1062 19 59 og ep co na nm' nb ns zas ms bs ss r q nil es hg.1 hg.2.1 hg.2.2.1 hg.2.2.2⟩
  ·cases h
 ·cases h
def g1060:List D→Tree (List D)
 | [.agg [.int .i64 r,.int .i64 q,.sl e0 nil es,.int .i64 rt,.int .i64 nn,.sl e1 _n1 hops,.str nm,.sl e2 _n2 steps,.int .i64 st,.int .i64 wy,.sl e3 _n3 parts,.bool fc,.int .i64 sp,.int .i64 pt]]=>match Sh.beq e0 hopSh&&Sh.beq e1 hopSh&&Sh.beq e2 stepSh&&Sh.beq e3 partSh with
  | true=> .ite (((!nil||es.isEmpty)&&decide (es.length≤1000000))&&(decide (steps.length≤1000000)&&decide (parts.length≤1000000))) (fun _=>verT r q nil es st pt (sp != curR rt nn st wy fc hops steps parts nm)) (fun _=> .stuck)
  | false=> .stuck
 | _=> .stuck
theorem pure1060{P:Program}(hm:P.follows .mixedOrders=true)(h0:EnvOK P Xv):PureOK P 60 g1060:=PureOK.run hm h0 fun ds rs h=>by
 unfold g1060 at h
 split at h
 ·rename_i r q e0 nil es rt nn e1 n1 hops nm e2 n2 steps st wy e3 n3 parts fc sp pt
  split at h
  ·rename_i hb
   simp only [Bool.and_eq_true] at hb
   obtain ⟨⟨⟨hb0,hb1⟩,hb2⟩,hb3⟩:=hb
   have hb0:=Sh.beq_eq hb0
   have hb1:=Sh.beq_eq hb1
   have hb2:=Sh.beq_eq hb2
   have hb3:=Sh.beq_eq hb3
   subst hb0 hb1 hb2 hb3
   obtain ⟨hg,h'⟩:=eval_guard h
   clear h
   simp only [Bool.and_eq_true,decide_eq_true_eq] at hg
   exact ⟨59+1,by rw [callN_succ (fn:=c60) rfl];exact (rn1060 19 59 r q nil es rt nn st wy n1 n2 n3 fc hops steps parts nm sp pt hg.1.1 hg.1.2 hg.2.1 hg.2.2).trans h'⟩
  ·cases h
 ·cases h
def Xc:Env:=((Xb.pureAt 59 false g1059).pureAt 62 false g1062).pureAt 60 false g1060
theorem okXc{P:Program}(hm:P.follows .mixedOrders=true)(ha:EnvOK P Wa)(h:EnvOK P Xb)(hv:EnvOK P Xv):EnvOK P Xc:=((h.pureAt (pure1059 hm h)).pureAt (pure1062 hm (okXu hm ha h))).pureAt (pure1060 hm hv)
theorem x1018(m n:Nat)(og ep co:Int)(na nm' nb ns:Bool)(zas ms bs ss:List D)(r q:Int)(nil:Bool)(es:List D):Tree.out (enterM Xc (callN Xc (m+40)) n c18 [.d (stD og ep co na nm' nb ns zas ms bs ss),.d (.agg [.int .i64 r,.int .i64 q,.sl hopSh nil es])] [])=bif sgsShort ss&&((!nil||List.isEmpty es)&&decide (List.length es≤1000000)) then bif hereB og r q es then bif sgsIn ss then bif (bif mayR og ep co zas ms bs ss then (0:Int) else (230:Int)) != 0 then some [D.agg [D.int .i64 0,D.int .i64 0,D.int .i64 0,D.sl hopSh true [],D.str [],D.int .i64 0],D.bool false] else bif (!nil||List.isEmpty es)&&decide (List.length es≤1000000)&&(decide (List.length (fl 4 (yS og ep co zas ms bs ss r q (upE es)))≤1000000)&&decide (List.length (fl 7 (yS og ep co zas ms bs ss r q (upE es)))≤1000000)) then bif verO (fi 5 (yS og ep co zas ms bs ss r q (upE es))) (paI (yS og ep co zas ms bs ss r q (upE es)) r q es) (stE es != curX (yS og ep co zas ms bs ss r q (upE es))) then some [D.agg [D.int .i64 0,D.int .i64 0,D.int .i64 0,D.sl hopSh true [],D.str [],D.int .i64 0],D.bool false] else some [D.agg [D.int .i64 (verK (fi 5 (yS og ep co zas ms bs ss r q (upE es))) (paI (yS og ep co zas ms bs ss r q (upE es)) r q es)),D.int .i64 r,D.int .i64 q,D.sl hopSh nil es,D.str [],D.int .i64 0],D.bool true] else none else none else some [D.agg [D.int .i64 0,D.int .i64 0,D.int .i64 0,D.sl hopSh true [],D.str [],D.int .i64 0],D.bool false] else none:=by kernel_rfl
theorem x1019(m n:Nat)(og ep co:Int)(na nm' nb ns:Bool)(zas ms bs ss:List D)(r q:Int)(nil:Bool)(es:List D):Tree.out (enterM Xc (callN Xc (m+40)) n c19 [.d (stD og ep co na nm' nb ns zas ms bs ss),.d (.agg [.int .i64 r,.int .i64 q,.sl hopSh nil es])] [])=bif sgsIn ss then bif (bif mayR og ep co zas ms bs ss then (0:Int) else (230:Int)) != 0 then some [D.agg [D.int .i64 0,D.int .i64 0,D.int .i64 0,D.sl hopSh true [],D.str [],D.int .i64 0],D.bool false] else bif (!nil||List.isEmpty es)&&decide (List.length es≤1000000) then bif upB r q es then bif !orgOfId r q (upE es)==og then some [D.agg [D.int .i64 0,D.int .i64 0,D.int .i64 0,D.sl hopSh true [],D.str [],D.int .i64 0],D.bool false] else bif sgsShort ss&&(upB r q es&&((!nil||List.isEmpty es)&&decide (List.length es≤1000000))) then bif fi 5 (yS og ep co zas ms bs ss r q (upE es))==3 then bif paI (yS og ep co zas ms bs ss r q (upE es)) r q es==2 then some [D.agg [D.int .i64 3,D.int .i64 r,D.int .i64 q,D.sl hopSh nil es,D.str [],D.int .i64 0],D.bool true] else bif paI (yS og ep co zas ms bs ss r q (upE es)) r q es==4 then some [D.agg [D.int .i64 3,D.int .i64 r,D.int .i64 q,D.sl hopSh nil es,D.str [],D.int .i64 0],D.bool true] else bif paI (yS og ep co zas ms bs ss r q (upE es)) r q es==1 then bif fi 5 (yS og ep co zas ms bs ss r q (upE es))==1 then some [D.agg [D.int .i64 0,D.int .i64 0,D.int .i64 0,D.sl hopSh true [],D.str [],D.int .i64 0],D.bool false] else bif fi 5 (yS og ep co zas ms bs ss r q (upE es))==2 then bif paI (yS og ep co zas ms bs ss r q (upE es)) r q es==2 then some [D.agg [D.int .i64 0,D.int .i64 0,D.int .i64 0,D.sl hopSh true [],D.str [],D.int .i64 0],D.bool false] else bif (!nil||List.isEmpty es)&&decide (List.length es≤1000000) then bif upB r q es then bif fi 5 (yS og ep co zas ms bs ss r q (upE es))==4 then bif stE es != curX (yS og ep co zas ms bs ss r q (upE es)) then some [D.agg [D.int .i64 0,D.int .i64 0,D.int .i64 0,D.sl hopSh true [],D.str [],D.int .i64 0],D.bool false] else some [D.agg [D.int .i64 4,D.int .i64 r,D.int .i64 q,D.sl hopSh nil es,D.str [],D.int .i64 0],D.bool true] else bif fi 5 (yS og ep co zas ms bs ss r q (upE es))==5 then bif stE es != curX (yS og ep co zas ms bs ss r q (upE es)) then some [D.agg [D.int .i64 0,D.int .i64 0,D.int .i64 0,D.sl hopSh true [],D.str [],D.int .i64 0],D.bool false] else some [D.agg [D.int .i64 4,D.int .i64 r,D.int .i64 q,D.sl hopSh nil es,D.str [],D.int .i64 0],D.bool true] else some [D.agg [D.int .i64 4,D.int .i64 r,D.int .i64 q,D.sl hopSh nil es,D.str [],D.int .i64 0],D.bool true] else bif fi 5 (yS og ep co zas ms bs ss r q (upE es))==4 then bif 0 != curX (yS og ep co zas ms bs ss r q (upE es)) then some [D.agg [D.int .i64 0,D.int .i64 0,D.int .i64 0,D.sl hopSh true [],D.str [],D.int .i64 0],D.bool false] else some [D.agg [D.int .i64 4,D.int .i64 r,D.int .i64 q,D.sl hopSh nil es,D.str [],D.int .i64 0],D.bool true] else bif fi 5 (yS og ep co zas ms bs ss r q (upE es))==5 then bif 0 != curX (yS og ep co zas ms bs ss r q (upE es)) then some [D.agg [D.int .i64 0,D.int .i64 0,D.int .i64 0,D.sl hopSh true [],D.str [],D.int .i64 0],D.bool false] else some [D.agg [D.int .i64 4,D.int .i64 r,D.int .i64 q,D.sl hopSh nil es,D.str [],D.int .i64 0],D.bool true] else some [D.agg [D.int .i64 4,D.int .i64 r,D.int .i64 q,D.sl hopSh nil es,D.str [],D.int .i64 0],D.bool true] else none else bif (!nil||List.isEmpty es)&&decide (List.length es≤1000000) then bif upB r q es then bif fi 5 (yS og ep co zas ms bs ss r q (upE es))==4 then bif stE es != curX (yS og ep co zas ms bs ss r q (upE es)) then some [D.agg [D.int .i64 0,D.int .i64 0,D.int .i64 0,D.sl hopSh true [],D.str [],D.int .i64 0],D.bool false] else some [D.agg [D.int .i64 4,D.int .i64 r,D.int .i64 q,D.sl hopSh nil es,D.str [],D.int .i64 0],D.bool true] else bif fi 5 (yS og ep co zas ms bs ss r q (upE es))==5 then bif stE es != curX (yS og ep co zas ms bs ss r q (upE es)) then some [D.agg [D.int .i64 0,D.int .i64 0,D.int .i64 0,D.sl hopSh true [],D.str [],D.int .i64 0],D.bool false] else some [D.agg [D.int .i64 4,D.int .i64 r,D.int .i64 q,D.sl hopSh nil es,D.str [],D.int .i64 0],D.bool true] else some [D.agg [D.int .i64 4,D.int .i64 r,D.int .i64 q,D.sl hopSh nil es,D.str [],D.int .i64 0],D.bool true] else bif fi 5 (yS og ep co zas ms bs ss r q (upE es))==4 then bif 0 != curX (yS og ep co zas ms bs ss r q (upE es)) then some [D.agg [D.int .i64 0,D.int .i64 0,D.int .i64 0,D.sl hopSh true [],D.str [],D.int .i64 0],D.bool false] else some [D.agg [D.int .i64 4,D.int .i64 r,D.int .i64 q,D.sl hopSh nil es,D.str [],D.int .i64 0],D.bool true] else bif fi 5 (yS og ep co zas ms bs ss r q (upE es))==5 then bif 0 != curX (yS og ep co zas ms bs ss r q (upE es)) then some [D.agg [D.int .i64 0,D.int .i64 0,D.int .i64 0,D.sl hopSh true [],D.str [],D.int .i64 0],D.bool false] else some [D.agg [D.int .i64 4,D.int .i64 r,D.int .i64 q,D.sl hopSh nil es,D.str [],D.int .i64 0],D.bool true] else some [D.agg [D.int .i64 4,D.int .i64 r,D.int .i64 q,D.sl hopSh nil es,D.str [],D.int .i64 0],D.bool true] else none else bif fi 5 (yS og ep co zas ms bs ss r q (upE es))==1 then bif paI (yS og ep co zas ms bs ss r q (upE es)) r q es==2 then some [D.agg [D.int .i64 0,D.int .i64 0,D.int .i64 0,D.sl hopSh true [],D.str [],D.int .i64 0],D.bool false] else bif fi 5 (yS og ep co zas ms bs ss r q (upE es))==2 then bif paI (yS og ep co zas ms bs ss r q (upE es)) r q es==2 then some [D.agg [D.int .i64 0,D.int .i64 0,D.int .i64 0,D.sl hopSh true [],D.str [],D.int .i64 0],D.bool false] else bif (!nil||List.isEmpty es)&&decide (List.length es≤1000000) then bif upB r q es then bif fi 5 (yS og ep co zas ms bs ss r q (upE es))==4 then bif paI (yS og ep co zas ms bs ss r q (upE es)) r q es==2 then bif stE es != curX (yS og ep co zas ms bs ss r q (upE es)) then some [D.agg [D.int .i64 0,D.int .i64 0,D.int .i64 0,D.sl hopSh true [],D.str [],D.int .i64 0],D.bool false] else some [D.agg [D.int .i64 4,D.int .i64 r,D.int .i64 q,D.sl hopSh nil es,D.str [],D.int .i64 0],D.bool true] else some [D.agg [D.int .i64 4,D.int .i64 r,D.int .i64 q,D.sl hopSh nil es,D.str [],D.int .i64 0],D.bool true] else bif fi 5 (yS og ep co zas ms bs ss r q (upE es))==5 then bif paI (yS og ep co zas ms bs ss r q (upE es)) r q es==2 then bif stE es != curX (yS og ep co zas ms bs ss r q (upE es)) then some [D.agg [D.int .i64 0,D.int .i64 0,D.int .i64 0,D.sl hopSh true [],D.str [],D.int .i64 0],D.bool false] else some [D.agg [D.int .i64 4,D.int .i64 r,D.int .i64 q,D.sl hopSh nil es,D.str [],D.int .i64 0],D.bool true] else some [D.agg [D.int .i64 4,D.int .i64 r,D.int .i64 q,D.sl hopSh nil es,D.str [],D.int .i64 0],D.bool true] else some [D.agg [D.int .i64 4,D.int .i64 r,D.int .i64 q,D.sl hopSh nil es,D.str [],D.int .i64 0],D.bool true] else bif fi 5 (yS og ep co zas ms bs ss r q (upE es))==4 then bif paI (yS og ep co zas ms bs ss r q (upE es)) r q es==2 then bif 0 != curX (yS og ep co zas ms bs ss r q (upE es)) then some [D.agg [D.int .i64 0,D.int .i64 0,D.int .i64 0,D.sl hopSh true [],D.str [],D.int .i64 0],D.bool false] else some [D.agg [D.int .i64 4,D.int .i64 r,D.int .i64 q,D.sl hopSh nil es,D.str [],D.int .i64 0],D.bool true] else some [D.agg [D.int .i64 4,D.int .i64 r,D.int .i64 q,D.sl hopSh nil es,D.str [],D.int .i64 0],D.bool true] else bif fi 5 (yS og ep co zas ms bs ss r q (upE es))==5 then bif paI (yS og ep co zas ms bs ss r q (upE es)) r q es==2 then bif 0 != curX (yS og ep co zas ms bs ss r q (upE es)) then some [D.agg [D.int .i64 0,D.int .i64 0,D.int .i64 0,D.sl hopSh true [],D.str [],D.int .i64 0],D.bool false] else some [D.agg [D.int .i64 4,D.int .i64 r,D.int .i64 q,D.sl hopSh nil es,D.str [],D.int .i64 0],D.bool true] else some [D.agg [D.int .i64 4,D.int .i64 r,D.int .i64 q,D.sl hopSh nil es,D.str [],D.int .i64 0],D.bool true] else some [D.agg [D.int .i64 4,D.int .i64 r,D.int .i64 q,D.sl hopSh nil es,D.str [],D.int .i64 0],D.bool true] else none else bif (!nil||List.isEmpty es)&&decide (List.length es≤1000000) then bif upB r q es then bif fi 5 (yS og ep co zas ms bs ss r q (upE es))==4 then bif paI (yS og ep co zas ms bs ss r q (upE es)) r q es==2 then bif stE es != curX (yS og ep co zas ms bs ss r q (upE es)) then some [D.agg [D.int .i64 0,D.int .i64 0,D.int .i64 0,D.sl hopSh true [],D.str [],D.int .i64 0],D.bool false] else some [D.agg [D.int .i64 4,D.int .i64 r,D.int .i64 q,D.sl hopSh nil es,D.str [],D.int .i64 0],D.bool true] else some [D.agg [D.int .i64 4,D.int .i64 r,D.int .i64 q,D.sl hopSh nil es,D.str [],D.int .i64 0],D.bool true] else bif fi 5 (yS og ep co zas ms bs ss r q (upE es))==5 then bif paI (yS og ep co zas ms bs ss r q (upE es)) r q es==2 then bif stE es != curX (yS og ep co zas ms bs ss r q (upE es)) then some [D.agg [D.int .i64 0,D.int .i64 0,D.int .i64 0,D.sl hopSh true [],D.str [],D.int .i64 0],D.bool false] else some [D.agg [D.int .i64 4,D.int .i64 r,D.int .i64 q,D.sl hopSh nil es,D.str [],D.int .i64 0],D.bool true] else some [D.agg [D.int .i64 4,D.int .i64 r,D.int .i64 q,D.sl hopSh nil es,D.str [],D.int .i64 0],D.bool true] else some [D.agg [D.int .i64 4,D.int .i64 r,D.int .i64 q,D.sl hopSh nil es,D.str [],D.int .i64 0],D.bool true] else bif fi 5 (yS og ep co zas ms bs ss r q (upE es))==4 then bif paI (yS og ep co zas ms bs ss r q (upE es)) r q es==2 then bif 0 != curX (yS og ep co zas ms bs ss r q (upE es)) then some [D.agg [D.int .i64 0,D.int .i64 0,D.int .i64 0,D.sl hopSh true [],D.str [],D.int .i64 0],D.bool false] else some [D.agg [D.int .i64 4,D.int .i64 r,D.int .i64 q,D.sl hopSh nil es,D.str [],D.int .i64 0],D.bool true] else some [D.agg [D.int .i64 4,D.int .i64 r,D.int .i64 q,D.sl hopSh nil es,D.str [],D.int .i64 0],D.bool true] else bif fi 5 (yS og ep co zas ms bs ss r q (upE es))==5 then bif paI (yS og ep co zas ms bs ss r q (upE es)) r q es==2 then bif 0 != curX (yS og ep co zas ms bs ss r q (upE es)) then some [D.agg [D.int .i64 0,D.int .i64 0,D.int .i64 0,D.sl hopSh true [],D.str [],D.int .i64 0],D.bool false] else some [D.agg [D.int .i64 4,D.int .i64 r,D.int .i64 q,D.sl hopSh nil es,D.str [],D.int .i64 0],D.bool true] else some [D.agg [D.int .i64 4,D.int .i64 r,D.int .i64 q,D.sl hopSh nil es,D.str [],D.int .i64 0],D.bool true] else some [D.agg [D.int .i64 4,D.int .i64 r,D.int .i64 q,D.sl hopSh nil es,D.str [],D.int .i64 0],D.bool true] else none else bif fi 5 (yS og ep co zas ms bs ss r q (upE es))==2 then bif paI (yS og ep co zas ms bs ss r q (upE es)) r q es==2 then some [D.agg [D.int .i64 0,D.int .i64 0,D.int .i64 0,D.sl hopSh true [],D.str [],D.int .i64 0],D.bool false] else bif (!nil||List.isEmpty es)&&decide (List.length es≤1000000) then bif upB r q es then bif fi 5 (yS og ep co zas ms bs ss r q (upE es))==4 then bif paI (yS og ep co zas ms bs ss r q (upE es)) r q es==2 then bif stE es != curX (yS og ep co zas ms bs ss r q (upE es)) then some [D.agg [D.int .i64 0,D.int .i64 0,D.int .i64 0,D.sl hopSh true [],D.str [],D.int .i64 0],D.bool false] else some [D.agg [D.int .i64 4,D.int .i64 r,D.int .i64 q,D.sl hopSh nil es,D.str [],D.int .i64 0],D.bool true] else some [D.agg [D.int .i64 4,D.int .i64 r,D.int .i64 q,D.sl hopSh nil es,D.str [],D.int .i64 0],D.bool true] else bif fi 5 (yS og ep co zas ms bs ss r q (upE es))==5 then bif paI (yS og ep co zas ms bs ss r q (upE es)) r q es==2 then bif stE es != curX (yS og ep co zas ms bs ss r q (upE es)) then some [D.agg [D.int .i64 0,D.int .i64 0,D.int .i64 0,D.sl hopSh true [],D.str [],D.int .i64 0],D.bool false] else some [D.agg [D.int .i64 4,D.int .i64 r,D.int .i64 q,D.sl hopSh nil es,D.str [],D.int .i64 0],D.bool true] else some [D.agg [D.int .i64 4,D.int .i64 r,D.int .i64 q,D.sl hopSh nil es,D.str [],D.int .i64 0],D.bool true] else some [D.agg [D.int .i64 4,D.int .i64 r,D.int .i64 q,D.sl hopSh nil es,D.str [],D.int .i64 0],D.bool true] else bif fi 5 (yS og ep co zas ms bs ss r q (upE es))==4 then bif paI (yS og ep co zas ms bs ss r q (upE es)) r q es==2 then bif 0 != curX (yS og ep co zas ms bs ss r q (upE es)) then some [D.agg [D.int .i64 0,D.int .i64 0,D.int .i64 0,D.sl hopSh true [],D.str [],D.int .i64 0],D.bool false] else some [D.agg [D.int .i64 4,D.int .i64 r,D.int .i64 q,D.sl hopSh nil es,D.str [],D.int .i64 0],D.bool true] else some [D.agg [D.int .i64 4,D.int .i64 r,D.int .i64 q,D.sl hopSh nil es,D.str [],D.int .i64 0],D.bool true] else bif fi 5 (yS og ep co zas ms bs ss r q (upE es))==5 then bif paI (yS og ep co zas ms bs ss r q (upE es)) r q es==2 then bif 0 != curX (yS og ep co zas ms bs ss r q (upE es)) then some [D.agg [D.int .i64 0,D.int .i64 0,D.int .i64 0,D.sl hopSh true [],D.str [],D.int .i64 0],D.bool false] else some [D.agg [D.int .i64 4,D.int .i64 r,D.int .i64 q,D.sl hopSh nil es,D.str [],D.int .i64 0],D.bool true] else some [D.agg [D.int .i64 4,D.int .i64 r,D.int .i64 q,D.sl hopSh nil es,D.str [],D.int .i64 0],D.bool true] else some [D.agg [D.int .i64 4,D.int .i64 r,D.int .i64 q,D.sl hopSh nil es,D.str [],D.int .i64 0],D.bool true] else none else bif (!nil||List.isEmpty es)&&decide (List.length es≤1000000) then bif upB r q es then bif fi 5 (yS og ep co zas ms bs ss r q (upE es))==4 then bif paI (yS og ep co zas ms bs ss r q (upE es)) r q es==2 then bif stE es != curX (yS og ep co zas ms bs ss r q (upE es)) then some [D.agg [D.int .i64 0,D.int .i64 0,D.int .i64 0,D.sl hopSh true [],D.str [],D.int .i64 0],D.bool false] else some [D.agg [D.int .i64 4,D.int .i64 r,D.int .i64 q,D.sl hopSh nil es,D.str [],D.int .i64 0],D.bool true] else some [D.agg [D.int .i64 4,D.int .i64 r,D.int .i64 q,D.sl hopSh nil es,D.str [],D.int .i64 0],D.bool true] else bif fi 5 (yS og ep co zas ms bs ss r q (upE es))==5 then bif paI (yS og ep co zas ms bs ss r q (upE es)) r q es==2 then bif stE es != curX (yS og ep co zas ms bs ss r q (upE es)) then some [D.agg [D.int .i64 0,D.int .i64 0,D.int .i64 0,D.sl hopSh true [],D.str [],D.int .i64 0],D.bool false] else some [D.agg [D.int .i64 4,D.int .i64 r,D.int .i64 q,D.sl hopSh nil es,D.str [],D.int .i64 0],D.bool true] else some [D.agg [D.int .i64 4,D.int .i64 r,D.int .i64 q,D.sl hopSh nil es,D.str [],D.int .i64 0],D.bool true] else some [D.agg [D.int .i64 4,D.int .i64 r,D.int .i64 q,D.sl hopSh nil es,D.str [],D.int .i64 0],D.bool true] else bif fi 5 (yS og ep co zas ms bs ss r q (upE es))==4 then bif paI (yS og ep co zas ms bs ss r q (upE es)) r q es==2 then bif 0 != curX (yS og ep co zas ms bs ss r q (upE es)) then some [D.agg [D.int .i64 0,D.int .i64 0,D.int .i64 0,D.sl hopSh true [],D.str [],D.int .i64 0],D.bool false] else some [D.agg [D.int .i64 4,D.int .i64 r,D.int .i64 q,D.sl hopSh nil es,D.str [],D.int .i64 0],D.bool true] else some [D.agg [D.int .i64 4,D.int .i64 r,D.int .i64 q,D.sl hopSh nil es,D.str [],D.int .i64 0],D.bool true] else bif fi 5 (yS og ep co zas ms bs ss r q (upE es))==5 then bif paI (yS og ep co zas ms bs ss r q (upE es)) r q es==2 then bif 0 != curX (yS og ep co zas ms bs ss r q (upE es)) then some [D.agg [D.int .i64 0,D.int .i64 0,D.int .i64 0,D.sl hopSh true [],D.str [],D.int .i64 0],D.bool false] else some [D.agg [D.int .i64 4,D.int .i64 r,D.int .i64 q,D.sl hopSh nil es,D.str [],D.int .i64 0],D.bool true] else some [D.agg [D.int .i64 4,D.int .i64 r,D.int .i64 q,D.sl hopSh nil es,D.str [],D.int .i64 0],D.bool true] else some [D.agg [D.int .i64 4,D.int .i64 r,D.int .i64 q,D.sl hopSh nil es,D.str [],D.int .i64 0],D.bool true] else none else bif paI (yS og ep co zas ms bs ss r q (upE es)) r q es==1 then bif fi 5 (yS og ep co zas ms bs ss r q (upE es))==1 then some [D.agg [D.int .i64 0,D.int .i64 0,D.int .i64 0,D.sl hopSh true [],D.str [],D.int .i64 0],D.bool false] else bif fi 5 (yS og ep co zas ms bs ss r q (upE es))==2 then bif paI (yS og ep co zas ms bs ss r q (upE es)) r q es==2 then some [D.agg [D.int .i64 0,D.int .i64 0,D.int .i64 0,D.sl hopSh true [],D.str [],D.int .i64 0],D.bool false] else bif (!nil||List.isEmpty es)&&decide (List.length es≤1000000) then bif upB r q es then bif fi 5 (yS og ep co zas ms bs ss r q (upE es))==4 then bif stE es != curX (yS og ep co zas ms bs ss r q (upE es)) then some [D.agg [D.int .i64 0,D.int .i64 0,D.int .i64 0,D.sl hopSh true [],D.str [],D.int .i64 0],D.bool false] else some [D.agg [D.int .i64 4,D.int .i64 r,D.int .i64 q,D.sl hopSh nil es,D.str [],D.int .i64 0],D.bool true] else bif fi 5 (yS og ep co zas ms bs ss r q (upE es))==5 then bif stE es != curX (yS og ep co zas ms bs ss r q (upE es)) then some [D.agg [D.int .i64 0,D.int .i64 0,D.int .i64 0,D.sl hopSh true [],D.str [],D.int .i64 0],D.bool false] else some [D.agg [D.int .i64 4,D.int .i64 r,D.int .i64 q,D.sl hopSh nil es,D.str [],D.int .i64 0],D.bool true] else some [D.agg [D.int .i64 4,D.int .i64 r,D.int .i64 q,D.sl hopSh nil es,D.str [],D.int .i64 0],D.bool true] else bif fi 5 (yS og ep co zas ms bs ss r q (upE es))==4 then bif 0 != curX (yS og ep co zas ms bs ss r q (upE es)) then some [D.agg [D.int .i64 0,D.int .i64 0,D.int .i64 0,D.sl hopSh true [],D.str [],D.int .i64 0],D.bool false] else some [D.agg [D.int .i64 4,D.int .i64 r,D.int .i64 q,D.sl hopSh nil es,D.str [],D.int .i64 0],D.bool true] else bif fi 5 (yS og ep co zas ms bs ss r q (upE es))==5 then bif 0 != curX (yS og ep co zas ms bs ss r q (upE es)) then some [D.agg [D.int .i64 0,D.int .i64 0,D.int .i64 0,D.sl hopSh true [],D.str [],D.int .i64 0],D.bool false] else some [D.agg [D.int .i64 4,D.int .i64 r,D.int .i64 q,D.sl hopSh nil es,D.str [],D.int .i64 0],D.bool true] else some [D.agg [D.int .i64 4,D.int .i64 r,D.int .i64 q,D.sl hopSh nil es,D.str [],D.int .i64 0],D.bool true] else none else bif (!nil||List.isEmpty es)&&decide (List.length es≤1000000) then bif upB r q es then bif fi 5 (yS og ep co zas ms bs ss r q (upE es))==4 then bif stE es != curX (yS og ep co zas ms bs ss r q (upE es)) then some [D.agg [D.int .i64 0,D.int .i64 0,D.int .i64 0,D.sl hopSh true [],D.str [],D.int .i64 0],D.bool false] else some [D.agg [D.int .i64 4,D.int .i64 r,D.int .i64 q,D.sl hopSh nil es,D.str [],D.int .i64 0],D.bool true] else bif fi 5 (yS og ep co zas ms bs ss r q (upE es))==5 then bif stE es != curX (yS og ep co zas ms bs ss r q (upE es)) then some [D.agg [D.int .i64 0,D.int .i64 0,D.int .i64 0,D.sl hopSh true [],D.str [],D.int .i64 0],D.bool false] else some [D.agg [D.int .i64 4,D.int .i64 r,D.int .i64 q,D.sl hopSh nil es,D.str [],D.int .i64 0],D.bool true] else some [D.agg [D.int .i64 4,D.int .i64 r,D.int .i64 q,D.sl hopSh nil es,D.str [],D.int .i64 0],D.bool true] else bif fi 5 (yS og ep co zas ms bs ss r q (upE es))==4 then bif 0 != curX (yS og ep co zas ms bs ss r q (upE es)) then some [D.agg [D.int .i64 0,D.int .i64 0,D.int .i64 0,D.sl hopSh true [],D.str [],D.int .i64 0],D.bool false] else some [D.agg [D.int .i64 4,D.int .i64 r,D.int .i64 q,D.sl hopSh nil es,D.str [],D.int .i64 0],D.bool true] else bif fi 5 (yS og ep co zas ms bs ss r q (upE es))==5 then bif 0 != curX (yS og ep co zas ms bs ss r q (upE es)) then some [D.agg [D.int .i64 0,D.int .i64 0,D.int .i64 0,D.sl hopSh true [],D.str [],D.int .i64 0],D.bool false] else some [D.agg [D.int .i64 4,D.int .i64 r,D.int .i64 q,D.sl hopSh nil es,D.str [],D.int .i64 0],D.bool true] else some [D.agg [D.int .i64 4,D.int .i64 r,D.int .i64 q,D.sl hopSh nil es,D.str [],D.int .i64 0],D.bool true] else none else bif fi 5 (yS og ep co zas ms bs ss r q (upE es))==1 then bif paI (yS og ep co zas ms bs ss r q (upE es)) r q es==2 then some [D.agg [D.int .i64 0,D.int .i64 0,D.int .i64 0,D.sl hopSh true [],D.str [],D.int .i64 0],D.bool false] else bif fi 5 (yS og ep co zas ms bs ss r q (upE es))==2 then bif paI (yS og ep co zas ms bs ss r q (upE es)) r q es==2 then some [D.agg [D.int .i64 0,D.int .i64 0,D.int .i64 0,D.sl hopSh true [],D.str [],D.int .i64 0],D.bool false] else bif (!nil||List.isEmpty es)&&decide (List.length es≤1000000) then bif upB r q es then bif fi 5 (yS og ep co zas ms bs ss r q (upE es))==4 then bif paI (yS og ep co zas ms bs ss r q (upE es)) r q es==2 then bif stE es != curX (yS og ep co zas ms bs ss r q (upE es)) then some [D.agg [D.int .i64 0,D.int .i64 0,D.int .i64 0,D.sl hopSh true [],D.str [],D.int .i64 0],D.bool false] else some [D.agg [D.int .i64 4,D.int .i64 r,D.int .i64 q,D.sl hopSh nil es,D.str [],D.int .i64 0],D.bool true] else some [D.agg [D.int .i64 4,D.int .i64 r,D.int .i64 q,D.sl hopSh nil es,D.str [],D.int .i64 0],D.bool true] else bif fi 5 (yS og ep co zas ms bs ss r q (upE es))==5 then bif paI (yS og ep co zas ms bs ss r q (upE es)) r q es==2 then bif stE es != curX (yS og ep co zas ms bs ss r q (upE es)) then some [D.agg [D.int .i64 0,D.int .i64 0,D.int .i64 0,D.sl hopSh true [],D.str [],D.int .i64 0],D.bool false] else some [D.agg [D.int .i64 4,D.int .i64 r,D.int .i64 q,D.sl hopSh nil es,D.str [],D.int .i64 0],D.bool true] else some [D.agg [D.int .i64 4,D.int .i64 r,D.int .i64 q,D.sl hopSh nil es,D.str [],D.int .i64 0],D.bool true] else some [D.agg [D.int .i64 4,D.int .i64 r,D.int .i64 q,D.sl hopSh nil es,D.str [],D.int .i64 0],D.bool true] else bif fi 5 (yS og ep co zas ms bs ss r q (upE es))==4 then bif paI (yS og ep co zas ms bs ss r q (upE es)) r q es==2 then bif 0 != curX (yS og ep co zas ms bs ss r q (upE es)) then some [D.agg [D.int .i64 0,D.int .i64 0,D.int .i64 0,D.sl hopSh true [],D.str [],D.int .i64 0],D.bool false] else some [D.agg [D.int .i64 4,D.int .i64 r,D.int .i64 q,D.sl hopSh nil es,D.str [],D.int .i64 0],D.bool true] else some [D.agg [D.int .i64 4,D.int .i64 r,D.int .i64 q,D.sl hopSh nil es,D.str [],D.int .i64 0],D.bool true] else bif fi 5 (yS og ep co zas ms bs ss r q (upE es))==5 then bif paI (yS og ep co zas ms bs ss r q (upE es)) r q es==2 then bif 0 != curX (yS og ep co zas ms bs ss r q (upE es)) then some [D.agg [D.int .i64 0,D.int .i64 0,D.int .i64 0,D.sl hopSh true [],D.str [],D.int .i64 0],D.bool false] else some [D.agg [D.int .i64 4,D.int .i64 r,D.int .i64 q,D.sl hopSh nil es,D.str [],D.int .i64 0],D.bool true] else some [D.agg [D.int .i64 4,D.int .i64 r,D.int .i64 q,D.sl hopSh nil es,D.str [],D.int .i64 0],D.bool true] else some [D.agg [D.int .i64 4,D.int .i64 r,D.int .i64 q,D.sl hopSh nil es,D.str [],D.int .i64 0],D.bool true] else none else bif (!nil||List.isEmpty es)&&decide (List.length es≤1000000) then bif upB r q es then bif fi 5 (yS og ep co zas ms bs ss r q (upE es))==4 then bif paI (yS og ep co zas ms bs ss r q (upE es)) r q es==2 then bif stE es != curX (yS og ep co zas ms bs ss r q (upE es)) then some [D.agg [D.int .i64 0,D.int .i64 0,D.int .i64 0,D.sl hopSh true [],D.str [],D.int .i64 0],D.bool false] else some [D.agg [D.int .i64 4,D.int .i64 r,D.int .i64 q,D.sl hopSh nil es,D.str [],D.int .i64 0],D.bool true] else some [D.agg [D.int .i64 4,D.int .i64 r,D.int .i64 q,D.sl hopSh nil es,D.str [],D.int .i64 0],D.bool true] else bif fi 5 (yS og ep co zas ms bs ss r q (upE es))==5 then bif paI (yS og ep co zas ms bs ss r q (upE es)) r q es==2 then bif stE es != curX (yS og ep co zas ms bs ss r q (upE es)) then some [D.agg [D.int .i64 0,D.int .i64 0,D.int .i64 0,D.sl hopSh true [],D.str [],D.int .i64 0],D.bool false] else some [D.agg [D.int .i64 4,D.int .i64 r,D.int .i64 q,D.sl hopSh nil es,D.str [],D.int .i64 0],D.bool true] else some [D.agg [D.int .i64 4,D.int .i64 r,D.int .i64 q,D.sl hopSh nil es,D.str [],D.int .i64 0],D.bool true] else some [D.agg [D.int .i64 4,D.int .i64 r,D.int .i64 q,D.sl hopSh nil es,D.str [],D.int .i64 0],D.bool true] else bif fi 5 (yS og ep co zas ms bs ss r q (upE es))==4 then bif paI (yS og ep co zas ms bs ss r q (upE es)) r q es==2 then bif 0 != curX (yS og ep co zas ms bs ss r q (upE es)) then some [D.agg [D.int .i64 0,D.int .i64 0,D.int .i64 0,D.sl hopSh true [],D.str [],D.int .i64 0],D.bool false] else some [D.agg [D.int .i64 4,D.int .i64 r,D.int .i64 q,D.sl hopSh nil es,D.str [],D.int .i64 0],D.bool true] else some [D.agg [D.int .i64 4,D.int .i64 r,D.int .i64 q,D.sl hopSh nil es,D.str [],D.int .i64 0],D.bool true] else bif fi 5 (yS og ep co zas ms bs ss r q (upE es))==5 then bif paI (yS og ep co zas ms bs ss r q (upE es)) r q es==2 then bif 0 != curX (yS og ep co zas ms bs ss r q (upE es)) then some [D.agg [D.int .i64 0,D.int .i64 0,D.int .i64 0,D.sl hopSh true [],D.str [],D.int .i64 0],D.bool false] else some [D.agg [D.int .i64 4,D.int .i64 r,D.int .i64 q,D.sl hopSh nil es,D.str [],D.int .i64 0],D.bool true] else some [D.agg [D.int .i64 4,D.int .i64 r,D.int .i64 q,D.sl hopSh nil es,D.str [],D.int .i64 0],D.bool true] else some [D.agg [D.int .i64 4,D.int .i64 r,D.int .i64 q,D.sl hopSh nil es,D.str [],D.int .i64 0],D.bool true] else none else bif fi 5 (yS og ep co zas ms bs ss r q (upE es))==2 then bif paI (yS og ep co zas ms bs ss r q (upE es)) r q es==2 then some [D.agg [D.int .i64 0,D.int .i64 0,D.int .i64 0,D.sl hopSh true [],D.str [],D.int .i64 0],D.bool false] else bif (!nil||List.isEmpty es)&&decide (List.length es≤1000000) then bif upB r q es then bif fi 5 (yS og ep co zas ms bs ss r q (upE es))==4 then bif paI (yS og ep co zas ms bs ss r q (upE es)) r q es==2 then bif stE es != curX (yS og ep co zas ms bs ss r q (upE es)) then some [D.agg [D.int .i64 0,D.int .i64 0,D.int .i64 0,D.sl hopSh true [],D.str [],D.int .i64 0],D.bool false] else some [D.agg [D.int .i64 4,D.int .i64 r,D.int .i64 q,D.sl hopSh nil es,D.str [],D.int .i64 0],D.bool true] else some [D.agg [D.int .i64 4,D.int .i64 r,D.int .i64 q,D.sl hopSh nil es,D.str [],D.int .i64 0],D.bool true] else bif fi 5 (yS og ep co zas ms bs ss r q (upE es))==5 then bif paI (yS og ep co zas ms bs ss r q (upE es)) r q es==2 then bif stE es != curX (yS og ep co zas ms bs ss r q (upE es)) then some [D.agg [D.int .i64 0,D.int .i64 0,D.int .i64 0,D.sl hopSh true [],D.str [],D.int .i64 0],D.bool false] else some [D.agg [D.int .i64 4,D.int .i64 r,D.int .i64 q,D.sl hopSh nil es,D.str [],D.int .i64 0],D.bool true] else some [D.agg [D.int .i64 4,D.int .i64 r,D.int .i64 q,D.sl hopSh nil es,D.str [],D.int .i64 0],D.bool true] else some [D.agg [D.int .i64 4,D.int .i64 r,D.int .i64 q,D.sl hopSh nil es,D.str [],D.int .i64 0],D.bool true] else bif fi 5 (yS og ep co zas ms bs ss r q (upE es))==4 then bif paI (yS og ep co zas ms bs ss r q (upE es)) r q es==2 then bif 0 != curX (yS og ep co zas ms bs ss r q (upE es)) then some [D.agg [D.int .i64 0,D.int .i64 0,D.int .i64 0,D.sl hopSh true [],D.str [],D.int .i64 0],D.bool false] else some [D.agg [D.int .i64 4,D.int .i64 r,D.int .i64 q,D.sl hopSh nil es,D.str [],D.int .i64 0],D.bool true] else some [D.agg [D.int .i64 4,D.int .i64 r,D.int .i64 q,D.sl hopSh nil es,D.str [],D.int .i64 0],D.bool true] else bif fi 5 (yS og ep co zas ms bs ss r q (upE es))==5 then bif paI (yS og ep co zas ms bs ss r q (upE es)) r q es==2 then bif 0 != curX (yS og ep co zas ms bs ss r q (upE es)) then some [D.agg [D.int .i64 0,D.int .i64 0,D.int .i64 0,D.sl hopSh true [],D.str [],D.int .i64 0],D.bool false] else some [D.agg [D.int .i64 4,D.int .i64 r,D.int .i64 q,D.sl hopSh nil es,D.str [],D.int .i64 0],D.bool true] else some [D.agg [D.int .i64 4,D.int .i64 r,D.int .i64 q,D.sl hopSh nil es,D.str [],D.int .i64 0],D.bool true] else some [D.agg [D.int .i64 4,D.int .i64 r,D.int .i64 q,D.sl hopSh nil es,D.str [],D.int .i64 0],D.bool true] else none else bif (!nil||List.isEmpty es)&&decide (List.length es≤1000000) then bif upB r q es then bif fi 5 (yS og ep co zas ms bs ss r q (upE es))==4 then bif paI (yS og ep co zas ms bs ss r q (upE es)) r q es==2 then bif stE es != curX (yS og ep co zas ms bs ss r q (upE es)) then some [D.agg [D.int .i64 0,D.int .i64 0,D.int .i64 0,D.sl hopSh true [],D.str [],D.int .i64 0],D.bool false] else some [D.agg [D.int .i64 4,D.int .i64 r,D.int .i64 q,D.sl hopSh nil es,D.str [],D.int .i64 0],D.bool true] else some [D.agg [D.int .i64 4,D.int .i64 r,D.int .i64 q,D.sl hopSh nil es,D.str [],D.int .i64 0],D.bool true] else bif fi 5 (yS og ep co zas ms bs ss r q (upE es))==5 then bif paI (yS og ep co zas ms bs ss r q (upE es)) r q es==2 then bif stE es != curX (yS og ep co zas ms bs ss r q (upE es)) then some [D.agg [D.int .i64 0,D.int .i64 0,D.int .i64 0,D.sl hopSh true [],D.str [],D.int .i64 0],D.bool false] else some [D.agg [D.int .i64 4,D.int .i64 r,D.int .i64 q,D.sl hopSh nil es,D.str [],D.int .i64 0],D.bool true] else some [D.agg [D.int .i64 4,D.int .i64 r,D.int .i64 q,D.sl hopSh nil es,D.str [],D.int .i64 0],D.bool true] else some [D.agg [D.int .i64 4,D.int .i64 r,D.int .i64 q,D.sl hopSh nil es,D.str [],D.int .i64 0],D.bool true] else bif fi 5 (yS og ep co zas ms bs ss r q (upE es))==4 then bif paI (yS og ep co zas ms bs ss r q (upE es)) r q es==2 then bif 0 != curX (yS og ep co zas ms bs ss r q (upE es)) then some [D.agg [D.int .i64 0,D.int .i64 0,D.int .i64 0,D.sl hopSh true [],D.str [],D.int .i64 0],D.bool false] else some [D.agg [D.int .i64 4,D.int .i64 r,D.int .i64 q,D.sl hopSh nil es,D.str [],D.int .i64 0],D.bool true] else some [D.agg [D.int .i64 4,D.int .i64 r,D.int .i64 q,D.sl hopSh nil es,D.str [],D.int .i64 0],D.bool true] else bif fi 5 (yS og ep co zas ms bs ss r q (upE es))==5 then bif paI (yS og ep co zas ms bs ss r q (upE es)) r q es==2 then bif 0 != curX (yS og ep co zas ms bs ss r q (upE es)) then some [D.agg [D.int .i64 0,D.int .i64 0,D.int .i64 0,D.sl hopSh true [],D.str [],D.int .i64 0],D.bool false] else some [D.agg [D.int .i64 4,D.int .i64 r,D.int .i64 q,D.sl hopSh nil es,D.str [],D.int .i64 0],D.bool true] else some [D.agg [D.int .i64 4,D.int .i64 r,D.int .i64 q,D.sl hopSh nil es,D.str [],D.int .i64 0],D.bool true] else some [D.agg [D.int .i64 4,D.int .i64 r,D.int .i64 q,D.sl hopSh nil es,D.str [],D.int .i64 0],D.bool true] else none else none else some [D.agg [D.int .i64 0,D.int .i64 0,D.int .i64 0,D.sl hopSh true [],D.str [],D.int .i64 0],D.bool false] else none else none:=by kernel_rfl
def vdN(og ep co:Int)(zas ms bs ss:List D)(r q:Int)(es:List D):Bool:= !(hereB og r q es&&mayR og ep co zas ms bs ss)||verO (fi 5 (yS og ep co zas ms bs ss r q (upE es))) (paI (yS og ep co zas ms bs ss r q (upE es)) r q es) (stE es != curX (yS og ep co zas ms bs ss r q (upE es)))
def vdT(og ep co:Int)(zas ms bs ss:List D)(r q:Int)(nil:Bool)(es:List D):Tree (List D):= .ite (vdN og ep co zas ms bs ss r q es) (fun _=> .ret [zNt,.bool false]) (fun _=> .ret [noteD (verK (fi 5 (yS og ep co zas ms bs ss r q (upE es))) (paI (yS og ep co zas ms bs ss r q (upE es)) r q es)) r q nil es [] 0,.bool true])
theorem vdT_eval(og ep co:Int)(zas ms bs ss:List D)(r q:Int)(nil:Bool)(es:List D):(vdT og ep co zas ms bs ss r q nil es).eval=some (bif vdN og ep co zas ms bs ss r q es then [zNt,.bool false] else [noteD (verK (fi 5 (yS og ep co zas ms bs ss r q (upE es))) (paI (yS og ep co zas ms bs ss r q (upE es)) r q es)) r q nil es [] 0,.bool true]):=by
 unfold vdT
 cases vdN og ep co zas ms bs ss r q es <;> rfl
theorem rn1018(m n:Nat)(og ep co:Int)(na nm' nb ns:Bool)(zas ms bs ss:List D)(r q:Int)(nil:Bool)(es:List D)(hs:sgsShort ss=true)(h1:(!nil||es.isEmpty)=true)(h2:es.length≤1000000):(enterM Xc (callN Xc (m+40)) n c18 [.d (stD og ep co na nm' nb ns zas ms bs ss),.d (.agg [.int .i64 r,.int .i64 q,.sl hopSh nil es])] []).out=(vdT og ep co zas ms bs ss r q nil es).eval:=by
 obtain ⟨y1,y2⟩:=y_at (og:=og) (ep:=ep) (co:=co) (zas:=zas) (ms:=ms) (bs:=bs) (r:=r) (q:=q) (es:=upE es) hs
 rw [x1018,hs,(short_in hs).1,h1,decide_eq_true h2,vdT_eval,decide_eq_true (show (fl 4 (yS og ep co zas ms bs ss r q (upE es))).length≤1000000 by omega),decide_eq_true (show (fl 7 (yS og ep co zas ms bs ss r q (upE es))).length≤1000000 by omega),ne0 _ 230 (by decide)]
 unfold vdN
 cases hereB og r q es
 ·rfl
 ·cases mayR og ep co zas ms bs ss
  ·rfl
  ·cases verO (fi 5 (yS og ep co zas ms bs ss r q (upE es))) (paI (yS og ep co zas ms bs ss r q (upE es)) r q es) (stE es != curX (yS og ep co zas ms bs ss r q (upE es))) <;> rfl
theorem rn1019(m n:Nat)(og ep co:Int)(na nm' nb ns:Bool)(zas ms bs ss:List D)(r q:Int)(nil:Bool)(es:List D)(hs:sgsShort ss=true)(h1:(!nil||es.isEmpty)=true)(h2:es.length≤1000000):(enterM Xc (callN Xc (m+40)) n c19 [.d (stD og ep co na nm' nb ns zas ms bs ss),.d (.agg [.int .i64 r,.int .i64 q,.sl hopSh nil es])] []).out=(vdT og ep co zas ms bs ss r q nil es).eval:=by
 rw [x1019,hs,(short_in hs).1,h1,decide_eq_true h2,vdT_eval,ne0 _ 230 (by decide)]
 unfold vdN hereB
 cases mayR og ep co zas ms bs ss
 ·cases upB r q es&&orgOfId r q (upE es)==og <;> rfl
 ·cases upB r q es
  ·rfl
  ·cases (orgOfId r q (upE es)==og)
   ·rfl
   ·generalize (0 != curX (yS og ep co zas ms bs ss r q (upE es)))=n0
    generalize (stE es != curX (yS og ep co zas ms bs ss r q (upE es)))=nc
    generalize fi 5 (yS og ep co zas ms bs ss r q (upE es))=st
    generalize paI (yS og ep co zas ms bs ss r q (upE es)) r q es=pt
    unfold verO verK
    by_cases p1:pt=1
    ·subst p1
     by_cases s1:st=1
     ·subst s1;rfl
     by_cases s2:st=2
     ·subst s2;rfl
     by_cases s3:st=3
     ·subst s3;rfl
     by_cases s4:st=4
     ·subst s4;cases nc <;> rfl
     by_cases s5:st=5
     ·subst s5;cases nc <;> rfl
     simp only [beq_eq_false_iff_ne.2 s1,beq_eq_false_iff_ne.2 s2,beq_eq_false_iff_ne.2 s3,beq_eq_false_iff_ne.2 s4,beq_eq_false_iff_ne.2 s5]
     rfl
    by_cases p2:pt=2
    ·subst p2
     by_cases s1:st=1
     ·subst s1;rfl
     by_cases s2:st=2
     ·subst s2;rfl
     by_cases s3:st=3
     ·subst s3;rfl
     by_cases s4:st=4
     ·subst s4;cases nc <;> rfl
     by_cases s5:st=5
     ·subst s5;cases nc <;> rfl
     simp only [beq_eq_false_iff_ne.2 s1,beq_eq_false_iff_ne.2 s2,beq_eq_false_iff_ne.2 s3,beq_eq_false_iff_ne.2 s4,beq_eq_false_iff_ne.2 s5]
     rfl
    simp only [beq_eq_false_iff_ne.2 p1,beq_eq_false_iff_ne.2 p2]
    by_cases s3:st=3
    ·subst s3;cases (pt==4) <;> rfl
    simp only [beq_eq_false_iff_ne.2 s3]
    cases (st==1) <;> cases (st==2) <;> cases (st==4) <;> cases (st==5) <;> rfl
def g1018:List D→Tree (List D)
 | [.agg [.int .i64 og,.int .i64 ep,.int .i64 co,.sl e0a _na zas,.sl e0m _nm' ms,.sl e0b _nb bs,.sl e0s _ns ss],.agg [.int .i64 r,.int .i64 q,.sl e1 nil es]]=>match Sh.beq e0a accSh&&Sh.beq e0m mrkSh&&Sh.beq e0b defSh&&Sh.beq e0s sgSh&&Sh.beq e1 hopSh with
  | true=> .ite (sgsShort ss&&((!nil||es.isEmpty)&&decide (es.length≤1000000))) (fun _=>vdT og ep co zas ms bs ss r q nil es) (fun _=> .stuck)
  | false=> .stuck
 | _=> .stuck
theorem pure1018{P:Program}(hm:P.follows .mixedOrders=true)(h0:EnvOK P Xc):PureOK P 18 g1018:=PureOK.run hm h0 fun ds rs h=>by
 unfold g1018 at h
 split at h
 ·rename_i og ep co e0a na zas e0m nm' ms e0b nb bs e0s ns ss r q e1 nil es
  split at h
  ·rename_i hb
   simp only [Bool.and_eq_true] at hb
   obtain ⟨⟨⟨⟨hb0,hb1⟩,hb2⟩,hb3⟩,hb4⟩:=hb
   have hb0:=Sh.beq_eq hb0
   have hb1:=Sh.beq_eq hb1
   have hb2:=Sh.beq_eq hb2
   have hb3:=Sh.beq_eq hb3
   have hb4:=Sh.beq_eq hb4
   subst hb0 hb1 hb2 hb3 hb4
   obtain ⟨hg,h'⟩:=eval_guard h
   clear h
   simp only [Bool.and_eq_true,decide_eq_true_eq] at hg
   exact ⟨59+1,by rw [callN_succ (fn:=c18) rfl];exact (rn1018 19 59 og ep co na nm' nb ns zas ms bs ss r q nil es hg.1 hg.2.1 hg.2.2).trans h'⟩
  ·cases h
 ·cases h
def g1019:List D→Tree (List D)
 | [.agg [.int .i64 og,.int .i64 ep,.int .i64 co,.sl e0a _na zas,.sl e0m _nm' ms,.sl e0b _nb bs,.sl e0s _ns ss],.agg [.int .i64 r,.int .i64 q,.sl e1 nil es]]=>match Sh.beq e0a accSh&&Sh.beq e0m mrkSh&&Sh.beq e0b defSh&&Sh.beq e0s sgSh&&Sh.beq e1 hopSh with
  | true=> .ite (sgsShort ss&&((!nil||es.isEmpty)&&decide (es.length≤1000000))) (fun _=>vdT og ep co zas ms bs ss r q nil es) (fun _=> .stuck)
  | false=> .stuck
 | _=> .stuck
theorem pure1019{P:Program}(hm:P.follows .mixedOrders=true)(h0:EnvOK P Xc):PureOK P 19 g1019:=PureOK.run hm h0 fun ds rs h=>by
 unfold g1019 at h
 split at h
 ·rename_i og ep co e0a na zas e0m nm' ms e0b nb bs e0s ns ss r q e1 nil es
  split at h
  ·rename_i hb
   simp only [Bool.and_eq_true] at hb
   obtain ⟨⟨⟨⟨hb0,hb1⟩,hb2⟩,hb3⟩,hb4⟩:=hb
   have hb0:=Sh.beq_eq hb0
   have hb1:=Sh.beq_eq hb1
   have hb2:=Sh.beq_eq hb2
   have hb3:=Sh.beq_eq hb3
   have hb4:=Sh.beq_eq hb4
   subst hb0 hb1 hb2 hb3 hb4
   obtain ⟨hg,h'⟩:=eval_guard h
   clear h
   simp only [Bool.and_eq_true,decide_eq_true_eq] at hg
   exact ⟨59+1,by rw [callN_succ (fn:=c19) rfl];exact (rn1019 19 59 og ep co na nm' nb ns zas ms bs ss r q nil es hg.1 hg.2.1 hg.2.2).trans h'⟩
  ·cases h
 ·cases h
def Xd:Env:=((Xc.pureAt 18 false g1018).pureAt 19 false g1019).pureAt 17 true g20
theorem okXd{P:Program}(hm:P.follows .mixedOrders=true)(h:EnvOK P Xc)(ha:PureOK P 17 g20):EnvOK P Xd:=((h.pureAt (pure1018 hm h)).pureAt (pure1019 hm h)).pureAt ha
theorem x1004(m n:Nat)(og ep co:Int)(na nm' nb ns:Bool)(zas ms bs ss:List D)(r q:Int)(nil:Bool)(es:List D):Tree.out (enterM Xd (callN Xd (m+40)) n c4 [.d (stD og ep co na nm' nb ns zas ms bs ss),.d (.agg [.int .i64 r,.int .i64 q,.sl hopSh nil es])] [])=bif !fewSt zas ms bs ss then some [D.bool true] else bif decide (50<(↑(List.length es):Int)) then some [D.bool true] else bif sgsShort ss&&((!nil||List.isEmpty es)&&decide (List.length es≤1000000)) then bif vdN og ep co zas ms bs ss r q es then bif sgsShort ss&&((!nil||List.isEmpty es)&&decide (List.length es≤1000000)) then bif vdN og ep co zas ms bs ss r q es then some [D.bool true] else bif 0==verK (fi 5 (yS og ep co zas ms bs ss r q (upE es))) (paI (yS og ep co zas ms bs ss r q (upE es)) r q es) then bif refCmp 0 0 [] r q es==0 then some [D.bool false] else some [D.bool false] else some [D.bool false] else none else bif sgsShort ss&&((!nil||List.isEmpty es)&&decide (List.length es≤1000000)) then bif vdN og ep co zas ms bs ss r q es then bif verK (fi 5 (yS og ep co zas ms bs ss r q (upE es))) (paI (yS og ep co zas ms bs ss r q (upE es)) r q es)==0 then bif decide (List.length es≤1000000) then bif refCmp r q es 0 0 []==0 then some [D.bool false] else some [D.bool false] else none else some [D.bool false] else bif verK (fi 5 (yS og ep co zas ms bs ss r q (upE es))) (paI (yS og ep co zas ms bs ss r q (upE es)) r q es)==verK (fi 5 (yS og ep co zas ms bs ss r q (upE es))) (paI (yS og ep co zas ms bs ss r q (upE es)) r q es) then bif decide (List.length es≤1000000) then bif refCmp r q es r q es==0 then some [D.bool true] else some [D.bool false] else none else some [D.bool false] else none else none:=by kernel_rfl
theorem pverd(m n:Nat)(og ep co:Int)(na nm' nb ns:Bool)(zas ms bs ss:List D)(r q:Int)(nil:Bool)(es:List D)(h1:nilS ss)(h2:nilB bs)(h3:nil=true→es=[]):
  (enterM Xd (callN Xd (m+40)) n c4 [.d (stD og ep co na nm' nb ns zas ms bs ss),.d (.agg [.int .i64 r,.int .i64 q,.sl hopSh nil es])] []).out=some [.bool true]:=by
 rw [x1004]
 cases hf:fewSt zas ms bs ss
 ·rfl
 ·refine (cf rfl).trans ?_
  by_cases he:50<(es.length:Int)
  ·rw [decide_eq_true he];rfl
  ·rw [decide_eq_false he]
   refine (cf rfl).trans ?_
   obtain ⟨hs,-⟩:=few_short hf h1 h2
   have hn:(!nil||es.isEmpty)=true:=by
    cases nil with
    | false=>rfl
    | true=>rw [h3 rfl];rfl
   rw [hs,hn,decide_eq_true (show es.length≤1000000 by omega),refCmp_self]
   simp only [beq_self_eq_true]
   cases vdN og ep co zas ms bs ss r q es <;> rfl
def EV4:Env:=(E0.pureAt 58 false (gSelf E0 60 58)).pureAt 18 false (gSelf E0 60 18)
theorem awake26_run:(callN EV4 60 17 [] []).out=some [D.bool true]:=by kernel_rfl
theorem pure155{P:Program}(hm:P.follows .mixedOrders=true)(h0:EnvOK P M3):PureOK P 134 g155:=PureOK.run hm h0 fun ds rs h=>by
 unfold g155 at h
 split at h
 ·rename_i ea na zas em nm ms s
  split at h
  ·rename_i hb
   simp only [Bool.and_eq_true] at hb
   have hb0:=Sh.beq_eq hb.1
   have hb1:=Sh.beq_eq hb.2
   subst hb0 hb1
   obtain ⟨hg,h'⟩:=eval_guard h
   clear h
   simp only [decide_eq_true_eq] at hg
   cases h'
   exact ⟨59+1,by rw [callN_succ (fn:=c134) rfl];exact run155 19 59 na nm zas ms s hg⟩
  ·cases h
 ·cases h
theorem kv_loop(m n:Nat)(na nm':Bool)(zas ms:List D)(hl:ms.length≤1000000): ∀k i j kv,i+k=ms.length→k<j→kv=(ms.take i).foldl pendStep []→
  (resume M3 (callN M3 (m+40)) n j 0 c142 (s158 na nm' zas ms kv (i:Nat))).eval=some (.mp 640,[(128,.box [V.d (D.sl accSh na zas),V.d (D.sl mrkSh nm' ms)]),(640,AM.Obj.map Sh.str i4Sh (pendKV ms))]):=by
 intro k
 induction k with
 | zero=>
  intro i j kv hi hj hp
  cases j with
  | zero=>omega
  | succ j=>
   have:i=ms.length:=by omega
   subst this
   rw [List.take_length] at hp
   have hp:pendKV ms=kv:=hp.symm
   rw [l158,hp]
   exact cf (dec_end _)
 | succ k ih=>
  intro i j kv hi hj hp
  cases j with
  | zero=>omega
  | succ j=>
   have hlt:i<ms.length:=by omega
   have next:=ih (i+1) j (pendStep kv (ms.getD i .nilp)) (by omega) (by omega) (by
    rw [List.take_add_one,List.getElem?_eq_getElem hlt,List.foldl_append,←hp,List.getD_eq_getElem?_getD,List.getElem?_eq_getElem hlt];rfl)
   rw [l158]
   simp only [Int.toNat_natCast,wrap_up hlt hl]
   refine (ct (dec_lt hlt)).trans ((ct (dec_ix hlt)).trans ?_)
   unfold pendStep at next
   cases h1:(fi 4 (ms.getD i .nilp) != 1)
   ·rw [h1] at next
    exact next
   ·rw [h1] at next
    exact next
theorem run158(m n:Nat)(na nm':Bool)(zas ms:List D)(hl:ms.length≤1000000)(hn:ms.length<n):(enterM M3 (callN M3 (m+40)) n c142 [.d (.agg [.sl accSh na zas,.sl mrkSh nm' ms])] []).eval=some (.mp 640,[(128,.box [V.d (D.sl accSh na zas),V.d (D.sl mrkSh nm' ms)]),(640,AM.Obj.map Sh.str i4Sh (pendKV ms))]):=by
 rw [e158]
 exact kv_loop m n na nm' zas ms hl ms.length 0 n [] (by omega) (by omega) rfl
theorem fn158{P:Program}(hm:P.follows .mixedOrders=true)(h0:EnvOK P M3):FnOK P 142 C158:=FnOK.run hm h0 fun args ob r h=>by
 unfold C158 at h
 split at h
 ·rename_i ea na zas em nm ms
  split at h
  ·rename_i hb
   simp only [Bool.and_eq_true] at hb
   have hb0:=Sh.beq_eq hb.1
   have hb1:=Sh.beq_eq hb.2
   subst hb0 hb1
   obtain ⟨hg,h'⟩:=eval_guard h
   clear h
   simp only [decide_eq_true_eq] at hg
   cases h'
   exact ⟨(ms.length+40)+1,by rw [callN_succ (fn:=c142) rfl];exact run158 ms.length (ms.length+40) na nm zas ms hg (by omega)⟩
  ·cases h
 ·cases h
theorem okM6{P:Program}(hm:P.follows .mixedOrders=true)(h:EnvOK P M3):EnvOK P M6:=(h.pureAt (pure155 hm h)).genAt (fn158 hm h)
end Go.Proofs.YtlhageadjmoajaaGreatDoor.A
