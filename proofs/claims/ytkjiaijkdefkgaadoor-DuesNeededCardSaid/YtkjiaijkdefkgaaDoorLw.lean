/- The law's calls and its post: what the card needs. -/
import Derived.Test.YtkjiaijkdefkgaaDoorPS
namespace Go.AM
open Go
theorem Ty.sh_leafs(t:Ty):t.sh.leafs=t.shl:=by
 cases t <;> simp [Ty.sh,Ty.shl,Sh.leafs]
mutual
def tyOk(P:Program):Ty→TypeId→Bool
 | .bool,t=>match P.underlying t with
  | some .bool=>true
  | _=>false
 | .int k,t=>match P.underlying t with
  | some (.int j)=>decide (j=k)
  | _=>false
 | .str,t=>match P.underlying t with
  | some .string=>true
  | _=>false
 | .sl e,t=>match P.underlying t with
  | some (.slice u)=>tyOk P e u&&Nat.beq (P.cellsOf u) (Ty.shl e).length&& !((Ty.shl e).isEmpty)
  | _=>false
 | .st ts,t=>match P.underlying t with
  | some (.struct fs)=>tyOks P ts fs.toList 0 (P.cellsOf t)
  | _=>false
def tyOks(P:Program):List Ty→List Field→Nat→Nat→Bool
 | [],[],off,tot=>Nat.beq off tot
 | t :: ts,f :: fs,off,tot=>Nat.beq f.offset off&&Nat.beq (P.cellsOf f.type) (Ty.shl t).length&&tyOk P t f.type&&tyOks P ts fs (off+(Ty.shl t).length) tot
 | _,_,_,_=>false
end
section
variable {P:Program} {w:World} {H:Type} {enc:TypeId×Value→H} {base:Nat} {spare:Nat→Bool} {held:Bool}
theorem rds_one{Y:Nat→Prop}{d:D}{v:Value}(h:RD w Y d v):RDs w Y [d] [v]:=by
 refine ⟨rfl,fun j c u h1 h2=> ?_⟩
 cases j with
 | zero=>simp only [List.getElem?_cons_zero,Option.some.injEq] at h1 h2;subst h1 h2;exact h
 | succ j=>simp at h1
theorem wfl_one{s:Sh}{d:D}(ha:s.isAgg=false)(h:WF s d):WFL [s] [d]:=WFL.cons ha h WFL.nil
theorem lit_int{k:IntKind}{n:Int}(h:(Lit.int k n).wf=true):k.min≤n∧n≤k.max:=by
 simpa [Lit.wf,and_comm] using h
mutual
theorem trod_ty: ∀(τ:Ty) (fuel:Nat) (t:TypeId) (cs:List Value) (x:DataW H×List MemPlace),tyOk P τ t=true→DataW.trod enc P w base spare held fuel t cs=some x→
  ∃ds,RDs w (fun _=>False) ds cs∧WFL τ.shl ds
 | .bool,fuel,t,cs,x,ht,h=>by
  unfold tyOk at ht
  split at ht
  ·rename_i hu
   obtain ⟨b,rfl,-⟩:=DataW.trod_bool hu h
   exact ⟨[.bool b],rds_one (.bool b),wfl_one rfl (.bool b)⟩
  ·cases ht
 | .int k,fuel,t,cs,x,ht,h=>by
  unfold tyOk at ht
  split at ht
  ·rename_i j hu
   have hj:=of_decide_eq_true ht
   subst hj
   obtain ⟨n,rfl,-,hn⟩:=DataW.trod_int hu h
   exact ⟨[.int j n],rds_one (.int j n),wfl_one rfl (.int j n (lit_int hn))⟩
  ·cases ht
 | .str,fuel,t,cs,x,ht,h=>by
  unfold tyOk at ht
  split at ht
  ·rename_i hu
   obtain ⟨s,rfl,-,hs⟩:=DataW.trod_string hu h
   refine ⟨[.str s.data.toList],rds_one ?_,wfl_one rfl (.str _ (by simpa using hs))⟩
   have:=RD.str (w:=w) (Y:=fun _=>False) s.data.toList
   simpa using this
  ·cases ht
 | .sl e,fuel,t,cs,x,ht,h=>by
  unfold tyOk at ht
  split at ht
  ·rename_i u hu
   simp only [Bool.and_eq_true,Bool.not_eq_true'] at ht
   obtain ⟨⟨he,hsz⟩,hne⟩:=ht
   have hsz:=Nat.eq_of_beq_eq_true hsz
   rcases DataW.trod_slice hu h with ⟨rfl,-⟩ | ⟨a,len,cap,elems,rest,n,-,rfl,-,hb,hlc,hcm,hel,hget,-,-⟩
   ·exact ⟨[.sl e.sh true []],rds_one (.slnil e.sh),wfl_one rfl (.slnil e.sh)⟩
   ·have key: ∀i,∃y:D,i<len→ ∃ci,w.cells? base (a.add (i*P.cellsOf u)) (P.cellsOf u)=some ci∧RDs w (fun _=>False) y.cells ci∧WF e.sh y:=by
     intro i
     by_cases hi:i<len
     ·have hg:=hget i hi
      have:i<elems.length:=by omega
      rw [List.getElem?_eq_getElem this] at hg
      cases hc:w.cells? base (a.add (i*P.cellsOf u)) (P.cellsOf u) with
      | none=>rw [hc] at hg;cases hg
      | some ci=>
       rw [hc] at hg
       obtain ⟨ds,h1,h2⟩:=trod_ty e n u ci _ he hg
       rw [←Ty.sh_leafs] at h2
       obtain ⟨y,rfl,hy⟩:=h2.one
       exact ⟨y,fun _=>⟨ci,rfl,h1,hy⟩⟩
     ·exact ⟨.nilp,fun h=>(hi h).elim⟩
    obtain ⟨f,hf⟩: ∃f:Nat→D,∀i,i<len→ ∃ci,w.cells? base (a.add (i*P.cellsOf u)) (P.cellsOf u)=some ci∧RDs w (fun _=>False) (f i).cells ci∧WF e.sh (f i):=
     ⟨fun i=>Classical.choose (key i),fun i=>Classical.choose_spec (key i)⟩
    have hes:((List.range len).map f).length=len:=by simp
    have hat: ∀(i:Nat) y,((List.range len).map f)[i]? =some y→i<len∧y=f i:=by
     intro i y hy
     have hi:i<len:=by
      have:=(List.getElem?_eq_some_iff.1 hy).1
      simpa using this
     refine ⟨hi,?_⟩
     simp only [List.getElem?_map,List.getElem?_range hi,Option.map_some,Option.some.injEq] at hy
     exact hy.symm
    have hwf: ∀y∈(List.range len).map f,WF e.sh y:=by
     intro y hy
     obtain ⟨i,hi,rfl⟩:=List.mem_map.1 hy
     obtain ⟨ci,-,-,hw⟩:=hf i (List.mem_range.1 hi)
     exact hw
    refine ⟨[.sl e.sh false ((List.range len).map f)],rds_one ?_,wfl_one rfl (.sl e.sh _ (by rw [hes];omega) hwf)⟩
    have hsize:e.sh.size=P.cellsOf u:=by rw [hsz,Sh.size,Ty.sh_leafs]
    have hcell: ∀(i:Nat) y (j:Nat) c,((List.range len).map f)[i]? =some y→y.cells[j]? =some c→ ∃v,w.cell? ((a.add (i*P.cellsOf u)).add j)=some v∧RD w (fun _=>False) c v:=by
     intro i y j c hy hc
     obtain ⟨hi,rfl⟩:=hat i y hy
     obtain ⟨ci,hci,hr,-⟩:=hf i hi
     obtain ⟨-,hl,hcs⟩:=World.cells?_some hci
     have hj:j<ci.length:=by rw [←hr.1];exact (List.getElem?_eq_some_iff.1 hc).1
     refine ⟨ci[j],?_,hr.2 j c _ hc (List.getElem?_eq_getElem hj)⟩
     rw [hcs j (by omega),List.getElem?_eq_getElem hj]
    have hspot:0<len→a.spot=none:=by
     intro h0
     obtain ⟨ci,hci,hr,-⟩:=hf 0 h0
     obtain ⟨-,hl,hcs⟩:=World.cells?_some hci
     have hpos:0<P.cellsOf u:=by
      rw [hsz]
      cases hz:Ty.shl e with
      | nil=>rw [hz] at hne;cases hne
      | cons s l=>simp
     have h1:=hcs 0 hpos
     have h2:0<ci.length:=by omega
     rw [List.getElem?_eq_getElem h2] at h1
     have e1:(a.add (0*P.cellsOf u)).add 0=a:=by simp [Addr.add]
     rw [e1] at h1
     unfold World.cell? at h1
     split at h1
     ·split at h1
      ·cases h1
      ·rename_i hs
       cases hsp:a.spot with
       | none=>rfl
       | some z=>rw [hsp] at hs;simp at hs
     ·cases h1
    have hadd: ∀i j,a.spot=none→(a.add (i*P.cellsOf u)).add j=⟨a.block,a.off+(i*e.sh.size+j),none⟩:=by
     intro i j hs
     rw [hsize]
     obtain ⟨ab,ao,zas⟩:=a
     simp only at hs
     subst hs
     unfold Addr.add
     by_cases h1:i*P.cellsOf u=0 <;> by_cases h2:j=0 <;> simp [h1,h2]
     omega
    have hmain:=RD.sl (w:=w) (Y:=fun _=>False) e.sh ((List.range len).map f) a cap
     (fun i j=>(w.cell? ((a.add (i*P.cellsOf u)).add j)).getD undef) (by rw [hes];exact hlc) (fun y hy=>(hwf y hy).fits)
     (fun i y j c hy hc=>by
      obtain ⟨v,hv,-⟩:=hcell i y j c hy hc
      have hs:=hspot (by have:=(hat i y hy).1;omega)
      refine ⟨fun h=>h.elim,hs,?_⟩
      rw [←hadd i j hs,hv]
      rfl)
     (fun i y j c hy hc=>by
      obtain ⟨v,hv,hr⟩:=hcell i y j c hy hc
      show RD w _ c ((w.cell? ((a.add (i*P.cellsOf u)).add j)).getD undef)
      rw [hv]
      exact hr)
    rw [hes] at hmain
    exact hmain
  ·cases ht
 | .st ts,fuel,t,cs,x,ht,h=>by
  unfold tyOk at ht
  split at ht
  ·rename_i fs hu
   obtain ⟨xs,n,-,-,hcs,hxl,hf⟩:=DataW.trod_struct hu h
   have:=trod_tys ts fs.toList 0 (P.cellsOf t) n cs ht hcs (fun f hfm=>by
    obtain ⟨i,hi,rfl⟩:=List.mem_iff_getElem.1 hfm
    have hi':i<fs.size:=by simpa using hi
    have:=hf i fs[i] (by simp [hi'])
    have hx:i<xs.length:=by omega
    rw [List.getElem?_eq_getElem hx] at this
    exact ⟨xs[i],by simpa using this⟩)
   simpa [Ty.shl] using this
  ·cases ht
theorem trod_tys: ∀(ts:List Ty) (fs:List Field) (off tot n:Nat) (cs:List Value),tyOks P ts fs off tot=true→cs.length=tot→
  (∀f∈fs,∃y,DataW.trod enc P w base spare held n f.type ((cs.drop f.offset).take (P.cellsOf f.type))=some y)→ ∃ds,RDs w (fun _=>False) ds (cs.drop off)∧WFL (Ty.shls ts) ds
 | [],[],off,tot,n,cs,h,hl,_=>by
  simp only [tyOks] at h
  have:=Nat.eq_of_beq_eq_true h
  refine ⟨[],⟨?_,fun j c v hc=>by simp at hc⟩,WFL.nil⟩
  simp;omega
 | [],_ :: _,off,tot,n,cs,h,_,_=>by simp [tyOks] at h
 | _ :: _,[],off,tot,n,cs,h,_,_=>by simp [tyOks] at h
 | τ :: ts,f :: fs,off,tot,n,cs,h,hl,hf=>by
  simp only [tyOks,Bool.and_eq_true] at h
  obtain ⟨⟨⟨h1,h2⟩,h3⟩,h4⟩:=h
  have h1:=Nat.eq_of_beq_eq_true h1
  have h2:=Nat.eq_of_beq_eq_true h2
  obtain ⟨y,hy⟩:=hf f (by simp)
  obtain ⟨ds1,r1,w1⟩:=trod_ty τ n f.type _ y h3 hy
  obtain ⟨ds2,r2,w2⟩:=trod_tys ts fs (off+(Ty.shl τ).length) tot n cs h4 hl (fun g hg=>hf g (by simp [hg]))
  refine ⟨ds1++ds2,?_,by simpa [Ty.shls] using w1.append w2⟩
  have:=r1.append r2
  rw [h1,h2] at this
  have e:List.take (Ty.shl τ).length (List.drop off cs)++List.drop (off+(Ty.shl τ).length) cs=List.drop off cs:=by
   rw [←List.drop_drop,List.take_append_drop]
  rw [e] at this
  exact this
end
end
open Go Go.ChangeShapes Go.WideElems
section
variable {P:Program} {w w':World} {H:Type} {enc:TypeId×Value→H}
def tyArg(P:Program)(τ:Ty)(t:TypeId):Bool:=tyOk P τ t&&decide (t<P.types.size)&&P.readableRec t
theorem cells_leaf{b0:Nat}{τ:Ty}{t:TypeId}{v:Value}(hs: ∀ts,τ≠ .st ts)(h:tyOk P τ t=true)(hv:Value.okWide P w .any b0 t v):v.cells= #[v]:=by
 cases v with
 | agg cs=>
  exfalso
  cases τ with
  | st ts=>exact hs ts rfl
  | bool=>
   unfold tyOk at h
   split at h
   ·rename_i hu
    unfold Value.okWide Cell.okWide Cell.ok at hv
    rw [hu] at hv
    exact hv
   ·cases h
  | int k=>
   unfold tyOk at h
   split at h
   ·rename_i hu
    unfold Value.okWide Cell.okWide Cell.ok at hv
    rw [hu] at hv
    exact hv
   ·cases h
  | str=>
   unfold tyOk at h
   split at h
   ·rename_i hu
    unfold Value.okWide Cell.okWide Cell.ok at hv
    rw [hu] at hv
    exact hv
   ·cases h
  | sl e=>
   unfold tyOk at h
   split at h
   ·rename_i hu
    unfold Value.okWide Cell.okWide Cell.ok at hv
    rw [hu] at hv
    exact hv
   ·cases h
 | _=>rfl
def tyArgs(P:Program):List Ty→List TypeId→Bool
 | [],[]=>true
 | τ :: τs,t :: ts=>tyArg P τ t&&tyArgs P τs ts
 | _,_=>false
theorem args_data{b0:Nat}: ∀(τs:List Ty) (ts:List TypeId) (vs:List Value) (ds:List (DataW H)) (ps:List MemPlace),tyArgs P τs ts=true→DataW.TrodAll enc P w 0 (fun _=>true) true ts vs ds ps→
  (∀(j:Nat) t v,ts[j]? =some t→vs[j]? =some v→Value.okWide P w .any b0 t v)→ ∃xs,RDs w (fun _=>False) xs vs∧WFs τs xs
 | [],[],vs,ds,ps,_,h,_=>by
  cases vs with
  | nil=>exact ⟨[],⟨rfl,fun j c v hc=>by simp at hc⟩,trivial⟩
  | cons v vs=>simp [DataW.TrodAll] at h
 | [],_ :: _,_,_,_,h,_,_=>by simp [tyArgs] at h
 | _ :: _,[],_,_,_,h,_,_=>by simp [tyArgs] at h
 | τ :: τs,t :: ts,vs,ds,ps,ht,h,hok=>by
  simp only [tyArgs,Bool.and_eq_true] at ht
  cases vs with
  | nil=>simp [DataW.TrodAll] at h
  | cons v vs=>
   cases ds with
   | nil=>simp [DataW.TrodAll] at h
   | cons d ds=>
    obtain ⟨p,q,h1,h2,-⟩:=h
    obtain ⟨xs,hr,hw⟩:=args_data τs ts vs ds q ht.2 h2 fun j t v ht hv=>hok (j+1) t v (by simpa using ht) (by simpa using hv)
    have hτ:=ht.1
    unfold tyArg at hτ
    simp only [Bool.and_eq_true,decide_eq_true_eq] at hτ
    obtain ⟨⟨h3,h4⟩,h5⟩:=hτ
    obtain ⟨fuel,hf⟩:=h1
    obtain ⟨cs,hcs,hwf⟩:=trod_ty τ fuel t v.cells.toList _ h3 hf
    have hv:=hok 0 t v rfl rfl
    have one: ∀s:Sh,(∀ts,τ≠ .st ts)→WFL [s] cs→WF s=WF τ.sh→ ∃xs,RDs w (fun _=>False) xs (v :: vs)∧WFs (τ :: τs) xs:=by
     intro s hs hl he
     obtain ⟨d,rfl,hd⟩:=hl.leaf
     rw [cells_leaf hs h3 hv] at hcs
     exact ⟨d :: xs,RDs.append hcs hr,he ▸ hd,hw⟩
    cases τ with
    | bool=>exact one _ (fun _ h=>by cases h) hwf rfl
    | int k=>exact one _ (fun _ h=>by cases h) hwf rfl
    | str=>exact one _ (fun _ h=>by cases h) hwf rfl
    | sl e=>exact one _ (fun _ h=>by cases h) hwf rfl
    | st fs=>
     unfold tyOk at h3
     split at h3
     ·rename_i fields hu
      unfold Value.okWide at hv
      rw [hu] at hv
      obtain ⟨vs0,rfl,-,-⟩:=hv
      refine ⟨.agg cs :: xs,?_,⟨.agg _ _ hwf.1 hwf.2.1 hwf.2.2,hw⟩⟩
      have h6:=rds_one (w:=w) (Y:=fun _=>False) (RD.agg (w:=w) cs vs0.toList hcs.1 hcs.2)
      exact h6.append hr
     ·cases h3
theorem reads_on{sp:Nat→Bool}(hl:laidOutB P=true)(hsame: ∀p:MemPlace,p.block<w.heap.size→w.sameAt w' p): ∀(τs:List Ty) (ts:List TypeId) (vs:List Value) (ds:List (DataW H)) (ps:List MemPlace),tyArgs P τs ts=true→
  DataW.TrodAll enc P w 0 (fun _=>true) true ts vs ds ps→(∀p∈ps,p.block<w.heap.size)→(∀p∈ps,sp p.block=true)→DataW.TrodAll enc P w' 0 sp true ts vs ds ps
 | [],[],vs,ds,ps,_,h,_,_=>by
  cases vs <;> cases ds <;> simp_all [DataW.TrodAll]
 | [],_ :: _,_,_,_,h,_,_,_=>by simp [tyArgs] at h
 | _ :: _,[],_,_,_,h,_,_,_=>by simp [tyArgs] at h
 | τ :: τs,t :: ts,vs,ds,ps,ht,h,hb,hs=>by
  simp only [tyArgs,Bool.and_eq_true] at ht
  cases vs with
  | nil=>simp [DataW.TrodAll] at h
  | cons v vs=>
   cases ds with
   | nil=>simp [DataW.TrodAll] at h
   | cons d ds=>
    obtain ⟨p,q,h1,h2,rfl⟩:=h
    have hτ:=ht.1
    unfold tyArg at hτ
    simp only [Bool.and_eq_true,decide_eq_true_eq] at hτ
    obtain ⟨⟨h3,h4⟩,h5⟩:=hτ
    exact ⟨p,q,Trod_stays hl h5 h4 h1 (fun x hx=>hsame x (hb x (List.mem_append_left _ hx))) (fun x hx=>hs x (List.mem_append_left _ hx)),
     reads_on hl hsame τs ts vs ds q ht.2 h2 (fun x hx=>hb x (List.mem_append_right _ hx)) (fun x hx=>hs x (List.mem_append_right _ hx)),rfl⟩
theorem frozen_of_keep(hk:Keep (fun _=>False) w w')(a:Addr)(ha:a.block<w.heap.size):w'.frozen? a=w.frozen? a:=by
 unfold World.frozen?
 rw [hk.heap a.block ha (fun h=>h)]
theorem keptBut_of_keep(hk:Keep (fun _=>False) w w')(may:MemPlace→Prop):w.keptBut w' may:=by
 refine World.keptBut_mono (may:=fun _=>False) (fun _ h=>h.elim) (World.keptBut_none_iff.2 ⟨hk.out.1,hk.out.2,fun i hi=>hk.heap i hi (fun h=>h)⟩)
theorem sameAt_of_keep(hk:Keep (fun _=>False) w w')(p:MemPlace)(hp:p.block<w.heap.size):w.sameAt w' p:=by
 cases p with
 | cell b off=>
  show w'.cell? ⟨b,off,none⟩=w.cell? ⟨b,off,none⟩
  unfold World.cell?
  rw [hk.heap b hp (fun h=>h)]
 | map b=>exact hk.heap b hp (fun h=>h)
theorem law_calls {b0 : Nat} {f : FuncId} {fn : Func} {c : Code} {g : List D → Tree (List D)} {τs : List Ty} (hfn : P.funcs[f]? = some fn) (hname : fn.name ≠ "runtime.NumGoroutine") (hbody : fn.body = some c)
  (hp:PureOK P f g) (hty:tyArgs P τs fn.params.toList=true) (hg: ∀xs,WFs τs xs→(g xs).eval=some [.bool true])
  {args:Array Value} {ds:List (DataW H)} {p:List MemPlace} (hA:DataW.TrodAll enc P w 0 (fun _=>true) true fn.params.toList args.toList ds p)
  (hok: ∀(j:Nat) t v,fn.params[j]? =some t→args[j]? =some v→Value.okWide P w .any b0 t v) (hT:TabOK P w (fun _=>False)) (hyn:f≠yNo:=by decide):
  Calls P f args w fun e w'=>e= .returned (.bool true)∧Keep (fun _=>False) w w':=by
 obtain ⟨xs,hr,hw⟩:=args_data τs _ _ _ _ hty hA (fun j t v ht hv=>hok j t v (by simpa using ht) (by simpa using hv))
 have:=hp hyn xs [.bool true] (hg xs hw) w (fun _=>False) args (fun b h=>h.elim) hT hr
 rcases this with ⟨-,h⟩ | ⟨u,w',h,-⟩
 ·refine Calls.mono h ?_
  rintro e w' ⟨u,rfl,hv,hk⟩
  simp only [retV,RV] at hv
  cases hv
  exact ⟨rfl,hk⟩
 ·rw [MuLone.run_callFunc_enter hfn (by simpa using hname) hbody args w] at h
  cases h
end
open Go Go.ChangeShapes
theorem law_post{H:Type}{enc:TypeId×Value→H}{P:Program}{fn:Func}{s:ChangeSpec}{τs:List Ty}{tb:TypeId}{W W':World}{args:Array Value}{ds gs:List (DataW H)}{before:List MemPlace}{fresh handsOn again:Bool}
  (hW:DataW.Whole enc P fn.params.toList s.vars false W args.toList ds gs before) (hv:s.vars=[]) (hl:laidOutB P=true) (hty:tyArgs P τs fn.params.toList=true) (hrt:fn.resultTypes= #[tb]) (htb:P.underlying tb=some .bool)
  (hr:(s.fn H ds).results=[.lit (.bool true)]) (ha:(s.fn H ds).args=ds) (hvs:(s.fn H ds).vars=[]) (hk:Keep (fun _=>False) W W'):
  s.post enc P fn false fresh handsOn again W args (.bool true) W':=by
 have hlt:=hW.lt
 obtain ⟨pa,pv,hA,hV,rfl,hz,hn⟩:=hW
 rw [hv] at hV
 obtain ⟨rfl,rfl⟩:=trodVars_none hV
 simp only [List.append_nil] at hlt hz
 have hargs: ∀sp:Nat→Bool,(∀p∈pa,sp p.block=true)→DataW.TrodAll enc P W' 0 sp true fn.params.toList args.toList ds pa:=fun sp hsp=>
  reads_on hl (fun p hp=>sameAt_of_keep hk p hp) τs _ _ _ _ hty hA hlt hsp
 have hres: ∀(b:Nat) (sp:Nat→Bool) (hd:Bool),DataW.TrodAll enc P W' b sp hd fn.resultTypes.toList ((Value.bool true).resultList fn.resultTypes.size) [.lit (.bool true)] []:=by
  intro b sp hd
  rw [hrt]
  exact trodAll_mk1 (RowKit.shut_bool htb true)
 have hvars: ∀sp:Nat→Bool,DataW.TrodVars enc P W' sp s.vars [] []:=by
  intro sp
  rw [hv]
  rfl
 refine ⟨ds,[],pa++[],[],pa,[],⟨pa,[],hA,by rw [hv];exact hV,rfl,by simpa using hz,hn⟩,?_,?_,?_,keptBut_of_keep hk _,fun _=>⟨?_,?_⟩⟩
 ·simp only [List.append_nil,hr]
  exact hres _ _ _
 ·simp only [List.append_nil,ha]
  exact hargs _ (fun p hp=>by simpa using hlt p hp)
 ·simp only [List.append_nil,hvs]
  exact hvars _
 ·exact RowKit.ok_one hrt rfl (RowKit.okWide_bool_mk htb true)
 ·refine ⟨_,_,([]++pa)++[],⟨[]++pa,[],trodAll_append (hargs _ (fun _ _=>rfl)) (hres _ _ _),hvars _,rfl,?_,fun h=>by cases h⟩,?_⟩
  ·intro b off hp
   have hp:MemPlace.cell b off∈pa:=by simpa using hp
   rw [frozen_of_keep hk _ (show b<W.heap.size from hlt _ hp)]
   exact hz b off hp
  ·intro p hp _
   simpa using hp
end Go.AM
