/- Parts of the walk: AMStep1, AMStep2, AMStep3, AMStep4, AMStep5, AMStep6, AMApp, AMStep7, AMMap. -/
import Derived.Test.YtlhageadjmoajaaDoorGa
import Derived.Laws.CopyRow
import Derived.Laws.BytesString
import Derived.Great.BuildSlice
import Derived.Laws.Append
import Derived.MapKept
import Derived.Laws.RangeString
set_option maxRecDepth 20000
namespace Go.AM
open Go
theorem takeN_ok{α:Type}: ∀{n:Nat} {l r:List α},takeN n l=some r→r=l.take n∧n≤l.length
 | 0,l,r,h=>by simp [takeN] at h;simp [h]
 | n+1,[],r,h=>by simp [takeN] at h
 | n+1,x :: l,r,h=>by
  simp only [takeN] at h
  split at h
  ·rename_i q hq
   cases h
   obtain ⟨rfl,hl⟩:=takeN_ok hq
   simp [hl]
  ·simp at h
theorem splice_ok{α:Type}: ∀{cs:List α} {off:Nat} {vs r:List α},splice cs off vs=some r→off+vs.length≤cs.length∧r=cs.take off++vs++cs.drop (off+vs.length)
 | [],0,[],r,h=>by simp [splice] at h;simp [h]
 | [],0,v :: vs,r,h=>by simp [splice] at h
 | [],n+1,vs,r,h=>by simp [splice] at h
 | c :: cs,0,[],r,h=>by simp [splice] at h;simp [h]
 | c :: cs,0,v :: vs,r,h=>by
  simp only [splice] at h
  split at h
  ·rename_i q hq
   cases h
   obtain ⟨h1,rfl⟩:=splice_ok hq
   simp at h1 ⊢
   exact h1
  ·simp at h
 | c :: cs,n+1,vs,r,h=>by
  simp only [splice] at h
  split at h
  ·rename_i q hq
   cases h
   obtain ⟨h1,rfl⟩:=splice_ok hq
   have:n+1+vs.length=(n+vs.length)+1:=by omega
   simp [this]
   omega
  ·simp at h
section
variable {P:Program} {w:World} {X Y:Nat→Prop} {β:Nat→Pl} {ob:Obs}
theorem RVL.take{vs:List V}{us:List Value}(h:RVL w Y β ob vs us)(n:Nat):RVL w Y β ob (vs.take n) (us.take n):=by
 induction n generalizing vs us with
 | zero=>simp [RVL]
 | succ n ih=>
  cases vs <;> cases us <;> simp_all [RVL]
theorem RVL.drop{vs:List V}{us:List Value}(h:RVL w Y β ob vs us)(n:Nat):RVL w Y β ob (vs.drop n) (us.drop n):=by
 induction n generalizing vs us with
 | zero=>simpa using h
 | succ n ih=>
  cases vs <;> cases us <;> simp_all [RVL]
theorem allData_ok: ∀{cs:List V} {xs:List D},allData cs=some xs→cs=xs.map .d
 | [],xs,h=>by simp [allData] at h;simp [h]
 | v :: cs,xs,h=>by
  cases v <;> simp only [allData] at h
  case d x=>
   split at h
   ·rename_i ys hy
    cases h
    simp [allData_ok hy]
   ·simp at h
  all_goals simp at h
theorem mkAgg_ok{cs:List V}{us:List Value}(h:RVL w Y β ob cs us):RV w Y β ob (V.mkAgg cs) (.agg us.toArray):=by
 unfold V.mkAgg
 split
 ·rename_i xs hx
  rw [allData_ok hx] at h
  obtain ⟨hl,hv⟩:=h.of_map_d
  simp only [RV]
  exact .agg xs us hl hv
 ·simp only [RV]
  exact ⟨us.toArray,rfl,by simpa using h⟩
theorem add_cell(b off j:Nat):(⟨b,off,none⟩:Addr).add j=⟨b,off+j,none⟩:=by unfold Addr.add;split <;> simp_all
theorem load_run{t:TypeId}{b off:Nat}{us:List Value}(hu:(P.underlying t).isSome)(hn:us.length=P.cellsOf t)(h1:isAggD (P.underlying t)=false→us.length=1)
  (h: ∀(j:Nat) u,us[j]? =some u→w.cell? ⟨b,off+j,none⟩=some u):(loadVar t ⟨b,off,none⟩).run P w= .ok (mkV P t us) w:=by
 obtain ⟨d,hd⟩:=Option.isSome_iff_exists.1 hu
 unfold loadVar mkV
 simp only [Sem.run_bind,isAgg_run hd,Result.andThen_ok]
 rw [hd] at h1 ⊢
 cases hag:isAggD (some d) with
 | true=>
  have:=run_loadCells_list (P:=P) w ⟨b,off,none⟩ us (fun j u hj=>by rw [add_cell];exact h j u hj)
  simp only [if_true,Sem.run_bind,sizeOf_run hd,Result.andThen_ok,←hn,this,Sem.run_pure]
 | false=>
  obtain ⟨u,rfl⟩:=List.length_eq_one_iff.1 (h1 hag)
  have:=h 0 u rfl
  simp only [Bool.false_eq_true,if_false,load,Sem.run,List.headD_cons]
  simp only [Nat.add_zero] at this
  rw [this]
theorem cellsV_ok{t:TypeId}{cs:List V}{us:List Value}{n:Nat}{v:V}(hr:RVL w Y β ob cs us)(h:(cellsV n (isAggD (P.underlying t)) cs).eval=some v):
  n≤us.length∧(isAggD (P.underlying t)=false→n=1)∧RV w Y β ob v (mkV P t (us.take n)):=by
 unfold cellsV at h
 split at h
 ·rename_i l hl
  obtain ⟨rfl,hn⟩:=takeN_ok hl
  have hr':=hr.take n
  refine ⟨by rw [←hr.length];exact hn,?_⟩
  unfold mkV
  split at h
  ·rename_i hag
   simp only [Tree.eval,Option.some.injEq] at h
   subst h
   simp only [hag,if_true]
   exact ⟨by simp,mkAgg_ok hr'⟩
  ·rename_i hag
   simp only [hag]
   split at h
   ·rename_i x hx
    simp only [Tree.eval,Option.some.injEq] at h
    subst h
    rw [hx] at hr'
    have hl:=hr'.length
    obtain ⟨u,hu⟩:=List.length_eq_one_iff.1 (by simpa using hl.symm:(us.take n).length=1)
    rw [hu] at hr' ⊢
    simp only [RVL] at hr'
    have e:=congrArg List.length hx
    simp at e
    refine ⟨fun _=>by omega,by simpa using hr'.1⟩
   ·simp [Tree.eval] at h
 ·simp [Tree.eval] at h
theorem cellsD_ok{t:TypeId}{cs:List D}{us:List Value}{n:Nat}{v:V}(hr:RDs w Y cs us)(h:(cellsD n (isAggD (P.underlying t)) cs).eval=some v):
  n≤us.length∧(isAggD (P.underlying t)=false→n=1)∧RV w Y β ob v (mkV P t (us.take n)):=by
 unfold cellsD at h
 split at h
 ·rename_i l hl
  obtain ⟨rfl,hn⟩:=takeN_ok hl
  have hr':=hr.take n
  refine ⟨by rw [←hr.1];exact hn,?_⟩
  unfold mkV
  split at h
  ·rename_i hag
   simp only [Tree.eval,Option.some.injEq] at h
   subst h
   simp only [hag,if_true,RV]
   exact ⟨by simp,.agg _ _ hr'.1 hr'.2⟩
  ·rename_i hag
   simp only [hag]
   split at h
   ·rename_i x hx
    simp only [Tree.eval,Option.some.injEq] at h
    subst h
    rw [hx] at hr'
    obtain ⟨u,hu⟩:=List.length_eq_one_iff.1 (by simpa using hr'.1.symm:(us.take n).length=1)
    rw [hu] at hr' ⊢
    have e:=congrArg List.length hx
    simp at e
    refine ⟨fun _=>by omega,?_⟩
    simp only [RV]
    exact hr'.2 0 x u rfl rfl
   ·simp [Tree.eval] at h
 ·simp [Tree.eval] at h
theorem Sh.beq_eq: ∀{a b:Sh},Sh.beq a b=true→a=b:=by
 have key: ∀(a:Sh),(∀b,Sh.beq a b=true→a=b):=by
  intro a
  induction a using Sh.rec (motive_2:=fun l=> ∀m,Sh.beqL l m=true→l=m) with
  | bool=>intro b h;cases b <;> simp_all [Sh.beq]
  | int k=>intro b h;cases b <;> simp_all [Sh.beq]
  | str=>intro b h;cases b <;> simp_all [Sh.beq]
  | sl e ih=>intro b h;cases b <;> simp_all [Sh.beq];exact ih _ h
  | agg fs ih=>intro b h;cases b <;> simp_all [Sh.beq];exact ih _ h
  | nil=>rename_i m h;cases m <;> simp_all [Sh.beqL]
  | cons x l h1 h2=>rename_i m h;cases m <;> simp_all [Sh.beqL];exact ⟨h1 _ h.1,h2 _ h.2⟩
 intro a b h
 exact key a b h
theorem etaLeaf_fits{s:Sh}{x:D}(h:fitsLeaf s x=true):etaLeaf s x=x:=by
 cases s <;> cases x <;> simp_all [fitsLeaf,etaLeaf,D.toBool,D.toInt,D.toStr,D.toNil,D.toEs]
 exact (Sh.beq_eq h).symm
theorem etaL_fits: ∀{ks:List Sh} {xs:List D},fitsL ks xs=true→etaL ks xs=xs
 | [],[],_=>rfl
 | [],_ :: _,h=>by simp [fitsL] at h
 | _ :: _,[],h=>by simp [fitsL] at h
 | k :: ks,x :: xs,h=>by
  simp only [fitsL,Bool.and_eq_true] at h
  simp [etaL,etaLeaf_fits h.1,etaL_fits h.2]
theorem fits_cells{s:Sh}{x:D}(h:fits s x=true):fitsL s.leafs x.cells=true:=by
 cases s <;> cases x <;> simp_all [fits,fitsL,Sh.leafs,D.cells,fitsLeaf]
theorem etaCells_fits{s:Sh}{x:D}(h:fits s x=true):etaCells s x=x.cells:=by
 unfold etaCells;exact etaL_fits (fits_cells h)
theorem fits_size{s:Sh}{x:D}(h:fits s x=true):x.cells.length=s.size:=fitsL_length (fits_cells h)
theorem mkD_cells{e:Sh}{cs:List D}{x:D}(h:mkD e cs=some x)(hf:fits e x=true):x.cells=cs:=by
 unfold mkD at h
 split at h
 ·cases h;rfl
 ·split at h
  ·rename_i y
   cases h
   cases x <;> simp_all [D.cells]
   cases e <;> simp_all [fits,fitsLeaf]
  ·simp at h
theorem RL.elem{e:Sh}{es:List D}{vs:Array Value}(h:RL w Y e es vs){i:Nat}(hi:i<es.length):
  RDs w Y (es.getD i .nilp).cells ((vs.toList.drop (i*e.size)).take e.size)∧fits e (es.getD i .nilp)=true:=by
 have hx:es[i]? =some es[i]:=List.getElem?_eq_getElem hi
 rw [getD_of_getElem? hx]
 have hf:=h.1 es[i] (List.getElem_mem hi)
 refine ⟨⟨?_,?_⟩,hf⟩
 ·rw [fits_size hf]
  by_cases hz:e.size=0
  ·simp [hz]
  ·have hl:e.size - 1<es[i].cells.length:=by rw [fits_size hf];omega
   obtain ⟨u,hu,_⟩:=h.2 i es[i] (e.size - 1) _ hx (List.getElem?_eq_getElem hl)
   have:=(Array.getElem?_eq_some_iff.mp hu).1
   simp
   omega
 ·intro j c v hc hv
  obtain ⟨u,hu,hr⟩:=h.2 i es[i] j c hx hc
  have hj:j<e.size:=by
   have:=(List.getElem?_eq_some_iff.mp hc).1
   rw [fits_size hf] at this
   exact this
  rw [List.getElem?_take,if_pos hj,List.getElem?_drop] at hv
  have:vs[i*e.size+j]? =some v:=by simpa using hv
  rw [hu] at this
  cases this
  exact hr
theorem fits_mem_flat{e:Sh}: ∀{es:List D},(∀x∈es,fits e x=true)→flatA e es=(es.map D.cells).flatten∧(flatA e es).length=es.length*e.size
 | [],_=>by simp [flatA]
 | x :: es,h=>by
  obtain ⟨h1,h2⟩:=fits_mem_flat (e:=e) (es:=es) fun y hy=>h y (List.mem_cons_of_mem _ hy)
  have hx:=h x (List.mem_cons_self ..)
  simp only [flatA,etaCells_fits hx,List.map_cons,List.flatten_cons,h1,List.length_append,List.length_cons]
  refine ⟨trivial,?_⟩
  rw [←h1,h2,fits_size hx,Nat.add_mul]
  omega
theorem RL.flat{e:Sh}{es:List D}{vs:Array Value}(h:RL w Y e es vs)(hs:es.length*e.size≤vs.size):RDs w Y (flatA e es) (vs.toList.take (es.length*e.size)):=by
 obtain ⟨hf,hl⟩:=fits_mem_flat h.1
 refine ⟨by rw [hl];simp;omega,?_⟩
 intro j c v hc hv
 have hj:j<es.length*e.size:=by rw [←hl];exact (List.getElem?_eq_some_iff.mp hc).1
 rw [List.getElem?_take,if_pos hj] at hv
 have hz:0<e.size:=by
  rcases Nat.eq_zero_or_pos e.size with h0 | h0
  ·rw [h0] at hj;omega
  ·exact h0
 have hi:j / e.size<es.length:=(Nat.div_lt_iff_lt_mul hz).2 hj
 have hcell:(es[j / e.size]).cells[j % e.size]? =some c:=by
  have: ∀(es:List D) (j:Nat),(∀x∈es,fits e x=true)→(hi:j / e.size<es.length)→(flatA e es)[j]? =(es[j / e.size]).cells[j % e.size]? :=by
   intro es
   induction es with
   | nil=>intro j _ hi;simp at hi
   | cons x es ih=>
    intro j hfit hi
    have hx:=hfit x (List.mem_cons_self ..)
    simp only [flatA,etaCells_fits hx]
    by_cases hjl:j<e.size
    ·have h0:j / e.size=0:=Nat.div_eq_of_lt hjl
     rw [List.getElem?_append_left (by rw [fits_size hx];exact hjl)]
     simp only [h0,List.getElem_cons_zero,Nat.mod_eq_of_lt hjl]
    ·have hge:e.size≤j:=by omega
     rw [List.getElem?_append_right (by rw [fits_size hx];exact hge),fits_size hx]
     have h1:j / e.size=(j - e.size) / e.size+1:=by
      conv=>lhs;rw [show j=j - e.size+e.size by omega,Nat.add_div_right _ hz]
     have h2:j % e.size=(j - e.size) % e.size:=by rw [Nat.mod_eq_sub_mod hge]
     have hi':(j - e.size) / e.size<es.length:=by
      rw [h1] at hi;simpa using hi
     rw [ih (j - e.size) (fun y hy=>hfit y (List.mem_cons_of_mem _ hy)) hi']
     simp only [h1,List.getElem_cons_succ,h2]
  rw [←this es j h.1 hi];exact hc
 obtain ⟨u,hu,hr⟩:=h.2 (j / e.size) _ (j % e.size) c (List.getElem?_eq_getElem hi) hcell
 rw [show j / e.size*e.size+j % e.size=j by rw [Nat.mul_comm];exact Nat.div_add_mod j e.size] at hu
 have:vs[j]? =some v:=by simpa using hv
 rw [hu] at this
 cases this
 exact hr
theorem rp_list{cs:List D}{a:Addr}(h: ∀(j:Nat) c,cs[j]? =some c→ ¬Y a.block∧a.spot=none∧ ∃u,w.cell? ⟨a.block,a.off+j,none⟩=some u∧RD w Y c u):
  ∃us:List Value,RDs w Y cs us∧ ∀(j:Nat) u,us[j]? =some u→w.cell? ⟨a.block,a.off+j,none⟩=some u:=by
 have: ∀(cs:List D) (k:Nat),(∀(j:Nat) c,cs[j]? =some c→ ∃u,w.cell? ⟨a.block,a.off+(k+j),none⟩=some u∧RD w Y c u)→
   ∃us:List Value,RDs w Y cs us∧ ∀(j:Nat) u,us[j]? =some u→w.cell? ⟨a.block,a.off+(k+j),none⟩=some u:=by
  intro cs
  induction cs with
  | nil=>intro k _;exact ⟨[],⟨rfl,fun j c v h=>by simp at h⟩,fun j u h=>by simp at h⟩
  | cons c cs ih=>
   intro k h
   obtain ⟨u,h1,h2⟩:=h 0 c rfl
   obtain ⟨us,⟨h3,h4⟩,h5⟩:=ih (k+1) fun j c hj=>by
    have:=h (j+1) c (by simpa using hj)
    rwa [show k+(j+1)=k+1+j by omega] at this
   refine ⟨u :: us,⟨by simp [h3],?_⟩,?_⟩
   ·intro j c v hc hv
    cases j with
    | zero=>simp at hc hv;subst hc;subst hv;exact h2
    | succ j=>exact h4 j c v (by simpa using hc) (by simpa using hv)
   ·intro j v hv
    cases j with
    | zero=>simp at hv;subst hv;exact h1
    | succ j=>
     have:=h5 j v (by simpa using hv)
     rwa [show k+(j+1)=k+1+j by omega]
 obtain ⟨us,h1,h2⟩:=this cs 0 fun j c hj=>by simpa using (h j c hj).2.2
 exact ⟨us,h1,fun j u hj=>by simpa using h2 j u hj⟩
theorem loadAt_ok{t:TypeId}{A v:V}{u:Value}(hR:RelO P w X β ob)(hu:(P.underlying t).isSome)(hA:RV w (Ys X β ob) β ob A u)
  (h:(loadAt ob (P.cellsOf t) (isAggD (P.underlying t)) A).eval=some v): ∃z,(Instr.loadAt t u).run P w= .ok z w∧RV w (Ys X β ob) β ob v z:=by
 cases A <;> simp only [loadAt] at h
 case ptr id off=>
  simp only [RV] at hA
  obtain ⟨a,rfl,ha⟩:=hA
  split at h
  ·rename_i cs ho
   obtain ⟨b,cap,vs,T,fz,hp,hh,hf,hv⟩:=hR.obj id _ ho
   have ha:=ha _ ho
   rw [hp] at ha
   simp only [Pl.block] at ha
   subst ha
   obtain ⟨hn,h1,hr⟩:=cellsV_ok (hv.drop off) h
   refine ⟨_,?_,hr⟩
   simp only [Instr.loadAt,Instr.sureAddr]
   refine load_run hu (by simp only [List.length_take];omega) (fun hag=>by rw [h1 hag] at hn ⊢;simp only [List.length_take];omega) ?_
   intro j u hj
   rw [List.getElem?_take] at hj
   split at hj
   ·rw [List.getElem?_drop] at hj
    rw [cell_of_row w b (off+j) vs T fz hh]
    simpa using hj
   ·simp at hj
  ·rename_i e m z es ho
   obtain ⟨b,cap,vs,T,fz,hp,hh,hf,hm,hs,hl⟩:=hR.obj id _ ho
   have ha:=ha _ ho
   rw [hp] at ha
   simp only [Pl.block] at ha
   subst ha
   split at h
   ·rename_i hc
    simp only [Bool.and_eq_true] at hc
    obtain ⟨⟨hag,hoff⟩,hsz⟩:=hc
    have hoff:=Nat.eq_of_beq_eq_true hoff
    have hsz:=Nat.eq_of_beq_eq_true hsz
    subst hoff
    simp only [Tree.eval,Option.some.injEq] at h
    subst h
    have hfl:=hl.flat (by rw [hm,hs];exact Nat.le_refl _)
    rw [hm,←hsz] at hfl
    refine ⟨mkV P t (vs.toList.take (P.cellsOf t)),?_,?_⟩
    ·simp only [Instr.loadAt,Instr.sureAddr]
     refine load_run (us:=vs.toList.take (P.cellsOf t)) hu (by simp;omega) (fun hag'=>by rw [hag] at hag';cases hag') ?_
     intro j u hj
     rw [List.getElem?_take] at hj
     split at hj
     ·rw [cell_of_row w b (0+j) vs T fz hh]
      simpa using hj
     ·simp at hj
    ·simp only [mkV,hag,if_true,RV]
     exact .agg _ _ hfl.1 hfl.2
   ·simp [Tree.eval] at h
  ·simp [Tree.eval] at h
 case ep id i off=>
  simp only [RV] at hA
  obtain ⟨a,rfl,ha1,ha2⟩:=hA
  have key: ∀(e:Sh) (es:List D) (b:Nat) (vs:Array Value) (T:TypeId) (fz:Nat×Nat),a=⟨b,i*e.size+off,none⟩→w.heap[b]? =some (.cells vs T fz)→RL w (Ys X β ob) e es vs→
    (cellsD (P.cellsOf t) (isAggD (P.underlying t)) ((etaCells e (es.getD i .nilp)).drop off)).eval=some v→i<es.length→ ∃z,(Instr.loadAt t (.pointer (some a))).run P w= .ok z w∧RV w (Ys X β ob) β ob v z:=by
   intro e es b vs T fz ha hh hl h hi
   subst ha
   obtain ⟨he,hf⟩:=hl.elem hi
   rw [etaCells_fits hf] at h
   obtain ⟨hn,h1,hr⟩:=cellsD_ok (he.drop off) h
   refine ⟨_,?_,hr⟩
   simp only [Instr.loadAt,Instr.sureAddr]
   refine load_run hu (by simp only [List.length_take];omega) (fun hag=>by rw [h1 hag] at hn ⊢;simp only [List.length_take];omega) ?_
   intro j u hj
   rw [List.getElem?_take] at hj
   split at hj
   ·rw [List.getElem?_drop,List.getElem?_take] at hj
    split at hj
    ·rw [List.getElem?_drop] at hj
     rw [cell_of_row w b (i*e.size+off+j) vs T fz hh]
     rw [show i*e.size+off+j=i*e.size+(off+j) by omega]
     simpa using hj
    ·simp at hj
   ·simp at hj
  split at h
  ·rename_i e n m z es ho
   obtain ⟨ha,hi⟩:=ha1 _ _ _ _ _ ho
   have hro:=hR.obj id _ ho
   cases hb:β id with
   | nil=>rw [hb] at hro;obtain ⟨_,rfl⟩:=hro;simp at hi
   | capless a'=>rw [hb] at hro;obtain ⟨_,rfl⟩:=hro;simp at hi
   | blk b cap=>
    rw [hb] at hro ha
    obtain ⟨_,_,vs,T,fz,hh,_,_,hl⟩:=hro
    exact key e es b vs T fz ha hh hl h hi
  ·rename_i e n z es ho
   obtain ⟨ha,hi⟩:=ha2 _ _ _ _ ho
   obtain ⟨b,cap,vs,T,fz,hp,hh,_,hm,_,hl⟩:=hR.obj id _ ho
   rw [hp] at ha
   exact key e es b vs T fz ha hh hl h (by omega)
  ·simp [Tree.eval] at h
 case rp cs=>
  simp only [RV] at hA
  obtain ⟨a,rfl,ha⟩:=hA
  obtain ⟨us,hr,hcell⟩:=rp_list ha
  obtain ⟨hn,h1,hv⟩:=cellsD_ok hr h
  refine ⟨_,?_,hv⟩
  simp only [Instr.loadAt,Instr.sureAddr]
  by_cases h0:P.cellsOf t=0
  ·obtain ⟨d,hd⟩:=Option.isSome_iff_exists.1 hu
   have hag:isAggD (some d)=true:=by
    cases hag:isAggD (some d) with
    | true=>rfl
    | false=>have:=h1 (by rw [hd];exact hag);omega
   unfold loadVar mkV
   simp only [Sem.run_bind,isAgg_run hd,Result.andThen_ok,hag,if_true,sizeOf_run hd,h0,hd]
   simp [loadCells,loadCellsFrom]
  ·have hsp:a.spot=none:=by
    have hlt:0<cs.length:=by rw [hr.1];omega
    exact (ha 0 _ (List.getElem?_eq_getElem hlt)).2.1
   have hae:a=⟨a.block,a.off,none⟩:=by cases a;simp at hsp;subst hsp;rfl
   rw [hae]
   refine load_run hu (by simp only [List.length_take];omega) (fun hag=>by rw [h1 hag] at hn ⊢;simp only [List.length_take];omega) ?_
   intro j u hj
   rw [List.getElem?_take] at hj
   split at hj
   ·exact hcell j u hj
   ·simp at hj
 all_goals simp [Tree.eval] at h
end
section
variable {P:Program} {w:World} {X Y:Nat→Prop} {β:Nat→Pl} {ob:Obs}
theorem shT_some{d:Nat}{t:TypeId}{s:Sh}(h:shT P d t=some s): ∃D,P.underlying t=some D:=by
 cases d with
 | zero=>simp [shT] at h
 | succ d=>
  cases hu:P.underlying t with
  | none=>simp [shT,hu] at h
  | some D=>exact ⟨D,rfl⟩
theorem sh_ok{t:TypeId}{s:Sh}(h:sh P t=some s):P.cellsOf t=s.size∧P.bytesOf t≤1024∧0<P.bytesOf t∧shT P dep t=some s:=by
 unfold sh at h
 split at h
 ·rename_i s' hs
  split at h
  ·rename_i hc
   cases h
   simp only [Bool.and_eq_true] at hc
   exact ⟨Nat.eq_of_beq_eq_true hc.1.1,Nat.le_of_ble_eq_true hc.1.2,Nat.le_of_ble_eq_true hc.2,hs⟩
  ·simp at h
 ·simp at h
theorem sh_size{t:TypeId}{s:Sh}(h:sh P t=some s):(sizeOf t).run P w= .ok s.size w:=by
 obtain ⟨h1,_,_,h2⟩:=sh_ok h
 obtain ⟨D,hD⟩:=shT_some h2
 rw [sizeOf_run hD,h1]
def ROp(w:World)(Y:Nat→Prop)(β:Nat→Pl)(ob:Obs):Option V→Option Value→Prop
 | none,none=>True
 | some v,some u=>RV w Y β ob v u
 | _,_=>False
theorem optOpd_ok{fr:List V}{a:Act}(hT:TabOK P w Y)(h:RVL w Y β ob fr a.tmps.toList)(x:Option Operand):ROp w Y β ob (optOpd fr (cOptO P x)) (x.map a.eval):=by
 cases x with
 | none=>simp [optOpd,cOptO,ROp]
 | some x=>simp only [optOpd,cOptO,ROp,Option.map_some];exact opd_ok hT h 0 x
theorem sliceOf_ok{n:Nat}{lo hi:Option V}{l h:Nat}(he:(sliceOf n lo hi).eval=some (l,h)){lov hiv:Option Value}(hl:ROp w Y β ob lo lov)(hh:ROp w Y β ob hi hiv):
  l≤h∧h≤n∧ ∀(b:Bool) (cap:Nat),n≤cap→(Instr.sliceBounds b n cap lov hiv none).run P w= .ok (l,h,cap) w:=by
 unfold sliceOf at he
 obtain ⟨hI,h1,h2⟩:=Tree.bind_eval.1 he
 have hH:0≤hI∧hI≤n∧ ∀(b:Bool) (cap:Nat),n≤cap→(match hiv with | some v=>Instr.sliceBound v cap (if b then .sliceAcap else .sliceAlen) | none=>pure n:Sem Nat).run P w= .ok hI.toNat w:=by
  cases hi with
  | none=>
   cases hiv with
   | none=>
    simp only [Tree.eval,Option.some.injEq] at h1
    subst h1
    exact ⟨by omega,by omega,fun b cap _=>by simp⟩
   | some u=>simp [ROp] at hh
  | some v=>
   cases hiv with
   | none=>simp [ROp] at hh
   | some u=>
    cases v <;> (try simp only [Tree.eval] at h1)
    case d x=>
     cases x <;> (try simp only [Tree.eval] at h1)
     case int k m=>
      simp only [ROp,RV] at hh
      cases hh
      split at h1
      ·rename_i hb
       have hb:=of_decide_eq_true hb
       simp only [Option.some.injEq] at h1
       subst h1
       exact ⟨hb.1,hb.2,fun b cap hc=>run_sliceBound w k m cap _ hb.1 (by omega)⟩
      ·simp at h1
     all_goals simp at h1
    all_goals simp at h1
 obtain ⟨q1,q2,q3⟩:=hH
 have hL: ∃lI:Nat,l=lI∧h=hI.toNat∧lI≤hI.toNat∧(match lov with | some v=>Instr.sliceBound v hI.toNat .sliceB | none=>pure 0:Sem Nat).run P w= .ok lI w:=by
  cases lo with
  | none=>
   cases lov with
   | none=>
    simp only [Tree.eval,Option.some.injEq,Prod.mk.injEq] at h2
    obtain ⟨rfl,rfl⟩:=h2
    exact ⟨0,rfl,rfl,Nat.zero_le _,by simp⟩
   | some u=>simp [ROp] at hl
  | some v=>
   cases lov with
   | none=>simp [ROp] at hl
   | some u=>
    cases v <;> (try simp only [Tree.eval] at h2)
    case d x=>
     cases x <;> (try simp only [Tree.eval] at h2)
     case int k m=>
      simp only [ROp,RV] at hl
      cases hl
      split at h2
      ·rename_i hb
       have hb:=of_decide_eq_true hb
       simp only [Option.some.injEq,Prod.mk.injEq] at h2
       obtain ⟨rfl,rfl⟩:=h2
       exact ⟨_,rfl,rfl,by omega,run_sliceBound w k m _ _ hb.1 (by omega)⟩
      ·simp at h2
     all_goals simp at h2
    all_goals simp at h2
 obtain ⟨lI,rfl,rfl,q4,q5⟩:=hL
 refine ⟨q4,by omega,fun b cap hc=> ?_⟩
 have q3':=q3 b cap hc
 unfold Instr.sliceBounds
 cases hiv with
 | none=>
  simp only [Sem.run_bind,Sem.run_pure,Result.andThen_ok] at q3' ⊢
  cases q3'
  cases lov with
  | none=>simp only [Sem.run_pure] at q5 ⊢;cases q5;rfl
  | some u=>simp only [Option.isSome_none,Bool.false_eq_true,if_false] at q5 ⊢;simp only [Sem.run_bind,q5,Result.andThen_ok,Sem.run_pure]
 | some v=>
  simp only [Sem.run_bind,Sem.run_pure,Result.andThen_ok] at q3' ⊢
  rw [q3']
  simp only [Result.andThen_ok]
  cases lov with
  | none=>simp only [Sem.run_pure] at q5 ⊢;cases q5;rfl
  | some u=>simp only [Option.isSome_none,Bool.false_eq_true,if_false] at q5 ⊢;simp only [Sem.run_bind,q5,Result.andThen_ok,Sem.run_pure]
theorem RD.piece{e:Sh}{nil:Bool}{es:List D}{u:Value}{l h cap:Nat}{a:Option Addr}{n:Nat}(hr:RD w Y (.sl e nil es) u)(hu:u= .slice a n cap)(h1:l≤h)(h2:h≤es.length):
  RD w Y (.sl e nil ((es.drop l).take (h - l))) (.slice (if cap=l then a else a.map (·.add (l*e.size))) (h - l) (cap - l)):=by
 subst hu
 cases hr with
 | slnil=>
  have h0:h=0:=by simpa using h2
  have l0:l=0:=by omega
  subst h0;subst l0
  simp
  exact .slnil e
 | sl _ _ a _ f hcap hfit hc hh=>
  have hlen:((es.drop l).take (h - l)).length=h - l:=by simp;omega
  by_cases hcl:cap=l
  ·have e0:(es.drop l).take (h - l)=[]:=by apply List.eq_nil_of_length_eq_zero;rw [hlen];omega
   simp only [hcl,if_true]
   rw [e0,show h - l=0 by omega,Nat.sub_self]
   exact .sl e [] a 0 f (by simp) (by simp) (by simp) (by simp)
  ·simp only [hcl,if_false,Option.map_some]
   have:=RD.sl (w:=w) (Y:=Y) e ((es.drop l).take (h - l)) (a.add (l*e.size)) (cap - l) (fun i j=>f (l+i) j) (by rw [hlen];omega)
    (fun x hx=>hfit x (List.mem_of_mem_drop (List.mem_of_mem_take hx))) ?_ ?_
   ·rwa [hlen] at this
   ·intro i x j c hi hj
    have hi':es[l+i]? =some x:=by
     rw [List.getElem?_take] at hi
     split at hi
     ·rwa [List.getElem?_drop] at hi
     ·simp at hi
    obtain ⟨g1,g2,g3⟩:=hc (l+i) x j c hi' hj
    refine ⟨?_,?_,?_⟩
    ·unfold Addr.add;split <;> simpa using g1
    ·unfold Addr.add;split <;> simp [g2]
    ·rw [←g3]
     have:a.off+(l+i)*e.size+j=a.off+l*e.size+i*e.size+j:=by rw [Nat.add_mul];omega
     unfold Addr.add
     split
     ·rename_i h0
      congr 2
      rw [Nat.add_mul,h0];omega
     ·congr 2
      rw [Nat.add_mul];simp only;omega
   ·intro i x j c hi hj
    have hi':es[l+i]? =some x:=by
     rw [List.getElem?_take] at hi
     split at hi
     ·rwa [List.getElem?_drop] at hi
     ·simp at hi
    exact hh (l+i) x j c hi' hj
theorem RVd{x:D}{u:Value}(h:RV w Y β ob (.d x) u):RD w Y x u:=by simpa [RV] using h
theorem slcSV_ok{t:TypeId}{A r:V}{u:Value}{lo hi:Option V}{lov hiv:Option Value}(ht:P.underlying t=some .string)(hA:RV w Y β ob A u)
  (hl:ROp w Y β ob lo lov) (hh:ROp w Y β ob hi hiv) (h:(slcSV lo hi A).eval=some r): ∃z,(Instr.sliceAt t u lov hiv none).run P w= .ok z w∧RV w Y β ob r z:=by
 cases A <;> try (simp [slcSV,Tree.eval] at h;done)
 rename_i x
 cases x <;> try (simp [slcSV,Tree.eval] at h;done)
 rename_i s
 simp only [slcSV] at h
 obtain ⟨⟨l,k⟩,h1,h2⟩:=Tree.bind_eval.1 h
 simp only [Tree.eval,Option.some.injEq] at h2
 subst h2
 cases RVd hA
 obtain ⟨q1,q2,q3⟩:=sliceOf_ok (P:=P) (w:=w) (Y:=Y) (β:=β) (ob:=ob) h1 hl hh
 have hz:(⟨s.toArray⟩:ByteArray).size=s.length:=by simp [ByteArray.size]
 refine ⟨.string ⟨((s.drop l).take (k - l)).toArray⟩,?_,by simp only [RV];exact .str _⟩
 have e:(⟨s.toArray⟩:ByteArray).extract l k=⟨((s.drop l).take (k - l)).toArray⟩:=by
  apply ByteArray.ext
  simp [ByteArray.data_extract,List.extract_eq_take_drop]
 have hb:=q3 false s.length (Nat.le_refl _)
 rw [←hz] at hb
 unfold Instr.sliceAt
 simp only [Sem.run_bind,run_underlying ht,Result.andThen_ok]
 unfold Instr.slice
 simp only [Sem.run_bind,run_underlying ht,Result.andThen_ok,Option.isSome_none,Bool.false_eq_true,if_false]
 simp only [Sem.run_pure,Result.andThen_ok,hb,e]
theorem slice_run{t e:TypeId}{s:Sh}{a:Option Addr}{n cap l h:Nat}{lov hiv:Option Value}(ht:P.underlying t=some (.slice e))(hs:sh P e=some s)
  (hb:(Instr.sliceBounds true n cap lov hiv none).run P w= .ok (l,h,cap) w):
  (Instr.sliceAt t (.slice a n cap) lov hiv none).run P w= .ok (.slice (if cap=l then a else a.map (·.add (l*s.size))) (h - l) (cap - l)) w:=by
 unfold Instr.sliceAt
 simp only [Sem.run_bind,run_underlying ht,Result.andThen_ok]
 unfold Instr.slice
 simp only [Sem.run_bind,run_underlying ht,Result.andThen_ok,hb,sh_size hs,Sem.run_pure]
theorem idx_run{k:IntKind}{i:Int}{u:Value}(h:RD w Y (.int k i) u):(asIntOf u).run P w= .ok (k,i) w:=by
 cases h;simp [asIntOf]
theorem idxOk_iff{i:Int}{n:Nat}(h:idxOk i n=true):0≤i∧i<n∧i.toNat<n:=by
 have:=of_decide_eq_true h
 exact ⟨this.1,this.2,by omega⟩
theorem ixSV_ok{t e:TypeId}{s:Sh}{A B r:V}{u v:Value}(ht:P.underlying t=some (.slice e))(hs:sh P e=some s)(hR:RelO P w X β ob)(hA:RV w (Ys X β ob) β ob A u)
  (hB:RV w (Ys X β ob) β ob B v) (h:(ixSV ob s A B).eval=some r): ∃z,(Instr.indexAt t u v).run P w= .ok z w∧RV w (Ys X β ob) β ob r z:=by
 cases A <;> try (simp [ixSV,Tree.eval] at h;done)
 case d x=>
  cases x <;> try (simp [ixSV,Tree.eval] at h;done)
  rename_i f nl es
  cases B <;> try (simp [ixSV,Tree.eval] at h;done)
  rename_i y
  cases y <;> try (simp [ixSV,Tree.eval] at h;done)
  rename_i k i
  simp only [ixSV] at h
  split at h
  ·rename_i hf
   have hf:=Sh.beq_eq hf
   subst hf
   simp only [Tree.eval] at h
   split at h
   ·rename_i hi
    obtain ⟨h0,h1,h2⟩:=idxOk_iff hi
    simp only [Option.some.injEq] at h
    subst h
    have hd:=RVd hA
    cases hd with
    | slnil=>simp at h2
    | sl _ _ a cap g hcap hfit hc hh=>
     have hx:es[i.toNat]? =some es[i.toNat]:=List.getElem?_eq_getElem h2
     have hfx:=hfit _ (List.getElem_mem h2)
     refine ⟨.pointer (some (a.add (i.toNat*f.size))),?_,?_⟩
     ·unfold Instr.indexAt
      simp only [Sem.run_bind,idx_run (RVd hB),Result.andThen_ok,run_underlying ht,Sem.run_pure]
      simp [h0,h1,sh_size hs]
     ·simp only [RV]
      rw [getD_of_getElem? hx,etaCells_fits hfx]
      refine ⟨_,rfl,fun j c hj=> ?_⟩
      obtain ⟨g1,g2,g3⟩:=hc i.toNat _ j c hx hj
      have hr:=hh i.toNat _ j c hx hj
      unfold Addr.add
      split
      ·rename_i hz
       exact ⟨g1,g2,_,by rw [←g3,hz,Nat.zero_add],hr⟩
      ·exact ⟨g1,rfl,_,by rw [←g3,Nat.add_assoc],hr⟩
   ·simp at h
  ·simp [Tree.eval] at h
 case sla id lo n=>
  cases B <;> try (simp [ixSV,Tree.eval] at h;done)
  rename_i y
  cases y <;> try (simp [ixSV,Tree.eval] at h;done)
  rename_i k i
  simp only [ixSV] at h
  split at h
  ·rename_i f m z es ho
   split at h
   ·rename_i hf
    have hf:=Sh.beq_eq hf
    subst hf
    simp only [Tree.eval] at h
    split at h
    ·rename_i hi
     obtain ⟨h0,h1,h2⟩:=idxOk_iff hi
     simp only [Option.some.injEq] at h
     subst h
     simp only [RV] at hA
     obtain ⟨a,c,rfl,_,hp⟩:=hA
     obtain ⟨rfl,hm⟩:=hp _ _ _ _ ho
     refine ⟨.pointer (some ((⟨(β id).block,lo*f.size,none⟩:Addr).add (i.toNat*f.size))),?_,?_⟩
     ·unfold Instr.indexAt
      simp only [Sem.run_bind,idx_run (RVd hB),Result.andThen_ok,run_underlying ht,Sem.run_pure]
      simp [h0,h1,sh_size hs]
     ·simp only [RV]
      refine ⟨_,rfl,fun e' n' m' z' es' ho'=>(by rw [ho] at ho';cases ho'),fun e' n' z' es' ho'=> ?_⟩
      rw [ho] at ho';cases ho'
      refine ⟨?_,by omega⟩
      rw [add_cell,Nat.add_zero,Nat.add_mul]
    ·simp at h
   ·simp [Tree.eval] at h
  ·simp [Tree.eval] at h
 case own id=>
  cases B <;> try (simp [ixSV,Tree.eval] at h;done)
  rename_i y
  cases y <;> try (simp [ixSV,Tree.eval] at h;done)
  rename_i k i
  simp only [ixSV] at h
  split at h
  ·rename_i f nl m z es ho
   split at h
   ·rename_i hf
    have hf:=Sh.beq_eq hf
    subst hf
    simp only [Tree.eval] at h
    split at h
    ·rename_i hi
     obtain ⟨h0,h1,h2⟩:=idxOk_iff hi
     simp only [Option.some.injEq] at h
     subst h
     simp only [RV] at hA
     obtain ⟨a,n,c,rfl,hp⟩:=hA
     have hp:=hp _ _ _ _ _ ho
     have hro:=hR.obj id _ ho
     cases hb:β id with
     | nil=>rw [hb] at hro;obtain ⟨_,rfl⟩:=hro;simp at h2
     | capless a'=>rw [hb] at hro;obtain ⟨_,rfl⟩:=hro;simp at h2
     | blk b cap=>
      rw [hb] at hp
      simp only [Pl.slice,Value.slice.injEq] at hp
      obtain ⟨rfl,rfl,rfl⟩:=hp
      refine ⟨.pointer (some ⟨b,i.toNat*f.size,none⟩),?_,?_⟩
      ·unfold Instr.indexAt
       simp only [Sem.run_bind,idx_run (RVd hB),Result.andThen_ok,run_underlying ht,Sem.run_pure]
       simp [h0,h1,sh_size hs,add_cell]
      ·simp only [RV]
       refine ⟨_,rfl,fun e' n m z es' ho'=> ?_,fun e' n z es' ho'=> ?_⟩
       ·rw [ho] at ho';cases ho'
        rw [hb];exact ⟨by simp [Pl.block],h2⟩
       ·rw [ho] at ho';cases ho'
    ·simp at h
   ·simp [Tree.eval] at h
  ·simp [Tree.eval] at h
theorem ixStrV_ok{t:TypeId}{A B r:V}{u v:Value}(ht:P.underlying t=some .string)(hA:RV w Y β ob A u)
  (hB:RV w Y β ob B v) (h:(ixStrV A B).eval=some r): ∃z,(Instr.index t u v).run P w= .ok z w∧RV w Y β ob r z:=by
 cases A <;> try (simp [ixStrV,Tree.eval] at h;done)
 rename_i x
 cases x <;> try (simp [ixStrV,Tree.eval] at h;done)
 rename_i s
 cases B <;> try (simp [ixStrV,Tree.eval] at h;done)
 rename_i y
 cases y <;> try (simp [ixStrV,Tree.eval] at h;done)
 rename_i k i
 simp only [ixStrV,Tree.eval] at h
 split at h
 ·rename_i hi
  obtain ⟨h0,h1,h2⟩:=idxOk_iff hi
  simp only [Option.some.injEq] at h
  subst h
  cases RVd hA
  refine ⟨.int .u8 (s.getD i.toNat 0).toNat,?_,by simp only [RV];exact .int _ _⟩
  unfold Instr.index
  simp only [Sem.run_bind,idx_run (RVd hB),Result.andThen_ok,run_underlying ht]
  have hsz:i.toNat<(⟨s.toArray⟩:ByteArray).size:=by simpa [ByteArray.size] using h2
  have:(⟨s.toArray⟩:ByteArray)[i.toNat]? =some s[i.toNat]:=by
   rw [getElem?_pos (⟨s.toArray⟩:ByteArray) i.toNat hsz]
   simp [ByteArray.getElem_eq_getElem_data]
  simp [h0,this,List.getD,h2]
 ·simp at h
theorem lenV_ok{t:TypeId}{k:Nat}{A r:V}{u:Value}{ty:TypeId}(ht:(k=0→P.underlying t=some .string)∧(k=1→ ∃e,P.underlying t=some (.slice e)))(hR:RelO P w X β ob)(hA:RV w (Ys X β ob) β ob A u)
  (h:(lenV ob k A).eval=some r): ∃z,(Builtin.len_ #[t] ty #[u]).run P w= .ok z w∧RV w (Ys X β ob) β ob r z:=by
 cases A <;> try (simp [lenV,Tree.eval] at h;done)
 case d x=>
  cases x <;> try (simp [lenV,Tree.eval] at h;done)
  ·simp only [lenV] at h
   split at h
   ·rename_i hk
    have hu:=ht.1 (Nat.eq_of_beq_eq_true hk)
    simp only [Tree.eval,Option.some.injEq] at h
    subst h
    cases RVd hA
    rename_i s
    refine ⟨.int .i64 s.length,?_,by simp only [RV];exact .int _ _⟩
    have e: ∀b:ByteArray,(Builtin.len_ #[t] ty #[.string b]).run P w= .ok (goInt b.size) w:=fun b=>by simp [Builtin.len_,run_underlying hu]
    have hz:(⟨s.toArray⟩:ByteArray).size=s.length:=by simp [ByteArray.size]
    rw [e,hz];rfl
   ·simp [Tree.eval] at h
  ·simp only [lenV] at h
   split at h
   ·rename_i hk
    obtain ⟨e,hu⟩:=ht.2 (Nat.eq_of_beq_eq_true hk)
    simp only [Tree.eval,Option.some.injEq] at h
    subst h
    rename_i f nl es
    refine ⟨.int .i64 es.length,?_,by simp only [RV];exact .int _ _⟩
    cases RVd hA <;> simp [Builtin.len_,run_underlying hu,goInt]
   ·simp [Tree.eval] at h
 case sla id lo n=>
  simp only [lenV] at h
  split at h
  ·rename_i hk
   obtain ⟨e',hu⟩:=ht.2 (Nat.eq_of_beq_eq_true hk)
   simp only [Tree.eval,Option.some.injEq] at h
   subst h
   simp only [RV] at hA
   obtain ⟨a,c,rfl,_⟩:=hA
   exact ⟨.int .i64 n,by simp [Builtin.len_,run_underlying hu,goInt],by simp only [RV];exact .int _ _⟩
  ·simp [Tree.eval] at h
 case own id=>
  simp only [lenV] at h
  split at h
  ·rename_i e nl m z es ho
   split at h
   ·rename_i hk
    obtain ⟨e',hu⟩:=ht.2 (Nat.eq_of_beq_eq_true hk)
    simp only [Tree.eval,Option.some.injEq] at h
    subst h
    simp only [RV] at hA
    obtain ⟨a,n,c,rfl,hp⟩:=hA
    have hp:=hp _ _ _ _ _ ho
    have hro:=hR.obj id _ ho
    refine ⟨.int .i64 es.length,?_,by simp only [RV];exact .int _ _⟩
    have hn:n=es.length:=by
     cases hb:β id <;> rw [hb] at hp hro <;> simp only [Pl.slice,Value.slice.injEq] at hp
     ·obtain ⟨_,rfl⟩:=hro;exact hp.2.1
     ·obtain ⟨_,rfl⟩:=hro;exact hp.2.1
     ·exact hp.2.1
    simp [Builtin.len_,run_underlying hu,goInt,hn]
   ·simp [Tree.eval] at h
  ·simp [Tree.eval] at h
 case cap0 e=>
  simp only [lenV] at h
  split at h
  ·rename_i hk
   obtain ⟨e',hu⟩:=ht.2 (Nat.eq_of_beq_eq_true hk)
   simp only [Tree.eval,Option.some.injEq] at h
   subst h
   simp only [RV] at hA
   obtain ⟨a,rfl⟩:=hA
   refine ⟨.int .i64 0,?_,by simp only [RV];exact .int _ _⟩
   simp [Builtin.len_,run_underlying hu,goInt]
  ·simp [Tree.eval] at h
theorem ixPV_ok{t e:TypeId}{n:Nat}{s:Sh}{A B r:V}{u v:Value}(ht:P.underlying t=some (.array n e))(hs:sh P e=some s)(hR:RelO P w X β ob)(hA:RV w (Ys X β ob) β ob A u)
  (hB:RV w (Ys X β ob) β ob B v) (h:(ixPV ob s n A B).eval=some r): ∃z,(Instr.indexAt t u v).run P w= .ok z w∧RV w (Ys X β ob) β ob r z:=by
 have run: ∀(a:Addr) (k:IntKind) (i:Int),RD w (Ys X β ob) (.int k i) v→idxOk i n=true→(Instr.indexAt t (.pointer (some a)) v).run P w= .ok (.pointer (some (a.add (i.toNat*s.size)))) w:=by
  intro a k i hv hi
  obtain ⟨h0,h1,h2⟩:=idxOk_iff hi
  unfold Instr.indexAt
  simp only [Sem.run_bind,idx_run hv,Result.andThen_ok,run_underlying ht,Sem.run_pure]
  simp [h0,h1,sh_size hs,Instr.sureAddr]
 cases A <;> try (simp [ixPV,Tree.eval] at h;done)
 case ptr id off=>
  cases B <;> try (simp [ixPV,Tree.eval] at h;done)
  rename_i y
  cases y <;> try (simp [ixPV,Tree.eval] at h;done)
  rename_i k i
  simp only [ixPV] at h
  simp only [RV] at hA
  obtain ⟨a,rfl,ha⟩:=hA
  split at h
  ·rename_i f m z es ho
   split at h
   ·rename_i hc
    simp only [Bool.and_eq_true] at hc
    have hoff:=Nat.eq_of_beq_eq_true hc.1.1
    have hf:=Sh.beq_eq hc.1.2
    have hm:=Nat.eq_of_beq_eq_true hc.2
    subst hoff hf hm
    simp only [Tree.eval] at h
    split at h
    ·rename_i hi
     simp only [Option.some.injEq] at h
     subst h
     have ha:=ha _ ho
     obtain ⟨b,cap,vs,T,fz,hp,_⟩:=hR.obj id _ ho
     rw [hp] at ha
     subst ha
     refine ⟨_,run _ k i (RVd hB) hi,?_⟩
     simp only [RV]
     refine ⟨_,rfl,fun e' n m z es' ho'=>(by rw [ho] at ho';cases ho'),fun e' n z es' ho'=> ?_⟩
     rw [ho] at ho';cases ho'
     rw [hp]
     exact ⟨by simp [Pl.block,add_cell],(idxOk_iff hi).2.2⟩
    ·simp at h
   ·simp [Tree.eval] at h
  ·rename_i cs ho
   simp only [Tree.eval] at h
   split at h
   ·rename_i hi
    simp only [Option.some.injEq] at h
    subst h
    have ha:=ha _ ho
    refine ⟨_,run _ k i (RVd hB) hi,?_⟩
    simp only [RV]
    refine ⟨_,rfl,fun o ho'=> ?_⟩
    rw [ha,add_cell]
   ·simp at h
  ·simp [Tree.eval] at h
 case rp cs=>
  cases B <;> try (simp [ixPV,Tree.eval] at h;done)
  rename_i y
  cases y <;> try (simp [ixPV,Tree.eval] at h;done)
  rename_i k i
  simp only [ixPV,Tree.eval] at h
  split at h
  ·rename_i hi
   simp only [Option.some.injEq] at h
   subst h
   simp only [RV] at hA
   obtain ⟨a,rfl,ha⟩:=hA
   refine ⟨_,run _ k i (RVd hB) hi,?_⟩
   simp only [RV]
   refine ⟨_,rfl,fun j c hj=> ?_⟩
   rw [List.getElem?_drop] at hj
   obtain ⟨g1,g2,q,g3,g4⟩:=ha _ c hj
   unfold Addr.add
   split
   ·rename_i hz
    exact ⟨g1,g2,q,by rw [←g3,hz,Nat.zero_add],g4⟩
   ·exact ⟨g1,rfl,q,by rw [←g3,Nat.add_assoc],g4⟩
  ·simp at h
theorem fitsRep_ok{e:Sh}: ∀{n:Nat} {cs:List D},fitsRep e n cs=true→cs.length=n*e.size∧ ∀i,i<n→fitsL e.leafs ((cs.drop (i*e.size)).take e.size)=true
 | 0,[],_=>by simp
 | 0,_ :: _,h=>by simp [fitsRep] at h
 | n+1,cs,h=>by
  simp only [fitsRep] at h
  split at h
  ·rename_i l hl
   obtain ⟨rfl,hle⟩:=takeN_ok hl
   simp only [Bool.and_eq_true] at h
   obtain ⟨h1,h2⟩:=fitsRep_ok h.2
   refine ⟨by simp at h1;rw [Nat.add_mul];omega,?_⟩
   intro i hi
   cases i with
   | zero=>simpa using h.1
   | succ i=>
    have:=h2 i (by omega)
    rw [List.drop_drop] at this
    rwa [show (i+1)*e.size=e.size+i*e.size by rw [Nat.add_mul];omega]
  ·simp at h
theorem ixArrV_ok{t e:TypeId}{n:Nat}{s:Sh}{A B r:V}{u v:Value}(ht:P.underlying t=some (.array n e))(hs:sh P e=some s)(hsa: ∀D,P.underlying e=some D→(isAggD (some D)=s.isAgg))(hA:RV w Y β ob A u)
  (hB:RV w Y β ob B v) (h:(ixArrV s n A B).eval=some r): ∃z,(Instr.index t u v).run P w= .ok z w∧RV w Y β ob r z:=by
 cases A <;> try (simp [ixArrV,Tree.eval] at h;done)
 rename_i x
 cases x <;> try (simp [ixArrV,Tree.eval] at h;done)
 rename_i cs
 cases B <;> try (simp [ixArrV,Tree.eval] at h;done)
 rename_i y
 cases y <;> try (simp [ixArrV,Tree.eval] at h;done)
 rename_i k i
 simp only [ixArrV] at h
 split at h
 ·rename_i hfr
  obtain ⟨hl,hfit⟩:=fitsRep_ok hfr
  simp only [Tree.eval] at h
  split at h
  ·rename_i hi
   obtain ⟨h0,h1,h2⟩:=idxOk_iff hi
   simp only [Option.some.injEq] at h
   subst h
   cases RVd hA with
   | agg _ vs hlen hv=>
   obtain ⟨hsz,_,_,hsh⟩:=sh_ok hs
   obtain ⟨Td,hD⟩:=shT_some hsh
   have hag:=hsa Td hD
   have hle:i.toNat*s.size+s.size≤vs.length:=by
    rw [←hlen,hl,show i.toNat*s.size+s.size=(i.toNat+1)*s.size by rw [Nat.add_mul];omega]
    exact Nat.mul_le_mul_right _ h2
   have h1':isAggD (some Td)=false→P.cellsOf e=1:=by
    intro hf;rw [hsz];rw [hag] at hf
    cases s <;> simp_all [Sh.isAgg,Sh.size,Sh.leafs]
   refine ⟨mkV P e ((vs.drop (i.toNat*s.size)).take s.size),?_,?_⟩
   ·unfold Instr.index
    simp only [Sem.run_bind,idx_run (RVd hB),Result.andThen_ok,run_underlying ht]
    have hp:=part_run (P:=P) (w:=w) (cs:=vs) (off:=i.toNat*s.size) hD (by rw [hsz];exact hle) h1'
    rw [hsz] at hp
    rw [if_pos ⟨h0,h1⟩]
    simp only [Sem.run_bind,sh_size hs,Result.andThen_ok,hp]
   ·have hr:RDs w Y ((cs.drop (i.toNat*s.size)).take s.size) ((vs.drop (i.toNat*s.size)).take s.size):=(RDs.drop ⟨hlen,hv⟩ _).take _
    have hf:=hfit i.toNat h2
    simp only [mkV,hD,hag]
    cases s with
    | agg fs=>
     simp only [Sh.isAgg,if_true,RV]
     have e1:etaL fs (cs.drop (i.toNat*fs.length))=(cs.drop (i.toNat*fs.length)).take fs.length:=by
      have key: ∀(fs:List Sh) (l:List D),fitsL fs (l.take fs.length)=true→etaL fs l=l.take fs.length:=by
       intro fs
       induction fs with
       | nil=>intro l _;simp [etaL]
       | cons f fs ih=>
        intro l hl
        cases l with
        | nil=>simp [fitsL] at hl
        | cons c l=>
         simp only [List.length_cons,List.take_succ_cons,fitsL,Bool.and_eq_true] at hl
         simp [etaL,etaLeaf_fits hl.1,ih l hl.2]
      exact key fs _ hf
     rw [e1]
     exact .agg _ _ hr.1 hr.2
    | _=>
     simp only [Sh.isAgg,Bool.false_eq_true,if_false,RV]
     simp only [Sh.size,Sh.leafs,List.length_singleton,Nat.mul_one] at hf hr hle ⊢
     have hlt:i.toNat<cs.length:=by omega
     have hlt':i.toNat<vs.length:=by omega
     rw [List.drop_eq_getElem_cons hlt,List.drop_eq_getElem_cons hlt'] at hr
     rw [List.drop_eq_getElem_cons hlt] at hf
     rw [List.drop_eq_getElem_cons hlt']
     simp only [List.take_succ_cons,List.take_zero,fitsL,Bool.and_true] at hf
     rw [getD_of_getElem? (List.getElem?_eq_getElem hlt),etaLeaf_fits hf]
     exact hr.2 0 cs[i.toNat] vs[i.toNat] rfl rfl
  ·simp at h
 ·simp [Tree.eval] at h
end
theorem get_freeze: ∀(l:List Nat) (ob:Obs) (i:Nat),(ob.freeze l).get i=if i∈l then (ob.get i).map Obj.freeze else ob.get i
 | [],ob,i=>by simp [Obs.freeze]
 | j :: l,ob,i=>by
  have hff: ∀o:AM.Obj,o.freeze.freeze=o.freeze:=fun o=>by cases o <;> rfl
  simp only [Obs.freeze]
  split
  ·rename_i o ho
   rw [get_freeze l,get_set]
   by_cases hij:i=j
   ·subst hij
    simp only [if_true,ho,Option.map_some,List.mem_cons,true_or]
    split <;> simp [hff]
   ·simp [hij]
  ·rename_i ho
   rw [get_freeze l]
   by_cases hij:i=j
   ·subst hij
    simp [ho]
   ·simp [hij]
theorem freeze_like(o:AM.Obj):o.like o.freeze:=by cases o <;> simp [Obj.like,Obj.freeze]
section
variable {P:Program} {w:World} {X Y:Nat→Prop} {β:Nat→Pl} {ob:Obs}
theorem freeze_owned{l:List Nat}{b:Nat}(h:Owned β (ob.freeze l) b):Owned β ob b:=by
 obtain ⟨i,o,cap,hg,hf,hp⟩:=h
 rw [get_freeze] at hg
 split at hg
 ·cases hgi:ob.get i with
  | none=>simp [hgi] at hg
  | some o'=>
   simp only [hgi,Option.map_some,Option.some.injEq] at hg
   subst hg
   refine ⟨i,o',cap,hgi,?_,hp⟩
   cases o' <;> simp_all [Obj.freeze,Obj.frozen]
 ·exact ⟨i,o,cap,hg,hf,hp⟩
theorem freeze_ys{l:List Nat}{b:Nat}(h:Ys X β (ob.freeze l) b):Ys X β ob b:=h.imp id freeze_owned
theorem freeze_old{l:List Nat}{i:Nat}{o:AM.Obj}(h:(ob.freeze l).get i=some o): ∃p,ob.get i=some p∧(o.frozen=false→p.frozen=false):=by
 rw [get_freeze] at h
 split at h
 ·cases hgi:ob.get i with
  | none=>simp [hgi] at h
  | some p=>
   simp only [hgi,Option.map_some,Option.some.injEq] at h
   subst h
   refine ⟨p,rfl,fun hf=> ?_⟩
   cases p <;> simp_all [Obj.freeze,Obj.frozen]
 ·exact ⟨o,h,id⟩
theorem freeze_stays(l m:List Nat):Stays β β ob (ob.freeze l) m:=by
 intro i _ o' ho'
 rw [get_freeze] at ho'
 split at ho'
 ·cases hgi:ob.get i with
  | none=>simp [hgi] at ho'
  | some o=>
   simp only [hgi,Option.map_some,Option.some.injEq] at ho'
   subst ho'
   exact ⟨o,rfl,rfl,freeze_like o⟩
 ·exact ⟨o',ho',rfl,Obj.like_refl _⟩
theorem RVL.freeze{vs:List V}{us:List Value}(h:RVL w (Ys X β ob) β ob vs us)(l:List Nat):RVL w (Ys X β (ob.freeze l)) β (ob.freeze l) vs us:=
 RVL.mono (fun _ _ _=>rfl) (fun _ _=>freeze_ys) vs us (freeze_stays l _) h
theorem RV.freeze{v:V}{u:Value}(h:RV w (Ys X β ob) β ob v u)(l:List Nat):RV w (Ys X β (ob.freeze l)) β (ob.freeze l) v u:=
 RV.mono (fun _ _ _=>rfl) (fun _ _=>freeze_ys) v u (freeze_stays l _) h
theorem RelO.freeze(h:RelO P w X β ob)(l:List Nat):RelO P w X β (ob.freeze l) where
 tab:=h.tab.keep (Nat.le_refl _) (fun _ _ _=>rfl) (fun _ _=>freeze_ys)
 obj:=by
  intro i o hg
  have key: ∃o',ob.get i=some o'∧(o=o'∨o=o'.freeze):=by
   rw [get_freeze] at hg
   split at hg
   ·cases hgi:ob.get i with
    | none=>simp [hgi] at hg
    | some o'=>
     simp only [hgi,Option.map_some,Option.some.injEq] at hg
     exact ⟨o',rfl,.inr hg.symm⟩
   ·exact ⟨o,hg,.inl rfl⟩
  obtain ⟨o',ho',he⟩:=key
  have hm:=(h.obj i o' ho').mono (Y':=Ys X β (ob.freeze l)) (β':=β) (ob':=ob.freeze l) (fun _ _ _=>rfl) (fun _ _=>freeze_ys) (fun _ _ _=>rfl) (freeze_stays l _)
  rcases he with rfl | rfl
  ·exact hm
  ·cases o' <;> exact hm
 inj:=by
  intro i j o1 o2 b c1 c2 h1 h2 h3 h4 hf
  obtain ⟨p1,g1,gf⟩:=freeze_old h1
  obtain ⟨p2,g2,_⟩:=freeze_stays (β:=β) (ob:=ob) l [j] j (by simp) o2 h2
  exact h.inj i j p1 p2 b c1 c2 g1 g2 h3 h4 (gf hf)
 notX:=by
  intro i o b c h1 h2
  obtain ⟨p1,g1,_⟩:=freeze_stays (β:=β) (ob:=ob) l [i] i (by simp) o h1
  exact h.notX i p1 b c g1 h2
 xlt:=h.xlt
theorem Rel.freeze{fr:List V}{a:Act}(h:Rel P w X β ⟨fr,ob⟩ a)(l:List Nat):Rel P w X β ⟨fr,ob.freeze l⟩ a:=
 ⟨h.ob.freeze l,h.fr.freeze l,h.df⟩
theorem freeze_stay(l:List Nat):Stay β β ob (ob.freeze l):=by
 intro id o' _ hg hm
 rw [get_freeze] at hg
 split at hg
 ·cases hgi:ob.get id with
  | none=>simp [hgi] at hg
  | some o=>
   simp only [hgi,Option.map_some,Option.some.injEq] at hg
   subst hg
   exact ⟨o,rfl,by cases o <;> exact hm,rfl,freeze_like o⟩
 ·exact ⟨o',hg,hm,rfl,like_refl _⟩
theorem OwnIn.freeze(l:List Nat):OwnIn w β β ob (ob.freeze l):=fun _ h=> .inl (freeze_owned h)
theorem own_data{l:List Nat}{id:Nat}{e:Sh}{n m z:Bool}{es:List D}{u:Value}(hR:RelO P w X β ob)(ho:ob.get id=some (.lst e n m z es))(hl:id∈l)
  (h:RV w (Ys X β ob) β ob (.own id) u):RD w (Ys X β (ob.freeze l)) (.sl e n es) u:=by
 simp only [RV] at h
 obtain ⟨a,k,c,rfl,hp⟩:=h
 have hp:=hp _ _ _ _ _ ho
 have hro:=hR.obj id _ ho
 cases hb:β id with
 | nil=>
  rw [hb] at hp hro
  obtain ⟨rfl,rfl⟩:=hro
  simp only [Pl.slice] at hp
  rw [hp];exact .slnil e
 | capless a'=>
  rw [hb] at hp hro
  obtain ⟨rfl,rfl⟩:=hro
  simp only [Pl.slice] at hp
  rw [hp];exact .sl e [] a' 0 (fun _ _=>undef) (by simp) (by simp) (by simp) (by simp)
 | blk b cap=>
  rw [hb] at hp hro
  obtain ⟨rfl,hcap,vs,T,fz,hh,hf,hc,hl'⟩:=hro
  simp only [Pl.slice] at hp
  rw [hp]
  have hY: ¬Ys X β (ob.freeze l) b:=by
   rintro (hx | ⟨i,o,c',hg,hfr,hpl⟩)
   ·exact hR.notX id _ b cap ho hb hx
   ·obtain ⟨p1,g1,gf⟩:=freeze_old hg
    have:i=id:=hR.inj i id p1 _ b c' cap g1 ho hpl hb (gf hfr)
    subst this
    rw [get_freeze,if_pos hl,ho] at hg
    simp only [Option.map_some,Option.some.injEq,Obj.freeze] at hg
    subst hg
    simp [Obj.frozen] at hfr
  have hl2:=hl'.mono (w':=w) (Y':=Ys X β (ob.freeze l)) (fun _ _ _=>rfl) (fun _ _=>freeze_ys)
  refine .sl e es ⟨b,0,none⟩ cap (fun i j=>vs.getD (i*e.size+j) undef) hcap hl2.1 ?_ ?_
  ·intro i x j c hi hj
   obtain ⟨u,hu,_⟩:=hl2.2 i x j c hi hj
   refine ⟨hY,rfl,?_⟩
   rw [Nat.zero_add,cell_of_row w b _ vs T fz hh,hu]
   simp [Array.getD_eq_getD_getElem?,hu]
  ·intro i x j c hi hj
   obtain ⟨u,hu,hr⟩:=hl2.2 i x j c hi hj
   simpa [Array.getD_eq_getD_getElem?,hu] using hr
theorem dat1_ok{v:V}{x:D}{l m:List Nat}{u:Value}(hR:RelO P w X β ob)(h:dat1 ob v=some (x,l))(hl: ∀i∈l,i∈m)(hv:RV w (Ys X β ob) β ob v u):RD w (Ys X β (ob.freeze m)) x u:=by
 cases v <;> try (simp [dat1] at h;done)
 case d y=>
  simp only [dat1,Option.some.injEq,Prod.mk.injEq] at h
  obtain ⟨rfl,rfl⟩:=h
  exact (RVd hv).mono (fun _ _ _=>rfl) (fun _ _=>freeze_ys)
 case own id=>
  simp only [dat1] at h
  split at h
  ·rename_i e n mv z es ho
   simp only [Option.some.injEq,Prod.mk.injEq] at h
   obtain ⟨rfl,rfl⟩:=h
   exact own_data hR ho (hl id (by simp)) hv
  ·simp at h
 case cap0 e=>
  simp only [dat1,Option.some.injEq,Prod.mk.injEq] at h
  obtain ⟨rfl,rfl⟩:=h
  simp only [RV] at hv
  obtain ⟨a,rfl⟩:=hv
  exact .sl e [] a 0 (fun _ _=>undef) (by simp) (by simp) (by simp) (by simp)
theorem datL_ok: ∀{vs:List V} {xs:List D} {l m:List Nat} {us:List Value},RelO P w X β ob→datL ob vs=some (xs,l)→(∀i∈l,i∈m)→RVL w (Ys X β ob) β ob vs us→RDs w (Ys X β (ob.freeze m)) xs us
 | [],xs,l,m,us,hR,h,hl,hv=>by
  simp only [datL,Option.some.injEq,Prod.mk.injEq] at h
  obtain ⟨rfl,rfl⟩:=h
  cases us <;> simp [RVL] at hv
  exact ⟨rfl,fun j c v h=>by simp at h⟩
 | v :: vs,xs,l,m,us,hR,h,hl,hv=>by
  simp only [datL] at h
  split at h
  ·rename_i x l1 xs1 l2 h1 h2
   simp only [Option.some.injEq,Prod.mk.injEq] at h
   obtain ⟨rfl,rfl⟩:=h
   cases us with
   | nil=>simp [RVL] at hv
   | cons u us=>
    simp only [RVL] at hv
    have hx:=dat1_ok hR h1 (fun i hi=>hl i (List.mem_append_left _ hi)) hv.1
    obtain ⟨q1,q2⟩:=datL_ok hR h2 (fun i hi=>hl i (List.mem_append_right _ hi)) hv.2
    refine ⟨by simp [q1],fun j c z hc hz=> ?_⟩
    cases j with
    | zero=>simp at hc hz;subst hc;subst hz;exact hx
    | succ j=>exact q2 j c z (by simpa using hc) (by simpa using hz)
  ·simp at h
theorem dat_ok{v:V}{x:D}{l m:List Nat}{u:Value}(hR:RelO P w X β ob)(h:dat ob v=some (x,l))(hl: ∀i∈l,i∈m)(hv:RV w (Ys X β ob) β ob v u):RD w (Ys X β (ob.freeze m)) x u:=by
 unfold dat at h
 split at h
 ·rename_i cs
  split at h
  ·rename_i xs l' hx
   simp only [Option.some.injEq,Prod.mk.injEq] at h
   obtain ⟨rfl,rfl⟩:=h
   simp only [RV] at hv
   obtain ⟨vs,rfl,hv⟩:=hv
   obtain ⟨q1,q2⟩:=datL_ok hR hx hl hv
   exact .agg xs vs.toList q1 q2
  ·simp at h
 ·exact dat1_ok hR h hl hv
theorem oneCell_d{x:D}{u:Value}(h:RD w Y x u)(hx: ∀cs,x≠ .agg cs):u.oneCell'=true∧u.cells= #[u]:=by
 cases h <;> first | exact ⟨rfl,rfl⟩ | exact (hx _ rfl).elim
theorem noAny_one: ∀{vs:List V} {us:List Value},noAny vs=true→RVL w Y β ob vs us→ ∀u∈us,u.oneCell'=true
 | [],[],_,_,u,hu=>by simp at hu
 | [],_ :: _,_,h,_,_=>by simp [RVL] at h
 | _ :: _,[],_,h,_,_=>by simp [RVL] at h
 | v :: vs,z :: us,hn,h,u,hu=>by
  simp only [RVL] at h
  have key:v≠ .any→(∀cs,v≠ .agg cs)→(∀cs,v≠ .tup cs)→(∀cs,v≠ .d (.agg cs))→z.oneCell'=true:=by
   intro h1 h2 h3 h4
   have hz:=h.1
   cases v <;> simp only [RV] at hz
   case any=>exact (h1 rfl).elim
   case agg cs=>exact (h2 _ rfl).elim
   case tup cs=>exact (h3 _ rfl).elim
   case d x=>exact (oneCell_d hz fun cs hc=>h4 cs (by rw [hc])).1
   case ptr=>obtain ⟨a,rfl,_⟩:=hz;rfl
   case ep=>obtain ⟨a,rfl,_⟩:=hz;rfl
   case sla=>obtain ⟨a,c,rfl,_⟩:=hz;rfl
   case rp=>obtain ⟨a,rfl,_⟩:=hz;rfl
   case own=>obtain ⟨a,n,c,rfl,_⟩:=hz;rfl
   case cap0=>obtain ⟨a,rfl⟩:=hz;rfl
   case mp=>obtain ⟨r,rfl,_⟩:=hz;rfl
   case yl=>obtain ⟨r,rfl,_⟩:=hz;rfl
   case fn=>obtain ⟨a,b,rfl,_⟩:=hz;rfl
   case ifc=>obtain ⟨a,rfl,_⟩:=hz;rfl
  have hv:v≠ .any∧(∀cs,v≠ .agg cs)∧(∀cs,v≠ .tup cs)∧(∀cs,v≠ .d (.agg cs))∧noAny vs=true:=by
   cases v <;> simp_all [noAny]
   rename_i x
   cases x <;> simp_all [noAny]
  rcases List.mem_cons.1 hu with rfl | hu
  ·exact key hv.1 hv.2.1 hv.2.2.1 hv.2.2.2.1
  ·exact noAny_one hv.2.2.2.2 h.2 u hu
theorem cells_ok{v:V}{u:Value}(h:RV w Y β ob v u)(hn:noAny v.cells=true):RVL w Y β ob v.cells u.cells.toList∧ ∀x∈u.cells.toList,x.oneCell'=true:=by
 have main:RVL w Y β ob v.cells u.cells.toList:=by
  cases v <;> simp only [RV] at h
  case any=>simp [V.cells,noAny] at hn
  case tup=>simp [V.cells,noAny] at hn
  case agg cs=>obtain ⟨vs,rfl,h⟩:=h;exact h
  case d x=>
   cases x
   case agg cs=>
    cases h with
    | agg _ vs hl hv=>simpa [V.cells,D.cells,Value.cells] using RVL.map_d hl hv
   all_goals
    have hc:=(oneCell_d h (by intro cs hc;cases hc)).2
    rw [hc]
    simp only [V.cells,D.cells,List.map_cons,List.map_nil,RVL,RV,and_true]
    exact h
  case ptr=>obtain ⟨a,rfl,h⟩:=h;simp only [V.cells,Value.cells,RVL,RV];exact ⟨⟨a,rfl,h⟩,trivial⟩
  case ep=>obtain ⟨a,rfl,h⟩:=h;simp only [V.cells,Value.cells,RVL,RV];exact ⟨⟨a,rfl,h⟩,trivial⟩
  case sla=>obtain ⟨a,c,rfl,h⟩:=h;simp only [V.cells,Value.cells,RVL,RV];exact ⟨⟨a,c,rfl,h⟩,trivial⟩
  case rp=>obtain ⟨a,rfl,h⟩:=h;simp only [V.cells,Value.cells,RVL,RV];exact ⟨⟨a,rfl,h⟩,trivial⟩
  case own=>obtain ⟨a,n,c,rfl,h⟩:=h;simp only [V.cells,Value.cells,RVL,RV];exact ⟨⟨a,n,c,rfl,h⟩,trivial⟩
  case cap0=>obtain ⟨a,rfl⟩:=h;simp only [V.cells,Value.cells,RVL,RV];exact ⟨⟨a,rfl⟩,trivial⟩
  case mp=>obtain ⟨r,rfl,h⟩:=h;simp only [V.cells,Value.cells,RVL,RV];exact ⟨⟨r,rfl,h⟩,trivial⟩
  case yl=>obtain ⟨r,rfl,h⟩:=h;simp only [V.cells,Value.cells,RVL,RV];exact ⟨⟨r,rfl,h⟩,trivial⟩
  case fn=>obtain ⟨a,b,rfl,h⟩:=h;simp only [V.cells,Value.cells,RVL,RV];exact ⟨⟨a,b,rfl,h⟩,trivial⟩
  case ifc=>obtain ⟨a,rfl,h⟩:=h;simp only [V.cells,Value.cells,RVL,RV];exact ⟨⟨a,rfl,h⟩,trivial⟩
 exact ⟨main,noAny_one hn main⟩
end
theorem sub_frozen(r:Nat→Option V)(o:AM.Obj):(o.sub r).frozen=o.frozen:=by cases o <;> rfl
theorem sub_like(r:Nat→Option V)(o:AM.Obj):o.like (o.sub r):=by cases o <;> simp [Obj.like,Obj.sub]
def putPl(β:Nat→Pl)(id:Nat)(p:Pl):Nat→Pl:=fun i=>if i=id then p else β i
section
variable {P:Program} {w w':World} {X Y:Nat→Prop} {β:Nat→Pl} {ob:Obs} {fr:List V} {a:Act}
theorem sub_owned{r:Nat→Option V}{b:Nat}:Owned β (ob.sub r) b↔Owned β ob b:=by
 constructor
 ·rintro ⟨i,o,cap,hg,hf,hp⟩
  rw [get_sub] at hg
  cases hgi:ob.get i with
  | none=>simp [hgi] at hg
  | some o'=>
   simp only [hgi,Option.map_some,Option.some.injEq] at hg
   subst hg
   exact ⟨i,o',cap,hgi,by rw [sub_frozen] at hf;exact hf,hp⟩
 ·rintro ⟨i,o,cap,hg,hf,hp⟩
  exact ⟨i,o.sub r,cap,by rw [get_sub,hg];rfl,by rw [sub_frozen];exact hf,hp⟩
theorem sub_ys{r:Nat→Option V}{b:Nat}:Ys X β (ob.sub r) b↔Ys X β ob b:=by
 unfold Ys;rw [sub_owned]
theorem sub_old{r:Nat→Option V}{i:Nat}{o:AM.Obj}(h:(ob.sub r).get i=some o): ∃p,ob.get i=some p∧(o.frozen=false→p.frozen=false):=by
 rw [get_sub] at h
 cases hgi:ob.get i with
 | none=>simp [hgi] at h
 | some p=>
  simp only [hgi,Option.map_some,Option.some.injEq] at h
  subst h
  exact ⟨p,rfl,fun hf=>by rw [sub_frozen] at hf;exact hf⟩
theorem sub_stays(r:Nat→Option V)(l:List Nat):Stays β β ob (ob.sub r) l:=by
 intro i _ o' ho'
 rw [get_sub] at ho'
 cases hgi:ob.get i with
 | none=>simp [hgi] at ho'
 | some o=>
  simp only [hgi,Option.map_some,Option.some.injEq] at ho'
  subst ho'
  exact ⟨o,rfl,rfl,sub_like r o⟩
theorem RVL.kill{vs:List V}{us:List Value}(h:RVL w (Ys X β ob) β ob vs us)(l:List Nat):
  RVL w (Ys X β (ob.sub (killOf l))) β (ob.sub (killOf l)) (V.subL (killOf l) vs) us:=
 V.killL_rel l _ _ (RVL.mono (fun _ _ _=>rfl) (fun _ _=>sub_ys.1) vs us (sub_stays _ _) h)
theorem RV.kill{v:V}{u:Value}(h:RV w (Ys X β ob) β ob v u)(l:List Nat):
  RV w (Ys X β (ob.sub (killOf l))) β (ob.sub (killOf l)) (v.sub (killOf l)) u:=
 V.kill_rel l _ _ (RV.mono (fun _ _ _=>rfl) (fun _ _=>sub_ys.1) v u (sub_stays _ _) h)
theorem RelO.kill(h:RelO P w X β ob)(l:List Nat):RelO P w X β (ob.sub (killOf l)) where
 tab:=h.tab.keep (Nat.le_refl _) (fun _ _ _=>rfl) (fun _ _=>sub_ys.1)
 obj:=by
  intro i o hg
  rw [get_sub] at hg
  cases hgi:ob.get i with
  | none=>simp [hgi] at hg
  | some o'=>
   simp only [hgi,Option.map_some,Option.some.injEq] at hg
   subst hg
   have hm:=(h.obj i o' hgi).mono (w':=w) (Y':=Ys X β (ob.sub (killOf l))) (β':=β) (ob':=ob.sub (killOf l)) (fun _ _ _=>rfl) (fun _ _=>sub_ys.1) (fun _ _ _=>rfl) (sub_stays _ _)
   cases o' with
   | box cs=>
    obtain ⟨b,cap,vs,T,fz,h1,h2,h3,h4⟩:=hm
    exact ⟨b,cap,vs,T,fz,h1,h2,h3,V.killL_rel l _ _ h4⟩
   | lst e n m z es=>exact hm
   | arr e n z es=>exact hm
   | map ks vs kv=>exact hm
   | sit s pos=>exact hm
   | loop ps ac cc fr s pe=>
    obtain ⟨b,cap,rec,h1,h2,h3,h4,h5⟩:=hm
    exact ⟨b,cap,rec,h1,h2,h3,h4,V.killL_rel l _ _ h5⟩
 inj:=by
  intro i j o1 o2 b c1 c2 h1 h2 h3 h4 hf
  obtain ⟨p1,g1,gf⟩:=sub_old h1
  obtain ⟨p2,g2,_⟩:=sub_stays (β:=β) (ob:=ob) (killOf l) [j] j (by simp) o2 h2
  exact h.inj i j p1 p2 b c1 c2 g1 g2 h3 h4 (gf hf)
 notX:=by
  intro i o b c h1 h2
  obtain ⟨p1,g1,_⟩:=sub_stays (β:=β) (ob:=ob) (killOf l) [i] i (by simp) o h1
  exact h.notX i p1 b c g1 h2
 xlt:=h.xlt
theorem Rel.kill{st:St}(h:Rel P w X β st a)(l:List Nat):Rel P w X β (st.kill l) a:=by
 obtain ⟨f,o⟩:=st
 cases l with
 | nil=>exact h
 | cons i l=>exact ⟨h.ob.kill _,h.fr.kill _,h.df⟩
theorem put_stay{id:Nat}{o:AM.Obj}{p:Pl}(h:64≤id∨o.moved=true):Stay β (putPl β id p) ob ((ob.set id o).sub (killOf [id])):=by
 intro i o' hi hg hm
 rw [get_sub,get_set] at hg
 split at hg
 ·rename_i he
  subst he
  simp only [Option.map_some,Option.some.injEq] at hg
  subst hg
  rcases h with h | h
  ·omega
  ·cases o <;> simp [Obj.moved,Obj.sub] at h hm
   simp [h] at hm
 ·rename_i he
  cases hgi:ob.get i with
  | none=>simp [hgi] at hg
  | some o2=>
   simp only [hgi,Option.map_some,Option.some.injEq] at hg
   subst hg
   exact ⟨o2,rfl,by cases o2 <;> exact hm,by simp [putPl,he],sub_like _ _⟩
theorem set_stay{id:Nat}{o o':AM.Obj}(ho:ob.get id=some o')(hlike:o'.like o)(hm:o'.moved=o.moved):Stay β β ob (ob.set id o):=by
 intro i o2 _ hg hmv
 rw [get_set] at hg
 split at hg
 ·rename_i he
  subst he
  cases hg
  exact ⟨o',ho,by rw [hm];exact hmv,rfl,hlike⟩
 ·exact ⟨o2,hg,hmv,rfl,like_refl _⟩
theorem good_put0{id:Nat}{o:AM.Obj}{p:Pl}(hr:Rel P w X β ⟨fr,ob⟩ a)(hsz:Grew w w')
  (hheap: ∀b,b<w.heap.size→ ¬Ch β ob id b→w'.heap[b]? =w.heap[b]?)
  (hnew: ∀b cap,p= .blk b cap→b<w.heap.size→ ∃cap' o',ob.get id=some o'∧β id= .blk b cap'∧(o.frozen=false→o'.frozen=false))
  (hro:(∀vs us,RVL w (Ys X β ob) β ob vs us→RVL w' (Ys X (putPl β id p) ((ob.set id o).sub (killOf [id]))) (putPl β id p) ((ob.set id o).sub (killOf [id])) (V.subL (killOf [id]) vs) us)→
   (∀x u,RD w (Ys X β ob) x u→RD w' (Ys X (putPl β id p) ((ob.set id o).sub (killOf [id]))) x u)→
   RO P w' (Ys X (putPl β id p) ((ob.set id o).sub (killOf [id]))) (putPl β id p) ((ob.set id o).sub (killOf [id])) p (o.sub (killOf [id]))):
  Rel P w' X (putPl β id p) (St.kill [id] ⟨fr,ob.set id o⟩) a∧Keep (Owned β ob) w w'∧OwnIn w β (putPl β id p) ob ((ob.set id o).sub (killOf [id]))∧
  ∀vs us,RVL w (Ys X β ob) β ob vs us→RVL w' (Ys X (putPl β id p) ((ob.set id o).sub (killOf [id]))) (putPl β id p) ((ob.set id o).sub (killOf [id])) (V.subL (killOf [id]) vs) us:=by
 have hk:=hr.kill [id]
 have u:Upd w w' X β (putPl β id p) (ob.sub (killOf [id])) ((ob.set id o).sub (killOf [id])) id (o.sub (killOf [id])):=by
  refine ⟨?_,?_,hsz,?_,?_⟩
  ·intro i
   rw [get_sub,get_set,get_sub]
   split <;> simp
  ·intro i hi;simp [putPl,hi]
  ·intro b hb hn
   refine hheap b hb fun hc=>hn ?_
   obtain ⟨o',cap,h1,h2,h3⟩:=hc
   exact ⟨o'.sub _,cap,by rw [get_sub,h1];rfl,by rw [sub_frozen];exact h2,h3⟩
  ·intro b cap hp hb
   simp only [putPl,if_true] at hp
   obtain ⟨cap',o',h1,h2,h3⟩:=hnew b cap hp hb
   exact ⟨cap',o'.sub _,by rw [get_sub,h1];rfl,h2,by rw [sub_frozen,sub_frozen];exact h3⟩
 have hvs: ∀vs us,RVL w (Ys X β ob) β ob vs us→RVL w' (Ys X (putPl β id p) ((ob.set id o).sub (killOf [id]))) (putPl β id p) ((ob.set id o).sub (killOf [id])) (V.subL (killOf [id]) vs) us:=by
  intro vs us h
  exact RVL.mono u.same u.ys _ _ (u.stays (.inr (V.killL_ids [id] vs id (by simp)))) (h.kill [id])
 have hd: ∀x u',RD w (Ys X β ob) x u'→RD w' (Ys X (putPl β id p) ((ob.set id o).sub (killOf [id]))) x u':=by
  intro x u' h
  refine (h.mono (w':=w) (Y':=Ys X β (ob.sub (killOf [id]))) (fun _ _ _=>rfl) (fun _ _=>sub_ys.1)).mono u.same u.ys
 refine ⟨⟨u.relO hk.ob ?_ ?_,hvs _ _ hr.fr,hr.df.keep hr.ob (u.keep.mono fun b _ h=>sub_owned.1 h)⟩,?_,?_,hvs⟩
 ·simp only [putPl,if_true];exact hro hvs hd
 ·intro i q hi hg
  refine .inr ?_
  rw [get_sub] at hg
  cases hgi:ob.get i with
  | none=>simp [hgi] at hg
  | some o'=>
   simp only [hgi,Option.map_some,Option.some.injEq] at hg
   subst hg
   cases o' <;> simp only [Obj.sub,Obj.ids,List.not_mem_nil,not_false_eq_true]
   ·exact V.killL_ids [id] _ id (by simp)
   ·exact V.killL_ids [id] _ id (by simp)
 ·exact u.keep.mono fun b _ h=>sub_owned.1 h
 ·intro b h
  rcases u.ownIn b h with h | h
  ·exact .inl (sub_owned.1 h)
  ·exact .inr h
theorem good_put{id:Nat}{o:AM.Obj}{p:Pl}(hr:Rel P w X β ⟨fr,ob⟩ a)(hmv:64≤id∨o.moved=true)(hsz:Grew w w')
  (hheap: ∀b,b<w.heap.size→ ¬Ch β ob id b→w'.heap[b]? =w.heap[b]?)
  (hnew: ∀b cap,p= .blk b cap→b<w.heap.size→ ∃cap' o',ob.get id=some o'∧β id= .blk b cap'∧(o.frozen=false→o'.frozen=false))
  (hro:(∀vs us,RVL w (Ys X β ob) β ob vs us→RVL w' (Ys X (putPl β id p) ((ob.set id o).sub (killOf [id]))) (putPl β id p) ((ob.set id o).sub (killOf [id])) (V.subL (killOf [id]) vs) us)→
   (∀x u,RD w (Ys X β ob) x u→RD w' (Ys X (putPl β id p) ((ob.set id o).sub (killOf [id]))) x u)→
   RO P w' (Ys X (putPl β id p) ((ob.set id o).sub (killOf [id]))) (putPl β id p) ((ob.set id o).sub (killOf [id])) p (o.sub (killOf [id]))):
  Rel P w' X (putPl β id p) (St.kill [id] ⟨fr,ob.set id o⟩) a∧Keep (Owned β ob) w w'∧OwnIn w β (putPl β id p) ob ((ob.set id o).sub (killOf [id]))∧Stay β (putPl β id p) ob ((ob.set id o).sub (killOf [id])):=by
 obtain ⟨h1,h2,h3,_⟩:=good_put0 hr hsz hheap hnew hro
 exact ⟨h1,h2,h3,put_stay hmv⟩
theorem good_set{id:Nat}{o o':AM.Obj}(hr:Rel P w X β ⟨fr,ob⟩ a)(ho:ob.get id=some o')(hlike:o'.like o)(hmv:o'.moved=o.moved)(hfr:o'.frozen=false)(hsz:Grew w w')
  (hheap: ∀b,b<w.heap.size→ ¬Ch β ob id b→w'.heap[b]? =w.heap[b]?)
  (hro:(∀vs us,RVL w (Ys X β ob) β ob vs us→RVL w' (Ys X β (ob.set id o)) β (ob.set id o) vs us)→
   (∀x u,RD w (Ys X β ob) x u→RD w' (Ys X β (ob.set id o)) x u)→RO P w' (Ys X β (ob.set id o)) β (ob.set id o) (β id) o):
  Rel P w' X β ⟨fr,ob.set id o⟩ a∧Keep (Owned β ob) w w'∧OwnIn w β β ob (ob.set id o)∧Stay β β ob (ob.set id o):=by
 have u:Upd w w' X β β ob (ob.set id o) id o:=by
  refine ⟨get_set ob id o,fun _ _=>rfl,hsz,hheap,?_⟩
  intro b cap hp _
  exact ⟨cap,o',ho,hp,fun _=>hfr⟩
 have hok: ∀l,Okay β β ob id o l:=fun l=> .inl ⟨rfl,o',ho,hlike⟩
 have hvs: ∀vs us,RVL w (Ys X β ob) β ob vs us→RVL w' (Ys X β (ob.set id o)) β (ob.set id o) vs us:=
  fun vs us h=>RVL.mono u.same u.ys _ _ (u.stays (hok _)) h
 have hd: ∀x u',RD w (Ys X β ob) x u'→RD w' (Ys X β (ob.set id o)) x u':=fun x u' h=>h.mono u.same u.ys
 exact ⟨⟨u.relO hr.ob (hro hvs hd) (fun i cs _ _=>hok _),hvs _ _ hr.fr,hr.df.keep hr.ob u.keep⟩,u.keep,u.ownIn,set_stay ho hlike hmv⟩
theorem storeCells_ok(g o:Nat)(t:TypeId)(fz:Nat×Nat): ∀(vs:List Value) (i:Nat) (cur:Array Value) (w:World),w.heap[g]? =some (.cells cur t fz)→NoFz fz cur.size→o+i+vs.length≤cur.size→(∀v∈vs,v.oneCell'=true)→
  (storeCells ⟨g,o,none⟩ vs i).run P w= .ok () (w.setRow g (cur.toList.take (o+i)++vs++cur.toList.drop (o+i+vs.length)).toArray)
 | [],i,cur,w,hg,_,_,_=>by
  simp only [storeCells,List.append_nil,List.length_nil,Nat.add_zero,List.take_append_drop,Array.toArray_toList]
  rw [setRow_self w g cur t fz hg]
  rfl
 | v :: rest,i,cur,w,hg,hfz,hl,h1=>by
  have hi:o+i<cur.size:=by simp at hl;omega
  have hadd:(⟨g,o,none⟩:Addr).add i=⟨g,o+i,none⟩:=by unfold Addr.add;split <;> simp_all
  have hcell:w.cell? ⟨g,o+i,none⟩=some cur[o+i]:=by simp [World.cell?,hg,hi]
  have hfro:w.frozen? ⟨g,o+i,none⟩=false:=by
   obtain ⟨lo,hi'⟩:=fz
   simp only [World.frozen?,hg,Bool.and_eq_false_iff,decide_eq_false_iff_not]
   simp only [NoFz] at hfz
   omega
  have hst:(store ((⟨g,o,none⟩:Addr).add i) v).run P w= .ok () (w.setRow g (cur.setIfInBounds (o+i) v)):=by
   rw [hadd,run_store P w _ v _ (h1 v (by simp)),hcell]
   simp [hfro,setCell_eq_setRow w g (o+i) cur t fz v hg]
  have ih:=storeCells_ok g o t fz rest (i+1) (cur.setIfInBounds (o+i) v) (w.setRow g (cur.setIfInBounds (o+i) v)) (setRow_heap w g cur _ t _ hg) (by simpa using hfz) (by simp at hl ⊢;omega) (fun x hx=>h1 x (by simp [hx]))
  simp only [storeCells,Sem.run_bind,hst,Result.andThen_ok,ih,setRow_setRow]
  congr 3
  have e:=list_seg_step cur.toList (o+i) v rest (by simp at hl ⊢;omega)
  simpa [Array.toList_setIfInBounds,Nat.add_assoc] using e
theorem setRow_size(w:World)(g:Nat)(cs:Array Value):(w.setRow g cs).heap.size=w.heap.size:=by simp [World.setRow]
theorem store_run{t:TypeId}{b off:Nat}{vs:Array Value}{T:TypeId}{fz:Nat×Nat}{u:Value}(hu:(P.underlying t).isSome)(hn:u.cells.size=P.cellsOf t)(hh:w.heap[b]? =some (.cells vs T fz))(hf:NoFz fz vs.size)
  (hl:off+u.cells.size≤vs.size) (h1: ∀x∈u.cells.toList,x.oneCell'=true):
  (Instr.storeAt t (.pointer (some ⟨b,off,none⟩)) u).run P w= .ok () (w.setRow b (vs.toList.take off++u.cells.toList++vs.toList.drop (off+u.cells.size)).toArray):=by
 obtain ⟨d,hd⟩:=Option.isSome_iff_exists.1 hu
 have:=storeCells_ok (P:=P) b off T fz u.cells.toList 0 vs w hh hf (by simpa using hl) h1
 have e:=sizeOf_run (w:=w) hd
 rw [←hn] at e
 simp only [Instr.storeAt,Instr.sureAddr,storeVar]
 simp only [Sem.run_bind,Sem.run_pure,Result.andThen_ok,e,ne_eq,not_true,if_false]
 simp only [Nat.add_zero,Array.length_toList] at this
 simpa using this
theorem beqN{a b:Nat}(h:Nat.beq a b=true):a=b:=Nat.eq_of_beq_eq_true h
theorem splice_rvl{cs cs' vs:List V}{off:Nat}{us zs:List Value}(h:splice cs off vs=some cs')(hc:RVL w Y β ob cs us)(hv:RVL w Y β ob vs zs):
  off+zs.length≤us.length∧RVL w Y β ob cs' (us.take off++zs++us.drop (off+zs.length)):=by
 obtain ⟨h1,rfl⟩:=splice_ok h
 rw [hc.length,hv.length] at h1
 refine ⟨h1,?_⟩
 rw [hv.length]
 exact ((hc.take off).append hv).append (hc.drop _)
theorem splice_rds{cs cs' vs:List D}{off:Nat}{us zs:List Value}(h:splice cs off vs=some cs')(hc:RDs w Y cs us)(hv:RDs w Y vs zs):
  off+zs.length≤us.length∧RDs w Y cs' (us.take off++zs++us.drop (off+zs.length)):=by
 have:=splice_rvl (w:=w) (Y:=Y) (β:=fun _=> .nil) (ob:=[]) (cs:=cs.map .d) (cs':=cs'.map .d) (vs:=vs.map .d) (off:=off) (us:=us) (zs:=zs) ?_ (RVL.map_d hc.1 hc.2) (RVL.map_d hv.1 hv.2)
 ·exact ⟨this.1,this.2.of_map_d⟩
 ·have key: ∀(cs vs:List D) (off:Nat) (cs':List D),splice cs off vs=some cs'→splice (cs.map V.d) off (vs.map V.d)=some (cs'.map V.d):=by
   intro cs
   induction cs with
   | nil=>
    intro vs off cs' h
    cases off <;> cases vs <;> simp_all [splice]
   | cons c cs ih=>
    intro vs off cs' h
    cases off with
    | zero=>
     cases vs with
     | nil=>simp_all [splice]
     | cons v vs=>
      simp only [splice] at h
      split at h
      ·rename_i q hq
       cases h
       simp [splice,ih vs 0 q hq]
      ·simp at h
    | succ off=>
     simp only [splice] at h
     split at h
     ·rename_i q hq
      cases h
      simp [splice,ih vs off q hq]
     ·simp at h
  exact key cs vs off cs' h
theorem chop_RL{e:Sh}: ∀{n:Nat} {ds es:List D} {us:List Value},chop e n ds=some es→RDs w Y ds us→es.length=n∧us.length=n*e.size∧RL w Y e es us.toArray
 | 0,[],es,us,h,hr=>by
  simp only [chop,Option.some.injEq] at h
  subst h
  have:us=[]:=List.eq_nil_of_length_eq_zero (by rw [←hr.1];rfl)
  subst this
  exact ⟨rfl,by simp,by simp,fun i x j c hi=>by simp at hi⟩
 | 0,_ :: _,es,us,h,hr=>by simp [chop] at h
 | n+1,ds,es,us,h,hr=>by
  simp only [chop] at h
  split at h
  ·rename_i l hl
   obtain ⟨rfl,hle⟩:=takeN_ok hl
   split at h
   ·rename_i x hx
    split at h
    ·rename_i hf
     split at h
     ·rename_i r hr'
      simp only [Option.some.injEq] at h
      subst h
      obtain ⟨h1,h2,h3,h4⟩:=chop_RL hr' (hr.drop e.size)
      have hxc:=mkD_cells hx hf
      have hul:e.size≤us.length:=by rw [←hr.1];exact hle
      refine ⟨by simp [h1],by simp at h2;rw [Nat.add_mul];omega,?_,?_⟩
      ·intro y hy
       rcases List.mem_cons.1 hy with rfl | hy
       ·exact hf
       ·exact h3 y hy
      ·intro i y j c hi hj
       cases i with
       | zero=>
        simp only [List.getElem?_cons_zero,Option.some.injEq] at hi
        subst hi
        rw [hxc,List.getElem?_take] at hj
        split at hj
        ·rename_i hjs
         have hjl:j<us.length:=by omega
         refine ⟨us[j],by simp [hjl],hr.2 j c _ hj (List.getElem?_eq_getElem hjl)⟩
        ·simp at hj
       | succ i=>
        obtain ⟨u,hu,hru⟩:=h4 i y j c (by simpa using hi) hj
        refine ⟨u,?_,hru⟩
        simp only [List.getElem?_toArray,List.getElem?_drop] at hu ⊢
        rw [←hu]
        congr 1
        rw [Nat.add_mul];omega
     ·simp at h
    ·simp at h
   ·simp at h
  ·simp at h
theorem row_set{vs zs:List Value}{p sz off:Nat}(h1:off+zs.length≤sz)(h2:p+sz≤vs.length):
  (∀q,q<p∨p+sz≤q→(vs.take (p+off)++zs++vs.drop (p+off+zs.length))[q]? =vs[q]?)∧
  (∀j,j<sz→(vs.take (p+off)++zs++vs.drop (p+off+zs.length))[p+j]? =(((vs.drop p).take sz).take off++zs++((vs.drop p).take sz).drop (off+zs.length))[j]?):=by
 have hl:(vs.take (p+off)).length=p+off:=by simp;omega
 constructor
 ·intro q hq
  rcases hq with hq | hq
  ·rw [List.append_assoc,List.getElem?_append_left (by omega),List.getElem?_take,if_pos (by omega)]
  ·rw [List.getElem?_append_right (by simp;omega),List.getElem?_drop]
   congr 1
   simp;omega
 ·intro j hj
  have hl2:(((vs.drop p).take sz).take off).length=off:=by simp;omega
  rcases Nat.lt_trichotomy j off with hjo | hjo | hjo
  ·rw [List.append_assoc,List.getElem?_append_left (by omega),List.getElem?_take,if_pos (by omega)]
   rw [List.append_assoc,List.getElem?_append_left (by omega),List.getElem?_take,if_pos hjo,List.getElem?_take,if_pos hj,List.getElem?_drop]
  all_goals
   by_cases hz:j<off+zs.length
   ·rw [List.getElem?_append_left (by simp;omega),List.getElem?_append_right (by omega),hl]
    rw [List.getElem?_append_left (by simp;omega),List.getElem?_append_right (by omega),hl2]
    congr 1
    omega
   ·rw [List.getElem?_append_right (by simp;omega),List.getElem?_drop]
    rw [List.getElem?_append_right (by simp;omega),List.getElem?_drop,List.getElem?_take,if_pos (by simp;omega),List.getElem?_drop]
    congr 1
    simp;omega
theorem RL.set{e:Sh}{es:List D}{vs:Array Value}{i off:Nat}{ds cs:List D}{zs:List Value}{y:D}(h:RL w Y e es vs)(hi:i<es.length)(hs:splice (etaCells e (es.getD i .nilp)) off ds=some cs)
  (hy:mkD e cs=some y) (hf:fits e y=true) (hz:RDs w Y ds zs) (hsz:es.length*e.size≤vs.size):
  i*e.size+off+zs.length≤vs.size∧RL w Y e (es.set i y) (vs.toList.take (i*e.size+off)++zs++vs.toList.drop (i*e.size+off+zs.length)).toArray:=by
 obtain ⟨he,hfe⟩:=h.elem hi
 rw [etaCells_fits hfe] at hs
 obtain ⟨g1,g2⟩:=splice_rds hs he hz
 have hcs:=mkD_cells hy hf
 have hle:i*e.size+e.size≤vs.size:=by
  rw [show i*e.size+e.size=(i+1)*e.size by rw [Nat.add_mul];omega]
  exact Nat.le_trans (Nat.mul_le_mul_right _ hi) hsz
 have hoz:off+zs.length≤e.size:=by simp at g1;omega
 obtain ⟨r1,r2⟩:=row_set (vs:=vs.toList) (zs:=zs) (p:=i*e.size) (sz:=e.size) (off:=off) hoz (by simpa using hle)
 refine ⟨by omega,?_,?_⟩
 ·intro x hx
  rcases List.mem_or_eq_of_mem_set hx with hx | rfl
  ·exact h.1 x hx
  ·exact hf
 ·intro k x j c hk hj
  rw [List.getElem?_set] at hk
  split at hk
  ·rename_i hik
   subst hik
   simp only [Option.some.injEq] at hk
   subst hk
   have hj':j<e.size:=by
    have:=(List.getElem?_eq_some_iff.mp hj).1
    rwa [fits_size hf] at this
   simp only [List.getElem?_toArray]
   rw [r2 j hj']
   rw [hcs] at hj
   have hlen:=g2.1
   have hjl:j<(((vs.toList.drop (i*e.size)).take e.size).take off++zs++((vs.toList.drop (i*e.size)).take e.size).drop (off+zs.length)).length:=by
    rw [←hlen];exact (List.getElem?_eq_some_iff.mp hj).1
   exact ⟨_,List.getElem?_eq_getElem hjl,g2.2 j c _ hj (List.getElem?_eq_getElem hjl)⟩
  ·rename_i hik
   obtain ⟨u,hu,hru⟩:=h.2 k x j c hk hj
   refine ⟨u,?_,hru⟩
   simp only [List.getElem?_toArray]
   have hfx:=h.1 x (List.mem_of_getElem? hk)
   have hjs:j<e.size:=by
    have:=(List.getElem?_eq_some_iff.mp hj).1
    rwa [fits_size hfx] at this
   rw [r1 (k*e.size+j) ?_]
   ·simpa using hu
   ·rcases Nat.lt_or_gt_of_ne hik with hlt | hgt
    ·right
     have:(i+1)*e.size≤k*e.size:=Nat.mul_le_mul_right _ hlt
     rw [Nat.add_mul] at this;omega
    ·left
     have:(k+1)*e.size≤i*e.size:=Nat.mul_le_mul_right _ hgt
     rw [Nat.add_mul] at this;omega
theorem freeze_get_not{l:List Nat}{i:Nat}(h:i∉l):(ob.freeze l).get i=ob.get i:=by rw [get_freeze,if_neg h]
theorem not_contains{l:List Nat}{i:Nat}(h: ¬l.contains i=true):i∉l:=by simpa using h
theorem storeAt_ok{t:TypeId}{A v:V}{ua uv:Value}{ob':Obs}(hr:Rel P w X β ⟨fr,ob⟩ a)(hu:(P.underlying t).isSome)(hA:RV w (Ys X β ob) β ob A ua)(hv:RV w (Ys X β ob) β ob v uv)
  (h:(storeAt ob (P.cellsOf t) v A).eval=some ob'): ∃w',(Instr.storeAt t ua uv).run P w= .ok () w'∧Rel P w' X β ⟨fr,ob'⟩ a∧Keep (Owned β ob) w w'∧OwnIn w β β ob ob'∧Stay β β ob ob':=by
 have hR:=hr.ob
 cases A <;> simp only [storeAt] at h
 case ptr id off=>
  simp only [RV] at hA
  obtain ⟨ad,rfl,ha⟩:=hA
  split at h
  ·-- a box
   rename_i cs ho
   obtain ⟨b,cap,vs,T,fz,hp,hh,hf,hcs⟩:=hR.obj id _ ho
   have ha:=ha _ ho
   rw [hp] at ha
   simp only [Pl.block] at ha
   subst ha
   split at h
   ·rename_i hc
    simp only [Bool.and_eq_true] at hc
    have hn:=beqN hc.1
    obtain ⟨hcell,hone⟩:=cells_ok hv hc.2
    split at h
    ·rename_i cs' hs
     simp only [Tree.eval,Option.some.injEq] at h
     subst h
     obtain ⟨hl,_⟩:=splice_rvl hs hcs hcell
     have hsz:uv.cells.size=P.cellsOf t:=by rw [←hn,hcell.length];simp
     have hst:=store_run (P:=P) hu hsz hh hf (by simpa using hl) hone
     refine ⟨_,hst,good_set hr ho (by simp [Obj.like]) rfl rfl ⟨by rw [setRow_size];exact Nat.le_refl _,rfl,rfl⟩ ?_ ?_⟩
     ·intro b' hb' hn'
      refine setRow_other _ _ _ _ fun he=>hn' ?_
      subst he
      exact ⟨_,cap,ho,rfl,hp⟩
     ·intro hvs hd
      have hsp:=splice_rvl hs (hvs _ _ hcs) (hvs _ _ hcell)
      refine ⟨b,cap,_,T,fz,hp,setRow_heap w b vs _ T fz hh,?_,?_⟩
      ·have:(vs.toList.take off++uv.cells.toList++vs.toList.drop (off+uv.cells.size)).toArray.size=vs.size:=by
        simp;simp at hl;omega
       rw [this];exact hf
      ·simpa using hsp.2
    ·simp [Tree.eval] at h
   ·simp [Tree.eval] at h
  ·-- a whole array
   rename_i e m es ho
   obtain ⟨b,cap,vs,T,fz,hp,hh,hf,hm,hsz,hl⟩:=hR.obj id _ ho
   have ha:=ha _ ho
   rw [hp] at ha
   simp only [Pl.block] at ha
   subst ha
   split at h
   ·rename_i hc
    simp only [Bool.and_eq_true] at hc
    have hoff:=beqN hc.1.1
    have hn:=beqN hc.1.2
    obtain ⟨hcell,hone⟩:=cells_ok hv hc.2
    split at h
    ·rename_i ds l hds
     split at h
     ·rename_i es' hes
      split at h
      ·simp [Tree.eval] at h
      ·rename_i hnc
       have hni:=not_contains hnc
       simp only [Tree.eval,Option.some.injEq] at h
       subst h
       subst hoff
       have hrd:=datL_ok (m:=l) hR hds (fun _ h=>h) hcell
       obtain ⟨q1,q2,q3⟩:=chop_RL hes hrd
       have hus:uv.cells.size=P.cellsOf t:=by rw [←hn,hcell.length];simp
       have hvs:uv.cells.size=vs.size:=by rw [hsz];simpa using q2
       have hst:=store_run (P:=P) (off:=0) hu hus hh hf (by omega) hone
       have hrow:(vs.toList.take 0++uv.cells.toList++vs.toList.drop (0+uv.cells.size)).toArray=uv.cells:=by
        have:vs.toList.drop vs.size=[]:=List.drop_of_length_le (by simp)
        rw [Nat.zero_add,hvs,this];simp
       rw [hrow] at hst
       have hr':=hr.freeze l
       have hg:=good_set (w':=w.setRow b uv.cells) (o:= .arr e m false es') (o':= .arr e m false es) hr' (by rw [freeze_get_not hni];exact ho) (by simp [Obj.like]) rfl rfl ⟨by rw [setRow_size];exact Nat.le_refl _,rfl,rfl⟩ ?_ ?_
       ·refine ⟨_,hst,hg.1,hg.2.1.mono fun b _ h=>freeze_owned h,?_,(freeze_stay _).trans hg.2.2.2⟩
        intro b h
        rcases hg.2.2.1 b h with h | h
        ·exact .inl (freeze_owned h)
        ·exact .inr h
       ·intro b' hb' hn'
        refine setRow_other _ _ _ _ fun he=>hn' ?_
        subst he
        exact ⟨_,cap,by rw [freeze_get_not hni];exact ho,rfl,hp⟩
       ·intro hvs' hd
        refine ⟨b,cap,_,T,fz,hp,setRow_heap w b vs _ T fz hh,by rw [hvs];exact hf,q1,by rw [hvs];exact hsz,q3.1,?_⟩
        intro i x j c hi hj
        obtain ⟨u,hu,hru⟩:=q3.2 i x j c hi hj
        exact ⟨u,by simpa using hu,hd _ _ hru⟩
     ·simp [Tree.eval] at h
    ·simp [Tree.eval] at h
   ·simp [Tree.eval] at h
  ·simp [Tree.eval] at h
 case ep id i off=>
  simp only [RV] at hA
  obtain ⟨ad,rfl,ha1,ha2⟩:=hA
  have main: ∀(e:Sh) (es:List D) (b cap:Nat) (vs:Array Value) (T:TypeId) (fz:Nat×Nat) (y:D) (l:List Nat) (o o':AM.Obj),
    ad=⟨b,i*e.size+off,none⟩→w.heap[b]? =some (.cells vs T fz)→NoFz fz vs.size→RL w (Ys X β ob) e es vs→es.length*e.size≤vs.size→i<es.length→β id= .blk b cap→
    v.cells.length=P.cellsOf t→noAny v.cells=true→putCells ob e (es.getD i .nilp) off v=some (y,l)→id∉l→ob.get id=some o'→o'.like o→o'.moved=o.moved→o'.frozen=false→
    (∀w1 vs',w1.heap[b]? =some (.cells vs' T fz)→vs'.size=vs.size→RL w1 (Ys X β ((ob.freeze l).set id o)) e (es.set i y) vs'→RO P w1 (Ys X β ((ob.freeze l).set id o)) β ((ob.freeze l).set id o) (.blk b cap) o)→
    ∃w',(Instr.storeAt t (.pointer (some ad)) uv).run P w= .ok () w'∧Rel P w' X β ⟨fr,(ob.freeze l).set id o⟩ a∧Keep (Owned β ob) w w'∧OwnIn w β β ob ((ob.freeze l).set id o)∧Stay β β ob ((ob.freeze l).set id o):=by
   intro e es b cap vs T fz y l o o' had hh hf hl hsz hi hp hn hna hput hni ho hlike hmv hfro hro
   subst had
   obtain ⟨hcell,hone⟩:=cells_ok hv hna
   unfold putCells at hput
   split at hput
   ·rename_i ds l' hds
    split at hput
    ·rename_i cs hs
     split at hput
     ·rename_i y' hy
      split at hput
      ·rename_i hfy
       simp only [Option.some.injEq,Prod.mk.injEq] at hput
       obtain ⟨rfl,rfl⟩:=hput
       have hrd:=datL_ok (m:=l') hR hds (fun _ h=>h) hcell
       have hl':=hl.mono (w':=w) (Y':=Ys X β (ob.freeze l')) (fun _ _ _=>rfl) (fun _ _=>freeze_ys)
       obtain ⟨g1,g2⟩:=hl'.set hi hs hy hfy hrd hsz
       have hus:uv.cells.size=P.cellsOf t:=by rw [←hn,hcell.length];simp
       have hst:=store_run (P:=P) hu hus hh hf (by simpa using g1) hone
       have hr':=hr.freeze l'
       have hg:=good_set (w':=w.setRow b (vs.toList.take (i*e.size+off)++uv.cells.toList++vs.toList.drop (i*e.size+off+uv.cells.size)).toArray) (o:=o) hr' (by rw [freeze_get_not hni];exact ho) hlike hmv hfro ⟨by rw [setRow_size];exact Nat.le_refl _,rfl,rfl⟩ ?_ ?_
       ·refine ⟨_,hst,hg.1,hg.2.1.mono fun b _ h=>freeze_owned h,?_,(freeze_stay _).trans hg.2.2.2⟩
        intro b h
        rcases hg.2.2.1 b h with h | h
        ·exact .inl (freeze_owned h)
        ·exact .inr h
       ·intro b' hb' hn'
        refine setRow_other _ _ _ _ fun he=>hn' ?_
        subst he
        exact ⟨o',cap,by rw [freeze_get_not hni];exact ho,hfro,hp⟩
       ·intro hvs' hd
        rw [hp]
        refine hro _ _ (setRow_heap w b vs _ T fz hh) ?_ ?_
        ·simp only [Array.length_toList] at g1
         simp;omega
        ·have g2':=g2
         simp only [Array.length_toList] at g2'
         refine ⟨g2'.1,fun k x j c hk hj=> ?_⟩
         obtain ⟨u,hu,hru⟩:=g2'.2 k x j c hk hj
         exact ⟨u,hu,hd _ _ hru⟩
      ·simp at hput
     ·simp at hput
    ·simp at hput
   ·simp at hput
  split at h
  ·rename_i e nl mv es ho
   obtain ⟨ha,hi⟩:=ha1 _ _ _ _ _ ho
   have hro:=hR.obj id _ ho
   cases hb:β id with
   | nil=>rw [hb] at hro;obtain ⟨_,rfl⟩:=hro;simp at hi
   | capless a'=>rw [hb] at hro;obtain ⟨_,rfl⟩:=hro;simp at hi
   | blk b cap=>
    rw [hb] at hro ha
    obtain ⟨hnl,hcap,vs,T,fz,hh,hf,hcs,hl⟩:=hro
    split at h
    ·rename_i hc
     simp only [Bool.and_eq_true] at hc
     split at h
     ·rename_i y l hput
      split at h
      ·simp [Tree.eval] at h
      ·rename_i hnc
       simp only [Tree.eval,Option.some.injEq] at h
       subst h
       refine main e es b cap vs T fz y l _ _ ha hh hf.1 hl (Nat.le_trans (Nat.mul_le_mul_right _ hcap) hcs) hi hb (beqN hc.1) hc.2 hput (not_contains hnc) ho (by simp [Obj.like]) rfl rfl ?_
       intro w1 vs' h1 h2 h3
       exact ⟨hnl,by simpa using hcap,vs',T,fz,h1,by rw [h2];exact hf,by rw [h2];exact hcs,h3⟩
     ·simp [Tree.eval] at h
    ·simp [Tree.eval] at h
  ·rename_i e m es ho
   obtain ⟨ha,hi⟩:=ha2 _ _ _ _ ho
   obtain ⟨b,cap,vs,T,fz,hp,hh,hf,hm,hsz,hl⟩:=hR.obj id _ ho
   rw [hp] at ha
   split at h
   ·rename_i hc
    simp only [Bool.and_eq_true] at hc
    split at h
    ·rename_i y l hput
     split at h
     ·simp [Tree.eval] at h
     ·rename_i hnc
      simp only [Tree.eval,Option.some.injEq] at h
      subst h
      refine main e es b cap vs T fz y l _ _ ha hh hf hl (by rw [hm,hsz];exact Nat.le_refl _) (by omega) hp (beqN hc.1) hc.2 hput (not_contains hnc) ho (by simp [Obj.like]) rfl rfl ?_
      intro w1 vs' h1 h2 h3
      exact ⟨b,cap,vs',T,fz,rfl,h1,by rw [h2];exact hf,by simpa using hm,by rw [h2];exact hsz,h3⟩
    ·simp [Tree.eval] at h
   ·simp [Tree.eval] at h
  ·simp [Tree.eval] at h
 all_goals simp [Tree.eval] at h
end
section
variable {P:Program} {w w':World} {X Y:Nat→Prop} {β:Nat→Pl} {ob:Obs} {fr:List V} {a:Act}
theorem fold_set: ∀(us:List Value) (off k:Nat) (cells:Array Value),off+k+us.length≤cells.size→
  ((us.zipIdx k).foldl (fun cs (x:Value×Nat)=>cs.setIfInBounds (off+x.2) x.1) cells).toList=cells.toList.take (off+k)++us++cells.toList.drop (off+k+us.length)
 | [],off,k,cells,h=>by simp
 | u :: us,off,k,cells,h=>by
  simp only [List.zipIdx_cons,List.foldl_cons]
  rw [fold_set us off (k+1) _ (by simp at h ⊢;omega)]
  have e:=list_seg_step cells.toList (off+k) u us (by simp at h ⊢;omega)
  simpa [Array.toList_setIfInBounds,Nat.add_assoc] using e
theorem fill_step{place:Nat→Option (Nat×Nat)}{i off sz:Nat}{v:Value}{cells:Array Value}{rest:List (Nat×Value)}(hp:place i=some (off,sz))(hs:v.cells.size=sz)(hl:off+sz≤cells.size):
  Instr.fill place cells ((i,v) :: rest)=Instr.fill place (cells.toList.take off++v.cells.toList++cells.toList.drop (off+sz)).toArray rest:=by
 have e:=fold_set v.cells.toList off 0 cells (by simp;omega)
 simp only [Nat.add_zero,Array.length_toList] at e
 simp only [Instr.fill,hp]
 have hc: ¬(v.cells.size≠sz∨off+v.cells.size > cells.size):=by omega
 have hc':(decide (v.cells.size≠sz)||decide (off+v.cells.size > cells.size))=false:=by simp;omega
 simp only [hc',Bool.false_eq_true,if_false]
 congr 1
 rw [←hs,←e]
 rw [←Array.foldl_toList,Array.toList_zipIdx]
def PartsOk(w:World)(Y:Nat→Prop)(β:Nat→Pl)(ob:Obs)(place:Nat→Option (Nat×Nat)):List (Nat×Nat×V)→List (Nat×Value)→Prop
 | [],[]=>True
 | (off,sz,v) :: l,(i,u) :: m=>place i=some (off,sz)∧RV w Y β ob v u∧PartsOk w Y β ob place l m
 | _,_=>False
theorem fillD_ok{place:Nat→Option (Nat×Nat)}: ∀{ps:List (Nat×Nat×V)} {qs:List (Nat×Value)} {cs cs':List V} {us:List Value},PartsOk w Y β ob place ps qs→fillD cs ps=some cs'→RVL w Y β ob cs us→
  ∃us',Instr.fill place us.toArray qs=some us'.toArray∧RVL w Y β ob cs' us'
 | [],[],cs,cs',us,_,h,hr=>by
  simp only [fillD,Option.some.injEq] at h
  subst h
  exact ⟨us,by simp [Instr.fill],hr⟩
 | [],_ :: _,_,_,_,hp,_,_=>by simp [PartsOk] at hp
 | _ :: _,[],_,_,_,hp,_,_=>by simp [PartsOk] at hp
 | (off,sz,v) :: ps,(i,u) :: qs,cs,cs',us,hp,h,hr=>by
  simp only [PartsOk] at hp
  simp only [fillD] at h
  split at h
  ·rename_i hc
   simp only [Bool.and_eq_true] at hc
   obtain ⟨hcell,_⟩:=cells_ok hp.2.1 hc.2
   split at h
   ·rename_i cs1 hs
    obtain ⟨g1,g2⟩:=splice_rvl hs hr hcell
    obtain ⟨us',h1,h2⟩:=fillD_ok hp.2.2 h g2
    have hsz:u.cells.size=sz:=by
     have:=hcell.length
     rw [beqN hc.1] at this
     simpa using this.symm
    refine ⟨us',?_,h2⟩
    rw [fill_step hp.1 hsz (by simp at g1 ⊢;omega)]
    rw [←h1]
    congr 1
    simp [hsz]
   ·simp at h
  ·simp at h
theorem zeroOf_ok{t:TypeId}{zs:List D}(h:zeroOf P t=some zs): ∃i z,P.info? t=some i∧i.zero=some z∧(zeroValue t).run P w= .ok z w∧RDs w Y zs z.cells.toList:=by
 unfold zeroOf at h
 split at h
 ·rename_i ts i h1 h2
  split at h
  ·rename_i z hz
   obtain ⟨hl,hr⟩:=cstL_ok (w:=w) (Y:=Y) h
   exact ⟨i,z,h2,hz,by simp [zeroValue,typeInfo,h2,hz],hl,hr⟩
  ·simp at h
 ·simp at h
theorem partsV_fields{fs:Array Field}: ∀{l:List (Nat×Operand)} {ps:List (Nat×Nat×Opd)},TabOK P w Y→RVL w Y β ob fr a.tmps.toList→fieldParts P fs l=some ps→
  PartsOk w Y β ob (fun i=>(fs[i]?).map fun f=>(f.offset,P.cellsOf f.type)) (partsV fr ps) (l.map fun (i,x)=>(i,a.eval x))
 | [],ps,hT,hr,h=>by
  simp only [fieldParts,Option.some.injEq] at h
  subst h
  simp [partsV,PartsOk]
 | (i,x) :: l,ps,hT,hr,h=>by
  simp only [fieldParts] at h
  split at h
  ·rename_i f r hf hr'
   simp only [Option.some.injEq] at h
   subst h
   simp only [partsV,List.map_cons,PartsOk]
   exact ⟨by simp [hf],opd_ok hT hr _ x,partsV_fields hT hr hr'⟩
  ·simp at h
theorem partsV_elems{e:TypeId}{n:Nat}(hn:P.cellsOf e=n): ∀(l:List (Nat×Operand)),TabOK P w Y→RVL w Y β ob fr a.tmps.toList→
  PartsOk w Y β ob (fun i=>some (i*n,n)) (partsV fr (elemParts P e l)) (l.map fun (i,x)=>(i,a.eval x))
 | [],hT,hr=>by simp [elemParts,partsV,PartsOk]
 | (i,x) :: l,hT,hr=>by
  simp only [elemParts,partsV,List.map_cons,PartsOk,hn]
  exact ⟨trivial,opd_ok hT hr _ x,partsV_elems hn l hT hr⟩
theorem places_ok: ∀(fs:List Field),(fs.all fun f=>(P.info? f.type).isSome)=true→fs.mapM (fun f=>(P.info? f.type).map fun i=>(f.offset,i.size))=some (fs.map fun f=>(f.offset,P.cellsOf f.type))
 | [],_=>by simp
 | f :: fs,h=>by
  simp only [List.all_cons,Bool.and_eq_true] at h
  obtain ⟨i,hi⟩:=Option.isSome_iff_exists.1 h.1
  simp [List.mapM_cons,hi,places_ok fs h.2,Program.cellsOf]
theorem build_ok{t:TypeId}{zs:List D}{parts:Array (Nat×Operand)}{ps:List (Nat×Nat×Opd)}{cs:List V}(hT:TabOK P w Y)(hr:RVL w Y β ob fr a.tmps.toList)(hz:zeroOf P t=some zs)
  (hp:(∃fs,P.underlying t=some (.struct fs)∧fieldParts P fs parts.toList=some ps∧(fs.toList.all fun f=>(P.info? f.type).isSome)=true)∨
   (∃n e,P.underlying t=some (.array n e)∧(P.info? e).isSome∧ps=elemParts P e parts.toList))
  (h:fillD (zs.map .d) (partsV fr ps)=some cs):
  ∃u,(Instr.build t (parts.map fun (i,x)=>(i,a.eval x))).run P w= .ok u w∧RV w Y β ob (V.mkAgg cs) u:=by
 obtain ⟨i,z,hi,hz',_,hrd⟩:=zeroOf_ok (w:=w) (Y:=Y) hz
 have hzr:RVL w Y β ob (zs.map .d) z.cells.toList:=RVL.map_d hrd.1 hrd.2
 rcases hp with ⟨fs,hu,hf,hall⟩ | ⟨n,e,hu,hie,rfl⟩
 ·obtain ⟨us',h1,h2⟩:=fillD_ok (partsV_fields (fs:=fs) hT hr hf) h hzr
  refine ⟨.agg us'.toArray,run_build w t _ _ ?_,mkAgg_ok h2⟩
  unfold Program.built
  simp only [hi,hu,hz',places_ok _ hall]
  rw [←h1]
  simp only [Array.toArray_toList,Array.toList_map]
  congr 1
  funext k
  simp
 ·obtain ⟨ie,hie⟩:=Option.isSome_iff_exists.1 hie
  obtain ⟨us',h1,h2⟩:=fillD_ok (partsV_elems (P:=P) (e:=e) (n:=ie.size) (by simp [Program.cellsOf,hie]) parts.toList hT hr) h hzr
  refine ⟨.agg us'.toArray,run_build w t _ _ ?_,mkAgg_ok h2⟩
  unfold Program.built
  simp only [hi,hu,hz',hie]
  rw [←h1]
  simp only [Array.toArray_toList,Array.toList_map]
theorem repl_get{α:Type}(l:List α)(hl:0<l.length): ∀(n k:Nat),k<n*l.length→(repl n l)[k]? =l[k % l.length]?
 | 0,k,h=>by simp at h
 | n+1,k,h=>by
  simp only [repl]
  by_cases hk:k<l.length
  ·rw [List.getElem?_append_left hk,Nat.mod_eq_of_lt hk]
  ·rw [List.getElem?_append_right (by omega),repl_get l hl n (k - l.length) (by rw [Nat.add_mul] at h;omega)]
   congr 1
   exact (Nat.mod_eq_sub_mod (by omega)).symm
theorem repl_length{α:Type}(l:List α): ∀n,(repl n l).length=n*l.length
 | 0=>by simp [repl]
 | n+1=>by simp [repl,repl_length l n,Nat.add_mul];omega
theorem zeros_ok{zs:List D}{z:List Value}(h:RDs w Y zs z)(n:Nat)(hz:0<z.length):RDs w Y (repl n zs) ((Array.range (n*z.length)).map (fun k=>z.toArray[k % z.toArray.size]!)).toList:=by
 refine ⟨by simp [repl_length,h.1],fun j c v hc hv=> ?_⟩
 have hj:j<n*zs.length:=by
  have:=(List.getElem?_eq_some_iff.mp hc).1
  rwa [repl_length] at this
 have hzl:zs.length=z.length:=h.1
 rw [repl_get zs (by omega) n j hj] at hc
 have hlt:j % z.length<z.length:=Nat.mod_lt _ hz
 have hv':v=z[j % z.length]:=by
  rw [hzl] at hj
  simp [hj,hlt] at hv
  exact hv.symm
 subst hv'
 rw [hzl] at hc
 exact h.2 _ c _ hc (List.getElem?_eq_getElem hlt)
theorem alloc_size(w:World)(o:Go.Obj):(w.alloc o).heap.size=w.heap.size+1:=by
 show (w.heap.push o).size=_
 simp
theorem alloc_old(w:World)(o:Go.Obj)(b:Nat)(h:b<w.heap.size):(w.alloc o).heap[b]? =w.heap[b]? :=by
 show (w.heap.push o)[b]? =_
 rw [Array.getElem?_push]
 split
 ·omega
 ·rfl
theorem alloc_new(w:World)(o:Go.Obj):(w.alloc o).heap[w.heap.size]? =some o:=by
 show (w.heap.push o)[w.heap.size]? =_
 simp
theorem newRow_run{e:TypeId}{cells:Array Value}:(newRow e cells).run P w= .ok ⟨w.heap.size,0,none⟩ (w.alloc (.cells cells e)):=by
 rfl
theorem good_new{base:Nat}{o:AM.Obj}{cap:Nat}{cells:Array Value}{T:TypeId}(hr:Rel P w X β ⟨fr,ob⟩ a)(hb:64≤base)
  (hro:(∀vs us,RVL w (Ys X β ob) β ob vs us→RVL (w.alloc (.cells cells T)) (Ys X (putPl β base (.blk w.heap.size cap)) ((ob.set base o).sub (killOf [base]))) (putPl β base (.blk w.heap.size cap)) ((ob.set base o).sub (killOf [base])) (V.subL (killOf [base]) vs) us)→
   (∀x u,RD w (Ys X β ob) x u→RD (w.alloc (.cells cells T)) (Ys X (putPl β base (.blk w.heap.size cap)) ((ob.set base o).sub (killOf [base]))) x u)→
   RO P (w.alloc (.cells cells T)) (Ys X (putPl β base (.blk w.heap.size cap)) ((ob.set base o).sub (killOf [base]))) (putPl β base (.blk w.heap.size cap)) ((ob.set base o).sub (killOf [base])) (.blk w.heap.size cap) (o.sub (killOf [base]))):
  Rel P (w.alloc (.cells cells T)) X (putPl β base (.blk w.heap.size cap)) (St.kill [base] ⟨fr,ob.set base o⟩) a∧Keep (Owned β ob) w (w.alloc (.cells cells T))∧
   OwnIn w β (putPl β base (.blk w.heap.size cap)) ob ((ob.set base o).sub (killOf [base]))∧Stay β (putPl β base (.blk w.heap.size cap)) ob ((ob.set base o).sub (killOf [base])):=
 good_put hr (.inl hb) ⟨by rw [alloc_size];omega,rfl,rfl⟩ (fun b hb _=>alloc_old w _ b hb) (fun b c hp hb=>by cases hp;omega) hro
theorem get_put_sub{base:Nat}{o:AM.Obj}{r:Nat→Option V}:((ob.set base o).sub r).get base=some (o.sub r):=by
 rw [get_sub,get_set_same];rfl
theorem box_good{base:Nat}{cs:List V}{cells:Array Value}{T:TypeId}(hr:Rel P w X β ⟨fr,ob⟩ a)(hb:64≤base)(hc:RVL w (Ys X β ob) β ob cs cells.toList):
  Good P w (w.alloc (.cells cells T)) X β (putPl β base (.blk w.heap.size 0)) ob (St.kill [base] ⟨fr,ob.set base (.box cs)⟩) a (.ptr base 0) (.pointer (some ⟨w.heap.size,0,none⟩)):=by
 have hg:=good_new (base:=base) (o:= .box cs) (cap:=0) (cells:=cells) (T:=T) hr hb ?_
 ·refine ⟨hg.1,?_,hg.2.1,hg.2.2.1,hg.2.2.2⟩
  simp only [RV]
  refine ⟨_,rfl,fun o _=> ?_⟩
  simp [putPl,Pl.block]
 ·intro hvs hd
  exact ⟨w.heap.size,0,cells,T,(0,0),rfl,alloc_new w _,.inl rfl,hvs _ _ hc⟩
theorem alloc_ok{t:TypeId}{zs:List D}(hr:Rel P w X β ⟨fr,ob⟩ a)(hz:zeroOf P t=some zs)(base:Nat)(hb:64≤base):
  ∃w' u β',(Instr.alloc t true (.tuple #[])).run P w= .ok u w'∧Good P w w' X β β' ob (St.kill [base] ⟨fr,ob.set base (.box (zs.map .d))⟩) a (.ptr base 0) u:=by
 obtain ⟨i,z,hi,hz',hrun,hrd⟩:=zeroOf_ok (w:=w) (Y:=Ys X β ob) hz
 refine ⟨_,_,_,?_,box_good (cells:=z.cells) (T:=t) hr hb (RVL.map_d hrd.1 hrd.2)⟩
 simp [Instr.alloc,hrun,newVar,newRow_run]
theorem box_ok{t:TypeId}{v:V}{u:Value}(hr:Rel P w X β ⟨fr,ob⟩ a)(hv:RVL w (Ys X β ob) β ob v.cells u.cells.toList)(base:Nat)(hb:64≤base):
  ∃w' z β',(Instr.box t u).run P w= .ok z w'∧Good P w w' X β β' ob (St.kill [base] ⟨fr,ob.set base (.box v.cells)⟩) a (.ptr base 0) z:=by
 refine ⟨_,_,_,?_,box_good (cells:=u.cells) (T:=t) hr hb hv⟩
 simp [Instr.box,newVar,newRow_run]
theorem allocA_ok{t _e:TypeId}{n:Nat}{s:Sh}{zs es:List D}(hr:Rel P w X β ⟨fr,ob⟩ a)(hz:zeroOf P t=some zs)(hc:chop s n zs=some es)(base:Nat)(hb:64≤base):
  ∃w' u β',(Instr.alloc t true (.tuple #[])).run P w= .ok u w'∧Good P w w' X β β' ob (St.kill [base] ⟨fr,ob.set base (.arr s n false es)⟩) a (.ptr base 0) u:=by
 obtain ⟨i,z,hi,hz',hrun,hrd⟩:=zeroOf_ok (w:=w) (Y:=Ys X β ob) hz
 obtain ⟨q1,q2,q3⟩:=chop_RL hc hrd
 have hg:=good_new (base:=base) (o:= .arr s n false es) (cap:=0) (cells:=z.cells) (T:=t) hr hb ?_
 ·refine ⟨w.alloc (.cells z.cells t),.pointer (some ⟨w.heap.size,0,none⟩),putPl β base (.blk w.heap.size 0),?_,hg.1,?_,hg.2.1,hg.2.2.1,hg.2.2.2⟩
  ·simp [Instr.alloc,hrun,newVar,newRow_run]
  ·simp only [RV]
   refine ⟨_,rfl,fun o _=> ?_⟩
   simp [putPl,Pl.block]
 ·intro hvs hd
  refine ⟨w.heap.size,0,z.cells,t,(0,0),rfl,alloc_new w _,.inl rfl,q1,by simpa using q2,q3.1,?_⟩
  intro i x j c hi hj
  obtain ⟨u,hu,hru⟩:=q3.2 i x j c hi hj
  exact ⟨u,by simpa using hu,hd _ _ hru⟩
theorem lst_good{base:Nat}{e:Sh}{es:List D}{mv:Bool}{cap:Nat}{cells:Array Value}{T:TypeId}(hr:Rel P w X β ⟨fr,ob⟩ a)(hb:64≤base)(hcap:es.length≤cap)(hsz:cap*e.size≤cells.size)(hl:RL w (Ys X β ob) e es cells):
  Good P w (w.alloc (.cells cells T)) X β (putPl β base (.blk w.heap.size cap)) ob (St.kill [base] ⟨fr,ob.set base (.lst e false mv false es)⟩) a (.own base) (.slice (some ⟨w.heap.size,0,none⟩) es.length cap):=by
 have hg:=good_new (base:=base) (o:= .lst e false mv false es) (cap:=cap) (cells:=cells) (T:=T) hr hb ?_
 ·refine ⟨hg.1,?_,hg.2.1,hg.2.2.1,hg.2.2.2⟩
  simp only [RV]
  refine ⟨_,_,_,rfl,fun e' n m z es' ho=> ?_⟩
  have:((ob.set base (.lst e false mv false es)).sub (killOf [base])).get base=some (.lst e false mv false es):=get_put_sub
  simp only [St.kill] at ho
  rw [this] at ho
  cases ho
  simp [putPl,Pl.slice]
 ·intro hvs hd
  refine ⟨rfl,hcap,cells,T,(0,0),alloc_new w _,⟨.inl rfl,fun _=>rfl⟩,hsz,hl.1,?_⟩
  intro i x j c hi hj
  obtain ⟨u,hu,hru⟩:=hl.2 i x j c hi hj
  exact ⟨u,hu,hd _ _ hru⟩
theorem Good.of_freeze{l:List Nat}{β':Nat→Pl}{st':St}{v:V}{u:Value}(h:Good P w w' X β β' (ob.freeze l) st' a v u):Good P w w' X β β' ob st' a v u:=
 ⟨h.rel,h.val,h.keep.mono fun _ _ h=>freeze_owned h,fun b hb=>(h.own b hb).imp freeze_owned id,(freeze_stay _).trans h.stay⟩
theorem buildSl_ok{t e:TypeId}{s:Sh}{zs:List D}{len:Nat}{parts:Array (Nat×Operand)}{cs:List V}{ds es:List D}{l:List Nat}(hr:Rel P w X β ⟨fr,ob⟩ a)(hu:P.underlying t=some (.slice e))(hs:sh P e=some s)
  (hz:zeroOf P e=some zs) (hzl:zs.length=s.size) (hsm:len*s.size<65536) (h:fillD ((repl len zs).map .d) (partsV fr (elemParts P e parts.toList))=some cs) (hd:datL ob cs=some (ds,l)) (hc:chop s len ds=some es) (base:Nat) (hb:64≤base):
  ∃w' u β',(Instr.buildSlice t len (parts.map fun (i,x)=>(i,a.eval x))).run P w= .ok u w'∧Good P w w' X β β' ob (St.kill [base] ⟨fr,(ob.freeze l).set base (.lst s false false false es)⟩) a (.own base) u:=by
 obtain ⟨i,z,hi,hz',hrun,hrd⟩:=zeroOf_ok (w:=w) (Y:=Ys X β ob) hz
 obtain ⟨hsz,_,_,_⟩:=sh_ok hs
 have his:i.size=s.size:=by simpa [Program.cellsOf,hi] using hsz
 have hzc:z.cells.size=s.size:=by rw [←hzl];simpa using hrd.1.symm
 have hrow:RDs w (Ys X β ob) (repl len zs) ((Array.range (len*s.size)).map (z.cells[· % z.cells.size]!)).toList∨len*s.size=0:=by
  by_cases h0:s.size=0
  ·right;simp [h0]
  ·left
   have:=zeros_ok hrd len (by simp;omega)
   simpa [hzc] using this
 have hfill: ∃us',Instr.fill (fun i=>some (i*s.size,s.size)) ((Array.range (len*s.size)).map (z.cells[· % z.cells.size]!)) (parts.map fun (i,x)=>(i,a.eval x)).toList=some us'.toArray∧RVL w (Ys X β ob) β ob cs us':=by
  have hrr:RVL w (Ys X β ob) β ob ((repl len zs).map .d) ((Array.range (len*s.size)).map (z.cells[· % z.cells.size]!)).toList:=by
   rcases hrow with hrow | h0
   ·exact RVL.map_d hrow.1 hrow.2
   ·have e1:repl len zs=[]:=List.eq_nil_of_length_eq_zero (by rw [repl_length,hzl];exact h0)
    rw [e1,h0];simp [RVL]
  obtain ⟨us',h1,h2⟩:=fillD_ok (partsV_elems (P:=P) (e:=e) (n:=s.size) hsz parts.toList hr.ob.tab hr.fr) h hrr
  rw [Array.toArray_toList] at h1
  exact ⟨us',by rw [Array.toList_map];exact h1,h2⟩
 obtain ⟨us',h1,h2⟩:=hfill
 have hrd2:=datL_ok (m:=l) hr.ob hd (fun _ h=>h) h2
 obtain ⟨q1,q2,q3⟩:=chop_RL hc hrd2
 have hg:=lst_good (base:=base) (e:=s) (es:=es) (mv:=false) (cap:=len) (cells:=us'.toArray) (T:=e) (hr.freeze l) hb (by omega) (by simp;omega) q3
 refine ⟨_,_,_,?_,hg.of_freeze⟩
 rw [q1]
 by_cases h0:len*s.size=0
 ·have hue:us'=[]:=List.eq_nil_of_length_eq_zero (by rw [q2];exact h0)
  subst hue
  simp only [h0] at h1
  unfold Instr.buildSlice
  simp only [Sem.run_bind,run_underlying hu,Result.andThen_ok,sh_size hs,h0]
  have hn: ¬(0:Nat) > 2 ^ 24:=by decide
  simp only [hn,if_false,if_true,Sem.run_bind,Sem.run_pure,Result.andThen_ok]
  have he: ∀f:Nat→Value,(Array.range 0).map f= #[]:=fun f=>by simp
  simp only [he] at h1 ⊢
  rw [h1]
  simp only [Sem.run_bind,newRow_run,Result.andThen_ok,Sem.run_pure]
 ·exact run_buildSlice w t e len _ us'.toArray i z hu hi hz' (by rw [his];omega) (by rw [his];exact h0) (by rw [his];exact h1)
end
section
variable {P:Program} {w w':World} {X Y:Nat→Prop} {β:Nat→Pl} {ob:Obs} {fr:List V} {a:Act}
theorem wrap_small{n:Int}(h0:0≤n)(h1:n<9223372036854775808):IntKind.i64.wrap n=n:=by
  have e : n % (2 ^ 64 : Int) = n := Int.emod_eq_of_lt h0 (by have : (2 : Int) ^ 64 = 18446744073709551616 := by decide
                                                              omega)
  have h3:(2:Int) ^ (64 - 1)=9223372036854775808:=by decide
  have h4:decide (n≥(2:Int) ^ (64 - 1))=false:=by rw [h3];exact decide_eq_false (by omega)
  unfold IntKind.wrap
  simp only [IntKind.bits,IntKind.signed,e,h4,Bool.and_false,Bool.false_eq_true,if_false]
theorem info_of_sh{t:TypeId}{s:Sh}(h:sh P t=some s): ∃i,P.info? t=some i∧i.size=s.size∧i.bytes≤1024∧0<i.bytes:=by
 obtain ⟨h1,h2,h3,_⟩:=sh_ok h
 unfold Program.cellsOf at h1
 unfold Program.bytesOf at h2 h3
 cases hi:P.info? t with
 | none=>simp [hi] at h3
 | some i=>simp [hi] at h1 h2 h3;exact ⟨i,rfl,h1,h2,h3⟩
theorem zeros_RL{e:Sh}{z:D}{zs:List D}{zc:Array Value}(hz:mkD e zs=some z)(hf:fits e z=true)(hr:RDs w Y zs zc.toList)(l n:Nat)(hln:l≤n):
  RL w Y e (List.replicate l z) ((Array.range (n*e.size)).map (zc[· % zc.size]!)):=by
 have hc:=mkD_cells hz hf
 have hsz:=fits_size hf
 rw [hc] at hsz
 have hzs:zc.size=e.size:=by rw [←hsz,hr.1];simp
 refine ⟨fun x hx=>by rw [List.eq_of_mem_replicate hx];exact hf,fun i x j c hi hj=> ?_⟩
 have hil:i<l:=by have:=(List.getElem?_eq_some_iff.mp hi).1;simpa using this
 have hx:x=z:=by
  rw [List.getElem?_replicate] at hi
  split at hi <;> simp_all
 subst hx
 rw [hc] at hj
 have hjl:j<e.size:=by rw [←hsz];exact (List.getElem?_eq_some_iff.mp hj).1
 have hlt:i*e.size+j<n*e.size:=by
  have:(i+1)*e.size≤n*e.size:=Nat.mul_le_mul_right _ (by omega)
  rw [Nat.add_mul] at this;omega
 have hmod:(i*e.size+j) % zc.size=j:=by rw [hzs,Nat.mul_comm,Nat.mul_add_mod,Nat.mod_eq_of_lt hjl]
 have hjz:j<zc.size:=by omega
 refine ⟨zc[j],?_,hr.2 j c _ hj (by simp [hjz])⟩
 simp [hlt,hmod,hjz]
theorem mkSl_ok{t e:TypeId}{s:Sh}{zs:List D}{z:D}{k j:IntKind}{l c:Int}{ul uc:Value}(hr:Rel P w X β ⟨fr,ob⟩ a)(hu:P.underlying t=some (.slice e))(hs:sh P e=some s)(hz:zeroOf P e=some zs)
  (hl:RD w (Ys X β ob) (.int k l) ul) (hc:RD w (Ys X β ob) (.int j c) uc) (hmk:mkD s zs=some z) (hf:fits s z=true) (hb:0≤l∧l≤c∧c≤(lim:Int)) (base:Nat) (h64:64≤base):
  ∃w' u β',(Instr.makeSlice t ul uc).run P w= .ok u w'∧Good P w w' X β β' ob (St.kill [base] ⟨fr,ob.set base (.lst s false false false (List.replicate l.toNat z))⟩) a (.own base) u:=by
 obtain ⟨i,hi,hsz,hb1,hb2⟩:=info_of_sh hs
 obtain ⟨i',zv,hi',hz',hrun,hrd⟩:=zeroOf_ok (w:=w) (Y:=Ys X β ob) hz
 cases hl;cases hc
 have hlim:lim=4294967296:=rfl
 have hcl:c≤4294967296:=by have:=hb.2.2;rw [hlim] at this;omega
 have hwl:IntKind.i64.wrap l=l:=wrap_small hb.1 (by omega)
 have hwc:IntKind.i64.wrap c=c:=wrap_small (by omega) (by omega)
 have hbc:(i.bytes:Int)*c≤1024*4294967296:=by
  have h1:(i.bytes:Int)≤1024:=by omega
  have h0:(0:Int)≤i.bytes:=by omega
  calc (i.bytes:Int)*c≤1024*c:=Int.mul_le_mul_of_nonneg_right h1 (by omega)
   _≤1024*4294967296:=by omega
 have hzn:=zeros_RL hmk hf hrd l.toNat c.toNat (by omega)
 have htl:(decide (c<0)||decide ((i.bytes:Int)*c > 2 ^ 48))=false:=by
  have:(2:Int) ^ 48=281474976710656:=by decide
  rw [this]
  simp only [Bool.or_eq_false_iff,decide_eq_false_iff_not]
  exact ⟨by omega,by omega⟩
 have hroom: ¬c.toNat*i.bytes > roomBytes:=by
  unfold roomBytes
  have h1:c.toNat*i.bytes≤4294967296*1024:=Nat.mul_le_mul (by omega) hb1
  have h2:(2:Nat) ^ 47=140737488355328:=by decide
  rw [h2]
  omega
 have h1: ¬l<0:=by omega
 have h2: ¬l > c:=by omega
 clear hbc hlim hcl
 by_cases h0:c.toNat*s.size=0
 ·have he: ∀f:Nat→Value,(Array.range 0).map f= #[]:=fun f=>by simp
  rw [h0,he] at hzn
  have hg:=lst_good (base:=base) (e:=s) (es:=List.replicate l.toNat z) (mv:=false) (cap:=c.toNat) (cells:= #[]) (T:=e) hr h64 (by rw [List.length_replicate];omega) (by rw [h0];exact Nat.le_refl _) hzn
  refine ⟨_,_,_,?_,hg⟩
  unfold Instr.makeSlice
  simp only [Sem.run_bind,run_underlying hu,Result.andThen_ok,asInt,asIntOf,Sem.run_pure,typeInfo,run_program,hi,hwl,hwc,
   htl,h1,h2,decide_false,Bool.or_false,Bool.false_eq_true,if_false,askRoom,hroom,sh_size hs,List.length_replicate,h0,if_true,he,newRow_run]
 ·have hg:=lst_good (base:=base) (e:=s) (es:=List.replicate l.toNat z) (mv:=false) (cap:=c.toNat) (cells:=(Array.range (c.toNat*s.size)).map (zv.cells[· % zv.cells.size]!)) (T:=e) hr h64 (by rw [List.length_replicate];omega) (by simp) hzn
  refine ⟨_,_,_,?_,hg⟩
  unfold Instr.makeSlice
  simp only [Sem.run_bind,run_underlying hu,Result.andThen_ok,asInt,asIntOf,Sem.run_pure,typeInfo,run_program,hi,hwl,hwc,
   htl,h1,h2,decide_false,Bool.or_false,Bool.false_eq_true,if_false,askRoom,hroom,sh_size hs,List.length_replicate,h0,hrun,newRow_run]
end
section
variable {P:Program} {w w':World} {X Y:Nat→Prop} {β:Nat→Pl} {ob:Obs} {fr:List V} {a:Act}
structure Elems(P:Program)(w:World)(Y:Nat→Prop)(e:Sh)(ys:List D)(u:Value)(new:List Value):Prop where
 len: ∀w1,(Builtin.lenOf u).run P w1= .ok ys.length w1
 read: ∀w1:World,w1.heap=w.heap→(Builtin.firstCells e.size ys.length u).run P w1= .ok new.toArray w1
 size:new.length=ys.length*e.size
 rl:RL w Y e ys new.toArray
theorem RD_cells{e:Sh}{es:List D}{a:Addr}{cap:Nat}(h:RD w Y (.sl e false es) (.slice (some a) es.length cap)):
  ∃new:List Value,new.length=es.length*e.size∧(∀(j:Nat) v,new[j]? =some v→w.cell? (a.add j)=some v)∧RL w Y e es new.toArray:=by
 cases h with
 | sl _ _ _ _ f hcap hfit hc hh=>
  refine ⟨(List.range (es.length*e.size)).map fun k=>f (k / e.size) (k % e.size),by simp,?_,hfit,?_⟩
  ·intro j v hj
   rw [List.getElem?_map] at hj
   cases hr:(List.range (es.length*e.size))[j]? with
   | none=>simp [hr] at hj
   | some k=>
    simp only [hr,Option.map_some,Option.some.injEq] at hj
    have hk:k=j∧j<es.length*e.size:=by
     have hjl:j<es.length*e.size:=by have:=(List.getElem?_eq_some_iff.mp hr).1;simpa using this
     rw [List.getElem?_range hjl] at hr
     exact ⟨(Option.some.inj hr).symm,hjl⟩
    obtain ⟨rfl,hlt⟩:=hk
    have hz:0<e.size:=by
     rcases Nat.eq_zero_or_pos e.size with h0 | h0
     ·rw [h0] at hlt;omega
     ·exact h0
    have hi:k / e.size<es.length:=(Nat.div_lt_iff_lt_mul hz).2 hlt
    have hx:es[k / e.size]? =some es[k / e.size]:=List.getElem?_eq_getElem hi
    have hm:k % e.size<(es[k / e.size]).cells.length:=by rw [fits_size (hfit _ (List.getElem_mem hi))];exact Nat.mod_lt _ hz
    obtain ⟨g1,g2,g3⟩:=hc _ _ _ _ hx (List.getElem?_eq_getElem hm)
    rw [←hj,←g3]
    have e1:k / e.size*e.size+k % e.size=k:=by rw [Nat.mul_comm];exact Nat.div_add_mod k e.size
    rw [e1]
    unfold Addr.add
    split
    ·rename_i h0
     subst h0
     cases a
     simp only at g2
     subst g2
     rfl
    ·rfl
  ·intro i x j c hi hj
   have hfx:=hfit x (List.mem_of_getElem? hi)
   have hjl:j<e.size:=by rw [←fits_size hfx];exact (List.getElem?_eq_some_iff.mp hj).1
   have hil:=(List.getElem?_eq_some_iff.mp hi).1
   have hlt:i*e.size+j<es.length*e.size:=by
    have:(i+1)*e.size≤es.length*e.size:=Nat.mul_le_mul_right _ hil
    rw [Nat.add_mul] at this;omega
   refine ⟨f i j,?_,hh i x j c hi hj⟩
   have h1:(i*e.size+j) / e.size=i:=by
    rw [Nat.mul_comm,Nat.mul_add_div (by omega),Nat.div_eq_of_lt hjl];rfl
   have h2:(i*e.size+j) % e.size=j:=by rw [Nat.mul_comm,Nat.mul_add_mod,Nat.mod_eq_of_lt hjl]
   simp [hlt,h1,h2]
theorem elemsOf_ok{e:Sh}{x:V}{ys:List D}{l:List Nat}{u:Value}(hR:RelO P w X β ob)(h:elemsOf ob e x=some (ys,l))(hv:RV w (Ys X β ob) β ob x u):
  ∃new,Elems P w (Ys X β ob) e ys u new:=by
 have rdcell: ∀(a:Addr) (cap:Nat) (new:List Value),(∀(j:Nat) v,new[j]? =some v→w.cell? (a.add j)=some v)→ ∀w1:World,w1.heap=w.heap→
   ∀n,new.length=n*e.size→ ∀len,(Builtin.firstCells e.size n (.slice (some a) len cap)).run P w1= .ok new.toArray w1:=by
  intro a cap new hnew w1 hw n hn len
  refine run_firstCells_some w1 e.size n a len cap new hn fun j v hj=> ?_
  have:=hnew j v hj
  simpa [World.cell?,hw] using this
 cases x <;> try (simp [elemsOf] at h;done)
 case d x=>
  cases x <;> try (simp [elemsOf] at h;done)
  case str s=>
   simp only [elemsOf] at h
   split at h
   ·rename_i he
    have he:=Sh.beq_eq he
    subst he
    simp only [Option.some.injEq,Prod.mk.injEq] at h
    obtain ⟨rfl,rfl⟩:=h
    cases RVd hv
    refine ⟨s.map fun b=> .int .u8 b.toNat,⟨fun w1=> ?_,fun w1 _=> ?_,?_,?_⟩⟩
    ·simp [Builtin.lenOf,ByteArray.size]
    ·simp [Builtin.firstCells,ByteArray.data_extract]
    ·simp [Sh.size,Sh.leafs]
    ·refine ⟨fun y hy=> ?_,fun i y j c hi hj=> ?_⟩
     ·obtain ⟨b,_,rfl⟩:=List.mem_map.1 hy;rfl
     ·rw [List.getElem?_map] at hi
      cases hs:s[i]? with
      | none=>simp [hs] at hi
      | some b=>
       simp only [hs,Option.map_some,Option.some.injEq] at hi
       subst hi
       cases j with
       | zero=>
        simp only [D.cells,List.getElem?_cons_zero,Option.some.injEq] at hj
        subst hj
        exact ⟨.int .u8 b.toNat,by simp [Sh.size,Sh.leafs,hs],.int _ _⟩
       | succ j=>simp [D.cells] at hj
   ·simp at h
  case sl f nl es=>
   simp only [elemsOf] at h
   split at h
   ·rename_i he
    have he:=Sh.beq_eq he
    subst he
    simp only [Option.some.injEq,Prod.mk.injEq] at h
    obtain ⟨rfl,rfl⟩:=h
    have hd:=RVd hv
    cases nl with
    | true=>
     cases hd
     exact ⟨[],⟨fun w1=>by simp [Builtin.lenOf],fun w1 _=>by simp [Builtin.firstCells],by simp,by simp,fun i y j c hi=>by simp at hi⟩⟩
    | false=>
     have hu: ∃ad cap,u= .slice (some ad) es.length cap:=by cases hd;exact ⟨_,_,rfl⟩
     obtain ⟨ad,cap,rfl⟩:=hu
     obtain ⟨new,h1,h2,h3⟩:=RD_cells hd
     exact ⟨new,⟨fun w1=>by simp [Builtin.lenOf],fun w1 hw=>rdcell ad cap new h2 w1 hw _ h1 _,h1,h3⟩⟩
   ·simp at h
 case own id=>
  simp only [elemsOf] at h
  split at h
  ·rename_i f nl m z es ho
   split at h
   ·rename_i he
    have he:=Sh.beq_eq he
    subst he
    simp only [Option.some.injEq,Prod.mk.injEq] at h
    obtain ⟨rfl,rfl⟩:=h
    simp only [RV] at hv
    obtain ⟨ad,n,c,rfl,hp⟩:=hv
    have hp:=hp _ _ _ _ _ ho
    have hro:=hR.obj id _ ho
    cases hb:β id with
    | nil=>
     rw [hb] at hp hro
     obtain ⟨_,rfl⟩:=hro
     simp only [Pl.slice] at hp
     rw [hp]
     exact ⟨[],⟨fun w1=>by simp [Builtin.lenOf],fun w1 _=>by simp [Builtin.firstCells],by simp,by simp,fun i y j c hi=>by simp at hi⟩⟩
    | capless a'=>
     rw [hb] at hp hro
     obtain ⟨_,rfl⟩:=hro
     simp only [Pl.slice] at hp
     rw [hp]
     exact ⟨[],⟨fun w1=>by simp [Builtin.lenOf],fun w1 hw=>rdcell _ _ [] (by simp) w1 hw 0 (by simp) _,by simp,by simp,fun i y j c hi=>by simp at hi⟩⟩
    | blk b cap=>
     rw [hb] at hp hro
     obtain ⟨_,hcap,vs,T,fz,hh,hf,hcs,hl⟩:=hro
     simp only [Pl.slice] at hp
     rw [hp]
     have hle:es.length*f.size≤vs.size:=Nat.le_trans (Nat.mul_le_mul_right _ hcap) hcs
     refine ⟨vs.toList.take (es.length*f.size),⟨fun w1=>by simp [Builtin.lenOf],fun w1 hw=>rdcell _ _ _ ?_ w1 hw _ (by simp;omega) _,by simp;omega,hl.1,?_⟩⟩
     ·intro j v hj
      rw [List.getElem?_take] at hj
      split at hj
      ·rw [add_cell,Nat.zero_add,cell_of_row w b j vs T fz hh]
       simpa using hj
      ·simp at hj
     ·intro i x j c hi hj
      obtain ⟨v,hv',hr⟩:=hl.2 i x j c hi hj
      refine ⟨v,?_,hr⟩
      have hfx:=hl.1 x (List.mem_of_getElem? hi)
      have hjl:j<f.size:=by rw [←fits_size hfx];exact (List.getElem?_eq_some_iff.mp hj).1
      have hil:=(List.getElem?_eq_some_iff.mp hi).1
      have hlt:i*f.size+j<es.length*f.size:=by
       have:(i+1)*f.size≤es.length*f.size:=Nat.mul_le_mul_right _ hil
       rw [Nat.add_mul] at this;omega
      rw [List.getElem?_toArray,List.getElem?_take,if_pos hlt]
      simpa using hv'
   ·simp at h
  ·simp at h
 case cap0 f=>
  simp only [elemsOf] at h
  split at h
  ·simp only [Option.some.injEq,Prod.mk.injEq] at h
   obtain ⟨rfl,rfl⟩:=h
   simp only [RV] at hv
   obtain ⟨ad,rfl⟩:=hv
   exact ⟨[],⟨fun w1=>by simp [Builtin.lenOf],fun w1 hw=>rdcell _ _ [] (by simp) w1 hw 0 (by simp) _,by simp,by simp,fun i y j c hi=>by simp at hi⟩⟩
  ·simp at h
theorem nextcap_le{need old:Nat}(h:old<need):Builtin.nextslicecap need old≤2*need+1000:=by
 unfold Builtin.nextslicecap
 split
 ·omega
 ·split
  ·omega
  ·rw [growBy_four]
   repeat' split
   all_goals omega
theorem zeroCells_size(z:Array Value)(n:Nat):(Builtin.zeroCells z n).size=n*z.size:=by simp [Builtin.zeroCells]
theorem append_grow{t u ty e:TypeId}{s:Sh}{base:Option Addr}{es ys:List D}{cap:Nat}{x:Value}{old new:List Value}(hu:P.underlying t=some (.slice e))(hs:sh P e=some s)(hx: ∃d,P.underlying u=some d∧ ∀k,d≠ .int k)
  (hz: ∃zs,zeroOf P e=some zs∧zs.length=s.size) (hold:Elems P w Y s es (.slice base es.length cap) old) (hnew:Elems P w Y s ys x new) (hg:cap<es.length+ys.length) (hlim:es.length+ys.length≤8589934592):
  ∃w' cap' rest,(Builtin.append_ #[t,u] ty #[.slice base es.length cap,x]).run P w= .ok (.slice (some ⟨w.heap.size,0,none⟩) (es.length+ys.length) cap') w'∧
   w'.heap=(w.alloc (.cells (old++new++rest).toArray e)).heap∧es.length+ys.length≤cap'∧cap'*s.size=(old++new++rest).length∧w'.os=w.os∧w'.output=w.output:=by
 obtain ⟨i,hi,hsz,hb1,hb2⟩:=info_of_sh hs
 obtain ⟨zs,hz,hzl⟩:=hz
 obtain ⟨d,hd,hdk⟩:=hx
 have hq:(Question.appendCap (es.length+ys.length) cap e).forced=false:=rfl
 obtain ⟨q,hqe⟩: ∃q,q=(Question.appendCap (es.length+ys.length) cap e).cut (w.tape w.drawn (.appendCap (es.length+ys.length) cap e)):=⟨_,rfl⟩
 have hqge:es.length+ys.length≤q:=by rw [hqe];simp [Question.cut]
 obtain ⟨w1,hw1⟩: ∃w1:World,w1= { w with drawn:=w.drawn+1 }:=⟨_,rfl⟩
 have hheap:w1.heap=w.heap:=by rw [hw1]
 obtain ⟨i',zv,hi',hz',hrun,hrd⟩:=zeroOf_ok (P:=P) (w:=w1) (Y:=Y) hz
 have hch:(choose (.appendCap (es.length+ys.length) cap e)).run P w= .ok q w1:=by
  rw [hw1,hqe];simp [choose,Sem.run,hq]
 have hzc:zv.cells.size=s.size:=by rw [←hzl];simpa using hrd.1.symm
 refine ⟨w1.alloc (.cells (old++new++(Builtin.zeroCells zv.cells (q - (es.length+ys.length))).toList).toArray e),q,(Builtin.zeroCells zv.cells (q - (es.length+ys.length))).toList,?_,?_,hqge,?_,by rw [hw1];exact ⟨rfl,rfl⟩⟩
 ·have hm:(match d with | .int _=>true | _=>false)=false:=by
   cases d with
   | int k=>exact (hdk k rfl).elim
   | _=>rfl
  have hneed: ¬(es.length+ys.length≤cap):=by omega
  have hbig: ¬(((es.length+ys.length:Nat):Int) > IntKind.i64.max∧i.bytes=0):=by
   rintro ⟨h1,h2⟩
   have:IntKind.i64.max=9223372036854775807:=by decide
   rw [this] at h1
   omega
  have hcapb: ¬(Builtin.nextslicecap (es.length+ys.length) cap*i.bytes > 2 ^ 48):=by
   have h1:=nextcap_le hg
   have h2:Builtin.nextslicecap (es.length+ys.length) cap*i.bytes≤(2*8589934592+1000)*1024:=Nat.mul_le_mul (by omega) hb1
   have h3:(2:Nat) ^ 48=281474976710656:=by decide
   rw [h3];omega
  have hroom: ∀n,(askRoom n).run P w1= .ok () w1:=by
   intro n
   unfold askRoom
   split <;> simp [mark,Sem.run]
  unfold Builtin.append_
  simp only [List.getElem?_toArray,List.getElem?_cons_zero,List.getElem?_cons_succ,Sem.run_bind,run_underlying hu,Result.andThen_ok,sh_size hs,run_underlying hd,Sem.run_pure,Bool.false_eq_true,if_false,hnew.len,
   hneed,typeInfo,run_program,hi,hbig,false_or,hcapb,hch,hroom,hold.read w1 hheap,hnew.read w1 hheap,Bool.not_false,if_true,hrun,newRow_run]
  have ea:old.toArray++new.toArray++Builtin.zeroCells zv.cells (q - (es.length+ys.length))=(old++new++(Builtin.zeroCells zv.cells (q - (es.length+ys.length))).toList).toArray:=by
   apply Array.toList_inj.mp;simp
  rw [ea,hheap]
 ·show (w1.heap.push _)=w.heap.push _
  rw [hheap]
 ·simp only [List.length_append,Array.length_toList,zeroCells_size,hzc,hold.size,hnew.size]
  rw [←Nat.add_mul,←Nat.add_mul]
  congr 1
  omega
theorem own_good{id:Nat}{s:Sh}{nl mv:Bool}{es:List D}{p:Pl}(hr:Rel P w X β ⟨fr,ob⟩ a)(hmv:64≤id∨mv=true)(hsz:Grew w w')
  (hheap: ∀b,b<w.heap.size→ ¬Ch β ob id b→w'.heap[b]? =w.heap[b]?)
  (hnew: ∀b cap,p= .blk b cap→b<w.heap.size→ ∃cap' o',ob.get id=some o'∧β id= .blk b cap'∧o'.frozen=false)
  (hro:(∀x u,RD w (Ys X β ob) x u→RD w' (Ys X (putPl β id p) ((ob.set id (.lst s nl mv false es)).sub (killOf [id]))) x u)→
   RO P w' (Ys X (putPl β id p) ((ob.set id (.lst s nl mv false es)).sub (killOf [id]))) (putPl β id p) ((ob.set id (.lst s nl mv false es)).sub (killOf [id])) p (.lst s nl mv false es)):
  Good P w w' X β (putPl β id p) ob (St.kill [id] ⟨fr,ob.set id (.lst s nl mv false es)⟩) a (.own id) (p.slice es.length):=by
 have hg:=good_put (o:= .lst s nl mv false es) hr hmv hsz hheap (fun b cap hp hb=>by
  obtain ⟨c,o',h1,h2,h3⟩:=hnew b cap hp hb
  exact ⟨c,o',h1,h2,fun _=>h3⟩) (fun _ hd=>hro hd)
 refine ⟨hg.1,?_,hg.2.1,hg.2.2.1,hg.2.2.2⟩
 simp only [RV]
 have hsh: ∃b n c,p.slice es.length= .slice b n c:=by cases p <;> exact ⟨_,_,_,rfl⟩
 obtain ⟨b,n,c,hb⟩:=hsh
 refine ⟨b,n,c,hb,fun e' n m z es' ho=> ?_⟩
 have:((ob.set id (.lst s nl mv false es)).sub (killOf [id])).get id=some (.lst s nl mv false es):=get_put_sub
 simp only [St.kill] at ho
 rw [this] at ho
 cases ho
 simp [putPl]
theorem RL_append{e:Sh}{es ys:List D}{old new rest:List Value}(h1:RL w Y e es old.toArray)(h2:RL w Y e ys new.toArray)(hs:old.length=es.length*e.size):RL w Y e (es++ys) (old++new++rest).toArray:=by
 refine ⟨fun x hx=>(List.mem_append.1 hx).elim (h1.1 x) (h2.1 x),fun i x j c hi hj=> ?_⟩
 by_cases hlt:i<es.length
 ·rw [List.getElem?_append_left hlt] at hi
  obtain ⟨u,hu,hr⟩:=h1.2 i x j c hi hj
  have hjl:i*e.size+j<old.length:=by
   have:=(Array.getElem?_eq_some_iff.mp hu).1;simpa using this
  refine ⟨u,?_,hr⟩
  rw [List.getElem?_toArray,List.append_assoc,List.getElem?_append_left hjl]
  simpa using hu
 ·rw [List.getElem?_append_right (by omega)] at hi
  obtain ⟨u,hu,hr⟩:=h2.2 _ x j c hi hj
  refine ⟨u,?_,hr⟩
  have hjn:(i - es.length)*e.size+j<new.length:=by
   have:=(Array.getElem?_eq_some_iff.mp hu).1;simpa using this
  have hge:es.length*e.size≤i*e.size:=Nat.mul_le_mul_right _ (by omega)
  have he:i*e.size+j - old.length=(i - es.length)*e.size+j:=by
   rw [hs,Nat.sub_mul];omega
  rw [List.getElem?_toArray,List.append_assoc,List.getElem?_append_right (by rw [hs];omega),he,List.getElem?_append_left hjn]
  simpa using hu
theorem append_none{t u ty e:TypeId}{s:Sh}{base:Option Addr}{x:Value}{new:List Value}(hu:P.underlying t=some (.slice e))(hs:sh P e=some s)(hx: ∃d,P.underlying u=some d∧ ∀k,d≠ .int k)
  (hnew:Elems P w Y s [] x new):(Builtin.append_ #[t,u] ty #[.slice base 0 0,x]).run P w= .ok (.slice base 0 0) w:=by
 obtain ⟨d,hd,hdk⟩:=hx
 have hm:(match d with | .int _=>true | _=>false)=false:=by
  cases d with
  | int k=>exact (hdk k rfl).elim
  | _=>rfl
 have hn:new=[]:=List.eq_nil_of_length_eq_zero (by simpa using hnew.size)
 subst hn
 have h1:=hnew.len w
 have h2:=hnew.read w rfl
 simp only [List.length_nil] at h1 h2
 unfold Builtin.append_
 simp only [List.getElem?_toArray,List.getElem?_cons_zero,List.getElem?_cons_succ,Sem.run_bind,run_underlying hu,Result.andThen_ok,sh_size hs,run_underlying hd,Sem.run_pure,Bool.false_eq_true,if_false,h1,
  Nat.add_zero,Nat.le_refl,if_true,Bool.not_false,h2]
 cases base <;> simp [storeCells]
theorem append_room{t u ty e:TypeId}{s:Sh}{b cap:Nat}{vs:Array Value}{T:TypeId}{fz:Nat×Nat}{es ys:List D}{x:Value}{new:List Value}(hu:P.underlying t=some (.slice e))(hs:sh P e=some s)(hx: ∃d,P.underlying u=some d∧ ∀k,d≠ .int k)
  (hnew:Elems P w Y s ys x new) (hh:w.heap[b]? =some (.cells vs T fz)) (hf:NoFz fz vs.size) (hcs:cap*s.size≤vs.size) (hle:es.length+ys.length≤cap) (h1: ∀v∈new,v.oneCell'=true):
  (Builtin.append_ #[t,u] ty #[.slice (some ⟨b,0,none⟩) es.length cap,x]).run P w=
   .ok (.slice (some ⟨b,0,none⟩) (es.length+ys.length) cap) (w.setRow b (vs.toList.take (es.length*s.size)++new++vs.toList.drop (es.length*s.size+new.length)).toArray):=by
 obtain ⟨d,hd,hdk⟩:=hx
 have hm:(match d with | .int _=>true | _=>false)=false:=by
  cases d with
  | int k=>exact (hdk k rfl).elim
  | _=>rfl
 have hfit:es.length*s.size+0+new.length≤vs.size:=by
  rw [hnew.size,Nat.add_zero,←Nat.add_mul]
  exact Nat.le_trans (Nat.mul_le_mul_right _ hle) hcs
 have hst:=storeCells_ok (P:=P) b (es.length*s.size) T fz new 0 vs w hh hf hfit h1
 simp only [Nat.add_zero] at hst
 unfold Builtin.append_
 simp only [List.getElem?_toArray,List.getElem?_cons_zero,List.getElem?_cons_succ,Sem.run_bind,run_underlying hu,Result.andThen_ok,sh_size hs,run_underlying hd,Sem.run_pure,Bool.false_eq_true,if_false,hnew.len,
  hle,if_true,Bool.not_false,hnew.read w rfl,add_cell,Nat.zero_add,hst]
theorem RL_one{e:Sh}{es:List D}{new:List Value}(h:RL w Y e es new.toArray)(hs:new.length=es.length*e.size): ∀v∈new,v.oneCell'=true:=by
 intro v hv
 obtain ⟨k,hk,rfl⟩:=List.getElem_of_mem hv
 have hz:0<e.size:=by
  rcases Nat.eq_zero_or_pos e.size with h0 | h0
  ·rw [hs,h0] at hk;omega
  ·exact h0
 rw [hs] at hk
 have hi:k / e.size<es.length:=(Nat.div_lt_iff_lt_mul hz).2 hk
 have hfx:=h.1 _ (List.getElem_mem hi)
 have hm:k % e.size<(es[k / e.size]).cells.length:=by rw [fits_size hfx];exact Nat.mod_lt _ hz
 obtain ⟨u,hu,hr⟩:=h.2 _ _ _ _ (List.getElem?_eq_getElem hi) (List.getElem?_eq_getElem hm)
 have e1:k / e.size*e.size+k % e.size=k:=by rw [Nat.mul_comm];exact Nat.div_add_mod k e.size
 rw [e1] at hu
 have hu':u=new[k]:=by
  have:new[k]? =some u:=by simpa using hu
  rw [List.getElem?_eq_getElem (by rw [hs];exact hk)] at this
  exact (Option.some.inj this).symm
 rw [←hu']
 refine (oneCell_d hr ?_).1
 intro cs hc
 have hfl:=fits_cells hfx
 have key: ∀(ks:List Sh) (xs:List D) (j:Nat) (cs:List D),fitsL ks xs=true→xs[j]? =some (.agg cs)→False:=by
  intro ks
  induction ks with
  | nil=>intro xs j cs h1 h2;cases xs <;> simp_all [fitsL]
  | cons k ks ih=>
   intro xs j cs h1 h2
   cases xs with
   | nil=>simp [fitsL] at h1
   | cons x xs=>
    simp only [fitsL,Bool.and_eq_true] at h1
    cases j with
    | zero=>
     simp only [List.getElem?_cons_zero,Option.some.injEq] at h2
     subst h2
     cases k <;> simp [fitsLeaf] at h1
    | succ j=>exact ih xs j cs h1.2 (by simpa using h2)
 exact key _ _ _ cs hfl (by rw [←hc];exact List.getElem?_eq_getElem hm)
theorem appD_ok{t u ty e:TypeId}{s:Sh}{S x:V}{sv xv:Value}{r:Out}{bs:Nat}(hr:Rel P w X β ⟨fr,ob⟩ a)(hbs:64≤bs)(hu:P.underlying t=some (.slice e))(hs:sh P e=some s)(hx: ∃d,P.underlying u=some d∧ ∀k,d≠ .int k)
  (hz: ∃zs,zeroOf P e=some zs∧zs.length=s.size) (hS:RV w (Ys X β ob) β ob S sv) (hX:RV w (Ys X β ob) β ob x xv) (h:(appD ob bs s S x).eval=some r):
  ∃w' u' β',(Builtin.append_ #[t,u] ty #[sv,xv]).run P w= .ok u' w'∧Good P w w' X β β' ob (St.kill r.kl ⟨fr,r.ob⟩) a r.v u':=by
 unfold appD at h
 split at h
 ·simp [Tree.eval] at h
 ·rename_i ys l hel
  obtain ⟨new,hE⟩:=elemsOf_ok (P:=P) hr.ob hel hX
  have hone:=RL_one hE.rl hE.size
  have empty: ∀(base:Option Addr),Elems P w (Ys X β ob) s [] (.slice base 0 0) []:=fun base=>
   ⟨fun w1=>by simp [Builtin.lenOf],fun w1 _=>by
    cases base with
    | none=>simp [Builtin.firstCells]
    | some ad=>exact run_firstCells_some w1 s.size 0 ad 0 0 [] (by simp) (by simp),by simp,by simp,fun i y j c hi=>by simp at hi⟩
  have fresh: ∀(base:Option Addr) (id:Nat) (nl mv:Bool),(nl=true↔ys=[]∧base=none)→ys.length≤4294967296→(64≤id∨mv=true)→
    ∃w' u' β',(Builtin.append_ #[t,u] ty #[.slice base 0 0,xv]).run P w= .ok u' w'∧Good P w w' X β β' ob (St.kill [id] ⟨fr,ob.set id (.lst s nl mv false ys)⟩) a (.own id) u':=by
   intro base id nl mv hnl hlim hmv
   by_cases hy:ys=[]
   ·subst hy
    have hrun:=append_none (ty:=ty) hu hs hx (base:=base) hE
    cases base with
    | none=>
     have hn:nl=true:=hnl.2 ⟨rfl,rfl⟩
     exact ⟨w,_,_,hrun,own_good (p:= .nil) hr hmv (Grew.refl _) (fun _ _ _=>rfl) (fun b c hp=>by cases hp) (fun _=>⟨hn,rfl⟩)⟩
    | some ad=>
     have hn:nl=false:=by
      cases nl
      ·rfl
      ·exact absurd (hnl.1 rfl).2 (by simp)
     exact ⟨w,_,_,hrun,own_good (p:= .capless ad) hr hmv (Grew.refl _) (fun _ _ _=>rfl) (fun b c hp=>by cases hp) (fun _=>⟨hn,rfl⟩)⟩
   ·have hpos:0<ys.length:=List.length_pos_iff.2 hy
    have hn:nl=false:=by
     cases nl
     ·rfl
     ·exact absurd (hnl.1 rfl).1 hy
    obtain ⟨w',cap',rest,hrun,hheap,hcap,hsz,hout⟩:=append_grow (ty:=ty) hu hs hx hz (es:=[]) (empty base) hE (by simpa using hpos) (by simp;omega)
    refine ⟨w',.slice (some ⟨w.heap.size,0,none⟩) ys.length cap',putPl β id (.blk w.heap.size cap'),by simpa using hrun,?_⟩
    have:=own_good (w':=w') (id:=id) (s:=s) (nl:=nl) (mv:=mv) (es:=ys) (p:= .blk w.heap.size cap') hr hmv ⟨by rw [hheap,alloc_size];omega,hout⟩
     (fun b hb _=>by rw [hheap];exact alloc_old w _ b hb) (fun b c hp hb=>by cases hp;omega) ?_
    ·simpa [Pl.slice] using this
    ·intro hd
     refine ⟨hn,by simpa using hcap,_,e,(0,0),by rw [hheap];exact alloc_new w _,⟨.inl rfl,fun _=>rfl⟩,by rw [hsz];simp,hE.rl.1,?_⟩
     intro i y j c hi hj
     have hrl:=RL_append (rest:=rest) (empty base).rl hE.rl (by simp)
     obtain ⟨v,hv,hvr⟩:=hrl.2 i y j c (by simpa using hi) hj
     exact ⟨v,hv,hd _ _ hvr⟩
  split at h
  ·rename_i f
   split at h
   ·rename_i hc
    simp only [Tree.eval] at h
    split at h
    ·rename_i hlim
     have hlim:=of_decide_eq_true hlim
     simp only [Option.some.injEq] at h
     subst h
     cases RVd hS
     exact fresh none bs _ _ (by simp) (by simpa [lim] using hlim) (.inl hbs)
    ·simp at h
   ·simp [Tree.eval] at h
  ·rename_i f
   split at h
   ·rename_i hc
    simp only [Tree.eval] at h
    split at h
    ·rename_i hlim
     have hlim:=of_decide_eq_true hlim
     simp only [Option.some.injEq] at h
     subst h
     simp only [RV] at hS
     obtain ⟨ad,rfl⟩:=hS
     exact fresh (some ad) bs _ _ (by simp) (by simpa [lim] using hlim) (.inl hbs)
    ·simp at h
   ·simp [Tree.eval] at h
  ·rename_i id
   split at h
   ·rename_i f nl mv es ho
    split at h
    ·rename_i hc
     simp only [Bool.and_eq_true] at hc
     have hfe:=Sh.beq_eq hc.1
     subst hfe
     simp only [Tree.eval] at h
     split at h
     ·rename_i hlim
      have hlim:es.length+ys.length≤4294967296:=of_decide_eq_true hlim
      simp only [Option.some.injEq] at h
      subst h
      simp only [RV] at hS
      obtain ⟨ad,n,c,rfl,hp⟩:=hS
      have hp:=hp _ _ _ _ _ ho
      have hro:=hr.ob.obj id _ ho
      cases hb:β id with
      | nil=>
       rw [hb] at hp hro
       obtain ⟨rfl,rfl⟩:=hro
       simp only [Pl.slice] at hp
       rw [hp]
       simpa using fresh none id ys.isEmpty true (by simp) (by simpa using hlim) (.inr rfl)
      | capless ad'=>
       rw [hb] at hp hro
       obtain ⟨rfl,rfl⟩:=hro
       simp only [Pl.slice] at hp
       rw [hp]
       simpa using fresh (some ad') id false true (by simp) (by simpa using hlim) (.inr rfl)
      | blk b cap=>
       rw [hb] at hp hro
       obtain ⟨rfl,hcap,vs,T,fz,hh,hf,hcs,hl⟩:=hro
       simp only [Pl.slice] at hp
       rw [hp]
       by_cases hroom:es.length+ys.length≤cap
       ·have hrun:=append_room (ty:=ty) hu hs hx hE hh hf.1 hcs hroom hone
        refine ⟨_,_,putPl β id (.blk b cap),hrun,?_⟩
        have hsz:(vs.toList.take (es.length*f.size)++new++vs.toList.drop (es.length*f.size+new.length)).toArray.size=vs.size:=by
         have:es.length*f.size+new.length≤vs.size:=by
          rw [hE.size,←Nat.add_mul]
          exact Nat.le_trans (Nat.mul_le_mul_right _ hroom) hcs
         simp;omega
        have:=own_good (w':=w.setRow b (vs.toList.take (es.length*f.size)++new++vs.toList.drop (es.length*f.size+new.length)).toArray) (id:=id) (s:=f) (nl:=false&&ys.isEmpty) (mv:=true) (es:=es++ys) (p:= .blk b cap) hr (.inr rfl)
         ⟨by rw [setRow_size];exact Nat.le_refl _,rfl,rfl⟩ ?_ (fun b' c hp' _=>by cases hp';exact ⟨cap,_,ho,hb,rfl⟩) ?_
        ·simpa [Pl.slice] using this
        ·intro b' hb' hn'
         refine setRow_other _ _ _ _ fun he=>hn' ?_
         subst he
         exact ⟨_,cap,ho,rfl,hb⟩
        ·intro hd
         refine ⟨rfl,by simpa using hroom,_,T,fz,setRow_heap w b vs _ T fz hh,by rw [hsz];exact hf,by rw [hsz];exact hcs,?_⟩
         have hle:es.length*f.size≤vs.size:=Nat.le_trans (Nat.mul_le_mul_right _ hcap) hcs
         have hold:RL w (Ys X β ob) f es (vs.toList.take (es.length*f.size)).toArray:=by
          refine ⟨hl.1,fun i y j c hi hj=> ?_⟩
          obtain ⟨v,hv,hvr⟩:=hl.2 i y j c hi hj
          refine ⟨v,?_,hvr⟩
          have hfx:=hl.1 y (List.mem_of_getElem? hi)
          have hjl:j<f.size:=by rw [←fits_size hfx];exact (List.getElem?_eq_some_iff.mp hj).1
          have hil:=(List.getElem?_eq_some_iff.mp hi).1
          have hlt:i*f.size+j<es.length*f.size:=by
           have:(i+1)*f.size≤es.length*f.size:=Nat.mul_le_mul_right _ hil
           rw [Nat.add_mul] at this;omega
          rw [List.getElem?_toArray,List.getElem?_take,if_pos hlt]
          simpa using hv
         have hrl:=RL_append (rest:=vs.toList.drop (es.length*f.size+new.length)) hold hE.rl (by simp;omega)
         refine ⟨hrl.1,fun i y j c hi hj=> ?_⟩
         obtain ⟨v,hv,hvr⟩:=hrl.2 i y j c hi hj
         exact ⟨v,hv,hd _ _ hvr⟩
       ·obtain ⟨old,hold⟩:=elemsOf_ok (P:=P) (e:=f) (x:= .own id) (ys:=es) (l:=[id]) hr.ob (by simp only [elemsOf,ho];rw [hc.1];rfl) (u:= .slice (some ⟨b,0,none⟩) es.length cap)
         (by simp only [RV];exact ⟨_,_,_,rfl,fun e' n m z es' ho'=>by rw [ho] at ho';cases ho';rw [hb];rfl⟩)
        obtain ⟨w',cap',rest,hrun,hheap,hcap',hsz,hout⟩:=append_grow (ty:=ty) hu hs hx hz hold hE (by omega) (by omega)
        refine ⟨w',_,putPl β id (.blk w.heap.size cap'),hrun,?_⟩
        have hpos:0<ys.length:=by omega
        have:=own_good (w':=w') (id:=id) (s:=f) (nl:=false&&ys.isEmpty) (mv:=true) (es:=es++ys) (p:= .blk w.heap.size cap') hr (.inr rfl) ⟨by rw [hheap,alloc_size];omega,hout⟩
         (fun b hb _=>by rw [hheap];exact alloc_old w _ b hb) (fun b c hp hb=>by cases hp;omega) ?_
        ·simpa [Pl.slice] using this
        ·intro hd
         refine ⟨rfl,by simpa using hcap',_,e,(0,0),by rw [hheap];exact alloc_new w _,⟨.inl rfl,fun _=>rfl⟩,by rw [hsz];simp,?_⟩
         have hrl:=RL_append (rest:=rest) hold.rl hE.rl hold.size
         refine ⟨hrl.1,fun i y j c hi hj=> ?_⟩
         obtain ⟨v,hv,hvr⟩:=hrl.2 i y j c hi hj
         exact ⟨v,hv,hd _ _ hvr⟩
     ·simp at h
    ·simp [Tree.eval] at h
   ·simp [Tree.eval] at h
  ·simp [Tree.eval] at h
end
section
variable {P:Program} {w w':World} {X Y:Nat→Prop} {β:Nat→Pl} {ob:Obs} {fr:List V} {a:Act}
theorem runs_good{s:Sem Next}{u:Value}{β':Nat→Pl}{r:Out}(h:s.run P w= .ok (.value u) w')(hg:Good P w w' X β β' ob (St.kill r.kl ⟨fr,r.ob⟩) a r.v u):Runs P w X β fr ob a s r:=
 ⟨_,u,w',β',h,.inl rfl,hg⟩
theorem run_next{s:Sem Value}{u:Value}(h:s.run P w= .ok u w'):((do pure (.value (←s)):Sem Next).run P w)= .ok (.value u) w':=by
 simp [h]
theorem slcV_ok{t e:TypeId}{s:Sh}{lo hi:Option V}{lov hiv:Option Value}{S:V}{sv:Value}{r:Out}(hr:Rel P w X β ⟨fr,ob⟩ a)(ht:P.underlying t=some (.slice e))(hs:sh P e=some s)
  (hl:ROp w (Ys X β ob) β ob lo lov) (hh:ROp w (Ys X β ob) β ob hi hiv) (hS:RV w (Ys X β ob) β ob S sv) (h:(slcV ob s lo hi S).eval=some r):
  ∃u,(Instr.sliceAt t sv lov hiv none).run P w= .ok u w∧Good P w w X β β ob (St.kill r.kl ⟨fr,r.ob⟩) a r.v u:=by
 have main: ∀(nl:Bool) (es:List D) (l k:Nat) (ob':Obs),(sliceOf es.length lo hi).eval=some (l,k)→RD w (Ys X β ob') (.sl s nl es) sv→Rel P w X β ⟨fr,ob'⟩ a→OwnIn w β β ob ob'→Stay β β ob ob'→
   ∃u,(Instr.sliceAt t sv lov hiv none).run P w= .ok u w∧Good P w w X β β ob ⟨fr,ob'⟩ a (.d (.sl s nl ((es.drop l).take (k - l)))) u:=by
  intro nl es l k ob' h1 hd hr' ho hst
  obtain ⟨q1,q2,q3⟩:=sliceOf_ok (P:=P) h1 hl hh
  have hu: ∃ad n cap,sv= .slice ad n cap∧n=es.length∧n≤cap:=by
   cases hd with
   | slnil=>exact ⟨none,0,0,rfl,rfl,Nat.le_refl _⟩
   | sl _ _ ad cap f hcap=>exact ⟨some ad,_,cap,rfl,rfl,hcap⟩
  obtain ⟨ad,n,cap,rfl,rfl,hcap⟩:=hu
  refine ⟨_,slice_run ht hs (q3 true cap hcap),hr',?_,Keep.refl _ _,ho,hst⟩
  simp only [RV]
  exact hd.piece rfl q1 q2
 cases S <;> try (simp [slcV,Tree.eval] at h;done)
 case d x=>
  cases x <;> try (simp [slcV,Tree.eval] at h;done)
  rename_i f nl es
  simp only [slcV] at h
  split at h
  ·rename_i hf
   have hf:=Sh.beq_eq hf
   subst hf
   obtain ⟨⟨l,k⟩,h1,h2⟩:=Tree.bind_eval.1 h
   simp only [Tree.eval,Option.some.injEq] at h2
   subst h2
   exact main nl es l k ob h1 (RVd hS) hr (OwnIn.refl _ _ _) (Stay.refl _ _)
  ·simp [Tree.eval] at h
 case own id=>
  simp only [slcV] at h
  split at h
  ·rename_i f nl m z es ho
   split at h
   ·rename_i hf
    have hf:=Sh.beq_eq hf
    subst hf
    obtain ⟨⟨l,k⟩,h1,h2⟩:=Tree.bind_eval.1 h
    simp only [Tree.eval,Option.some.injEq] at h2
    subst h2
    exact main nl es l k (ob.freeze [id]) h1 (own_data hr.ob ho (by simp) hS) (hr.freeze _) (OwnIn.freeze _) (freeze_stay _)
   ·simp [Tree.eval] at h
  ·simp [Tree.eval] at h
theorem slcAV_ok{e:TypeId}{n:Nat}{s:Sh}{lo hi:Option V}{lov hiv:Option Value}{S:V}{sv:Value}{r:Out}(hr:Rel P w X β ⟨fr,ob⟩ a)(hs:sh P e=some s)
  (hl:ROp w (Ys X β ob) β ob lo lov) (hh:ROp w (Ys X β ob) β ob hi hiv) (hS:RV w (Ys X β ob) β ob S sv) (h:(slcAV ob s n lo hi S).eval=some r):
  ∃b l k,sv= .pointer (some ⟨b,0,none⟩)∧(Instr.sliceBounds false n n lov hiv none).run P w= .ok (l,k,n) w∧
   Good P w w X β β ob (St.kill r.kl ⟨fr,r.ob⟩) a r.v (.slice (some (if n=l then ⟨b,0,none⟩ else (⟨b,0,none⟩:Addr).add (l*s.size))) (k - l) (n - l)):=by
 cases S <;> try (simp [slcAV,Tree.eval] at h;done)
 rename_i id off
 simp only [slcAV] at h
 split at h
 ·rename_i f m z es ho
  split at h
  ·rename_i hc
   simp only [Bool.and_eq_true] at hc
   have hoff:=beqN hc.1.1
   have hf:=Sh.beq_eq hc.1.2
   have hm:=beqN hc.2
   subst hoff hf hm
   obtain ⟨⟨l,k⟩,h1,h2⟩:=Tree.bind_eval.1 h
   split at h2
   ·simp only [Tree.eval] at h2
    split at h2
    ·rename_i hlt
     have hlt:l<m:=by simpa using hlt
     simp only [Option.some.injEq] at h2
     subst h2
     obtain ⟨q1,q2,q3⟩:=sliceOf_ok (P:=P) h1 hl hh
     simp only [RV] at hS
     obtain ⟨ad,rfl,ha⟩:=hS
     have ha:=ha _ ho
     obtain ⟨b,cap,vs,T,fz,hp,hh',hf,hm,hsz,hrl⟩:=hr.ob.obj id _ ho
     rw [hp] at ha
     simp only [Pl.block] at ha
     subst ha
     refine ⟨b,l,k,rfl,q3 false m (Nat.le_refl _),hr,?_,Keep.refl _ _,OwnIn.refl _ _ _,Stay.refl _ _⟩
     simp only [RV]
     rw [if_neg (show¬m=l by omega)]
     refine ⟨_,_,rfl,by omega,fun e m' z' es' ho'=> ?_⟩
     have ho':ob.get id=some (.arr e m' z' es'):=ho'
     rw [ho] at ho';cases ho'
     rw [hp]
     exact ⟨by rw [add_cell,Nat.zero_add];rfl,by omega⟩
    ·simp at h2
   simp only [Tree.eval,Option.some.injEq] at h2
   subst h2
   obtain ⟨q1,q2,q3⟩:=sliceOf_ok (P:=P) h1 hl hh
   simp only [RV] at hS
   obtain ⟨ad,rfl,ha⟩:=hS
   have ha:=ha _ ho
   obtain ⟨b,cap,vs,T,fz,hp,hh',hf,hm,hsz,hrl⟩:=hr.ob.obj id _ ho
   rw [hp] at ha
   simp only [Pl.block] at ha
   subst ha
   refine ⟨b,l,k,rfl,q3 false m (Nat.le_refl _),hr.freeze _,?_,Keep.refl _ _,OwnIn.freeze _,freeze_stay _⟩
   simp only [RV]
   have hY: ¬Ys X β (ob.freeze [id]) b:=by
    rintro (hx | ⟨i,o,c',hg,hfr,hpl⟩)
    ·exact hr.ob.notX id _ b cap ho hp hx
    ·obtain ⟨p1,g1,gf⟩:=freeze_old hg
     have:i=id:=hr.ob.inj i id p1 _ b c' cap g1 ho hpl hp (gf hfr)
     subst this
     rw [get_freeze,if_pos (by simp),ho] at hg
     simp only [Option.map_some,Option.some.injEq,Obj.freeze] at hg
     subst hg
     simp [Obj.frozen] at hfr
   have hl2:=hrl.mono (w':=w) (Y':=Ys X β (ob.freeze [id])) (fun _ _ _=>rfl) (fun _ _=>freeze_ys)
   have hd:RD w (Ys X β (ob.freeze [id])) (.sl f false es) (.slice (some ⟨b,0,none⟩) es.length m):=by
    refine .sl f es ⟨b,0,none⟩ m (fun i j=>vs.getD (i*f.size+j) undef) (by omega) hl2.1 ?_ ?_
    ·intro i x j c hi hj
     obtain ⟨u,hu,_⟩:=hl2.2 i x j c hi hj
     refine ⟨hY,rfl,?_⟩
     rw [Nat.zero_add,cell_of_row w b _ vs T fz hh',hu]
     simp [Array.getD_eq_getD_getElem?,hu]
    ·intro i x j c hi hj
     obtain ⟨u,hu,hr⟩:=hl2.2 i x j c hi hj
     simpa [Array.getD_eq_getD_getElem?,hu] using hr
   have hpc:=hd.piece (l:=l) (h:=k) rfl q1 (by omega)
   change RD w (Ys X β (ob.freeze [id])) _ _
   by_cases hml:m=l
   ·simpa [hml] using hpc
   ·simpa [hml] using hpc
  ·simp [Tree.eval] at h
 ·simp [Tree.eval] at h
theorem push_fold: ∀(ns:List Int) (s:List UInt8),ns.foldl (fun r n=>r.push (UInt8.ofNat n.toNat)) (⟨s.toArray⟩:ByteArray)=⟨(s++ns.map fun n=>UInt8.ofNat n.toNat).toArray⟩
 | [],s=>by simp
 | n :: ns,s=>by
  simp only [List.foldl_cons,List.map_cons]
  have e:(⟨s.toArray⟩:ByteArray).push (UInt8.ofNat n.toNat)=⟨(s++[UInt8.ofNat n.toNat]).toArray⟩:=by
   apply ByteArray.ext;simp [ByteArray.push]
  rw [e,push_fold ns]
  simp
theorem bytesV_elems{S:V}{es:List D}(hns: ∀i l n,S≠ .sla i l n)(h:bytesV ob S=some es):elemsOf ob (.int .u8) S=some (es,match S with | .own id=>[id] | _=>[]):=by
 cases S <;> try (simp [bytesV] at h;done)
 case sla i l n=>exact (hns i l n rfl).elim
 case d x=>
  cases x <;> try (simp [bytesV] at h;done)
  simp only [bytesV] at h
  split at h
  ·rename_i hf
   simp only [Option.some.injEq] at h
   subst h
   simp [elemsOf,hf]
  ·simp at h
 case own id=>
  simp only [bytesV] at h
  split at h
  ·rename_i f nl m z es' ho
   split at h
   ·rename_i hf
    simp only [Option.some.injEq] at h
    subst h
    simp [elemsOf,ho,hf]
   ·simp at h
  ·simp at h
theorem b2s_ok0{S:V}{sv:Value}{es:List D}(hns: ∀i l n,S≠ .sla i l n)(hR:RelO P w X β ob)(h:bytesV ob S=some es)(hS:RV w (Ys X β ob) β ob S sv):
  (Conv.bytesToString sv).run P w= .ok (.string ⟨(es.map fun x=>UInt8.ofNat x.toInt.toNat).toArray⟩) w:=by
 obtain ⟨new,hE⟩:=elemsOf_ok (P:=P) hR (bytesV_elems hns h) hS
 have hlen:new.length=es.length:=by rw [hE.size];simp [Sh.size,Sh.leafs]
 have hnw:new=(es.map D.toInt).map (Value.int .u8):=by
  apply List.ext_getElem?
  intro i
  by_cases hi:i<es.length
  ·have hfx:=hE.rl.1 _ (List.getElem_mem hi)
   obtain ⟨k,hk⟩: ∃k,es[i]= .int .u8 k:=by
    cases hx:es[i] <;> rw [hx] at hfx <;> simp [fits,fitsLeaf] at hfx
    rename_i k n
    exact ⟨n,by rw [hfx]⟩
   obtain ⟨u,hu,hr⟩:=hE.rl.2 i es[i] 0 (.int .u8 k) (List.getElem?_eq_getElem hi) (by rw [hk];rfl)
   cases hr
   have:new[i]? =some (.int .u8 k):=by simpa [Sh.size,Sh.leafs] using hu
   rw [this]
   simp [hi,hk,D.toInt]
  ·rw [List.getElem?_eq_none (by omega),List.getElem?_eq_none (by simp;omega)]
 have hsl:sv= .slice none 0 0∧es=[]∨ ∃ad cap,sv= .slice (some ad) es.length cap:=by
  cases S <;> try (simp [bytesV] at h;done)
  case sla i l n=>exact (hns i l n rfl).elim
  case d x=>
   cases x <;> try (simp [bytesV] at h;done)
   simp only [bytesV] at h
   split at h
   ·simp only [Option.some.injEq] at h
    subst h
    cases RVd hS
    ·exact .inl ⟨rfl,rfl⟩
    ·exact .inr ⟨_,_,rfl⟩
   ·simp at h
  case own id=>
   simp only [bytesV] at h
   split at h
   ·rename_i f nl m z es' ho
    split at h
    ·simp only [Option.some.injEq] at h
     subst h
     simp only [RV] at hS
     obtain ⟨ad,n,c,rfl,hp⟩:=hS
     have hp:=hp _ _ _ _ _ ho
     have hro:=hR.obj id _ ho
     cases hb:β id with
     | nil=>rw [hb] at hp hro;obtain ⟨_,rfl⟩:=hro;exact .inl ⟨hp,rfl⟩
     | capless a'=>rw [hb] at hp hro;obtain ⟨_,rfl⟩:=hro;exact .inr ⟨_,_,hp⟩
     | blk b cap=>rw [hb] at hp;exact .inr ⟨_,_,hp⟩
    ·simp at h
   ·simp at h
 rcases hsl with ⟨rfl,rfl⟩ | ⟨ad,cap,rfl⟩
 ·simp [Conv.bytesToString];rfl
 ·have hrd:=hE.read w rfl
  have hload:(loadCells ad es.length).run P w= .ok ((es.map D.toInt).map (Value.int .u8)).toArray w:=by
   rw [←hnw]
   simpa [Builtin.firstCells,Sh.size,Sh.leafs] using hrd
  rw [run_bytesToString w ad es.length cap (es.map D.toInt) hload]
  have:=push_fold (es.map D.toInt) []
  simp only [List.nil_append] at this
  rw [show ByteArray.empty=⟨([]:List UInt8).toArray⟩ from rfl,this,List.map_map]
  rfl
theorem b2s_ok{S:V}{sv:Value}{es:List D}(hR:RelO P w X β ob)(h:bytesV ob S=some es)(hS:RV w (Ys X β ob) β ob S sv):
  (Conv.bytesToString sv).run P w= .ok (.string ⟨(es.map fun x=>UInt8.ofNat x.toInt.toNat).toArray⟩) w:=by
 by_cases hns: ∀i l n,S≠ .sla i l n
 ·exact b2s_ok0 hns hR h hS
 ·simp only [ne_eq,Classical.not_forall,Classical.not_not] at hns
  obtain ⟨id,lo,n,rfl⟩:=hns
  simp only [bytesV] at h
  split at h
  ·rename_i f m z es' ho
   split at h
   ·rename_i hf
    have hf:=Sh.beq_eq hf
    subst hf
    simp only [Option.some.injEq] at h
    subst h
    simp only [RV] at hS
    obtain ⟨a,c,rfl,hnc,hp⟩:=hS
    obtain ⟨rfl,hm⟩:=hp _ _ _ _ ho
    obtain ⟨b,cap,vs,T,fz,hpl,hh',hfz,hmz,hsz,hrl⟩:=hR.obj id _ ho
    have hl2:=hrl.mono (w':=w) (Y':=fun _=>False) (fun _ _ _=>rfl) (fun _ _ h=>h.elim)
    have hlen:((es'.drop lo).take n).length=n:=by rw [List.length_take,List.length_drop];omega
    have at': ∀(i:Nat) x,((es'.drop lo).take n)[i]? =some x→es'[lo+i]? =some x:=by
     intro i x hi
     rw [List.getElem?_take] at hi
     split at hi
     ·rw [List.getElem?_drop] at hi;exact hi
     ·cases hi
    have hd:RD w (fun _=>False) (.sl (.int .u8) false ((es'.drop lo).take n)) (.slice (some ⟨(β id).block,lo*Sh.size (.int .u8),none⟩) n c):=by
     have:=RD.sl (w:=w) (Y:=fun _=>False) (.int .u8) ((es'.drop lo).take n) ⟨(β id).block,lo*Sh.size (.int .u8),none⟩ c (fun i j=>vs.getD ((lo+i)*Sh.size (.int .u8)+j) undef) (by omega) (fun x hx=>hl2.1 x (List.mem_of_mem_drop (List.mem_of_mem_take hx))) ?_ ?_
     ·rw [hlen] at this;exact this
     ·intro i x j cc hi hj
      obtain ⟨u,hu,_⟩:=hl2.2 (lo+i) x j cc (at' i x hi) hj
      refine ⟨fun h=>h,rfl,?_⟩
      rw [hpl]
      simp only [Pl.block]
      rw [←Nat.add_assoc,←Nat.add_mul,cell_of_row w b _ vs T fz hh',hu]
      simp [Array.getD_eq_getD_getElem?,hu]
     ·intro i x j cc hi hj
      obtain ⟨u,hu,hr⟩:=hl2.2 (lo+i) x j cc (at' i x hi) hj
      simpa [Array.getD_eq_getD_getElem?,hu] using hr
    have hR0:RelO P w (fun _=>False) β []:=⟨fun id o h=>by simp [Obs.get] at h,fun id id' o o' b c c' h=>by simp [Obs.get] at h,fun id o b c h=>by simp [Obs.get] at h,fun b h=>h.elim,hR.tab.keep (Nat.le_refl _) (fun _ _ _=>rfl) (fun b _ hb=>by
     rcases hb with h | ⟨i,o,c,g1,_,_⟩
     ·exact h.elim
     ·simp [Obs.get] at g1)⟩
    refine b2s_ok0 (S:= .d (.sl (.int .u8) false ((es'.drop lo).take n))) (ob:=[]) (X:=fun _=>False) (β:=β) (fun i l n=>by intro h;cases h) hR0 (by simp [bytesV,Sh.beq]) ?_
    simp only [RV]
    exact hd.mono (fun _ _ _=>rfl) fun b _ hb=>by
     rcases hb with h | ⟨i,o,c,g1,_,_⟩
     ·exact h
     ·simp [Obs.get] at g1
   ·simp at h
  ·simp at h
theorem s2b_ok{e:TypeId}{s:List UInt8}(hr:Rel P w X β ⟨fr,ob⟩ a)(base:Nat)(h64:64≤base):
  ∃w' u β',(Conv.stringToBytes e ⟨s.toArray⟩).run P w= .ok u w'∧Good P w w' X β β' ob (St.kill [base] ⟨fr,ob.set base (.lst (.int .u8) false false false (s.map fun b=> .int .u8 b.toNat))⟩) a (.own base) u:=by
 have hsz:(⟨s.toArray⟩:ByteArray).size=s.length:=by simp [ByteArray.size]
 have hq:(Question.appendCap s.length 0 e).forced=false:=rfl
 obtain ⟨q,hqe⟩: ∃q,q=(Question.appendCap s.length 0 e).cut (w.tape w.drawn (.appendCap s.length 0 e)):=⟨_,rfl⟩
 have hqge:s.length≤q:=by rw [hqe];simp [Question.cut]
 obtain ⟨w1,hw1⟩: ∃w1:World,w1= { w with drawn:=w.drawn+1 }:=⟨_,rfl⟩
 have hheap:w1.heap=w.heap:=by rw [hw1]
 have hch:(choose (.appendCap s.length 0 e)).run P w= .ok q w1:=by
  rw [hw1,hqe];simp [choose,Sem.run,hq]
 obtain ⟨cells,hce⟩: ∃cells:Array Value,cells=(s.toArray.map fun b=>Value.int .u8 b.toNat)++Array.replicate (q - s.length) (.int .u8 0):=⟨_,rfl⟩
 have hcsz:cells.size=q:=by rw [hce];simp;omega
 obtain ⟨w2,hw2⟩: ∃w2:World,w2=(w1.alloc (.cells cells e)).freeze ⟨w.heap.size,q,none⟩ 1:=⟨_,rfl⟩
 have h2:w2.heap.size=w.heap.size+1:=by rw [hw2];simp [World.freeze,World.alloc,hheap]
 have hnew:w2.heap[w.heap.size]? =some (.cells cells e (q,q+1)):=by
  rw [hw2]
  have:=alloc_new w1 (.cells cells e)
  rw [hheap] at this
  simp [World.freeze,Array.getElem?_modify,this]
 have hold: ∀b,b<w.heap.size→w2.heap[b]? =w.heap[b]? :=by
  intro b hb
  rw [hw2]
  have h1:=alloc_old w1 (.cells cells e) b (by rw [hheap];exact hb)
  rw [hheap] at h1
  have hne:w.heap.size≠b:=by omega
  have h3:((w1.alloc (.cells cells e)).freeze ⟨w.heap.size,q,none⟩ 1).heap[b]? =(w1.alloc (.cells cells e)).heap[b]? :=by
   simp only [World.freeze]
   rw [if_neg (by decide)]
   simp only [Array.getElem?_modify]
   rw [if_neg hne]
  rw [h3,h1]
 have hg:=own_good (w':=w2) (id:=base) (s:= .int .u8) (nl:=false) (mv:=false) (es:=s.map fun b=> .int .u8 b.toNat) (p:= .blk w.heap.size q) hr (.inl h64) ⟨by omega,by rw [hw2,hw1];exact ⟨rfl,rfl⟩⟩ (fun b hb _=>hold b hb)
  (fun b c hp hb=>by cases hp;omega) ?_
 ·refine ⟨w2,_,_,?_,hg⟩
  unfold Conv.stringToBytes
  simp only [Sem.run_bind,hsz,hch,Result.andThen_ok]
  rw [show ((⟨s.toArray⟩:ByteArray).data.map fun b=>Value.int .u8 b.toNat)++Array.replicate (q - s.length) (.int .u8 0)=cells from hce.symm]
  simp only [newRow_run,Result.andThen_ok,hheap]
  have hshape:((w1.alloc (.cells cells e)).shape? w.heap.size)=some (e,q):=by
   have:=alloc_new w1 (.cells cells e)
   rw [hheap] at this
   simp [World.shape?,this,hcsz]
  unfold markStringish
  simp only [shape,Sem.run_bind,Sem.run,hshape,Result.andThen_ok,freeze,←hw2]
  simp [Pl.slice]
 ·intro hd
  refine ⟨rfl,by simpa using hqge,cells,e,(q,q+1),hnew,⟨.inr (by rw [hcsz];exact Nat.le_refl _),fun h=>absurd h (by decide)⟩,by rw [hcsz];simp [Sh.size,Sh.leafs],?_,?_⟩
  ·intro y hy
   obtain ⟨b,_,rfl⟩:=List.mem_map.1 hy;rfl
  ·intro i y j c hi hj
   rw [List.getElem?_map] at hi
   cases hs:s[i]? with
   | none=>simp [hs] at hi
   | some b=>
    simp only [hs,Option.map_some,Option.some.injEq] at hi
    subst hi
    cases j with
    | zero=>
     simp only [D.cells,List.getElem?_cons_zero,Option.some.injEq] at hj
     subst hj
     have hil:=(List.getElem?_eq_some_iff.mp hs).1
     refine ⟨.int .u8 b.toNat,?_,.int _ _⟩
     rw [hce]
     simp only [Sh.size,Sh.leafs,List.length_singleton,Nat.mul_one,Nat.add_zero]
     rw [Array.getElem?_append_left (by simpa using hil)]
     simp [hs]
    | succ j=>simp [D.cells] at hj
end
open Go Go.MapKept
def keyDesc:Sh→TypeDesc→Prop
 | .int k,d=>d= .int k
 | .str,d=>d= .string
 | .bool,d=>d= .bool
 | _,_=>False
section
variable {P:Program} {w w':World} {X Y:Nat→Prop} {β:Nat→Pl} {ob:Obs} {fr:List V} {a:Act}
theorem keyDesc_at{dd:Nat}{t:TypeId}{s:Sh}(h:shT P dd t=some s)(hk:keySh s=true): ∃d,P.underlying t=some d∧keyDesc s d:=by
 cases dd with
 | zero=>simp [shT] at h
 | succ dd=>
  simp only [shT] at h
  cases hu:P.underlying t with
  | none=>simp [hu] at h
  | some d=>
   refine ⟨d,rfl,?_⟩
   rw [hu] at h
   cases d <;> simp only at h
   all_goals first
    | (cases h;rfl)
    | (cases h;done)
    | skip
   ·split at h
    ·cases h;simp [keySh] at hk
    ·cases h
   ·split at h
    ·split at h
     ·cases h;simp [keySh] at hk
     ·cases h
    ·cases h
   ·split at h
    ·split at h
     ·cases h;simp [keySh] at hk
     ·cases h
    ·cases h
theorem keyDesc_of{t:TypeId}{s:Sh}(h:sh P t=some s)(hk:keySh s=true): ∃d,P.underlying t=some d∧keyDesc s d:=keyDesc_at (sh_ok h).2.2.2 hk
theorem key_is{s:Sh}{d:TypeDesc}{k:D}{u:Value}(hd:keyDesc s d)(hf:fitsLeaf s k=true)(hr:RD w Y k u):IsKey d u:=by
 cases s <;> simp only [keyDesc] at hd <;> subst hd <;> cases k <;> simp [fitsLeaf] at hf
 ·cases hr;trivial
 ·cases hr;exact hf
 ·cases hr;trivial
theorem bytes_eq(s t:List UInt8):((⟨s.toArray⟩:ByteArray)==⟨t.toArray⟩)=(s==t):=by
 rw [Bool.eq_iff_iff,bytes_beq]
 simp
theorem same_key{s:Sh}{d:TypeDesc}{k k':D}{u u':Value}(hd:keyDesc s d)(hf:fitsLeaf s k=true)(hf':fitsLeaf s k'=true)(hr:RD w Y k u)(hr':RD w Y k' u'):
  Instr.sameNow d u u'=some (keyEq k k')∧(keyEq k k'=true→u'=u):=by
 cases s <;> simp only [keyDesc] at hd <;> subst hd <;> cases k <;> simp [fitsLeaf] at hf <;> cases k' <;> simp [fitsLeaf] at hf'
 ·cases hr;cases hr';simp [Instr.sameNow,keyEq];exact fun h=>h.symm
 ·cases hr;cases hr';subst hf hf';simp [Instr.sameNow,keyEq];exact fun h=>h.symm
 ·cases hr;cases hr';simp only [Instr.sameNow,keyEq,bytes_eq];simp;exact fun h=>by rw [h]
def Ents(w:World)(Y:Nat→Prop)(ks vs:Sh)(kv:List (D×D))(es:List MapEntry):Prop:=
 es.length=kv.length∧ ∀(i:Nat) k v,kv[i]? =some (k,v)→fitsLeaf ks k=true∧fits vs v=true∧ ∃e,es[i]? =some e∧RD w Y k e.key∧RD w Y v e.val
theorem Ents.tail{ks vs:Sh}{p:D×D}{kv:List (D×D)}{e:MapEntry}{es:List MapEntry}(h:Ents w Y ks vs (p :: kv) (e :: es)):Ents w Y ks vs kv es:=
 ⟨by simpa using h.1,fun i k v hi=>by simpa using h.2 (i+1) k v (by simpa using hi)⟩
theorem find_ok{ks vs:Sh}{d:TypeDesc}{k:D}{u:Value}(hd:keyDesc ks d)(hf:fitsLeaf ks k=true)(hr:RD w Y k u): ∀(kv:List (D×D)) (es:List MapEntry) (i:Nat),Ents w Y ks vs kv es→
  (Instr.findNow d u es i=some none∧kvHas k kv=false∧(∀z,kvGet k z kv=z)∧(∀x,kvSet k x kv=kv++[(k,x)]))∨
  ∃j e k' v,Instr.findNow d u es i=some (some (i+j,e.val))∧es[j]? =some e∧kv[j]? =some (k',v)∧e.key=u∧kvHas k kv=true∧(∀z,kvGet k z kv=v)∧(∀x,kvSet k x kv=kv.set j (k',x))
 | [],es,i,h=>by
  have:es=[]:=List.eq_nil_of_length_eq_zero (by simpa using h.1)
  subst this
  exact .inl ⟨rfl,rfl,fun _=>rfl,fun _=>rfl⟩
 | (k',v') :: kv,[],i,h=>by simp [Ents] at h
 | (k',v') :: kv,e :: es,i,h=>by
  obtain ⟨g1,g2,e',g3,g4,g5⟩:=h.2 0 k' v' rfl
  simp only [List.getElem?_cons_zero,Option.some.injEq] at g3
  subst g3
  obtain ⟨s1,s2⟩:=same_key hd hf g1 hr g4
  cases hke:keyEq k k' with
  | true=>
   rw [hke] at s1
   exact .inr ⟨0,e,k',v',by simp [Instr.findNow,s1],rfl,rfl,s2 hke,by simp [kvHas,hke],fun z=>by simp [kvGet,hke],fun x=>by simp [kvSet,hke]⟩
  | false=>
   rw [hke] at s1
   rcases find_ok hd hf hr kv es (i+1) h.tail with ⟨q1,q2,q3,q4⟩ | ⟨j,e',k2,v2,q1,q2,q3,q4,q5,q6,q7⟩
   ·exact .inl ⟨by simp [Instr.findNow,s1,q1],by simp [kvHas,hke,q2],fun z=>by simp [kvGet,hke,q3],fun x=>by simp [kvSet,hke,q4]⟩
   ·exact .inr ⟨j+1,e',k2,v2,by simp [Instr.findNow,s1,q1];omega,by simpa using q2,by simpa using q3,q4,by simp [kvHas,hke,q5],fun z=>by simp [kvGet,hke,q6],fun x=>by simp [kvSet,hke,q7]⟩
theorem eta_fits{s:Sh}{x:D}(h:fits s x=true):eta s x=x:=by
 cases s with
 | agg fs=>
  cases x <;> simp [fits] at h
  simp only [eta,D.cells,etaL_fits h]
 | _=>exact etaLeaf_fits h
theorem zero_rd{t:TypeId}{s:Sh}{zs:List D}{z:D}(hz:zeroOf P t=some zs)(hm:mkD s zs=some z)(hi:zeroIs P t s=true): ∃u,(zeroValue t).run P w= .ok u w∧RD w Y z u:=by
 obtain ⟨i,zv,h1,h2,h3,h4⟩:=zeroOf_ok (w:=w) (Y:=Y) hz
 refine ⟨zv,h3,?_⟩
 unfold zeroIs at hi
 rw [h1] at hi
 simp only [h2] at hi
 cases zv with
 | agg cs=>
  cases s <;> simp [Sh.isAgg] at hi
  simp only [mkD,Option.some.injEq] at hm
  subst hm
  have:=RD.agg (w:=w) (Y:=Y) zs cs.toList h4.1 h4.2
  simpa using this
 | _=>
  have hm: ∃x,zs=[x]∧z=x:=by
   cases s <;> simp [Sh.isAgg] at hi <;> simp only [mkD] at hm <;> split at hm <;> first | (cases hm;exact ⟨_,rfl,rfl⟩) | (cases hm;done)
  obtain ⟨x,rfl,rfl⟩:=hm
  exact h4.2 0 _ _ rfl rfl
theorem ents_of{ks vs:Sh}{kv:List (D×D)}{p:Pl}(h:RO P w Y β ob p (.map ks vs kv)): ∃b cap es clock,p= .blk b cap∧w.heap[b]? =some (.map es clock)∧keySh ks=true∧Ents w Y ks vs kv es.toList:=by
 obtain ⟨b,cap,es,clock,h1,h2,h3,h4,h5⟩:=h
 exact ⟨b,cap,es,clock,h1,h2,h3,by simpa using h4,fun i k v hi=>by simpa using h5 i k v hi⟩
theorem mapGet_ok{t kt e:TypeId}{ks s:Sh}{zs:List D}{ok:Bool}{m k:Operand}{r:Out}{bs:Nat}(hr:Rel P w X β ⟨fr,ob⟩ a)(hu:P.underlying t=some (.map kt e))(hk:sh P kt=some ks)(hks:keySh ks=true)(hz:zeroOf P e=some zs)(hzi:zeroIs P e s=true)
  (h:(stepP (.mapGet ks s zs ok (cOpd P t m) (cOpd P kt k)) bs fr ob).eval=some r): ∃v z,(Instr.lookup t (a.eval m) (a.eval k) ok).run P w= .ok z w∧RV w (Ys X β ob) β ob v z∧r=⟨v,ob,[]⟩:=by
 obtain ⟨d,hud,hd⟩:=keyDesc_of hk hks
 have hkv:=opd_ok (P:=P) hr.ob.tab hr.fr kt k
 have hmv:=opd_ok (P:=P) hr.ob.tab hr.fr t m
 simp only [stepP] at h
 split at h
 ·rename_i z kd hm hkd
  rw [hkd] at hkv
  have hkv:=RVd hkv
  split at h
  ·rename_i hfz
   split at h
   ·rename_i id hid
    rw [hid] at hmv
    split at h
    ·rename_i ks' vs' kv ho
     split at h
     ·rename_i hc
      simp only [Bool.and_eq_true] at hc
      have hvs:=Sh.beq_eq hc.1.2
      have hkss:=Sh.beq_eq hc.1.1
      subst hvs hkss
      simp only [RV] at hmv
      obtain ⟨rr,hev,hrr⟩:=hmv
      have hrr:=hrr _ ho
      obtain ⟨b,cap,es,clock,hp,hh,hks',hents⟩:=ents_of (hr.ob.obj id _ ho)
      rw [hp] at hrr
      simp only [Pl.block] at hrr
      subst hrr
      obtain ⟨zv,hzr,hzd⟩:=zero_rd (w:=w) (Y:=Ys X β ob) hz hm hzi
      have hisk:=key_is hd hc.2 hkv
      have main: ∃u,(Instr.lookup t (a.eval m) (a.eval k) ok).run P w= .ok (if ok then .tuple #[u,.bool (kvHas kd kv)] else u) w∧RD w (Ys X β ob) (eta vs' (kvGet kd z kv)) u:=by
       rcases find_ok hd hc.2 hkv kv es.toList 0 hents with ⟨q1,q2,q3,q4⟩ | ⟨j,e',k2,v2,q1,q2,q3,q4,q5,q6,q7⟩
       ·refine ⟨zv,?_,by rw [q3,eta_fits hfz];exact hzd⟩
        unfold Instr.lookup
        rw [hev,q2]
        simp only [Sem.run_bind,run_underlying hu,Result.andThen_ok,MapKept.run_getObj_map hh,Sem.run_pure,MapKept.run_checkKey hud hisk,MapKept.run_findKey hud q1,hzr]
       ·obtain ⟨g1,g2,e3,g3,g4,g5⟩:=hents.2 j k2 v2 q3
        rw [q2] at g3
        cases g3
        refine ⟨e'.val,?_,by rw [q6,eta_fits g2];exact g5⟩
        unfold Instr.lookup
        rw [hev,q5]
        simp only [Sem.run_bind,run_underlying hu,Result.andThen_ok,MapKept.run_getObj_map hh,Sem.run_pure,MapKept.run_checkKey hud hisk,MapKept.run_findKey hud q1]
      obtain ⟨u,hrun,hud'⟩:=main
      cases ok with
      | true=>
       simp only [Tree.eval,Option.some.injEq] at h
       refine ⟨_,_,hrun,?_,h.symm⟩
       simp only [if_true,RV]
       refine ⟨_,rfl,?_⟩
       simp only [RVL,RV]
       exact ⟨hud',.bool _,trivial⟩
      | false=>
       simp only [Tree.eval,Option.some.injEq] at h
       refine ⟨_,_,hrun,?_,h.symm⟩
       simp only [Bool.false_eq_true,if_false,RV]
       exact hud'
     ·exact (by simp [Tree.eval] at h)
    ·exact (by simp [Tree.eval] at h)
   ·exact (by simp [Tree.eval] at h)
  ·exact (by simp [Tree.eval] at h)
 ·exact (by simp [Tree.eval] at h)
theorem mlen_ok{t kt e ty:TypeId}{m:Operand}{r:Out}{bs:Nat}(hr:Rel P w X β ⟨fr,ob⟩ a)(hu:P.underlying t=some (.map kt e))(h:(stepP (.mlen (cOpd P t m)) bs fr ob).eval=some r):
  ∃v z,(Builtin.len_ #[t] ty #[a.eval m]).run P w= .ok z w∧RV w (Ys X β ob) β ob v z∧r=⟨v,ob,[]⟩:=by
 have hmv:=opd_ok (P:=P) hr.ob.tab hr.fr t m
 simp only [stepP] at h
 split at h
 ·rename_i id hid
  rw [hid] at hmv
  split at h
  ·rename_i ks vs kv ho
   simp only [Tree.eval,Option.some.injEq] at h
   simp only [RV] at hmv
   obtain ⟨rr,hev,hrr⟩:=hmv
   have hrr:=hrr _ ho
   obtain ⟨b,cap,es,clock,hp,hh,hks',hents⟩:=ents_of (hr.ob.obj id _ ho)
   rw [hp] at hrr
   simp only [Pl.block] at hrr
   subst hrr
   refine ⟨_,.int .i64 kv.length,?_,?_,h.symm⟩
   ·have hsz:es.size=kv.length:=by simpa using hents.1
    simp [Builtin.len_,run_underlying hu,hev,MapKept.run_getObj_map hh,goInt,hsz]
   ·simp only [RV];exact .int _ _
  ·exact (by simp [Tree.eval] at h)
 ·exact (by simp [Tree.eval] at h)
theorem mkMap_ok{t:TypeId}{ks vs:Sh}{r:Out}{base:Nat}(hr:Rel P w X β ⟨fr,ob⟩ a)(hb:64≤base)(h:(stepP (.mkMap ks vs) base fr ob).eval=some r):
  ∃w' u β',(Instr.makeMap t none).run P w= .ok u w'∧Good P w w' X β β' ob (St.kill r.kl ⟨fr,r.ob⟩) a r.v u:=by
 simp only [stepP] at h
 split at h
 ·rename_i hks
  simp only [Tree.eval,Option.some.injEq] at h
  subst h
  have hg:=good_put (w':=w.alloc (.map #[] 0)) (id:=base) (o:= .map ks vs []) (p:= .blk w.heap.size 0) hr (.inl hb) ⟨by rw [alloc_size];omega,rfl,rfl⟩ (fun b hb _=>alloc_old w _ b hb) (fun b c hp hb=>by cases hp;omega)
   (fun _ _=>⟨w.heap.size,0,#[],0,rfl,alloc_new w _,hks,rfl,fun i k v hi=>by simp at hi⟩)
  refine ⟨_,.map (some w.heap.size),_,rfl,hg.1,?_,hg.2.1,hg.2.2.1,hg.2.2.2⟩
  simp only [RV]
  refine ⟨_,rfl,fun o _=> ?_⟩
  simp [putPl,Pl.block]
 ·exact (by simp [Tree.eval] at h)
theorem same_bits{s:Sh}{d:TypeDesc}{k:D}{u:Value}(hd:keyDesc s d)(hf:fitsLeaf s k=true)(hr:RD w Y k u)(n:Nat):Instr.sameBits n u u=true:=by
 cases s <;> simp only [keyDesc] at hd <;> subst hd <;> cases k <;> simp [fitsLeaf] at hf <;> cases hr <;> cases n <;> simp [Instr.sameBits]
 all_goals first
  | exact (bytes_beq _ _).2 rfl
  | rfl
theorem setMap_block{r:Nat}{o:Go.Obj}:({ w with heap:=w.heap.setIfInBounds r o }:World).heap.size=w.heap.size:=by simp
theorem mapSet_ok{t kt e:TypeId}{ks:Sh}{m k v:Operand}{r:Out}{bs:Nat}(hr:Rel P w X β ⟨fr,ob⟩ a)(hu:P.underlying t=some (.map kt e))(hk:sh P kt=some ks)(hks:keySh ks=true)
  (h:(stepP (.mapSet ks (cOpd P t m) (cOpd P kt k) (cOpd P e v)) bs fr ob).eval=some r): ∃w' ob',r=⟨.tup [],ob',[]⟩∧(Instr.mapUpdate t (a.eval m) (a.eval k) (a.eval v)).run P w= .ok () w'∧Rel P w' X β ⟨fr,ob'⟩ a∧Keep (Owned β ob) w w'∧OwnIn w β β ob ob'∧Stay β β ob ob':=by
 obtain ⟨d,hud,hd⟩:=keyDesc_of hk hks
 have hkv:=opd_ok (P:=P) hr.ob.tab hr.fr kt k
 have hmv:=opd_ok (P:=P) hr.ob.tab hr.fr t m
 have hvv:=opd_ok (P:=P) hr.ob.tab hr.fr e v
 simp only [stepP] at h
 split at h
 ·rename_i id kd hid hkd
  rw [hkd] at hkv
  rw [hid] at hmv
  have hkv:=RVd hkv
  split at h
  ·rename_i ks' vs' kv ho
   split at h
   ·rename_i hc
    simp only [Bool.and_eq_true] at hc
    have hkss:=Sh.beq_eq hc.1
    subst hkss
    split at h
    ·rename_i x l hx
     split at h
     ·rename_i hfx
      split at h
      ·exact (by simp [Tree.eval] at h)
      ·rename_i hnc
       have hni:=not_contains hnc
       simp only [Tree.eval,Option.some.injEq] at h
       subst h
       simp only [RV] at hmv
       obtain ⟨rr,hev,hrr⟩:=hmv
       have hrr:=hrr _ ho
       have hr':=hr.freeze l
       have ho':(ob.freeze l).get id=some (.map ks' vs' kv):=by rw [freeze_get_not hni];exact ho
       obtain ⟨b,cap,es,clock,hp,hh,hks',hents⟩:=ents_of (hr'.ob.obj id _ ho')
       rw [hp] at hrr
       simp only [Pl.block] at hrr
       subst hrr
       have hkv':RD w (Ys X β (ob.freeze l)) kd (a.eval k):=hkv.mono (fun _ _ _=>rfl) (fun _ _=>freeze_ys)
       have hxv:=dat_ok (m:=l) hr.ob hx (fun _ h=>h) hvv
       have hisk:=key_is hd hc.2 hkv'
       have main: ∃es' clock',(Instr.mapUpdate t (a.eval m) (a.eval k) (a.eval v)).run P w= .ok () { w with heap:=w.heap.setIfInBounds b (.map es' clock') }∧Ents w (Ys X β (ob.freeze l)) ks' vs' (kvSet kd x kv) es'.toList:=by
        rcases find_ok hd hc.2 hkv' kv es.toList 0 hents with ⟨q1,q2,q3,q4⟩ | ⟨j,e',k2,v2,q1,q2,q3,q4,q5,q6,q7⟩
        ·refine ⟨es.push { key:=a.eval k,val:=a.eval v,born:=clock },clock+1,?_,?_⟩
         ·unfold Instr.mapUpdate
          rw [hev]
          simp only [Sem.run_bind,run_underlying hu,Result.andThen_ok,MapKept.run_getObj_map hh,MapKept.run_checkKey hud hisk,MapKept.run_findKey hud q1,MapKept.run_setObj_map _ hh]
         ·rw [q4]
          refine ⟨by simp [hents.1],fun i k3 v3 hi=> ?_⟩
          have hl:es.toList.length=kv.length:=hents.1
          by_cases hlt:i<kv.length
          ·rw [List.getElem?_append_left hlt] at hi
           obtain ⟨g1,g2,e3,g3,g4,g5⟩:=hents.2 i k3 v3 hi
           exact ⟨g1,g2,e3,by rw [Array.toList_push,List.getElem?_append_left (by omega)];exact g3,g4,g5⟩
          ·have hie:i=kv.length:=by
            have:=(List.getElem?_eq_some_iff.1 hi).1
            simp at this
            omega
           subst hie
           simp only [List.getElem?_append_right (Nat.le_refl _),Nat.sub_self,List.getElem?_cons_zero,Option.some.injEq,Prod.mk.injEq] at hi
           obtain ⟨rfl,rfl⟩:=hi
           exact ⟨hc.2,hfx,{ key:=a.eval k,val:=a.eval v,born:=clock },by rw [Array.toList_push,List.getElem?_append_right (by omega),hl];simp,hkv',hxv⟩
        ·have hje:es[j]? =some e':=by simpa using q2
         refine ⟨es.modify j fun e=> { e with key:=a.eval k,val:=a.eval v },clock,?_,?_⟩
         ·unfold Instr.mapUpdate
          rw [hev]
          simp only [Sem.run_bind,run_underlying hu,Result.andThen_ok,MapKept.run_getObj_map hh,MapKept.run_checkKey hud hisk,MapKept.run_findKey hud q1,Nat.zero_add,hje,Option.map_some,Option.getD_some,q4,Instr.keyThatStays,same_bits hd hc.2 hkv',if_true,Sem.run_pure,MapKept.run_setObj_map _ hh]
         ·rw [q7]
          have hl:es.toList.length=kv.length:=hents.1
          refine ⟨by simp at hl;simp [hl],fun i k3 v3 hi=> ?_⟩
          rw [List.getElem?_set] at hi
          split at hi
          ·rename_i hji
           subst hji
           split at hi
           ·simp only [Option.some.injEq,Prod.mk.injEq] at hi
            obtain ⟨rfl,rfl⟩:=hi
            obtain ⟨g1,g2,e3,g3,g4,g5⟩:=hents.2 j k2 v2 q3
            rw [q2] at g3
            cases g3
            refine ⟨g1,hfx,{ e' with key:=a.eval k,val:=a.eval v },?_,by rw [←q4];exact g4,hxv⟩
            simp [Array.toList_modify,hje]
           ·cases hi
          ·rename_i hji
           obtain ⟨g1,g2,e3,g3,g4,g5⟩:=hents.2 i k3 v3 hi
           refine ⟨g1,g2,e3,?_,g4,g5⟩
           simp only [Array.toList_modify,List.getElem?_modify]
           simp [hji,g3]
       obtain ⟨es',clock',hrun,hents'⟩:=main
       have hg:=good_set (w':= { w with heap:=w.heap.setIfInBounds b (.map es' clock') }) (o:= .map ks' vs' (kvSet kd x kv)) (o':= .map ks' vs' kv) hr' ho' (by simp [Obj.like]) rfl rfl ⟨by rw [setMap_block];exact Nat.le_refl _,rfl,rfl⟩ ?_ ?_
       ·refine ⟨_,_,rfl,hrun,hg.1,hg.2.1.mono fun b _ h=>freeze_owned h,?_,(freeze_stay _).trans hg.2.2.2⟩
        intro b h
        rcases hg.2.2.1 b h with h | h
        ·exact .inl (freeze_owned h)
        ·exact .inr h
       ·intro b' hb' hn'
        refine (heap_set hh).2 b' fun he=>hn' ?_
        subst he
        exact ⟨_,cap,ho',rfl,hp⟩
       ·intro hvs' hdd
        refine ⟨b,cap,es',clock',hp,(heap_set hh).1,hks',by simpa using hents'.1,fun i k3 v3 hi=> ?_⟩
        obtain ⟨g1,g2,e3,g3,g4,g5⟩:=hents'.2 i k3 v3 hi
        exact ⟨g1,g2,e3,by simpa using g3,hdd _ _ g4,hdd _ _ g5⟩
     ·exact (by simp [Tree.eval] at h)
    ·exact (by simp [Tree.eval] at h)
   ·exact (by simp [Tree.eval] at h)
  ·exact (by simp [Tree.eval] at h)
 ·exact (by simp [Tree.eval] at h)
theorem rng_ok{t:TypeId}{x:Operand}{r:Out}{base:Nat}(hr:Rel P w X β ⟨fr,ob⟩ a)(hb:64≤base)(hu:P.underlying t=some .string)(h:(stepP (.rng (cOpd P t x)) base fr ob).eval=some r):
  ∃w' u β',(Instr.range t (a.eval x)).run P w= .ok u w'∧Good P w w' X β β' ob (St.kill r.kl ⟨fr,r.ob⟩) a r.v u:=by
 have hxv:=opd_ok (P:=P) hr.ob.tab hr.fr t x
 simp only [stepP] at h
 split at h
 ·rename_i s hx
  rw [hx] at hxv
  have hxv:=RVd hxv
  have hev:a.eval x= .string ⟨s.toArray⟩:=by generalize hz:a.eval x=z at hxv;cases hxv;rfl
  simp only [Tree.eval,Option.some.injEq] at h
  subst h
  have hg:=good_put (w':=w.alloc (.stringIter ⟨s.toArray⟩ 0)) (id:=base) (o:= .sit s 0) (p:= .blk w.heap.size 0) hr (.inl hb) ⟨by rw [alloc_size];omega,rfl,rfl⟩ (fun b hb _=>alloc_old w _ b hb) (fun b c hp hb=>by cases hp;omega)
   (fun _ _=>⟨w.heap.size,0,rfl,alloc_new w _⟩)
  refine ⟨_,_,_,by rw [hev];exact run_range_string w t _ hu,hg.1,?_,hg.2.1,hg.2.2.1,hg.2.2.2⟩
  simp only [RV]
  refine ⟨_,rfl,fun o _=> ?_⟩
  simp [putPl,Pl.block]
 ·exact (by simp [Tree.eval] at h)
theorem nxt_ok{ty:TypeId}{x:Operand}{r:Out}{bs:Nat}(hr:Rel P w X β ⟨fr,ob⟩ a)(h:(stepP (.nxt (cOpd P 0 x)) bs fr ob).eval=some r):
  ∃w' u,(Instr.next (a.eval x) true ty).run P w= .ok u w'∧Good P w w' X β β ob (St.kill r.kl ⟨fr,r.ob⟩) a r.v u:=by
 have hxv:=opd_ok (P:=P) hr.ob.tab hr.fr 0 x
 simp only [stepP] at h
 split at h
 ·rename_i id hx
  rw [hx] at hxv
  split at h
  ·rename_i s pos ho
   simp only [RV] at hxv
   obtain ⟨ad,hev,had⟩:=hxv
   have had:=had _ ho
   obtain ⟨b,cap,hp,hh⟩:=hr.ob.obj id _ ho
   rw [hp] at had
   simp only [Pl.block] at had
   subst had
   have hget:(getObj b).run P w= .ok (.stringIter ⟨s.toArray⟩ pos) w:=by simp [getObj,Sem.run,hh]
   have hsz:(⟨s.toArray⟩:ByteArray).size=s.length:=by simp [ByteArray.size]
   simp only [Tree.eval] at h
   split at h
   ·rename_i hlt
    have hlt:=of_decide_eq_true hlt
    simp only [Option.some.injEq] at h
    subst h
    have hset: ∀o,(setObj b o).run P w= .ok () { w with heap:=w.heap.setIfInBounds b o }:=fun o=>by simp [setObj,Sem.run,hh]
    have hg:=good_set (w':= { w with heap:=w.heap.setIfInBounds b (.stringIter ⟨s.toArray⟩ (pos+(Utf8.decode ⟨s.toArray⟩ pos).2)) }) (o:= .sit s (pos+(Utf8.decode ⟨s.toArray⟩ pos).2)) (o':= .sit s pos) hr ho (by simp [Obj.like]) rfl rfl ⟨by rw [setMap_block];exact Nat.le_refl _,rfl,rfl⟩
     (fun b' hb' hn'=>(heap_set hh).2 b' fun he=>hn' (by subst he;exact ⟨_,cap,ho,rfl,hp⟩)) (fun _ _=>⟨b,cap,hp,(heap_set hh).1⟩)
    refine ⟨_,.tuple #[.bool true,goInt pos,.int .i32 (Utf8.decode ⟨s.toArray⟩ pos).1],?_,hg.1,?_,hg.2.1,hg.2.2.1,hg.2.2.2⟩
    ·unfold Instr.next
     rw [hev]
     simp only [Sem.run_bind,hget,Result.andThen_ok,hsz,hlt,if_true,hset,Sem.run_pure]
    ·simp only [RV]
     refine ⟨_,rfl,?_⟩
     simp only [RVL,RV]
     exact ⟨.bool _,.int _ _,.int _ _,trivial⟩
   ·rename_i hlt
    have hlt:=of_decide_eq_false hlt
    simp only [Option.some.injEq] at h
    subst h
    refine ⟨w,.tuple #[.bool false],?_,hr,?_,Keep.refl _ _,OwnIn.refl _ _ _,Stay.refl _ _⟩
    ·unfold Instr.next
     rw [hev]
     simp only [Sem.run_bind,hget,Result.andThen_ok,hsz,hlt,if_false,Sem.run_pure]
    ·simp only [RV]
     refine ⟨_,rfl,?_⟩
     simp only [RVL,RV]
     exact ⟨.bool _,trivial⟩
  ·exact (by simp [Tree.eval] at h)
 ·exact (by simp [Tree.eval] at h)
end
end Go.AM
