/- Parts of the walk: AMStep8, AMStep9, AMRun1, AMRun2, AMFrame, AMFrame2, AMStepR, AMDraw1. -/
import Derived.Test.YtlhageadjmoajaaDoorGb
import Derived.RangeFuncIn
import Derived.RangeFuncRecord
import Derived.LoopNIn
import Derived.TacticsIn
set_option maxRecDepth 20000
namespace Go.AM
open Go
section
variable {P:Program} {w w':World} {X Y:Nat→Prop} {β:Nat→Pl} {ob:Obs} {fr:List V} {a:Act}
theorem unD_ok{op:UnOp}{x r:D}{u:Value}(h:(unD op x).eval=some r)(hx:RD w Y x u): ∃z,(Op.unary op u).run P w= .ok z w∧RD w Y r z:=by
 cases x <;> try (simp [unD,Tree.eval] at h;done)
 ·cases hx
  cases op <;> simp [unD,Tree.eval] at h
  subst h
  exact ⟨_,rfl,.bool _⟩
 ·cases hx
  cases op <;> simp only [unD,Tree.eval,Option.some.injEq] at h <;> try (cases h;done)
  ·subst h
   exact ⟨_,rfl,.int _ _⟩
  ·subst h
   exact ⟨_,rfl,.int _ _⟩
theorem minI_ok: ∀{vs:List V} {us:List Value} {x r:D} {u:Value},(minI x vs).eval=some r→RD w Y x u→RVL w Y β ob vs us→ ∃z,(us.foldlM Builtin.min2 u).run P w= .ok z w∧RD w Y r z
 | [],us,x,r,u,h,hx,hv=>by
  cases us with
  | cons=>simp [RVL] at hv
  | nil=>
   cases x <;> simp [minI,Tree.eval] at h <;> (subst h;exact ⟨u,by simp,hx⟩)
 | v :: vs,us,x,r,u,h,hx,hv=>by
  cases us with
  | nil=>simp [RVL] at hv
  | cons z us=>
   simp only [RVL] at hv
   cases x <;> try (simp [minI,Tree.eval] at h;done)
   cases v <;> try (simp [minI,Tree.eval] at h;done)
   rename_i k m y
   cases y <;> try (simp [minI,Tree.eval] at h;done)
   rename_i j n
   simp only [minI] at h
   split at h
   ·rename_i hk
    have hk:=of_decide_eq_true hk
    subst hk
    cases hx
    cases RVd hv.1
    obtain ⟨q,h1,h2⟩:=minI_ok h (.int _ _) hv.2
    refine ⟨q,?_,h2⟩
    simp only [List.foldlM_cons,Sem.run_bind,Builtin.min2,Sem.run_pure,Result.andThen_ok]
    exact h1
   ·simp [Tree.eval] at h
theorem maxI_ok: ∀{vs:List V} {us:List Value} {x r:D} {u:Value},(maxI x vs).eval=some r→RD w Y x u→RVL w Y β ob vs us→ ∃z,(us.foldlM Builtin.max2 u).run P w= .ok z w∧RD w Y r z
 | [],us,x,r,u,h,hx,hv=>by
  cases us with
  | cons=>simp [RVL] at hv
  | nil=>
   cases x <;> simp [maxI,Tree.eval] at h <;> (subst h;exact ⟨u,by simp,hx⟩)
 | v :: vs,us,x,r,u,h,hx,hv=>by
  cases us with
  | nil=>simp [RVL] at hv
  | cons z us=>
   simp only [RVL] at hv
   cases x <;> try (simp [maxI,Tree.eval] at h;done)
   cases v <;> try (simp [maxI,Tree.eval] at h;done)
   rename_i k m y
   cases y <;> try (simp [maxI,Tree.eval] at h;done)
   rename_i j n
   simp only [maxI] at h
   split at h
   ·rename_i hk
    have hk:=of_decide_eq_true hk
    subst hk
    cases hx
    cases RVd hv.1
    obtain ⟨q,h1,h2⟩:=maxI_ok h (.int _ _) hv.2
    refine ⟨q,?_,h2⟩
    simp only [List.foldlM_cons,Sem.run_bind,Builtin.max2,Sem.run_pure,Result.andThen_ok]
    exact h1
   ·simp [Tree.eval] at h
theorem shT_agg{d:Nat}{t:TypeId}{s:Sh}{D:TypeDesc}(h:shT P d t=some s)(hD:P.underlying t=some D):isAggD (some D)=s.isAgg:=by
 cases d with
 | zero=>simp [shT] at h
 | succ d=>
  cases D <;> simp only [shT,hD] at h
  all_goals first
   | (cases h;rfl)
   | (simp at h;done)
   | skip
  ·split at h
   ·cases h;rfl
   ·simp at h
  ·split at h
   ·split at h
    ·cases h;rfl
    ·simp at h
   ·simp at h
  ·split at h
   ·split at h
    ·cases h;rfl
    ·simp at h
   ·simp at h
theorem lst_nil{hR:RelO P w X β ob}: ∀id e n m z es,ob.get id=some (.lst e n m z es)→(n=true↔β id= .nil):=by
 intro id e n m z es ho
 have hro:=hR.obj id _ ho
 cases hb:β id <;> rw [hb] at hro
 ·simp [hro.1]
 ·simp [hro.1]
 ·simp [hro.1]
theorem isZeroC_ok{x:Option Operand}(h:isZeroC x=true): ∃k,x=some (.const (.int k 0)):=by
 unfold isZeroC at h
 split at h
 ·rename_i k n
  have:n=0:=by simpa using h
  subst this
  exact ⟨k,rfl⟩
 ·simp at h
theorem cBuiltin_ok{b:Builtin}{ts:Array TypeId}{args:Array Operand}{ty:TypeId}{r:Out}{bs:Nat}{consts:Array Bool}(hr:Rel P w X β ⟨fr,ob⟩ a)(hbs:64≤bs)(h:(stepP (cBuiltin P b ts.toList args.toList) bs fr ob).eval=some r):
  Runs P w X β fr ob a (builtin b ts ty consts (args.map a.eval)) r:=by
 unfold cBuiltin at h
 split at h
 ·-- len
  rename_i t x hts hargs
  have hts':ts= #[t]:=by apply Array.toList_inj.mp;simpa using hts
  have hargs':args= #[x]:=by apply Array.toList_inj.mp;simpa using hargs
  subst hts' hargs'
  have key: ∀k,((k=0→P.underlying t=some .string)∧(k=1→ ∃e,P.underlying t=some (.slice e)))→(stepP (.len k (cOpd P t x)) bs fr ob).eval=some r→
    Runs P w X β fr ob a (builtin .len #[t] ty consts (#[x].map a.eval)) r:=by
   intro k hk h
   simp only [stepP] at h
   obtain ⟨v,h1,rfl⟩:=out_eval h
   obtain ⟨z,hz,hv⟩:=lenV_ok (P:=P) (ty:=ty) hk hr.ob (opd_ok hr.ob.tab hr.fr t x) h1
   exact runs_pure hr (run_next (s:=Builtin.len_ #[t] ty (#[x].map a.eval)) (by simpa using hz)) hv
  split at h
  ·rename_i hu;exact key 0 ⟨fun _=>hu,by simp⟩ h
  ·rename_i e hu;exact key 1 ⟨by simp,fun _=>⟨e,hu⟩⟩ h
  ·rename_i kt e hu
   obtain ⟨v,z,hz,hv,rfl⟩:=mlen_ok (P:=P) (ty:=ty) hr hu h
   exact runs_pure hr (run_next (s:=Builtin.len_ #[t] ty (#[x].map a.eval)) (by simpa using hz)) hv
  ·simp [stepP,Tree.eval] at h
 ·-- append
  rename_i t u s x hts hargs
  have hts':ts= #[t,u]:=by apply Array.toList_inj.mp;simpa using hts
  have hargs':args= #[s,x]:=by apply Array.toList_inj.mp;simpa using hargs
  subst hts' hargs'
  split at h
  ·simp [stepP,Tree.eval] at h
  ·rename_i e d hnot hu hd
   split at h
   ·rename_i sh' hs
    split at h
    ·rename_i hzz
     obtain ⟨zs,hz,hzl⟩: ∃zs,zeroOf P e=some zs∧zs.length=sh'.size:=by
      cases hz:zeroOf P e with
      | none=>simp [hz] at hzz
      | some zs=>simp [hz] at hzz;exact ⟨zs,rfl,hzz⟩
     simp only [stepP] at h
     obtain ⟨w1,u1,β',h1,h2⟩:=appD_ok (P:=P) (ty:=ty) hr hbs hu hs ⟨d,hd,fun k hk=>hnot k hk⟩ ⟨zs,hz,hzl⟩ (opd_ok hr.ob.tab hr.fr t s) (opd_ok hr.ob.tab hr.fr u x) h
     exact runs_good (run_next (s:=Builtin.append_ #[t,u] ty (#[s,x].map a.eval)) (by simpa using h1)) h2
    ·simp [stepP,Tree.eval] at h
   ·simp [stepP,Tree.eval] at h
  ·simp [stepP,Tree.eval] at h
 ·-- min
  rename_i ts' x xs hargs
  simp only [stepP] at h
  split at h
  ·rename_i y hy
   obtain ⟨v,h1,rfl⟩:=out_eval h
   obtain ⟨d,h2,rfl⟩:=mapD_eval h1
   have hx:=opd_ok (P:=P) hr.ob.tab hr.fr 0 x
   rw [hy] at hx
   obtain ⟨z,hz,hv⟩:=minI_ok (P:=P) h2 (RVd hx) (opds_ok hr.ob.tab hr.fr 0 xs)
   refine runs_pure hr (run_next (s:=Builtin.min_ ts ty (args.map a.eval)) (u:=z) ?_) (by simpa [RV] using hv)
   unfold Builtin.min_
   simp only [Array.toList_map,hargs,List.map_cons]
   exact hz
  ·simp [Tree.eval] at h
 ·rename_i ts' x xs hargs
  simp only [stepP] at h
  split at h
  ·rename_i y hy
   obtain ⟨v,h1,rfl⟩:=out_eval h
   obtain ⟨d,h2,rfl⟩:=mapD_eval h1
   have hx:=opd_ok (P:=P) hr.ob.tab hr.fr 0 x
   rw [hy] at hx
   obtain ⟨z,hz,hv⟩:=maxI_ok (P:=P) h2 (RVd hx) (opds_ok hr.ob.tab hr.fr 0 xs)
   refine runs_pure hr (run_next (s:=Builtin.max_ ts ty (args.map a.eval)) (u:=z) ?_) (by simpa [RV] using hv)
   unfold Builtin.max_
   simp only [Array.toList_map,hargs,List.map_cons]
   exact hz
  ·simp [Tree.eval] at h
 ·simp [stepP,Tree.eval] at h
end
section
variable {P:Program} {w w':World} {X Y:Nat→Prop} {β:Nat→Pl} {ob:Obs} {fr:List V} {a:Act}
theorem stuck_none{α:Type}{x:α}(h:(Tree.stuck:Tree α).eval=some x):False:=by simp [Tree.eval] at h
theorem fieldPlace_run{ad:Addr}{f:Field}{n:Nat}(h:P.cellsOf f.type=n)(hn:n≠0):(fieldPlace ad f).run P w= .ok (ad.add f.offset) w:=by
 obtain ⟨i,hi,hs⟩:=cellsOf_info h (by omega)
 have:(sizeOf f.type).run P w= .ok n w:=by simp [sizeOf,typeInfo,hi,hs]
 unfold fieldPlace
 simp [this,hn]
theorem part_run'{t:TypeId}{d:TypeDesc}{cs:List Value}{off:Nat}(h:P.underlying t=some d)(hl:isAggD (some d)=false→off+P.cellsOf t≤cs.length)(h1:isAggD (some d)=false→P.cellsOf t=1):
  (part t cs.toArray off).run P w= .ok (mkV P t ((cs.drop off).take (P.cellsOf t))) w:=by
 cases hd:isAggD (some d) with
 | false=>exact part_run h (hl hd) h1
 | true=>
  unfold part mkV
  rw [h]
  simp only [Sem.run_bind,isAgg_run h,Result.andThen_ok,hd,if_true,sizeOf_run h,Sem.run_pure]
  rw [List.extract_toArray,List.extract_eq_take_drop,Nat.add_sub_cancel_left]
theorem Runs.congr{s s':Sem Next}{r:Out}(h:s.run P w=s'.run P w)(hr:Runs P w X β fr ob a s' r):Runs P w X β fr ob a s r:=by
 obtain ⟨n,u,w1,β',h1,h2⟩:=hr
 exact ⟨n,u,w1,β',by rw [h];exact h1,h2⟩
theorem add_add(ad:Addr)(j:Nat):(ad.add j).block=ad.block∧(ad.spot=none→ad.add j=⟨ad.block,ad.off+j,none⟩):=by
 unfold Addr.add
 split
 ·rename_i h;subst h;refine ⟨rfl,fun hs=> ?_⟩;cases ad;simp at hs;subst hs;rfl
 ·exact ⟨rfl,fun _=>rfl⟩
theorem stepP_ok{o:Oper}{r:Out}{bs:Nat}(hr:Rel P w X β ⟨fr,ob⟩ a)(hbs:64≤bs)(h:(stepP (cOp P o) bs fr ob).eval=some r):Runs P w X β fr ob a (execOp a.eval o) r:=by
 unfold execOp
 unfold cOp at h
 cases hop:o.op <;> simp only [hop] at h ⊢
 case move x=>
  simp only [stepP,Tree.eval,Option.some.injEq] at h
  subst h
  exact runs_pure hr rfl (opd_ok hr.ob.tab hr.fr _ x)
 case assign x=>
  simp only [stepP,Tree.eval,Option.some.injEq] at h
  subst h
  exact runs_pure hr rfl (opd_ok hr.ob.tab hr.fr _ x)
 case pick c x y=>
  simp only [stepP] at h
  split at h
  ·rename_i t ht
   have hc:=opd_ok (P:=P) hr.ob.tab hr.fr 0 c
   rw [ht] at hc
   have hc':a.eval c= .bool t:=by generalize hz:a.eval c=z at hc;cases RVd hc;rfl
   simp only [Tree.eval] at h
   cases t <;> simp only [Option.some.injEq] at h <;> subst h
   ·exact runs_pure hr (by simp [asBool,hc']) (opd_ok hr.ob.tab hr.fr _ y)
   ·exact runs_pure hr (by simp [asBool,hc']) (opd_ok hr.ob.tab hr.fr _ x)
  ·exact (stuck_none h).elim
 case alloc t=>
  have plain: ∀z,zeroOf P t=some z→(stepP (.alloc z) bs fr ob).eval=some r→Runs P w X β fr ob a (do pure (.value (←Instr.alloc t true (.tuple #[])))) r:=by
   intro z hz h
   simp only [stepP,Tree.eval,Option.some.injEq] at h
   subst h
   obtain ⟨w1,u,β',h1,h2⟩:=alloc_ok (P:=P) hr hz bs hbs
   exact runs_good (run_next h1) h2
  split at h
  ·rename_i n e hu
   split at h
   ·rename_i s z hs hz
    simp only [stepP] at h
    split at h
    ·rename_i es hc
     simp only [Tree.eval,Option.some.injEq] at h
     subst h
     obtain ⟨w1,u,β',h1,h2⟩:=allocA_ok (P:=P) (_e:=e) hr hz hc bs hbs
     exact runs_good (run_next h1) h2
    ·exact (stuck_none h).elim
   ·exact (stuck_none h).elim
  ·split at h
   ·rename_i z hz;exact plain z hz h
   ·exact (stuck_none h).elim
 case box t x=>
  split at h
  ·exact (stuck_none h).elim
  ·simp only [stepP] at h
   split at h
   ·rename_i hn
    simp only [Tree.eval,Option.some.injEq] at h
    subst h
    obtain ⟨w1,u,β',h1,h2⟩:=box_ok (P:=P) (t:=t) hr (cells_ok (opd_ok (P:=P) hr.ob.tab hr.fr t x) hn).1 bs hbs
    exact runs_good (run_next h1) h2
   ·exact (stuck_none h).elim
 case build t parts=>
  split at h
  ·rename_i fs hu
   split at h
   ·rename_i z ps hz hp
    split at h
    ·rename_i hall
     simp only [stepP] at h
     split at h
     ·rename_i cs hcs
      simp only [Tree.eval,Option.some.injEq] at h
      subst h
      obtain ⟨u,h1,h2⟩:=build_ok (P:=P) (parts:=parts) hr.ob.tab hr.fr hz (.inl ⟨fs,hu,hp,hall⟩) hcs
      exact runs_pure hr (run_next h1) h2
     ·exact (stuck_none h).elim
    ·exact (stuck_none h).elim
   ·exact (stuck_none h).elim
  ·rename_i n e hu
   split at h
   ·rename_i z hz
    split at h
    ·rename_i hie
     simp only [stepP] at h
     split at h
     ·rename_i cs hcs
      simp only [Tree.eval,Option.some.injEq] at h
      subst h
      obtain ⟨u,h1,h2⟩:=build_ok (P:=P) (parts:=parts) hr.ob.tab hr.fr hz (.inr ⟨n,e,hu,hie,rfl⟩) hcs
      exact runs_pure hr (run_next h1) h2
     ·exact (stuck_none h).elim
    ·exact (stuck_none h).elim
   ·exact (stuck_none h).elim
  ·exact (stuck_none h).elim
 case buildSlice t len parts=>
  split at h
  ·rename_i e hu
   split at h
   ·rename_i s z hs hz
    split at h
    ·rename_i hc
     simp only [Bool.and_eq_true] at hc
     simp only [stepP] at h
     split at h
     ·rename_i cs hcs
      split at h
      ·rename_i ds l hd
       split at h
       ·rename_i es hes
        simp only [Tree.eval,Option.some.injEq] at h
        subst h
        obtain ⟨w1,u,β',h1,h2⟩:=buildSl_ok (P:=P) (parts:=parts) hr hu hs hz (beqN hc.2) (Nat.le_of_ble_eq_true hc.1) hcs hd hes bs hbs
        exact runs_good (run_next h1) h2
       ·exact (stuck_none h).elim
      ·exact (stuck_none h).elim
     ·exact (stuck_none h).elim
    ·exact (stuck_none h).elim
   ·exact (stuck_none h).elim
  ·exact (stuck_none h).elim
 case load t x=>
  split at h
  ·rename_i hu
   simp only [stepP] at h
   obtain ⟨v,h1,rfl⟩:=out_eval h
   obtain ⟨z,hz,hv⟩:=loadAt_ok (P:=P) hr.ob hu (opd_ok hr.ob.tab hr.fr 0 x) h1
   exact runs_pure hr (run_next hz) hv
  ·exact (stuck_none h).elim
 case store t x y=>
  split at h
  ·rename_i hu
   simp only [stepP] at h
   obtain ⟨ob',h1,h2⟩:=Tree.bind_eval.1 h
   simp only [Tree.eval,Option.some.injEq] at h2
   subst h2
   obtain ⟨w1,hrun,hrel,hk,hown,hstay⟩:=storeAt_ok (P:=P) hr hu (opd_ok hr.ob.tab hr.fr 0 x) (opd_ok hr.ob.tab hr.fr t y) h1
   refine ⟨.skip,undef,w1,β,by simp [hrun],.inr ⟨rfl,rfl⟩,⟨hrel,?_,hk,hown,hstay⟩⟩
   simp only [RV,undef]
   exact ⟨#[],rfl,by simp [RVL]⟩
  ·exact (stuck_none h).elim
 case nilCheck x=>
  simp only [stepP] at h
  have hx:=opd_ok (P:=P) hr.ob.tab hr.fr 0 x
  split at h
  ·rename_i id off hv
   rw [hv] at hx
   simp only [Tree.eval,Option.some.injEq] at h
   subst h
   have hx':=hx
   simp only [RV] at hx
   obtain ⟨ad,hx,_⟩:=hx
   exact runs_pure hr (by rw [hx];rfl) (by rw [←hx];exact hx')
  ·rename_i id i off hv
   rw [hv] at hx
   simp only [Tree.eval,Option.some.injEq] at h
   subst h
   have hx':=hx
   simp only [RV] at hx
   obtain ⟨ad,hx,_⟩:=hx
   exact runs_pure hr (by rw [hx];rfl) (by rw [←hx];exact hx')
  ·rename_i cs hv
   rw [hv] at hx
   simp only [Tree.eval,Option.some.injEq] at h
   subst h
   have hx':=hx
   simp only [RV] at hx
   obtain ⟨ad,hx,_⟩:=hx
   exact runs_pure hr (by rw [hx];rfl) (by rw [←hx];exact hx')
  ·rename_i f zas caps hv
   rw [hv] at hx
   simp only [Tree.eval,Option.some.injEq] at h
   subst h
   have hx':=hx
   simp only [RV] at hx
   obtain ⟨us,vs,hx,_⟩:=hx
   exact runs_pure hr (by rw [hx];rfl) (by rw [←hx];exact hx')
  ·exact (stuck_none h).elim
 case binOp op t x y yt=>
  simp only [stepP] at h
  obtain ⟨v,h1,rfl⟩:=out_eval h
  obtain ⟨z,hz,hv⟩:=binV_ok (P:=P) (ox:=x) (oy:=y) h1 (lst_nil (hR:=hr.ob)) (opd_ok hr.ob.tab hr.fr t x) (opd_ok hr.ob.tab hr.fr t y)
  exact runs_pure hr (run_next hz) hv
 case unOp op t x=>
  simp only [stepP] at h
  split at h
  ·rename_i y hy
   obtain ⟨v,h1,rfl⟩:=out_eval h
   obtain ⟨d,h2,rfl⟩:=mapD_eval h1
   have hx:=opd_ok (P:=P) hr.ob.tab hr.fr 0 x
   rw [hy] at hx
   obtain ⟨z,hz,hv⟩:=unD_ok (P:=P) h2 (RVd hx)
   exact runs_pure hr (run_next hz) (by simpa [RV] using hv)
  ·exact (stuck_none h).elim
 case convert src dst x=>
  split at h
  ·rename_i c hc
   have hx:=opd_ok (P:=P) hr.ob.tab hr.fr src x
   unfold cConv at hc
   split at hc
   ·rename_i k k' h1 h2
    simp only [Option.some.injEq] at hc
    subst hc
    generalize hz:opd fr (cOpd P src x)=z at h hx
    cases z with
    | d y=>
     cases y with
     | int j n=>
      simp only [stepP,hz,Tree.eval,Option.some.injEq] at h
      subst h
      have hx':a.eval x= .int j n:=by generalize hz:a.eval x=z at hx;cases RVd hx;rfl
      exact runs_pure hr (run_next (by rw [hx'];simp [convert,run_underlying h1,run_underlying h2,Conv.intToInt];rfl)) (by simp only [RV];exact .int _ _)
     | _=>simp [stepP,hz,Tree.eval] at h
    | _=>simp [stepP,hz,Tree.eval] at h
   ·rename_i h1 h2
    simp only [Option.some.injEq] at hc
    subst hc
    generalize hz:opd fr (cOpd P src x)=z at h hx
    cases z with
    | d y=>
     cases y with
     | str s=>
      simp only [stepP,hz,Tree.eval,Option.some.injEq] at h
      subst h
      have hx':a.eval x= .string ⟨s.toArray⟩:=by generalize hz:a.eval x=z at hx;cases RVd hx;rfl
      exact runs_pure hr (run_next (by rw [hx'];simp [convert,run_underlying h1,run_underlying h2];rfl)) (by simp only [RV];exact .str _)
     | _=>simp [stepP,hz,Tree.eval] at h
    | _=>simp [stepP,hz,Tree.eval] at h
   ·rename_i e h1 h2
    split at hc
    ·rename_i he
     simp only [Option.some.injEq] at hc
     subst hc
     simp only [stepP] at h
     split at h
     ·rename_i es hes
      simp only [Tree.eval,Option.some.injEq] at h
      subst h
      have hb:=b2s_ok (P:=P) hr.ob hes hx
      have hcv:(convert src dst (a.eval x)).run P w= .ok (.string ⟨(es.map fun x=>UInt8.ofNat x.toInt.toNat).toArray⟩) w:=by
       unfold convert
       simp only [Sem.run_bind,run_underlying h1,run_underlying h2,Result.andThen_ok]
       have hsl: ∃ad n c,a.eval x= .slice ad n c:=by
        generalize a.eval x=u at hb
        cases u with
        | slice ad n c=>exact ⟨_,_,_,rfl⟩
        | _=>simp [Conv.bytesToString] at hb
       obtain ⟨ad,n,c,hsl⟩:=hsl
       rw [hsl] at hb ⊢
       cases ad <;> simp only [Sem.run_bind,run_underlying he,Result.andThen_ok] <;> exact hb
      exact runs_pure hr (run_next hcv) (by simp only [RV];exact .str _)
     ·exact (stuck_none h).elim
    ·simp at hc
   ·rename_i e h1 h2
    split at hc
    ·rename_i he
     simp only [Option.some.injEq] at hc
     subst hc
     generalize hz:opd fr (cOpd P src x)=z at h hx
     cases z with
     | d y=>
      cases y with
      | str s=>
       simp only [stepP,hz,Tree.eval] at h
       split at h
       ·simp only [Option.some.injEq] at h
        subst h
        have hx':a.eval x= .string ⟨s.toArray⟩:=by generalize hz:a.eval x=z at hx;cases RVd hx;rfl
        obtain ⟨w1,u,β',hrun,hg⟩:=s2b_ok (P:=P) (e:=e) (s:=s) hr bs hbs
        refine runs_good (run_next (u:=u) ?_) hg
        rw [hx']
        unfold convert
        simp only [Sem.run_bind,run_underlying h1,run_underlying h2,run_underlying he,Result.andThen_ok]
        exact hrun
       ·exact (stuck_none h).elim
      | _=>simp [stepP,hz,Tree.eval] at h
     | _=>simp [stepP,hz,Tree.eval] at h
    ·simp at hc
   ·simp at hc
  ·exact (stuck_none h).elim
 case makeFunc fn first caps=>
  cases fn with
  | func f=>
   simp only [stepP,Tree.eval,Option.some.injEq] at h
   subst h
   refine runs_pure hr (u:= .func (.func f) (first.map a.eval) (caps.map a.eval)) (run_next (by simp [Instr.makeFunc])) ?_
   simp only [RV]
   refine ⟨_,_,rfl,?_,?_⟩
   ·have:=opds_ok (P:=P) hr.ob.tab hr.fr 0 first.toList;simpa using this
   ·have:=opds_ok (P:=P) hr.ob.tab hr.fr 0 caps.toList;simpa using this
  | _=>exact (stuck_none h).elim
 case makeSlice t l c=>
  split at h
  ·rename_i e hu
   split at h
   ·rename_i s z hs hz
    simp only [stepP] at h
    split at h
    ·rename_i zd k l' k' c' hmk hl hc
     split at h
     ·rename_i hf
      simp only [Tree.eval] at h
      split at h
      ·rename_i hb
       simp only [Option.some.injEq] at h
       subst h
       have hl':=opd_ok (P:=P) hr.ob.tab hr.fr 0 l
       rw [hl] at hl'
       have hc':=opd_ok (P:=P) hr.ob.tab hr.fr 0 c
       rw [hc] at hc'
       obtain ⟨w1,u,β',h1,h2⟩:=mkSl_ok (P:=P) hr hu hs hz (RVd hl') (RVd hc') hmk hf (of_decide_eq_true hb) bs hbs
       exact runs_good (run_next h1) h2
      ·simp at h
     ·exact (stuck_none h).elim
    ·exact (stuck_none h).elim
   ·exact (stuck_none h).elim
  ·exact (stuck_none h).elim
 case slice t x lo hi mx=>
  have hlo:=optOpd_ok (P:=P) hr.ob.tab hr.fr lo
  have hhi:=optOpd_ok (P:=P) hr.ob.tab hr.fr hi
  split at h
  ·rename_i hu
   split at h
   ·simp only [stepP] at h
    obtain ⟨v,h1,rfl⟩:=out_eval h
    obtain ⟨z,hz,hv⟩:=slcSV_ok (P:=P) hu (opd_ok hr.ob.tab hr.fr t x) hlo hhi h1
    exact runs_pure hr (run_next hz) hv
   ·exact (stuck_none h).elim
  ·rename_i e hu
   split at h
   ·split at h
    ·rename_i s hs
     simp only [stepP] at h
     obtain ⟨u,h1,h2⟩:=slcV_ok (P:=P) hr hu hs hlo hhi (opd_ok hr.ob.tab hr.fr t x) h
     exact runs_good (run_next h1) h2
    ·exact (stuck_none h).elim
   ·rename_i m
    split at h
    ·rename_i hz
     simp only [Bool.and_eq_true] at hz
     obtain ⟨⟨⟨hz1,hz2⟩,hz3⟩,hz4⟩:=hz
     obtain ⟨s,hs⟩:=Option.isSome_iff_exists.1 hz4
     have hlo':lo=none:=by simpa using hz1
     obtain ⟨k1,hk1⟩:=isZeroC_ok hz2
     obtain ⟨k2,hk2⟩:=isZeroC_ok hz3
     simp only [Option.some.injEq] at hk2
     subst hlo' hk1 hk2
     simp only [stepP] at h
     have hx:=opd_ok (P:=P) hr.ob.tab hr.fr t x
     have hn:=sh_size (P:=P) (w:=w) hs
     split at h
     ·rename_i e' es hv
      rw [hv] at hx
      simp only [Tree.eval,Option.some.injEq] at h
      subst h
      have: ∃ad c,a.eval x= .slice (some ad) es.length c:=by generalize hz:a.eval x=z at hx;cases RVd hx;exact ⟨_,_,rfl⟩
      obtain ⟨ad,c,hax⟩:=this
      refine runs_pure hr (u:= .slice (some (if c=0 then ad else ad)) 0 0) (run_next ?_) (by simp only [RV];exact ⟨_,rfl⟩)
      rw [hax]
      simp [Instr.sliceAt,Instr.slice,run_underlying hu,Instr.sliceBounds,Instr.sliceBound,asIntOf,hn,Act.eval]
     ·rename_i e' es hv
      rw [hv] at hx
      simp only [Tree.eval,Option.some.injEq] at h
      subst h
      have:a.eval x= .slice none 0 0:=by generalize hz:a.eval x=z at hx;cases RVd hx;rfl
      refine runs_pure hr (u:= .slice none 0 0) (run_next ?_) (by simp only [RV];exact .slnil _)
      rw [this]
      simp [Instr.sliceAt,Instr.slice,run_underlying hu,Instr.sliceBounds,Instr.sliceBound,asIntOf,hn,Act.eval]
     ·exact (stuck_none h).elim
    ·exact (stuck_none h).elim
  ·rename_i n e hu
   split at h
   ·rename_i s hs
    simp only [stepP] at h
    obtain ⟨b,l,k,h1,h2,h3⟩:=slcAV_ok (P:=P) hr hs hlo hhi (opd_ok (P:=P) hr.ob.tab hr.fr 0 x) h
    refine runs_good (run_next ?_) h3
    simp [Instr.sliceAt,run_underlying hu,h1,Instr.sureAddr,h2,sh_size hs]
   ·exact (stuck_none h).elim
  ·rename_i ar hu
   split at h
   ·rename_i n e hua
    split at h
    ·rename_i s hs
     simp only [stepP] at h
     obtain ⟨b,l,k,h1,h2,h3⟩:=slcAV_ok (P:=P) hr hs hlo hhi (opd_ok (P:=P) hr.ob.tab hr.fr 0 x) h
     refine runs_good (run_next ?_) h3
     simp [Instr.sliceAt,Instr.slice,run_underlying hu,run_underlying hua,h1,asAddr,h2,sh_size hs]
    ·exact (stuck_none h).elim
   ·exact (stuck_none h).elim
  ·exact (stuck_none h).elim
 case fieldAddr t x f=>
  split at h
  ·rename_i fs hu
   split at h
   ·rename_i fd hf
    split at h
    ·exact (stuck_none h).elim
    ·rename_i hne
     have hne':P.cellsOf fd.type≠0:=fun hc=>hne (by rw [hc];rfl)
     have hrun: ∀ad,a.eval x= .pointer (some ad)→(Instr.fieldAt t (a.eval x) f).run P w= .ok (.pointer (some (ad.add fd.offset))) w:=by
      intro ad hax
      rw [hax]
      simp [Instr.fieldAt,run_underlying hu,hf,Instr.sureAddr,fieldPlace_run (P:=P) rfl hne']
     simp only [stepP] at h
     have hx:=opd_ok (P:=P) hr.ob.tab hr.fr 0 x
     split at h
     ·rename_i id off hv
      rw [hv] at hx
      simp only [Tree.eval,Option.some.injEq] at h
      subst h
      simp only [RV] at hx
      obtain ⟨ad,hax,had⟩:=hx
      refine runs_pure hr (run_next (hrun ad hax)) ?_
      simp only [RV]
      refine ⟨_,rfl,fun o ho=> ?_⟩
      rw [had o ho,(add_add _ _).2 rfl]
     ·rename_i id i off hv
      rw [hv] at hx
      simp only [Tree.eval,Option.some.injEq] at h
      subst h
      simp only [RV] at hx
      obtain ⟨ad,hax,had1,had2⟩:=hx
      refine runs_pure hr (run_next (hrun ad hax)) ?_
      simp only [RV]
      refine ⟨_,rfl,fun e n m z es ho=> ?_,fun e n z es ho=> ?_⟩
      ·obtain ⟨q1,q2⟩:=had1 e n m z es ho
       rw [q1,(add_add _ _).2 rfl]
       exact ⟨by simp [Nat.add_assoc],q2⟩
      ·obtain ⟨q1,q2⟩:=had2 e n z es ho
       rw [q1,(add_add _ _).2 rfl]
       exact ⟨by simp [Nat.add_assoc],q2⟩
     ·rename_i cs hv
      rw [hv] at hx
      simp only [Tree.eval,Option.some.injEq] at h
      subst h
      simp only [RV] at hx
      obtain ⟨ad,hax,had⟩:=hx
      refine runs_pure hr (run_next (hrun ad hax)) ?_
      simp only [RV]
      refine ⟨_,rfl,fun j c hj=> ?_⟩
      rw [List.getElem?_drop] at hj
      obtain ⟨q1,q2,u,q3,q4⟩:=had _ c hj
      rw [(add_add _ _).2 q2]
      exact ⟨q1,rfl,u,by rw [←q3];simp [Nat.add_assoc],q4⟩
     ·exact (stuck_none h).elim
   ·exact (stuck_none h).elim
  ·exact (stuck_none h).elim
 case field t x f=>
  split at h
  ·rename_i fs hu
   split at h
   ·rename_i fd hf
    split at h
    ·rename_i hd
     obtain ⟨D,hD⟩:=Option.isSome_iff_exists.1 hd
     have hx:=opd_ok (P:=P) hr.ob.tab hr.fr t x
     simp only [stepP] at h
     split at h
     ·rename_i ds hv
      rw [hv] at hx
      obtain ⟨v,h1,rfl⟩:=out_eval h
      have hx':=RVd hx
      generalize hz:a.eval x=z at hx'
      cases hx' with
      | agg _ vs hl hrd=>
       obtain ⟨q1,q2,q3⟩:=cellsD_ok (P:=P) (w:=w) (Y:=Ys X β ob) (β:=β) (ob:=ob) (t:=fd.type) (us:=vs.drop fd.offset) (cs:=ds.drop fd.offset)
        ⟨by simp [hl],fun j c u hc hu'=>hrd (fd.offset+j) c u (by rw [←List.getElem?_drop];exact hc) (by rw [←List.getElem?_drop];exact hu')⟩ h1
       refine runs_pure hr (run_next ?_) q3
       have hpart:=part_run' (P:=P) (w:=w) (cs:=vs) (off:=fd.offset) hD ?_ (by rw [←hD];exact q2)
       ·simp only [Instr.field,Sem.run_bind,run_underlying hu,Result.andThen_ok,hf,asAgg,Sem.run_pure]
        exact hpart
       ·intro hag;have:=q2 (by rw [hD];exact hag);rw [List.length_drop] at q1;omega
     ·rename_i ds hv
      rw [hv] at hx
      obtain ⟨v,h1,rfl⟩:=out_eval h
      simp only [RV] at hx
      obtain ⟨vs,hax,hl⟩:=hx
      obtain ⟨q1,q2,q3⟩:=cellsV_ok (P:=P) (t:=fd.type) (hl.drop fd.offset) h1
      refine runs_pure hr (run_next ?_) q3
      rw [hax]
      have hpart:=part_run' (P:=P) (w:=w) (cs:=vs.toList) (off:=fd.offset) hD ?_ (by rw [←hD];exact q2)
      ·simp only [Instr.field,Sem.run_bind,run_underlying hu,Result.andThen_ok,hf,asAgg,Sem.run_pure]
       exact hpart
      ·intro hag;have:=q2 (by rw [hD];exact hag);rw [List.length_drop] at q1;omega
     ·exact (stuck_none h).elim
    ·exact (stuck_none h).elim
   ·exact (stuck_none h).elim
  ·exact (stuck_none h).elim
 case indexAddr t x i=>
  split at h
  ·rename_i e hu
   split at h
   ·rename_i s hs
    simp only [stepP] at h
    obtain ⟨v,h1,rfl⟩:=out_eval h
    obtain ⟨z,hz,hv⟩:=ixSV_ok (P:=P) hu hs hr.ob (opd_ok hr.ob.tab hr.fr t x) (opd_ok hr.ob.tab hr.fr 0 i) h1
    exact runs_pure hr (run_next hz) hv
   ·exact (stuck_none h).elim
  ·rename_i n e hu
   split at h
   ·rename_i s hs
    simp only [stepP] at h
    obtain ⟨v,h1,rfl⟩:=out_eval h
    obtain ⟨z,hz,hv⟩:=ixPV_ok (P:=P) hu hs hr.ob (opd_ok hr.ob.tab hr.fr 0 x) (opd_ok hr.ob.tab hr.fr 0 i) h1
    exact runs_pure hr (run_next hz) hv
   ·exact (stuck_none h).elim
  ·exact (stuck_none h).elim
 case index t x i=>
  split at h
  ·rename_i hu
   simp only [stepP] at h
   obtain ⟨v,h1,rfl⟩:=out_eval h
   obtain ⟨z,hz,hv⟩:=ixStrV_ok (P:=P) hu (opd_ok hr.ob.tab hr.fr t x) (opd_ok hr.ob.tab hr.fr 0 i) h1
   exact runs_pure hr (run_next hz) hv
  ·rename_i n e hu
   split at h
   ·rename_i s hs
    simp only [stepP] at h
    obtain ⟨v,h1,rfl⟩:=out_eval h
    obtain ⟨z,hz,hv⟩:=ixArrV_ok (P:=P) hu hs (fun D hD=>shT_agg (sh_ok hs).2.2.2 hD) (opd_ok hr.ob.tab hr.fr t x) (opd_ok hr.ob.tab hr.fr 0 i) h1
    exact runs_pure hr (run_next hz) hv
   ·exact (stuck_none h).elim
  ·exact (stuck_none h).elim
 case extract x i=>
  simp only [stepP] at h
  have hx:=opd_ok (P:=P) hr.ob.tab hr.fr 0 x
  split at h
  ·rename_i vs hv
   rw [hv] at hx
   split at h
   ·rename_i v hvi
    simp only [Tree.eval,Option.some.injEq] at h
    subst h
    simp only [RV] at hx
    obtain ⟨us,hax,hl⟩:=hx
    have hlen:=hl.length
    have hi:i<vs.length:=(List.getElem?_eq_some_iff.1 hvi).1
    have hui:us.toList[i]? =some us.toList[i]:=List.getElem?_eq_getElem (by omega)
    refine runs_pure hr (u:=us.toList[i]) (run_next ?_) (hl.get i hvi hui)
    rw [hax]
    have:us[i]? =some us.toList[i]:=by rw [←hui];simp
    simp [Instr.extract,this]
   ·exact (stuck_none h).elim
  ·exact (stuck_none h).elim
 case call c=>
  split at h
  ·split at h
   ·simp only [stepP] at h
    exact (stuck_none h).elim
   ·exact (stuck_none h).elim
  ·rename_i b hb
   have key: ∀cs,Runs P w X β fr ob a (builtin b c.argTypes o.type cs (c.args.map a.eval)) r:=fun cs=>cBuiltin_ok (P:=P) (consts:=cs) hr hbs h
   refine Runs.congr ?_ (key (c.args.map fun | .const _=>true | _=>false))
   simp only [resolve,hb,invoke,Sem.run_bind,Sem.run_pure,Result.andThen_ok]
   rfl
  ·exact (stuck_none h).elim
 case makeMap t r0=>
  cases r0 with
  | some _=>exact (stuck_none h).elim
  | none=>
   simp only at h
   split at h
   ·split at h
    ·obtain ⟨w1,u,β',h1,h2⟩:=mkMap_ok (P:=P) (t:=t) hr hbs h
     exact runs_good (run_next h1) h2
    ·exact (stuck_none h).elim
   ·exact (stuck_none h).elim
 case mapUpdate t m k v=>
  split at h
  ·rename_i kt e hu
   split at h
   ·rename_i a1 b1 hk hb
    split at h
    ·rename_i hks
     obtain ⟨w1,ob',rfl,hrun,hrel,hkp,hown,hstay⟩:=mapSet_ok (P:=P) hr hu hk hks h
     refine ⟨.skip,undef,w1,β,by simp [hrun],.inr ⟨rfl,rfl⟩,⟨hrel,?_,hkp,hown,hstay⟩⟩
     simp only [RV,undef]
     exact ⟨#[],rfl,by simp [RVL]⟩
    ·exact (stuck_none h).elim
   ·exact (stuck_none h).elim
  ·exact (stuck_none h).elim
 case insert t m k v=>
  split at h
  ·rename_i kt e hu
   split at h
   ·rename_i a1 b1 hk hb
    split at h
    ·rename_i hks
     obtain ⟨w1,ob',rfl,hrun,hrel,hkp,hown,hstay⟩:=mapSet_ok (P:=P) hr hu hk hks h
     refine ⟨.skip,undef,w1,β,by simp [hrun],.inr ⟨rfl,rfl⟩,⟨hrel,?_,hkp,hown,hstay⟩⟩
     simp only [RV,undef]
     exact ⟨#[],rfl,by simp [RVL]⟩
    ·exact (stuck_none h).elim
   ·exact (stuck_none h).elim
  ·exact (stuck_none h).elim
 case lookup t m k ok=>
  split at h
  ·rename_i kt e hu
   split at h
   ·rename_i a1 b1 z1 hk hb hz
    split at h
    ·rename_i hks
     simp only [Bool.and_eq_true] at hks
     obtain ⟨v,z,hrun,hv,rfl⟩:=mapGet_ok (P:=P) hr hu hk hks.1 hz hks.2 h
     exact runs_pure hr (run_next hrun) hv
    ·exact (stuck_none h).elim
   ·exact (stuck_none h).elim
  ·exact (stuck_none h).elim
 case range t x=>
  split at h
  ·rename_i hu
   obtain ⟨w1,u,β',h1,h2⟩:=rng_ok (P:=P) hr hbs hu h
   exact runs_good (run_next h1) h2
  ·exact (stuck_none h).elim
 case next x s=>
  cases s with
  | false=>exact (stuck_none h).elim
  | true=>
   obtain ⟨w1,u,h1,h2⟩:=nxt_ok (P:=P) (ty:=o.type) hr h
   exact runs_good (run_next h1) h2
 all_goals exact (stuck_none h).elim
end
structure Goes(P:Program)(w w':World)(X:Nat→Prop)(β β':Nat→Pl)(ob:Obs)(st':St)(a':Act):Prop where
 rel:Rel P w' X β' st' a'
 keep:Keep (Owned β ob) w w'
 own:OwnIn w β β' ob st'.ob
 stay:Stay β β' ob st'.ob
theorem OwnIn.trans{w w1:World}{β β1 β2:Nat→Pl}{ob ob1 ob2:Obs}(h:OwnIn w β β1 ob ob1)(h':OwnIn w1 β1 β2 ob1 ob2)(hs:w.heap.size≤w1.heap.size):OwnIn w β β2 ob ob2:=by
 intro b hb
 rcases h' b hb with h1 | h1
 ·exact h b h1
 ·exact .inr (Nat.le_trans hs h1)
theorem OwnIn.old{w:World}{β β':Nat→Pl}{ob ob':Obs}(h:OwnIn w β β' ob ob'): ∀b,b<w.heap.size→Owned β' ob' b→Owned β ob b:=by
 intro b hb ho
 rcases h b ho with h1 | h1
 ·exact h1
 ·omega
theorem Goes.refl{P:Program}{w:World}{X:Nat→Prop}{β:Nat→Pl}{st:St}{a:Act}(h:Rel P w X β st a):Goes P w w X β β st.ob st a:=
 ⟨h,Keep.refl _ _,OwnIn.refl _ _ _,Stay.refl _ _⟩
theorem Goes.trans{P:Program}{w w1 w2:World}{X:Nat→Prop}{β β1 β2:Nat→Pl}{ob:Obs}{st1 st2:St}{a1 a2:Act}(h:Goes P w w1 X β β1 ob st1 a1)(h':Goes P w1 w2 X β1 β2 st1.ob st2 a2):Goes P w w2 X β β2 ob st2 a2:=
 ⟨h'.rel,h.keep.trans h'.keep h.own.old,h.own.trans h'.own h.keep.1,h.stay.trans h'.stay⟩
structure Came(P:Program)(w w':World)(X:Nat→Prop)(β β':Nat→Pl)(ob ob':Obs)(v:V)(u:Value):Prop where
 rel:RelO P w' X β' ob'
 val:RV w' (Ys X β' ob') β' ob' v u
 keep:Keep (Owned β ob) w w'
 own:OwnIn w β β' ob ob'
 stay:Stay β β' ob ob'
def Invokes(P:Program)(f:FuncId)(args:Array Value)(w:World)(R:Value→World→Prop):Prop:=
 (callFunc f args).run P w= .ok (.enter f args) w∧Calls P f args w (fun e w'=> ∃u,e= .returned u∧R u w')∨
 ∃u w',(callFunc f args).run P w= .ok (.value u) w'∧R u w'
abbrev wideAt(ro:Option Nat):Fence:= { Fence.wide with round:=ro }
def YInv(P:Program)(us:List Value)(w:World)(R:Value→World→Prop):Prop:=
 ∃l rest fn tmps assign body,us= .func (.yield l) #[] #[] :: rest∧(Instr.yield l rest.toArray).run P w= .ok (.round l fn tmps assign body) w∧
  ∀n,RoundIn Fence.wide n P l fn tmps assign body w (fun e w'=> ∃u,e= .returned u∧R u w')
def FnOK(P:Program)(f:FuncId)(C:List V→Obs→Tree (V×Obs)):Prop:=
 f≠yNo→ ∀args ob v ob',(C args ob).eval=some (v,ob')→ ∀w X β (us:Array Value),RelO P w X β ob→RVL w (Ys X β ob) β ob args us.toList→
  Invokes P f us w fun u w'=> ∃β',Came P w w' X β β' ob ob' v u
def YieldOK(P:Program)(C:List V→Obs→Tree (V×Obs)):Prop:=
 ∀args ob v ob',(C args ob).eval=some (v,ob')→ ∀w X β (us:List Value),RelO P w X β ob→RVL w (Ys X β ob) β ob args us→
  YInv P us w fun u w'=> ∃β',Came P w w' X β β' ob ob' v u
structure CallOK(P:Program)(E:Env)(cf:CallF):Prop where
 ent: ∀f fn,E.prog f=some fn→ ∀args w,(callFunc f args).run P w= .ok (.enter f args) w
 fn: ∀f args st v st',∀base,64≤base→(callV E cf base f args st).eval=some (v,st')→ ∀w X β a (us:Array Value),Rel P w X β st a→RVL w (Ys X β st.ob) β st.ob args us.toList→
  Invokes P f us w fun u w'=> ∃β',Goes P w w' X β β' st.ob st' a∧RV w' (Ys X β' st'.ob) β' st'.ob v u
 yl: ∀args st v st',∀base,64≤base→(callGen (cf yNo) base args st).eval=some (v,st')→ ∀w X β a (us:List Value),Rel P w X β st a→RVL w (Ys X β st.ob) β st.ob args us→
  YInv P us w fun u w'=> ∃β',Goes P w w' X β β' st.ob st' a∧RV w' (Ys X β' st'.ob) β' st'.ob v u
section
variable {P:Program} {w w':World} {X:Nat→Prop} {β β':Nat→Pl} {a:Act} {st st':St} {ro:Option Nat} {N:Nat}
theorem put_rel{v:V}{u:Value}(h:Rel P w X β st a)(hv:RV w (Ys X β st.ob) β st.ob v u)(dst:Option Nat):Rel P w X β ⟨putT dst v st.fr,st.ob⟩ (a.put dst u):=by
 cases dst with
 | none=>exact h
 | some d=>
  refine ⟨h.ob,?_,h.df⟩
  simp only [putT,Act.put,Array.toList_setIfInBounds]
  exact h.fr.set hv d
theorem rv_undef(w:World)(Y:Nat→Prop)(β:Nat→Pl)(ob:Obs):RV w Y β ob (.tup []) undef:=by
 simp only [RV,undef];exact ⟨#[],rfl,by simp [RVL]⟩
theorem opds_args{fr:List V}{a:Act}{Y:Nat→Prop}{ob:Obs}(hT:TabOK P w Y)(h:RVL w Y β ob fr a.tmps.toList): ∀(ts:List TypeId) (xs:List Operand),ts.length=xs.length→
  RVL w Y β ob (opds fr (cOpds P ts xs)) (xs.map a.eval)
 | [],[],_=>by simp [cOpds,opds,RVL]
 | t :: ts,x :: xs,hl=>by
  simp only [cOpds,opds,List.map_cons,RVL]
  exact ⟨opd_ok hT h t x,opds_args hT h ts xs (by simpa using hl)⟩
 | [],_ :: _,hl=>by simp at hl
 | _ :: _,[],hl=>by simp at hl
theorem cBuiltin_ne{b:Builtin}{ts:List TypeId}{xs:List Operand}{f:Opd}{zas:List Opd}:cBuiltin P b ts xs≠ .call f zas:=by
 unfold cBuiltin
 repeat' split
 all_goals simp
theorem cOp_call{o:Oper}{f:Opd}{zas:List Opd}(h:cOp P o= .call f zas): ∃c v,o.op= .call c∧c.callee= .value v∧f=cOpd P 0 v∧zas=cOpds P c.argTypes.toList c.args.toList∧c.argTypes.size=c.args.size:=by
 unfold cOp at h
 cases hop:o.op <;> simp only [hop] at h
 case call c=>
  split at h
  ·rename_i v hv
   split at h
   ·rename_i hn
    simp only [AOp.call.injEq] at h
    exact ⟨c,v,rfl,hv,h.1.symm,h.2.symm,Nat.eq_of_beq_eq_true hn⟩
   ·simp at h
  ·exact (cBuiltin_ne h).elim
  ·simp at h
 all_goals first
  | (simp at h;done)
  | skip
 all_goals
  exfalso
  revert h
  repeat' split
  all_goals first
   | (simp;done)
   | simp_all
theorem stepO_plain{E:Env}{cf:CallF}{o:AOper}(h: ∀f zas,o.op≠ .call f zas):stepO E cf o st=(stepP o.op (baseId o.dst) st.fr st.ob).bind fun r=>
  match r.kl with
  | []=> .ret ⟨putT o.dst r.v st.fr,r.ob⟩
  | _ :: _=>let st':=St.kill r.kl ⟨st.fr,r.ob⟩
   .ret ⟨putT o.dst r.v st'.fr,st'.ob⟩:=by
 unfold stepO
 cases hop:o.op
 case call f zas=>exact (h f zas hop).elim
 all_goals rfl
theorem baseId_le(d:Option Nat):64≤baseId d:=by
 cases d with
 | none=>simp [baseId]
 | some d=>simp only [baseId];omega
theorem stepO_ok{E:Env}{cf:CallF}(hC:CallOK P E cf){o:Oper}{g:Option (Nat×Bool)}{aft:List Nat}{Q:Exit→Act→World→Prop}{K:Act→World→Prop}(hr:Rel P w X β st a)
  (h:(stepO E cf ⟨o.dst,cOp P o,g,aft⟩ st).eval=some st') (hK: ∀w' β' a',Goes P w w' X β β' st.ob st' a'→K a' w'):o.wpIn (wideAt ro) N P a w K Q:=by
 refine ⟨fun _ _=>trivial,?_⟩
 by_cases hc: ∃f zas,cOp P o= .call f zas
 ·obtain ⟨f,zas,hc⟩:=hc
  obtain ⟨c,v,hop,hcal,rfl,rfl,hlen⟩:=cOp_call hc
  simp only [stepO,hc] at h
  have hf:=opd_ok (P:=P) hr.ob.tab hr.fr 0 v
  split at h
  ·rename_i g zas caps hv
   rw [hv] at hf
   simp only [RV] at hf
   obtain ⟨us,vs,hev,h1,h2⟩:=hf
   obtain ⟨⟨r,st1⟩,e1,e2⟩:=Tree.bind_eval.1 h
   simp only [Tree.eval,Option.some.injEq] at e2
   subst e2
   have hargs:RVL w (Ys X β st.ob) β st.ob (zas++opds st.fr (cOpds P c.argTypes.toList c.args.toList)++caps) (us++c.args.map a.eval++vs).toList:=by
    have:=opds_args (P:=P) hr.ob.tab hr.fr c.argTypes.toList c.args.toList (by simpa using hlen)
    simpa using (h1.append this).append h2
   have hinv:=hC.fn g _ st r st1 (baseId o.dst) (baseId_le _) e1 w X β a _ hr hargs
   have hrun:(execOp a.eval o).run P w=(callFunc g (us++c.args.map a.eval++vs)).run P w:=by
    unfold execOp
    simp only [hop,resolve,hcal,hev,Deferred.ofValue,Sem.run_bind,Sem.run_pure,Result.andThen_ok,invoke]
   have fin: ∀u w',(∃β',Goes P w w' X β β' st.ob st1 a∧RV w' (Ys X β' st1.ob) β' st1.ob r u)→K (a.put o.dst u) w':=by
    rintro u w' ⟨β',hg,hv⟩
    exact hK w' β' _ ⟨put_rel hg.rel hv _,hg.keep,hg.own,hg.stay⟩
   rw [Oper.semAt_eq _ _ _ (fun c' he=>by rw [hop] at he;cases he),hrun]
   rcases hinv with ⟨hen,hcl⟩ | ⟨u,w',hen,hR⟩
   ·rw [hen,Oper.uponIn_enter]
    refine ⟨(fun hd=>by cases hd),?_⟩
    refine callsIn_wide.2 (Calls.mono hcl ?_)
    rintro e w' ⟨u,rfl,hR⟩
    exact fin u w' hR
   ·rw [hen,Oper.uponIn_value]
    exact fin u w' hR
  ·rename_i id hv
   rw [hv] at hf
   have hf0:=hf
   simp only [RV] at hf
   obtain ⟨l,hev,-⟩:=hf
   obtain ⟨⟨r,st1⟩,e1,e2⟩:=Tree.bind_eval.1 h
   simp only [Tree.eval,Option.some.injEq] at e2
   subst e2
   have hargs:RVL w (Ys X β st.ob) β st.ob (.yl id :: opds st.fr (cOpds P c.argTypes.toList c.args.toList)) (a.eval v :: (c.args.map a.eval).toList):=by
    have:=opds_args (P:=P) hr.ob.tab hr.fr c.argTypes.toList c.args.toList (by simpa using hlen)
    simp only [RVL]
    exact ⟨hf0,by simpa using this⟩
   obtain ⟨l',rest,fn,tmps,assign,body,hus,hy,hround⟩:=hC.yl _ st r st1 (baseId o.dst) (baseId_le _) e1 w X β a _ hr hargs
   rw [hev] at hus
   injection hus with hl hrest
   injection hl with hl
   injection hl with hl
   subst hl
   have hrun:(execOp a.eval o).run P w=(Instr.yield l (c.args.map a.eval)).run P w:=by
    unfold execOp
    simp only [hop,resolve,hcal,hev,Deferred.ofValue,Sem.run_bind,Sem.run_pure,Result.andThen_ok,invoke]
    simp
   rw [←hrest] at hy
   rw [Oper.semAt_eq _ _ _ (fun c' he=>by rw [hop] at he;cases he),hrun]
   have hy':(Instr.yield l (c.args.map a.eval)).run P w= .ok (.round l fn tmps assign body) w:=by
    rw [Array.toArray_toList] at hy
    exact hy
   rw [hy',Oper.uponIn_round]
   refine ⟨(fun hd=>by cases hd),?_⟩
   refine (hround (N - 1)).mono ?_
   rintro e w' ⟨u,rfl,β',hg,hv⟩
   exact hK w' β' _ ⟨put_rel hg.rel hv _,hg.keep,hg.own,hg.stay⟩
  ·exact (stuck_none h).elim
 ·rw [stepO_plain (fun f zas he=>hc ⟨f,zas,he⟩)] at h
  obtain ⟨r,e1,e2⟩:=Tree.bind_eval.1 h
  obtain ⟨n,u,w1,β1,hrun,hn,hg⟩:=stepP_ok (P:=P) hr (baseId_le o.dst) e1
  have hst:st'=⟨putT o.dst r.v (St.kill r.kl ⟨st.fr,r.ob⟩).fr,(St.kill r.kl ⟨st.fr,r.ob⟩).ob⟩:=by
   cases hk:r.kl with
   | nil=>simp only [hk,Tree.eval,Option.some.injEq] at e2;rw [←e2];rfl
   | cons i l=>simp only [hk,Tree.eval,Option.some.injEq] at e2;rw [←e2]
  have hk':K (a.put o.dst u) w1:=by
   refine hK w1 β1 _ ?_
   subst hst
   exact ⟨put_rel hg.rel hg.val _,hg.keep,hg.own,hg.stay⟩
  rw [Oper.semAt_eq _ _ _ (fun c' he=>by
   have hb:cOp P o= .bad 0∨ ∃k,cOp P o= .bad k:=by unfold cOp;rw [he];exact .inr ⟨_,rfl⟩
   rcases hb with hb | ⟨k,hb⟩ <;> (rw [hb] at e1;simp [stepP,Tree.eval] at e1)),hrun]
  rcases hn with rfl | ⟨rfl,rfl⟩
  ·exact hk'
  ·exact hk'
theorem set_self{l:List V}{i:Nat}{v:V}(h:l.getD i .any=v)(hv:v≠ .any):l.set i v=l:=by
 by_cases hi:i<l.length
 ·have:l.getD i .any=l[i]:=by simp [List.getD,hi]
  rw [this] at h
  subst h
  simp
 ·rw [List.set_eq_of_length_le (by omega)]
theorem runO_ok{E:Env}{cf:CallF}(hC:CallOK P E cf){ops:Array Oper}{dr:Bool}{o:Oper}{ao:AOper}{Q:Exit→Act→World→Prop}{K:Act→World→Prop}(hr:Rel P w X β st a)
  (hco:cOper P ops dr o=some ao) (h:(runO E cf ao st).eval=some st') (hK: ∀w' β' a',Goes P w w' X β β' st.ob st' a'→K a' w'):
  if Region.wanted o (yielded ops a.tmps) then o.wpIn (wideAt ro) N P a w K Q else (∀f,o.about P w a.eval=some f→(wideAt ro).fn f)∧K (a.put o.dst undef) w:=by
 have skip:st'=⟨putT o.dst (.tup []) st.fr,st.ob⟩→(∀f,o.about P w a.eval=some f→(wideAt ro).fn f)∧K (a.put o.dst undef) w:=by
  rintro rfl
  refine ⟨fun _ _=>trivial,?_⟩
  refine hK w β _ ⟨put_rel hr (rv_undef _ _ _ _) _,Keep.refl _ _,OwnIn.refl _ _ _,Stay.refl _ _⟩
 unfold cOper at hco
 cases hg:o.guard with
 | none=>
  simp only [hg,Option.some.injEq] at hco
  subst hco
  rw [if_pos (by simp [Region.wanted,hg])]
  simp only [runO] at h
  exact stepO_ok hC hr h hK
 | some jw=>
  obtain ⟨j,want⟩:=jw
  simp only [hg] at hco
  split at hco
  ·rename_i p hp
   split at hco
   ·rename_i s hs
    simp only [Option.some.injEq] at hco
    subst hco
    have hy:yielded ops a.tmps j=match a.tmps[s]? with | some (.bool b)=>some b | _=>none:=by
     simp [yielded,hp,hs]
     rfl
    have hw:Region.wanted o (yielded ops a.tmps)=(yielded ops a.tmps j==some want):=by
     simp only [Region.wanted,hg]
    simp only [runO] at h
    split at h
    ·rename_i b hb
     have hfr:=hr.fr.getD s undef
     rw [hb] at hfr
     have hbv:a.tmps[s]? =some (.bool b):=by
      cases ht:a.tmps[s]? with
      | none=>
       have:a.tmps.toList.getD s undef=undef:=by simp [List.getD,ht]
       rw [this] at hfr
       cases RVd hfr
      | some z=>
       have:a.tmps.toList.getD s undef=z:=by simp [List.getD,ht]
       rw [this] at hfr
       cases RVd hfr
       rfl
     rw [hbv] at hy
     rw [hw,hy]
     have hset:⟨st.fr.set s (.d (.bool b)),st.ob⟩=st:=by rw [set_self hb (by simp)]
     cases b with
     | true=>
      simp only [Tree.eval] at h
      rw [hset] at h
      cases want with
      | true=>exact stepO_ok hC hr h hK
      | false=>
       simp only [Tree.eval,Option.some.injEq] at h
       exact skip (h.symm.trans (by rw [set_self hb (by simp)]))
     | false=>
      simp only [Tree.eval] at h
      rw [hset] at h
      cases want with
      | false=>exact stepO_ok hC hr h hK
      | true=>
       simp only [Tree.eval,Option.some.injEq] at h
       exact skip (h.symm.trans (by rw [set_self hb (by simp)]))
    ·rename_i hb
     have hfr:=hr.fr.getD s undef
     rw [hb] at hfr
     simp only [RV] at hfr
     obtain ⟨vs,hvs,_⟩:=hfr
     have hne:yielded ops a.tmps j=none:=by
      rw [hy]
      cases ht:a.tmps[s]? with
      | none=>rfl
      | some z=>
       have:a.tmps.toList.getD s undef=z:=by simp [List.getD,ht]
       rw [this] at hvs
       subst hvs
       rfl
     rw [hw,hne]
     simp only [Tree.eval,Option.some.injEq] at h
     exact skip h.symm
    ·exact (stuck_none h).elim
   ·simp at hco
  ·simp at hco
theorem runOps_ok{E:Env}{cf:CallF}(hC:CallOK P E cf){ops:Array Oper}{dr:Bool}{Q:Exit→Act→World→Prop}: ∀(l:List Oper) (al:List AOper) (w:World) (β:Nat→Pl) (a:Act) (st:St),Rel P w X β st a→
  allO (l.map (cOper P ops dr))=some al→(runOps E cf al st).eval=some st'→(∀w' β' a',Goes P w w' X β β' st.ob st' a'→Q .normal a' w')→wpListIn (wideAt ro) N P ops Q l a w
 | [],al,w,β,a,st,hr,hal,h,hQ=>by
  simp only [List.map_nil,allO,Option.some.injEq] at hal
  subst hal
  simp only [runOps,Tree.eval,Option.some.injEq] at h
  subst h
  exact hQ w β a (Goes.refl hr)
 | o :: l,al,w,β,a,st,hr,hal,h,hQ=>by
  simp only [List.map_cons] at hal
  cases hco:cOper P ops dr o with
  | none=>simp [hco,allO] at hal
  | some ao=>
   simp only [hco,allO] at hal
   split at hal
   ·rename_i m hm
    simp only [Option.some.injEq] at hal
    subst hal
    simp only [runOps] at h
    obtain ⟨st1,e1,e2⟩:=Tree.bind_eval.1 h
    refine wpListIn_step fun K hK=> ?_
    refine runO_ok hC hr hco e1 fun w1 β1 a1 hg=>hK _ _ ?_
    exact runOps_ok hC l m w1 β1 a1 st1 hg.rel hm e2 fun w2 β2 a2 hg2=>hQ w2 β2 a2 (hg.trans hg2)
   ·simp at hal
end
section
variable {P:Program} {w w':World} {X:Nat→Prop} {β β':Nat→Pl} {a:Act} {st st':St}
theorem get_keep(l:List Nat): ∀(ob:Obs) (i:Nat),(keepObs l ob).get i=if i∈l then ob.get i else none
 | [],i=>by simp [keepObs,Obs.get]
 | (k,o) :: ob,i=>by
  simp only [keepObs]
  by_cases hk:l.contains k=true
  ·rw [if_pos hk]
   simp only [Obs.get]
   by_cases he:Nat.beq k i=true
   ·have:=Nat.eq_of_beq_eq_true he
    subst this
    rw [if_pos he,if_pos he,if_pos (by simpa using hk)]
   ·rw [if_neg he,if_neg he,get_keep l ob i]
  ·rw [if_neg hk,get_keep l ob i]
   simp only [Obs.get]
   by_cases he:Nat.beq k i=true
   ·have:=Nat.eq_of_beq_eq_true he
    subst this
    rw [if_neg (by simpa using hk),if_neg (by simpa using hk)]
   ·rw [if_neg he]
def Sub(ob' ob:Obs):Prop:= ∀i o,ob'.get i=some o→ob.get i=some o
theorem Sub.owned{ob ob':Obs}(h:Sub ob' ob){b:Nat}(hb:Owned β ob' b):Owned β ob b:=by
 obtain ⟨i,o,cap,hg,hf,hp⟩:=hb
 exact ⟨i,o,cap,h i o hg,hf,hp⟩
theorem Sub.ys{ob ob':Obs}(h:Sub ob' ob){b:Nat}(hb:Ys X β ob' b):Ys X β ob b:=hb.imp id h.owned
theorem Sub.stays{ob ob':Obs}(h:Sub ob' ob)(l:List Nat):Stays β β ob ob' l:=fun i _ o' ho'=>⟨o',h i o' ho',rfl,like_refl _⟩
theorem Sub.rvl{ob ob':Obs}(h:Sub ob' ob){vs:List V}{us:List Value}(hv:RVL w (Ys X β ob) β ob vs us):RVL w (Ys X β ob') β ob' vs us:=
 RVL.mono (fun _ _ _=>rfl) (fun _ _=>h.ys) _ _ (h.stays _) hv
theorem Sub.relO{ob ob':Obs}(h:Sub ob' ob)(hr:RelO P w X β ob):RelO P w X β ob' where
 obj:=fun i o hg=>(hr.obj i o (h i o hg)).mono (fun _ _ _=>rfl) (fun _ _=>h.ys) (fun _ _ _=>rfl) (h.stays _)
 inj:=fun i j o o' b c c' h1 h2 h3 h4 hf=>hr.inj i j o o' b c c' (h i o h1) (h j o' h2) h3 h4 hf
 notX:=fun i o b c h1 h2=>hr.notX i o b c (h i o h1) h2
 xlt:=hr.xlt
 tab:=hr.tab.keep (Nat.le_refl _) (fun _ _ _=>rfl) (fun _ _ hb=>h.ys hb)
theorem keep_sub(l:List Nat)(ob:Obs):Sub (keepObs l ob) ob:=by
 intro i o h
 rw [get_keep] at h
 split at h
 ·exact h
 ·simp at h
theorem mask_rvl{Y:Nat→Prop}{ob:Obs}(live:List Nat): ∀(i:Nat) (vs:List V) (us:List Value),RVL w Y β ob vs us→RVL w Y β ob (maskF live i vs) us
 | _,[],[],_=>by simp [maskF,RVL]
 | _,[],_ :: _,h=>by simp [RVL] at h
 | _,_ :: _,[],h=>by simp [RVL] at h
 | i,v :: vs,u :: us,h=>by
  simp only [RVL] at h
  simp only [maskF,RVL]
  refine ⟨?_,mask_rvl live _ vs us h.2⟩
  split
  ·exact h.1
  ·simp [RV]
theorem mask_goes(m:Option (List Nat×List Nat))(h:Rel P w X β st a):Goes P w w X β β st.ob (maskSt m st) a:=by
 cases m with
 | none=>exact Goes.refl h
 | some lk=>
  obtain ⟨live,keep⟩:=lk
  have hs:=keep_sub keep st.ob
  exact ⟨⟨hs.relO h.ob,mask_rvl live 0 _ _ (hs.rvl h.fr),h.df⟩,Keep.refl _ _,fun b hb=> .inl (hs.owned hb),fun i o _ hg hm=>⟨o,hs i o hg,hm,rfl,like_refl _⟩⟩
def exOf:Ex→Exit
 | .nrm=> .normal
 | .ext id=> .exit id
 | .ret=> .ret
def DrawOK(P:Program)(E:Env)(cf:CallF):Prop:=
 ∀(ops:Array Oper) (al:List AOper) (id:Nat) (Q:Exit→Act→World→Prop) (w:World) (X:Nat→Prop) (β:Nat→Pl) (a:Act) (st st':St),allO (ops.toList.map (cOper P ops true))=some al→Rel P w X β st a→
  (runDraw E cf al st).eval=some st'→(∀w' β' a',Goes P w w' X β β' st.ob st' a'→Q .normal a' w')→ ∀ro N,(Code.region id ops true).wpIn (wideAt ro) N P Q a w
theorem setTmp_same{c:Opd}{t:Bool}(h:opd st.fr c= .d (.bool t)):setTmp c t st=st:=by
 cases c with
 | con v=>rfl
 | tmp i=>
  simp only [setTmp]
  simp only [opd] at h
  rw [set_self h (by simp)]
theorem iter_ok{ro:Option Nat}{N:Nat}{m:Option (List Nat×List Nat)}{body:St→Tree (Ex×St)}{c:Code}{Q:Exit→Act→World→Prop}{e:Ex}
  (hb: ∀w β a st e st' (Q:Exit→Act→World→Prop),Rel P w X β st a→(body st).eval=some (e,st')→(∀w' β' a',Goes P w w' X β β' st.ob st' a'→Q (exOf e) a' w')→c.wpIn (wideAt ro) N P Q a w):
  ∀(k:Nat) (w:World) (β:Nat→Pl) (a:Act) (st:St),Rel P w X β st a→(iter (maskSt m) body k st).eval=some (e,st')→(∀w' β' a',Goes P w w' X β β' st.ob st' a'→Q (exOf e) a' w')→(e= .nrm→False)→
   Code.roundsIn (wideAt ro) N P c Q k a w
 | 0,w,β,a,st,hr,h,hQ,_=>by simp [iter,Tree.eval] at h
 | k+1,w,β,a,st,hr,h,hQ,hn=>by
  simp only [iter] at h
  obtain ⟨⟨e1,st1⟩,h1,h2⟩:=Tree.bind_eval.1 h
  have hm:=mask_goes m hr
  rw [roundsIn_succ]
  refine hb w β a _ e1 st1 _ hm.rel h1 fun w1 β1 a1 hg=> ?_
  have hg:=hm.trans hg
  cases e1 with
  | nrm=>
   exact iter_ok hb k w1 β1 a1 st1 hg.rel h2 (fun w2 β2 a2 hg2=>hQ w2 β2 a2 (hg.trans hg2)) hn
  | ext id=>
   simp only [Tree.eval,Option.some.injEq,Prod.mk.injEq] at h2
   obtain ⟨rfl,rfl⟩:=h2
   exact hQ w1 β1 a1 hg
  | ret=>
   simp only [Tree.eval,Option.some.injEq,Prod.mk.injEq] at h2
   obtain ⟨rfl,rfl⟩:=h2
   exact hQ w1 β1 a1 hg
theorem iter_exit{m:St→St}{body:St→Tree (Ex×St)}{e:Ex}: ∀(k:Nat) (st:St),(iter m body k st).eval=some (e,st')→e= .nrm→False
 | 0,st,h,_=>by simp [iter,Tree.eval] at h
 | k+1,st,h,he=>by
  simp only [iter] at h
  obtain ⟨⟨e1,st1⟩,h1,h2⟩:=Tree.bind_eval.1 h
  cases e1 with
  | nrm=>exact iter_exit k st1 h2 he
  | ext id=>simp only [Tree.eval,Option.some.injEq,Prod.mk.injEq] at h2;rw [he] at h2;cases h2.1
  | ret=>simp only [Tree.eval,Option.some.injEq,Prod.mk.injEq] at h2;rw [he] at h2;cases h2.1
theorem stepR_scope{b:Frame}{k:List Item}{cs:List Frame}{c:Code}:step P (lone (b.atR a (.code (.scope c) :: k)) cs w)= .next (lone (b.atR a (.code c :: .inScope c :: k)) cs w):=
 step_lone_go (by simp [stepG,stepG.exec,Frame.atR])
theorem stepR_inScope{b:Frame}{k:List Item}{cs:List Frame}{c:Code}:step P (lone (b.atR a (.inScope c :: k)) cs w)= .next (lone (b.atR a k) cs w):=
 step_lone_go (by simp [stepG,stepG.exec,Frame.atR])
theorem wpIn_scope_straight{F:Fence}{N:Nat}{Q:Exit→Act→World→Prop}{a:Act}{w:World}{c:Code}(h:c.wpIn F N P (Exit.noGoto Q) a w):(Code.scope c).wpIn F N P Q a w:=by
 intro b k cs hro hb hr
 have h0:(lone (b.atR a (.code (.scope c) :: k)) cs w).fenced P F:=fenced_calm hb hr rfl
 obtain ⟨e,a1,w1,hq,harr⟩:=h b (.inScope c :: k) cs hro hb hr
 cases e with
 | normal=>exact ⟨.normal,a1,w1,hq,.head h0 stepR_scope (StepsIn.trans harr (.one (fenced_calm hb hr rfl) stepR_inScope))⟩
 | exit id=>
  have hx:exitTo id (.inScope c :: k)=exitTo id k:=by simp [exitTo]
  exact ⟨.exit id,a1,w1,hq,fun k' hk=> .head h0 stepR_scope (harr.1 k' (by rw [hx];exact hk)),
   fun hr' hk=>let ⟨k1,h1,h2⟩:=harr.2 hr' (by rw [hx];exact hk); ⟨k1,h1,.head h0 stepR_scope h2⟩⟩
 | goto l=>exact hq.elim
 | ret=>exact ⟨_,a1,w1,hq,.of_steps (.one h0 stepR_scope) harr⟩
 | panic ch=>exact ⟨_,a1,w1,hq,.of_steps (.one h0 stepR_scope) harr⟩
 | outgrown=>exact ⟨_,a1,w1,hq,.of_steps (.one h0 stepR_scope) harr⟩
theorem Rel.grow'(h:Rel P w X β st a)(hk:Keep (fun _=>False) w w'):Rel P w' X β st a:=by
 have hk': ∀b,b<w.heap.size→w'.heap[b]? =w.heap[b]? :=fun b hb=>hk.2 b hb (fun x=>x)
 have hs: ∀l,Stays β β st.ob st.ob l:=fun l i _ o ho=>⟨o,ho,rfl,like_refl _⟩
 refine ⟨⟨?_,h.ob.inj,h.ob.notX,fun b hx=>Nat.lt_of_lt_of_le (h.ob.xlt b hx) hk.1,h.ob.tab.keep hk.1 (fun b hb _=>hk' b hb) (fun _ _ h=>h)⟩,RVL.mono (fun b hb _=>hk' b hb) (fun _ _ h=>h) _ _ (hs _) h.fr,h.df.keep h.ob (hk.mono fun _ _ h=>h.elim)⟩
 intro i o ho
 exact (h.ob.obj i o ho).mono (fun b hb _=>hk' b hb) (fun _ _ h=>h) (fun b cap hp=>hk' b ((h.ob.obj i o ho).lt hp)) (hs _)
theorem get_sans: ∀(ob:Obs) (k i:Nat),(ob.sans k).get i=if i=k then none else ob.get i
 | [],k,i=>by simp [Obs.sans,Obs.get]
 | (m,p) :: l,k,i=>by
  have ih:=get_sans l k i
  by_cases hm:m=k
  ·subst hm
   simp only [Obs.sans,Nat.beq_refl,if_true]
   rw [ih]
   by_cases hi:i=m
   ·simp [hi]
   ·have hb:Nat.beq m i=false:=by
     cases hb:Nat.beq m i with
     | false=>rfl
     | true=>exact (hi (Nat.eq_of_beq_eq_true hb).symm).elim
    simp [hi,Obs.get,hb]
  ·have hb:Nat.beq m k=false:=by
    cases hb:Nat.beq m k with
    | false=>rfl
    | true=>exact (hm (Nat.eq_of_beq_eq_true hb)).elim
   simp only [Obs.sans,hb]
   simp only [Bool.false_eq_true,if_false,Obs.get]
   by_cases hi:i=k
   ·subst hi
    rw [hb,ih];simp
   ·rw [ih];simp [hi]
theorem sans_sub(ob:Obs)(k:Nat)(o:AM.Obj):Sub (ob.sans k) (ob.set k o):=by
 intro i q h
 rw [get_sans] at h
 rw [get_set]
 split at h
 ·cases h
 ·rename_i hi
  rw [if_neg hi];exact h
theorem rfn_ok{E:Env}{cf:CallF}{n N:Nat}(hC:CallOK P E cf){base:Nat}{live:List Nat}{g:Operand}{ps:List Nat}{qs:Array Tmp}{x y:AC}{c1 c2:Code}{e:Ex}{Q:Exit→Act→World→Prop}
  (hps:qs.toList=ps) (h1:cCode P c1=x.erase) (h2:cCode P c2=y.erase) (hr:Rel P w X β st a) (h:(runC E cf n (.rfn base live (cOpd P 0 g) ps x y) st).eval=some (e,st'))
  (hQ: ∀w' β' a',Goes P w w' X β β' st.ob st' a'→Q (exOf e) a' w'):(Code.rangeFunc g qs c1 c2).wpIn (wideAt none) N P Q a w:=by
 simp only [runC] at h
 have hf:=opd_ok (P:=P) hr.ob.tab hr.fr 0 g
 split at h
 ·rename_i gi zas caps hv
  rw [hv] at hf
  simp only [RV] at hf
  obtain ⟨us,vs,hev,has,hcaps⟩:=hf
  split at h
  ·rename_i fn0 h63 hprog
   obtain ⟨⟨r,st2⟩,e1,e2⟩:=Tree.bind_eval.1 h
   simp only at e2
   split at e2
   ·rename_i ps2 x2 y2 fr2 s pe ho2
    split at e2
    ·exact (stuck_none e2).elim
    rename_i hs1
    refine wpIn_rangeFunc fun fn _=> ?_
    obtain ⟨wA,hwA⟩: ∃wA,wA=w.alloc (.deferred (some [])):=⟨_,rfl⟩
    have szA:wA.heap.size=w.heap.size+1:=by rw [hwA];exact World.size_alloc _ _
    have newA:wA.heap[w.heap.size]? =some (.deferred (some [])):=by rw [hwA];exact World.alloc_heap_new w _
    have oldA: ∀b,b<w.heap.size→wA.heap[b]? =w.heap[b]? :=by
     intro b hb
     rw [hwA];exact alloc_old _ _ _ hb
    have kA:Keep (fun _=>False) w wA:=⟨by omega,fun b hb _=>oldA b hb,by rw [hwA];exact ⟨rfl,rfl⟩⟩
    have hrA0:=hr.grow' kA
    have hrA:Rel P wA X β st { a with defers:= { target:= .collected w.heap.size,args:= #[] } :: a.defers }:=by
     refine ⟨hrA0.ob,hrA0.fr,⟨⟨w.heap.size,rfl,newA,⟨fun hx=>Nat.lt_irrefl _ (hr.ob.xlt _ hx),fun p hp he=> ?_⟩,?_⟩,hrA0.df⟩⟩
     ·have:=(hr.ob.tab p hp).1
      omega
     ·have key: ∀l:List Deferred,Marks P w X l→ ∀d'∈l,d'≠{ target:= .collected w.heap.size,args:= #[] }:=by
       intro l
       induction l with
       | nil=>intro _ d' hd;simp at hd
       | cons d l ih=>
        intro hm d' hd
        obtain ⟨⟨D,m1,m2,m3,m4⟩,m5⟩:=hm
        rcases List.mem_cons.1 hd with rfl | hd
        ·rw [m1]
         intro he
         injection he with he _
         injection he with he
         have:=(Array.getElem?_eq_some_iff.1 m2).1
         omega
        ·exact ih m5 d' hd
      exact key _ hr.df
    obtain ⟨rc,hrc⟩: ∃rc:Loop,rc= { state:= .ready,pending:=none,fn,tmps:=a.tmps,params:=qs,assign:=c1,body:=c2,defers:=w.heap.size }:=⟨_,rfl⟩
    obtain ⟨w1,hw1⟩: ∃w1,w1=wA.alloc (.loop rc):=⟨_,rfl⟩
    have sz1:w1.heap.size=w.heap.size+2:=by rw [hw1,World.size_alloc,szA]
    have new1:w1.heap[w.heap.size+1]? =some (.loop rc):=by rw [hw1,←szA];exact World.alloc_heap_new wA _
    have old1: ∀b,b<wA.heap.size→w1.heap[b]? =wA.heap[b]? :=by
     intro b hb
     rw [hw1];exact alloc_old _ _ _ hb
    obtain ⟨fr,ob⟩:=st
    obtain ⟨q1,q2,q3,q4⟩:=good_put0 (id:=63) (o:= .loop ps x y (maskF live 0 fr) 0 none) (p:= .blk (w.heap.size+1) 0) (w':=w1) hrA ⟨by omega,by rw [hw1];exact ⟨rfl,rfl⟩⟩ (fun b hb _=>old1 b hb)
     (fun b cap hp hb=>by injection hp with hp _;omega)
     (fun hvs _=>⟨_,_,rc,rfl,new1,by rw [hrc];exact ⟨hps,h1,h2⟩,by rw [hrc];exact ⟨rfl,rfl⟩,by rw [hrc];exact hvs _ _ (mask_rvl live 0 _ _ hrA.fr)⟩)
    have hargs:RVL w1 (Ys X (putPl β 63 (.blk (w.heap.size+1) 0)) ((ob.set 63 (.loop ps x y (maskF live 0 fr) 0 none)).sub (killOf [63]))) (putPl β 63 (.blk (w.heap.size+1) 0)) ((ob.set 63 (.loop ps x y (maskF live 0 fr) 0 none)).sub (killOf [63]))
      (V.subL (killOf [63]) zas++ .yl 63 :: V.subL (killOf [63]) caps) (us++ #[Value.func (.yield (w.heap.size+1)) #[] #[]]++vs).toList:=by
     have hk': ∀{l:List V} {ul:List Value},RVL w (Ys X β ob) β ob l ul→RVL wA (Ys X β ob) β ob l ul:=fun hl=>RVL.mono (fun b hb _=>oldA b hb) (fun _ _ h=>h) _ _ (fun _ _ o ho=>⟨o,ho,rfl,like_refl _⟩) hl
     have a1:=q4 _ _ (hk' has)
     have a2:=q4 _ _ (hk' hcaps)
     have a3:RVL w1 (Ys X (putPl β 63 (.blk (w.heap.size+1) 0)) ((ob.set 63 (.loop ps x y (maskF live 0 fr) 0 none)).sub (killOf [63]))) (putPl β 63 (.blk (w.heap.size+1) 0)) ((ob.set 63 (.loop ps x y (maskF live 0 fr) 0 none)).sub (killOf [63])) (.yl 63 :: V.subL (killOf [63]) caps) (.func (.yield (w.heap.size+1)) #[] #[] :: vs.toList):=by
      simp only [RVL]
      refine ⟨?_,a2⟩
      simp only [RV]
      exact ⟨_,rfl,fun o _=>by simp [putPl,Pl.block]⟩
     simpa using a1.append a3
    have hinv:=hC.fn gi _ _ r st2 (base+64) (by omega) e1 w1 X _ _ _ q1 hargs
    have hent:=hC.ent gi fn0 hprog
    have hcl:Calls P gi (us++ #[Value.func (.yield (w.heap.size+1)) #[] #[]]++vs) w1 (fun e w'=> ∃u,e= .returned u∧ ∃β',Goes P w1 w' X (putPl β 63 (.blk (w.heap.size+1) 0)) β' ((ob.set 63 (.loop ps x y (maskF live 0 fr) 0 none)).sub (killOf [63])) st2 { a with defers:= { target:= .collected w.heap.size,args:= #[] } :: a.defers }∧RV w' (Ys X β' st2.ob) β' st2.ob r u):=by
     rcases hinv with ⟨_,hcl⟩ | ⟨u,w',hen,_⟩
     ·exact hcl
     ·rw [hent] at hen;cases hen
    refine ⟨w.heap.size+1,[{ target:= .collected w.heap.size,args:= #[] }],w1,{ target:= .fn (.func gi) vs,args:=us++ #[.func (.yield (w.heap.size+1)) #[] #[]] },w1,gi,us++ #[.func (.yield (w.heap.size+1)) #[] #[]]++vs,w1,?_,?_,fun _ _=>trivial,?_,(fun hd=>by cases hd),?_⟩
    ·rw [hw1,hwA,hrc];exact run_enterLoop_outer _ _ _ _ _
    ·simp only [resolve,hev]
     simp [Deferred.ofValue,go_sem]
    ·simp [invoke,hent]
    ·refine callsIn_wide.2 (Calls.mono hcl ?_)
     rintro e' w' ⟨u,rfl,β',hg,_⟩
     obtain ⟨o1,g1,_,hβ,_⟩:=hg.stay 63 _ (by omega) ho2 rfl
     obtain ⟨b,cap,rec,hp,hh,hq,hst,hfr⟩:=hg.rel.ob.obj 63 _ ho2
     have hb:b=w.heap.size+1:=by
      have:putPl β 63 (.blk (w.heap.size+1) 0) 63= .blk (w.heap.size+1) 0:=by simp [putPl]
      rw [hβ,this] at hp;cases hp;rfl
     subst hb
     have hbusy:rec.state≠ .busy:=by
      intro hbu
      have:=hst.1
      rw [hbu] at this
      exact hs1 (by rw [←this];rfl)
     obtain ⟨fr3,ob3⟩:=st2
     obtain ⟨s1,s2,s3,s4⟩:=good_set (o:= .loop ps2 x2 y2 fr2 3 pe) (w':=w'.putObj (w.heap.size+1) (.loop { rec with state:= .exhausted })) hg.rel ho2 (by simp [Obj.like]) rfl rfl ⟨by simp [World.putObj],rfl,rfl⟩
      (fun b' _ hn=>by
       simp only [World.putObj,Array.getElem?_setIfInBounds]
       rw [if_neg (fun e=>hn ⟨_,cap,ho2,rfl,by rw [←e];exact hp⟩)])
      (fun hvs _=>⟨_,cap,{ rec with state:= .exhausted },hp,by simp only [World.putObj,Array.getElem?_setIfInBounds,if_true];rw [if_pos (Array.getElem?_eq_some_iff.1 hh).1],hq,⟨rfl,hst.2⟩,hvs _ _ hfr⟩)
     have hg2:Goes P w1 _ X _ β' _ ⟨fr3,ob3.set 63 (.loop ps2 x2 y2 fr2 3 pe)⟩ _:=hg.trans ⟨s1,s2,s3,s4⟩
     have hsub:=sans_sub ob3 63 (.loop ps2 x2 y2 fr2 3 pe)
     have hfin:Goes P w (w'.putObj (w.heap.size+1) (.loop { rec with state:= .exhausted })) X β β' ob ⟨fr3,ob3.sans 63⟩ { a with defers:= { target:= .collected w.heap.size,args:= #[] } :: a.defers }:=by
      have k01:Keep (Owned β ob) w w1:=by
       refine ⟨by omega,fun b hb _=>by rw [old1 b (by omega),oldA b hb],by rw [hw1,hwA];exact ⟨rfl,rfl⟩⟩
      have o01:OwnIn w β (putPl β 63 (.blk (w.heap.size+1) 0)) ob ((ob.set 63 (.loop ps x y (maskF live 0 fr) 0 none)).sub (killOf [63])):=by
       intro b hb
       rcases q3 b hb with hb | hb
       ·exact .inl hb
       ·exact .inr (by omega)
      refine ⟨⟨hsub.relO hg2.rel.ob,hsub.rvl hg2.rel.fr,hg2.rel.df⟩,k01.trans hg2.keep o01.old,fun b hb=>(o01.trans hg2.own (by omega)) b (hsub.owned hb),?_⟩
      intro i o' hi hgo hm
      rw [get_sans] at hgo
      split at hgo
      ·cases hgo
      rename_i hi63
      obtain ⟨o2,t1,t2,t3,t4⟩:=hg.stay i o' hi hgo hm
      rw [get_sub,get_set,if_neg hi63] at t1
      cases hgi:ob.get i with
      | none=>simp [hgi] at t1
      | some oo=>
       simp only [hgi,Option.map_some,Option.some.injEq] at t1
       subst t1
       exact ⟨oo,rfl,by cases oo <;> exact t2,by rw [t3];simp [putPl,hi63],like_trans (sub_like _ _) t4⟩
     have hend:(Instr.endLoop (w.heap.size+1)).run P w'= .ok (penOf pe) (w'.putObj (w.heap.size+1) (.loop { rec with state:= .exhausted })):=(run_endLoop hh hbusy).trans (by rw [hst.2])
     refine ⟨_,_,hend,?_⟩
     cases pe with
     | none=>
      simp only [Tree.eval,Option.some.injEq,Prod.mk.injEq] at e2
      obtain ⟨rfl,rfl⟩:=e2
      exact hQ _ _ _ hfin
     | some pj=>
      cases pj with
      | none=>
       simp only [Tree.eval,Option.some.injEq,Prod.mk.injEq] at e2
       obtain ⟨rfl,rfl⟩:=e2
       exact wpIn_ret (hQ _ _ _ hfin)
      | some j=>
       simp only [Tree.eval,Option.some.injEq,Prod.mk.injEq] at e2
       obtain ⟨rfl,rfl⟩:=e2
       exact wpIn_exit (hQ _ _ _ hfin)
   ·exact (stuck_none e2).elim
  ·exact (stuck_none h).elim
 ·exact (stuck_none h).elim
theorem runC_ok{E:Env}{cf:CallF}{n:Nat}(hC:CallOK P E cf)(hD:DrawOK P E cf)(ro:Option Nat)(N:Nat): ∀(ac:AC),(ro=none∨noRfn ac=true)→ ∀(c:Code) (w:World) (β:Nat→Pl) (a:Act) (st:St) (e:Ex) (st':St) (Q:Exit→Act→World→Prop),cCode P c=ac.erase→Rel P w X β st a→
  (runC E cf n ac st).eval=some (e,st')→(∀w' β' a',Goes P w w' X β β' st.ob st' a'→Q (exOf e) a' w')→c.wpIn (wideAt ro) N P Q a w:=by
 intro ac
 induction ac with
 | skip=>
  intro hn c w β a st e st' Q hc hr h hQ
  simp only [runC,Tree.eval,Option.some.injEq,Prod.mk.injEq] at h
  obtain ⟨rfl,rfl⟩:=h
  have:=hQ w β a (Goes.refl hr)
  cases c <;> simp only [cCode,AC.erase] at hc
  case skip=>exact wpIn_skip this
  case label=>exact wpIn_label this
  case region=>split at hc <;> cases hc
  all_goals cases hc
 | ret=>
  intro hn c w β a st e st' Q hc hr h hQ
  simp only [runC,Tree.eval,Option.some.injEq,Prod.mk.injEq] at h
  obtain ⟨rfl,rfl⟩:=h
  have:=hQ w β a (Goes.refl hr)
  cases c <;> simp only [cCode,AC.erase] at hc
  case ret=>exact wpIn_ret this
  case region=>split at hc <;> cases hc
  all_goals cases hc
 | seq x y ihx ihy=>
  intro hn c w β a st e st' Q hc hr h hQ
  cases c <;> simp only [cCode,AC.erase] at hc
  case seq c1 c2=>
   injection hc with hc1 hc2
   simp only [runC] at h
   obtain ⟨⟨e1,st1⟩,h1,h2⟩:=Tree.bind_eval.1 h
   refine wpIn_seq (ihx (hn.imp id fun h=>by simp only [noRfn,Bool.and_eq_true] at h;exact h.1) c1 w β a st e1 st1 _ hc1 hr h1 fun w1 β1 a1 hg=> ?_)
   cases e1 with
   | nrm=>exact ihy (hn.imp id fun h=>by simp only [noRfn,Bool.and_eq_true] at h;exact h.2) c2 w1 β1 a1 st1 e st' Q hc2 hg.rel h2 fun w2 β2 a2 hg2=>hQ w2 β2 a2 (hg.trans hg2)
   | ext id=>
    simp only [Tree.eval,Option.some.injEq,Prod.mk.injEq] at h2
    obtain ⟨rfl,rfl⟩:=h2
    exact hQ w1 β1 a1 hg
   | ret=>
    simp only [Tree.eval,Option.some.injEq,Prod.mk.injEq] at h2
    obtain ⟨rfl,rfl⟩:=h2
    exact hQ w1 β1 a1 hg
  case region=>split at hc <;> cases hc
  all_goals cases hc
 | cond x y z ihy ihz=>
  intro hn c w β a st e st' Q hc hr h hQ
  cases c <;> simp only [cCode,AC.erase] at hc
  case cond o c1 c2=>
   injection hc with hc0 hc1 hc2
   subst hc0
   simp only [runC] at h
   split at h
   ·rename_i t ht
    have hv:=opd_ok (P:=P) hr.ob.tab hr.fr 0 o
    rw [ht] at hv
    have hev:a.eval o= .bool t:=by generalize hz:a.eval o=z at hv;cases RVd hv;rfl
    cases t with
    | true=>
     simp only [Tree.eval] at h
     rw [setTmp_same ht] at h
     exact wpIn_cond_true hev (ihy (hn.imp id fun h=>by simp only [noRfn,Bool.and_eq_true] at h;exact h.1) c1 w β a st e st' Q hc1 hr h hQ)
    | false=>
     simp only [Tree.eval] at h
     rw [setTmp_same ht] at h
     exact wpIn_cond_false hev (ihz (hn.imp id fun h=>by simp only [noRfn,Bool.and_eq_true] at h;exact h.2) c2 w β a st e st' Q hc2 hr h hQ)
   ·exact (stuck_none h).elim
  case region=>split at hc <;> cases hc
  all_goals cases hc
 | block id x ih=>
  intro hn c w β a st e st' Q hc hr h hQ
  cases c <;> simp only [cCode,AC.erase] at hc
  case block id' c1=>
   injection hc with hc0 hc1
   subst hc0
   simp only [runC] at h
   obtain ⟨⟨e1,st1⟩,h1,h2⟩:=Tree.bind_eval.1 h
   refine wpIn_block (ih hn c1 w β a st e1 st1 _ hc1 hr h1 fun w1 β1 a1 hg=> ?_)
   cases e1 with
   | nrm=>
    simp only [Tree.eval,Option.some.injEq,Prod.mk.injEq] at h2
    obtain ⟨rfl,rfl⟩:=h2
    exact hQ w1 β1 a1 hg
   | ext j=>
    simp only at h2
    split at h2
    ·rename_i hj
     simp only [Tree.eval,Option.some.injEq,Prod.mk.injEq] at h2
     obtain ⟨rfl,rfl⟩:=h2
     simp only [exOf,Exit.inBlock]
     rw [if_pos (Nat.eq_of_beq_eq_true hj)]
     exact hQ w1 β1 a1 hg
    ·rename_i hj
     simp only [Tree.eval,Option.some.injEq,Prod.mk.injEq] at h2
     obtain ⟨rfl,rfl⟩:=h2
     simp only [exOf,Exit.inBlock]
     rw [if_neg (fun he=>hj (by subst he;exact Nat.beq_refl _))]
     exact hQ w1 β1 a1 hg
   | ret=>
    simp only [Tree.eval,Option.some.injEq,Prod.mk.injEq] at h2
    obtain ⟨rfl,rfl⟩:=h2
    exact hQ w1 β1 a1 hg
  case region=>split at hc <;> cases hc
  all_goals cases hc
 | loop key live x ih=>
  intro hn c w β a st e st' Q hc hr h hQ
  cases c <;> simp only [cCode,AC.erase] at hc
  case loop c1=>
   injection hc with _ _ hc1
   simp only [runC] at h
   exact wpIn_loop_rounds n (iter_ok (fun w β a st e st' Q hr h hQ=>ih hn c1 w β a st e st' Q hc1 hr h hQ) n w β a st hr h hQ (iter_exit n st h))
  case region=>split at hc <;> cases hc
  all_goals cases hc
 | rfn base live f ps x y _ _=>
  intro hn c w β a st e st' Q hc hr h hQ
  rcases hn with rfl | hn
  ·cases c <;> simp only [cCode,AC.erase] at hc
   case rangeFunc g qs c1 c2=>
    injection hc with _ _ hc0 hc1 hc2 hc3
    subst hc0
    exact rfn_ok hC hc1 hc2 hc3 hr h hQ
   case region=>split at hc <;> cases hc
   all_goals cases hc
  ·simp [noRfn] at hn
 | exit id=>
  intro hn c w β a st e st' Q hc hr h hQ
  simp only [runC,Tree.eval,Option.some.injEq,Prod.mk.injEq] at h
  obtain ⟨rfl,rfl⟩:=h
  have:=hQ w β a (Goes.refl hr)
  cases c <;> simp only [cCode,AC.erase] at hc
  case exit id'=>
   injection hc with hc0
   subst hc0
   exact wpIn_exit this
  case region=>split at hc <;> cases hc
  all_goals cases hc
 | ops d l=>
  intro hn c w β a st e st' Q hc hr h hQ
  cases c <;> simp only [cCode,AC.erase] at hc
  case region id ops draw=>
   split at hc
   ·rename_i al hal
    injection hc with hc0 hc1
    subst hc0 hc1
    cases draw with
    | false=>
     simp only [runC] at h
     obtain ⟨st1,h1,h2⟩:=Tree.bind_eval.1 h
     simp only [Tree.eval,Option.some.injEq,Prod.mk.injEq] at h2
     obtain ⟨rfl,rfl⟩:=h2
     exact wpIn_region_list (runOps_ok hC ops.toList al w β a st hr hal h1 hQ)
    | true=>
     simp only [runC] at h
     obtain ⟨st1,h1,h2⟩:=Tree.bind_eval.1 h
     simp only [Tree.eval,Option.some.injEq,Prod.mk.injEq] at h2
     obtain ⟨rfl,rfl⟩:=h2
     exact hD ops al id Q w X β a st st1 hal hr h1 hQ ro N
   ·cases hc
  all_goals cases hc
 | scope x ih=>
  intro hn c w β a st e st' Q hc hr h hQ
  cases c <;> simp only [cCode,AC.erase] at hc
  case scope c1=>
   injection hc with hc1
   simp only [runC] at h
   refine wpIn_scope_straight (ih hn c1 w β a st e st' _ hc1 hr h fun w1 β1 a1 hg=> ?_)
   have:=hQ w1 β1 a1 hg
   cases e <;> exact this
  case region=>split at hc <;> cases hc
  all_goals cases hc
 | bad=>
  intro hn c w β a st e st' Q hc hr h hQ
  simp [runC,Tree.eval] at h
theorem resV_ok: ∀(l:List ResultVar) (vs:List V),(l.all (resOk P))=true→Rel P w X β st a→(resV st (l.map (cRes P))).eval=some vs→
  ∃us:List Value,(l.mapM fun | .tmp t=>pure (a.tmps.getD t undef) | .cell b t=>do loadVar t (←asAddr (a.tmps.getD b undef)):Sem (List Value)).run P w= .ok us w∧RVL w (Ys X β st.ob) β st.ob vs us
 | [],vs,_,hr,h=>by
  simp only [List.map_nil,resV,Tree.eval,Option.some.injEq] at h
  subst h
  exact ⟨[],by simp,by simp [RVL]⟩
 | .tmp t :: l,vs,hl,hr,h=>by
  simp only [List.map_cons,cRes,resV] at h
  obtain ⟨ws,h1,h2⟩:=Tree.bind_eval.1 h
  simp only [Tree.eval,Option.some.injEq] at h2
  subst h2
  simp only [List.all_cons,Bool.and_eq_true] at hl
  obtain ⟨us,e1,e2⟩:=resV_ok l ws hl.2 hr h1
  refine ⟨a.tmps.getD t undef :: us,?_,?_⟩
  ·rw [List.mapM_cons]
   simp only [Sem.run_bind,Sem.run_pure,Result.andThen_ok,e1]
  ·simp only [RVL]
   refine ⟨?_,e2⟩
   have:=hr.fr.getD t undef
   simpa [List.getD,Array.getD_eq_getD_getElem?] using this
 | .cell b t :: l,vs,hl,hr,h=>by
  simp only [List.map_cons,cRes,resV] at h
  obtain ⟨v,h0,h3⟩:=Tree.bind_eval.1 h
  obtain ⟨ws,h1,h2⟩:=Tree.bind_eval.1 h3
  simp only [Tree.eval,Option.some.injEq] at h2
  subst h2
  simp only [List.all_cons,Bool.and_eq_true] at hl
  obtain ⟨us,e1,e2⟩:=resV_ok l ws hl.2 hr h1
  have hb:RV w (Ys X β st.ob) β st.ob (st.fr.getD b .any) (a.tmps.getD b undef):=by
   have:=hr.fr.getD b undef
   simpa [List.getD,Array.getD_eq_getD_getElem?] using this
  obtain ⟨z,hz,hv⟩:=loadAt_ok (P:=P) hr.ob hl.1 hb h0
  have hload:(do loadVar t (←asAddr (a.tmps.getD b undef)):Sem Value).run P w= .ok z w:=by
   unfold Instr.loadAt at hz
   cases hu:a.tmps.getD b undef with
   | pointer p=>
    rw [hu] at hz
    cases p with
    | none=>simp [Instr.sureAddr] at hz
    | some ad=>simpa [Instr.sureAddr,asAddr] using hz
   | _=>rw [hu] at hz;simp [Instr.sureAddr] at hz
  refine ⟨z :: us,?_,by simp only [RVL];exact ⟨hv,e2⟩⟩
  rw [List.mapM_cons]
  simp only [Sem.run_bind] at hload ⊢
  rw [hload]
  simp only [Result.andThen_ok,e1,Sem.run_pure]
theorem results_ok{fn:Func}{vs:List V}(hl:fn.results.toList.all (resOk P)=true)(hr:Rel P w X β st a)(h:(resV st (fn.results.toList.map (cRes P))).eval=some vs):
  ∃u,(results fn a.tmps).run P w= .ok u w∧RV w (Ys X β st.ob) β st.ob (retOf vs) u:=by
 obtain ⟨us,h1,h2⟩:=resV_ok _ _ hl hr h
 have hrun:(results fn a.tmps).run P w= .ok (if h:us.toArray.size=1 then us.toArray[0] else .tuple us.toArray) w:=by
  unfold results
  have:fn.results=fn.results.toList.toArray:=by simp
  rw [this,List.mapM_toArray]
  simp only [Sem.run_bind,map_eq_pure_bind,Sem.run_pure]
  erw [h1]
  rfl
 refine ⟨_,hrun,?_⟩
 cases vs with
 | nil=>
  have:us=[]:=List.eq_nil_of_length_eq_zero (by rw [←h2.length];rfl)
  subst this
  simp only [retOf,RV]
  exact ⟨#[],by simp,by simp [RVL]⟩
 | cons v vs=>
  cases us with
  | nil=>simp [RVL] at h2
  | cons u us=>
   simp only [RVL] at h2
   cases vs with
   | nil=>
    have:us=[]:=List.eq_nil_of_length_eq_zero (by rw [←h2.2.length];rfl)
    subst this
    simpa [retOf] using h2.1
   | cons v' vs=>
    cases us with
    | nil=>simp [RVL] at h2
    | cons u' us=>
     simp only [retOf,RV]
     refine ⟨_,by simp;rfl,?_⟩
     simp only [RVL]
     exact ⟨h2.1,by simpa [RVL] using h2.2⟩
end
theorem nthId_get: ∀(l:List Nat) (k:Nat),nthId l k=l[k]?
 | [],k=>by simp [nthId]
 | i :: l,0=>by simp [nthId]
 | i :: l,k+1=>by simp [nthId,nthId_get l k]
theorem indexIn_some: ∀{l:List Nat} {k i m:Nat},indexIn l k i=some m→ ∃j,m=k+j∧l[j]? =some i
 | [],k,i,m,h=>by simp [indexIn] at h
 | x :: l,k,i,m,h=>by
  simp only [indexIn] at h
  split at h
  ·rename_i hx
   cases h
   exact ⟨0,rfl,by simp [Nat.eq_of_beq_eq_true hx]⟩
  ·obtain ⟨j,h1,h2⟩:=indexIn_some h
   exact ⟨j+1,by omega,by simpa using h2⟩
theorem indexIn_none: ∀{l:List Nat} {k i:Nat},indexIn l k i=none→i∉l
 | [],k,i,h=>by simp
 | x :: l,k,i,h=>by
  simp only [indexIn] at h
  split at h
  ·simp at h
  ·rename_i hx
   have:=indexIn_none h
   intro hm
   rcases List.mem_cons.1 hm with rfl | hm
   ·exact hx (Nat.beq_refl _)
   ·exact this hm
theorem indexIn_get{l:List Nat}(hn:l.Nodup){k i j:Nat}(h:l[j]? =some i):indexIn l k i=some (k+j):=by
 cases hi:indexIn l k i with
 | none=>exact (indexIn_none hi (List.mem_of_getElem? h)).elim
 | some m=>
  obtain ⟨j',rfl,h2⟩:=indexIn_some hi
  have h1:=(List.getElem?_eq_some_iff.1 h)
  have h3:=(List.getElem?_eq_some_iff.1 h2)
  have:j'=j:=by
   obtain ⟨a1,a2⟩:=h1
   obtain ⟨b1,b2⟩:=h3
   exact (List.getElem_inj hn).1 (b2.trans a2.symm)
  rw [this]
theorem reach_ok{ob:Obs}: ∀(n:Nat) (t acc:List Nat),acc.Nodup→(∀i∈acc,(ob.get i).isSome=true)→(reach ob n t acc).Nodup∧ ∀i∈reach ob n t acc,(ob.get i).isSome=true
 | 0,t,acc,h1,h2=>by simp only [reach];exact ⟨h1,h2⟩
 | n+1,[],acc,h1,h2=>by simp only [reach];exact ⟨h1,h2⟩
 | n+1,i :: t,acc,h1,h2=>by
  simp only [reach]
  split
  ·exact reach_ok n t acc h1 h2
  ·rename_i hc
   split
   ·rename_i o ho
    refine reach_ok n _ _ ?_ ?_
    ·rw [List.nodup_append]
     refine ⟨h1,by simp,?_⟩
     intro a ha b hb he
     simp only [List.mem_singleton] at hb
     subst hb
     subst he
     exact hc (by simpa using ha)
    ·intro j hj
     rcases List.mem_append.1 hj with hj | hj
     ·exact h2 j hj
     ·simp only [List.mem_singleton] at hj
      subst hj
      rw [ho];rfl
   ·exact reach_ok n t acc h1 h2
theorem newOf_ok(k:Nat): ∀(l:List Nat),(newOf k l).Sublist l∧ ∀j∈newOf k l,k≤j
 | []=>by simp [newOf]
 | i :: l=>by
  obtain ⟨h1,h2⟩:=newOf_ok k l
  simp only [newOf]
  split
  ·exact ⟨h1.cons _,h2⟩
  ·rename_i hb
   refine ⟨h1.cons_cons _,fun j hj=> ?_⟩
   rcases List.mem_cons.1 hj with rfl | hj
   ·rcases Nat.lt_or_ge j k with h | h
    ·exact (hb (by simpa [Nat.blt] using Nat.succ_le_of_lt h)).elim
    ·exact h
   ·exact h2 j hj
theorem newIds_mem(b:Nat): ∀(l:List Nat) (k i:Nat),i∈newIds b l k↔b+k≤i∧i<b+k+l.length
 | [],k,i=>by simp [newIds] <;> omega
 | x :: l,k,i=>by
  simp only [newIds,List.mem_cons,newIds_mem b l (k+1) i,List.length_cons]
  omega
theorem movedOf_not{o1:Obs}: ∀{l:List Nat} {k i j:Nat},i∉movedOf o1 l k→l[j]? =some i→ ∃o,o1.get (k+j)=some o∧o.moved=false
 | [],k,i,j,_,h=>by simp at h
 | x :: l,k,i,j,hn,h=>by
  simp only [movedOf] at hn
  cases j with
  | zero=>
   simp only [List.getElem?_cons_zero,Option.some.injEq] at h
   subst h
   cases hg:o1.get k with
   | none=>simp [hg] at hn
   | some o=>
    cases hm:o.moved with
    | true=>simp [hg,hm] at hn
    | false=>exact ⟨o,by simp,hm⟩
  | succ j=>
   have hn':i∉movedOf o1 l (k+1):=by
    intro hi
    apply hn
    split
    ·split
     ·exact List.mem_cons_of_mem _ hi
     ·exact hi
    ·exact List.mem_cons_of_mem _ hi
   obtain ⟨o,h1,h2⟩:=movedOf_not hn' (by simpa using h)
   exact ⟨o,by rw [←h1];congr 1;omega,h2⟩
theorem beq_false{a b:Nat}(h:a≠b):Nat.beq a b=false:=by
 rw [←Bool.not_eq_true];intro hb;exact h (Nat.eq_of_beq_eq_true hb)
theorem get_take(ob:Obs)(r:Nat→Option Nat): ∀(ids:List Nat) (k m:Nat),(takeObs ob r ids k).get m=if k≤m then (ids[m - k]?).bind fun i=>(ob.get i).map (Obj.ren r) else none
 | [],k,m=>by simp [takeObs,Obs.get]
 | i :: l,k,m=>by
  have ih:=get_take ob r l (k+1) m
  have rest:(takeObs ob r l (k+1)).get m=if k+1≤m then ((i :: l)[m - k]?).bind fun i=>(ob.get i).map (Obj.ren r) else none:=by
   rw [ih]
   by_cases h:k+1≤m
   ·rw [if_pos h,if_pos h]
    have:m - k=(m - (k+1))+1:=by omega
    rw [this,List.getElem?_cons_succ]
   ·rw [if_neg h,if_neg h]
  simp only [takeObs]
  cases ho:ob.get i with
  | none=>
   simp only
   rw [rest]
   rcases Nat.lt_trichotomy m k with h | h | h
   ·rw [if_neg (by omega),if_neg (by omega)]
   ·subst h;simp [ho]
   ·rw [if_pos (by omega),if_pos (by omega)]
  | some o=>
   simp only [Obs.get]
   by_cases h:k=m
   ·subst h;simp [ho]
   ·rw [beq_false h]
    simp only [Bool.false_eq_true,if_false]
    rw [rest]
    by_cases h':k+1≤m
    ·rw [if_pos h',if_pos (by omega)]
    ·rw [if_neg h',if_neg (by omega)]
theorem get_del(ob:Obs)(i j:Nat):(ob.del i).get j=if j=i then none else ob.get j:=by
 induction ob with
 | nil=>simp [Obs.del,Obs.get]
 | cons p l ih=>
  obtain ⟨k,q⟩:=p
  simp only [Obs.del]
  by_cases hk:k=i
  ·subst hk
   rw [Nat.beq_refl]
   simp only [if_true]
   rw [ih]
   simp only [Obs.get]
   by_cases hj:j=k
   ·rw [if_pos hj,if_pos hj]
   ·rw [if_neg hj,if_neg hj,beq_false (fun h=>hj h.symm)]
    simp
  ·rw [beq_false hk]
   simp only [Bool.false_eq_true,if_false,Obs.get]
   by_cases hj:k=j
   ·subst hj
    simp [hk]
   ·rw [beq_false hj]
    simpa using ih
def look:List (Nat×Option AM.Obj)→Nat→Option (Option AM.Obj)
 | [],_=>none
 | (k,x) :: l,i=>if k=i then some x else look l i
theorem get_puts(ob:Obs): ∀(l:List (Nat×Option AM.Obj)) (i:Nat),(Obs.puts l ob).get i=match look l i with | some x=>x | none=>ob.get i
 | [],i=>by simp [Obs.puts,look]
 | (k,x) :: l,i=>by
  have ih:=get_puts ob l i
  simp only [Obs.puts,look]
  by_cases h:k=i
  ·subst h
   rw [if_pos rfl]
   cases x with
   | none=>simp [get_del]
   | some o=>simp [get_set]
  ·rw [if_neg h]
   cases x with
   | none=>simp only [get_del];rw [if_neg (fun he=>h he.symm)];exact ih
   | some o=>simp only [get_set];rw [if_neg (fun he=>h he.symm)];exact ih
theorem look_append(l m:List (Nat×Option AM.Obj))(i:Nat):look (l++m) i=match look l i with | some x=>some x | none=>look m i:=by
 induction l with
 | nil=>simp [look]
 | cons p l ih=>
  obtain ⟨k,x⟩:=p
  simp only [List.cons_append,look]
  split
  ·rfl
  ·exact ih
theorem look_backs(o1:Obs)(r:Nat→Option Nat)(ob:Obs)(i:Nat): ∀(ids:List Nat) (k:Nat),look (backs o1 r ob ids k) i=(indexIn ids k i).map fun m=>(o1.get m).map fun o=>(o.ren r).mark (movedAt ob i||o.moved)
 | [],k=>by simp [backs,look,indexIn]
 | x :: l,k=>by
  simp only [backs,look,indexIn]
  by_cases h:x=i
  ·subst h
   rw [if_pos rfl,Nat.beq_refl]
   simp only [if_true,Option.map_some]
   cases o1.get k <;> rfl
  ·rw [if_neg h,beq_false h]
   simpa using look_backs o1 r ob i l (k+1)
theorem look_news(o1:Obs)(r:Nat→Option Nat)(b i:Nat): ∀(l:List Nat) (k:Nat),look (news o1 r b l k) i=if b+k≤i∧i<b+k+l.length then some ((l[i - (b+k)]?).bind fun j=>(o1.get j).map (Obj.ren r)) else none
 | [],k=>by
  simp only [news,look,List.length_nil]
  rw [if_neg (by omega)]
 | x :: l,k=>by
  simp only [news,look,List.length_cons]
  by_cases h:b+k=i
  ·subst h
   rw [if_pos rfl,if_pos (by omega)]
   simp only [Nat.sub_self,List.getElem?_cons_zero,Option.bind_some]
   cases o1.get x <;> rfl
  ·rw [if_neg h,look_news o1 r b i l (k+1)]
   by_cases h2:b+(k+1)≤i∧i<b+(k+1)+l.length
   ·rw [if_pos h2,if_pos (by omega)]
    have:i - (b+k)=(i - (b+(k+1)))+1:=by omega
    rw [this,List.getElem?_cons_succ]
   ·rw [if_neg h2,if_neg (by omega)]
section
variable {P:Program} {w w':World} {X Y Y':Nat→Prop} {β β':Nat→Pl} {ob ob':Obs} {a:Act} {st st':St}
mutual
theorem RV.ren{r:Nat→Option Nat}(hy: ∀b,b<w.heap.size→Y' b→Y b)(hs: ∀id id',r id=some id'→ ∀o',ob'.get id'=some o'→ ∃o,ob.get id=some o∧β' id'=β id∧o.like o'):
  ∀(v:V) (u:Value),RV w Y β ob v u→RV w Y' β' ob' (v.ren r) u
 | .any,_,_=>by simp [V.ren,RV]
 | .d x,u,h=>by
  simp only [V.ren,RV] at h ⊢
  exact h.mono (fun _ _ _=>rfl) hy
 | .agg cs,u,h=>by
  simp only [V.ren,RV] at h ⊢
  obtain ⟨vs,rfl,h⟩:=h
  exact ⟨vs,rfl,RVL.ren hy hs cs _ h⟩
 | .tup cs,u,h=>by
  simp only [V.ren,RV] at h ⊢
  obtain ⟨vs,rfl,h⟩:=h
  exact ⟨vs,rfl,RVL.ren hy hs cs _ h⟩
 | .fn f zas cs,u,h=>by
  simp only [V.ren,RV] at h ⊢
  obtain ⟨us,vs,rfl,h1,h2⟩:=h
  exact ⟨us,vs,rfl,RVL.ren hy hs zas _ h1,RVL.ren hy hs cs _ h2⟩
 | .ifc t x,u,h=>by
  simp only [V.ren,RV] at h ⊢
  obtain ⟨v,rfl,h⟩:=h
  exact ⟨v,rfl,RV.ren hy hs x _ h⟩
 | .cap0 e,u,h=>by
  simp only [V.ren,RV] at h ⊢
  exact h
 | .rp cs,u,h=>by
  simp only [V.ren,RV] at h ⊢
  obtain ⟨ad,rfl,h⟩:=h
  refine ⟨ad,rfl,fun j c hj=> ?_⟩
  obtain ⟨h1,h2,v,h3,h4⟩:=h j c hj
  have hlt:=cell_lt h3
  exact ⟨fun hy'=>h1 (hy _ hlt hy'),h2,v,h3,h4.mono (fun _ _ _=>rfl) hy⟩
 | .ptr id off,u,h=>by
  simp only [V.ren]
  split
  ·rename_i j hj
   simp only [RV] at h ⊢
   obtain ⟨ad,rfl,h⟩:=h
   refine ⟨ad,rfl,fun o' ho'=> ?_⟩
   obtain ⟨o,ho,hb,_⟩:=hs id j hj o' ho'
   rw [hb];exact h o ho
  ·simp [RV]
 | .sla id lo n,u,h=>by
  simp only [V.ren]
  split
  ·rename_i j hj
   simp only [RV] at h ⊢
   obtain ⟨ad,c,rfl,hc,h2⟩:=h
   refine ⟨ad,c,rfl,hc,fun e m z es ho'=> ?_⟩
   obtain ⟨o,ho,hb,hl⟩:=hs id j hj _ ho'
   cases o <;> simp only [Obj.like] at hl
   obtain ⟨rfl,rfl⟩:=hl
   rw [hb];exact h2 _ _ _ _ ho
  ·simp [RV]
 | .ep id i off,u,h=>by
  simp only [V.ren]
  split
  ·rename_i j hj
   simp only [RV] at h ⊢
   obtain ⟨ad,rfl,h1,h2⟩:=h
   refine ⟨ad,rfl,fun e n m z es ho'=> ?_,fun e n z es ho'=> ?_⟩
   ·obtain ⟨o,ho,hb,hl⟩:=hs id j hj _ ho'
    cases o <;> simp only [Obj.like] at hl
    obtain ⟨rfl,hl⟩:=hl
    rw [hb,←hl];exact h1 _ _ _ _ _ ho
   ·obtain ⟨o,ho,hb,hl⟩:=hs id j hj _ ho'
    cases o <;> simp only [Obj.like] at hl
    obtain ⟨rfl,rfl⟩:=hl
    rw [hb];exact h2 _ _ _ _ ho
  ·simp [RV]
 | .own id,u,h=>by
  simp only [V.ren]
  split
  ·rename_i j hj
   simp only [RV] at h ⊢
   obtain ⟨ad,n,c,rfl,h⟩:=h
   refine ⟨ad,n,c,rfl,fun e nl m z es ho'=> ?_⟩
   obtain ⟨o,ho,hb,hl⟩:=hs id j hj _ ho'
   cases o <;> simp only [Obj.like] at hl
   obtain ⟨rfl,hl⟩:=hl
   rw [hb,←hl];exact h _ _ _ _ _ ho
  ·simp [RV]
 | .mp id,u,h=>by
  simp only [V.ren]
  split
  ·rename_i j hj
   simp only [RV] at h ⊢
   obtain ⟨q,rfl,h⟩:=h
   refine ⟨q,rfl,fun o' ho'=> ?_⟩
   obtain ⟨o,ho,hb,_⟩:=hs id j hj o' ho'
   rw [hb];exact h o ho
  ·simp [RV]
 | .yl id,u,h=>by
  simp only [V.ren]
  split
  ·rename_i j hj
   simp only [RV] at h ⊢
   obtain ⟨q,rfl,h⟩:=h
   refine ⟨q,rfl,fun o' ho'=> ?_⟩
   obtain ⟨o,ho,hb,_⟩:=hs id j hj o' ho'
   rw [hb];exact h o ho
  ·simp [RV]
theorem RVL.ren{r:Nat→Option Nat}(hy: ∀b,b<w.heap.size→Y' b→Y b)(hs: ∀id id',r id=some id'→ ∀o',ob'.get id'=some o'→ ∃o,ob.get id=some o∧β' id'=β id∧o.like o'):
  ∀(vs:List V) (us:List Value),RVL w Y β ob vs us→RVL w Y' β' ob' (V.renL r vs) us
 | [],[],_=>by simp [V.renL,RVL]
 | [],_ :: _,h=>by simp [RVL] at h
 | _ :: _,[],h=>by simp [RVL] at h
 | v :: vs,u :: us,h=>by
  simp only [V.renL,RVL] at h ⊢
  exact ⟨RV.ren hy hs v u h.1,RVL.ren hy hs vs us h.2⟩
end
theorem RO.ren{r:Nat→Option Nat}{p:Pl}{o:AM.Obj}(h:RO P w Y β ob p o)(hy: ∀b,b<w.heap.size→Y' b→Y b)
  (hs: ∀id id',r id=some id'→ ∀o',ob'.get id'=some o'→ ∃o,ob.get id=some o∧β' id'=β id∧o.like o'):RO P w Y' β' ob' p (o.ren r):=by
 cases o with
 | box cs=>
  obtain ⟨b,cap,vs,T,fz,rfl,hh,hf,hv⟩:=h
  exact ⟨b,cap,vs,T,fz,rfl,hh,hf,RVL.ren hy hs _ _ hv⟩
 | lst e n m z es=>
  cases p with
  | nil=>exact h
  | capless a=>exact h
  | blk b cap=>
   obtain ⟨h1,h2,vs,T,fz,hh,hf,hc,hl⟩:=h
   exact ⟨h1,h2,vs,T,fz,hh,hf,hc,hl.mono (fun _ _ _=>rfl) hy⟩
 | arr e n z es=>
  obtain ⟨b,cap,vs,T,fz,rfl,hh,hf,hn,hc,hl⟩:=h
  exact ⟨b,cap,vs,T,fz,rfl,hh,hf,hn,hc,hl.mono (fun _ _ _=>rfl) hy⟩
 | map ks vs kv=>
  obtain ⟨b,cap,es,clock,rfl,hh,hk',hsz,hkv⟩:=h
  refine ⟨b,cap,es,clock,rfl,hh,hk',hsz,fun i k v hi=> ?_⟩
  obtain ⟨h1,h2,e,h3,h4,h5⟩:=hkv i k v hi
  exact ⟨h1,h2,e,h3,h4.mono (fun _ _ _=>rfl) hy,h5.mono (fun _ _ _=>rfl) hy⟩
 | sit s pos=>exact h
 | loop ps ac cc fr s pe=>
  obtain ⟨b,cap,rec,rfl,hh,hc,hs',hv⟩:=h
  exact ⟨b,cap,rec,rfl,hh,hc,hs',RVL.ren hy hs _ _ hv⟩
theorem RO.mark{p:Pl}{o:AM.Obj}(h:RO P w Y β ob p o)(m:Bool):RO P w Y β ob p (o.mark m):=by
 cases o <;> exact h
theorem ren_like(r:Nat→Option Nat)(o:AM.Obj):o.like (o.ren r):=by cases o <;> simp [Obj.like,Obj.ren]
theorem mark_like(m:Bool)(o:AM.Obj):o.like (o.mark m):=by cases o <;> simp [Obj.like,Obj.mark]
theorem ren_frozen(r:Nat→Option Nat)(o:AM.Obj):(o.ren r).frozen=o.frozen:=by cases o <;> rfl
theorem mark_frozen(m:Bool)(o:AM.Obj):(o.mark m).frozen=o.frozen:=by cases o <;> rfl
theorem own_frozen{id:Nat}{e:Sh}{n m:Bool}{es:List D}{u:Value}(hR:RelO P w X β ob)(ho:ob.get id=some (.lst e n m true es))(h:RV w (Ys X β ob) β ob (.own id) u):
  RD w (Ys X β ob) (.sl e n es) u:=by
 refine (own_data (l:=[id]) hR ho (by simp) h).mono (fun _ _ _=>rfl) ?_
 rintro b _ (hx | ⟨i,o,c,hg,hf,hp⟩)
 ·exact .inl hx
 ·refine .inr ⟨i,o,c,?_,hf,hp⟩
  have hi:i≠id:=by rintro rfl;rw [ho] at hg;cases hg;simp [Obj.frozen] at hf
  rw [get_freeze,if_neg (by simpa using hi)]
  exact hg
mutual
theorem RV.res(hR:RelO P w X β ob): ∀(v:V) (u:Value),RV w (Ys X β ob) β ob v u→RV w (Ys X β ob) β ob (v.res ob) u
 | .any,_,_=>by simp [V.res,RV]
 | .d x,u,h=>by simpa [V.res] using h
 | .rp cs,u,h=>by simpa [V.res] using h
 | .cap0 e,u,h=>by simpa [V.res] using h
 | .ptr id off,u,h=>by simpa [V.res] using h
 | .ep id i off,u,h=>by simpa [V.res] using h
 | .sla id i off,u,h=>by simpa [V.res] using h
 | .mp id,u,h=>by simpa [V.res] using h
 | .yl id,u,h=>by simpa [V.res] using h
 | .agg cs,u,h=>by
  simp only [V.res]
  simp only [RV] at h
  obtain ⟨vs,rfl,h⟩:=h
  have h':=RVL.res hR cs _ h
  exact mkAgg_ok h'
 | .tup cs,u,h=>by
  simp only [V.res,RV] at h ⊢
  obtain ⟨vs,rfl,h⟩:=h
  exact ⟨vs,rfl,RVL.res hR cs _ h⟩
 | .fn f zas cs,u,h=>by
  simp only [V.res,RV] at h ⊢
  obtain ⟨us,vs,rfl,h1,h2⟩:=h
  exact ⟨us,vs,rfl,RVL.res hR zas _ h1,RVL.res hR cs _ h2⟩
 | .ifc t x,u,h=>by
  simp only [V.res,RV] at h ⊢
  obtain ⟨v,rfl,h⟩:=h
  exact ⟨v,rfl,RV.res hR x _ h⟩
 | .own id,u,h=>by
  simp only [V.res]
  split
  ·rename_i e n m es ho
   simp only [RV]
   exact own_frozen hR ho h
  ·exact h
theorem RVL.res(hR:RelO P w X β ob): ∀(vs:List V) (us:List Value),RVL w (Ys X β ob) β ob vs us→RVL w (Ys X β ob) β ob (V.resL ob vs) us
 | [],[],_=>by simp [V.resL,RVL]
 | [],_ :: _,h=>by simp [RVL] at h
 | _ :: _,[],h=>by simp [RVL] at h
 | v :: vs,u :: us,h=>by
  simp only [V.resL,RVL] at h ⊢
  exact ⟨RV.res hR v u h.1,RVL.res hR vs us h.2⟩
end
theorem get_res(whole:Obs): ∀(ob:Obs) (i:Nat),(Obs.res whole ob).get i=(ob.get i).map (Obj.res whole)
 | [],i=>by simp [Obs.res,Obs.get]
 | (k,o) :: l,i=>by
  simp only [Obs.res,Obs.get]
  split
  ·rfl
  ·exact get_res whole l i
theorem res_like(wh:Obs)(o:AM.Obj):o.like (o.res wh):=by cases o <;> simp [Obj.like,Obj.res]
theorem res_frozen(wh:Obs)(o:AM.Obj):(o.res wh).frozen=o.frozen:=by cases o <;> rfl
theorem res_moved(wh:Obs)(o:AM.Obj):(o.res wh).moved=o.moved:=by cases o <;> rfl
theorem res_old{wh:Obs}{i:Nat}{o:AM.Obj}(h:(Obs.res wh ob).get i=some o): ∃p,ob.get i=some p∧o=p.res wh:=by
 rw [get_res] at h
 cases hg:ob.get i with
 | none=>simp [hg] at h
 | some p=>simp only [hg,Option.map_some,Option.some.injEq] at h;exact ⟨p,rfl,h.symm⟩
theorem res_owned{wh:Obs}{b:Nat}:Owned β (Obs.res wh ob) b↔Owned β ob b:=by
 constructor
 ·rintro ⟨i,o,c,hg,hf,hp⟩
  obtain ⟨p,h1,rfl⟩:=res_old hg
  exact ⟨i,p,c,h1,by rw [res_frozen] at hf;exact hf,hp⟩
 ·rintro ⟨i,o,c,hg,hf,hp⟩
  exact ⟨i,o.res wh,c,by rw [get_res,hg];rfl,by rw [res_frozen];exact hf,hp⟩
theorem res_ys{wh:Obs}{b:Nat}:Ys X β (Obs.res wh ob) b↔Ys X β ob b:=by unfold Ys;rw [res_owned]
theorem res_stays(wh:Obs)(l:List Nat):Stays β β ob (Obs.res wh ob) l:=by
 intro i _ o ho
 obtain ⟨p,h1,rfl⟩:=res_old ho
 exact ⟨p,h1,rfl,res_like wh p⟩
theorem RVL.res'(hR:RelO P w X β ob){vs:List V}{us:List Value}(h:RVL w (Ys X β ob) β ob vs us):RVL w (Ys X β (Obs.res ob ob)) β (Obs.res ob ob) (V.resL ob vs) us:=
 RVL.mono (fun _ _ _=>rfl) (fun _ _=>res_ys.1) _ _ (res_stays _ _) (RVL.res hR vs us h)
theorem RV.res'(hR:RelO P w X β ob){v:V}{u:Value}(h:RV w (Ys X β ob) β ob v u):RV w (Ys X β (Obs.res ob ob)) β (Obs.res ob ob) (v.res ob) u:=
 RV.mono (fun _ _ _=>rfl) (fun _ _=>res_ys.1) _ _ (res_stays _ _) (RV.res hR v u h)
theorem RelO.res(h:RelO P w X β ob):RelO P w X β (Obs.res ob ob) where
 tab:=h.tab.keep (Nat.le_refl _) (fun _ _ _=>rfl) (fun _ _=>res_ys.1)
 obj:=by
  intro i o hg
  obtain ⟨p,h1,rfl⟩:=res_old hg
  have hm:=(h.obj i p h1).mono (w':=w) (Y':=Ys X β (Obs.res ob ob)) (β':=β) (ob':=Obs.res ob ob) (fun _ _ _=>rfl) (fun _ _=>res_ys.1) (fun _ _ _=>rfl) (res_stays _ _)
  cases p with
  | box cs=>
   obtain ⟨b,cap,vs,T,fz,q1,q2,q3,_⟩:=hm
   obtain ⟨b',cap',vs',T',fz',q1',q2',q3',q4'⟩:=h.obj i _ h1
   rw [q1] at q1'
   cases q1'
   rw [q2] at q2'
   cases q2'
   exact ⟨b,cap,vs,T,fz,q1,q2,q3,RVL.res' h q4'⟩
  | lst e n m z es=>exact hm
  | arr e n z es=>exact hm
  | map ks vs kv=>exact hm
  | sit s pos=>exact hm
  | loop ps ac cc fr s pe=>
   obtain ⟨b,cap,rec,q1,q2,q3,q4,_⟩:=hm
   obtain ⟨b',cap',rec',q1',q2',q3',q4',q5'⟩:=h.obj i _ h1
   rw [q1] at q1'
   cases q1'
   rw [q2] at q2'
   cases q2'
   exact ⟨b,cap,rec,q1,q2,q3,q4,RVL.res' h q5'⟩
 inj:=by
  intro i j o1 o2 b c1 c2 h1 h2 h3 h4 hf
  obtain ⟨p1,g1,rfl⟩:=res_old h1
  obtain ⟨p2,g2,rfl⟩:=res_old h2
  exact h.inj i j p1 p2 b c1 c2 g1 g2 h3 h4 (by rw [res_frozen] at hf;exact hf)
 notX:=by
  intro i o b c h1 h2
  obtain ⟨p1,g1,rfl⟩:=res_old h1
  exact h.notX i p1 b c g1 h2
 xlt:=h.xlt
end
theorem like_symm{p q:AM.Obj}(h:p.like q):q.like p:=by
 cases p <;> cases q <;> simp only [Obj.like] at h ⊢
 ·exact ⟨h.1.symm,h.2.symm⟩
 ·exact ⟨h.1.symm,h.2.symm⟩
theorem reach_length{ob:Obs}: ∀(n:Nat) (t acc:List Nat),(reach ob n t acc).length≤acc.length+n
 | 0,t,acc=>by simp [reach]
 | n+1,[],acc=>by simp only [reach];omega
 | n+1,i :: t,acc=>by
  simp only [reach]
  split
  ·have:=reach_length (ob:=ob) n t acc;omega
  ·split
   ·rename_i o ho
    have:=reach_length (ob:=ob) n (o.ids++t) (acc++[i])
    simp at this;omega
   ·have:=reach_length (ob:=ob) n t acc;omega
section
variable {P:Program} {w w':World} {X Y Y':Nat→Prop} {β β':Nat→Pl} {ob ob':Obs} {a:Act} {st st':St} {fr:List V}
theorem kill_owned(l:List Nat){b:Nat}:Owned β (St.kill l ⟨fr,ob⟩).ob b↔Owned β ob b:=by
 cases l with
 | nil=>exact Iff.rfl
 | cons i l=>exact sub_owned
theorem kill_old{l:List Nat}{i:Nat}{o:AM.Obj}(h:(St.kill l ⟨fr,ob⟩).ob.get i=some o): ∃p,ob.get i=some p∧p.like o∧o.frozen=p.frozen∧o.moved=p.moved:=by
 cases l with
 | nil=>exact ⟨o,h,like_refl _,rfl,rfl⟩
 | cons j l=>
  simp only [St.kill] at h
  rw [get_sub] at h
  cases hgi:ob.get i with
  | none=>simp [hgi] at h
  | some p=>
   simp only [hgi,Option.map_some,Option.some.injEq] at h
   subst h
   exact ⟨p,rfl,sub_like _ _,sub_frozen _ _,by cases p <;> rfl⟩
theorem kill_get(l:List Nat){i:Nat}{p:AM.Obj}(h:ob.get i=some p): ∃o,(St.kill l ⟨fr,ob⟩).ob.get i=some o∧p.like o:=by
 cases l with
 | nil=>exact ⟨p,h,like_refl _⟩
 | cons j l=>
  refine ⟨p.sub (killOf (j :: l)),?_,sub_like _ _⟩
  simp only [St.kill]
  rw [get_sub,h];rfl
theorem kill_fr(l:List Nat){id:Nat}(h:id∈l):id∉V.idsL (St.kill l ⟨fr,ob⟩).fr:=by
 cases l with
 | nil=>simp at h
 | cons j l=>exact V.killL_ids _ _ _ h
theorem kill_box(l:List Nat){id i:Nat}{o:AM.Obj}(h:id∈l)(hg:(St.kill l ⟨fr,ob⟩).ob.get i=some o):id∉o.ids:=by
 cases l with
 | nil=>simp at h
 | cons j l=>
  simp only [St.kill] at hg
  rw [get_sub] at hg
  cases hgi:ob.get i with
  | none=>simp [hgi] at hg
  | some p=>
   simp only [hgi,Option.map_some,Option.some.injEq] at hg
   subst hg
   cases p with
   | box cs=>exact V.killL_ids _ _ _ h
   | loop ps a c fr s pe=>exact V.killL_ids _ _ _ h
   | _=>simp [Obj.sub,Obj.ids]
theorem mark_moved(m:Bool)(o:AM.Obj)(h:(o.mark m).moved=false):(∃e n v z es,o= .lst e n v z es∧m=false)∨(∀q:AM.Obj,q.like o→q.moved=false):=by
 cases o with
 | lst e n v z es=>exact .inl ⟨e,n,v,z,es,rfl,h⟩
 | _=>
  refine .inr fun q hq=> ?_
  cases q <;> simp only [Obj.like] at hq <;> rfl
theorem callD_ok{C:List V→Obs→Tree (V×Obs)}{base:Nat}{args:List V}{us:List Value}{d:Delta}(hr:RelO P w X β ob)(hbase:64≤base)(hargs:RVL w (Ys X β ob) β ob args us)
  (h:(callD C base args ob).eval=some d):
  ∃(Xc:Nat→Prop) (βc:Nat→Pl) (args':List V) (obc:Obs) (vc:V) (o1:Obs),(C args' obc).eval=some (vc,o1)∧RelO P w Xc βc obc∧RVL w (Ys Xc βc obc) βc obc args' us∧(∀b,Xc b→X b∨Owned β ob b)∧
   ∀w' u β1,Came P w w' Xc βc β1 obc o1 vc u→ ∀(fr:List V) (a:Act),Rel P w X β ⟨fr,ob⟩ a→
    ∃β'',Goes P w w' X β β'' ob (d.app ⟨fr,ob⟩) a∧RV w' (Ys X β'' (d.app ⟨fr,ob⟩).ob) β'' (d.app ⟨fr,ob⟩).ob d.v u:=by
 unfold callD at h
 obtain ⟨ids,hids⟩: ∃ids,ids=reach ob 64 (V.idsL args) []:=⟨_,rfl⟩
 obtain ⟨b,hbd⟩: ∃b,b=pickBase base ids:=⟨_,rfl⟩
 simp only [←hids] at h
 simp only [←hbd] at h
 obtain ⟨hnd,hpres⟩:=reach_ok (ob:=ob) 64 (V.idsL args) [] (by simp) (by simp)
 have hlen:=reach_length (ob:=ob) 64 (V.idsL args) []
 rw [←hids] at hnd hpres hlen
 simp only [List.length_nil,Nat.zero_add] at hlen
 have hb64:64≤b:=by rw [hbd];unfold pickBase;split <;> omega
 split at h
 ·exact (stuck_none h).elim
 rename_i hfr
 have hfresh: ∀i∈ids,¬(b≤i∧i<b+32):=by
  intro i hi hc
  apply hfr
  rw [List.any_eq_true]
  refine ⟨i,hi,?_⟩
  simp only [inRange,Bool.and_eq_true]
  exact ⟨Nat.ble_eq_true_of_le hc.1,by simpa [Nat.blt] using Nat.ble_eq_true_of_le (Nat.succ_le_of_lt hc.2)⟩
 obtain ⟨⟨vc,o1⟩,hC,h2⟩:=Tree.bind_eval.1 h
 clear h
 obtain ⟨r,hrd⟩: ∃r,r=indexIn ids 0:=⟨_,rfl⟩
 simp only [←hrd] at hC
 obtain ⟨obc,hobc⟩: ∃obc,obc=takeObs ob r ids 0:=⟨_,rfl⟩
 rw [←hobc] at hC
 obtain ⟨βc,hβc⟩: ∃βc:Nat→Pl,βc=fun k=>match ids[k]? with | some i=>β i | none=> .nil:=⟨_,rfl⟩
 have getc: ∀m,obc.get m=(ids[m]?).bind fun i=>(ob.get i).map (Obj.ren r):=by
  intro m;rw [hobc,get_take];simp
 have oldc: ∀k o',obc.get k=some o'→ ∃i o,ids[k]? =some i∧ob.get i=some o∧o'=o.ren r∧βc k=β i:=by
  intro k o' hg
  rw [getc] at hg
  cases hk:ids[k]? with
  | none=>simp [hk] at hg
  | some i=>
   cases ho:ob.get i with
   | none=>simp [hk,ho] at hg
   | some o=>
    simp only [hk,Option.bind_some,ho,Option.map_some,Option.some.injEq] at hg
    exact ⟨i,o,rfl,ho,hg.symm,by rw [hβc];simp only [hk]⟩
 have hsc: ∀id id',r id=some id'→ ∀o',obc.get id'=some o'→ ∃o,ob.get id=some o∧βc id'=β id∧o.like o':=by
  intro id id' hid o' ho'
  rw [hrd] at hid
  obtain ⟨j,h1,h3⟩:=indexIn_some hid
  have:j=id':=by omega
  subst this
  obtain ⟨i,o,e1,e2,e3,e4⟩:=oldc _ o' ho'
  rw [h3] at e1
  cases e1
  exact ⟨o,e2,e4,by rw [e3];exact ren_like _ _⟩
 have ownc: ∀bl,Owned βc obc bl→ ∃i o c,i∈ids∧ob.get i=some o∧o.frozen=false∧β i= .blk bl c:=by
  rintro bl ⟨k,o',c,hg,hf,hp⟩
  obtain ⟨i,o,e1,e2,e3,e4⟩:=oldc k o' hg
  exact ⟨i,o,c,List.mem_of_getElem? e1,e2,by rw [e3,ren_frozen] at hf;exact hf,by rw [←e4];exact hp⟩
 have ownc': ∀bl,Owned βc obc bl→Owned β ob bl:=fun bl hb=>let ⟨i,o,c,_,h1,h2,h3⟩:=ownc bl hb; ⟨i,o,c,h1,h2,h3⟩
 obtain ⟨Xc,hXc⟩: ∃Xc:Nat→Prop,Xc=fun bl=>X bl∨(Owned β ob bl∧ ¬Owned βc obc bl):=⟨_,rfl⟩
 have hYc: ∀bl,Ys Xc βc obc bl→Ys X β ob bl:=by
  rintro bl (hx | ho)
  ·rw [hXc] at hx
   rcases hx with hx | hx
   ·exact .inl hx
   ·exact .inr hx.1
  ·exact .inr (ownc' bl ho)
 have notXc: ∀i o bl c,i∈ids→ob.get i=some o→β i= .blk bl c→ ¬Xc bl:=by
  intro i o bl c hi ho hp hx
  rw [hXc] at hx
  rcases hx with hx | ⟨hx,hn⟩
  ·exact hr.notX i o bl c ho hp hx
  ·obtain ⟨j,oj,cj,g1,g2,g3⟩:=hx
   have:=hr.inj j i oj o bl cj c g1 ho g3 hp g2
   subst this
   obtain ⟨k,hk⟩:=List.getElem?_of_mem hi
   refine hn ⟨k,oj.ren r,cj,?_,by rw [ren_frozen];exact g2,by rw [hβc];simp only [hk];exact g3⟩
   rw [getc,hk];simp [g1]
 have relc:RelO P w Xc βc obc:=by
  refine ⟨?_,?_,?_,?_,hr.tab.keep (Nat.le_refl _) (fun _ _ _=>rfl) (fun bl _ h=>hYc bl h)⟩
  ·intro k o' hg
   obtain ⟨i,o,e1,e2,e3,e4⟩:=oldc k o' hg
   rw [e3,e4]
   exact (hr.obj i o e2).ren (fun bl _ h=>hYc bl h) hsc
  ·intro k k' o o' bl c c' h1 h2 h3 h4 hf
   obtain ⟨i,p,e1,e2,e3,e4⟩:=oldc k o h1
   obtain ⟨i',p',e1',e2',e3',e4'⟩:=oldc k' o' h2
   have:=hr.inj i i' p p' bl c c' e2 e2' (by rw [←e4];exact h3) (by rw [←e4'];exact h4) (by rw [e3,ren_frozen] at hf;exact hf)
   subst this
   obtain ⟨a1,a2⟩:=List.getElem?_eq_some_iff.1 e1
   obtain ⟨b1,b2⟩:=List.getElem?_eq_some_iff.1 e1'
   exact (List.getElem_inj hnd).1 (a2.trans b2.symm)
  ·intro k o bl c h1 h2
   obtain ⟨i,p,e1,e2,e3,e4⟩:=oldc k o h1
   exact notXc i p bl c (List.mem_of_getElem? e1) e2 (by rw [←e4];exact h2)
  ·intro bl hx
   rw [hXc] at hx
   rcases hx with hx | ⟨⟨j,oj,cj,g1,g2,g3⟩,_⟩
   ·exact hr.xlt bl hx
   ·exact (hr.obj j oj g1).lt g3
 have hargs':RVL w (Ys Xc βc obc) βc obc (V.renL r args) us:=RVL.ren (fun bl _ h=>hYc bl h) hsc _ _ hargs
 refine ⟨Xc,βc,V.renL r args,obc,vc,o1,hC,relc,hargs',(fun bl hx=>by rw [hXc] at hx;exact hx.imp id fun h=>h.1),?_⟩
 intro w' u β1 hcame fr a hrel
 obtain ⟨o2,ho2⟩: ∃o2,o2=Obs.res o1 o1:=⟨_,rfl⟩
 have rel2:RelO P w' Xc β1 o2:=by rw [ho2];exact hcame.rel.res
 have val2:RV w' (Ys Xc β1 o2) β1 o2 (vc.res o1) u:=by rw [ho2];exact RV.res' hcame.rel hcame.val
 simp only [←ho2] at h2
 obtain ⟨nid,hnid⟩: ∃nid,nid=newOf ids.length (reach o2 64 ((vc.res o1).ids++upto ids.length) []):=⟨_,rfl⟩
 simp only [←hnid] at h2
 have hnl:Nat.ble nid.length 32=true:=by
  split at h2
  ·assumption
  ·exact (stuck_none h2).elim
 rw [if_pos hnl] at h2
 have hnl:=Nat.le_of_ble_eq_true hnl
 obtain ⟨back,hback⟩: ∃back,back=backOf ids nid b:=⟨_,rfl⟩
 simp only [←hback,Tree.eval,Option.some.injEq] at h2
 have hnnd:nid.Nodup:=by
  rw [hnid]
  exact (newOf_ok _ _).1.nodup (reach_ok (ob:=o2) 64 _ [] (by simp) (by simp)).1
 have hnge: ∀j∈nid,ids.length≤j:=by rw [hnid];exact (newOf_ok _ _).2
 have back_some: ∀j i,back j=some i→(ids[j]? =some i)∨(∃k,nid[k]? =some j∧i=b+k):=by
  intro j i hj
  rw [hback] at hj
  unfold backOf at hj
  split at hj
  ·rw [nthId_get] at hj;exact .inl hj
  ·split at hj
   ·rename_i k hk
    obtain ⟨m,h1,h3⟩:=indexIn_some hk
    have:k=m:=by omega
    subst this
    simp only [Option.some.injEq] at hj
    exact .inr ⟨k,h3,hj.symm⟩
   ·simp at hj
 have back_old: ∀k i,ids[k]? =some i→back k=some i:=by
  intro k i hk
  have hlt:=(List.getElem?_eq_some_iff.1 hk).1
  rw [hback]
  unfold backOf
  rw [if_pos (by simpa [Nat.blt] using Nat.ble_eq_true_of_le (Nat.succ_le_of_lt hlt)),nthId_get,hk]
 have back_new: ∀k j,nid[k]? =some j→back j=some (b+k):=by
  intro k j hk
  have hge:=hnge j (List.mem_of_getElem? hk)
  rw [hback]
  unfold backOf
  rw [if_neg (by simp only [Nat.blt];intro hc;have:=Nat.le_of_ble_eq_true hc;omega),indexIn_get hnnd hk]
  simp
 have newlt: ∀k j,nid[k]? =some j→k<nid.length:=fun k j hk=>(List.getElem?_eq_some_iff.1 hk).1
 obtain ⟨β2,hβ2⟩: ∃β2:Nat→Pl,β2=fun i=>match indexIn ids 0 i with
   | some k=>β1 k
   | none=>if b≤i∧i<b+nid.length then (match nid[i - b]? with | some j=>β1 j | none=> .nil) else β i:=⟨_,rfl⟩
 obtain ⟨K,hK⟩: ∃K,K=movedOf o1 ids 0++newIds b nid 0:=⟨_,rfl⟩
 obtain ⟨ob2,hob2⟩: ∃ob2,ob2=(d.app ⟨fr,ob⟩).ob:=⟨_,rfl⟩
 obtain ⟨obk,hobk⟩: ∃obk,obk=(St.kill K ⟨fr,ob⟩).ob:=⟨_,rfl⟩
 obtain ⟨fk,hfk⟩: ∃fk,fk=(St.kill K ⟨fr,ob⟩).fr:=⟨_,rfl⟩
 have happ:d.app ⟨fr,ob⟩=⟨fk,ob2⟩:=by
  rw [hob2,hfk,hK,←h2];rfl
 have hdv:d.v=(vc.res o1).ren back:=by rw [←h2]
 have hkrel:Rel P w X β ⟨fk,obk⟩ a:=by rw [hfk,hobk];exact hrel.kill K
 have get2: ∀i,ob2.get i=match look (backs o2 back ob ids 0++news o2 back b nid 0) i with | some x=>x | none=>obk.get i:=by
  intro i
  rw [hob2,←h2]
  simp only [Delta.app]
  rw [get_puts,←hK,←hobk]
  all_goals rfl
 have three: ∀i q,ob2.get i=some q→
   (∃k o,ids[k]? =some i∧o2.get k=some o∧q=(o.ren back).mark (movedAt ob i||o.moved)∧β2 i=β1 k)∨
   (∃k j o,nid[k]? =some j∧i=b+k∧o2.get j=some o∧q=o.ren back∧β2 i=β1 j∧i∉ids)∨
   (i∉ids∧ ¬(b≤i∧i<b+nid.length)∧obk.get i=some q∧β2 i=β i):=by
  intro i q hq
  rw [get2,look_append,look_backs,look_news] at hq
  cases hi:indexIn ids 0 i with
  | some k=>
   left
   obtain ⟨k',e1,e2⟩:=indexIn_some hi
   have:k=k':=by omega
   subst this
   simp only [hi,Option.map_some] at hq
   cases ho:o2.get k with
   | none=>simp [ho] at hq
   | some o=>
    simp only [ho,Option.map_some,Option.some.injEq] at hq
    exact ⟨k,o,e2,ho,hq.symm,by rw [hβ2];simp only [hi]⟩
  | none=>
   have hni:=indexIn_none hi
   simp only [hi,Option.map_none,Nat.add_zero] at hq
   by_cases hrange:b≤i∧i<b+nid.length
   ·right;left
    rw [if_pos hrange] at hq
    simp only at hq
    cases hk:nid[i - b]? with
    | none=>simp [hk] at hq
    | some j=>
     cases ho:o2.get j with
     | none=>simp [hk,ho] at hq
     | some o=>
      simp only [hk,Option.bind_some,ho,Option.map_some,Option.some.injEq] at hq
      exact ⟨i - b,j,o,hk,by omega,ho,hq.symm,by rw [hβ2];simp only [hi,if_pos hrange,hk],hni⟩
   ·right;right
    rw [if_neg hrange] at hq
    exact ⟨hni,hrange,hq,by rw [hβ2];simp only [hi,if_neg hrange]⟩
 have newK: ∀i,b≤i→i<b+nid.length→i∈K:=by
  intro i h1 h2
  rw [hK]
  exact List.mem_append_right _ ((newIds_mem b nid 0 i).2 (by omega))
 have held: ∀k i o,ids[k]? =some i→o2.get k=some o→o.moved=false→ ∃p,ob.get i=some p∧β1 k=β i∧p.like o:=by
  intro k i o hk ho hm
  have hk64:k<64:=Nat.lt_of_lt_of_le (List.getElem?_eq_some_iff.1 hk).1 hlen
  rw [ho2] at ho
  obtain ⟨oo,g1,rfl⟩:=res_old ho
  obtain ⟨oc,s1,_,s2,s3⟩:=hcame.stay k oo hk64 g1 (by rw [res_moved] at hm;exact hm)
  obtain ⟨i',p,e1,e2,e3,e4⟩:=oldc k oc s1
  rw [hk] at e1
  cases e1
  refine ⟨p,e2,s2.trans e4,?_⟩
  rw [e3] at s3
  exact like_trans (like_trans (ren_like _ _) s3) (res_like _ _)
 have hstays: ∀l:List Nat,(∀id∈K,id∉l)→Stays β β2 obk ob2 l:=by
  intro l hl id hid q hq
  have hnK:id∉K:=fun hk=>hl id hk hid
  rcases three id q hq with ⟨k,o,e1,e2,e3,e4⟩ | ⟨k,j,o,e1,e2,e3,e4,e5,e6⟩ | ⟨e1,e2,e3,e4⟩
  ·have hnm:id∉movedOf o1 ids 0:=fun hm=>hnK (by rw [hK];exact List.mem_append_left _ hm)
   obtain ⟨oo,g1,g2⟩:=movedOf_not hnm e1
   rw [Nat.zero_add] at g1
   have hom:o.moved=false:=by
    rw [ho2,get_res,g1] at e2
    simp only [Option.map_some,Option.some.injEq] at e2
    rw [←e2,res_moved];exact g2
   obtain ⟨p,p1,p2,p3⟩:=held k id o e1 e2 hom
   obtain ⟨ok,k1,k2⟩:=kill_get (fr:=fr) K p1
   refine ⟨ok,by rw [hobk];exact k1,by rw [e4,p2],?_⟩
   rw [e3]
   exact like_trans (like_symm k2) (like_trans p3 (like_trans (ren_like _ _) (mark_like _ _)))
  ·exact (hnK (newK id (by omega) (by have:=newlt k j e1;omega))).elim
  ·exact ⟨q,e3,e4,like_refl _⟩
 have frameOwn: ∀i o bl c,i∉ids→ob.get i=some o→o.frozen=false→β i= .blk bl c→ ¬Owned βc obc bl:=by
  intro i o bl c hi ho hf hp hc
  obtain ⟨i2,q,c2,g1,g2,g3,g4⟩:=ownc bl hc
  have:=hr.inj i i2 o q bl c c2 ho g2 hp g4 hf
  subst this
  exact hi g1
 have frameNot: ∀i o bl c,i∉ids→ob.get i=some o→β i= .blk bl c→ ¬Owned βc obc bl:=by
  intro i o bl c hi ho hp hc
  obtain ⟨i2,q,c2,g1,g2,g3,g4⟩:=ownc bl hc
  have:=hr.inj i2 i q o bl c2 c g2 ho g4 hp g3
  subst this
  exact hi g1
 have owned2: ∀bl,Owned β2 ob2 bl→Owned β1 o1 bl∨(Owned β ob bl∧ ¬Owned βc obc bl):=by
  rintro bl ⟨i,q,c,hg,hf,hp⟩
  rcases three i q hg with ⟨k,o,e1,e2,e3,e4⟩ | ⟨k,j,o,e1,e2,e3,e4,e5,e6⟩ | ⟨e1,e2,e3,e4⟩
  ·left
   have:Owned β1 o2 bl:=⟨k,o,c,e2,by rw [e3,mark_frozen,ren_frozen] at hf;exact hf,by rw [←e4];exact hp⟩
   rw [ho2] at this
   exact res_owned.1 this
  ·left
   have:Owned β1 o2 bl:=⟨j,o,c,e3,by rw [e4,ren_frozen] at hf;exact hf,by rw [←e5];exact hp⟩
   rw [ho2] at this
   exact res_owned.1 this
  ·right
   rw [hobk] at e3
   obtain ⟨p,p1,p2,p3,_⟩:=kill_old e3
   rw [e4] at hp
   have hf':p.frozen=false:=by rw [←p3];exact hf
   exact ⟨⟨i,p,c,p1,hf',hp⟩,frameOwn i p bl c e1 p1 hf' hp⟩
 have hyA: ∀bl,Ys X β2 ob2 bl→Ys Xc β1 o2 bl:=by
  rintro bl (hx | ho)
  ·exact .inl (by rw [hXc];exact .inl hx)
  ·rcases owned2 bl ho with ho | ho
   ·exact .inr (by rw [ho2];exact res_owned.2 ho)
   ·exact .inl (by rw [hXc];exact .inr ho)
 have own2: ∀bl,Owned β2 ob2 bl→Owned β ob bl∨w.heap.size≤bl:=by
  intro bl ho
  rcases owned2 bl ho with ho | ho
  ·rcases hcame.own bl ho with ho | ho
   ·exact .inl (ownc' bl ho)
   ·exact .inr ho
  ·exact .inl ho.1
 have hyB: ∀bl,bl<w.heap.size→Ys X β2 ob2 bl→Ys X β obk bl:=by
  rintro bl hbl (hx | ho)
  ·exact .inl hx
  ·rcases own2 bl ho with ho | ho
   ·exact .inr (by rw [hobk];exact (kill_owned K).2 ho)
   ·omega
 have hkB: ∀bl,bl<w.heap.size→ ¬Ys X β obk bl→w'.heap[bl]? =w.heap[bl]? :=by
  intro bl hbl hn
  refine hcame.keep.2 bl hbl fun hc=>hn (.inr ?_)
  rw [hobk]
  exact (kill_owned K).2 (ownc' bl hc)
 have hbk: ∀id id',back id=some id'→ ∀q,ob2.get id'=some q→ ∃o,o2.get id=some o∧β2 id'=β1 id∧o.like q:=by
  intro id id' hb' q hq
  rcases three id' q hq with ⟨k,o,e1,e2,e3,e4⟩ | ⟨k,j,o,e1,e2,e3,e4,e5,e6⟩ | ⟨e1,e2,e3,e4⟩
  ·rcases back_some id id' hb' with h1 | ⟨k2,h1,h3⟩
   ·obtain ⟨a1,a2⟩:=List.getElem?_eq_some_iff.1 e1
    obtain ⟨b1,b2⟩:=List.getElem?_eq_some_iff.1 h1
    have:k=id:=(List.getElem_inj hnd).1 (a2.trans b2.symm)
    subst this
    exact ⟨o,e2,e4,by rw [e3];exact like_trans (ren_like _ _) (mark_like _ _)⟩
   ·have:=newlt k2 id h1
    exact (hfresh id' (List.mem_of_getElem? e1) ⟨by omega,by omega⟩).elim
  ·rcases back_some id id' hb' with h1 | ⟨k2,h1,h3⟩
   ·exact (e6 (List.mem_of_getElem? h1)).elim
   ·have:k2=k:=by omega
    subst this
    rw [h1] at e1
    cases e1
    exact ⟨o,e3,e5,by rw [e4];exact ren_like _ _⟩
  ·rcases back_some id id' hb' with h1 | ⟨k2,h1,h3⟩
   ·exact (e1 (List.mem_of_getElem? h1)).elim
   ·have:=newlt k2 id h1
    exact (e2 ⟨by omega,by omega⟩).elim
 have hrelO:RelO P w' X β2 ob2:=by
  refine ⟨?_,?_,?_,?_,rel2.tab.keep (Nat.le_refl _) (fun _ _ _=>rfl) (fun bl _ h=>hyA bl h)⟩
  ·intro i q hq
   rcases three i q hq with ⟨k,o,e1,e2,e3,e4⟩ | ⟨k,j,o,e1,e2,e3,e4,e5,e6⟩ | ⟨e1,e2,e3,e4⟩
   ·rw [e3,e4]
    exact ((rel2.obj k o e2).ren (fun bl _ h=>hyA bl h) hbk).mark _
   ·rw [e4,e5]
    exact (rel2.obj j o e3).ren (fun bl _ h=>hyA bl h) hbk
   ·rw [e4]
    refine (hkrel.ob.obj i q e3).mono hkB hyB ?_ (hstays _ fun id hid=> ?_)
    ·intro bl cap hp
     have hlt:=(hkrel.ob.obj i q e3).lt hp
     rw [hobk] at e3
     obtain ⟨p,p1,_⟩:=kill_old e3
     exact hcame.keep.2 bl hlt (frameNot i p bl cap e1 p1 hp)
    ·rw [hobk] at e3
     exact kill_box K hid e3
  ·intro i i' q q' bl c c' h1 h2 h3 h4 hf
   have callee: ∀i q,ob2.get i=some q→(∃j o,o2.get j=some o∧back j=some i∧β2 i=β1 j∧q.frozen=o.frozen)∨(i∉ids∧obk.get i=some q∧β2 i=β i):=by
    intro i q hq
    rcases three i q hq with ⟨k,o,e1,e2,e3,e4⟩ | ⟨k,j,o,e1,e2,e3,e4,e5,e6⟩ | ⟨e1,e2,e3,e4⟩
    ·exact .inl ⟨k,o,e2,back_old k i e1,e4,by rw [e3,mark_frozen,ren_frozen]⟩
    ·exact .inl ⟨j,o,e3,by rw [e2];exact back_new k j e1,e5,by rw [e4,ren_frozen]⟩
    ·exact .inr ⟨e1,e3,e4⟩
   rcases callee i q h1 with ⟨j,o,g1,g2,g3,g4⟩ | ⟨g1,g2,g3⟩ <;> rcases callee i' q' h2 with ⟨j',o',g1',g2',g3',g4'⟩ | ⟨g1',g2',g3'⟩
   ·have:=rel2.inj j j' o o' bl c c' g1 g1' (by rw [←g3];exact h3) (by rw [←g3'];exact h4) (by rw [←g4];exact hf)
    subst this
    rw [g2] at g2'
    exact Option.some.inj g2'
   ·have hown:Owned β1 o1 bl:=by
     have:Owned β1 o2 bl:=⟨j,o,c,g1,by rw [←g4];exact hf,by rw [←g3];exact h3⟩
     rw [ho2] at this
     exact res_owned.1 this
    rw [g3'] at h4
    have hlt:=(hkrel.ob.obj i' q' g2').lt h4
    rw [hobk] at g2'
    obtain ⟨p,p1,_⟩:=kill_old g2'
    rcases hcame.own bl hown with ho | ho
    ·exact (frameNot i' p bl c' g1' p1 h4 ho).elim
    ·omega
   ·rw [hobk] at g2
    obtain ⟨p,p1,p2,p3,_⟩:=kill_old g2
    rw [g3] at h3
    have hf':p.frozen=false:=by rw [←p3];exact hf
    refine (rel2.notX j' o' bl c' g1' (by rw [←g3'];exact h4) ?_).elim
    rw [hXc]
    exact .inr ⟨⟨i,p,c,p1,hf',h3⟩,frameOwn i p bl c g1 p1 hf' h3⟩
   ·exact hkrel.ob.inj i i' q q' bl c c' g2 g2' (by rw [←g3];exact h3) (by rw [←g3'];exact h4) hf
  ·intro i q bl c h1 h2 hx
   rcases three i q h1 with ⟨k,o,e1,e2,e3,e4⟩ | ⟨k,j,o,e1,e2,e3,e4,e5,e6⟩ | ⟨e1,e2,e3,e4⟩
   ·exact rel2.notX k o bl c e2 (by rw [←e4];exact h2) (by rw [hXc];exact .inl hx)
   ·exact rel2.notX j o bl c e3 (by rw [←e5];exact h2) (by rw [hXc];exact .inl hx)
   ·exact hkrel.ob.notX i q bl c e3 (by rw [←e4];exact h2) hx
  ·intro bl hx
   exact Nat.lt_of_lt_of_le (hr.xlt bl hx) hcame.keep.1
 have hfrl:RVL w' (Ys X β2 ob2) β2 ob2 fk a.tmps.toList:=
  RVL.mono hkB hyB _ _ (hstays _ fun id hid=>by rw [hfk];exact kill_fr K hid) hkrel.fr
 refine ⟨β2,?_,?_⟩
 ·rw [happ]
  refine ⟨⟨hrelO,hfrl,hrel.df.keep hrel.ob (hcame.keep.mono fun bl _ hc=>ownc' bl hc)⟩,hcame.keep.mono fun bl _ hc=>ownc' bl hc,own2,?_⟩
  intro i q hi hg hm
  rcases three i q hg with ⟨k,o,e1,e2,e3,e4⟩ | ⟨k,j,o,e1,e2,e3,e4,e5,e6⟩ | ⟨e1,e2,e3,e4⟩
  ·rw [e3] at hm
   have hom:o.moved=false:=by
    rcases mark_moved _ _ hm with ⟨e,n,v,z,es,_,hmf⟩ | hall
    ·simp only [Bool.or_eq_false_iff] at hmf;exact hmf.2
    ·exact hall o (ren_like _ _)
   obtain ⟨p,p1,p2,p3⟩:=held k i o e1 e2 hom
   refine ⟨p,p1,?_,by rw [e4,p2],by rw [e3];exact like_trans p3 (like_trans (ren_like _ _) (mark_like _ _))⟩
   rcases mark_moved _ _ hm with ⟨e,n,v,z,es,_,hmf⟩ | hall
   ·simp only [Bool.or_eq_false_iff,movedAt,p1] at hmf;exact hmf.1
   ·exact hall p (like_trans p3 (ren_like _ _))
  ·omega
  ·rw [hobk] at e3
   obtain ⟨p,p1,p2,p3,p4⟩:=kill_old e3
   exact ⟨p,p1,by rw [←p4];exact hm,e4,p2⟩
 ·rw [happ,hdv]
  exact RV.ren (fun bl _ h=>hyA bl h) hbk _ _ val2
end
section
variable {P:Program} {w w':World} {X Y:Nat→Prop} {β:Nat→Pl} {ob:Obs} {fr:List V} {a:Act}
def RunsR(P:Program)(w:World)(X:Nat→Prop)(β:Nat→Pl)(ob:Obs)(_:Act)(s:Sem Next)(r:Out):Prop:=
 ∃u,s.run P w= .ok (.value u) w∧RV w (Ys X β ob) β ob r.v u
theorem runsR_pure(_:Rel P w X β ⟨fr,ob⟩ a){s:Sem Next}{u:Value}{v:V}(h:s.run P w= .ok (.value u) w)
  (hv:RV w (Ys X β ob) β ob v u):RunsR P w X β ob a s ⟨v,ob,[]⟩:=⟨u,h,hv⟩
theorem RunsR.congr{s s':Sem Next}{r:Out}(h:s.run P w=s'.run P w)(hr:RunsR P w X β ob a s' r):RunsR P w X β ob a s r:=by
 obtain ⟨u,h1,h2⟩:=hr
 exact ⟨u,by rw [h];exact h1,h2⟩
theorem cBuiltinR_ok{b:Builtin}{ts:Array TypeId}{args:Array Operand}{ty:TypeId}{r:Out}{bs:Nat}{consts:Array Bool}(hr:Rel P w X β ⟨fr,ob⟩ a)(hrd:isReader (cBuiltin P b ts.toList args.toList)=true)(h:(stepP (cBuiltin P b ts.toList args.toList) bs fr ob).eval=some r):
  RunsR P w X β ob a (builtin b ts ty consts (args.map a.eval)) r:=by
 unfold cBuiltin at h hrd
 split at h
 ·-- len
  rename_i t x hts hargs
  have hts':ts= #[t]:=by apply Array.toList_inj.mp;simpa using hts
  have hargs':args= #[x]:=by apply Array.toList_inj.mp;simpa using hargs
  subst hts' hargs'
  have key: ∀k,((k=0→P.underlying t=some .string)∧(k=1→ ∃e,P.underlying t=some (.slice e)))→(stepP (.len k (cOpd P t x)) bs fr ob).eval=some r→
    RunsR P w X β ob a (builtin .len #[t] ty consts (#[x].map a.eval)) r:=by
   intro k hk h
   simp only [stepP] at h
   obtain ⟨v,h1,rfl⟩:=out_eval h
   obtain ⟨z,hz,hv⟩:=lenV_ok (P:=P) (ty:=ty) hk hr.ob (opd_ok hr.ob.tab hr.fr t x) h1
   exact runsR_pure hr (run_next (s:=Builtin.len_ #[t] ty (#[x].map a.eval)) (by simpa using hz)) hv
  split at h
  ·rename_i hu;exact key 0 ⟨fun _=>hu,by simp⟩ h
  ·rename_i e hu;exact key 1 ⟨by simp,fun _=>⟨e,hu⟩⟩ h
  ·rename_i kt e hu
   obtain ⟨v,z,hz,hv,rfl⟩:=mlen_ok (P:=P) (ty:=ty) hr hu h
   exact runsR_pure hr (run_next (s:=Builtin.len_ #[t] ty (#[x].map a.eval)) (by simpa using hz)) hv
  ·simp [stepP,Tree.eval] at h
 ·-- append
  rename_i t u s x hts hargs
  have hts':ts= #[t,u]:=by apply Array.toList_inj.mp;simpa using hts
  have hargs':args= #[s,x]:=by apply Array.toList_inj.mp;simpa using hargs
  subst hts' hargs'
  split at h
  ·simp [stepP,Tree.eval] at h
  ·rename_i e d hnot hu hd
   exfalso
   revert hrd
   dsimp only
   repeat' split
   all_goals first
    | (simp [isReader];done)
    | simp_all [isReader]
  ·simp [stepP,Tree.eval] at h
 ·-- min
  rename_i ts' x xs hargs
  simp only [stepP] at h
  split at h
  ·rename_i y hy
   obtain ⟨v,h1,rfl⟩:=out_eval h
   obtain ⟨d,h2,rfl⟩:=mapD_eval h1
   have hx:=opd_ok (P:=P) hr.ob.tab hr.fr 0 x
   rw [hy] at hx
   obtain ⟨z,hz,hv⟩:=minI_ok (P:=P) h2 (RVd hx) (opds_ok hr.ob.tab hr.fr 0 xs)
   refine runsR_pure hr (run_next (s:=Builtin.min_ ts ty (args.map a.eval)) (u:=z) ?_) (by simpa [RV] using hv)
   unfold Builtin.min_
   simp only [Array.toList_map,hargs,List.map_cons]
   exact hz
  ·simp [Tree.eval] at h
 ·rename_i ts' x xs hargs
  simp only [stepP] at h
  split at h
  ·rename_i y hy
   obtain ⟨v,h1,rfl⟩:=out_eval h
   obtain ⟨d,h2,rfl⟩:=mapD_eval h1
   have hx:=opd_ok (P:=P) hr.ob.tab hr.fr 0 x
   rw [hy] at hx
   obtain ⟨z,hz,hv⟩:=maxI_ok (P:=P) h2 (RVd hx) (opds_ok hr.ob.tab hr.fr 0 xs)
   refine runsR_pure hr (run_next (s:=Builtin.max_ ts ty (args.map a.eval)) (u:=z) ?_) (by simpa [RV] using hv)
   unfold Builtin.max_
   simp only [Array.toList_map,hargs,List.map_cons]
   exact hz
  ·simp [Tree.eval] at h
 ·simp [stepP,Tree.eval] at h
theorem stepR_ok{o:Oper}{r:Out}{bs:Nat}(hr:Rel P w X β ⟨fr,ob⟩ a)(hrd:isReader (cOp P o)=true)(h:(stepP (cOp P o) bs fr ob).eval=some r):RunsR P w X β ob a (execOp a.eval o) r:=by
 unfold execOp
 unfold cOp at h hrd
 cases hop:o.op <;> simp only [hop] at h hrd ⊢
 case move x=>
  simp only [stepP,Tree.eval,Option.some.injEq] at h
  subst h
  exact runsR_pure hr rfl (opd_ok hr.ob.tab hr.fr _ x)
 case assign x=>
  simp only [stepP,Tree.eval,Option.some.injEq] at h
  subst h
  exact runsR_pure hr rfl (opd_ok hr.ob.tab hr.fr _ x)
 case pick c x y=>
  simp only [stepP] at h
  split at h
  ·rename_i t ht
   have hc:=opd_ok (P:=P) hr.ob.tab hr.fr 0 c
   rw [ht] at hc
   have hc':a.eval c= .bool t:=by generalize hz:a.eval c=z at hc;cases RVd hc;rfl
   simp only [Tree.eval] at h
   cases t <;> simp only [Option.some.injEq] at h <;> subst h
   ·exact runsR_pure hr (by simp [asBool,hc']) (opd_ok hr.ob.tab hr.fr _ y)
   ·exact runsR_pure hr (by simp [asBool,hc']) (opd_ok hr.ob.tab hr.fr _ x)
  ·exact (stuck_none h).elim
 case alloc t=>
  exfalso
  revert hrd
  repeat' split
  all_goals simp [isReader]
 case box t x=>
  exfalso
  revert hrd
  repeat' split
  all_goals simp [isReader]
 case build t parts=>
  split at h
  ·rename_i fs hu
   split at h
   ·rename_i z ps hz hp
    split at h
    ·rename_i hall
     simp only [stepP] at h
     split at h
     ·rename_i cs hcs
      simp only [Tree.eval,Option.some.injEq] at h
      subst h
      obtain ⟨u,h1,h2⟩:=build_ok (P:=P) (parts:=parts) hr.ob.tab hr.fr hz (.inl ⟨fs,hu,hp,hall⟩) hcs
      exact runsR_pure hr (run_next h1) h2
     ·exact (stuck_none h).elim
    ·exact (stuck_none h).elim
   ·exact (stuck_none h).elim
  ·rename_i n e hu
   split at h
   ·rename_i z hz
    split at h
    ·rename_i hie
     simp only [stepP] at h
     split at h
     ·rename_i cs hcs
      simp only [Tree.eval,Option.some.injEq] at h
      subst h
      obtain ⟨u,h1,h2⟩:=build_ok (P:=P) (parts:=parts) hr.ob.tab hr.fr hz (.inr ⟨n,e,hu,hie,rfl⟩) hcs
      exact runsR_pure hr (run_next h1) h2
     ·exact (stuck_none h).elim
    ·exact (stuck_none h).elim
   ·exact (stuck_none h).elim
  ·exact (stuck_none h).elim
 case buildSlice t len parts=>
  exfalso
  revert hrd
  repeat' split
  all_goals simp [isReader]
 case load t x=>
  split at h
  ·rename_i hu
   simp only [stepP] at h
   obtain ⟨v,h1,rfl⟩:=out_eval h
   obtain ⟨z,hz,hv⟩:=loadAt_ok (P:=P) hr.ob hu (opd_ok hr.ob.tab hr.fr 0 x) h1
   exact runsR_pure hr (run_next hz) hv
  ·exact (stuck_none h).elim
 case store t x y=>
  exfalso
  revert hrd
  repeat' split
  all_goals simp [isReader]
 case nilCheck x=>
  simp only [stepP] at h
  have hx:=opd_ok (P:=P) hr.ob.tab hr.fr 0 x
  split at h
  ·rename_i id off hv
   rw [hv] at hx
   simp only [Tree.eval,Option.some.injEq] at h
   subst h
   have hx':=hx
   simp only [RV] at hx
   obtain ⟨ad,hx,_⟩:=hx
   exact runsR_pure hr (by rw [hx];rfl) (by rw [←hx];exact hx')
  ·rename_i id i off hv
   rw [hv] at hx
   simp only [Tree.eval,Option.some.injEq] at h
   subst h
   have hx':=hx
   simp only [RV] at hx
   obtain ⟨ad,hx,_⟩:=hx
   exact runsR_pure hr (by rw [hx];rfl) (by rw [←hx];exact hx')
  ·rename_i cs hv
   rw [hv] at hx
   simp only [Tree.eval,Option.some.injEq] at h
   subst h
   have hx':=hx
   simp only [RV] at hx
   obtain ⟨ad,hx,_⟩:=hx
   exact runsR_pure hr (by rw [hx];rfl) (by rw [←hx];exact hx')
  ·rename_i f zas caps hv
   rw [hv] at hx
   simp only [Tree.eval,Option.some.injEq] at h
   subst h
   have hx':=hx
   simp only [RV] at hx
   obtain ⟨us,vs,hx,_⟩:=hx
   exact runsR_pure hr (by rw [hx];rfl) (by rw [←hx];exact hx')
  ·exact (stuck_none h).elim
 case binOp op t x y yt=>
  simp only [stepP] at h
  obtain ⟨v,h1,rfl⟩:=out_eval h
  obtain ⟨z,hz,hv⟩:=binV_ok (P:=P) (ox:=x) (oy:=y) h1 (lst_nil (hR:=hr.ob)) (opd_ok hr.ob.tab hr.fr t x) (opd_ok hr.ob.tab hr.fr t y)
  exact runsR_pure hr (run_next hz) hv
 case unOp op t x=>
  simp only [stepP] at h
  split at h
  ·rename_i y hy
   obtain ⟨v,h1,rfl⟩:=out_eval h
   obtain ⟨d,h2,rfl⟩:=mapD_eval h1
   have hx:=opd_ok (P:=P) hr.ob.tab hr.fr 0 x
   rw [hy] at hx
   obtain ⟨z,hz,hv⟩:=unD_ok (P:=P) h2 (RVd hx)
   exact runsR_pure hr (run_next hz) (by simpa [RV] using hv)
  ·exact (stuck_none h).elim
 case convert src dst x=>
  split at h
  ·rename_i c hc
   have hx:=opd_ok (P:=P) hr.ob.tab hr.fr src x
   unfold cConv at hc
   split at hc
   ·rename_i k k' h1 h2
    simp only [Option.some.injEq] at hc
    subst hc
    generalize hz:opd fr (cOpd P src x)=z at h hx
    cases z with
    | d y=>
     cases y with
     | int j n=>
      simp only [stepP,hz,Tree.eval,Option.some.injEq] at h
      subst h
      have hx':a.eval x= .int j n:=by generalize hz:a.eval x=z at hx;cases RVd hx;rfl
      exact runsR_pure hr (run_next (by rw [hx'];simp [convert,run_underlying h1,run_underlying h2,Conv.intToInt];rfl)) (by simp only [RV];exact .int _ _)
     | _=>simp [stepP,hz,Tree.eval] at h
    | _=>simp [stepP,hz,Tree.eval] at h
   ·rename_i h1 h2
    simp only [Option.some.injEq] at hc
    subst hc
    generalize hz:opd fr (cOpd P src x)=z at h hx
    cases z with
    | d y=>
     cases y with
     | str s=>
      simp only [stepP,hz,Tree.eval,Option.some.injEq] at h
      subst h
      have hx':a.eval x= .string ⟨s.toArray⟩:=by generalize hz:a.eval x=z at hx;cases RVd hx;rfl
      exact runsR_pure hr (run_next (by rw [hx'];simp [convert,run_underlying h1,run_underlying h2];rfl)) (by simp only [RV];exact .str _)
     | _=>simp [stepP,hz,Tree.eval] at h
    | _=>simp [stepP,hz,Tree.eval] at h
   ·rename_i e h1 h2
    split at hc
    ·rename_i he
     simp only [Option.some.injEq] at hc
     subst hc
     simp only [stepP] at h
     split at h
     ·rename_i es hes
      simp only [Tree.eval,Option.some.injEq] at h
      subst h
      have hb:=b2s_ok (P:=P) hr.ob hes hx
      have hcv:(convert src dst (a.eval x)).run P w= .ok (.string ⟨(es.map fun x=>UInt8.ofNat x.toInt.toNat).toArray⟩) w:=by
       unfold convert
       simp only [Sem.run_bind,run_underlying h1,run_underlying h2,Result.andThen_ok]
       have hsl: ∃ad n c,a.eval x= .slice ad n c:=by
        generalize a.eval x=u at hb
        cases u with
        | slice ad n c=>exact ⟨_,_,_,rfl⟩
        | _=>simp [Conv.bytesToString] at hb
       obtain ⟨ad,n,c,hsl⟩:=hsl
       rw [hsl] at hb ⊢
       cases ad <;> simp only [Sem.run_bind,run_underlying he,Result.andThen_ok] <;> exact hb
      exact runsR_pure hr (run_next hcv) (by simp only [RV];exact .str _)
     ·exact (stuck_none h).elim
    ·simp at hc
   ·rename_i e h1 h2
    split at hc
    ·rename_i he
     simp only [Option.some.injEq] at hc
     subst hc
     simp [cConv,h1,h2,he,isReader] at hrd
    ·simp at hc
   ·simp at hc
  ·exact (stuck_none h).elim
 case makeFunc fn first caps=>
  cases fn with
  | func f=>
   simp only [stepP,Tree.eval,Option.some.injEq] at h
   subst h
   refine runsR_pure hr (u:= .func (.func f) (first.map a.eval) (caps.map a.eval)) (run_next (by simp [Instr.makeFunc])) ?_
   simp only [RV]
   refine ⟨_,_,rfl,?_,?_⟩
   ·have:=opds_ok (P:=P) hr.ob.tab hr.fr 0 first.toList;simpa using this
   ·have:=opds_ok (P:=P) hr.ob.tab hr.fr 0 caps.toList;simpa using this
  | _=>exact (stuck_none h).elim
 case makeSlice t l c=>
  exfalso
  revert hrd
  repeat' split
  all_goals simp [isReader]
 case slice t x lo hi mx=>
  have hlo:=optOpd_ok (P:=P) hr.ob.tab hr.fr lo
  have hhi:=optOpd_ok (P:=P) hr.ob.tab hr.fr hi
  split at h
  ·rename_i hu
   split at h
   ·simp only [stepP] at h
    obtain ⟨v,h1,rfl⟩:=out_eval h
    obtain ⟨z,hz,hv⟩:=slcSV_ok (P:=P) hu (opd_ok hr.ob.tab hr.fr t x) hlo hhi h1
    exact runsR_pure hr (run_next hz) hv
   ·exact (stuck_none h).elim
  ·rename_i e hu
   split at h
   ·split at h
    ·rename_i s hs
     simp [hu,hs,isReader] at hrd
    ·exact (stuck_none h).elim
   ·rename_i m
    split at h
    ·rename_i hz
     simp only [Bool.and_eq_true] at hz
     obtain ⟨⟨⟨hz1,hz2⟩,hz3⟩,hz4⟩:=hz
     obtain ⟨s,hs⟩:=Option.isSome_iff_exists.1 hz4
     have hlo':lo=none:=by simpa using hz1
     obtain ⟨k1,hk1⟩:=isZeroC_ok hz2
     obtain ⟨k2,hk2⟩:=isZeroC_ok hz3
     simp only [Option.some.injEq] at hk2
     subst hlo' hk1 hk2
     simp only [stepP] at h
     have hx:=opd_ok (P:=P) hr.ob.tab hr.fr t x
     have hn:=sh_size (P:=P) (w:=w) hs
     split at h
     ·rename_i e' es hv
      rw [hv] at hx
      simp only [Tree.eval,Option.some.injEq] at h
      subst h
      have: ∃ad c,a.eval x= .slice (some ad) es.length c:=by generalize hz:a.eval x=z at hx;cases RVd hx;exact ⟨_,_,rfl⟩
      obtain ⟨ad,c,hax⟩:=this
      refine runsR_pure hr (u:= .slice (some (if c=0 then ad else ad)) 0 0) (run_next ?_) (by simp only [RV];exact ⟨_,rfl⟩)
      rw [hax]
      simp [Instr.sliceAt,Instr.slice,run_underlying hu,Instr.sliceBounds,Instr.sliceBound,asIntOf,hn,Act.eval]
     ·rename_i e' es hv
      rw [hv] at hx
      simp only [Tree.eval,Option.some.injEq] at h
      subst h
      have:a.eval x= .slice none 0 0:=by generalize hz:a.eval x=z at hx;cases RVd hx;rfl
      refine runsR_pure hr (u:= .slice none 0 0) (run_next ?_) (by simp only [RV];exact .slnil _)
      rw [this]
      simp [Instr.sliceAt,Instr.slice,run_underlying hu,Instr.sliceBounds,Instr.sliceBound,asIntOf,hn,Act.eval]
     ·exact (stuck_none h).elim
    ·exact (stuck_none h).elim
  ·rename_i n e hu
   split at h
   ·rename_i s hs
    simp [hu,hs,isReader] at hrd
   ·exact (stuck_none h).elim
  ·rename_i ar hu
   split at h
   ·rename_i n e hua
    split at h
    ·rename_i s hs
     simp [hu,hua,hs,isReader] at hrd
    ·exact (stuck_none h).elim
   ·exact (stuck_none h).elim
  ·exact (stuck_none h).elim
 case fieldAddr t x f=>
  split at h
  ·rename_i fs hu
   split at h
   ·rename_i fd hf
    split at h
    ·exact (stuck_none h).elim
    ·rename_i hne
     have hne':P.cellsOf fd.type≠0:=fun hc=>hne (by rw [hc];rfl)
     have hrun: ∀ad,a.eval x= .pointer (some ad)→(Instr.fieldAt t (a.eval x) f).run P w= .ok (.pointer (some (ad.add fd.offset))) w:=by
      intro ad hax
      rw [hax]
      simp [Instr.fieldAt,run_underlying hu,hf,Instr.sureAddr,fieldPlace_run (P:=P) rfl hne']
     simp only [stepP] at h
     have hx:=opd_ok (P:=P) hr.ob.tab hr.fr 0 x
     split at h
     ·rename_i id off hv
      rw [hv] at hx
      simp only [Tree.eval,Option.some.injEq] at h
      subst h
      simp only [RV] at hx
      obtain ⟨ad,hax,had⟩:=hx
      refine runsR_pure hr (run_next (hrun ad hax)) ?_
      simp only [RV]
      refine ⟨_,rfl,fun o ho=> ?_⟩
      rw [had o ho,(add_add _ _).2 rfl]
     ·rename_i id i off hv
      rw [hv] at hx
      simp only [Tree.eval,Option.some.injEq] at h
      subst h
      simp only [RV] at hx
      obtain ⟨ad,hax,had1,had2⟩:=hx
      refine runsR_pure hr (run_next (hrun ad hax)) ?_
      simp only [RV]
      refine ⟨_,rfl,fun e n m z es ho=> ?_,fun e n z es ho=> ?_⟩
      ·obtain ⟨q1,q2⟩:=had1 e n m z es ho
       rw [q1,(add_add _ _).2 rfl]
       exact ⟨by simp [Nat.add_assoc],q2⟩
      ·obtain ⟨q1,q2⟩:=had2 e n z es ho
       rw [q1,(add_add _ _).2 rfl]
       exact ⟨by simp [Nat.add_assoc],q2⟩
     ·rename_i cs hv
      rw [hv] at hx
      simp only [Tree.eval,Option.some.injEq] at h
      subst h
      simp only [RV] at hx
      obtain ⟨ad,hax,had⟩:=hx
      refine runsR_pure hr (run_next (hrun ad hax)) ?_
      simp only [RV]
      refine ⟨_,rfl,fun j c hj=> ?_⟩
      rw [List.getElem?_drop] at hj
      obtain ⟨q1,q2,u,q3,q4⟩:=had _ c hj
      rw [(add_add _ _).2 q2]
      exact ⟨q1,rfl,u,by rw [←q3];simp [Nat.add_assoc],q4⟩
     ·exact (stuck_none h).elim
   ·exact (stuck_none h).elim
  ·exact (stuck_none h).elim
 case field t x f=>
  split at h
  ·rename_i fs hu
   split at h
   ·rename_i fd hf
    split at h
    ·rename_i hd
     obtain ⟨D,hD⟩:=Option.isSome_iff_exists.1 hd
     have hx:=opd_ok (P:=P) hr.ob.tab hr.fr t x
     simp only [stepP] at h
     split at h
     ·rename_i ds hv
      rw [hv] at hx
      obtain ⟨v,h1,rfl⟩:=out_eval h
      have hx':=RVd hx
      generalize hz:a.eval x=z at hx'
      cases hx' with
      | agg _ vs hl hrd=>
       obtain ⟨q1,q2,q3⟩:=cellsD_ok (P:=P) (w:=w) (Y:=Ys X β ob) (β:=β) (ob:=ob) (t:=fd.type) (us:=vs.drop fd.offset) (cs:=ds.drop fd.offset)
        ⟨by simp [hl],fun j c u hc hu'=>hrd (fd.offset+j) c u (by rw [←List.getElem?_drop];exact hc) (by rw [←List.getElem?_drop];exact hu')⟩ h1
       refine runsR_pure hr (run_next ?_) q3
       have hpart:=part_run' (P:=P) (w:=w) (cs:=vs) (off:=fd.offset) hD ?_ (by rw [←hD];exact q2)
       ·simp only [Instr.field,Sem.run_bind,run_underlying hu,Result.andThen_ok,hf,asAgg,Sem.run_pure]
        exact hpart
       ·intro hag;have:=q2 (by rw [hD];exact hag);rw [List.length_drop] at q1;omega
     ·rename_i ds hv
      rw [hv] at hx
      obtain ⟨v,h1,rfl⟩:=out_eval h
      simp only [RV] at hx
      obtain ⟨vs,hax,hl⟩:=hx
      obtain ⟨q1,q2,q3⟩:=cellsV_ok (P:=P) (t:=fd.type) (hl.drop fd.offset) h1
      refine runsR_pure hr (run_next ?_) q3
      rw [hax]
      have hpart:=part_run' (P:=P) (w:=w) (cs:=vs.toList) (off:=fd.offset) hD ?_ (by rw [←hD];exact q2)
      ·simp only [Instr.field,Sem.run_bind,run_underlying hu,Result.andThen_ok,hf,asAgg,Sem.run_pure]
       exact hpart
      ·intro hag;have:=q2 (by rw [hD];exact hag);rw [List.length_drop] at q1;omega
     ·exact (stuck_none h).elim
    ·exact (stuck_none h).elim
   ·exact (stuck_none h).elim
  ·exact (stuck_none h).elim
 case indexAddr t x i=>
  split at h
  ·rename_i e hu
   split at h
   ·rename_i s hs
    simp only [stepP] at h
    obtain ⟨v,h1,rfl⟩:=out_eval h
    obtain ⟨z,hz,hv⟩:=ixSV_ok (P:=P) hu hs hr.ob (opd_ok hr.ob.tab hr.fr t x) (opd_ok hr.ob.tab hr.fr 0 i) h1
    exact runsR_pure hr (run_next hz) hv
   ·exact (stuck_none h).elim
  ·rename_i n e hu
   split at h
   ·rename_i s hs
    simp only [stepP] at h
    obtain ⟨v,h1,rfl⟩:=out_eval h
    obtain ⟨z,hz,hv⟩:=ixPV_ok (P:=P) hu hs hr.ob (opd_ok hr.ob.tab hr.fr 0 x) (opd_ok hr.ob.tab hr.fr 0 i) h1
    exact runsR_pure hr (run_next hz) hv
   ·exact (stuck_none h).elim
  ·exact (stuck_none h).elim
 case index t x i=>
  split at h
  ·rename_i hu
   simp only [stepP] at h
   obtain ⟨v,h1,rfl⟩:=out_eval h
   obtain ⟨z,hz,hv⟩:=ixStrV_ok (P:=P) hu (opd_ok hr.ob.tab hr.fr t x) (opd_ok hr.ob.tab hr.fr 0 i) h1
   exact runsR_pure hr (run_next hz) hv
  ·rename_i n e hu
   split at h
   ·rename_i s hs
    simp only [stepP] at h
    obtain ⟨v,h1,rfl⟩:=out_eval h
    obtain ⟨z,hz,hv⟩:=ixArrV_ok (P:=P) hu hs (fun D hD=>shT_agg (sh_ok hs).2.2.2 hD) (opd_ok hr.ob.tab hr.fr t x) (opd_ok hr.ob.tab hr.fr 0 i) h1
    exact runsR_pure hr (run_next hz) hv
   ·exact (stuck_none h).elim
  ·exact (stuck_none h).elim
 case extract x i=>
  simp only [stepP] at h
  have hx:=opd_ok (P:=P) hr.ob.tab hr.fr 0 x
  split at h
  ·rename_i vs hv
   rw [hv] at hx
   split at h
   ·rename_i v hvi
    simp only [Tree.eval,Option.some.injEq] at h
    subst h
    simp only [RV] at hx
    obtain ⟨us,hax,hl⟩:=hx
    have hlen:=hl.length
    have hi:i<vs.length:=(List.getElem?_eq_some_iff.1 hvi).1
    have hui:us.toList[i]? =some us.toList[i]:=List.getElem?_eq_getElem (by omega)
    refine runsR_pure hr (u:=us.toList[i]) (run_next ?_) (hl.get i hvi hui)
    rw [hax]
    have:us[i]? =some us.toList[i]:=by rw [←hui];simp
    simp [Instr.extract,this]
   ·exact (stuck_none h).elim
  ·exact (stuck_none h).elim
 case call c=>
  split at h
  ·split at h
   ·simp only [stepP] at h
    exact (stuck_none h).elim
   ·exact (stuck_none h).elim
  ·rename_i b hb
   have hrd':isReader (cBuiltin P b c.argTypes.toList c.args.toList)=true:=by simpa [hb] using hrd
   have key: ∀cs,RunsR P w X β ob a (builtin b c.argTypes o.type cs (c.args.map a.eval)) r:=fun cs=>cBuiltinR_ok (P:=P) (consts:=cs) hr hrd' h
   refine RunsR.congr ?_ (key (c.args.map fun | .const _=>true | _=>false))
   simp only [resolve,hb,invoke,Sem.run_bind,Sem.run_pure,Result.andThen_ok]
   rfl
  ·exact (stuck_none h).elim
 case makeMap t r0=>
  exfalso
  revert hrd
  cases r0
  all_goals try simp only
  all_goals repeat' split
  all_goals simp [isReader]
 case mapUpdate t m k v=>
  exfalso
  revert hrd
  repeat' split
  all_goals simp [isReader]
 case insert t m k v=>
  exfalso
  revert hrd
  repeat' split
  all_goals simp [isReader]
 case range t x=>
  exfalso
  revert hrd
  repeat' split
  all_goals simp [isReader]
 case next x s=>
  exfalso
  revert hrd
  cases s
  all_goals try simp only
  all_goals repeat' split
  all_goals simp [isReader]
 case lookup t m k ok=>
  split at h
  ·rename_i kt e hu
   split at h
   ·rename_i a1 b1 z1 hk hb hz
    split at h
    ·rename_i hks
     simp only [Bool.and_eq_true] at hks
     obtain ⟨v,z,hrun,hv,rfl⟩:=mapGet_ok (P:=P) hr hu hk hks.1 hz hks.2 h
     exact runsR_pure hr (run_next hrun) hv
    ·exact (stuck_none h).elim
   ·exact (stuck_none h).elim
  ·exact (stuck_none h).elim
 all_goals exact (stuck_none h).elim
end
section
variable {P:Program} {w w':World} {X Y Y':Nat→Prop} {β β':Nat→Pl} {ob ob':Obs} {a:Act} {st st':St} {fr:List V} {ro:Option Nat} {N:Nat}
theorem sees_ok{args:List V}{us:List Value}{ids:List Nat}(hr:RelO P w X β ob)(hargs:RVL w (Ys X β ob) β ob args us)(hnd:ids.Nodup):
  ∃(Xc:Nat→Prop) (βc:Nat→Pl),RelO P w Xc βc (takeObs ob (indexIn ids 0) ids 0)∧RVL w (Ys Xc βc (takeObs ob (indexIn ids 0) ids 0)) βc (takeObs ob (indexIn ids 0) ids 0) (V.renL (indexIn ids 0) args) us∧(∀b,Xc b→X b∨Owned β ob b)∧
   ∀v u,RV w (Ys Xc βc (takeObs ob (indexIn ids 0) ids 0)) βc (takeObs ob (indexIn ids 0) ids 0) v u→RV w (Ys X β ob) β ob (v.ren (nthId ids)) u:=by
 obtain ⟨r,hrd⟩: ∃r,r=indexIn ids 0:=⟨_,rfl⟩
 rw [←hrd]
 obtain ⟨obc,hobc⟩: ∃obc,obc=takeObs ob r ids 0:=⟨_,rfl⟩
 rw [←hobc]
 obtain ⟨βc,hβc⟩: ∃βc:Nat→Pl,βc=fun k=>match ids[k]? with | some i=>β i | none=> .nil:=⟨_,rfl⟩
 have getc: ∀m,obc.get m=(ids[m]?).bind fun i=>(ob.get i).map (Obj.ren r):=by
  intro m;rw [hobc,get_take];simp
 have oldc: ∀k o',obc.get k=some o'→ ∃i o,ids[k]? =some i∧ob.get i=some o∧o'=o.ren r∧βc k=β i:=by
  intro k o' hg
  rw [getc] at hg
  cases hk:ids[k]? with
  | none=>simp [hk] at hg
  | some i=>
   cases ho:ob.get i with
   | none=>simp [hk,ho] at hg
   | some o=>
    simp only [hk,Option.bind_some,ho,Option.map_some,Option.some.injEq] at hg
    exact ⟨i,o,rfl,ho,hg.symm,by rw [hβc];simp only [hk]⟩
 have hsc: ∀id id',r id=some id'→ ∀o',obc.get id'=some o'→ ∃o,ob.get id=some o∧βc id'=β id∧o.like o':=by
  intro id id' hid o' ho'
  rw [hrd] at hid
  obtain ⟨j,h1,h3⟩:=indexIn_some hid
  have:j=id':=by omega
  subst this
  obtain ⟨i,o,e1,e2,e3,e4⟩:=oldc _ o' ho'
  rw [h3] at e1
  cases e1
  exact ⟨o,e2,e4,by rw [e3];exact ren_like _ _⟩
 have ownc': ∀bl,Owned βc obc bl→Owned β ob bl:=by
  rintro bl ⟨k,o',c,hg,hf,hp⟩
  obtain ⟨i,o,e1,e2,e3,e4⟩:=oldc k o' hg
  exact ⟨i,o,c,e2,by rw [e3,ren_frozen] at hf;exact hf,by rw [←e4];exact hp⟩
 obtain ⟨Xc,hXc⟩: ∃Xc:Nat→Prop,Xc=fun bl=>X bl∨(Owned β ob bl∧ ¬Owned βc obc bl):=⟨_,rfl⟩
 have hYc: ∀bl,Ys Xc βc obc bl→Ys X β ob bl:=by
  rintro bl (hx | ho)
  ·rw [hXc] at hx
   rcases hx with hx | hx
   ·exact .inl hx
   ·exact .inr hx.1
  ·exact .inr (ownc' bl ho)
 have hYb: ∀bl,Ys X β ob bl→Ys Xc βc obc bl:=by
  rintro bl (hx | ho)
  ·exact .inl (by rw [hXc];exact .inl hx)
  ·by_cases hc:Owned βc obc bl
   ·exact .inr hc
   ·exact .inl (by rw [hXc];exact .inr ⟨ho,hc⟩)
 have notXc: ∀i o bl c,i∈ids→ob.get i=some o→β i= .blk bl c→ ¬Xc bl:=by
  intro i o bl c hi ho hp hx
  rw [hXc] at hx
  rcases hx with hx | ⟨hx,hn⟩
  ·exact hr.notX i o bl c ho hp hx
  ·obtain ⟨j,oj,cj,g1,g2,g3⟩:=hx
   have:=hr.inj j i oj o bl cj c g1 ho g3 hp g2
   subst this
   obtain ⟨k,hk⟩:=List.getElem?_of_mem hi
   refine hn ⟨k,oj.ren r,cj,?_,by rw [ren_frozen];exact g2,by rw [hβc];simp only [hk];exact g3⟩
   rw [getc,hk];simp [g1]
 refine ⟨Xc,βc,?_,RVL.ren (fun bl _ h=>hYc bl h) hsc _ _ hargs,(fun bl hx=>by rw [hXc] at hx;exact hx.imp id fun h=>h.1),?_⟩
 ·refine ⟨?_,?_,?_,?_,hr.tab.keep (Nat.le_refl _) (fun _ _ _=>rfl) (fun bl _ h=>hYc bl h)⟩
  ·intro k o' hg
   obtain ⟨i,o,e1,e2,e3,e4⟩:=oldc k o' hg
   rw [e3,e4]
   exact (hr.obj i o e2).ren (fun bl _ h=>hYc bl h) hsc
  ·intro k k' o o' bl c c' h1 h2 h3 h4 hf
   obtain ⟨i,p,e1,e2,e3,e4⟩:=oldc k o h1
   obtain ⟨i',p',e1',e2',e3',e4'⟩:=oldc k' o' h2
   have:=hr.inj i i' p p' bl c c' e2 e2' (by rw [←e4];exact h3) (by rw [←e4'];exact h4) (by rw [e3,ren_frozen] at hf;exact hf)
   subst this
   obtain ⟨a1,a2⟩:=List.getElem?_eq_some_iff.1 e1
   obtain ⟨b1,b2⟩:=List.getElem?_eq_some_iff.1 e1'
   exact (List.getElem_inj hnd).1 (a2.trans b2.symm)
  ·intro k o bl c h1 h2
   obtain ⟨i,p,e1,e2,e3,e4⟩:=oldc k o h1
   exact notXc i p bl c (List.mem_of_getElem? e1) e2 (by rw [←e4];exact h2)
  ·intro bl hx
   rw [hXc] at hx
   rcases hx with hx | ⟨⟨j,oj,cj,g1,g2,g3⟩,_⟩
   ·exact hr.xlt bl hx
   ·exact (hr.obj j oj g1).lt g3
 ·intro v u hv
  refine RV.ren (fun bl _ h=>hYb bl h) ?_ v u hv
  intro id id' hid o' ho'
  rw [nthId_get] at hid
  exact ⟨o'.ren r,by rw [getc,hid];simp [ho'],by rw [hβc];simp only [hid],like_symm (ren_like _ _)⟩
theorem stepV_plain{E:Env}{cf:CallF}{op:AOp}(h: ∀f zas,op≠ .call f zas):stepV E cf op fr ob=(stepP op 64 fr ob).bind fun r=> .ret (r.v,(St.kill r.kl ⟨fr,r.ob⟩).ob):=by
 unfold stepV
 cases hop:op
 case call f zas=>exact (h f zas hop).elim
 all_goals rfl
theorem stepV_ok{E:Env}{cf:CallF}(hC:CallOK P E cf){o:Oper}{v:V}{Q:Exit→Act→World→Prop}{K:Act→World→Prop}(hr:Rel P w X β ⟨fr,ob⟩ a)
  (h:(stepV E cf (cOp P o) fr ob).eval=some (v,ob')) (hK: ∀w' u β',Came P w w' X β β' ob ob' v u→K (a.put o.dst u) w'):o.wpIn (wideAt ro) N P a w K Q:=by
 refine ⟨fun _ _=>trivial,?_⟩
 by_cases hc: ∃f zas,cOp P o= .call f zas
 ·obtain ⟨f,zas,hc⟩:=hc
  obtain ⟨c,fv,hop,hcal,rfl,rfl,hlen⟩:=cOp_call hc
  simp only [stepV,hc] at h
  have hf:=opd_ok (P:=P) hr.ob.tab hr.fr 0 fv
  split at h
  ·rename_i g zas caps hv
   rw [hv] at hf
   simp only [RV] at hf
   obtain ⟨us,vs,hev,h1,h2⟩:=hf
   obtain ⟨⟨r,st1⟩,e1,e2⟩:=Tree.bind_eval.1 h
   simp only [Tree.eval,Option.some.injEq,Prod.mk.injEq] at e2
   obtain ⟨rfl,rfl⟩:=e2
   have hargs:RVL w (Ys X β ob) β ob (zas++opds fr (cOpds P c.argTypes.toList c.args.toList)++caps) (us++c.args.map a.eval++vs).toList:=by
    have:=opds_args (P:=P) hr.ob.tab hr.fr c.argTypes.toList c.args.toList (by simpa using hlen)
    simpa using (h1.append this).append h2
   have hinv:=hC.fn g _ ⟨fr,ob⟩ r st1 64 (Nat.le_refl _) e1 w X β a _ hr hargs
   have hrun:(execOp a.eval o).run P w=(callFunc g (us++c.args.map a.eval++vs)).run P w:=by
    unfold execOp
    simp only [hop,resolve,hcal,hev,Deferred.ofValue,Sem.run_bind,Sem.run_pure,Result.andThen_ok,invoke]
   have fin: ∀u w',(∃β',Goes P w w' X β β' ob st1 a∧RV w' (Ys X β' st1.ob) β' st1.ob r u)→K (a.put o.dst u) w':=by
    rintro u w' ⟨β',hg,hv⟩
    exact hK w' u β' ⟨hg.rel.ob,hv,hg.keep,hg.own,hg.stay⟩
   rw [Oper.semAt_eq _ _ _ (fun c' he=>by rw [hop] at he;cases he),hrun]
   rcases hinv with ⟨hen,hcl⟩ | ⟨u,w',hen,hR⟩
   ·rw [hen,Oper.uponIn_enter]
    refine ⟨(fun hd=>by cases hd),?_⟩
    refine callsIn_wide.2 (Calls.mono hcl ?_)
    rintro e w' ⟨u,rfl,hR⟩
    exact fin u w' hR
   ·rw [hen,Oper.uponIn_value]
    exact fin u w' hR
  ·rename_i id hv
   rw [hv] at hf
   have hf0:=hf
   simp only [RV] at hf
   obtain ⟨l,hev,-⟩:=hf
   obtain ⟨⟨r,st1⟩,e1,e2⟩:=Tree.bind_eval.1 h
   simp only [Tree.eval,Option.some.injEq,Prod.mk.injEq] at e2
   obtain ⟨rfl,rfl⟩:=e2
   have hargs:RVL w (Ys X β ob) β ob (.yl id :: opds fr (cOpds P c.argTypes.toList c.args.toList)) (a.eval fv :: (c.args.map a.eval).toList):=by
    have:=opds_args (P:=P) hr.ob.tab hr.fr c.argTypes.toList c.args.toList (by simpa using hlen)
    simp only [RVL]
    exact ⟨hf0,by simpa using this⟩
   obtain ⟨l',rest,fn,tmps,assign,body,hus,hy,hround⟩:=hC.yl _ ⟨fr,ob⟩ r st1 64 (Nat.le_refl _) e1 w X β a _ hr hargs
   rw [hev] at hus
   injection hus with hl hrest
   injection hl with hl
   injection hl with hl
   subst hl
   have hrun:(execOp a.eval o).run P w=(Instr.yield l (c.args.map a.eval)).run P w:=by
    unfold execOp
    simp only [hop,resolve,hcal,hev,Deferred.ofValue,Sem.run_bind,Sem.run_pure,Result.andThen_ok,invoke]
    simp
   rw [←hrest] at hy
   rw [Oper.semAt_eq _ _ _ (fun c' he=>by rw [hop] at he;cases he),hrun]
   have hy':(Instr.yield l (c.args.map a.eval)).run P w= .ok (.round l fn tmps assign body) w:=by
    rw [Array.toArray_toList] at hy
    exact hy
   rw [hy',Oper.uponIn_round]
   refine ⟨(fun hd=>by cases hd),?_⟩
   refine (hround (N - 1)).mono ?_
   rintro e w' ⟨u,rfl,β',hg,hv⟩
   exact hK w' u β' ⟨hg.rel.ob,hv,hg.keep,hg.own,hg.stay⟩
  ·exact (stuck_none h).elim
 ·rw [stepV_plain (fun f zas he=>hc ⟨f,zas,he⟩)] at h
  obtain ⟨r,e1,e2⟩:=Tree.bind_eval.1 h
  simp only [Tree.eval,Option.some.injEq,Prod.mk.injEq] at e2
  obtain ⟨rfl,rfl⟩:=e2
  obtain ⟨n,u,w1,β1,hrun,hn,hg⟩:=stepP_ok (P:=P) hr (Nat.le_refl 64) e1
  have hk':K (a.put o.dst u) w1:=hK w1 u β1 ⟨hg.rel.ob,hg.val,hg.keep,hg.own,hg.stay⟩
  rw [Oper.semAt_eq _ _ _ (fun c' he=>by
   have hb:cOp P o= .bad 0∨ ∃k,cOp P o= .bad k:=by unfold cOp;rw [he];exact .inr ⟨_,rfl⟩
   rcases hb with hb | ⟨k,hb⟩ <;> (rw [hb] at e1;simp [stepP,Tree.eval] at e1)),hrun]
  rcases hn with rfl | ⟨rfl,rfl⟩
  ·exact hk'
  ·exact hk'
theorem roStep_ok{E:Env}(hG: ∀g C,E.con g=some (.gen true C)→FnOK P g (roC C)){o:Oper}{v:V}{Q:Exit→Act→World→Prop}{K:Act→World→Prop}(hr:Rel P w X β ⟨fr,ob⟩ a)
  (h:(roStep E (cOp P o) fr ob).eval=some (v,ob')) (hK: ∀w' u β',Came P w w' X β β' ob ob' v u→K (a.put o.dst u) w'):o.wpIn (wideAt ro) N P a w K Q:=by
 refine ⟨fun _ _=>trivial,?_⟩
 unfold roStep at h
 split at h
 ·rename_i f zas hc
  obtain ⟨c,fv,hop,hcal,rfl,rfl,hlen⟩:=cOp_call hc
  have hf:=opd_ok (P:=P) hr.ob.tab hr.fr 0 fv
  split at h
  ·rename_i g xs caps hv
   rw [hv] at hf
   simp only [RV] at hf
   obtain ⟨us,vs,hev,h1,h2⟩:=hf
   split at h
   ·exact (stuck_none h).elim
   rename_i hyn
   have hyn':g≠yNo:=fun he=>hyn (by rw [he];exact Nat.beq_refl _)
   split at h
   ·rename_i C hcon
    have hargs:RVL w (Ys X β ob) β ob (xs++opds fr (cOpds P c.argTypes.toList c.args.toList)++caps) (us++c.args.map a.eval++vs).toList:=by
     have:=opds_args (P:=P) hr.ob.tab hr.fr c.argTypes.toList c.args.toList (by simpa using hlen)
     simpa using (h1.append this).append h2
    have hinv:=hG g C hcon hyn' _ ob v ob' h w X β (us++c.args.map a.eval++vs) hr.ob hargs
    have hrun:(execOp a.eval o).run P w=(callFunc g (us++c.args.map a.eval++vs)).run P w:=by
     unfold execOp
     simp only [hop,resolve,hcal,hev,Deferred.ofValue,Sem.run_bind,Sem.run_pure,Result.andThen_ok,invoke]
    rw [Oper.semAt_eq _ _ _ (fun c' he=>by rw [hop] at he;cases he),hrun]
    rcases hinv with ⟨hen,hcl⟩ | ⟨u,w',hen,hR⟩
    ·rw [hen,Oper.uponIn_enter]
     refine ⟨(fun hd=>by cases hd),?_⟩
     refine callsIn_wide.2 (Calls.mono hcl ?_)
     rintro e w' ⟨u,rfl,β',hR⟩
     exact hK w' u β' hR
    ·rw [hen,Oper.uponIn_value]
     obtain ⟨β',hR⟩:=hR
     exact hK w' u β' hR
   ·exact (stuck_none h).elim
  ·exact (stuck_none h).elim
 ·exact (stuck_none h).elim
theorem roStep_same{E:Env}{op:AOp}{v:V}(h:(roStep E op fr ob).eval=some (v,ob')):ob'=ob:=by
 unfold roStep at h
 split at h
 ·split at h
  ·split at h
   ·exact (stuck_none h).elim
   split at h
   ·obtain ⟨p,-,h2⟩:=Tree.bind_eval.1 h
    simp only [Tree.eval,Option.some.injEq,Prod.mk.injEq] at h2
    exact h2.2.symm
   ·exact (stuck_none h).elim
  ·exact (stuck_none h).elim
 ·exact (stuck_none h).elim
theorem plainV_back{o1:Obs}{ids:List Nat}{v:V}(hnd:ids.Nodup)(ho: ∀k i,ids[k]? =some i→o1.get k=(ob.get i).map (Obj.ren (indexIn ids 0)))(hp:plainV ob ids v=true)(r2:Nat→Option Nat)(hr2: ∀k i,ids[k]? =some i→r2 k=some i):
  ((v.ren (indexIn ids 0)).res o1).ren r2=v:=by
 have key: ∀id,ids.contains id=true→ ∃k,indexIn ids 0 id=some k∧ids[k]? =some id:=by
  intro id hid
  have hm:id∈ids:=by simpa using hid
  obtain ⟨k,hk,hkk⟩:=List.mem_iff_getElem.1 hm
  have h1:ids[k]? =some id:=by rw [List.getElem?_eq_getElem hk,hkk]
  exact ⟨k,by have:=indexIn_get hnd (k:=0) h1;simpa using this,h1⟩
 cases v with
 | d x=>rfl
 | rp cs=>rfl
 | cap0 e=>rfl
 | ptr id off=>
  obtain ⟨k,h1,h2⟩:=key id hp
  simp only [V.ren,h1,V.res,hr2 k id h2]
 | ep id i off=>
  obtain ⟨k,h1,h2⟩:=key id hp
  simp only [V.ren,h1,V.res,hr2 k id h2]
 | sla id i off=>
  obtain ⟨k,h1,h2⟩:=key id hp
  simp only [V.ren,h1,V.res,hr2 k id h2]
 | own id=>
  simp only [plainV,Bool.and_eq_true,Bool.not_eq_true'] at hp
  obtain ⟨k,h1,h2⟩:=key id hp.1
  simp only [V.ren,h1,V.res]
  rw [ho k id h2]
  have hz:=hp.2
  unfold fzAt at hz
  cases hg:ob.get id with
  | none=>simp only [Option.map_none,V.ren,hr2 k id h2]
  | some o=>
   rw [hg] at hz
   cases o with
   | lst e n m z es=>
    simp only at hz
    subst hz
    simp only [Option.map_some,Obj.ren,V.ren,hr2 k id h2]
   | _=>simp only [Option.map_some,Obj.ren,V.ren,hr2 k id h2]
 | any=>cases hp
 | agg cs=>cases hp
 | tup vs=>cases hp
 | mp id=>cases hp
 | yl id=>cases hp
 | fn f a c=>cases hp
 | ifc t v=>cases hp
theorem plainL_back{o1:Obs}{ids:List Nat}(hnd:ids.Nodup)(ho: ∀k i,ids[k]? =some i→o1.get k=(ob.get i).map (Obj.ren (indexIn ids 0)))(r2:Nat→Option Nat)(hr2: ∀k i,ids[k]? =some i→r2 k=some i):
  ∀{vs:List V},plainL ob ids vs=true→V.renL r2 (V.resL o1 (V.renL (indexIn ids 0) vs))=vs
 | [],_=>rfl
 | v :: vs,hp=>by
  simp only [plainL,Bool.and_eq_true] at hp
  simp only [V.renL,V.resL,plainV_back hnd ho hp.1 r2 hr2,plainL_back hnd ho r2 hr2 hp.2]
theorem plainAt_at{ids:List Nat}: ∀{l:List Nat},plainAt ob ids l=true→ ∀i∈l,∀cs,ob.get i=some (.box cs)→plainL ob ids cs=true
 | [],_,i,hi,_,_=>by simp at hi
 | j :: l,hp,i,hi,cs,hg=>by
  simp only [plainAt,Bool.and_eq_true] at hp
  rcases List.mem_cons.1 hi with rfl | hi
  ·have:=hp.1
   rw [hg] at this
   exact this
  ·exact plainAt_at hp.2 i hi cs hg
theorem plainAt_loop{ids:List Nat}: ∀{l:List Nat},plainAt ob ids l=true→ ∀i∈l,∀ps a c fr s pe,ob.get i≠some (.loop ps a c fr s pe)
 | [],_,i,hi,_,_,_,_,_,_=>by simp at hi
 | j :: l,hp,i,hi,ps,a,c,fr,s,pe=>by
  simp only [plainAt,Bool.and_eq_true] at hp
  rcases List.mem_cons.1 hi with rfl | hi
  ·intro hg
   have:=hp.1
   rw [hg] at this
   exact Bool.false_ne_true this
  ·exact plainAt_loop hp.2 i hi ps a c fr s pe
theorem backs_length(o1:Obs)(r:Nat→Option Nat)(ob:Obs): ∀(l:List Nat) (k:Nat),(backs o1 r ob l k).length=l.length
 | [],_=>rfl
 | i :: l,k=>by simp only [backs,List.length_cons,backs_length o1 r ob l (k+1)]
theorem news_length(o1:Obs)(r:Nat→Option Nat)(b:Nat): ∀(l:List Nat) (k:Nat),(news o1 r b l k).length=l.length
 | [],_=>rfl
 | i :: l,k=>by simp only [news,List.length_cons,news_length o1 r b l (k+1)]
theorem callD_same{C:List V→Obs→Tree (V×Obs)}{base:Nat}{args:List V}{d:Delta}(h:(callD C base args ob).eval=some d)(hC: ∀args ob v ob',(C args ob).eval=some (v,ob')→ob'=ob)
  (hl:d.up.length=(reach ob 64 (V.idsL args) []).length) (hp:plainAt ob (reach ob 64 (V.idsL args) []) (reach ob 64 (V.idsL args) [])=true):Sub ob (Obs.puts d.up ob):=by
 unfold callD at h
 obtain ⟨ids,hids⟩: ∃ids,ids=reach ob 64 (V.idsL args) []:=⟨_,rfl⟩
 obtain ⟨hnd,hpres⟩:=reach_ok (ob:=ob) 64 (V.idsL args) [] (by simp) (by simp)
 simp only [←hids] at h hl hp hnd hpres
 split at h
 ·exact (stuck_none h).elim
 obtain ⟨⟨vc,o1⟩,h1,h2⟩:=Tree.bind_eval.1 h
 have ho1:=hC _ _ _ _ h1
 simp only at h2
 split at h2
 ·simp only [Tree.eval,Option.some.injEq] at h2
  have hup:d.up=backs (Obs.res o1 o1) (backOf ids (newOf ids.length (reach (Obs.res o1 o1) 64 ((vc.res o1).ids++upto ids.length) [])) (pickBase base ids)) ob ids 0++
    news (Obs.res o1 o1) (backOf ids (newOf ids.length (reach (Obs.res o1 o1) 64 ((vc.res o1).ids++upto ids.length) [])) (pickBase base ids)) (pickBase base ids) (newOf ids.length (reach (Obs.res o1 o1) 64 ((vc.res o1).ids++upto ids.length) [])) 0:=by rw [←h2]
  obtain ⟨back,hback⟩: ∃back,back=backOf ids (newOf ids.length (reach (Obs.res o1 o1) 64 ((vc.res o1).ids++upto ids.length) [])) (pickBase base ids):=⟨_,rfl⟩
  rw [←hback] at hup
  have hr2: ∀k i,ids[k]? =some i→back k=some i:=by
   intro k i hk
   have hlt:k<ids.length:=(List.getElem?_eq_some_iff.1 hk).1
   rw [hback]
   unfold backOf
   rw [if_pos (by simpa [Nat.blt] using Nat.ble_eq_true_of_le (Nat.succ_le_of_lt hlt)),nthId_get,hk]
  have hget: ∀k i,ids[k]? =some i→o1.get k=(ob.get i).map (Obj.ren (indexIn ids 0)):=by
   intro k i hk
   rw [ho1,get_take]
   simp [hk]
  intro i o hg
  rw [get_puts,hup,look_append,look_backs]
  cases hi:indexIn ids 0 i with
  | some k=>
   obtain ⟨j,hj1,hj2⟩:=indexIn_some hi
   have hjk:j=k:=by omega
   subst hjk
   simp only [Option.map_some]
   rw [get_res,hget j i hj2,hg]
   simp only [Option.map_some]
   have hpl:=plainAt_at hp i (by rw [← (List.getElem?_eq_some_iff.1 hj2).2];exact List.getElem_mem _)
   have hmv:movedAt ob i=o.moved:=by unfold movedAt;rw [hg]
   rw [hmv]
   cases o with
   | box cs=>
    simp only [Obj.ren,Obj.res,Obj.mark,plainL_back hnd hget back hr2 (hpl cs hg)]
   | lst e n m z es=>
    simp only [Obj.ren,Obj.res,Obj.mark,Obj.moved,Bool.or_false]
   | arr e n z es=>rfl
   | map ks vs kv=>rfl
   | sit s pos=>rfl
   | loop ps a c fr s pe=>exact (plainAt_loop hp i (by rw [← (List.getElem?_eq_some_iff.1 hj2).2];exact List.getElem_mem _) ps a c fr s pe hg).elim
  | none=>
   simp only [Option.map_none]
   rw [look_news]
   split
   ·rename_i hx
    exfalso
    have hlen:d.up.length=ids.length+(newOf ids.length (reach (Obs.res o1 o1) 64 ((vc.res o1).ids++upto ids.length) [])).length:=by
     rw [hup,List.length_append,backs_length,news_length]
    rw [hlen] at hl
    rw [if_neg (by omega)] at hx
    cases hx
   ·exact hg
 ·exact (stuck_none h2).elim
theorem blind_reader{op:AOp}(h:isBlind op=true):isReader op=true:=by
 cases op <;> simp [isBlind] at h <;> rfl
theorem blind_step{op:AOp}{b:Nat}{fr:List V}{q:Out}(ob:Obs)(hb:isBlind op=true)(h:(stepP op b fr []).eval=some q):(stepP op b fr ob).eval=some ⟨q.v,ob,[]⟩:=by
 cases op <;> simp [isBlind] at hb <;> simp only [stepP] at h ⊢
 case mv x=>
  simp only [Tree.eval,Option.some.injEq] at h ⊢
  subst h;rfl
 case pick c x y=>
  split at h
  ·rename_i t ht
   simp only [Tree.eval] at h ⊢
   cases t <;> simp only [Option.some.injEq] at h ⊢ <;> subst h <;> rfl
  ·simp [Tree.eval] at h
 case nilck x=>
  split at h <;> simp [Tree.eval] at h <;> subst h <;> rfl
 case fldA o x=>
  split at h <;> simp [Tree.eval] at h <;> subst h <;> rfl
 case fld o n ag x=>
  split at h
  ·obtain ⟨v,h1,rfl⟩:=out_eval h
   exact Tree.bind_eval.2 ⟨v,h1,rfl⟩
  ·obtain ⟨v,h1,rfl⟩:=out_eval h
   exact Tree.bind_eval.2 ⟨v,h1,rfl⟩
  ·simp [Tree.eval] at h
 case ext i x=>
  split at h
  ·split at h
   ·simp [Tree.eval] at h;subst h;rfl
   ·simp [Tree.eval] at h
  ·simp [Tree.eval] at h
theorem drawD_ok{E:Env}{cf:CallF}(hC:CallOK P E cf)(hG: ∀g C,E.con g=some (.gen true C)→FnOK P g (roC C)){o:Oper}{d:Delta}{sl:List Nat}{Q:Exit→Act→World→Prop}{K:Act→World→Prop}(hr:Rel P w X β st a)
  (h:(drawD E cf (cOp P o) o.dst (maskF sl 0 st.fr) st.ob).eval=some d)
  (hK: ∀w' β' a',Goes P w w' X β β' st.ob ⟨putT o.dst d.v (d.app st).fr,(d.app st).ob⟩ a'→K a' w'):o.wpIn (wideAt ro) N P a w K Q:=by
 have hm:=mask_rvl sl 0 _ _ hr.fr
 unfold drawD at h
 split at h
 ·rename_i hbl
  unfold blindD at h
  obtain ⟨q,h1,h2⟩:=Tree.bind_eval.1 h
  simp only [Tree.eval,Option.some.injEq] at h2
  subst h2
  obtain ⟨u,hrun,hv⟩:=stepR_ok (P:=P) (w:=w) (X:=X) (β:=β) (a:=a) (fr:=maskF sl 0 st.fr) (ob:=st.ob) ⟨hr.ob,hm,hr.df⟩ (blind_reader hbl) (blind_step st.ob hbl h1)
  refine ⟨fun _ _=>trivial,?_⟩
  rw [Oper.semAt_eq _ _ _ (fun c' he=>by
   have hb:cOp P o= .bad 0∨ ∃k,cOp P o= .bad k:=by unfold cOp;rw [he];exact .inr ⟨_,rfl⟩
   rcases hb with hb | ⟨k,hb⟩ <;> (rw [hb] at h1;simp [stepP,Tree.eval] at h1)),hrun,Oper.uponIn_value]
  refine hK w β _ ⟨?_,Keep.refl _ _,OwnIn.refl _ _ _,Stay.refl _ _⟩
  exact put_rel hr hv _
 split at h
 ·rename_i hrd
  unfold readD at h
  obtain ⟨q,h1,h2⟩:=Tree.bind_eval.1 h
  simp only [Tree.eval,Option.some.injEq] at h2
  subst h2
  obtain ⟨hnd,_⟩:=reach_ok (ob:=st.ob) 64 (V.idsL (maskF sl 0 st.fr)) [] (by simp) (by simp)
  obtain ⟨Xc,βc,s1,s2,ssub,s3⟩:=sees_ok hr.ob hm hnd
  obtain ⟨u,hrun,hv⟩:=stepR_ok (P:=P) (w:=w) (X:=Xc) (β:=βc) (a:=a) ⟨s1,s2,hr.df.sub hr.ob ssub⟩ hrd h1
  refine ⟨fun _ _=>trivial,?_⟩
  rw [Oper.semAt_eq _ _ _ (fun c' he=>by
   have hb:cOp P o= .bad 0∨ ∃k,cOp P o= .bad k:=by unfold cOp;rw [he];exact .inr ⟨_,rfl⟩
   rcases hb with hb | ⟨k,hb⟩ <;> (rw [hb] at h1;simp [stepP,Tree.eval] at h1)),hrun,Oper.uponIn_value]
  refine hK w β _ ⟨?_,Keep.refl _ _,OwnIn.refl _ _ _,Stay.refl _ _⟩
  exact put_rel hr (s3 _ _ hv) _
 ·split at h
  ·obtain ⟨d0,h1,h2⟩:=Tree.bind_eval.1 h
   unfold roD at h2
   simp only at h2
   split at h2
   ·rename_i x hkl hdv
    split at h2
    ·rename_i hb
     simp only [Bool.and_eq_true] at hb
     simp only [Tree.eval,Option.some.injEq] at h2
     subst h2
     have hs:=callD_same h1 (fun args ob v ob' hh=>roStep_same hh) (Nat.eq_of_beq_eq_true hb.1) hb.2
     obtain ⟨Xc,βc,args',obc,vc,o1,hrun,hrel,hra,hsub,hpost⟩:=callD_ok hr.ob (baseId_le o.dst) hm h1
     refine roStep_ok hG (fr:=args') (ob:=obc) ⟨hrel,hra,hr.df.sub hr.ob hsub⟩ hrun fun w' u β1 hcame=> ?_
     obtain ⟨β2,hg,hv⟩:=hpost w' u β1 hcame st.fr a hr
     have happ:d0.app ⟨st.fr,st.ob⟩=⟨st.fr,Obs.puts d0.up st.ob⟩:=by unfold Delta.app;rw [hkl];rfl
     rw [happ] at hg hv
     rw [hdv] at hv
     refine hK w' β2 _ ⟨?_,hg.keep,fun b hb=>hg.own b (hs.owned hb),fun i q hi hgq hmq=>hg.stay i q hi (hs i q hgq) hmq⟩
     have hrel':Rel P w' X β2 st a:=⟨hs.relO hg.rel.ob,hs.rvl hg.rel.fr,hg.rel.df⟩
     have hv':RV w' (Ys X β2 st.ob) β2 st.ob (.d x) u:=by
      have:=hs.rvl (vs:=[.d x]) (us:=[u]) (X:=X) (β:=β2) (w:=w') (by simp only [RVL];exact ⟨hv,trivial⟩)
      simp only [RVL] at this
      exact this.1
     exact put_rel hrel' hv' _
    ·exact (stuck_none h2).elim
   ·exact (stuck_none h2).elim
  ·obtain ⟨Xc,βc,args',obc,vc,o1,hrun,hrel,hra,hsub,hpost⟩:=callD_ok hr.ob (baseId_le o.dst) hm h
   refine stepV_ok hC (fr:=args') (ob:=obc) ⟨hrel,hra,hr.df.sub hr.ob hsub⟩ hrun fun w' u β1 hcame=> ?_
   obtain ⟨β2,hg,hv⟩:=hpost w' u β1 hcame st.fr a hr
   exact hK w' β2 _ ⟨put_rel hg.rel hv _,hg.keep,hg.own,hg.stay⟩
end
end Go.AM
