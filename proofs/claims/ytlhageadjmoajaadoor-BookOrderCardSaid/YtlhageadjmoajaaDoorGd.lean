/- Parts of the walk: AMDraw2, AMDraw3, AMDraw4, AMShut, AMCall, AMSpec, AMPure, AMSelf, I4, I6, Q1, S1, Q2, S2, Q3, S3, Q4, S4, S6, S8, S9, S10, S11, S14, Q17, S15, S15b, S20, S21z, QR1, SR0, QR2, La, Lb, Lc, SR1, Ld, SK2, SK3, QD9, M2a, M3. -/
import Derived.Test.YtlhageadjmoajaaDoorGc
import Derived.OrdersIn
import Derived.RangeFuncLeaves
import Derived.Conc.MuLone
import Derived.KernelRfl
set_option maxRecDepth 20000
namespace Go.AM
open Go
theorem killOf_not{K:List Nat}{id:Nat}(h:id∉K):killOf K id=none:=by
 unfold killOf;rw [if_neg (by simpa using h)]
theorem killOf_mem{K:List Nat}{id:Nat}(h:id∈K):killOf K id=some .any:=by
 unfold killOf;rw [if_pos (by simpa using h)]
mutual
theorem V.sub_noop{K:List Nat}: ∀(v:V),(∀id∈v.ids,id∉K)→v.sub (killOf K)=v
 | .any,_=>rfl
 | .d x,_=>rfl
 | .rp cs,_=>rfl
 | .cap0 e,_=>rfl
 | .agg cs,h=>by simp only [V.sub];rw [V.subL_noop cs (by simpa [V.ids] using h)]
 | .tup cs,h=>by simp only [V.sub];rw [V.subL_noop cs (by simpa [V.ids] using h)]
 | .fn f zas cs,h=>by
  simp only [V.ids,List.mem_append] at h
  simp only [V.sub]
  rw [V.subL_noop zas (fun i hi=>h i (.inl hi)),V.subL_noop cs (fun i hi=>h i (.inr hi))]
 | .ifc t x,h=>by simp only [V.sub];rw [V.sub_noop x (by simpa [V.ids] using h)]
 | .ptr id off,h=>by simp only [V.sub,killOf_not (h id (by simp [V.ids]))]
 | .ep id i off,h=>by simp only [V.sub,killOf_not (h id (by simp [V.ids]))]
 | .sla id i off,h=>by simp only [V.sub,killOf_not (h id (by simp [V.ids]))]
 | .own id,h=>by simp only [V.sub,killOf_not (h id (by simp [V.ids]))]
 | .mp id,h=>by simp only [V.sub,killOf_not (h id (by simp [V.ids]))]
 | .yl id,h=>by simp only [V.sub,killOf_not (h id (by simp [V.ids]))]
theorem V.subL_noop{K:List Nat}: ∀(vs:List V),(∀id∈V.idsL vs,id∉K)→V.subL (killOf K) vs=vs
 | [],_=>rfl
 | v :: vs,h=>by
  simp only [V.idsL,List.mem_append] at h
  simp only [V.subL]
  rw [V.sub_noop v (fun i hi=>h i (.inl hi)),V.subL_noop vs (fun i hi=>h i (.inr hi))]
end
mutual
theorem V.sub_comm{K L:List Nat}: ∀(v:V),(v.sub (killOf K)).sub (killOf L)=(v.sub (killOf L)).sub (killOf K)
 | .any=>rfl
 | .d x=>rfl
 | .rp cs=>rfl
 | .cap0 e=>rfl
 | .agg cs=>by simp only [V.sub];rw [V.subL_comm cs]
 | .tup cs=>by simp only [V.sub];rw [V.subL_comm cs]
 | .fn f zas cs=>by simp only [V.sub];rw [V.subL_comm zas,V.subL_comm cs]
 | .ifc t x=>by simp only [V.sub];rw [V.sub_comm x]
 | .ptr id off=>by
  by_cases h1:id∈K <;> by_cases h2:id∈L <;> simp [V.sub,killOf_mem,killOf_not,h1,h2]
 | .ep id i off=>by
  by_cases h1:id∈K <;> by_cases h2:id∈L <;> simp [V.sub,killOf_mem,killOf_not,h1,h2]
 | .sla id i off=>by
  by_cases h1:id∈K <;> by_cases h2:id∈L <;> simp [V.sub,killOf_mem,killOf_not,h1,h2]
 | .own id=>by
  by_cases h1:id∈K <;> by_cases h2:id∈L <;> simp [V.sub,killOf_mem,killOf_not,h1,h2]
 | .mp id=>by
  by_cases h1:id∈K <;> by_cases h2:id∈L <;> simp [V.sub,killOf_mem,killOf_not,h1,h2]
 | .yl id=>by
  by_cases h1:id∈K <;> by_cases h2:id∈L <;> simp [V.sub,killOf_mem,killOf_not,h1,h2]
theorem V.subL_comm{K L:List Nat}: ∀(vs:List V),V.subL (killOf L) (V.subL (killOf K) vs)=V.subL (killOf K) (V.subL (killOf L) vs)
 | []=>rfl
 | v :: vs=>by
  simp only [V.subL]
  rw [V.sub_comm v,V.subL_comm vs]
end
mutual
theorem V.sub_ids{K:List Nat}: ∀(v:V) (id:Nat),id∈(v.sub (killOf K)).ids→id∈v.ids
 | .any,_,h=>by simpa [V.sub] using h
 | .d x,_,h=>by simpa [V.sub] using h
 | .rp cs,_,h=>by simpa [V.sub] using h
 | .cap0 e,_,h=>by simpa [V.sub] using h
 | .agg cs,id,h=>by
  simp only [V.sub,V.ids] at h ⊢
  exact V.subL_ids cs id h
 | .tup cs,id,h=>by
  simp only [V.sub,V.ids] at h ⊢
  exact V.subL_ids cs id h
 | .fn f zas cs,id,h=>by
  simp only [V.sub,V.ids,List.mem_append] at h ⊢
  exact h.imp (V.subL_ids zas id) (V.subL_ids cs id)
 | .ifc t x,id,h=>by
  simp only [V.sub,V.ids] at h ⊢
  exact V.sub_ids x id h
 | .ptr i off,id,h=>by
  by_cases h1:i∈K <;> simp [V.sub,killOf_mem,killOf_not,h1,V.ids] at h ⊢
  exact h
 | .ep i j off,id,h=>by
  by_cases h1:i∈K <;> simp [V.sub,killOf_mem,killOf_not,h1,V.ids] at h ⊢
  exact h
 | .sla i j off,id,h=>by
  by_cases h1:i∈K <;> simp [V.sub,killOf_mem,killOf_not,h1,V.ids] at h ⊢
  exact h
 | .own i,id,h=>by
  by_cases h1:i∈K <;> simp [V.sub,killOf_mem,killOf_not,h1,V.ids] at h ⊢
  exact h
 | .mp i,id,h=>by
  by_cases h1:i∈K <;> simp [V.sub,killOf_mem,killOf_not,h1,V.ids] at h ⊢
  exact h
 | .yl i,id,h=>by
  by_cases h1:i∈K <;> simp [V.sub,killOf_mem,killOf_not,h1,V.ids] at h ⊢
  exact h
theorem V.subL_ids{K:List Nat}: ∀(vs:List V) (id:Nat),id∈V.idsL (V.subL (killOf K) vs)→id∈V.idsL vs
 | [],_,h=>by simpa [V.subL] using h
 | v :: vs,id,h=>by
  simp only [V.subL,V.idsL,List.mem_append] at h ⊢
  exact h.imp (V.sub_ids v id) (V.subL_ids vs id)
end
inductive Loc where
 | slot (s:Nat)
 | name (i:Nat)
inductive Cont where
 | v (x:V)
 | o (x:AM.Obj)
def Cont.ids:Cont→List Nat
 | .v x=>x.ids
 | .o x=>x.ids
def Cont.kill(K:List Nat):Cont→Cont
 | .v x=> .v (x.sub (killOf K))
 | .o x=> .o (x.sub (killOf K))
def cont(st:St):Loc→Option Cont
 | .slot s=>(st.fr[s]?).map .v
 | .name i=>(st.ob.get i).map .o
def tr(r:Rec):Loc→Option Cont→Option Cont
 | .slot s,c=>if r.dst=some s then c.map fun _=> .v r.d.v else c.map (Cont.kill r.d.kl)
 | .name i,c=>match look r.d.up i with
  | some x=>x.map .o
  | none=>c.map (Cont.kill r.d.kl)
theorem Cont.kill_noop{K:List Nat}(c:Cont)(h: ∀id∈c.ids,id∉K):c.kill K=c:=by
 cases c with
 | v x=>simp only [Cont.kill];rw [V.sub_noop x h]
 | o x=>
  cases x with
  | box cs=>simp only [Cont.kill,Obj.sub];rw [V.subL_noop cs h]
  | loop ps a c fr s pe=>simp only [Cont.kill,Obj.sub];rw [V.subL_noop fr h]
  | _=>rfl
theorem Cont.kill_comm{K L:List Nat}(c:Cont):(c.kill K).kill L=(c.kill L).kill K:=by
 cases c with
 | v x=>simp only [Cont.kill];rw [V.sub_comm x]
 | o x=>
  cases x with
  | box cs=>simp only [Cont.kill,Obj.sub];rw [V.subL_comm cs]
  | loop ps a c fr s pe=>simp only [Cont.kill,Obj.sub];rw [V.subL_comm fr]
  | _=>rfl
theorem Cont.kill_ids{K:List Nat}(c:Cont): ∀id∈(c.kill K).ids,id∈c.ids:=by
 cases c with
 | v x=>exact fun id h=>V.sub_ids x id h
 | o x=>
  cases x with
  | box cs=>exact fun id h=>V.subL_ids cs id h
  | loop ps a c fr s pe=>exact fun id h=>V.subL_ids fr id h
  | _=>exact fun id h=>h
theorem subL_get(r:Nat→Option V): ∀(vs:List V) (i:Nat),(V.subL r vs)[i]? =(vs[i]?).map (V.sub r)
 | [],i=>by simp [V.subL]
 | v :: vs,0=>by simp [V.subL]
 | v :: vs,i+1=>by simp [V.subL,subL_get r vs i]
theorem subL_length(r:Nat→Option V): ∀(vs:List V),(V.subL r vs).length=vs.length
 | []=>rfl
 | v :: vs=>by simp [V.subL,subL_length r vs]
theorem obsub_noop(r:Nat→Option V)(hr: ∀o:AM.Obj,o.sub r=o): ∀(ob:Obs),ob.sub r=ob
 | []=>rfl
 | (k,o) :: l=>by simp only [Obs.sub];rw [hr o,obsub_noop r hr l]
theorem kill_eq(K:List Nat)(st:St):st.kill K=⟨V.subL (killOf K) st.fr,st.ob.sub (killOf K)⟩:=by
 cases K with
 | cons i l=>rfl
 | nil=>
  have h1:V.subL (killOf []) st.fr=st.fr:=V.subL_noop _ (by simp)
  have h2:st.ob.sub (killOf [])=st.ob:=obsub_noop _ (fun o=>by
   have:=Cont.kill_noop (K:=[]) (.o o) (by simp)
   simpa [Cont.kill] using this) _
  rw [h1,h2];rfl
theorem cont_app(r:Rec)(st:St)(loc:Loc):cont (r.app st) loc=tr r loc (cont st loc):=by
 unfold Rec.app Delta.app
 simp only [kill_eq]
 cases loc with
 | slot s=>
  simp only [cont,tr]
  cases hd:r.dst with
  | none=>
   simp only [putT,subL_get,Option.map_map]
   rw [if_neg (by simp)]
   rfl
  | some d=>
   simp only [putT]
   by_cases he:d=s
   ·subst he
    rw [if_pos rfl,List.getElem?_set]
    rw [if_pos rfl,subL_length]
    by_cases hl:d<st.fr.length
    ·simp [hl]
    ·simp [hl]
   ·have hne: ¬(some d=some s):=fun h=>he (Option.some.inj h)
    rw [if_neg hne,List.getElem?_set,if_neg he,subL_get]
    simp only [Option.map_map]
    rfl
 | name i=>
  simp only [cont,tr]
  rw [get_puts]
  cases look r.d.up i with
  | some x=>rfl
  | none=>
   simp only [get_sub,Option.map_map]
   rfl
theorem app_length(r:Rec)(st:St):(r.app st).fr.length=st.fr.length:=by
 unfold Rec.app Delta.app
 simp only [kill_eq]
 cases r.dst <;> simp [putT,subL_length]
theorem cont_ext{st st':St}(h: ∀loc,cont st loc=cont st' loc):st.fr=st'.fr∧ ∀i,st.ob.get i=st'.ob.get i:=by
 constructor
 ·apply List.ext_getElem?
  intro s
  have:=h (.slot s)
  simp only [cont] at this
  cases h1:st.fr[s]? <;> cases h2:st'.fr[s]? <;> simp [h1,h2] at this
  ·rfl
  ·rw [this]
 ·intro i
  have:=h (.name i)
  simp only [cont] at this
  cases h1:st.ob.get i <;> cases h2:st'.ob.get i <;> simp [h1,h2] at this
  ·rfl
  ·rw [this]
theorem meets_false: ∀{l m:List Nat},meets l m=false→ ∀i∈l,i∉m
 | [],m,_,i,hi=>by simp at hi
 | x :: l,m,h,i,hi=>by
  simp only [meets,Bool.or_eq_false_iff] at h
  rcases List.mem_cons.1 hi with rfl | hi
  ·simpa using h.1
  ·exact meets_false h.2 i hi
theorem meets_true: ∀{l m:List Nat} {i:Nat},i∈l→i∈m→meets l m=true
 | [],m,i,hi,_=>by simp at hi
 | x :: l,m,i,hi,hm=>by
  simp only [meets,Bool.or_eq_true]
  rcases List.mem_cons.1 hi with rfl | hi
  ·exact .inl (by simpa using hm)
  ·exact .inr (meets_true hi hm)
theorem upKeys_look{l:List (Nat×Option AM.Obj)}{i:Nat}{x:Option AM.Obj}(h:look l i=some x):i∈upKeys l∧ ∀o,x=some o→ ∀id∈o.ids,id∈upIds l:=by
 induction l with
 | nil=>simp [look] at h
 | cons p l ih=>
  obtain ⟨k,y⟩:=p
  simp only [look] at h
  split at h
  ·rename_i hk
   subst hk
   cases h
   refine ⟨by simp [upKeys],?_⟩
   rintro o rfl id hid
   simp only [upIds,List.mem_append]
   exact .inl hid
  ·obtain ⟨h1,h2⟩:=ih h
   refine ⟨by simp [upKeys,h1],fun o ho id hid=> ?_⟩
   have:=h2 o ho id hid
   cases y <;> simp only [upIds,List.mem_append]
   ·exact this
   ·exact .inr this
theorem look_none{l:List (Nat×Option AM.Obj)}{i:Nat}(h:i∉upKeys l):look l i=none:=by
 cases hl:look l i with
 | none=>rfl
 | some x=>exact (h (upKeys_look hl).1).elim
structure Apart(p q:Rec)(rs:List Rec)(st:St):Prop where
 rd: ∀s,p.dst=some s→s∉q.rd
 dst: ∀s,p.dst=some s→q.dst≠some s
 K: ∀id∈p.d.kl,id∉q.D rs st
 U: ∀id∈upKeys p.d.up,id∉q.F++q.T
theorem apart1_ok{p q:Rec}{rs:List Rec}{st:St}(h:apart1 p q rs st=true):Apart p q rs st:=by
 unfold apart1 at h
 simp only [Bool.and_eq_true] at h
 obtain ⟨⟨h1,h2⟩,h3,h4⟩:=h
 refine ⟨?_,?_,?_,?_⟩
 ·intro s hs hm
  simp [isDst,hs,hm] at h1
 ·intro s hs hq
  rw [hs,hq] at h2
  simp at h2
 ·intro id hid
  split at h3
  ·rename_i ht;rw [ht] at hid;simp at hid
  ·have:meets p.d.kl (q.D rs st)=false:=by simpa using h3
   exact meets_false this id hid
 ·intro id hid
  split at h4
  ·rename_i ht;rw [ht] at hid;simp at hid
  ·have:meets (upKeys p.d.up) (q.F++q.T)=false:=by simpa using h4
   exact meets_false this id hid
theorem Rec.up_T{r:Rec}{id:Nat}(h:id∈upKeys r.d.up):id∈r.T:=List.mem_append_right _ h
theorem Rec.W_D{r:Rec}{rs:List Rec}{st:St}{id:Nat}(h:id∈r.W):id∈r.D rs st:=by simp [Rec.D,h]
theorem tr_comm{p q:Rec}{rs:List Rec}{st:St}(h1:Apart p q rs st)(h2:Apart q p rs st)(loc:Loc)(c:Option Cont):tr p loc (tr q loc c)=tr q loc (tr p loc c):=by
 cases loc with
 | slot s=>
  simp only [tr]
  by_cases hp:p.dst=some s
  ·have hq:=h1.dst s hp
   rw [if_pos hp,if_pos hp,if_neg hq,if_neg hq]
   simp only [Option.map_map]
   cases c with
   | none=>rfl
   | some c=>
    simp only [Option.map_some,Function.comp,Option.some.injEq]
    exact (Cont.kill_noop (.v p.d.v) (fun id hid hk=>h2.K id hk (Rec.W_D (List.mem_append_left _ hid)))).symm
  ·by_cases hq:q.dst=some s
   ·rw [if_neg hp,if_neg hp,if_pos hq,if_pos hq]
    simp only [Option.map_map]
    cases c with
    | none=>rfl
    | some c=>
     simp only [Option.map_some,Function.comp,Option.some.injEq]
     exact Cont.kill_noop (.v q.d.v) (fun id hid hk=>h1.K id hk (Rec.W_D (List.mem_append_left _ hid)))
   ·rw [if_neg hp,if_neg hp,if_neg hq,if_neg hq]
    simp only [Option.map_map]
    cases c with
    | none=>rfl
    | some c=>
     simp only [Option.map_some,Function.comp,Option.some.injEq]
     exact Cont.kill_comm c
 | name i=>
  simp only [tr]
  cases hp:look p.d.up i with
  | some x=>
   have hi:=(upKeys_look hp).1
   have hq:look q.d.up i=none:=look_none fun hq=>h1.U i hi (List.mem_append_right _ (Rec.up_T hq))
   simp only [hq]
   cases x with
   | none=>rfl
   | some o=>
    simp only [Option.map_some,Option.some.injEq]
    exact (Cont.kill_noop (.o o) (fun id hid hk=>h2.K id hk (Rec.W_D (List.mem_append_right _ ((upKeys_look hp).2 o rfl id hid))))).symm
  | none=>
   cases hq:look q.d.up i with
   | some x=>
    cases x with
    | none=>rfl
    | some o=>
     simp only [Option.map_some,Option.some.injEq]
     exact Cont.kill_noop (.o o) (fun id hid hk=>h1.K id hk (Rec.W_D (List.mem_append_right _ ((upKeys_look hq).2 o rfl id hid))))
   | none=>
    simp only [Option.map_map]
    cases c with
    | none=>rfl
    | some c=>
     simp only [Option.map_some,Function.comp,Option.some.injEq]
     exact Cont.kill_comm c
theorem shift(k j:Nat):k+(j+1)=k+1+j:=by omega
def foldR(L:Nat→Bool):Nat→List Rec→St→St
 | _,[],st=>st
 | k,r :: rs,st=>foldR L (k+1) rs (match L k with | true=>r.app st | false=>st)
def foldC(L:Nat→Bool)(loc:Loc):Nat→List Rec→Option Cont→Option Cont
 | _,[],c=>c
 | k,r :: rs,c=>foldC L loc (k+1) rs (match L k with | true=>tr r loc c | false=>c)
theorem cont_fold(L:Nat→Bool)(loc:Loc): ∀(rs:List Rec) (k:Nat) (st:St),cont (foldR L k rs st) loc=foldC L loc k rs (cont st loc)
 | [],k,st=>rfl
 | r :: rs,k,st=>by
  simp only [foldR,foldC]
  rw [cont_fold L loc rs (k+1)]
  cases L k
  ·rfl
  ·simp only [cont_app]
theorem fold_length(L:Nat→Bool): ∀(rs:List Rec) (k:Nat) (st:St),(foldR L k rs st).fr.length=st.fr.length
 | [],k,st=>rfl
 | r :: rs,k,st=>by
  simp only [foldR]
  rw [fold_length L rs (k+1)]
  cases L k
  ·rfl
  ·exact app_length r st
def Views(q:Rec):Loc→Prop
 | .slot s=>s∈q.rd
 | .name i=>i∈q.F
theorem hits_mem{q r:Rec}: ∀{rs:List Rec},r∈rs→(isDst r.dst q.rd||meets (upKeys r.d.up) q.F)=true→ ∀id∈r.W,id∈hits q rs
 | [],h,_,_,_=>by simp at h
 | x :: rs,h,hh,id,hid=>by
  simp only [hits]
  rcases List.mem_cons.1 h with rfl | h
  ·rw [if_pos hh];exact List.mem_append_left _ hid
  ·split
   ·exact List.mem_append_right _ (hits_mem h hh id hid)
   ·exact hits_mem h hh id hid
def Seen(q:Rec)(rs:List Rec)(st:St)(c:Option Cont):Prop:= ∀x,c=some x→ ∀id∈x.ids,id∈q.D rs st
theorem seen_tr{q r:Rec}{rs:List Rec}{st:St}{loc:Loc}{c:Option Cont}(hv:Views q loc)(hr:r∈rs)(h:Seen q rs st c):Seen q rs st (tr r loc c):=by
 have hit:(isDst r.dst q.rd||meets (upKeys r.d.up) q.F)=true→ ∀id∈r.W,id∈q.D rs st:=by
  intro hh id hid
  have:=hits_mem hr hh id hid
  simp [Rec.D,this]
 have kill:Seen q rs st (c.map (Cont.kill r.d.kl)):=by
  intro x hx id hid
  cases c with
  | none=>simp at hx
  | some y=>
   simp only [Option.map_some,Option.some.injEq] at hx
   subst hx
   exact h y rfl id (Cont.kill_ids y id hid)
 cases loc with
 | slot s=>
  simp only [tr]
  by_cases hd:r.dst=some s
  ·rw [if_pos hd]
   intro x hx id hid
   cases c with
   | none=>simp at hx
   | some y=>
    simp only [Option.map_some,Option.some.injEq] at hx
    subst hx
    refine hit ?_ id (List.mem_append_left _ hid)
    simp only [isDst,hd,Bool.or_eq_true]
    exact .inl (List.contains_iff_mem.2 hv)
  ·rw [if_neg hd];exact kill
 | name i=>
  simp only [tr]
  cases hl:look r.d.up i with
  | none=>exact kill
  | some x=>
   intro y hy id hid
   cases x with
   | none=>simp at hy
   | some o=>
    simp only [Option.map_some,Option.some.injEq] at hy
    subst hy
    obtain ⟨h1,h2⟩:=upKeys_look hl
    refine hit ?_ id (List.mem_append_right _ (h2 o rfl id hid))
    simp only [Bool.or_eq_true]
    exact .inr (meets_true h1 hv)
theorem tr_apart{p q:Rec}{rs:List Rec}{st:St}{loc:Loc}{c:Option Cont}(ha:Apart p q rs st)(hv:Views q loc)(h:Seen q rs st c):tr p loc c=c:=by
 have kill:c.map (Cont.kill p.d.kl)=c:=by
  cases c with
  | none=>rfl
  | some y=>
   simp only [Option.map_some,Option.some.injEq]
   exact Cont.kill_noop y (fun id hid hk=>ha.K id hk (h y rfl id hid))
 cases loc with
 | slot s=>
  simp only [tr]
  rw [if_neg (fun hd=>ha.rd s hd hv)]
  exact kill
 | name i=>
  simp only [tr]
  rw [look_none (fun hk=>ha.U i hk (List.mem_append_left _ hv))]
  exact kill
theorem fold_view{q:Rec}{rs0:List Rec}{st:St}{loc:Loc}{L M:Nat→Bool}(hv:Views q loc): ∀(rs:List Rec) (k:Nat) (c:Option Cont),(∀r∈rs,r∈rs0)→Seen q rs0 st c→
  (∀j r,rs[j]? =some r→L (k+j)≠M (k+j)→Apart r q rs0 st)→foldC L loc k rs c=foldC M loc k rs c
 | [],k,c,_,_,_=>rfl
 | r :: rs,k,c,hm,hs,h=>by
  have ih: ∀c',Seen q rs0 st c'→foldC L loc (k+1) rs c'=foldC M loc (k+1) rs c':=fun c' hs'=>
   fold_view hv rs (k+1) c' (fun r hr=>hm r (List.mem_cons_of_mem _ hr)) hs' (fun j r' hj hne=>h (j+1) r' (by simpa using hj) (by rw [shift];exact hne))
  simp only [foldC]
  have hr:r∈rs0:=hm r (by simp)
  have htr:=seen_tr (st:=st) (c:=c) hv hr hs
  cases hl:L k <;> cases hmk:M k
  ·exact ih c hs
  ·have:=tr_apart (h 0 r rfl (by simp [hl,hmk])) hv hs
   simp only [this]
   exact ih c hs
  ·have:=tr_apart (h 0 r rfl (by simp [hl,hmk])) hv hs
   simp only [this]
   exact ih c hs
  ·exact ih _ htr
theorem fold_late{q:Rec}{rs0:List Rec}{st:St}{loc:Loc}{L:Nat→Bool}: ∀(rs:List Rec) (k:Nat) (c:Option Cont),(∀j r,rs[j]? =some r→L (k+j)=true→Apart r q rs0 st∧Apart q r rs0 st)→
  foldC L loc k rs (tr q loc c)=tr q loc (foldC L loc k rs c)
 | [],k,c,_=>rfl
 | r :: rs,k,c,h=>by
  have ih: ∀c',foldC L loc (k+1) rs (tr q loc c')=tr q loc (foldC L loc (k+1) rs c'):=fun c'=>
   fold_late rs (k+1) c' (fun j r' hj hl=>h (j+1) r' (by simpa using hj) (by rw [shift];exact hl))
  simp only [foldC]
  cases hl:L k with
  | false=>exact ih c
  | true=>
   obtain ⟨h1,h2⟩:=h 0 r rfl hl
   simp only
   rw [tr_comm h1 h2 loc c]
   exact ih _
theorem fold_put{q:Rec}{rs0:List Rec}{st:St}{loc:Loc}{L M:Nat→Bool}{i:Nat}: ∀(rs:List Rec) (k:Nat) (c:Option Cont),rs[i]? =some q→L (k+i)=false→(∀j,M j=(L j||decide (j=k+i)))→
  (∀j r,rs[j]? =some r→i<j→L (k+j)=true→Apart r q rs0 st∧Apart q r rs0 st)→foldC M loc k rs c=tr q loc (foldC L loc k rs c):=by
 induction i with
 | zero=>
  intro rs k c hi hL hM h
  cases rs with
  | nil=>simp at hi
  | cons r rs=>
   simp only [List.getElem?_cons_zero,Option.some.injEq] at hi
   subst hi
   simp only [foldC]
   rw [Nat.add_zero] at hL
   have hMk:M k=true:=by rw [hM];simp
   rw [hL,hMk]
   simp only
   have same: ∀c',foldC M loc (k+1) rs c'=foldC L loc (k+1) rs c':=by
    have: ∀(rs:List Rec) (m:Nat) (c':Option Cont),k<m→foldC M loc m rs c'=foldC L loc m rs c':=by
     intro rs
     induction rs with
     | nil=>intro m c' _;rfl
     | cons x rs ih=>
      intro m c' hm
      simp only [foldC]
      have:M m=L m:=by
       rw [hM]
       have hne:m≠k+0:=by omega
       rw [decide_eq_false hne,Bool.or_false]
      rw [this,ih (m+1) _ (by omega)]
    exact fun c'=>this rs (k+1) c' (by omega)
   rw [same]
   exact fold_late rs (k+1) c (fun j r' hj hl=>h (j+1) r' (by simpa using hj) (by omega) (by rw [shift];exact hl))
 | succ i ih=>
  intro rs k c hi hL hM h
  cases rs with
  | nil=>simp at hi
  | cons r rs=>
   simp only [foldC]
   have hMk:M k=L k:=by
    rw [hM]
    have hne:k≠k+(i+1):=by omega
    simp []
   rw [hMk]
   have e:k+(i+1)=k+1+i:=by omega
   refine ih rs (k+1) _ (by simpa using hi) (by rw [←e];exact hL) (fun j=>by rw [hM,e]) ?_
   intro j r' hj hij hl
   exact h (j+1) r' (by simpa using hj) (by omega) (by rw [shift];exact hl)
theorem mask_congr{live:List Nat}: ∀{fr fr':List V} {k:Nat},fr.length=fr'.length→(∀j,k+j∈live→fr[j]? =fr'[j]?)→maskF live k fr=maskF live k fr'
 | [],[],_,_,_=>rfl
 | [],_ :: _,_,h,_=>by simp at h
 | _ :: _,[],_,h,_=>by simp at h
 | v :: fr,v' :: fr',k,hl,h=>by
  simp only [maskF]
  rw [mask_congr (fr:=fr) (fr':=fr') (k:=k+1) (by simpa using hl) (fun j hj=>by
   have:=h (j+1) (by rw [shift];exact hj)
   simpa using this)]
  by_cases hc:live.contains k=true
  ·rw [if_pos hc,if_pos hc]
   have:=h 0 (by simpa using hc)
   simp only [List.getElem?_cons_zero,Option.some.injEq] at this
   rw [this]
  ·rw [if_neg hc,if_neg hc]
theorem acc_sub{ob:Obs}: ∀(n:Nat) (t acc:List Nat),∀i∈acc,i∈reach ob n t acc
 | 0,t,acc,i,h=>by simpa [reach] using h
 | n+1,[],acc,i,h=>by simpa [reach] using h
 | n+1,x :: t,acc,i,h=>by
  simp only [reach]
  split
  ·exact acc_sub n t acc i h
  ·split
   ·exact acc_sub n _ _ i (List.mem_append_left _ h)
   ·exact acc_sub n t acc i h
theorem reach_congr{ob ob':Obs}{S:Nat→Prop}(hs: ∀i,S i→ob.get i=ob'.get i): ∀(n:Nat) (t acc:List Nat),(∀i∈t,S i)→(∀i∈reach ob n t acc,∀o,ob.get i=some o→ ∀j∈o.ids,S j)→
  reach ob n t acc=reach ob' n t acc∧ ∀i∈reach ob n t acc,i∈acc∨S i
 | 0,t,acc,_,_=>⟨by simp only [reach],fun i h=> .inl (by simpa only [reach] using h)⟩
 | n+1,[],acc,_,_=>⟨by simp only [reach],fun i h=> .inl (by simpa only [reach] using h)⟩
 | n+1,x :: t,acc,ht,h=>by
  simp only [reach] at h ⊢
  have hx:=ht x (by simp)
  by_cases hc:acc.contains x=true
  ·rw [if_pos hc] at h
   rw [if_pos hc,if_pos hc]
   exact reach_congr hs n t acc (fun i hi=>ht i (by simp [hi])) h
  ·rw [if_neg hc] at h
   rw [if_neg hc,if_neg hc,←hs x hx]
   cases ho:ob.get x with
   | none=>
    simp only [ho] at h
    exact reach_congr hs n t acc (fun i hi=>ht i (by simp [hi])) h
   | some o=>
    simp only [ho] at h
    have hmem:x∈reach ob n (o.ids++t) (acc++[x]):=acc_sub n _ _ x (by simp)
    have:=reach_congr hs n (o.ids++t) (acc++[x]) (fun i hi=>by
     rcases List.mem_append.1 hi with hi | hi
     ·exact h x hmem o ho i hi
     ·exact ht i (by simp [hi])) h
    refine ⟨this.1,fun i hi=> ?_⟩
    rcases this.2 i hi with h1 | h1
    ·rcases List.mem_append.1 h1 with h1 | h1
     ·exact .inl h1
     ·simp only [List.mem_singleton] at h1;subst h1;exact .inr hx
    ·exact .inr h1
theorem idsOf_mem{ob:Obs}: ∀{l:List Nat} {i:Nat} {o:AM.Obj},i∈l→ob.get i=some o→ ∀j∈o.ids,j∈idsOf ob l
 | [],i,o,h,_,_,_=>by simp at h
 | x :: l,i,o,h,ho,j,hj=>by
  simp only [idsOf]
  rcases List.mem_cons.1 h with rfl | h
  ·rw [ho];exact List.mem_append_left _ hj
  ·split
   ·exact List.mem_append_right _ (idsOf_mem h ho j hj)
   ·exact idsOf_mem h ho j hj
theorem idsOf_congr{ob ob':Obs}: ∀{l:List Nat},(∀i∈l,ob.get i=ob'.get i)→idsOf ob l=idsOf ob' l
 | [],_=>rfl
 | x :: l,h=>by
  simp only [idsOf]
  rw [←h x (by simp),idsOf_congr (l:=l) (fun i hi=>h i (by simp [hi]))]
theorem take_congr{ob ob':Obs}{r:Nat→Option Nat}: ∀{l:List Nat} {k:Nat},(∀i∈l,ob.get i=ob'.get i)→takeObs ob r l k=takeObs ob' r l k
 | [],_,_=>rfl
 | x :: l,k,h=>by
  simp only [takeObs]
  rw [←h x (by simp),take_congr (l:=l) (k:=k+1) (fun i hi=>h i (by simp [hi]))]
theorem backs_congr{o2 ob ob':Obs}{r:Nat→Option Nat}: ∀{l:List Nat} {k:Nat},(∀i∈l,ob.get i=ob'.get i)→backs o2 r ob l k=backs o2 r ob' l k
 | [],_,_=>rfl
 | x :: l,k,h=>by
  simp only [backs,movedAt]
  rw [←h x (by simp),backs_congr (l:=l) (k:=k+1) (fun i hi=>h i (by simp [hi]))]
theorem looks_ok{ob ob':Obs}{args:List V}(h: ∀i∈looks ob args,ob.get i=ob'.get i):
  reach ob 64 (V.idsL args) []=reach ob' 64 (V.idsL args) []∧(∀i∈reach ob 64 (V.idsL args) [],ob.get i=ob'.get i)∧looks ob args=looks ob' args:=by
 have key:=reach_congr (S:=fun i=>i∈looks ob args) h 64 (V.idsL args) [] (fun i hi=>List.mem_append_left _ hi) (fun i hi o ho j hj=>List.mem_append_right _ (idsOf_mem hi ho j hj))
 have hall: ∀i∈reach ob 64 (V.idsL args) [],ob.get i=ob'.get i:=by
  intro i hi
  rcases key.2 i hi with h1 | h1
  ·simp at h1
  ·exact h i h1
 refine ⟨key.1,hall,?_⟩
 unfold looks
 rw [←key.1,idsOf_congr hall]
theorem drawD_congr{E:Env}{cf:CallF}{op:AOp}{dst:Option Nat}{args:List V}{ob ob':Obs}(h: ∀i∈looksOp op ob args,ob.get i=ob'.get i):drawD E cf op dst args ob=drawD E cf op dst args ob':=by
 unfold looksOp at h
 cases hbl:isBlind op with
 | true=>unfold drawD;rw [hbl];rfl
 | false=>
 rw [hbl] at h
 obtain ⟨h1,h2,_⟩:=looks_ok h
 have hfz: ∀ids:List Nat,(∀i∈ids,ob.get i=ob'.get i)→ ∀v,plainV ob ids v=plainV ob' ids v:=by
  intro ids hi v
  cases v with
  | own id=>
   simp only [plainV]
   by_cases hc:ids.contains id=true
   ·have:fzAt ob id=fzAt ob' id:=by unfold fzAt;rw [hi id (by simpa using hc)]
    rw [this]
   ·have hc:ids.contains id=false:=by simpa using hc
    rw [hc]
    rfl
  | _=>rfl
 have hpl: ∀ids:List Nat,(∀i∈ids,ob.get i=ob'.get i)→ ∀vs,plainL ob ids vs=plainL ob' ids vs:=by
  intro ids hi vs
  induction vs with
  | nil=>rfl
  | cons v vs ih=>simp only [plainL,hfz ids hi v,ih]
 have hpa: ∀ids:List Nat,(∀i∈ids,ob.get i=ob'.get i)→ ∀l:List Nat,(∀i∈l,ob.get i=ob'.get i)→plainAt ob ids l=plainAt ob' ids l:=by
  intro ids hi l
  induction l with
  | nil=>intro _;rfl
  | cons j l ih=>
   intro hl
   simp only [plainAt]
   rw [ih fun i hi=>hl i (by simp [hi]),hl j (by simp)]
   cases ob'.get j with
   | none=>rfl
   | some o=>
    cases o with
    | box cs=>simp only [hpl ids hi cs]
    | _=>rfl
 unfold drawD readD callD roD
 simp only [←h1]
 rw [take_congr h2]
 simp only [backs_congr h2,hpa _ h2 _ h2]
theorem looksOp_ok{op:AOp}{ob ob':Obs}{args:List V}(h: ∀i∈looksOp op ob args,ob.get i=ob'.get i):looksOp op ob args=looksOp op ob' args:=by
 unfold looksOp at h ⊢
 cases hbl:isBlind op with
 | true=>rfl
 | false=>
  rw [hbl] at h
  exact (looks_ok h).2.2
theorem slot_congr{st st':St}{s:Nat}(h:cont st (.slot s)=cont st' (.slot s)):st.fr[s]? =st'.fr[s]? :=by
 simp only [cont] at h
 cases h1:st.fr[s]? <;> cases h2:st'.fr[s]? <;> simp [h1,h2] at h
 ·rfl
 ·rw [h]
theorem name_congr{st st':St}{i:Nat}(h:cont st (.name i)=cont st' (.name i)):st.ob.get i=st'.ob.get i:=by
 simp only [cont] at h
 cases h1:st.ob.get i <;> cases h2:st'.ob.get i <;> simp [h1,h2] at h
 ·rfl
 ·rw [h]
def drawGo(E:Env)(cf:CallF)(o:AOper)(rd:List Nat)(st:St):Tree (Rec×St):=
 (drawD E cf o.op o.dst (maskF o.op.slots 0 st.fr) st.ob).bind fun d=> .ret (⟨o.dst,rd,looksOp o.op st.ob (maskF o.op.slots 0 st.fr),d⟩,st)
theorem drawGo_congr{E:Env}{cf:CallF}{o:AOper}{rd:List Nat}{st st1:St}{r:Rec}(hrd: ∀s∈o.op.slots,s∈rd)(h:(drawGo E cf o rd st).eval=some (r,st1)):
  st1=st∧r.rd=rd∧r.dst=o.dst∧(drawD E cf o.op o.dst (maskF o.op.slots 0 st.fr) st.ob).eval=some r.d∧
   ∀st',st'.fr.length=st.fr.length→(∀loc,Views r loc→cont st loc=cont st' loc)→(drawGo E cf o rd st').eval=some (r,st'):=by
 unfold drawGo at h
 obtain ⟨d,h1,h2⟩:=Tree.bind_eval.1 h
 simp only [Tree.eval,Option.some.injEq,Prod.mk.injEq] at h2
 obtain ⟨rfl,rfl⟩:=h2
 refine ⟨rfl,rfl,rfl,h1,fun st' hl hv=> ?_⟩
 have hm:maskF o.op.slots 0 st.fr=maskF o.op.slots 0 st'.fr:=mask_congr hl.symm (fun j hj=>slot_congr (hv (.slot j) (hrd j (by simpa using hj))))
 have hg: ∀i∈looksOp o.op st.ob (maskF o.op.slots 0 st.fr),st.ob.get i=st'.ob.get i:=fun i hi=>name_congr (hv (.name i) hi)
 unfold drawGo
 rw [←hm,←drawD_congr hg,←looksOp_ok hg]
 exact Tree.bind_eval.2 ⟨d,h1,rfl⟩
def skipRec(o:AOper)(s:Nat):Rec:=⟨o.dst,[s],[],⟨.tup [],[],[]⟩⟩
theorem drawO_ways{E:Env}{cf:CallF}{o:AOper}{st st1:St}{r:Rec}(h:(drawO E cf o st).eval=some (r,st1)):
  (o.guard=none∧(drawGo E cf o o.op.slots st).eval=some (r,st1))∨
  (∃s want b,o.guard=some (s,want)∧st.fr.getD s .any= .d (.bool b)∧b=want∧(drawGo E cf o (s :: o.op.slots) st).eval=some (r,st1))∨
  (∃s want b,o.guard=some (s,want)∧st.fr.getD s .any= .d (.bool b)∧b≠want∧r=skipRec o s∧st1=st)∨
  (∃s want,o.guard=some (s,want)∧st.fr.getD s .any= .tup []∧r=skipRec o s∧st1=st):=by
 unfold drawO at h
 cases hg:o.guard with
 | none=>
  simp only [hg] at h
  exact .inl ⟨rfl,h⟩
 | some sw=>
  obtain ⟨s,want⟩:=sw
  simp only [hg] at h
  split at h
  ·rename_i b hb
   have hset:st.fr.set s (.d (.bool b))=st.fr:=set_self hb (by simp)
   cases b with
   | true=>
    simp only [Tree.eval] at h
    rw [hset] at h
    cases want with
    | true=>exact .inr (.inl ⟨s,true,true,rfl,hb,rfl,h⟩)
    | false=>
     simp only [Tree.eval,Option.some.injEq,Prod.mk.injEq] at h
     exact .inr (.inr (.inl ⟨s,false,true,rfl,hb,by simp,h.1.symm,h.2.symm⟩))
   | false=>
    simp only [Tree.eval] at h
    rw [hset] at h
    cases want with
    | false=>exact .inr (.inl ⟨s,false,false,rfl,hb,rfl,h⟩)
    | true=>
     simp only [Tree.eval,Option.some.injEq,Prod.mk.injEq] at h
     exact .inr (.inr (.inl ⟨s,true,false,rfl,hb,by simp,h.1.symm,h.2.symm⟩))
  ·rename_i hb
   simp only [Tree.eval,Option.some.injEq,Prod.mk.injEq] at h
   exact .inr (.inr (.inr ⟨s,want,rfl,hb,h.1.symm,h.2.symm⟩))
  ·exact (stuck_none h).elim
theorem drawO_congr{E:Env}{cf:CallF}{o:AOper}{st st1:St}{r:Rec}(h:(drawO E cf o st).eval=some (r,st1)):
  st1=st∧r.dst=o.dst∧ ∀st',st'.fr.length=st.fr.length→(∀loc,Views r loc→cont st loc=cont st' loc)→(drawO E cf o st').eval=some (r,st'):=by
 have getD_eq: ∀{st':St} {s:Nat},st.fr[s]? =st'.fr[s]? →st'.fr.getD s .any=st.fr.getD s .any:=by
  intro st' s he
  simp only [List.getD,he]
 rcases drawO_ways h with ⟨h1,h2⟩ | ⟨s,want,b,h1,h2,rfl,h3⟩ | ⟨s,want,b,h1,h2,h3,rfl,rfl⟩ | ⟨s,want,h1,h2,rfl,rfl⟩
 ·obtain ⟨q1,q2,q3,q4,q5⟩:=drawGo_congr (fun s hs=>hs) h2
  refine ⟨q1,q3,fun st' hl hv=> ?_⟩
  unfold drawO
  simp only [h1]
  exact q5 st' hl hv
 ·obtain ⟨q1,q2,q3,q4,q5⟩:=drawGo_congr (fun s hs=>List.mem_cons_of_mem _ hs) h3
  refine ⟨q1,q3,fun st' hl hv=> ?_⟩
  have hs:st'.fr.getD s .any= .d (.bool b):=by
   rw [getD_eq (slot_congr (hv (.slot s) (by rw [Views,q2];simp)))];exact h2
  have hset:st'.fr.set s (.d (.bool b))=st'.fr:=set_self hs (by simp)
  have:=q5 st' hl hv
  unfold drawO
  simp only [h1,hs]
  cases b with
  | true=>simp only [Tree.eval,hset];exact this
  | false=>simp only [Tree.eval,hset];exact this
 ·refine ⟨rfl,rfl,fun st' hl hv=> ?_⟩
  have hs:st'.fr.getD s .any= .d (.bool b):=by
   rw [getD_eq (slot_congr (hv (.slot s) (by simp [Views,skipRec])))];exact h2
  have hset:st'.fr.set s (.d (.bool b))=st'.fr:=set_self hs (by simp)
  unfold drawO
  simp only [h1,hs]
  cases b <;> cases want <;> simp only [Tree.eval,hset,skipRec] <;> first | (exact (h3 rfl).elim) | rfl
 ·refine ⟨rfl,rfl,fun st' hl hv=> ?_⟩
  have hs:st'.fr.getD s .any= .tup []:=by
   rw [getD_eq (slot_congr (hv (.slot s) (by simp [Views,skipRec])))];exact h2
  unfold drawO
  simp only [h1,hs,Tree.eval,skipRec]
theorem fold_none(L:Nat→Bool): ∀(rs:List Rec) (k:Nat) (st:St),(∀j,k≤j→L j=false)→foldR L k rs st=st
 | [],_,_,_=>rfl
 | r :: rs,k,st,h=>by
  simp only [foldR]
  rw [h k (Nat.le_refl _)]
  exact fold_none L rs (k+1) st (fun j hj=>h j (by omega))
theorem fold_congr{L M:Nat→Bool}: ∀(rs:List Rec) (k:Nat) (st:St),(∀j,k≤j→j<k+rs.length→L j=M j)→foldR L k rs st=foldR M k rs st
 | [],_,_,_=>rfl
 | r :: rs,k,st,h=>by
  simp only [foldR]
  rw [h k (Nat.le_refl _) (by simp)]
  exact fold_congr rs (k+1) _ (fun j h1 h2=>h j (by omega) (by simp;omega))
theorem drawL_spec{E:Env}{cf:CallF}: ∀(l:List AOper) (k:Nat) (st st':St) (rs:List Rec),(drawL E cf l st).eval=some (rs,st')→
  rs.length=l.length∧st'=foldR (fun _=>true) k rs st∧ ∀i o,l[i]? =some o→ ∃r,rs[i]? =some r∧
   (drawO E cf o (foldR (fun j=>decide (j<k+i)) k rs st)).eval=some (r,foldR (fun j=>decide (j<k+i)) k rs st)
 | [],k,st,st',rs,h=>by
  simp only [drawL,Tree.eval,Option.some.injEq,Prod.mk.injEq] at h
  obtain ⟨rfl,rfl⟩:=h
  exact ⟨rfl,rfl,fun i o hi=>by simp at hi⟩
 | o :: l,k,st,st',rs,h=>by
  simp only [drawL] at h
  obtain ⟨⟨r,st1⟩,h1,h2⟩:=Tree.bind_eval.1 h
  obtain ⟨⟨rs',st2⟩,h3,h4⟩:=Tree.bind_eval.1 h2
  simp only [Tree.eval,Option.some.injEq,Prod.mk.injEq] at h4
  obtain ⟨rfl,rfl⟩:=h4
  have hst:=(drawO_congr h1).1
  simp only at hst h3
  rw [hst] at h3
  obtain ⟨e1,e2,e3⟩:=drawL_spec l (k+1) (r.app st) st2 rs' h3
  refine ⟨by simp [e1],by simp only [foldR];exact e2,?_⟩
  intro i o' hi
  cases i with
  | zero=>
   simp only [List.getElem?_cons_zero,Option.some.injEq] at hi
   subst hi
   refine ⟨r,rfl,?_⟩
   rw [fold_none _ _ _ _ (fun j hj=>by simp;omega),h1,hst]
  | succ i=>
   obtain ⟨r',q1,q2⟩:=e3 i o' (by simpa using hi)
   refine ⟨r',by simpa using q1,?_⟩
   simp only [foldR]
   have hk:decide (k<k+(i+1))=true:=by simp
   rw [hk]
   rw [shift k i]
   exact q2
theorem apartAll_ok{ps:List Nat}{q:Rec}{rs:List Rec}{st:St}: ∀{l:List Rec} {k:Nat},apartAll ps q rs st k l=true→ ∀i p,l[i]? =some p→k+i∈ps∨(Apart p q rs st∧Apart q p rs st)
 | [],k,_,i,p,hi=>by simp at hi
 | x :: l,k,h,i,p,hi=>by
  simp only [apartAll,Bool.and_eq_true,Bool.or_eq_true] at h
  cases i with
  | zero=>
   simp only [List.getElem?_cons_zero,Option.some.injEq] at hi
   subst hi
   rcases h.1 with h1 | h1
   ·exact .inl (by simpa using h1)
   ·exact .inr ⟨apart1_ok h1.1,apart1_ok h1.2⟩
  | succ i=>
   have:=apartAll_ok h.2 i p (by simpa using hi)
   rwa [←shift] at this
theorem apartFrom_ok{pss:List (List Nat)}{all:List Rec}{st:St}: ∀{l:List Rec} {k:Nat} {pre:List Rec},apartFrom pss all st k pre l=true→ ∀j q,l[j]? =some q→ ∀i p,(pre++l.take j)[i]? =some p→
  i∈nthL pss (k+j)∨(Apart p q all st∧Apart q p all st)
 | [],k,pre,_,j,q,hj=>by simp at hj
 | x :: l,k,pre,h,j,q,hj=>by
  simp only [apartFrom,Bool.and_eq_true] at h
  intro i p hi
  cases j with
  | zero=>
   simp only [List.getElem?_cons_zero,Option.some.injEq] at hj
   subst hj
   simp only [List.take_zero,List.append_nil] at hi
   have:=apartAll_ok h.1 i p hi
   simpa using this
  | succ j=>
   have:=apartFrom_ok h.2 j q (by simpa using hj) i p (by simpa using hi)
   rwa [←shift] at this
theorem nthL_append{l m:List (List Nat)}{k:Nat}(h:k<l.length):nthL (l++m) k=nthL l k:=by
 simp [nthL,List.getD,List.getElem?_append_left h]
theorem mem_uni{i:Nat}: ∀{l r:List Nat},i∈uni l r→i∈l∨i∈r
 | [],r,h=> .inr h
 | x :: l,r,h=>by
  rcases mem_uni (l:=l) h with h | h
  ·exact .inl (List.mem_cons_of_mem _ h)
  ·split at h
   ·exact .inr h
   ·rcases List.mem_cons.1 h with h | h
    ·exact .inl (h ▸ List.mem_cons_self)
    ·exact .inr h
theorem mem_addTo{acc:List (List Nat)}{i:Nat}: ∀{l:List Nat},i∈addTo acc l→ ∃e∈l,i=e∨i∈acc.getD e []
 | [],h=>by simp [addTo] at h
 | j :: js,h=>by
  simp only [addTo,addOne] at h
  have rest:i∈addTo acc js→ ∃e∈j :: js,i=e∨i∈acc.getD e []:=fun h=>by
   obtain ⟨e,h1,h2⟩:=mem_addTo h
   exact ⟨e,List.mem_cons_of_mem _ h1,h2⟩
  split at h
  ·exact rest h
  ·rcases List.mem_cons.1 h with h | h
   ·exact ⟨j,List.mem_cons_self,.inl h⟩
   ·rcases mem_uni h with h | h
    ·exact ⟨j,List.mem_cons_self,.inr h⟩
    ·exact rest h
theorem preds_in{L:Nat→Bool}: ∀(l:List AOper) (acc:List (List Nat)),(∀m i,i∈nthL acc m→L m=true→L i=true)→(∀j o,l[j]? =some o→L (acc.length+j)=true→ ∀e∈o.aft,L e=true)→
  (∀m,m<acc.length→nthL (preds l acc) m=nthL acc m)∧ ∀j o,l[j]? =some o→(∀e∈o.aft,L e=true)→ ∀i∈nthL (preds l acc) (acc.length+j),L i=true
 | [],acc,_,_=>⟨fun m _=>rfl,fun j o hj=>by simp at hj⟩
 | o :: l,acc,h1,h2=>by
  have hnew:(∀e∈o.aft,L e=true)→ ∀i∈addTo acc o.aft,L i=true:=by
   intro he i hi
   obtain ⟨e,he1,he2⟩:=mem_addTo hi
   rcases he2 with rfl | he2
   ·exact he i he1
   ·exact h1 e i he2 (he e he1)
  have hlen:(acc++[addTo acc o.aft]).length=acc.length+1:=by simp
  have ih:=preds_in (L:=L) l (acc++[addTo acc o.aft]) (by
   intro m i hi hm
   rcases Nat.lt_trichotomy m acc.length with hlt | heq | hgt
   ·rw [nthL_append hlt] at hi;exact h1 m i hi hm
   ·subst heq
    have:nthL (acc++[addTo acc o.aft]) acc.length=addTo acc o.aft:=by
     simp [nthL,List.getD]
    rw [this] at hi
    exact hnew (h2 0 o rfl (by simpa using hm)) i hi
   ·have:nthL (acc++[addTo acc o.aft]) m=[]:=by
     unfold nthL
     rw [List.getD,List.getElem?_eq_none (by simp;omega)];rfl
    rw [this] at hi;simp at hi) (by
   intro j o' hj hm e he
   rw [hlen] at hm
   exact h2 (j+1) o' (by simpa using hj) (by rw [shift];exact hm) e he)
  simp only [preds]
  refine ⟨fun m hm=> ?_,fun j o' hj he i hi=> ?_⟩
  ·rw [ih.1 m (by rw [hlen];omega),nthL_append hm]
  ·cases j with
   | zero=>
    simp only [List.getElem?_cons_zero,Option.some.injEq] at hj
    subst hj
    rw [Nat.add_zero,ih.1 acc.length (by rw [hlen];omega)] at hi
    have:nthL (acc++[addTo acc o.aft]) acc.length=addTo acc o.aft:=by
     simp [nthL,List.getD]
    rw [this] at hi
    exact hnew he i hi
   | succ j=>
    refine ih.2 j o' (by simpa using hj) he i ?_
    rw [hlen,←shift];exact hi
theorem backward_ok: ∀{l:List AOper} {k:Nat},backward k l=true→ ∀j o,l[j]? =some o→ ∀e∈o.aft,e<k+j
 | [],k,_,j,o,hj=>by simp at hj
 | x :: l,k,h,j,o,hj=>by
  simp only [backward,Bool.and_eq_true] at h
  intro e he
  cases j with
  | zero=>
   simp only [List.getElem?_cons_zero,Option.some.injEq] at hj
   subst hj
   have:=List.all_eq_true.1 h.1 e he
   have h':=Nat.le_of_ble_eq_true (show Nat.ble (e+1) k=true from this)
   omega
  | succ j=>
   have:=backward_ok h.2 j o (by simpa using hj) e he
   omega
section
variable {P:Program} {w w':World} {X Y Y':Nat→Prop} {β β':Nat→Pl} {ob ob':Obs} {a:Act} {st st':St} {fr:List V} {ro:Option Nat} {N:Nat}
theorem Rel.grow(h:Rel P w X β st a)(hk:Keep (fun _=>False) w w'):Rel P w' X β st a:=by
 have hk': ∀b,b<w.heap.size→w'.heap[b]? =w.heap[b]? :=fun b hb=>hk.2 b hb (fun x=>x)
 have hs: ∀l,Stays β β st.ob st.ob l:=fun l i _ o ho=>⟨o,ho,rfl,like_refl _⟩
 refine ⟨⟨?_,h.ob.inj,h.ob.notX,fun b hx=>Nat.lt_of_lt_of_le (h.ob.xlt b hx) hk.1,h.ob.tab.keep hk.1 (fun b hb _=>hk' b hb) (fun _ _ h=>h)⟩,RVL.mono (fun b hb _=>hk' b hb) (fun _ _ h=>h) _ _ (hs _) h.fr,h.df.keep h.ob (hk.mono fun _ _ h=>h.elim)⟩
 intro i o ho
 exact (h.ob.obj i o ho).mono (fun b hb _=>hk' b hb) (fun _ _ h=>h) (fun b cap hp=>hk' b ((h.ob.obj i o ho).lt hp)) (hs _)
theorem Goes.ext{w w':World}{st1 st2:St}(h:Goes P w w' X β β' ob st1 a)(he: ∀loc,cont st1 loc=cont st2 loc):Goes P w w' X β β' ob st2 a:=by
 obtain ⟨e1,e2⟩:=cont_ext he
 have hs:Sub st2.ob st1.ob:=fun i o hg=>by rw [e2];exact hg
 refine ⟨⟨hs.relO h.rel.ob,by rw [←e1];exact hs.rvl h.rel.fr,h.rel.df⟩,h.keep,fun b hb=>h.own b (hs.owned hb),fun i o hi hg hm=>h.stay i o hi (hs i o hg) hm⟩
theorem drawO_ok{E:Env}{cf:CallF}(hC:CallOK P E cf)(hG: ∀g C,E.con g=some (.gen true C)→FnOK P g (roC C)){ops:Array Oper}{dr:Bool}{o:Oper}{ao:AOper}{r:Rec}{Q:Exit→Act→World→Prop}{K:Act→World→Prop}(hr:Rel P w X β st a)
  (hco:cOper P ops dr o=some ao) (h:(drawO E cf ao st).eval=some (r,st')) (hK: ∀w' β' a',Goes P w w' X β β' st.ob (r.app st) a'→K a' w'):
  if Region.wanted o (yielded ops a.tmps) then o.wpIn (wideAt ro) N P a w K Q else (∀f,o.about P w a.eval=some f→(wideAt ro).fn f)∧K (a.put o.dst undef) w:=by
 have skip: ∀s,r=skipRec ao s→ao.dst=o.dst→(∀f,o.about P w a.eval=some f→(wideAt ro).fn f)∧K (a.put o.dst undef) w:=by
  rintro s rfl hd
  refine ⟨fun _ _=>trivial,?_⟩
  refine hK w β _ ?_
  have:(skipRec ao s).app st=⟨putT o.dst (.tup []) st.fr,st.ob⟩:=by rw [←hd];rfl
  rw [this]
  exact ⟨put_rel hr (rv_undef _ _ _ _) _,Keep.refl _ _,OwnIn.refl _ _ _,Stay.refl _ _⟩
 have go: ∀rd,ao.op=cOp P o→ao.dst=o.dst→(∀s∈ao.op.slots,s∈rd)→(drawGo E cf ao rd st).eval=some (r,st')→o.wpIn (wideAt ro) N P a w K Q:=by
  intro rd ho hd hrd hgo
  obtain ⟨_,_,q3,q4,_⟩:=drawGo_congr hrd hgo
  rw [ho,hd] at q4
  refine drawD_ok hC hG hr q4 fun w' β' a' hg=>hK w' β' a' ?_
  have:r.app st=⟨putT o.dst r.d.v (r.d.app st).fr,(r.d.app st).ob⟩:=by rw [←hd,←q3];rfl
  rw [this]
  exact hg
 unfold cOper at hco
 cases hg:o.guard with
 | none=>
  simp only [hg,Option.some.injEq] at hco
  rw [if_pos (by simp [Region.wanted,hg])]
  rcases drawO_ways h with ⟨h1,h2⟩ | ⟨s,want,b,h1,_⟩ | ⟨s,want,b,h1,_⟩ | ⟨s,want,h1,_⟩
  ·exact go _ (by rw [←hco]) (by rw [←hco]) (fun s hs=>hs) h2
  all_goals (rw [←hco] at h1;simp at h1)
 | some jw=>
  obtain ⟨j,want⟩:=jw
  simp only [hg] at hco
  split at hco
  ·rename_i p hp
   split at hco
   ·rename_i s hs
    simp only [Option.some.injEq] at hco
    have hao1:ao.op=cOp P o:=by rw [←hco]
    have hao2:ao.dst=o.dst:=by rw [←hco]
    have hao3:ao.guard=some (s,want):=by rw [←hco]
    have hy:yielded ops a.tmps j=match a.tmps[s]? with | some (.bool b)=>some b | _=>none:=by
     simp [yielded,hp,hs]
     rfl
    have hw:Region.wanted o (yielded ops a.tmps)=(yielded ops a.tmps j==some want):=by
     simp only [Region.wanted,hg]
    have hbool: ∀b,st.fr.getD s .any= .d (.bool b)→yielded ops a.tmps j=some b:=by
     intro b hb
     have hfr:=hr.fr.getD s undef
     rw [hb] at hfr
     have hbv:a.tmps[s]? =some (.bool b):=by
      cases ht:a.tmps[s]? with
      | none=>
       have:a.tmps.toList.getD s undef=undef:=by simp [List.getD,ht]
       rw [this] at hfr
       cases RVd hfr
      | some z=>
       have:a.tmps.toList.getD s undef=z:=by simp [List.getD,ht]
       rw [this] at hfr
       cases RVd hfr
       rfl
     rw [hbv] at hy
     exact hy
    rcases drawO_ways h with ⟨h1,h2⟩ | ⟨s',want',b,h1,h2,h3,h4⟩ | ⟨s',want',b,h1,h2,h3,h4,h5⟩ | ⟨s',want',h1,h2,h3,h4⟩
    ·rw [hao3] at h1;simp at h1
    ·rw [hao3] at h1
     simp only [Option.some.injEq,Prod.mk.injEq] at h1
     obtain ⟨rfl,rfl⟩:=h1
     rw [hw,hbool b h2,h3,if_pos (by simp)]
     exact go _ hao1 hao2 (fun s hs=>List.mem_cons_of_mem _ hs) h4
    ·rw [hao3] at h1
     simp only [Option.some.injEq,Prod.mk.injEq] at h1
     obtain ⟨rfl,rfl⟩:=h1
     rw [hw,hbool b h2,if_neg (by simpa using h3)]
     exact skip s h4 hao2
    ·rw [hao3] at h1
     simp only [Option.some.injEq,Prod.mk.injEq] at h1
     obtain ⟨rfl,rfl⟩:=h1
     have hfr:=hr.fr.getD s undef
     rw [h2] at hfr
     simp only [RV] at hfr
     obtain ⟨vs,hvs,_⟩:=hfr
     have hne:yielded ops a.tmps j=none:=by
      rw [hy]
      cases ht:a.tmps[s]? with
      | none=>rfl
      | some z=>
       have:a.tmps.toList.getD s undef=z:=by simp [List.getD,ht]
       rw [this] at hvs
       subst hvs
       rfl
     rw [hw,hne,if_neg (by simp)]
     exact skip s h3 hao2
   ·simp at hco
  ·simp at hco
theorem allO_get{α β:Type}{f:α→Option β}: ∀{l:List α} {r:List β},allO (l.map f)=some r→r.length=l.length∧ ∀(i:Nat) (x:α),l[i]? =some x→ ∃y,r[i]? =some y∧f x=some y
 | [],r,h=>by
  simp only [List.map_nil,allO,Option.some.injEq] at h
  subst h
  exact ⟨rfl,fun i x hx=>by simp at hx⟩
 | x :: l,r,h=>by
  simp only [List.map_cons] at h
  cases hx:f x with
  | none=>simp [hx,allO] at h
  | some y=>
   simp only [hx,allO] at h
   split at h
   ·rename_i m hm
    simp only [Option.some.injEq] at h
    subst h
    obtain ⟨h1,h2⟩:=allO_get hm
    refine ⟨by simp [h1],fun i z hz=> ?_⟩
    cases i with
    | zero=>
     simp only [List.getElem?_cons_zero,Option.some.injEq] at hz
     subst hz
     exact ⟨y,rfl,hx⟩
    | succ i=>simpa using h2 i z (by simpa using hz)
   ·simp at h
theorem maxL_le: ∀{l:List Nat} {j:Nat},j∈l→j≤maxL l
 | [],j,h=>by simp at h
 | x :: l,j,h=>by
  simp only [maxL]
  rcases List.mem_cons.1 h with rfl | h
  ·exact Nat.le_max_left _ _
  ·exact Nat.le_trans (maxL_le h) (Nat.le_max_right _ _)
theorem normL_mem{l:List Nat}{j:Nat}:j∈normL l↔j∈l:=by
 unfold normL
 simp only [List.mem_filter,List.mem_range]
 constructor
 ·intro h;simpa using h.2
 ·intro h
  have:=maxL_le h
  exact ⟨by omega,by simpa using h⟩
theorem cOper_aft{ops:Array Oper}{o:Oper}{ao:AOper}(h:cOper P ops true o=some ao):ao.aft=normL (onsOf o.after.toList):=by
 unfold cOper at h
 split at h
 ·simp only [if_true,Option.some.injEq] at h;rw [←h]
 ·split at h
  ·split at h
   ·simp only [if_true,Option.some.injEq] at h;rw [←h]
   ·simp at h
  ·simp at h
theorem onsOf_all{f:Nat→Bool}: ∀(l:List Edge),(l.all fun e=> !Region.binds .any e||f e.on)=true↔ ∀j∈onsOf l,f j=true
 | []=>by simp [onsOf]
 | e :: l=>by
  simp only [List.all_cons,Bool.and_eq_true,onsOf,onsOf_all l]
  by_cases hb:Region.binds .any e=true
  ·rw [if_pos hb]
   simp only [hb,Bool.not_true,Bool.false_or,List.mem_cons,forall_eq_or_imp]
  ·rw [if_neg hb]
   have:Region.binds .any e=false:=by simpa using hb
   simp [this]
theorem ready_mem{ops:Array Oper}{listed:Array Bool}{i:Nat}:i∈Region.ready .any ops listed↔i<ops.size∧listed.getD i true=false∧ ∃o,ops[i]? =some o∧ ∀j∈onsOf o.after.toList,listed.getD j false=true:=by
 unfold Region.ready
 simp only [List.mem_filter,List.mem_range,Bool.and_eq_true,Bool.not_eq_true']
 constructor
 ·rintro ⟨h1,h2,h3⟩
  refine ⟨h1,h2,?_⟩
  cases ho:ops[i]? with
  | none=>simp [ho] at h3
  | some o=>
   refine ⟨o,rfl,?_⟩
   simp only [ho,Option.map_some,Option.getD_some] at h3
   rw [←Array.all_toList] at h3
   exact (onsOf_all _).1 h3
 ·rintro ⟨h1,h2,o,ho,h3⟩
  refine ⟨h1,h2,?_⟩
  simp only [ho,Option.map_some,Option.getD_some]
  rw [←Array.all_toList]
  exact (onsOf_all _).2 h3
def cnt(l:List Bool):Nat:=(l.filter (! ·)).length
theorem cnt_set: ∀{l:List Bool} {i:Nat},l[i]? =some false→cnt (l.set i true)+1=cnt l
 | [],i,h=>by simp at h
 | b :: l,0,h=>by
  simp only [List.getElem?_cons_zero,Option.some.injEq] at h
  subst h
  simp [cnt]
 | b :: l,i+1,h=>by
  have ih:=cnt_set (l:=l) (i:=i) (by simpa using h)
  unfold cnt at ih ⊢
  simp only [List.set_cons_succ,List.filter_cons]
  split
  ·simp only [List.length_cons];omega
  ·exact ih
theorem cnt_zero: ∀{l:List Bool},cnt l=0→ ∀i,i<l.length→l[i]? =some true
 | [],_,i,h=>by simp at h
 | b :: l,hc,i,h=>by
  unfold cnt at hc
  simp only [List.filter_cons] at hc
  cases b with
  | false=>simp at hc
  | true=>
   cases i with
   | zero=>rfl
   | succ i=>
    have:=cnt_zero (l:=l) (by unfold cnt;simpa using hc) i (by simpa using h)
    simpa using this
theorem draw_main{E:Env}{cf:CallF}(hC:CallOK P E cf)(hG: ∀g C,E.con g=some (.gen true C)→FnOK P g (roC C)){ops:Array Oper}{al:List AOper}{Q:Exit→Act→World→Prop}{rs:List Rec}{st0 stF:St}{w0:World}{β0:Nat→Pl}(hal:allO (ops.toList.map (cOper P ops true))=some al)
  (hdraw:(drawL E cf al st0).eval=some (rs,stF)) (hback:backward 0 al=true) (hap:apartFrom (preds al []) rs st0 0 [] rs=true)
  (hQ: ∀w' β' a',Goes P w0 w' X β0 β' st0.ob stF a'→Q .normal a' w'):
  ∀(fuel:Nat) (listed:Array Bool) (a:Act) (w:World) (β:Nat→Pl),listed.size=ops.size→cnt listed.toList≤fuel→
   (∀m o,al[m]? =some o→listed.getD m false=true→ ∀e∈o.aft,listed.getD e false=true)→
   Goes P w0 w X β0 β st0.ob (foldR (fun k=>listed.getD k false) 0 rs st0) a→wpAnyIn (wideAt ro) N P .any ops Q fuel listed a w:=by
 obtain ⟨al1,al2⟩:=allO_get hal
 obtain ⟨d1,d2,d3⟩:=drawL_spec al 0 st0 stF rs hdraw
 have hsize:al.length=ops.size:=by rw [al1];simp
 have hlook: ∀(i:Nat) (o:Oper),ops[i]? =some o→ ∃ao:AOper,al[i]? =some ao∧cOper P ops true o=some ao∧ ∀j,j∈ao.aft↔j∈onsOf o.after.toList:=by
  intro i o ho
  obtain ⟨ao,h1,h2⟩:=al2 i o (by simpa using ho)
  exact ⟨ao,h1,h2,fun j=>by rw [cOper_aft h2];exact normL_mem⟩
 have done: ∀(listed:Array Bool) (a:Act) (w:World) (β:Nat→Pl),(∀k,k<ops.size→listed.getD k false=true)→Goes P w0 w X β0 β st0.ob (foldR (fun k=>listed.getD k false) 0 rs st0) a→Q .normal a w:=by
  intro listed a w β hall hg
  refine hQ w β a ?_
  rw [d2]
  rw [fold_congr (M:=fun _=>true) rs 0 st0 (fun j _ hj=>hall j (by omega))] at hg
  exact hg
 have noready: ∀(listed:Array Bool),listed.size=ops.size→Region.ready .any ops listed=[]→ ∀k,k<ops.size→listed.getD k false=true:=by
  intro listed hls hr k
  induction k using Nat.strongRecOn with
  | _ k ih=>
   intro hk
   cases hlk:listed.getD k false with
   | true=>rfl
   | false=>
    exfalso
    have ho:ops[k]? =some ops[k]:=Array.getElem?_eq_getElem hk
    obtain ⟨ao,h1,h2,h3⟩:=hlook k _ ho
    have:k∈Region.ready .any ops listed:=by
     rw [ready_mem]
     refine ⟨hk,?_,ops[k],ho,?_⟩
     ·have hkl:k<listed.size:=by omega
      simp only [Array.getD_eq_getD_getElem?,Array.getElem?_eq_getElem hkl,Option.getD_some] at hlk ⊢
      exact hlk
     ·intro j hj
      have hlt:=backward_ok hback k ao h1 j ((h3 j).2 hj)
      exact ih j (by omega) (by omega)
    rw [hr] at this
    simp at this
 intro fuel
 induction fuel with
 | zero=>
  intro listed a w β hls hcnt hdown hg
  have hall: ∀k,k<ops.size→listed.getD k false=true:=by
   intro k hk
   have:=cnt_zero (l:=listed.toList) (by omega) k (by simpa [hls] using hk)
   simp only [Array.getElem?_toList] at this
   simp [Array.getD_eq_getD_getElem?,this]
  refine ⟨?_,done listed a w β hall hg⟩
  rw [List.eq_nil_iff_forall_not_mem]
  intro i hi
  rw [ready_mem] at hi
  have:=hall i hi.1
  have h2:=hi.2.1
  have hil:i<listed.size:=by omega
  simp only [Array.getD_eq_getD_getElem?,Array.getElem?_eq_getElem hil,Option.getD_some] at this h2
  rw [h2] at this
  simp at this
 | succ fuel ih=>
  intro listed a w β hls hcnt hdown hg
  refine ⟨fun hr=>done listed a w β (noready listed hls hr) hg,fun i hi=> ?_⟩
  rw [ready_mem] at hi
  obtain ⟨hi1,hi2,o,ho,hi3⟩:=hi
  obtain ⟨ao,h1,h2,h3⟩:=hlook i o ho
  obtain ⟨r,r1,r2⟩:=d3 i ao h1
  rw [Nat.zero_add] at r2
  have hil:i<listed.size:=by omega
  have hLi:listed.getD i false=false:=by
   simp only [Array.getD_eq_getD_getElem?,Array.getElem?_eq_getElem hil,Option.getD_some] at hi2 ⊢
   exact hi2
  have apart: ∀j q,rs[j]? =some q→(i<j∧listed.getD j false=true∨j<i∧listed.getD j false=false)→Apart q r rs st0∧Apart r q rs st0:=by
   intro j q hj hc
   have hjl:j<al.length:=by rw [←d1];exact (List.getElem?_eq_some_iff.1 hj).1
   have haj:al[j]? =some al[j]:=List.getElem?_eq_getElem hjl
   have hin:=preds_in (L:=fun k=>listed.getD k false) al [] (by intro m i hi _;simp [nthL] at hi) (by
    intro m o' hm hl
    simp only [List.length_nil,Nat.zero_add] at hl
    exact hdown m o' hm hl)
   simp only [List.length_nil,Nat.zero_add] at hin
   rcases hc with ⟨hlt,hl⟩ | ⟨hlt,hl⟩
   ·rcases apartFrom_ok hap j q hj i r (by simp only [List.nil_append];rw [List.getElem?_take,if_pos hlt];exact r1) with hp | hp
    ·rw [Nat.zero_add] at hp
     have:=hin.2 j _ haj (hdown j _ haj hl) i hp
     rw [hLi] at this
     simp at this
    ·exact ⟨hp.2,hp.1⟩
   ·rcases apartFrom_ok hap i r r1 j q (by simp only [List.nil_append];rw [List.getElem?_take,if_pos hlt];exact hj) with hp | hp
    ·rw [Nat.zero_add] at hp
     have:=hin.2 i ao h1 (fun j hj=>hi3 j ((h3 j).1 hj)) j hp
     rw [hl] at this
     simp at this
    ·exact hp
  have hcong:=(drawO_congr r2).2.2 (foldR (fun k=>listed.getD k false) 0 rs st0) (by rw [fold_length,fold_length]) (by
   intro loc hv
   rw [cont_fold,cont_fold]
   refine fold_view (rs0:=rs) (st:=st0) hv rs 0 _ (fun r hr=>hr) ?_ ?_
   ·intro x hx id hid
    cases loc with
    | slot s=>
     simp only [cont] at hx
     cases hs:st0.fr[s]? with
     | none=>simp [hs] at hx
     | some y=>
      simp only [hs,Option.map_some,Option.some.injEq] at hx
      subst hx
      have:id∈slotIds st0.fr r.rd:=by
       have key: ∀(l:List Nat),s∈l→id∈slotIds st0.fr l:=by
        intro l
        induction l with
        | nil=>intro h;simp at h
        | cons z l ihl=>
         intro h
         simp only [slotIds,List.mem_append]
         rcases List.mem_cons.1 h with rfl | h
         ·left
          have:st0.fr.getD s .any=y:=by simp [List.getD,hs]
          rw [this];exact hid
         ·exact .inr (ihl h)
       exact key _ hv
      simp [Rec.D,this]
    | name m=>
     simp only [cont] at hx
     cases hs:st0.ob.get m with
     | none=>simp [hs] at hx
     | some y=>
      simp only [hs,Option.map_some,Option.some.injEq] at hx
      subst hx
      have:id∈idsOf st0.ob r.F:=idsOf_mem (l:=r.F) hv hs id hid
      simp [Rec.D,this]
   ·intro j q hj hne
    rw [Nat.zero_add] at hne
    rcases Nat.lt_trichotomy j i with hlt | heq | hgt
    ·refine (apart j q hj (.inr ⟨hlt,?_⟩)).1
     have h4:decide (j<i)=true:=by simpa using hlt
     rw [h4] at hne
     simpa using hne
    ·subst heq
     have h4:decide (j<j)=false:=by simp
     rw [h4,hLi] at hne
     exact (hne rfl).elim
    ·refine (apart j q hj (.inl ⟨hgt,?_⟩)).1
     have h4:decide (j<i)=false:=by simp;omega
     rw [h4] at hne
     simpa using hne)
  have hnext: ∀loc,cont (r.app (foldR (fun k=>listed.getD k false) 0 rs st0)) loc=cont (foldR (fun k=>(listed.setIfInBounds i true).getD k false) 0 rs st0) loc:=by
   intro loc
   rw [cont_app,cont_fold,cont_fold]
   symm
   refine fold_put (q:=r) (rs0:=rs) (st:=st0) (i:=i) rs 0 _ r1 (by rw [Nat.zero_add];exact hLi) ?_ ?_
   ·intro j
    rw [Nat.zero_add]
    simp only [Array.getD_eq_getD_getElem?,Array.getElem?_setIfInBounds]
    by_cases hij:i=j
    ·subst hij
     simp [hil]
    ·have hne: ¬j=i:=fun h=>hij h.symm
     simp [hij,hne]
   ·intro j q hj hlt hl
    rw [Nat.zero_add] at hl
    exact apart j q hj (.inl ⟨hlt,hl⟩)
  unfold wpOpIn
  simp only [ho]
  have key:=drawO_ok (ro:=ro) (N:=N) hC hG (Q:=Q) (K:=wpAnyIn (wideAt ro) N P .any ops Q fuel (listed.setIfInBounds i true)) hg.rel h2 hcong (fun w' β' a' hg'=>by
   refine ih (listed.setIfInBounds i true) a' w' β' (by simpa using hls) ?_ ?_ ((hg.trans hg').ext hnext)
   ·have hli:listed.toList[i]? =some false:=by
     simp only [Array.getElem?_toList,Array.getElem?_eq_getElem hil]
     simp only [Array.getD_eq_getD_getElem?,Array.getElem?_eq_getElem hil,Option.getD_some] at hLi
     rw [hLi]
    have:=cnt_set hli
    rw [Array.toList_setIfInBounds]
    omega
   ·intro m o' hm hl e he
    have up: ∀k,listed.getD k false=true→(listed.setIfInBounds i true).getD k false=true:=by
     intro k hk
     simp only [Array.getD_eq_getD_getElem?,Array.getElem?_setIfInBounds] at hk ⊢
     by_cases hik:i=k
     ·subst hik;simp [hil]
     ·simpa [hik] using hk
    by_cases hmi:m=i
    ·subst hmi
     rw [h1] at hm
     cases hm
     exact up e (hi3 e ((h3 e).1 he))
    ·refine up e (hdown m o' hm ?_ e he)
     simp only [Array.getD_eq_getD_getElem?,Array.getElem?_setIfInBounds] at hl ⊢
     rw [if_neg (fun h=>hmi h.symm)] at hl
     exact hl)
  split
  ·rename_i hw
   rw [if_pos hw] at key
   exact key
  ·rename_i hw
   rw [if_neg hw] at key
   exact key
theorem draw_ok{E:Env}{cf:CallF}(hm:P.follows .mixedOrders=true)(hC:CallOK P E cf)(hG: ∀g C,E.con g=some (.gen true C)→FnOK P g (roC C)):DrawOK P E cf:=by
 intro ops al id Q w X β a st st' hal hr h hQ ro N
 unfold runDraw at h
 split at h
 ·rename_i hback
  obtain ⟨⟨rs,stF⟩,h1,h2⟩:=Tree.bind_eval.1 h
  simp only at h2
  split at h2
  ·rename_i hap
   simp only [Tree.eval,Option.some.injEq] at h2
   subst h2
   refine wpIn_region_any hm ?_
   have hk:Keep (Owned β st.ob) w { w with drawn:=w.drawn+1 }:=⟨Nat.le_refl _,fun _ _ _=>rfl,rfl,rfl⟩
   have hstart:Goes P w { w with drawn:=w.drawn+1 } X β β st.ob st a:=by
    refine ⟨?_,hk,OwnIn.refl _ _ _,Stay.refl _ _⟩
    exact hr.grow ⟨Nat.le_refl _,fun _ _ _=>rfl,rfl,rfl⟩
   refine draw_main hC hG hal h1 hback hap hQ ops.size _ a _ β (by simp) ?_ ?_ ?_
   ·have: ∀n,cnt (List.replicate n false)=n:=by
     intro n
     induction n with
     | zero=>rfl
     | succ n ih=>unfold cnt at ih ⊢;simp [List.replicate_succ]
    rw [Array.toList_replicate,this]
    exact Nat.le_refl _
   ·intro m o _ hl
    have:(Array.replicate ops.size false).getD m false=false:=by
     simp only [Array.getD_eq_getD_getElem?,Array.getElem?_replicate]
     split <;> rfl
    rw [this] at hl
    simp at hl
   ·rw [fold_none _ _ _ _ (fun j _=>by
     simp only [Array.getD_eq_getD_getElem?,Array.getElem?_replicate]
     split <;> rfl)]
    exact hstart
  ·exact (stuck_none h2).elim
 ·exact (stuck_none h).elim
end
section
variable {P:Program} {w w':World} {X Y Y' Z:Nat→Prop} {β β':Nat→Pl} {ob ob':Obs} {a:Act} {st st':St}
def NoCells(w:World)(Z:Nat→Prop):Prop:= ∀b,Z b→ ∀off v,w.cell? ⟨b,off,none⟩≠some v
theorem RD.avoid(hZ:NoCells w Z){x:D}{v:Value}(h:RD w Y x v):RD w (fun b=>Y b∨Z b) x v:=by
 induction h with
 | bool b=>exact .bool b
 | int k n=>exact .int k n
 | str s=>exact .str s
 | slnil e=>exact .slnil e
 | sl e es a cap f hcap hfit hc _ ih=>
  refine .sl e es a cap f hcap hfit ?_ ih
  intro i x j c hi hj
  obtain ⟨h1,h2,h3⟩:=hc i x j c hi hj
  exact ⟨fun hy=>hy.elim h1 fun hz=>hZ _ hz _ _ h3,h2,h3⟩
 | agg cs vs hl _ ih=>exact .agg cs vs hl ih
 | nilp=>exact .nilp
 | nilm=>exact .nilm
 | nilf=>exact .nilf
 | nili=>exact .nili
mutual
theorem RV.avoid(hZ:NoCells w Z): ∀(v:V) (u:Value),RV w Y β ob v u→RV w (fun b=>Y b∨Z b) β ob v u
 | .any,_,_=>by simp [RV]
 | .d x,u,h=>by
  simp only [RV] at h ⊢
  exact h.avoid hZ
 | .agg cs,u,h=>by
  simp only [RV] at h ⊢
  obtain ⟨vs,rfl,h⟩:=h
  exact ⟨vs,rfl,RVL.avoid hZ cs _ h⟩
 | .tup cs,u,h=>by
  simp only [RV] at h ⊢
  obtain ⟨vs,rfl,h⟩:=h
  exact ⟨vs,rfl,RVL.avoid hZ cs _ h⟩
 | .ptr id off,u,h=>by simp only [RV] at h ⊢;exact h
 | .ep id i off,u,h=>by simp only [RV] at h ⊢;exact h
 | .sla id lo n,u,h=>by simp only [RV] at h ⊢;exact h
 | .rp cs,u,h=>by
  simp only [RV] at h ⊢
  obtain ⟨a,rfl,h⟩:=h
  refine ⟨a,rfl,fun j c hj=> ?_⟩
  obtain ⟨h1,h2,v,h3,h4⟩:=h j c hj
  exact ⟨fun hy=>hy.elim h1 fun hz=>hZ _ hz _ _ h3,h2,v,h3,h4.avoid hZ⟩
 | .own id,u,h=>by simp only [RV] at h ⊢;exact h
 | .cap0 e,u,h=>by simp only [RV] at h ⊢;exact h
 | .mp id,u,h=>by simp only [RV] at h ⊢;exact h
 | .yl id,u,h=>by simp only [RV] at h ⊢;exact h
 | .fn f zas cs,u,h=>by
  simp only [RV] at h ⊢
  obtain ⟨us,vs,rfl,h1,h2⟩:=h
  exact ⟨us,vs,rfl,RVL.avoid hZ zas _ h1,RVL.avoid hZ cs _ h2⟩
 | .ifc t x,u,h=>by
  simp only [RV] at h ⊢
  obtain ⟨v,rfl,h⟩:=h
  exact ⟨v,rfl,RV.avoid hZ x _ h⟩
theorem RVL.avoid(hZ:NoCells w Z): ∀(vs:List V) (us:List Value),RVL w Y β ob vs us→RVL w (fun b=>Y b∨Z b) β ob vs us
 | [],[],_=>by simp [RVL]
 | [],_ :: _,h=>by simp [RVL] at h
 | _ :: _,[],h=>by simp [RVL] at h
 | v :: vs,u :: us,h=>by
  simp only [RVL] at h ⊢
  exact ⟨RV.avoid hZ v u h.1,RVL.avoid hZ vs us h.2⟩
end
theorem RL.avoid(hZ:NoCells w Z){e:Sh}{es:List D}{vs:Array Value}(h:RL w Y e es vs):RL w (fun b=>Y b∨Z b) e es vs:=
 ⟨h.1,fun i x j c hi hj=>let ⟨u,h1,h2⟩:=h.2 i x j c hi hj; ⟨u,h1,h2.avoid hZ⟩⟩
theorem RO.avoid(hZ:NoCells w Z){p:Pl}{o:AM.Obj}(h:RO P w Y β ob p o):RO P w (fun b=>Y b∨Z b) β ob p o:=by
 cases o with
 | box cs=>
  obtain ⟨b,c,vs,T,fz,he,hh,hn,hv⟩:=h
  exact ⟨b,c,vs,T,fz,he,hh,hn,RVL.avoid hZ _ _ hv⟩
 | lst e n m z es=>
  cases p with
  | nil=>exact h
  | capless a=>exact h
  | blk b cap=>
   obtain ⟨h1,h2,vs,T,fz,hh,hn,hc,hv⟩:=h
   exact ⟨h1,h2,vs,T,fz,hh,hn,hc,hv.avoid hZ⟩
 | arr e n z es=>
  obtain ⟨b,c,vs,T,fz,he,hh,hn,h1,h2,hv⟩:=h
  exact ⟨b,c,vs,T,fz,he,hh,hn,h1,h2,hv.avoid hZ⟩
 | map ks vs kv=>
  obtain ⟨b,c,es,clock,he,hh,h1,h2,hv⟩:=h
  refine ⟨b,c,es,clock,he,hh,h1,h2,fun i k v hi=> ?_⟩
  obtain ⟨q1,q2,e,q3,q4,q5⟩:=hv i k v hi
  exact ⟨q1,q2,e,q3,q4.avoid hZ,q5.avoid hZ⟩
 | sit s pos=>exact h
 | loop ps ac cc fr s pe=>
  obtain ⟨b,c,rec,he,hh,h1,h2,hv⟩:=h
  exact ⟨b,c,rec,he,hh,h1,h2,RVL.avoid hZ _ _ hv⟩
def OldD(P:Program)(w:World)(b:Nat):Prop:=(∃s,w.heap[b]? =some (.deferred s))∧ ∀p∈tabOf P,p.1≠b
theorem oldD_none(P:Program)(w:World):NoCells w (OldD P w):=by
 rintro b ⟨⟨s,hs⟩,_⟩ off v hc
 simp [World.cell?,hs] at hc
theorem ys_or{b:Nat}:Ys (fun b=>X b∨Z b) β ob b↔(Ys X β ob b∨Z b):=by
 unfold Ys
 constructor
 ·rintro ((h | h) | h)
  ·exact .inl (.inl h)
  ·exact .inr h
  ·exact .inl (.inr h)
 ·rintro ((h | h) | h)
  ·exact .inl (.inl h)
  ·exact .inr h
  ·exact .inl (.inr h)
theorem ys_or_eq:Ys (fun b=>X b∨Z b) β ob=fun b=>Ys X β ob b∨Z b:=funext fun _=>propext ys_or
theorem RelO.wider(h:RelO P w X β ob):RelO P w (fun b=>X b∨OldD P w b) β ob:=by
 have hZ:=oldD_none P w
 refine ⟨fun i o hg=> ?_,h.inj,?_,?_,?_⟩
 ·rw [ys_or_eq];exact (h.obj i o hg).avoid hZ
 ·rintro i o b c hg hp (hx | ⟨⟨s,hs⟩,_⟩)
  ·exact h.notX i o b c hg hp hx
  ·exact (h.obj i o hg).notDef hp hs
 ·rintro b (hx | ⟨⟨s,hs⟩,_⟩)
  ·exact h.xlt b hx
  ·exact (Array.getElem?_eq_some_iff.1 hs).1
 ·rw [ys_or_eq]
  intro p hp
  obtain ⟨h1,h2,h3⟩:=h.tab p hp
  refine ⟨h1,fun hy=>hy.elim h2 fun hz=>hz.2 p hp rfl,fun j c hj=> ?_⟩
  obtain ⟨u,hu,hr⟩:=h3 j c hj
  exact ⟨u,hu,hr.avoid hZ⟩
theorem RVL.wider{vs:List V}{us:List Value}(h:RVL w (Ys X β ob) β ob vs us):RVL w (Ys (fun b=>X b∨OldD P w b) β ob) β ob vs us:=by
 rw [ys_or_eq];exact RVL.avoid (oldD_none P w) _ _ h
theorem ys_sub{b:Nat}(h:Ys X β ob b):Ys (fun b=>X b∨Z b) β ob b:=ys_or.2 (.inl h)
theorem RelO.less(h:RelO P w (fun b=>X b∨Z b) β ob):RelO P w X β ob:=by
 have hs: ∀l,Stays β β ob ob l:=fun l i _ o ho=>⟨o,ho,rfl,like_refl _⟩
 exact ⟨fun i o hg=>(h.obj i o hg).mono (fun _ _ _=>rfl) (fun b _ hy=>ys_sub hy) (fun _ _ _=>rfl) (hs _),h.inj,fun i o b c hg hp hx=>h.notX i o b c hg hp (.inl hx),fun b hx=>h.xlt b (.inl hx),
  h.tab.keep (Nat.le_refl _) (fun _ _ _=>rfl) (fun _ _ hy=>ys_sub hy)⟩
theorem RV.less{v:V}{u:Value}(h:RV w (Ys (fun b=>X b∨Z b) β ob) β ob v u):RV w (Ys X β ob) β ob v u:=
 RV.mono (fun _ _ _=>rfl) (fun _ _ hy=>ys_sub hy) _ _ (fun _ _ o ho=>⟨o,ho,rfl,like_refl _⟩) h
theorem shut_heap{D b:Nat}(hb:b≠D)(q:Go.Obj):(w.putObj D q).heap[b]? =w.heap[b]? :=by
 simp only [World.putObj,Array.getElem?_setIfInBounds]
 rw [if_neg (fun h=>hb h.symm)]
theorem Rel.shut{D:Nat}{ds:List Deferred}(h:Rel P w X β st a)(ha:a.defers= { target:= .collected D,args:= #[] } :: ds):
  w.heap[D]? =some (.deferred (some []))∧Rel P (w.putObj D (.deferred none)) X β st { a with defers:=ds }∧ ∀(v:V) (u:Value),RV w (Ys X β st.ob) β st.ob v u→RV (w.putObj D (.deferred none)) (Ys X β st.ob) β st.ob v u:=by
 have hdf:=h.df
 rw [ha] at hdf
 obtain ⟨⟨D',h1,h2,⟨h3,h5⟩,h6⟩,h4⟩:=hdf
 injection h1 with h1 _
 injection h1 with h1
 subst h1
 refine ⟨h2,?_⟩
 have hZ:NoCells w (fun b=>b=D):=by
  rintro b rfl off v hc
  simp [World.cell?,h2] at hc
 have hk: ∀b,b<w.heap.size→ ¬(Ys X β st.ob b∨b=D)→(w.putObj D (.deferred none)).heap[b]? =w.heap[b]? :=fun b _ hn=>shut_heap (fun e=>hn (.inr e)) _
 have hs: ∀l,Stays β β st.ob st.ob l:=fun l i _ o ho=>⟨o,ho,rfl,like_refl _⟩
 have hsz:w.heap.size≤(w.putObj D (.deferred none)).heap.size:=by simp [World.putObj]
 refine ⟨⟨⟨fun i o hg=>((h.ob.obj i o hg).avoid hZ).mono hk (fun b _ hy=> .inl hy) (fun b cap hp=>shut_heap (fun e=>(h.ob.obj i o hg).notDef (b:=D) (cap:=cap) (by rw [←e];exact hp) h2) _) (hs _),h.ob.inj,h.ob.notX,fun b hx=>Nat.lt_of_lt_of_le (h.ob.xlt b hx) hsz,?_⟩,
  RVL.mono hk (fun b _ hy=> .inl hy) _ _ (hs _) (RVL.avoid hZ _ _ h.fr),?_⟩,fun v u hu=>RV.mono hk (fun b _ hy=> .inl hy) _ _ (hs _) (RV.avoid hZ _ _ hu)⟩
 ·intro p hp
  obtain ⟨q1,q2,q3⟩:=h.ob.tab p hp
  refine ⟨Nat.lt_of_lt_of_le q1 hsz,q2,fun j c hj=> ?_⟩
  obtain ⟨u,hu,hr⟩:=q3 j c hj
  refine ⟨u,?_,(hr.avoid hZ).mono hk (fun b _ hy=> .inl hy)⟩
  rw [←hu]
  exact cell_of_heap (shut_heap (h5 p hp) _)
 ·have key: ∀(l:List Deferred),(∀d'∈l,d'≠{ target:= .collected D,args:= #[] })→Marks P w X l→Marks P (w.putObj D (.deferred none)) X l:=by
   intro l
   induction l with
   | nil=>exact fun _ _=>trivial
   | cons d l ih=>
    intro hne hm
    obtain ⟨⟨D',m1,m2,m3,m4⟩,m5⟩:=hm
    refine ⟨⟨D',m1,?_,m3,m4⟩,ih (fun d' hd=>hne d' (List.mem_cons_of_mem _ hd)) m5⟩
    rw [shut_heap ?_ _]
    ·exact m2
    ·rintro rfl
     exact hne d List.mem_cons_self m1
  exact key ds h6 h4
end
section
variable {P:Program} {w w':World} {X Y Y':Nat→Prop} {β β':Nat→Pl} {ob ob':Obs} {a:Act} {st st':St} {fr:List V}
theorem Invokes.mono{f:FuncId}{args:Array Value}{R R':Value→World→Prop}(h:Invokes P f args w R)(hR: ∀u w',R u w'→R' u w'):Invokes P f args w R':=by
 rcases h with ⟨h1,h2⟩ | ⟨u,w',h1,h2⟩
 ·exact .inl ⟨h1,Calls.mono h2 fun e w' ⟨u,he,hr⟩=>⟨u,he,hR u w' hr⟩⟩
 ·exact .inr ⟨u,w',h1,hR u w' h2⟩
def PureOK(P:Program)(f:FuncId)(g:List D→Tree (List D)):Prop:=
 f≠yNo→ ∀ds rs,(g ds).eval=some rs→ ∀w X (us:Array Value),(∀b,X b→b<w.heap.size)→TabOK P w X→RDs w X ds us.toList→
  Invokes P f us w fun u w'=>RV w' X (fun _=> .nil) [] (retV rs) u∧Keep (fun _=>False) w w'
structure EnvOK(P:Program)(E:Env):Prop where
 prog: ∀f fn,E.prog f=some fn→cFn P f=some fn.erase
 pure: ∀f b g,E.con f=some (.pure b g)→PureOK P f g
 gen: ∀f ro C,E.con f=some (.gen ro C)→FnOK P f (conC ro C)
theorem yInv_mono{us:List Value}{R R':Value→World→Prop}(h:YInv P us w R)(hR: ∀u w',R u w'→R' u w'):YInv P us w R':=by
 obtain ⟨l,rest,fn,tmps,assign,body,h1,h2,h3⟩:=h
 exact ⟨l,rest,fn,tmps,assign,body,h1,h2,fun n=>(h3 n).mono fun e w' ⟨u,he,hr⟩=>⟨u,he,hR u w' hr⟩⟩
theorem callGenY_ok{C:List V→Obs→Tree (V×Obs)}{args:List V}{v:V}{base:Nat}{us:List Value}(hC:YieldOK P C)(hb:64≤base)(h:(callGen C base args st).eval=some (v,st'))(hr:Rel P w X β st a)
  (hargs:RVL w (Ys X β st.ob) β st.ob args us):
  YInv P us w fun u w'=> ∃β',Goes P w w' X β β' st.ob st' a∧RV w' (Ys X β' st'.ob) β' st'.ob v u:=by
 unfold callGen at h
 obtain ⟨d,h1,h2⟩:=Tree.bind_eval.1 h
 simp only [Tree.eval,Option.some.injEq,Prod.mk.injEq] at h2
 obtain ⟨rfl,rfl⟩:=h2
 obtain ⟨Xc,βc,args',obc,vc,o1,hrun,hrel,hra,_,hpost⟩:=callD_ok hr.ob hb hargs h1
 refine yInv_mono (hC args' obc vc o1 hrun w Xc βc us hrel hra) ?_
 rintro u w' ⟨β1,hcame⟩
 exact hpost w' u β1 hcame st.fr a hr
theorem callGen_ok{C:List V→Obs→Tree (V×Obs)}{f:FuncId}{args:List V}{v:V}{base:Nat}{us:Array Value}(hC:FnOK P f C)(hf:f≠yNo)(hb:64≤base)(h:(callGen C base args st).eval=some (v,st'))(hr:Rel P w X β st a)
  (hargs:RVL w (Ys X β st.ob) β st.ob args us.toList):
  Invokes P f us w fun u w'=> ∃β',Goes P w w' X β β' st.ob st' a∧RV w' (Ys X β' st'.ob) β' st'.ob v u:=by
 unfold callGen at h
 obtain ⟨d,h1,h2⟩:=Tree.bind_eval.1 h
 simp only [Tree.eval,Option.some.injEq,Prod.mk.injEq] at h2
 obtain ⟨rfl,rfl⟩:=h2
 obtain ⟨Xc,βc,args',obc,vc,o1,hrun,hrel,hra,_,hpost⟩:=callD_ok hr.ob hb hargs h1
 refine (hC hf args' obc vc o1 hrun w Xc βc us hrel hra).mono ?_
 rintro u w' ⟨β1,hcame⟩
 exact hpost w' u β1 hcame st.fr a hr
theorem retV_ids(rs:List D):(retV rs).ids=[]:=by
 have key: ∀l:List D,V.idsL (l.map .d)=[]:=by
  intro l
  induction l with
  | nil=>simp [V.idsL]
  | cons x l ih=>simp [V.idsL,V.ids,ih]
 unfold retV
 split
 ·simp [V.ids]
 ·simp [V.ids,key]
theorem RD.flat{x:D}{u:Value}(h:RD w Y x u)(hf:x.flat=true):RD w Y' x u:=by
 cases h <;> first
  | exact .bool _
  | exact .int _ _
  | exact .str _
  | simp [D.flat] at hf
theorem flat_rv{rs:List D}{u:Value}(hf:allFlat rs=true)(h:RV w Y β ob (retV rs) u):RV w Y' β' ob' (retV rs) u:=by
 have key: ∀(l:List D) (us:List Value),allFlat l=true→RVL w Y β ob (l.map .d) us→RVL w Y' β' ob' (l.map .d) us:=by
  intro l
  induction l with
  | nil=>
   intro us _ h
   cases us with
   | nil=>simp [RVL]
   | cons u us=>simp [RVL] at h
  | cons x l ih=>
   intro us hf h
   simp only [allFlat,Bool.and_eq_true] at hf
   cases us with
   | nil=>simp [RVL] at h
   | cons u us=>
    simp only [List.map_cons,RVL] at h ⊢
    exact ⟨by have:=(RVd h.1).flat (Y':=Y') hf.1;simpa [RV] using this,ih us hf.2 h.2⟩
 unfold retV at h ⊢
 split
 ·rename_i x
  simp only [allFlat,Bool.and_eq_true] at hf
  have:=(RVd h).flat (Y':=Y') hf.1
  simpa [RV] using this
 ·rename_i hne
  split at h
  ·exact (hne _ rfl).elim
  ·simp only [RV] at h ⊢
   obtain ⟨vs,rfl,h⟩:=h
   exact ⟨vs,rfl,key _ _ hf h⟩
theorem datArgs_ok{m:List Nat}(hR:RelO P w X β ob): ∀{vs:List V} {ds:List D} {l:List Nat} {us:List Value},datArgs ob vs=some (ds,l)→(∀i∈l,i∈m)→RVL w (Ys X β ob) β ob vs us→
  RDs w (Ys X β (ob.freeze m)) ds us
 | [],ds,l,us,h,_,hv=>by
  simp only [datArgs,Option.some.injEq,Prod.mk.injEq] at h
  obtain ⟨rfl,rfl⟩:=h
  cases us with
  | nil=>exact ⟨rfl,fun j c v hc=>by simp at hc⟩
  | cons u us=>simp [RVL] at hv
 | v :: vs,ds,l,us,h,hl,hv=>by
  simp only [datArgs] at h
  cases h1:dat ob v with
  | none=>simp [h1] at h
  | some xl=>
   cases h2:datArgs ob vs with
   | none=>simp [h1,h2] at h
   | some ys=>
    simp only [h1,h2,Option.some.injEq,Prod.mk.injEq] at h
    obtain ⟨rfl,rfl⟩:=h
    cases us with
    | nil=>simp [RVL] at hv
    | cons u us=>
     simp only [RVL] at hv
     have e1:=dat_ok (m:=m) hR (x:=xl.1) (l:=xl.2) h1 (fun i hi=>hl i (List.mem_append_left _ hi)) hv.1
     have e2:=datArgs_ok (m:=m) hR (ds:=ys.1) (l:=ys.2) h2 (fun i hi=>hl i (List.mem_append_right _ hi)) hv.2
     refine ⟨by simp [e2.1],fun j c v hc hv'=> ?_⟩
     cases j with
     | zero=>
      simp only [List.getElem?_cons_zero,Option.some.injEq] at hc hv'
      subst hc hv'
      exact e1
     | succ j=>exact e2.2 j c v (by simpa using hc) (by simpa using hv')
theorem EnvOK.enters{E:Env}(hE:EnvOK P E){f:Nat}{fn:AFn}(hfn:E.prog f=some fn)(args:Array Value)(w:World):(callFunc f args).run P w= .ok (.enter f args) w:=by
 have hc:=hE.prog f fn hfn
 unfold cFn at hc
 split at hc
 ·rename_i pf hpf
  split at hc
  ·simp at hc
  ·rename_i hname
   split at hc
   ·simp at hc
   ·split at hc
    ·rename_i c hbody
     exact MuLone.run_callFunc_enter hpf (by simpa using hname) hbody args w
    ·simp at hc
 ·simp at hc
theorem callV_ok{E:Env}{cf:CallF}(hE:EnvOK P E)(hf: ∀f,FnOK P f (cf f))(hy:YieldOK P (cf yNo)):CallOK P E cf:=by
 refine ⟨fun f fn hfn args w=>hE.enters hfn args w,?_,fun args st v st' base hb h w X β a us hr hargs=>callGenY_ok hy hb h hr hargs⟩
 intro f args st v st' base hb h w X β a us hr hargs
 unfold callV at h
 split at h
 ·exact (stuck_none h).elim
 rename_i hyn
 have hyn':f≠yNo:=fun he=>hyn (by rw [he];exact Nat.beq_refl _)
 split at h
 ·rename_i bo g hcon
  split at h
  ·rename_i ds l hds
   obtain ⟨rs,h1,h2⟩:=Tree.bind_eval.1 h
   have hrf:=hr.freeze (fr:=st.fr) (ob:=st.ob) l
   have hd:=datArgs_ok (m:=l) hr.ob hds (fun i hi=>hi) hargs
   have hx: ∀b,Ys X β (st.ob.freeze l) b→b<w.heap.size:=by
    rintro b (hx | ⟨i,o,c,g1,g2,g3⟩)
    ·exact hr.ob.xlt b hx
    ·exact (hrf.ob.obj i o g1).lt g3
   refine (hE.pure f bo g hcon hyn' ds rs h1 w _ us hx hrf.ob.tab hd).mono ?_
   rintro u w' ⟨hv,hk⟩
   cases bo with
   | true=>
    simp only at h2
    split at h2
    ·rename_i hfl
     simp only [Tree.eval,Option.some.injEq,Prod.mk.injEq] at h2
     obtain ⟨rfl,rfl⟩:=h2
     exact ⟨β,⟨hr.grow hk,hk.mono fun _ _ h=>h.elim,OwnIn.refl _ _ _,Stay.refl _ _⟩,flat_rv hfl hv⟩
    ·exact (stuck_none h2).elim
   | false=>
    simp only [Tree.eval,Option.some.injEq,Prod.mk.injEq] at h2
    obtain ⟨rfl,rfl⟩:=h2
    refine ⟨β,⟨hrf.grow hk,hk.mono fun _ _ h=>h.elim,OwnIn.freeze l,freeze_stay l⟩,?_⟩
    exact RV.mono (fun _ _ _=>rfl) (fun _ _ h=>h) _ _ (by rw [retV_ids];intro i hi;simp at hi) hv
  ·exact (stuck_none h).elim
 ·rename_i ro C hcon
  exact callGen_ok (hE.gen f ro C hcon) hyn' hb h hr hargs
 ·exact callGen_ok (hf f) hyn' hb h hr hargs
theorem pad_rvl{us:List Value}{vs:List V}(h:RVL w Y β ob vs us)(n:Nat):RVL w Y β ob (padTo n vs) (us++List.replicate (n - us.length) undef):=by
 unfold padTo
 rw [h.length]
 refine h.append ?_
 generalize n - us.length=k
 induction k with
 | zero=>simp [RVL]
 | succ k ih=>
  simp only [List.replicate_succ,RVL]
  exact ⟨rv_undef _ _ _ _,ih⟩
theorem leaves_marks{pf:Func}{n:Nat}{R:Ending→World→Prop}{I:World→Prop}{tmps:Array Value}
  (hI: ∀w D,I w→w.heap[D]? =some (.deferred (some []))→ ¬X D→(∀p∈tabOf P,p.1≠D)→I (w.putObj D (.deferred none)))
  (hR: ∀w,I w→Rel P w X β st { tmps:=tmps,defers:=[] }→ ∃u,(results pf tmps).run P w= .ok u w∧R (.returned u) w): ∀(ds:List Deferred) (w:World),I w→Rel P w X β st { tmps:=tmps,defers:=ds }→
  LeavesInM Fence.wide n P pf tmps R ds .returning w
 | [],w,hi,hr=>by
  obtain ⟨u,h1,h2⟩:=hR w hi hr
  exact ⟨u,h1,h2⟩
 | d :: ds,w,hi,hr=>by
  have hdf:=hr.df
  obtain ⟨⟨D,h1,h2,⟨h3,h5⟩,h6⟩,h4⟩:=hdf
  subst h1
  obtain ⟨_,q2,_⟩:=hr.shut rfl
  exact ⟨by simp,.inl ⟨D,_,rfl,run_takeDeferred h2,leaves_marks hI hR ds _ (hI w D hi h2 h3 h5) q2⟩⟩
theorem enter_ok{E:Env}{cf:CallF}{n:Nat}(hm:P.follows .mixedOrders=true)(hE:EnvOK P E)(hC:CallOK P E cf){f:FuncId}{fn:AFn}(hfn:E.prog f=some fn){args:List V}{v:V}(h:(enter E cf n fn args ob).eval=some (v,ob'))
  {us:Array Value} (hr:RelO P w X β ob) (hargs:RVL w (Ys X β ob) β ob args us.toList):Invokes P f us w fun u w'=> ∃β',Came P w w' X β β' ob ob' v u:=by
 have hc:=hE.prog f fn hfn
 unfold cFn at hc
 split at hc
 ·rename_i pf hpf
  split at hc
  ·simp at hc
  ·rename_i hname
   split at hc
   ·simp at hc
   ·rename_i hres
    split at hc
    ·rename_i c hbody
     simp only [Option.some.injEq,AFn.erase] at hc
     injection hc with hc1 hc2 hc3
     unfold enter at h
     obtain ⟨⟨e,st⟩,h1,h2⟩:=Tree.bind_eval.1 h
     have hres':pf.results.toList.all (resOk P)=true:=by simpa using hres
     have hvs: ∃vs,(resV st fn.res).eval=some vs∧v=retOf vs∧ob'=st.ob∧(e= .nrm∨e= .ret):=by
      cases e with
      | ext id=>exact (stuck_none h2).elim
      | nrm=>
       obtain ⟨vs,q1,q2⟩:=Tree.bind_eval.1 h2
       simp only [Tree.eval,Option.some.injEq,Prod.mk.injEq] at q2
       exact ⟨vs,q1,q2.1.symm,q2.2.symm,.inl rfl⟩
      | ret=>
       obtain ⟨vs,q1,q2⟩:=Tree.bind_eval.1 h2
       simp only [Tree.eval,Option.some.injEq,Prod.mk.injEq] at q2
       exact ⟨vs,q1,q2.1.symm,q2.2.symm,.inr rfl⟩
     obtain ⟨vs,hv1,rfl,rfl,he⟩:=hvs
     refine .inl ⟨MuLone.run_callFunc_enter hpf (by simpa using hname) hbody us w,?_⟩
     refine (callsIn_wide (n:=0)).1 (callsIn_of_wp_marks hpf hbody trivial ?_)
     have hrel:Rel P w (fun b=>X b∨OldD P w b) β ⟨padTo fn.ntmps args,ob⟩ { tmps:=us++Array.replicate (pf.ntmps - us.size) undef,defers:=[] }:=by
      refine ⟨hr.wider,?_,trivial⟩
      have:=pad_rvl (RVL.wider (P:=P) hargs) fn.ntmps
      rw [←hc1] at this ⊢
      simpa using this
     have hwd:(fun ro:Option Nat=>wideAt ro) none=Fence.wide:=rfl
     rw [←hwd]
     refine runC_ok hC (draw_ok hm hC fun g C hg=>hE.gen g true C hg) none 0 fn.body (.inl rfl) c w β _ _ e st _ hc3 hrel h1 fun w1 β1 a1 hg=> ?_
     rw [←hc2] at hv1
     have hI: ∀w2 D,(Keep (Owned β ob) w w2)→w2.heap[D]? =some (.deferred (some []))→ ¬(X D∨OldD P w D)→(∀p∈tabOf P,p.1≠D)→Keep (Owned β ob) w (w2.putObj D (.deferred none)):=by
      intro w2 D hk hd hx ht
      refine ⟨by simpa [World.putObj] using hk.size,fun b hb ho=> ?_,hk.out⟩
      have hne:b≠D:=by
       rintro rfl
       rw [hk.heap b hb ho] at hd
       exact hx (.inr ⟨⟨_,hd⟩,ht⟩)
      rw [shut_heap hne,hk.heap b hb ho]
     have hpost:LeavesInM Fence.wide 0 P pf a1.tmps (fun e w'=> ∃u,e= .returned u∧ ∃β',Came P w w' X β β' ob st.ob (retOf vs) u) a1.defers .returning w1:=by
      refine leaves_marks (X:=fun b=>X b∨OldD P w b) (β:=β1) (st:=st) (I:=fun w2=>Keep (Owned β ob) w w2) hI ?_ a1.defers w1 hg.keep hg.rel
      intro w2 hk hrel2
      obtain ⟨u,hu1,hu2⟩:=results_ok (P:=P) hres' hrel2 hv1
      exact ⟨u,hu1,u,rfl,β1,hrel2.ob.less,hu2.less,hk,hg.own,hg.stay⟩
     rcases he with rfl | rfl <;> exact hpost
    ·simp at hc
 ·simp at hc
theorem setPs_rvl: ∀(ps:List Nat) (vs:List V) (rest:List Value) (fr fr1:List V) (t:Array Value),setPs fr ps vs=some fr1→RVL w Y β ob fr t.toList→RVL w Y β ob vs rest→
  ps.length=rest.length∧RVL w Y β ob fr1 ((ps.zip rest).foldl (fun t (q:Nat×Value)=>t.setIfInBounds q.1 q.2) t).toList
 | [],[],rest,fr,fr1,t,h,hf,hv=>by
  simp only [setPs,Option.some.injEq] at h
  subst h
  cases rest with
  | nil=>exact ⟨rfl,hf⟩
  | cons u us=>simp [RVL] at hv
 | p :: ps,v :: vs,rest,fr,fr1,t,h,hf,hv=>by
  simp only [setPs] at h
  cases rest with
  | nil=>simp [RVL] at hv
  | cons u us=>
   simp only [RVL] at hv
   obtain ⟨h1,h2⟩:=setPs_rvl ps vs us (fr.set p v) fr1 (t.setIfInBounds p u) h (by rw [Array.toList_setIfInBounds];exact hf.set hv.1 p) hv.2
   exact ⟨by simp [h1],h2⟩
 | [],_ :: _,_,_,_,_,h,_,_=>by simp [setPs] at h
 | _ :: _,[],_,_,_,_,h,_,_=>by simp [setPs] at h
theorem Goes.ends{l:Nat}{w0:World}{X:Nat→Prop}{β0:Nat→Pl}{ob0:Obs}{id s:Nat}{pe:Option (Option Nat)}{t:Bool}{jump:Option Code}{v:V}{st:St}{ob':Obs}
  (hg:Goes P w0 w X β0 β ob0 st a) (hid: ∃o,ob0.get id=some o∧(β0 id).block=l) (h64:id<64) (h:(endLp id s pe t st.ob).eval=some (v,ob')) (hj:penOf pe=jump) (ht:jump.isNone=t) (hs:stNo (if jump.isNone then .ready else .done)=s):
  ∃u w',(Instr.endRound l jump).run P w= .ok u w'∧ ∃u',Ending.returned u= .returned u'∧ ∃β',Came P w0 w' X β0 β' ob0 ob' v u':=by
 unfold endLp at h
 split at h
 ·rename_i ps a1 c1 fr1 pe1 ho
  simp only [Tree.eval,Option.some.injEq,Prod.mk.injEq] at h
  obtain ⟨rfl,rfl⟩:=h
  obtain ⟨o0,ho0,hb0⟩:=hid
  obtain ⟨o1,g1,_,hβ,_⟩:=hg.stay id _ h64 ho rfl
  have hobj:=hg.rel.ob.obj id _ ho
  obtain ⟨b,cap,rec,hp,hh,hq,hst,hfr⟩:=hobj
  have hbl:b=l:=by rw [←hb0,←hβ,hp];rfl
  subst hbl
  have hset:=good_set (o:= .loop ps a1 c1 fr1 s pe) (w':=w.putObj b (.loop { rec with state:=if jump.isNone then .ready else .done,pending:=jump })) (fr:=st.fr) (ob:=st.ob) (a:=a) hg.rel ho (by simp [Obj.like]) rfl rfl ⟨by simp [World.putObj],rfl,rfl⟩
   (fun b' _ hn=>shut_heap (fun e=>hn ⟨_,cap,ho,rfl,by rw [e];exact hp⟩) _)
   (fun hvs _=>⟨b,cap,{ rec with state:=if jump.isNone then .ready else .done,pending:=jump },hp,by simp only [World.putObj,Array.getElem?_setIfInBounds,if_true];rw [if_pos (Array.getElem?_eq_some_iff.1 hh).1],hq,⟨hs,hj.symm⟩,hvs _ _ hfr⟩)
  obtain ⟨q1,q2,q3,q4⟩:=hset
  have hg2:Goes P w _ X β β st.ob ⟨st.fr,st.ob.set id (.loop ps a1 c1 fr1 s pe)⟩ a:=⟨q1,q2,q3,q4⟩
  have hg3:=hg.trans hg2
  refine ⟨_,_,run_endRound jump hh,.bool jump.isNone,rfl,β,hg3.rel.ob,?_,hg3.keep,hg3.own,hg3.stay⟩
  simp only [RV]
  rw [ht]
  exact .bool t
 ·exact (stuck_none h).elim
theorem enterY_ok{E:Env}{cf:CallF}{n:Nat}(hm:P.follows .mixedOrders=true)(hE:EnvOK P E)(hC:CallOK P E cf):YieldOK P (enterY E cf n):=by
 intro args ob v ob' h w X β us hr hargs
 unfold enterY at h
 split at h
 ·rename_i id vs
  split at h
  ·rename_i ps ac cc fr pe0 ho
   split at h
   ·rename_i hcond
    simp only [Bool.and_eq_true] at hcond
    obtain ⟨hn1,hn2,hn3⟩:=hcond
    have h64:id<64:=Nat.le_of_ble_eq_true hn3
    split at h
    ·rename_i fr1 hset
     cases us with
     | nil=>simp [RVL] at hargs
     | cons u0 rest=>
      simp only [RVL] at hargs
      obtain ⟨hu0,hrest⟩:=hargs
      simp only [RV] at hu0
      obtain ⟨l,rfl,hl⟩:=hu0
      have hl:=hl _ ho
      obtain ⟨b,cap,rec,hp,hh,hq,hst,hfr⟩:=hr.obj id _ ho
      have hbl:b=l:=by rw [hl,hp];rfl
      subst hbl
      obtain ⟨hlen,hfr1⟩:=setPs_rvl ps vs rest fr fr1 rec.tmps hset hfr hrest
      have hsz:rest.toArray.size=rec.params.size:=by
       rw [←Array.length_toList (xs:=rec.params),hq.1,hlen];simp
      obtain ⟨⟨e,st⟩,h1,h2⟩:=Tree.bind_eval.1 h
      refine ⟨b,rest,_,_,_,_,rfl,run_yield hh hsz,fun N=> ?_⟩
      have hD:=draw_ok (P:=P) (cf:=cf) hm hC fun g C hg=>hE.gen g true C hg
      have hfold:((rec.params.zip rest.toArray).foldl (fun tmps (x:Tmp×Value)=>match x with | (t,a)=>tmps.setIfInBounds t a) rec.tmps)=((ps.zip rest).foldl (fun t (q:Nat×Value)=>t.setIfInBounds q.1 q.2) rec.tmps):=by
       rw [←Array.foldl_toList,Array.toList_zip,hq.1]
      have hrel:Rel P w X β ⟨fr1,ob⟩ { tmps:=((ps.zip rest).foldl (fun t (q:Nat×Value)=>t.setIfInBounds q.1 q.2) rec.tmps),defers:=[] }:=⟨hr,hfr1,trivial⟩
      refine roundIn_of_wpIn trivial ?_
      rw [hfold]
      refine runC_ok hC hD (some b) N ac (.inr hn1) rec.assign w β _ ⟨fr1,ob⟩ e st _ hq.2.1 hrel h1 fun w1 β1 a1 hg=> ?_
      cases e with
      | ext j=>exact (stuck_none h2).elim
      | ret=>exact (stuck_none h2).elim
      | nrm=>
       simp only at h2
       split at h2
       ·rename_i ps' a' c' fr' pe' ho1
        obtain ⟨o1,g1,_,hβ,_⟩:=hg.stay id _ h64 ho1 rfl
        obtain ⟨b1,cap1,rec1,hp1,hh1,hq1,hst1,hfr1'⟩:=hg.rel.ob.obj id _ ho1
        have hb1:b1=b:=by rw [hβ,hp] at hp1;cases hp1;rfl
        subst hb1
        have hready:rec1.state= .ready:=by
         have:=hst1.1
         cases hs:rec1.state <;> rw [hs] at this <;> first | rfl | cases this
        obtain ⟨q1,q2,q3,q4⟩:=good_set (o:= .loop ps' a' c' fr' 1 pe') (w':=w1.putObj b1 (.loop { rec1 with state:= .busy })) (fr:=st.fr) (ob:=st.ob) (a:=a1) hg.rel ho1 (by simp [Obj.like]) rfl rfl ⟨by simp [World.putObj],rfl,rfl⟩
         (fun b' _ hn=>shut_heap (fun e=>hn ⟨_,cap1,ho1,rfl,by rw [e];exact hp1⟩) _)
         (fun hvs _=>⟨b1,cap1,{ rec1 with state:= .busy },hp1,by simp only [World.putObj,Array.getElem?_setIfInBounds,if_true];rw [if_pos (Array.getElem?_eq_some_iff.1 hh1).1],hq1,⟨rfl,hst1.2⟩,hvs _ _ hfr1'⟩)
        have hg2:Goes P w1 _ X β1 β1 st.ob ⟨st.fr,st.ob.set id (.loop ps' a' c' fr' 1 pe')⟩ a1:=⟨q1,q2,q3,q4⟩
        refine ⟨_,run_beginRound hh1 hready,?_⟩
        obtain ⟨⟨e2,st2⟩,h3,h4⟩:=Tree.bind_eval.1 h2
        refine runC_ok hC hD (some b1) N cc (.inr hn2) rec.body _ β1 a1 _ e2 st2 _ hq.2.2 hg2.rel h3 fun w3 β3 a3 hg3=> ?_
        have hgo:=(hg.trans hg2).trans hg3
        have hid: ∃o,ob.get id=some o∧(β id).block=b1:=⟨_,ho,hl.symm⟩
        cases e2 with
        | nrm=>exact hgo.ends hid h64 h4 rfl rfl rfl
        | ret=>exact hgo.ends hid h64 h4 rfl rfl rfl
        | ext j=>exact hgo.ends hid h64 h4 rfl rfl rfl
       ·exact (stuck_none h2).elim
    ·exact (stuck_none h).elim
   ·exact (stuck_none h).elim
  ·exact (stuck_none h).elim
 ·exact (stuck_none h).elim
theorem callN_both{E:Env}(hm:P.follows .mixedOrders=true)(hE:EnvOK P E): ∀(n:Nat),(∀f,FnOK P f (callN E n f))∧YieldOK P (callN E n yNo)
 | 0=>by
  refine ⟨fun f _ args ob v ob' h=> ?_,fun args ob v ob' h=> ?_⟩ <;> simp [callN,Tree.eval] at h
 | n+1=>by
  obtain ⟨i1,i2⟩:=callN_both hm hE n
  have hC:CallOK P E (callN E n):=callV_ok hE i1 i2
  refine ⟨fun f hf args ob v ob' h w X β us hr hargs=> ?_,fun args ob v ob' h=> ?_⟩
  ·simp only [callN] at h
   rw [if_neg (fun he=>hf (Nat.eq_of_beq_eq_true he))] at h
   split at h
   ·rename_i fn hfn
    exact enter_ok hm hE hC hfn h hr hargs
   ·exact (stuck_none h).elim
  ·simp only [callN] at h
   rw [if_pos (Nat.beq_refl _)] at h
   exact enterY_ok hm hE hC args ob v ob' h
theorem callN_ok{E:Env}(hm:P.follows .mixedOrders=true)(hE:EnvOK P E)(n:Nat)(f:FuncId):FnOK P f (callN E n f):=(callN_both hm hE n).1 f
def AllOK(P:Program):List (Nat×AFn)→Prop
 | []=>True
 | (i,f) :: l=>cFn P i=some f.erase∧AllOK P l
theorem AllOK.find: ∀{l:List (Nat×AFn)},AllOK P l→ ∀f fn,findFn l f=some fn→cFn P f=some fn.erase
 | [],_,f,fn,h=>by simp [findFn] at h
 | (k,g) :: l,ha,f,fn,h=>by
  simp only [findFn] at h
  split at h
  ·rename_i hk
   have:=Nat.eq_of_beq_eq_true hk
   subst this
   cases h
   exact ha.1
  ·exact AllOK.find ha.2 f fn h
theorem EnvOK.of_table{l:List (Nat×AFn)}(h:AllOK P l):EnvOK P ⟨fun _=>none,findFn l⟩:=
 ⟨h.find,fun f b g hc=>by simp at hc,fun f ro C hc=>by simp at hc⟩
end
def iterM(m:St→St)(body:St→Tree (Ex×St)):Nat→St→Tree (Ex×St)
 | 0,_=> .stuck
 | n+1,st=>(body st).bind fun (e,st')=>match e with
  | .nrm=>iterM m body n (m st')
  | .ext id=> .ret (.ext id,st')
  | .ret=> .ret (.ret,st')
theorem iter_iterM(m:St→St)(body:St→Tree (Ex×St)): ∀n st,iter m body n st=iterM m body n (m st)
 | 0,st=>rfl
 | n+1,st=>by
  simp only [iter,iterM]
  congr 1
  funext p
  obtain ⟨e,st'⟩:=p
  cases e <;> simp only [iter_iterM m body n]
def runM(E:Env)(cf:CallF)(n:Nat):AC→St→Tree (Ex×St)
 | .skip,st=> .ret (.nrm,st)
 | .ret,st=> .ret (.ret,st)
 | .seq a b,st=>(runM E cf n a st).bind fun (e,st')=>match e with
  | .nrm=>runM E cf n b st'
  | .ext id=> .ret (.ext id,st')
  | .ret=> .ret (.ret,st')
 | .cond c a b,st=>match opd st.fr c with
  | .d (.bool t)=> .ite t (fun _=>runM E cf n a (setTmp c true st)) (fun _=>runM E cf n b (setTmp c false st))
  | _=> .stuck
 | .block id c,st=>(runM E cf n c st).bind fun (e,st')=>match e with
  | .ext j=>if Nat.beq j id then .ret (.nrm,st') else .ret (.ext j,st')
  | .nrm=> .ret (.nrm,st')
  | .ret=> .ret (.ret,st')
 | .loop _ live c,st=>iterM (maskSt live) (runM E cf n c) n (maskSt live st)
 | .exit id,st=> .ret (.ext id,st)
 | .ops d l,st=>match d with
  | false=>(runOps E cf l st).bind fun st'=> .ret (.nrm,st')
  | true=>(runDraw E cf l st).bind fun st'=> .ret (.nrm,st')
 | .scope c,st=>runM E cf n c st
 | .rfn base live f ps a c,st=>runC E cf n (.rfn base live f ps a c) st
 | .bad,_=> .stuck
theorem runM_eq(E:Env)(cf:CallF)(n:Nat): ∀(c:AC),runM E cf n c=runC E cf n c
 | .skip=>rfl
 | .ret=>rfl
 | .seq a b=>by
  funext st
  simp only [runM,runC,runM_eq E cf n a,runM_eq E cf n b]
  rfl
 | .cond c a b=>by
  funext st
  simp only [runM,runC,runM_eq E cf n a,runM_eq E cf n b]
  rfl
 | .block id c=>by
  funext st
  simp only [runM,runC,runM_eq E cf n c]
  rfl
 | .loop _ live c=>by
  funext st
  simp only [runM,runC,runM_eq E cf n c,iter_iterM]
 | .exit id=>rfl
 | .ops d l=>by
  funext st
  cases d <;> rfl
 | .scope c=>by
  funext st
  simp only [runM,runC,runM_eq E cf n c]
 | .rfn base live f ps a c=>rfl
 | .bad=>rfl
def leave(fn:AFn)(t:Tree (Ex×St)):Tree (V×Obs):=
 t.bind fun (e,st)=>match e with
  | .ext _=> .stuck
  | _=>(resV st fn.res).bind fun vs=> .ret (retOf vs,st.ob)
def enterM(E:Env)(cf:CallF)(n:Nat)(fn:AFn)(args:List V)(ob:Obs):Tree (V×Obs):=
 leave fn (runM E cf n fn.body ⟨padTo fn.ntmps args,ob⟩)
theorem enterM_eq(E:Env)(cf:CallF)(n:Nat)(fn:AFn)(args:List V)(ob:Obs):enterM E cf n fn args ob=enter E cf n fn args ob:=by
 unfold enterM enter leave
 rw [runM_eq]
 rfl
theorem callN_succ{E:Env}{n f:Nat}{fn:AFn}(h:E.prog f=some fn)(args:List V)(ob:Obs)(hy:Nat.beq f yNo=false:=by rfl):callN E (n+1) f args ob=enterM E (callN E n) n fn args ob:=by
 rw [enterM_eq]
 simp only [callN,h,hy]
 rfl
def hasL(key:Nat):AC→Bool
 | .seq a b=>hasL key a||hasL key b
 | .cond _ a b=>hasL key a||hasL key b
 | .block _ c=>hasL key c
 | .loop k _ c=>Nat.beq k key||hasL key c
 | .scope c=>hasL key c
 | _=>false
def runFrom(E:Env)(cf:CallF)(n j key:Nat):AC→St→Tree (Ex×St)
 | .seq a b,st=>match hasL key a with
  | true=>(runFrom E cf n j key a st).bind fun (e,st')=>match e with
   | .nrm=>runM E cf n b st'
   | .ext id=> .ret (.ext id,st')
   | .ret=> .ret (.ret,st')
  | false=>runFrom E cf n j key b st
 | .cond _ a b,st=>match hasL key a with
  | true=>runFrom E cf n j key a st
  | false=>runFrom E cf n j key b st
 | .block id c,st=>(runFrom E cf n j key c st).bind fun (e,st')=>match e with
  | .ext j=>if Nat.beq j id then .ret (.nrm,st') else .ret (.ext j,st')
  | .nrm=> .ret (.nrm,st')
  | .ret=> .ret (.ret,st')
 | .loop _ live c,st=>iterM (maskSt live) (runM E cf n c) j st
 | .scope c,st=>runFrom E cf n j key c st
 | _,_=> .stuck
def resume(E:Env)(cf:CallF)(n j key:Nat)(fn:AFn)(st:St):Tree (V×Obs):=
 leave fn (runFrom E cf n j key fn.body st)
def frame(n:Nat)(l:List (Nat×V)):List V:=l.foldl (fun fr p=>fr.set p.1 p.2) (List.replicate n .any)
def tails:Nat→List D→List D
 | 0,l=>l
 | n+1,l=>(tails n l).tail
def fc(k:Nat)(x:D):D:=(tails k x.cells).headD .nilp
def fi(k:Nat)(x:D):Int:=(fc k x).toInt
def fs(k:Nat)(x:D):List UInt8:=(fc k x).toStr
def fn(k:Nat)(x:D):Bool:=(fc k x).toNil
def fl(k:Nat)(x:D):List D:=(fc k x).toEs
def outDat(ob:Obs)(v:V):Option (List D):=
 match v with
 | .tup vs=>match datArgs ob vs with
  | some (ds,_)=>if Nat.beq ds.length 1 then none else some ds
  | none=>none
 | v=>(dat ob v).map fun p=>[p.1]
def Tree.out:Tree (V×Obs)→Option (List D)
 | .ret (v,ob)=>outDat ob v
 | .ite b t f=>match b with
  | true=>(t ()).out
  | false=>(f ()).out
 | .stuck=>none
def lowObs:Obs→Obs
 | []=>[]
 | (k,o) :: l=>match Nat.blt k 64 with
  | true=>(k,o) :: lowObs l
  | false=>lowObs l
def Tree.outG:Tree (V×Obs)→Option (V×Obs)
 | .ret (v,ob)=>some (v,lowObs ob)
 | .ite b t f=>match b with
  | true=>(t ()).outG
  | false=>(f ()).outG
 | .stuck=>none
theorem Tree.outG_eval: ∀{t:Tree (V×Obs)} {r:V×Obs},t.outG=some r→ ∃ob,t.eval=some (r.1,ob)∧r.2=lowObs ob
 | .ret (v,ob),r,h=>by
  simp only [Tree.outG,Option.some.injEq] at h
  subst h
  exact ⟨ob,rfl,rfl⟩
 | .ite b t f,r,h=>by
  cases b with
  | true=>exact Tree.outG_eval (t:=t ()) h
  | false=>exact Tree.outG_eval (t:=f ()) h
 | .stuck,r,h=>by simp [Tree.outG] at h
theorem lowObs_none: ∀(ob:Obs) (k:Nat),Nat.blt k 64=false→ ∀o,(lowObs ob).get k=some o→False
 | [],k,_,o,h=>by simp [lowObs,Obs.get] at h
 | (j,p) :: l,k,hk,o,h=>by
  simp only [lowObs] at h
  split at h
  ·rename_i hj
   simp only [Obs.get] at h
   split at h
   ·rename_i he
    have:=Nat.eq_of_beq_eq_true he
    subst this
    rw [hk] at hj
    cases hj
   ·exact lowObs_none l k hk o h
  ·exact lowObs_none l k hk o h
theorem lowObs_sub: ∀(ob:Obs),Sub (lowObs ob) ob
 | [],i,o,h=>h
 | (k,p) :: l,i,o,h=>by
  simp only [lowObs] at h
  simp only [Obs.get]
  split at h
  ·simp only [Obs.get] at h
   split
   ·rename_i hk;rw [if_pos hk] at h;exact h
   ·rename_i hk;rw [if_neg hk] at h;exact lowObs_sub l i o h
  ·rename_i hb
   split
   ·rename_i hk
    have:=Nat.eq_of_beq_eq_true hk
    subst this
    exfalso
    exact lowObs_none l k hb o h
   ·exact lowObs_sub l i o h
theorem Tree.out_eval: ∀{t:Tree (V×Obs)} {rs:List D},t.out=some rs→ ∃v ob,t.eval=some (v,ob)∧outDat ob v=some rs
 | .ret (v,ob),rs,h=>⟨v,ob,rfl,h⟩
 | .ite b t f,rs,h=>by
  cases b with
  | true=>exact Tree.out_eval (t:=t ()) h
  | false=>exact Tree.out_eval (t:=f ()) h
 | .stuck,rs,h=>by simp [Tree.out] at h
theorem Tree.out_of: ∀{t:Tree (V×Obs)} {v:V} {ob:Obs} {rs:List D},t.eval=some (v,ob)→outDat ob v=some rs→t.out=some rs
 | .ret (v',ob'),v,ob,rs,h,h'=>by
  simp only [Tree.eval,Option.some.injEq,Prod.mk.injEq] at h
  obtain ⟨rfl,rfl⟩:=h
  exact h'
 | .ite b t f,v,ob,rs,h,h'=>by
  cases b with
  | true=>exact Tree.out_of (t:=t ()) h h'
  | false=>exact Tree.out_of (t:=f ()) h h'
 | .stuck,v,ob,rs,h,h'=>by simp [Tree.eval] at h
section
variable {P:Program} {w w':World} {X Y Y':Nat→Prop} {β β':Nat→Pl} {ob ob':Obs}
theorem outDat_ok{v:V}{rs:List D}{u:Value}(hR:RelO P w X β ob)(h:outDat ob v=some rs)(hv:RV w (Ys X β ob) β ob v u):RV w X (fun _=> .nil) [] (retV rs) u:=by
 have one: ∀{v:V} {x:D} {l:List Nat},dat ob v=some (x,l)→RV w (Ys X β ob) β ob v u→RV w X (fun _=> .nil) [] (retV [x]) u:=by
  intro v x l h hv
  have h1:datArgs ob [v]=some ([x],l):=by simp [datArgs,h]
  have:=datArgs_ok (m:=l) hR h1 (fun i hi=>hi) (us:=[u]) (by simp [RVL,hv])
  have:=this.2 0 x u (by simp) (by simp)
  simp only [retV,RV]
  exact this.mono (fun _ _ _=>rfl) (fun b _ hb=> .inl hb)
 unfold outDat at h
 split at h
 ·rename_i vs
  simp only [RV] at hv
  obtain ⟨us,rfl,hv⟩:=hv
  cases hd:datArgs ob vs with
  | none=>simp [hd] at h
  | some p=>
   obtain ⟨ds,l⟩:=p
   simp only [hd] at h
   split at h
   ·cases h
   rename_i hne
   simp only [Option.some.injEq] at h
   subst h
   have hds:=datArgs_ok (m:=l) hR hd (fun i hi=>hi) hv
   have hds:RDs w X ds us.toList:=⟨hds.1,fun j c v h1 h2=>(hds.2 j c v h1 h2).mono (fun _ _ _=>rfl) (fun b _ hb=> .inl hb)⟩
   by_cases h1: ∃x,ds=[x]
   ·obtain ⟨x,rfl⟩:=h1
    simp at hne
   ·have:retV ds= .tup (ds.map .d):=by
     unfold retV
     split
     ·exact (h1 ⟨_,rfl⟩).elim
     ·rfl
    rw [this]
    simp only [RV]
    exact ⟨us,rfl,RVL.map_d hds.1 hds.2⟩
 ·cases hd:dat ob v with
  | none=>simp [hd] at h
  | some p=>
   simp only [hd,Option.map_some,Option.some.injEq] at h
   subst h
   exact one (l:=p.2) (by rw [hd]) hv
theorem PureOK.of_run{E:Env}(hm:P.follows .mixedOrders=true)(hE:EnvOK P E){f:FuncId}{g:List D→Tree (List D)}
  (h: ∀ds rs,(g ds).eval=some rs→ ∃n v ob,(callN E n f (ds.map .d) []).eval=some (v,ob)∧outDat ob v=some rs):PureOK P f g:=by
 intro hyn ds rs hg w X us hX hT hr
 obtain ⟨n,v,ob,hrun,hout⟩:=h ds rs hg
 have hobj:RelO P w X (fun _=> .nil) []:=⟨fun id o h=>by simp [Obs.get] at h,fun id id' o o' b c c' h=>by simp [Obs.get] at h,fun id o b c h=>by simp [Obs.get] at h,hX,hT.keep (Nat.le_refl _) (fun _ _ _=>rfl) (fun b _ hb=>by
  rcases hb with h | ⟨i,o,c,g1,_,_⟩
  ·exact h
  ·simp [Obs.get] at g1)⟩
 have hY: ∀b,Ys X (fun _=> .nil) [] b→X b:=by
  rintro b (h | ⟨i,o,c,g1,_,_⟩)
  ·exact h
  ·simp [Obs.get] at g1
 refine (callN_ok hm hE n f hyn (ds.map .d) [] v ob hrun w X (fun _=> .nil) us hobj ?_).mono ?_
 ·exact RVL.map_d hr.1 fun j c v h1 h2=>(hr.2 j c v h1 h2).mono (fun _ _ _=>rfl) fun b _ hb=>hY b hb
 ·rintro u w' ⟨β',hc⟩
  refine ⟨outDat_ok hc.rel hout hc.val,hc.keep.mono fun b _ ⟨i,o,c,g1,_,_⟩=>by simp [Obs.get] at g1⟩
def Env.pureAt(E:Env)(f:Nat)(b:Bool)(g:List D→Tree (List D)):Env:=⟨fun i=>if Nat.beq i f then some (.pure b g) else E.con i,E.prog⟩
def Env.genAt(E:Env)(f:Nat)(C:List V→Obs→Tree (V×Obs)):Env:=⟨fun i=>if Nat.beq i f then some (.gen false C) else E.con i,E.prog⟩
theorem EnvOK.pureAt{E:Env}(hE:EnvOK P E){f:Nat}{b:Bool}{g:List D→Tree (List D)}(h:PureOK P f g):EnvOK P (E.pureAt f b g):=by
 refine ⟨hE.prog,fun i c g' hc=> ?_,fun i ro C hc=> ?_⟩
 ·simp only [Env.pureAt] at hc
  split at hc
  ·rename_i hi
   have:=Nat.eq_of_beq_eq_true hi
   subst this
   cases hc
   exact h
  ·exact hE.pure i c g' hc
 ·simp only [Env.pureAt] at hc
  split at hc
  ·cases hc
  ·exact hE.gen i ro C hc
theorem PureOK.run{E:Env}(hm:P.follows .mixedOrders=true)(hE:EnvOK P E){f:Nat}{g:List D→Tree (List D)}
  (h: ∀ds rs,(g ds).eval=some rs→ ∃n,(callN E n f (ds.map .d) []).out=some rs):PureOK P f g:=
 PureOK.of_run hm hE fun ds rs hg=>by
  obtain ⟨n,hn⟩:=h ds rs hg
  obtain ⟨v,ob,h1,h2⟩:=Tree.out_eval hn
  exact ⟨n,v,ob,h1,h2⟩
theorem FnOK.run{E:Env}(hm:P.follows .mixedOrders=true)(hE:EnvOK P E){f:Nat}{C:List V→Obs→Tree (V×Obs)}
  (h: ∀args ob r,(C args ob).eval=some r→ ∃n,(callN E n f args ob).eval=some r):FnOK P f C:=by
 intro hyn args ob v ob' hrun
 obtain ⟨n,hn⟩:=h args ob (v,ob') hrun
 exact callN_ok hm hE n f hyn args ob v ob' hn
theorem FnOK.runG{E:Env}(hm:P.follows .mixedOrders=true)(hE:EnvOK P E){f:FuncId}{C:List V→Obs→Tree (V×Obs)}
  (h: ∀args ob r,(C args ob).eval=some r→ ∃n,(callN E n f args ob).outG=some r):FnOK P f C:=by
 intro hyn args ob v ob' hrun w X β us hr hv
 obtain ⟨n,hn⟩:=h args ob (v,ob') hrun
 obtain ⟨o1,h1,h2⟩:=Tree.outG_eval hn
 refine (callN_ok hm hE n f hyn args ob v o1 h1 w X β us hr hv).mono ?_
 rintro u w' ⟨β',hc⟩
 have hs:Sub ob' o1:=by
  have h2:ob'=lowObs o1:=h2
  rw [h2]
  exact lowObs_sub o1
 refine ⟨β',⟨hs.relO hc.rel,?_,hc.keep,fun b hb=>hc.own b (hs.owned hb),fun i o hi hg hm=>hc.stay i o hi (hs i o hg) hm⟩⟩
 have:=hs.rvl (vs:=[v]) (us:=[u]) (X:=X) (β:=β') (w:=w') (by simp only [RVL];exact ⟨hc.val,trivial⟩)
 simp only [RVL] at this
 exact this.1
theorem FnOK.ro{f:FuncId}{C:List V→Obs→Tree (V×Obs)}(h:FnOK P f C)(hro: ∀args ob v ob',(C args ob).eval=some (v,ob')→ob'=ob):FnOK P f (roC C):=by
 intro hyn args ob v ob' hr
 obtain ⟨⟨v1,ob1⟩,h1,h2⟩:=Tree.bind_eval.1 hr
 simp only [Tree.eval,Option.some.injEq,Prod.mk.injEq] at h2
 obtain ⟨rfl,rfl⟩:=h2
 have:=hro args ob v1 ob1 h1
 subst this
 exact h hyn args ob1 v1 ob1 h1
theorem EnvOK.genAt{E:Env}(hE:EnvOK P E){f:Nat}{C:List V→Obs→Tree (V×Obs)}(h:FnOK P f C):EnvOK P (E.genAt f C):=by
 refine ⟨hE.prog,fun i c g' hc=> ?_,fun i ro C' hc=> ?_⟩
 ·simp only [Env.genAt] at hc
  split at hc
  ·cases hc
  ·exact hE.pure i c g' hc
 ·simp only [Env.genAt] at hc
  split at hc
  ·rename_i hi
   have:=Nat.eq_of_beq_eq_true hi
   subst this
   cases hc
   exact h
  ·exact hE.gen i ro C' hc
end
theorem eval_ite{α:Type}{b:Bool}{t f:Unit→Tree α}{r:α}(h:(Tree.ite b t f).eval=some r):b=true∧(t ()).eval=some r∨b=false∧(f ()).eval=some r:=by
 cases b
 ·exact .inr ⟨rfl,h⟩
 ·exact .inl ⟨rfl,h⟩
theorem eval_guard{α:Type}{b:Bool}{t:Unit→Tree α}{r:α}(h:(Tree.ite b t fun _=> .stuck).eval=some r):b=true∧(t ()).eval=some r:=by
 cases b
 ·cases h
 ·exact ⟨rfl,h⟩
theorem wrap_i64{n:Int}(h0:0≤n)(h1:n<9223372036854775808):IntKind.i64.wrap n=n:=wrap_small h0 h1
theorem cond_dec{α:Type}(p:Prop) [Decidable p](a b:α):(bif decide p then a else b)=if p then a else b:=by
 by_cases h:p <;> simp [h]
theorem c_and(b x:Bool):(bif b then some [D.bool x] else some [D.bool false])=some [D.bool (b&&x)]:=by cases b <;> rfl
theorem c_nand(b x:Bool):(bif b then some [D.bool false] else some [D.bool x])=some [D.bool (!b&&x)]:=by cases b <;> rfl
def scan{α:Type}(p:Nat→Bool)(hit:Nat→α)(fin:α):Nat→Nat→α
 | 0,_=>fin
 | k+1,i=>bif p i then hit i else scan p hit fin k (i+1)
theorem scan_loop{α:Type}(R:Nat→Nat→Option α)(len:Nat)(p:Nat→Bool)(hit:Nat→α)(fin:α)
  (hstep: ∀j i,i<len→R (j+1) i=bif p i then some (hit i) else R j (i+1)) (hend: ∀j,R (j+1) len=some fin):
  ∀k i j,i+k=len→k<j→R j i=some (scan p hit fin k i):=by
 intro k
 induction k with
 | zero=>
  intro i j hi hj
  cases j with
  | zero=>omega
  | succ j=>
   have:i=len:=by omega
   subst this
   exact hend j
 | succ k ih=>
  intro i j hi hj
  cases j with
  | zero=>omega
  | succ j=>
   rw [hstep j i (by omega),ih (i+1) j (by omega) (by omega)]
   simp only [scan]
   cases p i <;> rfl
theorem scan_map{α γ:Type}(g:α→γ)(p:Nat→Bool)(hit:Nat→α)(fin:α): ∀k i,scan p (fun i=>g (hit i)) (g fin) k i=g (scan p hit fin k i)
 | 0,_=>rfl
 | k+1,i=>by
  simp only [scan,scan_map g p hit fin k (i+1)]
  cases p i <;> rfl
def idxOf{β:Type}(q:β→Bool)(es:List β):Int:=if es.any q then (es.findIdx q:Nat) else -1
theorem scan_idx{β:Type}(q:β→Bool)(d:β)(es:List β): ∀k i,i+k=es.length→scan (fun i=>q (es.getD i d)) (fun i=>(i:Int)) (-1) k i=if (es.drop i).any q then ((i+(es.drop i).findIdx q:Nat):Int) else -1:=by
 intro k
 induction k with
 | zero=>
  intro i hi
  rw [List.drop_eq_nil_of_le (by omega)]
  rfl
 | succ k ih=>
  intro i hi
  have hd:List.drop i es=es[i]'(by omega) :: List.drop (i+1) es:=List.drop_eq_getElem_cons (by omega)
  have hg:es.getD i d=es[i]'(by omega):=by rw [List.getD_eq_getElem?_getD,List.getElem?_eq_getElem (by omega)];rfl
  simp only [scan,hg,ih (i+1) (by omega),hd,List.any_cons,List.findIdx_cons]
  cases q (es[i]'(by omega))
  ·simp only [Bool.false_or,cond_false]
   split
   ·congr 1;omega
   ·rfl
  ·simp
theorem scan_idx0{β:Type}(q:β→Bool)(d:β)(es:List β):scan (fun i=>q (es.getD i d)) (fun i=>(i:Int)) (-1) es.length 0=idxOf q es:=by
 rw [scan_idx q d es es.length 0 (by omega)]
 simp [idxOf]
theorem idxOf_nonneg{β:Type}(q:β→Bool)(es:List β):decide (0≤idxOf q es)=es.any q:=by
 unfold idxOf
 split
 ·rename_i h;simp [h]
 ·rename_i h;simp [h]
mutual
def D.eqb:D→D→Bool
 | .bool a,.bool b=>a==b
 | .int j m,.int k n=>decide (j=k)&&m==n
 | .str s,.str t=>s==t
 | .sl e n es,.sl f m fs=>Sh.beq e f&&(n==m&&D.eqbL es fs)
 | .agg cs,.agg ds=>D.eqbL cs ds
 | .nilp,.nilp=>true
 | .nilm,.nilm=>true
 | .nilf,.nilf=>true
 | .nili,.nili=>true
 | _,_=>false
def D.eqbL:List D→List D→Bool
 | [],[]=>true
 | x :: xs,y :: ys=>D.eqb x y&&D.eqbL xs ys
 | _,_=>false
end
mutual
theorem D.eqb_eq: ∀(x y:D),D.eqb x y=true→x=y
 | .bool a,y,h=>by cases y <;> simp [D.eqb] at h;rw [h]
 | .int j m,y,h=>by cases y <;> simp [D.eqb] at h;rw [h.1,h.2]
 | .str s,y,h=>by cases y <;> simp [D.eqb] at h;rw [h]
 | .sl e n es,y,h=>by
  cases y <;> simp only [D.eqb,Bool.false_eq_true,Bool.and_eq_true,beq_iff_eq] at h
  rw [Sh.beq_eq h.1,h.2.1,D.eqbL_eq es _ h.2.2]
 | .agg cs,y,h=>by
  cases y <;> simp only [D.eqb,Bool.false_eq_true] at h
  rw [D.eqbL_eq cs _ h]
 | .nilp,y,h=>by cases y <;> simp [D.eqb] at h;rfl
 | .nilm,y,h=>by cases y <;> simp [D.eqb] at h;rfl
 | .nilf,y,h=>by cases y <;> simp [D.eqb] at h;rfl
 | .nili,y,h=>by cases y <;> simp [D.eqb] at h;rfl
theorem D.eqbL_eq: ∀(xs ys:List D),D.eqbL xs ys=true→xs=ys
 | [],ys,h=>by cases ys <;> simp [D.eqbL] at h;rfl
 | x :: xs,ys,h=>by
  cases ys with
  | nil=>simp [D.eqbL] at h
  | cons y ys=>
   simp only [D.eqbL,Bool.and_eq_true] at h
   rw [D.eqb_eq x y h.1,D.eqbL_eq xs ys h.2]
end
def gAt:List (List D×List D)→List D→Tree (List D)
 | [],_=> .stuck
 | (xs,rs) :: l,ds=>match D.eqbL ds xs with
  | true=> .ret rs
  | false=>gAt l ds
theorem gAt_mem: ∀{l:List (List D×List D)} {ds rs:List D},(gAt l ds).eval=some rs→(ds,rs)∈l
 | [],ds,rs,h=>by simp [gAt,Tree.eval] at h
 | (xs,r) :: l,ds,rs,h=>by
  simp only [gAt] at h
  split at h
  ·rename_i he
   simp only [Tree.eval,Option.some.injEq] at h
   rw [D.eqbL_eq _ _ he,h]
   exact List.mem_cons_self
  ·exact List.mem_cons_of_mem _ (gAt_mem h)
theorem PureOK.at{P:Program}{E:Env}(hm:P.follows .mixedOrders=true)(hE:EnvOK P E){f:Nat}{l:List (List D×List D)}(h: ∀p∈l,∃n,(callN E n f (p.1.map .d) []).out=some p.2):PureOK P f (gAt l):=
 PureOK.run hm hE fun _ _ hr=>h _ (gAt_mem hr)
end Go.AM
namespace Go.Proofs.YtlhageadjmoajaaDoor.A
open Go Go.AM
abbrev SM:List UInt8:=[48,48,48,49,48,50,48,51,48,52,48,53,48,54,48,55,48,56,48,57,49,48,49,49,49,50,49,51,49,52,49,53,49,54,49,55,49,56,49,57,50,48,50,49,50,50,50,51,50,52,50,53,50,54,50,55,50,56,50,57,51,48,51,49,51,50,51,51,51,52,51,53,51,54,51,55,51,56,51,57,52,48,52,49,52,50,52,51,52,52,52,53,52,54,52,55,52,56,52,57,53,48,53,49,53,50,53,51,53,52,53,53,53,54,53,55,53,56,53,57,54,48,54,49,54,50,54,51,54,52,54,53,54,54,54,55,54,56,54,57,55,48,55,49,55,50,55,51,55,52,55,53,55,54,55,55,55,56,55,57,56,48,56,49,56,50,56,51,56,52,56,53,56,54,56,55,56,56,56,57,57,48,57,49,57,50,57,51,57,52,57,53,57,54,57,55,57,56,57,57]
theorem SM_at{x:Nat}(h:x<100):((SM.getD (2*x) 0).toNat=48+x / 10)∧((SM.getD (2*x+1) 0).toNat=48+x % 10):=by
 have: ∀x:Fin 100,((SM.getD (2*x.1) 0).toNat=48+x.1 / 10)∧((SM.getD (2*x.1+1) 0).toNat=48+x.1 % 10):=by decide +kernel
 exact this ⟨x,h⟩
theorem wrap_u32{n:Int}(h0:0≤n)(h1:n<4294967296):IntKind.wrap .u32 n=n:=by
  have e : n % (2 ^ 32 : Int) = n := Int.emod_eq_of_lt h0 (by have : (2 : Int) ^ 32 = 4294967296 := by decide
                                                              omega)
  unfold IntKind.wrap
  simp only [IntKind.bits,IntKind.signed,e,Bool.false_and,Bool.false_eq_true,if_false]
theorem hi2{x:Int}(h0:0≤x)(h:x<100):((SM.getD (Int.toNat (IntKind.wrap .u32 (IntKind.wrap .u32 (x*2)+1))) 0).toNat:Int)=48+x % 10:=by
 rw [wrap_u32 (n:=x*2) (by omega) (by omega),wrap_u32 (by omega) (by omega),show (x*2+1).toNat=2*x.toNat+1 by omega,(SM_at (show x.toNat<100 by omega)).2]
 omega
set_option maxRecDepth 20000
def digF:Nat→Nat→List UInt8
 | 0,n=>[UInt8.ofNat (48+n % 10)]
 | k+1,n=>if n<10 then [UInt8.ofNat (48+n)] else digF k (n / 10)++[UInt8.ofNat (48+n % 10)]
theorem wrap_u64{n:Int}(h0:0≤n)(h1:n<18446744073709551616):IntKind.wrap .u64 n=n:=by
  have e : n % (2 ^ 64 : Int) = n := Int.emod_eq_of_lt h0 (by have : (2 : Int) ^ 64 = 18446744073709551616 := by decide
                                                              omega)
  unfold IntKind.wrap
  simp only [IntKind.bits,IntKind.signed,e,Bool.false_and,Bool.false_eq_true,if_false]
theorem up{k n:Nat}(h:10≤n):digF (k+1) n=digF k (n / 10)++[UInt8.ofNat (48+n % 10)]:=by
 simp only [digF]
 rw [if_neg (by omega)]
def E0:Env:=⟨fun _=>none,prog⟩
theorem e63(m n:Nat)(s:List UInt8):Tree.eval (enterM E0 (callN E0 (m+40)) n c29 [.d (.str s)] [])=bif s==[] then some (V.d (D.bool false),[]) else bif decide ((16:Int)< ↑(List.length s)) then some (V.d (D.bool false),[]) else bif decide ((0:Int)≤(0:Int)∧(0:Int)< ↑(List.length s)) then bif decide (↑(UInt8.toNat (List.getD s (0:Nat) (0:UInt8)))<(97:Int)) then some (V.d (D.bool false),[]) else bif decide ((0:Int)≤(0:Int)∧(0:Int)< ↑(List.length s)) then bif decide ((122:Int)< ↑(UInt8.toNat (List.getD s (0:Nat) (0:UInt8)))) then some (V.d (D.bool false),[]) else @Tree.eval (V×Obs) (resume E0 (callN E0 (m+40)) n n (0:Nat) c29 { fr:=frame 45 [(0,V.d (D.str s)),(23,V.d (D.int .i64 ↑(List.length s))),(24,V.d (D.int .i64 0))],ob:=[] }) else none else none:=by kernel_rfl
def s63(s:List UInt8)(i:Int):St:= { fr:=frame 45 [(0,V.d (D.str s)),(23,V.d (D.int IntKind.i64 (s.length))),(24,V.d (D.int IntKind.i64 i))],ob:=[] }
theorem l63(m n j:Nat)(s:List UInt8)(i:Int):Tree.eval (resume E0 (callN E0 (m+40)) n (j+1) 0 c29 (s63 s i))=bif decide (i< ↑(List.length s)) then bif decide ((0:Int)≤i∧i< ↑(List.length s)) then bif decide (↑(UInt8.toNat (List.getD s (Int.toNat i) (0:UInt8)))<(97:Int)) then bif decide (↑(UInt8.toNat (List.getD s (Int.toNat i) (0:UInt8)))<(48:Int)) then some (V.d (D.bool false),[]) else bif decide ((57:Int)< ↑(UInt8.toNat (List.getD s (Int.toNat i) (0:UInt8)))) then some (V.d (D.bool false),[]) else @Tree.eval (V×Obs) (resume E0 (callN E0 (m+40)) n j (0:Nat) c29 { fr:=frame 45 [(0,V.d (D.str s)),(23,V.d (D.int .i64 ↑(List.length s))),(24,V.d (D.int .i64 (IntKind.wrap .i64 (i+(1:Int)))))],ob:=[] }) else bif decide ((122:Int)< ↑(UInt8.toNat (List.getD s (Int.toNat i) (0:UInt8)))) then bif decide (↑(UInt8.toNat (List.getD s (Int.toNat i) (0:UInt8)))<(48:Int)) then some (V.d (D.bool false),[]) else bif decide ((57:Int)< ↑(UInt8.toNat (List.getD s (Int.toNat i) (0:UInt8)))) then some (V.d (D.bool false),[]) else @Tree.eval (V×Obs) (resume E0 (callN E0 (m+40)) n j (0:Nat) c29 { fr:=frame 45 [(0,V.d (D.str s)),(23,V.d (D.int .i64 ↑(List.length s))),(24,V.d (D.int .i64 (IntKind.wrap .i64 (i+(1:Int)))))],ob:=[] }) else @Tree.eval (V×Obs) (resume E0 (callN E0 (m+40)) n j (0:Nat) c29 { fr:=frame 45 [(0,V.d (D.str s)),(23,V.d (D.int .i64 ↑(List.length s))),(24,V.d (D.int .i64 (IntKind.wrap .i64 (i+(1:Int)))))],ob:=[] }) else none else some (V.d (D.bool true),[]):=by kernel_rfl
def okc(c:UInt8):Bool:= !(((c.toNat:Int)<97||122<(c.toNat:Int))&&((c.toNat:Int)<48||57<(c.toNat:Int)))
def name(s:List UInt8):Bool:= !(s==[])&& !decide ((16:Int)<s.length)&& !decide (((s.getD 0 0).toNat:Int)<97)&& !decide ((122:Int)<(s.getD 0 0).toNat)&&s.all okc
theorem loop63(m n:Nat)(s:List UInt8)(hs:s.length≤16): ∀k i j,i+k=s.length→k<j→
  (resume E0 (callN E0 (m+40)) n j 0 c29 (s63 s (i:Int))).eval=some (.d (.bool ((s.drop i).all okc)),[]):=by
 intro k
 induction k with
 | zero=>
  intro i j hi hj
  cases j with
  | zero=>omega
  | succ j=>
   have:List.drop i s=[]:=List.drop_eq_nil_of_le (by omega)
   rw [l63,this]
   simp only [cond_dec]
   rw [if_neg (by omega)]
   rfl
 | succ k ih=>
  intro i j hi hj
  cases j with
  | zero=>omega
  | succ j=>
   have hw:IntKind.wrap .i64 ((i:Int)+1)=((i+1:Nat):Int):=by rw [wrap_i64 (by omega) (by omega)];omega
   have hd:List.drop i s=s[i]'(by omega) :: List.drop (i+1) s:=List.drop_eq_getElem_cons (by omega)
   have hg:s.getD i 0=s[i]'(by omega):=by rw [List.getD_eq_getElem?_getD,List.getElem?_eq_getElem (by omega)];rfl
   have hr:=ih (i+1) j (by omega) (by omega)
   unfold s63 at hr
   rw [l63,hd]
   simp only [cond_dec,Int.toNat_natCast,hw,hg,hr,List.all_cons,okc]
   rw [if_pos (by omega),if_pos (by omega)]
   generalize (s[i]'(by omega)).toNat=c
   by_cases h1:(c:Int)<97 <;> by_cases h2:122<(c:Int) <;> by_cases h3:(c:Int)<48 <;> by_cases h4:57<(c:Int) <;> simp [h1,h2,h3,h4]
theorem run63(m n:Nat)(s:List UInt8)(hn:18≤n):(enterM E0 (callN E0 (m+40)) n c29 [.d (.str s)] []).eval=some (.d (.bool (name s)),[]):=by
 rw [e63]
 simp only [cond_dec]
 simp only [Bool.cond_eq_ite,name]
 by_cases h0:s==[]
 ·simp [h0]
 ·by_cases h1:(16:Int)<s.length
  ·simp [h0,h1]
  ·have hl:s.length≤16:=by omega
   have h2:0<s.length:=by
    cases s with
    | nil=>simp at h0
    | cons a l=>simp
   have:=loop63 m n s hl s.length 0 n (by omega) (by omega)
   unfold s63 at this
   rw [List.drop_zero] at this
   have h5:(0:Int)≤0∧(0:Int)<s.length:=by omega
   rw [if_neg h0,if_neg h1]
   simp only [if_pos h5]
   generalize s.getD 0 0=c at*
   by_cases h3:(c.toNat:Int)<97
   ·simp [h3]
   ·by_cases h4:(122:Int)<c.toNat
    ·simp [h3,h4]
    ·rw [if_neg h3,if_neg h4]
     refine this.trans ?_
     simp [h0,h1,h3,h4]
def g63:List D→Tree (List D)
 | [.str s]=> .ret [.bool (name s)]
 | _=> .stuck
def E1:Env:=E0.pureAt 29 true g63
theorem ok1{P:Program}(hm:P.follows .mixedOrders=true)(h0:EnvOK P E0):EnvOK P E1:=by
 refine h0.pureAt (PureOK.run hm h0 fun ds rs h=> ?_)
 unfold g63 at h
 split at h
 ·rename_i s
  simp only [Tree.eval,Option.some.injEq] at h
  subst h
  refine ⟨59+1,?_⟩
  rw [callN_succ (fn:=c29) rfl]
  exact Tree.out_of (run63 19 59 s (by omega)) rfl
 ·simp [Tree.eval] at h
theorem e66(m n:Nat)(k am og tr wt:Int)(ac sub:List UInt8):Tree.out (enterM E1 (callN E1 (m+40)) n c32 [.d (.agg [.int .i64 k,.str ac,.int .i64 am,.int .i64 og,.str sub,.int .i64 tr,.int .i64 wt])] [])=bif sub==[] then bif decide (k<(1:Int)) then some [D.bool false] else bif decide ((4:Int)<k) then some [D.bool false] else bif !name ac then some [D.bool false] else bif decide (am<(1:Int)) then some [D.bool false] else bif decide ((0:Int)≤am) then bif !decide (am≤(1000000000000000:Int)) then some [D.bool false] else bif og==(0:Int) then bif wt==(0:Int) then bif decide ((1:Int)≤tr) then some [D.bool (decide (tr≤(5:Int)))] else some [D.bool false] else some [D.bool false] else some [D.bool false] else some [D.bool false] else some [D.bool false]:=by kernel_rfl
theorem e67(m n:Nat)(k am og tr wt:Int)(ac sub:List UInt8):Tree.out (enterM E1 (callN E1 (m+40)) n c33 [.d (.agg [.int .i64 k,.str ac,.int .i64 am,.int .i64 og,.str sub,.int .i64 tr,.int .i64 wt])] [])=bif name sub then bif k==(0:Int)&&(ac==[]&&(am==(0:Int)&&true)) then bif tr==(0:Int) then bif decide ((0:Int)≤og) then bif decide (og<(16:Int)) then bif decide ((1:Int)≤wt) then some [D.bool (decide (wt≤(50:Int)))] else some [D.bool false] else some [D.bool false] else some [D.bool false] else some [D.bool false] else some [D.bool false] else some [D.bool false]:=by kernel_rfl
def own(k:Int)(ac:List UInt8)(am og:Int)(sub:List UInt8)(tr wt:Int):Bool:=
 sub==[]&&(!decide (k<1)&&(!decide (4<k)&&(!!name ac&&(!decide (am<1)&&(decide (0≤am)&&(!!decide (am≤1000000000000000)&&(og==0&&(wt==0&&(decide (1≤tr)&&decide (tr≤5))))))))))
def asks(k:Int)(ac:List UInt8)(am og:Int)(sub:List UInt8)(tr wt:Int):Bool:=
 name sub&&((k==0&&(ac==[]&&(am==0&&true)))&&(tr==0&&(decide (0≤og)&&(decide (og<16)&&(decide (1≤wt)&&decide (wt≤50))))))
theorem run66(m n:Nat)(k am og tr wt:Int)(ac sub:List UInt8):Tree.out (enterM E1 (callN E1 (m+40)) n c32 [.d (.agg [.int .i64 k,.str ac,.int .i64 am,.int .i64 og,.str sub,.int .i64 tr,.int .i64 wt])] [])=some [.bool (own k ac am og sub tr wt)]:=by
 rw [e66]
 simp only [c_and,c_nand,own]
theorem run67(m n:Nat)(k am og tr wt:Int)(ac sub:List UInt8):Tree.out (enterM E1 (callN E1 (m+40)) n c33 [.d (.agg [.int .i64 k,.str ac,.int .i64 am,.int .i64 og,.str sub,.int .i64 tr,.int .i64 wt])] [])=some [.bool (asks k ac am og sub tr wt)]:=by
 rw [e67]
 simp only [c_and,asks]
def g66:List D→Tree (List D)
 | [.agg [.int .i64 k,.str ac,.int .i64 am,.int .i64 og,.str sub,.int .i64 tr,.int .i64 wt]]=> .ret [.bool (own k ac am og sub tr wt)]
 | _=> .stuck
def g67:List D→Tree (List D)
 | [.agg [.int .i64 k,.str ac,.int .i64 am,.int .i64 og,.str sub,.int .i64 tr,.int .i64 wt]]=> .ret [.bool (asks k ac am og sub tr wt)]
 | _=> .stuck
def E2:Env:=(E1.pureAt 32 true g66).pureAt 33 true g67
theorem ok2{P:Program}(hm:P.follows .mixedOrders=true)(h0:EnvOK P E1):EnvOK P E2:=by
 have h66:PureOK P 32 g66:=PureOK.run hm h0 fun ds rs h=>by
  unfold g66 at h
  split at h
  ·cases h
   exact ⟨59+1,by rw [callN_succ (fn:=c32) rfl];exact run66 19 59 ..⟩
  ·cases h
 have h67:PureOK P 33 g67:=PureOK.run hm h0 fun ds rs h=>by
  unfold g67 at h
  split at h
  ·cases h
   exact ⟨59+1,by rw [callN_succ (fn:=c33) rfl];exact run67 19 59 ..⟩
  ·cases h
 exact (h0.pureAt h66).pureAt h67
def stepSh:Sh:= .agg [(.int .i64),.str,(.int .i64),(.int .i64),.str,(.int .i64),(.int .i64)]
theorem e102(m n:Nat)(nil:Bool)(es:List D):Tree.eval (enterM E2 (callN E2 (m+40)) n c41 [.d (.sl stepSh nil es),.fn 31 [] []] [])=Tree.eval (resume E2 (callN E2 (m+40)) n n 0 c41 { fr:=frame 19 [(0,V.d (D.sl stepSh nil es)),(1,V.fn 31 [] []),(7,V.d (D.int .i64 ↑(es.length))),(8,V.d (D.int .i64 0))],ob:=[] }):=by kernel_rfl
def s102(nil:Bool)(es:List D)(i:Int):St:= { fr:=frame 19 [(0,V.d (D.sl stepSh nil es)),(1,V.fn 31 [] []),(7,V.d (D.int IntKind.i64 ↑(List.length es))),(8,V.d (D.int IntKind.i64 i))],ob:=[] }
theorem l102(m n j:Nat)(nil:Bool)(es:List D)(i:Int):Tree.eval (resume E2 (callN E2 (m+40)) n (j+1) 0 c41 (s102 nil es i))=bif decide (i< ↑(es.length)) then bif decide (0≤i∧i< ↑(es.length)) then bif !own (fi 0 (es.getD i.toNat .nilp)) (fs 1 (es.getD i.toNat .nilp)) (fi 2 (es.getD i.toNat .nilp)) (fi 3 (es.getD i.toNat .nilp)) (fs 4 (es.getD i.toNat .nilp)) (fi 5 (es.getD i.toNat .nilp)) (fi 6 (es.getD i.toNat .nilp)) then bif !asks (fi 0 (es.getD i.toNat .nilp)) (fs 1 (es.getD i.toNat .nilp)) (fi 2 (es.getD i.toNat .nilp)) (fi 3 (es.getD i.toNat .nilp)) (fs 4 (es.getD i.toNat .nilp)) (fi 5 (es.getD i.toNat .nilp)) (fi 6 (es.getD i.toNat .nilp)) then some (V.d (D.int .i64 i),[]) else Tree.eval (resume E2 (callN E2 (m+40)) n j 0 c41 { fr:=frame 19 [(0,V.d (D.sl stepSh nil es)),(1,V.fn 31 [] []),(7,V.d (D.int .i64 ↑(es.length))),(8,V.d (D.int .i64 (IntKind.wrap .i64 (i+1))))],ob:=[] }) else Tree.eval (resume E2 (callN E2 (m+40)) n j 0 c41 { fr:=frame 19 [(0,V.d (D.sl stepSh nil es)),(1,V.fn 31 [] []),(7,V.d (D.int .i64 ↑(es.length))),(8,V.d (D.int .i64 (IntKind.wrap .i64 (i+1))))],ob:=[] }) else none else some (V.d (D.int .i64 (-1)),[]):=by kernel_rfl
def isOwn(x:D):Bool:=own (fi 0 x) (fs 1 x) (fi 2 x) (fi 3 x) (fs 4 x) (fi 5 x) (fi 6 x)
def isAsks(x:D):Bool:=asks (fi 0 x) (fs 1 x) (fi 2 x) (fi 3 x) (fs 4 x) (fi 5 x) (fi 6 x)
def badStep(x:D):Bool:= !isOwn x&& !isAsks x
theorem run102(m n:Nat)(nil:Bool)(es:List D)(hl:es.length≤1000000)(hn:es.length+2≤n):
  (enterM E2 (callN E2 (m+40)) n c41 [.d (.sl stepSh nil es),.fn 31 [] []] []).eval=some (.d (.int .i64 (idxOf badStep es)),[]):=by
 rw [e102]
 have:=scan_loop (fun j i=>(resume E2 (callN E2 (m+40)) n j 0 c41 (s102 nil es (i:Nat))).eval) es.length (fun i=>badStep (es.getD i .nilp)) (fun i=>(.d (.int .i64 i),[])) (.d (.int .i64 (-1)),[])
  (fun j i hi=> ?_) (fun j=> ?_) es.length 0 n (by omega) (by omega)
 ·rw [scan_map (fun i:Int=>(V.d (D.int .i64 i),([]:Obs))) (fun i=>badStep (es.getD i .nilp)) (fun i=>(i:Int)) (-1),scan_idx0 badStep .nilp es] at this
  exact this
 ·have hw:IntKind.wrap .i64 ((i:Int)+1)=((i+1:Nat):Int):=by rw [wrap_i64 (by omega) (by omega)];omega
  rw [l102]
  simp only [cond_dec,Int.toNat_natCast,hw]
  rw [if_pos (by omega),if_pos (by omega)]
  simp only [badStep,isOwn,isAsks]
  generalize own _ _ _ _ _ _ _=a
  generalize asks _ _ _ _ _ _ _=b
  cases a <;> cases b <;> rfl
 ·rw [l102]
  simp only [cond_dec]
  rw [if_neg (by omega)]
def C102(args:List V)(ob:Obs):Tree (V×Obs):=
 match args,ob with
 | [.d (.sl e _nil es),.fn f [] []],[]=>match Sh.beq e stepSh&&Nat.beq f 31 with
  | true=> .ite (decide (es.length≤1000000)) (fun _=> .ret (.d (.int .i64 (idxOf badStep es)),[])) (fun _=> .stuck)
  | false=> .stuck
 | _,_=> .stuck
theorem fn102{P:Program}(hm:P.follows .mixedOrders=true)(h0:EnvOK P E2):FnOK P 41 C102:=FnOK.run hm h0 fun args ob r h=>by
 unfold C102 at h
 split at h
 ·rename_i e nl es f
  split at h
  ·rename_i hb
   simp only [Bool.and_eq_true] at hb
   have h1:=Sh.beq_eq hb.1
   have h2:=Nat.eq_of_beq_eq_true hb.2
   subst h1 h2
   obtain ⟨hl,h⟩:=eval_guard h
   cases h
   exact ⟨(es.length+40)+1,by rw [callN_succ (fn:=c41) rfl];exact run102 es.length (es.length+40) nl es (of_decide_eq_true hl) (by omega)⟩
  ·cases h
 ·cases h
def E3:Env:=E2.genAt 41 C102
theorem ok3{P:Program}(hm:P.follows .mixedOrders=true)(h0:EnvOK P E2):EnvOK P E3:=h0.genAt (fn102 hm h0)
def hopSh:Sh:= .agg [(.int .i64),(.int .i64)]
theorem e32(m n:Nat)(s:List UInt8)(nil:Bool)(es:List D):Tree.out (enterM E3 (callN E3 (m+40)) n c19 [.d (.agg [.str s,.sl stepSh nil es])] [])=bif !name s then some [D.int .i64 90] else bif decide (↑(List.length es)<(1:Int)) then some [D.int .i64 90] else bif decide ((8:Int)< ↑(List.length es)) then some [D.int .i64 90] else bif decide (List.length es≤(1000000:Nat)) then bif decide ((0:Int)≤idxOf badStep es) then some [D.int .i64 90] else some [D.int .i64 0] else none:=by kernel_rfl
def defOk(s:List UInt8)(es:List D):Bool:=name s&&(!decide ((es.length:Int)<1)&&(!decide ((8:Int)<es.length)&& !es.any badStep))
theorem run32(m n:Nat)(s:List UInt8)(nil:Bool)(es:List D):Tree.out (enterM E3 (callN E3 (m+40)) n c19 [.d (.agg [.str s,.sl stepSh nil es])] [])=some [.int .i64 (bif defOk s es then 0 else 90)]:=by
 rw [e32,idxOf_nonneg]
 unfold defOk
 simp only [cond_dec]
 cases name s
 ·rfl
 ·by_cases h1:(es.length:Int)<1
  ·simp [h1]
  ·by_cases h2:(8:Int)<es.length
   ·simp [h1,h2]
   ·have h3:es.length≤1000000:=by omega
    cases es.any badStep <;> simp [h1,h2,h3]
def g32:List D→Tree (List D)
 | [.agg [.str s,.sl e _ es]]=>match Sh.beq e stepSh with
  | true=> .ret [.int .i64 (bif defOk s es then 0 else 90)]
  | false=> .stuck
 | _=> .stuck
theorem pure32{P:Program}(hm:P.follows .mixedOrders=true)(h0:EnvOK P E3):PureOK P 19 g32:=PureOK.run hm h0 fun ds rs h=>by
 unfold g32 at h
 split at h
 ·rename_i s e nl es
  split at h
  ·rename_i hb
   have:=Sh.beq_eq hb
   subst this
   cases h
   exact ⟨59+1,by rw [callN_succ (fn:=c19) rfl];exact run32 19 59 s nl es⟩
  ·cases h
 ·cases h
def E4:Env:=E3.pureAt 19 true g32
theorem ok4{P:Program}(hm:P.follows .mixedOrders=true)(h0:EnvOK P E3):EnvOK P E4:=h0.pureAt (pure32 hm h0)
def hasI(v:Int)(x:D):Bool:=v==fi 0 x
def notDone(x:D):Bool:=fi 0 x != 2
def asksAt(y:D):Bool:= !fs 4 y==[]
def p47(x y:D):Bool:=decide (0≤fi 0 x)&&(decide (fi 0 x≤4)&&((asksAt y||fi 0 x != 1)&&(decide (0≤fi 1 x)&&decide (fi 1 x≤5))))
def p80(x y:D):Bool:=fi 0 x==2||(asksAt y&&fi 0 x==3)
def p81(x y:D):Bool:=asksAt y|| !(fi 0 x==2)
def p83(x y:D):Bool:=fi 0 x==4||(asksAt y&&fi 0 x==2)
def p84(x y:D):Bool:=asksAt y|| !(fi 0 x==2||fi 0 x==4)
def p97(ws:List D)(x _y:D):Bool:= !ws.any (hasI (fi 0 x))
def allI(p:D→D→Bool)(n:Nat)(parts steps:List D):Bool:=scan (fun i=> !p (parts.getD i .nilp) (steps.getD i .nilp)) (fun _=>false) true n 0
theorem scan_all(p:Nat→Bool): ∀k i,scan (fun i=> !p i) (fun _=>false) true k i=true↔ ∀j,i≤j→j<i+k→p j=true
 | 0,i=>by simp only [scan,true_iff];omega
 | k+1,i=>by
  simp only [scan]
  cases hp:p i
  ·simp only [Bool.not_false,cond_true,Bool.false_eq_true,false_iff]
   intro h
   have:=h i (by omega) (by omega)
   rw [hp] at this
   cases this
  ·simp only [Bool.not_true,cond_false,scan_all p k (i+1)]
   constructor
   ·intro h j h1 h2
    by_cases he:j=i
    ·rw [he];exact hp
    ·exact h j (by omega) (by omega)
   ·intro h j h1 h2
    exact h j (by omega) (by omega)
theorem allI_iff(p:D→D→Bool)(n:Nat)(parts steps:List D):allI p n parts steps=true↔ ∀i,i<n→p (parts.getD i .nilp) (steps.getD i .nilp)=true:=by
 unfold allI
 rw [scan_all (fun i=>p (parts.getD i .nilp) (steps.getD i .nilp))]
 simp
theorem hasI_int(v:Int)(k:IntKind)(n:Int):hasI v (.int k n)=(v==n):=rfl
theorem wrap_up{i n:Nat}(h:i<n)(hn:n≤1000000):IntKind.wrap .i64 ((i:Int)+1)=((i+1:Nat):Int):=by rw [wrap_i64 (by omega) (by omega)];omega
theorem dec_lt{i n:Nat}(h:i<n):decide ((i:Int)<(n:Int))=true:=by simp;omega
theorem dec_ix{i n:Nat}(h:i<n):decide ((0:Int)≤(i:Int)∧(i:Int)<(n:Int))=true:=by simp;omega
theorem dec_end(n:Nat):decide ((n:Int)<(n:Int))=false:=by simp
def isOpen(x:D):Bool:=fi 0 x==1||(fi 0 x==2||false)
def lastFrom(p:Nat→Bool):Nat→Int
 | 0=> -1
 | k+1=>bif p k then (k:Int) else lastFrom p k
def cur(st:Int)(parts:List D):Int:=bif st==1 then idxOf notDone parts else bif st==4||st==5 then lastFrom (fun i=>isOpen (parts.getD i .nilp)) parts.length else -1
def p109(b:Bool)(x y:D):Bool:=(b&&(fi 0 x==0||(asksAt y&&fi 0 x==1)))||(fi 0 x==0&&fi 1 x==0)
def tailOk(k:Nat)(parts steps:List D):Bool:=scan (fun i=> !p109 ((i:Int)==(k:Int)) (parts.getD i .nilp) (steps.getD i .nilp)) (fun _=>false) true (parts.length - k) k
def runOk(parts steps:List D):Bool:=scan (fun i=> !p80 (parts.getD i .nilp) (steps.getD i .nilp)) (fun i=>tailOk i parts steps) (tailOk parts.length parts steps) parts.length 0
def w4:List D:=[.int .i64 4]
def w124:List D:=[.int .i64 1,.int .i64 2,.int .i64 4]
def undoOk(st wy:Int)(fc:Bool)(parts steps:List D):Bool:=
 bif fc then false else bif decide (1≤wy) then bif !decide (wy≤9) then false else bif !allI (p97 w4) parts.length parts steps then false else bif st==4 then true else
  bif decide (0≤cur st parts) then bif !!fs 4 (steps.getD (cur st parts).toNat .nilp)==[] then fi 1 (parts.getD (cur st parts).toNat .nilp)==5 else false else false else false
def fitsOk(st wy:Int)(fc:Bool)(hops parts steps:List D):Bool:=
 bif st==1 then bif !fc then bif wy==0 then runOk parts steps else false else false else
 bif st==2 then bif !fc then bif wy==0 then bif decide (0<(hops.length:Int)) then allI p80 parts.length parts steps else false else false else false else
 bif st==3 then bif fc then bif wy==0 then allI p81 parts.length parts steps else bif decide (1≤wy) then bif decide (wy≤9) then allI p81 parts.length parts steps else false else false
  else bif wy==0 then allI p83 parts.length parts steps else false else
 bif st==4 then undoOk st wy fc parts steps else bif st==5 then undoOk st wy fc parts steps else
 bif st==6 then bif fc then bif wy==0 then allI p84 parts.length parts steps else bif decide (1≤wy) then bif decide (wy≤9) then allI p84 parts.length parts steps else false else false
  else bif decide (1≤wy) then bif decide (wy≤9) then !!allI (p97 w124) parts.length parts steps else false else false
 else false
def E13:Env:=E4
theorem e62t(m n:Nat)(es:List D):Tree.eval (enterM E13 (callN E13 (m+40)) n c28 [.d (.sl stepSh true es)] [])=some (V.d (D.sl stepSh true []),[]):=by kernel_rfl
theorem e62f(m n:Nat)(es:List D):Tree.eval (enterM E13 (callN E13 (m+40)) n c28 [.d (.sl stepSh false es)] [])=bif decide ((0:Nat)+List.length es≤(4294967296:Nat)) then some (V.own 384,[(384,Obj.lst stepSh false true false es)]) else none:=by kernel_rfl
def Cclone(sh:Sh)(args:List V)(ob:Obs):Tree (V×Obs):=
 match args,ob with
 | [.d (.sl e nl es)],[]=>match Sh.beq e sh with
  | true=> .ite nl (fun _=> .ret (.d (.sl sh true []),[])) (fun _=> .ite (decide (es.length≤1000000)) (fun _=> .ret (.own 384,[(384,.lst sh false true false es)])) (fun _=> .stuck))
  | false=> .stuck
 | _,_=> .stuck
theorem fn62{P:Program}(hm:P.follows .mixedOrders=true)(h0:EnvOK P E13):FnOK P 28 (Cclone stepSh):=FnOK.run hm h0 fun args ob r h=>by
 unfold Cclone at h
 split at h
 ·rename_i e nl es
  split at h
  ·rename_i hb
   have hb:=Sh.beq_eq hb
   subst hb
   refine ⟨59+1,?_⟩
   rw [callN_succ (fn:=c28) rfl]
   rcases eval_ite h with ⟨hn,h'⟩ | ⟨hn,h'⟩
   ·subst hn
    cases h'
    exact e62t 19 59 es
   ·subst hn
    obtain ⟨hl,h'⟩:=eval_guard h'
    cases h'
    have hl:=of_decide_eq_true hl
    refine (e62f 19 59 es).trans ?_
    have:decide (0+es.length≤4294967296)=true:=decide_eq_true (by omega)
    rw [this]
    rfl
  ·cases h
 ·cases h
def isOwnV:List V→Bool
 | .own _ :: _=>true
 | _=>false
def Cor(sel:List V→Obs→Bool)(C C':List V→Obs→Tree (V×Obs))(args:List V)(ob:Obs):Tree (V×Obs):=
 match sel args ob with
 | true=>C args ob
 | false=>C' args ob
theorem fnOr{P:Program}{f:FuncId}{C C':List V→Obs→Tree (V×Obs)}(h:FnOK P f C)(h':FnOK P f C')(sel:List V→Obs→Bool):FnOK P f (Cor sel C C'):=by
 intro hy args ob v ob' hr
 unfold Cor at hr
 split at hr
 ·exact h hy args ob v ob' hr
 ·exact h' hy args ob v ob' hr
theorem PureOK.or{P:Program}{f:FuncId}{g g1 g2:List D→Tree (List D)}(h1:PureOK P f g1)(h2:PureOK P f g2)(h: ∀ds rs,(g ds).eval=some rs→(g1 ds).eval=some rs∨(g2 ds).eval=some rs):PureOK P f g:=
 fun hy ds rs hr w X us hX hR=>(h ds rs hr).elim (fun hr=>h1 hy ds rs hr w X us hX hR) (fun hr=>h2 hy ds rs hr w X us hX hR)
def few(hops steps parts:List D):Bool:=decide ((hops.length:Int)≤50)&&(decide ((steps.length:Int)≤50)&&decide ((parts.length:Int)≤200))
def E19:Env:=E4.genAt 28 (Cclone stepSh)
theorem ok19{P:Program}(hm:P.follows .mixedOrders=true)(h0:EnvOK P E4):EnvOK P E19:=h0.genAt (fn62 hm h0)
theorem e117(m n:Nat)(s:List UInt8):Tree.out (enterM E19 (callN E19 (m+40)) n c34 [.d (.str s)] [])=bif decide ((s.length:Int)<1) then some [D.bool false] else bif decide (16<(s.length:Int)) then some [D.bool false] else Tree.out (resume E19 (callN E19 (m+40)) n n 0 c34 { fr:=frame 53 [(0,V.d (D.str s)),(3,V.d (D.int .i64 0))],ob:=[] }):=by kernel_rfl
def s117(s:List UInt8)(i:Int):St:= { fr:=frame 53 [(0,V.d (D.str s)),(3,V.d (D.int .i64 i))],ob:=[] }
theorem l117(m n j:Nat)(s:List UInt8)(i:Int):Tree.out (resume E19 (callN E19 (m+40)) n (j+1) 0 c34 (s117 s i))=bif decide (i<(s.length:Int)) then bif decide (0≤i∧i<(s.length:Int)) then bif decide (97≤(↑(UInt8.toNat (List.getD s (i.toNat) (0:UInt8))):Int)) then bif decide (0≤i∧i<(s.length:Int)) then bif decide (0≤i∧i<(s.length:Int)) then bif decide (48≤(↑(UInt8.toNat (List.getD s (i.toNat) (0:UInt8))):Int)) then bif decide (0≤i∧i<(s.length:Int)) then bif !decide ((↑(UInt8.toNat (List.getD s (i.toNat) (0:UInt8))):Int)≤122) then bif !decide ((↑(UInt8.toNat (List.getD s (i.toNat) (0:UInt8))):Int)≤57) then some [D.bool false] else bif i==0 then bif decide ((↑(UInt8.toNat (List.getD s (i.toNat) (0:UInt8))):Int)≤57) then some [D.bool false] else Tree.out (resume E19 (callN E19 (m+40)) n j 0 c34 { fr:=frame 53 [(0,V.d (D.str s)),(3,V.d (D.int .i64 (IntKind.wrap .i64 (i+1))))],ob:=[] }) else Tree.out (resume E19 (callN E19 (m+40)) n j 0 c34 { fr:=frame 53 [(0,V.d (D.str s)),(3,V.d (D.int .i64 (IntKind.wrap .i64 (i+1))))],ob:=[] }) else bif i==0 then bif decide ((↑(UInt8.toNat (List.getD s (i.toNat) (0:UInt8))):Int)≤57) then some [D.bool false] else Tree.out (resume E19 (callN E19 (m+40)) n j 0 c34 { fr:=frame 53 [(0,V.d (D.str s)),(3,V.d (D.int .i64 (IntKind.wrap .i64 (i+1))))],ob:=[] }) else Tree.out (resume E19 (callN E19 (m+40)) n j 0 c34 { fr:=frame 53 [(0,V.d (D.str s)),(3,V.d (D.int .i64 (IntKind.wrap .i64 (i+1))))],ob:=[] }) else none else bif !decide ((↑(UInt8.toNat (List.getD s (i.toNat) (0:UInt8))):Int)≤122) then some [D.bool false] else bif i==0 then Tree.out (resume E19 (callN E19 (m+40)) n j 0 c34 { fr:=frame 53 [(0,V.d (D.str s)),(3,V.d (D.int .i64 (IntKind.wrap .i64 (i+1))))],ob:=[] }) else Tree.out (resume E19 (callN E19 (m+40)) n j 0 c34 { fr:=frame 53 [(0,V.d (D.str s)),(3,V.d (D.int .i64 (IntKind.wrap .i64 (i+1))))],ob:=[] }) else none else none else bif decide (0≤i∧i<(s.length:Int)) then bif decide (48≤(↑(UInt8.toNat (List.getD s (i.toNat) (0:UInt8))):Int)) then bif decide (0≤i∧i<(s.length:Int)) then bif !decide ((↑(UInt8.toNat (List.getD s (i.toNat) (0:UInt8))):Int)≤57) then some [D.bool false] else bif i==0 then bif decide ((↑(UInt8.toNat (List.getD s (i.toNat) (0:UInt8))):Int)≤57) then some [D.bool false] else Tree.out (resume E19 (callN E19 (m+40)) n j 0 c34 { fr:=frame 53 [(0,V.d (D.str s)),(3,V.d (D.int .i64 (IntKind.wrap .i64 (i+1))))],ob:=[] }) else Tree.out (resume E19 (callN E19 (m+40)) n j 0 c34 { fr:=frame 53 [(0,V.d (D.str s)),(3,V.d (D.int .i64 (IntKind.wrap .i64 (i+1))))],ob:=[] }) else none else some [D.bool false] else none else none else some [D.bool true]:=by kernel_rfl
def F1:Env:=(E19.pureAt 34 true g63)
def stepD(k am og tr wt:Int)(ac sub:List UInt8):D:= .agg [.int .i64 k,.str ac,.int .i64 am,.int .i64 og,.str sub,.int .i64 tr,.int .i64 wt]
def g179:List D→Tree (List D)
 | [.agg [.int .i64 k,.str ac,.int .i64 am,.int .i64 og,.str sub,.int .i64 tr,.int .i64 wt]]=> .ret [.bool (!badStep (stepD k am og tr wt ac sub))]
 | _=> .stuck
def F2:Env:=F1.pureAt 35 true g179
def g136:List D→Tree (List D)
 | [.agg [.str s,.sl e _ es]]=>match Sh.beq e stepSh with
  | true=> .ret [.int .i64 (bif defOk s es then 0 else 90)]
  | false=> .stuck
 | _=> .stuck
def F3:Env:=F2.pureAt 20 true g136
theorem e179(m n:Nat)(k am og tr wt:Int)(ac sub:List UInt8):Tree.out (enterM F1 (callN F1 (m+40)) n c35 [.d (stepD k am og tr wt ac sub)] [])=bif sub==[] then bif decide (k<1) then some [D.bool false] else bif decide (4<k) then some [D.bool false] else bif !name ac then some [D.bool false] else bif decide (am<1) then some [D.bool false] else bif decide (1000000000000000<am) then some [D.bool false] else bif og==0 then bif wt==0 then bif decide (1≤tr) then some [D.bool (decide (tr≤5))] else some [D.bool false] else some [D.bool false] else some [D.bool false] else bif k==0 then bif ac==[] then bif am==0 then bif tr==0 then bif name sub then bif decide (0≤og) then bif decide (og≤15) then bif decide (1≤wt) then some [D.bool (decide (wt≤50))] else some [D.bool false] else some [D.bool false] else some [D.bool false] else some [D.bool false] else some [D.bool false] else some [D.bool false] else some [D.bool false] else some [D.bool false]:=by kernel_rfl
theorem e136(m n:Nat)(s:List UInt8)(nil:Bool)(es:List D):Tree.out (enterM F2 (callN F2 (m+40)) n c20 [.d (.agg [.str s,.sl stepSh nil es])] [])=bif !name s then some [D.int .i64 90] else bif decide ((es.length:Int)<1) then some [D.int .i64 90] else bif decide (8<(es.length:Int)) then some [D.int .i64 90] else Tree.out (resume F2 (callN F2 (m+40)) n n 0 c20 { fr:=frame 34 [(1,V.ptr 128 0),(3,V.d (D.int .i64 0))],ob:=[(128,Obj.box [V.d (D.str s),V.d (D.sl stepSh nil es)])] }):=by kernel_rfl
def s136(s:List UInt8)(nil:Bool)(es:List D)(i:Int):St:= { fr:=frame 34 [(1,V.ptr 128 0),(3,V.d (D.int .i64 i))],ob:=[(128,.box [V.d (D.str s),V.d (D.sl stepSh nil es)])] }
theorem l136(m n j:Nat)(s:List UInt8)(nil:Bool)(es:List D)(i:Int):Tree.out (resume F2 (callN F2 (m+40)) n (j+1) 0 c20 (s136 s nil es i))=bif decide (i<(es.length:Int)) then bif decide (0≤i∧i<(es.length:Int)) then bif !!badStep (D.agg [D.int .i64 (fi 0 (es.getD i.toNat .nilp)),D.str (fs 1 (es.getD i.toNat .nilp)),D.int .i64 (fi 2 (es.getD i.toNat .nilp)),D.int .i64 (fi 3 (es.getD i.toNat .nilp)),D.str (fs 4 (es.getD i.toNat .nilp)),D.int .i64 (fi 5 (es.getD i.toNat .nilp)),D.int .i64 (fi 6 (es.getD i.toNat .nilp))]) then some [D.int .i64 90] else Tree.out (resume F2 (callN F2 (m+40)) n j 0 c20 (s136 s nil es (IntKind.wrap .i64 (i+1)))) else none else some [D.int .i64 0]:=by kernel_rfl
theorem scan_none{α:Type}(p:Nat→Bool)(hit:Nat→α)(fin:α): ∀k i,(∀j,i≤j→j<i+k→p j=false)→scan p hit fin k i=fin
 | 0,_,_=>rfl
 | k+1,i,h=>by
  simp only [scan]
  rw [h i (by omega) (by omega)]
  exact scan_none p hit fin k (i+1) fun j h1 h2=>h j (by omega) (by omega)
theorem idxOf_pos{q:D→Bool}{es:List D}(h:0≤idxOf q es):(idxOf q es).toNat<es.length∧q (es.getD (idxOf q es).toNat .nilp)=true∧ ∀i,i<(idxOf q es).toNat→q (es.getD i .nilp)=false:=by
 have h1:=idxOf_nonneg q es
 rw [decide_eq_true h] at h1
 have h2:idxOf q es=(es.findIdx q:Nat):=by unfold idxOf;rw [←h1];rfl
 have h3:es.findIdx q<es.length:=List.findIdx_lt_length.2 (by simpa using h1.symm)
 rw [h2,Int.toNat_natCast]
 refine ⟨h3,?_,fun i hi=> ?_⟩
 ·rw [List.getD_eq_getElem?_getD,List.getElem?_eq_getElem h3]
  exact List.findIdx_getElem
 ·rw [List.getD_eq_getElem?_getD,List.getElem?_eq_getElem (by omega)]
  simpa using List.not_of_lt_findIdx hi
theorem getD_mem{es:List D}{i:Nat}(h:i<es.length):es.getD i .nilp∈es:=by
 rw [List.getD_eq_getElem?_getD,List.getElem?_eq_getElem h]
 exact List.getElem_mem h
theorem mem_getD{es:List D}{x:D}(h:x∈es): ∃i,i<es.length∧es.getD i .nilp=x:=by
 obtain ⟨i,hi,rfl⟩:=List.mem_iff_getElem.1 h
 exact ⟨i,hi,by rw [List.getD_eq_getElem?_getD,List.getElem?_eq_getElem hi];rfl⟩
theorem any_iff{q:D→Bool}{es:List D}:es.any q=true↔ ∃i,i<es.length∧q (es.getD i .nilp)=true:=by
 rw [List.any_eq_true]
 constructor
 ·rintro ⟨x,hx,hq⟩
  obtain ⟨i,hi,rfl⟩:=mem_getD hx
  exact ⟨i,hi,hq⟩
 ·rintro ⟨i,hi,hq⟩
  exact ⟨_,getD_mem hi,hq⟩
structure Good(st wy:Int)(fc:Bool)(hops steps parts:List D):Prop where
 len:parts.length=steps.length
 pos:1≤steps.length
 few:steps.length≤8
 step: ∀i,i<steps.length→badStep (steps.getD i .nilp)=false
 sane: ∀i,i<parts.length→p47 (parts.getD i .nilp) (steps.getD i .nilp)=true
 fits:fitsOk st wy fc hops parts steps=true
abbrev ps(parts:List D)(c:Int):Int:=fi 0 (parts.getD c.toNat .nilp)
abbrev tr(parts:List D)(c:Int):Int:=fi 1 (parts.getD c.toNat .nilp)
abbrev sub(steps:List D)(c:Int):List UInt8:=fs 4 (steps.getD c.toNat .nilp)
abbrev mx(steps:List D)(c:Int):Int:=fi 5 (steps.getD c.toNat .nilp)
theorem beqF{x y:Int}(h:x≠y):(x==y)=false:=by simpa using h
theorem scan_first{α:Type}(p:Nat→Bool)(hit:Nat→α)(fin:α)(c:Nat): ∀k i,i≤c→c<i+k→(∀j,i≤j→j<c→p j=false)→p c=true→scan p hit fin k i=hit c
 | 0,i,h1,h2,_,_=>by omega
 | k+1,i,h1,h2,h3,h4=>by
  simp only [scan]
  by_cases he:i=c
  ·subst he
   rw [h4]
   rfl
  ·rw [h3 i (by omega) (by omega)]
   exact scan_first p hit fin c k (i+1) (by omega) (by omega) (fun j h5 h6=>h3 j (by omega) h6) h4
theorem fits_st{st wy:Int}{fc:Bool}{hops parts steps:List D}(h:fitsOk st wy fc hops parts steps=true):st=1∨st=2∨st=3∨st=4∨st=5∨st=6:=by
 by_cases h1:st=1
 ·exact .inl h1
 by_cases h2:st=2
 ·exact .inr (.inl h2)
 by_cases h3:st=3
 ·exact .inr (.inr (.inl h3))
 by_cases h4:st=4
 ·exact .inr (.inr (.inr (.inl h4)))
 by_cases h5:st=5
 ·exact .inr (.inr (.inr (.inr (.inl h5))))
 by_cases h6:st=6
 ·exact .inr (.inr (.inr (.inr (.inr h6))))
 ·unfold fitsOk at h
  simp only [beqF h1,beqF h2,beqF h3,beqF h4,beqF h5,beqF h6,cond_false] at h
  cases h
theorem getD_set{l:List D}{c j:Nat}{x:D}(hc:c<l.length):(l.set c x).getD j .nilp=if c=j then x else l.getD j .nilp:=by
 rw [List.getD_eq_getElem?_getD,List.getElem?_set]
 split
 ·rename_i h
  subst h
  first | rfl | (rw [if_pos hc];rfl)
 ·rw [List.getD_eq_getElem?_getD]
abbrev part(s t:Int):D:=D.agg [.int .i64 s,.int .i64 t]
abbrev stAt(parts:List D)(c:Nat):Int:=fi 0 (parts.getD c .nilp)
abbrev trAt(parts:List D)(c:Nat):Int:=fi 1 (parts.getD c .nilp)
abbrev loc(steps:List D)(c:Nat):Bool:=fs 4 (steps.getD c .nilp)==[]
theorem q47{x y:D}:p47 x y=true↔0≤fi 0 x∧fi 0 x≤4∧((fs 4 y==[])=false∨fi 0 x≠1)∧0≤fi 1 x∧fi 1 x≤5:=by
 simp only [p47,asksAt,Bool.and_eq_true,Bool.or_eq_true,decide_eq_true_eq,bne_iff_ne,ne_eq,Bool.not_eq_true']
theorem q80{x y:D}:p80 x y=true↔fi 0 x=2∨(fs 4 y==[])=false∧fi 0 x=3:=by
 simp only [p80,asksAt,Bool.and_eq_true,Bool.or_eq_true,beq_iff_eq,Bool.not_eq_true']
theorem q81{x y:D}:p81 x y=true↔(fs 4 y==[])=false∨fi 0 x≠2:=by
 simp only [p81,asksAt,Bool.or_eq_true,Bool.not_eq_true',beq_eq_false_iff_ne,ne_eq]
theorem q83{x y:D}:p83 x y=true↔fi 0 x=4∨(fs 4 y==[])=false∧fi 0 x=2:=by
 simp only [p83,asksAt,Bool.and_eq_true,Bool.or_eq_true,beq_iff_eq,Bool.not_eq_true']
theorem q84{x y:D}:p84 x y=true↔(fs 4 y==[])=false∨fi 0 x≠2∧fi 0 x≠4:=by
 simp only [p84,asksAt,Bool.or_eq_true,Bool.not_eq_true',Bool.or_eq_false_iff,beq_eq_false_iff_ne,ne_eq]
theorem q974{x y:D}:p97 w4 x y=true↔fi 0 x≠4:=by
 simp only [p97,w4,List.any_cons,List.any_nil,hasI_int,Bool.or_false,Bool.not_eq_true',beq_eq_false_iff_ne,ne_eq]
theorem q97124{x y:D}:p97 w124 x y=true↔fi 0 x≠1∧fi 0 x≠2∧fi 0 x≠4:=by
 simp only [p97,w124,List.any_cons,List.any_nil,hasI_int,Bool.or_false,Bool.not_eq_true',Bool.or_eq_false_iff,beq_eq_false_iff_ne,ne_eq]
theorem q109{b:Bool}{x y:D}:p109 b x y=true↔b=true∧(fi 0 x=0∨(fs 4 y==[])=false∧fi 0 x=1)∨fi 0 x=0∧fi 1 x=0:=by
 simp only [p109,asksAt,Bool.and_eq_true,Bool.or_eq_true,beq_iff_eq,Bool.not_eq_true']
def Run(n:Nat)(s t:Nat→Int)(l:Nat→Bool):Prop:=
 ∃k,k≤n∧(∀j,j<k→s j=2∨l j=false∧s j=3)∧ ∀j,k≤j→j<n→j=k∧(s j=0∨l j=false∧s j=1)∨s j=0∧t j=0
theorem tail_iff{parts steps:List D}{k:Nat}(_hk:k≤parts.length):tailOk k parts steps=true↔ ∀j,k≤j→j<parts.length→j=k∧(stAt parts j=0∨loc steps j=false∧stAt parts j=1)∨stAt parts j=0∧trAt parts j=0:=by
 unfold tailOk
 rw [scan_all (fun i=>p109 ((i:Int)==(k:Int)) (parts.getD i .nilp) (steps.getD i .nilp))]
 constructor
 ·intro h j h1 h2
  have:=q109.1 (h j h1 (by omega))
  rw [beq_iff_eq] at this
  rcases this with ⟨h3,h4⟩ | h4
  ·exact .inl ⟨by omega,h4⟩
  ·exact .inr h4
 ·intro h j h1 h2
  refine q109.2 ?_
  rw [beq_iff_eq]
  rcases h j h1 (by omega) with ⟨h3,h4⟩ | h4
  ·exact .inl ⟨by omega,h4⟩
  ·exact .inr h4
theorem run_iff{parts steps:List D}:runOk parts steps=true↔Run parts.length (stAt parts) (trAt parts) (loc steps):=by
 have first: ∀n (p:Nat→Bool),∃k,k≤n∧(∀j,j<k→p j=true)∧(k<n→p k=false):=by
  intro n p
  induction n with
  | zero=>exact ⟨0,by omega,fun j hj=>by omega,fun h=>by omega⟩
  | succ n ih=>
   obtain ⟨k,h1,h2,h3⟩:=ih
   by_cases hk:k<n
   ·exact ⟨k,by omega,h2,fun _=>h3 hk⟩
   ·have:k=n:=by omega
    subst this
    cases hp:p k
    ·exact ⟨k,by omega,h2,fun _=>hp⟩
    ·refine ⟨k+1,by omega,fun j hj=> ?_,fun h=>by omega⟩
     by_cases he:j=k
     ·rw [he];exact hp
     ·exact h2 j (by omega)
 obtain ⟨k,h1,h2,h3⟩:=first parts.length (fun i=>p80 (parts.getD i .nilp) (steps.getD i .nilp))
 have hr:runOk parts steps=tailOk k parts steps:=by
  unfold runOk
  by_cases hk:k<parts.length
  ·exact scan_first _ _ _ k _ _ (by omega) (by omega) (fun j _ hj=>by rw [h2 j hj];rfl) (by rw [h3 hk];rfl)
  ·have:k=parts.length:=by omega
   subst this
   exact scan_none _ _ _ _ _ (fun j _ hj=>by rw [h2 j (by omega)];rfl)
 rw [hr,tail_iff h1]
 constructor
 ·intro h
  exact ⟨k,h1,fun j hj=>q80.1 (h2 j hj),h⟩
 ·rintro ⟨k',g1,g2,g3⟩
  have:k=k':=by
   by_cases hlt:k'<k
   ·exfalso
    have h4:=q80.1 (h2 k' hlt)
    have h5:=g3 k' (by omega) (by omega)
    have h4:stAt parts k'=2∨loc steps k'=false∧stAt parts k'=3:=h4
    omega
   ·by_cases hgt:k<k'
    ·exfalso
     have h4:=h3 (by omega)
     rw [q80.2 (g2 k hgt)] at h4
     cases h4
    ·omega
  subst this
  exact g3
theorem all_iff{p:D→D→Bool}{parts steps:List D}{Q:Int→Int→Bool→Prop}(h: ∀x y,p x y=true↔Q (fi 0 x) (fi 1 x) (fs 4 y==[])):allI p parts.length parts steps=true↔ ∀i,i<parts.length→Q (stAt parts i) (trAt parts i) (loc steps i):=by
 rw [allI_iff]
 exact ⟨fun g i hi=>(h _ _).1 (g i hi),fun g i hi=>(h _ _).2 (g i hi)⟩
inductive FitP(wy:Int)(fc:Bool)(hn n:Nat)(s t:Nat→Int)(l:Nat→Bool)(c:Int):Int→Prop where
 | running (hf:fc=false) (hw:wy=0) (hr:Run n s t l):FitP wy fc hn n s t l c 1
 | held (hf:fc=false) (hw:wy=0) (hh:0<hn) (ha: ∀i,i<n→s i=2∨l i=false∧s i=3):FitP wy fc hn n s t l c 2
 | committedF (hf:fc=true) (hw:0≤wy∧wy≤9) (ha: ∀i,i<n→l i=false∨s i≠2):FitP wy fc hn n s t l c 3
 | committed (hf:fc=false) (hw:wy=0) (ha: ∀i,i<n→s i=4∨l i=false∧s i=2):FitP wy fc hn n s t l c 3
 | undoing (hf:fc=false) (hw:1≤wy∧wy≤9) (ha: ∀i,i<n→s i≠4):FitP wy fc hn n s t l c 4
 | stuck (hf:fc=false) (hw:1≤wy∧wy≤9) (ha: ∀i,i<n→s i≠4) (hc:0≤c) (hl:l c.toNat=true) (h5:t c.toNat=5):FitP wy fc hn n s t l c 5
 | compensatedF (hf:fc=true) (hw:0≤wy∧wy≤9) (ha: ∀i,i<n→l i=false∨s i≠2∧s i≠4):FitP wy fc hn n s t l c 6
 | compensated (hf:fc=false) (hw:1≤wy∧wy≤9) (ha: ∀i,i<n→s i≠1∧s i≠2∧s i≠4):FitP wy fc hn n s t l c 6
theorem undo_iff{st wy:Int}{fc:Bool}{parts steps:List D}(hs:st=4∨st=5):undoOk st wy fc parts steps=true↔fc=false∧(1≤wy∧wy≤9)∧(∀i,i<parts.length→stAt parts i≠4)∧(st=5→0≤cur st parts∧loc steps (cur st parts).toNat=true∧trAt parts (cur st parts).toNat=5):=by
 have ha:allI (p97 w4) parts.length parts steps=true↔ ∀i,i<parts.length→stAt parts i≠4:=all_iff (Q:=fun s _ _=>s≠4) fun x y=>q974
 rw [←ha]
 unfold undoOk
 cases fc
 ·by_cases h1:1≤wy
  ·by_cases h9:wy≤9
   ·cases h4:allI (p97 w4) parts.length parts steps
    ·simp [h1,h9]
    ·rcases hs with rfl | rfl
     ·simp [h1,h9]
     ·by_cases hc:0≤cur 5 parts
      ·simp [h1,h9,hc,loc,trAt]
      ·simp [h1,h9,hc]
   ·simp [h1,h9]
  ·simp [h1]
 ·simp
theorem fits_iff{st wy:Int}{fc:Bool}{hops parts steps:List D}:fitsOk st wy fc hops parts steps=true↔FitP wy fc hops.length parts.length (stAt parts) (trAt parts) (loc steps) (cur st parts) st:=by
 have e80:allI p80 parts.length parts steps=true↔ ∀i,i<parts.length→stAt parts i=2∨loc steps i=false∧stAt parts i=3:=all_iff (Q:=fun s _ l=>s=2∨l=false∧s=3) fun x y=>q80
 have e81:allI p81 parts.length parts steps=true↔ ∀i,i<parts.length→loc steps i=false∨stAt parts i≠2:=all_iff (Q:=fun s _ l=>l=false∨s≠2) fun x y=>q81
 have e83:allI p83 parts.length parts steps=true↔ ∀i,i<parts.length→stAt parts i=4∨loc steps i=false∧stAt parts i=2:=all_iff (Q:=fun s _ l=>s=4∨l=false∧s=2) fun x y=>q83
 have e84:allI p84 parts.length parts steps=true↔ ∀i,i<parts.length→loc steps i=false∨stAt parts i≠2∧stAt parts i≠4:=all_iff (Q:=fun s _ l=>l=false∨s≠2∧s≠4) fun x y=>q84
 have e124:allI (p97 w124) parts.length parts steps=true↔ ∀i,i<parts.length→stAt parts i≠1∧stAt parts i≠2∧stAt parts i≠4:=all_iff (Q:=fun s _ _=>s≠1∧s≠2∧s≠4) fun x y=>q97124
 constructor
 ·intro h
  rcases fits_st h with rfl | rfl | rfl | rfl | rfl | rfl
  ·have h:(bif !fc then bif wy==0 then runOk parts steps else false else false)=true:=h
   cases fc <;> by_cases hw:wy=0 <;> simp [hw] at h
   exact .running rfl hw (run_iff.1 h)
  ·have h:(bif !fc then bif wy==0 then bif decide (0<(hops.length:Int)) then allI p80 parts.length parts steps else false else false else false)=true:=h
   cases fc
   ·by_cases hw:wy=0
    ·by_cases hh:0<(hops.length:Int)
     ·rw [decide_eq_true hh,hw] at h
      exact .held rfl hw (by omega) (e80.1 h)
     ·rw [decide_eq_false hh,hw] at h
      cases h
    ·rw [beqF hw] at h
     cases h
   ·cases h
  ·have h:(bif fc then bif wy==0 then allI p81 parts.length parts steps else bif decide (1≤wy) then bif decide (wy≤9) then allI p81 parts.length parts steps else false else false
     else bif wy==0 then allI p83 parts.length parts steps else false)=true:=h
   cases fc
   ·by_cases hw:wy=0
    ·subst hw;exact .committed rfl rfl (e83.1 h)
    ·simp [hw] at h
   ·by_cases hw:wy=0
    ·subst hw;exact .committedF rfl (by omega) (e81.1 h)
    ·by_cases h1:1≤wy <;> by_cases h9:wy≤9 <;> simp [hw,h1,h9] at h
     exact .committedF rfl (by omega) (e81.1 h)
  ·have h:undoOk 4 wy fc parts steps=true:=h
   obtain ⟨a,b,c,-⟩:=(undo_iff (.inl rfl)).1 h
   exact .undoing a b c
  ·have h:undoOk 5 wy fc parts steps=true:=h
   obtain ⟨a,b,c,d⟩:=(undo_iff (.inr rfl)).1 h
   obtain ⟨d,e,f⟩:=d rfl
   exact .stuck a b c d e f
  ·have h:(bif fc then bif wy==0 then allI p84 parts.length parts steps else bif decide (1≤wy) then bif decide (wy≤9) then allI p84 parts.length parts steps else false else false
     else bif decide (1≤wy) then bif decide (wy≤9) then !!allI (p97 w124) parts.length parts steps else false else false)=true:=h
   cases fc
   ·by_cases h1:1≤wy <;> by_cases h9:wy≤9 <;> simp [h1,h9] at h
    exact .compensated rfl ⟨h1,h9⟩ (e124.1 h)
   ·by_cases hw:wy=0
    ·subst hw;exact .compensatedF rfl (by omega) (e84.1 h)
    ·by_cases h1:1≤wy <;> by_cases h9:wy≤9 <;> simp [hw,h1,h9] at h
     exact .compensatedF rfl (by omega) (e84.1 h)
 ·intro h
  have key: ∀s:Int,FitP wy fc hops.length parts.length (stAt parts) (trAt parts) (loc steps) (cur st parts) s→s=st→fitsOk s wy fc hops parts steps=true:=by
   intro s h hs
   cases h with
   | running hf hw hr=>subst hf hw;exact run_iff.2 hr
   | held hf hw hh ha=>
    subst hf hw
    have:decide (0<(hops.length:Int))=true:=decide_eq_true (by omega)
    show (bif decide (0<(hops.length:Int)) then allI p80 parts.length parts steps else false)=true
    rw [this]
    exact e80.2 ha
   | committedF hf hw ha=>
    subst hf
    show (bif wy==0 then allI p81 parts.length parts steps else bif decide (1≤wy) then bif decide (wy≤9) then allI p81 parts.length parts steps else false else false)=true
    rw [e81.2 ha]
    by_cases hw0:wy=0
    ·simp [hw0]
    ·simp [show 1≤wy by omega,hw.2]
   | committed hf hw ha=>subst hf hw;exact e83.2 ha
   | undoing hf hw ha=>exact (undo_iff (.inl rfl)).2 ⟨hf,hw,ha,fun h=>by cases h⟩
   | stuck hf hw ha hc hl h5=>subst hs;exact (undo_iff (.inr rfl)).2 ⟨hf,hw,ha,fun _=>⟨hc,hl,h5⟩⟩
   | compensatedF hf hw ha=>
    subst hf
    show (bif wy==0 then allI p84 parts.length parts steps else bif decide (1≤wy) then bif decide (wy≤9) then allI p84 parts.length parts steps else false else false)=true
    rw [e84.2 ha]
    by_cases hw0:wy=0
    ·simp [hw0]
    ·simp [show 1≤wy by omega,hw.2]
   | compensated hf hw ha=>
    subst hf
    show (bif decide (1≤wy) then bif decide (wy≤9) then !!allI (p97 w124) parts.length parts steps else false else false)=true
    rw [e124.2 ha]
    simp [hw.1,hw.2]
  exact key st h rfl
theorem ltd(a b:Int):decide (a<b)= !decide (b≤a):=by by_cases h:b≤a <;> simp [h] <;> omega
def smallc(c:Int):Bool:=decide (97≤c)&&decide (c≤122)
def digitc(c:Int):Bool:=decide (48≤c)&&decide (c≤57)
def nm1(s:List UInt8)(i:Nat):Bool:=(smallc (s.getD i 0).toNat||digitc (s.getD i 0).toNat)&& !(((i:Int)==0)&&digitc (s.getD i 0).toNat)
def refName(s:List UInt8):Bool:=bif decide ((s.length:Int)<1) then false else bif decide ((16:Int)<(s.length:Int)) then false else scan (fun i=> !nm1 s i) (fun _=>false) true s.length 0
theorem getD_at{s:List UInt8}{i:Nat}(h:i<s.length):s.getD i 0=s[i]'h:=by rw [List.getD_eq_getElem?_getD,List.getElem?_eq_getElem h];rfl
theorem okc_iff(c:UInt8):okc c=true↔smallc c.toNat=true∨digitc c.toNat=true:=by
 simp only [okc,smallc,digitc,ltd,Bool.and_eq_true,Bool.not_eq_true',decide_eq_true_eq,Bool.and_eq_false_iff,Bool.or_eq_false_iff,Bool.not_eq_false']
theorem refName_eq(s:List UInt8):refName s=name s:=by
 rw [Bool.eq_iff_iff]
 unfold refName name
 cases h1:decide ((s.length:Int)<1)
 ·cases h2:decide ((16:Int)<(s.length:Int))
  ·have h1:=of_decide_eq_false h1
   have hl:0<s.length:=by omega
   have hne:(s==[])=false:=by cases s with | nil=>simp at hl | cons a l=>rfl
   simp only [cond_false,hne,Bool.not_false,Bool.true_and,Bool.and_eq_true]
   rw [scan_all,List.all_eq_true]
   constructor
   ·intro h
    have h0:=h 0 (by omega) (by omega)
    refine ⟨?_,fun c hc=> ?_⟩
    ·simp only [nm1,smallc,digitc,Bool.and_eq_true,Bool.or_eq_true,Bool.not_eq_true',decide_eq_true_eq,Bool.and_eq_false_iff,decide_eq_false_iff_not] at h0 ⊢
     have:(((0:Nat):Int)==0)=true:=rfl
     rw [this] at h0
     simp only [Bool.true_eq_false,false_or] at h0
     omega
    ·obtain ⟨i,hi,rfl⟩:=List.getElem_of_mem hc
     have:=h i (by omega) (by omega)
     rw [nm1,getD_at hi] at this
     simp only [Bool.and_eq_true,Bool.or_eq_true] at this
     exact (okc_iff _).2 this.1
   ·rintro ⟨h0,h⟩ i - hi
    have hi:i<s.length:=by omega
    have hc:=(okc_iff _).1 (h _ (List.getElem_mem hi))
    rw [nm1,getD_at hi]
    simp only [Bool.and_eq_true,Bool.or_eq_true,Bool.not_eq_true',Bool.and_eq_false_iff]
    refine ⟨hc,?_⟩
    by_cases hz:i=0
    ·subst hz
     right
     rw [getD_at hi] at h0
     simp only [Bool.not_eq_true',decide_eq_false_iff_not] at h0
     simp only [digitc,Bool.and_eq_false_iff,decide_eq_false_iff_not]
     omega
    ·left
     simp;omega
  ·simp
 ·have h1:=of_decide_eq_true h1
  have:s=[]:=by cases s with | nil=>rfl | cons a l=>simp at h1;omega
  subst this
  simp
theorem run117(m n:Nat)(s:List UInt8)(hn:18≤n):(enterM E19 (callN E19 (m+40)) n c34 [.d (.str s)] []).out=some [.bool (name s)]:=by
 rw [←refName_eq]
 rw [e117]
 unfold refName
 cases h1:decide ((s.length:Int)<1)
 ·cases h2:decide ((16:Int)<(s.length:Int))
  ·have h2:=of_decide_eq_false h2
   have:=scan_loop (fun j i=>(resume E19 (callN E19 (m+40)) n j 0 c34 (s117 s (i:Nat))).out) s.length (fun i=> !nm1 s i) (fun _=>[.bool false]) [.bool true]
    (fun j i hi=> ?_) (fun j=> ?_) s.length 0 n (by omega) (by omega)
   ·refine this.trans ?_
    rw [scan_map (fun b:Bool=>[D.bool b]) _ (fun _=>false) true]
    rfl
   ·rw [l117]
    simp only [Int.toNat_natCast,wrap_up hi (by omega),dec_lt hi,dec_ix hi,cond_true,nm1,smallc,digitc]
    generalize decide ((97:Int)≤_)=b1
    generalize decide (_≤(122:Int))=b2
    generalize decide ((48:Int)≤_)=b3
    generalize decide (_≤(57:Int))=b4
    generalize ((i:Int)==0)=b5
    cases b1 <;> cases b2 <;> cases b3 <;> cases b4 <;> cases b5 <;> rfl
   ·rw [l117]
    simp only [dec_end,cond_false]
  ·rfl
 ·rfl
theorem pure117{P:Program}(hm:P.follows .mixedOrders=true)(h0:EnvOK P E19):PureOK P 34 g63:=PureOK.run hm h0 fun ds rs h=>by
 unfold g63 at h
 split at h
 ·cases h
  exact ⟨59+1,by rw [callN_succ (fn:=c34) rfl];exact run117 19 59 _ (by omega)⟩
 ·cases h
theorem run179(m n:Nat)(k am og tr wt:Int)(ac sub:List UInt8):(enterM F1 (callN F1 (m+40)) n c35 [.d (stepD k am og tr wt ac sub)] []).out=some [.bool (!badStep (stepD k am og tr wt ac sub))]:=by
 rw [e179]
 show _=some [D.bool (!(!own k ac am og sub tr wt&& !asks k ac am og sub tr wt))]
 unfold own asks
 simp only [ltd]
 have ha:am≤0→decide ((1:Int)≤am)=false:=fun h=>by simp;omega
 by_cases hs:sub=[]
 ·subst hs
  have:name []=false:=rfl
  rw [this]
  have e0:decide ((0:Int)≤am)=(decide ((1:Int)≤am)||decide ((0:Int)≤am)):=by
   by_cases h:(1:Int)≤am
   ·simp [h];omega
   ·simp [h]
  rw [e0]
  generalize decide ((1:Int)≤k)=b1
  generalize decide (k≤(4:Int))=b2
  generalize name ac=b3
  generalize decide ((1:Int)≤am)=b4
  generalize decide (am≤(1000000000000000:Int))=b5
  generalize (og==0)=b6
  generalize (wt==0)=b7
  generalize decide ((1:Int)≤tr)=b8
  generalize decide (tr≤(5:Int))=b9
  cases b1 <;> cases b2 <;> cases b3 <;> cases b4 <;> cases b5 <;> cases b6 <;> cases b7 <;> cases b8 <;> cases b9 <;> rfl
 ·have:(sub==[])=false:=by simpa using hs
  rw [this]
  have e1:decide ((16:Int)≤og)= !decide (og≤(15:Int)):=by by_cases h:og≤(15:Int) <;> simp [h] <;> omega
  rw [e1]
  generalize (k==0)=b1
  generalize (ac==[])=b2
  generalize (am==0)=b3
  generalize (tr==0)=b4
  generalize name sub=b5
  generalize decide ((0:Int)≤og)=b6
  generalize decide (og≤(15:Int))=b7
  generalize decide ((1:Int)≤wt)=b8
  generalize decide (wt≤(50:Int))=b9
  cases b1 <;> cases b2 <;> cases b3 <;> cases b4 <;> cases b5 <;> cases b6 <;> cases b7 <;> cases b8 <;> cases b9 <;> rfl
theorem pure179{P:Program}(hm:P.follows .mixedOrders=true)(h0:EnvOK P F1):PureOK P 35 g179:=PureOK.run hm h0 fun ds rs h=>by
 unfold g179 at h
 split at h
 ·cases h
  exact ⟨59+1,by rw [callN_succ (fn:=c35) rfl];exact run179 19 59 _ _ _ _ _ _ _⟩
 ·cases h
theorem run136(m n:Nat)(s:List UInt8)(nil:Bool)(es:List D)(hn:18≤n):(enterM F2 (callN F2 (m+40)) n c20 [.d (.agg [.str s,.sl stepSh nil es])] []).out=some [.int .i64 (bif defOk s es then 0 else 90)]:=by
 rw [e136]
 unfold defOk
 cases name s
 ·rfl
 ·cases h1:decide ((es.length:Int)<1)
  ·cases h2:decide ((8:Int)<(es.length:Int))
   ·have h2:=of_decide_eq_false h2
    have:=scan_loop (fun j i=>(resume F2 (callN F2 (m+40)) n j 0 c20 (s136 s nil es (i:Nat))).out) es.length (fun i=> !(!badStep (es.getD i .nilp))) (fun _=>[.int .i64 90]) [.int .i64 0]
     (fun j i hi=> ?_) (fun j=> ?_) es.length 0 n (by omega) (by omega)
    ·refine this.trans ?_
     have e:scan (fun i=> !!badStep (es.getD i .nilp)) (fun _=>[D.int .i64 90]) [D.int .i64 0] es.length 0=[D.int .i64 (bif scan (fun i=> !!badStep (es.getD i .nilp)) (fun _=>false) true es.length 0 then 0 else 90)]:=scan_map (fun b:Bool=>[D.int .i64 (bif b then 0 else 90)]) _ (fun _=>false) true _ _
     rw [e]
     have:scan (fun i=> !(!badStep (es.getD i .nilp))) (fun _=>false) true es.length 0= !es.any badStep:=by
      rw [Bool.eq_iff_iff,scan_all (fun i=> !badStep (es.getD i .nilp))]
      simp only [Bool.not_eq_true']
      rw [Bool.eq_false_iff,ne_eq,any_iff]
      constructor
      ·rintro h ⟨i,hi,hb⟩
       rw [h i (by omega) (by omega)] at hb;cases hb
      ·intro h i _ hi
       cases hb:badStep (es.getD i .nilp)
       ·rfl
       ·exact (h ⟨i,by omega,hb⟩).elim
     rw [this]
     rfl
    ·rw [l136]
     simp only [Int.toNat_natCast,wrap_up hi (by omega),dec_lt hi,dec_ix hi,cond_true]
     rfl
    ·rw [l136]
     simp only [dec_end,cond_false]
   ·rfl
  ·rfl
theorem pure136{P:Program}(hm:P.follows .mixedOrders=true)(h0:EnvOK P F2):PureOK P 20 g136:=PureOK.run hm h0 fun ds rs h=>by
 unfold g136 at h
 split at h
 ·split at h
  ·rename_i hb
   have hb:=Sh.beq_eq hb
   subst hb
   cases h
   exact ⟨59+1,by rw [callN_succ (fn:=c20) rfl];exact run136 19 59 _ _ _ (by omega)⟩
  ·cases h
 ·cases h
theorem st_set{parts:List D}{c:Nat}{a b:Int}(hc:c<parts.length)(j:Nat):stAt (parts.set c (part a b)) j=if c=j then a else stAt parts j:=by
 unfold stAt
 rw [getD_set hc]
 split <;> rfl
theorem tr_set{parts:List D}{c:Nat}{a b:Int}(hc:c<parts.length)(j:Nat):trAt (parts.set c (part a b)) j=if c=j then b else trAt parts j:=by
 unfold trAt
 rw [getD_set hc]
 split <;> rfl
theorem cur1_spec{parts:List D}(hc:0≤cur 1 parts):(cur 1 parts).toNat<parts.length∧stAt parts (cur 1 parts).toNat≠2∧ ∀i,i<(cur 1 parts).toNat→stAt parts i=2:=by
 have hcur:cur 1 parts=idxOf notDone parts:=rfl
 rw [hcur] at hc ⊢
 obtain ⟨h1,h2,h3⟩:=idxOf_pos hc
 exact ⟨h1,by simpa only [notDone,bne_iff_ne,ne_eq] using h2,fun i hi=>by have:=h3 i hi;simpa only [notDone,bne_eq_false_iff_eq] using this⟩
def SaneP(n:Nat)(s t:Nat→Int)(l:Nat→Bool):Prop:= ∀i,i<n→0≤s i∧s i≤4∧(l i=false∨s i≠1)∧0≤t i∧t i≤5
theorem run_at{parts steps:List D}(h:Run parts.length (stAt parts) (trAt parts) (loc steps))(hc:0≤cur 1 parts)(h3:stAt parts (cur 1 parts).toNat≠3):
  (stAt parts (cur 1 parts).toNat=0∨loc steps (cur 1 parts).toNat=false∧stAt parts (cur 1 parts).toNat=1)∧ ∀j,(cur 1 parts).toNat<j→j<parts.length→stAt parts j=0∧trAt parts j=0:=by
 obtain ⟨h1,h2,hb⟩:=cur1_spec hc
 generalize (cur 1 parts).toNat=c at*
 obtain ⟨k,k1,k2,k3⟩:=h
 have hck:c=k:=by
  by_cases hlt:c<k
  ·have:=k2 c hlt;omega
  ·by_cases hgt:k<c
   ·have h4:=k3 k (by omega) (by omega);have h5:=hb k hgt;omega
   ·omega
 subst hck
 refine ⟨?_,fun j hj hn=> ?_⟩
 ·rcases k3 c (by omega) h1 with ⟨-,h4⟩ | h4
  ·exact h4
  ·exact .inl h4.1
 ·rcases k3 j (by omega) hn with ⟨h4,-⟩ | h4
  ·omega
  ·exact h4
theorem run_next{parts steps:List D}{a b:Int}(h:Run parts.length (stAt parts) (trAt parts) (loc steps))(hc:0≤cur 1 parts)(h3:stAt parts (cur 1 parts).toNat≠3)
  (ha:a=2∨a=0∨loc steps (cur 1 parts).toNat=false∧a=1):Run (parts.set (cur 1 parts).toNat (part a b)).length (stAt (parts.set (cur 1 parts).toNat (part a b))) (trAt (parts.set (cur 1 parts).toNat (part a b))) (loc steps):=by
 obtain ⟨h1,h2,hb⟩:=cur1_spec hc
 obtain ⟨-,h4⟩:=run_at h hc h3
 rw [List.length_set]
 generalize (cur 1 parts).toNat=c at*
 by_cases he:a=2
 ·refine ⟨c+1,by omega,fun j hj=> ?_,fun j hj hn=> ?_⟩
  ·rw [st_set h1]
   by_cases hcj:c=j
   ·rw [if_pos hcj];exact .inl he
   ·rw [if_neg hcj];exact .inl (hb j (by omega))
  ·rw [st_set h1,tr_set h1,if_neg (by omega),if_neg (by omega)]
   exact .inr (h4 j (by omega) hn)
 ·refine ⟨c,by omega,fun j hj=> ?_,fun j hj hn=> ?_⟩
  ·rw [st_set h1,if_neg (by omega)];exact .inl (hb j hj)
  ·rw [st_set h1,tr_set h1]
   by_cases hcj:c=j
   ·subst hcj
    rw [if_pos rfl]
    exact .inl ⟨rfl,ha.resolve_left he⟩
   ·rw [if_neg hcj,if_neg hcj];exact .inr (h4 j (by omega) hn)
theorem ct{α:Type}{c:Bool}{a b:α}(h:c=true):cond c a b=a:=by rw [h];rfl
theorem cf{α:Type}{c:Bool}{a b:α}(h:c=false):cond c a b=b:=by rw [h];rfl
theorem okF3{P:Program}(hm:P.follows .mixedOrders=true)(h0:EnvOK P E19):EnvOK P F3:=
 have f1:EnvOK P F1:=h0.pureAt (pure117 hm h0)
 have f2:EnvOK P F2:=f1.pureAt (pure179 hm f1)
 f2.pureAt (pure136 hm f2)
def g20:List D→Tree (List D)
 | []=> .ret [.bool true]
 | _=> .stuck
def cmpB(a b:List UInt8):Int:=bif a==b then 0 else bif Op.bytesLess a b then -1 else 1
def g192:List D→Tree (List D)
 | [.str a,.str b]=> .ret [.int .i64 (cmpB a b)]
 | _=> .stuck
def M2:Env:=F3.pureAt 27 true g192
def nameIdx(s:List UInt8)(es:List D):Int:=idxOf (fun x=>fs 0 x==s) es
def bsF(p:Nat→Bool):Nat→Nat→Nat→Nat
 | 0,i,_=>i
 | f+1,i,j=>bif decide (i<j) then bif p ((i+j) / 2) then bsF p f ((i+j) / 2+1) j else bsF p f i ((i+j) / 2) else i
theorem bsF_spec(p:Nat→Bool)(n:Nat)(hm: ∀a b,a≤b→b<n→p b=true→p a=true): ∀f i j,j - i≤f→i≤j→j≤n→(∀k,k<i→p k=true)→(∀k,j≤k→k<n→p k=false)→
  (bsF p f i j≤n∧(∀k,k<bsF p f i j→p k=true)∧ ∀k,bsF p f i j≤k→k<n→p k=false)
 | 0,i,j,hf,hij,hj,h1,h2=>by
  have:i=j:=by omega
  subst this
  exact ⟨by simp only [bsF];omega,h1,h2⟩
 | f+1,i,j,hf,hij,hj,h1,h2=>by
  simp only [bsF]
  by_cases hlt:i<j
  ·rw [decide_eq_true hlt,cond_true]
   cases hp:p ((i+j) / 2)
   ·rw [cond_false]
    refine bsF_spec p n hm f i ((i+j) / 2) (by omega) (by omega) (by omega) h1 fun k hk hkn=> ?_
    cases hpk:p k
    ·rfl
    ·rw [hm _ _ hk hkn hpk] at hp;cases hp
   ·rw [cond_true]
    refine bsF_spec p n hm f ((i+j) / 2+1) j (by omega) (by omega) hj (fun k hk=> ?_) h2
    exact hm k ((i+j) / 2) (by omega) (by omega) hp
  ·rw [decide_eq_false hlt,cond_false]
   have:i=j:=by omega
   subst this
   exact ⟨by omega,h1,h2⟩
theorem bsF_le(p:Nat→Bool): ∀f i j n,i≤n→j≤n→bsF p f i j≤n
 | 0,i,j,n,hi,_=>hi
 | f+1,i,j,n,hi,hj=>by
  simp only [bsF]
  by_cases hlt:i<j
  ·rw [decide_eq_true hlt,cond_true]
   cases p ((i+j) / 2)
   ·rw [cond_false];exact bsF_le p f i _ n hi (by omega)
   ·rw [cond_true];exact bsF_le p f _ j n (by omega) hj
  ·rw [decide_eq_false hlt,cond_false];exact hi
theorem half{i j:Nat}(hi:i≤1000000)(hj:j≤1000000):IntKind.wrap .i64 (Int.fdiv (IntKind.wrap .u64 (IntKind.wrap .i64 ((i:Int)+(j:Int)))) 2)=(((i+j) / 2:Nat):Int):=by
 rw [wrap_i64 (n:=(i:Int)+(j:Int)) (by omega) (by omega),wrap_u64 (by omega) (by omega),Int.fdiv_eq_ediv_of_nonneg _ (by omega)]
 have:((i:Int)+(j:Int)) / 2=(((i+j) / 2:Nat):Int):=by omega
 rw [this,wrap_i64 (by omega) (by omega)]
def lessAt(s:List UInt8)(zas:List D)(i:Nat):Bool:=decide (cmpB (fs 0 (zas.getD i .nilp)) s<0)
def plc(s:List UInt8)(zas:List D):Nat:=bsF (lessAt s zas) zas.length 0 zas.length
def there(s:List UInt8)(zas:List D):Bool:=bif decide ((plc s zas:Int)<(zas.length:Int)) then cmpB (fs 0 (zas.getD (plc s zas) .nilp)) s==0 else false
end Go.Proofs.YtlhageadjmoajaaDoor.A
