/- The row and the card: whatever the input, the law tells true; under the row's conditions alone. -/
import Derived.Test.YtkjiaijkdefkgaaGreatDoorGk
import Derived.SevenTiedAt
namespace Go.Proofs.YtkjiaijkdefkgaaGreatDoor
open Go Go.AM Go.Proofs Go.ChangeShapes
theorem duesOf_pure: ∃g,PureOK Tryz.prog 6 g∧ ∀xs,WFs [A.stateTy,A.sagaTy] xs→(g xs).eval=some [.bool true]:=A.law_true A.okDet fun ds h=>by
 match ds,h with
 | [x,y],h=>
  obtain ⟨og,ep,co,na,nm,nb,ns,ac,ms,bs,ss,rfl,-,-⟩:=A.state_in h.1
  obtain ⟨rt,nn,st,wy,n1,n2,n3,fc,hops,steps,parts,nm',rfl,h1,-,-⟩:=A.saga_in h.2.1
  exact ⟨59+1,by rw [callN_succ (fn:=A.c6) rfl];exact A.duesof 19 59 og ep co na nm nb ns ac ms bs ss rt nn st wy n1 n2 n3 fc hops steps parts nm' h1⟩
set_option maxRecDepth 100000 in
theorem duesOf_lifted(os:Os)(started:os.Started)(H:Type)(enc:TypeId×Value→H):
  ReturnsInHanded {} Tryz.checked os 6 .any (fun w args=>(Rows.duesOfSpec.pre enc Tryz.prog Tryz.f6 [] false w args∧laidMetH Tryz.prog A.tabs4 w)∧sizedMet enc Tryz.prog Tryz.f6 (OpenSpec.ofChange Rows.duesOfSpec) false w args)
   (Rows.duesOfSpec.post enc Tryz.prog Tryz.f6 false true false false):=by
 refine returnsInHanded_of_change_and (C:=Tryz.checked) (X:=fun w _=>laidMetH Tryz.prog A.tabs4 w) (fun _ _ _ hh h=>h.of_heap hh) A.own1 started (by kernel_rfl) Tryz.func6
  (ChangeSpec.witness_shaped (enc:=enc) (C:=Tryz.checked) (os:=os) (X:=fun w _=>laidMetH Tryz.prog A.tabs4 w) false (World.laidAll Tryz.prog os A.tabs4) #[.agg #[.int .i64 0,.int .i64 0,.int .i64 0,.slice none 0 0,.slice none 0 0,.slice none 0 0,.slice none 0 0],.agg #[.int .i64 0,.int .i64 0,.slice none 0 0,.string ⟨#[]⟩,.slice none 0 0,.int .i64 0,.int .i64 0,.slice none 0 0,.bool false]] 8 (World.laidAll_os _ _ _) (World.shaped_of_ZipB (by kernel_rfl) (by kernel_rfl)) (by kernel_rfl) (by kernel_rfl) (by kernel_rfl) (A.tabs4_met os _)) ?_
 obtain ⟨g0,hp0,hg0⟩:=duesOf_pure
 intro W base args ds gs before hval hW _ _ hx _
 have hW':=hW
 have hT:TabOK Tryz.prog W (fun _=>False):=by
  rw [MakeChecks.laidMetH_plain _ _ _ (by kernel_rfl)] at hx
  obtain ⟨ps,hl,-,-⟩:=hx
  exact A.tab_ok hl A.tabs4_pow
 obtain ⟨p,q,hA,hV,-,-,-⟩:=hW
 obtain ⟨rfl,rfl⟩:=trodVars_none hV
 have hty:tyArgs Tryz.prog [A.stateTy,A.sagaTy] Tryz.f6.params.toList=true:=by rw [Tryz.params6];kernel_rfl
 obtain ⟨c,hc⟩: ∃c,Tryz.f6.body=some c:=by
  cases h:Tryz.f6.body with
  | some c=>exact ⟨c,rfl⟩
  | none=>exact absurd (show Tryz.f6.body.isSome=true by kernel_rfl) (by rw [h];decide)
 have hds:ds.length=2:=by
  have hl:=hA
  rw [Tryz.params6] at hl
  obtain ⟨_,_,_,_,_,_,-,rfl,-⟩:=trodAll_two hl
  rfl
 refine (law_calls (H:=H) (enc:=enc) Tryz.func6 (by decide +kernel) hc hp0 hty hg0 hA (fun j t v ht hv=>hval j t v ht hv) hT).mono ?_
 rintro e W' ⟨rfl,hk⟩
 refine ⟨_,rfl,law_post hW' rfl A.laidOut hty (show Tryz.f6.resultTypes= #[4] by kernel_rfl) Tryz.underlying4 ?_ ?_ ?_ hk⟩
 all_goals
  match ds,hds with | [d1,d2],_=>rfl
theorem duesOf_j1:Tryz.prog.inPlace 6=Rows.duesOfRow.inPlace:=by kernel_rfl
theorem duesOf_j2:Tryz.prog.unfollowed 6=Rows.duesOfRow.unfollowed:=by kernel_rfl
theorem duesOf_j3:Tryz.prog.recurses 6=Rows.duesOfRow.recurses:=by kernel_rfl
theorem duesOf_j4:Tryz.prog.varsNamed 6=Rows.duesOfRow.named:=by kernel_rfl
theorem duesOf_closed:joinedFacts Tryz.prog 6 Tryz.f6 Rows.duesOfSpec Rows.duesOfRow=true:=by
 unfold joinedFacts
 rw [duesOf_j1,duesOf_j2,duesOf_j3,duesOf_j4]
 kernel_rfl
theorem duesOf_holds:Rows.DuesOfSaid:=
 OpenClaim.holds_of_wide 6 Tryz.f6 rfl rfl rfl rfl rfl rfl rfl ⟨rfl,rfl,rfl,rfl,rfl⟩ rfl rfl rfl rfl rfl (by kernel_rfl) Tryz.func6 duesOf_closed
  (of_decide_eq_true (by kernel_rfl)) (by unfold Func.isWrapper;first | (rw [if_pos (by decide +kernel)];kernel_rfl) | (rw [if_neg (by decide +kernel)];exact ⟨rfl,rfl⟩))
  (fun os started H enc _=>duesOf_lifted os started H enc)
theorem duesOf_card:Rows.DuesOfCardSaid:=
 Claim7.holds_tied_plain_at .later [] [.data, .data, .data] true (true, "4ff6890e9bf07b1890cba9fc8305096720cc396fc3a98ce59fb5d6f6355d2d1d") false
  duesOf_holds (fun _ h=>by cases h) (by kernel_rfl) (fun _ h=>by cases h) duesOf_row_tie rfl ⟨rfl,rfl⟩ (by kernel_rfl) rfl
  (fun f fn hf hfn=>by
   obtain rfl : f = 6 := Option.some.inj ((show Tryz.prog.funcNamed "entente/ententelaw27.DuesOf" = some 6 by kernel_rfl).symm.trans hf) |>.symm
   obtain rfl:fn=Tryz.f6:=(Option.some.inj (Tryz.func6.symm.trans hfn)).symm
   exact ⟨by kernel_rfl,fun j t ht=>by
    rw [Tryz.params6] at ht
    have hm:t∈[45,30]:=by simpa using Array.mem_of_getElem? ht
    have hall:([45,30].all fun u=> !Tryz.prog.wantsStandIn u)=true:=by kernel_rfl
    exact (show Tryz.prog.wantsStandIn t=false by simpa using List.all_eq_true.1 hall t hm)⟩)
  (by kernel_rfl)
end Go.Proofs.YtkjiaijkdefkgaaGreatDoor
