/- The row and the card: whatever the input, the law tells true; under the row's conditions alone. -/
import Derived.Test.YtkjiaijkdefkgaaGreatDoorGk
import Derived.SevenTiedAt
namespace Go.Proofs.YtkjiaijkdefkgaaGreatDoor
open Go Go.AM Go.Proofs Go.ChangeShapes
theorem duesAll_pure: ∃g,PureOK Tryz.prog 7 g∧ ∀xs,WFs [A.stateTy,.sl A.noteTy,.int .i64] xs→(g xs).eval=some [.bool true]:=A.law_true A.okDht fun ds h=>by
 match ds,h with
 | [x,y,z],h=>
  obtain ⟨og,ep,co,na,nm,nb,ns,ac,ms,bs,ss,rfl,h1,-⟩:=A.state_in h.1
  obtain ⟨nl,l,rfl,-,h2⟩:=WF.inv_sl h.2.1
  obtain ⟨p,rfl⟩:=h.2.2.1.inv_int
  exact ⟨399+1,by rw [callN_succ (fn:=A.c7) rfl];exact A.duesall 359 399 og ep co na nm nb ns ac ms bs ss nl l p h1 (A.notes_in h2) (by omega)⟩
set_option maxRecDepth 100000 in
theorem duesAll_lifted(os:Os)(started:os.Started)(H:Type)(enc:TypeId×Value→H):
  ReturnsInHanded {} Tryz.checked os 7 .any (fun w args=>(Rows.duesAllSpec.pre enc Tryz.prog Tryz.f7 [] false w args∧laidMetH Tryz.prog A.tabs4 w)∧sizedMet enc Tryz.prog Tryz.f7 (OpenSpec.ofChange Rows.duesAllSpec) false w args)
   (Rows.duesAllSpec.post enc Tryz.prog Tryz.f7 false true false false):=by
 refine returnsInHanded_of_change_and (C:=Tryz.checked) (X:=fun w _=>laidMetH Tryz.prog A.tabs4 w) (fun _ _ _ hh h=>h.of_heap hh) A.own1 started (by kernel_rfl) Tryz.func7
  (ChangeSpec.witness_shaped (enc:=enc) (C:=Tryz.checked) (os:=os) (X:=fun w _=>laidMetH Tryz.prog A.tabs4 w) false (World.laidAll Tryz.prog os A.tabs4) #[.agg #[.int .i64 0,.int .i64 0,.int .i64 0,.slice none 0 0,.slice none 0 0,.slice none 0 0,.slice none 0 0],.slice none 0 0,.int .i64 0] 8 (World.laidAll_os _ _ _) (World.shaped_of_ZipB (by kernel_rfl) (by kernel_rfl)) (by kernel_rfl) (by kernel_rfl) (by kernel_rfl) (A.tabs4_met os _)) ?_
 obtain ⟨g0,hp0,hg0⟩:=duesAll_pure
 intro W base args ds gs before hval hW _ _ hx _
 have hW':=hW
 have hT:TabOK Tryz.prog W (fun _=>False):=by
  rw [MakeChecks.laidMetH_plain _ _ _ (by kernel_rfl)] at hx
  obtain ⟨ps,hl,-,-⟩:=hx
  exact A.tab_ok hl A.tabs4_pow
 obtain ⟨p,q,hA,hV,-,-,-⟩:=hW
 obtain ⟨rfl,rfl⟩:=trodVars_none hV
 have hty:tyArgs Tryz.prog [A.stateTy,.sl A.noteTy,.int .i64] Tryz.f7.params.toList=true:=by rw [Tryz.params7];kernel_rfl
 obtain ⟨c,hc⟩: ∃c,Tryz.f7.body=some c:=by
  cases h:Tryz.f7.body with
  | some c=>exact ⟨c,rfl⟩
  | none=>exact absurd (show Tryz.f7.body.isSome=true by kernel_rfl) (by rw [h];decide)
 have hds:ds.length=3:=by
  have hl:=hA
  rw [Tryz.params7] at hl
  obtain ⟨_,_,_,_,_,_,_,_,_,-,rfl,-⟩:=trodAll_three hl
  rfl
 refine (law_calls (H:=H) (enc:=enc) Tryz.func7 (by decide +kernel) hc hp0 hty hg0 hA (fun j t v ht hv=>hval j t v ht hv) hT).mono ?_
 rintro e W' ⟨rfl,hk⟩
 refine ⟨_,rfl,law_post hW' rfl A.laidOut hty (show Tryz.f7.resultTypes= #[4] by kernel_rfl) Tryz.underlying4 ?_ ?_ ?_ hk⟩
 all_goals
  match ds,hds with | [d1,d2,d3],_=>rfl
theorem duesAll_j1:Tryz.prog.inPlace 7=Rows.duesAllRow.inPlace:=by kernel_rfl
theorem duesAll_j2:Tryz.prog.unfollowed 7=Rows.duesAllRow.unfollowed:=by kernel_rfl
theorem duesAll_j3:Tryz.prog.recurses 7=Rows.duesAllRow.recurses:=by kernel_rfl
theorem duesAll_j4:Tryz.prog.varsNamed 7=Rows.duesAllRow.named:=by kernel_rfl
theorem duesAll_closed:joinedFacts Tryz.prog 7 Tryz.f7 Rows.duesAllSpec Rows.duesAllRow=true:=by
 unfold joinedFacts
 rw [duesAll_j1,duesAll_j2,duesAll_j3,duesAll_j4]
 kernel_rfl
theorem duesAll_holds:Rows.DuesAllSaid:=
 OpenClaim.holds_of_wide 7 Tryz.f7 rfl rfl rfl rfl rfl rfl rfl ⟨rfl,rfl,rfl,rfl,rfl⟩ rfl rfl rfl rfl rfl (by kernel_rfl) Tryz.func7 duesAll_closed
  (of_decide_eq_true (by kernel_rfl)) (by unfold Func.isWrapper;first | (rw [if_pos (by decide +kernel)];kernel_rfl) | (rw [if_neg (by decide +kernel)];exact ⟨rfl,rfl⟩))
  (fun os started H enc _=>duesAll_lifted os started H enc)
theorem duesAll_card:Rows.DuesAllCardSaid:=
 Claim7.holds_tied_plain_at .later [] [.data, .data, .data] true (true, "4ff6890e9bf07b1890cba9fc8305096720cc396fc3a98ce59fb5d6f6355d2d1d") false
  duesAll_holds (fun _ h=>by cases h) (by kernel_rfl) (fun _ h=>by cases h) duesAll_row_tie rfl ⟨rfl,rfl⟩ (by kernel_rfl) rfl
  (fun f fn hf hfn=>by
   obtain rfl : f = 7 := Option.some.inj ((show Tryz.prog.funcNamed "entente/ententelaw27.DuesAll" = some 7 by kernel_rfl).symm.trans hf) |>.symm
   obtain rfl:fn=Tryz.f7:=(Option.some.inj (Tryz.func7.symm.trans hfn)).symm
   exact ⟨by kernel_rfl,fun j t ht=>by
    rw [Tryz.params7] at ht
    have hm:t∈[45,48,3]:=by simpa using Array.mem_of_getElem? ht
    have hall:([45,48,3].all fun u=> !Tryz.prog.wantsStandIn u)=true:=by kernel_rfl
    exact (show Tryz.prog.wantsStandIn t=false by simpa using List.all_eq_true.1 hall t hm)⟩)
  (by kernel_rfl)
end Go.Proofs.YtkjiaijkdefkgaaGreatDoor
