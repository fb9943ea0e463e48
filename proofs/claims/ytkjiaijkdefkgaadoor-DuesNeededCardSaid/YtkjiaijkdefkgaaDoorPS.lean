/- The row and the card: whatever the input, the law tells true; under the row's conditions alone. -/
import Derived.Test.YtkjiaijkdefkgaaDoorGj
namespace Go.Proofs.YtkjiaijkdefkgaaDoor.A
open Go Go.AM Go.Proofs
theorem law_some{f:Nat}{tys:List Ty}(h: ∀ds,WFs tys ds→ ∃E n,EnvOK Tryd.prog E∧(callN E n f (ds.map .d) []).out=some [.bool true]):
  ∃g,PureOK Tryd.prog f g∧ ∀xs,WFs tys xs→(g xs).eval=some [.bool true]:=by
 refine ⟨fun ds=> @ite _ (WFs tys ds) (Classical.propDecidable _) (.ret [D.bool true]) .stuck,fun hy ds rs hr=> ?_,fun xs hw=> ?_⟩
 ·have hr:Tree.eval (@ite _ (WFs tys ds) (Classical.propDecidable _) (.ret [D.bool true]) .stuck)=some rs:=hr
  by_cases hw:WFs tys ds
  ·obtain ⟨E,n,hE,hn⟩:=h ds hw
   rw [if_pos hw] at hr
   refine PureOK.run (f:=f) (g:=fun ds'=> @ite _ (ds'=ds) (Classical.propDecidable _) (.ret [D.bool true]) .stuck) mixed hE (fun ds' rs' hr'=> ?_) hy ds rs (by show Tree.eval (@ite _ (ds=ds) (Classical.propDecidable _) (.ret [D.bool true]) .stuck)=some rs;rw [if_pos rfl];exact hr)
   have hr':Tree.eval (@ite _ (ds'=ds) (Classical.propDecidable _) (.ret [D.bool true]) .stuck)=some rs':=hr'
   by_cases he:ds'=ds
   ·rw [if_pos he] at hr'
    cases hr'
    rw [he]
    exact ⟨n,hn⟩
   ·rw [if_neg he] at hr'
    cases hr'
  ·rw [if_neg hw] at hr
   cases hr
 ·show Tree.eval (@ite _ (WFs tys xs) (Classical.propDecidable _) (.ret [D.bool true]) .stuck)=_
  rw [if_pos hw];rfl
theorem duesRoot:True:=by
 have h1:= @duessound
 have h2:= @duesneeded
 have h3:=okDht
 have h4:= @okDy
 have h5:= @law_true
 have h6:= @state_in
 have h7:= @saga_in
 have h8:= @tab_ok
 have h9:=tabs4_met
 have h10:=tabs4_pow
 have h11:=own1
 have h12:=laidOut
 have h13:= @okDt
 have h14:= @law_some
 trivial
end Go.Proofs.YtkjiaijkdefkgaaDoor.A
