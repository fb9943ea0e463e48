/- The row and the card: whatever the input, the law tells true; under the row's conditions alone. -/
import Derived.Test.YtlhageadjmoajaaDoorGg
set_option maxRecDepth 20000
namespace Go.Proofs.YtlhageadjmoajaaDoor.A
open Go Go.AM
set_option maxRecDepth 20000
theorem chainMqB{P:Program}(hm:P.follows .mixedOrders=true)(h0:EnvOK P E0)(hc:PureOK P 27 g192):EnvOK P Mq:=by
 have h4:=ok4 hm (ok3 hm (ok2 hm (ok1 hm h0)))
 have h13:EnvOK P E13:=h4
 have h19:=ok19 hm h4
 have f3:=okF3 hm h19
 have m2:EnvOK P M2:=f3.pureAt hc
 exact okM9 hm m2
theorem chainMuB{P:Program}(hm:P.follows .mixedOrders=true)(hq:EnvOK P Mq):EnvOK P Mu:=okMu hm (okMt hm (okMs hm hq))
theorem rootBf{P:Program}(hm:P.follows .mixedOrders=true)(h0:EnvOK P E0)(hq:EnvOK P Mq)(hb:AllOK P tableB)(hc:PureOK P 27 g192)(hi:FnOK P 36 (Cins defSh)):EnvOK P Bf:=
 (okBa (chainMuB hm hq) hb).pureAt (atB hm (okE0b h0 hb) hc hi)
theorem rootBi{P:Program}(hm:P.follows .mixedOrders=true)(h0:EnvOK P E0)(hq:EnvOK P Mq)(hb:AllOK P tableB)(hc:PureOK P 27 g192)(hi:FnOK P 36 (Cins defSh)):EnvOK P Bi:=by
 have bd:=okBd hm (okBc hm hq (okBa (chainMuB hm hq) hb) hi)
 exact okBi hm bd (okBg hm bd) (atB hm (okE0b h0 hb) hc hi)
theorem books_in{l:List D}(h: ∀x∈l,WF defTy.sh x):nilB l:=fun i hi=>by
 obtain ⟨nm,nil,es,e,b⟩:=def_in (h _ (getD_mem hi))
 rw [e]
 exact b
theorem bookRoot:True:=by
 have h1:= @rootBf
 have h2:= @rootBi
 have h3:= @chainMqB
 have h4:= @bfinds
 have h5:= @badds
 have h6:= @border
 have h7:= @law_trueP
 have h8:= @books_in
 have h9:= @ins_mk
 have h10:= @fnIns
 have h15:= @law_calls
 have h16:= @law_post
 have h17:= @tyArgs
 have h18:= @EnvOK.of_table
 trivial
end Go.Proofs.YtlhageadjmoajaaDoor.A
