/- The row and the card: whatever the input, the law tells true; under the row's conditions alone. -/
import Derived.Test.YtlhageadjmoajaaGreatDoorGj
set_option maxRecDepth 20000
namespace Go.Proofs.YtlhageadjmoajaaGreatDoor.A
open Go Go.AM
set_option maxRecDepth 20000
theorem pow_outX{P:Program}(hm:P.follows .mixedOrders=true){E:Env}{f:Nat}(hE:EnvOK P E)(h:(callN E 60 f [] []).out=some [D.bool true]):PureOK P f g20:=PureOK.run hm hE fun ds rs hr=>by
 unfold g20 at hr
 split at hr
 ·cases hr
  exact ⟨60,h⟩
 ·cases hr
theorem chain17{P:Program}(hm:P.follows .mixedOrders=true)(h0:EnvOK P E0):EnvOK P E17:=by
 have h4:=ok4 hm (ok3 hm (ok2 hm (ok1 hm h0)))
 have h5:=ok5 hm h4
 have h7:=ok7 hm (ok6 hm h5)
 have h8:=ok8 hm h7
 have h14:=ok14 hm (ok13 hm (ok12 hm (ok11 hm (ok10 hm (ok9 hm h8)))))
 exact ok17 hm (ok16 hm (ok15 hm h14 (fn74 hm h5)) (fn46 hm h7) (fn50 hm h7)) (fn56 hm h8)
theorem chainMt{P:Program}(hm:P.follows .mixedOrders=true)(h0:EnvOK P E0)(hc:PureOK P 210 g192):EnvOK P Mt:=by
 have h19:=ok19 hm (ok18 hm (chain17 hm h0))
 have m2:EnvOK P M2:=(okM1 hm (okK2 hm (okK1 hm h19 h0))).pureAt hc
 have m3:=okM3 hm m2
 have m6:=okM6 hm m3
 have mg:=okMg hm (okMd hm m3 m6 (okM9 hm m6))
 have mi:=okMi hm mg (okMh hm (okF4 hm h19) (okF5 hm h19) mg)
 exact okMt hm (okMs hm (okMq (okMp hm mg mi)))
theorem chainWa{P:Program}(hm:P.follows .mixedOrders=true)(h0:EnvOK P E0)(mt:EnvOK P Mt):EnvOK P Wa:=
 ((((okDb hm (okDa hm mt)).pureAt (pure54x hm mt)).pureAt (pure60x hm mt)).pureAt (pure38 hm (okK1 hm (ok19 hm (ok18 hm (chain17 hm h0))) h0))).roAt ((fn1054 hm (okDb hm (okDa hm mt))).ro C1054_ro)
theorem at26{P:Program}(hm:P.follows .mixedOrders=true)(h0:EnvOK P E0):PureOK P 17 g20:=by
 have e4:EnvOK P EV4:=(h0.pureAt (PureOK.self hm h0 60 58)).pureAt (PureOK.self hm h0 60 18)
 exact pow_outX hm e4 awake26_run
theorem rootX{P:Program}(hm:P.follows .mixedOrders=true)(h0:EnvOK P E0)(mt:EnvOK P Mt):EnvOK P Xd:=by
 have wa:=chainWa hm h0 mt
 have xa:=okXa hm wa
 have xb:=okXb hm mt xa
 exact okXd hm (okXc hm wa xb (okXv hm (chain17 hm h0) xa xb)) (at26 hm h0)
theorem parentRoot:True:=by
 have h1:= @rootX
 have h2:= @pverd
 have h3:= @chainMt
 have h5:= @law_trueP
 have h6:= @state_in
 have h7:= @id_in
 have h10:= @tab_okP
 have h15:= @law_calls
 have h16:= @law_post
 have h17:= @tyArgs
 have h18:= @EnvOK.of_table
 trivial
end Go.Proofs.YtlhageadjmoajaaGreatDoor.A
