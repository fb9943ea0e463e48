/- The probe of layer 25's laws, by the kernel. -/
import Derived.Test.YtkjiaijkdefkgaaGreatDoorCk
import Derived.Test.YtkjiaijkdefkgaaGreatDoorGc
import Derived.Test.YtkjiaijkdefkgaaGreatDoorHa
import Derived.KernelRfl

namespace Go.Proofs.YtkjiaijkdefkgaaGreatDoor.A
open Go Go.AM Go.Proofs
def EV : Env := (E0.pureAt 19 false (gSelf E0 60 19)).pureAt 15 false (gSelf E0 60 15)
theorem awake25_run : (callN EV 60 14 [] []).out = some [D.bool true] := by kernel_rfl
end Go.Proofs.YtkjiaijkdefkgaaGreatDoor.A
