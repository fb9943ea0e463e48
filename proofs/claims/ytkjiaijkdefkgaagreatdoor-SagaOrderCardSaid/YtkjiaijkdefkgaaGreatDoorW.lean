/- The probe's text, its tokens and its definition. -/
import Derived.Test.YtkjiaijkdefkgaaGreatDoorHd
import Derived.Test.YtkjiaijkdefkgaaGreatDoorGc
import Derived.KernelRfl

namespace Go.Proofs.YtkjiaijkdefkgaaGreatDoor.A
open Go Go.AM Go.Proofs
def lit21 : List UInt8 := [115, 97, 103, 97, 32, 116, 32, 123, 32, 100, 101, 98, 105, 116, 32, 99, 97, 115, 104, 32, 53, 59, 32, 97, 115, 107, 32, 50, 32, 104, 111, 116, 101, 108, 59, 32, 125]
def toks21 : List D := [(.sl (.agg [(.int .i64), .str, (.int .i64)]) false [(.agg [(.int .i64 1), (.str [115, 97, 103, 97]), (.int .i64 0)]), (.agg [(.int .i64 1), (.str [116]), (.int .i64 5)]), (.agg [(.int .i64 3), (.str [123]), (.int .i64 7)]), (.agg [(.int .i64 1), (.str [100, 101, 98, 105, 116]), (.int .i64 9)]), (.agg [(.int .i64 1), (.str [99, 97, 115, 104]), (.int .i64 15)]), (.agg [(.int .i64 2), (.str [53]), (.int .i64 20)]), (.agg [(.int .i64 3), (.str [59]), (.int .i64 21)]), (.agg [(.int .i64 1), (.str [97, 115, 107]), (.int .i64 23)]), (.agg [(.int .i64 2), (.str [50]), (.int .i64 27)]), (.agg [(.int .i64 1), (.str [104, 111, 116, 101, 108]), (.int .i64 29)]), (.agg [(.int .i64 3), (.str [59]), (.int .i64 34)]), (.agg [(.int .i64 3), (.str [125]), (.int .i64 36)]), (.agg [(.int .i64 0), (.str []), (.int .i64 37)])]), (.agg [(.int .i64 0), (.int .i64 0)])]
def tokl21 : List D := [toks21.headD .nilp]
def text21 : List D := [(.agg [(.str [116]), (.sl (.agg [(.int .i64), .str, (.int .i64), (.int .i64), .str, (.int .i64), (.int .i64)]) false [(.agg [(.int .i64 1), (.str [99, 97, 115, 104]), (.int .i64 5), (.int .i64 0), (.str []), (.int .i64 1), (.int .i64 0)]), (.agg [(.int .i64 0), (.str []), (.int .i64 0), (.int .i64 2), (.str [104, 111, 116, 101, 108]), (.int .i64 0), (.int .i64 20)])])]), (.agg [(.int .i64 0), (.int .i64 0)])]
end Go.Proofs.YtkjiaijkdefkgaaGreatDoor.A
/- A text is cut into tokens, by the kernel. -/
namespace Go.Proofs.YtkjiaijkdefkgaaGreatDoor.A
open Go Go.AM Go.Proofs
theorem scan_run : (callN E18 60 122 [.d (.str lit21)] []).out = some toks21 := by kernel_rfl
end Go.Proofs.YtkjiaijkdefkgaaGreatDoor.A
/- Tokens are looked at, by the kernel. -/
namespace Go.Proofs.YtkjiaijkdefkgaaGreatDoor.A
open Go Go.AM Go.Proofs
theorem lex_run : (callN E18 60 172 (tokl21.map .d) []).out = some [.int .i64 0] := by kernel_rfl
end Go.Proofs.YtkjiaijkdefkgaaGreatDoor.A
/- A definition is read, by the kernel. -/
namespace Go.Proofs.YtkjiaijkdefkgaaGreatDoor.A
open Go Go.AM Go.Proofs
def EW3 : Env := (E18.pureAt 122 false (gAt [([.str lit21], toks21)])).pureAt 172 false (gAt [(tokl21, [.int .i64 0])])
theorem text_run : (callN EW3 60 68 [.d (.str lit21)] []).out = some text21 := by kernel_rfl
end Go.Proofs.YtkjiaijkdefkgaaGreatDoor.A
/- The probe of layer 21's laws, by the kernel. -/
namespace Go.Proofs.YtkjiaijkdefkgaaGreatDoor.A
open Go Go.AM Go.Proofs
def EW4 : Env := ((E18.pureAt 68 false (gAt [([.str lit21], text21)])).pureAt 69 false (gSelf E0 60 69)).selfAt 60 33
theorem awake_run : (callN EW4 60 32 [] []).out = some [D.bool true] := by kernel_rfl
end Go.Proofs.YtkjiaijkdefkgaaGreatDoor.A
