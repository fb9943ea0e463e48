/- Parts of the walk: QI6, I6, QI7, I7, D0, QK1, D1, K0, QK2, SK2, SK3, QK3, SK4, SK5, PY, QM1, M1, M2a, N1, QM3, M3, QM4, M4, M5, M6a, QMd, M7, Ma, QM8, M8, M9, Md. -/
import Derived.Test.YtkjiaijkdefkgaaGreatDoorGh
import Derived.KernelRfl
import Derived.Test.YtkjiaijkdefkgaaGreatDoorChecked
import Derived.Lib.Strings
import Derived.Lib.Slices
import Derived.Lib.Walk
import Derived.Lib.Bytealg
open Go Go.AM Go.Proofs
namespace Go.Proofs.YtkjiaijkdefkgaaGreatDoor.A
theorem i175(m n:Nat)(u:Int):Tree.out (enterM I3 (callN I3 (m+40)) n c175 [.d (.int .i64 u),.d (.int .i64 10)] [])=bif decide (0≤u) then bif decide (u<100) then bif decide (u<10) then bif decide (0≤IntKind.wrap .i64 (u+1)∧IntKind.wrap .i64 (u+1)≤36) then bif decide (0≤u∧u≤IntKind.wrap .i64 (u+1)) then some [D.str (List.take (Int.toNat (IntKind.wrap .i64 (u+1)) - u.toNat) (List.drop (u.toNat) [48,49,50,51,52,53,54,55,56,57,97,98,99,100,101,102,103,104,105,106,107,108,109,110,111,112,113,114,115,116,117,118,119,120,121,122]))] else none else none else bif decide (0≤IntKind.wrap .i64 (IntKind.wrap .i64 (u*2)+2)∧IntKind.wrap .i64 (IntKind.wrap .i64 (u*2)+2)≤200) then bif decide (0≤IntKind.wrap .i64 (u*2)∧IntKind.wrap .i64 (u*2)≤IntKind.wrap .i64 (IntKind.wrap .i64 (u*2)+2)) then some [D.str (List.take (Int.toNat (IntKind.wrap .i64 (IntKind.wrap .i64 (u*2)+2)) - Int.toNat (IntKind.wrap .i64 (u*2))) (List.drop (Int.toNat (IntKind.wrap .i64 (u*2))) [48,48,48,49,48,50,48,51,48,52,48,53,48,54,48,55,48,56,48,57,49,48,49,49,49,50,49,51,49,52,49,53,49,54,49,55,49,56,49,57,50,48,50,49,50,50,50,51,50,52,50,53,50,54,50,55,50,56,50,57,51,48,51,49,51,50,51,51,51,52,51,53,51,54,51,55,51,56,51,57,52,48,52,49,52,50,52,51,52,52,52,53,52,54,52,55,52,56,52,57,53,48,53,49,53,50,53,51,53,52,53,53,53,54,53,55,53,56,53,57,54,48,54,49,54,50,54,51,54,52,54,53,54,54,54,55,54,56,54,57,55,48,55,49,55,50,55,51,55,52,55,53,55,54,55,55,55,56,55,57,56,48,56,49,56,50,56,51,56,52,56,53,56,54,56,55,56,56,56,57,57,48,57,49,57,50,57,51,57,52,57,53,57,54,57,55,57,56,57,57]))] else none else none else bif decide (u<0) then bif decide (100≤IntKind.wrap .u64 (0 - IntKind.wrap .u64 u))&&decide (IntKind.wrap .u64 (0 - IntKind.wrap .u64 u)≤999999) then bif decide (IntKind.wrap .u64 (0 - IntKind.wrap .u64 u)<1000) then bif decide (100≤IntKind.wrap .u64 (0 - IntKind.wrap .u64 u))&&decide (IntKind.wrap .u64 (0 - IntKind.wrap .u64 u)≤999) then bif decide (u<0) then some [D.str [UInt8.ofNat 45,UInt8.ofNat (Int.toNat (48+IntKind.wrap .u64 (0 - IntKind.wrap .u64 u) / 100 % 10)),UInt8.ofNat (Int.toNat (48+IntKind.wrap .u64 (0 - IntKind.wrap .u64 u) / 10 % 10)),UInt8.ofNat (Int.toNat (48+IntKind.wrap .u64 (0 - IntKind.wrap .u64 u) / 1 % 10))]] else some [D.str [UInt8.ofNat (Int.toNat (48+IntKind.wrap .u64 (0 - IntKind.wrap .u64 u) / 100 % 10)),UInt8.ofNat (Int.toNat (48+IntKind.wrap .u64 (0 - IntKind.wrap .u64 u) / 10 % 10)),UInt8.ofNat (Int.toNat (48+IntKind.wrap .u64 (0 - IntKind.wrap .u64 u) / 1 % 10))]] else none else bif decide (IntKind.wrap .u64 (0 - IntKind.wrap .u64 u)<10000) then bif decide (1000≤IntKind.wrap .u64 (0 - IntKind.wrap .u64 u))&&decide (IntKind.wrap .u64 (0 - IntKind.wrap .u64 u)≤9999) then bif decide (u<0) then some [D.str [UInt8.ofNat 45,UInt8.ofNat (Int.toNat (48+IntKind.wrap .u64 (0 - IntKind.wrap .u64 u) / 1000 % 10)),UInt8.ofNat (Int.toNat (48+IntKind.wrap .u64 (0 - IntKind.wrap .u64 u) / 100 % 10)),UInt8.ofNat (Int.toNat (48+IntKind.wrap .u64 (0 - IntKind.wrap .u64 u) / 10 % 10)),UInt8.ofNat (Int.toNat (48+IntKind.wrap .u64 (0 - IntKind.wrap .u64 u) / 1 % 10))]] else some [D.str [UInt8.ofNat (Int.toNat (48+IntKind.wrap .u64 (0 - IntKind.wrap .u64 u) / 1000 % 10)),UInt8.ofNat (Int.toNat (48+IntKind.wrap .u64 (0 - IntKind.wrap .u64 u) / 100 % 10)),UInt8.ofNat (Int.toNat (48+IntKind.wrap .u64 (0 - IntKind.wrap .u64 u) / 10 % 10)),UInt8.ofNat (Int.toNat (48+IntKind.wrap .u64 (0 - IntKind.wrap .u64 u) / 1 % 10))]] else none else bif decide (IntKind.wrap .u64 (0 - IntKind.wrap .u64 u)<100000) then bif decide (10000≤IntKind.wrap .u64 (0 - IntKind.wrap .u64 u))&&decide (IntKind.wrap .u64 (0 - IntKind.wrap .u64 u)≤99999) then bif decide (u<0) then some [D.str [UInt8.ofNat 45,UInt8.ofNat (Int.toNat (48+IntKind.wrap .u64 (0 - IntKind.wrap .u64 u) / 10000 % 10)),UInt8.ofNat (Int.toNat (48+IntKind.wrap .u64 (0 - IntKind.wrap .u64 u) / 1000 % 10)),UInt8.ofNat (Int.toNat (48+IntKind.wrap .u64 (0 - IntKind.wrap .u64 u) / 100 % 10)),UInt8.ofNat (Int.toNat (48+IntKind.wrap .u64 (0 - IntKind.wrap .u64 u) / 10 % 10)),UInt8.ofNat (Int.toNat (48+IntKind.wrap .u64 (0 - IntKind.wrap .u64 u) / 1 % 10))]] else some [D.str [UInt8.ofNat (Int.toNat (48+IntKind.wrap .u64 (0 - IntKind.wrap .u64 u) / 10000 % 10)),UInt8.ofNat (Int.toNat (48+IntKind.wrap .u64 (0 - IntKind.wrap .u64 u) / 1000 % 10)),UInt8.ofNat (Int.toNat (48+IntKind.wrap .u64 (0 - IntKind.wrap .u64 u) / 100 % 10)),UInt8.ofNat (Int.toNat (48+IntKind.wrap .u64 (0 - IntKind.wrap .u64 u) / 10 % 10)),UInt8.ofNat (Int.toNat (48+IntKind.wrap .u64 (0 - IntKind.wrap .u64 u) / 1 % 10))]] else none else bif decide (100000≤IntKind.wrap .u64 (0 - IntKind.wrap .u64 u))&&decide (IntKind.wrap .u64 (0 - IntKind.wrap .u64 u)≤999999) then bif decide (u<0) then some [D.str [UInt8.ofNat 45,UInt8.ofNat (Int.toNat (48+IntKind.wrap .u64 (0 - IntKind.wrap .u64 u) / 100000 % 10)),UInt8.ofNat (Int.toNat (48+IntKind.wrap .u64 (0 - IntKind.wrap .u64 u) / 10000 % 10)),UInt8.ofNat (Int.toNat (48+IntKind.wrap .u64 (0 - IntKind.wrap .u64 u) / 1000 % 10)),UInt8.ofNat (Int.toNat (48+IntKind.wrap .u64 (0 - IntKind.wrap .u64 u) / 100 % 10)),UInt8.ofNat (Int.toNat (48+IntKind.wrap .u64 (0 - IntKind.wrap .u64 u) / 10 % 10)),UInt8.ofNat (Int.toNat (48+IntKind.wrap .u64 (0 - IntKind.wrap .u64 u) / 1 % 10))]] else some [D.str [UInt8.ofNat (Int.toNat (48+IntKind.wrap .u64 (0 - IntKind.wrap .u64 u) / 100000 % 10)),UInt8.ofNat (Int.toNat (48+IntKind.wrap .u64 (0 - IntKind.wrap .u64 u) / 10000 % 10)),UInt8.ofNat (Int.toNat (48+IntKind.wrap .u64 (0 - IntKind.wrap .u64 u) / 1000 % 10)),UInt8.ofNat (Int.toNat (48+IntKind.wrap .u64 (0 - IntKind.wrap .u64 u) / 100 % 10)),UInt8.ofNat (Int.toNat (48+IntKind.wrap .u64 (0 - IntKind.wrap .u64 u) / 10 % 10)),UInt8.ofNat (Int.toNat (48+IntKind.wrap .u64 (0 - IntKind.wrap .u64 u) / 1 % 10))]] else none else none else bif decide (100≤IntKind.wrap .u64 u)&&decide (IntKind.wrap .u64 u≤999999) then bif decide (IntKind.wrap .u64 u<1000) then bif decide (100≤IntKind.wrap .u64 u)&&decide (IntKind.wrap .u64 u≤999) then bif decide (u<0) then some [D.str [UInt8.ofNat 45,UInt8.ofNat (Int.toNat (48+IntKind.wrap .u64 u / 100 % 10)),UInt8.ofNat (Int.toNat (48+IntKind.wrap .u64 u / 10 % 10)),UInt8.ofNat (Int.toNat (48+IntKind.wrap .u64 u / 1 % 10))]] else some [D.str [UInt8.ofNat (Int.toNat (48+IntKind.wrap .u64 u / 100 % 10)),UInt8.ofNat (Int.toNat (48+IntKind.wrap .u64 u / 10 % 10)),UInt8.ofNat (Int.toNat (48+IntKind.wrap .u64 u / 1 % 10))]] else none else bif decide (IntKind.wrap .u64 u<10000) then bif decide (1000≤IntKind.wrap .u64 u)&&decide (IntKind.wrap .u64 u≤9999) then bif decide (u<0) then some [D.str [UInt8.ofNat 45,UInt8.ofNat (Int.toNat (48+IntKind.wrap .u64 u / 1000 % 10)),UInt8.ofNat (Int.toNat (48+IntKind.wrap .u64 u / 100 % 10)),UInt8.ofNat (Int.toNat (48+IntKind.wrap .u64 u / 10 % 10)),UInt8.ofNat (Int.toNat (48+IntKind.wrap .u64 u / 1 % 10))]] else some [D.str [UInt8.ofNat (Int.toNat (48+IntKind.wrap .u64 u / 1000 % 10)),UInt8.ofNat (Int.toNat (48+IntKind.wrap .u64 u / 100 % 10)),UInt8.ofNat (Int.toNat (48+IntKind.wrap .u64 u / 10 % 10)),UInt8.ofNat (Int.toNat (48+IntKind.wrap .u64 u / 1 % 10))]] else none else bif decide (IntKind.wrap .u64 u<100000) then bif decide (10000≤IntKind.wrap .u64 u)&&decide (IntKind.wrap .u64 u≤99999) then bif decide (u<0) then some [D.str [UInt8.ofNat 45,UInt8.ofNat (Int.toNat (48+IntKind.wrap .u64 u / 10000 % 10)),UInt8.ofNat (Int.toNat (48+IntKind.wrap .u64 u / 1000 % 10)),UInt8.ofNat (Int.toNat (48+IntKind.wrap .u64 u / 100 % 10)),UInt8.ofNat (Int.toNat (48+IntKind.wrap .u64 u / 10 % 10)),UInt8.ofNat (Int.toNat (48+IntKind.wrap .u64 u / 1 % 10))]] else some [D.str [UInt8.ofNat (Int.toNat (48+IntKind.wrap .u64 u / 10000 % 10)),UInt8.ofNat (Int.toNat (48+IntKind.wrap .u64 u / 1000 % 10)),UInt8.ofNat (Int.toNat (48+IntKind.wrap .u64 u / 100 % 10)),UInt8.ofNat (Int.toNat (48+IntKind.wrap .u64 u / 10 % 10)),UInt8.ofNat (Int.toNat (48+IntKind.wrap .u64 u / 1 % 10))]] else none else bif decide (100000≤IntKind.wrap .u64 u)&&decide (IntKind.wrap .u64 u≤999999) then bif decide (u<0) then some [D.str [UInt8.ofNat 45,UInt8.ofNat (Int.toNat (48+IntKind.wrap .u64 u / 100000 % 10)),UInt8.ofNat (Int.toNat (48+IntKind.wrap .u64 u / 10000 % 10)),UInt8.ofNat (Int.toNat (48+IntKind.wrap .u64 u / 1000 % 10)),UInt8.ofNat (Int.toNat (48+IntKind.wrap .u64 u / 100 % 10)),UInt8.ofNat (Int.toNat (48+IntKind.wrap .u64 u / 10 % 10)),UInt8.ofNat (Int.toNat (48+IntKind.wrap .u64 u / 1 % 10))]] else some [D.str [UInt8.ofNat (Int.toNat (48+IntKind.wrap .u64 u / 100000 % 10)),UInt8.ofNat (Int.toNat (48+IntKind.wrap .u64 u / 10000 % 10)),UInt8.ofNat (Int.toNat (48+IntKind.wrap .u64 u / 1000 % 10)),UInt8.ofNat (Int.toNat (48+IntKind.wrap .u64 u / 100 % 10)),UInt8.ofNat (Int.toNat (48+IntKind.wrap .u64 u / 10 % 10)),UInt8.ofNat (Int.toNat (48+IntKind.wrap .u64 u / 1 % 10))]] else none else none else bif decide (u<0) then bif decide (100≤IntKind.wrap .u64 (0 - IntKind.wrap .u64 u))&&decide (IntKind.wrap .u64 (0 - IntKind.wrap .u64 u)≤999999) then bif decide (IntKind.wrap .u64 (0 - IntKind.wrap .u64 u)<1000) then bif decide (100≤IntKind.wrap .u64 (0 - IntKind.wrap .u64 u))&&decide (IntKind.wrap .u64 (0 - IntKind.wrap .u64 u)≤999) then bif decide (u<0) then some [D.str [UInt8.ofNat 45,UInt8.ofNat (Int.toNat (48+IntKind.wrap .u64 (0 - IntKind.wrap .u64 u) / 100 % 10)),UInt8.ofNat (Int.toNat (48+IntKind.wrap .u64 (0 - IntKind.wrap .u64 u) / 10 % 10)),UInt8.ofNat (Int.toNat (48+IntKind.wrap .u64 (0 - IntKind.wrap .u64 u) / 1 % 10))]] else some [D.str [UInt8.ofNat (Int.toNat (48+IntKind.wrap .u64 (0 - IntKind.wrap .u64 u) / 100 % 10)),UInt8.ofNat (Int.toNat (48+IntKind.wrap .u64 (0 - IntKind.wrap .u64 u) / 10 % 10)),UInt8.ofNat (Int.toNat (48+IntKind.wrap .u64 (0 - IntKind.wrap .u64 u) / 1 % 10))]] else none else bif decide (IntKind.wrap .u64 (0 - IntKind.wrap .u64 u)<10000) then bif decide (1000≤IntKind.wrap .u64 (0 - IntKind.wrap .u64 u))&&decide (IntKind.wrap .u64 (0 - IntKind.wrap .u64 u)≤9999) then bif decide (u<0) then some [D.str [UInt8.ofNat 45,UInt8.ofNat (Int.toNat (48+IntKind.wrap .u64 (0 - IntKind.wrap .u64 u) / 1000 % 10)),UInt8.ofNat (Int.toNat (48+IntKind.wrap .u64 (0 - IntKind.wrap .u64 u) / 100 % 10)),UInt8.ofNat (Int.toNat (48+IntKind.wrap .u64 (0 - IntKind.wrap .u64 u) / 10 % 10)),UInt8.ofNat (Int.toNat (48+IntKind.wrap .u64 (0 - IntKind.wrap .u64 u) / 1 % 10))]] else some [D.str [UInt8.ofNat (Int.toNat (48+IntKind.wrap .u64 (0 - IntKind.wrap .u64 u) / 1000 % 10)),UInt8.ofNat (Int.toNat (48+IntKind.wrap .u64 (0 - IntKind.wrap .u64 u) / 100 % 10)),UInt8.ofNat (Int.toNat (48+IntKind.wrap .u64 (0 - IntKind.wrap .u64 u) / 10 % 10)),UInt8.ofNat (Int.toNat (48+IntKind.wrap .u64 (0 - IntKind.wrap .u64 u) / 1 % 10))]] else none else bif decide (IntKind.wrap .u64 (0 - IntKind.wrap .u64 u)<100000) then bif decide (10000≤IntKind.wrap .u64 (0 - IntKind.wrap .u64 u))&&decide (IntKind.wrap .u64 (0 - IntKind.wrap .u64 u)≤99999) then bif decide (u<0) then some [D.str [UInt8.ofNat 45,UInt8.ofNat (Int.toNat (48+IntKind.wrap .u64 (0 - IntKind.wrap .u64 u) / 10000 % 10)),UInt8.ofNat (Int.toNat (48+IntKind.wrap .u64 (0 - IntKind.wrap .u64 u) / 1000 % 10)),UInt8.ofNat (Int.toNat (48+IntKind.wrap .u64 (0 - IntKind.wrap .u64 u) / 100 % 10)),UInt8.ofNat (Int.toNat (48+IntKind.wrap .u64 (0 - IntKind.wrap .u64 u) / 10 % 10)),UInt8.ofNat (Int.toNat (48+IntKind.wrap .u64 (0 - IntKind.wrap .u64 u) / 1 % 10))]] else some [D.str [UInt8.ofNat (Int.toNat (48+IntKind.wrap .u64 (0 - IntKind.wrap .u64 u) / 10000 % 10)),UInt8.ofNat (Int.toNat (48+IntKind.wrap .u64 (0 - IntKind.wrap .u64 u) / 1000 % 10)),UInt8.ofNat (Int.toNat (48+IntKind.wrap .u64 (0 - IntKind.wrap .u64 u) / 100 % 10)),UInt8.ofNat (Int.toNat (48+IntKind.wrap .u64 (0 - IntKind.wrap .u64 u) / 10 % 10)),UInt8.ofNat (Int.toNat (48+IntKind.wrap .u64 (0 - IntKind.wrap .u64 u) / 1 % 10))]] else none else bif decide (100000≤IntKind.wrap .u64 (0 - IntKind.wrap .u64 u))&&decide (IntKind.wrap .u64 (0 - IntKind.wrap .u64 u)≤999999) then bif decide (u<0) then some [D.str [UInt8.ofNat 45,UInt8.ofNat (Int.toNat (48+IntKind.wrap .u64 (0 - IntKind.wrap .u64 u) / 100000 % 10)),UInt8.ofNat (Int.toNat (48+IntKind.wrap .u64 (0 - IntKind.wrap .u64 u) / 10000 % 10)),UInt8.ofNat (Int.toNat (48+IntKind.wrap .u64 (0 - IntKind.wrap .u64 u) / 1000 % 10)),UInt8.ofNat (Int.toNat (48+IntKind.wrap .u64 (0 - IntKind.wrap .u64 u) / 100 % 10)),UInt8.ofNat (Int.toNat (48+IntKind.wrap .u64 (0 - IntKind.wrap .u64 u) / 10 % 10)),UInt8.ofNat (Int.toNat (48+IntKind.wrap .u64 (0 - IntKind.wrap .u64 u) / 1 % 10))]] else some [D.str [UInt8.ofNat (Int.toNat (48+IntKind.wrap .u64 (0 - IntKind.wrap .u64 u) / 100000 % 10)),UInt8.ofNat (Int.toNat (48+IntKind.wrap .u64 (0 - IntKind.wrap .u64 u) / 10000 % 10)),UInt8.ofNat (Int.toNat (48+IntKind.wrap .u64 (0 - IntKind.wrap .u64 u) / 1000 % 10)),UInt8.ofNat (Int.toNat (48+IntKind.wrap .u64 (0 - IntKind.wrap .u64 u) / 100 % 10)),UInt8.ofNat (Int.toNat (48+IntKind.wrap .u64 (0 - IntKind.wrap .u64 u) / 10 % 10)),UInt8.ofNat (Int.toNat (48+IntKind.wrap .u64 (0 - IntKind.wrap .u64 u) / 1 % 10))]] else none else none else bif decide (100≤IntKind.wrap .u64 u)&&decide (IntKind.wrap .u64 u≤999999) then bif decide (IntKind.wrap .u64 u<1000) then bif decide (100≤IntKind.wrap .u64 u)&&decide (IntKind.wrap .u64 u≤999) then bif decide (u<0) then some [D.str [UInt8.ofNat 45,UInt8.ofNat (Int.toNat (48+IntKind.wrap .u64 u / 100 % 10)),UInt8.ofNat (Int.toNat (48+IntKind.wrap .u64 u / 10 % 10)),UInt8.ofNat (Int.toNat (48+IntKind.wrap .u64 u / 1 % 10))]] else some [D.str [UInt8.ofNat (Int.toNat (48+IntKind.wrap .u64 u / 100 % 10)),UInt8.ofNat (Int.toNat (48+IntKind.wrap .u64 u / 10 % 10)),UInt8.ofNat (Int.toNat (48+IntKind.wrap .u64 u / 1 % 10))]] else none else bif decide (IntKind.wrap .u64 u<10000) then bif decide (1000≤IntKind.wrap .u64 u)&&decide (IntKind.wrap .u64 u≤9999) then bif decide (u<0) then some [D.str [UInt8.ofNat 45,UInt8.ofNat (Int.toNat (48+IntKind.wrap .u64 u / 1000 % 10)),UInt8.ofNat (Int.toNat (48+IntKind.wrap .u64 u / 100 % 10)),UInt8.ofNat (Int.toNat (48+IntKind.wrap .u64 u / 10 % 10)),UInt8.ofNat (Int.toNat (48+IntKind.wrap .u64 u / 1 % 10))]] else some [D.str [UInt8.ofNat (Int.toNat (48+IntKind.wrap .u64 u / 1000 % 10)),UInt8.ofNat (Int.toNat (48+IntKind.wrap .u64 u / 100 % 10)),UInt8.ofNat (Int.toNat (48+IntKind.wrap .u64 u / 10 % 10)),UInt8.ofNat (Int.toNat (48+IntKind.wrap .u64 u / 1 % 10))]] else none else bif decide (IntKind.wrap .u64 u<100000) then bif decide (10000≤IntKind.wrap .u64 u)&&decide (IntKind.wrap .u64 u≤99999) then bif decide (u<0) then some [D.str [UInt8.ofNat 45,UInt8.ofNat (Int.toNat (48+IntKind.wrap .u64 u / 10000 % 10)),UInt8.ofNat (Int.toNat (48+IntKind.wrap .u64 u / 1000 % 10)),UInt8.ofNat (Int.toNat (48+IntKind.wrap .u64 u / 100 % 10)),UInt8.ofNat (Int.toNat (48+IntKind.wrap .u64 u / 10 % 10)),UInt8.ofNat (Int.toNat (48+IntKind.wrap .u64 u / 1 % 10))]] else some [D.str [UInt8.ofNat (Int.toNat (48+IntKind.wrap .u64 u / 10000 % 10)),UInt8.ofNat (Int.toNat (48+IntKind.wrap .u64 u / 1000 % 10)),UInt8.ofNat (Int.toNat (48+IntKind.wrap .u64 u / 100 % 10)),UInt8.ofNat (Int.toNat (48+IntKind.wrap .u64 u / 10 % 10)),UInt8.ofNat (Int.toNat (48+IntKind.wrap .u64 u / 1 % 10))]] else none else bif decide (100000≤IntKind.wrap .u64 u)&&decide (IntKind.wrap .u64 u≤999999) then bif decide (u<0) then some [D.str [UInt8.ofNat 45,UInt8.ofNat (Int.toNat (48+IntKind.wrap .u64 u / 100000 % 10)),UInt8.ofNat (Int.toNat (48+IntKind.wrap .u64 u / 10000 % 10)),UInt8.ofNat (Int.toNat (48+IntKind.wrap .u64 u / 1000 % 10)),UInt8.ofNat (Int.toNat (48+IntKind.wrap .u64 u / 100 % 10)),UInt8.ofNat (Int.toNat (48+IntKind.wrap .u64 u / 10 % 10)),UInt8.ofNat (Int.toNat (48+IntKind.wrap .u64 u / 1 % 10))]] else some [D.str [UInt8.ofNat (Int.toNat (48+IntKind.wrap .u64 u / 100000 % 10)),UInt8.ofNat (Int.toNat (48+IntKind.wrap .u64 u / 10000 % 10)),UInt8.ofNat (Int.toNat (48+IntKind.wrap .u64 u / 1000 % 10)),UInt8.ofNat (Int.toNat (48+IntKind.wrap .u64 u / 100 % 10)),UInt8.ofNat (Int.toNat (48+IntKind.wrap .u64 u / 10 % 10)),UInt8.ofNat (Int.toNat (48+IntKind.wrap .u64 u / 1 % 10))]] else none else none:=by kernel_rfl
open Go Go.AM
set_option maxRecDepth 20000
def digF:Nat→Nat→List UInt8
 | 0,n=>[UInt8.ofNat (48+n % 10)]
 | k+1,n=>if n<10 then [UInt8.ofNat (48+n)] else digF k (n / 10)++[UInt8.ofNat (48+n % 10)]
def digN(n:Nat):List UInt8:=digF 6 n
theorem wrap_u64{n:Int}(h0:0≤n)(h1:n<18446744073709551616):IntKind.wrap .u64 n=n:=by
  have e : n % (2 ^ 64 : Int) = n := Int.emod_eq_of_lt h0 (by have : (2 : Int) ^ 64 = 18446744073709551616 := by decide
                                                              omega)
  unfold IntKind.wrap
  simp only [IntKind.bits,IntKind.signed,e,Bool.false_and,Bool.false_eq_true,if_false]
theorem small_u{u:Int}(h0:0≤u)(h1:u<100): ∀m n:Nat,(enterM I3 (callN I3 (m+40)) n c175 [.d (.int .i64 u),.d (.int .i64 10)] []).out=some [.str (digN u.toNat)]:=by
 intro m n
 rw [i175,decide_eq_true h0,decide_eq_true h1]
 obtain ⟨k,rfl⟩:=Int.eq_ofNat_of_zero_le h0
 have hk:k<100:=by omega
 have hw: ∀k:Fin 100,IntKind.wrap .i64 ((k.1:Int)+1)=(k.1:Int)+1∧IntKind.wrap .i64 ((k.1:Int)*2)=(k.1:Int)*2∧IntKind.wrap .i64 ((k.1:Int)*2+2)=(k.1:Int)*2+2:=by decide +kernel
 obtain ⟨w1,w2,w3⟩:=hw ⟨k,hk⟩
 simp only at w1 w2 w3
 rw [w2,w3,w1]
 by_cases h10:k<10
 ·have: ∀k:Fin 10,List.take (Int.toNat ((k.1:Int)+1) - Int.toNat (k.1:Int)) (List.drop (Int.toNat (k.1:Int)) [(48:UInt8),49,50,51,52,53,54,55,56,57,97,98,99,100,101,102,103,104,105,106,107,108,109,110,111,112,113,114,115,116,117,118,119,120,121,122])=digN (Int.toNat (k.1:Int)):=by decide +kernel
  rw [decide_eq_true (show (k:Int)<10 by omega),decide_eq_true (show (0:Int)≤(k:Int)+1∧(k:Int)+1≤36 by omega),decide_eq_true (show (0:Int)≤(k:Int)∧(k:Int)≤(k:Int)+1 by omega),cond_true,cond_true,cond_true,cond_true,cond_true]
  exact congrArg (fun l=>some [D.str l]) (this ⟨k,h10⟩)
 ·have: ∀k:Fin 100,10≤k.1→List.take (Int.toNat ((k.1:Int)*2+2) - Int.toNat ((k.1:Int)*2)) (List.drop (Int.toNat ((k.1:Int)*2)) SM)=digN (Int.toNat (k.1:Int)):=by decide +kernel
  rw [decide_eq_false (show¬(k:Int)<10 by omega),decide_eq_true (show (0:Int)≤(k:Int)*2+2∧(k:Int)*2+2≤200 by omega),decide_eq_true (show (0:Int)≤(k:Int)*2∧(k:Int)*2≤(k:Int)*2+2 by omega),cond_true,cond_true,cond_false,cond_true,cond_true]
  exact congrArg (fun l=>some [D.str l]) (this ⟨k,hk⟩ (by simpa using h10))
theorem up{k n:Nat}(h:10≤n):digF (k+1) n=digF k (n / 10)++[UInt8.ofNat (48+n % 10)]:=by
 simp only [digF]
 rw [if_neg (by omega)]
theorem dn{k n:Nat}(h:n<10):digF (k+1) n=[UInt8.ofNat (48+n)]:=by
 simp only [digF]
 rw [if_pos h]
theorem big_u{u:Int}(h0:100≤u)(h1:u≤999999)(m n:Nat):(enterM I3 (callN I3 (m+40)) n c175 [.d (.int .i64 u),.d (.int .i64 10)] []).out=some [.str (digN u.toNat)]:=by
 rw [i175,decide_eq_true (show (0:Int)≤u by omega),decide_eq_false (show¬u<100 by omega),decide_eq_false (show¬u<0 by omega),wrap_u64 (n:=u) (by omega) (by omega),decide_eq_true (show (100:Int)≤u by omega),decide_eq_true h1]
 rw [cond_true,cond_false,cond_false,Bool.and_self,cond_true]
 unfold digN
 by_cases k3:u<1000
 ·rw [decide_eq_true k3,decide_eq_true (show u≤999 by omega)]
  rw [up (show 10≤u.toNat by omega),up (show 10≤u.toNat / 10 by omega),dn (show u.toNat / 10 / 10<10 by omega)]
  rw [show (48+u / 100 % 10).toNat=48+u.toNat / 10 / 10 by omega,show (48+u / 10 % 10).toNat=48+u.toNat / 10 % 10 by omega,show (48+u / 1 % 10).toNat=48+u.toNat % 10 by omega]
  rfl
 rw [decide_eq_false k3]
 by_cases k4:u<10000
 ·rw [decide_eq_true k4,decide_eq_true (show (1000:Int)≤u by omega),decide_eq_true (show u≤9999 by omega)]
  rw [up (show 10≤u.toNat by omega),up (show 10≤u.toNat / 10 by omega),up (show 10≤u.toNat / 10 / 10 by omega),dn (show u.toNat / 10 / 10 / 10<10 by omega)]
  rw [show (48+u / 1000 % 10).toNat=48+u.toNat / 10 / 10 / 10 by omega,show (48+u / 100 % 10).toNat=48+u.toNat / 10 / 10 % 10 by omega,show (48+u / 10 % 10).toNat=48+u.toNat / 10 % 10 by omega,show (48+u / 1 % 10).toNat=48+u.toNat % 10 by omega]
  rfl
 rw [decide_eq_false k4]
 by_cases k5:u<100000
 ·rw [decide_eq_true k5,decide_eq_true (show (10000:Int)≤u by omega),decide_eq_true (show u≤99999 by omega)]
  rw [up (show 10≤u.toNat by omega),up (show 10≤u.toNat / 10 by omega),up (show 10≤u.toNat / 10 / 10 by omega),up (show 10≤u.toNat / 10 / 10 / 10 by omega),dn (show u.toNat / 10 / 10 / 10 / 10<10 by omega)]
  rw [show (48+u / 10000 % 10).toNat=48+u.toNat / 10 / 10 / 10 / 10 by omega,show (48+u / 1000 % 10).toNat=48+u.toNat / 10 / 10 / 10 % 10 by omega,show (48+u / 100 % 10).toNat=48+u.toNat / 10 / 10 % 10 by omega,show (48+u / 10 % 10).toNat=48+u.toNat / 10 % 10 by omega,show (48+u / 1 % 10).toNat=48+u.toNat % 10 by omega]
  rfl
 rw [decide_eq_false k5]
 rw [decide_eq_true (show (100000:Int)≤u by omega)]
 rw [up (show 10≤u.toNat by omega),up (show 10≤u.toNat / 10 by omega),up (show 10≤u.toNat / 10 / 10 by omega),up (show 10≤u.toNat / 10 / 10 / 10 by omega),up (show 10≤u.toNat / 10 / 10 / 10 / 10 by omega),dn (show u.toNat / 10 / 10 / 10 / 10 / 10<10 by omega)]
 rw [show (48+u / 100000 % 10).toNat=48+u.toNat / 10 / 10 / 10 / 10 / 10 by omega,show (48+u / 10000 % 10).toNat=48+u.toNat / 10 / 10 / 10 / 10 % 10 by omega,show (48+u / 1000 % 10).toNat=48+u.toNat / 10 / 10 / 10 % 10 by omega,show (48+u / 100 % 10).toNat=48+u.toNat / 10 / 10 % 10 by omega,show (48+u / 10 % 10).toNat=48+u.toNat / 10 % 10 by omega,show (48+u / 1 % 10).toNat=48+u.toNat % 10 by omega]
 rfl
theorem run175{u:Int}(h0:0≤u)(h1:u≤999999)(m n:Nat):(enterM I3 (callN I3 (m+40)) n c175 [.d (.int .i64 u),.d (.int .i64 10)] []).out=some [.str (digN u.toNat)]:=by
 by_cases h:u<100
 ·exact small_u h0 h m n
 ·exact big_u (by omega) h1 m n
def g175:List D→Tree (List D)
 | [.int .i64 u,.int .i64 b]=> .ite (decide (0≤u)&&(decide (u≤999999)&&b==10)) (fun _=> .ret [.str (digN u.toNat)]) (fun _=> .stuck)
 | _=> .stuck
theorem pure175{P:Program}(hm:P.follows .mixedOrders=true)(h0:EnvOK P I3):PureOK P 175 g175:=PureOK.run hm h0 fun ds rs h=>by
 unfold g175 at h
 split at h
 ·obtain ⟨hg,h'⟩:=eval_guard h
  clear h
  simp only [Bool.and_eq_true,decide_eq_true_eq,beq_iff_eq] at hg
  obtain ⟨g1,g2,rfl⟩:=hg
  cases h'
  exact ⟨59+1,by rw [callN_succ (fn:=c175) rfl];exact run175 g1 g2 19 59⟩
 ·cases h
def I4:Env:=I3.pureAt 175 true g175
theorem i71(m n:Nat)(u:Int):Tree.out (enterM I4 (callN I4 (m+40)) n c71 [.d (.int .i64 u)] [])=bif decide (0≤u)&&(decide (u≤999999)&&true) then some [D.str (digN (u.toNat))] else none:=by kernel_rfl
def g71:List D→Tree (List D)
 | [.int .i64 u]=> .ite (decide (0≤u)&&decide (u≤999999)) (fun _=> .ret [.str (digN u.toNat)]) (fun _=> .stuck)
 | _=> .stuck
theorem run71{u:Int}(h0:0≤u)(h1:u≤999999)(m n:Nat):(enterM I4 (callN I4 (m+40)) n c71 [.d (.int .i64 u)] []).out=some [.str (digN u.toNat)]:=by
 rw [i71,decide_eq_true h0,decide_eq_true h1]
 rfl
theorem pure71{P:Program}(hm:P.follows .mixedOrders=true)(h0:EnvOK P I4):PureOK P 71 g71:=PureOK.run hm h0 fun ds rs h=>by
 unfold g71 at h
 split at h
 ·obtain ⟨hg,h'⟩:=eval_guard h
  clear h
  simp only [Bool.and_eq_true,decide_eq_true_eq] at hg
  cases h'
  exact ⟨59+1,by rw [callN_succ (fn:=c71) rfl];exact run71 hg.1 hg.2 19 59⟩
 ·cases h
theorem itoa{P:Program}(hm:P.follows .mixedOrders=true)(h0:EnvOK P I0):PureOK P 71 g71:=by
 have e1:EnvOK P I1:=h0.pureAt (pure226 hm h0)
 have e2:EnvOK P I2:=e1.pureAt (pure212 hm e1)
 have e3:EnvOK P I3:=e2.genAt (fn213 hm e2)
 exact pure71 hm (e3.pureAt (pure175 hm e3))
def g73(b:Int):List D→Tree (List D)
 | [.int .i64 u]=> .ite (decide (0≤u)&&decide (u<b)) (fun _=> .ret [.str (digN u.toNat)]) (fun _=> .stuck)
 | _=> .stuck
def D0(b:Int):Env:=I0.pureAt 73 true (g73 b)
theorem e73(b:Int)(m n:Nat)(u:Int):Tree.out (enterM (D0 b) (callN (D0 b) (m+40)) n c73 [.d (.int .i64 u)] [])=bif decide (u<10) then bif decide (0≤IntKind.wrap .i64 (u+1)∧IntKind.wrap .i64 (u+1)≤10) then bif decide (0≤u∧u≤IntKind.wrap .i64 (u+1)) then some [D.str (List.take (Int.toNat (IntKind.wrap .i64 (u+1)) - u.toNat) (List.drop (u.toNat) [48,49,50,51,52,53,54,55,56,57]))] else none else none else bif decide (0≤IntKind.wrap .i64 (Int.tdiv u 10))&&decide (IntKind.wrap .i64 (Int.tdiv u 10)<b) then bif decide (0≤Int.tmod u 10)&&decide (Int.tmod u 10<b) then bif decide (List.length (digN (Int.toNat (IntKind.wrap .i64 (Int.tdiv u 10))))+List.length (digN (Int.toNat (Int.tmod u 10)))≤4611686018427387904) then some [D.str (List.append (digN (Int.toNat (IntKind.wrap .i64 (Int.tdiv u 10)))) (digN (Int.toNat (Int.tmod u 10))))] else none else none else none:=by kernel_rfl
theorem digF_fuel: ∀(k n:Nat),n<10 ^ (k+1)→digF k n=digF (k+1) n
 | 0,n,h=>by
  have h:n<10:=by simpa using h
  rw [dn h]
  simp only [digF]
  rw [Nat.mod_eq_of_lt h]
 | k+1,n,h=>by
  by_cases h10:n<10
  ·rw [dn h10,dn h10]
  ·rw [up (k:=k) (by omega),up (k:=k+1) (by omega),digF_fuel k (n / 10) (by rw [Nat.pow_succ] at h;omega)]
theorem digN_up{n:Nat}(h:10≤n)(h1:n<1000000):digN n=digN (n / 10)++digN (n % 10):=by
 unfold digN
 rw [up (k:=5) h,digF_fuel 5 (n / 10) (by omega),dn (show n % 10<10 by omega)]
theorem run73(b:Int)(m n:Nat){u:Int}(h0:0≤u)(h1:u<1000000)(hb:u<10∨10≤b∧u<10*b):(enterM (D0 b) (callN (D0 b) (m+40)) n c73 [.d (.int .i64 u)] []).out=some [.str (digN u.toNat)]:=by
 rw [e73]
 by_cases h10:u<10
 ·obtain ⟨k,rfl⟩:=Int.eq_ofNat_of_zero_le h0
  have hk:k<10:=by omega
  have: ∀k:Fin 10,List.take (Int.toNat ((k.1:Int)+1) - Int.toNat (k.1:Int)) (List.drop (Int.toNat (k.1:Int)) [(48:UInt8),49,50,51,52,53,54,55,56,57])=digN (Int.toNat (k.1:Int)):=by decide +kernel
  rw [wrap_i64 (n:=(k:Int)+1) (by omega) (by omega),decide_eq_true h10,decide_eq_true (show (0:Int)≤(k:Int)+1∧(k:Int)+1≤10 by omega),decide_eq_true (show (0:Int)≤(k:Int)∧(k:Int)≤(k:Int)+1 by omega),cond_true,cond_true,cond_true]
  exact congrArg (fun l=>some [D.str l]) (this ⟨k,hk⟩)
 ·have hb:10≤b∧u<10*b:=by omega
  have t1:Int.tdiv u 10=u / 10:=Int.tdiv_eq_ediv_of_nonneg (by omega)
  have t2:Int.tmod u 10=u % 10:=Int.tmod_eq_emod_of_nonneg (by omega)
  have len: ∀k n,(digF k n).length≤k+1:=by
   intro k
   induction k with
   | zero=>intro n;simp [digF]
   | succ k ih=>
    intro n
    simp only [digF]
    split
    ·simp
    ·rw [List.length_append];have:=ih (n / 10);simp;omega
  have l1:=len 6 (u / 10).toNat
  have l2:=len 6 (u % 10).toNat
  rw [t1,t2,wrap_i64 (n:=u / 10) (by omega) (by omega),decide_eq_false h10,decide_eq_true (show (0:Int)≤u / 10 by omega),decide_eq_true (show u / 10<b by omega),decide_eq_true (show (0:Int)≤u % 10 by omega),decide_eq_true (show u % 10<b by omega),
   decide_eq_true (show (digN (u / 10).toNat).length+(digN (u % 10).toNat).length≤4611686018427387904 by unfold digN;omega),cond_false,Bool.and_self,cond_true,cond_true,cond_true]
  rw [show (u / 10).toNat=u.toNat / 10 by omega,show (u % 10).toNat=u.toNat % 10 by omega,digN_up (n:=u.toNat) (by omega) (by omega)]
  rfl
theorem step73{P:Program}(hm:P.follows .mixedOrders=true)(h0:EnvOK P I0)(b c:Int)(h:PureOK P 73 (g73 b))(hc: ∀u:Int,u<c→u<1000000∧(u<10∨10≤b∧u<10*b)):PureOK P 73 (g73 c):=PureOK.run hm (h0.pureAt h) fun ds rs hr=>by
 unfold g73 at hr
 split at hr
 ·obtain ⟨hg,h'⟩:=eval_guard hr
  clear hr
  simp only [Bool.and_eq_true,decide_eq_true_eq] at hg
  cases h'
  obtain ⟨q1,q2⟩:=hc _ hg.2
  exact ⟨59+1,by rw [callN_succ (fn:=c73) rfl];exact run73 b 19 59 hg.1 q1 q2⟩
 ·cases hr
theorem none73{P:Program}:PureOK P 73 (g73 0):=fun _ ds rs hr=>by
 unfold g73 at hr
 split at hr
 ·obtain ⟨hg,_⟩:=eval_guard hr
  simp only [Bool.and_eq_true,decide_eq_true_eq] at hg
  omega
 ·cases hr
theorem pure73{P:Program}(hm:P.follows .mixedOrders=true)(h0:EnvOK P I0):PureOK P 73 (g73 1000000):=
 step73 hm h0 100000 _ (step73 hm h0 10000 _ (step73 hm h0 1000 _ (step73 hm h0 100 _ (step73 hm h0 10 _ (step73 hm h0 0 10 none73 fun u h=>⟨by omega,.inl h⟩) fun u h=>⟨by omega,.inr ⟨by omega,by omega⟩⟩) fun u h=>⟨by omega,.inr ⟨by omega,by omega⟩⟩) fun u h=>⟨by omega,.inr ⟨by omega,by omega⟩⟩) fun u h=>⟨by omega,.inr ⟨by omega,by omega⟩⟩) fun u h=>⟨by omega,.inr ⟨by omega,by omega⟩⟩
def K0:Env:=(F5.pureAt 71 true g71).pureAt 73 true (g73 1000000)
def hopTxt(h:D):List UInt8:=[47]++digN (fi 0 h).toNat++[64]++digN (fi 1 h).toNat
def showN(r q:Int)(es:List D):List UInt8:=digN r.toNat++[46]++digN q.toNat++es.flatMap hopTxt
theorem e70(m n:Nat)(r q:Int)(nil:Bool)(es:List D):Tree.out (enterM K0 (callN K0 (m+40)) n c70 [.d (.agg [.int .i64 r,.int .i64 q,.sl hopSh nil es])] [])=bif (bif idOk r q es then (0:Int) else (30:Int)) != 0 then some [D.str [],D.int .i64 (bif idOk r q es then (0:Int) else (30:Int))] else bif decide (0≤r)&&decide (r≤999999) then bif decide (List.length (digN (r.toNat))+1≤4611686018427387904) then bif decide (0≤q)&&decide (q≤999999) then bif decide (List.length (List.append (digN (r.toNat)) [46])+List.length (digN (q.toNat))≤4611686018427387904) then Tree.out (resume K0 (callN K0 (m+40)) n n 0 c70 { fr:=frame 41 [(5,V.d (D.str (List.append (List.append (digN (r.toNat)) [46]) (digN (q.toNat))))),(22,V.d (D.sl hopSh nil es)),(23,V.d (D.int .i64 (es.length:Int))),(24,V.d (D.int .i64 0))],ob:=[(128,Obj.box [V.d (D.int .i64 r),V.d (D.int .i64 q),V.d (D.sl hopSh nil es)])] }) else none else none else none else none:=by kernel_rfl
def s70(r q:Int)(nil:Bool)(es:List D)(s:List UInt8)(i:Int):St:= { fr:=frame 41 [(5,V.d (D.str s)),(22,V.d (D.sl hopSh nil es)),(23,V.d (D.int .i64 (↑(List.length es):Int))),(24,V.d (D.int .i64 i))],ob:=[(128,Obj.box [V.d (D.int .i64 r),V.d (D.int .i64 q),V.d (D.sl hopSh nil es)])] }
theorem l70(m n j:Nat)(r q:Int)(nil:Bool)(es:List D)(s:List UInt8)(i:Int):Tree.out (resume K0 (callN K0 (m+40)) n (j+1) 0 c70 (s70 r q nil es s i))=bif decide (i<(es.length:Int)) then bif decide (0≤i∧i<(es.length:Int)) then bif decide (0≤fi 0 (es.getD i.toNat .nilp))&&decide (fi 0 (es.getD i.toNat .nilp)≤999999) then bif decide (1+List.length (digN (Int.toNat (fi 0 (es.getD i.toNat .nilp))))≤4611686018427387904) then bif decide (List.length (digN (Int.toNat (fi 0 (es.getD i.toNat .nilp))))+1+1≤4611686018427387904) then bif decide (0≤fi 1 (es.getD i.toNat .nilp))&&decide (fi 1 (es.getD i.toNat .nilp)≤999999) then bif decide (List.length (List.append (digN (Int.toNat (fi 0 (es.getD i.toNat .nilp)))) [64])+1+List.length (digN (Int.toNat (fi 1 (es.getD i.toNat .nilp))))≤4611686018427387904) then bif decide (s.length+(List.length (List.append (List.append (digN (Int.toNat (fi 0 (es.getD i.toNat .nilp)))) [64]) (digN (Int.toNat (fi 1 (es.getD i.toNat .nilp)))))+1)≤4611686018427387904) then Tree.out (resume K0 (callN K0 (m+40)) n j 0 c70 (s70 r q nil es (List.append s (47 :: List.append (List.append (digN (Int.toNat (fi 0 (es.getD i.toNat .nilp)))) [64]) (digN (Int.toNat (fi 1 (es.getD i.toNat .nilp)))))) (IntKind.wrap .i64 (i+1)))) else none else none else none else none else none else none else none else some [D.str s,D.int .i64 0]:=by kernel_rfl
theorem e72(m n:Nat)(r q:Int)(nil:Bool)(es:List D):Tree.out (enterM K0 (callN K0 (m+40)) n c72 [.d (.agg [.int .i64 r,.int .i64 q,.sl hopSh nil es])] [])=bif (bif idOk r q es then (0:Int) else (30:Int)) != 0 then some [D.str [],D.int .i64 30] else bif decide (0≤r)&&decide (r<1000000) then bif decide (List.length (digN (r.toNat))+1≤4611686018427387904) then bif decide (0≤q)&&decide (q<1000000) then bif decide (List.length (List.append (digN (r.toNat)) [46])+List.length (digN (q.toNat))≤4611686018427387904) then Tree.out (resume K0 (callN K0 (m+40)) n n 0 c72 { fr:=frame 44 [(1,V.ptr 128 0),(4,V.d (D.str (List.append (List.append (digN (r.toNat)) [46]) (digN (q.toNat))))),(5,V.d (D.int .i64 0))],ob:=[(128,Obj.box [V.d (D.int .i64 r),V.d (D.int .i64 q),V.d (D.sl hopSh nil es)])] }) else none else none else none else none:=by kernel_rfl
def s72(r q:Int)(nil:Bool)(es:List D)(s:List UInt8)(i:Int):St:= { fr:=frame 44 [(1,V.ptr 128 0),(4,V.d (D.str s)),(5,V.d (D.int .i64 i))],ob:=[(128,Obj.box [V.d (D.int .i64 r),V.d (D.int .i64 q),V.d (D.sl hopSh nil es)])] }
theorem l72(m n j:Nat)(r q:Int)(nil:Bool)(es:List D)(s:List UInt8)(i:Int):Tree.out (resume K0 (callN K0 (m+40)) n (j+1) 0 c72 (s72 r q nil es s i))=bif decide (i<(es.length:Int)) then bif decide (s.length+1≤4611686018427387904) then bif decide (0≤i∧i<(es.length:Int)) then bif decide (0≤fi 0 (es.getD i.toNat .nilp))&&decide (fi 0 (es.getD i.toNat .nilp)<1000000) then bif decide (List.length (List.append s [47])+List.length (digN (Int.toNat (fi 0 (es.getD i.toNat .nilp))))≤4611686018427387904) then bif decide (List.length (List.append (List.append s [47]) (digN (Int.toNat (fi 0 (es.getD i.toNat .nilp)))))+1≤4611686018427387904) then bif decide (0≤i∧i<(es.length:Int)) then bif decide (0≤fi 1 (es.getD i.toNat .nilp))&&decide (fi 1 (es.getD i.toNat .nilp)<1000000) then bif decide (List.length (List.append (List.append (List.append s [47]) (digN (Int.toNat (fi 0 (es.getD i.toNat .nilp))))) [64])+List.length (digN (Int.toNat (fi 1 (es.getD i.toNat .nilp))))≤4611686018427387904) then Tree.out (resume K0 (callN K0 (m+40)) n j 0 c72 (s72 r q nil es (List.append (List.append (List.append (List.append s [47]) (digN (Int.toNat (fi 0 (es.getD i.toNat .nilp))))) [64]) (digN (Int.toNat (fi 1 (es.getD i.toNat .nilp))))) (IntKind.wrap .i64 (i+1)))) else none else none else none else none else none else none else none else none else some [D.str s,D.int .i64 0]:=by kernel_rfl
theorem e87g(m n:Nat)(rt nn st wy:Int)(n1 n2 n3 fc:Bool)(hops steps parts:List D)(nm:List UInt8):Tree.out (enterM F3 (callN F3 (m+40)) n c87 [.d (sagaD rt nn st wy n1 n2 n3 fc hops steps parts nm)] [])=bif st==1 then Tree.out (resume F3 (callN F3 (m+40)) n n 0 c87 { fr:=frame 56 [(1,V.ptr 128 0),(3,V.d (D.int .i64 0))],ob:=[(128,Obj.box [V.d (D.int .i64 rt),V.d (D.int .i64 nn),V.d (D.sl hopSh n1 hops),V.d (D.str nm),V.d (D.sl stepSh n2 steps),V.d (D.int .i64 st),V.d (D.int .i64 wy),V.d (D.sl hopSh n3 parts),V.d (D.bool fc)])] }) else bif st==4 then Tree.out (resume F3 (callN F3 (m+40)) n n 1 c87 { fr:=frame 56 [(1,V.ptr 128 0),(4,V.d (D.int .i64 (IntKind.wrap .i64 ((parts.length:Int) - 1))))],ob:=[(128,Obj.box [V.d (D.int .i64 rt),V.d (D.int .i64 nn),V.d (D.sl hopSh n1 hops),V.d (D.str nm),V.d (D.sl stepSh n2 steps),V.d (D.int .i64 st),V.d (D.int .i64 wy),V.d (D.sl hopSh n3 parts),V.d (D.bool fc)])] }) else bif st==5 then Tree.out (resume F3 (callN F3 (m+40)) n n 1 c87 { fr:=frame 56 [(1,V.ptr 128 0),(4,V.d (D.int .i64 (IntKind.wrap .i64 ((parts.length:Int) - 1))))],ob:=[(128,Obj.box [V.d (D.int .i64 rt),V.d (D.int .i64 nn),V.d (D.sl hopSh n1 hops),V.d (D.str nm),V.d (D.sl stepSh n2 steps),V.d (D.int .i64 st),V.d (D.int .i64 wy),V.d (D.sl hopSh n3 parts),V.d (D.bool fc)])] }) else some [D.int .i64 (-1)]:=by kernel_rfl
def s87g(rt nn st wy:Int)(n1 n2 n3 fc:Bool)(hops steps parts:List D)(nm:List UInt8)(i:Int):St:= { fr:=frame 56 [(1,V.ptr 128 0),(3,V.d (D.int .i64 i))],ob:=[(128,.box [V.d (D.int .i64 rt),V.d (D.int .i64 nn),V.d (D.sl hopSh n1 hops),V.d (D.str nm),V.d (D.sl stepSh n2 steps),V.d (D.int .i64 st),V.d (D.int .i64 wy),V.d (D.sl partSh n3 parts),V.d (D.bool fc)])] }
theorem l87g(m n j:Nat)(rt nn st wy:Int)(n1 n2 n3 fc:Bool)(hops steps parts:List D)(nm:List UInt8)(i:Int):Tree.out (resume F3 (callN F3 (m+40)) n (j+1) 0 c87 (s87g rt nn st wy n1 n2 n3 fc hops steps parts nm i))=bif decide (i<(parts.length:Int)) then bif decide (0≤i∧i<(parts.length:Int)) then bif fi 0 (parts.getD i.toNat .nilp) != 2 then some [D.int .i64 i] else Tree.out (resume F3 (callN F3 (m+40)) n j 0 c87 (s87g rt nn st wy n1 n2 n3 fc hops steps parts nm (IntKind.wrap .i64 (i+1)))) else none else bif st==4 then Tree.out (resume F3 (callN F3 (m+40)) n n 1 c87 { fr:=frame 56 [(1,V.ptr 128 0),(4,V.d (D.int .i64 (IntKind.wrap .i64 ((parts.length:Int) - 1))))],ob:=[(128,Obj.box [V.d (D.int .i64 rt),V.d (D.int .i64 nn),V.d (D.sl hopSh n1 hops),V.d (D.str nm),V.d (D.sl stepSh n2 steps),V.d (D.int .i64 st),V.d (D.int .i64 wy),V.d (D.sl hopSh n3 parts),V.d (D.bool fc)])] }) else bif st==5 then Tree.out (resume F3 (callN F3 (m+40)) n n 1 c87 { fr:=frame 56 [(1,V.ptr 128 0),(4,V.d (D.int .i64 (IntKind.wrap .i64 ((parts.length:Int) - 1))))],ob:=[(128,Obj.box [V.d (D.int .i64 rt),V.d (D.int .i64 nn),V.d (D.sl hopSh n1 hops),V.d (D.str nm),V.d (D.sl stepSh n2 steps),V.d (D.int .i64 st),V.d (D.int .i64 wy),V.d (D.sl hopSh n3 parts),V.d (D.bool fc)])] }) else some [D.int .i64 (-1)]:=by kernel_rfl
def s87h(rt nn st wy:Int)(n1 n2 n3 fc:Bool)(hops steps parts:List D)(nm:List UInt8)(i:Int):St:= { fr:=frame 56 [(1,V.ptr 128 0),(4,V.d (D.int .i64 i))],ob:=[(128,.box [V.d (D.int .i64 rt),V.d (D.int .i64 nn),V.d (D.sl hopSh n1 hops),V.d (D.str nm),V.d (D.sl stepSh n2 steps),V.d (D.int .i64 st),V.d (D.int .i64 wy),V.d (D.sl partSh n3 parts),V.d (D.bool fc)])] }
theorem l87h(m n j:Nat)(rt nn st wy:Int)(n1 n2 n3 fc:Bool)(hops steps parts:List D)(nm:List UInt8)(i:Int):Tree.out (resume F3 (callN F3 (m+40)) n (j+1) 1 c87 (s87h rt nn st wy n1 n2 n3 fc hops steps parts nm i))=bif decide (0≤i) then bif decide (0≤i∧i<(parts.length:Int)) then bif fi 0 (parts.getD i.toNat .nilp)==1 then some [D.int .i64 i] else bif decide (0≤i∧i<(parts.length:Int)) then bif fi 0 (parts.getD i.toNat .nilp)==2 then some [D.int .i64 i] else Tree.out (resume F3 (callN F3 (m+40)) n j 1 c87 (s87h rt nn st wy n1 n2 n3 fc hops steps parts nm (IntKind.wrap .i64 (i - 1)))) else none else none else some [D.int .i64 (-1)]:=by kernel_rfl
theorem ct{α:Type}{c:Bool}{a b:α}(h:c=true):cond c a b=a:=by rw [h];rfl
theorem cf{α:Type}{c:Bool}{a b:α}(h:c=false):cond c a b=b:=by rw [h];rfl
theorem digF_len: ∀k n,(digF k n).length≤k+1:=by
 intro k
 induction k with
 | zero=>intro n;simp [digF]
 | succ k ih=>
  intro n
  simp only [digF]
  split
  ·simp
  ·rw [List.length_append];have:=ih (n / 10);simp;omega
theorem digN_len(n:Nat):(digN n).length≤7:=digF_len 6 n
theorem drop_at{es:List D}{i:Nat}(h:i<es.length):es.drop i=es.getD i .nilp :: es.drop (i+1):=by
 rw [List.drop_eq_getElem_cons h,List.getD_eq_getElem?_getD,List.getElem?_eq_getElem h];rfl
theorem loop70(m n:Nat)(r q:Int)(nil:Bool)(es:List D)(h:idOk r q es=true): ∀k i j s,i+k=es.length→k<j→s.length≤1000+100*i→
  (resume K0 (callN K0 (m+40)) n j 0 c70 (s70 r q nil es s (i:Nat))).out=some [.str (s++(es.drop i).flatMap hopTxt),.int .i64 0]:=by
 obtain ⟨-,h4,-,hh,-⟩:=idOk_iff.1 h
 intro k
 induction k with
 | zero=>
  intro i j s hi hj hs
  cases j with
  | zero=>omega
  | succ j=>
   have:i=es.length:=by omega
   subst this
   rw [l70,List.drop_length,List.flatMap_nil,List.append_nil]
   exact cf (dec_end _)
 | succ k ih=>
  intro i j s hi hj hs
  cases j with
  | zero=>omega
  | succ j=>
   have hlt:i<es.length:=by omega
   have hx:=(hh i hlt).1
   have hy:=(hh i hlt).2.1
   rw [l70,drop_at hlt,List.flatMap_cons]
   simp only [Int.toNat_natCast,wrap_up hlt (show es.length≤1000000 by omega),List.append_eq]
   have d0:=digN_len (fi 0 (es.getD i .nilp)).toNat
   have d1:=digN_len (fi 1 (es.getD i .nilp)).toNat
   refine (ct (dec_lt hlt)).trans ?_
   refine (ct (dec_ix hlt)).trans ?_
   iterate 6 refine (ct (by simp only [Bool.and_eq_true,decide_eq_true_eq,List.length_append,List.length_cons,List.length_nil];omega)).trans ?_
   refine (ih (i+1) j _ (by omega) (by omega) ?_).trans ?_
   ·simp only [List.length_append,List.length_cons,List.length_nil];omega
   ·simp only [hopTxt,List.append_assoc,List.cons_append,List.nil_append]
theorem run70(m n:Nat)(r q:Int)(nil:Bool)(es:List D)(hn:18≤n):(enterM K0 (callN K0 (m+40)) n c70 [.d (.agg [.int .i64 r,.int .i64 q,.sl hopSh nil es])] []).out=some [.str (bif idOk r q es then showN r q es else []),.int .i64 (bif idOk r q es then 0 else 30)]:=by
 rw [e70]
 cases h:idOk r q es
 ·rfl
 ·obtain ⟨hq,h4,hr,hh,-⟩:=idOk_iff.1 h
  have d0:=digN_len r.toNat
  have d1:=digN_len q.toNat
  simp only [cond_true,List.append_eq]
  refine (cf rfl).trans ?_
  iterate 4 refine (ct (by simp only [Bool.and_eq_true,decide_eq_true_eq,List.length_append,List.length_cons,List.length_nil];omega)).trans ?_
  refine (loop70 m n r q nil es h es.length 0 n _ (by omega) (by omega) (by simp only [List.length_append,List.length_cons,List.length_nil];omega)).trans ?_
  simp only [showN,List.drop_zero,List.append_assoc]
theorem loop72(m n:Nat)(r q:Int)(nil:Bool)(es:List D)(h:idOk r q es=true): ∀k i j s,i+k=es.length→k<j→s.length≤1000+100*i→
  (resume K0 (callN K0 (m+40)) n j 0 c72 (s72 r q nil es s (i:Nat))).out=some [.str (s++(es.drop i).flatMap hopTxt),.int .i64 0]:=by
 obtain ⟨-,h4,-,hh,-⟩:=idOk_iff.1 h
 intro k
 induction k with
 | zero=>
  intro i j s hi hj hs
  cases j with
  | zero=>omega
  | succ j=>
   have:i=es.length:=by omega
   subst this
   rw [l72,List.drop_length,List.flatMap_nil,List.append_nil]
   exact cf (dec_end _)
 | succ k ih=>
  intro i j s hi hj hs
  cases j with
  | zero=>omega
  | succ j=>
   have hlt:i<es.length:=by omega
   have hx:=(hh i hlt).1
   have hy:=(hh i hlt).2.1
   rw [l72,drop_at hlt,List.flatMap_cons]
   simp only [Int.toNat_natCast,wrap_up hlt (show es.length≤1000000 by omega),List.append_eq]
   have d0:=digN_len (fi 0 (es.getD i .nilp)).toNat
   have d1:=digN_len (fi 1 (es.getD i .nilp)).toNat
   refine (ct (dec_lt hlt)).trans ?_
   iterate 8 refine (ct (by first | exact dec_ix hlt | (simp only [Bool.and_eq_true,decide_eq_true_eq,List.length_append,List.length_cons,List.length_nil];omega))).trans ?_
   refine (ih (i+1) j _ (by omega) (by omega) ?_).trans ?_
   ·simp only [List.length_append,List.length_cons,List.length_nil];omega
   ·simp only [hopTxt,List.append_assoc,List.cons_append,List.nil_append]
theorem run72(m n:Nat)(r q:Int)(nil:Bool)(es:List D)(hn:18≤n):(enterM K0 (callN K0 (m+40)) n c72 [.d (.agg [.int .i64 r,.int .i64 q,.sl hopSh nil es])] []).out=some [.str (bif idOk r q es then showN r q es else []),.int .i64 (bif idOk r q es then 0 else 30)]:=by
 rw [e72]
 cases h:idOk r q es
 ·rfl
 ·obtain ⟨hq,h4,hr,hh,-⟩:=idOk_iff.1 h
  have d0:=digN_len r.toNat
  have d1:=digN_len q.toNat
  simp only [cond_true,List.append_eq]
  refine (cf rfl).trans ?_
  iterate 4 refine (ct (by simp only [Bool.and_eq_true,decide_eq_true_eq,List.length_append,List.length_cons,List.length_nil];omega)).trans ?_
  refine (loop72 m n r q nil es h es.length 0 n _ (by omega) (by omega) (by simp only [List.length_append,List.length_cons,List.length_nil];omega)).trans ?_
  simp only [showN,List.drop_zero,List.append_assoc]
theorem run87g(m n:Nat)(rt nn st wy:Int)(n1 n2 n3 fc:Bool)(hops steps parts:List D)(nm:List UInt8)(hl:parts.length≤1000000)(hn:parts.length<n):
  (enterM F3 (callN F3 (m+40)) n c87 [.d (sagaD rt nn st wy n1 n2 n3 fc hops steps parts nm)] []).out=some [.int .i64 (cur st parts)]:=by
 have H: ∀st,(resume F3 (callN F3 (m+40)) n n 1 c87 (s87h rt nn st wy n1 n2 n3 fc hops steps parts nm ((parts.length:Int) - 1))).out=some [.int .i64 (lastFrom (fun i=>isOpen (parts.getD i .nilp)) parts.length)]:=by
  intro st
  refine down_loop (fun j i=>(resume F3 (callN F3 (m+40)) n j 1 c87 (s87h rt nn st wy n1 n2 n3 fc hops steps parts nm i)).out) parts.length (fun i=>isOpen (parts.getD i .nilp)) (fun i=>[.int .i64 i]) [.int .i64 (-1)]
   (fun j i hi=> ?_) (fun j=> ?_) (fun i=>[.int .i64 i]) (fun _=>rfl) rfl parts.length n (by omega) (by omega)
  ·have h0:decide ((0:Int)≤(i:Int))=true:=by simp
   rw [l87h]
   simp only [Int.toNat_natCast,wrap_down (show i≤1000000 by omega),h0,dec_ix hi,cond_true,isOpen]
   generalize (fi 0 _==1)=a0
   generalize (fi 0 _==2)=a1
   cases a0 <;> cases a1 <;> rfl
  ·have h0:decide ((0:Int)≤ -1)=false:=by decide
   rw [l87h]
   simp only [h0,cond_false]
 rw [e87g,wrap_down hl]
 by_cases h1:st=1
 ·subst h1
  refine (ct rfl).trans ?_
  have:=scan_loop (fun j i=>(resume F3 (callN F3 (m+40)) n j 0 c87 (s87g rt nn 1 wy n1 n2 n3 fc hops steps parts nm (i:Nat))).out) parts.length (fun i=>notDone (parts.getD i .nilp)) (fun i=>[.int .i64 (i:Nat)]) [.int .i64 (-1)]
   (fun j i hi=> ?_) (fun j=> ?_) parts.length 0 n (by omega) (by omega)
  ·refine this.trans ?_
   rw [scan_map (fun b:Int=>[D.int .i64 b]),scan_idx0 notDone .nilp parts]
   rfl
  ·rw [l87g]
   simp only [Int.toNat_natCast,wrap_up hi hl,dec_lt hi,dec_ix hi,cond_true,notDone]
   all_goals rfl
  ·rw [l87g]
   refine (cf (dec_end _)).trans ?_
   rfl
 ·refine (cf (beqF h1)).trans ?_
  by_cases h4:st=4
  ·subst h4
   exact (ct rfl).trans (H 4)
  ·refine (cf (beqF h4)).trans ?_
   by_cases h5:st=5
   ·subst h5
    exact (ct rfl).trans (H 5)
   ·refine (cf (beqF h5)).trans ?_
    unfold cur
    rw [beqF h1,beqF h4,beqF h5]
    rfl
def g70:List D→Tree (List D)
 | [.agg [.int .i64 r,.int .i64 q,.sl e0 _nil es]]=>match Sh.beq e0 hopSh with
  | true=> .ret [.str (bif idOk r q es then showN r q es else []),.int .i64 (bif idOk r q es then 0 else 30)]
  | false=> .stuck
 | _=> .stuck
theorem pure70{P:Program}(hm:P.follows .mixedOrders=true)(h0:EnvOK P K0):PureOK P 70 g70:=PureOK.run hm h0 fun ds rs h=>by
 unfold g70 at h
 split at h
 ·rename_i r q e0 nil es
  split at h
  ·rename_i hb
   have hb0:=hb
   have hb0:=Sh.beq_eq hb0
   subst hb0
   cases h
   exact ⟨59+1,by rw [callN_succ (fn:=c70) rfl];exact run70 19 59 r q nil es (by omega)⟩
  ·cases h
 ·cases h
def g72:List D→Tree (List D)
 | [.agg [.int .i64 r,.int .i64 q,.sl e0 _nil es]]=>match Sh.beq e0 hopSh with
  | true=> .ret [.str (bif idOk r q es then showN r q es else []),.int .i64 (bif idOk r q es then 0 else 30)]
  | false=> .stuck
 | _=> .stuck
theorem pure72{P:Program}(hm:P.follows .mixedOrders=true)(h0:EnvOK P K0):PureOK P 72 g72:=PureOK.run hm h0 fun ds rs h=>by
 unfold g72 at h
 split at h
 ·rename_i r q e0 nil es
  split at h
  ·rename_i hb
   have hb0:=hb
   have hb0:=Sh.beq_eq hb0
   subst hb0
   cases h
   exact ⟨59+1,by rw [callN_succ (fn:=c72) rfl];exact run72 19 59 r q nil es (by omega)⟩
  ·cases h
 ·cases h
def g87b:List D→Tree (List D)
 | [.agg [.int .i64 _rt,.int .i64 _nn,.sl e0h _n1 _hops,.str _nm,.sl e0s _n2 _steps,.int .i64 st,.int .i64 _wy,.sl e0p _n3 parts,.bool _fc]]=>match Sh.beq e0h hopSh&&Sh.beq e0s stepSh&&Sh.beq e0p partSh with
  | true=> .ite (decide (parts.length≤1000000)) (fun _=> .ret [.int .i64 (cur st parts)]) (fun _=> .stuck)
  | false=> .stuck
 | _=> .stuck
theorem pure87b{P:Program}(hm:P.follows .mixedOrders=true)(h0:EnvOK P F3):PureOK P 87 g87b:=PureOK.run hm h0 fun ds rs h=>by
 unfold g87b at h
 split at h
 ·rename_i rt nn e0h n1 hops nm e0s n2 steps st wy e0p n3 parts fc
  split at h
  ·rename_i hb
   simp only [Bool.and_eq_true] at hb
   obtain ⟨⟨hb0,hb1⟩,hb2⟩:=hb
   have hb0:=Sh.beq_eq hb0
   have hb1:=Sh.beq_eq hb1
   have hb2:=Sh.beq_eq hb2
   subst hb0 hb1 hb2
   obtain ⟨hg,h'⟩:=eval_guard h
   clear h
   simp only [decide_eq_true_eq] at hg
   cases h'
   exact ⟨(parts.length+40)+1,by rw [callN_succ (fn:=c87) rfl];exact run87g parts.length (parts.length+40) rt nn st wy n1 n2 n3 fc hops steps parts nm hg (by omega)⟩
  ·cases h
 ·cases h
def K1:Env:=((K0.pureAt 87 true g87b).pureAt 70 true g70).pureAt 72 true g72
theorem okK0{P:Program}(hm:P.follows .mixedOrders=true)(h0:EnvOK P E19)(hI:EnvOK P I0):EnvOK P K0:=((okF5 hm h0).pureAt (itoa hm hI)).pureAt (pure73 hm hI)
theorem okF3{P:Program}(hm:P.follows .mixedOrders=true)(h0:EnvOK P E19):EnvOK P F3:=
 have f1:EnvOK P F1:=h0.pureAt (pure117 hm h0)
 have f2:EnvOK P F2:=f1.pureAt (pure179 hm f1)
 (f2.pureAt (pure136 hm f2)).pureAt (pure89 hm h0)
theorem okK1{P:Program}(hm:P.follows .mixedOrders=true)(h0:EnvOK P E19)(hI:EnvOK P I0):EnvOK P K1:=
 (((okK0 hm h0 hI).pureAt (pure87b hm (okF3 hm h0))).pureAt (pure70 hm (okK0 hm h0 hI))).pureAt (pure72 hm (okK0 hm h0 hI))
theorem e33(m n:Nat)(r q k:Int)(nil:Bool)(es:List D):Tree.out (enterM K1 (callN K1 (m+40)) n c33 [.d (.agg [.int .i64 r,.int .i64 q,.sl hopSh nil es]),.d (.int .i64 k)] [])=bif (bif idOk r q es then (0:Int) else (30:Int)) != 0 then some [D.str [],D.int .i64 30] else bif decide (k<0) then some [D.str [],D.int .i64 30] else bif decide (8≤k) then some [D.str [],D.int .i64 30] else bif decide (List.length (bif idOk r q es then showN r q es else [])+1≤4611686018427387904) then bif decide (0≤k)&&decide (k≤999999) then bif decide (List.length (List.append (bif idOk r q es then showN r q es else []) [35])+List.length (digN (k.toNat))≤4611686018427387904) then some [D.str (List.append (List.append (bif idOk r q es then showN r q es else []) [35]) (digN (k.toNat))),D.int .i64 0] else none else none else none:=by kernel_rfl
theorem e34(m n:Nat)(r q k:Int)(nil:Bool)(es:List D):Tree.out (enterM K1 (callN K1 (m+40)) n c34 [.d (.agg [.int .i64 r,.int .i64 q,.sl hopSh nil es]),.d (.int .i64 k)] [])=bif (bif idOk r q es then (0:Int) else (30:Int)) != 0 then some [D.str [],D.int .i64 30] else bif decide (k<0) then some [D.str [],D.int .i64 30] else bif decide (7<k) then some [D.str [],D.int .i64 30] else bif decide (List.length (bif idOk r q es then showN r q es else [])+1≤4611686018427387904) then bif decide (0≤k)&&decide (k<1000000) then bif decide (List.length (List.append (bif idOk r q es then showN r q es else []) [35])+List.length (digN (k.toNat))≤4611686018427387904) then some [D.str (List.append (List.append (bif idOk r q es then showN r q es else []) [35]) (digN (k.toNat))),D.int .i64 0] else none else none else none:=by kernel_rfl
theorem e38(m n:Nat)(rt nn st wy:Int)(n1 n2 n3 fc:Bool)(hops steps parts:List D)(nm:List UInt8):Tree.out (enterM K1 (callN K1 (m+40)) n c38 [.d (sagaD rt nn st wy n1 n2 n3 fc hops steps parts nm)] [])=bif (bif mayOk rt nn st wy fc hops steps parts nm then (0:Int) else (230:Int)) != 0 then some [D.int .i64 (-1)] else bif decide (parts.length≤1000000) then some [D.int .i64 (cur st parts)] else none:=by kernel_rfl
def keyN(r q:Int)(es:List D)(k:Int):List UInt8:=showN r q es++([35]++digN k.toNat)
def keyOk(r q:Int)(es:List D)(k:Int):Bool:=idOk r q es&&(decide (0≤k)&&decide (k<8))
theorem flat_len{f:D→List UInt8}{b:Nat}(h: ∀x,(f x).length≤b): ∀es:List D,(es.flatMap f).length≤b*es.length
 | []=>by simp
 | x :: es=>by
  have h1:=h x
  have h2:=flat_len h es
  rw [List.flatMap_cons,List.length_append,List.length_cons,Nat.mul_succ]
  omega
theorem showN_len{r q:Int}{es:List D}(h:idOk r q es=true):(showN r q es).length≤100:=by
 obtain ⟨-,h4,-,-,-⟩:=idOk_iff.1 h
 have d0:=digN_len r.toNat
 have d1:=digN_len q.toNat
 have:=flat_len (f:=hopTxt) (b:=16) (fun x=>by
  have d0:=digN_len (fi 0 x).toNat
  have d1:=digN_len (fi 1 x).toNat
  simp only [hopTxt,List.length_append,List.length_cons,List.length_nil];omega) es
 simp only [showN,List.length_append,List.length_cons,List.length_nil]
 omega
theorem run33(m n:Nat)(r q k:Int)(nil:Bool)(es:List D):(enterM K1 (callN K1 (m+40)) n c33 [.d (.agg [.int .i64 r,.int .i64 q,.sl hopSh nil es]),.d (.int .i64 k)] []).out=some [.str (bif keyOk r q es k then keyN r q es k else []),.int .i64 (bif keyOk r q es k then 0 else 30)]:=by
 rw [e33]
 unfold keyOk
 cases h:idOk r q es
 ·rfl
 ·refine (cf rfl).trans ?_
  by_cases h0:k<0
  ·refine (ct (decide_eq_true h0)).trans ?_
   rw [decide_eq_false (show¬0≤k by omega)];rfl
  ·refine (cf (decide_eq_false h0)).trans ?_
   by_cases h8:8≤k
   ·refine (ct (decide_eq_true h8)).trans ?_
    rw [decide_eq_false (show¬k<8 by omega),Bool.and_false,Bool.and_false];rfl
   ·refine (cf (decide_eq_false h8)).trans ?_
    have:=showN_len h
    have:=digN_len k.toNat
    simp only [cond_true,List.append_eq]
    iterate 3 refine (ct (by simp only [Bool.and_eq_true,decide_eq_true_eq,List.length_append,List.length_cons,List.length_nil];omega)).trans ?_
    rw [decide_eq_true (show 0≤k by omega),decide_eq_true (show k<8 by omega)]
    simp only [Bool.and_self,cond_true,keyN,List.append_assoc]
theorem run34(m n:Nat)(r q k:Int)(nil:Bool)(es:List D):(enterM K1 (callN K1 (m+40)) n c34 [.d (.agg [.int .i64 r,.int .i64 q,.sl hopSh nil es]),.d (.int .i64 k)] []).out=some [.str (bif keyOk r q es k then keyN r q es k else []),.int .i64 (bif keyOk r q es k then 0 else 30)]:=by
 rw [e34]
 unfold keyOk
 cases h:idOk r q es
 ·rfl
 ·refine (cf rfl).trans ?_
  by_cases h0:k<0
  ·refine (ct (decide_eq_true h0)).trans ?_
   rw [decide_eq_false (show¬0≤k by omega)];rfl
  ·refine (cf (decide_eq_false h0)).trans ?_
   by_cases h8:7<k
   ·refine (ct (decide_eq_true h8)).trans ?_
    rw [decide_eq_false (show¬k<8 by omega),Bool.and_false,Bool.and_false];rfl
   ·refine (cf (decide_eq_false h8)).trans ?_
    have:=showN_len h
    have:=digN_len k.toNat
    simp only [cond_true,List.append_eq]
    iterate 3 refine (ct (by simp only [Bool.and_eq_true,decide_eq_true_eq,List.length_append,List.length_cons,List.length_nil];omega)).trans ?_
    rw [decide_eq_true (show 0≤k by omega),decide_eq_true (show k<8 by omega)]
    simp only [Bool.and_self,cond_true,keyN,List.append_assoc]
theorem mayOk_parts{rt nn st wy:Int}{fc:Bool}{hops steps parts:List D}{nm:List UInt8}(h:mayOk rt nn st wy fc hops steps parts nm=true):parts.length≤8∧parts.length≤steps.length:=by
 by_cases h7:st=7
 ·subst h7
  unfold mayOk at h
  have:((7:Int)==7)=true:=rfl
  rw [this] at h
  cases h1:idOk rt nn hops
  ·simp [h1] at h
  ·cases hd:decide (0<(steps.length:Int)+(parts.length:Int))
   ·have:=of_decide_eq_false hd
    omega
   ·rw [h1,hd] at h
    cases hn:(nm==[]) <;> rw [hn] at h <;> cases h
 ·have:=mayOk_len h h7
  omega
theorem run38(m n:Nat)(rt nn st wy:Int)(n1 n2 n3 fc:Bool)(hops steps parts:List D)(nm:List UInt8):(enterM K1 (callN K1 (m+40)) n c38 [.d (sagaD rt nn st wy n1 n2 n3 fc hops steps parts nm)] []).out=some [.int .i64 (curR rt nn st wy fc hops steps parts nm)]:=by
 rw [e38]
 unfold curR
 cases h:mayOk rt nn st wy fc hops steps parts nm
 ·rfl
 ·have:=mayOk_parts h
  refine (cf rfl).trans ?_
  exact ct (decide_eq_true (by omega))
def g33:List D→Tree (List D)
 | [.agg [.int .i64 r,.int .i64 q,.sl e0 _nil es],.int .i64 k]=>match Sh.beq e0 hopSh with
  | true=> .ret [.str (bif keyOk r q es k then keyN r q es k else []),.int .i64 (bif keyOk r q es k then 0 else 30)]
  | false=> .stuck
 | _=> .stuck
theorem pure33{P:Program}(hm:P.follows .mixedOrders=true)(h0:EnvOK P K1):PureOK P 33 g33:=PureOK.run hm h0 fun ds rs h=>by
 unfold g33 at h
 split at h
 ·rename_i r q e0 nil es k
  split at h
  ·rename_i hb
   have hb0:=hb
   have hb0:=Sh.beq_eq hb0
   subst hb0
   cases h
   exact ⟨59+1,by rw [callN_succ (fn:=c33) rfl];exact run33 19 59 r q k nil es⟩
  ·cases h
 ·cases h
def g34:List D→Tree (List D)
 | [.agg [.int .i64 r,.int .i64 q,.sl e0 _nil es],.int .i64 k]=>match Sh.beq e0 hopSh with
  | true=> .ret [.str (bif keyOk r q es k then keyN r q es k else []),.int .i64 (bif keyOk r q es k then 0 else 30)]
  | false=> .stuck
 | _=> .stuck
theorem pure34{P:Program}(hm:P.follows .mixedOrders=true)(h0:EnvOK P K1):PureOK P 34 g34:=PureOK.run hm h0 fun ds rs h=>by
 unfold g34 at h
 split at h
 ·rename_i r q e0 nil es k
  split at h
  ·rename_i hb
   have hb0:=hb
   have hb0:=Sh.beq_eq hb0
   subst hb0
   cases h
   exact ⟨59+1,by rw [callN_succ (fn:=c34) rfl];exact run34 19 59 r q k nil es⟩
  ·cases h
 ·cases h
def g38:List D→Tree (List D)
 | [.agg [.int .i64 rt,.int .i64 nn,.sl e0h _n1 hops,.str nm,.sl e0s _n2 steps,.int .i64 st,.int .i64 wy,.sl e0p _n3 parts,.bool fc]]=>match Sh.beq e0h hopSh&&Sh.beq e0s stepSh&&Sh.beq e0p partSh with
  | true=> .ret [.int .i64 (curR rt nn st wy fc hops steps parts nm)]
  | false=> .stuck
 | _=> .stuck
theorem pure38{P:Program}(hm:P.follows .mixedOrders=true)(h0:EnvOK P K1):PureOK P 38 g38:=PureOK.run hm h0 fun ds rs h=>by
 unfold g38 at h
 split at h
 ·rename_i rt nn e0h n1 hops nm e0s n2 steps st wy e0p n3 parts fc
  split at h
  ·rename_i hb
   simp only [Bool.and_eq_true] at hb
   obtain ⟨⟨hb0,hb1⟩,hb2⟩:=hb
   have hb0:=Sh.beq_eq hb0
   have hb1:=Sh.beq_eq hb1
   have hb2:=Sh.beq_eq hb2
   subst hb0 hb1 hb2
   cases h
   exact ⟨59+1,by rw [callN_succ (fn:=c38) rfl];exact run38 19 59 rt nn st wy n1 n2 n3 fc hops steps parts nm⟩
  ·cases h
 ·cases h
def K2:Env:=((K1.pureAt 33 true g33).pureAt 34 true g34).pureAt 38 true g38
theorem okK2{P:Program}(hm:P.follows .mixedOrders=true)(h:EnvOK P K1):EnvOK P K2:=((h.pureAt (pure33 hm h)).pureAt (pure34 hm h)).pureAt (pure38 hm h)
theorem okI0:EnvOK Tryz.prog I0:=okE0
theorem okZK1:EnvOK Tryz.prog K1:=okK1 mixed okE19 okI0
theorem okZK2:EnvOK Tryz.prog K2:=okK2 mixed okZK1
theorem m157(m n:Nat)(k am:Int)(ac:List UInt8):Tree.out (enterM K2 (callN K2 (m+40)) n c157 [.d (.agg [.int .i64 k,.str ac,.int .i64 am])] [])=bif decide (k<1) then some [D.int .i64 60] else bif decide (4<k) then some [D.int .i64 60] else bif !name ac then some [D.int .i64 60] else bif decide (am<1) then some [D.int .i64 60] else bif decide (0≤am) then bif !decide (am≤1000000000000000) then some [D.int .i64 60] else some [D.int .i64 0] else some [D.int .i64 60]:=by kernel_rfl
theorem m164(m n:Nat)(k am:Int)(ac:List UInt8):Tree.out (enterM K2 (callN K2 (m+40)) n c164 [.d (.agg [.int .i64 k,.str ac,.int .i64 am])] [])=bif decide (k<1) then some [D.int .i64 60] else bif decide (4<k) then some [D.int .i64 60] else bif !name ac then some [D.int .i64 60] else bif decide (am<1) then some [D.int .i64 60] else bif decide (1000000000000000<am) then some [D.int .i64 60] else some [D.int .i64 0]:=by kernel_rfl
theorem m154(m n:Nat)(nm:List UInt8)(fh fi' fo kh ki ko:Int):Tree.out (enterM K2 (callN K2 (m+40)) n c154 [.d (.agg [.str nm,.int .i64 fh,.int .i64 fi',.int .i64 fo,.int .i64 kh,.int .i64 ki,.int .i64 ko])] [])=bif !name nm then some [D.int .i64 2] else bif decide (fi'<0) then some [D.int .i64 2] else bif decide (fh<fi') then some [D.int .i64 2] else bif decide (fo<0) then some [D.int .i64 2] else bif decide (1000000000000000<fh) then some [D.int .i64 2] else bif decide (IntKind.wrap .i64 (1000000000000000 - fh)<fo) then some [D.int .i64 2] else bif decide (ki<0) then some [D.int .i64 2] else bif decide (kh<ki) then some [D.int .i64 2] else bif decide (ko<0) then some [D.int .i64 2] else bif decide (1000000000000000<kh) then some [D.int .i64 2] else bif decide (IntKind.wrap .i64 (1000000000000000 - kh)<ko) then some [D.int .i64 2] else some [D.int .i64 0]:=by kernel_rfl
theorem m166(m n:Nat)(nm:List UInt8)(fh fi' fo kh ki ko:Int):Tree.out (enterM K2 (callN K2 (m+40)) n c166 [.d (.agg [.str nm,.int .i64 fh,.int .i64 fi',.int .i64 fo,.int .i64 kh,.int .i64 ki,.int .i64 ko])] [])=bif !name nm then some [D.int .i64 2] else bif decide (fi'<0) then some [D.int .i64 2] else bif decide (fh<fi') then some [D.int .i64 2] else bif decide (fo<0) then some [D.int .i64 2] else bif decide (1000000000000000<fh) then some [D.int .i64 2] else bif decide (1000000000000000<fo) then some [D.int .i64 2] else bif decide (1000000000000000<IntKind.wrap .i64 (fh+fo)) then some [D.int .i64 2] else bif decide (ki<0) then some [D.int .i64 2] else bif decide (kh<ki) then some [D.int .i64 2] else bif decide (ko<0) then some [D.int .i64 2] else bif decide (1000000000000000<kh) then some [D.int .i64 2] else bif decide (1000000000000000<ko) then some [D.int .i64 2] else bif decide (1000000000000000<IntKind.wrap .i64 (kh+ko)) then some [D.int .i64 2] else some [D.int .i64 0]:=by kernel_rfl
theorem m156(m n:Nat)(s:List UInt8):Tree.out (enterM K2 (callN K2 (m+40)) n c156 [.d (.str s)] [])=bif !s==[] then some [D.bool (decide ((s.length:Int)≤100))] else some [D.bool false]:=by kernel_rfl
theorem m163(m n:Nat)(s:List UInt8):Tree.out (enterM K2 (callN K2 (m+40)) n c163 [.d (.str s)] [])=bif decide (1≤(s.length:Int)) then some [D.bool (decide ((s.length:Int)≤100))] else some [D.bool false]:=by kernel_rfl
theorem m194(m n:Nat)(k am:Int)(ac:List UInt8):Tree.out (enterM K2 (callN K2 (m+40)) n c194 [.d (.agg [.int .i64 k,.str ac,.int .i64 am])] [])=bif decide (k<1) then some [D.int .i64 0,D.int .i64 0] else bif decide (4<k) then some [D.int .i64 0,D.int .i64 0] else bif !name ac then some [D.int .i64 0,D.int .i64 0] else bif decide (am<1) then some [D.int .i64 0,D.int .i64 0] else bif decide (0≤am) then bif !decide (am≤1000000000000000) then some [D.int .i64 0,D.int .i64 0] else bif k==3 then some [D.int .i64 (IntKind.wrap .i64 ((-1)*am)),D.int .i64 (IntKind.wrap .i64 (1*am))] else bif k==1 then some [D.int .i64 (IntKind.wrap .i64 ((-1)*am)),D.int .i64 (IntKind.wrap .i64 (0*am))] else bif k==4 then some [D.int .i64 (IntKind.wrap .i64 (1*am)),D.int .i64 (IntKind.wrap .i64 ((-1)*am))] else bif k==2 then some [D.int .i64 (IntKind.wrap .i64 (1*am)),D.int .i64 (IntKind.wrap .i64 (0*am))] else some [D.int .i64 (IntKind.wrap .i64 (0*am)),D.int .i64 (IntKind.wrap .i64 (0*am))] else some [D.int .i64 0,D.int .i64 0]:=by kernel_rfl
theorem pull{c x:Bool}{e:Int}{a:Option (List D)}(h:a=some [D.int .i64 (bif x then 0 else e)]):(bif c then some [D.int .i64 e] else a)=some [D.int .i64 (bif (bif c then false else x) then 0 else e)]:=by
 subst h
 cases c <;> rfl
def actOk(k am:Int)(ac:List UInt8):Bool:=bif decide (k<1) then false else bif decide (4<k) then false else bif !name ac then false else bif decide (am<1) then false else bif decide (1000000000000000<am) then false else true
theorem actOk_iff{k am:Int}{ac:List UInt8}:actOk k am ac=true↔1≤k∧k≤4∧name ac=true∧1≤am∧am≤1000000000000000:=by
 unfold actOk
 cases hn:name ac
 ·simp
 ·simp
theorem run164(m n:Nat)(k am:Int)(ac:List UInt8):(enterM K2 (callN K2 (m+40)) n c164 [.d (.agg [.int .i64 k,.str ac,.int .i64 am])] []).out=some [.int .i64 (bif actOk k am ac then 0 else 60)]:=by
 rw [m164]
 exact pull (pull (pull (pull (pull rfl))))
theorem run157(m n:Nat)(k am:Int)(ac:List UInt8):(enterM K2 (callN K2 (m+40)) n c157 [.d (.agg [.int .i64 k,.str ac,.int .i64 am])] []).out=some [.int .i64 (bif actOk k am ac then 0 else 60)]:=by
 rw [m157]
 refine pull (pull (pull ?_))
 by_cases h:am<1
 ·rw [decide_eq_true h];rfl
 ·rw [decide_eq_false h,decide_eq_true (show 0≤am by omega)]
  refine pull ?_
  refine (ct rfl).trans ?_
  have:(!decide (am≤1000000000000000))=decide (1000000000000000<am):=by
   by_cases h:am≤1000000000000000
   ·rw [decide_eq_true h,decide_eq_false (by omega)];rfl
   ·rw [decide_eq_false h,decide_eq_true (by omega)];rfl
  rw [this]
  exact pull rfl
def potOk(h i o:Int):Bool:=bif decide (i<0) then false else bif decide (h<i) then false else bif decide (o<0) then false else bif decide (1000000000000000<h) then false else bif decide (1000000000000000<h+o) then false else true
def accOk(nm:List UInt8)(fh fj fo kh kj ko:Int):Bool:=bif !name nm then false else bif potOk fh fj fo then potOk kh kj ko else false
theorem pot_a{h i o:Int}(a b:Option (List D)):(bif decide (i<0) then a else bif decide (h<i) then a else bif decide (o<0) then a else bif decide (1000000000000000<h) then a else bif decide (IntKind.wrap .i64 (1000000000000000 - h)<o) then a else b)=bif potOk h i o then b else a:=by
 unfold potOk
 by_cases h1:i<0
 ·rw [decide_eq_true h1];rfl
 by_cases h2:h<i
 ·rw [decide_eq_false h1,decide_eq_true h2];rfl
 by_cases h3:o<0
 ·rw [decide_eq_false h1,decide_eq_false h2,decide_eq_true h3];rfl
 by_cases h4:1000000000000000<h
 ·rw [decide_eq_false h1,decide_eq_false h2,decide_eq_false h3,decide_eq_true h4];rfl
 rw [decide_eq_false h1,decide_eq_false h2,decide_eq_false h3,decide_eq_false h4,wrap_i64 (by omega) (by omega)]
 by_cases h5:1000000000000000 - h<o
 ·rw [decide_eq_true h5,decide_eq_true (show 1000000000000000<h+o by omega)];rfl
 ·rw [decide_eq_false h5,decide_eq_false (show¬1000000000000000<h+o by omega)];rfl
theorem pot_b{h i o:Int}(a b:Option (List D)):(bif decide (i<0) then a else bif decide (h<i) then a else bif decide (o<0) then a else bif decide (1000000000000000<h) then a else bif decide (1000000000000000<o) then a else bif decide (1000000000000000<IntKind.wrap .i64 (h+o)) then a else b)=bif potOk h i o then b else a:=by
 unfold potOk
 by_cases h1:i<0
 ·rw [decide_eq_true h1];rfl
 by_cases h2:h<i
 ·rw [decide_eq_false h1,decide_eq_true h2];rfl
 by_cases h3:o<0
 ·rw [decide_eq_false h1,decide_eq_false h2,decide_eq_true h3];rfl
 by_cases h4:1000000000000000<h
 ·rw [decide_eq_false h1,decide_eq_false h2,decide_eq_false h3,decide_eq_true h4];rfl
 rw [decide_eq_false h1,decide_eq_false h2,decide_eq_false h3,decide_eq_false h4]
 by_cases h5:1000000000000000<o
 ·rw [decide_eq_true h5,decide_eq_true (show 1000000000000000<h+o by omega)];rfl
 ·rw [decide_eq_false h5,wrap_i64 (by omega) (by omega)]
  cases decide (1000000000000000<h+o) <;> rfl
theorem run154(m n:Nat)(nm:List UInt8)(fh fi' fo kh ki ko:Int):(enterM K2 (callN K2 (m+40)) n c154 [.d (.agg [.str nm,.int .i64 fh,.int .i64 fi',.int .i64 fo,.int .i64 kh,.int .i64 ki,.int .i64 ko])] []).out=some [.int .i64 (bif accOk nm fh fi' fo kh ki ko then 0 else 2)]:=by
 rw [m154,pot_a,pot_a]
 unfold accOk
 cases name nm <;> cases potOk fh fi' fo <;> cases potOk kh ki ko <;> rfl
theorem run166(m n:Nat)(nm:List UInt8)(fh fi' fo kh ki ko:Int):(enterM K2 (callN K2 (m+40)) n c166 [.d (.agg [.str nm,.int .i64 fh,.int .i64 fi',.int .i64 fo,.int .i64 kh,.int .i64 ki,.int .i64 ko])] []).out=some [.int .i64 (bif accOk nm fh fi' fo kh ki ko then 0 else 2)]:=by
 rw [m166,pot_b,pot_b]
 unfold accOk
 cases name nm <;> cases potOk fh fi' fo <;> cases potOk kh ki ko <;> rfl
def ledKey(s:List UInt8):Bool:=bif decide (1≤(s.length:Int)) then decide ((s.length:Int)≤100) else false
theorem run163(m n:Nat)(s:List UInt8):(enterM K2 (callN K2 (m+40)) n c163 [.d (.str s)] []).out=some [.bool (ledKey s)]:=by
 rw [m163]
 unfold ledKey
 cases decide (1≤(s.length:Int)) <;> rfl
theorem run156(m n:Nat)(s:List UInt8):(enterM K2 (callN K2 (m+40)) n c156 [.d (.str s)] []).out=some [.bool (ledKey s)]:=by
 rw [m156]
 unfold ledKey
 cases s with
 | nil=>rfl
 | cons x l=>rw [decide_eq_true (show 1≤((x :: l).length:Int) by rw [List.length_cons];omega)];rfl
def dFree(k am:Int)(ac:List UInt8):Int:=bif actOk k am ac then bif k==1||k==3 then 0 - am else am else 0
def dKept(k am:Int)(ac:List UInt8):Int:=bif actOk k am ac then bif k==3 then am else bif k==4 then 0 - am else 0 else 0
theorem wrap_in{n:Int}(h0: -9223372036854775808≤n)(h1:n<9223372036854775808):IntKind.wrap .i64 n=n:=by
 by_cases h:0≤n
 ·exact wrap_i64 h h1
 ·have p64:(2:Int) ^ 64=18446744073709551616:=by decide
  have p63:(2:Int) ^ (64 - 1)=9223372036854775808:=by decide
  have e:n % (2 ^ 64:Int)=n+18446744073709551616:=by
   rw [p64,←Int.add_emod_right,Int.emod_eq_of_lt (by omega) (by omega)]
  have h4:decide (n+18446744073709551616≥(2:Int) ^ (64 - 1))=true:=by rw [p63];exact decide_eq_true (by omega)
  unfold IntKind.wrap
  simp only [IntKind.bits,IntKind.signed,e,h4,Bool.and_true,if_true]
  rw [p64]
  omega
theorem run194(m n:Nat)(k am:Int)(ac:List UInt8):(enterM K2 (callN K2 (m+40)) n c194 [.d (.agg [.int .i64 k,.str ac,.int .i64 am])] []).out=some [.int .i64 (dFree k am ac),.int .i64 (dKept k am ac)]:=by
 rw [m194]
 unfold dFree dKept
 cases ha:actOk k am ac
 ·unfold actOk at ha
  by_cases h1:k<1
  ·exact ct (decide_eq_true h1)
  refine (cf (decide_eq_false h1)).trans ?_
  by_cases h2:4<k
  ·exact ct (decide_eq_true h2)
  refine (cf (decide_eq_false h2)).trans ?_
  cases hn:name ac
  ·rfl
  refine (cf rfl).trans ?_
  by_cases h3:am<1
  ·exact ct (decide_eq_true h3)
  refine (cf (decide_eq_false h3)).trans ?_
  refine (ct (decide_eq_true (by omega))).trans ?_
  rw [decide_eq_false h1,decide_eq_false h2,decide_eq_false h3,hn] at ha
  have h4:1000000000000000<am:=by
   by_cases h4:1000000000000000<am
   ·exact h4
   ·rw [decide_eq_false h4] at ha;cases ha
  exact ct (by rw [decide_eq_false (show¬am≤1000000000000000 by omega)];rfl)
 ·obtain ⟨h1,h2,h3,h4,h5⟩:=actOk_iff.1 ha
  refine (cf (decide_eq_false (by omega))).trans ?_
  refine (cf (decide_eq_false (by omega))).trans ?_
  refine (cf (by rw [h3];rfl)).trans ?_
  refine (cf (decide_eq_false (by omega))).trans ?_
  refine (ct (decide_eq_true (by omega))).trans ?_
  refine (cf (by rw [decide_eq_true h5];rfl)).trans ?_
  have w1:IntKind.wrap .i64 (-1*am)=0 - am:=by rw [wrap_in (by omega) (by omega)];omega
  have w2:IntKind.wrap .i64 (1*am)=am:=by rw [wrap_in (by omega) (by omega)];omega
  have w3:IntKind.wrap .i64 (0*am)=0:=by rw [wrap_in (by omega) (by omega)];omega
  rw [w1,w2,w3]
  have hk:k=1∨k=2∨k=3∨k=4:=by omega
  rcases hk with rfl | rfl | rfl | rfl <;> rfl
def g157:List D→Tree (List D)
 | [.agg [.int .i64 k,.str ac,.int .i64 am]]=> .ret [.int .i64 (bif actOk k am ac then 0 else 60)]
 | _=> .stuck
theorem pure157{P:Program}(hm:P.follows .mixedOrders=true)(h0:EnvOK P K2):PureOK P 157 g157:=PureOK.run hm h0 fun ds rs h=>by
 unfold g157 at h
 split at h
 ·rename_i k ac am
  cases h
  exact ⟨59+1,by rw [callN_succ (fn:=c157) rfl];exact run157 19 59 k am ac⟩
 ·cases h
def g164:List D→Tree (List D)
 | [.agg [.int .i64 k,.str ac,.int .i64 am]]=> .ret [.int .i64 (bif actOk k am ac then 0 else 60)]
 | _=> .stuck
theorem pure164{P:Program}(hm:P.follows .mixedOrders=true)(h0:EnvOK P K2):PureOK P 164 g164:=PureOK.run hm h0 fun ds rs h=>by
 unfold g164 at h
 split at h
 ·rename_i k ac am
  cases h
  exact ⟨59+1,by rw [callN_succ (fn:=c164) rfl];exact run164 19 59 k am ac⟩
 ·cases h
def g154:List D→Tree (List D)
 | [.agg [.str nm,.int .i64 fh,.int .i64 fj,.int .i64 fo,.int .i64 kh,.int .i64 kj,.int .i64 ko]]=> .ret [.int .i64 (bif accOk nm fh fj fo kh kj ko then 0 else 2)]
 | _=> .stuck
theorem pure154{P:Program}(hm:P.follows .mixedOrders=true)(h0:EnvOK P K2):PureOK P 154 g154:=PureOK.run hm h0 fun ds rs h=>by
 unfold g154 at h
 split at h
 ·rename_i nm fh fj fo kh kj ko
  cases h
  exact ⟨59+1,by rw [callN_succ (fn:=c154) rfl];exact run154 19 59 nm fh fj fo kh kj ko⟩
 ·cases h
def g166:List D→Tree (List D)
 | [.agg [.str nm,.int .i64 fh,.int .i64 fj,.int .i64 fo,.int .i64 kh,.int .i64 kj,.int .i64 ko]]=> .ret [.int .i64 (bif accOk nm fh fj fo kh kj ko then 0 else 2)]
 | _=> .stuck
theorem pure166{P:Program}(hm:P.follows .mixedOrders=true)(h0:EnvOK P K2):PureOK P 166 g166:=PureOK.run hm h0 fun ds rs h=>by
 unfold g166 at h
 split at h
 ·rename_i nm fh fj fo kh kj ko
  cases h
  exact ⟨59+1,by rw [callN_succ (fn:=c166) rfl];exact run166 19 59 nm fh fj fo kh kj ko⟩
 ·cases h
def g156:List D→Tree (List D)
 | [.str s]=> .ret [.bool (ledKey s)]
 | _=> .stuck
theorem pure156{P:Program}(hm:P.follows .mixedOrders=true)(h0:EnvOK P K2):PureOK P 156 g156:=PureOK.run hm h0 fun ds rs h=>by
 unfold g156 at h
 split at h
 ·rename_i s
  cases h
  exact ⟨59+1,by rw [callN_succ (fn:=c156) rfl];exact run156 19 59 s⟩
 ·cases h
def g163:List D→Tree (List D)
 | [.str s]=> .ret [.bool (ledKey s)]
 | _=> .stuck
theorem pure163{P:Program}(hm:P.follows .mixedOrders=true)(h0:EnvOK P K2):PureOK P 163 g163:=PureOK.run hm h0 fun ds rs h=>by
 unfold g163 at h
 split at h
 ·rename_i s
  cases h
  exact ⟨59+1,by rw [callN_succ (fn:=c163) rfl];exact run163 19 59 s⟩
 ·cases h
def g194:List D→Tree (List D)
 | [.agg [.int .i64 k,.str ac,.int .i64 am]]=> .ret [.int .i64 (dFree k am ac),.int .i64 (dKept k am ac)]
 | _=> .stuck
theorem pure194{P:Program}(hm:P.follows .mixedOrders=true)(h0:EnvOK P K2):PureOK P 194 g194:=PureOK.run hm h0 fun ds rs h=>by
 unfold g194 at h
 split at h
 ·rename_i k ac am
  cases h
  exact ⟨59+1,by rw [callN_succ (fn:=c194) rfl];exact run194 19 59 k am ac⟩
 ·cases h
def M1:Env:=((((((K2.pureAt 157 true g157).pureAt 164 true g164).pureAt 154 true g154).pureAt 166 true g166).pureAt 156 true g156).pureAt 163 true g163).pureAt 194 true g194
theorem okM1{P:Program}(hm:P.follows .mixedOrders=true)(h:EnvOK P K2):EnvOK P M1:=
 ((((((h.pureAt (pure157 hm h)).pureAt (pure164 hm h)).pureAt (pure154 hm h)).pureAt (pure166 hm h)).pureAt (pure156 hm h)).pureAt (pure163 hm h)).pureAt (pure194 hm h)
abbrev accSh:Sh:= .agg [.str,.int .i64,.int .i64,.int .i64,.int .i64,.int .i64,.int .i64]
abbrev mrkSh:Sh:= .agg [.str,.int .i64,.str,.int .i64,.int .i64]
def cmpB(a b:List UInt8):Int:=bif a==b then 0 else bif Op.bytesLess a b then -1 else 1
def g192:List D→Tree (List D)
 | [.str a,.str b]=> .ret [.int .i64 (cmpB a b)]
 | _=> .stuck
def M2:Env:=M1.pureAt 192 true g192
set_option maxHeartbeats 1000000 in
set_option maxRecDepth 100000 in
theorem cmp216(a b:ByteArray)(w:World):
  Calls Tryz.prog 216 #[.string a,.string b] w fun e w'=>e= .returned (.int .i64 (Lib.compareBytes a.data.toList b.data.toList))∧w'=w:=by
 go_enter Tryz.func216,Tryz.ntmps216
 go_wp2
 rw [run_callFunc_extern Tryz.func230 (by kernel_rfl) (by kernel_rfl) (by kernel_rfl) (e:=Extern.BytealgCompare.compare) (by kernel_rfl),Lib.run_compareString]
 simp only [Result.andThen]
 rw [Oper.upon_value]
 go_wp2
 go_ret
 exact ⟨rfl,rfl⟩
set_option maxHeartbeats 1000000 in
theorem cmp192(a b:ByteArray)(w:World):
  Calls Tryz.prog 192 #[.string a,.string b] w fun e w'=>e= .returned (.int .i64 (Lib.compareBytes a.data.toList b.data.toList))∧w'=w:=by
 go_enter Tryz.func192,Tryz.ntmps192
 go_wp2_with (go_at_call 216;refine (cmp216 _ _ _).mono ?_;rintro e w' ⟨rfl,rfl⟩)
 go_ret
 exact ⟨rfl,rfl⟩
theorem compare_eq: ∀a b:List UInt8,Lib.compareBytes a b=cmpB a b
 | [],[]=>rfl
 | [],_ :: _=>by simp [Lib.compareBytes,cmpB,Op.bytesLess]
 | _ :: _,[]=>by simp [Lib.compareBytes,cmpB,Op.bytesLess]
 | x :: a,y :: b=>by
  have ih:=compare_eq a b
  simp only [Lib.compareBytes]
  unfold cmpB at ih ⊢
  simp only [Op.bytesLess]
  by_cases h1:x<y
  ·have hne:((x :: a)==(y :: b))=false:=beq_eq_false_iff_ne.2 fun e=>by
    rw [List.cons.injEq] at e
    rw [e.1] at h1
    exact absurd h1 (UInt8.lt_irrefl _)
   rw [if_pos h1,hne,decide_eq_true h1]
   rfl
  ·rw [if_neg h1,decide_eq_false h1]
   by_cases h2:y<x
   ·have hxy:(x==y)=false:=beq_eq_false_iff_ne.2 fun e=>by
     rw [e] at h2
     exact absurd h2 (UInt8.lt_irrefl _)
    have hne:((x :: a)==(y :: b))=false:=by
     rw [List.cons_beq_cons,hxy];rfl
    rw [if_pos h2,hne,hxy]
    rfl
   ·have e:x=y:=by
     apply UInt8.toNat_inj.1
     have e1:=UInt8.not_lt.1 h1
     have e2:=UInt8.not_lt.1 h2
     rw [UInt8.le_iff_toNat_le] at e1 e2
     omega
    subst e
    rw [if_neg h2,ih,List.cons_beq_cons,beq_self_eq_true,Bool.true_and,Bool.true_and,Bool.false_or]
theorem pure192:PureOK Tryz.prog 192 g192:=fun _ ds rs h w X us hX hT hr=>by
 unfold g192 at h
 split at h
 ·rename_i a b
  cases h
  obtain ⟨hl,hr⟩:=hr
  obtain ⟨l⟩:=us
  match l,hl with
  | [u,v],_=>
   have h1:=hr 0 _ u rfl rfl
   have h2:=hr 1 _ v rfl rfl
   cases h1
   cases h2
   obtain ⟨c,hc⟩: ∃c,Tryz.f192.body=some c:=by
    cases h:Tryz.f192.body with
    | some c=>exact ⟨c,rfl⟩
    | none=>exact absurd (show Tryz.f192.body.isSome=true by kernel_rfl) (by rw [h];decide)
   refine .inl ⟨MuLone.run_callFunc_enter Tryz.func192 (by decide +kernel) hc _ w,(cmp192 _ _ w).mono ?_⟩
   rintro e w' ⟨rfl,rfl⟩
   refine ⟨_,rfl,?_,Keep.refl _ _⟩
   rw [compare_eq]
   simp only [retV,RV]
   exact .int _ _
 ·cases h
theorem e165(m n:Nat)(na nm':Bool)(zas ms:List D)(s:List UInt8):Tree.out (enterM M2 (callN M2 (m+40)) n c165 [.d (.agg [.sl accSh na zas,.sl mrkSh nm' ms]),.d (.str s)] [])=Tree.out (resume M2 (callN M2 (m+40)) n n 0 c165 { fr:=frame 22 [(1,V.d (D.str s)),(2,V.ptr 192 0),(5,V.d (D.int .i64 0))],ob:=[(192,Obj.box [V.d (D.sl accSh na zas),V.d (D.sl mrkSh nm' ms)])] }):=by kernel_rfl
def s165(na nm':Bool)(zas ms:List D)(s:List UInt8)(i:Int):St:= { fr:=frame 22 [(1,V.d (D.str s)),(2,V.ptr 192 0),(5,V.d (D.int .i64 i))],ob:=[(192,.box [V.d (D.sl accSh na zas),V.d (D.sl mrkSh nm' ms)])] }
theorem l165(m n j:Nat)(na nm':Bool)(zas ms:List D)(s:List UInt8)(i:Int):Tree.out (resume M2 (callN M2 (m+40)) n (j+1) 0 c165 (s165 na nm' zas ms s i))=bif decide (i<(zas.length:Int)) then bif decide (0≤i∧i<(zas.length:Int)) then bif fs 0 (zas.getD i.toNat .nilp)==s then some [D.int .i64 i] else Tree.out (resume M2 (callN M2 (m+40)) n j 0 c165 { fr:=frame 22 [(1,V.d (D.str s)),(2,V.ptr 192 0),(5,V.d (D.int .i64 (IntKind.wrap .i64 (i+1))))],ob:=[(192,Obj.box [V.d (D.sl accSh na zas),V.d (D.sl mrkSh nm' ms)])] }) else none else some [D.int .i64 (-1)]:=by kernel_rfl
theorem e168(m n:Nat)(na nm':Bool)(zas ms:List D)(s:List UInt8):Tree.out (enterM M2 (callN M2 (m+40)) n c168 [.d (.agg [.sl accSh na zas,.sl mrkSh nm' ms]),.d (.str s)] [])=Tree.out (resume M2 (callN M2 (m+40)) n n 0 c168 { fr:=frame 22 [(1,V.d (D.str s)),(2,V.ptr 192 0),(5,V.d (D.int .i64 0))],ob:=[(192,Obj.box [V.d (D.sl accSh na zas),V.d (D.sl mrkSh nm' ms)])] }):=by kernel_rfl
theorem l168(m n j:Nat)(na nm':Bool)(zas ms:List D)(s:List UInt8)(i:Int):Tree.out (resume M2 (callN M2 (m+40)) n (j+1) 0 c168 (s165 na nm' zas ms s i))=bif decide (i<(ms.length:Int)) then bif decide (0≤i∧i<(ms.length:Int)) then bif fs 0 (ms.getD i.toNat .nilp)==s then some [D.int .i64 i] else Tree.out (resume M2 (callN M2 (m+40)) n j 0 c168 { fr:=frame 22 [(1,V.d (D.str s)),(2,V.ptr 192 0),(5,V.d (D.int .i64 (IntKind.wrap .i64 (i+1))))],ob:=[(192,Obj.box [V.d (D.sl accSh na zas),V.d (D.sl mrkSh nm' ms)])] }) else none else some [D.int .i64 (-1)]:=by kernel_rfl
theorem e167(m n:Nat)(na nm':Bool)(zas ms:List D)(s:List UInt8)(fh fj fo kh kj ko:Int):Tree.out (enterM M2 (callN M2 (m+40)) n c167 [.d (.agg [.sl accSh na zas,.sl mrkSh nm' ms]),.d (.agg [.str s,.int .i64 fh,.int .i64 fj,.int .i64 fo,.int .i64 kh,.int .i64 kj,.int .i64 ko])] [])=Tree.out (resume M2 (callN M2 (m+40)) n n 0 c167 { fr:=frame 93 [(2,V.ptr 192 0),(3,V.ptr 256 0),(5,V.d (D.int .i64 0)),(6,V.d (D.int .i64 0)),(7,V.d (D.int .i64 0)),(8,V.d (D.int .i64 0)),(9,V.d (D.int .i64 0))],ob:=[(192,Obj.box [V.d (D.sl accSh na zas),V.d (D.sl mrkSh nm' ms)]),(256,Obj.box [V.d (D.str s),V.d (D.int .i64 fh),V.d (D.int .i64 fj),V.d (D.int .i64 fo),V.d (D.int .i64 kh),V.d (D.int .i64 kj),V.d (D.int .i64 ko)])] }):=by kernel_rfl
def s167(na nm':Bool)(zas ms:List D)(s:List UInt8)(fh fj fo kh kj ko:Int)(x y z u i:Int):St:= { fr:=frame 93 [(2,V.ptr 192 0),(3,V.ptr 256 0),(5,V.d (D.int .i64 x)),(6,V.d (D.int .i64 y)),(7,V.d (D.int .i64 z)),(8,V.d (D.int .i64 u)),(9,V.d (D.int .i64 i))],ob:=[(192,.box [V.d (D.sl accSh na zas),V.d (D.sl mrkSh nm' ms)]),(256,.box [V.d (D.str s),V.d (D.int .i64 fh),V.d (D.int .i64 fj),V.d (D.int .i64 fo),V.d (D.int .i64 kh),V.d (D.int .i64 kj),V.d (D.int .i64 ko)])] }
theorem l167(m n j:Nat)(na nm':Bool)(zas ms:List D)(s:List UInt8)(fh fj fo kh kj ko:Int)(x y z u i:Int):Tree.out (resume M2 (callN M2 (m+40)) n (j+1) 0 c167 (s167 na nm' zas ms s fh fj fo kh kj ko x y z u i))=bif decide (i<(ms.length:Int)) then bif decide (0≤i∧i<(ms.length:Int)) then bif !fs 2 (ms.getD i.toNat .nilp)==s then Tree.out (resume M2 (callN M2 (m+40)) n j 0 c167 { fr:=frame 93 [(2,V.ptr 192 0),(3,V.ptr 256 0),(5,V.d (D.int .i64 x)),(6,V.d (D.int .i64 y)),(7,V.d (D.int .i64 z)),(8,V.d (D.int .i64 u)),(9,V.d (D.int .i64 (IntKind.wrap .i64 (i+1))))],ob:=[(192,Obj.box [V.d (D.sl accSh na zas),V.d (D.sl mrkSh nm' ms)]),(256,Obj.box [V.d (D.str s),V.d (D.int .i64 fh),V.d (D.int .i64 fj),V.d (D.int .i64 fo),V.d (D.int .i64 kh),V.d (D.int .i64 kj),V.d (D.int .i64 ko)])] }) else bif fi 4 (ms.getD i.toNat .nilp) != 1 then Tree.out (resume M2 (callN M2 (m+40)) n j 0 c167 { fr:=frame 93 [(2,V.ptr 192 0),(3,V.ptr 256 0),(5,V.d (D.int .i64 x)),(6,V.d (D.int .i64 y)),(7,V.d (D.int .i64 z)),(8,V.d (D.int .i64 u)),(9,V.d (D.int .i64 (IntKind.wrap .i64 (i+1))))],ob:=[(192,Obj.box [V.d (D.sl accSh na zas),V.d (D.sl mrkSh nm' ms)]),(256,Obj.box [V.d (D.str s),V.d (D.int .i64 fh),V.d (D.int .i64 fj),V.d (D.int .i64 fo),V.d (D.int .i64 kh),V.d (D.int .i64 kj),V.d (D.int .i64 ko)])] }) else bif fi 1 (ms.getD i.toNat .nilp)==1 then Tree.out (resume M2 (callN M2 (m+40)) n j 0 c167 { fr:=frame 93 [(2,V.ptr 192 0),(3,V.ptr 256 0),(5,V.d (D.int .i64 x)),(6,V.d (D.int .i64 (IntKind.wrap .i64 (y+fi 3 (ms.getD i.toNat .nilp))))),(7,V.d (D.int .i64 z)),(8,V.d (D.int .i64 u)),(9,V.d (D.int .i64 (IntKind.wrap .i64 (i+1))))],ob:=[(192,Obj.box [V.d (D.sl accSh na zas),V.d (D.sl mrkSh nm' ms)]),(256,Obj.box [V.d (D.str s),V.d (D.int .i64 fh),V.d (D.int .i64 fj),V.d (D.int .i64 fo),V.d (D.int .i64 kh),V.d (D.int .i64 kj),V.d (D.int .i64 ko)])] }) else bif fi 1 (ms.getD i.toNat .nilp)==2 then Tree.out (resume M2 (callN M2 (m+40)) n j 0 c167 { fr:=frame 93 [(2,V.ptr 192 0),(3,V.ptr 256 0),(5,V.d (D.int .i64 (IntKind.wrap .i64 (x+fi 3 (ms.getD i.toNat .nilp))))),(6,V.d (D.int .i64 y)),(7,V.d (D.int .i64 z)),(8,V.d (D.int .i64 u)),(9,V.d (D.int .i64 (IntKind.wrap .i64 (i+1))))],ob:=[(192,Obj.box [V.d (D.sl accSh na zas),V.d (D.sl mrkSh nm' ms)]),(256,Obj.box [V.d (D.str s),V.d (D.int .i64 fh),V.d (D.int .i64 fj),V.d (D.int .i64 fo),V.d (D.int .i64 kh),V.d (D.int .i64 kj),V.d (D.int .i64 ko)])] }) else bif fi 1 (ms.getD i.toNat .nilp)==3 then Tree.out (resume M2 (callN M2 (m+40)) n j 0 c167 { fr:=frame 93 [(2,V.ptr 192 0),(3,V.ptr 256 0),(5,V.d (D.int .i64 x)),(6,V.d (D.int .i64 (IntKind.wrap .i64 (y+fi 3 (ms.getD i.toNat .nilp))))),(7,V.d (D.int .i64 (IntKind.wrap .i64 (z+fi 3 (ms.getD i.toNat .nilp))))),(8,V.d (D.int .i64 u)),(9,V.d (D.int .i64 (IntKind.wrap .i64 (i+1))))],ob:=[(192,Obj.box [V.d (D.sl accSh na zas),V.d (D.sl mrkSh nm' ms)]),(256,Obj.box [V.d (D.str s),V.d (D.int .i64 fh),V.d (D.int .i64 fj),V.d (D.int .i64 fo),V.d (D.int .i64 kh),V.d (D.int .i64 kj),V.d (D.int .i64 ko)])] }) else bif fi 1 (ms.getD i.toNat .nilp)==4 then Tree.out (resume M2 (callN M2 (m+40)) n j 0 c167 { fr:=frame 93 [(2,V.ptr 192 0),(3,V.ptr 256 0),(5,V.d (D.int .i64 (IntKind.wrap .i64 (x+fi 3 (ms.getD i.toNat .nilp))))),(6,V.d (D.int .i64 y)),(7,V.d (D.int .i64 z)),(8,V.d (D.int .i64 (IntKind.wrap .i64 (u+fi 3 (ms.getD i.toNat .nilp))))),(9,V.d (D.int .i64 (IntKind.wrap .i64 (i+1))))],ob:=[(192,Obj.box [V.d (D.sl accSh na zas),V.d (D.sl mrkSh nm' ms)]),(256,Obj.box [V.d (D.str s),V.d (D.int .i64 fh),V.d (D.int .i64 fj),V.d (D.int .i64 fo),V.d (D.int .i64 kh),V.d (D.int .i64 kj),V.d (D.int .i64 ko)])] }) else Tree.out (resume M2 (callN M2 (m+40)) n j 0 c167 { fr:=frame 93 [(2,V.ptr 192 0),(3,V.ptr 256 0),(5,V.d (D.int .i64 x)),(6,V.d (D.int .i64 y)),(7,V.d (D.int .i64 z)),(8,V.d (D.int .i64 u)),(9,V.d (D.int .i64 (IntKind.wrap .i64 (i+1))))],ob:=[(192,Obj.box [V.d (D.sl accSh na zas),V.d (D.sl mrkSh nm' ms)]),(256,Obj.box [V.d (D.str s),V.d (D.int .i64 fh),V.d (D.int .i64 fj),V.d (D.int .i64 fo),V.d (D.int .i64 kh),V.d (D.int .i64 kj),V.d (D.int .i64 ko)])] }) else none else bif fj==x then bif fo==y then bif kj==z then some [D.bool (ko==u)] else some [D.bool false] else some [D.bool false] else some [D.bool false]:=by kernel_rfl
theorem e190(m n:Nat)(na:Bool)(zas:List D)(s:List UInt8):Tree.outG (enterM M2 (callN M2 (m+40)) n c190 [.d (.sl accSh na zas),.d (.str s),.fn 191 [] []] [])=Tree.outG (resume M2 (callN M2 (m+40)) n n 0 c190 { fr:=frame 49 [(0,V.d (D.sl accSh na zas)),(1,V.d (D.str s)),(2,V.fn 191 [] []),(8,V.d (D.int .i64 (zas.length:Int))),(9,V.d (D.int .i64 0)),(10,V.d (D.int .i64 (zas.length:Int)))],ob:=[] }):=by kernel_rfl
def s190(na:Bool)(zas:List D)(s:List UInt8)(i j:Int):St:= { fr:=frame 49 [(0,V.d (D.sl accSh na zas)),(1,V.d (D.str s)),(2,V.fn 191 [] []),(8,V.d (D.int .i64 (zas.length:Int))),(9,V.d (D.int .i64 i)),(10,V.d (D.int .i64 j))],ob:=[] }
theorem l190(m n f:Nat)(na:Bool)(zas:List D)(s:List UInt8)(i j:Int):Tree.outG (resume M2 (callN M2 (m+40)) n (f+1) 0 c190 (s190 na zas s i j))=bif decide (i<j) then bif decide (0≤IntKind.wrap .i64 (Int.fdiv (IntKind.wrap .u64 (IntKind.wrap .i64 (i+j))) 2)∧IntKind.wrap .i64 (Int.fdiv (IntKind.wrap .u64 (IntKind.wrap .i64 (i+j))) 2)<(zas.length:Int)) then bif decide (cmpB (fs 0 (List.getD zas (Int.toNat (IntKind.wrap .i64 (Int.fdiv (IntKind.wrap .u64 (IntKind.wrap .i64 (i+j))) 2))) D.nilp)) s<0) then Tree.outG (resume M2 (callN M2 (m+40)) n f 0 c190 { fr:=frame 49 [(0,V.d (D.sl accSh na zas)),(1,V.d (D.str s)),(2,V.fn 191 [] []),(8,V.d (D.int .i64 (zas.length:Int))),(9,V.d (D.int .i64 (IntKind.wrap .i64 (IntKind.wrap .i64 (Int.fdiv (IntKind.wrap .u64 (IntKind.wrap .i64 (i+j))) 2)+1)))),(10,V.d (D.int .i64 j))],ob:=[] }) else Tree.outG (resume M2 (callN M2 (m+40)) n f 0 c190 { fr:=frame 49 [(0,V.d (D.sl accSh na zas)),(1,V.d (D.str s)),(2,V.fn 191 [] []),(8,V.d (D.int .i64 (zas.length:Int))),(9,V.d (D.int .i64 i)),(10,V.d (D.int .i64 (IntKind.wrap .i64 (Int.fdiv (IntKind.wrap .u64 (IntKind.wrap .i64 (i+j))) 2))))],ob:=[] }) else none else bif decide (i<(zas.length:Int)) then bif decide (0≤i∧i<(zas.length:Int)) then some (V.tup [V.d (D.int .i64 i),V.d (D.bool (cmpB (fs 0 (zas.getD i.toNat .nilp)) s==0))],[]) else none else some (V.tup [V.d (D.int .i64 i),V.d (D.bool false)],[]):=by kernel_rfl
def nameIdx(s:List UInt8)(es:List D):Int:=idxOf (fun x=>fs 0 x==s) es
theorem run165(m n:Nat)(na nm':Bool)(zas ms:List D)(s:List UInt8)(hl:zas.length≤1000000)(hn:zas.length<n):(enterM M2 (callN M2 (m+40)) n c165 [.d (.agg [.sl accSh na zas,.sl mrkSh nm' ms]),.d (.str s)] []).out=some [.int .i64 (nameIdx s zas)]:=by
 rw [e165]
 have:=scan_loop (fun j i=>(resume M2 (callN M2 (m+40)) n j 0 c165 (s165 na nm' zas ms s (i:Nat))).out) zas.length (fun i=>fs 0 (zas.getD i .nilp)==s) (fun i=>[.int .i64 (i:Nat)]) [.int .i64 (-1)]
  (fun j i hi=> ?_) (fun j=> ?_) zas.length 0 n (by omega) (by omega)
 ·refine this.trans ?_
  rw [scan_map (fun b:Int=>[D.int .i64 b]),scan_idx0 (fun x=>fs 0 x==s) .nilp zas]
  rfl
 ·rw [l165]
  simp only [Int.toNat_natCast,wrap_up hi hl]
  refine (ct (dec_lt hi)).trans ((ct (dec_ix hi)).trans ?_)
  rfl
 ·rw [l165]
  exact cf (dec_end _)
theorem run168(m n:Nat)(na nm':Bool)(zas ms:List D)(s:List UInt8)(hl:ms.length≤1000000)(hn:ms.length<n):(enterM M2 (callN M2 (m+40)) n c168 [.d (.agg [.sl accSh na zas,.sl mrkSh nm' ms]),.d (.str s)] []).out=some [.int .i64 (nameIdx s ms)]:=by
 rw [e168]
 have:=scan_loop (fun j i=>(resume M2 (callN M2 (m+40)) n j 0 c168 (s165 na nm' zas ms s (i:Nat))).out) ms.length (fun i=>fs 0 (ms.getD i .nilp)==s) (fun i=>[.int .i64 (i:Nat)]) [.int .i64 (-1)]
  (fun j i hi=> ?_) (fun j=> ?_) ms.length 0 n (by omega) (by omega)
 ·refine this.trans ?_
  rw [scan_map (fun b:Int=>[D.int .i64 b]),scan_idx0 (fun x=>fs 0 x==s) .nilp ms]
  rfl
 ·rw [l168]
  simp only [Int.toNat_natCast,wrap_up hi hl]
  refine (ct (dec_lt hi)).trans ((ct (dec_ix hi)).trans ?_)
  rfl
 ·rw [l168]
  exact cf (dec_end _)
structure P4 where
 a:Int
 b:Int
 c:Int
 d:Int
abbrev wad(x y:Int):Int:=IntKind.wrap .i64 (x+y)
def refStep(s:List UInt8)(p:P4)(m:D):P4:=
 bif !(fs 2 m==s) then p else bif fi 4 m != 1 then p else bif fi 1 m==1 then ⟨p.a,wad p.b (fi 3 m),p.c,p.d⟩ else bif fi 1 m==2 then ⟨wad p.a (fi 3 m),p.b,p.c,p.d⟩ else
  bif fi 1 m==3 then ⟨p.a,wad p.b (fi 3 m),wad p.c (fi 3 m),p.d⟩ else bif fi 1 m==4 then ⟨wad p.a (fi 3 m),p.b,p.c,wad p.d (fi 3 m)⟩ else p
def refPots(s:List UInt8)(ms:List D):P4:=ms.foldl (refStep s) ⟨0,0,0,0⟩
def potsEq(p:P4)(fj fo kj ko:Int):Bool:=bif fj==p.a then bif fo==p.b then bif kj==p.c then ko==p.d else false else false else false
theorem loop167(m n:Nat)(na nm':Bool)(zas ms:List D)(s:List UInt8)(fh fj fo kh kj ko:Int)(hl:ms.length≤1000000): ∀k i j (p:P4),i+k=ms.length→k<j→p=(ms.take i).foldl (refStep s) ⟨0,0,0,0⟩→
  (resume M2 (callN M2 (m+40)) n j 0 c167 (s167 na nm' zas ms s fh fj fo kh kj ko p.a p.b p.c p.d (i:Nat))).out=some [.bool (potsEq (refPots s ms) fj fo kj ko)]:=by
 intro k
 induction k with
 | zero=>
  intro i j p hi hj hp
  cases j with
  | zero=>omega
  | succ j=>
   have:i=ms.length:=by omega
   subst this
   rw [List.take_length] at hp
   have hp:refPots s ms=p:=hp.symm
   rw [l167,hp]
   refine (cf (dec_end _)).trans ?_
   unfold potsEq
   cases (fj==p.a) <;> cases (fo==p.b) <;> cases (kj==p.c) <;> rfl
 | succ k ih=>
  intro i j p hi hj hp
  cases j with
  | zero=>omega
  | succ j=>
   have hlt:i<ms.length:=by omega
   have next:=ih (i+1) j (refStep s p (ms.getD i .nilp)) (by omega) (by omega) (by
    rw [List.take_add_one,List.getElem?_eq_getElem hlt,List.foldl_append,←hp,List.getD_eq_getElem?_getD,List.getElem?_eq_getElem hlt];rfl)
   rw [l167]
   simp only [Int.toNat_natCast,wrap_up hlt hl]
   refine (ct (dec_lt hlt)).trans ((ct (dec_ix hlt)).trans ?_)
   unfold refStep at next
   cases h1:(fs 2 (ms.getD i .nilp)==s)
   ·rw [h1] at next
    exact next
   ·rw [h1] at next
    cases h2:(fi 4 (ms.getD i .nilp) != 1)
    ·rw [h2] at next
     cases h3:(fi 1 (ms.getD i .nilp)==1)
     ·rw [h3] at next
      cases h4:(fi 1 (ms.getD i .nilp)==2)
      ·rw [h4] at next
       cases h5:(fi 1 (ms.getD i .nilp)==3)
       ·rw [h5] at next
        cases h6:(fi 1 (ms.getD i .nilp)==4)
        ·rw [h6] at next;exact next
        ·rw [h6] at next;exact next
       ·rw [h5] at next;exact next
      ·rw [h4] at next;exact next
     ·rw [h3] at next;exact next
    ·rw [h2] at next
     exact next
theorem run167(m n:Nat)(na nm':Bool)(zas ms:List D)(s:List UInt8)(fh fj fo kh kj ko:Int)(hl:ms.length≤1000000)(hn:ms.length<n):(enterM M2 (callN M2 (m+40)) n c167 [.d (.agg [.sl accSh na zas,.sl mrkSh nm' ms]),.d (.agg [.str s,.int .i64 fh,.int .i64 fj,.int .i64 fo,.int .i64 kh,.int .i64 kj,.int .i64 ko])] []).out=some [.bool (potsEq (refPots s ms) fj fo kj ko)]:=by
 rw [e167]
 exact loop167 m n na nm' zas ms s fh fj fo kh kj ko hl ms.length 0 n ⟨0,0,0,0⟩ (by omega) (by omega) rfl
def bsF(p:Nat→Bool):Nat→Nat→Nat→Nat
 | 0,i,_=>i
 | f+1,i,j=>bif decide (i<j) then bif p ((i+j) / 2) then bsF p f ((i+j) / 2+1) j else bsF p f i ((i+j) / 2) else i
theorem bsF_spec(p:Nat→Bool)(n:Nat)(hm: ∀a b,a≤b→b<n→p b=true→p a=true): ∀f i j,j - i≤f→i≤j→j≤n→(∀k,k<i→p k=true)→(∀k,j≤k→k<n→p k=false)→
  (bsF p f i j≤n∧(∀k,k<bsF p f i j→p k=true)∧ ∀k,bsF p f i j≤k→k<n→p k=false)
 | 0,i,j,hf,hij,hj,h1,h2=>by
  have:i=j:=by omega
  subst this
  exact ⟨by simp only [bsF];omega,h1,h2⟩
 | f+1,i,j,hf,hij,hj,h1,h2=>by
  simp only [bsF]
  by_cases hlt:i<j
  ·rw [decide_eq_true hlt,cond_true]
   cases hp:p ((i+j) / 2)
   ·rw [cond_false]
    refine bsF_spec p n hm f i ((i+j) / 2) (by omega) (by omega) (by omega) h1 fun k hk hkn=> ?_
    cases hpk:p k
    ·rfl
    ·rw [hm _ _ hk hkn hpk] at hp;cases hp
   ·rw [cond_true]
    refine bsF_spec p n hm f ((i+j) / 2+1) j (by omega) (by omega) hj (fun k hk=> ?_) h2
    exact hm k ((i+j) / 2) (by omega) (by omega) hp
  ·rw [decide_eq_false hlt,cond_false]
   have:i=j:=by omega
   subst this
   exact ⟨by omega,h1,h2⟩
theorem half{i j:Nat}(hi:i≤1000000)(hj:j≤1000000):IntKind.wrap .i64 (Int.fdiv (IntKind.wrap .u64 (IntKind.wrap .i64 ((i:Int)+(j:Int)))) 2)=(((i+j) / 2:Nat):Int):=by
 rw [wrap_i64 (n:=(i:Int)+(j:Int)) (by omega) (by omega),wrap_u64 (by omega) (by omega),Int.fdiv_eq_ediv_of_nonneg _ (by omega)]
 have:((i:Int)+(j:Int)) / 2=(((i+j) / 2:Nat):Int):=by omega
 rw [this,wrap_i64 (by omega) (by omega)]
def lessAt(s:List UInt8)(zas:List D)(i:Nat):Bool:=decide (cmpB (fs 0 (zas.getD i .nilp)) s<0)
def plc(s:List UInt8)(zas:List D):Nat:=bsF (lessAt s zas) zas.length 0 zas.length
def there(s:List UInt8)(zas:List D):Bool:=bif decide ((plc s zas:Int)<(zas.length:Int)) then cmpB (fs 0 (zas.getD (plc s zas) .nilp)) s==0 else false
theorem loop190(m n:Nat)(na:Bool)(zas:List D)(s:List UInt8)(hl:zas.length≤1000000): ∀f i j g,j - i≤f→f<g→i≤zas.length→j≤zas.length→
  (resume M2 (callN M2 (m+40)) n g 0 c190 (s190 na zas s (i:Nat) (j:Nat))).outG=some (.tup [.d (.int .i64 (bsF (lessAt s zas) f i j:Nat)),.d (.bool (bif decide ((bsF (lessAt s zas) f i j:Nat)<(zas.length:Int)) then cmpB (fs 0 (zas.getD (bsF (lessAt s zas) f i j) .nilp)) s==0 else false))],[]):=by
 intro f
 have stop: ∀i j g,¬i<j→0<g→(resume M2 (callN M2 (m+40)) n g 0 c190 (s190 na zas s (i:Nat) (j:Nat))).outG=some (.tup [.d (.int .i64 (i:Nat)),.d (.bool (bif decide (((i:Nat):Int)<(zas.length:Int)) then cmpB (fs 0 (zas.getD i .nilp)) s==0 else false))],[]):=by
  intro i j g hij hg
  cases g with
  | zero=>omega
  | succ g=>
   rw [l190]
   refine (cf (decide_eq_false (by omega))).trans ?_
   by_cases hi:i<zas.length
   ·simp only [Int.toNat_natCast]
    refine (ct (dec_lt hi)).trans ((ct (dec_ix hi)).trans ?_)
    rw [dec_lt hi];rfl
   ·have:decide ((i:Int)<(zas.length:Int))=false:=decide_eq_false (by omega)
    refine (cf this).trans ?_
    rw [this];rfl
 induction f with
 | zero=>
  intro i j g hf hg hi hj
  exact stop i j g (by omega) (by omega)
 | succ f ih=>
  intro i j g hf hg hi hj
  by_cases hij:i<j
  ·cases g with
   | zero=>omega
   | succ g=>
    have hh:=half (i:=i) (j:=j) (by omega) (by omega)
    rw [l190,hh]
    simp only [Int.toNat_natCast,wrap_up (show (i+j) / 2<zas.length by omega) hl]
    refine (ct (decide_eq_true (by omega))).trans ((ct (dec_ix (show (i+j) / 2<zas.length by omega))).trans ?_)
    have e:bsF (lessAt s zas) (f+1) i j=bif lessAt s zas ((i+j) / 2) then bsF (lessAt s zas) f ((i+j) / 2+1) j else bsF (lessAt s zas) f i ((i+j) / 2):=by
     simp only [bsF]
     rw [decide_eq_true hij];rfl
    cases hp:lessAt s zas ((i+j) / 2)
    ·have hp':decide (cmpB (fs 0 (zas.getD ((i+j) / 2) .nilp)) s<0)=false:=hp
     refine (cf hp').trans ?_
     rw [e,hp]
     exact ih i ((i+j) / 2) g (by omega) (by omega) hi (by omega)
    ·have hp':decide (cmpB (fs 0 (zas.getD ((i+j) / 2) .nilp)) s<0)=true:=hp
     refine (ct hp').trans ?_
     rw [e,hp]
     exact ih ((i+j) / 2+1) j g (by omega) (by omega) (by omega) hj
  ·rw [stop i j g hij (by omega)]
   have e:bsF (lessAt s zas) (f+1) i j=i:=by
    simp only [bsF]
    rw [decide_eq_false hij];rfl
   rw [e]
theorem run190(m n:Nat)(na:Bool)(zas:List D)(s:List UInt8)(hl:zas.length≤1000000)(hn:zas.length<n):(enterM M2 (callN M2 (m+40)) n c190 [.d (.sl accSh na zas),.d (.str s),.fn 191 [] []] []).outG=some (.tup [.d (.int .i64 (plc s zas:Nat)),.d (.bool (there s zas))],[]):=by
 rw [e190]
 exact loop190 m n na zas s hl zas.length 0 zas.length n (by omega) (by omega) (by omega) (by omega)
def C190(args:List V)(ob:Obs):Tree (V×Obs):=
 match args,ob with
 | [.d (.sl e _na zas),.d (.str s),.fn f [] []],[]=>match Sh.beq e accSh&&Nat.beq f 191 with
  | true=> .ite (decide (zas.length≤1000000)) (fun _=> .ret (.tup [.d (.int .i64 (plc s zas:Nat)),.d (.bool (there s zas))],[])) (fun _=> .stuck)
  | false=> .stuck
 | _,_=> .stuck
theorem fn190{P:Program}(hm:P.follows .mixedOrders=true)(h0:EnvOK P M2):FnOK P 190 C190:=FnOK.runG hm h0 fun args ob r h=>by
 unfold C190 at h
 split at h
 ·rename_i e na zas s f
  split at h
  ·rename_i hb
   simp only [Bool.and_eq_true] at hb
   have hb1:=Sh.beq_eq hb.1
   have hb2:=Nat.eq_of_beq_eq_true hb.2
   subst hb1 hb2
   obtain ⟨hg,h'⟩:=eval_guard h
   clear h
   simp only [decide_eq_true_eq] at hg
   cases h'
   exact ⟨(zas.length+40)+1,by rw [callN_succ (fn:=c190) rfl];exact run190 zas.length (zas.length+40) na zas s hg (by omega)⟩
  ·cases h
 ·cases h
def g165:List D→Tree (List D)
 | [.agg [.sl ea _na zas,.sl em _nm _ms],.str s]=>match Sh.beq ea accSh&&Sh.beq em mrkSh with
  | true=> .ite (decide (zas.length≤1000000)) (fun _=> .ret [.int .i64 (nameIdx s zas)]) (fun _=> .stuck)
  | false=> .stuck
 | _=> .stuck
theorem pure165{P:Program}(hm:P.follows .mixedOrders=true)(h0:EnvOK P M2):PureOK P 165 g165:=PureOK.run hm h0 fun ds rs h=>by
 unfold g165 at h
 split at h
 ·rename_i ea na zas em nm ms s
  split at h
  ·rename_i hb
   simp only [Bool.and_eq_true] at hb
   obtain ⟨hb0,hb1⟩:=hb
   have hb0:=Sh.beq_eq hb0
   have hb1:=Sh.beq_eq hb1
   subst hb0 hb1
   obtain ⟨hg,h'⟩:=eval_guard h
   clear h
   simp only [decide_eq_true_eq] at hg
   cases h'
   exact ⟨(zas.length+40)+1,by rw [callN_succ (fn:=c165) rfl];exact run165 zas.length (zas.length+40) na nm zas ms s hg (by omega)⟩
  ·cases h
 ·cases h
def g168:List D→Tree (List D)
 | [.agg [.sl ea _na _as,.sl em _nm ms],.str s]=>match Sh.beq ea accSh&&Sh.beq em mrkSh with
  | true=> .ite (decide (ms.length≤1000000)) (fun _=> .ret [.int .i64 (nameIdx s ms)]) (fun _=> .stuck)
  | false=> .stuck
 | _=> .stuck
theorem pure168{P:Program}(hm:P.follows .mixedOrders=true)(h0:EnvOK P M2):PureOK P 168 g168:=PureOK.run hm h0 fun ds rs h=>by
 unfold g168 at h
 split at h
 ·rename_i ea na zas em nm ms s
  split at h
  ·rename_i hb
   simp only [Bool.and_eq_true] at hb
   obtain ⟨hb0,hb1⟩:=hb
   have hb0:=Sh.beq_eq hb0
   have hb1:=Sh.beq_eq hb1
   subst hb0 hb1
   obtain ⟨hg,h'⟩:=eval_guard h
   clear h
   simp only [decide_eq_true_eq] at hg
   cases h'
   exact ⟨(ms.length+40)+1,by rw [callN_succ (fn:=c168) rfl];exact run168 ms.length (ms.length+40) na nm zas ms s hg (by omega)⟩
  ·cases h
 ·cases h
def g167:List D→Tree (List D)
 | [.agg [.sl ea _na _as,.sl em _nm ms],.agg [.str s,.int .i64 _fh,.int .i64 fj,.int .i64 fo,.int .i64 _kh,.int .i64 kj,.int .i64 ko]]=>match Sh.beq ea accSh&&Sh.beq em mrkSh with
  | true=> .ite (decide (ms.length≤1000000)) (fun _=> .ret [.bool (potsEq (refPots s ms) fj fo kj ko)]) (fun _=> .stuck)
  | false=> .stuck
 | _=> .stuck
theorem pure167{P:Program}(hm:P.follows .mixedOrders=true)(h0:EnvOK P M2):PureOK P 167 g167:=PureOK.run hm h0 fun ds rs h=>by
 unfold g167 at h
 split at h
 ·rename_i ea na zas em nm ms s fh fj fo kh kj ko
  split at h
  ·rename_i hb
   simp only [Bool.and_eq_true] at hb
   obtain ⟨hb0,hb1⟩:=hb
   have hb0:=Sh.beq_eq hb0
   have hb1:=Sh.beq_eq hb1
   subst hb0 hb1
   obtain ⟨hg,h'⟩:=eval_guard h
   clear h
   simp only [decide_eq_true_eq] at hg
   cases h'
   exact ⟨(ms.length+40)+1,by rw [callN_succ (fn:=c167) rfl];exact run167 ms.length (ms.length+40) na nm zas ms s fh fj fo kh kj ko hg (by omega)⟩
  ·cases h
 ·cases h
def M3:Env:=(((M2.pureAt 165 true g165).pureAt 168 true g168).pureAt 167 true g167).genAt 190 C190
theorem okM3{P:Program}(hm:P.follows .mixedOrders=true)(h:EnvOK P M2):EnvOK P M3:=(((h.pureAt (pure165 hm h)).pureAt (pure168 hm h)).pureAt (pure167 hm h)).genAt (fn190 hm h)
abbrev i4Sh:Sh:= .agg [.int .i64,.int .i64,.int .i64,.int .i64]
abbrev z4:D:= .agg [.int .i64 0,.int .i64 0,.int .i64 0,.int .i64 0]
theorem e155(m n:Nat)(na nm':Bool)(zas ms:List D)(s:List UInt8):Tree.out (enterM M3 (callN M3 (m+40)) n c155 [.d (.agg [.sl accSh na zas,.sl mrkSh nm' ms]),.d (.str s)] [])=bif decide (zas.length≤1000000) then some [D.int .i64 (↑(plc s zas):Int),D.bool (there s zas)] else none:=by kernel_rfl
theorem e158(m n:Nat)(na nm':Bool)(zas ms:List D):Tree.eval (enterM M3 (callN M3 (m+40)) n c158 [.d (.agg [.sl accSh na zas,.sl mrkSh nm' ms])] [])=Tree.eval (resume M3 (callN M3 (m+40)) n n 0 c158 { fr:=frame 64 [(3,V.mp 640),(11,V.d (D.sl mrkSh nm' ms)),(12,V.d (D.int .i64 (ms.length:Int))),(13,V.d (D.int .i64 0))],ob:=[(128,Obj.box [V.d (D.sl accSh na zas),V.d (D.sl mrkSh nm' ms)]),(640,AM.Obj.map Sh.str i4Sh [])] }):=by kernel_rfl
def s158(na nm':Bool)(zas ms:List D)(kv:List (D×D))(i:Int):St:= { fr:=frame 64 [(3,V.mp 640),(11,V.d (D.sl mrkSh nm' ms)),(12,V.d (D.int .i64 (ms.length:Int))),(13,V.d (D.int .i64 i))],ob:=[(128,.box [V.d (D.sl accSh na zas),V.d (D.sl mrkSh nm' ms)]),(640,AM.Obj.map Sh.str i4Sh kv)] }
theorem l158(m n j:Nat)(na nm':Bool)(zas ms:List D)(kv:List (D×D))(i:Int):Go.AM.Tree.eval (resume M3 (callN M3 (m+40)) n (j+1) 0 c158 (s158 na nm' zas ms kv i))=bif decide (i<(↑(List.length ms):Int)) then bif decide ((0:Int)≤i∧i<(↑(List.length ms):Int)) then bif fi (4:Nat) (List.getD ms (Int.toNat i) D.nilp) != (1:Int) then @Tree.eval (V×Obs) (resume M3 (callN M3 (m+(40:Nat))) n j (0:Nat) c158 { fr:=frame (64:Nat) [((3:Nat),V.mp (640:Nat)),((11:Nat),V.d (D.sl mrkSh nm' ms)),((12:Nat),V.d (D.int IntKind.i64 (↑(List.length ms):Int))),((13:Nat),V.d (D.int IntKind.i64 (IntKind.wrap IntKind.i64 (i+(1:Int)))))],ob:=[((128:Nat),Obj.box [V.d (D.sl accSh na zas),V.d (D.sl mrkSh nm' ms)]),((640:Nat),AM.Obj.map Sh.str i4Sh kv)] }) else @Tree.eval (V×Obs) (resume M3 (callN M3 (m+(40:Nat))) n j (0:Nat) c158 { fr:=frame (64:Nat) [((3:Nat),V.mp (640:Nat)),((11:Nat),V.d (D.sl mrkSh nm' ms)),((12:Nat),V.d (D.int IntKind.i64 (↑(List.length ms):Int))),((13:Nat),V.d (D.int IntKind.i64 (IntKind.wrap IntKind.i64 (i+(1:Int)))))],ob:=[((128:Nat),Obj.box [V.d (D.sl accSh na zas),V.d (D.sl mrkSh nm' ms)]),((640:Nat),AM.Obj.map Sh.str i4Sh (kvSet (D.str (fs (2:Nat) (List.getD ms (Int.toNat i) D.nilp))) (D.agg [D.int IntKind.i64 (IntKind.wrap IntKind.i64 (fi (0:Nat) (kvGet (D.str (fs (2:Nat) (List.getD ms (Int.toNat i) D.nilp))) (D.agg [D.int IntKind.i64 (0:Int),D.int IntKind.i64 (0:Int),D.int IntKind.i64 (0:Int),D.int IntKind.i64 (0:Int)]) kv)+if (0:Int) > dFree (fi (1:Nat) (List.getD ms (Int.toNat i) D.nilp)) (fi (3:Nat) (List.getD ms (Int.toNat i) D.nilp)) (fs (2:Nat) (List.getD ms (Int.toNat i) D.nilp)) then (0:Int) else dFree (fi (1:Nat) (List.getD ms (Int.toNat i) D.nilp)) (fi (3:Nat) (List.getD ms (Int.toNat i) D.nilp)) (fs (2:Nat) (List.getD ms (Int.toNat i) D.nilp)))),D.int IntKind.i64 (IntKind.wrap IntKind.i64 (fi (1:Nat) (kvGet (D.str (fs (2:Nat) (List.getD ms (Int.toNat i) D.nilp))) (D.agg [D.int IntKind.i64 (0:Int),D.int IntKind.i64 (0:Int),D.int IntKind.i64 (0:Int),D.int IntKind.i64 (0:Int)]) kv)+if (0:Int) > IntKind.wrap IntKind.i64 ((0:Int) - dFree (fi (1:Nat) (List.getD ms (Int.toNat i) D.nilp)) (fi (3:Nat) (List.getD ms (Int.toNat i) D.nilp)) (fs (2:Nat) (List.getD ms (Int.toNat i) D.nilp))) then (0:Int) else IntKind.wrap IntKind.i64 ((0:Int) - dFree (fi (1:Nat) (List.getD ms (Int.toNat i) D.nilp)) (fi (3:Nat) (List.getD ms (Int.toNat i) D.nilp)) (fs (2:Nat) (List.getD ms (Int.toNat i) D.nilp))))),D.int IntKind.i64 (IntKind.wrap IntKind.i64 (fi (2:Nat) (kvGet (D.str (fs (2:Nat) (List.getD ms (Int.toNat i) D.nilp))) (D.agg [D.int IntKind.i64 (0:Int),D.int IntKind.i64 (0:Int),D.int IntKind.i64 (0:Int),D.int IntKind.i64 (0:Int)]) kv)+if (0:Int) > dKept (fi (1:Nat) (List.getD ms (Int.toNat i) D.nilp)) (fi (3:Nat) (List.getD ms (Int.toNat i) D.nilp)) (fs (2:Nat) (List.getD ms (Int.toNat i) D.nilp)) then (0:Int) else dKept (fi (1:Nat) (List.getD ms (Int.toNat i) D.nilp)) (fi (3:Nat) (List.getD ms (Int.toNat i) D.nilp)) (fs (2:Nat) (List.getD ms (Int.toNat i) D.nilp)))),D.int IntKind.i64 (IntKind.wrap IntKind.i64 (fi (3:Nat) (kvGet (D.str (fs (2:Nat) (List.getD ms (Int.toNat i) D.nilp))) (D.agg [D.int IntKind.i64 (0:Int),D.int IntKind.i64 (0:Int),D.int IntKind.i64 (0:Int),D.int IntKind.i64 (0:Int)]) kv)+if (0:Int) > IntKind.wrap IntKind.i64 ((0:Int) - dKept (fi (1:Nat) (List.getD ms (Int.toNat i) D.nilp)) (fi (3:Nat) (List.getD ms (Int.toNat i) D.nilp)) (fs (2:Nat) (List.getD ms (Int.toNat i) D.nilp))) then (0:Int) else IntKind.wrap IntKind.i64 ((0:Int) - dKept (fi (1:Nat) (List.getD ms (Int.toNat i) D.nilp)) (fi (3:Nat) (List.getD ms (Int.toNat i) D.nilp)) (fs (2:Nat) (List.getD ms (Int.toNat i) D.nilp)))))]) kv))] }) else none else some (V.mp (640:Nat),[((128:Nat),Obj.box [V.d (D.sl accSh na zas),V.d (D.sl mrkSh nm' ms)]),((640:Nat),AM.Obj.map Sh.str i4Sh kv)]):=by kernel_rfl
theorem e114(m n:Nat)(na nm':Bool)(zas ms:List D):Tree.out (enterM M3 (callN M3 (m+40)) n c114 [.d (.agg [.sl accSh na zas,.sl mrkSh nm' ms])] [])=bif decide (12<(zas.length:Int)) then some [D.int .i64 2] else bif decide (500<(ms.length:Int)) then some [D.int .i64 2] else Tree.out (resume M3 (callN M3 (m+40)) n n 0 c114 { fr:=frame 108 [(1,V.ptr 128 0),(3,V.d (D.int .i64 0))],ob:=[(128,Obj.box [V.d (D.sl accSh na zas),V.d (D.sl mrkSh nm' ms)])] }):=by kernel_rfl
def s114a(na nm':Bool)(zas ms:List D)(i:Int):St:= { fr:=frame 108 [(1,V.ptr 128 0),(3,V.d (D.int .i64 i))],ob:=[(128,.box [V.d (D.sl accSh na zas),V.d (D.sl mrkSh nm' ms)])] }
theorem l114(m n j:Nat)(na nm':Bool)(zas ms:List D)(i:Int):Tree.out (resume M3 (callN M3 (m+40)) n (j+1) 0 c114 (s114a na nm' zas ms i))=bif decide (i<(ms.length:Int)) then bif decide (0≤i∧i<(ms.length:Int)) then bif !ledKey (fs 0 (ms.getD i.toNat .nilp)) then some [D.int .i64 2] else bif (bif actOk (fi 1 (ms.getD i.toNat .nilp)) (fi 3 (ms.getD i.toNat .nilp)) (fs 2 (ms.getD i.toNat .nilp)) then (0:Int) else (60:Int)) != 0 then some [D.int .i64 2] else bif decide (fi 4 (ms.getD i.toNat .nilp)<1) then some [D.int .i64 2] else bif decide (3<fi 4 (ms.getD i.toNat .nilp)) then some [D.int .i64 2] else bif decide (zas.length≤1000000) then bif decide (nameIdx (fs 2 (ms.getD i.toNat .nilp)) zas<0) then some [D.int .i64 2] else bif decide (0<i) then bif decide (0≤IntKind.wrap .i64 (i - 1)∧IntKind.wrap .i64 (i - 1)<(ms.length:Int)) then bif !Op.bytesLess (fs 0 (List.getD ms (Int.toNat (IntKind.wrap .i64 (i - 1))) D.nilp)) (fs 0 (ms.getD i.toNat .nilp)) then some [D.int .i64 2] else Tree.out (resume M3 (callN M3 (m+40)) n j 0 c114 { fr:=frame 108 [(1,V.ptr 128 0),(3,V.d (D.int .i64 (IntKind.wrap .i64 (i+1))))],ob:=[(128,Obj.box [V.d (D.sl accSh na zas),V.d (D.sl mrkSh nm' ms)])] }) else none else Tree.out (resume M3 (callN M3 (m+40)) n j 0 c114 { fr:=frame 108 [(1,V.ptr 128 0),(3,V.d (D.int .i64 (IntKind.wrap .i64 (i+1))))],ob:=[(128,Obj.box [V.d (D.sl accSh na zas),V.d (D.sl mrkSh nm' ms)])] }) else none else none else Tree.out (resume M3 (callN M3 (m+40)) n n 1 c114 { fr:=frame 108 [(1,V.ptr 128 0),(5,V.d (D.int .i64 0))],ob:=[(128,Obj.box [V.d (D.sl accSh na zas),V.d (D.sl mrkSh nm' ms)])] }):=by kernel_rfl
def s114b(na nm':Bool)(zas ms:List D)(i:Int):St:= { fr:=frame 108 [(1,V.ptr 128 0),(5,V.d (D.int .i64 i))],ob:=[(128,.box [V.d (D.sl accSh na zas),V.d (D.sl mrkSh nm' ms)])] }
theorem l114b(m n j:Nat)(na nm':Bool)(zas ms:List D)(i:Int):Tree.out (resume M3 (callN M3 (m+40)) n (j+1) 1 c114 (s114b na nm' zas ms i))=bif decide (i<(zas.length:Int)) then bif decide (0≤i∧i<(zas.length:Int)) then bif (bif accOk (fs 0 (zas.getD i.toNat .nilp)) (fi 1 (zas.getD i.toNat .nilp)) (fi 2 (zas.getD i.toNat .nilp)) (fi 3 (zas.getD i.toNat .nilp)) (fi 4 (zas.getD i.toNat .nilp)) (fi 5 (zas.getD i.toNat .nilp)) (fi 6 (zas.getD i.toNat .nilp)) then (0:Int) else (2:Int)) != 0 then some [D.int .i64 2] else bif decide (0<i) then bif decide (0≤IntKind.wrap .i64 (i - 1)∧IntKind.wrap .i64 (i - 1)<(zas.length:Int)) then bif !Op.bytesLess (fs 0 (List.getD zas (Int.toNat (IntKind.wrap .i64 (i - 1))) D.nilp)) (fs 0 (zas.getD i.toNat .nilp)) then some [D.int .i64 2] else bif decide (ms.length≤1000000) then bif !potsEq (refPots (fs 0 (zas.getD i.toNat .nilp)) ms) (fi 2 (zas.getD i.toNat .nilp)) (fi 3 (zas.getD i.toNat .nilp)) (fi 5 (zas.getD i.toNat .nilp)) (fi 6 (zas.getD i.toNat .nilp)) then some [D.int .i64 2] else Tree.out (resume M3 (callN M3 (m+40)) n j 1 c114 { fr:=frame 108 [(1,V.ptr 128 0),(5,V.d (D.int .i64 (IntKind.wrap .i64 (i+1))))],ob:=[(128,Obj.box [V.d (D.sl accSh na zas),V.d (D.sl mrkSh nm' ms)])] }) else none else none else bif decide (ms.length≤1000000) then bif !potsEq (refPots (fs 0 (zas.getD i.toNat .nilp)) ms) (fi 2 (zas.getD i.toNat .nilp)) (fi 3 (zas.getD i.toNat .nilp)) (fi 5 (zas.getD i.toNat .nilp)) (fi 6 (zas.getD i.toNat .nilp)) then some [D.int .i64 2] else Tree.out (resume M3 (callN M3 (m+40)) n j 1 c114 { fr:=frame 108 [(1,V.ptr 128 0),(5,V.d (D.int .i64 (IntKind.wrap .i64 (i+1))))],ob:=[(128,Obj.box [V.d (D.sl accSh na zas),V.d (D.sl mrkSh nm' ms)])] }) else none else none else some [D.int .i64 0]:=by kernel_rfl
def prevLess(es:List D)(i:Nat):Bool:=decide (i=0)||Op.bytesLess (fs 0 (es.getD (i - 1) .nilp)) (fs 0 (es.getD i .nilp))
theorem wrap_pred{i:Nat}(h:0<i)(hi:i≤1000000):IntKind.wrap .i64 ((i:Int) - 1)=((i - 1:Nat):Int):=by
 rw [wrap_i64 (by omega) (by omega)];omega
theorem ord_at{es:List D}{i:Nat}(hi:i<es.length)(hl:es.length≤1000000)(a b:Option (List D)):
  (bif decide (0<(i:Int)) then bif decide (0≤IntKind.wrap .i64 ((i:Int) - 1)∧IntKind.wrap .i64 ((i:Int) - 1)<(es.length:Int)) then bif !Op.bytesLess (fs 0 (es.getD (Int.toNat (IntKind.wrap .i64 ((i:Int) - 1))) .nilp)) (fs 0 (es.getD i .nilp)) then a else b else none else b)=bif prevLess es i then b else a:=by
 unfold prevLess
 by_cases h0:i=0
 ·subst h0
  refine (cf (decide_eq_false (by omega))).trans ?_
  rfl
 ·rw [decide_eq_false h0,wrap_pred (by omega) (by omega)]
  refine (ct (decide_eq_true (by omega))).trans ?_
  refine (ct (dec_ix (show i - 1<es.length by omega))).trans ?_
  rw [Int.toNat_natCast]
  cases Op.bytesLess (fs 0 (es.getD (i - 1) .nilp)) (fs 0 (es.getD i .nilp)) <;> rfl
def allN(p:Nat→Bool)(n:Nat):Bool:=scan (fun i=> !p i) (fun _=>false) true n 0
theorem allN_iff{p:Nat→Bool}{n:Nat}:allN p n=true↔ ∀i,i<n→p i=true:=by
 unfold allN
 rw [scan_all]
 exact ⟨fun h i hi=>h i (by omega) (by omega),fun h i _ hi=>h i (by omega)⟩
def mkOkAt(zas ms:List D)(i:Nat):Bool:=ledKey (fs 0 (ms.getD i .nilp))&&(actOk (fi 1 (ms.getD i .nilp)) (fi 3 (ms.getD i .nilp)) (fs 2 (ms.getD i .nilp))&&(!decide (fi 4 (ms.getD i .nilp)<1)&&(!decide (3<fi 4 (ms.getD i .nilp))&&
 (!decide (nameIdx (fs 2 (ms.getD i .nilp)) zas<0)&&prevLess ms i))))
def acOkAt(zas ms:List D)(i:Nat):Bool:=accOk (fs 0 (zas.getD i .nilp)) (fi 1 (zas.getD i .nilp)) (fi 2 (zas.getD i .nilp)) (fi 3 (zas.getD i .nilp)) (fi 4 (zas.getD i .nilp)) (fi 5 (zas.getD i .nilp)) (fi 6 (zas.getD i .nilp))&&(prevLess zas i&&
 potsEq (refPots (fs 0 (zas.getD i .nilp)) ms) (fi 2 (zas.getD i .nilp)) (fi 3 (zas.getD i .nilp)) (fi 5 (zas.getD i .nilp)) (fi 6 (zas.getD i .nilp)))
def ledOk(zas ms:List D):Bool:= !decide (12<(zas.length:Int))&&(!decide (500<(ms.length:Int))&&(allN (mkOkAt zas ms) ms.length&&allN (acOkAt zas ms) zas.length))
theorem scan_bool(p:Nat→Bool)(x y:Int)(n:Nat):scan (fun i=> !p i) (fun _=>[D.int .i64 x]) [D.int .i64 y] n 0=[D.int .i64 (bif allN p n then y else x)]:=by
 unfold allN
 have: ∀k i,scan (fun i=> !p i) (fun _=>[D.int .i64 x]) [D.int .i64 y] k i=[D.int .i64 (bif scan (fun i=> !p i) (fun _=>false) true k i then y else x)]:=by
  intro k
  induction k with
  | zero=>intro i;rfl
  | succ k ih=>
   intro i
   simp only [scan]
   cases p i
   ·rfl
   ·exact ih (i+1)
 exact this n 0
theorem loop114b(m n:Nat)(na nm':Bool)(zas ms:List D)(hl:zas.length≤1000000)(hm:ms.length≤1000000)(hn:zas.length<n):(resume M3 (callN M3 (m+40)) n n 1 c114 (s114b na nm' zas ms 0)).out=some [.int .i64 (bif allN (acOkAt zas ms) zas.length then 0 else 2)]:=by
 have:=scan_loop (fun j i=>(resume M3 (callN M3 (m+40)) n j 1 c114 (s114b na nm' zas ms (i:Nat))).out) zas.length (fun i=> !acOkAt zas ms i) (fun _=>[D.int .i64 2]) [.int .i64 0]
  (fun j i hi=> ?_) (fun j=> ?_) zas.length 0 n (by omega) (by omega)
 ·refine this.trans ?_
  rw [scan_bool]
 ·rw [l114b]
  simp only [Int.toNat_natCast,wrap_up hi hl]
  refine (ct (dec_lt hi)).trans ((ct (dec_ix hi)).trans ?_)
  rw [decide_eq_true hm,ord_at hi hl]
  unfold acOkAt
  cases accOk (fs 0 (zas.getD i .nilp)) (fi 1 (zas.getD i .nilp)) (fi 2 (zas.getD i .nilp)) (fi 3 (zas.getD i .nilp)) (fi 4 (zas.getD i .nilp)) (fi 5 (zas.getD i .nilp)) (fi 6 (zas.getD i .nilp))
  ·rfl
  ·cases prevLess zas i
   ·rfl
   ·cases potsEq (refPots (fs 0 (zas.getD i .nilp)) ms) (fi 2 (zas.getD i .nilp)) (fi 3 (zas.getD i .nilp)) (fi 5 (zas.getD i .nilp)) (fi 6 (zas.getD i .nilp)) <;> rfl
 ·rw [l114b]
  exact cf (dec_end _)
theorem run114(m n:Nat)(na nm':Bool)(zas ms:List D)(hn:600≤n):(enterM M3 (callN M3 (m+40)) n c114 [.d (.agg [.sl accSh na zas,.sl mrkSh nm' ms])] []).out=some [.int .i64 (bif ledOk zas ms then 0 else 2)]:=by
 rw [e114]
 unfold ledOk
 by_cases h1:12<(zas.length:Int)
 ·rw [decide_eq_true h1];rfl
 ·rw [decide_eq_false h1]
  refine (cf rfl).trans ?_
  by_cases h2:500<(ms.length:Int)
  ·rw [decide_eq_true h2];rfl
  ·rw [decide_eq_false h2]
   refine (cf rfl).trans ?_
   have hb:=loop114b m n na nm' zas ms (by omega) (by omega) (by omega)
   have:=scan_loop (fun j i=>(resume M3 (callN M3 (m+40)) n j 0 c114 (s114a na nm' zas ms (i:Nat))).out) ms.length (fun i=> !mkOkAt zas ms i) (fun _=>[D.int .i64 2]) [.int .i64 (bif allN (acOkAt zas ms) zas.length then 0 else 2)]
    (fun j i hi=> ?_) (fun j=> ?_) ms.length 0 n (by omega) (by omega)
   ·refine this.trans ?_
    rw [scan_bool]
    cases allN (mkOkAt zas ms) ms.length <;> cases allN (acOkAt zas ms) zas.length <;> rfl
   ·rw [l114]
    simp only [Int.toNat_natCast,wrap_up hi (show ms.length≤1000000 by omega)]
    refine (ct (dec_lt hi)).trans ((ct (dec_ix hi)).trans ?_)
    rw [decide_eq_true (show zas.length≤1000000 by omega),ord_at hi (show ms.length≤1000000 by omega)]
    unfold mkOkAt
    cases ledKey (fs 0 (ms.getD i .nilp))
    ·rfl
    ·cases actOk (fi 1 (ms.getD i .nilp)) (fi 3 (ms.getD i .nilp)) (fs 2 (ms.getD i .nilp))
     ·rfl
     ·cases decide (fi 4 (ms.getD i .nilp)<1)
      ·cases decide (3<fi 4 (ms.getD i .nilp))
       ·cases decide (nameIdx (fs 2 (ms.getD i .nilp)) zas<0)
        ·cases prevLess ms i <;> rfl
        ·rfl
       ·rfl
      ·rfl
   ·rw [l114]
    exact (cf (dec_end _)).trans hb
theorem run155(m n:Nat)(na nm':Bool)(zas ms:List D)(s:List UInt8)(hl:zas.length≤1000000):(enterM M3 (callN M3 (m+40)) n c155 [.d (.agg [.sl accSh na zas,.sl mrkSh nm' ms]),.d (.str s)] []).out=some [.int .i64 (plc s zas:Nat),.bool (there s zas)]:=by
 rw [e155]
 exact ct (decide_eq_true hl)
theorem less_irr: ∀a:List UInt8,Op.bytesLess a a=false
 | []=>rfl
 | x :: a=>by
  simp only [Op.bytesLess,less_irr a]
  simp
theorem less_trans: ∀{a b c:List UInt8},Op.bytesLess a b=true→Op.bytesLess b c=true→Op.bytesLess a c=true
 | [],[],_,h,_=>by simp [Op.bytesLess] at h
 | [],_ :: _,[],_,h=>by simp [Op.bytesLess] at h
 | [],_ :: _,_ :: _,_,_=>by simp [Op.bytesLess]
 | _ :: _,[],_,h,_=>by simp [Op.bytesLess] at h
 | _ :: _,_ :: _,[],_,h=>by simp [Op.bytesLess] at h
 | x :: a,y :: b,z :: c,h1,h2=>by
  simp only [Op.bytesLess,Bool.or_eq_true,Bool.and_eq_true,decide_eq_true_eq,beq_iff_eq] at h1 h2 ⊢
  rcases h1 with h1 | ⟨rfl,h1⟩
  ·rcases h2 with h2 | ⟨rfl,h2⟩
   ·exact .inl (UInt8.lt_trans h1 h2)
   ·exact .inl h1
  ·rcases h2 with h2 | ⟨rfl,h2⟩
   ·exact .inl h2
   ·exact .inr ⟨rfl,less_trans h1 h2⟩
theorem cmp_neg{a b:List UInt8}:cmpB a b<0↔Op.bytesLess a b=true:=by
 unfold cmpB
 by_cases h:a=b
 ·subst h
  rw [beq_self_eq_true,less_irr];simp
 ·rw [beq_eq_false_iff_ne.2 h]
  cases Op.bytesLess a b <;> simp
theorem cmp_zero{a b:List UInt8}:(cmpB a b==0)=(a==b):=by
 unfold cmpB
 cases (a==b)
 ·cases Op.bytesLess a b <;> rfl
 ·rfl
def Rising(es:List D):Prop:= ∀i,i<es.length→prevLess es i=true
theorem rising_lt{es:List D}(h:Rising es): ∀{d a:Nat},a+d+1<es.length→Op.bytesLess (fs 0 (es.getD a .nilp)) (fs 0 (es.getD (a+d+1) .nilp))=true
 | 0,a,hd=>by
  have:=h (a+1) hd
  unfold prevLess at this
  rw [decide_eq_false (by omega)] at this
  simpa using this
 | d+1,a,hd=>by
  have h1:=rising_lt h (d:=d) (a:=a) (by omega)
  have h2:=h (a+(d+1)+1) hd
  unfold prevLess at h2
  rw [decide_eq_false (by omega),Bool.false_or] at h2
  exact less_trans h1 h2
theorem rising_mono{es:List D}(h:Rising es)(s:List UInt8)(a b:Nat)(hab:a≤b)(hb:b<es.length)(hp:lessAt s es b=true):lessAt s es a=true:=by
 unfold lessAt at hp ⊢
 rw [decide_eq_true_eq,cmp_neg] at hp ⊢
 by_cases he:a=b
 ·rw [he];exact hp
 ·have:=rising_lt h (d:=b - a - 1) (a:=a) (by omega)
  rw [show a+(b - a - 1)+1=b by omega] at this
  exact less_trans this hp
theorem there_iff{es:List D}(h:Rising es)(s:List UInt8):there s es=true↔ ∃i,i<es.length∧fs 0 (es.getD i .nilp)=s:=by
 obtain ⟨h1,h2,h3⟩:=bsF_spec (lessAt s es) es.length (rising_mono h s) es.length 0 es.length (by omega) (by omega) (by omega) (fun k hk=>by omega) (fun k h1 h2=>by omega)
 unfold there
 constructor
 ·intro ht
  by_cases hlt:plc s es<es.length
  ·rw [dec_lt hlt,cond_true,cmp_zero,beq_iff_eq] at ht
   exact ⟨_,hlt,ht⟩
  ·rw [decide_eq_false (by omega)] at ht;cases ht
 ·rintro ⟨i,hi,rfl⟩
  have hle:plc (fs 0 (es.getD i .nilp)) es≤i:=by
   by_cases hc:i<plc (fs 0 (es.getD i .nilp)) es
   ·have:=h2 i hc
    unfold lessAt at this
    rw [decide_eq_true_eq,cmp_neg,less_irr] at this;cases this
   ·omega
  have hlt:plc (fs 0 (es.getD i .nilp)) es<es.length:=by omega
  rw [dec_lt hlt,cond_true,cmp_zero,beq_iff_eq]
  by_cases he:plc (fs 0 (es.getD i .nilp)) es=i
  ·rw [he]
  ·have hp:=h3 _ (Nat.le_refl _) hlt
   unfold lessAt at hp
   rw [decide_eq_false_iff_not,cmp_neg] at hp
   have:=rising_lt h (d:=i - plc (fs 0 (es.getD i .nilp)) es - 1) (a:=plc (fs 0 (es.getD i .nilp)) es) (by omega)
   rw [show plc (fs 0 (es.getD i .nilp)) es+(i - plc (fs 0 (es.getD i .nilp)) es - 1)+1=i by omega] at this
   exact absurd this hp
theorem idx_iff{es:List D}{s:List UInt8}:0≤nameIdx s es↔ ∃i,i<es.length∧fs 0 (es.getD i .nilp)=s:=by
 have:=idxOf_nonneg (fun x=>fs 0 x==s) es
 unfold nameIdx
 rw [←decide_eq_true_eq (p:=0≤idxOf _ es),this,any_iff]
 simp only [beq_iff_eq]
theorem there_idx{es:List D}(h:Rising es)(s:List UInt8):there s es= !decide (nameIdx s es<0):=by
 rw [Bool.eq_iff_iff,there_iff h,←idx_iff]
 simp
def g155:List D→Tree (List D)
 | [.agg [.sl ea _ zas,.sl em _ _],.str s]=>match Sh.beq ea accSh&&Sh.beq em mrkSh with
  | true=> .ite (decide (zas.length≤1000000)) (fun _=> .ret [.int .i64 (plc s zas:Nat),.bool (there s zas)]) (fun _=> .stuck)
  | false=> .stuck
 | _=> .stuck
def pendStep(kv:List (D×D))(x:D):List (D×D):=
 bif fi 4 x != 1 then kv else kvSet (.str (fs 2 x)) (.agg [.int .i64 (IntKind.wrap .i64 (fi 0 (kvGet (.str (fs 2 x)) z4 kv)+if 0 > dFree (fi 1 x) (fi 3 x) (fs 2 x) then 0 else dFree (fi 1 x) (fi 3 x) (fs 2 x))),
  .int .i64 (IntKind.wrap .i64 (fi 1 (kvGet (.str (fs 2 x)) z4 kv)+if 0 > IntKind.wrap .i64 (0 - dFree (fi 1 x) (fi 3 x) (fs 2 x)) then 0 else IntKind.wrap .i64 (0 - dFree (fi 1 x) (fi 3 x) (fs 2 x)))),
  .int .i64 (IntKind.wrap .i64 (fi 2 (kvGet (.str (fs 2 x)) z4 kv)+if 0 > dKept (fi 1 x) (fi 3 x) (fs 2 x) then 0 else dKept (fi 1 x) (fi 3 x) (fs 2 x))),
  .int .i64 (IntKind.wrap .i64 (fi 3 (kvGet (.str (fs 2 x)) z4 kv)+if 0 > IntKind.wrap .i64 (0 - dKept (fi 1 x) (fi 3 x) (fs 2 x)) then 0 else IntKind.wrap .i64 (0 - dKept (fi 1 x) (fi 3 x) (fs 2 x))))]) kv
def pendKV(ms:List D):List (D×D):=ms.foldl pendStep []
def C158(args:List V)(ob:Obs):Tree (V×Obs):=
 match args,ob with
 | [.d (.agg [.sl ea na zas,.sl em nm ms])],[]=>match Sh.beq ea accSh&&Sh.beq em mrkSh with
  | true=> .ite (decide (ms.length≤1000000)) (fun _=> .ret (.mp 640,[(128,.box [V.d (D.sl accSh na zas),V.d (D.sl mrkSh nm ms)]),(640,AM.Obj.map Sh.str i4Sh (pendKV ms))])) (fun _=> .stuck)
  | false=> .stuck
 | _,_=> .stuck
def M6:Env:=(M3.pureAt 155 true g155).genAt 158 C158
theorem x101(m n:Nat)(na nm':Bool)(zas ms:List D):Tree.out (enterM M6 (callN M6 (m+40)) n c101 [.d (.agg [.sl accSh na zas,.sl mrkSh nm' ms])] [])=bif decide (12<(zas.length:Int)) then some [D.int .i64 2] else bif decide (500<(ms.length:Int)) then some [D.int .i64 2] else Tree.out (resume M6 (callN M6 (m+40)) n n 0 c101 { fr:=frame 137 [(1,V.ptr 128 0),(24,V.d (D.sl accSh na zas)),(25,V.d (D.int .i64 (zas.length:Int))),(26,V.d (D.int .i64 0))],ob:=[(128,Obj.box [V.d (D.sl accSh na zas),V.d (D.sl mrkSh nm' ms)])] }):=by kernel_rfl
def v101(na nm':Bool)(zas ms:List D)(i:Int):St:= { fr:=frame 137 [(1,V.ptr 128 0),(24,V.d (D.sl accSh na zas)),(25,V.d (D.int .i64 (zas.length:Int))),(26,V.d (D.int .i64 i))],ob:=[(128,.box [V.d (D.sl accSh na zas),V.d (D.sl mrkSh nm' ms)])] }
theorem y101(m n j:Nat)(na nm':Bool)(zas ms:List D)(i:Int):Tree.out (resume M6 (callN M6 (m+40)) n (j+1) 0 c101 (v101 na nm' zas ms i))=bif decide (i<(zas.length:Int)) then bif decide (0≤i∧i<(zas.length:Int)) then bif (bif accOk (fs 0 (zas.getD i.toNat .nilp)) (fi 1 (zas.getD i.toNat .nilp)) (fi 2 (zas.getD i.toNat .nilp)) (fi 3 (zas.getD i.toNat .nilp)) (fi 4 (zas.getD i.toNat .nilp)) (fi 5 (zas.getD i.toNat .nilp)) (fi 6 (zas.getD i.toNat .nilp)) then (0:Int) else (2:Int)) != 0 then some [D.int .i64 2] else bif decide (0<i) then bif decide (0≤IntKind.wrap .i64 (i - 1)∧IntKind.wrap .i64 (i - 1)<(zas.length:Int)) then bif !Op.bytesLess (fs 0 (List.getD zas (Int.toNat (IntKind.wrap .i64 (i - 1))) D.nilp)) (fs 0 (zas.getD i.toNat .nilp)) then some [D.int .i64 2] else Tree.out (resume M6 (callN M6 (m+40)) n j 0 c101 (v101 na nm' zas ms (IntKind.wrap .i64 (i+1)))) else none else Tree.out (resume M6 (callN M6 (m+40)) n j 0 c101 (v101 na nm' zas ms (IntKind.wrap .i64 (i+1)))) else none else Tree.out (resume M6 (callN M6 (m+40)) n n 1 c101 { fr:=frame 137 [(1,V.ptr 128 0),(5,V.fn 155 [V.d (D.agg [D.sl accSh na zas,D.sl mrkSh nm' ms])] []),(55,V.d (D.sl mrkSh nm' ms)),(56,V.d (D.int .i64 (ms.length:Int))),(57,V.d (D.int .i64 0))],ob:=[(128,Obj.box [V.d (D.sl accSh na zas),V.d (D.sl mrkSh nm' ms)])] }):=by kernel_rfl
def v101b(na nm':Bool)(zas ms:List D)(i:Int):St:= { fr:=frame 137 [(1,V.ptr 128 0),(5,V.fn 155 [V.d (D.agg [D.sl accSh na zas,D.sl mrkSh nm' ms])] []),(55,V.d (D.sl mrkSh nm' ms)),(56,V.d (D.int .i64 (ms.length:Int))),(57,V.d (D.int .i64 i))],ob:=[(128,.box [V.d (D.sl accSh na zas),V.d (D.sl mrkSh nm' ms)])] }
theorem y101b(m n j:Nat)(na nm':Bool)(zas ms:List D)(i:Int):Tree.out (resume M6 (callN M6 (m+40)) n (j+1) 1 c101 (v101b na nm' zas ms i))=bif decide (i<(ms.length:Int)) then bif decide (0≤i∧i<(ms.length:Int)) then bif !ledKey (fs 0 (ms.getD i.toNat .nilp)) then some [D.int .i64 2] else bif decide (0<i) then bif decide (0≤IntKind.wrap .i64 (i - 1)∧IntKind.wrap .i64 (i - 1)<(ms.length:Int)) then bif !Op.bytesLess (fs 0 (List.getD ms (Int.toNat (IntKind.wrap .i64 (i - 1))) D.nilp)) (fs 0 (ms.getD i.toNat .nilp)) then some [D.int .i64 2] else bif (bif actOk (fi 1 (ms.getD i.toNat .nilp)) (fi 3 (ms.getD i.toNat .nilp)) (fs 2 (ms.getD i.toNat .nilp)) then (0:Int) else (60:Int)) != 0 then some [D.int .i64 2] else bif decide (fi 4 (ms.getD i.toNat .nilp)<1) then some [D.int .i64 2] else bif decide (3<fi 4 (ms.getD i.toNat .nilp)) then some [D.int .i64 2] else bif decide (zas.length≤1000000) then bif !there (fs 2 (ms.getD i.toNat .nilp)) zas then some [D.int .i64 2] else Tree.out (resume M6 (callN M6 (m+40)) n j 1 c101 (v101b na nm' zas ms (IntKind.wrap .i64 (i+1)))) else none else none else bif (bif actOk (fi 1 (ms.getD i.toNat .nilp)) (fi 3 (ms.getD i.toNat .nilp)) (fs 2 (ms.getD i.toNat .nilp)) then (0:Int) else (60:Int)) != 0 then some [D.int .i64 2] else bif decide (fi 4 (ms.getD i.toNat .nilp)<1) then some [D.int .i64 2] else bif decide (3<fi 4 (ms.getD i.toNat .nilp)) then some [D.int .i64 2] else bif decide (zas.length≤1000000) then bif !there (fs 2 (ms.getD i.toNat .nilp)) zas then some [D.int .i64 2] else Tree.out (resume M6 (callN M6 (m+40)) n j 1 c101 (v101b na nm' zas ms (IntKind.wrap .i64 (i+1)))) else none else none else bif decide (ms.length≤1000000) then Tree.out (resume M6 (callN M6 (m+40)) n n 2 c101 { fr:=frame 137 [(10,V.mp 7104),(112,V.d (D.sl accSh na zas)),(113,V.d (D.int .i64 (zas.length:Int))),(114,V.d (D.int .i64 0))],ob:=[(128,Obj.box [V.d (D.sl accSh na zas),V.d (D.sl mrkSh nm' ms)]),(7104,AM.Obj.map Sh.str i4Sh (pendKV ms))] }) else none:=by kernel_rfl
def v101c(na nm':Bool)(zas ms:List D)(kv:List (D×D))(i:Int):St:= { fr:=frame 137 [(10,V.mp 7104),(112,V.d (D.sl accSh na zas)),(113,V.d (D.int .i64 (zas.length:Int))),(114,V.d (D.int .i64 i))],ob:=[(128,.box [V.d (D.sl accSh na zas),V.d (D.sl mrkSh nm' ms)]),(7104,AM.Obj.map Sh.str i4Sh kv)] }
theorem y101c(m n j:Nat)(na nm':Bool)(zas ms:List D)(kv:List (D×D))(i:Int):Go.AM.Tree.out (resume M6 (callN M6 (m+40)) n (j+1) 2 c101 (v101c na nm' zas ms kv i))=bif decide (i<(↑(List.length zas):Int)) then bif decide ((0:Int)≤i∧i<(↑(List.length zas):Int)) then bif !(fi (0:Nat) (kvGet (D.str (fs (0:Nat) (List.getD zas (Int.toNat i) D.nilp))) (D.agg [D.int IntKind.i64 (0:Int),D.int IntKind.i64 (0:Int),D.int IntKind.i64 (0:Int),D.int IntKind.i64 (0:Int)]) kv)==fi (2:Nat) (List.getD zas (Int.toNat i) D.nilp)&&(fi (1:Nat) (kvGet (D.str (fs (0:Nat) (List.getD zas (Int.toNat i) D.nilp))) (D.agg [D.int IntKind.i64 (0:Int),D.int IntKind.i64 (0:Int),D.int IntKind.i64 (0:Int),D.int IntKind.i64 (0:Int)]) kv)==fi (3:Nat) (List.getD zas (Int.toNat i) D.nilp)&&(fi (2:Nat) (kvGet (D.str (fs (0:Nat) (List.getD zas (Int.toNat i) D.nilp))) (D.agg [D.int IntKind.i64 (0:Int),D.int IntKind.i64 (0:Int),D.int IntKind.i64 (0:Int),D.int IntKind.i64 (0:Int)]) kv)==fi (5:Nat) (List.getD zas (Int.toNat i) D.nilp)&&(fi (3:Nat) (kvGet (D.str (fs (0:Nat) (List.getD zas (Int.toNat i) D.nilp))) (D.agg [D.int IntKind.i64 (0:Int),D.int IntKind.i64 (0:Int),D.int IntKind.i64 (0:Int),D.int IntKind.i64 (0:Int)]) kv)==fi (6:Nat) (List.getD zas (Int.toNat i) D.nilp)&&true)))) then some [D.int IntKind.i64 (2:Int)] else Tree.out (resume M6 (callN M6 (m+(40:Nat))) n j (2:Nat) c101 { fr:=frame (137:Nat) [((10:Nat),V.mp (7104:Nat)),((112:Nat),V.d (D.sl accSh na zas)),((113:Nat),V.d (D.int IntKind.i64 (↑(List.length zas):Int))),((114:Nat),V.d (D.int IntKind.i64 (IntKind.wrap IntKind.i64 (i+(1:Int)))))],ob:=[((128:Nat),Obj.box [V.d (D.sl accSh na zas),V.d (D.sl mrkSh nm' ms)]),((7104:Nat),AM.Obj.map Sh.str i4Sh kv)] }) else none else some [D.int IntKind.i64 (0:Int)]:=by kernel_rfl
theorem kv_get(s t:List UInt8)(z v:D): ∀kv:List (D×D),kvGet (.str s) z (kvSet (.str t) v kv)=bif s==t then v else kvGet (.str s) z kv
 | []=>by
  simp only [kvSet,kvGet,keyEq]
 | (j,u) :: l=>by
  simp only [kvSet]
  cases h:keyEq (.str t) j
  ·simp only [cond_false,kvGet,kv_get s t z v l]
   cases h2:keyEq (.str s) j
   ·rfl
   ·cases h3:(s==t)
    ·rfl
    ·rw [beq_iff_eq.1 h3] at h2
     rw [h] at h2;cases h2
  ·simp only [cond_true,kvGet]
   cases h3:(s==t)
   ·cases h2:keyEq (.str s) j
    ·rfl
    ·exfalso
     cases j <;> simp only [keyEq] at h h2 <;> first | cases h | skip
     rw [beq_iff_eq] at h h2
     rw [h,h2] at h3
     simp at h3
   ·rw [beq_iff_eq.1 h3,h];rfl
def q4(kv:List (D×D))(s:List UInt8):P4:=⟨fi 0 (kvGet (.str s) z4 kv),fi 1 (kvGet (.str s) z4 kv),fi 2 (kvGet (.str s) z4 kv),fi 3 (kvGet (.str s) z4 kv)⟩
def mx0(x:Int):Int:=if 0 > x then 0 else x
def pend(s:List UInt8)(p:P4)(x:D):P4:=
 bif fi 4 x != 1 then p else bif s==fs 2 x then ⟨wad p.a (mx0 (dFree (fi 1 x) (fi 3 x) (fs 2 x))),wad p.b (mx0 (IntKind.wrap .i64 (0 - dFree (fi 1 x) (fi 3 x) (fs 2 x)))),wad p.c (mx0 (dKept (fi 1 x) (fi 3 x) (fs 2 x))),wad p.d (mx0 (IntKind.wrap .i64 (0 - dKept (fi 1 x) (fi 3 x) (fs 2 x))))⟩ else p
theorem q4_step(kv:List (D×D))(x:D)(s:List UInt8):q4 (pendStep kv x) s=pend s (q4 kv s) x:=by
 unfold pendStep pend
 cases (fi 4 x != 1)
 ·simp only [cond_false]
  unfold q4
  rw [kv_get]
  cases h:(s==fs 2 x)
  ·rfl
  ·rw [beq_iff_eq.1 h];rfl
 ·rfl
theorem q4_all(s:List UInt8): ∀(ms:List D) (kv:List (D×D)),q4 (ms.foldl pendStep kv) s=ms.foldl (pend s) (q4 kv s)
 | [],_=>rfl
 | x :: ms,kv=>by
  rw [List.foldl_cons,List.foldl_cons,q4_all s ms,q4_step]
def Small(p:P4)(c:Int):Prop:=(0≤p.a∧p.a≤c)∧(0≤p.b∧p.b≤c)∧(0≤p.c∧p.c≤c)∧(0≤p.d∧p.d≤c)
theorem pend_step{s:List UInt8}{p:P4}{x:D}{c:Int}(hx:actOk (fi 1 x) (fi 3 x) (fs 2 x)=true)(hp:Small p c)(hc:c≤1000000000000000000):
  pend s p x=refStep s p x∧Small (refStep s p x) (c+1000000000000000):=by
 obtain ⟨⟨a0,a1⟩,⟨b0,b1⟩,⟨c0,c1⟩,d0,d1⟩:=hp
 have same:Small p (c+1000000000000000):=⟨⟨a0,by omega⟩,⟨b0,by omega⟩,⟨c0,by omega⟩,d0,by omega⟩
 obtain ⟨h1,h2,-,h4,h5⟩:=actOk_iff.1 hx
 unfold pend refStep
 cases hs:(fi 4 x != 1)
 ·cases he:(s==fs 2 x)
  ·have he':(fs 2 x==s)=false:=by
    rw [beq_eq_false_iff_ne] at he ⊢
    exact fun h=>he h.symm
   rw [he']
   exact ⟨rfl,same⟩
  ·have he':(fs 2 x==s)=true:=by
    rw [beq_iff_eq] at he ⊢
    exact he.symm
   rw [he']
   simp only [Bool.not_true,cond_false,cond_true]
   have hw: ∀y:Int,0≤y→y≤c→wad y 0=y:=fun y y0 y1=>by unfold wad;rw [Int.add_zero,wrap_in (by omega) (by omega)]
   have hv: ∀y:Int,0≤y→y≤c→wad y (fi 3 x)=y+fi 3 x:=fun y y0 y1=>by unfold wad;rw [wrap_in (by omega) (by omega)]
   unfold dFree dKept
   rw [hx]
   simp only [cond_true]
   have m1:mx0 (0 - fi 3 x)=0:=by unfold mx0;rw [if_pos (by omega)]
   have m2:mx0 (fi 3 x)=fi 3 x:=by unfold mx0;rw [if_neg (by omega)]
   have m3:IntKind.wrap .i64 (0 - (0 - fi 3 x))=fi 3 x:=by rw [wrap_in (by omega) (by omega)];omega
   have m4:IntKind.wrap .i64 (0 - fi 3 x)=0 - fi 3 x:=wrap_in (by omega) (by omega)
   have m5:mx0 (IntKind.wrap .i64 (0 - 0))=0:=by decide
   have m6:mx0 0=0:=by decide
   have hk:fi 1 x=1∨fi 1 x=2∨fi 1 x=3∨fi 1 x=4:=by omega
   rcases hk with hk | hk | hk | hk
   ·rw [hk]
    show (⟨wad p.a (mx0 (0 - fi 3 x)),wad p.b (mx0 (IntKind.wrap .i64 (0 - (0 - fi 3 x)))),wad p.c (mx0 0),wad p.d (mx0 (IntKind.wrap .i64 (0 - 0)))⟩:P4)=⟨p.a,wad p.b (fi 3 x),p.c,p.d⟩∧Small ⟨p.a,wad p.b (fi 3 x),p.c,p.d⟩ _
    rw [m1,m3,m2,m5,m6,hw _ a0 a1,hw _ c0 c1,hw _ d0 d1,hv _ b0 b1]
    exact ⟨rfl,⟨a0,by show p.a≤_;omega⟩,⟨by show 0≤p.b+_;omega,by show p.b+_≤_;omega⟩,⟨c0,by show p.c≤_;omega⟩,d0,by show p.d≤_;omega⟩
   ·rw [hk]
    show (⟨wad p.a (mx0 (fi 3 x)),wad p.b (mx0 (IntKind.wrap .i64 (0 - fi 3 x))),wad p.c (mx0 0),wad p.d (mx0 (IntKind.wrap .i64 (0 - 0)))⟩:P4)=⟨wad p.a (fi 3 x),p.b,p.c,p.d⟩∧Small ⟨wad p.a (fi 3 x),p.b,p.c,p.d⟩ _
    rw [m2,m4,m1,m5,m6,hw _ b0 b1,hw _ c0 c1,hw _ d0 d1,hv _ a0 a1]
    exact ⟨rfl,⟨by show 0≤p.a+_;omega,by show p.a+_≤_;omega⟩,⟨b0,by show p.b≤_;omega⟩,⟨c0,by show p.c≤_;omega⟩,d0,by show p.d≤_;omega⟩
   ·rw [hk]
    show (⟨wad p.a (mx0 (0 - fi 3 x)),wad p.b (mx0 (IntKind.wrap .i64 (0 - (0 - fi 3 x)))),wad p.c (mx0 (fi 3 x)),wad p.d (mx0 (IntKind.wrap .i64 (0 - fi 3 x)))⟩:P4)=⟨p.a,wad p.b (fi 3 x),wad p.c (fi 3 x),p.d⟩∧Small ⟨p.a,wad p.b (fi 3 x),wad p.c (fi 3 x),p.d⟩ _
    rw [m3,m4,m1,m2,hw _ a0 a1,hw _ d0 d1,hv _ b0 b1,hv _ c0 c1]
    exact ⟨rfl,⟨a0,by show p.a≤_;omega⟩,⟨by show 0≤p.b+_;omega,by show p.b+_≤_;omega⟩,⟨by show 0≤p.c+_;omega,by show p.c+_≤_;omega⟩,d0,by show p.d≤_;omega⟩
   ·rw [hk]
    show (⟨wad p.a (mx0 (fi 3 x)),wad p.b (mx0 (IntKind.wrap .i64 (0 - fi 3 x))),wad p.c (mx0 (0 - fi 3 x)),wad p.d (mx0 (IntKind.wrap .i64 (0 - (0 - fi 3 x))))⟩:P4)=⟨wad p.a (fi 3 x),p.b,p.c,wad p.d (fi 3 x)⟩∧Small ⟨wad p.a (fi 3 x),p.b,p.c,wad p.d (fi 3 x)⟩ _
    rw [m3,m4,m1,m2,hw _ b0 b1,hw _ c0 c1,hv _ a0 a1,hv _ d0 d1]
    exact ⟨rfl,⟨by show 0≤p.a+_;omega,by show p.a+_≤_;omega⟩,⟨b0,by show p.b≤_;omega⟩,⟨c0,by show p.c≤_;omega⟩,by show 0≤p.d+_;omega,by show p.d+_≤_;omega⟩
 ·cases (fs 2 x==s)
  ·exact ⟨rfl,same⟩
  ·exact ⟨rfl,same⟩
theorem pend_all{s:List UInt8}: ∀(ms:List D) (p:P4) (c:Int),(∀x∈ms,actOk (fi 1 x) (fi 3 x) (fs 2 x)=true)→Small p c→c+1000000000000000*(ms.length:Int)≤1000000000000000000→0≤c→ms.foldl (pend s) p=ms.foldl (refStep s) p
 | [],_,_,_,_,_,_=>rfl
 | x :: ms,p,c,hx,hp,hc,h0=>by
  rw [List.length_cons] at hc
  obtain ⟨h1,h2⟩:=pend_step (s:=s) (hx x (by simp)) hp (by omega)
  rw [List.foldl_cons,List.foldl_cons,h1]
  exact pend_all ms _ _ (fun y hy=>hx y (by simp [hy])) h2 (by omega) (by omega)
theorem pend_ref{s:List UInt8}{ms:List D}(hx: ∀i,i<ms.length→actOk (fi 1 (ms.getD i .nilp)) (fi 3 (ms.getD i .nilp)) (fs 2 (ms.getD i .nilp))=true)(hl:ms.length≤500):q4 (pendKV ms) s=refPots s ms:=by
 unfold pendKV refPots
 rw [q4_all,show q4 [] s=⟨0,0,0,0⟩ from rfl]
 refine pend_all ms _ 0 (fun x hm=> ?_) ⟨⟨by decide,by decide⟩,⟨by decide,by decide⟩,⟨by decide,by decide⟩,by decide,by decide⟩ (by omega) (by omega)
 obtain ⟨i,hi,rfl⟩:=mem_getD hm
 exact hx i hi
def accA(zas:List D)(i:Nat):Bool:=accOk (fs 0 (zas.getD i .nilp)) (fi 1 (zas.getD i .nilp)) (fi 2 (zas.getD i .nilp)) (fi 3 (zas.getD i .nilp)) (fi 4 (zas.getD i .nilp)) (fi 5 (zas.getD i .nilp)) (fi 6 (zas.getD i .nilp))&&prevLess zas i
def mkB(zas ms:List D)(i:Nat):Bool:=ledKey (fs 0 (ms.getD i .nilp))&&(prevLess ms i&&(actOk (fi 1 (ms.getD i .nilp)) (fi 3 (ms.getD i .nilp)) (fs 2 (ms.getD i .nilp))&&(!decide (fi 4 (ms.getD i .nilp)<1)&&(!decide (3<fi 4 (ms.getD i .nilp))&&there (fs 2 (ms.getD i .nilp)) zas))))
def potC(zas ms:List D)(i:Nat):Bool:=potsEq (q4 (pendKV ms) (fs 0 (zas.getD i .nilp))) (fi 2 (zas.getD i .nilp)) (fi 3 (zas.getD i .nilp)) (fi 5 (zas.getD i .nilp)) (fi 6 (zas.getD i .nilp))
theorem led_eq{zas ms:List D}(hm:ms.length≤500):(allN (accA zas) zas.length&&(allN (mkB zas ms) ms.length&&allN (potC zas ms) zas.length))=(allN (mkOkAt zas ms) ms.length&&allN (acOkAt zas ms) zas.length):=by
 rw [Bool.eq_iff_iff]
 simp only [Bool.and_eq_true,allN_iff]
 constructor
 ·rintro ⟨h1,h2,h3⟩
  have hr:Rising zas:=fun i hi=>by
   have:=h1 i hi
   unfold accA at this
   rw [Bool.and_eq_true] at this
   exact this.2
  have hk: ∀i,i<ms.length→actOk (fi 1 (ms.getD i .nilp)) (fi 3 (ms.getD i .nilp)) (fs 2 (ms.getD i .nilp))=true:=fun i hi=>by
   have:=h2 i hi
   unfold mkB at this
   simp only [Bool.and_eq_true] at this
   exact this.2.2.1
  refine ⟨fun i hi=> ?_,fun i hi=> ?_⟩
  ·have:=h2 i hi
   unfold mkB at this
   rw [there_idx hr] at this
   simp only [Bool.and_eq_true] at this
   unfold mkOkAt
   simp only [Bool.and_eq_true]
   exact ⟨this.1,this.2.2.1,this.2.2.2.1,this.2.2.2.2.1,this.2.2.2.2.2,this.2.1⟩
  ·have a:=h1 i hi
   have c:=h3 i hi
   unfold accA at a
   unfold potC at c
   rw [pend_ref hk hm] at c
   rw [Bool.and_eq_true] at a
   unfold acOkAt
   rw [a.1,a.2,c]
   rfl
 ·rintro ⟨h1,h2⟩
  have hr:Rising zas:=fun i hi=>by
   have:=h2 i hi
   unfold acOkAt at this
   simp only [Bool.and_eq_true] at this
   exact this.2.1
  have hk: ∀i,i<ms.length→actOk (fi 1 (ms.getD i .nilp)) (fi 3 (ms.getD i .nilp)) (fs 2 (ms.getD i .nilp))=true:=fun i hi=>by
   have:=h1 i hi
   unfold mkOkAt at this
   simp only [Bool.and_eq_true] at this
   exact this.2.1
  refine ⟨fun i hi=> ?_,fun i hi=> ?_,fun i hi=> ?_⟩
  ·have:=h2 i hi
   unfold acOkAt at this
   simp only [Bool.and_eq_true] at this
   unfold accA
   rw [this.1,this.2.1]
   rfl
  ·have:=h1 i hi
   unfold mkOkAt at this
   simp only [Bool.and_eq_true] at this
   unfold mkB
   rw [there_idx hr]
   simp only [Bool.and_eq_true]
   exact ⟨this.1,this.2.2.2.2.2,this.2.1,this.2.2.1,this.2.2.2.1,this.2.2.2.2.1⟩
  ·have:=h2 i hi
   unfold acOkAt at this
   simp only [Bool.and_eq_true] at this
   unfold potC
   rw [pend_ref hk hm]
   exact this.2.2
abbrev defSh:Sh:= .agg [.str,.sl stepSh]
theorem x102(m n:Nat)(nb:Bool)(bs:List D):Tree.out (enterM M6 (callN M6 (m+40)) n c102 [.d (.sl defSh nb bs)] [])=bif decide (8<(bs.length:Int)) then some [D.int .i64 2] else Tree.out (resume M6 (callN M6 (m+40)) n n 0 c102 { fr:=frame 34 [(0,V.d (D.sl defSh nb bs)),(8,V.d (D.sl defSh nb bs)),(9,V.d (D.int .i64 (bs.length:Int))),(10,V.d (D.int .i64 0))],ob:=[] }):=by kernel_rfl
def v102(nb:Bool)(bs:List D)(i:Int):St:= { fr:=frame 34 [(0,V.d (D.sl defSh nb bs)),(8,V.d (D.sl defSh nb bs)),(9,V.d (D.int .i64 (bs.length:Int))),(10,V.d (D.int .i64 i))],ob:=[] }
theorem y102(m n j:Nat)(nb:Bool)(bs:List D)(i:Int):Tree.out (resume M6 (callN M6 (m+40)) n (j+1) 0 c102 (v102 nb bs i))=bif decide (i<(bs.length:Int)) then bif decide (0≤i∧i<(bs.length:Int)) then bif (bif defOk (fs 0 (bs.getD i.toNat .nilp)) (fl 1 (bs.getD i.toNat .nilp)) then (0:Int) else (90:Int)) != 0 then some [D.int .i64 2] else bif decide (0<i) then bif decide (0≤IntKind.wrap .i64 (i - 1)∧IntKind.wrap .i64 (i - 1)<(bs.length:Int)) then bif !Op.bytesLess (fs 0 (List.getD bs (Int.toNat (IntKind.wrap .i64 (i - 1))) D.nilp)) (fs 0 (bs.getD i.toNat .nilp)) then some [D.int .i64 2] else Tree.out (resume M6 (callN M6 (m+40)) n j 0 c102 (v102 nb bs (IntKind.wrap .i64 (i+1)))) else none else Tree.out (resume M6 (callN M6 (m+40)) n j 0 c102 (v102 nb bs (IntKind.wrap .i64 (i+1)))) else none else some [D.int .i64 0]:=by kernel_rfl
theorem x115(m n:Nat)(nb:Bool)(bs:List D):Tree.out (enterM M6 (callN M6 (m+40)) n c115 [.d (.sl defSh nb bs)] [])=bif decide (8<(bs.length:Int)) then some [D.int .i64 2] else Tree.out (resume M6 (callN M6 (m+40)) n n 0 c115 { fr:=frame 37 [(0,V.d (D.sl defSh nb bs)),(3,V.d (D.int .i64 0))],ob:=[] }):=by kernel_rfl
def v115(nb:Bool)(bs:List D)(i:Int):St:= { fr:=frame 37 [(0,V.d (D.sl defSh nb bs)),(3,V.d (D.int .i64 i))],ob:=[] }
theorem y115(m n j:Nat)(nb:Bool)(bs:List D)(i:Int):Tree.out (resume M6 (callN M6 (m+40)) n (j+1) 0 c115 (v115 nb bs i))=bif decide (i<(bs.length:Int)) then bif decide (0≤i∧i<(bs.length:Int)) then bif (bif defOk (fs 0 (bs.getD i.toNat .nilp)) (fl 1 (bs.getD i.toNat .nilp)) then (0:Int) else (90:Int)) != 0 then some [D.int .i64 2] else bif decide (0<i) then bif decide (0≤IntKind.wrap .i64 (i - 1)∧IntKind.wrap .i64 (i - 1)<(bs.length:Int)) then bif decide (0≤i∧i<(bs.length:Int)) then bif !Op.bytesLess (fs 0 (List.getD bs (Int.toNat (IntKind.wrap .i64 (i - 1))) D.nilp)) (fs 0 (bs.getD i.toNat .nilp)) then some [D.int .i64 2] else Tree.out (resume M6 (callN M6 (m+40)) n j 0 c115 (v115 nb bs (IntKind.wrap .i64 (i+1)))) else none else none else Tree.out (resume M6 (callN M6 (m+40)) n j 0 c115 (v115 nb bs (IntKind.wrap .i64 (i+1)))) else none else some [D.int .i64 0]:=by kernel_rfl
theorem x53(m n:Nat)(r q:Int)(nil:Bool)(es:List D):Tree.out (enterM M6 (callN M6 (m+40)) n c53 [.d (.agg [.int .i64 r,.int .i64 q,.sl hopSh nil es])] [])=bif (bif idOk r q es then (0:Int) else (30:Int)) != 0 then some [D.int .i64 (-1)] else bif decide (es.length≤1000000) then bif decide (0≤IntKind.wrap .i64 ((↑(List.length (List.map orgOf es)+1):Int) - 1)∧IntKind.wrap .i64 ((↑(List.length (List.map orgOf es)+1):Int) - 1)<(↑(List.length (List.map orgOf es)+1):Int)) then some [D.int .i64 (fi 0 (List.getD (D.int .i64 r :: List.map orgOf es) (Int.toNat (IntKind.wrap .i64 ((↑(List.length (List.map orgOf es)+1):Int) - 1))) D.nilp))] else none else none:=by kernel_rfl
theorem x118(m n:Nat)(r q:Int)(nil:Bool)(es:List D):Tree.out (enterM M6 (callN M6 (m+40)) n c118 [.d (.agg [.int .i64 r,.int .i64 q,.sl hopSh nil es])] [])=bif (bif idOk r q es then (0:Int) else (30:Int)) != 0 then some [D.sl (Sh.int .i64) true []] else Tree.out (resume M6 (callN M6 (m+40)) n n 0 c118 { fr:=frame 28 [(1,V.ptr 128 0),(3,V.own 704),(4,V.d (D.int .i64 0))],ob:=[(128,Obj.box [V.d (D.int .i64 r),V.d (D.int .i64 q),V.d (D.sl hopSh nil es)]),(704,Obj.lst (Sh.int .i64) false false false [D.int .i64 r])] }):=by kernel_rfl
def v118(r q:Int)(nil:Bool)(es:List D)(mv:Bool)(l:List D)(i:Int):St:= { fr:=frame 28 [(1,V.ptr 128 0),(3,V.own 704),(4,V.d (D.int .i64 i))],ob:=[(128,.box [V.d (D.int .i64 r),V.d (D.int .i64 q),V.d (D.sl hopSh nil es)]),(704,.lst (.int .i64) false mv false l)] }
theorem y118(m n j:Nat)(r q:Int)(nil:Bool)(es:List D)(mv:Bool)(l:List D)(i:Int):Tree.out (resume M6 (callN M6 (m+40)) n (j+1) 0 c118 (v118 r q nil es mv l i))=bif decide (i<(es.length:Int)) then bif decide (0≤i∧i<(es.length:Int)) then bif decide (l.length+1≤4294967296) then Tree.out (resume M6 (callN M6 (m+40)) n j 0 c118 (v118 r q nil es true (List.append l [D.int .i64 (fi 1 (es.getD i.toNat .nilp))]) (IntKind.wrap .i64 (i+1)))) else none else none else some [D.sl (Sh.int .i64) false l]:=by kernel_rfl
def defAt(bs:List D)(i:Nat):Bool:=defOk (fs 0 (bs.getD i .nilp)) (fl 1 (bs.getD i .nilp))&&prevLess bs i
def bookOk(bs:List D):Bool:= !decide (8<(bs.length:Int))&&allN (defAt bs) bs.length
theorem ord_at'{es:List D}{i:Nat}(hi:i<es.length)(hl:es.length≤1000000)(a b:Option (List D)):
  (bif decide (0<(i:Int)) then bif decide (0≤IntKind.wrap .i64 ((i:Int) - 1)∧IntKind.wrap .i64 ((i:Int) - 1)<(es.length:Int)) then bif decide ((0:Int)≤(i:Int)∧(i:Int)<(es.length:Int)) then bif !Op.bytesLess (fs 0 (es.getD (Int.toNat (IntKind.wrap .i64 ((i:Int) - 1))) .nilp)) (fs 0 (es.getD i .nilp)) then a else b else none else none else b)=bif prevLess es i then b else a:=by
 rw [dec_ix hi]
 exact ord_at hi hl a b
theorem rn102(m n:Nat)(nb:Bool)(bs:List D)(hn:10≤n):(enterM M6 (callN M6 (m+40)) n c102 [.d (.sl defSh nb bs)] []).out=some [.int .i64 (bif bookOk bs then 0 else 2)]:=by
 rw [x102]
 unfold bookOk
 by_cases h8:8<(bs.length:Int)
 ·rw [decide_eq_true h8];rfl
 ·rw [decide_eq_false h8]
  refine (cf rfl).trans ?_
  have:=scan_loop (fun j i=>(resume M6 (callN M6 (m+40)) n j 0 c102 (v102 nb bs (i:Nat))).out) bs.length (fun i=> !defAt bs i) (fun _=>[D.int .i64 2]) [.int .i64 0]
   (fun j i hi=> ?_) (fun j=> ?_) bs.length 0 n (by omega) (by omega)
  ·refine this.trans ?_
   rw [scan_bool]
   rfl
  ·rw [y102]
   simp only [Int.toNat_natCast,wrap_up hi (show bs.length≤1000000 by omega)]
   refine (ct (dec_lt hi)).trans ((ct (dec_ix hi)).trans ?_)
   rw [ord_at hi (show bs.length≤1000000 by omega)]
   unfold defAt
   cases defOk (fs 0 (bs.getD i .nilp)) (fl 1 (bs.getD i .nilp))
   ·rfl
   ·cases prevLess bs i <;> rfl
  ·rw [y102]
   exact cf (dec_end _)
theorem rn115(m n:Nat)(nb:Bool)(bs:List D)(hn:10≤n):(enterM M6 (callN M6 (m+40)) n c115 [.d (.sl defSh nb bs)] []).out=some [.int .i64 (bif bookOk bs then 0 else 2)]:=by
 rw [x115]
 unfold bookOk
 by_cases h8:8<(bs.length:Int)
 ·rw [decide_eq_true h8];rfl
 ·rw [decide_eq_false h8]
  refine (cf rfl).trans ?_
  have:=scan_loop (fun j i=>(resume M6 (callN M6 (m+40)) n j 0 c115 (v115 nb bs (i:Nat))).out) bs.length (fun i=> !defAt bs i) (fun _=>[D.int .i64 2]) [.int .i64 0]
   (fun j i hi=> ?_) (fun j=> ?_) bs.length 0 n (by omega) (by omega)
  ·refine this.trans ?_
   rw [scan_bool]
   rfl
  ·rw [y115]
   simp only [Int.toNat_natCast,wrap_up hi (show bs.length≤1000000 by omega)]
   refine (ct (dec_lt hi)).trans ((ct (dec_ix hi)).trans ?_)
   rw [ord_at' hi (show bs.length≤1000000 by omega)]
   unfold defAt
   cases defOk (fs 0 (bs.getD i .nilp)) (fl 1 (bs.getD i .nilp))
   ·rfl
   ·cases prevLess bs i <;> rfl
  ·rw [y115]
   exact cf (dec_end _)
def orgs(r:Int)(es:List D):List D:= .int .i64 r :: es.map orgOf
theorem lp118(m n:Nat)(r q:Int)(nil:Bool)(es:List D)(hl:es.length≤1000000): ∀k i j mv,i+k=es.length→k<j→
  (resume M6 (callN M6 (m+40)) n j 0 c118 (v118 r q nil es mv (orgs r (es.take i)) (i:Nat))).out=some [.sl (.int .i64) false (orgs r es)]:=by
 intro k
 induction k with
 | zero=>
  intro i j mv hi hj
  cases j with
  | zero=>omega
  | succ j=>
   have:i=es.length:=by omega
   subst this
   rw [y118,List.take_length]
   exact cf (dec_end _)
 | succ k ih=>
  intro i j mv hi hj
  cases j with
  | zero=>omega
  | succ j=>
   have hlt:i<es.length:=by omega
   have hlen:(orgs r (es.take i)).length+1≤4294967296:=by
    unfold orgs
    rw [List.length_cons,List.length_map,List.length_take];omega
   have e:List.append (orgs r (es.take i)) [.int .i64 (fi 1 (es.getD i .nilp))]=orgs r (es.take (i+1)):=by
    unfold orgs
    rw [List.take_add_one,List.getElem?_eq_getElem hlt,List.map_append,List.getD_eq_getElem?_getD,List.getElem?_eq_getElem hlt]
    rfl
   rw [y118]
   simp only [Int.toNat_natCast,wrap_up hlt hl]
   refine (ct (dec_lt hlt)).trans ((ct (dec_ix hlt)).trans ((ct (decide_eq_true hlen)).trans ?_))
   rw [e]
   exact ih (i+1) j true (by omega) (by omega)
theorem rn118(m n:Nat)(r q:Int)(nil:Bool)(es:List D)(hn:18≤n):(enterM M6 (callN M6 (m+40)) n c118 [.d (.agg [.int .i64 r,.int .i64 q,.sl hopSh nil es])] []).out=some [.sl (.int .i64) (!idOk r q es) (bif idOk r q es then orgs r es else [])]:=by
 rw [x118]
 cases h:idOk r q es
 ·rfl
 ·have h4:=(idOk_iff.1 h).2.1
  refine (cf rfl).trans ?_
  exact lp118 m n r q nil es (by omega) es.length 0 n false (by omega) (by omega)
def orgOfId(r q:Int)(es:List D):Int:=bif idOk r q es then fi 0 ((orgs r es).getD es.length .nilp) else -1
theorem rn53(m n:Nat)(r q:Int)(nil:Bool)(es:List D):(enterM M6 (callN M6 (m+40)) n c53 [.d (.agg [.int .i64 r,.int .i64 q,.sl hopSh nil es])] []).out=some [.int .i64 (orgOfId r q es)]:=by
 rw [x53]
 unfold orgOfId
 cases h:idOk r q es
 ·rfl
 ·have h4:=(idOk_iff.1 h).2.1
  refine (cf rfl).trans ?_
  refine (ct (decide_eq_true (by omega))).trans ?_
  have hl:(((es.map orgOf).length+1:Nat):Int) - 1=(es.length:Int):=by rw [List.length_map];omega
  rw [hl,wrap_i64 (n:=(es.length:Int)) (by omega) (by omega)]
  refine (ct (decide_eq_true (by rw [List.length_map];omega))).trans ?_
  rw [Int.toNat_natCast]
  rfl
def g102b:List D→Tree (List D)
 | [.sl e0 _nb bs]=>match Sh.beq e0 defSh with
  | true=> .ret [.int .i64 (bif bookOk bs then 0 else 2)]
  | false=> .stuck
 | _=> .stuck
theorem pure102b{P:Program}(hm:P.follows .mixedOrders=true)(h0:EnvOK P M6):PureOK P 102 g102b:=PureOK.run hm h0 fun ds rs h=>by
 unfold g102b at h
 split at h
 ·rename_i e0 nb bs
  split at h
  ·rename_i hb
   have hb0:=hb
   have hb0:=Sh.beq_eq hb0
   subst hb0
   cases h
   exact ⟨59+1,by rw [callN_succ (fn:=c102) rfl];exact rn102 19 59 nb bs (by omega)⟩
  ·cases h
 ·cases h
def g115b:List D→Tree (List D)
 | [.sl e0 _nb bs]=>match Sh.beq e0 defSh with
  | true=> .ret [.int .i64 (bif bookOk bs then 0 else 2)]
  | false=> .stuck
 | _=> .stuck
theorem pure115b{P:Program}(hm:P.follows .mixedOrders=true)(h0:EnvOK P M6):PureOK P 115 g115b:=PureOK.run hm h0 fun ds rs h=>by
 unfold g115b at h
 split at h
 ·rename_i e0 nb bs
  split at h
  ·rename_i hb
   have hb0:=hb
   have hb0:=Sh.beq_eq hb0
   subst hb0
   cases h
   exact ⟨59+1,by rw [callN_succ (fn:=c115) rfl];exact rn115 19 59 nb bs (by omega)⟩
  ·cases h
 ·cases h
def g118b:List D→Tree (List D)
 | [.agg [.int .i64 r,.int .i64 q,.sl e0 _nil es]]=>match Sh.beq e0 hopSh with
  | true=> .ret [.sl (.int .i64) (!idOk r q es) (bif idOk r q es then orgs r es else [])]
  | false=> .stuck
 | _=> .stuck
theorem pure118b{P:Program}(hm:P.follows .mixedOrders=true)(h0:EnvOK P M6):PureOK P 118 g118b:=PureOK.run hm h0 fun ds rs h=>by
 unfold g118b at h
 split at h
 ·rename_i r q e0 nil es
  split at h
  ·rename_i hb
   have hb0:=hb
   have hb0:=Sh.beq_eq hb0
   subst hb0
   cases h
   exact ⟨59+1,by rw [callN_succ (fn:=c118) rfl];exact rn118 19 59 r q nil es (by omega)⟩
  ·cases h
 ·cases h
def g53b:List D→Tree (List D)
 | [.agg [.int .i64 r,.int .i64 q,.sl e0 _nil es]]=>match Sh.beq e0 hopSh with
  | true=> .ret [.int .i64 (orgOfId r q es)]
  | false=> .stuck
 | _=> .stuck
theorem pure53b{P:Program}(hm:P.follows .mixedOrders=true)(h0:EnvOK P M6):PureOK P 53 g53b:=PureOK.run hm h0 fun ds rs h=>by
 unfold g53b at h
 split at h
 ·rename_i r q e0 nil es
  split at h
  ·rename_i hb
   have hb0:=hb
   have hb0:=Sh.beq_eq hb0
   subst hb0
   cases h
   exact ⟨59+1,by rw [callN_succ (fn:=c53) rfl];exact rn53 19 59 r q nil es⟩
  ·cases h
 ·cases h
def M9:Env:=(((M6.pureAt 102 true g102b).pureAt 115 true g115b).pureAt 118 false g118b).pureAt 53 true g53b
theorem okM9{P:Program}(hm:P.follows .mixedOrders=true)(h:EnvOK P M6):EnvOK P M9:=(((h.pureAt (pure102b hm h)).pureAt (pure115b hm h)).pureAt (pure118b hm h)).pureAt (pure53b hm h)
def zMrk:D:= .agg [.str [],.int .i64 0,.str [],.int .i64 0,.int .i64 0]
theorem int_beq_comm(a b:Int):(a==b)=(b==a):=by
 rw [Bool.eq_iff_iff]
 simp only [beq_iff_eq]
 exact ⟨Eq.symm,Eq.symm⟩
theorem pots_and(a b c d e f g h:Int):(a==e&&(b==f&&(c==g&&(d==h&&true))))=potsEq ⟨a,b,c,d⟩ e f g h:=by
 unfold potsEq
 rw [int_beq_comm a e,int_beq_comm b f,int_beq_comm c g,int_beq_comm d h]
 cases (e==a) <;> cases (f==b) <;> cases (g==c) <;> cases (h==d) <;> rfl
theorem lp101c(m n:Nat)(na nm':Bool)(zas ms:List D)(hl:zas.length≤1000000)(hn:zas.length<n):(resume M6 (callN M6 (m+40)) n n 2 c101 (v101c na nm' zas ms (pendKV ms) 0)).out=some [.int .i64 (bif allN (potC zas ms) zas.length then 0 else 2)]:=by
 have:=scan_loop (fun j i=>(resume M6 (callN M6 (m+40)) n j 2 c101 (v101c na nm' zas ms (pendKV ms) (i:Nat))).out) zas.length (fun i=> !potC zas ms i) (fun _=>[D.int .i64 2]) [.int .i64 0]
  (fun j i hi=> ?_) (fun j=> ?_) zas.length 0 n (by omega) (by omega)
 ·refine this.trans ?_
  rw [scan_bool]
 ·rw [y101c]
  simp only [Int.toNat_natCast,wrap_up hi hl]
  refine (ct (dec_lt hi)).trans ((ct (dec_ix hi)).trans ?_)
  rw [pots_and]
  rfl
 ·rw [y101c]
  exact cf (dec_end _)
theorem lp101b(m n:Nat)(na nm':Bool)(zas ms:List D)(hl:zas.length≤1000000)(hm:ms.length≤1000000)(hn:zas.length<n)(hn':ms.length<n):
  (resume M6 (callN M6 (m+40)) n n 1 c101 (v101b na nm' zas ms 0)).out=some [.int .i64 (bif allN (mkB zas ms) ms.length&&allN (potC zas ms) zas.length then 0 else 2)]:=by
 have hb:=lp101c m n na nm' zas ms hl hn
 have:=scan_loop (fun j i=>(resume M6 (callN M6 (m+40)) n j 1 c101 (v101b na nm' zas ms (i:Nat))).out) ms.length (fun i=> !mkB zas ms i) (fun _=>[D.int .i64 2]) [.int .i64 (bif allN (potC zas ms) zas.length then 0 else 2)]
  (fun j i hi=> ?_) (fun j=> ?_) ms.length 0 n (by omega) (by omega)
 ·refine this.trans ?_
  rw [scan_bool]
  cases allN (mkB zas ms) ms.length <;> cases allN (potC zas ms) zas.length <;> rfl
 ·rw [y101b]
  simp only [Int.toNat_natCast,wrap_up hi hm]
  refine (ct (dec_lt hi)).trans ((ct (dec_ix hi)).trans ?_)
  rw [decide_eq_true hl,ord_at hi hm]
  unfold mkB
  cases ledKey (fs 0 (ms.getD i .nilp))
  ·rfl
  ·cases prevLess ms i
   ·rfl
   ·cases actOk (fi 1 (ms.getD i .nilp)) (fi 3 (ms.getD i .nilp)) (fs 2 (ms.getD i .nilp))
    ·rfl
    ·cases decide (fi 4 (ms.getD i .nilp)<1)
     ·cases decide (3<fi 4 (ms.getD i .nilp))
      ·cases there (fs 2 (ms.getD i .nilp)) zas <;> rfl
      ·rfl
     ·rfl
 ·rw [y101b]
  exact (cf (dec_end _)).trans ((ct (decide_eq_true hm)).trans hb)
theorem rn101(m n:Nat)(na nm':Bool)(zas ms:List D)(hn:600≤n):(enterM M6 (callN M6 (m+40)) n c101 [.d (.agg [.sl accSh na zas,.sl mrkSh nm' ms])] []).out=some [.int .i64 (bif ledOk zas ms then 0 else 2)]:=by
 rw [x101]
 unfold ledOk
 by_cases h1:12<(zas.length:Int)
 ·rw [decide_eq_true h1];rfl
 ·rw [decide_eq_false h1]
  refine (cf rfl).trans ?_
  by_cases h2:500<(ms.length:Int)
  ·rw [decide_eq_true h2];rfl
  ·rw [decide_eq_false h2]
   refine (cf rfl).trans ?_
   rw [←led_eq (show ms.length≤500 by omega)]
   have hb:=lp101b m n na nm' zas ms (by omega) (by omega) (by omega) (by omega)
   have:=scan_loop (fun j i=>(resume M6 (callN M6 (m+40)) n j 0 c101 (v101 na nm' zas ms (i:Nat))).out) zas.length (fun i=> !accA zas i) (fun _=>[D.int .i64 2]) [.int .i64 (bif allN (mkB zas ms) ms.length&&allN (potC zas ms) zas.length then 0 else 2)]
    (fun j i hi=> ?_) (fun j=> ?_) zas.length 0 n (by omega) (by omega)
   ·refine this.trans ?_
    rw [scan_bool]
    cases allN (accA zas) zas.length <;> cases (allN (mkB zas ms) ms.length&&allN (potC zas ms) zas.length) <;> rfl
   ·rw [y101]
    simp only [Int.toNat_natCast,wrap_up hi (show zas.length≤1000000 by omega)]
    refine (ct (dec_lt hi)).trans ((ct (dec_ix hi)).trans ?_)
    rw [ord_at hi (show zas.length≤1000000 by omega)]
    unfold accA
    cases accOk (fs 0 (zas.getD i .nilp)) (fi 1 (zas.getD i .nilp)) (fi 2 (zas.getD i .nilp)) (fi 3 (zas.getD i .nilp)) (fi 4 (zas.getD i .nilp)) (fi 5 (zas.getD i .nilp)) (fi 6 (zas.getD i .nilp))
    ·rfl
    ·cases prevLess zas i <;> rfl
   ·rw [y101]
    exact (cf (dec_end _)).trans hb
def g101b:List D→Tree (List D)
 | [.agg [.sl ea _ zas,.sl em _ ms]]=>match Sh.beq ea accSh&&Sh.beq em mrkSh with
  | true=> .ret [.int .i64 (bif ledOk zas ms then 0 else 2)]
  | false=> .stuck
 | _=> .stuck
theorem pure101b{P:Program}(hm:P.follows .mixedOrders=true)(h0:EnvOK P M6):PureOK P 101 g101b:=PureOK.run hm h0 fun ds rs h=>by
 unfold g101b at h
 split at h
 ·rename_i ea na zas em nm ms
  split at h
  ·rename_i hb
   simp only [Bool.and_eq_true] at hb
   have hb0:=Sh.beq_eq hb.1
   have hb1:=Sh.beq_eq hb.2
   subst hb0 hb1
   cases h
   exact ⟨600+1,by rw [callN_succ (fn:=c101) rfl];exact rn101 560 600 na nm zas ms (by omega)⟩
  ·cases h
 ·cases h
theorem pure114b{P:Program}(hm:P.follows .mixedOrders=true)(h0:EnvOK P M3):PureOK P 114 g101b:=PureOK.run hm h0 fun ds rs h=>by
 unfold g101b at h
 split at h
 ·rename_i ea na zas em nm ms
  split at h
  ·rename_i hb
   simp only [Bool.and_eq_true] at hb
   have hb0:=Sh.beq_eq hb.1
   have hb1:=Sh.beq_eq hb.2
   subst hb0 hb1
   cases h
   exact ⟨600+1,by rw [callN_succ (fn:=c114) rfl];exact run114 560 600 na nm zas ms (by omega)⟩
  ·cases h
 ·cases h
def Md:Env:=(M9.pureAt 101 true g101b).pureAt 114 true g101b
theorem okMd{P:Program}(hm:P.follows .mixedOrders=true)(h3:EnvOK P M3)(h6:EnvOK P M6)(h9:EnvOK P M9):EnvOK P Md:=(h9.pureAt (pure101b hm h6)).pureAt (pure114b hm h3)
end Go.Proofs.YtkjiaijkdefkgaaGreatDoor.A
