/- The light code of the program's functions, part 0. -/
import Derived.Test.YtknoielhkilkpaaDoorGa

namespace Go.Proofs.YtknoielhkilkpaaDoor.A
open Go Go.AM
/-- entente/ententelaw22.NextGoes -/
def c6 : AFn := ⟨88, [.tmp 2], .seq (.ops false [⟨(some 1), .box (.tmp 0), none, []⟩,
  ⟨(some 2), .mv (.con (.d (.bool false))), none, []⟩])
 (.seq (.seq (.ops false [⟨(some 9), .load 9 true (.tmp 1), none, []⟩,
  ⟨(some 10), .call (.con (.fn 19 [] [])) [(.tmp 9)], none, []⟩,
  ⟨(some 11), .un .not (.tmp 10), none, []⟩])
 (.cond (.tmp 11) (.seq (.ops false [⟨(some 12), .call (.con (.fn 20 [] [])) [], none, []⟩,
  ⟨(some 2), .mv (.tmp 12), none, []⟩])
 (.ret)) (.skip)))
 (.seq (.ops false [⟨(some 14), .load 9 true (.tmp 1), none, []⟩,
  ⟨(some 15), .call (.con (.fn 21 [] [])) [(.tmp 14)], none, []⟩,
  ⟨(some 13), .mv (.tmp 15), none, []⟩,
  ⟨(some 16), .ext 0 (.tmp 13), none, []⟩,
  ⟨(some 17), .ext 1 (.tmp 13), none, []⟩,
  ⟨(some 3), .alloc [(.int .i64 0), (.int .i64 0), (.int .i64 0), (.sl (.agg [(.int .i64), (.int .i64)]) true []), (.int .i64 0), (.int .i64 0), (.str []), (.sl (.agg [(.int .i64), .str, (.int .i64), (.int .i64), .str, (.int .i64), (.int .i64)]) true [])], none, []⟩,
  ⟨none, .store 8 (.tmp 3) (.tmp 16), none, []⟩,
  ⟨(some 4), .mv (.tmp 17), none, []⟩])
 (.seq (.seq (.ops false [⟨(some 18), .mv (.tmp 4), none, []⟩,
  ⟨(some 19), .un .not (.tmp 18), none, []⟩])
 (.cond (.tmp 19) (.seq (.ops true [⟨(some 20), .load 9 true (.tmp 1), none, []⟩,
  ⟨(some 21), .call (.con (.fn 22 [] [])) [(.tmp 20)], none, [0]⟩,
  ⟨(some 22), .bin .neq 0 [] (.tmp 21) (.con (.d (.int .i64 0))), none, [1]⟩,
  ⟨(some 23), .mv (.tmp 22), none, [1, 2]⟩,
  ⟨(some 24), .fldA 5 (.tmp 1), some (23, false), [3]⟩,
  ⟨(some 25), .load 1 false (.tmp 24), some (23, false), [3, 4]⟩,
  ⟨(some 26), .bin .neq 0 [] (.tmp 25) (.con (.d (.int .i64 1))), some (23, false), [3, 5]⟩,
  ⟨(some 27), .mv (.tmp 26), some (23, false), [3, 6]⟩,
  ⟨(some 28), .fldA 5 (.tmp 1), some (27, true), [7]⟩,
  ⟨(some 29), .load 1 false (.tmp 28), some (27, true), [7, 8]⟩,
  ⟨(some 30), .bin .neq 0 [] (.tmp 29) (.con (.d (.int .i64 4))), some (27, true), [7, 9]⟩,
  ⟨(some 31), .pick (.tmp 27) (.tmp 30) (.con (.d (.bool false))), some (23, false), [3, 7, 10]⟩,
  ⟨(some 32), .pick (.tmp 23) (.con (.d (.bool true))) (.tmp 31), none, [3, 11]⟩,
  ⟨(some 33), .mv (.tmp 32), none, [7, 12]⟩,
  ⟨(some 34), .fldA 7 (.tmp 1), some (33, false), [13]⟩,
  ⟨(some 35), .load 1 false (.tmp 34), some (33, false), [13, 14]⟩,
  ⟨(some 36), .load 9 true (.tmp 1), some (33, false), [13]⟩,
  ⟨(some 37), .call (.con (.fn 23 [] [])) [(.tmp 36)], some (33, false), [13, 16]⟩,
  ⟨(some 38), .ixS (.agg [(.int .i64), (.int .i64)]) (.tmp 35) (.tmp 37), some (33, false), [13, 15, 17]⟩,
  ⟨(some 39), .fldA 0 (.tmp 38), some (33, false), [13, 18]⟩,
  ⟨(some 40), .load 1 false (.tmp 39), some (33, false), [13, 19]⟩,
  ⟨(some 41), .bin .eql 0 [] (.tmp 40) (.con (.d (.int .i64 1))), some (33, false), [13, 20]⟩,
  ⟨(some 42), .pick (.tmp 33) (.con (.d (.bool true))) (.tmp 41), none, [13, 21]⟩,
  ⟨(some 43), .mv (.tmp 42), none, [17, 22]⟩,
  ⟨(some 44), .fldA 7 (.tmp 1), some (43, false), [23]⟩,
  ⟨(some 45), .load 1 false (.tmp 44), some (43, false), [23, 24]⟩,
  ⟨(some 46), .load 9 true (.tmp 1), some (43, false), [23]⟩,
  ⟨(some 47), .call (.con (.fn 23 [] [])) [(.tmp 46)], some (43, false), [23, 26]⟩,
  ⟨(some 48), .ixS (.agg [(.int .i64), (.int .i64)]) (.tmp 45) (.tmp 47), some (43, false), [23, 25, 27]⟩,
  ⟨(some 49), .fldA 0 (.tmp 48), some (43, false), [23, 28]⟩,
  ⟨(some 50), .load 1 false (.tmp 49), some (43, false), [23, 29]⟩,
  ⟨(some 51), .bin .eql 0 [] (.tmp 50) (.con (.d (.int .i64 2))), some (43, false), [23, 30]⟩,
  ⟨(some 52), .pick (.tmp 43) (.con (.d (.bool true))) (.tmp 51), none, [23, 31]⟩,
  ⟨(some 53), .mv (.tmp 52), none, [27, 32]⟩,
  ⟨(some 54), .call (.con (.fn 20 [] [])) [], some (53, true), [33]⟩,
  ⟨(some 55), .pick (.tmp 53) (.tmp 54) (.con (.d (.bool false))), none, [33, 34]⟩,
  ⟨(some 2), .mv (.tmp 55), none, [0, 1, 2, 3, 4, 5, 6, 7, 8, 9, 10, 11, 12, 13, 14, 15, 16, 17, 18, 19, 20, 21, 22, 23, 24, 25, 26, 27, 28, 29, 30, 31, 32, 33, 34, 35]⟩])
 (.ret)) (.skip)))
 (.seq (.ops false [⟨(some 57), .load 9 true (.tmp 1), none, []⟩,
  ⟨(some 58), .load 8 true (.tmp 3), none, []⟩,
  ⟨(some 59), .call (.con (.fn 24 [] [])) [(.tmp 57), (.tmp 58)], none, []⟩,
  ⟨(some 56), .mv (.tmp 59), none, []⟩,
  ⟨(some 60), .ext 0 (.tmp 56), none, []⟩,
  ⟨(some 61), .ext 1 (.tmp 56), none, []⟩,
  ⟨(some 5), .alloc [(.int .i64 0), (.int .i64 0), (.sl (.agg [(.int .i64), (.int .i64)]) true []), (.str []), (.sl (.agg [(.int .i64), .str, (.int .i64), (.int .i64), .str, (.int .i64), (.int .i64)]) true []), (.int .i64 0), (.int .i64 0), (.sl (.agg [(.int .i64), (.int .i64)]) true []), (.bool false)], none, []⟩,
  ⟨none, .store 9 (.tmp 5) (.tmp 60), none, []⟩,
  ⟨(some 6), .mv (.tmp 61), none, []⟩])
 (.seq (.seq (.ops false [⟨(some 62), .mv (.tmp 6), none, []⟩,
  ⟨(some 63), .bin .neq 0 [] (.tmp 62) (.con (.d (.int .i64 0))), none, []⟩])
 (.cond (.tmp 63) (.seq (.ops false [⟨(some 2), .mv (.con (.d (.bool false))), none, []⟩])
 (.ret)) (.skip)))
 (.seq (.seq (.ops false [⟨(some 64), .fldA 0 (.tmp 3), none, []⟩,
  ⟨(some 65), .load 1 false (.tmp 64), none, []⟩,
  ⟨(some 66), .bin .neq 0 [] (.tmp 65) (.con (.d (.int .i64 4))), none, []⟩,
  ⟨(some 67), .mv (.tmp 66), none, []⟩,
  ⟨(some 68), .fldA 0 (.tmp 3), some (67, true), []⟩,
  ⟨(some 69), .load 1 false (.tmp 68), some (67, true), []⟩,
  ⟨(some 70), .bin .neq 0 [] (.tmp 69) (.con (.d (.int .i64 11))), some (67, true), []⟩,
  ⟨(some 71), .pick (.tmp 67) (.tmp 70) (.con (.d (.bool false))), none, []⟩])
 (.cond (.tmp 71) (.seq (.ops false [⟨(some 72), .call (.con (.fn 20 [] [])) [], none, []⟩,
  ⟨(some 2), .mv (.tmp 72), none, []⟩])
 (.ret)) (.skip)))
 (.seq (.ops false [⟨(some 74), .load 9 true (.tmp 1), none, []⟩,
  ⟨(some 75), .fldA 0 (.tmp 1), none, []⟩,
  ⟨(some 76), .load 3 true (.tmp 75), none, []⟩,
  ⟨(some 77), .fldA 4 (.tmp 3), none, []⟩,
  ⟨(some 78), .load 1 false (.tmp 77), none, []⟩,
  ⟨(some 79), .build [(.int .i64 0), (.int .i64 0), (.int .i64 0), (.sl (.agg [(.int .i64), (.int .i64)]) true []), (.int .i64 0), (.int .i64 0), (.str []), (.sl (.agg [(.int .i64), .str, (.int .i64), (.int .i64), .str, (.int .i64), (.int .i64)]) true [])] [(0, 1, (.con (.d (.int .i64 3)))), (1, 3, (.tmp 76)), (4, 1, (.tmp 78))], none, []⟩,
  ⟨(some 80), .call (.con (.fn 24 [] [])) [(.tmp 74), (.tmp 79)], none, []⟩,
  ⟨(some 73), .mv (.tmp 80), none, []⟩,
  ⟨(some 81), .ext 0 (.tmp 73), none, []⟩,
  ⟨(some 82), .ext 1 (.tmp 73), none, []⟩,
  ⟨(some 7), .alloc [(.int .i64 0), (.int .i64 0), (.sl (.agg [(.int .i64), (.int .i64)]) true []), (.str []), (.sl (.agg [(.int .i64), .str, (.int .i64), (.int .i64), .str, (.int .i64), (.int .i64)]) true []), (.int .i64 0), (.int .i64 0), (.sl (.agg [(.int .i64), (.int .i64)]) true []), (.bool false)], none, []⟩,
  ⟨none, .store 9 (.tmp 7) (.tmp 81), none, []⟩,
  ⟨(some 8), .mv (.tmp 82), none, []⟩])
 (.seq (.ops false [⟨(some 83), .mv (.tmp 8), none, []⟩,
  ⟨(some 84), .bin .eql 0 [] (.tmp 83) (.con (.d (.int .i64 0))), none, []⟩,
  ⟨(some 85), .mv (.tmp 84), none, []⟩,
  ⟨(some 86), .call (.con (.fn 20 [] [])) [], some (85, true), []⟩,
  ⟨(some 87), .pick (.tmp 85) (.tmp 86) (.con (.d (.bool false))), none, []⟩,
  ⟨(some 2), .mv (.tmp 87), none, []⟩])
 (.ret)))))))))⟩
/-- entente/ententelaw22.NextRanks -/
def c7 : AFn := ⟨54, [.tmp 4], .seq (.ops false [⟨(some 2), .box (.tmp 0), none, []⟩,
  ⟨(some 3), .box (.tmp 1), none, []⟩,
  ⟨(some 4), .mv (.con (.d (.bool false))), none, []⟩])
 (.seq (.seq (.ops false [⟨(some 7), .load 9 true (.tmp 2), none, []⟩,
  ⟨(some 8), .call (.con (.fn 19 [] [])) [(.tmp 7)], none, []⟩,
  ⟨(some 9), .un .not (.tmp 8), none, []⟩,
  ⟨(some 10), .mv (.tmp 9), none, []⟩,
  ⟨(some 11), .load 8 true (.tmp 3), some (10, false), []⟩,
  ⟨(some 12), .call (.con (.fn 25 [] [])) [(.tmp 11)], some (10, false), []⟩,
  ⟨(some 13), .un .not (.tmp 12), some (10, false), []⟩,
  ⟨(some 14), .pick (.tmp 10) (.con (.d (.bool true))) (.tmp 13), none, []⟩])
 (.cond (.tmp 14) (.seq (.ops false [⟨(some 15), .call (.con (.fn 20 [] [])) [], none, []⟩,
  ⟨(some 4), .mv (.tmp 15), none, []⟩])
 (.ret)) (.skip)))
 (.seq (.ops false [⟨(some 17), .load 9 true (.tmp 2), none, []⟩,
  ⟨(some 18), .load 8 true (.tmp 3), none, []⟩,
  ⟨(some 19), .call (.con (.fn 24 [] [])) [(.tmp 17), (.tmp 18)], none, []⟩,
  ⟨(some 16), .mv (.tmp 19), none, []⟩,
  ⟨(some 20), .ext 0 (.tmp 16), none, []⟩,
  ⟨(some 21), .ext 1 (.tmp 16), none, []⟩,
  ⟨(some 5), .alloc [(.int .i64 0), (.int .i64 0), (.sl (.agg [(.int .i64), (.int .i64)]) true []), (.str []), (.sl (.agg [(.int .i64), .str, (.int .i64), (.int .i64), .str, (.int .i64), (.int .i64)]) true []), (.int .i64 0), (.int .i64 0), (.sl (.agg [(.int .i64), (.int .i64)]) true []), (.bool false)], none, []⟩,
  ⟨none, .store 9 (.tmp 5) (.tmp 20), none, []⟩,
  ⟨(some 6), .mv (.tmp 21), none, []⟩])
 (.seq (.seq (.ops false [⟨(some 22), .mv (.tmp 6), none, []⟩,
  ⟨(some 23), .bin .neq 0 [] (.tmp 22) (.con (.d (.int .i64 0))), none, []⟩,
  ⟨(some 24), .mv (.tmp 23), none, []⟩,
  ⟨(some 25), .fldA 0 (.tmp 3), some (24, false), []⟩,
  ⟨(some 26), .load 1 false (.tmp 25), some (24, false), []⟩,
  ⟨(some 27), .bin .eql 0 [] (.tmp 26) (.con (.d (.int .i64 13))), some (24, false), []⟩,
  ⟨(some 28), .pick (.tmp 24) (.con (.d (.bool true))) (.tmp 27), none, []⟩])
 (.cond (.tmp 28) (.seq (.ops false [⟨(some 29), .call (.con (.fn 20 [] [])) [], none, []⟩,
  ⟨(some 4), .mv (.tmp 29), none, []⟩])
 (.ret)) (.skip)))
 (.seq (.seq (.ops false [⟨(some 30), .fldA 0 (.tmp 3), none, []⟩,
  ⟨(some 31), .load 1 false (.tmp 30), none, []⟩,
  ⟨(some 32), .bin .eql 0 [] (.tmp 31) (.con (.d (.int .i64 3))), none, []⟩])
 (.cond (.tmp 32) (.seq (.ops true [⟨(some 33), .load 9 true (.tmp 5), none, []⟩,
  ⟨(some 34), .call (.con (.fn 26 [] [])) [(.tmp 33)], none, [0]⟩,
  ⟨(some 35), .load 9 true (.tmp 2), none, []⟩,
  ⟨(some 36), .call (.con (.fn 26 [] [])) [(.tmp 35)], none, [1, 2]⟩,
  ⟨(some 37), .bin .eql 0 [] (.tmp 34) (.tmp 36), none, [1, 3]⟩,
  ⟨(some 38), .mv (.tmp 37), none, [3, 4]⟩,
  ⟨(some 39), .call (.con (.fn 20 [] [])) [], some (38, true), [5]⟩,
  ⟨(some 40), .pick (.tmp 38) (.tmp 39) (.con (.d (.bool false))), none, [5, 6]⟩,
  ⟨(some 4), .mv (.tmp 40), none, [0, 1, 2, 3, 4, 5, 6, 7]⟩])
 (.ret)) (.skip)))
 (.seq (.ops true [⟨(some 41), .load 9 true (.tmp 5), none, []⟩,
  ⟨(some 42), .call (.con (.fn 26 [] [])) [(.tmp 41)], none, [0]⟩,
  ⟨(some 43), .load 9 true (.tmp 2), none, []⟩,
  ⟨(some 44), .call (.con (.fn 26 [] [])) [(.tmp 43)], none, [1, 2]⟩,
  ⟨(some 45), .bin .lss 0 [] (.tmp 42) (.tmp 44), none, [1, 3]⟩,
  ⟨(some 46), .mv (.tmp 45), none, [3, 4]⟩,
  ⟨(some 47), .load 9 true (.tmp 5), some (46, true), [5]⟩,
  ⟨(some 48), .call (.con (.fn 26 [] [])) [(.tmp 47)], some (46, true), [5, 6]⟩,
  ⟨(some 49), .bin .geq 0 [] (.tmp 48) (.con (.d (.int .i64 0))), some (46, true), [5, 7]⟩,
  ⟨(some 50), .pick (.tmp 46) (.tmp 49) (.con (.d (.bool false))), none, [5, 8]⟩,
  ⟨(some 51), .mv (.tmp 50), none, [7, 9]⟩,
  ⟨(some 52), .call (.con (.fn 20 [] [])) [], some (51, true), [10]⟩,
  ⟨(some 53), .pick (.tmp 51) (.tmp 52) (.con (.d (.bool false))), none, [10, 11]⟩,
  ⟨(some 4), .mv (.tmp 53), none, [0, 1, 2, 3, 4, 5, 6, 7, 8, 9, 10, 11, 12]⟩])
 (.ret))))))⟩
/-- entente/ententelaw22.NextEnds -/
def c8 : AFn := ⟨91, [.tmp 2], .seq (.ops false [⟨(some 1), .box (.tmp 0), none, []⟩,
  ⟨(some 2), .mv (.con (.d (.bool false))), none, []⟩])
 (.seq (.seq (.ops false [⟨(some 11), .load 9 true (.tmp 1), none, []⟩,
  ⟨(some 12), .call (.con (.fn 19 [] [])) [(.tmp 11)], none, []⟩,
  ⟨(some 13), .un .not (.tmp 12), none, []⟩,
  ⟨(some 14), .mv (.tmp 13), none, []⟩,
  ⟨(some 15), .load 9 true (.tmp 1), some (14, false), []⟩,
  ⟨(some 16), .call (.con (.fn 22 [] [])) [(.tmp 15)], some (14, false), []⟩,
  ⟨(some 17), .bin .neq 0 [] (.tmp 16) (.con (.d (.int .i64 0))), some (14, false), []⟩,
  ⟨(some 18), .pick (.tmp 14) (.con (.d (.bool true))) (.tmp 17), none, []⟩,
  ⟨(some 19), .mv (.tmp 18), none, []⟩,
  ⟨(some 20), .fldA 5 (.tmp 1), some (19, false), []⟩,
  ⟨(some 21), .load 1 false (.tmp 20), some (19, false), []⟩,
  ⟨(some 22), .bin .eql 0 [] (.tmp 21) (.con (.d (.int .i64 5))), some (19, false), []⟩,
  ⟨(some 23), .pick (.tmp 19) (.con (.d (.bool true))) (.tmp 22), none, []⟩])
 (.cond (.tmp 23) (.seq (.ops false [⟨(some 24), .call (.con (.fn 20 [] [])) [], none, []⟩,
  ⟨(some 2), .mv (.tmp 24), none, []⟩])
 (.ret)) (.skip)))
 (.seq (.seq (.ops false [⟨(some 3), .mv (.con (.d (.int .i64 0))), none, []⟩])
 (.block 0 (.loop 0 (some ([1, 3], [0, 1, 2, 3, 4, 5, 6, 7, 128, 129, 130, 131, 160, 161, 384, 385, 386, 387, 416, 417, 512, 513, 514, 515, 544, 545, 640, 641, 642, 643, 672, 673, 832, 833, 834, 835, 864, 865, 1088, 1089, 1090, 1091, 1120, 1121, 1600, 1601, 1602, 1603, 1632, 1633, 3648, 3649, 3650, 3651, 3680, 3681, 4160, 4161, 4162, 4163, 4192, 4193, 4224, 4225, 4226, 4227, 4256, 4257, 4416, 4417, 4418, 4419, 4448, 4449, 4864, 4865, 4866, 4867, 4896, 4897, 5248, 5249, 5250, 5251, 5280, 5281])) (.seq (.seq (.ops false [⟨(some 25), .mv (.tmp 3), none, []⟩,
  ⟨(some 26), .fldA 7 (.tmp 1), none, []⟩,
  ⟨(some 27), .load 1 false (.tmp 26), none, []⟩,
  ⟨(some 28), .len 1 (.tmp 27), none, []⟩,
  ⟨(some 29), .bin .lss 0 [] (.tmp 25) (.tmp 28), none, []⟩])
 (.cond (.tmp 29) (.skip) (.exit 0)))
 (.seq (.block 1 (.seq (.ops false [⟨(some 32), .fldA 5 (.tmp 1), none, []⟩,
  ⟨(some 33), .load 1 false (.tmp 32), none, []⟩,
  ⟨(some 34), .bin .eql 0 [] (.tmp 33) (.con (.d (.int .i64 4))), none, []⟩,
  ⟨(some 35), .mv (.tmp 34), none, []⟩,
  ⟨(some 36), .fldA 3 (.tmp 1), some (35, true), []⟩,
  ⟨(some 37), .fldA 1 (.tmp 36), some (35, true), []⟩,
  ⟨(some 38), .load 1 false (.tmp 37), some (35, true), []⟩,
  ⟨(some 39), .mv (.tmp 3), some (35, true), []⟩,
  ⟨(some 40), .ixS (.agg [(.int .i64), .str, (.int .i64), (.int .i64), .str, (.int .i64), (.int .i64)]) (.tmp 38) (.tmp 39), some (35, true), []⟩,
  ⟨(some 41), .fldA 4 (.tmp 40), some (35, true), []⟩,
  ⟨(some 42), .load 1 false (.tmp 41), some (35, true), []⟩,
  ⟨(some 43), .bin .eql 0 [] (.tmp 42) (.con (.d (.str []))), some (35, true), []⟩,
  ⟨(some 44), .pick (.tmp 35) (.tmp 43) (.con (.d (.bool false))), none, []⟩,
  ⟨(some 45), .mv (.tmp 44), none, []⟩,
  ⟨(some 46), .fldA 7 (.tmp 1), some (45, true), []⟩,
  ⟨(some 47), .load 1 false (.tmp 46), some (45, true), []⟩,
  ⟨(some 48), .mv (.tmp 3), some (45, true), []⟩,
  ⟨(some 49), .ixS (.agg [(.int .i64), (.int .i64)]) (.tmp 47) (.tmp 48), some (45, true), []⟩,
  ⟨(some 50), .fldA 1 (.tmp 49), some (45, true), []⟩,
  ⟨(some 51), .load 1 false (.tmp 50), some (45, true), []⟩,
  ⟨(some 52), .bin .eql 0 [] (.tmp 51) (.con (.d (.int .i64 5))), some (45, true), []⟩,
  ⟨(some 53), .pick (.tmp 45) (.tmp 52) (.con (.d (.bool false))), none, []⟩])
 (.cond (.tmp 53) (.seq (.ops false [⟨(some 54), .call (.con (.fn 20 [] [])) [], none, []⟩,
  ⟨(some 2), .mv (.tmp 54), none, []⟩])
 (.ret)) (.skip))))
 (.ops false [⟨(some 30), .mv (.tmp 3), none, []⟩,
  ⟨(some 31), .bin .add 0 [] (.tmp 30) (.con (.d (.int .i64 1))), none, []⟩,
  ⟨(some 3), .mv (.tmp 31), none, []⟩]))))))
 (.seq (.ops false [⟨(some 55), .load 9 true (.tmp 1), none, []⟩,
  ⟨(some 56), .call (.con (.fn 26 [] [])) [(.tmp 55)], none, []⟩,
  ⟨(some 4), .mv (.tmp 56), none, []⟩])
 (.seq (.ops false [⟨(some 57), .load 9 true (.tmp 1), none, []⟩,
  ⟨(some 5), .alloc [(.int .i64 0), (.int .i64 0), (.sl (.agg [(.int .i64), (.int .i64)]) true []), (.str []), (.sl (.agg [(.int .i64), .str, (.int .i64), (.int .i64), .str, (.int .i64), (.int .i64)]) true []), (.int .i64 0), (.int .i64 0), (.sl (.agg [(.int .i64), (.int .i64)]) true []), (.bool false)], none, []⟩,
  ⟨none, .store 9 (.tmp 5) (.tmp 57), none, []⟩])
 (.seq (.seq (.ops false [⟨(some 6), .mv (.con (.d (.int .i64 0))), none, []⟩])
 (.block 2 (.loop 1 (some ([4, 5, 6], [0, 1, 2, 3, 4, 5, 6, 7, 128, 129, 130, 131, 160, 161, 384, 385, 386, 387, 416, 417, 832, 833, 834, 835, 864, 865, 1088, 1089, 1090, 1091, 1120, 1121, 1600, 1601, 1602, 1603, 1632, 1633, 3520, 3521, 3522, 3523, 3552, 3553, 3648, 3649, 3650, 3651, 3680, 3681])) (.seq (.seq (.ops false [⟨(some 58), .mv (.tmp 6), none, []⟩,
  ⟨(some 59), .mv (.tmp 4), none, []⟩,
  ⟨(some 60), .bin .leq 0 [] (.tmp 58) (.tmp 59), none, []⟩])
 (.cond (.tmp 60) (.skip) (.exit 2)))
 (.seq (.block 3 (.seq (.seq (.ops false [⟨(some 63), .load 9 true (.tmp 5), none, []⟩,
  ⟨(some 64), .call (.con (.fn 27 [] [])) [(.tmp 63)], none, []⟩])
 (.cond (.tmp 64) (.seq (.ops false [⟨(some 65), .call (.con (.fn 20 [] [])) [], none, []⟩,
  ⟨(some 2), .mv (.tmp 65), none, []⟩])
 (.ret)) (.skip)))
 (.seq (.ops false [⟨(some 67), .load 9 true (.tmp 5), none, []⟩,
  ⟨(some 68), .call (.con (.fn 21 [] [])) [(.tmp 67)], none, []⟩,
  ⟨(some 66), .mv (.tmp 68), none, []⟩,
  ⟨(some 69), .ext 0 (.tmp 66), none, []⟩,
  ⟨(some 70), .ext 1 (.tmp 66), none, []⟩,
  ⟨(some 7), .alloc [(.int .i64 0), (.int .i64 0), (.int .i64 0), (.sl (.agg [(.int .i64), (.int .i64)]) true []), (.int .i64 0), (.int .i64 0), (.str []), (.sl (.agg [(.int .i64), .str, (.int .i64), (.int .i64), .str, (.int .i64), (.int .i64)]) true [])], none, []⟩,
  ⟨none, .store 8 (.tmp 7) (.tmp 69), none, []⟩,
  ⟨(some 8), .mv (.tmp 70), none, []⟩])
 (.seq (.seq (.ops false [⟨(some 71), .mv (.tmp 8), none, []⟩,
  ⟨(some 72), .un .not (.tmp 71), none, []⟩])
 (.cond (.tmp 72) (.ops false [⟨(some 74), .load 9 true (.tmp 5), none, []⟩,
  ⟨(some 75), .call (.con (.fn 28 [] [])) [(.tmp 74)], none, []⟩,
  ⟨(some 73), .mv (.tmp 75), none, []⟩,
  ⟨(some 76), .ext 0 (.tmp 73), none, []⟩,
  ⟨(some 77), .ext 1 (.tmp 73), none, []⟩,
  ⟨none, .store 8 (.tmp 7) (.tmp 76), none, []⟩,
  ⟨(some 8), .mv (.tmp 77), none, []⟩]) (.skip)))
 (.seq (.ops false [⟨(some 79), .load 9 true (.tmp 5), none, []⟩,
  ⟨(some 80), .load 8 true (.tmp 7), none, []⟩,
  ⟨(some 81), .call (.con (.fn 24 [] [])) [(.tmp 79), (.tmp 80)], none, []⟩,
  ⟨(some 78), .mv (.tmp 81), none, []⟩,
  ⟨(some 82), .ext 0 (.tmp 78), none, []⟩,
  ⟨(some 83), .ext 1 (.tmp 78), none, []⟩,
  ⟨(some 9), .alloc [(.int .i64 0), (.int .i64 0), (.sl (.agg [(.int .i64), (.int .i64)]) true []), (.str []), (.sl (.agg [(.int .i64), .str, (.int .i64), (.int .i64), .str, (.int .i64), (.int .i64)]) true []), (.int .i64 0), (.int .i64 0), (.sl (.agg [(.int .i64), (.int .i64)]) true []), (.bool false)], none, []⟩,
  ⟨none, .store 9 (.tmp 9) (.tmp 82), none, []⟩,
  ⟨(some 10), .mv (.tmp 83), none, []⟩])
 (.seq (.seq (.ops false [⟨(some 84), .mv (.tmp 8), none, []⟩,
  ⟨(some 85), .un .not (.tmp 84), none, []⟩,
  ⟨(some 86), .mv (.tmp 85), none, []⟩,
  ⟨(some 87), .mv (.tmp 10), some (86, false), []⟩,
  ⟨(some 88), .bin .neq 0 [] (.tmp 87) (.con (.d (.int .i64 0))), some (86, false), []⟩,
  ⟨(some 89), .pick (.tmp 86) (.con (.d (.bool true))) (.tmp 88), none, []⟩])
 (.cond (.tmp 89) (.seq (.ops false [⟨(some 2), .mv (.con (.d (.bool false))), none, []⟩])
 (.ret)) (.skip)))
 (.ops false [⟨(some 90), .load 9 true (.tmp 9), none, []⟩,
  ⟨none, .store 9 (.tmp 5) (.tmp 90), none, []⟩])))))))
 (.ops false [⟨(some 61), .mv (.tmp 6), none, []⟩,
  ⟨(some 62), .bin .add 0 [] (.tmp 61) (.con (.d (.int .i64 1))), none, []⟩,
  ⟨(some 6), .mv (.tmp 62), none, []⟩]))))))
 (.seq (.ops false [⟨(some 2), .mv (.con (.d (.bool false))), none, []⟩])
 (.ret)))))))⟩
/-- entente/ententelaw21.Few -/
def c19 : AFn := ⟨21, [.tmp 2], .seq (.ops false [⟨(some 1), .box (.tmp 0), none, []⟩,
  ⟨(some 2), .mv (.con (.d (.bool false))), none, []⟩])
 (.seq (.ops false [⟨(some 3), .fldA 0 (.tmp 1), none, []⟩,
  ⟨(some 4), .fldA 2 (.tmp 3), none, []⟩,
  ⟨(some 5), .load 1 false (.tmp 4), none, []⟩,
  ⟨(some 6), .len 1 (.tmp 5), none, []⟩,
  ⟨(some 7), .bin .leq 0 [] (.tmp 6) (.con (.d (.int .i64 50))), none, []⟩,
  ⟨(some 8), .mv (.tmp 7), none, []⟩,
  ⟨(some 9), .fldA 3 (.tmp 1), some (8, true), []⟩,
  ⟨(some 10), .fldA 1 (.tmp 9), some (8, true), []⟩,
  ⟨(some 11), .load 1 false (.tmp 10), some (8, true), []⟩,
  ⟨(some 12), .len 1 (.tmp 11), some (8, true), []⟩,
  ⟨(some 13), .bin .leq 0 [] (.tmp 12) (.con (.d (.int .i64 50))), some (8, true), []⟩,
  ⟨(some 14), .pick (.tmp 8) (.tmp 13) (.con (.d (.bool false))), none, []⟩,
  ⟨(some 15), .mv (.tmp 14), none, []⟩,
  ⟨(some 16), .fldA 7 (.tmp 1), some (15, true), []⟩,
  ⟨(some 17), .load 1 false (.tmp 16), some (15, true), []⟩,
  ⟨(some 18), .len 1 (.tmp 17), some (15, true), []⟩,
  ⟨(some 19), .bin .leq 0 [] (.tmp 18) (.con (.d (.int .i64 200))), some (15, true), []⟩,
  ⟨(some 20), .pick (.tmp 15) (.tmp 19) (.con (.d (.bool false))), none, []⟩,
  ⟨(some 2), .mv (.tmp 20), none, []⟩])
 (.ret))⟩
/-- entente/ententelaw22.awake -/
def c20 : AFn := ⟨67, [.tmp 0], .seq (.ops false [⟨(some 0), .mv (.con (.d (.bool false))), none, []⟩])
 (.seq (.ops false [⟨(some 9), .build [(.int .i64 0), (.str []), (.int .i64 0)] [(0, 1, (.con (.d (.int .i64 1)))), (1, 1, (.con (.d (.str [99, 97, 115, 104])))), (2, 1, (.con (.d (.int .i64 5))))], none, []⟩,
  ⟨(some 10), .build [(.int .i64 0), (.str []), (.int .i64 0), (.int .i64 0), (.str []), (.int .i64 0), (.int .i64 0)] [(0, 3, (.tmp 9)), (5, 1, (.con (.d (.int .i64 1))))], none, []⟩,
  ⟨(some 11), .build [(.int .i64 0), (.str []), (.int .i64 0), (.int .i64 0), (.str []), (.int .i64 0), (.int .i64 0)] [(3, 1, (.con (.d (.int .i64 2)))), (4, 1, (.con (.d (.str [104, 111, 116, 101, 108])))), (6, 1, (.con (.d (.int .i64 20))))], none, []⟩,
  ⟨(some 12), .buildSl (.agg [(.int .i64), .str, (.int .i64), (.int .i64), .str, (.int .i64), (.int .i64)]) [(.int .i64 0), (.str []), (.int .i64 0), (.int .i64 0), (.str []), (.int .i64 0), (.int .i64 0)] 2 [(0, 7, (.tmp 10)), (7, 7, (.tmp 11))], none, []⟩,
  ⟨(some 13), .build [(.str []), (.sl (.agg [(.int .i64), .str, (.int .i64), (.int .i64), .str, (.int .i64), (.int .i64)]) true [])] [(0, 1, (.con (.d (.str [116, 114, 105, 112])))), (1, 1, (.tmp 12))], none, []⟩,
  ⟨(some 1), .alloc [(.str []), (.sl (.agg [(.int .i64), .str, (.int .i64), (.int .i64), .str, (.int .i64), (.int .i64)]) true [])], none, []⟩,
  ⟨none, .store 2 (.tmp 1) (.tmp 13), none, []⟩])
 (.seq (.ops false [⟨(some 14), .build [(.int .i64 0), (.int .i64 0), (.sl (.agg [(.int .i64), (.int .i64)]) true [])] [(1, 1, (.con (.d (.int .i64 7))))], none, []⟩,
  ⟨(some 15), .load 2 true (.tmp 1), none, []⟩,
  ⟨(some 16), .build [(.int .i64 0), (.int .i64 0)] [(0, 1, (.con (.d (.int .i64 2))))], none, []⟩,
  ⟨(some 17), .build [(.int .i64 0), (.int .i64 0)] [(0, 1, (.con (.d (.int .i64 0))))], none, []⟩,
  ⟨(some 18), .buildSl (.agg [(.int .i64), (.int .i64)]) [(.int .i64 0), (.int .i64 0)] 2 [(0, 2, (.tmp 16)), (2, 2, (.tmp 17))], none, []⟩,
  ⟨(some 19), .build [(.int .i64 0), (.int .i64 0), (.sl (.agg [(.int .i64), (.int .i64)]) true []), (.str []), (.sl (.agg [(.int .i64), .str, (.int .i64), (.int .i64), .str, (.int .i64), (.int .i64)]) true []), (.int .i64 0), (.int .i64 0), (.sl (.agg [(.int .i64), (.int .i64)]) true []), (.bool false)] [(0, 3, (.tmp 14)), (3, 2, (.tmp 15)), (5, 1, (.con (.d (.int .i64 1)))), (7, 1, (.tmp 18))], none, []⟩,
  ⟨(some 2), .alloc [(.int .i64 0), (.int .i64 0), (.sl (.agg [(.int .i64), (.int .i64)]) true []), (.str []), (.sl (.agg [(.int .i64), .str, (.int .i64), (.int .i64), .str, (.int .i64), (.int .i64)]) true []), (.int .i64 0), (.int .i64 0), (.sl (.agg [(.int .i64), (.int .i64)]) true []), (.bool false)], none, []⟩,
  ⟨none, .store 9 (.tmp 2) (.tmp 19), none, []⟩])
 (.seq (.ops false [⟨(some 21), .load 9 true (.tmp 2), none, []⟩,
  ⟨(some 22), .call (.con (.fn 21 [] [])) [(.tmp 21)], none, []⟩,
  ⟨(some 20), .mv (.tmp 22), none, []⟩,
  ⟨(some 23), .ext 0 (.tmp 20), none, []⟩,
  ⟨(some 24), .ext 1 (.tmp 20), none, []⟩,
  ⟨(some 3), .alloc [(.int .i64 0), (.int .i64 0), (.int .i64 0), (.sl (.agg [(.int .i64), (.int .i64)]) true []), (.int .i64 0), (.int .i64 0), (.str []), (.sl (.agg [(.int .i64), .str, (.int .i64), (.int .i64), .str, (.int .i64), (.int .i64)]) true [])], none, []⟩,
  ⟨none, .store 8 (.tmp 3) (.tmp 23), none, []⟩,
  ⟨(some 4), .mv (.tmp 24), none, []⟩])
 (.seq (.ops false [⟨(some 26), .load 9 true (.tmp 2), none, []⟩,
  ⟨(some 27), .call (.con (.fn 36 [] [])) [(.tmp 26)], none, []⟩,
  ⟨(some 25), .mv (.tmp 27), none, []⟩,
  ⟨(some 28), .ext 0 (.tmp 25), none, []⟩,
  ⟨(some 29), .ext 1 (.tmp 25), none, []⟩,
  ⟨(some 5), .mv (.tmp 28), none, []⟩,
  ⟨(some 6), .mv (.tmp 29), none, []⟩])
 (.seq (.ops false [⟨(some 31), .build [(.int .i64 0), (.int .i64 0), (.sl (.agg [(.int .i64), (.int .i64)]) true []), (.str []), (.sl (.agg [(.int .i64), .str, (.int .i64), (.int .i64), .str, (.int .i64), (.int .i64)]) true []), (.int .i64 0), (.int .i64 0), (.sl (.agg [(.int .i64), (.int .i64)]) true []), (.bool false)] [], none, []⟩,
  ⟨(some 32), .call (.con (.fn 21 [] [])) [(.tmp 31)], none, []⟩,
  ⟨(some 30), .mv (.tmp 32), none, []⟩,
  ⟨(some 33), .ext 0 (.tmp 30), none, []⟩,
  ⟨(some 34), .ext 1 (.tmp 30), none, []⟩,
  ⟨(some 7), .alloc [(.int .i64 0), (.int .i64 0), (.int .i64 0), (.sl (.agg [(.int .i64), (.int .i64)]) true []), (.int .i64 0), (.int .i64 0), (.str []), (.sl (.agg [(.int .i64), .str, (.int .i64), (.int .i64), .str, (.int .i64), (.int .i64)]) true [])], none, []⟩,
  ⟨none, .store 8 (.tmp 7) (.tmp 33), none, []⟩,
  ⟨(some 8), .mv (.tmp 34), none, []⟩])
 (.seq (.ops false [⟨(some 35), .mv (.tmp 4), none, []⟩,
  ⟨(some 36), .mv (.tmp 35), none, []⟩,
  ⟨(some 37), .fldA 0 (.tmp 3), some (36, true), []⟩,
  ⟨(some 38), .load 1 false (.tmp 37), some (36, true), []⟩,
  ⟨(some 39), .bin .eql 0 [] (.tmp 38) (.con (.d (.int .i64 5))), some (36, true), []⟩,
  ⟨(some 40), .pick (.tmp 36) (.tmp 39) (.con (.d (.bool false))), none, []⟩,
  ⟨(some 41), .mv (.tmp 40), none, []⟩,
  ⟨(some 42), .fldA 4 (.tmp 3), some (41, true), []⟩,
  ⟨(some 43), .load 1 false (.tmp 42), some (41, true), []⟩,
  ⟨(some 44), .bin .eql 0 [] (.tmp 43) (.con (.d (.int .i64 1))), some (41, true), []⟩,
  ⟨(some 45), .pick (.tmp 41) (.tmp 44) (.con (.d (.bool false))), none, []⟩,
  ⟨(some 46), .mv (.tmp 45), none, []⟩,
  ⟨(some 47), .mv (.tmp 5), some (46, true), []⟩,
  ⟨(some 48), .bin .eql 0 [] (.tmp 47) (.con (.d (.str [48, 46, 55, 32, 114, 117, 110, 110, 105, 110, 103, 32, 116, 114, 105, 112, 58, 32, 100, 111, 110, 101, 32, 110, 111, 110, 101]))), some (46, true), []⟩,
  ⟨(some 49), .pick (.tmp 46) (.tmp 48) (.con (.d (.bool false))), none, []⟩,
  ⟨(some 50), .mv (.tmp 49), none, []⟩,
  ⟨(some 51), .mv (.tmp 6), some (50, true), []⟩,
  ⟨(some 52), .bin .eql 0 [] (.tmp 51) (.con (.d (.int .i64 0))), some (50, true), []⟩,
  ⟨(some 53), .pick (.tmp 50) (.tmp 52) (.con (.d (.bool false))), none, []⟩,
  ⟨(some 54), .mv (.tmp 53), none, []⟩,
  ⟨(some 55), .load 9 true (.tmp 2), some (54, true), []⟩,
  ⟨(some 56), .call (.con (.fn 26 [] [])) [(.tmp 55)], some (54, true), []⟩,
  ⟨(some 57), .bin .eql 0 [] (.tmp 56) (.con (.d (.int .i64 246))), some (54, true), []⟩,
  ⟨(some 58), .pick (.tmp 54) (.tmp 57) (.con (.d (.bool false))), none, []⟩,
  ⟨(some 59), .mv (.tmp 58), none, []⟩,
  ⟨(some 60), .call (.con (.fn 37 [] [])) [(.con (.d (.int .i64 5)))], some (59, true), []⟩,
  ⟨(some 61), .bin .eql 0 [] (.tmp 60) (.con (.d (.str [115, 116, 117, 99, 107]))), some (59, true), []⟩,
  ⟨(some 62), .pick (.tmp 59) (.tmp 61) (.con (.d (.bool false))), none, []⟩,
  ⟨(some 63), .mv (.tmp 62), none, []⟩,
  ⟨(some 64), .mv (.tmp 8), some (63, true), []⟩,
  ⟨(some 65), .un .not (.tmp 64), some (63, true), []⟩,
  ⟨(some 66), .pick (.tmp 63) (.tmp 65) (.con (.d (.bool false))), none, []⟩,
  ⟨(some 0), .mv (.tmp 66), none, []⟩])
 (.ret)))))))⟩
/-- entente/next.Next -/
def c21 : AFn := ⟨62, [.cell 2 8 true, .tmp 3], .seq (.ops false [⟨(some 1), .box (.tmp 0), none, []⟩,
  ⟨(some 2), .alloc [(.int .i64 0), (.int .i64 0), (.int .i64 0), (.sl (.agg [(.int .i64), (.int .i64)]) true []), (.int .i64 0), (.int .i64 0), (.str []), (.sl (.agg [(.int .i64), .str, (.int .i64), (.int .i64), .str, (.int .i64), (.int .i64)]) true [])], none, []⟩,
  ⟨(some 3), .mv (.con (.d (.bool false))), none, []⟩])
 (.seq (.seq (.ops false [⟨(some 7), .load 9 true (.tmp 1), none, []⟩,
  ⟨(some 8), .call (.con (.fn 22 [] [])) [(.tmp 7)], none, []⟩,
  ⟨(some 9), .bin .neq 0 [] (.tmp 8) (.con (.d (.int .i64 0))), none, []⟩])
 (.cond (.tmp 9) (.seq (.ops false [⟨(some 10), .build [(.int .i64 0), (.int .i64 0), (.int .i64 0), (.sl (.agg [(.int .i64), (.int .i64)]) true []), (.int .i64 0), (.int .i64 0), (.str []), (.sl (.agg [(.int .i64), .str, (.int .i64), (.int .i64), .str, (.int .i64), (.int .i64)]) true [])] [], none, []⟩,
  ⟨none, .store 8 (.tmp 2) (.tmp 10), none, []⟩,
  ⟨(some 3), .mv (.con (.d (.bool false))), none, []⟩])
 (.ret)) (.skip)))
 (.seq (.ops false [⟨(some 11), .build [(.int .i64 0), (.int .i64 0), (.int .i64 0), (.sl (.agg [(.int .i64), (.int .i64)]) true []), (.int .i64 0), (.int .i64 0), (.str []), (.sl (.agg [(.int .i64), .str, (.int .i64), (.int .i64), .str, (.int .i64), (.int .i64)]) true [])] [], none, []⟩,
  ⟨(some 4), .alloc [(.int .i64 0), (.int .i64 0), (.int .i64 0), (.sl (.agg [(.int .i64), (.int .i64)]) true []), (.int .i64 0), (.int .i64 0), (.str []), (.sl (.agg [(.int .i64), .str, (.int .i64), (.int .i64), .str, (.int .i64), (.int .i64)]) true [])], none, []⟩,
  ⟨none, .store 8 (.tmp 4) (.tmp 11), none, []⟩,
  ⟨(some 5), .mv (.con (.d (.bool false))), none, []⟩])
 (.seq (.ops false [⟨(some 12), .fldA 7 (.tmp 1), none, []⟩,
  ⟨(some 13), .load 1 false (.tmp 12), none, []⟩,
  ⟨(some 14), .call (.con (.fn 38 [] [])) [(.tmp 13), (.con (.fn 39 [] []))], none, []⟩,
  ⟨(some 6), .mv (.tmp 14), none, []⟩])
 (.seq (.block 0 (.seq (.ops false [⟨(some 16), .mv (.tmp 6), none, []⟩,
  ⟨(some 17), .mv (.tmp 16), none, []⟩,
  ⟨(some 18), .fldA 5 (.tmp 1), some (17, true), []⟩,
  ⟨(some 19), .load 1 false (.tmp 18), some (17, true), []⟩,
  ⟨(some 20), .bin .eql 0 [] (.tmp 19) (.con (.d (.int .i64 1))), some (17, true), []⟩,
  ⟨(some 21), .mv (.tmp 20), some (17, true), []⟩,
  ⟨(some 22), .fldA 5 (.tmp 1), some (21, false), []⟩,
  ⟨(some 23), .load 1 false (.tmp 22), some (21, false), []⟩,
  ⟨(some 24), .bin .eql 0 [] (.tmp 23) (.con (.d (.int .i64 2))), some (21, false), []⟩,
  ⟨(some 25), .pick (.tmp 21) (.con (.d (.bool true))) (.tmp 24), some (17, true), []⟩,
  ⟨(some 26), .pick (.tmp 17) (.tmp 25) (.con (.d (.bool false))), none, []⟩,
  ⟨(some 15), .mv (.tmp 26), none, []⟩])
 (.cond (.tmp 15) (.ops false [⟨(some 28), .call (.con (.fn 40 [] [])) [(.con (.d (.int .i64 5)))], none, []⟩,
  ⟨(some 27), .mv (.tmp 28), none, []⟩,
  ⟨(some 29), .ext 0 (.tmp 27), none, []⟩,
  ⟨(some 30), .ext 1 (.tmp 27), none, []⟩,
  ⟨none, .store 8 (.tmp 4) (.tmp 29), none, []⟩,
  ⟨(some 5), .mv (.tmp 30), none, []⟩]) (.seq (.ops false [⟨(some 32), .fldA 5 (.tmp 1), none, []⟩,
  ⟨(some 33), .load 1 false (.tmp 32), none, []⟩,
  ⟨(some 34), .bin .eql 0 [] (.tmp 33) (.con (.d (.int .i64 1))), none, []⟩,
  ⟨(some 31), .mv (.tmp 34), none, []⟩])
 (.cond (.tmp 31) (.ops false [⟨(some 36), .load 9 true (.tmp 1), none, []⟩,
  ⟨(some 37), .call (.con (.fn 41 [] [])) [(.tmp 36)], none, []⟩,
  ⟨(some 35), .mv (.tmp 37), none, []⟩,
  ⟨(some 38), .ext 0 (.tmp 35), none, []⟩,
  ⟨(some 39), .ext 1 (.tmp 35), none, []⟩,
  ⟨none, .store 8 (.tmp 4) (.tmp 38), none, []⟩,
  ⟨(some 5), .mv (.tmp 39), none, []⟩]) (.seq (.ops false [⟨(some 41), .fldA 5 (.tmp 1), none, []⟩,
  ⟨(some 42), .load 1 false (.tmp 41), none, []⟩,
  ⟨(some 43), .bin .eql 0 [] (.tmp 42) (.con (.d (.int .i64 4))), none, []⟩,
  ⟨(some 40), .mv (.tmp 43), none, []⟩])
 (.cond (.tmp 40) (.ops false [⟨(some 45), .load 9 true (.tmp 1), none, []⟩,
  ⟨(some 46), .call (.con (.fn 42 [] [])) [(.tmp 45)], none, []⟩,
  ⟨(some 44), .mv (.tmp 46), none, []⟩,
  ⟨(some 47), .ext 0 (.tmp 44), none, []⟩,
  ⟨(some 48), .ext 1 (.tmp 44), none, []⟩,
  ⟨none, .store 8 (.tmp 4) (.tmp 47), none, []⟩,
  ⟨(some 5), .mv (.tmp 48), none, []⟩]) (.skip))))))))
 (.seq (.seq (.ops false [⟨(some 49), .mv (.tmp 5), none, []⟩,
  ⟨(some 50), .un .not (.tmp 49), none, []⟩])
 (.cond (.tmp 50) (.seq (.ops false [⟨(some 51), .build [(.int .i64 0), (.int .i64 0), (.int .i64 0), (.sl (.agg [(.int .i64), (.int .i64)]) true []), (.int .i64 0), (.int .i64 0), (.str []), (.sl (.agg [(.int .i64), .str, (.int .i64), (.int .i64), .str, (.int .i64), (.int .i64)]) true [])] [], none, []⟩,
  ⟨none, .store 8 (.tmp 2) (.tmp 51), none, []⟩,
  ⟨(some 3), .mv (.con (.d (.bool false))), none, []⟩])
 (.ret)) (.skip)))
 (.seq (.ops false [⟨(some 52), .fldA 0 (.tmp 1), none, []⟩,
  ⟨(some 53), .load 3 true (.tmp 52), none, []⟩,
  ⟨(some 54), .fldA 1 (.tmp 4), none, []⟩,
  ⟨none, .store 3 (.tmp 54) (.tmp 53), none, []⟩])
 (.seq (.ops false [⟨(some 55), .fldA 0 (.tmp 1), none, []⟩,
  ⟨(some 56), .fldA 2 (.tmp 55), none, []⟩,
  ⟨(some 57), .load 1 false (.tmp 56), none, []⟩,
  ⟨(some 58), .call (.con (.fn 43 [] [])) [(.tmp 57)], none, []⟩,
  ⟨(some 59), .fldA 1 (.tmp 4), none, []⟩,
  ⟨(some 60), .fldA 2 (.tmp 59), none, []⟩,
  ⟨none, .store 1 (.tmp 60) (.tmp 58), none, []⟩])
 (.seq (.ops false [⟨(some 61), .load 8 true (.tmp 4), none, []⟩,
  ⟨none, .store 8 (.tmp 2) (.tmp 61), none, []⟩,
  ⟨(some 3), .mv (.con (.d (.bool true))), none, []⟩])
 (.ret)))))))))⟩
/-- entente/saga.May -/
def c22 : AFn := ⟨71, [.tmp 2], .seq (.ops false [⟨(some 1), .box (.tmp 0), none, []⟩,
  ⟨(some 2), .mv (.con (.d (.int .i64 0))), none, []⟩])
 (.seq (.ops false [⟨(some 5), .load 9 true (.tmp 1), none, []⟩,
  ⟨(some 6), .build [(.int .i64 0), (.int .i64 0), (.sl (.agg [(.int .i64), (.int .i64)]) true []), (.str []), (.sl (.agg [(.int .i64), .str, (.int .i64), (.int .i64), .str, (.int .i64), (.int .i64)]) true []), (.int .i64 0), (.int .i64 0), (.sl (.agg [(.int .i64), (.int .i64)]) true []), (.bool false)] [(0, 9, (.tmp 5))], none, []⟩,
  ⟨(some 7), .box (.tmp 6), none, []⟩,
  ⟨(some 3), .alloc [.nilp], none, []⟩,
  ⟨none, .store 1 (.tmp 3) (.tmp 7), none, []⟩])
 (.seq (.seq (.ops false [⟨(some 8), .fldA 0 (.tmp 1), none, []⟩,
  ⟨(some 9), .load 3 true (.tmp 8), none, []⟩,
  ⟨(some 10), .call (.con (.fn 44 [] [])) [(.tmp 9)], none, []⟩,
  ⟨(some 11), .bin .neq 0 [] (.tmp 10) (.con (.d (.int .i64 0))), none, []⟩])
 (.cond (.tmp 11) (.seq (.ops false [⟨(some 2), .mv (.con (.d (.int .i64 230))), none, []⟩])
 (.ret)) (.skip)))
 (.seq (.seq (.ops false [⟨(some 12), .fldA 5 (.tmp 1), none, []⟩,
  ⟨(some 13), .load 1 false (.tmp 12), none, []⟩,
  ⟨(some 14), .bin .eql 0 [] (.tmp 13) (.con (.d (.int .i64 7))), none, []⟩])
 (.cond (.tmp 14) (.seq (.seq (.ops false [⟨(some 15), .fldA 3 (.tmp 1), none, []⟩,
  ⟨(some 16), .fldA 0 (.tmp 15), none, []⟩,
  ⟨(some 17), .load 1 false (.tmp 16), none, []⟩,
  ⟨(some 18), .bin .neq 0 [] (.tmp 17) (.con (.d (.str []))), none, []⟩,
  ⟨(some 19), .mv (.tmp 18), none, []⟩,
  ⟨(some 20), .fldA 3 (.tmp 1), some (19, false), []⟩,
  ⟨(some 21), .fldA 1 (.tmp 20), some (19, false), []⟩,
  ⟨(some 22), .load 1 false (.tmp 21), some (19, false), []⟩,
  ⟨(some 23), .len 1 (.tmp 22), some (19, false), []⟩,
  ⟨(some 24), .fldA 7 (.tmp 1), some (19, false), []⟩,
  ⟨(some 25), .load 1 false (.tmp 24), some (19, false), []⟩,
  ⟨(some 26), .len 1 (.tmp 25), some (19, false), []⟩,
  ⟨(some 27), .bin .add 0 [] (.tmp 23) (.tmp 26), some (19, false), []⟩,
  ⟨(some 28), .bin .gtr 0 [] (.tmp 27) (.con (.d (.int .i64 0))), some (19, false), []⟩,
  ⟨(some 29), .pick (.tmp 19) (.con (.d (.bool true))) (.tmp 28), none, []⟩,
  ⟨(some 30), .mv (.tmp 29), none, []⟩,
  ⟨(some 31), .fldA 6 (.tmp 1), some (30, false), []⟩,
  ⟨(some 32), .load 1 false (.tmp 31), some (30, false), []⟩,
  ⟨(some 33), .call (.con (.fn 45 [] [])) [(.tmp 32)], some (30, false), []⟩,
  ⟨(some 34), .un .not (.tmp 33), some (30, false), []⟩,
  ⟨(some 35), .pick (.tmp 30) (.con (.d (.bool true))) (.tmp 34), none, []⟩,
  ⟨(some 36), .mv (.tmp 35), none, []⟩,
  ⟨(some 37), .fldA 8 (.tmp 1), some (36, false), []⟩,
  ⟨(some 38), .load 1 false (.tmp 37), some (36, false), []⟩,
  ⟨(some 39), .pick (.tmp 36) (.con (.d (.bool true))) (.tmp 38), none, []⟩,
  ⟨(some 40), .mv (.tmp 39), none, []⟩,
  ⟨(some 41), .fldA 0 (.tmp 1), some (40, false), []⟩,
  ⟨(some 42), .fldA 2 (.tmp 41), some (40, false), []⟩,
  ⟨(some 43), .load 1 false (.tmp 42), some (40, false), []⟩,
  ⟨(some 44), .len 1 (.tmp 43), some (40, false), []⟩,
  ⟨(some 45), .bin .eql 0 [] (.tmp 44) (.con (.d (.int .i64 0))), some (40, false), []⟩,
  ⟨(some 46), .pick (.tmp 40) (.con (.d (.bool true))) (.tmp 45), none, []⟩])
 (.cond (.tmp 46) (.seq (.ops false [⟨(some 2), .mv (.con (.d (.int .i64 230))), none, []⟩])
 (.ret)) (.skip)))
 (.seq (.ops false [⟨(some 2), .mv (.con (.d (.int .i64 0))), none, []⟩])
 (.ret))) (.skip)))
 (.seq (.seq (.ops false [⟨(some 47), .fldA 3 (.tmp 1), none, []⟩,
  ⟨(some 48), .load 2 true (.tmp 47), none, []⟩,
  ⟨(some 49), .call (.con (.fn 32 [] [])) [(.tmp 48)], none, []⟩,
  ⟨(some 50), .bin .neq 0 [] (.tmp 49) (.con (.d (.int .i64 0))), none, []⟩,
  ⟨(some 51), .mv (.tmp 50), none, []⟩,
  ⟨(some 52), .fldA 7 (.tmp 1), some (51, false), []⟩,
  ⟨(some 53), .load 1 false (.tmp 52), some (51, false), []⟩,
  ⟨(some 54), .len 1 (.tmp 53), some (51, false), []⟩,
  ⟨(some 55), .fldA 3 (.tmp 1), some (51, false), []⟩,
  ⟨(some 56), .fldA 1 (.tmp 55), some (51, false), []⟩,
  ⟨(some 57), .load 1 false (.tmp 56), some (51, false), []⟩,
  ⟨(some 58), .len 1 (.tmp 57), some (51, false), []⟩,
  ⟨(some 59), .bin .neq 0 [] (.tmp 54) (.tmp 58), some (51, false), []⟩,
  ⟨(some 60), .pick (.tmp 51) (.con (.d (.bool true))) (.tmp 59), none, []⟩])
 (.cond (.tmp 60) (.seq (.ops false [⟨(some 2), .mv (.con (.d (.int .i64 230))), none, []⟩])
 (.ret)) (.skip)))
 (.seq (.ops false [⟨(some 61), .load 1 false (.tmp 3), none, []⟩,
  ⟨(some 62), .mkF 47 [] [(.tmp 1), (.tmp 3)], none, []⟩,
  ⟨(some 63), .call (.con (.fn 46 [] [])) [(.tmp 61), (.tmp 62)], none, []⟩,
  ⟨(some 4), .mv (.tmp 63), none, []⟩])
 (.seq (.seq (.ops false [⟨(some 64), .mv (.tmp 4), none, []⟩,
  ⟨(some 65), .un .not (.tmp 64), none, []⟩,
  ⟨(some 66), .mv (.tmp 65), none, []⟩,
  ⟨(some 67), .load 1 false (.tmp 3), some (66, false), []⟩,
  ⟨(some 68), .call (.con (.fn 49 [] [])) [(.tmp 67)], some (66, false), []⟩,
  ⟨(some 69), .un .not (.tmp 68), some (66, false), []⟩,
  ⟨(some 70), .pick (.tmp 66) (.con (.d (.bool true))) (.tmp 69), none, []⟩])
 (.cond (.tmp 70) (.seq (.ops false [⟨(some 2), .mv (.con (.d (.int .i64 230))), none, []⟩])
 (.ret)) (.skip)))
 (.seq (.ops false [⟨(some 2), .mv (.con (.d (.int .i64 0))), none, []⟩])
 (.ret))))))))⟩
/-- entente/saga.Current -/
def c23 : AFn := ⟨12, [.tmp 2], .seq (.ops false [⟨(some 1), .box (.tmp 0), none, []⟩,
  ⟨(some 2), .mv (.con (.d (.int .i64 0))), none, []⟩])
 (.seq (.seq (.ops false [⟨(some 4), .load 9 true (.tmp 1), none, []⟩,
  ⟨(some 5), .call (.con (.fn 22 [] [])) [(.tmp 4)], none, []⟩,
  ⟨(some 6), .bin .neq 0 [] (.tmp 5) (.con (.d (.int .i64 0))), none, []⟩])
 (.cond (.tmp 6) (.seq (.ops false [⟨(some 2), .mv (.con (.d (.int .i64 (-1)))), none, []⟩])
 (.ret)) (.skip)))
 (.seq (.ops false [⟨(some 7), .load 9 true (.tmp 1), none, []⟩,
  ⟨(some 8), .build [(.int .i64 0), (.int .i64 0), (.sl (.agg [(.int .i64), (.int .i64)]) true []), (.str []), (.sl (.agg [(.int .i64), .str, (.int .i64), (.int .i64), .str, (.int .i64), (.int .i64)]) true []), (.int .i64 0), (.int .i64 0), (.sl (.agg [(.int .i64), (.int .i64)]) true []), (.bool false)] [(0, 9, (.tmp 7))], none, []⟩,
  ⟨(some 9), .box (.tmp 8), none, []⟩,
  ⟨(some 3), .mv (.tmp 9), none, []⟩])
 (.seq (.ops false [⟨(some 10), .mv (.tmp 3), none, []⟩,
  ⟨(some 11), .call (.con (.fn 50 [] [])) [(.tmp 10)], none, []⟩,
  ⟨(some 2), .mv (.tmp 11), none, []⟩])
 (.ret))))⟩
/-- entente/saga.Apply -/
def c24 : AFn := ⟨39, [.cell 4 9 true, .tmp 5], .seq (.ops false [⟨(some 2), .box (.tmp 0), none, []⟩,
  ⟨(some 3), .box (.tmp 1), none, []⟩,
  ⟨(some 4), .alloc [(.int .i64 0), (.int .i64 0), (.sl (.agg [(.int .i64), (.int .i64)]) true []), (.str []), (.sl (.agg [(.int .i64), .str, (.int .i64), (.int .i64), .str, (.int .i64), (.int .i64)]) true []), (.int .i64 0), (.int .i64 0), (.sl (.agg [(.int .i64), (.int .i64)]) true []), (.bool false)], none, []⟩,
  ⟨(some 5), .mv (.con (.d (.int .i64 0))), none, []⟩])
 (.seq (.seq (.ops false [⟨(some 8), .load 9 true (.tmp 2), none, []⟩,
  ⟨(some 9), .call (.con (.fn 22 [] [])) [(.tmp 8)], none, []⟩,
  ⟨(some 6), .mv (.tmp 9), none, []⟩])
 (.seq (.ops false [⟨(some 10), .mv (.tmp 6), none, []⟩,
  ⟨(some 11), .bin .neq 0 [] (.tmp 10) (.con (.d (.int .i64 0))), none, []⟩])
 (.cond (.tmp 11) (.seq (.ops false [⟨(some 12), .build [(.int .i64 0), (.int .i64 0), (.sl (.agg [(.int .i64), (.int .i64)]) true []), (.str []), (.sl (.agg [(.int .i64), .str, (.int .i64), (.int .i64), .str, (.int .i64), (.int .i64)]) true []), (.int .i64 0), (.int .i64 0), (.sl (.agg [(.int .i64), (.int .i64)]) true []), (.bool false)] [], none, []⟩,
  ⟨(some 13), .mv (.tmp 6), none, []⟩,
  ⟨none, .store 9 (.tmp 4) (.tmp 12), none, []⟩,
  ⟨(some 5), .mv (.tmp 13), none, []⟩])
 (.ret)) (.skip))))
 (.seq (.seq (.ops false [⟨(some 14), .load 8 true (.tmp 3), none, []⟩,
  ⟨(some 15), .call (.con (.fn 51 [] [])) [(.tmp 14)], none, []⟩,
  ⟨(some 16), .bin .neq 0 [] (.tmp 15) (.con (.d (.int .i64 0))), none, []⟩,
  ⟨(some 17), .mv (.tmp 16), none, []⟩,
  ⟨(some 18), .fldA 1 (.tmp 3), some (17, false), []⟩,
  ⟨(some 19), .load 3 true (.tmp 18), some (17, false), []⟩,
  ⟨(some 20), .fldA 0 (.tmp 2), some (17, false), []⟩,
  ⟨(some 21), .load 3 true (.tmp 20), some (17, false), []⟩,
  ⟨(some 22), .call (.con (.fn 52 [] [])) [(.tmp 19), (.tmp 21)], some (17, false), []⟩,
  ⟨(some 23), .bin .neq 0 [] (.tmp 22) (.con (.d (.int .i64 0))), some (17, false), []⟩,
  ⟨(some 24), .pick (.tmp 17) (.con (.d (.bool true))) (.tmp 23), none, []⟩])
 (.cond (.tmp 24) (.seq (.ops false [⟨(some 25), .build [(.int .i64 0), (.int .i64 0), (.sl (.agg [(.int .i64), (.int .i64)]) true []), (.str []), (.sl (.agg [(.int .i64), .str, (.int .i64), (.int .i64), .str, (.int .i64), (.int .i64)]) true []), (.int .i64 0), (.int .i64 0), (.sl (.agg [(.int .i64), (.int .i64)]) true []), (.bool false)] [], none, []⟩,
  ⟨none, .store 9 (.tmp 4) (.tmp 25), none, []⟩,
  ⟨(some 5), .mv (.con (.d (.int .i64 210))), none, []⟩])
 (.ret)) (.skip)))
 (.seq (.ops false [⟨(some 26), .load 9 true (.tmp 2), none, []⟩,
  ⟨(some 27), .call (.con (.fn 53 [] [])) [(.tmp 26)], none, []⟩,
  ⟨(some 28), .build [(.int .i64 0), (.int .i64 0), (.sl (.agg [(.int .i64), (.int .i64)]) true []), (.str []), (.sl (.agg [(.int .i64), .str, (.int .i64), (.int .i64), .str, (.int .i64), (.int .i64)]) true []), (.int .i64 0), (.int .i64 0), (.sl (.agg [(.int .i64), (.int .i64)]) true []), (.bool false)] [(0, 9, (.tmp 27))], none, []⟩,
  ⟨(some 29), .box (.tmp 28), none, []⟩,
  ⟨(some 7), .mv (.tmp 29), none, []⟩])
 (.seq (.seq (.ops false [⟨(some 30), .mv (.tmp 7), none, []⟩,
  ⟨(some 31), .load 8 true (.tmp 3), none, []⟩,
  ⟨(some 32), .call (.con (.fn 54 [] [])) [(.tmp 30), (.tmp 31)], none, []⟩,
  ⟨(some 33), .un .not (.tmp 32), none, []⟩])
 (.cond (.tmp 33) (.seq (.ops false [⟨(some 34), .build [(.int .i64 0), (.int .i64 0), (.sl (.agg [(.int .i64), (.int .i64)]) true []), (.str []), (.sl (.agg [(.int .i64), .str, (.int .i64), (.int .i64), .str, (.int .i64), (.int .i64)]) true []), (.int .i64 0), (.int .i64 0), (.sl (.agg [(.int .i64), (.int .i64)]) true []), (.bool false)] [], none, []⟩,
  ⟨none, .store 9 (.tmp 4) (.tmp 34), none, []⟩,
  ⟨(some 5), .mv (.con (.d (.int .i64 210))), none, []⟩])
 (.ret)) (.skip)))
 (.seq (.ops false [⟨(some 35), .mv (.tmp 7), none, []⟩,
  ⟨(some 36), .nilck (.tmp 35), none, []⟩,
  ⟨(some 37), .fldA 0 (.tmp 36), none, []⟩,
  ⟨(some 38), .load 9 true (.tmp 37), none, []⟩,
  ⟨none, .store 9 (.tmp 4) (.tmp 38), none, []⟩,
  ⟨(some 5), .mv (.con (.d (.int .i64 0))), none, []⟩])
 (.ret))))))⟩
/-- entente/ententelaw21.FewMove -/
def c25 : AFn := ⟨15, [.tmp 2], .seq (.ops false [⟨(some 1), .box (.tmp 0), none, []⟩,
  ⟨(some 2), .mv (.con (.d (.bool false))), none, []⟩])
 (.seq (.ops false [⟨(some 3), .fldA 1 (.tmp 1), none, []⟩,
  ⟨(some 4), .fldA 2 (.tmp 3), none, []⟩,
  ⟨(some 5), .load 1 false (.tmp 4), none, []⟩,
  ⟨(some 6), .len 1 (.tmp 5), none, []⟩,
  ⟨(some 7), .bin .leq 0 [] (.tmp 6) (.con (.d (.int .i64 50))), none, []⟩,
  ⟨(some 8), .mv (.tmp 7), none, []⟩,
  ⟨(some 9), .fldA 6 (.tmp 1), some (8, true), []⟩,
  ⟨(some 10), .fldA 1 (.tmp 9), some (8, true), []⟩,
  ⟨(some 11), .load 1 false (.tmp 10), some (8, true), []⟩,
  ⟨(some 12), .len 1 (.tmp 11), some (8, true), []⟩,
  ⟨(some 13), .bin .leq 0 [] (.tmp 12) (.con (.d (.int .i64 50))), some (8, true), []⟩,
  ⟨(some 14), .pick (.tmp 8) (.tmp 13) (.con (.d (.bool false))), none, []⟩,
  ⟨(some 2), .mv (.tmp 14), none, []⟩])
 (.ret))⟩
/-- entente/next.Rank -/
def c26 : AFn := ⟨33, [.tmp 2], .seq (.ops false [⟨(some 1), .box (.tmp 0), none, []⟩,
  ⟨(some 2), .mv (.con (.d (.int .i64 0))), none, []⟩])
 (.seq (.seq (.ops false [⟨(some 8), .load 9 true (.tmp 1), none, []⟩,
  ⟨(some 9), .call (.con (.fn 22 [] [])) [(.tmp 8)], none, []⟩,
  ⟨(some 10), .bin .neq 0 [] (.tmp 9) (.con (.d (.int .i64 0))), none, []⟩])
 (.cond (.tmp 10) (.seq (.ops false [⟨(some 2), .mv (.con (.d (.int .i64 0))), none, []⟩])
 (.ret)) (.skip)))
 (.seq (.ops false [⟨(some 11), .build [(.int .i64 0), (.int .i64 0), (.int .i64 0), (.int .i64 0), (.int .i64 0), (.int .i64 0), (.int .i64 0), (.int .i64 0)] [(0, 1, (.con (.d (.int .i64 0)))), (1, 1, (.con (.d (.int .i64 6)))), (2, 1, (.con (.d (.int .i64 5)))), (3, 1, (.con (.d (.int .i64 1)))), (4, 1, (.con (.d (.int .i64 4)))), (5, 1, (.con (.d (.int .i64 3)))), (6, 1, (.con (.d (.int .i64 1)))), (7, 1, (.con (.d (.int .i64 0))))], none, []⟩,
  ⟨(some 3), .allocA (.int .i64) [(.int .i64 0), (.int .i64 0), (.int .i64 0), (.int .i64 0), (.int .i64 0), (.int .i64 0), (.int .i64 0), (.int .i64 0)] 8, none, []⟩,
  ⟨none, .store 8 (.tmp 3) (.tmp 11), none, []⟩])
 (.seq (.ops false [⟨(some 12), .build [(.int .i64 0), (.int .i64 0), (.int .i64 0), (.int .i64 0), (.int .i64 0)] [(0, 1, (.con (.d (.int .i64 4)))), (1, 1, (.con (.d (.int .i64 3)))), (2, 1, (.con (.d (.int .i64 2)))), (3, 1, (.con (.d (.int .i64 1)))), (4, 1, (.con (.d (.int .i64 1))))], none, []⟩,
  ⟨(some 4), .allocA (.int .i64) [(.int .i64 0), (.int .i64 0), (.int .i64 0), (.int .i64 0), (.int .i64 0)] 5, none, []⟩,
  ⟨none, .store 5 (.tmp 4) (.tmp 12), none, []⟩])
 (.seq (.ops true [⟨(some 13), .slcA (.int .i64) 8 (.tmp 3) none none, none, []⟩,
  ⟨(some 14), .fldA 5 (.tmp 1), none, []⟩,
  ⟨(some 15), .load 1 false (.tmp 14), none, [1]⟩,
  ⟨(some 16), .call (.con (.fn 55 [] [])) [(.tmp 13), (.tmp 15)], none, [0, 2]⟩,
  ⟨(some 17), .bin .mul 0 [] (.con (.d (.int .i64 40))) (.tmp 16), none, [3]⟩,
  ⟨(some 5), .mv (.tmp 17), none, [0, 1, 2, 3, 4]⟩])
 (.seq (.seq (.ops false [⟨(some 18), .fldA 7 (.tmp 1), none, []⟩,
  ⟨(some 19), .load 1 false (.tmp 18), none, []⟩,
  ⟨(some 20), .len 1 (.tmp 19), none, []⟩,
  ⟨(some 21), .mv (.con (.d (.int .i64 0))), none, []⟩])
 (.block 0 (.loop 0 (some ([4, 5, 19, 20, 21], [0, 1, 2, 3, 4, 5, 6, 7, 128, 129, 130, 131, 160, 161, 256, 257, 258, 259, 288, 289, 320, 321, 322, 323, 352, 353, 640, 641, 642, 643, 672, 673, 1088, 1089, 1090, 1091, 1120, 1121])) (.seq (.ops false [⟨(some 22), .bin .lss 0 [] (.tmp 21) (.tmp 20), none, []⟩])
 (.seq (.cond (.tmp 22) (.skip) (.exit 0))
 (.seq (.block 1 (.seq (.ops false [⟨(some 23), .ixS (.agg [(.int .i64), (.int .i64)]) (.tmp 19) (.tmp 21), none, []⟩,
  ⟨(some 24), .load 2 true (.tmp 23), none, []⟩,
  ⟨(some 7), .alloc [(.int .i64 0), (.int .i64 0)], none, []⟩,
  ⟨none, .store 2 (.tmp 7) (.tmp 24), none, []⟩])
 (.ops true [⟨(some 25), .mv (.tmp 5), none, []⟩,
  ⟨(some 26), .slcA (.int .i64) 5 (.tmp 4) none none, none, []⟩,
  ⟨(some 27), .fldA 0 (.tmp 7), none, []⟩,
  ⟨(some 28), .load 1 false (.tmp 27), none, [2]⟩,
  ⟨(some 29), .call (.con (.fn 55 [] [])) [(.tmp 26), (.tmp 28)], none, [1, 3]⟩,
  ⟨(some 30), .bin .add 0 [] (.tmp 25) (.tmp 29), none, [0, 4]⟩,
  ⟨(some 5), .mv (.tmp 30), none, [0, 1, 2, 3, 4, 5]⟩])))
 (.ops false [⟨(some 31), .bin .add 0 [] (.tmp 21) (.con (.d (.int .i64 1))), none, []⟩,
  ⟨(some 21), .mv (.tmp 31), none, []⟩])))))))
 (.seq (.ops false [⟨(some 32), .mv (.tmp 5), none, []⟩,
  ⟨(some 2), .mv (.tmp 32), none, []⟩])
 (.ret)))))))⟩
/-- entente/saga.Ended -/
def c27 : AFn := ⟨36, [.tmp 2], .seq (.ops false [⟨(some 1), .box (.tmp 0), none, []⟩,
  ⟨(some 2), .mv (.con (.d (.bool false))), none, []⟩])
 (.seq (.seq (.ops false [⟨(some 4), .load 9 true (.tmp 1), none, []⟩,
  ⟨(some 5), .call (.con (.fn 22 [] [])) [(.tmp 4)], none, []⟩,
  ⟨(some 6), .bin .neq 0 [] (.tmp 5) (.con (.d (.int .i64 0))), none, []⟩])
 (.cond (.tmp 6) (.seq (.ops false [⟨(some 2), .mv (.con (.d (.bool false))), none, []⟩])
 (.ret)) (.skip)))
 (.seq (.ops false [⟨(some 7), .load 9 true (.tmp 1), none, []⟩,
  ⟨(some 8), .build [(.int .i64 0), (.int .i64 0), (.sl (.agg [(.int .i64), (.int .i64)]) true []), (.str []), (.sl (.agg [(.int .i64), .str, (.int .i64), (.int .i64), .str, (.int .i64), (.int .i64)]) true []), (.int .i64 0), (.int .i64 0), (.sl (.agg [(.int .i64), (.int .i64)]) true []), (.bool false)] [(0, 9, (.tmp 7))], none, []⟩,
  ⟨(some 9), .box (.tmp 8), none, []⟩,
  ⟨(some 3), .mv (.tmp 9), none, []⟩])
 (.seq (.seq (.ops false [⟨(some 10), .fldA 5 (.tmp 1), none, []⟩,
  ⟨(some 11), .load 1 false (.tmp 10), none, []⟩])
 (.block 0 (.seq (.ops false [⟨(some 13), .bin .eql 0 [] (.tmp 11) (.con (.d (.int .i64 7))), none, []⟩,
  ⟨(some 12), .mv (.tmp 13), none, []⟩])
 (.cond (.tmp 12) (.seq (.ops false [⟨(some 2), .mv (.con (.d (.bool true))), none, []⟩])
 (.ret)) (.seq (.ops false [⟨(some 15), .bin .eql 0 [] (.tmp 11) (.con (.d (.int .i64 6))), none, []⟩,
  ⟨(some 14), .mv (.tmp 15), none, []⟩])
 (.cond (.tmp 14) (.seq (.ops false [⟨(some 16), .mv (.tmp 3), none, []⟩,
  ⟨(some 17), .buildSl (.int .i64) [(.int .i64 0)] 2 [(0, 1, (.con (.d (.int .i64 1)))), (1, 1, (.con (.d (.int .i64 2))))], none, []⟩,
  ⟨(some 18), .call (.con (.fn 56 [] [])) [(.tmp 16), (.tmp 17)], none, []⟩,
  ⟨(some 19), .un .not (.tmp 18), none, []⟩,
  ⟨(some 2), .mv (.tmp 19), none, []⟩])
 (.ret)) (.seq (.ops false [⟨(some 21), .bin .eql 0 [] (.tmp 11) (.con (.d (.int .i64 3))), none, []⟩,
  ⟨(some 20), .mv (.tmp 21), none, []⟩])
 (.cond (.tmp 20) (.seq (.ops false [⟨(some 22), .mv (.tmp 3), none, []⟩,
  ⟨(some 23), .buildSl (.int .i64) [(.int .i64 0)] 1 [(0, 1, (.con (.d (.int .i64 2))))], none, []⟩,
  ⟨(some 24), .call (.con (.fn 56 [] [])) [(.tmp 22), (.tmp 23)], none, []⟩,
  ⟨(some 25), .un .not (.tmp 24), none, []⟩,
  ⟨(some 26), .mv (.tmp 25), none, []⟩,
  ⟨(some 27), .fldA 8 (.tmp 1), some (26, true), []⟩,
  ⟨(some 28), .load 1 false (.tmp 27), some (26, true), []⟩,
  ⟨(some 29), .mv (.tmp 28), some (26, true), []⟩,
  ⟨(some 30), .mv (.tmp 3), some (29, true), []⟩,
  ⟨(some 31), .buildSl (.int .i64) [(.int .i64 0)] 1 [(0, 1, (.con (.d (.int .i64 1))))], some (29, true), []⟩,
  ⟨(some 32), .call (.con (.fn 56 [] [])) [(.tmp 30), (.tmp 31)], some (29, true), []⟩,
  ⟨(some 33), .pick (.tmp 29) (.tmp 32) (.con (.d (.bool false))), some (26, true), []⟩,
  ⟨(some 34), .un .not (.tmp 33), some (26, true), []⟩,
  ⟨(some 35), .pick (.tmp 26) (.tmp 34) (.con (.d (.bool false))), none, []⟩,
  ⟨(some 2), .mv (.tmp 35), none, []⟩])
 (.ret)) (.skip)))))))))
 (.seq (.ops false [⟨(some 2), .mv (.con (.d (.bool false))), none, []⟩])
 (.ret)))))⟩
/-- entente/ententelaw22.answered -/
def c28 : AFn := ⟨100, [.cell 2 8 true, .tmp 3], .seq (.ops false [⟨(some 1), .box (.tmp 0), none, []⟩,
  ⟨(some 2), .alloc [(.int .i64 0), (.int .i64 0), (.int .i64 0), (.sl (.agg [(.int .i64), (.int .i64)]) true []), (.int .i64 0), (.int .i64 0), (.str []), (.sl (.agg [(.int .i64), .str, (.int .i64), (.int .i64), .str, (.int .i64), (.int .i64)]) true [])], none, []⟩,
  ⟨(some 3), .mv (.con (.d (.bool false))), none, []⟩])
 (.seq (.ops false [⟨(some 6), .fldA 0 (.tmp 1), none, []⟩,
  ⟨(some 7), .load 3 true (.tmp 6), none, []⟩,
  ⟨(some 8), .build [(.int .i64 0), (.int .i64 0), (.int .i64 0), (.sl (.agg [(.int .i64), (.int .i64)]) true []), (.int .i64 0), (.int .i64 0), (.str []), (.sl (.agg [(.int .i64), .str, (.int .i64), (.int .i64), .str, (.int .i64), (.int .i64)]) true [])] [(1, 3, (.tmp 7))], none, []⟩,
  ⟨(some 4), .alloc [(.int .i64 0), (.int .i64 0), (.int .i64 0), (.sl (.agg [(.int .i64), (.int .i64)]) true []), (.int .i64 0), (.int .i64 0), (.str []), (.sl (.agg [(.int .i64), .str, (.int .i64), (.int .i64), .str, (.int .i64), (.int .i64)]) true [])], none, []⟩,
  ⟨none, .store 8 (.tmp 4) (.tmp 8), none, []⟩])
 (.seq (.seq (.ops false [⟨(some 5), .mv (.con (.d (.int .i64 0))), none, []⟩])
 (.block 0 (.loop 0 (some ([1, 2, 4, 5], [0, 1, 2, 3, 4, 5, 6, 7, 128, 129, 130, 131, 160, 161, 192, 193, 194, 195, 224, 225, 320, 321, 322, 323, 352, 353])) (.seq (.seq (.ops false [⟨(some 9), .mv (.tmp 5), none, []⟩,
  ⟨(some 10), .fldA 7 (.tmp 1), none, []⟩,
  ⟨(some 11), .load 1 false (.tmp 10), none, []⟩,
  ⟨(some 12), .len 1 (.tmp 11), none, []⟩,
  ⟨(some 13), .bin .lss 0 [] (.tmp 9) (.tmp 12), none, []⟩])
 (.cond (.tmp 13) (.skip) (.exit 0)))
 (.seq (.block 1 (.seq (.ops false [⟨(some 16), .mv (.tmp 5), none, []⟩,
  ⟨(some 17), .fldA 4 (.tmp 4), none, []⟩,
  ⟨none, .store 1 (.tmp 17) (.tmp 16), none, []⟩])
 (.block 2 (.seq (.ops false [⟨(some 19), .fldA 3 (.tmp 1), none, []⟩,
  ⟨(some 20), .fldA 1 (.tmp 19), none, []⟩,
  ⟨(some 21), .load 1 false (.tmp 20), none, []⟩,
  ⟨(some 22), .mv (.tmp 5), none, []⟩,
  ⟨(some 23), .ixS (.agg [(.int .i64), .str, (.int .i64), (.int .i64), .str, (.int .i64), (.int .i64)]) (.tmp 21) (.tmp 22), none, []⟩,
  ⟨(some 24), .fldA 4 (.tmp 23), none, []⟩,
  ⟨(some 25), .load 1 false (.tmp 24), none, []⟩,
  ⟨(some 26), .bin .eql 0 [] (.tmp 25) (.con (.d (.str []))), none, []⟩,
  ⟨(some 18), .mv (.tmp 26), none, []⟩])
 (.cond (.tmp 18) (.skip) (.seq (.ops false [⟨(some 28), .fldA 5 (.tmp 1), none, []⟩,
  ⟨(some 29), .load 1 false (.tmp 28), none, []⟩,
  ⟨(some 30), .bin .eql 0 [] (.tmp 29) (.con (.d (.int .i64 1))), none, []⟩,
  ⟨(some 31), .mv (.tmp 30), none, []⟩,
  ⟨(some 32), .fldA 7 (.tmp 1), some (31, true), []⟩,
  ⟨(some 33), .load 1 false (.tmp 32), some (31, true), []⟩,
  ⟨(some 34), .mv (.tmp 5), some (31, true), []⟩,
  ⟨(some 35), .ixS (.agg [(.int .i64), (.int .i64)]) (.tmp 33) (.tmp 34), some (31, true), []⟩,
  ⟨(some 36), .fldA 0 (.tmp 35), some (31, true), []⟩,
  ⟨(some 37), .load 1 false (.tmp 36), some (31, true), []⟩,
  ⟨(some 38), .bin .eql 0 [] (.tmp 37) (.con (.d (.int .i64 1))), some (31, true), []⟩,
  ⟨(some 39), .pick (.tmp 31) (.tmp 38) (.con (.d (.bool false))), none, []⟩,
  ⟨(some 27), .mv (.tmp 39), none, []⟩])
 (.cond (.tmp 27) (.seq (.ops false [⟨(some 40), .fldA 0 (.tmp 4), none, []⟩,
  ⟨none, .store 1 (.tmp 40) (.con (.d (.int .i64 6))), none, []⟩])
 (.seq (.ops false [⟨(some 41), .load 8 true (.tmp 4), none, []⟩,
  ⟨none, .store 8 (.tmp 2) (.tmp 41), none, []⟩,
  ⟨(some 3), .mv (.con (.d (.bool true))), none, []⟩])
 (.ret))) (.seq (.ops false [⟨(some 43), .fldA 5 (.tmp 1), none, []⟩,
  ⟨(some 44), .load 1 false (.tmp 43), none, []⟩,
  ⟨(some 45), .bin .eql 0 [] (.tmp 44) (.con (.d (.int .i64 3))), none, []⟩,
  ⟨(some 46), .mv (.tmp 45), none, []⟩,
  ⟨(some 47), .fldA 7 (.tmp 1), some (46, true), []⟩,
  ⟨(some 48), .load 1 false (.tmp 47), some (46, true), []⟩,
  ⟨(some 49), .mv (.tmp 5), some (46, true), []⟩,
  ⟨(some 50), .ixS (.agg [(.int .i64), (.int .i64)]) (.tmp 48) (.tmp 49), some (46, true), []⟩,
  ⟨(some 51), .fldA 0 (.tmp 50), some (46, true), []⟩,
  ⟨(some 52), .load 1 false (.tmp 51), some (46, true), []⟩,
  ⟨(some 53), .bin .eql 0 [] (.tmp 52) (.con (.d (.int .i64 2))), some (46, true), []⟩,
  ⟨(some 54), .pick (.tmp 46) (.tmp 53) (.con (.d (.bool false))), none, []⟩,
  ⟨(some 42), .mv (.tmp 54), none, []⟩])
 (.cond (.tmp 42) (.seq (.ops false [⟨(some 55), .fldA 0 (.tmp 4), none, []⟩,
  ⟨none, .store 1 (.tmp 55) (.con (.d (.int .i64 15))), none, []⟩])
 (.seq (.ops false [⟨(some 56), .load 8 true (.tmp 4), none, []⟩,
  ⟨none, .store 8 (.tmp 2) (.tmp 56), none, []⟩,
  ⟨(some 3), .mv (.con (.d (.bool true))), none, []⟩])
 (.ret))) (.seq (.ops false [⟨(some 58), .fldA 5 (.tmp 1), none, []⟩,
  ⟨(some 59), .load 1 false (.tmp 58), none, []⟩,
  ⟨(some 60), .bin .eql 0 [] (.tmp 59) (.con (.d (.int .i64 4))), none, []⟩,
  ⟨(some 61), .mv (.tmp 60), none, []⟩,
  ⟨(some 62), .fldA 8 (.tmp 1), some (61, false), []⟩,
  ⟨(some 63), .load 1 false (.tmp 62), some (61, false), []⟩,
  ⟨(some 64), .pick (.tmp 61) (.con (.d (.bool true))) (.tmp 63), none, []⟩,
  ⟨(some 65), .mv (.tmp 64), none, []⟩,
  ⟨(some 66), .fldA 7 (.tmp 1), some (65, true), []⟩,
  ⟨(some 67), .load 1 false (.tmp 66), some (65, true), []⟩,
  ⟨(some 68), .mv (.tmp 5), some (65, true), []⟩,
  ⟨(some 69), .ixS (.agg [(.int .i64), (.int .i64)]) (.tmp 67) (.tmp 68), some (65, true), []⟩,
  ⟨(some 70), .fldA 0 (.tmp 69), some (65, true), []⟩,
  ⟨(some 71), .load 1 false (.tmp 70), some (65, true), []⟩,
  ⟨(some 72), .bin .eql 0 [] (.tmp 71) (.con (.d (.int .i64 1))), some (65, true), []⟩,
  ⟨(some 73), .mv (.tmp 72), some (65, true), []⟩,
  ⟨(some 74), .fldA 7 (.tmp 1), some (73, false), []⟩,
  ⟨(some 75), .load 1 false (.tmp 74), some (73, false), []⟩,
  ⟨(some 76), .mv (.tmp 5), some (73, false), []⟩,
  ⟨(some 77), .ixS (.agg [(.int .i64), (.int .i64)]) (.tmp 75) (.tmp 76), some (73, false), []⟩,
  ⟨(some 78), .fldA 0 (.tmp 77), some (73, false), []⟩,
  ⟨(some 79), .load 1 false (.tmp 78), some (73, false), []⟩,
  ⟨(some 80), .bin .eql 0 [] (.tmp 79) (.con (.d (.int .i64 2))), some (73, false), []⟩,
  ⟨(some 81), .pick (.tmp 73) (.con (.d (.bool true))) (.tmp 80), some (65, true), []⟩,
  ⟨(some 82), .pick (.tmp 65) (.tmp 81) (.con (.d (.bool false))), none, []⟩,
  ⟨(some 57), .mv (.tmp 82), none, []⟩])
 (.cond (.tmp 57) (.seq (.seq (.ops false [⟨(some 83), .fldA 5 (.tmp 1), none, []⟩,
  ⟨(some 84), .load 1 false (.tmp 83), none, []⟩,
  ⟨(some 85), .bin .eql 0 [] (.tmp 84) (.con (.d (.int .i64 4))), none, []⟩,
  ⟨(some 86), .mv (.tmp 85), none, []⟩,
  ⟨(some 87), .mv (.tmp 5), some (86, true), []⟩,
  ⟨(some 88), .load 9 true (.tmp 1), some (86, true), []⟩,
  ⟨(some 89), .call (.con (.fn 23 [] [])) [(.tmp 88)], some (86, true), []⟩,
  ⟨(some 90), .bin .neq 0 [] (.tmp 87) (.tmp 89), some (86, true), []⟩,
  ⟨(some 91), .pick (.tmp 86) (.tmp 90) (.con (.d (.bool false))), none, []⟩])
 (.cond (.tmp 91) (.exit 1) (.skip)))
 (.seq (.ops false [⟨(some 92), .fldA 0 (.tmp 4), none, []⟩,
  ⟨none, .store 1 (.tmp 92) (.con (.d (.int .i64 7))), none, []⟩])
 (.seq (.ops false [⟨(some 93), .load 8 true (.tmp 4), none, []⟩,
  ⟨none, .store 8 (.tmp 2) (.tmp 93), none, []⟩,
  ⟨(some 3), .mv (.con (.d (.bool true))), none, []⟩])
 (.ret)))) (.skip))))))))))))
 (.ops false [⟨(some 14), .mv (.tmp 5), none, []⟩,
  ⟨(some 15), .bin .add 0 [] (.tmp 14) (.con (.d (.int .i64 1))), none, []⟩,
  ⟨(some 5), .mv (.tmp 15), none, []⟩]))))))
 (.seq (.ops false [⟨(some 94), .fldA 4 (.tmp 4), none, []⟩,
  ⟨none, .store 1 (.tmp 94) (.con (.d (.int .i64 0))), none, []⟩])
 (.seq (.ops false [⟨(some 95), .fldA 0 (.tmp 4), none, []⟩,
  ⟨none, .store 1 (.tmp 95) (.con (.d (.int .i64 9))), none, []⟩])
 (.seq (.ops true [⟨(some 96), .load 8 true (.tmp 4), none, []⟩,
  ⟨(some 97), .fldA 5 (.tmp 1), none, []⟩,
  ⟨(some 98), .load 1 false (.tmp 97), none, [1]⟩,
  ⟨(some 99), .bin .eql 0 [] (.tmp 98) (.con (.d (.int .i64 2))), none, [2]⟩,
  ⟨none, .store 8 (.tmp 2) (.tmp 96), none, [0]⟩,
  ⟨(some 3), .mv (.tmp 99), none, [0, 1, 2, 3, 4]⟩])
 (.ret))))))⟩
/-- entente/def.Check -/
def c32 : AFn := ⟨22, [.tmp 2], .seq (.ops false [⟨(some 1), .box (.tmp 0), none, []⟩,
  ⟨(some 2), .mv (.con (.d (.int .i64 0))), none, []⟩])
 (.seq (.seq (.ops false [⟨(some 3), .fldA 0 (.tmp 1), none, []⟩,
  ⟨(some 4), .load 1 false (.tmp 3), none, []⟩,
  ⟨(some 5), .call (.con (.fn 63 [] [])) [(.tmp 4)], none, []⟩,
  ⟨(some 6), .un .not (.tmp 5), none, []⟩,
  ⟨(some 7), .mv (.tmp 6), none, []⟩,
  ⟨(some 8), .fldA 1 (.tmp 1), some (7, false), []⟩,
  ⟨(some 9), .load 1 false (.tmp 8), some (7, false), []⟩,
  ⟨(some 10), .len 1 (.tmp 9), some (7, false), []⟩,
  ⟨(some 11), .bin .lss 0 [] (.tmp 10) (.con (.d (.int .i64 1))), some (7, false), []⟩,
  ⟨(some 12), .pick (.tmp 7) (.con (.d (.bool true))) (.tmp 11), none, []⟩,
  ⟨(some 13), .mv (.tmp 12), none, []⟩,
  ⟨(some 14), .fldA 1 (.tmp 1), some (13, false), []⟩,
  ⟨(some 15), .load 1 false (.tmp 14), some (13, false), []⟩,
  ⟨(some 16), .len 1 (.tmp 15), some (13, false), []⟩,
  ⟨(some 17), .bin .gtr 0 [] (.tmp 16) (.con (.d (.int .i64 8))), some (13, false), []⟩,
  ⟨(some 18), .pick (.tmp 13) (.con (.d (.bool true))) (.tmp 17), none, []⟩])
 (.cond (.tmp 18) (.seq (.ops false [⟨(some 2), .mv (.con (.d (.int .i64 90))), none, []⟩])
 (.ret)) (.skip)))
 (.seq (.seq (.ops false [⟨(some 19), .fldA 1 (.tmp 1), none, []⟩,
  ⟨(some 20), .load 1 false (.tmp 19), none, []⟩,
  ⟨(some 21), .call (.con (.fn 64 [] [])) [(.tmp 20), (.con (.fn 65 [] []))], none, []⟩])
 (.cond (.tmp 21) (.seq (.ops false [⟨(some 2), .mv (.con (.d (.int .i64 90))), none, []⟩])
 (.ret)) (.skip)))
 (.seq (.ops false [⟨(some 2), .mv (.con (.d (.int .i64 0))), none, []⟩])
 (.ret))))⟩
/-- entente/next.Show -/
def c36 : AFn := ⟨78, [.tmp 2, .tmp 3], .seq (.ops false [⟨(some 1), .box (.tmp 0), none, []⟩,
  ⟨(some 2), .mv (.con (.d (.str []))), none, []⟩,
  ⟨(some 3), .mv (.con (.d (.int .i64 0))), none, []⟩])
 (.seq (.seq (.ops false [⟨(some 11), .load 9 true (.tmp 1), none, []⟩,
  ⟨(some 12), .call (.con (.fn 22 [] [])) [(.tmp 11)], none, []⟩,
  ⟨(some 4), .mv (.tmp 12), none, []⟩])
 (.seq (.ops false [⟨(some 13), .mv (.tmp 4), none, []⟩,
  ⟨(some 14), .bin .neq 0 [] (.tmp 13) (.con (.d (.int .i64 0))), none, []⟩])
 (.cond (.tmp 14) (.seq (.ops false [⟨(some 15), .mv (.tmp 4), none, []⟩,
  ⟨(some 2), .mv (.con (.d (.str []))), none, []⟩,
  ⟨(some 3), .mv (.tmp 15), none, []⟩])
 (.ret)) (.skip))))
 (.seq (.ops false [⟨(some 17), .fldA 0 (.tmp 1), none, []⟩,
  ⟨(some 18), .load 3 true (.tmp 17), none, []⟩,
  ⟨(some 19), .call (.con (.fn 71 [] [])) [(.tmp 18)], none, []⟩,
  ⟨(some 16), .mv (.tmp 19), none, []⟩,
  ⟨(some 20), .ext 0 (.tmp 16), none, []⟩,
  ⟨(some 21), .ext 1 (.tmp 16), none, []⟩,
  ⟨(some 5), .mv (.tmp 20), none, []⟩,
  ⟨(some 6), .mv (.tmp 21), none, []⟩])
 (.seq (.ops false [⟨(some 22), .mv (.tmp 5), none, []⟩,
  ⟨(some 23), .bin .add 0 [] (.tmp 22) (.con (.d (.str [32]))), none, []⟩,
  ⟨(some 24), .fldA 5 (.tmp 1), none, []⟩,
  ⟨(some 25), .load 1 false (.tmp 24), none, []⟩,
  ⟨(some 26), .call (.con (.fn 37 [] [])) [(.tmp 25)], none, []⟩,
  ⟨(some 27), .bin .add 0 [] (.tmp 23) (.tmp 26), none, []⟩,
  ⟨(some 7), .mv (.tmp 27), none, []⟩])
 (.seq (.seq (.ops false [⟨(some 28), .fldA 8 (.tmp 1), none, []⟩,
  ⟨(some 29), .load 1 false (.tmp 28), none, []⟩])
 (.cond (.tmp 29) (.ops false [⟨(some 30), .mv (.tmp 7), none, []⟩,
  ⟨(some 31), .bin .add 0 [] (.tmp 30) (.con (.d (.str [32, 102, 111, 114, 99, 101, 100]))), none, []⟩,
  ⟨(some 7), .mv (.tmp 31), none, []⟩]) (.skip)))
 (.seq (.seq (.ops false [⟨(some 32), .fldA 6 (.tmp 1), none, []⟩,
  ⟨(some 33), .load 1 false (.tmp 32), none, []⟩,
  ⟨(some 34), .bin .neq 0 [] (.tmp 33) (.con (.d (.int .i64 0))), none, []⟩])
 (.cond (.tmp 34) (.ops false [⟨(some 35), .mv (.tmp 7), none, []⟩,
  ⟨(some 36), .fldA 6 (.tmp 1), none, []⟩,
  ⟨(some 37), .load 1 false (.tmp 36), none, []⟩,
  ⟨(some 38), .call (.con (.fn 72 [] [])) [(.tmp 37)], none, []⟩,
  ⟨(some 39), .bin .add 0 [] (.con (.d (.str [32, 119, 104, 121, 32]))) (.tmp 38), none, []⟩,
  ⟨(some 40), .bin .add 0 [] (.tmp 35) (.tmp 39), none, []⟩,
  ⟨(some 7), .mv (.tmp 40), none, []⟩]) (.skip)))
 (.seq (.seq (.ops false [⟨(some 41), .fldA 5 (.tmp 1), none, []⟩,
  ⟨(some 42), .load 1 false (.tmp 41), none, []⟩,
  ⟨(some 43), .bin .eql 0 [] (.tmp 42) (.con (.d (.int .i64 7))), none, []⟩])
 (.cond (.tmp 43) (.seq (.ops false [⟨(some 44), .mv (.tmp 7), none, []⟩,
  ⟨(some 2), .mv (.tmp 44), none, []⟩,
  ⟨(some 3), .mv (.con (.d (.int .i64 0))), none, []⟩])
 (.ret)) (.skip)))
 (.seq (.ops false [⟨(some 45), .mv (.tmp 7), none, []⟩,
  ⟨(some 46), .fldA 3 (.tmp 1), none, []⟩,
  ⟨(some 47), .fldA 0 (.tmp 46), none, []⟩,
  ⟨(some 48), .load 1 false (.tmp 47), none, []⟩,
  ⟨(some 49), .bin .add 0 [] (.con (.d (.str [32]))) (.tmp 48), none, []⟩,
  ⟨(some 50), .bin .add 0 [] (.tmp 49) (.con (.d (.str [58]))), none, []⟩,
  ⟨(some 51), .bin .add 0 [] (.tmp 45) (.tmp 50), none, []⟩,
  ⟨(some 7), .mv (.tmp 51), none, []⟩])
 (.seq (.ops false [⟨(some 52), .build [(.str []), (.str []), (.str []), (.str []), (.str [])] [(0, 1, (.con (.d (.str [110, 111, 110, 101])))), (1, 1, (.con (.d (.str [97, 115, 107])))), (2, 1, (.con (.d (.str [100, 111, 110, 101])))), (3, 1, (.con (.d (.str [103, 111, 110, 101])))), (4, 1, (.con (.d (.str [107, 101, 112, 116]))))], none, []⟩,
  ⟨(some 8), .allocA .str [(.str []), (.str []), (.str []), (.str []), (.str [])] 5, none, []⟩,
  ⟨none, .store 5 (.tmp 8) (.tmp 52), none, []⟩])
 (.seq (.seq (.ops false [⟨(some 53), .fldA 7 (.tmp 1), none, []⟩,
  ⟨(some 54), .load 1 false (.tmp 53), none, []⟩,
  ⟨(some 55), .len 1 (.tmp 54), none, []⟩,
  ⟨(some 56), .mv (.con (.d (.int .i64 0))), none, []⟩])
 (.block 0 (.loop 0 (some ([7, 8, 54, 55, 56], [0, 1, 2, 3, 4, 5, 6, 7, 128, 129, 130, 131, 160, 161, 576, 577, 578, 579, 608, 609, 832, 833, 834, 835, 864, 865, 1280, 1281, 1282, 1283, 1312, 1313, 1728, 1729, 1730, 1731, 1760, 1761, 2496, 2497, 2498, 2499, 2528, 2529])) (.seq (.ops false [⟨(some 57), .bin .lss 0 [] (.tmp 56) (.tmp 55), none, []⟩])
 (.seq (.cond (.tmp 57) (.skip) (.exit 0))
 (.seq (.block 1 (.seq (.ops false [⟨(some 58), .ixS (.agg [(.int .i64), (.int .i64)]) (.tmp 54) (.tmp 56), none, []⟩,
  ⟨(some 59), .load 2 true (.tmp 58), none, []⟩,
  ⟨(some 10), .alloc [(.int .i64 0), (.int .i64 0)], none, []⟩,
  ⟨none, .store 2 (.tmp 10) (.tmp 59), none, []⟩])
 (.seq (.ops true [⟨(some 60), .mv (.tmp 7), none, []⟩,
  ⟨(some 61), .slcA .str 5 (.tmp 8) none none, none, []⟩,
  ⟨(some 62), .fldA 0 (.tmp 10), none, []⟩,
  ⟨(some 63), .load 1 false (.tmp 62), none, [2]⟩,
  ⟨(some 64), .call (.con (.fn 73 [] [])) [(.tmp 61), (.tmp 63)], none, [1, 3]⟩,
  ⟨(some 65), .bin .add 0 [] (.con (.d (.str [32]))) (.tmp 64), none, [4]⟩,
  ⟨(some 66), .bin .add 0 [] (.tmp 60) (.tmp 65), none, [0, 5]⟩,
  ⟨(some 7), .mv (.tmp 66), none, [0, 1, 2, 3, 4, 5, 6]⟩])
 (.seq (.ops false [⟨(some 67), .fldA 1 (.tmp 10), none, []⟩,
  ⟨(some 68), .load 1 false (.tmp 67), none, []⟩,
  ⟨(some 69), .bin .neq 0 [] (.tmp 68) (.con (.d (.int .i64 0))), none, []⟩])
 (.cond (.tmp 69) (.ops false [⟨(some 70), .mv (.tmp 7), none, []⟩,
  ⟨(some 71), .fldA 1 (.tmp 10), none, []⟩,
  ⟨(some 72), .load 1 false (.tmp 71), none, []⟩,
  ⟨(some 73), .call (.con (.fn 72 [] [])) [(.tmp 72)], none, []⟩,
  ⟨(some 74), .bin .add 0 [] (.con (.d (.str [43]))) (.tmp 73), none, []⟩,
  ⟨(some 75), .bin .add 0 [] (.tmp 70) (.tmp 74), none, []⟩,
  ⟨(some 7), .mv (.tmp 75), none, []⟩]) (.skip))))))
 (.ops false [⟨(some 76), .bin .add 0 [] (.tmp 56) (.con (.d (.int .i64 1))), none, []⟩,
  ⟨(some 56), .mv (.tmp 76), none, []⟩])))))))
 (.seq (.ops false [⟨(some 77), .mv (.tmp 7), none, []⟩,
  ⟨(some 2), .mv (.tmp 77), none, []⟩,
  ⟨(some 3), .mv (.con (.d (.int .i64 0))), none, []⟩])
 (.ret)))))))))))⟩
/-- entente/next.Word -/
def c37 : AFn := ⟨8, [.tmp 2], .seq (.ops false [⟨(some 2), .mv (.con (.d (.str []))), none, []⟩])
 (.seq (.ops false [⟨(some 4), .build [(.str []), (.str []), (.str []), (.str []), (.str []), (.str []), (.str []), (.str [])] [(0, 1, (.con (.d (.str [])))), (1, 1, (.con (.d (.str [114, 117, 110, 110, 105, 110, 103])))), (2, 1, (.con (.d (.str [104, 101, 108, 100])))), (3, 1, (.con (.d (.str [99, 111, 109, 109, 105, 116, 116, 101, 100])))), (4, 1, (.con (.d (.str [117, 110, 100, 111, 105, 110, 103])))), (5, 1, (.con (.d (.str [115, 116, 117, 99, 107])))), (6, 1, (.con (.d (.str [99, 111, 109, 112, 101, 110, 115, 97, 116, 101, 100])))), (7, 1, (.con (.d (.str [114, 101, 102, 117, 115, 101, 100]))))], none, []⟩,
  ⟨(some 3), .allocA .str [(.str []), (.str []), (.str []), (.str []), (.str []), (.str []), (.str []), (.str [])] 8, none, []⟩,
  ⟨none, .store 8 (.tmp 3) (.tmp 4), none, []⟩])
 (.seq (.ops false [⟨(some 5), .slcA .str 8 (.tmp 3) none none, none, []⟩,
  ⟨(some 6), .mv (.tmp 0), none, []⟩,
  ⟨(some 7), .call (.con (.fn 73 [] [])) [(.tmp 5), (.tmp 6)], none, []⟩,
  ⟨(some 2), .mv (.tmp 7), none, []⟩])
 (.ret)))⟩
/-- slices.ContainsFunc[[]entente/api.Part,entente/api.Part] -/
def c38 : AFn := ⟨9, [.tmp 4], .seq (.ops false [⟨(some 4), .mv (.con (.d (.bool false))), none, []⟩])
 (.seq (.ops false [⟨(some 5), .mv (.tmp 0), none, []⟩,
  ⟨(some 6), .mv (.tmp 1), none, []⟩,
  ⟨(some 7), .call (.con (.fn 74 [] [])) [(.tmp 5), (.tmp 6)], none, []⟩,
  ⟨(some 8), .bin .geq 0 [] (.tmp 7) (.con (.d (.int .i64 0))), none, []⟩,
  ⟨(some 4), .mv (.tmp 8), none, []⟩])
 (.ret))⟩
/-- entente/next.Next$1 -/
def c39 : AFn := ⟨6, [.tmp 2], .seq (.ops false [⟨(some 1), .box (.tmp 0), none, []⟩,
  ⟨(some 2), .mv (.con (.d (.bool false))), none, []⟩])
 (.seq (.ops false [⟨(some 3), .fldA 0 (.tmp 1), none, []⟩,
  ⟨(some 4), .load 1 false (.tmp 3), none, []⟩,
  ⟨(some 5), .bin .eql 0 [] (.tmp 4) (.con (.d (.int .i64 3))), none, []⟩,
  ⟨(some 2), .mv (.tmp 5), none, []⟩])
 (.ret))⟩
/-- entente/next.back -/
def c40 : AFn := ⟨6, [.cell 2 8 true, .tmp 3], .seq (.ops false [⟨(some 2), .alloc [(.int .i64 0), (.int .i64 0), (.int .i64 0), (.sl (.agg [(.int .i64), (.int .i64)]) true []), (.int .i64 0), (.int .i64 0), (.str []), (.sl (.agg [(.int .i64), .str, (.int .i64), (.int .i64), .str, (.int .i64), (.int .i64)]) true [])], none, []⟩,
  ⟨(some 3), .mv (.con (.d (.bool false))), none, []⟩])
 (.seq (.ops false [⟨(some 4), .mv (.tmp 0), none, []⟩,
  ⟨(some 5), .build [(.int .i64 0), (.int .i64 0), (.int .i64 0), (.sl (.agg [(.int .i64), (.int .i64)]) true []), (.int .i64 0), (.int .i64 0), (.str []), (.sl (.agg [(.int .i64), .str, (.int .i64), (.int .i64), .str, (.int .i64), (.int .i64)]) true [])] [(0, 1, (.con (.d (.int .i64 10)))), (5, 1, (.tmp 4))], none, []⟩,
  ⟨none, .store 8 (.tmp 2) (.tmp 5), none, []⟩,
  ⟨(some 3), .mv (.con (.d (.bool true))), none, []⟩])
 (.ret))⟩
/-- entente/next.running -/
def c41 : AFn := ⟨59, [.cell 2 8 true, .tmp 3], .seq (.ops false [⟨(some 1), .box (.tmp 0), none, []⟩,
  ⟨(some 2), .alloc [(.int .i64 0), (.int .i64 0), (.int .i64 0), (.sl (.agg [(.int .i64), (.int .i64)]) true []), (.int .i64 0), (.int .i64 0), (.str []), (.sl (.agg [(.int .i64), .str, (.int .i64), (.int .i64), .str, (.int .i64), (.int .i64)]) true [])], none, []⟩,
  ⟨(some 3), .mv (.con (.d (.bool false))), none, []⟩])
 (.seq (.ops false [⟨(some 7), .load 9 true (.tmp 1), none, []⟩,
  ⟨(some 8), .call (.con (.fn 23 [] [])) [(.tmp 7)], none, []⟩,
  ⟨(some 4), .mv (.tmp 8), none, []⟩])
 (.seq (.seq (.ops false [⟨(some 9), .mv (.tmp 4), none, []⟩,
  ⟨(some 10), .bin .lss 0 [] (.tmp 9) (.con (.d (.int .i64 0))), none, []⟩,
  ⟨(some 11), .mv (.tmp 10), none, []⟩,
  ⟨(some 12), .fldA 0 (.tmp 1), some (11, true), []⟩,
  ⟨(some 13), .fldA 2 (.tmp 12), some (11, true), []⟩,
  ⟨(some 14), .load 1 false (.tmp 13), some (11, true), []⟩,
  ⟨(some 15), .len 1 (.tmp 14), some (11, true), []⟩,
  ⟨(some 16), .bin .gtr 0 [] (.tmp 15) (.con (.d (.int .i64 0))), some (11, true), []⟩,
  ⟨(some 17), .pick (.tmp 11) (.tmp 16) (.con (.d (.bool false))), none, []⟩])
 (.cond (.tmp 17) (.seq (.ops false [⟨(some 18), .call (.con (.fn 75 [] [])) [(.con (.d (.int .i64 8))), (.con (.d (.int .i64 0)))], none, []⟩,
  ⟨(some 19), .ext 0 (.tmp 18), none, []⟩,
  ⟨(some 20), .ext 1 (.tmp 18), none, []⟩,
  ⟨none, .store 8 (.tmp 2) (.tmp 19), none, []⟩,
  ⟨(some 3), .mv (.tmp 20), none, []⟩])
 (.ret)) (.skip)))
 (.seq (.seq (.ops false [⟨(some 21), .mv (.tmp 4), none, []⟩,
  ⟨(some 22), .bin .lss 0 [] (.tmp 21) (.con (.d (.int .i64 0))), none, []⟩])
 (.cond (.tmp 22) (.seq (.ops false [⟨(some 23), .call (.con (.fn 75 [] [])) [(.con (.d (.int .i64 9))), (.con (.d (.int .i64 0)))], none, []⟩,
  ⟨(some 24), .ext 0 (.tmp 23), none, []⟩,
  ⟨(some 25), .ext 1 (.tmp 23), none, []⟩,
  ⟨none, .store 8 (.tmp 2) (.tmp 24), none, []⟩,
  ⟨(some 3), .mv (.tmp 25), none, []⟩])
 (.ret)) (.skip)))
 (.seq (.ops true [⟨(some 26), .fldA 3 (.tmp 1), none, []⟩,
  ⟨(some 27), .fldA 1 (.tmp 26), none, [0]⟩,
  ⟨(some 28), .load 1 false (.tmp 27), none, [1]⟩,
  ⟨(some 29), .mv (.tmp 4), none, []⟩,
  ⟨(some 30), .ixS (.agg [(.int .i64), .str, (.int .i64), (.int .i64), .str, (.int .i64), (.int .i64)]) (.tmp 28) (.tmp 29), none, [2, 3]⟩,
  ⟨(some 31), .load 7 true (.tmp 30), none, [4]⟩,
  ⟨(some 32), .fldA 7 (.tmp 1), none, []⟩,
  ⟨(some 33), .load 1 false (.tmp 32), none, [6]⟩,
  ⟨(some 34), .mv (.tmp 4), none, []⟩,
  ⟨(some 35), .ixS (.agg [(.int .i64), (.int .i64)]) (.tmp 33) (.tmp 34), none, [7, 8]⟩,
  ⟨(some 36), .load 2 true (.tmp 35), none, [9]⟩,
  ⟨(some 5), .alloc [(.int .i64 0), (.str []), (.int .i64 0), (.int .i64 0), (.str []), (.int .i64 0), (.int .i64 0)], none, []⟩,
  ⟨(some 6), .alloc [(.int .i64 0), (.int .i64 0)], none, []⟩,
  ⟨none, .store 7 (.tmp 5) (.tmp 31), none, [0, 1, 2, 3, 4, 5, 11, 12]⟩,
  ⟨none, .store 2 (.tmp 6) (.tmp 36), none, [0, 1, 2, 3, 4, 5, 6, 7, 8, 9, 10, 11, 12, 13]⟩])
 (.seq (.block 0 (.seq (.ops false [⟨(some 38), .fldA 4 (.tmp 5), none, []⟩,
  ⟨(some 39), .load 1 false (.tmp 38), none, []⟩,
  ⟨(some 40), .bin .neq 0 [] (.tmp 39) (.con (.d (.str []))), none, []⟩,
  ⟨(some 37), .mv (.tmp 40), none, []⟩])
 (.cond (.tmp 37) (.seq (.ops true [⟨(some 41), .mv (.tmp 4), none, []⟩,
  ⟨(some 42), .build [(.int .i64 0), (.int .i64 0), (.int .i64 0), (.sl (.agg [(.int .i64), (.int .i64)]) true []), (.int .i64 0), (.int .i64 0), (.str []), (.sl (.agg [(.int .i64), .str, (.int .i64), (.int .i64), .str, (.int .i64), (.int .i64)]) true [])] [(0, 1, (.con (.d (.int .i64 5)))), (4, 1, (.tmp 41))], none, [0]⟩,
  ⟨(some 43), .fldA 0 (.tmp 6), none, []⟩,
  ⟨(some 44), .load 1 false (.tmp 43), none, [2]⟩,
  ⟨(some 45), .bin .eql 0 [] (.tmp 44) (.con (.d (.int .i64 0))), none, [3]⟩,
  ⟨none, .store 8 (.tmp 2) (.tmp 42), none, [0, 1]⟩,
  ⟨(some 3), .mv (.tmp 45), none, [0, 1, 2, 3, 4, 5]⟩])
 (.ret)) (.seq (.ops false [⟨(some 47), .fldA 1 (.tmp 6), none, []⟩,
  ⟨(some 48), .load 1 false (.tmp 47), none, []⟩,
  ⟨(some 49), .fldA 5 (.tmp 5), none, []⟩,
  ⟨(some 50), .load 1 false (.tmp 49), none, []⟩,
  ⟨(some 51), .bin .geq 0 [] (.tmp 48) (.tmp 50), none, []⟩,
  ⟨(some 46), .mv (.tmp 51), none, []⟩])
 (.cond (.tmp 46) (.seq (.ops false [⟨(some 52), .call (.con (.fn 40 [] [])) [(.con (.d (.int .i64 2)))], none, []⟩,
  ⟨(some 53), .ext 0 (.tmp 52), none, []⟩,
  ⟨(some 54), .ext 1 (.tmp 52), none, []⟩,
  ⟨none, .store 8 (.tmp 2) (.tmp 53), none, []⟩,
  ⟨(some 3), .mv (.tmp 54), none, []⟩])
 (.ret)) (.skip))))))
 (.seq (.ops false [⟨(some 55), .mv (.tmp 4), none, []⟩,
  ⟨(some 56), .call (.con (.fn 75 [] [])) [(.con (.d (.int .i64 4))), (.tmp 55)], none, []⟩,
  ⟨(some 57), .ext 0 (.tmp 56), none, []⟩,
  ⟨(some 58), .ext 1 (.tmp 56), none, []⟩,
  ⟨none, .store 8 (.tmp 2) (.tmp 57), none, []⟩,
  ⟨(some 3), .mv (.tmp 58), none, []⟩])
 (.ret)))))))⟩
/-- entente/next.undoing -/
def c42 : AFn := ⟨39, [.cell 2 8 true, .tmp 3], .seq (.ops false [⟨(some 1), .box (.tmp 0), none, []⟩,
  ⟨(some 2), .alloc [(.int .i64 0), (.int .i64 0), (.int .i64 0), (.sl (.agg [(.int .i64), (.int .i64)]) true []), (.int .i64 0), (.int .i64 0), (.str []), (.sl (.agg [(.int .i64), .str, (.int .i64), (.int .i64), .str, (.int .i64), (.int .i64)]) true [])], none, []⟩,
  ⟨(some 3), .mv (.con (.d (.bool false))), none, []⟩])
 (.seq (.ops false [⟨(some 5), .load 9 true (.tmp 1), none, []⟩,
  ⟨(some 6), .call (.con (.fn 23 [] [])) [(.tmp 5)], none, []⟩,
  ⟨(some 4), .mv (.tmp 6), none, []⟩])
 (.seq (.block 0 (.seq (.ops false [⟨(some 8), .mv (.tmp 4), none, []⟩,
  ⟨(some 9), .bin .lss 0 [] (.tmp 8) (.con (.d (.int .i64 0))), none, []⟩,
  ⟨(some 7), .mv (.tmp 9), none, []⟩])
 (.cond (.tmp 7) (.seq (.ops false [⟨(some 10), .call (.con (.fn 75 [] [])) [(.con (.d (.int .i64 14))), (.con (.d (.int .i64 0)))], none, []⟩,
  ⟨(some 11), .ext 0 (.tmp 10), none, []⟩,
  ⟨(some 12), .ext 1 (.tmp 10), none, []⟩,
  ⟨none, .store 8 (.tmp 2) (.tmp 11), none, []⟩,
  ⟨(some 3), .mv (.tmp 12), none, []⟩])
 (.ret)) (.seq (.ops false [⟨(some 14), .fldA 3 (.tmp 1), none, []⟩,
  ⟨(some 15), .fldA 1 (.tmp 14), none, []⟩,
  ⟨(some 16), .load 1 false (.tmp 15), none, []⟩,
  ⟨(some 17), .mv (.tmp 4), none, []⟩,
  ⟨(some 18), .ixS (.agg [(.int .i64), .str, (.int .i64), (.int .i64), .str, (.int .i64), (.int .i64)]) (.tmp 16) (.tmp 17), none, []⟩,
  ⟨(some 19), .fldA 4 (.tmp 18), none, []⟩,
  ⟨(some 20), .load 1 false (.tmp 19), none, []⟩,
  ⟨(some 21), .bin .neq 0 [] (.tmp 20) (.con (.d (.str []))), none, []⟩,
  ⟨(some 13), .mv (.tmp 21), none, []⟩])
 (.cond (.tmp 13) (.seq (.ops false [⟨(some 22), .build [(.int .i64 0), (.int .i64 0), (.int .i64 0), (.sl (.agg [(.int .i64), (.int .i64)]) true []), (.int .i64 0), (.int .i64 0), (.str []), (.sl (.agg [(.int .i64), .str, (.int .i64), (.int .i64), .str, (.int .i64), (.int .i64)]) true [])] [], none, []⟩,
  ⟨none, .store 8 (.tmp 2) (.tmp 22), none, []⟩,
  ⟨(some 3), .mv (.con (.d (.bool false))), none, []⟩])
 (.ret)) (.seq (.ops false [⟨(some 24), .fldA 7 (.tmp 1), none, []⟩,
  ⟨(some 25), .load 1 false (.tmp 24), none, []⟩,
  ⟨(some 26), .mv (.tmp 4), none, []⟩,
  ⟨(some 27), .ixS (.agg [(.int .i64), (.int .i64)]) (.tmp 25) (.tmp 26), none, []⟩,
  ⟨(some 28), .fldA 1 (.tmp 27), none, []⟩,
  ⟨(some 29), .load 1 false (.tmp 28), none, []⟩,
  ⟨(some 30), .bin .geq 0 [] (.tmp 29) (.con (.d (.int .i64 5))), none, []⟩,
  ⟨(some 23), .mv (.tmp 30), none, []⟩])
 (.cond (.tmp 23) (.seq (.ops false [⟨(some 31), .mv (.tmp 4), none, []⟩,
  ⟨(some 32), .call (.con (.fn 75 [] [])) [(.con (.d (.int .i64 12))), (.tmp 31)], none, []⟩,
  ⟨(some 33), .ext 0 (.tmp 32), none, []⟩,
  ⟨(some 34), .ext 1 (.tmp 32), none, []⟩,
  ⟨none, .store 8 (.tmp 2) (.tmp 33), none, []⟩,
  ⟨(some 3), .mv (.tmp 34), none, []⟩])
 (.ret)) (.skip))))))))
 (.seq (.ops false [⟨(some 35), .mv (.tmp 4), none, []⟩,
  ⟨(some 36), .call (.con (.fn 75 [] [])) [(.con (.d (.int .i64 11))), (.tmp 35)], none, []⟩,
  ⟨(some 37), .ext 0 (.tmp 36), none, []⟩,
  ⟨(some 38), .ext 1 (.tmp 36), none, []⟩,
  ⟨none, .store 8 (.tmp 2) (.tmp 37), none, []⟩,
  ⟨(some 3), .mv (.tmp 38), none, []⟩])
 (.ret))))⟩
/-- slices.Clone[[]entente/api.Hop,entente/api.Hop] -/
def c43 : AFn := ⟨8, [.tmp 2], .seq (.ops false [⟨(some 2), .mv (.con (.d (.sl (.agg [(.int .i64), (.int .i64)]) true []))), none, []⟩])
 (.seq (.seq (.ops false [⟨(some 3), .mv (.tmp 0), none, []⟩,
  ⟨(some 4), .bin .eql 3 [] (.tmp 3) (.con (.d (.sl (.agg [(.int .i64), (.int .i64)]) true []))), none, []⟩])
 (.cond (.tmp 4) (.seq (.ops false [⟨(some 2), .mv (.con (.d (.sl (.agg [(.int .i64), (.int .i64)]) true []))), none, []⟩])
 (.ret)) (.skip)))
 (.seq (.ops false [⟨(some 5), .buildSl (.agg [(.int .i64), (.int .i64)]) [(.int .i64 0), (.int .i64 0)] 0 [], none, []⟩,
  ⟨(some 6), .mv (.tmp 0), none, []⟩,
  ⟨(some 7), .appd (.agg [(.int .i64), (.int .i64)]) (.tmp 5) (.tmp 6), none, []⟩,
  ⟨(some 2), .mv (.tmp 7), none, []⟩])
 (.ret)))⟩
/-- entente/ident.Check -/
def c44 : AFn := ⟨44, [.tmp 2], .seq (.ops false [⟨(some 1), .box (.tmp 0), none, []⟩,
  ⟨(some 2), .mv (.con (.d (.int .i64 0))), none, []⟩])
 (.seq (.seq (.ops false [⟨(some 6), .fldA 1 (.tmp 1), none, []⟩,
  ⟨(some 7), .load 1 false (.tmp 6), none, []⟩,
  ⟨(some 8), .bin .lss 0 [] (.tmp 7) (.con (.d (.int .i64 1))), none, []⟩,
  ⟨(some 9), .mv (.tmp 8), none, []⟩,
  ⟨(some 10), .fldA 1 (.tmp 1), some (9, false), []⟩,
  ⟨(some 11), .load 1 false (.tmp 10), some (9, false), []⟩,
  ⟨(some 12), .bin .gtr 0 [] (.tmp 11) (.con (.d (.int .i64 999999))), some (9, false), []⟩,
  ⟨(some 13), .pick (.tmp 9) (.con (.d (.bool true))) (.tmp 12), none, []⟩,
  ⟨(some 14), .mv (.tmp 13), none, []⟩,
  ⟨(some 15), .fldA 2 (.tmp 1), some (14, false), []⟩,
  ⟨(some 16), .load 1 false (.tmp 15), some (14, false), []⟩,
  ⟨(some 17), .len 1 (.tmp 16), some (14, false), []⟩,
  ⟨(some 18), .bin .gtr 0 [] (.tmp 17) (.con (.d (.int .i64 4))), some (14, false), []⟩,
  ⟨(some 19), .pick (.tmp 14) (.con (.d (.bool true))) (.tmp 18), none, []⟩])
 (.cond (.tmp 19) (.seq (.ops false [⟨(some 2), .mv (.con (.d (.int .i64 30))), none, []⟩])
 (.ret)) (.skip)))
 (.seq (.ops false [⟨(some 3), .allocA .bool [(.bool false), (.bool false), (.bool false), (.bool false), (.bool false), (.bool false), (.bool false), (.bool false), (.bool false), (.bool false), (.bool false), (.bool false), (.bool false), (.bool false), (.bool false), (.bool false)] 16, none, []⟩])
 (.seq (.seq (.ops false [⟨(some 20), .load 3 true (.tmp 1), none, []⟩,
  ⟨(some 21), .call (.con (.fn 76 [] [])) [(.tmp 20)], none, []⟩,
  ⟨(some 22), .len 1 (.tmp 21), none, []⟩,
  ⟨(some 23), .mv (.con (.d (.int .i64 0))), none, []⟩])
 (.block 0 (.loop 0 (some ([1, 3, 21, 22, 23], [0, 1, 2, 3, 4, 5, 6, 7, 128, 129, 130, 131, 160, 161, 256, 257, 258, 259, 288, 289, 1408, 1409, 1410, 1411, 1440, 1441, 2816, 2817, 2818, 2819, 2848, 2849])) (.seq (.ops false [⟨(some 24), .bin .lss 0 [] (.tmp 23) (.tmp 22), none, []⟩])
 (.seq (.cond (.tmp 24) (.skip) (.exit 0))
 (.seq (.block 1 (.seq (.ops false [⟨(some 25), .ixS (.int .i64) (.tmp 21) (.tmp 23), none, []⟩,
  ⟨(some 26), .load 1 false (.tmp 25), none, []⟩,
  ⟨(some 5), .mv (.tmp 26), none, []⟩])
 (.seq (.seq (.ops false [⟨(some 27), .mv (.tmp 5), none, []⟩,
  ⟨(some 28), .bin .lss 0 [] (.tmp 27) (.con (.d (.int .i64 0))), none, []⟩,
  ⟨(some 29), .mv (.tmp 28), none, []⟩,
  ⟨(some 30), .mv (.tmp 5), some (29, false), []⟩,
  ⟨(some 31), .bin .geq 0 [] (.tmp 30) (.con (.d (.int .i64 16))), some (29, false), []⟩,
  ⟨(some 32), .pick (.tmp 29) (.con (.d (.bool true))) (.tmp 31), none, []⟩,
  ⟨(some 33), .mv (.tmp 32), none, []⟩,
  ⟨(some 34), .mv (.tmp 5), some (33, false), []⟩,
  ⟨(some 35), .ixP .bool 16 (.tmp 3) (.tmp 34), some (33, false), []⟩,
  ⟨(some 36), .load 1 false (.tmp 35), some (33, false), []⟩,
  ⟨(some 37), .pick (.tmp 33) (.con (.d (.bool true))) (.tmp 36), none, []⟩])
 (.cond (.tmp 37) (.seq (.ops false [⟨(some 2), .mv (.con (.d (.int .i64 30))), none, []⟩])
 (.ret)) (.skip)))
 (.ops false [⟨(some 38), .mv (.tmp 5), none, []⟩,
  ⟨(some 39), .ixP .bool 16 (.tmp 3) (.tmp 38), none, []⟩,
  ⟨none, .store 1 (.tmp 39) (.con (.d (.bool true))), none, []⟩]))))
 (.ops false [⟨(some 40), .bin .add 0 [] (.tmp 23) (.con (.d (.int .i64 1))), none, []⟩,
  ⟨(some 23), .mv (.tmp 40), none, []⟩])))))))
 (.seq (.seq (.ops false [⟨(some 41), .fldA 2 (.tmp 1), none, []⟩,
  ⟨(some 42), .load 1 false (.tmp 41), none, []⟩,
  ⟨(some 43), .call (.con (.fn 77 [] [])) [(.tmp 42), (.con (.fn 78 [] []))], none, []⟩])
 (.cond (.tmp 43) (.seq (.ops false [⟨(some 2), .mv (.con (.d (.int .i64 30))), none, []⟩])
 (.ret)) (.skip)))
 (.seq (.ops false [⟨(some 2), .mv (.con (.d (.int .i64 0))), none, []⟩])
 (.ret))))))⟩
/-- entente/saga.why -/
def c45 : AFn := ⟨9, [.tmp 2], .seq (.ops false [⟨(some 2), .mv (.con (.d (.bool false))), none, []⟩])
 (.seq (.ops false [⟨(some 3), .mv (.tmp 0), none, []⟩,
  ⟨(some 4), .bin .geq 0 [] (.tmp 3) (.con (.d (.int .i64 1))), none, []⟩,
  ⟨(some 5), .mv (.tmp 4), none, []⟩,
  ⟨(some 6), .mv (.tmp 0), some (5, true), []⟩,
  ⟨(some 7), .bin .leq 0 [] (.tmp 6) (.con (.d (.int .i64 9))), some (5, true), []⟩,
  ⟨(some 8), .pick (.tmp 5) (.tmp 7) (.con (.d (.bool false))), none, []⟩,
  ⟨(some 2), .mv (.tmp 8), none, []⟩])
 (.ret))⟩
/-- (*entente/saga.holder).all -/
def c46 : AFn := ⟨20, [.tmp 4], .seq (.ops false [⟨(some 4), .mv (.con (.d (.bool false))), none, []⟩])
 (.seq (.seq (.ops false [⟨(some 6), .mv (.tmp 0), none, []⟩,
  ⟨(some 7), .nilck (.tmp 6), none, []⟩,
  ⟨(some 8), .fldA 0 (.tmp 7), none, []⟩,
  ⟨(some 9), .fldA 7 (.tmp 8), none, []⟩,
  ⟨(some 10), .load 1 false (.tmp 9), none, []⟩,
  ⟨(some 11), .len 1 (.tmp 10), none, []⟩,
  ⟨(some 12), .mv (.con (.d (.int .i64 0))), none, []⟩])
 (.block 0 (.loop 0 (some ([1, 11, 12], [0, 1, 2, 3, 4, 5, 6, 7])) (.seq (.ops false [⟨(some 13), .bin .lss 0 [] (.tmp 12) (.tmp 11), none, []⟩])
 (.seq (.cond (.tmp 13) (.skip) (.exit 0))
 (.seq (.block 1 (.seq (.ops false [⟨(some 14), .mv (.tmp 12), none, []⟩,
  ⟨(some 5), .mv (.tmp 14), none, []⟩])
 (.seq (.ops false [⟨(some 15), .mv (.tmp 1), none, []⟩,
  ⟨(some 16), .mv (.tmp 5), none, []⟩,
  ⟨(some 17), .call (.tmp 15) [(.tmp 16)], none, []⟩,
  ⟨(some 18), .un .not (.tmp 17), none, []⟩])
 (.cond (.tmp 18) (.seq (.ops false [⟨(some 4), .mv (.con (.d (.bool false))), none, []⟩])
 (.ret)) (.skip)))))
 (.ops false [⟨(some 19), .bin .add 0 [] (.tmp 12) (.con (.d (.int .i64 1))), none, []⟩,
  ⟨(some 12), .mv (.tmp 19), none, []⟩])))))))
 (.seq (.ops false [⟨(some 4), .mv (.con (.d (.bool true))), none, []⟩])
 (.ret)))⟩
/-- entente/saga.May$1 -/
def c47 : AFn := ⟨39, [.tmp 4], .seq (.ops false [⟨(some 4), .mv (.con (.d (.bool false))), none, []⟩])
 (.seq (.ops false [⟨(some 6), .fldA 7 (.tmp 1), none, []⟩,
  ⟨(some 7), .load 1 false (.tmp 6), none, []⟩,
  ⟨(some 8), .mv (.tmp 0), none, []⟩,
  ⟨(some 9), .ixS (.agg [(.int .i64), (.int .i64)]) (.tmp 7) (.tmp 8), none, []⟩,
  ⟨(some 10), .load 2 true (.tmp 9), none, []⟩,
  ⟨(some 5), .alloc [(.int .i64 0), (.int .i64 0)], none, []⟩,
  ⟨none, .store 2 (.tmp 5) (.tmp 10), none, []⟩])
 (.seq (.ops false [⟨(some 11), .fldA 0 (.tmp 5), none, []⟩,
  ⟨(some 12), .load 1 false (.tmp 11), none, []⟩,
  ⟨(some 13), .bin .geq 0 [] (.tmp 12) (.con (.d (.int .i64 0))), none, []⟩,
  ⟨(some 14), .mv (.tmp 13), none, []⟩,
  ⟨(some 15), .fldA 0 (.tmp 5), some (14, true), []⟩,
  ⟨(some 16), .load 1 false (.tmp 15), some (14, true), []⟩,
  ⟨(some 17), .bin .leq 0 [] (.tmp 16) (.con (.d (.int .i64 4))), some (14, true), []⟩,
  ⟨(some 18), .pick (.tmp 14) (.tmp 17) (.con (.d (.bool false))), none, []⟩,
  ⟨(some 19), .mv (.tmp 18), none, []⟩,
  ⟨(some 20), .load 1 false (.tmp 2), some (19, true), []⟩,
  ⟨(some 21), .mv (.tmp 0), some (19, true), []⟩,
  ⟨(some 22), .call (.con (.fn 48 [] [])) [(.tmp 20), (.tmp 21)], some (19, true), []⟩,
  ⟨(some 23), .mv (.tmp 22), some (19, true), []⟩,
  ⟨(some 24), .fldA 0 (.tmp 5), some (23, false), []⟩,
  ⟨(some 25), .load 1 false (.tmp 24), some (23, false), []⟩,
  ⟨(some 26), .bin .neq 0 [] (.tmp 25) (.con (.d (.int .i64 1))), some (23, false), []⟩,
  ⟨(some 27), .pick (.tmp 23) (.con (.d (.bool true))) (.tmp 26), some (19, true), []⟩,
  ⟨(some 28), .pick (.tmp 19) (.tmp 27) (.con (.d (.bool false))), none, []⟩,
  ⟨(some 29), .mv (.tmp 28), none, []⟩,
  ⟨(some 30), .fldA 1 (.tmp 5), some (29, true), []⟩,
  ⟨(some 31), .load 1 false (.tmp 30), some (29, true), []⟩,
  ⟨(some 32), .bin .geq 0 [] (.tmp 31) (.con (.d (.int .i64 0))), some (29, true), []⟩,
  ⟨(some 33), .pick (.tmp 29) (.tmp 32) (.con (.d (.bool false))), none, []⟩,
  ⟨(some 34), .mv (.tmp 33), none, []⟩,
  ⟨(some 35), .fldA 1 (.tmp 5), some (34, true), []⟩,
  ⟨(some 36), .load 1 false (.tmp 35), some (34, true), []⟩,
  ⟨(some 37), .bin .leq 0 [] (.tmp 36) (.con (.d (.int .i64 5))), some (34, true), []⟩,
  ⟨(some 38), .pick (.tmp 34) (.tmp 37) (.con (.d (.bool false))), none, []⟩,
  ⟨(some 4), .mv (.tmp 38), none, []⟩])
 (.ret)))⟩
/-- (*entente/saga.holder).asks -/
def c48 : AFn := ⟨16, [.tmp 4], .seq (.ops false [⟨(some 4), .mv (.con (.d (.bool false))), none, []⟩])
 (.seq (.ops false [⟨(some 5), .mv (.tmp 0), none, []⟩,
  ⟨(some 6), .nilck (.tmp 5), none, []⟩,
  ⟨(some 7), .fldA 0 (.tmp 6), none, []⟩,
  ⟨(some 8), .fldA 3 (.tmp 7), none, []⟩,
  ⟨(some 9), .fldA 1 (.tmp 8), none, []⟩,
  ⟨(some 10), .load 1 false (.tmp 9), none, []⟩,
  ⟨(some 11), .mv (.tmp 1), none, []⟩,
  ⟨(some 12), .ixS (.agg [(.int .i64), .str, (.int .i64), (.int .i64), .str, (.int .i64), (.int .i64)]) (.tmp 10) (.tmp 11), none, []⟩,
  ⟨(some 13), .fldA 4 (.tmp 12), none, []⟩,
  ⟨(some 14), .load 1 false (.tmp 13), none, []⟩,
  ⟨(some 15), .bin .neq 0 [] (.tmp 14) (.con (.d (.str []))), none, []⟩,
  ⟨(some 4), .mv (.tmp 15), none, []⟩])
 (.ret))⟩
/-- (*entente/saga.holder).fits -/
def c49 : AFn := ⟨176, [.tmp 2], .seq (.ops false [⟨(some 1), .box (.tmp 0), none, []⟩,
  ⟨(some 2), .mv (.con (.d (.bool false))), none, []⟩])
 (.seq (.ops true [⟨(some 6), .load 1 false (.tmp 1), none, []⟩,
  ⟨(some 7), .nilck (.tmp 6), none, [0]⟩,
  ⟨(some 8), .fldA 0 (.tmp 7), none, [1]⟩,
  ⟨(some 9), .fldA 8 (.tmp 8), none, [2]⟩,
  ⟨(some 10), .load 1 false (.tmp 9), none, [3]⟩,
  ⟨(some 11), .load 1 false (.tmp 1), none, []⟩,
  ⟨(some 12), .nilck (.tmp 11), none, [5]⟩,
  ⟨(some 13), .fldA 0 (.tmp 12), none, [6]⟩,
  ⟨(some 14), .fldA 0 (.tmp 13), none, [7]⟩,
  ⟨(some 15), .fldA 2 (.tmp 14), none, [8]⟩,
  ⟨(some 16), .load 1 false (.tmp 15), none, [9]⟩,
  ⟨(some 17), .len 1 (.tmp 16), none, [10]⟩,
  ⟨(some 18), .bin .gtr 0 [] (.tmp 17) (.con (.d (.int .i64 0))), none, [11]⟩,
  ⟨(some 3), .mv (.tmp 10), none, [0, 1, 2, 3, 4]⟩,
  ⟨(some 4), .mv (.tmp 18), none, [0, 1, 2, 3, 4, 5, 6, 7, 8, 9, 10, 11, 12, 13]⟩])
 (.seq (.seq (.ops false [⟨(some 19), .load 1 false (.tmp 1), none, []⟩,
  ⟨(some 20), .nilck (.tmp 19), none, []⟩,
  ⟨(some 21), .fldA 0 (.tmp 20), none, []⟩,
  ⟨(some 22), .fldA 5 (.tmp 21), none, []⟩,
  ⟨(some 23), .load 1 false (.tmp 22), none, []⟩])
 (.block 0 (.seq (.ops false [⟨(some 25), .bin .eql 0 [] (.tmp 23) (.con (.d (.int .i64 1))), none, []⟩,
  ⟨(some 24), .mv (.tmp 25), none, []⟩])
 (.cond (.tmp 24) (.seq (.ops false [⟨(some 26), .mv (.tmp 3), none, []⟩,
  ⟨(some 27), .un .not (.tmp 26), none, []⟩,
  ⟨(some 28), .mv (.tmp 27), none, []⟩,
  ⟨(some 29), .load 1 false (.tmp 1), some (28, true), []⟩,
  ⟨(some 30), .nilck (.tmp 29), some (28, true), []⟩,
  ⟨(some 31), .fldA 0 (.tmp 30), some (28, true), []⟩,
  ⟨(some 32), .fldA 6 (.tmp 31), some (28, true), []⟩,
  ⟨(some 33), .load 1 false (.tmp 32), some (28, true), []⟩,
  ⟨(some 34), .bin .eql 0 [] (.tmp 33) (.con (.d (.int .i64 0))), some (28, true), []⟩,
  ⟨(some 35), .pick (.tmp 28) (.tmp 34) (.con (.d (.bool false))), none, []⟩,
  ⟨(some 36), .mv (.tmp 35), none, []⟩,
  ⟨(some 37), .load 1 false (.tmp 1), some (36, true), []⟩,
  ⟨(some 38), .call (.con (.fn 79 [] [])) [(.tmp 37)], some (36, true), []⟩,
  ⟨(some 39), .pick (.tmp 36) (.tmp 38) (.con (.d (.bool false))), none, []⟩,
  ⟨(some 2), .mv (.tmp 39), none, []⟩])
 (.ret)) (.seq (.ops false [⟨(some 41), .bin .eql 0 [] (.tmp 23) (.con (.d (.int .i64 2))), none, []⟩,
  ⟨(some 40), .mv (.tmp 41), none, []⟩])
 (.cond (.tmp 40) (.seq (.ops false [⟨(some 42), .mv (.tmp 3), none, []⟩,
  ⟨(some 43), .un .not (.tmp 42), none, []⟩,
  ⟨(some 44), .mv (.tmp 43), none, []⟩,
  ⟨(some 45), .load 1 false (.tmp 1), some (44, true), []⟩,
  ⟨(some 46), .nilck (.tmp 45), some (44, true), []⟩,
  ⟨(some 47), .fldA 0 (.tmp 46), some (44, true), []⟩,
  ⟨(some 48), .fldA 6 (.tmp 47), some (44, true), []⟩,
  ⟨(some 49), .load 1 false (.tmp 48), some (44, true), []⟩,
  ⟨(some 50), .bin .eql 0 [] (.tmp 49) (.con (.d (.int .i64 0))), some (44, true), []⟩,
  ⟨(some 51), .pick (.tmp 44) (.tmp 50) (.con (.d (.bool false))), none, []⟩,
  ⟨(some 52), .mv (.tmp 51), none, []⟩,
  ⟨(some 53), .mv (.tmp 4), some (52, true), []⟩,
  ⟨(some 54), .pick (.tmp 52) (.tmp 53) (.con (.d (.bool false))), none, []⟩,
  ⟨(some 55), .mv (.tmp 54), none, []⟩,
  ⟨(some 56), .load 1 false (.tmp 1), some (55, true), []⟩,
  ⟨(some 57), .load 1 false (.tmp 1), some (55, true), []⟩,
  ⟨(some 58), .mkF 80 [(.tmp 57)] [], some (55, true), []⟩,
  ⟨(some 59), .call (.con (.fn 46 [] [])) [(.tmp 56), (.tmp 58)], some (55, true), []⟩,
  ⟨(some 60), .pick (.tmp 55) (.tmp 59) (.con (.d (.bool false))), none, []⟩,
  ⟨(some 2), .mv (.tmp 60), none, []⟩])
 (.ret)) (.seq (.ops false [⟨(some 62), .bin .eql 0 [] (.tmp 23) (.con (.d (.int .i64 3))), none, []⟩,
  ⟨(some 61), .mv (.tmp 62), none, []⟩])
 (.cond (.tmp 61) (.seq (.seq (.ops false [⟨(some 63), .mv (.tmp 3), none, []⟩])
 (.cond (.tmp 63) (.seq (.ops false [⟨(some 64), .load 1 false (.tmp 1), none, []⟩,
  ⟨(some 65), .nilck (.tmp 64), none, []⟩,
  ⟨(some 66), .fldA 0 (.tmp 65), none, []⟩,
  ⟨(some 67), .fldA 6 (.tmp 66), none, []⟩,
  ⟨(some 68), .load 1 false (.tmp 67), none, []⟩,
  ⟨(some 69), .bin .eql 0 [] (.tmp 68) (.con (.d (.int .i64 0))), none, []⟩,
  ⟨(some 70), .mv (.tmp 69), none, []⟩,
  ⟨(some 71), .load 1 false (.tmp 1), some (70, false), []⟩,
  ⟨(some 72), .nilck (.tmp 71), some (70, false), []⟩,
  ⟨(some 73), .fldA 0 (.tmp 72), some (70, false), []⟩,
  ⟨(some 74), .fldA 6 (.tmp 73), some (70, false), []⟩,
  ⟨(some 75), .load 1 false (.tmp 74), some (70, false), []⟩,
  ⟨(some 76), .call (.con (.fn 45 [] [])) [(.tmp 75)], some (70, false), []⟩,
  ⟨(some 77), .pick (.tmp 70) (.con (.d (.bool true))) (.tmp 76), none, []⟩,
  ⟨(some 78), .mv (.tmp 77), none, []⟩,
  ⟨(some 79), .load 1 false (.tmp 1), some (78, true), []⟩,
  ⟨(some 80), .mkF 81 [] [(.tmp 1)], some (78, true), []⟩,
  ⟨(some 81), .call (.con (.fn 46 [] [])) [(.tmp 79), (.tmp 80)], some (78, true), []⟩,
  ⟨(some 82), .pick (.tmp 78) (.tmp 81) (.con (.d (.bool false))), none, []⟩,
  ⟨(some 2), .mv (.tmp 82), none, []⟩])
 (.ret)) (.skip)))
 (.seq (.ops false [⟨(some 83), .load 1 false (.tmp 1), none, []⟩,
  ⟨(some 84), .nilck (.tmp 83), none, []⟩,
  ⟨(some 85), .fldA 0 (.tmp 84), none, []⟩,
  ⟨(some 86), .fldA 6 (.tmp 85), none, []⟩,
  ⟨(some 87), .load 1 false (.tmp 86), none, []⟩,
  ⟨(some 88), .bin .eql 0 [] (.tmp 87) (.con (.d (.int .i64 0))), none, []⟩,
  ⟨(some 89), .mv (.tmp 88), none, []⟩,
  ⟨(some 90), .load 1 false (.tmp 1), some (89, true), []⟩,
  ⟨(some 91), .mkF 83 [] [(.tmp 1)], some (89, true), []⟩,
  ⟨(some 92), .call (.con (.fn 46 [] [])) [(.tmp 90), (.tmp 91)], some (89, true), []⟩,
  ⟨(some 93), .pick (.tmp 89) (.tmp 92) (.con (.d (.bool false))), none, []⟩,
  ⟨(some 2), .mv (.tmp 93), none, []⟩])
 (.ret))) (.seq (.seq (.ops false [⟨(some 95), .bin .eql 0 [] (.tmp 23) (.con (.d (.int .i64 4))), none, []⟩,
  ⟨(some 94), .mv (.tmp 95), none, []⟩])
 (.cond (.tmp 94) (.skip) (.ops false [⟨(some 96), .bin .eql 0 [] (.tmp 23) (.con (.d (.int .i64 5))), none, []⟩,
  ⟨(some 94), .mv (.tmp 96), none, []⟩])))
 (.cond (.tmp 94) (.seq (.seq (.ops false [⟨(some 97), .mv (.tmp 3), none, []⟩,
  ⟨(some 98), .mv (.tmp 97), none, []⟩,
  ⟨(some 99), .load 1 false (.tmp 1), some (98, false), []⟩,
  ⟨(some 100), .nilck (.tmp 99), some (98, false), []⟩,
  ⟨(some 101), .fldA 0 (.tmp 100), some (98, false), []⟩,
  ⟨(some 102), .fldA 6 (.tmp 101), some (98, false), []⟩,
  ⟨(some 103), .load 1 false (.tmp 102), some (98, false), []⟩,
  ⟨(some 104), .call (.con (.fn 45 [] [])) [(.tmp 103)], some (98, false), []⟩,
  ⟨(some 105), .un .not (.tmp 104), some (98, false), []⟩,
  ⟨(some 106), .pick (.tmp 98) (.con (.d (.bool true))) (.tmp 105), none, []⟩,
  ⟨(some 107), .mv (.tmp 106), none, []⟩,
  ⟨(some 108), .load 1 false (.tmp 1), some (107, false), []⟩,
  ⟨(some 109), .buildSl (.int .i64) [(.int .i64 0)] 1 [(0, 1, (.con (.d (.int .i64 4))))], some (107, false), []⟩,
  ⟨(some 110), .call (.con (.fn 56 [] [])) [(.tmp 108), (.tmp 109)], some (107, false), []⟩,
  ⟨(some 111), .pick (.tmp 107) (.con (.d (.bool true))) (.tmp 110), none, []⟩])
 (.cond (.tmp 111) (.seq (.ops false [⟨(some 2), .mv (.con (.d (.bool false))), none, []⟩])
 (.ret)) (.skip)))
 (.seq (.ops false [⟨(some 112), .load 1 false (.tmp 1), none, []⟩,
  ⟨(some 113), .call (.con (.fn 50 [] [])) [(.tmp 112)], none, []⟩,
  ⟨(some 5), .mv (.tmp 113), none, []⟩])
 (.seq (.ops false [⟨(some 114), .load 1 false (.tmp 1), none, []⟩,
  ⟨(some 115), .nilck (.tmp 114), none, []⟩,
  ⟨(some 116), .fldA 0 (.tmp 115), none, []⟩,
  ⟨(some 117), .fldA 5 (.tmp 116), none, []⟩,
  ⟨(some 118), .load 1 false (.tmp 117), none, []⟩,
  ⟨(some 119), .bin .eql 0 [] (.tmp 118) (.con (.d (.int .i64 4))), none, []⟩,
  ⟨(some 120), .mv (.tmp 119), none, []⟩,
  ⟨(some 121), .mv (.tmp 5), some (120, false), []⟩,
  ⟨(some 122), .bin .geq 0 [] (.tmp 121) (.con (.d (.int .i64 0))), some (120, false), []⟩,
  ⟨(some 123), .mv (.tmp 122), some (120, false), []⟩,
  ⟨(some 124), .load 1 false (.tmp 1), some (123, true), []⟩,
  ⟨(some 125), .mv (.tmp 5), some (123, true), []⟩,
  ⟨(some 126), .call (.con (.fn 48 [] [])) [(.tmp 124), (.tmp 125)], some (123, true), []⟩,
  ⟨(some 127), .un .not (.tmp 126), some (123, true), []⟩,
  ⟨(some 128), .pick (.tmp 123) (.tmp 127) (.con (.d (.bool false))), some (120, false), []⟩,
  ⟨(some 129), .mv (.tmp 128), some (120, false), []⟩,
  ⟨(some 130), .load 1 false (.tmp 1), some (129, true), []⟩,
  ⟨(some 131), .nilck (.tmp 130), some (129, true), []⟩,
  ⟨(some 132), .fldA 0 (.tmp 131), some (129, true), []⟩,
  ⟨(some 133), .fldA 7 (.tmp 132), some (129, true), []⟩,
  ⟨(some 134), .load 1 false (.tmp 133), some (129, true), []⟩,
  ⟨(some 135), .mv (.tmp 5), some (129, true), []⟩,
  ⟨(some 136), .ixS (.agg [(.int .i64), (.int .i64)]) (.tmp 134) (.tmp 135), some (129, true), []⟩,
  ⟨(some 137), .fldA 1 (.tmp 136), some (129, true), []⟩,
  ⟨(some 138), .load 1 false (.tmp 137), some (129, true), []⟩,
  ⟨(some 139), .bin .eql 0 [] (.tmp 138) (.con (.d (.int .i64 5))), some (129, true), []⟩,
  ⟨(some 140), .pick (.tmp 129) (.tmp 139) (.con (.d (.bool false))), some (120, false), []⟩,
  ⟨(some 141), .pick (.tmp 120) (.con (.d (.bool true))) (.tmp 140), none, []⟩,
  ⟨(some 2), .mv (.tmp 141), none, []⟩])
 (.ret)))) (.seq (.ops false [⟨(some 143), .bin .eql 0 [] (.tmp 23) (.con (.d (.int .i64 6))), none, []⟩,
  ⟨(some 142), .mv (.tmp 143), none, []⟩])
 (.cond (.tmp 142) (.seq (.seq (.ops false [⟨(some 144), .mv (.tmp 3), none, []⟩])
 (.cond (.tmp 144) (.seq (.ops false [⟨(some 145), .load 1 false (.tmp 1), none, []⟩,
  ⟨(some 146), .nilck (.tmp 145), none, []⟩,
  ⟨(some 147), .fldA 0 (.tmp 146), none, []⟩,
  ⟨(some 148), .fldA 6 (.tmp 147), none, []⟩,
  ⟨(some 149), .load 1 false (.tmp 148), none, []⟩,
  ⟨(some 150), .bin .eql 0 [] (.tmp 149) (.con (.d (.int .i64 0))), none, []⟩,
  ⟨(some 151), .mv (.tmp 150), none, []⟩,
  ⟨(some 152), .load 1 false (.tmp 1), some (151, false), []⟩,
  ⟨(some 153), .nilck (.tmp 152), some (151, false), []⟩,
  ⟨(some 154), .fldA 0 (.tmp 153), some (151, false), []⟩,
  ⟨(some 155), .fldA 6 (.tmp 154), some (151, false), []⟩,
  ⟨(some 156), .load 1 false (.tmp 155), some (151, false), []⟩,
  ⟨(some 157), .call (.con (.fn 45 [] [])) [(.tmp 156)], some (151, false), []⟩,
  ⟨(some 158), .pick (.tmp 151) (.con (.d (.bool true))) (.tmp 157), none, []⟩,
  ⟨(some 159), .mv (.tmp 158), none, []⟩,
  ⟨(some 160), .load 1 false (.tmp 1), some (159, true), []⟩,
  ⟨(some 161), .mkF 84 [] [(.tmp 1)], some (159, true), []⟩,
  ⟨(some 162), .call (.con (.fn 46 [] [])) [(.tmp 160), (.tmp 161)], some (159, true), []⟩,
  ⟨(some 163), .pick (.tmp 159) (.tmp 162) (.con (.d (.bool false))), none, []⟩,
  ⟨(some 2), .mv (.tmp 163), none, []⟩])
 (.ret)) (.skip)))
 (.seq (.ops false [⟨(some 164), .load 1 false (.tmp 1), none, []⟩,
  ⟨(some 165), .nilck (.tmp 164), none, []⟩,
  ⟨(some 166), .fldA 0 (.tmp 165), none, []⟩,
  ⟨(some 167), .fldA 6 (.tmp 166), none, []⟩,
  ⟨(some 168), .load 1 false (.tmp 167), none, []⟩,
  ⟨(some 169), .call (.con (.fn 45 [] [])) [(.tmp 168)], none, []⟩,
  ⟨(some 170), .mv (.tmp 169), none, []⟩,
  ⟨(some 171), .load 1 false (.tmp 1), some (170, true), []⟩,
  ⟨(some 172), .buildSl (.int .i64) [(.int .i64 0)] 3 [(0, 1, (.con (.d (.int .i64 1)))), (1, 1, (.con (.d (.int .i64 2)))), (2, 1, (.con (.d (.int .i64 4))))], some (170, true), []⟩,
  ⟨(some 173), .call (.con (.fn 56 [] [])) [(.tmp 171), (.tmp 172)], some (170, true), []⟩,
  ⟨(some 174), .un .not (.tmp 173), some (170, true), []⟩,
  ⟨(some 175), .pick (.tmp 170) (.tmp 174) (.con (.d (.bool false))), none, []⟩,
  ⟨(some 2), .mv (.tmp 175), none, []⟩])
 (.ret))) (.skip)))))))))))))
 (.seq (.ops false [⟨(some 2), .mv (.con (.d (.bool false))), none, []⟩])
 (.ret))))⟩
/-- (*entente/saga.holder).current -/
def c50 : AFn := ⟨36, [.tmp 2], .seq (.ops false [⟨(some 2), .mv (.con (.d (.int .i64 0))), none, []⟩])
 (.seq (.seq (.ops false [⟨(some 4), .mv (.tmp 0), none, []⟩,
  ⟨(some 5), .nilck (.tmp 4), none, []⟩,
  ⟨(some 6), .fldA 0 (.tmp 5), none, []⟩,
  ⟨(some 7), .fldA 5 (.tmp 6), none, []⟩,
  ⟨(some 8), .load 1 false (.tmp 7), none, []⟩])
 (.block 0 (.seq (.ops false [⟨(some 10), .bin .eql 0 [] (.tmp 8) (.con (.d (.int .i64 1))), none, []⟩,
  ⟨(some 9), .mv (.tmp 10), none, []⟩])
 (.cond (.tmp 9) (.seq (.ops false [⟨(some 11), .mv (.tmp 0), none, []⟩,
  ⟨(some 12), .nilck (.tmp 11), none, []⟩,
  ⟨(some 13), .fldA 0 (.tmp 12), none, []⟩,
  ⟨(some 14), .fldA 7 (.tmp 13), none, []⟩,
  ⟨(some 15), .load 1 false (.tmp 14), none, []⟩,
  ⟨(some 16), .call (.con (.fn 74 [] [])) [(.tmp 15), (.con (.fn 85 [] []))], none, []⟩,
  ⟨(some 2), .mv (.tmp 16), none, []⟩])
 (.ret)) (.seq (.seq (.ops false [⟨(some 18), .bin .eql 0 [] (.tmp 8) (.con (.d (.int .i64 4))), none, []⟩,
  ⟨(some 17), .mv (.tmp 18), none, []⟩])
 (.cond (.tmp 17) (.skip) (.ops false [⟨(some 19), .bin .eql 0 [] (.tmp 8) (.con (.d (.int .i64 5))), none, []⟩,
  ⟨(some 17), .mv (.tmp 19), none, []⟩])))
 (.cond (.tmp 17) (.seq (.ops false [⟨(some 20), .mv (.tmp 0), none, []⟩,
  ⟨(some 21), .nilck (.tmp 20), none, []⟩,
  ⟨(some 22), .fldA 0 (.tmp 21), none, []⟩,
  ⟨(some 23), .fldA 7 (.tmp 22), none, []⟩,
  ⟨(some 24), .load 1 false (.tmp 23), none, []⟩,
  ⟨(some 25), .len 1 (.tmp 24), none, []⟩,
  ⟨(some 26), .bin .sub 0 [] (.tmp 25) (.con (.d (.int .i64 1))), none, []⟩,
  ⟨(some 3), .mv (.tmp 26), none, []⟩])
 (.block 1 (.loop 0 (some ([0, 3], [0, 1, 2, 3, 4, 5, 6, 7])) (.seq (.seq (.ops false [⟨(some 27), .mv (.tmp 3), none, []⟩,
  ⟨(some 28), .bin .geq 0 [] (.tmp 27) (.con (.d (.int .i64 0))), none, []⟩])
 (.cond (.tmp 28) (.skip) (.exit 1)))
 (.seq (.block 2 (.seq (.ops false [⟨(some 31), .mv (.tmp 0), none, []⟩,
  ⟨(some 32), .mv (.tmp 3), none, []⟩,
  ⟨(some 33), .buildSl (.int .i64) [(.int .i64 0)] 2 [(0, 1, (.con (.d (.int .i64 1)))), (1, 1, (.con (.d (.int .i64 2))))], none, []⟩,
  ⟨(some 34), .call (.con (.fn 82 [] [])) [(.tmp 31), (.tmp 32), (.tmp 33)], none, []⟩])
 (.cond (.tmp 34) (.seq (.ops false [⟨(some 35), .mv (.tmp 3), none, []⟩,
  ⟨(some 2), .mv (.tmp 35), none, []⟩])
 (.ret)) (.skip))))
 (.ops false [⟨(some 29), .mv (.tmp 3), none, []⟩,
  ⟨(some 30), .bin .sub 0 [] (.tmp 29) (.con (.d (.int .i64 1))), none, []⟩,
  ⟨(some 3), .mv (.tmp 30), none, []⟩])))))) (.skip)))))))
 (.seq (.ops false [⟨(some 2), .mv (.con (.d (.int .i64 (-1)))), none, []⟩])
 (.ret)))⟩
/-- entente/record.Move -/
def c51 : AFn := ⟨119, [.tmp 2], .seq (.ops false [⟨(some 1), .box (.tmp 0), none, []⟩,
  ⟨(some 2), .mv (.con (.d (.int .i64 0))), none, []⟩])
 (.seq (.seq (.ops false [⟨(some 4), .fldA 0 (.tmp 1), none, []⟩,
  ⟨(some 5), .load 1 false (.tmp 4), none, []⟩,
  ⟨(some 6), .bin .lss 0 [] (.tmp 5) (.con (.d (.int .i64 1))), none, []⟩,
  ⟨(some 7), .mv (.tmp 6), none, []⟩,
  ⟨(some 8), .fldA 0 (.tmp 1), some (7, false), []⟩,
  ⟨(some 9), .load 1 false (.tmp 8), some (7, false), []⟩,
  ⟨(some 10), .bin .gtr 0 [] (.tmp 9) (.con (.d (.int .i64 16))), some (7, false), []⟩,
  ⟨(some 11), .pick (.tmp 7) (.con (.d (.bool true))) (.tmp 10), none, []⟩,
  ⟨(some 12), .mv (.tmp 11), none, []⟩,
  ⟨(some 13), .fldA 1 (.tmp 1), some (12, false), []⟩,
  ⟨(some 14), .load 3 true (.tmp 13), some (12, false), []⟩,
  ⟨(some 15), .call (.con (.fn 44 [] [])) [(.tmp 14)], some (12, false), []⟩,
  ⟨(some 16), .bin .neq 0 [] (.tmp 15) (.con (.d (.int .i64 0))), some (12, false), []⟩,
  ⟨(some 17), .pick (.tmp 12) (.con (.d (.bool true))) (.tmp 16), none, []⟩])
 (.cond (.tmp 17) (.seq (.ops false [⟨(some 2), .mv (.con (.d (.int .i64 140))), none, []⟩])
 (.ret)) (.skip)))
 (.seq (.ops false [⟨(some 18), .fldA 6 (.tmp 1), none, []⟩,
  ⟨(some 19), .load 2 true (.tmp 18), none, []⟩,
  ⟨(some 20), .call (.con (.fn 86 [] [])) [(.tmp 19)], none, []⟩,
  ⟨(some 3), .mv (.tmp 20), none, []⟩])
 (.seq (.seq (.ops true [⟨(some 21), .call (.con (.fn 87 [] [])) [], none, []⟩,
  ⟨(some 22), .fldA 0 (.tmp 1), none, []⟩,
  ⟨(some 23), .load 1 false (.tmp 22), none, [1]⟩,
  ⟨(some 24), .ixArr (.agg [.str, (.int .i64)]) 17 (.tmp 21) (.tmp 23), none, [0, 2]⟩,
  ⟨(some 25), .fld 1 1 false (.tmp 24), none, [3]⟩])
 (.block 0 (.seq (.ops false [⟨(some 27), .bin .eql 0 [] (.tmp 25) (.con (.d (.int .i64 0))), none, []⟩,
  ⟨(some 26), .mv (.tmp 27), none, []⟩])
 (.cond (.tmp 26) (.ops false [⟨(some 28), .mv (.tmp 3), none, []⟩,
  ⟨(some 29), .mv (.tmp 28), none, []⟩,
  ⟨(some 30), .fldA 4 (.tmp 1), some (29, true), []⟩,
  ⟨(some 31), .load 1 false (.tmp 30), some (29, true), []⟩,
  ⟨(some 32), .fldA 5 (.tmp 1), some (29, true), []⟩,
  ⟨(some 33), .load 1 false (.tmp 32), some (29, true), []⟩,
  ⟨(some 34), .buildSl (.int .i64) [(.int .i64 0)] 2 [(0, 1, (.tmp 31)), (1, 1, (.tmp 33))], some (29, true), []⟩,
  ⟨(some 35), .call (.con (.fn 88 [] [])) [(.tmp 34)], some (29, true), []⟩,
  ⟨(some 36), .pick (.tmp 29) (.tmp 35) (.con (.d (.bool false))), none, []⟩,
  ⟨(some 3), .mv (.tmp 36), none, []⟩]) (.seq (.ops false [⟨(some 38), .bin .eql 0 [] (.tmp 25) (.con (.d (.int .i64 1))), none, []⟩,
  ⟨(some 37), .mv (.tmp 38), none, []⟩])
 (.cond (.tmp 37) (.ops false [⟨(some 39), .mv (.tmp 3), none, []⟩,
  ⟨(some 40), .mv (.tmp 39), none, []⟩,
  ⟨(some 41), .fldA 5 (.tmp 1), some (40, true), []⟩,
  ⟨(some 42), .load 1 false (.tmp 41), some (40, true), []⟩,
  ⟨(some 43), .bin .eql 0 [] (.tmp 42) (.con (.d (.int .i64 0))), some (40, true), []⟩,
  ⟨(some 44), .pick (.tmp 40) (.tmp 43) (.con (.d (.bool false))), none, []⟩,
  ⟨(some 45), .mv (.tmp 44), none, []⟩,
  ⟨(some 46), .fldA 4 (.tmp 1), some (45, true), []⟩,
  ⟨(some 47), .load 1 false (.tmp 46), some (45, true), []⟩,
  ⟨(some 48), .bin .geq 0 [] (.tmp 47) (.con (.d (.int .i64 0))), some (45, true), []⟩,
  ⟨(some 49), .pick (.tmp 45) (.tmp 48) (.con (.d (.bool false))), none, []⟩,
  ⟨(some 50), .mv (.tmp 49), none, []⟩,
  ⟨(some 51), .fldA 4 (.tmp 1), some (50, true), []⟩,
  ⟨(some 52), .load 1 false (.tmp 51), some (50, true), []⟩,
  ⟨(some 53), .bin .lss 0 [] (.tmp 52) (.con (.d (.int .i64 8))), some (50, true), []⟩,
  ⟨(some 54), .pick (.tmp 50) (.tmp 53) (.con (.d (.bool false))), none, []⟩,
  ⟨(some 3), .mv (.tmp 54), none, []⟩]) (.seq (.ops false [⟨(some 56), .bin .eql 0 [] (.tmp 25) (.con (.d (.int .i64 2))), none, []⟩,
  ⟨(some 55), .mv (.tmp 56), none, []⟩])
 (.cond (.tmp 55) (.ops false [⟨(some 57), .mv (.tmp 3), none, []⟩,
  ⟨(some 58), .mv (.tmp 57), none, []⟩,
  ⟨(some 59), .fldA 4 (.tmp 1), some (58, true), []⟩,
  ⟨(some 60), .load 1 false (.tmp 59), some (58, true), []⟩,
  ⟨(some 61), .bin .eql 0 [] (.tmp 60) (.con (.d (.int .i64 0))), some (58, true), []⟩,
  ⟨(some 62), .pick (.tmp 58) (.tmp 61) (.con (.d (.bool false))), none, []⟩,
  ⟨(some 63), .mv (.tmp 62), none, []⟩,
  ⟨(some 64), .fldA 5 (.tmp 1), some (63, true), []⟩,
  ⟨(some 65), .load 1 false (.tmp 64), some (63, true), []⟩,
  ⟨(some 66), .bin .geq 0 [] (.tmp 65) (.con (.d (.int .i64 1))), some (63, true), []⟩,
  ⟨(some 67), .pick (.tmp 63) (.tmp 66) (.con (.d (.bool false))), none, []⟩,
  ⟨(some 68), .mv (.tmp 67), none, []⟩,
  ⟨(some 69), .fldA 5 (.tmp 1), some (68, true), []⟩,
  ⟨(some 70), .load 1 false (.tmp 69), some (68, true), []⟩,
  ⟨(some 71), .bin .leq 0 [] (.tmp 70) (.con (.d (.int .i64 9))), some (68, true), []⟩,
  ⟨(some 72), .pick (.tmp 68) (.tmp 71) (.con (.d (.bool false))), none, []⟩,
  ⟨(some 3), .mv (.tmp 72), none, []⟩]) (.seq (.ops false [⟨(some 74), .bin .eql 0 [] (.tmp 25) (.con (.d (.int .i64 4))), none, []⟩,
  ⟨(some 73), .mv (.tmp 74), none, []⟩])
 (.cond (.tmp 73) (.ops false [⟨(some 75), .mv (.tmp 3), none, []⟩,
  ⟨(some 76), .mv (.tmp 75), none, []⟩,
  ⟨(some 77), .fldA 5 (.tmp 1), some (76, true), []⟩,
  ⟨(some 78), .load 1 false (.tmp 77), some (76, true), []⟩,
  ⟨(some 79), .bin .eql 0 [] (.tmp 78) (.con (.d (.int .i64 0))), some (76, true), []⟩,
  ⟨(some 80), .pick (.tmp 76) (.tmp 79) (.con (.d (.bool false))), none, []⟩,
  ⟨(some 81), .mv (.tmp 80), none, []⟩,
  ⟨(some 82), .fldA 4 (.tmp 1), some (81, true), []⟩,
  ⟨(some 83), .load 1 false (.tmp 82), some (81, true), []⟩,
  ⟨(some 84), .bin .eql 0 [] (.tmp 83) (.con (.d (.int .i64 0))), some (81, true), []⟩,
  ⟨(some 85), .mv (.tmp 84), some (81, true), []⟩,
  ⟨(some 86), .fldA 4 (.tmp 1), some (85, false), []⟩,
  ⟨(some 87), .load 1 false (.tmp 86), some (85, false), []⟩,
  ⟨(some 88), .bin .eql 0 [] (.tmp 87) (.con (.d (.int .i64 1))), some (85, false), []⟩,
  ⟨(some 89), .pick (.tmp 85) (.con (.d (.bool true))) (.tmp 88), some (81, true), []⟩,
  ⟨(some 90), .pick (.tmp 81) (.tmp 89) (.con (.d (.bool false))), none, []⟩,
  ⟨(some 3), .mv (.tmp 90), none, []⟩]) (.seq (.ops false [⟨(some 92), .bin .eql 0 [] (.tmp 25) (.con (.d (.int .i64 3))), none, []⟩,
  ⟨(some 91), .mv (.tmp 92), none, []⟩])
 (.cond (.tmp 91) (.ops false [⟨(some 93), .fldA 4 (.tmp 1), none, []⟩,
  ⟨(some 94), .load 1 false (.tmp 93), none, []⟩,
  ⟨(some 95), .fldA 5 (.tmp 1), none, []⟩,
  ⟨(some 96), .load 1 false (.tmp 95), none, []⟩,
  ⟨(some 97), .buildSl (.int .i64) [(.int .i64 0)] 2 [(0, 1, (.tmp 94)), (1, 1, (.tmp 96))], none, []⟩,
  ⟨(some 98), .call (.con (.fn 88 [] [])) [(.tmp 97)], none, []⟩,
  ⟨(some 99), .mv (.tmp 98), none, []⟩,
  ⟨(some 100), .fldA 6 (.tmp 1), some (99, true), []⟩,
  ⟨(some 101), .load 2 true (.tmp 100), some (99, true), []⟩,
  ⟨(some 102), .call (.con (.fn 32 [] [])) [(.tmp 101)], some (99, true), []⟩,
  ⟨(some 103), .bin .eql 0 [] (.tmp 102) (.con (.d (.int .i64 0))), some (99, true), []⟩,
  ⟨(some 104), .pick (.tmp 99) (.tmp 103) (.con (.d (.bool false))), none, []⟩,
  ⟨(some 3), .mv (.tmp 104), none, []⟩]) (.skip)))))))))))))
 (.seq (.seq (.ops false [⟨(some 105), .mv (.tmp 3), none, []⟩,
  ⟨(some 106), .un .not (.tmp 105), none, []⟩,
  ⟨(some 107), .mv (.tmp 106), none, []⟩,
  ⟨(some 108), .fldA 0 (.tmp 1), some (107, false), []⟩,
  ⟨(some 109), .load 1 false (.tmp 108), some (107, false), []⟩,
  ⟨(some 110), .bin .eql 0 [] (.tmp 109) (.con (.d (.int .i64 2))), some (107, false), []⟩,
  ⟨(some 111), .mv (.tmp 110), some (107, false), []⟩,
  ⟨(some 112), .fldA 1 (.tmp 1), some (111, true), []⟩,
  ⟨(some 113), .fldA 2 (.tmp 112), some (111, true), []⟩,
  ⟨(some 114), .load 1 false (.tmp 113), some (111, true), []⟩,
  ⟨(some 115), .len 1 (.tmp 114), some (111, true), []⟩,
  ⟨(some 116), .bin .eql 0 [] (.tmp 115) (.con (.d (.int .i64 0))), some (111, true), []⟩,
  ⟨(some 117), .pick (.tmp 111) (.tmp 116) (.con (.d (.bool false))), some (107, false), []⟩,
  ⟨(some 118), .pick (.tmp 107) (.con (.d (.bool true))) (.tmp 117), none, []⟩])
 (.cond (.tmp 118) (.seq (.ops false [⟨(some 2), .mv (.con (.d (.int .i64 140))), none, []⟩])
 (.ret)) (.skip)))
 (.seq (.ops false [⟨(some 2), .mv (.con (.d (.int .i64 0))), none, []⟩])
 (.ret))))))⟩
/-- entente/ident.Cmp -/
def c52 : AFn := ⟨22, [.tmp 4], .seq (.ops false [⟨(some 2), .box (.tmp 0), none, []⟩,
  ⟨(some 3), .box (.tmp 1), none, []⟩,
  ⟨(some 4), .mv (.con (.d (.int .i64 0))), none, []⟩])
 (.seq (.ops true [⟨(some 5), .fldA 0 (.tmp 2), none, []⟩,
  ⟨(some 6), .load 1 false (.tmp 5), none, [0]⟩,
  ⟨(some 7), .fldA 0 (.tmp 3), none, []⟩,
  ⟨(some 8), .load 1 false (.tmp 7), none, [2]⟩,
  ⟨(some 9), .call (.con (.fn 90 [] [])) [(.tmp 6), (.tmp 8)], none, [1, 3]⟩,
  ⟨(some 10), .fldA 1 (.tmp 2), none, []⟩,
  ⟨(some 11), .load 1 false (.tmp 10), none, [5]⟩,
  ⟨(some 12), .fldA 1 (.tmp 3), none, []⟩,
  ⟨(some 13), .load 1 false (.tmp 12), none, [7]⟩,
  ⟨(some 14), .call (.con (.fn 90 [] [])) [(.tmp 11), (.tmp 13)], none, [4, 6, 8]⟩,
  ⟨(some 15), .fldA 2 (.tmp 2), none, []⟩,
  ⟨(some 16), .load 1 false (.tmp 15), none, [10]⟩,
  ⟨(some 17), .fldA 2 (.tmp 3), none, []⟩,
  ⟨(some 18), .load 1 false (.tmp 17), none, [12]⟩,
  ⟨(some 19), .call (.con (.fn 91 [] [])) [(.tmp 16), (.tmp 18), (.con (.fn 92 [] []))], none, [9, 11, 13]⟩,
  ⟨(some 20), .buildSl (.int .i64) [(.int .i64 0)] 3 [(0, 1, (.tmp 9)), (1, 1, (.tmp 14)), (2, 1, (.tmp 19))], none, [4, 9, 14]⟩,
  ⟨(some 21), .call (.con (.fn 89 [] [])) [(.tmp 20)], none, [14, 15]⟩,
  ⟨(some 4), .mv (.tmp 21), none, [0, 1, 2, 3, 4, 5, 6, 7, 8, 9, 10, 11, 12, 13, 14, 15, 16]⟩])
 (.ret))⟩
/-- entente/saga.copied -/
def c53 : AFn := ⟨20, [.cell 2 9 true], .seq (.ops false [⟨(some 1), .box (.tmp 0), none, []⟩,
  ⟨(some 2), .alloc [(.int .i64 0), (.int .i64 0), (.sl (.agg [(.int .i64), (.int .i64)]) true []), (.str []), (.sl (.agg [(.int .i64), .str, (.int .i64), (.int .i64), .str, (.int .i64), (.int .i64)]) true []), (.int .i64 0), (.int .i64 0), (.sl (.agg [(.int .i64), (.int .i64)]) true []), (.bool false)], none, []⟩])
 (.seq (.ops false [⟨(some 3), .fldA 0 (.tmp 1), none, []⟩,
  ⟨(some 4), .fldA 2 (.tmp 3), none, []⟩,
  ⟨(some 5), .load 1 false (.tmp 4), none, []⟩,
  ⟨(some 6), .call (.con (.fn 43 [] [])) [(.tmp 5)], none, []⟩,
  ⟨(some 7), .fldA 0 (.tmp 1), none, []⟩,
  ⟨(some 8), .fldA 2 (.tmp 7), none, []⟩,
  ⟨none, .store 1 (.tmp 8) (.tmp 6), none, []⟩])
 (.seq (.ops false [⟨(some 9), .fldA 3 (.tmp 1), none, []⟩,
  ⟨(some 10), .fldA 1 (.tmp 9), none, []⟩,
  ⟨(some 11), .load 1 false (.tmp 10), none, []⟩,
  ⟨(some 12), .call (.con (.fn 62 [] [])) [(.tmp 11)], none, []⟩,
  ⟨(some 13), .fldA 3 (.tmp 1), none, []⟩,
  ⟨(some 14), .fldA 1 (.tmp 13), none, []⟩,
  ⟨none, .store 1 (.tmp 14) (.tmp 12), none, []⟩])
 (.seq (.ops false [⟨(some 15), .fldA 7 (.tmp 1), none, []⟩,
  ⟨(some 16), .load 1 false (.tmp 15), none, []⟩,
  ⟨(some 17), .call (.con (.fn 93 [] [])) [(.tmp 16)], none, []⟩,
  ⟨(some 18), .fldA 7 (.tmp 1), none, []⟩,
  ⟨none, .store 1 (.tmp 18) (.tmp 17), none, []⟩])
 (.seq (.ops false [⟨(some 19), .load 9 true (.tmp 1), none, []⟩,
  ⟨none, .store 9 (.tmp 2) (.tmp 19), none, []⟩])
 (.ret)))))⟩
/-- (*entente/saga.holder).makes -/
def c54 : AFn := ⟨52, [.tmp 4], .seq (.ops false [⟨(some 3), .box (.tmp 1), none, []⟩,
  ⟨(some 4), .mv (.con (.d (.bool false))), none, []⟩])
 (.seq (.seq (.ops false [⟨(some 5), .mv (.tmp 0), none, []⟩,
  ⟨(some 6), .nilck (.tmp 5), none, []⟩,
  ⟨(some 7), .fldA 0 (.tmp 6), none, []⟩,
  ⟨(some 8), .fldA 5 (.tmp 7), none, []⟩,
  ⟨(some 9), .load 1 false (.tmp 8), none, []⟩,
  ⟨(some 10), .bin .eql 0 [] (.tmp 9) (.con (.d (.int .i64 7))), none, []⟩,
  ⟨(some 11), .mv (.tmp 10), none, []⟩,
  ⟨(some 12), .fldA 0 (.tmp 3), some (11, false), []⟩,
  ⟨(some 13), .load 1 false (.tmp 12), some (11, false), []⟩,
  ⟨(some 14), .bin .eql 0 [] (.tmp 13) (.con (.d (.int .i64 1))), some (11, false), []⟩,
  ⟨(some 15), .pick (.tmp 11) (.con (.d (.bool true))) (.tmp 14), none, []⟩,
  ⟨(some 16), .mv (.tmp 15), none, []⟩,
  ⟨(some 17), .fldA 0 (.tmp 3), some (16, false), []⟩,
  ⟨(some 18), .load 1 false (.tmp 17), some (16, false), []⟩,
  ⟨(some 19), .bin .eql 0 [] (.tmp 18) (.con (.d (.int .i64 2))), some (16, false), []⟩,
  ⟨(some 20), .pick (.tmp 16) (.con (.d (.bool true))) (.tmp 19), none, []⟩])
 (.cond (.tmp 20) (.seq (.ops false [⟨(some 4), .mv (.con (.d (.bool false))), none, []⟩])
 (.ret)) (.skip)))
 (.seq (.seq (.ops false [⟨(some 21), .fldA 0 (.tmp 3), none, []⟩,
  ⟨(some 22), .load 1 false (.tmp 21), none, []⟩])
 (.block 0 (.seq (.seq (.ops false [⟨(some 24), .bin .eql 0 [] (.tmp 22) (.con (.d (.int .i64 8))), none, []⟩,
  ⟨(some 23), .mv (.tmp 24), none, []⟩])
 (.cond (.tmp 23) (.skip) (.seq (.ops false [⟨(some 25), .bin .eql 0 [] (.tmp 22) (.con (.d (.int .i64 9))), none, []⟩,
  ⟨(some 23), .mv (.tmp 25), none, []⟩])
 (.cond (.tmp 23) (.skip) (.seq (.ops false [⟨(some 26), .bin .eql 0 [] (.tmp 22) (.con (.d (.int .i64 10))), none, []⟩,
  ⟨(some 23), .mv (.tmp 26), none, []⟩])
 (.cond (.tmp 23) (.skip) (.seq (.ops false [⟨(some 27), .bin .eql 0 [] (.tmp 22) (.con (.d (.int .i64 13))), none, []⟩,
  ⟨(some 23), .mv (.tmp 27), none, []⟩])
 (.cond (.tmp 23) (.skip) (.seq (.ops false [⟨(some 28), .bin .eql 0 [] (.tmp 22) (.con (.d (.int .i64 14))), none, []⟩,
  ⟨(some 23), .mv (.tmp 28), none, []⟩])
 (.cond (.tmp 23) (.skip) (.ops false [⟨(some 29), .bin .eql 0 [] (.tmp 22) (.con (.d (.int .i64 16))), none, []⟩,
  ⟨(some 23), .mv (.tmp 29), none, []⟩])))))))))))
 (.cond (.tmp 23) (.seq (.ops false [⟨(some 30), .mv (.tmp 0), none, []⟩,
  ⟨(some 31), .load 8 true (.tmp 3), none, []⟩,
  ⟨(some 32), .call (.con (.fn 94 [] [])) [(.tmp 30), (.tmp 31)], none, []⟩,
  ⟨(some 4), .mv (.tmp 32), none, []⟩])
 (.ret)) (.skip)))))
 (.seq (.seq (.ops true [⟨(some 33), .fldA 4 (.tmp 3), none, []⟩,
  ⟨(some 34), .load 1 false (.tmp 33), none, [0]⟩,
  ⟨(some 35), .mv (.tmp 0), none, []⟩,
  ⟨(some 36), .nilck (.tmp 35), none, [2]⟩,
  ⟨(some 37), .fldA 0 (.tmp 36), none, [3]⟩,
  ⟨(some 38), .fldA 7 (.tmp 37), none, [4]⟩,
  ⟨(some 39), .load 1 false (.tmp 38), none, [5]⟩,
  ⟨(some 40), .len 1 (.tmp 39), none, [6]⟩,
  ⟨(some 41), .bin .geq 0 [] (.tmp 34) (.tmp 40), none, [1, 7]⟩])
 (.cond (.tmp 41) (.seq (.ops false [⟨(some 4), .mv (.con (.d (.bool false))), none, []⟩])
 (.ret)) (.skip)))
 (.seq (.seq (.ops false [⟨(some 42), .mv (.tmp 0), none, []⟩,
  ⟨(some 43), .fldA 4 (.tmp 3), none, []⟩,
  ⟨(some 44), .load 1 false (.tmp 43), none, []⟩,
  ⟨(some 45), .call (.con (.fn 48 [] [])) [(.tmp 42), (.tmp 44)], none, []⟩])
 (.cond (.tmp 45) (.seq (.ops false [⟨(some 46), .mv (.tmp 0), none, []⟩,
  ⟨(some 47), .load 8 true (.tmp 3), none, []⟩,
  ⟨(some 48), .call (.con (.fn 95 [] [])) [(.tmp 46), (.tmp 47)], none, []⟩,
  ⟨(some 4), .mv (.tmp 48), none, []⟩])
 (.ret)) (.skip)))
 (.seq (.ops false [⟨(some 49), .mv (.tmp 0), none, []⟩,
  ⟨(some 50), .load 8 true (.tmp 3), none, []⟩,
  ⟨(some 51), .call (.con (.fn 96 [] [])) [(.tmp 49), (.tmp 50)], none, []⟩,
  ⟨(some 4), .mv (.tmp 51), none, []⟩])
 (.ret))))))⟩
/-- entente/next.at[int] -/
def c55 : AFn := ⟨19, [.tmp 4], .seq (.ops false [⟨(some 4), .mv (.con (.d (.int .i64 0))), none, []⟩])
 (.seq (.ops false [⟨(some 5), .mv (.con (.d (.int .i64 0))), none, []⟩])
 (.seq (.seq (.ops false [⟨(some 6), .mv (.tmp 1), none, []⟩,
  ⟨(some 7), .bin .lss 0 [] (.tmp 6) (.con (.d (.int .i64 0))), none, []⟩,
  ⟨(some 8), .mv (.tmp 7), none, []⟩,
  ⟨(some 9), .mv (.tmp 1), some (8, false), []⟩,
  ⟨(some 10), .mv (.tmp 0), some (8, false), []⟩,
  ⟨(some 11), .len 1 (.tmp 10), some (8, false), []⟩,
  ⟨(some 12), .bin .geq 0 [] (.tmp 9) (.tmp 11), some (8, false), []⟩,
  ⟨(some 13), .pick (.tmp 8) (.con (.d (.bool true))) (.tmp 12), none, []⟩])
 (.cond (.tmp 13) (.seq (.ops false [⟨(some 14), .mv (.tmp 5), none, []⟩,
  ⟨(some 4), .mv (.tmp 14), none, []⟩])
 (.ret)) (.skip)))
 (.seq (.ops false [⟨(some 15), .mv (.tmp 0), none, []⟩,
  ⟨(some 16), .mv (.tmp 1), none, []⟩,
  ⟨(some 17), .ixS (.int .i64) (.tmp 15) (.tmp 16), none, []⟩,
  ⟨(some 18), .load 1 false (.tmp 17), none, []⟩,
  ⟨(some 4), .mv (.tmp 18), none, []⟩])
 (.ret))))⟩
/-- (*entente/saga.holder).some -/
def c56 : AFn := ⟨9, [.tmp 4], .seq (.ops false [⟨(some 2), .box (.tmp 0), none, []⟩,
  ⟨(some 3), .box (.tmp 1), none, []⟩,
  ⟨(some 4), .mv (.con (.d (.bool false))), none, []⟩])
 (.seq (.ops false [⟨(some 5), .load 1 false (.tmp 2), none, []⟩,
  ⟨(some 6), .mkF 97 [] [(.tmp 2), (.tmp 3)], none, []⟩,
  ⟨(some 7), .call (.con (.fn 46 [] [])) [(.tmp 5), (.tmp 6)], none, []⟩,
  ⟨(some 8), .un .not (.tmp 7), none, []⟩,
  ⟨(some 4), .mv (.tmp 8), none, []⟩])
 (.ret))⟩
/-- slices.Clone[[]entente/api.Step,entente/api.Step] -/
def c62 : AFn := ⟨8, [.tmp 2], .seq (.ops false [⟨(some 2), .mv (.con (.d (.sl (.agg [(.int .i64), .str, (.int .i64), (.int .i64), .str, (.int .i64), (.int .i64)]) true []))), none, []⟩])
 (.seq (.seq (.ops false [⟨(some 3), .mv (.tmp 0), none, []⟩,
  ⟨(some 4), .bin .eql 3 [] (.tmp 3) (.con (.d (.sl (.agg [(.int .i64), .str, (.int .i64), (.int .i64), .str, (.int .i64), (.int .i64)]) true []))), none, []⟩])
 (.cond (.tmp 4) (.seq (.ops false [⟨(some 2), .mv (.con (.d (.sl (.agg [(.int .i64), .str, (.int .i64), (.int .i64), .str, (.int .i64), (.int .i64)]) true []))), none, []⟩])
 (.ret)) (.skip)))
 (.seq (.ops false [⟨(some 5), .buildSl (.agg [(.int .i64), .str, (.int .i64), (.int .i64), .str, (.int .i64), (.int .i64)]) [(.int .i64 0), (.str []), (.int .i64 0), (.int .i64 0), (.str []), (.int .i64 0), (.int .i64 0)] 0 [], none, []⟩,
  ⟨(some 6), .mv (.tmp 0), none, []⟩,
  ⟨(some 7), .appd (.agg [(.int .i64), .str, (.int .i64), (.int .i64), .str, (.int .i64), (.int .i64)]) (.tmp 5) (.tmp 6), none, []⟩,
  ⟨(some 2), .mv (.tmp 7), none, []⟩])
 (.ret)))⟩
/-- entente/act.Name -/
def c63 : AFn := ⟨45, [.tmp 2], .seq (.ops false [⟨(some 2), .mv (.con (.d (.bool false))), none, []⟩])
 (.seq (.seq (.ops false [⟨(some 5), .mv (.tmp 0), none, []⟩,
  ⟨(some 6), .bin .eql 0 [] (.tmp 5) (.con (.d (.str []))), none, []⟩,
  ⟨(some 7), .mv (.tmp 6), none, []⟩,
  ⟨(some 8), .mv (.tmp 0), some (7, false), []⟩,
  ⟨(some 9), .len 0 (.tmp 8), some (7, false), []⟩,
  ⟨(some 10), .bin .gtr 0 [] (.tmp 9) (.con (.d (.int .i64 16))), some (7, false), []⟩,
  ⟨(some 11), .pick (.tmp 7) (.con (.d (.bool true))) (.tmp 10), none, []⟩,
  ⟨(some 12), .mv (.tmp 11), none, []⟩,
  ⟨(some 13), .mv (.tmp 0), some (12, false), []⟩,
  ⟨(some 14), .ixStr (.tmp 13) (.con (.d (.int .i64 0))), some (12, false), []⟩,
  ⟨(some 15), .bin .lss 0 [] (.tmp 14) (.con (.d (.int .u8 97))), some (12, false), []⟩,
  ⟨(some 16), .pick (.tmp 12) (.con (.d (.bool true))) (.tmp 15), none, []⟩,
  ⟨(some 17), .mv (.tmp 16), none, []⟩,
  ⟨(some 18), .mv (.tmp 0), some (17, false), []⟩,
  ⟨(some 19), .ixStr (.tmp 18) (.con (.d (.int .i64 0))), some (17, false), []⟩,
  ⟨(some 20), .bin .gtr 0 [] (.tmp 19) (.con (.d (.int .u8 122))), some (17, false), []⟩,
  ⟨(some 21), .pick (.tmp 17) (.con (.d (.bool true))) (.tmp 20), none, []⟩])
 (.cond (.tmp 21) (.seq (.ops false [⟨(some 2), .mv (.con (.d (.bool false))), none, []⟩])
 (.ret)) (.skip)))
 (.seq (.seq (.ops false [⟨(some 22), .mv (.tmp 0), none, []⟩,
  ⟨(some 23), .len 0 (.tmp 22), none, []⟩,
  ⟨(some 24), .mv (.con (.d (.int .i64 0))), none, []⟩])
 (.block 0 (.loop 0 (some ([0, 23, 24], [0, 1, 2, 3, 4, 5, 6, 7])) (.seq (.ops false [⟨(some 25), .bin .lss 0 [] (.tmp 24) (.tmp 23), none, []⟩])
 (.seq (.cond (.tmp 25) (.skip) (.exit 0))
 (.seq (.block 1 (.seq (.ops false [⟨(some 26), .mv (.tmp 24), none, []⟩,
  ⟨(some 3), .mv (.tmp 26), none, []⟩])
 (.seq (.ops false [⟨(some 27), .mv (.tmp 0), none, []⟩,
  ⟨(some 28), .mv (.tmp 3), none, []⟩,
  ⟨(some 29), .ixStr (.tmp 27) (.tmp 28), none, []⟩,
  ⟨(some 4), .mv (.tmp 29), none, []⟩])
 (.seq (.ops false [⟨(some 30), .mv (.tmp 4), none, []⟩,
  ⟨(some 31), .bin .lss 0 [] (.tmp 30) (.con (.d (.int .u8 97))), none, []⟩,
  ⟨(some 32), .mv (.tmp 31), none, []⟩,
  ⟨(some 33), .mv (.tmp 4), some (32, false), []⟩,
  ⟨(some 34), .bin .gtr 0 [] (.tmp 33) (.con (.d (.int .u8 122))), some (32, false), []⟩,
  ⟨(some 35), .pick (.tmp 32) (.con (.d (.bool true))) (.tmp 34), none, []⟩,
  ⟨(some 36), .mv (.tmp 35), none, []⟩,
  ⟨(some 37), .mv (.tmp 4), some (36, true), []⟩,
  ⟨(some 38), .bin .lss 0 [] (.tmp 37) (.con (.d (.int .u8 48))), some (36, true), []⟩,
  ⟨(some 39), .mv (.tmp 38), some (36, true), []⟩,
  ⟨(some 40), .mv (.tmp 4), some (39, false), []⟩,
  ⟨(some 41), .bin .gtr 0 [] (.tmp 40) (.con (.d (.int .u8 57))), some (39, false), []⟩,
  ⟨(some 42), .pick (.tmp 39) (.con (.d (.bool true))) (.tmp 41), some (36, true), []⟩,
  ⟨(some 43), .pick (.tmp 36) (.tmp 42) (.con (.d (.bool false))), none, []⟩])
 (.cond (.tmp 43) (.seq (.ops false [⟨(some 2), .mv (.con (.d (.bool false))), none, []⟩])
 (.ret)) (.skip))))))
 (.ops false [⟨(some 44), .bin .add 0 [] (.tmp 24) (.con (.d (.int .i64 1))), none, []⟩,
  ⟨(some 24), .mv (.tmp 44), none, []⟩])))))))
 (.seq (.ops false [⟨(some 2), .mv (.con (.d (.bool true))), none, []⟩])
 (.ret))))⟩
/-- slices.ContainsFunc[[]entente/api.Step,entente/api.Step] -/
def c64 : AFn := ⟨9, [.tmp 4], .seq (.ops false [⟨(some 4), .mv (.con (.d (.bool false))), none, []⟩])
 (.seq (.ops false [⟨(some 5), .mv (.tmp 0), none, []⟩,
  ⟨(some 6), .mv (.tmp 1), none, []⟩,
  ⟨(some 7), .call (.con (.fn 102 [] [])) [(.tmp 5), (.tmp 6)], none, []⟩,
  ⟨(some 8), .bin .geq 0 [] (.tmp 7) (.con (.d (.int .i64 0))), none, []⟩,
  ⟨(some 4), .mv (.tmp 8), none, []⟩])
 (.ret))⟩
/-- entente/def.Check$1 -/
def c65 : AFn := ⟨11, [.tmp 2], .seq (.ops false [⟨(some 1), .box (.tmp 0), none, []⟩,
  ⟨(some 2), .mv (.con (.d (.bool false))), none, []⟩])
 (.seq (.ops false [⟨(some 3), .load 7 true (.tmp 1), none, []⟩,
  ⟨(some 4), .call (.con (.fn 66 [] [])) [(.tmp 3)], none, []⟩,
  ⟨(some 5), .un .not (.tmp 4), none, []⟩,
  ⟨(some 6), .mv (.tmp 5), none, []⟩,
  ⟨(some 7), .load 7 true (.tmp 1), some (6, true), []⟩,
  ⟨(some 8), .call (.con (.fn 67 [] [])) [(.tmp 7)], some (6, true), []⟩,
  ⟨(some 9), .un .not (.tmp 8), some (6, true), []⟩,
  ⟨(some 10), .pick (.tmp 6) (.tmp 9) (.con (.d (.bool false))), none, []⟩,
  ⟨(some 2), .mv (.tmp 10), none, []⟩])
 (.ret))⟩
/-- entente/def.own -/
def c66 : AFn := ⟨32, [.tmp 2], .seq (.ops false [⟨(some 1), .box (.tmp 0), none, []⟩,
  ⟨(some 2), .mv (.con (.d (.bool false))), none, []⟩])
 (.seq (.ops false [⟨(some 3), .fldA 4 (.tmp 1), none, []⟩,
  ⟨(some 4), .load 1 false (.tmp 3), none, []⟩,
  ⟨(some 5), .bin .eql 0 [] (.tmp 4) (.con (.d (.str []))), none, []⟩,
  ⟨(some 6), .mv (.tmp 5), none, []⟩,
  ⟨(some 7), .fldA 0 (.tmp 1), some (6, true), []⟩,
  ⟨(some 8), .load 3 true (.tmp 7), some (6, true), []⟩,
  ⟨(some 9), .call (.con (.fn 103 [] [])) [(.tmp 8)], some (6, true), []⟩,
  ⟨(some 10), .bin .eql 0 [] (.tmp 9) (.con (.d (.int .i64 0))), some (6, true), []⟩,
  ⟨(some 11), .pick (.tmp 6) (.tmp 10) (.con (.d (.bool false))), none, []⟩,
  ⟨(some 12), .mv (.tmp 11), none, []⟩,
  ⟨(some 13), .fldA 3 (.tmp 1), some (12, true), []⟩,
  ⟨(some 14), .load 1 false (.tmp 13), some (12, true), []⟩,
  ⟨(some 15), .bin .eql 0 [] (.tmp 14) (.con (.d (.int .i64 0))), some (12, true), []⟩,
  ⟨(some 16), .pick (.tmp 12) (.tmp 15) (.con (.d (.bool false))), none, []⟩,
  ⟨(some 17), .mv (.tmp 16), none, []⟩,
  ⟨(some 18), .fldA 6 (.tmp 1), some (17, true), []⟩,
  ⟨(some 19), .load 1 false (.tmp 18), some (17, true), []⟩,
  ⟨(some 20), .bin .eql 0 [] (.tmp 19) (.con (.d (.int .i64 0))), some (17, true), []⟩,
  ⟨(some 21), .pick (.tmp 17) (.tmp 20) (.con (.d (.bool false))), none, []⟩,
  ⟨(some 22), .mv (.tmp 21), none, []⟩,
  ⟨(some 23), .fldA 5 (.tmp 1), some (22, true), []⟩,
  ⟨(some 24), .load 1 false (.tmp 23), some (22, true), []⟩,
  ⟨(some 25), .bin .geq 0 [] (.tmp 24) (.con (.d (.int .i64 1))), some (22, true), []⟩,
  ⟨(some 26), .pick (.tmp 22) (.tmp 25) (.con (.d (.bool false))), none, []⟩,
  ⟨(some 27), .mv (.tmp 26), none, []⟩,
  ⟨(some 28), .fldA 5 (.tmp 1), some (27, true), []⟩,
  ⟨(some 29), .load 1 false (.tmp 28), some (27, true), []⟩,
  ⟨(some 30), .bin .leq 0 [] (.tmp 29) (.con (.d (.int .i64 5))), some (27, true), []⟩,
  ⟨(some 31), .pick (.tmp 27) (.tmp 30) (.con (.d (.bool false))), none, []⟩,
  ⟨(some 2), .mv (.tmp 31), none, []⟩])
 (.ret))⟩
/-- entente/def.asks -/
def c67 : AFn := ⟨37, [.tmp 2], .seq (.ops false [⟨(some 1), .box (.tmp 0), none, []⟩,
  ⟨(some 2), .mv (.con (.d (.bool false))), none, []⟩])
 (.seq (.ops false [⟨(some 3), .fldA 4 (.tmp 1), none, []⟩,
  ⟨(some 4), .load 1 false (.tmp 3), none, []⟩,
  ⟨(some 5), .call (.con (.fn 63 [] [])) [(.tmp 4)], none, []⟩,
  ⟨(some 6), .mv (.tmp 5), none, []⟩,
  ⟨(some 7), .fldA 0 (.tmp 1), some (6, true), []⟩,
  ⟨(some 8), .load 3 true (.tmp 7), some (6, true), []⟩,
  ⟨(some 9), .build [(.int .i64 0), (.str []), (.int .i64 0)] [], some (6, true), []⟩,
  ⟨(some 10), .bin .eql 6 [(.int .i64), .str, (.int .i64)] (.tmp 8) (.tmp 9), some (6, true), []⟩,
  ⟨(some 11), .pick (.tmp 6) (.tmp 10) (.con (.d (.bool false))), none, []⟩,
  ⟨(some 12), .mv (.tmp 11), none, []⟩,
  ⟨(some 13), .fldA 5 (.tmp 1), some (12, true), []⟩,
  ⟨(some 14), .load 1 false (.tmp 13), some (12, true), []⟩,
  ⟨(some 15), .bin .eql 0 [] (.tmp 14) (.con (.d (.int .i64 0))), some (12, true), []⟩,
  ⟨(some 16), .pick (.tmp 12) (.tmp 15) (.con (.d (.bool false))), none, []⟩,
  ⟨(some 17), .mv (.tmp 16), none, []⟩,
  ⟨(some 18), .fldA 3 (.tmp 1), some (17, true), []⟩,
  ⟨(some 19), .load 1 false (.tmp 18), some (17, true), []⟩,
  ⟨(some 20), .bin .geq 0 [] (.tmp 19) (.con (.d (.int .i64 0))), some (17, true), []⟩,
  ⟨(some 21), .pick (.tmp 17) (.tmp 20) (.con (.d (.bool false))), none, []⟩,
  ⟨(some 22), .mv (.tmp 21), none, []⟩,
  ⟨(some 23), .fldA 3 (.tmp 1), some (22, true), []⟩,
  ⟨(some 24), .load 1 false (.tmp 23), some (22, true), []⟩,
  ⟨(some 25), .bin .lss 0 [] (.tmp 24) (.con (.d (.int .i64 16))), some (22, true), []⟩,
  ⟨(some 26), .pick (.tmp 22) (.tmp 25) (.con (.d (.bool false))), none, []⟩,
  ⟨(some 27), .mv (.tmp 26), none, []⟩,
  ⟨(some 28), .fldA 6 (.tmp 1), some (27, true), []⟩,
  ⟨(some 29), .load 1 false (.tmp 28), some (27, true), []⟩,
  ⟨(some 30), .bin .geq 0 [] (.tmp 29) (.con (.d (.int .i64 1))), some (27, true), []⟩,
  ⟨(some 31), .pick (.tmp 27) (.tmp 30) (.con (.d (.bool false))), none, []⟩,
  ⟨(some 32), .mv (.tmp 31), none, []⟩,
  ⟨(some 33), .fldA 6 (.tmp 1), some (32, true), []⟩,
  ⟨(some 34), .load 1 false (.tmp 33), some (32, true), []⟩,
  ⟨(some 35), .bin .leq 0 [] (.tmp 34) (.con (.d (.int .i64 50))), some (32, true), []⟩,
  ⟨(some 36), .pick (.tmp 32) (.tmp 35) (.con (.d (.bool false))), none, []⟩,
  ⟨(some 2), .mv (.tmp 36), none, []⟩])
 (.ret))⟩
/-- entente/ident.Show -/
def c71 : AFn := ⟨41, [.tmp 2, .tmp 3], .seq (.ops false [⟨(some 1), .box (.tmp 0), none, []⟩,
  ⟨(some 2), .mv (.con (.d (.str []))), none, []⟩,
  ⟨(some 3), .mv (.con (.d (.int .i64 0))), none, []⟩])
 (.seq (.seq (.ops false [⟨(some 8), .load 3 true (.tmp 1), none, []⟩,
  ⟨(some 9), .call (.con (.fn 44 [] [])) [(.tmp 8)], none, []⟩,
  ⟨(some 4), .mv (.tmp 9), none, []⟩])
 (.seq (.ops false [⟨(some 10), .mv (.tmp 4), none, []⟩,
  ⟨(some 11), .bin .neq 0 [] (.tmp 10) (.con (.d (.int .i64 0))), none, []⟩])
 (.cond (.tmp 11) (.seq (.ops false [⟨(some 12), .mv (.tmp 4), none, []⟩,
  ⟨(some 2), .mv (.con (.d (.str []))), none, []⟩,
  ⟨(some 3), .mv (.tmp 12), none, []⟩])
 (.ret)) (.skip))))
 (.seq (.ops true [⟨(some 13), .fldA 0 (.tmp 1), none, []⟩,
  ⟨(some 14), .load 1 false (.tmp 13), none, [0]⟩,
  ⟨(some 15), .call (.con (.fn 72 [] [])) [(.tmp 14)], none, [1]⟩,
  ⟨(some 16), .bin .add 0 [] (.tmp 15) (.con (.d (.str [46]))), none, [2]⟩,
  ⟨(some 17), .fldA 1 (.tmp 1), none, []⟩,
  ⟨(some 18), .load 1 false (.tmp 17), none, [4]⟩,
  ⟨(some 19), .call (.con (.fn 72 [] [])) [(.tmp 18)], none, [2, 5]⟩,
  ⟨(some 20), .bin .add 0 [] (.tmp 16) (.tmp 19), none, [3, 6]⟩,
  ⟨(some 5), .mv (.tmp 20), none, [0, 1, 2, 3, 4, 5, 6, 7]⟩])
 (.seq (.seq (.ops false [⟨(some 21), .fldA 2 (.tmp 1), none, []⟩,
  ⟨(some 22), .load 1 false (.tmp 21), none, []⟩,
  ⟨(some 23), .len 1 (.tmp 22), none, []⟩,
  ⟨(some 24), .mv (.con (.d (.int .i64 0))), none, []⟩])
 (.block 0 (.loop 0 (some ([5, 22, 23, 24], [0, 1, 2, 3, 4, 5, 6, 7, 128, 129, 130, 131, 160, 161, 640, 641, 642, 643, 672, 673, 1024, 1025, 1026, 1027, 1056, 1057, 1280, 1281, 1282, 1283, 1312, 1313])) (.seq (.ops false [⟨(some 25), .bin .lss 0 [] (.tmp 24) (.tmp 23), none, []⟩])
 (.seq (.cond (.tmp 25) (.skip) (.exit 0))
 (.seq (.block 1 (.seq (.ops false [⟨(some 26), .ixS (.agg [(.int .i64), (.int .i64)]) (.tmp 22) (.tmp 24), none, []⟩,
  ⟨(some 27), .load 2 true (.tmp 26), none, []⟩,
  ⟨(some 7), .alloc [(.int .i64 0), (.int .i64 0)], none, []⟩,
  ⟨none, .store 2 (.tmp 7) (.tmp 27), none, []⟩])
 (.ops true [⟨(some 28), .mv (.tmp 5), none, []⟩,
  ⟨(some 29), .fldA 0 (.tmp 7), none, []⟩,
  ⟨(some 30), .load 1 false (.tmp 29), none, [1]⟩,
  ⟨(some 31), .call (.con (.fn 72 [] [])) [(.tmp 30)], none, [2]⟩,
  ⟨(some 32), .bin .add 0 [] (.con (.d (.str [47]))) (.tmp 31), none, [3]⟩,
  ⟨(some 33), .bin .add 0 [] (.tmp 32) (.con (.d (.str [64]))), none, [4]⟩,
  ⟨(some 34), .fldA 1 (.tmp 7), none, []⟩,
  ⟨(some 35), .load 1 false (.tmp 34), none, [6]⟩,
  ⟨(some 36), .call (.con (.fn 72 [] [])) [(.tmp 35)], none, [3, 7]⟩,
  ⟨(some 37), .bin .add 0 [] (.tmp 33) (.tmp 36), none, [5, 8]⟩,
  ⟨(some 38), .bin .add 0 [] (.tmp 28) (.tmp 37), none, [0, 9]⟩,
  ⟨(some 5), .mv (.tmp 38), none, [0, 1, 2, 3, 4, 5, 6, 7, 8, 9, 10]⟩])))
 (.ops false [⟨(some 39), .bin .add 0 [] (.tmp 24) (.con (.d (.int .i64 1))), none, []⟩,
  ⟨(some 24), .mv (.tmp 39), none, []⟩])))))))
 (.seq (.ops false [⟨(some 40), .mv (.tmp 5), none, []⟩,
  ⟨(some 2), .mv (.tmp 40), none, []⟩,
  ⟨(some 3), .mv (.con (.d (.int .i64 0))), none, []⟩])
 (.ret)))))⟩
/-- strconv.Itoa -/
def c72 : AFn := ⟨5, [.tmp 2], .seq (.ops false [⟨(some 2), .mv (.con (.d (.str []))), none, []⟩])
 (.seq (.ops false [⟨(some 3), .mv (.tmp 0), none, []⟩,
  ⟨(some 4), .call (.con (.fn 107 [] [])) [(.tmp 3)], none, []⟩,
  ⟨(some 2), .mv (.tmp 4), none, []⟩])
 (.ret))⟩
/-- entente/next.at[string] -/
def c73 : AFn := ⟨19, [.tmp 4], .seq (.ops false [⟨(some 4), .mv (.con (.d (.str []))), none, []⟩])
 (.seq (.ops false [⟨(some 5), .mv (.con (.d (.str []))), none, []⟩])
 (.seq (.seq (.ops false [⟨(some 6), .mv (.tmp 1), none, []⟩,
  ⟨(some 7), .bin .lss 0 [] (.tmp 6) (.con (.d (.int .i64 0))), none, []⟩,
  ⟨(some 8), .mv (.tmp 7), none, []⟩,
  ⟨(some 9), .mv (.tmp 1), some (8, false), []⟩,
  ⟨(some 10), .mv (.tmp 0), some (8, false), []⟩,
  ⟨(some 11), .len 1 (.tmp 10), some (8, false), []⟩,
  ⟨(some 12), .bin .geq 0 [] (.tmp 9) (.tmp 11), some (8, false), []⟩,
  ⟨(some 13), .pick (.tmp 8) (.con (.d (.bool true))) (.tmp 12), none, []⟩])
 (.cond (.tmp 13) (.seq (.ops false [⟨(some 14), .mv (.tmp 5), none, []⟩,
  ⟨(some 4), .mv (.tmp 14), none, []⟩])
 (.ret)) (.skip)))
 (.seq (.ops false [⟨(some 15), .mv (.tmp 0), none, []⟩,
  ⟨(some 16), .mv (.tmp 1), none, []⟩,
  ⟨(some 17), .ixS .str (.tmp 15) (.tmp 16), none, []⟩,
  ⟨(some 18), .load 1 false (.tmp 17), none, []⟩,
  ⟨(some 4), .mv (.tmp 18), none, []⟩])
 (.ret))))⟩
/-- slices.IndexFunc[[]entente/api.Part,entente/api.Part] -/
def c74 : AFn := ⟨19, [.tmp 4], .seq (.ops false [⟨(some 4), .mv (.con (.d (.int .i64 0))), none, []⟩])
 (.seq (.seq (.ops false [⟨(some 6), .mv (.tmp 0), none, []⟩,
  ⟨(some 7), .len 1 (.tmp 6), none, []⟩,
  ⟨(some 8), .mv (.con (.d (.int .i64 0))), none, []⟩])
 (.block 0 (.loop 0 (some ([0, 1, 7, 8], [0, 1, 2, 3, 4, 5, 6, 7])) (.seq (.ops false [⟨(some 9), .bin .lss 0 [] (.tmp 8) (.tmp 7), none, []⟩])
 (.seq (.cond (.tmp 9) (.skip) (.exit 0))
 (.seq (.block 1 (.seq (.ops false [⟨(some 10), .mv (.tmp 8), none, []⟩,
  ⟨(some 5), .mv (.tmp 10), none, []⟩])
 (.seq (.ops false [⟨(some 11), .mv (.tmp 1), none, []⟩,
  ⟨(some 12), .mv (.tmp 0), none, []⟩,
  ⟨(some 13), .mv (.tmp 5), none, []⟩,
  ⟨(some 14), .ixS (.agg [(.int .i64), (.int .i64)]) (.tmp 12) (.tmp 13), none, []⟩,
  ⟨(some 15), .load 2 true (.tmp 14), none, []⟩,
  ⟨(some 16), .call (.tmp 11) [(.tmp 15)], none, []⟩])
 (.cond (.tmp 16) (.seq (.ops false [⟨(some 17), .mv (.tmp 5), none, []⟩,
  ⟨(some 4), .mv (.tmp 17), none, []⟩])
 (.ret)) (.skip)))))
 (.ops false [⟨(some 18), .bin .add 0 [] (.tmp 8) (.con (.d (.int .i64 1))), none, []⟩,
  ⟨(some 8), .mv (.tmp 18), none, []⟩])))))))
 (.seq (.ops false [⟨(some 4), .mv (.con (.d (.int .i64 (-1)))), none, []⟩])
 (.ret)))⟩
/-- entente/next.step -/
def c75 : AFn := ⟨9, [.cell 4 8 true, .tmp 5], .seq (.ops false [⟨(some 4), .alloc [(.int .i64 0), (.int .i64 0), (.int .i64 0), (.sl (.agg [(.int .i64), (.int .i64)]) true []), (.int .i64 0), (.int .i64 0), (.str []), (.sl (.agg [(.int .i64), .str, (.int .i64), (.int .i64), .str, (.int .i64), (.int .i64)]) true [])], none, []⟩,
  ⟨(some 5), .mv (.con (.d (.bool false))), none, []⟩])
 (.seq (.ops false [⟨(some 6), .mv (.tmp 0), none, []⟩,
  ⟨(some 7), .mv (.tmp 1), none, []⟩,
  ⟨(some 8), .build [(.int .i64 0), (.int .i64 0), (.int .i64 0), (.sl (.agg [(.int .i64), (.int .i64)]) true []), (.int .i64 0), (.int .i64 0), (.str []), (.sl (.agg [(.int .i64), .str, (.int .i64), (.int .i64), .str, (.int .i64), (.int .i64)]) true [])] [(0, 1, (.tmp 6)), (4, 1, (.tmp 7))], none, []⟩,
  ⟨none, .store 8 (.tmp 4) (.tmp 8), none, []⟩,
  ⟨(some 5), .mv (.con (.d (.bool true))), none, []⟩])
 (.ret))⟩
/-- entente/ident.path -/
def c76 : AFn := ⟨23, [.tmp 2], .seq (.ops false [⟨(some 1), .box (.tmp 0), none, []⟩,
  ⟨(some 2), .mv (.con (.d (.sl (.int .i64) true []))), none, []⟩])
 (.seq (.ops false [⟨(some 6), .fldA 0 (.tmp 1), none, []⟩,
  ⟨(some 7), .load 1 false (.tmp 6), none, []⟩,
  ⟨(some 8), .buildSl (.int .i64) [(.int .i64 0)] 1 [(0, 1, (.tmp 7))], none, []⟩,
  ⟨(some 3), .mv (.tmp 8), none, []⟩])
 (.seq (.seq (.ops false [⟨(some 9), .fldA 2 (.tmp 1), none, []⟩,
  ⟨(some 10), .load 1 false (.tmp 9), none, []⟩,
  ⟨(some 11), .len 1 (.tmp 10), none, []⟩,
  ⟨(some 12), .mv (.con (.d (.int .i64 0))), none, []⟩])
 (.block 0 (.loop 0 (some ([3, 10, 11, 12], [0, 1, 2, 3, 4, 5, 6, 7, 128, 129, 130, 131, 160, 161, 576, 577, 578, 579, 608, 609, 1344, 1345, 1346, 1347, 1376, 1377])) (.seq (.ops false [⟨(some 13), .bin .lss 0 [] (.tmp 12) (.tmp 11), none, []⟩])
 (.seq (.cond (.tmp 13) (.skip) (.exit 0))
 (.seq (.block 1 (.seq (.ops false [⟨(some 14), .ixS (.agg [(.int .i64), (.int .i64)]) (.tmp 10) (.tmp 12), none, []⟩,
  ⟨(some 15), .load 2 true (.tmp 14), none, []⟩,
  ⟨(some 5), .alloc [(.int .i64 0), (.int .i64 0)], none, []⟩,
  ⟨none, .store 2 (.tmp 5) (.tmp 15), none, []⟩])
 (.ops false [⟨(some 16), .mv (.tmp 3), none, []⟩,
  ⟨(some 17), .fldA 1 (.tmp 5), none, []⟩,
  ⟨(some 18), .load 1 false (.tmp 17), none, []⟩,
  ⟨(some 19), .buildSl (.int .i64) [(.int .i64 0)] 1 [(0, 1, (.tmp 18))], none, []⟩,
  ⟨(some 20), .appd (.int .i64) (.tmp 16) (.tmp 19), none, []⟩,
  ⟨(some 3), .mv (.tmp 20), none, []⟩])))
 (.ops false [⟨(some 21), .bin .add 0 [] (.tmp 12) (.con (.d (.int .i64 1))), none, []⟩,
  ⟨(some 12), .mv (.tmp 21), none, []⟩])))))))
 (.seq (.ops false [⟨(some 22), .mv (.tmp 3), none, []⟩,
  ⟨(some 2), .mv (.tmp 22), none, []⟩])
 (.ret))))⟩
/-- slices.ContainsFunc[[]entente/api.Hop,entente/api.Hop] -/
def c77 : AFn := ⟨9, [.tmp 4], .seq (.ops false [⟨(some 4), .mv (.con (.d (.bool false))), none, []⟩])
 (.seq (.ops false [⟨(some 5), .mv (.tmp 0), none, []⟩,
  ⟨(some 6), .mv (.tmp 1), none, []⟩,
  ⟨(some 7), .call (.con (.fn 108 [] [])) [(.tmp 5), (.tmp 6)], none, []⟩,
  ⟨(some 8), .bin .geq 0 [] (.tmp 7) (.con (.d (.int .i64 0))), none, []⟩,
  ⟨(some 4), .mv (.tmp 8), none, []⟩])
 (.ret))⟩
/-- entente/ident.Check$1 -/
def c78 : AFn := ⟨11, [.tmp 2], .seq (.ops false [⟨(some 1), .box (.tmp 0), none, []⟩,
  ⟨(some 2), .mv (.con (.d (.bool false))), none, []⟩])
 (.seq (.ops false [⟨(some 3), .fldA 0 (.tmp 1), none, []⟩,
  ⟨(some 4), .load 1 false (.tmp 3), none, []⟩,
  ⟨(some 5), .bin .lss 0 [] (.tmp 4) (.con (.d (.int .i64 0))), none, []⟩,
  ⟨(some 6), .mv (.tmp 5), none, []⟩,
  ⟨(some 7), .fldA 0 (.tmp 1), some (6, false), []⟩,
  ⟨(some 8), .load 1 false (.tmp 7), some (6, false), []⟩,
  ⟨(some 9), .bin .geq 0 [] (.tmp 8) (.con (.d (.int .i64 8))), some (6, false), []⟩,
  ⟨(some 10), .pick (.tmp 6) (.con (.d (.bool true))) (.tmp 9), none, []⟩,
  ⟨(some 2), .mv (.tmp 10), none, []⟩])
 (.ret))⟩
/-- (*entente/saga.holder).running -/
def c79 : AFn := ⟨22, [.tmp 2], .seq (.ops false [⟨(some 2), .mv (.con (.d (.bool false))), none, []⟩])
 (.seq (.ops false [⟨(some 3), .mv (.con (.d (.int .i64 0))), none, []⟩])
 (.seq (.block 0 (.loop 0 (some ([0, 3], [0, 1, 2, 3, 4, 5, 6, 7, 1408, 1409, 1410, 1411, 1440, 1441])) (.seq (.seq (.ops false [⟨(some 4), .mv (.tmp 3), none, []⟩,
  ⟨(some 5), .mv (.tmp 0), none, []⟩,
  ⟨(some 6), .nilck (.tmp 5), none, []⟩,
  ⟨(some 7), .fldA 0 (.tmp 6), none, []⟩,
  ⟨(some 8), .fldA 7 (.tmp 7), none, []⟩,
  ⟨(some 9), .load 1 false (.tmp 8), none, []⟩,
  ⟨(some 10), .len 1 (.tmp 9), none, []⟩,
  ⟨(some 11), .bin .lss 0 [] (.tmp 4) (.tmp 10), none, []⟩,
  ⟨(some 12), .mv (.tmp 11), none, []⟩,
  ⟨(some 13), .mv (.tmp 0), some (12, true), []⟩,
  ⟨(some 14), .mv (.tmp 3), some (12, true), []⟩,
  ⟨(some 15), .call (.con (.fn 80 [] [])) [(.tmp 13), (.tmp 14)], some (12, true), []⟩,
  ⟨(some 16), .pick (.tmp 12) (.tmp 15) (.con (.d (.bool false))), none, []⟩])
 (.cond (.tmp 16) (.skip) (.exit 0)))
 (.block 1 (.ops false [⟨(some 17), .mv (.tmp 3), none, []⟩,
  ⟨(some 18), .bin .add 0 [] (.tmp 17) (.con (.d (.int .i64 1))), none, []⟩,
  ⟨(some 3), .mv (.tmp 18), none, []⟩])))))
 (.seq (.ops false [⟨(some 19), .mv (.tmp 0), none, []⟩,
  ⟨(some 20), .mv (.tmp 3), none, []⟩,
  ⟨(some 21), .call (.con (.fn 109 [] [])) [(.tmp 19), (.tmp 20)], none, []⟩,
  ⟨(some 2), .mv (.tmp 21), none, []⟩])
 (.ret))))⟩
/-- (*entente/saga.holder).got -/
def c80 : AFn := ⟨20, [.tmp 4], .seq (.ops false [⟨(some 4), .mv (.con (.d (.bool false))), none, []⟩])
 (.seq (.ops false [⟨(some 5), .mv (.tmp 0), none, []⟩,
  ⟨(some 6), .mv (.tmp 1), none, []⟩,
  ⟨(some 7), .buildSl (.int .i64) [(.int .i64 0)] 1 [(0, 1, (.con (.d (.int .i64 2))))], none, []⟩,
  ⟨(some 8), .call (.con (.fn 82 [] [])) [(.tmp 5), (.tmp 6), (.tmp 7)], none, []⟩,
  ⟨(some 9), .mv (.tmp 8), none, []⟩,
  ⟨(some 10), .mv (.tmp 0), some (9, false), []⟩,
  ⟨(some 11), .mv (.tmp 1), some (9, false), []⟩,
  ⟨(some 12), .call (.con (.fn 48 [] [])) [(.tmp 10), (.tmp 11)], some (9, false), []⟩,
  ⟨(some 13), .mv (.tmp 12), some (9, false), []⟩,
  ⟨(some 14), .mv (.tmp 0), some (13, true), []⟩,
  ⟨(some 15), .mv (.tmp 1), some (13, true), []⟩,
  ⟨(some 16), .buildSl (.int .i64) [(.int .i64 0)] 1 [(0, 1, (.con (.d (.int .i64 3))))], some (13, true), []⟩,
  ⟨(some 17), .call (.con (.fn 82 [] [])) [(.tmp 14), (.tmp 15), (.tmp 16)], some (13, true), []⟩,
  ⟨(some 18), .pick (.tmp 13) (.tmp 17) (.con (.d (.bool false))), some (9, false), []⟩,
  ⟨(some 19), .pick (.tmp 9) (.con (.d (.bool true))) (.tmp 18), none, []⟩,
  ⟨(some 4), .mv (.tmp 19), none, []⟩])
 (.ret))⟩
/-- (*entente/saga.holder).fits$1 -/
def c81 : AFn := ⟨14, [.tmp 3], .seq (.ops false [⟨(some 3), .mv (.con (.d (.bool false))), none, []⟩])
 (.seq (.ops false [⟨(some 4), .load 1 false (.tmp 1), none, []⟩,
  ⟨(some 5), .mv (.tmp 0), none, []⟩,
  ⟨(some 6), .call (.con (.fn 48 [] [])) [(.tmp 4), (.tmp 5)], none, []⟩,
  ⟨(some 7), .mv (.tmp 6), none, []⟩,
  ⟨(some 8), .load 1 false (.tmp 1), some (7, false), []⟩,
  ⟨(some 9), .mv (.tmp 0), some (7, false), []⟩,
  ⟨(some 10), .buildSl (.int .i64) [(.int .i64 0)] 1 [(0, 1, (.con (.d (.int .i64 2))))], some (7, false), []⟩,
  ⟨(some 11), .call (.con (.fn 82 [] [])) [(.tmp 8), (.tmp 9), (.tmp 10)], some (7, false), []⟩,
  ⟨(some 12), .un .not (.tmp 11), some (7, false), []⟩,
  ⟨(some 13), .pick (.tmp 7) (.con (.d (.bool true))) (.tmp 12), none, []⟩,
  ⟨(some 3), .mv (.tmp 13), none, []⟩])
 (.ret))⟩
/-- (*entente/saga.holder).stands -/
def c82 : AFn := ⟨18, [.tmp 6], .seq (.ops false [⟨(some 6), .mv (.con (.d (.bool false))), none, []⟩])
 (.seq (.ops false [⟨(some 7), .mv (.tmp 2), none, []⟩,
  ⟨(some 8), .mv (.tmp 0), none, []⟩,
  ⟨(some 9), .nilck (.tmp 8), none, []⟩,
  ⟨(some 10), .fldA 0 (.tmp 9), none, []⟩,
  ⟨(some 11), .fldA 7 (.tmp 10), none, []⟩,
  ⟨(some 12), .load 1 false (.tmp 11), none, []⟩,
  ⟨(some 13), .mv (.tmp 1), none, []⟩,
  ⟨(some 14), .ixS (.agg [(.int .i64), (.int .i64)]) (.tmp 12) (.tmp 13), none, []⟩,
  ⟨(some 15), .fldA 0 (.tmp 14), none, []⟩,
  ⟨(some 16), .load 1 false (.tmp 15), none, []⟩,
  ⟨(some 17), .call (.con (.fn 110 [] [])) [(.tmp 7), (.tmp 16)], none, []⟩,
  ⟨(some 6), .mv (.tmp 17), none, []⟩])
 (.ret))⟩
/-- (*entente/saga.holder).fits$2 -/
def c83 : AFn := ⟨19, [.tmp 3], .seq (.ops false [⟨(some 3), .mv (.con (.d (.bool false))), none, []⟩])
 (.seq (.ops false [⟨(some 4), .load 1 false (.tmp 1), none, []⟩,
  ⟨(some 5), .mv (.tmp 0), none, []⟩,
  ⟨(some 6), .buildSl (.int .i64) [(.int .i64 0)] 1 [(0, 1, (.con (.d (.int .i64 4))))], none, []⟩,
  ⟨(some 7), .call (.con (.fn 82 [] [])) [(.tmp 4), (.tmp 5), (.tmp 6)], none, []⟩,
  ⟨(some 8), .mv (.tmp 7), none, []⟩,
  ⟨(some 9), .load 1 false (.tmp 1), some (8, false), []⟩,
  ⟨(some 10), .mv (.tmp 0), some (8, false), []⟩,
  ⟨(some 11), .call (.con (.fn 48 [] [])) [(.tmp 9), (.tmp 10)], some (8, false), []⟩,
  ⟨(some 12), .mv (.tmp 11), some (8, false), []⟩,
  ⟨(some 13), .load 1 false (.tmp 1), some (12, true), []⟩,
  ⟨(some 14), .mv (.tmp 0), some (12, true), []⟩,
  ⟨(some 15), .buildSl (.int .i64) [(.int .i64 0)] 1 [(0, 1, (.con (.d (.int .i64 2))))], some (12, true), []⟩,
  ⟨(some 16), .call (.con (.fn 82 [] [])) [(.tmp 13), (.tmp 14), (.tmp 15)], some (12, true), []⟩,
  ⟨(some 17), .pick (.tmp 12) (.tmp 16) (.con (.d (.bool false))), some (8, false), []⟩,
  ⟨(some 18), .pick (.tmp 8) (.con (.d (.bool true))) (.tmp 17), none, []⟩,
  ⟨(some 3), .mv (.tmp 18), none, []⟩])
 (.ret))⟩
/-- (*entente/saga.holder).fits$3 -/
def c84 : AFn := ⟨14, [.tmp 3], .seq (.ops false [⟨(some 3), .mv (.con (.d (.bool false))), none, []⟩])
 (.seq (.ops false [⟨(some 4), .load 1 false (.tmp 1), none, []⟩,
  ⟨(some 5), .mv (.tmp 0), none, []⟩,
  ⟨(some 6), .call (.con (.fn 48 [] [])) [(.tmp 4), (.tmp 5)], none, []⟩,
  ⟨(some 7), .mv (.tmp 6), none, []⟩,
  ⟨(some 8), .load 1 false (.tmp 1), some (7, false), []⟩,
  ⟨(some 9), .mv (.tmp 0), some (7, false), []⟩,
  ⟨(some 10), .buildSl (.int .i64) [(.int .i64 0)] 2 [(0, 1, (.con (.d (.int .i64 2)))), (1, 1, (.con (.d (.int .i64 4))))], some (7, false), []⟩,
  ⟨(some 11), .call (.con (.fn 82 [] [])) [(.tmp 8), (.tmp 9), (.tmp 10)], some (7, false), []⟩,
  ⟨(some 12), .un .not (.tmp 11), some (7, false), []⟩,
  ⟨(some 13), .pick (.tmp 7) (.con (.d (.bool true))) (.tmp 12), none, []⟩,
  ⟨(some 3), .mv (.tmp 13), none, []⟩])
 (.ret))⟩
/-- (*entente/saga.holder).current$1 -/
def c85 : AFn := ⟨6, [.tmp 2], .seq (.ops false [⟨(some 1), .box (.tmp 0), none, []⟩,
  ⟨(some 2), .mv (.con (.d (.bool false))), none, []⟩])
 (.seq (.ops false [⟨(some 3), .fldA 0 (.tmp 1), none, []⟩,
  ⟨(some 4), .load 1 false (.tmp 3), none, []⟩,
  ⟨(some 5), .bin .neq 0 [] (.tmp 4) (.con (.d (.int .i64 2))), none, []⟩,
  ⟨(some 2), .mv (.tmp 5), none, []⟩])
 (.ret))⟩
/-- entente/record.noDef -/
def c86 : AFn := ⟨12, [.tmp 2], .seq (.ops false [⟨(some 1), .box (.tmp 0), none, []⟩,
  ⟨(some 2), .mv (.con (.d (.bool false))), none, []⟩])
 (.seq (.ops false [⟨(some 3), .fldA 0 (.tmp 1), none, []⟩,
  ⟨(some 4), .load 1 false (.tmp 3), none, []⟩,
  ⟨(some 5), .bin .eql 0 [] (.tmp 4) (.con (.d (.str []))), none, []⟩,
  ⟨(some 6), .mv (.tmp 5), none, []⟩,
  ⟨(some 7), .fldA 1 (.tmp 1), some (6, true), []⟩,
  ⟨(some 8), .load 1 false (.tmp 7), some (6, true), []⟩,
  ⟨(some 9), .len 1 (.tmp 8), some (6, true), []⟩,
  ⟨(some 10), .bin .eql 0 [] (.tmp 9) (.con (.d (.int .i64 0))), some (6, true), []⟩,
  ⟨(some 11), .pick (.tmp 6) (.tmp 10) (.con (.d (.bool false))), none, []⟩,
  ⟨(some 2), .mv (.tmp 11), none, []⟩])
 (.ret))⟩
/-- entente/record.kinds -/
def c87 : AFn := ⟨19, [.cell 0 34 true], .seq (.ops false [⟨(some 0), .allocA (.agg [.str, (.int .i64)]) [(.str []), (.int .i64 0), (.str []), (.int .i64 0), (.str []), (.int .i64 0), (.str []), (.int .i64 0), (.str []), (.int .i64 0), (.str []), (.int .i64 0), (.str []), (.int .i64 0), (.str []), (.int .i64 0), (.str []), (.int .i64 0), (.str []), (.int .i64 0), (.str []), (.int .i64 0), (.str []), (.int .i64 0), (.str []), (.int .i64 0), (.str []), (.int .i64 0), (.str []), (.int .i64 0), (.str []), (.int .i64 0), (.str []), (.int .i64 0)] 17, none, []⟩])
 (.seq (.ops false [⟨(some 1), .build [(.str []), (.int .i64 0)] [], none, []⟩,
  ⟨(some 2), .build [(.str []), (.int .i64 0)] [(0, 1, (.con (.d (.str [98, 101, 103, 105, 110])))), (1, 1, (.con (.d (.int .i64 3))))], none, []⟩,
  ⟨(some 3), .build [(.str []), (.int .i64 0)] [(0, 1, (.con (.d (.str [114, 101, 102, 117, 115, 101])))), (1, 1, (.con (.d (.int .i64 2))))], none, []⟩,
  ⟨(some 4), .build [(.str []), (.int .i64 0)] [(0, 1, (.con (.d (.str [102, 97, 105, 108])))), (1, 1, (.con (.d (.int .i64 1))))], none, []⟩,
  ⟨(some 5), .build [(.str []), (.int .i64 0)] [(0, 1, (.con (.d (.str [100, 111])))), (1, 1, (.con (.d (.int .i64 1))))], none, []⟩,
  ⟨(some 6), .build [(.str []), (.int .i64 0)] [(0, 1, (.con (.d (.str [97, 115, 107])))), (1, 1, (.con (.d (.int .i64 1))))], none, []⟩,
  ⟨(some 7), .build [(.str []), (.int .i64 0)] [(0, 1, (.con (.d (.str [103, 111, 116])))), (1, 1, (.con (.d (.int .i64 1))))], none, []⟩,
  ⟨(some 8), .build [(.str []), (.int .i64 0)] [(0, 1, (.con (.d (.str [108, 111, 115, 116])))), (1, 1, (.con (.d (.int .i64 1))))], none, []⟩,
  ⟨(some 9), .build [(.str []), (.int .i64 0)] [(0, 1, (.con (.d (.str [104, 111, 108, 100])))), (1, 1, (.con (.d (.int .i64 0))))], none, []⟩,
  ⟨(some 10), .build [(.str []), (.int .i64 0)] [(0, 1, (.con (.d (.str [99, 111, 109, 109, 105, 116])))), (1, 1, (.con (.d (.int .i64 0))))], none, []⟩,
  ⟨(some 11), .build [(.str []), (.int .i64 0)] [(0, 1, (.con (.d (.str [98, 97, 99, 107])))), (1, 1, (.con (.d (.int .i64 2))))], none, []⟩,
  ⟨(some 12), .build [(.str []), (.int .i64 0)] [(0, 1, (.con (.d (.str [117, 110, 100, 111])))), (1, 1, (.con (.d (.int .i64 1))))], none, []⟩,
  ⟨(some 13), .build [(.str []), (.int .i64 0)] [(0, 1, (.con (.d (.str [106, 97, 109])))), (1, 1, (.con (.d (.int .i64 1))))], none, []⟩,
  ⟨(some 14), .build [(.str []), (.int .i64 0)] [(0, 1, (.con (.d (.str [97, 103, 97, 105, 110])))), (1, 1, (.con (.d (.int .i64 0))))], none, []⟩,
  ⟨(some 15), .build [(.str []), (.int .i64 0)] [(0, 1, (.con (.d (.str [101, 110, 100])))), (1, 1, (.con (.d (.int .i64 0))))], none, []⟩,
  ⟨(some 16), .build [(.str []), (.int .i64 0)] [(0, 1, (.con (.d (.str [107, 101, 112, 116])))), (1, 1, (.con (.d (.int .i64 1))))], none, []⟩,
  ⟨(some 17), .build [(.str []), (.int .i64 0)] [(0, 1, (.con (.d (.str [102, 111, 114, 99, 101])))), (1, 1, (.con (.d (.int .i64 4))))], none, []⟩,
  ⟨(some 18), .build [(.str []), (.int .i64 0), (.str []), (.int .i64 0), (.str []), (.int .i64 0), (.str []), (.int .i64 0), (.str []), (.int .i64 0), (.str []), (.int .i64 0), (.str []), (.int .i64 0), (.str []), (.int .i64 0), (.str []), (.int .i64 0), (.str []), (.int .i64 0), (.str []), (.int .i64 0), (.str []), (.int .i64 0), (.str []), (.int .i64 0), (.str []), (.int .i64 0), (.str []), (.int .i64 0), (.str []), (.int .i64 0), (.str []), (.int .i64 0)] [(0, 2, (.tmp 1)), (2, 2, (.tmp 2)), (4, 2, (.tmp 3)), (6, 2, (.tmp 4)), (8, 2, (.tmp 5)), (10, 2, (.tmp 6)), (12, 2, (.tmp 7)), (14, 2, (.tmp 8)), (16, 2, (.tmp 9)), (18, 2, (.tmp 10)), (20, 2, (.tmp 11)), (22, 2, (.tmp 12)), (24, 2, (.tmp 13)), (26, 2, (.tmp 14)), (28, 2, (.tmp 15)), (30, 2, (.tmp 16)), (32, 2, (.tmp 17))], none, []⟩,
  ⟨none, .store 34 (.tmp 0) (.tmp 18), none, []⟩])
 (.ret))⟩
/-- entente/record.zero[int] -/
def c88 : AFn := ⟨16, [.tmp 2], .seq (.ops false [⟨(some 2), .mv (.con (.d (.bool false))), none, []⟩])
 (.seq (.ops false [⟨(some 3), .mv (.con (.d (.int .i64 0))), none, []⟩])
 (.seq (.seq (.ops false [⟨(some 6), .mv (.tmp 0), none, []⟩,
  ⟨(some 7), .len 1 (.tmp 6), none, []⟩,
  ⟨(some 8), .mv (.con (.d (.int .i64 0))), none, []⟩])
 (.block 0 (.loop 0 (some ([3, 6, 7, 8], [0, 1, 2, 3, 4, 5, 6, 7])) (.seq (.ops false [⟨(some 9), .bin .lss 0 [] (.tmp 8) (.tmp 7), none, []⟩])
 (.seq (.cond (.tmp 9) (.skip) (.exit 0))
 (.seq (.block 1 (.seq (.ops false [⟨(some 10), .ixS (.int .i64) (.tmp 6) (.tmp 8), none, []⟩,
  ⟨(some 11), .load 1 false (.tmp 10), none, []⟩,
  ⟨(some 5), .mv (.tmp 11), none, []⟩])
 (.seq (.ops false [⟨(some 12), .mv (.tmp 5), none, []⟩,
  ⟨(some 13), .mv (.tmp 3), none, []⟩,
  ⟨(some 14), .bin .neq 0 [] (.tmp 12) (.tmp 13), none, []⟩])
 (.cond (.tmp 14) (.seq (.ops false [⟨(some 2), .mv (.con (.d (.bool false))), none, []⟩])
 (.ret)) (.skip)))))
 (.ops false [⟨(some 15), .bin .add 0 [] (.tmp 8) (.con (.d (.int .i64 1))), none, []⟩,
  ⟨(some 8), .mv (.tmp 15), none, []⟩])))))))
 (.seq (.ops false [⟨(some 2), .mv (.con (.d (.bool true))), none, []⟩])
 (.ret))))⟩
/-- cmp.Or[int] -/
def c89 : AFn := ⟨18, [.tmp 2], .seq (.ops false [⟨(some 2), .mv (.con (.d (.int .i64 0))), none, []⟩])
 (.seq (.ops false [⟨(some 3), .mv (.con (.d (.int .i64 0))), none, []⟩])
 (.seq (.seq (.ops false [⟨(some 6), .mv (.tmp 0), none, []⟩,
  ⟨(some 7), .len 1 (.tmp 6), none, []⟩,
  ⟨(some 8), .mv (.con (.d (.int .i64 0))), none, []⟩])
 (.block 0 (.loop 0 (some ([3, 6, 7, 8], [0, 1, 2, 3, 4, 5, 6, 7])) (.seq (.ops false [⟨(some 9), .bin .lss 0 [] (.tmp 8) (.tmp 7), none, []⟩])
 (.seq (.cond (.tmp 9) (.skip) (.exit 0))
 (.seq (.block 1 (.seq (.ops false [⟨(some 10), .ixS (.int .i64) (.tmp 6) (.tmp 8), none, []⟩,
  ⟨(some 11), .load 1 false (.tmp 10), none, []⟩,
  ⟨(some 5), .mv (.tmp 11), none, []⟩])
 (.seq (.ops false [⟨(some 12), .mv (.tmp 5), none, []⟩,
  ⟨(some 13), .mv (.tmp 3), none, []⟩,
  ⟨(some 14), .bin .neq 0 [] (.tmp 12) (.tmp 13), none, []⟩])
 (.cond (.tmp 14) (.seq (.ops false [⟨(some 15), .mv (.tmp 5), none, []⟩,
  ⟨(some 2), .mv (.tmp 15), none, []⟩])
 (.ret)) (.skip)))))
 (.ops false [⟨(some 16), .bin .add 0 [] (.tmp 8) (.con (.d (.int .i64 1))), none, []⟩,
  ⟨(some 8), .mv (.tmp 16), none, []⟩])))))))
 (.seq (.ops false [⟨(some 17), .mv (.tmp 3), none, []⟩,
  ⟨(some 2), .mv (.tmp 17), none, []⟩])
 (.ret))))⟩
/-- cmp.Compare[int] -/
def c90 : AFn := ⟨20, [.tmp 4], .seq (.ops false [⟨(some 4), .mv (.con (.d (.int .i64 0))), none, []⟩])
 (.seq (.ops false [⟨(some 7), .mv (.tmp 0), none, []⟩,
  ⟨(some 8), .call (.con (.fn 111 [] [])) [(.tmp 7)], none, []⟩,
  ⟨(some 5), .mv (.tmp 8), none, []⟩])
 (.seq (.ops false [⟨(some 9), .mv (.tmp 1), none, []⟩,
  ⟨(some 10), .call (.con (.fn 111 [] [])) [(.tmp 9)], none, []⟩,
  ⟨(some 6), .mv (.tmp 10), none, []⟩])
 (.seq (.seq (.ops false [⟨(some 11), .mv (.tmp 5), none, []⟩])
 (.cond (.tmp 11) (.seq (.seq (.ops false [⟨(some 12), .mv (.tmp 6), none, []⟩])
 (.cond (.tmp 12) (.seq (.ops false [⟨(some 4), .mv (.con (.d (.int .i64 0))), none, []⟩])
 (.ret)) (.skip)))
 (.seq (.ops false [⟨(some 4), .mv (.con (.d (.int .i64 (-1)))), none, []⟩])
 (.ret))) (.skip)))
 (.seq (.seq (.ops false [⟨(some 13), .mv (.tmp 6), none, []⟩])
 (.cond (.tmp 13) (.seq (.ops false [⟨(some 4), .mv (.con (.d (.int .i64 1))), none, []⟩])
 (.ret)) (.skip)))
 (.seq (.seq (.ops false [⟨(some 14), .mv (.tmp 0), none, []⟩,
  ⟨(some 15), .mv (.tmp 1), none, []⟩,
  ⟨(some 16), .bin .lss 0 [] (.tmp 14) (.tmp 15), none, []⟩])
 (.cond (.tmp 16) (.seq (.ops false [⟨(some 4), .mv (.con (.d (.int .i64 (-1)))), none, []⟩])
 (.ret)) (.skip)))
 (.seq (.seq (.ops false [⟨(some 17), .mv (.tmp 0), none, []⟩,
  ⟨(some 18), .mv (.tmp 1), none, []⟩,
  ⟨(some 19), .bin .gtr 0 [] (.tmp 17) (.tmp 18), none, []⟩])
 (.cond (.tmp 19) (.seq (.ops false [⟨(some 4), .mv (.con (.d (.int .i64 1))), none, []⟩])
 (.ret)) (.skip)))
 (.seq (.ops false [⟨(some 4), .mv (.con (.d (.int .i64 0))), none, []⟩])
 (.ret))))))))⟩
/-- slices.CompareFunc[[]entente/api.Hop,[]entente/api.Hop,entente/api.Hop,entente/api.Hop] -/
def c91 : AFn := ⟨39, [.tmp 6], .seq (.ops false [⟨(some 6), .mv (.con (.d (.int .i64 0))), none, []⟩])
 (.seq (.seq (.ops false [⟨(some 11), .mv (.tmp 0), none, []⟩,
  ⟨(some 12), .len 1 (.tmp 11), none, []⟩,
  ⟨(some 13), .mv (.con (.d (.int .i64 0))), none, []⟩])
 (.block 0 (.loop 0 (some ([0, 1, 2, 11, 12, 13], [0, 1, 2, 3, 4, 5, 6, 7])) (.seq (.ops false [⟨(some 14), .bin .lss 0 [] (.tmp 13) (.tmp 12), none, []⟩])
 (.seq (.cond (.tmp 14) (.skip) (.exit 0))
 (.seq (.block 1 (.seq (.ops false [⟨(some 15), .mv (.tmp 13), none, []⟩,
  ⟨(some 16), .ixS (.agg [(.int .i64), (.int .i64)]) (.tmp 11) (.tmp 13), none, []⟩,
  ⟨(some 17), .load 2 true (.tmp 16), none, []⟩,
  ⟨(some 8), .alloc [(.int .i64 0), (.int .i64 0)], none, []⟩,
  ⟨(some 7), .mv (.tmp 15), none, []⟩,
  ⟨none, .store 2 (.tmp 8) (.tmp 17), none, []⟩])
 (.seq (.seq (.ops false [⟨(some 18), .mv (.tmp 7), none, []⟩,
  ⟨(some 19), .mv (.tmp 1), none, []⟩,
  ⟨(some 20), .len 1 (.tmp 19), none, []⟩,
  ⟨(some 21), .bin .geq 0 [] (.tmp 18) (.tmp 20), none, []⟩])
 (.cond (.tmp 21) (.seq (.ops false [⟨(some 6), .mv (.con (.d (.int .i64 1))), none, []⟩])
 (.ret)) (.skip)))
 (.seq (.ops false [⟨(some 22), .mv (.tmp 1), none, []⟩,
  ⟨(some 23), .mv (.tmp 7), none, []⟩,
  ⟨(some 24), .ixS (.agg [(.int .i64), (.int .i64)]) (.tmp 22) (.tmp 23), none, []⟩,
  ⟨(some 25), .load 2 true (.tmp 24), none, []⟩,
  ⟨(some 9), .alloc [(.int .i64 0), (.int .i64 0)], none, []⟩,
  ⟨none, .store 2 (.tmp 9) (.tmp 25), none, []⟩])
 (.seq (.ops false [⟨(some 26), .mv (.tmp 2), none, []⟩,
  ⟨(some 27), .load 2 true (.tmp 8), none, []⟩,
  ⟨(some 28), .load 2 true (.tmp 9), none, []⟩,
  ⟨(some 29), .call (.tmp 26) [(.tmp 27), (.tmp 28)], none, []⟩,
  ⟨(some 10), .mv (.tmp 29), none, []⟩])
 (.seq (.ops false [⟨(some 30), .mv (.tmp 10), none, []⟩,
  ⟨(some 31), .bin .neq 0 [] (.tmp 30) (.con (.d (.int .i64 0))), none, []⟩])
 (.cond (.tmp 31) (.seq (.ops false [⟨(some 32), .mv (.tmp 10), none, []⟩,
  ⟨(some 6), .mv (.tmp 32), none, []⟩])
 (.ret)) (.skip))))))))
 (.ops false [⟨(some 33), .bin .add 0 [] (.tmp 13) (.con (.d (.int .i64 1))), none, []⟩,
  ⟨(some 13), .mv (.tmp 33), none, []⟩])))))))
 (.seq (.seq (.ops false [⟨(some 34), .mv (.tmp 0), none, []⟩,
  ⟨(some 35), .len 1 (.tmp 34), none, []⟩,
  ⟨(some 36), .mv (.tmp 1), none, []⟩,
  ⟨(some 37), .len 1 (.tmp 36), none, []⟩,
  ⟨(some 38), .bin .lss 0 [] (.tmp 35) (.tmp 37), none, []⟩])
 (.cond (.tmp 38) (.seq (.ops false [⟨(some 6), .mv (.con (.d (.int .i64 (-1)))), none, []⟩])
 (.ret)) (.skip)))
 (.seq (.ops false [⟨(some 6), .mv (.con (.d (.int .i64 0))), none, []⟩])
 (.ret))))⟩
/-- entente/ident.Cmp$1 -/
def c92 : AFn := ⟨17, [.tmp 4], .seq (.ops false [⟨(some 2), .box (.tmp 0), none, []⟩,
  ⟨(some 3), .box (.tmp 1), none, []⟩,
  ⟨(some 4), .mv (.con (.d (.int .i64 0))), none, []⟩])
 (.seq (.ops true [⟨(some 5), .fldA 0 (.tmp 2), none, []⟩,
  ⟨(some 6), .load 1 false (.tmp 5), none, [0]⟩,
  ⟨(some 7), .fldA 0 (.tmp 3), none, []⟩,
  ⟨(some 8), .load 1 false (.tmp 7), none, [2]⟩,
  ⟨(some 9), .call (.con (.fn 90 [] [])) [(.tmp 6), (.tmp 8)], none, [1, 3]⟩,
  ⟨(some 10), .fldA 1 (.tmp 2), none, []⟩,
  ⟨(some 11), .load 1 false (.tmp 10), none, [5]⟩,
  ⟨(some 12), .fldA 1 (.tmp 3), none, []⟩,
  ⟨(some 13), .load 1 false (.tmp 12), none, [7]⟩,
  ⟨(some 14), .call (.con (.fn 90 [] [])) [(.tmp 11), (.tmp 13)], none, [4, 6, 8]⟩,
  ⟨(some 15), .buildSl (.int .i64) [(.int .i64 0)] 2 [(0, 1, (.tmp 9)), (1, 1, (.tmp 14))], none, [4, 9]⟩,
  ⟨(some 16), .call (.con (.fn 89 [] [])) [(.tmp 15)], none, [9, 10]⟩,
  ⟨(some 4), .mv (.tmp 16), none, [0, 1, 2, 3, 4, 5, 6, 7, 8, 9, 10, 11]⟩])
 (.ret))⟩
/-- slices.Clone[[]entente/api.Part,entente/api.Part] -/
def c93 : AFn := ⟨8, [.tmp 2], .seq (.ops false [⟨(some 2), .mv (.con (.d (.sl (.agg [(.int .i64), (.int .i64)]) true []))), none, []⟩])
 (.seq (.seq (.ops false [⟨(some 3), .mv (.tmp 0), none, []⟩,
  ⟨(some 4), .bin .eql 3 [] (.tmp 3) (.con (.d (.sl (.agg [(.int .i64), (.int .i64)]) true []))), none, []⟩])
 (.cond (.tmp 4) (.seq (.ops false [⟨(some 2), .mv (.con (.d (.sl (.agg [(.int .i64), (.int .i64)]) true []))), none, []⟩])
 (.ret)) (.skip)))
 (.seq (.ops false [⟨(some 5), .buildSl (.agg [(.int .i64), (.int .i64)]) [(.int .i64 0), (.int .i64 0)] 0 [], none, []⟩,
  ⟨(some 6), .mv (.tmp 0), none, []⟩,
  ⟨(some 7), .appd (.agg [(.int .i64), (.int .i64)]) (.tmp 5) (.tmp 6), none, []⟩,
  ⟨(some 2), .mv (.tmp 7), none, []⟩])
 (.ret)))⟩
/-- (*entente/saga.holder).whole -/
def c94 : AFn := ⟨143, [.tmp 4], .seq (.ops false [⟨(some 3), .box (.tmp 1), none, []⟩,
  ⟨(some 4), .mv (.con (.d (.bool false))), none, []⟩])
 (.seq (.ops true [⟨(some 8), .mv (.tmp 0), none, []⟩,
  ⟨(some 9), .nilck (.tmp 8), none, [0]⟩,
  ⟨(some 10), .fldA 0 (.tmp 9), none, [1]⟩,
  ⟨(some 11), .fldA 5 (.tmp 10), none, [2]⟩,
  ⟨(some 12), .load 1 false (.tmp 11), none, [3]⟩,
  ⟨(some 13), .bin .eql 0 [] (.tmp 12) (.con (.d (.int .i64 1))), none, [4]⟩,
  ⟨(some 14), .mv (.tmp 0), none, []⟩,
  ⟨(some 15), .nilck (.tmp 14), none, [6]⟩,
  ⟨(some 16), .fldA 0 (.tmp 15), none, [7]⟩,
  ⟨(some 17), .fldA 5 (.tmp 16), none, [8]⟩,
  ⟨(some 18), .load 1 false (.tmp 17), none, [9]⟩,
  ⟨(some 19), .bin .eql 0 [] (.tmp 18) (.con (.d (.int .i64 2))), none, [10]⟩,
  ⟨(some 5), .mv (.tmp 13), none, [0, 1, 2, 3, 4, 5]⟩,
  ⟨(some 6), .mv (.tmp 19), none, [0, 1, 2, 3, 4, 5, 6, 7, 8, 9, 10, 11, 12]⟩])
 (.seq (.ops false [⟨(some 20), .mv (.tmp 0), none, []⟩,
  ⟨(some 21), .nilck (.tmp 20), none, []⟩,
  ⟨(some 22), .fldA 0 (.tmp 21), none, []⟩,
  ⟨(some 23), .fldA 0 (.tmp 22), none, []⟩,
  ⟨(some 24), .fldA 2 (.tmp 23), none, []⟩,
  ⟨(some 25), .load 1 false (.tmp 24), none, []⟩,
  ⟨(some 26), .len 1 (.tmp 25), none, []⟩,
  ⟨(some 27), .bin .gtr 0 [] (.tmp 26) (.con (.d (.int .i64 0))), none, []⟩,
  ⟨(some 7), .mv (.tmp 27), none, []⟩])
 (.seq (.seq (.ops false [⟨(some 28), .fldA 0 (.tmp 3), none, []⟩,
  ⟨(some 29), .load 1 false (.tmp 28), none, []⟩])
 (.block 0 (.seq (.ops false [⟨(some 31), .bin .eql 0 [] (.tmp 29) (.con (.d (.int .i64 8))), none, []⟩,
  ⟨(some 30), .mv (.tmp 31), none, []⟩])
 (.cond (.tmp 30) (.seq (.ops false [⟨(some 32), .mv (.tmp 5), none, []⟩,
  ⟨(some 33), .mv (.tmp 32), none, []⟩,
  ⟨(some 34), .mv (.tmp 7), some (33, true), []⟩,
  ⟨(some 35), .pick (.tmp 33) (.tmp 34) (.con (.d (.bool false))), none, []⟩,
  ⟨(some 36), .mv (.tmp 35), none, []⟩,
  ⟨(some 37), .mv (.tmp 0), some (36, true), []⟩,
  ⟨(some 38), .call (.con (.fn 112 [] [])) [(.tmp 37)], some (36, true), []⟩,
  ⟨(some 39), .pick (.tmp 36) (.tmp 38) (.con (.d (.bool false))), none, []⟩,
  ⟨(some 40), .mv (.tmp 39), none, []⟩,
  ⟨(some 41), .mv (.tmp 0), some (40, true), []⟩,
  ⟨(some 42), .call (.con (.fn 113 [] [])) [(.tmp 41), (.con (.d (.int .i64 2))), (.con (.d (.int .i64 0)))], some (40, true), []⟩,
  ⟨(some 43), .pick (.tmp 40) (.tmp 42) (.con (.d (.bool false))), none, []⟩,
  ⟨(some 4), .mv (.tmp 43), none, []⟩])
 (.ret)) (.seq (.ops false [⟨(some 45), .bin .eql 0 [] (.tmp 29) (.con (.d (.int .i64 9))), none, []⟩,
  ⟨(some 44), .mv (.tmp 45), none, []⟩])
 (.cond (.tmp 44) (.seq (.seq (.ops false [⟨(some 46), .mv (.tmp 5), none, []⟩,
  ⟨(some 47), .mv (.tmp 46), none, []⟩,
  ⟨(some 48), .mv (.tmp 7), some (47, true), []⟩,
  ⟨(some 49), .un .not (.tmp 48), some (47, true), []⟩,
  ⟨(some 50), .pick (.tmp 47) (.tmp 49) (.con (.d (.bool false))), none, []⟩,
  ⟨(some 51), .mv (.tmp 50), none, []⟩,
  ⟨(some 52), .mv (.tmp 6), some (51, false), []⟩,
  ⟨(some 53), .pick (.tmp 51) (.con (.d (.bool true))) (.tmp 52), none, []⟩,
  ⟨(some 54), .un .not (.tmp 53), none, []⟩,
  ⟨(some 55), .mv (.tmp 54), none, []⟩,
  ⟨(some 56), .mv (.tmp 0), some (55, false), []⟩,
  ⟨(some 57), .call (.con (.fn 112 [] [])) [(.tmp 56)], some (55, false), []⟩,
  ⟨(some 58), .un .not (.tmp 57), some (55, false), []⟩,
  ⟨(some 59), .pick (.tmp 55) (.con (.d (.bool true))) (.tmp 58), none, []⟩])
 (.cond (.tmp 59) (.seq (.ops false [⟨(some 4), .mv (.con (.d (.bool false))), none, []⟩])
 (.ret)) (.skip)))
 (.seq (.ops false [⟨(some 60), .mv (.tmp 0), none, []⟩,
  ⟨(some 61), .call (.con (.fn 114 [] [])) [(.tmp 60), (.con (.d (.int .i64 4)))], none, []⟩])
 (.seq (.ops false [⟨(some 62), .mv (.tmp 0), none, []⟩,
  ⟨(some 63), .call (.con (.fn 113 [] [])) [(.tmp 62), (.con (.d (.int .i64 3))), (.con (.d (.int .i64 0)))], none, []⟩,
  ⟨(some 4), .mv (.tmp 63), none, []⟩])
 (.ret)))) (.seq (.ops false [⟨(some 65), .bin .eql 0 [] (.tmp 29) (.con (.d (.int .i64 10))), none, []⟩,
  ⟨(some 64), .mv (.tmp 65), none, []⟩])
 (.cond (.tmp 64) (.seq (.seq (.ops false [⟨(some 66), .mv (.tmp 5), none, []⟩,
  ⟨(some 67), .un .not (.tmp 66), none, []⟩,
  ⟨(some 68), .mv (.tmp 67), none, []⟩,
  ⟨(some 69), .mv (.tmp 6), some (68, true), []⟩,
  ⟨(some 70), .mv (.tmp 69), some (68, true), []⟩,
  ⟨(some 71), .fldA 5 (.tmp 3), some (70, true), []⟩,
  ⟨(some 72), .load 1 false (.tmp 71), some (70, true), []⟩,
  ⟨(some 73), .bin .eql 0 [] (.tmp 72) (.con (.d (.int .i64 7))), some (70, true), []⟩,
  ⟨(some 74), .mv (.tmp 73), some (70, true), []⟩,
  ⟨(some 75), .fldA 5 (.tmp 3), some (74, false), []⟩,
  ⟨(some 76), .load 1 false (.tmp 75), some (74, false), []⟩,
  ⟨(some 77), .bin .eql 0 [] (.tmp 76) (.con (.d (.int .i64 5))), some (74, false), []⟩,
  ⟨(some 78), .mv (.tmp 77), some (74, false), []⟩,
  ⟨(some 79), .mv (.tmp 0), some (78, true), []⟩,
  ⟨(some 80), .buildSl (.int .i64) [(.int .i64 0)] 1 [(0, 1, (.con (.d (.int .i64 3))))], some (78, true), []⟩,
  ⟨(some 81), .call (.con (.fn 56 [] [])) [(.tmp 79), (.tmp 80)], some (78, true), []⟩,
  ⟨(some 82), .pick (.tmp 78) (.tmp 81) (.con (.d (.bool false))), some (74, false), []⟩,
  ⟨(some 83), .pick (.tmp 74) (.con (.d (.bool true))) (.tmp 82), some (70, true), []⟩,
  ⟨(some 84), .pick (.tmp 70) (.tmp 83) (.con (.d (.bool false))), some (68, true), []⟩,
  ⟨(some 85), .un .not (.tmp 84), some (68, true), []⟩,
  ⟨(some 86), .pick (.tmp 68) (.tmp 85) (.con (.d (.bool false))), none, []⟩])
 (.cond (.tmp 86) (.seq (.ops false [⟨(some 4), .mv (.con (.d (.bool false))), none, []⟩])
 (.ret)) (.skip)))
 (.seq (.ops false [⟨(some 87), .mv (.tmp 0), none, []⟩,
  ⟨(some 88), .call (.con (.fn 115 [] [])) [(.tmp 87)], none, []⟩])
 (.seq (.ops false [⟨(some 89), .mv (.tmp 0), none, []⟩,
  ⟨(some 90), .fldA 5 (.tmp 3), none, []⟩,
  ⟨(some 91), .load 1 false (.tmp 90), none, []⟩,
  ⟨(some 92), .call (.con (.fn 113 [] [])) [(.tmp 89), (.con (.d (.int .i64 4))), (.tmp 91)], none, []⟩,
  ⟨(some 4), .mv (.tmp 92), none, []⟩])
 (.ret)))) (.seq (.ops false [⟨(some 94), .bin .eql 0 [] (.tmp 29) (.con (.d (.int .i64 13))), none, []⟩,
  ⟨(some 93), .mv (.tmp 94), none, []⟩])
 (.cond (.tmp 93) (.seq (.seq (.ops false [⟨(some 95), .mv (.tmp 0), none, []⟩,
  ⟨(some 96), .nilck (.tmp 95), none, []⟩,
  ⟨(some 97), .fldA 0 (.tmp 96), none, []⟩,
  ⟨(some 98), .fldA 5 (.tmp 97), none, []⟩,
  ⟨(some 99), .load 1 false (.tmp 98), none, []⟩,
  ⟨(some 100), .bin .neq 0 [] (.tmp 99) (.con (.d (.int .i64 5))), none, []⟩])
 (.cond (.tmp 100) (.seq (.ops false [⟨(some 4), .mv (.con (.d (.bool false))), none, []⟩])
 (.ret)) (.skip)))
 (.seq (.ops true [⟨(some 101), .mv (.tmp 0), none, []⟩,
  ⟨(some 102), .nilck (.tmp 101), none, [0]⟩,
  ⟨(some 103), .fldA 0 (.tmp 102), none, [1]⟩,
  ⟨(some 104), .fldA 7 (.tmp 103), none, [2]⟩,
  ⟨(some 105), .load 1 false (.tmp 104), none, [3]⟩,
  ⟨(some 106), .mv (.tmp 0), none, []⟩,
  ⟨(some 107), .call (.con (.fn 50 [] [])) [(.tmp 106)], none, [5]⟩,
  ⟨(some 108), .ixS (.agg [(.int .i64), (.int .i64)]) (.tmp 105) (.tmp 107), none, [0, 1, 2, 3, 4, 5, 6]⟩,
  ⟨(some 109), .fldA 1 (.tmp 108), none, [0, 1, 2, 3, 4, 5, 6, 7]⟩,
  ⟨none, .store 1 (.tmp 109) (.con (.d (.int .i64 0))), none, [0, 1, 2, 3, 4, 5, 6, 8]⟩])
 (.seq (.ops false [⟨(some 110), .mv (.tmp 0), none, []⟩,
  ⟨(some 111), .mv (.tmp 0), none, []⟩,
  ⟨(some 112), .nilck (.tmp 111), none, []⟩,
  ⟨(some 113), .fldA 0 (.tmp 112), none, []⟩,
  ⟨(some 114), .fldA 6 (.tmp 113), none, []⟩,
  ⟨(some 115), .load 1 false (.tmp 114), none, []⟩,
  ⟨(some 116), .call (.con (.fn 113 [] [])) [(.tmp 110), (.con (.d (.int .i64 4))), (.tmp 115)], none, []⟩,
  ⟨(some 4), .mv (.tmp 116), none, []⟩])
 (.ret)))) (.seq (.ops false [⟨(some 118), .bin .eql 0 [] (.tmp 29) (.con (.d (.int .i64 14))), none, []⟩,
  ⟨(some 117), .mv (.tmp 118), none, []⟩])
 (.cond (.tmp 117) (.seq (.ops false [⟨(some 119), .mv (.tmp 0), none, []⟩,
  ⟨(some 120), .nilck (.tmp 119), none, []⟩,
  ⟨(some 121), .fldA 0 (.tmp 120), none, []⟩,
  ⟨(some 122), .fldA 5 (.tmp 121), none, []⟩,
  ⟨(some 123), .load 1 false (.tmp 122), none, []⟩,
  ⟨(some 124), .bin .eql 0 [] (.tmp 123) (.con (.d (.int .i64 4))), none, []⟩,
  ⟨(some 125), .mv (.tmp 124), none, []⟩,
  ⟨(some 126), .mv (.tmp 0), some (125, true), []⟩,
  ⟨(some 127), .call (.con (.fn 50 [] [])) [(.tmp 126)], some (125, true), []⟩,
  ⟨(some 128), .bin .lss 0 [] (.tmp 127) (.con (.d (.int .i64 0))), some (125, true), []⟩,
  ⟨(some 129), .pick (.tmp 125) (.tmp 128) (.con (.d (.bool false))), none, []⟩,
  ⟨(some 130), .mv (.tmp 129), none, []⟩,
  ⟨(some 131), .mv (.tmp 0), some (130, true), []⟩,
  ⟨(some 132), .mv (.tmp 0), some (130, true), []⟩,
  ⟨(some 133), .nilck (.tmp 132), some (130, true), []⟩,
  ⟨(some 134), .fldA 0 (.tmp 133), some (130, true), []⟩,
  ⟨(some 135), .fldA 6 (.tmp 134), some (130, true), []⟩,
  ⟨(some 136), .load 1 false (.tmp 135), some (130, true), []⟩,
  ⟨(some 137), .call (.con (.fn 113 [] [])) [(.tmp 131), (.con (.d (.int .i64 6))), (.tmp 136)], some (130, true), []⟩,
  ⟨(some 138), .pick (.tmp 130) (.tmp 137) (.con (.d (.bool false))), none, []⟩,
  ⟨(some 4), .mv (.tmp 138), none, []⟩])
 (.ret)) (.skip)))))))))))))
 (.seq (.ops false [⟨(some 139), .mv (.tmp 0), none, []⟩,
  ⟨(some 140), .fldA 4 (.tmp 3), none, []⟩,
  ⟨(some 141), .load 1 false (.tmp 140), none, []⟩,
  ⟨(some 142), .call (.con (.fn 116 [] [])) [(.tmp 139), (.tmp 141)], none, []⟩,
  ⟨(some 4), .mv (.tmp 142), none, []⟩])
 (.ret)))))⟩
/-- (*entente/saga.holder).child -/
def c95 : AFn := ⟨120, [.tmp 4], .seq (.ops false [⟨(some 3), .box (.tmp 1), none, []⟩,
  ⟨(some 4), .mv (.con (.d (.bool false))), none, []⟩])
 (.seq (.ops false [⟨(some 9), .fldA 4 (.tmp 3), none, []⟩,
  ⟨(some 10), .load 1 false (.tmp 9), none, []⟩,
  ⟨(some 5), .mv (.tmp 10), none, []⟩])
 (.seq (.ops false [⟨(some 11), .mv (.tmp 0), none, []⟩,
  ⟨(some 12), .nilck (.tmp 11), none, []⟩,
  ⟨(some 13), .fldA 0 (.tmp 12), none, []⟩,
  ⟨(some 14), .fldA 7 (.tmp 13), none, []⟩,
  ⟨(some 15), .load 1 false (.tmp 14), none, []⟩,
  ⟨(some 16), .mv (.tmp 5), none, []⟩,
  ⟨(some 17), .ixS (.agg [(.int .i64), (.int .i64)]) (.tmp 15) (.tmp 16), none, []⟩,
  ⟨(some 18), .fldA 1 (.tmp 17), none, []⟩,
  ⟨(some 19), .load 1 false (.tmp 18), none, []⟩,
  ⟨(some 6), .mv (.tmp 19), none, []⟩])
 (.seq (.ops false [⟨(some 20), .mv (.tmp 0), none, []⟩,
  ⟨(some 21), .nilck (.tmp 20), none, []⟩,
  ⟨(some 22), .fldA 0 (.tmp 21), none, []⟩,
  ⟨(some 23), .fldA 5 (.tmp 22), none, []⟩,
  ⟨(some 24), .load 1 false (.tmp 23), none, []⟩,
  ⟨(some 25), .bin .eql 0 [] (.tmp 24) (.con (.d (.int .i64 1))), none, []⟩,
  ⟨(some 26), .mv (.tmp 25), none, []⟩,
  ⟨(some 27), .mv (.tmp 5), some (26, true), []⟩,
  ⟨(some 28), .mv (.tmp 0), some (26, true), []⟩,
  ⟨(some 29), .call (.con (.fn 50 [] [])) [(.tmp 28)], some (26, true), []⟩,
  ⟨(some 30), .bin .eql 0 [] (.tmp 27) (.tmp 29), some (26, true), []⟩,
  ⟨(some 31), .pick (.tmp 26) (.tmp 30) (.con (.d (.bool false))), none, []⟩,
  ⟨(some 7), .mv (.tmp 31), none, []⟩])
 (.seq (.seq (.ops false [⟨(some 32), .fldA 0 (.tmp 3), none, []⟩,
  ⟨(some 33), .load 1 false (.tmp 32), none, []⟩])
 (.block 0 (.seq (.ops false [⟨(some 35), .bin .eql 0 [] (.tmp 33) (.con (.d (.int .i64 5))), none, []⟩,
  ⟨(some 34), .mv (.tmp 35), none, []⟩])
 (.cond (.tmp 34) (.seq (.ops false [⟨(some 36), .mv (.tmp 7), none, []⟩,
  ⟨(some 37), .mv (.tmp 36), none, []⟩,
  ⟨(some 38), .mv (.tmp 0), some (37, true), []⟩,
  ⟨(some 39), .mv (.tmp 5), some (37, true), []⟩,
  ⟨(some 40), .buildSl (.int .i64) [(.int .i64 0)] 1 [(0, 1, (.con (.d (.int .i64 0))))], some (37, true), []⟩,
  ⟨(some 41), .call (.con (.fn 82 [] [])) [(.tmp 38), (.tmp 39), (.tmp 40)], some (37, true), []⟩,
  ⟨(some 42), .pick (.tmp 37) (.tmp 41) (.con (.d (.bool false))), none, []⟩,
  ⟨(some 43), .mv (.tmp 42), none, []⟩,
  ⟨(some 44), .mv (.tmp 0), some (43, true), []⟩,
  ⟨(some 45), .mv (.tmp 5), some (43, true), []⟩,
  ⟨(some 46), .mv (.tmp 6), some (43, true), []⟩,
  ⟨(some 47), .call (.con (.fn 117 [] [])) [(.tmp 44), (.tmp 45), (.con (.d (.int .i64 1))), (.tmp 46)], some (43, true), []⟩,
  ⟨(some 48), .pick (.tmp 43) (.tmp 47) (.con (.d (.bool false))), none, []⟩,
  ⟨(some 4), .mv (.tmp 48), none, []⟩])
 (.ret)) (.seq (.ops false [⟨(some 50), .bin .eql 0 [] (.tmp 33) (.con (.d (.int .i64 6))), none, []⟩,
  ⟨(some 49), .mv (.tmp 50), none, []⟩])
 (.cond (.tmp 49) (.seq (.ops false [⟨(some 51), .mv (.tmp 7), none, []⟩,
  ⟨(some 52), .mv (.tmp 51), none, []⟩,
  ⟨(some 53), .mv (.tmp 0), some (52, true), []⟩,
  ⟨(some 54), .mv (.tmp 5), some (52, true), []⟩,
  ⟨(some 55), .buildSl (.int .i64) [(.int .i64 0)] 1 [(0, 1, (.con (.d (.int .i64 1))))], some (52, true), []⟩,
  ⟨(some 56), .call (.con (.fn 82 [] [])) [(.tmp 53), (.tmp 54), (.tmp 55)], some (52, true), []⟩,
  ⟨(some 57), .pick (.tmp 52) (.tmp 56) (.con (.d (.bool false))), none, []⟩,
  ⟨(some 58), .mv (.tmp 57), none, []⟩,
  ⟨(some 59), .mv (.tmp 0), some (58, true), []⟩,
  ⟨(some 60), .mv (.tmp 5), some (58, true), []⟩,
  ⟨(some 61), .mv (.tmp 6), some (58, true), []⟩,
  ⟨(some 62), .call (.con (.fn 117 [] [])) [(.tmp 59), (.tmp 60), (.con (.d (.int .i64 2))), (.tmp 61)], some (58, true), []⟩,
  ⟨(some 63), .pick (.tmp 58) (.tmp 62) (.con (.d (.bool false))), none, []⟩,
  ⟨(some 4), .mv (.tmp 63), none, []⟩])
 (.ret)) (.seq (.ops false [⟨(some 65), .bin .eql 0 [] (.tmp 33) (.con (.d (.int .i64 7))), none, []⟩,
  ⟨(some 64), .mv (.tmp 65), none, []⟩])
 (.cond (.tmp 64) (.seq (.ops false [⟨(some 66), .mv (.tmp 0), none, []⟩,
  ⟨(some 67), .nilck (.tmp 66), none, []⟩,
  ⟨(some 68), .fldA 0 (.tmp 67), none, []⟩,
  ⟨(some 69), .fldA 8 (.tmp 68), none, []⟩,
  ⟨(some 70), .load 1 false (.tmp 69), none, []⟩,
  ⟨(some 71), .mv (.tmp 70), none, []⟩,
  ⟨(some 72), .mv (.tmp 0), some (71, false), []⟩,
  ⟨(some 73), .nilck (.tmp 72), some (71, false), []⟩,
  ⟨(some 74), .fldA 0 (.tmp 73), some (71, false), []⟩,
  ⟨(some 75), .fldA 5 (.tmp 74), some (71, false), []⟩,
  ⟨(some 76), .load 1 false (.tmp 75), some (71, false), []⟩,
  ⟨(some 77), .bin .neq 0 [] (.tmp 76) (.con (.d (.int .i64 3))), some (71, false), []⟩,
  ⟨(some 78), .mv (.tmp 77), some (71, false), []⟩,
  ⟨(some 79), .mv (.tmp 0), some (78, true), []⟩,
  ⟨(some 80), .nilck (.tmp 79), some (78, true), []⟩,
  ⟨(some 81), .fldA 0 (.tmp 80), some (78, true), []⟩,
  ⟨(some 82), .fldA 5 (.tmp 81), some (78, true), []⟩,
  ⟨(some 83), .load 1 false (.tmp 82), some (78, true), []⟩,
  ⟨(some 84), .bin .neq 0 [] (.tmp 83) (.con (.d (.int .i64 6))), some (78, true), []⟩,
  ⟨(some 85), .pick (.tmp 78) (.tmp 84) (.con (.d (.bool false))), some (71, false), []⟩,
  ⟨(some 86), .pick (.tmp 71) (.con (.d (.bool true))) (.tmp 85), none, []⟩,
  ⟨(some 8), .mv (.tmp 86), none, []⟩])
 (.seq (.ops false [⟨(some 87), .mv (.tmp 8), none, []⟩,
  ⟨(some 88), .mv (.tmp 87), none, []⟩,
  ⟨(some 89), .mv (.tmp 0), some (88, true), []⟩,
  ⟨(some 90), .mv (.tmp 5), some (88, true), []⟩,
  ⟨(some 91), .buildSl (.int .i64) [(.int .i64 0)] 2 [(0, 1, (.con (.d (.int .i64 1)))), (1, 1, (.con (.d (.int .i64 2))))], some (88, true), []⟩,
  ⟨(some 92), .call (.con (.fn 82 [] [])) [(.tmp 89), (.tmp 90), (.tmp 91)], some (88, true), []⟩,
  ⟨(some 93), .pick (.tmp 88) (.tmp 92) (.con (.d (.bool false))), none, []⟩,
  ⟨(some 94), .mv (.tmp 93), none, []⟩,
  ⟨(some 95), .mv (.tmp 0), some (94, true), []⟩,
  ⟨(some 96), .mv (.tmp 5), some (94, true), []⟩,
  ⟨(some 97), .mv (.tmp 6), some (94, true), []⟩,
  ⟨(some 98), .call (.con (.fn 117 [] [])) [(.tmp 95), (.tmp 96), (.con (.d (.int .i64 3))), (.tmp 97)], some (94, true), []⟩,
  ⟨(some 99), .pick (.tmp 94) (.tmp 98) (.con (.d (.bool false))), none, []⟩,
  ⟨(some 4), .mv (.tmp 99), none, []⟩])
 (.ret))) (.seq (.ops false [⟨(some 101), .bin .eql 0 [] (.tmp 33) (.con (.d (.int .i64 15))), none, []⟩,
  ⟨(some 100), .mv (.tmp 101), none, []⟩])
 (.cond (.tmp 100) (.seq (.ops false [⟨(some 102), .mv (.tmp 0), none, []⟩,
  ⟨(some 103), .nilck (.tmp 102), none, []⟩,
  ⟨(some 104), .fldA 0 (.tmp 103), none, []⟩,
  ⟨(some 105), .fldA 5 (.tmp 104), none, []⟩,
  ⟨(some 106), .load 1 false (.tmp 105), none, []⟩,
  ⟨(some 107), .bin .eql 0 [] (.tmp 106) (.con (.d (.int .i64 3))), none, []⟩,
  ⟨(some 108), .mv (.tmp 107), none, []⟩,
  ⟨(some 109), .mv (.tmp 0), some (108, true), []⟩,
  ⟨(some 110), .mv (.tmp 5), some (108, true), []⟩,
  ⟨(some 111), .buildSl (.int .i64) [(.int .i64 0)] 1 [(0, 1, (.con (.d (.int .i64 2))))], some (108, true), []⟩,
  ⟨(some 112), .call (.con (.fn 82 [] [])) [(.tmp 109), (.tmp 110), (.tmp 111)], some (108, true), []⟩,
  ⟨(some 113), .pick (.tmp 108) (.tmp 112) (.con (.d (.bool false))), none, []⟩,
  ⟨(some 114), .mv (.tmp 113), none, []⟩,
  ⟨(some 115), .mv (.tmp 0), some (114, true), []⟩,
  ⟨(some 116), .mv (.tmp 5), some (114, true), []⟩,
  ⟨(some 117), .mv (.tmp 6), some (114, true), []⟩,
  ⟨(some 118), .call (.con (.fn 117 [] [])) [(.tmp 115), (.tmp 116), (.con (.d (.int .i64 4))), (.tmp 117)], some (114, true), []⟩,
  ⟨(some 119), .pick (.tmp 114) (.tmp 118) (.con (.d (.bool false))), none, []⟩,
  ⟨(some 4), .mv (.tmp 119), none, []⟩])
 (.ret)) (.skip)))))))))))
 (.seq (.ops false [⟨(some 4), .mv (.con (.d (.bool false))), none, []⟩])
 (.ret))))))⟩
/-- (*entente/saga.holder).local -/
def c96 : AFn := ⟨108, [.tmp 4], .seq (.ops false [⟨(some 3), .box (.tmp 1), none, []⟩,
  ⟨(some 4), .mv (.con (.d (.bool false))), none, []⟩])
 (.seq (.ops false [⟨(some 9), .fldA 4 (.tmp 3), none, []⟩,
  ⟨(some 10), .load 1 false (.tmp 9), none, []⟩,
  ⟨(some 5), .mv (.tmp 10), none, []⟩])
 (.seq (.seq (.ops false [⟨(some 11), .mv (.tmp 0), none, []⟩,
  ⟨(some 12), .mv (.tmp 5), none, []⟩,
  ⟨(some 13), .call (.con (.fn 118 [] [])) [(.tmp 11), (.tmp 12)], none, []⟩,
  ⟨(some 14), .un .not (.tmp 13), none, []⟩])
 (.cond (.tmp 14) (.seq (.ops false [⟨(some 4), .mv (.con (.d (.bool false))), none, []⟩])
 (.ret)) (.skip)))
 (.seq (.ops false [⟨(some 15), .mv (.tmp 0), none, []⟩,
  ⟨(some 16), .nilck (.tmp 15), none, []⟩,
  ⟨(some 17), .fldA 0 (.tmp 16), none, []⟩,
  ⟨(some 18), .fldA 7 (.tmp 17), none, []⟩,
  ⟨(some 19), .load 1 false (.tmp 18), none, []⟩,
  ⟨(some 20), .mv (.tmp 5), none, []⟩,
  ⟨(some 21), .ixS (.agg [(.int .i64), (.int .i64)]) (.tmp 19) (.tmp 20), none, []⟩,
  ⟨(some 22), .fldA 1 (.tmp 21), none, []⟩,
  ⟨(some 23), .load 1 false (.tmp 22), none, []⟩,
  ⟨(some 6), .mv (.tmp 23), none, []⟩])
 (.seq (.ops true [⟨(some 24), .mv (.tmp 0), none, []⟩,
  ⟨(some 25), .nilck (.tmp 24), none, [0]⟩,
  ⟨(some 26), .fldA 0 (.tmp 25), none, [1]⟩,
  ⟨(some 27), .fldA 5 (.tmp 26), none, [2]⟩,
  ⟨(some 28), .load 1 false (.tmp 27), none, [3]⟩,
  ⟨(some 29), .bin .eql 0 [] (.tmp 28) (.con (.d (.int .i64 1))), none, [4]⟩,
  ⟨(some 30), .mv (.tmp 0), none, []⟩,
  ⟨(some 31), .nilck (.tmp 30), none, [6]⟩,
  ⟨(some 32), .fldA 0 (.tmp 31), none, [7]⟩,
  ⟨(some 33), .fldA 5 (.tmp 32), none, [8]⟩,
  ⟨(some 34), .load 1 false (.tmp 33), none, [9]⟩,
  ⟨(some 35), .bin .eql 0 [] (.tmp 34) (.con (.d (.int .i64 4))), none, [10]⟩,
  ⟨(some 7), .mv (.tmp 29), none, [0, 1, 2, 3, 4, 5]⟩,
  ⟨(some 8), .mv (.tmp 35), none, [0, 1, 2, 3, 4, 5, 6, 7, 8, 9, 10, 11, 12]⟩])
 (.seq (.seq (.ops false [⟨(some 36), .fldA 0 (.tmp 3), none, []⟩,
  ⟨(some 37), .load 1 false (.tmp 36), none, []⟩])
 (.block 0 (.seq (.ops false [⟨(some 39), .bin .eql 0 [] (.tmp 37) (.con (.d (.int .i64 3))), none, []⟩,
  ⟨(some 38), .mv (.tmp 39), none, []⟩])
 (.cond (.tmp 38) (.seq (.ops false [⟨(some 40), .mv (.tmp 7), none, []⟩,
  ⟨(some 41), .mv (.tmp 40), none, []⟩,
  ⟨(some 42), .mv (.tmp 6), some (41, true), []⟩,
  ⟨(some 43), .mv (.tmp 0), some (41, true), []⟩,
  ⟨(some 44), .nilck (.tmp 43), some (41, true), []⟩,
  ⟨(some 45), .fldA 0 (.tmp 44), some (41, true), []⟩,
  ⟨(some 46), .fldA 3 (.tmp 45), some (41, true), []⟩,
  ⟨(some 47), .fldA 1 (.tmp 46), some (41, true), []⟩,
  ⟨(some 48), .load 1 false (.tmp 47), some (41, true), []⟩,
  ⟨(some 49), .mv (.tmp 5), some (41, true), []⟩,
  ⟨(some 50), .ixS (.agg [(.int .i64), .str, (.int .i64), (.int .i64), .str, (.int .i64), (.int .i64)]) (.tmp 48) (.tmp 49), some (41, true), []⟩,
  ⟨(some 51), .fldA 5 (.tmp 50), some (41, true), []⟩,
  ⟨(some 52), .load 1 false (.tmp 51), some (41, true), []⟩,
  ⟨(some 53), .bin .lss 0 [] (.tmp 42) (.tmp 52), some (41, true), []⟩,
  ⟨(some 54), .pick (.tmp 41) (.tmp 53) (.con (.d (.bool false))), none, []⟩,
  ⟨(some 55), .mv (.tmp 54), none, []⟩,
  ⟨(some 56), .mv (.tmp 8), some (55, false), []⟩,
  ⟨(some 57), .mv (.tmp 56), some (55, false), []⟩,
  ⟨(some 58), .mv (.tmp 6), some (57, true), []⟩,
  ⟨(some 59), .bin .lss 0 [] (.tmp 58) (.con (.d (.int .i64 5))), some (57, true), []⟩,
  ⟨(some 60), .pick (.tmp 57) (.tmp 59) (.con (.d (.bool false))), some (55, false), []⟩,
  ⟨(some 61), .pick (.tmp 55) (.con (.d (.bool true))) (.tmp 60), none, []⟩])
 (.cond (.tmp 61) (.seq (.ops false [⟨(some 62), .mv (.tmp 0), none, []⟩,
  ⟨(some 63), .mv (.tmp 5), none, []⟩,
  ⟨(some 64), .mv (.tmp 0), none, []⟩,
  ⟨(some 65), .nilck (.tmp 64), none, []⟩,
  ⟨(some 66), .fldA 0 (.tmp 65), none, []⟩,
  ⟨(some 67), .fldA 7 (.tmp 66), none, []⟩,
  ⟨(some 68), .load 1 false (.tmp 67), none, []⟩,
  ⟨(some 69), .mv (.tmp 5), none, []⟩,
  ⟨(some 70), .ixS (.agg [(.int .i64), (.int .i64)]) (.tmp 68) (.tmp 69), none, []⟩,
  ⟨(some 71), .fldA 0 (.tmp 70), none, []⟩,
  ⟨(some 72), .load 1 false (.tmp 71), none, []⟩,
  ⟨(some 73), .mv (.tmp 6), none, []⟩,
  ⟨(some 74), .bin .add 0 [] (.tmp 73) (.con (.d (.int .i64 1))), none, []⟩,
  ⟨(some 75), .call (.con (.fn 117 [] [])) [(.tmp 62), (.tmp 63), (.tmp 72), (.tmp 74)], none, []⟩,
  ⟨(some 4), .mv (.tmp 75), none, []⟩])
 (.ret)) (.skip))) (.seq (.ops false [⟨(some 77), .bin .eql 0 [] (.tmp 37) (.con (.d (.int .i64 4))), none, []⟩,
  ⟨(some 76), .mv (.tmp 77), none, []⟩])
 (.cond (.tmp 76) (.seq (.ops false [⟨(some 78), .mv (.tmp 7), none, []⟩,
  ⟨(some 79), .mv (.tmp 78), none, []⟩,
  ⟨(some 80), .mv (.tmp 0), some (79, true), []⟩,
  ⟨(some 81), .mv (.tmp 5), some (79, true), []⟩,
  ⟨(some 82), .call (.con (.fn 117 [] [])) [(.tmp 80), (.tmp 81), (.con (.d (.int .i64 2))), (.con (.d (.int .i64 0)))], some (79, true), []⟩,
  ⟨(some 83), .pick (.tmp 79) (.tmp 82) (.con (.d (.bool false))), none, []⟩,
  ⟨(some 4), .mv (.tmp 83), none, []⟩])
 (.ret)) (.seq (.ops false [⟨(some 85), .bin .eql 0 [] (.tmp 37) (.con (.d (.int .i64 11))), none, []⟩,
  ⟨(some 84), .mv (.tmp 85), none, []⟩])
 (.cond (.tmp 84) (.seq (.ops false [⟨(some 86), .mv (.tmp 8), none, []⟩,
  ⟨(some 87), .mv (.tmp 86), none, []⟩,
  ⟨(some 88), .mv (.tmp 0), some (87, true), []⟩,
  ⟨(some 89), .mv (.tmp 5), some (87, true), []⟩,
  ⟨(some 90), .call (.con (.fn 117 [] [])) [(.tmp 88), (.tmp 89), (.con (.d (.int .i64 3))), (.con (.d (.int .i64 0)))], some (87, true), []⟩,
  ⟨(some 91), .pick (.tmp 87) (.tmp 90) (.con (.d (.bool false))), none, []⟩,
  ⟨(some 4), .mv (.tmp 91), none, []⟩])
 (.ret)) (.seq (.ops false [⟨(some 93), .bin .eql 0 [] (.tmp 37) (.con (.d (.int .i64 12))), none, []⟩,
  ⟨(some 92), .mv (.tmp 93), none, []⟩])
 (.cond (.tmp 92) (.seq (.ops false [⟨(some 94), .mv (.tmp 8), none, []⟩,
  ⟨(some 95), .mv (.tmp 94), none, []⟩,
  ⟨(some 96), .mv (.tmp 6), some (95, true), []⟩,
  ⟨(some 97), .bin .eql 0 [] (.tmp 96) (.con (.d (.int .i64 5))), some (95, true), []⟩,
  ⟨(some 98), .pick (.tmp 95) (.tmp 97) (.con (.d (.bool false))), none, []⟩,
  ⟨(some 99), .mv (.tmp 98), none, []⟩,
  ⟨(some 100), .mv (.tmp 0), some (99, true), []⟩,
  ⟨(some 101), .mv (.tmp 0), some (99, true), []⟩,
  ⟨(some 102), .nilck (.tmp 101), some (99, true), []⟩,
  ⟨(some 103), .fldA 0 (.tmp 102), some (99, true), []⟩,
  ⟨(some 104), .fldA 6 (.tmp 103), some (99, true), []⟩,
  ⟨(some 105), .load 1 false (.tmp 104), some (99, true), []⟩,
  ⟨(some 106), .call (.con (.fn 113 [] [])) [(.tmp 100), (.con (.d (.int .i64 5))), (.tmp 105)], some (99, true), []⟩,
  ⟨(some 107), .pick (.tmp 99) (.tmp 106) (.con (.d (.bool false))), none, []⟩,
  ⟨(some 4), .mv (.tmp 107), none, []⟩])
 (.ret)) (.skip)))))))))))
 (.seq (.ops false [⟨(some 4), .mv (.con (.d (.bool false))), none, []⟩])
 (.ret)))))))⟩
/-- (*entente/saga.holder).some$1 -/
def c97 : AFn := ⟨10, [.tmp 4], .seq (.ops false [⟨(some 4), .mv (.con (.d (.bool false))), none, []⟩])
 (.seq (.ops false [⟨(some 5), .load 1 false (.tmp 1), none, []⟩,
  ⟨(some 6), .mv (.tmp 0), none, []⟩,
  ⟨(some 7), .load 1 false (.tmp 2), none, []⟩,
  ⟨(some 8), .call (.con (.fn 82 [] [])) [(.tmp 5), (.tmp 6), (.tmp 7)], none, []⟩,
  ⟨(some 9), .un .not (.tmp 8), none, []⟩,
  ⟨(some 4), .mv (.tmp 9), none, []⟩])
 (.ret))⟩
/-- slices.IndexFunc[[]entente/api.Step,entente/api.Step] -/
def c102 : AFn := ⟨19, [.tmp 4], .seq (.ops false [⟨(some 4), .mv (.con (.d (.int .i64 0))), none, []⟩])
 (.seq (.seq (.ops false [⟨(some 6), .mv (.tmp 0), none, []⟩,
  ⟨(some 7), .len 1 (.tmp 6), none, []⟩,
  ⟨(some 8), .mv (.con (.d (.int .i64 0))), none, []⟩])
 (.block 0 (.loop 0 (some ([0, 1, 7, 8], [0, 1, 2, 3, 4, 5, 6, 7])) (.seq (.ops false [⟨(some 9), .bin .lss 0 [] (.tmp 8) (.tmp 7), none, []⟩])
 (.seq (.cond (.tmp 9) (.skip) (.exit 0))
 (.seq (.block 1 (.seq (.ops false [⟨(some 10), .mv (.tmp 8), none, []⟩,
  ⟨(some 5), .mv (.tmp 10), none, []⟩])
 (.seq (.ops false [⟨(some 11), .mv (.tmp 1), none, []⟩,
  ⟨(some 12), .mv (.tmp 0), none, []⟩,
  ⟨(some 13), .mv (.tmp 5), none, []⟩,
  ⟨(some 14), .ixS (.agg [(.int .i64), .str, (.int .i64), (.int .i64), .str, (.int .i64), (.int .i64)]) (.tmp 12) (.tmp 13), none, []⟩,
  ⟨(some 15), .load 7 true (.tmp 14), none, []⟩,
  ⟨(some 16), .call (.tmp 11) [(.tmp 15)], none, []⟩])
 (.cond (.tmp 16) (.seq (.ops false [⟨(some 17), .mv (.tmp 5), none, []⟩,
  ⟨(some 4), .mv (.tmp 17), none, []⟩])
 (.ret)) (.skip)))))
 (.ops false [⟨(some 18), .bin .add 0 [] (.tmp 8) (.con (.d (.int .i64 1))), none, []⟩,
  ⟨(some 8), .mv (.tmp 18), none, []⟩])))))))
 (.seq (.ops false [⟨(some 4), .mv (.con (.d (.int .i64 (-1)))), none, []⟩])
 (.ret)))⟩
/-- entente/act.Check -/
def c103 : AFn := ⟨28, [.tmp 2], .seq (.ops false [⟨(some 1), .box (.tmp 0), none, []⟩,
  ⟨(some 2), .mv (.con (.d (.int .i64 0))), none, []⟩])
 (.seq (.seq (.ops false [⟨(some 3), .fldA 0 (.tmp 1), none, []⟩,
  ⟨(some 4), .load 1 false (.tmp 3), none, []⟩,
  ⟨(some 5), .bin .lss 0 [] (.tmp 4) (.con (.d (.int .i64 1))), none, []⟩,
  ⟨(some 6), .mv (.tmp 5), none, []⟩,
  ⟨(some 7), .fldA 0 (.tmp 1), some (6, false), []⟩,
  ⟨(some 8), .load 1 false (.tmp 7), some (6, false), []⟩,
  ⟨(some 9), .bin .gtr 0 [] (.tmp 8) (.con (.d (.int .i64 4))), some (6, false), []⟩,
  ⟨(some 10), .pick (.tmp 6) (.con (.d (.bool true))) (.tmp 9), none, []⟩,
  ⟨(some 11), .mv (.tmp 10), none, []⟩,
  ⟨(some 12), .fldA 1 (.tmp 1), some (11, false), []⟩,
  ⟨(some 13), .load 1 false (.tmp 12), some (11, false), []⟩,
  ⟨(some 14), .call (.con (.fn 63 [] [])) [(.tmp 13)], some (11, false), []⟩,
  ⟨(some 15), .un .not (.tmp 14), some (11, false), []⟩,
  ⟨(some 16), .pick (.tmp 11) (.con (.d (.bool true))) (.tmp 15), none, []⟩,
  ⟨(some 17), .mv (.tmp 16), none, []⟩,
  ⟨(some 18), .fldA 2 (.tmp 1), some (17, false), []⟩,
  ⟨(some 19), .load 1 false (.tmp 18), some (17, false), []⟩,
  ⟨(some 20), .bin .lss 0 [] (.tmp 19) (.con (.d (.int .i64 1))), some (17, false), []⟩,
  ⟨(some 21), .pick (.tmp 17) (.con (.d (.bool true))) (.tmp 20), none, []⟩,
  ⟨(some 22), .mv (.tmp 21), none, []⟩,
  ⟨(some 23), .fldA 2 (.tmp 1), some (22, false), []⟩,
  ⟨(some 24), .load 1 false (.tmp 23), some (22, false), []⟩,
  ⟨(some 25), .call (.con (.fn 131 [] [])) [(.tmp 24)], some (22, false), []⟩,
  ⟨(some 26), .un .not (.tmp 25), some (22, false), []⟩,
  ⟨(some 27), .pick (.tmp 22) (.con (.d (.bool true))) (.tmp 26), none, []⟩])
 (.cond (.tmp 27) (.seq (.ops false [⟨(some 2), .mv (.con (.d (.int .i64 60))), none, []⟩])
 (.ret)) (.skip)))
 (.seq (.ops false [⟨(some 2), .mv (.con (.d (.int .i64 0))), none, []⟩])
 (.ret)))⟩
/-- internal/strconv.Itoa -/
def c107 : AFn := ⟨5, [.tmp 2], .seq (.ops false [⟨(some 2), .mv (.con (.d (.str []))), none, []⟩])
 (.seq (.ops false [⟨(some 3), .mv (.tmp 0), none, []⟩,
  ⟨(some 4), .call (.con (.fn 133 [] [])) [(.tmp 3), (.con (.d (.int .i64 10)))], none, []⟩,
  ⟨(some 2), .mv (.tmp 4), none, []⟩])
 (.ret))⟩
/-- slices.IndexFunc[[]entente/api.Hop,entente/api.Hop] -/
def c108 : AFn := ⟨19, [.tmp 4], .seq (.ops false [⟨(some 4), .mv (.con (.d (.int .i64 0))), none, []⟩])
 (.seq (.seq (.ops false [⟨(some 6), .mv (.tmp 0), none, []⟩,
  ⟨(some 7), .len 1 (.tmp 6), none, []⟩,
  ⟨(some 8), .mv (.con (.d (.int .i64 0))), none, []⟩])
 (.block 0 (.loop 0 (some ([0, 1, 7, 8], [0, 1, 2, 3, 4, 5, 6, 7])) (.seq (.ops false [⟨(some 9), .bin .lss 0 [] (.tmp 8) (.tmp 7), none, []⟩])
 (.seq (.cond (.tmp 9) (.skip) (.exit 0))
 (.seq (.block 1 (.seq (.ops false [⟨(some 10), .mv (.tmp 8), none, []⟩,
  ⟨(some 5), .mv (.tmp 10), none, []⟩])
 (.seq (.ops false [⟨(some 11), .mv (.tmp 1), none, []⟩,
  ⟨(some 12), .mv (.tmp 0), none, []⟩,
  ⟨(some 13), .mv (.tmp 5), none, []⟩,
  ⟨(some 14), .ixS (.agg [(.int .i64), (.int .i64)]) (.tmp 12) (.tmp 13), none, []⟩,
  ⟨(some 15), .load 2 true (.tmp 14), none, []⟩,
  ⟨(some 16), .call (.tmp 11) [(.tmp 15)], none, []⟩])
 (.cond (.tmp 16) (.seq (.ops false [⟨(some 17), .mv (.tmp 5), none, []⟩,
  ⟨(some 4), .mv (.tmp 17), none, []⟩])
 (.ret)) (.skip)))))
 (.ops false [⟨(some 18), .bin .add 0 [] (.tmp 8) (.con (.d (.int .i64 1))), none, []⟩,
  ⟨(some 8), .mv (.tmp 18), none, []⟩])))))))
 (.seq (.ops false [⟨(some 4), .mv (.con (.d (.int .i64 (-1)))), none, []⟩])
 (.ret)))⟩
/-- (*entente/saga.holder).tail -/
def c109 : AFn := ⟨52, [.tmp 4], .seq (.ops false [⟨(some 4), .mv (.con (.d (.bool false))), none, []⟩])
 (.seq (.seq (.ops false [⟨(some 7), .mv (.tmp 1), none, []⟩,
  ⟨(some 5), .mv (.tmp 7), none, []⟩])
 (.block 0 (.loop 0 (some ([0, 1, 5], [0, 1, 2, 3, 4, 5, 6, 7])) (.seq (.seq (.ops false [⟨(some 8), .mv (.tmp 5), none, []⟩,
  ⟨(some 9), .mv (.tmp 0), none, []⟩,
  ⟨(some 10), .nilck (.tmp 9), none, []⟩,
  ⟨(some 11), .fldA 0 (.tmp 10), none, []⟩,
  ⟨(some 12), .fldA 7 (.tmp 11), none, []⟩,
  ⟨(some 13), .load 1 false (.tmp 12), none, []⟩,
  ⟨(some 14), .len 1 (.tmp 13), none, []⟩,
  ⟨(some 15), .bin .lss 0 [] (.tmp 8) (.tmp 14), none, []⟩])
 (.cond (.tmp 15) (.skip) (.exit 0)))
 (.seq (.block 1 (.seq (.ops false [⟨(some 18), .mv (.tmp 5), none, []⟩,
  ⟨(some 19), .mv (.tmp 1), none, []⟩,
  ⟨(some 20), .bin .eql 0 [] (.tmp 18) (.tmp 19), none, []⟩,
  ⟨(some 21), .mv (.tmp 20), none, []⟩,
  ⟨(some 22), .mv (.tmp 0), some (21, true), []⟩,
  ⟨(some 23), .mv (.tmp 5), some (21, true), []⟩,
  ⟨(some 24), .buildSl (.int .i64) [(.int .i64 0)] 1 [(0, 1, (.con (.d (.int .i64 0))))], some (21, true), []⟩,
  ⟨(some 25), .call (.con (.fn 82 [] [])) [(.tmp 22), (.tmp 23), (.tmp 24)], some (21, true), []⟩,
  ⟨(some 26), .mv (.tmp 25), some (21, true), []⟩,
  ⟨(some 27), .mv (.tmp 0), some (26, false), []⟩,
  ⟨(some 28), .mv (.tmp 5), some (26, false), []⟩,
  ⟨(some 29), .call (.con (.fn 48 [] [])) [(.tmp 27), (.tmp 28)], some (26, false), []⟩,
  ⟨(some 30), .mv (.tmp 29), some (26, false), []⟩,
  ⟨(some 31), .mv (.tmp 0), some (30, true), []⟩,
  ⟨(some 32), .mv (.tmp 5), some (30, true), []⟩,
  ⟨(some 33), .buildSl (.int .i64) [(.int .i64 0)] 1 [(0, 1, (.con (.d (.int .i64 1))))], some (30, true), []⟩,
  ⟨(some 34), .call (.con (.fn 82 [] [])) [(.tmp 31), (.tmp 32), (.tmp 33)], some (30, true), []⟩,
  ⟨(some 35), .pick (.tmp 30) (.tmp 34) (.con (.d (.bool false))), some (26, false), []⟩,
  ⟨(some 36), .pick (.tmp 26) (.con (.d (.bool true))) (.tmp 35), some (21, true), []⟩,
  ⟨(some 37), .pick (.tmp 21) (.tmp 36) (.con (.d (.bool false))), none, []⟩,
  ⟨(some 6), .mv (.tmp 37), none, []⟩])
 (.seq (.ops false [⟨(some 38), .mv (.tmp 6), none, []⟩,
  ⟨(some 39), .un .not (.tmp 38), none, []⟩,
  ⟨(some 40), .mv (.tmp 39), none, []⟩,
  ⟨(some 41), .mv (.tmp 0), some (40, true), []⟩,
  ⟨(some 42), .nilck (.tmp 41), some (40, true), []⟩,
  ⟨(some 43), .fldA 0 (.tmp 42), some (40, true), []⟩,
  ⟨(some 44), .fldA 7 (.tmp 43), some (40, true), []⟩,
  ⟨(some 45), .load 1 false (.tmp 44), some (40, true), []⟩,
  ⟨(some 46), .mv (.tmp 5), some (40, true), []⟩,
  ⟨(some 47), .ixS (.agg [(.int .i64), (.int .i64)]) (.tmp 45) (.tmp 46), some (40, true), []⟩,
  ⟨(some 48), .load 2 true (.tmp 47), some (40, true), []⟩,
  ⟨(some 49), .build [(.int .i64 0), (.int .i64 0)] [], some (40, true), []⟩,
  ⟨(some 50), .bin .neq 6 [(.int .i64), (.int .i64)] (.tmp 48) (.tmp 49), some (40, true), []⟩,
  ⟨(some 51), .pick (.tmp 40) (.tmp 50) (.con (.d (.bool false))), none, []⟩])
 (.cond (.tmp 51) (.seq (.ops false [⟨(some 4), .mv (.con (.d (.bool false))), none, []⟩])
 (.ret)) (.skip)))))
 (.ops false [⟨(some 16), .mv (.tmp 5), none, []⟩,
  ⟨(some 17), .bin .add 0 [] (.tmp 16) (.con (.d (.int .i64 1))), none, []⟩,
  ⟨(some 5), .mv (.tmp 17), none, []⟩]))))))
 (.seq (.ops false [⟨(some 4), .mv (.con (.d (.bool true))), none, []⟩])
 (.ret)))⟩
/-- slices.Contains[[]int,int] -/
def c110 : AFn := ⟨9, [.tmp 4], .seq (.ops false [⟨(some 4), .mv (.con (.d (.bool false))), none, []⟩])
 (.seq (.ops false [⟨(some 5), .mv (.tmp 0), none, []⟩,
  ⟨(some 6), .mv (.tmp 1), none, []⟩,
  ⟨(some 7), .call (.con (.fn 134 [] [])) [(.tmp 5), (.tmp 6)], none, []⟩,
  ⟨(some 8), .bin .geq 0 [] (.tmp 7) (.con (.d (.int .i64 0))), none, []⟩,
  ⟨(some 4), .mv (.tmp 8), none, []⟩])
 (.ret))⟩
/-- cmp.isNaN[int] -/
def c111 : AFn := ⟨6, [.tmp 2], .seq (.ops false [⟨(some 2), .mv (.con (.d (.bool false))), none, []⟩])
 (.seq (.ops false [⟨(some 3), .mv (.tmp 0), none, []⟩,
  ⟨(some 4), .mv (.tmp 0), none, []⟩,
  ⟨(some 5), .bin .neq 0 [] (.tmp 3) (.tmp 4), none, []⟩,
  ⟨(some 2), .mv (.tmp 5), none, []⟩])
 (.ret))⟩
/-- (*entente/saga.holder).done -/
def c112 : AFn := ⟨6, [.tmp 2], .seq (.ops false [⟨(some 1), .box (.tmp 0), none, []⟩,
  ⟨(some 2), .mv (.con (.d (.bool false))), none, []⟩])
 (.seq (.ops false [⟨(some 3), .load 1 false (.tmp 1), none, []⟩,
  ⟨(some 4), .mkF 135 [] [(.tmp 1)], none, []⟩,
  ⟨(some 5), .call (.con (.fn 46 [] [])) [(.tmp 3), (.tmp 4)], none, []⟩,
  ⟨(some 2), .mv (.tmp 5), none, []⟩])
 (.ret))⟩
/-- (*entente/saga.holder).to -/
def c113 : AFn := ⟨17, [.tmp 6], .seq (.ops false [⟨(some 6), .mv (.con (.d (.bool false))), none, []⟩])
 (.seq (.ops false [⟨(some 7), .mv (.tmp 0), none, []⟩,
  ⟨(some 8), .mv (.tmp 0), none, []⟩,
  ⟨(some 9), .mv (.tmp 1), none, []⟩,
  ⟨(some 10), .mv (.tmp 2), none, []⟩,
  ⟨(some 11), .nilck (.tmp 7), none, []⟩,
  ⟨(some 12), .fldA 0 (.tmp 11), none, []⟩,
  ⟨(some 13), .fldA 5 (.tmp 12), none, []⟩,
  ⟨none, .store 1 (.tmp 13) (.tmp 9), none, []⟩,
  ⟨(some 14), .nilck (.tmp 8), none, []⟩,
  ⟨(some 15), .fldA 0 (.tmp 14), none, []⟩,
  ⟨(some 16), .fldA 6 (.tmp 15), none, []⟩,
  ⟨none, .store 1 (.tmp 16) (.tmp 10), none, []⟩])
 (.seq (.ops false [⟨(some 6), .mv (.con (.d (.bool true))), none, []⟩])
 (.ret)))⟩
/-- (*entente/saga.holder).own -/
def c114 : AFn := ⟨29, [], .seq (.ops false [⟨(some 5), .mv (.tmp 0), none, []⟩,
  ⟨(some 6), .nilck (.tmp 5), none, []⟩,
  ⟨(some 7), .fldA 0 (.tmp 6), none, []⟩,
  ⟨(some 8), .fldA 7 (.tmp 7), none, []⟩,
  ⟨(some 9), .load 1 false (.tmp 8), none, []⟩,
  ⟨(some 10), .len 1 (.tmp 9), none, []⟩,
  ⟨(some 11), .mv (.con (.d (.int .i64 0))), none, []⟩])
 (.block 0 (.loop 0 (some ([0, 1, 10, 11], [0, 1, 2, 3, 4, 5, 6, 7])) (.seq (.ops false [⟨(some 12), .bin .lss 0 [] (.tmp 11) (.tmp 10), none, []⟩])
 (.seq (.cond (.tmp 12) (.skip) (.exit 0))
 (.seq (.block 1 (.seq (.ops false [⟨(some 13), .mv (.tmp 11), none, []⟩,
  ⟨(some 4), .mv (.tmp 13), none, []⟩])
 (.seq (.ops false [⟨(some 14), .mv (.tmp 0), none, []⟩,
  ⟨(some 15), .mv (.tmp 4), none, []⟩,
  ⟨(some 16), .call (.con (.fn 48 [] [])) [(.tmp 14), (.tmp 15)], none, []⟩,
  ⟨(some 17), .un .not (.tmp 16), none, []⟩,
  ⟨(some 18), .mv (.tmp 17), none, []⟩,
  ⟨(some 19), .mv (.tmp 0), some (18, true), []⟩,
  ⟨(some 20), .mv (.tmp 4), some (18, true), []⟩,
  ⟨(some 21), .buildSl (.int .i64) [(.int .i64 0)] 1 [(0, 1, (.con (.d (.int .i64 2))))], some (18, true), []⟩,
  ⟨(some 22), .call (.con (.fn 82 [] [])) [(.tmp 19), (.tmp 20), (.tmp 21)], some (18, true), []⟩,
  ⟨(some 23), .pick (.tmp 18) (.tmp 22) (.con (.d (.bool false))), none, []⟩])
 (.cond (.tmp 23) (.ops false [⟨(some 24), .mv (.tmp 0), none, []⟩,
  ⟨(some 25), .mv (.tmp 4), none, []⟩,
  ⟨(some 26), .mv (.tmp 1), none, []⟩,
  ⟨(some 27), .call (.con (.fn 117 [] [])) [(.tmp 24), (.tmp 25), (.tmp 26), (.con (.d (.int .i64 0)))], none, []⟩]) (.skip)))))
 (.ops false [⟨(some 28), .bin .add 0 [] (.tmp 11) (.con (.d (.int .i64 1))), none, []⟩,
  ⟨(some 11), .mv (.tmp 28), none, []⟩]))))))⟩
/-- (*entente/saga.holder).calm -/
def c115 : AFn := ⟨21, [], .seq (.ops false [⟨(some 3), .mv (.tmp 0), none, []⟩,
  ⟨(some 4), .nilck (.tmp 3), none, []⟩,
  ⟨(some 5), .fldA 0 (.tmp 4), none, []⟩,
  ⟨(some 6), .fldA 7 (.tmp 5), none, []⟩,
  ⟨(some 7), .load 1 false (.tmp 6), none, []⟩,
  ⟨(some 8), .len 1 (.tmp 7), none, []⟩,
  ⟨(some 9), .mv (.con (.d (.int .i64 0))), none, []⟩])
 (.block 0 (.loop 0 (some ([0, 8, 9], [0, 1, 2, 3, 4, 5, 6, 7])) (.seq (.ops false [⟨(some 10), .bin .lss 0 [] (.tmp 9) (.tmp 8), none, []⟩])
 (.seq (.cond (.tmp 10) (.skip) (.exit 0))
 (.seq (.block 1 (.seq (.ops false [⟨(some 11), .mv (.tmp 9), none, []⟩,
  ⟨(some 2), .mv (.tmp 11), none, []⟩])
 (.ops false [⟨(some 12), .mv (.tmp 0), none, []⟩,
  ⟨(some 13), .nilck (.tmp 12), none, []⟩,
  ⟨(some 14), .fldA 0 (.tmp 13), none, []⟩,
  ⟨(some 15), .fldA 7 (.tmp 14), none, []⟩,
  ⟨(some 16), .load 1 false (.tmp 15), none, []⟩,
  ⟨(some 17), .mv (.tmp 2), none, []⟩,
  ⟨(some 18), .ixS (.agg [(.int .i64), (.int .i64)]) (.tmp 16) (.tmp 17), none, []⟩,
  ⟨(some 19), .fldA 1 (.tmp 18), none, []⟩,
  ⟨none, .store 1 (.tmp 19) (.con (.d (.int .i64 0))), none, []⟩])))
 (.ops false [⟨(some 20), .bin .add 0 [] (.tmp 9) (.con (.d (.int .i64 1))), none, []⟩,
  ⟨(some 9), .mv (.tmp 20), none, []⟩]))))))⟩
/-- (*entente/saga.holder).force -/
def c116 : AFn := ⟨45, [.tmp 4], .seq (.ops false [⟨(some 4), .mv (.con (.d (.bool false))), none, []⟩])
 (.seq (.seq (.ops false [⟨(some 5), .mv (.tmp 0), none, []⟩,
  ⟨(some 6), .nilck (.tmp 5), none, []⟩,
  ⟨(some 7), .fldA 0 (.tmp 6), none, []⟩,
  ⟨(some 8), .fldA 5 (.tmp 7), none, []⟩,
  ⟨(some 9), .load 1 false (.tmp 8), none, []⟩,
  ⟨(some 10), .bin .eql 0 [] (.tmp 9) (.con (.d (.int .i64 3))), none, []⟩,
  ⟨(some 11), .mv (.tmp 10), none, []⟩,
  ⟨(some 12), .mv (.tmp 0), some (11, false), []⟩,
  ⟨(some 13), .nilck (.tmp 12), some (11, false), []⟩,
  ⟨(some 14), .fldA 0 (.tmp 13), some (11, false), []⟩,
  ⟨(some 15), .fldA 5 (.tmp 14), some (11, false), []⟩,
  ⟨(some 16), .load 1 false (.tmp 15), some (11, false), []⟩,
  ⟨(some 17), .bin .eql 0 [] (.tmp 16) (.con (.d (.int .i64 6))), some (11, false), []⟩,
  ⟨(some 18), .pick (.tmp 11) (.con (.d (.bool true))) (.tmp 17), none, []⟩])
 (.cond (.tmp 18) (.seq (.ops false [⟨(some 4), .mv (.con (.d (.bool false))), none, []⟩])
 (.ret)) (.skip)))
 (.seq (.ops false [⟨(some 19), .mv (.tmp 0), none, []⟩,
  ⟨(some 20), .nilck (.tmp 19), none, []⟩,
  ⟨(some 21), .fldA 0 (.tmp 20), none, []⟩,
  ⟨(some 22), .fldA 8 (.tmp 21), none, []⟩,
  ⟨none, .store 1 (.tmp 22) (.con (.d (.bool true))), none, []⟩])
 (.seq (.ops false [⟨(some 23), .mv (.tmp 0), none, []⟩,
  ⟨(some 24), .call (.con (.fn 115 [] [])) [(.tmp 23)], none, []⟩])
 (.seq (.seq (.ops false [⟨(some 25), .mv (.tmp 1), none, []⟩,
  ⟨(some 26), .bin .eql 0 [] (.tmp 25) (.con (.d (.int .i64 1))), none, []⟩])
 (.cond (.tmp 26) (.seq (.ops false [⟨(some 27), .mv (.tmp 0), none, []⟩,
  ⟨(some 28), .call (.con (.fn 114 [] [])) [(.tmp 27), (.con (.d (.int .i64 4)))], none, []⟩])
 (.seq (.ops false [⟨(some 29), .mv (.tmp 0), none, []⟩,
  ⟨(some 30), .mv (.tmp 0), none, []⟩,
  ⟨(some 31), .nilck (.tmp 30), none, []⟩,
  ⟨(some 32), .fldA 0 (.tmp 31), none, []⟩,
  ⟨(some 33), .fldA 6 (.tmp 32), none, []⟩,
  ⟨(some 34), .load 1 false (.tmp 33), none, []⟩,
  ⟨(some 35), .call (.con (.fn 113 [] [])) [(.tmp 29), (.con (.d (.int .i64 3))), (.tmp 34)], none, []⟩,
  ⟨(some 4), .mv (.tmp 35), none, []⟩])
 (.ret))) (.skip)))
 (.seq (.ops false [⟨(some 36), .mv (.tmp 0), none, []⟩,
  ⟨(some 37), .call (.con (.fn 114 [] [])) [(.tmp 36), (.con (.d (.int .i64 3)))], none, []⟩])
 (.seq (.ops false [⟨(some 38), .mv (.tmp 0), none, []⟩,
  ⟨(some 39), .mv (.tmp 0), none, []⟩,
  ⟨(some 40), .nilck (.tmp 39), none, []⟩,
  ⟨(some 41), .fldA 0 (.tmp 40), none, []⟩,
  ⟨(some 42), .fldA 6 (.tmp 41), none, []⟩,
  ⟨(some 43), .load 1 false (.tmp 42), none, []⟩,
  ⟨(some 44), .call (.con (.fn 113 [] [])) [(.tmp 38), (.con (.d (.int .i64 6))), (.tmp 43)], none, []⟩,
  ⟨(some 4), .mv (.tmp 44), none, []⟩])
 (.ret)))))))⟩
/-- (*entente/saga.holder).set -/
def c117 : AFn := ⟨19, [.tmp 8], .seq (.ops false [⟨(some 8), .mv (.con (.d (.bool false))), none, []⟩])
 (.seq (.ops false [⟨(some 9), .mv (.tmp 0), none, []⟩,
  ⟨(some 10), .nilck (.tmp 9), none, []⟩,
  ⟨(some 11), .fldA 0 (.tmp 10), none, []⟩,
  ⟨(some 12), .fldA 7 (.tmp 11), none, []⟩,
  ⟨(some 13), .load 1 false (.tmp 12), none, []⟩,
  ⟨(some 14), .mv (.tmp 1), none, []⟩,
  ⟨(some 15), .mv (.tmp 2), none, []⟩,
  ⟨(some 16), .mv (.tmp 3), none, []⟩,
  ⟨(some 17), .build [(.int .i64 0), (.int .i64 0)] [(0, 1, (.tmp 15)), (1, 1, (.tmp 16))], none, []⟩,
  ⟨(some 18), .ixS (.agg [(.int .i64), (.int .i64)]) (.tmp 13) (.tmp 14), none, []⟩,
  ⟨none, .store 2 (.tmp 18) (.tmp 17), none, []⟩])
 (.seq (.ops false [⟨(some 8), .mv (.con (.d (.bool true))), none, []⟩])
 (.ret)))⟩
end Go.Proofs.YtknoielhkilkpaaDoor.A
