/- The light code of the program's functions, part 0. -/
import Derived.Test.YtknoielhkilkpaaDoorGa

namespace Go.Proofs.YtknoielhkilkpaaDoor.A
open Go Go.AM
def tp (n : Nat) : Opd := .tmp n
def ci (n : Int) : Opd := .con (.d (.int .i64 n))
def o1 (d : Nat) (x : AOp) : AOper := ⟨some d, x, none, []⟩
def o2 (d : Nat) (x : AOp) (l : List Nat) : AOper := ⟨some d, x, none, l⟩
def o3 (d : Nat) (x : AOp) (s : Nat) (w : Bool) (l : List Nat) : AOper := ⟨some d, x, some (s, w), l⟩
def hA : Sh := .agg [.int .i64, .int .i64]
def hB : Sh := .agg [.int .i64, .str, .int .i64, .int .i64, .str, .int .i64, .int .i64]
/-- entente/ententelaw22.NextGoes -/
def c6 : AFn := ⟨88, [.tmp 2], .seq (.ops false [o1 1 (.box (tp 0)),
  o1 2 (.mv (.con (.d (.bool false))))])
 (.seq (.seq (.ops false [o1 9 (.load 9 true (tp 1)),
  o1 10 (.call (.con (.fn 19 [] [])) [(tp 9)]),
  o1 11 (.un .not (tp 10))])
 (.cond (tp 11) (.seq (.ops false [o1 12 (.call (.con (.fn 20 [] [])) []),
  o1 2 (.mv (tp 12))])
 (.ret)) (.skip)))
 (.seq (.ops false [o1 14 (.load 9 true (tp 1)),
  o1 15 (.call (.con (.fn 21 [] [])) [(tp 14)]),
  o1 13 (.mv (tp 15)),
  o1 16 (.ext 0 (tp 13)),
  o1 17 (.ext 1 (tp 13)),
  o1 3 (.alloc [(.int .i64 0), (.int .i64 0), (.int .i64 0), (.sl hA true []), (.int .i64 0), (.int .i64 0), (.str []), (.sl hB true [])]),
  ⟨none, .store 8 (tp 3) (tp 16), none, []⟩,
  o1 4 (.mv (tp 17))])
 (.seq (.seq (.ops false [o1 18 (.mv (tp 4)),
  o1 19 (.un .not (tp 18))])
 (.cond (tp 19) (.seq (.ops true [o1 20 (.load 9 true (tp 1)),
  o2 21 (.call (.con (.fn 22 [] [])) [(tp 20)]) [0],
  o2 22 (.bin .neq 0 [] (tp 21) (ci 0)) [1],
  o2 23 (.mv (tp 22)) [1, 2],
  o3 24 (.fldA 5 (tp 1)) 23 false [3],
  o3 25 (.load 1 false (tp 24)) 23 false [3, 4],
  o3 26 (.bin .neq 0 [] (tp 25) (ci 1)) 23 false [3, 5],
  o3 27 (.mv (tp 26)) 23 false [3, 6],
  o3 28 (.fldA 5 (tp 1)) 27 true [7],
  o3 29 (.load 1 false (tp 28)) 27 true [7, 8],
  o3 30 (.bin .neq 0 [] (tp 29) (ci 4)) 27 true [7, 9],
  o3 31 (.pick (tp 27) (tp 30) (.con (.d (.bool false)))) 23 false [3, 7, 10],
  o2 32 (.pick (tp 23) (.con (.d (.bool true))) (tp 31)) [3, 11],
  o2 33 (.mv (tp 32)) [7, 12],
  o3 34 (.fldA 7 (tp 1)) 33 false [13],
  o3 35 (.load 1 false (tp 34)) 33 false [13, 14],
  o3 36 (.load 9 true (tp 1)) 33 false [13],
  o3 37 (.call (.con (.fn 23 [] [])) [(tp 36)]) 33 false [13, 16],
  o3 38 (.ixS hA (tp 35) (tp 37)) 33 false [13, 15, 17],
  o3 39 (.fldA 0 (tp 38)) 33 false [13, 18],
  o3 40 (.load 1 false (tp 39)) 33 false [13, 19],
  o3 41 (.bin .eql 0 [] (tp 40) (ci 1)) 33 false [13, 20],
  o2 42 (.pick (tp 33) (.con (.d (.bool true))) (tp 41)) [13, 21],
  o2 43 (.mv (tp 42)) [17, 22],
  o3 44 (.fldA 7 (tp 1)) 43 false [23],
  o3 45 (.load 1 false (tp 44)) 43 false [23, 24],
  o3 46 (.load 9 true (tp 1)) 43 false [23],
  o3 47 (.call (.con (.fn 23 [] [])) [(tp 46)]) 43 false [23, 26],
  o3 48 (.ixS hA (tp 45) (tp 47)) 43 false [23, 25, 27],
  o3 49 (.fldA 0 (tp 48)) 43 false [23, 28],
  o3 50 (.load 1 false (tp 49)) 43 false [23, 29],
  o3 51 (.bin .eql 0 [] (tp 50) (ci 2)) 43 false [23, 30],
  o2 52 (.pick (tp 43) (.con (.d (.bool true))) (tp 51)) [23, 31],
  o2 53 (.mv (tp 52)) [27, 32],
  o3 54 (.call (.con (.fn 20 [] [])) []) 53 true [33],
  o2 55 (.pick (tp 53) (tp 54) (.con (.d (.bool false)))) [33, 34],
  o2 2 (.mv (tp 55)) [0, 1, 2, 3, 4, 5, 6, 7, 8, 9, 10, 11, 12, 13, 14, 15, 16, 17, 18, 19, 20, 21, 22, 23, 24, 25, 26, 27, 28, 29, 30, 31, 32, 33, 34, 35]])
 (.ret)) (.skip)))
 (.seq (.ops false [o1 57 (.load 9 true (tp 1)),
  o1 58 (.load 8 true (tp 3)),
  o1 59 (.call (.con (.fn 24 [] [])) [(tp 57), (tp 58)]),
  o1 56 (.mv (tp 59)),
  o1 60 (.ext 0 (tp 56)),
  o1 61 (.ext 1 (tp 56)),
  o1 5 (.alloc [(.int .i64 0), (.int .i64 0), (.sl hA true []), (.str []), (.sl hB true []), (.int .i64 0), (.int .i64 0), (.sl hA true []), (.bool false)]),
  ⟨none, .store 9 (tp 5) (tp 60), none, []⟩,
  o1 6 (.mv (tp 61))])
 (.seq (.seq (.ops false [o1 62 (.mv (tp 6)),
  o1 63 (.bin .neq 0 [] (tp 62) (ci 0))])
 (.cond (tp 63) (.seq (.ops false [o1 2 (.mv (.con (.d (.bool false))))])
 (.ret)) (.skip)))
 (.seq (.seq (.ops false [o1 64 (.fldA 0 (tp 3)),
  o1 65 (.load 1 false (tp 64)),
  o1 66 (.bin .neq 0 [] (tp 65) (ci 4)),
  o1 67 (.mv (tp 66)),
  o3 68 (.fldA 0 (tp 3)) 67 true [],
  o3 69 (.load 1 false (tp 68)) 67 true [],
  o3 70 (.bin .neq 0 [] (tp 69) (ci 11)) 67 true [],
  o1 71 (.pick (tp 67) (tp 70) (.con (.d (.bool false))))])
 (.cond (tp 71) (.seq (.ops false [o1 72 (.call (.con (.fn 20 [] [])) []),
  o1 2 (.mv (tp 72))])
 (.ret)) (.skip)))
 (.seq (.ops false [o1 74 (.load 9 true (tp 1)),
  o1 75 (.fldA 0 (tp 1)),
  o1 76 (.load 3 true (tp 75)),
  o1 77 (.fldA 4 (tp 3)),
  o1 78 (.load 1 false (tp 77)),
  o1 79 (.build [(.int .i64 0), (.int .i64 0), (.int .i64 0), (.sl hA true []), (.int .i64 0), (.int .i64 0), (.str []), (.sl hB true [])] [(0, 1, (ci 3)), (1, 3, (tp 76)), (4, 1, (tp 78))]),
  o1 80 (.call (.con (.fn 24 [] [])) [(tp 74), (tp 79)]),
  o1 73 (.mv (tp 80)),
  o1 81 (.ext 0 (tp 73)),
  o1 82 (.ext 1 (tp 73)),
  o1 7 (.alloc [(.int .i64 0), (.int .i64 0), (.sl hA true []), (.str []), (.sl hB true []), (.int .i64 0), (.int .i64 0), (.sl hA true []), (.bool false)]),
  ⟨none, .store 9 (tp 7) (tp 81), none, []⟩,
  o1 8 (.mv (tp 82))])
 (.seq (.ops false [o1 83 (.mv (tp 8)),
  o1 84 (.bin .eql 0 [] (tp 83) (ci 0)),
  o1 85 (.mv (tp 84)),
  o3 86 (.call (.con (.fn 20 [] [])) []) 85 true [],
  o1 87 (.pick (tp 85) (tp 86) (.con (.d (.bool false)))),
  o1 2 (.mv (tp 87))])
 (.ret)))))))))⟩
/-- entente/ententelaw22.NextRanks -/
def c7 : AFn := ⟨54, [.tmp 4], .seq (.ops false [o1 2 (.box (tp 0)),
  o1 3 (.box (tp 1)),
  o1 4 (.mv (.con (.d (.bool false))))])
 (.seq (.seq (.ops false [o1 7 (.load 9 true (tp 2)),
  o1 8 (.call (.con (.fn 19 [] [])) [(tp 7)]),
  o1 9 (.un .not (tp 8)),
  o1 10 (.mv (tp 9)),
  o3 11 (.load 8 true (tp 3)) 10 false [],
  o3 12 (.call (.con (.fn 25 [] [])) [(tp 11)]) 10 false [],
  o3 13 (.un .not (tp 12)) 10 false [],
  o1 14 (.pick (tp 10) (.con (.d (.bool true))) (tp 13))])
 (.cond (tp 14) (.seq (.ops false [o1 15 (.call (.con (.fn 20 [] [])) []),
  o1 4 (.mv (tp 15))])
 (.ret)) (.skip)))
 (.seq (.ops false [o1 17 (.load 9 true (tp 2)),
  o1 18 (.load 8 true (tp 3)),
  o1 19 (.call (.con (.fn 24 [] [])) [(tp 17), (tp 18)]),
  o1 16 (.mv (tp 19)),
  o1 20 (.ext 0 (tp 16)),
  o1 21 (.ext 1 (tp 16)),
  o1 5 (.alloc [(.int .i64 0), (.int .i64 0), (.sl hA true []), (.str []), (.sl hB true []), (.int .i64 0), (.int .i64 0), (.sl hA true []), (.bool false)]),
  ⟨none, .store 9 (tp 5) (tp 20), none, []⟩,
  o1 6 (.mv (tp 21))])
 (.seq (.seq (.ops false [o1 22 (.mv (tp 6)),
  o1 23 (.bin .neq 0 [] (tp 22) (ci 0)),
  o1 24 (.mv (tp 23)),
  o3 25 (.fldA 0 (tp 3)) 24 false [],
  o3 26 (.load 1 false (tp 25)) 24 false [],
  o3 27 (.bin .eql 0 [] (tp 26) (ci 13)) 24 false [],
  o1 28 (.pick (tp 24) (.con (.d (.bool true))) (tp 27))])
 (.cond (tp 28) (.seq (.ops false [o1 29 (.call (.con (.fn 20 [] [])) []),
  o1 4 (.mv (tp 29))])
 (.ret)) (.skip)))
 (.seq (.seq (.ops false [o1 30 (.fldA 0 (tp 3)),
  o1 31 (.load 1 false (tp 30)),
  o1 32 (.bin .eql 0 [] (tp 31) (ci 3))])
 (.cond (tp 32) (.seq (.ops true [o1 33 (.load 9 true (tp 5)),
  o2 34 (.call (.con (.fn 26 [] [])) [(tp 33)]) [0],
  o1 35 (.load 9 true (tp 2)),
  o2 36 (.call (.con (.fn 26 [] [])) [(tp 35)]) [1, 2],
  o2 37 (.bin .eql 0 [] (tp 34) (tp 36)) [1, 3],
  o2 38 (.mv (tp 37)) [3, 4],
  o3 39 (.call (.con (.fn 20 [] [])) []) 38 true [5],
  o2 40 (.pick (tp 38) (tp 39) (.con (.d (.bool false)))) [5, 6],
  o2 4 (.mv (tp 40)) [0, 1, 2, 3, 4, 5, 6, 7]])
 (.ret)) (.skip)))
 (.seq (.ops true [o1 41 (.load 9 true (tp 5)),
  o2 42 (.call (.con (.fn 26 [] [])) [(tp 41)]) [0],
  o1 43 (.load 9 true (tp 2)),
  o2 44 (.call (.con (.fn 26 [] [])) [(tp 43)]) [1, 2],
  o2 45 (.bin .lss 0 [] (tp 42) (tp 44)) [1, 3],
  o2 46 (.mv (tp 45)) [3, 4],
  o3 47 (.load 9 true (tp 5)) 46 true [5],
  o3 48 (.call (.con (.fn 26 [] [])) [(tp 47)]) 46 true [5, 6],
  o3 49 (.bin .geq 0 [] (tp 48) (ci 0)) 46 true [5, 7],
  o2 50 (.pick (tp 46) (tp 49) (.con (.d (.bool false)))) [5, 8],
  o2 51 (.mv (tp 50)) [7, 9],
  o3 52 (.call (.con (.fn 20 [] [])) []) 51 true [10],
  o2 53 (.pick (tp 51) (tp 52) (.con (.d (.bool false)))) [10, 11],
  o2 4 (.mv (tp 53)) [0, 1, 2, 3, 4, 5, 6, 7, 8, 9, 10, 11, 12]])
 (.ret))))))⟩
/-- entente/ententelaw22.NextEnds -/
def c8 : AFn := ⟨91, [.tmp 2], .seq (.ops false [o1 1 (.box (tp 0)),
  o1 2 (.mv (.con (.d (.bool false))))])
 (.seq (.seq (.ops false [o1 11 (.load 9 true (tp 1)),
  o1 12 (.call (.con (.fn 19 [] [])) [(tp 11)]),
  o1 13 (.un .not (tp 12)),
  o1 14 (.mv (tp 13)),
  o3 15 (.load 9 true (tp 1)) 14 false [],
  o3 16 (.call (.con (.fn 22 [] [])) [(tp 15)]) 14 false [],
  o3 17 (.bin .neq 0 [] (tp 16) (ci 0)) 14 false [],
  o1 18 (.pick (tp 14) (.con (.d (.bool true))) (tp 17)),
  o1 19 (.mv (tp 18)),
  o3 20 (.fldA 5 (tp 1)) 19 false [],
  o3 21 (.load 1 false (tp 20)) 19 false [],
  o3 22 (.bin .eql 0 [] (tp 21) (ci 5)) 19 false [],
  o1 23 (.pick (tp 19) (.con (.d (.bool true))) (tp 22))])
 (.cond (tp 23) (.seq (.ops false [o1 24 (.call (.con (.fn 20 [] [])) []),
  o1 2 (.mv (tp 24))])
 (.ret)) (.skip)))
 (.seq (.seq (.ops false [o1 3 (.mv (ci 0))])
 (.block 0 (.loop 0 (some ([1, 3], [0, 1, 2, 3, 4, 5, 6, 7, 128, 129, 130, 131, 160, 161, 384, 385, 386, 387, 416, 417, 512, 513, 514, 515, 544, 545, 640, 641, 642, 643, 672, 673, 832, 833, 834, 835, 864, 865, 1088, 1089, 1090, 1091, 1120, 1121, 1600, 1601, 1602, 1603, 1632, 1633, 3648, 3649, 3650, 3651, 3680, 3681, 4160, 4161, 4162, 4163, 4192, 4193, 4224, 4225, 4226, 4227, 4256, 4257, 4416, 4417, 4418, 4419, 4448, 4449, 4864, 4865, 4866, 4867, 4896, 4897, 5248, 5249, 5250, 5251, 5280, 5281])) (.seq (.seq (.ops false [o1 25 (.mv (tp 3)),
  o1 26 (.fldA 7 (tp 1)),
  o1 27 (.load 1 false (tp 26)),
  o1 28 (.len 1 (tp 27)),
  o1 29 (.bin .lss 0 [] (tp 25) (tp 28))])
 (.cond (tp 29) (.skip) (.exit 0)))
 (.seq (.block 1 (.seq (.ops false [o1 32 (.fldA 5 (tp 1)),
  o1 33 (.load 1 false (tp 32)),
  o1 34 (.bin .eql 0 [] (tp 33) (ci 4)),
  o1 35 (.mv (tp 34)),
  o3 36 (.fldA 3 (tp 1)) 35 true [],
  o3 37 (.fldA 1 (tp 36)) 35 true [],
  o3 38 (.load 1 false (tp 37)) 35 true [],
  o3 39 (.mv (tp 3)) 35 true [],
  o3 40 (.ixS hB (tp 38) (tp 39)) 35 true [],
  o3 41 (.fldA 4 (tp 40)) 35 true [],
  o3 42 (.load 1 false (tp 41)) 35 true [],
  o3 43 (.bin .eql 0 [] (tp 42) (.con (.d (.str [])))) 35 true [],
  o1 44 (.pick (tp 35) (tp 43) (.con (.d (.bool false)))),
  o1 45 (.mv (tp 44)),
  o3 46 (.fldA 7 (tp 1)) 45 true [],
  o3 47 (.load 1 false (tp 46)) 45 true [],
  o3 48 (.mv (tp 3)) 45 true [],
  o3 49 (.ixS hA (tp 47) (tp 48)) 45 true [],
  o3 50 (.fldA 1 (tp 49)) 45 true [],
  o3 51 (.load 1 false (tp 50)) 45 true [],
  o3 52 (.bin .eql 0 [] (tp 51) (ci 5)) 45 true [],
  o1 53 (.pick (tp 45) (tp 52) (.con (.d (.bool false))))])
 (.cond (tp 53) (.seq (.ops false [o1 54 (.call (.con (.fn 20 [] [])) []),
  o1 2 (.mv (tp 54))])
 (.ret)) (.skip))))
 (.ops false [o1 30 (.mv (tp 3)),
  o1 31 (.bin .add 0 [] (tp 30) (ci 1)),
  o1 3 (.mv (tp 31))]))))))
 (.seq (.ops false [o1 55 (.load 9 true (tp 1)),
  o1 56 (.call (.con (.fn 26 [] [])) [(tp 55)]),
  o1 4 (.mv (tp 56))])
 (.seq (.ops false [o1 57 (.load 9 true (tp 1)),
  o1 5 (.alloc [(.int .i64 0), (.int .i64 0), (.sl hA true []), (.str []), (.sl hB true []), (.int .i64 0), (.int .i64 0), (.sl hA true []), (.bool false)]),
  ⟨none, .store 9 (tp 5) (tp 57), none, []⟩])
 (.seq (.seq (.ops false [o1 6 (.mv (ci 0))])
 (.block 2 (.loop 1 (some ([4, 5, 6], [0, 1, 2, 3, 4, 5, 6, 7, 128, 129, 130, 131, 160, 161, 384, 385, 386, 387, 416, 417, 832, 833, 834, 835, 864, 865, 1088, 1089, 1090, 1091, 1120, 1121, 1600, 1601, 1602, 1603, 1632, 1633, 3520, 3521, 3522, 3523, 3552, 3553, 3648, 3649, 3650, 3651, 3680, 3681])) (.seq (.seq (.ops false [o1 58 (.mv (tp 6)),
  o1 59 (.mv (tp 4)),
  o1 60 (.bin .leq 0 [] (tp 58) (tp 59))])
 (.cond (tp 60) (.skip) (.exit 2)))
 (.seq (.block 3 (.seq (.seq (.ops false [o1 63 (.load 9 true (tp 5)),
  o1 64 (.call (.con (.fn 27 [] [])) [(tp 63)])])
 (.cond (tp 64) (.seq (.ops false [o1 65 (.call (.con (.fn 20 [] [])) []),
  o1 2 (.mv (tp 65))])
 (.ret)) (.skip)))
 (.seq (.ops false [o1 67 (.load 9 true (tp 5)),
  o1 68 (.call (.con (.fn 21 [] [])) [(tp 67)]),
  o1 66 (.mv (tp 68)),
  o1 69 (.ext 0 (tp 66)),
  o1 70 (.ext 1 (tp 66)),
  o1 7 (.alloc [(.int .i64 0), (.int .i64 0), (.int .i64 0), (.sl hA true []), (.int .i64 0), (.int .i64 0), (.str []), (.sl hB true [])]),
  ⟨none, .store 8 (tp 7) (tp 69), none, []⟩,
  o1 8 (.mv (tp 70))])
 (.seq (.seq (.ops false [o1 71 (.mv (tp 8)),
  o1 72 (.un .not (tp 71))])
 (.cond (tp 72) (.ops false [o1 74 (.load 9 true (tp 5)),
  o1 75 (.call (.con (.fn 28 [] [])) [(tp 74)]),
  o1 73 (.mv (tp 75)),
  o1 76 (.ext 0 (tp 73)),
  o1 77 (.ext 1 (tp 73)),
  ⟨none, .store 8 (tp 7) (tp 76), none, []⟩,
  o1 8 (.mv (tp 77))]) (.skip)))
 (.seq (.ops false [o1 79 (.load 9 true (tp 5)),
  o1 80 (.load 8 true (tp 7)),
  o1 81 (.call (.con (.fn 24 [] [])) [(tp 79), (tp 80)]),
  o1 78 (.mv (tp 81)),
  o1 82 (.ext 0 (tp 78)),
  o1 83 (.ext 1 (tp 78)),
  o1 9 (.alloc [(.int .i64 0), (.int .i64 0), (.sl hA true []), (.str []), (.sl hB true []), (.int .i64 0), (.int .i64 0), (.sl hA true []), (.bool false)]),
  ⟨none, .store 9 (tp 9) (tp 82), none, []⟩,
  o1 10 (.mv (tp 83))])
 (.seq (.seq (.ops false [o1 84 (.mv (tp 8)),
  o1 85 (.un .not (tp 84)),
  o1 86 (.mv (tp 85)),
  o3 87 (.mv (tp 10)) 86 false [],
  o3 88 (.bin .neq 0 [] (tp 87) (ci 0)) 86 false [],
  o1 89 (.pick (tp 86) (.con (.d (.bool true))) (tp 88))])
 (.cond (tp 89) (.seq (.ops false [o1 2 (.mv (.con (.d (.bool false))))])
 (.ret)) (.skip)))
 (.ops false [o1 90 (.load 9 true (tp 9)),
  ⟨none, .store 9 (tp 5) (tp 90), none, []⟩])))))))
 (.ops false [o1 61 (.mv (tp 6)),
  o1 62 (.bin .add 0 [] (tp 61) (ci 1)),
  o1 6 (.mv (tp 62))]))))))
 (.seq (.ops false [o1 2 (.mv (.con (.d (.bool false))))])
 (.ret)))))))⟩
/-- entente/ententelaw21.Few -/
def c19 : AFn := ⟨21, [.tmp 2], .seq (.ops false [o1 1 (.box (tp 0)),
  o1 2 (.mv (.con (.d (.bool false))))])
 (.seq (.ops false [o1 3 (.fldA 0 (tp 1)),
  o1 4 (.fldA 2 (tp 3)),
  o1 5 (.load 1 false (tp 4)),
  o1 6 (.len 1 (tp 5)),
  o1 7 (.bin .leq 0 [] (tp 6) (ci 50)),
  o1 8 (.mv (tp 7)),
  o3 9 (.fldA 3 (tp 1)) 8 true [],
  o3 10 (.fldA 1 (tp 9)) 8 true [],
  o3 11 (.load 1 false (tp 10)) 8 true [],
  o3 12 (.len 1 (tp 11)) 8 true [],
  o3 13 (.bin .leq 0 [] (tp 12) (ci 50)) 8 true [],
  o1 14 (.pick (tp 8) (tp 13) (.con (.d (.bool false)))),
  o1 15 (.mv (tp 14)),
  o3 16 (.fldA 7 (tp 1)) 15 true [],
  o3 17 (.load 1 false (tp 16)) 15 true [],
  o3 18 (.len 1 (tp 17)) 15 true [],
  o3 19 (.bin .leq 0 [] (tp 18) (ci 200)) 15 true [],
  o1 20 (.pick (tp 15) (tp 19) (.con (.d (.bool false)))),
  o1 2 (.mv (tp 20))])
 (.ret))⟩
/-- entente/ententelaw22.awake -/
def c20 : AFn := ⟨67, [.tmp 0], .seq (.ops false [o1 0 (.mv (.con (.d (.bool false))))])
 (.seq (.ops false [o1 9 (.build [(.int .i64 0), (.str []), (.int .i64 0)] [(0, 1, (ci 1)), (1, 1, (.con (.d (.str [99, 97, 115, 104])))), (2, 1, (ci 5))]),
  o1 10 (.build [(.int .i64 0), (.str []), (.int .i64 0), (.int .i64 0), (.str []), (.int .i64 0), (.int .i64 0)] [(0, 3, (tp 9)), (5, 1, (ci 1))]),
  o1 11 (.build [(.int .i64 0), (.str []), (.int .i64 0), (.int .i64 0), (.str []), (.int .i64 0), (.int .i64 0)] [(3, 1, (ci 2)), (4, 1, (.con (.d (.str [104, 111, 116, 101, 108])))), (6, 1, (ci 20))]),
  o1 12 (.buildSl hB [(.int .i64 0), (.str []), (.int .i64 0), (.int .i64 0), (.str []), (.int .i64 0), (.int .i64 0)] 2 [(0, 7, (tp 10)), (7, 7, (tp 11))]),
  o1 13 (.build [(.str []), (.sl hB true [])] [(0, 1, (.con (.d (.str [116, 114, 105, 112])))), (1, 1, (tp 12))]),
  o1 1 (.alloc [(.str []), (.sl hB true [])]),
  ⟨none, .store 2 (tp 1) (tp 13), none, []⟩])
 (.seq (.ops false [o1 14 (.build [(.int .i64 0), (.int .i64 0), (.sl hA true [])] [(1, 1, (ci 7))]),
  o1 15 (.load 2 true (tp 1)),
  o1 16 (.build [(.int .i64 0), (.int .i64 0)] [(0, 1, (ci 2))]),
  o1 17 (.build [(.int .i64 0), (.int .i64 0)] [(0, 1, (ci 0))]),
  o1 18 (.buildSl hA [(.int .i64 0), (.int .i64 0)] 2 [(0, 2, (tp 16)), (2, 2, (tp 17))]),
  o1 19 (.build [(.int .i64 0), (.int .i64 0), (.sl hA true []), (.str []), (.sl hB true []), (.int .i64 0), (.int .i64 0), (.sl hA true []), (.bool false)] [(0, 3, (tp 14)), (3, 2, (tp 15)), (5, 1, (ci 1)), (7, 1, (tp 18))]),
  o1 2 (.alloc [(.int .i64 0), (.int .i64 0), (.sl hA true []), (.str []), (.sl hB true []), (.int .i64 0), (.int .i64 0), (.sl hA true []), (.bool false)]),
  ⟨none, .store 9 (tp 2) (tp 19), none, []⟩])
 (.seq (.ops false [o1 21 (.load 9 true (tp 2)),
  o1 22 (.call (.con (.fn 21 [] [])) [(tp 21)]),
  o1 20 (.mv (tp 22)),
  o1 23 (.ext 0 (tp 20)),
  o1 24 (.ext 1 (tp 20)),
  o1 3 (.alloc [(.int .i64 0), (.int .i64 0), (.int .i64 0), (.sl hA true []), (.int .i64 0), (.int .i64 0), (.str []), (.sl hB true [])]),
  ⟨none, .store 8 (tp 3) (tp 23), none, []⟩,
  o1 4 (.mv (tp 24))])
 (.seq (.ops false [o1 26 (.load 9 true (tp 2)),
  o1 27 (.call (.con (.fn 36 [] [])) [(tp 26)]),
  o1 25 (.mv (tp 27)),
  o1 28 (.ext 0 (tp 25)),
  o1 29 (.ext 1 (tp 25)),
  o1 5 (.mv (tp 28)),
  o1 6 (.mv (tp 29))])
 (.seq (.ops false [o1 31 (.build [(.int .i64 0), (.int .i64 0), (.sl hA true []), (.str []), (.sl hB true []), (.int .i64 0), (.int .i64 0), (.sl hA true []), (.bool false)] []),
  o1 32 (.call (.con (.fn 21 [] [])) [(tp 31)]),
  o1 30 (.mv (tp 32)),
  o1 33 (.ext 0 (tp 30)),
  o1 34 (.ext 1 (tp 30)),
  o1 7 (.alloc [(.int .i64 0), (.int .i64 0), (.int .i64 0), (.sl hA true []), (.int .i64 0), (.int .i64 0), (.str []), (.sl hB true [])]),
  ⟨none, .store 8 (tp 7) (tp 33), none, []⟩,
  o1 8 (.mv (tp 34))])
 (.seq (.ops false [o1 35 (.mv (tp 4)),
  o1 36 (.mv (tp 35)),
  o3 37 (.fldA 0 (tp 3)) 36 true [],
  o3 38 (.load 1 false (tp 37)) 36 true [],
  o3 39 (.bin .eql 0 [] (tp 38) (ci 5)) 36 true [],
  o1 40 (.pick (tp 36) (tp 39) (.con (.d (.bool false)))),
  o1 41 (.mv (tp 40)),
  o3 42 (.fldA 4 (tp 3)) 41 true [],
  o3 43 (.load 1 false (tp 42)) 41 true [],
  o3 44 (.bin .eql 0 [] (tp 43) (ci 1)) 41 true [],
  o1 45 (.pick (tp 41) (tp 44) (.con (.d (.bool false)))),
  o1 46 (.mv (tp 45)),
  o3 47 (.mv (tp 5)) 46 true [],
  o3 48 (.bin .eql 0 [] (tp 47) (.con (.d (.str [48, 46, 55, 32, 114, 117, 110, 110, 105, 110, 103, 32, 116, 114, 105, 112, 58, 32, 100, 111, 110, 101, 32, 110, 111, 110, 101])))) 46 true [],
  o1 49 (.pick (tp 46) (tp 48) (.con (.d (.bool false)))),
  o1 50 (.mv (tp 49)),
  o3 51 (.mv (tp 6)) 50 true [],
  o3 52 (.bin .eql 0 [] (tp 51) (ci 0)) 50 true [],
  o1 53 (.pick (tp 50) (tp 52) (.con (.d (.bool false)))),
  o1 54 (.mv (tp 53)),
  o3 55 (.load 9 true (tp 2)) 54 true [],
  o3 56 (.call (.con (.fn 26 [] [])) [(tp 55)]) 54 true [],
  o3 57 (.bin .eql 0 [] (tp 56) (ci 246)) 54 true [],
  o1 58 (.pick (tp 54) (tp 57) (.con (.d (.bool false)))),
  o1 59 (.mv (tp 58)),
  o3 60 (.call (.con (.fn 37 [] [])) [(ci 5)]) 59 true [],
  o3 61 (.bin .eql 0 [] (tp 60) (.con (.d (.str [115, 116, 117, 99, 107])))) 59 true [],
  o1 62 (.pick (tp 59) (tp 61) (.con (.d (.bool false)))),
  o1 63 (.mv (tp 62)),
  o3 64 (.mv (tp 8)) 63 true [],
  o3 65 (.un .not (tp 64)) 63 true [],
  o1 66 (.pick (tp 63) (tp 65) (.con (.d (.bool false)))),
  o1 0 (.mv (tp 66))])
 (.ret)))))))⟩
/-- entente/next.Next -/
def c21 : AFn := ⟨62, [.cell 2 8 true, .tmp 3], .seq (.ops false [o1 1 (.box (tp 0)),
  o1 2 (.alloc [(.int .i64 0), (.int .i64 0), (.int .i64 0), (.sl hA true []), (.int .i64 0), (.int .i64 0), (.str []), (.sl hB true [])]),
  o1 3 (.mv (.con (.d (.bool false))))])
 (.seq (.seq (.ops false [o1 7 (.load 9 true (tp 1)),
  o1 8 (.call (.con (.fn 22 [] [])) [(tp 7)]),
  o1 9 (.bin .neq 0 [] (tp 8) (ci 0))])
 (.cond (tp 9) (.seq (.ops false [o1 10 (.build [(.int .i64 0), (.int .i64 0), (.int .i64 0), (.sl hA true []), (.int .i64 0), (.int .i64 0), (.str []), (.sl hB true [])] []),
  ⟨none, .store 8 (tp 2) (tp 10), none, []⟩,
  o1 3 (.mv (.con (.d (.bool false))))])
 (.ret)) (.skip)))
 (.seq (.ops false [o1 11 (.build [(.int .i64 0), (.int .i64 0), (.int .i64 0), (.sl hA true []), (.int .i64 0), (.int .i64 0), (.str []), (.sl hB true [])] []),
  o1 4 (.alloc [(.int .i64 0), (.int .i64 0), (.int .i64 0), (.sl hA true []), (.int .i64 0), (.int .i64 0), (.str []), (.sl hB true [])]),
  ⟨none, .store 8 (tp 4) (tp 11), none, []⟩,
  o1 5 (.mv (.con (.d (.bool false))))])
 (.seq (.ops false [o1 12 (.fldA 7 (tp 1)),
  o1 13 (.load 1 false (tp 12)),
  o1 14 (.call (.con (.fn 38 [] [])) [(tp 13), (.con (.fn 39 [] []))]),
  o1 6 (.mv (tp 14))])
 (.seq (.block 0 (.seq (.ops false [o1 16 (.mv (tp 6)),
  o1 17 (.mv (tp 16)),
  o3 18 (.fldA 5 (tp 1)) 17 true [],
  o3 19 (.load 1 false (tp 18)) 17 true [],
  o3 20 (.bin .eql 0 [] (tp 19) (ci 1)) 17 true [],
  o3 21 (.mv (tp 20)) 17 true [],
  o3 22 (.fldA 5 (tp 1)) 21 false [],
  o3 23 (.load 1 false (tp 22)) 21 false [],
  o3 24 (.bin .eql 0 [] (tp 23) (ci 2)) 21 false [],
  o3 25 (.pick (tp 21) (.con (.d (.bool true))) (tp 24)) 17 true [],
  o1 26 (.pick (tp 17) (tp 25) (.con (.d (.bool false)))),
  o1 15 (.mv (tp 26))])
 (.cond (tp 15) (.ops false [o1 28 (.call (.con (.fn 40 [] [])) [(ci 5)]),
  o1 27 (.mv (tp 28)),
  o1 29 (.ext 0 (tp 27)),
  o1 30 (.ext 1 (tp 27)),
  ⟨none, .store 8 (tp 4) (tp 29), none, []⟩,
  o1 5 (.mv (tp 30))]) (.seq (.ops false [o1 32 (.fldA 5 (tp 1)),
  o1 33 (.load 1 false (tp 32)),
  o1 34 (.bin .eql 0 [] (tp 33) (ci 1)),
  o1 31 (.mv (tp 34))])
 (.cond (tp 31) (.ops false [o1 36 (.load 9 true (tp 1)),
  o1 37 (.call (.con (.fn 41 [] [])) [(tp 36)]),
  o1 35 (.mv (tp 37)),
  o1 38 (.ext 0 (tp 35)),
  o1 39 (.ext 1 (tp 35)),
  ⟨none, .store 8 (tp 4) (tp 38), none, []⟩,
  o1 5 (.mv (tp 39))]) (.seq (.ops false [o1 41 (.fldA 5 (tp 1)),
  o1 42 (.load 1 false (tp 41)),
  o1 43 (.bin .eql 0 [] (tp 42) (ci 4)),
  o1 40 (.mv (tp 43))])
 (.cond (tp 40) (.ops false [o1 45 (.load 9 true (tp 1)),
  o1 46 (.call (.con (.fn 42 [] [])) [(tp 45)]),
  o1 44 (.mv (tp 46)),
  o1 47 (.ext 0 (tp 44)),
  o1 48 (.ext 1 (tp 44)),
  ⟨none, .store 8 (tp 4) (tp 47), none, []⟩,
  o1 5 (.mv (tp 48))]) (.skip))))))))
 (.seq (.seq (.ops false [o1 49 (.mv (tp 5)),
  o1 50 (.un .not (tp 49))])
 (.cond (tp 50) (.seq (.ops false [o1 51 (.build [(.int .i64 0), (.int .i64 0), (.int .i64 0), (.sl hA true []), (.int .i64 0), (.int .i64 0), (.str []), (.sl hB true [])] []),
  ⟨none, .store 8 (tp 2) (tp 51), none, []⟩,
  o1 3 (.mv (.con (.d (.bool false))))])
 (.ret)) (.skip)))
 (.seq (.ops false [o1 52 (.fldA 0 (tp 1)),
  o1 53 (.load 3 true (tp 52)),
  o1 54 (.fldA 1 (tp 4)),
  ⟨none, .store 3 (tp 54) (tp 53), none, []⟩])
 (.seq (.ops false [o1 55 (.fldA 0 (tp 1)),
  o1 56 (.fldA 2 (tp 55)),
  o1 57 (.load 1 false (tp 56)),
  o1 58 (.call (.con (.fn 43 [] [])) [(tp 57)]),
  o1 59 (.fldA 1 (tp 4)),
  o1 60 (.fldA 2 (tp 59)),
  ⟨none, .store 1 (tp 60) (tp 58), none, []⟩])
 (.seq (.ops false [o1 61 (.load 8 true (tp 4)),
  ⟨none, .store 8 (tp 2) (tp 61), none, []⟩,
  o1 3 (.mv (.con (.d (.bool true))))])
 (.ret)))))))))⟩
/-- entente/saga.May -/
def c22 : AFn := ⟨71, [.tmp 2], .seq (.ops false [o1 1 (.box (tp 0)),
  o1 2 (.mv (ci 0))])
 (.seq (.ops false [o1 5 (.load 9 true (tp 1)),
  o1 6 (.build [(.int .i64 0), (.int .i64 0), (.sl hA true []), (.str []), (.sl hB true []), (.int .i64 0), (.int .i64 0), (.sl hA true []), (.bool false)] [(0, 9, (tp 5))]),
  o1 7 (.box (tp 6)),
  o1 3 (.alloc [.nilp]),
  ⟨none, .store 1 (tp 3) (tp 7), none, []⟩])
 (.seq (.seq (.ops false [o1 8 (.fldA 0 (tp 1)),
  o1 9 (.load 3 true (tp 8)),
  o1 10 (.call (.con (.fn 44 [] [])) [(tp 9)]),
  o1 11 (.bin .neq 0 [] (tp 10) (ci 0))])
 (.cond (tp 11) (.seq (.ops false [o1 2 (.mv (ci 230))])
 (.ret)) (.skip)))
 (.seq (.seq (.ops false [o1 12 (.fldA 5 (tp 1)),
  o1 13 (.load 1 false (tp 12)),
  o1 14 (.bin .eql 0 [] (tp 13) (ci 7))])
 (.cond (tp 14) (.seq (.seq (.ops false [o1 15 (.fldA 3 (tp 1)),
  o1 16 (.fldA 0 (tp 15)),
  o1 17 (.load 1 false (tp 16)),
  o1 18 (.bin .neq 0 [] (tp 17) (.con (.d (.str [])))),
  o1 19 (.mv (tp 18)),
  o3 20 (.fldA 3 (tp 1)) 19 false [],
  o3 21 (.fldA 1 (tp 20)) 19 false [],
  o3 22 (.load 1 false (tp 21)) 19 false [],
  o3 23 (.len 1 (tp 22)) 19 false [],
  o3 24 (.fldA 7 (tp 1)) 19 false [],
  o3 25 (.load 1 false (tp 24)) 19 false [],
  o3 26 (.len 1 (tp 25)) 19 false [],
  o3 27 (.bin .add 0 [] (tp 23) (tp 26)) 19 false [],
  o3 28 (.bin .gtr 0 [] (tp 27) (ci 0)) 19 false [],
  o1 29 (.pick (tp 19) (.con (.d (.bool true))) (tp 28)),
  o1 30 (.mv (tp 29)),
  o3 31 (.fldA 6 (tp 1)) 30 false [],
  o3 32 (.load 1 false (tp 31)) 30 false [],
  o3 33 (.call (.con (.fn 45 [] [])) [(tp 32)]) 30 false [],
  o3 34 (.un .not (tp 33)) 30 false [],
  o1 35 (.pick (tp 30) (.con (.d (.bool true))) (tp 34)),
  o1 36 (.mv (tp 35)),
  o3 37 (.fldA 8 (tp 1)) 36 false [],
  o3 38 (.load 1 false (tp 37)) 36 false [],
  o1 39 (.pick (tp 36) (.con (.d (.bool true))) (tp 38)),
  o1 40 (.mv (tp 39)),
  o3 41 (.fldA 0 (tp 1)) 40 false [],
  o3 42 (.fldA 2 (tp 41)) 40 false [],
  o3 43 (.load 1 false (tp 42)) 40 false [],
  o3 44 (.len 1 (tp 43)) 40 false [],
  o3 45 (.bin .eql 0 [] (tp 44) (ci 0)) 40 false [],
  o1 46 (.pick (tp 40) (.con (.d (.bool true))) (tp 45))])
 (.cond (tp 46) (.seq (.ops false [o1 2 (.mv (ci 230))])
 (.ret)) (.skip)))
 (.seq (.ops false [o1 2 (.mv (ci 0))])
 (.ret))) (.skip)))
 (.seq (.seq (.ops false [o1 47 (.fldA 3 (tp 1)),
  o1 48 (.load 2 true (tp 47)),
  o1 49 (.call (.con (.fn 32 [] [])) [(tp 48)]),
  o1 50 (.bin .neq 0 [] (tp 49) (ci 0)),
  o1 51 (.mv (tp 50)),
  o3 52 (.fldA 7 (tp 1)) 51 false [],
  o3 53 (.load 1 false (tp 52)) 51 false [],
  o3 54 (.len 1 (tp 53)) 51 false [],
  o3 55 (.fldA 3 (tp 1)) 51 false [],
  o3 56 (.fldA 1 (tp 55)) 51 false [],
  o3 57 (.load 1 false (tp 56)) 51 false [],
  o3 58 (.len 1 (tp 57)) 51 false [],
  o3 59 (.bin .neq 0 [] (tp 54) (tp 58)) 51 false [],
  o1 60 (.pick (tp 51) (.con (.d (.bool true))) (tp 59))])
 (.cond (tp 60) (.seq (.ops false [o1 2 (.mv (ci 230))])
 (.ret)) (.skip)))
 (.seq (.ops false [o1 61 (.load 1 false (tp 3)),
  o1 62 (.mkF 47 [] [(tp 1), (tp 3)]),
  o1 63 (.call (.con (.fn 46 [] [])) [(tp 61), (tp 62)]),
  o1 4 (.mv (tp 63))])
 (.seq (.seq (.ops false [o1 64 (.mv (tp 4)),
  o1 65 (.un .not (tp 64)),
  o1 66 (.mv (tp 65)),
  o3 67 (.load 1 false (tp 3)) 66 false [],
  o3 68 (.call (.con (.fn 49 [] [])) [(tp 67)]) 66 false [],
  o3 69 (.un .not (tp 68)) 66 false [],
  o1 70 (.pick (tp 66) (.con (.d (.bool true))) (tp 69))])
 (.cond (tp 70) (.seq (.ops false [o1 2 (.mv (ci 230))])
 (.ret)) (.skip)))
 (.seq (.ops false [o1 2 (.mv (ci 0))])
 (.ret))))))))⟩
/-- entente/saga.Current -/
def c23 : AFn := ⟨12, [.tmp 2], .seq (.ops false [o1 1 (.box (tp 0)),
  o1 2 (.mv (ci 0))])
 (.seq (.seq (.ops false [o1 4 (.load 9 true (tp 1)),
  o1 5 (.call (.con (.fn 22 [] [])) [(tp 4)]),
  o1 6 (.bin .neq 0 [] (tp 5) (ci 0))])
 (.cond (tp 6) (.seq (.ops false [o1 2 (.mv (ci (-1)))])
 (.ret)) (.skip)))
 (.seq (.ops false [o1 7 (.load 9 true (tp 1)),
  o1 8 (.build [(.int .i64 0), (.int .i64 0), (.sl hA true []), (.str []), (.sl hB true []), (.int .i64 0), (.int .i64 0), (.sl hA true []), (.bool false)] [(0, 9, (tp 7))]),
  o1 9 (.box (tp 8)),
  o1 3 (.mv (tp 9))])
 (.seq (.ops false [o1 10 (.mv (tp 3)),
  o1 11 (.call (.con (.fn 50 [] [])) [(tp 10)]),
  o1 2 (.mv (tp 11))])
 (.ret))))⟩
/-- entente/saga.Apply -/
def c24 : AFn := ⟨39, [.cell 4 9 true, .tmp 5], .seq (.ops false [o1 2 (.box (tp 0)),
  o1 3 (.box (tp 1)),
  o1 4 (.alloc [(.int .i64 0), (.int .i64 0), (.sl hA true []), (.str []), (.sl hB true []), (.int .i64 0), (.int .i64 0), (.sl hA true []), (.bool false)]),
  o1 5 (.mv (ci 0))])
 (.seq (.seq (.ops false [o1 8 (.load 9 true (tp 2)),
  o1 9 (.call (.con (.fn 22 [] [])) [(tp 8)]),
  o1 6 (.mv (tp 9))])
 (.seq (.ops false [o1 10 (.mv (tp 6)),
  o1 11 (.bin .neq 0 [] (tp 10) (ci 0))])
 (.cond (tp 11) (.seq (.ops false [o1 12 (.build [(.int .i64 0), (.int .i64 0), (.sl hA true []), (.str []), (.sl hB true []), (.int .i64 0), (.int .i64 0), (.sl hA true []), (.bool false)] []),
  o1 13 (.mv (tp 6)),
  ⟨none, .store 9 (tp 4) (tp 12), none, []⟩,
  o1 5 (.mv (tp 13))])
 (.ret)) (.skip))))
 (.seq (.seq (.ops false [o1 14 (.load 8 true (tp 3)),
  o1 15 (.call (.con (.fn 51 [] [])) [(tp 14)]),
  o1 16 (.bin .neq 0 [] (tp 15) (ci 0)),
  o1 17 (.mv (tp 16)),
  o3 18 (.fldA 1 (tp 3)) 17 false [],
  o3 19 (.load 3 true (tp 18)) 17 false [],
  o3 20 (.fldA 0 (tp 2)) 17 false [],
  o3 21 (.load 3 true (tp 20)) 17 false [],
  o3 22 (.call (.con (.fn 52 [] [])) [(tp 19), (tp 21)]) 17 false [],
  o3 23 (.bin .neq 0 [] (tp 22) (ci 0)) 17 false [],
  o1 24 (.pick (tp 17) (.con (.d (.bool true))) (tp 23))])
 (.cond (tp 24) (.seq (.ops false [o1 25 (.build [(.int .i64 0), (.int .i64 0), (.sl hA true []), (.str []), (.sl hB true []), (.int .i64 0), (.int .i64 0), (.sl hA true []), (.bool false)] []),
  ⟨none, .store 9 (tp 4) (tp 25), none, []⟩,
  o1 5 (.mv (ci 210))])
 (.ret)) (.skip)))
 (.seq (.ops false [o1 26 (.load 9 true (tp 2)),
  o1 27 (.call (.con (.fn 53 [] [])) [(tp 26)]),
  o1 28 (.build [(.int .i64 0), (.int .i64 0), (.sl hA true []), (.str []), (.sl hB true []), (.int .i64 0), (.int .i64 0), (.sl hA true []), (.bool false)] [(0, 9, (tp 27))]),
  o1 29 (.box (tp 28)),
  o1 7 (.mv (tp 29))])
 (.seq (.seq (.ops false [o1 30 (.mv (tp 7)),
  o1 31 (.load 8 true (tp 3)),
  o1 32 (.call (.con (.fn 54 [] [])) [(tp 30), (tp 31)]),
  o1 33 (.un .not (tp 32))])
 (.cond (tp 33) (.seq (.ops false [o1 34 (.build [(.int .i64 0), (.int .i64 0), (.sl hA true []), (.str []), (.sl hB true []), (.int .i64 0), (.int .i64 0), (.sl hA true []), (.bool false)] []),
  ⟨none, .store 9 (tp 4) (tp 34), none, []⟩,
  o1 5 (.mv (ci 210))])
 (.ret)) (.skip)))
 (.seq (.ops false [o1 35 (.mv (tp 7)),
  o1 36 (.nilck (tp 35)),
  o1 37 (.fldA 0 (tp 36)),
  o1 38 (.load 9 true (tp 37)),
  ⟨none, .store 9 (tp 4) (tp 38), none, []⟩,
  o1 5 (.mv (ci 0))])
 (.ret))))))⟩
/-- entente/ententelaw21.FewMove -/
def c25 : AFn := ⟨15, [.tmp 2], .seq (.ops false [o1 1 (.box (tp 0)),
  o1 2 (.mv (.con (.d (.bool false))))])
 (.seq (.ops false [o1 3 (.fldA 1 (tp 1)),
  o1 4 (.fldA 2 (tp 3)),
  o1 5 (.load 1 false (tp 4)),
  o1 6 (.len 1 (tp 5)),
  o1 7 (.bin .leq 0 [] (tp 6) (ci 50)),
  o1 8 (.mv (tp 7)),
  o3 9 (.fldA 6 (tp 1)) 8 true [],
  o3 10 (.fldA 1 (tp 9)) 8 true [],
  o3 11 (.load 1 false (tp 10)) 8 true [],
  o3 12 (.len 1 (tp 11)) 8 true [],
  o3 13 (.bin .leq 0 [] (tp 12) (ci 50)) 8 true [],
  o1 14 (.pick (tp 8) (tp 13) (.con (.d (.bool false)))),
  o1 2 (.mv (tp 14))])
 (.ret))⟩
/-- entente/next.Rank -/
def c26 : AFn := ⟨33, [.tmp 2], .seq (.ops false [o1 1 (.box (tp 0)),
  o1 2 (.mv (ci 0))])
 (.seq (.seq (.ops false [o1 8 (.load 9 true (tp 1)),
  o1 9 (.call (.con (.fn 22 [] [])) [(tp 8)]),
  o1 10 (.bin .neq 0 [] (tp 9) (ci 0))])
 (.cond (tp 10) (.seq (.ops false [o1 2 (.mv (ci 0))])
 (.ret)) (.skip)))
 (.seq (.ops false [o1 11 (.build [(.int .i64 0), (.int .i64 0), (.int .i64 0), (.int .i64 0), (.int .i64 0), (.int .i64 0), (.int .i64 0), (.int .i64 0)] [(0, 1, (ci 0)), (1, 1, (ci 6)), (2, 1, (ci 5)), (3, 1, (ci 1)), (4, 1, (ci 4)), (5, 1, (ci 3)), (6, 1, (ci 1)), (7, 1, (ci 0))]),
  o1 3 (.allocA (.int .i64) [(.int .i64 0), (.int .i64 0), (.int .i64 0), (.int .i64 0), (.int .i64 0), (.int .i64 0), (.int .i64 0), (.int .i64 0)] 8),
  ⟨none, .store 8 (tp 3) (tp 11), none, []⟩])
 (.seq (.ops false [o1 12 (.build [(.int .i64 0), (.int .i64 0), (.int .i64 0), (.int .i64 0), (.int .i64 0)] [(0, 1, (ci 4)), (1, 1, (ci 3)), (2, 1, (ci 2)), (3, 1, (ci 1)), (4, 1, (ci 1))]),
  o1 4 (.allocA (.int .i64) [(.int .i64 0), (.int .i64 0), (.int .i64 0), (.int .i64 0), (.int .i64 0)] 5),
  ⟨none, .store 5 (tp 4) (tp 12), none, []⟩])
 (.seq (.ops true [o1 13 (.slcA (.int .i64) 8 (tp 3) none none),
  o1 14 (.fldA 5 (tp 1)),
  o2 15 (.load 1 false (tp 14)) [1],
  o2 16 (.call (.con (.fn 55 [] [])) [(tp 13), (tp 15)]) [0, 2],
  o2 17 (.bin .mul 0 [] (ci 40) (tp 16)) [3],
  o2 5 (.mv (tp 17)) [0, 1, 2, 3, 4]])
 (.seq (.seq (.ops false [o1 18 (.fldA 7 (tp 1)),
  o1 19 (.load 1 false (tp 18)),
  o1 20 (.len 1 (tp 19)),
  o1 21 (.mv (ci 0))])
 (.block 0 (.loop 0 (some ([4, 5, 19, 20, 21], [0, 1, 2, 3, 4, 5, 6, 7, 128, 129, 130, 131, 160, 161, 256, 257, 258, 259, 288, 289, 320, 321, 322, 323, 352, 353, 640, 641, 642, 643, 672, 673, 1088, 1089, 1090, 1091, 1120, 1121])) (.seq (.ops false [o1 22 (.bin .lss 0 [] (tp 21) (tp 20))])
 (.seq (.cond (tp 22) (.skip) (.exit 0))
 (.seq (.block 1 (.seq (.ops false [o1 23 (.ixS hA (tp 19) (tp 21)),
  o1 24 (.load 2 true (tp 23)),
  o1 7 (.alloc [(.int .i64 0), (.int .i64 0)]),
  ⟨none, .store 2 (tp 7) (tp 24), none, []⟩])
 (.ops true [o1 25 (.mv (tp 5)),
  o1 26 (.slcA (.int .i64) 5 (tp 4) none none),
  o1 27 (.fldA 0 (tp 7)),
  o2 28 (.load 1 false (tp 27)) [2],
  o2 29 (.call (.con (.fn 55 [] [])) [(tp 26), (tp 28)]) [1, 3],
  o2 30 (.bin .add 0 [] (tp 25) (tp 29)) [0, 4],
  o2 5 (.mv (tp 30)) [0, 1, 2, 3, 4, 5]])))
 (.ops false [o1 31 (.bin .add 0 [] (tp 21) (ci 1)),
  o1 21 (.mv (tp 31))])))))))
 (.seq (.ops false [o1 32 (.mv (tp 5)),
  o1 2 (.mv (tp 32))])
 (.ret)))))))⟩
/-- entente/saga.Ended -/
def c27 : AFn := ⟨36, [.tmp 2], .seq (.ops false [o1 1 (.box (tp 0)),
  o1 2 (.mv (.con (.d (.bool false))))])
 (.seq (.seq (.ops false [o1 4 (.load 9 true (tp 1)),
  o1 5 (.call (.con (.fn 22 [] [])) [(tp 4)]),
  o1 6 (.bin .neq 0 [] (tp 5) (ci 0))])
 (.cond (tp 6) (.seq (.ops false [o1 2 (.mv (.con (.d (.bool false))))])
 (.ret)) (.skip)))
 (.seq (.ops false [o1 7 (.load 9 true (tp 1)),
  o1 8 (.build [(.int .i64 0), (.int .i64 0), (.sl hA true []), (.str []), (.sl hB true []), (.int .i64 0), (.int .i64 0), (.sl hA true []), (.bool false)] [(0, 9, (tp 7))]),
  o1 9 (.box (tp 8)),
  o1 3 (.mv (tp 9))])
 (.seq (.seq (.ops false [o1 10 (.fldA 5 (tp 1)),
  o1 11 (.load 1 false (tp 10))])
 (.block 0 (.seq (.ops false [o1 13 (.bin .eql 0 [] (tp 11) (ci 7)),
  o1 12 (.mv (tp 13))])
 (.cond (tp 12) (.seq (.ops false [o1 2 (.mv (.con (.d (.bool true))))])
 (.ret)) (.seq (.ops false [o1 15 (.bin .eql 0 [] (tp 11) (ci 6)),
  o1 14 (.mv (tp 15))])
 (.cond (tp 14) (.seq (.ops false [o1 16 (.mv (tp 3)),
  o1 17 (.buildSl (.int .i64) [(.int .i64 0)] 2 [(0, 1, (ci 1)), (1, 1, (ci 2))]),
  o1 18 (.call (.con (.fn 56 [] [])) [(tp 16), (tp 17)]),
  o1 19 (.un .not (tp 18)),
  o1 2 (.mv (tp 19))])
 (.ret)) (.seq (.ops false [o1 21 (.bin .eql 0 [] (tp 11) (ci 3)),
  o1 20 (.mv (tp 21))])
 (.cond (tp 20) (.seq (.ops false [o1 22 (.mv (tp 3)),
  o1 23 (.buildSl (.int .i64) [(.int .i64 0)] 1 [(0, 1, (ci 2))]),
  o1 24 (.call (.con (.fn 56 [] [])) [(tp 22), (tp 23)]),
  o1 25 (.un .not (tp 24)),
  o1 26 (.mv (tp 25)),
  o3 27 (.fldA 8 (tp 1)) 26 true [],
  o3 28 (.load 1 false (tp 27)) 26 true [],
  o3 29 (.mv (tp 28)) 26 true [],
  o3 30 (.mv (tp 3)) 29 true [],
  o3 31 (.buildSl (.int .i64) [(.int .i64 0)] 1 [(0, 1, (ci 1))]) 29 true [],
  o3 32 (.call (.con (.fn 56 [] [])) [(tp 30), (tp 31)]) 29 true [],
  o3 33 (.pick (tp 29) (tp 32) (.con (.d (.bool false)))) 26 true [],
  o3 34 (.un .not (tp 33)) 26 true [],
  o1 35 (.pick (tp 26) (tp 34) (.con (.d (.bool false)))),
  o1 2 (.mv (tp 35))])
 (.ret)) (.skip)))))))))
 (.seq (.ops false [o1 2 (.mv (.con (.d (.bool false))))])
 (.ret)))))⟩
/-- entente/ententelaw22.answered -/
def c28 : AFn := ⟨100, [.cell 2 8 true, .tmp 3], .seq (.ops false [o1 1 (.box (tp 0)),
  o1 2 (.alloc [(.int .i64 0), (.int .i64 0), (.int .i64 0), (.sl hA true []), (.int .i64 0), (.int .i64 0), (.str []), (.sl hB true [])]),
  o1 3 (.mv (.con (.d (.bool false))))])
 (.seq (.ops false [o1 6 (.fldA 0 (tp 1)),
  o1 7 (.load 3 true (tp 6)),
  o1 8 (.build [(.int .i64 0), (.int .i64 0), (.int .i64 0), (.sl hA true []), (.int .i64 0), (.int .i64 0), (.str []), (.sl hB true [])] [(1, 3, (tp 7))]),
  o1 4 (.alloc [(.int .i64 0), (.int .i64 0), (.int .i64 0), (.sl hA true []), (.int .i64 0), (.int .i64 0), (.str []), (.sl hB true [])]),
  ⟨none, .store 8 (tp 4) (tp 8), none, []⟩])
 (.seq (.seq (.ops false [o1 5 (.mv (ci 0))])
 (.block 0 (.loop 0 (some ([1, 2, 4, 5], [0, 1, 2, 3, 4, 5, 6, 7, 128, 129, 130, 131, 160, 161, 192, 193, 194, 195, 224, 225, 320, 321, 322, 323, 352, 353])) (.seq (.seq (.ops false [o1 9 (.mv (tp 5)),
  o1 10 (.fldA 7 (tp 1)),
  o1 11 (.load 1 false (tp 10)),
  o1 12 (.len 1 (tp 11)),
  o1 13 (.bin .lss 0 [] (tp 9) (tp 12))])
 (.cond (tp 13) (.skip) (.exit 0)))
 (.seq (.block 1 (.seq (.ops false [o1 16 (.mv (tp 5)),
  o1 17 (.fldA 4 (tp 4)),
  ⟨none, .store 1 (tp 17) (tp 16), none, []⟩])
 (.block 2 (.seq (.ops false [o1 19 (.fldA 3 (tp 1)),
  o1 20 (.fldA 1 (tp 19)),
  o1 21 (.load 1 false (tp 20)),
  o1 22 (.mv (tp 5)),
  o1 23 (.ixS hB (tp 21) (tp 22)),
  o1 24 (.fldA 4 (tp 23)),
  o1 25 (.load 1 false (tp 24)),
  o1 26 (.bin .eql 0 [] (tp 25) (.con (.d (.str [])))),
  o1 18 (.mv (tp 26))])
 (.cond (tp 18) (.skip) (.seq (.ops false [o1 28 (.fldA 5 (tp 1)),
  o1 29 (.load 1 false (tp 28)),
  o1 30 (.bin .eql 0 [] (tp 29) (ci 1)),
  o1 31 (.mv (tp 30)),
  o3 32 (.fldA 7 (tp 1)) 31 true [],
  o3 33 (.load 1 false (tp 32)) 31 true [],
  o3 34 (.mv (tp 5)) 31 true [],
  o3 35 (.ixS hA (tp 33) (tp 34)) 31 true [],
  o3 36 (.fldA 0 (tp 35)) 31 true [],
  o3 37 (.load 1 false (tp 36)) 31 true [],
  o3 38 (.bin .eql 0 [] (tp 37) (ci 1)) 31 true [],
  o1 39 (.pick (tp 31) (tp 38) (.con (.d (.bool false)))),
  o1 27 (.mv (tp 39))])
 (.cond (tp 27) (.seq (.ops false [o1 40 (.fldA 0 (tp 4)),
  ⟨none, .store 1 (tp 40) (ci 6), none, []⟩])
 (.seq (.ops false [o1 41 (.load 8 true (tp 4)),
  ⟨none, .store 8 (tp 2) (tp 41), none, []⟩,
  o1 3 (.mv (.con (.d (.bool true))))])
 (.ret))) (.seq (.ops false [o1 43 (.fldA 5 (tp 1)),
  o1 44 (.load 1 false (tp 43)),
  o1 45 (.bin .eql 0 [] (tp 44) (ci 3)),
  o1 46 (.mv (tp 45)),
  o3 47 (.fldA 7 (tp 1)) 46 true [],
  o3 48 (.load 1 false (tp 47)) 46 true [],
  o3 49 (.mv (tp 5)) 46 true [],
  o3 50 (.ixS hA (tp 48) (tp 49)) 46 true [],
  o3 51 (.fldA 0 (tp 50)) 46 true [],
  o3 52 (.load 1 false (tp 51)) 46 true [],
  o3 53 (.bin .eql 0 [] (tp 52) (ci 2)) 46 true [],
  o1 54 (.pick (tp 46) (tp 53) (.con (.d (.bool false)))),
  o1 42 (.mv (tp 54))])
 (.cond (tp 42) (.seq (.ops false [o1 55 (.fldA 0 (tp 4)),
  ⟨none, .store 1 (tp 55) (ci 15), none, []⟩])
 (.seq (.ops false [o1 56 (.load 8 true (tp 4)),
  ⟨none, .store 8 (tp 2) (tp 56), none, []⟩,
  o1 3 (.mv (.con (.d (.bool true))))])
 (.ret))) (.seq (.ops false [o1 58 (.fldA 5 (tp 1)),
  o1 59 (.load 1 false (tp 58)),
  o1 60 (.bin .eql 0 [] (tp 59) (ci 4)),
  o1 61 (.mv (tp 60)),
  o3 62 (.fldA 8 (tp 1)) 61 false [],
  o3 63 (.load 1 false (tp 62)) 61 false [],
  o1 64 (.pick (tp 61) (.con (.d (.bool true))) (tp 63)),
  o1 65 (.mv (tp 64)),
  o3 66 (.fldA 7 (tp 1)) 65 true [],
  o3 67 (.load 1 false (tp 66)) 65 true [],
  o3 68 (.mv (tp 5)) 65 true [],
  o3 69 (.ixS hA (tp 67) (tp 68)) 65 true [],
  o3 70 (.fldA 0 (tp 69)) 65 true [],
  o3 71 (.load 1 false (tp 70)) 65 true [],
  o3 72 (.bin .eql 0 [] (tp 71) (ci 1)) 65 true [],
  o3 73 (.mv (tp 72)) 65 true [],
  o3 74 (.fldA 7 (tp 1)) 73 false [],
  o3 75 (.load 1 false (tp 74)) 73 false [],
  o3 76 (.mv (tp 5)) 73 false [],
  o3 77 (.ixS hA (tp 75) (tp 76)) 73 false [],
  o3 78 (.fldA 0 (tp 77)) 73 false [],
  o3 79 (.load 1 false (tp 78)) 73 false [],
  o3 80 (.bin .eql 0 [] (tp 79) (ci 2)) 73 false [],
  o3 81 (.pick (tp 73) (.con (.d (.bool true))) (tp 80)) 65 true [],
  o1 82 (.pick (tp 65) (tp 81) (.con (.d (.bool false)))),
  o1 57 (.mv (tp 82))])
 (.cond (tp 57) (.seq (.seq (.ops false [o1 83 (.fldA 5 (tp 1)),
  o1 84 (.load 1 false (tp 83)),
  o1 85 (.bin .eql 0 [] (tp 84) (ci 4)),
  o1 86 (.mv (tp 85)),
  o3 87 (.mv (tp 5)) 86 true [],
  o3 88 (.load 9 true (tp 1)) 86 true [],
  o3 89 (.call (.con (.fn 23 [] [])) [(tp 88)]) 86 true [],
  o3 90 (.bin .neq 0 [] (tp 87) (tp 89)) 86 true [],
  o1 91 (.pick (tp 86) (tp 90) (.con (.d (.bool false))))])
 (.cond (tp 91) (.exit 1) (.skip)))
 (.seq (.ops false [o1 92 (.fldA 0 (tp 4)),
  ⟨none, .store 1 (tp 92) (ci 7), none, []⟩])
 (.seq (.ops false [o1 93 (.load 8 true (tp 4)),
  ⟨none, .store 8 (tp 2) (tp 93), none, []⟩,
  o1 3 (.mv (.con (.d (.bool true))))])
 (.ret)))) (.skip))))))))))))
 (.ops false [o1 14 (.mv (tp 5)),
  o1 15 (.bin .add 0 [] (tp 14) (ci 1)),
  o1 5 (.mv (tp 15))]))))))
 (.seq (.ops false [o1 94 (.fldA 4 (tp 4)),
  ⟨none, .store 1 (tp 94) (ci 0), none, []⟩])
 (.seq (.ops false [o1 95 (.fldA 0 (tp 4)),
  ⟨none, .store 1 (tp 95) (ci 9), none, []⟩])
 (.seq (.ops true [o1 96 (.load 8 true (tp 4)),
  o1 97 (.fldA 5 (tp 1)),
  o2 98 (.load 1 false (tp 97)) [1],
  o2 99 (.bin .eql 0 [] (tp 98) (ci 2)) [2],
  ⟨none, .store 8 (tp 2) (tp 96), none, [0]⟩,
  o2 3 (.mv (tp 99)) [0, 1, 2, 3, 4]])
 (.ret))))))⟩
/-- entente/def.Check -/
def c32 : AFn := ⟨22, [.tmp 2], .seq (.ops false [o1 1 (.box (tp 0)),
  o1 2 (.mv (ci 0))])
 (.seq (.seq (.ops false [o1 3 (.fldA 0 (tp 1)),
  o1 4 (.load 1 false (tp 3)),
  o1 5 (.call (.con (.fn 63 [] [])) [(tp 4)]),
  o1 6 (.un .not (tp 5)),
  o1 7 (.mv (tp 6)),
  o3 8 (.fldA 1 (tp 1)) 7 false [],
  o3 9 (.load 1 false (tp 8)) 7 false [],
  o3 10 (.len 1 (tp 9)) 7 false [],
  o3 11 (.bin .lss 0 [] (tp 10) (ci 1)) 7 false [],
  o1 12 (.pick (tp 7) (.con (.d (.bool true))) (tp 11)),
  o1 13 (.mv (tp 12)),
  o3 14 (.fldA 1 (tp 1)) 13 false [],
  o3 15 (.load 1 false (tp 14)) 13 false [],
  o3 16 (.len 1 (tp 15)) 13 false [],
  o3 17 (.bin .gtr 0 [] (tp 16) (ci 8)) 13 false [],
  o1 18 (.pick (tp 13) (.con (.d (.bool true))) (tp 17))])
 (.cond (tp 18) (.seq (.ops false [o1 2 (.mv (ci 90))])
 (.ret)) (.skip)))
 (.seq (.seq (.ops false [o1 19 (.fldA 1 (tp 1)),
  o1 20 (.load 1 false (tp 19)),
  o1 21 (.call (.con (.fn 64 [] [])) [(tp 20), (.con (.fn 65 [] []))])])
 (.cond (tp 21) (.seq (.ops false [o1 2 (.mv (ci 90))])
 (.ret)) (.skip)))
 (.seq (.ops false [o1 2 (.mv (ci 0))])
 (.ret))))⟩
/-- entente/next.Show -/
def c36 : AFn := ⟨78, [.tmp 2, .tmp 3], .seq (.ops false [o1 1 (.box (tp 0)),
  o1 2 (.mv (.con (.d (.str [])))),
  o1 3 (.mv (ci 0))])
 (.seq (.seq (.ops false [o1 11 (.load 9 true (tp 1)),
  o1 12 (.call (.con (.fn 22 [] [])) [(tp 11)]),
  o1 4 (.mv (tp 12))])
 (.seq (.ops false [o1 13 (.mv (tp 4)),
  o1 14 (.bin .neq 0 [] (tp 13) (ci 0))])
 (.cond (tp 14) (.seq (.ops false [o1 15 (.mv (tp 4)),
  o1 2 (.mv (.con (.d (.str [])))),
  o1 3 (.mv (tp 15))])
 (.ret)) (.skip))))
 (.seq (.ops false [o1 17 (.fldA 0 (tp 1)),
  o1 18 (.load 3 true (tp 17)),
  o1 19 (.call (.con (.fn 71 [] [])) [(tp 18)]),
  o1 16 (.mv (tp 19)),
  o1 20 (.ext 0 (tp 16)),
  o1 21 (.ext 1 (tp 16)),
  o1 5 (.mv (tp 20)),
  o1 6 (.mv (tp 21))])
 (.seq (.ops false [o1 22 (.mv (tp 5)),
  o1 23 (.bin .add 0 [] (tp 22) (.con (.d (.str [32])))),
  o1 24 (.fldA 5 (tp 1)),
  o1 25 (.load 1 false (tp 24)),
  o1 26 (.call (.con (.fn 37 [] [])) [(tp 25)]),
  o1 27 (.bin .add 0 [] (tp 23) (tp 26)),
  o1 7 (.mv (tp 27))])
 (.seq (.seq (.ops false [o1 28 (.fldA 8 (tp 1)),
  o1 29 (.load 1 false (tp 28))])
 (.cond (tp 29) (.ops false [o1 30 (.mv (tp 7)),
  o1 31 (.bin .add 0 [] (tp 30) (.con (.d (.str [32, 102, 111, 114, 99, 101, 100])))),
  o1 7 (.mv (tp 31))]) (.skip)))
 (.seq (.seq (.ops false [o1 32 (.fldA 6 (tp 1)),
  o1 33 (.load 1 false (tp 32)),
  o1 34 (.bin .neq 0 [] (tp 33) (ci 0))])
 (.cond (tp 34) (.ops false [o1 35 (.mv (tp 7)),
  o1 36 (.fldA 6 (tp 1)),
  o1 37 (.load 1 false (tp 36)),
  o1 38 (.call (.con (.fn 72 [] [])) [(tp 37)]),
  o1 39 (.bin .add 0 [] (.con (.d (.str [32, 119, 104, 121, 32]))) (tp 38)),
  o1 40 (.bin .add 0 [] (tp 35) (tp 39)),
  o1 7 (.mv (tp 40))]) (.skip)))
 (.seq (.seq (.ops false [o1 41 (.fldA 5 (tp 1)),
  o1 42 (.load 1 false (tp 41)),
  o1 43 (.bin .eql 0 [] (tp 42) (ci 7))])
 (.cond (tp 43) (.seq (.ops false [o1 44 (.mv (tp 7)),
  o1 2 (.mv (tp 44)),
  o1 3 (.mv (ci 0))])
 (.ret)) (.skip)))
 (.seq (.ops false [o1 45 (.mv (tp 7)),
  o1 46 (.fldA 3 (tp 1)),
  o1 47 (.fldA 0 (tp 46)),
  o1 48 (.load 1 false (tp 47)),
  o1 49 (.bin .add 0 [] (.con (.d (.str [32]))) (tp 48)),
  o1 50 (.bin .add 0 [] (tp 49) (.con (.d (.str [58])))),
  o1 51 (.bin .add 0 [] (tp 45) (tp 50)),
  o1 7 (.mv (tp 51))])
 (.seq (.ops false [o1 52 (.build [(.str []), (.str []), (.str []), (.str []), (.str [])] [(0, 1, (.con (.d (.str [110, 111, 110, 101])))), (1, 1, (.con (.d (.str [97, 115, 107])))), (2, 1, (.con (.d (.str [100, 111, 110, 101])))), (3, 1, (.con (.d (.str [103, 111, 110, 101])))), (4, 1, (.con (.d (.str [107, 101, 112, 116]))))]),
  o1 8 (.allocA .str [(.str []), (.str []), (.str []), (.str []), (.str [])] 5),
  ⟨none, .store 5 (tp 8) (tp 52), none, []⟩])
 (.seq (.seq (.ops false [o1 53 (.fldA 7 (tp 1)),
  o1 54 (.load 1 false (tp 53)),
  o1 55 (.len 1 (tp 54)),
  o1 56 (.mv (ci 0))])
 (.block 0 (.loop 0 (some ([7, 8, 54, 55, 56], [0, 1, 2, 3, 4, 5, 6, 7, 128, 129, 130, 131, 160, 161, 576, 577, 578, 579, 608, 609, 832, 833, 834, 835, 864, 865, 1280, 1281, 1282, 1283, 1312, 1313, 1728, 1729, 1730, 1731, 1760, 1761, 2496, 2497, 2498, 2499, 2528, 2529])) (.seq (.ops false [o1 57 (.bin .lss 0 [] (tp 56) (tp 55))])
 (.seq (.cond (tp 57) (.skip) (.exit 0))
 (.seq (.block 1 (.seq (.ops false [o1 58 (.ixS hA (tp 54) (tp 56)),
  o1 59 (.load 2 true (tp 58)),
  o1 10 (.alloc [(.int .i64 0), (.int .i64 0)]),
  ⟨none, .store 2 (tp 10) (tp 59), none, []⟩])
 (.seq (.ops true [o1 60 (.mv (tp 7)),
  o1 61 (.slcA .str 5 (tp 8) none none),
  o1 62 (.fldA 0 (tp 10)),
  o2 63 (.load 1 false (tp 62)) [2],
  o2 64 (.call (.con (.fn 73 [] [])) [(tp 61), (tp 63)]) [1, 3],
  o2 65 (.bin .add 0 [] (.con (.d (.str [32]))) (tp 64)) [4],
  o2 66 (.bin .add 0 [] (tp 60) (tp 65)) [0, 5],
  o2 7 (.mv (tp 66)) [0, 1, 2, 3, 4, 5, 6]])
 (.seq (.ops false [o1 67 (.fldA 1 (tp 10)),
  o1 68 (.load 1 false (tp 67)),
  o1 69 (.bin .neq 0 [] (tp 68) (ci 0))])
 (.cond (tp 69) (.ops false [o1 70 (.mv (tp 7)),
  o1 71 (.fldA 1 (tp 10)),
  o1 72 (.load 1 false (tp 71)),
  o1 73 (.call (.con (.fn 72 [] [])) [(tp 72)]),
  o1 74 (.bin .add 0 [] (.con (.d (.str [43]))) (tp 73)),
  o1 75 (.bin .add 0 [] (tp 70) (tp 74)),
  o1 7 (.mv (tp 75))]) (.skip))))))
 (.ops false [o1 76 (.bin .add 0 [] (tp 56) (ci 1)),
  o1 56 (.mv (tp 76))])))))))
 (.seq (.ops false [o1 77 (.mv (tp 7)),
  o1 2 (.mv (tp 77)),
  o1 3 (.mv (ci 0))])
 (.ret)))))))))))⟩
/-- entente/next.Word -/
def c37 : AFn := ⟨8, [.tmp 2], .seq (.ops false [o1 2 (.mv (.con (.d (.str []))))])
 (.seq (.ops false [o1 4 (.build [(.str []), (.str []), (.str []), (.str []), (.str []), (.str []), (.str []), (.str [])] [(0, 1, (.con (.d (.str [])))), (1, 1, (.con (.d (.str [114, 117, 110, 110, 105, 110, 103])))), (2, 1, (.con (.d (.str [104, 101, 108, 100])))), (3, 1, (.con (.d (.str [99, 111, 109, 109, 105, 116, 116, 101, 100])))), (4, 1, (.con (.d (.str [117, 110, 100, 111, 105, 110, 103])))), (5, 1, (.con (.d (.str [115, 116, 117, 99, 107])))), (6, 1, (.con (.d (.str [99, 111, 109, 112, 101, 110, 115, 97, 116, 101, 100])))), (7, 1, (.con (.d (.str [114, 101, 102, 117, 115, 101, 100]))))]),
  o1 3 (.allocA .str [(.str []), (.str []), (.str []), (.str []), (.str []), (.str []), (.str []), (.str [])] 8),
  ⟨none, .store 8 (tp 3) (tp 4), none, []⟩])
 (.seq (.ops false [o1 5 (.slcA .str 8 (tp 3) none none),
  o1 6 (.mv (tp 0)),
  o1 7 (.call (.con (.fn 73 [] [])) [(tp 5), (tp 6)]),
  o1 2 (.mv (tp 7))])
 (.ret)))⟩
/-- slices.ContainsFunc[[]entente/api.Part,entente/api.Part] -/
def c38 : AFn := ⟨9, [.tmp 4], .seq (.ops false [o1 4 (.mv (.con (.d (.bool false))))])
 (.seq (.ops false [o1 5 (.mv (tp 0)),
  o1 6 (.mv (tp 1)),
  o1 7 (.call (.con (.fn 74 [] [])) [(tp 5), (tp 6)]),
  o1 8 (.bin .geq 0 [] (tp 7) (ci 0)),
  o1 4 (.mv (tp 8))])
 (.ret))⟩
/-- entente/next.Next$1 -/
def c39 : AFn := ⟨6, [.tmp 2], .seq (.ops false [o1 1 (.box (tp 0)),
  o1 2 (.mv (.con (.d (.bool false))))])
 (.seq (.ops false [o1 3 (.fldA 0 (tp 1)),
  o1 4 (.load 1 false (tp 3)),
  o1 5 (.bin .eql 0 [] (tp 4) (ci 3)),
  o1 2 (.mv (tp 5))])
 (.ret))⟩
/-- entente/next.back -/
def c40 : AFn := ⟨6, [.cell 2 8 true, .tmp 3], .seq (.ops false [o1 2 (.alloc [(.int .i64 0), (.int .i64 0), (.int .i64 0), (.sl hA true []), (.int .i64 0), (.int .i64 0), (.str []), (.sl hB true [])]),
  o1 3 (.mv (.con (.d (.bool false))))])
 (.seq (.ops false [o1 4 (.mv (tp 0)),
  o1 5 (.build [(.int .i64 0), (.int .i64 0), (.int .i64 0), (.sl hA true []), (.int .i64 0), (.int .i64 0), (.str []), (.sl hB true [])] [(0, 1, (ci 10)), (5, 1, (tp 4))]),
  ⟨none, .store 8 (tp 2) (tp 5), none, []⟩,
  o1 3 (.mv (.con (.d (.bool true))))])
 (.ret))⟩
/-- entente/next.running -/
def c41 : AFn := ⟨59, [.cell 2 8 true, .tmp 3], .seq (.ops false [o1 1 (.box (tp 0)),
  o1 2 (.alloc [(.int .i64 0), (.int .i64 0), (.int .i64 0), (.sl hA true []), (.int .i64 0), (.int .i64 0), (.str []), (.sl hB true [])]),
  o1 3 (.mv (.con (.d (.bool false))))])
 (.seq (.ops false [o1 7 (.load 9 true (tp 1)),
  o1 8 (.call (.con (.fn 23 [] [])) [(tp 7)]),
  o1 4 (.mv (tp 8))])
 (.seq (.seq (.ops false [o1 9 (.mv (tp 4)),
  o1 10 (.bin .lss 0 [] (tp 9) (ci 0)),
  o1 11 (.mv (tp 10)),
  o3 12 (.fldA 0 (tp 1)) 11 true [],
  o3 13 (.fldA 2 (tp 12)) 11 true [],
  o3 14 (.load 1 false (tp 13)) 11 true [],
  o3 15 (.len 1 (tp 14)) 11 true [],
  o3 16 (.bin .gtr 0 [] (tp 15) (ci 0)) 11 true [],
  o1 17 (.pick (tp 11) (tp 16) (.con (.d (.bool false))))])
 (.cond (tp 17) (.seq (.ops false [o1 18 (.call (.con (.fn 75 [] [])) [(ci 8), (ci 0)]),
  o1 19 (.ext 0 (tp 18)),
  o1 20 (.ext 1 (tp 18)),
  ⟨none, .store 8 (tp 2) (tp 19), none, []⟩,
  o1 3 (.mv (tp 20))])
 (.ret)) (.skip)))
 (.seq (.seq (.ops false [o1 21 (.mv (tp 4)),
  o1 22 (.bin .lss 0 [] (tp 21) (ci 0))])
 (.cond (tp 22) (.seq (.ops false [o1 23 (.call (.con (.fn 75 [] [])) [(ci 9), (ci 0)]),
  o1 24 (.ext 0 (tp 23)),
  o1 25 (.ext 1 (tp 23)),
  ⟨none, .store 8 (tp 2) (tp 24), none, []⟩,
  o1 3 (.mv (tp 25))])
 (.ret)) (.skip)))
 (.seq (.ops true [o1 26 (.fldA 3 (tp 1)),
  o2 27 (.fldA 1 (tp 26)) [0],
  o2 28 (.load 1 false (tp 27)) [1],
  o1 29 (.mv (tp 4)),
  o2 30 (.ixS hB (tp 28) (tp 29)) [2, 3],
  o2 31 (.load 7 true (tp 30)) [4],
  o1 32 (.fldA 7 (tp 1)),
  o2 33 (.load 1 false (tp 32)) [6],
  o1 34 (.mv (tp 4)),
  o2 35 (.ixS hA (tp 33) (tp 34)) [7, 8],
  o2 36 (.load 2 true (tp 35)) [9],
  o1 5 (.alloc [(.int .i64 0), (.str []), (.int .i64 0), (.int .i64 0), (.str []), (.int .i64 0), (.int .i64 0)]),
  o1 6 (.alloc [(.int .i64 0), (.int .i64 0)]),
  ⟨none, .store 7 (tp 5) (tp 31), none, [0, 1, 2, 3, 4, 5, 11, 12]⟩,
  ⟨none, .store 2 (tp 6) (tp 36), none, [0, 1, 2, 3, 4, 5, 6, 7, 8, 9, 10, 11, 12, 13]⟩])
 (.seq (.block 0 (.seq (.ops false [o1 38 (.fldA 4 (tp 5)),
  o1 39 (.load 1 false (tp 38)),
  o1 40 (.bin .neq 0 [] (tp 39) (.con (.d (.str [])))),
  o1 37 (.mv (tp 40))])
 (.cond (tp 37) (.seq (.ops true [o1 41 (.mv (tp 4)),
  o2 42 (.build [(.int .i64 0), (.int .i64 0), (.int .i64 0), (.sl hA true []), (.int .i64 0), (.int .i64 0), (.str []), (.sl hB true [])] [(0, 1, (ci 5)), (4, 1, (tp 41))]) [0],
  o1 43 (.fldA 0 (tp 6)),
  o2 44 (.load 1 false (tp 43)) [2],
  o2 45 (.bin .eql 0 [] (tp 44) (ci 0)) [3],
  ⟨none, .store 8 (tp 2) (tp 42), none, [0, 1]⟩,
  o2 3 (.mv (tp 45)) [0, 1, 2, 3, 4, 5]])
 (.ret)) (.seq (.ops false [o1 47 (.fldA 1 (tp 6)),
  o1 48 (.load 1 false (tp 47)),
  o1 49 (.fldA 5 (tp 5)),
  o1 50 (.load 1 false (tp 49)),
  o1 51 (.bin .geq 0 [] (tp 48) (tp 50)),
  o1 46 (.mv (tp 51))])
 (.cond (tp 46) (.seq (.ops false [o1 52 (.call (.con (.fn 40 [] [])) [(ci 2)]),
  o1 53 (.ext 0 (tp 52)),
  o1 54 (.ext 1 (tp 52)),
  ⟨none, .store 8 (tp 2) (tp 53), none, []⟩,
  o1 3 (.mv (tp 54))])
 (.ret)) (.skip))))))
 (.seq (.ops false [o1 55 (.mv (tp 4)),
  o1 56 (.call (.con (.fn 75 [] [])) [(ci 4), (tp 55)]),
  o1 57 (.ext 0 (tp 56)),
  o1 58 (.ext 1 (tp 56)),
  ⟨none, .store 8 (tp 2) (tp 57), none, []⟩,
  o1 3 (.mv (tp 58))])
 (.ret)))))))⟩
/-- entente/next.undoing -/
def c42 : AFn := ⟨39, [.cell 2 8 true, .tmp 3], .seq (.ops false [o1 1 (.box (tp 0)),
  o1 2 (.alloc [(.int .i64 0), (.int .i64 0), (.int .i64 0), (.sl hA true []), (.int .i64 0), (.int .i64 0), (.str []), (.sl hB true [])]),
  o1 3 (.mv (.con (.d (.bool false))))])
 (.seq (.ops false [o1 5 (.load 9 true (tp 1)),
  o1 6 (.call (.con (.fn 23 [] [])) [(tp 5)]),
  o1 4 (.mv (tp 6))])
 (.seq (.block 0 (.seq (.ops false [o1 8 (.mv (tp 4)),
  o1 9 (.bin .lss 0 [] (tp 8) (ci 0)),
  o1 7 (.mv (tp 9))])
 (.cond (tp 7) (.seq (.ops false [o1 10 (.call (.con (.fn 75 [] [])) [(ci 14), (ci 0)]),
  o1 11 (.ext 0 (tp 10)),
  o1 12 (.ext 1 (tp 10)),
  ⟨none, .store 8 (tp 2) (tp 11), none, []⟩,
  o1 3 (.mv (tp 12))])
 (.ret)) (.seq (.ops false [o1 14 (.fldA 3 (tp 1)),
  o1 15 (.fldA 1 (tp 14)),
  o1 16 (.load 1 false (tp 15)),
  o1 17 (.mv (tp 4)),
  o1 18 (.ixS hB (tp 16) (tp 17)),
  o1 19 (.fldA 4 (tp 18)),
  o1 20 (.load 1 false (tp 19)),
  o1 21 (.bin .neq 0 [] (tp 20) (.con (.d (.str [])))),
  o1 13 (.mv (tp 21))])
 (.cond (tp 13) (.seq (.ops false [o1 22 (.build [(.int .i64 0), (.int .i64 0), (.int .i64 0), (.sl hA true []), (.int .i64 0), (.int .i64 0), (.str []), (.sl hB true [])] []),
  ⟨none, .store 8 (tp 2) (tp 22), none, []⟩,
  o1 3 (.mv (.con (.d (.bool false))))])
 (.ret)) (.seq (.ops false [o1 24 (.fldA 7 (tp 1)),
  o1 25 (.load 1 false (tp 24)),
  o1 26 (.mv (tp 4)),
  o1 27 (.ixS hA (tp 25) (tp 26)),
  o1 28 (.fldA 1 (tp 27)),
  o1 29 (.load 1 false (tp 28)),
  o1 30 (.bin .geq 0 [] (tp 29) (ci 5)),
  o1 23 (.mv (tp 30))])
 (.cond (tp 23) (.seq (.ops false [o1 31 (.mv (tp 4)),
  o1 32 (.call (.con (.fn 75 [] [])) [(ci 12), (tp 31)]),
  o1 33 (.ext 0 (tp 32)),
  o1 34 (.ext 1 (tp 32)),
  ⟨none, .store 8 (tp 2) (tp 33), none, []⟩,
  o1 3 (.mv (tp 34))])
 (.ret)) (.skip))))))))
 (.seq (.ops false [o1 35 (.mv (tp 4)),
  o1 36 (.call (.con (.fn 75 [] [])) [(ci 11), (tp 35)]),
  o1 37 (.ext 0 (tp 36)),
  o1 38 (.ext 1 (tp 36)),
  ⟨none, .store 8 (tp 2) (tp 37), none, []⟩,
  o1 3 (.mv (tp 38))])
 (.ret))))⟩
/-- slices.Clone[[]entente/api.Hop,entente/api.Hop] -/
def c43 : AFn := ⟨8, [.tmp 2], .seq (.ops false [o1 2 (.mv (.con (.d (.sl hA true []))))])
 (.seq (.seq (.ops false [o1 3 (.mv (tp 0)),
  o1 4 (.bin .eql 3 [] (tp 3) (.con (.d (.sl hA true []))))])
 (.cond (tp 4) (.seq (.ops false [o1 2 (.mv (.con (.d (.sl hA true []))))])
 (.ret)) (.skip)))
 (.seq (.ops false [o1 5 (.buildSl hA [(.int .i64 0), (.int .i64 0)] 0 []),
  o1 6 (.mv (tp 0)),
  o1 7 (.appd hA (tp 5) (tp 6)),
  o1 2 (.mv (tp 7))])
 (.ret)))⟩
/-- entente/ident.Check -/
def c44 : AFn := ⟨44, [.tmp 2], .seq (.ops false [o1 1 (.box (tp 0)),
  o1 2 (.mv (ci 0))])
 (.seq (.seq (.ops false [o1 6 (.fldA 1 (tp 1)),
  o1 7 (.load 1 false (tp 6)),
  o1 8 (.bin .lss 0 [] (tp 7) (ci 1)),
  o1 9 (.mv (tp 8)),
  o3 10 (.fldA 1 (tp 1)) 9 false [],
  o3 11 (.load 1 false (tp 10)) 9 false [],
  o3 12 (.bin .gtr 0 [] (tp 11) (ci 999999)) 9 false [],
  o1 13 (.pick (tp 9) (.con (.d (.bool true))) (tp 12)),
  o1 14 (.mv (tp 13)),
  o3 15 (.fldA 2 (tp 1)) 14 false [],
  o3 16 (.load 1 false (tp 15)) 14 false [],
  o3 17 (.len 1 (tp 16)) 14 false [],
  o3 18 (.bin .gtr 0 [] (tp 17) (ci 4)) 14 false [],
  o1 19 (.pick (tp 14) (.con (.d (.bool true))) (tp 18))])
 (.cond (tp 19) (.seq (.ops false [o1 2 (.mv (ci 30))])
 (.ret)) (.skip)))
 (.seq (.ops false [o1 3 (.allocA .bool [(.bool false), (.bool false), (.bool false), (.bool false), (.bool false), (.bool false), (.bool false), (.bool false), (.bool false), (.bool false), (.bool false), (.bool false), (.bool false), (.bool false), (.bool false), (.bool false)] 16)])
 (.seq (.seq (.ops false [o1 20 (.load 3 true (tp 1)),
  o1 21 (.call (.con (.fn 76 [] [])) [(tp 20)]),
  o1 22 (.len 1 (tp 21)),
  o1 23 (.mv (ci 0))])
 (.block 0 (.loop 0 (some ([1, 3, 21, 22, 23], [0, 1, 2, 3, 4, 5, 6, 7, 128, 129, 130, 131, 160, 161, 256, 257, 258, 259, 288, 289, 1408, 1409, 1410, 1411, 1440, 1441, 2816, 2817, 2818, 2819, 2848, 2849])) (.seq (.ops false [o1 24 (.bin .lss 0 [] (tp 23) (tp 22))])
 (.seq (.cond (tp 24) (.skip) (.exit 0))
 (.seq (.block 1 (.seq (.ops false [o1 25 (.ixS (.int .i64) (tp 21) (tp 23)),
  o1 26 (.load 1 false (tp 25)),
  o1 5 (.mv (tp 26))])
 (.seq (.seq (.ops false [o1 27 (.mv (tp 5)),
  o1 28 (.bin .lss 0 [] (tp 27) (ci 0)),
  o1 29 (.mv (tp 28)),
  o3 30 (.mv (tp 5)) 29 false [],
  o3 31 (.bin .geq 0 [] (tp 30) (ci 16)) 29 false [],
  o1 32 (.pick (tp 29) (.con (.d (.bool true))) (tp 31)),
  o1 33 (.mv (tp 32)),
  o3 34 (.mv (tp 5)) 33 false [],
  o3 35 (.ixP .bool 16 (tp 3) (tp 34)) 33 false [],
  o3 36 (.load 1 false (tp 35)) 33 false [],
  o1 37 (.pick (tp 33) (.con (.d (.bool true))) (tp 36))])
 (.cond (tp 37) (.seq (.ops false [o1 2 (.mv (ci 30))])
 (.ret)) (.skip)))
 (.ops false [o1 38 (.mv (tp 5)),
  o1 39 (.ixP .bool 16 (tp 3) (tp 38)),
  ⟨none, .store 1 (tp 39) (.con (.d (.bool true))), none, []⟩]))))
 (.ops false [o1 40 (.bin .add 0 [] (tp 23) (ci 1)),
  o1 23 (.mv (tp 40))])))))))
 (.seq (.seq (.ops false [o1 41 (.fldA 2 (tp 1)),
  o1 42 (.load 1 false (tp 41)),
  o1 43 (.call (.con (.fn 77 [] [])) [(tp 42), (.con (.fn 78 [] []))])])
 (.cond (tp 43) (.seq (.ops false [o1 2 (.mv (ci 30))])
 (.ret)) (.skip)))
 (.seq (.ops false [o1 2 (.mv (ci 0))])
 (.ret))))))⟩
/-- entente/saga.why -/
def c45 : AFn := ⟨9, [.tmp 2], .seq (.ops false [o1 2 (.mv (.con (.d (.bool false))))])
 (.seq (.ops false [o1 3 (.mv (tp 0)),
  o1 4 (.bin .geq 0 [] (tp 3) (ci 1)),
  o1 5 (.mv (tp 4)),
  o3 6 (.mv (tp 0)) 5 true [],
  o3 7 (.bin .leq 0 [] (tp 6) (ci 9)) 5 true [],
  o1 8 (.pick (tp 5) (tp 7) (.con (.d (.bool false)))),
  o1 2 (.mv (tp 8))])
 (.ret))⟩
/-- (*entente/saga.holder).all -/
def c46 : AFn := ⟨20, [.tmp 4], .seq (.ops false [o1 4 (.mv (.con (.d (.bool false))))])
 (.seq (.seq (.ops false [o1 6 (.mv (tp 0)),
  o1 7 (.nilck (tp 6)),
  o1 8 (.fldA 0 (tp 7)),
  o1 9 (.fldA 7 (tp 8)),
  o1 10 (.load 1 false (tp 9)),
  o1 11 (.len 1 (tp 10)),
  o1 12 (.mv (ci 0))])
 (.block 0 (.loop 0 (some ([1, 11, 12], [0, 1, 2, 3, 4, 5, 6, 7])) (.seq (.ops false [o1 13 (.bin .lss 0 [] (tp 12) (tp 11))])
 (.seq (.cond (tp 13) (.skip) (.exit 0))
 (.seq (.block 1 (.seq (.ops false [o1 14 (.mv (tp 12)),
  o1 5 (.mv (tp 14))])
 (.seq (.ops false [o1 15 (.mv (tp 1)),
  o1 16 (.mv (tp 5)),
  o1 17 (.call (tp 15) [(tp 16)]),
  o1 18 (.un .not (tp 17))])
 (.cond (tp 18) (.seq (.ops false [o1 4 (.mv (.con (.d (.bool false))))])
 (.ret)) (.skip)))))
 (.ops false [o1 19 (.bin .add 0 [] (tp 12) (ci 1)),
  o1 12 (.mv (tp 19))])))))))
 (.seq (.ops false [o1 4 (.mv (.con (.d (.bool true))))])
 (.ret)))⟩
/-- entente/saga.May$1 -/
def c47 : AFn := ⟨39, [.tmp 4], .seq (.ops false [o1 4 (.mv (.con (.d (.bool false))))])
 (.seq (.ops false [o1 6 (.fldA 7 (tp 1)),
  o1 7 (.load 1 false (tp 6)),
  o1 8 (.mv (tp 0)),
  o1 9 (.ixS hA (tp 7) (tp 8)),
  o1 10 (.load 2 true (tp 9)),
  o1 5 (.alloc [(.int .i64 0), (.int .i64 0)]),
  ⟨none, .store 2 (tp 5) (tp 10), none, []⟩])
 (.seq (.ops false [o1 11 (.fldA 0 (tp 5)),
  o1 12 (.load 1 false (tp 11)),
  o1 13 (.bin .geq 0 [] (tp 12) (ci 0)),
  o1 14 (.mv (tp 13)),
  o3 15 (.fldA 0 (tp 5)) 14 true [],
  o3 16 (.load 1 false (tp 15)) 14 true [],
  o3 17 (.bin .leq 0 [] (tp 16) (ci 4)) 14 true [],
  o1 18 (.pick (tp 14) (tp 17) (.con (.d (.bool false)))),
  o1 19 (.mv (tp 18)),
  o3 20 (.load 1 false (tp 2)) 19 true [],
  o3 21 (.mv (tp 0)) 19 true [],
  o3 22 (.call (.con (.fn 48 [] [])) [(tp 20), (tp 21)]) 19 true [],
  o3 23 (.mv (tp 22)) 19 true [],
  o3 24 (.fldA 0 (tp 5)) 23 false [],
  o3 25 (.load 1 false (tp 24)) 23 false [],
  o3 26 (.bin .neq 0 [] (tp 25) (ci 1)) 23 false [],
  o3 27 (.pick (tp 23) (.con (.d (.bool true))) (tp 26)) 19 true [],
  o1 28 (.pick (tp 19) (tp 27) (.con (.d (.bool false)))),
  o1 29 (.mv (tp 28)),
  o3 30 (.fldA 1 (tp 5)) 29 true [],
  o3 31 (.load 1 false (tp 30)) 29 true [],
  o3 32 (.bin .geq 0 [] (tp 31) (ci 0)) 29 true [],
  o1 33 (.pick (tp 29) (tp 32) (.con (.d (.bool false)))),
  o1 34 (.mv (tp 33)),
  o3 35 (.fldA 1 (tp 5)) 34 true [],
  o3 36 (.load 1 false (tp 35)) 34 true [],
  o3 37 (.bin .leq 0 [] (tp 36) (ci 5)) 34 true [],
  o1 38 (.pick (tp 34) (tp 37) (.con (.d (.bool false)))),
  o1 4 (.mv (tp 38))])
 (.ret)))⟩
/-- (*entente/saga.holder).asks -/
def c48 : AFn := ⟨16, [.tmp 4], .seq (.ops false [o1 4 (.mv (.con (.d (.bool false))))])
 (.seq (.ops false [o1 5 (.mv (tp 0)),
  o1 6 (.nilck (tp 5)),
  o1 7 (.fldA 0 (tp 6)),
  o1 8 (.fldA 3 (tp 7)),
  o1 9 (.fldA 1 (tp 8)),
  o1 10 (.load 1 false (tp 9)),
  o1 11 (.mv (tp 1)),
  o1 12 (.ixS hB (tp 10) (tp 11)),
  o1 13 (.fldA 4 (tp 12)),
  o1 14 (.load 1 false (tp 13)),
  o1 15 (.bin .neq 0 [] (tp 14) (.con (.d (.str [])))),
  o1 4 (.mv (tp 15))])
 (.ret))⟩
/-- (*entente/saga.holder).fits -/
def c49 : AFn := ⟨176, [.tmp 2], .seq (.ops false [o1 1 (.box (tp 0)),
  o1 2 (.mv (.con (.d (.bool false))))])
 (.seq (.ops true [o1 6 (.load 1 false (tp 1)),
  o2 7 (.nilck (tp 6)) [0],
  o2 8 (.fldA 0 (tp 7)) [1],
  o2 9 (.fldA 8 (tp 8)) [2],
  o2 10 (.load 1 false (tp 9)) [3],
  o1 11 (.load 1 false (tp 1)),
  o2 12 (.nilck (tp 11)) [5],
  o2 13 (.fldA 0 (tp 12)) [6],
  o2 14 (.fldA 0 (tp 13)) [7],
  o2 15 (.fldA 2 (tp 14)) [8],
  o2 16 (.load 1 false (tp 15)) [9],
  o2 17 (.len 1 (tp 16)) [10],
  o2 18 (.bin .gtr 0 [] (tp 17) (ci 0)) [11],
  o2 3 (.mv (tp 10)) [0, 1, 2, 3, 4],
  o2 4 (.mv (tp 18)) [0, 1, 2, 3, 4, 5, 6, 7, 8, 9, 10, 11, 12, 13]])
 (.seq (.seq (.ops false [o1 19 (.load 1 false (tp 1)),
  o1 20 (.nilck (tp 19)),
  o1 21 (.fldA 0 (tp 20)),
  o1 22 (.fldA 5 (tp 21)),
  o1 23 (.load 1 false (tp 22))])
 (.block 0 (.seq (.ops false [o1 25 (.bin .eql 0 [] (tp 23) (ci 1)),
  o1 24 (.mv (tp 25))])
 (.cond (tp 24) (.seq (.ops false [o1 26 (.mv (tp 3)),
  o1 27 (.un .not (tp 26)),
  o1 28 (.mv (tp 27)),
  o3 29 (.load 1 false (tp 1)) 28 true [],
  o3 30 (.nilck (tp 29)) 28 true [],
  o3 31 (.fldA 0 (tp 30)) 28 true [],
  o3 32 (.fldA 6 (tp 31)) 28 true [],
  o3 33 (.load 1 false (tp 32)) 28 true [],
  o3 34 (.bin .eql 0 [] (tp 33) (ci 0)) 28 true [],
  o1 35 (.pick (tp 28) (tp 34) (.con (.d (.bool false)))),
  o1 36 (.mv (tp 35)),
  o3 37 (.load 1 false (tp 1)) 36 true [],
  o3 38 (.call (.con (.fn 79 [] [])) [(tp 37)]) 36 true [],
  o1 39 (.pick (tp 36) (tp 38) (.con (.d (.bool false)))),
  o1 2 (.mv (tp 39))])
 (.ret)) (.seq (.ops false [o1 41 (.bin .eql 0 [] (tp 23) (ci 2)),
  o1 40 (.mv (tp 41))])
 (.cond (tp 40) (.seq (.ops false [o1 42 (.mv (tp 3)),
  o1 43 (.un .not (tp 42)),
  o1 44 (.mv (tp 43)),
  o3 45 (.load 1 false (tp 1)) 44 true [],
  o3 46 (.nilck (tp 45)) 44 true [],
  o3 47 (.fldA 0 (tp 46)) 44 true [],
  o3 48 (.fldA 6 (tp 47)) 44 true [],
  o3 49 (.load 1 false (tp 48)) 44 true [],
  o3 50 (.bin .eql 0 [] (tp 49) (ci 0)) 44 true [],
  o1 51 (.pick (tp 44) (tp 50) (.con (.d (.bool false)))),
  o1 52 (.mv (tp 51)),
  o3 53 (.mv (tp 4)) 52 true [],
  o1 54 (.pick (tp 52) (tp 53) (.con (.d (.bool false)))),
  o1 55 (.mv (tp 54)),
  o3 56 (.load 1 false (tp 1)) 55 true [],
  o3 57 (.load 1 false (tp 1)) 55 true [],
  o3 58 (.mkF 80 [(tp 57)] []) 55 true [],
  o3 59 (.call (.con (.fn 46 [] [])) [(tp 56), (tp 58)]) 55 true [],
  o1 60 (.pick (tp 55) (tp 59) (.con (.d (.bool false)))),
  o1 2 (.mv (tp 60))])
 (.ret)) (.seq (.ops false [o1 62 (.bin .eql 0 [] (tp 23) (ci 3)),
  o1 61 (.mv (tp 62))])
 (.cond (tp 61) (.seq (.seq (.ops false [o1 63 (.mv (tp 3))])
 (.cond (tp 63) (.seq (.ops false [o1 64 (.load 1 false (tp 1)),
  o1 65 (.nilck (tp 64)),
  o1 66 (.fldA 0 (tp 65)),
  o1 67 (.fldA 6 (tp 66)),
  o1 68 (.load 1 false (tp 67)),
  o1 69 (.bin .eql 0 [] (tp 68) (ci 0)),
  o1 70 (.mv (tp 69)),
  o3 71 (.load 1 false (tp 1)) 70 false [],
  o3 72 (.nilck (tp 71)) 70 false [],
  o3 73 (.fldA 0 (tp 72)) 70 false [],
  o3 74 (.fldA 6 (tp 73)) 70 false [],
  o3 75 (.load 1 false (tp 74)) 70 false [],
  o3 76 (.call (.con (.fn 45 [] [])) [(tp 75)]) 70 false [],
  o1 77 (.pick (tp 70) (.con (.d (.bool true))) (tp 76)),
  o1 78 (.mv (tp 77)),
  o3 79 (.load 1 false (tp 1)) 78 true [],
  o3 80 (.mkF 81 [] [(tp 1)]) 78 true [],
  o3 81 (.call (.con (.fn 46 [] [])) [(tp 79), (tp 80)]) 78 true [],
  o1 82 (.pick (tp 78) (tp 81) (.con (.d (.bool false)))),
  o1 2 (.mv (tp 82))])
 (.ret)) (.skip)))
 (.seq (.ops false [o1 83 (.load 1 false (tp 1)),
  o1 84 (.nilck (tp 83)),
  o1 85 (.fldA 0 (tp 84)),
  o1 86 (.fldA 6 (tp 85)),
  o1 87 (.load 1 false (tp 86)),
  o1 88 (.bin .eql 0 [] (tp 87) (ci 0)),
  o1 89 (.mv (tp 88)),
  o3 90 (.load 1 false (tp 1)) 89 true [],
  o3 91 (.mkF 83 [] [(tp 1)]) 89 true [],
  o3 92 (.call (.con (.fn 46 [] [])) [(tp 90), (tp 91)]) 89 true [],
  o1 93 (.pick (tp 89) (tp 92) (.con (.d (.bool false)))),
  o1 2 (.mv (tp 93))])
 (.ret))) (.seq (.seq (.ops false [o1 95 (.bin .eql 0 [] (tp 23) (ci 4)),
  o1 94 (.mv (tp 95))])
 (.cond (tp 94) (.skip) (.ops false [o1 96 (.bin .eql 0 [] (tp 23) (ci 5)),
  o1 94 (.mv (tp 96))])))
 (.cond (tp 94) (.seq (.seq (.ops false [o1 97 (.mv (tp 3)),
  o1 98 (.mv (tp 97)),
  o3 99 (.load 1 false (tp 1)) 98 false [],
  o3 100 (.nilck (tp 99)) 98 false [],
  o3 101 (.fldA 0 (tp 100)) 98 false [],
  o3 102 (.fldA 6 (tp 101)) 98 false [],
  o3 103 (.load 1 false (tp 102)) 98 false [],
  o3 104 (.call (.con (.fn 45 [] [])) [(tp 103)]) 98 false [],
  o3 105 (.un .not (tp 104)) 98 false [],
  o1 106 (.pick (tp 98) (.con (.d (.bool true))) (tp 105)),
  o1 107 (.mv (tp 106)),
  o3 108 (.load 1 false (tp 1)) 107 false [],
  o3 109 (.buildSl (.int .i64) [(.int .i64 0)] 1 [(0, 1, (ci 4))]) 107 false [],
  o3 110 (.call (.con (.fn 56 [] [])) [(tp 108), (tp 109)]) 107 false [],
  o1 111 (.pick (tp 107) (.con (.d (.bool true))) (tp 110))])
 (.cond (tp 111) (.seq (.ops false [o1 2 (.mv (.con (.d (.bool false))))])
 (.ret)) (.skip)))
 (.seq (.ops false [o1 112 (.load 1 false (tp 1)),
  o1 113 (.call (.con (.fn 50 [] [])) [(tp 112)]),
  o1 5 (.mv (tp 113))])
 (.seq (.ops false [o1 114 (.load 1 false (tp 1)),
  o1 115 (.nilck (tp 114)),
  o1 116 (.fldA 0 (tp 115)),
  o1 117 (.fldA 5 (tp 116)),
  o1 118 (.load 1 false (tp 117)),
  o1 119 (.bin .eql 0 [] (tp 118) (ci 4)),
  o1 120 (.mv (tp 119)),
  o3 121 (.mv (tp 5)) 120 false [],
  o3 122 (.bin .geq 0 [] (tp 121) (ci 0)) 120 false [],
  o3 123 (.mv (tp 122)) 120 false [],
  o3 124 (.load 1 false (tp 1)) 123 true [],
  o3 125 (.mv (tp 5)) 123 true [],
  o3 126 (.call (.con (.fn 48 [] [])) [(tp 124), (tp 125)]) 123 true [],
  o3 127 (.un .not (tp 126)) 123 true [],
  o3 128 (.pick (tp 123) (tp 127) (.con (.d (.bool false)))) 120 false [],
  o3 129 (.mv (tp 128)) 120 false [],
  o3 130 (.load 1 false (tp 1)) 129 true [],
  o3 131 (.nilck (tp 130)) 129 true [],
  o3 132 (.fldA 0 (tp 131)) 129 true [],
  o3 133 (.fldA 7 (tp 132)) 129 true [],
  o3 134 (.load 1 false (tp 133)) 129 true [],
  o3 135 (.mv (tp 5)) 129 true [],
  o3 136 (.ixS hA (tp 134) (tp 135)) 129 true [],
  o3 137 (.fldA 1 (tp 136)) 129 true [],
  o3 138 (.load 1 false (tp 137)) 129 true [],
  o3 139 (.bin .eql 0 [] (tp 138) (ci 5)) 129 true [],
  o3 140 (.pick (tp 129) (tp 139) (.con (.d (.bool false)))) 120 false [],
  o1 141 (.pick (tp 120) (.con (.d (.bool true))) (tp 140)),
  o1 2 (.mv (tp 141))])
 (.ret)))) (.seq (.ops false [o1 143 (.bin .eql 0 [] (tp 23) (ci 6)),
  o1 142 (.mv (tp 143))])
 (.cond (tp 142) (.seq (.seq (.ops false [o1 144 (.mv (tp 3))])
 (.cond (tp 144) (.seq (.ops false [o1 145 (.load 1 false (tp 1)),
  o1 146 (.nilck (tp 145)),
  o1 147 (.fldA 0 (tp 146)),
  o1 148 (.fldA 6 (tp 147)),
  o1 149 (.load 1 false (tp 148)),
  o1 150 (.bin .eql 0 [] (tp 149) (ci 0)),
  o1 151 (.mv (tp 150)),
  o3 152 (.load 1 false (tp 1)) 151 false [],
  o3 153 (.nilck (tp 152)) 151 false [],
  o3 154 (.fldA 0 (tp 153)) 151 false [],
  o3 155 (.fldA 6 (tp 154)) 151 false [],
  o3 156 (.load 1 false (tp 155)) 151 false [],
  o3 157 (.call (.con (.fn 45 [] [])) [(tp 156)]) 151 false [],
  o1 158 (.pick (tp 151) (.con (.d (.bool true))) (tp 157)),
  o1 159 (.mv (tp 158)),
  o3 160 (.load 1 false (tp 1)) 159 true [],
  o3 161 (.mkF 84 [] [(tp 1)]) 159 true [],
  o3 162 (.call (.con (.fn 46 [] [])) [(tp 160), (tp 161)]) 159 true [],
  o1 163 (.pick (tp 159) (tp 162) (.con (.d (.bool false)))),
  o1 2 (.mv (tp 163))])
 (.ret)) (.skip)))
 (.seq (.ops false [o1 164 (.load 1 false (tp 1)),
  o1 165 (.nilck (tp 164)),
  o1 166 (.fldA 0 (tp 165)),
  o1 167 (.fldA 6 (tp 166)),
  o1 168 (.load 1 false (tp 167)),
  o1 169 (.call (.con (.fn 45 [] [])) [(tp 168)]),
  o1 170 (.mv (tp 169)),
  o3 171 (.load 1 false (tp 1)) 170 true [],
  o3 172 (.buildSl (.int .i64) [(.int .i64 0)] 3 [(0, 1, (ci 1)), (1, 1, (ci 2)), (2, 1, (ci 4))]) 170 true [],
  o3 173 (.call (.con (.fn 56 [] [])) [(tp 171), (tp 172)]) 170 true [],
  o3 174 (.un .not (tp 173)) 170 true [],
  o1 175 (.pick (tp 170) (tp 174) (.con (.d (.bool false)))),
  o1 2 (.mv (tp 175))])
 (.ret))) (.skip)))))))))))))
 (.seq (.ops false [o1 2 (.mv (.con (.d (.bool false))))])
 (.ret))))⟩
/-- (*entente/saga.holder).current -/
def c50 : AFn := ⟨36, [.tmp 2], .seq (.ops false [o1 2 (.mv (ci 0))])
 (.seq (.seq (.ops false [o1 4 (.mv (tp 0)),
  o1 5 (.nilck (tp 4)),
  o1 6 (.fldA 0 (tp 5)),
  o1 7 (.fldA 5 (tp 6)),
  o1 8 (.load 1 false (tp 7))])
 (.block 0 (.seq (.ops false [o1 10 (.bin .eql 0 [] (tp 8) (ci 1)),
  o1 9 (.mv (tp 10))])
 (.cond (tp 9) (.seq (.ops false [o1 11 (.mv (tp 0)),
  o1 12 (.nilck (tp 11)),
  o1 13 (.fldA 0 (tp 12)),
  o1 14 (.fldA 7 (tp 13)),
  o1 15 (.load 1 false (tp 14)),
  o1 16 (.call (.con (.fn 74 [] [])) [(tp 15), (.con (.fn 85 [] []))]),
  o1 2 (.mv (tp 16))])
 (.ret)) (.seq (.seq (.ops false [o1 18 (.bin .eql 0 [] (tp 8) (ci 4)),
  o1 17 (.mv (tp 18))])
 (.cond (tp 17) (.skip) (.ops false [o1 19 (.bin .eql 0 [] (tp 8) (ci 5)),
  o1 17 (.mv (tp 19))])))
 (.cond (tp 17) (.seq (.ops false [o1 20 (.mv (tp 0)),
  o1 21 (.nilck (tp 20)),
  o1 22 (.fldA 0 (tp 21)),
  o1 23 (.fldA 7 (tp 22)),
  o1 24 (.load 1 false (tp 23)),
  o1 25 (.len 1 (tp 24)),
  o1 26 (.bin .sub 0 [] (tp 25) (ci 1)),
  o1 3 (.mv (tp 26))])
 (.block 1 (.loop 0 (some ([0, 3], [0, 1, 2, 3, 4, 5, 6, 7])) (.seq (.seq (.ops false [o1 27 (.mv (tp 3)),
  o1 28 (.bin .geq 0 [] (tp 27) (ci 0))])
 (.cond (tp 28) (.skip) (.exit 1)))
 (.seq (.block 2 (.seq (.ops false [o1 31 (.mv (tp 0)),
  o1 32 (.mv (tp 3)),
  o1 33 (.buildSl (.int .i64) [(.int .i64 0)] 2 [(0, 1, (ci 1)), (1, 1, (ci 2))]),
  o1 34 (.call (.con (.fn 82 [] [])) [(tp 31), (tp 32), (tp 33)])])
 (.cond (tp 34) (.seq (.ops false [o1 35 (.mv (tp 3)),
  o1 2 (.mv (tp 35))])
 (.ret)) (.skip))))
 (.ops false [o1 29 (.mv (tp 3)),
  o1 30 (.bin .sub 0 [] (tp 29) (ci 1)),
  o1 3 (.mv (tp 30))])))))) (.skip)))))))
 (.seq (.ops false [o1 2 (.mv (ci (-1)))])
 (.ret)))⟩
/-- entente/record.Move -/
def c51 : AFn := ⟨119, [.tmp 2], .seq (.ops false [o1 1 (.box (tp 0)),
  o1 2 (.mv (ci 0))])
 (.seq (.seq (.ops false [o1 4 (.fldA 0 (tp 1)),
  o1 5 (.load 1 false (tp 4)),
  o1 6 (.bin .lss 0 [] (tp 5) (ci 1)),
  o1 7 (.mv (tp 6)),
  o3 8 (.fldA 0 (tp 1)) 7 false [],
  o3 9 (.load 1 false (tp 8)) 7 false [],
  o3 10 (.bin .gtr 0 [] (tp 9) (ci 16)) 7 false [],
  o1 11 (.pick (tp 7) (.con (.d (.bool true))) (tp 10)),
  o1 12 (.mv (tp 11)),
  o3 13 (.fldA 1 (tp 1)) 12 false [],
  o3 14 (.load 3 true (tp 13)) 12 false [],
  o3 15 (.call (.con (.fn 44 [] [])) [(tp 14)]) 12 false [],
  o3 16 (.bin .neq 0 [] (tp 15) (ci 0)) 12 false [],
  o1 17 (.pick (tp 12) (.con (.d (.bool true))) (tp 16))])
 (.cond (tp 17) (.seq (.ops false [o1 2 (.mv (ci 140))])
 (.ret)) (.skip)))
 (.seq (.ops false [o1 18 (.fldA 6 (tp 1)),
  o1 19 (.load 2 true (tp 18)),
  o1 20 (.call (.con (.fn 86 [] [])) [(tp 19)]),
  o1 3 (.mv (tp 20))])
 (.seq (.seq (.ops true [o1 21 (.call (.con (.fn 87 [] [])) []),
  o1 22 (.fldA 0 (tp 1)),
  o2 23 (.load 1 false (tp 22)) [1],
  o2 24 (.ixArr (.agg [.str, (.int .i64)]) 17 (tp 21) (tp 23)) [0, 2],
  o2 25 (.fld 1 1 false (tp 24)) [3]])
 (.block 0 (.seq (.ops false [o1 27 (.bin .eql 0 [] (tp 25) (ci 0)),
  o1 26 (.mv (tp 27))])
 (.cond (tp 26) (.ops false [o1 28 (.mv (tp 3)),
  o1 29 (.mv (tp 28)),
  o3 30 (.fldA 4 (tp 1)) 29 true [],
  o3 31 (.load 1 false (tp 30)) 29 true [],
  o3 32 (.fldA 5 (tp 1)) 29 true [],
  o3 33 (.load 1 false (tp 32)) 29 true [],
  o3 34 (.buildSl (.int .i64) [(.int .i64 0)] 2 [(0, 1, (tp 31)), (1, 1, (tp 33))]) 29 true [],
  o3 35 (.call (.con (.fn 88 [] [])) [(tp 34)]) 29 true [],
  o1 36 (.pick (tp 29) (tp 35) (.con (.d (.bool false)))),
  o1 3 (.mv (tp 36))]) (.seq (.ops false [o1 38 (.bin .eql 0 [] (tp 25) (ci 1)),
  o1 37 (.mv (tp 38))])
 (.cond (tp 37) (.ops false [o1 39 (.mv (tp 3)),
  o1 40 (.mv (tp 39)),
  o3 41 (.fldA 5 (tp 1)) 40 true [],
  o3 42 (.load 1 false (tp 41)) 40 true [],
  o3 43 (.bin .eql 0 [] (tp 42) (ci 0)) 40 true [],
  o1 44 (.pick (tp 40) (tp 43) (.con (.d (.bool false)))),
  o1 45 (.mv (tp 44)),
  o3 46 (.fldA 4 (tp 1)) 45 true [],
  o3 47 (.load 1 false (tp 46)) 45 true [],
  o3 48 (.bin .geq 0 [] (tp 47) (ci 0)) 45 true [],
  o1 49 (.pick (tp 45) (tp 48) (.con (.d (.bool false)))),
  o1 50 (.mv (tp 49)),
  o3 51 (.fldA 4 (tp 1)) 50 true [],
  o3 52 (.load 1 false (tp 51)) 50 true [],
  o3 53 (.bin .lss 0 [] (tp 52) (ci 8)) 50 true [],
  o1 54 (.pick (tp 50) (tp 53) (.con (.d (.bool false)))),
  o1 3 (.mv (tp 54))]) (.seq (.ops false [o1 56 (.bin .eql 0 [] (tp 25) (ci 2)),
  o1 55 (.mv (tp 56))])
 (.cond (tp 55) (.ops false [o1 57 (.mv (tp 3)),
  o1 58 (.mv (tp 57)),
  o3 59 (.fldA 4 (tp 1)) 58 true [],
  o3 60 (.load 1 false (tp 59)) 58 true [],
  o3 61 (.bin .eql 0 [] (tp 60) (ci 0)) 58 true [],
  o1 62 (.pick (tp 58) (tp 61) (.con (.d (.bool false)))),
  o1 63 (.mv (tp 62)),
  o3 64 (.fldA 5 (tp 1)) 63 true [],
  o3 65 (.load 1 false (tp 64)) 63 true [],
  o3 66 (.bin .geq 0 [] (tp 65) (ci 1)) 63 true [],
  o1 67 (.pick (tp 63) (tp 66) (.con (.d (.bool false)))),
  o1 68 (.mv (tp 67)),
  o3 69 (.fldA 5 (tp 1)) 68 true [],
  o3 70 (.load 1 false (tp 69)) 68 true [],
  o3 71 (.bin .leq 0 [] (tp 70) (ci 9)) 68 true [],
  o1 72 (.pick (tp 68) (tp 71) (.con (.d (.bool false)))),
  o1 3 (.mv (tp 72))]) (.seq (.ops false [o1 74 (.bin .eql 0 [] (tp 25) (ci 4)),
  o1 73 (.mv (tp 74))])
 (.cond (tp 73) (.ops false [o1 75 (.mv (tp 3)),
  o1 76 (.mv (tp 75)),
  o3 77 (.fldA 5 (tp 1)) 76 true [],
  o3 78 (.load 1 false (tp 77)) 76 true [],
  o3 79 (.bin .eql 0 [] (tp 78) (ci 0)) 76 true [],
  o1 80 (.pick (tp 76) (tp 79) (.con (.d (.bool false)))),
  o1 81 (.mv (tp 80)),
  o3 82 (.fldA 4 (tp 1)) 81 true [],
  o3 83 (.load 1 false (tp 82)) 81 true [],
  o3 84 (.bin .eql 0 [] (tp 83) (ci 0)) 81 true [],
  o3 85 (.mv (tp 84)) 81 true [],
  o3 86 (.fldA 4 (tp 1)) 85 false [],
  o3 87 (.load 1 false (tp 86)) 85 false [],
  o3 88 (.bin .eql 0 [] (tp 87) (ci 1)) 85 false [],
  o3 89 (.pick (tp 85) (.con (.d (.bool true))) (tp 88)) 81 true [],
  o1 90 (.pick (tp 81) (tp 89) (.con (.d (.bool false)))),
  o1 3 (.mv (tp 90))]) (.seq (.ops false [o1 92 (.bin .eql 0 [] (tp 25) (ci 3)),
  o1 91 (.mv (tp 92))])
 (.cond (tp 91) (.ops false [o1 93 (.fldA 4 (tp 1)),
  o1 94 (.load 1 false (tp 93)),
  o1 95 (.fldA 5 (tp 1)),
  o1 96 (.load 1 false (tp 95)),
  o1 97 (.buildSl (.int .i64) [(.int .i64 0)] 2 [(0, 1, (tp 94)), (1, 1, (tp 96))]),
  o1 98 (.call (.con (.fn 88 [] [])) [(tp 97)]),
  o1 99 (.mv (tp 98)),
  o3 100 (.fldA 6 (tp 1)) 99 true [],
  o3 101 (.load 2 true (tp 100)) 99 true [],
  o3 102 (.call (.con (.fn 32 [] [])) [(tp 101)]) 99 true [],
  o3 103 (.bin .eql 0 [] (tp 102) (ci 0)) 99 true [],
  o1 104 (.pick (tp 99) (tp 103) (.con (.d (.bool false)))),
  o1 3 (.mv (tp 104))]) (.skip)))))))))))))
 (.seq (.seq (.ops false [o1 105 (.mv (tp 3)),
  o1 106 (.un .not (tp 105)),
  o1 107 (.mv (tp 106)),
  o3 108 (.fldA 0 (tp 1)) 107 false [],
  o3 109 (.load 1 false (tp 108)) 107 false [],
  o3 110 (.bin .eql 0 [] (tp 109) (ci 2)) 107 false [],
  o3 111 (.mv (tp 110)) 107 false [],
  o3 112 (.fldA 1 (tp 1)) 111 true [],
  o3 113 (.fldA 2 (tp 112)) 111 true [],
  o3 114 (.load 1 false (tp 113)) 111 true [],
  o3 115 (.len 1 (tp 114)) 111 true [],
  o3 116 (.bin .eql 0 [] (tp 115) (ci 0)) 111 true [],
  o3 117 (.pick (tp 111) (tp 116) (.con (.d (.bool false)))) 107 false [],
  o1 118 (.pick (tp 107) (.con (.d (.bool true))) (tp 117))])
 (.cond (tp 118) (.seq (.ops false [o1 2 (.mv (ci 140))])
 (.ret)) (.skip)))
 (.seq (.ops false [o1 2 (.mv (ci 0))])
 (.ret))))))⟩
/-- entente/ident.Cmp -/
def c52 : AFn := ⟨22, [.tmp 4], .seq (.ops false [o1 2 (.box (tp 0)),
  o1 3 (.box (tp 1)),
  o1 4 (.mv (ci 0))])
 (.seq (.ops true [o1 5 (.fldA 0 (tp 2)),
  o2 6 (.load 1 false (tp 5)) [0],
  o1 7 (.fldA 0 (tp 3)),
  o2 8 (.load 1 false (tp 7)) [2],
  o2 9 (.call (.con (.fn 90 [] [])) [(tp 6), (tp 8)]) [1, 3],
  o1 10 (.fldA 1 (tp 2)),
  o2 11 (.load 1 false (tp 10)) [5],
  o1 12 (.fldA 1 (tp 3)),
  o2 13 (.load 1 false (tp 12)) [7],
  o2 14 (.call (.con (.fn 90 [] [])) [(tp 11), (tp 13)]) [4, 6, 8],
  o1 15 (.fldA 2 (tp 2)),
  o2 16 (.load 1 false (tp 15)) [10],
  o1 17 (.fldA 2 (tp 3)),
  o2 18 (.load 1 false (tp 17)) [12],
  o2 19 (.call (.con (.fn 91 [] [])) [(tp 16), (tp 18), (.con (.fn 92 [] []))]) [9, 11, 13],
  o2 20 (.buildSl (.int .i64) [(.int .i64 0)] 3 [(0, 1, (tp 9)), (1, 1, (tp 14)), (2, 1, (tp 19))]) [4, 9, 14],
  o2 21 (.call (.con (.fn 89 [] [])) [(tp 20)]) [14, 15],
  o2 4 (.mv (tp 21)) [0, 1, 2, 3, 4, 5, 6, 7, 8, 9, 10, 11, 12, 13, 14, 15, 16]])
 (.ret))⟩
/-- entente/saga.copied -/
def c53 : AFn := ⟨20, [.cell 2 9 true], .seq (.ops false [o1 1 (.box (tp 0)),
  o1 2 (.alloc [(.int .i64 0), (.int .i64 0), (.sl hA true []), (.str []), (.sl hB true []), (.int .i64 0), (.int .i64 0), (.sl hA true []), (.bool false)])])
 (.seq (.ops false [o1 3 (.fldA 0 (tp 1)),
  o1 4 (.fldA 2 (tp 3)),
  o1 5 (.load 1 false (tp 4)),
  o1 6 (.call (.con (.fn 43 [] [])) [(tp 5)]),
  o1 7 (.fldA 0 (tp 1)),
  o1 8 (.fldA 2 (tp 7)),
  ⟨none, .store 1 (tp 8) (tp 6), none, []⟩])
 (.seq (.ops false [o1 9 (.fldA 3 (tp 1)),
  o1 10 (.fldA 1 (tp 9)),
  o1 11 (.load 1 false (tp 10)),
  o1 12 (.call (.con (.fn 62 [] [])) [(tp 11)]),
  o1 13 (.fldA 3 (tp 1)),
  o1 14 (.fldA 1 (tp 13)),
  ⟨none, .store 1 (tp 14) (tp 12), none, []⟩])
 (.seq (.ops false [o1 15 (.fldA 7 (tp 1)),
  o1 16 (.load 1 false (tp 15)),
  o1 17 (.call (.con (.fn 93 [] [])) [(tp 16)]),
  o1 18 (.fldA 7 (tp 1)),
  ⟨none, .store 1 (tp 18) (tp 17), none, []⟩])
 (.seq (.ops false [o1 19 (.load 9 true (tp 1)),
  ⟨none, .store 9 (tp 2) (tp 19), none, []⟩])
 (.ret)))))⟩
/-- (*entente/saga.holder).makes -/
def c54 : AFn := ⟨52, [.tmp 4], .seq (.ops false [o1 3 (.box (tp 1)),
  o1 4 (.mv (.con (.d (.bool false))))])
 (.seq (.seq (.ops false [o1 5 (.mv (tp 0)),
  o1 6 (.nilck (tp 5)),
  o1 7 (.fldA 0 (tp 6)),
  o1 8 (.fldA 5 (tp 7)),
  o1 9 (.load 1 false (tp 8)),
  o1 10 (.bin .eql 0 [] (tp 9) (ci 7)),
  o1 11 (.mv (tp 10)),
  o3 12 (.fldA 0 (tp 3)) 11 false [],
  o3 13 (.load 1 false (tp 12)) 11 false [],
  o3 14 (.bin .eql 0 [] (tp 13) (ci 1)) 11 false [],
  o1 15 (.pick (tp 11) (.con (.d (.bool true))) (tp 14)),
  o1 16 (.mv (tp 15)),
  o3 17 (.fldA 0 (tp 3)) 16 false [],
  o3 18 (.load 1 false (tp 17)) 16 false [],
  o3 19 (.bin .eql 0 [] (tp 18) (ci 2)) 16 false [],
  o1 20 (.pick (tp 16) (.con (.d (.bool true))) (tp 19))])
 (.cond (tp 20) (.seq (.ops false [o1 4 (.mv (.con (.d (.bool false))))])
 (.ret)) (.skip)))
 (.seq (.seq (.ops false [o1 21 (.fldA 0 (tp 3)),
  o1 22 (.load 1 false (tp 21))])
 (.block 0 (.seq (.seq (.ops false [o1 24 (.bin .eql 0 [] (tp 22) (ci 8)),
  o1 23 (.mv (tp 24))])
 (.cond (tp 23) (.skip) (.seq (.ops false [o1 25 (.bin .eql 0 [] (tp 22) (ci 9)),
  o1 23 (.mv (tp 25))])
 (.cond (tp 23) (.skip) (.seq (.ops false [o1 26 (.bin .eql 0 [] (tp 22) (ci 10)),
  o1 23 (.mv (tp 26))])
 (.cond (tp 23) (.skip) (.seq (.ops false [o1 27 (.bin .eql 0 [] (tp 22) (ci 13)),
  o1 23 (.mv (tp 27))])
 (.cond (tp 23) (.skip) (.seq (.ops false [o1 28 (.bin .eql 0 [] (tp 22) (ci 14)),
  o1 23 (.mv (tp 28))])
 (.cond (tp 23) (.skip) (.ops false [o1 29 (.bin .eql 0 [] (tp 22) (ci 16)),
  o1 23 (.mv (tp 29))])))))))))))
 (.cond (tp 23) (.seq (.ops false [o1 30 (.mv (tp 0)),
  o1 31 (.load 8 true (tp 3)),
  o1 32 (.call (.con (.fn 94 [] [])) [(tp 30), (tp 31)]),
  o1 4 (.mv (tp 32))])
 (.ret)) (.skip)))))
 (.seq (.seq (.ops true [o1 33 (.fldA 4 (tp 3)),
  o2 34 (.load 1 false (tp 33)) [0],
  o1 35 (.mv (tp 0)),
  o2 36 (.nilck (tp 35)) [2],
  o2 37 (.fldA 0 (tp 36)) [3],
  o2 38 (.fldA 7 (tp 37)) [4],
  o2 39 (.load 1 false (tp 38)) [5],
  o2 40 (.len 1 (tp 39)) [6],
  o2 41 (.bin .geq 0 [] (tp 34) (tp 40)) [1, 7]])
 (.cond (tp 41) (.seq (.ops false [o1 4 (.mv (.con (.d (.bool false))))])
 (.ret)) (.skip)))
 (.seq (.seq (.ops false [o1 42 (.mv (tp 0)),
  o1 43 (.fldA 4 (tp 3)),
  o1 44 (.load 1 false (tp 43)),
  o1 45 (.call (.con (.fn 48 [] [])) [(tp 42), (tp 44)])])
 (.cond (tp 45) (.seq (.ops false [o1 46 (.mv (tp 0)),
  o1 47 (.load 8 true (tp 3)),
  o1 48 (.call (.con (.fn 95 [] [])) [(tp 46), (tp 47)]),
  o1 4 (.mv (tp 48))])
 (.ret)) (.skip)))
 (.seq (.ops false [o1 49 (.mv (tp 0)),
  o1 50 (.load 8 true (tp 3)),
  o1 51 (.call (.con (.fn 96 [] [])) [(tp 49), (tp 50)]),
  o1 4 (.mv (tp 51))])
 (.ret))))))⟩
/-- entente/next.at[int] -/
def c55 : AFn := ⟨19, [.tmp 4], .seq (.ops false [o1 4 (.mv (ci 0))])
 (.seq (.ops false [o1 5 (.mv (ci 0))])
 (.seq (.seq (.ops false [o1 6 (.mv (tp 1)),
  o1 7 (.bin .lss 0 [] (tp 6) (ci 0)),
  o1 8 (.mv (tp 7)),
  o3 9 (.mv (tp 1)) 8 false [],
  o3 10 (.mv (tp 0)) 8 false [],
  o3 11 (.len 1 (tp 10)) 8 false [],
  o3 12 (.bin .geq 0 [] (tp 9) (tp 11)) 8 false [],
  o1 13 (.pick (tp 8) (.con (.d (.bool true))) (tp 12))])
 (.cond (tp 13) (.seq (.ops false [o1 14 (.mv (tp 5)),
  o1 4 (.mv (tp 14))])
 (.ret)) (.skip)))
 (.seq (.ops false [o1 15 (.mv (tp 0)),
  o1 16 (.mv (tp 1)),
  o1 17 (.ixS (.int .i64) (tp 15) (tp 16)),
  o1 18 (.load 1 false (tp 17)),
  o1 4 (.mv (tp 18))])
 (.ret))))⟩
/-- (*entente/saga.holder).some -/
def c56 : AFn := ⟨9, [.tmp 4], .seq (.ops false [o1 2 (.box (tp 0)),
  o1 3 (.box (tp 1)),
  o1 4 (.mv (.con (.d (.bool false))))])
 (.seq (.ops false [o1 5 (.load 1 false (tp 2)),
  o1 6 (.mkF 97 [] [(tp 2), (tp 3)]),
  o1 7 (.call (.con (.fn 46 [] [])) [(tp 5), (tp 6)]),
  o1 8 (.un .not (tp 7)),
  o1 4 (.mv (tp 8))])
 (.ret))⟩
/-- slices.Clone[[]entente/api.Step,entente/api.Step] -/
def c62 : AFn := ⟨8, [.tmp 2], .seq (.ops false [o1 2 (.mv (.con (.d (.sl hB true []))))])
 (.seq (.seq (.ops false [o1 3 (.mv (tp 0)),
  o1 4 (.bin .eql 3 [] (tp 3) (.con (.d (.sl hB true []))))])
 (.cond (tp 4) (.seq (.ops false [o1 2 (.mv (.con (.d (.sl hB true []))))])
 (.ret)) (.skip)))
 (.seq (.ops false [o1 5 (.buildSl hB [(.int .i64 0), (.str []), (.int .i64 0), (.int .i64 0), (.str []), (.int .i64 0), (.int .i64 0)] 0 []),
  o1 6 (.mv (tp 0)),
  o1 7 (.appd hB (tp 5) (tp 6)),
  o1 2 (.mv (tp 7))])
 (.ret)))⟩
/-- entente/act.Name -/
def c63 : AFn := ⟨45, [.tmp 2], .seq (.ops false [o1 2 (.mv (.con (.d (.bool false))))])
 (.seq (.seq (.ops false [o1 5 (.mv (tp 0)),
  o1 6 (.bin .eql 0 [] (tp 5) (.con (.d (.str [])))),
  o1 7 (.mv (tp 6)),
  o3 8 (.mv (tp 0)) 7 false [],
  o3 9 (.len 0 (tp 8)) 7 false [],
  o3 10 (.bin .gtr 0 [] (tp 9) (ci 16)) 7 false [],
  o1 11 (.pick (tp 7) (.con (.d (.bool true))) (tp 10)),
  o1 12 (.mv (tp 11)),
  o3 13 (.mv (tp 0)) 12 false [],
  o3 14 (.ixStr (tp 13) (ci 0)) 12 false [],
  o3 15 (.bin .lss 0 [] (tp 14) (.con (.d (.int .u8 97)))) 12 false [],
  o1 16 (.pick (tp 12) (.con (.d (.bool true))) (tp 15)),
  o1 17 (.mv (tp 16)),
  o3 18 (.mv (tp 0)) 17 false [],
  o3 19 (.ixStr (tp 18) (ci 0)) 17 false [],
  o3 20 (.bin .gtr 0 [] (tp 19) (.con (.d (.int .u8 122)))) 17 false [],
  o1 21 (.pick (tp 17) (.con (.d (.bool true))) (tp 20))])
 (.cond (tp 21) (.seq (.ops false [o1 2 (.mv (.con (.d (.bool false))))])
 (.ret)) (.skip)))
 (.seq (.seq (.ops false [o1 22 (.mv (tp 0)),
  o1 23 (.len 0 (tp 22)),
  o1 24 (.mv (ci 0))])
 (.block 0 (.loop 0 (some ([0, 23, 24], [0, 1, 2, 3, 4, 5, 6, 7])) (.seq (.ops false [o1 25 (.bin .lss 0 [] (tp 24) (tp 23))])
 (.seq (.cond (tp 25) (.skip) (.exit 0))
 (.seq (.block 1 (.seq (.ops false [o1 26 (.mv (tp 24)),
  o1 3 (.mv (tp 26))])
 (.seq (.ops false [o1 27 (.mv (tp 0)),
  o1 28 (.mv (tp 3)),
  o1 29 (.ixStr (tp 27) (tp 28)),
  o1 4 (.mv (tp 29))])
 (.seq (.ops false [o1 30 (.mv (tp 4)),
  o1 31 (.bin .lss 0 [] (tp 30) (.con (.d (.int .u8 97)))),
  o1 32 (.mv (tp 31)),
  o3 33 (.mv (tp 4)) 32 false [],
  o3 34 (.bin .gtr 0 [] (tp 33) (.con (.d (.int .u8 122)))) 32 false [],
  o1 35 (.pick (tp 32) (.con (.d (.bool true))) (tp 34)),
  o1 36 (.mv (tp 35)),
  o3 37 (.mv (tp 4)) 36 true [],
  o3 38 (.bin .lss 0 [] (tp 37) (.con (.d (.int .u8 48)))) 36 true [],
  o3 39 (.mv (tp 38)) 36 true [],
  o3 40 (.mv (tp 4)) 39 false [],
  o3 41 (.bin .gtr 0 [] (tp 40) (.con (.d (.int .u8 57)))) 39 false [],
  o3 42 (.pick (tp 39) (.con (.d (.bool true))) (tp 41)) 36 true [],
  o1 43 (.pick (tp 36) (tp 42) (.con (.d (.bool false))))])
 (.cond (tp 43) (.seq (.ops false [o1 2 (.mv (.con (.d (.bool false))))])
 (.ret)) (.skip))))))
 (.ops false [o1 44 (.bin .add 0 [] (tp 24) (ci 1)),
  o1 24 (.mv (tp 44))])))))))
 (.seq (.ops false [o1 2 (.mv (.con (.d (.bool true))))])
 (.ret))))⟩
/-- slices.ContainsFunc[[]entente/api.Step,entente/api.Step] -/
def c64 : AFn := ⟨9, [.tmp 4], .seq (.ops false [o1 4 (.mv (.con (.d (.bool false))))])
 (.seq (.ops false [o1 5 (.mv (tp 0)),
  o1 6 (.mv (tp 1)),
  o1 7 (.call (.con (.fn 102 [] [])) [(tp 5), (tp 6)]),
  o1 8 (.bin .geq 0 [] (tp 7) (ci 0)),
  o1 4 (.mv (tp 8))])
 (.ret))⟩
/-- entente/def.Check$1 -/
def c65 : AFn := ⟨11, [.tmp 2], .seq (.ops false [o1 1 (.box (tp 0)),
  o1 2 (.mv (.con (.d (.bool false))))])
 (.seq (.ops false [o1 3 (.load 7 true (tp 1)),
  o1 4 (.call (.con (.fn 66 [] [])) [(tp 3)]),
  o1 5 (.un .not (tp 4)),
  o1 6 (.mv (tp 5)),
  o3 7 (.load 7 true (tp 1)) 6 true [],
  o3 8 (.call (.con (.fn 67 [] [])) [(tp 7)]) 6 true [],
  o3 9 (.un .not (tp 8)) 6 true [],
  o1 10 (.pick (tp 6) (tp 9) (.con (.d (.bool false)))),
  o1 2 (.mv (tp 10))])
 (.ret))⟩
/-- entente/def.own -/
def c66 : AFn := ⟨32, [.tmp 2], .seq (.ops false [o1 1 (.box (tp 0)),
  o1 2 (.mv (.con (.d (.bool false))))])
 (.seq (.ops false [o1 3 (.fldA 4 (tp 1)),
  o1 4 (.load 1 false (tp 3)),
  o1 5 (.bin .eql 0 [] (tp 4) (.con (.d (.str [])))),
  o1 6 (.mv (tp 5)),
  o3 7 (.fldA 0 (tp 1)) 6 true [],
  o3 8 (.load 3 true (tp 7)) 6 true [],
  o3 9 (.call (.con (.fn 103 [] [])) [(tp 8)]) 6 true [],
  o3 10 (.bin .eql 0 [] (tp 9) (ci 0)) 6 true [],
  o1 11 (.pick (tp 6) (tp 10) (.con (.d (.bool false)))),
  o1 12 (.mv (tp 11)),
  o3 13 (.fldA 3 (tp 1)) 12 true [],
  o3 14 (.load 1 false (tp 13)) 12 true [],
  o3 15 (.bin .eql 0 [] (tp 14) (ci 0)) 12 true [],
  o1 16 (.pick (tp 12) (tp 15) (.con (.d (.bool false)))),
  o1 17 (.mv (tp 16)),
  o3 18 (.fldA 6 (tp 1)) 17 true [],
  o3 19 (.load 1 false (tp 18)) 17 true [],
  o3 20 (.bin .eql 0 [] (tp 19) (ci 0)) 17 true [],
  o1 21 (.pick (tp 17) (tp 20) (.con (.d (.bool false)))),
  o1 22 (.mv (tp 21)),
  o3 23 (.fldA 5 (tp 1)) 22 true [],
  o3 24 (.load 1 false (tp 23)) 22 true [],
  o3 25 (.bin .geq 0 [] (tp 24) (ci 1)) 22 true [],
  o1 26 (.pick (tp 22) (tp 25) (.con (.d (.bool false)))),
  o1 27 (.mv (tp 26)),
  o3 28 (.fldA 5 (tp 1)) 27 true [],
  o3 29 (.load 1 false (tp 28)) 27 true [],
  o3 30 (.bin .leq 0 [] (tp 29) (ci 5)) 27 true [],
  o1 31 (.pick (tp 27) (tp 30) (.con (.d (.bool false)))),
  o1 2 (.mv (tp 31))])
 (.ret))⟩
/-- entente/def.asks -/
def c67 : AFn := ⟨37, [.tmp 2], .seq (.ops false [o1 1 (.box (tp 0)),
  o1 2 (.mv (.con (.d (.bool false))))])
 (.seq (.ops false [o1 3 (.fldA 4 (tp 1)),
  o1 4 (.load 1 false (tp 3)),
  o1 5 (.call (.con (.fn 63 [] [])) [(tp 4)]),
  o1 6 (.mv (tp 5)),
  o3 7 (.fldA 0 (tp 1)) 6 true [],
  o3 8 (.load 3 true (tp 7)) 6 true [],
  o3 9 (.build [(.int .i64 0), (.str []), (.int .i64 0)] []) 6 true [],
  o3 10 (.bin .eql 6 [(.int .i64), .str, (.int .i64)] (tp 8) (tp 9)) 6 true [],
  o1 11 (.pick (tp 6) (tp 10) (.con (.d (.bool false)))),
  o1 12 (.mv (tp 11)),
  o3 13 (.fldA 5 (tp 1)) 12 true [],
  o3 14 (.load 1 false (tp 13)) 12 true [],
  o3 15 (.bin .eql 0 [] (tp 14) (ci 0)) 12 true [],
  o1 16 (.pick (tp 12) (tp 15) (.con (.d (.bool false)))),
  o1 17 (.mv (tp 16)),
  o3 18 (.fldA 3 (tp 1)) 17 true [],
  o3 19 (.load 1 false (tp 18)) 17 true [],
  o3 20 (.bin .geq 0 [] (tp 19) (ci 0)) 17 true [],
  o1 21 (.pick (tp 17) (tp 20) (.con (.d (.bool false)))),
  o1 22 (.mv (tp 21)),
  o3 23 (.fldA 3 (tp 1)) 22 true [],
  o3 24 (.load 1 false (tp 23)) 22 true [],
  o3 25 (.bin .lss 0 [] (tp 24) (ci 16)) 22 true [],
  o1 26 (.pick (tp 22) (tp 25) (.con (.d (.bool false)))),
  o1 27 (.mv (tp 26)),
  o3 28 (.fldA 6 (tp 1)) 27 true [],
  o3 29 (.load 1 false (tp 28)) 27 true [],
  o3 30 (.bin .geq 0 [] (tp 29) (ci 1)) 27 true [],
  o1 31 (.pick (tp 27) (tp 30) (.con (.d (.bool false)))),
  o1 32 (.mv (tp 31)),
  o3 33 (.fldA 6 (tp 1)) 32 true [],
  o3 34 (.load 1 false (tp 33)) 32 true [],
  o3 35 (.bin .leq 0 [] (tp 34) (ci 50)) 32 true [],
  o1 36 (.pick (tp 32) (tp 35) (.con (.d (.bool false)))),
  o1 2 (.mv (tp 36))])
 (.ret))⟩
/-- entente/ident.Show -/
def c71 : AFn := ⟨41, [.tmp 2, .tmp 3], .seq (.ops false [o1 1 (.box (tp 0)),
  o1 2 (.mv (.con (.d (.str [])))),
  o1 3 (.mv (ci 0))])
 (.seq (.seq (.ops false [o1 8 (.load 3 true (tp 1)),
  o1 9 (.call (.con (.fn 44 [] [])) [(tp 8)]),
  o1 4 (.mv (tp 9))])
 (.seq (.ops false [o1 10 (.mv (tp 4)),
  o1 11 (.bin .neq 0 [] (tp 10) (ci 0))])
 (.cond (tp 11) (.seq (.ops false [o1 12 (.mv (tp 4)),
  o1 2 (.mv (.con (.d (.str [])))),
  o1 3 (.mv (tp 12))])
 (.ret)) (.skip))))
 (.seq (.ops true [o1 13 (.fldA 0 (tp 1)),
  o2 14 (.load 1 false (tp 13)) [0],
  o2 15 (.call (.con (.fn 72 [] [])) [(tp 14)]) [1],
  o2 16 (.bin .add 0 [] (tp 15) (.con (.d (.str [46])))) [2],
  o1 17 (.fldA 1 (tp 1)),
  o2 18 (.load 1 false (tp 17)) [4],
  o2 19 (.call (.con (.fn 72 [] [])) [(tp 18)]) [2, 5],
  o2 20 (.bin .add 0 [] (tp 16) (tp 19)) [3, 6],
  o2 5 (.mv (tp 20)) [0, 1, 2, 3, 4, 5, 6, 7]])
 (.seq (.seq (.ops false [o1 21 (.fldA 2 (tp 1)),
  o1 22 (.load 1 false (tp 21)),
  o1 23 (.len 1 (tp 22)),
  o1 24 (.mv (ci 0))])
 (.block 0 (.loop 0 (some ([5, 22, 23, 24], [0, 1, 2, 3, 4, 5, 6, 7, 128, 129, 130, 131, 160, 161, 640, 641, 642, 643, 672, 673, 1024, 1025, 1026, 1027, 1056, 1057, 1280, 1281, 1282, 1283, 1312, 1313])) (.seq (.ops false [o1 25 (.bin .lss 0 [] (tp 24) (tp 23))])
 (.seq (.cond (tp 25) (.skip) (.exit 0))
 (.seq (.block 1 (.seq (.ops false [o1 26 (.ixS hA (tp 22) (tp 24)),
  o1 27 (.load 2 true (tp 26)),
  o1 7 (.alloc [(.int .i64 0), (.int .i64 0)]),
  ⟨none, .store 2 (tp 7) (tp 27), none, []⟩])
 (.ops true [o1 28 (.mv (tp 5)),
  o1 29 (.fldA 0 (tp 7)),
  o2 30 (.load 1 false (tp 29)) [1],
  o2 31 (.call (.con (.fn 72 [] [])) [(tp 30)]) [2],
  o2 32 (.bin .add 0 [] (.con (.d (.str [47]))) (tp 31)) [3],
  o2 33 (.bin .add 0 [] (tp 32) (.con (.d (.str [64])))) [4],
  o1 34 (.fldA 1 (tp 7)),
  o2 35 (.load 1 false (tp 34)) [6],
  o2 36 (.call (.con (.fn 72 [] [])) [(tp 35)]) [3, 7],
  o2 37 (.bin .add 0 [] (tp 33) (tp 36)) [5, 8],
  o2 38 (.bin .add 0 [] (tp 28) (tp 37)) [0, 9],
  o2 5 (.mv (tp 38)) [0, 1, 2, 3, 4, 5, 6, 7, 8, 9, 10]])))
 (.ops false [o1 39 (.bin .add 0 [] (tp 24) (ci 1)),
  o1 24 (.mv (tp 39))])))))))
 (.seq (.ops false [o1 40 (.mv (tp 5)),
  o1 2 (.mv (tp 40)),
  o1 3 (.mv (ci 0))])
 (.ret)))))⟩
/-- strconv.Itoa -/
def c72 : AFn := ⟨5, [.tmp 2], .seq (.ops false [o1 2 (.mv (.con (.d (.str []))))])
 (.seq (.ops false [o1 3 (.mv (tp 0)),
  o1 4 (.call (.con (.fn 107 [] [])) [(tp 3)]),
  o1 2 (.mv (tp 4))])
 (.ret))⟩
/-- entente/next.at[string] -/
def c73 : AFn := ⟨19, [.tmp 4], .seq (.ops false [o1 4 (.mv (.con (.d (.str []))))])
 (.seq (.ops false [o1 5 (.mv (.con (.d (.str []))))])
 (.seq (.seq (.ops false [o1 6 (.mv (tp 1)),
  o1 7 (.bin .lss 0 [] (tp 6) (ci 0)),
  o1 8 (.mv (tp 7)),
  o3 9 (.mv (tp 1)) 8 false [],
  o3 10 (.mv (tp 0)) 8 false [],
  o3 11 (.len 1 (tp 10)) 8 false [],
  o3 12 (.bin .geq 0 [] (tp 9) (tp 11)) 8 false [],
  o1 13 (.pick (tp 8) (.con (.d (.bool true))) (tp 12))])
 (.cond (tp 13) (.seq (.ops false [o1 14 (.mv (tp 5)),
  o1 4 (.mv (tp 14))])
 (.ret)) (.skip)))
 (.seq (.ops false [o1 15 (.mv (tp 0)),
  o1 16 (.mv (tp 1)),
  o1 17 (.ixS .str (tp 15) (tp 16)),
  o1 18 (.load 1 false (tp 17)),
  o1 4 (.mv (tp 18))])
 (.ret))))⟩
/-- slices.IndexFunc[[]entente/api.Part,entente/api.Part] -/
def c74 : AFn := ⟨19, [.tmp 4], .seq (.ops false [o1 4 (.mv (ci 0))])
 (.seq (.seq (.ops false [o1 6 (.mv (tp 0)),
  o1 7 (.len 1 (tp 6)),
  o1 8 (.mv (ci 0))])
 (.block 0 (.loop 0 (some ([0, 1, 7, 8], [0, 1, 2, 3, 4, 5, 6, 7])) (.seq (.ops false [o1 9 (.bin .lss 0 [] (tp 8) (tp 7))])
 (.seq (.cond (tp 9) (.skip) (.exit 0))
 (.seq (.block 1 (.seq (.ops false [o1 10 (.mv (tp 8)),
  o1 5 (.mv (tp 10))])
 (.seq (.ops false [o1 11 (.mv (tp 1)),
  o1 12 (.mv (tp 0)),
  o1 13 (.mv (tp 5)),
  o1 14 (.ixS hA (tp 12) (tp 13)),
  o1 15 (.load 2 true (tp 14)),
  o1 16 (.call (tp 11) [(tp 15)])])
 (.cond (tp 16) (.seq (.ops false [o1 17 (.mv (tp 5)),
  o1 4 (.mv (tp 17))])
 (.ret)) (.skip)))))
 (.ops false [o1 18 (.bin .add 0 [] (tp 8) (ci 1)),
  o1 8 (.mv (tp 18))])))))))
 (.seq (.ops false [o1 4 (.mv (ci (-1)))])
 (.ret)))⟩
/-- entente/next.step -/
def c75 : AFn := ⟨9, [.cell 4 8 true, .tmp 5], .seq (.ops false [o1 4 (.alloc [(.int .i64 0), (.int .i64 0), (.int .i64 0), (.sl hA true []), (.int .i64 0), (.int .i64 0), (.str []), (.sl hB true [])]),
  o1 5 (.mv (.con (.d (.bool false))))])
 (.seq (.ops false [o1 6 (.mv (tp 0)),
  o1 7 (.mv (tp 1)),
  o1 8 (.build [(.int .i64 0), (.int .i64 0), (.int .i64 0), (.sl hA true []), (.int .i64 0), (.int .i64 0), (.str []), (.sl hB true [])] [(0, 1, (tp 6)), (4, 1, (tp 7))]),
  ⟨none, .store 8 (tp 4) (tp 8), none, []⟩,
  o1 5 (.mv (.con (.d (.bool true))))])
 (.ret))⟩
/-- entente/ident.path -/
def c76 : AFn := ⟨23, [.tmp 2], .seq (.ops false [o1 1 (.box (tp 0)),
  o1 2 (.mv (.con (.d (.sl (.int .i64) true []))))])
 (.seq (.ops false [o1 6 (.fldA 0 (tp 1)),
  o1 7 (.load 1 false (tp 6)),
  o1 8 (.buildSl (.int .i64) [(.int .i64 0)] 1 [(0, 1, (tp 7))]),
  o1 3 (.mv (tp 8))])
 (.seq (.seq (.ops false [o1 9 (.fldA 2 (tp 1)),
  o1 10 (.load 1 false (tp 9)),
  o1 11 (.len 1 (tp 10)),
  o1 12 (.mv (ci 0))])
 (.block 0 (.loop 0 (some ([3, 10, 11, 12], [0, 1, 2, 3, 4, 5, 6, 7, 128, 129, 130, 131, 160, 161, 576, 577, 578, 579, 608, 609, 1344, 1345, 1346, 1347, 1376, 1377])) (.seq (.ops false [o1 13 (.bin .lss 0 [] (tp 12) (tp 11))])
 (.seq (.cond (tp 13) (.skip) (.exit 0))
 (.seq (.block 1 (.seq (.ops false [o1 14 (.ixS hA (tp 10) (tp 12)),
  o1 15 (.load 2 true (tp 14)),
  o1 5 (.alloc [(.int .i64 0), (.int .i64 0)]),
  ⟨none, .store 2 (tp 5) (tp 15), none, []⟩])
 (.ops false [o1 16 (.mv (tp 3)),
  o1 17 (.fldA 1 (tp 5)),
  o1 18 (.load 1 false (tp 17)),
  o1 19 (.buildSl (.int .i64) [(.int .i64 0)] 1 [(0, 1, (tp 18))]),
  o1 20 (.appd (.int .i64) (tp 16) (tp 19)),
  o1 3 (.mv (tp 20))])))
 (.ops false [o1 21 (.bin .add 0 [] (tp 12) (ci 1)),
  o1 12 (.mv (tp 21))])))))))
 (.seq (.ops false [o1 22 (.mv (tp 3)),
  o1 2 (.mv (tp 22))])
 (.ret))))⟩
/-- slices.ContainsFunc[[]entente/api.Hop,entente/api.Hop] -/
def c77 : AFn := ⟨9, [.tmp 4], .seq (.ops false [o1 4 (.mv (.con (.d (.bool false))))])
 (.seq (.ops false [o1 5 (.mv (tp 0)),
  o1 6 (.mv (tp 1)),
  o1 7 (.call (.con (.fn 108 [] [])) [(tp 5), (tp 6)]),
  o1 8 (.bin .geq 0 [] (tp 7) (ci 0)),
  o1 4 (.mv (tp 8))])
 (.ret))⟩
/-- entente/ident.Check$1 -/
def c78 : AFn := ⟨11, [.tmp 2], .seq (.ops false [o1 1 (.box (tp 0)),
  o1 2 (.mv (.con (.d (.bool false))))])
 (.seq (.ops false [o1 3 (.fldA 0 (tp 1)),
  o1 4 (.load 1 false (tp 3)),
  o1 5 (.bin .lss 0 [] (tp 4) (ci 0)),
  o1 6 (.mv (tp 5)),
  o3 7 (.fldA 0 (tp 1)) 6 false [],
  o3 8 (.load 1 false (tp 7)) 6 false [],
  o3 9 (.bin .geq 0 [] (tp 8) (ci 8)) 6 false [],
  o1 10 (.pick (tp 6) (.con (.d (.bool true))) (tp 9)),
  o1 2 (.mv (tp 10))])
 (.ret))⟩
/-- (*entente/saga.holder).running -/
def c79 : AFn := ⟨22, [.tmp 2], .seq (.ops false [o1 2 (.mv (.con (.d (.bool false))))])
 (.seq (.ops false [o1 3 (.mv (ci 0))])
 (.seq (.block 0 (.loop 0 (some ([0, 3], [0, 1, 2, 3, 4, 5, 6, 7, 1408, 1409, 1410, 1411, 1440, 1441])) (.seq (.seq (.ops false [o1 4 (.mv (tp 3)),
  o1 5 (.mv (tp 0)),
  o1 6 (.nilck (tp 5)),
  o1 7 (.fldA 0 (tp 6)),
  o1 8 (.fldA 7 (tp 7)),
  o1 9 (.load 1 false (tp 8)),
  o1 10 (.len 1 (tp 9)),
  o1 11 (.bin .lss 0 [] (tp 4) (tp 10)),
  o1 12 (.mv (tp 11)),
  o3 13 (.mv (tp 0)) 12 true [],
  o3 14 (.mv (tp 3)) 12 true [],
  o3 15 (.call (.con (.fn 80 [] [])) [(tp 13), (tp 14)]) 12 true [],
  o1 16 (.pick (tp 12) (tp 15) (.con (.d (.bool false))))])
 (.cond (tp 16) (.skip) (.exit 0)))
 (.block 1 (.ops false [o1 17 (.mv (tp 3)),
  o1 18 (.bin .add 0 [] (tp 17) (ci 1)),
  o1 3 (.mv (tp 18))])))))
 (.seq (.ops false [o1 19 (.mv (tp 0)),
  o1 20 (.mv (tp 3)),
  o1 21 (.call (.con (.fn 109 [] [])) [(tp 19), (tp 20)]),
  o1 2 (.mv (tp 21))])
 (.ret))))⟩
/-- (*entente/saga.holder).got -/
def c80 : AFn := ⟨20, [.tmp 4], .seq (.ops false [o1 4 (.mv (.con (.d (.bool false))))])
 (.seq (.ops false [o1 5 (.mv (tp 0)),
  o1 6 (.mv (tp 1)),
  o1 7 (.buildSl (.int .i64) [(.int .i64 0)] 1 [(0, 1, (ci 2))]),
  o1 8 (.call (.con (.fn 82 [] [])) [(tp 5), (tp 6), (tp 7)]),
  o1 9 (.mv (tp 8)),
  o3 10 (.mv (tp 0)) 9 false [],
  o3 11 (.mv (tp 1)) 9 false [],
  o3 12 (.call (.con (.fn 48 [] [])) [(tp 10), (tp 11)]) 9 false [],
  o3 13 (.mv (tp 12)) 9 false [],
  o3 14 (.mv (tp 0)) 13 true [],
  o3 15 (.mv (tp 1)) 13 true [],
  o3 16 (.buildSl (.int .i64) [(.int .i64 0)] 1 [(0, 1, (ci 3))]) 13 true [],
  o3 17 (.call (.con (.fn 82 [] [])) [(tp 14), (tp 15), (tp 16)]) 13 true [],
  o3 18 (.pick (tp 13) (tp 17) (.con (.d (.bool false)))) 9 false [],
  o1 19 (.pick (tp 9) (.con (.d (.bool true))) (tp 18)),
  o1 4 (.mv (tp 19))])
 (.ret))⟩
/-- (*entente/saga.holder).fits$1 -/
def c81 : AFn := ⟨14, [.tmp 3], .seq (.ops false [o1 3 (.mv (.con (.d (.bool false))))])
 (.seq (.ops false [o1 4 (.load 1 false (tp 1)),
  o1 5 (.mv (tp 0)),
  o1 6 (.call (.con (.fn 48 [] [])) [(tp 4), (tp 5)]),
  o1 7 (.mv (tp 6)),
  o3 8 (.load 1 false (tp 1)) 7 false [],
  o3 9 (.mv (tp 0)) 7 false [],
  o3 10 (.buildSl (.int .i64) [(.int .i64 0)] 1 [(0, 1, (ci 2))]) 7 false [],
  o3 11 (.call (.con (.fn 82 [] [])) [(tp 8), (tp 9), (tp 10)]) 7 false [],
  o3 12 (.un .not (tp 11)) 7 false [],
  o1 13 (.pick (tp 7) (.con (.d (.bool true))) (tp 12)),
  o1 3 (.mv (tp 13))])
 (.ret))⟩
/-- (*entente/saga.holder).stands -/
def c82 : AFn := ⟨18, [.tmp 6], .seq (.ops false [o1 6 (.mv (.con (.d (.bool false))))])
 (.seq (.ops false [o1 7 (.mv (tp 2)),
  o1 8 (.mv (tp 0)),
  o1 9 (.nilck (tp 8)),
  o1 10 (.fldA 0 (tp 9)),
  o1 11 (.fldA 7 (tp 10)),
  o1 12 (.load 1 false (tp 11)),
  o1 13 (.mv (tp 1)),
  o1 14 (.ixS hA (tp 12) (tp 13)),
  o1 15 (.fldA 0 (tp 14)),
  o1 16 (.load 1 false (tp 15)),
  o1 17 (.call (.con (.fn 110 [] [])) [(tp 7), (tp 16)]),
  o1 6 (.mv (tp 17))])
 (.ret))⟩
/-- (*entente/saga.holder).fits$2 -/
def c83 : AFn := ⟨19, [.tmp 3], .seq (.ops false [o1 3 (.mv (.con (.d (.bool false))))])
 (.seq (.ops false [o1 4 (.load 1 false (tp 1)),
  o1 5 (.mv (tp 0)),
  o1 6 (.buildSl (.int .i64) [(.int .i64 0)] 1 [(0, 1, (ci 4))]),
  o1 7 (.call (.con (.fn 82 [] [])) [(tp 4), (tp 5), (tp 6)]),
  o1 8 (.mv (tp 7)),
  o3 9 (.load 1 false (tp 1)) 8 false [],
  o3 10 (.mv (tp 0)) 8 false [],
  o3 11 (.call (.con (.fn 48 [] [])) [(tp 9), (tp 10)]) 8 false [],
  o3 12 (.mv (tp 11)) 8 false [],
  o3 13 (.load 1 false (tp 1)) 12 true [],
  o3 14 (.mv (tp 0)) 12 true [],
  o3 15 (.buildSl (.int .i64) [(.int .i64 0)] 1 [(0, 1, (ci 2))]) 12 true [],
  o3 16 (.call (.con (.fn 82 [] [])) [(tp 13), (tp 14), (tp 15)]) 12 true [],
  o3 17 (.pick (tp 12) (tp 16) (.con (.d (.bool false)))) 8 false [],
  o1 18 (.pick (tp 8) (.con (.d (.bool true))) (tp 17)),
  o1 3 (.mv (tp 18))])
 (.ret))⟩
/-- (*entente/saga.holder).fits$3 -/
def c84 : AFn := ⟨14, [.tmp 3], .seq (.ops false [o1 3 (.mv (.con (.d (.bool false))))])
 (.seq (.ops false [o1 4 (.load 1 false (tp 1)),
  o1 5 (.mv (tp 0)),
  o1 6 (.call (.con (.fn 48 [] [])) [(tp 4), (tp 5)]),
  o1 7 (.mv (tp 6)),
  o3 8 (.load 1 false (tp 1)) 7 false [],
  o3 9 (.mv (tp 0)) 7 false [],
  o3 10 (.buildSl (.int .i64) [(.int .i64 0)] 2 [(0, 1, (ci 2)), (1, 1, (ci 4))]) 7 false [],
  o3 11 (.call (.con (.fn 82 [] [])) [(tp 8), (tp 9), (tp 10)]) 7 false [],
  o3 12 (.un .not (tp 11)) 7 false [],
  o1 13 (.pick (tp 7) (.con (.d (.bool true))) (tp 12)),
  o1 3 (.mv (tp 13))])
 (.ret))⟩
/-- (*entente/saga.holder).current$1 -/
def c85 : AFn := ⟨6, [.tmp 2], .seq (.ops false [o1 1 (.box (tp 0)),
  o1 2 (.mv (.con (.d (.bool false))))])
 (.seq (.ops false [o1 3 (.fldA 0 (tp 1)),
  o1 4 (.load 1 false (tp 3)),
  o1 5 (.bin .neq 0 [] (tp 4) (ci 2)),
  o1 2 (.mv (tp 5))])
 (.ret))⟩
/-- entente/record.noDef -/
def c86 : AFn := ⟨12, [.tmp 2], .seq (.ops false [o1 1 (.box (tp 0)),
  o1 2 (.mv (.con (.d (.bool false))))])
 (.seq (.ops false [o1 3 (.fldA 0 (tp 1)),
  o1 4 (.load 1 false (tp 3)),
  o1 5 (.bin .eql 0 [] (tp 4) (.con (.d (.str [])))),
  o1 6 (.mv (tp 5)),
  o3 7 (.fldA 1 (tp 1)) 6 true [],
  o3 8 (.load 1 false (tp 7)) 6 true [],
  o3 9 (.len 1 (tp 8)) 6 true [],
  o3 10 (.bin .eql 0 [] (tp 9) (ci 0)) 6 true [],
  o1 11 (.pick (tp 6) (tp 10) (.con (.d (.bool false)))),
  o1 2 (.mv (tp 11))])
 (.ret))⟩
/-- entente/record.kinds -/
def c87 : AFn := ⟨19, [.cell 0 34 true], .seq (.ops false [o1 0 (.allocA (.agg [.str, (.int .i64)]) [(.str []), (.int .i64 0), (.str []), (.int .i64 0), (.str []), (.int .i64 0), (.str []), (.int .i64 0), (.str []), (.int .i64 0), (.str []), (.int .i64 0), (.str []), (.int .i64 0), (.str []), (.int .i64 0), (.str []), (.int .i64 0), (.str []), (.int .i64 0), (.str []), (.int .i64 0), (.str []), (.int .i64 0), (.str []), (.int .i64 0), (.str []), (.int .i64 0), (.str []), (.int .i64 0), (.str []), (.int .i64 0), (.str []), (.int .i64 0)] 17)])
 (.seq (.ops false [o1 1 (.build [(.str []), (.int .i64 0)] []),
  o1 2 (.build [(.str []), (.int .i64 0)] [(0, 1, (.con (.d (.str [98, 101, 103, 105, 110])))), (1, 1, (ci 3))]),
  o1 3 (.build [(.str []), (.int .i64 0)] [(0, 1, (.con (.d (.str [114, 101, 102, 117, 115, 101])))), (1, 1, (ci 2))]),
  o1 4 (.build [(.str []), (.int .i64 0)] [(0, 1, (.con (.d (.str [102, 97, 105, 108])))), (1, 1, (ci 1))]),
  o1 5 (.build [(.str []), (.int .i64 0)] [(0, 1, (.con (.d (.str [100, 111])))), (1, 1, (ci 1))]),
  o1 6 (.build [(.str []), (.int .i64 0)] [(0, 1, (.con (.d (.str [97, 115, 107])))), (1, 1, (ci 1))]),
  o1 7 (.build [(.str []), (.int .i64 0)] [(0, 1, (.con (.d (.str [103, 111, 116])))), (1, 1, (ci 1))]),
  o1 8 (.build [(.str []), (.int .i64 0)] [(0, 1, (.con (.d (.str [108, 111, 115, 116])))), (1, 1, (ci 1))]),
  o1 9 (.build [(.str []), (.int .i64 0)] [(0, 1, (.con (.d (.str [104, 111, 108, 100])))), (1, 1, (ci 0))]),
  o1 10 (.build [(.str []), (.int .i64 0)] [(0, 1, (.con (.d (.str [99, 111, 109, 109, 105, 116])))), (1, 1, (ci 0))]),
  o1 11 (.build [(.str []), (.int .i64 0)] [(0, 1, (.con (.d (.str [98, 97, 99, 107])))), (1, 1, (ci 2))]),
  o1 12 (.build [(.str []), (.int .i64 0)] [(0, 1, (.con (.d (.str [117, 110, 100, 111])))), (1, 1, (ci 1))]),
  o1 13 (.build [(.str []), (.int .i64 0)] [(0, 1, (.con (.d (.str [106, 97, 109])))), (1, 1, (ci 1))]),
  o1 14 (.build [(.str []), (.int .i64 0)] [(0, 1, (.con (.d (.str [97, 103, 97, 105, 110])))), (1, 1, (ci 0))]),
  o1 15 (.build [(.str []), (.int .i64 0)] [(0, 1, (.con (.d (.str [101, 110, 100])))), (1, 1, (ci 0))]),
  o1 16 (.build [(.str []), (.int .i64 0)] [(0, 1, (.con (.d (.str [107, 101, 112, 116])))), (1, 1, (ci 1))]),
  o1 17 (.build [(.str []), (.int .i64 0)] [(0, 1, (.con (.d (.str [102, 111, 114, 99, 101])))), (1, 1, (ci 4))]),
  o1 18 (.build [(.str []), (.int .i64 0), (.str []), (.int .i64 0), (.str []), (.int .i64 0), (.str []), (.int .i64 0), (.str []), (.int .i64 0), (.str []), (.int .i64 0), (.str []), (.int .i64 0), (.str []), (.int .i64 0), (.str []), (.int .i64 0), (.str []), (.int .i64 0), (.str []), (.int .i64 0), (.str []), (.int .i64 0), (.str []), (.int .i64 0), (.str []), (.int .i64 0), (.str []), (.int .i64 0), (.str []), (.int .i64 0), (.str []), (.int .i64 0)] [(0, 2, (tp 1)), (2, 2, (tp 2)), (4, 2, (tp 3)), (6, 2, (tp 4)), (8, 2, (tp 5)), (10, 2, (tp 6)), (12, 2, (tp 7)), (14, 2, (tp 8)), (16, 2, (tp 9)), (18, 2, (tp 10)), (20, 2, (tp 11)), (22, 2, (tp 12)), (24, 2, (tp 13)), (26, 2, (tp 14)), (28, 2, (tp 15)), (30, 2, (tp 16)), (32, 2, (tp 17))]),
  ⟨none, .store 34 (tp 0) (tp 18), none, []⟩])
 (.ret))⟩
/-- entente/record.zero[int] -/
def c88 : AFn := ⟨16, [.tmp 2], .seq (.ops false [o1 2 (.mv (.con (.d (.bool false))))])
 (.seq (.ops false [o1 3 (.mv (ci 0))])
 (.seq (.seq (.ops false [o1 6 (.mv (tp 0)),
  o1 7 (.len 1 (tp 6)),
  o1 8 (.mv (ci 0))])
 (.block 0 (.loop 0 (some ([3, 6, 7, 8], [0, 1, 2, 3, 4, 5, 6, 7])) (.seq (.ops false [o1 9 (.bin .lss 0 [] (tp 8) (tp 7))])
 (.seq (.cond (tp 9) (.skip) (.exit 0))
 (.seq (.block 1 (.seq (.ops false [o1 10 (.ixS (.int .i64) (tp 6) (tp 8)),
  o1 11 (.load 1 false (tp 10)),
  o1 5 (.mv (tp 11))])
 (.seq (.ops false [o1 12 (.mv (tp 5)),
  o1 13 (.mv (tp 3)),
  o1 14 (.bin .neq 0 [] (tp 12) (tp 13))])
 (.cond (tp 14) (.seq (.ops false [o1 2 (.mv (.con (.d (.bool false))))])
 (.ret)) (.skip)))))
 (.ops false [o1 15 (.bin .add 0 [] (tp 8) (ci 1)),
  o1 8 (.mv (tp 15))])))))))
 (.seq (.ops false [o1 2 (.mv (.con (.d (.bool true))))])
 (.ret))))⟩
/-- cmp.Or[int] -/
def c89 : AFn := ⟨18, [.tmp 2], .seq (.ops false [o1 2 (.mv (ci 0))])
 (.seq (.ops false [o1 3 (.mv (ci 0))])
 (.seq (.seq (.ops false [o1 6 (.mv (tp 0)),
  o1 7 (.len 1 (tp 6)),
  o1 8 (.mv (ci 0))])
 (.block 0 (.loop 0 (some ([3, 6, 7, 8], [0, 1, 2, 3, 4, 5, 6, 7])) (.seq (.ops false [o1 9 (.bin .lss 0 [] (tp 8) (tp 7))])
 (.seq (.cond (tp 9) (.skip) (.exit 0))
 (.seq (.block 1 (.seq (.ops false [o1 10 (.ixS (.int .i64) (tp 6) (tp 8)),
  o1 11 (.load 1 false (tp 10)),
  o1 5 (.mv (tp 11))])
 (.seq (.ops false [o1 12 (.mv (tp 5)),
  o1 13 (.mv (tp 3)),
  o1 14 (.bin .neq 0 [] (tp 12) (tp 13))])
 (.cond (tp 14) (.seq (.ops false [o1 15 (.mv (tp 5)),
  o1 2 (.mv (tp 15))])
 (.ret)) (.skip)))))
 (.ops false [o1 16 (.bin .add 0 [] (tp 8) (ci 1)),
  o1 8 (.mv (tp 16))])))))))
 (.seq (.ops false [o1 17 (.mv (tp 3)),
  o1 2 (.mv (tp 17))])
 (.ret))))⟩
/-- cmp.Compare[int] -/
def c90 : AFn := ⟨20, [.tmp 4], .seq (.ops false [o1 4 (.mv (ci 0))])
 (.seq (.ops false [o1 7 (.mv (tp 0)),
  o1 8 (.call (.con (.fn 111 [] [])) [(tp 7)]),
  o1 5 (.mv (tp 8))])
 (.seq (.ops false [o1 9 (.mv (tp 1)),
  o1 10 (.call (.con (.fn 111 [] [])) [(tp 9)]),
  o1 6 (.mv (tp 10))])
 (.seq (.seq (.ops false [o1 11 (.mv (tp 5))])
 (.cond (tp 11) (.seq (.seq (.ops false [o1 12 (.mv (tp 6))])
 (.cond (tp 12) (.seq (.ops false [o1 4 (.mv (ci 0))])
 (.ret)) (.skip)))
 (.seq (.ops false [o1 4 (.mv (ci (-1)))])
 (.ret))) (.skip)))
 (.seq (.seq (.ops false [o1 13 (.mv (tp 6))])
 (.cond (tp 13) (.seq (.ops false [o1 4 (.mv (ci 1))])
 (.ret)) (.skip)))
 (.seq (.seq (.ops false [o1 14 (.mv (tp 0)),
  o1 15 (.mv (tp 1)),
  o1 16 (.bin .lss 0 [] (tp 14) (tp 15))])
 (.cond (tp 16) (.seq (.ops false [o1 4 (.mv (ci (-1)))])
 (.ret)) (.skip)))
 (.seq (.seq (.ops false [o1 17 (.mv (tp 0)),
  o1 18 (.mv (tp 1)),
  o1 19 (.bin .gtr 0 [] (tp 17) (tp 18))])
 (.cond (tp 19) (.seq (.ops false [o1 4 (.mv (ci 1))])
 (.ret)) (.skip)))
 (.seq (.ops false [o1 4 (.mv (ci 0))])
 (.ret))))))))⟩
/-- slices.CompareFunc[[]entente/api.Hop,[]entente/api.Hop,entente/api.Hop,entente/api.Hop] -/
def c91 : AFn := ⟨39, [.tmp 6], .seq (.ops false [o1 6 (.mv (ci 0))])
 (.seq (.seq (.ops false [o1 11 (.mv (tp 0)),
  o1 12 (.len 1 (tp 11)),
  o1 13 (.mv (ci 0))])
 (.block 0 (.loop 0 (some ([0, 1, 2, 11, 12, 13], [0, 1, 2, 3, 4, 5, 6, 7])) (.seq (.ops false [o1 14 (.bin .lss 0 [] (tp 13) (tp 12))])
 (.seq (.cond (tp 14) (.skip) (.exit 0))
 (.seq (.block 1 (.seq (.ops false [o1 15 (.mv (tp 13)),
  o1 16 (.ixS hA (tp 11) (tp 13)),
  o1 17 (.load 2 true (tp 16)),
  o1 8 (.alloc [(.int .i64 0), (.int .i64 0)]),
  o1 7 (.mv (tp 15)),
  ⟨none, .store 2 (tp 8) (tp 17), none, []⟩])
 (.seq (.seq (.ops false [o1 18 (.mv (tp 7)),
  o1 19 (.mv (tp 1)),
  o1 20 (.len 1 (tp 19)),
  o1 21 (.bin .geq 0 [] (tp 18) (tp 20))])
 (.cond (tp 21) (.seq (.ops false [o1 6 (.mv (ci 1))])
 (.ret)) (.skip)))
 (.seq (.ops false [o1 22 (.mv (tp 1)),
  o1 23 (.mv (tp 7)),
  o1 24 (.ixS hA (tp 22) (tp 23)),
  o1 25 (.load 2 true (tp 24)),
  o1 9 (.alloc [(.int .i64 0), (.int .i64 0)]),
  ⟨none, .store 2 (tp 9) (tp 25), none, []⟩])
 (.seq (.ops false [o1 26 (.mv (tp 2)),
  o1 27 (.load 2 true (tp 8)),
  o1 28 (.load 2 true (tp 9)),
  o1 29 (.call (tp 26) [(tp 27), (tp 28)]),
  o1 10 (.mv (tp 29))])
 (.seq (.ops false [o1 30 (.mv (tp 10)),
  o1 31 (.bin .neq 0 [] (tp 30) (ci 0))])
 (.cond (tp 31) (.seq (.ops false [o1 32 (.mv (tp 10)),
  o1 6 (.mv (tp 32))])
 (.ret)) (.skip))))))))
 (.ops false [o1 33 (.bin .add 0 [] (tp 13) (ci 1)),
  o1 13 (.mv (tp 33))])))))))
 (.seq (.seq (.ops false [o1 34 (.mv (tp 0)),
  o1 35 (.len 1 (tp 34)),
  o1 36 (.mv (tp 1)),
  o1 37 (.len 1 (tp 36)),
  o1 38 (.bin .lss 0 [] (tp 35) (tp 37))])
 (.cond (tp 38) (.seq (.ops false [o1 6 (.mv (ci (-1)))])
 (.ret)) (.skip)))
 (.seq (.ops false [o1 6 (.mv (ci 0))])
 (.ret))))⟩
/-- entente/ident.Cmp$1 -/
def c92 : AFn := ⟨17, [.tmp 4], .seq (.ops false [o1 2 (.box (tp 0)),
  o1 3 (.box (tp 1)),
  o1 4 (.mv (ci 0))])
 (.seq (.ops true [o1 5 (.fldA 0 (tp 2)),
  o2 6 (.load 1 false (tp 5)) [0],
  o1 7 (.fldA 0 (tp 3)),
  o2 8 (.load 1 false (tp 7)) [2],
  o2 9 (.call (.con (.fn 90 [] [])) [(tp 6), (tp 8)]) [1, 3],
  o1 10 (.fldA 1 (tp 2)),
  o2 11 (.load 1 false (tp 10)) [5],
  o1 12 (.fldA 1 (tp 3)),
  o2 13 (.load 1 false (tp 12)) [7],
  o2 14 (.call (.con (.fn 90 [] [])) [(tp 11), (tp 13)]) [4, 6, 8],
  o2 15 (.buildSl (.int .i64) [(.int .i64 0)] 2 [(0, 1, (tp 9)), (1, 1, (tp 14))]) [4, 9],
  o2 16 (.call (.con (.fn 89 [] [])) [(tp 15)]) [9, 10],
  o2 4 (.mv (tp 16)) [0, 1, 2, 3, 4, 5, 6, 7, 8, 9, 10, 11]])
 (.ret))⟩
/-- slices.Clone[[]entente/api.Part,entente/api.Part] -/
def c93 : AFn := ⟨8, [.tmp 2], .seq (.ops false [o1 2 (.mv (.con (.d (.sl hA true []))))])
 (.seq (.seq (.ops false [o1 3 (.mv (tp 0)),
  o1 4 (.bin .eql 3 [] (tp 3) (.con (.d (.sl hA true []))))])
 (.cond (tp 4) (.seq (.ops false [o1 2 (.mv (.con (.d (.sl hA true []))))])
 (.ret)) (.skip)))
 (.seq (.ops false [o1 5 (.buildSl hA [(.int .i64 0), (.int .i64 0)] 0 []),
  o1 6 (.mv (tp 0)),
  o1 7 (.appd hA (tp 5) (tp 6)),
  o1 2 (.mv (tp 7))])
 (.ret)))⟩
/-- (*entente/saga.holder).whole -/
def c94 : AFn := ⟨143, [.tmp 4], .seq (.ops false [o1 3 (.box (tp 1)),
  o1 4 (.mv (.con (.d (.bool false))))])
 (.seq (.ops true [o1 8 (.mv (tp 0)),
  o2 9 (.nilck (tp 8)) [0],
  o2 10 (.fldA 0 (tp 9)) [1],
  o2 11 (.fldA 5 (tp 10)) [2],
  o2 12 (.load 1 false (tp 11)) [3],
  o2 13 (.bin .eql 0 [] (tp 12) (ci 1)) [4],
  o1 14 (.mv (tp 0)),
  o2 15 (.nilck (tp 14)) [6],
  o2 16 (.fldA 0 (tp 15)) [7],
  o2 17 (.fldA 5 (tp 16)) [8],
  o2 18 (.load 1 false (tp 17)) [9],
  o2 19 (.bin .eql 0 [] (tp 18) (ci 2)) [10],
  o2 5 (.mv (tp 13)) [0, 1, 2, 3, 4, 5],
  o2 6 (.mv (tp 19)) [0, 1, 2, 3, 4, 5, 6, 7, 8, 9, 10, 11, 12]])
 (.seq (.ops false [o1 20 (.mv (tp 0)),
  o1 21 (.nilck (tp 20)),
  o1 22 (.fldA 0 (tp 21)),
  o1 23 (.fldA 0 (tp 22)),
  o1 24 (.fldA 2 (tp 23)),
  o1 25 (.load 1 false (tp 24)),
  o1 26 (.len 1 (tp 25)),
  o1 27 (.bin .gtr 0 [] (tp 26) (ci 0)),
  o1 7 (.mv (tp 27))])
 (.seq (.seq (.ops false [o1 28 (.fldA 0 (tp 3)),
  o1 29 (.load 1 false (tp 28))])
 (.block 0 (.seq (.ops false [o1 31 (.bin .eql 0 [] (tp 29) (ci 8)),
  o1 30 (.mv (tp 31))])
 (.cond (tp 30) (.seq (.ops false [o1 32 (.mv (tp 5)),
  o1 33 (.mv (tp 32)),
  o3 34 (.mv (tp 7)) 33 true [],
  o1 35 (.pick (tp 33) (tp 34) (.con (.d (.bool false)))),
  o1 36 (.mv (tp 35)),
  o3 37 (.mv (tp 0)) 36 true [],
  o3 38 (.call (.con (.fn 112 [] [])) [(tp 37)]) 36 true [],
  o1 39 (.pick (tp 36) (tp 38) (.con (.d (.bool false)))),
  o1 40 (.mv (tp 39)),
  o3 41 (.mv (tp 0)) 40 true [],
  o3 42 (.call (.con (.fn 113 [] [])) [(tp 41), (ci 2), (ci 0)]) 40 true [],
  o1 43 (.pick (tp 40) (tp 42) (.con (.d (.bool false)))),
  o1 4 (.mv (tp 43))])
 (.ret)) (.seq (.ops false [o1 45 (.bin .eql 0 [] (tp 29) (ci 9)),
  o1 44 (.mv (tp 45))])
 (.cond (tp 44) (.seq (.seq (.ops false [o1 46 (.mv (tp 5)),
  o1 47 (.mv (tp 46)),
  o3 48 (.mv (tp 7)) 47 true [],
  o3 49 (.un .not (tp 48)) 47 true [],
  o1 50 (.pick (tp 47) (tp 49) (.con (.d (.bool false)))),
  o1 51 (.mv (tp 50)),
  o3 52 (.mv (tp 6)) 51 false [],
  o1 53 (.pick (tp 51) (.con (.d (.bool true))) (tp 52)),
  o1 54 (.un .not (tp 53)),
  o1 55 (.mv (tp 54)),
  o3 56 (.mv (tp 0)) 55 false [],
  o3 57 (.call (.con (.fn 112 [] [])) [(tp 56)]) 55 false [],
  o3 58 (.un .not (tp 57)) 55 false [],
  o1 59 (.pick (tp 55) (.con (.d (.bool true))) (tp 58))])
 (.cond (tp 59) (.seq (.ops false [o1 4 (.mv (.con (.d (.bool false))))])
 (.ret)) (.skip)))
 (.seq (.ops false [o1 60 (.mv (tp 0)),
  o1 61 (.call (.con (.fn 114 [] [])) [(tp 60), (ci 4)])])
 (.seq (.ops false [o1 62 (.mv (tp 0)),
  o1 63 (.call (.con (.fn 113 [] [])) [(tp 62), (ci 3), (ci 0)]),
  o1 4 (.mv (tp 63))])
 (.ret)))) (.seq (.ops false [o1 65 (.bin .eql 0 [] (tp 29) (ci 10)),
  o1 64 (.mv (tp 65))])
 (.cond (tp 64) (.seq (.seq (.ops false [o1 66 (.mv (tp 5)),
  o1 67 (.un .not (tp 66)),
  o1 68 (.mv (tp 67)),
  o3 69 (.mv (tp 6)) 68 true [],
  o3 70 (.mv (tp 69)) 68 true [],
  o3 71 (.fldA 5 (tp 3)) 70 true [],
  o3 72 (.load 1 false (tp 71)) 70 true [],
  o3 73 (.bin .eql 0 [] (tp 72) (ci 7)) 70 true [],
  o3 74 (.mv (tp 73)) 70 true [],
  o3 75 (.fldA 5 (tp 3)) 74 false [],
  o3 76 (.load 1 false (tp 75)) 74 false [],
  o3 77 (.bin .eql 0 [] (tp 76) (ci 5)) 74 false [],
  o3 78 (.mv (tp 77)) 74 false [],
  o3 79 (.mv (tp 0)) 78 true [],
  o3 80 (.buildSl (.int .i64) [(.int .i64 0)] 1 [(0, 1, (ci 3))]) 78 true [],
  o3 81 (.call (.con (.fn 56 [] [])) [(tp 79), (tp 80)]) 78 true [],
  o3 82 (.pick (tp 78) (tp 81) (.con (.d (.bool false)))) 74 false [],
  o3 83 (.pick (tp 74) (.con (.d (.bool true))) (tp 82)) 70 true [],
  o3 84 (.pick (tp 70) (tp 83) (.con (.d (.bool false)))) 68 true [],
  o3 85 (.un .not (tp 84)) 68 true [],
  o1 86 (.pick (tp 68) (tp 85) (.con (.d (.bool false))))])
 (.cond (tp 86) (.seq (.ops false [o1 4 (.mv (.con (.d (.bool false))))])
 (.ret)) (.skip)))
 (.seq (.ops false [o1 87 (.mv (tp 0)),
  o1 88 (.call (.con (.fn 115 [] [])) [(tp 87)])])
 (.seq (.ops false [o1 89 (.mv (tp 0)),
  o1 90 (.fldA 5 (tp 3)),
  o1 91 (.load 1 false (tp 90)),
  o1 92 (.call (.con (.fn 113 [] [])) [(tp 89), (ci 4), (tp 91)]),
  o1 4 (.mv (tp 92))])
 (.ret)))) (.seq (.ops false [o1 94 (.bin .eql 0 [] (tp 29) (ci 13)),
  o1 93 (.mv (tp 94))])
 (.cond (tp 93) (.seq (.seq (.ops false [o1 95 (.mv (tp 0)),
  o1 96 (.nilck (tp 95)),
  o1 97 (.fldA 0 (tp 96)),
  o1 98 (.fldA 5 (tp 97)),
  o1 99 (.load 1 false (tp 98)),
  o1 100 (.bin .neq 0 [] (tp 99) (ci 5))])
 (.cond (tp 100) (.seq (.ops false [o1 4 (.mv (.con (.d (.bool false))))])
 (.ret)) (.skip)))
 (.seq (.ops true [o1 101 (.mv (tp 0)),
  o2 102 (.nilck (tp 101)) [0],
  o2 103 (.fldA 0 (tp 102)) [1],
  o2 104 (.fldA 7 (tp 103)) [2],
  o2 105 (.load 1 false (tp 104)) [3],
  o1 106 (.mv (tp 0)),
  o2 107 (.call (.con (.fn 50 [] [])) [(tp 106)]) [5],
  o2 108 (.ixS hA (tp 105) (tp 107)) [0, 1, 2, 3, 4, 5, 6],
  o2 109 (.fldA 1 (tp 108)) [0, 1, 2, 3, 4, 5, 6, 7],
  ⟨none, .store 1 (tp 109) (ci 0), none, [0, 1, 2, 3, 4, 5, 6, 8]⟩])
 (.seq (.ops false [o1 110 (.mv (tp 0)),
  o1 111 (.mv (tp 0)),
  o1 112 (.nilck (tp 111)),
  o1 113 (.fldA 0 (tp 112)),
  o1 114 (.fldA 6 (tp 113)),
  o1 115 (.load 1 false (tp 114)),
  o1 116 (.call (.con (.fn 113 [] [])) [(tp 110), (ci 4), (tp 115)]),
  o1 4 (.mv (tp 116))])
 (.ret)))) (.seq (.ops false [o1 118 (.bin .eql 0 [] (tp 29) (ci 14)),
  o1 117 (.mv (tp 118))])
 (.cond (tp 117) (.seq (.ops false [o1 119 (.mv (tp 0)),
  o1 120 (.nilck (tp 119)),
  o1 121 (.fldA 0 (tp 120)),
  o1 122 (.fldA 5 (tp 121)),
  o1 123 (.load 1 false (tp 122)),
  o1 124 (.bin .eql 0 [] (tp 123) (ci 4)),
  o1 125 (.mv (tp 124)),
  o3 126 (.mv (tp 0)) 125 true [],
  o3 127 (.call (.con (.fn 50 [] [])) [(tp 126)]) 125 true [],
  o3 128 (.bin .lss 0 [] (tp 127) (ci 0)) 125 true [],
  o1 129 (.pick (tp 125) (tp 128) (.con (.d (.bool false)))),
  o1 130 (.mv (tp 129)),
  o3 131 (.mv (tp 0)) 130 true [],
  o3 132 (.mv (tp 0)) 130 true [],
  o3 133 (.nilck (tp 132)) 130 true [],
  o3 134 (.fldA 0 (tp 133)) 130 true [],
  o3 135 (.fldA 6 (tp 134)) 130 true [],
  o3 136 (.load 1 false (tp 135)) 130 true [],
  o3 137 (.call (.con (.fn 113 [] [])) [(tp 131), (ci 6), (tp 136)]) 130 true [],
  o1 138 (.pick (tp 130) (tp 137) (.con (.d (.bool false)))),
  o1 4 (.mv (tp 138))])
 (.ret)) (.skip)))))))))))))
 (.seq (.ops false [o1 139 (.mv (tp 0)),
  o1 140 (.fldA 4 (tp 3)),
  o1 141 (.load 1 false (tp 140)),
  o1 142 (.call (.con (.fn 116 [] [])) [(tp 139), (tp 141)]),
  o1 4 (.mv (tp 142))])
 (.ret)))))⟩
/-- (*entente/saga.holder).child -/
def c95 : AFn := ⟨120, [.tmp 4], .seq (.ops false [o1 3 (.box (tp 1)),
  o1 4 (.mv (.con (.d (.bool false))))])
 (.seq (.ops false [o1 9 (.fldA 4 (tp 3)),
  o1 10 (.load 1 false (tp 9)),
  o1 5 (.mv (tp 10))])
 (.seq (.ops false [o1 11 (.mv (tp 0)),
  o1 12 (.nilck (tp 11)),
  o1 13 (.fldA 0 (tp 12)),
  o1 14 (.fldA 7 (tp 13)),
  o1 15 (.load 1 false (tp 14)),
  o1 16 (.mv (tp 5)),
  o1 17 (.ixS hA (tp 15) (tp 16)),
  o1 18 (.fldA 1 (tp 17)),
  o1 19 (.load 1 false (tp 18)),
  o1 6 (.mv (tp 19))])
 (.seq (.ops false [o1 20 (.mv (tp 0)),
  o1 21 (.nilck (tp 20)),
  o1 22 (.fldA 0 (tp 21)),
  o1 23 (.fldA 5 (tp 22)),
  o1 24 (.load 1 false (tp 23)),
  o1 25 (.bin .eql 0 [] (tp 24) (ci 1)),
  o1 26 (.mv (tp 25)),
  o3 27 (.mv (tp 5)) 26 true [],
  o3 28 (.mv (tp 0)) 26 true [],
  o3 29 (.call (.con (.fn 50 [] [])) [(tp 28)]) 26 true [],
  o3 30 (.bin .eql 0 [] (tp 27) (tp 29)) 26 true [],
  o1 31 (.pick (tp 26) (tp 30) (.con (.d (.bool false)))),
  o1 7 (.mv (tp 31))])
 (.seq (.seq (.ops false [o1 32 (.fldA 0 (tp 3)),
  o1 33 (.load 1 false (tp 32))])
 (.block 0 (.seq (.ops false [o1 35 (.bin .eql 0 [] (tp 33) (ci 5)),
  o1 34 (.mv (tp 35))])
 (.cond (tp 34) (.seq (.ops false [o1 36 (.mv (tp 7)),
  o1 37 (.mv (tp 36)),
  o3 38 (.mv (tp 0)) 37 true [],
  o3 39 (.mv (tp 5)) 37 true [],
  o3 40 (.buildSl (.int .i64) [(.int .i64 0)] 1 [(0, 1, (ci 0))]) 37 true [],
  o3 41 (.call (.con (.fn 82 [] [])) [(tp 38), (tp 39), (tp 40)]) 37 true [],
  o1 42 (.pick (tp 37) (tp 41) (.con (.d (.bool false)))),
  o1 43 (.mv (tp 42)),
  o3 44 (.mv (tp 0)) 43 true [],
  o3 45 (.mv (tp 5)) 43 true [],
  o3 46 (.mv (tp 6)) 43 true [],
  o3 47 (.call (.con (.fn 117 [] [])) [(tp 44), (tp 45), (ci 1), (tp 46)]) 43 true [],
  o1 48 (.pick (tp 43) (tp 47) (.con (.d (.bool false)))),
  o1 4 (.mv (tp 48))])
 (.ret)) (.seq (.ops false [o1 50 (.bin .eql 0 [] (tp 33) (ci 6)),
  o1 49 (.mv (tp 50))])
 (.cond (tp 49) (.seq (.ops false [o1 51 (.mv (tp 7)),
  o1 52 (.mv (tp 51)),
  o3 53 (.mv (tp 0)) 52 true [],
  o3 54 (.mv (tp 5)) 52 true [],
  o3 55 (.buildSl (.int .i64) [(.int .i64 0)] 1 [(0, 1, (ci 1))]) 52 true [],
  o3 56 (.call (.con (.fn 82 [] [])) [(tp 53), (tp 54), (tp 55)]) 52 true [],
  o1 57 (.pick (tp 52) (tp 56) (.con (.d (.bool false)))),
  o1 58 (.mv (tp 57)),
  o3 59 (.mv (tp 0)) 58 true [],
  o3 60 (.mv (tp 5)) 58 true [],
  o3 61 (.mv (tp 6)) 58 true [],
  o3 62 (.call (.con (.fn 117 [] [])) [(tp 59), (tp 60), (ci 2), (tp 61)]) 58 true [],
  o1 63 (.pick (tp 58) (tp 62) (.con (.d (.bool false)))),
  o1 4 (.mv (tp 63))])
 (.ret)) (.seq (.ops false [o1 65 (.bin .eql 0 [] (tp 33) (ci 7)),
  o1 64 (.mv (tp 65))])
 (.cond (tp 64) (.seq (.ops false [o1 66 (.mv (tp 0)),
  o1 67 (.nilck (tp 66)),
  o1 68 (.fldA 0 (tp 67)),
  o1 69 (.fldA 8 (tp 68)),
  o1 70 (.load 1 false (tp 69)),
  o1 71 (.mv (tp 70)),
  o3 72 (.mv (tp 0)) 71 false [],
  o3 73 (.nilck (tp 72)) 71 false [],
  o3 74 (.fldA 0 (tp 73)) 71 false [],
  o3 75 (.fldA 5 (tp 74)) 71 false [],
  o3 76 (.load 1 false (tp 75)) 71 false [],
  o3 77 (.bin .neq 0 [] (tp 76) (ci 3)) 71 false [],
  o3 78 (.mv (tp 77)) 71 false [],
  o3 79 (.mv (tp 0)) 78 true [],
  o3 80 (.nilck (tp 79)) 78 true [],
  o3 81 (.fldA 0 (tp 80)) 78 true [],
  o3 82 (.fldA 5 (tp 81)) 78 true [],
  o3 83 (.load 1 false (tp 82)) 78 true [],
  o3 84 (.bin .neq 0 [] (tp 83) (ci 6)) 78 true [],
  o3 85 (.pick (tp 78) (tp 84) (.con (.d (.bool false)))) 71 false [],
  o1 86 (.pick (tp 71) (.con (.d (.bool true))) (tp 85)),
  o1 8 (.mv (tp 86))])
 (.seq (.ops false [o1 87 (.mv (tp 8)),
  o1 88 (.mv (tp 87)),
  o3 89 (.mv (tp 0)) 88 true [],
  o3 90 (.mv (tp 5)) 88 true [],
  o3 91 (.buildSl (.int .i64) [(.int .i64 0)] 2 [(0, 1, (ci 1)), (1, 1, (ci 2))]) 88 true [],
  o3 92 (.call (.con (.fn 82 [] [])) [(tp 89), (tp 90), (tp 91)]) 88 true [],
  o1 93 (.pick (tp 88) (tp 92) (.con (.d (.bool false)))),
  o1 94 (.mv (tp 93)),
  o3 95 (.mv (tp 0)) 94 true [],
  o3 96 (.mv (tp 5)) 94 true [],
  o3 97 (.mv (tp 6)) 94 true [],
  o3 98 (.call (.con (.fn 117 [] [])) [(tp 95), (tp 96), (ci 3), (tp 97)]) 94 true [],
  o1 99 (.pick (tp 94) (tp 98) (.con (.d (.bool false)))),
  o1 4 (.mv (tp 99))])
 (.ret))) (.seq (.ops false [o1 101 (.bin .eql 0 [] (tp 33) (ci 15)),
  o1 100 (.mv (tp 101))])
 (.cond (tp 100) (.seq (.ops false [o1 102 (.mv (tp 0)),
  o1 103 (.nilck (tp 102)),
  o1 104 (.fldA 0 (tp 103)),
  o1 105 (.fldA 5 (tp 104)),
  o1 106 (.load 1 false (tp 105)),
  o1 107 (.bin .eql 0 [] (tp 106) (ci 3)),
  o1 108 (.mv (tp 107)),
  o3 109 (.mv (tp 0)) 108 true [],
  o3 110 (.mv (tp 5)) 108 true [],
  o3 111 (.buildSl (.int .i64) [(.int .i64 0)] 1 [(0, 1, (ci 2))]) 108 true [],
  o3 112 (.call (.con (.fn 82 [] [])) [(tp 109), (tp 110), (tp 111)]) 108 true [],
  o1 113 (.pick (tp 108) (tp 112) (.con (.d (.bool false)))),
  o1 114 (.mv (tp 113)),
  o3 115 (.mv (tp 0)) 114 true [],
  o3 116 (.mv (tp 5)) 114 true [],
  o3 117 (.mv (tp 6)) 114 true [],
  o3 118 (.call (.con (.fn 117 [] [])) [(tp 115), (tp 116), (ci 4), (tp 117)]) 114 true [],
  o1 119 (.pick (tp 114) (tp 118) (.con (.d (.bool false)))),
  o1 4 (.mv (tp 119))])
 (.ret)) (.skip)))))))))))
 (.seq (.ops false [o1 4 (.mv (.con (.d (.bool false))))])
 (.ret))))))⟩
/-- (*entente/saga.holder).local -/
def c96 : AFn := ⟨108, [.tmp 4], .seq (.ops false [o1 3 (.box (tp 1)),
  o1 4 (.mv (.con (.d (.bool false))))])
 (.seq (.ops false [o1 9 (.fldA 4 (tp 3)),
  o1 10 (.load 1 false (tp 9)),
  o1 5 (.mv (tp 10))])
 (.seq (.seq (.ops false [o1 11 (.mv (tp 0)),
  o1 12 (.mv (tp 5)),
  o1 13 (.call (.con (.fn 118 [] [])) [(tp 11), (tp 12)]),
  o1 14 (.un .not (tp 13))])
 (.cond (tp 14) (.seq (.ops false [o1 4 (.mv (.con (.d (.bool false))))])
 (.ret)) (.skip)))
 (.seq (.ops false [o1 15 (.mv (tp 0)),
  o1 16 (.nilck (tp 15)),
  o1 17 (.fldA 0 (tp 16)),
  o1 18 (.fldA 7 (tp 17)),
  o1 19 (.load 1 false (tp 18)),
  o1 20 (.mv (tp 5)),
  o1 21 (.ixS hA (tp 19) (tp 20)),
  o1 22 (.fldA 1 (tp 21)),
  o1 23 (.load 1 false (tp 22)),
  o1 6 (.mv (tp 23))])
 (.seq (.ops true [o1 24 (.mv (tp 0)),
  o2 25 (.nilck (tp 24)) [0],
  o2 26 (.fldA 0 (tp 25)) [1],
  o2 27 (.fldA 5 (tp 26)) [2],
  o2 28 (.load 1 false (tp 27)) [3],
  o2 29 (.bin .eql 0 [] (tp 28) (ci 1)) [4],
  o1 30 (.mv (tp 0)),
  o2 31 (.nilck (tp 30)) [6],
  o2 32 (.fldA 0 (tp 31)) [7],
  o2 33 (.fldA 5 (tp 32)) [8],
  o2 34 (.load 1 false (tp 33)) [9],
  o2 35 (.bin .eql 0 [] (tp 34) (ci 4)) [10],
  o2 7 (.mv (tp 29)) [0, 1, 2, 3, 4, 5],
  o2 8 (.mv (tp 35)) [0, 1, 2, 3, 4, 5, 6, 7, 8, 9, 10, 11, 12]])
 (.seq (.seq (.ops false [o1 36 (.fldA 0 (tp 3)),
  o1 37 (.load 1 false (tp 36))])
 (.block 0 (.seq (.ops false [o1 39 (.bin .eql 0 [] (tp 37) (ci 3)),
  o1 38 (.mv (tp 39))])
 (.cond (tp 38) (.seq (.ops false [o1 40 (.mv (tp 7)),
  o1 41 (.mv (tp 40)),
  o3 42 (.mv (tp 6)) 41 true [],
  o3 43 (.mv (tp 0)) 41 true [],
  o3 44 (.nilck (tp 43)) 41 true [],
  o3 45 (.fldA 0 (tp 44)) 41 true [],
  o3 46 (.fldA 3 (tp 45)) 41 true [],
  o3 47 (.fldA 1 (tp 46)) 41 true [],
  o3 48 (.load 1 false (tp 47)) 41 true [],
  o3 49 (.mv (tp 5)) 41 true [],
  o3 50 (.ixS hB (tp 48) (tp 49)) 41 true [],
  o3 51 (.fldA 5 (tp 50)) 41 true [],
  o3 52 (.load 1 false (tp 51)) 41 true [],
  o3 53 (.bin .lss 0 [] (tp 42) (tp 52)) 41 true [],
  o1 54 (.pick (tp 41) (tp 53) (.con (.d (.bool false)))),
  o1 55 (.mv (tp 54)),
  o3 56 (.mv (tp 8)) 55 false [],
  o3 57 (.mv (tp 56)) 55 false [],
  o3 58 (.mv (tp 6)) 57 true [],
  o3 59 (.bin .lss 0 [] (tp 58) (ci 5)) 57 true [],
  o3 60 (.pick (tp 57) (tp 59) (.con (.d (.bool false)))) 55 false [],
  o1 61 (.pick (tp 55) (.con (.d (.bool true))) (tp 60))])
 (.cond (tp 61) (.seq (.ops false [o1 62 (.mv (tp 0)),
  o1 63 (.mv (tp 5)),
  o1 64 (.mv (tp 0)),
  o1 65 (.nilck (tp 64)),
  o1 66 (.fldA 0 (tp 65)),
  o1 67 (.fldA 7 (tp 66)),
  o1 68 (.load 1 false (tp 67)),
  o1 69 (.mv (tp 5)),
  o1 70 (.ixS hA (tp 68) (tp 69)),
  o1 71 (.fldA 0 (tp 70)),
  o1 72 (.load 1 false (tp 71)),
  o1 73 (.mv (tp 6)),
  o1 74 (.bin .add 0 [] (tp 73) (ci 1)),
  o1 75 (.call (.con (.fn 117 [] [])) [(tp 62), (tp 63), (tp 72), (tp 74)]),
  o1 4 (.mv (tp 75))])
 (.ret)) (.skip))) (.seq (.ops false [o1 77 (.bin .eql 0 [] (tp 37) (ci 4)),
  o1 76 (.mv (tp 77))])
 (.cond (tp 76) (.seq (.ops false [o1 78 (.mv (tp 7)),
  o1 79 (.mv (tp 78)),
  o3 80 (.mv (tp 0)) 79 true [],
  o3 81 (.mv (tp 5)) 79 true [],
  o3 82 (.call (.con (.fn 117 [] [])) [(tp 80), (tp 81), (ci 2), (ci 0)]) 79 true [],
  o1 83 (.pick (tp 79) (tp 82) (.con (.d (.bool false)))),
  o1 4 (.mv (tp 83))])
 (.ret)) (.seq (.ops false [o1 85 (.bin .eql 0 [] (tp 37) (ci 11)),
  o1 84 (.mv (tp 85))])
 (.cond (tp 84) (.seq (.ops false [o1 86 (.mv (tp 8)),
  o1 87 (.mv (tp 86)),
  o3 88 (.mv (tp 0)) 87 true [],
  o3 89 (.mv (tp 5)) 87 true [],
  o3 90 (.call (.con (.fn 117 [] [])) [(tp 88), (tp 89), (ci 3), (ci 0)]) 87 true [],
  o1 91 (.pick (tp 87) (tp 90) (.con (.d (.bool false)))),
  o1 4 (.mv (tp 91))])
 (.ret)) (.seq (.ops false [o1 93 (.bin .eql 0 [] (tp 37) (ci 12)),
  o1 92 (.mv (tp 93))])
 (.cond (tp 92) (.seq (.ops false [o1 94 (.mv (tp 8)),
  o1 95 (.mv (tp 94)),
  o3 96 (.mv (tp 6)) 95 true [],
  o3 97 (.bin .eql 0 [] (tp 96) (ci 5)) 95 true [],
  o1 98 (.pick (tp 95) (tp 97) (.con (.d (.bool false)))),
  o1 99 (.mv (tp 98)),
  o3 100 (.mv (tp 0)) 99 true [],
  o3 101 (.mv (tp 0)) 99 true [],
  o3 102 (.nilck (tp 101)) 99 true [],
  o3 103 (.fldA 0 (tp 102)) 99 true [],
  o3 104 (.fldA 6 (tp 103)) 99 true [],
  o3 105 (.load 1 false (tp 104)) 99 true [],
  o3 106 (.call (.con (.fn 113 [] [])) [(tp 100), (ci 5), (tp 105)]) 99 true [],
  o1 107 (.pick (tp 99) (tp 106) (.con (.d (.bool false)))),
  o1 4 (.mv (tp 107))])
 (.ret)) (.skip)))))))))))
 (.seq (.ops false [o1 4 (.mv (.con (.d (.bool false))))])
 (.ret)))))))⟩
/-- (*entente/saga.holder).some$1 -/
def c97 : AFn := ⟨10, [.tmp 4], .seq (.ops false [o1 4 (.mv (.con (.d (.bool false))))])
 (.seq (.ops false [o1 5 (.load 1 false (tp 1)),
  o1 6 (.mv (tp 0)),
  o1 7 (.load 1 false (tp 2)),
  o1 8 (.call (.con (.fn 82 [] [])) [(tp 5), (tp 6), (tp 7)]),
  o1 9 (.un .not (tp 8)),
  o1 4 (.mv (tp 9))])
 (.ret))⟩
/-- slices.IndexFunc[[]entente/api.Step,entente/api.Step] -/
def c102 : AFn := ⟨19, [.tmp 4], .seq (.ops false [o1 4 (.mv (ci 0))])
 (.seq (.seq (.ops false [o1 6 (.mv (tp 0)),
  o1 7 (.len 1 (tp 6)),
  o1 8 (.mv (ci 0))])
 (.block 0 (.loop 0 (some ([0, 1, 7, 8], [0, 1, 2, 3, 4, 5, 6, 7])) (.seq (.ops false [o1 9 (.bin .lss 0 [] (tp 8) (tp 7))])
 (.seq (.cond (tp 9) (.skip) (.exit 0))
 (.seq (.block 1 (.seq (.ops false [o1 10 (.mv (tp 8)),
  o1 5 (.mv (tp 10))])
 (.seq (.ops false [o1 11 (.mv (tp 1)),
  o1 12 (.mv (tp 0)),
  o1 13 (.mv (tp 5)),
  o1 14 (.ixS hB (tp 12) (tp 13)),
  o1 15 (.load 7 true (tp 14)),
  o1 16 (.call (tp 11) [(tp 15)])])
 (.cond (tp 16) (.seq (.ops false [o1 17 (.mv (tp 5)),
  o1 4 (.mv (tp 17))])
 (.ret)) (.skip)))))
 (.ops false [o1 18 (.bin .add 0 [] (tp 8) (ci 1)),
  o1 8 (.mv (tp 18))])))))))
 (.seq (.ops false [o1 4 (.mv (ci (-1)))])
 (.ret)))⟩
/-- entente/act.Check -/
def c103 : AFn := ⟨28, [.tmp 2], .seq (.ops false [o1 1 (.box (tp 0)),
  o1 2 (.mv (ci 0))])
 (.seq (.seq (.ops false [o1 3 (.fldA 0 (tp 1)),
  o1 4 (.load 1 false (tp 3)),
  o1 5 (.bin .lss 0 [] (tp 4) (ci 1)),
  o1 6 (.mv (tp 5)),
  o3 7 (.fldA 0 (tp 1)) 6 false [],
  o3 8 (.load 1 false (tp 7)) 6 false [],
  o3 9 (.bin .gtr 0 [] (tp 8) (ci 4)) 6 false [],
  o1 10 (.pick (tp 6) (.con (.d (.bool true))) (tp 9)),
  o1 11 (.mv (tp 10)),
  o3 12 (.fldA 1 (tp 1)) 11 false [],
  o3 13 (.load 1 false (tp 12)) 11 false [],
  o3 14 (.call (.con (.fn 63 [] [])) [(tp 13)]) 11 false [],
  o3 15 (.un .not (tp 14)) 11 false [],
  o1 16 (.pick (tp 11) (.con (.d (.bool true))) (tp 15)),
  o1 17 (.mv (tp 16)),
  o3 18 (.fldA 2 (tp 1)) 17 false [],
  o3 19 (.load 1 false (tp 18)) 17 false [],
  o3 20 (.bin .lss 0 [] (tp 19) (ci 1)) 17 false [],
  o1 21 (.pick (tp 17) (.con (.d (.bool true))) (tp 20)),
  o1 22 (.mv (tp 21)),
  o3 23 (.fldA 2 (tp 1)) 22 false [],
  o3 24 (.load 1 false (tp 23)) 22 false [],
  o3 25 (.call (.con (.fn 131 [] [])) [(tp 24)]) 22 false [],
  o3 26 (.un .not (tp 25)) 22 false [],
  o1 27 (.pick (tp 22) (.con (.d (.bool true))) (tp 26))])
 (.cond (tp 27) (.seq (.ops false [o1 2 (.mv (ci 60))])
 (.ret)) (.skip)))
 (.seq (.ops false [o1 2 (.mv (ci 0))])
 (.ret)))⟩
/-- internal/strconv.Itoa -/
def c107 : AFn := ⟨5, [.tmp 2], .seq (.ops false [o1 2 (.mv (.con (.d (.str []))))])
 (.seq (.ops false [o1 3 (.mv (tp 0)),
  o1 4 (.call (.con (.fn 133 [] [])) [(tp 3), (ci 10)]),
  o1 2 (.mv (tp 4))])
 (.ret))⟩
/-- slices.IndexFunc[[]entente/api.Hop,entente/api.Hop] -/
def c108 : AFn := ⟨19, [.tmp 4], .seq (.ops false [o1 4 (.mv (ci 0))])
 (.seq (.seq (.ops false [o1 6 (.mv (tp 0)),
  o1 7 (.len 1 (tp 6)),
  o1 8 (.mv (ci 0))])
 (.block 0 (.loop 0 (some ([0, 1, 7, 8], [0, 1, 2, 3, 4, 5, 6, 7])) (.seq (.ops false [o1 9 (.bin .lss 0 [] (tp 8) (tp 7))])
 (.seq (.cond (tp 9) (.skip) (.exit 0))
 (.seq (.block 1 (.seq (.ops false [o1 10 (.mv (tp 8)),
  o1 5 (.mv (tp 10))])
 (.seq (.ops false [o1 11 (.mv (tp 1)),
  o1 12 (.mv (tp 0)),
  o1 13 (.mv (tp 5)),
  o1 14 (.ixS hA (tp 12) (tp 13)),
  o1 15 (.load 2 true (tp 14)),
  o1 16 (.call (tp 11) [(tp 15)])])
 (.cond (tp 16) (.seq (.ops false [o1 17 (.mv (tp 5)),
  o1 4 (.mv (tp 17))])
 (.ret)) (.skip)))))
 (.ops false [o1 18 (.bin .add 0 [] (tp 8) (ci 1)),
  o1 8 (.mv (tp 18))])))))))
 (.seq (.ops false [o1 4 (.mv (ci (-1)))])
 (.ret)))⟩
/-- (*entente/saga.holder).tail -/
def c109 : AFn := ⟨52, [.tmp 4], .seq (.ops false [o1 4 (.mv (.con (.d (.bool false))))])
 (.seq (.seq (.ops false [o1 7 (.mv (tp 1)),
  o1 5 (.mv (tp 7))])
 (.block 0 (.loop 0 (some ([0, 1, 5], [0, 1, 2, 3, 4, 5, 6, 7])) (.seq (.seq (.ops false [o1 8 (.mv (tp 5)),
  o1 9 (.mv (tp 0)),
  o1 10 (.nilck (tp 9)),
  o1 11 (.fldA 0 (tp 10)),
  o1 12 (.fldA 7 (tp 11)),
  o1 13 (.load 1 false (tp 12)),
  o1 14 (.len 1 (tp 13)),
  o1 15 (.bin .lss 0 [] (tp 8) (tp 14))])
 (.cond (tp 15) (.skip) (.exit 0)))
 (.seq (.block 1 (.seq (.ops false [o1 18 (.mv (tp 5)),
  o1 19 (.mv (tp 1)),
  o1 20 (.bin .eql 0 [] (tp 18) (tp 19)),
  o1 21 (.mv (tp 20)),
  o3 22 (.mv (tp 0)) 21 true [],
  o3 23 (.mv (tp 5)) 21 true [],
  o3 24 (.buildSl (.int .i64) [(.int .i64 0)] 1 [(0, 1, (ci 0))]) 21 true [],
  o3 25 (.call (.con (.fn 82 [] [])) [(tp 22), (tp 23), (tp 24)]) 21 true [],
  o3 26 (.mv (tp 25)) 21 true [],
  o3 27 (.mv (tp 0)) 26 false [],
  o3 28 (.mv (tp 5)) 26 false [],
  o3 29 (.call (.con (.fn 48 [] [])) [(tp 27), (tp 28)]) 26 false [],
  o3 30 (.mv (tp 29)) 26 false [],
  o3 31 (.mv (tp 0)) 30 true [],
  o3 32 (.mv (tp 5)) 30 true [],
  o3 33 (.buildSl (.int .i64) [(.int .i64 0)] 1 [(0, 1, (ci 1))]) 30 true [],
  o3 34 (.call (.con (.fn 82 [] [])) [(tp 31), (tp 32), (tp 33)]) 30 true [],
  o3 35 (.pick (tp 30) (tp 34) (.con (.d (.bool false)))) 26 false [],
  o3 36 (.pick (tp 26) (.con (.d (.bool true))) (tp 35)) 21 true [],
  o1 37 (.pick (tp 21) (tp 36) (.con (.d (.bool false)))),
  o1 6 (.mv (tp 37))])
 (.seq (.ops false [o1 38 (.mv (tp 6)),
  o1 39 (.un .not (tp 38)),
  o1 40 (.mv (tp 39)),
  o3 41 (.mv (tp 0)) 40 true [],
  o3 42 (.nilck (tp 41)) 40 true [],
  o3 43 (.fldA 0 (tp 42)) 40 true [],
  o3 44 (.fldA 7 (tp 43)) 40 true [],
  o3 45 (.load 1 false (tp 44)) 40 true [],
  o3 46 (.mv (tp 5)) 40 true [],
  o3 47 (.ixS hA (tp 45) (tp 46)) 40 true [],
  o3 48 (.load 2 true (tp 47)) 40 true [],
  o3 49 (.build [(.int .i64 0), (.int .i64 0)] []) 40 true [],
  o3 50 (.bin .neq 6 [(.int .i64), (.int .i64)] (tp 48) (tp 49)) 40 true [],
  o1 51 (.pick (tp 40) (tp 50) (.con (.d (.bool false))))])
 (.cond (tp 51) (.seq (.ops false [o1 4 (.mv (.con (.d (.bool false))))])
 (.ret)) (.skip)))))
 (.ops false [o1 16 (.mv (tp 5)),
  o1 17 (.bin .add 0 [] (tp 16) (ci 1)),
  o1 5 (.mv (tp 17))]))))))
 (.seq (.ops false [o1 4 (.mv (.con (.d (.bool true))))])
 (.ret)))⟩
/-- slices.Contains[[]int,int] -/
def c110 : AFn := ⟨9, [.tmp 4], .seq (.ops false [o1 4 (.mv (.con (.d (.bool false))))])
 (.seq (.ops false [o1 5 (.mv (tp 0)),
  o1 6 (.mv (tp 1)),
  o1 7 (.call (.con (.fn 134 [] [])) [(tp 5), (tp 6)]),
  o1 8 (.bin .geq 0 [] (tp 7) (ci 0)),
  o1 4 (.mv (tp 8))])
 (.ret))⟩
/-- cmp.isNaN[int] -/
def c111 : AFn := ⟨6, [.tmp 2], .seq (.ops false [o1 2 (.mv (.con (.d (.bool false))))])
 (.seq (.ops false [o1 3 (.mv (tp 0)),
  o1 4 (.mv (tp 0)),
  o1 5 (.bin .neq 0 [] (tp 3) (tp 4)),
  o1 2 (.mv (tp 5))])
 (.ret))⟩
/-- (*entente/saga.holder).done -/
def c112 : AFn := ⟨6, [.tmp 2], .seq (.ops false [o1 1 (.box (tp 0)),
  o1 2 (.mv (.con (.d (.bool false))))])
 (.seq (.ops false [o1 3 (.load 1 false (tp 1)),
  o1 4 (.mkF 135 [] [(tp 1)]),
  o1 5 (.call (.con (.fn 46 [] [])) [(tp 3), (tp 4)]),
  o1 2 (.mv (tp 5))])
 (.ret))⟩
/-- (*entente/saga.holder).to -/
def c113 : AFn := ⟨17, [.tmp 6], .seq (.ops false [o1 6 (.mv (.con (.d (.bool false))))])
 (.seq (.ops false [o1 7 (.mv (tp 0)),
  o1 8 (.mv (tp 0)),
  o1 9 (.mv (tp 1)),
  o1 10 (.mv (tp 2)),
  o1 11 (.nilck (tp 7)),
  o1 12 (.fldA 0 (tp 11)),
  o1 13 (.fldA 5 (tp 12)),
  ⟨none, .store 1 (tp 13) (tp 9), none, []⟩,
  o1 14 (.nilck (tp 8)),
  o1 15 (.fldA 0 (tp 14)),
  o1 16 (.fldA 6 (tp 15)),
  ⟨none, .store 1 (tp 16) (tp 10), none, []⟩])
 (.seq (.ops false [o1 6 (.mv (.con (.d (.bool true))))])
 (.ret)))⟩
/-- (*entente/saga.holder).own -/
def c114 : AFn := ⟨29, [], .seq (.ops false [o1 5 (.mv (tp 0)),
  o1 6 (.nilck (tp 5)),
  o1 7 (.fldA 0 (tp 6)),
  o1 8 (.fldA 7 (tp 7)),
  o1 9 (.load 1 false (tp 8)),
  o1 10 (.len 1 (tp 9)),
  o1 11 (.mv (ci 0))])
 (.block 0 (.loop 0 (some ([0, 1, 10, 11], [0, 1, 2, 3, 4, 5, 6, 7])) (.seq (.ops false [o1 12 (.bin .lss 0 [] (tp 11) (tp 10))])
 (.seq (.cond (tp 12) (.skip) (.exit 0))
 (.seq (.block 1 (.seq (.ops false [o1 13 (.mv (tp 11)),
  o1 4 (.mv (tp 13))])
 (.seq (.ops false [o1 14 (.mv (tp 0)),
  o1 15 (.mv (tp 4)),
  o1 16 (.call (.con (.fn 48 [] [])) [(tp 14), (tp 15)]),
  o1 17 (.un .not (tp 16)),
  o1 18 (.mv (tp 17)),
  o3 19 (.mv (tp 0)) 18 true [],
  o3 20 (.mv (tp 4)) 18 true [],
  o3 21 (.buildSl (.int .i64) [(.int .i64 0)] 1 [(0, 1, (ci 2))]) 18 true [],
  o3 22 (.call (.con (.fn 82 [] [])) [(tp 19), (tp 20), (tp 21)]) 18 true [],
  o1 23 (.pick (tp 18) (tp 22) (.con (.d (.bool false))))])
 (.cond (tp 23) (.ops false [o1 24 (.mv (tp 0)),
  o1 25 (.mv (tp 4)),
  o1 26 (.mv (tp 1)),
  o1 27 (.call (.con (.fn 117 [] [])) [(tp 24), (tp 25), (tp 26), (ci 0)])]) (.skip)))))
 (.ops false [o1 28 (.bin .add 0 [] (tp 11) (ci 1)),
  o1 11 (.mv (tp 28))]))))))⟩
/-- (*entente/saga.holder).calm -/
def c115 : AFn := ⟨21, [], .seq (.ops false [o1 3 (.mv (tp 0)),
  o1 4 (.nilck (tp 3)),
  o1 5 (.fldA 0 (tp 4)),
  o1 6 (.fldA 7 (tp 5)),
  o1 7 (.load 1 false (tp 6)),
  o1 8 (.len 1 (tp 7)),
  o1 9 (.mv (ci 0))])
 (.block 0 (.loop 0 (some ([0, 8, 9], [0, 1, 2, 3, 4, 5, 6, 7])) (.seq (.ops false [o1 10 (.bin .lss 0 [] (tp 9) (tp 8))])
 (.seq (.cond (tp 10) (.skip) (.exit 0))
 (.seq (.block 1 (.seq (.ops false [o1 11 (.mv (tp 9)),
  o1 2 (.mv (tp 11))])
 (.ops false [o1 12 (.mv (tp 0)),
  o1 13 (.nilck (tp 12)),
  o1 14 (.fldA 0 (tp 13)),
  o1 15 (.fldA 7 (tp 14)),
  o1 16 (.load 1 false (tp 15)),
  o1 17 (.mv (tp 2)),
  o1 18 (.ixS hA (tp 16) (tp 17)),
  o1 19 (.fldA 1 (tp 18)),
  ⟨none, .store 1 (tp 19) (ci 0), none, []⟩])))
 (.ops false [o1 20 (.bin .add 0 [] (tp 9) (ci 1)),
  o1 9 (.mv (tp 20))]))))))⟩
/-- (*entente/saga.holder).force -/
def c116 : AFn := ⟨45, [.tmp 4], .seq (.ops false [o1 4 (.mv (.con (.d (.bool false))))])
 (.seq (.seq (.ops false [o1 5 (.mv (tp 0)),
  o1 6 (.nilck (tp 5)),
  o1 7 (.fldA 0 (tp 6)),
  o1 8 (.fldA 5 (tp 7)),
  o1 9 (.load 1 false (tp 8)),
  o1 10 (.bin .eql 0 [] (tp 9) (ci 3)),
  o1 11 (.mv (tp 10)),
  o3 12 (.mv (tp 0)) 11 false [],
  o3 13 (.nilck (tp 12)) 11 false [],
  o3 14 (.fldA 0 (tp 13)) 11 false [],
  o3 15 (.fldA 5 (tp 14)) 11 false [],
  o3 16 (.load 1 false (tp 15)) 11 false [],
  o3 17 (.bin .eql 0 [] (tp 16) (ci 6)) 11 false [],
  o1 18 (.pick (tp 11) (.con (.d (.bool true))) (tp 17))])
 (.cond (tp 18) (.seq (.ops false [o1 4 (.mv (.con (.d (.bool false))))])
 (.ret)) (.skip)))
 (.seq (.ops false [o1 19 (.mv (tp 0)),
  o1 20 (.nilck (tp 19)),
  o1 21 (.fldA 0 (tp 20)),
  o1 22 (.fldA 8 (tp 21)),
  ⟨none, .store 1 (tp 22) (.con (.d (.bool true))), none, []⟩])
 (.seq (.ops false [o1 23 (.mv (tp 0)),
  o1 24 (.call (.con (.fn 115 [] [])) [(tp 23)])])
 (.seq (.seq (.ops false [o1 25 (.mv (tp 1)),
  o1 26 (.bin .eql 0 [] (tp 25) (ci 1))])
 (.cond (tp 26) (.seq (.ops false [o1 27 (.mv (tp 0)),
  o1 28 (.call (.con (.fn 114 [] [])) [(tp 27), (ci 4)])])
 (.seq (.ops false [o1 29 (.mv (tp 0)),
  o1 30 (.mv (tp 0)),
  o1 31 (.nilck (tp 30)),
  o1 32 (.fldA 0 (tp 31)),
  o1 33 (.fldA 6 (tp 32)),
  o1 34 (.load 1 false (tp 33)),
  o1 35 (.call (.con (.fn 113 [] [])) [(tp 29), (ci 3), (tp 34)]),
  o1 4 (.mv (tp 35))])
 (.ret))) (.skip)))
 (.seq (.ops false [o1 36 (.mv (tp 0)),
  o1 37 (.call (.con (.fn 114 [] [])) [(tp 36), (ci 3)])])
 (.seq (.ops false [o1 38 (.mv (tp 0)),
  o1 39 (.mv (tp 0)),
  o1 40 (.nilck (tp 39)),
  o1 41 (.fldA 0 (tp 40)),
  o1 42 (.fldA 6 (tp 41)),
  o1 43 (.load 1 false (tp 42)),
  o1 44 (.call (.con (.fn 113 [] [])) [(tp 38), (ci 6), (tp 43)]),
  o1 4 (.mv (tp 44))])
 (.ret)))))))⟩
/-- (*entente/saga.holder).set -/
def c117 : AFn := ⟨19, [.tmp 8], .seq (.ops false [o1 8 (.mv (.con (.d (.bool false))))])
 (.seq (.ops false [o1 9 (.mv (tp 0)),
  o1 10 (.nilck (tp 9)),
  o1 11 (.fldA 0 (tp 10)),
  o1 12 (.fldA 7 (tp 11)),
  o1 13 (.load 1 false (tp 12)),
  o1 14 (.mv (tp 1)),
  o1 15 (.mv (tp 2)),
  o1 16 (.mv (tp 3)),
  o1 17 (.build [(.int .i64 0), (.int .i64 0)] [(0, 1, (tp 15)), (1, 1, (tp 16))]),
  o1 18 (.ixS hA (tp 13) (tp 14)),
  ⟨none, .store 2 (tp 18) (tp 17), none, []⟩])
 (.seq (.ops false [o1 8 (.mv (.con (.d (.bool true))))])
 (.ret)))⟩
/-- (*entente/saga.holder).mine -/
def c118 : AFn := ⟨15, [.tmp 4], .seq (.ops false [o1 4 (.mv (.con (.d (.bool false))))])
 (.seq (.ops false [o1 5 (.mv (tp 1)),
  o1 6 (.mv (tp 0)),
  o1 7 (.call (.con (.fn 50 [] [])) [(tp 6)]),
  o1 8 (.bin .eql 0 [] (tp 5) (tp 7)),
  o1 9 (.mv (tp 8)),
  o3 10 (.mv (tp 0)) 9 true [],
  o3 11 (.mv (tp 1)) 9 true [],
  o3 12 (.call (.con (.fn 48 [] [])) [(tp 10), (tp 11)]) 9 true [],
  o3 13 (.un .not (tp 12)) 9 true [],
  o1 14 (.pick (tp 9) (tp 13) (.con (.d (.bool false)))),
  o1 4 (.mv (tp 14))])
 (.ret))⟩
/-- entente/cash.Fits -/
def c131 : AFn := ⟨9, [.tmp 2], .seq (.ops false [o1 2 (.mv (.con (.d (.bool false))))])
 (.seq (.ops false [o1 3 (.mv (tp 0)),
  o1 4 (.bin .geq 0 [] (tp 3) (ci 0)),
  o1 5 (.mv (tp 4)),
  o3 6 (.mv (tp 0)) 5 true [],
  o3 7 (.bin .leq 0 [] (tp 6) (ci 1000000000000000)) 5 true [],
  o1 8 (.pick (tp 5) (tp 7) (.con (.d (.bool false)))),
  o1 2 (.mv (tp 8))])
 (.ret))⟩
/-- internal/strconv.FormatInt -/
def c133 : AFn := ⟨54, [.tmp 4], .seq (.ops false [o1 4 (.mv (.con (.d (.str []))))])
 (.seq (.seq (.ops false [o1 10 (.mv (tp 1)),
  o1 11 (.bin .eql 0 [] (tp 10) (ci 10))])
 (.cond (tp 11) (.seq (.seq (.ops false [o1 12 (.mv (tp 0)),
  o1 13 (.bin .leq 0 [] (ci 0) (tp 12)),
  o1 14 (.mv (tp 13)),
  o3 15 (.mv (tp 0)) 14 true [],
  o3 16 (.bin .lss 0 [] (tp 15) (ci 100)) 14 true [],
  o1 17 (.pick (tp 14) (tp 16) (.con (.d (.bool false))))])
 (.cond (tp 17) (.seq (.ops false [o1 18 (.mv (tp 0)),
  o1 19 (.call (.con (.fn 145 [] [])) [(tp 18)]),
  o1 4 (.mv (tp 19))])
 (.ret)) (.skip)))
 (.seq (.ops false [o1 5 (.allocA (.int .u8) [(.int .u8 0), (.int .u8 0), (.int .u8 0), (.int .u8 0), (.int .u8 0), (.int .u8 0), (.int .u8 0), (.int .u8 0), (.int .u8 0), (.int .u8 0), (.int .u8 0), (.int .u8 0), (.int .u8 0), (.int .u8 0), (.int .u8 0), (.int .u8 0), (.int .u8 0), (.int .u8 0), (.int .u8 0), (.int .u8 0), (.int .u8 0), (.int .u8 0), (.int .u8 0), (.int .u8 0)] 24)])
 (.seq (.ops false [o1 20 (.mv (tp 0)),
  o1 21 (.conv (.int .u64) (tp 20)),
  o1 6 (.mv (tp 21))])
 (.seq (.seq (.ops false [o1 22 (.mv (tp 0)),
  o1 23 (.bin .lss 0 [] (tp 22) (ci 0))])
 (.cond (tp 23) (.ops false [o1 24 (.mv (tp 6)),
  o1 25 (.un .neg (tp 24)),
  o1 6 (.mv (tp 25))]) (.skip)))
 (.seq (.ops false [o1 26 (.mv (tp 6)),
  o1 27 (.call (.con (.fn 146 [] [])) [(tp 26)]),
  o1 7 (.mv (tp 27))])
 (.seq (.ops false [o1 28 (.mv (tp 7)),
  o1 29 (.bin .add 0 [] (ci 1) (tp 28)),
  o1 30 (.slcA (.int .u8) 24 (tp 5) (some (ci 1)) (some (tp 29))),
  o1 31 (.mv (tp 6)),
  o1 32 (.call (.con (.fn 147 [] [])) [(tp 30), (tp 31)])])
 (.seq (.seq (.ops false [o1 33 (.mv (tp 0)),
  o1 34 (.bin .lss 0 [] (tp 33) (ci 0))])
 (.cond (tp 34) (.seq (.ops false [o1 35 (.ixP (.int .u8) 24 (tp 5) (ci 0)),
  ⟨none, .store 1 (tp 35) (.con (.d (.int .u8 45))), none, []⟩])
 (.seq (.ops false [o1 36 (.mv (tp 7)),
  o1 37 (.bin .add 0 [] (ci 1) (tp 36)),
  o1 38 (.slcA (.int .u8) 24 (tp 5) none (some (tp 37))),
  o1 39 (.conv .b2s (tp 38)),
  o1 4 (.mv (tp 39))])
 (.ret))) (.skip)))
 (.seq (.ops false [o1 40 (.mv (tp 7)),
  o1 41 (.bin .add 0 [] (ci 1) (tp 40)),
  o1 42 (.slcA (.int .u8) 24 (tp 5) (some (ci 1)) (some (tp 41))),
  o1 43 (.conv .b2s (tp 42)),
  o1 4 (.mv (tp 43))])
 (.ret))))))))) (.skip)))
 (.seq (.ops false [o1 45 (.mv (tp 0)),
  o1 46 (.conv (.int .u64) (tp 45)),
  o1 47 (.mv (tp 1)),
  o1 48 (.mv (tp 0)),
  o1 49 (.bin .lss 0 [] (tp 48) (ci 0)),
  o1 50 (.call (.con (.fn 148 [] [])) [(.con (.d (.sl (.int .u8) true []))), (tp 46), (tp 47), (tp 49), (.con (.d (.bool false)))]),
  o1 44 (.mv (tp 50)),
  o1 51 (.ext 0 (tp 44)),
  o1 52 (.ext 1 (tp 44)),
  o1 8 (.mv (tp 51)),
  o1 9 (.mv (tp 52))])
 (.seq (.ops false [o1 53 (.mv (tp 9)),
  o1 4 (.mv (tp 53))])
 (.ret))))⟩
/-- slices.Index[[]int,int] -/
def c134 : AFn := ⟨19, [.tmp 4], .seq (.ops false [o1 4 (.mv (ci 0))])
 (.seq (.seq (.ops false [o1 6 (.mv (tp 0)),
  o1 7 (.len 1 (tp 6)),
  o1 8 (.mv (ci 0))])
 (.block 0 (.loop 0 (some ([0, 1, 7, 8], [0, 1, 2, 3, 4, 5, 6, 7])) (.seq (.ops false [o1 9 (.bin .lss 0 [] (tp 8) (tp 7))])
 (.seq (.cond (tp 9) (.skip) (.exit 0))
 (.seq (.block 1 (.seq (.ops false [o1 10 (.mv (tp 8)),
  o1 5 (.mv (tp 10))])
 (.seq (.ops false [o1 11 (.mv (tp 1)),
  o1 12 (.mv (tp 0)),
  o1 13 (.mv (tp 5)),
  o1 14 (.ixS (.int .i64) (tp 12) (tp 13)),
  o1 15 (.load 1 false (tp 14)),
  o1 16 (.bin .eql 0 [] (tp 11) (tp 15))])
 (.cond (tp 16) (.seq (.ops false [o1 17 (.mv (tp 5)),
  o1 4 (.mv (tp 17))])
 (.ret)) (.skip)))))
 (.ops false [o1 18 (.bin .add 0 [] (tp 8) (ci 1)),
  o1 8 (.mv (tp 18))])))))))
 (.seq (.ops false [o1 4 (.mv (ci (-1)))])
 (.ret)))⟩
/-- (*entente/saga.holder).done$1 -/
def c135 : AFn := ⟨8, [.tmp 3], .seq (.ops false [o1 3 (.mv (.con (.d (.bool false))))])
 (.seq (.ops false [o1 4 (.load 1 false (tp 1)),
  o1 5 (.mv (tp 0)),
  o1 6 (.buildSl (.int .i64) [(.int .i64 0)] 1 [(0, 1, (ci 2))]),
  o1 7 (.call (.con (.fn 82 [] [])) [(tp 4), (tp 5), (tp 6)]),
  o1 3 (.mv (tp 7))])
 (.ret))⟩
/-- internal/strconv.small -/
def c145 : AFn := ⟨15, [.tmp 2], .seq (.ops false [o1 2 (.mv (.con (.d (.str []))))])
 (.seq (.seq (.ops false [o1 3 (.mv (tp 0)),
  o1 4 (.bin .lss 0 [] (tp 3) (ci 10))])
 (.cond (tp 4) (.seq (.ops false [o1 5 (.mv (tp 0)),
  o1 6 (.mv (tp 0)),
  o1 7 (.bin .add 0 [] (tp 6) (ci 1)),
  o1 8 (.slcS (.con (.d (.str [48, 49, 50, 51, 52, 53, 54, 55, 56, 57, 97, 98, 99, 100, 101, 102, 103, 104, 105, 106, 107, 108, 109, 110, 111, 112, 113, 114, 115, 116, 117, 118, 119, 120, 121, 122]))) (some (tp 5)) (some (tp 7))),
  o1 2 (.mv (tp 8))])
 (.ret)) (.skip)))
 (.seq (.ops false [o1 9 (.mv (tp 0)),
  o1 10 (.bin .mul 0 [] (tp 9) (ci 2)),
  o1 11 (.mv (tp 0)),
  o1 12 (.bin .mul 0 [] (tp 11) (ci 2)),
  o1 13 (.bin .add 0 [] (tp 12) (ci 2)),
  o1 14 (.slcS (.con (.d (.str [48, 48, 48, 49, 48, 50, 48, 51, 48, 52, 48, 53, 48, 54, 48, 55, 48, 56, 48, 57, 49, 48, 49, 49, 49, 50, 49, 51, 49, 52, 49, 53, 49, 54, 49, 55, 49, 56, 49, 57, 50, 48, 50, 49, 50, 50, 50, 51, 50, 52, 50, 53, 50, 54, 50, 55, 50, 56, 50, 57, 51, 48, 51, 49, 51, 50, 51, 51, 51, 52, 51, 53, 51, 54, 51, 55, 51, 56, 51, 57, 52, 48, 52, 49, 52, 50, 52, 51, 52, 52, 52, 53, 52, 54, 52, 55, 52, 56, 52, 57, 53, 48, 53, 49, 53, 50, 53, 51, 53, 52, 53, 53, 53, 54, 53, 55, 53, 56, 53, 57, 54, 48, 54, 49, 54, 50, 54, 51, 54, 52, 54, 53, 54, 54, 54, 55, 54, 56, 54, 57, 55, 48, 55, 49, 55, 50, 55, 51, 55, 52, 55, 53, 55, 54, 55, 55, 55, 56, 55, 57, 56, 48, 56, 49, 56, 50, 56, 51, 56, 52, 56, 53, 56, 54, 56, 55, 56, 56, 56, 57, 57, 48, 57, 49, 57, 50, 57, 51, 57, 52, 57, 53, 57, 54, 57, 55, 57, 56, 57, 57]))) (some (tp 10)) (some (tp 13))),
  o1 2 (.mv (tp 14))])
 (.ret)))⟩
end Go.Proofs.YtknoielhkilkpaaDoor.A
