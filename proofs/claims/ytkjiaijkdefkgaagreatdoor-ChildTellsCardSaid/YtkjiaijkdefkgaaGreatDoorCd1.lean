/- The light code of the program's functions, part 1. -/
import Derived.Test.YtkjiaijkdefkgaaGreatDoorCd0

namespace Go.Proofs.YtkjiaijkdefkgaaGreatDoor.A
open Go Go.AM
/-- (*entente/saga.holder).local -/
def c151 : AFn := ⟨108, [.tmp 4], .seq (.ops false [o1 3 (.box (tp 1)),
  o1 4 (.mv (.con (.d (.bool false))))])
 (.seq (.ops false [o1 9 (.fldA 4 (tp 3)),
  o1 10 (.load 1 false (tp 9)),
  o1 5 (.mv (tp 10))])
 (.seq (.seq (.ops false [o1 11 (.mv (tp 0)),
  o1 12 (.mv (tp 5)),
  o1 13 (.call (.con (.fn 187 [] [])) [(tp 11), (tp 12)]),
  o1 14 (.un .not (tp 13))])
 (.cond (tp 14) (.seq (.ops false [o1 4 (.mv (.con (.d (.bool false))))])
 (.ret)) (.skip)))
 (.seq (.ops false [o1 15 (.mv (tp 0)),
  o1 16 (.nilck (tp 15)),
  o1 17 (.fldA 0 (tp 16)),
  o1 18 (.fldA 7 (tp 17)),
  o1 19 (.load 1 false (tp 18)),
  o1 20 (.mv (tp 5)),
  o1 21 (.ixS hA (tp 19) (tp 20)),
  o1 22 (.fldA 1 (tp 21)),
  o1 23 (.load 1 false (tp 22)),
  o1 6 (.mv (tp 23))])
 (.seq (.ops true [o1 24 (.mv (tp 0)),
  o2 25 (.nilck (tp 24)) [0],
  o2 26 (.fldA 0 (tp 25)) [1],
  o2 27 (.fldA 5 (tp 26)) [2],
  o2 28 (.load 1 false (tp 27)) [3],
  o2 29 (.bin .eql 0 [] (tp 28) (ci 1)) [4],
  o1 30 (.mv (tp 0)),
  o2 31 (.nilck (tp 30)) [6],
  o2 32 (.fldA 0 (tp 31)) [7],
  o2 33 (.fldA 5 (tp 32)) [8],
  o2 34 (.load 1 false (tp 33)) [9],
  o2 35 (.bin .eql 0 [] (tp 34) (ci 4)) [10],
  o2 7 (.mv (tp 29)) [0, 1, 2, 3, 4, 5],
  o2 8 (.mv (tp 35)) [0, 1, 2, 3, 4, 5, 6, 7, 8, 9, 10, 11, 12]])
 (.seq (.seq (.ops false [o1 36 (.fldA 0 (tp 3)),
  o1 37 (.load 1 false (tp 36))])
 (.block 0 (.seq (.ops false [o1 39 (.bin .eql 0 [] (tp 37) (ci 3)),
  o1 38 (.mv (tp 39))])
 (.cond (tp 38) (.seq (.ops false [o1 40 (.mv (tp 7)),
  o1 41 (.mv (tp 40)),
  o3 42 (.mv (tp 6)) 41 true [],
  o3 43 (.mv (tp 0)) 41 true [],
  o3 44 (.nilck (tp 43)) 41 true [],
  o3 45 (.fldA 0 (tp 44)) 41 true [],
  o3 46 (.fldA 3 (tp 45)) 41 true [],
  o3 47 (.fldA 1 (tp 46)) 41 true [],
  o3 48 (.load 1 false (tp 47)) 41 true [],
  o3 49 (.mv (tp 5)) 41 true [],
  o3 50 (.ixS hB (tp 48) (tp 49)) 41 true [],
  o3 51 (.fldA 5 (tp 50)) 41 true [],
  o3 52 (.load 1 false (tp 51)) 41 true [],
  o3 53 (.bin .lss 0 [] (tp 42) (tp 52)) 41 true [],
  o1 54 (.pick (tp 41) (tp 53) (.con (.d (.bool false)))),
  o1 55 (.mv (tp 54)),
  o3 56 (.mv (tp 8)) 55 false [],
  o3 57 (.mv (tp 56)) 55 false [],
  o3 58 (.mv (tp 6)) 57 true [],
  o3 59 (.bin .lss 0 [] (tp 58) (ci 5)) 57 true [],
  o3 60 (.pick (tp 57) (tp 59) (.con (.d (.bool false)))) 55 false [],
  o1 61 (.pick (tp 55) (.con (.d (.bool true))) (tp 60))])
 (.cond (tp 61) (.seq (.ops false [o1 62 (.mv (tp 0)),
  o1 63 (.mv (tp 5)),
  o1 64 (.mv (tp 0)),
  o1 65 (.nilck (tp 64)),
  o1 66 (.fldA 0 (tp 65)),
  o1 67 (.fldA 7 (tp 66)),
  o1 68 (.load 1 false (tp 67)),
  o1 69 (.mv (tp 5)),
  o1 70 (.ixS hA (tp 68) (tp 69)),
  o1 71 (.fldA 0 (tp 70)),
  o1 72 (.load 1 false (tp 71)),
  o1 73 (.mv (tp 6)),
  o1 74 (.bin .add 0 [] (tp 73) (ci 1)),
  o1 75 (.call (.con (.fn 186 [] [])) [(tp 62), (tp 63), (tp 72), (tp 74)]),
  o1 4 (.mv (tp 75))])
 (.ret)) (.skip))) (.seq (.ops false [o1 77 (.bin .eql 0 [] (tp 37) (ci 4)),
  o1 76 (.mv (tp 77))])
 (.cond (tp 76) (.seq (.ops false [o1 78 (.mv (tp 7)),
  o1 79 (.mv (tp 78)),
  o3 80 (.mv (tp 0)) 79 true [],
  o3 81 (.mv (tp 5)) 79 true [],
  o3 82 (.call (.con (.fn 186 [] [])) [(tp 80), (tp 81), (ci 2), (ci 0)]) 79 true [],
  o1 83 (.pick (tp 79) (tp 82) (.con (.d (.bool false)))),
  o1 4 (.mv (tp 83))])
 (.ret)) (.seq (.ops false [o1 85 (.bin .eql 0 [] (tp 37) (ci 11)),
  o1 84 (.mv (tp 85))])
 (.cond (tp 84) (.seq (.ops false [o1 86 (.mv (tp 8)),
  o1 87 (.mv (tp 86)),
  o3 88 (.mv (tp 0)) 87 true [],
  o3 89 (.mv (tp 5)) 87 true [],
  o3 90 (.call (.con (.fn 186 [] [])) [(tp 88), (tp 89), (ci 3), (ci 0)]) 87 true [],
  o1 91 (.pick (tp 87) (tp 90) (.con (.d (.bool false)))),
  o1 4 (.mv (tp 91))])
 (.ret)) (.seq (.ops false [o1 93 (.bin .eql 0 [] (tp 37) (ci 12)),
  o1 92 (.mv (tp 93))])
 (.cond (tp 92) (.seq (.ops false [o1 94 (.mv (tp 8)),
  o1 95 (.mv (tp 94)),
  o3 96 (.mv (tp 6)) 95 true [],
  o3 97 (.bin .eql 0 [] (tp 96) (ci 5)) 95 true [],
  o1 98 (.pick (tp 95) (tp 97) (.con (.d (.bool false)))),
  o1 99 (.mv (tp 98)),
  o3 100 (.mv (tp 0)) 99 true [],
  o3 101 (.mv (tp 0)) 99 true [],
  o3 102 (.nilck (tp 101)) 99 true [],
  o3 103 (.fldA 0 (tp 102)) 99 true [],
  o3 104 (.fldA 6 (tp 103)) 99 true [],
  o3 105 (.load 1 false (tp 104)) 99 true [],
  o3 106 (.call (.con (.fn 182 [] [])) [(tp 100), (ci 5), (tp 105)]) 99 true [],
  o1 107 (.pick (tp 99) (tp 106) (.con (.d (.bool false)))),
  o1 4 (.mv (tp 107))])
 (.ret)) (.skip)))))))))))
 (.seq (.ops false [o1 4 (.mv (.con (.d (.bool false))))])
 (.ret)))))))⟩
/-- slices.Contains[[]int,int] -/
def c152 : AFn := ⟨9, [.tmp 4], .seq (.ops false [o1 4 (.mv (.con (.d (.bool false))))])
 (.seq (.ops false [o1 5 (.mv (tp 0)),
  o1 6 (.mv (tp 1)),
  o1 7 (.call (.con (.fn 188 [] [])) [(tp 5), (tp 6)]),
  o1 8 (.bin .geq 0 [] (tp 7) (ci 0)),
  o1 4 (.mv (tp 8))])
 (.ret))⟩
/-- entente/ententeref03.number -/
def c153 : AFn := ⟨11, [.tmp 4], .seq (.ops false [o1 4 (.mv (ci 0))])
 (.seq (.seq (.ops false [o1 5 (.mv (tp 0)),
  o1 6 (.mv (tp 1)),
  o1 7 (.bin .lss 0 [] (tp 5) (tp 6))])
 (.cond (tp 7) (.seq (.ops false [o1 4 (.mv (ci (-1)))])
 (.ret)) (.skip)))
 (.seq (.seq (.ops false [o1 8 (.mv (tp 0)),
  o1 9 (.mv (tp 1)),
  o1 10 (.bin .gtr 0 [] (tp 8) (tp 9))])
 (.cond (tp 10) (.seq (.ops false [o1 4 (.mv (ci 1))])
 (.ret)) (.skip)))
 (.seq (.ops false [o1 4 (.mv (ci 0))])
 (.ret))))⟩
/-- entente/act.May -/
def c154 : AFn := ⟨19, [.tmp 2], .seq (.ops false [o1 1 (.box (tp 0)),
  o1 2 (.mv (ci 0))])
 (.seq (.seq (.ops false [o1 3 (.fldA 0 (tp 1)),
  o1 4 (.load 1 false (tp 3)),
  o1 5 (.call (.con (.fn 106 [] [])) [(tp 4)]),
  o1 6 (.un .not (tp 5)),
  o1 7 (.mv (tp 6)),
  o3 8 (.fldA 1 (tp 1)) 7 false [],
  o3 9 (.load 3 true (tp 8)) 7 false [],
  o3 10 (.call (.con (.fn 189 [] [])) [(tp 9)]) 7 false [],
  o3 11 (.bin .neq 0 [] (tp 10) (ci 0)) 7 false [],
  o1 12 (.pick (tp 7) (.con (.d (.bool true))) (tp 11)),
  o1 13 (.mv (tp 12)),
  o3 14 (.fldA 4 (tp 1)) 13 false [],
  o3 15 (.load 3 true (tp 14)) 13 false [],
  o3 16 (.call (.con (.fn 189 [] [])) [(tp 15)]) 13 false [],
  o3 17 (.bin .neq 0 [] (tp 16) (ci 0)) 13 false [],
  o1 18 (.pick (tp 13) (.con (.d (.bool true))) (tp 17))])
 (.cond (tp 18) (.seq (.ops false [o1 2 (.mv (ci 2))])
 (.ret)) (.skip)))
 (.seq (.ops false [o1 2 (.mv (ci 0))])
 (.ret)))⟩
/-- (entente/ledger.book).account -/
def c155 : AFn := ⟨13, [.tmp 4, .tmp 5], .seq (.ops false [o1 2 (.box (tp 0)),
  o1 4 (.mv (ci 0)),
  o1 5 (.mv (.con (.d (.bool false))))])
 (.seq (.ops false [o1 6 (.fldA 0 (tp 2)),
  o1 7 (.fldA 0 (tp 6)),
  o1 8 (.load 1 false (tp 7)),
  o1 9 (.mv (tp 1)),
  o1 10 (.call (.con (.fn 190 [] [])) [(tp 8), (tp 9), (.con (.fn 191 [] []))]),
  o1 11 (.ext 0 (tp 10)),
  o1 12 (.ext 1 (tp 10)),
  o1 4 (.mv (tp 11)),
  o1 5 (.mv (tp 12))])
 (.ret))⟩
/-- entente/ledger.key -/
def c156 : AFn := ⟨10, [.tmp 2], .seq (.ops false [o1 2 (.mv (.con (.d (.bool false))))])
 (.seq (.ops false [o1 3 (.mv (tp 0)),
  o1 4 (.bin .neq 0 [] (tp 3) (.con (.d (.str [])))),
  o1 5 (.mv (tp 4)),
  o3 6 (.mv (tp 0)) 5 true [],
  o3 7 (.len 0 (tp 6)) 5 true [],
  o3 8 (.bin .leq 0 [] (tp 7) (ci 100)) 5 true [],
  o1 9 (.pick (tp 5) (tp 8) (.con (.d (.bool false)))),
  o1 2 (.mv (tp 9))])
 (.ret))⟩
/-- entente/act.Check -/
def c157 : AFn := ⟨28, [.tmp 2], .seq (.ops false [o1 1 (.box (tp 0)),
  o1 2 (.mv (ci 0))])
 (.seq (.seq (.ops false [o1 3 (.fldA 0 (tp 1)),
  o1 4 (.load 1 false (tp 3)),
  o1 5 (.bin .lss 0 [] (tp 4) (ci 1)),
  o1 6 (.mv (tp 5)),
  o3 7 (.fldA 0 (tp 1)) 6 false [],
  o3 8 (.load 1 false (tp 7)) 6 false [],
  o3 9 (.bin .gtr 0 [] (tp 8) (ci 4)) 6 false [],
  o1 10 (.pick (tp 6) (.con (.d (.bool true))) (tp 9)),
  o1 11 (.mv (tp 10)),
  o3 12 (.fldA 1 (tp 1)) 11 false [],
  o3 13 (.load 1 false (tp 12)) 11 false [],
  o3 14 (.call (.con (.fn 106 [] [])) [(tp 13)]) 11 false [],
  o3 15 (.un .not (tp 14)) 11 false [],
  o1 16 (.pick (tp 11) (.con (.d (.bool true))) (tp 15)),
  o1 17 (.mv (tp 16)),
  o3 18 (.fldA 2 (tp 1)) 17 false [],
  o3 19 (.load 1 false (tp 18)) 17 false [],
  o3 20 (.bin .lss 0 [] (tp 19) (ci 1)) 17 false [],
  o1 21 (.pick (tp 17) (.con (.d (.bool true))) (tp 20)),
  o1 22 (.mv (tp 21)),
  o3 23 (.fldA 2 (tp 1)) 22 false [],
  o3 24 (.load 1 false (tp 23)) 22 false [],
  o3 25 (.call (.con (.fn 193 [] [])) [(tp 24)]) 22 false [],
  o3 26 (.un .not (tp 25)) 22 false [],
  o1 27 (.pick (tp 22) (.con (.d (.bool true))) (tp 26))])
 (.cond (tp 27) (.seq (.ops false [o1 2 (.mv (ci 60))])
 (.ret)) (.skip)))
 (.seq (.ops false [o1 2 (.mv (ci 0))])
 (.ret)))⟩
/-- entente/ledger.pending -/
def c158 : AFn := ⟨64, [.tmp 2], .seq (.ops false [o1 1 (.box (tp 0)),
  o1 2 (.mv (.con (.d .nilm)))])
 (.seq (.ops false [o1 9 (.mkMap .str (.agg [(.int .i64), (.int .i64), (.int .i64), (.int .i64)])),
  o1 3 (.mv (tp 9))])
 (.seq (.seq (.ops false [o1 10 (.fldA 1 (tp 1)),
  o1 11 (.load 1 false (tp 10)),
  o1 12 (.len 1 (tp 11)),
  o1 13 (.mv (ci 0))])
 (.block 0 (.loop 0 (some ([3, 11, 12, 13], [0, 1, 2, 3, 4, 5, 6, 7, 128, 129, 130, 131, 160, 161, 640, 641, 642, 643, 672, 673])) (.seq (.ops false [o1 14 (.bin .lss 0 [] (tp 13) (tp 12))])
 (.seq (.cond (tp 14) (.skip) (.exit 0))
 (.seq (.block 1 (.seq (.ops false [o1 15 (.ixS (.agg [.str, (.int .i64), .str, (.int .i64), (.int .i64)]) (tp 11) (tp 13)),
  o1 16 (.load 5 true (tp 15)),
  o1 5 (.alloc [(.str []), (.int .i64 0), (.str []), (.int .i64 0), (.int .i64 0)]),
  ⟨none, .store 5 (tp 5) (tp 16), none, []⟩])
 (.seq (.seq (.ops false [o1 17 (.fldA 4 (tp 5)),
  o1 18 (.load 1 false (tp 17)),
  o1 19 (.bin .neq 0 [] (tp 18) (ci 1))])
 (.cond (tp 19) (.exit 1) (.skip)))
 (.seq (.ops false [o1 20 (.mv (tp 3)),
  o1 21 (.fldA 1 (tp 5)),
  o1 22 (.fldA 1 (tp 21)),
  o1 23 (.load 1 false (tp 22)),
  o1 24 (.mapGet .str (.agg [(.int .i64), (.int .i64), (.int .i64), (.int .i64)]) [(.int .i64 0), (.int .i64 0), (.int .i64 0), (.int .i64 0)] false (tp 20) (tp 23)),
  o1 6 (.allocA (.int .i64) [(.int .i64 0), (.int .i64 0), (.int .i64 0), (.int .i64 0)] 4),
  ⟨none, .store 4 (tp 6) (tp 24), none, []⟩])
 (.seq (.ops false [o1 26 (.fldA 1 (tp 5)),
  o1 27 (.load 3 true (tp 26)),
  o1 28 (.call (.con (.fn 194 [] [])) [(tp 27)]),
  o1 25 (.mv (tp 28)),
  o1 29 (.ext 0 (tp 25)),
  o1 30 (.ext 1 (tp 25)),
  o1 7 (.mv (tp 29)),
  o1 8 (.mv (tp 30))])
 (.seq (.ops false [o1 31 (.ixP (.int .i64) 4 (tp 6) (ci 0)),
  o1 32 (.load 1 false (tp 31)),
  o1 33 (.mv (tp 7)),
  o1 34 (.mx (tp 33) [(ci 0)]),
  o1 35 (.bin .add 0 [] (tp 32) (tp 34)),
  o1 36 (.ixP (.int .i64) 4 (tp 6) (ci 0)),
  ⟨none, .store 1 (tp 36) (tp 35), none, []⟩])
 (.seq (.ops false [o1 37 (.ixP (.int .i64) 4 (tp 6) (ci 1)),
  o1 38 (.load 1 false (tp 37)),
  o1 39 (.mv (tp 7)),
  o1 40 (.un .neg (tp 39)),
  o1 41 (.mx (tp 40) [(ci 0)]),
  o1 42 (.bin .add 0 [] (tp 38) (tp 41)),
  o1 43 (.ixP (.int .i64) 4 (tp 6) (ci 1)),
  ⟨none, .store 1 (tp 43) (tp 42), none, []⟩])
 (.seq (.ops false [o1 44 (.ixP (.int .i64) 4 (tp 6) (ci 2)),
  o1 45 (.load 1 false (tp 44)),
  o1 46 (.mv (tp 8)),
  o1 47 (.mx (tp 46) [(ci 0)]),
  o1 48 (.bin .add 0 [] (tp 45) (tp 47)),
  o1 49 (.ixP (.int .i64) 4 (tp 6) (ci 2)),
  ⟨none, .store 1 (tp 49) (tp 48), none, []⟩])
 (.seq (.ops false [o1 50 (.ixP (.int .i64) 4 (tp 6) (ci 3)),
  o1 51 (.load 1 false (tp 50)),
  o1 52 (.mv (tp 8)),
  o1 53 (.un .neg (tp 52)),
  o1 54 (.mx (tp 53) [(ci 0)]),
  o1 55 (.bin .add 0 [] (tp 51) (tp 54)),
  o1 56 (.ixP (.int .i64) 4 (tp 6) (ci 3)),
  ⟨none, .store 1 (tp 56) (tp 55), none, []⟩])
 (.ops false [o1 57 (.mv (tp 3)),
  o1 58 (.fldA 1 (tp 5)),
  o1 59 (.fldA 1 (tp 58)),
  o1 60 (.load 1 false (tp 59)),
  o1 61 (.load 4 true (tp 6)),
  ⟨none, .mapSet .str (tp 57) (tp 60) (tp 61), none, []⟩]))))))))))
 (.ops false [o1 62 (.bin .add 0 [] (tp 13) (ci 1)),
  o1 13 (.mv (tp 62))])))))))
 (.seq (.ops false [o1 63 (.mv (tp 3)),
  o1 2 (.mv (tp 63))])
 (.ret))))⟩
/-- slices.BinarySearchFunc[[]entente/api.Saga,entente/api.Saga,entente/api.Id] -/
def c159 : AFn := ⟨49, [.tmp 6, .tmp 7], .seq (.ops false [o1 4 (.box (tp 1)),
  o1 6 (.mv (ci 0)),
  o1 7 (.mv (.con (.d (.bool false))))])
 (.seq (.ops false [o1 12 (.mv (tp 0)),
  o1 13 (.len 1 (tp 12)),
  o1 8 (.mv (tp 13))])
 (.seq (.ops false [o1 14 (.mv (tp 8)),
  o1 9 (.mv (ci 0)),
  o1 10 (.mv (tp 14))])
 (.seq (.block 0 (.loop 0 (some ([0, 2, 4, 8, 9, 10], [0, 1, 2, 3, 4, 5, 6, 7, 320, 321, 322, 323, 352, 353, 3008, 3009, 3010, 3011, 3040, 3041])) (.seq (.seq (.ops false [o1 15 (.mv (tp 9)),
  o1 16 (.mv (tp 10)),
  o1 17 (.bin .lss 0 [] (tp 15) (tp 16))])
 (.cond (tp 17) (.skip) (.exit 0)))
 (.block 1 (.seq (.ops false [o1 18 (.mv (tp 9)),
  o1 19 (.mv (tp 10)),
  o1 20 (.bin .add 0 [] (tp 18) (tp 19)),
  o1 21 (.conv (.int .u64) (tp 20)),
  o1 22 (.bin .shr 0 [] (tp 21) (.con (.d (.int .u64 1)))),
  o1 23 (.conv (.int .i64) (tp 22)),
  o1 11 (.mv (tp 23))])
 (.seq (.ops true [o1 24 (.mv (tp 2)),
  o1 25 (.mv (tp 0)),
  o1 26 (.mv (tp 11)),
  o2 27 (.ixS (.agg [(.int .i64), (.int .i64), (.sl hA), .str, (.sl hB), (.int .i64), (.int .i64), (.sl hA), .bool]) (tp 25) (tp 26)) [1, 2],
  o2 28 (.load 9 true (tp 27)) [3],
  o1 29 (.load 3 true (tp 4)),
  o2 30 (.call (tp 24) [(tp 28), (tp 29)]) [0, 4, 5],
  o2 31 (.bin .lss 0 [] (tp 30) (ci 0)) [6]])
 (.cond (tp 31) (.ops false [o1 32 (.mv (tp 11)),
  o1 33 (.bin .add 0 [] (tp 32) (ci 1)),
  o1 9 (.mv (tp 33))]) (.ops false [o1 34 (.mv (tp 11)),
  o1 10 (.mv (tp 34))]))))))))
 (.seq (.ops true [o1 35 (.mv (tp 9)),
  o1 36 (.mv (tp 9)),
  o1 37 (.mv (tp 8)),
  o2 38 (.bin .lss 0 [] (tp 36) (tp 37)) [1, 2],
  o2 39 (.mv (tp 38)) [3],
  o3 40 (.mv (tp 2)) 39 true [4],
  o3 41 (.mv (tp 0)) 39 true [4],
  o3 42 (.mv (tp 9)) 39 true [4],
  o3 43 (.ixS (.agg [(.int .i64), (.int .i64), (.sl hA), .str, (.sl hB), (.int .i64), (.int .i64), (.sl hA), .bool]) (tp 41) (tp 42)) 39 true [4, 6, 7],
  o3 44 (.load 9 true (tp 43)) 39 true [4, 8],
  o3 45 (.load 3 true (tp 4)) 39 true [4],
  o3 46 (.call (tp 40) [(tp 44), (tp 45)]) 39 true [4, 5, 9, 10],
  o3 47 (.bin .eql 0 [] (tp 46) (ci 0)) 39 true [4, 11],
  o2 48 (.pick (tp 39) (tp 47) (.con (.d (.bool false)))) [4, 12],
  o2 6 (.mv (tp 35)) [0, 11],
  o2 7 (.mv (tp 48)) [0, 1, 2, 3, 4, 5, 6, 7, 8, 9, 10, 11, 12, 13, 14]])
 (.ret)))))⟩
/-- (*entente/state.holder).place$1 -/
def c160 : AFn := ⟨9, [.tmp 4], .seq (.ops false [o1 2 (.box (tp 0)),
  o1 3 (.box (tp 1)),
  o1 4 (.mv (ci 0))])
 (.seq (.ops false [o1 5 (.fldA 0 (tp 2)),
  o1 6 (.load 3 true (tp 5)),
  o1 7 (.load 3 true (tp 3)),
  o1 8 (.call (.con (.fn 93 [] [])) [(tp 6), (tp 7)]),
  o1 4 (.mv (tp 8))])
 (.ret))⟩
/-- entente/book.place -/
def c161 : AFn := ⟨11, [.tmp 4, .tmp 5], .seq (.ops false [o1 4 (.mv (ci 0)),
  o1 5 (.mv (.con (.d (.bool false))))])
 (.seq (.ops false [o1 6 (.mv (tp 0)),
  o1 7 (.mv (tp 1)),
  o1 8 (.call (.con (.fn 195 [] [])) [(tp 6), (tp 7), (.con (.fn 196 [] []))]),
  o1 9 (.ext 0 (tp 8)),
  o1 10 (.ext 1 (tp 8)),
  o1 4 (.mv (tp 9)),
  o1 5 (.mv (tp 10))])
 (.ret))⟩
/-- entente/book.copied -/
def c162 : AFn := ⟨9, [.cell 2 2 true], .seq (.ops false [o1 1 (.box (tp 0)),
  o1 2 (.alloc [(.str []), (.sl hB true [])])])
 (.seq (.ops true [o1 3 (.fldA 0 (tp 1)),
  o2 4 (.load 1 false (tp 3)) [0],
  o1 5 (.fldA 1 (tp 1)),
  o2 6 (.load 1 false (tp 5)) [2],
  o2 7 (.call (.con (.fn 147 [] [])) [(tp 6)]) [3],
  o2 8 (.build [(.str []), (.sl hB true [])] [(0, 1, (tp 4)), (1, 1, (tp 7))]) [1, 4],
  ⟨none, .store 2 (tp 2) (tp 8), none, [0, 1, 2, 3, 4, 5]⟩])
 (.ret))⟩
/-- entente/ententeref06.Check -/
def c164 : AFn := ⟨27, [.tmp 2], .seq (.ops false [o1 1 (.box (tp 0)),
  o1 2 (.mv (ci 0))])
 (.seq (.seq (.ops false [o1 3 (.fldA 0 (tp 1)),
  o1 4 (.load 1 false (tp 3)),
  o1 5 (.bin .lss 0 [] (tp 4) (ci 1)),
  o1 6 (.mv (tp 5)),
  o3 7 (.fldA 0 (tp 1)) 6 false [],
  o3 8 (.load 1 false (tp 7)) 6 false [],
  o3 9 (.bin .gtr 0 [] (tp 8) (ci 4)) 6 false [],
  o1 10 (.pick (tp 6) (.con (.d (.bool true))) (tp 9)),
  o1 11 (.mv (tp 10)),
  o3 12 (.fldA 1 (tp 1)) 11 false [],
  o3 13 (.load 1 false (tp 12)) 11 false [],
  o3 14 (.call (.con (.fn 117 [] [])) [(tp 13)]) 11 false [],
  o3 15 (.un .not (tp 14)) 11 false [],
  o1 16 (.pick (tp 11) (.con (.d (.bool true))) (tp 15)),
  o1 17 (.mv (tp 16)),
  o3 18 (.fldA 2 (tp 1)) 17 false [],
  o3 19 (.load 1 false (tp 18)) 17 false [],
  o3 20 (.bin .lss 0 [] (tp 19) (ci 1)) 17 false [],
  o1 21 (.pick (tp 17) (.con (.d (.bool true))) (tp 20)),
  o1 22 (.mv (tp 21)),
  o3 23 (.fldA 2 (tp 1)) 22 false [],
  o3 24 (.load 1 false (tp 23)) 22 false [],
  o3 25 (.bin .gtr 0 [] (tp 24) (ci 1000000000000000)) 22 false [],
  o1 26 (.pick (tp 22) (.con (.d (.bool true))) (tp 25))])
 (.cond (tp 26) (.seq (.ops false [o1 2 (.mv (ci 60))])
 (.ret)) (.skip)))
 (.seq (.ops false [o1 2 (.mv (ci 0))])
 (.ret)))⟩
/-- (*entente/lexic.scanner).scan -/
def c171 : AFn := ⟨137, [.tmp 2], .seq (.ops false [o1 2 (.mv (ci 0))])
 (.scope (.seq (.skip)
 (.seq (.block 0 (.loop 0 (some ([0], [0, 1, 2, 3, 4, 5, 6, 7, 3648, 3649, 3650, 3651, 3680, 3681, 4096, 4097, 4098, 4099, 4128, 4129, 5248, 5249, 5250, 5251, 5280, 5281, 5696, 5697, 5698, 5699, 5728, 5729, 6848, 6849, 6850, 6851, 6880, 6881, 8320, 8321, 8322, 8323, 8352, 8353, 8768, 8769, 8770, 8771, 8800, 8801])) (.seq (.seq (.ops true [o1 5 (.mv (tp 0)),
  o2 6 (.nilck (tp 5)) [0],
  o2 7 (.fldA 0 (tp 6)) [1],
  o2 8 (.fldA 1 (tp 7)) [2],
  o2 9 (.load 1 false (tp 8)) [3],
  o1 10 (.mv (tp 0)),
  o2 11 (.nilck (tp 10)) [5],
  o2 12 (.fldA 0 (tp 11)) [6],
  o2 13 (.fldA 0 (tp 12)) [7],
  o2 14 (.load 1 false (tp 13)) [8],
  o2 15 (.len 0 (tp 14)) [9],
  o2 16 (.bin .lss 0 [] (tp 9) (tp 15)) [4, 10]])
 (.cond (tp 16) (.skip) (.exit 0)))
 (.block 1 (.seq (.ops false [o1 17 (.mv (tp 0)),
  o1 18 (.nilck (tp 17)),
  o1 19 (.fldA 0 (tp 18)),
  o1 20 (.fldA 1 (tp 19)),
  o1 21 (.load 1 false (tp 20)),
  o1 3 (.mv (tp 21))])
 (.seq (.ops false [o1 22 (.mv (tp 0)),
  o1 23 (.nilck (tp 22)),
  o1 24 (.fldA 0 (tp 23)),
  o1 25 (.fldA 0 (tp 24)),
  o1 26 (.load 1 false (tp 25)),
  o1 27 (.mv (tp 3)),
  o1 28 (.ixStr (tp 26) (tp 27)),
  o1 4 (.mv (tp 28))])
 (.block 2 (.seq (.ops false [o1 31 (.mv (tp 4)),
  o1 32 (.bin .eql 0 [] (tp 31) (.con (.d (.int .u8 32)))),
  o1 33 (.mv (tp 32)),
  o3 34 (.mv (tp 4)) 33 false [],
  o3 35 (.bin .eql 0 [] (tp 34) (.con (.d (.int .u8 9)))) 33 false [],
  o1 36 (.pick (tp 33) (.con (.d (.bool true))) (tp 35)),
  o1 37 (.mv (tp 36)),
  o3 38 (.mv (tp 4)) 37 false [],
  o3 39 (.bin .eql 0 [] (tp 38) (.con (.d (.int .u8 10)))) 37 false [],
  o1 40 (.pick (tp 37) (.con (.d (.bool true))) (tp 39)),
  o1 30 (.mv (tp 40))])
 (.cond (tp 30) (.seq (.ops false [o1 41 (.mv (tp 0)),
  o1 42 (.nilck (tp 41)),
  o1 43 (.fldA 0 (tp 42)),
  o1 44 (.fldA 1 (tp 43)),
  o1 45 (.load 1 false (tp 44)),
  o1 46 (.bin .add 0 [] (tp 45) (ci 1)),
  o1 47 (.nilck (tp 41)),
  o1 48 (.fldA 0 (tp 47)),
  o1 49 (.fldA 1 (tp 48)),
  ⟨none, .store 1 (tp 49) (tp 46), none, []⟩])
 (.exit 1)) (.seq (.ops false [o1 51 (.mv (tp 4)),
  o1 52 (.bin .eql 0 [] (tp 51) (.con (.d (.int .u8 35)))),
  o1 50 (.mv (tp 52))])
 (.cond (tp 50) (.seq (.ops false [o1 53 (.mv (tp 0)),
  o1 54 (.nilck (tp 53)),
  o1 55 (.fldA 0 (tp 54)),
  o1 56 (.call (.con (.fn 198 [] [])) [(tp 55), (.con (.fn 199 [] []))])])
 (.exit 1)) (.seq (.ops false [o1 58 (.mv (tp 4)),
  o1 59 (.call (.con (.fn 200 [] [])) [(tp 58)]),
  o1 57 (.mv (tp 59))])
 (.cond (tp 57) (.seq (.ops false [o1 60 (.mv (tp 0)),
  o1 61 (.nilck (tp 60)),
  o1 62 (.fldA 0 (tp 61)),
  o1 63 (.call (.con (.fn 198 [] [])) [(tp 62), (.con (.fn 201 [] []))])])
 (.seq (.seq (.ops true [o1 64 (.mv (tp 0)),
  o2 65 (.nilck (tp 64)) [0],
  o2 66 (.fldA 0 (tp 65)) [1],
  o2 67 (.fldA 0 (tp 66)) [2],
  o2 68 (.load 1 false (tp 67)) [3],
  o1 69 (.mv (tp 3)),
  o1 70 (.mv (tp 0)),
  o2 71 (.nilck (tp 70)) [6],
  o2 72 (.fldA 0 (tp 71)) [7],
  o2 73 (.fldA 1 (tp 72)) [8],
  o2 74 (.load 1 false (tp 73)) [9],
  o2 75 (.slcS (tp 68) (some (tp 69)) (some (tp 74))) [4, 5, 10],
  o2 76 (.call (.con (.fn 203 [] [])) [(tp 75)]) [11],
  o2 77 (.un .not (tp 76)) [12]])
 (.cond (tp 77) (.seq (.ops false [o1 78 (.mv (tp 3)),
  o1 2 (.mv (tp 78))])
 (.ret)) (.skip)))
 (.ops false [o1 79 (.mv (tp 0)),
  o1 80 (.mv (tp 3)),
  o1 81 (.call (.con (.fn 204 [] [])) [(tp 79), (ci 1), (tp 80)])]))) (.seq (.ops false [o1 83 (.mv (tp 4)),
  o1 84 (.call (.con (.fn 202 [] [])) [(tp 83)]),
  o1 82 (.mv (tp 84))])
 (.cond (tp 82) (.seq (.ops false [o1 85 (.mv (tp 0)),
  o1 86 (.nilck (tp 85)),
  o1 87 (.fldA 0 (tp 86)),
  o1 88 (.call (.con (.fn 198 [] [])) [(tp 87), (.con (.fn 202 [] []))])])
 (.seq (.seq (.ops true [o1 89 (.mv (tp 0)),
  o2 90 (.nilck (tp 89)) [0],
  o2 91 (.fldA 0 (tp 90)) [1],
  o2 92 (.fldA 0 (tp 91)) [2],
  o2 93 (.load 1 false (tp 92)) [3],
  o1 94 (.mv (tp 3)),
  o1 95 (.mv (tp 0)),
  o2 96 (.nilck (tp 95)) [6],
  o2 97 (.fldA 0 (tp 96)) [7],
  o2 98 (.fldA 1 (tp 97)) [8],
  o2 99 (.load 1 false (tp 98)) [9],
  o2 100 (.slcS (tp 93) (some (tp 94)) (some (tp 99))) [4, 5, 10],
  o2 101 (.call (.con (.fn 205 [] [])) [(tp 100)]) [11],
  o2 102 (.un .not (tp 101)) [12]])
 (.cond (tp 102) (.seq (.ops false [o1 103 (.mv (tp 3)),
  o1 2 (.mv (tp 103))])
 (.ret)) (.skip)))
 (.ops false [o1 104 (.mv (tp 0)),
  o1 105 (.mv (tp 3)),
  o1 106 (.call (.con (.fn 204 [] [])) [(tp 104), (ci 2), (tp 105)])]))) (.seq (.ops false [o1 108 (.mv (tp 4)),
  o1 109 (.bin .eql 0 [] (tp 108) (.con (.d (.int .u8 123)))),
  o1 110 (.mv (tp 109)),
  o3 111 (.mv (tp 4)) 110 false [],
  o3 112 (.bin .eql 0 [] (tp 111) (.con (.d (.int .u8 125)))) 110 false [],
  o1 113 (.pick (tp 110) (.con (.d (.bool true))) (tp 112)),
  o1 114 (.mv (tp 113)),
  o3 115 (.mv (tp 4)) 114 false [],
  o3 116 (.bin .eql 0 [] (tp 115) (.con (.d (.int .u8 59)))) 114 false [],
  o1 117 (.pick (tp 114) (.con (.d (.bool true))) (tp 116)),
  o1 107 (.mv (tp 117))])
 (.cond (tp 107) (.seq (.ops false [o1 118 (.mv (tp 0)),
  o1 119 (.nilck (tp 118)),
  o1 120 (.fldA 0 (tp 119)),
  o1 121 (.fldA 1 (tp 120)),
  o1 122 (.load 1 false (tp 121)),
  o1 123 (.bin .add 0 [] (tp 122) (ci 1)),
  o1 124 (.nilck (tp 118)),
  o1 125 (.fldA 0 (tp 124)),
  o1 126 (.fldA 1 (tp 125)),
  ⟨none, .store 1 (tp 126) (tp 123), none, []⟩])
 (.ops false [o1 127 (.mv (tp 0)),
  o1 128 (.mv (tp 3)),
  o1 129 (.call (.con (.fn 204 [] [])) [(tp 127), (ci 3), (tp 128)])])) (.seq (.ops false [o1 29 (.mv (tp 3)),
  o1 2 (.mv (tp 29))])
 (.ret)))))))))))))))))))
 (.seq (.ops false [o1 130 (.mv (tp 0)),
  o1 131 (.mv (tp 0)),
  o1 132 (.nilck (tp 131)),
  o1 133 (.fldA 0 (tp 132)),
  o1 134 (.fldA 1 (tp 133)),
  o1 135 (.load 1 false (tp 134)),
  o1 136 (.call (.con (.fn 204 [] [])) [(tp 130), (ci 0), (tp 135)])])
 (.seq (.ops false [o1 2 (.mv (ci (-1)))])
 (.ret))))))⟩
/-- entente/lexic.Check -/
def c172 : AFn := ⟨52, [.tmp 2], .seq (.ops false [o1 2 (.mv (ci 0))])
 (.seq (.ops false [o1 7 (.mv (tp 0)),
  o1 8 (.len 1 (tp 7)),
  o1 9 (.bin .sub 0 [] (tp 8) (ci 1)),
  o1 3 (.mv (tp 9))])
 (.seq (.seq (.ops false [o1 10 (.mv (tp 3)),
  o1 11 (.bin .lss 0 [] (tp 10) (ci 0)),
  o1 12 (.mv (tp 11)),
  o3 13 (.mv (tp 0)) 12 false [],
  o3 14 (.mv (tp 3)) 12 false [],
  o3 15 (.ixS (.agg [(.int .i64), .str, (.int .i64)]) (tp 13) (tp 14)) 12 false [],
  o3 16 (.fldA 0 (tp 15)) 12 false [],
  o3 17 (.load 1 false (tp 16)) 12 false [],
  o3 18 (.bin .neq 0 [] (tp 17) (ci 0)) 12 false [],
  o1 19 (.pick (tp 12) (.con (.d (.bool true))) (tp 18)),
  o1 20 (.mv (tp 19)),
  o3 21 (.mv (tp 0)) 20 false [],
  o3 22 (.mv (tp 3)) 20 false [],
  o3 23 (.ixS (.agg [(.int .i64), .str, (.int .i64)]) (tp 21) (tp 22)) 20 false [],
  o3 24 (.fldA 1 (tp 23)) 20 false [],
  o3 25 (.load 1 false (tp 24)) 20 false [],
  o3 26 (.bin .neq 0 [] (tp 25) (.con (.d (.str [])))) 20 false [],
  o1 27 (.pick (tp 20) (.con (.d (.bool true))) (tp 26))])
 (.cond (tp 27) (.seq (.ops false [o1 2 (.mv (ci 80))])
 (.ret)) (.skip)))
 (.seq (.ops false [o1 4 (.mv (ci 0))])
 (.seq (.seq (.ops false [o1 28 (.mv (tp 0)),
  o1 29 (.mv (tp 3)),
  o1 30 (.slc (.agg [(.int .i64), .str, (.int .i64)]) (tp 28) none (some (tp 29))),
  o1 31 (.len 1 (tp 30)),
  o1 32 (.mv (ci 0))])
 (.block 0 (.loop 0 (some ([4, 30, 31, 32], [0, 1, 2, 3, 4, 5, 6, 7])) (.seq (.ops false [o1 33 (.bin .lss 0 [] (tp 32) (tp 31))])
 (.seq (.cond (tp 33) (.skip) (.exit 0))
 (.seq (.block 1 (.seq (.ops false [o1 34 (.mv (tp 32)),
  o1 35 (.ixS (.agg [(.int .i64), .str, (.int .i64)]) (tp 30) (tp 32)),
  o1 36 (.load 3 true (tp 35)),
  o1 6 (.alloc [(.int .i64 0), (.str []), (.int .i64 0)]),
  o1 5 (.mv (tp 34)),
  ⟨none, .store 3 (tp 6) (tp 36), none, []⟩])
 (.seq (.seq (.ops false [o1 37 (.load 3 true (tp 6)),
  o1 38 (.call (.con (.fn 206 [] [])) [(tp 37)]),
  o1 39 (.un .not (tp 38))])
 (.cond (tp 39) (.seq (.ops false [o1 2 (.mv (ci 80))])
 (.ret)) (.skip)))
 (.ops false [o1 40 (.mv (tp 4)),
  o1 41 (.fldA 1 (tp 6)),
  o1 42 (.load 1 false (tp 41)),
  o1 43 (.len 0 (tp 42)),
  o1 44 (.bin .add 0 [] (tp 40) (tp 43)),
  o1 45 (.mv (tp 5)),
  o1 46 (.mn (tp 45) [(ci 1)]),
  o1 47 (.bin .add 0 [] (tp 44) (tp 46)),
  o1 48 (.mn (tp 47) [(ci 2001)]),
  o1 4 (.mv (tp 48))]))))
 (.ops false [o1 49 (.bin .add 0 [] (tp 32) (ci 1)),
  o1 32 (.mv (tp 49))])))))))
 (.seq (.seq (.ops false [o1 50 (.mv (tp 4)),
  o1 51 (.bin .gtr 0 [] (tp 50) (ci 2000))])
 (.cond (tp 51) (.seq (.ops false [o1 2 (.mv (ci 3))])
 (.ret)) (.skip)))
 (.seq (.ops false [o1 2 (.mv (ci 0))])
 (.ret)))))))⟩
/-- (*entente/def.reader).def -/
def c173 : AFn := ⟨33, [.cell 2 2 true], .seq (.ops false [o1 2 (.alloc [(.str []), (.sl hB true [])])])
 (.seq (.ops false [o1 4 (.mv (tp 0)),
  o1 5 (.call (.con (.fn 207 [] [])) [(tp 4), (ci 1), (.con (.d (.str [115, 97, 103, 97])))])])
 (.seq (.ops false [o1 6 (.mv (tp 0)),
  o1 7 (.call (.con (.fn 208 [] [])) [(tp 6), (ci 1)]),
  o1 8 (.build [(.str []), (.sl hB true [])] [(0, 1, (tp 7))]),
  o1 3 (.alloc [(.str []), (.sl hB true [])]),
  ⟨none, .store 2 (tp 3) (tp 8), none, []⟩])
 (.seq (.ops false [o1 9 (.mv (tp 0)),
  o1 10 (.call (.con (.fn 207 [] [])) [(tp 9), (ci 3), (.con (.d (.str [123])))])])
 (.seq (.block 0 (.loop 0 (some ([0, 2, 3], [0, 1, 2, 3, 4, 5, 6, 7, 192, 193, 194, 195, 224, 225, 256, 257, 258, 259, 288, 289, 384, 385, 386, 387, 416, 417, 512, 513, 514, 515, 544, 545, 704, 705, 706, 707, 736, 737, 1856, 1857, 1858, 1859, 1888, 1889, 2048, 2049, 2050, 2051, 2080, 2081])) (.seq (.seq (.ops false [o1 11 (.mv (tp 0)),
  o1 12 (.nilck (tp 11)),
  o1 13 (.fldA 2 (tp 12)),
  o1 14 (.load 1 false (tp 13)),
  o1 15 (.un .not (tp 14)),
  o1 16 (.mv (tp 15)),
  o3 17 (.mv (tp 0)) 16 true [],
  o3 18 (.nilck (tp 17)) 16 true [],
  o3 19 (.fldA 0 (tp 18)) 16 true [],
  o3 20 (.call (.con (.fn 209 [] [])) [(tp 19), (ci 3), (.con (.d (.str [125])))]) 16 true [],
  o3 21 (.un .not (tp 20)) 16 true [],
  o1 22 (.pick (tp 16) (tp 21) (.con (.d (.bool false))))])
 (.cond (tp 22) (.skip) (.exit 0)))
 (.block 1 (.ops true [o1 23 (.fldA 1 (tp 3)),
  o2 24 (.load 1 false (tp 23)) [0],
  o1 25 (.mv (tp 0)),
  o2 26 (.call (.con (.fn 210 [] [])) [(tp 25)]) [2],
  o2 27 (.buildSl hB [(.int .i64 0), (.str []), (.int .i64 0), (.int .i64 0), (.str []), (.int .i64 0), (.int .i64 0)] 1 [(0, 7, (tp 26))]) [3],
  o2 28 (.appd hB (tp 24) (tp 27)) [1, 3, 4],
  o2 29 (.fldA 1 (tp 3)) [0, 1, 2, 3, 4, 5],
  ⟨none, .store 1 (tp 29) (tp 28), none, [0, 1, 2, 3, 4, 5, 6]⟩])))))
 (.seq (.ops false [o1 30 (.mv (tp 0)),
  o1 31 (.call (.con (.fn 207 [] [])) [(tp 30), (ci 3), (.con (.d (.str [125])))])])
 (.seq (.ops false [o1 32 (.load 2 true (tp 3)),
  ⟨none, .store 2 (tp 2) (tp 32), none, []⟩])
 (.ret)))))))⟩
/-- (*entente/def.place).here -/
def c174 : AFn := ⟨13, [.cell 2 3 true], .seq (.ops false [o1 2 (.alloc [(.int .i64 0), (.str []), (.int .i64 0)])])
 (.seq (.ops true [o1 3 (.mv (tp 0)),
  o2 4 (.nilck (tp 3)) [0],
  o2 5 (.fldA 0 (tp 4)) [1],
  o2 6 (.load 1 false (tp 5)) [2],
  o1 7 (.mv (tp 0)),
  o2 8 (.nilck (tp 7)) [4],
  o2 9 (.fldA 1 (tp 8)) [5],
  o2 10 (.load 1 false (tp 9)) [6],
  o2 11 (.ixS (.agg [(.int .i64), .str, (.int .i64)]) (tp 6) (tp 10)) [3, 7],
  o2 12 (.load 3 true (tp 11)) [8],
  ⟨none, .store 3 (tp 2) (tp 12), none, [0, 1, 2, 3, 4, 5, 6, 7, 8, 9]⟩])
 (.ret))⟩
/-- internal/strconv.FormatInt -/
def c175 : AFn := ⟨54, [.tmp 4], .seq (.ops false [o1 4 (.mv (.con (.d (.str []))))])
 (.seq (.seq (.ops false [o1 10 (.mv (tp 1)),
  o1 11 (.bin .eql 0 [] (tp 10) (ci 10))])
 (.cond (tp 11) (.seq (.seq (.ops false [o1 12 (.mv (tp 0)),
  o1 13 (.bin .leq 0 [] (ci 0) (tp 12)),
  o1 14 (.mv (tp 13)),
  o3 15 (.mv (tp 0)) 14 true [],
  o3 16 (.bin .lss 0 [] (tp 15) (ci 100)) 14 true [],
  o1 17 (.pick (tp 14) (tp 16) (.con (.d (.bool false))))])
 (.cond (tp 17) (.seq (.ops false [o1 18 (.mv (tp 0)),
  o1 19 (.call (.con (.fn 211 [] [])) [(tp 18)]),
  o1 4 (.mv (tp 19))])
 (.ret)) (.skip)))
 (.seq (.ops false [o1 5 (.allocA (.int .u8) [(.int .u8 0), (.int .u8 0), (.int .u8 0), (.int .u8 0), (.int .u8 0), (.int .u8 0), (.int .u8 0), (.int .u8 0), (.int .u8 0), (.int .u8 0), (.int .u8 0), (.int .u8 0), (.int .u8 0), (.int .u8 0), (.int .u8 0), (.int .u8 0), (.int .u8 0), (.int .u8 0), (.int .u8 0), (.int .u8 0), (.int .u8 0), (.int .u8 0), (.int .u8 0), (.int .u8 0)] 24)])
 (.seq (.ops false [o1 20 (.mv (tp 0)),
  o1 21 (.conv (.int .u64) (tp 20)),
  o1 6 (.mv (tp 21))])
 (.seq (.seq (.ops false [o1 22 (.mv (tp 0)),
  o1 23 (.bin .lss 0 [] (tp 22) (ci 0))])
 (.cond (tp 23) (.ops false [o1 24 (.mv (tp 6)),
  o1 25 (.un .neg (tp 24)),
  o1 6 (.mv (tp 25))]) (.skip)))
 (.seq (.ops false [o1 26 (.mv (tp 6)),
  o1 27 (.call (.con (.fn 212 [] [])) [(tp 26)]),
  o1 7 (.mv (tp 27))])
 (.seq (.ops false [o1 28 (.mv (tp 7)),
  o1 29 (.bin .add 0 [] (ci 1) (tp 28)),
  o1 30 (.slcA (.int .u8) 24 (tp 5) (some (ci 1)) (some (tp 29))),
  o1 31 (.mv (tp 6)),
  o1 32 (.call (.con (.fn 213 [] [])) [(tp 30), (tp 31)])])
 (.seq (.seq (.ops false [o1 33 (.mv (tp 0)),
  o1 34 (.bin .lss 0 [] (tp 33) (ci 0))])
 (.cond (tp 34) (.seq (.ops false [o1 35 (.ixP (.int .u8) 24 (tp 5) (ci 0)),
  ⟨none, .store 1 (tp 35) (.con (.d (.int .u8 45))), none, []⟩])
 (.seq (.ops false [o1 36 (.mv (tp 7)),
  o1 37 (.bin .add 0 [] (ci 1) (tp 36)),
  o1 38 (.slcA (.int .u8) 24 (tp 5) none (some (tp 37))),
  o1 39 (.conv .b2s (tp 38)),
  o1 4 (.mv (tp 39))])
 (.ret))) (.skip)))
 (.seq (.ops false [o1 40 (.mv (tp 7)),
  o1 41 (.bin .add 0 [] (ci 1) (tp 40)),
  o1 42 (.slcA (.int .u8) 24 (tp 5) (some (ci 1)) (some (tp 41))),
  o1 43 (.conv .b2s (tp 42)),
  o1 4 (.mv (tp 43))])
 (.ret))))))))) (.skip)))
 (.seq (.ops false [o1 45 (.mv (tp 0)),
  o1 46 (.conv (.int .u64) (tp 45)),
  o1 47 (.mv (tp 1)),
  o1 48 (.mv (tp 0)),
  o1 49 (.bin .lss 0 [] (tp 48) (ci 0)),
  o1 50 (.call (.con (.fn 214 [] [])) [(.con (.d (.sl (.int .u8) true []))), (tp 46), (tp 47), (tp 49), (.con (.d (.bool false)))]),
  o1 44 (.mv (tp 50)),
  o1 51 (.ext 0 (tp 44)),
  o1 52 (.ext 1 (tp 44)),
  o1 8 (.mv (tp 51)),
  o1 9 (.mv (tp 52))])
 (.seq (.ops false [o1 53 (.mv (tp 9)),
  o1 4 (.mv (tp 53))])
 (.ret))))⟩
/-- slices.IndexFunc[[]entente/api.Hop,entente/api.Hop] -/
def c176 : AFn := ⟨19, [.tmp 4], .seq (.ops false [o1 4 (.mv (ci 0))])
 (.seq (.seq (.ops false [o1 6 (.mv (tp 0)),
  o1 7 (.len 1 (tp 6)),
  o1 8 (.mv (ci 0))])
 (.block 0 (.loop 0 (some ([0, 1, 7, 8], [0, 1, 2, 3, 4, 5, 6, 7])) (.seq (.ops false [o1 9 (.bin .lss 0 [] (tp 8) (tp 7))])
 (.seq (.cond (tp 9) (.skip) (.exit 0))
 (.seq (.block 1 (.seq (.ops false [o1 10 (.mv (tp 8)),
  o1 5 (.mv (tp 10))])
 (.seq (.ops false [o1 11 (.mv (tp 1)),
  o1 12 (.mv (tp 0)),
  o1 13 (.mv (tp 5)),
  o1 14 (.ixS hA (tp 12) (tp 13)),
  o1 15 (.load 2 true (tp 14)),
  o1 16 (.call (tp 11) [(tp 15)])])
 (.cond (tp 16) (.seq (.ops false [o1 17 (.mv (tp 5)),
  o1 4 (.mv (tp 17))])
 (.ret)) (.skip)))))
 (.ops false [o1 18 (.bin .add 0 [] (tp 8) (ci 1)),
  o1 8 (.mv (tp 18))])))))))
 (.seq (.ops false [o1 4 (.mv (ci (-1)))])
 (.ret)))⟩
/-- slices.IndexFunc[[]entente/api.Step,entente/api.Step] -/
def c177 : AFn := ⟨19, [.tmp 4], .seq (.ops false [o1 4 (.mv (ci 0))])
 (.seq (.seq (.ops false [o1 6 (.mv (tp 0)),
  o1 7 (.len 1 (tp 6)),
  o1 8 (.mv (ci 0))])
 (.block 0 (.loop 0 (some ([0, 1, 7, 8], [0, 1, 2, 3, 4, 5, 6, 7])) (.seq (.ops false [o1 9 (.bin .lss 0 [] (tp 8) (tp 7))])
 (.seq (.cond (tp 9) (.skip) (.exit 0))
 (.seq (.block 1 (.seq (.ops false [o1 10 (.mv (tp 8)),
  o1 5 (.mv (tp 10))])
 (.seq (.ops false [o1 11 (.mv (tp 1)),
  o1 12 (.mv (tp 0)),
  o1 13 (.mv (tp 5)),
  o1 14 (.ixS hB (tp 12) (tp 13)),
  o1 15 (.load 7 true (tp 14)),
  o1 16 (.call (tp 11) [(tp 15)])])
 (.cond (tp 16) (.seq (.ops false [o1 17 (.mv (tp 5)),
  o1 4 (.mv (tp 17))])
 (.ret)) (.skip)))))
 (.ops false [o1 18 (.bin .add 0 [] (tp 8) (ci 1)),
  o1 8 (.mv (tp 18))])))))))
 (.seq (.ops false [o1 4 (.mv (ci (-1)))])
 (.ret)))⟩
/-- (*entente/saga.holder).tail -/
def c178 : AFn := ⟨52, [.tmp 4], .seq (.ops false [o1 4 (.mv (.con (.d (.bool false))))])
 (.seq (.seq (.ops false [o1 7 (.mv (tp 1)),
  o1 5 (.mv (tp 7))])
 (.block 0 (.loop 0 (some ([0, 1, 5], [0, 1, 2, 3, 4, 5, 6, 7])) (.seq (.seq (.ops false [o1 8 (.mv (tp 5)),
  o1 9 (.mv (tp 0)),
  o1 10 (.nilck (tp 9)),
  o1 11 (.fldA 0 (tp 10)),
  o1 12 (.fldA 7 (tp 11)),
  o1 13 (.load 1 false (tp 12)),
  o1 14 (.len 1 (tp 13)),
  o1 15 (.bin .lss 0 [] (tp 8) (tp 14))])
 (.cond (tp 15) (.skip) (.exit 0)))
 (.seq (.block 1 (.seq (.ops false [o1 18 (.mv (tp 5)),
  o1 19 (.mv (tp 1)),
  o1 20 (.bin .eql 0 [] (tp 18) (tp 19)),
  o1 21 (.mv (tp 20)),
  o3 22 (.mv (tp 0)) 21 true [],
  o3 23 (.mv (tp 5)) 21 true [],
  o3 24 (.buildSl (.int .i64) [(.int .i64 0)] 1 [(0, 1, (ci 0))]) 21 true [],
  o3 25 (.call (.con (.fn 98 [] [])) [(tp 22), (tp 23), (tp 24)]) 21 true [],
  o3 26 (.mv (tp 25)) 21 true [],
  o3 27 (.mv (tp 0)) 26 false [],
  o3 28 (.mv (tp 5)) 26 false [],
  o3 29 (.call (.con (.fn 79 [] [])) [(tp 27), (tp 28)]) 26 false [],
  o3 30 (.mv (tp 29)) 26 false [],
  o3 31 (.mv (tp 0)) 30 true [],
  o3 32 (.mv (tp 5)) 30 true [],
  o3 33 (.buildSl (.int .i64) [(.int .i64 0)] 1 [(0, 1, (ci 1))]) 30 true [],
  o3 34 (.call (.con (.fn 98 [] [])) [(tp 31), (tp 32), (tp 33)]) 30 true [],
  o3 35 (.pick (tp 30) (tp 34) (.con (.d (.bool false)))) 26 false [],
  o3 36 (.pick (tp 26) (.con (.d (.bool true))) (tp 35)) 21 true [],
  o1 37 (.pick (tp 21) (tp 36) (.con (.d (.bool false)))),
  o1 6 (.mv (tp 37))])
 (.seq (.ops false [o1 38 (.mv (tp 6)),
  o1 39 (.un .not (tp 38)),
  o1 40 (.mv (tp 39)),
  o3 41 (.mv (tp 0)) 40 true [],
  o3 42 (.nilck (tp 41)) 40 true [],
  o3 43 (.fldA 0 (tp 42)) 40 true [],
  o3 44 (.fldA 7 (tp 43)) 40 true [],
  o3 45 (.load 1 false (tp 44)) 40 true [],
  o3 46 (.mv (tp 5)) 40 true [],
  o3 47 (.ixS hA (tp 45) (tp 46)) 40 true [],
  o3 48 (.load 2 true (tp 47)) 40 true [],
  o3 49 (.build [(.int .i64 0), (.int .i64 0)] []) 40 true [],
  o3 50 (.bin .neq 6 [(.int .i64), (.int .i64)] (tp 48) (tp 49)) 40 true [],
  o1 51 (.pick (tp 40) (tp 50) (.con (.d (.bool false))))])
 (.cond (tp 51) (.seq (.ops false [o1 4 (.mv (.con (.d (.bool false))))])
 (.ret)) (.skip)))))
 (.ops false [o1 16 (.mv (tp 5)),
  o1 17 (.bin .add 0 [] (tp 16) (ci 1)),
  o1 5 (.mv (tp 17))]))))))
 (.seq (.ops false [o1 4 (.mv (.con (.d (.bool true))))])
 (.ret)))⟩
/-- entente/ententeref09.step -/
def c179 : AFn := ⟨78, [.tmp 2], .seq (.ops false [o1 1 (.box (tp 0)),
  o1 2 (.mv (.con (.d (.bool false))))])
 (.seq (.seq (.ops false [o1 4 (.fldA 4 (tp 1)),
  o1 5 (.load 1 false (tp 4)),
  o1 6 (.bin .eql 0 [] (tp 5) (.con (.d (.str []))))])
 (.cond (tp 6) (.seq (.ops false [o1 7 (.fldA 0 (tp 1)),
  o1 8 (.load 3 true (tp 7)),
  o1 9 (.call (.con (.fn 164 [] [])) [(tp 8)]),
  o1 10 (.bin .eql 0 [] (tp 9) (ci 0)),
  o1 11 (.mv (tp 10)),
  o3 12 (.fldA 3 (tp 1)) 11 true [],
  o3 13 (.load 1 false (tp 12)) 11 true [],
  o3 14 (.bin .eql 0 [] (tp 13) (ci 0)) 11 true [],
  o1 15 (.pick (tp 11) (tp 14) (.con (.d (.bool false)))),
  o1 16 (.mv (tp 15)),
  o3 17 (.fldA 6 (tp 1)) 16 true [],
  o3 18 (.load 1 false (tp 17)) 16 true [],
  o3 19 (.bin .eql 0 [] (tp 18) (ci 0)) 16 true [],
  o1 20 (.pick (tp 16) (tp 19) (.con (.d (.bool false)))),
  o1 21 (.mv (tp 20)),
  o3 22 (.fldA 5 (tp 1)) 21 true [],
  o3 23 (.load 1 false (tp 22)) 21 true [],
  o3 24 (.bin .geq 0 [] (tp 23) (ci 1)) 21 true [],
  o1 25 (.pick (tp 21) (tp 24) (.con (.d (.bool false)))),
  o1 26 (.mv (tp 25)),
  o3 27 (.fldA 5 (tp 1)) 26 true [],
  o3 28 (.load 1 false (tp 27)) 26 true [],
  o3 29 (.bin .leq 0 [] (tp 28) (ci 5)) 26 true [],
  o1 30 (.pick (tp 26) (tp 29) (.con (.d (.bool false)))),
  o1 2 (.mv (tp 30))])
 (.ret)) (.skip)))
 (.seq (.ops false [o1 31 (.fldA 0 (tp 1)),
  o1 32 (.fldA 0 (tp 31)),
  o1 33 (.load 1 false (tp 32)),
  o1 34 (.bin .eql 0 [] (tp 33) (ci 0)),
  o1 35 (.mv (tp 34)),
  o3 36 (.fldA 0 (tp 1)) 35 true [],
  o3 37 (.fldA 1 (tp 36)) 35 true [],
  o3 38 (.load 1 false (tp 37)) 35 true [],
  o3 39 (.bin .eql 0 [] (tp 38) (.con (.d (.str [])))) 35 true [],
  o1 40 (.pick (tp 35) (tp 39) (.con (.d (.bool false)))),
  o1 41 (.mv (tp 40)),
  o3 42 (.fldA 0 (tp 1)) 41 true [],
  o3 43 (.fldA 2 (tp 42)) 41 true [],
  o3 44 (.load 1 false (tp 43)) 41 true [],
  o3 45 (.bin .eql 0 [] (tp 44) (ci 0)) 41 true [],
  o1 46 (.pick (tp 41) (tp 45) (.con (.d (.bool false)))),
  o1 47 (.mv (tp 46)),
  o3 48 (.fldA 5 (tp 1)) 47 true [],
  o3 49 (.load 1 false (tp 48)) 47 true [],
  o3 50 (.bin .eql 0 [] (tp 49) (ci 0)) 47 true [],
  o1 51 (.pick (tp 47) (tp 50) (.con (.d (.bool false)))),
  o1 3 (.mv (tp 51))])
 (.seq (.ops false [o1 52 (.mv (tp 3)),
  o1 53 (.mv (tp 52)),
  o3 54 (.fldA 4 (tp 1)) 53 true [],
  o3 55 (.load 1 false (tp 54)) 53 true [],
  o3 56 (.call (.con (.fn 117 [] [])) [(tp 55)]) 53 true [],
  o1 57 (.pick (tp 53) (tp 56) (.con (.d (.bool false)))),
  o1 58 (.mv (tp 57)),
  o3 59 (.fldA 3 (tp 1)) 58 true [],
  o3 60 (.load 1 false (tp 59)) 58 true [],
  o3 61 (.bin .geq 0 [] (tp 60) (ci 0)) 58 true [],
  o1 62 (.pick (tp 58) (tp 61) (.con (.d (.bool false)))),
  o1 63 (.mv (tp 62)),
  o3 64 (.fldA 3 (tp 1)) 63 true [],
  o3 65 (.load 1 false (tp 64)) 63 true [],
  o3 66 (.bin .leq 0 [] (tp 65) (ci 15)) 63 true [],
  o1 67 (.pick (tp 63) (tp 66) (.con (.d (.bool false)))),
  o1 68 (.mv (tp 67)),
  o3 69 (.fldA 6 (tp 1)) 68 true [],
  o3 70 (.load 1 false (tp 69)) 68 true [],
  o3 71 (.bin .geq 0 [] (tp 70) (ci 1)) 68 true [],
  o1 72 (.pick (tp 68) (tp 71) (.con (.d (.bool false)))),
  o1 73 (.mv (tp 72)),
  o3 74 (.fldA 6 (tp 1)) 73 true [],
  o3 75 (.load 1 false (tp 74)) 73 true [],
  o3 76 (.bin .leq 0 [] (tp 75) (ci 50)) 73 true [],
  o1 77 (.pick (tp 73) (tp 76) (.con (.d (.bool false)))),
  o1 2 (.mv (tp 77))])
 (.ret))))⟩
/-- cmp.isNaN[int] -/
def c180 : AFn := ⟨6, [.tmp 2], .seq (.ops false [o1 2 (.mv (.con (.d (.bool false))))])
 (.seq (.ops false [o1 3 (.mv (tp 0)),
  o1 4 (.mv (tp 0)),
  o1 5 (.bin .neq 0 [] (tp 3) (tp 4)),
  o1 2 (.mv (tp 5))])
 (.ret))⟩
/-- (*entente/saga.holder).done -/
def c181 : AFn := ⟨6, [.tmp 2], .seq (.ops false [o1 1 (.box (tp 0)),
  o1 2 (.mv (.con (.d (.bool false))))])
 (.seq (.ops false [o1 3 (.load 1 false (tp 1)),
  o1 4 (.mkF 215 [] [(tp 1)]),
  o1 5 (.call (.con (.fn 77 [] [])) [(tp 3), (tp 4)]),
  o1 2 (.mv (tp 5))])
 (.ret))⟩
/-- (*entente/saga.holder).to -/
def c182 : AFn := ⟨17, [.tmp 6], .seq (.ops false [o1 6 (.mv (.con (.d (.bool false))))])
 (.seq (.ops false [o1 7 (.mv (tp 0)),
  o1 8 (.mv (tp 0)),
  o1 9 (.mv (tp 1)),
  o1 10 (.mv (tp 2)),
  o1 11 (.nilck (tp 7)),
  o1 12 (.fldA 0 (tp 11)),
  o1 13 (.fldA 5 (tp 12)),
  ⟨none, .store 1 (tp 13) (tp 9), none, []⟩,
  o1 14 (.nilck (tp 8)),
  o1 15 (.fldA 0 (tp 14)),
  o1 16 (.fldA 6 (tp 15)),
  ⟨none, .store 1 (tp 16) (tp 10), none, []⟩])
 (.seq (.ops false [o1 6 (.mv (.con (.d (.bool true))))])
 (.ret)))⟩
/-- (*entente/saga.holder).own -/
def c183 : AFn := ⟨29, [], .seq (.ops false [o1 5 (.mv (tp 0)),
  o1 6 (.nilck (tp 5)),
  o1 7 (.fldA 0 (tp 6)),
  o1 8 (.fldA 7 (tp 7)),
  o1 9 (.load 1 false (tp 8)),
  o1 10 (.len 1 (tp 9)),
  o1 11 (.mv (ci 0))])
 (.block 0 (.loop 0 (some ([0, 1, 10, 11], [0, 1, 2, 3, 4, 5, 6, 7, 1792, 1793, 1794, 1795, 1824, 1825])) (.seq (.ops false [o1 12 (.bin .lss 0 [] (tp 11) (tp 10))])
 (.seq (.cond (tp 12) (.skip) (.exit 0))
 (.seq (.block 1 (.seq (.ops false [o1 13 (.mv (tp 11)),
  o1 4 (.mv (tp 13))])
 (.seq (.ops false [o1 14 (.mv (tp 0)),
  o1 15 (.mv (tp 4)),
  o1 16 (.call (.con (.fn 79 [] [])) [(tp 14), (tp 15)]),
  o1 17 (.un .not (tp 16)),
  o1 18 (.mv (tp 17)),
  o3 19 (.mv (tp 0)) 18 true [],
  o3 20 (.mv (tp 4)) 18 true [],
  o3 21 (.buildSl (.int .i64) [(.int .i64 0)] 1 [(0, 1, (ci 2))]) 18 true [],
  o3 22 (.call (.con (.fn 98 [] [])) [(tp 19), (tp 20), (tp 21)]) 18 true [],
  o1 23 (.pick (tp 18) (tp 22) (.con (.d (.bool false))))])
 (.cond (tp 23) (.ops false [o1 24 (.mv (tp 0)),
  o1 25 (.mv (tp 4)),
  o1 26 (.mv (tp 1)),
  o1 27 (.call (.con (.fn 186 [] [])) [(tp 24), (tp 25), (tp 26), (ci 0)])]) (.skip)))))
 (.ops false [o1 28 (.bin .add 0 [] (tp 11) (ci 1)),
  o1 11 (.mv (tp 28))]))))))⟩
/-- (*entente/saga.holder).calm -/
def c184 : AFn := ⟨21, [], .seq (.ops false [o1 3 (.mv (tp 0)),
  o1 4 (.nilck (tp 3)),
  o1 5 (.fldA 0 (tp 4)),
  o1 6 (.fldA 7 (tp 5)),
  o1 7 (.load 1 false (tp 6)),
  o1 8 (.len 1 (tp 7)),
  o1 9 (.mv (ci 0))])
 (.block 0 (.loop 0 (some ([0, 8, 9], [0, 1, 2, 3, 4, 5, 6, 7])) (.seq (.ops false [o1 10 (.bin .lss 0 [] (tp 9) (tp 8))])
 (.seq (.cond (tp 10) (.skip) (.exit 0))
 (.seq (.block 1 (.seq (.ops false [o1 11 (.mv (tp 9)),
  o1 2 (.mv (tp 11))])
 (.ops false [o1 12 (.mv (tp 0)),
  o1 13 (.nilck (tp 12)),
  o1 14 (.fldA 0 (tp 13)),
  o1 15 (.fldA 7 (tp 14)),
  o1 16 (.load 1 false (tp 15)),
  o1 17 (.mv (tp 2)),
  o1 18 (.ixS hA (tp 16) (tp 17)),
  o1 19 (.fldA 1 (tp 18)),
  ⟨none, .store 1 (tp 19) (ci 0), none, []⟩])))
 (.ops false [o1 20 (.bin .add 0 [] (tp 9) (ci 1)),
  o1 9 (.mv (tp 20))]))))))⟩
/-- (*entente/saga.holder).force -/
def c185 : AFn := ⟨45, [.tmp 4], .seq (.ops false [o1 4 (.mv (.con (.d (.bool false))))])
 (.seq (.seq (.ops false [o1 5 (.mv (tp 0)),
  o1 6 (.nilck (tp 5)),
  o1 7 (.fldA 0 (tp 6)),
  o1 8 (.fldA 5 (tp 7)),
  o1 9 (.load 1 false (tp 8)),
  o1 10 (.bin .eql 0 [] (tp 9) (ci 3)),
  o1 11 (.mv (tp 10)),
  o3 12 (.mv (tp 0)) 11 false [],
  o3 13 (.nilck (tp 12)) 11 false [],
  o3 14 (.fldA 0 (tp 13)) 11 false [],
  o3 15 (.fldA 5 (tp 14)) 11 false [],
  o3 16 (.load 1 false (tp 15)) 11 false [],
  o3 17 (.bin .eql 0 [] (tp 16) (ci 6)) 11 false [],
  o1 18 (.pick (tp 11) (.con (.d (.bool true))) (tp 17))])
 (.cond (tp 18) (.seq (.ops false [o1 4 (.mv (.con (.d (.bool false))))])
 (.ret)) (.skip)))
 (.seq (.ops false [o1 19 (.mv (tp 0)),
  o1 20 (.nilck (tp 19)),
  o1 21 (.fldA 0 (tp 20)),
  o1 22 (.fldA 8 (tp 21)),
  ⟨none, .store 1 (tp 22) (.con (.d (.bool true))), none, []⟩])
 (.seq (.ops false [o1 23 (.mv (tp 0)),
  o1 24 (.call (.con (.fn 184 [] [])) [(tp 23)])])
 (.seq (.seq (.ops false [o1 25 (.mv (tp 1)),
  o1 26 (.bin .eql 0 [] (tp 25) (ci 1))])
 (.cond (tp 26) (.seq (.ops false [o1 27 (.mv (tp 0)),
  o1 28 (.call (.con (.fn 183 [] [])) [(tp 27), (ci 4)])])
 (.seq (.ops false [o1 29 (.mv (tp 0)),
  o1 30 (.mv (tp 0)),
  o1 31 (.nilck (tp 30)),
  o1 32 (.fldA 0 (tp 31)),
  o1 33 (.fldA 6 (tp 32)),
  o1 34 (.load 1 false (tp 33)),
  o1 35 (.call (.con (.fn 182 [] [])) [(tp 29), (ci 3), (tp 34)]),
  o1 4 (.mv (tp 35))])
 (.ret))) (.skip)))
 (.seq (.ops false [o1 36 (.mv (tp 0)),
  o1 37 (.call (.con (.fn 183 [] [])) [(tp 36), (ci 3)])])
 (.seq (.ops false [o1 38 (.mv (tp 0)),
  o1 39 (.mv (tp 0)),
  o1 40 (.nilck (tp 39)),
  o1 41 (.fldA 0 (tp 40)),
  o1 42 (.fldA 6 (tp 41)),
  o1 43 (.load 1 false (tp 42)),
  o1 44 (.call (.con (.fn 182 [] [])) [(tp 38), (ci 6), (tp 43)]),
  o1 4 (.mv (tp 44))])
 (.ret)))))))⟩
/-- (*entente/saga.holder).set -/
def c186 : AFn := ⟨19, [.tmp 8], .seq (.ops false [o1 8 (.mv (.con (.d (.bool false))))])
 (.seq (.ops false [o1 9 (.mv (tp 0)),
  o1 10 (.nilck (tp 9)),
  o1 11 (.fldA 0 (tp 10)),
  o1 12 (.fldA 7 (tp 11)),
  o1 13 (.load 1 false (tp 12)),
  o1 14 (.mv (tp 1)),
  o1 15 (.mv (tp 2)),
  o1 16 (.mv (tp 3)),
  o1 17 (.build [(.int .i64 0), (.int .i64 0)] [(0, 1, (tp 15)), (1, 1, (tp 16))]),
  o1 18 (.ixS hA (tp 13) (tp 14)),
  ⟨none, .store 2 (tp 18) (tp 17), none, []⟩])
 (.seq (.ops false [o1 8 (.mv (.con (.d (.bool true))))])
 (.ret)))⟩
/-- (*entente/saga.holder).mine -/
def c187 : AFn := ⟨15, [.tmp 4], .seq (.ops false [o1 4 (.mv (.con (.d (.bool false))))])
 (.seq (.ops false [o1 5 (.mv (tp 1)),
  o1 6 (.mv (tp 0)),
  o1 7 (.call (.con (.fn 90 [] [])) [(tp 6)]),
  o1 8 (.bin .eql 0 [] (tp 5) (tp 7)),
  o1 9 (.mv (tp 8)),
  o3 10 (.mv (tp 0)) 9 true [],
  o3 11 (.mv (tp 1)) 9 true [],
  o3 12 (.call (.con (.fn 79 [] [])) [(tp 10), (tp 11)]) 9 true [],
  o3 13 (.un .not (tp 12)) 9 true [],
  o1 14 (.pick (tp 9) (tp 13) (.con (.d (.bool false)))),
  o1 4 (.mv (tp 14))])
 (.ret))⟩
/-- slices.Index[[]int,int] -/
def c188 : AFn := ⟨19, [.tmp 4], .seq (.ops false [o1 4 (.mv (ci 0))])
 (.seq (.seq (.ops false [o1 6 (.mv (tp 0)),
  o1 7 (.len 1 (tp 6)),
  o1 8 (.mv (ci 0))])
 (.block 0 (.loop 0 (some ([0, 1, 7, 8], [0, 1, 2, 3, 4, 5, 6, 7])) (.seq (.ops false [o1 9 (.bin .lss 0 [] (tp 8) (tp 7))])
 (.seq (.cond (tp 9) (.skip) (.exit 0))
 (.seq (.block 1 (.seq (.ops false [o1 10 (.mv (tp 8)),
  o1 5 (.mv (tp 10))])
 (.seq (.ops false [o1 11 (.mv (tp 1)),
  o1 12 (.mv (tp 0)),
  o1 13 (.mv (tp 5)),
  o1 14 (.ixS (.int .i64) (tp 12) (tp 13)),
  o1 15 (.load 1 false (tp 14)),
  o1 16 (.bin .eql 0 [] (tp 11) (tp 15))])
 (.cond (tp 16) (.seq (.ops false [o1 17 (.mv (tp 5)),
  o1 4 (.mv (tp 17))])
 (.ret)) (.skip)))))
 (.ops false [o1 18 (.bin .add 0 [] (tp 8) (ci 1)),
  o1 8 (.mv (tp 18))])))))))
 (.seq (.ops false [o1 4 (.mv (ci (-1)))])
 (.ret)))⟩
/-- entente/pot.Check -/
def c189 : AFn := ⟨31, [.tmp 2], .seq (.ops false [o1 1 (.box (tp 0)),
  o1 2 (.mv (ci 0))])
 (.seq (.seq (.ops false [o1 3 (.fldA 1 (tp 1)),
  o1 4 (.load 1 false (tp 3)),
  o1 5 (.bin .lss 0 [] (tp 4) (ci 0)),
  o1 6 (.mv (tp 5)),
  o3 7 (.fldA 1 (tp 1)) 6 false [],
  o3 8 (.load 1 false (tp 7)) 6 false [],
  o3 9 (.fldA 0 (tp 1)) 6 false [],
  o3 10 (.load 1 false (tp 9)) 6 false [],
  o3 11 (.bin .gtr 0 [] (tp 8) (tp 10)) 6 false [],
  o1 12 (.pick (tp 6) (.con (.d (.bool true))) (tp 11)),
  o1 13 (.mv (tp 12)),
  o3 14 (.fldA 2 (tp 1)) 13 false [],
  o3 15 (.load 1 false (tp 14)) 13 false [],
  o3 16 (.bin .lss 0 [] (tp 15) (ci 0)) 13 false [],
  o1 17 (.pick (tp 13) (.con (.d (.bool true))) (tp 16)),
  o1 18 (.mv (tp 17)),
  o3 19 (.fldA 0 (tp 1)) 18 false [],
  o3 20 (.load 1 false (tp 19)) 18 false [],
  o3 21 (.bin .gtr 0 [] (tp 20) (ci 1000000000000000)) 18 false [],
  o1 22 (.pick (tp 18) (.con (.d (.bool true))) (tp 21)),
  o1 23 (.mv (tp 22)),
  o3 24 (.fldA 2 (tp 1)) 23 false [],
  o3 25 (.load 1 false (tp 24)) 23 false [],
  o3 26 (.fldA 0 (tp 1)) 23 false [],
  o3 27 (.load 1 false (tp 26)) 23 false [],
  o3 28 (.bin .sub 0 [] (ci 1000000000000000) (tp 27)) 23 false [],
  o3 29 (.bin .gtr 0 [] (tp 25) (tp 28)) 23 false [],
  o1 30 (.pick (tp 23) (.con (.d (.bool true))) (tp 29))])
 (.cond (tp 30) (.seq (.ops false [o1 2 (.mv (ci 2))])
 (.ret)) (.skip)))
 (.seq (.ops false [o1 2 (.mv (ci 0))])
 (.ret)))⟩
/-- slices.BinarySearchFunc[[]entente/api.Account,entente/api.Account,string] -/
def c190 : AFn := ⟨49, [.tmp 6, .tmp 7], .seq (.ops false [o1 6 (.mv (ci 0)),
  o1 7 (.mv (.con (.d (.bool false))))])
 (.seq (.ops false [o1 12 (.mv (tp 0)),
  o1 13 (.len 1 (tp 12)),
  o1 8 (.mv (tp 13))])
 (.seq (.ops false [o1 14 (.mv (tp 8)),
  o1 9 (.mv (ci 0)),
  o1 10 (.mv (tp 14))])
 (.seq (.block 0 (.loop 0 (some ([0, 1, 2, 8, 9, 10], [0, 1, 2, 3, 4, 5, 6, 7, 3008, 3009, 3010, 3011, 3040, 3041])) (.seq (.seq (.ops false [o1 15 (.mv (tp 9)),
  o1 16 (.mv (tp 10)),
  o1 17 (.bin .lss 0 [] (tp 15) (tp 16))])
 (.cond (tp 17) (.skip) (.exit 0)))
 (.block 1 (.seq (.ops false [o1 18 (.mv (tp 9)),
  o1 19 (.mv (tp 10)),
  o1 20 (.bin .add 0 [] (tp 18) (tp 19)),
  o1 21 (.conv (.int .u64) (tp 20)),
  o1 22 (.bin .shr 0 [] (tp 21) (.con (.d (.int .u64 1)))),
  o1 23 (.conv (.int .i64) (tp 22)),
  o1 11 (.mv (tp 23))])
 (.seq (.ops false [o1 24 (.mv (tp 2)),
  o1 25 (.mv (tp 0)),
  o1 26 (.mv (tp 11)),
  o1 27 (.ixS (.agg [.str, (.int .i64), (.int .i64), (.int .i64), (.int .i64), (.int .i64), (.int .i64)]) (tp 25) (tp 26)),
  o1 28 (.load 7 true (tp 27)),
  o1 29 (.mv (tp 1)),
  o1 30 (.call (tp 24) [(tp 28), (tp 29)]),
  o1 31 (.bin .lss 0 [] (tp 30) (ci 0))])
 (.cond (tp 31) (.ops false [o1 32 (.mv (tp 11)),
  o1 33 (.bin .add 0 [] (tp 32) (ci 1)),
  o1 9 (.mv (tp 33))]) (.ops false [o1 34 (.mv (tp 11)),
  o1 10 (.mv (tp 34))]))))))))
 (.seq (.ops false [o1 35 (.mv (tp 9)),
  o1 36 (.mv (tp 9)),
  o1 37 (.mv (tp 8)),
  o1 38 (.bin .lss 0 [] (tp 36) (tp 37)),
  o1 39 (.mv (tp 38)),
  o3 40 (.mv (tp 2)) 39 true [],
  o3 41 (.mv (tp 0)) 39 true [],
  o3 42 (.mv (tp 9)) 39 true [],
  o3 43 (.ixS (.agg [.str, (.int .i64), (.int .i64), (.int .i64), (.int .i64), (.int .i64), (.int .i64)]) (tp 41) (tp 42)) 39 true [],
  o3 44 (.load 7 true (tp 43)) 39 true [],
  o3 45 (.mv (tp 1)) 39 true [],
  o3 46 (.call (tp 40) [(tp 44), (tp 45)]) 39 true [],
  o3 47 (.bin .eql 0 [] (tp 46) (ci 0)) 39 true [],
  o1 48 (.pick (tp 39) (tp 47) (.con (.d (.bool false)))),
  o1 6 (.mv (tp 35)),
  o1 7 (.mv (tp 48))])
 (.ret)))))⟩
/-- (entente/ledger.book).account$1 -/
def c191 : AFn := ⟨9, [.tmp 4], .seq (.ops false [o1 2 (.box (tp 0)),
  o1 4 (.mv (ci 0))])
 (.seq (.ops false [o1 5 (.fldA 0 (tp 2)),
  o1 6 (.load 1 false (tp 5)),
  o1 7 (.mv (tp 1)),
  o1 8 (.call (.con (.fn 192 [] [])) [(tp 6), (tp 7)]),
  o1 4 (.mv (tp 8))])
 (.ret))⟩
/-- strings.Compare -/
def c192 : AFn := ⟨8, [.tmp 4], .seq (.ops false [o1 4 (.mv (ci 0))])
 (.seq (.ops false [o1 5 (.mv (tp 0)),
  o1 6 (.mv (tp 1)),
  o1 7 (.call (.con (.fn 216 [] [])) [(tp 5), (tp 6)]),
  o1 4 (.mv (tp 7))])
 (.ret))⟩
/-- entente/cash.Fits -/
def c193 : AFn := ⟨9, [.tmp 2], .seq (.ops false [o1 2 (.mv (.con (.d (.bool false))))])
 (.seq (.ops false [o1 3 (.mv (tp 0)),
  o1 4 (.bin .geq 0 [] (tp 3) (ci 0)),
  o1 5 (.mv (tp 4)),
  o3 6 (.mv (tp 0)) 5 true [],
  o3 7 (.bin .leq 0 [] (tp 6) (ci 1000000000000000)) 5 true [],
  o1 8 (.pick (tp 5) (tp 7) (.con (.d (.bool false)))),
  o1 2 (.mv (tp 8))])
 (.ret))⟩
/-- entente/act.Delta -/
def c194 : AFn := ⟨21, [.tmp 2, .tmp 3], .seq (.ops false [o1 1 (.box (tp 0)),
  o1 2 (.mv (ci 0)),
  o1 3 (.mv (ci 0))])
 (.seq (.seq (.ops false [o1 5 (.load 3 true (tp 1)),
  o1 6 (.call (.con (.fn 157 [] [])) [(tp 5)]),
  o1 7 (.bin .neq 0 [] (tp 6) (ci 0))])
 (.cond (tp 7) (.seq (.ops false [o1 2 (.mv (ci 0)),
  o1 3 (.mv (ci 0))])
 (.ret)) (.skip)))
 (.seq (.ops false [o1 8 (.fldA 0 (tp 1)),
  o1 9 (.load 1 false (tp 8)),
  o1 10 (.call (.con (.fn 217 [] [])) [(tp 9)]),
  o1 4 (.allocA (.int .i64) [(.int .i64 0), (.int .i64 0)] 2),
  ⟨none, .store 2 (tp 4) (tp 10), none, []⟩])
 (.seq (.ops true [o1 11 (.ixP (.int .i64) 2 (tp 4) (ci 0)),
  o2 12 (.load 1 false (tp 11)) [0],
  o1 13 (.fldA 2 (tp 1)),
  o2 14 (.load 1 false (tp 13)) [2],
  o2 15 (.bin .mul 0 [] (tp 12) (tp 14)) [1, 3],
  o1 16 (.ixP (.int .i64) 2 (tp 4) (ci 1)),
  o2 17 (.load 1 false (tp 16)) [5],
  o1 18 (.fldA 2 (tp 1)),
  o2 19 (.load 1 false (tp 18)) [7],
  o2 20 (.bin .mul 0 [] (tp 17) (tp 19)) [6, 8],
  o2 2 (.mv (tp 15)) [0, 1, 2, 3, 4],
  o2 3 (.mv (tp 20)) [0, 1, 2, 3, 4, 5, 6, 7, 8, 9, 10]])
 (.ret))))⟩
/-- slices.BinarySearchFunc[[]entente/api.Def,entente/api.Def,string] -/
def c195 : AFn := ⟨49, [.tmp 6, .tmp 7], .seq (.ops false [o1 6 (.mv (ci 0)),
  o1 7 (.mv (.con (.d (.bool false))))])
 (.seq (.ops false [o1 12 (.mv (tp 0)),
  o1 13 (.len 1 (tp 12)),
  o1 8 (.mv (tp 13))])
 (.seq (.ops false [o1 14 (.mv (tp 8)),
  o1 9 (.mv (ci 0)),
  o1 10 (.mv (tp 14))])
 (.seq (.block 0 (.loop 0 (some ([0, 1, 2, 8, 9, 10], [0, 1, 2, 3, 4, 5, 6, 7, 3008, 3009, 3010, 3011, 3040, 3041])) (.seq (.seq (.ops false [o1 15 (.mv (tp 9)),
  o1 16 (.mv (tp 10)),
  o1 17 (.bin .lss 0 [] (tp 15) (tp 16))])
 (.cond (tp 17) (.skip) (.exit 0)))
 (.block 1 (.seq (.ops false [o1 18 (.mv (tp 9)),
  o1 19 (.mv (tp 10)),
  o1 20 (.bin .add 0 [] (tp 18) (tp 19)),
  o1 21 (.conv (.int .u64) (tp 20)),
  o1 22 (.bin .shr 0 [] (tp 21) (.con (.d (.int .u64 1)))),
  o1 23 (.conv (.int .i64) (tp 22)),
  o1 11 (.mv (tp 23))])
 (.seq (.ops false [o1 24 (.mv (tp 2)),
  o1 25 (.mv (tp 0)),
  o1 26 (.mv (tp 11)),
  o1 27 (.ixS (.agg [.str, (.sl hB)]) (tp 25) (tp 26)),
  o1 28 (.load 2 true (tp 27)),
  o1 29 (.mv (tp 1)),
  o1 30 (.call (tp 24) [(tp 28), (tp 29)]),
  o1 31 (.bin .lss 0 [] (tp 30) (ci 0))])
 (.cond (tp 31) (.ops false [o1 32 (.mv (tp 11)),
  o1 33 (.bin .add 0 [] (tp 32) (ci 1)),
  o1 9 (.mv (tp 33))]) (.ops false [o1 34 (.mv (tp 11)),
  o1 10 (.mv (tp 34))]))))))))
 (.seq (.ops false [o1 35 (.mv (tp 9)),
  o1 36 (.mv (tp 9)),
  o1 37 (.mv (tp 8)),
  o1 38 (.bin .lss 0 [] (tp 36) (tp 37)),
  o1 39 (.mv (tp 38)),
  o3 40 (.mv (tp 2)) 39 true [],
  o3 41 (.mv (tp 0)) 39 true [],
  o3 42 (.mv (tp 9)) 39 true [],
  o3 43 (.ixS (.agg [.str, (.sl hB)]) (tp 41) (tp 42)) 39 true [],
  o3 44 (.load 2 true (tp 43)) 39 true [],
  o3 45 (.mv (tp 1)) 39 true [],
  o3 46 (.call (tp 40) [(tp 44), (tp 45)]) 39 true [],
  o3 47 (.bin .eql 0 [] (tp 46) (ci 0)) 39 true [],
  o1 48 (.pick (tp 39) (tp 47) (.con (.d (.bool false)))),
  o1 6 (.mv (tp 35)),
  o1 7 (.mv (tp 48))])
 (.ret)))))⟩
/-- entente/book.place$1 -/
def c196 : AFn := ⟨9, [.tmp 4], .seq (.ops false [o1 2 (.box (tp 0)),
  o1 4 (.mv (ci 0))])
 (.seq (.ops false [o1 5 (.fldA 0 (tp 2)),
  o1 6 (.load 1 false (tp 5)),
  o1 7 (.mv (tp 1)),
  o1 8 (.call (.con (.fn 192 [] [])) [(tp 6), (tp 7)]),
  o1 4 (.mv (tp 8))])
 (.ret))⟩
/-- (*entente/lexic.place).over -/
def c198 : AFn := ⟨34, [], .block 0 (.loop 0 (some ([0, 1], [0, 1, 2, 3, 4, 5, 6, 7])) (.seq (.seq (.ops true [o1 4 (.mv (tp 0)),
  o2 5 (.nilck (tp 4)) [0],
  o2 6 (.fldA 1 (tp 5)) [1],
  o2 7 (.load 1 false (tp 6)) [2],
  o1 8 (.mv (tp 0)),
  o2 9 (.nilck (tp 8)) [4],
  o2 10 (.fldA 0 (tp 9)) [5],
  o2 11 (.load 1 false (tp 10)) [6],
  o2 12 (.len 0 (tp 11)) [7],
  o2 13 (.bin .lss 0 [] (tp 7) (tp 12)) [3, 8],
  o2 14 (.mv (tp 13)) [9],
  o3 15 (.mv (tp 1)) 14 true [10],
  o3 16 (.mv (tp 0)) 14 true [10],
  o3 17 (.nilck (tp 16)) 14 true [10, 12],
  o3 18 (.fldA 0 (tp 17)) 14 true [10, 13],
  o3 19 (.load 1 false (tp 18)) 14 true [10, 14],
  o3 20 (.mv (tp 0)) 14 true [10],
  o3 21 (.nilck (tp 20)) 14 true [10, 16],
  o3 22 (.fldA 1 (tp 21)) 14 true [10, 17],
  o3 23 (.load 1 false (tp 22)) 14 true [10, 18],
  o3 24 (.ixStr (tp 19) (tp 23)) 14 true [10, 15, 19],
  o3 25 (.call (tp 15) [(tp 24)]) 14 true [10, 11, 20],
  o2 26 (.pick (tp 14) (tp 25) (.con (.d (.bool false)))) [10, 21]])
 (.cond (tp 26) (.skip) (.exit 0)))
 (.block 1 (.ops false [o1 27 (.mv (tp 0)),
  o1 28 (.nilck (tp 27)),
  o1 29 (.fldA 1 (tp 28)),
  o1 30 (.load 1 false (tp 29)),
  o1 31 (.bin .add 0 [] (tp 30) (ci 1)),
  o1 32 (.nilck (tp 27)),
  o1 33 (.fldA 1 (tp 32)),
  ⟨none, .store 1 (tp 33) (tp 31), none, []⟩]))))⟩
/-- (*entente/lexic.scanner).scan$1 -/
def c199 : AFn := ⟨5, [.tmp 2], .seq (.ops false [o1 2 (.mv (.con (.d (.bool false))))])
 (.seq (.ops false [o1 3 (.mv (tp 0)),
  o1 4 (.bin .neq 0 [] (tp 3) (.con (.d (.int .u8 10)))),
  o1 2 (.mv (tp 4))])
 (.ret))⟩
/-- entente/lexic.small -/
def c200 : AFn := ⟨9, [.tmp 2], .seq (.ops false [o1 2 (.mv (.con (.d (.bool false))))])
 (.seq (.ops false [o1 3 (.mv (tp 0)),
  o1 4 (.bin .geq 0 [] (tp 3) (.con (.d (.int .u8 97)))),
  o1 5 (.mv (tp 4)),
  o3 6 (.mv (tp 0)) 5 true [],
  o3 7 (.bin .leq 0 [] (tp 6) (.con (.d (.int .u8 122)))) 5 true [],
  o1 8 (.pick (tp 5) (tp 7) (.con (.d (.bool false)))),
  o1 2 (.mv (tp 8))])
 (.ret))⟩
/-- (*entente/lexic.scanner).scan$2 -/
def c201 : AFn := ⟨9, [.tmp 2], .seq (.ops false [o1 2 (.mv (.con (.d (.bool false))))])
 (.seq (.ops false [o1 3 (.mv (tp 0)),
  o1 4 (.call (.con (.fn 200 [] [])) [(tp 3)]),
  o1 5 (.mv (tp 4)),
  o3 6 (.mv (tp 0)) 5 false [],
  o3 7 (.call (.con (.fn 202 [] [])) [(tp 6)]) 5 false [],
  o1 8 (.pick (tp 5) (.con (.d (.bool true))) (tp 7)),
  o1 2 (.mv (tp 8))])
 (.ret))⟩
/-- entente/lexic.digit -/
def c202 : AFn := ⟨9, [.tmp 2], .seq (.ops false [o1 2 (.mv (.con (.d (.bool false))))])
 (.seq (.ops false [o1 3 (.mv (tp 0)),
  o1 4 (.bin .geq 0 [] (tp 3) (.con (.d (.int .u8 48)))),
  o1 5 (.mv (tp 4)),
  o3 6 (.mv (tp 0)) 5 true [],
  o3 7 (.bin .leq 0 [] (tp 6) (.con (.d (.int .u8 57)))) 5 true [],
  o1 8 (.pick (tp 5) (tp 7) (.con (.d (.bool false)))),
  o1 2 (.mv (tp 8))])
 (.ret))⟩
/-- entente/lexic.word -/
def c203 : AFn := ⟨19, [.tmp 2], .seq (.ops false [o1 2 (.mv (.con (.d (.bool false))))])
 (.seq (.seq (.ops false [o1 3 (.mv (tp 0)),
  o1 4 (.bin .eql 0 [] (tp 3) (.con (.d (.str [])))),
  o1 5 (.mv (tp 4)),
  o3 6 (.mv (tp 0)) 5 false [],
  o3 7 (.len 0 (tp 6)) 5 false [],
  o3 8 (.bin .gtr 0 [] (tp 7) (ci 16)) 5 false [],
  o1 9 (.pick (tp 5) (.con (.d (.bool true))) (tp 8)),
  o1 10 (.mv (tp 9)),
  o3 11 (.mv (tp 0)) 10 false [],
  o3 12 (.ixStr (tp 11) (ci 0)) 10 false [],
  o3 13 (.call (.con (.fn 200 [] [])) [(tp 12)]) 10 false [],
  o3 14 (.un .not (tp 13)) 10 false [],
  o1 15 (.pick (tp 10) (.con (.d (.bool true))) (tp 14))])
 (.cond (tp 15) (.seq (.ops false [o1 2 (.mv (.con (.d (.bool false))))])
 (.ret)) (.skip)))
 (.seq (.ops false [o1 16 (.mv (tp 0)),
  o1 17 (.call (.con (.fn 218 [] [])) [(tp 16), (.con (.fn 219 [] []))]),
  o1 18 (.bin .lss 0 [] (tp 17) (ci 0)),
  o1 2 (.mv (tp 18))])
 (.ret)))⟩
/-- (*entente/lexic.scanner).put -/
def c204 : AFn := ⟨30, [], .ops true [o1 6 (.mv (tp 0)),
  o1 7 (.mv (tp 0)),
  o2 8 (.nilck (tp 7)) [1],
  o2 9 (.fldA 2 (tp 8)) [2],
  o2 10 (.load 1 false (tp 9)) [3],
  o1 11 (.mv (tp 1)),
  o1 12 (.mv (tp 0)),
  o2 13 (.nilck (tp 12)) [6],
  o2 14 (.fldA 0 (tp 13)) [7],
  o2 15 (.fldA 0 (tp 14)) [8],
  o2 16 (.load 1 false (tp 15)) [9],
  o1 17 (.mv (tp 2)),
  o1 18 (.mv (tp 0)),
  o2 19 (.nilck (tp 18)) [12],
  o2 20 (.fldA 0 (tp 19)) [13],
  o2 21 (.fldA 1 (tp 20)) [14],
  o2 22 (.load 1 false (tp 21)) [15],
  o2 23 (.slcS (tp 16) (some (tp 17)) (some (tp 22))) [10, 11, 16],
  o1 24 (.mv (tp 2)),
  o2 25 (.build [(.int .i64 0), (.str []), (.int .i64 0)] [(0, 1, (tp 11)), (1, 1, (tp 23)), (2, 1, (tp 24))]) [5, 17, 18],
  o2 26 (.buildSl (.agg [(.int .i64), .str, (.int .i64)]) [(.int .i64 0), (.str []), (.int .i64 0)] 1 [(0, 3, (tp 25))]) [19],
  o2 27 (.appd (.agg [(.int .i64), .str, (.int .i64)]) (tp 10) (tp 26)) [4, 20],
  o2 28 (.nilck (tp 6)) [0, 1, 2, 3, 4, 5, 6, 7, 8, 9, 10, 11, 12, 13, 14, 15, 16, 17, 18, 19, 20, 21],
  o2 29 (.fldA 2 (tp 28)) [0, 1, 2, 3, 4, 5, 6, 7, 8, 9, 10, 11, 12, 13, 14, 15, 16, 17, 18, 19, 20, 21, 22],
  ⟨none, .store 1 (tp 29) (tp 27), none, [0, 1, 2, 3, 4, 5, 6, 7, 8, 9, 10, 11, 12, 13, 14, 15, 16, 17, 18, 19, 20, 21, 23]⟩]⟩
/-- entente/lexic.number -/
def c205 : AFn := ⟨22, [.tmp 2], .seq (.ops false [o1 2 (.mv (.con (.d (.bool false))))])
 (.seq (.seq (.ops false [o1 3 (.mv (tp 0)),
  o1 4 (.bin .eql 0 [] (tp 3) (.con (.d (.str [])))),
  o1 5 (.mv (tp 4)),
  o3 6 (.mv (tp 0)) 5 false [],
  o3 7 (.len 0 (tp 6)) 5 false [],
  o3 8 (.bin .gtr 0 [] (tp 7) (ci 16)) 5 false [],
  o1 9 (.pick (tp 5) (.con (.d (.bool true))) (tp 8)),
  o1 10 (.mv (tp 9)),
  o3 11 (.mv (tp 0)) 10 false [],
  o3 12 (.ixStr (tp 11) (ci 0)) 10 false [],
  o3 13 (.bin .eql 0 [] (tp 12) (.con (.d (.int .u8 48)))) 10 false [],
  o3 14 (.mv (tp 13)) 10 false [],
  o3 15 (.mv (tp 0)) 14 true [],
  o3 16 (.bin .neq 0 [] (tp 15) (.con (.d (.str [48])))) 14 true [],
  o3 17 (.pick (tp 14) (tp 16) (.con (.d (.bool false)))) 10 false [],
  o1 18 (.pick (tp 10) (.con (.d (.bool true))) (tp 17))])
 (.cond (tp 18) (.seq (.ops false [o1 2 (.mv (.con (.d (.bool false))))])
 (.ret)) (.skip)))
 (.seq (.ops false [o1 19 (.mv (tp 0)),
  o1 20 (.call (.con (.fn 220 [] [])) [(tp 19), (.con (.d (.str [48, 49, 50, 51, 52, 53, 54, 55, 56, 57])))]),
  o1 21 (.bin .eql 0 [] (tp 20) (.con (.d (.str [])))),
  o1 2 (.mv (tp 21))])
 (.ret)))⟩
/-- entente/lexic.fits -/
def c206 : AFn := ⟨33, [.tmp 2], .seq (.ops false [o1 1 (.box (tp 0)),
  o1 2 (.mv (.con (.d (.bool false))))])
 (.seq (.seq (.ops false [o1 3 (.fldA 0 (tp 1)),
  o1 4 (.load 1 false (tp 3))])
 (.block 0 (.seq (.ops false [o1 6 (.bin .eql 0 [] (tp 4) (ci 1)),
  o1 5 (.mv (tp 6))])
 (.cond (tp 5) (.seq (.ops false [o1 7 (.fldA 1 (tp 1)),
  o1 8 (.load 1 false (tp 7)),
  o1 9 (.call (.con (.fn 203 [] [])) [(tp 8)]),
  o1 2 (.mv (tp 9))])
 (.ret)) (.seq (.ops false [o1 11 (.bin .eql 0 [] (tp 4) (ci 2)),
  o1 10 (.mv (tp 11))])
 (.cond (tp 10) (.seq (.ops false [o1 12 (.fldA 1 (tp 1)),
  o1 13 (.load 1 false (tp 12)),
  o1 14 (.call (.con (.fn 205 [] [])) [(tp 13)]),
  o1 2 (.mv (tp 14))])
 (.ret)) (.skip)))))))
 (.seq (.ops false [o1 15 (.fldA 0 (tp 1)),
  o1 16 (.load 1 false (tp 15)),
  o1 17 (.bin .eql 0 [] (tp 16) (ci 3)),
  o1 18 (.mv (tp 17)),
  o3 19 (.fldA 1 (tp 1)) 18 true [],
  o3 20 (.load 1 false (tp 19)) 18 true [],
  o3 21 (.bin .eql 0 [] (tp 20) (.con (.d (.str [123])))) 18 true [],
  o3 22 (.mv (tp 21)) 18 true [],
  o3 23 (.fldA 1 (tp 1)) 22 false [],
  o3 24 (.load 1 false (tp 23)) 22 false [],
  o3 25 (.bin .eql 0 [] (tp 24) (.con (.d (.str [125])))) 22 false [],
  o3 26 (.pick (tp 22) (.con (.d (.bool true))) (tp 25)) 18 true [],
  o3 27 (.mv (tp 26)) 18 true [],
  o3 28 (.fldA 1 (tp 1)) 27 false [],
  o3 29 (.load 1 false (tp 28)) 27 false [],
  o3 30 (.bin .eql 0 [] (tp 29) (.con (.d (.str [59])))) 27 false [],
  o3 31 (.pick (tp 27) (.con (.d (.bool true))) (tp 30)) 18 true [],
  o1 32 (.pick (tp 18) (tp 31) (.con (.d (.bool false)))),
  o1 2 (.mv (tp 32))])
 (.ret)))⟩
/-- (*entente/def.reader).must -/
def c207 : AFn := ⟨19, [], .seq (.seq (.ops false [o1 6 (.mv (tp 0)),
  o1 7 (.nilck (tp 6)),
  o1 8 (.fldA 0 (tp 7)),
  o1 9 (.mv (tp 1)),
  o1 10 (.mv (tp 2)),
  o1 11 (.call (.con (.fn 209 [] [])) [(tp 8), (tp 9), (tp 10)]),
  o1 12 (.un .not (tp 11))])
 (.cond (tp 12) (.ops false [o1 13 (.mv (tp 0)),
  o1 14 (.nilck (tp 13)),
  o1 15 (.fldA 2 (tp 14)),
  ⟨none, .store 1 (tp 15) (.con (.d (.bool true))), none, []⟩]) (.skip)))
 (.ops false [o1 16 (.mv (tp 0)),
  o1 17 (.mv (tp 1)),
  o1 18 (.call (.con (.fn 208 [] [])) [(tp 16), (tp 17)])])⟩
/-- (*entente/def.reader).take -/
def c208 : AFn := ⟨34, [.tmp 4], .seq (.ops false [o1 4 (.mv (.con (.d (.str []))))])
 (.seq (.ops false [o1 6 (.mv (tp 0)),
  o1 7 (.nilck (tp 6)),
  o1 8 (.fldA 0 (tp 7)),
  o1 9 (.call (.con (.fn 174 [] [])) [(tp 8)]),
  o1 5 (.alloc [(.int .i64 0), (.str []), (.int .i64 0)]),
  ⟨none, .store 3 (tp 5) (tp 9), none, []⟩])
 (.seq (.seq (.ops false [o1 10 (.mv (tp 0)),
  o1 11 (.nilck (tp 10)),
  o1 12 (.fldA 2 (tp 11)),
  o1 13 (.load 1 false (tp 12)),
  o1 14 (.mv (tp 13)),
  o3 15 (.fldA 0 (tp 5)) 14 false [],
  o3 16 (.load 1 false (tp 15)) 14 false [],
  o3 17 (.mv (tp 1)) 14 false [],
  o3 18 (.bin .neq 0 [] (tp 16) (tp 17)) 14 false [],
  o1 19 (.pick (tp 14) (.con (.d (.bool true))) (tp 18))])
 (.cond (tp 19) (.seq (.ops false [o1 20 (.mv (tp 0)),
  o1 21 (.nilck (tp 20)),
  o1 22 (.fldA 2 (tp 21)),
  ⟨none, .store 1 (tp 22) (.con (.d (.bool true))), none, []⟩])
 (.seq (.ops false [o1 4 (.mv (.con (.d (.str []))))])
 (.ret))) (.skip)))
 (.seq (.ops false [o1 23 (.mv (tp 0)),
  o1 24 (.nilck (tp 23)),
  o1 25 (.fldA 0 (tp 24)),
  o1 26 (.fldA 1 (tp 25)),
  o1 27 (.load 1 false (tp 26)),
  o1 28 (.bin .add 0 [] (tp 27) (ci 1)),
  o1 29 (.nilck (tp 23)),
  o1 30 (.fldA 0 (tp 29)),
  o1 31 (.fldA 1 (tp 30)),
  ⟨none, .store 1 (tp 31) (tp 28), none, []⟩])
 (.seq (.ops false [o1 32 (.fldA 1 (tp 5)),
  o1 33 (.load 1 false (tp 32)),
  o1 4 (.mv (tp 33))])
 (.ret)))))⟩
/-- (*entente/def.place).sees -/
def c209 : AFn := ⟨20, [.tmp 6], .seq (.ops false [o1 6 (.mv (.con (.d (.bool false))))])
 (.seq (.ops false [o1 8 (.mv (tp 0)),
  o1 9 (.call (.con (.fn 174 [] [])) [(tp 8)]),
  o1 7 (.alloc [(.int .i64 0), (.str []), (.int .i64 0)]),
  ⟨none, .store 3 (tp 7) (tp 9), none, []⟩])
 (.seq (.ops false [o1 10 (.fldA 0 (tp 7)),
  o1 11 (.load 1 false (tp 10)),
  o1 12 (.mv (tp 1)),
  o1 13 (.bin .eql 0 [] (tp 11) (tp 12)),
  o1 14 (.mv (tp 13)),
  o3 15 (.fldA 1 (tp 7)) 14 true [],
  o3 16 (.load 1 false (tp 15)) 14 true [],
  o3 17 (.mv (tp 2)) 14 true [],
  o3 18 (.bin .eql 0 [] (tp 16) (tp 17)) 14 true [],
  o1 19 (.pick (tp 14) (tp 18) (.con (.d (.bool false)))),
  o1 6 (.mv (tp 19))])
 (.ret)))⟩
/-- (*entente/def.reader).step -/
def c210 : AFn := ⟨68, [.cell 2 7 true], .seq (.ops false [o1 2 (.alloc [(.int .i64 0), (.str []), (.int .i64 0), (.int .i64 0), (.str []), (.int .i64 0), (.int .i64 0)])])
 (.seq (.ops false [o1 3 (.alloc [(.int .i64 0), (.str []), (.int .i64 0), (.int .i64 0), (.str []), (.int .i64 0), (.int .i64 0)])])
 (.seq (.ops false [o1 7 (.mv (tp 0)),
  o1 8 (.call (.con (.fn 208 [] [])) [(tp 7), (ci 1)]),
  o1 4 (.mv (tp 8))])
 (.seq (.ops false [o1 10 (.call (.con (.fn 221 [] [])) []),
  o1 11 (.mv (tp 4)),
  o1 12 (.mapGet .str (.int .i64) [(.int .i64 0)] true (tp 10) (tp 11)),
  o1 9 (.mv (tp 12)),
  o1 13 (.ext 0 (tp 9)),
  o1 14 (.ext 1 (tp 9)),
  o1 5 (.mv (tp 13)),
  o1 6 (.mv (tp 14))])
 (.seq (.block 0 (.seq (.ops false [o1 28 (.mv (tp 0)),
  o1 29 (.nilck (tp 28)),
  o1 30 (.fldA 2 (tp 29)),
  o1 31 (.load 1 false (tp 30)),
  o1 27 (.mv (tp 31))])
 (.cond (tp 27) (.skip) (.seq (.ops false [o1 33 (.mv (tp 6)),
  o1 32 (.mv (tp 33))])
 (.cond (tp 32) (.seq (.ops false [o1 34 (.mv (tp 5)),
  o1 35 (.mv (tp 0)),
  o1 36 (.call (.con (.fn 208 [] [])) [(tp 35), (ci 1)]),
  o1 37 (.fldA 0 (tp 3)),
  o1 38 (.fldA 0 (tp 37)),
  ⟨none, .store 1 (tp 38) (tp 34), none, []⟩,
  o1 39 (.fldA 0 (tp 3)),
  o1 40 (.fldA 1 (tp 39)),
  ⟨none, .store 1 (tp 40) (tp 36), none, []⟩])
 (.seq (.ops false [o1 42 (.mv (tp 0)),
  o1 43 (.call (.con (.fn 208 [] [])) [(tp 42), (ci 2)]),
  o1 44 (.build [(.int .i64 0), (.str []), (.int .i64 0)] [(0, 1, (ci 2)), (1, 1, (tp 43))]),
  o1 45 (.call (.con (.fn 222 [] [])) [(tp 44)]),
  o1 41 (.mv (tp 45)),
  o1 46 (.ext 0 (tp 41)),
  o1 47 (.ext 1 (tp 41)),
  o1 48 (.fldA 0 (tp 3)),
  o1 49 (.fldA 2 (tp 48)),
  ⟨none, .store 1 (tp 49) (tp 46), none, []⟩])
 (.ops false [o1 50 (.mv (tp 0)),
  o1 51 (.call (.con (.fn 223 [] [])) [(tp 50), (.con (.d (.str [116, 114, 105, 101, 115]))), (ci 1)]),
  o1 52 (.fldA 5 (tp 3)),
  ⟨none, .store 1 (tp 52) (tp 51), none, []⟩]))) (.seq (.ops false [o1 54 (.mv (tp 4)),
  o1 55 (.bin .eql 0 [] (tp 54) (.con (.d (.str [97, 115, 107])))),
  o1 53 (.mv (tp 55))])
 (.cond (tp 53) (.seq (.ops false [o1 56 (.mv (tp 0)),
  o1 57 (.call (.con (.fn 224 [] [])) [(tp 56)]),
  o1 58 (.mv (tp 0)),
  o1 59 (.call (.con (.fn 208 [] [])) [(tp 58), (ci 1)]),
  o1 60 (.fldA 3 (tp 3)),
  ⟨none, .store 1 (tp 60) (tp 57), none, []⟩,
  o1 61 (.fldA 4 (tp 3)),
  ⟨none, .store 1 (tp 61) (tp 59), none, []⟩])
 (.ops false [o1 62 (.mv (tp 0)),
  o1 63 (.call (.con (.fn 223 [] [])) [(tp 62), (.con (.d (.str [119, 97, 105, 116]))), (ci 20)]),
  o1 64 (.fldA 6 (tp 3)),
  ⟨none, .store 1 (tp 64) (tp 63), none, []⟩])) (.seq (.ops false [o1 15 (.mv (tp 0)),
  o1 16 (.nilck (tp 15)),
  o1 17 (.fldA 0 (tp 16)),
  o1 18 (.fldA 1 (tp 17)),
  o1 19 (.load 1 false (tp 18)),
  o1 20 (.bin .sub 0 [] (tp 19) (ci 1)),
  o1 21 (.nilck (tp 15)),
  o1 22 (.fldA 0 (tp 21)),
  o1 23 (.fldA 1 (tp 22)),
  ⟨none, .store 1 (tp 23) (tp 20), none, []⟩])
 (.ops false [o1 24 (.mv (tp 0)),
  o1 25 (.nilck (tp 24)),
  o1 26 (.fldA 2 (tp 25)),
  ⟨none, .store 1 (tp 26) (.con (.d (.bool true))), none, []⟩])))))))))
 (.seq (.ops false [o1 65 (.mv (tp 0)),
  o1 66 (.call (.con (.fn 207 [] [])) [(tp 65), (ci 3), (.con (.d (.str [59])))])])
 (.seq (.ops false [o1 67 (.load 7 true (tp 3)),
  ⟨none, .store 7 (tp 2) (tp 67), none, []⟩])
 (.ret)))))))⟩
/-- internal/strconv.small -/
def c211 : AFn := ⟨15, [.tmp 2], .seq (.ops false [o1 2 (.mv (.con (.d (.str []))))])
 (.seq (.seq (.ops false [o1 3 (.mv (tp 0)),
  o1 4 (.bin .lss 0 [] (tp 3) (ci 10))])
 (.cond (tp 4) (.seq (.ops false [o1 5 (.mv (tp 0)),
  o1 6 (.mv (tp 0)),
  o1 7 (.bin .add 0 [] (tp 6) (ci 1)),
  o1 8 (.slcS (.con (.d (.str [48, 49, 50, 51, 52, 53, 54, 55, 56, 57, 97, 98, 99, 100, 101, 102, 103, 104, 105, 106, 107, 108, 109, 110, 111, 112, 113, 114, 115, 116, 117, 118, 119, 120, 121, 122]))) (some (tp 5)) (some (tp 7))),
  o1 2 (.mv (tp 8))])
 (.ret)) (.skip)))
 (.seq (.ops false [o1 9 (.mv (tp 0)),
  o1 10 (.bin .mul 0 [] (tp 9) (ci 2)),
  o1 11 (.mv (tp 0)),
  o1 12 (.bin .mul 0 [] (tp 11) (ci 2)),
  o1 13 (.bin .add 0 [] (tp 12) (ci 2)),
  o1 14 (.slcS (.con (.d (.str [48, 48, 48, 49, 48, 50, 48, 51, 48, 52, 48, 53, 48, 54, 48, 55, 48, 56, 48, 57, 49, 48, 49, 49, 49, 50, 49, 51, 49, 52, 49, 53, 49, 54, 49, 55, 49, 56, 49, 57, 50, 48, 50, 49, 50, 50, 50, 51, 50, 52, 50, 53, 50, 54, 50, 55, 50, 56, 50, 57, 51, 48, 51, 49, 51, 50, 51, 51, 51, 52, 51, 53, 51, 54, 51, 55, 51, 56, 51, 57, 52, 48, 52, 49, 52, 50, 52, 51, 52, 52, 52, 53, 52, 54, 52, 55, 52, 56, 52, 57, 53, 48, 53, 49, 53, 50, 53, 51, 53, 52, 53, 53, 53, 54, 53, 55, 53, 56, 53, 57, 54, 48, 54, 49, 54, 50, 54, 51, 54, 52, 54, 53, 54, 54, 54, 55, 54, 56, 54, 57, 55, 48, 55, 49, 55, 50, 55, 51, 55, 52, 55, 53, 55, 54, 55, 55, 55, 56, 55, 57, 56, 48, 56, 49, 56, 50, 56, 51, 56, 52, 56, 53, 56, 54, 56, 55, 56, 56, 56, 57, 57, 48, 57, 49, 57, 50, 57, 51, 57, 52, 57, 53, 57, 54, 57, 55, 57, 56, 57, 57]))) (some (tp 10)) (some (tp 13))),
  o1 2 (.mv (tp 14))])
 (.ret)))⟩
/-- (*entente/saga.holder).done$1 -/
def c215 : AFn := ⟨8, [.tmp 3], .seq (.ops false [o1 3 (.mv (.con (.d (.bool false))))])
 (.seq (.ops false [o1 4 (.load 1 false (tp 1)),
  o1 5 (.mv (tp 0)),
  o1 6 (.buildSl (.int .i64) [(.int .i64 0)] 1 [(0, 1, (ci 2))]),
  o1 7 (.call (.con (.fn 98 [] [])) [(tp 4), (tp 5), (tp 6)]),
  o1 3 (.mv (tp 7))])
 (.ret))⟩
/-- internal/bytealg.CompareString -/
def c216 : AFn := ⟨8, [.tmp 4], .seq (.ops false [o1 4 (.mv (ci 0))])
 (.seq (.ops false [o1 5 (.mv (tp 0)),
  o1 6 (.mv (tp 1)),
  o1 7 (.call (.con (.fn 230 [] [])) [(tp 5), (tp 6)]),
  o1 4 (.mv (tp 7))])
 (.ret))⟩
/-- entente/act.ways -/
def c217 : AFn := ⟨18, [.cell 2 2 true], .seq (.ops false [o1 2 (.allocA (.int .i64) [(.int .i64 0), (.int .i64 0)] 2)])
 (.seq (.ops false [o1 3 (.allocA (.int .i64) [(.int .i64 0), (.int .i64 0)] 2)])
 (.seq (.seq (.ops false [o1 4 (.mv (tp 0))])
 (.block 0 (.seq (.block 4 (.seq (.block 3 (.seq (.block 2 (.seq (.block 1 (.seq (.seq (.seq (.ops false [o1 6 (.bin .eql 0 [] (tp 4) (ci 3)),
  o1 5 (.mv (tp 6))])
 (.cond (tp 5) (.exit 1) (.skip)))
 (.seq (.seq (.ops false [o1 8 (.bin .eql 0 [] (tp 4) (ci 1)),
  o1 7 (.mv (tp 8))])
 (.cond (tp 7) (.exit 2) (.skip)))
 (.seq (.seq (.ops false [o1 10 (.bin .eql 0 [] (tp 4) (ci 4)),
  o1 9 (.mv (tp 10))])
 (.cond (tp 9) (.exit 3) (.skip)))
 (.seq (.ops false [o1 12 (.bin .eql 0 [] (tp 4) (ci 2)),
  o1 11 (.mv (tp 12))])
 (.cond (tp 11) (.exit 4) (.skip))))))
 (.exit 0)))
 (.ops false [o1 13 (.ixP (.int .i64) 2 (tp 3) (ci 1)),
  ⟨none, .store 1 (tp 13) (ci 1), none, []⟩])))
 (.seq (.ops false [o1 14 (.ixP (.int .i64) 2 (tp 3) (ci 0)),
  ⟨none, .store 1 (tp 14) (ci (-1)), none, []⟩])
 (.exit 0))))
 (.ops false [o1 15 (.ixP (.int .i64) 2 (tp 3) (ci 1)),
  ⟨none, .store 1 (tp 15) (ci (-1)), none, []⟩])))
 (.seq (.ops false [o1 16 (.ixP (.int .i64) 2 (tp 3) (ci 0)),
  ⟨none, .store 1 (tp 16) (ci 1), none, []⟩])
 (.exit 0)))))
 (.seq (.ops false [o1 17 (.load 2 true (tp 3)),
  ⟨none, .store 2 (tp 2) (tp 17), none, []⟩])
 (.ret))))⟩
/-- strings.IndexFunc -/
def c218 : AFn := ⟨8, [.tmp 4], .seq (.ops false [o1 4 (.mv (ci 0))])
 (.seq (.ops false [o1 5 (.mv (tp 0)),
  o1 6 (.mv (tp 1)),
  o1 7 (.call (.con (.fn 231 [] [])) [(tp 5), (tp 6), (.con (.d (.bool true)))]),
  o1 4 (.mv (tp 7))])
 (.ret))⟩
/-- entente/lexic.word$1 -/
def c219 : AFn := ⟨17, [.tmp 2], .seq (.ops false [o1 2 (.mv (.con (.d (.bool false))))])
 (.seq (.ops false [o1 3 (.mv (tp 0)),
  o1 4 (.bin .gtr 0 [] (tp 3) (.con (.d (.int .i32 127)))),
  o1 5 (.mv (tp 4)),
  o3 6 (.mv (tp 0)) 5 false [],
  o3 7 (.conv (.int .u8) (tp 6)) 5 false [],
  o3 8 (.call (.con (.fn 200 [] [])) [(tp 7)]) 5 false [],
  o3 9 (.un .not (tp 8)) 5 false [],
  o3 10 (.mv (tp 9)) 5 false [],
  o3 11 (.mv (tp 0)) 10 true [],
  o3 12 (.conv (.int .u8) (tp 11)) 10 true [],
  o3 13 (.call (.con (.fn 202 [] [])) [(tp 12)]) 10 true [],
  o3 14 (.un .not (tp 13)) 10 true [],
  o3 15 (.pick (tp 10) (tp 14) (.con (.d (.bool false)))) 5 false [],
  o1 16 (.pick (tp 5) (.con (.d (.bool true))) (tp 15)),
  o1 2 (.mv (tp 16))])
 (.ret))⟩
/-- strings.Trim -/
def c220 : AFn := ⟨43, [.tmp 4], .seq (.ops false [o1 4 (.mv (.con (.d (.str []))))])
 (.seq (.seq (.ops false [o1 7 (.mv (tp 0)),
  o1 8 (.bin .eql 0 [] (tp 7) (.con (.d (.str [])))),
  o1 9 (.mv (tp 8)),
  o3 10 (.mv (tp 1)) 9 false [],
  o3 11 (.bin .eql 0 [] (tp 10) (.con (.d (.str [])))) 9 false [],
  o1 12 (.pick (tp 9) (.con (.d (.bool true))) (tp 11))])
 (.cond (tp 12) (.seq (.ops false [o1 13 (.mv (tp 0)),
  o1 4 (.mv (tp 13))])
 (.ret)) (.skip)))
 (.seq (.seq (.ops false [o1 14 (.mv (tp 1)),
  o1 15 (.len 0 (tp 14)),
  o1 16 (.bin .eql 0 [] (tp 15) (ci 1)),
  o1 17 (.mv (tp 16)),
  o3 18 (.mv (tp 1)) 17 true [],
  o3 19 (.ixStr (tp 18) (ci 0)) 17 true [],
  o3 20 (.bin .lss 0 [] (tp 19) (.con (.d (.int .u8 128)))) 17 true [],
  o1 21 (.pick (tp 17) (tp 20) (.con (.d (.bool false))))])
 (.cond (tp 21) (.seq (.ops true [o1 22 (.mv (tp 0)),
  o1 23 (.mv (tp 1)),
  o2 24 (.ixStr (tp 23) (ci 0)) [1],
  o2 25 (.call (.con (.fn 233 [] [])) [(tp 22), (tp 24)]) [0, 2],
  o1 26 (.mv (tp 1)),
  o2 27 (.ixStr (tp 26) (ci 0)) [4],
  o2 28 (.call (.con (.fn 232 [] [])) [(tp 25), (tp 27)]) [3, 5],
  o2 4 (.mv (tp 28)) [0, 1, 2, 3, 4, 5, 6]])
 (.ret)) (.skip)))
 (.seq (.seq (.ops false [o1 30 (.mv (tp 1)),
  o1 31 (.call (.con (.fn 234 [] [])) [(tp 30)]),
  o1 29 (.mv (tp 31)),
  o1 32 (.ext 0 (tp 29)),
  o1 33 (.ext 1 (tp 29)),
  o1 5 (.allocA .bool [(.bool false), (.bool false), (.bool false), (.bool false), (.bool false), (.bool false), (.bool false), (.bool false), (.bool false), (.bool false), (.bool false), (.bool false), (.bool false), (.bool false), (.bool false), (.bool false), (.bool false), (.bool false), (.bool false), (.bool false), (.bool false), (.bool false), (.bool false), (.bool false), (.bool false), (.bool false), (.bool false), (.bool false), (.bool false), (.bool false), (.bool false), (.bool false), (.bool false), (.bool false), (.bool false), (.bool false), (.bool false), (.bool false), (.bool false), (.bool false), (.bool false), (.bool false), (.bool false), (.bool false), (.bool false), (.bool false), (.bool false), (.bool false), (.bool false), (.bool false), (.bool false), (.bool false), (.bool false), (.bool false), (.bool false), (.bool false), (.bool false), (.bool false), (.bool false), (.bool false), (.bool false), (.bool false), (.bool false), (.bool false), (.bool false), (.bool false), (.bool false), (.bool false), (.bool false), (.bool false), (.bool false), (.bool false), (.bool false), (.bool false), (.bool false), (.bool false), (.bool false), (.bool false), (.bool false), (.bool false), (.bool false), (.bool false), (.bool false), (.bool false), (.bool false), (.bool false), (.bool false), (.bool false), (.bool false), (.bool false), (.bool false), (.bool false), (.bool false), (.bool false), (.bool false), (.bool false), (.bool false), (.bool false), (.bool false), (.bool false), (.bool false), (.bool false), (.bool false), (.bool false), (.bool false), (.bool false), (.bool false), (.bool false), (.bool false), (.bool false), (.bool false), (.bool false), (.bool false), (.bool false), (.bool false), (.bool false), (.bool false), (.bool false), (.bool false), (.bool false), (.bool false), (.bool false), (.bool false), (.bool false), (.bool false), (.bool false), (.bool false), (.bool false), (.bool false), (.bool false), (.bool false), (.bool false), (.bool false), (.bool false), (.bool false), (.bool false), (.bool false), (.bool false), (.bool false), (.bool false), (.bool false), (.bool false), (.bool false), (.bool false), (.bool false), (.bool false), (.bool false), (.bool false), (.bool false), (.bool false), (.bool false), (.bool false), (.bool false), (.bool false), (.bool false), (.bool false), (.bool false), (.bool false), (.bool false), (.bool false), (.bool false), (.bool false), (.bool false), (.bool false), (.bool false), (.bool false), (.bool false), (.bool false), (.bool false), (.bool false), (.bool false), (.bool false), (.bool false), (.bool false), (.bool false), (.bool false), (.bool false), (.bool false), (.bool false), (.bool false), (.bool false), (.bool false), (.bool false), (.bool false), (.bool false), (.bool false), (.bool false), (.bool false), (.bool false), (.bool false), (.bool false), (.bool false), (.bool false), (.bool false), (.bool false), (.bool false), (.bool false), (.bool false), (.bool false), (.bool false), (.bool false), (.bool false), (.bool false), (.bool false), (.bool false), (.bool false), (.bool false), (.bool false), (.bool false), (.bool false), (.bool false), (.bool false), (.bool false), (.bool false), (.bool false), (.bool false), (.bool false), (.bool false), (.bool false), (.bool false), (.bool false), (.bool false), (.bool false), (.bool false), (.bool false), (.bool false), (.bool false), (.bool false), (.bool false), (.bool false), (.bool false), (.bool false), (.bool false), (.bool false), (.bool false), (.bool false), (.bool false), (.bool false), (.bool false), (.bool false), (.bool false), (.bool false), (.bool false), (.bool false), (.bool false), (.bool false), (.bool false), (.bool false), (.bool false), (.bool false), (.bool false), (.bool false), (.bool false), (.bool false), (.bool false), (.bool false)] 256),
  ⟨none, .store 256 (tp 5) (tp 32), none, []⟩,
  o1 6 (.mv (tp 33))])
 (.seq (.ops false [o1 34 (.mv (tp 6))])
 (.cond (tp 34) (.seq (.ops false [o1 35 (.mv (tp 0)),
  o1 36 (.call (.con (.fn 236 [] [])) [(tp 35), (tp 5)]),
  o1 37 (.call (.con (.fn 235 [] [])) [(tp 36), (tp 5)]),
  o1 4 (.mv (tp 37))])
 (.ret)) (.skip))))
 (.seq (.ops false [o1 38 (.mv (tp 0)),
  o1 39 (.mv (tp 1)),
  o1 40 (.call (.con (.fn 238 [] [])) [(tp 38), (tp 39)]),
  o1 41 (.mv (tp 1)),
  o1 42 (.call (.con (.fn 237 [] [])) [(tp 40), (tp 41)]),
  o1 4 (.mv (tp 42))])
 (.ret)))))⟩
/-- entente/def.kinds -/
def c221 : AFn := ⟨3, [.tmp 0], .seq (.ops false [o1 0 (.mv (.con (.d .nilm)))])
 (.seq (.ops false [o1 1 (.mkMap .str (.int .i64)),
  ⟨none, .mapSet .str (tp 1) (.con (.d (.str [100, 101, 98, 105, 116]))) (ci 1), none, []⟩,
  ⟨none, .mapSet .str (tp 1) (.con (.d (.str [99, 114, 101, 100, 105, 116]))) (ci 2), none, []⟩,
  ⟨none, .mapSet .str (tp 1) (.con (.d (.str [114, 101, 115, 101, 114, 118, 101]))) (ci 3), none, []⟩,
  ⟨none, .mapSet .str (tp 1) (.con (.d (.str [114, 101, 108, 101, 97, 115, 101]))) (ci 4), none, []⟩,
  o1 2 (.mv (tp 1)),
  o1 0 (.mv (tp 2))])
 (.ret))⟩
/-- entente/lexic.Value -/
def c222 : AFn := ⟨32, [.tmp 2, .tmp 3], .seq (.ops false [o1 1 (.box (tp 0)),
  o1 2 (.mv (ci 0)),
  o1 3 (.mv (.con (.d (.bool false))))])
 (.seq (.seq (.ops false [o1 6 (.fldA 0 (tp 1)),
  o1 7 (.load 1 false (tp 6)),
  o1 8 (.bin .neq 0 [] (tp 7) (ci 2)),
  o1 9 (.mv (tp 8)),
  o3 10 (.fldA 1 (tp 1)) 9 false [],
  o3 11 (.load 1 false (tp 10)) 9 false [],
  o3 12 (.call (.con (.fn 205 [] [])) [(tp 11)]) 9 false [],
  o3 13 (.un .not (tp 12)) 9 false [],
  o1 14 (.pick (tp 9) (.con (.d (.bool true))) (tp 13))])
 (.cond (tp 14) (.seq (.ops false [o1 2 (.mv (ci 0)),
  o1 3 (.mv (.con (.d (.bool false))))])
 (.ret)) (.skip)))
 (.seq (.ops false [o1 4 (.mv (ci 0))])
 (.seq (.seq (.ops false [o1 15 (.fldA 1 (tp 1)),
  o1 16 (.load 1 false (tp 15)),
  o1 17 (.len 0 (tp 16)),
  o1 18 (.mv (ci 0))])
 (.block 0 (.loop 0 (some ([1, 4, 17, 18], [0, 1, 2, 3, 4, 5, 6, 7, 128, 129, 130, 131, 160, 161, 832, 833, 834, 835, 864, 865])) (.seq (.ops false [o1 19 (.bin .lss 0 [] (tp 18) (tp 17))])
 (.seq (.cond (tp 19) (.skip) (.exit 0))
 (.seq (.block 1 (.seq (.ops false [o1 20 (.mv (tp 18)),
  o1 5 (.mv (tp 20))])
 (.ops false [o1 21 (.mv (tp 4)),
  o1 22 (.bin .mul 0 [] (ci 10) (tp 21)),
  o1 23 (.fldA 1 (tp 1)),
  o1 24 (.load 1 false (tp 23)),
  o1 25 (.mv (tp 5)),
  o1 26 (.ixStr (tp 24) (tp 25)),
  o1 27 (.bin .sub 0 [] (tp 26) (.con (.d (.int .u8 48)))),
  o1 28 (.conv (.int .i64) (tp 27)),
  o1 29 (.bin .add 0 [] (tp 22) (tp 28)),
  o1 4 (.mv (tp 29))])))
 (.ops false [o1 30 (.bin .add 0 [] (tp 18) (ci 1)),
  o1 18 (.mv (tp 30))])))))))
 (.seq (.ops false [o1 31 (.mv (tp 4)),
  o1 2 (.mv (tp 31)),
  o1 3 (.mv (.con (.d (.bool true))))])
 (.ret)))))⟩
/-- (*entente/def.reader).or -/
def c223 : AFn := ⟨31, [.tmp 6], .seq (.ops false [o1 6 (.mv (ci 0))])
 (.seq (.seq (.ops false [o1 7 (.mv (tp 0)),
  o1 8 (.nilck (tp 7)),
  o1 9 (.fldA 2 (tp 8)),
  o1 10 (.load 1 false (tp 9)),
  o1 11 (.mv (tp 10)),
  o3 12 (.mv (tp 0)) 11 false [],
  o3 13 (.nilck (tp 12)) 11 false [],
  o3 14 (.fldA 0 (tp 13)) 11 false [],
  o3 15 (.mv (tp 1)) 11 false [],
  o3 16 (.call (.con (.fn 209 [] [])) [(tp 14), (ci 1), (tp 15)]) 11 false [],
  o3 17 (.un .not (tp 16)) 11 false [],
  o1 18 (.pick (tp 11) (.con (.d (.bool true))) (tp 17))])
 (.cond (tp 18) (.seq (.ops false [o1 19 (.mv (tp 2)),
  o1 6 (.mv (tp 19))])
 (.ret)) (.skip)))
 (.seq (.ops false [o1 20 (.mv (tp 0)),
  o1 21 (.nilck (tp 20)),
  o1 22 (.fldA 0 (tp 21)),
  o1 23 (.fldA 1 (tp 22)),
  o1 24 (.load 1 false (tp 23)),
  o1 25 (.bin .add 0 [] (tp 24) (ci 1)),
  o1 26 (.nilck (tp 20)),
  o1 27 (.fldA 0 (tp 26)),
  o1 28 (.fldA 1 (tp 27)),
  ⟨none, .store 1 (tp 28) (tp 25), none, []⟩])
 (.seq (.ops false [o1 29 (.mv (tp 0)),
  o1 30 (.call (.con (.fn 224 [] [])) [(tp 29)]),
  o1 6 (.mv (tp 30))])
 (.ret))))⟩
/-- (*entente/def.reader).number -/
def c224 : AFn := ⟨19, [.tmp 2], .seq (.ops false [o1 2 (.mv (ci 0))])
 (.seq (.ops false [o1 6 (.mv (tp 0)),
  o1 7 (.call (.con (.fn 208 [] [])) [(tp 6), (ci 2)]),
  o1 8 (.build [(.int .i64 0), (.str []), (.int .i64 0)] [(0, 1, (ci 2)), (1, 1, (tp 7))]),
  o1 3 (.alloc [(.int .i64 0), (.str []), (.int .i64 0)]),
  ⟨none, .store 3 (tp 3) (tp 8), none, []⟩])
 (.seq (.ops false [o1 10 (.load 3 true (tp 3)),
  o1 11 (.call (.con (.fn 222 [] [])) [(tp 10)]),
  o1 9 (.mv (tp 11)),
  o1 12 (.ext 0 (tp 9)),
  o1 13 (.ext 1 (tp 9)),
  o1 4 (.mv (tp 12)),
  o1 5 (.mv (tp 13))])
 (.seq (.seq (.ops false [o1 14 (.fldA 1 (tp 3)),
  o1 15 (.load 1 false (tp 14)),
  o1 16 (.len 0 (tp 15)),
  o1 17 (.bin .gtr 0 [] (tp 16) (ci 9))])
 (.cond (tp 17) (.seq (.ops false [o1 2 (.mv (ci (-1)))])
 (.ret)) (.skip)))
 (.seq (.ops false [o1 18 (.mv (tp 4)),
  o1 2 (.mv (tp 18))])
 (.ret)))))⟩
/-- strings.indexFunc -/
def c231 : AFn := ⟨21, [.tmp 6], .seq (.ops false [o1 6 (.mv (ci 0))])
 (.seq (.seq (.ops false [o1 9 (.mv (tp 0)),
  o1 10 (.rng (tp 9))])
 (.block 0 (.loop 0 (some ([1, 2, 10], [0, 1, 2, 3, 4, 5, 6, 7, 704, 705, 706, 707, 736, 737])) (.seq (.ops false [o1 11 (.nxt (tp 10)),
  o1 12 (.ext 0 (tp 11))])
 (.seq (.cond (tp 12) (.skip) (.exit 0))
 (.block 1 (.seq (.ops false [o1 13 (.ext 1 (tp 11)),
  o1 14 (.ext 2 (tp 11)),
  o1 7 (.mv (tp 13)),
  o1 8 (.mv (tp 14))])
 (.seq (.ops false [o1 15 (.mv (tp 1)),
  o1 16 (.mv (tp 8)),
  o1 17 (.call (tp 15) [(tp 16)]),
  o1 18 (.mv (tp 2)),
  o1 19 (.bin .eql 1 [] (tp 17) (tp 18))])
 (.cond (tp 19) (.seq (.ops false [o1 20 (.mv (tp 7)),
  o1 6 (.mv (tp 20))])
 (.ret)) (.skip))))))))))
 (.seq (.ops false [o1 6 (.mv (ci (-1)))])
 (.ret)))⟩
/-- strings.trimLeftByte -/
def c232 : AFn := ⟨17, [.tmp 4], .seq (.ops false [o1 4 (.mv (.con (.d (.str []))))])
 (.seq (.block 0 (.loop 0 (some ([0, 1], [0, 1, 2, 3, 4, 5, 6, 7])) (.seq (.seq (.ops false [o1 5 (.mv (tp 0)),
  o1 6 (.len 0 (tp 5)),
  o1 7 (.bin .gtr 0 [] (tp 6) (ci 0)),
  o1 8 (.mv (tp 7)),
  o3 9 (.mv (tp 0)) 8 true [],
  o3 10 (.ixStr (tp 9) (ci 0)) 8 true [],
  o3 11 (.mv (tp 1)) 8 true [],
  o3 12 (.bin .eql 0 [] (tp 10) (tp 11)) 8 true [],
  o1 13 (.pick (tp 8) (tp 12) (.con (.d (.bool false))))])
 (.cond (tp 13) (.skip) (.exit 0)))
 (.block 1 (.ops false [o1 14 (.mv (tp 0)),
  o1 15 (.slcS (tp 14) (some (ci 1)) none),
  o1 0 (.mv (tp 15))])))))
 (.seq (.ops false [o1 16 (.mv (tp 0)),
  o1 4 (.mv (tp 16))])
 (.ret)))⟩
/-- strings.trimRightByte -/
def c233 : AFn := ⟨23, [.tmp 4], .seq (.ops false [o1 4 (.mv (.con (.d (.str []))))])
 (.seq (.block 0 (.loop 0 (some ([0, 1], [0, 1, 2, 3, 4, 5, 6, 7])) (.seq (.seq (.ops false [o1 5 (.mv (tp 0)),
  o1 6 (.len 0 (tp 5)),
  o1 7 (.bin .gtr 0 [] (tp 6) (ci 0)),
  o1 8 (.mv (tp 7)),
  o3 9 (.mv (tp 0)) 8 true [],
  o3 10 (.mv (tp 0)) 8 true [],
  o3 11 (.len 0 (tp 10)) 8 true [],
  o3 12 (.bin .sub 0 [] (tp 11) (ci 1)) 8 true [],
  o3 13 (.ixStr (tp 9) (tp 12)) 8 true [],
  o3 14 (.mv (tp 1)) 8 true [],
  o3 15 (.bin .eql 0 [] (tp 13) (tp 14)) 8 true [],
  o1 16 (.pick (tp 8) (tp 15) (.con (.d (.bool false))))])
 (.cond (tp 16) (.skip) (.exit 0)))
 (.block 1 (.ops false [o1 17 (.mv (tp 0)),
  o1 18 (.mv (tp 0)),
  o1 19 (.len 0 (tp 18)),
  o1 20 (.bin .sub 0 [] (tp 19) (ci 1)),
  o1 21 (.slcS (tp 17) none (some (tp 20))),
  o1 0 (.mv (tp 21))])))))
 (.seq (.ops false [o1 22 (.mv (tp 0)),
  o1 4 (.mv (tp 22))])
 (.ret)))⟩
/-- strings.makeASCIISet -/
def c234 : AFn := ⟨21, [.cell 2 256 true, .tmp 3], .seq (.ops false [o1 2 (.allocA .bool [(.bool false), (.bool false), (.bool false), (.bool false), (.bool false), (.bool false), (.bool false), (.bool false), (.bool false), (.bool false), (.bool false), (.bool false), (.bool false), (.bool false), (.bool false), (.bool false), (.bool false), (.bool false), (.bool false), (.bool false), (.bool false), (.bool false), (.bool false), (.bool false), (.bool false), (.bool false), (.bool false), (.bool false), (.bool false), (.bool false), (.bool false), (.bool false), (.bool false), (.bool false), (.bool false), (.bool false), (.bool false), (.bool false), (.bool false), (.bool false), (.bool false), (.bool false), (.bool false), (.bool false), (.bool false), (.bool false), (.bool false), (.bool false), (.bool false), (.bool false), (.bool false), (.bool false), (.bool false), (.bool false), (.bool false), (.bool false), (.bool false), (.bool false), (.bool false), (.bool false), (.bool false), (.bool false), (.bool false), (.bool false), (.bool false), (.bool false), (.bool false), (.bool false), (.bool false), (.bool false), (.bool false), (.bool false), (.bool false), (.bool false), (.bool false), (.bool false), (.bool false), (.bool false), (.bool false), (.bool false), (.bool false), (.bool false), (.bool false), (.bool false), (.bool false), (.bool false), (.bool false), (.bool false), (.bool false), (.bool false), (.bool false), (.bool false), (.bool false), (.bool false), (.bool false), (.bool false), (.bool false), (.bool false), (.bool false), (.bool false), (.bool false), (.bool false), (.bool false), (.bool false), (.bool false), (.bool false), (.bool false), (.bool false), (.bool false), (.bool false), (.bool false), (.bool false), (.bool false), (.bool false), (.bool false), (.bool false), (.bool false), (.bool false), (.bool false), (.bool false), (.bool false), (.bool false), (.bool false), (.bool false), (.bool false), (.bool false), (.bool false), (.bool false), (.bool false), (.bool false), (.bool false), (.bool false), (.bool false), (.bool false), (.bool false), (.bool false), (.bool false), (.bool false), (.bool false), (.bool false), (.bool false), (.bool false), (.bool false), (.bool false), (.bool false), (.bool false), (.bool false), (.bool false), (.bool false), (.bool false), (.bool false), (.bool false), (.bool false), (.bool false), (.bool false), (.bool false), (.bool false), (.bool false), (.bool false), (.bool false), (.bool false), (.bool false), (.bool false), (.bool false), (.bool false), (.bool false), (.bool false), (.bool false), (.bool false), (.bool false), (.bool false), (.bool false), (.bool false), (.bool false), (.bool false), (.bool false), (.bool false), (.bool false), (.bool false), (.bool false), (.bool false), (.bool false), (.bool false), (.bool false), (.bool false), (.bool false), (.bool false), (.bool false), (.bool false), (.bool false), (.bool false), (.bool false), (.bool false), (.bool false), (.bool false), (.bool false), (.bool false), (.bool false), (.bool false), (.bool false), (.bool false), (.bool false), (.bool false), (.bool false), (.bool false), (.bool false), (.bool false), (.bool false), (.bool false), (.bool false), (.bool false), (.bool false), (.bool false), (.bool false), (.bool false), (.bool false), (.bool false), (.bool false), (.bool false), (.bool false), (.bool false), (.bool false), (.bool false), (.bool false), (.bool false), (.bool false), (.bool false), (.bool false), (.bool false), (.bool false), (.bool false), (.bool false), (.bool false), (.bool false), (.bool false), (.bool false), (.bool false), (.bool false), (.bool false), (.bool false), (.bool false), (.bool false), (.bool false), (.bool false), (.bool false), (.bool false), (.bool false), (.bool false), (.bool false), (.bool false), (.bool false), (.bool false), (.bool false), (.bool false), (.bool false), (.bool false)] 256),
  o1 3 (.mv (.con (.d (.bool false))))])
 (.seq (.seq (.ops false [o1 4 (.mv (ci 0))])
 (.block 0 (.loop 0 (some ([0, 2, 4], [0, 1, 2, 3, 4, 5, 6, 7, 192, 193, 194, 195, 224, 225])) (.seq (.seq (.ops false [o1 6 (.mv (tp 4)),
  o1 7 (.mv (tp 0)),
  o1 8 (.len 0 (tp 7)),
  o1 9 (.bin .lss 0 [] (tp 6) (tp 8))])
 (.cond (tp 9) (.skip) (.exit 0)))
 (.seq (.block 1 (.seq (.ops false [o1 12 (.mv (tp 0)),
  o1 13 (.mv (tp 4)),
  o1 14 (.ixStr (tp 12) (tp 13)),
  o1 5 (.mv (tp 14))])
 (.seq (.seq (.ops false [o1 15 (.mv (tp 5)),
  o1 16 (.bin .geq 0 [] (tp 15) (.con (.d (.int .u8 128))))])
 (.cond (tp 16) (.seq (.ops false [o1 17 (.load 256 true (tp 2)),
  ⟨none, .store 256 (tp 2) (tp 17), none, []⟩,
  o1 3 (.mv (.con (.d (.bool false))))])
 (.ret)) (.skip)))
 (.ops false [o1 18 (.mv (tp 5)),
  o1 19 (.ixP .bool 256 (tp 2) (tp 18)),
  ⟨none, .store 1 (tp 19) (.con (.d (.bool true))), none, []⟩]))))
 (.ops false [o1 10 (.mv (tp 4)),
  o1 11 (.bin .add 0 [] (tp 10) (ci 1)),
  o1 4 (.mv (tp 11))]))))))
 (.seq (.ops false [o1 20 (.load 256 true (tp 2)),
  ⟨none, .store 256 (tp 2) (tp 20), none, []⟩,
  o1 3 (.mv (.con (.d (.bool true))))])
 (.ret)))⟩
/-- strings.trimLeftASCII -/
def c235 : AFn := ⟨16, [.tmp 4], .seq (.ops false [o1 4 (.mv (.con (.d (.str []))))])
 (.seq (.block 0 (.loop 0 (some ([0, 1], [0, 1, 2, 3, 4, 5, 6, 7])) (.seq (.seq (.ops false [o1 5 (.mv (tp 0)),
  o1 6 (.len 0 (tp 5)),
  o1 7 (.bin .gtr 0 [] (tp 6) (ci 0))])
 (.cond (tp 7) (.skip) (.exit 0)))
 (.block 1 (.seq (.seq (.ops false [o1 8 (.mv (tp 1)),
  o1 9 (.mv (tp 0)),
  o1 10 (.ixStr (tp 9) (ci 0)),
  o1 11 (.call (.con (.fn 241 [] [])) [(tp 8), (tp 10)]),
  o1 12 (.un .not (tp 11))])
 (.cond (tp 12) (.exit 0) (.skip)))
 (.ops false [o1 13 (.mv (tp 0)),
  o1 14 (.slcS (tp 13) (some (ci 1)) none),
  o1 0 (.mv (tp 14))]))))))
 (.seq (.ops false [o1 15 (.mv (tp 0)),
  o1 4 (.mv (tp 15))])
 (.ret)))⟩
/-- strings.trimRightASCII -/
def c236 : AFn := ⟨22, [.tmp 4], .seq (.ops false [o1 4 (.mv (.con (.d (.str []))))])
 (.seq (.block 0 (.loop 0 (some ([0, 1], [0, 1, 2, 3, 4, 5, 6, 7])) (.seq (.seq (.ops false [o1 5 (.mv (tp 0)),
  o1 6 (.len 0 (tp 5)),
  o1 7 (.bin .gtr 0 [] (tp 6) (ci 0))])
 (.cond (tp 7) (.skip) (.exit 0)))
 (.block 1 (.seq (.seq (.ops false [o1 8 (.mv (tp 1)),
  o1 9 (.mv (tp 0)),
  o1 10 (.mv (tp 0)),
  o1 11 (.len 0 (tp 10)),
  o1 12 (.bin .sub 0 [] (tp 11) (ci 1)),
  o1 13 (.ixStr (tp 9) (tp 12)),
  o1 14 (.call (.con (.fn 241 [] [])) [(tp 8), (tp 13)]),
  o1 15 (.un .not (tp 14))])
 (.cond (tp 15) (.exit 0) (.skip)))
 (.ops false [o1 16 (.mv (tp 0)),
  o1 17 (.mv (tp 0)),
  o1 18 (.len 0 (tp 17)),
  o1 19 (.bin .sub 0 [] (tp 18) (ci 1)),
  o1 20 (.slcS (tp 16) none (some (tp 19))),
  o1 0 (.mv (tp 20))]))))))
 (.seq (.ops false [o1 21 (.mv (tp 0)),
  o1 4 (.mv (tp 21))])
 (.ret)))⟩
/-- strings.trimLeftUnicode -/
def c237 : AFn := ⟨23, [.tmp 4], .seq (.ops false [o1 4 (.mv (.con (.d (.str []))))])
 (.seq (.block 0 (.loop 0 (some ([0, 1], [0, 1, 2, 3, 4, 5, 6, 7])) (.seq (.seq (.ops false [o1 7 (.mv (tp 0)),
  o1 8 (.len 0 (tp 7)),
  o1 9 (.bin .gtr 0 [] (tp 8) (ci 0))])
 (.cond (tp 9) (.skip) (.exit 0)))
 (.block 1 (.seq (.ops false [o1 11 (.mv (tp 0)),
  o1 12 (.call (.con (.fn 242 [] [])) [(tp 11)]),
  o1 10 (.mv (tp 12)),
  o1 13 (.ext 0 (tp 10)),
  o1 14 (.ext 1 (tp 10)),
  o1 5 (.mv (tp 13)),
  o1 6 (.mv (tp 14))])
 (.seq (.seq (.ops false [o1 15 (.mv (tp 1)),
  o1 16 (.mv (tp 5)),
  o1 17 (.call (.con (.fn 243 [] [])) [(tp 15), (tp 16)]),
  o1 18 (.un .not (tp 17))])
 (.cond (tp 18) (.exit 0) (.skip)))
 (.ops false [o1 19 (.mv (tp 0)),
  o1 20 (.mv (tp 6)),
  o1 21 (.slcS (tp 19) (some (tp 20)) none),
  o1 0 (.mv (tp 21))])))))))
 (.seq (.ops false [o1 22 (.mv (tp 0)),
  o1 4 (.mv (tp 22))])
 (.ret)))⟩
/-- strings.trimRightUnicode -/
def c238 : AFn := ⟨34, [.tmp 4], .seq (.ops false [o1 4 (.mv (.con (.d (.str []))))])
 (.seq (.block 0 (.loop 0 (some ([0, 1], [0, 1, 2, 3, 4, 5, 6, 7])) (.seq (.seq (.ops false [o1 7 (.mv (tp 0)),
  o1 8 (.len 0 (tp 7)),
  o1 9 (.bin .gtr 0 [] (tp 8) (ci 0))])
 (.cond (tp 9) (.skip) (.exit 0)))
 (.block 1 (.seq (.ops false [o1 10 (.mv (tp 0)),
  o1 11 (.mv (tp 0)),
  o1 12 (.len 0 (tp 11)),
  o1 13 (.bin .sub 0 [] (tp 12) (ci 1)),
  o1 14 (.ixStr (tp 10) (tp 13)),
  o1 15 (.conv (.int .i32) (tp 14)),
  o1 5 (.mv (tp 15)),
  o1 6 (.mv (ci 1))])
 (.seq (.seq (.ops false [o1 16 (.mv (tp 5)),
  o1 17 (.bin .geq 0 [] (tp 16) (.con (.d (.int .i32 128))))])
 (.cond (tp 17) (.ops false [o1 19 (.mv (tp 0)),
  o1 20 (.call (.con (.fn 244 [] [])) [(tp 19)]),
  o1 18 (.mv (tp 20)),
  o1 21 (.ext 0 (tp 18)),
  o1 22 (.ext 1 (tp 18)),
  o1 5 (.mv (tp 21)),
  o1 6 (.mv (tp 22))]) (.skip)))
 (.seq (.seq (.ops false [o1 23 (.mv (tp 1)),
  o1 24 (.mv (tp 5)),
  o1 25 (.call (.con (.fn 243 [] [])) [(tp 23), (tp 24)]),
  o1 26 (.un .not (tp 25))])
 (.cond (tp 26) (.exit 0) (.skip)))
 (.ops false [o1 27 (.mv (tp 0)),
  o1 28 (.mv (tp 0)),
  o1 29 (.len 0 (tp 28)),
  o1 30 (.mv (tp 6)),
  o1 31 (.bin .sub 0 [] (tp 29) (tp 30)),
  o1 32 (.slcS (tp 27) none (some (tp 31))),
  o1 0 (.mv (tp 32))]))))))))
 (.seq (.ops false [o1 33 (.mv (tp 0)),
  o1 4 (.mv (tp 33))])
 (.ret)))⟩
/-- (*strings.asciiSet).contains -/
def c241 : AFn := ⟨10, [.tmp 4], .seq (.ops false [o1 4 (.mv (.con (.d (.bool false))))])
 (.seq (.ops false [o1 5 (.mv (tp 0)),
  o1 6 (.mv (tp 1)),
  o1 7 (.nilck (tp 5)),
  o1 8 (.ixP .bool 256 (tp 7) (tp 6)),
  o1 9 (.load 1 false (tp 8)),
  o1 4 (.mv (tp 9))])
 (.ret))⟩
/-- unicode/utf8.DecodeRuneInString -/
def c242 : AFn := ⟨19, [.tmp 2, .tmp 3], .seq (.ops false [o1 2 (.mv (.con (.d (.int .i32 0)))),
  o1 3 (.mv (ci 0))])
 (.seq (.seq (.ops false [o1 4 (.mv (tp 0)),
  o1 5 (.bin .neq 0 [] (tp 4) (.con (.d (.str [])))),
  o1 6 (.mv (tp 5)),
  o3 7 (.mv (tp 0)) 6 true [],
  o3 8 (.ixStr (tp 7) (ci 0)) 6 true [],
  o3 9 (.bin .lss 0 [] (tp 8) (.con (.d (.int .u8 128)))) 6 true [],
  o1 10 (.pick (tp 6) (tp 9) (.con (.d (.bool false))))])
 (.cond (tp 10) (.seq (.ops false [o1 11 (.mv (tp 0)),
  o1 12 (.ixStr (tp 11) (ci 0)),
  o1 13 (.conv (.int .i32) (tp 12)),
  o1 2 (.mv (tp 13)),
  o1 3 (.mv (ci 1))])
 (.ret)) (.ops false [o1 15 (.mv (tp 0)),
  o1 16 (.call (.con (.fn 245 [] [])) [(tp 15)]),
  o1 14 (.mv (tp 16)),
  o1 17 (.ext 0 (tp 14)),
  o1 18 (.ext 1 (tp 14)),
  o1 2 (.mv (tp 17)),
  o1 3 (.mv (tp 18))])))
 (.ret))⟩
/-- strings.ContainsRune -/
def c243 : AFn := ⟨9, [.tmp 4], .seq (.ops false [o1 4 (.mv (.con (.d (.bool false))))])
 (.seq (.ops false [o1 5 (.mv (tp 0)),
  o1 6 (.mv (tp 1)),
  o1 7 (.call (.con (.fn 246 [] [])) [(tp 5), (tp 6)]),
  o1 8 (.bin .geq 0 [] (tp 7) (ci 0)),
  o1 4 (.mv (tp 8))])
 (.ret))⟩
/-- unicode/utf8.DecodeLastRuneInString -/
def c244 : AFn := ⟨51, [.tmp 2, .tmp 3], .seq (.ops false [o1 2 (.mv (.con (.d (.int .i32 0)))),
  o1 3 (.mv (ci 0))])
 (.seq (.ops false [o1 7 (.mv (tp 0)),
  o1 8 (.len 0 (tp 7)),
  o1 4 (.mv (tp 8))])
 (.seq (.seq (.ops false [o1 9 (.mv (tp 4)),
  o1 10 (.bin .eql 0 [] (tp 9) (ci 0))])
 (.cond (tp 10) (.seq (.ops false [o1 2 (.mv (.con (.d (.int .i32 65533)))),
  o1 3 (.mv (ci 0))])
 (.ret)) (.skip)))
 (.seq (.ops false [o1 11 (.mv (tp 4)),
  o1 12 (.bin .sub 0 [] (tp 11) (ci 1)),
  o1 5 (.mv (tp 12))])
 (.seq (.ops false [o1 13 (.mv (tp 0)),
  o1 14 (.mv (tp 5)),
  o1 15 (.ixStr (tp 13) (tp 14)),
  o1 16 (.conv (.int .i32) (tp 15)),
  o1 2 (.mv (tp 16))])
 (.seq (.seq (.ops false [o1 17 (.mv (tp 2)),
  o1 18 (.bin .lss 0 [] (tp 17) (.con (.d (.int .i32 128))))])
 (.cond (tp 18) (.seq (.ops false [o1 19 (.mv (tp 2)),
  o1 2 (.mv (tp 19)),
  o1 3 (.mv (ci 1))])
 (.ret)) (.skip)))
 (.seq (.ops false [o1 20 (.mv (tp 4)),
  o1 21 (.bin .sub 0 [] (tp 20) (ci 4)),
  o1 22 (.mx (tp 21) [(ci 0)]),
  o1 6 (.mv (tp 22))])
 (.seq (.seq (.ops false [o1 23 (.mv (tp 5)),
  o1 24 (.bin .sub 0 [] (tp 23) (ci 1)),
  o1 5 (.mv (tp 24))])
 (.block 0 (.loop 0 (some ([0, 4, 5, 6], [0, 1, 2, 3, 4, 5, 6, 7, 2688, 2689, 2690, 2691, 2720, 2721])) (.seq (.seq (.ops false [o1 25 (.mv (tp 5)),
  o1 26 (.mv (tp 6)),
  o1 27 (.bin .geq 0 [] (tp 25) (tp 26))])
 (.cond (tp 27) (.skip) (.exit 0)))
 (.seq (.block 1 (.seq (.ops false [o1 30 (.mv (tp 0)),
  o1 31 (.mv (tp 5)),
  o1 32 (.ixStr (tp 30) (tp 31)),
  o1 33 (.call (.con (.fn 247 [] [])) [(tp 32)])])
 (.cond (tp 33) (.exit 0) (.skip))))
 (.ops false [o1 28 (.mv (tp 5)),
  o1 29 (.bin .sub 0 [] (tp 28) (ci 1)),
  o1 5 (.mv (tp 29))]))))))
 (.seq (.seq (.ops false [o1 34 (.mv (tp 5)),
  o1 35 (.bin .lss 0 [] (tp 34) (ci 0))])
 (.cond (tp 35) (.ops false [o1 5 (.mv (ci 0))]) (.skip)))
 (.seq (.ops false [o1 37 (.mv (tp 0)),
  o1 38 (.mv (tp 5)),
  o1 39 (.mv (tp 4)),
  o1 40 (.slcS (tp 37) (some (tp 38)) (some (tp 39))),
  o1 41 (.call (.con (.fn 242 [] [])) [(tp 40)]),
  o1 36 (.mv (tp 41)),
  o1 42 (.ext 0 (tp 36)),
  o1 43 (.ext 1 (tp 36)),
  o1 2 (.mv (tp 42)),
  o1 3 (.mv (tp 43))])
 (.seq (.seq (.ops false [o1 44 (.mv (tp 5)),
  o1 45 (.mv (tp 3)),
  o1 46 (.bin .add 0 [] (tp 44) (tp 45)),
  o1 47 (.mv (tp 4)),
  o1 48 (.bin .neq 0 [] (tp 46) (tp 47))])
 (.cond (tp 48) (.seq (.ops false [o1 2 (.mv (.con (.d (.int .i32 65533)))),
  o1 3 (.mv (ci 1))])
 (.ret)) (.skip)))
 (.seq (.ops false [o1 49 (.mv (tp 2)),
  o1 50 (.mv (tp 3)),
  o1 2 (.mv (tp 49)),
  o1 3 (.mv (tp 50))])
 (.ret))))))))))))⟩
/-- unicode/utf8.decodeRuneInStringSlow -/
def c245 : AFn := ⟨117, [.tmp 2, .tmp 3], .seq (.ops false [o1 2 (.mv (.con (.d (.int .i32 0)))),
  o1 3 (.mv (ci 0))])
 (.seq (.ops false [o1 13 (.mv (tp 0)),
  o1 14 (.len 0 (tp 13)),
  o1 4 (.mv (tp 14))])
 (.seq (.seq (.ops false [o1 15 (.mv (tp 4)),
  o1 16 (.bin .lss 0 [] (tp 15) (ci 1))])
 (.cond (tp 16) (.seq (.ops false [o1 2 (.mv (.con (.d (.int .i32 65533)))),
  o1 3 (.mv (ci 0))])
 (.ret)) (.skip)))
 (.seq (.ops false [o1 17 (.mv (tp 0)),
  o1 18 (.ixStr (tp 17) (ci 0)),
  o1 5 (.mv (tp 18))])
 (.seq (.ops false [o1 19 (.mv (tp 5)),
  o1 20 (.ixP (.int .u8) 256 (.con .any) (tp 19)),
  o1 21 (.load 1 false (tp 20)),
  o1 6 (.mv (tp 21))])
 (.seq (.seq (.ops false [o1 22 (.mv (tp 6)),
  o1 23 (.bin .geq 0 [] (tp 22) (.con (.d (.int .u8 240))))])
 (.cond (tp 23) (.seq (.ops false [o1 24 (.mv (tp 6)),
  o1 25 (.conv (.int .i32) (tp 24)),
  o1 26 (.bin .shl 0 [] (tp 25) (.con (.d (.int .u64 31)))),
  o1 27 (.bin .shr 0 [] (tp 26) (.con (.d (.int .u64 31)))),
  o1 7 (.mv (tp 27))])
 (.seq (.ops false [o1 28 (.mv (tp 0)),
  o1 29 (.ixStr (tp 28) (ci 0)),
  o1 30 (.conv (.int .i32) (tp 29)),
  o1 31 (.mv (tp 7)),
  o1 32 (.bin .andNot 0 [] (tp 30) (tp 31)),
  o1 33 (.mv (tp 7)),
  o1 34 (.bin .and 0 [] (.con (.d (.int .i32 65533))) (tp 33)),
  o1 35 (.bin .or 0 [] (tp 32) (tp 34)),
  o1 2 (.mv (tp 35)),
  o1 3 (.mv (ci 1))])
 (.ret))) (.skip)))
 (.seq (.ops false [o1 36 (.mv (tp 6)),
  o1 37 (.bin .and 0 [] (tp 36) (.con (.d (.int .u8 7)))),
  o1 38 (.conv (.int .i64) (tp 37)),
  o1 8 (.mv (tp 38))])
 (.seq (.ops false [o1 39 (.mv (tp 6)),
  o1 40 (.bin .shr 0 [] (tp 39) (.con (.d (.int .u64 4)))),
  o1 41 (.ixP (.agg [(.int .u8), (.int .u8)]) 16 (.con .any) (tp 40)),
  o1 42 (.load 2 true (tp 41)),
  o1 9 (.alloc [(.int .u8 0), (.int .u8 0)]),
  ⟨none, .store 2 (tp 9) (tp 42), none, []⟩])
 (.seq (.seq (.ops false [o1 43 (.mv (tp 4)),
  o1 44 (.mv (tp 8)),
  o1 45 (.bin .lss 0 [] (tp 43) (tp 44))])
 (.cond (tp 45) (.seq (.ops false [o1 2 (.mv (.con (.d (.int .i32 65533)))),
  o1 3 (.mv (ci 1))])
 (.ret)) (.skip)))
 (.seq (.ops false [o1 46 (.mv (tp 0)),
  o1 47 (.ixStr (tp 46) (ci 1)),
  o1 10 (.mv (tp 47))])
 (.seq (.seq (.ops false [o1 48 (.mv (tp 10)),
  o1 49 (.fldA 0 (tp 9)),
  o1 50 (.load 1 false (tp 49)),
  o1 51 (.bin .lss 0 [] (tp 48) (tp 50)),
  o1 52 (.mv (tp 51)),
  o3 53 (.fldA 1 (tp 9)) 52 false [],
  o3 54 (.load 1 false (tp 53)) 52 false [],
  o3 55 (.mv (tp 10)) 52 false [],
  o3 56 (.bin .lss 0 [] (tp 54) (tp 55)) 52 false [],
  o1 57 (.pick (tp 52) (.con (.d (.bool true))) (tp 56))])
 (.cond (tp 57) (.seq (.ops false [o1 2 (.mv (.con (.d (.int .i32 65533)))),
  o1 3 (.mv (ci 1))])
 (.ret)) (.skip)))
 (.seq (.seq (.ops false [o1 58 (.mv (tp 8)),
  o1 59 (.bin .leq 0 [] (tp 58) (ci 2))])
 (.cond (tp 59) (.seq (.ops false [o1 60 (.mv (tp 5)),
  o1 61 (.bin .and 0 [] (tp 60) (.con (.d (.int .u8 31)))),
  o1 62 (.conv (.int .i32) (tp 61)),
  o1 63 (.bin .shl 0 [] (tp 62) (.con (.d (.int .u64 6)))),
  o1 64 (.mv (tp 10)),
  o1 65 (.bin .and 0 [] (tp 64) (.con (.d (.int .u8 63)))),
  o1 66 (.conv (.int .i32) (tp 65)),
  o1 67 (.bin .or 0 [] (tp 63) (tp 66)),
  o1 2 (.mv (tp 67)),
  o1 3 (.mv (ci 2))])
 (.ret)) (.skip)))
 (.seq (.ops false [o1 68 (.mv (tp 0)),
  o1 69 (.ixStr (tp 68) (ci 2)),
  o1 11 (.mv (tp 69))])
 (.seq (.seq (.ops false [o1 70 (.mv (tp 11)),
  o1 71 (.bin .lss 0 [] (tp 70) (.con (.d (.int .u8 128)))),
  o1 72 (.mv (tp 71)),
  o3 73 (.mv (tp 11)) 72 false [],
  o3 74 (.bin .lss 0 [] (.con (.d (.int .u8 191))) (tp 73)) 72 false [],
  o1 75 (.pick (tp 72) (.con (.d (.bool true))) (tp 74))])
 (.cond (tp 75) (.seq (.ops false [o1 2 (.mv (.con (.d (.int .i32 65533)))),
  o1 3 (.mv (ci 1))])
 (.ret)) (.skip)))
 (.seq (.seq (.ops false [o1 76 (.mv (tp 8)),
  o1 77 (.bin .leq 0 [] (tp 76) (ci 3))])
 (.cond (tp 77) (.seq (.ops false [o1 78 (.mv (tp 5)),
  o1 79 (.bin .and 0 [] (tp 78) (.con (.d (.int .u8 15)))),
  o1 80 (.conv (.int .i32) (tp 79)),
  o1 81 (.bin .shl 0 [] (tp 80) (.con (.d (.int .u64 12)))),
  o1 82 (.mv (tp 10)),
  o1 83 (.bin .and 0 [] (tp 82) (.con (.d (.int .u8 63)))),
  o1 84 (.conv (.int .i32) (tp 83)),
  o1 85 (.bin .shl 0 [] (tp 84) (.con (.d (.int .u64 6)))),
  o1 86 (.bin .or 0 [] (tp 81) (tp 85)),
  o1 87 (.mv (tp 11)),
  o1 88 (.bin .and 0 [] (tp 87) (.con (.d (.int .u8 63)))),
  o1 89 (.conv (.int .i32) (tp 88)),
  o1 90 (.bin .or 0 [] (tp 86) (tp 89)),
  o1 2 (.mv (tp 90)),
  o1 3 (.mv (ci 3))])
 (.ret)) (.skip)))
 (.seq (.ops false [o1 91 (.mv (tp 0)),
  o1 92 (.ixStr (tp 91) (ci 3)),
  o1 12 (.mv (tp 92))])
 (.seq (.seq (.ops false [o1 93 (.mv (tp 12)),
  o1 94 (.bin .lss 0 [] (tp 93) (.con (.d (.int .u8 128)))),
  o1 95 (.mv (tp 94)),
  o3 96 (.mv (tp 12)) 95 false [],
  o3 97 (.bin .lss 0 [] (.con (.d (.int .u8 191))) (tp 96)) 95 false [],
  o1 98 (.pick (tp 95) (.con (.d (.bool true))) (tp 97))])
 (.cond (tp 98) (.seq (.ops false [o1 2 (.mv (.con (.d (.int .i32 65533)))),
  o1 3 (.mv (ci 1))])
 (.ret)) (.skip)))
 (.seq (.ops false [o1 99 (.mv (tp 5)),
  o1 100 (.bin .and 0 [] (tp 99) (.con (.d (.int .u8 7)))),
  o1 101 (.conv (.int .i32) (tp 100)),
  o1 102 (.bin .shl 0 [] (tp 101) (.con (.d (.int .u64 18)))),
  o1 103 (.mv (tp 10)),
  o1 104 (.bin .and 0 [] (tp 103) (.con (.d (.int .u8 63)))),
  o1 105 (.conv (.int .i32) (tp 104)),
  o1 106 (.bin .shl 0 [] (tp 105) (.con (.d (.int .u64 12)))),
  o1 107 (.bin .or 0 [] (tp 102) (tp 106)),
  o1 108 (.mv (tp 11)),
  o1 109 (.bin .and 0 [] (tp 108) (.con (.d (.int .u8 63)))),
  o1 110 (.conv (.int .i32) (tp 109)),
  o1 111 (.bin .shl 0 [] (tp 110) (.con (.d (.int .u64 6)))),
  o1 112 (.bin .or 0 [] (tp 107) (tp 111)),
  o1 113 (.mv (tp 12)),
  o1 114 (.bin .and 0 [] (tp 113) (.con (.d (.int .u8 63)))),
  o1 115 (.conv (.int .i32) (tp 114)),
  o1 116 (.bin .or 0 [] (tp 112) (tp 115)),
  o1 2 (.mv (tp 116)),
  o1 3 (.mv (ci 4))])
 (.ret))))))))))))))))))⟩
/-- unicode/utf8.RuneStart -/
def c247 : AFn := ⟨6, [.tmp 2], .seq (.ops false [o1 2 (.mv (.con (.d (.bool false))))])
 (.seq (.ops false [o1 3 (.mv (tp 0)),
  o1 4 (.bin .and 0 [] (tp 3) (.con (.d (.int .u8 192)))),
  o1 5 (.bin .neq 0 [] (tp 4) (.con (.d (.int .u8 128)))),
  o1 2 (.mv (tp 5))])
 (.ret))⟩
end Go.Proofs.YtkjiaijkdefkgaaGreatDoor.A
