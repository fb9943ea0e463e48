/- The light code of the program's functions, part 0. -/
import Derived.Test.YtkjiaijkdefkgaaGreatDoorGa

namespace Go.Proofs.YtkjiaijkdefkgaaGreatDoor.A
open Go Go.AM
def tp (n : Nat) : Opd := .tmp n
def ci (n : Int) : Opd := .con (.d (.int .i64 n))
def o1 (d : Nat) (x : AOp) : AOper := ⟨some d, x, none, []⟩
def o2 (d : Nat) (x : AOp) (l : List Nat) : AOper := ⟨some d, x, none, l⟩
def o3 (d : Nat) (x : AOp) (s : Nat) (w : Bool) (l : List Nat) : AOper := ⟨some d, x, some (s, w), l⟩
def hA : Sh := .agg [.int .i64, .int .i64]
def hB : Sh := .agg [.int .i64, .str, .int .i64, .int .i64, .str, .int .i64, .int .i64]
/-- entente/ententelaw25.ChildTells -/
def c3 : AFn := ⟨32, [.tmp 2], .seq (.ops false [o1 1 (.box (tp 0)),
  o1 2 (.mv (.con (.d (.bool false))))])
 (.seq (.seq (.ops false [o1 7 (.load 9 true (tp 1)),
  o1 8 (.call (.con (.fn 13 [] [])) [(tp 7)]),
  o1 9 (.un .not (tp 8))])
 (.cond (tp 9) (.seq (.ops false [o1 10 (.call (.con (.fn 14 [] [])) []),
  o1 2 (.mv (tp 10))])
 (.ret)) (.skip)))
 (.seq (.ops false [o1 12 (.load 9 true (tp 1)),
  o1 13 (.call (.con (.fn 15 [] [])) [(tp 12)]),
  o1 11 (.mv (tp 13)),
  o1 14 (.ext 0 (tp 11)),
  o1 15 (.ext 1 (tp 11)),
  o1 3 (.alloc [(.int .i64 0), (.int .i64 0), (.int .i64 0), (.sl hA true []), (.str []), (.int .i64 0)]),
  ⟨none, .store 6 (tp 3) (tp 14), none, []⟩,
  o1 4 (.mv (tp 15))])
 (.seq (.ops false [o1 17 (.load 9 true (tp 1)),
  o1 18 (.call (.con (.fn 16 [] [])) [(tp 17)]),
  o1 16 (.mv (tp 18)),
  o1 19 (.ext 0 (tp 16)),
  o1 20 (.ext 1 (tp 16)),
  o1 5 (.alloc [(.int .i64 0), (.int .i64 0), (.int .i64 0), (.sl hA true []), (.str []), (.int .i64 0)]),
  ⟨none, .store 6 (tp 5) (tp 19), none, []⟩,
  o1 6 (.mv (tp 20))])
 (.seq (.ops false [o1 21 (.load 6 true (tp 3)),
  o1 22 (.load 6 true (tp 5)),
  o1 23 (.call (.con (.fn 17 [] [])) [(tp 21), (tp 22)]),
  o1 24 (.mv (tp 23)),
  o3 25 (.mv (tp 4)) 24 true [],
  o3 26 (.mv (tp 6)) 24 true [],
  o3 27 (.bin .eql 1 [] (tp 25) (tp 26)) 24 true [],
  o1 28 (.pick (tp 24) (tp 27) (.con (.d (.bool false)))),
  o1 29 (.mv (tp 28)),
  o3 30 (.call (.con (.fn 14 [] [])) []) 29 true [],
  o1 31 (.pick (tp 29) (tp 30) (.con (.d (.bool false)))),
  o1 2 (.mv (tp 31))])
 (.ret)))))⟩
/-- entente/ententelaw21.SagaDecided -/
def c9 : AFn := ⟨90, [.tmp 4], .seq (.ops false [o1 2 (.box (tp 0)),
  o1 3 (.box (tp 1)),
  o1 4 (.mv (.con (.d (.bool false))))])
 (.seq (.seq (.ops false [o1 8 (.load 9 true (tp 2)),
  o1 9 (.call (.con (.fn 13 [] [])) [(tp 8)]),
  o1 10 (.un .not (tp 9)),
  o1 11 (.mv (tp 10)),
  o3 12 (.load 8 true (tp 3)) 11 false [],
  o3 13 (.call (.con (.fn 41 [] [])) [(tp 12)]) 11 false [],
  o3 14 (.un .not (tp 13)) 11 false [],
  o1 15 (.pick (tp 11) (.con (.d (.bool true))) (tp 14))])
 (.cond (tp 15) (.seq (.ops false [o1 16 (.call (.con (.fn 32 [] [])) []),
  o1 4 (.mv (tp 16))])
 (.ret)) (.skip)))
 (.seq (.ops false [o1 18 (.load 9 true (tp 2)),
  o1 19 (.load 8 true (tp 3)),
  o1 20 (.call (.con (.fn 42 [] [])) [(tp 18), (tp 19)]),
  o1 17 (.mv (tp 20)),
  o1 21 (.ext 0 (tp 17)),
  o1 22 (.ext 1 (tp 17)),
  o1 5 (.alloc [(.int .i64 0), (.int .i64 0), (.sl hA true []), (.str []), (.sl hB true []), (.int .i64 0), (.int .i64 0), (.sl hA true []), (.bool false)]),
  ⟨none, .store 9 (tp 5) (tp 21), none, []⟩,
  o1 6 (.mv (tp 22))])
 (.seq (.seq (.ops false [o1 23 (.mv (tp 6)),
  o1 24 (.bin .neq 0 [] (tp 23) (ci 0))])
 (.cond (tp 24) (.seq (.ops false [o1 25 (.call (.con (.fn 32 [] [])) []),
  o1 4 (.mv (tp 25))])
 (.ret)) (.skip)))
 (.seq (.seq (.ops false [o1 26 (.fldA 5 (tp 2)),
  o1 27 (.load 1 false (tp 26)),
  o1 28 (.bin .eql 0 [] (tp 27) (ci 3)),
  o1 29 (.mv (tp 28)),
  o3 30 (.fldA 5 (tp 2)) 29 false [],
  o3 31 (.load 1 false (tp 30)) 29 false [],
  o3 32 (.bin .eql 0 [] (tp 31) (ci 6)) 29 false [],
  o1 33 (.pick (tp 29) (.con (.d (.bool true))) (tp 32)),
  o1 34 (.mv (tp 33)),
  o3 35 (.fldA 5 (tp 5)) 34 true [],
  o3 36 (.load 1 false (tp 35)) 34 true [],
  o3 37 (.fldA 5 (tp 2)) 34 true [],
  o3 38 (.load 1 false (tp 37)) 34 true [],
  o3 39 (.bin .neq 0 [] (tp 36) (tp 38)) 34 true [],
  o1 40 (.pick (tp 34) (tp 39) (.con (.d (.bool false)))),
  o1 41 (.mv (tp 40)),
  o3 42 (.fldA 5 (tp 2)) 41 false [],
  o3 43 (.load 1 false (tp 42)) 41 false [],
  o3 44 (.bin .eql 0 [] (tp 43) (ci 7)) 41 false [],
  o1 45 (.pick (tp 41) (.con (.d (.bool true))) (tp 44)),
  o1 46 (.mv (tp 45)),
  o3 47 (.fldA 8 (tp 2)) 46 false [],
  o3 48 (.load 1 false (tp 47)) 46 false [],
  o3 49 (.mv (tp 48)) 46 false [],
  o3 50 (.fldA 8 (tp 5)) 49 true [],
  o3 51 (.load 1 false (tp 50)) 49 true [],
  o3 52 (.un .not (tp 51)) 49 true [],
  o3 53 (.pick (tp 49) (tp 52) (.con (.d (.bool false)))) 46 false [],
  o1 54 (.pick (tp 46) (.con (.d (.bool true))) (tp 53))])
 (.cond (tp 54) (.seq (.ops false [o1 4 (.mv (.con (.d (.bool false))))])
 (.ret)) (.skip)))
 (.seq (.seq (.ops false [o1 55 (.fldA 5 (tp 2)),
  o1 56 (.load 1 false (tp 55)),
  o1 57 (.bin .eql 0 [] (tp 56) (ci 2)),
  o1 58 (.mv (tp 57)),
  o3 59 (.fldA 5 (tp 5)) 58 true [],
  o3 60 (.load 1 false (tp 59)) 58 true [],
  o3 61 (.bin .neq 0 [] (tp 60) (ci 2)) 58 true [],
  o1 62 (.pick (tp 58) (tp 61) (.con (.d (.bool false))))])
 (.cond (tp 62) (.seq (.ops false [o1 63 (.fldA 5 (tp 5)),
  o1 64 (.load 1 false (tp 63)),
  o1 65 (.bin .eql 0 [] (tp 64) (ci 4)),
  o1 66 (.mv (tp 65)),
  o3 67 (.fldA 6 (tp 5)) 66 true [],
  o3 68 (.load 1 false (tp 67)) 66 true [],
  o3 69 (.bin .eql 0 [] (tp 68) (ci 7)) 66 true [],
  o3 70 (.mv (tp 69)) 66 true [],
  o3 71 (.fldA 6 (tp 5)) 70 false [],
  o3 72 (.load 1 false (tp 71)) 70 false [],
  o3 73 (.bin .eql 0 [] (tp 72) (ci 5)) 70 false [],
  o3 74 (.pick (tp 70) (.con (.d (.bool true))) (tp 73)) 66 true [],
  o1 75 (.pick (tp 66) (tp 74) (.con (.d (.bool false)))),
  o1 7 (.mv (tp 75))])
 (.seq (.ops false [o1 76 (.fldA 5 (tp 5)),
  o1 77 (.load 1 false (tp 76)),
  o1 78 (.bin .eql 0 [] (tp 77) (ci 3)),
  o1 79 (.mv (tp 78)),
  o3 80 (.mv (tp 7)) 79 false [],
  o1 81 (.pick (tp 79) (.con (.d (.bool true))) (tp 80)),
  o1 82 (.mv (tp 81)),
  o3 83 (.fldA 8 (tp 5)) 82 false [],
  o3 84 (.load 1 false (tp 83)) 82 false [],
  o1 85 (.pick (tp 82) (.con (.d (.bool true))) (tp 84)),
  o1 86 (.mv (tp 85)),
  o3 87 (.call (.con (.fn 32 [] [])) []) 86 true [],
  o1 88 (.pick (tp 86) (tp 87) (.con (.d (.bool false)))),
  o1 4 (.mv (tp 88))])
 (.ret))) (.skip)))
 (.seq (.ops false [o1 89 (.call (.con (.fn 32 [] [])) []),
  o1 4 (.mv (tp 89))])
 (.ret)))))))⟩
/-- entente/ententelaw21.Few -/
def c13 : AFn := ⟨21, [.tmp 2], .seq (.ops false [o1 1 (.box (tp 0)),
  o1 2 (.mv (.con (.d (.bool false))))])
 (.seq (.ops false [o1 3 (.fldA 0 (tp 1)),
  o1 4 (.fldA 2 (tp 3)),
  o1 5 (.load 1 false (tp 4)),
  o1 6 (.len 1 (tp 5)),
  o1 7 (.bin .leq 0 [] (tp 6) (ci 50)),
  o1 8 (.mv (tp 7)),
  o3 9 (.fldA 3 (tp 1)) 8 true [],
  o3 10 (.fldA 1 (tp 9)) 8 true [],
  o3 11 (.load 1 false (tp 10)) 8 true [],
  o3 12 (.len 1 (tp 11)) 8 true [],
  o3 13 (.bin .leq 0 [] (tp 12) (ci 50)) 8 true [],
  o1 14 (.pick (tp 8) (tp 13) (.con (.d (.bool false)))),
  o1 15 (.mv (tp 14)),
  o3 16 (.fldA 7 (tp 1)) 15 true [],
  o3 17 (.load 1 false (tp 16)) 15 true [],
  o3 18 (.len 1 (tp 17)) 15 true [],
  o3 19 (.bin .leq 0 [] (tp 18) (ci 200)) 15 true [],
  o1 20 (.pick (tp 15) (tp 19) (.con (.d (.bool false)))),
  o1 2 (.mv (tp 20))])
 (.ret))⟩
/-- entente/ententelaw25.awake -/
def c14 : AFn := ⟨78, [.tmp 0], .seq (.ops false [o1 0 (.mv (.con (.d (.bool false))))])
 (.seq (.ops false [o1 8 (.build [(.int .i64 0), (.int .i64 0)] [(1, 1, (ci 3))]),
  o1 9 (.buildSl hA [(.int .i64 0), (.int .i64 0)] 1 [(0, 2, (tp 8))]),
  o1 10 (.build [(.int .i64 0), (.int .i64 0), (.sl hA true [])] [(1, 1, (ci 1)), (2, 1, (tp 9))]),
  o1 1 (.alloc [(.int .i64 0), (.int .i64 0), (.sl hA true [])]),
  ⟨none, .store 3 (tp 1) (tp 10), none, []⟩])
 (.seq (.ops false [o1 12 (.build [(.int .i64 0), (.int .i64 0), (.int .i64 0), (.sl (.agg [.str, (.int .i64), (.int .i64), (.int .i64), (.int .i64), (.int .i64), (.int .i64)]) true []), (.sl (.agg [.str, (.int .i64), .str, (.int .i64), (.int .i64)]) true []), (.sl (.agg [.str, (.sl hB)]) true []), (.sl (.agg [(.int .i64), (.int .i64), (.sl hA), .str, (.sl hB), (.int .i64), (.int .i64), (.sl hA), .bool]) true [])] [(0, 1, (ci 3))]),
  o1 13 (.load 3 true (tp 1)),
  o1 14 (.build [(.int .i64 0), (.int .i64 0), (.int .i64 0), (.sl hA true []), (.str []), (.int .i64 0)] [(0, 1, (ci 4)), (1, 3, (tp 13))]),
  o1 15 (.call (.con (.fn 19 [] [])) [(tp 12), (tp 14)]),
  o1 11 (.mv (tp 15)),
  o1 16 (.ext 0 (tp 11)),
  o1 17 (.ext 1 (tp 11)),
  o1 2 (.alloc [(.sl (.agg [(.int .i64), (.int .i64), (.int .i64), (.sl hA), (.int .i64), (.int .i64), .str, (.sl hB)]) true []), (.sl (.agg [(.int .i64), (.int .i64), (.int .i64), (.sl hA), .str, (.int .i64)]) true [])]),
  ⟨none, .store 2 (tp 2) (tp 16), none, []⟩,
  o1 3 (.mv (tp 17))])
 (.seq (.ops false [o1 19 (.build [(.int .i64 0), (.int .i64 0), (.int .i64 0), (.sl (.agg [.str, (.int .i64), (.int .i64), (.int .i64), (.int .i64), (.int .i64), (.int .i64)]) true []), (.sl (.agg [.str, (.int .i64), .str, (.int .i64), (.int .i64)]) true []), (.sl (.agg [.str, (.sl hB)]) true []), (.sl (.agg [(.int .i64), (.int .i64), (.sl hA), .str, (.sl hB), (.int .i64), (.int .i64), (.sl hA), .bool]) true [])] [(0, 1, (ci 3))]),
  o1 20 (.load 3 true (tp 1)),
  o1 21 (.build [(.int .i64 0), (.int .i64 0), (.int .i64 0), (.sl hA true []), (.str []), (.int .i64 0)] [(0, 1, (ci 5)), (1, 3, (tp 20))]),
  o1 22 (.call (.con (.fn 19 [] [])) [(tp 19), (tp 21)]),
  o1 18 (.mv (tp 22)),
  o1 23 (.ext 0 (tp 18)),
  o1 24 (.ext 1 (tp 18)),
  o1 4 (.alloc [(.sl (.agg [(.int .i64), (.int .i64), (.int .i64), (.sl hA), (.int .i64), (.int .i64), .str, (.sl hB)]) true []), (.sl (.agg [(.int .i64), (.int .i64), (.int .i64), (.sl hA), .str, (.int .i64)]) true [])]),
  ⟨none, .store 2 (tp 4) (tp 23), none, []⟩,
  o1 5 (.mv (tp 24))])
 (.seq (.ops false [o1 26 (.load 3 true (tp 1)),
  o1 27 (.build [(.int .i64 0), (.int .i64 0), (.sl hA true []), (.str []), (.sl hB true []), (.int .i64 0), (.int .i64 0), (.sl hA true []), (.bool false)] [(0, 3, (tp 26)), (5, 1, (ci 7)), (6, 1, (ci 8))]),
  o1 28 (.call (.con (.fn 15 [] [])) [(tp 27)]),
  o1 25 (.mv (tp 28)),
  o1 29 (.ext 0 (tp 25)),
  o1 30 (.ext 1 (tp 25)),
  o1 6 (.alloc [(.int .i64 0), (.int .i64 0), (.int .i64 0), (.sl hA true []), (.str []), (.int .i64 0)]),
  ⟨none, .store 6 (tp 6) (tp 29), none, []⟩,
  o1 7 (.mv (tp 30))])
 (.seq (.ops false [o1 31 (.mv (tp 3)),
  o1 32 (.bin .eql 0 [] (tp 31) (ci 0)),
  o1 33 (.mv (tp 32)),
  o3 34 (.fldA 0 (tp 2)) 33 true [],
  o3 35 (.load 1 false (tp 34)) 33 true [],
  o3 36 (.len 1 (tp 35)) 33 true [],
  o3 37 (.bin .eql 0 [] (tp 36) (ci 1)) 33 true [],
  o1 38 (.pick (tp 33) (tp 37) (.con (.d (.bool false)))),
  o1 39 (.mv (tp 38)),
  o3 40 (.fldA 0 (tp 2)) 39 true [],
  o3 41 (.load 1 false (tp 40)) 39 true [],
  o3 42 (.ixS (.agg [(.int .i64), (.int .i64), (.int .i64), (.sl hA), (.int .i64), (.int .i64), .str, (.sl hB)]) (tp 41) (ci 0)) 39 true [],
  o3 43 (.fldA 0 (tp 42)) 39 true [],
  o3 44 (.load 1 false (tp 43)) 39 true [],
  o3 45 (.bin .eql 0 [] (tp 44) (ci 2)) 39 true [],
  o1 46 (.pick (tp 39) (tp 45) (.con (.d (.bool false)))),
  o1 47 (.mv (tp 46)),
  o3 48 (.fldA 1 (tp 2)) 47 true [],
  o3 49 (.load 1 false (tp 48)) 47 true [],
  o3 50 (.len 1 (tp 49)) 47 true [],
  o3 51 (.bin .eql 0 [] (tp 50) (ci 1)) 47 true [],
  o1 52 (.pick (tp 47) (tp 51) (.con (.d (.bool false)))),
  o1 53 (.mv (tp 52)),
  o3 54 (.fldA 1 (tp 2)) 53 true [],
  o3 55 (.load 1 false (tp 54)) 53 true [],
  o3 56 (.ixS (.agg [(.int .i64), (.int .i64), (.int .i64), (.sl hA), .str, (.int .i64)]) (tp 55) (ci 0)) 53 true [],
  o3 57 (.fldA 5 (tp 56)) 53 true [],
  o3 58 (.load 1 false (tp 57)) 53 true [],
  o3 59 (.bin .eql 0 [] (tp 58) (ci 7)) 53 true [],
  o1 60 (.pick (tp 53) (tp 59) (.con (.d (.bool false)))),
  o1 61 (.mv (tp 60)),
  o3 62 (.mv (tp 5)) 61 true [],
  o3 63 (.bin .eql 0 [] (tp 62) (ci 130)) 61 true [],
  o1 64 (.pick (tp 61) (tp 63) (.con (.d (.bool false)))),
  o1 65 (.mv (tp 64)),
  o3 66 (.mv (tp 7)) 65 true [],
  o1 67 (.pick (tp 65) (tp 66) (.con (.d (.bool false)))),
  o1 68 (.mv (tp 67)),
  o3 69 (.fldA 0 (tp 6)) 68 true [],
  o3 70 (.load 1 false (tp 69)) 68 true [],
  o3 71 (.bin .eql 0 [] (tp 70) (ci 6)) 68 true [],
  o1 72 (.pick (tp 68) (tp 71) (.con (.d (.bool false)))),
  o1 73 (.mv (tp 72)),
  o3 74 (.fldA 5 (tp 6)) 73 true [],
  o3 75 (.load 1 false (tp 74)) 73 true [],
  o3 76 (.bin .eql 0 [] (tp 75) (ci 8)) 73 true [],
  o1 77 (.pick (tp 73) (tp 76) (.con (.d (.bool false)))),
  o1 0 (.mv (tp 77))])
 (.ret))))))⟩
/-- entente/child.Tell -/
def c15 : AFn := ⟨41, [.cell 2 6 true, .tmp 3], .seq (.ops false [o1 1 (.box (tp 0)),
  o1 2 (.alloc [(.int .i64 0), (.int .i64 0), (.int .i64 0), (.sl hA true []), (.str []), (.int .i64 0)]),
  o1 3 (.mv (.con (.d (.bool false))))])
 (.seq (.seq (.ops false [o1 5 (.load 9 true (tp 1)),
  o1 6 (.call (.con (.fn 35 [] [])) [(tp 5)]),
  o1 7 (.bin .neq 0 [] (tp 6) (ci 0)),
  o1 8 (.mv (tp 7)),
  o3 9 (.fldA 0 (tp 1)) 8 false [],
  o3 10 (.fldA 2 (tp 9)) 8 false [],
  o3 11 (.load 1 false (tp 10)) 8 false [],
  o3 12 (.len 1 (tp 11)) 8 false [],
  o3 13 (.bin .eql 0 [] (tp 12) (ci 0)) 8 false [],
  o1 14 (.pick (tp 8) (.con (.d (.bool true))) (tp 13))])
 (.cond (tp 14) (.seq (.ops false [o1 15 (.build [(.int .i64 0), (.int .i64 0), (.int .i64 0), (.sl hA true []), (.str []), (.int .i64 0)] []),
  ⟨none, .store 6 (tp 2) (tp 15), none, []⟩,
  o1 3 (.mv (.con (.d (.bool false))))])
 (.ret)) (.skip)))
 (.seq (.ops false [o1 16 (.fldA 0 (tp 1)),
  o1 17 (.load 3 true (tp 16)),
  o1 18 (.call (.con (.fn 48 [] [])) [(tp 17)]),
  o1 19 (.build [(.int .i64 0), (.int .i64 0), (.int .i64 0), (.sl hA true []), (.str []), (.int .i64 0)] [(1, 3, (tp 18))]),
  o1 4 (.alloc [(.int .i64 0), (.int .i64 0), (.int .i64 0), (.sl hA true []), (.str []), (.int .i64 0)]),
  ⟨none, .store 6 (tp 4) (tp 19), none, []⟩])
 (.seq (.seq (.ops false [o1 20 (.fldA 5 (tp 1)),
  o1 21 (.load 1 false (tp 20))])
 (.block 0 (.seq (.ops false [o1 24 (.bin .eql 0 [] (tp 21) (ci 2)),
  o1 23 (.mv (tp 24))])
 (.cond (tp 23) (.ops false [o1 25 (.fldA 0 (tp 4)),
  ⟨none, .store 1 (tp 25) (ci 5), none, []⟩]) (.seq (.ops false [o1 27 (.bin .eql 0 [] (tp 21) (ci 3)),
  o1 26 (.mv (tp 27))])
 (.cond (tp 26) (.ops false [o1 28 (.fldA 0 (tp 4)),
  ⟨none, .store 1 (tp 28) (ci 7), none, []⟩]) (.seq (.seq (.ops false [o1 30 (.bin .eql 0 [] (tp 21) (ci 6)),
  o1 29 (.mv (tp 30))])
 (.cond (tp 29) (.skip) (.ops false [o1 31 (.bin .eql 0 [] (tp 21) (ci 7)),
  o1 29 (.mv (tp 31))])))
 (.cond (tp 29) (.seq (.ops true [o1 32 (.fldA 6 (tp 1)),
  o2 33 (.load 1 false (tp 32)) [0],
  o1 34 (.fldA 0 (tp 4)),
  ⟨none, .store 1 (tp 34) (ci 6), none, [2]⟩,
  o2 35 (.fldA 5 (tp 4)) [0, 1, 2, 3],
  ⟨none, .store 1 (tp 35) (tp 33), none, [0, 1, 2, 3, 4]⟩])
 (.seq (.ops false [o1 36 (.fldA 5 (tp 4)),
  o1 37 (.load 1 false (tp 36)),
  o1 38 (.bin .eql 0 [] (tp 37) (ci 0))])
 (.cond (tp 38) (.ops false [o1 39 (.fldA 5 (tp 4)),
  ⟨none, .store 1 (tp 39) (ci 6), none, []⟩]) (.skip)))) (.seq (.ops false [o1 22 (.build [(.int .i64 0), (.int .i64 0), (.int .i64 0), (.sl hA true []), (.str []), (.int .i64 0)] []),
  ⟨none, .store 6 (tp 2) (tp 22), none, []⟩,
  o1 3 (.mv (.con (.d (.bool false))))])
 (.ret))))))))))
 (.seq (.ops false [o1 40 (.load 6 true (tp 4)),
  ⟨none, .store 6 (tp 2) (tp 40), none, []⟩,
  o1 3 (.mv (.con (.d (.bool true))))])
 (.ret)))))⟩
/-- entente/ententeref25.Tell -/
def c16 : AFn := ⟨45, [.cell 2 6 true, .tmp 3], .seq (.ops false [o1 1 (.box (tp 0)),
  o1 2 (.alloc [(.int .i64 0), (.int .i64 0), (.int .i64 0), (.sl hA true []), (.str []), (.int .i64 0)]),
  o1 3 (.mv (.con (.d (.bool false))))])
 (.seq (.seq (.ops false [o1 5 (.load 9 true (tp 1)),
  o1 6 (.call (.con (.fn 36 [] [])) [(tp 5)]),
  o1 7 (.bin .neq 0 [] (tp 6) (ci 0)),
  o1 8 (.mv (tp 7)),
  o3 9 (.fldA 0 (tp 1)) 8 false [],
  o3 10 (.fldA 2 (tp 9)) 8 false [],
  o3 11 (.load 1 false (tp 10)) 8 false [],
  o3 12 (.len 1 (tp 11)) 8 false [],
  o3 13 (.bin .eql 0 [] (tp 12) (ci 0)) 8 false [],
  o1 14 (.pick (tp 8) (.con (.d (.bool true))) (tp 13))])
 (.cond (tp 14) (.seq (.ops false [o1 15 (.build [(.int .i64 0), (.int .i64 0), (.int .i64 0), (.sl hA true []), (.str []), (.int .i64 0)] []),
  ⟨none, .store 6 (tp 2) (tp 15), none, []⟩,
  o1 3 (.mv (.con (.d (.bool false))))])
 (.ret)) (.skip)))
 (.seq (.seq (.ops false [o1 16 (.fldA 5 (tp 1)),
  o1 17 (.load 1 false (tp 16)),
  o1 18 (.bin .eql 0 [] (tp 17) (ci 2))])
 (.cond (tp 18) (.seq (.ops false [o1 19 (.fldA 0 (tp 1)),
  o1 20 (.load 3 true (tp 19)),
  o1 21 (.build [(.int .i64 0), (.int .i64 0), (.int .i64 0), (.sl hA true []), (.str []), (.int .i64 0)] [(0, 1, (ci 5)), (1, 3, (tp 20))]),
  ⟨none, .store 6 (tp 2) (tp 21), none, []⟩,
  o1 3 (.mv (.con (.d (.bool true))))])
 (.ret)) (.skip)))
 (.seq (.seq (.ops false [o1 22 (.fldA 5 (tp 1)),
  o1 23 (.load 1 false (tp 22)),
  o1 24 (.bin .eql 0 [] (tp 23) (ci 3))])
 (.cond (tp 24) (.seq (.ops false [o1 25 (.fldA 0 (tp 1)),
  o1 26 (.load 3 true (tp 25)),
  o1 27 (.build [(.int .i64 0), (.int .i64 0), (.int .i64 0), (.sl hA true []), (.str []), (.int .i64 0)] [(0, 1, (ci 7)), (1, 3, (tp 26))]),
  ⟨none, .store 6 (tp 2) (tp 27), none, []⟩,
  o1 3 (.mv (.con (.d (.bool true))))])
 (.ret)) (.skip)))
 (.seq (.seq (.ops false [o1 28 (.fldA 5 (tp 1)),
  o1 29 (.load 1 false (tp 28)),
  o1 30 (.bin .neq 0 [] (tp 29) (ci 6)),
  o1 31 (.mv (tp 30)),
  o3 32 (.fldA 5 (tp 1)) 31 true [],
  o3 33 (.load 1 false (tp 32)) 31 true [],
  o3 34 (.bin .neq 0 [] (tp 33) (ci 7)) 31 true [],
  o1 35 (.pick (tp 31) (tp 34) (.con (.d (.bool false))))])
 (.cond (tp 35) (.seq (.ops false [o1 36 (.build [(.int .i64 0), (.int .i64 0), (.int .i64 0), (.sl hA true []), (.str []), (.int .i64 0)] []),
  ⟨none, .store 6 (tp 2) (tp 36), none, []⟩,
  o1 3 (.mv (.con (.d (.bool false))))])
 (.ret)) (.skip)))
 (.seq (.ops false [o1 37 (.fldA 6 (tp 1)),
  o1 38 (.load 1 false (tp 37)),
  o1 4 (.mv (tp 38))])
 (.seq (.seq (.ops false [o1 39 (.mv (tp 4)),
  o1 40 (.bin .eql 0 [] (tp 39) (ci 0))])
 (.cond (tp 40) (.ops false [o1 4 (.mv (ci 6))]) (.skip)))
 (.seq (.ops false [o1 41 (.fldA 0 (tp 1)),
  o1 42 (.load 3 true (tp 41)),
  o1 43 (.mv (tp 4)),
  o1 44 (.build [(.int .i64 0), (.int .i64 0), (.int .i64 0), (.sl hA true []), (.str []), (.int .i64 0)] [(0, 1, (ci 6)), (1, 3, (tp 42)), (5, 1, (tp 43))]),
  ⟨none, .store 6 (tp 2) (tp 44), none, []⟩,
  o1 3 (.mv (.con (.d (.bool true))))])
 (.ret))))))))⟩
/-- entente/ententeref13.SameNote -/
def c17 : AFn := ⟨31, [.tmp 4], .seq (.ops false [o1 2 (.box (tp 0)),
  o1 3 (.box (tp 1)),
  o1 4 (.mv (.con (.d (.bool false))))])
 (.seq (.ops false [o1 5 (.fldA 0 (tp 2)),
  o1 6 (.load 1 false (tp 5)),
  o1 7 (.fldA 0 (tp 3)),
  o1 8 (.load 1 false (tp 7)),
  o1 9 (.bin .eql 0 [] (tp 6) (tp 8)),
  o1 10 (.mv (tp 9)),
  o3 11 (.fldA 1 (tp 2)) 10 true [],
  o3 12 (.load 3 true (tp 11)) 10 true [],
  o3 13 (.fldA 1 (tp 3)) 10 true [],
  o3 14 (.load 3 true (tp 13)) 10 true [],
  o3 15 (.call (.con (.fn 49 [] [])) [(tp 12), (tp 14)]) 10 true [],
  o1 16 (.pick (tp 10) (tp 15) (.con (.d (.bool false)))),
  o1 17 (.mv (tp 16)),
  o3 18 (.fldA 4 (tp 2)) 17 true [],
  o3 19 (.load 1 false (tp 18)) 17 true [],
  o3 20 (.fldA 4 (tp 3)) 17 true [],
  o3 21 (.load 1 false (tp 20)) 17 true [],
  o3 22 (.bin .eql 0 [] (tp 19) (tp 21)) 17 true [],
  o1 23 (.pick (tp 17) (tp 22) (.con (.d (.bool false)))),
  o1 24 (.mv (tp 23)),
  o3 25 (.fldA 5 (tp 2)) 24 true [],
  o3 26 (.load 1 false (tp 25)) 24 true [],
  o3 27 (.fldA 5 (tp 3)) 24 true [],
  o3 28 (.load 1 false (tp 27)) 24 true [],
  o3 29 (.bin .eql 0 [] (tp 26) (tp 28)) 24 true [],
  o1 30 (.pick (tp 24) (tp 29) (.con (.d (.bool false)))),
  o1 4 (.mv (tp 30))])
 (.ret))⟩
/-- entente/child.Take -/
def c19 : AFn := ⟨47, [.cell 4 2 true, .tmp 5], .seq (.ops false [o1 2 (.box (tp 0)),
  o1 3 (.box (tp 1)),
  o1 4 (.alloc [(.sl (.agg [(.int .i64), (.int .i64), (.int .i64), (.sl hA), (.int .i64), (.int .i64), .str, (.sl hB)]) true []), (.sl (.agg [(.int .i64), (.int .i64), (.int .i64), (.sl hA), .str, (.int .i64)]) true [])]),
  o1 5 (.mv (ci 0))])
 (.seq (.seq (.ops false [o1 9 (.load 7 true (tp 2)),
  o1 10 (.call (.con (.fn 51 [] [])) [(tp 9)]),
  o1 6 (.mv (tp 10))])
 (.seq (.ops false [o1 11 (.mv (tp 6)),
  o1 12 (.bin .neq 0 [] (tp 11) (ci 0))])
 (.cond (tp 12) (.seq (.ops false [o1 13 (.build [(.sl (.agg [(.int .i64), (.int .i64), (.int .i64), (.sl hA), (.int .i64), (.int .i64), .str, (.sl hB)]) true []), (.sl (.agg [(.int .i64), (.int .i64), (.int .i64), (.sl hA), .str, (.int .i64)]) true [])] []),
  o1 14 (.mv (tp 6)),
  ⟨none, .store 2 (tp 4) (tp 13), none, []⟩,
  o1 5 (.mv (tp 14))])
 (.ret)) (.skip))))
 (.seq (.seq (.ops true [o1 15 (.load 6 true (tp 3)),
  o2 16 (.call (.con (.fn 52 [] [])) [(tp 15)]) [0],
  o2 17 (.bin .neq 0 [] (tp 16) (ci 0)) [1],
  o2 18 (.mv (tp 17)) [1, 2],
  o3 19 (.fldA 0 (tp 3)) 18 false [3],
  o3 20 (.load 1 false (tp 19)) 18 false [3, 4],
  o3 21 (.bin .gtr 0 [] (tp 20) (ci 4)) 18 false [3, 5],
  o2 22 (.pick (tp 18) (.con (.d (.bool true))) (tp 21)) [3, 6],
  o2 23 (.mv (tp 22)) [3, 7],
  o3 24 (.fldA 1 (tp 3)) 23 false [8],
  o3 25 (.load 3 true (tp 24)) 23 false [8, 9],
  o3 26 (.call (.con (.fn 53 [] [])) [(tp 25)]) 23 false [8, 10],
  o3 27 (.fldA 0 (tp 2)) 23 false [8],
  o3 28 (.load 1 false (tp 27)) 23 false [8, 12],
  o3 29 (.bin .neq 0 [] (tp 26) (tp 28)) 23 false [8, 11, 13],
  o2 30 (.pick (tp 23) (.con (.d (.bool true))) (tp 29)) [8, 14]])
 (.cond (tp 30) (.seq (.ops false [o1 31 (.build [(.sl (.agg [(.int .i64), (.int .i64), (.int .i64), (.sl hA), (.int .i64), (.int .i64), .str, (.sl hB)]) true []), (.sl (.agg [(.int .i64), (.int .i64), (.int .i64), (.sl hA), .str, (.int .i64)]) true [])] []),
  ⟨none, .store 2 (tp 4) (tp 31), none, []⟩,
  o1 5 (.mv (ci 130))])
 (.ret)) (.skip)))
 (.seq (.ops false [o1 33 (.load 7 true (tp 2)),
  o1 34 (.fldA 1 (tp 3)),
  o1 35 (.load 3 true (tp 34)),
  o1 36 (.call (.con (.fn 54 [] [])) [(tp 33), (tp 35)]),
  o1 32 (.mv (tp 36)),
  o1 37 (.ext 0 (tp 32)),
  o1 38 (.ext 1 (tp 32)),
  o1 7 (.alloc [(.int .i64 0), (.int .i64 0), (.sl hA true []), (.str []), (.sl hB true []), (.int .i64 0), (.int .i64 0), (.sl hA true []), (.bool false)]),
  ⟨none, .store 9 (tp 7) (tp 37), none, []⟩,
  o1 8 (.mv (tp 38))])
 (.seq (.seq (.ops false [o1 39 (.mv (tp 8)),
  o1 40 (.un .not (tp 39))])
 (.cond (tp 40) (.seq (.ops false [o1 41 (.load 7 true (tp 2)),
  o1 42 (.load 6 true (tp 3)),
  o1 43 (.call (.con (.fn 55 [] [])) [(tp 41), (tp 42)]),
  ⟨none, .store 2 (tp 4) (tp 43), none, []⟩,
  o1 5 (.mv (ci 0))])
 (.ret)) (.skip)))
 (.seq (.ops false [o1 44 (.load 9 true (tp 7)),
  o1 45 (.load 6 true (tp 3)),
  o1 46 (.call (.con (.fn 56 [] [])) [(tp 44), (tp 45)]),
  ⟨none, .store 2 (tp 4) (tp 46), none, []⟩,
  o1 5 (.mv (ci 0))])
 (.ret))))))⟩
/-- entente/ententelaw21.awake -/
def c32 : AFn := ⟨106, [.tmp 0], .seq (.ops false [o1 0 (.mv (.con (.d (.bool false))))])
 (.seq (.ops false [o1 15 (.call (.con (.fn 68 [] [])) [(.con (.d (.str [115, 97, 103, 97, 32, 116, 32, 123, 32, 100, 101, 98, 105, 116, 32, 99, 97, 115, 104, 32, 53, 59, 32, 97, 115, 107, 32, 50, 32, 104, 111, 116, 101, 108, 59, 32, 125])))]),
  o1 14 (.mv (tp 15)),
  o1 16 (.ext 0 (tp 14)),
  o1 17 (.ext 1 (tp 14)),
  o1 1 (.alloc [(.str []), (.sl hB true [])]),
  o1 2 (.alloc [(.int .i64 0), (.int .i64 0)]),
  ⟨none, .store 2 (tp 1) (tp 16), none, []⟩,
  ⟨none, .store 2 (tp 2) (tp 17), none, []⟩])
 (.seq (.ops false [o1 18 (.build [(.int .i64 0), (.int .i64 0), (.sl hA true [])] [(1, 1, (ci 7))]),
  o1 3 (.alloc [(.int .i64 0), (.int .i64 0), (.sl hA true [])]),
  ⟨none, .store 3 (tp 3) (tp 18), none, []⟩])
 (.seq (.ops false [o1 20 (.load 3 true (tp 3)),
  o1 21 (.load 2 true (tp 1)),
  o1 22 (.build [(.int .i64 0), (.int .i64 0), (.int .i64 0), (.sl hA true []), (.int .i64 0), (.int .i64 0), (.str []), (.sl hB true [])] [(0, 1, (ci 1)), (1, 3, (tp 20)), (6, 2, (tp 21))]),
  o1 23 (.call (.con (.fn 69 [] [])) [(tp 22)]),
  o1 19 (.mv (tp 23)),
  o1 24 (.ext 0 (tp 19)),
  o1 25 (.ext 1 (tp 19)),
  o1 4 (.alloc [(.int .i64 0), (.int .i64 0), (.sl hA true []), (.str []), (.sl hB true []), (.int .i64 0), (.int .i64 0), (.sl hA true []), (.bool false)]),
  ⟨none, .store 9 (tp 4) (tp 24), none, []⟩,
  o1 5 (.mv (tp 25))])
 (.seq (.seq (.ops false [o1 26 (.load 3 true (tp 3)),
  o1 27 (.build [(.int .i64 0), (.int .i64 0), (.int .i64 0), (.sl hA true []), (.int .i64 0), (.int .i64 0), (.str []), (.sl hB true [])] [(0, 1, (ci 4)), (1, 3, (tp 26))]),
  o1 28 (.load 3 true (tp 3)),
  o1 29 (.build [(.int .i64 0), (.int .i64 0), (.int .i64 0), (.sl hA true []), (.int .i64 0), (.int .i64 0), (.str []), (.sl hB true [])] [(0, 1, (ci 5)), (1, 3, (tp 28)), (4, 1, (ci 1))]),
  o1 30 (.load 3 true (tp 3)),
  o1 31 (.build [(.int .i64 0), (.int .i64 0), (.int .i64 0), (.sl hA true []), (.int .i64 0), (.int .i64 0), (.str []), (.sl hB true [])] [(0, 1, (ci 6)), (1, 3, (tp 30)), (4, 1, (ci 1))]),
  o1 32 (.load 3 true (tp 3)),
  o1 33 (.build [(.int .i64 0), (.int .i64 0), (.int .i64 0), (.sl hA true []), (.int .i64 0), (.int .i64 0), (.str []), (.sl hB true [])] [(0, 1, (ci 9)), (1, 3, (tp 32))]),
  o1 34 (.load 3 true (tp 3)),
  o1 35 (.build [(.int .i64 0), (.int .i64 0), (.int .i64 0), (.sl hA true []), (.int .i64 0), (.int .i64 0), (.str []), (.sl hB true [])] [(0, 1, (ci 15)), (1, 3, (tp 34)), (4, 1, (ci 1))]),
  o1 36 (.buildSl (.agg [(.int .i64), (.int .i64), (.int .i64), (.sl hA), (.int .i64), (.int .i64), .str, (.sl hB)]) [(.int .i64 0), (.int .i64 0), (.int .i64 0), (.sl hA true []), (.int .i64 0), (.int .i64 0), (.str []), (.sl hB true [])] 5 [(0, 8, (tp 27)), (8, 8, (tp 29)), (16, 8, (tp 31)), (24, 8, (tp 33)), (32, 8, (tp 35))]),
  o1 37 (.len 1 (tp 36)),
  o1 38 (.mv (ci 0))])
 (.block 0 (.loop 0 (some ([2, 3, 4, 5, 36, 37, 38], [0, 1, 2, 3, 4, 5, 6, 7, 128, 129, 130, 131, 160, 161, 192, 193, 194, 195, 224, 225, 256, 257, 258, 259, 288, 289, 320, 321, 322, 323, 352, 353, 832, 833, 834, 835, 864, 865, 1024, 1025, 1026, 1027, 1056, 1057, 1536, 1537, 1538, 1539, 1568, 1569, 2368, 2369, 2370, 2371, 2400, 2401, 3776, 3777, 3778, 3779, 3808, 3809, 4224, 4225, 4226, 4227, 4256, 4257, 5312, 5313, 5314, 5315, 5344, 5345, 6336, 6337, 6338, 6339, 6368, 6369, 6656, 6657, 6658, 6659, 6688, 6689])) (.seq (.ops false [o1 39 (.bin .lss 0 [] (tp 38) (tp 37))])
 (.seq (.cond (tp 39) (.skip) (.exit 0))
 (.seq (.block 1 (.seq (.ops false [o1 40 (.ixS (.agg [(.int .i64), (.int .i64), (.int .i64), (.sl hA), (.int .i64), (.int .i64), .str, (.sl hB)]) (tp 36) (tp 38)),
  o1 41 (.load 8 true (tp 40)),
  o1 7 (.alloc [(.int .i64 0), (.int .i64 0), (.int .i64 0), (.sl hA true []), (.int .i64 0), (.int .i64 0), (.str []), (.sl hB true [])]),
  ⟨none, .store 8 (tp 7) (tp 41), none, []⟩])
 (.seq (.ops false [o1 43 (.load 9 true (tp 4)),
  o1 44 (.load 8 true (tp 7)),
  o1 45 (.call (.con (.fn 42 [] [])) [(tp 43), (tp 44)]),
  o1 42 (.mv (tp 45)),
  o1 46 (.ext 0 (tp 42)),
  o1 47 (.ext 1 (tp 42)),
  o1 8 (.alloc [(.int .i64 0), (.int .i64 0), (.sl hA true []), (.str []), (.sl hB true []), (.int .i64 0), (.int .i64 0), (.sl hA true []), (.bool false)]),
  ⟨none, .store 9 (tp 8) (tp 46), none, []⟩,
  o1 9 (.mv (tp 47))])
 (.seq (.seq (.ops false [o1 48 (.mv (tp 9)),
  o1 49 (.bin .neq 0 [] (tp 48) (ci 0)),
  o1 50 (.mv (tp 49)),
  o3 51 (.load 9 true (tp 4)) 50 false [],
  o3 52 (.call (.con (.fn 39 [] [])) [(tp 51)]) 50 false [],
  o1 53 (.pick (tp 50) (.con (.d (.bool true))) (tp 52))])
 (.cond (tp 53) (.seq (.ops false [o1 0 (.mv (.con (.d (.bool false))))])
 (.ret)) (.skip)))
 (.ops false [o1 54 (.load 9 true (tp 8)),
  ⟨none, .store 9 (tp 4) (tp 54), none, []⟩])))))
 (.ops false [o1 55 (.bin .add 0 [] (tp 38) (ci 1)),
  o1 38 (.mv (tp 55))])))))))
 (.seq (.ops false [o1 57 (.load 3 true (tp 3)),
  o1 58 (.call (.con (.fn 33 [] [])) [(tp 57), (ci 0)]),
  o1 56 (.mv (tp 58)),
  o1 59 (.ext 0 (tp 56)),
  o1 60 (.ext 1 (tp 56)),
  o1 10 (.mv (tp 59)),
  o1 11 (.mv (tp 60))])
 (.seq (.ops false [o1 62 (.load 9 true (tp 4)),
  o1 63 (.load 3 true (tp 3)),
  o1 64 (.build [(.int .i64 0), (.int .i64 0), (.int .i64 0), (.sl hA true []), (.int .i64 0), (.int .i64 0), (.str []), (.sl hB true [])] [(0, 1, (ci 10)), (1, 3, (tp 63)), (5, 1, (ci 6))]),
  o1 65 (.call (.con (.fn 42 [] [])) [(tp 62), (tp 64)]),
  o1 61 (.mv (tp 65)),
  o1 66 (.ext 0 (tp 61)),
  o1 67 (.ext 1 (tp 61)),
  o1 12 (.alloc [(.int .i64 0), (.int .i64 0), (.sl hA true []), (.str []), (.sl hB true []), (.int .i64 0), (.int .i64 0), (.sl hA true []), (.bool false)]),
  ⟨none, .store 9 (tp 12) (tp 66), none, []⟩,
  o1 13 (.mv (tp 67))])
 (.seq (.ops false [o1 68 (.fldA 0 (tp 2)),
  o1 69 (.load 1 false (tp 68)),
  o1 70 (.bin .eql 0 [] (tp 69) (ci 0)),
  o1 71 (.mv (tp 70)),
  o3 72 (.mv (tp 5)) 71 true [],
  o3 73 (.bin .eql 0 [] (tp 72) (ci 0)) 71 true [],
  o1 74 (.pick (tp 71) (tp 73) (.con (.d (.bool false)))),
  o1 75 (.mv (tp 74)),
  o3 76 (.fldA 5 (tp 4)) 75 true [],
  o3 77 (.load 1 false (tp 76)) 75 true [],
  o3 78 (.bin .eql 0 [] (tp 77) (ci 3)) 75 true [],
  o1 79 (.pick (tp 75) (tp 78) (.con (.d (.bool false)))),
  o1 80 (.mv (tp 79)),
  o3 81 (.load 9 true (tp 4)) 80 true [],
  o3 82 (.call (.con (.fn 39 [] [])) [(tp 81)]) 80 true [],
  o1 83 (.pick (tp 80) (tp 82) (.con (.d (.bool false)))),
  o1 84 (.mv (tp 83)),
  o3 85 (.mv (tp 10)) 84 true [],
  o3 86 (.bin .eql 0 [] (tp 85) (.con (.d (.str [48, 46, 55, 35, 48])))) 84 true [],
  o1 87 (.pick (tp 84) (tp 86) (.con (.d (.bool false)))),
  o1 88 (.mv (tp 87)),
  o3 89 (.mv (tp 11)) 88 true [],
  o3 90 (.bin .eql 0 [] (tp 89) (ci 0)) 88 true [],
  o1 91 (.pick (tp 88) (tp 90) (.con (.d (.bool false)))),
  o1 92 (.mv (tp 91)),
  o3 93 (.mv (tp 13)) 92 true [],
  o3 94 (.bin .eql 0 [] (tp 93) (ci 210)) 92 true [],
  o1 95 (.pick (tp 92) (tp 94) (.con (.d (.bool false)))),
  o1 96 (.mv (tp 95)),
  o3 97 (.build [(.int .i64 0), (.int .i64 0), (.sl hA true []), (.str []), (.sl hB true []), (.int .i64 0), (.int .i64 0), (.sl hA true []), (.bool false)] []) 96 true [],
  o3 98 (.call (.con (.fn 35 [] [])) [(tp 97)]) 96 true [],
  o3 99 (.bin .eql 0 [] (tp 98) (ci 230)) 96 true [],
  o1 100 (.pick (tp 96) (tp 99) (.con (.d (.bool false)))),
  o1 101 (.mv (tp 100)),
  o3 102 (.load 9 true (tp 4)) 101 true [],
  o3 103 (.call (.con (.fn 37 [] [])) [(tp 102)]) 101 true [],
  o3 104 (.bin .eql 0 [] (tp 103) (ci (-1))) 101 true [],
  o1 105 (.pick (tp 101) (tp 104) (.con (.d (.bool false)))),
  o1 0 (.mv (tp 105))])
 (.ret))))))))⟩
/-- entente/saga.Key -/
def c33 : AFn := ⟨28, [.tmp 4, .tmp 5], .seq (.ops false [o1 2 (.box (tp 0)),
  o1 4 (.mv (.con (.d (.str [])))),
  o1 5 (.mv (ci 0))])
 (.seq (.ops false [o1 9 (.load 3 true (tp 2)),
  o1 10 (.call (.con (.fn 70 [] [])) [(tp 9)]),
  o1 8 (.mv (tp 10)),
  o1 11 (.ext 0 (tp 8)),
  o1 12 (.ext 1 (tp 8)),
  o1 6 (.mv (tp 11)),
  o1 7 (.mv (tp 12))])
 (.seq (.seq (.ops false [o1 13 (.mv (tp 7)),
  o1 14 (.bin .neq 0 [] (tp 13) (ci 0)),
  o1 15 (.mv (tp 14)),
  o3 16 (.mv (tp 1)) 15 false [],
  o3 17 (.bin .lss 0 [] (tp 16) (ci 0)) 15 false [],
  o1 18 (.pick (tp 15) (.con (.d (.bool true))) (tp 17)),
  o1 19 (.mv (tp 18)),
  o3 20 (.mv (tp 1)) 19 false [],
  o3 21 (.bin .geq 0 [] (tp 20) (ci 8)) 19 false [],
  o1 22 (.pick (tp 19) (.con (.d (.bool true))) (tp 21))])
 (.cond (tp 22) (.seq (.ops false [o1 4 (.mv (.con (.d (.str [])))),
  o1 5 (.mv (ci 30))])
 (.ret)) (.skip)))
 (.seq (.ops false [o1 23 (.mv (tp 6)),
  o1 24 (.bin .add 0 [] (tp 23) (.con (.d (.str [35])))),
  o1 25 (.mv (tp 1)),
  o1 26 (.call (.con (.fn 71 [] [])) [(tp 25)]),
  o1 27 (.bin .add 0 [] (tp 24) (tp 26)),
  o1 4 (.mv (tp 27)),
  o1 5 (.mv (ci 0))])
 (.ret))))⟩
/-- entente/saga.May -/
def c35 : AFn := ⟨71, [.tmp 2], .seq (.ops false [o1 1 (.box (tp 0)),
  o1 2 (.mv (ci 0))])
 (.seq (.ops false [o1 5 (.load 9 true (tp 1)),
  o1 6 (.build [(.int .i64 0), (.int .i64 0), (.sl hA true []), (.str []), (.sl hB true []), (.int .i64 0), (.int .i64 0), (.sl hA true []), (.bool false)] [(0, 9, (tp 5))]),
  o1 7 (.box (tp 6)),
  o1 3 (.alloc [.nilp]),
  ⟨none, .store 1 (tp 3) (tp 7), none, []⟩])
 (.seq (.seq (.ops false [o1 8 (.fldA 0 (tp 1)),
  o1 9 (.load 3 true (tp 8)),
  o1 10 (.call (.con (.fn 74 [] [])) [(tp 9)]),
  o1 11 (.bin .neq 0 [] (tp 10) (ci 0))])
 (.cond (tp 11) (.seq (.ops false [o1 2 (.mv (ci 230))])
 (.ret)) (.skip)))
 (.seq (.seq (.ops false [o1 12 (.fldA 5 (tp 1)),
  o1 13 (.load 1 false (tp 12)),
  o1 14 (.bin .eql 0 [] (tp 13) (ci 7))])
 (.cond (tp 14) (.seq (.seq (.ops false [o1 15 (.fldA 3 (tp 1)),
  o1 16 (.fldA 0 (tp 15)),
  o1 17 (.load 1 false (tp 16)),
  o1 18 (.bin .neq 0 [] (tp 17) (.con (.d (.str [])))),
  o1 19 (.mv (tp 18)),
  o3 20 (.fldA 3 (tp 1)) 19 false [],
  o3 21 (.fldA 1 (tp 20)) 19 false [],
  o3 22 (.load 1 false (tp 21)) 19 false [],
  o3 23 (.len 1 (tp 22)) 19 false [],
  o3 24 (.fldA 7 (tp 1)) 19 false [],
  o3 25 (.load 1 false (tp 24)) 19 false [],
  o3 26 (.len 1 (tp 25)) 19 false [],
  o3 27 (.bin .add 0 [] (tp 23) (tp 26)) 19 false [],
  o3 28 (.bin .gtr 0 [] (tp 27) (ci 0)) 19 false [],
  o1 29 (.pick (tp 19) (.con (.d (.bool true))) (tp 28)),
  o1 30 (.mv (tp 29)),
  o3 31 (.fldA 6 (tp 1)) 30 false [],
  o3 32 (.load 1 false (tp 31)) 30 false [],
  o3 33 (.call (.con (.fn 75 [] [])) [(tp 32)]) 30 false [],
  o3 34 (.un .not (tp 33)) 30 false [],
  o1 35 (.pick (tp 30) (.con (.d (.bool true))) (tp 34)),
  o1 36 (.mv (tp 35)),
  o3 37 (.fldA 8 (tp 1)) 36 false [],
  o3 38 (.load 1 false (tp 37)) 36 false [],
  o1 39 (.pick (tp 36) (.con (.d (.bool true))) (tp 38)),
  o1 40 (.mv (tp 39)),
  o3 41 (.fldA 0 (tp 1)) 40 false [],
  o3 42 (.fldA 2 (tp 41)) 40 false [],
  o3 43 (.load 1 false (tp 42)) 40 false [],
  o3 44 (.len 1 (tp 43)) 40 false [],
  o3 45 (.bin .eql 0 [] (tp 44) (ci 0)) 40 false [],
  o1 46 (.pick (tp 40) (.con (.d (.bool true))) (tp 45))])
 (.cond (tp 46) (.seq (.ops false [o1 2 (.mv (ci 230))])
 (.ret)) (.skip)))
 (.seq (.ops false [o1 2 (.mv (ci 0))])
 (.ret))) (.skip)))
 (.seq (.seq (.ops false [o1 47 (.fldA 3 (tp 1)),
  o1 48 (.load 2 true (tp 47)),
  o1 49 (.call (.con (.fn 76 [] [])) [(tp 48)]),
  o1 50 (.bin .neq 0 [] (tp 49) (ci 0)),
  o1 51 (.mv (tp 50)),
  o3 52 (.fldA 7 (tp 1)) 51 false [],
  o3 53 (.load 1 false (tp 52)) 51 false [],
  o3 54 (.len 1 (tp 53)) 51 false [],
  o3 55 (.fldA 3 (tp 1)) 51 false [],
  o3 56 (.fldA 1 (tp 55)) 51 false [],
  o3 57 (.load 1 false (tp 56)) 51 false [],
  o3 58 (.len 1 (tp 57)) 51 false [],
  o3 59 (.bin .neq 0 [] (tp 54) (tp 58)) 51 false [],
  o1 60 (.pick (tp 51) (.con (.d (.bool true))) (tp 59))])
 (.cond (tp 60) (.seq (.ops false [o1 2 (.mv (ci 230))])
 (.ret)) (.skip)))
 (.seq (.ops false [o1 61 (.load 1 false (tp 3)),
  o1 62 (.mkF 78 [] [(tp 1), (tp 3)]),
  o1 63 (.call (.con (.fn 77 [] [])) [(tp 61), (tp 62)]),
  o1 4 (.mv (tp 63))])
 (.seq (.seq (.ops false [o1 64 (.mv (tp 4)),
  o1 65 (.un .not (tp 64)),
  o1 66 (.mv (tp 65)),
  o3 67 (.load 1 false (tp 3)) 66 false [],
  o3 68 (.call (.con (.fn 80 [] [])) [(tp 67)]) 66 false [],
  o3 69 (.un .not (tp 68)) 66 false [],
  o1 70 (.pick (tp 66) (.con (.d (.bool true))) (tp 69))])
 (.cond (tp 70) (.seq (.ops false [o1 2 (.mv (ci 230))])
 (.ret)) (.skip)))
 (.seq (.ops false [o1 2 (.mv (ci 0))])
 (.ret))))))))⟩
/-- entente/ententeref21.May -/
def c36 : AFn := ⟨170, [.tmp 2], .seq (.ops false [o1 1 (.box (tp 0)),
  o1 2 (.mv (ci 0))])
 (.seq (.ops false [o1 7 (.fldA 0 (tp 1)),
  o1 8 (.fldA 2 (tp 7)),
  o1 9 (.load 1 false (tp 8)),
  o1 10 (.len 1 (tp 9)),
  o1 11 (.bin .gtr 0 [] (tp 10) (ci 0)),
  o1 3 (.mv (tp 11))])
 (.seq (.ops false [o1 4 (.mv (.con (.d (.bool false))))])
 (.seq (.seq (.ops false [o1 12 (.fldA 5 (tp 1)),
  o1 13 (.load 1 false (tp 12)),
  o1 14 (.bin .eql 0 [] (tp 13) (ci 7))])
 (.cond (tp 14) (.ops false [o1 15 (.fldA 3 (tp 1)),
  o1 16 (.fldA 0 (tp 15)),
  o1 17 (.load 1 false (tp 16)),
  o1 18 (.bin .eql 0 [] (tp 17) (.con (.d (.str [])))),
  o1 19 (.mv (tp 18)),
  o3 20 (.fldA 3 (tp 1)) 19 true [],
  o3 21 (.fldA 1 (tp 20)) 19 true [],
  o3 22 (.load 1 false (tp 21)) 19 true [],
  o3 23 (.len 1 (tp 22)) 19 true [],
  o3 24 (.bin .eql 0 [] (tp 23) (ci 0)) 19 true [],
  o1 25 (.pick (tp 19) (tp 24) (.con (.d (.bool false)))),
  o1 26 (.mv (tp 25)),
  o3 27 (.fldA 7 (tp 1)) 26 true [],
  o3 28 (.load 1 false (tp 27)) 26 true [],
  o3 29 (.len 1 (tp 28)) 26 true [],
  o3 30 (.bin .eql 0 [] (tp 29) (ci 0)) 26 true [],
  o1 31 (.pick (tp 26) (tp 30) (.con (.d (.bool false)))),
  o1 32 (.mv (tp 31)),
  o3 33 (.fldA 6 (tp 1)) 32 true [],
  o3 34 (.load 1 false (tp 33)) 32 true [],
  o3 35 (.call (.con (.fn 81 [] [])) [(tp 34)]) 32 true [],
  o1 36 (.pick (tp 32) (tp 35) (.con (.d (.bool false)))),
  o1 37 (.mv (tp 36)),
  o3 38 (.fldA 8 (tp 1)) 37 true [],
  o3 39 (.load 1 false (tp 38)) 37 true [],
  o3 40 (.un .not (tp 39)) 37 true [],
  o1 41 (.pick (tp 37) (tp 40) (.con (.d (.bool false)))),
  o1 42 (.mv (tp 41)),
  o3 43 (.mv (tp 3)) 42 true [],
  o1 44 (.pick (tp 42) (tp 43) (.con (.d (.bool false)))),
  o1 4 (.mv (tp 44))]) (.seq (.ops false [o1 45 (.load 9 true (tp 1)),
  o1 46 (.call (.con (.fn 82 [] [])) [(tp 45)])])
 (.cond (tp 46) (.seq (.ops false [o1 47 (.fldA 7 (tp 1)),
  o1 48 (.load 1 false (tp 47)),
  o1 49 (.len 1 (tp 48)),
  o1 5 (.mv (tp 49))])
 (.block 0 (.seq (.ops false [o1 51 (.fldA 8 (tp 1)),
  o1 52 (.load 1 false (tp 51)),
  o1 50 (.mv (tp 52))])
 (.cond (tp 50) (.ops false [o1 53 (.load 9 true (tp 1)),
  o1 54 (.call (.con (.fn 83 [] [])) [(tp 53)]),
  o1 4 (.mv (tp 54))]) (.seq (.ops false [o1 56 (.fldA 5 (tp 1)),
  o1 57 (.load 1 false (tp 56)),
  o1 58 (.bin .eql 0 [] (tp 57) (ci 1)),
  o1 55 (.mv (tp 58))])
 (.cond (tp 55) (.ops false [o1 59 (.fldA 6 (tp 1)),
  o1 60 (.load 1 false (tp 59)),
  o1 61 (.bin .eql 0 [] (tp 60) (ci 0)),
  o1 62 (.mv (tp 61)),
  o3 63 (.load 9 true (tp 1)) 62 true [],
  o3 64 (.call (.con (.fn 84 [] [])) [(tp 63)]) 62 true [],
  o1 65 (.pick (tp 62) (tp 64) (.con (.d (.bool false)))),
  o1 4 (.mv (tp 65))]) (.seq (.ops false [o1 67 (.fldA 5 (tp 1)),
  o1 68 (.load 1 false (tp 67)),
  o1 69 (.bin .eql 0 [] (tp 68) (ci 2)),
  o1 66 (.mv (tp 69))])
 (.cond (tp 66) (.ops true [o1 70 (.fldA 6 (tp 1)),
  o2 71 (.load 1 false (tp 70)) [0],
  o2 72 (.bin .eql 0 [] (tp 71) (ci 0)) [1],
  o2 73 (.mv (tp 72)) [2],
  o3 74 (.mv (tp 3)) 73 true [3],
  o2 75 (.pick (tp 73) (tp 74) (.con (.d (.bool false)))) [3, 4],
  o2 76 (.mv (tp 75)) [3, 5],
  o3 77 (.load 9 true (tp 1)) 76 true [6],
  o3 78 (.call (.con (.fn 85 [] [])) [(tp 77), (ci 2)]) 76 true [6, 7],
  o3 79 (.load 9 true (tp 1)) 76 true [6],
  o3 80 (.call (.con (.fn 86 [] [])) [(tp 79), (.con (.d (.bool false))), (ci 3)]) 76 true [6, 8, 9],
  o3 81 (.bin .add 0 [] (tp 78) (tp 80)) 76 true [6, 8, 10],
  o3 82 (.mv (tp 5)) 76 true [6],
  o3 83 (.bin .eql 0 [] (tp 81) (tp 82)) 76 true [6, 11, 12],
  o2 84 (.pick (tp 76) (tp 83) (.con (.d (.bool false)))) [6, 13],
  o2 4 (.mv (tp 84)) [0, 1, 2, 3, 4, 5, 6, 7, 8, 9, 10, 11, 12, 13, 14]]) (.seq (.ops false [o1 86 (.fldA 5 (tp 1)),
  o1 87 (.load 1 false (tp 86)),
  o1 88 (.bin .eql 0 [] (tp 87) (ci 3)),
  o1 85 (.mv (tp 88))])
 (.cond (tp 85) (.ops true [o1 89 (.fldA 6 (tp 1)),
  o2 90 (.load 1 false (tp 89)) [0],
  o2 91 (.bin .eql 0 [] (tp 90) (ci 0)) [1],
  o2 92 (.mv (tp 91)) [2],
  o3 93 (.load 9 true (tp 1)) 92 true [3],
  o3 94 (.call (.con (.fn 85 [] [])) [(tp 93), (ci 4)]) 92 true [3, 4],
  o3 95 (.load 9 true (tp 1)) 92 true [3],
  o3 96 (.call (.con (.fn 86 [] [])) [(tp 95), (.con (.d (.bool false))), (ci 2)]) 92 true [3, 5, 6],
  o3 97 (.bin .add 0 [] (tp 94) (tp 96)) 92 true [3, 5, 7],
  o3 98 (.mv (tp 5)) 92 true [3],
  o3 99 (.bin .eql 0 [] (tp 97) (tp 98)) 92 true [3, 8, 9],
  o2 100 (.pick (tp 92) (tp 99) (.con (.d (.bool false)))) [3, 10],
  o2 4 (.mv (tp 100)) [0, 1, 2, 3, 4, 5, 6, 7, 8, 9, 10, 11]]) (.seq (.ops false [o1 102 (.fldA 5 (tp 1)),
  o1 103 (.load 1 false (tp 102)),
  o1 104 (.bin .eql 0 [] (tp 103) (ci 4)),
  o1 101 (.mv (tp 104))])
 (.cond (tp 101) (.ops false [o1 105 (.fldA 6 (tp 1)),
  o1 106 (.load 1 false (tp 105)),
  o1 107 (.call (.con (.fn 81 [] [])) [(tp 106)]),
  o1 108 (.mv (tp 107)),
  o3 109 (.load 9 true (tp 1)) 108 true [],
  o3 110 (.call (.con (.fn 85 [] [])) [(tp 109), (ci 4)]) 108 true [],
  o3 111 (.bin .eql 0 [] (tp 110) (ci 0)) 108 true [],
  o1 112 (.pick (tp 108) (tp 111) (.con (.d (.bool false)))),
  o1 4 (.mv (tp 112))]) (.seq (.ops false [o1 114 (.fldA 5 (tp 1)),
  o1 115 (.load 1 false (tp 114)),
  o1 116 (.bin .eql 0 [] (tp 115) (ci 5)),
  o1 113 (.mv (tp 116))])
 (.cond (tp 113) (.seq (.ops false [o1 117 (.load 9 true (tp 1)),
  o1 118 (.call (.con (.fn 87 [] [])) [(tp 117)]),
  o1 6 (.mv (tp 118))])
 (.ops false [o1 119 (.fldA 6 (tp 1)),
  o1 120 (.load 1 false (tp 119)),
  o1 121 (.call (.con (.fn 81 [] [])) [(tp 120)]),
  o1 122 (.mv (tp 121)),
  o3 123 (.load 9 true (tp 1)) 122 true [],
  o3 124 (.call (.con (.fn 85 [] [])) [(tp 123), (ci 4)]) 122 true [],
  o3 125 (.bin .eql 0 [] (tp 124) (ci 0)) 122 true [],
  o1 126 (.pick (tp 122) (tp 125) (.con (.d (.bool false)))),
  o1 127 (.mv (tp 126)),
  o3 128 (.mv (tp 6)) 127 true [],
  o3 129 (.bin .geq 0 [] (tp 128) (ci 0)) 127 true [],
  o1 130 (.pick (tp 127) (tp 129) (.con (.d (.bool false)))),
  o1 131 (.mv (tp 130)),
  o3 132 (.load 9 true (tp 1)) 131 true [],
  o3 133 (.mv (tp 6)) 131 true [],
  o3 134 (.call (.con (.fn 88 [] [])) [(tp 132), (tp 133)]) 131 true [],
  o3 135 (.un .not (tp 134)) 131 true [],
  o1 136 (.pick (tp 131) (tp 135) (.con (.d (.bool false)))),
  o1 137 (.mv (tp 136)),
  o3 138 (.fldA 7 (tp 1)) 137 true [],
  o3 139 (.load 1 false (tp 138)) 137 true [],
  o3 140 (.mv (tp 6)) 137 true [],
  o3 141 (.ixS hA (tp 139) (tp 140)) 137 true [],
  o3 142 (.fldA 1 (tp 141)) 137 true [],
  o3 143 (.load 1 false (tp 142)) 137 true [],
  o3 144 (.bin .eql 0 [] (tp 143) (ci 5)) 137 true [],
  o1 145 (.pick (tp 137) (tp 144) (.con (.d (.bool false)))),
  o1 4 (.mv (tp 145))])) (.seq (.ops false [o1 147 (.fldA 5 (tp 1)),
  o1 148 (.load 1 false (tp 147)),
  o1 149 (.bin .eql 0 [] (tp 148) (ci 6)),
  o1 146 (.mv (tp 149))])
 (.cond (tp 146) (.ops true [o1 150 (.fldA 6 (tp 1)),
  o2 151 (.load 1 false (tp 150)) [0],
  o2 152 (.call (.con (.fn 81 [] [])) [(tp 151)]) [1],
  o2 153 (.mv (tp 152)) [2],
  o3 154 (.load 9 true (tp 1)) 153 true [3],
  o3 155 (.call (.con (.fn 85 [] [])) [(tp 154), (ci 0)]) 153 true [3, 4],
  o3 156 (.load 9 true (tp 1)) 153 true [3],
  o3 157 (.call (.con (.fn 85 [] [])) [(tp 156), (ci 3)]) 153 true [3, 5, 6],
  o3 158 (.bin .add 0 [] (tp 155) (tp 157)) 153 true [3, 5, 7],
  o3 159 (.mv (tp 5)) 153 true [3],
  o3 160 (.bin .eql 0 [] (tp 158) (tp 159)) 153 true [3, 8, 9],
  o2 161 (.pick (tp 153) (tp 160) (.con (.d (.bool false)))) [3, 10],
  o2 4 (.mv (tp 161)) [0, 1, 2, 3, 4, 5, 6, 7, 8, 9, 10, 11]]) (.skip))))))))))))))))) (.skip)))))
 (.seq (.seq (.ops false [o1 162 (.mv (tp 4)),
  o1 163 (.un .not (tp 162)),
  o1 164 (.mv (tp 163)),
  o3 165 (.fldA 0 (tp 1)) 164 false [],
  o3 166 (.load 3 true (tp 165)) 164 false [],
  o3 167 (.call (.con (.fn 89 [] [])) [(tp 166)]) 164 false [],
  o3 168 (.bin .neq 0 [] (tp 167) (ci 0)) 164 false [],
  o1 169 (.pick (tp 164) (.con (.d (.bool true))) (tp 168))])
 (.cond (tp 169) (.seq (.ops false [o1 2 (.mv (ci 230))])
 (.ret)) (.skip)))
 (.seq (.ops false [o1 2 (.mv (ci 0))])
 (.ret))))))⟩
/-- entente/saga.Current -/
def c37 : AFn := ⟨12, [.tmp 2], .seq (.ops false [o1 1 (.box (tp 0)),
  o1 2 (.mv (ci 0))])
 (.seq (.seq (.ops false [o1 4 (.load 9 true (tp 1)),
  o1 5 (.call (.con (.fn 35 [] [])) [(tp 4)]),
  o1 6 (.bin .neq 0 [] (tp 5) (ci 0))])
 (.cond (tp 6) (.seq (.ops false [o1 2 (.mv (ci (-1)))])
 (.ret)) (.skip)))
 (.seq (.ops false [o1 7 (.load 9 true (tp 1)),
  o1 8 (.build [(.int .i64 0), (.int .i64 0), (.sl hA true []), (.str []), (.sl hB true []), (.int .i64 0), (.int .i64 0), (.sl hA true []), (.bool false)] [(0, 9, (tp 7))]),
  o1 9 (.box (tp 8)),
  o1 3 (.mv (tp 9))])
 (.seq (.ops false [o1 10 (.mv (tp 3)),
  o1 11 (.call (.con (.fn 90 [] [])) [(tp 10)]),
  o1 2 (.mv (tp 11))])
 (.ret))))⟩
/-- entente/saga.Ended -/
def c39 : AFn := ⟨36, [.tmp 2], .seq (.ops false [o1 1 (.box (tp 0)),
  o1 2 (.mv (.con (.d (.bool false))))])
 (.seq (.seq (.ops false [o1 4 (.load 9 true (tp 1)),
  o1 5 (.call (.con (.fn 35 [] [])) [(tp 4)]),
  o1 6 (.bin .neq 0 [] (tp 5) (ci 0))])
 (.cond (tp 6) (.seq (.ops false [o1 2 (.mv (.con (.d (.bool false))))])
 (.ret)) (.skip)))
 (.seq (.ops false [o1 7 (.load 9 true (tp 1)),
  o1 8 (.build [(.int .i64 0), (.int .i64 0), (.sl hA true []), (.str []), (.sl hB true []), (.int .i64 0), (.int .i64 0), (.sl hA true []), (.bool false)] [(0, 9, (tp 7))]),
  o1 9 (.box (tp 8)),
  o1 3 (.mv (tp 9))])
 (.seq (.seq (.ops false [o1 10 (.fldA 5 (tp 1)),
  o1 11 (.load 1 false (tp 10))])
 (.block 0 (.seq (.ops false [o1 13 (.bin .eql 0 [] (tp 11) (ci 7)),
  o1 12 (.mv (tp 13))])
 (.cond (tp 12) (.seq (.ops false [o1 2 (.mv (.con (.d (.bool true))))])
 (.ret)) (.seq (.ops false [o1 15 (.bin .eql 0 [] (tp 11) (ci 6)),
  o1 14 (.mv (tp 15))])
 (.cond (tp 14) (.seq (.ops false [o1 16 (.mv (tp 3)),
  o1 17 (.buildSl (.int .i64) [(.int .i64 0)] 2 [(0, 1, (ci 1)), (1, 1, (ci 2))]),
  o1 18 (.call (.con (.fn 91 [] [])) [(tp 16), (tp 17)]),
  o1 19 (.un .not (tp 18)),
  o1 2 (.mv (tp 19))])
 (.ret)) (.seq (.ops false [o1 21 (.bin .eql 0 [] (tp 11) (ci 3)),
  o1 20 (.mv (tp 21))])
 (.cond (tp 20) (.seq (.ops false [o1 22 (.mv (tp 3)),
  o1 23 (.buildSl (.int .i64) [(.int .i64 0)] 1 [(0, 1, (ci 2))]),
  o1 24 (.call (.con (.fn 91 [] [])) [(tp 22), (tp 23)]),
  o1 25 (.un .not (tp 24)),
  o1 26 (.mv (tp 25)),
  o3 27 (.fldA 8 (tp 1)) 26 true [],
  o3 28 (.load 1 false (tp 27)) 26 true [],
  o3 29 (.mv (tp 28)) 26 true [],
  o3 30 (.mv (tp 3)) 29 true [],
  o3 31 (.buildSl (.int .i64) [(.int .i64 0)] 1 [(0, 1, (ci 1))]) 29 true [],
  o3 32 (.call (.con (.fn 91 [] [])) [(tp 30), (tp 31)]) 29 true [],
  o3 33 (.pick (tp 29) (tp 32) (.con (.d (.bool false)))) 26 true [],
  o3 34 (.un .not (tp 33)) 26 true [],
  o1 35 (.pick (tp 26) (tp 34) (.con (.d (.bool false)))),
  o1 2 (.mv (tp 35))])
 (.ret)) (.skip)))))))))
 (.seq (.ops false [o1 2 (.mv (.con (.d (.bool false))))])
 (.ret)))))⟩
/-- entente/ententelaw21.FewMove -/
def c41 : AFn := ⟨15, [.tmp 2], .seq (.ops false [o1 1 (.box (tp 0)),
  o1 2 (.mv (.con (.d (.bool false))))])
 (.seq (.ops false [o1 3 (.fldA 1 (tp 1)),
  o1 4 (.fldA 2 (tp 3)),
  o1 5 (.load 1 false (tp 4)),
  o1 6 (.len 1 (tp 5)),
  o1 7 (.bin .leq 0 [] (tp 6) (ci 50)),
  o1 8 (.mv (tp 7)),
  o3 9 (.fldA 6 (tp 1)) 8 true [],
  o3 10 (.fldA 1 (tp 9)) 8 true [],
  o3 11 (.load 1 false (tp 10)) 8 true [],
  o3 12 (.len 1 (tp 11)) 8 true [],
  o3 13 (.bin .leq 0 [] (tp 12) (ci 50)) 8 true [],
  o1 14 (.pick (tp 8) (tp 13) (.con (.d (.bool false)))),
  o1 2 (.mv (tp 14))])
 (.ret))⟩
/-- entente/saga.Apply -/
def c42 : AFn := ⟨39, [.cell 4 9 true, .tmp 5], .seq (.ops false [o1 2 (.box (tp 0)),
  o1 3 (.box (tp 1)),
  o1 4 (.alloc [(.int .i64 0), (.int .i64 0), (.sl hA true []), (.str []), (.sl hB true []), (.int .i64 0), (.int .i64 0), (.sl hA true []), (.bool false)]),
  o1 5 (.mv (ci 0))])
 (.seq (.seq (.ops false [o1 8 (.load 9 true (tp 2)),
  o1 9 (.call (.con (.fn 35 [] [])) [(tp 8)]),
  o1 6 (.mv (tp 9))])
 (.seq (.ops false [o1 10 (.mv (tp 6)),
  o1 11 (.bin .neq 0 [] (tp 10) (ci 0))])
 (.cond (tp 11) (.seq (.ops false [o1 12 (.build [(.int .i64 0), (.int .i64 0), (.sl hA true []), (.str []), (.sl hB true []), (.int .i64 0), (.int .i64 0), (.sl hA true []), (.bool false)] []),
  o1 13 (.mv (tp 6)),
  ⟨none, .store 9 (tp 4) (tp 12), none, []⟩,
  o1 5 (.mv (tp 13))])
 (.ret)) (.skip))))
 (.seq (.seq (.ops false [o1 14 (.load 8 true (tp 3)),
  o1 15 (.call (.con (.fn 92 [] [])) [(tp 14)]),
  o1 16 (.bin .neq 0 [] (tp 15) (ci 0)),
  o1 17 (.mv (tp 16)),
  o3 18 (.fldA 1 (tp 3)) 17 false [],
  o3 19 (.load 3 true (tp 18)) 17 false [],
  o3 20 (.fldA 0 (tp 2)) 17 false [],
  o3 21 (.load 3 true (tp 20)) 17 false [],
  o3 22 (.call (.con (.fn 93 [] [])) [(tp 19), (tp 21)]) 17 false [],
  o3 23 (.bin .neq 0 [] (tp 22) (ci 0)) 17 false [],
  o1 24 (.pick (tp 17) (.con (.d (.bool true))) (tp 23))])
 (.cond (tp 24) (.seq (.ops false [o1 25 (.build [(.int .i64 0), (.int .i64 0), (.sl hA true []), (.str []), (.sl hB true []), (.int .i64 0), (.int .i64 0), (.sl hA true []), (.bool false)] []),
  ⟨none, .store 9 (tp 4) (tp 25), none, []⟩,
  o1 5 (.mv (ci 210))])
 (.ret)) (.skip)))
 (.seq (.ops false [o1 26 (.load 9 true (tp 2)),
  o1 27 (.call (.con (.fn 94 [] [])) [(tp 26)]),
  o1 28 (.build [(.int .i64 0), (.int .i64 0), (.sl hA true []), (.str []), (.sl hB true []), (.int .i64 0), (.int .i64 0), (.sl hA true []), (.bool false)] [(0, 9, (tp 27))]),
  o1 29 (.box (tp 28)),
  o1 7 (.mv (tp 29))])
 (.seq (.seq (.ops false [o1 30 (.mv (tp 7)),
  o1 31 (.load 8 true (tp 3)),
  o1 32 (.call (.con (.fn 95 [] [])) [(tp 30), (tp 31)]),
  o1 33 (.un .not (tp 32))])
 (.cond (tp 33) (.seq (.ops false [o1 34 (.build [(.int .i64 0), (.int .i64 0), (.sl hA true []), (.str []), (.sl hB true []), (.int .i64 0), (.int .i64 0), (.sl hA true []), (.bool false)] []),
  ⟨none, .store 9 (tp 4) (tp 34), none, []⟩,
  o1 5 (.mv (ci 210))])
 (.ret)) (.skip)))
 (.seq (.ops false [o1 35 (.mv (tp 7)),
  o1 36 (.nilck (tp 35)),
  o1 37 (.fldA 0 (tp 36)),
  o1 38 (.load 9 true (tp 37)),
  ⟨none, .store 9 (tp 4) (tp 38), none, []⟩,
  o1 5 (.mv (ci 0))])
 (.ret))))))⟩
/-- entente/child.owned -/
def c48 : AFn := ⟨8, [.cell 2 3 true], .seq (.ops false [o1 1 (.box (tp 0)),
  o1 2 (.alloc [(.int .i64 0), (.int .i64 0), (.sl hA true [])])])
 (.seq (.ops false [o1 3 (.fldA 2 (tp 1)),
  o1 4 (.load 1 false (tp 3)),
  o1 5 (.call (.con (.fn 99 [] [])) [(tp 4)]),
  o1 6 (.fldA 2 (tp 1)),
  ⟨none, .store 1 (tp 6) (tp 5), none, []⟩])
 (.seq (.ops false [o1 7 (.load 3 true (tp 1)),
  ⟨none, .store 3 (tp 2) (tp 7), none, []⟩])
 (.ret)))⟩
/-- entente/ententeref03.Same -/
def c49 : AFn := ⟨9, [.tmp 4], .seq (.ops false [o1 2 (.box (tp 0)),
  o1 3 (.box (tp 1)),
  o1 4 (.mv (.con (.d (.bool false))))])
 (.seq (.ops false [o1 5 (.load 3 true (tp 2)),
  o1 6 (.load 3 true (tp 3)),
  o1 7 (.call (.con (.fn 100 [] [])) [(tp 5), (tp 6)]),
  o1 8 (.bin .eql 0 [] (tp 7) (ci 0)),
  o1 4 (.mv (tp 8))])
 (.ret))⟩
/-- entente/state.May -/
def c51 : AFn := ⟨78, [.tmp 2], .seq (.ops false [o1 1 (.box (tp 0)),
  o1 2 (.mv (ci 0))])
 (.seq (.ops false [o1 7 (.load 7 true (tp 1)),
  o1 8 (.build [(.int .i64 0), (.int .i64 0), (.int .i64 0), (.sl (.agg [.str, (.int .i64), (.int .i64), (.int .i64), (.int .i64), (.int .i64), (.int .i64)]) true []), (.sl (.agg [.str, (.int .i64), .str, (.int .i64), (.int .i64)]) true []), (.sl (.agg [.str, (.sl hB)]) true []), (.sl (.agg [(.int .i64), (.int .i64), (.sl hA), .str, (.sl hB), (.int .i64), (.int .i64), (.sl hA), .bool]) true [])] [(0, 7, (tp 7))]),
  o1 9 (.box (tp 8)),
  o1 3 (.mv (tp 9))])
 (.seq (.seq (.ops false [o1 10 (.fldA 0 (tp 1)),
  o1 11 (.load 1 false (tp 10)),
  o1 12 (.bin .lss 0 [] (tp 11) (ci 0)),
  o1 13 (.mv (tp 12)),
  o3 14 (.fldA 0 (tp 1)) 13 false [],
  o3 15 (.load 1 false (tp 14)) 13 false [],
  o3 16 (.bin .geq 0 [] (tp 15) (ci 16)) 13 false [],
  o1 17 (.pick (tp 13) (.con (.d (.bool true))) (tp 16)),
  o1 18 (.mv (tp 17)),
  o3 19 (.fldA 1 (tp 1)) 18 false [],
  o3 20 (.load 1 false (tp 19)) 18 false [],
  o3 21 (.bin .lss 0 [] (tp 20) (ci 0)) 18 false [],
  o1 22 (.pick (tp 18) (.con (.d (.bool true))) (tp 21)),
  o1 23 (.mv (tp 22)),
  o3 24 (.fldA 1 (tp 1)) 23 false [],
  o3 25 (.load 1 false (tp 24)) 23 false [],
  o3 26 (.bin .gtr 0 [] (tp 25) (ci 1000000000)) 23 false [],
  o1 27 (.pick (tp 23) (.con (.d (.bool true))) (tp 26)),
  o1 28 (.mv (tp 27)),
  o3 29 (.fldA 2 (tp 1)) 28 false [],
  o3 30 (.load 1 false (tp 29)) 28 false [],
  o3 31 (.bin .lss 0 [] (tp 30) (ci 0)) 28 false [],
  o1 32 (.pick (tp 28) (.con (.d (.bool true))) (tp 31)),
  o1 33 (.mv (tp 32)),
  o3 34 (.fldA 2 (tp 1)) 33 false [],
  o3 35 (.load 1 false (tp 34)) 33 false [],
  o3 36 (.bin .gtr 0 [] (tp 35) (ci 999999)) 33 false [],
  o1 37 (.pick (tp 33) (.con (.d (.bool true))) (tp 36))])
 (.cond (tp 37) (.seq (.ops false [o1 2 (.mv (ci 230))])
 (.ret)) (.skip)))
 (.seq (.seq (.ops false [o1 38 (.fldA 3 (tp 1)),
  o1 39 (.load 2 true (tp 38)),
  o1 40 (.call (.con (.fn 101 [] [])) [(tp 39)]),
  o1 41 (.bin .neq 0 [] (tp 40) (ci 0)),
  o1 42 (.mv (tp 41)),
  o3 43 (.fldA 5 (tp 1)) 42 false [],
  o3 44 (.load 1 false (tp 43)) 42 false [],
  o3 45 (.call (.con (.fn 102 [] [])) [(tp 44)]) 42 false [],
  o3 46 (.bin .neq 0 [] (tp 45) (ci 0)) 42 false [],
  o1 47 (.pick (tp 42) (.con (.d (.bool true))) (tp 46)),
  o1 48 (.mv (tp 47)),
  o3 49 (.mv (tp 3)) 48 false [],
  o3 50 (.call (.con (.fn 103 [] [])) [(tp 49)]) 48 false [],
  o3 51 (.un .not (tp 50)) 48 false [],
  o1 52 (.pick (tp 48) (.con (.d (.bool true))) (tp 51))])
 (.cond (tp 52) (.seq (.ops false [o1 2 (.mv (ci 230))])
 (.ret)) (.skip)))
 (.seq (.ops false [o1 53 (.fldA 6 (tp 1)),
  o1 54 (.load 1 false (tp 53)),
  o1 55 (.call (.con (.fn 104 [] [])) [(tp 54)]),
  o1 4 (.mv (tp 55))])
 (.seq (.seq (.ops false [o1 56 (.mv (tp 4)),
  o1 57 (.mlen (tp 56)),
  o1 58 (.fldA 3 (tp 1)),
  o1 59 (.fldA 1 (tp 58)),
  o1 60 (.load 1 false (tp 59)),
  o1 61 (.len 1 (tp 60)),
  o1 62 (.bin .neq 0 [] (tp 57) (tp 61))])
 (.cond (tp 62) (.seq (.ops false [o1 2 (.mv (ci 230))])
 (.ret)) (.skip)))
 (.seq (.seq (.ops false [o1 63 (.fldA 3 (tp 1)),
  o1 64 (.fldA 1 (tp 63)),
  o1 65 (.load 1 false (tp 64)),
  o1 66 (.len 1 (tp 65)),
  o1 67 (.mv (ci 0))])
 (.block 0 (.loop 0 (some ([4, 65, 66, 67], [0, 1, 2, 3, 4, 5, 6, 7, 128, 129, 130, 131, 160, 161, 640, 641, 642, 643, 672, 673, 2624, 2625, 2626, 2627, 2656, 2657, 2944, 2945, 2946, 2947, 2976, 2977, 3264, 3265, 3266, 3267, 3296, 3297, 3584, 3585, 3586, 3587, 3616, 3617])) (.seq (.ops false [o1 68 (.bin .lss 0 [] (tp 67) (tp 66))])
 (.seq (.cond (tp 68) (.skip) (.exit 0))
 (.seq (.block 1 (.seq (.ops false [o1 69 (.ixS (.agg [.str, (.int .i64), .str, (.int .i64), (.int .i64)]) (tp 65) (tp 67)),
  o1 70 (.load 5 true (tp 69)),
  o1 6 (.alloc [(.str []), (.int .i64 0), (.str []), (.int .i64 0), (.int .i64 0)]),
  ⟨none, .store 5 (tp 6) (tp 70), none, []⟩])
 (.seq (.ops false [o1 71 (.mv (tp 4)),
  o1 72 (.fldA 0 (tp 6)),
  o1 73 (.load 1 false (tp 72)),
  o1 74 (.mapGet .str (.agg [.str, (.int .i64), .str, (.int .i64), (.int .i64)]) [(.str []), (.int .i64 0), (.str []), (.int .i64 0), (.int .i64 0)] false (tp 71) (tp 73)),
  o1 75 (.load 5 true (tp 6)),
  o1 76 (.bin .neq 6 [.str, (.int .i64), .str, (.int .i64), (.int .i64)] (tp 74) (tp 75))])
 (.cond (tp 76) (.seq (.ops false [o1 2 (.mv (ci 230))])
 (.ret)) (.skip)))))
 (.ops false [o1 77 (.bin .add 0 [] (tp 67) (ci 1)),
  o1 67 (.mv (tp 77))])))))))
 (.seq (.ops false [o1 2 (.mv (ci 0))])
 (.ret))))))))⟩
/-- entente/note.Check -/
def c52 : AFn := ⟨69, [.tmp 2], .seq (.ops false [o1 1 (.box (tp 0)),
  o1 2 (.mv (ci 0))])
 (.seq (.ops false [o1 9 (.fldA 1 (tp 1)),
  o1 10 (.load 3 true (tp 9)),
  o1 11 (.call (.con (.fn 105 [] [])) [(tp 10)]),
  o1 8 (.mv (tp 11)),
  o1 12 (.ext 0 (tp 8)),
  o1 13 (.ext 1 (tp 8)),
  o1 14 (.ext 2 (tp 8)),
  o1 3 (.alloc [(.int .i64 0), (.int .i64 0), (.sl hA true [])]),
  ⟨none, .store 3 (tp 3) (tp 12), none, []⟩,
  o1 4 (.mv (tp 13)),
  o1 5 (.mv (tp 14))])
 (.seq (.ops true [o1 15 (.fldA 0 (tp 1)),
  o2 16 (.load 1 false (tp 15)) [0],
  o2 17 (.bin .eql 0 [] (tp 16) (ci 1)) [1],
  o1 18 (.fldA 0 (tp 1)),
  o2 19 (.load 1 false (tp 18)) [3],
  o2 20 (.bin .eql 0 [] (tp 19) (ci 6)) [4],
  o2 6 (.mv (tp 17)) [0, 1, 2],
  o2 7 (.mv (tp 20)) [0, 1, 2, 3, 4, 5, 6]])
 (.seq (.block 0 (.seq (.ops false [o1 22 (.fldA 0 (tp 1)),
  o1 23 (.load 1 false (tp 22)),
  o1 24 (.bin .lss 0 [] (tp 23) (ci 1)),
  o1 25 (.mv (tp 24)),
  o3 26 (.fldA 0 (tp 1)) 25 false [],
  o3 27 (.load 1 false (tp 26)) 25 false [],
  o3 28 (.bin .gtr 0 [] (tp 27) (ci 7)) 25 false [],
  o1 29 (.pick (tp 25) (.con (.d (.bool true))) (tp 28)),
  o1 30 (.mv (tp 29)),
  o3 31 (.mv (tp 5)) 30 false [],
  o3 32 (.un .not (tp 31)) 30 false [],
  o1 33 (.pick (tp 30) (.con (.d (.bool true))) (tp 32)),
  o1 21 (.mv (tp 33))])
 (.cond (tp 21) (.seq (.ops false [o1 2 (.mv (ci 130))])
 (.ret)) (.seq (.ops false [o1 35 (.mv (tp 6)),
  o1 36 (.fldA 4 (tp 1)),
  o1 37 (.load 1 false (tp 36)),
  o1 38 (.call (.con (.fn 106 [] [])) [(tp 37)]),
  o1 39 (.bin .neq 1 [] (tp 35) (tp 38)),
  o1 40 (.mv (tp 39)),
  o3 41 (.mv (tp 6)) 40 false [],
  o3 42 (.un .not (tp 41)) 40 false [],
  o3 43 (.mv (tp 42)) 40 false [],
  o3 44 (.fldA 4 (tp 1)) 43 true [],
  o3 45 (.load 1 false (tp 44)) 43 true [],
  o3 46 (.bin .neq 0 [] (tp 45) (.con (.d (.str [])))) 43 true [],
  o3 47 (.pick (tp 43) (tp 46) (.con (.d (.bool false)))) 40 false [],
  o1 48 (.pick (tp 40) (.con (.d (.bool true))) (tp 47)),
  o1 34 (.mv (tp 48))])
 (.cond (tp 34) (.seq (.ops false [o1 2 (.mv (ci 130))])
 (.ret)) (.seq (.ops false [o1 50 (.mv (tp 7)),
  o1 51 (.fldA 5 (tp 1)),
  o1 52 (.load 1 false (tp 51)),
  o1 53 (.bin .geq 0 [] (tp 52) (ci 1)),
  o1 54 (.mv (tp 53)),
  o3 55 (.fldA 5 (tp 1)) 54 true [],
  o3 56 (.load 1 false (tp 55)) 54 true [],
  o3 57 (.bin .leq 0 [] (tp 56) (ci 9)) 54 true [],
  o1 58 (.pick (tp 54) (tp 57) (.con (.d (.bool false)))),
  o1 59 (.bin .neq 1 [] (tp 50) (tp 58)),
  o1 60 (.mv (tp 59)),
  o3 61 (.mv (tp 7)) 60 false [],
  o3 62 (.un .not (tp 61)) 60 false [],
  o3 63 (.mv (tp 62)) 60 false [],
  o3 64 (.fldA 5 (tp 1)) 63 true [],
  o3 65 (.load 1 false (tp 64)) 63 true [],
  o3 66 (.bin .neq 0 [] (tp 65) (ci 0)) 63 true [],
  o3 67 (.pick (tp 63) (tp 66) (.con (.d (.bool false)))) 60 false [],
  o1 68 (.pick (tp 60) (.con (.d (.bool true))) (tp 67)),
  o1 49 (.mv (tp 68))])
 (.cond (tp 49) (.seq (.ops false [o1 2 (.mv (ci 130))])
 (.ret)) (.skip))))))))
 (.seq (.ops false [o1 2 (.mv (ci 0))])
 (.ret)))))⟩
/-- entente/ident.Org -/
def c53 : AFn := ⟨15, [.tmp 2], .seq (.ops false [o1 1 (.box (tp 0)),
  o1 2 (.mv (ci 0))])
 (.seq (.seq (.ops false [o1 4 (.load 3 true (tp 1)),
  o1 5 (.call (.con (.fn 74 [] [])) [(tp 4)]),
  o1 6 (.bin .neq 0 [] (tp 5) (ci 0))])
 (.cond (tp 6) (.seq (.ops false [o1 2 (.mv (ci (-1)))])
 (.ret)) (.skip)))
 (.seq (.ops false [o1 7 (.load 3 true (tp 1)),
  o1 8 (.call (.con (.fn 107 [] [])) [(tp 7)]),
  o1 3 (.mv (tp 8))])
 (.seq (.ops false [o1 9 (.mv (tp 3)),
  o1 10 (.mv (tp 3)),
  o1 11 (.len 1 (tp 10)),
  o1 12 (.bin .sub 0 [] (tp 11) (ci 1)),
  o1 13 (.ixS (.int .i64) (tp 9) (tp 12)),
  o1 14 (.load 1 false (tp 13)),
  o1 2 (.mv (tp 14))])
 (.ret))))⟩
/-- entente/state.Find -/
def c54 : AFn := ⟨31, [.cell 4 9 true, .tmp 5], .seq (.ops false [o1 2 (.box (tp 0)),
  o1 3 (.box (tp 1)),
  o1 4 (.alloc [(.int .i64 0), (.int .i64 0), (.sl hA true []), (.str []), (.sl hB true []), (.int .i64 0), (.int .i64 0), (.sl hA true []), (.bool false)]),
  o1 5 (.mv (.con (.d (.bool false))))])
 (.seq (.seq (.ops false [o1 9 (.load 7 true (tp 2)),
  o1 10 (.call (.con (.fn 51 [] [])) [(tp 9)]),
  o1 11 (.bin .neq 0 [] (tp 10) (ci 0))])
 (.cond (tp 11) (.seq (.ops false [o1 12 (.build [(.int .i64 0), (.int .i64 0), (.sl hA true []), (.str []), (.sl hB true []), (.int .i64 0), (.int .i64 0), (.sl hA true []), (.bool false)] []),
  ⟨none, .store 9 (tp 4) (tp 12), none, []⟩,
  o1 5 (.mv (.con (.d (.bool false))))])
 (.ret)) (.skip)))
 (.seq (.ops false [o1 13 (.load 7 true (tp 2)),
  o1 14 (.build [(.int .i64 0), (.int .i64 0), (.int .i64 0), (.sl (.agg [.str, (.int .i64), (.int .i64), (.int .i64), (.int .i64), (.int .i64), (.int .i64)]) true []), (.sl (.agg [.str, (.int .i64), .str, (.int .i64), (.int .i64)]) true []), (.sl (.agg [.str, (.sl hB)]) true []), (.sl (.agg [(.int .i64), (.int .i64), (.sl hA), .str, (.sl hB), (.int .i64), (.int .i64), (.sl hA), .bool]) true [])] [(0, 7, (tp 13))]),
  o1 15 (.box (tp 14)),
  o1 6 (.mv (tp 15))])
 (.seq (.ops false [o1 17 (.mv (tp 6)),
  o1 18 (.load 3 true (tp 3)),
  o1 19 (.call (.con (.fn 108 [] [])) [(tp 17), (tp 18)]),
  o1 16 (.mv (tp 19)),
  o1 20 (.ext 0 (tp 16)),
  o1 21 (.ext 1 (tp 16)),
  o1 7 (.mv (tp 20)),
  o1 8 (.mv (tp 21))])
 (.seq (.seq (.ops false [o1 22 (.mv (tp 8)),
  o1 23 (.un .not (tp 22))])
 (.cond (tp 23) (.seq (.ops false [o1 24 (.build [(.int .i64 0), (.int .i64 0), (.sl hA true []), (.str []), (.sl hB true []), (.int .i64 0), (.int .i64 0), (.sl hA true []), (.bool false)] []),
  ⟨none, .store 9 (tp 4) (tp 24), none, []⟩,
  o1 5 (.mv (.con (.d (.bool false))))])
 (.ret)) (.skip)))
 (.seq (.ops false [o1 25 (.fldA 6 (tp 2)),
  o1 26 (.load 1 false (tp 25)),
  o1 27 (.mv (tp 7)),
  o1 28 (.ixS (.agg [(.int .i64), (.int .i64), (.sl hA), .str, (.sl hB), (.int .i64), (.int .i64), (.sl hA), .bool]) (tp 26) (tp 27)),
  o1 29 (.load 9 true (tp 28)),
  o1 30 (.call (.con (.fn 109 [] [])) [(tp 29)]),
  ⟨none, .store 9 (tp 4) (tp 30), none, []⟩,
  o1 5 (.mv (.con (.d (.bool true))))])
 (.ret))))))⟩
/-- entente/child.unknown -/
def c55 : AFn := ⟨44, [.cell 4 2 true], .seq (.ops false [o1 2 (.box (tp 0)),
  o1 3 (.box (tp 1)),
  o1 4 (.alloc [(.sl (.agg [(.int .i64), (.int .i64), (.int .i64), (.sl hA), (.int .i64), (.int .i64), .str, (.sl hB)]) true []), (.sl (.agg [(.int .i64), (.int .i64), (.int .i64), (.sl hA), .str, (.int .i64)]) true [])])])
 (.seq (.ops false [o1 9 (.fldA 6 (tp 2)),
  o1 10 (.load 1 false (tp 9)),
  o1 11 (.len 1 (tp 10)),
  o1 12 (.bin .lss 0 [] (tp 11) (ci 24)),
  o1 5 (.mv (tp 12))])
 (.seq (.ops false [o1 6 (.mv (ci 7))])
 (.seq (.seq (.ops false [o1 13 (.fldA 0 (tp 3)),
  o1 14 (.load 1 false (tp 13))])
 (.block 0 (.seq (.block 2 (.seq (.block 1 (.seq (.seq (.seq (.ops false [o1 16 (.bin .eql 0 [] (tp 14) (ci 1)),
  o1 15 (.mv (tp 16))])
 (.cond (tp 15) (.exit 1) (.skip)))
 (.seq (.ops false [o1 18 (.bin .eql 0 [] (tp 14) (ci 4)),
  o1 17 (.mv (tp 18))])
 (.cond (tp 17) (.exit 2) (.skip))))
 (.exit 0)))
 (.seq (.ops false [o1 20 (.fldA 5 (tp 2)),
  o1 21 (.load 1 false (tp 20)),
  o1 22 (.fldA 4 (tp 3)),
  o1 23 (.load 1 false (tp 22)),
  o1 24 (.call (.con (.fn 110 [] [])) [(tp 21), (tp 23)]),
  o1 19 (.mv (tp 24)),
  o1 25 (.ext 0 (tp 19)),
  o1 26 (.ext 1 (tp 19)),
  o1 7 (.alloc [(.str []), (.sl hB true [])]),
  ⟨none, .store 2 (tp 7) (tp 25), none, []⟩,
  o1 8 (.mv (tp 26))])
 (.seq (.seq (.ops false [o1 27 (.mv (tp 8)),
  o1 28 (.mv (tp 27)),
  o3 29 (.mv (tp 5)) 28 true [],
  o1 30 (.pick (tp 28) (tp 29) (.con (.d (.bool false))))])
 (.cond (tp 30) (.seq (.ops true [o1 31 (.fldA 1 (tp 3)),
  o2 32 (.load 3 true (tp 31)) [0],
  o2 33 (.call (.con (.fn 48 [] [])) [(tp 32)]) [1],
  o1 34 (.load 2 true (tp 7)),
  o2 35 (.build [(.int .i64 0), (.int .i64 0), (.int .i64 0), (.sl hA true []), (.int .i64 0), (.int .i64 0), (.str []), (.sl hB true [])] [(0, 1, (ci 1)), (1, 3, (tp 33)), (6, 2, (tp 34))]) [2, 3],
  o2 36 (.buildSl (.agg [(.int .i64), (.int .i64), (.int .i64), (.sl hA), (.int .i64), (.int .i64), .str, (.sl hB)]) [(.int .i64 0), (.int .i64 0), (.int .i64 0), (.sl hA true []), (.int .i64 0), (.int .i64 0), (.str []), (.sl hB true [])] 1 [(0, 8, (tp 35))]) [4],
  o2 37 (.build [(.sl (.agg [(.int .i64), (.int .i64), (.int .i64), (.sl hA), (.int .i64), (.int .i64), .str, (.sl hB)]) true []), (.sl (.agg [(.int .i64), (.int .i64), (.int .i64), (.sl hA), .str, (.int .i64)]) true [])] [(0, 1, (tp 36))]) [5],
  ⟨none, .store 2 (tp 4) (tp 37), none, [0, 1, 2, 3, 4, 5, 6]⟩])
 (.ret)) (.skip)))
 (.ops false [o1 6 (.mv (ci 8))])))))
 (.seq (.seq (.ops false [o1 38 (.fldA 1 (tp 3)),
  o1 39 (.load 3 true (tp 38)),
  o1 40 (.mv (tp 5)),
  o1 41 (.mv (tp 6)),
  o1 42 (.call (.con (.fn 111 [] [])) [(tp 39), (tp 40), (tp 41)]),
  ⟨none, .store 2 (tp 4) (tp 42), none, []⟩])
 (.ret))
 (.exit 0)))))
 (.seq (.ops false [o1 43 (.build [(.sl (.agg [(.int .i64), (.int .i64), (.int .i64), (.sl hA), (.int .i64), (.int .i64), .str, (.sl hB)]) true []), (.sl (.agg [(.int .i64), (.int .i64), (.int .i64), (.sl hA), .str, (.int .i64)]) true [])] []),
  ⟨none, .store 2 (tp 4) (tp 43), none, []⟩])
 (.ret)))))⟩
/-- entente/child.known -/
def c56 : AFn := ⟨65, [.cell 4 2 true], .seq (.ops false [o1 2 (.box (tp 0)),
  o1 3 (.box (tp 1)),
  o1 4 (.alloc [(.sl (.agg [(.int .i64), (.int .i64), (.int .i64), (.sl hA), (.int .i64), (.int .i64), .str, (.sl hB)]) true []), (.sl (.agg [(.int .i64), (.int .i64), (.int .i64), (.sl hA), .str, (.int .i64)]) true [])])])
 (.seq (.ops false [o1 8 (.fldA 7 (tp 2)),
  o1 9 (.load 1 false (tp 8)),
  o1 10 (.call (.con (.fn 112 [] [])) [(tp 9), (.con (.fn 113 [] []))]),
  o1 5 (.mv (tp 10))])
 (.seq (.block 0 (.seq (.ops false [o1 12 (.fldA 0 (tp 3)),
  o1 13 (.load 1 false (tp 12)),
  o1 14 (.bin .eql 0 [] (tp 13) (ci 3)),
  o1 15 (.mv (tp 14)),
  o3 16 (.fldA 5 (tp 2)) 15 true [],
  o3 17 (.load 1 false (tp 16)) 15 true [],
  o3 18 (.bin .eql 0 [] (tp 17) (ci 2)) 15 true [],
  o1 19 (.pick (tp 15) (tp 18) (.con (.d (.bool false)))),
  o1 20 (.mv (tp 19)),
  o3 21 (.mv (tp 5)) 20 true [],
  o3 22 (.un .not (tp 21)) 20 true [],
  o1 23 (.pick (tp 20) (tp 22) (.con (.d (.bool false)))),
  o1 11 (.mv (tp 23))])
 (.cond (tp 11) (.seq (.ops true [o1 24 (.fldA 0 (tp 2)),
  o2 25 (.load 3 true (tp 24)) [0],
  o2 26 (.call (.con (.fn 48 [] [])) [(tp 25)]) [1],
  o2 27 (.build [(.int .i64 0), (.int .i64 0), (.int .i64 0), (.sl hA true []), (.int .i64 0), (.int .i64 0), (.str []), (.sl hB true [])] [(0, 1, (ci 9)), (1, 3, (tp 26))]) [2],
  o2 28 (.buildSl (.agg [(.int .i64), (.int .i64), (.int .i64), (.sl hA), (.int .i64), (.int .i64), .str, (.sl hB)]) [(.int .i64 0), (.int .i64 0), (.int .i64 0), (.sl hA true []), (.int .i64 0), (.int .i64 0), (.str []), (.sl hB true [])] 1 [(0, 8, (tp 27))]) [3],
  o1 29 (.fldA 0 (tp 2)),
  o2 30 (.load 3 true (tp 29)) [5],
  o2 31 (.call (.con (.fn 48 [] [])) [(tp 30)]) [2, 6],
  o2 32 (.build [(.int .i64 0), (.int .i64 0), (.int .i64 0), (.sl hA true []), (.str []), (.int .i64 0)] [(0, 1, (ci 7)), (1, 3, (tp 31))]) [7],
  o2 33 (.buildSl (.agg [(.int .i64), (.int .i64), (.int .i64), (.sl hA), .str, (.int .i64)]) [(.int .i64 0), (.int .i64 0), (.int .i64 0), (.sl hA true []), (.str []), (.int .i64 0)] 1 [(0, 6, (tp 32))]) [8],
  o2 34 (.build [(.sl (.agg [(.int .i64), (.int .i64), (.int .i64), (.sl hA), (.int .i64), (.int .i64), .str, (.sl hB)]) true []), (.sl (.agg [(.int .i64), (.int .i64), (.int .i64), (.sl hA), .str, (.int .i64)]) true [])] [(0, 1, (tp 28)), (1, 1, (tp 33))]) [4, 9],
  ⟨none, .store 2 (tp 4) (tp 34), none, [0, 1, 2, 3, 4, 5, 6, 7, 8, 9, 10]⟩])
 (.ret)) (.seq (.ops false [o1 36 (.fldA 0 (tp 3)),
  o1 37 (.load 1 false (tp 36)),
  o1 38 (.bin .eql 0 [] (tp 37) (ci 4)),
  o1 39 (.mv (tp 38)),
  o3 40 (.fldA 5 (tp 2)) 39 true [],
  o3 41 (.load 1 false (tp 40)) 39 true [],
  o3 42 (.bin .eql 0 [] (tp 41) (ci 1)) 39 true [],
  o3 43 (.mv (tp 42)) 39 true [],
  o3 44 (.fldA 5 (tp 2)) 43 false [],
  o3 45 (.load 1 false (tp 44)) 43 false [],
  o3 46 (.bin .eql 0 [] (tp 45) (ci 2)) 43 false [],
  o3 47 (.pick (tp 43) (.con (.d (.bool true))) (tp 46)) 39 true [],
  o1 48 (.pick (tp 39) (tp 47) (.con (.d (.bool false)))),
  o1 35 (.mv (tp 48))])
 (.cond (tp 35) (.seq (.ops false [o1 49 (.fldA 0 (tp 2)),
  o1 50 (.load 3 true (tp 49)),
  o1 51 (.call (.con (.fn 48 [] [])) [(tp 50)]),
  o1 52 (.build [(.int .i64 0), (.int .i64 0), (.int .i64 0), (.sl hA true []), (.int .i64 0), (.int .i64 0), (.str []), (.sl hB true [])] [(0, 1, (ci 10)), (1, 3, (tp 51)), (5, 1, (ci 7))]),
  o1 53 (.buildSl (.agg [(.int .i64), (.int .i64), (.int .i64), (.sl hA), (.int .i64), (.int .i64), .str, (.sl hB)]) [(.int .i64 0), (.int .i64 0), (.int .i64 0), (.sl hA true []), (.int .i64 0), (.int .i64 0), (.str []), (.sl hB true [])] 1 [(0, 8, (tp 52))]),
  o1 54 (.build [(.sl (.agg [(.int .i64), (.int .i64), (.int .i64), (.sl hA), (.int .i64), (.int .i64), .str, (.sl hB)]) true []), (.sl (.agg [(.int .i64), (.int .i64), (.int .i64), (.sl hA), .str, (.int .i64)]) true [])] [(0, 1, (tp 53))]),
  ⟨none, .store 2 (tp 4) (tp 54), none, []⟩])
 (.ret)) (.skip))))))
 (.seq (.seq (.ops false [o1 56 (.load 9 true (tp 2)),
  o1 57 (.call (.con (.fn 15 [] [])) [(tp 56)]),
  o1 55 (.mv (tp 57)),
  o1 58 (.ext 0 (tp 55)),
  o1 59 (.ext 1 (tp 55)),
  o1 6 (.alloc [(.int .i64 0), (.int .i64 0), (.int .i64 0), (.sl hA true []), (.str []), (.int .i64 0)]),
  ⟨none, .store 6 (tp 6) (tp 58), none, []⟩,
  o1 7 (.mv (tp 59))])
 (.seq (.ops false [o1 60 (.mv (tp 7))])
 (.cond (tp 60) (.seq (.ops false [o1 61 (.load 6 true (tp 6)),
  o1 62 (.buildSl (.agg [(.int .i64), (.int .i64), (.int .i64), (.sl hA), .str, (.int .i64)]) [(.int .i64 0), (.int .i64 0), (.int .i64 0), (.sl hA true []), (.str []), (.int .i64 0)] 1 [(0, 6, (tp 61))]),
  o1 63 (.build [(.sl (.agg [(.int .i64), (.int .i64), (.int .i64), (.sl hA), (.int .i64), (.int .i64), .str, (.sl hB)]) true []), (.sl (.agg [(.int .i64), (.int .i64), (.int .i64), (.sl hA), .str, (.int .i64)]) true [])] [(1, 1, (tp 62))]),
  ⟨none, .store 2 (tp 4) (tp 63), none, []⟩])
 (.ret)) (.skip))))
 (.seq (.ops false [o1 64 (.build [(.sl (.agg [(.int .i64), (.int .i64), (.int .i64), (.sl hA), (.int .i64), (.int .i64), .str, (.sl hB)]) true []), (.sl (.agg [(.int .i64), (.int .i64), (.int .i64), (.sl hA), .str, (.int .i64)]) true [])] []),
  ⟨none, .store 2 (tp 4) (tp 64), none, []⟩])
 (.ret)))))⟩
/-- entente/def.Text -/
def c68 : AFn := ⟨44, [.cell 2 2 true, .cell 3 2 true], .seq (.ops false [o1 2 (.alloc [(.str []), (.sl hB true [])]),
  o1 3 (.alloc [(.int .i64 0), (.int .i64 0)])])
 (.seq (.ops false [o1 9 (.mv (tp 0)),
  o1 10 (.call (.con (.fn 122 [] [])) [(tp 9)]),
  o1 8 (.mv (tp 10)),
  o1 11 (.ext 0 (tp 8)),
  o1 12 (.ext 1 (tp 8)),
  o1 5 (.alloc [(.int .i64 0), (.int .i64 0)]),
  o1 4 (.mv (tp 11)),
  ⟨none, .store 2 (tp 5) (tp 12), none, []⟩])
 (.seq (.seq (.ops false [o1 13 (.fldA 0 (tp 5)),
  o1 14 (.load 1 false (tp 13)),
  o1 15 (.bin .neq 0 [] (tp 14) (ci 0))])
 (.cond (tp 15) (.seq (.ops true [o1 16 (.build [(.str []), (.sl hB true [])] []),
  o1 17 (.load 2 true (tp 5)),
  ⟨none, .store 2 (tp 2) (tp 16), none, [0]⟩,
  ⟨none, .store 2 (tp 3) (tp 17), none, [0, 1, 2]⟩])
 (.ret)) (.skip)))
 (.seq (.ops false [o1 19 (.mv (tp 4)),
  o1 20 (.call (.con (.fn 123 [] [])) [(tp 19), (ci 0)]),
  o1 18 (.mv (tp 20)),
  o1 21 (.ext 0 (tp 18)),
  o1 22 (.ext 1 (tp 18)),
  o1 23 (.ext 2 (tp 18)),
  o1 6 (.alloc [(.str []), (.sl hB true [])]),
  ⟨none, .store 2 (tp 6) (tp 21), none, []⟩,
  o1 7 (.mv (tp 22)),
  ⟨none, .store 2 (tp 5) (tp 23), none, []⟩])
 (.seq (.seq (.ops false [o1 24 (.fldA 0 (tp 5)),
  o1 25 (.load 1 false (tp 24)),
  o1 26 (.bin .neq 0 [] (tp 25) (ci 0))])
 (.cond (tp 26) (.seq (.ops true [o1 27 (.build [(.str []), (.sl hB true [])] []),
  o1 28 (.load 2 true (tp 5)),
  ⟨none, .store 2 (tp 2) (tp 27), none, [0]⟩,
  ⟨none, .store 2 (tp 3) (tp 28), none, [0, 1, 2]⟩])
 (.ret)) (.skip)))
 (.seq (.seq (.ops false [o1 29 (.mv (tp 4)),
  o1 30 (.mv (tp 7)),
  o1 31 (.ixS (.agg [(.int .i64), .str, (.int .i64)]) (tp 29) (tp 30)),
  o1 32 (.fldA 0 (tp 31)),
  o1 33 (.load 1 false (tp 32)),
  o1 34 (.bin .neq 0 [] (tp 33) (ci 0))])
 (.cond (tp 34) (.seq (.ops true [o1 35 (.build [(.str []), (.sl hB true [])] []),
  o1 36 (.mv (tp 4)),
  o1 37 (.mv (tp 7)),
  o2 38 (.ixS (.agg [(.int .i64), .str, (.int .i64)]) (tp 36) (tp 37)) [1, 2],
  o2 39 (.fldA 2 (tp 38)) [3],
  o2 40 (.load 1 false (tp 39)) [4],
  o2 41 (.build [(.int .i64 0), (.int .i64 0)] [(0, 1, (ci 81)), (1, 1, (tp 40))]) [5],
  ⟨none, .store 2 (tp 2) (tp 35), none, [0]⟩,
  ⟨none, .store 2 (tp 3) (tp 41), none, [0, 1, 2, 3, 4, 5, 6, 7]⟩])
 (.ret)) (.skip)))
 (.seq (.ops false [o1 42 (.load 2 true (tp 6)),
  o1 43 (.build [(.int .i64 0), (.int .i64 0)] []),
  ⟨none, .store 2 (tp 2) (tp 42), none, []⟩,
  ⟨none, .store 2 (tp 3) (tp 43), none, []⟩])
 (.ret)))))))⟩
/-- entente/saga.New -/
def c69 : AFn := ⟨32, [.cell 2 9 true, .tmp 3], .seq (.ops false [o1 1 (.box (tp 0)),
  o1 2 (.alloc [(.int .i64 0), (.int .i64 0), (.sl hA true []), (.str []), (.sl hB true []), (.int .i64 0), (.int .i64 0), (.sl hA true []), (.bool false)]),
  o1 3 (.mv (ci 0))])
 (.seq (.seq (.ops false [o1 4 (.load 8 true (tp 1)),
  o1 5 (.call (.con (.fn 92 [] [])) [(tp 4)]),
  o1 6 (.bin .neq 0 [] (tp 5) (ci 0))])
 (.cond (tp 6) (.seq (.ops false [o1 7 (.build [(.int .i64 0), (.int .i64 0), (.sl hA true []), (.str []), (.sl hB true []), (.int .i64 0), (.int .i64 0), (.sl hA true []), (.bool false)] []),
  ⟨none, .store 9 (tp 2) (tp 7), none, []⟩,
  o1 3 (.mv (ci 210))])
 (.ret)) (.skip)))
 (.seq (.seq (.ops false [o1 8 (.fldA 0 (tp 1)),
  o1 9 (.load 1 false (tp 8))])
 (.block 0 (.seq (.ops false [o1 11 (.bin .eql 0 [] (tp 9) (ci 1)),
  o1 10 (.mv (tp 11))])
 (.cond (tp 10) (.seq (.ops true [o1 12 (.fldA 1 (tp 1)),
  o2 13 (.load 3 true (tp 12)) [0],
  o1 14 (.fldA 6 (tp 1)),
  o2 15 (.load 2 true (tp 14)) [2],
  o1 16 (.fldA 6 (tp 1)),
  o2 17 (.fldA 1 (tp 16)) [4],
  o2 18 (.load 1 false (tp 17)) [5],
  o2 19 (.len 1 (tp 18)) [6],
  o2 20 (.mkSl hA [(.int .i64 0), (.int .i64 0)] (tp 19) (tp 19)) [7],
  o2 21 (.build [(.int .i64 0), (.int .i64 0), (.sl hA true []), (.str []), (.sl hB true []), (.int .i64 0), (.int .i64 0), (.sl hA true []), (.bool false)] [(0, 3, (tp 13)), (3, 2, (tp 15)), (5, 1, (ci 1)), (7, 1, (tp 20))]) [1, 3, 8],
  o2 22 (.call (.con (.fn 94 [] [])) [(tp 21)]) [9],
  ⟨none, .store 9 (tp 2) (tp 22), none, [0, 1, 2, 3, 4, 5, 6, 7, 8, 9, 10]⟩,
  o2 3 (.mv (ci 0)) [0, 1, 2, 3, 4, 5, 6, 7, 8, 9, 10, 11]])
 (.ret)) (.seq (.ops false [o1 24 (.bin .eql 0 [] (tp 9) (ci 2)),
  o1 23 (.mv (tp 24))])
 (.cond (tp 23) (.seq (.ops false [o1 25 (.fldA 1 (tp 1)),
  o1 26 (.load 3 true (tp 25)),
  o1 27 (.fldA 5 (tp 1)),
  o1 28 (.load 1 false (tp 27)),
  o1 29 (.build [(.int .i64 0), (.int .i64 0), (.sl hA true []), (.str []), (.sl hB true []), (.int .i64 0), (.int .i64 0), (.sl hA true []), (.bool false)] [(0, 3, (tp 26)), (5, 1, (ci 7)), (6, 1, (tp 28))]),
  o1 30 (.call (.con (.fn 94 [] [])) [(tp 29)]),
  ⟨none, .store 9 (tp 2) (tp 30), none, []⟩,
  o1 3 (.mv (ci 0))])
 (.ret)) (.skip)))))))
 (.seq (.ops false [o1 31 (.build [(.int .i64 0), (.int .i64 0), (.sl hA true []), (.str []), (.sl hB true []), (.int .i64 0), (.int .i64 0), (.sl hA true []), (.bool false)] []),
  ⟨none, .store 9 (tp 2) (tp 31), none, []⟩,
  o1 3 (.mv (ci 210))])
 (.ret))))⟩
/-- entente/ident.Show -/
def c70 : AFn := ⟨41, [.tmp 2, .tmp 3], .seq (.ops false [o1 1 (.box (tp 0)),
  o1 2 (.mv (.con (.d (.str [])))),
  o1 3 (.mv (ci 0))])
 (.seq (.seq (.ops false [o1 8 (.load 3 true (tp 1)),
  o1 9 (.call (.con (.fn 74 [] [])) [(tp 8)]),
  o1 4 (.mv (tp 9))])
 (.seq (.ops false [o1 10 (.mv (tp 4)),
  o1 11 (.bin .neq 0 [] (tp 10) (ci 0))])
 (.cond (tp 11) (.seq (.ops false [o1 12 (.mv (tp 4)),
  o1 2 (.mv (.con (.d (.str [])))),
  o1 3 (.mv (tp 12))])
 (.ret)) (.skip))))
 (.seq (.ops true [o1 13 (.fldA 0 (tp 1)),
  o2 14 (.load 1 false (tp 13)) [0],
  o2 15 (.call (.con (.fn 71 [] [])) [(tp 14)]) [1],
  o2 16 (.bin .add 0 [] (tp 15) (.con (.d (.str [46])))) [2],
  o1 17 (.fldA 1 (tp 1)),
  o2 18 (.load 1 false (tp 17)) [4],
  o2 19 (.call (.con (.fn 71 [] [])) [(tp 18)]) [2, 5],
  o2 20 (.bin .add 0 [] (tp 16) (tp 19)) [3, 6],
  o2 5 (.mv (tp 20)) [0, 1, 2, 3, 4, 5, 6, 7]])
 (.seq (.seq (.ops false [o1 21 (.fldA 2 (tp 1)),
  o1 22 (.load 1 false (tp 21)),
  o1 23 (.len 1 (tp 22)),
  o1 24 (.mv (ci 0))])
 (.block 0 (.loop 0 (some ([5, 22, 23, 24], [0, 1, 2, 3, 4, 5, 6, 7, 128, 129, 130, 131, 160, 161, 640, 641, 642, 643, 672, 673, 1024, 1025, 1026, 1027, 1056, 1057, 1280, 1281, 1282, 1283, 1312, 1313])) (.seq (.ops false [o1 25 (.bin .lss 0 [] (tp 24) (tp 23))])
 (.seq (.cond (tp 25) (.skip) (.exit 0))
 (.seq (.block 1 (.seq (.ops false [o1 26 (.ixS hA (tp 22) (tp 24)),
  o1 27 (.load 2 true (tp 26)),
  o1 7 (.alloc [(.int .i64 0), (.int .i64 0)]),
  ⟨none, .store 2 (tp 7) (tp 27), none, []⟩])
 (.ops true [o1 28 (.mv (tp 5)),
  o1 29 (.fldA 0 (tp 7)),
  o2 30 (.load 1 false (tp 29)) [1],
  o2 31 (.call (.con (.fn 71 [] [])) [(tp 30)]) [2],
  o2 32 (.bin .add 0 [] (.con (.d (.str [47]))) (tp 31)) [3],
  o2 33 (.bin .add 0 [] (tp 32) (.con (.d (.str [64])))) [4],
  o1 34 (.fldA 1 (tp 7)),
  o2 35 (.load 1 false (tp 34)) [6],
  o2 36 (.call (.con (.fn 71 [] [])) [(tp 35)]) [3, 7],
  o2 37 (.bin .add 0 [] (tp 33) (tp 36)) [5, 8],
  o2 38 (.bin .add 0 [] (tp 28) (tp 37)) [0, 9],
  o2 5 (.mv (tp 38)) [0, 1, 2, 3, 4, 5, 6, 7, 8, 9, 10]])))
 (.ops false [o1 39 (.bin .add 0 [] (tp 24) (ci 1)),
  o1 24 (.mv (tp 39))])))))))
 (.seq (.ops false [o1 40 (.mv (tp 5)),
  o1 2 (.mv (tp 40)),
  o1 3 (.mv (ci 0))])
 (.ret)))))⟩
/-- strconv.Itoa -/
def c71 : AFn := ⟨5, [.tmp 2], .seq (.ops false [o1 2 (.mv (.con (.d (.str []))))])
 (.seq (.ops false [o1 3 (.mv (tp 0)),
  o1 4 (.call (.con (.fn 124 [] [])) [(tp 3)]),
  o1 2 (.mv (tp 4))])
 (.ret))⟩
/-- entente/ident.Check -/
def c74 : AFn := ⟨44, [.tmp 2], .seq (.ops false [o1 1 (.box (tp 0)),
  o1 2 (.mv (ci 0))])
 (.seq (.seq (.ops false [o1 6 (.fldA 1 (tp 1)),
  o1 7 (.load 1 false (tp 6)),
  o1 8 (.bin .lss 0 [] (tp 7) (ci 1)),
  o1 9 (.mv (tp 8)),
  o3 10 (.fldA 1 (tp 1)) 9 false [],
  o3 11 (.load 1 false (tp 10)) 9 false [],
  o3 12 (.bin .gtr 0 [] (tp 11) (ci 999999)) 9 false [],
  o1 13 (.pick (tp 9) (.con (.d (.bool true))) (tp 12)),
  o1 14 (.mv (tp 13)),
  o3 15 (.fldA 2 (tp 1)) 14 false [],
  o3 16 (.load 1 false (tp 15)) 14 false [],
  o3 17 (.len 1 (tp 16)) 14 false [],
  o3 18 (.bin .gtr 0 [] (tp 17) (ci 4)) 14 false [],
  o1 19 (.pick (tp 14) (.con (.d (.bool true))) (tp 18))])
 (.cond (tp 19) (.seq (.ops false [o1 2 (.mv (ci 30))])
 (.ret)) (.skip)))
 (.seq (.ops false [o1 3 (.allocA .bool [(.bool false), (.bool false), (.bool false), (.bool false), (.bool false), (.bool false), (.bool false), (.bool false), (.bool false), (.bool false), (.bool false), (.bool false), (.bool false), (.bool false), (.bool false), (.bool false)] 16)])
 (.seq (.seq (.ops false [o1 20 (.load 3 true (tp 1)),
  o1 21 (.call (.con (.fn 107 [] [])) [(tp 20)]),
  o1 22 (.len 1 (tp 21)),
  o1 23 (.mv (ci 0))])
 (.block 0 (.loop 0 (some ([1, 3, 21, 22, 23], [0, 1, 2, 3, 4, 5, 6, 7, 128, 129, 130, 131, 160, 161, 256, 257, 258, 259, 288, 289, 1408, 1409, 1410, 1411, 1440, 1441, 2816, 2817, 2818, 2819, 2848, 2849])) (.seq (.ops false [o1 24 (.bin .lss 0 [] (tp 23) (tp 22))])
 (.seq (.cond (tp 24) (.skip) (.exit 0))
 (.seq (.block 1 (.seq (.ops false [o1 25 (.ixS (.int .i64) (tp 21) (tp 23)),
  o1 26 (.load 1 false (tp 25)),
  o1 5 (.mv (tp 26))])
 (.seq (.seq (.ops false [o1 27 (.mv (tp 5)),
  o1 28 (.bin .lss 0 [] (tp 27) (ci 0)),
  o1 29 (.mv (tp 28)),
  o3 30 (.mv (tp 5)) 29 false [],
  o3 31 (.bin .geq 0 [] (tp 30) (ci 16)) 29 false [],
  o1 32 (.pick (tp 29) (.con (.d (.bool true))) (tp 31)),
  o1 33 (.mv (tp 32)),
  o3 34 (.mv (tp 5)) 33 false [],
  o3 35 (.ixP .bool 16 (tp 3) (tp 34)) 33 false [],
  o3 36 (.load 1 false (tp 35)) 33 false [],
  o1 37 (.pick (tp 33) (.con (.d (.bool true))) (tp 36))])
 (.cond (tp 37) (.seq (.ops false [o1 2 (.mv (ci 30))])
 (.ret)) (.skip)))
 (.ops false [o1 38 (.mv (tp 5)),
  o1 39 (.ixP .bool 16 (tp 3) (tp 38)),
  ⟨none, .store 1 (tp 39) (.con (.d (.bool true))), none, []⟩]))))
 (.ops false [o1 40 (.bin .add 0 [] (tp 23) (ci 1)),
  o1 23 (.mv (tp 40))])))))))
 (.seq (.seq (.ops false [o1 41 (.fldA 2 (tp 1)),
  o1 42 (.load 1 false (tp 41)),
  o1 43 (.call (.con (.fn 125 [] [])) [(tp 42), (.con (.fn 126 [] []))])])
 (.cond (tp 43) (.seq (.ops false [o1 2 (.mv (ci 30))])
 (.ret)) (.skip)))
 (.seq (.ops false [o1 2 (.mv (ci 0))])
 (.ret))))))⟩
/-- entente/saga.why -/
def c75 : AFn := ⟨9, [.tmp 2], .seq (.ops false [o1 2 (.mv (.con (.d (.bool false))))])
 (.seq (.ops false [o1 3 (.mv (tp 0)),
  o1 4 (.bin .geq 0 [] (tp 3) (ci 1)),
  o1 5 (.mv (tp 4)),
  o3 6 (.mv (tp 0)) 5 true [],
  o3 7 (.bin .leq 0 [] (tp 6) (ci 9)) 5 true [],
  o1 8 (.pick (tp 5) (tp 7) (.con (.d (.bool false)))),
  o1 2 (.mv (tp 8))])
 (.ret))⟩
/-- entente/def.Check -/
def c76 : AFn := ⟨22, [.tmp 2], .seq (.ops false [o1 1 (.box (tp 0)),
  o1 2 (.mv (ci 0))])
 (.seq (.seq (.ops false [o1 3 (.fldA 0 (tp 1)),
  o1 4 (.load 1 false (tp 3)),
  o1 5 (.call (.con (.fn 106 [] [])) [(tp 4)]),
  o1 6 (.un .not (tp 5)),
  o1 7 (.mv (tp 6)),
  o3 8 (.fldA 1 (tp 1)) 7 false [],
  o3 9 (.load 1 false (tp 8)) 7 false [],
  o3 10 (.len 1 (tp 9)) 7 false [],
  o3 11 (.bin .lss 0 [] (tp 10) (ci 1)) 7 false [],
  o1 12 (.pick (tp 7) (.con (.d (.bool true))) (tp 11)),
  o1 13 (.mv (tp 12)),
  o3 14 (.fldA 1 (tp 1)) 13 false [],
  o3 15 (.load 1 false (tp 14)) 13 false [],
  o3 16 (.len 1 (tp 15)) 13 false [],
  o3 17 (.bin .gtr 0 [] (tp 16) (ci 8)) 13 false [],
  o1 18 (.pick (tp 13) (.con (.d (.bool true))) (tp 17))])
 (.cond (tp 18) (.seq (.ops false [o1 2 (.mv (ci 90))])
 (.ret)) (.skip)))
 (.seq (.seq (.ops false [o1 19 (.fldA 1 (tp 1)),
  o1 20 (.load 1 false (tp 19)),
  o1 21 (.call (.con (.fn 127 [] [])) [(tp 20), (.con (.fn 128 [] []))])])
 (.cond (tp 21) (.seq (.ops false [o1 2 (.mv (ci 90))])
 (.ret)) (.skip)))
 (.seq (.ops false [o1 2 (.mv (ci 0))])
 (.ret))))⟩
/-- (*entente/saga.holder).all -/
def c77 : AFn := ⟨20, [.tmp 4], .seq (.ops false [o1 4 (.mv (.con (.d (.bool false))))])
 (.seq (.seq (.ops false [o1 6 (.mv (tp 0)),
  o1 7 (.nilck (tp 6)),
  o1 8 (.fldA 0 (tp 7)),
  o1 9 (.fldA 7 (tp 8)),
  o1 10 (.load 1 false (tp 9)),
  o1 11 (.len 1 (tp 10)),
  o1 12 (.mv (ci 0))])
 (.block 0 (.loop 0 (some ([1, 11, 12], [0, 1, 2, 3, 4, 5, 6, 7])) (.seq (.ops false [o1 13 (.bin .lss 0 [] (tp 12) (tp 11))])
 (.seq (.cond (tp 13) (.skip) (.exit 0))
 (.seq (.block 1 (.seq (.ops false [o1 14 (.mv (tp 12)),
  o1 5 (.mv (tp 14))])
 (.seq (.ops false [o1 15 (.mv (tp 1)),
  o1 16 (.mv (tp 5)),
  o1 17 (.call (tp 15) [(tp 16)]),
  o1 18 (.un .not (tp 17))])
 (.cond (tp 18) (.seq (.ops false [o1 4 (.mv (.con (.d (.bool false))))])
 (.ret)) (.skip)))))
 (.ops false [o1 19 (.bin .add 0 [] (tp 12) (ci 1)),
  o1 12 (.mv (tp 19))])))))))
 (.seq (.ops false [o1 4 (.mv (.con (.d (.bool true))))])
 (.ret)))⟩
/-- entente/saga.May$1 -/
def c78 : AFn := ⟨39, [.tmp 4], .seq (.ops false [o1 4 (.mv (.con (.d (.bool false))))])
 (.seq (.ops false [o1 6 (.fldA 7 (tp 1)),
  o1 7 (.load 1 false (tp 6)),
  o1 8 (.mv (tp 0)),
  o1 9 (.ixS hA (tp 7) (tp 8)),
  o1 10 (.load 2 true (tp 9)),
  o1 5 (.alloc [(.int .i64 0), (.int .i64 0)]),
  ⟨none, .store 2 (tp 5) (tp 10), none, []⟩])
 (.seq (.ops false [o1 11 (.fldA 0 (tp 5)),
  o1 12 (.load 1 false (tp 11)),
  o1 13 (.bin .geq 0 [] (tp 12) (ci 0)),
  o1 14 (.mv (tp 13)),
  o3 15 (.fldA 0 (tp 5)) 14 true [],
  o3 16 (.load 1 false (tp 15)) 14 true [],
  o3 17 (.bin .leq 0 [] (tp 16) (ci 4)) 14 true [],
  o1 18 (.pick (tp 14) (tp 17) (.con (.d (.bool false)))),
  o1 19 (.mv (tp 18)),
  o3 20 (.load 1 false (tp 2)) 19 true [],
  o3 21 (.mv (tp 0)) 19 true [],
  o3 22 (.call (.con (.fn 79 [] [])) [(tp 20), (tp 21)]) 19 true [],
  o3 23 (.mv (tp 22)) 19 true [],
  o3 24 (.fldA 0 (tp 5)) 23 false [],
  o3 25 (.load 1 false (tp 24)) 23 false [],
  o3 26 (.bin .neq 0 [] (tp 25) (ci 1)) 23 false [],
  o3 27 (.pick (tp 23) (.con (.d (.bool true))) (tp 26)) 19 true [],
  o1 28 (.pick (tp 19) (tp 27) (.con (.d (.bool false)))),
  o1 29 (.mv (tp 28)),
  o3 30 (.fldA 1 (tp 5)) 29 true [],
  o3 31 (.load 1 false (tp 30)) 29 true [],
  o3 32 (.bin .geq 0 [] (tp 31) (ci 0)) 29 true [],
  o1 33 (.pick (tp 29) (tp 32) (.con (.d (.bool false)))),
  o1 34 (.mv (tp 33)),
  o3 35 (.fldA 1 (tp 5)) 34 true [],
  o3 36 (.load 1 false (tp 35)) 34 true [],
  o3 37 (.bin .leq 0 [] (tp 36) (ci 5)) 34 true [],
  o1 38 (.pick (tp 34) (tp 37) (.con (.d (.bool false)))),
  o1 4 (.mv (tp 38))])
 (.ret)))⟩
/-- (*entente/saga.holder).asks -/
def c79 : AFn := ⟨16, [.tmp 4], .seq (.ops false [o1 4 (.mv (.con (.d (.bool false))))])
 (.seq (.ops false [o1 5 (.mv (tp 0)),
  o1 6 (.nilck (tp 5)),
  o1 7 (.fldA 0 (tp 6)),
  o1 8 (.fldA 3 (tp 7)),
  o1 9 (.fldA 1 (tp 8)),
  o1 10 (.load 1 false (tp 9)),
  o1 11 (.mv (tp 1)),
  o1 12 (.ixS hB (tp 10) (tp 11)),
  o1 13 (.fldA 4 (tp 12)),
  o1 14 (.load 1 false (tp 13)),
  o1 15 (.bin .neq 0 [] (tp 14) (.con (.d (.str [])))),
  o1 4 (.mv (tp 15))])
 (.ret))⟩
/-- (*entente/saga.holder).fits -/
def c80 : AFn := ⟨176, [.tmp 2], .seq (.ops false [o1 1 (.box (tp 0)),
  o1 2 (.mv (.con (.d (.bool false))))])
 (.seq (.ops true [o1 6 (.load 1 false (tp 1)),
  o2 7 (.nilck (tp 6)) [0],
  o2 8 (.fldA 0 (tp 7)) [1],
  o2 9 (.fldA 8 (tp 8)) [2],
  o2 10 (.load 1 false (tp 9)) [3],
  o1 11 (.load 1 false (tp 1)),
  o2 12 (.nilck (tp 11)) [5],
  o2 13 (.fldA 0 (tp 12)) [6],
  o2 14 (.fldA 0 (tp 13)) [7],
  o2 15 (.fldA 2 (tp 14)) [8],
  o2 16 (.load 1 false (tp 15)) [9],
  o2 17 (.len 1 (tp 16)) [10],
  o2 18 (.bin .gtr 0 [] (tp 17) (ci 0)) [11],
  o2 3 (.mv (tp 10)) [0, 1, 2, 3, 4],
  o2 4 (.mv (tp 18)) [0, 1, 2, 3, 4, 5, 6, 7, 8, 9, 10, 11, 12, 13]])
 (.seq (.seq (.ops false [o1 19 (.load 1 false (tp 1)),
  o1 20 (.nilck (tp 19)),
  o1 21 (.fldA 0 (tp 20)),
  o1 22 (.fldA 5 (tp 21)),
  o1 23 (.load 1 false (tp 22))])
 (.block 0 (.seq (.ops false [o1 25 (.bin .eql 0 [] (tp 23) (ci 1)),
  o1 24 (.mv (tp 25))])
 (.cond (tp 24) (.seq (.ops false [o1 26 (.mv (tp 3)),
  o1 27 (.un .not (tp 26)),
  o1 28 (.mv (tp 27)),
  o3 29 (.load 1 false (tp 1)) 28 true [],
  o3 30 (.nilck (tp 29)) 28 true [],
  o3 31 (.fldA 0 (tp 30)) 28 true [],
  o3 32 (.fldA 6 (tp 31)) 28 true [],
  o3 33 (.load 1 false (tp 32)) 28 true [],
  o3 34 (.bin .eql 0 [] (tp 33) (ci 0)) 28 true [],
  o1 35 (.pick (tp 28) (tp 34) (.con (.d (.bool false)))),
  o1 36 (.mv (tp 35)),
  o3 37 (.load 1 false (tp 1)) 36 true [],
  o3 38 (.call (.con (.fn 131 [] [])) [(tp 37)]) 36 true [],
  o1 39 (.pick (tp 36) (tp 38) (.con (.d (.bool false)))),
  o1 2 (.mv (tp 39))])
 (.ret)) (.seq (.ops false [o1 41 (.bin .eql 0 [] (tp 23) (ci 2)),
  o1 40 (.mv (tp 41))])
 (.cond (tp 40) (.seq (.ops false [o1 42 (.mv (tp 3)),
  o1 43 (.un .not (tp 42)),
  o1 44 (.mv (tp 43)),
  o3 45 (.load 1 false (tp 1)) 44 true [],
  o3 46 (.nilck (tp 45)) 44 true [],
  o3 47 (.fldA 0 (tp 46)) 44 true [],
  o3 48 (.fldA 6 (tp 47)) 44 true [],
  o3 49 (.load 1 false (tp 48)) 44 true [],
  o3 50 (.bin .eql 0 [] (tp 49) (ci 0)) 44 true [],
  o1 51 (.pick (tp 44) (tp 50) (.con (.d (.bool false)))),
  o1 52 (.mv (tp 51)),
  o3 53 (.mv (tp 4)) 52 true [],
  o1 54 (.pick (tp 52) (tp 53) (.con (.d (.bool false)))),
  o1 55 (.mv (tp 54)),
  o3 56 (.load 1 false (tp 1)) 55 true [],
  o3 57 (.load 1 false (tp 1)) 55 true [],
  o3 58 (.mkF 132 [(tp 57)] []) 55 true [],
  o3 59 (.call (.con (.fn 77 [] [])) [(tp 56), (tp 58)]) 55 true [],
  o1 60 (.pick (tp 55) (tp 59) (.con (.d (.bool false)))),
  o1 2 (.mv (tp 60))])
 (.ret)) (.seq (.ops false [o1 62 (.bin .eql 0 [] (tp 23) (ci 3)),
  o1 61 (.mv (tp 62))])
 (.cond (tp 61) (.seq (.seq (.ops false [o1 63 (.mv (tp 3))])
 (.cond (tp 63) (.seq (.ops false [o1 64 (.load 1 false (tp 1)),
  o1 65 (.nilck (tp 64)),
  o1 66 (.fldA 0 (tp 65)),
  o1 67 (.fldA 6 (tp 66)),
  o1 68 (.load 1 false (tp 67)),
  o1 69 (.bin .eql 0 [] (tp 68) (ci 0)),
  o1 70 (.mv (tp 69)),
  o3 71 (.load 1 false (tp 1)) 70 false [],
  o3 72 (.nilck (tp 71)) 70 false [],
  o3 73 (.fldA 0 (tp 72)) 70 false [],
  o3 74 (.fldA 6 (tp 73)) 70 false [],
  o3 75 (.load 1 false (tp 74)) 70 false [],
  o3 76 (.call (.con (.fn 75 [] [])) [(tp 75)]) 70 false [],
  o1 77 (.pick (tp 70) (.con (.d (.bool true))) (tp 76)),
  o1 78 (.mv (tp 77)),
  o3 79 (.load 1 false (tp 1)) 78 true [],
  o3 80 (.mkF 133 [] [(tp 1)]) 78 true [],
  o3 81 (.call (.con (.fn 77 [] [])) [(tp 79), (tp 80)]) 78 true [],
  o1 82 (.pick (tp 78) (tp 81) (.con (.d (.bool false)))),
  o1 2 (.mv (tp 82))])
 (.ret)) (.skip)))
 (.seq (.ops false [o1 83 (.load 1 false (tp 1)),
  o1 84 (.nilck (tp 83)),
  o1 85 (.fldA 0 (tp 84)),
  o1 86 (.fldA 6 (tp 85)),
  o1 87 (.load 1 false (tp 86)),
  o1 88 (.bin .eql 0 [] (tp 87) (ci 0)),
  o1 89 (.mv (tp 88)),
  o3 90 (.load 1 false (tp 1)) 89 true [],
  o3 91 (.mkF 134 [] [(tp 1)]) 89 true [],
  o3 92 (.call (.con (.fn 77 [] [])) [(tp 90), (tp 91)]) 89 true [],
  o1 93 (.pick (tp 89) (tp 92) (.con (.d (.bool false)))),
  o1 2 (.mv (tp 93))])
 (.ret))) (.seq (.seq (.ops false [o1 95 (.bin .eql 0 [] (tp 23) (ci 4)),
  o1 94 (.mv (tp 95))])
 (.cond (tp 94) (.skip) (.ops false [o1 96 (.bin .eql 0 [] (tp 23) (ci 5)),
  o1 94 (.mv (tp 96))])))
 (.cond (tp 94) (.seq (.seq (.ops false [o1 97 (.mv (tp 3)),
  o1 98 (.mv (tp 97)),
  o3 99 (.load 1 false (tp 1)) 98 false [],
  o3 100 (.nilck (tp 99)) 98 false [],
  o3 101 (.fldA 0 (tp 100)) 98 false [],
  o3 102 (.fldA 6 (tp 101)) 98 false [],
  o3 103 (.load 1 false (tp 102)) 98 false [],
  o3 104 (.call (.con (.fn 75 [] [])) [(tp 103)]) 98 false [],
  o3 105 (.un .not (tp 104)) 98 false [],
  o1 106 (.pick (tp 98) (.con (.d (.bool true))) (tp 105)),
  o1 107 (.mv (tp 106)),
  o3 108 (.load 1 false (tp 1)) 107 false [],
  o3 109 (.buildSl (.int .i64) [(.int .i64 0)] 1 [(0, 1, (ci 4))]) 107 false [],
  o3 110 (.call (.con (.fn 91 [] [])) [(tp 108), (tp 109)]) 107 false [],
  o1 111 (.pick (tp 107) (.con (.d (.bool true))) (tp 110))])
 (.cond (tp 111) (.seq (.ops false [o1 2 (.mv (.con (.d (.bool false))))])
 (.ret)) (.skip)))
 (.seq (.ops false [o1 112 (.load 1 false (tp 1)),
  o1 113 (.call (.con (.fn 90 [] [])) [(tp 112)]),
  o1 5 (.mv (tp 113))])
 (.seq (.ops false [o1 114 (.load 1 false (tp 1)),
  o1 115 (.nilck (tp 114)),
  o1 116 (.fldA 0 (tp 115)),
  o1 117 (.fldA 5 (tp 116)),
  o1 118 (.load 1 false (tp 117)),
  o1 119 (.bin .eql 0 [] (tp 118) (ci 4)),
  o1 120 (.mv (tp 119)),
  o3 121 (.mv (tp 5)) 120 false [],
  o3 122 (.bin .geq 0 [] (tp 121) (ci 0)) 120 false [],
  o3 123 (.mv (tp 122)) 120 false [],
  o3 124 (.load 1 false (tp 1)) 123 true [],
  o3 125 (.mv (tp 5)) 123 true [],
  o3 126 (.call (.con (.fn 79 [] [])) [(tp 124), (tp 125)]) 123 true [],
  o3 127 (.un .not (tp 126)) 123 true [],
  o3 128 (.pick (tp 123) (tp 127) (.con (.d (.bool false)))) 120 false [],
  o3 129 (.mv (tp 128)) 120 false [],
  o3 130 (.load 1 false (tp 1)) 129 true [],
  o3 131 (.nilck (tp 130)) 129 true [],
  o3 132 (.fldA 0 (tp 131)) 129 true [],
  o3 133 (.fldA 7 (tp 132)) 129 true [],
  o3 134 (.load 1 false (tp 133)) 129 true [],
  o3 135 (.mv (tp 5)) 129 true [],
  o3 136 (.ixS hA (tp 134) (tp 135)) 129 true [],
  o3 137 (.fldA 1 (tp 136)) 129 true [],
  o3 138 (.load 1 false (tp 137)) 129 true [],
  o3 139 (.bin .eql 0 [] (tp 138) (ci 5)) 129 true [],
  o3 140 (.pick (tp 129) (tp 139) (.con (.d (.bool false)))) 120 false [],
  o1 141 (.pick (tp 120) (.con (.d (.bool true))) (tp 140)),
  o1 2 (.mv (tp 141))])
 (.ret)))) (.seq (.ops false [o1 143 (.bin .eql 0 [] (tp 23) (ci 6)),
  o1 142 (.mv (tp 143))])
 (.cond (tp 142) (.seq (.seq (.ops false [o1 144 (.mv (tp 3))])
 (.cond (tp 144) (.seq (.ops false [o1 145 (.load 1 false (tp 1)),
  o1 146 (.nilck (tp 145)),
  o1 147 (.fldA 0 (tp 146)),
  o1 148 (.fldA 6 (tp 147)),
  o1 149 (.load 1 false (tp 148)),
  o1 150 (.bin .eql 0 [] (tp 149) (ci 0)),
  o1 151 (.mv (tp 150)),
  o3 152 (.load 1 false (tp 1)) 151 false [],
  o3 153 (.nilck (tp 152)) 151 false [],
  o3 154 (.fldA 0 (tp 153)) 151 false [],
  o3 155 (.fldA 6 (tp 154)) 151 false [],
  o3 156 (.load 1 false (tp 155)) 151 false [],
  o3 157 (.call (.con (.fn 75 [] [])) [(tp 156)]) 151 false [],
  o1 158 (.pick (tp 151) (.con (.d (.bool true))) (tp 157)),
  o1 159 (.mv (tp 158)),
  o3 160 (.load 1 false (tp 1)) 159 true [],
  o3 161 (.mkF 135 [] [(tp 1)]) 159 true [],
  o3 162 (.call (.con (.fn 77 [] [])) [(tp 160), (tp 161)]) 159 true [],
  o1 163 (.pick (tp 159) (tp 162) (.con (.d (.bool false)))),
  o1 2 (.mv (tp 163))])
 (.ret)) (.skip)))
 (.seq (.ops false [o1 164 (.load 1 false (tp 1)),
  o1 165 (.nilck (tp 164)),
  o1 166 (.fldA 0 (tp 165)),
  o1 167 (.fldA 6 (tp 166)),
  o1 168 (.load 1 false (tp 167)),
  o1 169 (.call (.con (.fn 75 [] [])) [(tp 168)]),
  o1 170 (.mv (tp 169)),
  o3 171 (.load 1 false (tp 1)) 170 true [],
  o3 172 (.buildSl (.int .i64) [(.int .i64 0)] 3 [(0, 1, (ci 1)), (1, 1, (ci 2)), (2, 1, (ci 4))]) 170 true [],
  o3 173 (.call (.con (.fn 91 [] [])) [(tp 171), (tp 172)]) 170 true [],
  o3 174 (.un .not (tp 173)) 170 true [],
  o1 175 (.pick (tp 170) (tp 174) (.con (.d (.bool false)))),
  o1 2 (.mv (tp 175))])
 (.ret))) (.skip)))))))))))))
 (.seq (.ops false [o1 2 (.mv (.con (.d (.bool false))))])
 (.ret))))⟩
/-- entente/ententeref21.reason -/
def c81 : AFn := ⟨9, [.tmp 2], .seq (.ops false [o1 2 (.mv (.con (.d (.bool false))))])
 (.seq (.ops false [o1 3 (.mv (tp 0)),
  o1 4 (.bin .geq 0 [] (tp 3) (ci 1)),
  o1 5 (.mv (tp 4)),
  o3 6 (.mv (tp 0)) 5 true [],
  o3 7 (.bin .leq 0 [] (tp 6) (ci 9)) 5 true [],
  o1 8 (.pick (tp 5) (tp 7) (.con (.d (.bool false)))),
  o1 2 (.mv (tp 8))])
 (.ret))⟩
/-- entente/ententeref21.parts -/
def c82 : AFn := ⟨60, [.tmp 2], .seq (.ops false [o1 1 (.box (tp 0)),
  o1 2 (.mv (.con (.d (.bool false))))])
 (.seq (.seq (.ops false [o1 5 (.fldA 3 (tp 1)),
  o1 6 (.load 2 true (tp 5)),
  o1 7 (.call (.con (.fn 136 [] [])) [(tp 6)]),
  o1 8 (.bin .neq 0 [] (tp 7) (ci 0)),
  o1 9 (.mv (tp 8)),
  o3 10 (.fldA 7 (tp 1)) 9 false [],
  o3 11 (.load 1 false (tp 10)) 9 false [],
  o3 12 (.len 1 (tp 11)) 9 false [],
  o3 13 (.fldA 3 (tp 1)) 9 false [],
  o3 14 (.fldA 1 (tp 13)) 9 false [],
  o3 15 (.load 1 false (tp 14)) 9 false [],
  o3 16 (.len 1 (tp 15)) 9 false [],
  o3 17 (.bin .neq 0 [] (tp 12) (tp 16)) 9 false [],
  o1 18 (.pick (tp 9) (.con (.d (.bool true))) (tp 17))])
 (.cond (tp 18) (.seq (.ops false [o1 2 (.mv (.con (.d (.bool false))))])
 (.ret)) (.skip)))
 (.seq (.seq (.ops false [o1 3 (.mv (ci 0))])
 (.block 0 (.loop 0 (some ([1, 3], [0, 1, 2, 3, 4, 5, 6, 7, 128, 129, 130, 131, 160, 161, 512, 513, 514, 515, 544, 545])) (.seq (.seq (.ops false [o1 19 (.mv (tp 3)),
  o1 20 (.fldA 7 (tp 1)),
  o1 21 (.load 1 false (tp 20)),
  o1 22 (.len 1 (tp 21)),
  o1 23 (.bin .lss 0 [] (tp 19) (tp 22))])
 (.cond (tp 23) (.skip) (.exit 0)))
 (.seq (.block 1 (.seq (.ops false [o1 26 (.fldA 7 (tp 1)),
  o1 27 (.load 1 false (tp 26)),
  o1 28 (.mv (tp 3)),
  o1 29 (.ixS hA (tp 27) (tp 28)),
  o1 30 (.load 2 true (tp 29)),
  o1 4 (.alloc [(.int .i64 0), (.int .i64 0)]),
  ⟨none, .store 2 (tp 4) (tp 30), none, []⟩])
 (.seq (.ops false [o1 31 (.fldA 0 (tp 4)),
  o1 32 (.load 1 false (tp 31)),
  o1 33 (.bin .lss 0 [] (tp 32) (ci 0)),
  o1 34 (.mv (tp 33)),
  o3 35 (.fldA 0 (tp 4)) 34 false [],
  o3 36 (.load 1 false (tp 35)) 34 false [],
  o3 37 (.bin .gtr 0 [] (tp 36) (ci 4)) 34 false [],
  o1 38 (.pick (tp 34) (.con (.d (.bool true))) (tp 37)),
  o1 39 (.mv (tp 38)),
  o3 40 (.fldA 0 (tp 4)) 39 false [],
  o3 41 (.load 1 false (tp 40)) 39 false [],
  o3 42 (.bin .eql 0 [] (tp 41) (ci 1)) 39 false [],
  o3 43 (.mv (tp 42)) 39 false [],
  o3 44 (.load 9 true (tp 1)) 43 true [],
  o3 45 (.mv (tp 3)) 43 true [],
  o3 46 (.call (.con (.fn 88 [] [])) [(tp 44), (tp 45)]) 43 true [],
  o3 47 (.un .not (tp 46)) 43 true [],
  o3 48 (.pick (tp 43) (tp 47) (.con (.d (.bool false)))) 39 false [],
  o1 49 (.pick (tp 39) (.con (.d (.bool true))) (tp 48)),
  o1 50 (.mv (tp 49)),
  o3 51 (.fldA 1 (tp 4)) 50 false [],
  o3 52 (.load 1 false (tp 51)) 50 false [],
  o3 53 (.bin .lss 0 [] (tp 52) (ci 0)) 50 false [],
  o1 54 (.pick (tp 50) (.con (.d (.bool true))) (tp 53)),
  o1 55 (.mv (tp 54)),
  o3 56 (.fldA 1 (tp 4)) 55 false [],
  o3 57 (.load 1 false (tp 56)) 55 false [],
  o3 58 (.bin .gtr 0 [] (tp 57) (ci 5)) 55 false [],
  o1 59 (.pick (tp 55) (.con (.d (.bool true))) (tp 58))])
 (.cond (tp 59) (.seq (.ops false [o1 2 (.mv (.con (.d (.bool false))))])
 (.ret)) (.skip)))))
 (.ops false [o1 24 (.mv (tp 3)),
  o1 25 (.bin .add 0 [] (tp 24) (ci 1)),
  o1 3 (.mv (tp 25))]))))))
 (.seq (.ops false [o1 2 (.mv (.con (.d (.bool true))))])
 (.ret))))⟩
/-- entente/ententeref21.forced -/
def c83 : AFn := ⟨30, [.tmp 2], .seq (.ops false [o1 1 (.box (tp 0)),
  o1 2 (.mv (.con (.d (.bool false))))])
 (.seq (.seq (.ops false [o1 3 (.fldA 6 (tp 1)),
  o1 4 (.load 1 false (tp 3)),
  o1 5 (.bin .neq 0 [] (tp 4) (ci 0)),
  o1 6 (.mv (tp 5)),
  o3 7 (.fldA 6 (tp 1)) 6 true [],
  o3 8 (.load 1 false (tp 7)) 6 true [],
  o3 9 (.call (.con (.fn 81 [] [])) [(tp 8)]) 6 true [],
  o3 10 (.un .not (tp 9)) 6 true [],
  o1 11 (.pick (tp 6) (tp 10) (.con (.d (.bool false)))),
  o1 12 (.mv (tp 11)),
  o3 13 (.load 9 true (tp 1)) 12 false [],
  o3 14 (.call (.con (.fn 86 [] [])) [(tp 13), (.con (.d (.bool true))), (ci 2)]) 12 false [],
  o3 15 (.bin .gtr 0 [] (tp 14) (ci 0)) 12 false [],
  o1 16 (.pick (tp 12) (.con (.d (.bool true))) (tp 15))])
 (.cond (tp 16) (.seq (.ops false [o1 2 (.mv (.con (.d (.bool false))))])
 (.ret)) (.skip)))
 (.seq (.ops false [o1 17 (.fldA 5 (tp 1)),
  o1 18 (.load 1 false (tp 17)),
  o1 19 (.bin .eql 0 [] (tp 18) (ci 3)),
  o1 20 (.mv (tp 19)),
  o3 21 (.fldA 5 (tp 1)) 20 false [],
  o3 22 (.load 1 false (tp 21)) 20 false [],
  o3 23 (.bin .eql 0 [] (tp 22) (ci 6)) 20 false [],
  o3 24 (.mv (tp 23)) 20 false [],
  o3 25 (.load 9 true (tp 1)) 24 true [],
  o3 26 (.call (.con (.fn 86 [] [])) [(tp 25), (.con (.d (.bool true))), (ci 4)]) 24 true [],
  o3 27 (.bin .eql 0 [] (tp 26) (ci 0)) 24 true [],
  o3 28 (.pick (tp 24) (tp 27) (.con (.d (.bool false)))) 20 false [],
  o1 29 (.pick (tp 20) (.con (.d (.bool true))) (tp 28)),
  o1 2 (.mv (tp 29))])
 (.ret)))⟩
/-- entente/ententeref21.running -/
def c84 : AFn := ⟨82, [.tmp 2], .seq (.ops false [o1 1 (.box (tp 0)),
  o1 2 (.mv (.con (.d (.bool false))))])
 (.seq (.ops false [o1 3 (.mv (ci 0))])
 (.seq (.block 0 (.loop 0 (some ([1, 3], [0, 1, 2, 3, 4, 5, 6, 7, 128, 129, 130, 131, 160, 161])) (.seq (.seq (.ops false [o1 4 (.mv (tp 3)),
  o1 5 (.fldA 7 (tp 1)),
  o1 6 (.load 1 false (tp 5)),
  o1 7 (.len 1 (tp 6)),
  o1 8 (.bin .lss 0 [] (tp 4) (tp 7)),
  o1 9 (.mv (tp 8)),
  o3 10 (.fldA 7 (tp 1)) 9 true [],
  o3 11 (.load 1 false (tp 10)) 9 true [],
  o3 12 (.mv (tp 3)) 9 true [],
  o3 13 (.ixS hA (tp 11) (tp 12)) 9 true [],
  o3 14 (.fldA 0 (tp 13)) 9 true [],
  o3 15 (.load 1 false (tp 14)) 9 true [],
  o3 16 (.bin .eql 0 [] (tp 15) (ci 2)) 9 true [],
  o3 17 (.mv (tp 16)) 9 true [],
  o3 18 (.load 9 true (tp 1)) 17 false [],
  o3 19 (.mv (tp 3)) 17 false [],
  o3 20 (.call (.con (.fn 88 [] [])) [(tp 18), (tp 19)]) 17 false [],
  o3 21 (.mv (tp 20)) 17 false [],
  o3 22 (.fldA 7 (tp 1)) 21 true [],
  o3 23 (.load 1 false (tp 22)) 21 true [],
  o3 24 (.mv (tp 3)) 21 true [],
  o3 25 (.ixS hA (tp 23) (tp 24)) 21 true [],
  o3 26 (.fldA 0 (tp 25)) 21 true [],
  o3 27 (.load 1 false (tp 26)) 21 true [],
  o3 28 (.bin .eql 0 [] (tp 27) (ci 3)) 21 true [],
  o3 29 (.pick (tp 21) (tp 28) (.con (.d (.bool false)))) 17 false [],
  o3 30 (.pick (tp 17) (.con (.d (.bool true))) (tp 29)) 9 true [],
  o1 31 (.pick (tp 9) (tp 30) (.con (.d (.bool false))))])
 (.cond (tp 31) (.skip) (.exit 0)))
 (.block 1 (.ops false [o1 32 (.mv (tp 3)),
  o1 33 (.bin .add 0 [] (tp 32) (ci 1)),
  o1 3 (.mv (tp 33))])))))
 (.seq (.seq (.ops false [o1 34 (.mv (tp 3)),
  o1 35 (.fldA 7 (tp 1)),
  o1 36 (.load 1 false (tp 35)),
  o1 37 (.len 1 (tp 36)),
  o1 38 (.bin .lss 0 [] (tp 34) (tp 37)),
  o1 39 (.mv (tp 38)),
  o3 40 (.fldA 7 (tp 1)) 39 true [],
  o3 41 (.load 1 false (tp 40)) 39 true [],
  o3 42 (.mv (tp 3)) 39 true [],
  o3 43 (.ixS hA (tp 41) (tp 42)) 39 true [],
  o3 44 (.fldA 0 (tp 43)) 39 true [],
  o3 45 (.load 1 false (tp 44)) 39 true [],
  o3 46 (.bin .eql 0 [] (tp 45) (ci 0)) 39 true [],
  o3 47 (.mv (tp 46)) 39 true [],
  o3 48 (.fldA 7 (tp 1)) 47 false [],
  o3 49 (.load 1 false (tp 48)) 47 false [],
  o3 50 (.mv (tp 3)) 47 false [],
  o3 51 (.ixS hA (tp 49) (tp 50)) 47 false [],
  o3 52 (.fldA 0 (tp 51)) 47 false [],
  o3 53 (.load 1 false (tp 52)) 47 false [],
  o3 54 (.bin .eql 0 [] (tp 53) (ci 1)) 47 false [],
  o3 55 (.pick (tp 47) (.con (.d (.bool true))) (tp 54)) 39 true [],
  o1 56 (.pick (tp 39) (tp 55) (.con (.d (.bool false))))])
 (.cond (tp 56) (.ops false [o1 57 (.mv (tp 3)),
  o1 58 (.bin .add 0 [] (tp 57) (ci 1)),
  o1 3 (.mv (tp 58))]) (.skip)))
 (.seq (.block 2 (.loop 1 (some ([1, 3], [0, 1, 2, 3, 4, 5, 6, 7, 128, 129, 130, 131, 160, 161, 1344, 1345, 1346, 1347, 1376, 1377])) (.seq (.seq (.ops false [o1 59 (.mv (tp 3)),
  o1 60 (.fldA 7 (tp 1)),
  o1 61 (.load 1 false (tp 60)),
  o1 62 (.len 1 (tp 61)),
  o1 63 (.bin .lss 0 [] (tp 59) (tp 62))])
 (.cond (tp 63) (.skip) (.exit 2)))
 (.block 3 (.seq (.seq (.ops false [o1 64 (.fldA 7 (tp 1)),
  o1 65 (.load 1 false (tp 64)),
  o1 66 (.mv (tp 3)),
  o1 67 (.ixS hA (tp 65) (tp 66)),
  o1 68 (.fldA 0 (tp 67)),
  o1 69 (.load 1 false (tp 68)),
  o1 70 (.bin .neq 0 [] (tp 69) (ci 0)),
  o1 71 (.mv (tp 70)),
  o3 72 (.fldA 7 (tp 1)) 71 false [],
  o3 73 (.load 1 false (tp 72)) 71 false [],
  o3 74 (.mv (tp 3)) 71 false [],
  o3 75 (.ixS hA (tp 73) (tp 74)) 71 false [],
  o3 76 (.fldA 1 (tp 75)) 71 false [],
  o3 77 (.load 1 false (tp 76)) 71 false [],
  o3 78 (.bin .neq 0 [] (tp 77) (ci 0)) 71 false [],
  o1 79 (.pick (tp 71) (.con (.d (.bool true))) (tp 78))])
 (.cond (tp 79) (.seq (.ops false [o1 2 (.mv (.con (.d (.bool false))))])
 (.ret)) (.skip)))
 (.ops false [o1 80 (.mv (tp 3)),
  o1 81 (.bin .add 0 [] (tp 80) (ci 1)),
  o1 3 (.mv (tp 81))]))))))
 (.seq (.ops false [o1 2 (.mv (.con (.d (.bool true))))])
 (.ret))))))⟩
/-- entente/ententeref21.any -/
def c85 : AFn := ⟨12, [.tmp 4], .seq (.ops false [o1 2 (.box (tp 0)),
  o1 4 (.mv (ci 0))])
 (.seq (.ops true [o1 5 (.load 9 true (tp 2)),
  o1 6 (.mv (tp 1)),
  o2 7 (.call (.con (.fn 86 [] [])) [(tp 5), (.con (.d (.bool true))), (tp 6)]) [0, 1],
  o1 8 (.load 9 true (tp 2)),
  o1 9 (.mv (tp 1)),
  o2 10 (.call (.con (.fn 86 [] [])) [(tp 8), (.con (.d (.bool false))), (tp 9)]) [2, 3, 4],
  o2 11 (.bin .add 0 [] (tp 7) (tp 10)) [2, 5],
  o2 4 (.mv (tp 11)) [0, 1, 2, 3, 4, 5, 6]])
 (.ret))⟩
/-- entente/ententeref21.count -/
def c86 : AFn := ⟨34, [.tmp 6], .seq (.ops false [o1 3 (.box (tp 0)),
  o1 6 (.mv (ci 0))])
 (.seq (.ops false [o1 7 (.mv (ci 0))])
 (.seq (.seq (.ops false [o1 8 (.mv (ci 0))])
 (.block 0 (.loop 0 (some ([1, 2, 3, 7, 8], [0, 1, 2, 3, 4, 5, 6, 7, 256, 257, 258, 259, 288, 289])) (.seq (.seq (.ops false [o1 9 (.mv (tp 8)),
  o1 10 (.fldA 7 (tp 3)),
  o1 11 (.load 1 false (tp 10)),
  o1 12 (.len 1 (tp 11)),
  o1 13 (.bin .lss 0 [] (tp 9) (tp 12))])
 (.cond (tp 13) (.skip) (.exit 0)))
 (.seq (.block 1 (.seq (.ops false [o1 16 (.fldA 7 (tp 3)),
  o1 17 (.load 1 false (tp 16)),
  o1 18 (.mv (tp 8)),
  o1 19 (.ixS hA (tp 17) (tp 18)),
  o1 20 (.fldA 0 (tp 19)),
  o1 21 (.load 1 false (tp 20)),
  o1 22 (.mv (tp 2)),
  o1 23 (.bin .eql 0 [] (tp 21) (tp 22)),
  o1 24 (.mv (tp 23)),
  o3 25 (.load 9 true (tp 3)) 24 true [],
  o3 26 (.mv (tp 8)) 24 true [],
  o3 27 (.call (.con (.fn 88 [] [])) [(tp 25), (tp 26)]) 24 true [],
  o3 28 (.mv (tp 1)) 24 true [],
  o3 29 (.bin .neq 1 [] (tp 27) (tp 28)) 24 true [],
  o1 30 (.pick (tp 24) (tp 29) (.con (.d (.bool false))))])
 (.cond (tp 30) (.ops false [o1 31 (.mv (tp 7)),
  o1 32 (.bin .add 0 [] (tp 31) (ci 1)),
  o1 7 (.mv (tp 32))]) (.skip))))
 (.ops false [o1 14 (.mv (tp 8)),
  o1 15 (.bin .add 0 [] (tp 14) (ci 1)),
  o1 8 (.mv (tp 15))]))))))
 (.seq (.ops false [o1 33 (.mv (tp 7)),
  o1 6 (.mv (tp 33))])
 (.ret))))⟩
/-- entente/ententeref21.current -/
def c87 : AFn := ⟨56, [.tmp 2], .seq (.ops false [o1 1 (.box (tp 0)),
  o1 2 (.mv (ci 0))])
 (.seq (.seq (.ops false [o1 5 (.fldA 5 (tp 1)),
  o1 6 (.load 1 false (tp 5)),
  o1 7 (.bin .eql 0 [] (tp 6) (ci 1))])
 (.cond (tp 7) (.seq (.ops false [o1 3 (.mv (ci 0))])
 (.block 0 (.loop 0 (some ([1, 3], [0, 1, 2, 3, 4, 5, 6, 7, 128, 129, 130, 131, 160, 161])) (.seq (.seq (.ops false [o1 8 (.mv (tp 3)),
  o1 9 (.fldA 7 (tp 1)),
  o1 10 (.load 1 false (tp 9)),
  o1 11 (.len 1 (tp 10)),
  o1 12 (.bin .lss 0 [] (tp 8) (tp 11))])
 (.cond (tp 12) (.skip) (.exit 0)))
 (.seq (.block 1 (.seq (.ops false [o1 15 (.fldA 7 (tp 1)),
  o1 16 (.load 1 false (tp 15)),
  o1 17 (.mv (tp 3)),
  o1 18 (.ixS hA (tp 16) (tp 17)),
  o1 19 (.fldA 0 (tp 18)),
  o1 20 (.load 1 false (tp 19)),
  o1 21 (.bin .neq 0 [] (tp 20) (ci 2))])
 (.cond (tp 21) (.seq (.ops false [o1 22 (.mv (tp 3)),
  o1 2 (.mv (tp 22))])
 (.ret)) (.skip))))
 (.ops false [o1 13 (.mv (tp 3)),
  o1 14 (.bin .add 0 [] (tp 13) (ci 1)),
  o1 3 (.mv (tp 14))])))))) (.skip)))
 (.seq (.seq (.ops false [o1 23 (.fldA 5 (tp 1)),
  o1 24 (.load 1 false (tp 23)),
  o1 25 (.bin .eql 0 [] (tp 24) (ci 4)),
  o1 26 (.mv (tp 25)),
  o3 27 (.fldA 5 (tp 1)) 26 false [],
  o3 28 (.load 1 false (tp 27)) 26 false [],
  o3 29 (.bin .eql 0 [] (tp 28) (ci 5)) 26 false [],
  o1 30 (.pick (tp 26) (.con (.d (.bool true))) (tp 29))])
 (.cond (tp 30) (.seq (.ops false [o1 31 (.fldA 7 (tp 1)),
  o1 32 (.load 1 false (tp 31)),
  o1 33 (.len 1 (tp 32)),
  o1 34 (.bin .sub 0 [] (tp 33) (ci 1)),
  o1 4 (.mv (tp 34))])
 (.block 2 (.loop 1 (some ([1, 4], [0, 1, 2, 3, 4, 5, 6, 7, 128, 129, 130, 131, 160, 161])) (.seq (.seq (.ops false [o1 35 (.mv (tp 4)),
  o1 36 (.bin .geq 0 [] (tp 35) (ci 0))])
 (.cond (tp 36) (.skip) (.exit 2)))
 (.seq (.block 3 (.seq (.ops false [o1 39 (.fldA 7 (tp 1)),
  o1 40 (.load 1 false (tp 39)),
  o1 41 (.mv (tp 4)),
  o1 42 (.ixS hA (tp 40) (tp 41)),
  o1 43 (.fldA 0 (tp 42)),
  o1 44 (.load 1 false (tp 43)),
  o1 45 (.bin .eql 0 [] (tp 44) (ci 1)),
  o1 46 (.mv (tp 45)),
  o3 47 (.fldA 7 (tp 1)) 46 false [],
  o3 48 (.load 1 false (tp 47)) 46 false [],
  o3 49 (.mv (tp 4)) 46 false [],
  o3 50 (.ixS hA (tp 48) (tp 49)) 46 false [],
  o3 51 (.fldA 0 (tp 50)) 46 false [],
  o3 52 (.load 1 false (tp 51)) 46 false [],
  o3 53 (.bin .eql 0 [] (tp 52) (ci 2)) 46 false [],
  o1 54 (.pick (tp 46) (.con (.d (.bool true))) (tp 53))])
 (.cond (tp 54) (.seq (.ops false [o1 55 (.mv (tp 4)),
  o1 2 (.mv (tp 55))])
 (.ret)) (.skip))))
 (.ops false [o1 37 (.mv (tp 4)),
  o1 38 (.bin .sub 0 [] (tp 37) (ci 1)),
  o1 4 (.mv (tp 38))])))))) (.skip)))
 (.seq (.ops false [o1 2 (.mv (ci (-1)))])
 (.ret))))⟩
/-- entente/ententeref21.asks -/
def c88 : AFn := ⟨13, [.tmp 4], .seq (.ops false [o1 2 (.box (tp 0)),
  o1 4 (.mv (.con (.d (.bool false))))])
 (.seq (.ops false [o1 5 (.fldA 3 (tp 2)),
  o1 6 (.fldA 1 (tp 5)),
  o1 7 (.load 1 false (tp 6)),
  o1 8 (.mv (tp 1)),
  o1 9 (.ixS hB (tp 7) (tp 8)),
  o1 10 (.fldA 4 (tp 9)),
  o1 11 (.load 1 false (tp 10)),
  o1 12 (.bin .neq 0 [] (tp 11) (.con (.d (.str [])))),
  o1 4 (.mv (tp 12))])
 (.ret))⟩
/-- entente/ententeref03.Check -/
def c89 : AFn := ⟨81, [.tmp 2], .seq (.ops false [o1 1 (.box (tp 0)),
  o1 2 (.mv (ci 0))])
 (.seq (.seq (.ops false [o1 6 (.fldA 1 (tp 1)),
  o1 7 (.load 1 false (tp 6)),
  o1 8 (.bin .lss 0 [] (tp 7) (ci 1)),
  o1 9 (.mv (tp 8)),
  o3 10 (.fldA 1 (tp 1)) 9 false [],
  o3 11 (.load 1 false (tp 10)) 9 false [],
  o3 12 (.bin .gtr 0 [] (tp 11) (ci 999999)) 9 false [],
  o1 13 (.pick (tp 9) (.con (.d (.bool true))) (tp 12)),
  o1 14 (.mv (tp 13)),
  o3 15 (.fldA 2 (tp 1)) 14 false [],
  o3 16 (.load 1 false (tp 15)) 14 false [],
  o3 17 (.len 1 (tp 16)) 14 false [],
  o3 18 (.bin .gtr 0 [] (tp 17) (ci 4)) 14 false [],
  o1 19 (.pick (tp 14) (.con (.d (.bool true))) (tp 18)),
  o1 20 (.mv (tp 19)),
  o3 21 (.fldA 0 (tp 1)) 20 false [],
  o3 22 (.load 1 false (tp 21)) 20 false [],
  o3 23 (.bin .lss 0 [] (tp 22) (ci 0)) 20 false [],
  o1 24 (.pick (tp 20) (.con (.d (.bool true))) (tp 23)),
  o1 25 (.mv (tp 24)),
  o3 26 (.fldA 0 (tp 1)) 25 false [],
  o3 27 (.load 1 false (tp 26)) 25 false [],
  o3 28 (.bin .gtr 0 [] (tp 27) (ci 15)) 25 false [],
  o1 29 (.pick (tp 25) (.con (.d (.bool true))) (tp 28))])
 (.cond (tp 29) (.seq (.ops false [o1 2 (.mv (ci 30))])
 (.ret)) (.skip)))
 (.seq (.seq (.ops false [o1 3 (.mv (ci 0))])
 (.block 0 (.loop 0 (some ([1, 3], [0, 1, 2, 3, 4, 5, 6, 7, 128, 129, 130, 131, 160, 161])) (.seq (.seq (.ops false [o1 30 (.mv (tp 3)),
  o1 31 (.fldA 2 (tp 1)),
  o1 32 (.load 1 false (tp 31)),
  o1 33 (.len 1 (tp 32)),
  o1 34 (.bin .lss 0 [] (tp 30) (tp 33))])
 (.cond (tp 34) (.skip) (.exit 0)))
 (.seq (.block 1 (.seq (.ops false [o1 37 (.fldA 2 (tp 1)),
  o1 38 (.load 1 false (tp 37)),
  o1 39 (.mv (tp 3)),
  o1 40 (.ixS hA (tp 38) (tp 39)),
  o1 41 (.load 2 true (tp 40)),
  o1 4 (.alloc [(.int .i64 0), (.int .i64 0)]),
  ⟨none, .store 2 (tp 4) (tp 41), none, []⟩])
 (.seq (.seq (.ops false [o1 42 (.fldA 0 (tp 4)),
  o1 43 (.load 1 false (tp 42)),
  o1 44 (.bin .lss 0 [] (tp 43) (ci 0)),
  o1 45 (.mv (tp 44)),
  o3 46 (.fldA 0 (tp 4)) 45 false [],
  o3 47 (.load 1 false (tp 46)) 45 false [],
  o3 48 (.bin .gtr 0 [] (tp 47) (ci 7)) 45 false [],
  o1 49 (.pick (tp 45) (.con (.d (.bool true))) (tp 48)),
  o1 50 (.mv (tp 49)),
  o3 51 (.fldA 1 (tp 4)) 50 false [],
  o3 52 (.load 1 false (tp 51)) 50 false [],
  o3 53 (.bin .lss 0 [] (tp 52) (ci 0)) 50 false [],
  o1 54 (.pick (tp 50) (.con (.d (.bool true))) (tp 53)),
  o1 55 (.mv (tp 54)),
  o3 56 (.fldA 1 (tp 4)) 55 false [],
  o3 57 (.load 1 false (tp 56)) 55 false [],
  o3 58 (.bin .gtr 0 [] (tp 57) (ci 15)) 55 false [],
  o1 59 (.pick (tp 55) (.con (.d (.bool true))) (tp 58)),
  o1 60 (.mv (tp 59)),
  o3 61 (.fldA 1 (tp 4)) 60 false [],
  o3 62 (.load 1 false (tp 61)) 60 false [],
  o3 63 (.fldA 0 (tp 1)) 60 false [],
  o3 64 (.load 1 false (tp 63)) 60 false [],
  o3 65 (.bin .eql 0 [] (tp 62) (tp 64)) 60 false [],
  o1 66 (.pick (tp 60) (.con (.d (.bool true))) (tp 65))])
 (.cond (tp 66) (.seq (.ops false [o1 2 (.mv (ci 30))])
 (.ret)) (.skip)))
 (.seq (.ops false [o1 5 (.mv (ci 0))])
 (.block 2 (.loop 1 (some ([1, 3, 4, 5], [0, 1, 2, 3, 4, 5, 6, 7, 128, 129, 130, 131, 160, 161, 320, 321, 322, 323, 352, 353])) (.seq (.seq (.ops false [o1 67 (.mv (tp 5)),
  o1 68 (.mv (tp 3)),
  o1 69 (.bin .lss 0 [] (tp 67) (tp 68))])
 (.cond (tp 69) (.skip) (.exit 2)))
 (.seq (.block 3 (.seq (.ops true [o1 72 (.fldA 2 (tp 1)),
  o2 73 (.load 1 false (tp 72)) [0],
  o1 74 (.mv (tp 5)),
  o2 75 (.ixS hA (tp 73) (tp 74)) [1, 2],
  o2 76 (.fldA 1 (tp 75)) [3],
  o2 77 (.load 1 false (tp 76)) [4],
  o1 78 (.fldA 1 (tp 4)),
  o2 79 (.load 1 false (tp 78)) [6],
  o2 80 (.bin .eql 0 [] (tp 77) (tp 79)) [5, 7]])
 (.cond (tp 80) (.seq (.ops false [o1 2 (.mv (ci 30))])
 (.ret)) (.skip))))
 (.ops false [o1 70 (.mv (tp 5)),
  o1 71 (.bin .add 0 [] (tp 70) (ci 1)),
  o1 5 (.mv (tp 71))])))))))))
 (.ops false [o1 35 (.mv (tp 3)),
  o1 36 (.bin .add 0 [] (tp 35) (ci 1)),
  o1 3 (.mv (tp 36))]))))))
 (.seq (.ops false [o1 2 (.mv (ci 0))])
 (.ret))))⟩
/-- (*entente/saga.holder).current -/
def c90 : AFn := ⟨36, [.tmp 2], .seq (.ops false [o1 2 (.mv (ci 0))])
 (.seq (.seq (.ops false [o1 4 (.mv (tp 0)),
  o1 5 (.nilck (tp 4)),
  o1 6 (.fldA 0 (tp 5)),
  o1 7 (.fldA 5 (tp 6)),
  o1 8 (.load 1 false (tp 7))])
 (.block 0 (.seq (.ops false [o1 10 (.bin .eql 0 [] (tp 8) (ci 1)),
  o1 9 (.mv (tp 10))])
 (.cond (tp 9) (.seq (.ops false [o1 11 (.mv (tp 0)),
  o1 12 (.nilck (tp 11)),
  o1 13 (.fldA 0 (tp 12)),
  o1 14 (.fldA 7 (tp 13)),
  o1 15 (.load 1 false (tp 14)),
  o1 16 (.call (.con (.fn 137 [] [])) [(tp 15), (.con (.fn 138 [] []))]),
  o1 2 (.mv (tp 16))])
 (.ret)) (.seq (.seq (.ops false [o1 18 (.bin .eql 0 [] (tp 8) (ci 4)),
  o1 17 (.mv (tp 18))])
 (.cond (tp 17) (.skip) (.ops false [o1 19 (.bin .eql 0 [] (tp 8) (ci 5)),
  o1 17 (.mv (tp 19))])))
 (.cond (tp 17) (.seq (.ops false [o1 20 (.mv (tp 0)),
  o1 21 (.nilck (tp 20)),
  o1 22 (.fldA 0 (tp 21)),
  o1 23 (.fldA 7 (tp 22)),
  o1 24 (.load 1 false (tp 23)),
  o1 25 (.len 1 (tp 24)),
  o1 26 (.bin .sub 0 [] (tp 25) (ci 1)),
  o1 3 (.mv (tp 26))])
 (.block 1 (.loop 0 (some ([0, 3], [0, 1, 2, 3, 4, 5, 6, 7])) (.seq (.seq (.ops false [o1 27 (.mv (tp 3)),
  o1 28 (.bin .geq 0 [] (tp 27) (ci 0))])
 (.cond (tp 28) (.skip) (.exit 1)))
 (.seq (.block 2 (.seq (.ops false [o1 31 (.mv (tp 0)),
  o1 32 (.mv (tp 3)),
  o1 33 (.buildSl (.int .i64) [(.int .i64 0)] 2 [(0, 1, (ci 1)), (1, 1, (ci 2))]),
  o1 34 (.call (.con (.fn 98 [] [])) [(tp 31), (tp 32), (tp 33)])])
 (.cond (tp 34) (.seq (.ops false [o1 35 (.mv (tp 3)),
  o1 2 (.mv (tp 35))])
 (.ret)) (.skip))))
 (.ops false [o1 29 (.mv (tp 3)),
  o1 30 (.bin .sub 0 [] (tp 29) (ci 1)),
  o1 3 (.mv (tp 30))])))))) (.skip)))))))
 (.seq (.ops false [o1 2 (.mv (ci (-1)))])
 (.ret)))⟩
/-- (*entente/saga.holder).some -/
def c91 : AFn := ⟨9, [.tmp 4], .seq (.ops false [o1 2 (.box (tp 0)),
  o1 3 (.box (tp 1)),
  o1 4 (.mv (.con (.d (.bool false))))])
 (.seq (.ops false [o1 5 (.load 1 false (tp 2)),
  o1 6 (.mkF 139 [] [(tp 2), (tp 3)]),
  o1 7 (.call (.con (.fn 77 [] [])) [(tp 5), (tp 6)]),
  o1 8 (.un .not (tp 7)),
  o1 4 (.mv (tp 8))])
 (.ret))⟩
/-- entente/record.Move -/
def c92 : AFn := ⟨119, [.tmp 2], .seq (.ops false [o1 1 (.box (tp 0)),
  o1 2 (.mv (ci 0))])
 (.seq (.seq (.ops false [o1 4 (.fldA 0 (tp 1)),
  o1 5 (.load 1 false (tp 4)),
  o1 6 (.bin .lss 0 [] (tp 5) (ci 1)),
  o1 7 (.mv (tp 6)),
  o3 8 (.fldA 0 (tp 1)) 7 false [],
  o3 9 (.load 1 false (tp 8)) 7 false [],
  o3 10 (.bin .gtr 0 [] (tp 9) (ci 16)) 7 false [],
  o1 11 (.pick (tp 7) (.con (.d (.bool true))) (tp 10)),
  o1 12 (.mv (tp 11)),
  o3 13 (.fldA 1 (tp 1)) 12 false [],
  o3 14 (.load 3 true (tp 13)) 12 false [],
  o3 15 (.call (.con (.fn 74 [] [])) [(tp 14)]) 12 false [],
  o3 16 (.bin .neq 0 [] (tp 15) (ci 0)) 12 false [],
  o1 17 (.pick (tp 12) (.con (.d (.bool true))) (tp 16))])
 (.cond (tp 17) (.seq (.ops false [o1 2 (.mv (ci 140))])
 (.ret)) (.skip)))
 (.seq (.ops false [o1 18 (.fldA 6 (tp 1)),
  o1 19 (.load 2 true (tp 18)),
  o1 20 (.call (.con (.fn 140 [] [])) [(tp 19)]),
  o1 3 (.mv (tp 20))])
 (.seq (.seq (.ops true [o1 21 (.call (.con (.fn 141 [] [])) []),
  o1 22 (.fldA 0 (tp 1)),
  o2 23 (.load 1 false (tp 22)) [1],
  o2 24 (.ixArr (.agg [.str, (.int .i64)]) 17 (tp 21) (tp 23)) [0, 2],
  o2 25 (.fld 1 1 false (tp 24)) [3]])
 (.block 0 (.seq (.ops false [o1 27 (.bin .eql 0 [] (tp 25) (ci 0)),
  o1 26 (.mv (tp 27))])
 (.cond (tp 26) (.ops false [o1 28 (.mv (tp 3)),
  o1 29 (.mv (tp 28)),
  o3 30 (.fldA 4 (tp 1)) 29 true [],
  o3 31 (.load 1 false (tp 30)) 29 true [],
  o3 32 (.fldA 5 (tp 1)) 29 true [],
  o3 33 (.load 1 false (tp 32)) 29 true [],
  o3 34 (.buildSl (.int .i64) [(.int .i64 0)] 2 [(0, 1, (tp 31)), (1, 1, (tp 33))]) 29 true [],
  o3 35 (.call (.con (.fn 142 [] [])) [(tp 34)]) 29 true [],
  o1 36 (.pick (tp 29) (tp 35) (.con (.d (.bool false)))),
  o1 3 (.mv (tp 36))]) (.seq (.ops false [o1 38 (.bin .eql 0 [] (tp 25) (ci 1)),
  o1 37 (.mv (tp 38))])
 (.cond (tp 37) (.ops false [o1 39 (.mv (tp 3)),
  o1 40 (.mv (tp 39)),
  o3 41 (.fldA 5 (tp 1)) 40 true [],
  o3 42 (.load 1 false (tp 41)) 40 true [],
  o3 43 (.bin .eql 0 [] (tp 42) (ci 0)) 40 true [],
  o1 44 (.pick (tp 40) (tp 43) (.con (.d (.bool false)))),
  o1 45 (.mv (tp 44)),
  o3 46 (.fldA 4 (tp 1)) 45 true [],
  o3 47 (.load 1 false (tp 46)) 45 true [],
  o3 48 (.bin .geq 0 [] (tp 47) (ci 0)) 45 true [],
  o1 49 (.pick (tp 45) (tp 48) (.con (.d (.bool false)))),
  o1 50 (.mv (tp 49)),
  o3 51 (.fldA 4 (tp 1)) 50 true [],
  o3 52 (.load 1 false (tp 51)) 50 true [],
  o3 53 (.bin .lss 0 [] (tp 52) (ci 8)) 50 true [],
  o1 54 (.pick (tp 50) (tp 53) (.con (.d (.bool false)))),
  o1 3 (.mv (tp 54))]) (.seq (.ops false [o1 56 (.bin .eql 0 [] (tp 25) (ci 2)),
  o1 55 (.mv (tp 56))])
 (.cond (tp 55) (.ops false [o1 57 (.mv (tp 3)),
  o1 58 (.mv (tp 57)),
  o3 59 (.fldA 4 (tp 1)) 58 true [],
  o3 60 (.load 1 false (tp 59)) 58 true [],
  o3 61 (.bin .eql 0 [] (tp 60) (ci 0)) 58 true [],
  o1 62 (.pick (tp 58) (tp 61) (.con (.d (.bool false)))),
  o1 63 (.mv (tp 62)),
  o3 64 (.fldA 5 (tp 1)) 63 true [],
  o3 65 (.load 1 false (tp 64)) 63 true [],
  o3 66 (.bin .geq 0 [] (tp 65) (ci 1)) 63 true [],
  o1 67 (.pick (tp 63) (tp 66) (.con (.d (.bool false)))),
  o1 68 (.mv (tp 67)),
  o3 69 (.fldA 5 (tp 1)) 68 true [],
  o3 70 (.load 1 false (tp 69)) 68 true [],
  o3 71 (.bin .leq 0 [] (tp 70) (ci 9)) 68 true [],
  o1 72 (.pick (tp 68) (tp 71) (.con (.d (.bool false)))),
  o1 3 (.mv (tp 72))]) (.seq (.ops false [o1 74 (.bin .eql 0 [] (tp 25) (ci 4)),
  o1 73 (.mv (tp 74))])
 (.cond (tp 73) (.ops false [o1 75 (.mv (tp 3)),
  o1 76 (.mv (tp 75)),
  o3 77 (.fldA 5 (tp 1)) 76 true [],
  o3 78 (.load 1 false (tp 77)) 76 true [],
  o3 79 (.bin .eql 0 [] (tp 78) (ci 0)) 76 true [],
  o1 80 (.pick (tp 76) (tp 79) (.con (.d (.bool false)))),
  o1 81 (.mv (tp 80)),
  o3 82 (.fldA 4 (tp 1)) 81 true [],
  o3 83 (.load 1 false (tp 82)) 81 true [],
  o3 84 (.bin .eql 0 [] (tp 83) (ci 0)) 81 true [],
  o3 85 (.mv (tp 84)) 81 true [],
  o3 86 (.fldA 4 (tp 1)) 85 false [],
  o3 87 (.load 1 false (tp 86)) 85 false [],
  o3 88 (.bin .eql 0 [] (tp 87) (ci 1)) 85 false [],
  o3 89 (.pick (tp 85) (.con (.d (.bool true))) (tp 88)) 81 true [],
  o1 90 (.pick (tp 81) (tp 89) (.con (.d (.bool false)))),
  o1 3 (.mv (tp 90))]) (.seq (.ops false [o1 92 (.bin .eql 0 [] (tp 25) (ci 3)),
  o1 91 (.mv (tp 92))])
 (.cond (tp 91) (.ops false [o1 93 (.fldA 4 (tp 1)),
  o1 94 (.load 1 false (tp 93)),
  o1 95 (.fldA 5 (tp 1)),
  o1 96 (.load 1 false (tp 95)),
  o1 97 (.buildSl (.int .i64) [(.int .i64 0)] 2 [(0, 1, (tp 94)), (1, 1, (tp 96))]),
  o1 98 (.call (.con (.fn 142 [] [])) [(tp 97)]),
  o1 99 (.mv (tp 98)),
  o3 100 (.fldA 6 (tp 1)) 99 true [],
  o3 101 (.load 2 true (tp 100)) 99 true [],
  o3 102 (.call (.con (.fn 76 [] [])) [(tp 101)]) 99 true [],
  o3 103 (.bin .eql 0 [] (tp 102) (ci 0)) 99 true [],
  o1 104 (.pick (tp 99) (tp 103) (.con (.d (.bool false)))),
  o1 3 (.mv (tp 104))]) (.skip)))))))))))))
 (.seq (.seq (.ops false [o1 105 (.mv (tp 3)),
  o1 106 (.un .not (tp 105)),
  o1 107 (.mv (tp 106)),
  o3 108 (.fldA 0 (tp 1)) 107 false [],
  o3 109 (.load 1 false (tp 108)) 107 false [],
  o3 110 (.bin .eql 0 [] (tp 109) (ci 2)) 107 false [],
  o3 111 (.mv (tp 110)) 107 false [],
  o3 112 (.fldA 1 (tp 1)) 111 true [],
  o3 113 (.fldA 2 (tp 112)) 111 true [],
  o3 114 (.load 1 false (tp 113)) 111 true [],
  o3 115 (.len 1 (tp 114)) 111 true [],
  o3 116 (.bin .eql 0 [] (tp 115) (ci 0)) 111 true [],
  o3 117 (.pick (tp 111) (tp 116) (.con (.d (.bool false)))) 107 false [],
  o1 118 (.pick (tp 107) (.con (.d (.bool true))) (tp 117))])
 (.cond (tp 118) (.seq (.ops false [o1 2 (.mv (ci 140))])
 (.ret)) (.skip)))
 (.seq (.ops false [o1 2 (.mv (ci 0))])
 (.ret))))))⟩
/-- entente/ident.Cmp -/
def c93 : AFn := ⟨22, [.tmp 4], .seq (.ops false [o1 2 (.box (tp 0)),
  o1 3 (.box (tp 1)),
  o1 4 (.mv (ci 0))])
 (.seq (.ops true [o1 5 (.fldA 0 (tp 2)),
  o2 6 (.load 1 false (tp 5)) [0],
  o1 7 (.fldA 0 (tp 3)),
  o2 8 (.load 1 false (tp 7)) [2],
  o2 9 (.call (.con (.fn 144 [] [])) [(tp 6), (tp 8)]) [1, 3],
  o1 10 (.fldA 1 (tp 2)),
  o2 11 (.load 1 false (tp 10)) [5],
  o1 12 (.fldA 1 (tp 3)),
  o2 13 (.load 1 false (tp 12)) [7],
  o2 14 (.call (.con (.fn 144 [] [])) [(tp 11), (tp 13)]) [4, 6, 8],
  o1 15 (.fldA 2 (tp 2)),
  o2 16 (.load 1 false (tp 15)) [10],
  o1 17 (.fldA 2 (tp 3)),
  o2 18 (.load 1 false (tp 17)) [12],
  o2 19 (.call (.con (.fn 145 [] [])) [(tp 16), (tp 18), (.con (.fn 146 [] []))]) [9, 11, 13],
  o2 20 (.buildSl (.int .i64) [(.int .i64 0)] 3 [(0, 1, (tp 9)), (1, 1, (tp 14)), (2, 1, (tp 19))]) [4, 9, 14],
  o2 21 (.call (.con (.fn 143 [] [])) [(tp 20)]) [14, 15],
  o2 4 (.mv (tp 21)) [0, 1, 2, 3, 4, 5, 6, 7, 8, 9, 10, 11, 12, 13, 14, 15, 16]])
 (.ret))⟩
/-- entente/saga.copied -/
def c94 : AFn := ⟨20, [.cell 2 9 true], .seq (.ops false [o1 1 (.box (tp 0)),
  o1 2 (.alloc [(.int .i64 0), (.int .i64 0), (.sl hA true []), (.str []), (.sl hB true []), (.int .i64 0), (.int .i64 0), (.sl hA true []), (.bool false)])])
 (.seq (.ops false [o1 3 (.fldA 0 (tp 1)),
  o1 4 (.fldA 2 (tp 3)),
  o1 5 (.load 1 false (tp 4)),
  o1 6 (.call (.con (.fn 99 [] [])) [(tp 5)]),
  o1 7 (.fldA 0 (tp 1)),
  o1 8 (.fldA 2 (tp 7)),
  ⟨none, .store 1 (tp 8) (tp 6), none, []⟩])
 (.seq (.ops false [o1 9 (.fldA 3 (tp 1)),
  o1 10 (.fldA 1 (tp 9)),
  o1 11 (.load 1 false (tp 10)),
  o1 12 (.call (.con (.fn 147 [] [])) [(tp 11)]),
  o1 13 (.fldA 3 (tp 1)),
  o1 14 (.fldA 1 (tp 13)),
  ⟨none, .store 1 (tp 14) (tp 12), none, []⟩])
 (.seq (.ops false [o1 15 (.fldA 7 (tp 1)),
  o1 16 (.load 1 false (tp 15)),
  o1 17 (.call (.con (.fn 148 [] [])) [(tp 16)]),
  o1 18 (.fldA 7 (tp 1)),
  ⟨none, .store 1 (tp 18) (tp 17), none, []⟩])
 (.seq (.ops false [o1 19 (.load 9 true (tp 1)),
  ⟨none, .store 9 (tp 2) (tp 19), none, []⟩])
 (.ret)))))⟩
/-- (*entente/saga.holder).makes -/
def c95 : AFn := ⟨52, [.tmp 4], .seq (.ops false [o1 3 (.box (tp 1)),
  o1 4 (.mv (.con (.d (.bool false))))])
 (.seq (.seq (.ops false [o1 5 (.mv (tp 0)),
  o1 6 (.nilck (tp 5)),
  o1 7 (.fldA 0 (tp 6)),
  o1 8 (.fldA 5 (tp 7)),
  o1 9 (.load 1 false (tp 8)),
  o1 10 (.bin .eql 0 [] (tp 9) (ci 7)),
  o1 11 (.mv (tp 10)),
  o3 12 (.fldA 0 (tp 3)) 11 false [],
  o3 13 (.load 1 false (tp 12)) 11 false [],
  o3 14 (.bin .eql 0 [] (tp 13) (ci 1)) 11 false [],
  o1 15 (.pick (tp 11) (.con (.d (.bool true))) (tp 14)),
  o1 16 (.mv (tp 15)),
  o3 17 (.fldA 0 (tp 3)) 16 false [],
  o3 18 (.load 1 false (tp 17)) 16 false [],
  o3 19 (.bin .eql 0 [] (tp 18) (ci 2)) 16 false [],
  o1 20 (.pick (tp 16) (.con (.d (.bool true))) (tp 19))])
 (.cond (tp 20) (.seq (.ops false [o1 4 (.mv (.con (.d (.bool false))))])
 (.ret)) (.skip)))
 (.seq (.seq (.ops false [o1 21 (.fldA 0 (tp 3)),
  o1 22 (.load 1 false (tp 21))])
 (.block 0 (.seq (.seq (.ops false [o1 24 (.bin .eql 0 [] (tp 22) (ci 8)),
  o1 23 (.mv (tp 24))])
 (.cond (tp 23) (.skip) (.seq (.ops false [o1 25 (.bin .eql 0 [] (tp 22) (ci 9)),
  o1 23 (.mv (tp 25))])
 (.cond (tp 23) (.skip) (.seq (.ops false [o1 26 (.bin .eql 0 [] (tp 22) (ci 10)),
  o1 23 (.mv (tp 26))])
 (.cond (tp 23) (.skip) (.seq (.ops false [o1 27 (.bin .eql 0 [] (tp 22) (ci 13)),
  o1 23 (.mv (tp 27))])
 (.cond (tp 23) (.skip) (.seq (.ops false [o1 28 (.bin .eql 0 [] (tp 22) (ci 14)),
  o1 23 (.mv (tp 28))])
 (.cond (tp 23) (.skip) (.ops false [o1 29 (.bin .eql 0 [] (tp 22) (ci 16)),
  o1 23 (.mv (tp 29))])))))))))))
 (.cond (tp 23) (.seq (.ops false [o1 30 (.mv (tp 0)),
  o1 31 (.load 8 true (tp 3)),
  o1 32 (.call (.con (.fn 149 [] [])) [(tp 30), (tp 31)]),
  o1 4 (.mv (tp 32))])
 (.ret)) (.skip)))))
 (.seq (.seq (.ops true [o1 33 (.fldA 4 (tp 3)),
  o2 34 (.load 1 false (tp 33)) [0],
  o1 35 (.mv (tp 0)),
  o2 36 (.nilck (tp 35)) [2],
  o2 37 (.fldA 0 (tp 36)) [3],
  o2 38 (.fldA 7 (tp 37)) [4],
  o2 39 (.load 1 false (tp 38)) [5],
  o2 40 (.len 1 (tp 39)) [6],
  o2 41 (.bin .geq 0 [] (tp 34) (tp 40)) [1, 7]])
 (.cond (tp 41) (.seq (.ops false [o1 4 (.mv (.con (.d (.bool false))))])
 (.ret)) (.skip)))
 (.seq (.seq (.ops false [o1 42 (.mv (tp 0)),
  o1 43 (.fldA 4 (tp 3)),
  o1 44 (.load 1 false (tp 43)),
  o1 45 (.call (.con (.fn 79 [] [])) [(tp 42), (tp 44)])])
 (.cond (tp 45) (.seq (.ops false [o1 46 (.mv (tp 0)),
  o1 47 (.load 8 true (tp 3)),
  o1 48 (.call (.con (.fn 150 [] [])) [(tp 46), (tp 47)]),
  o1 4 (.mv (tp 48))])
 (.ret)) (.skip)))
 (.seq (.ops false [o1 49 (.mv (tp 0)),
  o1 50 (.load 8 true (tp 3)),
  o1 51 (.call (.con (.fn 151 [] [])) [(tp 49), (tp 50)]),
  o1 4 (.mv (tp 51))])
 (.ret))))))⟩
/-- (*entente/saga.holder).stands -/
def c98 : AFn := ⟨18, [.tmp 6], .seq (.ops false [o1 6 (.mv (.con (.d (.bool false))))])
 (.seq (.ops false [o1 7 (.mv (tp 2)),
  o1 8 (.mv (tp 0)),
  o1 9 (.nilck (tp 8)),
  o1 10 (.fldA 0 (tp 9)),
  o1 11 (.fldA 7 (tp 10)),
  o1 12 (.load 1 false (tp 11)),
  o1 13 (.mv (tp 1)),
  o1 14 (.ixS hA (tp 12) (tp 13)),
  o1 15 (.fldA 0 (tp 14)),
  o1 16 (.load 1 false (tp 15)),
  o1 17 (.call (.con (.fn 152 [] [])) [(tp 7), (tp 16)]),
  o1 6 (.mv (tp 17))])
 (.ret))⟩
/-- slices.Clone[[]entente/api.Hop,entente/api.Hop] -/
def c99 : AFn := ⟨8, [.tmp 2], .seq (.ops false [o1 2 (.mv (.con (.d (.sl hA true []))))])
 (.seq (.seq (.ops false [o1 3 (.mv (tp 0)),
  o1 4 (.bin .eql 3 [] (tp 3) (.con (.d (.sl hA true []))))])
 (.cond (tp 4) (.seq (.ops false [o1 2 (.mv (.con (.d (.sl hA true []))))])
 (.ret)) (.skip)))
 (.seq (.ops false [o1 5 (.buildSl hA [(.int .i64 0), (.int .i64 0)] 0 []),
  o1 6 (.mv (tp 0)),
  o1 7 (.appd hA (tp 5) (tp 6)),
  o1 2 (.mv (tp 7))])
 (.ret)))⟩
/-- entente/ententeref03.Cmp -/
def c100 : AFn := ⟨79, [.tmp 4], .seq (.ops false [o1 2 (.box (tp 0)),
  o1 3 (.box (tp 1)),
  o1 4 (.mv (ci 0))])
 (.seq (.seq (.ops false [o1 8 (.fldA 0 (tp 2)),
  o1 9 (.load 1 false (tp 8)),
  o1 10 (.fldA 0 (tp 3)),
  o1 11 (.load 1 false (tp 10)),
  o1 12 (.bin .neq 0 [] (tp 9) (tp 11))])
 (.cond (tp 12) (.seq (.ops false [o1 13 (.fldA 0 (tp 2)),
  o1 14 (.load 1 false (tp 13)),
  o1 15 (.fldA 0 (tp 3)),
  o1 16 (.load 1 false (tp 15)),
  o1 17 (.call (.con (.fn 153 [] [])) [(tp 14), (tp 16)]),
  o1 4 (.mv (tp 17))])
 (.ret)) (.skip)))
 (.seq (.seq (.ops false [o1 18 (.fldA 1 (tp 2)),
  o1 19 (.load 1 false (tp 18)),
  o1 20 (.fldA 1 (tp 3)),
  o1 21 (.load 1 false (tp 20)),
  o1 22 (.bin .neq 0 [] (tp 19) (tp 21))])
 (.cond (tp 22) (.seq (.ops false [o1 23 (.fldA 1 (tp 2)),
  o1 24 (.load 1 false (tp 23)),
  o1 25 (.fldA 1 (tp 3)),
  o1 26 (.load 1 false (tp 25)),
  o1 27 (.call (.con (.fn 153 [] [])) [(tp 24), (tp 26)]),
  o1 4 (.mv (tp 27))])
 (.ret)) (.skip)))
 (.seq (.seq (.ops false [o1 5 (.mv (ci 0))])
 (.block 0 (.loop 0 (some ([2, 3, 5], [0, 1, 2, 3, 4, 5, 6, 7, 192, 193, 194, 195, 224, 225, 256, 257, 258, 259, 288, 289, 1152, 1153, 1154, 1155, 1184, 1185, 1792, 1793, 1794, 1795, 1824, 1825, 5056, 5057, 5058, 5059, 5088, 5089])) (.seq (.seq (.ops false [o1 28 (.mv (tp 5)),
  o1 29 (.fldA 2 (tp 2)),
  o1 30 (.load 1 false (tp 29)),
  o1 31 (.len 1 (tp 30)),
  o1 32 (.bin .lss 0 [] (tp 28) (tp 31)),
  o1 33 (.mv (tp 32)),
  o3 34 (.mv (tp 5)) 33 true [],
  o3 35 (.fldA 2 (tp 3)) 33 true [],
  o3 36 (.load 1 false (tp 35)) 33 true [],
  o3 37 (.len 1 (tp 36)) 33 true [],
  o3 38 (.bin .lss 0 [] (tp 34) (tp 37)) 33 true [],
  o1 39 (.pick (tp 33) (tp 38) (.con (.d (.bool false))))])
 (.cond (tp 39) (.skip) (.exit 0)))
 (.seq (.block 1 (.seq (.ops true [o1 42 (.fldA 2 (tp 2)),
  o2 43 (.load 1 false (tp 42)) [0],
  o1 44 (.mv (tp 5)),
  o2 45 (.ixS hA (tp 43) (tp 44)) [1, 2],
  o2 46 (.load 2 true (tp 45)) [3],
  o1 47 (.fldA 2 (tp 3)),
  o2 48 (.load 1 false (tp 47)) [5],
  o1 49 (.mv (tp 5)),
  o2 50 (.ixS hA (tp 48) (tp 49)) [6, 7],
  o2 51 (.load 2 true (tp 50)) [8],
  o1 6 (.alloc [(.int .i64 0), (.int .i64 0)]),
  o1 7 (.alloc [(.int .i64 0), (.int .i64 0)]),
  ⟨none, .store 2 (tp 6) (tp 46), none, [0, 1, 2, 3, 4, 10, 11]⟩,
  ⟨none, .store 2 (tp 7) (tp 51), none, [0, 1, 2, 3, 4, 5, 6, 7, 8, 9, 10, 11, 12]⟩])
 (.seq (.seq (.ops false [o1 52 (.fldA 0 (tp 6)),
  o1 53 (.load 1 false (tp 52)),
  o1 54 (.fldA 0 (tp 7)),
  o1 55 (.load 1 false (tp 54)),
  o1 56 (.bin .neq 0 [] (tp 53) (tp 55))])
 (.cond (tp 56) (.seq (.ops false [o1 57 (.fldA 0 (tp 6)),
  o1 58 (.load 1 false (tp 57)),
  o1 59 (.fldA 0 (tp 7)),
  o1 60 (.load 1 false (tp 59)),
  o1 61 (.call (.con (.fn 153 [] [])) [(tp 58), (tp 60)]),
  o1 4 (.mv (tp 61))])
 (.ret)) (.skip)))
 (.seq (.ops false [o1 62 (.fldA 1 (tp 6)),
  o1 63 (.load 1 false (tp 62)),
  o1 64 (.fldA 1 (tp 7)),
  o1 65 (.load 1 false (tp 64)),
  o1 66 (.bin .neq 0 [] (tp 63) (tp 65))])
 (.cond (tp 66) (.seq (.ops false [o1 67 (.fldA 1 (tp 6)),
  o1 68 (.load 1 false (tp 67)),
  o1 69 (.fldA 1 (tp 7)),
  o1 70 (.load 1 false (tp 69)),
  o1 71 (.call (.con (.fn 153 [] [])) [(tp 68), (tp 70)]),
  o1 4 (.mv (tp 71))])
 (.ret)) (.skip))))))
 (.ops false [o1 40 (.mv (tp 5)),
  o1 41 (.bin .add 0 [] (tp 40) (ci 1)),
  o1 5 (.mv (tp 41))]))))))
 (.seq (.ops false [o1 72 (.fldA 2 (tp 2)),
  o1 73 (.load 1 false (tp 72)),
  o1 74 (.len 1 (tp 73)),
  o1 75 (.fldA 2 (tp 3)),
  o1 76 (.load 1 false (tp 75)),
  o1 77 (.len 1 (tp 76)),
  o1 78 (.call (.con (.fn 153 [] [])) [(tp 74), (tp 77)]),
  o1 4 (.mv (tp 78))])
 (.ret)))))⟩
/-- entente/ledger.May -/
def c101 : AFn := ⟨137, [.tmp 2], .seq (.ops false [o1 1 (.box (tp 0)),
  o1 2 (.mv (ci 0))])
 (.seq (.seq (.ops false [o1 13 (.fldA 0 (tp 1)),
  o1 14 (.load 1 false (tp 13)),
  o1 15 (.len 1 (tp 14)),
  o1 16 (.bin .gtr 0 [] (tp 15) (ci 12)),
  o1 17 (.mv (tp 16)),
  o3 18 (.fldA 1 (tp 1)) 17 false [],
  o3 19 (.load 1 false (tp 18)) 17 false [],
  o3 20 (.len 1 (tp 19)) 17 false [],
  o3 21 (.bin .gtr 0 [] (tp 20) (ci 500)) 17 false [],
  o1 22 (.pick (tp 17) (.con (.d (.bool true))) (tp 21))])
 (.cond (tp 22) (.seq (.ops false [o1 2 (.mv (ci 2))])
 (.ret)) (.skip)))
 (.seq (.seq (.ops false [o1 23 (.fldA 0 (tp 1)),
  o1 24 (.load 1 false (tp 23)),
  o1 25 (.len 1 (tp 24)),
  o1 26 (.mv (ci 0))])
 (.block 0 (.loop 0 (some ([1, 24, 25, 26], [0, 1, 2, 3, 4, 5, 6, 7, 128, 129, 130, 131, 160, 161, 512, 513, 514, 515, 544, 545, 832, 833, 834, 835, 864, 865, 4160, 4161, 4162, 4163, 4192, 4193, 5504, 5505, 5506, 5507, 5536, 5537, 6656, 6657, 6658, 6659, 6688, 6689, 7104, 7105, 7106, 7107, 7136, 7137])) (.seq (.ops false [o1 27 (.bin .lss 0 [] (tp 26) (tp 25))])
 (.seq (.cond (tp 27) (.skip) (.exit 0))
 (.seq (.block 1 (.seq (.ops false [o1 28 (.mv (tp 26)),
  o1 29 (.ixS (.agg [.str, (.int .i64), (.int .i64), (.int .i64), (.int .i64), (.int .i64), (.int .i64)]) (tp 24) (tp 26)),
  o1 30 (.load 7 true (tp 29)),
  o1 4 (.alloc [(.str []), (.int .i64 0), (.int .i64 0), (.int .i64 0), (.int .i64 0), (.int .i64 0), (.int .i64 0)]),
  o1 3 (.mv (tp 28)),
  ⟨none, .store 7 (tp 4) (tp 30), none, []⟩])
 (.seq (.ops true [o1 31 (.load 7 true (tp 4)),
  o2 32 (.call (.con (.fn 154 [] [])) [(tp 31)]) [0],
  o2 33 (.bin .neq 0 [] (tp 32) (ci 0)) [1],
  o2 34 (.mv (tp 33)) [1, 2],
  o3 35 (.mv (tp 3)) 34 false [3],
  o3 36 (.bin .gtr 0 [] (tp 35) (ci 0)) 34 false [3, 4],
  o3 37 (.mv (tp 36)) 34 false [3, 5],
  o3 38 (.fldA 0 (tp 1)) 37 true [6],
  o3 39 (.load 1 false (tp 38)) 37 true [6, 7],
  o3 40 (.mv (tp 3)) 37 true [6],
  o3 41 (.bin .sub 0 [] (tp 40) (ci 1)) 37 true [6, 9],
  o3 42 (.ixS (.agg [.str, (.int .i64), (.int .i64), (.int .i64), (.int .i64), (.int .i64), (.int .i64)]) (tp 39) (tp 41)) 37 true [6, 8, 10],
  o3 43 (.fldA 0 (tp 42)) 37 true [6, 11],
  o3 44 (.load 1 false (tp 43)) 37 true [6, 12],
  o3 45 (.fldA 0 (tp 4)) 37 true [6],
  o3 46 (.load 1 false (tp 45)) 37 true [6, 14],
  o3 47 (.bin .geq 0 [] (tp 44) (tp 46)) 37 true [6, 13, 15],
  o3 48 (.pick (tp 37) (tp 47) (.con (.d (.bool false)))) 34 false [3, 6, 16],
  o2 49 (.pick (tp 34) (.con (.d (.bool true))) (tp 48)) [3, 17]])
 (.cond (tp 49) (.seq (.ops false [o1 2 (.mv (ci 2))])
 (.ret)) (.skip)))))
 (.ops false [o1 50 (.bin .add 0 [] (tp 26) (ci 1)),
  o1 26 (.mv (tp 50))])))))))
 (.seq (.ops false [o1 51 (.load 2 true (tp 1)),
  o1 52 (.build [(.sl (.agg [.str, (.int .i64), (.int .i64), (.int .i64), (.int .i64), (.int .i64), (.int .i64)]) true []), (.sl (.agg [.str, (.int .i64), .str, (.int .i64), (.int .i64)]) true [])] [(0, 2, (tp 51))]),
  o1 53 (.mkF 155 [(tp 52)] []),
  o1 5 (.mv (tp 53))])
 (.seq (.seq (.ops false [o1 54 (.fldA 1 (tp 1)),
  o1 55 (.load 1 false (tp 54)),
  o1 56 (.len 1 (tp 55)),
  o1 57 (.mv (ci 0))])
 (.block 2 (.loop 1 (some ([1, 5, 55, 56, 57], [0, 1, 2, 3, 4, 5, 6, 7, 128, 129, 130, 131, 160, 161, 320, 321, 322, 323, 352, 353, 832, 833, 834, 835, 864, 865, 2112, 2113, 2114, 2115, 2144, 2145, 7104, 7105, 7106, 7107, 7136, 7137])) (.seq (.ops false [o1 58 (.bin .lss 0 [] (tp 57) (tp 56))])
 (.seq (.cond (tp 58) (.skip) (.exit 2))
 (.seq (.block 3 (.seq (.ops false [o1 59 (.mv (tp 57)),
  o1 60 (.ixS (.agg [.str, (.int .i64), .str, (.int .i64), (.int .i64)]) (tp 55) (tp 57)),
  o1 61 (.load 5 true (tp 60)),
  o1 7 (.alloc [(.str []), (.int .i64 0), (.str []), (.int .i64 0), (.int .i64 0)]),
  o1 6 (.mv (tp 59)),
  ⟨none, .store 5 (tp 7) (tp 61), none, []⟩])
 (.seq (.seq (.ops true [o1 62 (.fldA 0 (tp 7)),
  o2 63 (.load 1 false (tp 62)) [0],
  o2 64 (.call (.con (.fn 156 [] [])) [(tp 63)]) [1],
  o2 65 (.un .not (tp 64)) [2],
  o2 66 (.mv (tp 65)) [2, 3],
  o3 67 (.mv (tp 6)) 66 false [4],
  o3 68 (.bin .gtr 0 [] (tp 67) (ci 0)) 66 false [4, 5],
  o3 69 (.mv (tp 68)) 66 false [4, 6],
  o3 70 (.fldA 1 (tp 1)) 69 true [7],
  o3 71 (.load 1 false (tp 70)) 69 true [7, 8],
  o3 72 (.mv (tp 6)) 69 true [7],
  o3 73 (.bin .sub 0 [] (tp 72) (ci 1)) 69 true [7, 10],
  o3 74 (.ixS (.agg [.str, (.int .i64), .str, (.int .i64), (.int .i64)]) (tp 71) (tp 73)) 69 true [7, 9, 11],
  o3 75 (.fldA 0 (tp 74)) 69 true [7, 12],
  o3 76 (.load 1 false (tp 75)) 69 true [7, 13],
  o3 77 (.fldA 0 (tp 7)) 69 true [7],
  o3 78 (.load 1 false (tp 77)) 69 true [7, 15],
  o3 79 (.bin .geq 0 [] (tp 76) (tp 78)) 69 true [7, 14, 16],
  o3 80 (.pick (tp 69) (tp 79) (.con (.d (.bool false)))) 66 false [4, 7, 17],
  o2 81 (.pick (tp 66) (.con (.d (.bool true))) (tp 80)) [4, 18],
  o2 82 (.mv (tp 81)) [7, 19],
  o3 83 (.fldA 1 (tp 7)) 82 false [20],
  o3 84 (.load 3 true (tp 83)) 82 false [20, 21],
  o3 85 (.call (.con (.fn 157 [] [])) [(tp 84)]) 82 false [20, 22],
  o3 86 (.bin .neq 0 [] (tp 85) (ci 0)) 82 false [20, 23],
  o2 87 (.pick (tp 82) (.con (.d (.bool true))) (tp 86)) [20, 24],
  o2 88 (.mv (tp 87)) [23, 25],
  o3 89 (.fldA 4 (tp 7)) 88 false [26],
  o3 90 (.load 1 false (tp 89)) 88 false [26, 27],
  o3 91 (.bin .lss 0 [] (tp 90) (ci 1)) 88 false [26, 28],
  o2 92 (.pick (tp 88) (.con (.d (.bool true))) (tp 91)) [26, 29],
  o2 93 (.mv (tp 92)) [26, 30],
  o3 94 (.fldA 4 (tp 7)) 93 false [31],
  o3 95 (.load 1 false (tp 94)) 93 false [31, 32],
  o3 96 (.bin .gtr 0 [] (tp 95) (ci 3)) 93 false [31, 33],
  o2 97 (.pick (tp 93) (.con (.d (.bool true))) (tp 96)) [31, 34]])
 (.cond (tp 97) (.seq (.ops false [o1 2 (.mv (ci 2))])
 (.ret)) (.skip)))
 (.seq (.ops false [o1 99 (.mv (tp 5)),
  o1 100 (.fldA 1 (tp 7)),
  o1 101 (.fldA 1 (tp 100)),
  o1 102 (.load 1 false (tp 101)),
  o1 103 (.call (tp 99) [(tp 102)]),
  o1 98 (.mv (tp 103)),
  o1 104 (.ext 0 (tp 98)),
  o1 105 (.ext 1 (tp 98)),
  o1 8 (.mv (tp 104)),
  o1 9 (.mv (tp 105))])
 (.seq (.ops false [o1 106 (.mv (tp 9)),
  o1 107 (.un .not (tp 106))])
 (.cond (tp 107) (.seq (.ops false [o1 2 (.mv (ci 2))])
 (.ret)) (.skip)))))))
 (.ops false [o1 108 (.bin .add 0 [] (tp 57) (ci 1)),
  o1 57 (.mv (tp 108))])))))))
 (.seq (.ops false [o1 109 (.load 2 true (tp 1)),
  o1 110 (.call (.con (.fn 158 [] [])) [(tp 109)]),
  o1 10 (.mv (tp 110))])
 (.seq (.seq (.ops false [o1 111 (.fldA 0 (tp 1)),
  o1 112 (.load 1 false (tp 111)),
  o1 113 (.len 1 (tp 112)),
  o1 114 (.mv (ci 0))])
 (.block 4 (.loop 2 (some ([10, 112, 113, 114], [0, 1, 2, 3, 4, 5, 6, 7, 128, 129, 130, 131, 160, 161, 320, 321, 322, 323, 352, 353, 512, 513, 514, 515, 544, 545, 2112, 2113, 2114, 2115, 2144, 2145, 4160, 4161, 4162, 4163, 4192, 4193, 5504, 5505, 5506, 5507, 5536, 5537, 6656, 6657, 6658, 6659, 6688, 6689, 7104, 7105, 7106, 7107, 7136, 7137])) (.seq (.ops false [o1 115 (.bin .lss 0 [] (tp 114) (tp 113))])
 (.seq (.cond (tp 115) (.skip) (.exit 4))
 (.seq (.block 5 (.seq (.ops false [o1 116 (.ixS (.agg [.str, (.int .i64), (.int .i64), (.int .i64), (.int .i64), (.int .i64), (.int .i64)]) (tp 112) (tp 114)),
  o1 117 (.load 7 true (tp 116)),
  o1 12 (.alloc [(.str []), (.int .i64 0), (.int .i64 0), (.int .i64 0), (.int .i64 0), (.int .i64 0), (.int .i64 0)]),
  ⟨none, .store 7 (tp 12) (tp 117), none, []⟩])
 (.seq (.ops false [o1 118 (.mv (tp 10)),
  o1 119 (.fldA 0 (tp 12)),
  o1 120 (.load 1 false (tp 119)),
  o1 121 (.mapGet .str (.agg [(.int .i64), (.int .i64), (.int .i64), (.int .i64)]) [(.int .i64 0), (.int .i64 0), (.int .i64 0), (.int .i64 0)] false (tp 118) (tp 120)),
  o1 122 (.fldA 1 (tp 12)),
  o1 123 (.fldA 1 (tp 122)),
  o1 124 (.load 1 false (tp 123)),
  o1 125 (.fldA 1 (tp 12)),
  o1 126 (.fldA 2 (tp 125)),
  o1 127 (.load 1 false (tp 126)),
  o1 128 (.fldA 4 (tp 12)),
  o1 129 (.fldA 1 (tp 128)),
  o1 130 (.load 1 false (tp 129)),
  o1 131 (.fldA 4 (tp 12)),
  o1 132 (.fldA 2 (tp 131)),
  o1 133 (.load 1 false (tp 132)),
  o1 134 (.build [(.int .i64 0), (.int .i64 0), (.int .i64 0), (.int .i64 0)] [(0, 1, (tp 124)), (1, 1, (tp 127)), (2, 1, (tp 130)), (3, 1, (tp 133))]),
  o1 135 (.bin .neq 0 [] (tp 121) (tp 134))])
 (.cond (tp 135) (.seq (.ops false [o1 2 (.mv (ci 2))])
 (.ret)) (.skip)))))
 (.ops false [o1 136 (.bin .add 0 [] (tp 114) (ci 1)),
  o1 114 (.mv (tp 136))])))))))
 (.seq (.ops false [o1 2 (.mv (ci 0))])
 (.ret))))))))⟩
/-- entente/book.May -/
def c102 : AFn := ⟨34, [.tmp 2], .seq (.ops false [o1 2 (.mv (ci 0))])
 (.seq (.seq (.ops false [o1 5 (.mv (tp 0)),
  o1 6 (.len 1 (tp 5)),
  o1 7 (.bin .gtr 0 [] (tp 6) (ci 8))])
 (.cond (tp 7) (.seq (.ops false [o1 2 (.mv (ci 2))])
 (.ret)) (.skip)))
 (.seq (.seq (.ops false [o1 8 (.mv (tp 0)),
  o1 9 (.len 1 (tp 8)),
  o1 10 (.mv (ci 0))])
 (.block 0 (.loop 0 (some ([0, 8, 9, 10], [0, 1, 2, 3, 4, 5, 6, 7])) (.seq (.ops false [o1 11 (.bin .lss 0 [] (tp 10) (tp 9))])
 (.seq (.cond (tp 11) (.skip) (.exit 0))
 (.seq (.block 1 (.seq (.ops false [o1 12 (.mv (tp 10)),
  o1 13 (.ixS (.agg [.str, (.sl hB)]) (tp 8) (tp 10)),
  o1 14 (.load 2 true (tp 13)),
  o1 4 (.alloc [(.str []), (.sl hB true [])]),
  o1 3 (.mv (tp 12)),
  ⟨none, .store 2 (tp 4) (tp 14), none, []⟩])
 (.seq (.ops true [o1 15 (.load 2 true (tp 4)),
  o2 16 (.call (.con (.fn 76 [] [])) [(tp 15)]) [0],
  o2 17 (.bin .neq 0 [] (tp 16) (ci 0)) [1],
  o2 18 (.mv (tp 17)) [1, 2],
  o3 19 (.mv (tp 3)) 18 false [3],
  o3 20 (.bin .gtr 0 [] (tp 19) (ci 0)) 18 false [3, 4],
  o3 21 (.mv (tp 20)) 18 false [3, 5],
  o3 22 (.mv (tp 0)) 21 true [6],
  o3 23 (.mv (tp 3)) 21 true [6],
  o3 24 (.bin .sub 0 [] (tp 23) (ci 1)) 21 true [6, 8],
  o3 25 (.ixS (.agg [.str, (.sl hB)]) (tp 22) (tp 24)) 21 true [6, 7, 9],
  o3 26 (.fldA 0 (tp 25)) 21 true [6, 10],
  o3 27 (.load 1 false (tp 26)) 21 true [6, 11],
  o3 28 (.fldA 0 (tp 4)) 21 true [6],
  o3 29 (.load 1 false (tp 28)) 21 true [6, 13],
  o3 30 (.bin .geq 0 [] (tp 27) (tp 29)) 21 true [6, 12, 14],
  o3 31 (.pick (tp 21) (tp 30) (.con (.d (.bool false)))) 18 false [3, 6, 15],
  o2 32 (.pick (tp 18) (.con (.d (.bool true))) (tp 31)) [3, 16]])
 (.cond (tp 32) (.seq (.ops false [o1 2 (.mv (ci 2))])
 (.ret)) (.skip)))))
 (.ops false [o1 33 (.bin .add 0 [] (tp 10) (ci 1)),
  o1 10 (.mv (tp 33))])))))))
 (.seq (.ops false [o1 2 (.mv (ci 0))])
 (.ret))))⟩
/-- (*entente/state.holder).sagas -/
def c103 : AFn := ⟨74, [.tmp 2], .seq (.ops false [o1 2 (.mv (.con (.d (.bool false))))])
 (.seq (.seq (.ops false [o1 5 (.mv (tp 0)),
  o1 6 (.nilck (tp 5)),
  o1 7 (.fldA 0 (tp 6)),
  o1 8 (.fldA 6 (tp 7)),
  o1 9 (.load 1 false (tp 8)),
  o1 10 (.len 1 (tp 9)),
  o1 11 (.bin .gtr 0 [] (tp 10) (ci 24))])
 (.cond (tp 11) (.seq (.ops false [o1 2 (.mv (.con (.d (.bool false))))])
 (.ret)) (.skip)))
 (.seq (.seq (.ops false [o1 12 (.mv (tp 0)),
  o1 13 (.nilck (tp 12)),
  o1 14 (.fldA 0 (tp 13)),
  o1 15 (.fldA 6 (tp 14)),
  o1 16 (.load 1 false (tp 15)),
  o1 17 (.len 1 (tp 16)),
  o1 18 (.mv (ci 0))])
 (.block 0 (.loop 0 (some ([0, 16, 17, 18], [0, 1, 2, 3, 4, 5, 6, 7])) (.seq (.ops false [o1 19 (.bin .lss 0 [] (tp 18) (tp 17))])
 (.seq (.cond (tp 19) (.skip) (.exit 0))
 (.seq (.block 1 (.seq (.ops false [o1 20 (.mv (tp 18)),
  o1 21 (.ixS (.agg [(.int .i64), (.int .i64), (.sl hA), .str, (.sl hB), (.int .i64), (.int .i64), (.sl hA), .bool]) (tp 16) (tp 18)),
  o1 22 (.load 9 true (tp 21)),
  o1 4 (.alloc [(.int .i64 0), (.int .i64 0), (.sl hA true []), (.str []), (.sl hB true []), (.int .i64 0), (.int .i64 0), (.sl hA true []), (.bool false)]),
  o1 3 (.mv (tp 20)),
  ⟨none, .store 9 (tp 4) (tp 22), none, []⟩])
 (.seq (.seq (.ops true [o1 23 (.load 9 true (tp 4)),
  o2 24 (.call (.con (.fn 35 [] [])) [(tp 23)]) [0],
  o2 25 (.bin .neq 0 [] (tp 24) (ci 0)) [1],
  o2 26 (.mv (tp 25)) [1, 2],
  o3 27 (.fldA 0 (tp 4)) 26 false [3],
  o3 28 (.load 3 true (tp 27)) 26 false [3, 4],
  o3 29 (.call (.con (.fn 53 [] [])) [(tp 28)]) 26 false [3, 5],
  o3 30 (.mv (tp 0)) 26 false [3],
  o3 31 (.nilck (tp 30)) 26 false [3, 7],
  o3 32 (.fldA 0 (tp 31)) 26 false [3, 8],
  o3 33 (.fldA 0 (tp 32)) 26 false [3, 9],
  o3 34 (.load 1 false (tp 33)) 26 false [3, 10],
  o3 35 (.bin .neq 0 [] (tp 29) (tp 34)) 26 false [3, 6, 11],
  o2 36 (.pick (tp 26) (.con (.d (.bool true))) (tp 35)) [3, 12],
  o2 37 (.mv (tp 36)) [6, 13],
  o3 38 (.fldA 0 (tp 4)) 37 false [14],
  o3 39 (.fldA 2 (tp 38)) 37 false [14, 15],
  o3 40 (.load 1 false (tp 39)) 37 false [14, 16],
  o3 41 (.len 1 (tp 40)) 37 false [14, 17],
  o3 42 (.bin .eql 0 [] (tp 41) (ci 0)) 37 false [14, 18],
  o3 43 (.mv (tp 42)) 37 false [14, 19],
  o3 44 (.fldA 0 (tp 4)) 43 true [20],
  o3 45 (.fldA 1 (tp 44)) 43 true [20, 21],
  o3 46 (.load 1 false (tp 45)) 43 true [20, 22],
  o3 47 (.mv (tp 0)) 43 true [20],
  o3 48 (.nilck (tp 47)) 43 true [20, 24],
  o3 49 (.fldA 0 (tp 48)) 43 true [20, 25],
  o3 50 (.fldA 2 (tp 49)) 43 true [20, 26],
  o3 51 (.load 1 false (tp 50)) 43 true [20, 27],
  o3 52 (.bin .gtr 0 [] (tp 46) (tp 51)) 43 true [20, 23, 28],
  o3 53 (.pick (tp 43) (tp 52) (.con (.d (.bool false)))) 37 false [14, 20, 29],
  o2 54 (.pick (tp 37) (.con (.d (.bool true))) (tp 53)) [14, 30]])
 (.cond (tp 54) (.seq (.ops false [o1 2 (.mv (.con (.d (.bool false))))])
 (.ret)) (.skip)))
 (.seq (.ops true [o1 55 (.mv (tp 3)),
  o2 56 (.bin .gtr 0 [] (tp 55) (ci 0)) [0],
  o2 57 (.mv (tp 56)) [1],
  o3 58 (.mv (tp 0)) 57 true [2],
  o3 59 (.nilck (tp 58)) 57 true [2, 3],
  o3 60 (.fldA 0 (tp 59)) 57 true [2, 4],
  o3 61 (.fldA 6 (tp 60)) 57 true [2, 5],
  o3 62 (.load 1 false (tp 61)) 57 true [2, 6],
  o3 63 (.mv (tp 3)) 57 true [2],
  o3 64 (.bin .sub 0 [] (tp 63) (ci 1)) 57 true [2, 8],
  o3 65 (.ixS (.agg [(.int .i64), (.int .i64), (.sl hA), .str, (.sl hB), (.int .i64), (.int .i64), (.sl hA), .bool]) (tp 62) (tp 64)) 57 true [2, 7, 9],
  o3 66 (.fldA 0 (tp 65)) 57 true [2, 10],
  o3 67 (.load 3 true (tp 66)) 57 true [2, 11],
  o3 68 (.fldA 0 (tp 4)) 57 true [2],
  o3 69 (.load 3 true (tp 68)) 57 true [2, 13],
  o3 70 (.call (.con (.fn 93 [] [])) [(tp 67), (tp 69)]) 57 true [2, 12, 14],
  o3 71 (.bin .geq 0 [] (tp 70) (ci 0)) 57 true [2, 15],
  o2 72 (.pick (tp 57) (tp 71) (.con (.d (.bool false)))) [2, 16]])
 (.cond (tp 72) (.seq (.ops false [o1 2 (.mv (.con (.d (.bool false))))])
 (.ret)) (.skip))))))
 (.ops false [o1 73 (.bin .add 0 [] (tp 18) (ci 1)),
  o1 18 (.mv (tp 73))])))))))
 (.seq (.ops false [o1 2 (.mv (.con (.d (.bool true))))])
 (.ret))))⟩
/-- entente/state.marks -/
def c104 : AFn := ⟨64, [.tmp 2], .seq (.ops false [o1 2 (.mv (.con (.d .nilm)))])
 (.seq (.ops false [o1 12 (.mkMap .str (.agg [.str, (.int .i64), .str, (.int .i64), (.int .i64)])),
  o1 3 (.mv (tp 12))])
 (.seq (.seq (.ops false [o1 13 (.mv (tp 0)),
  o1 14 (.len 1 (tp 13)),
  o1 15 (.mv (ci 0))])
 (.block 0 (.loop 0 (some ([3, 13, 14, 15], [0, 1, 2, 3, 4, 5, 6, 7, 832, 833, 834, 835, 864, 865])) (.seq (.ops false [o1 16 (.bin .lss 0 [] (tp 15) (tp 14))])
 (.seq (.cond (tp 16) (.skip) (.exit 0))
 (.seq (.block 1 (.seq (.ops false [o1 17 (.ixS (.agg [(.int .i64), (.int .i64), (.sl hA), .str, (.sl hB), (.int .i64), (.int .i64), (.sl hA), .bool]) (tp 13) (tp 15)),
  o1 18 (.load 9 true (tp 17)),
  o1 5 (.alloc [(.int .i64 0), (.int .i64 0), (.sl hA true []), (.str []), (.sl hB true []), (.int .i64 0), (.int .i64 0), (.sl hA true []), (.bool false)]),
  ⟨none, .store 9 (tp 5) (tp 18), none, []⟩])
 (.seq (.ops false [o1 19 (.fldA 7 (tp 5)),
  o1 20 (.load 1 false (tp 19)),
  o1 21 (.len 1 (tp 20)),
  o1 22 (.mv (ci 0))])
 (.block 2 (.loop 1 (some ([3, 5, 13, 14, 15, 20, 21, 22], [0, 1, 2, 3, 4, 5, 6, 7, 384, 385, 386, 387, 416, 417, 832, 833, 834, 835, 864, 865])) (.seq (.ops false [o1 23 (.bin .lss 0 [] (tp 22) (tp 21))])
 (.seq (.cond (tp 23) (.skip) (.exit 2))
 (.seq (.block 3 (.seq (.ops false [o1 24 (.mv (tp 22)),
  o1 25 (.ixS hA (tp 20) (tp 22)),
  o1 26 (.load 2 true (tp 25)),
  o1 7 (.alloc [(.int .i64 0), (.int .i64 0)]),
  o1 6 (.mv (tp 24)),
  ⟨none, .store 2 (tp 7) (tp 26), none, []⟩])
 (.seq (.ops false [o1 27 (.build [(.int .i64 0), (.int .i64 0), (.int .i64 0), (.int .i64 0), (.int .i64 0)] [(0, 1, (ci 0)), (1, 1, (ci 0)), (2, 1, (ci 1)), (3, 1, (ci 2)), (4, 1, (ci 3))]),
  o1 8 (.allocA (.int .i64) [(.int .i64 0), (.int .i64 0), (.int .i64 0), (.int .i64 0), (.int .i64 0)] 5),
  ⟨none, .store 5 (tp 8) (tp 27), none, []⟩])
 (.seq (.ops false [o1 28 (.fldA 3 (tp 5)),
  o1 29 (.fldA 1 (tp 28)),
  o1 30 (.load 1 false (tp 29)),
  o1 31 (.mv (tp 6)),
  o1 32 (.ixS hB (tp 30) (tp 31)),
  o1 33 (.load 7 true (tp 32)),
  o1 9 (.alloc [(.int .i64 0), (.str []), (.int .i64 0), (.int .i64 0), (.str []), (.int .i64 0), (.int .i64 0)]),
  ⟨none, .store 7 (tp 9) (tp 33), none, []⟩])
 (.seq (.ops false [o1 34 (.fldA 4 (tp 9)),
  o1 35 (.load 1 false (tp 34)),
  o1 36 (.bin .eql 0 [] (tp 35) (.con (.d (.str [])))),
  o1 37 (.mv (tp 36)),
  o3 38 (.fldA 0 (tp 7)) 37 true [],
  o3 39 (.load 1 false (tp 38)) 37 true [],
  o3 40 (.ixP (.int .i64) 5 (tp 8) (tp 39)) 37 true [],
  o3 41 (.load 1 false (tp 40)) 37 true [],
  o3 42 (.bin .neq 0 [] (tp 41) (ci 0)) 37 true [],
  o1 43 (.pick (tp 37) (tp 42) (.con (.d (.bool false))))])
 (.cond (tp 43) (.seq (.ops false [o1 45 (.fldA 0 (tp 5)),
  o1 46 (.load 3 true (tp 45)),
  o1 47 (.mv (tp 6)),
  o1 48 (.call (.con (.fn 33 [] [])) [(tp 46), (tp 47)]),
  o1 44 (.mv (tp 48)),
  o1 49 (.ext 0 (tp 44)),
  o1 50 (.ext 1 (tp 44)),
  o1 10 (.mv (tp 49)),
  o1 11 (.mv (tp 50))])
 (.ops true [o1 51 (.mv (tp 3)),
  o1 52 (.mv (tp 10)),
  o1 53 (.mv (tp 10)),
  o1 54 (.fldA 0 (tp 9)),
  o2 55 (.load 3 true (tp 54)) [3],
  o1 56 (.fldA 0 (tp 7)),
  o2 57 (.load 1 false (tp 56)) [5],
  o2 58 (.ixP (.int .i64) 5 (tp 8) (tp 57)) [6],
  o2 59 (.load 1 false (tp 58)) [7],
  o2 60 (.build [(.str []), (.int .i64 0), (.str []), (.int .i64 0), (.int .i64 0)] [(0, 1, (tp 53)), (1, 3, (tp 55)), (4, 1, (tp 59))]) [2, 4, 8],
  ⟨none, .mapSet .str (tp 51) (tp 52) (tp 60), none, [0, 1, 2, 3, 4, 5, 6, 7, 8, 9]⟩])) (.skip)))))))
 (.ops false [o1 61 (.bin .add 0 [] (tp 22) (ci 1)),
  o1 22 (.mv (tp 61))])))))))))
 (.ops false [o1 62 (.bin .add 0 [] (tp 15) (ci 1)),
  o1 15 (.mv (tp 62))])))))))
 (.seq (.ops false [o1 63 (.mv (tp 3)),
  o1 2 (.mv (tp 63))])
 (.ret))))⟩
/-- entente/ident.Parent -/
def c105 : AFn := ⟨34, [.cell 2 3 true, .tmp 3, .tmp 4], .seq (.ops false [o1 1 (.box (tp 0)),
  o1 2 (.alloc [(.int .i64 0), (.int .i64 0), (.sl hA true [])]),
  o1 3 (.mv (ci 0)),
  o1 4 (.mv (.con (.d (.bool false))))])
 (.seq (.ops false [o1 6 (.fldA 2 (tp 1)),
  o1 7 (.load 1 false (tp 6)),
  o1 8 (.len 1 (tp 7)),
  o1 9 (.bin .sub 0 [] (tp 8) (ci 1)),
  o1 5 (.mv (tp 9))])
 (.seq (.seq (.ops false [o1 10 (.load 3 true (tp 1)),
  o1 11 (.call (.con (.fn 74 [] [])) [(tp 10)]),
  o1 12 (.bin .neq 0 [] (tp 11) (ci 0)),
  o1 13 (.mv (tp 12)),
  o3 14 (.mv (tp 5)) 13 false [],
  o3 15 (.bin .lss 0 [] (tp 14) (ci 0)) 13 false [],
  o1 16 (.pick (tp 13) (.con (.d (.bool true))) (tp 15))])
 (.cond (tp 16) (.seq (.ops false [o1 17 (.build [(.int .i64 0), (.int .i64 0), (.sl hA true [])] []),
  ⟨none, .store 3 (tp 2) (tp 17), none, []⟩,
  o1 3 (.mv (ci 0)),
  o1 4 (.mv (.con (.d (.bool false))))])
 (.ret)) (.skip)))
 (.seq (.ops true [o1 18 (.fldA 0 (tp 1)),
  o2 19 (.load 1 false (tp 18)) [0],
  o1 20 (.fldA 1 (tp 1)),
  o2 21 (.load 1 false (tp 20)) [2],
  o1 22 (.fldA 2 (tp 1)),
  o2 23 (.load 1 false (tp 22)) [4],
  o1 24 (.mv (tp 5)),
  o2 25 (.slc hA (tp 23) none (some (tp 24))) [5, 6],
  o2 26 (.call (.con (.fn 99 [] [])) [(tp 25)]) [7],
  o2 27 (.build [(.int .i64 0), (.int .i64 0), (.sl hA true [])] [(0, 1, (tp 19)), (1, 1, (tp 21)), (2, 1, (tp 26))]) [1, 3, 8],
  o1 28 (.fldA 2 (tp 1)),
  o2 29 (.load 1 false (tp 28)) [10],
  o1 30 (.mv (tp 5)),
  o2 31 (.ixS hA (tp 29) (tp 30)) [11, 12],
  o2 32 (.fldA 0 (tp 31)) [13],
  o2 33 (.load 1 false (tp 32)) [14],
  ⟨none, .store 3 (tp 2) (tp 27), none, [0, 1, 2, 3, 4, 5, 6, 7, 8, 9]⟩,
  o2 3 (.mv (tp 33)) [0, 1, 2, 3, 4, 5, 6, 7, 8, 9, 10, 11, 12, 13, 14, 15, 16],
  o2 4 (.mv (.con (.d (.bool true)))) [0, 1, 2, 3, 4, 5, 6, 7, 8, 9, 10, 11, 12, 13, 14, 15, 16, 17]])
 (.ret))))⟩
/-- entente/act.Name -/
def c106 : AFn := ⟨45, [.tmp 2], .seq (.ops false [o1 2 (.mv (.con (.d (.bool false))))])
 (.seq (.seq (.ops false [o1 5 (.mv (tp 0)),
  o1 6 (.bin .eql 0 [] (tp 5) (.con (.d (.str [])))),
  o1 7 (.mv (tp 6)),
  o3 8 (.mv (tp 0)) 7 false [],
  o3 9 (.len 0 (tp 8)) 7 false [],
  o3 10 (.bin .gtr 0 [] (tp 9) (ci 16)) 7 false [],
  o1 11 (.pick (tp 7) (.con (.d (.bool true))) (tp 10)),
  o1 12 (.mv (tp 11)),
  o3 13 (.mv (tp 0)) 12 false [],
  o3 14 (.ixStr (tp 13) (ci 0)) 12 false [],
  o3 15 (.bin .lss 0 [] (tp 14) (.con (.d (.int .u8 97)))) 12 false [],
  o1 16 (.pick (tp 12) (.con (.d (.bool true))) (tp 15)),
  o1 17 (.mv (tp 16)),
  o3 18 (.mv (tp 0)) 17 false [],
  o3 19 (.ixStr (tp 18) (ci 0)) 17 false [],
  o3 20 (.bin .gtr 0 [] (tp 19) (.con (.d (.int .u8 122)))) 17 false [],
  o1 21 (.pick (tp 17) (.con (.d (.bool true))) (tp 20))])
 (.cond (tp 21) (.seq (.ops false [o1 2 (.mv (.con (.d (.bool false))))])
 (.ret)) (.skip)))
 (.seq (.seq (.ops false [o1 22 (.mv (tp 0)),
  o1 23 (.len 0 (tp 22)),
  o1 24 (.mv (ci 0))])
 (.block 0 (.loop 0 (some ([0, 23, 24], [0, 1, 2, 3, 4, 5, 6, 7])) (.seq (.ops false [o1 25 (.bin .lss 0 [] (tp 24) (tp 23))])
 (.seq (.cond (tp 25) (.skip) (.exit 0))
 (.seq (.block 1 (.seq (.ops false [o1 26 (.mv (tp 24)),
  o1 3 (.mv (tp 26))])
 (.seq (.ops false [o1 27 (.mv (tp 0)),
  o1 28 (.mv (tp 3)),
  o1 29 (.ixStr (tp 27) (tp 28)),
  o1 4 (.mv (tp 29))])
 (.seq (.ops false [o1 30 (.mv (tp 4)),
  o1 31 (.bin .lss 0 [] (tp 30) (.con (.d (.int .u8 97)))),
  o1 32 (.mv (tp 31)),
  o3 33 (.mv (tp 4)) 32 false [],
  o3 34 (.bin .gtr 0 [] (tp 33) (.con (.d (.int .u8 122)))) 32 false [],
  o1 35 (.pick (tp 32) (.con (.d (.bool true))) (tp 34)),
  o1 36 (.mv (tp 35)),
  o3 37 (.mv (tp 4)) 36 true [],
  o3 38 (.bin .lss 0 [] (tp 37) (.con (.d (.int .u8 48)))) 36 true [],
  o3 39 (.mv (tp 38)) 36 true [],
  o3 40 (.mv (tp 4)) 39 false [],
  o3 41 (.bin .gtr 0 [] (tp 40) (.con (.d (.int .u8 57)))) 39 false [],
  o3 42 (.pick (tp 39) (.con (.d (.bool true))) (tp 41)) 36 true [],
  o1 43 (.pick (tp 36) (tp 42) (.con (.d (.bool false))))])
 (.cond (tp 43) (.seq (.ops false [o1 2 (.mv (.con (.d (.bool false))))])
 (.ret)) (.skip))))))
 (.ops false [o1 44 (.bin .add 0 [] (tp 24) (ci 1)),
  o1 24 (.mv (tp 44))])))))))
 (.seq (.ops false [o1 2 (.mv (.con (.d (.bool true))))])
 (.ret))))⟩
/-- entente/ident.path -/
def c107 : AFn := ⟨23, [.tmp 2], .seq (.ops false [o1 1 (.box (tp 0)),
  o1 2 (.mv (.con (.d (.sl (.int .i64) true []))))])
 (.seq (.ops false [o1 6 (.fldA 0 (tp 1)),
  o1 7 (.load 1 false (tp 6)),
  o1 8 (.buildSl (.int .i64) [(.int .i64 0)] 1 [(0, 1, (tp 7))]),
  o1 3 (.mv (tp 8))])
 (.seq (.seq (.ops false [o1 9 (.fldA 2 (tp 1)),
  o1 10 (.load 1 false (tp 9)),
  o1 11 (.len 1 (tp 10)),
  o1 12 (.mv (ci 0))])
 (.block 0 (.loop 0 (some ([3, 10, 11, 12], [0, 1, 2, 3, 4, 5, 6, 7, 128, 129, 130, 131, 160, 161, 576, 577, 578, 579, 608, 609, 1344, 1345, 1346, 1347, 1376, 1377])) (.seq (.ops false [o1 13 (.bin .lss 0 [] (tp 12) (tp 11))])
 (.seq (.cond (tp 13) (.skip) (.exit 0))
 (.seq (.block 1 (.seq (.ops false [o1 14 (.ixS hA (tp 10) (tp 12)),
  o1 15 (.load 2 true (tp 14)),
  o1 5 (.alloc [(.int .i64 0), (.int .i64 0)]),
  ⟨none, .store 2 (tp 5) (tp 15), none, []⟩])
 (.ops false [o1 16 (.mv (tp 3)),
  o1 17 (.fldA 1 (tp 5)),
  o1 18 (.load 1 false (tp 17)),
  o1 19 (.buildSl (.int .i64) [(.int .i64 0)] 1 [(0, 1, (tp 18))]),
  o1 20 (.appd (.int .i64) (tp 16) (tp 19)),
  o1 3 (.mv (tp 20))])))
 (.ops false [o1 21 (.bin .add 0 [] (tp 12) (ci 1)),
  o1 12 (.mv (tp 21))])))))))
 (.seq (.ops false [o1 22 (.mv (tp 3)),
  o1 2 (.mv (tp 22))])
 (.ret))))⟩
/-- (*entente/state.holder).place -/
def c108 : AFn := ⟨15, [.tmp 4, .tmp 5], .seq (.ops false [o1 3 (.box (tp 1)),
  o1 4 (.mv (ci 0)),
  o1 5 (.mv (.con (.d (.bool false))))])
 (.seq (.ops true [o1 6 (.mv (tp 0)),
  o2 7 (.nilck (tp 6)) [0],
  o2 8 (.fldA 0 (tp 7)) [1],
  o2 9 (.fldA 6 (tp 8)) [2],
  o2 10 (.load 1 false (tp 9)) [3],
  o1 11 (.load 3 true (tp 3)),
  o2 12 (.call (.con (.fn 159 [] [])) [(tp 10), (tp 11), (.con (.fn 160 [] []))]) [4, 5],
  o2 13 (.ext 0 (tp 12)) [6],
  o2 14 (.ext 1 (tp 12)) [6],
  o2 4 (.mv (tp 13)) [0, 1, 2, 3, 4, 5, 6, 7, 8],
  o2 5 (.mv (tp 14)) [0, 1, 2, 3, 4, 5, 6, 7, 8, 9]])
 (.ret))⟩
/-- entente/state.whole -/
def c109 : AFn := ⟨20, [.cell 2 9 true], .seq (.ops false [o1 1 (.box (tp 0)),
  o1 2 (.alloc [(.int .i64 0), (.int .i64 0), (.sl hA true []), (.str []), (.sl hB true []), (.int .i64 0), (.int .i64 0), (.sl hA true []), (.bool false)])])
 (.seq (.ops false [o1 3 (.fldA 0 (tp 1)),
  o1 4 (.fldA 2 (tp 3)),
  o1 5 (.load 1 false (tp 4)),
  o1 6 (.call (.con (.fn 99 [] [])) [(tp 5)]),
  o1 7 (.fldA 0 (tp 1)),
  o1 8 (.fldA 2 (tp 7)),
  ⟨none, .store 1 (tp 8) (tp 6), none, []⟩])
 (.seq (.ops false [o1 9 (.fldA 3 (tp 1)),
  o1 10 (.fldA 1 (tp 9)),
  o1 11 (.load 1 false (tp 10)),
  o1 12 (.call (.con (.fn 147 [] [])) [(tp 11)]),
  o1 13 (.fldA 3 (tp 1)),
  o1 14 (.fldA 1 (tp 13)),
  ⟨none, .store 1 (tp 14) (tp 12), none, []⟩])
 (.seq (.ops false [o1 15 (.fldA 7 (tp 1)),
  o1 16 (.load 1 false (tp 15)),
  o1 17 (.call (.con (.fn 148 [] [])) [(tp 16)]),
  o1 18 (.fldA 7 (tp 1)),
  ⟨none, .store 1 (tp 18) (tp 17), none, []⟩])
 (.seq (.ops false [o1 19 (.load 9 true (tp 1)),
  ⟨none, .store 9 (tp 2) (tp 19), none, []⟩])
 (.ret)))))⟩
/-- entente/book.Find -/
def c110 : AFn := ⟨26, [.cell 4 2 true, .tmp 5], .seq (.ops false [o1 4 (.alloc [(.str []), (.sl hB true [])]),
  o1 5 (.mv (.con (.d (.bool false))))])
 (.seq (.seq (.ops false [o1 8 (.mv (tp 0)),
  o1 9 (.call (.con (.fn 102 [] [])) [(tp 8)]),
  o1 10 (.bin .neq 0 [] (tp 9) (ci 0))])
 (.cond (tp 10) (.seq (.ops false [o1 11 (.build [(.str []), (.sl hB true [])] []),
  ⟨none, .store 2 (tp 4) (tp 11), none, []⟩,
  o1 5 (.mv (.con (.d (.bool false))))])
 (.ret)) (.skip)))
 (.seq (.ops false [o1 13 (.mv (tp 0)),
  o1 14 (.mv (tp 1)),
  o1 15 (.call (.con (.fn 161 [] [])) [(tp 13), (tp 14)]),
  o1 12 (.mv (tp 15)),
  o1 16 (.ext 0 (tp 12)),
  o1 17 (.ext 1 (tp 12)),
  o1 6 (.mv (tp 16)),
  o1 7 (.mv (tp 17))])
 (.seq (.seq (.ops false [o1 18 (.mv (tp 7)),
  o1 19 (.un .not (tp 18))])
 (.cond (tp 19) (.seq (.ops false [o1 20 (.build [(.str []), (.sl hB true [])] []),
  ⟨none, .store 2 (tp 4) (tp 20), none, []⟩,
  o1 5 (.mv (.con (.d (.bool false))))])
 (.ret)) (.skip)))
 (.seq (.ops false [o1 21 (.mv (tp 0)),
  o1 22 (.mv (tp 6)),
  o1 23 (.ixS (.agg [.str, (.sl hB)]) (tp 21) (tp 22)),
  o1 24 (.load 2 true (tp 23)),
  o1 25 (.call (.con (.fn 162 [] [])) [(tp 24)]),
  ⟨none, .store 2 (tp 4) (tp 25), none, []⟩,
  o1 5 (.mv (.con (.d (.bool true))))])
 (.ret)))))⟩
/-- entente/child.refused -/
def c111 : AFn := ⟨25, [.cell 6 2 true], .seq (.ops false [o1 3 (.box (tp 0)),
  o1 6 (.alloc [(.sl (.agg [(.int .i64), (.int .i64), (.int .i64), (.sl hA), (.int .i64), (.int .i64), .str, (.sl hB)]) true []), (.sl (.agg [(.int .i64), (.int .i64), (.int .i64), (.sl hA), .str, (.int .i64)]) true [])])])
 (.seq (.seq (.ops false [o1 7 (.mv (tp 1)),
  o1 8 (.un .not (tp 7))])
 (.cond (tp 8) (.seq (.ops false [o1 9 (.load 3 true (tp 3)),
  o1 10 (.call (.con (.fn 48 [] [])) [(tp 9)]),
  o1 11 (.build [(.int .i64 0), (.int .i64 0), (.int .i64 0), (.sl hA true []), (.str []), (.int .i64 0)] [(0, 1, (ci 6)), (1, 3, (tp 10)), (5, 1, (ci 9))]),
  o1 12 (.buildSl (.agg [(.int .i64), (.int .i64), (.int .i64), (.sl hA), .str, (.int .i64)]) [(.int .i64 0), (.int .i64 0), (.int .i64 0), (.sl hA true []), (.str []), (.int .i64 0)] 1 [(0, 6, (tp 11))]),
  o1 13 (.build [(.sl (.agg [(.int .i64), (.int .i64), (.int .i64), (.sl hA), (.int .i64), (.int .i64), .str, (.sl hB)]) true []), (.sl (.agg [(.int .i64), (.int .i64), (.int .i64), (.sl hA), .str, (.int .i64)]) true [])] [(1, 1, (tp 12))]),
  ⟨none, .store 2 (tp 6) (tp 13), none, []⟩])
 (.ret)) (.skip)))
 (.seq (.ops true [o1 14 (.load 3 true (tp 3)),
  o2 15 (.call (.con (.fn 48 [] [])) [(tp 14)]) [0],
  o1 16 (.mv (tp 2)),
  o2 17 (.build [(.int .i64 0), (.int .i64 0), (.int .i64 0), (.sl hA true []), (.int .i64 0), (.int .i64 0), (.str []), (.sl hB true [])] [(0, 1, (ci 2)), (1, 3, (tp 15)), (5, 1, (tp 16))]) [1, 2],
  o2 18 (.buildSl (.agg [(.int .i64), (.int .i64), (.int .i64), (.sl hA), (.int .i64), (.int .i64), .str, (.sl hB)]) [(.int .i64 0), (.int .i64 0), (.int .i64 0), (.sl hA true []), (.int .i64 0), (.int .i64 0), (.str []), (.sl hB true [])] 1 [(0, 8, (tp 17))]) [3],
  o1 19 (.load 3 true (tp 3)),
  o2 20 (.call (.con (.fn 48 [] [])) [(tp 19)]) [1, 5],
  o1 21 (.mv (tp 2)),
  o2 22 (.build [(.int .i64 0), (.int .i64 0), (.int .i64 0), (.sl hA true []), (.str []), (.int .i64 0)] [(0, 1, (ci 6)), (1, 3, (tp 20)), (5, 1, (tp 21))]) [6, 7],
  o2 23 (.buildSl (.agg [(.int .i64), (.int .i64), (.int .i64), (.sl hA), .str, (.int .i64)]) [(.int .i64 0), (.int .i64 0), (.int .i64 0), (.sl hA true []), (.str []), (.int .i64 0)] 1 [(0, 6, (tp 22))]) [8],
  o2 24 (.build [(.sl (.agg [(.int .i64), (.int .i64), (.int .i64), (.sl hA), (.int .i64), (.int .i64), .str, (.sl hB)]) true []), (.sl (.agg [(.int .i64), (.int .i64), (.int .i64), (.sl hA), .str, (.int .i64)]) true [])] [(0, 1, (tp 18)), (1, 1, (tp 23))]) [4, 9],
  ⟨none, .store 2 (tp 6) (tp 24), none, [0, 1, 2, 3, 4, 5, 6, 7, 8, 9, 10]⟩])
 (.ret)))⟩
/-- slices.ContainsFunc[[]entente/api.Part,entente/api.Part] -/
def c112 : AFn := ⟨9, [.tmp 4], .seq (.ops false [o1 4 (.mv (.con (.d (.bool false))))])
 (.seq (.ops false [o1 5 (.mv (tp 0)),
  o1 6 (.mv (tp 1)),
  o1 7 (.call (.con (.fn 137 [] [])) [(tp 5), (tp 6)]),
  o1 8 (.bin .geq 0 [] (tp 7) (ci 0)),
  o1 4 (.mv (tp 8))])
 (.ret))⟩
/-- entente/child.known$1 -/
def c113 : AFn := ⟨6, [.tmp 2], .seq (.ops false [o1 1 (.box (tp 0)),
  o1 2 (.mv (.con (.d (.bool false))))])
 (.seq (.ops false [o1 3 (.fldA 0 (tp 1)),
  o1 4 (.load 1 false (tp 3)),
  o1 5 (.bin .eql 0 [] (tp 4) (ci 3)),
  o1 2 (.mv (tp 5))])
 (.ret))⟩
/-- entente/ententeref06.Name -/
def c117 : AFn := ⟨53, [.tmp 2], .seq (.ops false [o1 2 (.mv (.con (.d (.bool false))))])
 (.seq (.seq (.ops false [o1 6 (.mv (tp 0)),
  o1 7 (.len 0 (tp 6)),
  o1 8 (.bin .lss 0 [] (tp 7) (ci 1)),
  o1 9 (.mv (tp 8)),
  o3 10 (.mv (tp 0)) 9 false [],
  o3 11 (.len 0 (tp 10)) 9 false [],
  o3 12 (.bin .gtr 0 [] (tp 11) (ci 16)) 9 false [],
  o1 13 (.pick (tp 9) (.con (.d (.bool true))) (tp 12))])
 (.cond (tp 13) (.seq (.ops false [o1 2 (.mv (.con (.d (.bool false))))])
 (.ret)) (.skip)))
 (.seq (.seq (.ops false [o1 3 (.mv (ci 0))])
 (.block 0 (.loop 0 (some ([0, 3], [0, 1, 2, 3, 4, 5, 6, 7])) (.seq (.seq (.ops false [o1 14 (.mv (tp 3)),
  o1 15 (.mv (tp 0)),
  o1 16 (.len 0 (tp 15)),
  o1 17 (.bin .lss 0 [] (tp 14) (tp 16))])
 (.cond (tp 17) (.skip) (.exit 0)))
 (.seq (.block 1 (.seq (.ops false [o1 20 (.mv (tp 0)),
  o1 21 (.mv (tp 3)),
  o1 22 (.ixStr (tp 20) (tp 21)),
  o1 23 (.bin .geq 0 [] (tp 22) (.con (.d (.int .u8 97)))),
  o1 24 (.mv (tp 23)),
  o3 25 (.mv (tp 0)) 24 true [],
  o3 26 (.mv (tp 3)) 24 true [],
  o3 27 (.ixStr (tp 25) (tp 26)) 24 true [],
  o3 28 (.bin .leq 0 [] (tp 27) (.con (.d (.int .u8 122)))) 24 true [],
  o1 29 (.pick (tp 24) (tp 28) (.con (.d (.bool false)))),
  o1 4 (.mv (tp 29))])
 (.seq (.ops false [o1 30 (.mv (tp 0)),
  o1 31 (.mv (tp 3)),
  o1 32 (.ixStr (tp 30) (tp 31)),
  o1 33 (.bin .geq 0 [] (tp 32) (.con (.d (.int .u8 48)))),
  o1 34 (.mv (tp 33)),
  o3 35 (.mv (tp 0)) 34 true [],
  o3 36 (.mv (tp 3)) 34 true [],
  o3 37 (.ixStr (tp 35) (tp 36)) 34 true [],
  o3 38 (.bin .leq 0 [] (tp 37) (.con (.d (.int .u8 57)))) 34 true [],
  o1 39 (.pick (tp 34) (tp 38) (.con (.d (.bool false)))),
  o1 5 (.mv (tp 39))])
 (.seq (.ops false [o1 40 (.mv (tp 4)),
  o1 41 (.un .not (tp 40)),
  o1 42 (.mv (tp 41)),
  o3 43 (.mv (tp 5)) 42 true [],
  o3 44 (.un .not (tp 43)) 42 true [],
  o1 45 (.pick (tp 42) (tp 44) (.con (.d (.bool false)))),
  o1 46 (.mv (tp 45)),
  o3 47 (.mv (tp 3)) 46 false [],
  o3 48 (.bin .eql 0 [] (tp 47) (ci 0)) 46 false [],
  o3 49 (.mv (tp 48)) 46 false [],
  o3 50 (.mv (tp 5)) 49 true [],
  o3 51 (.pick (tp 49) (tp 50) (.con (.d (.bool false)))) 46 false [],
  o1 52 (.pick (tp 46) (.con (.d (.bool true))) (tp 51))])
 (.cond (tp 52) (.seq (.ops false [o1 2 (.mv (.con (.d (.bool false))))])
 (.ret)) (.skip))))))
 (.ops false [o1 18 (.mv (tp 3)),
  o1 19 (.bin .add 0 [] (tp 18) (ci 1)),
  o1 3 (.mv (tp 19))]))))))
 (.seq (.ops false [o1 2 (.mv (.con (.d (.bool true))))])
 (.ret))))⟩
/-- entente/lexic.Scan -/
def c122 : AFn := ⟨25, [.tmp 2, .cell 3 2 true], .seq (.ops false [o1 2 (.mv (.con (.d (.sl (.agg [(.int .i64), .str, (.int .i64)]) true [])))),
  o1 3 (.alloc [(.int .i64 0), (.int .i64 0)])])
 (.seq (.seq (.ops false [o1 6 (.mv (tp 0)),
  o1 7 (.len 0 (tp 6)),
  o1 8 (.bin .gtr 0 [] (tp 7) (ci 2000))])
 (.cond (tp 8) (.seq (.ops false [o1 9 (.build [(.int .i64 0), (.int .i64 0)] [(0, 1, (ci 3))]),
  o1 2 (.mv (.con (.d (.sl (.agg [(.int .i64), .str, (.int .i64)]) true [])))),
  ⟨none, .store 2 (tp 3) (tp 9), none, []⟩])
 (.ret)) (.skip)))
 (.seq (.ops false [o1 10 (.mv (tp 0)),
  o1 11 (.build [(.str []), (.int .i64 0)] [(0, 1, (tp 10))]),
  o1 12 (.build [(.str []), (.int .i64 0), (.sl (.agg [(.int .i64), .str, (.int .i64)]) true [])] [(0, 2, (tp 11))]),
  o1 13 (.box (tp 12)),
  o1 4 (.mv (tp 13))])
 (.seq (.seq (.ops false [o1 14 (.mv (tp 4)),
  o1 15 (.call (.con (.fn 171 [] [])) [(tp 14)]),
  o1 5 (.mv (tp 15))])
 (.seq (.ops false [o1 16 (.mv (tp 5)),
  o1 17 (.bin .geq 0 [] (tp 16) (ci 0))])
 (.cond (tp 17) (.seq (.ops false [o1 18 (.mv (tp 5)),
  o1 19 (.build [(.int .i64 0), (.int .i64 0)] [(0, 1, (ci 80)), (1, 1, (tp 18))]),
  o1 2 (.mv (.con (.d (.sl (.agg [(.int .i64), .str, (.int .i64)]) true [])))),
  ⟨none, .store 2 (tp 3) (tp 19), none, []⟩])
 (.ret)) (.skip))))
 (.seq (.ops false [o1 20 (.mv (tp 4)),
  o1 21 (.nilck (tp 20)),
  o1 22 (.fldA 2 (tp 21)),
  o1 23 (.load 1 false (tp 22)),
  o1 24 (.build [(.int .i64 0), (.int .i64 0)] []),
  o1 2 (.mv (tp 23)),
  ⟨none, .store 2 (tp 3) (tp 24), none, []⟩])
 (.ret)))))⟩
/-- entente/def.Parse -/
def c123 : AFn := ⟨64, [.cell 4 2 true, .tmp 5, .cell 6 2 true], .seq (.ops false [o1 4 (.alloc [(.str []), (.sl hB true [])]),
  o1 5 (.mv (ci 0)),
  o1 6 (.alloc [(.int .i64 0), (.int .i64 0)])])
 (.seq (.block 0 (.seq (.ops false [o1 11 (.mv (tp 0)),
  o1 12 (.call (.con (.fn 172 [] [])) [(tp 11)]),
  o1 13 (.bin .eql 0 [] (tp 12) (ci 80)),
  o1 10 (.mv (tp 13))])
 (.cond (tp 10) (.seq (.ops false [o1 14 (.build [(.str []), (.sl hB true [])] []),
  o1 15 (.build [(.int .i64 0), (.int .i64 0)] [(0, 1, (ci 80))]),
  ⟨none, .store 2 (tp 4) (tp 14), none, []⟩,
  o1 5 (.mv (ci 0)),
  ⟨none, .store 2 (tp 6) (tp 15), none, []⟩])
 (.ret)) (.seq (.ops false [o1 17 (.mv (tp 1)),
  o1 18 (.bin .lss 0 [] (tp 17) (ci 0)),
  o1 19 (.mv (tp 18)),
  o3 20 (.mv (tp 1)) 19 false [],
  o3 21 (.mv (tp 0)) 19 false [],
  o3 22 (.len 1 (tp 21)) 19 false [],
  o3 23 (.bin .geq 0 [] (tp 20) (tp 22)) 19 false [],
  o1 24 (.pick (tp 19) (.con (.d (.bool true))) (tp 23)),
  o1 16 (.mv (tp 24))])
 (.cond (tp 16) (.seq (.ops false [o1 25 (.build [(.str []), (.sl hB true [])] []),
  o1 26 (.build [(.int .i64 0), (.int .i64 0)] [(0, 1, (ci 2))]),
  ⟨none, .store 2 (tp 4) (tp 25), none, []⟩,
  o1 5 (.mv (ci 0)),
  ⟨none, .store 2 (tp 6) (tp 26), none, []⟩])
 (.ret)) (.skip))))))
 (.seq (.ops false [o1 27 (.mv (tp 0)),
  o1 28 (.mv (tp 1)),
  o1 29 (.build [(.sl (.agg [(.int .i64), .str, (.int .i64)]) true []), (.int .i64 0)] [(0, 1, (tp 27)), (1, 1, (tp 28))]),
  o1 30 (.build [(.sl (.agg [(.int .i64), .str, (.int .i64)]) true []), (.int .i64 0), (.bool false)] [(0, 2, (tp 29))]),
  o1 31 (.box (tp 30)),
  o1 7 (.mv (tp 31))])
 (.seq (.ops false [o1 32 (.mv (tp 7)),
  o1 33 (.call (.con (.fn 173 [] [])) [(tp 32)]),
  o1 8 (.alloc [(.str []), (.sl hB true [])]),
  ⟨none, .store 2 (tp 8) (tp 33), none, []⟩])
 (.seq (.seq (.ops false [o1 34 (.mv (tp 7)),
  o1 35 (.nilck (tp 34)),
  o1 36 (.fldA 2 (tp 35)),
  o1 37 (.load 1 false (tp 36))])
 (.cond (tp 37) (.seq (.ops false [o1 38 (.build [(.str []), (.sl hB true [])] []),
  o1 39 (.mv (tp 7)),
  o1 40 (.nilck (tp 39)),
  o1 41 (.fldA 0 (tp 40)),
  o1 42 (.call (.con (.fn 174 [] [])) [(tp 41)]),
  o1 43 (.fld 2 1 false (tp 42)),
  o1 44 (.build [(.int .i64 0), (.int .i64 0)] [(0, 1, (ci 81)), (1, 1, (tp 43))]),
  ⟨none, .store 2 (tp 4) (tp 38), none, []⟩,
  o1 5 (.mv (ci 0)),
  ⟨none, .store 2 (tp 6) (tp 44), none, []⟩])
 (.ret)) (.skip)))
 (.seq (.seq (.ops false [o1 45 (.load 2 true (tp 8)),
  o1 46 (.call (.con (.fn 76 [] [])) [(tp 45)]),
  o1 9 (.mv (tp 46))])
 (.seq (.ops false [o1 47 (.mv (tp 9)),
  o1 48 (.bin .neq 0 [] (tp 47) (ci 0))])
 (.cond (tp 48) (.seq (.ops true [o1 49 (.build [(.str []), (.sl hB true [])] []),
  o1 50 (.mv (tp 9)),
  o1 51 (.mv (tp 0)),
  o1 52 (.mv (tp 1)),
  o2 53 (.ixS (.agg [(.int .i64), .str, (.int .i64)]) (tp 51) (tp 52)) [2, 3],
  o2 54 (.fldA 2 (tp 53)) [4],
  o2 55 (.load 1 false (tp 54)) [5],
  o2 56 (.build [(.int .i64 0), (.int .i64 0)] [(0, 1, (tp 50)), (1, 1, (tp 55))]) [1, 6],
  ⟨none, .store 2 (tp 4) (tp 49), none, [0]⟩,
  o2 5 (.mv (ci 0)) [0, 8],
  ⟨none, .store 2 (tp 6) (tp 56), none, [0, 1, 2, 3, 4, 5, 6, 7, 8, 9]⟩])
 (.ret)) (.skip))))
 (.seq (.ops true [o1 57 (.load 2 true (tp 8)),
  o1 58 (.mv (tp 7)),
  o2 59 (.nilck (tp 58)) [1],
  o2 60 (.fldA 0 (tp 59)) [2],
  o2 61 (.fldA 1 (tp 60)) [3],
  o2 62 (.load 1 false (tp 61)) [4],
  o1 63 (.build [(.int .i64 0), (.int .i64 0)] []),
  ⟨none, .store 2 (tp 4) (tp 57), none, [0]⟩,
  o2 5 (.mv (tp 62)) [0, 1, 2, 3, 4, 5, 7],
  ⟨none, .store 2 (tp 6) (tp 63), none, [0, 1, 2, 3, 4, 5, 6, 7, 8]⟩])
 (.ret)))))))⟩
/-- internal/strconv.Itoa -/
def c124 : AFn := ⟨5, [.tmp 2], .seq (.ops false [o1 2 (.mv (.con (.d (.str []))))])
 (.seq (.ops false [o1 3 (.mv (tp 0)),
  o1 4 (.call (.con (.fn 175 [] [])) [(tp 3), (ci 10)]),
  o1 2 (.mv (tp 4))])
 (.ret))⟩
/-- slices.ContainsFunc[[]entente/api.Hop,entente/api.Hop] -/
def c125 : AFn := ⟨9, [.tmp 4], .seq (.ops false [o1 4 (.mv (.con (.d (.bool false))))])
 (.seq (.ops false [o1 5 (.mv (tp 0)),
  o1 6 (.mv (tp 1)),
  o1 7 (.call (.con (.fn 176 [] [])) [(tp 5), (tp 6)]),
  o1 8 (.bin .geq 0 [] (tp 7) (ci 0)),
  o1 4 (.mv (tp 8))])
 (.ret))⟩
/-- entente/ident.Check$1 -/
def c126 : AFn := ⟨11, [.tmp 2], .seq (.ops false [o1 1 (.box (tp 0)),
  o1 2 (.mv (.con (.d (.bool false))))])
 (.seq (.ops false [o1 3 (.fldA 0 (tp 1)),
  o1 4 (.load 1 false (tp 3)),
  o1 5 (.bin .lss 0 [] (tp 4) (ci 0)),
  o1 6 (.mv (tp 5)),
  o3 7 (.fldA 0 (tp 1)) 6 false [],
  o3 8 (.load 1 false (tp 7)) 6 false [],
  o3 9 (.bin .geq 0 [] (tp 8) (ci 8)) 6 false [],
  o1 10 (.pick (tp 6) (.con (.d (.bool true))) (tp 9)),
  o1 2 (.mv (tp 10))])
 (.ret))⟩
/-- slices.ContainsFunc[[]entente/api.Step,entente/api.Step] -/
def c127 : AFn := ⟨9, [.tmp 4], .seq (.ops false [o1 4 (.mv (.con (.d (.bool false))))])
 (.seq (.ops false [o1 5 (.mv (tp 0)),
  o1 6 (.mv (tp 1)),
  o1 7 (.call (.con (.fn 177 [] [])) [(tp 5), (tp 6)]),
  o1 8 (.bin .geq 0 [] (tp 7) (ci 0)),
  o1 4 (.mv (tp 8))])
 (.ret))⟩
/-- entente/def.Check$1 -/
def c128 : AFn := ⟨11, [.tmp 2], .seq (.ops false [o1 1 (.box (tp 0)),
  o1 2 (.mv (.con (.d (.bool false))))])
 (.seq (.ops false [o1 3 (.load 7 true (tp 1)),
  o1 4 (.call (.con (.fn 129 [] [])) [(tp 3)]),
  o1 5 (.un .not (tp 4)),
  o1 6 (.mv (tp 5)),
  o3 7 (.load 7 true (tp 1)) 6 true [],
  o3 8 (.call (.con (.fn 130 [] [])) [(tp 7)]) 6 true [],
  o3 9 (.un .not (tp 8)) 6 true [],
  o1 10 (.pick (tp 6) (tp 9) (.con (.d (.bool false)))),
  o1 2 (.mv (tp 10))])
 (.ret))⟩
/-- entente/def.own -/
def c129 : AFn := ⟨32, [.tmp 2], .seq (.ops false [o1 1 (.box (tp 0)),
  o1 2 (.mv (.con (.d (.bool false))))])
 (.seq (.ops false [o1 3 (.fldA 4 (tp 1)),
  o1 4 (.load 1 false (tp 3)),
  o1 5 (.bin .eql 0 [] (tp 4) (.con (.d (.str [])))),
  o1 6 (.mv (tp 5)),
  o3 7 (.fldA 0 (tp 1)) 6 true [],
  o3 8 (.load 3 true (tp 7)) 6 true [],
  o3 9 (.call (.con (.fn 157 [] [])) [(tp 8)]) 6 true [],
  o3 10 (.bin .eql 0 [] (tp 9) (ci 0)) 6 true [],
  o1 11 (.pick (tp 6) (tp 10) (.con (.d (.bool false)))),
  o1 12 (.mv (tp 11)),
  o3 13 (.fldA 3 (tp 1)) 12 true [],
  o3 14 (.load 1 false (tp 13)) 12 true [],
  o3 15 (.bin .eql 0 [] (tp 14) (ci 0)) 12 true [],
  o1 16 (.pick (tp 12) (tp 15) (.con (.d (.bool false)))),
  o1 17 (.mv (tp 16)),
  o3 18 (.fldA 6 (tp 1)) 17 true [],
  o3 19 (.load 1 false (tp 18)) 17 true [],
  o3 20 (.bin .eql 0 [] (tp 19) (ci 0)) 17 true [],
  o1 21 (.pick (tp 17) (tp 20) (.con (.d (.bool false)))),
  o1 22 (.mv (tp 21)),
  o3 23 (.fldA 5 (tp 1)) 22 true [],
  o3 24 (.load 1 false (tp 23)) 22 true [],
  o3 25 (.bin .geq 0 [] (tp 24) (ci 1)) 22 true [],
  o1 26 (.pick (tp 22) (tp 25) (.con (.d (.bool false)))),
  o1 27 (.mv (tp 26)),
  o3 28 (.fldA 5 (tp 1)) 27 true [],
  o3 29 (.load 1 false (tp 28)) 27 true [],
  o3 30 (.bin .leq 0 [] (tp 29) (ci 5)) 27 true [],
  o1 31 (.pick (tp 27) (tp 30) (.con (.d (.bool false)))),
  o1 2 (.mv (tp 31))])
 (.ret))⟩
/-- entente/def.asks -/
def c130 : AFn := ⟨37, [.tmp 2], .seq (.ops false [o1 1 (.box (tp 0)),
  o1 2 (.mv (.con (.d (.bool false))))])
 (.seq (.ops false [o1 3 (.fldA 4 (tp 1)),
  o1 4 (.load 1 false (tp 3)),
  o1 5 (.call (.con (.fn 106 [] [])) [(tp 4)]),
  o1 6 (.mv (tp 5)),
  o3 7 (.fldA 0 (tp 1)) 6 true [],
  o3 8 (.load 3 true (tp 7)) 6 true [],
  o3 9 (.build [(.int .i64 0), (.str []), (.int .i64 0)] []) 6 true [],
  o3 10 (.bin .eql 6 [(.int .i64), .str, (.int .i64)] (tp 8) (tp 9)) 6 true [],
  o1 11 (.pick (tp 6) (tp 10) (.con (.d (.bool false)))),
  o1 12 (.mv (tp 11)),
  o3 13 (.fldA 5 (tp 1)) 12 true [],
  o3 14 (.load 1 false (tp 13)) 12 true [],
  o3 15 (.bin .eql 0 [] (tp 14) (ci 0)) 12 true [],
  o1 16 (.pick (tp 12) (tp 15) (.con (.d (.bool false)))),
  o1 17 (.mv (tp 16)),
  o3 18 (.fldA 3 (tp 1)) 17 true [],
  o3 19 (.load 1 false (tp 18)) 17 true [],
  o3 20 (.bin .geq 0 [] (tp 19) (ci 0)) 17 true [],
  o1 21 (.pick (tp 17) (tp 20) (.con (.d (.bool false)))),
  o1 22 (.mv (tp 21)),
  o3 23 (.fldA 3 (tp 1)) 22 true [],
  o3 24 (.load 1 false (tp 23)) 22 true [],
  o3 25 (.bin .lss 0 [] (tp 24) (ci 16)) 22 true [],
  o1 26 (.pick (tp 22) (tp 25) (.con (.d (.bool false)))),
  o1 27 (.mv (tp 26)),
  o3 28 (.fldA 6 (tp 1)) 27 true [],
  o3 29 (.load 1 false (tp 28)) 27 true [],
  o3 30 (.bin .geq 0 [] (tp 29) (ci 1)) 27 true [],
  o1 31 (.pick (tp 27) (tp 30) (.con (.d (.bool false)))),
  o1 32 (.mv (tp 31)),
  o3 33 (.fldA 6 (tp 1)) 32 true [],
  o3 34 (.load 1 false (tp 33)) 32 true [],
  o3 35 (.bin .leq 0 [] (tp 34) (ci 50)) 32 true [],
  o1 36 (.pick (tp 32) (tp 35) (.con (.d (.bool false)))),
  o1 2 (.mv (tp 36))])
 (.ret))⟩
/-- (*entente/saga.holder).running -/
def c131 : AFn := ⟨22, [.tmp 2], .seq (.ops false [o1 2 (.mv (.con (.d (.bool false))))])
 (.seq (.ops false [o1 3 (.mv (ci 0))])
 (.seq (.block 0 (.loop 0 (some ([0, 3], [0, 1, 2, 3, 4, 5, 6, 7, 1408, 1409, 1410, 1411, 1440, 1441])) (.seq (.seq (.ops false [o1 4 (.mv (tp 3)),
  o1 5 (.mv (tp 0)),
  o1 6 (.nilck (tp 5)),
  o1 7 (.fldA 0 (tp 6)),
  o1 8 (.fldA 7 (tp 7)),
  o1 9 (.load 1 false (tp 8)),
  o1 10 (.len 1 (tp 9)),
  o1 11 (.bin .lss 0 [] (tp 4) (tp 10)),
  o1 12 (.mv (tp 11)),
  o3 13 (.mv (tp 0)) 12 true [],
  o3 14 (.mv (tp 3)) 12 true [],
  o3 15 (.call (.con (.fn 132 [] [])) [(tp 13), (tp 14)]) 12 true [],
  o1 16 (.pick (tp 12) (tp 15) (.con (.d (.bool false))))])
 (.cond (tp 16) (.skip) (.exit 0)))
 (.block 1 (.ops false [o1 17 (.mv (tp 3)),
  o1 18 (.bin .add 0 [] (tp 17) (ci 1)),
  o1 3 (.mv (tp 18))])))))
 (.seq (.ops false [o1 19 (.mv (tp 0)),
  o1 20 (.mv (tp 3)),
  o1 21 (.call (.con (.fn 178 [] [])) [(tp 19), (tp 20)]),
  o1 2 (.mv (tp 21))])
 (.ret))))⟩
/-- (*entente/saga.holder).got -/
def c132 : AFn := ⟨20, [.tmp 4], .seq (.ops false [o1 4 (.mv (.con (.d (.bool false))))])
 (.seq (.ops false [o1 5 (.mv (tp 0)),
  o1 6 (.mv (tp 1)),
  o1 7 (.buildSl (.int .i64) [(.int .i64 0)] 1 [(0, 1, (ci 2))]),
  o1 8 (.call (.con (.fn 98 [] [])) [(tp 5), (tp 6), (tp 7)]),
  o1 9 (.mv (tp 8)),
  o3 10 (.mv (tp 0)) 9 false [],
  o3 11 (.mv (tp 1)) 9 false [],
  o3 12 (.call (.con (.fn 79 [] [])) [(tp 10), (tp 11)]) 9 false [],
  o3 13 (.mv (tp 12)) 9 false [],
  o3 14 (.mv (tp 0)) 13 true [],
  o3 15 (.mv (tp 1)) 13 true [],
  o3 16 (.buildSl (.int .i64) [(.int .i64 0)] 1 [(0, 1, (ci 3))]) 13 true [],
  o3 17 (.call (.con (.fn 98 [] [])) [(tp 14), (tp 15), (tp 16)]) 13 true [],
  o3 18 (.pick (tp 13) (tp 17) (.con (.d (.bool false)))) 9 false [],
  o1 19 (.pick (tp 9) (.con (.d (.bool true))) (tp 18)),
  o1 4 (.mv (tp 19))])
 (.ret))⟩
/-- (*entente/saga.holder).fits$1 -/
def c133 : AFn := ⟨14, [.tmp 3], .seq (.ops false [o1 3 (.mv (.con (.d (.bool false))))])
 (.seq (.ops false [o1 4 (.load 1 false (tp 1)),
  o1 5 (.mv (tp 0)),
  o1 6 (.call (.con (.fn 79 [] [])) [(tp 4), (tp 5)]),
  o1 7 (.mv (tp 6)),
  o3 8 (.load 1 false (tp 1)) 7 false [],
  o3 9 (.mv (tp 0)) 7 false [],
  o3 10 (.buildSl (.int .i64) [(.int .i64 0)] 1 [(0, 1, (ci 2))]) 7 false [],
  o3 11 (.call (.con (.fn 98 [] [])) [(tp 8), (tp 9), (tp 10)]) 7 false [],
  o3 12 (.un .not (tp 11)) 7 false [],
  o1 13 (.pick (tp 7) (.con (.d (.bool true))) (tp 12)),
  o1 3 (.mv (tp 13))])
 (.ret))⟩
/-- (*entente/saga.holder).fits$2 -/
def c134 : AFn := ⟨19, [.tmp 3], .seq (.ops false [o1 3 (.mv (.con (.d (.bool false))))])
 (.seq (.ops false [o1 4 (.load 1 false (tp 1)),
  o1 5 (.mv (tp 0)),
  o1 6 (.buildSl (.int .i64) [(.int .i64 0)] 1 [(0, 1, (ci 4))]),
  o1 7 (.call (.con (.fn 98 [] [])) [(tp 4), (tp 5), (tp 6)]),
  o1 8 (.mv (tp 7)),
  o3 9 (.load 1 false (tp 1)) 8 false [],
  o3 10 (.mv (tp 0)) 8 false [],
  o3 11 (.call (.con (.fn 79 [] [])) [(tp 9), (tp 10)]) 8 false [],
  o3 12 (.mv (tp 11)) 8 false [],
  o3 13 (.load 1 false (tp 1)) 12 true [],
  o3 14 (.mv (tp 0)) 12 true [],
  o3 15 (.buildSl (.int .i64) [(.int .i64 0)] 1 [(0, 1, (ci 2))]) 12 true [],
  o3 16 (.call (.con (.fn 98 [] [])) [(tp 13), (tp 14), (tp 15)]) 12 true [],
  o3 17 (.pick (tp 12) (tp 16) (.con (.d (.bool false)))) 8 false [],
  o1 18 (.pick (tp 8) (.con (.d (.bool true))) (tp 17)),
  o1 3 (.mv (tp 18))])
 (.ret))⟩
/-- (*entente/saga.holder).fits$3 -/
def c135 : AFn := ⟨14, [.tmp 3], .seq (.ops false [o1 3 (.mv (.con (.d (.bool false))))])
 (.seq (.ops false [o1 4 (.load 1 false (tp 1)),
  o1 5 (.mv (tp 0)),
  o1 6 (.call (.con (.fn 79 [] [])) [(tp 4), (tp 5)]),
  o1 7 (.mv (tp 6)),
  o3 8 (.load 1 false (tp 1)) 7 false [],
  o3 9 (.mv (tp 0)) 7 false [],
  o3 10 (.buildSl (.int .i64) [(.int .i64 0)] 2 [(0, 1, (ci 2)), (1, 1, (ci 4))]) 7 false [],
  o3 11 (.call (.con (.fn 98 [] [])) [(tp 8), (tp 9), (tp 10)]) 7 false [],
  o3 12 (.un .not (tp 11)) 7 false [],
  o1 13 (.pick (tp 7) (.con (.d (.bool true))) (tp 12)),
  o1 3 (.mv (tp 13))])
 (.ret))⟩
/-- entente/ententeref09.Check -/
def c136 : AFn := ⟨34, [.tmp 2], .seq (.ops false [o1 1 (.box (tp 0)),
  o1 2 (.mv (ci 0))])
 (.seq (.seq (.ops false [o1 4 (.fldA 0 (tp 1)),
  o1 5 (.load 1 false (tp 4)),
  o1 6 (.call (.con (.fn 117 [] [])) [(tp 5)]),
  o1 7 (.un .not (tp 6)),
  o1 8 (.mv (tp 7)),
  o3 9 (.fldA 1 (tp 1)) 8 false [],
  o3 10 (.load 1 false (tp 9)) 8 false [],
  o3 11 (.len 1 (tp 10)) 8 false [],
  o3 12 (.bin .lss 0 [] (tp 11) (ci 1)) 8 false [],
  o1 13 (.pick (tp 8) (.con (.d (.bool true))) (tp 12)),
  o1 14 (.mv (tp 13)),
  o3 15 (.fldA 1 (tp 1)) 14 false [],
  o3 16 (.load 1 false (tp 15)) 14 false [],
  o3 17 (.len 1 (tp 16)) 14 false [],
  o3 18 (.bin .gtr 0 [] (tp 17) (ci 8)) 14 false [],
  o1 19 (.pick (tp 14) (.con (.d (.bool true))) (tp 18))])
 (.cond (tp 19) (.seq (.ops false [o1 2 (.mv (ci 90))])
 (.ret)) (.skip)))
 (.seq (.seq (.ops false [o1 3 (.mv (ci 0))])
 (.block 0 (.loop 0 (some ([1, 3], [0, 1, 2, 3, 4, 5, 6, 7, 128, 129, 130, 131, 160, 161, 448, 449, 450, 451, 480, 481])) (.seq (.seq (.ops false [o1 20 (.mv (tp 3)),
  o1 21 (.fldA 1 (tp 1)),
  o1 22 (.load 1 false (tp 21)),
  o1 23 (.len 1 (tp 22)),
  o1 24 (.bin .lss 0 [] (tp 20) (tp 23))])
 (.cond (tp 24) (.skip) (.exit 0)))
 (.seq (.block 1 (.seq (.ops false [o1 27 (.fldA 1 (tp 1)),
  o1 28 (.load 1 false (tp 27)),
  o1 29 (.mv (tp 3)),
  o1 30 (.ixS hB (tp 28) (tp 29)),
  o1 31 (.load 7 true (tp 30)),
  o1 32 (.call (.con (.fn 179 [] [])) [(tp 31)]),
  o1 33 (.un .not (tp 32))])
 (.cond (tp 33) (.seq (.ops false [o1 2 (.mv (ci 90))])
 (.ret)) (.skip))))
 (.ops false [o1 25 (.mv (tp 3)),
  o1 26 (.bin .add 0 [] (tp 25) (ci 1)),
  o1 3 (.mv (tp 26))]))))))
 (.seq (.ops false [o1 2 (.mv (ci 0))])
 (.ret))))⟩
/-- slices.IndexFunc[[]entente/api.Part,entente/api.Part] -/
def c137 : AFn := ⟨19, [.tmp 4], .seq (.ops false [o1 4 (.mv (ci 0))])
 (.seq (.seq (.ops false [o1 6 (.mv (tp 0)),
  o1 7 (.len 1 (tp 6)),
  o1 8 (.mv (ci 0))])
 (.block 0 (.loop 0 (some ([0, 1, 7, 8], [0, 1, 2, 3, 4, 5, 6, 7])) (.seq (.ops false [o1 9 (.bin .lss 0 [] (tp 8) (tp 7))])
 (.seq (.cond (tp 9) (.skip) (.exit 0))
 (.seq (.block 1 (.seq (.ops false [o1 10 (.mv (tp 8)),
  o1 5 (.mv (tp 10))])
 (.seq (.ops false [o1 11 (.mv (tp 1)),
  o1 12 (.mv (tp 0)),
  o1 13 (.mv (tp 5)),
  o1 14 (.ixS hA (tp 12) (tp 13)),
  o1 15 (.load 2 true (tp 14)),
  o1 16 (.call (tp 11) [(tp 15)])])
 (.cond (tp 16) (.seq (.ops false [o1 17 (.mv (tp 5)),
  o1 4 (.mv (tp 17))])
 (.ret)) (.skip)))))
 (.ops false [o1 18 (.bin .add 0 [] (tp 8) (ci 1)),
  o1 8 (.mv (tp 18))])))))))
 (.seq (.ops false [o1 4 (.mv (ci (-1)))])
 (.ret)))⟩
/-- (*entente/saga.holder).current$1 -/
def c138 : AFn := ⟨6, [.tmp 2], .seq (.ops false [o1 1 (.box (tp 0)),
  o1 2 (.mv (.con (.d (.bool false))))])
 (.seq (.ops false [o1 3 (.fldA 0 (tp 1)),
  o1 4 (.load 1 false (tp 3)),
  o1 5 (.bin .neq 0 [] (tp 4) (ci 2)),
  o1 2 (.mv (tp 5))])
 (.ret))⟩
/-- (*entente/saga.holder).some$1 -/
def c139 : AFn := ⟨10, [.tmp 4], .seq (.ops false [o1 4 (.mv (.con (.d (.bool false))))])
 (.seq (.ops false [o1 5 (.load 1 false (tp 1)),
  o1 6 (.mv (tp 0)),
  o1 7 (.load 1 false (tp 2)),
  o1 8 (.call (.con (.fn 98 [] [])) [(tp 5), (tp 6), (tp 7)]),
  o1 9 (.un .not (tp 8)),
  o1 4 (.mv (tp 9))])
 (.ret))⟩
/-- entente/record.noDef -/
def c140 : AFn := ⟨12, [.tmp 2], .seq (.ops false [o1 1 (.box (tp 0)),
  o1 2 (.mv (.con (.d (.bool false))))])
 (.seq (.ops false [o1 3 (.fldA 0 (tp 1)),
  o1 4 (.load 1 false (tp 3)),
  o1 5 (.bin .eql 0 [] (tp 4) (.con (.d (.str [])))),
  o1 6 (.mv (tp 5)),
  o3 7 (.fldA 1 (tp 1)) 6 true [],
  o3 8 (.load 1 false (tp 7)) 6 true [],
  o3 9 (.len 1 (tp 8)) 6 true [],
  o3 10 (.bin .eql 0 [] (tp 9) (ci 0)) 6 true [],
  o1 11 (.pick (tp 6) (tp 10) (.con (.d (.bool false)))),
  o1 2 (.mv (tp 11))])
 (.ret))⟩
/-- entente/record.kinds -/
def c141 : AFn := ⟨19, [.cell 0 34 true], .seq (.ops false [o1 0 (.allocA (.agg [.str, (.int .i64)]) [(.str []), (.int .i64 0), (.str []), (.int .i64 0), (.str []), (.int .i64 0), (.str []), (.int .i64 0), (.str []), (.int .i64 0), (.str []), (.int .i64 0), (.str []), (.int .i64 0), (.str []), (.int .i64 0), (.str []), (.int .i64 0), (.str []), (.int .i64 0), (.str []), (.int .i64 0), (.str []), (.int .i64 0), (.str []), (.int .i64 0), (.str []), (.int .i64 0), (.str []), (.int .i64 0), (.str []), (.int .i64 0), (.str []), (.int .i64 0)] 17)])
 (.seq (.ops false [o1 1 (.build [(.str []), (.int .i64 0)] []),
  o1 2 (.build [(.str []), (.int .i64 0)] [(0, 1, (.con (.d (.str [98, 101, 103, 105, 110])))), (1, 1, (ci 3))]),
  o1 3 (.build [(.str []), (.int .i64 0)] [(0, 1, (.con (.d (.str [114, 101, 102, 117, 115, 101])))), (1, 1, (ci 2))]),
  o1 4 (.build [(.str []), (.int .i64 0)] [(0, 1, (.con (.d (.str [102, 97, 105, 108])))), (1, 1, (ci 1))]),
  o1 5 (.build [(.str []), (.int .i64 0)] [(0, 1, (.con (.d (.str [100, 111])))), (1, 1, (ci 1))]),
  o1 6 (.build [(.str []), (.int .i64 0)] [(0, 1, (.con (.d (.str [97, 115, 107])))), (1, 1, (ci 1))]),
  o1 7 (.build [(.str []), (.int .i64 0)] [(0, 1, (.con (.d (.str [103, 111, 116])))), (1, 1, (ci 1))]),
  o1 8 (.build [(.str []), (.int .i64 0)] [(0, 1, (.con (.d (.str [108, 111, 115, 116])))), (1, 1, (ci 1))]),
  o1 9 (.build [(.str []), (.int .i64 0)] [(0, 1, (.con (.d (.str [104, 111, 108, 100])))), (1, 1, (ci 0))]),
  o1 10 (.build [(.str []), (.int .i64 0)] [(0, 1, (.con (.d (.str [99, 111, 109, 109, 105, 116])))), (1, 1, (ci 0))]),
  o1 11 (.build [(.str []), (.int .i64 0)] [(0, 1, (.con (.d (.str [98, 97, 99, 107])))), (1, 1, (ci 2))]),
  o1 12 (.build [(.str []), (.int .i64 0)] [(0, 1, (.con (.d (.str [117, 110, 100, 111])))), (1, 1, (ci 1))]),
  o1 13 (.build [(.str []), (.int .i64 0)] [(0, 1, (.con (.d (.str [106, 97, 109])))), (1, 1, (ci 1))]),
  o1 14 (.build [(.str []), (.int .i64 0)] [(0, 1, (.con (.d (.str [97, 103, 97, 105, 110])))), (1, 1, (ci 0))]),
  o1 15 (.build [(.str []), (.int .i64 0)] [(0, 1, (.con (.d (.str [101, 110, 100])))), (1, 1, (ci 0))]),
  o1 16 (.build [(.str []), (.int .i64 0)] [(0, 1, (.con (.d (.str [107, 101, 112, 116])))), (1, 1, (ci 1))]),
  o1 17 (.build [(.str []), (.int .i64 0)] [(0, 1, (.con (.d (.str [102, 111, 114, 99, 101])))), (1, 1, (ci 4))]),
  o1 18 (.build [(.str []), (.int .i64 0), (.str []), (.int .i64 0), (.str []), (.int .i64 0), (.str []), (.int .i64 0), (.str []), (.int .i64 0), (.str []), (.int .i64 0), (.str []), (.int .i64 0), (.str []), (.int .i64 0), (.str []), (.int .i64 0), (.str []), (.int .i64 0), (.str []), (.int .i64 0), (.str []), (.int .i64 0), (.str []), (.int .i64 0), (.str []), (.int .i64 0), (.str []), (.int .i64 0), (.str []), (.int .i64 0), (.str []), (.int .i64 0)] [(0, 2, (tp 1)), (2, 2, (tp 2)), (4, 2, (tp 3)), (6, 2, (tp 4)), (8, 2, (tp 5)), (10, 2, (tp 6)), (12, 2, (tp 7)), (14, 2, (tp 8)), (16, 2, (tp 9)), (18, 2, (tp 10)), (20, 2, (tp 11)), (22, 2, (tp 12)), (24, 2, (tp 13)), (26, 2, (tp 14)), (28, 2, (tp 15)), (30, 2, (tp 16)), (32, 2, (tp 17))]),
  ⟨none, .store 34 (tp 0) (tp 18), none, []⟩])
 (.ret))⟩
/-- entente/record.zero[int] -/
def c142 : AFn := ⟨16, [.tmp 2], .seq (.ops false [o1 2 (.mv (.con (.d (.bool false))))])
 (.seq (.ops false [o1 3 (.mv (ci 0))])
 (.seq (.seq (.ops false [o1 6 (.mv (tp 0)),
  o1 7 (.len 1 (tp 6)),
  o1 8 (.mv (ci 0))])
 (.block 0 (.loop 0 (some ([3, 6, 7, 8], [0, 1, 2, 3, 4, 5, 6, 7])) (.seq (.ops false [o1 9 (.bin .lss 0 [] (tp 8) (tp 7))])
 (.seq (.cond (tp 9) (.skip) (.exit 0))
 (.seq (.block 1 (.seq (.ops false [o1 10 (.ixS (.int .i64) (tp 6) (tp 8)),
  o1 11 (.load 1 false (tp 10)),
  o1 5 (.mv (tp 11))])
 (.seq (.ops false [o1 12 (.mv (tp 5)),
  o1 13 (.mv (tp 3)),
  o1 14 (.bin .neq 0 [] (tp 12) (tp 13))])
 (.cond (tp 14) (.seq (.ops false [o1 2 (.mv (.con (.d (.bool false))))])
 (.ret)) (.skip)))))
 (.ops false [o1 15 (.bin .add 0 [] (tp 8) (ci 1)),
  o1 8 (.mv (tp 15))])))))))
 (.seq (.ops false [o1 2 (.mv (.con (.d (.bool true))))])
 (.ret))))⟩
/-- cmp.Or[int] -/
def c143 : AFn := ⟨18, [.tmp 2], .seq (.ops false [o1 2 (.mv (ci 0))])
 (.seq (.ops false [o1 3 (.mv (ci 0))])
 (.seq (.seq (.ops false [o1 6 (.mv (tp 0)),
  o1 7 (.len 1 (tp 6)),
  o1 8 (.mv (ci 0))])
 (.block 0 (.loop 0 (some ([3, 6, 7, 8], [0, 1, 2, 3, 4, 5, 6, 7])) (.seq (.ops false [o1 9 (.bin .lss 0 [] (tp 8) (tp 7))])
 (.seq (.cond (tp 9) (.skip) (.exit 0))
 (.seq (.block 1 (.seq (.ops false [o1 10 (.ixS (.int .i64) (tp 6) (tp 8)),
  o1 11 (.load 1 false (tp 10)),
  o1 5 (.mv (tp 11))])
 (.seq (.ops false [o1 12 (.mv (tp 5)),
  o1 13 (.mv (tp 3)),
  o1 14 (.bin .neq 0 [] (tp 12) (tp 13))])
 (.cond (tp 14) (.seq (.ops false [o1 15 (.mv (tp 5)),
  o1 2 (.mv (tp 15))])
 (.ret)) (.skip)))))
 (.ops false [o1 16 (.bin .add 0 [] (tp 8) (ci 1)),
  o1 8 (.mv (tp 16))])))))))
 (.seq (.ops false [o1 17 (.mv (tp 3)),
  o1 2 (.mv (tp 17))])
 (.ret))))⟩
/-- cmp.Compare[int] -/
def c144 : AFn := ⟨20, [.tmp 4], .seq (.ops false [o1 4 (.mv (ci 0))])
 (.seq (.ops false [o1 7 (.mv (tp 0)),
  o1 8 (.call (.con (.fn 180 [] [])) [(tp 7)]),
  o1 5 (.mv (tp 8))])
 (.seq (.ops false [o1 9 (.mv (tp 1)),
  o1 10 (.call (.con (.fn 180 [] [])) [(tp 9)]),
  o1 6 (.mv (tp 10))])
 (.seq (.seq (.ops false [o1 11 (.mv (tp 5))])
 (.cond (tp 11) (.seq (.seq (.ops false [o1 12 (.mv (tp 6))])
 (.cond (tp 12) (.seq (.ops false [o1 4 (.mv (ci 0))])
 (.ret)) (.skip)))
 (.seq (.ops false [o1 4 (.mv (ci (-1)))])
 (.ret))) (.skip)))
 (.seq (.seq (.ops false [o1 13 (.mv (tp 6))])
 (.cond (tp 13) (.seq (.ops false [o1 4 (.mv (ci 1))])
 (.ret)) (.skip)))
 (.seq (.seq (.ops false [o1 14 (.mv (tp 0)),
  o1 15 (.mv (tp 1)),
  o1 16 (.bin .lss 0 [] (tp 14) (tp 15))])
 (.cond (tp 16) (.seq (.ops false [o1 4 (.mv (ci (-1)))])
 (.ret)) (.skip)))
 (.seq (.seq (.ops false [o1 17 (.mv (tp 0)),
  o1 18 (.mv (tp 1)),
  o1 19 (.bin .gtr 0 [] (tp 17) (tp 18))])
 (.cond (tp 19) (.seq (.ops false [o1 4 (.mv (ci 1))])
 (.ret)) (.skip)))
 (.seq (.ops false [o1 4 (.mv (ci 0))])
 (.ret))))))))⟩
/-- slices.CompareFunc[[]entente/api.Hop,[]entente/api.Hop,entente/api.Hop,entente/api.Hop] -/
def c145 : AFn := ⟨39, [.tmp 6], .seq (.ops false [o1 6 (.mv (ci 0))])
 (.seq (.seq (.ops false [o1 11 (.mv (tp 0)),
  o1 12 (.len 1 (tp 11)),
  o1 13 (.mv (ci 0))])
 (.block 0 (.loop 0 (some ([0, 1, 2, 11, 12, 13], [0, 1, 2, 3, 4, 5, 6, 7])) (.seq (.ops false [o1 14 (.bin .lss 0 [] (tp 13) (tp 12))])
 (.seq (.cond (tp 14) (.skip) (.exit 0))
 (.seq (.block 1 (.seq (.ops false [o1 15 (.mv (tp 13)),
  o1 16 (.ixS hA (tp 11) (tp 13)),
  o1 17 (.load 2 true (tp 16)),
  o1 8 (.alloc [(.int .i64 0), (.int .i64 0)]),
  o1 7 (.mv (tp 15)),
  ⟨none, .store 2 (tp 8) (tp 17), none, []⟩])
 (.seq (.seq (.ops false [o1 18 (.mv (tp 7)),
  o1 19 (.mv (tp 1)),
  o1 20 (.len 1 (tp 19)),
  o1 21 (.bin .geq 0 [] (tp 18) (tp 20))])
 (.cond (tp 21) (.seq (.ops false [o1 6 (.mv (ci 1))])
 (.ret)) (.skip)))
 (.seq (.ops false [o1 22 (.mv (tp 1)),
  o1 23 (.mv (tp 7)),
  o1 24 (.ixS hA (tp 22) (tp 23)),
  o1 25 (.load 2 true (tp 24)),
  o1 9 (.alloc [(.int .i64 0), (.int .i64 0)]),
  ⟨none, .store 2 (tp 9) (tp 25), none, []⟩])
 (.seq (.ops false [o1 26 (.mv (tp 2)),
  o1 27 (.load 2 true (tp 8)),
  o1 28 (.load 2 true (tp 9)),
  o1 29 (.call (tp 26) [(tp 27), (tp 28)]),
  o1 10 (.mv (tp 29))])
 (.seq (.ops false [o1 30 (.mv (tp 10)),
  o1 31 (.bin .neq 0 [] (tp 30) (ci 0))])
 (.cond (tp 31) (.seq (.ops false [o1 32 (.mv (tp 10)),
  o1 6 (.mv (tp 32))])
 (.ret)) (.skip))))))))
 (.ops false [o1 33 (.bin .add 0 [] (tp 13) (ci 1)),
  o1 13 (.mv (tp 33))])))))))
 (.seq (.seq (.ops false [o1 34 (.mv (tp 0)),
  o1 35 (.len 1 (tp 34)),
  o1 36 (.mv (tp 1)),
  o1 37 (.len 1 (tp 36)),
  o1 38 (.bin .lss 0 [] (tp 35) (tp 37))])
 (.cond (tp 38) (.seq (.ops false [o1 6 (.mv (ci (-1)))])
 (.ret)) (.skip)))
 (.seq (.ops false [o1 6 (.mv (ci 0))])
 (.ret))))⟩
/-- entente/ident.Cmp$1 -/
def c146 : AFn := ⟨17, [.tmp 4], .seq (.ops false [o1 2 (.box (tp 0)),
  o1 3 (.box (tp 1)),
  o1 4 (.mv (ci 0))])
 (.seq (.ops true [o1 5 (.fldA 0 (tp 2)),
  o2 6 (.load 1 false (tp 5)) [0],
  o1 7 (.fldA 0 (tp 3)),
  o2 8 (.load 1 false (tp 7)) [2],
  o2 9 (.call (.con (.fn 144 [] [])) [(tp 6), (tp 8)]) [1, 3],
  o1 10 (.fldA 1 (tp 2)),
  o2 11 (.load 1 false (tp 10)) [5],
  o1 12 (.fldA 1 (tp 3)),
  o2 13 (.load 1 false (tp 12)) [7],
  o2 14 (.call (.con (.fn 144 [] [])) [(tp 11), (tp 13)]) [4, 6, 8],
  o2 15 (.buildSl (.int .i64) [(.int .i64 0)] 2 [(0, 1, (tp 9)), (1, 1, (tp 14))]) [4, 9],
  o2 16 (.call (.con (.fn 143 [] [])) [(tp 15)]) [9, 10],
  o2 4 (.mv (tp 16)) [0, 1, 2, 3, 4, 5, 6, 7, 8, 9, 10, 11]])
 (.ret))⟩
/-- slices.Clone[[]entente/api.Step,entente/api.Step] -/
def c147 : AFn := ⟨8, [.tmp 2], .seq (.ops false [o1 2 (.mv (.con (.d (.sl hB true []))))])
 (.seq (.seq (.ops false [o1 3 (.mv (tp 0)),
  o1 4 (.bin .eql 3 [] (tp 3) (.con (.d (.sl hB true []))))])
 (.cond (tp 4) (.seq (.ops false [o1 2 (.mv (.con (.d (.sl hB true []))))])
 (.ret)) (.skip)))
 (.seq (.ops false [o1 5 (.buildSl hB [(.int .i64 0), (.str []), (.int .i64 0), (.int .i64 0), (.str []), (.int .i64 0), (.int .i64 0)] 0 []),
  o1 6 (.mv (tp 0)),
  o1 7 (.appd hB (tp 5) (tp 6)),
  o1 2 (.mv (tp 7))])
 (.ret)))⟩
/-- slices.Clone[[]entente/api.Part,entente/api.Part] -/
def c148 : AFn := ⟨8, [.tmp 2], .seq (.ops false [o1 2 (.mv (.con (.d (.sl hA true []))))])
 (.seq (.seq (.ops false [o1 3 (.mv (tp 0)),
  o1 4 (.bin .eql 3 [] (tp 3) (.con (.d (.sl hA true []))))])
 (.cond (tp 4) (.seq (.ops false [o1 2 (.mv (.con (.d (.sl hA true []))))])
 (.ret)) (.skip)))
 (.seq (.ops false [o1 5 (.buildSl hA [(.int .i64 0), (.int .i64 0)] 0 []),
  o1 6 (.mv (tp 0)),
  o1 7 (.appd hA (tp 5) (tp 6)),
  o1 2 (.mv (tp 7))])
 (.ret)))⟩
/-- (*entente/saga.holder).whole -/
def c149 : AFn := ⟨143, [.tmp 4], .seq (.ops false [o1 3 (.box (tp 1)),
  o1 4 (.mv (.con (.d (.bool false))))])
 (.seq (.ops true [o1 8 (.mv (tp 0)),
  o2 9 (.nilck (tp 8)) [0],
  o2 10 (.fldA 0 (tp 9)) [1],
  o2 11 (.fldA 5 (tp 10)) [2],
  o2 12 (.load 1 false (tp 11)) [3],
  o2 13 (.bin .eql 0 [] (tp 12) (ci 1)) [4],
  o1 14 (.mv (tp 0)),
  o2 15 (.nilck (tp 14)) [6],
  o2 16 (.fldA 0 (tp 15)) [7],
  o2 17 (.fldA 5 (tp 16)) [8],
  o2 18 (.load 1 false (tp 17)) [9],
  o2 19 (.bin .eql 0 [] (tp 18) (ci 2)) [10],
  o2 5 (.mv (tp 13)) [0, 1, 2, 3, 4, 5],
  o2 6 (.mv (tp 19)) [0, 1, 2, 3, 4, 5, 6, 7, 8, 9, 10, 11, 12]])
 (.seq (.ops false [o1 20 (.mv (tp 0)),
  o1 21 (.nilck (tp 20)),
  o1 22 (.fldA 0 (tp 21)),
  o1 23 (.fldA 0 (tp 22)),
  o1 24 (.fldA 2 (tp 23)),
  o1 25 (.load 1 false (tp 24)),
  o1 26 (.len 1 (tp 25)),
  o1 27 (.bin .gtr 0 [] (tp 26) (ci 0)),
  o1 7 (.mv (tp 27))])
 (.seq (.seq (.ops false [o1 28 (.fldA 0 (tp 3)),
  o1 29 (.load 1 false (tp 28))])
 (.block 0 (.seq (.ops false [o1 31 (.bin .eql 0 [] (tp 29) (ci 8)),
  o1 30 (.mv (tp 31))])
 (.cond (tp 30) (.seq (.ops false [o1 32 (.mv (tp 5)),
  o1 33 (.mv (tp 32)),
  o3 34 (.mv (tp 7)) 33 true [],
  o1 35 (.pick (tp 33) (tp 34) (.con (.d (.bool false)))),
  o1 36 (.mv (tp 35)),
  o3 37 (.mv (tp 0)) 36 true [],
  o3 38 (.call (.con (.fn 181 [] [])) [(tp 37)]) 36 true [],
  o1 39 (.pick (tp 36) (tp 38) (.con (.d (.bool false)))),
  o1 40 (.mv (tp 39)),
  o3 41 (.mv (tp 0)) 40 true [],
  o3 42 (.call (.con (.fn 182 [] [])) [(tp 41), (ci 2), (ci 0)]) 40 true [],
  o1 43 (.pick (tp 40) (tp 42) (.con (.d (.bool false)))),
  o1 4 (.mv (tp 43))])
 (.ret)) (.seq (.ops false [o1 45 (.bin .eql 0 [] (tp 29) (ci 9)),
  o1 44 (.mv (tp 45))])
 (.cond (tp 44) (.seq (.seq (.ops false [o1 46 (.mv (tp 5)),
  o1 47 (.mv (tp 46)),
  o3 48 (.mv (tp 7)) 47 true [],
  o3 49 (.un .not (tp 48)) 47 true [],
  o1 50 (.pick (tp 47) (tp 49) (.con (.d (.bool false)))),
  o1 51 (.mv (tp 50)),
  o3 52 (.mv (tp 6)) 51 false [],
  o1 53 (.pick (tp 51) (.con (.d (.bool true))) (tp 52)),
  o1 54 (.un .not (tp 53)),
  o1 55 (.mv (tp 54)),
  o3 56 (.mv (tp 0)) 55 false [],
  o3 57 (.call (.con (.fn 181 [] [])) [(tp 56)]) 55 false [],
  o3 58 (.un .not (tp 57)) 55 false [],
  o1 59 (.pick (tp 55) (.con (.d (.bool true))) (tp 58))])
 (.cond (tp 59) (.seq (.ops false [o1 4 (.mv (.con (.d (.bool false))))])
 (.ret)) (.skip)))
 (.seq (.ops false [o1 60 (.mv (tp 0)),
  o1 61 (.call (.con (.fn 183 [] [])) [(tp 60), (ci 4)])])
 (.seq (.ops false [o1 62 (.mv (tp 0)),
  o1 63 (.call (.con (.fn 182 [] [])) [(tp 62), (ci 3), (ci 0)]),
  o1 4 (.mv (tp 63))])
 (.ret)))) (.seq (.ops false [o1 65 (.bin .eql 0 [] (tp 29) (ci 10)),
  o1 64 (.mv (tp 65))])
 (.cond (tp 64) (.seq (.seq (.ops false [o1 66 (.mv (tp 5)),
  o1 67 (.un .not (tp 66)),
  o1 68 (.mv (tp 67)),
  o3 69 (.mv (tp 6)) 68 true [],
  o3 70 (.mv (tp 69)) 68 true [],
  o3 71 (.fldA 5 (tp 3)) 70 true [],
  o3 72 (.load 1 false (tp 71)) 70 true [],
  o3 73 (.bin .eql 0 [] (tp 72) (ci 7)) 70 true [],
  o3 74 (.mv (tp 73)) 70 true [],
  o3 75 (.fldA 5 (tp 3)) 74 false [],
  o3 76 (.load 1 false (tp 75)) 74 false [],
  o3 77 (.bin .eql 0 [] (tp 76) (ci 5)) 74 false [],
  o3 78 (.mv (tp 77)) 74 false [],
  o3 79 (.mv (tp 0)) 78 true [],
  o3 80 (.buildSl (.int .i64) [(.int .i64 0)] 1 [(0, 1, (ci 3))]) 78 true [],
  o3 81 (.call (.con (.fn 91 [] [])) [(tp 79), (tp 80)]) 78 true [],
  o3 82 (.pick (tp 78) (tp 81) (.con (.d (.bool false)))) 74 false [],
  o3 83 (.pick (tp 74) (.con (.d (.bool true))) (tp 82)) 70 true [],
  o3 84 (.pick (tp 70) (tp 83) (.con (.d (.bool false)))) 68 true [],
  o3 85 (.un .not (tp 84)) 68 true [],
  o1 86 (.pick (tp 68) (tp 85) (.con (.d (.bool false))))])
 (.cond (tp 86) (.seq (.ops false [o1 4 (.mv (.con (.d (.bool false))))])
 (.ret)) (.skip)))
 (.seq (.ops false [o1 87 (.mv (tp 0)),
  o1 88 (.call (.con (.fn 184 [] [])) [(tp 87)])])
 (.seq (.ops false [o1 89 (.mv (tp 0)),
  o1 90 (.fldA 5 (tp 3)),
  o1 91 (.load 1 false (tp 90)),
  o1 92 (.call (.con (.fn 182 [] [])) [(tp 89), (ci 4), (tp 91)]),
  o1 4 (.mv (tp 92))])
 (.ret)))) (.seq (.ops false [o1 94 (.bin .eql 0 [] (tp 29) (ci 13)),
  o1 93 (.mv (tp 94))])
 (.cond (tp 93) (.seq (.seq (.ops false [o1 95 (.mv (tp 0)),
  o1 96 (.nilck (tp 95)),
  o1 97 (.fldA 0 (tp 96)),
  o1 98 (.fldA 5 (tp 97)),
  o1 99 (.load 1 false (tp 98)),
  o1 100 (.bin .neq 0 [] (tp 99) (ci 5))])
 (.cond (tp 100) (.seq (.ops false [o1 4 (.mv (.con (.d (.bool false))))])
 (.ret)) (.skip)))
 (.seq (.ops true [o1 101 (.mv (tp 0)),
  o2 102 (.nilck (tp 101)) [0],
  o2 103 (.fldA 0 (tp 102)) [1],
  o2 104 (.fldA 7 (tp 103)) [2],
  o2 105 (.load 1 false (tp 104)) [3],
  o1 106 (.mv (tp 0)),
  o2 107 (.call (.con (.fn 90 [] [])) [(tp 106)]) [5],
  o2 108 (.ixS hA (tp 105) (tp 107)) [0, 1, 2, 3, 4, 5, 6],
  o2 109 (.fldA 1 (tp 108)) [0, 1, 2, 3, 4, 5, 6, 7],
  ⟨none, .store 1 (tp 109) (ci 0), none, [0, 1, 2, 3, 4, 5, 6, 8]⟩])
 (.seq (.ops false [o1 110 (.mv (tp 0)),
  o1 111 (.mv (tp 0)),
  o1 112 (.nilck (tp 111)),
  o1 113 (.fldA 0 (tp 112)),
  o1 114 (.fldA 6 (tp 113)),
  o1 115 (.load 1 false (tp 114)),
  o1 116 (.call (.con (.fn 182 [] [])) [(tp 110), (ci 4), (tp 115)]),
  o1 4 (.mv (tp 116))])
 (.ret)))) (.seq (.ops false [o1 118 (.bin .eql 0 [] (tp 29) (ci 14)),
  o1 117 (.mv (tp 118))])
 (.cond (tp 117) (.seq (.ops false [o1 119 (.mv (tp 0)),
  o1 120 (.nilck (tp 119)),
  o1 121 (.fldA 0 (tp 120)),
  o1 122 (.fldA 5 (tp 121)),
  o1 123 (.load 1 false (tp 122)),
  o1 124 (.bin .eql 0 [] (tp 123) (ci 4)),
  o1 125 (.mv (tp 124)),
  o3 126 (.mv (tp 0)) 125 true [],
  o3 127 (.call (.con (.fn 90 [] [])) [(tp 126)]) 125 true [],
  o3 128 (.bin .lss 0 [] (tp 127) (ci 0)) 125 true [],
  o1 129 (.pick (tp 125) (tp 128) (.con (.d (.bool false)))),
  o1 130 (.mv (tp 129)),
  o3 131 (.mv (tp 0)) 130 true [],
  o3 132 (.mv (tp 0)) 130 true [],
  o3 133 (.nilck (tp 132)) 130 true [],
  o3 134 (.fldA 0 (tp 133)) 130 true [],
  o3 135 (.fldA 6 (tp 134)) 130 true [],
  o3 136 (.load 1 false (tp 135)) 130 true [],
  o3 137 (.call (.con (.fn 182 [] [])) [(tp 131), (ci 6), (tp 136)]) 130 true [],
  o1 138 (.pick (tp 130) (tp 137) (.con (.d (.bool false)))),
  o1 4 (.mv (tp 138))])
 (.ret)) (.skip)))))))))))))
 (.seq (.ops false [o1 139 (.mv (tp 0)),
  o1 140 (.fldA 4 (tp 3)),
  o1 141 (.load 1 false (tp 140)),
  o1 142 (.call (.con (.fn 185 [] [])) [(tp 139), (tp 141)]),
  o1 4 (.mv (tp 142))])
 (.ret)))))⟩
/-- (*entente/saga.holder).child -/
def c150 : AFn := ⟨120, [.tmp 4], .seq (.ops false [o1 3 (.box (tp 1)),
  o1 4 (.mv (.con (.d (.bool false))))])
 (.seq (.ops false [o1 9 (.fldA 4 (tp 3)),
  o1 10 (.load 1 false (tp 9)),
  o1 5 (.mv (tp 10))])
 (.seq (.ops false [o1 11 (.mv (tp 0)),
  o1 12 (.nilck (tp 11)),
  o1 13 (.fldA 0 (tp 12)),
  o1 14 (.fldA 7 (tp 13)),
  o1 15 (.load 1 false (tp 14)),
  o1 16 (.mv (tp 5)),
  o1 17 (.ixS hA (tp 15) (tp 16)),
  o1 18 (.fldA 1 (tp 17)),
  o1 19 (.load 1 false (tp 18)),
  o1 6 (.mv (tp 19))])
 (.seq (.ops false [o1 20 (.mv (tp 0)),
  o1 21 (.nilck (tp 20)),
  o1 22 (.fldA 0 (tp 21)),
  o1 23 (.fldA 5 (tp 22)),
  o1 24 (.load 1 false (tp 23)),
  o1 25 (.bin .eql 0 [] (tp 24) (ci 1)),
  o1 26 (.mv (tp 25)),
  o3 27 (.mv (tp 5)) 26 true [],
  o3 28 (.mv (tp 0)) 26 true [],
  o3 29 (.call (.con (.fn 90 [] [])) [(tp 28)]) 26 true [],
  o3 30 (.bin .eql 0 [] (tp 27) (tp 29)) 26 true [],
  o1 31 (.pick (tp 26) (tp 30) (.con (.d (.bool false)))),
  o1 7 (.mv (tp 31))])
 (.seq (.seq (.ops false [o1 32 (.fldA 0 (tp 3)),
  o1 33 (.load 1 false (tp 32))])
 (.block 0 (.seq (.ops false [o1 35 (.bin .eql 0 [] (tp 33) (ci 5)),
  o1 34 (.mv (tp 35))])
 (.cond (tp 34) (.seq (.ops false [o1 36 (.mv (tp 7)),
  o1 37 (.mv (tp 36)),
  o3 38 (.mv (tp 0)) 37 true [],
  o3 39 (.mv (tp 5)) 37 true [],
  o3 40 (.buildSl (.int .i64) [(.int .i64 0)] 1 [(0, 1, (ci 0))]) 37 true [],
  o3 41 (.call (.con (.fn 98 [] [])) [(tp 38), (tp 39), (tp 40)]) 37 true [],
  o1 42 (.pick (tp 37) (tp 41) (.con (.d (.bool false)))),
  o1 43 (.mv (tp 42)),
  o3 44 (.mv (tp 0)) 43 true [],
  o3 45 (.mv (tp 5)) 43 true [],
  o3 46 (.mv (tp 6)) 43 true [],
  o3 47 (.call (.con (.fn 186 [] [])) [(tp 44), (tp 45), (ci 1), (tp 46)]) 43 true [],
  o1 48 (.pick (tp 43) (tp 47) (.con (.d (.bool false)))),
  o1 4 (.mv (tp 48))])
 (.ret)) (.seq (.ops false [o1 50 (.bin .eql 0 [] (tp 33) (ci 6)),
  o1 49 (.mv (tp 50))])
 (.cond (tp 49) (.seq (.ops false [o1 51 (.mv (tp 7)),
  o1 52 (.mv (tp 51)),
  o3 53 (.mv (tp 0)) 52 true [],
  o3 54 (.mv (tp 5)) 52 true [],
  o3 55 (.buildSl (.int .i64) [(.int .i64 0)] 1 [(0, 1, (ci 1))]) 52 true [],
  o3 56 (.call (.con (.fn 98 [] [])) [(tp 53), (tp 54), (tp 55)]) 52 true [],
  o1 57 (.pick (tp 52) (tp 56) (.con (.d (.bool false)))),
  o1 58 (.mv (tp 57)),
  o3 59 (.mv (tp 0)) 58 true [],
  o3 60 (.mv (tp 5)) 58 true [],
  o3 61 (.mv (tp 6)) 58 true [],
  o3 62 (.call (.con (.fn 186 [] [])) [(tp 59), (tp 60), (ci 2), (tp 61)]) 58 true [],
  o1 63 (.pick (tp 58) (tp 62) (.con (.d (.bool false)))),
  o1 4 (.mv (tp 63))])
 (.ret)) (.seq (.ops false [o1 65 (.bin .eql 0 [] (tp 33) (ci 7)),
  o1 64 (.mv (tp 65))])
 (.cond (tp 64) (.seq (.ops false [o1 66 (.mv (tp 0)),
  o1 67 (.nilck (tp 66)),
  o1 68 (.fldA 0 (tp 67)),
  o1 69 (.fldA 8 (tp 68)),
  o1 70 (.load 1 false (tp 69)),
  o1 71 (.mv (tp 70)),
  o3 72 (.mv (tp 0)) 71 false [],
  o3 73 (.nilck (tp 72)) 71 false [],
  o3 74 (.fldA 0 (tp 73)) 71 false [],
  o3 75 (.fldA 5 (tp 74)) 71 false [],
  o3 76 (.load 1 false (tp 75)) 71 false [],
  o3 77 (.bin .neq 0 [] (tp 76) (ci 3)) 71 false [],
  o3 78 (.mv (tp 77)) 71 false [],
  o3 79 (.mv (tp 0)) 78 true [],
  o3 80 (.nilck (tp 79)) 78 true [],
  o3 81 (.fldA 0 (tp 80)) 78 true [],
  o3 82 (.fldA 5 (tp 81)) 78 true [],
  o3 83 (.load 1 false (tp 82)) 78 true [],
  o3 84 (.bin .neq 0 [] (tp 83) (ci 6)) 78 true [],
  o3 85 (.pick (tp 78) (tp 84) (.con (.d (.bool false)))) 71 false [],
  o1 86 (.pick (tp 71) (.con (.d (.bool true))) (tp 85)),
  o1 8 (.mv (tp 86))])
 (.seq (.ops false [o1 87 (.mv (tp 8)),
  o1 88 (.mv (tp 87)),
  o3 89 (.mv (tp 0)) 88 true [],
  o3 90 (.mv (tp 5)) 88 true [],
  o3 91 (.buildSl (.int .i64) [(.int .i64 0)] 2 [(0, 1, (ci 1)), (1, 1, (ci 2))]) 88 true [],
  o3 92 (.call (.con (.fn 98 [] [])) [(tp 89), (tp 90), (tp 91)]) 88 true [],
  o1 93 (.pick (tp 88) (tp 92) (.con (.d (.bool false)))),
  o1 94 (.mv (tp 93)),
  o3 95 (.mv (tp 0)) 94 true [],
  o3 96 (.mv (tp 5)) 94 true [],
  o3 97 (.mv (tp 6)) 94 true [],
  o3 98 (.call (.con (.fn 186 [] [])) [(tp 95), (tp 96), (ci 3), (tp 97)]) 94 true [],
  o1 99 (.pick (tp 94) (tp 98) (.con (.d (.bool false)))),
  o1 4 (.mv (tp 99))])
 (.ret))) (.seq (.ops false [o1 101 (.bin .eql 0 [] (tp 33) (ci 15)),
  o1 100 (.mv (tp 101))])
 (.cond (tp 100) (.seq (.ops false [o1 102 (.mv (tp 0)),
  o1 103 (.nilck (tp 102)),
  o1 104 (.fldA 0 (tp 103)),
  o1 105 (.fldA 5 (tp 104)),
  o1 106 (.load 1 false (tp 105)),
  o1 107 (.bin .eql 0 [] (tp 106) (ci 3)),
  o1 108 (.mv (tp 107)),
  o3 109 (.mv (tp 0)) 108 true [],
  o3 110 (.mv (tp 5)) 108 true [],
  o3 111 (.buildSl (.int .i64) [(.int .i64 0)] 1 [(0, 1, (ci 2))]) 108 true [],
  o3 112 (.call (.con (.fn 98 [] [])) [(tp 109), (tp 110), (tp 111)]) 108 true [],
  o1 113 (.pick (tp 108) (tp 112) (.con (.d (.bool false)))),
  o1 114 (.mv (tp 113)),
  o3 115 (.mv (tp 0)) 114 true [],
  o3 116 (.mv (tp 5)) 114 true [],
  o3 117 (.mv (tp 6)) 114 true [],
  o3 118 (.call (.con (.fn 186 [] [])) [(tp 115), (tp 116), (ci 4), (tp 117)]) 114 true [],
  o1 119 (.pick (tp 114) (tp 118) (.con (.d (.bool false)))),
  o1 4 (.mv (tp 119))])
 (.ret)) (.skip)))))))))))
 (.seq (.ops false [o1 4 (.mv (.con (.d (.bool false))))])
 (.ret))))))⟩
end Go.Proofs.YtkjiaijkdefkgaaGreatDoor.A
