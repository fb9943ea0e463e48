/- The table of the light code. -/
import Derived.Test.YtknoielhkilkpaaDoorCd0
import Derived.Test.YtknoielhkilkpaaDoorChecked
import Derived.Test.YtknoielhkilkpaaDoorGc
import Derived.KernelRfl

namespace Go.Proofs.YtknoielhkilkpaaDoor.A
open Go Go.AM
def table : List (Nat × AFn) := [(6, c6), (7, c7), (8, c8), (19, c19), (20, c20), (21, c21), (22, c22), (23, c23), (24, c24), (25, c25), (26, c26), (27, c27), (28, c28), (32, c32), (36, c36), (37, c37), (38, c38), (39, c39), (40, c40), (41, c41), (42, c42), (43, c43), (44, c44), (45, c45), (46, c46), (47, c47), (48, c48), (49, c49), (50, c50), (51, c51), (52, c52), (53, c53), (54, c54), (55, c55), (56, c56), (62, c62), (63, c63), (64, c64), (65, c65), (66, c66), (67, c67), (71, c71), (72, c72), (73, c73), (74, c74), (75, c75), (76, c76), (77, c77), (78, c78), (79, c79), (80, c80), (81, c81), (82, c82), (83, c83), (84, c84), (85, c85), (86, c86), (87, c87), (88, c88), (89, c89), (90, c90), (91, c91), (92, c92), (93, c93), (94, c94), (95, c95), (96, c96), (97, c97), (102, c102), (103, c103), (107, c107), (108, c108), (109, c109), (110, c110), (111, c111), (112, c112), (113, c113), (114, c114), (115, c115), (116, c116), (117, c117), (118, c118), (131, c131), (133, c133), (134, c134), (135, c135), (145, c145)]
def prog : Nat → Option AFn := findFn table
end Go.Proofs.YtknoielhkilkpaaDoor.A
/- The light code is the program's. -/
namespace Go.Proofs.YtknoielhkilkpaaDoor.A
open Go Go.AM Go.Proofs
theorem k6 : cFn Tryd.prog 6 = some c6.erase := by kernel_rfl
theorem k7 : cFn Tryd.prog 7 = some c7.erase := by kernel_rfl
theorem k8 : cFn Tryd.prog 8 = some c8.erase := by kernel_rfl
theorem k19 : cFn Tryd.prog 19 = some c19.erase := by kernel_rfl
theorem k20 : cFn Tryd.prog 20 = some c20.erase := by kernel_rfl
theorem k21 : cFn Tryd.prog 21 = some c21.erase := by kernel_rfl
theorem k22 : cFn Tryd.prog 22 = some c22.erase := by kernel_rfl
theorem k23 : cFn Tryd.prog 23 = some c23.erase := by kernel_rfl
theorem k24 : cFn Tryd.prog 24 = some c24.erase := by kernel_rfl
theorem k25 : cFn Tryd.prog 25 = some c25.erase := by kernel_rfl
theorem k26 : cFn Tryd.prog 26 = some c26.erase := by kernel_rfl
theorem k27 : cFn Tryd.prog 27 = some c27.erase := by kernel_rfl
theorem k28 : cFn Tryd.prog 28 = some c28.erase := by kernel_rfl
theorem k32 : cFn Tryd.prog 32 = some c32.erase := by kernel_rfl
theorem k36 : cFn Tryd.prog 36 = some c36.erase := by kernel_rfl
theorem k37 : cFn Tryd.prog 37 = some c37.erase := by kernel_rfl
theorem k38 : cFn Tryd.prog 38 = some c38.erase := by kernel_rfl
theorem k39 : cFn Tryd.prog 39 = some c39.erase := by kernel_rfl
theorem k40 : cFn Tryd.prog 40 = some c40.erase := by kernel_rfl
theorem k41 : cFn Tryd.prog 41 = some c41.erase := by kernel_rfl
theorem k42 : cFn Tryd.prog 42 = some c42.erase := by kernel_rfl
theorem k43 : cFn Tryd.prog 43 = some c43.erase := by kernel_rfl
theorem k44 : cFn Tryd.prog 44 = some c44.erase := by kernel_rfl
theorem k45 : cFn Tryd.prog 45 = some c45.erase := by kernel_rfl
theorem k46 : cFn Tryd.prog 46 = some c46.erase := by kernel_rfl
theorem k47 : cFn Tryd.prog 47 = some c47.erase := by kernel_rfl
theorem k48 : cFn Tryd.prog 48 = some c48.erase := by kernel_rfl
theorem k49 : cFn Tryd.prog 49 = some c49.erase := by kernel_rfl
theorem k50 : cFn Tryd.prog 50 = some c50.erase := by kernel_rfl
theorem k51 : cFn Tryd.prog 51 = some c51.erase := by kernel_rfl
theorem k52 : cFn Tryd.prog 52 = some c52.erase := by kernel_rfl
theorem k53 : cFn Tryd.prog 53 = some c53.erase := by kernel_rfl
theorem k54 : cFn Tryd.prog 54 = some c54.erase := by kernel_rfl
theorem k55 : cFn Tryd.prog 55 = some c55.erase := by kernel_rfl
theorem k56 : cFn Tryd.prog 56 = some c56.erase := by kernel_rfl
theorem k62 : cFn Tryd.prog 62 = some c62.erase := by kernel_rfl
theorem k63 : cFn Tryd.prog 63 = some c63.erase := by kernel_rfl
theorem k64 : cFn Tryd.prog 64 = some c64.erase := by kernel_rfl
theorem k65 : cFn Tryd.prog 65 = some c65.erase := by kernel_rfl
theorem k66 : cFn Tryd.prog 66 = some c66.erase := by kernel_rfl
theorem k67 : cFn Tryd.prog 67 = some c67.erase := by kernel_rfl
theorem k71 : cFn Tryd.prog 71 = some c71.erase := by kernel_rfl
theorem k72 : cFn Tryd.prog 72 = some c72.erase := by kernel_rfl
theorem k73 : cFn Tryd.prog 73 = some c73.erase := by kernel_rfl
theorem k74 : cFn Tryd.prog 74 = some c74.erase := by kernel_rfl
theorem k75 : cFn Tryd.prog 75 = some c75.erase := by kernel_rfl
theorem k76 : cFn Tryd.prog 76 = some c76.erase := by kernel_rfl
theorem k77 : cFn Tryd.prog 77 = some c77.erase := by kernel_rfl
theorem k78 : cFn Tryd.prog 78 = some c78.erase := by kernel_rfl
theorem k79 : cFn Tryd.prog 79 = some c79.erase := by kernel_rfl
theorem k80 : cFn Tryd.prog 80 = some c80.erase := by kernel_rfl
theorem k81 : cFn Tryd.prog 81 = some c81.erase := by kernel_rfl
theorem k82 : cFn Tryd.prog 82 = some c82.erase := by kernel_rfl
theorem k83 : cFn Tryd.prog 83 = some c83.erase := by kernel_rfl
theorem k84 : cFn Tryd.prog 84 = some c84.erase := by kernel_rfl
theorem k85 : cFn Tryd.prog 85 = some c85.erase := by kernel_rfl
theorem k86 : cFn Tryd.prog 86 = some c86.erase := by kernel_rfl
theorem k87 : cFn Tryd.prog 87 = some c87.erase := by kernel_rfl
theorem k88 : cFn Tryd.prog 88 = some c88.erase := by kernel_rfl
theorem k89 : cFn Tryd.prog 89 = some c89.erase := by kernel_rfl
theorem k90 : cFn Tryd.prog 90 = some c90.erase := by kernel_rfl
theorem k91 : cFn Tryd.prog 91 = some c91.erase := by kernel_rfl
theorem k92 : cFn Tryd.prog 92 = some c92.erase := by kernel_rfl
theorem k93 : cFn Tryd.prog 93 = some c93.erase := by kernel_rfl
theorem k94 : cFn Tryd.prog 94 = some c94.erase := by kernel_rfl
theorem k95 : cFn Tryd.prog 95 = some c95.erase := by kernel_rfl
theorem k96 : cFn Tryd.prog 96 = some c96.erase := by kernel_rfl
theorem k97 : cFn Tryd.prog 97 = some c97.erase := by kernel_rfl
theorem k102 : cFn Tryd.prog 102 = some c102.erase := by kernel_rfl
theorem k103 : cFn Tryd.prog 103 = some c103.erase := by kernel_rfl
theorem k107 : cFn Tryd.prog 107 = some c107.erase := by kernel_rfl
theorem k108 : cFn Tryd.prog 108 = some c108.erase := by kernel_rfl
theorem k109 : cFn Tryd.prog 109 = some c109.erase := by kernel_rfl
theorem k110 : cFn Tryd.prog 110 = some c110.erase := by kernel_rfl
theorem k111 : cFn Tryd.prog 111 = some c111.erase := by kernel_rfl
theorem k112 : cFn Tryd.prog 112 = some c112.erase := by kernel_rfl
theorem k113 : cFn Tryd.prog 113 = some c113.erase := by kernel_rfl
theorem k114 : cFn Tryd.prog 114 = some c114.erase := by kernel_rfl
theorem k115 : cFn Tryd.prog 115 = some c115.erase := by kernel_rfl
theorem k116 : cFn Tryd.prog 116 = some c116.erase := by kernel_rfl
theorem k117 : cFn Tryd.prog 117 = some c117.erase := by kernel_rfl
theorem k118 : cFn Tryd.prog 118 = some c118.erase := by kernel_rfl
theorem k131 : cFn Tryd.prog 131 = some c131.erase := by kernel_rfl
theorem k133 : cFn Tryd.prog 133 = some c133.erase := by kernel_rfl
theorem k134 : cFn Tryd.prog 134 = some c134.erase := by kernel_rfl
theorem k135 : cFn Tryd.prog 135 = some c135.erase := by kernel_rfl
theorem k145 : cFn Tryd.prog 145 = some c145.erase := by kernel_rfl
theorem tableOK : AllOK Tryd.prog table := ⟨k6, k7, k8, k19, k20, k21, k22, k23, k24, k25, k26, k27, k28, k32, k36, k37, k38, k39, k40, k41, k42, k43, k44, k45, k46, k47, k48, k49, k50, k51, k52, k53, k54, k55, k56, k62, k63, k64, k65, k66, k67, k71, k72, k73, k74, k75, k76, k77, k78, k79, k80, k81, k82, k83, k84, k85, k86, k87, k88, k89, k90, k91, k92, k93, k94, k95, k96, k97, k102, k103, k107, k108, k109, k110, k111, k112, k113, k114, k115, k116, k117, k118, k131, k133, k134, k135, k145, trivial⟩
theorem mixed : Tryd.prog.follows .mixedOrders = true := by kernel_rfl
end Go.Proofs.YtknoielhkilkpaaDoor.A
