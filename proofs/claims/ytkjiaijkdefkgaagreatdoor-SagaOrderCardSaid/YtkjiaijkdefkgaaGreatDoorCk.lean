/- The table of the light code. -/
import Derived.Test.YtkjiaijkdefkgaaGreatDoorCd0
import Derived.Test.YtkjiaijkdefkgaaGreatDoorChecked
import Derived.Test.YtkjiaijkdefkgaaGreatDoorGc
import Derived.KernelRfl

namespace Go.Proofs.YtkjiaijkdefkgaaGreatDoor.A
open Go Go.AM
def table : List (Nat × AFn) := [(9, c9), (10, c10), (13, c13), (32, c32), (33, c33), (35, c35), (37, c37), (39, c39), (41, c41), (42, c42), (43, c43), (44, c44), (45, c45), (68, c68), (69, c69), (70, c70), (71, c71), (74, c74), (75, c75), (76, c76), (77, c77), (78, c78), (79, c79), (80, c80), (90, c90), (91, c91), (92, c92), (93, c93), (94, c94), (95, c95), (98, c98), (99, c99), (106, c106), (107, c107), (113, c113), (122, c122), (123, c123), (124, c124), (125, c125), (126, c126), (127, c127), (128, c128), (129, c129), (130, c130), (131, c131), (132, c132), (133, c133), (134, c134), (135, c135), (137, c137), (138, c138), (139, c139), (140, c140), (141, c141), (142, c142), (143, c143), (144, c144), (145, c145), (146, c146), (147, c147), (148, c148), (149, c149), (150, c150), (151, c151), (152, c152), (157, c157), (171, c171), (172, c172), (173, c173), (174, c174), (175, c175), (176, c176), (177, c177), (178, c178), (180, c180), (181, c181), (182, c182), (183, c183), (184, c184), (185, c185), (186, c186), (187, c187), (188, c188), (193, c193), (198, c198), (199, c199), (200, c200), (201, c201), (202, c202), (203, c203), (204, c204), (205, c205), (206, c206), (207, c207), (208, c208), (209, c209), (210, c210), (211, c211), (215, c215), (218, c218), (219, c219), (220, c220), (221, c221), (222, c222), (223, c223), (224, c224), (231, c231), (232, c232), (233, c233), (234, c234), (235, c235), (236, c236), (237, c237), (238, c238), (241, c241), (242, c242), (243, c243), (244, c244), (245, c245), (247, c247)]
def prog : Nat → Option AFn := findFn table
end Go.Proofs.YtkjiaijkdefkgaaGreatDoor.A
/- The light code is the program's. -/
namespace Go.Proofs.YtkjiaijkdefkgaaGreatDoor.A
open Go Go.AM Go.Proofs
theorem k9 : cFn Tryz.prog 9 = some c9.erase := by kernel_rfl
theorem k10 : cFn Tryz.prog 10 = some c10.erase := by kernel_rfl
theorem k13 : cFn Tryz.prog 13 = some c13.erase := by kernel_rfl
theorem k32 : cFn Tryz.prog 32 = some c32.erase := by kernel_rfl
theorem k33 : cFn Tryz.prog 33 = some c33.erase := by kernel_rfl
theorem k35 : cFn Tryz.prog 35 = some c35.erase := by kernel_rfl
theorem k37 : cFn Tryz.prog 37 = some c37.erase := by kernel_rfl
theorem k39 : cFn Tryz.prog 39 = some c39.erase := by kernel_rfl
theorem k41 : cFn Tryz.prog 41 = some c41.erase := by kernel_rfl
theorem k42 : cFn Tryz.prog 42 = some c42.erase := by kernel_rfl
theorem k43 : cFn Tryz.prog 43 = some c43.erase := by kernel_rfl
theorem k44 : cFn Tryz.prog 44 = some c44.erase := by kernel_rfl
theorem k45 : cFn Tryz.prog 45 = some c45.erase := by kernel_rfl
theorem k68 : cFn Tryz.prog 68 = some c68.erase := by kernel_rfl
theorem k69 : cFn Tryz.prog 69 = some c69.erase := by kernel_rfl
theorem k70 : cFn Tryz.prog 70 = some c70.erase := by kernel_rfl
theorem k71 : cFn Tryz.prog 71 = some c71.erase := by kernel_rfl
theorem k74 : cFn Tryz.prog 74 = some c74.erase := by kernel_rfl
theorem k75 : cFn Tryz.prog 75 = some c75.erase := by kernel_rfl
theorem k76 : cFn Tryz.prog 76 = some c76.erase := by kernel_rfl
theorem k77 : cFn Tryz.prog 77 = some c77.erase := by kernel_rfl
theorem k78 : cFn Tryz.prog 78 = some c78.erase := by kernel_rfl
theorem k79 : cFn Tryz.prog 79 = some c79.erase := by kernel_rfl
theorem k80 : cFn Tryz.prog 80 = some c80.erase := by kernel_rfl
theorem k90 : cFn Tryz.prog 90 = some c90.erase := by kernel_rfl
theorem k91 : cFn Tryz.prog 91 = some c91.erase := by kernel_rfl
theorem k92 : cFn Tryz.prog 92 = some c92.erase := by kernel_rfl
theorem k93 : cFn Tryz.prog 93 = some c93.erase := by kernel_rfl
theorem k94 : cFn Tryz.prog 94 = some c94.erase := by kernel_rfl
theorem k95 : cFn Tryz.prog 95 = some c95.erase := by kernel_rfl
theorem k98 : cFn Tryz.prog 98 = some c98.erase := by kernel_rfl
theorem k99 : cFn Tryz.prog 99 = some c99.erase := by kernel_rfl
theorem k106 : cFn Tryz.prog 106 = some c106.erase := by kernel_rfl
theorem k107 : cFn Tryz.prog 107 = some c107.erase := by kernel_rfl
theorem k113 : cFn Tryz.prog 113 = some c113.erase := by kernel_rfl
theorem k122 : cFn Tryz.prog 122 = some c122.erase := by kernel_rfl
theorem k123 : cFn Tryz.prog 123 = some c123.erase := by kernel_rfl
theorem k124 : cFn Tryz.prog 124 = some c124.erase := by kernel_rfl
theorem k125 : cFn Tryz.prog 125 = some c125.erase := by kernel_rfl
theorem k126 : cFn Tryz.prog 126 = some c126.erase := by kernel_rfl
theorem k127 : cFn Tryz.prog 127 = some c127.erase := by kernel_rfl
theorem k128 : cFn Tryz.prog 128 = some c128.erase := by kernel_rfl
theorem k129 : cFn Tryz.prog 129 = some c129.erase := by kernel_rfl
theorem k130 : cFn Tryz.prog 130 = some c130.erase := by kernel_rfl
theorem k131 : cFn Tryz.prog 131 = some c131.erase := by kernel_rfl
theorem k132 : cFn Tryz.prog 132 = some c132.erase := by kernel_rfl
theorem k133 : cFn Tryz.prog 133 = some c133.erase := by kernel_rfl
theorem k134 : cFn Tryz.prog 134 = some c134.erase := by kernel_rfl
theorem k135 : cFn Tryz.prog 135 = some c135.erase := by kernel_rfl
theorem k137 : cFn Tryz.prog 137 = some c137.erase := by kernel_rfl
theorem k138 : cFn Tryz.prog 138 = some c138.erase := by kernel_rfl
theorem k139 : cFn Tryz.prog 139 = some c139.erase := by kernel_rfl
theorem k140 : cFn Tryz.prog 140 = some c140.erase := by kernel_rfl
theorem k141 : cFn Tryz.prog 141 = some c141.erase := by kernel_rfl
theorem k142 : cFn Tryz.prog 142 = some c142.erase := by kernel_rfl
theorem k143 : cFn Tryz.prog 143 = some c143.erase := by kernel_rfl
theorem k144 : cFn Tryz.prog 144 = some c144.erase := by kernel_rfl
theorem k145 : cFn Tryz.prog 145 = some c145.erase := by kernel_rfl
theorem k146 : cFn Tryz.prog 146 = some c146.erase := by kernel_rfl
theorem k147 : cFn Tryz.prog 147 = some c147.erase := by kernel_rfl
theorem k148 : cFn Tryz.prog 148 = some c148.erase := by kernel_rfl
theorem k149 : cFn Tryz.prog 149 = some c149.erase := by kernel_rfl
theorem k150 : cFn Tryz.prog 150 = some c150.erase := by kernel_rfl
theorem k151 : cFn Tryz.prog 151 = some c151.erase := by kernel_rfl
theorem k152 : cFn Tryz.prog 152 = some c152.erase := by kernel_rfl
theorem k157 : cFn Tryz.prog 157 = some c157.erase := by kernel_rfl
theorem k171 : cFn Tryz.prog 171 = some c171.erase := by kernel_rfl
theorem k172 : cFn Tryz.prog 172 = some c172.erase := by kernel_rfl
theorem k173 : cFn Tryz.prog 173 = some c173.erase := by kernel_rfl
theorem k174 : cFn Tryz.prog 174 = some c174.erase := by kernel_rfl
theorem k175 : cFn Tryz.prog 175 = some c175.erase := by kernel_rfl
theorem k176 : cFn Tryz.prog 176 = some c176.erase := by kernel_rfl
theorem k177 : cFn Tryz.prog 177 = some c177.erase := by kernel_rfl
theorem k178 : cFn Tryz.prog 178 = some c178.erase := by kernel_rfl
theorem k180 : cFn Tryz.prog 180 = some c180.erase := by kernel_rfl
theorem k181 : cFn Tryz.prog 181 = some c181.erase := by kernel_rfl
theorem k182 : cFn Tryz.prog 182 = some c182.erase := by kernel_rfl
theorem k183 : cFn Tryz.prog 183 = some c183.erase := by kernel_rfl
theorem k184 : cFn Tryz.prog 184 = some c184.erase := by kernel_rfl
theorem k185 : cFn Tryz.prog 185 = some c185.erase := by kernel_rfl
theorem k186 : cFn Tryz.prog 186 = some c186.erase := by kernel_rfl
theorem k187 : cFn Tryz.prog 187 = some c187.erase := by kernel_rfl
theorem k188 : cFn Tryz.prog 188 = some c188.erase := by kernel_rfl
theorem k193 : cFn Tryz.prog 193 = some c193.erase := by kernel_rfl
theorem k198 : cFn Tryz.prog 198 = some c198.erase := by kernel_rfl
theorem k199 : cFn Tryz.prog 199 = some c199.erase := by kernel_rfl
theorem k200 : cFn Tryz.prog 200 = some c200.erase := by kernel_rfl
theorem k201 : cFn Tryz.prog 201 = some c201.erase := by kernel_rfl
theorem k202 : cFn Tryz.prog 202 = some c202.erase := by kernel_rfl
theorem k203 : cFn Tryz.prog 203 = some c203.erase := by kernel_rfl
theorem k204 : cFn Tryz.prog 204 = some c204.erase := by kernel_rfl
theorem k205 : cFn Tryz.prog 205 = some c205.erase := by kernel_rfl
theorem k206 : cFn Tryz.prog 206 = some c206.erase := by kernel_rfl
theorem k207 : cFn Tryz.prog 207 = some c207.erase := by kernel_rfl
theorem k208 : cFn Tryz.prog 208 = some c208.erase := by kernel_rfl
theorem k209 : cFn Tryz.prog 209 = some c209.erase := by kernel_rfl
theorem k210 : cFn Tryz.prog 210 = some c210.erase := by kernel_rfl
theorem k211 : cFn Tryz.prog 211 = some c211.erase := by kernel_rfl
theorem k215 : cFn Tryz.prog 215 = some c215.erase := by kernel_rfl
theorem k218 : cFn Tryz.prog 218 = some c218.erase := by kernel_rfl
theorem k219 : cFn Tryz.prog 219 = some c219.erase := by kernel_rfl
theorem k220 : cFn Tryz.prog 220 = some c220.erase := by kernel_rfl
theorem k221 : cFn Tryz.prog 221 = some c221.erase := by kernel_rfl
theorem k222 : cFn Tryz.prog 222 = some c222.erase := by kernel_rfl
theorem k223 : cFn Tryz.prog 223 = some c223.erase := by kernel_rfl
theorem k224 : cFn Tryz.prog 224 = some c224.erase := by kernel_rfl
theorem k231 : cFn Tryz.prog 231 = some c231.erase := by kernel_rfl
theorem k232 : cFn Tryz.prog 232 = some c232.erase := by kernel_rfl
theorem k233 : cFn Tryz.prog 233 = some c233.erase := by kernel_rfl
theorem k234 : cFn Tryz.prog 234 = some c234.erase := by kernel_rfl
theorem k235 : cFn Tryz.prog 235 = some c235.erase := by kernel_rfl
theorem k236 : cFn Tryz.prog 236 = some c236.erase := by kernel_rfl
theorem k237 : cFn Tryz.prog 237 = some c237.erase := by kernel_rfl
theorem k238 : cFn Tryz.prog 238 = some c238.erase := by kernel_rfl
theorem k241 : cFn Tryz.prog 241 = some c241.erase := by kernel_rfl
theorem k242 : cFn Tryz.prog 242 = some c242.erase := by kernel_rfl
theorem k243 : cFn Tryz.prog 243 = some c243.erase := by kernel_rfl
theorem k244 : cFn Tryz.prog 244 = some c244.erase := by kernel_rfl
theorem k245 : cFn Tryz.prog 245 = some c245.erase := by kernel_rfl
theorem k247 : cFn Tryz.prog 247 = some c247.erase := by kernel_rfl
theorem tableOK : AllOK Tryz.prog table := ⟨k9, k10, k13, k32, k33, k35, k37, k39, k41, k42, k43, k44, k45, k68, k69, k70, k71, k74, k75, k76, k77, k78, k79, k80, k90, k91, k92, k93, k94, k95, k98, k99, k106, k107, k113, k122, k123, k124, k125, k126, k127, k128, k129, k130, k131, k132, k133, k134, k135, k137, k138, k139, k140, k141, k142, k143, k144, k145, k146, k147, k148, k149, k150, k151, k152, k157, k171, k172, k173, k174, k175, k176, k177, k178, k180, k181, k182, k183, k184, k185, k186, k187, k188, k193, k198, k199, k200, k201, k202, k203, k204, k205, k206, k207, k208, k209, k210, k211, k215, k218, k219, k220, k221, k222, k223, k224, k231, k232, k233, k234, k235, k236, k237, k238, k241, k242, k243, k244, k245, k247, trivial⟩
theorem mixed : Tryz.prog.follows .mixedOrders = true := by kernel_rfl
end Go.Proofs.YtkjiaijkdefkgaaGreatDoor.A
