/- The tables of this load, and for each function the meaning that the evaluator gives it, with its proof, part 1. -/
import Derived.Test.YtjoaaoaleeambaaGreatEv3
import Derived.Test.YtjoaaoaleeambaaGreatProg
namespace Go.Ev
open Go.Proofs
def TT : Tab := ⟨[(2, tI),
  (3, tI),
  (4, tB),
  (5, ⟨false, 1, 0, 1, [], [.pv (.int .u8 0)], some .u8, 0, false⟩),
  (6, ⟨false, 1, 0, 1, [], [.pv (.int .u8 0)], some .u8, 0, false⟩),
  (7, ⟨true, 4, 0, 24, [(0, 2), (1, 3), (2, 4), (3, 6)], [zI, zI, zB, .pv (.int .u8 0)], none, 0, true⟩),
  (8, ⟨true, 4, 0, 24, [(0, 2), (1, 3), (2, 4), (3, 6)], [zI, zI, zB, .pv (.int .u8 0)], none, 0, true⟩),
  (9, tS),
  (10, tS),
  (11, tS),
  (12, ⟨false, 1, 0, 8, [], [.pv (.int .u64 0)], some .u64, 0, false⟩),
  (13, ⟨true, 2, 0, 24, [(0, 9), (1, 12)], [zS, .pv (.int .u64 0)], none, 0, false⟩),
  (14, ⟨true, 2, 0, 24, [(0, 9), (1, 12)], [zS, .pv (.int .u64 0)], none, 0, false⟩),
  (21, ⟨false, 1, 0, 4, [], [.pv (.int .i32 0)], some .i32, 0, false⟩),
  (22, ⟨false, 1, 9, 24, [], [.nil 9 1], none, 0, false⟩),
  (23, ⟨false, 1, 211, 24, [], [.nil 211 23], none, 0, false⟩),
  (24, ⟨true, 3, 0, 56, [(0, 3), (1, 22), (2, 23)], [zI, .nil 9 1, .nil 211 23], none, 0, false⟩),
  (25, ⟨true, 3, 0, 56, [(0, 3), (1, 22), (2, 23)], [zI, .nil 9 1, .nil 211 23], none, 0, false⟩),
  (28, ⟨false, 1, 114, 24, [], [.nil 114 23], none, 0, false⟩),
  (29, ⟨true, 3, 0, 56, [(0, 3), (1, 22), (2, 28)], [zI, .nil 9 1, .nil 114 23], none, 0, false⟩),
  (30, ⟨true, 3, 0, 56, [(0, 3), (1, 22), (2, 28)], [zI, .nil 9 1, .nil 114 23], none, 0, false⟩),
  (34, ⟨false, 1, 146, 24, [], [.nil 146 17], none, 0, false⟩),
  (35, ⟨false, 1, 98, 24, [], [.nil 98 4], none, 0, false⟩),
  (36, ⟨true, 2, 0, 48, [(0, 34), (1, 35)], [.nil 146 17, .nil 98 4], none, 0, false⟩),
  (37, ⟨true, 2, 0, 48, [(0, 34), (1, 35)], [.nil 146 17, .nil 98 4], none, 0, false⟩),
  (38, ⟨false, 1, 3, 24, [], [.nil 3 1], none, 0, false⟩),
  (39, ⟨true, 3, 0, 72, [(0, 37), (2, 38)], [.nil 146 17, .nil 98 4, .nil 3 1], none, 0, false⟩),
  (40, ⟨true, 3, 0, 72, [(0, 37), (2, 38)], [.nil 146 17, .nil 98 4, .nil 3 1], none, 0, false⟩),
  (43, ⟨false, 1, 155, 24, [], [.nil 155 17], none, 0, false⟩),
  (44, ⟨false, 1, 101, 24, [], [.nil 101 4], none, 0, false⟩),
  (45, ⟨true, 2, 0, 48, [(0, 43), (1, 44)], [.nil 155 17, .nil 101 4], none, 0, false⟩),
  (46, ⟨true, 2, 0, 48, [(0, 43), (1, 44)], [.nil 155 17, .nil 101 4], none, 0, false⟩),
  (47, ⟨true, 3, 0, 72, [(0, 46), (2, 38)], [.nil 155 17, .nil 101 4, .nil 3 1], none, 0, false⟩),
  (48, ⟨true, 3, 0, 72, [(0, 46), (2, 38)], [.nil 155 17, .nil 101 4, .nil 3 1], none, 0, false⟩),
  (52, ⟨false, 1, 226, 24, [], [.nil 226 1], none, 0, false⟩),
  (53, ⟨false, 1, 37, 24, [], [.nil 37 2], none, 0, false⟩),
  (54, ⟨false, 1, 40, 24, [], [.nil 40 3], none, 0, false⟩),
  (55, ⟨false, 1, 229, 24, [], [.nil 229 2], none, 0, false⟩),
  (56, ⟨false, 1, 34, 24, [], [.nil 34 1], none, 0, false⟩),
  (57, ⟨false, 1, 287, 24, [], [.nil 287 51], none, 0, false⟩),
  (58, ⟨true, 2, 0, 48, [(0, 56), (1, 57)], [.nil 34 1, .nil 287 51], none, 0, false⟩),
  (59, ⟨true, 2, 0, 48, [(0, 56), (1, 57)], [.nil 34 1, .nil 287 51], none, 0, false⟩),
  (60, ⟨true, 1, 0, 24, [(0, 23)], [.nil 211 23], none, 0, false⟩),
  (61, ⟨true, 1, 0, 24, [(0, 23)], [.nil 211 23], none, 0, false⟩),
  (62, ⟨true, 8, 0, 176, [(0, 3), (1, 52), (2, 53), (3, 54), (4, 55), (5, 59), (7, 61)], [zI, .nil 226 1, .nil 37 2, .nil 40 3, .nil 229 2, .nil 34 1, .nil 287 51, .nil 211 23], none, 0, false⟩),
  (63, ⟨true, 8, 0, 176, [(0, 3), (1, 52), (2, 53), (3, 54), (4, 55), (5, 59), (7, 61)], [zI, .nil 226 1, .nil 37 2, .nil 40 3, .nil 229 2, .nil 34 1, .nil 287 51, .nil 211 23], none, 0, false⟩),
  (67, ⟨false, 1, 223, 24, [], [.nil 223 1], none, 0, false⟩),
  (68, ⟨false, 1, 46, 24, [], [.nil 46 2], none, 0, false⟩),
  (69, ⟨false, 1, 48, 24, [], [.nil 48 3], none, 0, false⟩),
  (70, ⟨false, 1, 174, 24, [], [.nil 174 2], none, 0, false⟩),
  (71, ⟨false, 1, 43, 24, [], [.nil 43 1], none, 0, false⟩),
  (72, ⟨false, 1, 179, 24, [], [.nil 179 51], none, 0, false⟩),
  (73, ⟨true, 2, 0, 48, [(0, 71), (1, 72)], [.nil 43 1, .nil 179 51], none, 0, false⟩),
  (74, ⟨true, 2, 0, 48, [(0, 71), (1, 72)], [.nil 43 1, .nil 179 51], none, 0, false⟩),
  (75, ⟨true, 1, 0, 24, [(0, 28)], [.nil 114 23], none, 0, false⟩),
  (76, ⟨true, 1, 0, 24, [(0, 28)], [.nil 114 23], none, 0, false⟩),
  (77, ⟨true, 8, 0, 176, [(0, 3), (1, 67), (2, 68), (3, 69), (4, 70), (5, 74), (7, 76)], [zI, .nil 223 1, .nil 46 2, .nil 48 3, .nil 174 2, .nil 43 1, .nil 179 51, .nil 114 23], none, 0, false⟩),
  (78, ⟨true, 8, 0, 176, [(0, 3), (1, 67), (2, 68), (3, 69), (4, 70), (5, 74), (7, 76)], [zI, .nil 223 1, .nil 46 2, .nil 48 3, .nil 174 2, .nil 43 1, .nil 179 51, .nil 114 23], none, 0, false⟩),
  (97, ⟨true, 4, 0, 56, [(0, 9), (1, 3), (2, 3), (3, 22)], [zS, zI, zI, .nil 9 1], none, 0, false⟩),
  (98, ⟨true, 4, 0, 56, [(0, 9), (1, 3), (2, 3), (3, 22)], [zS, zI, zI, .nil 9 1], none, 0, false⟩),
  (101, ⟨true, 4, 0, 56, [(0, 9), (1, 3), (2, 3), (3, 22)], [zS, zI, zI, .nil 9 1], none, 0, false⟩),
  (107, ⟨true, 2, 0, 32, [(0, 3), (1, 38)], [zI, .nil 3 1], none, 0, false⟩),
  (108, ⟨true, 2, 0, 32, [(0, 3), (1, 38)], [zI, .nil 3 1], none, 0, false⟩),
  (109, ⟨true, 13, 0, 184, [(0, 3), (1, 101), (5, 101), (9, 108), (11, 108)], [zI, zS, zI, zI, .nil 9 1, zS, zI, zI, .nil 9 1, zI, .nil 3 1, zI, .nil 3 1], none, 0, false⟩),
  (110, ⟨true, 13, 0, 184, [(0, 3), (1, 101), (5, 101), (9, 108), (11, 108)], [zI, zS, zI, zI, .nil 9 1, zS, zI, zI, .nil 9 1, zI, .nil 3 1, zI, .nil 3 1], none, 0, false⟩),
  (111, ⟨true, 21, 0, 304, [(0, 43), (1, 4), (2, 101), (6, 108), (8, 110)], [.nil 155 17, zB, zS, zI, zI, .nil 9 1, zI, .nil 3 1, zI, zS, zI, zI, .nil 9 1, zS, zI, zI, .nil 9 1, zI, .nil 3 1, zI, .nil 3 1], none, 0, false⟩),
  (112, ⟨true, 21, 0, 304, [(0, 43), (1, 4), (2, 101), (6, 108), (8, 110)], [.nil 155 17, zB, zS, zI, zI, .nil 9 1, zI, .nil 3 1, zI, zS, zI, zI, .nil 9 1, zS, zI, zI, .nil 9 1, zI, .nil 3 1, zI, .nil 3 1], none, 0, false⟩),
  (113, ⟨true, 23, 0, 328, [(0, 3), (1, 9), (2, 112)], [zI, zS, .nil 155 17, zB, zS, zI, zI, .nil 9 1, zI, .nil 3 1, zI, zS, zI, zI, .nil 9 1, zS, zI, zI, .nil 9 1, zI, .nil 3 1, zI, .nil 3 1], none, 0, false⟩),
  (114, ⟨true, 23, 0, 328, [(0, 3), (1, 9), (2, 112)], [zI, zS, .nil 155 17, zB, zS, zI, zI, .nil 9 1, zI, .nil 3 1, zI, zS, zI, zI, .nil 9 1, zS, zI, zI, .nil 9 1, zI, .nil 3 1, zI, .nil 3 1], none, 0, false⟩),
  (116, ⟨true, 2, 0, 32, [(0, 38), (1, 3)], [.nil 3 1, zI], none, 0, false⟩),
  (117, ⟨true, 2, 0, 32, [(0, 38), (1, 3)], [.nil 3 1, zI], none, 0, false⟩),
  (118, ⟨true, 16, 0, 176, [(0, 3), (1, 3), (2, 3), (3, 3), (4, 3), (5, 3), (6, 3), (7, 3), (8, 117), (10, 117), (12, 3), (13, 117), (15, 4)], [zI, zI, zI, zI, zI, zI, zI, zI, .nil 3 1, zI, .nil 3 1, zI, zI, .nil 3 1, zI, zB], none, 0, false⟩),
  (119, ⟨true, 16, 0, 176, [(0, 3), (1, 3), (2, 3), (3, 3), (4, 3), (5, 3), (6, 3), (7, 3), (8, 117), (10, 117), (12, 3), (13, 117), (15, 4)], [zI, zI, zI, zI, zI, zI, zI, zI, .nil 3 1, zI, .nil 3 1, zI, zI, .nil 3 1, zI, zB], none, 0, false⟩),
  (141, ⟨true, 2, 0, 32, [(0, 38), (1, 3)], [.nil 3 1, zI], none, 0, false⟩),
  (142, ⟨true, 16, 0, 176, [(0, 3), (1, 3), (2, 3), (3, 3), (4, 3), (5, 3), (6, 3), (7, 3), (8, 141), (10, 141), (12, 3), (13, 141), (15, 4)], [zI, zI, zI, zI, zI, zI, zI, zI, .nil 3 1, zI, .nil 3 1, zI, zI, .nil 3 1, zI, zB], none, 0, false⟩),
  (143, ⟨true, 16, 0, 176, [(0, 3), (1, 3), (2, 3), (3, 3), (4, 3), (5, 3), (6, 3), (7, 3), (8, 141), (10, 141), (12, 3), (13, 141), (15, 4)], [zI, zI, zI, zI, zI, zI, zI, zI, .nil 3 1, zI, .nil 3 1, zI, zI, .nil 3 1, zI, zB], none, 0, false⟩),
  (144, ⟨false, 1, 292, 24, [], [.nil 292 2], none, 0, false⟩),
  (145, ⟨true, 17, 0, 200, [(0, 143), (16, 144)], [zI, zI, zI, zI, zI, zI, zI, zI, .nil 3 1, zI, .nil 3 1, zI, zI, .nil 3 1, zI, zB, .nil 292 2], none, 0, false⟩),
  (146, ⟨true, 17, 0, 200, [(0, 143), (16, 144)], [zI, zI, zI, zI, zI, zI, zI, zI, .nil 3 1, zI, .nil 3 1, zI, zI, .nil 3 1, zI, zB, .nil 292 2], none, 0, false⟩),
  (153, ⟨false, 1, 251, 24, [], [.nil 251 2], none, 0, false⟩),
  (154, ⟨true, 17, 0, 200, [(0, 119), (16, 153)], [zI, zI, zI, zI, zI, zI, zI, zI, .nil 3 1, zI, .nil 3 1, zI, zI, .nil 3 1, zI, zB, .nil 251 2], none, 0, false⟩),
  (155, ⟨true, 17, 0, 200, [(0, 119), (16, 153)], [zI, zI, zI, zI, zI, zI, zI, zI, .nil 3 1, zI, .nil 3 1, zI, zI, .nil 3 1, zI, zB, .nil 251 2], none, 0, false⟩),
  (173, ⟨true, 2, 0, 32, [(0, 68), (1, 3)], [.nil 46 2, zI], none, 0, false⟩),
  (174, ⟨true, 2, 0, 32, [(0, 68), (1, 3)], [.nil 46 2, zI], none, 0, false⟩),
  (178, ⟨true, 51, 0, 600, [(0, 155), (17, 155), (34, 155)], [zI, zI, zI, zI, zI, zI, zI, zI, .nil 3 1, zI, .nil 3 1, zI, zI, .nil 3 1, zI, zB, .nil 251 2, zI, zI, zI, zI, zI, zI, zI, zI, .nil 3 1, zI, .nil 3 1, zI, zI, .nil 3 1, zI, zB, .nil 251 2, zI, zI, zI, zI, zI, zI, zI, zI, .nil 3 1, zI, .nil 3 1, zI, zI, .nil 3 1, zI, zB, .nil 251 2], none, 0, false⟩),
  (179, ⟨true, 51, 0, 600, [(0, 155), (17, 155), (34, 155)], [zI, zI, zI, zI, zI, zI, zI, zI, .nil 3 1, zI, .nil 3 1, zI, zI, .nil 3 1, zI, zB, .nil 251 2, zI, zI, zI, zI, zI, zI, zI, zI, .nil 3 1, zI, .nil 3 1, zI, zI, .nil 3 1, zI, zB, .nil 251 2, zI, zI, zI, zI, zI, zI, zI, zI, .nil 3 1, zI, .nil 3 1, zI, zI, .nil 3 1, zI, zB, .nil 251 2], none, 0, false⟩),
  (205, ⟨true, 2, 0, 32, [(0, 3), (1, 38)], [zI, .nil 3 1], none, 0, false⟩),
  (206, ⟨true, 13, 0, 184, [(0, 3), (1, 98), (5, 98), (9, 205), (11, 205)], [zI, zS, zI, zI, .nil 9 1, zS, zI, zI, .nil 9 1, zI, .nil 3 1, zI, .nil 3 1], none, 0, false⟩),
  (207, ⟨true, 13, 0, 184, [(0, 3), (1, 98), (5, 98), (9, 205), (11, 205)], [zI, zS, zI, zI, .nil 9 1, zS, zI, zI, .nil 9 1, zI, .nil 3 1, zI, .nil 3 1], none, 0, false⟩),
  (208, ⟨true, 21, 0, 304, [(0, 34), (1, 4), (2, 98), (6, 205), (8, 207)], [.nil 146 17, zB, zS, zI, zI, .nil 9 1, zI, .nil 3 1, zI, zS, zI, zI, .nil 9 1, zS, zI, zI, .nil 9 1, zI, .nil 3 1, zI, .nil 3 1], none, 0, false⟩),
  (209, ⟨true, 21, 0, 304, [(0, 34), (1, 4), (2, 98), (6, 205), (8, 207)], [.nil 146 17, zB, zS, zI, zI, .nil 9 1, zI, .nil 3 1, zI, zS, zI, zI, .nil 9 1, zS, zI, zI, .nil 9 1, zI, .nil 3 1, zI, .nil 3 1], none, 0, false⟩),
  (210, ⟨true, 23, 0, 328, [(0, 3), (1, 9), (2, 209)], [zI, zS, .nil 146 17, zB, zS, zI, zI, .nil 9 1, zI, .nil 3 1, zI, zS, zI, zI, .nil 9 1, zS, zI, zI, .nil 9 1, zI, .nil 3 1, zI, .nil 3 1], none, 0, false⟩),
  (211, ⟨true, 23, 0, 328, [(0, 3), (1, 9), (2, 209)], [zI, zS, .nil 146 17, zB, zS, zI, zI, .nil 9 1, zI, .nil 3 1, zI, zS, zI, zI, .nil 9 1, zS, zI, zI, .nil 9 1, zI, .nil 3 1, zI, .nil 3 1], none, 0, false⟩),
  (213, ⟨false, 1, 5, 24, [], [.nil 5 1], none, 2, false⟩),
  (222, ⟨true, 1, 0, 24, [(0, 38)], [.nil 3 1], none, 0, false⟩),
  (223, ⟨true, 1, 0, 24, [(0, 38)], [.nil 3 1], none, 0, false⟩),
  (226, ⟨true, 1, 0, 24, [(0, 38)], [.nil 3 1], none, 0, false⟩),
  (228, ⟨true, 2, 0, 32, [(0, 53), (1, 3)], [.nil 37 2, zI], none, 0, false⟩),
  (229, ⟨true, 2, 0, 32, [(0, 53), (1, 3)], [.nil 37 2, zI], none, 0, false⟩),
  (250, ⟨true, 2, 0, 16, [(0, 3), (1, 3)], [zI, zI], none, 0, true⟩),
  (251, ⟨true, 2, 0, 16, [(0, 3), (1, 3)], [zI, zI], none, 0, true⟩),
  (286, ⟨true, 51, 0, 600, [(0, 146), (17, 146), (34, 146)], [zI, zI, zI, zI, zI, zI, zI, zI, .nil 3 1, zI, .nil 3 1, zI, zI, .nil 3 1, zI, zB, .nil 292 2, zI, zI, zI, zI, zI, zI, zI, zI, .nil 3 1, zI, .nil 3 1, zI, zI, .nil 3 1, zI, zB, .nil 292 2, zI, zI, zI, zI, zI, zI, zI, zI, .nil 3 1, zI, .nil 3 1, zI, zI, .nil 3 1, zI, zB, .nil 292 2], none, 0, false⟩),
  (287, ⟨true, 51, 0, 600, [(0, 146), (17, 146), (34, 146)], [zI, zI, zI, zI, zI, zI, zI, zI, .nil 3 1, zI, .nil 3 1, zI, zI, .nil 3 1, zI, zB, .nil 292 2, zI, zI, zI, zI, zI, zI, zI, zI, .nil 3 1, zI, .nil 3 1, zI, zI, .nil 3 1, zI, zB, .nil 292 2, zI, zI, zI, zI, zI, zI, zI, zI, .nil 3 1, zI, .nil 3 1, zI, zI, .nil 3 1, zI, zB, .nil 292 2], none, 0, false⟩),
  (292, ⟨true, 2, 0, 16, [(0, 3), (1, 3)], [zI, zI], none, 0, true⟩),
  (314, ⟨false, 1, 38, 24, [], [.nil 38 1], none, 0, false⟩),
  (351, ⟨false, 1, 0, 4, [], [.pv (.int .u32 0)], some .u32, 0, false⟩),
  (352, ⟨false, 1, 0, 1, [], [.pv (.int .u8 0)], some .u8, 0, false⟩),
  (353, ⟨false, 1, 0, 1, [], [.pv (.int .u8 0)], some .u8, 0, false⟩),
  (356, ⟨false, 1, 0, 4, [], [.pv (.int .i32 0)], some .i32, 0, false⟩),
  (357, ⟨false, 1, 0, 4, [], [.pv (.int .i32 0)], some .i32, 0, false⟩)],
  [(0, []), (1, []), (2, []), (3, [.one (.sc)]), (4, [.one (.sc)]), (5, [.one (.sc)]), (6, [.one (.sc)]), (7, [.one (.sc)]), (8, [.one (.sc)]), (9, [.one (.sc)]), (10, [.one (.sc)]), (11, [.one (.sc)]), (12, [.one (.sc)]), (13, [.one (.sc)]), (14, [.one (.sc)]), (15, [.one (.sc)]), (16, [.one (.sc)]), (17, [.agg [.sc, .own true 9 1, .own true 114 23]]), (18, [.one (.sc)]), (19, [.one (.sc)]), (20, [.one (.sc)]), (21, [.one (.sc)]), (22, [.agg [.own true 155 17, .own true 101 4, .own true 3 1]]), (23, [.one (.sc)]), (24, [.one (.sc)]), (25, [.one (.sc)]), (26, [.one (.sc)]), (27, [.one (.sc)]), (28, [.agg [.sc, .own true 223 1, .own true 46 2, .own true 48 3, .own true 174 2, .own true 43 1, .own true 179 51, .own true 114 23]]), (29, [.one (.own true 155 17)]), (30, [.one (.sc)]), (31, [.one (.sc)]), (32, [.one (.sc)]), (33, [.one (.sc)]), (34, [.one (.sc)]), (35, [.one (.sc)]), (36, [.one (.sc)]), (37, [.agg [.own true 155 17, .own true 101 4]]), (38, [.one (.sc)]), (39, [.one (.sc)]), (40, [.one (.sc)]), (41, [.one (.sc)]), (42, [.one (.sc)]), (43, [.one (.sc)]), (44, [.one (.sc)]), (45, [.one (.sc)]), (46, [.one (.sc)]), (47, [.one (.sc)]), (48, [.one (.sc)]), (49, [.one (.sc)]), (50, [.one (.sc)]), (51, [.one (.sc)]), (52, [.agg [.sc, .sc, .sc, .own true 9 1]]), (53, [.one (.sc)]), (54, [.one (.sc)]), (55, [.one (.sc)]), (56, [.one (.sc)]), (57, [.one (.sc)]), (58, [.one (.sc)]), (59, [.one (.own true 3 1)]), (60, [.agg [.sc, .sc, .sc, .sc, .sc, .sc, .sc, .sc, .pv, .sc, .pv, .sc, .sc, .pv, .sc, .sc], .one (.sc)]), (61, [.one (.sc)]), (62, [.one (.sc)]), (63, [.one (.own true 9 1)]), (64, [.one (.own true 114 23)]), (65, [.agg [.sc, .sc, .sc, .sc, .sc, .sc, .sc, .sc, .own true 3 1, .sc, .own true 3 1, .sc, .sc, .own true 3 1, .sc, .sc], .one (.sc)]), (66, [.one (.sc)]), (67, [.one (.own true 3 1)]), (68, [.one (.sc)]), (69, [.one (.sc)]), (70, [.one (.sc)]), (71, [.one (.sc)]), (72, [.one (.sc)]), (73, [.one (.sc)]), (74, [.one (.own true 3 1)]), (75, [.one (.sc)]), (76, [.one (.sc)]), (77, [.one (.sc)]), (78, [.one (.sc)]), (79, [.one (.sc)]), (80, [.one (.sc)]), (81, [.one (.sc)]), (82, [.one (.sc)]), (83, [.one (.sc)]), (84, [.one (.sc)]), (85, [.one (.sc)]), (86, [.one (.own true 223 1)]), (87, [.one (.own true 46 2)]), (88, [.one (.own true 48 3)]), (89, [.one (.own true 174 2)]), (90, [.agg [.own true 43 1, .own true 179 51]]), (91, [.agg [.own true 114 23]]), (92, [.agg [.sc, .sc, .sc, .sc, .sc, .sc, .sc, .sc, .own true 3 1, .sc, .own true 3 1, .sc, .sc, .own true 3 1, .sc, .sc, .own true 251 2]]), (93, [.one (.sc)]), (94, [.one (.sc)]), (95, [.one (.sc)]), (96, [.one (.sc)]), (97, [.one (.sc)]), (98, [.one (.sc)]), (99, [.one (.sc)]), (100, [.one (.sc)]), (101, [.one (.sc)]), (102, [.one (.sc)]), (103, [.agg [.own false 155 17, .own false 101 4], .one (.sc)]), (104, [.one (.sc)]), (105, [.one (.sc)]), (106, [.agg [.sc, .sc, .sc, .sc, .sc, .sc, .sc, .sc, .pv, .sc, .pv, .sc, .sc, .pv, .sc, .sc]]), (107, [.one (.sc)]), (108, [.one (.sc)]), (109, [.one (.sc)]), (110, [.one (.own true 101 4)]), (111, [.one (.sc)]), (112, [.one (.sc)]), (113, [.one (.sc)]), (114, [.one (.sc)]), (115, [.one (.sc)]), (116, [.one (.sc)]), (117, [.one (.sc)]), (118, [.one (.sc)]), (119, [.one (.sc)]), (120, [.one (.sc)]), (121, [.one (.sc)]), (122, [.one (.sc)]), (123, [.one (.sc)]), (124, [.one (.sc)]), (125, [.one (.sc)]), (126, [.one (.sc)]), (127, [.one (.sc)]), (128, [.one (.sc)]), (129, [.one (.sc)]), (130, [.one (.sc)]), (131, [.one (.sc)]), (132, [.one (.sc)]), (133, [.one (.sc)]), (134, [.one (.sc)]), (135, [.one (.sc)]), (136, [.one (.sc)]), (137, [.one (.sc)]), (138, [.one (.sc)]), (139, [.agg [.sc, .sc, .sc, .sc, .sc, .sc, .sc, .sc, .pv, .sc, .pv, .sc, .sc, .pv, .sc, .sc, .pv, .sc, .sc, .sc, .sc, .sc, .sc, .sc, .sc, .pv, .sc, .pv, .sc, .sc, .pv, .sc, .sc, .pv, .sc, .sc, .sc, .sc, .sc, .sc, .sc, .sc, .pv, .sc, .pv, .sc, .sc, .pv, .sc, .sc, .pv], .one (.sc)]), (140, [.agg [.sc, .sc, .sc, .sc, .sc, .sc, .sc, .sc, .own true 3 1, .sc, .own true 3 1, .sc, .sc, .own true 3 1, .sc, .sc, .own true 251 2, .sc, .sc, .sc, .sc, .sc, .sc, .sc, .sc, .own true 3 1, .sc, .own true 3 1, .sc, .sc, .own true 3 1, .sc, .sc, .own true 251 2, .sc, .sc, .sc, .sc, .sc, .sc, .sc, .sc, .own true 3 1, .sc, .own true 3 1, .sc, .sc, .own true 3 1, .sc, .sc, .own true 251 2], .one (.sc)]), (141, [.one (.sc)]), (142, [.one (.sc)]), (143, [.one (.sc)]), (144, [.one (.sc)]), (145, [.one (.sc)]), (146, [.one (.sc)]), (147, [.one (.sc)]), (148, [.one (.own false 101 4)]), (149, [.one (.sc)]), (150, [.one (.own true 101 4)]), (151, [.one (.sc)]), (152, [.one (.sc)]), (153, [.one (.sc)]), (154, [.one (.sc)]), (155, [.one (.sc)]), (156, [.one (.sc)]), (157, [.one (.sc)]), (158, [.one (.sc)]), (159, [.one (.sc)]), (160, [.one (.sc)]), (161, [.one (.sc)]), (162, [.one (.sc)]), (163, [.one (.sc)]), (164, [.one (.sc)]), (165, [.one (.sc)]), (166, [.one (.sc)]), (167, [.one (.sc)]), (168, [.one (.sc)]), (169, [.one (.own true 3 1)]), (170, [.one (.sc)]), (171, [.agg [.sc, .sc, .sc, .sc, .sc, .sc, .sc, .sc, .pv, .sc, .pv, .sc, .sc, .pv, .sc, .sc]]), (172, [.one (.own true 3 1)]), (173, [.one (.sc)]), (174, [.agg [.sc, .sc, .own true 155 17, .sc, .sc, .sc, .sc, .own true 9 1, .sc, .own true 3 1, .sc, .sc, .sc, .sc, .own true 9 1, .sc, .sc, .sc, .own true 9 1, .sc, .own true 3 1, .sc, .own true 3 1]]), (175, [.one (.sc)]), (176, [.agg [.sc, .sc, .sc, .sc, .sc, .sc, .sc, .sc, .own true 3 1, .sc, .own true 3 1, .sc, .sc, .own true 3 1, .sc, .sc]]), (177, [.one (.own true 3 1)]), (178, [.one (.own true 3 1)]), (179, [.one (.sc)]), (180, [.one (.sc)]), (181, [.one (.sc)]), (182, [.one (.sc)]), (183, [.one (.sc)]), (184, [.one (.sc)]), (185, [.agg [.pv, .sc]]), (186, [.one (.sc)]), (187, [.one (.sc)]), (188, [.one (.sc)]), (189, [.one (.sc)]), (190, [.one (.sc)]), (191, [.one (.sc)]), (192, [.one (.sc)]), (193, [.agg [.own true 3 1]]), (194, [.agg [.own true 46 2, .sc]]), (195, [.one (.own true 43 1)]), (196, [.one (.own true 179 51)]), (197, [.agg [.sc, .sc, .sc, .sc, .sc, .sc, .sc, .sc, .own true 3 1, .sc, .own true 3 1, .sc, .sc, .own true 3 1, .sc, .sc]]), (198, [.one (.own true 251 2)]), (199, [.one (.sc)]), (200, [.one (.sc)]), (201, [.one (.sc)]), (202, [.one (.sc)]), (203, [.one (.sc)]), (204, [.one (.sc)]), (205, [.one (.sc)]), (206, [.one (.sc)]), (207, [.agg [.own false 155 17, .own false 101 4]]), (208, [.one (.sc)]), (209, [.one (.sc)]), (210, [.one (.sc)]), (211, [.one (.sc)]), (212, [.one (.sc)]), (213, [.one (.sc)]), (214, [.one (.sc)]), (215, [.one (.sc)]), (216, [.one (.sc)]), (217, [.one (.sc)]), (218, [.one (.sc)]), (219, [.one (.sc)]), (220, [.one (.sc)]), (221, [.one (.sc)]), (222, [.one (.sc)]), (223, [.one (.sc)]), (224, [.one (.sc)]), (225, [.one (.sc)]), (226, [.one (.sc)]), (227, [.agg [.sc, .sc, .sc, .sc, .sc, .sc, .sc, .sc, .pv, .sc, .pv, .sc, .sc, .pv, .sc, .sc, .pv]]), (228, [.agg [.sc, .sc, .sc, .sc, .sc, .sc, .sc, .sc, .own true 3 1, .sc, .own true 3 1, .sc, .sc, .own true 3 1, .sc, .sc, .own true 251 2]]), (229, [.one (.sc)]), (230, [.one (.sc)]), (231, [.one (.sc)]), (232, [.one (.sc)]), (233, [.one (.sc)]), (234, [.one (.sc)]), (235, [.agg [.sc, .sc, .sc, .pv]]), (236, [.one (.sc)]), (237, [.agg [.sc, .sc, .sc, .own true 9 1]]), (238, [.one (.sc)]), (239, [.one (.sc)]), (240, [.one (.sc)]), (241, [.one (.sc)]), (242, [.one (.sc)]), (243, [.one (.sc)]), (244, [.one (.sc)]), (245, [.one (.sc)]), (246, [.one (.sc)]), (247, [.one (.sc)]), (248, [.one (.sc)]), (249, [.one (.sc)]), (250, [.one (.sc)]), (251, [.one (.sc)]), (252, [.one (.sc)]), (253, [.one (.sc)]), (254, [.one (.sc)]), (255, [.one (.sc)]), (256, [.one (.sc)]), (257, [.one (.sc)]), (258, [.one (.sc)]), (259, [.agg [.pv, .sc]]), (260, [.one (.own true 3 1)]), (261, [.agg [.own true 155 17, .sc, .sc, .sc, .sc, .own true 9 1, .sc, .own true 3 1, .sc, .sc, .sc, .sc, .own true 9 1, .sc, .sc, .sc, .own true 9 1, .sc, .own true 3 1, .sc, .own true 3 1]]), (262, [.one (.sc)]), (263, [.agg [.own true 3 1, .sc]]), (264, [.one (.own true 3 1)]), (265, [.one (.own true 3 1)]), (266, [.one (.sc)]), (267, [.one (.sc)]), (268, [.one (.sc)]), (269, [.one (.sc)]), (270, [.one (.sc)]), (271, [.one (.sc)]), (272, [.one (.sc)]), (273, [.one (.sc)]), (274, [.one (.sc)]), (275, [.one (.sc)]), (276, [.one (.sc)]), (277, [.agg [.sc, .sc, .sc, .sc, .sc, .sc, .sc, .sc, .own true 3 1, .sc, .own true 3 1, .sc, .sc, .own true 3 1, .sc, .sc, .own true 251 2, .sc, .sc, .sc, .sc, .sc, .sc, .sc, .sc, .own true 3 1, .sc, .own true 3 1, .sc, .sc, .own true 3 1, .sc, .sc, .own true 251 2, .sc, .sc, .sc, .sc, .sc, .sc, .sc, .sc, .own true 3 1, .sc, .own true 3 1, .sc, .sc, .own true 3 1, .sc, .sc, .own true 251 2]]), (278, [.agg [.own true 3 1, .sc]]), (279, [.agg [.sc, .sc]]), (280, [.one (.sc)]), (281, [.one (.sc)]), (282, [.one (.sc)]), (283, [.one (.sc)]), (284, [.one (.own false 155 17)]), (285, [.one (.own false 101 4)]), (286, [.one (.sc)]), (287, [.one (.sc)]), (288, [.one (.sc)]), (289, [.one (.sc)]), (290, [.one (.sc)]), (291, [.one (.sc)]), (292, [.one (.sc)]), (293, [.one (.sc)]), (294, [.one (.sc)]), (295, [.one (.sc)]), (296, [.one (.own true 251 2)]), (297, [.one .pv]), (298, [.one (.own true 9 1)]), (299, [.one (.sc)]), (300, [.one (.sc)]), (301, [.one (.sc)]), (302, [.one (.sc)]), (303, [.one (.sc)]), (304, [.one (.sc)]), (305, [.one (.sc)]), (306, [.one (.sc)]), (307, [.one (.sc)]), (308, [.one (.sc)]), (309, [.one (.sc)]), (310, [.one (.sc)]), (311, [.one (.sc)]), (312, [.one (.sc)]), (313, [.one (.sc)]), (314, [.agg [.sc, .own true 3 1]]), (315, [.agg [.sc, .sc, .sc, .sc, .own true 9 1, .sc, .sc, .sc, .own true 9 1, .sc, .own true 3 1, .sc, .own true 3 1]]), (316, [.one (.own true 3 1)]), (317, [.one (.own true 3 1)]), (318, [.one (.sc)]), (319, [.one (.sc)]), (320, [.one (.sc)]), (321, [.one (.sc)]), (322, [.one (.sc)]), (323, [.one (.sc)]), (324, [.one (.own true 3 1)]), (325, [.one (.sc)]), (326, [.one (.sc)]), (327, [.one (.sc)]), (328, [.one (.sc)]), (329, [.one (.own true 3 1)]), (330, [.one (.sc)]), (331, [.one (.sc)]), (332, [.one (.sc)]), (333, [.one (.sc)]), (334, [.one (.sc)]), (335, [.one (.sc)]), (336, [.one (.sc)]), (337, [.one (.sc)]), (338, [.one (.sc)]), (339, [.one (.sc)]), (340, [.one (.sc)]), (341, [.one (.sc)]), (342, [.one (.sc)]), (343, [.one (.sc)]), (344, [.one (.sc)]), (345, [.one (.sc)]), (346, [.one (.sc)]), (347, [.one (.sc)]), (348, [.one (.sc)]), (349, [.one (.own true 3 1)]), (350, [.one (.sc)]), (351, [.one (.sc)]), (352, [.one (.sc)]), (353, [.one (.sc)]), (354, [.one (.sc)]), (355, [.one (.sc)]), (356, [.one (.own true 3 1)]), (357, [.one (.sc)]), (358, [.one (.sc)]), (359, [.one (.sc)]), (360, [.one (.sc)]), (361, [.one (.sc)]), (362, [.one (.sc)]), (363, [.one (.sc), .one (.sc)]), (364, [.one (.sc)]), (365, [.one (.sc)]), (366, [.one (.sc)]), (367, [.one (.sc)]), (368, [.one (.sc)]), (369, [.one (.sc)]), (370, [.one (.sc)]), (371, [.one (.sc)]), (372, [.one (.sc)]), (373, [.one (.sc), .one (.sc)]), (374, [.one (.sc)]), (375, [.one (.sc)]), (376, [.one (.own true 3 1)]), (377, [.one (.sc)]), (378, [.one (.sc)]), (379, [.one (.sc)]), (380, [.one (.sc)]), (381, [.one (.own true 3 1)]), (382, [.one (.sc)]), (383, [.one (.sc)]), (384, [.one (.sc)]), (385, [.one (.sc)]), (386, [.one (.sc)]), (387, [.one (.sc)]), (388, [.one (.sc)]), (389, [.one (.sc)]), (390, [.one (.sc)]), (391, [.one (.sc)]), (392, [.one (.sc)]), (393, [.one (.sc)]), (394, [.one (.sc)]), (395, [.one (.sc)]), (396, [.one (.sc)]), (397, [.one (.sc)]), (398, []), (399, [.one (.sc)]), (400, []), (401, [.one (.sc)]), (402, []), (403, [.one (.sc)]), (404, []), (405, [.one (.sc)]), (406, []), (407, [.one (.sc)]), (408, []), (409, [.one (.sc)]), (410, [.one (.sc)]), (411, []), (412, [.one (.sc)])], false, [317], [129], [155, 101]⟩
theorem tabok : TabOK Tryz.prog TT := tabB_ok (by kernel_rfl) (by kernel_rfl)
end Go.Ev
set_option maxRecDepth 100000
set_option linter.unusedVariables false
namespace Go.Ev
open Go.Proofs
def laws_szIntS : GM
 | [.one a0, .one a1], k => 
  lenP a0 fun r0 =>
  binP .sub a1 r0 fun r1 =>
  binP .lss r1 (I 0) fun r2 =>
  iteP r2
   (rt [.sc] [(I (-1))] k)
   (rt [.sc] [r1] k)
 | _, _ => False
abbrev laws_szIntS_e : Ent := ⟨[71], laws_szIntS⟩
theorem laws_szIntS_w : EntOK Tryz.prog TT laws_szIntS_e := ent_ok tabok (L := []) trivial (keep := []) (l := []) Tryz.func71 (by kernel_rfl) (sg := [.one (.sc)]) (by kernel_rfl) trivial fun av k h => by
  unfold laws_szIntS at h; split at h
  · exact Eq.mpr (by kernel_rfl) h
  · exact h.elim

def laws_szActor : GM
 | [.agg u0, .one a1], k => un 1 (fun a0 => 
  call laws_szIntS [.one a0, .one a1] fun o0 =>
  binP .lss (atP o0 0) (I 0) fun r1 =>
  iteP r1
   (rt [.sc] [(I (-1))] k)
   (rt [.sc] [(atP o0 0)] k)) u0
 | _, _ => False
abbrev laws_szActor_e : Ent := ⟨[186], laws_szActor⟩
theorem laws_szActor_w : EntOK Tryz.prog TT laws_szActor_e := ent_ok tabok (L := [laws_szIntS_e]) ⟨laws_szIntS_w, trivial⟩ (keep := []) (l := []) Tryz.func186 (by kernel_rfl) (sg := [.one (.sc)]) (by kernel_rfl) trivial fun av k h => by
  unfold laws_szActor at h; split at h
  · apply un_all h; clear h; intro a0 h; exact Eq.mpr (by kernel_rfl) h
  · exact h.elim

def laws_szActorS_r0 (v : List PV) (K : List PV → Prop) (x0k : Prop) (x1k : PV → PV → PV → PV → Prop) : Prop :=
 un 4 (fun v0 v1 v2 v3 =>
  lenP v0 fun r0 =>
  binP .lss v3 r0 fun r1 =>
  iteP r1
   (elemP 1 v0 v3 fun c2 =>
   call laws_szActor [.agg [(atP c2 0)], .one v1] fun o3 =>
   binP .lss (atP o3 0) (I 0) fun r4 =>
   iteP r4
    (x0k)
    (binP .add v3 (I 1) fun r5 =>
    K [v0, (atP o3 0), v2, r5]))
   (x1k v0 v1 v2 v3)) v
def laws_szActorS : GM
 | [.one a0, .one a1], k => 
  lenP a0 fun r0 =>
  binP .sub a1 r0 fun r1 =>
  binP .lss r1 (I 0) fun r2 =>
  iteP r2
   (rt [.sc] [(I (-1))] k)
   (lp (fun L w => laws_szActorS_r0 w L
    (rt [.sc] [(I (-1))] k)
    (fun q6 q7 q8 q9 => rt [.sc] [q7] k)) [a0, r1, (I 0), (I 0)])
 | _, _ => False
abbrev laws_szActorS_e : Ent := ⟨[78], laws_szActorS⟩
def laws_szActorS_l : List LE := [⟨0, ⟨[(0, .one (.pv (.bool false))), (1, .one (.pv (.bool false))), (4, .one (.pv (.bool false))), (5, .one (.pv (.bool false)))], [], [], 0, 27⟩, fun K k v => laws_szActorS_r0 v K (k .ret ⟨[(4, .one (.pv (I (-1))))], [], [], 1, 27⟩) (fun x0 x1 x2 x3 => k (.exit 0) ⟨[(0, .one (.pv x0)), (1, .one (.pv x1)), (4, .one (.pv x2)), (5, .one (.pv x3))], [], [], 0, 27⟩)⟩]
theorem laws_szActorS_s : LEsOK (orac [laws_szActor_e]) TT (kk [0, 1, 4, 5]) (sumsOf laws_szActorS_l) Tryz.f78 laws_szActorS_l := ⟨fun v K k h => by
  apply un_all h; exact fun v0 v1 v2 v3 h => Eq.mpr (by kernel_rfl) h
  , trivial⟩
theorem laws_szActorS_w : EntOK Tryz.prog TT laws_szActorS_e := ent_ok tabok (L := [laws_szActor_e]) ⟨laws_szActor_w, trivial⟩ (keep := (kk [0, 1, 4, 5])) (l := laws_szActorS_l) Tryz.func78 (by kernel_rfl) (sg := [.one (.sc)]) (by kernel_rfl) laws_szActorS_s fun av k h => by
  unfold laws_szActorS at h; split at h
  · exact Eq.mpr (by kernel_rfl) h
  · exact h.elim

def laws_szKeys : GM
 | [.agg u0, .one a2], k => un 2 (fun a0 a1 => 
  call laws_szIntS [.one a0, .one a2] fun o0 =>
  binP .lss (atP o0 0) (I 0) fun r1 =>
  iteP r1
   (rt [.sc] [(I (-1))] k)
   (rt [.sc] [(atP o0 0)] k)) u0
 | _, _ => False
abbrev laws_szKeys_e : Ent := ⟨[276], laws_szKeys⟩
theorem laws_szKeys_w : EntOK Tryz.prog TT laws_szKeys_e := ent_ok tabok (L := [laws_szIntS_e]) ⟨laws_szIntS_w, trivial⟩ (keep := []) (l := []) Tryz.func276 (by kernel_rfl) (sg := [.one (.sc)]) (by kernel_rfl) trivial fun av k h => by
  unfold laws_szKeys at h; split at h
  · apply un_all h; clear h; intro a0 a1 h; exact Eq.mpr (by kernel_rfl) h
  · exact h.elim

def laws_szHead : GM
 | [.agg u0, .one a16], k => un 16 (fun a0 a1 a2 a3 a4 a5 a6 a7 a8 a9 a10 a11 a12 a13 a14 a15 => 
  call laws_szKeys [.agg [a8, a9], .one a16] fun o0 =>
  binP .lss (atP o0 0) (I 0) fun r1 =>
  iteP r1
   (rt [.sc] [(I (-1))] k)
   (call laws_szKeys [.agg [a10, a11], .one (atP o0 0)] fun o2 =>
   binP .lss (atP o2 0) (I 0) fun r3 =>
   iteP r3
    (rt [.sc] [(I (-1))] k)
    (call laws_szKeys [.agg [a13, a14], .one (atP o2 0)] fun o4 =>
    binP .lss (atP o4 0) (I 0) fun r5 =>
    iteP r5
     (rt [.sc] [(I (-1))] k)
     (rt [.sc] [(atP o4 0)] k)))) u0
 | _, _ => False
abbrev laws_szHead_e : Ent := ⟨[190], laws_szHead⟩
theorem laws_szHead_w : EntOK Tryz.prog TT laws_szHead_e := ent_ok tabok (L := [laws_szKeys_e]) ⟨laws_szKeys_w, trivial⟩ (keep := []) (l := []) Tryz.func190 (by kernel_rfl) (sg := [.one (.sc)]) (by kernel_rfl) trivial fun av k h => by
  unfold laws_szHead at h; split at h
  · apply un_all h; clear h; intro a0 a1 a2 a3 a4 a5 a6 a7 a8 a9 a10 a11 a12 a13 a14 a15 h; exact Eq.mpr (by kernel_rfl) h
  · exact h.elim

def laws_szSigS : GM
 | [.one a0, .one a1], k => 
  lenP a0 fun r0 =>
  binP .sub a1 r0 fun r1 =>
  binP .lss r1 (I 0) fun r2 =>
  iteP r2
   (rt [.sc] [(I (-1))] k)
   (rt [.sc] [r1] k)
 | _, _ => False
abbrev laws_szSigS_e : Ent := ⟨[191], laws_szSigS⟩
theorem laws_szSigS_w : EntOK Tryz.prog TT laws_szSigS_e := ent_ok tabok (L := []) trivial (keep := []) (l := []) Tryz.func191 (by kernel_rfl) (sg := [.one (.sc)]) (by kernel_rfl) trivial fun av k h => by
  unfold laws_szSigS at h; split at h
  · exact Eq.mpr (by kernel_rfl) h
  · exact h.elim

def laws_szSigned : GM
 | [.agg u0, .one a17], k => un 17 (fun a0 a1 a2 a3 a4 a5 a6 a7 a8 a9 a10 a11 a12 a13 a14 a15 a16 => 
  call laws_szHead [.agg [a0, a1, a2, a3, a4, a5, a6, a7, a8, a9, a10, a11, a12, a13, a14, a15], .one a17] fun o0 =>
  binP .lss (atP o0 0) (I 0) fun r1 =>
  iteP r1
   (rt [.sc] [(I (-1))] k)
   (call laws_szSigS [.one a16, .one (atP o0 0)] fun o2 =>
   binP .lss (atP o2 0) (I 0) fun r3 =>
   iteP r3
    (rt [.sc] [(I (-1))] k)
    (rt [.sc] [(atP o2 0)] k))) u0
 | _, _ => False
abbrev laws_szSigned_e : Ent := ⟨[84], laws_szSigned⟩
theorem laws_szSigned_w : EntOK Tryz.prog TT laws_szSigned_e := ent_ok tabok (L := [laws_szHead_e, laws_szSigS_e]) ⟨laws_szHead_w, laws_szSigS_w, trivial⟩ (keep := []) (l := []) Tryz.func84 (by kernel_rfl) (sg := [.one (.sc)]) (by kernel_rfl) trivial fun av k h => by
  unfold laws_szSigned at h; split at h
  · apply un_all h; clear h; intro a0 a1 a2 a3 a4 a5 a6 a7 a8 a9 a10 a11 a12 a13 a14 a15 a16 h; exact Eq.mpr (by kernel_rfl) h
  · exact h.elim

def laws_szSignedS_r0 (v : List PV) (K : List PV → Prop) (x0k : Prop) (x1k : PV → PV → PV → PV → Prop) : Prop :=
 un 4 (fun v0 v1 v2 v3 =>
  lenP v0 fun r0 =>
  binP .lss v3 r0 fun r1 =>
  iteP r1
   (elemP 17 v0 v3 fun c2 =>
   call laws_szSigned [.agg [(atP c2 0), (atP c2 1), (atP c2 2), (atP c2 3), (atP c2 4), (atP c2 5), (atP c2 6), (atP c2 7), (atP c2 8), (atP c2 9), (atP c2 10), (atP c2 11), (atP c2 12), (atP c2 13), (atP c2 14), (atP c2 15), (atP c2 16)], .one v1] fun o3 =>
   binP .lss (atP o3 0) (I 0) fun r4 =>
   iteP r4
    (x0k)
    (binP .add v3 (I 1) fun r5 =>
    K [v0, (atP o3 0), v2, r5]))
   (x1k v0 v1 v2 v3)) v
def laws_szSignedS : GM
 | [.one a0, .one a1], k => 
  lenP a0 fun r0 =>
  binP .sub a1 r0 fun r1 =>
  binP .lss r1 (I 0) fun r2 =>
  iteP r2
   (rt [.sc] [(I (-1))] k)
   (lp (fun L w => laws_szSignedS_r0 w L
    (rt [.sc] [(I (-1))] k)
    (fun q6 q7 q8 q9 => rt [.sc] [q7] k)) [a0, r1, (I 0), (I 0)])
 | _, _ => False
abbrev laws_szSignedS_e : Ent := ⟨[26], laws_szSignedS⟩
def laws_szSignedS_l : List LE := [⟨0, ⟨[(0, .one (.pv (.bool false))), (1, .one (.pv (.bool false))), (4, .one (.pv (.bool false))), (5, .one (.pv (.bool false)))], [], [], 0, 27⟩, fun K k v => laws_szSignedS_r0 v K (k .ret ⟨[(4, .one (.pv (I (-1))))], [], [], 1, 27⟩) (fun x0 x1 x2 x3 => k (.exit 0) ⟨[(0, .one (.pv x0)), (1, .one (.pv x1)), (4, .one (.pv x2)), (5, .one (.pv x3))], [], [], 0, 27⟩)⟩]
theorem laws_szSignedS_s : LEsOK (orac [laws_szSigned_e]) TT (kk [0, 1, 4, 5]) (sumsOf laws_szSignedS_l) Tryz.f26 laws_szSignedS_l := ⟨fun v K k h => by
  apply un_all h; exact fun v0 v1 v2 v3 h => Eq.mpr (by kernel_rfl) h
  , trivial⟩
theorem laws_szSignedS_w : EntOK Tryz.prog TT laws_szSignedS_e := ent_ok tabok (L := [laws_szSigned_e]) ⟨laws_szSigned_w, trivial⟩ (keep := (kk [0, 1, 4, 5])) (l := laws_szSignedS_l) Tryz.func26 (by kernel_rfl) (sg := [.one (.sc)]) (by kernel_rfl) laws_szSignedS_s fun av k h => by
  unfold laws_szSignedS at h; split at h
  · exact Eq.mpr (by kernel_rfl) h
  · exact h.elim

def laws_szStringS_r0 (v : List PV) (K : List PV → Prop) (x0k : Prop) (x1k : PV → PV → PV → PV → Prop) : Prop :=
 un 4 (fun v0 v1 v2 v3 =>
  lenP v0 fun r0 =>
  binP .lss v3 r0 fun r1 =>
  iteP r1
   (elemP 1 v0 v3 fun c2 =>
   lenS (atP c2 0) fun r3 =>
   binP .sub v1 r3 fun r4 =>
   binP .lss r4 (I 0) fun r5 =>
   iteP r5
    (x0k)
    (binP .add v3 (I 1) fun r6 =>
    K [v0, r4, v2, r6]))
   (x1k v0 v1 v2 v3)) v
def laws_szStringS : GM
 | [.one a0, .one a1], k => 
  lenP a0 fun r0 =>
  binP .sub a1 r0 fun r1 =>
  binP .lss r1 (I 0) fun r2 =>
  iteP r2
   (rt [.sc] [(I (-1))] k)
   (lp (fun L w => laws_szStringS_r0 w L
    (rt [.sc] [(I (-1))] k)
    (fun q7 q8 q9 q10 => rt [.sc] [q8] k)) [a0, r1, (I 0), (I 0)])
 | _, _ => False
abbrev laws_szStringS_e : Ent := ⟨[57], laws_szStringS⟩
def laws_szStringS_l : List LE := [⟨0, ⟨[(0, .one (.pv (.bool false))), (1, .one (.pv (.bool false))), (4, .one (.pv (.bool false))), (5, .one (.pv (.bool false)))], [], [], 0, 28⟩, fun K k v => laws_szStringS_r0 v K (k .ret ⟨[(4, .one (.pv (I (-1))))], [], [], 0, 28⟩) (fun x0 x1 x2 x3 => k (.exit 0) ⟨[(0, .one (.pv x0)), (1, .one (.pv x1)), (4, .one (.pv x2)), (5, .one (.pv x3))], [], [], 0, 28⟩)⟩]
theorem laws_szStringS_s : LEsOK (orac []) TT (kk [0, 1, 4, 5]) (sumsOf laws_szStringS_l) Tryz.f57 laws_szStringS_l := ⟨fun v K k h => by
  apply un_all h; exact fun v0 v1 v2 v3 h => Eq.mpr (by kernel_rfl) h
  , trivial⟩
theorem laws_szStringS_w : EntOK Tryz.prog TT laws_szStringS_e := ent_ok tabok (L := []) trivial (keep := (kk [0, 1, 4, 5])) (l := laws_szStringS_l) Tryz.func57 (by kernel_rfl) (sg := [.one (.sc)]) (by kernel_rfl) laws_szStringS_s fun av k h => by
  unfold laws_szStringS at h; split at h
  · exact Eq.mpr (by kernel_rfl) h
  · exact h.elim

def laws_szEntry : GM
 | [.agg u0, .one a4], k => un 4 (fun a0 a1 a2 a3 => 
  lenS a0 fun r0 =>
  binP .sub a4 r0 fun r1 =>
  binP .lss r1 (I 0) fun r2 =>
  iteP r2
   (rt [.sc] [(I (-1))] k)
   (call laws_szStringS [.one a3, .one r1] fun o3 =>
   binP .lss (atP o3 0) (I 0) fun r4 =>
   iteP r4
    (rt [.sc] [(I (-1))] k)
    (rt [.sc] [(atP o3 0)] k))) u0
 | _, _ => False
abbrev laws_szEntry_e : Ent := ⟨[50], laws_szEntry⟩
theorem laws_szEntry_w : EntOK Tryz.prog TT laws_szEntry_e := ent_ok tabok (L := [laws_szStringS_e]) ⟨laws_szStringS_w, trivial⟩ (keep := []) (l := []) Tryz.func50 (by kernel_rfl) (sg := [.one (.sc)]) (by kernel_rfl) trivial fun av k h => by
  unfold laws_szEntry at h; split at h
  · apply un_all h; clear h; intro a0 a1 a2 a3 h; exact Eq.mpr (by kernel_rfl) h
  · exact h.elim

def laws_szEntryS_r0 (v : List PV) (K : List PV → Prop) (x0k : Prop) (x1k : PV → PV → PV → PV → Prop) : Prop :=
 un 4 (fun v0 v1 v2 v3 =>
  lenP v0 fun r0 =>
  binP .lss v3 r0 fun r1 =>
  iteP r1
   (elemP 4 v0 v3 fun c2 =>
   call laws_szEntry [.agg [(atP c2 0), (atP c2 1), (atP c2 2), (atP c2 3)], .one v1] fun o3 =>
   binP .lss (atP o3 0) (I 0) fun r4 =>
   iteP r4
    (x0k)
    (binP .add v3 (I 1) fun r5 =>
    K [v0, (atP o3 0), v2, r5]))
   (x1k v0 v1 v2 v3)) v
def laws_szEntryS : GM
 | [.one a0, .one a1], k => 
  lenP a0 fun r0 =>
  binP .sub a1 r0 fun r1 =>
  binP .lss r1 (I 0) fun r2 =>
  iteP r2
   (rt [.sc] [(I (-1))] k)
   (lp (fun L w => laws_szEntryS_r0 w L
    (rt [.sc] [(I (-1))] k)
    (fun q6 q7 q8 q9 => rt [.sc] [q7] k)) [a0, r1, (I 0), (I 0)])
 | _, _ => False
abbrev laws_szEntryS_e : Ent := ⟨[108], laws_szEntryS⟩
def laws_szEntryS_l : List LE := [⟨0, ⟨[(0, .one (.pv (.bool false))), (1, .one (.pv (.bool false))), (4, .one (.pv (.bool false))), (5, .one (.pv (.bool false)))], [], [], 0, 27⟩, fun K k v => laws_szEntryS_r0 v K (k .ret ⟨[(4, .one (.pv (I (-1))))], [], [], 1, 27⟩) (fun x0 x1 x2 x3 => k (.exit 0) ⟨[(0, .one (.pv x0)), (1, .one (.pv x1)), (4, .one (.pv x2)), (5, .one (.pv x3))], [], [], 0, 27⟩)⟩]
theorem laws_szEntryS_s : LEsOK (orac [laws_szEntry_e]) TT (kk [0, 1, 4, 5]) (sumsOf laws_szEntryS_l) Tryz.f108 laws_szEntryS_l := ⟨fun v K k h => by
  apply un_all h; exact fun v0 v1 v2 v3 h => Eq.mpr (by kernel_rfl) h
  , trivial⟩
theorem laws_szEntryS_w : EntOK Tryz.prog TT laws_szEntryS_e := ent_ok tabok (L := [laws_szEntry_e]) ⟨laws_szEntry_w, trivial⟩ (keep := (kk [0, 1, 4, 5])) (l := laws_szEntryS_l) Tryz.func108 (by kernel_rfl) (sg := [.one (.sc)]) (by kernel_rfl) laws_szEntryS_s fun av k h => by
  unfold laws_szEntryS at h; split at h
  · exact Eq.mpr (by kernel_rfl) h
  · exact h.elim

def laws_szZone : GM
 | [.agg u0, .one a2], k => un 2 (fun a0 a1 => 
  call laws_szSignedS [.one a0, .one a2] fun o0 =>
  binP .lss (atP o0 0) (I 0) fun r1 =>
  iteP r1
   (rt [.sc] [(I (-1))] k)
   (call laws_szEntryS [.one a1, .one (atP o0 0)] fun o2 =>
   binP .lss (atP o2 0) (I 0) fun r3 =>
   iteP r3
    (rt [.sc] [(I (-1))] k)
    (rt [.sc] [(atP o2 0)] k))) u0
 | _, _ => False
abbrev laws_szZone_e : Ent := ⟨[35], laws_szZone⟩
theorem laws_szZone_w : EntOK Tryz.prog TT laws_szZone_e := ent_ok tabok (L := [laws_szSignedS_e, laws_szEntryS_e]) ⟨laws_szSignedS_w, laws_szEntryS_w, trivial⟩ (keep := []) (l := []) Tryz.func35 (by kernel_rfl) (sg := [.one (.sc)]) (by kernel_rfl) trivial fun av k h => by
  unfold laws_szZone at h; split at h
  · apply un_all h; clear h; intro a0 a1 h; exact Eq.mpr (by kernel_rfl) h
  · exact h.elim

def laws_szZoneS_r0 (v : List PV) (K : List PV → Prop) (x0k : Prop) (x1k : PV → PV → PV → PV → Prop) : Prop :=
 un 4 (fun v0 v1 v2 v3 =>
  lenP v0 fun r0 =>
  binP .lss v3 r0 fun r1 =>
  iteP r1
   (elemP 2 v0 v3 fun c2 =>
   call laws_szZone [.agg [(atP c2 0), (atP c2 1)], .one v1] fun o3 =>
   binP .lss (atP o3 0) (I 0) fun r4 =>
   iteP r4
    (x0k)
    (binP .add v3 (I 1) fun r5 =>
    K [v0, (atP o3 0), v2, r5]))
   (x1k v0 v1 v2 v3)) v
def laws_szZoneS : GM
 | [.one a0, .one a1], k => 
  lenP a0 fun r0 =>
  binP .sub a1 r0 fun r1 =>
  binP .lss r1 (I 0) fun r2 =>
  iteP r2
   (rt [.sc] [(I (-1))] k)
   (lp (fun L w => laws_szZoneS_r0 w L
    (rt [.sc] [(I (-1))] k)
    (fun q6 q7 q8 q9 => rt [.sc] [q7] k)) [a0, r1, (I 0), (I 0)])
 | _, _ => False
abbrev laws_szZoneS_e : Ent := ⟨[79], laws_szZoneS⟩
def laws_szZoneS_l : List LE := [⟨0, ⟨[(0, .one (.pv (.bool false))), (1, .one (.pv (.bool false))), (4, .one (.pv (.bool false))), (5, .one (.pv (.bool false)))], [], [], 0, 27⟩, fun K k v => laws_szZoneS_r0 v K (k .ret ⟨[(4, .one (.pv (I (-1))))], [], [], 1, 27⟩) (fun x0 x1 x2 x3 => k (.exit 0) ⟨[(0, .one (.pv x0)), (1, .one (.pv x1)), (4, .one (.pv x2)), (5, .one (.pv x3))], [], [], 0, 27⟩)⟩]
theorem laws_szZoneS_s : LEsOK (orac [laws_szZone_e]) TT (kk [0, 1, 4, 5]) (sumsOf laws_szZoneS_l) Tryz.f79 laws_szZoneS_l := ⟨fun v K k h => by
  apply un_all h; exact fun v0 v1 v2 v3 h => Eq.mpr (by kernel_rfl) h
  , trivial⟩
theorem laws_szZoneS_w : EntOK Tryz.prog TT laws_szZoneS_e := ent_ok tabok (L := [laws_szZone_e]) ⟨laws_szZone_w, trivial⟩ (keep := (kk [0, 1, 4, 5])) (l := laws_szZoneS_l) Tryz.func79 (by kernel_rfl) (sg := [.one (.sc)]) (by kernel_rfl) laws_szZoneS_s fun av k h => by
  unfold laws_szZoneS at h; split at h
  · exact Eq.mpr (by kernel_rfl) h
  · exact h.elim

def laws_szSaid : GM
 | [.agg u0, .one a3], k => un 3 (fun a0 a1 a2 => 
  call laws_szZone [.agg [a0, a1], .one a3] fun o0 =>
  binP .lss (atP o0 0) (I 0) fun r1 =>
  iteP r1
   (rt [.sc] [(I (-1))] k)
   (call laws_szIntS [.one a2, .one (atP o0 0)] fun o2 =>
   binP .lss (atP o2 0) (I 0) fun r3 =>
   iteP r3
    (rt [.sc] [(I (-1))] k)
    (rt [.sc] [(atP o2 0)] k))) u0
 | _, _ => False
abbrev laws_szSaid_e : Ent := ⟨[20], laws_szSaid⟩
theorem laws_szSaid_w : EntOK Tryz.prog TT laws_szSaid_e := ent_ok tabok (L := [laws_szZone_e, laws_szIntS_e]) ⟨laws_szZone_w, laws_szIntS_w, trivial⟩ (keep := []) (l := []) Tryz.func20 (by kernel_rfl) (sg := [.one (.sc)]) (by kernel_rfl) trivial fun av k h => by
  unfold laws_szSaid at h; split at h
  · apply un_all h; clear h; intro a0 a1 a2 h; exact Eq.mpr (by kernel_rfl) h
  · exact h.elim

def laws_szSaidS_r0 (v : List PV) (K : List PV → Prop) (x0k : Prop) (x1k : PV → PV → PV → PV → Prop) : Prop :=
 un 4 (fun v0 v1 v2 v3 =>
  lenP v0 fun r0 =>
  binP .lss v3 r0 fun r1 =>
  iteP r1
   (elemP 3 v0 v3 fun c2 =>
   call laws_szSaid [.agg [(atP c2 0), (atP c2 1), (atP c2 2)], .one v1] fun o3 =>
   binP .lss (atP o3 0) (I 0) fun r4 =>
   iteP r4
    (x0k)
    (binP .add v3 (I 1) fun r5 =>
    K [v0, (atP o3 0), v2, r5]))
   (x1k v0 v1 v2 v3)) v
def laws_szSaidS : GM
 | [.one a0, .one a1], k => 
  lenP a0 fun r0 =>
  binP .sub a1 r0 fun r1 =>
  binP .lss r1 (I 0) fun r2 =>
  iteP r2
   (rt [.sc] [(I (-1))] k)
   (lp (fun L w => laws_szSaidS_r0 w L
    (rt [.sc] [(I (-1))] k)
    (fun q6 q7 q8 q9 => rt [.sc] [q7] k)) [a0, r1, (I 0), (I 0)])
 | _, _ => False
abbrev laws_szSaidS_e : Ent := ⟨[80], laws_szSaidS⟩
def laws_szSaidS_l : List LE := [⟨0, ⟨[(0, .one (.pv (.bool false))), (1, .one (.pv (.bool false))), (4, .one (.pv (.bool false))), (5, .one (.pv (.bool false)))], [], [], 0, 27⟩, fun K k v => laws_szSaidS_r0 v K (k .ret ⟨[(4, .one (.pv (I (-1))))], [], [], 1, 27⟩) (fun x0 x1 x2 x3 => k (.exit 0) ⟨[(0, .one (.pv x0)), (1, .one (.pv x1)), (4, .one (.pv x2)), (5, .one (.pv x3))], [], [], 0, 27⟩)⟩]
theorem laws_szSaidS_s : LEsOK (orac [laws_szSaid_e]) TT (kk [0, 1, 4, 5]) (sumsOf laws_szSaidS_l) Tryz.f80 laws_szSaidS_l := ⟨fun v K k h => by
  apply un_all h; exact fun v0 v1 v2 v3 h => Eq.mpr (by kernel_rfl) h
  , trivial⟩
theorem laws_szSaidS_w : EntOK Tryz.prog TT laws_szSaidS_e := ent_ok tabok (L := [laws_szSaid_e]) ⟨laws_szSaid_w, trivial⟩ (keep := (kk [0, 1, 4, 5])) (l := laws_szSaidS_l) Tryz.func80 (by kernel_rfl) (sg := [.one (.sc)]) (by kernel_rfl) laws_szSaidS_s fun av k h => by
  unfold laws_szSaidS at h; split at h
  · exact Eq.mpr (by kernel_rfl) h
  · exact h.elim

def laws_szServer : GM
 | [.agg u0, .one a2], k => un 2 (fun a0 a1 => 
  call laws_szZoneS [.one a0, .one a2] fun o0 =>
  binP .lss (atP o0 0) (I 0) fun r1 =>
  iteP r1
   (rt [.sc] [(I (-1))] k)
   (rt [.sc] [(atP o0 0)] k)) u0
 | _, _ => False
abbrev laws_szServer_e : Ent := ⟨[187], laws_szServer⟩
theorem laws_szServer_w : EntOK Tryz.prog TT laws_szServer_e := ent_ok tabok (L := [laws_szZoneS_e]) ⟨laws_szZoneS_w, trivial⟩ (keep := []) (l := []) Tryz.func187 (by kernel_rfl) (sg := [.one (.sc)]) (by kernel_rfl) trivial fun av k h => by
  unfold laws_szServer at h; split at h
  · apply un_all h; clear h; intro a0 a1 h; exact Eq.mpr (by kernel_rfl) h
  · exact h.elim

def laws_szServerS_r0 (v : List PV) (K : List PV → Prop) (x0k : Prop) (x1k : PV → PV → PV → PV → Prop) : Prop :=
 un 4 (fun v0 v1 v2 v3 =>
  lenP v0 fun r0 =>
  binP .lss v3 r0 fun r1 =>
  iteP r1
   (elemP 2 v0 v3 fun c2 =>
   call laws_szServer [.agg [(atP c2 0), (atP c2 1)], .one v1] fun o3 =>
   binP .lss (atP o3 0) (I 0) fun r4 =>
   iteP r4
    (x0k)
    (binP .add v3 (I 1) fun r5 =>
    K [v0, (atP o3 0), v2, r5]))
   (x1k v0 v1 v2 v3)) v
def laws_szServerS : GM
 | [.one a0, .one a1], k => 
  lenP a0 fun r0 =>
  binP .sub a1 r0 fun r1 =>
  binP .lss r1 (I 0) fun r2 =>
  iteP r2
   (rt [.sc] [(I (-1))] k)
   (lp (fun L w => laws_szServerS_r0 w L
    (rt [.sc] [(I (-1))] k)
    (fun q6 q7 q8 q9 => rt [.sc] [q7] k)) [a0, r1, (I 0), (I 0)])
 | _, _ => False
abbrev laws_szServerS_e : Ent := ⟨[81], laws_szServerS⟩
def laws_szServerS_l : List LE := [⟨0, ⟨[(0, .one (.pv (.bool false))), (1, .one (.pv (.bool false))), (4, .one (.pv (.bool false))), (5, .one (.pv (.bool false)))], [], [], 0, 27⟩, fun K k v => laws_szServerS_r0 v K (k .ret ⟨[(4, .one (.pv (I (-1))))], [], [], 1, 27⟩) (fun x0 x1 x2 x3 => k (.exit 0) ⟨[(0, .one (.pv x0)), (1, .one (.pv x1)), (4, .one (.pv x2)), (5, .one (.pv x3))], [], [], 0, 27⟩)⟩]
theorem laws_szServerS_s : LEsOK (orac [laws_szServer_e]) TT (kk [0, 1, 4, 5]) (sumsOf laws_szServerS_l) Tryz.f81 laws_szServerS_l := ⟨fun v K k h => by
  apply un_all h; exact fun v0 v1 v2 v3 h => Eq.mpr (by kernel_rfl) h
  , trivial⟩
theorem laws_szServerS_w : EntOK Tryz.prog TT laws_szServerS_e := ent_ok tabok (L := [laws_szServer_e]) ⟨laws_szServer_w, trivial⟩ (keep := (kk [0, 1, 4, 5])) (l := laws_szServerS_l) Tryz.func81 (by kernel_rfl) (sg := [.one (.sc)]) (by kernel_rfl) laws_szServerS_s fun av k h => by
  unfold laws_szServerS at h; split at h
  · exact Eq.mpr (by kernel_rfl) h
  · exact h.elim

def laws_szSignedSS_r0 (v : List PV) (K : List PV → Prop) (x0k : Prop) (x1k : PV → PV → PV → PV → Prop) : Prop :=
 un 4 (fun v0 v1 v2 v3 =>
  lenP v0 fun r0 =>
  binP .lss v3 r0 fun r1 =>
  iteP r1
   (elemP 1 v0 v3 fun c2 =>
   call laws_szSignedS [.one (atP c2 0), .one v1] fun o3 =>
   binP .lss (atP o3 0) (I 0) fun r4 =>
   iteP r4
    (x0k)
    (binP .add v3 (I 1) fun r5 =>
    K [v0, (atP o3 0), v2, r5]))
   (x1k v0 v1 v2 v3)) v
def laws_szSignedSS : GM
 | [.one a0, .one a1], k => 
  lenP a0 fun r0 =>
  binP .sub a1 r0 fun r1 =>
  binP .lss r1 (I 0) fun r2 =>
  iteP r2
   (rt [.sc] [(I (-1))] k)
   (lp (fun L w => laws_szSignedSS_r0 w L
    (rt [.sc] [(I (-1))] k)
    (fun q6 q7 q8 q9 => rt [.sc] [q7] k)) [a0, r1, (I 0), (I 0)])
 | _, _ => False
abbrev laws_szSignedSS_e : Ent := ⟨[188], laws_szSignedSS⟩
def laws_szSignedSS_l : List LE := [⟨0, ⟨[(0, .one (.pv (.bool false))), (1, .one (.pv (.bool false))), (4, .one (.pv (.bool false))), (5, .one (.pv (.bool false)))], [], [], 0, 27⟩, fun K k v => laws_szSignedSS_r0 v K (k .ret ⟨[(4, .one (.pv (I (-1))))], [], [], 1, 27⟩) (fun x0 x1 x2 x3 => k (.exit 0) ⟨[(0, .one (.pv x0)), (1, .one (.pv x1)), (4, .one (.pv x2)), (5, .one (.pv x3))], [], [], 0, 27⟩)⟩]
theorem laws_szSignedSS_s : LEsOK (orac [laws_szSignedS_e]) TT (kk [0, 1, 4, 5]) (sumsOf laws_szSignedSS_l) Tryz.f188 laws_szSignedSS_l := ⟨fun v K k h => by
  apply un_all h; exact fun v0 v1 v2 v3 h => Eq.mpr (by kernel_rfl) h
  , trivial⟩
theorem laws_szSignedSS_w : EntOK Tryz.prog TT laws_szSignedSS_e := ent_ok tabok (L := [laws_szSignedS_e]) ⟨laws_szSignedS_w, trivial⟩ (keep := (kk [0, 1, 4, 5])) (l := laws_szSignedSS_l) Tryz.func188 (by kernel_rfl) (sg := [.one (.sc)]) (by kernel_rfl) laws_szSignedSS_s fun av k h => by
  unfold laws_szSignedSS at h; split at h
  · exact Eq.mpr (by kernel_rfl) h
  · exact h.elim

def laws_szFork : GM
 | [.agg u0, .one a51], k => un 51 (fun a0 a1 a2 a3 a4 a5 a6 a7 a8 a9 a10 a11 a12 a13 a14 a15 a16 a17 a18 a19 a20 a21 a22 a23 a24 a25 a26 a27 a28 a29 a30 a31 a32 a33 a34 a35 a36 a37 a38 a39 a40 a41 a42 a43 a44 a45 a46 a47 a48 a49 a50 => 
  call laws_szSigned [.agg [a0, a1, a2, a3, a4, a5, a6, a7, a8, a9, a10, a11, a12, a13, a14, a15, a16], .one a51] fun o0 =>
  binP .lss (atP o0 0) (I 0) fun r1 =>
  iteP r1
   (rt [.sc] [(I (-1))] k)
   (call laws_szSigned [.agg [a17, a18, a19, a20, a21, a22, a23, a24, a25, a26, a27, a28, a29, a30, a31, a32, a33], .one (atP o0 0)] fun o2 =>
   binP .lss (atP o2 0) (I 0) fun r3 =>
   iteP r3
    (rt [.sc] [(I (-1))] k)
    (call laws_szSigned [.agg [a34, a35, a36, a37, a38, a39, a40, a41, a42, a43, a44, a45, a46, a47, a48, a49, a50], .one (atP o2 0)] fun o4 =>
    binP .lss (atP o4 0) (I 0) fun r5 =>
    iteP r5
     (rt [.sc] [(I (-1))] k)
     (rt [.sc] [(atP o4 0)] k)))) u0
 | _, _ => False
abbrev laws_szFork_e : Ent := ⟨[275], laws_szFork⟩
theorem laws_szFork_w : EntOK Tryz.prog TT laws_szFork_e := ent_ok tabok (L := [laws_szSigned_e]) ⟨laws_szSigned_w, trivial⟩ (keep := []) (l := []) Tryz.func275 (by kernel_rfl) (sg := [.one (.sc)]) (by kernel_rfl) trivial fun av k h => by
  unfold laws_szFork at h; split at h
  · apply un_all h; clear h; intro a0 a1 a2 a3 a4 a5 a6 a7 a8 a9 a10 a11 a12 a13 a14 a15 a16 a17 a18 a19 a20 a21 a22 a23 a24 a25 a26 a27 a28 a29 a30 a31 a32 a33 a34 a35 a36 a37 a38 a39 a40 a41 a42 a43 a44 a45 a46 a47 a48 a49 a50 h; exact Eq.mpr (by kernel_rfl) h
  · exact h.elim

def laws_szForkS_r0 (v : List PV) (K : List PV → Prop) (x0k : Prop) (x1k : PV → PV → PV → PV → Prop) : Prop :=
 un 4 (fun v0 v1 v2 v3 =>
  lenP v0 fun r0 =>
  binP .lss v3 r0 fun r1 =>
  iteP r1
   (elemP 51 v0 v3 fun c2 =>
   call laws_szFork [.agg [(atP c2 0), (atP c2 1), (atP c2 2), (atP c2 3), (atP c2 4), (atP c2 5), (atP c2 6), (atP c2 7), (atP c2 8), (atP c2 9), (atP c2 10), (atP c2 11), (atP c2 12), (atP c2 13), (atP c2 14), (atP c2 15), (atP c2 16), (atP c2 17), (atP c2 18), (atP c2 19), (atP c2 20), (atP c2 21), (atP c2 22), (atP c2 23), (atP c2 24), (atP c2 25), (atP c2 26), (atP c2 27), (atP c2 28), (atP c2 29), (atP c2 30), (atP c2 31), (atP c2 32), (atP c2 33), (atP c2 34), (atP c2 35), (atP c2 36), (atP c2 37), (atP c2 38), (atP c2 39), (atP c2 40), (atP c2 41), (atP c2 42), (atP c2 43), (atP c2 44), (atP c2 45), (atP c2 46), (atP c2 47), (atP c2 48), (atP c2 49), (atP c2 50)], .one v1] fun o3 =>
   binP .lss (atP o3 0) (I 0) fun r4 =>
   iteP r4
    (x0k)
    (binP .add v3 (I 1) fun r5 =>
    K [v0, (atP o3 0), v2, r5]))
   (x1k v0 v1 v2 v3)) v
def laws_szForkS : GM
 | [.one a0, .one a1], k => 
  lenP a0 fun r0 =>
  binP .sub a1 r0 fun r1 =>
  binP .lss r1 (I 0) fun r2 =>
  iteP r2
   (rt [.sc] [(I (-1))] k)
   (lp (fun L w => laws_szForkS_r0 w L
    (rt [.sc] [(I (-1))] k)
    (fun q6 q7 q8 q9 => rt [.sc] [q7] k)) [a0, r1, (I 0), (I 0)])
 | _, _ => False
abbrev laws_szForkS_e : Ent := ⟨[189], laws_szForkS⟩
def laws_szForkS_l : List LE := [⟨0, ⟨[(0, .one (.pv (.bool false))), (1, .one (.pv (.bool false))), (4, .one (.pv (.bool false))), (5, .one (.pv (.bool false)))], [], [], 0, 27⟩, fun K k v => laws_szForkS_r0 v K (k .ret ⟨[(4, .one (.pv (I (-1))))], [], [], 1, 27⟩) (fun x0 x1 x2 x3 => k (.exit 0) ⟨[(0, .one (.pv x0)), (1, .one (.pv x1)), (4, .one (.pv x2)), (5, .one (.pv x3))], [], [], 0, 27⟩)⟩]
theorem laws_szForkS_s : LEsOK (orac [laws_szFork_e]) TT (kk [0, 1, 4, 5]) (sumsOf laws_szForkS_l) Tryz.f189 laws_szForkS_l := ⟨fun v K k h => by
  apply un_all h; exact fun v0 v1 v2 v3 h => Eq.mpr (by kernel_rfl) h
  , trivial⟩
theorem laws_szForkS_w : EntOK Tryz.prog TT laws_szForkS_e := ent_ok tabok (L := [laws_szFork_e]) ⟨laws_szFork_w, trivial⟩ (keep := (kk [0, 1, 4, 5])) (l := laws_szForkS_l) Tryz.func189 (by kernel_rfl) (sg := [.one (.sc)]) (by kernel_rfl) laws_szForkS_s fun av k h => by
  unfold laws_szForkS at h; split at h
  · exact Eq.mpr (by kernel_rfl) h
  · exact h.elim

def laws_szKnown : GM
 | [.agg u0, .one a2], k => un 2 (fun a0 a1 => 
  call laws_szSignedSS [.one a0, .one a2] fun o0 =>
  binP .lss (atP o0 0) (I 0) fun r1 =>
  iteP r1
   (rt [.sc] [(I (-1))] k)
   (call laws_szForkS [.one a1, .one (atP o0 0)] fun o2 =>
   binP .lss (atP o2 0) (I 0) fun r3 =>
   iteP r3
    (rt [.sc] [(I (-1))] k)
    (rt [.sc] [(atP o2 0)] k))) u0
 | _, _ => False
abbrev laws_szKnown_e : Ent := ⟨[82], laws_szKnown⟩
theorem laws_szKnown_w : EntOK Tryz.prog TT laws_szKnown_e := ent_ok tabok (L := [laws_szSignedSS_e, laws_szForkS_e]) ⟨laws_szSignedSS_w, laws_szForkS_w, trivial⟩ (keep := []) (l := []) Tryz.func82 (by kernel_rfl) (sg := [.one (.sc)]) (by kernel_rfl) trivial fun av k h => by
  unfold laws_szKnown at h; split at h
  · apply un_all h; clear h; intro a0 a1 h; exact Eq.mpr (by kernel_rfl) h
  · exact h.elim

def laws_szProof : GM
 | [.agg u0, .one a2], k => un 2 (fun a0 a1 => 
  call laws_szIntS [.one a1, .one a2] fun o0 =>
  binP .lss (atP o0 0) (I 0) fun r1 =>
  iteP r1
   (rt [.sc] [(I (-1))] k)
   (rt [.sc] [(atP o0 0)] k)) u0
 | _, _ => False
abbrev laws_szProof_e : Ent := ⟨[312], laws_szProof⟩
theorem laws_szProof_w : EntOK Tryz.prog TT laws_szProof_e := ent_ok tabok (L := [laws_szIntS_e]) ⟨laws_szIntS_w, trivial⟩ (keep := []) (l := []) Tryz.func312 (by kernel_rfl) (sg := [.one (.sc)]) (by kernel_rfl) trivial fun av k h => by
  unfold laws_szProof at h; split at h
  · apply un_all h; clear h; intro a0 a1 h; exact Eq.mpr (by kernel_rfl) h
  · exact h.elim

def laws_szGap : GM
 | [.agg u0, .one a13], k => un 13 (fun a0 a1 a2 a3 a4 a5 a6 a7 a8 a9 a10 a11 a12 => 
  call laws_szEntry [.agg [a1, a2, a3, a4], .one a13] fun o0 =>
  binP .lss (atP o0 0) (I 0) fun r1 =>
  iteP r1
   (rt [.sc] [(I (-1))] k)
   (call laws_szEntry [.agg [a5, a6, a7, a8], .one (atP o0 0)] fun o2 =>
   binP .lss (atP o2 0) (I 0) fun r3 =>
   iteP r3
    (rt [.sc] [(I (-1))] k)
    (call laws_szProof [.agg [a9, a10], .one (atP o2 0)] fun o4 =>
    binP .lss (atP o4 0) (I 0) fun r5 =>
    iteP r5
     (rt [.sc] [(I (-1))] k)
     (call laws_szProof [.agg [a11, a12], .one (atP o4 0)] fun o6 =>
     binP .lss (atP o6 0) (I 0) fun r7 =>
     iteP r7
      (rt [.sc] [(I (-1))] k)
      (rt [.sc] [(atP o6 0)] k))))) u0
 | _, _ => False
abbrev laws_szGap_e : Ent := ⟨[313], laws_szGap⟩
theorem laws_szGap_w : EntOK Tryz.prog TT laws_szGap_e := ent_ok tabok (L := [laws_szEntry_e, laws_szProof_e]) ⟨laws_szEntry_w, laws_szProof_w, trivial⟩ (keep := []) (l := []) Tryz.func313 (by kernel_rfl) (sg := [.one (.sc)]) (by kernel_rfl) trivial fun av k h => by
  unfold laws_szGap at h; split at h
  · apply un_all h; clear h; intro a0 a1 a2 a3 a4 a5 a6 a7 a8 a9 a10 a11 a12 h; exact Eq.mpr (by kernel_rfl) h
  · exact h.elim

def laws_szAnswer : GM
 | [.agg u0, .one a21], k => un 21 (fun a0 a1 a2 a3 a4 a5 a6 a7 a8 a9 a10 a11 a12 a13 a14 a15 a16 a17 a18 a19 a20 => 
  call laws_szSignedS [.one a0, .one a21] fun o0 =>
  binP .lss (atP o0 0) (I 0) fun r1 =>
  iteP r1
   (rt [.sc] [(I (-1))] k)
   (call laws_szEntry [.agg [a2, a3, a4, a5], .one (atP o0 0)] fun o2 =>
   binP .lss (atP o2 0) (I 0) fun r3 =>
   iteP r3
    (rt [.sc] [(I (-1))] k)
    (call laws_szProof [.agg [a6, a7], .one (atP o2 0)] fun o4 =>
    binP .lss (atP o4 0) (I 0) fun r5 =>
    iteP r5
     (rt [.sc] [(I (-1))] k)
     (call laws_szGap [.agg [a8, a9, a10, a11, a12, a13, a14, a15, a16, a17, a18, a19, a20], .one (atP o4 0)] fun o6 =>
     binP .lss (atP o6 0) (I 0) fun r7 =>
     iteP r7
      (rt [.sc] [(I (-1))] k)
      (rt [.sc] [(atP o6 0)] k))))) u0
 | _, _ => False
abbrev laws_szAnswer_e : Ent := ⟨[257], laws_szAnswer⟩
theorem laws_szAnswer_w : EntOK Tryz.prog TT laws_szAnswer_e := ent_ok tabok (L := [laws_szSignedS_e, laws_szEntry_e, laws_szProof_e, laws_szGap_e]) ⟨laws_szSignedS_w, laws_szEntry_w, laws_szProof_w, laws_szGap_w, trivial⟩ (keep := []) (l := []) Tryz.func257 (by kernel_rfl) (sg := [.one (.sc)]) (by kernel_rfl) trivial fun av k h => by
  unfold laws_szAnswer at h; split at h
  · apply un_all h; clear h; intro a0 a1 a2 a3 a4 a5 a6 a7 a8 a9 a10 a11 a12 a13 a14 a15 a16 a17 a18 a19 a20 h; exact Eq.mpr (by kernel_rfl) h
  · exact h.elim

def laws_szStored : GM
 | [.agg u0, .one a23], k => un 23 (fun a0 a1 a2 a3 a4 a5 a6 a7 a8 a9 a10 a11 a12 a13 a14 a15 a16 a17 a18 a19 a20 a21 a22 => 
  lenS a1 fun r0 =>
  binP .sub a23 r0 fun r1 =>
  binP .lss r1 (I 0) fun r2 =>
  iteP r2
   (rt [.sc] [(I (-1))] k)
   (call laws_szAnswer [.agg [a2, a3, a4, a5, a6, a7, a8, a9, a10, a11, a12, a13, a14, a15, a16, a17, a18, a19, a20, a21, a22], .one r1] fun o3 =>
   binP .lss (atP o3 0) (I 0) fun r4 =>
   iteP r4
    (rt [.sc] [(I (-1))] k)
    (rt [.sc] [(atP o3 0)] k))) u0
 | _, _ => False
abbrev laws_szStored_e : Ent := ⟨[168], laws_szStored⟩
theorem laws_szStored_w : EntOK Tryz.prog TT laws_szStored_e := ent_ok tabok (L := [laws_szAnswer_e]) ⟨laws_szAnswer_w, trivial⟩ (keep := []) (l := []) Tryz.func168 (by kernel_rfl) (sg := [.one (.sc)]) (by kernel_rfl) trivial fun av k h => by
  unfold laws_szStored at h; split at h
  · apply un_all h; clear h; intro a0 a1 a2 a3 a4 a5 a6 a7 a8 a9 a10 a11 a12 a13 a14 a15 a16 a17 a18 a19 a20 a21 a22 h; exact Eq.mpr (by kernel_rfl) h
  · exact h.elim

def laws_szStoredS_r0 (v : List PV) (K : List PV → Prop) (x0k : Prop) (x1k : PV → PV → PV → PV → Prop) : Prop :=
 un 4 (fun v0 v1 v2 v3 =>
  lenP v0 fun r0 =>
  binP .lss v3 r0 fun r1 =>
  iteP r1
   (elemP 23 v0 v3 fun c2 =>
   call laws_szStored [.agg [(atP c2 0), (atP c2 1), (atP c2 2), (atP c2 3), (atP c2 4), (atP c2 5), (atP c2 6), (atP c2 7), (atP c2 8), (atP c2 9), (atP c2 10), (atP c2 11), (atP c2 12), (atP c2 13), (atP c2 14), (atP c2 15), (atP c2 16), (atP c2 17), (atP c2 18), (atP c2 19), (atP c2 20), (atP c2 21), (atP c2 22)], .one v1] fun o3 =>
   binP .lss (atP o3 0) (I 0) fun r4 =>
   iteP r4
    (x0k)
    (binP .add v3 (I 1) fun r5 =>
    K [v0, (atP o3 0), v2, r5]))
   (x1k v0 v1 v2 v3)) v
def laws_szStoredS : GM
 | [.one a0, .one a1], k => 
  lenP a0 fun r0 =>
  binP .sub a1 r0 fun r1 =>
  binP .lss r1 (I 0) fun r2 =>
  iteP r2
   (rt [.sc] [(I (-1))] k)
   (lp (fun L w => laws_szStoredS_r0 w L
    (rt [.sc] [(I (-1))] k)
    (fun q6 q7 q8 q9 => rt [.sc] [q7] k)) [a0, r1, (I 0), (I 0)])
 | _, _ => False
abbrev laws_szStoredS_e : Ent := ⟨[58], laws_szStoredS⟩
def laws_szStoredS_l : List LE := [⟨0, ⟨[(0, .one (.pv (.bool false))), (1, .one (.pv (.bool false))), (4, .one (.pv (.bool false))), (5, .one (.pv (.bool false)))], [], [], 0, 27⟩, fun K k v => laws_szStoredS_r0 v K (k .ret ⟨[(4, .one (.pv (I (-1))))], [], [], 1, 27⟩) (fun x0 x1 x2 x3 => k (.exit 0) ⟨[(0, .one (.pv x0)), (1, .one (.pv x1)), (4, .one (.pv x2)), (5, .one (.pv x3))], [], [], 0, 27⟩)⟩]
theorem laws_szStoredS_s : LEsOK (orac [laws_szStored_e]) TT (kk [0, 1, 4, 5]) (sumsOf laws_szStoredS_l) Tryz.f58 laws_szStoredS_l := ⟨fun v K k h => by
  apply un_all h; exact fun v0 v1 v2 v3 h => Eq.mpr (by kernel_rfl) h
  , trivial⟩
theorem laws_szStoredS_w : EntOK Tryz.prog TT laws_szStoredS_e := ent_ok tabok (L := [laws_szStored_e]) ⟨laws_szStored_w, trivial⟩ (keep := (kk [0, 1, 4, 5])) (l := laws_szStoredS_l) Tryz.func58 (by kernel_rfl) (sg := [.one (.sc)]) (by kernel_rfl) laws_szStoredS_s fun av k h => by
  unfold laws_szStoredS at h; split at h
  · exact Eq.mpr (by kernel_rfl) h
  · exact h.elim

def laws_szCache : GM
 | [.agg u0, .one a1], k => un 1 (fun a0 => 
  call laws_szStoredS [.one a0, .one a1] fun o0 =>
  binP .lss (atP o0 0) (I 0) fun r1 =>
  iteP r1
   (rt [.sc] [(I (-1))] k)
   (rt [.sc] [(atP o0 0)] k)) u0
 | _, _ => False
abbrev laws_szCache_e : Ent := ⟨[83], laws_szCache⟩
theorem laws_szCache_w : EntOK Tryz.prog TT laws_szCache_e := ent_ok tabok (L := [laws_szStoredS_e]) ⟨laws_szStoredS_w, trivial⟩ (keep := []) (l := []) Tryz.func83 (by kernel_rfl) (sg := [.one (.sc)]) (by kernel_rfl) trivial fun av k h => by
  unfold laws_szCache at h; split at h
  · apply un_all h; clear h; intro a0 h; exact Eq.mpr (by kernel_rfl) h
  · exact h.elim

def laws_szWorld : GM
 | [.agg u0, .one a8], k => un 8 (fun a0 a1 a2 a3 a4 a5 a6 a7 => 
  call laws_szActorS [.one a1, .one a8] fun o0 =>
  binP .lss (atP o0 0) (I 0) fun r1 =>
  iteP r1
   (rt [.sc] [(I (-1))] k)
   (call laws_szZoneS [.one a2, .one (atP o0 0)] fun o2 =>
   binP .lss (atP o2 0) (I 0) fun r3 =>
   iteP r3
    (rt [.sc] [(I (-1))] k)
    (call laws_szSaidS [.one a3, .one (atP o2 0)] fun o4 =>
    binP .lss (atP o4 0) (I 0) fun r5 =>
    iteP r5
     (rt [.sc] [(I (-1))] k)
     (call laws_szServerS [.one a4, .one (atP o4 0)] fun o6 =>
     binP .lss (atP o6 0) (I 0) fun r7 =>
     iteP r7
      (rt [.sc] [(I (-1))] k)
      (call laws_szKnown [.agg [a5, a6], .one (atP o6 0)] fun o8 =>
      binP .lss (atP o8 0) (I 0) fun r9 =>
      iteP r9
       (rt [.sc] [(I (-1))] k)
       (call laws_szCache [.agg [a7], .one (atP o8 0)] fun o10 =>
       binP .lss (atP o10 0) (I 0) fun r11 =>
       iteP r11
        (rt [.sc] [(I (-1))] k)
        (rt [.sc] [(atP o10 0)] k))))))) u0
 | _, _ => False
abbrev laws_szWorld_e : Ent := ⟨[25], laws_szWorld⟩
theorem laws_szWorld_w : EntOK Tryz.prog TT laws_szWorld_e := ent_ok tabok (L := [laws_szActorS_e, laws_szZoneS_e, laws_szSaidS_e, laws_szServerS_e, laws_szKnown_e, laws_szCache_e]) ⟨laws_szActorS_w, laws_szZoneS_w, laws_szSaidS_w, laws_szServerS_w, laws_szKnown_w, laws_szCache_w, trivial⟩ (keep := []) (l := []) Tryz.func25 (by kernel_rfl) (sg := [.one (.sc)]) (by kernel_rfl) trivial fun av k h => by
  unfold laws_szWorld at h; split at h
  · apply un_all h; clear h; intro a0 a1 a2 a3 a4 a5 a6 a7 h; exact Eq.mpr (by kernel_rfl) h
  · exact h.elim

def laws_toIntS_r0 (v : List PV) (K : List PV → Prop) (x0k : PV → PV → PV → PV → Prop) : Prop :=
 un 4 (fun v0 v1 v2 v3 =>
  lenP v0 fun r0 =>
  binP .lss v1 r0 fun r1 =>
  iteP r1
   (elemP 1 v0 v1 fun c2 =>
   boundP 1 v3 v1 fun n3 =>
   (flatCond [.pv (I 0)] [.pv (atP c2 0)]) ∧ setP v3 n3 0 [(atP c2 0)] fun r4 =>
   binP .add v1 (I 1) fun r5 =>
   K [v0, r5, v2, r4])
   (x0k v0 v1 v2 v3)) v
def laws_toIntS : GM
 | [.one a0], k => 
  lenP a0 fun r0 =>
  (r0 = r0) ∧ (1 = 1) ∧ makeP 1 r0 [(I 0)] fun r1 =>
  lp (fun L w => laws_toIntS_r0 w L
   (fun q6 q7 q8 q9 => rt [.own true 3 1] [q9] k)) [a0, (I 0), (.list 1 []), r1]
 | _, _ => False
abbrev laws_toIntS_e : Ent := ⟨[74], laws_toIntS⟩
def laws_toIntS_l : List LE := [⟨0, ⟨[(0, .one (.pv (.bool false))), (2, .one (.own 1)), (3, .one (.own 0)), (4, .one (.pv (.bool false)))], [], [(1, ⟨.deep, 3, 1, (.bool false)⟩), (0, ⟨.deep, 3, 1, (.bool false)⟩)], 2, 22⟩, fun K k v => laws_toIntS_r0 v K (fun x0 x1 x2 x3 => k (.exit 0) ⟨[(0, .one (.pv x0)), (2, .one (.own 1)), (3, .one (.own 0)), (4, .one (.pv x1))], [], [(1, ⟨.deep, 3, 1, x2⟩), (0, ⟨.deep, 3, 1, x3⟩)], 2, 22⟩)⟩]
theorem laws_toIntS_s : LEsOK (orac []) TT (kk [0, 2, 3, 4]) (sumsOf laws_toIntS_l) Tryz.f74 laws_toIntS_l := ⟨fun v K k h => by
  apply un_all h; exact fun v0 v1 v2 v3 h => Eq.mpr (by kernel_rfl) h
  , trivial⟩
theorem laws_toIntS_w : EntOK Tryz.prog TT laws_toIntS_e := ent_ok tabok (L := []) trivial (keep := (kk [0, 2, 3, 4])) (l := laws_toIntS_l) Tryz.func74 (by kernel_rfl) (sg := [.one (.own true 3 1)]) (by kernel_rfl) laws_toIntS_s fun av k h => by
  unfold laws_toIntS at h; split at h
  · exact Eq.mpr (by kernel_rfl) h
  · exact h.elim

def laws_toActor : GM
 | [.agg u0], k => un 1 (fun a0 => 
  call laws_toIntS [.one a0] fun o0 =>
  rt [.own true 3 1] [(atP o0 0)] k) u0
 | _, _ => False
abbrev laws_toActor_e : Ent := ⟨[193], laws_toActor⟩
theorem laws_toActor_w : EntOK Tryz.prog TT laws_toActor_e := ent_ok tabok (L := [laws_toIntS_e]) ⟨laws_toIntS_w, trivial⟩ (keep := []) (l := []) Tryz.func193 (by kernel_rfl) (sg := [.agg [.own true 3 1]]) (by kernel_rfl) trivial fun av k h => by
  unfold laws_toActor at h; split at h
  · apply un_all h; clear h; intro a0 h; exact Eq.mpr (by kernel_rfl) h
  · exact h.elim

def laws_toActorS_r0 (v : List PV) (K : List PV → Prop) (x0k : PV → PV → PV → PV → Prop) : Prop :=
 un 4 (fun v0 v1 v2 v3 =>
  lenP v0 fun r0 =>
  binP .lss v1 r0 fun r1 =>
  iteP r1
   (elemP 1 v0 v1 fun c2 =>
   call laws_toActor [.agg [(atP c2 0)]] fun o3 =>
   boundP 1 v3 v1 fun n4 =>
   (flatCond [.nil 3 1] [.own 2]) ∧ setP v3 n4 0 [(atP o3 0)] fun r5 =>
   binP .add v1 (I 1) fun r6 =>
   K [v0, r6, v2, r5])
   (x0k v0 v1 v2 v3)) v
def laws_toActorS : GM
 | [.one a0], k => 
  lenP a0 fun r0 =>
  (r0 = r0) ∧ (1 = 1) ∧ makeP 1 r0 [(.list 1 [])] fun r1 =>
  lp (fun L w => laws_toActorS_r0 w L
   (fun q7 q8 q9 q10 => rt [.own true 223 1] [q10] k)) [a0, (I 0), (.list 1 []), r1]
 | _, _ => False
abbrev laws_toActorS_e : Ent := ⟨[86], laws_toActorS⟩
def laws_toActorS_l : List LE := [⟨0, ⟨[(0, .one (.pv (.bool false))), (2, .one (.own 1)), (3, .one (.own 0)), (4, .one (.pv (.bool false)))], [], [(1, ⟨.deep, 223, 1, (.bool false)⟩), (0, ⟨.deep, 223, 1, (.bool false)⟩)], 2, 23⟩, fun K k v => laws_toActorS_r0 v K (fun x0 x1 x2 x3 => k (.exit 0) ⟨[(0, .one (.pv x0)), (2, .one (.own 1)), (3, .one (.own 0)), (4, .one (.pv x1))], [], [(1, ⟨.deep, 223, 1, x2⟩), (0, ⟨.deep, 223, 1, x3⟩)], 2, 23⟩)⟩]
theorem laws_toActorS_s : LEsOK (orac [laws_toActor_e]) TT (kk [0, 2, 3, 4]) (sumsOf laws_toActorS_l) Tryz.f86 laws_toActorS_l := ⟨fun v K k h => by
  apply un_all h; exact fun v0 v1 v2 v3 h => Eq.mpr (by kernel_rfl) h
  , trivial⟩
theorem laws_toActorS_w : EntOK Tryz.prog TT laws_toActorS_e := ent_ok tabok (L := [laws_toActor_e]) ⟨laws_toActor_w, trivial⟩ (keep := (kk [0, 2, 3, 4])) (l := laws_toActorS_l) Tryz.func86 (by kernel_rfl) (sg := [.one (.own true 223 1)]) (by kernel_rfl) laws_toActorS_s fun av k h => by
  unfold laws_toActorS at h; split at h
  · exact Eq.mpr (by kernel_rfl) h
  · exact h.elim

def laws_toKeys : GM
 | [.agg u0], k => un 2 (fun a0 a1 => 
  call laws_toIntS [.one a0] fun o0 =>
  rt [.own true 3 1, .sc] [(atP o0 0), a1] k) u0
 | _, _ => False
abbrev laws_toKeys_e : Ent := ⟨[278], laws_toKeys⟩
theorem laws_toKeys_w : EntOK Tryz.prog TT laws_toKeys_e := ent_ok tabok (L := [laws_toIntS_e]) ⟨laws_toIntS_w, trivial⟩ (keep := []) (l := []) Tryz.func278 (by kernel_rfl) (sg := [.agg [.own true 3 1, .sc]]) (by kernel_rfl) trivial fun av k h => by
  unfold laws_toKeys at h; split at h
  · apply un_all h; clear h; intro a0 a1 h; exact Eq.mpr (by kernel_rfl) h
  · exact h.elim

def laws_toHead : GM
 | [.agg u0], k => un 16 (fun a0 a1 a2 a3 a4 a5 a6 a7 a8 a9 a10 a11 a12 a13 a14 a15 => 
  call laws_toKeys [.agg [a8, a9]] fun o0 =>
  call laws_toKeys [.agg [a10, a11]] fun o1 =>
  call laws_toKeys [.agg [a13, a14]] fun o2 =>
  rt [.sc, .sc, .sc, .sc, .sc, .sc, .sc, .sc, .own true 3 1, .sc, .own true 3 1, .sc, .sc, .own true 3 1, .sc, .sc] [a0, a1, a2, a3, a4, a5, a6, a7, (atP o0 0), (atP o0 1), (atP o1 0), (atP o1 1), a12, (atP o2 0), (atP o2 1), a15] k) u0
 | _, _ => False
abbrev laws_toHead_e : Ent := ⟨[197], laws_toHead⟩
theorem laws_toHead_w : EntOK Tryz.prog TT laws_toHead_e := ent_ok tabok (L := [laws_toKeys_e]) ⟨laws_toKeys_w, trivial⟩ (keep := []) (l := []) Tryz.func197 (by kernel_rfl) (sg := [.agg [.sc, .sc, .sc, .sc, .sc, .sc, .sc, .sc, .own true 3 1, .sc, .own true 3 1, .sc, .sc, .own true 3 1, .sc, .sc]]) (by kernel_rfl) trivial fun av k h => by
  unfold laws_toHead at h; split at h
  · apply un_all h; clear h; intro a0 a1 a2 a3 a4 a5 a6 a7 a8 a9 a10 a11 a12 a13 a14 a15 h; exact Eq.mpr (by kernel_rfl) h
  · exact h.elim

def laws_toSig : GM
 | [.agg u0], k => un 2 (fun a0 a1 => 
  rt [.sc, .sc] [a0, a1] k) u0
 | _, _ => False
abbrev laws_toSig_e : Ent := ⟨[279], laws_toSig⟩
theorem laws_toSig_w : EntOK Tryz.prog TT laws_toSig_e := ent_ok tabok (L := []) trivial (keep := []) (l := []) Tryz.func279 (by kernel_rfl) (sg := [.agg [.sc, .sc]]) (by kernel_rfl) trivial fun av k h => by
  unfold laws_toSig at h; split at h
  · apply un_all h; clear h; intro a0 a1 h; exact Eq.mpr (by kernel_rfl) h
  · exact h.elim

def laws_toSigS_r0 (v : List PV) (K : List PV → Prop) (x0k : PV → PV → PV → PV → Prop) : Prop :=
 un 4 (fun v0 v1 v2 v3 =>
  lenP v0 fun r0 =>
  binP .lss v1 r0 fun r1 =>
  iteP r1
   (elemP 2 v0 v1 fun c2 =>
   call laws_toSig [.agg [(atP c2 0), (atP c2 1)]] fun o3 =>
   boundP 2 v3 v1 fun n4 =>
   (flatCond [.pv (I 0), .pv (I 0)] [.pv (atP o3 0), .pv (atP o3 1)]) ∧ setP v3 n4 0 [(atP o3 0), (atP o3 1)] fun r5 =>
   binP .add v1 (I 1) fun r6 =>
   K [v0, r6, v2, r5])
   (x0k v0 v1 v2 v3)) v
def laws_toSigS : GM
 | [.one a0], k => 
  lenP a0 fun r0 =>
  (r0 = r0) ∧ (2 = 2) ∧ makeP 2 r0 [(I 0), (I 0)] fun r1 =>
  lp (fun L w => laws_toSigS_r0 w L
   (fun q7 q8 q9 q10 => rt [.own true 251 2] [q10] k)) [a0, (I 0), (.list 2 []), r1]
 | _, _ => False
abbrev laws_toSigS_e : Ent := ⟨[198], laws_toSigS⟩
def laws_toSigS_l : List LE := [⟨0, ⟨[(0, .one (.pv (.bool false))), (2, .one (.own 1)), (3, .one (.own 0)), (4, .one (.pv (.bool false)))], [], [(1, ⟨.deep, 251, 2, (.bool false)⟩), (0, ⟨.deep, 251, 2, (.bool false)⟩)], 2, 23⟩, fun K k v => laws_toSigS_r0 v K (fun x0 x1 x2 x3 => k (.exit 0) ⟨[(0, .one (.pv x0)), (2, .one (.own 1)), (3, .one (.own 0)), (4, .one (.pv x1))], [], [(1, ⟨.deep, 251, 2, x2⟩), (0, ⟨.deep, 251, 2, x3⟩)], 2, 23⟩)⟩]
theorem laws_toSigS_s : LEsOK (orac [laws_toSig_e]) TT (kk [0, 2, 3, 4]) (sumsOf laws_toSigS_l) Tryz.f198 laws_toSigS_l := ⟨fun v K k h => by
  apply un_all h; exact fun v0 v1 v2 v3 h => Eq.mpr (by kernel_rfl) h
  , trivial⟩
theorem laws_toSigS_w : EntOK Tryz.prog TT laws_toSigS_e := ent_ok tabok (L := [laws_toSig_e]) ⟨laws_toSig_w, trivial⟩ (keep := (kk [0, 2, 3, 4])) (l := laws_toSigS_l) Tryz.func198 (by kernel_rfl) (sg := [.one (.own true 251 2)]) (by kernel_rfl) laws_toSigS_s fun av k h => by
  unfold laws_toSigS at h; split at h
  · exact Eq.mpr (by kernel_rfl) h
  · exact h.elim

def laws_toSigned : GM
 | [.agg u0], k => un 17 (fun a0 a1 a2 a3 a4 a5 a6 a7 a8 a9 a10 a11 a12 a13 a14 a15 a16 => 
  call laws_toHead [.agg [a0, a1, a2, a3, a4, a5, a6, a7, a8, a9, a10, a11, a12, a13, a14, a15]] fun o0 =>
  call laws_toSigS [.one a16] fun o1 =>
  rt [.sc, .sc, .sc, .sc, .sc, .sc, .sc, .sc, .own true 3 1, .sc, .own true 3 1, .sc, .sc, .own true 3 1, .sc, .sc, .own true 251 2] [(atP o0 0), (atP o0 1), (atP o0 2), (atP o0 3), (atP o0 4), (atP o0 5), (atP o0 6), (atP o0 7), (atP o0 8), (atP o0 9), (atP o0 10), (atP o0 11), (atP o0 12), (atP o0 13), (atP o0 14), (atP o0 15), (atP o1 0)] k) u0
 | _, _ => False
abbrev laws_toSigned_e : Ent := ⟨[92], laws_toSigned⟩
theorem laws_toSigned_w : EntOK Tryz.prog TT laws_toSigned_e := ent_ok tabok (L := [laws_toHead_e, laws_toSigS_e]) ⟨laws_toHead_w, laws_toSigS_w, trivial⟩ (keep := []) (l := []) Tryz.func92 (by kernel_rfl) (sg := [.agg [.sc, .sc, .sc, .sc, .sc, .sc, .sc, .sc, .own true 3 1, .sc, .own true 3 1, .sc, .sc, .own true 3 1, .sc, .sc, .own true 251 2]]) (by kernel_rfl) trivial fun av k h => by
  unfold laws_toSigned at h; split at h
  · apply un_all h; clear h; intro a0 a1 a2 a3 a4 a5 a6 a7 a8 a9 a10 a11 a12 a13 a14 a15 a16 h; exact Eq.mpr (by kernel_rfl) h
  · exact h.elim

def laws_toSignedS_r0 (v : List PV) (K : List PV → Prop) (x0k : PV → PV → PV → PV → Prop) : Prop :=
 un 4 (fun v0 v1 v2 v3 =>
  lenP v0 fun r0 =>
  binP .lss v1 r0 fun r1 =>
  iteP r1
   (elemP 17 v0 v1 fun c2 =>
   call laws_toSigned [.agg [(atP c2 0), (atP c2 1), (atP c2 2), (atP c2 3), (atP c2 4), (atP c2 5), (atP c2 6), (atP c2 7), (atP c2 8), (atP c2 9), (atP c2 10), (atP c2 11), (atP c2 12), (atP c2 13), (atP c2 14), (atP c2 15), (atP c2 16)]] fun o3 =>
   boundP 17 v3 v1 fun n4 =>
   (flatCond [.pv (I 0), .pv (I 0), .pv (I 0), .pv (I 0), .pv (I 0), .pv (I 0), .pv (I 0), .pv (I 0), .nil 3 1, .pv (I 0), .nil 3 1, .pv (I 0), .pv (I 0), .nil 3 1, .pv (I 0), .pv (.bool false), .nil 251 2] [.pv (atP o3 0), .pv (atP o3 1), .pv (atP o3 2), .pv (atP o3 3), .pv (atP o3 4), .pv (atP o3 5), .pv (atP o3 6), .pv (atP o3 7), .own 10, .pv (atP o3 9), .own 12, .pv (atP o3 11), .pv (atP o3 12), .own 15, .pv (atP o3 14), .pv (atP o3 15), .own 18]) ∧ setP v3 n4 0 [(atP o3 0), (atP o3 1), (atP o3 2), (atP o3 3), (atP o3 4), (atP o3 5), (atP o3 6), (atP o3 7), (atP o3 8), (atP o3 9), (atP o3 10), (atP o3 11), (atP o3 12), (atP o3 13), (atP o3 14), (atP o3 15), (atP o3 16)] fun r5 =>
   binP .add v1 (I 1) fun r6 =>
   K [v0, r6, v2, r5])
   (x0k v0 v1 v2 v3)) v
def laws_toSignedS : GM
 | [.one a0], k => 
  lenP a0 fun r0 =>
  (r0 = r0) ∧ (17 = 17) ∧ makeP 17 r0 [(I 0), (I 0), (I 0), (I 0), (I 0), (I 0), (I 0), (I 0), (.list 1 []), (I 0), (.list 1 []), (I 0), (I 0), (.list 1 []), (I 0), (.bool false), (.list 2 [])] fun r1 =>
  lp (fun L w => laws_toSignedS_r0 w L
   (fun q7 q8 q9 q10 => rt [.own true 155 17] [q10] k)) [a0, (I 0), (.list 17 []), r1]
 | _, _ => False
abbrev laws_toSignedS_e : Ent := ⟨[29], laws_toSignedS⟩
def laws_toSignedS_l : List LE := [⟨0, ⟨[(0, .one (.pv (.bool false))), (2, .one (.own 1)), (3, .one (.own 0)), (4, .one (.pv (.bool false)))], [], [(1, ⟨.deep, 155, 17, (.bool false)⟩), (0, ⟨.deep, 155, 17, (.bool false)⟩)], 2, 23⟩, fun K k v => laws_toSignedS_r0 v K (fun x0 x1 x2 x3 => k (.exit 0) ⟨[(0, .one (.pv x0)), (2, .one (.own 1)), (3, .one (.own 0)), (4, .one (.pv x1))], [], [(1, ⟨.deep, 155, 17, x2⟩), (0, ⟨.deep, 155, 17, x3⟩)], 2, 23⟩)⟩]
theorem laws_toSignedS_s : LEsOK (orac [laws_toSigned_e]) TT (kk [0, 2, 3, 4]) (sumsOf laws_toSignedS_l) Tryz.f29 laws_toSignedS_l := ⟨fun v K k h => by
  apply un_all h; exact fun v0 v1 v2 v3 h => Eq.mpr (by kernel_rfl) h
  , trivial⟩
theorem laws_toSignedS_w : EntOK Tryz.prog TT laws_toSignedS_e := ent_ok tabok (L := [laws_toSigned_e]) ⟨laws_toSigned_w, trivial⟩ (keep := (kk [0, 2, 3, 4])) (l := laws_toSignedS_l) Tryz.func29 (by kernel_rfl) (sg := [.one (.own true 155 17)]) (by kernel_rfl) laws_toSignedS_s fun av k h => by
  unfold laws_toSignedS at h; split at h
  · exact Eq.mpr (by kernel_rfl) h
  · exact h.elim

def laws_toStringS_r0 (v : List PV) (K : List PV → Prop) (x0k : PV → PV → PV → PV → Prop) : Prop :=
 un 4 (fun v0 v1 v2 v3 =>
  lenP v0 fun r0 =>
  binP .lss v1 r0 fun r1 =>
  iteP r1
   (elemP 1 v0 v1 fun c2 =>
   boundP 1 v3 v1 fun n3 =>
   (flatCond [.pv (.str ⟨#[]⟩)] [.pv (atP c2 0)]) ∧ setP v3 n3 0 [(atP c2 0)] fun r4 =>
   binP .add v1 (I 1) fun r5 =>
   K [v0, r5, v2, r4])
   (x0k v0 v1 v2 v3)) v
def laws_toStringS : GM
 | [.one a0], k => 
  lenP a0 fun r0 =>
  (r0 = r0) ∧ (1 = 1) ∧ makeP 1 r0 [(.str ⟨#[]⟩)] fun r1 =>
  lp (fun L w => laws_toStringS_r0 w L
   (fun q6 q7 q8 q9 => rt [.own true 9 1] [q9] k)) [a0, (I 0), (.list 1 []), r1]
 | _, _ => False
abbrev laws_toStringS_e : Ent := ⟨[63], laws_toStringS⟩
def laws_toStringS_l : List LE := [⟨0, ⟨[(0, .one (.pv (.bool false))), (2, .one (.own 1)), (3, .one (.own 0)), (4, .one (.pv (.bool false)))], [], [(1, ⟨.deep, 9, 1, (.bool false)⟩), (0, ⟨.deep, 9, 1, (.bool false)⟩)], 2, 22⟩, fun K k v => laws_toStringS_r0 v K (fun x0 x1 x2 x3 => k (.exit 0) ⟨[(0, .one (.pv x0)), (2, .one (.own 1)), (3, .one (.own 0)), (4, .one (.pv x1))], [], [(1, ⟨.deep, 9, 1, x2⟩), (0, ⟨.deep, 9, 1, x3⟩)], 2, 22⟩)⟩]
theorem laws_toStringS_s : LEsOK (orac []) TT (kk [0, 2, 3, 4]) (sumsOf laws_toStringS_l) Tryz.f63 laws_toStringS_l := ⟨fun v K k h => by
  apply un_all h; exact fun v0 v1 v2 v3 h => Eq.mpr (by kernel_rfl) h
  , trivial⟩
theorem laws_toStringS_w : EntOK Tryz.prog TT laws_toStringS_e := ent_ok tabok (L := []) trivial (keep := (kk [0, 2, 3, 4])) (l := laws_toStringS_l) Tryz.func63 (by kernel_rfl) (sg := [.one (.own true 9 1)]) (by kernel_rfl) laws_toStringS_s fun av k h => by
  unfold laws_toStringS at h; split at h
  · exact Eq.mpr (by kernel_rfl) h
  · exact h.elim

def laws_toEntry : GM
 | [.agg u0], k => un 4 (fun a0 a1 a2 a3 => 
  call laws_toStringS [.one a3] fun o0 =>
  rt [.sc, .sc, .sc, .own true 9 1] [a0, a1, a2, (atP o0 0)] k) u0
 | _, _ => False
abbrev laws_toEntry_e : Ent := ⟨[52], laws_toEntry⟩
theorem laws_toEntry_w : EntOK Tryz.prog TT laws_toEntry_e := ent_ok tabok (L := [laws_toStringS_e]) ⟨laws_toStringS_w, trivial⟩ (keep := []) (l := []) Tryz.func52 (by kernel_rfl) (sg := [.agg [.sc, .sc, .sc, .own true 9 1]]) (by kernel_rfl) trivial fun av k h => by
  unfold laws_toEntry at h; split at h
  · apply un_all h; clear h; intro a0 a1 a2 a3 h; exact Eq.mpr (by kernel_rfl) h
  · exact h.elim

def laws_toEntryS_r0 (v : List PV) (K : List PV → Prop) (x0k : PV → PV → PV → PV → Prop) : Prop :=
 un 4 (fun v0 v1 v2 v3 =>
  lenP v0 fun r0 =>
  binP .lss v1 r0 fun r1 =>
  iteP r1
   (elemP 4 v0 v1 fun c2 =>
   call laws_toEntry [.agg [(atP c2 0), (atP c2 1), (atP c2 2), (atP c2 3)]] fun o3 =>
   boundP 4 v3 v1 fun n4 =>
   (flatCond [.pv (.str ⟨#[]⟩), .pv (I 0), .pv (I 0), .nil 9 1] [.pv (atP o3 0), .pv (atP o3 1), .pv (atP o3 2), .own 5]) ∧ setP v3 n4 0 [(atP o3 0), (atP o3 1), (atP o3 2), (atP o3 3)] fun r5 =>
   binP .add v1 (I 1) fun r6 =>
   K [v0, r6, v2, r5])
   (x0k v0 v1 v2 v3)) v
def laws_toEntryS : GM
 | [.one a0], k => 
  lenP a0 fun r0 =>
  (r0 = r0) ∧ (4 = 4) ∧ makeP 4 r0 [(.str ⟨#[]⟩), (I 0), (I 0), (.list 1 [])] fun r1 =>
  lp (fun L w => laws_toEntryS_r0 w L
   (fun q7 q8 q9 q10 => rt [.own true 101 4] [q10] k)) [a0, (I 0), (.list 4 []), r1]
 | _, _ => False
abbrev laws_toEntryS_e : Ent := ⟨[110], laws_toEntryS⟩
def laws_toEntryS_l : List LE := [⟨0, ⟨[(0, .one (.pv (.bool false))), (2, .one (.own 1)), (3, .one (.own 0)), (4, .one (.pv (.bool false)))], [], [(1, ⟨.deep, 101, 4, (.bool false)⟩), (0, ⟨.deep, 101, 4, (.bool false)⟩)], 2, 23⟩, fun K k v => laws_toEntryS_r0 v K (fun x0 x1 x2 x3 => k (.exit 0) ⟨[(0, .one (.pv x0)), (2, .one (.own 1)), (3, .one (.own 0)), (4, .one (.pv x1))], [], [(1, ⟨.deep, 101, 4, x2⟩), (0, ⟨.deep, 101, 4, x3⟩)], 2, 23⟩)⟩]
theorem laws_toEntryS_s : LEsOK (orac [laws_toEntry_e]) TT (kk [0, 2, 3, 4]) (sumsOf laws_toEntryS_l) Tryz.f110 laws_toEntryS_l := ⟨fun v K k h => by
  apply un_all h; exact fun v0 v1 v2 v3 h => Eq.mpr (by kernel_rfl) h
  , trivial⟩
theorem laws_toEntryS_w : EntOK Tryz.prog TT laws_toEntryS_e := ent_ok tabok (L := [laws_toEntry_e]) ⟨laws_toEntry_w, trivial⟩ (keep := (kk [0, 2, 3, 4])) (l := laws_toEntryS_l) Tryz.func110 (by kernel_rfl) (sg := [.one (.own true 101 4)]) (by kernel_rfl) laws_toEntryS_s fun av k h => by
  unfold laws_toEntryS at h; split at h
  · exact Eq.mpr (by kernel_rfl) h
  · exact h.elim

def laws_toZone : GM
 | [.agg u0], k => un 2 (fun a0 a1 => 
  call laws_toSignedS [.one a0] fun o0 =>
  call laws_toEntryS [.one a1] fun o1 =>
  rt [.own true 155 17, .own true 101 4] [(atP o0 0), (atP o1 0)] k) u0
 | _, _ => False
abbrev laws_toZone_e : Ent := ⟨[37], laws_toZone⟩
theorem laws_toZone_w : EntOK Tryz.prog TT laws_toZone_e := ent_ok tabok (L := [laws_toSignedS_e, laws_toEntryS_e]) ⟨laws_toSignedS_w, laws_toEntryS_w, trivial⟩ (keep := []) (l := []) Tryz.func37 (by kernel_rfl) (sg := [.agg [.own true 155 17, .own true 101 4]]) (by kernel_rfl) trivial fun av k h => by
  unfold laws_toZone at h; split at h
  · apply un_all h; clear h; intro a0 a1 h; exact Eq.mpr (by kernel_rfl) h
  · exact h.elim

def laws_toZoneS_r0 (v : List PV) (K : List PV → Prop) (x0k : PV → PV → PV → PV → Prop) : Prop :=
 un 4 (fun v0 v1 v2 v3 =>
  lenP v0 fun r0 =>
  binP .lss v1 r0 fun r1 =>
  iteP r1
   (elemP 2 v0 v1 fun c2 =>
   call laws_toZone [.agg [(atP c2 0), (atP c2 1)]] fun o3 =>
   boundP 2 v3 v1 fun n4 =>
   (flatCond [.nil 155 17, .nil 101 4] [.own 2, .own 3]) ∧ setP v3 n4 0 [(atP o3 0), (atP o3 1)] fun r5 =>
   binP .add v1 (I 1) fun r6 =>
   K [v0, r6, v2, r5])
   (x0k v0 v1 v2 v3)) v
def laws_toZoneS : GM
 | [.one a0], k => 
  lenP a0 fun r0 =>
  (r0 = r0) ∧ (2 = 2) ∧ makeP 2 r0 [(.list 17 []), (.list 4 [])] fun r1 =>
  lp (fun L w => laws_toZoneS_r0 w L
   (fun q7 q8 q9 q10 => rt [.own true 46 2] [q10] k)) [a0, (I 0), (.list 2 []), r1]
 | _, _ => False
abbrev laws_toZoneS_e : Ent := ⟨[87], laws_toZoneS⟩
def laws_toZoneS_l : List LE := [⟨0, ⟨[(0, .one (.pv (.bool false))), (2, .one (.own 1)), (3, .one (.own 0)), (4, .one (.pv (.bool false)))], [], [(1, ⟨.deep, 46, 2, (.bool false)⟩), (0, ⟨.deep, 46, 2, (.bool false)⟩)], 2, 23⟩, fun K k v => laws_toZoneS_r0 v K (fun x0 x1 x2 x3 => k (.exit 0) ⟨[(0, .one (.pv x0)), (2, .one (.own 1)), (3, .one (.own 0)), (4, .one (.pv x1))], [], [(1, ⟨.deep, 46, 2, x2⟩), (0, ⟨.deep, 46, 2, x3⟩)], 2, 23⟩)⟩]
theorem laws_toZoneS_s : LEsOK (orac [laws_toZone_e]) TT (kk [0, 2, 3, 4]) (sumsOf laws_toZoneS_l) Tryz.f87 laws_toZoneS_l := ⟨fun v K k h => by
  apply un_all h; exact fun v0 v1 v2 v3 h => Eq.mpr (by kernel_rfl) h
  , trivial⟩
theorem laws_toZoneS_w : EntOK Tryz.prog TT laws_toZoneS_e := ent_ok tabok (L := [laws_toZone_e]) ⟨laws_toZone_w, trivial⟩ (keep := (kk [0, 2, 3, 4])) (l := laws_toZoneS_l) Tryz.func87 (by kernel_rfl) (sg := [.one (.own true 46 2)]) (by kernel_rfl) laws_toZoneS_s fun av k h => by
  unfold laws_toZoneS at h; split at h
  · exact Eq.mpr (by kernel_rfl) h
  · exact h.elim

def laws_toSaid : GM
 | [.agg u0], k => un 3 (fun a0 a1 a2 => 
  call laws_toZone [.agg [a0, a1]] fun o0 =>
  call laws_toIntS [.one a2] fun o1 =>
  rt [.own true 155 17, .own true 101 4, .own true 3 1] [(atP o0 0), (atP o0 1), (atP o1 0)] k) u0
 | _, _ => False
abbrev laws_toSaid_e : Ent := ⟨[22], laws_toSaid⟩
theorem laws_toSaid_w : EntOK Tryz.prog TT laws_toSaid_e := ent_ok tabok (L := [laws_toZone_e, laws_toIntS_e]) ⟨laws_toZone_w, laws_toIntS_w, trivial⟩ (keep := []) (l := []) Tryz.func22 (by kernel_rfl) (sg := [.agg [.own true 155 17, .own true 101 4, .own true 3 1]]) (by kernel_rfl) trivial fun av k h => by
  unfold laws_toSaid at h; split at h
  · apply un_all h; clear h; intro a0 a1 a2 h; exact Eq.mpr (by kernel_rfl) h
  · exact h.elim

def laws_toSaidS_r0 (v : List PV) (K : List PV → Prop) (x0k : PV → PV → PV → PV → Prop) : Prop :=
 un 4 (fun v0 v1 v2 v3 =>
  lenP v0 fun r0 =>
  binP .lss v1 r0 fun r1 =>
  iteP r1
   (elemP 3 v0 v1 fun c2 =>
   call laws_toSaid [.agg [(atP c2 0), (atP c2 1), (atP c2 2)]] fun o3 =>
   boundP 3 v3 v1 fun n4 =>
   (flatCond [.nil 155 17, .nil 101 4, .nil 3 1] [.own 2, .own 3, .own 4]) ∧ setP v3 n4 0 [(atP o3 0), (atP o3 1), (atP o3 2)] fun r5 =>
   binP .add v1 (I 1) fun r6 =>
   K [v0, r6, v2, r5])
   (x0k v0 v1 v2 v3)) v
def laws_toSaidS : GM
 | [.one a0], k => 
  lenP a0 fun r0 =>
  (r0 = r0) ∧ (3 = 3) ∧ makeP 3 r0 [(.list 17 []), (.list 4 []), (.list 1 [])] fun r1 =>
  lp (fun L w => laws_toSaidS_r0 w L
   (fun q7 q8 q9 q10 => rt [.own true 48 3] [q10] k)) [a0, (I 0), (.list 3 []), r1]
 | _, _ => False
abbrev laws_toSaidS_e : Ent := ⟨[88], laws_toSaidS⟩
def laws_toSaidS_l : List LE := [⟨0, ⟨[(0, .one (.pv (.bool false))), (2, .one (.own 1)), (3, .one (.own 0)), (4, .one (.pv (.bool false)))], [], [(1, ⟨.deep, 48, 3, (.bool false)⟩), (0, ⟨.deep, 48, 3, (.bool false)⟩)], 2, 23⟩, fun K k v => laws_toSaidS_r0 v K (fun x0 x1 x2 x3 => k (.exit 0) ⟨[(0, .one (.pv x0)), (2, .one (.own 1)), (3, .one (.own 0)), (4, .one (.pv x1))], [], [(1, ⟨.deep, 48, 3, x2⟩), (0, ⟨.deep, 48, 3, x3⟩)], 2, 23⟩)⟩]
theorem laws_toSaidS_s : LEsOK (orac [laws_toSaid_e]) TT (kk [0, 2, 3, 4]) (sumsOf laws_toSaidS_l) Tryz.f88 laws_toSaidS_l := ⟨fun v K k h => by
  apply un_all h; exact fun v0 v1 v2 v3 h => Eq.mpr (by kernel_rfl) h
  , trivial⟩
theorem laws_toSaidS_w : EntOK Tryz.prog TT laws_toSaidS_e := ent_ok tabok (L := [laws_toSaid_e]) ⟨laws_toSaid_w, trivial⟩ (keep := (kk [0, 2, 3, 4])) (l := laws_toSaidS_l) Tryz.func88 (by kernel_rfl) (sg := [.one (.own true 48 3)]) (by kernel_rfl) laws_toSaidS_s fun av k h => by
  unfold laws_toSaidS at h; split at h
  · exact Eq.mpr (by kernel_rfl) h
  · exact h.elim

def laws_toServer : GM
 | [.agg u0], k => un 2 (fun a0 a1 => 
  call laws_toZoneS [.one a0] fun o0 =>
  rt [.own true 46 2, .sc] [(atP o0 0), a1] k) u0
 | _, _ => False
abbrev laws_toServer_e : Ent := ⟨[194], laws_toServer⟩
theorem laws_toServer_w : EntOK Tryz.prog TT laws_toServer_e := ent_ok tabok (L := [laws_toZoneS_e]) ⟨laws_toZoneS_w, trivial⟩ (keep := []) (l := []) Tryz.func194 (by kernel_rfl) (sg := [.agg [.own true 46 2, .sc]]) (by kernel_rfl) trivial fun av k h => by
  unfold laws_toServer at h; split at h
  · apply un_all h; clear h; intro a0 a1 h; exact Eq.mpr (by kernel_rfl) h
  · exact h.elim

def laws_toServerS_r0 (v : List PV) (K : List PV → Prop) (x0k : PV → PV → PV → PV → Prop) : Prop :=
 un 4 (fun v0 v1 v2 v3 =>
  lenP v0 fun r0 =>
  binP .lss v1 r0 fun r1 =>
  iteP r1
   (elemP 2 v0 v1 fun c2 =>
   call laws_toServer [.agg [(atP c2 0), (atP c2 1)]] fun o3 =>
   boundP 2 v3 v1 fun n4 =>
   (flatCond [.nil 46 2, .pv (I 0)] [.own 2, .pv (atP o3 1)]) ∧ setP v3 n4 0 [(atP o3 0), (atP o3 1)] fun r5 =>
   binP .add v1 (I 1) fun r6 =>
   K [v0, r6, v2, r5])
   (x0k v0 v1 v2 v3)) v
def laws_toServerS : GM
 | [.one a0], k => 
  lenP a0 fun r0 =>
  (r0 = r0) ∧ (2 = 2) ∧ makeP 2 r0 [(.list 2 []), (I 0)] fun r1 =>
  lp (fun L w => laws_toServerS_r0 w L
   (fun q7 q8 q9 q10 => rt [.own true 174 2] [q10] k)) [a0, (I 0), (.list 2 []), r1]
 | _, _ => False
abbrev laws_toServerS_e : Ent := ⟨[89], laws_toServerS⟩
def laws_toServerS_l : List LE := [⟨0, ⟨[(0, .one (.pv (.bool false))), (2, .one (.own 1)), (3, .one (.own 0)), (4, .one (.pv (.bool false)))], [], [(1, ⟨.deep, 174, 2, (.bool false)⟩), (0, ⟨.deep, 174, 2, (.bool false)⟩)], 2, 23⟩, fun K k v => laws_toServerS_r0 v K (fun x0 x1 x2 x3 => k (.exit 0) ⟨[(0, .one (.pv x0)), (2, .one (.own 1)), (3, .one (.own 0)), (4, .one (.pv x1))], [], [(1, ⟨.deep, 174, 2, x2⟩), (0, ⟨.deep, 174, 2, x3⟩)], 2, 23⟩)⟩]
theorem laws_toServerS_s : LEsOK (orac [laws_toServer_e]) TT (kk [0, 2, 3, 4]) (sumsOf laws_toServerS_l) Tryz.f89 laws_toServerS_l := ⟨fun v K k h => by
  apply un_all h; exact fun v0 v1 v2 v3 h => Eq.mpr (by kernel_rfl) h
  , trivial⟩
theorem laws_toServerS_w : EntOK Tryz.prog TT laws_toServerS_e := ent_ok tabok (L := [laws_toServer_e]) ⟨laws_toServer_w, trivial⟩ (keep := (kk [0, 2, 3, 4])) (l := laws_toServerS_l) Tryz.func89 (by kernel_rfl) (sg := [.one (.own true 174 2)]) (by kernel_rfl) laws_toServerS_s fun av k h => by
  unfold laws_toServerS at h; split at h
  · exact Eq.mpr (by kernel_rfl) h
  · exact h.elim

def laws_toSignedSS_r0 (v : List PV) (K : List PV → Prop) (x0k : PV → PV → PV → PV → Prop) : Prop :=
 un 4 (fun v0 v1 v2 v3 =>
  lenP v0 fun r0 =>
  binP .lss v1 r0 fun r1 =>
  iteP r1
   (elemP 1 v0 v1 fun c2 =>
   call laws_toSignedS [.one (atP c2 0)] fun o3 =>
   boundP 1 v3 v1 fun n4 =>
   (flatCond [.nil 155 17] [.own 2]) ∧ setP v3 n4 0 [(atP o3 0)] fun r5 =>
   binP .add v1 (I 1) fun r6 =>
   K [v0, r6, v2, r5])
   (x0k v0 v1 v2 v3)) v
def laws_toSignedSS : GM
 | [.one a0], k => 
  lenP a0 fun r0 =>
  (r0 = r0) ∧ (1 = 1) ∧ makeP 1 r0 [(.list 17 [])] fun r1 =>
  lp (fun L w => laws_toSignedSS_r0 w L
   (fun q7 q8 q9 q10 => rt [.own true 43 1] [q10] k)) [a0, (I 0), (.list 1 []), r1]
 | _, _ => False
abbrev laws_toSignedSS_e : Ent := ⟨[195], laws_toSignedSS⟩
def laws_toSignedSS_l : List LE := [⟨0, ⟨[(0, .one (.pv (.bool false))), (2, .one (.own 1)), (3, .one (.own 0)), (4, .one (.pv (.bool false)))], [], [(1, ⟨.deep, 43, 1, (.bool false)⟩), (0, ⟨.deep, 43, 1, (.bool false)⟩)], 2, 23⟩, fun K k v => laws_toSignedSS_r0 v K (fun x0 x1 x2 x3 => k (.exit 0) ⟨[(0, .one (.pv x0)), (2, .one (.own 1)), (3, .one (.own 0)), (4, .one (.pv x1))], [], [(1, ⟨.deep, 43, 1, x2⟩), (0, ⟨.deep, 43, 1, x3⟩)], 2, 23⟩)⟩]
theorem laws_toSignedSS_s : LEsOK (orac [laws_toSignedS_e]) TT (kk [0, 2, 3, 4]) (sumsOf laws_toSignedSS_l) Tryz.f195 laws_toSignedSS_l := ⟨fun v K k h => by
  apply un_all h; exact fun v0 v1 v2 v3 h => Eq.mpr (by kernel_rfl) h
  , trivial⟩
theorem laws_toSignedSS_w : EntOK Tryz.prog TT laws_toSignedSS_e := ent_ok tabok (L := [laws_toSignedS_e]) ⟨laws_toSignedS_w, trivial⟩ (keep := (kk [0, 2, 3, 4])) (l := laws_toSignedSS_l) Tryz.func195 (by kernel_rfl) (sg := [.one (.own true 43 1)]) (by kernel_rfl) laws_toSignedSS_s fun av k h => by
  unfold laws_toSignedSS at h; split at h
  · exact Eq.mpr (by kernel_rfl) h
  · exact h.elim

def laws_toFork : GM
 | [.agg u0], k => un 51 (fun a0 a1 a2 a3 a4 a5 a6 a7 a8 a9 a10 a11 a12 a13 a14 a15 a16 a17 a18 a19 a20 a21 a22 a23 a24 a25 a26 a27 a28 a29 a30 a31 a32 a33 a34 a35 a36 a37 a38 a39 a40 a41 a42 a43 a44 a45 a46 a47 a48 a49 a50 => 
  call laws_toSigned [.agg [a0, a1, a2, a3, a4, a5, a6, a7, a8, a9, a10, a11, a12, a13, a14, a15, a16]] fun o0 =>
  call laws_toSigned [.agg [a17, a18, a19, a20, a21, a22, a23, a24, a25, a26, a27, a28, a29, a30, a31, a32, a33]] fun o1 =>
  call laws_toSigned [.agg [a34, a35, a36, a37, a38, a39, a40, a41, a42, a43, a44, a45, a46, a47, a48, a49, a50]] fun o2 =>
  rt [.sc, .sc, .sc, .sc, .sc, .sc, .sc, .sc, .own true 3 1, .sc, .own true 3 1, .sc, .sc, .own true 3 1, .sc, .sc, .own true 251 2, .sc, .sc, .sc, .sc, .sc, .sc, .sc, .sc, .own true 3 1, .sc, .own true 3 1, .sc, .sc, .own true 3 1, .sc, .sc, .own true 251 2, .sc, .sc, .sc, .sc, .sc, .sc, .sc, .sc, .own true 3 1, .sc, .own true 3 1, .sc, .sc, .own true 3 1, .sc, .sc, .own true 251 2] [(atP o0 0), (atP o0 1), (atP o0 2), (atP o0 3), (atP o0 4), (atP o0 5), (atP o0 6), (atP o0 7), (atP o0 8), (atP o0 9), (atP o0 10), (atP o0 11), (atP o0 12), (atP o0 13), (atP o0 14), (atP o0 15), (atP o0 16), (atP o1 0), (atP o1 1), (atP o1 2), (atP o1 3), (atP o1 4), (atP o1 5), (atP o1 6), (atP o1 7), (atP o1 8), (atP o1 9), (atP o1 10), (atP o1 11), (atP o1 12), (atP o1 13), (atP o1 14), (atP o1 15), (atP o1 16), (atP o2 0), (atP o2 1), (atP o2 2), (atP o2 3), (atP o2 4), (atP o2 5), (atP o2 6), (atP o2 7), (atP o2 8), (atP o2 9), (atP o2 10), (atP o2 11), (atP o2 12), (atP o2 13), (atP o2 14), (atP o2 15), (atP o2 16)] k) u0
 | _, _ => False
abbrev laws_toFork_e : Ent := ⟨[277], laws_toFork⟩
theorem laws_toFork_w : EntOK Tryz.prog TT laws_toFork_e := ent_ok tabok (L := [laws_toSigned_e]) ⟨laws_toSigned_w, trivial⟩ (keep := []) (l := []) Tryz.func277 (by kernel_rfl) (sg := [.agg [.sc, .sc, .sc, .sc, .sc, .sc, .sc, .sc, .own true 3 1, .sc, .own true 3 1, .sc, .sc, .own true 3 1, .sc, .sc, .own true 251 2, .sc, .sc, .sc, .sc, .sc, .sc, .sc, .sc, .own true 3 1, .sc, .own true 3 1, .sc, .sc, .own true 3 1, .sc, .sc, .own true 251 2, .sc, .sc, .sc, .sc, .sc, .sc, .sc, .sc, .own true 3 1, .sc, .own true 3 1, .sc, .sc, .own true 3 1, .sc, .sc, .own true 251 2]]) (by kernel_rfl) trivial fun av k h => by
  unfold laws_toFork at h; split at h
  · apply un_all h; clear h; intro a0 a1 a2 a3 a4 a5 a6 a7 a8 a9 a10 a11 a12 a13 a14 a15 a16 a17 a18 a19 a20 a21 a22 a23 a24 a25 a26 a27 a28 a29 a30 a31 a32 a33 a34 a35 a36 a37 a38 a39 a40 a41 a42 a43 a44 a45 a46 a47 a48 a49 a50 h; exact Eq.mpr (by kernel_rfl) h
  · exact h.elim

def laws_toForkS_r0 (v : List PV) (K : List PV → Prop) (x0k : PV → PV → PV → PV → Prop) : Prop :=
 un 4 (fun v0 v1 v2 v3 =>
  lenP v0 fun r0 =>
  binP .lss v1 r0 fun r1 =>
  iteP r1
   (elemP 51 v0 v1 fun c2 =>
   call laws_toFork [.agg [(atP c2 0), (atP c2 1), (atP c2 2), (atP c2 3), (atP c2 4), (atP c2 5), (atP c2 6), (atP c2 7), (atP c2 8), (atP c2 9), (atP c2 10), (atP c2 11), (atP c2 12), (atP c2 13), (atP c2 14), (atP c2 15), (atP c2 16), (atP c2 17), (atP c2 18), (atP c2 19), (atP c2 20), (atP c2 21), (atP c2 22), (atP c2 23), (atP c2 24), (atP c2 25), (atP c2 26), (atP c2 27), (atP c2 28), (atP c2 29), (atP c2 30), (atP c2 31), (atP c2 32), (atP c2 33), (atP c2 34), (atP c2 35), (atP c2 36), (atP c2 37), (atP c2 38), (atP c2 39), (atP c2 40), (atP c2 41), (atP c2 42), (atP c2 43), (atP c2 44), (atP c2 45), (atP c2 46), (atP c2 47), (atP c2 48), (atP c2 49), (atP c2 50)]] fun o3 =>
   boundP 51 v3 v1 fun n4 =>
   (flatCond [.pv (I 0), .pv (I 0), .pv (I 0), .pv (I 0), .pv (I 0), .pv (I 0), .pv (I 0), .pv (I 0), .nil 3 1, .pv (I 0), .nil 3 1, .pv (I 0), .pv (I 0), .nil 3 1, .pv (I 0), .pv (.bool false), .nil 251 2, .pv (I 0), .pv (I 0), .pv (I 0), .pv (I 0), .pv (I 0), .pv (I 0), .pv (I 0), .pv (I 0), .nil 3 1, .pv (I 0), .nil 3 1, .pv (I 0), .pv (I 0), .nil 3 1, .pv (I 0), .pv (.bool false), .nil 251 2, .pv (I 0), .pv (I 0), .pv (I 0), .pv (I 0), .pv (I 0), .pv (I 0), .pv (I 0), .pv (I 0), .nil 3 1, .pv (I 0), .nil 3 1, .pv (I 0), .pv (I 0), .nil 3 1, .pv (I 0), .pv (.bool false), .nil 251 2] [.pv (atP o3 0), .pv (atP o3 1), .pv (atP o3 2), .pv (atP o3 3), .pv (atP o3 4), .pv (atP o3 5), .pv (atP o3 6), .pv (atP o3 7), .own 10, .pv (atP o3 9), .own 12, .pv (atP o3 11), .pv (atP o3 12), .own 15, .pv (atP o3 14), .pv (atP o3 15), .own 18, .pv (atP o3 17), .pv (atP o3 18), .pv (atP o3 19), .pv (atP o3 20), .pv (atP o3 21), .pv (atP o3 22), .pv (atP o3 23), .pv (atP o3 24), .own 27, .pv (atP o3 26), .own 29, .pv (atP o3 28), .pv (atP o3 29), .own 32, .pv (atP o3 31), .pv (atP o3 32), .own 35, .pv (atP o3 34), .pv (atP o3 35), .pv (atP o3 36), .pv (atP o3 37), .pv (atP o3 38), .pv (atP o3 39), .pv (atP o3 40), .pv (atP o3 41), .own 44, .pv (atP o3 43), .own 46, .pv (atP o3 45), .pv (atP o3 46), .own 49, .pv (atP o3 48), .pv (atP o3 49), .own 52]) ∧ setP v3 n4 0 [(atP o3 0), (atP o3 1), (atP o3 2), (atP o3 3), (atP o3 4), (atP o3 5), (atP o3 6), (atP o3 7), (atP o3 8), (atP o3 9), (atP o3 10), (atP o3 11), (atP o3 12), (atP o3 13), (atP o3 14), (atP o3 15), (atP o3 16), (atP o3 17), (atP o3 18), (atP o3 19), (atP o3 20), (atP o3 21), (atP o3 22), (atP o3 23), (atP o3 24), (atP o3 25), (atP o3 26), (atP o3 27), (atP o3 28), (atP o3 29), (atP o3 30), (atP o3 31), (atP o3 32), (atP o3 33), (atP o3 34), (atP o3 35), (atP o3 36), (atP o3 37), (atP o3 38), (atP o3 39), (atP o3 40), (atP o3 41), (atP o3 42), (atP o3 43), (atP o3 44), (atP o3 45), (atP o3 46), (atP o3 47), (atP o3 48), (atP o3 49), (atP o3 50)] fun r5 =>
   binP .add v1 (I 1) fun r6 =>
   K [v0, r6, v2, r5])
   (x0k v0 v1 v2 v3)) v
def laws_toForkS : GM
 | [.one a0], k => 
  lenP a0 fun r0 =>
  (r0 = r0) ∧ (51 = 51) ∧ makeP 51 r0 [(I 0), (I 0), (I 0), (I 0), (I 0), (I 0), (I 0), (I 0), (.list 1 []), (I 0), (.list 1 []), (I 0), (I 0), (.list 1 []), (I 0), (.bool false), (.list 2 []), (I 0), (I 0), (I 0), (I 0), (I 0), (I 0), (I 0), (I 0), (.list 1 []), (I 0), (.list 1 []), (I 0), (I 0), (.list 1 []), (I 0), (.bool false), (.list 2 []), (I 0), (I 0), (I 0), (I 0), (I 0), (I 0), (I 0), (I 0), (.list 1 []), (I 0), (.list 1 []), (I 0), (I 0), (.list 1 []), (I 0), (.bool false), (.list 2 [])] fun r1 =>
  lp (fun L w => laws_toForkS_r0 w L
   (fun q7 q8 q9 q10 => rt [.own true 179 51] [q10] k)) [a0, (I 0), (.list 51 []), r1]
 | _, _ => False
abbrev laws_toForkS_e : Ent := ⟨[196], laws_toForkS⟩
def laws_toForkS_l : List LE := [⟨0, ⟨[(0, .one (.pv (.bool false))), (2, .one (.own 1)), (3, .one (.own 0)), (4, .one (.pv (.bool false)))], [], [(1, ⟨.deep, 179, 51, (.bool false)⟩), (0, ⟨.deep, 179, 51, (.bool false)⟩)], 2, 23⟩, fun K k v => laws_toForkS_r0 v K (fun x0 x1 x2 x3 => k (.exit 0) ⟨[(0, .one (.pv x0)), (2, .one (.own 1)), (3, .one (.own 0)), (4, .one (.pv x1))], [], [(1, ⟨.deep, 179, 51, x2⟩), (0, ⟨.deep, 179, 51, x3⟩)], 2, 23⟩)⟩]
theorem laws_toForkS_s : LEsOK (orac [laws_toFork_e]) TT (kk [0, 2, 3, 4]) (sumsOf laws_toForkS_l) Tryz.f196 laws_toForkS_l := ⟨fun v K k h => by
  apply un_all h; exact fun v0 v1 v2 v3 h => Eq.mpr (by kernel_rfl) h
  , trivial⟩
theorem laws_toForkS_w : EntOK Tryz.prog TT laws_toForkS_e := ent_ok tabok (L := [laws_toFork_e]) ⟨laws_toFork_w, trivial⟩ (keep := (kk [0, 2, 3, 4])) (l := laws_toForkS_l) Tryz.func196 (by kernel_rfl) (sg := [.one (.own true 179 51)]) (by kernel_rfl) laws_toForkS_s fun av k h => by
  unfold laws_toForkS at h; split at h
  · exact Eq.mpr (by kernel_rfl) h
  · exact h.elim

def laws_toKnown : GM
 | [.agg u0], k => un 2 (fun a0 a1 => 
  call laws_toSignedSS [.one a0] fun o0 =>
  call laws_toForkS [.one a1] fun o1 =>
  rt [.own true 43 1, .own true 179 51] [(atP o0 0), (atP o1 0)] k) u0
 | _, _ => False
abbrev laws_toKnown_e : Ent := ⟨[90], laws_toKnown⟩
theorem laws_toKnown_w : EntOK Tryz.prog TT laws_toKnown_e := ent_ok tabok (L := [laws_toSignedSS_e, laws_toForkS_e]) ⟨laws_toSignedSS_w, laws_toForkS_w, trivial⟩ (keep := []) (l := []) Tryz.func90 (by kernel_rfl) (sg := [.agg [.own true 43 1, .own true 179 51]]) (by kernel_rfl) trivial fun av k h => by
  unfold laws_toKnown at h; split at h
  · apply un_all h; clear h; intro a0 a1 h; exact Eq.mpr (by kernel_rfl) h
  · exact h.elim

def laws_toProof : GM
 | [.agg u0], k => un 2 (fun a0 a1 => 
  call laws_toIntS [.one a1] fun o0 =>
  rt [.sc, .own true 3 1] [a0, (atP o0 0)] k) u0
 | _, _ => False
abbrev laws_toProof_e : Ent := ⟨[314], laws_toProof⟩
theorem laws_toProof_w : EntOK Tryz.prog TT laws_toProof_e := ent_ok tabok (L := [laws_toIntS_e]) ⟨laws_toIntS_w, trivial⟩ (keep := []) (l := []) Tryz.func314 (by kernel_rfl) (sg := [.agg [.sc, .own true 3 1]]) (by kernel_rfl) trivial fun av k h => by
  unfold laws_toProof at h; split at h
  · apply un_all h; clear h; intro a0 a1 h; exact Eq.mpr (by kernel_rfl) h
  · exact h.elim

def laws_toGap : GM
 | [.agg u0], k => un 13 (fun a0 a1 a2 a3 a4 a5 a6 a7 a8 a9 a10 a11 a12 => 
  call laws_toEntry [.agg [a1, a2, a3, a4]] fun o0 =>
  call laws_toEntry [.agg [a5, a6, a7, a8]] fun o1 =>
  call laws_toProof [.agg [a9, a10]] fun o2 =>
  call laws_toProof [.agg [a11, a12]] fun o3 =>
  rt [.sc, .sc, .sc, .sc, .own true 9 1, .sc, .sc, .sc, .own true 9 1, .sc, .own true 3 1, .sc, .own true 3 1] [a0, (atP o0 0), (atP o0 1), (atP o0 2), (atP o0 3), (atP o1 0), (atP o1 1), (atP o1 2), (atP o1 3), (atP o2 0), (atP o2 1), (atP o3 0), (atP o3 1)] k) u0
 | _, _ => False
abbrev laws_toGap_e : Ent := ⟨[315], laws_toGap⟩
theorem laws_toGap_w : EntOK Tryz.prog TT laws_toGap_e := ent_ok tabok (L := [laws_toEntry_e, laws_toProof_e]) ⟨laws_toEntry_w, laws_toProof_w, trivial⟩ (keep := []) (l := []) Tryz.func315 (by kernel_rfl) (sg := [.agg [.sc, .sc, .sc, .sc, .own true 9 1, .sc, .sc, .sc, .own true 9 1, .sc, .own true 3 1, .sc, .own true 3 1]]) (by kernel_rfl) trivial fun av k h => by
  unfold laws_toGap at h; split at h
  · apply un_all h; clear h; intro a0 a1 a2 a3 a4 a5 a6 a7 a8 a9 a10 a11 a12 h; exact Eq.mpr (by kernel_rfl) h
  · exact h.elim

def laws_toAnswer : GM
 | [.agg u0], k => un 21 (fun a0 a1 a2 a3 a4 a5 a6 a7 a8 a9 a10 a11 a12 a13 a14 a15 a16 a17 a18 a19 a20 => 
  call laws_toSignedS [.one a0] fun o0 =>
  call laws_toEntry [.agg [a2, a3, a4, a5]] fun o1 =>
  call laws_toProof [.agg [a6, a7]] fun o2 =>
  call laws_toGap [.agg [a8, a9, a10, a11, a12, a13, a14, a15, a16, a17, a18, a19, a20]] fun o3 =>
  rt [.own true 155 17, .sc, .sc, .sc, .sc, .own true 9 1, .sc, .own true 3 1, .sc, .sc, .sc, .sc, .own true 9 1, .sc, .sc, .sc, .own true 9 1, .sc, .own true 3 1, .sc, .own true 3 1] [(atP o0 0), a1, (atP o1 0), (atP o1 1), (atP o1 2), (atP o1 3), (atP o2 0), (atP o2 1), (atP o3 0), (atP o3 1), (atP o3 2), (atP o3 3), (atP o3 4), (atP o3 5), (atP o3 6), (atP o3 7), (atP o3 8), (atP o3 9), (atP o3 10), (atP o3 11), (atP o3 12)] k) u0
 | _, _ => False
abbrev laws_toAnswer_e : Ent := ⟨[261], laws_toAnswer⟩
theorem laws_toAnswer_w : EntOK Tryz.prog TT laws_toAnswer_e := ent_ok tabok (L := [laws_toSignedS_e, laws_toEntry_e, laws_toProof_e, laws_toGap_e]) ⟨laws_toSignedS_w, laws_toEntry_w, laws_toProof_w, laws_toGap_w, trivial⟩ (keep := []) (l := []) Tryz.func261 (by kernel_rfl) (sg := [.agg [.own true 155 17, .sc, .sc, .sc, .sc, .own true 9 1, .sc, .own true 3 1, .sc, .sc, .sc, .sc, .own true 9 1, .sc, .sc, .sc, .own true 9 1, .sc, .own true 3 1, .sc, .own true 3 1]]) (by kernel_rfl) trivial fun av k h => by
  unfold laws_toAnswer at h; split at h
  · apply un_all h; clear h; intro a0 a1 a2 a3 a4 a5 a6 a7 a8 a9 a10 a11 a12 a13 a14 a15 a16 a17 a18 a19 a20 h; exact Eq.mpr (by kernel_rfl) h
  · exact h.elim

def laws_toStored : GM
 | [.agg u0], k => un 23 (fun a0 a1 a2 a3 a4 a5 a6 a7 a8 a9 a10 a11 a12 a13 a14 a15 a16 a17 a18 a19 a20 a21 a22 => 
  call laws_toAnswer [.agg [a2, a3, a4, a5, a6, a7, a8, a9, a10, a11, a12, a13, a14, a15, a16, a17, a18, a19, a20, a21, a22]] fun o0 =>
  rt [.sc, .sc, .own true 155 17, .sc, .sc, .sc, .sc, .own true 9 1, .sc, .own true 3 1, .sc, .sc, .sc, .sc, .own true 9 1, .sc, .sc, .sc, .own true 9 1, .sc, .own true 3 1, .sc, .own true 3 1] [a0, a1, (atP o0 0), (atP o0 1), (atP o0 2), (atP o0 3), (atP o0 4), (atP o0 5), (atP o0 6), (atP o0 7), (atP o0 8), (atP o0 9), (atP o0 10), (atP o0 11), (atP o0 12), (atP o0 13), (atP o0 14), (atP o0 15), (atP o0 16), (atP o0 17), (atP o0 18), (atP o0 19), (atP o0 20)] k) u0
 | _, _ => False
abbrev laws_toStored_e : Ent := ⟨[174], laws_toStored⟩
theorem laws_toStored_w : EntOK Tryz.prog TT laws_toStored_e := ent_ok tabok (L := [laws_toAnswer_e]) ⟨laws_toAnswer_w, trivial⟩ (keep := []) (l := []) Tryz.func174 (by kernel_rfl) (sg := [.agg [.sc, .sc, .own true 155 17, .sc, .sc, .sc, .sc, .own true 9 1, .sc, .own true 3 1, .sc, .sc, .sc, .sc, .own true 9 1, .sc, .sc, .sc, .own true 9 1, .sc, .own true 3 1, .sc, .own true 3 1]]) (by kernel_rfl) trivial fun av k h => by
  unfold laws_toStored at h; split at h
  · apply un_all h; clear h; intro a0 a1 a2 a3 a4 a5 a6 a7 a8 a9 a10 a11 a12 a13 a14 a15 a16 a17 a18 a19 a20 a21 a22 h; exact Eq.mpr (by kernel_rfl) h
  · exact h.elim

def laws_toStoredS_r0 (v : List PV) (K : List PV → Prop) (x0k : PV → PV → PV → PV → Prop) : Prop :=
 un 4 (fun v0 v1 v2 v3 =>
  lenP v0 fun r0 =>
  binP .lss v1 r0 fun r1 =>
  iteP r1
   (elemP 23 v0 v1 fun c2 =>
   call laws_toStored [.agg [(atP c2 0), (atP c2 1), (atP c2 2), (atP c2 3), (atP c2 4), (atP c2 5), (atP c2 6), (atP c2 7), (atP c2 8), (atP c2 9), (atP c2 10), (atP c2 11), (atP c2 12), (atP c2 13), (atP c2 14), (atP c2 15), (atP c2 16), (atP c2 17), (atP c2 18), (atP c2 19), (atP c2 20), (atP c2 21), (atP c2 22)]] fun o3 =>
   boundP 23 v3 v1 fun n4 =>
   (flatCond [.pv (I 0), .pv (.str ⟨#[]⟩), .nil 155 17, .pv (.bool false), .pv (.str ⟨#[]⟩), .pv (I 0), .pv (I 0), .nil 9 1, .pv (I 0), .nil 3 1, .pv (I 0), .pv (.str ⟨#[]⟩), .pv (I 0), .pv (I 0), .nil 9 1, .pv (.str ⟨#[]⟩), .pv (I 0), .pv (I 0), .nil 9 1, .pv (I 0), .nil 3 1, .pv (I 0), .nil 3 1] [.pv (atP o3 0), .pv (atP o3 1), .own 4, .pv (atP o3 3), .pv (atP o3 4), .pv (atP o3 5), .pv (atP o3 6), .own 9, .pv (atP o3 8), .own 11, .pv (atP o3 10), .pv (atP o3 11), .pv (atP o3 12), .pv (atP o3 13), .own 16, .pv (atP o3 15), .pv (atP o3 16), .pv (atP o3 17), .own 20, .pv (atP o3 19), .own 22, .pv (atP o3 21), .own 24]) ∧ setP v3 n4 0 [(atP o3 0), (atP o3 1), (atP o3 2), (atP o3 3), (atP o3 4), (atP o3 5), (atP o3 6), (atP o3 7), (atP o3 8), (atP o3 9), (atP o3 10), (atP o3 11), (atP o3 12), (atP o3 13), (atP o3 14), (atP o3 15), (atP o3 16), (atP o3 17), (atP o3 18), (atP o3 19), (atP o3 20), (atP o3 21), (atP o3 22)] fun r5 =>
   binP .add v1 (I 1) fun r6 =>
   K [v0, r6, v2, r5])
   (x0k v0 v1 v2 v3)) v
def laws_toStoredS : GM
 | [.one a0], k => 
  lenP a0 fun r0 =>
  (r0 = r0) ∧ (23 = 23) ∧ makeP 23 r0 [(I 0), (.str ⟨#[]⟩), (.list 17 []), (.bool false), (.str ⟨#[]⟩), (I 0), (I 0), (.list 1 []), (I 0), (.list 1 []), (I 0), (.str ⟨#[]⟩), (I 0), (I 0), (.list 1 []), (.str ⟨#[]⟩), (I 0), (I 0), (.list 1 []), (I 0), (.list 1 []), (I 0), (.list 1 [])] fun r1 =>
  lp (fun L w => laws_toStoredS_r0 w L
   (fun q7 q8 q9 q10 => rt [.own true 114 23] [q10] k)) [a0, (I 0), (.list 23 []), r1]
 | _, _ => False
abbrev laws_toStoredS_e : Ent := ⟨[64], laws_toStoredS⟩
def laws_toStoredS_l : List LE := [⟨0, ⟨[(0, .one (.pv (.bool false))), (2, .one (.own 1)), (3, .one (.own 0)), (4, .one (.pv (.bool false)))], [], [(1, ⟨.deep, 114, 23, (.bool false)⟩), (0, ⟨.deep, 114, 23, (.bool false)⟩)], 2, 23⟩, fun K k v => laws_toStoredS_r0 v K (fun x0 x1 x2 x3 => k (.exit 0) ⟨[(0, .one (.pv x0)), (2, .one (.own 1)), (3, .one (.own 0)), (4, .one (.pv x1))], [], [(1, ⟨.deep, 114, 23, x2⟩), (0, ⟨.deep, 114, 23, x3⟩)], 2, 23⟩)⟩]
theorem laws_toStoredS_s : LEsOK (orac [laws_toStored_e]) TT (kk [0, 2, 3, 4]) (sumsOf laws_toStoredS_l) Tryz.f64 laws_toStoredS_l := ⟨fun v K k h => by
  apply un_all h; exact fun v0 v1 v2 v3 h => Eq.mpr (by kernel_rfl) h
  , trivial⟩
theorem laws_toStoredS_w : EntOK Tryz.prog TT laws_toStoredS_e := ent_ok tabok (L := [laws_toStored_e]) ⟨laws_toStored_w, trivial⟩ (keep := (kk [0, 2, 3, 4])) (l := laws_toStoredS_l) Tryz.func64 (by kernel_rfl) (sg := [.one (.own true 114 23)]) (by kernel_rfl) laws_toStoredS_s fun av k h => by
  unfold laws_toStoredS at h; split at h
  · exact Eq.mpr (by kernel_rfl) h
  · exact h.elim

def laws_toCache : GM
 | [.agg u0], k => un 1 (fun a0 => 
  call laws_toStoredS [.one a0] fun o0 =>
  rt [.own true 114 23] [(atP o0 0)] k) u0
 | _, _ => False
abbrev laws_toCache_e : Ent := ⟨[91], laws_toCache⟩
theorem laws_toCache_w : EntOK Tryz.prog TT laws_toCache_e := ent_ok tabok (L := [laws_toStoredS_e]) ⟨laws_toStoredS_w, trivial⟩ (keep := []) (l := []) Tryz.func91 (by kernel_rfl) (sg := [.agg [.own true 114 23]]) (by kernel_rfl) trivial fun av k h => by
  unfold laws_toCache at h; split at h
  · apply un_all h; clear h; intro a0 h; exact Eq.mpr (by kernel_rfl) h
  · exact h.elim

def laws_toWorld : GM
 | [.agg u0], k => un 8 (fun a0 a1 a2 a3 a4 a5 a6 a7 => 
  call laws_toActorS [.one a1] fun o0 =>
  call laws_toZoneS [.one a2] fun o1 =>
  call laws_toSaidS [.one a3] fun o2 =>
  call laws_toServerS [.one a4] fun o3 =>
  call laws_toKnown [.agg [a5, a6]] fun o4 =>
  call laws_toCache [.agg [a7]] fun o5 =>
  rt [.sc, .own true 223 1, .own true 46 2, .own true 48 3, .own true 174 2, .own true 43 1, .own true 179 51, .own true 114 23] [a0, (atP o0 0), (atP o1 0), (atP o2 0), (atP o3 0), (atP o4 0), (atP o4 1), (atP o5 0)] k) u0
 | _, _ => False
abbrev laws_toWorld_e : Ent := ⟨[28], laws_toWorld⟩
theorem laws_toWorld_w : EntOK Tryz.prog TT laws_toWorld_e := ent_ok tabok (L := [laws_toActorS_e, laws_toZoneS_e, laws_toSaidS_e, laws_toServerS_e, laws_toKnown_e, laws_toCache_e]) ⟨laws_toActorS_w, laws_toZoneS_w, laws_toSaidS_w, laws_toServerS_w, laws_toKnown_w, laws_toCache_w, trivial⟩ (keep := []) (l := []) Tryz.func28 (by kernel_rfl) (sg := [.agg [.sc, .own true 223 1, .own true 46 2, .own true 48 3, .own true 174 2, .own true 43 1, .own true 179 51, .own true 114 23]]) (by kernel_rfl) trivial fun av k h => by
  unfold laws_toWorld at h; split at h
  · apply un_all h; clear h; intro a0 a1 a2 a3 a4 a5 a6 a7 h; exact Eq.mpr (by kernel_rfl) h
  · exact h.elim

def spec_l1In : GM
 | [.one a0, .one a1, .one a2], k => 
  binP .geq a0 a1 fun r0 =>
  iteP r0
   (binP .leq a0 a2 fun r1 =>
   rt [.sc] [r1] k)
   (rt [.sc] [(.bool false)] k)
 | _, _ => False
abbrev spec_l1In_e : Ent := ⟨[154], spec_l1In⟩
theorem spec_l1In_w : EntOK Tryz.prog TT spec_l1In_e := ent_ok tabok (L := []) trivial (keep := []) (l := []) Tryz.func154 (by kernel_rfl) (sg := [.one (.sc)]) (by kernel_rfl) trivial fun av k h => by
  unfold spec_l1In at h; split at h
  · exact Eq.mpr (by kernel_rfl) h
  · exact h.elim

def spec_IsKeys_r0 (v : List PV) (K : List PV → Prop) (x0k : PV → PV → Prop) (x1k : PV → PV → PV → PV → Prop) : Prop :=
 un 4 (fun v0 v1 v2 v3 =>
  lenP v2 fun r0 =>
  binP .lss v1 r0 fun r1 =>
  iteP r1
   (elemP 1 v2 v1 fun c2 =>
   call spec_l1In [.one (atP c2 0), .one (I 1), .one (I 99)] fun o3 =>
   unP .not (atP o3 0) fun r4 =>
   iteP r4
    (x0k v2 v3)
    (binP .gtr v1 (I 0) fun r5 =>
    iteP r5
     (binP .sub v1 (I 1) fun r6 =>
     elemP 1 v2 r6 fun c7 =>
     elemP 1 v2 v1 fun c8 =>
     binP .geq (atP c7 0) (atP c8 0) fun r9 =>
     iteP r9
      (x0k v2 v3)
      (binP .add v1 (I 1) fun r10 =>
      K [v0, r10, v2, v3]))
     (binP .add v1 (I 1) fun r11 =>
     K [v0, r11, v2, v3])))
   (x1k v0 v1 v2 v3)) v
def spec_IsKeys : GM
 | [.agg u0], k => un 2 (fun a0 a1 => 
  lp (fun L w => spec_IsKeys_r0 w L
   (fun q12 q13 => rt [.sc] [(.bool false)] k)
   (fun q14 q15 q16 q17 => lenP q16 fun r18 =>
    call spec_l1In [.one r18, .one (I 1), .one (I 4)] fun o19 =>
    iteP (atP o19 0)
     (lenP q16 fun r20 =>
     call spec_l1In [.one q17, .one (I 1), .one r20] fun o21 =>
     rt [.sc] [(atP o21 0)] k)
     (rt [.sc] [(.bool false)] k))) [(.bool false), (I 0), a0, a1]) u0
 | _, _ => False
abbrev spec_IsKeys_e : Ent := ⟨[270], spec_IsKeys⟩
def spec_IsKeys_l : List LE := [⟨0, ⟨[(1, .one (.ptr 0 0)), (2, .one (.pv (.bool false))), (3, .one (.pv (.bool false)))], [(0, [.pv (.bool false), .pv (.bool false)])], [], 1, 48⟩, fun K k v => spec_IsKeys_r0 v K (fun x0 x1 => k .ret ⟨[(2, .one (.kb false))], [(0, [.pv x0, .pv x1])], [], 2, 48⟩) (fun x0 x1 x2 x3 => k (.exit 0) ⟨[(1, .one (.ptr 0 0)), (2, .one (.pv x0)), (3, .one (.pv x1))], [(0, [.pv x2, .pv x3])], [], 1, 48⟩)⟩]
theorem spec_IsKeys_s : LEsOK (orac [spec_l1In_e]) TT (kk [1, 2, 3, 19, 20, 21, 22, 23, 24, 25, 26, 27, 28, 29, 30, 31, 32, 33, 34, 41, 42, 43, 44, 45, 46]) (sumsOf spec_IsKeys_l) Tryz.f270 spec_IsKeys_l := ⟨fun v K k h => by
  apply un_all h; exact fun v0 v1 v2 v3 h => Eq.mpr (by kernel_rfl) h
  , trivial⟩
theorem spec_IsKeys_w : EntOK Tryz.prog TT spec_IsKeys_e := ent_ok tabok (L := [spec_l1In_e]) ⟨spec_l1In_w, trivial⟩ (keep := (kk [1, 2, 3, 19, 20, 21, 22, 23, 24, 25, 26, 27, 28, 29, 30, 31, 32, 33, 34, 41, 42, 43, 44, 45, 46])) (l := spec_IsKeys_l) Tryz.func270 (by kernel_rfl) (sg := [.one (.sc)]) (by kernel_rfl) spec_IsKeys_s fun av k h => by
  unfold spec_IsKeys at h; split at h
  · apply un_all h; clear h; intro a0 a1 h; exact Eq.mpr (by kernel_rfl) h
  · exact h.elim

def spec_NoKeys : GM
 | [.agg u0], k => un 2 (fun a0 a1 => 
  binP .eql a1 (I 0) fun r0 =>
  iteP r0
   (lenP a0 fun r1 =>
   binP .eql r1 (I 0) fun r2 =>
   rt [.sc] [r2] k)
   (rt [.sc] [(.bool false)] k)) u0
 | _, _ => False
abbrev spec_NoKeys_e : Ent := ⟨[358], spec_NoKeys⟩
theorem spec_NoKeys_w : EntOK Tryz.prog TT spec_NoKeys_e := ent_ok tabok (L := []) trivial (keep := []) (l := []) Tryz.func358 (by kernel_rfl) (sg := [.one (.sc)]) (by kernel_rfl) trivial fun av k h => by
  unfold spec_NoKeys at h; split at h
  · apply un_all h; clear h; intro a0 a1 h; exact Eq.mpr (by kernel_rfl) h
  · exact h.elim

def spec_IsHead : GM
 | [.agg u0], k => un 16 (fun a0 a1 a2 a3 a4 a5 a6 a7 a8 a9 a10 a11 a12 a13 a14 a15 => 
  call spec_l1In [.one a0, .one (I 0), .one (I 2147483646)] fun o0 =>
  unP .not (atP o0 0) fun r1 =>
  iteP r1
   (rt [.sc] [(.bool false)] k)
   (call spec_l1In [.one a6, .one (I 0), .one (I 2147483646)] fun o2 =>
   unP .not (atP o2 0) fun r3 =>
   iteP r3
    (rt [.sc] [(.bool false)] k)
    (call spec_l1In [.one a7, .one (I 0), .one (I 2147483646)] fun o4 =>
    unP .not (atP o4 0) fun r5 =>
    iteP r5
     (rt [.sc] [(.bool false)] k)
     (call spec_l1In [.one a1, .one (I 0), .one (I 200)] fun o6 =>
     unP .not (atP o6 0) fun r7 =>
     iteP r7
      (rt [.sc] [(.bool false)] k)
      (call spec_l1In [.one a2, .one (I 1), .one (I 3)] fun o8 =>
      unP .not (atP o8 0) fun r9 =>
      iteP r9
       (rt [.sc] [(.bool false)] k)
       (call spec_l1In [.one a3, .one (I 0), .one (I 100000)] fun o10 =>
       unP .not (atP o10 0) fun r11 =>
       iteP r11
        (rt [.sc] [(.bool false)] k)
        (call spec_l1In [.one a4, .one a3, .one (I 100000)] fun o12 =>
        unP .not (atP o12 0) fun r13 =>
        iteP r13
         (rt [.sc] [(.bool false)] k)
         (binP .sub a4 a3 fun r14 =>
         binP .gtr r14 (I 200) fun r15 =>
         iteP r15
          (rt [.sc] [(.bool false)] k)
          (call spec_l1In [.one a5, .one (I 0), .one (I 12)] fun o16 =>
          unP .not (atP o16 0) fun r17 =>
          iteP r17
           (rt [.sc] [(.bool false)] k)
           (call spec_IsKeys [.agg [a8, a9]] fun o18 =>
           unP .not (atP o18 0) fun r19 =>
           iteP r19
            (rt [.sc] [(.bool false)] k)
            (call spec_NoKeys [.agg [a10, a11]] fun o20 =>
            iteP (atP o20 0)
             (binP .neq a12 (I 0) fun r21 =>
             iteP r21
              (rt [.sc] [(.bool false)] k)
              (call spec_IsKeys [.agg [a13, a14]] fun o22 =>
              iteP (atP o22 0)
               (rt [.sc] [(.bool true)] k)
               (call spec_NoKeys [.agg [a13, a14]] fun o23 =>
               iteP (atP o23 0)
                (unP .not a15 fun r24 =>
                rt [.sc] [r24] k)
                (rt [.sc] [(.bool false)] k))))
             (call spec_IsKeys [.agg [a10, a11]] fun o25 =>
             unP .not (atP o25 0) fun r26 =>
             iteP r26
              (rt [.sc] [(.bool false)] k)
              (call spec_l1In [.one a12, .one (I 1), .one (I 500)] fun o27 =>
              unP .not (atP o27 0) fun r28 =>
              iteP r28
               (rt [.sc] [(.bool false)] k)
               (call spec_IsKeys [.agg [a13, a14]] fun o29 =>
               iteP (atP o29 0)
                (rt [.sc] [(.bool true)] k)
                (call spec_NoKeys [.agg [a13, a14]] fun o30 =>
                iteP (atP o30 0)
                 (unP .not a15 fun r31 =>
                 rt [.sc] [r31] k)
                 (rt [.sc] [(.bool false)] k)))))))))))))))) u0
 | _, _ => False
abbrev spec_IsHead_e : Ent := ⟨[332], spec_IsHead⟩
theorem spec_IsHead_w : EntOK Tryz.prog TT spec_IsHead_e := ent_ok tabok (L := [spec_l1In_e, spec_IsKeys_e, spec_NoKeys_e]) ⟨spec_l1In_w, spec_IsKeys_w, spec_NoKeys_w, trivial⟩ (keep := []) (l := []) Tryz.func332 (by kernel_rfl) (sg := [.one (.sc)]) (by kernel_rfl) trivial fun av k h => by
  unfold spec_IsHead at h; split at h
  · apply un_all h; clear h; intro a0 a1 a2 a3 a4 a5 a6 a7 a8 a9 a10 a11 a12 a13 a14 a15 h; exact Eq.mpr (by kernel_rfl) h
  · exact h.elim

def spec_KeysInts : GM
 | [.agg u0], k => un 2 (fun a0 a1 => 
  lenP a0 fun r0 =>
  (2 = 2) ∧ (2 ≤ 16777216) ∧ (1 = 1) ∧ (0 = 0) ∧ (1 = 1) ∧ (flatCond [.pv (I 0)] [.pv a1]) ∧ (1 = 1) ∧ (1 = 1) ∧ (flatCond [.pv (I 0)] [.pv r0]) ∧ (flatRows a0) ∧ catP 1 (.list 1 [[a1], [r0]]) a0 fun r1 =>
  rt [.own true 3 1] [r1] k) u0
 | _, _ => False
abbrev spec_KeysInts_e : Ent := ⟨[260], spec_KeysInts⟩
theorem spec_KeysInts_w : EntOK Tryz.prog TT spec_KeysInts_e := ent_ok tabok (L := []) trivial (keep := []) (l := []) Tryz.func260 (by kernel_rfl) (sg := [.one (.own true 3 1)]) (by kernel_rfl) trivial fun av k h => by
  unfold spec_KeysInts at h; split at h
  · apply un_all h; clear h; intro a0 a1 h; exact Eq.mpr (by kernel_rfl) h
  · exact h.elim

def spec_Mod : GM
 | [.one a0, .one a1], k => 
  call spec_l1In [.one a1, .one (I 1), .one (I 1000000000000)] fun o0 =>
  unP .not (atP o0 0) fun r1 =>
  iteP r1
   (rt [.sc] [(I 0)] k)
   (binP .rem a0 a1 fun r2 =>
   binP .add r2 a1 fun r3 =>
   binP .rem r3 a1 fun r4 =>
   rt [.sc] [r4] k)
 | _, _ => False
abbrev spec_Mod_e : Ent := ⟨[173], spec_Mod⟩
theorem spec_Mod_w : EntOK Tryz.prog TT spec_Mod_e := ent_ok tabok (L := [spec_l1In_e]) ⟨spec_l1In_w, trivial⟩ (keep := []) (l := []) Tryz.func173 (by kernel_rfl) (sg := [.one (.sc)]) (by kernel_rfl) trivial fun av k h => by
  unfold spec_Mod at h; split at h
  · exact Eq.mpr (by kernel_rfl) h
  · exact h.elim

def spec_Hash_r0 (v : List PV) (K : List PV → Prop) (x0k : PV → PV → PV → PV → Prop) : Prop :=
 un 4 (fun v0 v1 v2 v3 =>
  lenP v0 fun r0 =>
  binP .lss v3 r0 fun r1 =>
  iteP r1
   (binP .mul v2 (I 1000003) fun r2 =>
   elemP 1 v0 v3 fun c3 =>
   call spec_Mod [.one (atP c3 0), .one (I 2147483647)] fun o4 =>
   binP .add r2 (atP o4 0) fun r5 =>
   binP .add r5 (I 13) fun r6 =>
   binP .rem r6 (I 2147483647) fun r7 =>
   binP .add v3 (I 1) fun r8 =>
   K [v0, v1, r7, r8])
   (x0k v0 v1 v2 v3)) v
def spec_Hash : GM
 | [.one a0], k => 
  lp (fun L w => spec_Hash_r0 w L
   (fun q9 q10 q11 q12 => rt [.sc] [q11] k)) [a0, (I 0), (I 11), (I 0)]
 | _, _ => False
abbrev spec_Hash_e : Ent := ⟨[62], spec_Hash⟩
def spec_Hash_l : List LE := [⟨0, ⟨[(0, .one (.pv (.bool false))), (2, .one (.pv (.bool false))), (3, .one (.pv (.bool false))), (4, .one (.pv (.bool false)))], [], [], 0, 22⟩, fun K k v => spec_Hash_r0 v K (fun x0 x1 x2 x3 => k (.exit 0) ⟨[(0, .one (.pv x0)), (2, .one (.pv x1)), (3, .one (.pv x2)), (4, .one (.pv x3))], [], [], 0, 22⟩)⟩]
theorem spec_Hash_s : LEsOK (orac [spec_Mod_e]) TT (kk [0, 2, 3, 4]) (sumsOf spec_Hash_l) Tryz.f62 spec_Hash_l := ⟨fun v K k h => by
  apply un_all h; exact fun v0 v1 v2 v3 h => Eq.mpr (by kernel_rfl) h
  , trivial⟩
theorem spec_Hash_w : EntOK Tryz.prog TT spec_Hash_e := ent_ok tabok (L := [spec_Mod_e]) ⟨spec_Mod_w, trivial⟩ (keep := (kk [0, 2, 3, 4])) (l := spec_Hash_l) Tryz.func62 (by kernel_rfl) (sg := [.one (.sc)]) (by kernel_rfl) spec_Hash_s fun av k h => by
  unfold spec_Hash at h; split at h
  · exact Eq.mpr (by kernel_rfl) h
  · exact h.elim

def spec_ZoneOf : GM
 | [.agg u0, .one a2], k => un 2 (fun a0 a1 => 
  (2 = 2) ∧ (2 ≤ 16777216) ∧ (1 = 1) ∧ (0 = 0) ∧ (1 = 1) ∧ (flatCond [.pv (I 0)] [.pv (I 239)]) ∧ (1 = 1) ∧ (1 = 1) ∧ (flatCond [.pv (I 0)] [.pv a2]) ∧ call spec_KeysInts [.agg [a0, a1]] fun o0 =>
  catP 1 (.list 1 [[(I 239)], [a2]]) (atP o0 0) fun r1 =>
  call spec_Hash [.one r1] fun o2 =>
  rt [.sc] [(atP o2 0)] k) u0
 | _, _ => False
abbrev spec_ZoneOf_e : Ent := ⟨[333], spec_ZoneOf⟩
theorem spec_ZoneOf_w : EntOK Tryz.prog TT spec_ZoneOf_e := ent_ok tabok (L := [spec_KeysInts_e, spec_Hash_e]) ⟨spec_KeysInts_w, spec_Hash_w, trivial⟩ (keep := []) (l := []) Tryz.func333 (by kernel_rfl) (sg := [.one (.sc)]) (by kernel_rfl) trivial fun av k h => by
  unfold spec_ZoneOf at h; split at h
  · apply un_all h; clear h; intro a0 a1 h; exact Eq.mpr (by kernel_rfl) h
  · exact h.elim

def spec_HeadInts : GM
 | [.agg u0], k => un 16 (fun a0 a1 a2 a3 a4 a5 a6 a7 a8 a9 a10 a11 a12 a13 a14 a15 => 
  (8 = 8) ∧ (8 ≤ 16777216) ∧ (1 = 1) ∧ (0 = 0) ∧ (1 = 1) ∧ (flatCond [.pv (I 0)] [.pv a0]) ∧ (1 = 1) ∧ (1 = 1) ∧ (flatCond [.pv (I 0)] [.pv a1]) ∧ (2 = 2) ∧ (1 = 1) ∧ (flatCond [.pv (I 0)] [.pv a2]) ∧ (3 = 3) ∧ (1 = 1) ∧ (flatCond [.pv (I 0)] [.pv a3]) ∧ (4 = 4) ∧ (1 = 1) ∧ (flatCond [.pv (I 0)] [.pv a4]) ∧ (5 = 5) ∧ (1 = 1) ∧ (flatCond [.pv (I 0)] [.pv a5]) ∧ (6 = 6) ∧ (1 = 1) ∧ (flatCond [.pv (I 0)] [.pv a6]) ∧ (7 = 7) ∧ (1 = 1) ∧ (flatCond [.pv (I 0)] [.pv a7]) ∧ call spec_KeysInts [.agg [a8, a9]] fun o0 =>
  catP 1 (.list 1 [[a0], [a1], [a2], [a3], [a4], [a5], [a6], [a7]]) (atP o0 0) fun r1 =>
  call spec_KeysInts [.agg [a10, a11]] fun o2 =>
  catP 1 r1 (atP o2 0) fun r3 =>
  (1 = 1) ∧ (1 ≤ 16777216) ∧ (1 = 1) ∧ (0 = 0) ∧ (1 = 1) ∧ (flatCond [.pv (I 0)] [.pv a12]) ∧ catP 1 r3 (.list 1 [[a12]]) fun r4 =>
  call spec_KeysInts [.agg [a13, a14]] fun o5 =>
  catP 1 r4 (atP o5 0) fun r6 =>
  iteP a15
   ((1 = 1) ∧ (1 ≤ 16777216) ∧ (1 = 1) ∧ (0 = 0) ∧ (1 = 1) ∧ (flatCond [.pv (I 0)] [.pv (I 1)]) ∧ catP 1 r6 (.list 1 [[(I 1)]]) fun r7 =>
   rt [.own true 3 1] [r7] k)
   ((1 = 1) ∧ (1 ≤ 16777216) ∧ (1 = 1) ∧ (0 = 0) ∧ (1 = 1) ∧ (flatCond [.pv (I 0)] [.pv (I 0)]) ∧ catP 1 r6 (.list 1 [[(I 0)]]) fun r8 =>
   rt [.own true 3 1] [r8] k)) u0
 | _, _ => False
abbrev spec_HeadInts_e : Ent := ⟨[172], spec_HeadInts⟩
theorem spec_HeadInts_w : EntOK Tryz.prog TT spec_HeadInts_e := ent_ok tabok (L := [spec_KeysInts_e]) ⟨spec_KeysInts_w, trivial⟩ (keep := []) (l := []) Tryz.func172 (by kernel_rfl) (sg := [.one (.own true 3 1)]) (by kernel_rfl) trivial fun av k h => by
  unfold spec_HeadInts at h; split at h
  · apply un_all h; clear h; intro a0 a1 a2 a3 a4 a5 a6 a7 a8 a9 a10 a11 a12 a13 a14 a15 h; exact Eq.mpr (by kernel_rfl) h
  · exact h.elim

def spec_KeyedHash : GM
 | [.one a0, .one a1], k => 
  (1 = 1) ∧ (1 ≤ 16777216) ∧ (1 = 1) ∧ (0 = 0) ∧ (1 = 1) ∧ (flatCond [.pv (I 0)] [.pv a0]) ∧ (flatRows a1) ∧ catP 1 (.list 1 [[a0]]) a1 fun r0 =>
  (1 = 1) ∧ (1 ≤ 16777216) ∧ (1 = 1) ∧ (0 = 0) ∧ (1 = 1) ∧ (flatCond [.pv (I 0)] [.pv a0]) ∧ catP 1 r0 (.list 1 [[a0]]) fun r1 =>
  call spec_Hash [.one r1] fun o2 =>
  rt [.sc] [(atP o2 0)] k
 | _, _ => False
abbrev spec_KeyedHash_e : Ent := ⟨[393], spec_KeyedHash⟩
theorem spec_KeyedHash_w : EntOK Tryz.prog TT spec_KeyedHash_e := ent_ok tabok (L := [spec_Hash_e]) ⟨spec_Hash_w, trivial⟩ (keep := []) (l := []) Tryz.func393 (by kernel_rfl) (sg := [.one (.sc)]) (by kernel_rfl) trivial fun av k h => by
  unfold spec_KeyedHash at h; split at h
  · exact Eq.mpr (by kernel_rfl) h
  · exact h.elim

def spec_TagOf : GM
 | [.one a0, .one a1], k => 
  (1 = 1) ∧ (1 ≤ 16777216) ∧ (1 = 1) ∧ (0 = 0) ∧ (1 = 1) ∧ (flatCond [.pv (I 0)] [.pv (I 223)]) ∧ (flatRows a1) ∧ catP 1 (.list 1 [[(I 223)]]) a1 fun r0 =>
  call spec_KeyedHash [.one a0, .one r0] fun o1 =>
  rt [.sc] [(atP o1 0)] k
 | _, _ => False
abbrev spec_TagOf_e : Ent := ⟨[389], spec_TagOf⟩
theorem spec_TagOf_w : EntOK Tryz.prog TT spec_TagOf_e := ent_ok tabok (L := [spec_KeyedHash_e]) ⟨spec_KeyedHash_w, trivial⟩ (keep := []) (l := []) Tryz.func389 (by kernel_rfl) (sg := [.one (.sc)]) (by kernel_rfl) trivial fun av k h => by
  unfold spec_TagOf at h; split at h
  · exact Eq.mpr (by kernel_rfl) h
  · exact h.elim

def spec_IsSigBy : GM
 | [.agg u0, .one a2], k => un 2 (fun a0 a1 => 
  call spec_l1In [.one a0, .one (I 1), .one (I 99)] fun o0 =>
  iteP (atP o0 0)
   (call spec_TagOf [.one a0, .one a2] fun o1 =>
   binP .eql a1 (atP o1 0) fun r2 =>
   rt [.sc] [r2] k)
   (rt [.sc] [(.bool false)] k)) u0
 | _, _ => False
abbrev spec_IsSigBy_e : Ent := ⟨[382], spec_IsSigBy⟩
theorem spec_IsSigBy_w : EntOK Tryz.prog TT spec_IsSigBy_e := ent_ok tabok (L := [spec_l1In_e, spec_TagOf_e]) ⟨spec_l1In_w, spec_TagOf_w, trivial⟩ (keep := []) (l := []) Tryz.func382 (by kernel_rfl) (sg := [.one (.sc)]) (by kernel_rfl) trivial fun av k h => by
  unfold spec_IsSigBy at h; split at h
  · apply un_all h; clear h; intro a0 a1 h; exact Eq.mpr (by kernel_rfl) h
  · exact h.elim

def spec_CountSigs_r1 (v : List PV) (K : List PV → Prop) (x0k : PV → PV → PV → PV → PV → PV → PV → PV → PV → PV → PV → Prop) (x1k : PV → PV → PV → PV → PV → PV → PV → PV → Prop) : Prop :=
 un 8 (fun v0 v1 v2 v3 v4 v5 v6 v7 =>
  lenP v1 fun r0 =>
  binP .lss v5 r0 fun r1 =>
  iteP r1
   (elemP 2 v1 v5 fun c2 =>
   elemP 1 v6 v4 fun c3 =>
   binP .eql (atP c2 0) (atP c3 0) fun r4 =>
   iteP r4
    (elemP 2 v1 v5 fun c5 =>
    call spec_IsSigBy [.agg [(atP c5 0), (atP c5 1)], .one v0] fun o6 =>
    iteP (atP o6 0)
     (binP .add v3 (I 1) fun r7 =>
     x0k v0 v1 v2 r7 v4 v5 (atP c5 0) (atP c5 1) (atP o6 0) v6 v7)
     (binP .add v5 (I 1) fun r8 =>
     K [v0, v1, v2, v3, v4, r8, v6, v7]))
    (binP .add v5 (I 1) fun r9 =>
    K [v0, v1, v2, v3, v4, r9, v6, v7]))
   (x1k v0 v1 v2 v3 v4 v5 v6 v7)) v
def spec_CountSigs_r0 (v : List PV) (K : List PV → Prop) (x0k : PV → PV → PV → PV → PV → PV → PV → Prop) : Prop :=
 un 7 (fun v0 v1 v2 v3 v4 v5 v6 =>
  lenP v5 fun r0 =>
  binP .lss v4 r0 fun r1 =>
  iteP r1
   (lp (fun L w => spec_CountSigs_r1 w L
    (fun q10 q11 q12 q13 q14 q15 q16 q17 q18 q19 q20 => binP .add q14 (I 1) fun r21 =>
     K [q10, q11, q12, q13, r21, q19, q20])
    (fun q22 q23 q24 q25 q26 q27 q28 q29 => binP .add q26 (I 1) fun r30 =>
     K [q22, q23, q24, q25, r30, q28, q29])) [v0, v1, v2, v3, v4, (I 0), v5, v6])
   (x0k v0 v1 v2 v3 v4 v5 v6)) v
def spec_CountSigs : GM
 | [.agg u0, .one a2, .one a3], k => un 2 (fun a0 a1 => 
  lp (fun L w => spec_CountSigs_r0 w L
   (fun q31 q32 q33 q34 q35 q36 q37 => rt [.sc] [q34] k)) [a2, a3, (I 0), (I 0), (I 0), a0, a1]) u0
 | _, _ => False
abbrev spec_CountSigs_e : Ent := ⟨[359], spec_CountSigs⟩
def spec_CountSigs_l : List LE := [⟨1, ⟨[(1, .one (.pv (.bool false))), (2, .one (.pv (.bool false))), (3, .one (.ptr 0 0)), (6, .one (.pv (.bool false))), (7, .one (.pv (.bool false))), (8, .one (.pv (.bool false))), (9, .one (.pv (.bool false)))], [(0, [.pv (.bool false), .pv (.bool false)])], [], 1, 45⟩, fun K k v => spec_CountSigs_r1 v K (fun x0 x1 x2 x3 x4 x5 x6 x7 x8 x9 x10 => k (.exit 2) ⟨[(1, .one (.pv x0)), (2, .one (.pv x1)), (3, .one (.ptr 0 0)), (6, .one (.pv x2)), (7, .one (.pv x3)), (8, .one (.pv x4)), (9, .one (.pv x5)), (35, .one (.pv x1)), (36, .one (.pv x5)), (37, .one (.sptr [x6, x7])), (38, .agg [.pv x6, .pv x7]), (39, .one (.pv x0)), (40, .one (.pv x8))], [(0, [.pv x9, .pv x10])], [], 2, 45⟩) (fun x0 x1 x2 x3 x4 x5 x6 x7 => k (.exit 2) ⟨[(1, .one (.pv x0)), (2, .one (.pv x1)), (3, .one (.ptr 0 0)), (6, .one (.pv x2)), (7, .one (.pv x3)), (8, .one (.pv x4)), (9, .one (.pv x5))], [(0, [.pv x6, .pv x7])], [], 1, 45⟩)⟩,
  ⟨0, ⟨[(1, .one (.pv (.bool false))), (2, .one (.pv (.bool false))), (3, .one (.ptr 0 0)), (6, .one (.pv (.bool false))), (7, .one (.pv (.bool false))), (8, .one (.pv (.bool false)))], [(0, [.pv (.bool false), .pv (.bool false)])], [], 1, 45⟩, fun K k v => spec_CountSigs_r0 v K (fun x0 x1 x2 x3 x4 x5 x6 => k (.exit 0) ⟨[(1, .one (.pv x0)), (2, .one (.pv x1)), (3, .one (.ptr 0 0)), (6, .one (.pv x2)), (7, .one (.pv x3)), (8, .one (.pv x4))], [(0, [.pv x5, .pv x6])], [], 1, 45⟩)⟩]
theorem spec_CountSigs_s : LEsOK (orac [spec_IsSigBy_e]) TT (kk [1, 2, 3, 6, 7, 8, 9, 35, 36, 37, 38, 39, 40]) (sumsOf spec_CountSigs_l) Tryz.f359 spec_CountSigs_l := ⟨fun v K k h => by
  apply un_all h; exact fun v0 v1 v2 v3 v4 v5 v6 v7 h => Eq.mpr (by kernel_rfl) h
  , fun v K k h => by
  apply un_all h; exact fun v0 v1 v2 v3 v4 v5 v6 h => Eq.mpr (by kernel_rfl) h
  , trivial⟩
theorem spec_CountSigs_w : EntOK Tryz.prog TT spec_CountSigs_e := ent_ok tabok (L := [spec_IsSigBy_e]) ⟨spec_IsSigBy_w, trivial⟩ (keep := (kk [1, 2, 3, 6, 7, 8, 9, 35, 36, 37, 38, 39, 40])) (l := spec_CountSigs_l) Tryz.func359 (by kernel_rfl) (sg := [.one (.sc)]) (by kernel_rfl) spec_CountSigs_s fun av k h => by
  unfold spec_CountSigs at h; split at h
  · apply un_all h; clear h; intro a0 a1 h; exact Eq.mpr (by kernel_rfl) h
  · exact h.elim

def spec_IsSigned : GM
 | [.agg u0, .one a2, .one a3], k => un 2 (fun a0 a1 => 
  call spec_IsKeys [.agg [a0, a1]] fun o0 =>
  iteP (atP o0 0)
   (call spec_CountSigs [.agg [a0, a1], .one a2, .one a3] fun o1 =>
   binP .geq (atP o1 0) a1 fun r2 =>
   rt [.sc] [r2] k)
   (rt [.sc] [(.bool false)] k)) u0
 | _, _ => False
abbrev spec_IsSigned_e : Ent := ⟨[334], spec_IsSigned⟩
theorem spec_IsSigned_w : EntOK Tryz.prog TT spec_IsSigned_e := ent_ok tabok (L := [spec_IsKeys_e, spec_CountSigs_e]) ⟨spec_IsKeys_w, spec_CountSigs_w, trivial⟩ (keep := []) (l := []) Tryz.func334 (by kernel_rfl) (sg := [.one (.sc)]) (by kernel_rfl) trivial fun av k h => by
  unfold spec_IsSigned at h; split at h
  · apply un_all h; clear h; intro a0 a1 h; exact Eq.mpr (by kernel_rfl) h
  · exact h.elim

def spec_IsFirst : GM
 | [.agg u0], k => un 17 (fun a0 a1 a2 a3 a4 a5 a6 a7 a8 a9 a10 a11 a12 a13 a14 a15 a16 => 
  call spec_IsHead [.agg [a0, a1, a2, a3, a4, a5, a6, a7, a8, a9, a10, a11, a12, a13, a14, a15]] fun o0 =>
  iteP (atP o0 0)
   (binP .eql a1 (I 0) fun r1 =>
   iteP r1
    (binP .eql a2 (I 1) fun r2 =>
    iteP r2
     (unP .not a15 fun r3 =>
     iteP r3
      (call spec_ZoneOf [.agg [a8, a9], .one a7] fun o4 =>
      binP .eql a0 (atP o4 0) fun r5 =>
      iteP r5
       (call spec_HeadInts [.agg [a0, a1, a2, a3, a4, a5, a6, a7, a8, a9, a10, a11, a12, a13, a14, a15]] fun o6 =>
       call spec_IsSigned [.agg [a8, a9], .one (atP o6 0), .one a16] fun o7 =>
       rt [.sc] [(atP o7 0)] k)
       (rt [.sc] [(.bool false)] k))
      (rt [.sc] [(.bool false)] k))
     (rt [.sc] [(.bool false)] k))
    (rt [.sc] [(.bool false)] k))
   (rt [.sc] [(.bool false)] k)) u0
 | _, _ => False
abbrev spec_IsFirst_e : Ent := ⟨[299], spec_IsFirst⟩
theorem spec_IsFirst_w : EntOK Tryz.prog TT spec_IsFirst_e := ent_ok tabok (L := [spec_IsHead_e, spec_ZoneOf_e, spec_HeadInts_e, spec_IsSigned_e]) ⟨spec_IsHead_w, spec_ZoneOf_w, spec_HeadInts_w, spec_IsSigned_w, trivial⟩ (keep := []) (l := []) Tryz.func299 (by kernel_rfl) (sg := [.one (.sc)]) (by kernel_rfl) trivial fun av k h => by
  unfold spec_IsFirst at h; split at h
  · apply un_all h; clear h; intro a0 a1 a2 a3 a4 a5 a6 a7 a8 a9 a10 a11 a12 a13 a14 a15 a16 h; exact Eq.mpr (by kernel_rfl) h
  · exact h.elim

def spec_HeadDigest : GM
 | [.agg u0], k => un 16 (fun a0 a1 a2 a3 a4 a5 a6 a7 a8 a9 a10 a11 a12 a13 a14 a15 => 
  (1 = 1) ∧ (1 ≤ 16777216) ∧ (1 = 1) ∧ (0 = 0) ∧ (1 = 1) ∧ (flatCond [.pv (I 0)] [.pv (I 233)]) ∧ call spec_HeadInts [.agg [a0, a1, a2, a3, a4, a5, a6, a7, a8, a9, a10, a11, a12, a13, a14, a15]] fun o0 =>
  catP 1 (.list 1 [[(I 233)]]) (atP o0 0) fun r1 =>
  call spec_Hash [.one r1] fun o2 =>
  rt [.sc] [(atP o2 0)] k) u0
 | _, _ => False
abbrev spec_HeadDigest_e : Ent := ⟨[61], spec_HeadDigest⟩
theorem spec_HeadDigest_w : EntOK Tryz.prog TT spec_HeadDigest_e := ent_ok tabok (L := [spec_HeadInts_e, spec_Hash_e]) ⟨spec_HeadInts_w, spec_Hash_w, trivial⟩ (keep := []) (l := []) Tryz.func61 (by kernel_rfl) (sg := [.one (.sc)]) (by kernel_rfl) trivial fun av k h => by
  unfold spec_HeadDigest at h; split at h
  · apply un_all h; clear h; intro a0 a1 a2 a3 a4 a5 a6 a7 a8 a9 a10 a11 a12 a13 a14 a15 h; exact Eq.mpr (by kernel_rfl) h
  · exact h.elim

def spec_l15Owner : GM
 | [.agg u0, .agg u1], k => un 16 (fun a0 a1 a2 a3 a4 a5 a6 a7 a8 a9 a10 a11 a12 a13 a14 a15 => un 16 (fun a16 a17 a18 a19 a20 a21 a22 a23 a24 a25 a26 a27 a28 a29 a30 a31 => 
  iteP a15
   (rt [.sc] [(I 4)] k)
   (iteP a31
    (rt [.sc] [(I 6)] k)
    (rt [.sc] [(I 1)] k))) u1) u0
 | _, _ => False
abbrev spec_l15Owner_e : Ent := ⟨[360], spec_l15Owner⟩
theorem spec_l15Owner_w : EntOK Tryz.prog TT spec_l15Owner_e := ent_ok tabok (L := []) trivial (keep := []) (l := []) Tryz.func360 (by kernel_rfl) (sg := [.one (.sc)]) (by kernel_rfl) trivial fun av k h => by
  unfold spec_l15Owner at h; split at h
  · apply un_all h; clear h; intro a0 a1 a2 a3 a4 a5 a6 a7 a8 a9 a10 a11 a12 a13 a14 a15 h; apply un_all h; clear h; intro a16 a17 a18 a19 a20 a21 a22 a23 a24 a25 a26 a27 a28 a29 a30 a31 h; exact Eq.mpr (by kernel_rfl) h
  · exact h.elim

def spec_EqualInts_r0 (v : List PV) (K : List PV → Prop) (x0k : Prop) (x1k : PV → PV → PV → PV → Prop) : Prop :=
 un 4 (fun v0 v1 v2 v3 =>
  lenP v0 fun r0 =>
  binP .lss v3 r0 fun r1 =>
  iteP r1
   (elemP 1 v0 v3 fun c2 =>
   elemP 1 v1 v3 fun c3 =>
   binP .neq (atP c2 0) (atP c3 0) fun r4 =>
   iteP r4
    (x0k)
    (binP .add v3 (I 1) fun r5 =>
    K [v0, v1, v2, r5]))
   (x1k v0 v1 v2 v3)) v
def spec_EqualInts : GM
 | [.one a0, .one a1], k => 
  lenP a0 fun r0 =>
  lenP a1 fun r1 =>
  binP .neq r0 r1 fun r2 =>
  iteP r2
   (rt [.sc] [(.bool false)] k)
   (lp (fun L w => spec_EqualInts_r0 w L
    (rt [.sc] [(.bool false)] k)
    (fun q6 q7 q8 q9 => rt [.sc] [(.bool true)] k)) [a0, a1, (.bool false), (I 0)])
 | _, _ => False
abbrev spec_EqualInts_e : Ent := ⟨[125], spec_EqualInts⟩
def spec_EqualInts_l : List LE := [⟨0, ⟨[(0, .one (.pv (.bool false))), (1, .one (.pv (.bool false))), (4, .one (.pv (.bool false))), (5, .one (.pv (.bool false)))], [], [], 0, 26⟩, fun K k v => spec_EqualInts_r0 v K (k .ret ⟨[(4, .one (.kb false))], [], [], 0, 26⟩) (fun x0 x1 x2 x3 => k (.exit 0) ⟨[(0, .one (.pv x0)), (1, .one (.pv x1)), (4, .one (.pv x2)), (5, .one (.pv x3))], [], [], 0, 26⟩)⟩]
theorem spec_EqualInts_s : LEsOK (orac []) TT (kk [0, 1, 4, 5]) (sumsOf spec_EqualInts_l) Tryz.f125 spec_EqualInts_l := ⟨fun v K k h => by
  apply un_all h; exact fun v0 v1 v2 v3 h => Eq.mpr (by kernel_rfl) h
  , trivial⟩
theorem spec_EqualInts_w : EntOK Tryz.prog TT spec_EqualInts_e := ent_ok tabok (L := []) trivial (keep := (kk [0, 1, 4, 5])) (l := spec_EqualInts_l) Tryz.func125 (by kernel_rfl) (sg := [.one (.sc)]) (by kernel_rfl) spec_EqualInts_s fun av k h => by
  unfold spec_EqualInts at h; split at h
  · exact Eq.mpr (by kernel_rfl) h
  · exact h.elim

def spec_EqualKeys : GM
 | [.agg u0, .agg u1], k => un 2 (fun a0 a1 => un 2 (fun a2 a3 => 
  binP .eql a1 a3 fun r0 =>
  iteP r0
   (call spec_EqualInts [.one a0, .one a2] fun o1 =>
   rt [.sc] [(atP o1 0)] k)
   (rt [.sc] [(.bool false)] k)) u1) u0
 | _, _ => False
abbrev spec_EqualKeys_e : Ent := ⟨[383], spec_EqualKeys⟩
theorem spec_EqualKeys_w : EntOK Tryz.prog TT spec_EqualKeys_e := ent_ok tabok (L := [spec_EqualInts_e]) ⟨spec_EqualInts_w, trivial⟩ (keep := []) (l := []) Tryz.func383 (by kernel_rfl) (sg := [.one (.sc)]) (by kernel_rfl) trivial fun av k h => by
  unfold spec_EqualKeys at h; split at h
  · apply un_all h; clear h; intro a0 a1 h; apply un_all h; clear h; intro a2 a3 h; exact Eq.mpr (by kernel_rfl) h
  · exact h.elim

def spec_SameContents : GM
 | [.agg u0, .agg u1], k => un 16 (fun a0 a1 a2 a3 a4 a5 a6 a7 a8 a9 a10 a11 a12 a13 a14 a15 => un 16 (fun a16 a17 a18 a19 a20 a21 a22 a23 a24 a25 a26 a27 a28 a29 a30 a31 => 
  binP .eql a5 a21 fun r0 =>
  iteP r0
   (binP .eql a6 a22 fun r1 =>
   rt [.sc] [r1] k)
   (rt [.sc] [(.bool false)] k)) u1) u0
 | _, _ => False
abbrev spec_SameContents_e : Ent := ⟨[384], spec_SameContents⟩
theorem spec_SameContents_w : EntOK Tryz.prog TT spec_SameContents_e := ent_ok tabok (L := []) trivial (keep := []) (l := []) Tryz.func384 (by kernel_rfl) (sg := [.one (.sc)]) (by kernel_rfl) trivial fun av k h => by
  unfold spec_SameContents at h; split at h
  · apply un_all h; clear h; intro a0 a1 a2 a3 a4 a5 a6 a7 a8 a9 a10 a11 a12 a13 a14 a15 h; apply un_all h; clear h; intro a16 a17 a18 a19 a20 a21 a22 a23 a24 a25 a26 a27 a28 a29 a30 a31 h; exact Eq.mpr (by kernel_rfl) h
  · exact h.elim

def spec_l15Heir : GM
 | [.agg u0, .agg u1], k => un 16 (fun a0 a1 a2 a3 a4 a5 a6 a7 a8 a9 a10 a11 a12 a13 a14 a15 => un 16 (fun a16 a17 a18 a19 a20 a21 a22 a23 a24 a25 a26 a27 a28 a29 a30 a31 => 
  iteP a15
   (rt [.sc] [(I 4)] k)
   (call spec_NoKeys [.agg [a10, a11]] fun o0 =>
   iteP (atP o0 0)
    (rt [.sc] [(I 5)] k)
    (binP .add a4 a12 fun r1 =>
    binP .lss a19 r1 fun r2 =>
    iteP r2
     (rt [.sc] [(I 5)] k)
     (iteP a31
      (rt [.sc] [(I 6)] k)
      (call spec_EqualKeys [.agg [a24, a25], .agg [a10, a11]] fun o3 =>
      unP .not (atP o3 0) fun r4 =>
      iteP r4
       (rt [.sc] [(I 6)] k)
       (call spec_SameContents [.agg [a16, a17, a18, a19, a20, a21, a22, a23, a24, a25, a26, a27, a28, a29, a30, a31], .agg [a0, a1, a2, a3, a4, a5, a6, a7, a8, a9, a10, a11, a12, a13, a14, a15]] fun o5 =>
       unP .not (atP o5 0) fun r6 =>
       iteP r6
        (rt [.sc] [(I 6)] k)
        (rt [.sc] [(I 1)] k))))))) u1) u0
 | _, _ => False
abbrev spec_l15Heir_e : Ent := ⟨[361], spec_l15Heir⟩
theorem spec_l15Heir_w : EntOK Tryz.prog TT spec_l15Heir_e := ent_ok tabok (L := [spec_NoKeys_e, spec_EqualKeys_e, spec_SameContents_e]) ⟨spec_NoKeys_w, spec_EqualKeys_w, spec_SameContents_w, trivial⟩ (keep := []) (l := []) Tryz.func361 (by kernel_rfl) (sg := [.one (.sc)]) (by kernel_rfl) trivial fun av k h => by
  unfold spec_l15Heir at h; split at h
  · apply un_all h; clear h; intro a0 a1 a2 a3 a4 a5 a6 a7 a8 a9 a10 a11 a12 a13 a14 a15 h; apply un_all h; clear h; intro a16 a17 a18 a19 a20 a21 a22 a23 a24 a25 a26 a27 a28 a29 a30 a31 h; exact Eq.mpr (by kernel_rfl) h
  · exact h.elim

def spec_l15Judge : GM
 | [.agg u0, .agg u1], k => un 16 (fun a0 a1 a2 a3 a4 a5 a6 a7 a8 a9 a10 a11 a12 a13 a14 a15 => un 16 (fun a16 a17 a18 a19 a20 a21 a22 a23 a24 a25 a26 a27 a28 a29 a30 a31 => 
  call spec_NoKeys [.agg [a13, a14]] fun o0 =>
  iteP (atP o0 0)
   (rt [.sc] [(I 5)] k)
   (boolP .eql a31 a15 fun r1 =>
   iteP r1
    (rt [.sc] [(I 6)] k)
    (call spec_SameContents [.agg [a16, a17, a18, a19, a20, a21, a22, a23, a24, a25, a26, a27, a28, a29, a30, a31], .agg [a0, a1, a2, a3, a4, a5, a6, a7, a8, a9, a10, a11, a12, a13, a14, a15]] fun o2 =>
    unP .not (atP o2 0) fun r3 =>
    iteP r3
     (rt [.sc] [(I 6)] k)
     (call spec_EqualKeys [.agg [a29, a30], .agg [a13, a14]] fun o4 =>
     unP .not (atP o4 0) fun r5 =>
     iteP r5
      (rt [.sc] [(I 6)] k)
      (call spec_EqualKeys [.agg [a26, a27], .agg [a10, a11]] fun o6 =>
      unP .not (atP o6 0) fun r7 =>
      iteP r7
       (rt [.sc] [(I 6)] k)
       (binP .neq a28 a12 fun r8 =>
       iteP r8
        (rt [.sc] [(I 6)] k)
        (iteP a31
         (call spec_EqualKeys [.agg [a24, a25], .agg [a8, a9]] fun o9 =>
         unP .not (atP o9 0) fun r10 =>
         iteP r10
          (rt [.sc] [(I 6)] k)
          (rt [.sc] [(I 1)] k))
         (rt [.sc] [(I 1)] k)))))))) u1) u0
 | _, _ => False
abbrev spec_l15Judge_e : Ent := ⟨[362], spec_l15Judge⟩
theorem spec_l15Judge_w : EntOK Tryz.prog TT spec_l15Judge_e := ent_ok tabok (L := [spec_NoKeys_e, spec_SameContents_e, spec_EqualKeys_e]) ⟨spec_NoKeys_w, spec_SameContents_w, spec_EqualKeys_w, trivial⟩ (keep := []) (l := []) Tryz.func362 (by kernel_rfl) (sg := [.one (.sc)]) (by kernel_rfl) trivial fun av k h => by
  unfold spec_l15Judge at h; split at h
  · apply un_all h; clear h; intro a0 a1 a2 a3 a4 a5 a6 a7 a8 a9 a10 a11 a12 a13 a14 a15 h; apply un_all h; clear h; intro a16 a17 a18 a19 a20 a21 a22 a23 a24 a25 a26 a27 a28 a29 a30 a31 h; exact Eq.mpr (by kernel_rfl) h
  · exact h.elim

def spec_NextCode : GM
 | [.agg u0, .agg u1], k => un 16 (fun a0 a1 a2 a3 a4 a5 a6 a7 a8 a9 a10 a11 a12 a13 a14 a15 => un 17 (fun a16 a17 a18 a19 a20 a21 a22 a23 a24 a25 a26 a27 a28 a29 a30 a31 a32 => 
  call spec_IsHead [.agg [a0, a1, a2, a3, a4, a5, a6, a7, a8, a9, a10, a11, a12, a13, a14, a15]] fun o0 =>
  unP .not (atP o0 0) fun r1 =>
  iteP r1
   (rt [.sc] [(I 2)] k)
   (call spec_IsHead [.agg [a16, a17, a18, a19, a20, a21, a22, a23, a24, a25, a26, a27, a28, a29, a30, a31]] fun o2 =>
   unP .not (atP o2 0) fun r3 =>
   iteP r3
    (rt [.sc] [(I 2)] k)
    (binP .neq a16 a0 fun r4 =>
    iteP r4
     (rt [.sc] [(I 3)] k)
     (binP .add a1 (I 1) fun r5 =>
     binP .neq a17 r5 fun r6 =>
     iteP r6
      (rt [.sc] [(I 3)] k)
      (call spec_HeadDigest [.agg [a0, a1, a2, a3, a4, a5, a6, a7, a8, a9, a10, a11, a12, a13, a14, a15]] fun o7 =>
      binP .neq a23 (atP o7 0) fun r8 =>
      iteP r8
       (rt [.sc] [(I 3)] k)
       (binP .lss a19 a3 fun r9 =>
       iteP r9
        (rt [.sc] [(I 3)] k)
        (call spec_l15Owner [.agg [a0, a1, a2, a3, a4, a5, a6, a7, a8, a9, a10, a11, a12, a13, a14, a15], .agg [a16, a17, a18, a19, a20, a21, a22, a23, a24, a25, a26, a27, a28, a29, a30, a31]] fun o10 =>
        binP .eql a18 (I 2) fun r11 =>
        iteP r11
         (call spec_l15Heir [.agg [a0, a1, a2, a3, a4, a5, a6, a7, a8, a9, a10, a11, a12, a13, a14, a15], .agg [a16, a17, a18, a19, a20, a21, a22, a23, a24, a25, a26, a27, a28, a29, a30, a31]] fun o12 =>
         binP .eql (atP o12 0) (I 1) fun r13 =>
         iteP r13
          (call spec_HeadInts [.agg [a16, a17, a18, a19, a20, a21, a22, a23, a24, a25, a26, a27, a28, a29, a30, a31]] fun o14 =>
          call spec_IsSigned [.agg [a10, a11], .one (atP o14 0), .one a32] fun o15 =>
          unP .not (atP o15 0) fun r16 =>
          iteP r16
           (rt [.sc] [(I 7)] k)
           (rt [.sc] [(atP o12 0)] k))
          (rt [.sc] [(atP o12 0)] k))
         (binP .eql a18 (I 3) fun r17 =>
         iteP r17
          (call spec_l15Judge [.agg [a0, a1, a2, a3, a4, a5, a6, a7, a8, a9, a10, a11, a12, a13, a14, a15], .agg [a16, a17, a18, a19, a20, a21, a22, a23, a24, a25, a26, a27, a28, a29, a30, a31]] fun o18 =>
          binP .eql (atP o18 0) (I 1) fun r19 =>
          iteP r19
           (call spec_HeadInts [.agg [a16, a17, a18, a19, a20, a21, a22, a23, a24, a25, a26, a27, a28, a29, a30, a31]] fun o20 =>
           call spec_IsSigned [.agg [a13, a14], .one (atP o20 0), .one a32] fun o21 =>
           unP .not (atP o21 0) fun r22 =>
           iteP r22
            (rt [.sc] [(I 7)] k)
            (rt [.sc] [(atP o18 0)] k))
           (rt [.sc] [(atP o18 0)] k))
          (binP .eql (atP o10 0) (I 1) fun r23 =>
          iteP r23
           (call spec_HeadInts [.agg [a16, a17, a18, a19, a20, a21, a22, a23, a24, a25, a26, a27, a28, a29, a30, a31]] fun o24 =>
           call spec_IsSigned [.agg [a8, a9], .one (atP o24 0), .one a32] fun o25 =>
           unP .not (atP o25 0) fun r26 =>
           iteP r26
            (rt [.sc] [(I 7)] k)
            (rt [.sc] [(atP o10 0)] k))
           (rt [.sc] [(atP o10 0)] k)))))))))) u1) u0
 | _, _ => False
abbrev spec_NextCode_e : Ent := ⟨[335], spec_NextCode⟩
theorem spec_NextCode_w : EntOK Tryz.prog TT spec_NextCode_e := ent_ok tabok (L := [spec_IsHead_e, spec_HeadDigest_e, spec_l15Owner_e, spec_l15Heir_e, spec_HeadInts_e, spec_IsSigned_e, spec_l15Judge_e]) ⟨spec_IsHead_w, spec_HeadDigest_w, spec_l15Owner_w, spec_l15Heir_w, spec_HeadInts_w, spec_IsSigned_w, spec_l15Judge_w, trivial⟩ (keep := []) (l := []) Tryz.func335 (by kernel_rfl) (sg := [.one (.sc)]) (by kernel_rfl) trivial fun av k h => by
  unfold spec_NextCode at h; split at h
  · apply un_all h; clear h; intro a0 a1 a2 a3 a4 a5 a6 a7 a8 a9 a10 a11 a12 a13 a14 a15 h; apply un_all h; clear h; intro a16 a17 a18 a19 a20 a21 a22 a23 a24 a25 a26 a27 a28 a29 a30 a31 a32 h; exact Eq.mpr (by kernel_rfl) h
  · exact h.elim

def spec_MayFollow : GM
 | [.agg u0, .agg u1], k => un 16 (fun a0 a1 a2 a3 a4 a5 a6 a7 a8 a9 a10 a11 a12 a13 a14 a15 => un 17 (fun a16 a17 a18 a19 a20 a21 a22 a23 a24 a25 a26 a27 a28 a29 a30 a31 a32 => 
  call spec_NextCode [.agg [a0, a1, a2, a3, a4, a5, a6, a7, a8, a9, a10, a11, a12, a13, a14, a15], .agg [a16, a17, a18, a19, a20, a21, a22, a23, a24, a25, a26, a27, a28, a29, a30, a31, a32]] fun o0 =>
  binP .eql (atP o0 0) (I 1) fun r1 =>
  rt [.sc] [r1] k) u1) u0
 | _, _ => False
abbrev spec_MayFollow_e : Ent := ⟨[300], spec_MayFollow⟩
theorem spec_MayFollow_w : EntOK Tryz.prog TT spec_MayFollow_e := ent_ok tabok (L := [spec_NextCode_e]) ⟨spec_NextCode_w, trivial⟩ (keep := []) (l := []) Tryz.func300 (by kernel_rfl) (sg := [.one (.sc)]) (by kernel_rfl) trivial fun av k h => by
  unfold spec_MayFollow at h; split at h
  · apply un_all h; clear h; intro a0 a1 a2 a3 a4 a5 a6 a7 a8 a9 a10 a11 a12 a13 a14 a15 h; apply un_all h; clear h; intro a16 a17 a18 a19 a20 a21 a22 a23 a24 a25 a26 a27 a28 a29 a30 a31 a32 h; exact Eq.mpr (by kernel_rfl) h
  · exact h.elim

def spec_FirstWrong_r0 (v : List PV) (K : List PV → Prop) (x0k : PV → Prop) (x1k : PV → Prop) (x2k : PV → PV → PV → Prop) : Prop :=
 un 3 (fun v0 v1 v2 =>
  lenP v0 fun r0 =>
  binP .lss v2 r0 fun r1 =>
  iteP r1
   (binP .eql v2 (I 0) fun r2 =>
   iteP r2
    (elemP 17 v0 (I 0) fun c3 =>
    call spec_IsFirst [.agg [(atP c3 0), (atP c3 1), (atP c3 2), (atP c3 3), (atP c3 4), (atP c3 5), (atP c3 6), (atP c3 7), (atP c3 8), (atP c3 9), (atP c3 10), (atP c3 11), (atP c3 12), (atP c3 13), (atP c3 14), (atP c3 15), (atP c3 16)]] fun o4 =>
    unP .not (atP o4 0) fun r5 =>
    iteP r5
     (x0k v2)
     (binP .gtr v2 (I 0) fun r6 =>
     iteP r6
      (binP .sub v2 (I 1) fun r7 =>
      elemP 17 v0 r7 fun c8 =>
      elemP 17 v0 v2 fun c9 =>
      call spec_MayFollow [.agg [(atP c8 0), (atP c8 1), (atP c8 2), (atP c8 3), (atP c8 4), (atP c8 5), (atP c8 6), (atP c8 7), (atP c8 8), (atP c8 9), (atP c8 10), (atP c8 11), (atP c8 12), (atP c8 13), (atP c8 14), (atP c8 15)], .agg [(atP c9 0), (atP c9 1), (atP c9 2), (atP c9 3), (atP c9 4), (atP c9 5), (atP c9 6), (atP c9 7), (atP c9 8), (atP c9 9), (atP c9 10), (atP c9 11), (atP c9 12), (atP c9 13), (atP c9 14), (atP c9 15), (atP c9 16)]] fun o10 =>
      unP .not (atP o10 0) fun r11 =>
      iteP r11
       (x1k v2)
       (binP .add v2 (I 1) fun r12 =>
       K [v0, v1, r12]))
      (binP .add v2 (I 1) fun r13 =>
      K [v0, v1, r13])))
    (binP .gtr v2 (I 0) fun r14 =>
    iteP r14
     (binP .sub v2 (I 1) fun r15 =>
     elemP 17 v0 r15 fun c16 =>
     elemP 17 v0 v2 fun c17 =>
     call spec_MayFollow [.agg [(atP c16 0), (atP c16 1), (atP c16 2), (atP c16 3), (atP c16 4), (atP c16 5), (atP c16 6), (atP c16 7), (atP c16 8), (atP c16 9), (atP c16 10), (atP c16 11), (atP c16 12), (atP c16 13), (atP c16 14), (atP c16 15)], .agg [(atP c17 0), (atP c17 1), (atP c17 2), (atP c17 3), (atP c17 4), (atP c17 5), (atP c17 6), (atP c17 7), (atP c17 8), (atP c17 9), (atP c17 10), (atP c17 11), (atP c17 12), (atP c17 13), (atP c17 14), (atP c17 15), (atP c17 16)]] fun o18 =>
     unP .not (atP o18 0) fun r19 =>
     iteP r19
      (x0k v2)
      (binP .add v2 (I 1) fun r20 =>
      K [v0, v1, r20]))
     (binP .add v2 (I 1) fun r21 =>
     K [v0, v1, r21])))
   (x2k v0 v1 v2)) v
def spec_FirstWrong : GM
 | [.one a0], k => 
  lp (fun L w => spec_FirstWrong_r0 w L
   (fun q22 => rt [.sc] [q22] k)
   (fun q23 => rt [.sc] [q23] k)
   (fun q24 q25 q26 => rt [.sc] [(I (-1))] k)) [a0, (I 0), (I 0)]
 | _, _ => False
abbrev spec_FirstWrong_e : Ent := ⟨[258], spec_FirstWrong⟩
def spec_FirstWrong_l : List LE := [⟨0, ⟨[(0, .one (.pv (.bool false))), (2, .one (.pv (.bool false))), (3, .one (.pv (.bool false)))], [], [], 0, 38⟩, fun K k v => spec_FirstWrong_r0 v K (fun x0 => k .ret ⟨[(2, .one (.pv x0))], [], [], 1, 38⟩) (fun x0 => k .ret ⟨[(2, .one (.pv x0))], [], [], 2, 38⟩) (fun x0 x1 x2 => k (.exit 0) ⟨[(0, .one (.pv x0)), (2, .one (.pv x1)), (3, .one (.pv x2))], [], [], 0, 38⟩)⟩]
theorem spec_FirstWrong_s : LEsOK (orac [spec_IsFirst_e, spec_MayFollow_e]) TT (kk [0, 2, 3, 13, 14, 15, 16, 17, 20, 21, 22, 23, 24, 25, 26, 27, 28, 29, 30, 31, 32, 33, 34, 35]) (sumsOf spec_FirstWrong_l) Tryz.f258 spec_FirstWrong_l := ⟨fun v K k h => by
  apply un_all h; exact fun v0 v1 v2 h => Eq.mpr (by kernel_rfl) h
  , trivial⟩
theorem spec_FirstWrong_w : EntOK Tryz.prog TT spec_FirstWrong_e := ent_ok tabok (L := [spec_IsFirst_e, spec_MayFollow_e]) ⟨spec_IsFirst_w, spec_MayFollow_w, trivial⟩ (keep := (kk [0, 2, 3, 13, 14, 15, 16, 17, 20, 21, 22, 23, 24, 25, 26, 27, 28, 29, 30, 31, 32, 33, 34, 35])) (l := spec_FirstWrong_l) Tryz.func258 (by kernel_rfl) (sg := [.one (.sc)]) (by kernel_rfl) spec_FirstWrong_s fun av k h => by
  unfold spec_FirstWrong at h; split at h
  · exact Eq.mpr (by kernel_rfl) h
  · exact h.elim

def spec_IsChain : GM
 | [.one a0], k => 
  lenP a0 fun r0 =>
  call spec_l1In [.one r0, .one (I 1), .one (I 12)] fun o1 =>
  iteP (atP o1 0)
   (call spec_FirstWrong [.one a0] fun o2 =>
   binP .lss (atP o2 0) (I 0) fun r3 =>
   rt [.sc] [r3] k)
   (rt [.sc] [(.bool false)] k)
 | _, _ => False
abbrev spec_IsChain_e : Ent := ⟨[170], spec_IsChain⟩
theorem spec_IsChain_w : EntOK Tryz.prog TT spec_IsChain_e := ent_ok tabok (L := [spec_l1In_e, spec_FirstWrong_e]) ⟨spec_l1In_w, spec_FirstWrong_w, trivial⟩ (keep := []) (l := []) Tryz.func170 (by kernel_rfl) (sg := [.one (.sc)]) (by kernel_rfl) trivial fun av k h => by
  unfold spec_IsChain at h; split at h
  · exact Eq.mpr (by kernel_rfl) h
  · exact h.elim

def spec_EqualHeads : GM
 | [.agg u0, .agg u1], k => un 16 (fun a0 a1 a2 a3 a4 a5 a6 a7 a8 a9 a10 a11 a12 a13 a14 a15 => un 16 (fun a16 a17 a18 a19 a20 a21 a22 a23 a24 a25 a26 a27 a28 a29 a30 a31 => 
  call spec_HeadInts [.agg [a0, a1, a2, a3, a4, a5, a6, a7, a8, a9, a10, a11, a12, a13, a14, a15]] fun o0 =>
  call spec_HeadInts [.agg [a16, a17, a18, a19, a20, a21, a22, a23, a24, a25, a26, a27, a28, a29, a30, a31]] fun o1 =>
  call spec_EqualInts [.one (atP o0 0), .one (atP o1 0)] fun o2 =>
  iteP (atP o2 0)
   (boolP .eql a15 a31 fun r3 =>
   rt [.sc] [r3] k)
   (rt [.sc] [(.bool false)] k)) u1) u0
 | _, _ => False
abbrev spec_EqualHeads_e : Ent := ⟨[192], spec_EqualHeads⟩
theorem spec_EqualHeads_w : EntOK Tryz.prog TT spec_EqualHeads_e := ent_ok tabok (L := [spec_HeadInts_e, spec_EqualInts_e]) ⟨spec_HeadInts_w, spec_EqualInts_w, trivial⟩ (keep := []) (l := []) Tryz.func192 (by kernel_rfl) (sg := [.one (.sc)]) (by kernel_rfl) trivial fun av k h => by
  unfold spec_EqualHeads at h; split at h
  · apply un_all h; clear h; intro a0 a1 a2 a3 a4 a5 a6 a7 a8 a9 a10 a11 a12 a13 a14 a15 h; apply un_all h; clear h; intro a16 a17 a18 a19 a20 a21 a22 a23 a24 a25 a26 a27 a28 a29 a30 a31 h; exact Eq.mpr (by kernel_rfl) h
  · exact h.elim

def spec_IsPrefix_r0 (v : List PV) (K : List PV → Prop) (x0k : Prop) (x1k : PV → PV → PV → PV → Prop) : Prop :=
 un 4 (fun v0 v1 v2 v3 =>
  lenP v0 fun r0 =>
  binP .lss v3 r0 fun r1 =>
  iteP r1
   (elemP 17 v0 v3 fun c2 =>
   elemP 17 v1 v3 fun c3 =>
   call spec_EqualHeads [.agg [(atP c2 0), (atP c2 1), (atP c2 2), (atP c2 3), (atP c2 4), (atP c2 5), (atP c2 6), (atP c2 7), (atP c2 8), (atP c2 9), (atP c2 10), (atP c2 11), (atP c2 12), (atP c2 13), (atP c2 14), (atP c2 15)], .agg [(atP c3 0), (atP c3 1), (atP c3 2), (atP c3 3), (atP c3 4), (atP c3 5), (atP c3 6), (atP c3 7), (atP c3 8), (atP c3 9), (atP c3 10), (atP c3 11), (atP c3 12), (atP c3 13), (atP c3 14), (atP c3 15)]] fun o4 =>
   unP .not (atP o4 0) fun r5 =>
   iteP r5
    (x0k)
    (binP .add v3 (I 1) fun r6 =>
    K [v0, v1, v2, r6]))
   (x1k v0 v1 v2 v3)) v
def spec_IsPrefix : GM
 | [.one a0, .one a1], k => 
  lenP a0 fun r0 =>
  lenP a1 fun r1 =>
  binP .gtr r0 r1 fun r2 =>
  iteP r2
   (rt [.sc] [(.bool false)] k)
   (lp (fun L w => spec_IsPrefix_r0 w L
    (rt [.sc] [(.bool false)] k)
    (fun q7 q8 q9 q10 => rt [.sc] [(.bool true)] k)) [a0, a1, (.bool false), (I 0)])
 | _, _ => False
abbrev spec_IsPrefix_e : Ent := ⟨[85], spec_IsPrefix⟩
def spec_IsPrefix_l : List LE := [⟨0, ⟨[(0, .one (.pv (.bool false))), (1, .one (.pv (.bool false))), (4, .one (.pv (.bool false))), (5, .one (.pv (.bool false)))], [], [], 0, 29⟩, fun K k v => spec_IsPrefix_r0 v K (k .ret ⟨[(4, .one (.kb false))], [], [], 1, 29⟩) (fun x0 x1 x2 x3 => k (.exit 0) ⟨[(0, .one (.pv x0)), (1, .one (.pv x1)), (4, .one (.pv x2)), (5, .one (.pv x3))], [], [], 0, 29⟩)⟩]
theorem spec_IsPrefix_s : LEsOK (orac [spec_EqualHeads_e]) TT (kk [0, 1, 4, 5]) (sumsOf spec_IsPrefix_l) Tryz.f85 spec_IsPrefix_l := ⟨fun v K k h => by
  apply un_all h; exact fun v0 v1 v2 v3 h => Eq.mpr (by kernel_rfl) h
  , trivial⟩
theorem spec_IsPrefix_w : EntOK Tryz.prog TT spec_IsPrefix_e := ent_ok tabok (L := [spec_EqualHeads_e]) ⟨spec_EqualHeads_w, trivial⟩ (keep := (kk [0, 1, 4, 5])) (l := spec_IsPrefix_l) Tryz.func85 (by kernel_rfl) (sg := [.one (.sc)]) (by kernel_rfl) spec_IsPrefix_s fun av k h => by
  unfold spec_IsPrefix at h; split at h
  · exact Eq.mpr (by kernel_rfl) h
  · exact h.elim

def spec_l6Copy : GM
 | [.agg u0], k => un 2 (fun a0 a1 => 
  catP 1 a0 (.list 1 []) fun r0 =>
  rt [.pv, .sc] [r0, a1] k) u0
 | _, _ => False
abbrev spec_l6Copy_e : Ent := ⟨[259], spec_l6Copy⟩
theorem spec_l6Copy_w : EntOK Tryz.prog TT spec_l6Copy_e := ent_ok tabok (L := []) trivial (keep := []) (l := []) Tryz.func259 (by kernel_rfl) (sg := [.agg [.pv, .sc]]) (by kernel_rfl) trivial fun av k h => by
  unfold spec_l6Copy at h; split at h
  · apply un_all h; clear h; intro a0 a1 h; exact Eq.mpr (by kernel_rfl) h
  · exact h.elim

def spec_l13Copy : GM
 | [.agg u0], k => un 16 (fun a0 a1 a2 a3 a4 a5 a6 a7 a8 a9 a10 a11 a12 a13 a14 a15 => 
  call spec_l6Copy [.agg [a8, a9]] fun o0 =>
  call spec_l6Copy [.agg [a10, a11]] fun o1 =>
  call spec_l6Copy [.agg [a13, a14]] fun o2 =>
  rt [.sc, .sc, .sc, .sc, .sc, .sc, .sc, .sc, .pv, .sc, .pv, .sc, .sc, .pv, .sc, .sc] [a0, a1, a2, a3, a4, a5, a6, a7, (atP o0 0), (atP o0 1), (atP o1 0), (atP o1 1), a12, (atP o2 0), (atP o2 1), a15] k) u0
 | _, _ => False
abbrev spec_l13Copy_e : Ent := ⟨[171], spec_l13Copy⟩
theorem spec_l13Copy_w : EntOK Tryz.prog TT spec_l13Copy_e := ent_ok tabok (L := [spec_l6Copy_e]) ⟨spec_l6Copy_w, trivial⟩ (keep := []) (l := []) Tryz.func171 (by kernel_rfl) (sg := [.agg [.sc, .sc, .sc, .sc, .sc, .sc, .sc, .sc, .pv, .sc, .pv, .sc, .sc, .pv, .sc, .sc]]) (by kernel_rfl) trivial fun av k h => by
  unfold spec_l13Copy at h; split at h
  · apply un_all h; clear h; intro a0 a1 a2 a3 a4 a5 a6 a7 a8 a9 a10 a11 a12 a13 a14 a15 h; exact Eq.mpr (by kernel_rfl) h
  · exact h.elim

def spec_l14Copy : GM
 | [.agg u0], k => un 17 (fun a0 a1 a2 a3 a4 a5 a6 a7 a8 a9 a10 a11 a12 a13 a14 a15 a16 => 
  call spec_l13Copy [.agg [a0, a1, a2, a3, a4, a5, a6, a7, a8, a9, a10, a11, a12, a13, a14, a15]] fun o0 =>
  catP 2 a16 (.list 2 []) fun r1 =>
  rt [.sc, .sc, .sc, .sc, .sc, .sc, .sc, .sc, .pv, .sc, .pv, .sc, .sc, .pv, .sc, .sc, .pv] [(atP o0 0), (atP o0 1), (atP o0 2), (atP o0 3), (atP o0 4), (atP o0 5), (atP o0 6), (atP o0 7), (atP o0 8), (atP o0 9), (atP o0 10), (atP o0 11), (atP o0 12), (atP o0 13), (atP o0 14), (atP o0 15), r1] k) u0
 | _, _ => False
abbrev spec_l14Copy_e : Ent := ⟨[227], spec_l14Copy⟩
theorem spec_l14Copy_w : EntOK Tryz.prog TT spec_l14Copy_e := ent_ok tabok (L := [spec_l13Copy_e]) ⟨spec_l13Copy_w, trivial⟩ (keep := []) (l := []) Tryz.func227 (by kernel_rfl) (sg := [.agg [.sc, .sc, .sc, .sc, .sc, .sc, .sc, .sc, .pv, .sc, .pv, .sc, .sc, .pv, .sc, .sc, .pv]]) (by kernel_rfl) trivial fun av k h => by
  unfold spec_l14Copy at h; split at h
  · apply un_all h; clear h; intro a0 a1 a2 a3 a4 a5 a6 a7 a8 a9 a10 a11 a12 a13 a14 a15 a16 h; exact Eq.mpr (by kernel_rfl) h
  · exact h.elim

def spec_ForkIn_r0 (v : List PV) (K : List PV → Prop) (x0k : PV → PV → PV → PV → PV → PV → PV → PV → PV → PV → PV → PV → PV → PV → PV → PV → PV → PV → PV → PV → PV → PV → PV → PV → PV → PV → PV → PV → PV → PV → PV → PV → PV → PV → PV → PV → PV → PV → PV → PV → PV → PV → PV → PV → PV → PV → PV → PV → PV → PV → PV → PV → PV → PV → PV → PV → PV → PV → PV → PV → PV → PV → PV → PV → PV → PV → PV → PV → PV → PV → PV → PV → PV → PV → PV → PV → PV → PV → PV → PV → PV → PV → PV → PV → PV → PV → PV → PV → PV → PV → PV → PV → Prop) (x1k : PV → PV → PV → PV → PV → PV → PV → PV → PV → PV → PV → PV → PV → PV → PV → PV → PV → PV → PV → PV → PV → PV → PV → PV → PV → PV → PV → PV → PV → PV → PV → PV → PV → PV → PV → PV → PV → PV → PV → PV → PV → PV → PV → PV → PV → PV → PV → PV → PV → PV → PV → PV → PV → PV → PV → PV → PV → Prop) (x2k : PV → PV → PV → PV → PV → PV → PV → PV → PV → PV → PV → PV → PV → PV → PV → PV → PV → PV → PV → PV → PV → PV → PV → PV → PV → PV → PV → PV → PV → PV → PV → PV → PV → PV → PV → PV → PV → PV → PV → PV → PV → PV → PV → PV → PV → PV → PV → PV → PV → PV → PV → PV → PV → PV → PV → Prop) : Prop :=
 un 55 (fun v0 v1 v2 v3 v4 v5 v6 v7 v8 v9 v10 v11 v12 v13 v14 v15 v16 v17 v18 v19 v20 v21 v22 v23 v24 v25 v26 v27 v28 v29 v30 v31 v32 v33 v34 v35 v36 v37 v38 v39 v40 v41 v42 v43 v44 v45 v46 v47 v48 v49 v50 v51 v52 v53 v54 =>
  lenP v0 fun r0 =>
  binP .lss v3 r0 fun r1 =>
  iteP r1
   (lenP v1 fun r2 =>
   binP .lss v3 r2 fun r3 =>
   iteP r3
    (elemP 17 v0 v3 fun c4 =>
    elemP 17 v1 v3 fun c5 =>
    call spec_EqualHeads [.agg [(atP c4 0), (atP c4 1), (atP c4 2), (atP c4 3), (atP c4 4), (atP c4 5), (atP c4 6), (atP c4 7), (atP c4 8), (atP c4 9), (atP c4 10), (atP c4 11), (atP c4 12), (atP c4 13), (atP c4 14), (atP c4 15)], .agg [(atP c5 0), (atP c5 1), (atP c5 2), (atP c5 3), (atP c5 4), (atP c5 5), (atP c5 6), (atP c5 7), (atP c5 8), (atP c5 9), (atP c5 10), (atP c5 11), (atP c5 12), (atP c5 13), (atP c5 14), (atP c5 15)]] fun o6 =>
    iteP (atP o6 0)
     (binP .add v3 (I 1) fun r7 =>
     K [v0, v1, v2, r7, v4, v5, v6, v7, v8, v9, v10, v11, v12, v13, v14, v15, v16, v17, v18, v19, v20, v21, v22, v23, v24, v25, v26, v27, v28, v29, v30, v31, v32, v33, v34, v35, v36, v37, v38, v39, v40, v41, v42, v43, v44, v45, v46, v47, v48, v49, v50, v51, v52, v53, v54])
     (x0k v0 v1 v2 v3 r2 r3 (atP c4 0) (atP c4 1) (atP c4 2) (atP c4 3) (atP c4 4) (atP c4 5) (atP c4 6) (atP c4 7) (atP c4 8) (atP c4 9) (atP c4 10) (atP c4 11) (atP c4 12) (atP c4 13) (atP c4 14) (atP c4 15) (atP c4 16) (atP c5 0) (atP c5 1) (atP c5 2) (atP c5 3) (atP c5 4) (atP c5 5) (atP c5 6) (atP c5 7) (atP c5 8) (atP c5 9) (atP c5 10) (atP c5 11) (atP c5 12) (atP c5 13) (atP c5 14) (atP c5 15) (atP c5 16) (atP o6 0) v4 v5 v6 v7 v8 v9 v10 v11 v12 v13 v14 v15 v16 v17 v18 v19 v20 v21 v22 v23 v24 v25 v26 v27 v28 v29 v30 v31 v32 v33 v34 v35 v36 v37 v38 v39 v40 v41 v42 v43 v44 v45 v46 v47 v48 v49 v50 v51 v52 v53 v54))
    (x1k v0 v1 v2 v3 r2 r3 v4 v5 v6 v7 v8 v9 v10 v11 v12 v13 v14 v15 v16 v17 v18 v19 v20 v21 v22 v23 v24 v25 v26 v27 v28 v29 v30 v31 v32 v33 v34 v35 v36 v37 v38 v39 v40 v41 v42 v43 v44 v45 v46 v47 v48 v49 v50 v51 v52 v53 v54))
   (x2k v0 v1 v2 v3 v4 v5 v6 v7 v8 v9 v10 v11 v12 v13 v14 v15 v16 v17 v18 v19 v20 v21 v22 v23 v24 v25 v26 v27 v28 v29 v30 v31 v32 v33 v34 v35 v36 v37 v38 v39 v40 v41 v42 v43 v44 v45 v46 v47 v48 v49 v50 v51 v52 v53 v54)) v
def spec_ForkIn : GM
 | [.one a0, .one a1], k => 
  call spec_IsChain [.one a0] fun o0 =>
  unP .not (atP o0 0) fun r1 =>
  iteP r1
   (rt [.sc, .sc, .sc, .sc, .sc, .sc, .sc, .sc, .pv, .sc, .pv, .sc, .sc, .pv, .sc, .sc, .pv, .sc, .sc, .sc, .sc, .sc, .sc, .sc, .sc, .pv, .sc, .pv, .sc, .sc, .pv, .sc, .sc, .pv, .sc, .sc, .sc, .sc, .sc, .sc, .sc, .sc, .pv, .sc, .pv, .sc, .sc, .pv, .sc, .sc, .pv, .sc] [(I 0), (I 0), (I 0), (I 0), (I 0), (I 0), (I 0), (I 0), (.list 1 []), (I 0), (.list 1 []), (I 0), (I 0), (.list 1 []), (I 0), (.bool false), (.list 2 []), (I 0), (I 0), (I 0), (I 0), (I 0), (I 0), (I 0), (I 0), (.list 1 []), (I 0), (.list 1 []), (I 0), (I 0), (.list 1 []), (I 0), (.bool false), (.list 2 []), (I 0), (I 0), (I 0), (I 0), (I 0), (I 0), (I 0), (I 0), (.list 1 []), (I 0), (.list 1 []), (I 0), (I 0), (.list 1 []), (I 0), (.bool false), (.list 2 []), (.bool false)] k)
   (call spec_IsChain [.one a1] fun o2 =>
   unP .not (atP o2 0) fun r3 =>
   iteP r3
    (rt [.sc, .sc, .sc, .sc, .sc, .sc, .sc, .sc, .pv, .sc, .pv, .sc, .sc, .pv, .sc, .sc, .pv, .sc, .sc, .sc, .sc, .sc, .sc, .sc, .sc, .pv, .sc, .pv, .sc, .sc, .pv, .sc, .sc, .pv, .sc, .sc, .sc, .sc, .sc, .sc, .sc, .sc, .pv, .sc, .pv, .sc, .sc, .pv, .sc, .sc, .pv, .sc] [(I 0), (I 0), (I 0), (I 0), (I 0), (I 0), (I 0), (I 0), (.list 1 []), (I 0), (.list 1 []), (I 0), (I 0), (.list 1 []), (I 0), (.bool false), (.list 2 []), (I 0), (I 0), (I 0), (I 0), (I 0), (I 0), (I 0), (I 0), (.list 1 []), (I 0), (.list 1 []), (I 0), (I 0), (.list 1 []), (I 0), (.bool false), (.list 2 []), (I 0), (I 0), (I 0), (I 0), (I 0), (I 0), (I 0), (I 0), (.list 1 []), (I 0), (.list 1 []), (I 0), (I 0), (.list 1 []), (I 0), (.bool false), (.list 2 []), (.bool false)] k)
    (elemP 17 a0 (I 0) fun c4 =>
    elemP 17 a1 (I 0) fun c5 =>
    binP .neq (atP c4 0) (atP c5 0) fun r6 =>
    iteP r6
     (rt [.sc, .sc, .sc, .sc, .sc, .sc, .sc, .sc, .pv, .sc, .pv, .sc, .sc, .pv, .sc, .sc, .pv, .sc, .sc, .sc, .sc, .sc, .sc, .sc, .sc, .pv, .sc, .pv, .sc, .sc, .pv, .sc, .sc, .pv, .sc, .sc, .sc, .sc, .sc, .sc, .sc, .sc, .pv, .sc, .pv, .sc, .sc, .pv, .sc, .sc, .pv, .sc] [(I 0), (I 0), (I 0), (I 0), (I 0), (I 0), (I 0), (I 0), (.list 1 []), (I 0), (.list 1 []), (I 0), (I 0), (.list 1 []), (I 0), (.bool false), (.list 2 []), (I 0), (I 0), (I 0), (I 0), (I 0), (I 0), (I 0), (I 0), (.list 1 []), (I 0), (.list 1 []), (I 0), (I 0), (.list 1 []), (I 0), (.bool false), (.list 2 []), (I 0), (I 0), (I 0), (I 0), (I 0), (I 0), (I 0), (I 0), (.list 1 []), (I 0), (.list 1 []), (I 0), (I 0), (.list 1 []), (I 0), (.bool false), (.list 2 []), (.bool false)] k)
     (call spec_IsPrefix [.one a0, .one a1] fun o7 =>
     iteP (atP o7 0)
      (rt [.sc, .sc, .sc, .sc, .sc, .sc, .sc, .sc, .pv, .sc, .pv, .sc, .sc, .pv, .sc, .sc, .pv, .sc, .sc, .sc, .sc, .sc, .sc, .sc, .sc, .pv, .sc, .pv, .sc, .sc, .pv, .sc, .sc, .pv, .sc, .sc, .sc, .sc, .sc, .sc, .sc, .sc, .pv, .sc, .pv, .sc, .sc, .pv, .sc, .sc, .pv, .sc] [(I 0), (I 0), (I 0), (I 0), (I 0), (I 0), (I 0), (I 0), (.list 1 []), (I 0), (.list 1 []), (I 0), (I 0), (.list 1 []), (I 0), (.bool false), (.list 2 []), (I 0), (I 0), (I 0), (I 0), (I 0), (I 0), (I 0), (I 0), (.list 1 []), (I 0), (.list 1 []), (I 0), (I 0), (.list 1 []), (I 0), (.bool false), (.list 2 []), (I 0), (I 0), (I 0), (I 0), (I 0), (I 0), (I 0), (I 0), (.list 1 []), (I 0), (.list 1 []), (I 0), (I 0), (.list 1 []), (I 0), (.bool false), (.list 2 []), (.bool false)] k)
      (call spec_IsPrefix [.one a1, .one a0] fun o8 =>
      iteP (atP o8 0)
       (rt [.sc, .sc, .sc, .sc, .sc, .sc, .sc, .sc, .pv, .sc, .pv, .sc, .sc, .pv, .sc, .sc, .pv, .sc, .sc, .sc, .sc, .sc, .sc, .sc, .sc, .pv, .sc, .pv, .sc, .sc, .pv, .sc, .sc, .pv, .sc, .sc, .sc, .sc, .sc, .sc, .sc, .sc, .pv, .sc, .pv, .sc, .sc, .pv, .sc, .sc, .pv, .sc] [(I 0), (I 0), (I 0), (I 0), (I 0), (I 0), (I 0), (I 0), (.list 1 []), (I 0), (.list 1 []), (I 0), (I 0), (.list 1 []), (I 0), (.bool false), (.list 2 []), (I 0), (I 0), (I 0), (I 0), (I 0), (I 0), (I 0), (I 0), (.list 1 []), (I 0), (.list 1 []), (I 0), (I 0), (.list 1 []), (I 0), (.bool false), (.list 2 []), (I 0), (I 0), (I 0), (I 0), (I 0), (I 0), (I 0), (I 0), (.list 1 []), (I 0), (.list 1 []), (I 0), (I 0), (.list 1 []), (I 0), (.bool false), (.list 2 []), (.bool false)] k)
       (lp (fun L w => spec_ForkIn_r0 w L
        (fun q9 q10 q11 q12 q13 q14 q15 q16 q17 q18 q19 q20 q21 q22 q23 q24 q25 q26 q27 q28 q29 q30 q31 q32 q33 q34 q35 q36 q37 q38 q39 q40 q41 q42 q43 q44 q45 q46 q47 q48 q49 q50 q51 q52 q53 q54 q55 q56 q57 q58 q59 q60 q61 q62 q63 q64 q65 q66 q67 q68 q69 q70 q71 q72 q73 q74 q75 q76 q77 q78 q79 q80 q81 q82 q83 q84 q85 q86 q87 q88 q89 q90 q91 q92 q93 q94 q95 q96 q97 q98 q99 q100 => elemP 17 q9 q12 fun c101 =>
         call spec_l14Copy [.agg [(atP c101 0), (atP c101 1), (atP c101 2), (atP c101 3), (atP c101 4), (atP c101 5), (atP c101 6), (atP c101 7), (atP c101 8), (atP c101 9), (atP c101 10), (atP c101 11), (atP c101 12), (atP c101 13), (atP c101 14), (atP c101 15), (atP c101 16)]] fun o102 =>
         elemP 17 q10 q12 fun c103 =>
         call spec_l14Copy [.agg [(atP c103 0), (atP c103 1), (atP c103 2), (atP c103 3), (atP c103 4), (atP c103 5), (atP c103 6), (atP c103 7), (atP c103 8), (atP c103 9), (atP c103 10), (atP c103 11), (atP c103 12), (atP c103 13), (atP c103 14), (atP c103 15), (atP c103 16)]] fun o104 =>
         binP .gtr q12 (I 0) fun r105 =>
         iteP r105
          (binP .sub q12 (I 1) fun r106 =>
          elemP 17 q9 r106 fun c107 =>
          call spec_l14Copy [.agg [(atP c107 0), (atP c107 1), (atP c107 2), (atP c107 3), (atP c107 4), (atP c107 5), (atP c107 6), (atP c107 7), (atP c107 8), (atP c107 9), (atP c107 10), (atP c107 11), (atP c107 12), (atP c107 13), (atP c107 14), (atP c107 15), (atP c107 16)]] fun o108 =>
          rt [.sc, .sc, .sc, .sc, .sc, .sc, .sc, .sc, .pv, .sc, .pv, .sc, .sc, .pv, .sc, .sc, .pv, .sc, .sc, .sc, .sc, .sc, .sc, .sc, .sc, .pv, .sc, .pv, .sc, .sc, .pv, .sc, .sc, .pv, .sc, .sc, .sc, .sc, .sc, .sc, .sc, .sc, .pv, .sc, .pv, .sc, .sc, .pv, .sc, .sc, .pv, .sc] [(atP o108 0), (atP o108 1), (atP o108 2), (atP o108 3), (atP o108 4), (atP o108 5), (atP o108 6), (atP o108 7), (atP o108 8), (atP o108 9), (atP o108 10), (atP o108 11), (atP o108 12), (atP o108 13), (atP o108 14), (atP o108 15), (atP o108 16), (atP o102 0), (atP o102 1), (atP o102 2), (atP o102 3), (atP o102 4), (atP o102 5), (atP o102 6), (atP o102 7), (atP o102 8), (atP o102 9), (atP o102 10), (atP o102 11), (atP o102 12), (atP o102 13), (atP o102 14), (atP o102 15), (atP o102 16), (atP o104 0), (atP o104 1), (atP o104 2), (atP o104 3), (atP o104 4), (atP o104 5), (atP o104 6), (atP o104 7), (atP o104 8), (atP o104 9), (atP o104 10), (atP o104 11), (atP o104 12), (atP o104 13), (atP o104 14), (atP o104 15), (atP o104 16), (.bool true)] k)
          (rt [.sc, .sc, .sc, .sc, .sc, .sc, .sc, .sc, .pv, .sc, .pv, .sc, .sc, .pv, .sc, .sc, .pv, .sc, .sc, .sc, .sc, .sc, .sc, .sc, .sc, .pv, .sc, .pv, .sc, .sc, .pv, .sc, .sc, .pv, .sc, .sc, .sc, .sc, .sc, .sc, .sc, .sc, .pv, .sc, .pv, .sc, .sc, .pv, .sc, .sc, .pv, .sc] [(I 0), (I 0), (I 0), (I 0), (I 0), (I 0), (I 0), (I 0), (.list 1 []), (I 0), (.list 1 []), (I 0), (I 0), (.list 1 []), (I 0), (.bool false), (.list 2 []), (atP o102 0), (atP o102 1), (atP o102 2), (atP o102 3), (atP o102 4), (atP o102 5), (atP o102 6), (atP o102 7), (atP o102 8), (atP o102 9), (atP o102 10), (atP o102 11), (atP o102 12), (atP o102 13), (atP o102 14), (atP o102 15), (atP o102 16), (atP o104 0), (atP o104 1), (atP o104 2), (atP o104 3), (atP o104 4), (atP o104 5), (atP o104 6), (atP o104 7), (atP o104 8), (atP o104 9), (atP o104 10), (atP o104 11), (atP o104 12), (atP o104 13), (atP o104 14), (atP o104 15), (atP o104 16), (.bool true)] k))
        (fun q109 q110 q111 q112 q113 q114 q115 q116 q117 q118 q119 q120 q121 q122 q123 q124 q125 q126 q127 q128 q129 q130 q131 q132 q133 q134 q135 q136 q137 q138 q139 q140 q141 q142 q143 q144 q145 q146 q147 q148 q149 q150 q151 q152 q153 q154 q155 q156 q157 q158 q159 q160 q161 q162 q163 q164 q165 => elemP 17 q109 q112 fun c166 =>
         call spec_l14Copy [.agg [(atP c166 0), (atP c166 1), (atP c166 2), (atP c166 3), (atP c166 4), (atP c166 5), (atP c166 6), (atP c166 7), (atP c166 8), (atP c166 9), (atP c166 10), (atP c166 11), (atP c166 12), (atP c166 13), (atP c166 14), (atP c166 15), (atP c166 16)]] fun o167 =>
         elemP 17 q110 q112 fun c168 =>
         call spec_l14Copy [.agg [(atP c168 0), (atP c168 1), (atP c168 2), (atP c168 3), (atP c168 4), (atP c168 5), (atP c168 6), (atP c168 7), (atP c168 8), (atP c168 9), (atP c168 10), (atP c168 11), (atP c168 12), (atP c168 13), (atP c168 14), (atP c168 15), (atP c168 16)]] fun o169 =>
         binP .gtr q112 (I 0) fun r170 =>
         iteP r170
          (binP .sub q112 (I 1) fun r171 =>
          elemP 17 q109 r171 fun c172 =>
          call spec_l14Copy [.agg [(atP c172 0), (atP c172 1), (atP c172 2), (atP c172 3), (atP c172 4), (atP c172 5), (atP c172 6), (atP c172 7), (atP c172 8), (atP c172 9), (atP c172 10), (atP c172 11), (atP c172 12), (atP c172 13), (atP c172 14), (atP c172 15), (atP c172 16)]] fun o173 =>
          rt [.sc, .sc, .sc, .sc, .sc, .sc, .sc, .sc, .pv, .sc, .pv, .sc, .sc, .pv, .sc, .sc, .pv, .sc, .sc, .sc, .sc, .sc, .sc, .sc, .sc, .pv, .sc, .pv, .sc, .sc, .pv, .sc, .sc, .pv, .sc, .sc, .sc, .sc, .sc, .sc, .sc, .sc, .pv, .sc, .pv, .sc, .sc, .pv, .sc, .sc, .pv, .sc] [(atP o173 0), (atP o173 1), (atP o173 2), (atP o173 3), (atP o173 4), (atP o173 5), (atP o173 6), (atP o173 7), (atP o173 8), (atP o173 9), (atP o173 10), (atP o173 11), (atP o173 12), (atP o173 13), (atP o173 14), (atP o173 15), (atP o173 16), (atP o167 0), (atP o167 1), (atP o167 2), (atP o167 3), (atP o167 4), (atP o167 5), (atP o167 6), (atP o167 7), (atP o167 8), (atP o167 9), (atP o167 10), (atP o167 11), (atP o167 12), (atP o167 13), (atP o167 14), (atP o167 15), (atP o167 16), (atP o169 0), (atP o169 1), (atP o169 2), (atP o169 3), (atP o169 4), (atP o169 5), (atP o169 6), (atP o169 7), (atP o169 8), (atP o169 9), (atP o169 10), (atP o169 11), (atP o169 12), (atP o169 13), (atP o169 14), (atP o169 15), (atP o169 16), (.bool true)] k)
          (rt [.sc, .sc, .sc, .sc, .sc, .sc, .sc, .sc, .pv, .sc, .pv, .sc, .sc, .pv, .sc, .sc, .pv, .sc, .sc, .sc, .sc, .sc, .sc, .sc, .sc, .pv, .sc, .pv, .sc, .sc, .pv, .sc, .sc, .pv, .sc, .sc, .sc, .sc, .sc, .sc, .sc, .sc, .pv, .sc, .pv, .sc, .sc, .pv, .sc, .sc, .pv, .sc] [(I 0), (I 0), (I 0), (I 0), (I 0), (I 0), (I 0), (I 0), (.list 1 []), (I 0), (.list 1 []), (I 0), (I 0), (.list 1 []), (I 0), (.bool false), (.list 2 []), (atP o167 0), (atP o167 1), (atP o167 2), (atP o167 3), (atP o167 4), (atP o167 5), (atP o167 6), (atP o167 7), (atP o167 8), (atP o167 9), (atP o167 10), (atP o167 11), (atP o167 12), (atP o167 13), (atP o167 14), (atP o167 15), (atP o167 16), (atP o169 0), (atP o169 1), (atP o169 2), (atP o169 3), (atP o169 4), (atP o169 5), (atP o169 6), (atP o169 7), (atP o169 8), (atP o169 9), (atP o169 10), (atP o169 11), (atP o169 12), (atP o169 13), (atP o169 14), (atP o169 15), (atP o169 16), (.bool true)] k))
        (fun q174 q175 q176 q177 q178 q179 q180 q181 q182 q183 q184 q185 q186 q187 q188 q189 q190 q191 q192 q193 q194 q195 q196 q197 q198 q199 q200 q201 q202 q203 q204 q205 q206 q207 q208 q209 q210 q211 q212 q213 q214 q215 q216 q217 q218 q219 q220 q221 q222 q223 q224 q225 q226 q227 q228 => elemP 17 q174 q177 fun c229 =>
         call spec_l14Copy [.agg [(atP c229 0), (atP c229 1), (atP c229 2), (atP c229 3), (atP c229 4), (atP c229 5), (atP c229 6), (atP c229 7), (atP c229 8), (atP c229 9), (atP c229 10), (atP c229 11), (atP c229 12), (atP c229 13), (atP c229 14), (atP c229 15), (atP c229 16)]] fun o230 =>
         elemP 17 q175 q177 fun c231 =>
         call spec_l14Copy [.agg [(atP c231 0), (atP c231 1), (atP c231 2), (atP c231 3), (atP c231 4), (atP c231 5), (atP c231 6), (atP c231 7), (atP c231 8), (atP c231 9), (atP c231 10), (atP c231 11), (atP c231 12), (atP c231 13), (atP c231 14), (atP c231 15), (atP c231 16)]] fun o232 =>
         binP .gtr q177 (I 0) fun r233 =>
         iteP r233
          (binP .sub q177 (I 1) fun r234 =>
          elemP 17 q174 r234 fun c235 =>
          call spec_l14Copy [.agg [(atP c235 0), (atP c235 1), (atP c235 2), (atP c235 3), (atP c235 4), (atP c235 5), (atP c235 6), (atP c235 7), (atP c235 8), (atP c235 9), (atP c235 10), (atP c235 11), (atP c235 12), (atP c235 13), (atP c235 14), (atP c235 15), (atP c235 16)]] fun o236 =>
          rt [.sc, .sc, .sc, .sc, .sc, .sc, .sc, .sc, .pv, .sc, .pv, .sc, .sc, .pv, .sc, .sc, .pv, .sc, .sc, .sc, .sc, .sc, .sc, .sc, .sc, .pv, .sc, .pv, .sc, .sc, .pv, .sc, .sc, .pv, .sc, .sc, .sc, .sc, .sc, .sc, .sc, .sc, .pv, .sc, .pv, .sc, .sc, .pv, .sc, .sc, .pv, .sc] [(atP o236 0), (atP o236 1), (atP o236 2), (atP o236 3), (atP o236 4), (atP o236 5), (atP o236 6), (atP o236 7), (atP o236 8), (atP o236 9), (atP o236 10), (atP o236 11), (atP o236 12), (atP o236 13), (atP o236 14), (atP o236 15), (atP o236 16), (atP o230 0), (atP o230 1), (atP o230 2), (atP o230 3), (atP o230 4), (atP o230 5), (atP o230 6), (atP o230 7), (atP o230 8), (atP o230 9), (atP o230 10), (atP o230 11), (atP o230 12), (atP o230 13), (atP o230 14), (atP o230 15), (atP o230 16), (atP o232 0), (atP o232 1), (atP o232 2), (atP o232 3), (atP o232 4), (atP o232 5), (atP o232 6), (atP o232 7), (atP o232 8), (atP o232 9), (atP o232 10), (atP o232 11), (atP o232 12), (atP o232 13), (atP o232 14), (atP o232 15), (atP o232 16), (.bool true)] k)
          (rt [.sc, .sc, .sc, .sc, .sc, .sc, .sc, .sc, .pv, .sc, .pv, .sc, .sc, .pv, .sc, .sc, .pv, .sc, .sc, .sc, .sc, .sc, .sc, .sc, .sc, .pv, .sc, .pv, .sc, .sc, .pv, .sc, .sc, .pv, .sc, .sc, .sc, .sc, .sc, .sc, .sc, .sc, .pv, .sc, .pv, .sc, .sc, .pv, .sc, .sc, .pv, .sc] [(I 0), (I 0), (I 0), (I 0), (I 0), (I 0), (I 0), (I 0), (.list 1 []), (I 0), (.list 1 []), (I 0), (I 0), (.list 1 []), (I 0), (.bool false), (.list 2 []), (atP o230 0), (atP o230 1), (atP o230 2), (atP o230 3), (atP o230 4), (atP o230 5), (atP o230 6), (atP o230 7), (atP o230 8), (atP o230 9), (atP o230 10), (atP o230 11), (atP o230 12), (atP o230 13), (atP o230 14), (atP o230 15), (atP o230 16), (atP o232 0), (atP o232 1), (atP o232 2), (atP o232 3), (atP o232 4), (atP o232 5), (atP o232 6), (atP o232 7), (atP o232 8), (atP o232 9), (atP o232 10), (atP o232 11), (atP o232 12), (atP o232 13), (atP o232 14), (atP o232 15), (atP o232 16), (.bool true)] k))) [a0, a1, (.bool false), (I 0), (I 0), (I 0), (I 0), (I 0), (I 0), (I 0), (I 0), (I 0), (I 0), (I 0), (I 0), (I 0), (.bool false), (I 0), (I 0), (I 0), (I 0), (I 0), (I 0), (I 0), (I 0), (I 0), (I 0), (I 0), (I 0), (.bool false), (I 0), (I 0), (I 0), (I 0), (I 0), (I 0), (I 0), (I 0), (I 0), (I 0), (I 0), (I 0), (.bool false), (.list 2 []), (.list 1 []), (.list 1 []), (.list 1 []), (.list 2 []), (.list 1 []), (.list 1 []), (.list 1 []), (.list 2 []), (.list 1 []), (.list 1 []), (.list 1 [])])))))
 | _, _ => False
abbrev spec_ForkIn_e : Ent := ⟨[139], spec_ForkIn⟩
def spec_ForkIn_l : List LE := [⟨0, ⟨[(0, .one (.pv (.bool false))), (1, .one (.pv (.bool false))), (4, .one (.ptr 0 0)), (5, .one (.pv (.bool false))), (6, .one (.pv (.bool false)))], [(0, [.pv (.bool false), .pv (.bool false), .pv (.bool false), .pv (.bool false), .pv (.bool false), .pv (.bool false), .pv (.bool false), .pv (.bool false), .own 5, .pv (.bool false), .own 6, .pv (.bool false), .pv (.bool false), .own 7, .pv (.bool false), .pv (.bool false), .own 8, .pv (.bool false), .pv (.bool false), .pv (.bool false), .pv (.bool false), .pv (.bool false), .pv (.bool false), .pv (.bool false), .pv (.bool false), .own 9, .pv (.bool false), .own 10, .pv (.bool false), .pv (.bool false), .own 11, .pv (.bool false), .pv (.bool false), .own 12, .pv (.bool false), .pv (.bool false), .pv (.bool false), .pv (.bool false), .pv (.bool false), .pv (.bool false), .pv (.bool false), .pv (.bool false), .own 13, .pv (.bool false), .own 14, .pv (.bool false), .pv (.bool false), .own 15, .pv (.bool false), .pv (.bool false), .own 16])], [(16, ⟨.deep, 251, 2, (.bool false)⟩), (15, ⟨.deep, 3, 1, (.bool false)⟩), (14, ⟨.deep, 3, 1, (.bool false)⟩), (13, ⟨.deep, 3, 1, (.bool false)⟩), (12, ⟨.deep, 251, 2, (.bool false)⟩), (11, ⟨.deep, 3, 1, (.bool false)⟩), (10, ⟨.deep, 3, 1, (.bool false)⟩), (9, ⟨.deep, 3, 1, (.bool false)⟩), (8, ⟨.deep, 251, 2, (.bool false)⟩), (7, ⟨.deep, 3, 1, (.bool false)⟩), (6, ⟨.deep, 3, 1, (.bool false)⟩), (5, ⟨.deep, 3, 1, (.bool false)⟩)], 17, 86⟩, fun K k v => spec_ForkIn_r0 v K (fun x0 x1 x2 x3 x4 x5 x6 x7 x8 x9 x10 x11 x12 x13 x14 x15 x16 x17 x18 x19 x20 x21 x22 x23 x24 x25 x26 x27 x28 x29 x30 x31 x32 x33 x34 x35 x36 x37 x38 x39 x40 x41 x42 x43 x44 x45 x46 x47 x48 x49 x50 x51 x52 x53 x54 x55 x56 x57 x58 x59 x60 x61 x62 x63 x64 x65 x66 x67 x68 x69 x70 x71 x72 x73 x74 x75 x76 x77 x78 x79 x80 x81 x82 x83 x84 x85 x86 x87 x88 x89 x90 x91 => k (.exit 0) ⟨[(0, .one (.pv x0)), (1, .one (.pv x1)), (4, .one (.ptr 0 0)), (5, .one (.pv x2)), (6, .one (.pv x3)), (45, .one (.pv x3)), (46, .one (.pv x1)), (47, .one (.pv x4)), (48, .one (.pv x5)), (51, .one (.pv x0)), (52, .one (.pv x3)), (53, .one (.sptr [x6, x7, x8, x9, x10, x11, x12, x13, x14, x15, x16, x17, x18, x19, x20, x21, x22])), (54, .one (.sptr [x6, x7, x8, x9, x10, x11, x12, x13, x14, x15, x16, x17, x18, x19, x20, x21, x22])), (55, .agg [.pv x6, .pv x7, .pv x8, .pv x9, .pv x10, .pv x11, .pv x12, .pv x13, .pv x14, .pv x15, .pv x16, .pv x17, .pv x18, .pv x19, .pv x20, .pv x21]), (56, .one (.pv x1)), (57, .one (.pv x3)), (58, .one (.sptr [x23, x24, x25, x26, x27, x28, x29, x30, x31, x32, x33, x34, x35, x36, x37, x38, x39])), (59, .one (.sptr [x23, x24, x25, x26, x27, x28, x29, x30, x31, x32, x33, x34, x35, x36, x37, x38, x39])), (60, .agg [.pv x23, .pv x24, .pv x25, .pv x26, .pv x27, .pv x28, .pv x29, .pv x30, .pv x31, .pv x32, .pv x33, .pv x34, .pv x35, .pv x36, .pv x37, .pv x38]), (61, .one (.pv x40))], [(0, [.pv x41, .pv x42, .pv x43, .pv x44, .pv x45, .pv x46, .pv x47, .pv x48, .own 5, .pv x49, .own 6, .pv x50, .pv x51, .own 7, .pv x52, .pv x53, .own 8, .pv x54, .pv x55, .pv x56, .pv x57, .pv x58, .pv x59, .pv x60, .pv x61, .own 9, .pv x62, .own 10, .pv x63, .pv x64, .own 11, .pv x65, .pv x66, .own 12, .pv x67, .pv x68, .pv x69, .pv x70, .pv x71, .pv x72, .pv x73, .pv x74, .own 13, .pv x75, .own 14, .pv x76, .pv x77, .own 15, .pv x78, .pv x79, .own 16])], [(16, ⟨.deep, 251, 2, x80⟩), (15, ⟨.deep, 3, 1, x81⟩), (14, ⟨.deep, 3, 1, x82⟩), (13, ⟨.deep, 3, 1, x83⟩), (12, ⟨.deep, 251, 2, x84⟩), (11, ⟨.deep, 3, 1, x85⟩), (10, ⟨.deep, 3, 1, x86⟩), (9, ⟨.deep, 3, 1, x87⟩), (8, ⟨.deep, 251, 2, x88⟩), (7, ⟨.deep, 3, 1, x89⟩), (6, ⟨.deep, 3, 1, x90⟩), (5, ⟨.deep, 3, 1, x91⟩)], 18, 86⟩) (fun x0 x1 x2 x3 x4 x5 x6 x7 x8 x9 x10 x11 x12 x13 x14 x15 x16 x17 x18 x19 x20 x21 x22 x23 x24 x25 x26 x27 x28 x29 x30 x31 x32 x33 x34 x35 x36 x37 x38 x39 x40 x41 x42 x43 x44 x45 x46 x47 x48 x49 x50 x51 x52 x53 x54 x55 x56 => k (.exit 0) ⟨[(0, .one (.pv x0)), (1, .one (.pv x1)), (4, .one (.ptr 0 0)), (5, .one (.pv x2)), (6, .one (.pv x3)), (45, .one (.pv x3)), (46, .one (.pv x1)), (47, .one (.pv x4)), (48, .one (.pv x5)), (51, .undef), (52, .undef), (53, .undef), (54, .undef), (55, .undef), (56, .undef), (57, .undef), (58, .undef), (59, .undef), (60, .undef), (61, .undef)], [(0, [.pv x6, .pv x7, .pv x8, .pv x9, .pv x10, .pv x11, .pv x12, .pv x13, .own 5, .pv x14, .own 6, .pv x15, .pv x16, .own 7, .pv x17, .pv x18, .own 8, .pv x19, .pv x20, .pv x21, .pv x22, .pv x23, .pv x24, .pv x25, .pv x26, .own 9, .pv x27, .own 10, .pv x28, .pv x29, .own 11, .pv x30, .pv x31, .own 12, .pv x32, .pv x33, .pv x34, .pv x35, .pv x36, .pv x37, .pv x38, .pv x39, .own 13, .pv x40, .own 14, .pv x41, .pv x42, .own 15, .pv x43, .pv x44, .own 16])], [(16, ⟨.deep, 251, 2, x45⟩), (15, ⟨.deep, 3, 1, x46⟩), (14, ⟨.deep, 3, 1, x47⟩), (13, ⟨.deep, 3, 1, x48⟩), (12, ⟨.deep, 251, 2, x49⟩), (11, ⟨.deep, 3, 1, x50⟩), (10, ⟨.deep, 3, 1, x51⟩), (9, ⟨.deep, 3, 1, x52⟩), (8, ⟨.deep, 251, 2, x53⟩), (7, ⟨.deep, 3, 1, x54⟩), (6, ⟨.deep, 3, 1, x55⟩), (5, ⟨.deep, 3, 1, x56⟩)], 17, 86⟩) (fun x0 x1 x2 x3 x4 x5 x6 x7 x8 x9 x10 x11 x12 x13 x14 x15 x16 x17 x18 x19 x20 x21 x22 x23 x24 x25 x26 x27 x28 x29 x30 x31 x32 x33 x34 x35 x36 x37 x38 x39 x40 x41 x42 x43 x44 x45 x46 x47 x48 x49 x50 x51 x52 x53 x54 => k (.exit 0) ⟨[(0, .one (.pv x0)), (1, .one (.pv x1)), (4, .one (.ptr 0 0)), (5, .one (.pv x2)), (6, .one (.pv x3)), (45, .undef), (46, .undef), (47, .undef), (48, .undef), (51, .undef), (52, .undef), (53, .undef), (54, .undef), (55, .undef), (56, .undef), (57, .undef), (58, .undef), (59, .undef), (60, .undef), (61, .undef)], [(0, [.pv x4, .pv x5, .pv x6, .pv x7, .pv x8, .pv x9, .pv x10, .pv x11, .own 5, .pv x12, .own 6, .pv x13, .pv x14, .own 7, .pv x15, .pv x16, .own 8, .pv x17, .pv x18, .pv x19, .pv x20, .pv x21, .pv x22, .pv x23, .pv x24, .own 9, .pv x25, .own 10, .pv x26, .pv x27, .own 11, .pv x28, .pv x29, .own 12, .pv x30, .pv x31, .pv x32, .pv x33, .pv x34, .pv x35, .pv x36, .pv x37, .own 13, .pv x38, .own 14, .pv x39, .pv x40, .own 15, .pv x41, .pv x42, .own 16])], [(16, ⟨.deep, 251, 2, x43⟩), (15, ⟨.deep, 3, 1, x44⟩), (14, ⟨.deep, 3, 1, x45⟩), (13, ⟨.deep, 3, 1, x46⟩), (12, ⟨.deep, 251, 2, x47⟩), (11, ⟨.deep, 3, 1, x48⟩), (10, ⟨.deep, 3, 1, x49⟩), (9, ⟨.deep, 3, 1, x50⟩), (8, ⟨.deep, 251, 2, x51⟩), (7, ⟨.deep, 3, 1, x52⟩), (6, ⟨.deep, 3, 1, x53⟩), (5, ⟨.deep, 3, 1, x54⟩)], 17, 86⟩)⟩]
theorem spec_ForkIn_s : LEsOK (orac [spec_IsChain_e, spec_IsPrefix_e, spec_EqualHeads_e, spec_l14Copy_e]) TT (kk [0, 1, 4, 5, 6, 45, 46, 47, 48, 51, 52, 53, 54, 55, 56, 57, 58, 59, 60, 61]) (sumsOf spec_ForkIn_l) Tryz.f139 spec_ForkIn_l := ⟨fun v K k h => by
  apply un_all h; exact fun v0 v1 v2 v3 v4 v5 v6 v7 v8 v9 v10 v11 v12 v13 v14 v15 v16 v17 v18 v19 v20 v21 v22 v23 v24 v25 v26 v27 v28 v29 v30 v31 v32 v33 v34 v35 v36 v37 v38 v39 v40 v41 v42 v43 v44 v45 v46 v47 v48 v49 v50 v51 v52 v53 v54 h => Eq.mpr (by kernel_rfl) h
  , trivial⟩
theorem spec_ForkIn_w : EntOK Tryz.prog TT spec_ForkIn_e := ent_ok tabok (L := [spec_IsChain_e, spec_IsPrefix_e, spec_EqualHeads_e, spec_l14Copy_e]) ⟨spec_IsChain_w, spec_IsPrefix_w, spec_EqualHeads_w, spec_l14Copy_w, trivial⟩ (keep := (kk [0, 1, 4, 5, 6, 45, 46, 47, 48, 51, 52, 53, 54, 55, 56, 57, 58, 59, 60, 61])) (l := spec_ForkIn_l) Tryz.func139 (by kernel_rfl) (sg := [.agg [.sc, .sc, .sc, .sc, .sc, .sc, .sc, .sc, .pv, .sc, .pv, .sc, .sc, .pv, .sc, .sc, .pv, .sc, .sc, .sc, .sc, .sc, .sc, .sc, .sc, .pv, .sc, .pv, .sc, .sc, .pv, .sc, .sc, .pv, .sc, .sc, .sc, .sc, .sc, .sc, .sc, .sc, .pv, .sc, .pv, .sc, .sc, .pv, .sc, .sc, .pv], .one (.sc)]) (by kernel_rfl) spec_ForkIn_s fun av k h => by
  unfold spec_ForkIn at h; split at h
  · exact Eq.mpr (by kernel_rfl) h
  · exact h.elim

def spec_CountForks_r1 (v : List PV) (K : List PV → Prop) (x0k : PV → PV → PV → PV → PV → PV → PV → PV → PV → PV → PV → PV → Prop) : Prop :=
 un 12 (fun v0 v1 v2 v3 v4 v5 v6 v7 v8 v9 v10 v11 =>
  lenP v7 fun r0 =>
  binP .lss v3 r0 fun r1 =>
  iteP r1
   (elemP 3 v7 v2 fun c2 =>
   elemP 3 v7 v3 fun c3 =>
   call spec_ForkIn [.one (atP c2 0), .one (atP c3 0)] fun o4 =>
   iteP (atP o4 51)
    (binP .add v1 (I 1) fun r5 =>
    binP .add v3 (I 1) fun r6 =>
    K [v0, r5, v2, r6, v4, v5, v6, v7, v8, v9, v10, v11])
    (binP .add v3 (I 1) fun r7 =>
    K [v0, v1, v2, r7, v4, v5, v6, v7, v8, v9, v10, v11]))
   (x0k v0 v1 v2 v3 v4 v5 v6 v7 v8 v9 v10 v11)) v
def spec_CountForks_r0 (v : List PV) (K : List PV → Prop) (x0k : PV → PV → PV → PV → PV → PV → PV → PV → PV → PV → PV → Prop) : Prop :=
 un 11 (fun v0 v1 v2 v3 v4 v5 v6 v7 v8 v9 v10 =>
  lenP v6 fun r0 =>
  binP .lss v2 r0 fun r1 =>
  iteP r1
   (binP .add v2 (I 1) fun r2 =>
   lp (fun L w => spec_CountForks_r1 w L
    (fun q8 q9 q10 q11 q12 q13 q14 q15 q16 q17 q18 q19 => binP .add q10 (I 1) fun r20 =>
     K [q8, q9, r20, q12, q13, q14, q15, q16, q17, q18, q19])) [v0, v1, v2, r2, v3, v4, v5, v6, v7, v8, v9, v10])
   (x0k v0 v1 v2 v3 v4 v5 v6 v7 v8 v9 v10)) v
def spec_CountForks : GM
 | [.agg u0], k => un 8 (fun a0 a1 a2 a3 a4 a5 a6 a7 => 
  lp (fun L w => spec_CountForks_r0 w L
   (fun q21 q22 q23 q24 q25 q26 q27 q28 q29 q30 q31 => rt [.sc] [q22] k)) [(I 0), (I 0), (I 0), a0, a1, a2, a3, a4, a5, a6, a7]) u0
 | _, _ => False
abbrev spec_CountForks_e : Ent := ⟨[46], spec_CountForks⟩
def spec_CountForks_l : List LE := [⟨1, ⟨[(1, .one (.ptr 0 0)), (2, .one (.pv (.bool false))), (3, .one (.pv (.bool false))), (4, .one (.pv (.bool false))), (5, .one (.pv (.bool false)))], [(0, [.pv (.bool false), .pv (.bool false), .pv (.bool false), .pv (.bool false), .pv (.bool false), .pv (.bool false), .pv (.bool false), .pv (.bool false)])], [], 1, 46⟩, fun K k v => spec_CountForks_r1 v K (fun x0 x1 x2 x3 x4 x5 x6 x7 x8 x9 x10 x11 => k (.exit 2) ⟨[(1, .one (.ptr 0 0)), (2, .one (.pv x0)), (3, .one (.pv x1)), (4, .one (.pv x2)), (5, .one (.pv x3))], [(0, [.pv x4, .pv x5, .pv x6, .pv x7, .pv x8, .pv x9, .pv x10, .pv x11])], [], 1, 46⟩)⟩,
  ⟨0, ⟨[(1, .one (.ptr 0 0)), (2, .one (.pv (.bool false))), (3, .one (.pv (.bool false))), (4, .one (.pv (.bool false)))], [(0, [.pv (.bool false), .pv (.bool false), .pv (.bool false), .pv (.bool false), .pv (.bool false), .pv (.bool false), .pv (.bool false), .pv (.bool false)])], [], 1, 46⟩, fun K k v => spec_CountForks_r0 v K (fun x0 x1 x2 x3 x4 x5 x6 x7 x8 x9 x10 => k (.exit 0) ⟨[(1, .one (.ptr 0 0)), (2, .one (.pv x0)), (3, .one (.pv x1)), (4, .one (.pv x2))], [(0, [.pv x3, .pv x4, .pv x5, .pv x6, .pv x7, .pv x8, .pv x9, .pv x10])], [], 1, 46⟩)⟩]
theorem spec_CountForks_s : LEsOK (orac [spec_ForkIn_e]) TT (kk [1, 2, 3, 4, 5]) (sumsOf spec_CountForks_l) Tryz.f46 spec_CountForks_l := ⟨fun v K k h => by
  apply un_all h; exact fun v0 v1 v2 v3 v4 v5 v6 v7 v8 v9 v10 v11 h => Eq.mpr (by kernel_rfl) h
  , fun v K k h => by
  apply un_all h; exact fun v0 v1 v2 v3 v4 v5 v6 v7 v8 v9 v10 h => Eq.mpr (by kernel_rfl) h
  , trivial⟩
theorem spec_CountForks_w : EntOK Tryz.prog TT spec_CountForks_e := ent_ok tabok (L := [spec_ForkIn_e]) ⟨spec_ForkIn_w, trivial⟩ (keep := (kk [1, 2, 3, 4, 5])) (l := spec_CountForks_l) Tryz.func46 (by kernel_rfl) (sg := [.one (.sc)]) (by kernel_rfl) spec_CountForks_s fun av k h => by
  unfold spec_CountForks at h; split at h
  · apply un_all h; clear h; intro a0 a1 a2 a3 a4 a5 a6 a7 h; exact Eq.mpr (by kernel_rfl) h
  · exact h.elim

def impl_InRange : GM
 | [.one a0, .one a1, .one a2], k => 
  binP .leq a1 a0 fun r0 =>
  iteP r0
   (binP .leq a0 a2 fun r1 =>
   rt [.sc] [r1] k)
   (rt [.sc] [(.bool false)] k)
 | _, _ => False
abbrev impl_InRange_e : Ent := ⟨[159], impl_InRange⟩
theorem impl_InRange_w : EntOK Tryz.prog TT impl_InRange_e := ent_ok tabok (L := []) trivial (keep := []) (l := []) Tryz.func159 (by kernel_rfl) (sg := [.one (.sc)]) (by kernel_rfl) trivial fun av k h => by
  unfold impl_InRange at h; split at h
  · exact Eq.mpr (by kernel_rfl) h
  · exact h.elim

def impl_isDigest : GM
 | [.one a0], k => 
  call impl_InRange [.one a0, .one (I 0), .one (I 2147483646)] fun o0 =>
  rt [.sc] [(atP o0 0)] k
 | _, _ => False
abbrev impl_isDigest_e : Ent := ⟨[352], impl_isDigest⟩
theorem impl_isDigest_w : EntOK Tryz.prog TT impl_isDigest_e := ent_ok tabok (L := [impl_InRange_e]) ⟨impl_InRange_w, trivial⟩ (keep := []) (l := []) Tryz.func352 (by kernel_rfl) (sg := [.one (.sc)]) (by kernel_rfl) trivial fun av k h => by
  unfold impl_isDigest at h; split at h
  · exact Eq.mpr (by kernel_rfl) h
  · exact h.elim

def impl_isSpan : GM
 | [.agg u0], k => un 16 (fun a0 a1 a2 a3 a4 a5 a6 a7 a8 a9 a10 a11 a12 a13 a14 a15 => 
  binP .geq a3 (I 0) fun r0 =>
  iteP r0
   (binP .leq a3 a4 fun r1 =>
   iteP r1
    (binP .leq a4 (I 100000) fun r2 =>
    iteP r2
     (binP .sub a4 a3 fun r3 =>
     binP .leq r3 (I 200) fun r4 =>
     rt [.sc] [r4] k)
     (rt [.sc] [(.bool false)] k))
    (rt [.sc] [(.bool false)] k))
   (rt [.sc] [(.bool false)] k)) u0
 | _, _ => False
abbrev impl_isSpan_e : Ent := ⟨[364], impl_isSpan⟩
theorem impl_isSpan_w : EntOK Tryz.prog TT impl_isSpan_e := ent_ok tabok (L := []) trivial (keep := []) (l := []) Tryz.func364 (by kernel_rfl) (sg := [.one (.sc)]) (by kernel_rfl) trivial fun av k h => by
  unfold impl_isSpan at h; split at h
  · apply un_all h; clear h; intro a0 a1 a2 a3 a4 a5 a6 a7 a8 a9 a10 a11 a12 a13 a14 a15 h; exact Eq.mpr (by kernel_rfl) h
  · exact h.elim

def impl_ascending_r0 (v : List PV) (K : List PV → Prop) (x0k : Prop) (x1k : PV → PV → PV → PV → Prop) : Prop :=
 un 4 (fun v0 v1 v2 v3 =>
  binP .lss v3 v2 fun r0 =>
  iteP r0
   (binP .gtr v3 (I 0) fun r1 =>
   iteP r1
    (elemP 1 v0 v3 fun c2 =>
    binP .sub v3 (I 1) fun r3 =>
    elemP 1 v0 r3 fun c4 =>
    binP .leq (atP c2 0) (atP c4 0) fun r5 =>
    iteP r5
     (x0k)
     (binP .add v3 (I 1) fun r6 =>
     K [v0, v1, v2, r6]))
    (binP .add v3 (I 1) fun r7 =>
    K [v0, v1, v2, r7]))
   (x1k v0 v1 v2 v3)) v
def impl_ascending : GM
 | [.one a0], k => 
  lenP a0 fun r0 =>
  lp (fun L w => impl_ascending_r0 w L
   (rt [.sc] [(.bool false)] k)
   (fun q8 q9 q10 q11 => rt [.sc] [(.bool true)] k)) [a0, (.bool false), r0, (I 0)]
 | _, _ => False
abbrev impl_ascending_e : Ent := ⟨[245], impl_ascending⟩
def impl_ascending_l : List LE := [⟨0, ⟨[(0, .one (.pv (.bool false))), (2, .one (.pv (.bool false))), (5, .one (.pv (.bool false))), (6, .one (.pv (.bool false)))], [], [], 0, 24⟩, fun K k v => impl_ascending_r0 v K (k .ret ⟨[(2, .one (.kb false))], [], [], 0, 24⟩) (fun x0 x1 x2 x3 => k (.exit 0) ⟨[(0, .one (.pv x0)), (2, .one (.pv x1)), (5, .one (.pv x2)), (6, .one (.pv x3))], [], [], 0, 24⟩)⟩]
theorem impl_ascending_s : LEsOK (orac []) TT (kk [0, 2, 5, 6, 12, 13, 14, 15, 16, 17, 18, 19, 20, 21]) (sumsOf impl_ascending_l) Tryz.f245 impl_ascending_l := ⟨fun v K k h => by
  apply un_all h; exact fun v0 v1 v2 v3 h => Eq.mpr (by kernel_rfl) h
  , trivial⟩
theorem impl_ascending_w : EntOK Tryz.prog TT impl_ascending_e := ent_ok tabok (L := []) trivial (keep := (kk [0, 2, 5, 6, 12, 13, 14, 15, 16, 17, 18, 19, 20, 21])) (l := impl_ascending_l) Tryz.func245 (by kernel_rfl) (sg := [.one (.sc)]) (by kernel_rfl) impl_ascending_s fun av k h => by
  unfold impl_ascending at h; split at h
  · exact Eq.mpr (by kernel_rfl) h
  · exact h.elim

def impl_isKey : GM
 | [.one a0], k => 
  call impl_InRange [.one a0, .one (I 1), .one (I 99)] fun o0 =>
  rt [.sc] [(atP o0 0)] k
 | _, _ => False
abbrev impl_isKey_e : Ent := ⟨[248], impl_isKey⟩
theorem impl_isKey_w : EntOK Tryz.prog TT impl_isKey_e := ent_ok tabok (L := [impl_InRange_e]) ⟨impl_InRange_w, trivial⟩ (keep := []) (l := []) Tryz.func248 (by kernel_rfl) (sg := [.one (.sc)]) (by kernel_rfl) trivial fun av k h => by
  unfold impl_isKey at h; split at h
  · exact Eq.mpr (by kernel_rfl) h
  · exact h.elim

def impl_IsKeys : GM
 | [.agg u0], k => un 2 (fun a0 a1 => 
  lenP a0 fun r0 =>
  call impl_InRange [.one r0, .one (I 1), .one (I 4)] fun o1 =>
  iteP (atP o1 0)
   (call impl_ascending [.one a0] fun o2 =>
   iteP (atP o2 0)
    (elemP 1 a0 (I 0) fun c3 =>
    call impl_isKey [.one (atP c3 0)] fun o4 =>
    iteP (atP o4 0)
     (lenP a0 fun r5 =>
     binP .sub r5 (I 1) fun r6 =>
     elemP 1 a0 r6 fun c7 =>
     call impl_isKey [.one (atP c7 0)] fun o8 =>
     iteP (atP o8 0)
      (lenP a0 fun r9 =>
      call impl_InRange [.one a1, .one (I 1), .one r9] fun o10 =>
      rt [.sc] [(atP o10 0)] k)
      (rt [.sc] [(.bool false)] k))
     (rt [.sc] [(.bool false)] k))
    (rt [.sc] [(.bool false)] k))
   (rt [.sc] [(.bool false)] k)) u0
 | _, _ => False
abbrev impl_IsKeys_e : Ent := ⟨[274], impl_IsKeys⟩
theorem impl_IsKeys_w : EntOK Tryz.prog TT impl_IsKeys_e := ent_ok tabok (L := [impl_InRange_e, impl_ascending_e, impl_isKey_e]) ⟨impl_InRange_w, impl_ascending_w, impl_isKey_w, trivial⟩ (keep := []) (l := []) Tryz.func274 (by kernel_rfl) (sg := [.one (.sc)]) (by kernel_rfl) trivial fun av k h => by
  unfold impl_IsKeys at h; split at h
  · apply un_all h; clear h; intro a0 a1 h; exact Eq.mpr (by kernel_rfl) h
  · exact h.elim

def impl_NoKeys : GM
 | [.agg u0], k => un 2 (fun a0 a1 => 
  binP .eql a1 (I 0) fun r0 =>
  iteP r0
   (lenP a0 fun r1 =>
   binP .eql r1 (I 0) fun r2 =>
   rt [.sc] [r2] k)
   (rt [.sc] [(.bool false)] k)) u0
 | _, _ => False
abbrev impl_NoKeys_e : Ent := ⟨[367], impl_NoKeys⟩
theorem impl_NoKeys_w : EntOK Tryz.prog TT impl_NoKeys_e := ent_ok tabok (L := []) trivial (keep := []) (l := []) Tryz.func367 (by kernel_rfl) (sg := [.one (.sc)]) (by kernel_rfl) trivial fun av k h => by
  unfold impl_NoKeys at h; split at h
  · apply un_all h; clear h; intro a0 a1 h; exact Eq.mpr (by kernel_rfl) h
  · exact h.elim

def impl_isMaybe : GM
 | [.agg u0], k => un 2 (fun a0 a1 => 
  call impl_NoKeys [.agg [a0, a1]] fun o0 =>
  iteP (atP o0 0)
   (rt [.sc] [(.bool true)] k)
   (call impl_IsKeys [.agg [a0, a1]] fun o1 =>
   rt [.sc] [(atP o1 0)] k)) u0
 | _, _ => False
abbrev impl_isMaybe_e : Ent := ⟨[365], impl_isMaybe⟩
theorem impl_isMaybe_w : EntOK Tryz.prog TT impl_isMaybe_e := ent_ok tabok (L := [impl_NoKeys_e, impl_IsKeys_e]) ⟨impl_NoKeys_w, impl_IsKeys_w, trivial⟩ (keep := []) (l := []) Tryz.func365 (by kernel_rfl) (sg := [.one (.sc)]) (by kernel_rfl) trivial fun av k h => by
  unfold impl_isMaybe at h; split at h
  · apply un_all h; clear h; intro a0 a1 h; exact Eq.mpr (by kernel_rfl) h
  · exact h.elim

def impl_isWait : GM
 | [.one a0, .agg u0], k => un 2 (fun a1 a2 => 
  call impl_NoKeys [.agg [a1, a2]] fun o0 =>
  iteP (atP o0 0)
   (binP .eql a0 (I 0) fun r1 =>
   rt [.sc] [r1] k)
   (call impl_InRange [.one a0, .one (I 1), .one (I 500)] fun o2 =>
   rt [.sc] [(atP o2 0)] k)) u0
 | _, _ => False
abbrev impl_isWait_e : Ent := ⟨[366], impl_isWait⟩
theorem impl_isWait_w : EntOK Tryz.prog TT impl_isWait_e := ent_ok tabok (L := [impl_NoKeys_e, impl_InRange_e]) ⟨impl_NoKeys_w, impl_InRange_w, trivial⟩ (keep := []) (l := []) Tryz.func366 (by kernel_rfl) (sg := [.one (.sc)]) (by kernel_rfl) trivial fun av k h => by
  unfold impl_isWait at h; split at h
  · apply un_all h; clear h; intro a1 a2 h; exact Eq.mpr (by kernel_rfl) h
  · exact h.elim

def impl_IsHead : GM
 | [.agg u0], k => un 16 (fun a0 a1 a2 a3 a4 a5 a6 a7 a8 a9 a10 a11 a12 a13 a14 a15 => 
  call impl_isDigest [.one a0] fun o0 =>
  iteP (atP o0 0)
   (call impl_isDigest [.one a6] fun o1 =>
   iteP (atP o1 0)
    (call impl_isDigest [.one a7] fun o2 =>
    iteP (atP o2 0)
     (call impl_InRange [.one a1, .one (I 0), .one (I 200)] fun o3 =>
     iteP (atP o3 0)
      (call impl_InRange [.one a2, .one (I 1), .one (I 3)] fun o4 =>
      iteP (atP o4 0)
       (call impl_isSpan [.agg [a0, a1, a2, a3, a4, a5, a6, a7, a8, a9, a10, a11, a12, a13, a14, a15]] fun o5 =>
       iteP (atP o5 0)
        (call impl_InRange [.one a5, .one (I 0), .one (I 12)] fun o6 =>
        iteP (atP o6 0)
         (call impl_IsKeys [.agg [a8, a9]] fun o7 =>
         iteP (atP o7 0)
          (call impl_isMaybe [.agg [a10, a11]] fun o8 =>
          iteP (atP o8 0)
           (call impl_isMaybe [.agg [a13, a14]] fun o9 =>
           iteP (atP o9 0)
            (call impl_isWait [.one a12, .agg [a10, a11]] fun o10 =>
            iteP (atP o10 0)
             (iteP a15
              (call impl_NoKeys [.agg [a13, a14]] fun o11 =>
              unP .not (atP o11 0) fun r12 =>
              rt [.sc] [r12] k)
              (rt [.sc] [(.bool true)] k))
             (rt [.sc] [(.bool false)] k))
            (rt [.sc] [(.bool false)] k))
           (rt [.sc] [(.bool false)] k))
          (rt [.sc] [(.bool false)] k))
         (rt [.sc] [(.bool false)] k))
        (rt [.sc] [(.bool false)] k))
       (rt [.sc] [(.bool false)] k))
      (rt [.sc] [(.bool false)] k))
     (rt [.sc] [(.bool false)] k))
    (rt [.sc] [(.bool false)] k))
   (rt [.sc] [(.bool false)] k)) u0
 | _, _ => False
abbrev impl_IsHead_e : Ent := ⟨[339], impl_IsHead⟩
theorem impl_IsHead_w : EntOK Tryz.prog TT impl_IsHead_e := ent_ok tabok (L := [impl_isDigest_e, impl_InRange_e, impl_isSpan_e, impl_IsKeys_e, impl_isMaybe_e, impl_isWait_e, impl_NoKeys_e]) ⟨impl_isDigest_w, impl_InRange_w, impl_isSpan_w, impl_IsKeys_w, impl_isMaybe_w, impl_isWait_w, impl_NoKeys_w, trivial⟩ (keep := []) (l := []) Tryz.func339 (by kernel_rfl) (sg := [.one (.sc)]) (by kernel_rfl) trivial fun av k h => by
  unfold impl_IsHead at h; split at h
  · apply un_all h; clear h; intro a0 a1 a2 a3 a4 a5 a6 a7 a8 a9 a10 a11 a12 a13 a14 a15 h; exact Eq.mpr (by kernel_rfl) h
  · exact h.elim

def impl_KeysInts : GM
 | [.agg u0], k => un 2 (fun a0 a1 => 
  lenP a0 fun r0 =>
  (2 = 2) ∧ (2 ≤ 16777216) ∧ (1 = 1) ∧ (0 = 0) ∧ (1 = 1) ∧ (flatCond [.pv (I 0)] [.pv a1]) ∧ (1 = 1) ∧ (1 = 1) ∧ (flatCond [.pv (I 0)] [.pv r0]) ∧ (flatRows a0) ∧ catP 1 (.list 1 [[a1], [r0]]) a0 fun r1 =>
  rt [.own true 3 1] [r1] k) u0
 | _, _ => False
abbrev impl_KeysInts_e : Ent := ⟨[265], impl_KeysInts⟩
theorem impl_KeysInts_w : EntOK Tryz.prog TT impl_KeysInts_e := ent_ok tabok (L := []) trivial (keep := []) (l := []) Tryz.func265 (by kernel_rfl) (sg := [.one (.own true 3 1)]) (by kernel_rfl) trivial fun av k h => by
  unfold impl_KeysInts at h; split at h
  · apply un_all h; clear h; intro a0 a1 h; exact Eq.mpr (by kernel_rfl) h
  · exact h.elim

def impl_Mod : GM
 | [.one a0, .one a1], k => 
  call impl_InRange [.one a1, .one (I 1), .one (I 1000000000000)] fun o0 =>
  unP .not (atP o0 0) fun r1 =>
  iteP r1
   (rt [.sc] [(I 0)] k)
   (binP .rem a0 a1 fun r2 =>
   binP .add r2 a1 fun r3 =>
   binP .rem r3 a1 fun r4 =>
   rt [.sc] [r4] k)
 | _, _ => False
abbrev impl_Mod_e : Ent := ⟨[179], impl_Mod⟩
theorem impl_Mod_w : EntOK Tryz.prog TT impl_Mod_e := ent_ok tabok (L := [impl_InRange_e]) ⟨impl_InRange_w, trivial⟩ (keep := []) (l := []) Tryz.func179 (by kernel_rfl) (sg := [.one (.sc)]) (by kernel_rfl) trivial fun av k h => by
  unfold impl_Mod at h; split at h
  · exact Eq.mpr (by kernel_rfl) h
  · exact h.elim

def impl_Hash_r0 (v : List PV) (K : List PV → Prop) (x0k : PV → PV → PV → PV → PV → Prop) : Prop :=
 un 5 (fun v0 v1 v2 v3 v4 =>
  binP .lss v4 v3 fun r0 =>
  iteP r0
   (elemP 1 v2 v4 fun c1 =>
   binP .mul v1 (I 1000003) fun r2 =>
   call impl_Mod [.one (atP c1 0), .one (I 2147483647)] fun o3 =>
   binP .add r2 (atP o3 0) fun r4 =>
   binP .add r4 (I 13) fun r5 =>
   binP .rem r5 (I 2147483647) fun r6 =>
   binP .add v4 (I 1) fun r7 =>
   K [v0, r6, v2, v3, r7])
   (x0k v0 v1 v2 v3 v4)) v
def impl_Hash : GM
 | [.one a0], k => 
  lenP a0 fun r0 =>
  lp (fun L w => impl_Hash_r0 w L
   (fun q8 q9 q10 q11 q12 => rt [.sc] [q9] k)) [(I 0), (I 11), a0, r0, (I 0)]
 | _, _ => False
abbrev impl_Hash_e : Ent := ⟨[68], impl_Hash⟩
def impl_Hash_l : List LE := [⟨0, ⟨[(2, .one (.pv (.bool false))), (3, .one (.pv (.bool false))), (6, .one (.pv (.bool false))), (7, .one (.pv (.bool false))), (8, .one (.pv (.bool false)))], [], [], 0, 21⟩, fun K k v => impl_Hash_r0 v K (fun x0 x1 x2 x3 x4 => k (.exit 0) ⟨[(2, .one (.pv x0)), (3, .one (.pv x1)), (6, .one (.pv x2)), (7, .one (.pv x3)), (8, .one (.pv x4))], [], [], 0, 21⟩)⟩]
theorem impl_Hash_s : LEsOK (orac [impl_Mod_e]) TT (kk [2, 3, 6, 7, 8]) (sumsOf impl_Hash_l) Tryz.f68 impl_Hash_l := ⟨fun v K k h => by
  apply un_all h; exact fun v0 v1 v2 v3 v4 h => Eq.mpr (by kernel_rfl) h
  , trivial⟩
theorem impl_Hash_w : EntOK Tryz.prog TT impl_Hash_e := ent_ok tabok (L := [impl_Mod_e]) ⟨impl_Mod_w, trivial⟩ (keep := (kk [2, 3, 6, 7, 8])) (l := impl_Hash_l) Tryz.func68 (by kernel_rfl) (sg := [.one (.sc)]) (by kernel_rfl) impl_Hash_s fun av k h => by
  unfold impl_Hash at h; split at h
  · exact Eq.mpr (by kernel_rfl) h
  · exact h.elim

def impl_ZoneOf : GM
 | [.agg u0, .one a2], k => un 2 (fun a0 a1 => 
  (2 = 2) ∧ (2 ≤ 16777216) ∧ (1 = 1) ∧ (0 = 0) ∧ (1 = 1) ∧ (flatCond [.pv (I 0)] [.pv (I 239)]) ∧ (1 = 1) ∧ (1 = 1) ∧ (flatCond [.pv (I 0)] [.pv a2]) ∧ call impl_KeysInts [.agg [a0, a1]] fun o0 =>
  catP 1 (.list 1 [[(I 239)], [a2]]) (atP o0 0) fun r1 =>
  call impl_Hash [.one r1] fun o2 =>
  rt [.sc] [(atP o2 0)] k) u0
 | _, _ => False
abbrev impl_ZoneOf_e : Ent := ⟨[340], impl_ZoneOf⟩
theorem impl_ZoneOf_w : EntOK Tryz.prog TT impl_ZoneOf_e := ent_ok tabok (L := [impl_KeysInts_e, impl_Hash_e]) ⟨impl_KeysInts_w, impl_Hash_w, trivial⟩ (keep := []) (l := []) Tryz.func340 (by kernel_rfl) (sg := [.one (.sc)]) (by kernel_rfl) trivial fun av k h => by
  unfold impl_ZoneOf at h; split at h
  · apply un_all h; clear h; intro a0 a1 h; exact Eq.mpr (by kernel_rfl) h
  · exact h.elim

def impl_bit : GM
 | [.one a0], k => 
  iteP a0
   (rt [.sc] [(I 1)] k)
   (rt [.sc] [(I 0)] k)
 | _, _ => False
abbrev impl_bit_e : Ent := ⟨[141], impl_bit⟩
theorem impl_bit_w : EntOK Tryz.prog TT impl_bit_e := ent_ok tabok (L := []) trivial (keep := []) (l := []) Tryz.func141 (by kernel_rfl) (sg := [.one (.sc)]) (by kernel_rfl) trivial fun av k h => by
  unfold impl_bit at h; split at h
  · exact Eq.mpr (by kernel_rfl) h
  · exact h.elim

def slices_Grow_int_F_nil : GM
 | [.nil 3 1, .one a0], k => 
  binP .lss a0 (I 0) fun r0 =>
  iteP r0
   (False)
   (lenP (.list 1 []) fun r1 =>
   binP .sub (I 0) r1 fun r2 =>
   binP .sub a0 r2 fun r3 =>
   binP .gtr r3 (I 0) fun r4 =>
   iteP r4
    (natP (I 0) fun n5 =>
    (0 = 0) ∧ (n5 = 0) ∧ ((Go.Ev.tI.ik = some Go.IntKind.i64)) ∧ (1 = 1) ∧ makeP 1 r3 [(I 0)] fun r6 =>
    lenP (.list 1 []) fun r7 =>
    natP r7 fun n8 =>
    cutP 1 r6 none (some n8) fun r9 =>
    rt [.own true 3 1] [r9] k)
    (rt [.own true 3 1] [(.list 1 [])] k))
 | _, _ => False
abbrev slices_Grow_int_F_nil_e : Ent := ⟨[317, 999999], slices_Grow_int_F_nil⟩
theorem slices_Grow_int_F_nil_w : EntOK Tryz.prog TT slices_Grow_int_F_nil_e := ent_okM tabok (L := []) trivial (keep := []) (l := []) Tryz.func317 (by kernel_rfl) (sg := [.one (.own true 3 1)]) (by kernel_rfl) trivial fun av k h => by
  unfold slices_Grow_int_F_nil at h; split at h
  · exact Eq.mpr (by kernel_rfl) h
  · exact h.elim

def slices_Concat_int_r0 (v : List PV) (K : List PV → Prop) (x0k : PV → PV → PV → PV → PV → PV → Prop) : Prop :=
 un 6 (fun v0 v1 v2 v3 v4 v5 =>
  binP .lss v4 v3 fun r0 =>
  iteP r0
   (elemP 1 v2 v4 fun c1 =>
   lenP (atP c1 0) fun r2 =>
   binP .add v1 r2 fun r3 =>
   binP .lss r3 (I 0) fun r4 =>
   iteP r4
    (False)
    (binP .add v4 (I 1) fun r5 =>
    K [v0, r3, v2, v3, r5, v5]))
   (x0k v0 v1 v2 v3 v4 v5)) v
def slices_Concat_int_r1 (v : List PV) (K : List PV → Prop) (x0k : PV → PV → PV → PV → PV → PV → PV → PV → PV → PV → Prop) : Prop :=
 un 10 (fun v0 v1 v2 v3 v4 v5 v6 v7 v8 v9 =>
  binP .lss v7 v6 fun r0 =>
  iteP r0
   (elemP 1 v5 v7 fun c1 =>
   (flatRows (atP c1 0)) ∧ catP 1 v8 (atP c1 0) fun r2 =>
   binP .add v7 (I 1) fun r3 =>
   K [v0, v1, v2, v3, v4, v5, v6, r3, r2, v9])
   (x0k v0 v1 v2 v3 v4 v5 v6 v7 v8 v9)) v
def slices_Concat_int : GM
 | [.one a0], k => 
  lenP a0 fun r0 =>
  lp (fun L w => slices_Concat_int_r0 w L
   (fun q6 q7 q8 q9 q10 q11 => call slices_Grow_int_F_nil [.nil 3 1, .one q7] fun o12 =>
    lenP q6 fun r13 =>
    lp (fun L w => slices_Concat_int_r1 w L
     (fun q14 q15 q16 q17 q18 q19 q20 q21 q22 q23 => rt [.own true 3 1] [q22] k)) [q6, q7, q8, q9, q10, q6, r13, (I 0), (atP o12 0), q11])) [a0, (I 0), a0, r0, (I 0), (.list 1 [])]
 | _, _ => False
abbrev slices_Concat_int_e : Ent := ⟨[264], slices_Concat_int⟩
def slices_Concat_int_l : List LE := [⟨0, ⟨[(0, .one (.pv (.bool false))), (2, .one (.own 0)), (3, .one (.pv (.bool false))), (9, .one (.pv (.bool false))), (10, .one (.pv (.bool false))), (11, .one (.pv (.bool false)))], [], [(0, ⟨.deep, 3, 1, (.bool false)⟩)], 1, 36⟩, fun K k v => slices_Concat_int_r0 v K (fun x0 x1 x2 x3 x4 x5 => k (.exit 0) ⟨[(0, .one (.pv x0)), (2, .one (.own 0)), (3, .one (.pv x1)), (9, .one (.pv x2)), (10, .one (.pv x3)), (11, .one (.pv x4))], [], [(0, ⟨.deep, 3, 1, x5⟩)], 1, 36⟩)⟩,
  ⟨1, ⟨[(0, .one (.pv (.bool false))), (2, .one (.own 0)), (3, .one (.pv (.bool false))), (6, .one (.own 1)), (9, .one (.pv (.bool false))), (10, .one (.pv (.bool false))), (11, .one (.pv (.bool false))), (25, .one (.pv (.bool false))), (26, .one (.pv (.bool false))), (27, .one (.pv (.bool false)))], [], [(1, ⟨.deep, 3, 1, (.bool false)⟩), (0, ⟨.deep, 3, 1, (.bool false)⟩)], 2, 36⟩, fun K k v => slices_Concat_int_r1 v K (fun x0 x1 x2 x3 x4 x5 x6 x7 x8 x9 => k (.exit 2) ⟨[(0, .one (.pv x0)), (2, .one (.own 0)), (3, .one (.pv x1)), (6, .one (.own 1)), (9, .one (.pv x2)), (10, .one (.pv x3)), (11, .one (.pv x4)), (25, .one (.pv x5)), (26, .one (.pv x6)), (27, .one (.pv x7))], [], [(1, ⟨.deep, 3, 1, x8⟩), (0, ⟨.deep, 3, 1, x9⟩)], 2, 36⟩)⟩]
theorem slices_Concat_int_s : LEsOK (orac [slices_Grow_int_F_nil_e]) TT (kk [0, 2, 3, 6, 9, 10, 11, 25, 26, 27]) (sumsOf slices_Concat_int_l) Tryz.f264 slices_Concat_int_l := ⟨fun v K k h => by
  apply un_all h; exact fun v0 v1 v2 v3 v4 v5 h => Eq.mpr (by kernel_rfl) h
  , fun v K k h => by
  apply un_all h; exact fun v0 v1 v2 v3 v4 v5 v6 v7 v8 v9 h => Eq.mpr (by kernel_rfl) h
  , trivial⟩
theorem slices_Concat_int_w : EntOK Tryz.prog TT slices_Concat_int_e := ent_ok tabok (L := [slices_Grow_int_F_nil_e]) ⟨slices_Grow_int_F_nil_w, trivial⟩ (keep := (kk [0, 2, 3, 6, 9, 10, 11, 25, 26, 27])) (l := slices_Concat_int_l) Tryz.func264 (by kernel_rfl) (sg := [.one (.own true 3 1)]) (by kernel_rfl) slices_Concat_int_s fun av k h => by
  unfold slices_Concat_int at h; split at h
  · exact Eq.mpr (by kernel_rfl) h
  · exact h.elim

def impl_HeadInts : GM
 | [.agg u0], k => un 16 (fun a0 a1 a2 a3 a4 a5 a6 a7 a8 a9 a10 a11 a12 a13 a14 a15 => 
  (8 = 8) ∧ (8 ≤ 16777216) ∧ (1 = 1) ∧ (0 = 0) ∧ (1 = 1) ∧ (flatCond [.pv (I 0)] [.pv a0]) ∧ (1 = 1) ∧ (1 = 1) ∧ (flatCond [.pv (I 0)] [.pv a1]) ∧ (2 = 2) ∧ (1 = 1) ∧ (flatCond [.pv (I 0)] [.pv a2]) ∧ (3 = 3) ∧ (1 = 1) ∧ (flatCond [.pv (I 0)] [.pv a3]) ∧ (4 = 4) ∧ (1 = 1) ∧ (flatCond [.pv (I 0)] [.pv a4]) ∧ (5 = 5) ∧ (1 = 1) ∧ (flatCond [.pv (I 0)] [.pv a5]) ∧ (6 = 6) ∧ (1 = 1) ∧ (flatCond [.pv (I 0)] [.pv a6]) ∧ (7 = 7) ∧ (1 = 1) ∧ (flatCond [.pv (I 0)] [.pv a7]) ∧ call impl_KeysInts [.agg [a8, a9]] fun o0 =>
  call impl_KeysInts [.agg [a10, a11]] fun o1 =>
  (1 = 1) ∧ (1 ≤ 16777216) ∧ (1 = 1) ∧ (0 = 0) ∧ (1 = 1) ∧ (flatCond [.pv (I 0)] [.pv a12]) ∧ call impl_KeysInts [.agg [a13, a14]] fun o2 =>
  call impl_bit [.one a15] fun o3 =>
  (1 = 1) ∧ (1 ≤ 16777216) ∧ (1 = 1) ∧ (0 = 0) ∧ (1 = 1) ∧ (flatCond [.pv (I 0)] [.pv (atP o3 0)]) ∧ (6 = 6) ∧ (6 ≤ 16777216) ∧ (1 = 1) ∧ (0 = 0) ∧ (1 = 1) ∧ (flatCond [.nil 3 1] [.own 1]) ∧ (1 = 1) ∧ (1 = 1) ∧ (flatCond [.nil 3 1] [.own 2]) ∧ (2 = 2) ∧ (1 = 1) ∧ (flatCond [.nil 3 1] [.own 3]) ∧ (3 = 3) ∧ (1 = 1) ∧ (flatCond [.nil 3 1] [.own 4]) ∧ (4 = 4) ∧ (1 = 1) ∧ (flatCond [.nil 3 1] [.own 5]) ∧ (5 = 5) ∧ (1 = 1) ∧ (flatCond [.nil 3 1] [.own 7]) ∧ call slices_Concat_int [.one (.list 1 [[(.list 1 [[a0], [a1], [a2], [a3], [a4], [a5], [a6], [a7]])], [(atP o0 0)], [(atP o1 0)], [(.list 1 [[a12]])], [(atP o2 0)], [(.list 1 [[(atP o3 0)]])]])] fun o4 =>
  rt [.own true 3 1] [(atP o4 0)] k) u0
 | _, _ => False
abbrev impl_HeadInts_e : Ent := ⟨[177], impl_HeadInts⟩
theorem impl_HeadInts_w : EntOK Tryz.prog TT impl_HeadInts_e := ent_ok tabok (L := [impl_KeysInts_e, impl_bit_e, slices_Concat_int_e]) ⟨impl_KeysInts_w, impl_bit_w, slices_Concat_int_w, trivial⟩ (keep := []) (l := []) Tryz.func177 (by kernel_rfl) (sg := [.one (.own true 3 1)]) (by kernel_rfl) trivial fun av k h => by
  unfold impl_HeadInts at h; split at h
  · apply un_all h; clear h; intro a0 a1 a2 a3 a4 a5 a6 a7 a8 a9 a10 a11 a12 a13 a14 a15 h; exact Eq.mpr (by kernel_rfl) h
  · exact h.elim

def impl_KeyedHash : GM
 | [.one a0, .one a1], k => 
  (1 = 1) ∧ (1 ≤ 16777216) ∧ (1 = 1) ∧ (0 = 0) ∧ (1 = 1) ∧ (flatCond [.pv (I 0)] [.pv a0]) ∧ (1 = 1) ∧ (1 ≤ 16777216) ∧ (1 = 1) ∧ (0 = 0) ∧ (1 = 1) ∧ (flatCond [.pv (I 0)] [.pv a0]) ∧ (3 = 3) ∧ (3 ≤ 16777216) ∧ (1 = 1) ∧ (0 = 0) ∧ (1 = 1) ∧ (flatCond [.nil 3 1] [.own 0]) ∧ (1 = 1) ∧ (1 = 1) ∧ (2 = 2) ∧ (1 = 1) ∧ (flatCond [.nil 3 1] [.own 1]) ∧ call slices_Concat_int [.one (.list 1 [[(.list 1 [[a0]])], [a1], [(.list 1 [[a0]])]])] fun o0 =>
  call impl_Hash [.one (atP o0 0)] fun o1 =>
  rt [.sc] [(atP o1 0)] k
 | _, _ => False
abbrev impl_KeyedHash_e : Ent := ⟨[396], impl_KeyedHash⟩
theorem impl_KeyedHash_w : EntOK Tryz.prog TT impl_KeyedHash_e := ent_ok tabok (L := [slices_Concat_int_e, impl_Hash_e]) ⟨slices_Concat_int_w, impl_Hash_w, trivial⟩ (keep := []) (l := []) Tryz.func396 (by kernel_rfl) (sg := [.one (.sc)]) (by kernel_rfl) trivial fun av k h => by
  unfold impl_KeyedHash at h; split at h
  · exact Eq.mpr (by kernel_rfl) h
  · exact h.elim

def impl_TagOf : GM
 | [.one a0, .one a1], k => 
  (1 = 1) ∧ (1 ≤ 16777216) ∧ (1 = 1) ∧ (0 = 0) ∧ (1 = 1) ∧ (flatCond [.pv (I 0)] [.pv (I 223)]) ∧ (flatRows a1) ∧ catP 1 (.list 1 [[(I 223)]]) a1 fun r0 =>
  call impl_KeyedHash [.one a0, .one r0] fun o1 =>
  rt [.sc] [(atP o1 0)] k
 | _, _ => False
abbrev impl_TagOf_e : Ent := ⟨[395], impl_TagOf⟩
theorem impl_TagOf_w : EntOK Tryz.prog TT impl_TagOf_e := ent_ok tabok (L := [impl_KeyedHash_e]) ⟨impl_KeyedHash_w, trivial⟩ (keep := []) (l := []) Tryz.func395 (by kernel_rfl) (sg := [.one (.sc)]) (by kernel_rfl) trivial fun av k h => by
  unfold impl_TagOf at h; split at h
  · exact Eq.mpr (by kernel_rfl) h
  · exact h.elim

def impl_IsSigBy : GM
 | [.agg u0, .one a2], k => un 2 (fun a0 a1 => 
  call impl_isKey [.one a0] fun o0 =>
  iteP (atP o0 0)
   (call impl_TagOf [.one a0, .one a2] fun o1 =>
   binP .eql a1 (atP o1 0) fun r2 =>
   rt [.sc] [r2] k)
   (rt [.sc] [(.bool false)] k)) u0
 | _, _ => False
abbrev impl_IsSigBy_e : Ent := ⟨[392], impl_IsSigBy⟩
theorem impl_IsSigBy_w : EntOK Tryz.prog TT impl_IsSigBy_e := ent_ok tabok (L := [impl_isKey_e, impl_TagOf_e]) ⟨impl_isKey_w, impl_TagOf_w, trivial⟩ (keep := []) (l := []) Tryz.func392 (by kernel_rfl) (sg := [.one (.sc)]) (by kernel_rfl) trivial fun av k h => by
  unfold impl_IsSigBy at h; split at h
  · apply un_all h; clear h; intro a0 a1 h; exact Eq.mpr (by kernel_rfl) h
  · exact h.elim

def impl_CountSigs_1 : GM
 | [.agg u0, .ro (.cells u1), .ro (.cells u2)], k => un 2 (fun a0 a1 => un 1 (fun a2 => un 1 (fun a3 => 
  binP .eql a0 a2 fun r0 =>
  iteP r0
   (call impl_IsSigBy [.agg [a0, a1], .one a3] fun o1 =>
   rt [.sc] [(atP o1 0)] k)
   (rt [.sc] [(.bool false)] k)) u2) u1) u0
 | _, _ => False
abbrev impl_CountSigs_1_e : Ent := ⟨[391], impl_CountSigs_1⟩
theorem impl_CountSigs_1_w : EntOK Tryz.prog TT impl_CountSigs_1_e := ent_ok tabok (L := [impl_IsSigBy_e]) ⟨impl_IsSigBy_w, trivial⟩ (keep := []) (l := []) Tryz.func391 (by kernel_rfl) (sg := [.one (.sc)]) (by kernel_rfl) trivial fun av k h => by
  unfold impl_CountSigs_1 at h; split at h
  · apply un_all h; clear h; intro a0 a1 h; apply un_all h; clear h; intro a2 h; apply un_all h; clear h; intro a3 h; exact Eq.mpr (by kernel_rfl) h
  · exact h.elim

def slices_IndexFunc_Sig_F_impl_CountSigs_1_r0 (v : List PV) (K : List PV → Prop) (x0k : PV → Prop) (x1k : PV → PV → PV → PV → PV → PV → Prop) : Prop :=
 un 6 (fun v0 v1 v2 v3 v4 v5 =>
  binP .lss v5 v4 fun r0 =>
  iteP r0
   (elemP 2 v0 v5 fun c1 =>
   call impl_CountSigs_1 [.agg [(atP c1 0), (atP c1 1)], .ro (.cells [v1]), .ro (.cells [v2])] fun o2 =>
   iteP (atP o2 0)
    (x0k v5)
    (binP .add v5 (I 1) fun r3 =>
    K [v0, v1, v2, v3, v4, r3]))
   (x1k v0 v1 v2 v3 v4 v5)) v
def slices_IndexFunc_Sig_F_impl_CountSigs_1 : GM
 | [.one a0, .fn 391 [.cells u0, .cells u1]], k => un 1 (fun a1 => un 1 (fun a2 => 
  lenP a0 fun r0 =>
  lp (fun L w => slices_IndexFunc_Sig_F_impl_CountSigs_1_r0 w L
   (fun q4 => rt [.sc] [q4] k)
   (fun q5 q6 q7 q8 q9 q10 => rt [.sc] [(I (-1))] k)) [a0, a1, a2, (I 0), r0, (I 0)]) u1) u0
 | _, _ => False
abbrev slices_IndexFunc_Sig_F_impl_CountSigs_1_e : Ent := ⟨[394, 391], slices_IndexFunc_Sig_F_impl_CountSigs_1⟩
def slices_IndexFunc_Sig_F_impl_CountSigs_1_l : List LE := [⟨0, ⟨[(0, .one (.pv (.bool false))), (1, .one (.fn 391 [.ro (.cells [(.bool false)]), .ro (.cells [(.bool false)])])), (4, .one (.pv (.bool false))), (7, .one (.pv (.bool false))), (8, .one (.pv (.bool false)))], [], [], 0, 19⟩, fun K k v => slices_IndexFunc_Sig_F_impl_CountSigs_1_r0 v K (fun x0 => k .ret ⟨[(4, .one (.pv x0))], [], [], 1, 19⟩) (fun x0 x1 x2 x3 x4 x5 => k (.exit 0) ⟨[(0, .one (.pv x0)), (1, .one (.fn 391 [.ro (.cells [x1]), .ro (.cells [x2])])), (4, .one (.pv x3)), (7, .one (.pv x4)), (8, .one (.pv x5))], [], [], 0, 19⟩)⟩]
theorem slices_IndexFunc_Sig_F_impl_CountSigs_1_s : LEsOK (orac [impl_CountSigs_1_e]) TT (kk [0, 1, 4, 7, 8]) (sumsOf slices_IndexFunc_Sig_F_impl_CountSigs_1_l) Tryz.f394 slices_IndexFunc_Sig_F_impl_CountSigs_1_l := ⟨fun v K k h => by
  apply un_all h; exact fun v0 v1 v2 v3 v4 v5 h => Eq.mpr (by kernel_rfl) h
  , trivial⟩
theorem slices_IndexFunc_Sig_F_impl_CountSigs_1_w : EntOK Tryz.prog TT slices_IndexFunc_Sig_F_impl_CountSigs_1_e := ent_ok tabok (L := [impl_CountSigs_1_e]) ⟨impl_CountSigs_1_w, trivial⟩ (keep := (kk [0, 1, 4, 7, 8])) (l := slices_IndexFunc_Sig_F_impl_CountSigs_1_l) Tryz.func394 (by kernel_rfl) (sg := [.one (.sc)]) (by kernel_rfl) slices_IndexFunc_Sig_F_impl_CountSigs_1_s fun av k h => by
  unfold slices_IndexFunc_Sig_F_impl_CountSigs_1 at h; split at h
  · apply un_all h; clear h; intro a1 h; apply un_all h; clear h; intro a2 h; exact Eq.mpr (by kernel_rfl) h
  · exact h.elim

def slices_ContainsFunc_Sig_F_impl_CountSigs_1 : GM
 | [.one a0, .fn 391 [.cells u0, .cells u1]], k => un 1 (fun a1 => un 1 (fun a2 => 
  call slices_IndexFunc_Sig_F_impl_CountSigs_1 [.one a0, .fn 391 [.cells [a1], .cells [a2]]] fun o0 =>
  binP .geq (atP o0 0) (I 0) fun r1 =>
  rt [.sc] [r1] k) u1) u0
 | _, _ => False
abbrev slices_ContainsFunc_Sig_F_impl_CountSigs_1_e : Ent := ⟨[390, 391], slices_ContainsFunc_Sig_F_impl_CountSigs_1⟩
theorem slices_ContainsFunc_Sig_F_impl_CountSigs_1_w : EntOK Tryz.prog TT slices_ContainsFunc_Sig_F_impl_CountSigs_1_e := ent_ok tabok (L := [slices_IndexFunc_Sig_F_impl_CountSigs_1_e]) ⟨slices_IndexFunc_Sig_F_impl_CountSigs_1_w, trivial⟩ (keep := []) (l := []) Tryz.func390 (by kernel_rfl) (sg := [.one (.sc)]) (by kernel_rfl) trivial fun av k h => by
  unfold slices_ContainsFunc_Sig_F_impl_CountSigs_1 at h; split at h
  · apply un_all h; clear h; intro a1 h; apply un_all h; clear h; intro a2 h; exact Eq.mpr (by kernel_rfl) h
  · exact h.elim

def impl_CountSigs_r0 (v : List PV) (K : List PV → Prop) (x0k : PV → PV → PV → PV → PV → PV → PV → Prop) : Prop :=
 un 7 (fun v0 v1 v2 v3 v4 v5 v6 =>
  binP .lss v5 v4 fun r0 =>
  iteP r0
   (elemP 1 v3 v5 fun c1 =>
   call slices_ContainsFunc_Sig_F_impl_CountSigs_1 [.one v0, .fn 391 [.cells [(atP c1 0)], .cells [v6]]] fun o2 =>
   iteP (atP o2 0)
    (binP .add v2 (I 1) fun r3 =>
    binP .add v5 (I 1) fun r4 =>
    K [v0, v1, r3, v3, v4, r4, v6])
    (binP .add v5 (I 1) fun r5 =>
    K [v0, v1, v2, v3, v4, r5, v6]))
   (x0k v0 v1 v2 v3 v4 v5 v6)) v
def impl_CountSigs : GM
 | [.agg u0, .one a2, .one a3], k => un 2 (fun a0 a1 => 
  lenP a0 fun r0 =>
  lp (fun L w => impl_CountSigs_r0 w L
   (fun q6 q7 q8 q9 q10 q11 q12 => rt [.sc] [q8] k)) [a3, (I 0), (I 0), a0, r0, (I 0), a2]) u0
 | _, _ => False
abbrev impl_CountSigs_e : Ent := ⟨[385], impl_CountSigs⟩
def impl_CountSigs_l : List LE := [⟨0, ⟨[(2, .one (.pv (.bool false))), (4, .one (.ptr 1 0)), (6, .one (.pv (.bool false))), (7, .one (.pv (.bool false))), (11, .one (.pv (.bool false))), (12, .one (.pv (.bool false))), (13, .one (.pv (.bool false)))], [(1, [.pv (.bool false)])], [], 2, 24⟩, fun K k v => impl_CountSigs_r0 v K (fun x0 x1 x2 x3 x4 x5 x6 => k (.exit 0) ⟨[(2, .one (.pv x0)), (4, .one (.ptr 1 0)), (6, .one (.pv x1)), (7, .one (.pv x2)), (11, .one (.pv x3)), (12, .one (.pv x4)), (13, .one (.pv x5))], [(1, [.pv x6])], [], 2, 24⟩)⟩]
theorem impl_CountSigs_s : LEsOK (orac [slices_ContainsFunc_Sig_F_impl_CountSigs_1_e]) TT (kk [2, 4, 6, 7, 11, 12, 13]) (sumsOf impl_CountSigs_l) Tryz.f385 impl_CountSigs_l := ⟨fun v K k h => by
  apply un_all h; exact fun v0 v1 v2 v3 v4 v5 v6 h => Eq.mpr (by kernel_rfl) h
  , trivial⟩
theorem impl_CountSigs_w : EntOK Tryz.prog TT impl_CountSigs_e := ent_ok tabok (L := [slices_ContainsFunc_Sig_F_impl_CountSigs_1_e]) ⟨slices_ContainsFunc_Sig_F_impl_CountSigs_1_w, trivial⟩ (keep := (kk [2, 4, 6, 7, 11, 12, 13])) (l := impl_CountSigs_l) Tryz.func385 (by kernel_rfl) (sg := [.one (.sc)]) (by kernel_rfl) impl_CountSigs_s fun av k h => by
  unfold impl_CountSigs at h; split at h
  · apply un_all h; clear h; intro a0 a1 h; exact Eq.mpr (by kernel_rfl) h
  · exact h.elim

def impl_IsSigned : GM
 | [.agg u0, .one a2, .one a3], k => un 2 (fun a0 a1 => 
  call impl_IsKeys [.agg [a0, a1]] fun o0 =>
  iteP (atP o0 0)
   (call impl_CountSigs [.agg [a0, a1], .one a2, .one a3] fun o1 =>
   binP .geq (atP o1 0) a1 fun r2 =>
   rt [.sc] [r2] k)
   (rt [.sc] [(.bool false)] k)) u0
 | _, _ => False
abbrev impl_IsSigned_e : Ent := ⟨[368], impl_IsSigned⟩
theorem impl_IsSigned_w : EntOK Tryz.prog TT impl_IsSigned_e := ent_ok tabok (L := [impl_IsKeys_e, impl_CountSigs_e]) ⟨impl_IsKeys_w, impl_CountSigs_w, trivial⟩ (keep := []) (l := []) Tryz.func368 (by kernel_rfl) (sg := [.one (.sc)]) (by kernel_rfl) trivial fun av k h => by
  unfold impl_IsSigned at h; split at h
  · apply un_all h; clear h; intro a0 a1 h; exact Eq.mpr (by kernel_rfl) h
  · exact h.elim

def impl_Signed_isSignedBy : GM
 | [.agg u0, .agg u1], k => un 17 (fun a0 a1 a2 a3 a4 a5 a6 a7 a8 a9 a10 a11 a12 a13 a14 a15 a16 => un 2 (fun a17 a18 => 
  call impl_HeadInts [.agg [a0, a1, a2, a3, a4, a5, a6, a7, a8, a9, a10, a11, a12, a13, a14, a15]] fun o0 =>
  call impl_IsSigned [.agg [a17, a18], .one (atP o0 0), .one a16] fun o1 =>
  rt [.sc] [(atP o1 0)] k) u1) u0
 | _, _ => False
abbrev impl_Signed_isSignedBy_e : Ent := ⟨[341], impl_Signed_isSignedBy⟩
theorem impl_Signed_isSignedBy_w : EntOK Tryz.prog TT impl_Signed_isSignedBy_e := ent_ok tabok (L := [impl_HeadInts_e, impl_IsSigned_e]) ⟨impl_HeadInts_w, impl_IsSigned_w, trivial⟩ (keep := []) (l := []) Tryz.func341 (by kernel_rfl) (sg := [.one (.sc)]) (by kernel_rfl) trivial fun av k h => by
  unfold impl_Signed_isSignedBy at h; split at h
  · apply un_all h; clear h; intro a0 a1 a2 a3 a4 a5 a6 a7 a8 a9 a10 a11 a12 a13 a14 a15 a16 h; apply un_all h; clear h; intro a17 a18 h; exact Eq.mpr (by kernel_rfl) h
  · exact h.elim

def impl_IsFirst : GM
 | [.agg u0], k => un 17 (fun a0 a1 a2 a3 a4 a5 a6 a7 a8 a9 a10 a11 a12 a13 a14 a15 a16 => 
  call impl_IsHead [.agg [a0, a1, a2, a3, a4, a5, a6, a7, a8, a9, a10, a11, a12, a13, a14, a15]] fun o0 =>
  iteP (atP o0 0)
   (binP .eql a1 (I 0) fun r1 =>
   iteP r1
    (binP .eql a2 (I 1) fun r2 =>
    iteP r2
     (unP .not a15 fun r3 =>
     iteP r3
      (call impl_ZoneOf [.agg [a8, a9], .one a7] fun o4 =>
      binP .eql a0 (atP o4 0) fun r5 =>
      iteP r5
       (call impl_Signed_isSignedBy [.agg [a0, a1, a2, a3, a4, a5, a6, a7, a8, a9, a10, a11, a12, a13, a14, a15, a16], .agg [a8, a9]] fun o6 =>
       rt [.sc] [(atP o6 0)] k)
       (rt [.sc] [(.bool false)] k))
      (rt [.sc] [(.bool false)] k))
     (rt [.sc] [(.bool false)] k))
    (rt [.sc] [(.bool false)] k))
   (rt [.sc] [(.bool false)] k)) u0
 | _, _ => False
abbrev impl_IsFirst_e : Ent := ⟨[307], impl_IsFirst⟩
theorem impl_IsFirst_w : EntOK Tryz.prog TT impl_IsFirst_e := ent_ok tabok (L := [impl_IsHead_e, impl_ZoneOf_e, impl_Signed_isSignedBy_e]) ⟨impl_IsHead_w, impl_ZoneOf_w, impl_Signed_isSignedBy_w, trivial⟩ (keep := []) (l := []) Tryz.func307 (by kernel_rfl) (sg := [.one (.sc)]) (by kernel_rfl) trivial fun av k h => by
  unfold impl_IsFirst at h; split at h
  · apply un_all h; clear h; intro a0 a1 a2 a3 a4 a5 a6 a7 a8 a9 a10 a11 a12 a13 a14 a15 a16 h; exact Eq.mpr (by kernel_rfl) h
  · exact h.elim

def impl_HeadDigest : GM
 | [.agg u0], k => un 16 (fun a0 a1 a2 a3 a4 a5 a6 a7 a8 a9 a10 a11 a12 a13 a14 a15 => 
  (1 = 1) ∧ (1 ≤ 16777216) ∧ (1 = 1) ∧ (0 = 0) ∧ (1 = 1) ∧ (flatCond [.pv (I 0)] [.pv (I 233)]) ∧ call impl_HeadInts [.agg [a0, a1, a2, a3, a4, a5, a6, a7, a8, a9, a10, a11, a12, a13, a14, a15]] fun o0 =>
  catP 1 (.list 1 [[(I 233)]]) (atP o0 0) fun r1 =>
  call impl_Hash [.one r1] fun o2 =>
  rt [.sc] [(atP o2 0)] k) u0
 | _, _ => False
abbrev impl_HeadDigest_e : Ent := ⟨[66], impl_HeadDigest⟩
theorem impl_HeadDigest_w : EntOK Tryz.prog TT impl_HeadDigest_e := ent_ok tabok (L := [impl_HeadInts_e, impl_Hash_e]) ⟨impl_HeadInts_w, impl_Hash_w, trivial⟩ (keep := []) (l := []) Tryz.func66 (by kernel_rfl) (sg := [.one (.sc)]) (by kernel_rfl) trivial fun av k h => by
  unfold impl_HeadDigest at h; split at h
  · apply un_all h; clear h; intro a0 a1 a2 a3 a4 a5 a6 a7 a8 a9 a10 a11 a12 a13 a14 a15 h; exact Eq.mpr (by kernel_rfl) h
  · exact h.elim

def impl_isNext : GM
 | [.agg u0, .agg u1], k => un 16 (fun a0 a1 a2 a3 a4 a5 a6 a7 a8 a9 a10 a11 a12 a13 a14 a15 => un 16 (fun a16 a17 a18 a19 a20 a21 a22 a23 a24 a25 a26 a27 a28 a29 a30 a31 => 
  binP .eql a16 a0 fun r0 =>
  iteP r0
   (binP .add a1 (I 1) fun r1 =>
   binP .eql a17 r1 fun r2 =>
   iteP r2
    (call impl_HeadDigest [.agg [a0, a1, a2, a3, a4, a5, a6, a7, a8, a9, a10, a11, a12, a13, a14, a15]] fun o3 =>
    binP .eql a23 (atP o3 0) fun r4 =>
    iteP r4
     (binP .geq a19 a3 fun r5 =>
     rt [.sc] [r5] k)
     (rt [.sc] [(.bool false)] k))
    (rt [.sc] [(.bool false)] k))
   (rt [.sc] [(.bool false)] k)) u1) u0
 | _, _ => False
abbrev impl_isNext_e : Ent := ⟨[369], impl_isNext⟩
theorem impl_isNext_w : EntOK Tryz.prog TT impl_isNext_e := ent_ok tabok (L := [impl_HeadDigest_e]) ⟨impl_HeadDigest_w, trivial⟩ (keep := []) (l := []) Tryz.func369 (by kernel_rfl) (sg := [.one (.sc)]) (by kernel_rfl) trivial fun av k h => by
  unfold impl_isNext at h; split at h
  · apply un_all h; clear h; intro a0 a1 a2 a3 a4 a5 a6 a7 a8 a9 a10 a11 a12 a13 a14 a15 h; apply un_all h; clear h; intro a16 a17 a18 a19 a20 a21 a22 a23 a24 a25 a26 a27 a28 a29 a30 a31 h; exact Eq.mpr (by kernel_rfl) h
  · exact h.elim

def impl_ownerCode : GM
 | [.agg u0, .agg u1], k => un 16 (fun a0 a1 a2 a3 a4 a5 a6 a7 a8 a9 a10 a11 a12 a13 a14 a15 => un 17 (fun a16 a17 a18 a19 a20 a21 a22 a23 a24 a25 a26 a27 a28 a29 a30 a31 a32 => 
  iteP a15
   (rt [.sc] [(I 4)] k)
   (iteP a31
    (rt [.sc] [(I 6)] k)
    (call impl_Signed_isSignedBy [.agg [a16, a17, a18, a19, a20, a21, a22, a23, a24, a25, a26, a27, a28, a29, a30, a31, a32], .agg [a8, a9]] fun o0 =>
    unP .not (atP o0 0) fun r1 =>
    iteP r1
     (rt [.sc] [(I 7)] k)
     (rt [.sc] [(I 1)] k)))) u1) u0
 | _, _ => False
abbrev impl_ownerCode_e : Ent := ⟨[370], impl_ownerCode⟩
theorem impl_ownerCode_w : EntOK Tryz.prog TT impl_ownerCode_e := ent_ok tabok (L := [impl_Signed_isSignedBy_e]) ⟨impl_Signed_isSignedBy_w, trivial⟩ (keep := []) (l := []) Tryz.func370 (by kernel_rfl) (sg := [.one (.sc)]) (by kernel_rfl) trivial fun av k h => by
  unfold impl_ownerCode at h; split at h
  · apply un_all h; clear h; intro a0 a1 a2 a3 a4 a5 a6 a7 a8 a9 a10 a11 a12 a13 a14 a15 h; apply un_all h; clear h; intro a16 a17 a18 a19 a20 a21 a22 a23 a24 a25 a26 a27 a28 a29 a30 a31 a32 h; exact Eq.mpr (by kernel_rfl) h
  · exact h.elim

def slices_Equal_int_r0 (v : List PV) (K : List PV → Prop) (x0k : Prop) (x1k : PV → PV → PV → PV → PV → Prop) : Prop :=
 un 5 (fun v0 v1 v2 v3 v4 =>
  binP .lss v4 v3 fun r0 =>
  iteP r0
   (elemP 1 v0 v4 fun c1 =>
   elemP 1 v1 v4 fun c2 =>
   binP .neq (atP c1 0) (atP c2 0) fun r3 =>
   iteP r3
    (x0k)
    (binP .add v4 (I 1) fun r4 =>
    K [v0, v1, v2, v3, r4]))
   (x1k v0 v1 v2 v3 v4)) v
def slices_Equal_int : GM
 | [.one a0, .one a1], k => 
  lenP a0 fun r0 =>
  lenP a1 fun r1 =>
  binP .neq r0 r1 fun r2 =>
  iteP r2
   (rt [.sc] [(.bool false)] k)
   (lenP a0 fun r3 =>
   lp (fun L w => slices_Equal_int_r0 w L
    (rt [.sc] [(.bool false)] k)
    (fun q5 q6 q7 q8 q9 => rt [.sc] [(.bool true)] k)) [a0, a1, (.bool false), r3, (I 0)])
 | _, _ => False
abbrev slices_Equal_int_e : Ent := ⟨[134], slices_Equal_int⟩
def slices_Equal_int_l : List LE := [⟨0, ⟨[(0, .one (.pv (.bool false))), (1, .one (.pv (.bool false))), (4, .one (.pv (.bool false))), (12, .one (.pv (.bool false))), (13, .one (.pv (.bool false)))], [], [], 0, 26⟩, fun K k v => slices_Equal_int_r0 v K (k .ret ⟨[(4, .one (.kb false))], [], [], 0, 26⟩) (fun x0 x1 x2 x3 x4 => k (.exit 0) ⟨[(0, .one (.pv x0)), (1, .one (.pv x1)), (4, .one (.pv x2)), (12, .one (.pv x3)), (13, .one (.pv x4))], [], [], 0, 26⟩)⟩]
theorem slices_Equal_int_s : LEsOK (orac []) TT (kk [0, 1, 4, 12, 13]) (sumsOf slices_Equal_int_l) Tryz.f134 slices_Equal_int_l := ⟨fun v K k h => by
  apply un_all h; exact fun v0 v1 v2 v3 v4 h => Eq.mpr (by kernel_rfl) h
  , trivial⟩
theorem slices_Equal_int_w : EntOK Tryz.prog TT slices_Equal_int_e := ent_ok tabok (L := []) trivial (keep := (kk [0, 1, 4, 12, 13])) (l := slices_Equal_int_l) Tryz.func134 (by kernel_rfl) (sg := [.one (.sc)]) (by kernel_rfl) slices_Equal_int_s fun av k h => by
  unfold slices_Equal_int at h; split at h
  · exact Eq.mpr (by kernel_rfl) h
  · exact h.elim

def impl_EqualKeys : GM
 | [.agg u0, .agg u1], k => un 2 (fun a0 a1 => un 2 (fun a2 a3 => 
  call slices_Equal_int [.one a0, .one a2] fun o0 =>
  iteP (atP o0 0)
   (binP .eql a1 a3 fun r1 =>
   rt [.sc] [r1] k)
   (rt [.sc] [(.bool false)] k)) u1) u0
 | _, _ => False
abbrev impl_EqualKeys_e : Ent := ⟨[280], impl_EqualKeys⟩
theorem impl_EqualKeys_w : EntOK Tryz.prog TT impl_EqualKeys_e := ent_ok tabok (L := [slices_Equal_int_e]) ⟨slices_Equal_int_w, trivial⟩ (keep := []) (l := []) Tryz.func280 (by kernel_rfl) (sg := [.one (.sc)]) (by kernel_rfl) trivial fun av k h => by
  unfold impl_EqualKeys at h; split at h
  · apply un_all h; clear h; intro a0 a1 h; apply un_all h; clear h; intro a2 a3 h; exact Eq.mpr (by kernel_rfl) h
  · exact h.elim

def impl_SameContents : GM
 | [.agg u0, .agg u1], k => un 16 (fun a0 a1 a2 a3 a4 a5 a6 a7 a8 a9 a10 a11 a12 a13 a14 a15 => un 16 (fun a16 a17 a18 a19 a20 a21 a22 a23 a24 a25 a26 a27 a28 a29 a30 a31 => 
  binP .eql a5 a21 fun r0 =>
  iteP r0
   (binP .eql a6 a22 fun r1 =>
   rt [.sc] [r1] k)
   (rt [.sc] [(.bool false)] k)) u1) u0
 | _, _ => False
abbrev impl_SameContents_e : Ent := ⟨[386], impl_SameContents⟩
theorem impl_SameContents_w : EntOK Tryz.prog TT impl_SameContents_e := ent_ok tabok (L := []) trivial (keep := []) (l := []) Tryz.func386 (by kernel_rfl) (sg := [.one (.sc)]) (by kernel_rfl) trivial fun av k h => by
  unfold impl_SameContents at h; split at h
  · apply un_all h; clear h; intro a0 a1 a2 a3 a4 a5 a6 a7 a8 a9 a10 a11 a12 a13 a14 a15 h; apply un_all h; clear h; intro a16 a17 a18 a19 a20 a21 a22 a23 a24 a25 a26 a27 a28 a29 a30 a31 h; exact Eq.mpr (by kernel_rfl) h
  · exact h.elim

def impl_heirCode : GM
 | [.agg u0, .agg u1], k => un 16 (fun a0 a1 a2 a3 a4 a5 a6 a7 a8 a9 a10 a11 a12 a13 a14 a15 => un 17 (fun a16 a17 a18 a19 a20 a21 a22 a23 a24 a25 a26 a27 a28 a29 a30 a31 a32 => 
  iteP a15
   (rt [.sc] [(I 4)] k)
   (call impl_NoKeys [.agg [a10, a11]] fun o0 =>
   iteP (atP o0 0)
    (rt [.sc] [(I 5)] k)
    (binP .add a4 a12 fun r1 =>
    binP .lss a19 r1 fun r2 =>
    iteP r2
     (rt [.sc] [(I 5)] k)
     (iteP a31
      (rt [.sc] [(I 6)] k)
      (call impl_EqualKeys [.agg [a24, a25], .agg [a10, a11]] fun o3 =>
      unP .not (atP o3 0) fun r4 =>
      iteP r4
       (rt [.sc] [(I 6)] k)
       (call impl_SameContents [.agg [a16, a17, a18, a19, a20, a21, a22, a23, a24, a25, a26, a27, a28, a29, a30, a31], .agg [a0, a1, a2, a3, a4, a5, a6, a7, a8, a9, a10, a11, a12, a13, a14, a15]] fun o5 =>
       unP .not (atP o5 0) fun r6 =>
       iteP r6
        (rt [.sc] [(I 6)] k)
        (call impl_Signed_isSignedBy [.agg [a16, a17, a18, a19, a20, a21, a22, a23, a24, a25, a26, a27, a28, a29, a30, a31, a32], .agg [a10, a11]] fun o7 =>
        unP .not (atP o7 0) fun r8 =>
        iteP r8
         (rt [.sc] [(I 7)] k)
         (rt [.sc] [(I 1)] k)))))))) u1) u0
 | _, _ => False
abbrev impl_heirCode_e : Ent := ⟨[371], impl_heirCode⟩
theorem impl_heirCode_w : EntOK Tryz.prog TT impl_heirCode_e := ent_ok tabok (L := [impl_NoKeys_e, impl_EqualKeys_e, impl_SameContents_e, impl_Signed_isSignedBy_e]) ⟨impl_NoKeys_w, impl_EqualKeys_w, impl_SameContents_w, impl_Signed_isSignedBy_w, trivial⟩ (keep := []) (l := []) Tryz.func371 (by kernel_rfl) (sg := [.one (.sc)]) (by kernel_rfl) trivial fun av k h => by
  unfold impl_heirCode at h; split at h
  · apply un_all h; clear h; intro a0 a1 a2 a3 a4 a5 a6 a7 a8 a9 a10 a11 a12 a13 a14 a15 h; apply un_all h; clear h; intro a16 a17 a18 a19 a20 a21 a22 a23 a24 a25 a26 a27 a28 a29 a30 a31 a32 h; exact Eq.mpr (by kernel_rfl) h
  · exact h.elim

def impl_judgeCode : GM
 | [.agg u0, .agg u1], k => un 16 (fun a0 a1 a2 a3 a4 a5 a6 a7 a8 a9 a10 a11 a12 a13 a14 a15 => un 17 (fun a16 a17 a18 a19 a20 a21 a22 a23 a24 a25 a26 a27 a28 a29 a30 a31 a32 => 
  call impl_SameContents [.agg [a16, a17, a18, a19, a20, a21, a22, a23, a24, a25, a26, a27, a28, a29, a30, a31], .agg [a0, a1, a2, a3, a4, a5, a6, a7, a8, a9, a10, a11, a12, a13, a14, a15]] fun o0 =>
  iteP (atP o0 0)
   (call impl_EqualKeys [.agg [a29, a30], .agg [a13, a14]] fun o1 =>
   iteP (atP o1 0)
    (call impl_EqualKeys [.agg [a26, a27], .agg [a10, a11]] fun o2 =>
    iteP (atP o2 0)
     (binP .eql a28 a12 fun r3 =>
     call impl_NoKeys [.agg [a13, a14]] fun o4 =>
     iteP (atP o4 0)
      (rt [.sc] [(I 5)] k)
      (boolP .eql a31 a15 fun r5 =>
      iteP r5
       (rt [.sc] [(I 6)] k)
       (unP .not r3 fun r6 =>
       iteP r6
        (rt [.sc] [(I 6)] k)
        (iteP a31
         (call impl_EqualKeys [.agg [a24, a25], .agg [a8, a9]] fun o7 =>
         unP .not (atP o7 0) fun r8 =>
         iteP r8
          (rt [.sc] [(I 6)] k)
          (call impl_Signed_isSignedBy [.agg [a16, a17, a18, a19, a20, a21, a22, a23, a24, a25, a26, a27, a28, a29, a30, a31, a32], .agg [a13, a14]] fun o9 =>
          unP .not (atP o9 0) fun r10 =>
          iteP r10
           (rt [.sc] [(I 7)] k)
           (rt [.sc] [(I 1)] k)))
         (call impl_Signed_isSignedBy [.agg [a16, a17, a18, a19, a20, a21, a22, a23, a24, a25, a26, a27, a28, a29, a30, a31, a32], .agg [a13, a14]] fun o11 =>
         unP .not (atP o11 0) fun r12 =>
         iteP r12
          (rt [.sc] [(I 7)] k)
          (rt [.sc] [(I 1)] k))))))
     (call impl_NoKeys [.agg [a13, a14]] fun o13 =>
     iteP (atP o13 0)
      (rt [.sc] [(I 5)] k)
      (boolP .eql a31 a15 fun r14 =>
      iteP r14
       (rt [.sc] [(I 6)] k)
       (rt [.sc] [(I 6)] k))))
    (call impl_NoKeys [.agg [a13, a14]] fun o15 =>
    iteP (atP o15 0)
     (rt [.sc] [(I 5)] k)
     (boolP .eql a31 a15 fun r16 =>
     iteP r16
      (rt [.sc] [(I 6)] k)
      (rt [.sc] [(I 6)] k))))
   (call impl_NoKeys [.agg [a13, a14]] fun o17 =>
   iteP (atP o17 0)
    (rt [.sc] [(I 5)] k)
    (boolP .eql a31 a15 fun r18 =>
    iteP r18
     (rt [.sc] [(I 6)] k)
     (rt [.sc] [(I 6)] k)))) u1) u0
 | _, _ => False
abbrev impl_judgeCode_e : Ent := ⟨[372], impl_judgeCode⟩
theorem impl_judgeCode_w : EntOK Tryz.prog TT impl_judgeCode_e := ent_ok tabok (L := [impl_SameContents_e, impl_EqualKeys_e, impl_NoKeys_e, impl_Signed_isSignedBy_e]) ⟨impl_SameContents_w, impl_EqualKeys_w, impl_NoKeys_w, impl_Signed_isSignedBy_w, trivial⟩ (keep := []) (l := []) Tryz.func372 (by kernel_rfl) (sg := [.one (.sc)]) (by kernel_rfl) trivial fun av k h => by
  unfold impl_judgeCode at h; split at h
  · apply un_all h; clear h; intro a0 a1 a2 a3 a4 a5 a6 a7 a8 a9 a10 a11 a12 a13 a14 a15 h; apply un_all h; clear h; intro a16 a17 a18 a19 a20 a21 a22 a23 a24 a25 a26 a27 a28 a29 a30 a31 a32 h; exact Eq.mpr (by kernel_rfl) h
  · exact h.elim

def impl_NextCode : GM
 | [.agg u0, .agg u1], k => un 16 (fun a0 a1 a2 a3 a4 a5 a6 a7 a8 a9 a10 a11 a12 a13 a14 a15 => un 17 (fun a16 a17 a18 a19 a20 a21 a22 a23 a24 a25 a26 a27 a28 a29 a30 a31 a32 => 
  call impl_IsHead [.agg [a0, a1, a2, a3, a4, a5, a6, a7, a8, a9, a10, a11, a12, a13, a14, a15]] fun o0 =>
  unP .not (atP o0 0) fun r1 =>
  iteP r1
   (rt [.sc] [(I 2)] k)
   (call impl_IsHead [.agg [a16, a17, a18, a19, a20, a21, a22, a23, a24, a25, a26, a27, a28, a29, a30, a31]] fun o2 =>
   unP .not (atP o2 0) fun r3 =>
   iteP r3
    (rt [.sc] [(I 2)] k)
    (call impl_isNext [.agg [a0, a1, a2, a3, a4, a5, a6, a7, a8, a9, a10, a11, a12, a13, a14, a15], .agg [a16, a17, a18, a19, a20, a21, a22, a23, a24, a25, a26, a27, a28, a29, a30, a31]] fun o4 =>
    unP .not (atP o4 0) fun r5 =>
    iteP r5
     (rt [.sc] [(I 3)] k)
     (binP .eql a18 (I 1) fun r6 =>
     iteP r6
      (call impl_ownerCode [.agg [a0, a1, a2, a3, a4, a5, a6, a7, a8, a9, a10, a11, a12, a13, a14, a15], .agg [a16, a17, a18, a19, a20, a21, a22, a23, a24, a25, a26, a27, a28, a29, a30, a31, a32]] fun o7 =>
      rt [.sc] [(atP o7 0)] k)
      (binP .eql a18 (I 2) fun r8 =>
      iteP r8
       (call impl_heirCode [.agg [a0, a1, a2, a3, a4, a5, a6, a7, a8, a9, a10, a11, a12, a13, a14, a15], .agg [a16, a17, a18, a19, a20, a21, a22, a23, a24, a25, a26, a27, a28, a29, a30, a31, a32]] fun o9 =>
       rt [.sc] [(atP o9 0)] k)
       (call impl_judgeCode [.agg [a0, a1, a2, a3, a4, a5, a6, a7, a8, a9, a10, a11, a12, a13, a14, a15], .agg [a16, a17, a18, a19, a20, a21, a22, a23, a24, a25, a26, a27, a28, a29, a30, a31, a32]] fun o10 =>
       rt [.sc] [(atP o10 0)] k)))))) u1) u0
 | _, _ => False
abbrev impl_NextCode_e : Ent := ⟨[342], impl_NextCode⟩
theorem impl_NextCode_w : EntOK Tryz.prog TT impl_NextCode_e := ent_ok tabok (L := [impl_IsHead_e, impl_isNext_e, impl_ownerCode_e, impl_heirCode_e, impl_judgeCode_e]) ⟨impl_IsHead_w, impl_isNext_w, impl_ownerCode_w, impl_heirCode_w, impl_judgeCode_w, trivial⟩ (keep := []) (l := []) Tryz.func342 (by kernel_rfl) (sg := [.one (.sc)]) (by kernel_rfl) trivial fun av k h => by
  unfold impl_NextCode at h; split at h
  · apply un_all h; clear h; intro a0 a1 a2 a3 a4 a5 a6 a7 a8 a9 a10 a11 a12 a13 a14 a15 h; apply un_all h; clear h; intro a16 a17 a18 a19 a20 a21 a22 a23 a24 a25 a26 a27 a28 a29 a30 a31 a32 h; exact Eq.mpr (by kernel_rfl) h
  · exact h.elim

def impl_MayFollow : GM
 | [.agg u0, .agg u1], k => un 16 (fun a0 a1 a2 a3 a4 a5 a6 a7 a8 a9 a10 a11 a12 a13 a14 a15 => un 17 (fun a16 a17 a18 a19 a20 a21 a22 a23 a24 a25 a26 a27 a28 a29 a30 a31 a32 => 
  call impl_NextCode [.agg [a0, a1, a2, a3, a4, a5, a6, a7, a8, a9, a10, a11, a12, a13, a14, a15], .agg [a16, a17, a18, a19, a20, a21, a22, a23, a24, a25, a26, a27, a28, a29, a30, a31, a32]] fun o0 =>
  binP .eql (atP o0 0) (I 1) fun r1 =>
  rt [.sc] [r1] k) u1) u0
 | _, _ => False
abbrev impl_MayFollow_e : Ent := ⟨[308], impl_MayFollow⟩
theorem impl_MayFollow_w : EntOK Tryz.prog TT impl_MayFollow_e := ent_ok tabok (L := [impl_NextCode_e]) ⟨impl_NextCode_w, trivial⟩ (keep := []) (l := []) Tryz.func308 (by kernel_rfl) (sg := [.one (.sc)]) (by kernel_rfl) trivial fun av k h => by
  unfold impl_MayFollow at h; split at h
  · apply un_all h; clear h; intro a0 a1 a2 a3 a4 a5 a6 a7 a8 a9 a10 a11 a12 a13 a14 a15 h; apply un_all h; clear h; intro a16 a17 a18 a19 a20 a21 a22 a23 a24 a25 a26 a27 a28 a29 a30 a31 a32 h; exact Eq.mpr (by kernel_rfl) h
  · exact h.elim

def impl_FirstWrong_r0 (v : List PV) (K : List PV → Prop) (x0k : PV → PV → PV → PV → PV → PV → PV → PV → PV → PV → PV → PV → PV → PV → PV → PV → PV → PV → Prop) (x1k : PV → PV → PV → PV → PV → PV → PV → PV → PV → PV → PV → PV → PV → PV → PV → PV → PV → PV → Prop) (x2k : PV → PV → PV → PV → PV → Prop) : Prop :=
 un 5 (fun v0 v1 v2 v3 v4 =>
  binP .lss v4 v3 fun r0 =>
  iteP r0
   (elemP 17 v2 v4 fun c1 =>
   binP .eql v4 (I 0) fun r2 =>
   iteP r2
    (call impl_IsFirst [.agg [(atP c1 0), (atP c1 1), (atP c1 2), (atP c1 3), (atP c1 4), (atP c1 5), (atP c1 6), (atP c1 7), (atP c1 8), (atP c1 9), (atP c1 10), (atP c1 11), (atP c1 12), (atP c1 13), (atP c1 14), (atP c1 15), (atP c1 16)]] fun o3 =>
    unP .not (atP o3 0) fun r4 =>
    iteP r4
     (x0k v4 (atP c1 0) (atP c1 1) (atP c1 2) (atP c1 3) (atP c1 4) (atP c1 5) (atP c1 6) (atP c1 7) (atP c1 8) (atP c1 9) (atP c1 10) (atP c1 11) (atP c1 12) (atP c1 13) (atP c1 14) (atP c1 15) (atP c1 16))
     (binP .gtr v4 (I 0) fun r5 =>
     iteP r5
      (binP .sub v4 (I 1) fun r6 =>
      elemP 17 v0 r6 fun c7 =>
      call impl_MayFollow [.agg [(atP c7 0), (atP c7 1), (atP c7 2), (atP c7 3), (atP c7 4), (atP c7 5), (atP c7 6), (atP c7 7), (atP c7 8), (atP c7 9), (atP c7 10), (atP c7 11), (atP c7 12), (atP c7 13), (atP c7 14), (atP c7 15)], .agg [(atP c1 0), (atP c1 1), (atP c1 2), (atP c1 3), (atP c1 4), (atP c1 5), (atP c1 6), (atP c1 7), (atP c1 8), (atP c1 9), (atP c1 10), (atP c1 11), (atP c1 12), (atP c1 13), (atP c1 14), (atP c1 15), (atP c1 16)]] fun o8 =>
      unP .not (atP o8 0) fun r9 =>
      iteP r9
       (x1k v4 (atP c1 0) (atP c1 1) (atP c1 2) (atP c1 3) (atP c1 4) (atP c1 5) (atP c1 6) (atP c1 7) (atP c1 8) (atP c1 9) (atP c1 10) (atP c1 11) (atP c1 12) (atP c1 13) (atP c1 14) (atP c1 15) (atP c1 16))
       (binP .add v4 (I 1) fun r10 =>
       K [v0, v1, v2, v3, r10]))
      (binP .add v4 (I 1) fun r11 =>
      K [v0, v1, v2, v3, r11])))
    (binP .gtr v4 (I 0) fun r12 =>
    iteP r12
     (binP .sub v4 (I 1) fun r13 =>
     elemP 17 v0 r13 fun c14 =>
     call impl_MayFollow [.agg [(atP c14 0), (atP c14 1), (atP c14 2), (atP c14 3), (atP c14 4), (atP c14 5), (atP c14 6), (atP c14 7), (atP c14 8), (atP c14 9), (atP c14 10), (atP c14 11), (atP c14 12), (atP c14 13), (atP c14 14), (atP c14 15)], .agg [(atP c1 0), (atP c1 1), (atP c1 2), (atP c1 3), (atP c1 4), (atP c1 5), (atP c1 6), (atP c1 7), (atP c1 8), (atP c1 9), (atP c1 10), (atP c1 11), (atP c1 12), (atP c1 13), (atP c1 14), (atP c1 15), (atP c1 16)]] fun o15 =>
     unP .not (atP o15 0) fun r16 =>
     iteP r16
      (x0k v4 (atP c1 0) (atP c1 1) (atP c1 2) (atP c1 3) (atP c1 4) (atP c1 5) (atP c1 6) (atP c1 7) (atP c1 8) (atP c1 9) (atP c1 10) (atP c1 11) (atP c1 12) (atP c1 13) (atP c1 14) (atP c1 15) (atP c1 16))
      (binP .add v4 (I 1) fun r17 =>
      K [v0, v1, v2, v3, r17]))
     (binP .add v4 (I 1) fun r18 =>
     K [v0, v1, v2, v3, r18])))
   (x2k v0 v1 v2 v3 v4)) v
def impl_FirstWrong : GM
 | [.one a0], k => 
  lenP a0 fun r0 =>
  lp (fun L w => impl_FirstWrong_r0 w L
   (fun q19 q20 q21 q22 q23 q24 q25 q26 q27 q28 q29 q30 q31 q32 q33 q34 q35 q36 => rt [.sc] [q19] k)
   (fun q37 q38 q39 q40 q41 q42 q43 q44 q45 q46 q47 q48 q49 q50 q51 q52 q53 q54 => rt [.sc] [q37] k)
   (fun q55 q56 q57 q58 q59 => rt [.sc] [(I (-1))] k)) [a0, (I 0), a0, r0, (I 0)]
 | _, _ => False
abbrev impl_FirstWrong_e : Ent := ⟨[262], impl_FirstWrong⟩
def impl_FirstWrong_l : List LE := [⟨0, ⟨[(0, .one (.pv (.bool false))), (2, .one (.pv (.bool false))), (5, .one (.pv (.bool false))), (6, .one (.pv (.bool false))), (7, .one (.pv (.bool false)))], [], [], 0, 36⟩, fun K k v => impl_FirstWrong_r0 v K (fun x0 x1 x2 x3 x4 x5 x6 x7 x8 x9 x10 x11 x12 x13 x14 x15 x16 x17 => k .ret ⟨[(2, .one (.pv x0))], [(0, [.pv x1, .pv x2, .pv x3, .pv x4, .pv x5, .pv x6, .pv x7, .pv x8, .pv x9, .pv x10, .pv x11, .pv x12, .pv x13, .pv x14, .pv x15, .pv x16, .pv x17]), (0, [.pv (I 0), .pv (I 0), .pv (I 0), .pv (I 0), .pv (I 0), .pv (I 0), .pv (I 0), .pv (I 0), .nil 3 1, .pv (I 0), .nil 3 1, .pv (I 0), .pv (I 0), .nil 3 1, .pv (I 0), .pv (.bool false), .nil 251 2])], [], 2, 36⟩) (fun x0 x1 x2 x3 x4 x5 x6 x7 x8 x9 x10 x11 x12 x13 x14 x15 x16 x17 => k .ret ⟨[(2, .one (.pv x0))], [(0, [.pv x1, .pv x2, .pv x3, .pv x4, .pv x5, .pv x6, .pv x7, .pv x8, .pv x9, .pv x10, .pv x11, .pv x12, .pv x13, .pv x14, .pv x15, .pv x16, .pv x17]), (0, [.pv (I 0), .pv (I 0), .pv (I 0), .pv (I 0), .pv (I 0), .pv (I 0), .pv (I 0), .pv (I 0), .nil 3 1, .pv (I 0), .nil 3 1, .pv (I 0), .pv (I 0), .nil 3 1, .pv (I 0), .pv (.bool false), .nil 251 2])], [], 3, 36⟩) (fun x0 x1 x2 x3 x4 => k (.exit 0) ⟨[(0, .one (.pv x0)), (2, .one (.pv x1)), (5, .one (.pv x2)), (6, .one (.pv x3)), (7, .one (.pv x4))], [], [], 0, 36⟩)⟩]
theorem impl_FirstWrong_s : LEsOK (orac [impl_IsFirst_e, impl_MayFollow_e]) TT (kk [0, 2, 5, 6, 7, 15, 16, 17, 20, 21, 22, 23, 24, 25, 26, 27, 28, 29, 30, 31, 32]) (sumsOf impl_FirstWrong_l) Tryz.f262 impl_FirstWrong_l := ⟨fun v K k h => by
  apply un_all h; exact fun v0 v1 v2 v3 v4 h => Eq.mpr (by kernel_rfl) h
  , trivial⟩
theorem impl_FirstWrong_w : EntOK Tryz.prog TT impl_FirstWrong_e := ent_ok tabok (L := [impl_IsFirst_e, impl_MayFollow_e]) ⟨impl_IsFirst_w, impl_MayFollow_w, trivial⟩ (keep := (kk [0, 2, 5, 6, 7, 15, 16, 17, 20, 21, 22, 23, 24, 25, 26, 27, 28, 29, 30, 31, 32])) (l := impl_FirstWrong_l) Tryz.func262 (by kernel_rfl) (sg := [.one (.sc)]) (by kernel_rfl) impl_FirstWrong_s fun av k h => by
  unfold impl_FirstWrong at h; split at h
  · exact Eq.mpr (by kernel_rfl) h
  · exact h.elim

def impl_IsChain : GM
 | [.one a0], k => 
  lenP a0 fun r0 =>
  call impl_InRange [.one r0, .one (I 1), .one (I 12)] fun o1 =>
  iteP (atP o1 0)
   (call impl_FirstWrong [.one a0] fun o2 =>
   binP .lss (atP o2 0) (I 0) fun r3 =>
   rt [.sc] [r3] k)
   (rt [.sc] [(.bool false)] k)
 | _, _ => False
abbrev impl_IsChain_e : Ent := ⟨[175], impl_IsChain⟩
theorem impl_IsChain_w : EntOK Tryz.prog TT impl_IsChain_e := ent_ok tabok (L := [impl_InRange_e, impl_FirstWrong_e]) ⟨impl_InRange_w, impl_FirstWrong_w, trivial⟩ (keep := []) (l := []) Tryz.func175 (by kernel_rfl) (sg := [.one (.sc)]) (by kernel_rfl) trivial fun av k h => by
  unfold impl_IsChain at h; split at h
  · exact Eq.mpr (by kernel_rfl) h
  · exact h.elim

def impl_EqualHeads : GM
 | [.agg u0, .agg u1], k => un 16 (fun a0 a1 a2 a3 a4 a5 a6 a7 a8 a9 a10 a11 a12 a13 a14 a15 => un 16 (fun a16 a17 a18 a19 a20 a21 a22 a23 a24 a25 a26 a27 a28 a29 a30 a31 => 
  call impl_EqualKeys [.agg [a8, a9], .agg [a24, a25]] fun o0 =>
  iteP (atP o0 0)
   (call impl_EqualKeys [.agg [a10, a11], .agg [a26, a27]] fun o1 =>
   iteP (atP o1 0)
    (call impl_EqualKeys [.agg [a13, a14], .agg [a29, a30]] fun o2 =>
    iteP (atP o2 0)
     (call impl_HeadInts [.agg [a0, a1, a2, a3, a4, a5, a6, a7, a8, a9, a10, a11, a12, a13, a14, a15]] fun o3 =>
     call impl_HeadInts [.agg [a16, a17, a18, a19, a20, a21, a22, a23, a24, a25, a26, a27, a28, a29, a30, a31]] fun o4 =>
     call slices_Equal_int [.one (atP o3 0), .one (atP o4 0)] fun o5 =>
     rt [.sc] [(atP o5 0)] k)
     (rt [.sc] [(.bool false)] k))
    (rt [.sc] [(.bool false)] k))
   (rt [.sc] [(.bool false)] k)) u1) u0
 | _, _ => False
abbrev impl_EqualHeads_e : Ent := ⟨[200], impl_EqualHeads⟩
theorem impl_EqualHeads_w : EntOK Tryz.prog TT impl_EqualHeads_e := ent_ok tabok (L := [impl_EqualKeys_e, impl_HeadInts_e, slices_Equal_int_e]) ⟨impl_EqualKeys_w, impl_HeadInts_w, slices_Equal_int_w, trivial⟩ (keep := []) (l := []) Tryz.func200 (by kernel_rfl) (sg := [.one (.sc)]) (by kernel_rfl) trivial fun av k h => by
  unfold impl_EqualHeads at h; split at h
  · apply un_all h; clear h; intro a0 a1 a2 a3 a4 a5 a6 a7 a8 a9 a10 a11 a12 a13 a14 a15 h; apply un_all h; clear h; intro a16 a17 a18 a19 a20 a21 a22 a23 a24 a25 a26 a27 a28 a29 a30 a31 h; exact Eq.mpr (by kernel_rfl) h
  · exact h.elim

def impl_IsPrefix_r0 (v : List PV) (K : List PV → Prop) (x0k : PV → PV → PV → PV → PV → PV → PV → PV → PV → PV → PV → PV → PV → PV → PV → PV → PV → Prop) (x1k : PV → PV → PV → PV → PV → Prop) : Prop :=
 un 5 (fun v0 v1 v2 v3 v4 =>
  binP .lss v4 v3 fun r0 =>
  iteP r0
   (elemP 17 v2 v4 fun c1 =>
   elemP 17 v0 v4 fun c2 =>
   call impl_EqualHeads [.agg [(atP c1 0), (atP c1 1), (atP c1 2), (atP c1 3), (atP c1 4), (atP c1 5), (atP c1 6), (atP c1 7), (atP c1 8), (atP c1 9), (atP c1 10), (atP c1 11), (atP c1 12), (atP c1 13), (atP c1 14), (atP c1 15)], .agg [(atP c2 0), (atP c2 1), (atP c2 2), (atP c2 3), (atP c2 4), (atP c2 5), (atP c2 6), (atP c2 7), (atP c2 8), (atP c2 9), (atP c2 10), (atP c2 11), (atP c2 12), (atP c2 13), (atP c2 14), (atP c2 15)]] fun o3 =>
   unP .not (atP o3 0) fun r4 =>
   iteP r4
    (x0k (atP c1 0) (atP c1 1) (atP c1 2) (atP c1 3) (atP c1 4) (atP c1 5) (atP c1 6) (atP c1 7) (atP c1 8) (atP c1 9) (atP c1 10) (atP c1 11) (atP c1 12) (atP c1 13) (atP c1 14) (atP c1 15) (atP c1 16))
    (binP .add v4 (I 1) fun r5 =>
    K [v0, v1, v2, v3, r5]))
   (x1k v0 v1 v2 v3 v4)) v
def impl_IsPrefix : GM
 | [.one a0, .one a1], k => 
  lenP a0 fun r0 =>
  lenP a1 fun r1 =>
  binP .gtr r0 r1 fun r2 =>
  iteP r2
   (rt [.sc] [(.bool false)] k)
   (lenP a0 fun r3 =>
   lp (fun L w => impl_IsPrefix_r0 w L
    (fun q6 q7 q8 q9 q10 q11 q12 q13 q14 q15 q16 q17 q18 q19 q20 q21 q22 => rt [.sc] [(.bool false)] k)
    (fun q23 q24 q25 q26 q27 => rt [.sc] [(.bool true)] k)) [a1, (.bool false), a0, r3, (I 0)])
 | _, _ => False
abbrev impl_IsPrefix_e : Ent := ⟨[95], impl_IsPrefix⟩
def impl_IsPrefix_l : List LE := [⟨0, ⟨[(1, .one (.pv (.bool false))), (4, .one (.pv (.bool false))), (12, .one (.pv (.bool false))), (13, .one (.pv (.bool false))), (14, .one (.pv (.bool false)))], [], [], 0, 29⟩, fun K k v => impl_IsPrefix_r0 v K (fun x0 x1 x2 x3 x4 x5 x6 x7 x8 x9 x10 x11 x12 x13 x14 x15 x16 => k .ret ⟨[(4, .one (.kb false))], [(0, [.pv x0, .pv x1, .pv x2, .pv x3, .pv x4, .pv x5, .pv x6, .pv x7, .pv x8, .pv x9, .pv x10, .pv x11, .pv x12, .pv x13, .pv x14, .pv x15, .pv x16]), (0, [.pv (I 0), .pv (I 0), .pv (I 0), .pv (I 0), .pv (I 0), .pv (I 0), .pv (I 0), .pv (I 0), .nil 3 1, .pv (I 0), .nil 3 1, .pv (I 0), .pv (I 0), .nil 3 1, .pv (I 0), .pv (.bool false), .nil 251 2])], [], 2, 29⟩) (fun x0 x1 x2 x3 x4 => k (.exit 0) ⟨[(1, .one (.pv x0)), (4, .one (.pv x1)), (12, .one (.pv x2)), (13, .one (.pv x3)), (14, .one (.pv x4))], [], [], 0, 29⟩)⟩]
theorem impl_IsPrefix_s : LEsOK (orac [impl_EqualHeads_e]) TT (kk [1, 4, 12, 13, 14]) (sumsOf impl_IsPrefix_l) Tryz.f95 impl_IsPrefix_l := ⟨fun v K k h => by
  apply un_all h; exact fun v0 v1 v2 v3 v4 h => Eq.mpr (by kernel_rfl) h
  , trivial⟩
theorem impl_IsPrefix_w : EntOK Tryz.prog TT impl_IsPrefix_e := ent_ok tabok (L := [impl_EqualHeads_e]) ⟨impl_EqualHeads_w, trivial⟩ (keep := (kk [1, 4, 12, 13, 14])) (l := impl_IsPrefix_l) Tryz.func95 (by kernel_rfl) (sg := [.one (.sc)]) (by kernel_rfl) impl_IsPrefix_s fun av k h => by
  unfold impl_IsPrefix at h; split at h
  · exact Eq.mpr (by kernel_rfl) h
  · exact h.elim

def slices_Clone_int : GM
 | [.one a0], k => 
  nilP false a0 fun r0 =>
  iteP r0
   (rt [.own true 3 1] [(.list 1 [])] k)
   ((0 = 0) ∧ (0 ≤ 16777216) ∧ (1 = 1) ∧ (flatRows a0) ∧ catP 1 (.list 1 []) a0 fun r1 =>
   rt [.own true 3 1] [r1] k)
 | _, _ => False
abbrev slices_Clone_int_e : Ent := ⟨[316], slices_Clone_int⟩
theorem slices_Clone_int_w : EntOK Tryz.prog TT slices_Clone_int_e := ent_ok tabok (L := []) trivial (keep := []) (l := []) Tryz.func316 (by kernel_rfl) (sg := [.one (.own true 3 1)]) (by kernel_rfl) trivial fun av k h => by
  unfold slices_Clone_int at h; split at h
  · exact Eq.mpr (by kernel_rfl) h
  · exact h.elim

def impl_copyKeys : GM
 | [.agg u0], k => un 2 (fun a0 a1 => 
  call slices_Clone_int [.one a0] fun o0 =>
  rt [.own true 3 1, .sc] [(atP o0 0), a1] k) u0
 | _, _ => False
abbrev impl_copyKeys_e : Ent := ⟨[263], impl_copyKeys⟩
theorem impl_copyKeys_w : EntOK Tryz.prog TT impl_copyKeys_e := ent_ok tabok (L := [slices_Clone_int_e]) ⟨slices_Clone_int_w, trivial⟩ (keep := []) (l := []) Tryz.func263 (by kernel_rfl) (sg := [.agg [.own true 3 1, .sc]]) (by kernel_rfl) trivial fun av k h => by
  unfold impl_copyKeys at h; split at h
  · apply un_all h; clear h; intro a0 a1 h; exact Eq.mpr (by kernel_rfl) h
  · exact h.elim

def impl_copyHead : GM
 | [.agg u0], k => un 16 (fun a0 a1 a2 a3 a4 a5 a6 a7 a8 a9 a10 a11 a12 a13 a14 a15 => 
  call impl_copyKeys [.agg [a8, a9]] fun o0 =>
  call impl_copyKeys [.agg [a10, a11]] fun o1 =>
  call impl_copyKeys [.agg [a13, a14]] fun o2 =>
  rt [.sc, .sc, .sc, .sc, .sc, .sc, .sc, .sc, .own true 3 1, .sc, .own true 3 1, .sc, .sc, .own true 3 1, .sc, .sc] [a0, a1, a2, a3, a4, a5, a6, a7, (atP o0 0), (atP o0 1), (atP o1 0), (atP o1 1), a12, (atP o2 0), (atP o2 1), a15] k) u0
 | _, _ => False
abbrev impl_copyHead_e : Ent := ⟨[176], impl_copyHead⟩
theorem impl_copyHead_w : EntOK Tryz.prog TT impl_copyHead_e := ent_ok tabok (L := [impl_copyKeys_e]) ⟨impl_copyKeys_w, trivial⟩ (keep := []) (l := []) Tryz.func176 (by kernel_rfl) (sg := [.agg [.sc, .sc, .sc, .sc, .sc, .sc, .sc, .sc, .own true 3 1, .sc, .own true 3 1, .sc, .sc, .own true 3 1, .sc, .sc]]) (by kernel_rfl) trivial fun av k h => by
  unfold impl_copyHead at h; split at h
  · apply un_all h; clear h; intro a0 a1 a2 a3 a4 a5 a6 a7 a8 a9 a10 a11 a12 a13 a14 a15 h; exact Eq.mpr (by kernel_rfl) h
  · exact h.elim

def slices_Clone_Sig : GM
 | [.one a0], k => 
  nilP false a0 fun r0 =>
  iteP r0
   (rt [.own true 251 2] [(.list 2 [])] k)
   ((0 = 0) ∧ (0 ≤ 16777216) ∧ (2 = 2) ∧ (flatRows a0) ∧ catP 2 (.list 2 []) a0 fun r1 =>
   rt [.own true 251 2] [r1] k)
 | _, _ => False
abbrev slices_Clone_Sig_e : Ent := ⟨[296], slices_Clone_Sig⟩
theorem slices_Clone_Sig_w : EntOK Tryz.prog TT slices_Clone_Sig_e := ent_ok tabok (L := []) trivial (keep := []) (l := []) Tryz.func296 (by kernel_rfl) (sg := [.one (.own true 251 2)]) (by kernel_rfl) trivial fun av k h => by
  unfold slices_Clone_Sig at h; split at h
  · exact Eq.mpr (by kernel_rfl) h
  · exact h.elim

def impl_copySigned : GM
 | [.agg u0], k => un 17 (fun a0 a1 a2 a3 a4 a5 a6 a7 a8 a9 a10 a11 a12 a13 a14 a15 a16 => 
  call impl_copyHead [.agg [a0, a1, a2, a3, a4, a5, a6, a7, a8, a9, a10, a11, a12, a13, a14, a15]] fun o0 =>
  call slices_Clone_Sig [.one a16] fun o1 =>
  rt [.sc, .sc, .sc, .sc, .sc, .sc, .sc, .sc, .own true 3 1, .sc, .own true 3 1, .sc, .sc, .own true 3 1, .sc, .sc, .own true 251 2] [(atP o0 0), (atP o0 1), (atP o0 2), (atP o0 3), (atP o0 4), (atP o0 5), (atP o0 6), (atP o0 7), (atP o0 8), (atP o0 9), (atP o0 10), (atP o0 11), (atP o0 12), (atP o0 13), (atP o0 14), (atP o0 15), (atP o1 0)] k) u0
 | _, _ => False
abbrev impl_copySigned_e : Ent := ⟨[228], impl_copySigned⟩
theorem impl_copySigned_w : EntOK Tryz.prog TT impl_copySigned_e := ent_ok tabok (L := [impl_copyHead_e, slices_Clone_Sig_e]) ⟨impl_copyHead_w, slices_Clone_Sig_w, trivial⟩ (keep := []) (l := []) Tryz.func228 (by kernel_rfl) (sg := [.agg [.sc, .sc, .sc, .sc, .sc, .sc, .sc, .sc, .own true 3 1, .sc, .own true 3 1, .sc, .sc, .own true 3 1, .sc, .sc, .own true 251 2]]) (by kernel_rfl) trivial fun av k h => by
  unfold impl_copySigned at h; split at h
  · apply un_all h; clear h; intro a0 a1 a2 a3 a4 a5 a6 a7 a8 a9 a10 a11 a12 a13 a14 a15 a16 h; exact Eq.mpr (by kernel_rfl) h
  · exact h.elim


end Go.Ev
