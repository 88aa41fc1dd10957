/- The tables of this load, and for each function the meaning that the evaluator gives it, with its proof, part 1. -/
import Derived.Test.YtneadmcfnlilmaaGreatEv4
import Derived.Lib.ItoaNum
import Derived.Test.YtneadmcfnlilmaaGreatProg
namespace Go.Ev
open Go.Proofs
def TT : Tab := ⟨[(2, tI),
  (3, tI),
  (4, tB),
  (5, ⟨false, 1, 0, 1, [], [.pv (.int .u8 0)], some .u8, 0, false⟩),
  (6, ⟨false, 1, 0, 1, [], [.pv (.int .u8 0)], some .u8, 0, false⟩),
  (7, ⟨true, 4, 0, 24, [(0, 2), (1, 3), (2, 4), (3, 6)], [zI, zI, zB, .pv (.int .u8 0)], none, 0, true⟩),
  (8, ⟨true, 4, 0, 24, [(0, 2), (1, 3), (2, 4), (3, 6)], [zI, zI, zB, .pv (.int .u8 0)], none, 0, true⟩),
  (9, tS),
  (10, tS),
  (11, tS),
  (12, ⟨false, 1, 0, 8, [], [.pv (.int .u64 0)], some .u64, 0, false⟩),
  (13, ⟨true, 2, 0, 24, [(0, 9), (1, 12)], [zS, .pv (.int .u64 0)], none, 0, false⟩),
  (14, ⟨true, 2, 0, 24, [(0, 9), (1, 12)], [zS, .pv (.int .u64 0)], none, 0, false⟩),
  (21, ⟨false, 1, 0, 4, [], [.pv (.int .i32 0)], some .i32, 0, false⟩),
  (22, ⟨false, 1, 130, 24, [], [.nil 130 1], none, 0, false⟩),
  (23, ⟨false, 1, 135, 24, [], [.nil 135 2], none, 0, false⟩),
  (24, ⟨false, 1, 138, 24, [], [.nil 138 3], none, 0, false⟩),
  (25, ⟨false, 1, 66, 24, [], [.nil 66 2], none, 0, false⟩),
  (26, ⟨false, 1, 132, 24, [], [.nil 132 1], none, 0, false⟩),
  (27, ⟨false, 1, 192, 24, [], [.nil 192 51], none, 0, false⟩),
  (28, ⟨true, 2, 0, 48, [(0, 26), (1, 27)], [.nil 132 1, .nil 192 51], none, 0, false⟩),
  (29, ⟨true, 2, 0, 48, [(0, 26), (1, 27)], [.nil 132 1, .nil 192 51], none, 0, false⟩),
  (30, ⟨false, 1, 201, 24, [], [.nil 201 23], none, 0, false⟩),
  (31, ⟨true, 1, 0, 24, [(0, 30)], [.nil 201 23], none, 0, false⟩),
  (32, ⟨true, 1, 0, 24, [(0, 30)], [.nil 201 23], none, 0, false⟩),
  (33, ⟨true, 8, 0, 176, [(0, 3), (1, 22), (2, 23), (3, 24), (4, 25), (5, 29), (7, 32)], [zI, .nil 130 1, .nil 135 2, .nil 138 3, .nil 66 2, .nil 132 1, .nil 192 51, .nil 201 23], none, 0, false⟩),
  (34, ⟨true, 8, 0, 176, [(0, 3), (1, 22), (2, 23), (3, 24), (4, 25), (5, 29), (7, 32)], [zI, .nil 130 1, .nil 135 2, .nil 138 3, .nil 66 2, .nil 132 1, .nil 192 51, .nil 201 23], none, 0, false⟩),
  (36, ⟨false, 1, 3, 24, [], [.nil 3 1], none, 0, false⟩),
  (38, ⟨false, 1, 150, 24, [], [.nil 150 1], none, 0, false⟩),
  (39, ⟨false, 1, 60, 24, [], [.nil 60 2], none, 0, false⟩),
  (40, ⟨false, 1, 154, 24, [], [.nil 154 3], none, 0, false⟩),
  (41, ⟨false, 1, 73, 24, [], [.nil 73 2], none, 0, false⟩),
  (42, ⟨false, 1, 57, 24, [], [.nil 57 1], none, 0, false⟩),
  (43, ⟨false, 1, 207, 24, [], [.nil 207 51], none, 0, false⟩),
  (44, ⟨true, 2, 0, 48, [(0, 42), (1, 43)], [.nil 57 1, .nil 207 51], none, 0, false⟩),
  (45, ⟨true, 2, 0, 48, [(0, 42), (1, 43)], [.nil 57 1, .nil 207 51], none, 0, false⟩),
  (46, ⟨false, 1, 210, 24, [], [.nil 210 23], none, 0, false⟩),
  (47, ⟨true, 1, 0, 24, [(0, 46)], [.nil 210 23], none, 0, false⟩),
  (48, ⟨true, 1, 0, 24, [(0, 46)], [.nil 210 23], none, 0, false⟩),
  (49, ⟨true, 8, 0, 176, [(0, 3), (1, 38), (2, 39), (3, 40), (4, 41), (5, 45), (7, 48)], [zI, .nil 150 1, .nil 60 2, .nil 154 3, .nil 73 2, .nil 57 1, .nil 207 51, .nil 210 23], none, 0, false⟩),
  (50, ⟨true, 8, 0, 176, [(0, 3), (1, 38), (2, 39), (3, 40), (4, 41), (5, 45), (7, 48)], [zI, .nil 150 1, .nil 60 2, .nil 154 3, .nil 73 2, .nil 57 1, .nil 207 51, .nil 210 23], none, 0, false⟩),
  (57, ⟨false, 1, 148, 24, [], [.nil 148 17], none, 0, false⟩),
  (58, ⟨false, 1, 117, 24, [], [.nil 117 4], none, 0, false⟩),
  (59, ⟨true, 2, 0, 48, [(0, 57), (1, 58)], [.nil 148 17, .nil 117 4], none, 0, false⟩),
  (60, ⟨true, 2, 0, 48, [(0, 57), (1, 58)], [.nil 148 17, .nil 117 4], none, 0, false⟩),
  (65, ⟨true, 2, 0, 32, [(0, 23), (1, 3)], [.nil 135 2, zI], none, 0, false⟩),
  (66, ⟨true, 2, 0, 32, [(0, 23), (1, 3)], [.nil 135 2, zI], none, 0, false⟩),
  (67, ⟨true, 2, 0, 16, [(0, 3), (1, 3)], [zI, zI], none, 0, true⟩),
  (68, ⟨true, 2, 0, 16, [(0, 3), (1, 3)], [zI, zI], none, 0, true⟩),
  (70, ⟨false, 1, 123, 24, [], [.nil 123 21], none, 0, false⟩),
  (72, ⟨true, 2, 0, 32, [(0, 39), (1, 3)], [.nil 60 2, zI], none, 0, false⟩),
  (73, ⟨true, 2, 0, 32, [(0, 39), (1, 3)], [.nil 60 2, zI], none, 0, false⟩),
  (75, ⟨true, 2, 0, 16, [(0, 3), (1, 3)], [zI, zI], none, 0, true⟩),
  (115, ⟨false, 1, 9, 24, [], [.nil 9 1], none, 0, false⟩),
  (116, ⟨true, 4, 0, 56, [(0, 9), (1, 3), (2, 3), (3, 115)], [zS, zI, zI, .nil 9 1], none, 0, false⟩),
  (117, ⟨true, 4, 0, 56, [(0, 9), (1, 3), (2, 3), (3, 115)], [zS, zI, zI, .nil 9 1], none, 0, false⟩),
  (118, ⟨true, 2, 0, 32, [(0, 3), (1, 36)], [zI, .nil 3 1], none, 0, false⟩),
  (119, ⟨true, 2, 0, 32, [(0, 3), (1, 36)], [zI, .nil 3 1], none, 0, false⟩),
  (120, ⟨true, 13, 0, 184, [(0, 3), (1, 117), (5, 117), (9, 119), (11, 119)], [zI, zS, zI, zI, .nil 9 1, zS, zI, zI, .nil 9 1, zI, .nil 3 1, zI, .nil 3 1], none, 0, false⟩),
  (121, ⟨true, 13, 0, 184, [(0, 3), (1, 117), (5, 117), (9, 119), (11, 119)], [zI, zS, zI, zI, .nil 9 1, zS, zI, zI, .nil 9 1, zI, .nil 3 1, zI, .nil 3 1], none, 0, false⟩),
  (122, ⟨true, 21, 0, 304, [(0, 57), (1, 4), (2, 117), (6, 119), (8, 121)], [.nil 148 17, zB, zS, zI, zI, .nil 9 1, zI, .nil 3 1, zI, zS, zI, zI, .nil 9 1, zS, zI, zI, .nil 9 1, zI, .nil 3 1, zI, .nil 3 1], none, 0, false⟩),
  (123, ⟨true, 21, 0, 304, [(0, 57), (1, 4), (2, 117), (6, 119), (8, 121)], [.nil 148 17, zB, zS, zI, zI, .nil 9 1, zI, .nil 3 1, zI, zS, zI, zI, .nil 9 1, zS, zI, zI, .nil 9 1, zI, .nil 3 1, zI, .nil 3 1], none, 0, false⟩),
  (129, ⟨true, 1, 0, 24, [(0, 36)], [.nil 3 1], none, 0, false⟩),
  (130, ⟨true, 1, 0, 24, [(0, 36)], [.nil 3 1], none, 0, false⟩),
  (132, ⟨false, 1, 190, 24, [], [.nil 190 17], none, 0, false⟩),
  (133, ⟨false, 1, 194, 24, [], [.nil 194 4], none, 0, false⟩),
  (134, ⟨true, 2, 0, 48, [(0, 132), (1, 133)], [.nil 190 17, .nil 194 4], none, 0, false⟩),
  (135, ⟨true, 2, 0, 48, [(0, 132), (1, 133)], [.nil 190 17, .nil 194 4], none, 0, false⟩),
  (137, ⟨true, 3, 0, 72, [(0, 135), (2, 36)], [.nil 190 17, .nil 194 4, .nil 3 1], none, 0, false⟩),
  (138, ⟨true, 3, 0, 72, [(0, 135), (2, 36)], [.nil 190 17, .nil 194 4, .nil 3 1], none, 0, false⟩),
  (142, ⟨true, 2, 0, 32, [(0, 36), (1, 3)], [.nil 3 1, zI], none, 0, false⟩),
  (143, ⟨true, 2, 0, 32, [(0, 36), (1, 3)], [.nil 3 1, zI], none, 0, false⟩),
  (144, ⟨true, 16, 0, 176, [(0, 3), (1, 3), (2, 3), (3, 3), (4, 3), (5, 3), (6, 3), (7, 3), (8, 143), (10, 143), (12, 3), (13, 143), (15, 4)], [zI, zI, zI, zI, zI, zI, zI, zI, .nil 3 1, zI, .nil 3 1, zI, zI, .nil 3 1, zI, zB], none, 0, false⟩),
  (145, ⟨true, 16, 0, 176, [(0, 3), (1, 3), (2, 3), (3, 3), (4, 3), (5, 3), (6, 3), (7, 3), (8, 143), (10, 143), (12, 3), (13, 143), (15, 4)], [zI, zI, zI, zI, zI, zI, zI, zI, .nil 3 1, zI, .nil 3 1, zI, zI, .nil 3 1, zI, zB], none, 0, false⟩),
  (146, ⟨false, 1, 222, 24, [], [.nil 222 2], none, 0, false⟩),
  (147, ⟨true, 17, 0, 200, [(0, 145), (16, 146)], [zI, zI, zI, zI, zI, zI, zI, zI, .nil 3 1, zI, .nil 3 1, zI, zI, .nil 3 1, zI, zB, .nil 222 2], none, 0, false⟩),
  (148, ⟨true, 17, 0, 200, [(0, 145), (16, 146)], [zI, zI, zI, zI, zI, zI, zI, zI, .nil 3 1, zI, .nil 3 1, zI, zI, .nil 3 1, zI, zB, .nil 222 2], none, 0, false⟩),
  (150, ⟨true, 1, 0, 24, [(0, 36)], [.nil 3 1], none, 0, false⟩),
  (153, ⟨true, 3, 0, 72, [(0, 60), (2, 36)], [.nil 148 17, .nil 117 4, .nil 3 1], none, 0, false⟩),
  (154, ⟨true, 3, 0, 72, [(0, 60), (2, 36)], [.nil 148 17, .nil 117 4, .nil 3 1], none, 0, false⟩),
  (181, ⟨false, 1, 5, 24, [], [.nil 5 1], none, 2, false⟩),
  (185, ⟨true, 2, 0, 32, [(0, 36), (1, 3)], [.nil 3 1, zI], none, 0, false⟩),
  (186, ⟨true, 16, 0, 176, [(0, 3), (1, 3), (2, 3), (3, 3), (4, 3), (5, 3), (6, 3), (7, 3), (8, 185), (10, 185), (12, 3), (13, 185), (15, 4)], [zI, zI, zI, zI, zI, zI, zI, zI, .nil 3 1, zI, .nil 3 1, zI, zI, .nil 3 1, zI, zB], none, 0, false⟩),
  (187, ⟨true, 16, 0, 176, [(0, 3), (1, 3), (2, 3), (3, 3), (4, 3), (5, 3), (6, 3), (7, 3), (8, 185), (10, 185), (12, 3), (13, 185), (15, 4)], [zI, zI, zI, zI, zI, zI, zI, zI, .nil 3 1, zI, .nil 3 1, zI, zI, .nil 3 1, zI, zB], none, 0, false⟩),
  (188, ⟨false, 1, 270, 24, [], [.nil 270 2], none, 0, false⟩),
  (189, ⟨true, 17, 0, 200, [(0, 187), (16, 188)], [zI, zI, zI, zI, zI, zI, zI, zI, .nil 3 1, zI, .nil 3 1, zI, zI, .nil 3 1, zI, zB, .nil 270 2], none, 0, false⟩),
  (190, ⟨true, 17, 0, 200, [(0, 187), (16, 188)], [zI, zI, zI, zI, zI, zI, zI, zI, .nil 3 1, zI, .nil 3 1, zI, zI, .nil 3 1, zI, zB, .nil 270 2], none, 0, false⟩),
  (191, ⟨true, 51, 0, 600, [(0, 190), (17, 190), (34, 190)], [zI, zI, zI, zI, zI, zI, zI, zI, .nil 3 1, zI, .nil 3 1, zI, zI, .nil 3 1, zI, zB, .nil 270 2, zI, zI, zI, zI, zI, zI, zI, zI, .nil 3 1, zI, .nil 3 1, zI, zI, .nil 3 1, zI, zB, .nil 270 2, zI, zI, zI, zI, zI, zI, zI, zI, .nil 3 1, zI, .nil 3 1, zI, zI, .nil 3 1, zI, zB, .nil 270 2], none, 0, false⟩),
  (192, ⟨true, 51, 0, 600, [(0, 190), (17, 190), (34, 190)], [zI, zI, zI, zI, zI, zI, zI, zI, .nil 3 1, zI, .nil 3 1, zI, zI, .nil 3 1, zI, zB, .nil 270 2, zI, zI, zI, zI, zI, zI, zI, zI, .nil 3 1, zI, .nil 3 1, zI, zI, .nil 3 1, zI, zB, .nil 270 2, zI, zI, zI, zI, zI, zI, zI, zI, .nil 3 1, zI, .nil 3 1, zI, zI, .nil 3 1, zI, zB, .nil 270 2], none, 0, false⟩),
  (194, ⟨true, 4, 0, 56, [(0, 9), (1, 3), (2, 3), (3, 115)], [zS, zI, zI, .nil 9 1], none, 0, false⟩),
  (195, ⟨true, 2, 0, 32, [(0, 3), (1, 36)], [zI, .nil 3 1], none, 0, false⟩),
  (196, ⟨true, 13, 0, 184, [(0, 3), (1, 194), (5, 194), (9, 195), (11, 195)], [zI, zS, zI, zI, .nil 9 1, zS, zI, zI, .nil 9 1, zI, .nil 3 1, zI, .nil 3 1], none, 0, false⟩),
  (197, ⟨true, 13, 0, 184, [(0, 3), (1, 194), (5, 194), (9, 195), (11, 195)], [zI, zS, zI, zI, .nil 9 1, zS, zI, zI, .nil 9 1, zI, .nil 3 1, zI, .nil 3 1], none, 0, false⟩),
  (198, ⟨true, 21, 0, 304, [(0, 132), (1, 4), (2, 194), (6, 195), (8, 197)], [.nil 190 17, zB, zS, zI, zI, .nil 9 1, zI, .nil 3 1, zI, zS, zI, zI, .nil 9 1, zS, zI, zI, .nil 9 1, zI, .nil 3 1, zI, .nil 3 1], none, 0, false⟩),
  (199, ⟨true, 21, 0, 304, [(0, 132), (1, 4), (2, 194), (6, 195), (8, 197)], [.nil 190 17, zB, zS, zI, zI, .nil 9 1, zI, .nil 3 1, zI, zS, zI, zI, .nil 9 1, zS, zI, zI, .nil 9 1, zI, .nil 3 1, zI, .nil 3 1], none, 0, false⟩),
  (200, ⟨true, 23, 0, 328, [(0, 3), (1, 9), (2, 199)], [zI, zS, .nil 190 17, zB, zS, zI, zI, .nil 9 1, zI, .nil 3 1, zI, zS, zI, zI, .nil 9 1, zS, zI, zI, .nil 9 1, zI, .nil 3 1, zI, .nil 3 1], none, 0, false⟩),
  (201, ⟨true, 23, 0, 328, [(0, 3), (1, 9), (2, 199)], [zI, zS, .nil 190 17, zB, zS, zI, zI, .nil 9 1, zI, .nil 3 1, zI, zS, zI, zI, .nil 9 1, zS, zI, zI, .nil 9 1, zI, .nil 3 1, zI, .nil 3 1], none, 0, false⟩),
  (206, ⟨true, 51, 0, 600, [(0, 148), (17, 148), (34, 148)], [zI, zI, zI, zI, zI, zI, zI, zI, .nil 3 1, zI, .nil 3 1, zI, zI, .nil 3 1, zI, zB, .nil 222 2, zI, zI, zI, zI, zI, zI, zI, zI, .nil 3 1, zI, .nil 3 1, zI, zI, .nil 3 1, zI, zB, .nil 222 2, zI, zI, zI, zI, zI, zI, zI, zI, .nil 3 1, zI, .nil 3 1, zI, zI, .nil 3 1, zI, zB, .nil 222 2], none, 0, false⟩),
  (207, ⟨true, 51, 0, 600, [(0, 148), (17, 148), (34, 148)], [zI, zI, zI, zI, zI, zI, zI, zI, .nil 3 1, zI, .nil 3 1, zI, zI, .nil 3 1, zI, zB, .nil 222 2, zI, zI, zI, zI, zI, zI, zI, zI, .nil 3 1, zI, .nil 3 1, zI, zI, .nil 3 1, zI, zB, .nil 222 2, zI, zI, zI, zI, zI, zI, zI, zI, .nil 3 1, zI, .nil 3 1, zI, zI, .nil 3 1, zI, zB, .nil 222 2], none, 0, false⟩),
  (209, ⟨true, 23, 0, 328, [(0, 3), (1, 9), (2, 123)], [zI, zS, .nil 148 17, zB, zS, zI, zI, .nil 9 1, zI, .nil 3 1, zI, zS, zI, zI, .nil 9 1, zS, zI, zI, .nil 9 1, zI, .nil 3 1, zI, .nil 3 1], none, 0, false⟩),
  (210, ⟨true, 23, 0, 328, [(0, 3), (1, 9), (2, 123)], [zI, zS, .nil 148 17, zB, zS, zI, zI, .nil 9 1, zI, .nil 3 1, zI, zS, zI, zI, .nil 9 1, zS, zI, zI, .nil 9 1, zI, .nil 3 1, zI, .nil 3 1], none, 0, false⟩),
  (221, ⟨true, 2, 0, 16, [(0, 3), (1, 3)], [zI, zI], none, 0, true⟩),
  (222, ⟨true, 2, 0, 16, [(0, 3), (1, 3)], [zI, zI], none, 0, true⟩),
  (270, ⟨true, 2, 0, 16, [(0, 3), (1, 3)], [zI, zI], none, 0, true⟩),
  (294, ⟨false, 1, 36, 24, [], [.nil 36 1], none, 0, false⟩),
  (303, ⟨false, 1, 0, 4, [], [.pv (.int .u32 0)], some .u32, 0, false⟩),
  (304, ⟨false, 1, 0, 1, [], [.pv (.int .u8 0)], some .u8, 0, false⟩),
  (305, ⟨false, 1, 0, 1, [], [.pv (.int .u8 0)], some .u8, 0, false⟩),
  (308, ⟨false, 1, 0, 4, [], [.pv (.int .i32 0)], some .i32, 0, false⟩),
  (309, ⟨false, 1, 0, 4, [], [.pv (.int .i32 0)], some .i32, 0, false⟩)],
  [(0, []), (1, []), (2, []), (3, [.one (.sc)]), (4, [.one (.sc)]), (5, [.one (.sc)]), (6, [.one (.sc)]), (7, [.one (.pv)]), (8, [.agg [.sc, .own true 150 1, .own true 60 2, .own true 154 3, .own true 73 2, .own true 57 1, .own true 207 51, .own true 210 23]]), (9, [.one (.own true 3 1)]), (10, [.one (.sc)]), (11, [.one (.sc)]), (12, [.agg []]), (13, [.agg []]), (14, [.one (.sc)]), (15, [.agg [.pv, .pv], .one (.sc)]), (16, [.agg [.own true 148 17, .own true 117 4], .one (.sc)]), (17, [.one (.sc)]), (18, [.agg []]), (19, [.one (.sc)]), (20, [.one (.sc)]), (21, [.one (.pv)]), (22, [.agg [.own true 60 2, .sc]]), (23, [.agg [.sc, .sc]]), (24, [.one (.own true 123 21)]), (25, [.one (.sc)]), (26, [.one (.sc)]), (27, [.agg []]), (28, [.agg []]), (29, [.one (.sc)]), (30, [.one (.sc)]), (31, [.one (.sc)]), (32, [.one (.sc)]), (33, [.one (.sc)]), (34, [.one (.sc)]), (35, [.one (.sc)]), (36, [.one (.sc)]), (37, [.one (.own true 150 1)]), (38, [.one (.own true 60 2)]), (39, [.one (.own true 154 3)]), (40, [.one (.own true 73 2)]), (41, [.agg [.own true 57 1, .own true 207 51]]), (42, [.agg [.own true 210 23]]), (43, [.one (.sc)]), (44, [.one (.sc)]), (45, [.one (.sc)]), (46, [.one (.sc)]), (47, [.one (.sc)]), (48, [.one (.sc)]), (49, [.one (.sc)]), (50, [.agg []]), (51, [.agg []]), (52, [.agg []]), (53, [.agg []]), (54, [.agg []]), (55, [.agg []]), (56, [.one (.sc)]), (57, [.agg [.pv, .pv]]), (58, [.one (.sc)]), (59, [.agg [.own true 148 17, .own true 117 4]]), (60, [.one (.sc)]), (61, [.one (.sc)]), (62, [.agg []]), (63, [.agg []]), (64, [.one (.sc)]), (65, [.one (.sc)]), (66, [.one (.sc)]), (67, [.one (.sc)]), (68, [.agg [.pv, .sc, .sc, .sc, .sc, .pv, .sc, .pv, .sc, .sc, .sc, .sc, .pv, .sc, .sc, .sc, .pv, .sc, .pv, .sc, .pv]]), (69, [.one (.sc)]), (70, [.one (.sc)]), (71, [.agg [.own true 148 17, .sc, .sc, .sc, .sc, .own true 9 1, .sc, .own true 3 1, .sc, .sc, .sc, .sc, .own true 9 1, .sc, .sc, .sc, .own true 9 1, .sc, .own true 3 1, .sc, .own true 3 1]]), (72, [.one (.sc)]), (73, [.one (.sc)]), (74, [.agg []]), (75, [.one (.sc)]), (76, [.one (.sc)]), (77, [.one (.sc)]), (78, [.one (.sc)]), (79, [.one (.sc)]), (80, [.one (.sc)]), (81, [.one (.sc)]), (82, [.one (.sc)]), (83, [.agg [.own true 3 1]]), (84, [.agg [.own true 148 17, .own true 117 4]]), (85, [.agg [.own true 148 17, .own true 117 4, .own true 3 1]]), (86, [.one (.own true 57 1)]), (87, [.one (.own true 207 51)]), (88, [.one (.own true 210 23)]), (89, [.agg [.sc, .sc, .sc, .sc, .sc, .sc, .sc, .sc, .pv, .sc, .pv, .sc, .sc, .pv, .sc, .sc]]), (90, [.one (.sc)]), (91, [.one (.sc)]), (92, [.one (.sc)]), (93, [.one (.sc)]), (94, [.one (.sc)]), (95, [.one (.sc)]), (96, [.agg []]), (97, [.agg []]), (98, [.agg []]), (99, [.one (.pv)]), (100, [.one (.pv)]), (101, [.one (.sc)]), (102, [.one (.own true 148 17)]), (103, [.one (.own true 117 4)]), (104, [.one (.sc)]), (105, [.one (.sc)]), (106, [.agg []]), (107, [.one (.sc)]), (108, [.one (.sc)]), (109, [.one (.sc)]), (110, [.one (.pv)]), (111, [.agg [.pv, .sc, .sc, .sc, .sc, .pv, .sc, .pv, .sc, .sc, .sc, .sc, .pv, .sc, .sc, .sc, .pv, .sc, .pv, .sc, .pv]]), (112, [.one (.sc)]), (113, [.one (.sc)]), (114, [.one (.sc)]), (115, [.one (.sc)]), (116, [.one (.own true 3 1)]), (117, [.agg [.own true 148 17, .sc, .sc, .sc, .sc, .own true 9 1, .sc, .own true 3 1, .sc, .sc, .sc, .sc, .own true 9 1, .sc, .sc, .sc, .own true 9 1, .sc, .own true 3 1, .sc, .own true 3 1]]), (118, [.one (.sc)]), (119, [.one (.sc)]), (120, [.one (.sc)]), (121, [.one (.sc)]), (122, [.one (.sc)]), (123, [.one (.sc)]), (124, [.one (.sc)]), (125, [.one (.sc)]), (126, [.one (.own true 3 1)]), (127, [.one (.own true 148 17)]), (128, [.one (.own true 117 4)]), (129, [.agg [.sc, .sc, .sc, .sc, .sc, .sc, .sc, .sc, .own true 3 1, .sc, .own true 3 1, .sc, .sc, .own true 3 1, .sc, .sc, .own true 222 2, .sc, .sc, .sc, .sc, .sc, .sc, .sc, .sc, .own true 3 1, .sc, .own true 3 1, .sc, .sc, .own true 3 1, .sc, .sc, .own true 222 2, .sc, .sc, .sc, .sc, .sc, .sc, .sc, .sc, .own true 3 1, .sc, .own true 3 1, .sc, .sc, .own true 3 1, .sc, .sc, .own true 222 2]]), (130, [.agg [.sc, .sc, .own true 148 17, .sc, .sc, .sc, .sc, .own true 9 1, .sc, .own true 3 1, .sc, .sc, .sc, .sc, .own true 9 1, .sc, .sc, .sc, .own true 9 1, .sc, .own true 3 1, .sc, .own true 3 1]]), (131, [.one (.sc)]), (132, [.one (.sc)]), (133, [.agg [.pv, .sc]]), (134, [.one (.sc)]), (135, [.one (.sc)]), (136, [.agg [.sc, .sc, .sc, .sc, .sc, .sc, .sc, .sc, .pv, .sc, .pv, .sc, .sc, .pv, .sc, .sc, .pv]]), (137, [.agg [.sc, .sc, .sc, .pv]]), (138, [.agg [.sc, .sc, .sc, .sc, .sc, .sc, .sc, .sc, .own true 3 1, .sc, .own true 3 1, .sc, .sc, .own true 3 1, .sc, .sc, .own true 222 2]]), (139, [.agg [.sc, .sc, .sc, .own true 9 1]]), (140, [.one (.sc)]), (141, [.one (.sc)]), (142, [.one (.sc)]), (143, [.agg [.sc, .sc, .sc, .sc, .sc, .sc, .sc, .sc, .pv, .sc, .pv, .sc, .sc, .pv, .sc, .sc], .one (.sc)]), (144, [.one (.sc)]), (145, [.one (.sc)]), (146, [.one (.pv)]), (147, [.one (.sc)]), (148, [.one (.sc)]), (149, [.agg [.sc, .pv], .one (.sc)]), (150, [.agg [.sc, .sc, .sc, .sc, .pv, .sc, .sc, .sc, .pv, .sc, .pv, .sc, .pv], .one (.sc)]), (151, [.one (.sc)]), (152, [.one (.sc)]), (153, [.one (.own true 3 1)]), (154, [.one (.sc)]), (155, [.one (.sc)]), (156, [.agg [.sc, .own true 3 1], .one (.sc)]), (157, [.agg [.sc, .sc, .sc, .sc, .own true 9 1, .sc, .sc, .sc, .own true 9 1, .sc, .own true 3 1, .sc, .own true 3 1], .one (.sc)]), (158, [.one (.sc)]), (159, [.one (.sc)]), (160, [.one (.sc)]), (161, [.one (.sc)]), (162, [.one (.sc)]), (163, [.agg [.sc, .sc, .sc, .sc, .sc, .sc, .sc, .sc, .own true 3 1, .sc, .own true 3 1, .sc, .sc, .own true 3 1, .sc, .sc, .own true 222 2]]), (164, [.agg [.sc, .sc, .sc, .own true 9 1]]), (165, [.agg [.own true 148 17, .sc, .sc, .sc, .sc, .own true 9 1, .sc, .own true 3 1, .sc, .sc, .sc, .sc, .own true 9 1, .sc, .sc, .sc, .own true 9 1, .sc, .own true 3 1, .sc, .own true 3 1]]), (166, [.one (.sc)]), (167, [.one (.sc)]), (168, [.agg [.sc, .sc, .sc, .sc, .sc, .sc, .sc, .sc, .pv, .sc, .pv, .sc, .sc, .pv, .sc, .sc]]), (169, [.one (.pv)]), (170, [.agg [.sc, .sc, .sc, .sc, .sc, .sc, .sc, .sc, .own true 3 1, .sc, .own true 3 1, .sc, .sc, .own true 3 1, .sc, .sc]]), (171, [.one (.own true 222 2)]), (172, [.one (.own true 9 1)]), (173, [.one (.sc)]), (174, [.one (.sc)]), (175, [.one (.sc)]), (176, [.one (.sc)]), (177, [.one (.pv)]), (178, [.one (.pv)]), (179, [.one (.sc)]), (180, [.one (.sc)]), (181, [.one (.sc)]), (182, [.one (.sc)]), (183, [.one (.sc)]), (184, [.one (.sc)]), (185, [.one (.own true 3 1)]), (186, [.one (.own true 3 1)]), (187, [.one (.sc)]), (188, [.one (.sc)]), (189, [.one (.sc)]), (190, [.one (.sc)]), (191, [.one (.sc)]), (192, [.one (.sc)]), (193, [.one (.sc)]), (194, [.agg [.sc, .sc, .sc, .sc, .sc, .sc, .sc, .sc, .own true 3 1, .sc, .own true 3 1, .sc, .sc, .own true 3 1, .sc, .sc]]), (195, [.one (.own true 222 2)]), (196, [.one (.own true 9 1)]), (197, [.agg [.sc, .own true 3 1]]), (198, [.agg [.sc, .sc, .sc, .sc, .own true 9 1, .sc, .sc, .sc, .own true 9 1, .sc, .own true 3 1, .sc, .own true 3 1]]), (199, [.one (.sc)]), (200, [.one (.sc)]), (201, [.one (.sc)]), (202, [.agg [.pv, .sc]]), (203, [.agg [.own true 3 1, .sc]]), (204, [.one (.sc)]), (205, [.one (.sc)]), (206, [.one (.pv)]), (207, [.one (.sc)]), (208, [.one (.sc)]), (209, [.one (.sc)]), (210, [.one (.sc)]), (211, [.one (.sc)]), (212, [.one (.own true 3 1)]), (213, [.one (.sc)]), (214, [.one (.sc)]), (215, [.one (.sc)]), (216, [.one (.sc)]), (217, [.agg [.own true 3 1, .sc]]), (218, [.agg [.sc, .sc]]), (219, [.one (.own true 3 1)]), (220, [.one (.sc)]), (221, [.one (.sc)]), (222, [.one (.sc)]), (223, [.one (.sc)]), (224, [.one (.sc)]), (225, [.one (.own true 3 1)]), (226, [.one (.sc)]), (227, [.one (.sc)]), (228, [.one (.sc)]), (229, [.one (.sc)]), (230, [.one (.sc)]), (231, [.one (.sc)]), (232, [.one (.own true 3 1)]), (233, [.one (.sc)]), (234, [.one (.sc)]), (235, [.one (.sc)]), (236, [.one (.sc)]), (237, [.one (.sc)]), (238, [.one (.sc)]), (239, [.one (.pv)]), (240, [.one (.sc)]), (241, [.one (.sc)]), (242, [.one (.sc)]), (243, [.one (.sc)]), (244, [.one (.sc)]), (245, [.one (.sc)]), (246, [.one (.sc)]), (247, [.one (.sc)]), (248, [.one (.sc)]), (249, [.one (.sc)]), (250, [.one (.pv)]), (251, [.one (.sc)]), (252, [.one (.sc)]), (253, [.one (.sc)]), (254, [.one (.sc)]), (255, [.one (.sc)]), (256, [.one (.sc)]), (257, [.one (.sc)]), (258, [.one (.sc)]), (259, [.one (.sc)]), (260, [.one (.own true 3 1)]), (261, [.one (.sc)]), (262, [.one (.own true 3 1)]), (263, [.one (.sc)]), (264, [.one (.sc)]), (265, [.one (.sc)]), (266, [.one (.sc)]), (267, [.one (.sc)]), (268, [.one (.sc)]), (269, [.one (.sc)]), (270, [.one (.sc)]), (271, [.one (.sc)]), (272, [.one (.sc)]), (273, [.one (.own true 3 1)]), (274, [.one (.sc)]), (275, [.one (.sc)]), (276, [.one (.sc)]), (277, [.one (.sc)]), (278, [.one (.sc)]), (279, [.one (.sc)]), (280, [.one (.sc)]), (281, [.one (.sc)]), (282, [.one (.sc)]), (283, [.one (.own true 3 1)]), (284, [.one (.sc)]), (285, [.one (.sc)]), (286, [.one (.sc)]), (287, [.one (.sc)]), (288, [.one (.sc)]), (289, [.one (.sc)]), (290, []), (291, [.one (.sc)]), (292, []), (293, [.one (.sc)]), (294, []), (295, [.one (.sc)]), (296, []), (297, [.one (.sc)]), (298, []), (299, [.one (.sc)]), (300, []), (301, [.one (.sc)]), (302, [.one (.sc)]), (303, []), (304, [.one (.sc)]), (305, [.one (.sc)]), (306, [.one (.sc)]), (307, [.one (.sc)]), (308, [.one (.sc)])], false, [283], [178], [148, 117]⟩
theorem tabok : TabOK Tryz.prog TT := tabB_ok (by kernel_rfl) (by kernel_rfl)
end Go.Ev
set_option maxRecDepth 100000
set_option linter.unusedVariables false
namespace Go.Ev
open Go.Proofs
--@ laws_markText
def laws_markText_r0 (v : List PV) (K : List PV → Prop) (x0k : PV → PV → PV → Prop) : Prop :=
 un 3 (fun v0 v1 v2 =>
  binP .gtr v0 (I 0) fun r0 =>
  iteP r0
   (binP .rem v0 (I 10) fun r1 =>
   binP .add (I 48) r1 fun r2 =>
   convP .u8 r2 fun r3 =>
   (1 = 1) ∧ (1 ≤ 16777216) ∧ (1 = 1) ∧ (0 = 0) ∧ (1 = 1) ∧ (flatCond [.pv (.int .u8 0)] [.pv r3]) ∧ textP (.list 1 [[r3]]) fun r4 =>
   binP .add r4 v2 fun r5 =>
   binP .quo v0 (I 10) fun r6 =>
   K [r6, v1, r5])
   (x0k v0 v1 v2)) v
def laws_markText : GM
 | [.one a0], k => 
  binP .leq a0 (I 0) fun r0 =>
  iteP r0
   (rt [.sc] [(.str ⟨#[109, 48]⟩)] k)
   (lp (fun L w => laws_markText_r0 w L
    (fun q7 q8 q9 => binP .add (.str ⟨#[109]⟩) q9 fun r10 =>
     rt [.sc] [r10] k)) [a0, (.str ⟨#[]⟩), (.str ⟨#[]⟩)])
 | _, _ => False
abbrev laws_markText_e : Ent := ⟨[73], laws_markText⟩
def laws_markText_l : List LE := [⟨0, ⟨[(0, .one (.pv (.bool false))), (2, .one (.pv (.bool false))), (3, .one (.pv (.bool false)))], [], [], 0, 20⟩, fun K k v => laws_markText_r0 v K (fun x0 x1 x2 => k (.exit 0) ⟨[(0, .one (.pv x0)), (2, .one (.pv x1)), (3, .one (.pv x2))], [], [], 0, 20⟩)⟩]
theorem laws_markText_s : LEsOK (orac []) TT (kk [0, 2, 3]) (sumsOf laws_markText_l) Tryz.f73 laws_markText_l := ⟨fun v K k h => by
  apply un_all h; exact fun v0 v1 v2 h => Eq.mpr (by kernel_rfl) h
  , trivial⟩
theorem laws_markText_w : EntOK Tryz.prog TT laws_markText_e := ent_ok tabok (L := []) trivial (keep := (kk [0, 2, 3])) (l := laws_markText_l) Tryz.func73 (by kernel_rfl) (sg := [.one (.sc)]) (by kernel_rfl) laws_markText_s fun av k h => by
  unfold laws_markText at h; split at h
  · exact Eq.mpr (by kernel_rfl) h
  · exact h.elim

end Go.Ev
/- The texts of counts; the functions that mark what they are handed. -/
set_option maxRecDepth 100000
set_option linter.unusedVariables false
set_option linter.unusedSimpArgs false
namespace Go.Ev
open Go.Proofs
def mdigs (u : Nat) : List UInt8 := if u = 0 then [] else Go.Lib.decDigits u
theorem mdigs_step {u : Nat} (h : u ≠ 0) : mdigs u = mdigs (u / 10) ++ [UInt8.ofNat (48 + u % 10)] := by
  unfold mdigs
  rw [if_neg h]
  by_cases h1 : u < 10
  · rw [Go.Lib.decDigits_one h1, if_pos (by omega), show u % 10 = u by omega]; rfl
  · rw [if_neg (by omega), Go.Lib.decDigits, dif_neg h1]
theorem mdigs_len : ∀ (m u : Nat), u < 10 ^ m → (mdigs u).length ≤ m
  | 0, u, h => by
    have : u = 0 := by simpa using h
    subst this; simp [mdigs]
  | m + 1, u, h => by
    by_cases h0 : u = 0
    · subst h0; simp [mdigs]
    · rw [mdigs_step h0, List.length_append]
      have h2 : u / 10 < 10 ^ m := by rw [Nat.pow_succ] at h; omega
      have := mdigs_len m (u / 10) h2
      simp only [List.length_singleton]; omega
abbrev Sx (l : List UInt8) : PV := .str ⟨l.toArray⟩
theorem bin_strM (a b : List UInt8) (k : PV → Prop) : binP .add (Sx a) (Sx b) k = (a.length + b.length ≤ 9223372036854775807 ∧ k (Sx (a ++ b))) := by
  have e : (⟨a.toArray⟩ : ByteArray) ++ ⟨b.toArray⟩ = ⟨(a ++ b).toArray⟩ := by
    apply ByteArray.ext
    rw [ByteArray.data_append]
    simp
  have h1 : (⟨a.toArray⟩ : ByteArray).size = a.length := by simp [ByteArray.size]
  have h2 : (⟨b.toArray⟩ : ByteArray).size = b.length := by simp [ByteArray.size]
  show (_ ∧ k _) = _
  rw [h1, h2, e]
theorem text_oneM (n : Int) (k : PV → Prop) : textP (.list 1 [[.int .u8 n]]) k = k (Sx [UInt8.ofNat n.toNat]) := rfl
theorem u8_digitM {d : Nat} (h : d < 10) : IntKind.u8.wrap (48 + (d : Int)) = ((48 + d : Nat) : Int) := by
  have : ∀ d : Fin 10, IntKind.u8.wrap (48 + ((d : Nat) : Int)) = ((48 + (d : Nat) : Nat) : Int) := by decide
  exact this ⟨d, h⟩
theorem fc_u8M (n : Int) : flatCond [.pv (.int .u8 0)] [.pv (.int .u8 n)] := by intro x hx; simp at hx; subst hx; rfl
def mtx (n : Int) : ByteArray := if n ≤ 0 then ⟨#[109, 48]⟩ else ⟨([109] ++ mdigs n.toNat).toArray⟩
theorem mtx_lp (z : PV) (A : PV → Prop) : ∀ (m : Nat) (x : Nat) (s : List UInt8), x < 10 ^ m → x < 9223372036854775808 → s.length + m ≤ 1000 →
    (lp (fun L w => laws_markText_r0 w L (fun q7 q8 q9 => A q9)) [I x, z, Sx s] ↔ A (Sx (mdigs x ++ s)))
  | 0, x, s, h, hx, hs => by
    have h0 : x = 0 := by simpa using h
    subst h0
    refine itP_mono_end fun K => ?_
    simp [laws_markText_r0, mdigs]
  | m + 1, x, s, h, hx, hs => by
    by_cases h0 : x = 0
    · subst h0
      refine itP_mono_end fun K => ?_
      simp [laws_markText_r0, mdigs]
    · have hd : x % 10 < 10 := Nat.mod_lt _ (by omega)
      have hq : x / 10 < 10 ^ m := by rw [Nat.pow_succ] at h; omega
      have ih := mtx_lp z A m (x / 10) (UInt8.ofNat (48 + x % 10) :: s) hq (by omega) (by simp only [List.length_cons]; omega)
      have he : mdigs (x / 10) ++ (UInt8.ofNat (48 + x % 10) :: s) = mdigs x ++ s := by
        rw [mdigs_step (u := x) h0, List.append_assoc]; rfl
      rw [he] at ih
      refine (lp_step fun K => ?_).trans ih
      have hb : 1 + s.length ≤ 9223372036854775807 := by omega
      have e1 : (x : Int).tmod 10 = ((x % 10 : Nat) : Int) := by rw [Int.tmod_eq_emod_of_nonneg (by omega)]; rfl
      have e4 : (x : Int).tdiv 10 = ((x / 10 : Nat) : Int) := by rw [Int.tdiv_eq_ediv_of_nonneg (by omega)]; rfl
      have e2 : IntKind.i64.wrap (48 + ((x % 10 : Nat) : Int)) = 48 + ((x % 10 : Nat) : Int) := wr_eq (by omega) (by omega)
      have e3 := u8_digitM hd
      have e5 : IntKind.i64.wrap (((x / 10 : Nat) : Int)) = ((x / 10 : Nat) : Int) := wr_eq (by omega) (by omega)
      simp only [laws_markText_r0, un, cur0, binP_gtr, show (0 : Int) < (x : Int) by omega, decide_true, iteP_eq, if_true, binP_rem, e1, binP_add, e2, convP, e3, fc_u8M, text_oneM, bin_strM, binP_quo, e4, e5, List.length_singleton, List.singleton_append, true_and, hb, Int.toNat_natCast]
      simp
theorem laws_markText_n (n : Int) (h : rg64 n = true) (k) : call laws_markText [.one (I n)] k = k [.str (mtx n)] := call_of (fun k => by
  simp only [rg64, Bool.and_eq_true, decide_eq_true_eq] at h
  unfold mtx
  by_cases h0 : n ≤ 0
  · simp [laws_markText, h0]
  · obtain ⟨x, rfl⟩ : ∃ x : Nat, n = x := ⟨n.toNat, by omega⟩
    simp only [laws_markText, binP_leq, h0, decide_false, iteP_eq, Bool.false_eq_true, if_false]
    have hs : x < 10 ^ 19 := by have : (10 : Nat) ^ 19 = 10000000000000000000 := rfl
                                omega
    refine (mtx_lp (Sx []) (fun q => binP .add (Sx [109]) q fun r => rt [.sc] [r] k) 19 x [] hs (by omega) (by simp)).trans ?_
    have hd := mdigs_len 19 _ hs
    rw [List.append_nil, bin_strM]
    have hl : [109].length + (mdigs x).length ≤ 9223372036854775807 := by simp only [List.length_singleton]; omega
    simp only [true_and, rt_eq, scs_sc, scs_nil, flat_str, Int.toNat_natCast]
    exact ⟨fun q => q.2, fun q => ⟨hl, q⟩⟩) k
theorem laws_markText_n' (n : Int) (h : rg64 n = true) : (laws_markText [.one (I n)] (fun o => o = [.str (mtx n)])) = True := by
  have := laws_markText_n n h (fun o => o = [.str (mtx n)])
  simp only [call] at this
  obtain ⟨out, h1, h2⟩ := of_eq_true this
  subst h2
  exact eq_true h1
theorem mtx_ok : TextOK Tryz.prog 73 mtx := text_ok (fun _ => trivial) ⟨Tryz.f73, Tryz.func73, by kernel_rfl, by kernel_rfl⟩ fun k hk => (laws_markText_w 73 _ _ rfl (of_eq_true (laws_markText_n' k hk)) _ (by kernel_rfl)).1 rfl
abbrev mk_IntS_r : List (Nat × MM) := []
abbrev mk_IntS_s : List (Option Eff × SV) := [(some (.store 0 0), .kk), (none, .kinc)]
def mk_IntS : PV → Int → Option (PV × Int) := mkS mk_IntS_r mtx 1 mk_IntS_s
theorem mk_IntS_ok : MMOK Tryz.prog 13 (.sl mk_IntS) := slice_ok (T := TT) (st := 36) (ss := mk_IntS_s) tabok (ρ := []) trivial mtx_ok Tryz.func13 (by kernel_rfl) (by kernel_rfl)
def laws_markIntS : GM := gS mk_IntS
abbrev laws_markIntS_e : Ent := ⟨[13], laws_markIntS⟩
theorem laws_markIntS_w : EntOK Tryz.prog TT laws_markIntS_e := entS mk_IntS_ok (by kernel_rfl)
abbrev mk_ActorS_r : List (Nat × MM) := [(13, .sl mk_IntS)]
abbrev mk_ActorS_s : List (Option Eff × SV) := [(some (.call 0 none 13), .res)]
def mk_ActorS : PV → Int → Option (PV × Int) := mkS mk_ActorS_r mtx 1 mk_ActorS_s
theorem mk_ActorS_ok : MMOK Tryz.prog 50 (.sl mk_ActorS) := slice_ok (T := TT) (st := 38) (ss := mk_ActorS_s) tabok (ρ := [(13, .sl mk_IntS)]) ⟨mk_IntS_ok, trivial⟩ mtx_ok Tryz.func50 (by kernel_rfl) (by kernel_rfl)
def laws_markActorS : GM := gS mk_ActorS
abbrev laws_markActorS_e : Ent := ⟨[50], laws_markActorS⟩
theorem laws_markActorS_w : EntOK Tryz.prog TT laws_markActorS_e := entS mk_ActorS_ok (by kernel_rfl)
abbrev mk_SigS_r : List (Nat × MM) := []
abbrev mk_SigS_s : List (Option Eff × SV) := [(some (.store 0 0), .kk), (none, .kinc), (some (.store 1 0), .kk), (none, .kinc)]
def mk_SigS : PV → Int → Option (PV × Int) := mkS mk_SigS_r mtx 2 mk_SigS_s
theorem mk_SigS_ok : MMOK Tryz.prog 106 (.sl mk_SigS) := slice_ok (T := TT) (st := 146) (ss := mk_SigS_s) tabok (ρ := []) trivial mtx_ok Tryz.func106 (by kernel_rfl) (by kernel_rfl)
def laws_markSigS : GM := gS mk_SigS
abbrev laws_markSigS_e : Ent := ⟨[106], laws_markSigS⟩
theorem laws_markSigS_w : EntOK Tryz.prog TT laws_markSigS_e := entS mk_SigS_ok (by kernel_rfl)
abbrev mk_SignedS_r : List (Nat × MM) := [(13, .sl mk_IntS), (106, .sl mk_SigS)]
abbrev mk_SignedS_s : List (Option Eff × SV) := [(some (.store 0 0), .kk), (none, .kinc), (some (.store 1 0), .kk), (none, .kinc), (some (.store 2 0), .kk), (none, .kinc), (some (.store 3 0), .kk), (none, .kinc), (some (.store 4 0), .kk), (none, .kinc), (some (.store 5 0), .kk), (none, .kinc), (some (.store 6 0), .kk), (none, .kinc), (some (.store 7 0), .kk), (none, .kinc), (some (.call 8 none 13), .res), (some (.store 9 0), .kk), (none, .kinc), (some (.call 10 none 13), .res), (some (.store 11 0), .kk), (none, .kinc), (some (.store 12 0), .kk), (none, .kinc), (some (.call 13 none 13), .res), (some (.store 14 0), .kk), (none, .kinc), (some (.store 15 2), .kk), (none, .kinc), (some (.call 16 none 106), .res)]
def mk_SignedS : PV → Int → Option (PV × Int) := mkS mk_SignedS_r mtx 17 mk_SignedS_s
theorem mk_SignedS_ok : MMOK Tryz.prog 62 (.sl mk_SignedS) := slice_ok (T := TT) (st := 57) (ss := mk_SignedS_s) tabok (ρ := [(13, .sl mk_IntS), (106, .sl mk_SigS)]) ⟨mk_IntS_ok, mk_SigS_ok, trivial⟩ mtx_ok Tryz.func62 (by kernel_rfl) (by kernel_rfl)
def laws_markSignedS : GM := gS mk_SignedS
abbrev laws_markSignedS_e : Ent := ⟨[62], laws_markSignedS⟩
theorem laws_markSignedS_w : EntOK Tryz.prog TT laws_markSignedS_e := entS mk_SignedS_ok (by kernel_rfl)
abbrev mk_StringS_r : List (Nat × MM) := []
abbrev mk_StringS_s : List (Option Eff × SV) := [(some (.store 0 1), .kk), (none, .kinc)]
def mk_StringS : PV → Int → Option (PV × Int) := mkS mk_StringS_r mtx 1 mk_StringS_s
theorem mk_StringS_ok : MMOK Tryz.prog 74 (.sl mk_StringS) := slice_ok (T := TT) (st := 115) (ss := mk_StringS_s) tabok (ρ := []) trivial mtx_ok Tryz.func74 (by kernel_rfl) (by kernel_rfl)
def laws_markStringS : GM := gS mk_StringS
abbrev laws_markStringS_e : Ent := ⟨[74], laws_markStringS⟩
theorem laws_markStringS_w : EntOK Tryz.prog TT laws_markStringS_e := entS mk_StringS_ok (by kernel_rfl)
abbrev mk_EntryS_r : List (Nat × MM) := [(74, .sl mk_StringS)]
abbrev mk_EntryS_s : List (Option Eff × SV) := [(some (.store 0 1), .kk), (none, .kinc), (some (.store 1 0), .kk), (none, .kinc), (some (.store 2 0), .kk), (none, .kinc), (some (.call 3 none 74), .res)]
def mk_EntryS : PV → Int → Option (PV × Int) := mkS mk_EntryS_r mtx 4 mk_EntryS_s
theorem mk_EntryS_ok : MMOK Tryz.prog 63 (.sl mk_EntryS) := slice_ok (T := TT) (st := 58) (ss := mk_EntryS_s) tabok (ρ := [(74, .sl mk_StringS)]) ⟨mk_StringS_ok, trivial⟩ mtx_ok Tryz.func63 (by kernel_rfl) (by kernel_rfl)
def laws_markEntryS : GM := gS mk_EntryS
abbrev laws_markEntryS_e : Ent := ⟨[63], laws_markEntryS⟩
theorem laws_markEntryS_w : EntOK Tryz.prog TT laws_markEntryS_e := entS mk_EntryS_ok (by kernel_rfl)
abbrev mk_ZoneS_r : List (Nat × MM) := [(62, .sl mk_SignedS), (63, .sl mk_EntryS)]
abbrev mk_ZoneS_s : List (Option Eff × SV) := [(some (.call 0 none 62), .res), (some (.call 1 none 63), .res)]
def mk_ZoneS : PV → Int → Option (PV × Int) := mkS mk_ZoneS_r mtx 2 mk_ZoneS_s
theorem mk_ZoneS_ok : MMOK Tryz.prog 51 (.sl mk_ZoneS) := slice_ok (T := TT) (st := 39) (ss := mk_ZoneS_s) tabok (ρ := [(62, .sl mk_SignedS), (63, .sl mk_EntryS)]) ⟨mk_SignedS_ok, mk_EntryS_ok, trivial⟩ mtx_ok Tryz.func51 (by kernel_rfl) (by kernel_rfl)
def laws_markZoneS : GM := gS mk_ZoneS
abbrev laws_markZoneS_e : Ent := ⟨[51], laws_markZoneS⟩
theorem laws_markZoneS_w : EntOK Tryz.prog TT laws_markZoneS_e := entS mk_ZoneS_ok (by kernel_rfl)
abbrev mk_SaidS_r : List (Nat × MM) := [(62, .sl mk_SignedS), (63, .sl mk_EntryS), (13, .sl mk_IntS)]
abbrev mk_SaidS_s : List (Option Eff × SV) := [(some (.call 0 none 62), .res), (some (.call 1 none 63), .res), (some (.call 2 none 13), .res)]
def mk_SaidS : PV → Int → Option (PV × Int) := mkS mk_SaidS_r mtx 3 mk_SaidS_s
theorem mk_SaidS_ok : MMOK Tryz.prog 52 (.sl mk_SaidS) := slice_ok (T := TT) (st := 40) (ss := mk_SaidS_s) tabok (ρ := [(62, .sl mk_SignedS), (63, .sl mk_EntryS), (13, .sl mk_IntS)]) ⟨mk_SignedS_ok, mk_EntryS_ok, mk_IntS_ok, trivial⟩ mtx_ok Tryz.func52 (by kernel_rfl) (by kernel_rfl)
def laws_markSaidS : GM := gS mk_SaidS
abbrev laws_markSaidS_e : Ent := ⟨[52], laws_markSaidS⟩
theorem laws_markSaidS_w : EntOK Tryz.prog TT laws_markSaidS_e := entS mk_SaidS_ok (by kernel_rfl)
abbrev mk_ServerS_r : List (Nat × MM) := [(51, .sl mk_ZoneS)]
abbrev mk_ServerS_s : List (Option Eff × SV) := [(some (.call 0 none 51), .res), (some (.store 1 0), .kk), (none, .kinc)]
def mk_ServerS : PV → Int → Option (PV × Int) := mkS mk_ServerS_r mtx 2 mk_ServerS_s
theorem mk_ServerS_ok : MMOK Tryz.prog 53 (.sl mk_ServerS) := slice_ok (T := TT) (st := 41) (ss := mk_ServerS_s) tabok (ρ := [(51, .sl mk_ZoneS)]) ⟨mk_ZoneS_ok, trivial⟩ mtx_ok Tryz.func53 (by kernel_rfl) (by kernel_rfl)
def laws_markServerS : GM := gS mk_ServerS
abbrev laws_markServerS_e : Ent := ⟨[53], laws_markServerS⟩
theorem laws_markServerS_w : EntOK Tryz.prog TT laws_markServerS_e := entS mk_ServerS_ok (by kernel_rfl)
abbrev mk_SignedSS_r : List (Nat × MM) := [(62, .sl mk_SignedS)]
abbrev mk_SignedSS_s : List (Option Eff × SV) := [(some (.call 0 none 62), .res)]
def mk_SignedSS : PV → Int → Option (PV × Int) := mkS mk_SignedSS_r mtx 1 mk_SignedSS_s
theorem mk_SignedSS_ok : MMOK Tryz.prog 96 (.sl mk_SignedSS) := slice_ok (T := TT) (st := 42) (ss := mk_SignedSS_s) tabok (ρ := [(62, .sl mk_SignedS)]) ⟨mk_SignedS_ok, trivial⟩ mtx_ok Tryz.func96 (by kernel_rfl) (by kernel_rfl)
def laws_markSignedSS : GM := gS mk_SignedSS
abbrev laws_markSignedSS_e : Ent := ⟨[96], laws_markSignedSS⟩
theorem laws_markSignedSS_w : EntOK Tryz.prog TT laws_markSignedSS_e := entS mk_SignedSS_ok (by kernel_rfl)
abbrev mk_ForkS_r : List (Nat × MM) := [(13, .sl mk_IntS), (106, .sl mk_SigS)]
abbrev mk_ForkS_s : List (Option Eff × SV) := [(some (.store 0 0), .kk), (none, .kinc), (some (.store 1 0), .kk), (none, .kinc), (some (.store 2 0), .kk), (none, .kinc), (some (.store 3 0), .kk), (none, .kinc), (some (.store 4 0), .kk), (none, .kinc), (some (.store 5 0), .kk), (none, .kinc), (some (.store 6 0), .kk), (none, .kinc), (some (.store 7 0), .kk), (none, .kinc), (some (.call 8 none 13), .res), (some (.store 9 0), .kk), (none, .kinc), (some (.call 10 none 13), .res), (some (.store 11 0), .kk), (none, .kinc), (some (.store 12 0), .kk), (none, .kinc), (some (.call 13 none 13), .res), (some (.store 14 0), .kk), (none, .kinc), (some (.store 15 2), .kk), (none, .kinc), (some (.call 16 none 106), .res), (some (.store 17 0), .kk), (none, .kinc), (some (.store 18 0), .kk), (none, .kinc), (some (.store 19 0), .kk), (none, .kinc), (some (.store 20 0), .kk), (none, .kinc), (some (.store 21 0), .kk), (none, .kinc), (some (.store 22 0), .kk), (none, .kinc), (some (.store 23 0), .kk), (none, .kinc), (some (.store 24 0), .kk), (none, .kinc), (some (.call 25 none 13), .res), (some (.store 26 0), .kk), (none, .kinc), (some (.call 27 none 13), .res), (some (.store 28 0), .kk), (none, .kinc), (some (.store 29 0), .kk), (none, .kinc), (some (.call 30 none 13), .res), (some (.store 31 0), .kk), (none, .kinc), (some (.store 32 2), .kk), (none, .kinc), (some (.call 33 none 106), .res), (some (.store 34 0), .kk), (none, .kinc), (some (.store 35 0), .kk), (none, .kinc), (some (.store 36 0), .kk), (none, .kinc), (some (.store 37 0), .kk), (none, .kinc), (some (.store 38 0), .kk), (none, .kinc), (some (.store 39 0), .kk), (none, .kinc), (some (.store 40 0), .kk), (none, .kinc), (some (.store 41 0), .kk), (none, .kinc), (some (.call 42 none 13), .res), (some (.store 43 0), .kk), (none, .kinc), (some (.call 44 none 13), .res), (some (.store 45 0), .kk), (none, .kinc), (some (.store 46 0), .kk), (none, .kinc), (some (.call 47 none 13), .res), (some (.store 48 0), .kk), (none, .kinc), (some (.store 49 2), .kk), (none, .kinc), (some (.call 50 none 106), .res)]
def mk_ForkS : PV → Int → Option (PV × Int) := mkS mk_ForkS_r mtx 51 mk_ForkS_s
theorem mk_ForkS_ok : MMOK Tryz.prog 97 (.sl mk_ForkS) := slice_ok (T := TT) (st := 43) (ss := mk_ForkS_s) tabok (ρ := [(13, .sl mk_IntS), (106, .sl mk_SigS)]) ⟨mk_IntS_ok, mk_SigS_ok, trivial⟩ mtx_ok Tryz.func97 (by kernel_rfl) (by kernel_rfl)
def laws_markForkS : GM := gS mk_ForkS
abbrev laws_markForkS_e : Ent := ⟨[97], laws_markForkS⟩
theorem laws_markForkS_w : EntOK Tryz.prog TT laws_markForkS_e := entS mk_ForkS_ok (by kernel_rfl)
abbrev mk_Known_r : List (Nat × MM) := [(96, .sl mk_SignedSS), (97, .sl mk_ForkS)]
abbrev mk_Known_s : List (Option Eff × SV) := [(some (.call 0 none 96), .res), (some (.call 1 none 97), .res)]
def mk_Known : List PV → Int → Option (List PV × Int) := mkT mk_Known_r mtx 2 mk_Known_s
theorem mk_Known_ok : MMOK Tryz.prog 54 (.st mk_Known) := struct_ok (T := TT) (esz := 2) (ss := mk_Known_s) tabok (ρ := [(96, .sl mk_SignedSS), (97, .sl mk_ForkS)]) ⟨mk_SignedSS_ok, mk_ForkS_ok, trivial⟩ mtx_ok Tryz.func54 (by kernel_rfl) (by kernel_rfl)
def laws_markKnown : GM := gT mk_Known
abbrev laws_markKnown_e : Ent := ⟨[54], laws_markKnown⟩
theorem laws_markKnown_w : EntOK Tryz.prog TT laws_markKnown_e := entT mk_Known_ok (by kernel_rfl)
abbrev mk_StoredS_r : List (Nat × MM) := [(62, .sl mk_SignedS), (74, .sl mk_StringS), (13, .sl mk_IntS)]
abbrev mk_StoredS_s : List (Option Eff × SV) := [(some (.store 0 0), .kk), (none, .kinc), (some (.store 1 1), .kk), (none, .kinc), (some (.call 2 none 62), .res), (some (.store 3 2), .kk), (none, .kinc), (some (.store 4 1), .kk), (none, .kinc), (some (.store 5 0), .kk), (none, .kinc), (some (.store 6 0), .kk), (none, .kinc), (some (.call 7 none 74), .res), (some (.store 8 0), .kk), (none, .kinc), (some (.call 9 none 13), .res), (some (.store 10 0), .kk), (none, .kinc), (some (.store 11 1), .kk), (none, .kinc), (some (.store 12 0), .kk), (none, .kinc), (some (.store 13 0), .kk), (none, .kinc), (some (.call 14 none 74), .res), (some (.store 15 1), .kk), (none, .kinc), (some (.store 16 0), .kk), (none, .kinc), (some (.store 17 0), .kk), (none, .kinc), (some (.call 18 none 74), .res), (some (.store 19 0), .kk), (none, .kinc), (some (.call 20 none 13), .res), (some (.store 21 0), .kk), (none, .kinc), (some (.call 22 none 13), .res)]
def mk_StoredS : PV → Int → Option (PV × Int) := mkS mk_StoredS_r mtx 23 mk_StoredS_s
theorem mk_StoredS_ok : MMOK Tryz.prog 98 (.sl mk_StoredS) := slice_ok (T := TT) (st := 46) (ss := mk_StoredS_s) tabok (ρ := [(62, .sl mk_SignedS), (74, .sl mk_StringS), (13, .sl mk_IntS)]) ⟨mk_SignedS_ok, mk_StringS_ok, mk_IntS_ok, trivial⟩ mtx_ok Tryz.func98 (by kernel_rfl) (by kernel_rfl)
def laws_markStoredS : GM := gS mk_StoredS
abbrev laws_markStoredS_e : Ent := ⟨[98], laws_markStoredS⟩
theorem laws_markStoredS_w : EntOK Tryz.prog TT laws_markStoredS_e := entS mk_StoredS_ok (by kernel_rfl)
abbrev mk_Cache_r : List (Nat × MM) := [(98, .sl mk_StoredS)]
abbrev mk_Cache_s : List (Option Eff × SV) := [(some (.call 0 none 98), .res)]
def mk_Cache : List PV → Int → Option (List PV × Int) := mkT mk_Cache_r mtx 1 mk_Cache_s
theorem mk_Cache_ok : MMOK Tryz.prog 55 (.st mk_Cache) := struct_ok (T := TT) (esz := 1) (ss := mk_Cache_s) tabok (ρ := [(98, .sl mk_StoredS)]) ⟨mk_StoredS_ok, trivial⟩ mtx_ok Tryz.func55 (by kernel_rfl) (by kernel_rfl)
def laws_markCache : GM := gT mk_Cache
abbrev laws_markCache_e : Ent := ⟨[55], laws_markCache⟩
theorem laws_markCache_w : EntOK Tryz.prog TT laws_markCache_e := entT mk_Cache_ok (by kernel_rfl)
abbrev mk_World_r : List (Nat × MM) := [(50, .sl mk_ActorS), (51, .sl mk_ZoneS), (52, .sl mk_SaidS), (53, .sl mk_ServerS), (54, .st mk_Known), (55, .st mk_Cache)]
abbrev mk_World_s : List (Option Eff × SV) := [(some (.call 1 none 50), .res), (some (.call 2 none 51), .res), (some (.call 3 none 52), .res), (some (.call 4 none 53), .res), (some (.call 5 (some 2) 54), .res), (some (.call 7 (some 1) 55), .res)]
def mk_World : List PV → Int → Option (List PV × Int) := mkT mk_World_r mtx 8 mk_World_s
theorem mk_World_ok : MMOK Tryz.prog 12 (.st mk_World) := struct_ok (T := TT) (esz := 8) (ss := mk_World_s) tabok (ρ := [(50, .sl mk_ActorS), (51, .sl mk_ZoneS), (52, .sl mk_SaidS), (53, .sl mk_ServerS), (54, .st mk_Known), (55, .st mk_Cache)]) ⟨mk_ActorS_ok, mk_ZoneS_ok, mk_SaidS_ok, mk_ServerS_ok, mk_Known_ok, mk_Cache_ok, trivial⟩ mtx_ok Tryz.func12 (by kernel_rfl) (by kernel_rfl)
def laws_markWorld : GM := gT mk_World
abbrev laws_markWorld_e : Ent := ⟨[12], laws_markWorld⟩
theorem laws_markWorld_w : EntOK Tryz.prog TT laws_markWorld_e := entT mk_World_ok (by kernel_rfl)
abbrev mk_Zone_r : List (Nat × MM) := [(62, .sl mk_SignedS), (63, .sl mk_EntryS)]
abbrev mk_Zone_s : List (Option Eff × SV) := [(some (.call 0 none 62), .res), (some (.call 1 none 63), .res)]
def mk_Zone : List PV → Int → Option (List PV × Int) := mkT mk_Zone_r mtx 2 mk_Zone_s
theorem mk_Zone_ok : MMOK Tryz.prog 18 (.st mk_Zone) := struct_ok (T := TT) (esz := 2) (ss := mk_Zone_s) tabok (ρ := [(62, .sl mk_SignedS), (63, .sl mk_EntryS)]) ⟨mk_SignedS_ok, mk_EntryS_ok, trivial⟩ mtx_ok Tryz.func18 (by kernel_rfl) (by kernel_rfl)
def laws_markZone : GM := gT mk_Zone
abbrev laws_markZone_e : Ent := ⟨[18], laws_markZone⟩
theorem laws_markZone_w : EntOK Tryz.prog TT laws_markZone_e := entT mk_Zone_ok (by kernel_rfl)
end Go.Ev
set_option maxRecDepth 100000
set_option linter.unusedVariables false
namespace Go.Ev
open Go.Proofs
def laws_szIntS : GM
 | [.one a0, .one a1], k => 
  lenP a0 fun r0 =>
  binP .sub a1 r0 fun r1 =>
  binP .lss r1 (I 0) fun r2 =>
  iteP r2
   (rt [.sc] [(I (-1))] k)
   (rt [.sc] [r1] k)
 | _, _ => False
abbrev laws_szIntS_e : Ent := ⟨[120], laws_szIntS⟩
theorem laws_szIntS_w : EntOK Tryz.prog TT laws_szIntS_e := ent_ok tabok (L := []) trivial (keep := []) (l := []) Tryz.func120 (by kernel_rfl) (sg := [.one (.sc)]) (by kernel_rfl) trivial fun av k h => by
  unfold laws_szIntS at h; split at h
  · exact Eq.mpr (by kernel_rfl) h
  · exact h.elim

def laws_szActor : GM
 | [.agg u0, .one a1], k => un 1 (fun a0 => 
  call laws_szIntS [.one a0, .one a1] fun o0 =>
  binP .lss (atP o0 0) (I 0) fun r1 =>
  iteP r1
   (rt [.sc] [(I (-1))] k)
   (rt [.sc] [(atP o0 0)] k)) u0
 | _, _ => False
abbrev laws_szActor_e : Ent := ⟨[76], laws_szActor⟩
theorem laws_szActor_w : EntOK Tryz.prog TT laws_szActor_e := ent_ok tabok (L := [laws_szIntS_e]) ⟨laws_szIntS_w, trivial⟩ (keep := []) (l := []) Tryz.func76 (by kernel_rfl) (sg := [.one (.sc)]) (by kernel_rfl) trivial fun av k h => by
  unfold laws_szActor at h; split at h
  · apply un_all h; clear h; intro a0 h; exact Eq.mpr (by kernel_rfl) h
  · exact h.elim

def laws_szActorS_r0 (v : List PV) (K : List PV → Prop) (x0k : Prop) (x1k : PV → PV → PV → PV → Prop) : Prop :=
 un 4 (fun v0 v1 v2 v3 =>
  lenP v0 fun r0 =>
  binP .lss v3 r0 fun r1 =>
  iteP r1
   (elemP 1 v0 v3 fun c2 =>
   call laws_szActor [.agg [(atP c2 0)], .one v1] fun o3 =>
   binP .lss (atP o3 0) (I 0) fun r4 =>
   iteP r4
    (x0k)
    (binP .add v3 (I 1) fun r5 =>
    K [v0, (atP o3 0), v2, r5]))
   (x1k v0 v1 v2 v3)) v
def laws_szActorS : GM
 | [.one a0, .one a1], k => 
  lenP a0 fun r0 =>
  binP .sub a1 r0 fun r1 =>
  binP .lss r1 (I 0) fun r2 =>
  iteP r2
   (rt [.sc] [(I (-1))] k)
   (lp (fun L w => laws_szActorS_r0 w L
    (rt [.sc] [(I (-1))] k)
    (fun q6 q7 q8 q9 => rt [.sc] [q7] k)) [a0, r1, (I 0), (I 0)])
 | _, _ => False
abbrev laws_szActorS_e : Ent := ⟨[30], laws_szActorS⟩
def laws_szActorS_l : List LE := [⟨0, ⟨[(0, .one (.pv (.bool false))), (1, .one (.pv (.bool false))), (4, .one (.pv (.bool false))), (5, .one (.pv (.bool false)))], [], [], 0, 27⟩, fun K k v => laws_szActorS_r0 v K (k .ret ⟨[(4, .one (.pv (I (-1))))], [], [], 1, 27⟩) (fun x0 x1 x2 x3 => k (.exit 0) ⟨[(0, .one (.pv x0)), (1, .one (.pv x1)), (4, .one (.pv x2)), (5, .one (.pv x3))], [], [], 0, 27⟩)⟩]
theorem laws_szActorS_s : LEsOK (orac [laws_szActor_e]) TT (kk [0, 1, 4, 5]) (sumsOf laws_szActorS_l) Tryz.f30 laws_szActorS_l := ⟨fun v K k h => by
  apply un_all h; exact fun v0 v1 v2 v3 h => Eq.mpr (by kernel_rfl) h
  , trivial⟩
theorem laws_szActorS_w : EntOK Tryz.prog TT laws_szActorS_e := ent_ok tabok (L := [laws_szActor_e]) ⟨laws_szActor_w, trivial⟩ (keep := (kk [0, 1, 4, 5])) (l := laws_szActorS_l) Tryz.func30 (by kernel_rfl) (sg := [.one (.sc)]) (by kernel_rfl) laws_szActorS_s fun av k h => by
  unfold laws_szActorS at h; split at h
  · exact Eq.mpr (by kernel_rfl) h
  · exact h.elim

def laws_szKeys : GM
 | [.agg u0, .one a2], k => un 2 (fun a0 a1 => 
  call laws_szIntS [.one a0, .one a2] fun o0 =>
  binP .lss (atP o0 0) (I 0) fun r1 =>
  iteP r1
   (rt [.sc] [(I (-1))] k)
   (rt [.sc] [(atP o0 0)] k)) u0
 | _, _ => False
abbrev laws_szKeys_e : Ent := ⟨[216], laws_szKeys⟩
theorem laws_szKeys_w : EntOK Tryz.prog TT laws_szKeys_e := ent_ok tabok (L := [laws_szIntS_e]) ⟨laws_szIntS_w, trivial⟩ (keep := []) (l := []) Tryz.func216 (by kernel_rfl) (sg := [.one (.sc)]) (by kernel_rfl) trivial fun av k h => by
  unfold laws_szKeys at h; split at h
  · apply un_all h; clear h; intro a0 a1 h; exact Eq.mpr (by kernel_rfl) h
  · exact h.elim

def laws_szHead : GM
 | [.agg u0, .one a16], k => un 16 (fun a0 a1 a2 a3 a4 a5 a6 a7 a8 a9 a10 a11 a12 a13 a14 a15 => 
  call laws_szKeys [.agg [a8, a9], .one a16] fun o0 =>
  binP .lss (atP o0 0) (I 0) fun r1 =>
  iteP r1
   (rt [.sc] [(I (-1))] k)
   (call laws_szKeys [.agg [a10, a11], .one (atP o0 0)] fun o2 =>
   binP .lss (atP o2 0) (I 0) fun r3 =>
   iteP r3
    (rt [.sc] [(I (-1))] k)
    (call laws_szKeys [.agg [a13, a14], .one (atP o2 0)] fun o4 =>
    binP .lss (atP o4 0) (I 0) fun r5 =>
    iteP r5
     (rt [.sc] [(I (-1))] k)
     (rt [.sc] [(atP o4 0)] k)))) u0
 | _, _ => False
abbrev laws_szHead_e : Ent := ⟨[189], laws_szHead⟩
theorem laws_szHead_w : EntOK Tryz.prog TT laws_szHead_e := ent_ok tabok (L := [laws_szKeys_e]) ⟨laws_szKeys_w, trivial⟩ (keep := []) (l := []) Tryz.func189 (by kernel_rfl) (sg := [.one (.sc)]) (by kernel_rfl) trivial fun av k h => by
  unfold laws_szHead at h; split at h
  · apply un_all h; clear h; intro a0 a1 a2 a3 a4 a5 a6 a7 a8 a9 a10 a11 a12 a13 a14 a15 h; exact Eq.mpr (by kernel_rfl) h
  · exact h.elim

def laws_szSigS : GM
 | [.one a0, .one a1], k => 
  lenP a0 fun r0 =>
  binP .sub a1 r0 fun r1 =>
  binP .lss r1 (I 0) fun r2 =>
  iteP r2
   (rt [.sc] [(I (-1))] k)
   (rt [.sc] [r1] k)
 | _, _ => False
abbrev laws_szSigS_e : Ent := ⟨[190], laws_szSigS⟩
theorem laws_szSigS_w : EntOK Tryz.prog TT laws_szSigS_e := ent_ok tabok (L := []) trivial (keep := []) (l := []) Tryz.func190 (by kernel_rfl) (sg := [.one (.sc)]) (by kernel_rfl) trivial fun av k h => by
  unfold laws_szSigS at h; split at h
  · exact Eq.mpr (by kernel_rfl) h
  · exact h.elim

def laws_szSigned : GM
 | [.agg u0, .one a17], k => un 17 (fun a0 a1 a2 a3 a4 a5 a6 a7 a8 a9 a10 a11 a12 a13 a14 a15 a16 => 
  call laws_szHead [.agg [a0, a1, a2, a3, a4, a5, a6, a7, a8, a9, a10, a11, a12, a13, a14, a15], .one a17] fun o0 =>
  binP .lss (atP o0 0) (I 0) fun r1 =>
  iteP r1
   (rt [.sc] [(I (-1))] k)
   (call laws_szSigS [.one a16, .one (atP o0 0)] fun o2 =>
   binP .lss (atP o2 0) (I 0) fun r3 =>
   iteP r3
    (rt [.sc] [(I (-1))] k)
    (rt [.sc] [(atP o2 0)] k))) u0
 | _, _ => False
abbrev laws_szSigned_e : Ent := ⟨[158], laws_szSigned⟩
theorem laws_szSigned_w : EntOK Tryz.prog TT laws_szSigned_e := ent_ok tabok (L := [laws_szHead_e, laws_szSigS_e]) ⟨laws_szHead_w, laws_szSigS_w, trivial⟩ (keep := []) (l := []) Tryz.func158 (by kernel_rfl) (sg := [.one (.sc)]) (by kernel_rfl) trivial fun av k h => by
  unfold laws_szSigned at h; split at h
  · apply un_all h; clear h; intro a0 a1 a2 a3 a4 a5 a6 a7 a8 a9 a10 a11 a12 a13 a14 a15 a16 h; exact Eq.mpr (by kernel_rfl) h
  · exact h.elim

def laws_szSignedS_r0 (v : List PV) (K : List PV → Prop) (x0k : Prop) (x1k : PV → PV → PV → PV → Prop) : Prop :=
 un 4 (fun v0 v1 v2 v3 =>
  lenP v0 fun r0 =>
  binP .lss v3 r0 fun r1 =>
  iteP r1
   (elemP 17 v0 v3 fun c2 =>
   call laws_szSigned [.agg [(atP c2 0), (atP c2 1), (atP c2 2), (atP c2 3), (atP c2 4), (atP c2 5), (atP c2 6), (atP c2 7), (atP c2 8), (atP c2 9), (atP c2 10), (atP c2 11), (atP c2 12), (atP c2 13), (atP c2 14), (atP c2 15), (atP c2 16)], .one v1] fun o3 =>
   binP .lss (atP o3 0) (I 0) fun r4 =>
   iteP r4
    (x0k)
    (binP .add v3 (I 1) fun r5 =>
    K [v0, (atP o3 0), v2, r5]))
   (x1k v0 v1 v2 v3)) v
def laws_szSignedS : GM
 | [.one a0, .one a1], k => 
  lenP a0 fun r0 =>
  binP .sub a1 r0 fun r1 =>
  binP .lss r1 (I 0) fun r2 =>
  iteP r2
   (rt [.sc] [(I (-1))] k)
   (lp (fun L w => laws_szSignedS_r0 w L
    (rt [.sc] [(I (-1))] k)
    (fun q6 q7 q8 q9 => rt [.sc] [q7] k)) [a0, r1, (I 0), (I 0)])
 | _, _ => False
abbrev laws_szSignedS_e : Ent := ⟨[121], laws_szSignedS⟩
def laws_szSignedS_l : List LE := [⟨0, ⟨[(0, .one (.pv (.bool false))), (1, .one (.pv (.bool false))), (4, .one (.pv (.bool false))), (5, .one (.pv (.bool false)))], [], [], 0, 27⟩, fun K k v => laws_szSignedS_r0 v K (k .ret ⟨[(4, .one (.pv (I (-1))))], [], [], 1, 27⟩) (fun x0 x1 x2 x3 => k (.exit 0) ⟨[(0, .one (.pv x0)), (1, .one (.pv x1)), (4, .one (.pv x2)), (5, .one (.pv x3))], [], [], 0, 27⟩)⟩]
theorem laws_szSignedS_s : LEsOK (orac [laws_szSigned_e]) TT (kk [0, 1, 4, 5]) (sumsOf laws_szSignedS_l) Tryz.f121 laws_szSignedS_l := ⟨fun v K k h => by
  apply un_all h; exact fun v0 v1 v2 v3 h => Eq.mpr (by kernel_rfl) h
  , trivial⟩
theorem laws_szSignedS_w : EntOK Tryz.prog TT laws_szSignedS_e := ent_ok tabok (L := [laws_szSigned_e]) ⟨laws_szSigned_w, trivial⟩ (keep := (kk [0, 1, 4, 5])) (l := laws_szSignedS_l) Tryz.func121 (by kernel_rfl) (sg := [.one (.sc)]) (by kernel_rfl) laws_szSignedS_s fun av k h => by
  unfold laws_szSignedS at h; split at h
  · exact Eq.mpr (by kernel_rfl) h
  · exact h.elim

def laws_szStringS_r0 (v : List PV) (K : List PV → Prop) (x0k : Prop) (x1k : PV → PV → PV → PV → Prop) : Prop :=
 un 4 (fun v0 v1 v2 v3 =>
  lenP v0 fun r0 =>
  binP .lss v3 r0 fun r1 =>
  iteP r1
   (elemP 1 v0 v3 fun c2 =>
   lenS (atP c2 0) fun r3 =>
   binP .sub v1 r3 fun r4 =>
   binP .lss r4 (I 0) fun r5 =>
   iteP r5
    (x0k)
    (binP .add v3 (I 1) fun r6 =>
    K [v0, r4, v2, r6]))
   (x1k v0 v1 v2 v3)) v
def laws_szStringS : GM
 | [.one a0, .one a1], k => 
  lenP a0 fun r0 =>
  binP .sub a1 r0 fun r1 =>
  binP .lss r1 (I 0) fun r2 =>
  iteP r2
   (rt [.sc] [(I (-1))] k)
   (lp (fun L w => laws_szStringS_r0 w L
    (rt [.sc] [(I (-1))] k)
    (fun q7 q8 q9 q10 => rt [.sc] [q8] k)) [a0, r1, (I 0), (I 0)])
 | _, _ => False
abbrev laws_szStringS_e : Ent := ⟨[191], laws_szStringS⟩
def laws_szStringS_l : List LE := [⟨0, ⟨[(0, .one (.pv (.bool false))), (1, .one (.pv (.bool false))), (4, .one (.pv (.bool false))), (5, .one (.pv (.bool false)))], [], [], 0, 28⟩, fun K k v => laws_szStringS_r0 v K (k .ret ⟨[(4, .one (.pv (I (-1))))], [], [], 0, 28⟩) (fun x0 x1 x2 x3 => k (.exit 0) ⟨[(0, .one (.pv x0)), (1, .one (.pv x1)), (4, .one (.pv x2)), (5, .one (.pv x3))], [], [], 0, 28⟩)⟩]
theorem laws_szStringS_s : LEsOK (orac []) TT (kk [0, 1, 4, 5]) (sumsOf laws_szStringS_l) Tryz.f191 laws_szStringS_l := ⟨fun v K k h => by
  apply un_all h; exact fun v0 v1 v2 v3 h => Eq.mpr (by kernel_rfl) h
  , trivial⟩
theorem laws_szStringS_w : EntOK Tryz.prog TT laws_szStringS_e := ent_ok tabok (L := []) trivial (keep := (kk [0, 1, 4, 5])) (l := laws_szStringS_l) Tryz.func191 (by kernel_rfl) (sg := [.one (.sc)]) (by kernel_rfl) laws_szStringS_s fun av k h => by
  unfold laws_szStringS at h; split at h
  · exact Eq.mpr (by kernel_rfl) h
  · exact h.elim

def laws_szEntry : GM
 | [.agg u0, .one a4], k => un 4 (fun a0 a1 a2 a3 => 
  lenS a0 fun r0 =>
  binP .sub a4 r0 fun r1 =>
  binP .lss r1 (I 0) fun r2 =>
  iteP r2
   (rt [.sc] [(I (-1))] k)
   (call laws_szStringS [.one a3, .one r1] fun o3 =>
   binP .lss (atP o3 0) (I 0) fun r4 =>
   iteP r4
    (rt [.sc] [(I (-1))] k)
    (rt [.sc] [(atP o3 0)] k))) u0
 | _, _ => False
abbrev laws_szEntry_e : Ent := ⟨[159], laws_szEntry⟩
theorem laws_szEntry_w : EntOK Tryz.prog TT laws_szEntry_e := ent_ok tabok (L := [laws_szStringS_e]) ⟨laws_szStringS_w, trivial⟩ (keep := []) (l := []) Tryz.func159 (by kernel_rfl) (sg := [.one (.sc)]) (by kernel_rfl) trivial fun av k h => by
  unfold laws_szEntry at h; split at h
  · apply un_all h; clear h; intro a0 a1 a2 a3 h; exact Eq.mpr (by kernel_rfl) h
  · exact h.elim

def laws_szEntryS_r0 (v : List PV) (K : List PV → Prop) (x0k : Prop) (x1k : PV → PV → PV → PV → Prop) : Prop :=
 un 4 (fun v0 v1 v2 v3 =>
  lenP v0 fun r0 =>
  binP .lss v3 r0 fun r1 =>
  iteP r1
   (elemP 4 v0 v3 fun c2 =>
   call laws_szEntry [.agg [(atP c2 0), (atP c2 1), (atP c2 2), (atP c2 3)], .one v1] fun o3 =>
   binP .lss (atP o3 0) (I 0) fun r4 =>
   iteP r4
    (x0k)
    (binP .add v3 (I 1) fun r5 =>
    K [v0, (atP o3 0), v2, r5]))
   (x1k v0 v1 v2 v3)) v
def laws_szEntryS : GM
 | [.one a0, .one a1], k => 
  lenP a0 fun r0 =>
  binP .sub a1 r0 fun r1 =>
  binP .lss r1 (I 0) fun r2 =>
  iteP r2
   (rt [.sc] [(I (-1))] k)
   (lp (fun L w => laws_szEntryS_r0 w L
    (rt [.sc] [(I (-1))] k)
    (fun q6 q7 q8 q9 => rt [.sc] [q7] k)) [a0, r1, (I 0), (I 0)])
 | _, _ => False
abbrev laws_szEntryS_e : Ent := ⟨[122], laws_szEntryS⟩
def laws_szEntryS_l : List LE := [⟨0, ⟨[(0, .one (.pv (.bool false))), (1, .one (.pv (.bool false))), (4, .one (.pv (.bool false))), (5, .one (.pv (.bool false)))], [], [], 0, 27⟩, fun K k v => laws_szEntryS_r0 v K (k .ret ⟨[(4, .one (.pv (I (-1))))], [], [], 1, 27⟩) (fun x0 x1 x2 x3 => k (.exit 0) ⟨[(0, .one (.pv x0)), (1, .one (.pv x1)), (4, .one (.pv x2)), (5, .one (.pv x3))], [], [], 0, 27⟩)⟩]
theorem laws_szEntryS_s : LEsOK (orac [laws_szEntry_e]) TT (kk [0, 1, 4, 5]) (sumsOf laws_szEntryS_l) Tryz.f122 laws_szEntryS_l := ⟨fun v K k h => by
  apply un_all h; exact fun v0 v1 v2 v3 h => Eq.mpr (by kernel_rfl) h
  , trivial⟩
theorem laws_szEntryS_w : EntOK Tryz.prog TT laws_szEntryS_e := ent_ok tabok (L := [laws_szEntry_e]) ⟨laws_szEntry_w, trivial⟩ (keep := (kk [0, 1, 4, 5])) (l := laws_szEntryS_l) Tryz.func122 (by kernel_rfl) (sg := [.one (.sc)]) (by kernel_rfl) laws_szEntryS_s fun av k h => by
  unfold laws_szEntryS at h; split at h
  · exact Eq.mpr (by kernel_rfl) h
  · exact h.elim

def laws_szZone : GM
 | [.agg u0, .one a2], k => un 2 (fun a0 a1 => 
  call laws_szSignedS [.one a0, .one a2] fun o0 =>
  binP .lss (atP o0 0) (I 0) fun r1 =>
  iteP r1
   (rt [.sc] [(I (-1))] k)
   (call laws_szEntryS [.one a1, .one (atP o0 0)] fun o2 =>
   binP .lss (atP o2 0) (I 0) fun r3 =>
   iteP r3
    (rt [.sc] [(I (-1))] k)
    (rt [.sc] [(atP o2 0)] k))) u0
 | _, _ => False
abbrev laws_szZone_e : Ent := ⟨[77], laws_szZone⟩
theorem laws_szZone_w : EntOK Tryz.prog TT laws_szZone_e := ent_ok tabok (L := [laws_szSignedS_e, laws_szEntryS_e]) ⟨laws_szSignedS_w, laws_szEntryS_w, trivial⟩ (keep := []) (l := []) Tryz.func77 (by kernel_rfl) (sg := [.one (.sc)]) (by kernel_rfl) trivial fun av k h => by
  unfold laws_szZone at h; split at h
  · apply un_all h; clear h; intro a0 a1 h; exact Eq.mpr (by kernel_rfl) h
  · exact h.elim

def laws_szZoneS_r0 (v : List PV) (K : List PV → Prop) (x0k : Prop) (x1k : PV → PV → PV → PV → Prop) : Prop :=
 un 4 (fun v0 v1 v2 v3 =>
  lenP v0 fun r0 =>
  binP .lss v3 r0 fun r1 =>
  iteP r1
   (elemP 2 v0 v3 fun c2 =>
   call laws_szZone [.agg [(atP c2 0), (atP c2 1)], .one v1] fun o3 =>
   binP .lss (atP o3 0) (I 0) fun r4 =>
   iteP r4
    (x0k)
    (binP .add v3 (I 1) fun r5 =>
    K [v0, (atP o3 0), v2, r5]))
   (x1k v0 v1 v2 v3)) v
def laws_szZoneS : GM
 | [.one a0, .one a1], k => 
  lenP a0 fun r0 =>
  binP .sub a1 r0 fun r1 =>
  binP .lss r1 (I 0) fun r2 =>
  iteP r2
   (rt [.sc] [(I (-1))] k)
   (lp (fun L w => laws_szZoneS_r0 w L
    (rt [.sc] [(I (-1))] k)
    (fun q6 q7 q8 q9 => rt [.sc] [q7] k)) [a0, r1, (I 0), (I 0)])
 | _, _ => False
abbrev laws_szZoneS_e : Ent := ⟨[31], laws_szZoneS⟩
def laws_szZoneS_l : List LE := [⟨0, ⟨[(0, .one (.pv (.bool false))), (1, .one (.pv (.bool false))), (4, .one (.pv (.bool false))), (5, .one (.pv (.bool false)))], [], [], 0, 27⟩, fun K k v => laws_szZoneS_r0 v K (k .ret ⟨[(4, .one (.pv (I (-1))))], [], [], 1, 27⟩) (fun x0 x1 x2 x3 => k (.exit 0) ⟨[(0, .one (.pv x0)), (1, .one (.pv x1)), (4, .one (.pv x2)), (5, .one (.pv x3))], [], [], 0, 27⟩)⟩]
theorem laws_szZoneS_s : LEsOK (orac [laws_szZone_e]) TT (kk [0, 1, 4, 5]) (sumsOf laws_szZoneS_l) Tryz.f31 laws_szZoneS_l := ⟨fun v K k h => by
  apply un_all h; exact fun v0 v1 v2 v3 h => Eq.mpr (by kernel_rfl) h
  , trivial⟩
theorem laws_szZoneS_w : EntOK Tryz.prog TT laws_szZoneS_e := ent_ok tabok (L := [laws_szZone_e]) ⟨laws_szZone_w, trivial⟩ (keep := (kk [0, 1, 4, 5])) (l := laws_szZoneS_l) Tryz.func31 (by kernel_rfl) (sg := [.one (.sc)]) (by kernel_rfl) laws_szZoneS_s fun av k h => by
  unfold laws_szZoneS at h; split at h
  · exact Eq.mpr (by kernel_rfl) h
  · exact h.elim

def laws_szSaid : GM
 | [.agg u0, .one a3], k => un 3 (fun a0 a1 a2 => 
  call laws_szZone [.agg [a0, a1], .one a3] fun o0 =>
  binP .lss (atP o0 0) (I 0) fun r1 =>
  iteP r1
   (rt [.sc] [(I (-1))] k)
   (call laws_szIntS [.one a2, .one (atP o0 0)] fun o2 =>
   binP .lss (atP o2 0) (I 0) fun r3 =>
   iteP r3
    (rt [.sc] [(I (-1))] k)
    (rt [.sc] [(atP o2 0)] k))) u0
 | _, _ => False
abbrev laws_szSaid_e : Ent := ⟨[78], laws_szSaid⟩
theorem laws_szSaid_w : EntOK Tryz.prog TT laws_szSaid_e := ent_ok tabok (L := [laws_szZone_e, laws_szIntS_e]) ⟨laws_szZone_w, laws_szIntS_w, trivial⟩ (keep := []) (l := []) Tryz.func78 (by kernel_rfl) (sg := [.one (.sc)]) (by kernel_rfl) trivial fun av k h => by
  unfold laws_szSaid at h; split at h
  · apply un_all h; clear h; intro a0 a1 a2 h; exact Eq.mpr (by kernel_rfl) h
  · exact h.elim

def laws_szSaidS_r0 (v : List PV) (K : List PV → Prop) (x0k : Prop) (x1k : PV → PV → PV → PV → Prop) : Prop :=
 un 4 (fun v0 v1 v2 v3 =>
  lenP v0 fun r0 =>
  binP .lss v3 r0 fun r1 =>
  iteP r1
   (elemP 3 v0 v3 fun c2 =>
   call laws_szSaid [.agg [(atP c2 0), (atP c2 1), (atP c2 2)], .one v1] fun o3 =>
   binP .lss (atP o3 0) (I 0) fun r4 =>
   iteP r4
    (x0k)
    (binP .add v3 (I 1) fun r5 =>
    K [v0, (atP o3 0), v2, r5]))
   (x1k v0 v1 v2 v3)) v
def laws_szSaidS : GM
 | [.one a0, .one a1], k => 
  lenP a0 fun r0 =>
  binP .sub a1 r0 fun r1 =>
  binP .lss r1 (I 0) fun r2 =>
  iteP r2
   (rt [.sc] [(I (-1))] k)
   (lp (fun L w => laws_szSaidS_r0 w L
    (rt [.sc] [(I (-1))] k)
    (fun q6 q7 q8 q9 => rt [.sc] [q7] k)) [a0, r1, (I 0), (I 0)])
 | _, _ => False
abbrev laws_szSaidS_e : Ent := ⟨[32], laws_szSaidS⟩
def laws_szSaidS_l : List LE := [⟨0, ⟨[(0, .one (.pv (.bool false))), (1, .one (.pv (.bool false))), (4, .one (.pv (.bool false))), (5, .one (.pv (.bool false)))], [], [], 0, 27⟩, fun K k v => laws_szSaidS_r0 v K (k .ret ⟨[(4, .one (.pv (I (-1))))], [], [], 1, 27⟩) (fun x0 x1 x2 x3 => k (.exit 0) ⟨[(0, .one (.pv x0)), (1, .one (.pv x1)), (4, .one (.pv x2)), (5, .one (.pv x3))], [], [], 0, 27⟩)⟩]
theorem laws_szSaidS_s : LEsOK (orac [laws_szSaid_e]) TT (kk [0, 1, 4, 5]) (sumsOf laws_szSaidS_l) Tryz.f32 laws_szSaidS_l := ⟨fun v K k h => by
  apply un_all h; exact fun v0 v1 v2 v3 h => Eq.mpr (by kernel_rfl) h
  , trivial⟩
theorem laws_szSaidS_w : EntOK Tryz.prog TT laws_szSaidS_e := ent_ok tabok (L := [laws_szSaid_e]) ⟨laws_szSaid_w, trivial⟩ (keep := (kk [0, 1, 4, 5])) (l := laws_szSaidS_l) Tryz.func32 (by kernel_rfl) (sg := [.one (.sc)]) (by kernel_rfl) laws_szSaidS_s fun av k h => by
  unfold laws_szSaidS at h; split at h
  · exact Eq.mpr (by kernel_rfl) h
  · exact h.elim

def laws_szServer : GM
 | [.agg u0, .one a2], k => un 2 (fun a0 a1 => 
  call laws_szZoneS [.one a0, .one a2] fun o0 =>
  binP .lss (atP o0 0) (I 0) fun r1 =>
  iteP r1
   (rt [.sc] [(I (-1))] k)
   (rt [.sc] [(atP o0 0)] k)) u0
 | _, _ => False
abbrev laws_szServer_e : Ent := ⟨[20], laws_szServer⟩
theorem laws_szServer_w : EntOK Tryz.prog TT laws_szServer_e := ent_ok tabok (L := [laws_szZoneS_e]) ⟨laws_szZoneS_w, trivial⟩ (keep := []) (l := []) Tryz.func20 (by kernel_rfl) (sg := [.one (.sc)]) (by kernel_rfl) trivial fun av k h => by
  unfold laws_szServer at h; split at h
  · apply un_all h; clear h; intro a0 a1 h; exact Eq.mpr (by kernel_rfl) h
  · exact h.elim

def laws_szServerS_r0 (v : List PV) (K : List PV → Prop) (x0k : Prop) (x1k : PV → PV → PV → PV → Prop) : Prop :=
 un 4 (fun v0 v1 v2 v3 =>
  lenP v0 fun r0 =>
  binP .lss v3 r0 fun r1 =>
  iteP r1
   (elemP 2 v0 v3 fun c2 =>
   call laws_szServer [.agg [(atP c2 0), (atP c2 1)], .one v1] fun o3 =>
   binP .lss (atP o3 0) (I 0) fun r4 =>
   iteP r4
    (x0k)
    (binP .add v3 (I 1) fun r5 =>
    K [v0, (atP o3 0), v2, r5]))
   (x1k v0 v1 v2 v3)) v
def laws_szServerS : GM
 | [.one a0, .one a1], k => 
  lenP a0 fun r0 =>
  binP .sub a1 r0 fun r1 =>
  binP .lss r1 (I 0) fun r2 =>
  iteP r2
   (rt [.sc] [(I (-1))] k)
   (lp (fun L w => laws_szServerS_r0 w L
    (rt [.sc] [(I (-1))] k)
    (fun q6 q7 q8 q9 => rt [.sc] [q7] k)) [a0, r1, (I 0), (I 0)])
 | _, _ => False
abbrev laws_szServerS_e : Ent := ⟨[33], laws_szServerS⟩
def laws_szServerS_l : List LE := [⟨0, ⟨[(0, .one (.pv (.bool false))), (1, .one (.pv (.bool false))), (4, .one (.pv (.bool false))), (5, .one (.pv (.bool false)))], [], [], 0, 27⟩, fun K k v => laws_szServerS_r0 v K (k .ret ⟨[(4, .one (.pv (I (-1))))], [], [], 1, 27⟩) (fun x0 x1 x2 x3 => k (.exit 0) ⟨[(0, .one (.pv x0)), (1, .one (.pv x1)), (4, .one (.pv x2)), (5, .one (.pv x3))], [], [], 0, 27⟩)⟩]
theorem laws_szServerS_s : LEsOK (orac [laws_szServer_e]) TT (kk [0, 1, 4, 5]) (sumsOf laws_szServerS_l) Tryz.f33 laws_szServerS_l := ⟨fun v K k h => by
  apply un_all h; exact fun v0 v1 v2 v3 h => Eq.mpr (by kernel_rfl) h
  , trivial⟩
theorem laws_szServerS_w : EntOK Tryz.prog TT laws_szServerS_e := ent_ok tabok (L := [laws_szServer_e]) ⟨laws_szServer_w, trivial⟩ (keep := (kk [0, 1, 4, 5])) (l := laws_szServerS_l) Tryz.func33 (by kernel_rfl) (sg := [.one (.sc)]) (by kernel_rfl) laws_szServerS_s fun av k h => by
  unfold laws_szServerS at h; split at h
  · exact Eq.mpr (by kernel_rfl) h
  · exact h.elim

def laws_szSignedSS_r0 (v : List PV) (K : List PV → Prop) (x0k : Prop) (x1k : PV → PV → PV → PV → Prop) : Prop :=
 un 4 (fun v0 v1 v2 v3 =>
  lenP v0 fun r0 =>
  binP .lss v3 r0 fun r1 =>
  iteP r1
   (elemP 1 v0 v3 fun c2 =>
   call laws_szSignedS [.one (atP c2 0), .one v1] fun o3 =>
   binP .lss (atP o3 0) (I 0) fun r4 =>
   iteP r4
    (x0k)
    (binP .add v3 (I 1) fun r5 =>
    K [v0, (atP o3 0), v2, r5]))
   (x1k v0 v1 v2 v3)) v
def laws_szSignedSS : GM
 | [.one a0, .one a1], k => 
  lenP a0 fun r0 =>
  binP .sub a1 r0 fun r1 =>
  binP .lss r1 (I 0) fun r2 =>
  iteP r2
   (rt [.sc] [(I (-1))] k)
   (lp (fun L w => laws_szSignedSS_r0 w L
    (rt [.sc] [(I (-1))] k)
    (fun q6 q7 q8 q9 => rt [.sc] [q7] k)) [a0, r1, (I 0), (I 0)])
 | _, _ => False
abbrev laws_szSignedSS_e : Ent := ⟨[79], laws_szSignedSS⟩
def laws_szSignedSS_l : List LE := [⟨0, ⟨[(0, .one (.pv (.bool false))), (1, .one (.pv (.bool false))), (4, .one (.pv (.bool false))), (5, .one (.pv (.bool false)))], [], [], 0, 27⟩, fun K k v => laws_szSignedSS_r0 v K (k .ret ⟨[(4, .one (.pv (I (-1))))], [], [], 1, 27⟩) (fun x0 x1 x2 x3 => k (.exit 0) ⟨[(0, .one (.pv x0)), (1, .one (.pv x1)), (4, .one (.pv x2)), (5, .one (.pv x3))], [], [], 0, 27⟩)⟩]
theorem laws_szSignedSS_s : LEsOK (orac [laws_szSignedS_e]) TT (kk [0, 1, 4, 5]) (sumsOf laws_szSignedSS_l) Tryz.f79 laws_szSignedSS_l := ⟨fun v K k h => by
  apply un_all h; exact fun v0 v1 v2 v3 h => Eq.mpr (by kernel_rfl) h
  , trivial⟩
theorem laws_szSignedSS_w : EntOK Tryz.prog TT laws_szSignedSS_e := ent_ok tabok (L := [laws_szSignedS_e]) ⟨laws_szSignedS_w, trivial⟩ (keep := (kk [0, 1, 4, 5])) (l := laws_szSignedSS_l) Tryz.func79 (by kernel_rfl) (sg := [.one (.sc)]) (by kernel_rfl) laws_szSignedSS_s fun av k h => by
  unfold laws_szSignedSS at h; split at h
  · exact Eq.mpr (by kernel_rfl) h
  · exact h.elim

def laws_szFork : GM
 | [.agg u0, .one a51], k => un 51 (fun a0 a1 a2 a3 a4 a5 a6 a7 a8 a9 a10 a11 a12 a13 a14 a15 a16 a17 a18 a19 a20 a21 a22 a23 a24 a25 a26 a27 a28 a29 a30 a31 a32 a33 a34 a35 a36 a37 a38 a39 a40 a41 a42 a43 a44 a45 a46 a47 a48 a49 a50 => 
  call laws_szSigned [.agg [a0, a1, a2, a3, a4, a5, a6, a7, a8, a9, a10, a11, a12, a13, a14, a15, a16], .one a51] fun o0 =>
  binP .lss (atP o0 0) (I 0) fun r1 =>
  iteP r1
   (rt [.sc] [(I (-1))] k)
   (call laws_szSigned [.agg [a17, a18, a19, a20, a21, a22, a23, a24, a25, a26, a27, a28, a29, a30, a31, a32, a33], .one (atP o0 0)] fun o2 =>
   binP .lss (atP o2 0) (I 0) fun r3 =>
   iteP r3
    (rt [.sc] [(I (-1))] k)
    (call laws_szSigned [.agg [a34, a35, a36, a37, a38, a39, a40, a41, a42, a43, a44, a45, a46, a47, a48, a49, a50], .one (atP o2 0)] fun o4 =>
    binP .lss (atP o4 0) (I 0) fun r5 =>
    iteP r5
     (rt [.sc] [(I (-1))] k)
     (rt [.sc] [(atP o4 0)] k)))) u0
 | _, _ => False
abbrev laws_szFork_e : Ent := ⟨[123], laws_szFork⟩
theorem laws_szFork_w : EntOK Tryz.prog TT laws_szFork_e := ent_ok tabok (L := [laws_szSigned_e]) ⟨laws_szSigned_w, trivial⟩ (keep := []) (l := []) Tryz.func123 (by kernel_rfl) (sg := [.one (.sc)]) (by kernel_rfl) trivial fun av k h => by
  unfold laws_szFork at h; split at h
  · apply un_all h; clear h; intro a0 a1 a2 a3 a4 a5 a6 a7 a8 a9 a10 a11 a12 a13 a14 a15 a16 a17 a18 a19 a20 a21 a22 a23 a24 a25 a26 a27 a28 a29 a30 a31 a32 a33 a34 a35 a36 a37 a38 a39 a40 a41 a42 a43 a44 a45 a46 a47 a48 a49 a50 h; exact Eq.mpr (by kernel_rfl) h
  · exact h.elim

def laws_szForkS_r0 (v : List PV) (K : List PV → Prop) (x0k : Prop) (x1k : PV → PV → PV → PV → Prop) : Prop :=
 un 4 (fun v0 v1 v2 v3 =>
  lenP v0 fun r0 =>
  binP .lss v3 r0 fun r1 =>
  iteP r1
   (elemP 51 v0 v3 fun c2 =>
   call laws_szFork [.agg [(atP c2 0), (atP c2 1), (atP c2 2), (atP c2 3), (atP c2 4), (atP c2 5), (atP c2 6), (atP c2 7), (atP c2 8), (atP c2 9), (atP c2 10), (atP c2 11), (atP c2 12), (atP c2 13), (atP c2 14), (atP c2 15), (atP c2 16), (atP c2 17), (atP c2 18), (atP c2 19), (atP c2 20), (atP c2 21), (atP c2 22), (atP c2 23), (atP c2 24), (atP c2 25), (atP c2 26), (atP c2 27), (atP c2 28), (atP c2 29), (atP c2 30), (atP c2 31), (atP c2 32), (atP c2 33), (atP c2 34), (atP c2 35), (atP c2 36), (atP c2 37), (atP c2 38), (atP c2 39), (atP c2 40), (atP c2 41), (atP c2 42), (atP c2 43), (atP c2 44), (atP c2 45), (atP c2 46), (atP c2 47), (atP c2 48), (atP c2 49), (atP c2 50)], .one v1] fun o3 =>
   binP .lss (atP o3 0) (I 0) fun r4 =>
   iteP r4
    (x0k)
    (binP .add v3 (I 1) fun r5 =>
    K [v0, (atP o3 0), v2, r5]))
   (x1k v0 v1 v2 v3)) v
def laws_szForkS : GM
 | [.one a0, .one a1], k => 
  lenP a0 fun r0 =>
  binP .sub a1 r0 fun r1 =>
  binP .lss r1 (I 0) fun r2 =>
  iteP r2
   (rt [.sc] [(I (-1))] k)
   (lp (fun L w => laws_szForkS_r0 w L
    (rt [.sc] [(I (-1))] k)
    (fun q6 q7 q8 q9 => rt [.sc] [q7] k)) [a0, r1, (I 0), (I 0)])
 | _, _ => False
abbrev laws_szForkS_e : Ent := ⟨[80], laws_szForkS⟩
def laws_szForkS_l : List LE := [⟨0, ⟨[(0, .one (.pv (.bool false))), (1, .one (.pv (.bool false))), (4, .one (.pv (.bool false))), (5, .one (.pv (.bool false)))], [], [], 0, 27⟩, fun K k v => laws_szForkS_r0 v K (k .ret ⟨[(4, .one (.pv (I (-1))))], [], [], 1, 27⟩) (fun x0 x1 x2 x3 => k (.exit 0) ⟨[(0, .one (.pv x0)), (1, .one (.pv x1)), (4, .one (.pv x2)), (5, .one (.pv x3))], [], [], 0, 27⟩)⟩]
theorem laws_szForkS_s : LEsOK (orac [laws_szFork_e]) TT (kk [0, 1, 4, 5]) (sumsOf laws_szForkS_l) Tryz.f80 laws_szForkS_l := ⟨fun v K k h => by
  apply un_all h; exact fun v0 v1 v2 v3 h => Eq.mpr (by kernel_rfl) h
  , trivial⟩
theorem laws_szForkS_w : EntOK Tryz.prog TT laws_szForkS_e := ent_ok tabok (L := [laws_szFork_e]) ⟨laws_szFork_w, trivial⟩ (keep := (kk [0, 1, 4, 5])) (l := laws_szForkS_l) Tryz.func80 (by kernel_rfl) (sg := [.one (.sc)]) (by kernel_rfl) laws_szForkS_s fun av k h => by
  unfold laws_szForkS at h; split at h
  · exact Eq.mpr (by kernel_rfl) h
  · exact h.elim

def laws_szKnown : GM
 | [.agg u0, .one a2], k => un 2 (fun a0 a1 => 
  call laws_szSignedSS [.one a0, .one a2] fun o0 =>
  binP .lss (atP o0 0) (I 0) fun r1 =>
  iteP r1
   (rt [.sc] [(I (-1))] k)
   (call laws_szForkS [.one a1, .one (atP o0 0)] fun o2 =>
   binP .lss (atP o2 0) (I 0) fun r3 =>
   iteP r3
    (rt [.sc] [(I (-1))] k)
    (rt [.sc] [(atP o2 0)] k))) u0
 | _, _ => False
abbrev laws_szKnown_e : Ent := ⟨[34], laws_szKnown⟩
theorem laws_szKnown_w : EntOK Tryz.prog TT laws_szKnown_e := ent_ok tabok (L := [laws_szSignedSS_e, laws_szForkS_e]) ⟨laws_szSignedSS_w, laws_szForkS_w, trivial⟩ (keep := []) (l := []) Tryz.func34 (by kernel_rfl) (sg := [.one (.sc)]) (by kernel_rfl) trivial fun av k h => by
  unfold laws_szKnown at h; split at h
  · apply un_all h; clear h; intro a0 a1 h; exact Eq.mpr (by kernel_rfl) h
  · exact h.elim

def laws_szProof : GM
 | [.agg u0, .one a2], k => un 2 (fun a0 a1 => 
  call laws_szIntS [.one a1, .one a2] fun o0 =>
  binP .lss (atP o0 0) (I 0) fun r1 =>
  iteP r1
   (rt [.sc] [(I (-1))] k)
   (rt [.sc] [(atP o0 0)] k)) u0
 | _, _ => False
abbrev laws_szProof_e : Ent := ⟨[192], laws_szProof⟩
theorem laws_szProof_w : EntOK Tryz.prog TT laws_szProof_e := ent_ok tabok (L := [laws_szIntS_e]) ⟨laws_szIntS_w, trivial⟩ (keep := []) (l := []) Tryz.func192 (by kernel_rfl) (sg := [.one (.sc)]) (by kernel_rfl) trivial fun av k h => by
  unfold laws_szProof at h; split at h
  · apply un_all h; clear h; intro a0 a1 h; exact Eq.mpr (by kernel_rfl) h
  · exact h.elim

def laws_szGap : GM
 | [.agg u0, .one a13], k => un 13 (fun a0 a1 a2 a3 a4 a5 a6 a7 a8 a9 a10 a11 a12 => 
  call laws_szEntry [.agg [a1, a2, a3, a4], .one a13] fun o0 =>
  binP .lss (atP o0 0) (I 0) fun r1 =>
  iteP r1
   (rt [.sc] [(I (-1))] k)
   (call laws_szEntry [.agg [a5, a6, a7, a8], .one (atP o0 0)] fun o2 =>
   binP .lss (atP o2 0) (I 0) fun r3 =>
   iteP r3
    (rt [.sc] [(I (-1))] k)
    (call laws_szProof [.agg [a9, a10], .one (atP o2 0)] fun o4 =>
    binP .lss (atP o4 0) (I 0) fun r5 =>
    iteP r5
     (rt [.sc] [(I (-1))] k)
     (call laws_szProof [.agg [a11, a12], .one (atP o4 0)] fun o6 =>
     binP .lss (atP o6 0) (I 0) fun r7 =>
     iteP r7
      (rt [.sc] [(I (-1))] k)
      (rt [.sc] [(atP o6 0)] k))))) u0
 | _, _ => False
abbrev laws_szGap_e : Ent := ⟨[193], laws_szGap⟩
theorem laws_szGap_w : EntOK Tryz.prog TT laws_szGap_e := ent_ok tabok (L := [laws_szEntry_e, laws_szProof_e]) ⟨laws_szEntry_w, laws_szProof_w, trivial⟩ (keep := []) (l := []) Tryz.func193 (by kernel_rfl) (sg := [.one (.sc)]) (by kernel_rfl) trivial fun av k h => by
  unfold laws_szGap at h; split at h
  · apply un_all h; clear h; intro a0 a1 a2 a3 a4 a5 a6 a7 a8 a9 a10 a11 a12 h; exact Eq.mpr (by kernel_rfl) h
  · exact h.elim

def laws_szAnswer : GM
 | [.agg u0, .one a21], k => un 21 (fun a0 a1 a2 a3 a4 a5 a6 a7 a8 a9 a10 a11 a12 a13 a14 a15 a16 a17 a18 a19 a20 => 
  call laws_szSignedS [.one a0, .one a21] fun o0 =>
  binP .lss (atP o0 0) (I 0) fun r1 =>
  iteP r1
   (rt [.sc] [(I (-1))] k)
   (call laws_szEntry [.agg [a2, a3, a4, a5], .one (atP o0 0)] fun o2 =>
   binP .lss (atP o2 0) (I 0) fun r3 =>
   iteP r3
    (rt [.sc] [(I (-1))] k)
    (call laws_szProof [.agg [a6, a7], .one (atP o2 0)] fun o4 =>
    binP .lss (atP o4 0) (I 0) fun r5 =>
    iteP r5
     (rt [.sc] [(I (-1))] k)
     (call laws_szGap [.agg [a8, a9, a10, a11, a12, a13, a14, a15, a16, a17, a18, a19, a20], .one (atP o4 0)] fun o6 =>
     binP .lss (atP o6 0) (I 0) fun r7 =>
     iteP r7
      (rt [.sc] [(I (-1))] k)
      (rt [.sc] [(atP o6 0)] k))))) u0
 | _, _ => False
abbrev laws_szAnswer_e : Ent := ⟨[160], laws_szAnswer⟩
theorem laws_szAnswer_w : EntOK Tryz.prog TT laws_szAnswer_e := ent_ok tabok (L := [laws_szSignedS_e, laws_szEntry_e, laws_szProof_e, laws_szGap_e]) ⟨laws_szSignedS_w, laws_szEntry_w, laws_szProof_w, laws_szGap_w, trivial⟩ (keep := []) (l := []) Tryz.func160 (by kernel_rfl) (sg := [.one (.sc)]) (by kernel_rfl) trivial fun av k h => by
  unfold laws_szAnswer at h; split at h
  · apply un_all h; clear h; intro a0 a1 a2 a3 a4 a5 a6 a7 a8 a9 a10 a11 a12 a13 a14 a15 a16 a17 a18 a19 a20 h; exact Eq.mpr (by kernel_rfl) h
  · exact h.elim

def laws_szStored : GM
 | [.agg u0, .one a23], k => un 23 (fun a0 a1 a2 a3 a4 a5 a6 a7 a8 a9 a10 a11 a12 a13 a14 a15 a16 a17 a18 a19 a20 a21 a22 => 
  lenS a1 fun r0 =>
  binP .sub a23 r0 fun r1 =>
  binP .lss r1 (I 0) fun r2 =>
  iteP r2
   (rt [.sc] [(I (-1))] k)
   (call laws_szAnswer [.agg [a2, a3, a4, a5, a6, a7, a8, a9, a10, a11, a12, a13, a14, a15, a16, a17, a18, a19, a20, a21, a22], .one r1] fun o3 =>
   binP .lss (atP o3 0) (I 0) fun r4 =>
   iteP r4
    (rt [.sc] [(I (-1))] k)
    (rt [.sc] [(atP o3 0)] k))) u0
 | _, _ => False
abbrev laws_szStored_e : Ent := ⟨[124], laws_szStored⟩
theorem laws_szStored_w : EntOK Tryz.prog TT laws_szStored_e := ent_ok tabok (L := [laws_szAnswer_e]) ⟨laws_szAnswer_w, trivial⟩ (keep := []) (l := []) Tryz.func124 (by kernel_rfl) (sg := [.one (.sc)]) (by kernel_rfl) trivial fun av k h => by
  unfold laws_szStored at h; split at h
  · apply un_all h; clear h; intro a0 a1 a2 a3 a4 a5 a6 a7 a8 a9 a10 a11 a12 a13 a14 a15 a16 a17 a18 a19 a20 a21 a22 h; exact Eq.mpr (by kernel_rfl) h
  · exact h.elim

def laws_szStoredS_r0 (v : List PV) (K : List PV → Prop) (x0k : Prop) (x1k : PV → PV → PV → PV → Prop) : Prop :=
 un 4 (fun v0 v1 v2 v3 =>
  lenP v0 fun r0 =>
  binP .lss v3 r0 fun r1 =>
  iteP r1
   (elemP 23 v0 v3 fun c2 =>
   call laws_szStored [.agg [(atP c2 0), (atP c2 1), (atP c2 2), (atP c2 3), (atP c2 4), (atP c2 5), (atP c2 6), (atP c2 7), (atP c2 8), (atP c2 9), (atP c2 10), (atP c2 11), (atP c2 12), (atP c2 13), (atP c2 14), (atP c2 15), (atP c2 16), (atP c2 17), (atP c2 18), (atP c2 19), (atP c2 20), (atP c2 21), (atP c2 22)], .one v1] fun o3 =>
   binP .lss (atP o3 0) (I 0) fun r4 =>
   iteP r4
    (x0k)
    (binP .add v3 (I 1) fun r5 =>
    K [v0, (atP o3 0), v2, r5]))
   (x1k v0 v1 v2 v3)) v
def laws_szStoredS : GM
 | [.one a0, .one a1], k => 
  lenP a0 fun r0 =>
  binP .sub a1 r0 fun r1 =>
  binP .lss r1 (I 0) fun r2 =>
  iteP r2
   (rt [.sc] [(I (-1))] k)
   (lp (fun L w => laws_szStoredS_r0 w L
    (rt [.sc] [(I (-1))] k)
    (fun q6 q7 q8 q9 => rt [.sc] [q7] k)) [a0, r1, (I 0), (I 0)])
 | _, _ => False
abbrev laws_szStoredS_e : Ent := ⟨[81], laws_szStoredS⟩
def laws_szStoredS_l : List LE := [⟨0, ⟨[(0, .one (.pv (.bool false))), (1, .one (.pv (.bool false))), (4, .one (.pv (.bool false))), (5, .one (.pv (.bool false)))], [], [], 0, 27⟩, fun K k v => laws_szStoredS_r0 v K (k .ret ⟨[(4, .one (.pv (I (-1))))], [], [], 1, 27⟩) (fun x0 x1 x2 x3 => k (.exit 0) ⟨[(0, .one (.pv x0)), (1, .one (.pv x1)), (4, .one (.pv x2)), (5, .one (.pv x3))], [], [], 0, 27⟩)⟩]
theorem laws_szStoredS_s : LEsOK (orac [laws_szStored_e]) TT (kk [0, 1, 4, 5]) (sumsOf laws_szStoredS_l) Tryz.f81 laws_szStoredS_l := ⟨fun v K k h => by
  apply un_all h; exact fun v0 v1 v2 v3 h => Eq.mpr (by kernel_rfl) h
  , trivial⟩
theorem laws_szStoredS_w : EntOK Tryz.prog TT laws_szStoredS_e := ent_ok tabok (L := [laws_szStored_e]) ⟨laws_szStored_w, trivial⟩ (keep := (kk [0, 1, 4, 5])) (l := laws_szStoredS_l) Tryz.func81 (by kernel_rfl) (sg := [.one (.sc)]) (by kernel_rfl) laws_szStoredS_s fun av k h => by
  unfold laws_szStoredS at h; split at h
  · exact Eq.mpr (by kernel_rfl) h
  · exact h.elim

def laws_szCache : GM
 | [.agg u0, .one a1], k => un 1 (fun a0 => 
  call laws_szStoredS [.one a0, .one a1] fun o0 =>
  binP .lss (atP o0 0) (I 0) fun r1 =>
  iteP r1
   (rt [.sc] [(I (-1))] k)
   (rt [.sc] [(atP o0 0)] k)) u0
 | _, _ => False
abbrev laws_szCache_e : Ent := ⟨[35], laws_szCache⟩
theorem laws_szCache_w : EntOK Tryz.prog TT laws_szCache_e := ent_ok tabok (L := [laws_szStoredS_e]) ⟨laws_szStoredS_w, trivial⟩ (keep := []) (l := []) Tryz.func35 (by kernel_rfl) (sg := [.one (.sc)]) (by kernel_rfl) trivial fun av k h => by
  unfold laws_szCache at h; split at h
  · apply un_all h; clear h; intro a0 h; exact Eq.mpr (by kernel_rfl) h
  · exact h.elim

def laws_szWorld : GM
 | [.agg u0, .one a8], k => un 8 (fun a0 a1 a2 a3 a4 a5 a6 a7 => 
  call laws_szActorS [.one a1, .one a8] fun o0 =>
  binP .lss (atP o0 0) (I 0) fun r1 =>
  iteP r1
   (rt [.sc] [(I (-1))] k)
   (call laws_szZoneS [.one a2, .one (atP o0 0)] fun o2 =>
   binP .lss (atP o2 0) (I 0) fun r3 =>
   iteP r3
    (rt [.sc] [(I (-1))] k)
    (call laws_szSaidS [.one a3, .one (atP o2 0)] fun o4 =>
    binP .lss (atP o4 0) (I 0) fun r5 =>
    iteP r5
     (rt [.sc] [(I (-1))] k)
     (call laws_szServerS [.one a4, .one (atP o4 0)] fun o6 =>
     binP .lss (atP o6 0) (I 0) fun r7 =>
     iteP r7
      (rt [.sc] [(I (-1))] k)
      (call laws_szKnown [.agg [a5, a6], .one (atP o6 0)] fun o8 =>
      binP .lss (atP o8 0) (I 0) fun r9 =>
      iteP r9
       (rt [.sc] [(I (-1))] k)
       (call laws_szCache [.agg [a7], .one (atP o8 0)] fun o10 =>
       binP .lss (atP o10 0) (I 0) fun r11 =>
       iteP r11
        (rt [.sc] [(I (-1))] k)
        (rt [.sc] [(atP o10 0)] k))))))) u0
 | _, _ => False
abbrev laws_szWorld_e : Ent := ⟨[6], laws_szWorld⟩
theorem laws_szWorld_w : EntOK Tryz.prog TT laws_szWorld_e := ent_ok tabok (L := [laws_szActorS_e, laws_szZoneS_e, laws_szSaidS_e, laws_szServerS_e, laws_szKnown_e, laws_szCache_e]) ⟨laws_szActorS_w, laws_szZoneS_w, laws_szSaidS_w, laws_szServerS_w, laws_szKnown_w, laws_szCache_w, trivial⟩ (keep := []) (l := []) Tryz.func6 (by kernel_rfl) (sg := [.one (.sc)]) (by kernel_rfl) trivial fun av k h => by
  unfold laws_szWorld at h; split at h
  · apply un_all h; clear h; intro a0 a1 a2 a3 a4 a5 a6 a7 h; exact Eq.mpr (by kernel_rfl) h
  · exact h.elim

def laws_toIntS_r0 (v : List PV) (K : List PV → Prop) (x0k : PV → PV → PV → PV → Prop) : Prop :=
 un 4 (fun v0 v1 v2 v3 =>
  lenP v0 fun r0 =>
  binP .lss v1 r0 fun r1 =>
  iteP r1
   (elemP 1 v0 v1 fun c2 =>
   boundP 1 v3 v1 fun n3 =>
   (flatCond [.pv (I 0)] [.pv (atP c2 0)]) ∧ setP v3 n3 0 [(atP c2 0)] fun r4 =>
   binP .add v1 (I 1) fun r5 =>
   K [v0, r5, v2, r4])
   (x0k v0 v1 v2 v3)) v
def laws_toIntS : GM
 | [.one a0], k => 
  lenP a0 fun r0 =>
  (r0 = r0) ∧ (1 = 1) ∧ makeP 1 r0 [(I 0)] fun r1 =>
  lp (fun L w => laws_toIntS_r0 w L
   (fun q6 q7 q8 q9 => rt [.own true 3 1] [q9] k)) [a0, (I 0), (.list 1 []), r1]
 | _, _ => False
abbrev laws_toIntS_e : Ent := ⟨[126], laws_toIntS⟩
def laws_toIntS_l : List LE := [⟨0, ⟨[(0, .one (.pv (.bool false))), (2, .one (.own 1)), (3, .one (.own 0)), (4, .one (.pv (.bool false)))], [], [(1, ⟨.deep, 3, 1, (.bool false)⟩), (0, ⟨.deep, 3, 1, (.bool false)⟩)], 2, 22⟩, fun K k v => laws_toIntS_r0 v K (fun x0 x1 x2 x3 => k (.exit 0) ⟨[(0, .one (.pv x0)), (2, .one (.own 1)), (3, .one (.own 0)), (4, .one (.pv x1))], [], [(1, ⟨.deep, 3, 1, x2⟩), (0, ⟨.deep, 3, 1, x3⟩)], 2, 22⟩)⟩]
theorem laws_toIntS_s : LEsOK (orac []) TT (kk [0, 2, 3, 4]) (sumsOf laws_toIntS_l) Tryz.f126 laws_toIntS_l := ⟨fun v K k h => by
  apply un_all h; exact fun v0 v1 v2 v3 h => Eq.mpr (by kernel_rfl) h
  , trivial⟩
theorem laws_toIntS_w : EntOK Tryz.prog TT laws_toIntS_e := ent_ok tabok (L := []) trivial (keep := (kk [0, 2, 3, 4])) (l := laws_toIntS_l) Tryz.func126 (by kernel_rfl) (sg := [.one (.own true 3 1)]) (by kernel_rfl) laws_toIntS_s fun av k h => by
  unfold laws_toIntS at h; split at h
  · exact Eq.mpr (by kernel_rfl) h
  · exact h.elim

def laws_toActor : GM
 | [.agg u0], k => un 1 (fun a0 => 
  call laws_toIntS [.one a0] fun o0 =>
  rt [.own true 3 1] [(atP o0 0)] k) u0
 | _, _ => False
abbrev laws_toActor_e : Ent := ⟨[83], laws_toActor⟩
theorem laws_toActor_w : EntOK Tryz.prog TT laws_toActor_e := ent_ok tabok (L := [laws_toIntS_e]) ⟨laws_toIntS_w, trivial⟩ (keep := []) (l := []) Tryz.func83 (by kernel_rfl) (sg := [.agg [.own true 3 1]]) (by kernel_rfl) trivial fun av k h => by
  unfold laws_toActor at h; split at h
  · apply un_all h; clear h; intro a0 h; exact Eq.mpr (by kernel_rfl) h
  · exact h.elim

def laws_toActorS_r0 (v : List PV) (K : List PV → Prop) (x0k : PV → PV → PV → PV → Prop) : Prop :=
 un 4 (fun v0 v1 v2 v3 =>
  lenP v0 fun r0 =>
  binP .lss v1 r0 fun r1 =>
  iteP r1
   (elemP 1 v0 v1 fun c2 =>
   call laws_toActor [.agg [(atP c2 0)]] fun o3 =>
   boundP 1 v3 v1 fun n4 =>
   (flatCond [.nil 3 1] [.own 2]) ∧ setP v3 n4 0 [(atP o3 0)] fun r5 =>
   binP .add v1 (I 1) fun r6 =>
   K [v0, r6, v2, r5])
   (x0k v0 v1 v2 v3)) v
def laws_toActorS : GM
 | [.one a0], k => 
  lenP a0 fun r0 =>
  (r0 = r0) ∧ (1 = 1) ∧ makeP 1 r0 [(.list 1 [])] fun r1 =>
  lp (fun L w => laws_toActorS_r0 w L
   (fun q7 q8 q9 q10 => rt [.own true 150 1] [q10] k)) [a0, (I 0), (.list 1 []), r1]
 | _, _ => False
abbrev laws_toActorS_e : Ent := ⟨[37], laws_toActorS⟩
def laws_toActorS_l : List LE := [⟨0, ⟨[(0, .one (.pv (.bool false))), (2, .one (.own 1)), (3, .one (.own 0)), (4, .one (.pv (.bool false)))], [], [(1, ⟨.deep, 150, 1, (.bool false)⟩), (0, ⟨.deep, 150, 1, (.bool false)⟩)], 2, 23⟩, fun K k v => laws_toActorS_r0 v K (fun x0 x1 x2 x3 => k (.exit 0) ⟨[(0, .one (.pv x0)), (2, .one (.own 1)), (3, .one (.own 0)), (4, .one (.pv x1))], [], [(1, ⟨.deep, 150, 1, x2⟩), (0, ⟨.deep, 150, 1, x3⟩)], 2, 23⟩)⟩]
theorem laws_toActorS_s : LEsOK (orac [laws_toActor_e]) TT (kk [0, 2, 3, 4]) (sumsOf laws_toActorS_l) Tryz.f37 laws_toActorS_l := ⟨fun v K k h => by
  apply un_all h; exact fun v0 v1 v2 v3 h => Eq.mpr (by kernel_rfl) h
  , trivial⟩
theorem laws_toActorS_w : EntOK Tryz.prog TT laws_toActorS_e := ent_ok tabok (L := [laws_toActor_e]) ⟨laws_toActor_w, trivial⟩ (keep := (kk [0, 2, 3, 4])) (l := laws_toActorS_l) Tryz.func37 (by kernel_rfl) (sg := [.one (.own true 150 1)]) (by kernel_rfl) laws_toActorS_s fun av k h => by
  unfold laws_toActorS at h; split at h
  · exact Eq.mpr (by kernel_rfl) h
  · exact h.elim

def laws_toKeys : GM
 | [.agg u0], k => un 2 (fun a0 a1 => 
  call laws_toIntS [.one a0] fun o0 =>
  rt [.own true 3 1, .sc] [(atP o0 0), a1] k) u0
 | _, _ => False
abbrev laws_toKeys_e : Ent := ⟨[217], laws_toKeys⟩
theorem laws_toKeys_w : EntOK Tryz.prog TT laws_toKeys_e := ent_ok tabok (L := [laws_toIntS_e]) ⟨laws_toIntS_w, trivial⟩ (keep := []) (l := []) Tryz.func217 (by kernel_rfl) (sg := [.agg [.own true 3 1, .sc]]) (by kernel_rfl) trivial fun av k h => by
  unfold laws_toKeys at h; split at h
  · apply un_all h; clear h; intro a0 a1 h; exact Eq.mpr (by kernel_rfl) h
  · exact h.elim

def laws_toHead : GM
 | [.agg u0], k => un 16 (fun a0 a1 a2 a3 a4 a5 a6 a7 a8 a9 a10 a11 a12 a13 a14 a15 => 
  call laws_toKeys [.agg [a8, a9]] fun o0 =>
  call laws_toKeys [.agg [a10, a11]] fun o1 =>
  call laws_toKeys [.agg [a13, a14]] fun o2 =>
  rt [.sc, .sc, .sc, .sc, .sc, .sc, .sc, .sc, .own true 3 1, .sc, .own true 3 1, .sc, .sc, .own true 3 1, .sc, .sc] [a0, a1, a2, a3, a4, a5, a6, a7, (atP o0 0), (atP o0 1), (atP o1 0), (atP o1 1), a12, (atP o2 0), (atP o2 1), a15] k) u0
 | _, _ => False
abbrev laws_toHead_e : Ent := ⟨[194], laws_toHead⟩
theorem laws_toHead_w : EntOK Tryz.prog TT laws_toHead_e := ent_ok tabok (L := [laws_toKeys_e]) ⟨laws_toKeys_w, trivial⟩ (keep := []) (l := []) Tryz.func194 (by kernel_rfl) (sg := [.agg [.sc, .sc, .sc, .sc, .sc, .sc, .sc, .sc, .own true 3 1, .sc, .own true 3 1, .sc, .sc, .own true 3 1, .sc, .sc]]) (by kernel_rfl) trivial fun av k h => by
  unfold laws_toHead at h; split at h
  · apply un_all h; clear h; intro a0 a1 a2 a3 a4 a5 a6 a7 a8 a9 a10 a11 a12 a13 a14 a15 h; exact Eq.mpr (by kernel_rfl) h
  · exact h.elim

def laws_toSig : GM
 | [.agg u0], k => un 2 (fun a0 a1 => 
  rt [.sc, .sc] [a0, a1] k) u0
 | _, _ => False
abbrev laws_toSig_e : Ent := ⟨[218], laws_toSig⟩
theorem laws_toSig_w : EntOK Tryz.prog TT laws_toSig_e := ent_ok tabok (L := []) trivial (keep := []) (l := []) Tryz.func218 (by kernel_rfl) (sg := [.agg [.sc, .sc]]) (by kernel_rfl) trivial fun av k h => by
  unfold laws_toSig at h; split at h
  · apply un_all h; clear h; intro a0 a1 h; exact Eq.mpr (by kernel_rfl) h
  · exact h.elim

def laws_toSigS_r0 (v : List PV) (K : List PV → Prop) (x0k : PV → PV → PV → PV → Prop) : Prop :=
 un 4 (fun v0 v1 v2 v3 =>
  lenP v0 fun r0 =>
  binP .lss v1 r0 fun r1 =>
  iteP r1
   (elemP 2 v0 v1 fun c2 =>
   call laws_toSig [.agg [(atP c2 0), (atP c2 1)]] fun o3 =>
   boundP 2 v3 v1 fun n4 =>
   (flatCond [.pv (I 0), .pv (I 0)] [.pv (atP o3 0), .pv (atP o3 1)]) ∧ setP v3 n4 0 [(atP o3 0), (atP o3 1)] fun r5 =>
   binP .add v1 (I 1) fun r6 =>
   K [v0, r6, v2, r5])
   (x0k v0 v1 v2 v3)) v
def laws_toSigS : GM
 | [.one a0], k => 
  lenP a0 fun r0 =>
  (r0 = r0) ∧ (2 = 2) ∧ makeP 2 r0 [(I 0), (I 0)] fun r1 =>
  lp (fun L w => laws_toSigS_r0 w L
   (fun q7 q8 q9 q10 => rt [.own true 222 2] [q10] k)) [a0, (I 0), (.list 2 []), r1]
 | _, _ => False
abbrev laws_toSigS_e : Ent := ⟨[195], laws_toSigS⟩
def laws_toSigS_l : List LE := [⟨0, ⟨[(0, .one (.pv (.bool false))), (2, .one (.own 1)), (3, .one (.own 0)), (4, .one (.pv (.bool false)))], [], [(1, ⟨.deep, 222, 2, (.bool false)⟩), (0, ⟨.deep, 222, 2, (.bool false)⟩)], 2, 23⟩, fun K k v => laws_toSigS_r0 v K (fun x0 x1 x2 x3 => k (.exit 0) ⟨[(0, .one (.pv x0)), (2, .one (.own 1)), (3, .one (.own 0)), (4, .one (.pv x1))], [], [(1, ⟨.deep, 222, 2, x2⟩), (0, ⟨.deep, 222, 2, x3⟩)], 2, 23⟩)⟩]
theorem laws_toSigS_s : LEsOK (orac [laws_toSig_e]) TT (kk [0, 2, 3, 4]) (sumsOf laws_toSigS_l) Tryz.f195 laws_toSigS_l := ⟨fun v K k h => by
  apply un_all h; exact fun v0 v1 v2 v3 h => Eq.mpr (by kernel_rfl) h
  , trivial⟩
theorem laws_toSigS_w : EntOK Tryz.prog TT laws_toSigS_e := ent_ok tabok (L := [laws_toSig_e]) ⟨laws_toSig_w, trivial⟩ (keep := (kk [0, 2, 3, 4])) (l := laws_toSigS_l) Tryz.func195 (by kernel_rfl) (sg := [.one (.own true 222 2)]) (by kernel_rfl) laws_toSigS_s fun av k h => by
  unfold laws_toSigS at h; split at h
  · exact Eq.mpr (by kernel_rfl) h
  · exact h.elim

def laws_toSigned : GM
 | [.agg u0], k => un 17 (fun a0 a1 a2 a3 a4 a5 a6 a7 a8 a9 a10 a11 a12 a13 a14 a15 a16 => 
  call laws_toHead [.agg [a0, a1, a2, a3, a4, a5, a6, a7, a8, a9, a10, a11, a12, a13, a14, a15]] fun o0 =>
  call laws_toSigS [.one a16] fun o1 =>
  rt [.sc, .sc, .sc, .sc, .sc, .sc, .sc, .sc, .own true 3 1, .sc, .own true 3 1, .sc, .sc, .own true 3 1, .sc, .sc, .own true 222 2] [(atP o0 0), (atP o0 1), (atP o0 2), (atP o0 3), (atP o0 4), (atP o0 5), (atP o0 6), (atP o0 7), (atP o0 8), (atP o0 9), (atP o0 10), (atP o0 11), (atP o0 12), (atP o0 13), (atP o0 14), (atP o0 15), (atP o1 0)] k) u0
 | _, _ => False
abbrev laws_toSigned_e : Ent := ⟨[163], laws_toSigned⟩
theorem laws_toSigned_w : EntOK Tryz.prog TT laws_toSigned_e := ent_ok tabok (L := [laws_toHead_e, laws_toSigS_e]) ⟨laws_toHead_w, laws_toSigS_w, trivial⟩ (keep := []) (l := []) Tryz.func163 (by kernel_rfl) (sg := [.agg [.sc, .sc, .sc, .sc, .sc, .sc, .sc, .sc, .own true 3 1, .sc, .own true 3 1, .sc, .sc, .own true 3 1, .sc, .sc, .own true 222 2]]) (by kernel_rfl) trivial fun av k h => by
  unfold laws_toSigned at h; split at h
  · apply un_all h; clear h; intro a0 a1 a2 a3 a4 a5 a6 a7 a8 a9 a10 a11 a12 a13 a14 a15 a16 h; exact Eq.mpr (by kernel_rfl) h
  · exact h.elim

def laws_toSignedS_r0 (v : List PV) (K : List PV → Prop) (x0k : PV → PV → PV → PV → Prop) : Prop :=
 un 4 (fun v0 v1 v2 v3 =>
  lenP v0 fun r0 =>
  binP .lss v1 r0 fun r1 =>
  iteP r1
   (elemP 17 v0 v1 fun c2 =>
   call laws_toSigned [.agg [(atP c2 0), (atP c2 1), (atP c2 2), (atP c2 3), (atP c2 4), (atP c2 5), (atP c2 6), (atP c2 7), (atP c2 8), (atP c2 9), (atP c2 10), (atP c2 11), (atP c2 12), (atP c2 13), (atP c2 14), (atP c2 15), (atP c2 16)]] fun o3 =>
   boundP 17 v3 v1 fun n4 =>
   (flatCond [.pv (I 0), .pv (I 0), .pv (I 0), .pv (I 0), .pv (I 0), .pv (I 0), .pv (I 0), .pv (I 0), .nil 3 1, .pv (I 0), .nil 3 1, .pv (I 0), .pv (I 0), .nil 3 1, .pv (I 0), .pv (.bool false), .nil 222 2] [.pv (atP o3 0), .pv (atP o3 1), .pv (atP o3 2), .pv (atP o3 3), .pv (atP o3 4), .pv (atP o3 5), .pv (atP o3 6), .pv (atP o3 7), .own 10, .pv (atP o3 9), .own 12, .pv (atP o3 11), .pv (atP o3 12), .own 15, .pv (atP o3 14), .pv (atP o3 15), .own 18]) ∧ setP v3 n4 0 [(atP o3 0), (atP o3 1), (atP o3 2), (atP o3 3), (atP o3 4), (atP o3 5), (atP o3 6), (atP o3 7), (atP o3 8), (atP o3 9), (atP o3 10), (atP o3 11), (atP o3 12), (atP o3 13), (atP o3 14), (atP o3 15), (atP o3 16)] fun r5 =>
   binP .add v1 (I 1) fun r6 =>
   K [v0, r6, v2, r5])
   (x0k v0 v1 v2 v3)) v
def laws_toSignedS : GM
 | [.one a0], k => 
  lenP a0 fun r0 =>
  (r0 = r0) ∧ (17 = 17) ∧ makeP 17 r0 [(I 0), (I 0), (I 0), (I 0), (I 0), (I 0), (I 0), (I 0), (.list 1 []), (I 0), (.list 1 []), (I 0), (I 0), (.list 1 []), (I 0), (.bool false), (.list 2 [])] fun r1 =>
  lp (fun L w => laws_toSignedS_r0 w L
   (fun q7 q8 q9 q10 => rt [.own true 148 17] [q10] k)) [a0, (I 0), (.list 17 []), r1]
 | _, _ => False
abbrev laws_toSignedS_e : Ent := ⟨[127], laws_toSignedS⟩
def laws_toSignedS_l : List LE := [⟨0, ⟨[(0, .one (.pv (.bool false))), (2, .one (.own 1)), (3, .one (.own 0)), (4, .one (.pv (.bool false)))], [], [(1, ⟨.deep, 148, 17, (.bool false)⟩), (0, ⟨.deep, 148, 17, (.bool false)⟩)], 2, 23⟩, fun K k v => laws_toSignedS_r0 v K (fun x0 x1 x2 x3 => k (.exit 0) ⟨[(0, .one (.pv x0)), (2, .one (.own 1)), (3, .one (.own 0)), (4, .one (.pv x1))], [], [(1, ⟨.deep, 148, 17, x2⟩), (0, ⟨.deep, 148, 17, x3⟩)], 2, 23⟩)⟩]
theorem laws_toSignedS_s : LEsOK (orac [laws_toSigned_e]) TT (kk [0, 2, 3, 4]) (sumsOf laws_toSignedS_l) Tryz.f127 laws_toSignedS_l := ⟨fun v K k h => by
  apply un_all h; exact fun v0 v1 v2 v3 h => Eq.mpr (by kernel_rfl) h
  , trivial⟩
theorem laws_toSignedS_w : EntOK Tryz.prog TT laws_toSignedS_e := ent_ok tabok (L := [laws_toSigned_e]) ⟨laws_toSigned_w, trivial⟩ (keep := (kk [0, 2, 3, 4])) (l := laws_toSignedS_l) Tryz.func127 (by kernel_rfl) (sg := [.one (.own true 148 17)]) (by kernel_rfl) laws_toSignedS_s fun av k h => by
  unfold laws_toSignedS at h; split at h
  · exact Eq.mpr (by kernel_rfl) h
  · exact h.elim

def laws_toStringS_r0 (v : List PV) (K : List PV → Prop) (x0k : PV → PV → PV → PV → Prop) : Prop :=
 un 4 (fun v0 v1 v2 v3 =>
  lenP v0 fun r0 =>
  binP .lss v1 r0 fun r1 =>
  iteP r1
   (elemP 1 v0 v1 fun c2 =>
   boundP 1 v3 v1 fun n3 =>
   (flatCond [.pv (.str ⟨#[]⟩)] [.pv (atP c2 0)]) ∧ setP v3 n3 0 [(atP c2 0)] fun r4 =>
   binP .add v1 (I 1) fun r5 =>
   K [v0, r5, v2, r4])
   (x0k v0 v1 v2 v3)) v
def laws_toStringS : GM
 | [.one a0], k => 
  lenP a0 fun r0 =>
  (r0 = r0) ∧ (1 = 1) ∧ makeP 1 r0 [(.str ⟨#[]⟩)] fun r1 =>
  lp (fun L w => laws_toStringS_r0 w L
   (fun q6 q7 q8 q9 => rt [.own true 9 1] [q9] k)) [a0, (I 0), (.list 1 []), r1]
 | _, _ => False
abbrev laws_toStringS_e : Ent := ⟨[196], laws_toStringS⟩
def laws_toStringS_l : List LE := [⟨0, ⟨[(0, .one (.pv (.bool false))), (2, .one (.own 1)), (3, .one (.own 0)), (4, .one (.pv (.bool false)))], [], [(1, ⟨.deep, 9, 1, (.bool false)⟩), (0, ⟨.deep, 9, 1, (.bool false)⟩)], 2, 22⟩, fun K k v => laws_toStringS_r0 v K (fun x0 x1 x2 x3 => k (.exit 0) ⟨[(0, .one (.pv x0)), (2, .one (.own 1)), (3, .one (.own 0)), (4, .one (.pv x1))], [], [(1, ⟨.deep, 9, 1, x2⟩), (0, ⟨.deep, 9, 1, x3⟩)], 2, 22⟩)⟩]
theorem laws_toStringS_s : LEsOK (orac []) TT (kk [0, 2, 3, 4]) (sumsOf laws_toStringS_l) Tryz.f196 laws_toStringS_l := ⟨fun v K k h => by
  apply un_all h; exact fun v0 v1 v2 v3 h => Eq.mpr (by kernel_rfl) h
  , trivial⟩
theorem laws_toStringS_w : EntOK Tryz.prog TT laws_toStringS_e := ent_ok tabok (L := []) trivial (keep := (kk [0, 2, 3, 4])) (l := laws_toStringS_l) Tryz.func196 (by kernel_rfl) (sg := [.one (.own true 9 1)]) (by kernel_rfl) laws_toStringS_s fun av k h => by
  unfold laws_toStringS at h; split at h
  · exact Eq.mpr (by kernel_rfl) h
  · exact h.elim

def laws_toEntry : GM
 | [.agg u0], k => un 4 (fun a0 a1 a2 a3 => 
  call laws_toStringS [.one a3] fun o0 =>
  rt [.sc, .sc, .sc, .own true 9 1] [a0, a1, a2, (atP o0 0)] k) u0
 | _, _ => False
abbrev laws_toEntry_e : Ent := ⟨[164], laws_toEntry⟩
theorem laws_toEntry_w : EntOK Tryz.prog TT laws_toEntry_e := ent_ok tabok (L := [laws_toStringS_e]) ⟨laws_toStringS_w, trivial⟩ (keep := []) (l := []) Tryz.func164 (by kernel_rfl) (sg := [.agg [.sc, .sc, .sc, .own true 9 1]]) (by kernel_rfl) trivial fun av k h => by
  unfold laws_toEntry at h; split at h
  · apply un_all h; clear h; intro a0 a1 a2 a3 h; exact Eq.mpr (by kernel_rfl) h
  · exact h.elim

def laws_toEntryS_r0 (v : List PV) (K : List PV → Prop) (x0k : PV → PV → PV → PV → Prop) : Prop :=
 un 4 (fun v0 v1 v2 v3 =>
  lenP v0 fun r0 =>
  binP .lss v1 r0 fun r1 =>
  iteP r1
   (elemP 4 v0 v1 fun c2 =>
   call laws_toEntry [.agg [(atP c2 0), (atP c2 1), (atP c2 2), (atP c2 3)]] fun o3 =>
   boundP 4 v3 v1 fun n4 =>
   (flatCond [.pv (.str ⟨#[]⟩), .pv (I 0), .pv (I 0), .nil 9 1] [.pv (atP o3 0), .pv (atP o3 1), .pv (atP o3 2), .own 5]) ∧ setP v3 n4 0 [(atP o3 0), (atP o3 1), (atP o3 2), (atP o3 3)] fun r5 =>
   binP .add v1 (I 1) fun r6 =>
   K [v0, r6, v2, r5])
   (x0k v0 v1 v2 v3)) v
def laws_toEntryS : GM
 | [.one a0], k => 
  lenP a0 fun r0 =>
  (r0 = r0) ∧ (4 = 4) ∧ makeP 4 r0 [(.str ⟨#[]⟩), (I 0), (I 0), (.list 1 [])] fun r1 =>
  lp (fun L w => laws_toEntryS_r0 w L
   (fun q7 q8 q9 q10 => rt [.own true 117 4] [q10] k)) [a0, (I 0), (.list 4 []), r1]
 | _, _ => False
abbrev laws_toEntryS_e : Ent := ⟨[128], laws_toEntryS⟩
def laws_toEntryS_l : List LE := [⟨0, ⟨[(0, .one (.pv (.bool false))), (2, .one (.own 1)), (3, .one (.own 0)), (4, .one (.pv (.bool false)))], [], [(1, ⟨.deep, 117, 4, (.bool false)⟩), (0, ⟨.deep, 117, 4, (.bool false)⟩)], 2, 23⟩, fun K k v => laws_toEntryS_r0 v K (fun x0 x1 x2 x3 => k (.exit 0) ⟨[(0, .one (.pv x0)), (2, .one (.own 1)), (3, .one (.own 0)), (4, .one (.pv x1))], [], [(1, ⟨.deep, 117, 4, x2⟩), (0, ⟨.deep, 117, 4, x3⟩)], 2, 23⟩)⟩]
theorem laws_toEntryS_s : LEsOK (orac [laws_toEntry_e]) TT (kk [0, 2, 3, 4]) (sumsOf laws_toEntryS_l) Tryz.f128 laws_toEntryS_l := ⟨fun v K k h => by
  apply un_all h; exact fun v0 v1 v2 v3 h => Eq.mpr (by kernel_rfl) h
  , trivial⟩
theorem laws_toEntryS_w : EntOK Tryz.prog TT laws_toEntryS_e := ent_ok tabok (L := [laws_toEntry_e]) ⟨laws_toEntry_w, trivial⟩ (keep := (kk [0, 2, 3, 4])) (l := laws_toEntryS_l) Tryz.func128 (by kernel_rfl) (sg := [.one (.own true 117 4)]) (by kernel_rfl) laws_toEntryS_s fun av k h => by
  unfold laws_toEntryS at h; split at h
  · exact Eq.mpr (by kernel_rfl) h
  · exact h.elim

def laws_toZone : GM
 | [.agg u0], k => un 2 (fun a0 a1 => 
  call laws_toSignedS [.one a0] fun o0 =>
  call laws_toEntryS [.one a1] fun o1 =>
  rt [.own true 148 17, .own true 117 4] [(atP o0 0), (atP o1 0)] k) u0
 | _, _ => False
abbrev laws_toZone_e : Ent := ⟨[84], laws_toZone⟩
theorem laws_toZone_w : EntOK Tryz.prog TT laws_toZone_e := ent_ok tabok (L := [laws_toSignedS_e, laws_toEntryS_e]) ⟨laws_toSignedS_w, laws_toEntryS_w, trivial⟩ (keep := []) (l := []) Tryz.func84 (by kernel_rfl) (sg := [.agg [.own true 148 17, .own true 117 4]]) (by kernel_rfl) trivial fun av k h => by
  unfold laws_toZone at h; split at h
  · apply un_all h; clear h; intro a0 a1 h; exact Eq.mpr (by kernel_rfl) h
  · exact h.elim

def laws_toZoneS_r0 (v : List PV) (K : List PV → Prop) (x0k : PV → PV → PV → PV → Prop) : Prop :=
 un 4 (fun v0 v1 v2 v3 =>
  lenP v0 fun r0 =>
  binP .lss v1 r0 fun r1 =>
  iteP r1
   (elemP 2 v0 v1 fun c2 =>
   call laws_toZone [.agg [(atP c2 0), (atP c2 1)]] fun o3 =>
   boundP 2 v3 v1 fun n4 =>
   (flatCond [.nil 148 17, .nil 117 4] [.own 2, .own 3]) ∧ setP v3 n4 0 [(atP o3 0), (atP o3 1)] fun r5 =>
   binP .add v1 (I 1) fun r6 =>
   K [v0, r6, v2, r5])
   (x0k v0 v1 v2 v3)) v
def laws_toZoneS : GM
 | [.one a0], k => 
  lenP a0 fun r0 =>
  (r0 = r0) ∧ (2 = 2) ∧ makeP 2 r0 [(.list 17 []), (.list 4 [])] fun r1 =>
  lp (fun L w => laws_toZoneS_r0 w L
   (fun q7 q8 q9 q10 => rt [.own true 60 2] [q10] k)) [a0, (I 0), (.list 2 []), r1]
 | _, _ => False
abbrev laws_toZoneS_e : Ent := ⟨[38], laws_toZoneS⟩
def laws_toZoneS_l : List LE := [⟨0, ⟨[(0, .one (.pv (.bool false))), (2, .one (.own 1)), (3, .one (.own 0)), (4, .one (.pv (.bool false)))], [], [(1, ⟨.deep, 60, 2, (.bool false)⟩), (0, ⟨.deep, 60, 2, (.bool false)⟩)], 2, 23⟩, fun K k v => laws_toZoneS_r0 v K (fun x0 x1 x2 x3 => k (.exit 0) ⟨[(0, .one (.pv x0)), (2, .one (.own 1)), (3, .one (.own 0)), (4, .one (.pv x1))], [], [(1, ⟨.deep, 60, 2, x2⟩), (0, ⟨.deep, 60, 2, x3⟩)], 2, 23⟩)⟩]
theorem laws_toZoneS_s : LEsOK (orac [laws_toZone_e]) TT (kk [0, 2, 3, 4]) (sumsOf laws_toZoneS_l) Tryz.f38 laws_toZoneS_l := ⟨fun v K k h => by
  apply un_all h; exact fun v0 v1 v2 v3 h => Eq.mpr (by kernel_rfl) h
  , trivial⟩
theorem laws_toZoneS_w : EntOK Tryz.prog TT laws_toZoneS_e := ent_ok tabok (L := [laws_toZone_e]) ⟨laws_toZone_w, trivial⟩ (keep := (kk [0, 2, 3, 4])) (l := laws_toZoneS_l) Tryz.func38 (by kernel_rfl) (sg := [.one (.own true 60 2)]) (by kernel_rfl) laws_toZoneS_s fun av k h => by
  unfold laws_toZoneS at h; split at h
  · exact Eq.mpr (by kernel_rfl) h
  · exact h.elim

def laws_toSaid : GM
 | [.agg u0], k => un 3 (fun a0 a1 a2 => 
  call laws_toZone [.agg [a0, a1]] fun o0 =>
  call laws_toIntS [.one a2] fun o1 =>
  rt [.own true 148 17, .own true 117 4, .own true 3 1] [(atP o0 0), (atP o0 1), (atP o1 0)] k) u0
 | _, _ => False
abbrev laws_toSaid_e : Ent := ⟨[85], laws_toSaid⟩
theorem laws_toSaid_w : EntOK Tryz.prog TT laws_toSaid_e := ent_ok tabok (L := [laws_toZone_e, laws_toIntS_e]) ⟨laws_toZone_w, laws_toIntS_w, trivial⟩ (keep := []) (l := []) Tryz.func85 (by kernel_rfl) (sg := [.agg [.own true 148 17, .own true 117 4, .own true 3 1]]) (by kernel_rfl) trivial fun av k h => by
  unfold laws_toSaid at h; split at h
  · apply un_all h; clear h; intro a0 a1 a2 h; exact Eq.mpr (by kernel_rfl) h
  · exact h.elim

def laws_toSaidS_r0 (v : List PV) (K : List PV → Prop) (x0k : PV → PV → PV → PV → Prop) : Prop :=
 un 4 (fun v0 v1 v2 v3 =>
  lenP v0 fun r0 =>
  binP .lss v1 r0 fun r1 =>
  iteP r1
   (elemP 3 v0 v1 fun c2 =>
   call laws_toSaid [.agg [(atP c2 0), (atP c2 1), (atP c2 2)]] fun o3 =>
   boundP 3 v3 v1 fun n4 =>
   (flatCond [.nil 148 17, .nil 117 4, .nil 3 1] [.own 2, .own 3, .own 4]) ∧ setP v3 n4 0 [(atP o3 0), (atP o3 1), (atP o3 2)] fun r5 =>
   binP .add v1 (I 1) fun r6 =>
   K [v0, r6, v2, r5])
   (x0k v0 v1 v2 v3)) v
def laws_toSaidS : GM
 | [.one a0], k => 
  lenP a0 fun r0 =>
  (r0 = r0) ∧ (3 = 3) ∧ makeP 3 r0 [(.list 17 []), (.list 4 []), (.list 1 [])] fun r1 =>
  lp (fun L w => laws_toSaidS_r0 w L
   (fun q7 q8 q9 q10 => rt [.own true 154 3] [q10] k)) [a0, (I 0), (.list 3 []), r1]
 | _, _ => False
abbrev laws_toSaidS_e : Ent := ⟨[39], laws_toSaidS⟩
def laws_toSaidS_l : List LE := [⟨0, ⟨[(0, .one (.pv (.bool false))), (2, .one (.own 1)), (3, .one (.own 0)), (4, .one (.pv (.bool false)))], [], [(1, ⟨.deep, 154, 3, (.bool false)⟩), (0, ⟨.deep, 154, 3, (.bool false)⟩)], 2, 23⟩, fun K k v => laws_toSaidS_r0 v K (fun x0 x1 x2 x3 => k (.exit 0) ⟨[(0, .one (.pv x0)), (2, .one (.own 1)), (3, .one (.own 0)), (4, .one (.pv x1))], [], [(1, ⟨.deep, 154, 3, x2⟩), (0, ⟨.deep, 154, 3, x3⟩)], 2, 23⟩)⟩]
theorem laws_toSaidS_s : LEsOK (orac [laws_toSaid_e]) TT (kk [0, 2, 3, 4]) (sumsOf laws_toSaidS_l) Tryz.f39 laws_toSaidS_l := ⟨fun v K k h => by
  apply un_all h; exact fun v0 v1 v2 v3 h => Eq.mpr (by kernel_rfl) h
  , trivial⟩
theorem laws_toSaidS_w : EntOK Tryz.prog TT laws_toSaidS_e := ent_ok tabok (L := [laws_toSaid_e]) ⟨laws_toSaid_w, trivial⟩ (keep := (kk [0, 2, 3, 4])) (l := laws_toSaidS_l) Tryz.func39 (by kernel_rfl) (sg := [.one (.own true 154 3)]) (by kernel_rfl) laws_toSaidS_s fun av k h => by
  unfold laws_toSaidS at h; split at h
  · exact Eq.mpr (by kernel_rfl) h
  · exact h.elim

def laws_toServer : GM
 | [.agg u0], k => un 2 (fun a0 a1 => 
  call laws_toZoneS [.one a0] fun o0 =>
  rt [.own true 60 2, .sc] [(atP o0 0), a1] k) u0
 | _, _ => False
abbrev laws_toServer_e : Ent := ⟨[22], laws_toServer⟩
theorem laws_toServer_w : EntOK Tryz.prog TT laws_toServer_e := ent_ok tabok (L := [laws_toZoneS_e]) ⟨laws_toZoneS_w, trivial⟩ (keep := []) (l := []) Tryz.func22 (by kernel_rfl) (sg := [.agg [.own true 60 2, .sc]]) (by kernel_rfl) trivial fun av k h => by
  unfold laws_toServer at h; split at h
  · apply un_all h; clear h; intro a0 a1 h; exact Eq.mpr (by kernel_rfl) h
  · exact h.elim

def laws_toServerS_r0 (v : List PV) (K : List PV → Prop) (x0k : PV → PV → PV → PV → Prop) : Prop :=
 un 4 (fun v0 v1 v2 v3 =>
  lenP v0 fun r0 =>
  binP .lss v1 r0 fun r1 =>
  iteP r1
   (elemP 2 v0 v1 fun c2 =>
   call laws_toServer [.agg [(atP c2 0), (atP c2 1)]] fun o3 =>
   boundP 2 v3 v1 fun n4 =>
   (flatCond [.nil 60 2, .pv (I 0)] [.own 2, .pv (atP o3 1)]) ∧ setP v3 n4 0 [(atP o3 0), (atP o3 1)] fun r5 =>
   binP .add v1 (I 1) fun r6 =>
   K [v0, r6, v2, r5])
   (x0k v0 v1 v2 v3)) v
def laws_toServerS : GM
 | [.one a0], k => 
  lenP a0 fun r0 =>
  (r0 = r0) ∧ (2 = 2) ∧ makeP 2 r0 [(.list 2 []), (I 0)] fun r1 =>
  lp (fun L w => laws_toServerS_r0 w L
   (fun q7 q8 q9 q10 => rt [.own true 73 2] [q10] k)) [a0, (I 0), (.list 2 []), r1]
 | _, _ => False
abbrev laws_toServerS_e : Ent := ⟨[40], laws_toServerS⟩
def laws_toServerS_l : List LE := [⟨0, ⟨[(0, .one (.pv (.bool false))), (2, .one (.own 1)), (3, .one (.own 0)), (4, .one (.pv (.bool false)))], [], [(1, ⟨.deep, 73, 2, (.bool false)⟩), (0, ⟨.deep, 73, 2, (.bool false)⟩)], 2, 23⟩, fun K k v => laws_toServerS_r0 v K (fun x0 x1 x2 x3 => k (.exit 0) ⟨[(0, .one (.pv x0)), (2, .one (.own 1)), (3, .one (.own 0)), (4, .one (.pv x1))], [], [(1, ⟨.deep, 73, 2, x2⟩), (0, ⟨.deep, 73, 2, x3⟩)], 2, 23⟩)⟩]
theorem laws_toServerS_s : LEsOK (orac [laws_toServer_e]) TT (kk [0, 2, 3, 4]) (sumsOf laws_toServerS_l) Tryz.f40 laws_toServerS_l := ⟨fun v K k h => by
  apply un_all h; exact fun v0 v1 v2 v3 h => Eq.mpr (by kernel_rfl) h
  , trivial⟩
theorem laws_toServerS_w : EntOK Tryz.prog TT laws_toServerS_e := ent_ok tabok (L := [laws_toServer_e]) ⟨laws_toServer_w, trivial⟩ (keep := (kk [0, 2, 3, 4])) (l := laws_toServerS_l) Tryz.func40 (by kernel_rfl) (sg := [.one (.own true 73 2)]) (by kernel_rfl) laws_toServerS_s fun av k h => by
  unfold laws_toServerS at h; split at h
  · exact Eq.mpr (by kernel_rfl) h
  · exact h.elim

def laws_toSignedSS_r0 (v : List PV) (K : List PV → Prop) (x0k : PV → PV → PV → PV → Prop) : Prop :=
 un 4 (fun v0 v1 v2 v3 =>
  lenP v0 fun r0 =>
  binP .lss v1 r0 fun r1 =>
  iteP r1
   (elemP 1 v0 v1 fun c2 =>
   call laws_toSignedS [.one (atP c2 0)] fun o3 =>
   boundP 1 v3 v1 fun n4 =>
   (flatCond [.nil 148 17] [.own 2]) ∧ setP v3 n4 0 [(atP o3 0)] fun r5 =>
   binP .add v1 (I 1) fun r6 =>
   K [v0, r6, v2, r5])
   (x0k v0 v1 v2 v3)) v
def laws_toSignedSS : GM
 | [.one a0], k => 
  lenP a0 fun r0 =>
  (r0 = r0) ∧ (1 = 1) ∧ makeP 1 r0 [(.list 17 [])] fun r1 =>
  lp (fun L w => laws_toSignedSS_r0 w L
   (fun q7 q8 q9 q10 => rt [.own true 57 1] [q10] k)) [a0, (I 0), (.list 1 []), r1]
 | _, _ => False
abbrev laws_toSignedSS_e : Ent := ⟨[86], laws_toSignedSS⟩
def laws_toSignedSS_l : List LE := [⟨0, ⟨[(0, .one (.pv (.bool false))), (2, .one (.own 1)), (3, .one (.own 0)), (4, .one (.pv (.bool false)))], [], [(1, ⟨.deep, 57, 1, (.bool false)⟩), (0, ⟨.deep, 57, 1, (.bool false)⟩)], 2, 23⟩, fun K k v => laws_toSignedSS_r0 v K (fun x0 x1 x2 x3 => k (.exit 0) ⟨[(0, .one (.pv x0)), (2, .one (.own 1)), (3, .one (.own 0)), (4, .one (.pv x1))], [], [(1, ⟨.deep, 57, 1, x2⟩), (0, ⟨.deep, 57, 1, x3⟩)], 2, 23⟩)⟩]
theorem laws_toSignedSS_s : LEsOK (orac [laws_toSignedS_e]) TT (kk [0, 2, 3, 4]) (sumsOf laws_toSignedSS_l) Tryz.f86 laws_toSignedSS_l := ⟨fun v K k h => by
  apply un_all h; exact fun v0 v1 v2 v3 h => Eq.mpr (by kernel_rfl) h
  , trivial⟩
theorem laws_toSignedSS_w : EntOK Tryz.prog TT laws_toSignedSS_e := ent_ok tabok (L := [laws_toSignedS_e]) ⟨laws_toSignedS_w, trivial⟩ (keep := (kk [0, 2, 3, 4])) (l := laws_toSignedSS_l) Tryz.func86 (by kernel_rfl) (sg := [.one (.own true 57 1)]) (by kernel_rfl) laws_toSignedSS_s fun av k h => by
  unfold laws_toSignedSS at h; split at h
  · exact Eq.mpr (by kernel_rfl) h
  · exact h.elim

def laws_toFork : GM
 | [.agg u0], k => un 51 (fun a0 a1 a2 a3 a4 a5 a6 a7 a8 a9 a10 a11 a12 a13 a14 a15 a16 a17 a18 a19 a20 a21 a22 a23 a24 a25 a26 a27 a28 a29 a30 a31 a32 a33 a34 a35 a36 a37 a38 a39 a40 a41 a42 a43 a44 a45 a46 a47 a48 a49 a50 => 
  call laws_toSigned [.agg [a0, a1, a2, a3, a4, a5, a6, a7, a8, a9, a10, a11, a12, a13, a14, a15, a16]] fun o0 =>
  call laws_toSigned [.agg [a17, a18, a19, a20, a21, a22, a23, a24, a25, a26, a27, a28, a29, a30, a31, a32, a33]] fun o1 =>
  call laws_toSigned [.agg [a34, a35, a36, a37, a38, a39, a40, a41, a42, a43, a44, a45, a46, a47, a48, a49, a50]] fun o2 =>
  rt [.sc, .sc, .sc, .sc, .sc, .sc, .sc, .sc, .own true 3 1, .sc, .own true 3 1, .sc, .sc, .own true 3 1, .sc, .sc, .own true 222 2, .sc, .sc, .sc, .sc, .sc, .sc, .sc, .sc, .own true 3 1, .sc, .own true 3 1, .sc, .sc, .own true 3 1, .sc, .sc, .own true 222 2, .sc, .sc, .sc, .sc, .sc, .sc, .sc, .sc, .own true 3 1, .sc, .own true 3 1, .sc, .sc, .own true 3 1, .sc, .sc, .own true 222 2] [(atP o0 0), (atP o0 1), (atP o0 2), (atP o0 3), (atP o0 4), (atP o0 5), (atP o0 6), (atP o0 7), (atP o0 8), (atP o0 9), (atP o0 10), (atP o0 11), (atP o0 12), (atP o0 13), (atP o0 14), (atP o0 15), (atP o0 16), (atP o1 0), (atP o1 1), (atP o1 2), (atP o1 3), (atP o1 4), (atP o1 5), (atP o1 6), (atP o1 7), (atP o1 8), (atP o1 9), (atP o1 10), (atP o1 11), (atP o1 12), (atP o1 13), (atP o1 14), (atP o1 15), (atP o1 16), (atP o2 0), (atP o2 1), (atP o2 2), (atP o2 3), (atP o2 4), (atP o2 5), (atP o2 6), (atP o2 7), (atP o2 8), (atP o2 9), (atP o2 10), (atP o2 11), (atP o2 12), (atP o2 13), (atP o2 14), (atP o2 15), (atP o2 16)] k) u0
 | _, _ => False
abbrev laws_toFork_e : Ent := ⟨[129], laws_toFork⟩
theorem laws_toFork_w : EntOK Tryz.prog TT laws_toFork_e := ent_ok tabok (L := [laws_toSigned_e]) ⟨laws_toSigned_w, trivial⟩ (keep := []) (l := []) Tryz.func129 (by kernel_rfl) (sg := [.agg [.sc, .sc, .sc, .sc, .sc, .sc, .sc, .sc, .own true 3 1, .sc, .own true 3 1, .sc, .sc, .own true 3 1, .sc, .sc, .own true 222 2, .sc, .sc, .sc, .sc, .sc, .sc, .sc, .sc, .own true 3 1, .sc, .own true 3 1, .sc, .sc, .own true 3 1, .sc, .sc, .own true 222 2, .sc, .sc, .sc, .sc, .sc, .sc, .sc, .sc, .own true 3 1, .sc, .own true 3 1, .sc, .sc, .own true 3 1, .sc, .sc, .own true 222 2]]) (by kernel_rfl) trivial fun av k h => by
  unfold laws_toFork at h; split at h
  · apply un_all h; clear h; intro a0 a1 a2 a3 a4 a5 a6 a7 a8 a9 a10 a11 a12 a13 a14 a15 a16 a17 a18 a19 a20 a21 a22 a23 a24 a25 a26 a27 a28 a29 a30 a31 a32 a33 a34 a35 a36 a37 a38 a39 a40 a41 a42 a43 a44 a45 a46 a47 a48 a49 a50 h; exact Eq.mpr (by kernel_rfl) h
  · exact h.elim

def laws_toForkS_r0 (v : List PV) (K : List PV → Prop) (x0k : PV → PV → PV → PV → Prop) : Prop :=
 un 4 (fun v0 v1 v2 v3 =>
  lenP v0 fun r0 =>
  binP .lss v1 r0 fun r1 =>
  iteP r1
   (elemP 51 v0 v1 fun c2 =>
   call laws_toFork [.agg [(atP c2 0), (atP c2 1), (atP c2 2), (atP c2 3), (atP c2 4), (atP c2 5), (atP c2 6), (atP c2 7), (atP c2 8), (atP c2 9), (atP c2 10), (atP c2 11), (atP c2 12), (atP c2 13), (atP c2 14), (atP c2 15), (atP c2 16), (atP c2 17), (atP c2 18), (atP c2 19), (atP c2 20), (atP c2 21), (atP c2 22), (atP c2 23), (atP c2 24), (atP c2 25), (atP c2 26), (atP c2 27), (atP c2 28), (atP c2 29), (atP c2 30), (atP c2 31), (atP c2 32), (atP c2 33), (atP c2 34), (atP c2 35), (atP c2 36), (atP c2 37), (atP c2 38), (atP c2 39), (atP c2 40), (atP c2 41), (atP c2 42), (atP c2 43), (atP c2 44), (atP c2 45), (atP c2 46), (atP c2 47), (atP c2 48), (atP c2 49), (atP c2 50)]] fun o3 =>
   boundP 51 v3 v1 fun n4 =>
   (flatCond [.pv (I 0), .pv (I 0), .pv (I 0), .pv (I 0), .pv (I 0), .pv (I 0), .pv (I 0), .pv (I 0), .nil 3 1, .pv (I 0), .nil 3 1, .pv (I 0), .pv (I 0), .nil 3 1, .pv (I 0), .pv (.bool false), .nil 222 2, .pv (I 0), .pv (I 0), .pv (I 0), .pv (I 0), .pv (I 0), .pv (I 0), .pv (I 0), .pv (I 0), .nil 3 1, .pv (I 0), .nil 3 1, .pv (I 0), .pv (I 0), .nil 3 1, .pv (I 0), .pv (.bool false), .nil 222 2, .pv (I 0), .pv (I 0), .pv (I 0), .pv (I 0), .pv (I 0), .pv (I 0), .pv (I 0), .pv (I 0), .nil 3 1, .pv (I 0), .nil 3 1, .pv (I 0), .pv (I 0), .nil 3 1, .pv (I 0), .pv (.bool false), .nil 222 2] [.pv (atP o3 0), .pv (atP o3 1), .pv (atP o3 2), .pv (atP o3 3), .pv (atP o3 4), .pv (atP o3 5), .pv (atP o3 6), .pv (atP o3 7), .own 10, .pv (atP o3 9), .own 12, .pv (atP o3 11), .pv (atP o3 12), .own 15, .pv (atP o3 14), .pv (atP o3 15), .own 18, .pv (atP o3 17), .pv (atP o3 18), .pv (atP o3 19), .pv (atP o3 20), .pv (atP o3 21), .pv (atP o3 22), .pv (atP o3 23), .pv (atP o3 24), .own 27, .pv (atP o3 26), .own 29, .pv (atP o3 28), .pv (atP o3 29), .own 32, .pv (atP o3 31), .pv (atP o3 32), .own 35, .pv (atP o3 34), .pv (atP o3 35), .pv (atP o3 36), .pv (atP o3 37), .pv (atP o3 38), .pv (atP o3 39), .pv (atP o3 40), .pv (atP o3 41), .own 44, .pv (atP o3 43), .own 46, .pv (atP o3 45), .pv (atP o3 46), .own 49, .pv (atP o3 48), .pv (atP o3 49), .own 52]) ∧ setP v3 n4 0 [(atP o3 0), (atP o3 1), (atP o3 2), (atP o3 3), (atP o3 4), (atP o3 5), (atP o3 6), (atP o3 7), (atP o3 8), (atP o3 9), (atP o3 10), (atP o3 11), (atP o3 12), (atP o3 13), (atP o3 14), (atP o3 15), (atP o3 16), (atP o3 17), (atP o3 18), (atP o3 19), (atP o3 20), (atP o3 21), (atP o3 22), (atP o3 23), (atP o3 24), (atP o3 25), (atP o3 26), (atP o3 27), (atP o3 28), (atP o3 29), (atP o3 30), (atP o3 31), (atP o3 32), (atP o3 33), (atP o3 34), (atP o3 35), (atP o3 36), (atP o3 37), (atP o3 38), (atP o3 39), (atP o3 40), (atP o3 41), (atP o3 42), (atP o3 43), (atP o3 44), (atP o3 45), (atP o3 46), (atP o3 47), (atP o3 48), (atP o3 49), (atP o3 50)] fun r5 =>
   binP .add v1 (I 1) fun r6 =>
   K [v0, r6, v2, r5])
   (x0k v0 v1 v2 v3)) v
def laws_toForkS : GM
 | [.one a0], k => 
  lenP a0 fun r0 =>
  (r0 = r0) ∧ (51 = 51) ∧ makeP 51 r0 [(I 0), (I 0), (I 0), (I 0), (I 0), (I 0), (I 0), (I 0), (.list 1 []), (I 0), (.list 1 []), (I 0), (I 0), (.list 1 []), (I 0), (.bool false), (.list 2 []), (I 0), (I 0), (I 0), (I 0), (I 0), (I 0), (I 0), (I 0), (.list 1 []), (I 0), (.list 1 []), (I 0), (I 0), (.list 1 []), (I 0), (.bool false), (.list 2 []), (I 0), (I 0), (I 0), (I 0), (I 0), (I 0), (I 0), (I 0), (.list 1 []), (I 0), (.list 1 []), (I 0), (I 0), (.list 1 []), (I 0), (.bool false), (.list 2 [])] fun r1 =>
  lp (fun L w => laws_toForkS_r0 w L
   (fun q7 q8 q9 q10 => rt [.own true 207 51] [q10] k)) [a0, (I 0), (.list 51 []), r1]
 | _, _ => False
abbrev laws_toForkS_e : Ent := ⟨[87], laws_toForkS⟩
def laws_toForkS_l : List LE := [⟨0, ⟨[(0, .one (.pv (.bool false))), (2, .one (.own 1)), (3, .one (.own 0)), (4, .one (.pv (.bool false)))], [], [(1, ⟨.deep, 207, 51, (.bool false)⟩), (0, ⟨.deep, 207, 51, (.bool false)⟩)], 2, 23⟩, fun K k v => laws_toForkS_r0 v K (fun x0 x1 x2 x3 => k (.exit 0) ⟨[(0, .one (.pv x0)), (2, .one (.own 1)), (3, .one (.own 0)), (4, .one (.pv x1))], [], [(1, ⟨.deep, 207, 51, x2⟩), (0, ⟨.deep, 207, 51, x3⟩)], 2, 23⟩)⟩]
theorem laws_toForkS_s : LEsOK (orac [laws_toFork_e]) TT (kk [0, 2, 3, 4]) (sumsOf laws_toForkS_l) Tryz.f87 laws_toForkS_l := ⟨fun v K k h => by
  apply un_all h; exact fun v0 v1 v2 v3 h => Eq.mpr (by kernel_rfl) h
  , trivial⟩
theorem laws_toForkS_w : EntOK Tryz.prog TT laws_toForkS_e := ent_ok tabok (L := [laws_toFork_e]) ⟨laws_toFork_w, trivial⟩ (keep := (kk [0, 2, 3, 4])) (l := laws_toForkS_l) Tryz.func87 (by kernel_rfl) (sg := [.one (.own true 207 51)]) (by kernel_rfl) laws_toForkS_s fun av k h => by
  unfold laws_toForkS at h; split at h
  · exact Eq.mpr (by kernel_rfl) h
  · exact h.elim

def laws_toKnown : GM
 | [.agg u0], k => un 2 (fun a0 a1 => 
  call laws_toSignedSS [.one a0] fun o0 =>
  call laws_toForkS [.one a1] fun o1 =>
  rt [.own true 57 1, .own true 207 51] [(atP o0 0), (atP o1 0)] k) u0
 | _, _ => False
abbrev laws_toKnown_e : Ent := ⟨[41], laws_toKnown⟩
theorem laws_toKnown_w : EntOK Tryz.prog TT laws_toKnown_e := ent_ok tabok (L := [laws_toSignedSS_e, laws_toForkS_e]) ⟨laws_toSignedSS_w, laws_toForkS_w, trivial⟩ (keep := []) (l := []) Tryz.func41 (by kernel_rfl) (sg := [.agg [.own true 57 1, .own true 207 51]]) (by kernel_rfl) trivial fun av k h => by
  unfold laws_toKnown at h; split at h
  · apply un_all h; clear h; intro a0 a1 h; exact Eq.mpr (by kernel_rfl) h
  · exact h.elim

def laws_toProof : GM
 | [.agg u0], k => un 2 (fun a0 a1 => 
  call laws_toIntS [.one a1] fun o0 =>
  rt [.sc, .own true 3 1] [a0, (atP o0 0)] k) u0
 | _, _ => False
abbrev laws_toProof_e : Ent := ⟨[197], laws_toProof⟩
theorem laws_toProof_w : EntOK Tryz.prog TT laws_toProof_e := ent_ok tabok (L := [laws_toIntS_e]) ⟨laws_toIntS_w, trivial⟩ (keep := []) (l := []) Tryz.func197 (by kernel_rfl) (sg := [.agg [.sc, .own true 3 1]]) (by kernel_rfl) trivial fun av k h => by
  unfold laws_toProof at h; split at h
  · apply un_all h; clear h; intro a0 a1 h; exact Eq.mpr (by kernel_rfl) h
  · exact h.elim

def laws_toGap : GM
 | [.agg u0], k => un 13 (fun a0 a1 a2 a3 a4 a5 a6 a7 a8 a9 a10 a11 a12 => 
  call laws_toEntry [.agg [a1, a2, a3, a4]] fun o0 =>
  call laws_toEntry [.agg [a5, a6, a7, a8]] fun o1 =>
  call laws_toProof [.agg [a9, a10]] fun o2 =>
  call laws_toProof [.agg [a11, a12]] fun o3 =>
  rt [.sc, .sc, .sc, .sc, .own true 9 1, .sc, .sc, .sc, .own true 9 1, .sc, .own true 3 1, .sc, .own true 3 1] [a0, (atP o0 0), (atP o0 1), (atP o0 2), (atP o0 3), (atP o1 0), (atP o1 1), (atP o1 2), (atP o1 3), (atP o2 0), (atP o2 1), (atP o3 0), (atP o3 1)] k) u0
 | _, _ => False
abbrev laws_toGap_e : Ent := ⟨[198], laws_toGap⟩
theorem laws_toGap_w : EntOK Tryz.prog TT laws_toGap_e := ent_ok tabok (L := [laws_toEntry_e, laws_toProof_e]) ⟨laws_toEntry_w, laws_toProof_w, trivial⟩ (keep := []) (l := []) Tryz.func198 (by kernel_rfl) (sg := [.agg [.sc, .sc, .sc, .sc, .own true 9 1, .sc, .sc, .sc, .own true 9 1, .sc, .own true 3 1, .sc, .own true 3 1]]) (by kernel_rfl) trivial fun av k h => by
  unfold laws_toGap at h; split at h
  · apply un_all h; clear h; intro a0 a1 a2 a3 a4 a5 a6 a7 a8 a9 a10 a11 a12 h; exact Eq.mpr (by kernel_rfl) h
  · exact h.elim

def laws_toAnswer : GM
 | [.agg u0], k => un 21 (fun a0 a1 a2 a3 a4 a5 a6 a7 a8 a9 a10 a11 a12 a13 a14 a15 a16 a17 a18 a19 a20 => 
  call laws_toSignedS [.one a0] fun o0 =>
  call laws_toEntry [.agg [a2, a3, a4, a5]] fun o1 =>
  call laws_toProof [.agg [a6, a7]] fun o2 =>
  call laws_toGap [.agg [a8, a9, a10, a11, a12, a13, a14, a15, a16, a17, a18, a19, a20]] fun o3 =>
  rt [.own true 148 17, .sc, .sc, .sc, .sc, .own true 9 1, .sc, .own true 3 1, .sc, .sc, .sc, .sc, .own true 9 1, .sc, .sc, .sc, .own true 9 1, .sc, .own true 3 1, .sc, .own true 3 1] [(atP o0 0), a1, (atP o1 0), (atP o1 1), (atP o1 2), (atP o1 3), (atP o2 0), (atP o2 1), (atP o3 0), (atP o3 1), (atP o3 2), (atP o3 3), (atP o3 4), (atP o3 5), (atP o3 6), (atP o3 7), (atP o3 8), (atP o3 9), (atP o3 10), (atP o3 11), (atP o3 12)] k) u0
 | _, _ => False
abbrev laws_toAnswer_e : Ent := ⟨[165], laws_toAnswer⟩
theorem laws_toAnswer_w : EntOK Tryz.prog TT laws_toAnswer_e := ent_ok tabok (L := [laws_toSignedS_e, laws_toEntry_e, laws_toProof_e, laws_toGap_e]) ⟨laws_toSignedS_w, laws_toEntry_w, laws_toProof_w, laws_toGap_w, trivial⟩ (keep := []) (l := []) Tryz.func165 (by kernel_rfl) (sg := [.agg [.own true 148 17, .sc, .sc, .sc, .sc, .own true 9 1, .sc, .own true 3 1, .sc, .sc, .sc, .sc, .own true 9 1, .sc, .sc, .sc, .own true 9 1, .sc, .own true 3 1, .sc, .own true 3 1]]) (by kernel_rfl) trivial fun av k h => by
  unfold laws_toAnswer at h; split at h
  · apply un_all h; clear h; intro a0 a1 a2 a3 a4 a5 a6 a7 a8 a9 a10 a11 a12 a13 a14 a15 a16 a17 a18 a19 a20 h; exact Eq.mpr (by kernel_rfl) h
  · exact h.elim

def laws_toStored : GM
 | [.agg u0], k => un 23 (fun a0 a1 a2 a3 a4 a5 a6 a7 a8 a9 a10 a11 a12 a13 a14 a15 a16 a17 a18 a19 a20 a21 a22 => 
  call laws_toAnswer [.agg [a2, a3, a4, a5, a6, a7, a8, a9, a10, a11, a12, a13, a14, a15, a16, a17, a18, a19, a20, a21, a22]] fun o0 =>
  rt [.sc, .sc, .own true 148 17, .sc, .sc, .sc, .sc, .own true 9 1, .sc, .own true 3 1, .sc, .sc, .sc, .sc, .own true 9 1, .sc, .sc, .sc, .own true 9 1, .sc, .own true 3 1, .sc, .own true 3 1] [a0, a1, (atP o0 0), (atP o0 1), (atP o0 2), (atP o0 3), (atP o0 4), (atP o0 5), (atP o0 6), (atP o0 7), (atP o0 8), (atP o0 9), (atP o0 10), (atP o0 11), (atP o0 12), (atP o0 13), (atP o0 14), (atP o0 15), (atP o0 16), (atP o0 17), (atP o0 18), (atP o0 19), (atP o0 20)] k) u0
 | _, _ => False
abbrev laws_toStored_e : Ent := ⟨[130], laws_toStored⟩
theorem laws_toStored_w : EntOK Tryz.prog TT laws_toStored_e := ent_ok tabok (L := [laws_toAnswer_e]) ⟨laws_toAnswer_w, trivial⟩ (keep := []) (l := []) Tryz.func130 (by kernel_rfl) (sg := [.agg [.sc, .sc, .own true 148 17, .sc, .sc, .sc, .sc, .own true 9 1, .sc, .own true 3 1, .sc, .sc, .sc, .sc, .own true 9 1, .sc, .sc, .sc, .own true 9 1, .sc, .own true 3 1, .sc, .own true 3 1]]) (by kernel_rfl) trivial fun av k h => by
  unfold laws_toStored at h; split at h
  · apply un_all h; clear h; intro a0 a1 a2 a3 a4 a5 a6 a7 a8 a9 a10 a11 a12 a13 a14 a15 a16 a17 a18 a19 a20 a21 a22 h; exact Eq.mpr (by kernel_rfl) h
  · exact h.elim

def laws_toStoredS_r0 (v : List PV) (K : List PV → Prop) (x0k : PV → PV → PV → PV → Prop) : Prop :=
 un 4 (fun v0 v1 v2 v3 =>
  lenP v0 fun r0 =>
  binP .lss v1 r0 fun r1 =>
  iteP r1
   (elemP 23 v0 v1 fun c2 =>
   call laws_toStored [.agg [(atP c2 0), (atP c2 1), (atP c2 2), (atP c2 3), (atP c2 4), (atP c2 5), (atP c2 6), (atP c2 7), (atP c2 8), (atP c2 9), (atP c2 10), (atP c2 11), (atP c2 12), (atP c2 13), (atP c2 14), (atP c2 15), (atP c2 16), (atP c2 17), (atP c2 18), (atP c2 19), (atP c2 20), (atP c2 21), (atP c2 22)]] fun o3 =>
   boundP 23 v3 v1 fun n4 =>
   (flatCond [.pv (I 0), .pv (.str ⟨#[]⟩), .nil 148 17, .pv (.bool false), .pv (.str ⟨#[]⟩), .pv (I 0), .pv (I 0), .nil 9 1, .pv (I 0), .nil 3 1, .pv (I 0), .pv (.str ⟨#[]⟩), .pv (I 0), .pv (I 0), .nil 9 1, .pv (.str ⟨#[]⟩), .pv (I 0), .pv (I 0), .nil 9 1, .pv (I 0), .nil 3 1, .pv (I 0), .nil 3 1] [.pv (atP o3 0), .pv (atP o3 1), .own 4, .pv (atP o3 3), .pv (atP o3 4), .pv (atP o3 5), .pv (atP o3 6), .own 9, .pv (atP o3 8), .own 11, .pv (atP o3 10), .pv (atP o3 11), .pv (atP o3 12), .pv (atP o3 13), .own 16, .pv (atP o3 15), .pv (atP o3 16), .pv (atP o3 17), .own 20, .pv (atP o3 19), .own 22, .pv (atP o3 21), .own 24]) ∧ setP v3 n4 0 [(atP o3 0), (atP o3 1), (atP o3 2), (atP o3 3), (atP o3 4), (atP o3 5), (atP o3 6), (atP o3 7), (atP o3 8), (atP o3 9), (atP o3 10), (atP o3 11), (atP o3 12), (atP o3 13), (atP o3 14), (atP o3 15), (atP o3 16), (atP o3 17), (atP o3 18), (atP o3 19), (atP o3 20), (atP o3 21), (atP o3 22)] fun r5 =>
   binP .add v1 (I 1) fun r6 =>
   K [v0, r6, v2, r5])
   (x0k v0 v1 v2 v3)) v
def laws_toStoredS : GM
 | [.one a0], k => 
  lenP a0 fun r0 =>
  (r0 = r0) ∧ (23 = 23) ∧ makeP 23 r0 [(I 0), (.str ⟨#[]⟩), (.list 17 []), (.bool false), (.str ⟨#[]⟩), (I 0), (I 0), (.list 1 []), (I 0), (.list 1 []), (I 0), (.str ⟨#[]⟩), (I 0), (I 0), (.list 1 []), (.str ⟨#[]⟩), (I 0), (I 0), (.list 1 []), (I 0), (.list 1 []), (I 0), (.list 1 [])] fun r1 =>
  lp (fun L w => laws_toStoredS_r0 w L
   (fun q7 q8 q9 q10 => rt [.own true 210 23] [q10] k)) [a0, (I 0), (.list 23 []), r1]
 | _, _ => False
abbrev laws_toStoredS_e : Ent := ⟨[88], laws_toStoredS⟩
def laws_toStoredS_l : List LE := [⟨0, ⟨[(0, .one (.pv (.bool false))), (2, .one (.own 1)), (3, .one (.own 0)), (4, .one (.pv (.bool false)))], [], [(1, ⟨.deep, 210, 23, (.bool false)⟩), (0, ⟨.deep, 210, 23, (.bool false)⟩)], 2, 23⟩, fun K k v => laws_toStoredS_r0 v K (fun x0 x1 x2 x3 => k (.exit 0) ⟨[(0, .one (.pv x0)), (2, .one (.own 1)), (3, .one (.own 0)), (4, .one (.pv x1))], [], [(1, ⟨.deep, 210, 23, x2⟩), (0, ⟨.deep, 210, 23, x3⟩)], 2, 23⟩)⟩]
theorem laws_toStoredS_s : LEsOK (orac [laws_toStored_e]) TT (kk [0, 2, 3, 4]) (sumsOf laws_toStoredS_l) Tryz.f88 laws_toStoredS_l := ⟨fun v K k h => by
  apply un_all h; exact fun v0 v1 v2 v3 h => Eq.mpr (by kernel_rfl) h
  , trivial⟩
theorem laws_toStoredS_w : EntOK Tryz.prog TT laws_toStoredS_e := ent_ok tabok (L := [laws_toStored_e]) ⟨laws_toStored_w, trivial⟩ (keep := (kk [0, 2, 3, 4])) (l := laws_toStoredS_l) Tryz.func88 (by kernel_rfl) (sg := [.one (.own true 210 23)]) (by kernel_rfl) laws_toStoredS_s fun av k h => by
  unfold laws_toStoredS at h; split at h
  · exact Eq.mpr (by kernel_rfl) h
  · exact h.elim

def laws_toCache : GM
 | [.agg u0], k => un 1 (fun a0 => 
  call laws_toStoredS [.one a0] fun o0 =>
  rt [.own true 210 23] [(atP o0 0)] k) u0
 | _, _ => False
abbrev laws_toCache_e : Ent := ⟨[42], laws_toCache⟩
theorem laws_toCache_w : EntOK Tryz.prog TT laws_toCache_e := ent_ok tabok (L := [laws_toStoredS_e]) ⟨laws_toStoredS_w, trivial⟩ (keep := []) (l := []) Tryz.func42 (by kernel_rfl) (sg := [.agg [.own true 210 23]]) (by kernel_rfl) trivial fun av k h => by
  unfold laws_toCache at h; split at h
  · apply un_all h; clear h; intro a0 h; exact Eq.mpr (by kernel_rfl) h
  · exact h.elim

def laws_toWorld : GM
 | [.agg u0], k => un 8 (fun a0 a1 a2 a3 a4 a5 a6 a7 => 
  call laws_toActorS [.one a1] fun o0 =>
  call laws_toZoneS [.one a2] fun o1 =>
  call laws_toSaidS [.one a3] fun o2 =>
  call laws_toServerS [.one a4] fun o3 =>
  call laws_toKnown [.agg [a5, a6]] fun o4 =>
  call laws_toCache [.agg [a7]] fun o5 =>
  rt [.sc, .own true 150 1, .own true 60 2, .own true 154 3, .own true 73 2, .own true 57 1, .own true 207 51, .own true 210 23] [a0, (atP o0 0), (atP o1 0), (atP o2 0), (atP o3 0), (atP o4 0), (atP o4 1), (atP o5 0)] k) u0
 | _, _ => False
abbrev laws_toWorld_e : Ent := ⟨[8], laws_toWorld⟩
theorem laws_toWorld_w : EntOK Tryz.prog TT laws_toWorld_e := ent_ok tabok (L := [laws_toActorS_e, laws_toZoneS_e, laws_toSaidS_e, laws_toServerS_e, laws_toKnown_e, laws_toCache_e]) ⟨laws_toActorS_w, laws_toZoneS_w, laws_toSaidS_w, laws_toServerS_w, laws_toKnown_w, laws_toCache_w, trivial⟩ (keep := []) (l := []) Tryz.func8 (by kernel_rfl) (sg := [.agg [.sc, .own true 150 1, .own true 60 2, .own true 154 3, .own true 73 2, .own true 57 1, .own true 207 51, .own true 210 23]]) (by kernel_rfl) trivial fun av k h => by
  unfold laws_toWorld at h; split at h
  · apply un_all h; clear h; intro a0 a1 a2 a3 a4 a5 a6 a7 h; exact Eq.mpr (by kernel_rfl) h
  · exact h.elim

def spec_l1In : GM
 | [.one a0, .one a1, .one a2], k => 
  binP .geq a0 a1 fun r0 =>
  iteP r0
   (binP .leq a0 a2 fun r1 =>
   rt [.sc] [r1] k)
   (rt [.sc] [(.bool false)] k)
 | _, _ => False
abbrev spec_l1In_e : Ent := ⟨[56], spec_l1In⟩
theorem spec_l1In_w : EntOK Tryz.prog TT spec_l1In_e := ent_ok tabok (L := []) trivial (keep := []) (l := []) Tryz.func56 (by kernel_rfl) (sg := [.one (.sc)]) (by kernel_rfl) trivial fun av k h => by
  unfold spec_l1In at h; split at h
  · exact Eq.mpr (by kernel_rfl) h
  · exact h.elim

def spec_l6Copy : GM
 | [.agg u0], k => un 2 (fun a0 a1 => 
  catP 1 a0 (.list 1 []) fun r0 =>
  rt [.pv, .sc] [r0, a1] k) u0
 | _, _ => False
abbrev spec_l6Copy_e : Ent := ⟨[202], spec_l6Copy⟩
theorem spec_l6Copy_w : EntOK Tryz.prog TT spec_l6Copy_e := ent_ok tabok (L := []) trivial (keep := []) (l := []) Tryz.func202 (by kernel_rfl) (sg := [.agg [.pv, .sc]]) (by kernel_rfl) trivial fun av k h => by
  unfold spec_l6Copy at h; split at h
  · apply un_all h; clear h; intro a0 a1 h; exact Eq.mpr (by kernel_rfl) h
  · exact h.elim

def spec_l13Copy : GM
 | [.agg u0], k => un 16 (fun a0 a1 a2 a3 a4 a5 a6 a7 a8 a9 a10 a11 a12 a13 a14 a15 => 
  call spec_l6Copy [.agg [a8, a9]] fun o0 =>
  call spec_l6Copy [.agg [a10, a11]] fun o1 =>
  call spec_l6Copy [.agg [a13, a14]] fun o2 =>
  rt [.sc, .sc, .sc, .sc, .sc, .sc, .sc, .sc, .pv, .sc, .pv, .sc, .sc, .pv, .sc, .sc] [a0, a1, a2, a3, a4, a5, a6, a7, (atP o0 0), (atP o0 1), (atP o1 0), (atP o1 1), a12, (atP o2 0), (atP o2 1), a15] k) u0
 | _, _ => False
abbrev spec_l13Copy_e : Ent := ⟨[168], spec_l13Copy⟩
theorem spec_l13Copy_w : EntOK Tryz.prog TT spec_l13Copy_e := ent_ok tabok (L := [spec_l6Copy_e]) ⟨spec_l6Copy_w, trivial⟩ (keep := []) (l := []) Tryz.func168 (by kernel_rfl) (sg := [.agg [.sc, .sc, .sc, .sc, .sc, .sc, .sc, .sc, .pv, .sc, .pv, .sc, .sc, .pv, .sc, .sc]]) (by kernel_rfl) trivial fun av k h => by
  unfold spec_l13Copy at h; split at h
  · apply un_all h; clear h; intro a0 a1 a2 a3 a4 a5 a6 a7 a8 a9 a10 a11 a12 a13 a14 a15 h; exact Eq.mpr (by kernel_rfl) h
  · exact h.elim

def spec_l14Copy : GM
 | [.agg u0], k => un 17 (fun a0 a1 a2 a3 a4 a5 a6 a7 a8 a9 a10 a11 a12 a13 a14 a15 a16 => 
  call spec_l13Copy [.agg [a0, a1, a2, a3, a4, a5, a6, a7, a8, a9, a10, a11, a12, a13, a14, a15]] fun o0 =>
  catP 2 a16 (.list 2 []) fun r1 =>
  rt [.sc, .sc, .sc, .sc, .sc, .sc, .sc, .sc, .pv, .sc, .pv, .sc, .sc, .pv, .sc, .sc, .pv] [(atP o0 0), (atP o0 1), (atP o0 2), (atP o0 3), (atP o0 4), (atP o0 5), (atP o0 6), (atP o0 7), (atP o0 8), (atP o0 9), (atP o0 10), (atP o0 11), (atP o0 12), (atP o0 13), (atP o0 14), (atP o0 15), r1] k) u0
 | _, _ => False
abbrev spec_l14Copy_e : Ent := ⟨[136], spec_l14Copy⟩
theorem spec_l14Copy_w : EntOK Tryz.prog TT spec_l14Copy_e := ent_ok tabok (L := [spec_l13Copy_e]) ⟨spec_l13Copy_w, trivial⟩ (keep := []) (l := []) Tryz.func136 (by kernel_rfl) (sg := [.agg [.sc, .sc, .sc, .sc, .sc, .sc, .sc, .sc, .pv, .sc, .pv, .sc, .sc, .pv, .sc, .sc, .pv]]) (by kernel_rfl) trivial fun av k h => by
  unfold spec_l14Copy at h; split at h
  · apply un_all h; clear h; intro a0 a1 a2 a3 a4 a5 a6 a7 a8 a9 a10 a11 a12 a13 a14 a15 a16 h; exact Eq.mpr (by kernel_rfl) h
  · exact h.elim

def spec_l16Copy_r0 (v : List PV) (K : List PV → Prop) (x0k : PV → PV → PV → PV → Prop) : Prop :=
 un 4 (fun v0 v1 v2 v3 =>
  lenP v0 fun r0 =>
  binP .lss v1 r0 fun r1 =>
  iteP r1
   (elemP 17 v0 v1 fun c2 =>
   call spec_l14Copy [.agg [(atP c2 0), (atP c2 1), (atP c2 2), (atP c2 3), (atP c2 4), (atP c2 5), (atP c2 6), (atP c2 7), (atP c2 8), (atP c2 9), (atP c2 10), (atP c2 11), (atP c2 12), (atP c2 13), (atP c2 14), (atP c2 15), (atP c2 16)]] fun o3 =>
   (1 = 1) ∧ (17 ≤ 16777216) ∧ (17 = 17) ∧ (0 = 0) ∧ (17 = 17) ∧ catP 17 v3 (.list 17 [[(atP o3 0), (atP o3 1), (atP o3 2), (atP o3 3), (atP o3 4), (atP o3 5), (atP o3 6), (atP o3 7), (atP o3 8), (atP o3 9), (atP o3 10), (atP o3 11), (atP o3 12), (atP o3 13), (atP o3 14), (atP o3 15), (atP o3 16)]]) fun r4 =>
   binP .add v1 (I 1) fun r5 =>
   K [v0, r5, v2, r4])
   (x0k v0 v1 v2 v3)) v
def spec_l16Copy : GM
 | [.one a0], k => 
  (0 = 0) ∧ (0 ≤ 16777216) ∧ (17 = 17) ∧ lp (fun L w => spec_l16Copy_r0 w L
   (fun q6 q7 q8 q9 => rt [.pv] [q9] k)) [a0, (I 0), (.list 17 []), (.list 17 [])]
 | _, _ => False
abbrev spec_l16Copy_e : Ent := ⟨[99], spec_l16Copy⟩
def spec_l16Copy_l : List LE := [⟨0, ⟨[(0, .one (.pv (.bool false))), (2, .one (.own 1)), (3, .one (.own 0)), (4, .one (.pv (.bool false)))], [], [(1, ⟨.deep, 148, 17, (.bool false)⟩), (0, ⟨.flat, 148, 17, (.bool false)⟩)], 2, 21⟩, fun K k v => spec_l16Copy_r0 v K (fun x0 x1 x2 x3 => k (.exit 0) ⟨[(0, .one (.pv x0)), (2, .one (.own 1)), (3, .one (.own 0)), (4, .one (.pv x1))], [], [(1, ⟨.deep, 148, 17, x2⟩), (0, ⟨.flat, 148, 17, x3⟩)], 2, 21⟩)⟩]
theorem spec_l16Copy_s : LEsOK (orac [spec_l14Copy_e]) TT (kk [0, 2, 3, 4]) (sumsOf spec_l16Copy_l) Tryz.f99 spec_l16Copy_l := ⟨fun v K k h => by
  apply un_all h; exact fun v0 v1 v2 v3 h => Eq.mpr (by kernel_rfl) h
  , trivial⟩
theorem spec_l16Copy_w : EntOK Tryz.prog TT spec_l16Copy_e := ent_ok tabok (L := [spec_l14Copy_e]) ⟨spec_l14Copy_w, trivial⟩ (keep := (kk [0, 2, 3, 4])) (l := spec_l16Copy_l) Tryz.func99 (by kernel_rfl) (sg := [.one (.pv)]) (by kernel_rfl) spec_l16Copy_s fun av k h => by
  unfold spec_l16Copy at h; split at h
  · exact Eq.mpr (by kernel_rfl) h
  · exact h.elim

def spec_l5Copy : GM
 | [.one a0], k => 
  (0 = 0) ∧ (0 ≤ 16777216) ∧ (1 = 1) ∧ (flatRows a0) ∧ catP 1 (.list 1 []) a0 fun r0 =>
  rt [.pv] [r0] k
 | _, _ => False
abbrev spec_l5Copy_e : Ent := ⟨[169], spec_l5Copy⟩
theorem spec_l5Copy_w : EntOK Tryz.prog TT spec_l5Copy_e := ent_ok tabok (L := []) trivial (keep := []) (l := []) Tryz.func169 (by kernel_rfl) (sg := [.one (.pv)]) (by kernel_rfl) trivial fun av k h => by
  unfold spec_l5Copy at h; split at h
  · exact Eq.mpr (by kernel_rfl) h
  · exact h.elim

def spec_l8Copy : GM
 | [.agg u0], k => un 4 (fun a0 a1 a2 a3 => 
  call spec_l5Copy [.one a3] fun o0 =>
  rt [.sc, .sc, .sc, .pv] [a0, a1, a2, (atP o0 0)] k) u0
 | _, _ => False
abbrev spec_l8Copy_e : Ent := ⟨[137], spec_l8Copy⟩
theorem spec_l8Copy_w : EntOK Tryz.prog TT spec_l8Copy_e := ent_ok tabok (L := [spec_l5Copy_e]) ⟨spec_l5Copy_w, trivial⟩ (keep := []) (l := []) Tryz.func137 (by kernel_rfl) (sg := [.agg [.sc, .sc, .sc, .pv]]) (by kernel_rfl) trivial fun av k h => by
  unfold spec_l8Copy at h; split at h
  · apply un_all h; clear h; intro a0 a1 a2 a3 h; exact Eq.mpr (by kernel_rfl) h
  · exact h.elim

def spec_l9Copy_r0 (v : List PV) (K : List PV → Prop) (x0k : PV → PV → PV → PV → Prop) : Prop :=
 un 4 (fun v0 v1 v2 v3 =>
  lenP v0 fun r0 =>
  binP .lss v1 r0 fun r1 =>
  iteP r1
   (elemP 4 v0 v1 fun c2 =>
   call spec_l8Copy [.agg [(atP c2 0), (atP c2 1), (atP c2 2), (atP c2 3)]] fun o3 =>
   (1 = 1) ∧ (4 ≤ 16777216) ∧ (4 = 4) ∧ (0 = 0) ∧ (4 = 4) ∧ catP 4 v3 (.list 4 [[(atP o3 0), (atP o3 1), (atP o3 2), (atP o3 3)]]) fun r4 =>
   binP .add v1 (I 1) fun r5 =>
   K [v0, r5, v2, r4])
   (x0k v0 v1 v2 v3)) v
def spec_l9Copy : GM
 | [.one a0], k => 
  (0 = 0) ∧ (0 ≤ 16777216) ∧ (4 = 4) ∧ lp (fun L w => spec_l9Copy_r0 w L
   (fun q6 q7 q8 q9 => rt [.pv] [q9] k)) [a0, (I 0), (.list 4 []), (.list 4 [])]
 | _, _ => False
abbrev spec_l9Copy_e : Ent := ⟨[100], spec_l9Copy⟩
def spec_l9Copy_l : List LE := [⟨0, ⟨[(0, .one (.pv (.bool false))), (2, .one (.own 1)), (3, .one (.own 0)), (4, .one (.pv (.bool false)))], [], [(1, ⟨.deep, 117, 4, (.bool false)⟩), (0, ⟨.flat, 117, 4, (.bool false)⟩)], 2, 21⟩, fun K k v => spec_l9Copy_r0 v K (fun x0 x1 x2 x3 => k (.exit 0) ⟨[(0, .one (.pv x0)), (2, .one (.own 1)), (3, .one (.own 0)), (4, .one (.pv x1))], [], [(1, ⟨.deep, 117, 4, x2⟩), (0, ⟨.flat, 117, 4, x3⟩)], 2, 21⟩)⟩]
theorem spec_l9Copy_s : LEsOK (orac [spec_l8Copy_e]) TT (kk [0, 2, 3, 4]) (sumsOf spec_l9Copy_l) Tryz.f100 spec_l9Copy_l := ⟨fun v K k h => by
  apply un_all h; exact fun v0 v1 v2 v3 h => Eq.mpr (by kernel_rfl) h
  , trivial⟩
theorem spec_l9Copy_w : EntOK Tryz.prog TT spec_l9Copy_e := ent_ok tabok (L := [spec_l8Copy_e]) ⟨spec_l8Copy_w, trivial⟩ (keep := (kk [0, 2, 3, 4])) (l := spec_l9Copy_l) Tryz.func100 (by kernel_rfl) (sg := [.one (.pv)]) (by kernel_rfl) spec_l9Copy_s fun av k h => by
  unfold spec_l9Copy at h; split at h
  · exact Eq.mpr (by kernel_rfl) h
  · exact h.elim

def spec_l20Copy : GM
 | [.agg u0], k => un 2 (fun a0 a1 => 
  call spec_l16Copy [.one a0] fun o0 =>
  call spec_l9Copy [.one a1] fun o1 =>
  rt [.pv, .pv] [(atP o0 0), (atP o1 0)] k) u0
 | _, _ => False
abbrev spec_l20Copy_e : Ent := ⟨[57], spec_l20Copy⟩
theorem spec_l20Copy_w : EntOK Tryz.prog TT spec_l20Copy_e := ent_ok tabok (L := [spec_l16Copy_e, spec_l9Copy_e]) ⟨spec_l16Copy_w, spec_l9Copy_w, trivial⟩ (keep := []) (l := []) Tryz.func57 (by kernel_rfl) (sg := [.agg [.pv, .pv]]) (by kernel_rfl) trivial fun av k h => by
  unfold spec_l20Copy at h; split at h
  · apply un_all h; clear h; intro a0 a1 h; exact Eq.mpr (by kernel_rfl) h
  · exact h.elim

def spec_ZoneAt : GM
 | [.agg u0, .one a8], k => un 8 (fun a0 a1 a2 a3 a4 a5 a6 a7 => 
  lenP a2 fun r0 =>
  binP .sub r0 (I 1) fun r1 =>
  call spec_l1In [.one a8, .one (I 0), .one r1] fun o2 =>
  unP .not (atP o2 0) fun r3 =>
  iteP r3
   (rt [.pv, .pv, .sc] [(.list 17 []), (.list 4 []), (.bool false)] k)
   (elemP 2 a2 a8 fun c4 =>
   call spec_l20Copy [.agg [(atP c4 0), (atP c4 1)]] fun o5 =>
   rt [.pv, .pv, .sc] [(atP o5 0), (atP o5 1), (.bool true)] k)) u0
 | _, _ => False
abbrev spec_ZoneAt_e : Ent := ⟨[15], spec_ZoneAt⟩
theorem spec_ZoneAt_w : EntOK Tryz.prog TT spec_ZoneAt_e := ent_ok tabok (L := [spec_l1In_e, spec_l20Copy_e]) ⟨spec_l1In_w, spec_l20Copy_w, trivial⟩ (keep := []) (l := []) Tryz.func15 (by kernel_rfl) (sg := [.agg [.pv, .pv], .one (.sc)]) (by kernel_rfl) trivial fun av k h => by
  unfold spec_ZoneAt at h; split at h
  · apply un_all h; clear h; intro a0 a1 a2 a3 a4 a5 a6 a7 h; exact Eq.mpr (by kernel_rfl) h
  · exact h.elim

def spec_l6Has_r0 (v : List PV) (K : List PV → Prop) (x0k : Prop) (x1k : PV → PV → PV → PV → Prop) : Prop :=
 un 4 (fun v0 v1 v2 v3 =>
  lenP v0 fun r0 =>
  binP .lss v3 r0 fun r1 =>
  iteP r1
   (elemP 1 v0 v3 fun c2 =>
   binP .eql (atP c2 0) v1 fun r3 =>
   iteP r3
    (x0k)
    (binP .add v3 (I 1) fun r4 =>
    K [v0, v1, v2, r4]))
   (x1k v0 v1 v2 v3)) v
def spec_l6Has : GM
 | [.one a0, .one a1], k => 
  lp (fun L w => spec_l6Has_r0 w L
   (rt [.sc] [(.bool true)] k)
   (fun q5 q6 q7 q8 => rt [.sc] [(.bool false)] k)) [a0, a1, (.bool false), (I 0)]
 | _, _ => False
abbrev spec_l6Has_e : Ent := ⟨[161], spec_l6Has⟩
def spec_l6Has_l : List LE := [⟨0, ⟨[(0, .one (.pv (.bool false))), (1, .one (.pv (.bool false))), (4, .one (.pv (.bool false))), (5, .one (.pv (.bool false)))], [], [], 0, 18⟩, fun K k v => spec_l6Has_r0 v K (k .ret ⟨[(4, .one (.kb true))], [], [], 0, 18⟩) (fun x0 x1 x2 x3 => k (.exit 0) ⟨[(0, .one (.pv x0)), (1, .one (.pv x1)), (4, .one (.pv x2)), (5, .one (.pv x3))], [], [], 0, 18⟩)⟩]
theorem spec_l6Has_s : LEsOK (orac []) TT (kk [0, 1, 4, 5]) (sumsOf spec_l6Has_l) Tryz.f161 spec_l6Has_l := ⟨fun v K k h => by
  apply un_all h; exact fun v0 v1 v2 v3 h => Eq.mpr (by kernel_rfl) h
  , trivial⟩
theorem spec_l6Has_w : EntOK Tryz.prog TT spec_l6Has_e := ent_ok tabok (L := []) trivial (keep := (kk [0, 1, 4, 5])) (l := spec_l6Has_l) Tryz.func161 (by kernel_rfl) (sg := [.one (.sc)]) (by kernel_rfl) spec_l6Has_s fun av k h => by
  unfold spec_l6Has at h; split at h
  · exact Eq.mpr (by kernel_rfl) h
  · exact h.elim

def spec_IsKeys_r0 (v : List PV) (K : List PV → Prop) (x0k : PV → PV → Prop) (x1k : PV → PV → PV → PV → Prop) : Prop :=
 un 4 (fun v0 v1 v2 v3 =>
  lenP v2 fun r0 =>
  binP .lss v1 r0 fun r1 =>
  iteP r1
   (elemP 1 v2 v1 fun c2 =>
   call spec_l1In [.one (atP c2 0), .one (I 1), .one (I 99)] fun o3 =>
   unP .not (atP o3 0) fun r4 =>
   iteP r4
    (x0k v2 v3)
    (binP .gtr v1 (I 0) fun r5 =>
    iteP r5
     (binP .sub v1 (I 1) fun r6 =>
     elemP 1 v2 r6 fun c7 =>
     elemP 1 v2 v1 fun c8 =>
     binP .geq (atP c7 0) (atP c8 0) fun r9 =>
     iteP r9
      (x0k v2 v3)
      (binP .add v1 (I 1) fun r10 =>
      K [v0, r10, v2, v3]))
     (binP .add v1 (I 1) fun r11 =>
     K [v0, r11, v2, v3])))
   (x1k v0 v1 v2 v3)) v
def spec_IsKeys : GM
 | [.agg u0], k => un 2 (fun a0 a1 => 
  lp (fun L w => spec_IsKeys_r0 w L
   (fun q12 q13 => rt [.sc] [(.bool false)] k)
   (fun q14 q15 q16 q17 => lenP q16 fun r18 =>
    call spec_l1In [.one r18, .one (I 1), .one (I 4)] fun o19 =>
    iteP (atP o19 0)
     (lenP q16 fun r20 =>
     call spec_l1In [.one q17, .one (I 1), .one r20] fun o21 =>
     rt [.sc] [(atP o21 0)] k)
     (rt [.sc] [(.bool false)] k))) [(.bool false), (I 0), a0, a1]) u0
 | _, _ => False
abbrev spec_IsKeys_e : Ent := ⟨[162], spec_IsKeys⟩
def spec_IsKeys_l : List LE := [⟨0, ⟨[(1, .one (.ptr 0 0)), (2, .one (.pv (.bool false))), (3, .one (.pv (.bool false)))], [(0, [.pv (.bool false), .pv (.bool false)])], [], 1, 48⟩, fun K k v => spec_IsKeys_r0 v K (fun x0 x1 => k .ret ⟨[(2, .one (.kb false))], [(0, [.pv x0, .pv x1])], [], 2, 48⟩) (fun x0 x1 x2 x3 => k (.exit 0) ⟨[(1, .one (.ptr 0 0)), (2, .one (.pv x0)), (3, .one (.pv x1))], [(0, [.pv x2, .pv x3])], [], 1, 48⟩)⟩]
theorem spec_IsKeys_s : LEsOK (orac [spec_l1In_e]) TT (kk [1, 2, 3, 19, 20, 21, 22, 23, 24, 25, 26, 27, 28, 29, 30, 31, 32, 33, 34, 41, 42, 43, 44, 45, 46]) (sumsOf spec_IsKeys_l) Tryz.f162 spec_IsKeys_l := ⟨fun v K k h => by
  apply un_all h; exact fun v0 v1 v2 v3 h => Eq.mpr (by kernel_rfl) h
  , trivial⟩
theorem spec_IsKeys_w : EntOK Tryz.prog TT spec_IsKeys_e := ent_ok tabok (L := [spec_l1In_e]) ⟨spec_l1In_w, trivial⟩ (keep := (kk [1, 2, 3, 19, 20, 21, 22, 23, 24, 25, 26, 27, 28, 29, 30, 31, 32, 33, 34, 41, 42, 43, 44, 45, 46])) (l := spec_IsKeys_l) Tryz.func162 (by kernel_rfl) (sg := [.one (.sc)]) (by kernel_rfl) spec_IsKeys_s fun av k h => by
  unfold spec_IsKeys at h; split at h
  · apply un_all h; clear h; intro a0 a1 h; exact Eq.mpr (by kernel_rfl) h
  · exact h.elim

def spec_CanSign_r0 (v : List PV) (K : List PV → Prop) (x0k : PV → PV → PV → PV → PV → PV → Prop) : Prop :=
 un 6 (fun v0 v1 v2 v3 v4 v5 =>
  lenP v4 fun r0 =>
  binP .lss v3 r0 fun r1 =>
  iteP r1
   (elemP 1 v4 v3 fun c2 =>
   call spec_l6Has [.one v0, .one (atP c2 0)] fun o3 =>
   iteP (atP o3 0)
    (binP .add v2 (I 1) fun r4 =>
    binP .add v3 (I 1) fun r5 =>
    K [v0, v1, r4, r5, v4, v5])
    (binP .add v3 (I 1) fun r6 =>
    K [v0, v1, v2, r6, v4, v5]))
   (x0k v0 v1 v2 v3 v4 v5)) v
def spec_CanSign : GM
 | [.agg u0, .one a2], k => un 2 (fun a0 a1 => 
  lp (fun L w => spec_CanSign_r0 w L
   (fun q7 q8 q9 q10 q11 q12 => call spec_IsKeys [.agg [q11, q12]] fun o13 =>
    iteP (atP o13 0)
     (binP .geq q9 q12 fun r14 =>
     rt [.sc] [r14] k)
     (rt [.sc] [(.bool false)] k))) [a2, (.bool false), (I 0), (I 0), a0, a1]) u0
 | _, _ => False
abbrev spec_CanSign_e : Ent := ⟨[125], spec_CanSign⟩
def spec_CanSign_l : List LE := [⟨0, ⟨[(1, .one (.pv (.bool false))), (2, .one (.ptr 0 0)), (4, .one (.pv (.bool false))), (5, .one (.pv (.bool false))), (6, .one (.pv (.bool false)))], [(0, [.pv (.bool false), .pv (.bool false)])], [], 1, 31⟩, fun K k v => spec_CanSign_r0 v K (fun x0 x1 x2 x3 x4 x5 => k (.exit 0) ⟨[(1, .one (.pv x0)), (2, .one (.ptr 0 0)), (4, .one (.pv x1)), (5, .one (.pv x2)), (6, .one (.pv x3))], [(0, [.pv x4, .pv x5])], [], 1, 31⟩)⟩]
theorem spec_CanSign_s : LEsOK (orac [spec_l6Has_e, spec_IsKeys_e]) TT (kk [1, 2, 4, 5, 6, 26, 27, 28, 29]) (sumsOf spec_CanSign_l) Tryz.f125 spec_CanSign_l := ⟨fun v K k h => by
  apply un_all h; exact fun v0 v1 v2 v3 v4 v5 h => Eq.mpr (by kernel_rfl) h
  , trivial⟩
theorem spec_CanSign_w : EntOK Tryz.prog TT spec_CanSign_e := ent_ok tabok (L := [spec_l6Has_e, spec_IsKeys_e]) ⟨spec_l6Has_w, spec_IsKeys_w, trivial⟩ (keep := (kk [1, 2, 4, 5, 6, 26, 27, 28, 29])) (l := spec_CanSign_l) Tryz.func125 (by kernel_rfl) (sg := [.one (.sc)]) (by kernel_rfl) spec_CanSign_s fun av k h => by
  unfold spec_CanSign at h; split at h
  · apply un_all h; clear h; intro a0 a1 h; exact Eq.mpr (by kernel_rfl) h
  · exact h.elim

def spec_CanSpeak : GM
 | [.one a0, .one a1, .agg u0, .one a18], k => un 16 (fun a2 a3 a4 a5 a6 a7 a8 a9 a10 a11 a12 a13 a14 a15 a16 a17 => 
  lenP a0 fun r0 =>
  binP .sub r0 (I 1) fun r1 =>
  call spec_l1In [.one a1, .one (I 0), .one r1] fun o2 =>
  unP .not (atP o2 0) fun r3 =>
  iteP r3
   (rt [.sc] [(.bool false)] k)
   (binP .eql a18 (I 1) fun r4 =>
   iteP r4
    (elemP 1 a0 a1 fun c5 =>
    call spec_CanSign [.agg [a10, a11], .one (atP c5 0)] fun o6 =>
    rt [.sc] [(atP o6 0)] k)
    (binP .eql a18 (I 2) fun r7 =>
    iteP r7
     (elemP 1 a0 a1 fun c8 =>
     call spec_CanSign [.agg [a12, a13], .one (atP c8 0)] fun o9 =>
     rt [.sc] [(atP o9 0)] k)
     (binP .eql a18 (I 3) fun r10 =>
     iteP r10
      (elemP 1 a0 a1 fun c11 =>
      call spec_CanSign [.agg [a15, a16], .one (atP c11 0)] fun o12 =>
      rt [.sc] [(atP o12 0)] k)
      (rt [.sc] [(.bool false)] k))))) u0
 | _, _ => False
abbrev spec_CanSpeak_e : Ent := ⟨[82], spec_CanSpeak⟩
theorem spec_CanSpeak_w : EntOK Tryz.prog TT spec_CanSpeak_e := ent_ok tabok (L := [spec_l1In_e, spec_CanSign_e]) ⟨spec_l1In_w, spec_CanSign_w, trivial⟩ (keep := []) (l := []) Tryz.func82 (by kernel_rfl) (sg := [.one (.sc)]) (by kernel_rfl) trivial fun av k h => by
  unfold spec_CanSpeak at h; split at h
  · apply un_all h; clear h; intro a2 a3 a4 a5 a6 a7 a8 a9 a10 a11 a12 a13 a14 a15 a16 a17 h; exact Eq.mpr (by kernel_rfl) h
  · exact h.elim

def spec_CanTurn : GM
 | [.agg u0, .one a8, .one a9], k => un 8 (fun a0 a1 a2 a3 a4 a5 a6 a7 => 
  call spec_ZoneAt [.agg [a0, a1, a2, a3, a4, a5, a6, a7], .one a9] fun o0 =>
  unP .not (atP o0 2) fun r1 =>
  iteP r1
   (rt [.sc] [(.bool false)] k)
   (lenP (atP o0 0) fun r2 =>
   binP .eql r2 (I 0) fun r3 =>
   iteP r3
    (rt [.sc] [(.bool false)] k)
    (lenP (atP o0 0) fun r4 =>
    binP .sub r4 (I 1) fun r5 =>
    elemP 17 (atP o0 0) r5 fun c6 =>
    unP .not (atP c6 15) fun r7 =>
    iteP r7
     (call spec_CanSpeak [.one a1, .one a8, .agg [(atP c6 0), (atP c6 1), (atP c6 2), (atP c6 3), (atP c6 4), (atP c6 5), (atP c6 6), (atP c6 7), (atP c6 8), (atP c6 9), (atP c6 10), (atP c6 11), (atP c6 12), (atP c6 13), (atP c6 14), (atP c6 15)], .one (I 1)] fun o8 =>
     rt [.sc] [(atP o8 0)] k)
     (rt [.sc] [(.bool false)] k)))) u0
 | _, _ => False
abbrev spec_CanTurn_e : Ent := ⟨[36], spec_CanTurn⟩
theorem spec_CanTurn_w : EntOK Tryz.prog TT spec_CanTurn_e := ent_ok tabok (L := [spec_ZoneAt_e, spec_CanSpeak_e]) ⟨spec_ZoneAt_w, spec_CanSpeak_w, trivial⟩ (keep := []) (l := []) Tryz.func36 (by kernel_rfl) (sg := [.one (.sc)]) (by kernel_rfl) trivial fun av k h => by
  unfold spec_CanTurn at h; split at h
  · apply un_all h; clear h; intro a0 a1 a2 a3 a4 a5 a6 a7 h; exact Eq.mpr (by kernel_rfl) h
  · exact h.elim

def spec_SpeakersOf_r0 (v : List PV) (K : List PV → Prop) (x0k : PV → PV → PV → PV → PV → PV → PV → PV → PV → PV → PV → PV → Prop) : Prop :=
 un 12 (fun v0 v1 v2 v3 v4 v5 v6 v7 v8 v9 v10 v11 =>
  lenP v3 fun r0 =>
  binP .lss v1 r0 fun r1 =>
  iteP r1
   (call spec_CanTurn [.agg [v2, v3, v4, v5, v6, v7, v8, v9], .one v1, .one v0] fun o2 =>
   iteP (atP o2 0)
    ((1 = 1) ∧ (1 ≤ 16777216) ∧ (1 = 1) ∧ (0 = 0) ∧ (1 = 1) ∧ (flatCond [.pv (I 0)] [.pv v1]) ∧ catP 1 v11 (.list 1 [[v1]]) fun r3 =>
    binP .add v1 (I 1) fun r4 =>
    K [v0, r4, v2, v3, v4, v5, v6, v7, v8, v9, v10, r3])
    (binP .add v1 (I 1) fun r5 =>
    K [v0, r5, v2, v3, v4, v5, v6, v7, v8, v9, v10, v11]))
   (x0k v0 v1 v2 v3 v4 v5 v6 v7 v8 v9 v10 v11)) v
def spec_SpeakersOf : GM
 | [.agg u0, .one a8], k => un 8 (fun a0 a1 a2 a3 a4 a5 a6 a7 => 
  (0 = 0) ∧ (0 ≤ 16777216) ∧ (1 = 1) ∧ lp (fun L w => spec_SpeakersOf_r0 w L
   (fun q6 q7 q8 q9 q10 q11 q12 q13 q14 q15 q16 q17 => rt [.pv] [q17] k)) [a8, (I 0), a0, a1, a2, a3, a4, a5, a6, a7, (.list 1 []), (.list 1 [])]) u0
 | _, _ => False
abbrev spec_SpeakersOf_e : Ent := ⟨[7], spec_SpeakersOf⟩
def spec_SpeakersOf_l : List LE := [⟨0, ⟨[(1, .one (.pv (.bool false))), (2, .one (.ptr 0 0)), (4, .one (.own 2)), (5, .one (.own 1)), (6, .one (.pv (.bool false)))], [(0, [.pv (.bool false), .pv (.bool false), .pv (.bool false), .pv (.bool false), .pv (.bool false), .pv (.bool false), .pv (.bool false), .pv (.bool false)])], [(2, ⟨.deep, 3, 1, (.bool false)⟩), (1, ⟨.deep, 3, 1, (.bool false)⟩)], 3, 24⟩, fun K k v => spec_SpeakersOf_r0 v K (fun x0 x1 x2 x3 x4 x5 x6 x7 x8 x9 x10 x11 => k (.exit 0) ⟨[(1, .one (.pv x0)), (2, .one (.ptr 0 0)), (4, .one (.own 2)), (5, .one (.own 1)), (6, .one (.pv x1))], [(0, [.pv x2, .pv x3, .pv x4, .pv x5, .pv x6, .pv x7, .pv x8, .pv x9])], [(2, ⟨.deep, 3, 1, x10⟩), (1, ⟨.deep, 3, 1, x11⟩)], 3, 24⟩)⟩]
theorem spec_SpeakersOf_s : LEsOK (orac [spec_CanTurn_e]) TT (kk [1, 2, 4, 5, 6]) (sumsOf spec_SpeakersOf_l) Tryz.f7 spec_SpeakersOf_l := ⟨fun v K k h => by
  apply un_all h; exact fun v0 v1 v2 v3 v4 v5 v6 v7 v8 v9 v10 v11 h => Eq.mpr (by kernel_rfl) h
  , trivial⟩
theorem spec_SpeakersOf_w : EntOK Tryz.prog TT spec_SpeakersOf_e := ent_ok tabok (L := [spec_CanTurn_e]) ⟨spec_CanTurn_w, trivial⟩ (keep := (kk [1, 2, 4, 5, 6])) (l := spec_SpeakersOf_l) Tryz.func7 (by kernel_rfl) (sg := [.one (.pv)]) (by kernel_rfl) spec_SpeakersOf_s fun av k h => by
  unfold spec_SpeakersOf at h; split at h
  · apply un_all h; clear h; intro a0 a1 a2 a3 a4 a5 a6 a7 h; exact Eq.mpr (by kernel_rfl) h
  · exact h.elim

def impl_InRange : GM
 | [.one a0, .one a1, .one a2], k => 
  binP .leq a1 a0 fun r0 =>
  iteP r0
   (binP .leq a0 a2 fun r1 =>
   rt [.sc] [r1] k)
   (rt [.sc] [(.bool false)] k)
 | _, _ => False
abbrev impl_InRange_e : Ent := ⟨[101], impl_InRange⟩
theorem impl_InRange_w : EntOK Tryz.prog TT impl_InRange_e := ent_okF tabok (L := []) trivial (keep := []) (l := []) Tryz.func101 (by kernel_rfl) (sg := [.one (.sc)]) (by kernel_rfl) trivial fun av k h => by
  unfold impl_InRange at h; split at h
  · exact Eq.mpr (by kernel_rfl) h
  · exact h.elim

def impl_World_hasZone : GM
 | [.agg u0, .one a8], k => un 8 (fun a0 a1 a2 a3 a4 a5 a6 a7 => 
  lenP a2 fun r0 =>
  binP .sub r0 (I 1) fun r1 =>
  call impl_InRange [.one a8, .one (I 0), .one r1] fun o2 =>
  rt [.sc] [(atP o2 0)] k) u0
 | _, _ => False
abbrev impl_World_hasZone_e : Ent := ⟨[58], impl_World_hasZone⟩
theorem impl_World_hasZone_w : EntOK Tryz.prog TT impl_World_hasZone_e := ent_okF tabok (L := [impl_InRange_e]) ⟨impl_InRange_w, trivial⟩ (keep := []) (l := []) Tryz.func58 (by kernel_rfl) (sg := [.one (.sc)]) (by kernel_rfl) trivial fun av k h => by
  unfold impl_World_hasZone at h; split at h
  · apply un_all h; clear h; intro a0 a1 a2 a3 a4 a5 a6 a7 h; exact Eq.mpr (by kernel_rfl) h
  · exact h.elim

def impl_last : GM
 | [.one a0], k => 
  lenP a0 fun r0 =>
  binP .sub r0 (I 1) fun r1 =>
  elemP 17 a0 r1 fun c2 =>
  rt [.sc, .sc, .sc, .sc, .sc, .sc, .sc, .sc, .pv, .sc, .pv, .sc, .sc, .pv, .sc, .sc] [(atP c2 0), (atP c2 1), (atP c2 2), (atP c2 3), (atP c2 4), (atP c2 5), (atP c2 6), (atP c2 7), (atP c2 8), (atP c2 9), (atP c2 10), (atP c2 11), (atP c2 12), (atP c2 13), (atP c2 14), (atP c2 15)] k
 | _, _ => False
abbrev impl_last_e : Ent := ⟨[89], impl_last⟩
theorem impl_last_w : EntOK Tryz.prog TT impl_last_e := ent_okF tabok (L := []) trivial (keep := []) (l := []) Tryz.func89 (by kernel_rfl) (sg := [.agg [.sc, .sc, .sc, .sc, .sc, .sc, .sc, .sc, .pv, .sc, .pv, .sc, .sc, .pv, .sc, .sc]]) (by kernel_rfl) trivial fun av k h => by
  unfold impl_last at h; split at h
  · exact Eq.mpr (by kernel_rfl) h
  · exact h.elim

def impl_isActor : GM
 | [.one a0, .one a1], k => 
  lenP a0 fun r0 =>
  binP .sub r0 (I 1) fun r1 =>
  call impl_InRange [.one a1, .one (I 0), .one r1] fun o2 =>
  rt [.sc] [(atP o2 0)] k
 | _, _ => False
abbrev impl_isActor_e : Ent := ⟨[131], impl_isActor⟩
theorem impl_isActor_w : EntOK Tryz.prog TT impl_isActor_e := ent_okF tabok (L := [impl_InRange_e]) ⟨impl_InRange_w, trivial⟩ (keep := []) (l := []) Tryz.func131 (by kernel_rfl) (sg := [.one (.sc)]) (by kernel_rfl) trivial fun av k h => by
  unfold impl_isActor at h; split at h
  · exact Eq.mpr (by kernel_rfl) h
  · exact h.elim

def impl_signersFor : GM
 | [.agg u0, .one a16], k => un 16 (fun a0 a1 a2 a3 a4 a5 a6 a7 a8 a9 a10 a11 a12 a13 a14 a15 => 
  binP .eql a16 (I 1) fun r0 =>
  iteP r0
   (rt [.pv, .sc] [a8, a9] k)
   (binP .eql a16 (I 2) fun r1 =>
   iteP r1
    (rt [.pv, .sc] [a10, a11] k)
    (binP .eql a16 (I 3) fun r2 =>
    iteP r2
     (rt [.pv, .sc] [a13, a14] k)
     (rt [.pv, .sc] [(.list 1 []), (I 0)] k)))) u0
 | _, _ => False
abbrev impl_signersFor_e : Ent := ⟨[133], impl_signersFor⟩
theorem impl_signersFor_w : EntOK Tryz.prog TT impl_signersFor_e := ent_okF tabok (L := []) trivial (keep := []) (l := []) Tryz.func133 (by kernel_rfl) (sg := [.agg [.pv, .sc]]) (by kernel_rfl) trivial fun av k h => by
  unfold impl_signersFor at h; split at h
  · apply un_all h; clear h; intro a0 a1 a2 a3 a4 a5 a6 a7 a8 a9 a10 a11 a12 a13 a14 a15 h; exact Eq.mpr (by kernel_rfl) h
  · exact h.elim

def slices_Index_int_r0 (v : List PV) (K : List PV → Prop) (x0k : PV → Prop) (x1k : PV → PV → PV → PV → PV → Prop) : Prop :=
 un 5 (fun v0 v1 v2 v3 v4 =>
  binP .lss v4 v3 fun r0 =>
  iteP r0
   (elemP 1 v0 v4 fun c1 =>
   binP .eql v1 (atP c1 0) fun r2 =>
   iteP r2
    (x0k v4)
    (binP .add v4 (I 1) fun r3 =>
    K [v0, v1, v2, v3, r3]))
   (x1k v0 v1 v2 v3 v4)) v
def slices_Index_int : GM
 | [.one a0, .one a1], k => 
  lenP a0 fun r0 =>
  lp (fun L w => slices_Index_int_r0 w L
   (fun q4 => rt [.sc] [q4] k)
   (fun q5 q6 q7 q8 q9 => rt [.sc] [(I (-1))] k)) [a0, a1, (I 0), r0, (I 0)]
 | _, _ => False
abbrev slices_Index_int_e : Ent := ⟨[199], slices_Index_int⟩
def slices_Index_int_l : List LE := [⟨0, ⟨[(0, .one (.pv (.bool false))), (1, .one (.pv (.bool false))), (4, .one (.pv (.bool false))), (7, .one (.pv (.bool false))), (8, .one (.pv (.bool false)))], [], [], 0, 19⟩, fun K k v => slices_Index_int_r0 v K (fun x0 => k .ret ⟨[(4, .one (.pv x0))], [], [], 0, 19⟩) (fun x0 x1 x2 x3 x4 => k (.exit 0) ⟨[(0, .one (.pv x0)), (1, .one (.pv x1)), (4, .one (.pv x2)), (7, .one (.pv x3)), (8, .one (.pv x4))], [], [], 0, 19⟩)⟩]
theorem slices_Index_int_s : LEsOK (orac []) TT (kk [0, 1, 4, 7, 8]) (sumsOf slices_Index_int_l) Tryz.f199 slices_Index_int_l := ⟨fun v K k h => by
  apply un_all h; exact fun v0 v1 v2 v3 v4 h => Eq.mpr (by kernel_rfl) h
  , trivial⟩
theorem slices_Index_int_w : EntOK Tryz.prog TT slices_Index_int_e := ent_ok tabok (L := []) trivial (keep := (kk [0, 1, 4, 7, 8])) (l := slices_Index_int_l) Tryz.func199 (by kernel_rfl) (sg := [.one (.sc)]) (by kernel_rfl) slices_Index_int_s fun av k h => by
  unfold slices_Index_int at h; split at h
  · exact Eq.mpr (by kernel_rfl) h
  · exact h.elim

def slices_Contains_int : GM
 | [.one a0, .one a1], k => 
  call slices_Index_int [.one a0, .one a1] fun o0 =>
  binP .geq (atP o0 0) (I 0) fun r1 =>
  rt [.sc] [r1] k
 | _, _ => False
abbrev slices_Contains_int_e : Ent := ⟨[166], slices_Contains_int⟩
theorem slices_Contains_int_w : EntOK Tryz.prog TT slices_Contains_int_e := ent_ok tabok (L := [slices_Index_int_e]) ⟨slices_Index_int_w, trivial⟩ (keep := []) (l := []) Tryz.func166 (by kernel_rfl) (sg := [.one (.sc)]) (by kernel_rfl) trivial fun av k h => by
  unfold slices_Contains_int at h; split at h
  · exact Eq.mpr (by kernel_rfl) h
  · exact h.elim

def impl_ascending_r0 (v : List PV) (K : List PV → Prop) (x0k : Prop) (x1k : PV → PV → PV → PV → Prop) : Prop :=
 un 4 (fun v0 v1 v2 v3 =>
  binP .lss v3 v2 fun r0 =>
  iteP r0
   (binP .gtr v3 (I 0) fun r1 =>
   iteP r1
    (elemP 1 v0 v3 fun c2 =>
    binP .sub v3 (I 1) fun r3 =>
    elemP 1 v0 r3 fun c4 =>
    binP .leq (atP c2 0) (atP c4 0) fun r5 =>
    iteP r5
     (x0k)
     (binP .add v3 (I 1) fun r6 =>
     K [v0, v1, v2, r6]))
    (binP .add v3 (I 1) fun r7 =>
    K [v0, v1, v2, r7]))
   (x1k v0 v1 v2 v3)) v
def impl_ascending : GM
 | [.one a0], k => 
  lenP a0 fun r0 =>
  lp (fun L w => impl_ascending_r0 w L
   (rt [.sc] [(.bool false)] k)
   (fun q8 q9 q10 q11 => rt [.sc] [(.bool true)] k)) [a0, (.bool false), r0, (I 0)]
 | _, _ => False
abbrev impl_ascending_e : Ent := ⟨[200], impl_ascending⟩
def impl_ascending_l : List LE := [⟨0, ⟨[(0, .one (.pv (.bool false))), (2, .one (.pv (.bool false))), (5, .one (.pv (.bool false))), (6, .one (.pv (.bool false)))], [], [], 0, 24⟩, fun K k v => impl_ascending_r0 v K (k .ret ⟨[(2, .one (.kb false))], [], [], 0, 24⟩) (fun x0 x1 x2 x3 => k (.exit 0) ⟨[(0, .one (.pv x0)), (2, .one (.pv x1)), (5, .one (.pv x2)), (6, .one (.pv x3))], [], [], 0, 24⟩)⟩]
theorem impl_ascending_s : LEsOK (orac []) TT.nofl (kk [0, 2, 5, 6, 12, 13, 14, 15, 16, 17, 18, 19, 20, 21]) (sumsOf impl_ascending_l) Tryz.f200 impl_ascending_l := ⟨fun v K k h => by
  apply un_all h; exact fun v0 v1 v2 v3 h => Eq.mpr (by kernel_rfl) h
  , trivial⟩
theorem impl_ascending_w : EntOK Tryz.prog TT impl_ascending_e := ent_okF tabok (L := []) trivial (keep := (kk [0, 2, 5, 6, 12, 13, 14, 15, 16, 17, 18, 19, 20, 21])) (l := impl_ascending_l) Tryz.func200 (by kernel_rfl) (sg := [.one (.sc)]) (by kernel_rfl) impl_ascending_s fun av k h => by
  unfold impl_ascending at h; split at h
  · exact Eq.mpr (by kernel_rfl) h
  · exact h.elim

def impl_isKey : GM
 | [.one a0], k => 
  call impl_InRange [.one a0, .one (I 1), .one (I 99)] fun o0 =>
  rt [.sc] [(atP o0 0)] k
 | _, _ => False
abbrev impl_isKey_e : Ent := ⟨[201], impl_isKey⟩
theorem impl_isKey_w : EntOK Tryz.prog TT impl_isKey_e := ent_okF tabok (L := [impl_InRange_e]) ⟨impl_InRange_w, trivial⟩ (keep := []) (l := []) Tryz.func201 (by kernel_rfl) (sg := [.one (.sc)]) (by kernel_rfl) trivial fun av k h => by
  unfold impl_isKey at h; split at h
  · exact Eq.mpr (by kernel_rfl) h
  · exact h.elim

def impl_IsKeys : GM
 | [.agg u0], k => un 2 (fun a0 a1 => 
  lenP a0 fun r0 =>
  call impl_InRange [.one r0, .one (I 1), .one (I 4)] fun o1 =>
  iteP (atP o1 0)
   (call impl_ascending [.one a0] fun o2 =>
   iteP (atP o2 0)
    (elemP 1 a0 (I 0) fun c3 =>
    call impl_isKey [.one (atP c3 0)] fun o4 =>
    iteP (atP o4 0)
     (lenP a0 fun r5 =>
     binP .sub r5 (I 1) fun r6 =>
     elemP 1 a0 r6 fun c7 =>
     call impl_isKey [.one (atP c7 0)] fun o8 =>
     iteP (atP o8 0)
      (lenP a0 fun r9 =>
      call impl_InRange [.one a1, .one (I 1), .one r9] fun o10 =>
      rt [.sc] [(atP o10 0)] k)
      (rt [.sc] [(.bool false)] k))
     (rt [.sc] [(.bool false)] k))
    (rt [.sc] [(.bool false)] k))
   (rt [.sc] [(.bool false)] k)) u0
 | _, _ => False
abbrev impl_IsKeys_e : Ent := ⟨[167], impl_IsKeys⟩
theorem impl_IsKeys_w : EntOK Tryz.prog TT impl_IsKeys_e := ent_okF tabok (L := [impl_InRange_e, impl_ascending_e, impl_isKey_e]) ⟨impl_InRange_w, impl_ascending_w, impl_isKey_w, trivial⟩ (keep := []) (l := []) Tryz.func167 (by kernel_rfl) (sg := [.one (.sc)]) (by kernel_rfl) trivial fun av k h => by
  unfold impl_IsKeys at h; split at h
  · apply un_all h; clear h; intro a0 a1 h; exact Eq.mpr (by kernel_rfl) h
  · exact h.elim

def impl_CanSign_r0 (v : List PV) (K : List PV → Prop) (x0k : PV → PV → PV → PV → PV → PV → PV → PV → Prop) : Prop :=
 un 8 (fun v0 v1 v2 v3 v4 v5 v6 v7 =>
  binP .lss v5 v4 fun r0 =>
  iteP r0
   (elemP 1 v3 v5 fun c1 =>
   call slices_Contains_int [.one v0, .one (atP c1 0)] fun o2 =>
   iteP (atP o2 0)
    (binP .add v2 (I 1) fun r3 =>
    binP .add v5 (I 1) fun r4 =>
    K [v0, v1, r3, v3, v4, r4, v6, v7])
    (binP .add v5 (I 1) fun r5 =>
    K [v0, v1, v2, v3, v4, r5, v6, v7]))
   (x0k v0 v1 v2 v3 v4 v5 v6 v7)) v
def impl_CanSign : GM
 | [.agg u0, .one a2], k => un 2 (fun a0 a1 => 
  lenP a0 fun r0 =>
  lp (fun L w => impl_CanSign_r0 w L
   (fun q6 q7 q8 q9 q10 q11 q12 q13 => call impl_IsKeys [.agg [q12, q13]] fun o14 =>
    iteP (atP o14 0)
     (binP .geq q8 q13 fun r15 =>
     rt [.sc] [r15] k)
     (rt [.sc] [(.bool false)] k))) [a2, (.bool false), (I 0), a0, r0, (I 0), a0, a1]) u0
 | _, _ => False
abbrev impl_CanSign_e : Ent := ⟨[132], impl_CanSign⟩
def impl_CanSign_l : List LE := [⟨0, ⟨[(1, .one (.pv (.bool false))), (2, .one (.ptr 0 0)), (4, .one (.pv (.bool false))), (5, .one (.pv (.bool false))), (9, .one (.pv (.bool false))), (10, .one (.pv (.bool false))), (11, .one (.pv (.bool false)))], [(0, [.pv (.bool false), .pv (.bool false)])], [], 1, 29⟩, fun K k v => impl_CanSign_r0 v K (fun x0 x1 x2 x3 x4 x5 x6 x7 => k (.exit 0) ⟨[(1, .one (.pv x0)), (2, .one (.ptr 0 0)), (4, .one (.pv x1)), (5, .one (.pv x2)), (9, .one (.pv x3)), (10, .one (.pv x4)), (11, .one (.pv x5))], [(0, [.pv x6, .pv x7])], [], 1, 29⟩)⟩]
theorem impl_CanSign_s : LEsOK (orac [slices_Contains_int_e, impl_IsKeys_e]) TT.nofl (kk [1, 2, 4, 5, 9, 10, 11, 24, 25, 26, 27]) (sumsOf impl_CanSign_l) Tryz.f132 impl_CanSign_l := ⟨fun v K k h => by
  apply un_all h; exact fun v0 v1 v2 v3 v4 v5 v6 v7 h => Eq.mpr (by kernel_rfl) h
  , trivial⟩
theorem impl_CanSign_w : EntOK Tryz.prog TT impl_CanSign_e := ent_okF tabok (L := [slices_Contains_int_e, impl_IsKeys_e]) ⟨slices_Contains_int_w, impl_IsKeys_w, trivial⟩ (keep := (kk [1, 2, 4, 5, 9, 10, 11, 24, 25, 26, 27])) (l := impl_CanSign_l) Tryz.func132 (by kernel_rfl) (sg := [.one (.sc)]) (by kernel_rfl) impl_CanSign_s fun av k h => by
  unfold impl_CanSign at h; split at h
  · apply un_all h; clear h; intro a0 a1 h; exact Eq.mpr (by kernel_rfl) h
  · exact h.elim

def impl_CanSpeak : GM
 | [.one a0, .one a1, .agg u0, .one a18], k => un 16 (fun a2 a3 a4 a5 a6 a7 a8 a9 a10 a11 a12 a13 a14 a15 a16 a17 => 
  call impl_isActor [.one a0, .one a1] fun o0 =>
  iteP (atP o0 0)
   (call impl_signersFor [.agg [a2, a3, a4, a5, a6, a7, a8, a9, a10, a11, a12, a13, a14, a15, a16, a17], .one a18] fun o1 =>
   elemP 1 a0 a1 fun c2 =>
   call impl_CanSign [.agg [(atP o1 0), (atP o1 1)], .one (atP c2 0)] fun o3 =>
   rt [.sc] [(atP o3 0)] k)
   (rt [.sc] [(.bool false)] k)) u0
 | _, _ => False
abbrev impl_CanSpeak_e : Ent := ⟨[90], impl_CanSpeak⟩
theorem impl_CanSpeak_w : EntOK Tryz.prog TT impl_CanSpeak_e := ent_okF tabok (L := [impl_isActor_e, impl_signersFor_e, impl_CanSign_e]) ⟨impl_isActor_w, impl_signersFor_w, impl_CanSign_w, trivial⟩ (keep := []) (l := []) Tryz.func90 (by kernel_rfl) (sg := [.one (.sc)]) (by kernel_rfl) trivial fun av k h => by
  unfold impl_CanSpeak at h; split at h
  · apply un_all h; clear h; intro a2 a3 a4 a5 a6 a7 a8 a9 a10 a11 a12 a13 a14 a15 a16 a17 h; exact Eq.mpr (by kernel_rfl) h
  · exact h.elim

def impl_CanTurn : GM
 | [.agg u0, .one a8, .one a9], k => un 8 (fun a0 a1 a2 a3 a4 a5 a6 a7 => 
  call impl_World_hasZone [.agg [a0, a1, a2, a3, a4, a5, a6, a7], .one a9] fun o0 =>
  unP .not (atP o0 0) fun r1 =>
  iteP r1
   (rt [.sc] [(.bool false)] k)
   (elemP 2 a2 a9 fun c2 =>
   lenP (atP c2 0) fun r3 =>
   binP .eql r3 (I 0) fun r4 =>
   iteP r4
    (rt [.sc] [(.bool false)] k)
    (elemP 2 a2 a9 fun c5 =>
    call impl_last [.one (atP c5 0)] fun o6 =>
    unP .not (atP o6 15) fun r7 =>
    iteP r7
     (call impl_CanSpeak [.one a1, .one a8, .agg [(atP o6 0), (atP o6 1), (atP o6 2), (atP o6 3), (atP o6 4), (atP o6 5), (atP o6 6), (atP o6 7), (atP o6 8), (atP o6 9), (atP o6 10), (atP o6 11), (atP o6 12), (atP o6 13), (atP o6 14), (atP o6 15)], .one (I 1)] fun o8 =>
     rt [.sc] [(atP o8 0)] k)
     (rt [.sc] [(.bool false)] k)))) u0
 | _, _ => False
abbrev impl_CanTurn_e : Ent := ⟨[43], impl_CanTurn⟩
theorem impl_CanTurn_w : EntOK Tryz.prog TT impl_CanTurn_e := ent_okF tabok (L := [impl_World_hasZone_e, impl_last_e, impl_CanSpeak_e]) ⟨impl_World_hasZone_w, impl_last_w, impl_CanSpeak_w, trivial⟩ (keep := []) (l := []) Tryz.func43 (by kernel_rfl) (sg := [.one (.sc)]) (by kernel_rfl) trivial fun av k h => by
  unfold impl_CanTurn at h; split at h
  · apply un_all h; clear h; intro a0 a1 a2 a3 a4 a5 a6 a7 h; exact Eq.mpr (by kernel_rfl) h
  · exact h.elim

def impl_SpeakersOf_r0 (v : List PV) (K : List PV → Prop) (x0k : PV → PV → PV → PV → PV → PV → PV → PV → PV → PV → PV → PV → PV → Prop) : Prop :=
 un 13 (fun v0 v1 v2 v3 v4 v5 v6 v7 v8 v9 v10 v11 v12 =>
  binP .lss v2 v1 fun r0 =>
  iteP r0
   (call impl_CanTurn [.agg [v3, v4, v5, v6, v7, v8, v9, v10], .one v2, .one v0] fun o1 =>
   iteP (atP o1 0)
    ((1 = 1) ∧ (1 ≤ 16777216) ∧ (1 = 1) ∧ (0 = 0) ∧ (1 = 1) ∧ (flatCond [.pv (I 0)] [.pv v2]) ∧ catP 1 v12 (.list 1 [[v2]]) fun r2 =>
    binP .add v2 (I 1) fun r3 =>
    K [v0, v1, r3, v3, v4, v5, v6, v7, v8, v9, v10, v11, r2])
    (binP .add v2 (I 1) fun r4 =>
    K [v0, v1, r4, v3, v4, v5, v6, v7, v8, v9, v10, v11, v12]))
   (x0k v0 v1 v2 v3 v4 v5 v6 v7 v8 v9 v10 v11 v12)) v
def impl_SpeakersOf : GM
 | [.agg u0, .one a8], k => un 8 (fun a0 a1 a2 a3 a4 a5 a6 a7 => 
  (0 = 0) ∧ (0 ≤ 16777216) ∧ (1 = 1) ∧ lenP a1 fun r0 =>
  lp (fun L w => impl_SpeakersOf_r0 w L
   (fun q5 q6 q7 q8 q9 q10 q11 q12 q13 q14 q15 q16 q17 => rt [.own true 3 1] [q17] k)) [a8, r0, (I 0), a0, a1, a2, a3, a4, a5, a6, a7, (.list 1 []), (.list 1 [])]) u0
 | _, _ => False
abbrev impl_SpeakersOf_e : Ent := ⟨[9], impl_SpeakersOf⟩
def impl_SpeakersOf_l : List LE := [⟨0, ⟨[(1, .one (.pv (.bool false))), (2, .one (.ptr 0 0)), (4, .one (.own 2)), (5, .one (.own 1)), (10, .one (.pv (.bool false))), (11, .one (.pv (.bool false)))], [(0, [.pv (.bool false), .pv (.bool false), .pv (.bool false), .pv (.bool false), .pv (.bool false), .pv (.bool false), .pv (.bool false), .pv (.bool false)])], [(2, ⟨.deep, 3, 1, (.bool false)⟩), (1, ⟨.deep, 3, 1, (.bool false)⟩)], 3, 24⟩, fun K k v => impl_SpeakersOf_r0 v K (fun x0 x1 x2 x3 x4 x5 x6 x7 x8 x9 x10 x11 x12 => k (.exit 0) ⟨[(1, .one (.pv x0)), (2, .one (.ptr 0 0)), (4, .one (.own 2)), (5, .one (.own 1)), (10, .one (.pv x1)), (11, .one (.pv x2))], [(0, [.pv x3, .pv x4, .pv x5, .pv x6, .pv x7, .pv x8, .pv x9, .pv x10])], [(2, ⟨.deep, 3, 1, x11⟩), (1, ⟨.deep, 3, 1, x12⟩)], 3, 24⟩)⟩]
theorem impl_SpeakersOf_s : LEsOK (orac [impl_CanTurn_e]) TT.nofl (kk [1, 2, 4, 5, 10, 11]) (sumsOf impl_SpeakersOf_l) Tryz.f9 impl_SpeakersOf_l := ⟨fun v K k h => by
  apply un_all h; exact fun v0 v1 v2 v3 v4 v5 v6 v7 v8 v9 v10 v11 v12 h => Eq.mpr (by kernel_rfl) h
  , trivial⟩
theorem impl_SpeakersOf_w : EntOK Tryz.prog TT impl_SpeakersOf_e := ent_okF tabok (L := [impl_CanTurn_e]) ⟨impl_CanTurn_w, trivial⟩ (keep := (kk [1, 2, 4, 5, 10, 11])) (l := impl_SpeakersOf_l) Tryz.func9 (by kernel_rfl) (sg := [.one (.own true 3 1)]) (by kernel_rfl) impl_SpeakersOf_s fun av k h => by
  unfold impl_SpeakersOf at h; split at h
  · apply un_all h; clear h; intro a0 a1 a2 a3 a4 a5 a6 a7 h; exact Eq.mpr (by kernel_rfl) h
  · exact h.elim

def laws_eqIntS_r0 (v : List PV) (K : List PV → Prop) (x0k : Prop) (x1k : PV → PV → PV → PV → Prop) : Prop :=
 un 4 (fun v0 v1 v2 v3 =>
  lenP v0 fun r0 =>
  binP .lss v3 r0 fun r1 =>
  iteP r1
   (elemP 1 v0 v3 fun c2 =>
   elemP 1 v1 v3 fun c3 =>
   binP .neq (atP c2 0) (atP c3 0) fun r4 =>
   iteP r4
    (x0k)
    (binP .add v3 (I 1) fun r5 =>
    K [v0, v1, v2, r5]))
   (x1k v0 v1 v2 v3)) v
def laws_eqIntS : GM
 | [.one a0, .one a1], k => 
  lenP a0 fun r0 =>
  lenP a1 fun r1 =>
  binP .neq r0 r1 fun r2 =>
  iteP r2
   (rt [.sc] [(.bool false)] k)
   (lp (fun L w => laws_eqIntS_r0 w L
    (rt [.sc] [(.bool false)] k)
    (fun q6 q7 q8 q9 => rt [.sc] [(.bool true)] k)) [a0, a1, (.bool false), (I 0)])
 | _, _ => False
abbrev laws_eqIntS_e : Ent := ⟨[10], laws_eqIntS⟩
def laws_eqIntS_l : List LE := [⟨0, ⟨[(0, .one (.pv (.bool false))), (1, .one (.pv (.bool false))), (4, .one (.pv (.bool false))), (5, .one (.pv (.bool false)))], [], [], 0, 26⟩, fun K k v => laws_eqIntS_r0 v K (k .ret ⟨[(4, .one (.kb false))], [], [], 0, 26⟩) (fun x0 x1 x2 x3 => k (.exit 0) ⟨[(0, .one (.pv x0)), (1, .one (.pv x1)), (4, .one (.pv x2)), (5, .one (.pv x3))], [], [], 0, 26⟩)⟩]
theorem laws_eqIntS_s : LEsOK (orac []) TT (kk [0, 1, 4, 5]) (sumsOf laws_eqIntS_l) Tryz.f10 laws_eqIntS_l := ⟨fun v K k h => by
  apply un_all h; exact fun v0 v1 v2 v3 h => Eq.mpr (by kernel_rfl) h
  , trivial⟩
theorem laws_eqIntS_w : EntOK Tryz.prog TT laws_eqIntS_e := ent_ok tabok (L := []) trivial (keep := (kk [0, 1, 4, 5])) (l := laws_eqIntS_l) Tryz.func10 (by kernel_rfl) (sg := [.one (.sc)]) (by kernel_rfl) laws_eqIntS_s fun av k h => by
  unfold laws_eqIntS at h; split at h
  · exact Eq.mpr (by kernel_rfl) h
  · exact h.elim

def laws_eqActor : GM
 | [.agg u0, .agg u1], k => un 1 (fun a0 => un 1 (fun a1 => 
  call laws_eqIntS [.one a0, .one a1] fun o0 =>
  unP .not (atP o0 0) fun r1 =>
  iteP r1
   (rt [.sc] [(.bool false)] k)
   (rt [.sc] [(.bool true)] k)) u1) u0
 | _, _ => False
abbrev laws_eqActor_e : Ent := ⟨[91], laws_eqActor⟩
theorem laws_eqActor_w : EntOK Tryz.prog TT laws_eqActor_e := ent_ok tabok (L := [laws_eqIntS_e]) ⟨laws_eqIntS_w, trivial⟩ (keep := []) (l := []) Tryz.func91 (by kernel_rfl) (sg := [.one (.sc)]) (by kernel_rfl) trivial fun av k h => by
  unfold laws_eqActor at h; split at h
  · apply un_all h; clear h; intro a0 h; apply un_all h; clear h; intro a1 h; exact Eq.mpr (by kernel_rfl) h
  · exact h.elim

def laws_eqActorS_r0 (v : List PV) (K : List PV → Prop) (x0k : Prop) (x1k : PV → PV → PV → PV → Prop) : Prop :=
 un 4 (fun v0 v1 v2 v3 =>
  lenP v0 fun r0 =>
  binP .lss v3 r0 fun r1 =>
  iteP r1
   (elemP 1 v0 v3 fun c2 =>
   elemP 1 v1 v3 fun c3 =>
   call laws_eqActor [.agg [(atP c2 0)], .agg [(atP c3 0)]] fun o4 =>
   unP .not (atP o4 0) fun r5 =>
   iteP r5
    (x0k)
    (binP .add v3 (I 1) fun r6 =>
    K [v0, v1, v2, r6]))
   (x1k v0 v1 v2 v3)) v
def laws_eqActorS : GM
 | [.one a0, .one a1], k => 
  lenP a0 fun r0 =>
  lenP a1 fun r1 =>
  binP .neq r0 r1 fun r2 =>
  iteP r2
   (rt [.sc] [(.bool false)] k)
   (lp (fun L w => laws_eqActorS_r0 w L
    (rt [.sc] [(.bool false)] k)
    (fun q7 q8 q9 q10 => rt [.sc] [(.bool true)] k)) [a0, a1, (.bool false), (I 0)])
 | _, _ => False
abbrev laws_eqActorS_e : Ent := ⟨[44], laws_eqActorS⟩
def laws_eqActorS_l : List LE := [⟨0, ⟨[(0, .one (.pv (.bool false))), (1, .one (.pv (.bool false))), (4, .one (.pv (.bool false))), (5, .one (.pv (.bool false)))], [], [], 0, 27⟩, fun K k v => laws_eqActorS_r0 v K (k .ret ⟨[(4, .one (.kb false))], [], [], 1, 27⟩) (fun x0 x1 x2 x3 => k (.exit 0) ⟨[(0, .one (.pv x0)), (1, .one (.pv x1)), (4, .one (.pv x2)), (5, .one (.pv x3))], [], [], 0, 27⟩)⟩]
theorem laws_eqActorS_s : LEsOK (orac [laws_eqActor_e]) TT (kk [0, 1, 4, 5]) (sumsOf laws_eqActorS_l) Tryz.f44 laws_eqActorS_l := ⟨fun v K k h => by
  apply un_all h; exact fun v0 v1 v2 v3 h => Eq.mpr (by kernel_rfl) h
  , trivial⟩
theorem laws_eqActorS_w : EntOK Tryz.prog TT laws_eqActorS_e := ent_ok tabok (L := [laws_eqActor_e]) ⟨laws_eqActor_w, trivial⟩ (keep := (kk [0, 1, 4, 5])) (l := laws_eqActorS_l) Tryz.func44 (by kernel_rfl) (sg := [.one (.sc)]) (by kernel_rfl) laws_eqActorS_s fun av k h => by
  unfold laws_eqActorS at h; split at h
  · exact Eq.mpr (by kernel_rfl) h
  · exact h.elim

def laws_eqKeys : GM
 | [.agg u0, .agg u1], k => un 2 (fun a0 a1 => un 2 (fun a2 a3 => 
  call laws_eqIntS [.one a0, .one a2] fun o0 =>
  unP .not (atP o0 0) fun r1 =>
  iteP r1
   (rt [.sc] [(.bool false)] k)
   (binP .neq a1 a3 fun r2 =>
   iteP r2
    (rt [.sc] [(.bool false)] k)
    (rt [.sc] [(.bool true)] k))) u1) u0
 | _, _ => False
abbrev laws_eqKeys_e : Ent := ⟨[173], laws_eqKeys⟩
theorem laws_eqKeys_w : EntOK Tryz.prog TT laws_eqKeys_e := ent_ok tabok (L := [laws_eqIntS_e]) ⟨laws_eqIntS_w, trivial⟩ (keep := []) (l := []) Tryz.func173 (by kernel_rfl) (sg := [.one (.sc)]) (by kernel_rfl) trivial fun av k h => by
  unfold laws_eqKeys at h; split at h
  · apply un_all h; clear h; intro a0 a1 h; apply un_all h; clear h; intro a2 a3 h; exact Eq.mpr (by kernel_rfl) h
  · exact h.elim

def laws_eqHead : GM
 | [.agg u0, .agg u1], k => un 16 (fun a0 a1 a2 a3 a4 a5 a6 a7 a8 a9 a10 a11 a12 a13 a14 a15 => un 16 (fun a16 a17 a18 a19 a20 a21 a22 a23 a24 a25 a26 a27 a28 a29 a30 a31 => 
  binP .neq a0 a16 fun r0 =>
  iteP r0
   (rt [.sc] [(.bool false)] k)
   (binP .neq a1 a17 fun r1 =>
   iteP r1
    (rt [.sc] [(.bool false)] k)
    (binP .neq a2 a18 fun r2 =>
    iteP r2
     (rt [.sc] [(.bool false)] k)
     (binP .neq a3 a19 fun r3 =>
     iteP r3
      (rt [.sc] [(.bool false)] k)
      (binP .neq a4 a20 fun r4 =>
      iteP r4
       (rt [.sc] [(.bool false)] k)
       (binP .neq a5 a21 fun r5 =>
       iteP r5
        (rt [.sc] [(.bool false)] k)
        (binP .neq a6 a22 fun r6 =>
        iteP r6
         (rt [.sc] [(.bool false)] k)
         (binP .neq a7 a23 fun r7 =>
         iteP r7
          (rt [.sc] [(.bool false)] k)
          (call laws_eqKeys [.agg [a8, a9], .agg [a24, a25]] fun o8 =>
          unP .not (atP o8 0) fun r9 =>
          iteP r9
           (rt [.sc] [(.bool false)] k)
           (call laws_eqKeys [.agg [a10, a11], .agg [a26, a27]] fun o10 =>
           unP .not (atP o10 0) fun r11 =>
           iteP r11
            (rt [.sc] [(.bool false)] k)
            (binP .neq a12 a28 fun r12 =>
            iteP r12
             (rt [.sc] [(.bool false)] k)
             (call laws_eqKeys [.agg [a13, a14], .agg [a29, a30]] fun o13 =>
             unP .not (atP o13 0) fun r14 =>
             iteP r14
              (rt [.sc] [(.bool false)] k)
              (boolP .neq a15 a31 fun r15 =>
              iteP r15
               (rt [.sc] [(.bool false)] k)
               (rt [.sc] [(.bool true)] k)))))))))))))) u1) u0
 | _, _ => False
abbrev laws_eqHead_e : Ent := ⟨[140], laws_eqHead⟩
theorem laws_eqHead_w : EntOK Tryz.prog TT laws_eqHead_e := ent_ok tabok (L := [laws_eqKeys_e]) ⟨laws_eqKeys_w, trivial⟩ (keep := []) (l := []) Tryz.func140 (by kernel_rfl) (sg := [.one (.sc)]) (by kernel_rfl) trivial fun av k h => by
  unfold laws_eqHead at h; split at h
  · apply un_all h; clear h; intro a0 a1 a2 a3 a4 a5 a6 a7 a8 a9 a10 a11 a12 a13 a14 a15 h; apply un_all h; clear h; intro a16 a17 a18 a19 a20 a21 a22 a23 a24 a25 a26 a27 a28 a29 a30 a31 h; exact Eq.mpr (by kernel_rfl) h
  · exact h.elim

def laws_eqSig : GM
 | [.agg u0, .agg u1], k => un 2 (fun a0 a1 => un 2 (fun a2 a3 => 
  binP .neq a0 a2 fun r0 =>
  iteP r0
   (rt [.sc] [(.bool false)] k)
   (binP .neq a1 a3 fun r1 =>
   iteP r1
    (rt [.sc] [(.bool false)] k)
    (rt [.sc] [(.bool true)] k))) u1) u0
 | _, _ => False
abbrev laws_eqSig_e : Ent := ⟨[174], laws_eqSig⟩
theorem laws_eqSig_w : EntOK Tryz.prog TT laws_eqSig_e := ent_ok tabok (L := []) trivial (keep := []) (l := []) Tryz.func174 (by kernel_rfl) (sg := [.one (.sc)]) (by kernel_rfl) trivial fun av k h => by
  unfold laws_eqSig at h; split at h
  · apply un_all h; clear h; intro a0 a1 h; apply un_all h; clear h; intro a2 a3 h; exact Eq.mpr (by kernel_rfl) h
  · exact h.elim

def laws_eqSigS_r0 (v : List PV) (K : List PV → Prop) (x0k : Prop) (x1k : PV → PV → PV → PV → Prop) : Prop :=
 un 4 (fun v0 v1 v2 v3 =>
  lenP v0 fun r0 =>
  binP .lss v3 r0 fun r1 =>
  iteP r1
   (elemP 2 v0 v3 fun c2 =>
   elemP 2 v1 v3 fun c3 =>
   call laws_eqSig [.agg [(atP c2 0), (atP c2 1)], .agg [(atP c3 0), (atP c3 1)]] fun o4 =>
   unP .not (atP o4 0) fun r5 =>
   iteP r5
    (x0k)
    (binP .add v3 (I 1) fun r6 =>
    K [v0, v1, v2, r6]))
   (x1k v0 v1 v2 v3)) v
def laws_eqSigS : GM
 | [.one a0, .one a1], k => 
  lenP a0 fun r0 =>
  lenP a1 fun r1 =>
  binP .neq r0 r1 fun r2 =>
  iteP r2
   (rt [.sc] [(.bool false)] k)
   (lp (fun L w => laws_eqSigS_r0 w L
    (rt [.sc] [(.bool false)] k)
    (fun q7 q8 q9 q10 => rt [.sc] [(.bool true)] k)) [a0, a1, (.bool false), (I 0)])
 | _, _ => False
abbrev laws_eqSigS_e : Ent := ⟨[141], laws_eqSigS⟩
def laws_eqSigS_l : List LE := [⟨0, ⟨[(0, .one (.pv (.bool false))), (1, .one (.pv (.bool false))), (4, .one (.pv (.bool false))), (5, .one (.pv (.bool false)))], [], [], 0, 27⟩, fun K k v => laws_eqSigS_r0 v K (k .ret ⟨[(4, .one (.kb false))], [], [], 1, 27⟩) (fun x0 x1 x2 x3 => k (.exit 0) ⟨[(0, .one (.pv x0)), (1, .one (.pv x1)), (4, .one (.pv x2)), (5, .one (.pv x3))], [], [], 0, 27⟩)⟩]
theorem laws_eqSigS_s : LEsOK (orac [laws_eqSig_e]) TT (kk [0, 1, 4, 5]) (sumsOf laws_eqSigS_l) Tryz.f141 laws_eqSigS_l := ⟨fun v K k h => by
  apply un_all h; exact fun v0 v1 v2 v3 h => Eq.mpr (by kernel_rfl) h
  , trivial⟩
theorem laws_eqSigS_w : EntOK Tryz.prog TT laws_eqSigS_e := ent_ok tabok (L := [laws_eqSig_e]) ⟨laws_eqSig_w, trivial⟩ (keep := (kk [0, 1, 4, 5])) (l := laws_eqSigS_l) Tryz.func141 (by kernel_rfl) (sg := [.one (.sc)]) (by kernel_rfl) laws_eqSigS_s fun av k h => by
  unfold laws_eqSigS at h; split at h
  · exact Eq.mpr (by kernel_rfl) h
  · exact h.elim

def laws_eqSigned : GM
 | [.agg u0, .agg u1], k => un 17 (fun a0 a1 a2 a3 a4 a5 a6 a7 a8 a9 a10 a11 a12 a13 a14 a15 a16 => un 17 (fun a17 a18 a19 a20 a21 a22 a23 a24 a25 a26 a27 a28 a29 a30 a31 a32 a33 => 
  call laws_eqHead [.agg [a0, a1, a2, a3, a4, a5, a6, a7, a8, a9, a10, a11, a12, a13, a14, a15], .agg [a17, a18, a19, a20, a21, a22, a23, a24, a25, a26, a27, a28, a29, a30, a31, a32]] fun o0 =>
  unP .not (atP o0 0) fun r1 =>
  iteP r1
   (rt [.sc] [(.bool false)] k)
   (call laws_eqSigS [.one a16, .one a33] fun o2 =>
   unP .not (atP o2 0) fun r3 =>
   iteP r3
    (rt [.sc] [(.bool false)] k)
    (rt [.sc] [(.bool true)] k))) u1) u0
 | _, _ => False
abbrev laws_eqSigned_e : Ent := ⟨[104], laws_eqSigned⟩
theorem laws_eqSigned_w : EntOK Tryz.prog TT laws_eqSigned_e := ent_ok tabok (L := [laws_eqHead_e, laws_eqSigS_e]) ⟨laws_eqHead_w, laws_eqSigS_w, trivial⟩ (keep := []) (l := []) Tryz.func104 (by kernel_rfl) (sg := [.one (.sc)]) (by kernel_rfl) trivial fun av k h => by
  unfold laws_eqSigned at h; split at h
  · apply un_all h; clear h; intro a0 a1 a2 a3 a4 a5 a6 a7 a8 a9 a10 a11 a12 a13 a14 a15 a16 h; apply un_all h; clear h; intro a17 a18 a19 a20 a21 a22 a23 a24 a25 a26 a27 a28 a29 a30 a31 a32 a33 h; exact Eq.mpr (by kernel_rfl) h
  · exact h.elim

def laws_eqSignedS_r0 (v : List PV) (K : List PV → Prop) (x0k : Prop) (x1k : PV → PV → PV → PV → Prop) : Prop :=
 un 4 (fun v0 v1 v2 v3 =>
  lenP v0 fun r0 =>
  binP .lss v3 r0 fun r1 =>
  iteP r1
   (elemP 17 v0 v3 fun c2 =>
   elemP 17 v1 v3 fun c3 =>
   call laws_eqSigned [.agg [(atP c2 0), (atP c2 1), (atP c2 2), (atP c2 3), (atP c2 4), (atP c2 5), (atP c2 6), (atP c2 7), (atP c2 8), (atP c2 9), (atP c2 10), (atP c2 11), (atP c2 12), (atP c2 13), (atP c2 14), (atP c2 15), (atP c2 16)], .agg [(atP c3 0), (atP c3 1), (atP c3 2), (atP c3 3), (atP c3 4), (atP c3 5), (atP c3 6), (atP c3 7), (atP c3 8), (atP c3 9), (atP c3 10), (atP c3 11), (atP c3 12), (atP c3 13), (atP c3 14), (atP c3 15), (atP c3 16)]] fun o4 =>
   unP .not (atP o4 0) fun r5 =>
   iteP r5
    (x0k)
    (binP .add v3 (I 1) fun r6 =>
    K [v0, v1, v2, r6]))
   (x1k v0 v1 v2 v3)) v
def laws_eqSignedS : GM
 | [.one a0, .one a1], k => 
  lenP a0 fun r0 =>
  lenP a1 fun r1 =>
  binP .neq r0 r1 fun r2 =>
  iteP r2
   (rt [.sc] [(.bool false)] k)
   (lp (fun L w => laws_eqSignedS_r0 w L
    (rt [.sc] [(.bool false)] k)
    (fun q7 q8 q9 q10 => rt [.sc] [(.bool true)] k)) [a0, a1, (.bool false), (I 0)])
 | _, _ => False
abbrev laws_eqSignedS_e : Ent := ⟨[60], laws_eqSignedS⟩
def laws_eqSignedS_l : List LE := [⟨0, ⟨[(0, .one (.pv (.bool false))), (1, .one (.pv (.bool false))), (4, .one (.pv (.bool false))), (5, .one (.pv (.bool false)))], [], [], 0, 27⟩, fun K k v => laws_eqSignedS_r0 v K (k .ret ⟨[(4, .one (.kb false))], [], [], 1, 27⟩) (fun x0 x1 x2 x3 => k (.exit 0) ⟨[(0, .one (.pv x0)), (1, .one (.pv x1)), (4, .one (.pv x2)), (5, .one (.pv x3))], [], [], 0, 27⟩)⟩]
theorem laws_eqSignedS_s : LEsOK (orac [laws_eqSigned_e]) TT (kk [0, 1, 4, 5]) (sumsOf laws_eqSignedS_l) Tryz.f60 laws_eqSignedS_l := ⟨fun v K k h => by
  apply un_all h; exact fun v0 v1 v2 v3 h => Eq.mpr (by kernel_rfl) h
  , trivial⟩
theorem laws_eqSignedS_w : EntOK Tryz.prog TT laws_eqSignedS_e := ent_ok tabok (L := [laws_eqSigned_e]) ⟨laws_eqSigned_w, trivial⟩ (keep := (kk [0, 1, 4, 5])) (l := laws_eqSignedS_l) Tryz.func60 (by kernel_rfl) (sg := [.one (.sc)]) (by kernel_rfl) laws_eqSignedS_s fun av k h => by
  unfold laws_eqSignedS at h; split at h
  · exact Eq.mpr (by kernel_rfl) h
  · exact h.elim

def laws_eqStringS_r0 (v : List PV) (K : List PV → Prop) (x0k : Prop) (x1k : PV → PV → PV → PV → Prop) : Prop :=
 un 4 (fun v0 v1 v2 v3 =>
  lenP v0 fun r0 =>
  binP .lss v3 r0 fun r1 =>
  iteP r1
   (elemP 1 v0 v3 fun c2 =>
   elemP 1 v1 v3 fun c3 =>
   binP .neq (atP c2 0) (atP c3 0) fun r4 =>
   iteP r4
    (x0k)
    (binP .add v3 (I 1) fun r5 =>
    K [v0, v1, v2, r5]))
   (x1k v0 v1 v2 v3)) v
def laws_eqStringS : GM
 | [.one a0, .one a1], k => 
  lenP a0 fun r0 =>
  lenP a1 fun r1 =>
  binP .neq r0 r1 fun r2 =>
  iteP r2
   (rt [.sc] [(.bool false)] k)
   (lp (fun L w => laws_eqStringS_r0 w L
    (rt [.sc] [(.bool false)] k)
    (fun q6 q7 q8 q9 => rt [.sc] [(.bool true)] k)) [a0, a1, (.bool false), (I 0)])
 | _, _ => False
abbrev laws_eqStringS_e : Ent := ⟨[142], laws_eqStringS⟩
def laws_eqStringS_l : List LE := [⟨0, ⟨[(0, .one (.pv (.bool false))), (1, .one (.pv (.bool false))), (4, .one (.pv (.bool false))), (5, .one (.pv (.bool false)))], [], [], 0, 26⟩, fun K k v => laws_eqStringS_r0 v K (k .ret ⟨[(4, .one (.kb false))], [], [], 0, 26⟩) (fun x0 x1 x2 x3 => k (.exit 0) ⟨[(0, .one (.pv x0)), (1, .one (.pv x1)), (4, .one (.pv x2)), (5, .one (.pv x3))], [], [], 0, 26⟩)⟩]
theorem laws_eqStringS_s : LEsOK (orac []) TT (kk [0, 1, 4, 5]) (sumsOf laws_eqStringS_l) Tryz.f142 laws_eqStringS_l := ⟨fun v K k h => by
  apply un_all h; exact fun v0 v1 v2 v3 h => Eq.mpr (by kernel_rfl) h
  , trivial⟩
theorem laws_eqStringS_w : EntOK Tryz.prog TT laws_eqStringS_e := ent_ok tabok (L := []) trivial (keep := (kk [0, 1, 4, 5])) (l := laws_eqStringS_l) Tryz.func142 (by kernel_rfl) (sg := [.one (.sc)]) (by kernel_rfl) laws_eqStringS_s fun av k h => by
  unfold laws_eqStringS at h; split at h
  · exact Eq.mpr (by kernel_rfl) h
  · exact h.elim

def laws_eqEntry : GM
 | [.agg u0, .agg u1], k => un 4 (fun a0 a1 a2 a3 => un 4 (fun a4 a5 a6 a7 => 
  binP .neq a0 a4 fun r0 =>
  iteP r0
   (rt [.sc] [(.bool false)] k)
   (binP .neq a1 a5 fun r1 =>
   iteP r1
    (rt [.sc] [(.bool false)] k)
    (binP .neq a2 a6 fun r2 =>
    iteP r2
     (rt [.sc] [(.bool false)] k)
     (call laws_eqStringS [.one a3, .one a7] fun o3 =>
     unP .not (atP o3 0) fun r4 =>
     iteP r4
      (rt [.sc] [(.bool false)] k)
      (rt [.sc] [(.bool true)] k))))) u1) u0
 | _, _ => False
abbrev laws_eqEntry_e : Ent := ⟨[105], laws_eqEntry⟩
theorem laws_eqEntry_w : EntOK Tryz.prog TT laws_eqEntry_e := ent_ok tabok (L := [laws_eqStringS_e]) ⟨laws_eqStringS_w, trivial⟩ (keep := []) (l := []) Tryz.func105 (by kernel_rfl) (sg := [.one (.sc)]) (by kernel_rfl) trivial fun av k h => by
  unfold laws_eqEntry at h; split at h
  · apply un_all h; clear h; intro a0 a1 a2 a3 h; apply un_all h; clear h; intro a4 a5 a6 a7 h; exact Eq.mpr (by kernel_rfl) h
  · exact h.elim

def laws_eqEntryS_r0 (v : List PV) (K : List PV → Prop) (x0k : Prop) (x1k : PV → PV → PV → PV → Prop) : Prop :=
 un 4 (fun v0 v1 v2 v3 =>
  lenP v0 fun r0 =>
  binP .lss v3 r0 fun r1 =>
  iteP r1
   (elemP 4 v0 v3 fun c2 =>
   elemP 4 v1 v3 fun c3 =>
   call laws_eqEntry [.agg [(atP c2 0), (atP c2 1), (atP c2 2), (atP c2 3)], .agg [(atP c3 0), (atP c3 1), (atP c3 2), (atP c3 3)]] fun o4 =>
   unP .not (atP o4 0) fun r5 =>
   iteP r5
    (x0k)
    (binP .add v3 (I 1) fun r6 =>
    K [v0, v1, v2, r6]))
   (x1k v0 v1 v2 v3)) v
def laws_eqEntryS : GM
 | [.one a0, .one a1], k => 
  lenP a0 fun r0 =>
  lenP a1 fun r1 =>
  binP .neq r0 r1 fun r2 =>
  iteP r2
   (rt [.sc] [(.bool false)] k)
   (lp (fun L w => laws_eqEntryS_r0 w L
    (rt [.sc] [(.bool false)] k)
    (fun q7 q8 q9 q10 => rt [.sc] [(.bool true)] k)) [a0, a1, (.bool false), (I 0)])
 | _, _ => False
abbrev laws_eqEntryS_e : Ent := ⟨[61], laws_eqEntryS⟩
def laws_eqEntryS_l : List LE := [⟨0, ⟨[(0, .one (.pv (.bool false))), (1, .one (.pv (.bool false))), (4, .one (.pv (.bool false))), (5, .one (.pv (.bool false)))], [], [], 0, 27⟩, fun K k v => laws_eqEntryS_r0 v K (k .ret ⟨[(4, .one (.kb false))], [], [], 1, 27⟩) (fun x0 x1 x2 x3 => k (.exit 0) ⟨[(0, .one (.pv x0)), (1, .one (.pv x1)), (4, .one (.pv x2)), (5, .one (.pv x3))], [], [], 0, 27⟩)⟩]
theorem laws_eqEntryS_s : LEsOK (orac [laws_eqEntry_e]) TT (kk [0, 1, 4, 5]) (sumsOf laws_eqEntryS_l) Tryz.f61 laws_eqEntryS_l := ⟨fun v K k h => by
  apply un_all h; exact fun v0 v1 v2 v3 h => Eq.mpr (by kernel_rfl) h
  , trivial⟩
theorem laws_eqEntryS_w : EntOK Tryz.prog TT laws_eqEntryS_e := ent_ok tabok (L := [laws_eqEntry_e]) ⟨laws_eqEntry_w, trivial⟩ (keep := (kk [0, 1, 4, 5])) (l := laws_eqEntryS_l) Tryz.func61 (by kernel_rfl) (sg := [.one (.sc)]) (by kernel_rfl) laws_eqEntryS_s fun av k h => by
  unfold laws_eqEntryS at h; split at h
  · exact Eq.mpr (by kernel_rfl) h
  · exact h.elim

def laws_eqZone : GM
 | [.agg u0, .agg u1], k => un 2 (fun a0 a1 => un 2 (fun a2 a3 => 
  call laws_eqSignedS [.one a0, .one a2] fun o0 =>
  unP .not (atP o0 0) fun r1 =>
  iteP r1
   (rt [.sc] [(.bool false)] k)
   (call laws_eqEntryS [.one a1, .one a3] fun o2 =>
   unP .not (atP o2 0) fun r3 =>
   iteP r3
    (rt [.sc] [(.bool false)] k)
    (rt [.sc] [(.bool true)] k))) u1) u0
 | _, _ => False
abbrev laws_eqZone_e : Ent := ⟨[17], laws_eqZone⟩
theorem laws_eqZone_w : EntOK Tryz.prog TT laws_eqZone_e := ent_ok tabok (L := [laws_eqSignedS_e, laws_eqEntryS_e]) ⟨laws_eqSignedS_w, laws_eqEntryS_w, trivial⟩ (keep := []) (l := []) Tryz.func17 (by kernel_rfl) (sg := [.one (.sc)]) (by kernel_rfl) trivial fun av k h => by
  unfold laws_eqZone at h; split at h
  · apply un_all h; clear h; intro a0 a1 h; apply un_all h; clear h; intro a2 a3 h; exact Eq.mpr (by kernel_rfl) h
  · exact h.elim

def laws_eqZoneS_r0 (v : List PV) (K : List PV → Prop) (x0k : Prop) (x1k : PV → PV → PV → PV → Prop) : Prop :=
 un 4 (fun v0 v1 v2 v3 =>
  lenP v0 fun r0 =>
  binP .lss v3 r0 fun r1 =>
  iteP r1
   (elemP 2 v0 v3 fun c2 =>
   elemP 2 v1 v3 fun c3 =>
   call laws_eqZone [.agg [(atP c2 0), (atP c2 1)], .agg [(atP c3 0), (atP c3 1)]] fun o4 =>
   unP .not (atP o4 0) fun r5 =>
   iteP r5
    (x0k)
    (binP .add v3 (I 1) fun r6 =>
    K [v0, v1, v2, r6]))
   (x1k v0 v1 v2 v3)) v
def laws_eqZoneS : GM
 | [.one a0, .one a1], k => 
  lenP a0 fun r0 =>
  lenP a1 fun r1 =>
  binP .neq r0 r1 fun r2 =>
  iteP r2
   (rt [.sc] [(.bool false)] k)
   (lp (fun L w => laws_eqZoneS_r0 w L
    (rt [.sc] [(.bool false)] k)
    (fun q7 q8 q9 q10 => rt [.sc] [(.bool true)] k)) [a0, a1, (.bool false), (I 0)])
 | _, _ => False
abbrev laws_eqZoneS_e : Ent := ⟨[45], laws_eqZoneS⟩
def laws_eqZoneS_l : List LE := [⟨0, ⟨[(0, .one (.pv (.bool false))), (1, .one (.pv (.bool false))), (4, .one (.pv (.bool false))), (5, .one (.pv (.bool false)))], [], [], 0, 27⟩, fun K k v => laws_eqZoneS_r0 v K (k .ret ⟨[(4, .one (.kb false))], [], [], 1, 27⟩) (fun x0 x1 x2 x3 => k (.exit 0) ⟨[(0, .one (.pv x0)), (1, .one (.pv x1)), (4, .one (.pv x2)), (5, .one (.pv x3))], [], [], 0, 27⟩)⟩]
theorem laws_eqZoneS_s : LEsOK (orac [laws_eqZone_e]) TT (kk [0, 1, 4, 5]) (sumsOf laws_eqZoneS_l) Tryz.f45 laws_eqZoneS_l := ⟨fun v K k h => by
  apply un_all h; exact fun v0 v1 v2 v3 h => Eq.mpr (by kernel_rfl) h
  , trivial⟩
theorem laws_eqZoneS_w : EntOK Tryz.prog TT laws_eqZoneS_e := ent_ok tabok (L := [laws_eqZone_e]) ⟨laws_eqZone_w, trivial⟩ (keep := (kk [0, 1, 4, 5])) (l := laws_eqZoneS_l) Tryz.func45 (by kernel_rfl) (sg := [.one (.sc)]) (by kernel_rfl) laws_eqZoneS_s fun av k h => by
  unfold laws_eqZoneS at h; split at h
  · exact Eq.mpr (by kernel_rfl) h
  · exact h.elim

def laws_eqSaid : GM
 | [.agg u0, .agg u1], k => un 3 (fun a0 a1 a2 => un 3 (fun a3 a4 a5 => 
  call laws_eqZone [.agg [a0, a1], .agg [a3, a4]] fun o0 =>
  unP .not (atP o0 0) fun r1 =>
  iteP r1
   (rt [.sc] [(.bool false)] k)
   (call laws_eqIntS [.one a2, .one a5] fun o2 =>
   unP .not (atP o2 0) fun r3 =>
   iteP r3
    (rt [.sc] [(.bool false)] k)
    (rt [.sc] [(.bool true)] k))) u1) u0
 | _, _ => False
abbrev laws_eqSaid_e : Ent := ⟨[92], laws_eqSaid⟩
theorem laws_eqSaid_w : EntOK Tryz.prog TT laws_eqSaid_e := ent_ok tabok (L := [laws_eqZone_e, laws_eqIntS_e]) ⟨laws_eqZone_w, laws_eqIntS_w, trivial⟩ (keep := []) (l := []) Tryz.func92 (by kernel_rfl) (sg := [.one (.sc)]) (by kernel_rfl) trivial fun av k h => by
  unfold laws_eqSaid at h; split at h
  · apply un_all h; clear h; intro a0 a1 a2 h; apply un_all h; clear h; intro a3 a4 a5 h; exact Eq.mpr (by kernel_rfl) h
  · exact h.elim

def laws_eqSaidS_r0 (v : List PV) (K : List PV → Prop) (x0k : Prop) (x1k : PV → PV → PV → PV → Prop) : Prop :=
 un 4 (fun v0 v1 v2 v3 =>
  lenP v0 fun r0 =>
  binP .lss v3 r0 fun r1 =>
  iteP r1
   (elemP 3 v0 v3 fun c2 =>
   elemP 3 v1 v3 fun c3 =>
   call laws_eqSaid [.agg [(atP c2 0), (atP c2 1), (atP c2 2)], .agg [(atP c3 0), (atP c3 1), (atP c3 2)]] fun o4 =>
   unP .not (atP o4 0) fun r5 =>
   iteP r5
    (x0k)
    (binP .add v3 (I 1) fun r6 =>
    K [v0, v1, v2, r6]))
   (x1k v0 v1 v2 v3)) v
def laws_eqSaidS : GM
 | [.one a0, .one a1], k => 
  lenP a0 fun r0 =>
  lenP a1 fun r1 =>
  binP .neq r0 r1 fun r2 =>
  iteP r2
   (rt [.sc] [(.bool false)] k)
   (lp (fun L w => laws_eqSaidS_r0 w L
    (rt [.sc] [(.bool false)] k)
    (fun q7 q8 q9 q10 => rt [.sc] [(.bool true)] k)) [a0, a1, (.bool false), (I 0)])
 | _, _ => False
abbrev laws_eqSaidS_e : Ent := ⟨[46], laws_eqSaidS⟩
def laws_eqSaidS_l : List LE := [⟨0, ⟨[(0, .one (.pv (.bool false))), (1, .one (.pv (.bool false))), (4, .one (.pv (.bool false))), (5, .one (.pv (.bool false)))], [], [], 0, 27⟩, fun K k v => laws_eqSaidS_r0 v K (k .ret ⟨[(4, .one (.kb false))], [], [], 1, 27⟩) (fun x0 x1 x2 x3 => k (.exit 0) ⟨[(0, .one (.pv x0)), (1, .one (.pv x1)), (4, .one (.pv x2)), (5, .one (.pv x3))], [], [], 0, 27⟩)⟩]
theorem laws_eqSaidS_s : LEsOK (orac [laws_eqSaid_e]) TT (kk [0, 1, 4, 5]) (sumsOf laws_eqSaidS_l) Tryz.f46 laws_eqSaidS_l := ⟨fun v K k h => by
  apply un_all h; exact fun v0 v1 v2 v3 h => Eq.mpr (by kernel_rfl) h
  , trivial⟩
theorem laws_eqSaidS_w : EntOK Tryz.prog TT laws_eqSaidS_e := ent_ok tabok (L := [laws_eqSaid_e]) ⟨laws_eqSaid_w, trivial⟩ (keep := (kk [0, 1, 4, 5])) (l := laws_eqSaidS_l) Tryz.func46 (by kernel_rfl) (sg := [.one (.sc)]) (by kernel_rfl) laws_eqSaidS_s fun av k h => by
  unfold laws_eqSaidS at h; split at h
  · exact Eq.mpr (by kernel_rfl) h
  · exact h.elim

def laws_eqServer : GM
 | [.agg u0, .agg u1], k => un 2 (fun a0 a1 => un 2 (fun a2 a3 => 
  call laws_eqZoneS [.one a0, .one a2] fun o0 =>
  unP .not (atP o0 0) fun r1 =>
  iteP r1
   (rt [.sc] [(.bool false)] k)
   (binP .neq a1 a3 fun r2 =>
   iteP r2
    (rt [.sc] [(.bool false)] k)
    (rt [.sc] [(.bool true)] k))) u1) u0
 | _, _ => False
abbrev laws_eqServer_e : Ent := ⟨[26], laws_eqServer⟩
theorem laws_eqServer_w : EntOK Tryz.prog TT laws_eqServer_e := ent_ok tabok (L := [laws_eqZoneS_e]) ⟨laws_eqZoneS_w, trivial⟩ (keep := []) (l := []) Tryz.func26 (by kernel_rfl) (sg := [.one (.sc)]) (by kernel_rfl) trivial fun av k h => by
  unfold laws_eqServer at h; split at h
  · apply un_all h; clear h; intro a0 a1 h; apply un_all h; clear h; intro a2 a3 h; exact Eq.mpr (by kernel_rfl) h
  · exact h.elim

def laws_eqServerS_r0 (v : List PV) (K : List PV → Prop) (x0k : Prop) (x1k : PV → PV → PV → PV → Prop) : Prop :=
 un 4 (fun v0 v1 v2 v3 =>
  lenP v0 fun r0 =>
  binP .lss v3 r0 fun r1 =>
  iteP r1
   (elemP 2 v0 v3 fun c2 =>
   elemP 2 v1 v3 fun c3 =>
   call laws_eqServer [.agg [(atP c2 0), (atP c2 1)], .agg [(atP c3 0), (atP c3 1)]] fun o4 =>
   unP .not (atP o4 0) fun r5 =>
   iteP r5
    (x0k)
    (binP .add v3 (I 1) fun r6 =>
    K [v0, v1, v2, r6]))
   (x1k v0 v1 v2 v3)) v
def laws_eqServerS : GM
 | [.one a0, .one a1], k => 
  lenP a0 fun r0 =>
  lenP a1 fun r1 =>
  binP .neq r0 r1 fun r2 =>
  iteP r2
   (rt [.sc] [(.bool false)] k)
   (lp (fun L w => laws_eqServerS_r0 w L
    (rt [.sc] [(.bool false)] k)
    (fun q7 q8 q9 q10 => rt [.sc] [(.bool true)] k)) [a0, a1, (.bool false), (I 0)])
 | _, _ => False
abbrev laws_eqServerS_e : Ent := ⟨[47], laws_eqServerS⟩
def laws_eqServerS_l : List LE := [⟨0, ⟨[(0, .one (.pv (.bool false))), (1, .one (.pv (.bool false))), (4, .one (.pv (.bool false))), (5, .one (.pv (.bool false)))], [], [], 0, 27⟩, fun K k v => laws_eqServerS_r0 v K (k .ret ⟨[(4, .one (.kb false))], [], [], 1, 27⟩) (fun x0 x1 x2 x3 => k (.exit 0) ⟨[(0, .one (.pv x0)), (1, .one (.pv x1)), (4, .one (.pv x2)), (5, .one (.pv x3))], [], [], 0, 27⟩)⟩]
theorem laws_eqServerS_s : LEsOK (orac [laws_eqServer_e]) TT (kk [0, 1, 4, 5]) (sumsOf laws_eqServerS_l) Tryz.f47 laws_eqServerS_l := ⟨fun v K k h => by
  apply un_all h; exact fun v0 v1 v2 v3 h => Eq.mpr (by kernel_rfl) h
  , trivial⟩
theorem laws_eqServerS_w : EntOK Tryz.prog TT laws_eqServerS_e := ent_ok tabok (L := [laws_eqServer_e]) ⟨laws_eqServer_w, trivial⟩ (keep := (kk [0, 1, 4, 5])) (l := laws_eqServerS_l) Tryz.func47 (by kernel_rfl) (sg := [.one (.sc)]) (by kernel_rfl) laws_eqServerS_s fun av k h => by
  unfold laws_eqServerS at h; split at h
  · exact Eq.mpr (by kernel_rfl) h
  · exact h.elim

def laws_eqSignedSS_r0 (v : List PV) (K : List PV → Prop) (x0k : Prop) (x1k : PV → PV → PV → PV → Prop) : Prop :=
 un 4 (fun v0 v1 v2 v3 =>
  lenP v0 fun r0 =>
  binP .lss v3 r0 fun r1 =>
  iteP r1
   (elemP 1 v0 v3 fun c2 =>
   elemP 1 v1 v3 fun c3 =>
   call laws_eqSignedS [.one (atP c2 0), .one (atP c3 0)] fun o4 =>
   unP .not (atP o4 0) fun r5 =>
   iteP r5
    (x0k)
    (binP .add v3 (I 1) fun r6 =>
    K [v0, v1, v2, r6]))
   (x1k v0 v1 v2 v3)) v
def laws_eqSignedSS : GM
 | [.one a0, .one a1], k => 
  lenP a0 fun r0 =>
  lenP a1 fun r1 =>
  binP .neq r0 r1 fun r2 =>
  iteP r2
   (rt [.sc] [(.bool false)] k)
   (lp (fun L w => laws_eqSignedSS_r0 w L
    (rt [.sc] [(.bool false)] k)
    (fun q7 q8 q9 q10 => rt [.sc] [(.bool true)] k)) [a0, a1, (.bool false), (I 0)])
 | _, _ => False
abbrev laws_eqSignedSS_e : Ent := ⟨[93], laws_eqSignedSS⟩
def laws_eqSignedSS_l : List LE := [⟨0, ⟨[(0, .one (.pv (.bool false))), (1, .one (.pv (.bool false))), (4, .one (.pv (.bool false))), (5, .one (.pv (.bool false)))], [], [], 0, 27⟩, fun K k v => laws_eqSignedSS_r0 v K (k .ret ⟨[(4, .one (.kb false))], [], [], 1, 27⟩) (fun x0 x1 x2 x3 => k (.exit 0) ⟨[(0, .one (.pv x0)), (1, .one (.pv x1)), (4, .one (.pv x2)), (5, .one (.pv x3))], [], [], 0, 27⟩)⟩]
theorem laws_eqSignedSS_s : LEsOK (orac [laws_eqSignedS_e]) TT (kk [0, 1, 4, 5]) (sumsOf laws_eqSignedSS_l) Tryz.f93 laws_eqSignedSS_l := ⟨fun v K k h => by
  apply un_all h; exact fun v0 v1 v2 v3 h => Eq.mpr (by kernel_rfl) h
  , trivial⟩
theorem laws_eqSignedSS_w : EntOK Tryz.prog TT laws_eqSignedSS_e := ent_ok tabok (L := [laws_eqSignedS_e]) ⟨laws_eqSignedS_w, trivial⟩ (keep := (kk [0, 1, 4, 5])) (l := laws_eqSignedSS_l) Tryz.func93 (by kernel_rfl) (sg := [.one (.sc)]) (by kernel_rfl) laws_eqSignedSS_s fun av k h => by
  unfold laws_eqSignedSS at h; split at h
  · exact Eq.mpr (by kernel_rfl) h
  · exact h.elim

def laws_eqFork : GM
 | [.agg u0, .agg u1], k => un 51 (fun a0 a1 a2 a3 a4 a5 a6 a7 a8 a9 a10 a11 a12 a13 a14 a15 a16 a17 a18 a19 a20 a21 a22 a23 a24 a25 a26 a27 a28 a29 a30 a31 a32 a33 a34 a35 a36 a37 a38 a39 a40 a41 a42 a43 a44 a45 a46 a47 a48 a49 a50 => un 51 (fun a51 a52 a53 a54 a55 a56 a57 a58 a59 a60 a61 a62 a63 a64 a65 a66 a67 a68 a69 a70 a71 a72 a73 a74 a75 a76 a77 a78 a79 a80 a81 a82 a83 a84 a85 a86 a87 a88 a89 a90 a91 a92 a93 a94 a95 a96 a97 a98 a99 a100 a101 => 
  call laws_eqSigned [.agg [a0, a1, a2, a3, a4, a5, a6, a7, a8, a9, a10, a11, a12, a13, a14, a15, a16], .agg [a51, a52, a53, a54, a55, a56, a57, a58, a59, a60, a61, a62, a63, a64, a65, a66, a67]] fun o0 =>
  unP .not (atP o0 0) fun r1 =>
  iteP r1
   (rt [.sc] [(.bool false)] k)
   (call laws_eqSigned [.agg [a17, a18, a19, a20, a21, a22, a23, a24, a25, a26, a27, a28, a29, a30, a31, a32, a33], .agg [a68, a69, a70, a71, a72, a73, a74, a75, a76, a77, a78, a79, a80, a81, a82, a83, a84]] fun o2 =>
   unP .not (atP o2 0) fun r3 =>
   iteP r3
    (rt [.sc] [(.bool false)] k)
    (call laws_eqSigned [.agg [a34, a35, a36, a37, a38, a39, a40, a41, a42, a43, a44, a45, a46, a47, a48, a49, a50], .agg [a85, a86, a87, a88, a89, a90, a91, a92, a93, a94, a95, a96, a97, a98, a99, a100, a101]] fun o4 =>
    unP .not (atP o4 0) fun r5 =>
    iteP r5
     (rt [.sc] [(.bool false)] k)
     (rt [.sc] [(.bool true)] k)))) u1) u0
 | _, _ => False
abbrev laws_eqFork_e : Ent := ⟨[134], laws_eqFork⟩
theorem laws_eqFork_w : EntOK Tryz.prog TT laws_eqFork_e := ent_ok tabok (L := [laws_eqSigned_e]) ⟨laws_eqSigned_w, trivial⟩ (keep := []) (l := []) Tryz.func134 (by kernel_rfl) (sg := [.one (.sc)]) (by kernel_rfl) trivial fun av k h => by
  unfold laws_eqFork at h; split at h
  · apply un_all h; clear h; intro a0 a1 a2 a3 a4 a5 a6 a7 a8 a9 a10 a11 a12 a13 a14 a15 a16 a17 a18 a19 a20 a21 a22 a23 a24 a25 a26 a27 a28 a29 a30 a31 a32 a33 a34 a35 a36 a37 a38 a39 a40 a41 a42 a43 a44 a45 a46 a47 a48 a49 a50 h; apply un_all h; clear h; intro a51 a52 a53 a54 a55 a56 a57 a58 a59 a60 a61 a62 a63 a64 a65 a66 a67 a68 a69 a70 a71 a72 a73 a74 a75 a76 a77 a78 a79 a80 a81 a82 a83 a84 a85 a86 a87 a88 a89 a90 a91 a92 a93 a94 a95 a96 a97 a98 a99 a100 a101 h; exact Eq.mpr (by kernel_rfl) h
  · exact h.elim

def laws_eqForkS_r0 (v : List PV) (K : List PV → Prop) (x0k : Prop) (x1k : PV → PV → PV → PV → Prop) : Prop :=
 un 4 (fun v0 v1 v2 v3 =>
  lenP v0 fun r0 =>
  binP .lss v3 r0 fun r1 =>
  iteP r1
   (elemP 51 v0 v3 fun c2 =>
   elemP 51 v1 v3 fun c3 =>
   call laws_eqFork [.agg [(atP c2 0), (atP c2 1), (atP c2 2), (atP c2 3), (atP c2 4), (atP c2 5), (atP c2 6), (atP c2 7), (atP c2 8), (atP c2 9), (atP c2 10), (atP c2 11), (atP c2 12), (atP c2 13), (atP c2 14), (atP c2 15), (atP c2 16), (atP c2 17), (atP c2 18), (atP c2 19), (atP c2 20), (atP c2 21), (atP c2 22), (atP c2 23), (atP c2 24), (atP c2 25), (atP c2 26), (atP c2 27), (atP c2 28), (atP c2 29), (atP c2 30), (atP c2 31), (atP c2 32), (atP c2 33), (atP c2 34), (atP c2 35), (atP c2 36), (atP c2 37), (atP c2 38), (atP c2 39), (atP c2 40), (atP c2 41), (atP c2 42), (atP c2 43), (atP c2 44), (atP c2 45), (atP c2 46), (atP c2 47), (atP c2 48), (atP c2 49), (atP c2 50)], .agg [(atP c3 0), (atP c3 1), (atP c3 2), (atP c3 3), (atP c3 4), (atP c3 5), (atP c3 6), (atP c3 7), (atP c3 8), (atP c3 9), (atP c3 10), (atP c3 11), (atP c3 12), (atP c3 13), (atP c3 14), (atP c3 15), (atP c3 16), (atP c3 17), (atP c3 18), (atP c3 19), (atP c3 20), (atP c3 21), (atP c3 22), (atP c3 23), (atP c3 24), (atP c3 25), (atP c3 26), (atP c3 27), (atP c3 28), (atP c3 29), (atP c3 30), (atP c3 31), (atP c3 32), (atP c3 33), (atP c3 34), (atP c3 35), (atP c3 36), (atP c3 37), (atP c3 38), (atP c3 39), (atP c3 40), (atP c3 41), (atP c3 42), (atP c3 43), (atP c3 44), (atP c3 45), (atP c3 46), (atP c3 47), (atP c3 48), (atP c3 49), (atP c3 50)]] fun o4 =>
   unP .not (atP o4 0) fun r5 =>
   iteP r5
    (x0k)
    (binP .add v3 (I 1) fun r6 =>
    K [v0, v1, v2, r6]))
   (x1k v0 v1 v2 v3)) v
def laws_eqForkS : GM
 | [.one a0, .one a1], k => 
  lenP a0 fun r0 =>
  lenP a1 fun r1 =>
  binP .neq r0 r1 fun r2 =>
  iteP r2
   (rt [.sc] [(.bool false)] k)
   (lp (fun L w => laws_eqForkS_r0 w L
    (rt [.sc] [(.bool false)] k)
    (fun q7 q8 q9 q10 => rt [.sc] [(.bool true)] k)) [a0, a1, (.bool false), (I 0)])
 | _, _ => False
abbrev laws_eqForkS_e : Ent := ⟨[94], laws_eqForkS⟩
def laws_eqForkS_l : List LE := [⟨0, ⟨[(0, .one (.pv (.bool false))), (1, .one (.pv (.bool false))), (4, .one (.pv (.bool false))), (5, .one (.pv (.bool false)))], [], [], 0, 27⟩, fun K k v => laws_eqForkS_r0 v K (k .ret ⟨[(4, .one (.kb false))], [], [], 1, 27⟩) (fun x0 x1 x2 x3 => k (.exit 0) ⟨[(0, .one (.pv x0)), (1, .one (.pv x1)), (4, .one (.pv x2)), (5, .one (.pv x3))], [], [], 0, 27⟩)⟩]
theorem laws_eqForkS_s : LEsOK (orac [laws_eqFork_e]) TT (kk [0, 1, 4, 5]) (sumsOf laws_eqForkS_l) Tryz.f94 laws_eqForkS_l := ⟨fun v K k h => by
  apply un_all h; exact fun v0 v1 v2 v3 h => Eq.mpr (by kernel_rfl) h
  , trivial⟩
theorem laws_eqForkS_w : EntOK Tryz.prog TT laws_eqForkS_e := ent_ok tabok (L := [laws_eqFork_e]) ⟨laws_eqFork_w, trivial⟩ (keep := (kk [0, 1, 4, 5])) (l := laws_eqForkS_l) Tryz.func94 (by kernel_rfl) (sg := [.one (.sc)]) (by kernel_rfl) laws_eqForkS_s fun av k h => by
  unfold laws_eqForkS at h; split at h
  · exact Eq.mpr (by kernel_rfl) h
  · exact h.elim

def laws_eqKnown : GM
 | [.agg u0, .agg u1], k => un 2 (fun a0 a1 => un 2 (fun a2 a3 => 
  call laws_eqSignedSS [.one a0, .one a2] fun o0 =>
  unP .not (atP o0 0) fun r1 =>
  iteP r1
   (rt [.sc] [(.bool false)] k)
   (call laws_eqForkS [.one a1, .one a3] fun o2 =>
   unP .not (atP o2 0) fun r3 =>
   iteP r3
    (rt [.sc] [(.bool false)] k)
    (rt [.sc] [(.bool true)] k))) u1) u0
 | _, _ => False
abbrev laws_eqKnown_e : Ent := ⟨[48], laws_eqKnown⟩
theorem laws_eqKnown_w : EntOK Tryz.prog TT laws_eqKnown_e := ent_ok tabok (L := [laws_eqSignedSS_e, laws_eqForkS_e]) ⟨laws_eqSignedSS_w, laws_eqForkS_w, trivial⟩ (keep := []) (l := []) Tryz.func48 (by kernel_rfl) (sg := [.one (.sc)]) (by kernel_rfl) trivial fun av k h => by
  unfold laws_eqKnown at h; split at h
  · apply un_all h; clear h; intro a0 a1 h; apply un_all h; clear h; intro a2 a3 h; exact Eq.mpr (by kernel_rfl) h
  · exact h.elim

def laws_eqProof : GM
 | [.agg u0, .agg u1], k => un 2 (fun a0 a1 => un 2 (fun a2 a3 => 
  binP .neq a0 a2 fun r0 =>
  iteP r0
   (rt [.sc] [(.bool false)] k)
   (call laws_eqIntS [.one a1, .one a3] fun o1 =>
   unP .not (atP o1 0) fun r2 =>
   iteP r2
    (rt [.sc] [(.bool false)] k)
    (rt [.sc] [(.bool true)] k))) u1) u0
 | _, _ => False
abbrev laws_eqProof_e : Ent := ⟨[118], laws_eqProof⟩
theorem laws_eqProof_w : EntOK Tryz.prog TT laws_eqProof_e := ent_ok tabok (L := [laws_eqIntS_e]) ⟨laws_eqIntS_w, trivial⟩ (keep := []) (l := []) Tryz.func118 (by kernel_rfl) (sg := [.one (.sc)]) (by kernel_rfl) trivial fun av k h => by
  unfold laws_eqProof at h; split at h
  · apply un_all h; clear h; intro a0 a1 h; apply un_all h; clear h; intro a2 a3 h; exact Eq.mpr (by kernel_rfl) h
  · exact h.elim

def laws_eqGap : GM
 | [.agg u0, .agg u1], k => un 13 (fun a0 a1 a2 a3 a4 a5 a6 a7 a8 a9 a10 a11 a12 => un 13 (fun a13 a14 a15 a16 a17 a18 a19 a20 a21 a22 a23 a24 a25 => 
  binP .neq a0 a13 fun r0 =>
  iteP r0
   (rt [.sc] [(.bool false)] k)
   (call laws_eqEntry [.agg [a1, a2, a3, a4], .agg [a14, a15, a16, a17]] fun o1 =>
   unP .not (atP o1 0) fun r2 =>
   iteP r2
    (rt [.sc] [(.bool false)] k)
    (call laws_eqEntry [.agg [a5, a6, a7, a8], .agg [a18, a19, a20, a21]] fun o3 =>
    unP .not (atP o3 0) fun r4 =>
    iteP r4
     (rt [.sc] [(.bool false)] k)
     (call laws_eqProof [.agg [a9, a10], .agg [a22, a23]] fun o5 =>
     unP .not (atP o5 0) fun r6 =>
     iteP r6
      (rt [.sc] [(.bool false)] k)
      (call laws_eqProof [.agg [a11, a12], .agg [a24, a25]] fun o7 =>
      unP .not (atP o7 0) fun r8 =>
      iteP r8
       (rt [.sc] [(.bool false)] k)
       (rt [.sc] [(.bool true)] k)))))) u1) u0
 | _, _ => False
abbrev laws_eqGap_e : Ent := ⟨[119], laws_eqGap⟩
theorem laws_eqGap_w : EntOK Tryz.prog TT laws_eqGap_e := ent_ok tabok (L := [laws_eqEntry_e, laws_eqProof_e]) ⟨laws_eqEntry_w, laws_eqProof_w, trivial⟩ (keep := []) (l := []) Tryz.func119 (by kernel_rfl) (sg := [.one (.sc)]) (by kernel_rfl) trivial fun av k h => by
  unfold laws_eqGap at h; split at h
  · apply un_all h; clear h; intro a0 a1 a2 a3 a4 a5 a6 a7 a8 a9 a10 a11 a12 h; apply un_all h; clear h; intro a13 a14 a15 a16 a17 a18 a19 a20 a21 a22 a23 a24 a25 h; exact Eq.mpr (by kernel_rfl) h
  · exact h.elim

def laws_eqAnswer : GM
 | [.agg u0, .agg u1], k => un 21 (fun a0 a1 a2 a3 a4 a5 a6 a7 a8 a9 a10 a11 a12 a13 a14 a15 a16 a17 a18 a19 a20 => un 21 (fun a21 a22 a23 a24 a25 a26 a27 a28 a29 a30 a31 a32 a33 a34 a35 a36 a37 a38 a39 a40 a41 => 
  call laws_eqSignedS [.one a0, .one a21] fun o0 =>
  unP .not (atP o0 0) fun r1 =>
  iteP r1
   (rt [.sc] [(.bool false)] k)
   (boolP .neq a1 a22 fun r2 =>
   iteP r2
    (rt [.sc] [(.bool false)] k)
    (call laws_eqEntry [.agg [a2, a3, a4, a5], .agg [a23, a24, a25, a26]] fun o3 =>
    unP .not (atP o3 0) fun r4 =>
    iteP r4
     (rt [.sc] [(.bool false)] k)
     (call laws_eqProof [.agg [a6, a7], .agg [a27, a28]] fun o5 =>
     unP .not (atP o5 0) fun r6 =>
     iteP r6
      (rt [.sc] [(.bool false)] k)
      (call laws_eqGap [.agg [a8, a9, a10, a11, a12, a13, a14, a15, a16, a17, a18, a19, a20], .agg [a29, a30, a31, a32, a33, a34, a35, a36, a37, a38, a39, a40, a41]] fun o7 =>
      unP .not (atP o7 0) fun r8 =>
      iteP r8
       (rt [.sc] [(.bool false)] k)
       (rt [.sc] [(.bool true)] k)))))) u1) u0
 | _, _ => False
abbrev laws_eqAnswer_e : Ent := ⟨[72], laws_eqAnswer⟩
theorem laws_eqAnswer_w : EntOK Tryz.prog TT laws_eqAnswer_e := ent_ok tabok (L := [laws_eqSignedS_e, laws_eqEntry_e, laws_eqProof_e, laws_eqGap_e]) ⟨laws_eqSignedS_w, laws_eqEntry_w, laws_eqProof_w, laws_eqGap_w, trivial⟩ (keep := []) (l := []) Tryz.func72 (by kernel_rfl) (sg := [.one (.sc)]) (by kernel_rfl) trivial fun av k h => by
  unfold laws_eqAnswer at h; split at h
  · apply un_all h; clear h; intro a0 a1 a2 a3 a4 a5 a6 a7 a8 a9 a10 a11 a12 a13 a14 a15 a16 a17 a18 a19 a20 h; apply un_all h; clear h; intro a21 a22 a23 a24 a25 a26 a27 a28 a29 a30 a31 a32 a33 a34 a35 a36 a37 a38 a39 a40 a41 h; exact Eq.mpr (by kernel_rfl) h
  · exact h.elim

def laws_eqStored : GM
 | [.agg u0, .agg u1], k => un 23 (fun a0 a1 a2 a3 a4 a5 a6 a7 a8 a9 a10 a11 a12 a13 a14 a15 a16 a17 a18 a19 a20 a21 a22 => un 23 (fun a23 a24 a25 a26 a27 a28 a29 a30 a31 a32 a33 a34 a35 a36 a37 a38 a39 a40 a41 a42 a43 a44 a45 => 
  binP .neq a0 a23 fun r0 =>
  iteP r0
   (rt [.sc] [(.bool false)] k)
   (binP .neq a1 a24 fun r1 =>
   iteP r1
    (rt [.sc] [(.bool false)] k)
    (call laws_eqAnswer [.agg [a2, a3, a4, a5, a6, a7, a8, a9, a10, a11, a12, a13, a14, a15, a16, a17, a18, a19, a20, a21, a22], .agg [a25, a26, a27, a28, a29, a30, a31, a32, a33, a34, a35, a36, a37, a38, a39, a40, a41, a42, a43, a44, a45]] fun o2 =>
    unP .not (atP o2 0) fun r3 =>
    iteP r3
     (rt [.sc] [(.bool false)] k)
     (rt [.sc] [(.bool true)] k)))) u1) u0
 | _, _ => False
abbrev laws_eqStored_e : Ent := ⟨[135], laws_eqStored⟩
theorem laws_eqStored_w : EntOK Tryz.prog TT laws_eqStored_e := ent_ok tabok (L := [laws_eqAnswer_e]) ⟨laws_eqAnswer_w, trivial⟩ (keep := []) (l := []) Tryz.func135 (by kernel_rfl) (sg := [.one (.sc)]) (by kernel_rfl) trivial fun av k h => by
  unfold laws_eqStored at h; split at h
  · apply un_all h; clear h; intro a0 a1 a2 a3 a4 a5 a6 a7 a8 a9 a10 a11 a12 a13 a14 a15 a16 a17 a18 a19 a20 a21 a22 h; apply un_all h; clear h; intro a23 a24 a25 a26 a27 a28 a29 a30 a31 a32 a33 a34 a35 a36 a37 a38 a39 a40 a41 a42 a43 a44 a45 h; exact Eq.mpr (by kernel_rfl) h
  · exact h.elim

def laws_eqStoredS_r0 (v : List PV) (K : List PV → Prop) (x0k : Prop) (x1k : PV → PV → PV → PV → Prop) : Prop :=
 un 4 (fun v0 v1 v2 v3 =>
  lenP v0 fun r0 =>
  binP .lss v3 r0 fun r1 =>
  iteP r1
   (elemP 23 v0 v3 fun c2 =>
   elemP 23 v1 v3 fun c3 =>
   call laws_eqStored [.agg [(atP c2 0), (atP c2 1), (atP c2 2), (atP c2 3), (atP c2 4), (atP c2 5), (atP c2 6), (atP c2 7), (atP c2 8), (atP c2 9), (atP c2 10), (atP c2 11), (atP c2 12), (atP c2 13), (atP c2 14), (atP c2 15), (atP c2 16), (atP c2 17), (atP c2 18), (atP c2 19), (atP c2 20), (atP c2 21), (atP c2 22)], .agg [(atP c3 0), (atP c3 1), (atP c3 2), (atP c3 3), (atP c3 4), (atP c3 5), (atP c3 6), (atP c3 7), (atP c3 8), (atP c3 9), (atP c3 10), (atP c3 11), (atP c3 12), (atP c3 13), (atP c3 14), (atP c3 15), (atP c3 16), (atP c3 17), (atP c3 18), (atP c3 19), (atP c3 20), (atP c3 21), (atP c3 22)]] fun o4 =>
   unP .not (atP o4 0) fun r5 =>
   iteP r5
    (x0k)
    (binP .add v3 (I 1) fun r6 =>
    K [v0, v1, v2, r6]))
   (x1k v0 v1 v2 v3)) v
def laws_eqStoredS : GM
 | [.one a0, .one a1], k => 
  lenP a0 fun r0 =>
  lenP a1 fun r1 =>
  binP .neq r0 r1 fun r2 =>
  iteP r2
   (rt [.sc] [(.bool false)] k)
   (lp (fun L w => laws_eqStoredS_r0 w L
    (rt [.sc] [(.bool false)] k)
    (fun q7 q8 q9 q10 => rt [.sc] [(.bool true)] k)) [a0, a1, (.bool false), (I 0)])
 | _, _ => False
abbrev laws_eqStoredS_e : Ent := ⟨[95], laws_eqStoredS⟩
def laws_eqStoredS_l : List LE := [⟨0, ⟨[(0, .one (.pv (.bool false))), (1, .one (.pv (.bool false))), (4, .one (.pv (.bool false))), (5, .one (.pv (.bool false)))], [], [], 0, 27⟩, fun K k v => laws_eqStoredS_r0 v K (k .ret ⟨[(4, .one (.kb false))], [], [], 1, 27⟩) (fun x0 x1 x2 x3 => k (.exit 0) ⟨[(0, .one (.pv x0)), (1, .one (.pv x1)), (4, .one (.pv x2)), (5, .one (.pv x3))], [], [], 0, 27⟩)⟩]
theorem laws_eqStoredS_s : LEsOK (orac [laws_eqStored_e]) TT (kk [0, 1, 4, 5]) (sumsOf laws_eqStoredS_l) Tryz.f95 laws_eqStoredS_l := ⟨fun v K k h => by
  apply un_all h; exact fun v0 v1 v2 v3 h => Eq.mpr (by kernel_rfl) h
  , trivial⟩
theorem laws_eqStoredS_w : EntOK Tryz.prog TT laws_eqStoredS_e := ent_ok tabok (L := [laws_eqStored_e]) ⟨laws_eqStored_w, trivial⟩ (keep := (kk [0, 1, 4, 5])) (l := laws_eqStoredS_l) Tryz.func95 (by kernel_rfl) (sg := [.one (.sc)]) (by kernel_rfl) laws_eqStoredS_s fun av k h => by
  unfold laws_eqStoredS at h; split at h
  · exact Eq.mpr (by kernel_rfl) h
  · exact h.elim

def laws_eqCache : GM
 | [.agg u0, .agg u1], k => un 1 (fun a0 => un 1 (fun a1 => 
  call laws_eqStoredS [.one a0, .one a1] fun o0 =>
  unP .not (atP o0 0) fun r1 =>
  iteP r1
   (rt [.sc] [(.bool false)] k)
   (rt [.sc] [(.bool true)] k)) u1) u0
 | _, _ => False
abbrev laws_eqCache_e : Ent := ⟨[49], laws_eqCache⟩
theorem laws_eqCache_w : EntOK Tryz.prog TT laws_eqCache_e := ent_ok tabok (L := [laws_eqStoredS_e]) ⟨laws_eqStoredS_w, trivial⟩ (keep := []) (l := []) Tryz.func49 (by kernel_rfl) (sg := [.one (.sc)]) (by kernel_rfl) trivial fun av k h => by
  unfold laws_eqCache at h; split at h
  · apply un_all h; clear h; intro a0 h; apply un_all h; clear h; intro a1 h; exact Eq.mpr (by kernel_rfl) h
  · exact h.elim

def laws_eqWorld : GM
 | [.agg u0, .agg u1], k => un 8 (fun a0 a1 a2 a3 a4 a5 a6 a7 => un 8 (fun a8 a9 a10 a11 a12 a13 a14 a15 => 
  binP .neq a0 a8 fun r0 =>
  iteP r0
   (rt [.sc] [(.bool false)] k)
   (call laws_eqActorS [.one a1, .one a9] fun o1 =>
   unP .not (atP o1 0) fun r2 =>
   iteP r2
    (rt [.sc] [(.bool false)] k)
    (call laws_eqZoneS [.one a2, .one a10] fun o3 =>
    unP .not (atP o3 0) fun r4 =>
    iteP r4
     (rt [.sc] [(.bool false)] k)
     (call laws_eqSaidS [.one a3, .one a11] fun o5 =>
     unP .not (atP o5 0) fun r6 =>
     iteP r6
      (rt [.sc] [(.bool false)] k)
      (call laws_eqServerS [.one a4, .one a12] fun o7 =>
      unP .not (atP o7 0) fun r8 =>
      iteP r8
       (rt [.sc] [(.bool false)] k)
       (call laws_eqKnown [.agg [a5, a6], .agg [a13, a14]] fun o9 =>
       unP .not (atP o9 0) fun r10 =>
       iteP r10
        (rt [.sc] [(.bool false)] k)
        (call laws_eqCache [.agg [a7], .agg [a15]] fun o11 =>
        unP .not (atP o11 0) fun r12 =>
        iteP r12
         (rt [.sc] [(.bool false)] k)
         (rt [.sc] [(.bool true)] k)))))))) u1) u0
 | _, _ => False
abbrev laws_eqWorld_e : Ent := ⟨[11], laws_eqWorld⟩
theorem laws_eqWorld_w : EntOK Tryz.prog TT laws_eqWorld_e := ent_ok tabok (L := [laws_eqActorS_e, laws_eqZoneS_e, laws_eqSaidS_e, laws_eqServerS_e, laws_eqKnown_e, laws_eqCache_e]) ⟨laws_eqActorS_w, laws_eqZoneS_w, laws_eqSaidS_w, laws_eqServerS_w, laws_eqKnown_w, laws_eqCache_w, trivial⟩ (keep := []) (l := []) Tryz.func11 (by kernel_rfl) (sg := [.one (.sc)]) (by kernel_rfl) trivial fun av k h => by
  unfold laws_eqWorld at h; split at h
  · apply un_all h; clear h; intro a0 a1 a2 a3 a4 a5 a6 a7 h; apply un_all h; clear h; intro a8 a9 a10 a11 a12 a13 a14 a15 h; exact Eq.mpr (by kernel_rfl) h
  · exact h.elim

def laws_heldIntS_r0 (v : List PV) (K : List PV → Prop) (x0k : Prop) (x1k : PV → PV → PV → PV → Prop) : Prop :=
 un 4 (fun v0 v1 v2 v3 =>
  lenP v0 fun r0 =>
  binP .lss v3 r0 fun r1 =>
  iteP r1
   (elemP 1 v0 v3 fun c2 =>
   binP .neq (atP c2 0) v1 fun r3 =>
   iteP r3
    (x0k)
    (binP .add v1 (I 1) fun r4 =>
    binP .add v3 (I 1) fun r5 =>
    K [v0, r4, v2, r5]))
   (x1k v0 v1 v2 v3)) v
def laws_heldIntS : GM
 | [.one a0, .one a1], k => 
  lp (fun L w => laws_heldIntS_r0 w L
   (rt [.sc] [(I (-1))] k)
   (fun q6 q7 q8 q9 => rt [.sc] [q7] k)) [a0, a1, (I 0), (I 0)]
 | _, _ => False
abbrev laws_heldIntS_e : Ent := ⟨[14], laws_heldIntS⟩
def laws_heldIntS_l : List LE := [⟨0, ⟨[(0, .one (.pv (.bool false))), (1, .one (.pv (.bool false))), (4, .one (.pv (.bool false))), (5, .one (.pv (.bool false)))], [], [], 0, 21⟩, fun K k v => laws_heldIntS_r0 v K (k .ret ⟨[(4, .one (.pv (I (-1))))], [], [], 0, 21⟩) (fun x0 x1 x2 x3 => k (.exit 0) ⟨[(0, .one (.pv x0)), (1, .one (.pv x1)), (4, .one (.pv x2)), (5, .one (.pv x3))], [], [], 0, 21⟩)⟩]
theorem laws_heldIntS_s : LEsOK (orac []) TT (kk [0, 1, 4, 5]) (sumsOf laws_heldIntS_l) Tryz.f14 laws_heldIntS_l := ⟨fun v K k h => by
  apply un_all h; exact fun v0 v1 v2 v3 h => Eq.mpr (by kernel_rfl) h
  , trivial⟩
theorem laws_heldIntS_w : EntOK Tryz.prog TT laws_heldIntS_e := ent_ok tabok (L := []) trivial (keep := (kk [0, 1, 4, 5])) (l := laws_heldIntS_l) Tryz.func14 (by kernel_rfl) (sg := [.one (.sc)]) (by kernel_rfl) laws_heldIntS_s fun av k h => by
  unfold laws_heldIntS at h; split at h
  · exact Eq.mpr (by kernel_rfl) h
  · exact h.elim

def laws_FnExactSpeakersOf : GM
 | [.agg u0, .one a8], k => un 8 (fun a0 a1 a2 a3 a4 a5 a6 a7 => 
  call laws_szWorld [.agg [a0, a1, a2, a3, a4, a5, a6, a7], .one (I 1048576)] fun o0 =>
  binP .lss (atP o0 0) (I 0) fun r1 =>
  iteP r1
   (rt [.sc] [(.bool true)] k)
   (call laws_toWorld [.agg [a0, a1, a2, a3, a4, a5, a6, a7]] fun o2 =>
   call spec_SpeakersOf [.agg [(atP o2 0), (atP o2 1), (atP o2 2), (atP o2 3), (atP o2 4), (atP o2 5), (atP o2 6), (atP o2 7)], .one a8] fun o3 =>
   call laws_toWorld [.agg [a0, a1, a2, a3, a4, a5, a6, a7]] fun o4 =>
   call impl_SpeakersOf [.agg [(atP o4 0), (atP o4 1), (atP o4 2), (atP o4 3), (atP o4 4), (atP o4 5), (atP o4 6), (atP o4 7)], .one a8] fun o5 =>
   call laws_eqIntS [.one (atP o5 0), .one (atP o3 0)] fun o6 =>
   unP .not (atP o6 0) fun r7 =>
   iteP r7
    (rt [.sc] [(.bool false)] k)
    (call laws_toWorld [.agg [a0, a1, a2, a3, a4, a5, a6, a7]] fun o8 =>
    call laws_eqWorld [.agg [(atP o4 0), (atP o4 1), (atP o4 2), (atP o4 3), (atP o4 4), (atP o4 5), (atP o4 6), (atP o4 7)], .agg [(atP o8 0), (atP o8 1), (atP o8 2), (atP o8 3), (atP o8 4), (atP o8 5), (atP o8 6), (atP o8 7)]] fun o9 =>
    unP .not (atP o9 0) fun r10 =>
    iteP r10
     (rt [.sc] [(.bool false)] k)
     ((flatCond [.pv (I 0), .nil 150 1, .nil 60 2, .nil 154 3, .nil 73 2, .nil 57 1, .nil 207 51, .nil 210 23] [.pv (atP o4 0), .own 12, .own 13, .own 14, .own 15, .own 16, .own 17, .own 18]) ∧ call laws_markWorld [.agg [(atP o4 0), (atP o4 1), (atP o4 2), (atP o4 3), (atP o4 4), (atP o4 5), (atP o4 6), (atP o4 7)], .one (I 1)] fun o11 =>
     binP .lss (atP o11 8) (I 0) fun r12 =>
     iteP r12
      (rt [.sc] [(.bool false)] k)
      (call laws_eqIntS [.one (atP o5 0), .one (atP o3 0)] fun o13 =>
      unP .not (atP o13 0) fun r14 =>
      iteP r14
       (rt [.sc] [(.bool false)] k)
       ((flatCond [.nil 3 1] [.own 20]) ∧ call laws_markIntS [.one (atP [(atP o5 0)] 0), .one (I 1)] fun o15 =>
       call laws_heldIntS [.one (atP o15 0), .one (I 1)] fun o16 =>
       binP .lss (atP o16 0) (I 0) fun r17 =>
       iteP r17
        (rt [.sc] [(.bool false)] k)
        (binP .neq (atP o16 0) (atP o15 1) fun r18 =>
        iteP r18
         (rt [.sc] [(.bool false)] k)
         (call laws_toWorld [.agg [a0, a1, a2, a3, a4, a5, a6, a7]] fun o19 =>
         call impl_SpeakersOf [.agg [(atP o19 0), (atP o19 1), (atP o19 2), (atP o19 3), (atP o19 4), (atP o19 5), (atP o19 6), (atP o19 7)], .one a8] fun o20 =>
         call laws_eqIntS [.one (atP o20 0), .one (atP o3 0)] fun o21 =>
         unP .not (atP o21 0) fun r22 =>
         iteP r22
          (rt [.sc] [(.bool false)] k)
          (call laws_heldIntS [.one (atP o15 0), .one (I 1)] fun o23 =>
          binP .lss (atP o23 0) (I 0) fun r24 =>
          iteP r24
           (rt [.sc] [(.bool false)] k)
           (binP .neq (atP o23 0) (atP o15 1) fun r25 =>
           iteP r25
            (rt [.sc] [(.bool false)] k)
            (rt [.sc] [(.bool true)] k))))))))))) u0
 | _, _ => False
abbrev laws_FnExactSpeakersOf_e : Ent := ⟨[3], laws_FnExactSpeakersOf⟩
theorem laws_FnExactSpeakersOf_w : EntOK Tryz.prog TT laws_FnExactSpeakersOf_e := ent_ok tabok (L := [laws_szWorld_e, laws_toWorld_e, spec_SpeakersOf_e, impl_SpeakersOf_e, laws_eqIntS_e, laws_eqWorld_e, laws_markWorld_e, laws_markIntS_e, laws_heldIntS_e]) ⟨laws_szWorld_w, laws_toWorld_w, spec_SpeakersOf_w, impl_SpeakersOf_w, laws_eqIntS_w, laws_eqWorld_w, laws_markWorld_w, laws_markIntS_w, laws_heldIntS_w, trivial⟩ (keep := []) (l := []) Tryz.func3 (by kernel_rfl) (sg := [.one (.sc)]) (by kernel_rfl) trivial fun av k h => by
  unfold laws_FnExactSpeakersOf at h; split at h
  · apply un_all h; clear h; intro a0 a1 a2 a3 a4 a5 a6 a7 h; exact Eq.mpr (by kernel_rfl) h
  · exact h.elim

def slices_Clone_int : GM
 | [.one a0], k => 
  nilP false a0 fun r0 =>
  iteP r0
   (rt [.own true 3 1] [(.list 1 [])] k)
   ((0 = 0) ∧ (0 ≤ 16777216) ∧ (1 = 1) ∧ (flatRows a0) ∧ catP 1 (.list 1 []) a0 fun r1 =>
   rt [.own true 3 1] [r1] k)
 | _, _ => False
abbrev slices_Clone_int_e : Ent := ⟨[219], slices_Clone_int⟩
theorem slices_Clone_int_w : EntOK Tryz.prog TT slices_Clone_int_e := ent_ok tabok (L := []) trivial (keep := []) (l := []) Tryz.func219 (by kernel_rfl) (sg := [.one (.own true 3 1)]) (by kernel_rfl) trivial fun av k h => by
  unfold slices_Clone_int at h; split at h
  · exact Eq.mpr (by kernel_rfl) h
  · exact h.elim

def impl_copyKeys : GM
 | [.agg u0], k => un 2 (fun a0 a1 => 
  call slices_Clone_int [.one a0] fun o0 =>
  rt [.own true 3 1, .sc] [(atP o0 0), a1] k) u0
 | _, _ => False
abbrev impl_copyKeys_e : Ent := ⟨[203], impl_copyKeys⟩
theorem impl_copyKeys_w : EntOK Tryz.prog TT impl_copyKeys_e := ent_okF tabok (L := [slices_Clone_int_e]) ⟨slices_Clone_int_w, trivial⟩ (keep := []) (l := []) Tryz.func203 (by kernel_rfl) (sg := [.agg [.own true 3 1, .sc]]) (by kernel_rfl) trivial fun av k h => by
  unfold impl_copyKeys at h; split at h
  · apply un_all h; clear h; intro a0 a1 h; exact Eq.mpr (by kernel_rfl) h
  · exact h.elim

def impl_copyHead : GM
 | [.agg u0], k => un 16 (fun a0 a1 a2 a3 a4 a5 a6 a7 a8 a9 a10 a11 a12 a13 a14 a15 => 
  call impl_copyKeys [.agg [a8, a9]] fun o0 =>
  call impl_copyKeys [.agg [a10, a11]] fun o1 =>
  call impl_copyKeys [.agg [a13, a14]] fun o2 =>
  rt [.sc, .sc, .sc, .sc, .sc, .sc, .sc, .sc, .own true 3 1, .sc, .own true 3 1, .sc, .sc, .own true 3 1, .sc, .sc] [a0, a1, a2, a3, a4, a5, a6, a7, (atP o0 0), (atP o0 1), (atP o1 0), (atP o1 1), a12, (atP o2 0), (atP o2 1), a15] k) u0
 | _, _ => False
abbrev impl_copyHead_e : Ent := ⟨[170], impl_copyHead⟩
theorem impl_copyHead_w : EntOK Tryz.prog TT impl_copyHead_e := ent_okF tabok (L := [impl_copyKeys_e]) ⟨impl_copyKeys_w, trivial⟩ (keep := []) (l := []) Tryz.func170 (by kernel_rfl) (sg := [.agg [.sc, .sc, .sc, .sc, .sc, .sc, .sc, .sc, .own true 3 1, .sc, .own true 3 1, .sc, .sc, .own true 3 1, .sc, .sc]]) (by kernel_rfl) trivial fun av k h => by
  unfold impl_copyHead at h; split at h
  · apply un_all h; clear h; intro a0 a1 a2 a3 a4 a5 a6 a7 a8 a9 a10 a11 a12 a13 a14 a15 h; exact Eq.mpr (by kernel_rfl) h
  · exact h.elim

def slices_Clone_Sig : GM
 | [.one a0], k => 
  nilP false a0 fun r0 =>
  iteP r0
   (rt [.own true 222 2] [(.list 2 [])] k)
   ((0 = 0) ∧ (0 ≤ 16777216) ∧ (2 = 2) ∧ (flatRows a0) ∧ catP 2 (.list 2 []) a0 fun r1 =>
   rt [.own true 222 2] [r1] k)
 | _, _ => False
abbrev slices_Clone_Sig_e : Ent := ⟨[171], slices_Clone_Sig⟩
theorem slices_Clone_Sig_w : EntOK Tryz.prog TT slices_Clone_Sig_e := ent_ok tabok (L := []) trivial (keep := []) (l := []) Tryz.func171 (by kernel_rfl) (sg := [.one (.own true 222 2)]) (by kernel_rfl) trivial fun av k h => by
  unfold slices_Clone_Sig at h; split at h
  · exact Eq.mpr (by kernel_rfl) h
  · exact h.elim

def impl_copySigned : GM
 | [.agg u0], k => un 17 (fun a0 a1 a2 a3 a4 a5 a6 a7 a8 a9 a10 a11 a12 a13 a14 a15 a16 => 
  call impl_copyHead [.agg [a0, a1, a2, a3, a4, a5, a6, a7, a8, a9, a10, a11, a12, a13, a14, a15]] fun o0 =>
  call slices_Clone_Sig [.one a16] fun o1 =>
  rt [.sc, .sc, .sc, .sc, .sc, .sc, .sc, .sc, .own true 3 1, .sc, .own true 3 1, .sc, .sc, .own true 3 1, .sc, .sc, .own true 222 2] [(atP o0 0), (atP o0 1), (atP o0 2), (atP o0 3), (atP o0 4), (atP o0 5), (atP o0 6), (atP o0 7), (atP o0 8), (atP o0 9), (atP o0 10), (atP o0 11), (atP o0 12), (atP o0 13), (atP o0 14), (atP o0 15), (atP o1 0)] k) u0
 | _, _ => False
abbrev impl_copySigned_e : Ent := ⟨[138], impl_copySigned⟩
theorem impl_copySigned_w : EntOK Tryz.prog TT impl_copySigned_e := ent_okF tabok (L := [impl_copyHead_e, slices_Clone_Sig_e]) ⟨impl_copyHead_w, slices_Clone_Sig_w, trivial⟩ (keep := []) (l := []) Tryz.func138 (by kernel_rfl) (sg := [.agg [.sc, .sc, .sc, .sc, .sc, .sc, .sc, .sc, .own true 3 1, .sc, .own true 3 1, .sc, .sc, .own true 3 1, .sc, .sc, .own true 222 2]]) (by kernel_rfl) trivial fun av k h => by
  unfold impl_copySigned at h; split at h
  · apply un_all h; clear h; intro a0 a1 a2 a3 a4 a5 a6 a7 a8 a9 a10 a11 a12 a13 a14 a15 a16 h; exact Eq.mpr (by kernel_rfl) h
  · exact h.elim

def impl_copyChain_r0 (v : List PV) (K : List PV → Prop) (x0k : PV → PV → PV → PV → PV → Prop) : Prop :=
 un 5 (fun v0 v1 v2 v3 v4 =>
  binP .lss v2 v1 fun r0 =>
  iteP r0
   (elemP 17 v0 v2 fun c1 =>
   call impl_copySigned [.agg [(atP c1 0), (atP c1 1), (atP c1 2), (atP c1 3), (atP c1 4), (atP c1 5), (atP c1 6), (atP c1 7), (atP c1 8), (atP c1 9), (atP c1 10), (atP c1 11), (atP c1 12), (atP c1 13), (atP c1 14), (atP c1 15), (atP c1 16)]] fun o2 =>
   (1 = 1) ∧ (17 ≤ 16777216) ∧ (17 = 17) ∧ (0 = 0) ∧ (17 = 17) ∧ (flatCond [.pv (I 0), .pv (I 0), .pv (I 0), .pv (I 0), .pv (I 0), .pv (I 0), .pv (I 0), .pv (I 0), .nil 3 1, .pv (I 0), .nil 3 1, .pv (I 0), .pv (I 0), .nil 3 1, .pv (I 0), .pv (.bool false), .nil 222 2] [.pv (atP o2 0), .pv (atP o2 1), .pv (atP o2 2), .pv (atP o2 3), .pv (atP o2 4), .pv (atP o2 5), .pv (atP o2 6), .pv (atP o2 7), .own 11, .pv (atP o2 9), .own 13, .pv (atP o2 11), .pv (atP o2 12), .own 16, .pv (atP o2 14), .pv (atP o2 15), .own 19]) ∧ catP 17 v4 (.list 17 [[(atP o2 0), (atP o2 1), (atP o2 2), (atP o2 3), (atP o2 4), (atP o2 5), (atP o2 6), (atP o2 7), (atP o2 8), (atP o2 9), (atP o2 10), (atP o2 11), (atP o2 12), (atP o2 13), (atP o2 14), (atP o2 15), (atP o2 16)]]) fun r3 =>
   binP .add v2 (I 1) fun r4 =>
   K [v0, v1, r4, v3, r3])
   (x0k v0 v1 v2 v3 v4)) v
def impl_copyChain : GM
 | [.one a0], k => 
  (0 = 0) ∧ (0 ≤ 16777216) ∧ (17 = 17) ∧ lenP a0 fun r0 =>
  lp (fun L w => impl_copyChain_r0 w L
   (fun q5 q6 q7 q8 q9 => rt [.own true 148 17] [q9] k)) [a0, r0, (I 0), (.list 17 []), (.list 17 [])]
 | _, _ => False
abbrev impl_copyChain_e : Ent := ⟨[102], impl_copyChain⟩
def impl_copyChain_l : List LE := [⟨0, ⟨[(2, .one (.own 1)), (3, .one (.own 0)), (7, .one (.pv (.bool false))), (8, .one (.pv (.bool false))), (9, .one (.pv (.bool false)))], [], [(1, ⟨.deep, 148, 17, (.bool false)⟩), (0, ⟨.deep, 148, 17, (.bool false)⟩)], 2, 20⟩, fun K k v => impl_copyChain_r0 v K (fun x0 x1 x2 x3 x4 => k (.exit 0) ⟨[(2, .one (.own 1)), (3, .one (.own 0)), (7, .one (.pv x0)), (8, .one (.pv x1)), (9, .one (.pv x2))], [], [(1, ⟨.deep, 148, 17, x3⟩), (0, ⟨.deep, 148, 17, x4⟩)], 2, 20⟩)⟩]
theorem impl_copyChain_s : LEsOK (orac [impl_copySigned_e]) TT.nofl (kk [2, 3, 7, 8, 9]) (sumsOf impl_copyChain_l) Tryz.f102 impl_copyChain_l := ⟨fun v K k h => by
  apply un_all h; exact fun v0 v1 v2 v3 v4 h => Eq.mpr (by kernel_rfl) h
  , trivial⟩
theorem impl_copyChain_w : EntOK Tryz.prog TT impl_copyChain_e := ent_okF tabok (L := [impl_copySigned_e]) ⟨impl_copySigned_w, trivial⟩ (keep := (kk [2, 3, 7, 8, 9])) (l := impl_copyChain_l) Tryz.func102 (by kernel_rfl) (sg := [.one (.own true 148 17)]) (by kernel_rfl) impl_copyChain_s fun av k h => by
  unfold impl_copyChain at h; split at h
  · exact Eq.mpr (by kernel_rfl) h
  · exact h.elim

def slices_Clone_string : GM
 | [.one a0], k => 
  nilP false a0 fun r0 =>
  iteP r0
   (rt [.own true 9 1] [(.list 1 [])] k)
   ((0 = 0) ∧ (0 ≤ 16777216) ∧ (1 = 1) ∧ (flatRows a0) ∧ catP 1 (.list 1 []) a0 fun r1 =>
   rt [.own true 9 1] [r1] k)
 | _, _ => False
abbrev slices_Clone_string_e : Ent := ⟨[172], slices_Clone_string⟩
theorem slices_Clone_string_w : EntOK Tryz.prog TT slices_Clone_string_e := ent_ok tabok (L := []) trivial (keep := []) (l := []) Tryz.func172 (by kernel_rfl) (sg := [.one (.own true 9 1)]) (by kernel_rfl) trivial fun av k h => by
  unfold slices_Clone_string at h; split at h
  · exact Eq.mpr (by kernel_rfl) h
  · exact h.elim

def impl_copyEntry : GM
 | [.agg u0], k => un 4 (fun a0 a1 a2 a3 => 
  call slices_Clone_string [.one a3] fun o0 =>
  rt [.sc, .sc, .sc, .own true 9 1] [a0, a1, a2, (atP o0 0)] k) u0
 | _, _ => False
abbrev impl_copyEntry_e : Ent := ⟨[139], impl_copyEntry⟩
theorem impl_copyEntry_w : EntOK Tryz.prog TT impl_copyEntry_e := ent_okF tabok (L := [slices_Clone_string_e]) ⟨slices_Clone_string_w, trivial⟩ (keep := []) (l := []) Tryz.func139 (by kernel_rfl) (sg := [.agg [.sc, .sc, .sc, .own true 9 1]]) (by kernel_rfl) trivial fun av k h => by
  unfold impl_copyEntry at h; split at h
  · apply un_all h; clear h; intro a0 a1 a2 a3 h; exact Eq.mpr (by kernel_rfl) h
  · exact h.elim

def impl_copyEntries_r0 (v : List PV) (K : List PV → Prop) (x0k : PV → PV → PV → PV → PV → Prop) : Prop :=
 un 5 (fun v0 v1 v2 v3 v4 =>
  binP .lss v2 v1 fun r0 =>
  iteP r0
   (elemP 4 v0 v2 fun c1 =>
   call impl_copyEntry [.agg [(atP c1 0), (atP c1 1), (atP c1 2), (atP c1 3)]] fun o2 =>
   (1 = 1) ∧ (4 ≤ 16777216) ∧ (4 = 4) ∧ (0 = 0) ∧ (4 = 4) ∧ (flatCond [.pv (.str ⟨#[]⟩), .pv (I 0), .pv (I 0), .nil 9 1] [.pv (atP o2 0), .pv (atP o2 1), .pv (atP o2 2), .own 6]) ∧ catP 4 v4 (.list 4 [[(atP o2 0), (atP o2 1), (atP o2 2), (atP o2 3)]]) fun r3 =>
   binP .add v2 (I 1) fun r4 =>
   K [v0, v1, r4, v3, r3])
   (x0k v0 v1 v2 v3 v4)) v
def impl_copyEntries : GM
 | [.one a0], k => 
  (0 = 0) ∧ (0 ≤ 16777216) ∧ (4 = 4) ∧ lenP a0 fun r0 =>
  lp (fun L w => impl_copyEntries_r0 w L
   (fun q5 q6 q7 q8 q9 => rt [.own true 117 4] [q9] k)) [a0, r0, (I 0), (.list 4 []), (.list 4 [])]
 | _, _ => False
abbrev impl_copyEntries_e : Ent := ⟨[103], impl_copyEntries⟩
def impl_copyEntries_l : List LE := [⟨0, ⟨[(2, .one (.own 1)), (3, .one (.own 0)), (7, .one (.pv (.bool false))), (8, .one (.pv (.bool false))), (9, .one (.pv (.bool false)))], [], [(1, ⟨.deep, 117, 4, (.bool false)⟩), (0, ⟨.deep, 117, 4, (.bool false)⟩)], 2, 20⟩, fun K k v => impl_copyEntries_r0 v K (fun x0 x1 x2 x3 x4 => k (.exit 0) ⟨[(2, .one (.own 1)), (3, .one (.own 0)), (7, .one (.pv x0)), (8, .one (.pv x1)), (9, .one (.pv x2))], [], [(1, ⟨.deep, 117, 4, x3⟩), (0, ⟨.deep, 117, 4, x4⟩)], 2, 20⟩)⟩]
theorem impl_copyEntries_s : LEsOK (orac [impl_copyEntry_e]) TT.nofl (kk [2, 3, 7, 8, 9]) (sumsOf impl_copyEntries_l) Tryz.f103 impl_copyEntries_l := ⟨fun v K k h => by
  apply un_all h; exact fun v0 v1 v2 v3 v4 h => Eq.mpr (by kernel_rfl) h
  , trivial⟩
theorem impl_copyEntries_w : EntOK Tryz.prog TT impl_copyEntries_e := ent_okF tabok (L := [impl_copyEntry_e]) ⟨impl_copyEntry_w, trivial⟩ (keep := (kk [2, 3, 7, 8, 9])) (l := impl_copyEntries_l) Tryz.func103 (by kernel_rfl) (sg := [.one (.own true 117 4)]) (by kernel_rfl) impl_copyEntries_s fun av k h => by
  unfold impl_copyEntries at h; split at h
  · exact Eq.mpr (by kernel_rfl) h
  · exact h.elim

def impl_copyZone : GM
 | [.agg u0], k => un 2 (fun a0 a1 => 
  call impl_copyChain [.one a0] fun o0 =>
  call impl_copyEntries [.one a1] fun o1 =>
  rt [.own true 148 17, .own true 117 4] [(atP o0 0), (atP o1 0)] k) u0
 | _, _ => False
abbrev impl_copyZone_e : Ent := ⟨[59], impl_copyZone⟩
theorem impl_copyZone_w : EntOK Tryz.prog TT impl_copyZone_e := ent_okF tabok (L := [impl_copyChain_e, impl_copyEntries_e]) ⟨impl_copyChain_w, impl_copyEntries_w, trivial⟩ (keep := []) (l := []) Tryz.func59 (by kernel_rfl) (sg := [.agg [.own true 148 17, .own true 117 4]]) (by kernel_rfl) trivial fun av k h => by
  unfold impl_copyZone at h; split at h
  · apply un_all h; clear h; intro a0 a1 h; exact Eq.mpr (by kernel_rfl) h
  · exact h.elim

def impl_ZoneAt : GM
 | [.agg u0, .one a8], k => un 8 (fun a0 a1 a2 a3 a4 a5 a6 a7 => 
  call impl_World_hasZone [.agg [a0, a1, a2, a3, a4, a5, a6, a7], .one a8] fun o0 =>
  unP .not (atP o0 0) fun r1 =>
  iteP r1
   (rt [.own true 148 17, .own true 117 4, .sc] [(.list 17 []), (.list 4 []), (.bool false)] k)
   (elemP 2 a2 a8 fun c2 =>
   call impl_copyZone [.agg [(atP c2 0), (atP c2 1)]] fun o3 =>
   rt [.own true 148 17, .own true 117 4, .sc] [(atP o3 0), (atP o3 1), (.bool true)] k)) u0
 | _, _ => False
abbrev impl_ZoneAt_e : Ent := ⟨[16], impl_ZoneAt⟩
theorem impl_ZoneAt_w : EntOK Tryz.prog TT impl_ZoneAt_e := ent_okF tabok (L := [impl_World_hasZone_e, impl_copyZone_e]) ⟨impl_World_hasZone_w, impl_copyZone_w, trivial⟩ (keep := []) (l := []) Tryz.func16 (by kernel_rfl) (sg := [.agg [.own true 148 17, .own true 117 4], .one (.sc)]) (by kernel_rfl) trivial fun av k h => by
  unfold impl_ZoneAt at h; split at h
  · apply un_all h; clear h; intro a0 a1 a2 a3 a4 a5 a6 a7 h; exact Eq.mpr (by kernel_rfl) h
  · exact h.elim

def laws_heldSigS_r0 (v : List PV) (K : List PV → Prop) (x0k : Prop) (x1k : PV → PV → PV → PV → Prop) : Prop :=
 un 4 (fun v0 v1 v2 v3 =>
  lenP v0 fun r0 =>
  binP .lss v3 r0 fun r1 =>
  iteP r1
   (elemP 2 v0 v3 fun c2 =>
   binP .neq (atP c2 0) v1 fun r3 =>
   iteP r3
    (x0k)
    (binP .add v1 (I 1) fun r4 =>
    elemP 2 v0 v3 fun c5 =>
    binP .neq (atP c5 1) r4 fun r6 =>
    iteP r6
     (x0k)
     (binP .add r4 (I 1) fun r7 =>
     binP .add v3 (I 1) fun r8 =>
     K [v0, r7, v2, r8])))
   (x1k v0 v1 v2 v3)) v
def laws_heldSigS : GM
 | [.one a0, .one a1], k => 
  lp (fun L w => laws_heldSigS_r0 w L
   (rt [.sc] [(I (-1))] k)
   (fun q9 q10 q11 q12 => rt [.sc] [q10] k)) [a0, a1, (I 0), (I 0)]
 | _, _ => False
abbrev laws_heldSigS_e : Ent := ⟨[107], laws_heldSigS⟩
def laws_heldSigS_l : List LE := [⟨0, ⟨[(0, .one (.pv (.bool false))), (1, .one (.pv (.bool false))), (4, .one (.pv (.bool false))), (5, .one (.pv (.bool false)))], [], [], 0, 31⟩, fun K k v => laws_heldSigS_r0 v K (k .ret ⟨[(4, .one (.pv (I (-1))))], [], [], 0, 31⟩) (fun x0 x1 x2 x3 => k (.exit 0) ⟨[(0, .one (.pv x0)), (1, .one (.pv x1)), (4, .one (.pv x2)), (5, .one (.pv x3))], [], [], 0, 31⟩)⟩]
theorem laws_heldSigS_s : LEsOK (orac []) TT (kk [0, 1, 4, 5]) (sumsOf laws_heldSigS_l) Tryz.f107 laws_heldSigS_l := ⟨fun v K k h => by
  apply un_all h; exact fun v0 v1 v2 v3 h => Eq.mpr (by kernel_rfl) h
  , trivial⟩
theorem laws_heldSigS_w : EntOK Tryz.prog TT laws_heldSigS_e := ent_ok tabok (L := []) trivial (keep := (kk [0, 1, 4, 5])) (l := laws_heldSigS_l) Tryz.func107 (by kernel_rfl) (sg := [.one (.sc)]) (by kernel_rfl) laws_heldSigS_s fun av k h => by
  unfold laws_heldSigS at h; split at h
  · exact Eq.mpr (by kernel_rfl) h
  · exact h.elim

def laws_heldSignedS_r0 (v : List PV) (K : List PV → Prop) (x0k : Prop) (x1k : Prop) (x2k : Prop) (x3k : Prop) (x4k : Prop) (x5k : PV → PV → PV → PV → Prop) : Prop :=
 un 4 (fun v0 v1 v2 v3 =>
  lenP v0 fun r0 =>
  binP .lss v3 r0 fun r1 =>
  iteP r1
   (elemP 17 v0 v3 fun c2 =>
   binP .neq (atP c2 0) v1 fun r3 =>
   iteP r3
    (x0k)
    (binP .add v1 (I 1) fun r4 =>
    elemP 17 v0 v3 fun c5 =>
    binP .neq (atP c5 1) r4 fun r6 =>
    iteP r6
     (x0k)
     (binP .add r4 (I 1) fun r7 =>
     elemP 17 v0 v3 fun c8 =>
     binP .neq (atP c8 2) r7 fun r9 =>
     iteP r9
      (x0k)
      (binP .add r7 (I 1) fun r10 =>
      elemP 17 v0 v3 fun c11 =>
      binP .neq (atP c11 3) r10 fun r12 =>
      iteP r12
       (x0k)
       (binP .add r10 (I 1) fun r13 =>
       elemP 17 v0 v3 fun c14 =>
       binP .neq (atP c14 4) r13 fun r15 =>
       iteP r15
        (x0k)
        (binP .add r13 (I 1) fun r16 =>
        elemP 17 v0 v3 fun c17 =>
        binP .neq (atP c17 5) r16 fun r18 =>
        iteP r18
         (x0k)
         (binP .add r16 (I 1) fun r19 =>
         elemP 17 v0 v3 fun c20 =>
         binP .neq (atP c20 6) r19 fun r21 =>
         iteP r21
          (x0k)
          (binP .add r19 (I 1) fun r22 =>
          elemP 17 v0 v3 fun c23 =>
          binP .neq (atP c23 7) r22 fun r24 =>
          iteP r24
           (x0k)
           (binP .add r22 (I 1) fun r25 =>
           elemP 17 v0 v3 fun c26 =>
           call laws_heldIntS [.one (atP c26 8), .one r25] fun o27 =>
           binP .lss (atP o27 0) (I 0) fun r28 =>
           iteP r28
            (x1k)
            (elemP 17 v0 v3 fun c29 =>
            binP .neq (atP c29 9) (atP o27 0) fun r30 =>
            iteP r30
             (x1k)
             (binP .add (atP o27 0) (I 1) fun r31 =>
             elemP 17 v0 v3 fun c32 =>
             call laws_heldIntS [.one (atP c32 10), .one r31] fun o33 =>
             binP .lss (atP o33 0) (I 0) fun r34 =>
             iteP r34
              (x2k)
              (elemP 17 v0 v3 fun c35 =>
              binP .neq (atP c35 11) (atP o33 0) fun r36 =>
              iteP r36
               (x2k)
               (binP .add (atP o33 0) (I 1) fun r37 =>
               elemP 17 v0 v3 fun c38 =>
               binP .neq (atP c38 12) r37 fun r39 =>
               iteP r39
                (x2k)
                (binP .add r37 (I 1) fun r40 =>
                elemP 17 v0 v3 fun c41 =>
                call laws_heldIntS [.one (atP c41 13), .one r40] fun o42 =>
                binP .lss (atP o42 0) (I 0) fun r43 =>
                iteP r43
                 (x3k)
                 (elemP 17 v0 v3 fun c44 =>
                 binP .neq (atP c44 14) (atP o42 0) fun r45 =>
                 iteP r45
                  (x3k)
                  (binP .add (atP o42 0) (I 1) fun r46 =>
                  elemP 17 v0 v3 fun c47 =>
                  binP .rem r46 (I 3) fun r48 =>
                  binP .eql r48 (I 0) fun r49 =>
                  boolP .neq (atP c47 15) r49 fun r50 =>
                  iteP r50
                   (x3k)
                   (binP .add r46 (I 1) fun r51 =>
                   elemP 17 v0 v3 fun c52 =>
                   call laws_heldSigS [.one (atP c52 16), .one r51] fun o53 =>
                   binP .lss (atP o53 0) (I 0) fun r54 =>
                   iteP r54
                    (x4k)
                    (binP .add v3 (I 1) fun r55 =>
                    K [v0, (atP o53 0), v2, r55]))))))))))))))))))
   (x5k v0 v1 v2 v3)) v
def laws_heldSignedS : GM
 | [.one a0, .one a1], k => 
  lp (fun L w => laws_heldSignedS_r0 w L
   (rt [.sc] [(I (-1))] k)
   (rt [.sc] [(I (-1))] k)
   (rt [.sc] [(I (-1))] k)
   (rt [.sc] [(I (-1))] k)
   (rt [.sc] [(I (-1))] k)
   (fun q56 q57 q58 q59 => rt [.sc] [q57] k)) [a0, a1, (I 0), (I 0)]
 | _, _ => False
abbrev laws_heldSignedS_e : Ent := ⟨[64], laws_heldSignedS⟩
def laws_heldSignedS_l : List LE := [⟨0, ⟨[(0, .one (.pv (.bool false))), (1, .one (.pv (.bool false))), (4, .one (.pv (.bool false))), (5, .one (.pv (.bool false)))], [], [], 0, 190⟩, fun K k v => laws_heldSignedS_r0 v K (k .ret ⟨[(4, .one (.pv (I (-1))))], [], [], 0, 190⟩) (k .ret ⟨[(4, .one (.pv (I (-1))))], [], [], 1, 190⟩) (k .ret ⟨[(4, .one (.pv (I (-1))))], [], [], 2, 190⟩) (k .ret ⟨[(4, .one (.pv (I (-1))))], [], [], 3, 190⟩) (k .ret ⟨[(4, .one (.pv (I (-1))))], [], [], 4, 190⟩) (fun x0 x1 x2 x3 => k (.exit 0) ⟨[(0, .one (.pv x0)), (1, .one (.pv x1)), (4, .one (.pv x2)), (5, .one (.pv x3))], [], [], 0, 190⟩)⟩]
theorem laws_heldSignedS_s : LEsOK (orac [laws_heldIntS_e, laws_heldSigS_e]) TT (kk [0, 1, 4, 5]) (sumsOf laws_heldSignedS_l) Tryz.f64 laws_heldSignedS_l := ⟨fun v K k h => by
  apply un_all h; exact fun v0 v1 v2 v3 h => Eq.mpr (by kernel_rfl) h
  , trivial⟩
theorem laws_heldSignedS_w : EntOK Tryz.prog TT laws_heldSignedS_e := ent_ok tabok (L := [laws_heldIntS_e, laws_heldSigS_e]) ⟨laws_heldIntS_w, laws_heldSigS_w, trivial⟩ (keep := (kk [0, 1, 4, 5])) (l := laws_heldSignedS_l) Tryz.func64 (by kernel_rfl) (sg := [.one (.sc)]) (by kernel_rfl) laws_heldSignedS_s fun av k h => by
  unfold laws_heldSignedS at h; split at h
  · exact Eq.mpr (by kernel_rfl) h
  · exact h.elim

def laws_heldStringS_r0 (v : List PV) (K : List PV → Prop) (x0k : Prop) (x1k : PV → PV → PV → PV → Prop) : Prop :=
 un 4 (fun v0 v1 v2 v3 =>
  lenP v0 fun r0 =>
  binP .lss v3 r0 fun r1 =>
  iteP r1
   (elemP 1 v0 v3 fun c2 =>
   call laws_markText [.one v1] fun o3 =>
   binP .neq (atP c2 0) (atP o3 0) fun r4 =>
   iteP r4
    (x0k)
    (binP .add v1 (I 1) fun r5 =>
    binP .add v3 (I 1) fun r6 =>
    K [v0, r5, v2, r6]))
   (x1k v0 v1 v2 v3)) v
def laws_heldStringS : GM
 | [.one a0, .one a1], k => 
  lp (fun L w => laws_heldStringS_r0 w L
   (rt [.sc] [(I (-1))] k)
   (fun q7 q8 q9 q10 => rt [.sc] [q8] k)) [a0, a1, (I 0), (I 0)]
 | _, _ => False
abbrev laws_heldStringS_e : Ent := ⟨[75], laws_heldStringS⟩
def laws_heldStringS_l : List LE := [⟨0, ⟨[(0, .one (.pv (.bool false))), (1, .one (.pv (.bool false))), (4, .one (.pv (.bool false))), (5, .one (.pv (.bool false)))], [], [], 0, 22⟩, fun K k v => laws_heldStringS_r0 v K (k .ret ⟨[(4, .one (.pv (I (-1))))], [], [], 1, 22⟩) (fun x0 x1 x2 x3 => k (.exit 0) ⟨[(0, .one (.pv x0)), (1, .one (.pv x1)), (4, .one (.pv x2)), (5, .one (.pv x3))], [], [], 0, 22⟩)⟩]
theorem laws_heldStringS_s : LEsOK (orac [laws_markText_e]) TT (kk [0, 1, 4, 5]) (sumsOf laws_heldStringS_l) Tryz.f75 laws_heldStringS_l := ⟨fun v K k h => by
  apply un_all h; exact fun v0 v1 v2 v3 h => Eq.mpr (by kernel_rfl) h
  , trivial⟩
theorem laws_heldStringS_w : EntOK Tryz.prog TT laws_heldStringS_e := ent_ok tabok (L := [laws_markText_e]) ⟨laws_markText_w, trivial⟩ (keep := (kk [0, 1, 4, 5])) (l := laws_heldStringS_l) Tryz.func75 (by kernel_rfl) (sg := [.one (.sc)]) (by kernel_rfl) laws_heldStringS_s fun av k h => by
  unfold laws_heldStringS at h; split at h
  · exact Eq.mpr (by kernel_rfl) h
  · exact h.elim

def laws_heldEntryS_r0 (v : List PV) (K : List PV → Prop) (x0k : Prop) (x1k : Prop) (x2k : PV → PV → PV → PV → Prop) : Prop :=
 un 4 (fun v0 v1 v2 v3 =>
  lenP v0 fun r0 =>
  binP .lss v3 r0 fun r1 =>
  iteP r1
   (elemP 4 v0 v3 fun c2 =>
   call laws_markText [.one v1] fun o3 =>
   binP .neq (atP c2 0) (atP o3 0) fun r4 =>
   iteP r4
    (x0k)
    (binP .add v1 (I 1) fun r5 =>
    elemP 4 v0 v3 fun c6 =>
    binP .neq (atP c6 1) r5 fun r7 =>
    iteP r7
     (x0k)
     (binP .add r5 (I 1) fun r8 =>
     elemP 4 v0 v3 fun c9 =>
     binP .neq (atP c9 2) r8 fun r10 =>
     iteP r10
      (x0k)
      (binP .add r8 (I 1) fun r11 =>
      elemP 4 v0 v3 fun c12 =>
      call laws_heldStringS [.one (atP c12 3), .one r11] fun o13 =>
      binP .lss (atP o13 0) (I 0) fun r14 =>
      iteP r14
       (x1k)
       (binP .add v3 (I 1) fun r15 =>
       K [v0, (atP o13 0), v2, r15])))))
   (x2k v0 v1 v2 v3)) v
def laws_heldEntryS : GM
 | [.one a0, .one a1], k => 
  lp (fun L w => laws_heldEntryS_r0 w L
   (rt [.sc] [(I (-1))] k)
   (rt [.sc] [(I (-1))] k)
   (fun q16 q17 q18 q19 => rt [.sc] [q17] k)) [a0, a1, (I 0), (I 0)]
 | _, _ => False
abbrev laws_heldEntryS_e : Ent := ⟨[65], laws_heldEntryS⟩
def laws_heldEntryS_l : List LE := [⟨0, ⟨[(0, .one (.pv (.bool false))), (1, .one (.pv (.bool false))), (4, .one (.pv (.bool false))), (5, .one (.pv (.bool false)))], [], [], 0, 50⟩, fun K k v => laws_heldEntryS_r0 v K (k .ret ⟨[(4, .one (.pv (I (-1))))], [], [], 1, 50⟩) (k .ret ⟨[(4, .one (.pv (I (-1))))], [], [], 2, 50⟩) (fun x0 x1 x2 x3 => k (.exit 0) ⟨[(0, .one (.pv x0)), (1, .one (.pv x1)), (4, .one (.pv x2)), (5, .one (.pv x3))], [], [], 0, 50⟩)⟩]
theorem laws_heldEntryS_s : LEsOK (orac [laws_markText_e, laws_heldStringS_e]) TT (kk [0, 1, 4, 5]) (sumsOf laws_heldEntryS_l) Tryz.f65 laws_heldEntryS_l := ⟨fun v K k h => by
  apply un_all h; exact fun v0 v1 v2 v3 h => Eq.mpr (by kernel_rfl) h
  , trivial⟩
theorem laws_heldEntryS_w : EntOK Tryz.prog TT laws_heldEntryS_e := ent_ok tabok (L := [laws_markText_e, laws_heldStringS_e]) ⟨laws_markText_w, laws_heldStringS_w, trivial⟩ (keep := (kk [0, 1, 4, 5])) (l := laws_heldEntryS_l) Tryz.func65 (by kernel_rfl) (sg := [.one (.sc)]) (by kernel_rfl) laws_heldEntryS_s fun av k h => by
  unfold laws_heldEntryS at h; split at h
  · exact Eq.mpr (by kernel_rfl) h
  · exact h.elim

def laws_heldZone : GM
 | [.agg u0, .one a2], k => un 2 (fun a0 a1 => 
  call laws_heldSignedS [.one a0, .one a2] fun o0 =>
  binP .lss (atP o0 0) (I 0) fun r1 =>
  iteP r1
   (rt [.sc] [(I (-1))] k)
   (call laws_heldEntryS [.one a1, .one (atP o0 0)] fun o2 =>
   binP .lss (atP o2 0) (I 0) fun r3 =>
   iteP r3
    (rt [.sc] [(I (-1))] k)
    (rt [.sc] [(atP o2 0)] k))) u0
 | _, _ => False
abbrev laws_heldZone_e : Ent := ⟨[19], laws_heldZone⟩
theorem laws_heldZone_w : EntOK Tryz.prog TT laws_heldZone_e := ent_ok tabok (L := [laws_heldSignedS_e, laws_heldEntryS_e]) ⟨laws_heldSignedS_w, laws_heldEntryS_w, trivial⟩ (keep := []) (l := []) Tryz.func19 (by kernel_rfl) (sg := [.one (.sc)]) (by kernel_rfl) trivial fun av k h => by
  unfold laws_heldZone at h; split at h
  · apply un_all h; clear h; intro a0 a1 h; exact Eq.mpr (by kernel_rfl) h
  · exact h.elim

def laws_FnExactZoneAt : GM
 | [.agg u0, .one a8], k => un 8 (fun a0 a1 a2 a3 a4 a5 a6 a7 => 
  call laws_szWorld [.agg [a0, a1, a2, a3, a4, a5, a6, a7], .one (I 1048576)] fun o0 =>
  binP .lss (atP o0 0) (I 0) fun r1 =>
  iteP r1
   (rt [.sc] [(.bool true)] k)
   (call laws_toWorld [.agg [a0, a1, a2, a3, a4, a5, a6, a7]] fun o2 =>
   call spec_ZoneAt [.agg [(atP o2 0), (atP o2 1), (atP o2 2), (atP o2 3), (atP o2 4), (atP o2 5), (atP o2 6), (atP o2 7)], .one a8] fun o3 =>
   call laws_toWorld [.agg [a0, a1, a2, a3, a4, a5, a6, a7]] fun o4 =>
   call impl_ZoneAt [.agg [(atP o4 0), (atP o4 1), (atP o4 2), (atP o4 3), (atP o4 4), (atP o4 5), (atP o4 6), (atP o4 7)], .one a8] fun o5 =>
   call laws_eqZone [.agg [(atP o5 0), (atP o5 1)], .agg [(atP o3 0), (atP o3 1)]] fun o6 =>
   unP .not (atP o6 0) fun r7 =>
   iteP r7
    (rt [.sc] [(.bool false)] k)
    (boolP .neq (atP o5 2) (atP o3 2) fun r8 =>
    iteP r8
     (rt [.sc] [(.bool false)] k)
     (call laws_toWorld [.agg [a0, a1, a2, a3, a4, a5, a6, a7]] fun o9 =>
     call laws_eqWorld [.agg [(atP o4 0), (atP o4 1), (atP o4 2), (atP o4 3), (atP o4 4), (atP o4 5), (atP o4 6), (atP o4 7)], .agg [(atP o9 0), (atP o9 1), (atP o9 2), (atP o9 3), (atP o9 4), (atP o9 5), (atP o9 6), (atP o9 7)]] fun o10 =>
     unP .not (atP o10 0) fun r11 =>
     iteP r11
      (rt [.sc] [(.bool false)] k)
      ((flatCond [.pv (I 0), .nil 150 1, .nil 60 2, .nil 154 3, .nil 73 2, .nil 57 1, .nil 207 51, .nil 210 23] [.pv (atP o4 0), .own 15, .own 16, .own 17, .own 18, .own 19, .own 20, .own 21]) ∧ call laws_markWorld [.agg [(atP o4 0), (atP o4 1), (atP o4 2), (atP o4 3), (atP o4 4), (atP o4 5), (atP o4 6), (atP o4 7)], .one (I 1)] fun o12 =>
      binP .lss (atP o12 8) (I 0) fun r13 =>
      iteP r13
       (rt [.sc] [(.bool false)] k)
       (call laws_eqZone [.agg [(atP o5 0), (atP o5 1)], .agg [(atP o3 0), (atP o3 1)]] fun o14 =>
       unP .not (atP o14 0) fun r15 =>
       iteP r15
        (rt [.sc] [(.bool false)] k)
        (boolP .neq (atP o5 2) (atP o3 2) fun r16 =>
        iteP r16
         (rt [.sc] [(.bool false)] k)
         ((flatCond [.nil 148 17, .nil 117 4] [.own 23, .own 24]) ∧ call laws_markZone [.agg [(atP o5 0), (atP o5 1)], .one (I 1)] fun o17 =>
         call laws_heldZone [.agg [(atP o17 0), (atP o17 1)], .one (I 1)] fun o18 =>
         binP .lss (atP o18 0) (I 0) fun r19 =>
         iteP r19
          (rt [.sc] [(.bool false)] k)
          (binP .neq (atP o18 0) (atP o17 2) fun r20 =>
          iteP r20
           (rt [.sc] [(.bool false)] k)
           (call laws_toWorld [.agg [a0, a1, a2, a3, a4, a5, a6, a7]] fun o21 =>
           call impl_ZoneAt [.agg [(atP o21 0), (atP o21 1), (atP o21 2), (atP o21 3), (atP o21 4), (atP o21 5), (atP o21 6), (atP o21 7)], .one a8] fun o22 =>
           call laws_eqZone [.agg [(atP o22 0), (atP o22 1)], .agg [(atP o3 0), (atP o3 1)]] fun o23 =>
           unP .not (atP o23 0) fun r24 =>
           iteP r24
            (rt [.sc] [(.bool false)] k)
            (boolP .neq (atP o22 2) (atP o3 2) fun r25 =>
            iteP r25
             (rt [.sc] [(.bool false)] k)
             (call laws_heldZone [.agg [(atP o17 0), (atP o17 1)], .one (I 1)] fun o26 =>
             binP .lss (atP o26 0) (I 0) fun r27 =>
             iteP r27
              (rt [.sc] [(.bool false)] k)
              (binP .neq (atP o26 0) (atP o17 2) fun r28 =>
              iteP r28
               (rt [.sc] [(.bool false)] k)
               (rt [.sc] [(.bool true)] k)))))))))))))) u0
 | _, _ => False
abbrev laws_FnExactZoneAt_e : Ent := ⟨[4], laws_FnExactZoneAt⟩
theorem laws_FnExactZoneAt_w : EntOK Tryz.prog TT laws_FnExactZoneAt_e := ent_ok tabok (L := [laws_szWorld_e, laws_toWorld_e, spec_ZoneAt_e, impl_ZoneAt_e, laws_eqZone_e, laws_eqWorld_e, laws_markWorld_e, laws_markZone_e, laws_heldZone_e]) ⟨laws_szWorld_w, laws_toWorld_w, spec_ZoneAt_w, impl_ZoneAt_w, laws_eqZone_w, laws_eqWorld_w, laws_markWorld_w, laws_markZone_w, laws_heldZone_w, trivial⟩ (keep := []) (l := []) Tryz.func4 (by kernel_rfl) (sg := [.one (.sc)]) (by kernel_rfl) trivial fun av k h => by
  unfold laws_FnExactZoneAt at h; split at h
  · apply un_all h; clear h; intro a0 a1 a2 a3 a4 a5 a6 a7 h; exact Eq.mpr (by kernel_rfl) h
  · exact h.elim


end Go.Ev
