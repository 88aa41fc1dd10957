/- The tables of this load, and for each function the meaning that the evaluator gives it, with its proof, part 1. -/
import Derived.Test.YtneadmcfnlilmaaGreatEv4
import Derived.Lib.ItoaNum
import Derived.Shelf.Small.Strs
import Derived.Test.YtneadmcfnlilmaaGreatProg
namespace Go.Ev
open Go.Proofs
def TT : Tab := ⟨[(2, tI),
  (3, tI),
  (4, tB),
  (5, ⟨false, 1, 0, 1, [], [.pv (.int .u8 0)], some .u8, 0, false⟩),
  (6, ⟨false, 1, 0, 1, [], [.pv (.int .u8 0)], some .u8, 0, false⟩),
  (7, ⟨true, 4, 0, 24, [(0, 2), (1, 3), (2, 4), (3, 6)], [zI, zI, zB, .pv (.int .u8 0)], none, 0, true⟩),
  (8, ⟨true, 4, 0, 24, [(0, 2), (1, 3), (2, 4), (3, 6)], [zI, zI, zB, .pv (.int .u8 0)], none, 0, true⟩),
  (9, tS),
  (10, tS),
  (11, tS),
  (12, ⟨false, 1, 0, 8, [], [.pv (.int .u64 0)], some .u64, 0, false⟩),
  (13, ⟨true, 2, 0, 24, [(0, 9), (1, 12)], [zS, .pv (.int .u64 0)], none, 0, false⟩),
  (14, ⟨true, 2, 0, 24, [(0, 9), (1, 12)], [zS, .pv (.int .u64 0)], none, 0, false⟩),
  (21, ⟨false, 1, 0, 4, [], [.pv (.int .i32 0)], some .i32, 0, false⟩),
  (22, ⟨false, 1, 130, 24, [], [.nil 130 1], none, 0, false⟩),
  (23, ⟨false, 1, 135, 24, [], [.nil 135 2], none, 0, false⟩),
  (24, ⟨false, 1, 138, 24, [], [.nil 138 3], none, 0, false⟩),
  (25, ⟨false, 1, 66, 24, [], [.nil 66 2], none, 0, false⟩),
  (26, ⟨false, 1, 132, 24, [], [.nil 132 1], none, 0, false⟩),
  (27, ⟨false, 1, 192, 24, [], [.nil 192 51], none, 0, false⟩),
  (28, ⟨true, 2, 0, 48, [(0, 26), (1, 27)], [.nil 132 1, .nil 192 51], none, 0, false⟩),
  (29, ⟨true, 2, 0, 48, [(0, 26), (1, 27)], [.nil 132 1, .nil 192 51], none, 0, false⟩),
  (30, ⟨false, 1, 201, 24, [], [.nil 201 23], none, 0, false⟩),
  (31, ⟨true, 1, 0, 24, [(0, 30)], [.nil 201 23], none, 0, false⟩),
  (32, ⟨true, 1, 0, 24, [(0, 30)], [.nil 201 23], none, 0, false⟩),
  (33, ⟨true, 8, 0, 176, [(0, 3), (1, 22), (2, 23), (3, 24), (4, 25), (5, 29), (7, 32)], [zI, .nil 130 1, .nil 135 2, .nil 138 3, .nil 66 2, .nil 132 1, .nil 192 51, .nil 201 23], none, 0, false⟩),
  (34, ⟨true, 8, 0, 176, [(0, 3), (1, 22), (2, 23), (3, 24), (4, 25), (5, 29), (7, 32)], [zI, .nil 130 1, .nil 135 2, .nil 138 3, .nil 66 2, .nil 132 1, .nil 192 51, .nil 201 23], none, 0, false⟩),
  (36, ⟨false, 1, 3, 24, [], [.nil 3 1], none, 0, false⟩),
  (38, ⟨false, 1, 150, 24, [], [.nil 150 1], none, 0, false⟩),
  (39, ⟨false, 1, 60, 24, [], [.nil 60 2], none, 0, false⟩),
  (40, ⟨false, 1, 154, 24, [], [.nil 154 3], none, 0, false⟩),
  (41, ⟨false, 1, 73, 24, [], [.nil 73 2], none, 0, false⟩),
  (42, ⟨false, 1, 57, 24, [], [.nil 57 1], none, 0, false⟩),
  (43, ⟨false, 1, 207, 24, [], [.nil 207 51], none, 0, false⟩),
  (44, ⟨true, 2, 0, 48, [(0, 42), (1, 43)], [.nil 57 1, .nil 207 51], none, 0, false⟩),
  (45, ⟨true, 2, 0, 48, [(0, 42), (1, 43)], [.nil 57 1, .nil 207 51], none, 0, false⟩),
  (46, ⟨false, 1, 210, 24, [], [.nil 210 23], none, 0, false⟩),
  (47, ⟨true, 1, 0, 24, [(0, 46)], [.nil 210 23], none, 0, false⟩),
  (48, ⟨true, 1, 0, 24, [(0, 46)], [.nil 210 23], none, 0, false⟩),
  (49, ⟨true, 8, 0, 176, [(0, 3), (1, 38), (2, 39), (3, 40), (4, 41), (5, 45), (7, 48)], [zI, .nil 150 1, .nil 60 2, .nil 154 3, .nil 73 2, .nil 57 1, .nil 207 51, .nil 210 23], none, 0, false⟩),
  (50, ⟨true, 8, 0, 176, [(0, 3), (1, 38), (2, 39), (3, 40), (4, 41), (5, 45), (7, 48)], [zI, .nil 150 1, .nil 60 2, .nil 154 3, .nil 73 2, .nil 57 1, .nil 207 51, .nil 210 23], none, 0, false⟩),
  (57, ⟨false, 1, 148, 24, [], [.nil 148 17], none, 0, false⟩),
  (58, ⟨false, 1, 117, 24, [], [.nil 117 4], none, 0, false⟩),
  (59, ⟨true, 2, 0, 48, [(0, 57), (1, 58)], [.nil 148 17, .nil 117 4], none, 0, false⟩),
  (60, ⟨true, 2, 0, 48, [(0, 57), (1, 58)], [.nil 148 17, .nil 117 4], none, 0, false⟩),
  (65, ⟨true, 2, 0, 32, [(0, 23), (1, 3)], [.nil 135 2, zI], none, 0, false⟩),
  (66, ⟨true, 2, 0, 32, [(0, 23), (1, 3)], [.nil 135 2, zI], none, 0, false⟩),
  (67, ⟨true, 2, 0, 16, [(0, 3), (1, 3)], [zI, zI], none, 0, true⟩),
  (68, ⟨true, 2, 0, 16, [(0, 3), (1, 3)], [zI, zI], none, 0, true⟩),
  (70, ⟨false, 1, 123, 24, [], [.nil 123 21], none, 0, false⟩),
  (72, ⟨true, 2, 0, 32, [(0, 39), (1, 3)], [.nil 60 2, zI], none, 0, false⟩),
  (73, ⟨true, 2, 0, 32, [(0, 39), (1, 3)], [.nil 60 2, zI], none, 0, false⟩),
  (75, ⟨true, 2, 0, 16, [(0, 3), (1, 3)], [zI, zI], none, 0, true⟩),
  (115, ⟨false, 1, 9, 24, [], [.nil 9 1], none, 0, false⟩),
  (116, ⟨true, 4, 0, 56, [(0, 9), (1, 3), (2, 3), (3, 115)], [zS, zI, zI, .nil 9 1], none, 0, false⟩),
  (117, ⟨true, 4, 0, 56, [(0, 9), (1, 3), (2, 3), (3, 115)], [zS, zI, zI, .nil 9 1], none, 0, false⟩),
  (118, ⟨true, 2, 0, 32, [(0, 3), (1, 36)], [zI, .nil 3 1], none, 0, false⟩),
  (119, ⟨true, 2, 0, 32, [(0, 3), (1, 36)], [zI, .nil 3 1], none, 0, false⟩),
  (120, ⟨true, 13, 0, 184, [(0, 3), (1, 117), (5, 117), (9, 119), (11, 119)], [zI, zS, zI, zI, .nil 9 1, zS, zI, zI, .nil 9 1, zI, .nil 3 1, zI, .nil 3 1], none, 0, false⟩),
  (121, ⟨true, 13, 0, 184, [(0, 3), (1, 117), (5, 117), (9, 119), (11, 119)], [zI, zS, zI, zI, .nil 9 1, zS, zI, zI, .nil 9 1, zI, .nil 3 1, zI, .nil 3 1], none, 0, false⟩),
  (122, ⟨true, 21, 0, 304, [(0, 57), (1, 4), (2, 117), (6, 119), (8, 121)], [.nil 148 17, zB, zS, zI, zI, .nil 9 1, zI, .nil 3 1, zI, zS, zI, zI, .nil 9 1, zS, zI, zI, .nil 9 1, zI, .nil 3 1, zI, .nil 3 1], none, 0, false⟩),
  (123, ⟨true, 21, 0, 304, [(0, 57), (1, 4), (2, 117), (6, 119), (8, 121)], [.nil 148 17, zB, zS, zI, zI, .nil 9 1, zI, .nil 3 1, zI, zS, zI, zI, .nil 9 1, zS, zI, zI, .nil 9 1, zI, .nil 3 1, zI, .nil 3 1], none, 0, false⟩),
  (129, ⟨true, 1, 0, 24, [(0, 36)], [.nil 3 1], none, 0, false⟩),
  (130, ⟨true, 1, 0, 24, [(0, 36)], [.nil 3 1], none, 0, false⟩),
  (132, ⟨false, 1, 190, 24, [], [.nil 190 17], none, 0, false⟩),
  (133, ⟨false, 1, 194, 24, [], [.nil 194 4], none, 0, false⟩),
  (134, ⟨true, 2, 0, 48, [(0, 132), (1, 133)], [.nil 190 17, .nil 194 4], none, 0, false⟩),
  (135, ⟨true, 2, 0, 48, [(0, 132), (1, 133)], [.nil 190 17, .nil 194 4], none, 0, false⟩),
  (137, ⟨true, 3, 0, 72, [(0, 135), (2, 36)], [.nil 190 17, .nil 194 4, .nil 3 1], none, 0, false⟩),
  (138, ⟨true, 3, 0, 72, [(0, 135), (2, 36)], [.nil 190 17, .nil 194 4, .nil 3 1], none, 0, false⟩),
  (142, ⟨true, 2, 0, 32, [(0, 36), (1, 3)], [.nil 3 1, zI], none, 0, false⟩),
  (143, ⟨true, 2, 0, 32, [(0, 36), (1, 3)], [.nil 3 1, zI], none, 0, false⟩),
  (144, ⟨true, 16, 0, 176, [(0, 3), (1, 3), (2, 3), (3, 3), (4, 3), (5, 3), (6, 3), (7, 3), (8, 143), (10, 143), (12, 3), (13, 143), (15, 4)], [zI, zI, zI, zI, zI, zI, zI, zI, .nil 3 1, zI, .nil 3 1, zI, zI, .nil 3 1, zI, zB], none, 0, false⟩),
  (145, ⟨true, 16, 0, 176, [(0, 3), (1, 3), (2, 3), (3, 3), (4, 3), (5, 3), (6, 3), (7, 3), (8, 143), (10, 143), (12, 3), (13, 143), (15, 4)], [zI, zI, zI, zI, zI, zI, zI, zI, .nil 3 1, zI, .nil 3 1, zI, zI, .nil 3 1, zI, zB], none, 0, false⟩),
  (146, ⟨false, 1, 222, 24, [], [.nil 222 2], none, 0, false⟩),
  (147, ⟨true, 17, 0, 200, [(0, 145), (16, 146)], [zI, zI, zI, zI, zI, zI, zI, zI, .nil 3 1, zI, .nil 3 1, zI, zI, .nil 3 1, zI, zB, .nil 222 2], none, 0, false⟩),
  (148, ⟨true, 17, 0, 200, [(0, 145), (16, 146)], [zI, zI, zI, zI, zI, zI, zI, zI, .nil 3 1, zI, .nil 3 1, zI, zI, .nil 3 1, zI, zB, .nil 222 2], none, 0, false⟩),
  (150, ⟨true, 1, 0, 24, [(0, 36)], [.nil 3 1], none, 0, false⟩),
  (153, ⟨true, 3, 0, 72, [(0, 60), (2, 36)], [.nil 148 17, .nil 117 4, .nil 3 1], none, 0, false⟩),
  (154, ⟨true, 3, 0, 72, [(0, 60), (2, 36)], [.nil 148 17, .nil 117 4, .nil 3 1], none, 0, false⟩),
  (181, ⟨false, 1, 5, 24, [], [.nil 5 1], none, 2, false⟩),
  (185, ⟨true, 2, 0, 32, [(0, 36), (1, 3)], [.nil 3 1, zI], none, 0, false⟩),
  (186, ⟨true, 16, 0, 176, [(0, 3), (1, 3), (2, 3), (3, 3), (4, 3), (5, 3), (6, 3), (7, 3), (8, 185), (10, 185), (12, 3), (13, 185), (15, 4)], [zI, zI, zI, zI, zI, zI, zI, zI, .nil 3 1, zI, .nil 3 1, zI, zI, .nil 3 1, zI, zB], none, 0, false⟩),
  (187, ⟨true, 16, 0, 176, [(0, 3), (1, 3), (2, 3), (3, 3), (4, 3), (5, 3), (6, 3), (7, 3), (8, 185), (10, 185), (12, 3), (13, 185), (15, 4)], [zI, zI, zI, zI, zI, zI, zI, zI, .nil 3 1, zI, .nil 3 1, zI, zI, .nil 3 1, zI, zB], none, 0, false⟩),
  (188, ⟨false, 1, 270, 24, [], [.nil 270 2], none, 0, false⟩),
  (189, ⟨true, 17, 0, 200, [(0, 187), (16, 188)], [zI, zI, zI, zI, zI, zI, zI, zI, .nil 3 1, zI, .nil 3 1, zI, zI, .nil 3 1, zI, zB, .nil 270 2], none, 0, false⟩),
  (190, ⟨true, 17, 0, 200, [(0, 187), (16, 188)], [zI, zI, zI, zI, zI, zI, zI, zI, .nil 3 1, zI, .nil 3 1, zI, zI, .nil 3 1, zI, zB, .nil 270 2], none, 0, false⟩),
  (191, ⟨true, 51, 0, 600, [(0, 190), (17, 190), (34, 190)], [zI, zI, zI, zI, zI, zI, zI, zI, .nil 3 1, zI, .nil 3 1, zI, zI, .nil 3 1, zI, zB, .nil 270 2, zI, zI, zI, zI, zI, zI, zI, zI, .nil 3 1, zI, .nil 3 1, zI, zI, .nil 3 1, zI, zB, .nil 270 2, zI, zI, zI, zI, zI, zI, zI, zI, .nil 3 1, zI, .nil 3 1, zI, zI, .nil 3 1, zI, zB, .nil 270 2], none, 0, false⟩),
  (192, ⟨true, 51, 0, 600, [(0, 190), (17, 190), (34, 190)], [zI, zI, zI, zI, zI, zI, zI, zI, .nil 3 1, zI, .nil 3 1, zI, zI, .nil 3 1, zI, zB, .nil 270 2, zI, zI, zI, zI, zI, zI, zI, zI, .nil 3 1, zI, .nil 3 1, zI, zI, .nil 3 1, zI, zB, .nil 270 2, zI, zI, zI, zI, zI, zI, zI, zI, .nil 3 1, zI, .nil 3 1, zI, zI, .nil 3 1, zI, zB, .nil 270 2], none, 0, false⟩),
  (194, ⟨true, 4, 0, 56, [(0, 9), (1, 3), (2, 3), (3, 115)], [zS, zI, zI, .nil 9 1], none, 0, false⟩),
  (195, ⟨true, 2, 0, 32, [(0, 3), (1, 36)], [zI, .nil 3 1], none, 0, false⟩),
  (196, ⟨true, 13, 0, 184, [(0, 3), (1, 194), (5, 194), (9, 195), (11, 195)], [zI, zS, zI, zI, .nil 9 1, zS, zI, zI, .nil 9 1, zI, .nil 3 1, zI, .nil 3 1], none, 0, false⟩),
  (197, ⟨true, 13, 0, 184, [(0, 3), (1, 194), (5, 194), (9, 195), (11, 195)], [zI, zS, zI, zI, .nil 9 1, zS, zI, zI, .nil 9 1, zI, .nil 3 1, zI, .nil 3 1], none, 0, false⟩),
  (198, ⟨true, 21, 0, 304, [(0, 132), (1, 4), (2, 194), (6, 195), (8, 197)], [.nil 190 17, zB, zS, zI, zI, .nil 9 1, zI, .nil 3 1, zI, zS, zI, zI, .nil 9 1, zS, zI, zI, .nil 9 1, zI, .nil 3 1, zI, .nil 3 1], none, 0, false⟩),
  (199, ⟨true, 21, 0, 304, [(0, 132), (1, 4), (2, 194), (6, 195), (8, 197)], [.nil 190 17, zB, zS, zI, zI, .nil 9 1, zI, .nil 3 1, zI, zS, zI, zI, .nil 9 1, zS, zI, zI, .nil 9 1, zI, .nil 3 1, zI, .nil 3 1], none, 0, false⟩),
  (200, ⟨true, 23, 0, 328, [(0, 3), (1, 9), (2, 199)], [zI, zS, .nil 190 17, zB, zS, zI, zI, .nil 9 1, zI, .nil 3 1, zI, zS, zI, zI, .nil 9 1, zS, zI, zI, .nil 9 1, zI, .nil 3 1, zI, .nil 3 1], none, 0, false⟩),
  (201, ⟨true, 23, 0, 328, [(0, 3), (1, 9), (2, 199)], [zI, zS, .nil 190 17, zB, zS, zI, zI, .nil 9 1, zI, .nil 3 1, zI, zS, zI, zI, .nil 9 1, zS, zI, zI, .nil 9 1, zI, .nil 3 1, zI, .nil 3 1], none, 0, false⟩),
  (206, ⟨true, 51, 0, 600, [(0, 148), (17, 148), (34, 148)], [zI, zI, zI, zI, zI, zI, zI, zI, .nil 3 1, zI, .nil 3 1, zI, zI, .nil 3 1, zI, zB, .nil 222 2, zI, zI, zI, zI, zI, zI, zI, zI, .nil 3 1, zI, .nil 3 1, zI, zI, .nil 3 1, zI, zB, .nil 222 2, zI, zI, zI, zI, zI, zI, zI, zI, .nil 3 1, zI, .nil 3 1, zI, zI, .nil 3 1, zI, zB, .nil 222 2], none, 0, false⟩),
  (207, ⟨true, 51, 0, 600, [(0, 148), (17, 148), (34, 148)], [zI, zI, zI, zI, zI, zI, zI, zI, .nil 3 1, zI, .nil 3 1, zI, zI, .nil 3 1, zI, zB, .nil 222 2, zI, zI, zI, zI, zI, zI, zI, zI, .nil 3 1, zI, .nil 3 1, zI, zI, .nil 3 1, zI, zB, .nil 222 2, zI, zI, zI, zI, zI, zI, zI, zI, .nil 3 1, zI, .nil 3 1, zI, zI, .nil 3 1, zI, zB, .nil 222 2], none, 0, false⟩),
  (209, ⟨true, 23, 0, 328, [(0, 3), (1, 9), (2, 123)], [zI, zS, .nil 148 17, zB, zS, zI, zI, .nil 9 1, zI, .nil 3 1, zI, zS, zI, zI, .nil 9 1, zS, zI, zI, .nil 9 1, zI, .nil 3 1, zI, .nil 3 1], none, 0, false⟩),
  (210, ⟨true, 23, 0, 328, [(0, 3), (1, 9), (2, 123)], [zI, zS, .nil 148 17, zB, zS, zI, zI, .nil 9 1, zI, .nil 3 1, zI, zS, zI, zI, .nil 9 1, zS, zI, zI, .nil 9 1, zI, .nil 3 1, zI, .nil 3 1], none, 0, false⟩),
  (221, ⟨true, 2, 0, 16, [(0, 3), (1, 3)], [zI, zI], none, 0, true⟩),
  (222, ⟨true, 2, 0, 16, [(0, 3), (1, 3)], [zI, zI], none, 0, true⟩),
  (270, ⟨true, 2, 0, 16, [(0, 3), (1, 3)], [zI, zI], none, 0, true⟩),
  (294, ⟨false, 1, 36, 24, [], [.nil 36 1], none, 0, false⟩),
  (303, ⟨false, 1, 0, 4, [], [.pv (.int .u32 0)], some .u32, 0, false⟩),
  (304, ⟨false, 1, 0, 1, [], [.pv (.int .u8 0)], some .u8, 0, false⟩),
  (305, ⟨false, 1, 0, 1, [], [.pv (.int .u8 0)], some .u8, 0, false⟩),
  (308, ⟨false, 1, 0, 4, [], [.pv (.int .i32 0)], some .i32, 0, false⟩),
  (309, ⟨false, 1, 0, 4, [], [.pv (.int .i32 0)], some .i32, 0, false⟩)],
  [(0, []), (1, []), (2, []), (3, [.one (.sc)]), (4, [.one (.sc)]), (5, [.one (.sc)]), (6, [.one (.sc)]), (7, [.one (.own true 3 1)]), (8, [.agg [.sc, .own true 150 1, .own true 60 2, .own true 154 3, .own true 73 2, .own true 57 1, .own true 207 51, .own true 210 23]]), (9, [.one (.own true 3 1)]), (10, [.one (.sc)]), (11, [.one (.sc)]), (12, [.agg []]), (13, [.agg []]), (14, [.one (.sc)]), (15, [.agg [.pv, .pv], .one (.sc)]), (16, [.agg [.own true 148 17, .own true 117 4], .one (.sc)]), (17, [.one (.sc)]), (18, [.agg []]), (19, [.one (.sc)]), (20, [.one (.sc)]), (21, [.one (.pv)]), (22, [.agg [.own true 60 2, .sc]]), (23, [.agg [.sc, .sc]]), (24, [.one (.own true 123 21)]), (25, [.one (.sc)]), (26, [.one (.sc)]), (27, [.agg []]), (28, [.agg []]), (29, [.one (.sc)]), (30, [.one (.sc)]), (31, [.one (.sc)]), (32, [.one (.sc)]), (33, [.one (.sc)]), (34, [.one (.sc)]), (35, [.one (.sc)]), (36, [.one (.sc)]), (37, [.one (.own true 150 1)]), (38, [.one (.own true 60 2)]), (39, [.one (.own true 154 3)]), (40, [.one (.own true 73 2)]), (41, [.agg [.own true 57 1, .own true 207 51]]), (42, [.agg [.own true 210 23]]), (43, [.one (.sc)]), (44, [.one (.sc)]), (45, [.one (.sc)]), (46, [.one (.sc)]), (47, [.one (.sc)]), (48, [.one (.sc)]), (49, [.one (.sc)]), (50, [.agg []]), (51, [.agg []]), (52, [.agg []]), (53, [.agg []]), (54, [.agg []]), (55, [.agg []]), (56, [.one (.sc)]), (57, [.agg [.pv, .pv]]), (58, [.one (.sc)]), (59, [.agg [.own true 148 17, .own true 117 4]]), (60, [.one (.sc)]), (61, [.one (.sc)]), (62, [.agg []]), (63, [.agg []]), (64, [.one (.sc)]), (65, [.one (.sc)]), (66, [.one (.sc)]), (67, [.one (.sc)]), (68, [.agg [.pv, .sc, .sc, .sc, .sc, .pv, .sc, .pv, .sc, .sc, .sc, .sc, .pv, .sc, .sc, .sc, .pv, .sc, .pv, .sc, .pv]]), (69, [.one (.sc)]), (70, [.one (.sc)]), (71, [.agg [.own true 148 17, .sc, .sc, .sc, .sc, .own true 9 1, .sc, .own true 3 1, .sc, .sc, .sc, .sc, .own true 9 1, .sc, .sc, .sc, .own true 9 1, .sc, .own true 3 1, .sc, .own true 3 1]]), (72, [.one (.sc)]), (73, [.one (.sc)]), (74, [.agg []]), (75, [.one (.sc)]), (76, [.one (.sc)]), (77, [.one (.sc)]), (78, [.one (.sc)]), (79, [.one (.sc)]), (80, [.one (.sc)]), (81, [.one (.sc)]), (82, [.one (.sc)]), (83, [.agg [.own true 3 1]]), (84, [.agg [.own true 148 17, .own true 117 4]]), (85, [.agg [.own true 148 17, .own true 117 4, .own true 3 1]]), (86, [.one (.own true 57 1)]), (87, [.one (.own true 207 51)]), (88, [.one (.own true 210 23)]), (89, [.agg [.sc, .sc, .sc, .sc, .sc, .sc, .sc, .sc, .pv, .sc, .pv, .sc, .sc, .pv, .sc, .sc]]), (90, [.one (.sc)]), (91, [.one (.sc)]), (92, [.one (.sc)]), (93, [.one (.sc)]), (94, [.one (.sc)]), (95, [.one (.sc)]), (96, [.agg []]), (97, [.agg []]), (98, [.agg []]), (99, [.one (.pv)]), (100, [.one (.pv)]), (101, [.one (.sc)]), (102, [.one (.own true 148 17)]), (103, [.one (.own true 117 4)]), (104, [.one (.sc)]), (105, [.one (.sc)]), (106, [.agg []]), (107, [.one (.sc)]), (108, [.one (.sc)]), (109, [.one (.sc)]), (110, [.one (.own true 3 1)]), (111, [.agg [.pv, .sc, .sc, .sc, .sc, .pv, .sc, .pv, .sc, .sc, .sc, .sc, .pv, .sc, .sc, .sc, .pv, .sc, .pv, .sc, .pv]]), (112, [.one (.sc)]), (113, [.one (.sc)]), (114, [.one (.sc)]), (115, [.one (.sc)]), (116, [.one (.own true 3 1)]), (117, [.agg [.own true 148 17, .sc, .sc, .sc, .sc, .own true 9 1, .sc, .own true 3 1, .sc, .sc, .sc, .sc, .own true 9 1, .sc, .sc, .sc, .own true 9 1, .sc, .own true 3 1, .sc, .own true 3 1]]), (118, [.one (.sc)]), (119, [.one (.sc)]), (120, [.one (.sc)]), (121, [.one (.sc)]), (122, [.one (.sc)]), (123, [.one (.sc)]), (124, [.one (.sc)]), (125, [.one (.sc)]), (126, [.one (.own true 3 1)]), (127, [.one (.own true 148 17)]), (128, [.one (.own true 117 4)]), (129, [.agg [.sc, .sc, .sc, .sc, .sc, .sc, .sc, .sc, .own true 3 1, .sc, .own true 3 1, .sc, .sc, .own true 3 1, .sc, .sc, .own true 222 2, .sc, .sc, .sc, .sc, .sc, .sc, .sc, .sc, .own true 3 1, .sc, .own true 3 1, .sc, .sc, .own true 3 1, .sc, .sc, .own true 222 2, .sc, .sc, .sc, .sc, .sc, .sc, .sc, .sc, .own true 3 1, .sc, .own true 3 1, .sc, .sc, .own true 3 1, .sc, .sc, .own true 222 2]]), (130, [.agg [.sc, .sc, .own true 148 17, .sc, .sc, .sc, .sc, .own true 9 1, .sc, .own true 3 1, .sc, .sc, .sc, .sc, .own true 9 1, .sc, .sc, .sc, .own true 9 1, .sc, .own true 3 1, .sc, .own true 3 1]]), (131, [.one (.sc)]), (132, [.one (.sc)]), (133, [.agg [.pv, .sc]]), (134, [.one (.sc)]), (135, [.one (.sc)]), (136, [.agg [.sc, .sc, .sc, .sc, .sc, .sc, .sc, .sc, .pv, .sc, .pv, .sc, .sc, .pv, .sc, .sc, .pv]]), (137, [.agg [.sc, .sc, .sc, .pv]]), (138, [.agg [.sc, .sc, .sc, .sc, .sc, .sc, .sc, .sc, .own true 3 1, .sc, .own true 3 1, .sc, .sc, .own true 3 1, .sc, .sc, .own true 222 2]]), (139, [.agg [.sc, .sc, .sc, .own true 9 1]]), (140, [.one (.sc)]), (141, [.one (.sc)]), (142, [.one (.sc)]), (143, [.agg [.sc, .sc, .sc, .sc, .sc, .sc, .sc, .sc, .pv, .sc, .pv, .sc, .sc, .pv, .sc, .sc], .one (.sc)]), (144, [.one (.sc)]), (145, [.one (.sc)]), (146, [.one (.own true 3 1)]), (147, [.one (.sc)]), (148, [.one (.sc)]), (149, [.agg [.sc, .pv], .one (.sc)]), (150, [.agg [.sc, .sc, .sc, .sc, .pv, .sc, .sc, .sc, .pv, .sc, .pv, .sc, .pv], .one (.sc)]), (151, [.one (.sc)]), (152, [.one (.sc)]), (153, [.one (.own true 3 1)]), (154, [.one (.sc)]), (155, [.one (.sc)]), (156, [.agg [.sc, .own true 3 1], .one (.sc)]), (157, [.agg [.sc, .sc, .sc, .sc, .own true 9 1, .sc, .sc, .sc, .own true 9 1, .sc, .own true 3 1, .sc, .own true 3 1], .one (.sc)]), (158, [.one (.sc)]), (159, [.one (.sc)]), (160, [.one (.sc)]), (161, [.one (.sc)]), (162, [.one (.sc)]), (163, [.agg [.sc, .sc, .sc, .sc, .sc, .sc, .sc, .sc, .own true 3 1, .sc, .own true 3 1, .sc, .sc, .own true 3 1, .sc, .sc, .own true 222 2]]), (164, [.agg [.sc, .sc, .sc, .own true 9 1]]), (165, [.agg [.own true 148 17, .sc, .sc, .sc, .sc, .own true 9 1, .sc, .own true 3 1, .sc, .sc, .sc, .sc, .own true 9 1, .sc, .sc, .sc, .own true 9 1, .sc, .own true 3 1, .sc, .own true 3 1]]), (166, [.one (.sc)]), (167, [.one (.sc)]), (168, [.agg [.sc, .sc, .sc, .sc, .sc, .sc, .sc, .sc, .pv, .sc, .pv, .sc, .sc, .pv, .sc, .sc]]), (169, [.one (.pv)]), (170, [.agg [.sc, .sc, .sc, .sc, .sc, .sc, .sc, .sc, .own true 3 1, .sc, .own true 3 1, .sc, .sc, .own true 3 1, .sc, .sc]]), (171, [.one (.own true 222 2)]), (172, [.one (.own true 9 1)]), (173, [.one (.sc)]), (174, [.one (.sc)]), (175, [.one (.sc)]), (176, [.one (.sc)]), (177, [.one (.own true 3 1)]), (178, [.one (.own true 3 1)]), (179, [.one (.sc)]), (180, [.one (.sc)]), (181, [.one (.sc)]), (182, [.one (.sc)]), (183, [.one (.sc)]), (184, [.one (.sc)]), (185, [.one (.own true 3 1)]), (186, [.one (.own true 3 1)]), (187, [.one (.sc)]), (188, [.one (.sc)]), (189, [.one (.sc)]), (190, [.one (.sc)]), (191, [.one (.sc)]), (192, [.one (.sc)]), (193, [.one (.sc)]), (194, [.agg [.sc, .sc, .sc, .sc, .sc, .sc, .sc, .sc, .own true 3 1, .sc, .own true 3 1, .sc, .sc, .own true 3 1, .sc, .sc]]), (195, [.one (.own true 222 2)]), (196, [.one (.own true 9 1)]), (197, [.agg [.sc, .own true 3 1]]), (198, [.agg [.sc, .sc, .sc, .sc, .own true 9 1, .sc, .sc, .sc, .own true 9 1, .sc, .own true 3 1, .sc, .own true 3 1]]), (199, [.one (.sc)]), (200, [.one (.sc)]), (201, [.one (.sc)]), (202, [.agg [.pv, .sc]]), (203, [.agg [.own true 3 1, .sc]]), (204, [.one (.sc)]), (205, [.one (.sc)]), (206, [.one (.own true 3 1)]), (207, [.one (.sc)]), (208, [.one (.sc)]), (209, [.one (.sc)]), (210, [.one (.sc)]), (211, [.one (.sc)]), (212, [.one (.own true 3 1)]), (213, [.one (.sc)]), (214, [.one (.sc)]), (215, [.one (.sc)]), (216, [.one (.sc)]), (217, [.agg [.own true 3 1, .sc]]), (218, [.agg [.sc, .sc]]), (219, [.one (.own true 3 1)]), (220, [.one (.sc)]), (221, [.one (.sc)]), (222, [.one (.sc)]), (223, [.one (.sc)]), (224, [.one (.sc)]), (225, [.one (.own true 3 1)]), (226, [.one (.sc)]), (227, [.one (.sc)]), (228, [.one (.sc)]), (229, [.one (.sc)]), (230, [.one (.sc)]), (231, [.one (.sc)]), (232, [.one (.own true 3 1)]), (233, [.one (.sc)]), (234, [.one (.sc)]), (235, [.one (.sc)]), (236, [.one (.sc)]), (237, [.one (.sc)]), (238, [.one (.sc)]), (239, [.one (.own true 3 1)]), (240, [.one (.sc)]), (241, [.one (.sc)]), (242, [.one (.sc)]), (243, [.one (.sc)]), (244, [.one (.sc)]), (245, [.one (.sc)]), (246, [.one (.sc)]), (247, [.one (.sc)]), (248, [.one (.sc)]), (249, [.one (.sc)]), (250, [.one (.own true 3 1)]), (251, [.one (.sc)]), (252, [.one (.sc)]), (253, [.one (.sc)]), (254, [.one (.sc)]), (255, [.one (.sc)]), (256, [.one (.sc)]), (257, [.one (.sc)]), (258, [.one (.sc)]), (259, [.one (.sc)]), (260, [.one (.own true 3 1)]), (261, [.one (.sc)]), (262, [.one (.own true 3 1)]), (263, [.one (.sc)]), (264, [.one (.sc)]), (265, [.one (.sc)]), (266, [.one (.sc)]), (267, [.one (.sc)]), (268, [.one (.sc)]), (269, [.one (.sc)]), (270, [.one (.sc)]), (271, [.one (.sc)]), (272, [.one (.sc)]), (273, [.one (.own true 3 1)]), (274, [.one (.sc)]), (275, [.one (.sc)]), (276, [.one (.sc)]), (277, [.one (.sc)]), (278, [.one (.sc)]), (279, [.one (.sc)]), (280, [.one (.sc)]), (281, [.one (.sc)]), (282, [.one (.sc)]), (283, [.one (.own true 3 1)]), (284, [.one (.sc)]), (285, [.one (.sc)]), (286, [.one (.sc)]), (287, [.one (.sc)]), (288, [.one (.sc)]), (289, [.one (.sc)]), (290, []), (291, [.one (.sc)]), (292, []), (293, [.one (.sc)]), (294, []), (295, [.one (.sc)]), (296, []), (297, [.one (.sc)]), (298, []), (299, [.one (.sc)]), (300, []), (301, [.one (.sc)]), (302, [.one (.sc)]), (303, []), (304, [.one (.sc)]), (305, [.one (.sc)]), (306, [.one (.sc)]), (307, [.one (.sc)]), (308, [.one (.sc)])], false, [283], [178], [148, 117, 123]⟩
theorem tabok : TabOK Tryz.prog TT := tabB_ok (by kernel_rfl) (by kernel_rfl)
end Go.Ev
set_option maxRecDepth 100000
set_option linter.unusedVariables false
namespace Go.Ev
open Go.Proofs
--@ laws_markText
def laws_markText_r0 (v : List PV) (K : List PV → Prop) (x0k : PV → PV → PV → Prop) : Prop :=
 un 3 (fun v0 v1 v2 =>
  binP .gtr v0 (I 0) fun r0 =>
  iteP r0
   (binP .rem v0 (I 10) fun r1 =>
   binP .add (I 48) r1 fun r2 =>
   convP .u8 r2 fun r3 =>
   (1 = 1) ∧ (1 ≤ 16777216) ∧ (1 = 1) ∧ (0 = 0) ∧ (1 = 1) ∧ (flatCond [.pv (.int .u8 0)] [.pv r3]) ∧ textP (.list 1 [[r3]]) fun r4 =>
   binP .add r4 v2 fun r5 =>
   binP .quo v0 (I 10) fun r6 =>
   K [r6, v1, r5])
   (x0k v0 v1 v2)) v
def laws_markText : GM
 | [.one a0], k => 
  binP .leq a0 (I 0) fun r0 =>
  iteP r0
   (rt [.sc] [(.str ⟨#[109, 48]⟩)] k)
   (lp (fun L w => laws_markText_r0 w L
    (fun q7 q8 q9 => binP .add (.str ⟨#[109]⟩) q9 fun r10 =>
     rt [.sc] [r10] k)) [a0, (.str ⟨#[]⟩), (.str ⟨#[]⟩)])
 | _, _ => False
abbrev laws_markText_e : Ent := ⟨[73], laws_markText⟩
def laws_markText_l : List LE := [⟨0, ⟨[(0, .one (.pv (.bool false))), (2, .one (.pv (.bool false))), (3, .one (.pv (.bool false)))], [], [], 0, 20⟩, fun K k v => laws_markText_r0 v K (fun x0 x1 x2 => k (.exit 0) ⟨[(0, .one (.pv x0)), (2, .one (.pv x1)), (3, .one (.pv x2))], [], [], 0, 20⟩)⟩]
theorem laws_markText_s : LEsOK (orac []) TT (kk [0, 2, 3]) (sumsOf laws_markText_l) Tryz.f73 laws_markText_l := ⟨fun v K k h => by
  apply un_all h; exact fun v0 v1 v2 h => Eq.mpr (by kernel_rfl) h
  , trivial⟩
theorem laws_markText_w : EntOK Tryz.prog TT laws_markText_e := ent_ok tabok (L := []) trivial (keep := (kk [0, 2, 3])) (l := laws_markText_l) Tryz.func73 (by kernel_rfl) (sg := [.one (.sc)]) (by kernel_rfl) laws_markText_s fun av k h => by
  unfold laws_markText at h; split at h
  · exact Eq.mpr (by kernel_rfl) h
  · exact h.elim

end Go.Ev
/- The texts of counts; the functions that mark what they are handed. -/
set_option maxRecDepth 100000
set_option linter.unusedVariables false
set_option linter.unusedSimpArgs false
namespace Go.Ev
open Go.Proofs
def mdigs (u : Nat) : List UInt8 := if u = 0 then [] else Go.Lib.decDigits u
theorem mdigs_step {u : Nat} (h : u ≠ 0) : mdigs u = mdigs (u / 10) ++ [UInt8.ofNat (48 + u % 10)] := by
  unfold mdigs
  rw [if_neg h]
  by_cases h1 : u < 10
  · rw [Go.Lib.decDigits_one h1, if_pos (by omega), show u % 10 = u by omega]; rfl
  · rw [if_neg (by omega), Go.Lib.decDigits, dif_neg h1]
theorem mdigs_len : ∀ (m u : Nat), u < 10 ^ m → (mdigs u).length ≤ m
  | 0, u, h => by
    have : u = 0 := by simpa using h
    subst this; simp [mdigs]
  | m + 1, u, h => by
    by_cases h0 : u = 0
    · subst h0; simp [mdigs]
    · rw [mdigs_step h0, List.length_append]
      have h2 : u / 10 < 10 ^ m := by rw [Nat.pow_succ] at h; omega
      have := mdigs_len m (u / 10) h2
      simp only [List.length_singleton]; omega
abbrev Sx (l : List UInt8) : PV := .str ⟨l.toArray⟩
theorem bin_strM (a b : List UInt8) (k : PV → Prop) : binP .add (Sx a) (Sx b) k = (a.length + b.length ≤ 9223372036854775807 ∧ k (Sx (a ++ b))) := by
  have e : (⟨a.toArray⟩ : ByteArray) ++ ⟨b.toArray⟩ = ⟨(a ++ b).toArray⟩ := by
    apply ByteArray.ext
    rw [ByteArray.data_append]
    simp
  have h1 : (⟨a.toArray⟩ : ByteArray).size = a.length := by simp [ByteArray.size]
  have h2 : (⟨b.toArray⟩ : ByteArray).size = b.length := by simp [ByteArray.size]
  show (_ ∧ k _) = _
  rw [h1, h2, e]
theorem text_oneM (n : Int) (k : PV → Prop) : textP (.list 1 [[.int .u8 n]]) k = k (Sx [UInt8.ofNat n.toNat]) := rfl
theorem u8_digitM {d : Nat} (h : d < 10) : IntKind.u8.wrap (48 + (d : Int)) = ((48 + d : Nat) : Int) := by
  have : ∀ d : Fin 10, IntKind.u8.wrap (48 + ((d : Nat) : Int)) = ((48 + (d : Nat) : Nat) : Int) := by decide
  exact this ⟨d, h⟩
theorem fc_u8M (n : Int) : flatCond [.pv (.int .u8 0)] [.pv (.int .u8 n)] := by intro x hx; simp at hx; subst hx; rfl
def mtx (n : Int) : ByteArray := if n ≤ 0 then ⟨#[109, 48]⟩ else ⟨([109] ++ mdigs n.toNat).toArray⟩
theorem mtx_lp (z : PV) (A : PV → Prop) : ∀ (m : Nat) (x : Nat) (s : List UInt8), x < 10 ^ m → x < 9223372036854775808 → s.length + m ≤ 1000 →
    (lp (fun L w => laws_markText_r0 w L (fun q7 q8 q9 => A q9)) [I x, z, Sx s] ↔ A (Sx (mdigs x ++ s)))
  | 0, x, s, h, hx, hs => by
    have h0 : x = 0 := by simpa using h
    subst h0
    refine itP_mono_end fun K => ?_
    simp [laws_markText_r0, mdigs]
  | m + 1, x, s, h, hx, hs => by
    by_cases h0 : x = 0
    · subst h0
      refine itP_mono_end fun K => ?_
      simp [laws_markText_r0, mdigs]
    · have hd : x % 10 < 10 := Nat.mod_lt _ (by omega)
      have hq : x / 10 < 10 ^ m := by rw [Nat.pow_succ] at h; omega
      have ih := mtx_lp z A m (x / 10) (UInt8.ofNat (48 + x % 10) :: s) hq (by omega) (by simp only [List.length_cons]; omega)
      have he : mdigs (x / 10) ++ (UInt8.ofNat (48 + x % 10) :: s) = mdigs x ++ s := by
        rw [mdigs_step (u := x) h0, List.append_assoc]; rfl
      rw [he] at ih
      refine (lp_step fun K => ?_).trans ih
      have hb : 1 + s.length ≤ 9223372036854775807 := by omega
      have e1 : (x : Int).tmod 10 = ((x % 10 : Nat) : Int) := by rw [Int.tmod_eq_emod_of_nonneg (by omega)]; rfl
      have e4 : (x : Int).tdiv 10 = ((x / 10 : Nat) : Int) := by rw [Int.tdiv_eq_ediv_of_nonneg (by omega)]; rfl
      have e2 : IntKind.i64.wrap (48 + ((x % 10 : Nat) : Int)) = 48 + ((x % 10 : Nat) : Int) := wr_eq (by omega) (by omega)
      have e3 := u8_digitM hd
      have e5 : IntKind.i64.wrap (((x / 10 : Nat) : Int)) = ((x / 10 : Nat) : Int) := wr_eq (by omega) (by omega)
      simp only [laws_markText_r0, un, cur0, binP_gtr, show (0 : Int) < (x : Int) by omega, decide_true, iteP_eq, if_true, binP_rem, e1, binP_add, e2, convP, e3, fc_u8M, text_oneM, bin_strM, binP_quo, e4, e5, List.length_singleton, List.singleton_append, true_and, hb, Int.toNat_natCast]
      simp
theorem laws_markText_n (n : Int) (h : rg64 n = true) (k) : call laws_markText [.one (I n)] k = k [.str (mtx n)] := call_of (fun k => by
  simp only [rg64, Bool.and_eq_true, decide_eq_true_eq] at h
  unfold mtx
  by_cases h0 : n ≤ 0
  · simp [laws_markText, h0]
  · obtain ⟨x, rfl⟩ : ∃ x : Nat, n = x := ⟨n.toNat, by omega⟩
    simp only [laws_markText, binP_leq, h0, decide_false, iteP_eq, Bool.false_eq_true, if_false]
    have hs : x < 10 ^ 19 := by have : (10 : Nat) ^ 19 = 10000000000000000000 := rfl
                                omega
    refine (mtx_lp (Sx []) (fun q => binP .add (Sx [109]) q fun r => rt [.sc] [r] k) 19 x [] hs (by omega) (by simp)).trans ?_
    have hd := mdigs_len 19 _ hs
    rw [List.append_nil, bin_strM]
    have hl : [109].length + (mdigs x).length ≤ 9223372036854775807 := by simp only [List.length_singleton]; omega
    simp only [true_and, rt_eq, scs_sc, scs_nil, flat_str, Int.toNat_natCast]
    exact ⟨fun q => q.2, fun q => ⟨hl, q⟩⟩) k
theorem laws_markText_n' (n : Int) (h : rg64 n = true) : (laws_markText [.one (I n)] (fun o => o = [.str (mtx n)])) = True := by
  have := laws_markText_n n h (fun o => o = [.str (mtx n)])
  simp only [call] at this
  obtain ⟨out, h1, h2⟩ := of_eq_true this
  subst h2
  exact eq_true h1
theorem mtx_ok : TextOK Tryz.prog 73 mtx := text_ok (fun _ => trivial) ⟨Tryz.f73, Tryz.func73, by kernel_rfl, by kernel_rfl⟩ fun k hk => (laws_markText_w 73 _ _ rfl (of_eq_true (laws_markText_n' k hk)) _ (by kernel_rfl)).1 rfl
abbrev mk_IntS_r : List (Nat × MM) := []
abbrev mk_IntS_s : List (Option Eff × SV) := [(some (.store 0 0), .kk), (none, .kinc)]
def mk_IntS : PV → Int → Option (PV × Int) := mkS mk_IntS_r mtx 1 mk_IntS_s
theorem mk_IntS_ok : MMOK Tryz.prog 13 (.sl mk_IntS) := slice_ok (T := TT) (st := 36) (ss := mk_IntS_s) tabok (ρ := []) trivial mtx_ok Tryz.func13 (by kernel_rfl) (by kernel_rfl)
def laws_markIntS : GM := gS mk_IntS
abbrev laws_markIntS_e : Ent := ⟨[13], laws_markIntS⟩
theorem laws_markIntS_w : EntOK Tryz.prog TT laws_markIntS_e := entS mk_IntS_ok (by kernel_rfl)
abbrev mk_SigS_r : List (Nat × MM) := []
abbrev mk_SigS_s : List (Option Eff × SV) := [(some (.store 0 0), .kk), (none, .kinc), (some (.store 1 0), .kk), (none, .kinc)]
def mk_SigS : PV → Int → Option (PV × Int) := mkS mk_SigS_r mtx 2 mk_SigS_s
theorem mk_SigS_ok : MMOK Tryz.prog 106 (.sl mk_SigS) := slice_ok (T := TT) (st := 146) (ss := mk_SigS_s) tabok (ρ := []) trivial mtx_ok Tryz.func106 (by kernel_rfl) (by kernel_rfl)
def laws_markSigS : GM := gS mk_SigS
abbrev laws_markSigS_e : Ent := ⟨[106], laws_markSigS⟩
theorem laws_markSigS_w : EntOK Tryz.prog TT laws_markSigS_e := entS mk_SigS_ok (by kernel_rfl)
abbrev mk_SignedS_r : List (Nat × MM) := [(13, .sl mk_IntS), (106, .sl mk_SigS)]
abbrev mk_SignedS_s : List (Option Eff × SV) := [(some (.store 0 0), .kk), (none, .kinc), (some (.store 1 0), .kk), (none, .kinc), (some (.store 2 0), .kk), (none, .kinc), (some (.store 3 0), .kk), (none, .kinc), (some (.store 4 0), .kk), (none, .kinc), (some (.store 5 0), .kk), (none, .kinc), (some (.store 6 0), .kk), (none, .kinc), (some (.store 7 0), .kk), (none, .kinc), (some (.call 8 none 13), .res), (some (.store 9 0), .kk), (none, .kinc), (some (.call 10 none 13), .res), (some (.store 11 0), .kk), (none, .kinc), (some (.store 12 0), .kk), (none, .kinc), (some (.call 13 none 13), .res), (some (.store 14 0), .kk), (none, .kinc), (some (.store 15 2), .kk), (none, .kinc), (some (.call 16 none 106), .res)]
def mk_SignedS : PV → Int → Option (PV × Int) := mkS mk_SignedS_r mtx 17 mk_SignedS_s
theorem mk_SignedS_ok : MMOK Tryz.prog 62 (.sl mk_SignedS) := slice_ok (T := TT) (st := 57) (ss := mk_SignedS_s) tabok (ρ := [(13, .sl mk_IntS), (106, .sl mk_SigS)]) ⟨mk_IntS_ok, mk_SigS_ok, trivial⟩ mtx_ok Tryz.func62 (by kernel_rfl) (by kernel_rfl)
def laws_markSignedS : GM := gS mk_SignedS
abbrev laws_markSignedS_e : Ent := ⟨[62], laws_markSignedS⟩
theorem laws_markSignedS_w : EntOK Tryz.prog TT laws_markSignedS_e := entS mk_SignedS_ok (by kernel_rfl)
abbrev mk_StringS_r : List (Nat × MM) := []
abbrev mk_StringS_s : List (Option Eff × SV) := [(some (.store 0 1), .kk), (none, .kinc)]
def mk_StringS : PV → Int → Option (PV × Int) := mkS mk_StringS_r mtx 1 mk_StringS_s
theorem mk_StringS_ok : MMOK Tryz.prog 74 (.sl mk_StringS) := slice_ok (T := TT) (st := 115) (ss := mk_StringS_s) tabok (ρ := []) trivial mtx_ok Tryz.func74 (by kernel_rfl) (by kernel_rfl)
def laws_markStringS : GM := gS mk_StringS
abbrev laws_markStringS_e : Ent := ⟨[74], laws_markStringS⟩
theorem laws_markStringS_w : EntOK Tryz.prog TT laws_markStringS_e := entS mk_StringS_ok (by kernel_rfl)
abbrev mk_AnswerS_r : List (Nat × MM) := [(62, .sl mk_SignedS), (74, .sl mk_StringS), (13, .sl mk_IntS)]
abbrev mk_AnswerS_s : List (Option Eff × SV) := [(some (.call 0 none 62), .res), (some (.store 1 2), .kk), (none, .kinc), (some (.store 2 1), .kk), (none, .kinc), (some (.store 3 0), .kk), (none, .kinc), (some (.store 4 0), .kk), (none, .kinc), (some (.call 5 none 74), .res), (some (.store 6 0), .kk), (none, .kinc), (some (.call 7 none 13), .res), (some (.store 8 0), .kk), (none, .kinc), (some (.store 9 1), .kk), (none, .kinc), (some (.store 10 0), .kk), (none, .kinc), (some (.store 11 0), .kk), (none, .kinc), (some (.call 12 none 74), .res), (some (.store 13 1), .kk), (none, .kinc), (some (.store 14 0), .kk), (none, .kinc), (some (.store 15 0), .kk), (none, .kinc), (some (.call 16 none 74), .res), (some (.store 17 0), .kk), (none, .kinc), (some (.call 18 none 13), .res), (some (.store 19 0), .kk), (none, .kinc), (some (.call 20 none 13), .res)]
def mk_AnswerS : PV → Int → Option (PV × Int) := mkS mk_AnswerS_r mtx 21 mk_AnswerS_s
theorem mk_AnswerS_ok : MMOK Tryz.prog 28 (.sl mk_AnswerS) := slice_ok (T := TT) (st := 70) (ss := mk_AnswerS_s) tabok (ρ := [(62, .sl mk_SignedS), (74, .sl mk_StringS), (13, .sl mk_IntS)]) ⟨mk_SignedS_ok, mk_StringS_ok, mk_IntS_ok, trivial⟩ mtx_ok Tryz.func28 (by kernel_rfl) (by kernel_rfl)
def laws_markAnswerS : GM := gS mk_AnswerS
abbrev laws_markAnswerS_e : Ent := ⟨[28], laws_markAnswerS⟩
theorem laws_markAnswerS_w : EntOK Tryz.prog TT laws_markAnswerS_e := entS mk_AnswerS_ok (by kernel_rfl)
abbrev mk_EntryS_r : List (Nat × MM) := [(74, .sl mk_StringS)]
abbrev mk_EntryS_s : List (Option Eff × SV) := [(some (.store 0 1), .kk), (none, .kinc), (some (.store 1 0), .kk), (none, .kinc), (some (.store 2 0), .kk), (none, .kinc), (some (.call 3 none 74), .res)]
def mk_EntryS : PV → Int → Option (PV × Int) := mkS mk_EntryS_r mtx 4 mk_EntryS_s
theorem mk_EntryS_ok : MMOK Tryz.prog 63 (.sl mk_EntryS) := slice_ok (T := TT) (st := 58) (ss := mk_EntryS_s) tabok (ρ := [(74, .sl mk_StringS)]) ⟨mk_StringS_ok, trivial⟩ mtx_ok Tryz.func63 (by kernel_rfl) (by kernel_rfl)
def laws_markEntryS : GM := gS mk_EntryS
abbrev laws_markEntryS_e : Ent := ⟨[63], laws_markEntryS⟩
theorem laws_markEntryS_w : EntOK Tryz.prog TT laws_markEntryS_e := entS mk_EntryS_ok (by kernel_rfl)
abbrev mk_ZoneS_r : List (Nat × MM) := [(62, .sl mk_SignedS), (63, .sl mk_EntryS)]
abbrev mk_ZoneS_s : List (Option Eff × SV) := [(some (.call 0 none 62), .res), (some (.call 1 none 63), .res)]
def mk_ZoneS : PV → Int → Option (PV × Int) := mkS mk_ZoneS_r mtx 2 mk_ZoneS_s
theorem mk_ZoneS_ok : MMOK Tryz.prog 51 (.sl mk_ZoneS) := slice_ok (T := TT) (st := 39) (ss := mk_ZoneS_s) tabok (ρ := [(62, .sl mk_SignedS), (63, .sl mk_EntryS)]) ⟨mk_SignedS_ok, mk_EntryS_ok, trivial⟩ mtx_ok Tryz.func51 (by kernel_rfl) (by kernel_rfl)
def laws_markZoneS : GM := gS mk_ZoneS
abbrev laws_markZoneS_e : Ent := ⟨[51], laws_markZoneS⟩
theorem laws_markZoneS_w : EntOK Tryz.prog TT laws_markZoneS_e := entS mk_ZoneS_ok (by kernel_rfl)
abbrev mk_Server_r : List (Nat × MM) := [(51, .sl mk_ZoneS)]
abbrev mk_Server_s : List (Option Eff × SV) := [(some (.call 0 none 51), .res)]
def mk_Server : List PV → Int → Option (List PV × Int) := mkT mk_Server_r mtx 2 mk_Server_s
theorem mk_Server_ok : MMOK Tryz.prog 27 (.st mk_Server) := struct_ok (T := TT) (esz := 2) (ss := mk_Server_s) tabok (ρ := [(51, .sl mk_ZoneS)]) ⟨mk_ZoneS_ok, trivial⟩ mtx_ok Tryz.func27 (by kernel_rfl) (by kernel_rfl)
def laws_markServer : GM := gT mk_Server
abbrev laws_markServer_e : Ent := ⟨[27], laws_markServer⟩
theorem laws_markServer_w : EntOK Tryz.prog TT laws_markServer_e := entT mk_Server_ok (by kernel_rfl)
end Go.Ev
/- The library's comparison of strings, by the shelf's contract. -/
set_option maxRecDepth 100000
namespace Go.Ev
open Go.Proofs
def rhoC : Go.Shelf.Ren := ⟨fun n => match n with | 106 => 235 | 213 => 248 | 265 => 268 | _ => 0, fun t => t, fun g => g⟩
theorem laysC : Go.Proofs.Lays.n213 Tryz.prog rhoC where
  mixed := by kernel_rfl
  f213 := by kernel_rfl
  f265 := by kernel_rfl
  t3 := by kernel_rfl
  a3 := fun w => by kernel_rfl
  z3 := fun w => by kernel_rfl
  v3 := fun w => by kernel_rfl
  t9 := by kernel_rfl
  a9 := fun w => by kernel_rfl
  z9 := fun w => by kernel_rfl
  v9 := fun w => by kernel_rfl
def bytealg_CompareString : GM
 | [.one (.str s), .one (.str t)], k => k [I (Go.Lib.compareBytes s.data.toList t.data.toList)]
 | _, _ => False
abbrev bytealg_CompareString_e : Ent := ⟨[248], bytealg_CompareString⟩
theorem bytealg_CompareString_w : EntOK Tryz.prog TT bytealg_CompareString_e := by
  intro f av out hk hg sg hsg
  injection hk with hk hn
  subst hk
  have hs : lk TT.sig 248 = some [.one .sc] := by kernel_rfl
  rw [hs] at hsg
  injection hsg with hsg
  subst hsg
  change bytealg_CompareString av _ at hg
  unfold bytealg_CompareString at hg
  split at hg
  · rename_i s t
    subst hg
    refine ⟨fun _ => ⟨⟨Tryz.f248, Tryz.func248, by kernel_rfl, by kernel_rfl⟩, fun w S vals _ hS hv => ?_⟩, fun h => nomatch h⟩
    obtain ⟨v1, r, rfl, h1, v2, r2, rfl, h2, h3⟩ := hv
    have h3 : r2 = [] := h3
    subst h3
    have e1 : v1 = .string s := RepS.str_inv h1
    have e2 : v2 = .string t := RepS.str_inv h2
    subst e1; subst e2
    refine (Any.bytealg_CompareString laysC s t w).mono ?_
    rintro e w' ⟨rfl, rfl⟩
    refine ⟨_, S, fun _ => none, [.int .i64 (Go.Lib.compareBytes s.data.toList t.data.toList)], rfl, rfl, .refl _ _, fun _ h => h, fun x hx => ⟨rfl, hS x hx, .inl hx⟩, fun x i h => (nomatch h), rfl, rfl, fun i ck v h4 h5 => ?_, fun x i h => nomatch h⟩
    cases i with
    | zero =>
      simp [allCks, RS.cks] at h4 h5
      subst h4; subst h5
      exact RepS.int
    | succ i => simp [allCks, RS.cks] at h4
  · exact hg.elim
end Go.Ev
set_option maxRecDepth 100000
set_option linter.unusedVariables false
namespace Go.Ev
open Go.Proofs
def laws_szIntS : GM
 | [.one a0, .one a1], k => 
  lenP a0 fun r0 =>
  binP .sub a1 r0 fun r1 =>
  binP .lss r1 (I 0) fun r2 =>
  iteP r2
   (rt [.sc] [(I (-1))] k)
   (rt [.sc] [r1] k)
 | _, _ => False
abbrev laws_szIntS_e : Ent := ⟨[120], laws_szIntS⟩
theorem laws_szIntS_w : EntOK Tryz.prog TT laws_szIntS_e := ent_ok tabok (L := []) trivial (keep := []) (l := []) Tryz.func120 (by kernel_rfl) (sg := [.one (.sc)]) (by kernel_rfl) trivial fun av k h => by
  unfold laws_szIntS at h; split at h
  · exact Eq.mpr (by kernel_rfl) h
  · exact h.elim

def laws_szKeys : GM
 | [.agg u0, .one a2], k => un 2 (fun a0 a1 => 
  call laws_szIntS [.one a0, .one a2] fun o0 =>
  binP .lss (atP o0 0) (I 0) fun r1 =>
  iteP r1
   (rt [.sc] [(I (-1))] k)
   (rt [.sc] [(atP o0 0)] k)) u0
 | _, _ => False
abbrev laws_szKeys_e : Ent := ⟨[216], laws_szKeys⟩
theorem laws_szKeys_w : EntOK Tryz.prog TT laws_szKeys_e := ent_ok tabok (L := [laws_szIntS_e]) ⟨laws_szIntS_w, trivial⟩ (keep := []) (l := []) Tryz.func216 (by kernel_rfl) (sg := [.one (.sc)]) (by kernel_rfl) trivial fun av k h => by
  unfold laws_szKeys at h; split at h
  · apply un_all h; clear h; intro a0 a1 h; exact Eq.mpr (by kernel_rfl) h
  · exact h.elim

def laws_szHead : GM
 | [.agg u0, .one a16], k => un 16 (fun a0 a1 a2 a3 a4 a5 a6 a7 a8 a9 a10 a11 a12 a13 a14 a15 => 
  call laws_szKeys [.agg [a8, a9], .one a16] fun o0 =>
  binP .lss (atP o0 0) (I 0) fun r1 =>
  iteP r1
   (rt [.sc] [(I (-1))] k)
   (call laws_szKeys [.agg [a10, a11], .one (atP o0 0)] fun o2 =>
   binP .lss (atP o2 0) (I 0) fun r3 =>
   iteP r3
    (rt [.sc] [(I (-1))] k)
    (call laws_szKeys [.agg [a13, a14], .one (atP o2 0)] fun o4 =>
    binP .lss (atP o4 0) (I 0) fun r5 =>
    iteP r5
     (rt [.sc] [(I (-1))] k)
     (rt [.sc] [(atP o4 0)] k)))) u0
 | _, _ => False
abbrev laws_szHead_e : Ent := ⟨[189], laws_szHead⟩
theorem laws_szHead_w : EntOK Tryz.prog TT laws_szHead_e := ent_ok tabok (L := [laws_szKeys_e]) ⟨laws_szKeys_w, trivial⟩ (keep := []) (l := []) Tryz.func189 (by kernel_rfl) (sg := [.one (.sc)]) (by kernel_rfl) trivial fun av k h => by
  unfold laws_szHead at h; split at h
  · apply un_all h; clear h; intro a0 a1 a2 a3 a4 a5 a6 a7 a8 a9 a10 a11 a12 a13 a14 a15 h; exact Eq.mpr (by kernel_rfl) h
  · exact h.elim

def laws_szSigS : GM
 | [.one a0, .one a1], k => 
  lenP a0 fun r0 =>
  binP .sub a1 r0 fun r1 =>
  binP .lss r1 (I 0) fun r2 =>
  iteP r2
   (rt [.sc] [(I (-1))] k)
   (rt [.sc] [r1] k)
 | _, _ => False
abbrev laws_szSigS_e : Ent := ⟨[190], laws_szSigS⟩
theorem laws_szSigS_w : EntOK Tryz.prog TT laws_szSigS_e := ent_ok tabok (L := []) trivial (keep := []) (l := []) Tryz.func190 (by kernel_rfl) (sg := [.one (.sc)]) (by kernel_rfl) trivial fun av k h => by
  unfold laws_szSigS at h; split at h
  · exact Eq.mpr (by kernel_rfl) h
  · exact h.elim

def laws_szSigned : GM
 | [.agg u0, .one a17], k => un 17 (fun a0 a1 a2 a3 a4 a5 a6 a7 a8 a9 a10 a11 a12 a13 a14 a15 a16 => 
  call laws_szHead [.agg [a0, a1, a2, a3, a4, a5, a6, a7, a8, a9, a10, a11, a12, a13, a14, a15], .one a17] fun o0 =>
  binP .lss (atP o0 0) (I 0) fun r1 =>
  iteP r1
   (rt [.sc] [(I (-1))] k)
   (call laws_szSigS [.one a16, .one (atP o0 0)] fun o2 =>
   binP .lss (atP o2 0) (I 0) fun r3 =>
   iteP r3
    (rt [.sc] [(I (-1))] k)
    (rt [.sc] [(atP o2 0)] k))) u0
 | _, _ => False
abbrev laws_szSigned_e : Ent := ⟨[158], laws_szSigned⟩
theorem laws_szSigned_w : EntOK Tryz.prog TT laws_szSigned_e := ent_ok tabok (L := [laws_szHead_e, laws_szSigS_e]) ⟨laws_szHead_w, laws_szSigS_w, trivial⟩ (keep := []) (l := []) Tryz.func158 (by kernel_rfl) (sg := [.one (.sc)]) (by kernel_rfl) trivial fun av k h => by
  unfold laws_szSigned at h; split at h
  · apply un_all h; clear h; intro a0 a1 a2 a3 a4 a5 a6 a7 a8 a9 a10 a11 a12 a13 a14 a15 a16 h; exact Eq.mpr (by kernel_rfl) h
  · exact h.elim

def laws_szSignedS_r0 (v : List PV) (K : List PV → Prop) (x0k : Prop) (x1k : PV → PV → PV → PV → Prop) : Prop :=
 un 4 (fun v0 v1 v2 v3 =>
  lenP v0 fun r0 =>
  binP .lss v3 r0 fun r1 =>
  iteP r1
   (elemP 17 v0 v3 fun c2 =>
   call laws_szSigned [.agg [(atP c2 0), (atP c2 1), (atP c2 2), (atP c2 3), (atP c2 4), (atP c2 5), (atP c2 6), (atP c2 7), (atP c2 8), (atP c2 9), (atP c2 10), (atP c2 11), (atP c2 12), (atP c2 13), (atP c2 14), (atP c2 15), (atP c2 16)], .one v1] fun o3 =>
   binP .lss (atP o3 0) (I 0) fun r4 =>
   iteP r4
    (x0k)
    (binP .add v3 (I 1) fun r5 =>
    K [v0, (atP o3 0), v2, r5]))
   (x1k v0 v1 v2 v3)) v
def laws_szSignedS : GM
 | [.one a0, .one a1], k => 
  lenP a0 fun r0 =>
  binP .sub a1 r0 fun r1 =>
  binP .lss r1 (I 0) fun r2 =>
  iteP r2
   (rt [.sc] [(I (-1))] k)
   (lp (fun L w => laws_szSignedS_r0 w L
    (rt [.sc] [(I (-1))] k)
    (fun q6 q7 q8 q9 => rt [.sc] [q7] k)) [a0, r1, (I 0), (I 0)])
 | _, _ => False
abbrev laws_szSignedS_e : Ent := ⟨[121], laws_szSignedS⟩
def laws_szSignedS_l : List LE := [⟨0, ⟨[(0, .one (.pv (.bool false))), (1, .one (.pv (.bool false))), (4, .one (.pv (.bool false))), (5, .one (.pv (.bool false)))], [], [], 0, 27⟩, fun K k v => laws_szSignedS_r0 v K (k .ret ⟨[(4, .one (.pv (I (-1))))], [], [], 1, 27⟩) (fun x0 x1 x2 x3 => k (.exit 0) ⟨[(0, .one (.pv x0)), (1, .one (.pv x1)), (4, .one (.pv x2)), (5, .one (.pv x3))], [], [], 0, 27⟩)⟩]
theorem laws_szSignedS_s : LEsOK (orac [laws_szSigned_e]) TT (kk [0, 1, 4, 5]) (sumsOf laws_szSignedS_l) Tryz.f121 laws_szSignedS_l := ⟨fun v K k h => by
  apply un_all h; exact fun v0 v1 v2 v3 h => Eq.mpr (by kernel_rfl) h
  , trivial⟩
theorem laws_szSignedS_w : EntOK Tryz.prog TT laws_szSignedS_e := ent_ok tabok (L := [laws_szSigned_e]) ⟨laws_szSigned_w, trivial⟩ (keep := (kk [0, 1, 4, 5])) (l := laws_szSignedS_l) Tryz.func121 (by kernel_rfl) (sg := [.one (.sc)]) (by kernel_rfl) laws_szSignedS_s fun av k h => by
  unfold laws_szSignedS at h; split at h
  · exact Eq.mpr (by kernel_rfl) h
  · exact h.elim

def laws_szStringS_r0 (v : List PV) (K : List PV → Prop) (x0k : Prop) (x1k : PV → PV → PV → PV → Prop) : Prop :=
 un 4 (fun v0 v1 v2 v3 =>
  lenP v0 fun r0 =>
  binP .lss v3 r0 fun r1 =>
  iteP r1
   (elemP 1 v0 v3 fun c2 =>
   lenS (atP c2 0) fun r3 =>
   binP .sub v1 r3 fun r4 =>
   binP .lss r4 (I 0) fun r5 =>
   iteP r5
    (x0k)
    (binP .add v3 (I 1) fun r6 =>
    K [v0, r4, v2, r6]))
   (x1k v0 v1 v2 v3)) v
def laws_szStringS : GM
 | [.one a0, .one a1], k => 
  lenP a0 fun r0 =>
  binP .sub a1 r0 fun r1 =>
  binP .lss r1 (I 0) fun r2 =>
  iteP r2
   (rt [.sc] [(I (-1))] k)
   (lp (fun L w => laws_szStringS_r0 w L
    (rt [.sc] [(I (-1))] k)
    (fun q7 q8 q9 q10 => rt [.sc] [q8] k)) [a0, r1, (I 0), (I 0)])
 | _, _ => False
abbrev laws_szStringS_e : Ent := ⟨[191], laws_szStringS⟩
def laws_szStringS_l : List LE := [⟨0, ⟨[(0, .one (.pv (.bool false))), (1, .one (.pv (.bool false))), (4, .one (.pv (.bool false))), (5, .one (.pv (.bool false)))], [], [], 0, 28⟩, fun K k v => laws_szStringS_r0 v K (k .ret ⟨[(4, .one (.pv (I (-1))))], [], [], 0, 28⟩) (fun x0 x1 x2 x3 => k (.exit 0) ⟨[(0, .one (.pv x0)), (1, .one (.pv x1)), (4, .one (.pv x2)), (5, .one (.pv x3))], [], [], 0, 28⟩)⟩]
theorem laws_szStringS_s : LEsOK (orac []) TT (kk [0, 1, 4, 5]) (sumsOf laws_szStringS_l) Tryz.f191 laws_szStringS_l := ⟨fun v K k h => by
  apply un_all h; exact fun v0 v1 v2 v3 h => Eq.mpr (by kernel_rfl) h
  , trivial⟩
theorem laws_szStringS_w : EntOK Tryz.prog TT laws_szStringS_e := ent_ok tabok (L := []) trivial (keep := (kk [0, 1, 4, 5])) (l := laws_szStringS_l) Tryz.func191 (by kernel_rfl) (sg := [.one (.sc)]) (by kernel_rfl) laws_szStringS_s fun av k h => by
  unfold laws_szStringS at h; split at h
  · exact Eq.mpr (by kernel_rfl) h
  · exact h.elim

def laws_szEntry : GM
 | [.agg u0, .one a4], k => un 4 (fun a0 a1 a2 a3 => 
  lenS a0 fun r0 =>
  binP .sub a4 r0 fun r1 =>
  binP .lss r1 (I 0) fun r2 =>
  iteP r2
   (rt [.sc] [(I (-1))] k)
   (call laws_szStringS [.one a3, .one r1] fun o3 =>
   binP .lss (atP o3 0) (I 0) fun r4 =>
   iteP r4
    (rt [.sc] [(I (-1))] k)
    (rt [.sc] [(atP o3 0)] k))) u0
 | _, _ => False
abbrev laws_szEntry_e : Ent := ⟨[159], laws_szEntry⟩
theorem laws_szEntry_w : EntOK Tryz.prog TT laws_szEntry_e := ent_ok tabok (L := [laws_szStringS_e]) ⟨laws_szStringS_w, trivial⟩ (keep := []) (l := []) Tryz.func159 (by kernel_rfl) (sg := [.one (.sc)]) (by kernel_rfl) trivial fun av k h => by
  unfold laws_szEntry at h; split at h
  · apply un_all h; clear h; intro a0 a1 a2 a3 h; exact Eq.mpr (by kernel_rfl) h
  · exact h.elim

def laws_szEntryS_r0 (v : List PV) (K : List PV → Prop) (x0k : Prop) (x1k : PV → PV → PV → PV → Prop) : Prop :=
 un 4 (fun v0 v1 v2 v3 =>
  lenP v0 fun r0 =>
  binP .lss v3 r0 fun r1 =>
  iteP r1
   (elemP 4 v0 v3 fun c2 =>
   call laws_szEntry [.agg [(atP c2 0), (atP c2 1), (atP c2 2), (atP c2 3)], .one v1] fun o3 =>
   binP .lss (atP o3 0) (I 0) fun r4 =>
   iteP r4
    (x0k)
    (binP .add v3 (I 1) fun r5 =>
    K [v0, (atP o3 0), v2, r5]))
   (x1k v0 v1 v2 v3)) v
def laws_szEntryS : GM
 | [.one a0, .one a1], k => 
  lenP a0 fun r0 =>
  binP .sub a1 r0 fun r1 =>
  binP .lss r1 (I 0) fun r2 =>
  iteP r2
   (rt [.sc] [(I (-1))] k)
   (lp (fun L w => laws_szEntryS_r0 w L
    (rt [.sc] [(I (-1))] k)
    (fun q6 q7 q8 q9 => rt [.sc] [q7] k)) [a0, r1, (I 0), (I 0)])
 | _, _ => False
abbrev laws_szEntryS_e : Ent := ⟨[122], laws_szEntryS⟩
def laws_szEntryS_l : List LE := [⟨0, ⟨[(0, .one (.pv (.bool false))), (1, .one (.pv (.bool false))), (4, .one (.pv (.bool false))), (5, .one (.pv (.bool false)))], [], [], 0, 27⟩, fun K k v => laws_szEntryS_r0 v K (k .ret ⟨[(4, .one (.pv (I (-1))))], [], [], 1, 27⟩) (fun x0 x1 x2 x3 => k (.exit 0) ⟨[(0, .one (.pv x0)), (1, .one (.pv x1)), (4, .one (.pv x2)), (5, .one (.pv x3))], [], [], 0, 27⟩)⟩]
theorem laws_szEntryS_s : LEsOK (orac [laws_szEntry_e]) TT (kk [0, 1, 4, 5]) (sumsOf laws_szEntryS_l) Tryz.f122 laws_szEntryS_l := ⟨fun v K k h => by
  apply un_all h; exact fun v0 v1 v2 v3 h => Eq.mpr (by kernel_rfl) h
  , trivial⟩
theorem laws_szEntryS_w : EntOK Tryz.prog TT laws_szEntryS_e := ent_ok tabok (L := [laws_szEntry_e]) ⟨laws_szEntry_w, trivial⟩ (keep := (kk [0, 1, 4, 5])) (l := laws_szEntryS_l) Tryz.func122 (by kernel_rfl) (sg := [.one (.sc)]) (by kernel_rfl) laws_szEntryS_s fun av k h => by
  unfold laws_szEntryS at h; split at h
  · exact Eq.mpr (by kernel_rfl) h
  · exact h.elim

def laws_szZone : GM
 | [.agg u0, .one a2], k => un 2 (fun a0 a1 => 
  call laws_szSignedS [.one a0, .one a2] fun o0 =>
  binP .lss (atP o0 0) (I 0) fun r1 =>
  iteP r1
   (rt [.sc] [(I (-1))] k)
   (call laws_szEntryS [.one a1, .one (atP o0 0)] fun o2 =>
   binP .lss (atP o2 0) (I 0) fun r3 =>
   iteP r3
    (rt [.sc] [(I (-1))] k)
    (rt [.sc] [(atP o2 0)] k))) u0
 | _, _ => False
abbrev laws_szZone_e : Ent := ⟨[77], laws_szZone⟩
theorem laws_szZone_w : EntOK Tryz.prog TT laws_szZone_e := ent_ok tabok (L := [laws_szSignedS_e, laws_szEntryS_e]) ⟨laws_szSignedS_w, laws_szEntryS_w, trivial⟩ (keep := []) (l := []) Tryz.func77 (by kernel_rfl) (sg := [.one (.sc)]) (by kernel_rfl) trivial fun av k h => by
  unfold laws_szZone at h; split at h
  · apply un_all h; clear h; intro a0 a1 h; exact Eq.mpr (by kernel_rfl) h
  · exact h.elim

def laws_szZoneS_r0 (v : List PV) (K : List PV → Prop) (x0k : Prop) (x1k : PV → PV → PV → PV → Prop) : Prop :=
 un 4 (fun v0 v1 v2 v3 =>
  lenP v0 fun r0 =>
  binP .lss v3 r0 fun r1 =>
  iteP r1
   (elemP 2 v0 v3 fun c2 =>
   call laws_szZone [.agg [(atP c2 0), (atP c2 1)], .one v1] fun o3 =>
   binP .lss (atP o3 0) (I 0) fun r4 =>
   iteP r4
    (x0k)
    (binP .add v3 (I 1) fun r5 =>
    K [v0, (atP o3 0), v2, r5]))
   (x1k v0 v1 v2 v3)) v
def laws_szZoneS : GM
 | [.one a0, .one a1], k => 
  lenP a0 fun r0 =>
  binP .sub a1 r0 fun r1 =>
  binP .lss r1 (I 0) fun r2 =>
  iteP r2
   (rt [.sc] [(I (-1))] k)
   (lp (fun L w => laws_szZoneS_r0 w L
    (rt [.sc] [(I (-1))] k)
    (fun q6 q7 q8 q9 => rt [.sc] [q7] k)) [a0, r1, (I 0), (I 0)])
 | _, _ => False
abbrev laws_szZoneS_e : Ent := ⟨[31], laws_szZoneS⟩
def laws_szZoneS_l : List LE := [⟨0, ⟨[(0, .one (.pv (.bool false))), (1, .one (.pv (.bool false))), (4, .one (.pv (.bool false))), (5, .one (.pv (.bool false)))], [], [], 0, 27⟩, fun K k v => laws_szZoneS_r0 v K (k .ret ⟨[(4, .one (.pv (I (-1))))], [], [], 1, 27⟩) (fun x0 x1 x2 x3 => k (.exit 0) ⟨[(0, .one (.pv x0)), (1, .one (.pv x1)), (4, .one (.pv x2)), (5, .one (.pv x3))], [], [], 0, 27⟩)⟩]
theorem laws_szZoneS_s : LEsOK (orac [laws_szZone_e]) TT (kk [0, 1, 4, 5]) (sumsOf laws_szZoneS_l) Tryz.f31 laws_szZoneS_l := ⟨fun v K k h => by
  apply un_all h; exact fun v0 v1 v2 v3 h => Eq.mpr (by kernel_rfl) h
  , trivial⟩
theorem laws_szZoneS_w : EntOK Tryz.prog TT laws_szZoneS_e := ent_ok tabok (L := [laws_szZone_e]) ⟨laws_szZone_w, trivial⟩ (keep := (kk [0, 1, 4, 5])) (l := laws_szZoneS_l) Tryz.func31 (by kernel_rfl) (sg := [.one (.sc)]) (by kernel_rfl) laws_szZoneS_s fun av k h => by
  unfold laws_szZoneS at h; split at h
  · exact Eq.mpr (by kernel_rfl) h
  · exact h.elim

def laws_szServer : GM
 | [.agg u0, .one a2], k => un 2 (fun a0 a1 => 
  call laws_szZoneS [.one a0, .one a2] fun o0 =>
  binP .lss (atP o0 0) (I 0) fun r1 =>
  iteP r1
   (rt [.sc] [(I (-1))] k)
   (rt [.sc] [(atP o0 0)] k)) u0
 | _, _ => False
abbrev laws_szServer_e : Ent := ⟨[20], laws_szServer⟩
theorem laws_szServer_w : EntOK Tryz.prog TT laws_szServer_e := ent_ok tabok (L := [laws_szZoneS_e]) ⟨laws_szZoneS_w, trivial⟩ (keep := []) (l := []) Tryz.func20 (by kernel_rfl) (sg := [.one (.sc)]) (by kernel_rfl) trivial fun av k h => by
  unfold laws_szServer at h; split at h
  · apply un_all h; clear h; intro a0 a1 h; exact Eq.mpr (by kernel_rfl) h
  · exact h.elim

def laws_toIntS_r0 (v : List PV) (K : List PV → Prop) (x0k : PV → PV → PV → PV → Prop) : Prop :=
 un 4 (fun v0 v1 v2 v3 =>
  lenP v0 fun r0 =>
  binP .lss v1 r0 fun r1 =>
  iteP r1
   (elemP 1 v0 v1 fun c2 =>
   boundP 1 v3 v1 fun n3 =>
   (flatCond [.pv (I 0)] [.pv (atP c2 0)]) ∧ setP v3 n3 0 [(atP c2 0)] fun r4 =>
   binP .add v1 (I 1) fun r5 =>
   K [v0, r5, v2, r4])
   (x0k v0 v1 v2 v3)) v
def laws_toIntS : GM
 | [.one a0], k => 
  lenP a0 fun r0 =>
  (r0 = r0) ∧ (1 = 1) ∧ makeP 1 r0 [(I 0)] fun r1 =>
  lp (fun L w => laws_toIntS_r0 w L
   (fun q6 q7 q8 q9 => rt [.own true 3 1] [q9] k)) [a0, (I 0), (.list 1 []), r1]
 | _, _ => False
abbrev laws_toIntS_e : Ent := ⟨[126], laws_toIntS⟩
def laws_toIntS_l : List LE := [⟨0, ⟨[(0, .one (.pv (.bool false))), (2, .one (.own 1)), (3, .one (.own 0)), (4, .one (.pv (.bool false)))], [], [(1, ⟨.deep, 3, 1, (.bool false)⟩), (0, ⟨.deep, 3, 1, (.bool false)⟩)], 2, 22⟩, fun K k v => laws_toIntS_r0 v K (fun x0 x1 x2 x3 => k (.exit 0) ⟨[(0, .one (.pv x0)), (2, .one (.own 1)), (3, .one (.own 0)), (4, .one (.pv x1))], [], [(1, ⟨.deep, 3, 1, x2⟩), (0, ⟨.deep, 3, 1, x3⟩)], 2, 22⟩)⟩]
theorem laws_toIntS_s : LEsOK (orac []) TT (kk [0, 2, 3, 4]) (sumsOf laws_toIntS_l) Tryz.f126 laws_toIntS_l := ⟨fun v K k h => by
  apply un_all h; exact fun v0 v1 v2 v3 h => Eq.mpr (by kernel_rfl) h
  , trivial⟩
theorem laws_toIntS_w : EntOK Tryz.prog TT laws_toIntS_e := ent_ok tabok (L := []) trivial (keep := (kk [0, 2, 3, 4])) (l := laws_toIntS_l) Tryz.func126 (by kernel_rfl) (sg := [.one (.own true 3 1)]) (by kernel_rfl) laws_toIntS_s fun av k h => by
  unfold laws_toIntS at h; split at h
  · exact Eq.mpr (by kernel_rfl) h
  · exact h.elim

def laws_toKeys : GM
 | [.agg u0], k => un 2 (fun a0 a1 => 
  call laws_toIntS [.one a0] fun o0 =>
  rt [.own true 3 1, .sc] [(atP o0 0), a1] k) u0
 | _, _ => False
abbrev laws_toKeys_e : Ent := ⟨[217], laws_toKeys⟩
theorem laws_toKeys_w : EntOK Tryz.prog TT laws_toKeys_e := ent_ok tabok (L := [laws_toIntS_e]) ⟨laws_toIntS_w, trivial⟩ (keep := []) (l := []) Tryz.func217 (by kernel_rfl) (sg := [.agg [.own true 3 1, .sc]]) (by kernel_rfl) trivial fun av k h => by
  unfold laws_toKeys at h; split at h
  · apply un_all h; clear h; intro a0 a1 h; exact Eq.mpr (by kernel_rfl) h
  · exact h.elim

def laws_toHead : GM
 | [.agg u0], k => un 16 (fun a0 a1 a2 a3 a4 a5 a6 a7 a8 a9 a10 a11 a12 a13 a14 a15 => 
  call laws_toKeys [.agg [a8, a9]] fun o0 =>
  call laws_toKeys [.agg [a10, a11]] fun o1 =>
  call laws_toKeys [.agg [a13, a14]] fun o2 =>
  rt [.sc, .sc, .sc, .sc, .sc, .sc, .sc, .sc, .own true 3 1, .sc, .own true 3 1, .sc, .sc, .own true 3 1, .sc, .sc] [a0, a1, a2, a3, a4, a5, a6, a7, (atP o0 0), (atP o0 1), (atP o1 0), (atP o1 1), a12, (atP o2 0), (atP o2 1), a15] k) u0
 | _, _ => False
abbrev laws_toHead_e : Ent := ⟨[194], laws_toHead⟩
theorem laws_toHead_w : EntOK Tryz.prog TT laws_toHead_e := ent_ok tabok (L := [laws_toKeys_e]) ⟨laws_toKeys_w, trivial⟩ (keep := []) (l := []) Tryz.func194 (by kernel_rfl) (sg := [.agg [.sc, .sc, .sc, .sc, .sc, .sc, .sc, .sc, .own true 3 1, .sc, .own true 3 1, .sc, .sc, .own true 3 1, .sc, .sc]]) (by kernel_rfl) trivial fun av k h => by
  unfold laws_toHead at h; split at h
  · apply un_all h; clear h; intro a0 a1 a2 a3 a4 a5 a6 a7 a8 a9 a10 a11 a12 a13 a14 a15 h; exact Eq.mpr (by kernel_rfl) h
  · exact h.elim

def laws_toSig : GM
 | [.agg u0], k => un 2 (fun a0 a1 => 
  rt [.sc, .sc] [a0, a1] k) u0
 | _, _ => False
abbrev laws_toSig_e : Ent := ⟨[218], laws_toSig⟩
theorem laws_toSig_w : EntOK Tryz.prog TT laws_toSig_e := ent_ok tabok (L := []) trivial (keep := []) (l := []) Tryz.func218 (by kernel_rfl) (sg := [.agg [.sc, .sc]]) (by kernel_rfl) trivial fun av k h => by
  unfold laws_toSig at h; split at h
  · apply un_all h; clear h; intro a0 a1 h; exact Eq.mpr (by kernel_rfl) h
  · exact h.elim

def laws_toSigS_r0 (v : List PV) (K : List PV → Prop) (x0k : PV → PV → PV → PV → Prop) : Prop :=
 un 4 (fun v0 v1 v2 v3 =>
  lenP v0 fun r0 =>
  binP .lss v1 r0 fun r1 =>
  iteP r1
   (elemP 2 v0 v1 fun c2 =>
   call laws_toSig [.agg [(atP c2 0), (atP c2 1)]] fun o3 =>
   boundP 2 v3 v1 fun n4 =>
   (flatCond [.pv (I 0), .pv (I 0)] [.pv (atP o3 0), .pv (atP o3 1)]) ∧ setP v3 n4 0 [(atP o3 0), (atP o3 1)] fun r5 =>
   binP .add v1 (I 1) fun r6 =>
   K [v0, r6, v2, r5])
   (x0k v0 v1 v2 v3)) v
def laws_toSigS : GM
 | [.one a0], k => 
  lenP a0 fun r0 =>
  (r0 = r0) ∧ (2 = 2) ∧ makeP 2 r0 [(I 0), (I 0)] fun r1 =>
  lp (fun L w => laws_toSigS_r0 w L
   (fun q7 q8 q9 q10 => rt [.own true 222 2] [q10] k)) [a0, (I 0), (.list 2 []), r1]
 | _, _ => False
abbrev laws_toSigS_e : Ent := ⟨[195], laws_toSigS⟩
def laws_toSigS_l : List LE := [⟨0, ⟨[(0, .one (.pv (.bool false))), (2, .one (.own 1)), (3, .one (.own 0)), (4, .one (.pv (.bool false)))], [], [(1, ⟨.deep, 222, 2, (.bool false)⟩), (0, ⟨.deep, 222, 2, (.bool false)⟩)], 2, 23⟩, fun K k v => laws_toSigS_r0 v K (fun x0 x1 x2 x3 => k (.exit 0) ⟨[(0, .one (.pv x0)), (2, .one (.own 1)), (3, .one (.own 0)), (4, .one (.pv x1))], [], [(1, ⟨.deep, 222, 2, x2⟩), (0, ⟨.deep, 222, 2, x3⟩)], 2, 23⟩)⟩]
theorem laws_toSigS_s : LEsOK (orac [laws_toSig_e]) TT (kk [0, 2, 3, 4]) (sumsOf laws_toSigS_l) Tryz.f195 laws_toSigS_l := ⟨fun v K k h => by
  apply un_all h; exact fun v0 v1 v2 v3 h => Eq.mpr (by kernel_rfl) h
  , trivial⟩
theorem laws_toSigS_w : EntOK Tryz.prog TT laws_toSigS_e := ent_ok tabok (L := [laws_toSig_e]) ⟨laws_toSig_w, trivial⟩ (keep := (kk [0, 2, 3, 4])) (l := laws_toSigS_l) Tryz.func195 (by kernel_rfl) (sg := [.one (.own true 222 2)]) (by kernel_rfl) laws_toSigS_s fun av k h => by
  unfold laws_toSigS at h; split at h
  · exact Eq.mpr (by kernel_rfl) h
  · exact h.elim

def laws_toSigned : GM
 | [.agg u0], k => un 17 (fun a0 a1 a2 a3 a4 a5 a6 a7 a8 a9 a10 a11 a12 a13 a14 a15 a16 => 
  call laws_toHead [.agg [a0, a1, a2, a3, a4, a5, a6, a7, a8, a9, a10, a11, a12, a13, a14, a15]] fun o0 =>
  call laws_toSigS [.one a16] fun o1 =>
  rt [.sc, .sc, .sc, .sc, .sc, .sc, .sc, .sc, .own true 3 1, .sc, .own true 3 1, .sc, .sc, .own true 3 1, .sc, .sc, .own true 222 2] [(atP o0 0), (atP o0 1), (atP o0 2), (atP o0 3), (atP o0 4), (atP o0 5), (atP o0 6), (atP o0 7), (atP o0 8), (atP o0 9), (atP o0 10), (atP o0 11), (atP o0 12), (atP o0 13), (atP o0 14), (atP o0 15), (atP o1 0)] k) u0
 | _, _ => False
abbrev laws_toSigned_e : Ent := ⟨[163], laws_toSigned⟩
theorem laws_toSigned_w : EntOK Tryz.prog TT laws_toSigned_e := ent_ok tabok (L := [laws_toHead_e, laws_toSigS_e]) ⟨laws_toHead_w, laws_toSigS_w, trivial⟩ (keep := []) (l := []) Tryz.func163 (by kernel_rfl) (sg := [.agg [.sc, .sc, .sc, .sc, .sc, .sc, .sc, .sc, .own true 3 1, .sc, .own true 3 1, .sc, .sc, .own true 3 1, .sc, .sc, .own true 222 2]]) (by kernel_rfl) trivial fun av k h => by
  unfold laws_toSigned at h; split at h
  · apply un_all h; clear h; intro a0 a1 a2 a3 a4 a5 a6 a7 a8 a9 a10 a11 a12 a13 a14 a15 a16 h; exact Eq.mpr (by kernel_rfl) h
  · exact h.elim

def laws_toSignedS_r0 (v : List PV) (K : List PV → Prop) (x0k : PV → PV → PV → PV → Prop) : Prop :=
 un 4 (fun v0 v1 v2 v3 =>
  lenP v0 fun r0 =>
  binP .lss v1 r0 fun r1 =>
  iteP r1
   (elemP 17 v0 v1 fun c2 =>
   call laws_toSigned [.agg [(atP c2 0), (atP c2 1), (atP c2 2), (atP c2 3), (atP c2 4), (atP c2 5), (atP c2 6), (atP c2 7), (atP c2 8), (atP c2 9), (atP c2 10), (atP c2 11), (atP c2 12), (atP c2 13), (atP c2 14), (atP c2 15), (atP c2 16)]] fun o3 =>
   boundP 17 v3 v1 fun n4 =>
   (flatCond [.pv (I 0), .pv (I 0), .pv (I 0), .pv (I 0), .pv (I 0), .pv (I 0), .pv (I 0), .pv (I 0), .nil 3 1, .pv (I 0), .nil 3 1, .pv (I 0), .pv (I 0), .nil 3 1, .pv (I 0), .pv (.bool false), .nil 222 2] [.pv (atP o3 0), .pv (atP o3 1), .pv (atP o3 2), .pv (atP o3 3), .pv (atP o3 4), .pv (atP o3 5), .pv (atP o3 6), .pv (atP o3 7), .own 10, .pv (atP o3 9), .own 12, .pv (atP o3 11), .pv (atP o3 12), .own 15, .pv (atP o3 14), .pv (atP o3 15), .own 18]) ∧ setP v3 n4 0 [(atP o3 0), (atP o3 1), (atP o3 2), (atP o3 3), (atP o3 4), (atP o3 5), (atP o3 6), (atP o3 7), (atP o3 8), (atP o3 9), (atP o3 10), (atP o3 11), (atP o3 12), (atP o3 13), (atP o3 14), (atP o3 15), (atP o3 16)] fun r5 =>
   binP .add v1 (I 1) fun r6 =>
   K [v0, r6, v2, r5])
   (x0k v0 v1 v2 v3)) v
def laws_toSignedS : GM
 | [.one a0], k => 
  lenP a0 fun r0 =>
  (r0 = r0) ∧ (17 = 17) ∧ makeP 17 r0 [(I 0), (I 0), (I 0), (I 0), (I 0), (I 0), (I 0), (I 0), (.list 1 []), (I 0), (.list 1 []), (I 0), (I 0), (.list 1 []), (I 0), (.bool false), (.list 2 [])] fun r1 =>
  lp (fun L w => laws_toSignedS_r0 w L
   (fun q7 q8 q9 q10 => rt [.own true 148 17] [q10] k)) [a0, (I 0), (.list 17 []), r1]
 | _, _ => False
abbrev laws_toSignedS_e : Ent := ⟨[127], laws_toSignedS⟩
def laws_toSignedS_l : List LE := [⟨0, ⟨[(0, .one (.pv (.bool false))), (2, .one (.own 1)), (3, .one (.own 0)), (4, .one (.pv (.bool false)))], [], [(1, ⟨.deep, 148, 17, (.bool false)⟩), (0, ⟨.deep, 148, 17, (.bool false)⟩)], 2, 23⟩, fun K k v => laws_toSignedS_r0 v K (fun x0 x1 x2 x3 => k (.exit 0) ⟨[(0, .one (.pv x0)), (2, .one (.own 1)), (3, .one (.own 0)), (4, .one (.pv x1))], [], [(1, ⟨.deep, 148, 17, x2⟩), (0, ⟨.deep, 148, 17, x3⟩)], 2, 23⟩)⟩]
theorem laws_toSignedS_s : LEsOK (orac [laws_toSigned_e]) TT (kk [0, 2, 3, 4]) (sumsOf laws_toSignedS_l) Tryz.f127 laws_toSignedS_l := ⟨fun v K k h => by
  apply un_all h; exact fun v0 v1 v2 v3 h => Eq.mpr (by kernel_rfl) h
  , trivial⟩
theorem laws_toSignedS_w : EntOK Tryz.prog TT laws_toSignedS_e := ent_ok tabok (L := [laws_toSigned_e]) ⟨laws_toSigned_w, trivial⟩ (keep := (kk [0, 2, 3, 4])) (l := laws_toSignedS_l) Tryz.func127 (by kernel_rfl) (sg := [.one (.own true 148 17)]) (by kernel_rfl) laws_toSignedS_s fun av k h => by
  unfold laws_toSignedS at h; split at h
  · exact Eq.mpr (by kernel_rfl) h
  · exact h.elim

def laws_toStringS_r0 (v : List PV) (K : List PV → Prop) (x0k : PV → PV → PV → PV → Prop) : Prop :=
 un 4 (fun v0 v1 v2 v3 =>
  lenP v0 fun r0 =>
  binP .lss v1 r0 fun r1 =>
  iteP r1
   (elemP 1 v0 v1 fun c2 =>
   boundP 1 v3 v1 fun n3 =>
   (flatCond [.pv (.str ⟨#[]⟩)] [.pv (atP c2 0)]) ∧ setP v3 n3 0 [(atP c2 0)] fun r4 =>
   binP .add v1 (I 1) fun r5 =>
   K [v0, r5, v2, r4])
   (x0k v0 v1 v2 v3)) v
def laws_toStringS : GM
 | [.one a0], k => 
  lenP a0 fun r0 =>
  (r0 = r0) ∧ (1 = 1) ∧ makeP 1 r0 [(.str ⟨#[]⟩)] fun r1 =>
  lp (fun L w => laws_toStringS_r0 w L
   (fun q6 q7 q8 q9 => rt [.own true 9 1] [q9] k)) [a0, (I 0), (.list 1 []), r1]
 | _, _ => False
abbrev laws_toStringS_e : Ent := ⟨[196], laws_toStringS⟩
def laws_toStringS_l : List LE := [⟨0, ⟨[(0, .one (.pv (.bool false))), (2, .one (.own 1)), (3, .one (.own 0)), (4, .one (.pv (.bool false)))], [], [(1, ⟨.deep, 9, 1, (.bool false)⟩), (0, ⟨.deep, 9, 1, (.bool false)⟩)], 2, 22⟩, fun K k v => laws_toStringS_r0 v K (fun x0 x1 x2 x3 => k (.exit 0) ⟨[(0, .one (.pv x0)), (2, .one (.own 1)), (3, .one (.own 0)), (4, .one (.pv x1))], [], [(1, ⟨.deep, 9, 1, x2⟩), (0, ⟨.deep, 9, 1, x3⟩)], 2, 22⟩)⟩]
theorem laws_toStringS_s : LEsOK (orac []) TT (kk [0, 2, 3, 4]) (sumsOf laws_toStringS_l) Tryz.f196 laws_toStringS_l := ⟨fun v K k h => by
  apply un_all h; exact fun v0 v1 v2 v3 h => Eq.mpr (by kernel_rfl) h
  , trivial⟩
theorem laws_toStringS_w : EntOK Tryz.prog TT laws_toStringS_e := ent_ok tabok (L := []) trivial (keep := (kk [0, 2, 3, 4])) (l := laws_toStringS_l) Tryz.func196 (by kernel_rfl) (sg := [.one (.own true 9 1)]) (by kernel_rfl) laws_toStringS_s fun av k h => by
  unfold laws_toStringS at h; split at h
  · exact Eq.mpr (by kernel_rfl) h
  · exact h.elim

def laws_toEntry : GM
 | [.agg u0], k => un 4 (fun a0 a1 a2 a3 => 
  call laws_toStringS [.one a3] fun o0 =>
  rt [.sc, .sc, .sc, .own true 9 1] [a0, a1, a2, (atP o0 0)] k) u0
 | _, _ => False
abbrev laws_toEntry_e : Ent := ⟨[164], laws_toEntry⟩
theorem laws_toEntry_w : EntOK Tryz.prog TT laws_toEntry_e := ent_ok tabok (L := [laws_toStringS_e]) ⟨laws_toStringS_w, trivial⟩ (keep := []) (l := []) Tryz.func164 (by kernel_rfl) (sg := [.agg [.sc, .sc, .sc, .own true 9 1]]) (by kernel_rfl) trivial fun av k h => by
  unfold laws_toEntry at h; split at h
  · apply un_all h; clear h; intro a0 a1 a2 a3 h; exact Eq.mpr (by kernel_rfl) h
  · exact h.elim

def laws_toEntryS_r0 (v : List PV) (K : List PV → Prop) (x0k : PV → PV → PV → PV → Prop) : Prop :=
 un 4 (fun v0 v1 v2 v3 =>
  lenP v0 fun r0 =>
  binP .lss v1 r0 fun r1 =>
  iteP r1
   (elemP 4 v0 v1 fun c2 =>
   call laws_toEntry [.agg [(atP c2 0), (atP c2 1), (atP c2 2), (atP c2 3)]] fun o3 =>
   boundP 4 v3 v1 fun n4 =>
   (flatCond [.pv (.str ⟨#[]⟩), .pv (I 0), .pv (I 0), .nil 9 1] [.pv (atP o3 0), .pv (atP o3 1), .pv (atP o3 2), .own 5]) ∧ setP v3 n4 0 [(atP o3 0), (atP o3 1), (atP o3 2), (atP o3 3)] fun r5 =>
   binP .add v1 (I 1) fun r6 =>
   K [v0, r6, v2, r5])
   (x0k v0 v1 v2 v3)) v
def laws_toEntryS : GM
 | [.one a0], k => 
  lenP a0 fun r0 =>
  (r0 = r0) ∧ (4 = 4) ∧ makeP 4 r0 [(.str ⟨#[]⟩), (I 0), (I 0), (.list 1 [])] fun r1 =>
  lp (fun L w => laws_toEntryS_r0 w L
   (fun q7 q8 q9 q10 => rt [.own true 117 4] [q10] k)) [a0, (I 0), (.list 4 []), r1]
 | _, _ => False
abbrev laws_toEntryS_e : Ent := ⟨[128], laws_toEntryS⟩
def laws_toEntryS_l : List LE := [⟨0, ⟨[(0, .one (.pv (.bool false))), (2, .one (.own 1)), (3, .one (.own 0)), (4, .one (.pv (.bool false)))], [], [(1, ⟨.deep, 117, 4, (.bool false)⟩), (0, ⟨.deep, 117, 4, (.bool false)⟩)], 2, 23⟩, fun K k v => laws_toEntryS_r0 v K (fun x0 x1 x2 x3 => k (.exit 0) ⟨[(0, .one (.pv x0)), (2, .one (.own 1)), (3, .one (.own 0)), (4, .one (.pv x1))], [], [(1, ⟨.deep, 117, 4, x2⟩), (0, ⟨.deep, 117, 4, x3⟩)], 2, 23⟩)⟩]
theorem laws_toEntryS_s : LEsOK (orac [laws_toEntry_e]) TT (kk [0, 2, 3, 4]) (sumsOf laws_toEntryS_l) Tryz.f128 laws_toEntryS_l := ⟨fun v K k h => by
  apply un_all h; exact fun v0 v1 v2 v3 h => Eq.mpr (by kernel_rfl) h
  , trivial⟩
theorem laws_toEntryS_w : EntOK Tryz.prog TT laws_toEntryS_e := ent_ok tabok (L := [laws_toEntry_e]) ⟨laws_toEntry_w, trivial⟩ (keep := (kk [0, 2, 3, 4])) (l := laws_toEntryS_l) Tryz.func128 (by kernel_rfl) (sg := [.one (.own true 117 4)]) (by kernel_rfl) laws_toEntryS_s fun av k h => by
  unfold laws_toEntryS at h; split at h
  · exact Eq.mpr (by kernel_rfl) h
  · exact h.elim

def laws_toZone : GM
 | [.agg u0], k => un 2 (fun a0 a1 => 
  call laws_toSignedS [.one a0] fun o0 =>
  call laws_toEntryS [.one a1] fun o1 =>
  rt [.own true 148 17, .own true 117 4] [(atP o0 0), (atP o1 0)] k) u0
 | _, _ => False
abbrev laws_toZone_e : Ent := ⟨[84], laws_toZone⟩
theorem laws_toZone_w : EntOK Tryz.prog TT laws_toZone_e := ent_ok tabok (L := [laws_toSignedS_e, laws_toEntryS_e]) ⟨laws_toSignedS_w, laws_toEntryS_w, trivial⟩ (keep := []) (l := []) Tryz.func84 (by kernel_rfl) (sg := [.agg [.own true 148 17, .own true 117 4]]) (by kernel_rfl) trivial fun av k h => by
  unfold laws_toZone at h; split at h
  · apply un_all h; clear h; intro a0 a1 h; exact Eq.mpr (by kernel_rfl) h
  · exact h.elim

def laws_toZoneS_r0 (v : List PV) (K : List PV → Prop) (x0k : PV → PV → PV → PV → Prop) : Prop :=
 un 4 (fun v0 v1 v2 v3 =>
  lenP v0 fun r0 =>
  binP .lss v1 r0 fun r1 =>
  iteP r1
   (elemP 2 v0 v1 fun c2 =>
   call laws_toZone [.agg [(atP c2 0), (atP c2 1)]] fun o3 =>
   boundP 2 v3 v1 fun n4 =>
   (flatCond [.nil 148 17, .nil 117 4] [.own 2, .own 3]) ∧ setP v3 n4 0 [(atP o3 0), (atP o3 1)] fun r5 =>
   binP .add v1 (I 1) fun r6 =>
   K [v0, r6, v2, r5])
   (x0k v0 v1 v2 v3)) v
def laws_toZoneS : GM
 | [.one a0], k => 
  lenP a0 fun r0 =>
  (r0 = r0) ∧ (2 = 2) ∧ makeP 2 r0 [(.list 17 []), (.list 4 [])] fun r1 =>
  lp (fun L w => laws_toZoneS_r0 w L
   (fun q7 q8 q9 q10 => rt [.own true 60 2] [q10] k)) [a0, (I 0), (.list 2 []), r1]
 | _, _ => False
abbrev laws_toZoneS_e : Ent := ⟨[38], laws_toZoneS⟩
def laws_toZoneS_l : List LE := [⟨0, ⟨[(0, .one (.pv (.bool false))), (2, .one (.own 1)), (3, .one (.own 0)), (4, .one (.pv (.bool false)))], [], [(1, ⟨.deep, 60, 2, (.bool false)⟩), (0, ⟨.deep, 60, 2, (.bool false)⟩)], 2, 23⟩, fun K k v => laws_toZoneS_r0 v K (fun x0 x1 x2 x3 => k (.exit 0) ⟨[(0, .one (.pv x0)), (2, .one (.own 1)), (3, .one (.own 0)), (4, .one (.pv x1))], [], [(1, ⟨.deep, 60, 2, x2⟩), (0, ⟨.deep, 60, 2, x3⟩)], 2, 23⟩)⟩]
theorem laws_toZoneS_s : LEsOK (orac [laws_toZone_e]) TT (kk [0, 2, 3, 4]) (sumsOf laws_toZoneS_l) Tryz.f38 laws_toZoneS_l := ⟨fun v K k h => by
  apply un_all h; exact fun v0 v1 v2 v3 h => Eq.mpr (by kernel_rfl) h
  , trivial⟩
theorem laws_toZoneS_w : EntOK Tryz.prog TT laws_toZoneS_e := ent_ok tabok (L := [laws_toZone_e]) ⟨laws_toZone_w, trivial⟩ (keep := (kk [0, 2, 3, 4])) (l := laws_toZoneS_l) Tryz.func38 (by kernel_rfl) (sg := [.one (.own true 60 2)]) (by kernel_rfl) laws_toZoneS_s fun av k h => by
  unfold laws_toZoneS at h; split at h
  · exact Eq.mpr (by kernel_rfl) h
  · exact h.elim

def laws_toServer : GM
 | [.agg u0], k => un 2 (fun a0 a1 => 
  call laws_toZoneS [.one a0] fun o0 =>
  rt [.own true 60 2, .sc] [(atP o0 0), a1] k) u0
 | _, _ => False
abbrev laws_toServer_e : Ent := ⟨[22], laws_toServer⟩
theorem laws_toServer_w : EntOK Tryz.prog TT laws_toServer_e := ent_ok tabok (L := [laws_toZoneS_e]) ⟨laws_toZoneS_w, trivial⟩ (keep := []) (l := []) Tryz.func22 (by kernel_rfl) (sg := [.agg [.own true 60 2, .sc]]) (by kernel_rfl) trivial fun av k h => by
  unfold laws_toServer at h; split at h
  · apply un_all h; clear h; intro a0 a1 h; exact Eq.mpr (by kernel_rfl) h
  · exact h.elim

def laws_toQuestion : GM
 | [.agg u0], k => un 2 (fun a0 a1 => 
  rt [.sc, .sc] [a0, a1] k) u0
 | _, _ => False
abbrev laws_toQuestion_e : Ent := ⟨[23], laws_toQuestion⟩
theorem laws_toQuestion_w : EntOK Tryz.prog TT laws_toQuestion_e := ent_ok tabok (L := []) trivial (keep := []) (l := []) Tryz.func23 (by kernel_rfl) (sg := [.agg [.sc, .sc]]) (by kernel_rfl) trivial fun av k h => by
  unfold laws_toQuestion at h; split at h
  · apply un_all h; clear h; intro a0 a1 h; exact Eq.mpr (by kernel_rfl) h
  · exact h.elim

def spec_l1In : GM
 | [.one a0, .one a1, .one a2], k => 
  binP .geq a0 a1 fun r0 =>
  iteP r0
   (binP .leq a0 a2 fun r1 =>
   rt [.sc] [r1] k)
   (rt [.sc] [(.bool false)] k)
 | _, _ => False
abbrev spec_l1In_e : Ent := ⟨[56], spec_l1In⟩
theorem spec_l1In_w : EntOK Tryz.prog TT spec_l1In_e := ent_ok tabok (L := []) trivial (keep := []) (l := []) Tryz.func56 (by kernel_rfl) (sg := [.one (.sc)]) (by kernel_rfl) trivial fun av k h => by
  unfold spec_l1In at h; split at h
  · exact Eq.mpr (by kernel_rfl) h
  · exact h.elim

def spec_IsKeys_r0 (v : List PV) (K : List PV → Prop) (x0k : PV → PV → Prop) (x1k : PV → PV → PV → PV → Prop) : Prop :=
 un 4 (fun v0 v1 v2 v3 =>
  lenP v2 fun r0 =>
  binP .lss v1 r0 fun r1 =>
  iteP r1
   (elemP 1 v2 v1 fun c2 =>
   call spec_l1In [.one (atP c2 0), .one (I 1), .one (I 99)] fun o3 =>
   unP .not (atP o3 0) fun r4 =>
   iteP r4
    (x0k v2 v3)
    (binP .gtr v1 (I 0) fun r5 =>
    iteP r5
     (binP .sub v1 (I 1) fun r6 =>
     elemP 1 v2 r6 fun c7 =>
     elemP 1 v2 v1 fun c8 =>
     binP .geq (atP c7 0) (atP c8 0) fun r9 =>
     iteP r9
      (x0k v2 v3)
      (binP .add v1 (I 1) fun r10 =>
      K [v0, r10, v2, v3]))
     (binP .add v1 (I 1) fun r11 =>
     K [v0, r11, v2, v3])))
   (x1k v0 v1 v2 v3)) v
def spec_IsKeys : GM
 | [.agg u0], k => un 2 (fun a0 a1 => 
  lp (fun L w => spec_IsKeys_r0 w L
   (fun q12 q13 => rt [.sc] [(.bool false)] k)
   (fun q14 q15 q16 q17 => lenP q16 fun r18 =>
    call spec_l1In [.one r18, .one (I 1), .one (I 4)] fun o19 =>
    iteP (atP o19 0)
     (lenP q16 fun r20 =>
     call spec_l1In [.one q17, .one (I 1), .one r20] fun o21 =>
     rt [.sc] [(atP o21 0)] k)
     (rt [.sc] [(.bool false)] k))) [(.bool false), (I 0), a0, a1]) u0
 | _, _ => False
abbrev spec_IsKeys_e : Ent := ⟨[162], spec_IsKeys⟩
def spec_IsKeys_l : List LE := [⟨0, ⟨[(1, .one (.ptr 0 0)), (2, .one (.pv (.bool false))), (3, .one (.pv (.bool false)))], [(0, [.pv (.bool false), .pv (.bool false)])], [], 1, 48⟩, fun K k v => spec_IsKeys_r0 v K (fun x0 x1 => k .ret ⟨[(2, .one (.kb false))], [(0, [.pv x0, .pv x1])], [], 2, 48⟩) (fun x0 x1 x2 x3 => k (.exit 0) ⟨[(1, .one (.ptr 0 0)), (2, .one (.pv x0)), (3, .one (.pv x1))], [(0, [.pv x2, .pv x3])], [], 1, 48⟩)⟩]
theorem spec_IsKeys_s : LEsOK (orac [spec_l1In_e]) TT (kk [1, 2, 3, 19, 20, 21, 22, 23, 24, 25, 26, 27, 28, 29, 30, 31, 32, 33, 34, 41, 42, 43, 44, 45, 46]) (sumsOf spec_IsKeys_l) Tryz.f162 spec_IsKeys_l := ⟨fun v K k h => by
  apply un_all h; exact fun v0 v1 v2 v3 h => Eq.mpr (by kernel_rfl) h
  , trivial⟩
theorem spec_IsKeys_w : EntOK Tryz.prog TT spec_IsKeys_e := ent_ok tabok (L := [spec_l1In_e]) ⟨spec_l1In_w, trivial⟩ (keep := (kk [1, 2, 3, 19, 20, 21, 22, 23, 24, 25, 26, 27, 28, 29, 30, 31, 32, 33, 34, 41, 42, 43, 44, 45, 46])) (l := spec_IsKeys_l) Tryz.func162 (by kernel_rfl) (sg := [.one (.sc)]) (by kernel_rfl) spec_IsKeys_s fun av k h => by
  unfold spec_IsKeys at h; split at h
  · apply un_all h; clear h; intro a0 a1 h; exact Eq.mpr (by kernel_rfl) h
  · exact h.elim

def spec_NoKeys : GM
 | [.agg u0], k => un 2 (fun a0 a1 => 
  binP .eql a1 (I 0) fun r0 =>
  iteP r0
   (lenP a0 fun r1 =>
   binP .eql r1 (I 0) fun r2 =>
   rt [.sc] [r2] k)
   (rt [.sc] [(.bool false)] k)) u0
 | _, _ => False
abbrev spec_NoKeys_e : Ent := ⟨[249], spec_NoKeys⟩
theorem spec_NoKeys_w : EntOK Tryz.prog TT spec_NoKeys_e := ent_ok tabok (L := []) trivial (keep := []) (l := []) Tryz.func249 (by kernel_rfl) (sg := [.one (.sc)]) (by kernel_rfl) trivial fun av k h => by
  unfold spec_NoKeys at h; split at h
  · apply un_all h; clear h; intro a0 a1 h; exact Eq.mpr (by kernel_rfl) h
  · exact h.elim

def spec_IsHead : GM
 | [.agg u0], k => un 16 (fun a0 a1 a2 a3 a4 a5 a6 a7 a8 a9 a10 a11 a12 a13 a14 a15 => 
  call spec_l1In [.one a0, .one (I 0), .one (I 2147483646)] fun o0 =>
  unP .not (atP o0 0) fun r1 =>
  iteP r1
   (rt [.sc] [(.bool false)] k)
   (call spec_l1In [.one a6, .one (I 0), .one (I 2147483646)] fun o2 =>
   unP .not (atP o2 0) fun r3 =>
   iteP r3
    (rt [.sc] [(.bool false)] k)
    (call spec_l1In [.one a7, .one (I 0), .one (I 2147483646)] fun o4 =>
    unP .not (atP o4 0) fun r5 =>
    iteP r5
     (rt [.sc] [(.bool false)] k)
     (call spec_l1In [.one a1, .one (I 0), .one (I 200)] fun o6 =>
     unP .not (atP o6 0) fun r7 =>
     iteP r7
      (rt [.sc] [(.bool false)] k)
      (call spec_l1In [.one a2, .one (I 1), .one (I 3)] fun o8 =>
      unP .not (atP o8 0) fun r9 =>
      iteP r9
       (rt [.sc] [(.bool false)] k)
       (call spec_l1In [.one a3, .one (I 0), .one (I 100000)] fun o10 =>
       unP .not (atP o10 0) fun r11 =>
       iteP r11
        (rt [.sc] [(.bool false)] k)
        (call spec_l1In [.one a4, .one a3, .one (I 100000)] fun o12 =>
        unP .not (atP o12 0) fun r13 =>
        iteP r13
         (rt [.sc] [(.bool false)] k)
         (binP .sub a4 a3 fun r14 =>
         binP .gtr r14 (I 200) fun r15 =>
         iteP r15
          (rt [.sc] [(.bool false)] k)
          (call spec_l1In [.one a5, .one (I 0), .one (I 12)] fun o16 =>
          unP .not (atP o16 0) fun r17 =>
          iteP r17
           (rt [.sc] [(.bool false)] k)
           (call spec_IsKeys [.agg [a8, a9]] fun o18 =>
           unP .not (atP o18 0) fun r19 =>
           iteP r19
            (rt [.sc] [(.bool false)] k)
            (call spec_NoKeys [.agg [a10, a11]] fun o20 =>
            iteP (atP o20 0)
             (binP .neq a12 (I 0) fun r21 =>
             iteP r21
              (rt [.sc] [(.bool false)] k)
              (call spec_IsKeys [.agg [a13, a14]] fun o22 =>
              iteP (atP o22 0)
               (rt [.sc] [(.bool true)] k)
               (call spec_NoKeys [.agg [a13, a14]] fun o23 =>
               iteP (atP o23 0)
                (unP .not a15 fun r24 =>
                rt [.sc] [r24] k)
                (rt [.sc] [(.bool false)] k))))
             (call spec_IsKeys [.agg [a10, a11]] fun o25 =>
             unP .not (atP o25 0) fun r26 =>
             iteP r26
              (rt [.sc] [(.bool false)] k)
              (call spec_l1In [.one a12, .one (I 1), .one (I 500)] fun o27 =>
              unP .not (atP o27 0) fun r28 =>
              iteP r28
               (rt [.sc] [(.bool false)] k)
               (call spec_IsKeys [.agg [a13, a14]] fun o29 =>
               iteP (atP o29 0)
                (rt [.sc] [(.bool true)] k)
                (call spec_NoKeys [.agg [a13, a14]] fun o30 =>
                iteP (atP o30 0)
                 (unP .not a15 fun r31 =>
                 rt [.sc] [r31] k)
                 (rt [.sc] [(.bool false)] k)))))))))))))))) u0
 | _, _ => False
abbrev spec_IsHead_e : Ent := ⟨[236], spec_IsHead⟩
theorem spec_IsHead_w : EntOK Tryz.prog TT spec_IsHead_e := ent_ok tabok (L := [spec_l1In_e, spec_IsKeys_e, spec_NoKeys_e]) ⟨spec_l1In_w, spec_IsKeys_w, spec_NoKeys_w, trivial⟩ (keep := []) (l := []) Tryz.func236 (by kernel_rfl) (sg := [.one (.sc)]) (by kernel_rfl) trivial fun av k h => by
  unfold spec_IsHead at h; split at h
  · apply un_all h; clear h; intro a0 a1 a2 a3 a4 a5 a6 a7 a8 a9 a10 a11 a12 a13 a14 a15 h; exact Eq.mpr (by kernel_rfl) h
  · exact h.elim

def spec_KeysInts : GM
 | [.agg u0], k => un 2 (fun a0 a1 => 
  lenP a0 fun r0 =>
  (2 = 2) ∧ (2 ≤ 16777216) ∧ (1 = 1) ∧ (0 = 0) ∧ (1 = 1) ∧ (flatCond [.pv (I 0)] [.pv a1]) ∧ (1 = 1) ∧ (1 = 1) ∧ (flatCond [.pv (I 0)] [.pv r0]) ∧ (flatRows a0) ∧ catP 1 (.list 1 [[a1], [r0]]) a0 fun r1 =>
  rt [.own true 3 1] [r1] k) u0
 | _, _ => False
abbrev spec_KeysInts_e : Ent := ⟨[250], spec_KeysInts⟩
theorem spec_KeysInts_w : EntOK Tryz.prog TT spec_KeysInts_e := ent_ok tabok (L := []) trivial (keep := []) (l := []) Tryz.func250 (by kernel_rfl) (sg := [.one (.own true 3 1)]) (by kernel_rfl) trivial fun av k h => by
  unfold spec_KeysInts at h; split at h
  · apply un_all h; clear h; intro a0 a1 h; exact Eq.mpr (by kernel_rfl) h
  · exact h.elim

def spec_Mod : GM
 | [.one a0, .one a1], k => 
  call spec_l1In [.one a1, .one (I 1), .one (I 1000000000000)] fun o0 =>
  unP .not (atP o0 0) fun r1 =>
  iteP r1
   (rt [.sc] [(I 0)] k)
   (binP .rem a0 a1 fun r2 =>
   binP .add r2 a1 fun r3 =>
   binP .rem r3 a1 fun r4 =>
   rt [.sc] [r4] k)
 | _, _ => False
abbrev spec_Mod_e : Ent := ⟨[145], spec_Mod⟩
theorem spec_Mod_w : EntOK Tryz.prog TT spec_Mod_e := ent_ok tabok (L := [spec_l1In_e]) ⟨spec_l1In_w, trivial⟩ (keep := []) (l := []) Tryz.func145 (by kernel_rfl) (sg := [.one (.sc)]) (by kernel_rfl) trivial fun av k h => by
  unfold spec_Mod at h; split at h
  · exact Eq.mpr (by kernel_rfl) h
  · exact h.elim

def spec_Hash_r0 (v : List PV) (K : List PV → Prop) (x0k : PV → PV → PV → PV → Prop) : Prop :=
 un 4 (fun v0 v1 v2 v3 =>
  lenP v0 fun r0 =>
  binP .lss v3 r0 fun r1 =>
  iteP r1
   (binP .mul v2 (I 1000003) fun r2 =>
   elemP 1 v0 v3 fun c3 =>
   call spec_Mod [.one (atP c3 0), .one (I 2147483647)] fun o4 =>
   binP .add r2 (atP o4 0) fun r5 =>
   binP .add r5 (I 13) fun r6 =>
   binP .rem r6 (I 2147483647) fun r7 =>
   binP .add v3 (I 1) fun r8 =>
   K [v0, v1, r7, r8])
   (x0k v0 v1 v2 v3)) v
def spec_Hash : GM
 | [.one a0], k => 
  lp (fun L w => spec_Hash_r0 w L
   (fun q9 q10 q11 q12 => rt [.sc] [q11] k)) [a0, (I 0), (I 11), (I 0)]
 | _, _ => False
abbrev spec_Hash_e : Ent := ⟨[109], spec_Hash⟩
def spec_Hash_l : List LE := [⟨0, ⟨[(0, .one (.pv (.bool false))), (2, .one (.pv (.bool false))), (3, .one (.pv (.bool false))), (4, .one (.pv (.bool false)))], [], [], 0, 22⟩, fun K k v => spec_Hash_r0 v K (fun x0 x1 x2 x3 => k (.exit 0) ⟨[(0, .one (.pv x0)), (2, .one (.pv x1)), (3, .one (.pv x2)), (4, .one (.pv x3))], [], [], 0, 22⟩)⟩]
theorem spec_Hash_s : LEsOK (orac [spec_Mod_e]) TT (kk [0, 2, 3, 4]) (sumsOf spec_Hash_l) Tryz.f109 spec_Hash_l := ⟨fun v K k h => by
  apply un_all h; exact fun v0 v1 v2 v3 h => Eq.mpr (by kernel_rfl) h
  , trivial⟩
theorem spec_Hash_w : EntOK Tryz.prog TT spec_Hash_e := ent_ok tabok (L := [spec_Mod_e]) ⟨spec_Mod_w, trivial⟩ (keep := (kk [0, 2, 3, 4])) (l := spec_Hash_l) Tryz.func109 (by kernel_rfl) (sg := [.one (.sc)]) (by kernel_rfl) spec_Hash_s fun av k h => by
  unfold spec_Hash at h; split at h
  · exact Eq.mpr (by kernel_rfl) h
  · exact h.elim

def spec_ZoneOf : GM
 | [.agg u0, .one a2], k => un 2 (fun a0 a1 => 
  (2 = 2) ∧ (2 ≤ 16777216) ∧ (1 = 1) ∧ (0 = 0) ∧ (1 = 1) ∧ (flatCond [.pv (I 0)] [.pv (I 239)]) ∧ (1 = 1) ∧ (1 = 1) ∧ (flatCond [.pv (I 0)] [.pv a2]) ∧ call spec_KeysInts [.agg [a0, a1]] fun o0 =>
  catP 1 (.list 1 [[(I 239)], [a2]]) (atP o0 0) fun r1 =>
  call spec_Hash [.one r1] fun o2 =>
  rt [.sc] [(atP o2 0)] k) u0
 | _, _ => False
abbrev spec_ZoneOf_e : Ent := ⟨[237], spec_ZoneOf⟩
theorem spec_ZoneOf_w : EntOK Tryz.prog TT spec_ZoneOf_e := ent_ok tabok (L := [spec_KeysInts_e, spec_Hash_e]) ⟨spec_KeysInts_w, spec_Hash_w, trivial⟩ (keep := []) (l := []) Tryz.func237 (by kernel_rfl) (sg := [.one (.sc)]) (by kernel_rfl) trivial fun av k h => by
  unfold spec_ZoneOf at h; split at h
  · apply un_all h; clear h; intro a0 a1 h; exact Eq.mpr (by kernel_rfl) h
  · exact h.elim

def spec_HeadInts : GM
 | [.agg u0], k => un 16 (fun a0 a1 a2 a3 a4 a5 a6 a7 a8 a9 a10 a11 a12 a13 a14 a15 => 
  (8 = 8) ∧ (8 ≤ 16777216) ∧ (1 = 1) ∧ (0 = 0) ∧ (1 = 1) ∧ (flatCond [.pv (I 0)] [.pv a0]) ∧ (1 = 1) ∧ (1 = 1) ∧ (flatCond [.pv (I 0)] [.pv a1]) ∧ (2 = 2) ∧ (1 = 1) ∧ (flatCond [.pv (I 0)] [.pv a2]) ∧ (3 = 3) ∧ (1 = 1) ∧ (flatCond [.pv (I 0)] [.pv a3]) ∧ (4 = 4) ∧ (1 = 1) ∧ (flatCond [.pv (I 0)] [.pv a4]) ∧ (5 = 5) ∧ (1 = 1) ∧ (flatCond [.pv (I 0)] [.pv a5]) ∧ (6 = 6) ∧ (1 = 1) ∧ (flatCond [.pv (I 0)] [.pv a6]) ∧ (7 = 7) ∧ (1 = 1) ∧ (flatCond [.pv (I 0)] [.pv a7]) ∧ call spec_KeysInts [.agg [a8, a9]] fun o0 =>
  catP 1 (.list 1 [[a0], [a1], [a2], [a3], [a4], [a5], [a6], [a7]]) (atP o0 0) fun r1 =>
  call spec_KeysInts [.agg [a10, a11]] fun o2 =>
  catP 1 r1 (atP o2 0) fun r3 =>
  (1 = 1) ∧ (1 ≤ 16777216) ∧ (1 = 1) ∧ (0 = 0) ∧ (1 = 1) ∧ (flatCond [.pv (I 0)] [.pv a12]) ∧ catP 1 r3 (.list 1 [[a12]]) fun r4 =>
  call spec_KeysInts [.agg [a13, a14]] fun o5 =>
  catP 1 r4 (atP o5 0) fun r6 =>
  iteP a15
   ((1 = 1) ∧ (1 ≤ 16777216) ∧ (1 = 1) ∧ (0 = 0) ∧ (1 = 1) ∧ (flatCond [.pv (I 0)] [.pv (I 1)]) ∧ catP 1 r6 (.list 1 [[(I 1)]]) fun r7 =>
   rt [.own true 3 1] [r7] k)
   ((1 = 1) ∧ (1 ≤ 16777216) ∧ (1 = 1) ∧ (0 = 0) ∧ (1 = 1) ∧ (flatCond [.pv (I 0)] [.pv (I 0)]) ∧ catP 1 r6 (.list 1 [[(I 0)]]) fun r8 =>
   rt [.own true 3 1] [r8] k)) u0
 | _, _ => False
abbrev spec_HeadInts_e : Ent := ⟨[239], spec_HeadInts⟩
theorem spec_HeadInts_w : EntOK Tryz.prog TT spec_HeadInts_e := ent_ok tabok (L := [spec_KeysInts_e]) ⟨spec_KeysInts_w, trivial⟩ (keep := []) (l := []) Tryz.func239 (by kernel_rfl) (sg := [.one (.own true 3 1)]) (by kernel_rfl) trivial fun av k h => by
  unfold spec_HeadInts at h; split at h
  · apply un_all h; clear h; intro a0 a1 a2 a3 a4 a5 a6 a7 a8 a9 a10 a11 a12 a13 a14 a15 h; exact Eq.mpr (by kernel_rfl) h
  · exact h.elim

def spec_KeyedHash : GM
 | [.one a0, .one a1], k => 
  (1 = 1) ∧ (1 ≤ 16777216) ∧ (1 = 1) ∧ (0 = 0) ∧ (1 = 1) ∧ (flatCond [.pv (I 0)] [.pv a0]) ∧ (flatRows a1) ∧ catP 1 (.list 1 [[a0]]) a1 fun r0 =>
  (1 = 1) ∧ (1 ≤ 16777216) ∧ (1 = 1) ∧ (0 = 0) ∧ (1 = 1) ∧ (flatCond [.pv (I 0)] [.pv a0]) ∧ catP 1 r0 (.list 1 [[a0]]) fun r1 =>
  call spec_Hash [.one r1] fun o2 =>
  rt [.sc] [(atP o2 0)] k
 | _, _ => False
abbrev spec_KeyedHash_e : Ent := ⟨[285], spec_KeyedHash⟩
theorem spec_KeyedHash_w : EntOK Tryz.prog TT spec_KeyedHash_e := ent_ok tabok (L := [spec_Hash_e]) ⟨spec_Hash_w, trivial⟩ (keep := []) (l := []) Tryz.func285 (by kernel_rfl) (sg := [.one (.sc)]) (by kernel_rfl) trivial fun av k h => by
  unfold spec_KeyedHash at h; split at h
  · exact Eq.mpr (by kernel_rfl) h
  · exact h.elim

def spec_TagOf : GM
 | [.one a0, .one a1], k => 
  (1 = 1) ∧ (1 ≤ 16777216) ∧ (1 = 1) ∧ (0 = 0) ∧ (1 = 1) ∧ (flatCond [.pv (I 0)] [.pv (I 223)]) ∧ (flatRows a1) ∧ catP 1 (.list 1 [[(I 223)]]) a1 fun r0 =>
  call spec_KeyedHash [.one a0, .one r0] fun o1 =>
  rt [.sc] [(atP o1 0)] k
 | _, _ => False
abbrev spec_TagOf_e : Ent := ⟨[278], spec_TagOf⟩
theorem spec_TagOf_w : EntOK Tryz.prog TT spec_TagOf_e := ent_ok tabok (L := [spec_KeyedHash_e]) ⟨spec_KeyedHash_w, trivial⟩ (keep := []) (l := []) Tryz.func278 (by kernel_rfl) (sg := [.one (.sc)]) (by kernel_rfl) trivial fun av k h => by
  unfold spec_TagOf at h; split at h
  · exact Eq.mpr (by kernel_rfl) h
  · exact h.elim

def spec_IsSigBy : GM
 | [.agg u0, .one a2], k => un 2 (fun a0 a1 => 
  call spec_l1In [.one a0, .one (I 1), .one (I 99)] fun o0 =>
  iteP (atP o0 0)
   (call spec_TagOf [.one a0, .one a2] fun o1 =>
   binP .eql a1 (atP o1 0) fun r2 =>
   rt [.sc] [r2] k)
   (rt [.sc] [(.bool false)] k)) u0
 | _, _ => False
abbrev spec_IsSigBy_e : Ent := ⟨[269], spec_IsSigBy⟩
theorem spec_IsSigBy_w : EntOK Tryz.prog TT spec_IsSigBy_e := ent_ok tabok (L := [spec_l1In_e, spec_TagOf_e]) ⟨spec_l1In_w, spec_TagOf_w, trivial⟩ (keep := []) (l := []) Tryz.func269 (by kernel_rfl) (sg := [.one (.sc)]) (by kernel_rfl) trivial fun av k h => by
  unfold spec_IsSigBy at h; split at h
  · apply un_all h; clear h; intro a0 a1 h; exact Eq.mpr (by kernel_rfl) h
  · exact h.elim

def spec_CountSigs_r1 (v : List PV) (K : List PV → Prop) (x0k : PV → PV → PV → PV → PV → PV → PV → PV → PV → PV → PV → Prop) (x1k : PV → PV → PV → PV → PV → PV → PV → PV → Prop) : Prop :=
 un 8 (fun v0 v1 v2 v3 v4 v5 v6 v7 =>
  lenP v1 fun r0 =>
  binP .lss v5 r0 fun r1 =>
  iteP r1
   (elemP 2 v1 v5 fun c2 =>
   elemP 1 v6 v4 fun c3 =>
   binP .eql (atP c2 0) (atP c3 0) fun r4 =>
   iteP r4
    (elemP 2 v1 v5 fun c5 =>
    call spec_IsSigBy [.agg [(atP c5 0), (atP c5 1)], .one v0] fun o6 =>
    iteP (atP o6 0)
     (binP .add v3 (I 1) fun r7 =>
     x0k v0 v1 v2 r7 v4 v5 (atP c5 0) (atP c5 1) (atP o6 0) v6 v7)
     (binP .add v5 (I 1) fun r8 =>
     K [v0, v1, v2, v3, v4, r8, v6, v7]))
    (binP .add v5 (I 1) fun r9 =>
    K [v0, v1, v2, v3, v4, r9, v6, v7]))
   (x1k v0 v1 v2 v3 v4 v5 v6 v7)) v
def spec_CountSigs_r0 (v : List PV) (K : List PV → Prop) (x0k : PV → PV → PV → PV → PV → PV → PV → Prop) : Prop :=
 un 7 (fun v0 v1 v2 v3 v4 v5 v6 =>
  lenP v5 fun r0 =>
  binP .lss v4 r0 fun r1 =>
  iteP r1
   (lp (fun L w => spec_CountSigs_r1 w L
    (fun q10 q11 q12 q13 q14 q15 q16 q17 q18 q19 q20 => binP .add q14 (I 1) fun r21 =>
     K [q10, q11, q12, q13, r21, q19, q20])
    (fun q22 q23 q24 q25 q26 q27 q28 q29 => binP .add q26 (I 1) fun r30 =>
     K [q22, q23, q24, q25, r30, q28, q29])) [v0, v1, v2, v3, v4, (I 0), v5, v6])
   (x0k v0 v1 v2 v3 v4 v5 v6)) v
def spec_CountSigs : GM
 | [.agg u0, .one a2, .one a3], k => un 2 (fun a0 a1 => 
  lp (fun L w => spec_CountSigs_r0 w L
   (fun q31 q32 q33 q34 q35 q36 q37 => rt [.sc] [q34] k)) [a2, a3, (I 0), (I 0), (I 0), a0, a1]) u0
 | _, _ => False
abbrev spec_CountSigs_e : Ent := ⟨[251], spec_CountSigs⟩
def spec_CountSigs_l : List LE := [⟨1, ⟨[(1, .one (.pv (.bool false))), (2, .one (.pv (.bool false))), (3, .one (.ptr 0 0)), (6, .one (.pv (.bool false))), (7, .one (.pv (.bool false))), (8, .one (.pv (.bool false))), (9, .one (.pv (.bool false)))], [(0, [.pv (.bool false), .pv (.bool false)])], [], 1, 45⟩, fun K k v => spec_CountSigs_r1 v K (fun x0 x1 x2 x3 x4 x5 x6 x7 x8 x9 x10 => k (.exit 2) ⟨[(1, .one (.pv x0)), (2, .one (.pv x1)), (3, .one (.ptr 0 0)), (6, .one (.pv x2)), (7, .one (.pv x3)), (8, .one (.pv x4)), (9, .one (.pv x5)), (35, .one (.pv x1)), (36, .one (.pv x5)), (37, .one (.sptr [x6, x7])), (38, .agg [.pv x6, .pv x7]), (39, .one (.pv x0)), (40, .one (.pv x8))], [(0, [.pv x9, .pv x10])], [], 2, 45⟩) (fun x0 x1 x2 x3 x4 x5 x6 x7 => k (.exit 2) ⟨[(1, .one (.pv x0)), (2, .one (.pv x1)), (3, .one (.ptr 0 0)), (6, .one (.pv x2)), (7, .one (.pv x3)), (8, .one (.pv x4)), (9, .one (.pv x5))], [(0, [.pv x6, .pv x7])], [], 1, 45⟩)⟩,
  ⟨0, ⟨[(1, .one (.pv (.bool false))), (2, .one (.pv (.bool false))), (3, .one (.ptr 0 0)), (6, .one (.pv (.bool false))), (7, .one (.pv (.bool false))), (8, .one (.pv (.bool false)))], [(0, [.pv (.bool false), .pv (.bool false)])], [], 1, 45⟩, fun K k v => spec_CountSigs_r0 v K (fun x0 x1 x2 x3 x4 x5 x6 => k (.exit 0) ⟨[(1, .one (.pv x0)), (2, .one (.pv x1)), (3, .one (.ptr 0 0)), (6, .one (.pv x2)), (7, .one (.pv x3)), (8, .one (.pv x4))], [(0, [.pv x5, .pv x6])], [], 1, 45⟩)⟩]
theorem spec_CountSigs_s : LEsOK (orac [spec_IsSigBy_e]) TT (kk [1, 2, 3, 6, 7, 8, 9, 35, 36, 37, 38, 39, 40]) (sumsOf spec_CountSigs_l) Tryz.f251 spec_CountSigs_l := ⟨fun v K k h => by
  apply un_all h; exact fun v0 v1 v2 v3 v4 v5 v6 v7 h => Eq.mpr (by kernel_rfl) h
  , fun v K k h => by
  apply un_all h; exact fun v0 v1 v2 v3 v4 v5 v6 h => Eq.mpr (by kernel_rfl) h
  , trivial⟩
theorem spec_CountSigs_w : EntOK Tryz.prog TT spec_CountSigs_e := ent_ok tabok (L := [spec_IsSigBy_e]) ⟨spec_IsSigBy_w, trivial⟩ (keep := (kk [1, 2, 3, 6, 7, 8, 9, 35, 36, 37, 38, 39, 40])) (l := spec_CountSigs_l) Tryz.func251 (by kernel_rfl) (sg := [.one (.sc)]) (by kernel_rfl) spec_CountSigs_s fun av k h => by
  unfold spec_CountSigs at h; split at h
  · apply un_all h; clear h; intro a0 a1 h; exact Eq.mpr (by kernel_rfl) h
  · exact h.elim

def spec_IsSigned : GM
 | [.agg u0, .one a2, .one a3], k => un 2 (fun a0 a1 => 
  call spec_IsKeys [.agg [a0, a1]] fun o0 =>
  iteP (atP o0 0)
   (call spec_CountSigs [.agg [a0, a1], .one a2, .one a3] fun o1 =>
   binP .geq (atP o1 0) a1 fun r2 =>
   rt [.sc] [r2] k)
   (rt [.sc] [(.bool false)] k)) u0
 | _, _ => False
abbrev spec_IsSigned_e : Ent := ⟨[238], spec_IsSigned⟩
theorem spec_IsSigned_w : EntOK Tryz.prog TT spec_IsSigned_e := ent_ok tabok (L := [spec_IsKeys_e, spec_CountSigs_e]) ⟨spec_IsKeys_w, spec_CountSigs_w, trivial⟩ (keep := []) (l := []) Tryz.func238 (by kernel_rfl) (sg := [.one (.sc)]) (by kernel_rfl) trivial fun av k h => by
  unfold spec_IsSigned at h; split at h
  · apply un_all h; clear h; intro a0 a1 h; exact Eq.mpr (by kernel_rfl) h
  · exact h.elim

def spec_IsFirst : GM
 | [.agg u0], k => un 17 (fun a0 a1 a2 a3 a4 a5 a6 a7 a8 a9 a10 a11 a12 a13 a14 a15 a16 => 
  call spec_IsHead [.agg [a0, a1, a2, a3, a4, a5, a6, a7, a8, a9, a10, a11, a12, a13, a14, a15]] fun o0 =>
  iteP (atP o0 0)
   (binP .eql a1 (I 0) fun r1 =>
   iteP r1
    (binP .eql a2 (I 1) fun r2 =>
    iteP r2
     (unP .not a15 fun r3 =>
     iteP r3
      (call spec_ZoneOf [.agg [a8, a9], .one a7] fun o4 =>
      binP .eql a0 (atP o4 0) fun r5 =>
      iteP r5
       (call spec_HeadInts [.agg [a0, a1, a2, a3, a4, a5, a6, a7, a8, a9, a10, a11, a12, a13, a14, a15]] fun o6 =>
       call spec_IsSigned [.agg [a8, a9], .one (atP o6 0), .one a16] fun o7 =>
       rt [.sc] [(atP o7 0)] k)
       (rt [.sc] [(.bool false)] k))
      (rt [.sc] [(.bool false)] k))
     (rt [.sc] [(.bool false)] k))
    (rt [.sc] [(.bool false)] k))
   (rt [.sc] [(.bool false)] k)) u0
 | _, _ => False
abbrev spec_IsFirst_e : Ent := ⟨[220], spec_IsFirst⟩
theorem spec_IsFirst_w : EntOK Tryz.prog TT spec_IsFirst_e := ent_ok tabok (L := [spec_IsHead_e, spec_ZoneOf_e, spec_HeadInts_e, spec_IsSigned_e]) ⟨spec_IsHead_w, spec_ZoneOf_w, spec_HeadInts_w, spec_IsSigned_w, trivial⟩ (keep := []) (l := []) Tryz.func220 (by kernel_rfl) (sg := [.one (.sc)]) (by kernel_rfl) trivial fun av k h => by
  unfold spec_IsFirst at h; split at h
  · apply un_all h; clear h; intro a0 a1 a2 a3 a4 a5 a6 a7 a8 a9 a10 a11 a12 a13 a14 a15 a16 h; exact Eq.mpr (by kernel_rfl) h
  · exact h.elim

def spec_HeadDigest : GM
 | [.agg u0], k => un 16 (fun a0 a1 a2 a3 a4 a5 a6 a7 a8 a9 a10 a11 a12 a13 a14 a15 => 
  (1 = 1) ∧ (1 ≤ 16777216) ∧ (1 = 1) ∧ (0 = 0) ∧ (1 = 1) ∧ (flatCond [.pv (I 0)] [.pv (I 233)]) ∧ call spec_HeadInts [.agg [a0, a1, a2, a3, a4, a5, a6, a7, a8, a9, a10, a11, a12, a13, a14, a15]] fun o0 =>
  catP 1 (.list 1 [[(I 233)]]) (atP o0 0) fun r1 =>
  call spec_Hash [.one r1] fun o2 =>
  rt [.sc] [(atP o2 0)] k) u0
 | _, _ => False
abbrev spec_HeadDigest_e : Ent := ⟨[252], spec_HeadDigest⟩
theorem spec_HeadDigest_w : EntOK Tryz.prog TT spec_HeadDigest_e := ent_ok tabok (L := [spec_HeadInts_e, spec_Hash_e]) ⟨spec_HeadInts_w, spec_Hash_w, trivial⟩ (keep := []) (l := []) Tryz.func252 (by kernel_rfl) (sg := [.one (.sc)]) (by kernel_rfl) trivial fun av k h => by
  unfold spec_HeadDigest at h; split at h
  · apply un_all h; clear h; intro a0 a1 a2 a3 a4 a5 a6 a7 a8 a9 a10 a11 a12 a13 a14 a15 h; exact Eq.mpr (by kernel_rfl) h
  · exact h.elim

def spec_l15Owner : GM
 | [.agg u0, .agg u1], k => un 16 (fun a0 a1 a2 a3 a4 a5 a6 a7 a8 a9 a10 a11 a12 a13 a14 a15 => un 16 (fun a16 a17 a18 a19 a20 a21 a22 a23 a24 a25 a26 a27 a28 a29 a30 a31 => 
  iteP a15
   (rt [.sc] [(I 4)] k)
   (iteP a31
    (rt [.sc] [(I 6)] k)
    (rt [.sc] [(I 1)] k))) u1) u0
 | _, _ => False
abbrev spec_l15Owner_e : Ent := ⟨[253], spec_l15Owner⟩
theorem spec_l15Owner_w : EntOK Tryz.prog TT spec_l15Owner_e := ent_ok tabok (L := []) trivial (keep := []) (l := []) Tryz.func253 (by kernel_rfl) (sg := [.one (.sc)]) (by kernel_rfl) trivial fun av k h => by
  unfold spec_l15Owner at h; split at h
  · apply un_all h; clear h; intro a0 a1 a2 a3 a4 a5 a6 a7 a8 a9 a10 a11 a12 a13 a14 a15 h; apply un_all h; clear h; intro a16 a17 a18 a19 a20 a21 a22 a23 a24 a25 a26 a27 a28 a29 a30 a31 h; exact Eq.mpr (by kernel_rfl) h
  · exact h.elim

def spec_EqualInts_r0 (v : List PV) (K : List PV → Prop) (x0k : Prop) (x1k : PV → PV → PV → PV → Prop) : Prop :=
 un 4 (fun v0 v1 v2 v3 =>
  lenP v0 fun r0 =>
  binP .lss v3 r0 fun r1 =>
  iteP r1
   (elemP 1 v0 v3 fun c2 =>
   elemP 1 v1 v3 fun c3 =>
   binP .neq (atP c2 0) (atP c3 0) fun r4 =>
   iteP r4
    (x0k)
    (binP .add v3 (I 1) fun r5 =>
    K [v0, v1, v2, r5]))
   (x1k v0 v1 v2 v3)) v
def spec_EqualInts : GM
 | [.one a0, .one a1], k => 
  lenP a0 fun r0 =>
  lenP a1 fun r1 =>
  binP .neq r0 r1 fun r2 =>
  iteP r2
   (rt [.sc] [(.bool false)] k)
   (lp (fun L w => spec_EqualInts_r0 w L
    (rt [.sc] [(.bool false)] k)
    (fun q6 q7 q8 q9 => rt [.sc] [(.bool true)] k)) [a0, a1, (.bool false), (I 0)])
 | _, _ => False
abbrev spec_EqualInts_e : Ent := ⟨[279], spec_EqualInts⟩
def spec_EqualInts_l : List LE := [⟨0, ⟨[(0, .one (.pv (.bool false))), (1, .one (.pv (.bool false))), (4, .one (.pv (.bool false))), (5, .one (.pv (.bool false)))], [], [], 0, 26⟩, fun K k v => spec_EqualInts_r0 v K (k .ret ⟨[(4, .one (.kb false))], [], [], 0, 26⟩) (fun x0 x1 x2 x3 => k (.exit 0) ⟨[(0, .one (.pv x0)), (1, .one (.pv x1)), (4, .one (.pv x2)), (5, .one (.pv x3))], [], [], 0, 26⟩)⟩]
theorem spec_EqualInts_s : LEsOK (orac []) TT (kk [0, 1, 4, 5]) (sumsOf spec_EqualInts_l) Tryz.f279 spec_EqualInts_l := ⟨fun v K k h => by
  apply un_all h; exact fun v0 v1 v2 v3 h => Eq.mpr (by kernel_rfl) h
  , trivial⟩
theorem spec_EqualInts_w : EntOK Tryz.prog TT spec_EqualInts_e := ent_ok tabok (L := []) trivial (keep := (kk [0, 1, 4, 5])) (l := spec_EqualInts_l) Tryz.func279 (by kernel_rfl) (sg := [.one (.sc)]) (by kernel_rfl) spec_EqualInts_s fun av k h => by
  unfold spec_EqualInts at h; split at h
  · exact Eq.mpr (by kernel_rfl) h
  · exact h.elim

def spec_EqualKeys : GM
 | [.agg u0, .agg u1], k => un 2 (fun a0 a1 => un 2 (fun a2 a3 => 
  binP .eql a1 a3 fun r0 =>
  iteP r0
   (call spec_EqualInts [.one a0, .one a2] fun o1 =>
   rt [.sc] [(atP o1 0)] k)
   (rt [.sc] [(.bool false)] k)) u1) u0
 | _, _ => False
abbrev spec_EqualKeys_e : Ent := ⟨[270], spec_EqualKeys⟩
theorem spec_EqualKeys_w : EntOK Tryz.prog TT spec_EqualKeys_e := ent_ok tabok (L := [spec_EqualInts_e]) ⟨spec_EqualInts_w, trivial⟩ (keep := []) (l := []) Tryz.func270 (by kernel_rfl) (sg := [.one (.sc)]) (by kernel_rfl) trivial fun av k h => by
  unfold spec_EqualKeys at h; split at h
  · apply un_all h; clear h; intro a0 a1 h; apply un_all h; clear h; intro a2 a3 h; exact Eq.mpr (by kernel_rfl) h
  · exact h.elim

def spec_SameContents : GM
 | [.agg u0, .agg u1], k => un 16 (fun a0 a1 a2 a3 a4 a5 a6 a7 a8 a9 a10 a11 a12 a13 a14 a15 => un 16 (fun a16 a17 a18 a19 a20 a21 a22 a23 a24 a25 a26 a27 a28 a29 a30 a31 => 
  binP .eql a5 a21 fun r0 =>
  iteP r0
   (binP .eql a6 a22 fun r1 =>
   rt [.sc] [r1] k)
   (rt [.sc] [(.bool false)] k)) u1) u0
 | _, _ => False
abbrev spec_SameContents_e : Ent := ⟨[271], spec_SameContents⟩
theorem spec_SameContents_w : EntOK Tryz.prog TT spec_SameContents_e := ent_ok tabok (L := []) trivial (keep := []) (l := []) Tryz.func271 (by kernel_rfl) (sg := [.one (.sc)]) (by kernel_rfl) trivial fun av k h => by
  unfold spec_SameContents at h; split at h
  · apply un_all h; clear h; intro a0 a1 a2 a3 a4 a5 a6 a7 a8 a9 a10 a11 a12 a13 a14 a15 h; apply un_all h; clear h; intro a16 a17 a18 a19 a20 a21 a22 a23 a24 a25 a26 a27 a28 a29 a30 a31 h; exact Eq.mpr (by kernel_rfl) h
  · exact h.elim

def spec_l15Heir : GM
 | [.agg u0, .agg u1], k => un 16 (fun a0 a1 a2 a3 a4 a5 a6 a7 a8 a9 a10 a11 a12 a13 a14 a15 => un 16 (fun a16 a17 a18 a19 a20 a21 a22 a23 a24 a25 a26 a27 a28 a29 a30 a31 => 
  iteP a15
   (rt [.sc] [(I 4)] k)
   (call spec_NoKeys [.agg [a10, a11]] fun o0 =>
   iteP (atP o0 0)
    (rt [.sc] [(I 5)] k)
    (binP .add a4 a12 fun r1 =>
    binP .lss a19 r1 fun r2 =>
    iteP r2
     (rt [.sc] [(I 5)] k)
     (iteP a31
      (rt [.sc] [(I 6)] k)
      (call spec_EqualKeys [.agg [a24, a25], .agg [a10, a11]] fun o3 =>
      unP .not (atP o3 0) fun r4 =>
      iteP r4
       (rt [.sc] [(I 6)] k)
       (call spec_SameContents [.agg [a16, a17, a18, a19, a20, a21, a22, a23, a24, a25, a26, a27, a28, a29, a30, a31], .agg [a0, a1, a2, a3, a4, a5, a6, a7, a8, a9, a10, a11, a12, a13, a14, a15]] fun o5 =>
       unP .not (atP o5 0) fun r6 =>
       iteP r6
        (rt [.sc] [(I 6)] k)
        (rt [.sc] [(I 1)] k))))))) u1) u0
 | _, _ => False
abbrev spec_l15Heir_e : Ent := ⟨[254], spec_l15Heir⟩
theorem spec_l15Heir_w : EntOK Tryz.prog TT spec_l15Heir_e := ent_ok tabok (L := [spec_NoKeys_e, spec_EqualKeys_e, spec_SameContents_e]) ⟨spec_NoKeys_w, spec_EqualKeys_w, spec_SameContents_w, trivial⟩ (keep := []) (l := []) Tryz.func254 (by kernel_rfl) (sg := [.one (.sc)]) (by kernel_rfl) trivial fun av k h => by
  unfold spec_l15Heir at h; split at h
  · apply un_all h; clear h; intro a0 a1 a2 a3 a4 a5 a6 a7 a8 a9 a10 a11 a12 a13 a14 a15 h; apply un_all h; clear h; intro a16 a17 a18 a19 a20 a21 a22 a23 a24 a25 a26 a27 a28 a29 a30 a31 h; exact Eq.mpr (by kernel_rfl) h
  · exact h.elim

def spec_l15Judge : GM
 | [.agg u0, .agg u1], k => un 16 (fun a0 a1 a2 a3 a4 a5 a6 a7 a8 a9 a10 a11 a12 a13 a14 a15 => un 16 (fun a16 a17 a18 a19 a20 a21 a22 a23 a24 a25 a26 a27 a28 a29 a30 a31 => 
  call spec_NoKeys [.agg [a13, a14]] fun o0 =>
  iteP (atP o0 0)
   (rt [.sc] [(I 5)] k)
   (boolP .eql a31 a15 fun r1 =>
   iteP r1
    (rt [.sc] [(I 6)] k)
    (call spec_SameContents [.agg [a16, a17, a18, a19, a20, a21, a22, a23, a24, a25, a26, a27, a28, a29, a30, a31], .agg [a0, a1, a2, a3, a4, a5, a6, a7, a8, a9, a10, a11, a12, a13, a14, a15]] fun o2 =>
    unP .not (atP o2 0) fun r3 =>
    iteP r3
     (rt [.sc] [(I 6)] k)
     (call spec_EqualKeys [.agg [a29, a30], .agg [a13, a14]] fun o4 =>
     unP .not (atP o4 0) fun r5 =>
     iteP r5
      (rt [.sc] [(I 6)] k)
      (call spec_EqualKeys [.agg [a26, a27], .agg [a10, a11]] fun o6 =>
      unP .not (atP o6 0) fun r7 =>
      iteP r7
       (rt [.sc] [(I 6)] k)
       (binP .neq a28 a12 fun r8 =>
       iteP r8
        (rt [.sc] [(I 6)] k)
        (iteP a31
         (call spec_EqualKeys [.agg [a24, a25], .agg [a8, a9]] fun o9 =>
         unP .not (atP o9 0) fun r10 =>
         iteP r10
          (rt [.sc] [(I 6)] k)
          (rt [.sc] [(I 1)] k))
         (rt [.sc] [(I 1)] k)))))))) u1) u0
 | _, _ => False
abbrev spec_l15Judge_e : Ent := ⟨[255], spec_l15Judge⟩
theorem spec_l15Judge_w : EntOK Tryz.prog TT spec_l15Judge_e := ent_ok tabok (L := [spec_NoKeys_e, spec_SameContents_e, spec_EqualKeys_e]) ⟨spec_NoKeys_w, spec_SameContents_w, spec_EqualKeys_w, trivial⟩ (keep := []) (l := []) Tryz.func255 (by kernel_rfl) (sg := [.one (.sc)]) (by kernel_rfl) trivial fun av k h => by
  unfold spec_l15Judge at h; split at h
  · apply un_all h; clear h; intro a0 a1 a2 a3 a4 a5 a6 a7 a8 a9 a10 a11 a12 a13 a14 a15 h; apply un_all h; clear h; intro a16 a17 a18 a19 a20 a21 a22 a23 a24 a25 a26 a27 a28 a29 a30 a31 h; exact Eq.mpr (by kernel_rfl) h
  · exact h.elim

def spec_NextCode : GM
 | [.agg u0, .agg u1], k => un 16 (fun a0 a1 a2 a3 a4 a5 a6 a7 a8 a9 a10 a11 a12 a13 a14 a15 => un 17 (fun a16 a17 a18 a19 a20 a21 a22 a23 a24 a25 a26 a27 a28 a29 a30 a31 a32 => 
  call spec_IsHead [.agg [a0, a1, a2, a3, a4, a5, a6, a7, a8, a9, a10, a11, a12, a13, a14, a15]] fun o0 =>
  unP .not (atP o0 0) fun r1 =>
  iteP r1
   (rt [.sc] [(I 2)] k)
   (call spec_IsHead [.agg [a16, a17, a18, a19, a20, a21, a22, a23, a24, a25, a26, a27, a28, a29, a30, a31]] fun o2 =>
   unP .not (atP o2 0) fun r3 =>
   iteP r3
    (rt [.sc] [(I 2)] k)
    (binP .neq a16 a0 fun r4 =>
    iteP r4
     (rt [.sc] [(I 3)] k)
     (binP .add a1 (I 1) fun r5 =>
     binP .neq a17 r5 fun r6 =>
     iteP r6
      (rt [.sc] [(I 3)] k)
      (call spec_HeadDigest [.agg [a0, a1, a2, a3, a4, a5, a6, a7, a8, a9, a10, a11, a12, a13, a14, a15]] fun o7 =>
      binP .neq a23 (atP o7 0) fun r8 =>
      iteP r8
       (rt [.sc] [(I 3)] k)
       (binP .lss a19 a3 fun r9 =>
       iteP r9
        (rt [.sc] [(I 3)] k)
        (call spec_l15Owner [.agg [a0, a1, a2, a3, a4, a5, a6, a7, a8, a9, a10, a11, a12, a13, a14, a15], .agg [a16, a17, a18, a19, a20, a21, a22, a23, a24, a25, a26, a27, a28, a29, a30, a31]] fun o10 =>
        binP .eql a18 (I 2) fun r11 =>
        iteP r11
         (call spec_l15Heir [.agg [a0, a1, a2, a3, a4, a5, a6, a7, a8, a9, a10, a11, a12, a13, a14, a15], .agg [a16, a17, a18, a19, a20, a21, a22, a23, a24, a25, a26, a27, a28, a29, a30, a31]] fun o12 =>
         binP .eql (atP o12 0) (I 1) fun r13 =>
         iteP r13
          (call spec_HeadInts [.agg [a16, a17, a18, a19, a20, a21, a22, a23, a24, a25, a26, a27, a28, a29, a30, a31]] fun o14 =>
          call spec_IsSigned [.agg [a10, a11], .one (atP o14 0), .one a32] fun o15 =>
          unP .not (atP o15 0) fun r16 =>
          iteP r16
           (rt [.sc] [(I 7)] k)
           (rt [.sc] [(atP o12 0)] k))
          (rt [.sc] [(atP o12 0)] k))
         (binP .eql a18 (I 3) fun r17 =>
         iteP r17
          (call spec_l15Judge [.agg [a0, a1, a2, a3, a4, a5, a6, a7, a8, a9, a10, a11, a12, a13, a14, a15], .agg [a16, a17, a18, a19, a20, a21, a22, a23, a24, a25, a26, a27, a28, a29, a30, a31]] fun o18 =>
          binP .eql (atP o18 0) (I 1) fun r19 =>
          iteP r19
           (call spec_HeadInts [.agg [a16, a17, a18, a19, a20, a21, a22, a23, a24, a25, a26, a27, a28, a29, a30, a31]] fun o20 =>
           call spec_IsSigned [.agg [a13, a14], .one (atP o20 0), .one a32] fun o21 =>
           unP .not (atP o21 0) fun r22 =>
           iteP r22
            (rt [.sc] [(I 7)] k)
            (rt [.sc] [(atP o18 0)] k))
           (rt [.sc] [(atP o18 0)] k))
          (binP .eql (atP o10 0) (I 1) fun r23 =>
          iteP r23
           (call spec_HeadInts [.agg [a16, a17, a18, a19, a20, a21, a22, a23, a24, a25, a26, a27, a28, a29, a30, a31]] fun o24 =>
           call spec_IsSigned [.agg [a8, a9], .one (atP o24 0), .one a32] fun o25 =>
           unP .not (atP o25 0) fun r26 =>
           iteP r26
            (rt [.sc] [(I 7)] k)
            (rt [.sc] [(atP o10 0)] k))
           (rt [.sc] [(atP o10 0)] k)))))))))) u1) u0
 | _, _ => False
abbrev spec_NextCode_e : Ent := ⟨[240], spec_NextCode⟩
theorem spec_NextCode_w : EntOK Tryz.prog TT spec_NextCode_e := ent_ok tabok (L := [spec_IsHead_e, spec_HeadDigest_e, spec_l15Owner_e, spec_l15Heir_e, spec_HeadInts_e, spec_IsSigned_e, spec_l15Judge_e]) ⟨spec_IsHead_w, spec_HeadDigest_w, spec_l15Owner_w, spec_l15Heir_w, spec_HeadInts_w, spec_IsSigned_w, spec_l15Judge_w, trivial⟩ (keep := []) (l := []) Tryz.func240 (by kernel_rfl) (sg := [.one (.sc)]) (by kernel_rfl) trivial fun av k h => by
  unfold spec_NextCode at h; split at h
  · apply un_all h; clear h; intro a0 a1 a2 a3 a4 a5 a6 a7 a8 a9 a10 a11 a12 a13 a14 a15 h; apply un_all h; clear h; intro a16 a17 a18 a19 a20 a21 a22 a23 a24 a25 a26 a27 a28 a29 a30 a31 a32 h; exact Eq.mpr (by kernel_rfl) h
  · exact h.elim

def spec_MayFollow : GM
 | [.agg u0, .agg u1], k => un 16 (fun a0 a1 a2 a3 a4 a5 a6 a7 a8 a9 a10 a11 a12 a13 a14 a15 => un 17 (fun a16 a17 a18 a19 a20 a21 a22 a23 a24 a25 a26 a27 a28 a29 a30 a31 a32 => 
  call spec_NextCode [.agg [a0, a1, a2, a3, a4, a5, a6, a7, a8, a9, a10, a11, a12, a13, a14, a15], .agg [a16, a17, a18, a19, a20, a21, a22, a23, a24, a25, a26, a27, a28, a29, a30, a31, a32]] fun o0 =>
  binP .eql (atP o0 0) (I 1) fun r1 =>
  rt [.sc] [r1] k) u1) u0
 | _, _ => False
abbrev spec_MayFollow_e : Ent := ⟨[221], spec_MayFollow⟩
theorem spec_MayFollow_w : EntOK Tryz.prog TT spec_MayFollow_e := ent_ok tabok (L := [spec_NextCode_e]) ⟨spec_NextCode_w, trivial⟩ (keep := []) (l := []) Tryz.func221 (by kernel_rfl) (sg := [.one (.sc)]) (by kernel_rfl) trivial fun av k h => by
  unfold spec_MayFollow at h; split at h
  · apply un_all h; clear h; intro a0 a1 a2 a3 a4 a5 a6 a7 a8 a9 a10 a11 a12 a13 a14 a15 h; apply un_all h; clear h; intro a16 a17 a18 a19 a20 a21 a22 a23 a24 a25 a26 a27 a28 a29 a30 a31 a32 h; exact Eq.mpr (by kernel_rfl) h
  · exact h.elim

def spec_FirstWrong_r0 (v : List PV) (K : List PV → Prop) (x0k : PV → Prop) (x1k : PV → Prop) (x2k : PV → PV → PV → Prop) : Prop :=
 un 3 (fun v0 v1 v2 =>
  lenP v0 fun r0 =>
  binP .lss v2 r0 fun r1 =>
  iteP r1
   (binP .eql v2 (I 0) fun r2 =>
   iteP r2
    (elemP 17 v0 (I 0) fun c3 =>
    call spec_IsFirst [.agg [(atP c3 0), (atP c3 1), (atP c3 2), (atP c3 3), (atP c3 4), (atP c3 5), (atP c3 6), (atP c3 7), (atP c3 8), (atP c3 9), (atP c3 10), (atP c3 11), (atP c3 12), (atP c3 13), (atP c3 14), (atP c3 15), (atP c3 16)]] fun o4 =>
    unP .not (atP o4 0) fun r5 =>
    iteP r5
     (x0k v2)
     (binP .gtr v2 (I 0) fun r6 =>
     iteP r6
      (binP .sub v2 (I 1) fun r7 =>
      elemP 17 v0 r7 fun c8 =>
      elemP 17 v0 v2 fun c9 =>
      call spec_MayFollow [.agg [(atP c8 0), (atP c8 1), (atP c8 2), (atP c8 3), (atP c8 4), (atP c8 5), (atP c8 6), (atP c8 7), (atP c8 8), (atP c8 9), (atP c8 10), (atP c8 11), (atP c8 12), (atP c8 13), (atP c8 14), (atP c8 15)], .agg [(atP c9 0), (atP c9 1), (atP c9 2), (atP c9 3), (atP c9 4), (atP c9 5), (atP c9 6), (atP c9 7), (atP c9 8), (atP c9 9), (atP c9 10), (atP c9 11), (atP c9 12), (atP c9 13), (atP c9 14), (atP c9 15), (atP c9 16)]] fun o10 =>
      unP .not (atP o10 0) fun r11 =>
      iteP r11
       (x1k v2)
       (binP .add v2 (I 1) fun r12 =>
       K [v0, v1, r12]))
      (binP .add v2 (I 1) fun r13 =>
      K [v0, v1, r13])))
    (binP .gtr v2 (I 0) fun r14 =>
    iteP r14
     (binP .sub v2 (I 1) fun r15 =>
     elemP 17 v0 r15 fun c16 =>
     elemP 17 v0 v2 fun c17 =>
     call spec_MayFollow [.agg [(atP c16 0), (atP c16 1), (atP c16 2), (atP c16 3), (atP c16 4), (atP c16 5), (atP c16 6), (atP c16 7), (atP c16 8), (atP c16 9), (atP c16 10), (atP c16 11), (atP c16 12), (atP c16 13), (atP c16 14), (atP c16 15)], .agg [(atP c17 0), (atP c17 1), (atP c17 2), (atP c17 3), (atP c17 4), (atP c17 5), (atP c17 6), (atP c17 7), (atP c17 8), (atP c17 9), (atP c17 10), (atP c17 11), (atP c17 12), (atP c17 13), (atP c17 14), (atP c17 15), (atP c17 16)]] fun o18 =>
     unP .not (atP o18 0) fun r19 =>
     iteP r19
      (x0k v2)
      (binP .add v2 (I 1) fun r20 =>
      K [v0, v1, r20]))
     (binP .add v2 (I 1) fun r21 =>
     K [v0, v1, r21])))
   (x2k v0 v1 v2)) v
def spec_FirstWrong : GM
 | [.one a0], k => 
  lp (fun L w => spec_FirstWrong_r0 w L
   (fun q22 => rt [.sc] [q22] k)
   (fun q23 => rt [.sc] [q23] k)
   (fun q24 q25 q26 => rt [.sc] [(I (-1))] k)) [a0, (I 0), (I 0)]
 | _, _ => False
abbrev spec_FirstWrong_e : Ent := ⟨[204], spec_FirstWrong⟩
def spec_FirstWrong_l : List LE := [⟨0, ⟨[(0, .one (.pv (.bool false))), (2, .one (.pv (.bool false))), (3, .one (.pv (.bool false)))], [], [], 0, 38⟩, fun K k v => spec_FirstWrong_r0 v K (fun x0 => k .ret ⟨[(2, .one (.pv x0))], [], [], 1, 38⟩) (fun x0 => k .ret ⟨[(2, .one (.pv x0))], [], [], 2, 38⟩) (fun x0 x1 x2 => k (.exit 0) ⟨[(0, .one (.pv x0)), (2, .one (.pv x1)), (3, .one (.pv x2))], [], [], 0, 38⟩)⟩]
theorem spec_FirstWrong_s : LEsOK (orac [spec_IsFirst_e, spec_MayFollow_e]) TT (kk [0, 2, 3, 13, 14, 15, 16, 17, 20, 21, 22, 23, 24, 25, 26, 27, 28, 29, 30, 31, 32, 33, 34, 35]) (sumsOf spec_FirstWrong_l) Tryz.f204 spec_FirstWrong_l := ⟨fun v K k h => by
  apply un_all h; exact fun v0 v1 v2 h => Eq.mpr (by kernel_rfl) h
  , trivial⟩
theorem spec_FirstWrong_w : EntOK Tryz.prog TT spec_FirstWrong_e := ent_ok tabok (L := [spec_IsFirst_e, spec_MayFollow_e]) ⟨spec_IsFirst_w, spec_MayFollow_w, trivial⟩ (keep := (kk [0, 2, 3, 13, 14, 15, 16, 17, 20, 21, 22, 23, 24, 25, 26, 27, 28, 29, 30, 31, 32, 33, 34, 35])) (l := spec_FirstWrong_l) Tryz.func204 (by kernel_rfl) (sg := [.one (.sc)]) (by kernel_rfl) spec_FirstWrong_s fun av k h => by
  unfold spec_FirstWrong at h; split at h
  · exact Eq.mpr (by kernel_rfl) h
  · exact h.elim

def spec_IsChain : GM
 | [.one a0], k => 
  lenP a0 fun r0 =>
  call spec_l1In [.one r0, .one (I 1), .one (I 12)] fun o1 =>
  iteP (atP o1 0)
   (call spec_FirstWrong [.one a0] fun o2 =>
   binP .lss (atP o2 0) (I 0) fun r3 =>
   rt [.sc] [r3] k)
   (rt [.sc] [(.bool false)] k)
 | _, _ => False
abbrev spec_IsChain_e : Ent := ⟨[175], spec_IsChain⟩
theorem spec_IsChain_w : EntOK Tryz.prog TT spec_IsChain_e := ent_ok tabok (L := [spec_l1In_e, spec_FirstWrong_e]) ⟨spec_l1In_w, spec_FirstWrong_w, trivial⟩ (keep := []) (l := []) Tryz.func175 (by kernel_rfl) (sg := [.one (.sc)]) (by kernel_rfl) trivial fun av k h => by
  unfold spec_IsChain at h; split at h
  · exact Eq.mpr (by kernel_rfl) h
  · exact h.elim

def spec_l6Copy : GM
 | [.agg u0], k => un 2 (fun a0 a1 => 
  catP 1 a0 (.list 1 []) fun r0 =>
  rt [.pv, .sc] [r0, a1] k) u0
 | _, _ => False
abbrev spec_l6Copy_e : Ent := ⟨[202], spec_l6Copy⟩
theorem spec_l6Copy_w : EntOK Tryz.prog TT spec_l6Copy_e := ent_ok tabok (L := []) trivial (keep := []) (l := []) Tryz.func202 (by kernel_rfl) (sg := [.agg [.pv, .sc]]) (by kernel_rfl) trivial fun av k h => by
  unfold spec_l6Copy at h; split at h
  · apply un_all h; clear h; intro a0 a1 h; exact Eq.mpr (by kernel_rfl) h
  · exact h.elim

def spec_l13Copy : GM
 | [.agg u0], k => un 16 (fun a0 a1 a2 a3 a4 a5 a6 a7 a8 a9 a10 a11 a12 a13 a14 a15 => 
  call spec_l6Copy [.agg [a8, a9]] fun o0 =>
  call spec_l6Copy [.agg [a10, a11]] fun o1 =>
  call spec_l6Copy [.agg [a13, a14]] fun o2 =>
  rt [.sc, .sc, .sc, .sc, .sc, .sc, .sc, .sc, .pv, .sc, .pv, .sc, .sc, .pv, .sc, .sc] [a0, a1, a2, a3, a4, a5, a6, a7, (atP o0 0), (atP o0 1), (atP o1 0), (atP o1 1), a12, (atP o2 0), (atP o2 1), a15] k) u0
 | _, _ => False
abbrev spec_l13Copy_e : Ent := ⟨[168], spec_l13Copy⟩
theorem spec_l13Copy_w : EntOK Tryz.prog TT spec_l13Copy_e := ent_ok tabok (L := [spec_l6Copy_e]) ⟨spec_l6Copy_w, trivial⟩ (keep := []) (l := []) Tryz.func168 (by kernel_rfl) (sg := [.agg [.sc, .sc, .sc, .sc, .sc, .sc, .sc, .sc, .pv, .sc, .pv, .sc, .sc, .pv, .sc, .sc]]) (by kernel_rfl) trivial fun av k h => by
  unfold spec_l13Copy at h; split at h
  · apply un_all h; clear h; intro a0 a1 a2 a3 a4 a5 a6 a7 a8 a9 a10 a11 a12 a13 a14 a15 h; exact Eq.mpr (by kernel_rfl) h
  · exact h.elim

def spec_LastHead : GM
 | [.one a0], k => 
  call spec_IsChain [.one a0] fun o0 =>
  unP .not (atP o0 0) fun r1 =>
  iteP r1
   (rt [.sc, .sc, .sc, .sc, .sc, .sc, .sc, .sc, .pv, .sc, .pv, .sc, .sc, .pv, .sc, .sc, .sc] [(I 0), (I 0), (I 0), (I 0), (I 0), (I 0), (I 0), (I 0), (.list 1 []), (I 0), (.list 1 []), (I 0), (I 0), (.list 1 []), (I 0), (.bool false), (.bool false)] k)
   (lenP a0 fun r2 =>
   binP .sub r2 (I 1) fun r3 =>
   elemP 17 a0 r3 fun c4 =>
   call spec_l13Copy [.agg [(atP c4 0), (atP c4 1), (atP c4 2), (atP c4 3), (atP c4 4), (atP c4 5), (atP c4 6), (atP c4 7), (atP c4 8), (atP c4 9), (atP c4 10), (atP c4 11), (atP c4 12), (atP c4 13), (atP c4 14), (atP c4 15)]] fun o5 =>
   rt [.sc, .sc, .sc, .sc, .sc, .sc, .sc, .sc, .pv, .sc, .pv, .sc, .sc, .pv, .sc, .sc, .sc] [(atP o5 0), (atP o5 1), (atP o5 2), (atP o5 3), (atP o5 4), (atP o5 5), (atP o5 6), (atP o5 7), (atP o5 8), (atP o5 9), (atP o5 10), (atP o5 11), (atP o5 12), (atP o5 13), (atP o5 14), (atP o5 15), (.bool true)] k)
 | _, _ => False
abbrev spec_LastHead_e : Ent := ⟨[143], spec_LastHead⟩
theorem spec_LastHead_w : EntOK Tryz.prog TT spec_LastHead_e := ent_ok tabok (L := [spec_IsChain_e, spec_l13Copy_e]) ⟨spec_IsChain_w, spec_l13Copy_w, trivial⟩ (keep := []) (l := []) Tryz.func143 (by kernel_rfl) (sg := [.agg [.sc, .sc, .sc, .sc, .sc, .sc, .sc, .sc, .pv, .sc, .pv, .sc, .sc, .pv, .sc, .sc], .one (.sc)]) (by kernel_rfl) trivial fun av k h => by
  unfold spec_LastHead at h; split at h
  · exact Eq.mpr (by kernel_rfl) h
  · exact h.elim

def spec_IsLabel_r0 (v : List PV) (K : List PV → Prop) (x0k : Prop) (x1k : PV → PV → PV → Prop) : Prop :=
 un 3 (fun v0 v1 v2 =>
  lenS v0 fun r0 =>
  binP .lss v2 r0 fun r1 =>
  iteP r1
   (charP v0 v2 fun r2 =>
   binP .lss r2 (.int .u8 97) fun r3 =>
   iteP r3
    (charP v0 v2 fun r4 =>
    binP .lss r4 (.int .u8 48) fun r5 =>
    iteP r5
     (charP v0 v2 fun r6 =>
     binP .neq r6 (.int .u8 45) fun r7 =>
     iteP r7
      (x0k)
      (binP .add v2 (I 1) fun r8 =>
      K [v0, v1, r8]))
     (charP v0 v2 fun r9 =>
     binP .gtr r9 (.int .u8 57) fun r10 =>
     iteP r10
      (charP v0 v2 fun r11 =>
      binP .neq r11 (.int .u8 45) fun r12 =>
      iteP r12
       (x0k)
       (binP .add v2 (I 1) fun r13 =>
       K [v0, v1, r13]))
      (binP .add v2 (I 1) fun r14 =>
      K [v0, v1, r14])))
    (charP v0 v2 fun r15 =>
    binP .gtr r15 (.int .u8 122) fun r16 =>
    iteP r16
     (charP v0 v2 fun r17 =>
     binP .lss r17 (.int .u8 48) fun r18 =>
     iteP r18
      (charP v0 v2 fun r19 =>
      binP .neq r19 (.int .u8 45) fun r20 =>
      iteP r20
       (x0k)
       (binP .add v2 (I 1) fun r21 =>
       K [v0, v1, r21]))
      (charP v0 v2 fun r22 =>
      binP .gtr r22 (.int .u8 57) fun r23 =>
      iteP r23
       (charP v0 v2 fun r24 =>
       binP .neq r24 (.int .u8 45) fun r25 =>
       iteP r25
        (x0k)
        (binP .add v2 (I 1) fun r26 =>
        K [v0, v1, r26]))
       (binP .add v2 (I 1) fun r27 =>
       K [v0, v1, r27])))
     (binP .add v2 (I 1) fun r28 =>
     K [v0, v1, r28])))
   (x1k v0 v1 v2)) v
def spec_IsLabel : GM
 | [.one a0], k => 
  lenS a0 fun r0 =>
  call spec_l1In [.one r0, .one (I 1), .one (I 8)] fun o1 =>
  unP .not (atP o1 0) fun r2 =>
  iteP r2
   (rt [.sc] [(.bool false)] k)
   (charP a0 (I 0) fun r3 =>
   binP .eql r3 (.int .u8 45) fun r4 =>
   iteP r4
    (rt [.sc] [(.bool false)] k)
    (lenS a0 fun r5 =>
    binP .sub r5 (I 1) fun r6 =>
    charP a0 r6 fun r7 =>
    binP .eql r7 (.int .u8 45) fun r8 =>
    iteP r8
     (rt [.sc] [(.bool false)] k)
     (lp (fun L w => spec_IsLabel_r0 w L
      (rt [.sc] [(.bool false)] k)
      (fun q29 q30 q31 => rt [.sc] [(.bool true)] k)) [a0, (.bool false), (I 0)])))
 | _, _ => False
abbrev spec_IsLabel_e : Ent := ⟨[147], spec_IsLabel⟩
def spec_IsLabel_l : List LE := [⟨0, ⟨[(0, .one (.pv (.bool false))), (2, .one (.pv (.bool false))), (3, .one (.pv (.bool false)))], [], [], 1, 55⟩, fun K k v => spec_IsLabel_r0 v K (k .ret ⟨[(2, .one (.kb false))], [], [], 1, 55⟩) (fun x0 x1 x2 => k (.exit 0) ⟨[(0, .one (.pv x0)), (2, .one (.pv x1)), (3, .one (.pv x2))], [], [], 1, 55⟩)⟩]
theorem spec_IsLabel_s : LEsOK (orac [spec_l1In_e]) TT (kk [0, 2, 3, 32, 33, 34, 35, 38, 39, 40, 41, 42, 43, 44, 45, 46, 47, 50, 51, 52, 53]) (sumsOf spec_IsLabel_l) Tryz.f147 spec_IsLabel_l := ⟨fun v K k h => by
  apply un_all h; exact fun v0 v1 v2 h => Eq.mpr (by kernel_rfl) h
  , trivial⟩
theorem spec_IsLabel_w : EntOK Tryz.prog TT spec_IsLabel_e := ent_ok tabok (L := [spec_l1In_e]) ⟨spec_l1In_w, trivial⟩ (keep := (kk [0, 2, 3, 32, 33, 34, 35, 38, 39, 40, 41, 42, 43, 44, 45, 46, 47, 50, 51, 52, 53])) (l := spec_IsLabel_l) Tryz.func147 (by kernel_rfl) (sg := [.one (.sc)]) (by kernel_rfl) spec_IsLabel_s fun av k h => by
  unfold spec_IsLabel at h; split at h
  · exact Eq.mpr (by kernel_rfl) h
  · exact h.elim

def spec_IsPath_r0 (v : List PV) (K : List PV → Prop) (x0k : Prop) (x1k : PV → PV → PV → Prop) : Prop :=
 un 3 (fun v0 v1 v2 =>
  lenP v0 fun r0 =>
  binP .lss v2 r0 fun r1 =>
  iteP r1
   (elemP 1 v0 v2 fun c2 =>
   call spec_IsLabel [.one (atP c2 0)] fun o3 =>
   unP .not (atP o3 0) fun r4 =>
   iteP r4
    (x0k)
    (binP .add v2 (I 1) fun r5 =>
    K [v0, v1, r5]))
   (x1k v0 v1 v2)) v
def spec_IsPath : GM
 | [.one a0], k => 
  lp (fun L w => spec_IsPath_r0 w L
   (rt [.sc] [(.bool false)] k)
   (fun q6 q7 q8 => lenP q6 fun r9 =>
    call spec_l1In [.one r9, .one (I 1), .one (I 4)] fun o10 =>
    rt [.sc] [(atP o10 0)] k)) [a0, (.bool false), (I 0)]
 | _, _ => False
abbrev spec_IsPath_e : Ent := ⟨[226], spec_IsPath⟩
def spec_IsPath_l : List LE := [⟨0, ⟨[(0, .one (.pv (.bool false))), (2, .one (.pv (.bool false))), (3, .one (.pv (.bool false)))], [], [], 0, 19⟩, fun K k v => spec_IsPath_r0 v K (k .ret ⟨[(2, .one (.kb false))], [], [], 1, 19⟩) (fun x0 x1 x2 => k (.exit 0) ⟨[(0, .one (.pv x0)), (2, .one (.pv x1)), (3, .one (.pv x2))], [], [], 0, 19⟩)⟩]
theorem spec_IsPath_s : LEsOK (orac [spec_IsLabel_e, spec_l1In_e]) TT (kk [0, 2, 3]) (sumsOf spec_IsPath_l) Tryz.f226 spec_IsPath_l := ⟨fun v K k h => by
  apply un_all h; exact fun v0 v1 v2 h => Eq.mpr (by kernel_rfl) h
  , trivial⟩
theorem spec_IsPath_w : EntOK Tryz.prog TT spec_IsPath_e := ent_ok tabok (L := [spec_IsLabel_e, spec_l1In_e]) ⟨spec_IsLabel_w, spec_l1In_w, trivial⟩ (keep := (kk [0, 2, 3])) (l := spec_IsPath_l) Tryz.func226 (by kernel_rfl) (sg := [.one (.sc)]) (by kernel_rfl) spec_IsPath_s fun av k h => by
  unfold spec_IsPath at h; split at h
  · exact Eq.mpr (by kernel_rfl) h
  · exact h.elim

def spec_IsEntry : GM
 | [.agg u0], k => un 4 (fun a0 a1 a2 a3 => 
  binP .eql a1 (I 1) fun r0 =>
  iteP r0
   (call spec_IsLabel [.one a0] fun o1 =>
   iteP (atP o1 0)
    (call spec_l1In [.one a2, .one (I 0), .one (I 999999)] fun o2 =>
    iteP (atP o2 0)
     (lenP a3 fun r3 =>
     binP .eql r3 (I 0) fun r4 =>
     rt [.sc] [r4] k)
     (rt [.sc] [(.bool false)] k))
    (rt [.sc] [(.bool false)] k))
   (binP .eql a1 (I 2) fun r5 =>
   iteP r5
    (call spec_IsLabel [.one a0] fun o6 =>
    iteP (atP o6 0)
     (call spec_l1In [.one a2, .one (I 0), .one (I 2147483646)] fun o7 =>
     iteP (atP o7 0)
      (lenP a3 fun r8 =>
      binP .eql r8 (I 0) fun r9 =>
      rt [.sc] [r9] k)
      (rt [.sc] [(.bool false)] k))
     (rt [.sc] [(.bool false)] k))
    (binP .eql a1 (I 3) fun r10 =>
    iteP r10
     (call spec_IsLabel [.one a0] fun o11 =>
     iteP (atP o11 0)
      (call spec_l1In [.one a2, .one (I 0), .one (I 2147483646)] fun o12 =>
      iteP (atP o12 0)
       (call spec_IsPath [.one a3] fun o13 =>
       rt [.sc] [(atP o13 0)] k)
       (rt [.sc] [(.bool false)] k))
      (rt [.sc] [(.bool false)] k))
     (rt [.sc] [(.bool false)] k)))) u0
 | _, _ => False
abbrev spec_IsEntry_e : Ent := ⟨[208], spec_IsEntry⟩
theorem spec_IsEntry_w : EntOK Tryz.prog TT spec_IsEntry_e := ent_ok tabok (L := [spec_IsLabel_e, spec_l1In_e, spec_IsPath_e]) ⟨spec_IsLabel_w, spec_l1In_w, spec_IsPath_w, trivial⟩ (keep := []) (l := []) Tryz.func208 (by kernel_rfl) (sg := [.one (.sc)]) (by kernel_rfl) trivial fun av k h => by
  unfold spec_IsEntry at h; split at h
  · apply un_all h; clear h; intro a0 a1 a2 a3 h; exact Eq.mpr (by kernel_rfl) h
  · exact h.elim

def spec_CompareLabels : GM
 | [.one a0, .one a1], k => 
  binP .lss a0 a1 fun r0 =>
  iteP r0
   (rt [.sc] [(I (-1))] k)
   (binP .gtr a0 a1 fun r1 =>
   iteP r1
    (rt [.sc] [(I 1)] k)
    (rt [.sc] [(I 0)] k))
 | _, _ => False
abbrev spec_CompareLabels_e : Ent := ⟨[209], spec_CompareLabels⟩
theorem spec_CompareLabels_w : EntOK Tryz.prog TT spec_CompareLabels_e := ent_ok tabok (L := []) trivial (keep := []) (l := []) Tryz.func209 (by kernel_rfl) (sg := [.one (.sc)]) (by kernel_rfl) trivial fun av k h => by
  unfold spec_CompareLabels at h; split at h
  · exact Eq.mpr (by kernel_rfl) h
  · exact h.elim

def spec_AreEntries_r0 (v : List PV) (K : List PV → Prop) (x0k : Prop) (x1k : Prop) (x2k : PV → PV → PV → Prop) : Prop :=
 un 3 (fun v0 v1 v2 =>
  lenP v0 fun r0 =>
  binP .lss v2 r0 fun r1 =>
  iteP r1
   (elemP 4 v0 v2 fun c2 =>
   call spec_IsEntry [.agg [(atP c2 0), (atP c2 1), (atP c2 2), (atP c2 3)]] fun o3 =>
   unP .not (atP o3 0) fun r4 =>
   iteP r4
    (x0k)
    (binP .gtr v2 (I 0) fun r5 =>
    iteP r5
     (binP .sub v2 (I 1) fun r6 =>
     elemP 4 v0 r6 fun c7 =>
     elemP 4 v0 v2 fun c8 =>
     call spec_CompareLabels [.one (atP c7 0), .one (atP c8 0)] fun o9 =>
     binP .neq (atP o9 0) (I (-1)) fun r10 =>
     iteP r10
      (x1k)
      (binP .add v2 (I 1) fun r11 =>
      K [v0, v1, r11]))
     (binP .add v2 (I 1) fun r12 =>
     K [v0, v1, r12])))
   (x2k v0 v1 v2)) v
def spec_AreEntries : GM
 | [.one a0], k => 
  lp (fun L w => spec_AreEntries_r0 w L
   (rt [.sc] [(.bool false)] k)
   (rt [.sc] [(.bool false)] k)
   (fun q13 q14 q15 => lenP q13 fun r16 =>
    binP .leq r16 (I 12) fun r17 =>
    rt [.sc] [r17] k)) [a0, (.bool false), (I 0)]
 | _, _ => False
abbrev spec_AreEntries_e : Ent := ⟨[179], spec_AreEntries⟩
def spec_AreEntries_l : List LE := [⟨0, ⟨[(0, .one (.pv (.bool false))), (2, .one (.pv (.bool false))), (3, .one (.pv (.bool false)))], [], [], 0, 38⟩, fun K k v => spec_AreEntries_r0 v K (k .ret ⟨[(2, .one (.kb false))], [], [], 1, 38⟩) (k .ret ⟨[(2, .one (.kb false))], [], [], 2, 38⟩) (fun x0 x1 x2 => k (.exit 0) ⟨[(0, .one (.pv x0)), (2, .one (.pv x1)), (3, .one (.pv x2))], [], [], 0, 38⟩)⟩]
theorem spec_AreEntries_s : LEsOK (orac [spec_IsEntry_e, spec_CompareLabels_e]) TT (kk [0, 2, 3, 17, 18, 19, 20, 21, 22, 23, 24, 25, 26, 27, 28, 29, 30, 31, 32, 33]) (sumsOf spec_AreEntries_l) Tryz.f179 spec_AreEntries_l := ⟨fun v K k h => by
  apply un_all h; exact fun v0 v1 v2 h => Eq.mpr (by kernel_rfl) h
  , trivial⟩
theorem spec_AreEntries_w : EntOK Tryz.prog TT spec_AreEntries_e := ent_ok tabok (L := [spec_IsEntry_e, spec_CompareLabels_e]) ⟨spec_IsEntry_w, spec_CompareLabels_w, trivial⟩ (keep := (kk [0, 2, 3, 17, 18, 19, 20, 21, 22, 23, 24, 25, 26, 27, 28, 29, 30, 31, 32, 33])) (l := spec_AreEntries_l) Tryz.func179 (by kernel_rfl) (sg := [.one (.sc)]) (by kernel_rfl) spec_AreEntries_s fun av k h => by
  unfold spec_AreEntries at h; split at h
  · exact Eq.mpr (by kernel_rfl) h
  · exact h.elim

def spec_BytesToInts_r0 (v : List PV) (K : List PV → Prop) (x0k : PV → PV → PV → PV → Prop) : Prop :=
 un 4 (fun v0 v1 v2 v3 =>
  lenP v0 fun r0 =>
  binP .lss v1 r0 fun r1 =>
  iteP r1
   (elemP 1 v0 v1 fun c2 =>
   convP .i64 (atP c2 0) fun r3 =>
   (1 = 1) ∧ (1 ≤ 16777216) ∧ (1 = 1) ∧ (0 = 0) ∧ (1 = 1) ∧ (flatCond [.pv (I 0)] [.pv r3]) ∧ catP 1 v3 (.list 1 [[r3]]) fun r4 =>
   binP .add v1 (I 1) fun r5 =>
   K [v0, r5, v2, r4])
   (x0k v0 v1 v2 v3)) v
def spec_BytesToInts : GM
 | [.one a0], k => 
  lenP a0 fun r0 =>
  (1 = 1) ∧ (1 ≤ 16777216) ∧ (1 = 1) ∧ (0 = 0) ∧ (1 = 1) ∧ (flatCond [.pv (I 0)] [.pv r0]) ∧ lp (fun L w => spec_BytesToInts_r0 w L
   (fun q6 q7 q8 q9 => rt [.own true 3 1] [q9] k)) [a0, (I 0), (.list 1 []), (.list 1 [[r0]])]
 | _, _ => False
abbrev spec_BytesToInts_e : Ent := ⟨[146], spec_BytesToInts⟩
def spec_BytesToInts_l : List LE := [⟨0, ⟨[(0, .one (.pv (.bool false))), (2, .one (.own 1)), (3, .one (.own 0)), (4, .one (.pv (.bool false)))], [], [(1, ⟨.deep, 3, 1, (.bool false)⟩), (0, ⟨.deep, 3, 1, (.bool false)⟩)], 2, 23⟩, fun K k v => spec_BytesToInts_r0 v K (fun x0 x1 x2 x3 => k (.exit 0) ⟨[(0, .one (.pv x0)), (2, .one (.own 1)), (3, .one (.own 0)), (4, .one (.pv x1))], [], [(1, ⟨.deep, 3, 1, x2⟩), (0, ⟨.deep, 3, 1, x3⟩)], 2, 23⟩)⟩]
theorem spec_BytesToInts_s : LEsOK (orac []) TT (kk [0, 2, 3, 4]) (sumsOf spec_BytesToInts_l) Tryz.f146 spec_BytesToInts_l := ⟨fun v K k h => by
  apply un_all h; exact fun v0 v1 v2 v3 h => Eq.mpr (by kernel_rfl) h
  , trivial⟩
theorem spec_BytesToInts_w : EntOK Tryz.prog TT spec_BytesToInts_e := ent_ok tabok (L := []) trivial (keep := (kk [0, 2, 3, 4])) (l := spec_BytesToInts_l) Tryz.func146 (by kernel_rfl) (sg := [.one (.own true 3 1)]) (by kernel_rfl) spec_BytesToInts_s fun av k h => by
  unfold spec_BytesToInts at h; split at h
  · exact Eq.mpr (by kernel_rfl) h
  · exact h.elim

def spec_LabelInts : GM
 | [.one a0], k => 
  bytesP a0 fun r0 =>
  call spec_BytesToInts [.one r0] fun o1 =>
  rt [.own true 3 1] [(atP o1 0)] k
 | _, _ => False
abbrev spec_LabelInts_e : Ent := ⟨[110], spec_LabelInts⟩
theorem spec_LabelInts_w : EntOK Tryz.prog TT spec_LabelInts_e := ent_ok tabok (L := [spec_BytesToInts_e]) ⟨spec_BytesToInts_w, trivial⟩ (keep := []) (l := []) Tryz.func110 (by kernel_rfl) (sg := [.one (.own true 3 1)]) (by kernel_rfl) trivial fun av k h => by
  unfold spec_LabelInts at h; split at h
  · exact Eq.mpr (by kernel_rfl) h
  · exact h.elim

def spec_EntryInts_r0 (v : List PV) (K : List PV → Prop) (x0k : PV → PV → PV → PV → PV → PV → PV → Prop) : Prop :=
 un 7 (fun v0 v1 v2 v3 v4 v5 v6 =>
  lenP v4 fun r0 =>
  binP .lss v0 r0 fun r1 =>
  iteP r1
   (elemP 1 v4 v0 fun c2 =>
   call spec_LabelInts [.one (atP c2 0)] fun o3 =>
   catP 1 v6 (atP o3 0) fun r4 =>
   binP .add v0 (I 1) fun r5 =>
   K [r5, v1, v2, v3, v4, v5, r4])
   (x0k v0 v1 v2 v3 v4 v5 v6)) v
def spec_EntryInts : GM
 | [.agg u0], k => un 4 (fun a0 a1 a2 a3 => 
  call spec_LabelInts [.one a0] fun o0 =>
  lenP a3 fun r1 =>
  (3 = 3) ∧ (3 ≤ 16777216) ∧ (1 = 1) ∧ (0 = 0) ∧ (1 = 1) ∧ (flatCond [.pv (I 0)] [.pv a1]) ∧ (1 = 1) ∧ (1 = 1) ∧ (flatCond [.pv (I 0)] [.pv a2]) ∧ (2 = 2) ∧ (1 = 1) ∧ (flatCond [.pv (I 0)] [.pv r1]) ∧ catP 1 (atP o0 0) (.list 1 [[a1], [a2], [r1]]) fun r2 =>
  lp (fun L w => spec_EntryInts_r0 w L
   (fun q6 q7 q8 q9 q10 q11 q12 => rt [.own true 3 1] [q12] k)) [(I 0), a0, a1, a2, a3, (.list 1 []), r2]) u0
 | _, _ => False
abbrev spec_EntryInts_e : Ent := ⟨[225], spec_EntryInts⟩
def spec_EntryInts_l : List LE := [⟨0, ⟨[(1, .one (.ptr 0 0)), (2, .one (.own 4)), (3, .one (.own 3)), (4, .one (.pv (.bool false)))], [(0, [.pv (.bool false), .pv (.bool false), .pv (.bool false), .pv (.bool false)])], [(4, ⟨.deep, 3, 1, (.bool false)⟩), (3, ⟨.deep, 3, 1, (.bool false)⟩)], 5, 33⟩, fun K k v => spec_EntryInts_r0 v K (fun x0 x1 x2 x3 x4 x5 x6 => k (.exit 0) ⟨[(1, .one (.ptr 0 0)), (2, .one (.own 4)), (3, .one (.own 3)), (4, .one (.pv x0))], [(0, [.pv x1, .pv x2, .pv x3, .pv x4])], [(4, ⟨.deep, 3, 1, x5⟩), (3, ⟨.deep, 3, 1, x6⟩)], 5, 33⟩)⟩]
theorem spec_EntryInts_s : LEsOK (orac [spec_LabelInts_e]) TT (kk [1, 2, 3, 4]) (sumsOf spec_EntryInts_l) Tryz.f225 spec_EntryInts_l := ⟨fun v K k h => by
  apply un_all h; exact fun v0 v1 v2 v3 v4 v5 v6 h => Eq.mpr (by kernel_rfl) h
  , trivial⟩
theorem spec_EntryInts_w : EntOK Tryz.prog TT spec_EntryInts_e := ent_ok tabok (L := [spec_LabelInts_e]) ⟨spec_LabelInts_w, trivial⟩ (keep := (kk [1, 2, 3, 4])) (l := spec_EntryInts_l) Tryz.func225 (by kernel_rfl) (sg := [.one (.own true 3 1)]) (by kernel_rfl) spec_EntryInts_s fun av k h => by
  unfold spec_EntryInts at h; split at h
  · apply un_all h; clear h; intro a0 a1 a2 a3 h; exact Eq.mpr (by kernel_rfl) h
  · exact h.elim

def spec_LeafOf : GM
 | [.agg u0], k => un 4 (fun a0 a1 a2 a3 => 
  (1 = 1) ∧ (1 ≤ 16777216) ∧ (1 = 1) ∧ (0 = 0) ∧ (1 = 1) ∧ (flatCond [.pv (I 0)] [.pv (I 227)]) ∧ call spec_EntryInts [.agg [a0, a1, a2, a3]] fun o0 =>
  catP 1 (.list 1 [[(I 227)]]) (atP o0 0) fun r1 =>
  call spec_Hash [.one r1] fun o2 =>
  rt [.sc] [(atP o2 0)] k) u0
 | _, _ => False
abbrev spec_LeafOf_e : Ent := ⟨[207], spec_LeafOf⟩
theorem spec_LeafOf_w : EntOK Tryz.prog TT spec_LeafOf_e := ent_ok tabok (L := [spec_EntryInts_e, spec_Hash_e]) ⟨spec_EntryInts_w, spec_Hash_w, trivial⟩ (keep := []) (l := []) Tryz.func207 (by kernel_rfl) (sg := [.one (.sc)]) (by kernel_rfl) trivial fun av k h => by
  unfold spec_LeafOf at h; split at h
  · apply un_all h; clear h; intro a0 a1 a2 a3 h; exact Eq.mpr (by kernel_rfl) h
  · exact h.elim

def spec_LeavesOf_r0 (v : List PV) (K : List PV → Prop) (x0k : PV → PV → PV → PV → Prop) : Prop :=
 un 4 (fun v0 v1 v2 v3 =>
  lenP v0 fun r0 =>
  binP .lss v1 r0 fun r1 =>
  iteP r1
   (elemP 4 v0 v1 fun c2 =>
   call spec_LeafOf [.agg [(atP c2 0), (atP c2 1), (atP c2 2), (atP c2 3)]] fun o3 =>
   (1 = 1) ∧ (1 ≤ 16777216) ∧ (1 = 1) ∧ (0 = 0) ∧ (1 = 1) ∧ (flatCond [.pv (I 0)] [.pv (atP o3 0)]) ∧ catP 1 v3 (.list 1 [[(atP o3 0)]]) fun r4 =>
   binP .add v1 (I 1) fun r5 =>
   K [v0, r5, v2, r4])
   (x0k v0 v1 v2 v3)) v
def spec_LeavesOf : GM
 | [.one a0], k => 
  (0 = 0) ∧ (0 ≤ 16777216) ∧ (1 = 1) ∧ lp (fun L w => spec_LeavesOf_r0 w L
   (fun q6 q7 q8 q9 => rt [.own true 3 1] [q9] k)) [a0, (I 0), (.list 1 []), (.list 1 [])]
 | _, _ => False
abbrev spec_LeavesOf_e : Ent := ⟨[178], spec_LeavesOf⟩
def spec_LeavesOf_l : List LE := [⟨0, ⟨[(0, .one (.pv (.bool false))), (2, .one (.own 1)), (3, .one (.own 0)), (4, .one (.pv (.bool false)))], [], [(1, ⟨.deep, 3, 1, (.bool false)⟩), (0, ⟨.deep, 3, 1, (.bool false)⟩)], 2, 21⟩, fun K k v => spec_LeavesOf_r0 v K (fun x0 x1 x2 x3 => k (.exit 0) ⟨[(0, .one (.pv x0)), (2, .one (.own 1)), (3, .one (.own 0)), (4, .one (.pv x1))], [], [(1, ⟨.deep, 3, 1, x2⟩), (0, ⟨.deep, 3, 1, x3⟩)], 2, 21⟩)⟩]
theorem spec_LeavesOf_s : LEsOK (orac [spec_LeafOf_e]) TT (kk [0, 2, 3, 4]) (sumsOf spec_LeavesOf_l) Tryz.f178 spec_LeavesOf_l := ⟨fun v K k h => by
  apply un_all h; exact fun v0 v1 v2 v3 h => Eq.mpr (by kernel_rfl) h
  , trivial⟩
theorem spec_LeavesOf_w : EntOK Tryz.prog TT spec_LeavesOf_e := ent_ok tabok (L := [spec_LeafOf_e]) ⟨spec_LeafOf_w, trivial⟩ (keep := (kk [0, 2, 3, 4])) (l := spec_LeavesOf_l) Tryz.func178 (by kernel_rfl) (sg := [.one (.own true 3 1)]) (by kernel_rfl) spec_LeavesOf_s fun av k h => by
  unfold spec_LeavesOf at h; split at h
  · exact Eq.mpr (by kernel_rfl) h
  · exact h.elim

def spec_NodeOf : GM
 | [.one a0, .one a1], k => 
  (3 = 3) ∧ (3 ≤ 16777216) ∧ (1 = 1) ∧ (0 = 0) ∧ (1 = 1) ∧ (flatCond [.pv (I 0)] [.pv (I 229)]) ∧ (1 = 1) ∧ (1 = 1) ∧ (flatCond [.pv (I 0)] [.pv a0]) ∧ (2 = 2) ∧ (1 = 1) ∧ (flatCond [.pv (I 0)] [.pv a1]) ∧ call spec_Hash [.one (.list 1 [[(I 229)], [a0], [a1]])] fun o0 =>
  rt [.sc] [(atP o0 0)] k
 | _, _ => False
abbrev spec_NodeOf_e : Ent := ⟨[224], spec_NodeOf⟩
theorem spec_NodeOf_w : EntOK Tryz.prog TT spec_NodeOf_e := ent_ok tabok (L := [spec_Hash_e]) ⟨spec_Hash_w, trivial⟩ (keep := []) (l := []) Tryz.func224 (by kernel_rfl) (sg := [.one (.sc)]) (by kernel_rfl) trivial fun av k h => by
  unfold spec_NodeOf at h; split at h
  · exact Eq.mpr (by kernel_rfl) h
  · exact h.elim

def spec_l10Up_r0 (v : List PV) (K : List PV → Prop) (x0k : PV → PV → PV → PV → Prop) : Prop :=
 un 4 (fun v0 v1 v2 v3 =>
  lenP v0 fun r0 =>
  binP .lss v1 r0 fun r1 =>
  iteP r1
   (binP .add v1 (I 1) fun r2 =>
   lenP v0 fun r3 =>
   binP .lss r2 r3 fun r4 =>
   iteP r4
    (elemP 1 v0 v1 fun c5 =>
    binP .add v1 (I 1) fun r6 =>
    elemP 1 v0 r6 fun c7 =>
    call spec_NodeOf [.one (atP c5 0), .one (atP c7 0)] fun o8 =>
    (1 = 1) ∧ (1 ≤ 16777216) ∧ (1 = 1) ∧ (0 = 0) ∧ (1 = 1) ∧ (flatCond [.pv (I 0)] [.pv (atP o8 0)]) ∧ catP 1 v3 (.list 1 [[(atP o8 0)]]) fun r9 =>
    binP .add v1 (I 2) fun r10 =>
    K [v0, r10, v2, r9])
    (elemP 1 v0 v1 fun c11 =>
    (1 = 1) ∧ (1 ≤ 16777216) ∧ (1 = 1) ∧ (0 = 0) ∧ (1 = 1) ∧ (flatCond [.pv (I 0)] [.pv (atP c11 0)]) ∧ catP 1 v3 (.list 1 [[(atP c11 0)]]) fun r12 =>
    binP .add v1 (I 2) fun r13 =>
    K [v0, r13, v2, r12]))
   (x0k v0 v1 v2 v3)) v
def spec_l10Up : GM
 | [.one a0], k => 
  (0 = 0) ∧ (0 ≤ 16777216) ∧ (1 = 1) ∧ lp (fun L w => spec_l10Up_r0 w L
   (fun q14 q15 q16 q17 => rt [.own true 3 1] [q17] k)) [a0, (I 0), (.list 1 []), (.list 1 [])]
 | _, _ => False
abbrev spec_l10Up_e : Ent := ⟨[206], spec_l10Up⟩
def spec_l10Up_l : List LE := [⟨0, ⟨[(0, .one (.pv (.bool false))), (2, .one (.own 1)), (3, .one (.own 0)), (4, .one (.pv (.bool false)))], [], [(1, ⟨.deep, 3, 1, (.bool false)⟩), (0, ⟨.deep, 3, 1, (.bool false)⟩)], 2, 38⟩, fun K k v => spec_l10Up_r0 v K (fun x0 x1 x2 x3 => k (.exit 0) ⟨[(0, .one (.pv x0)), (2, .one (.own 1)), (3, .one (.own 0)), (4, .one (.pv x1))], [], [(1, ⟨.deep, 3, 1, x2⟩), (0, ⟨.deep, 3, 1, x3⟩)], 2, 38⟩)⟩]
theorem spec_l10Up_s : LEsOK (orac [spec_NodeOf_e]) TT (kk [0, 2, 3, 4]) (sumsOf spec_l10Up_l) Tryz.f206 spec_l10Up_l := ⟨fun v K k h => by
  apply un_all h; exact fun v0 v1 v2 v3 h => Eq.mpr (by kernel_rfl) h
  , trivial⟩
theorem spec_l10Up_w : EntOK Tryz.prog TT spec_l10Up_e := ent_ok tabok (L := [spec_NodeOf_e]) ⟨spec_NodeOf_w, trivial⟩ (keep := (kk [0, 2, 3, 4])) (l := spec_l10Up_l) Tryz.func206 (by kernel_rfl) (sg := [.one (.own true 3 1)]) (by kernel_rfl) spec_l10Up_s fun av k h => by
  unfold spec_l10Up at h; split at h
  · exact Eq.mpr (by kernel_rfl) h
  · exact h.elim

def spec_TopOf_r0 (v : List PV) (K : List PV → Prop) (x0k : PV → PV → Prop) : Prop :=
 un 2 (fun v0 v1 =>
  lenP v1 fun r0 =>
  binP .gtr r0 (I 1) fun r1 =>
  iteP r1
   (call spec_l10Up [.one v1] fun o2 =>
   K [v0, (atP o2 0)])
   (x0k v0 v1)) v
def spec_TopOf : GM
 | [.one a0], k => 
  lenP a0 fun r0 =>
  binP .eql r0 (I 0) fun r1 =>
  iteP r1
   ((1 = 1) ∧ (1 ≤ 16777216) ∧ (1 = 1) ∧ (0 = 0) ∧ (1 = 1) ∧ (flatCond [.pv (I 0)] [.pv (I 229)]) ∧ call spec_Hash [.one (.list 1 [[(I 229)]])] fun o2 =>
   rt [.sc] [(atP o2 0)] k)
   (lp (fun L w => spec_TopOf_r0 w L
    (fun q3 q4 => elemP 1 q4 (I 0) fun c5 =>
     rt [.sc] [(atP c5 0)] k)) [(I 0), a0])
 | _, _ => False
abbrev spec_TopOf_e : Ent := ⟨[223], spec_TopOf⟩
def spec_TopOf_l : List LE := [⟨0, ⟨[(2, .one (.pv (.bool false))), (3, .one (.pv (.bool false)))], [], [], 0, 18⟩, fun K k v => spec_TopOf_r0 v K (fun x0 x1 => k (.exit 0) ⟨[(2, .one (.pv x0)), (3, .one (.pv x1))], [], [], 0, 18⟩)⟩]
theorem spec_TopOf_s : LEsOK (orac [spec_Hash_e, spec_l10Up_e]) TT (kk [2, 3]) (sumsOf spec_TopOf_l) Tryz.f223 spec_TopOf_l := ⟨fun v K k h => by
  apply un_all h; exact fun v0 v1 h => Eq.mpr (by kernel_rfl) h
  , trivial⟩
theorem spec_TopOf_w : EntOK Tryz.prog TT spec_TopOf_e := ent_ok tabok (L := [spec_Hash_e, spec_l10Up_e]) ⟨spec_Hash_w, spec_l10Up_w, trivial⟩ (keep := (kk [2, 3])) (l := spec_TopOf_l) Tryz.func223 (by kernel_rfl) (sg := [.one (.sc)]) (by kernel_rfl) spec_TopOf_s fun av k h => by
  unfold spec_TopOf at h; split at h
  · exact Eq.mpr (by kernel_rfl) h
  · exact h.elim

def spec_l10Root : GM
 | [.one a0, .one a1], k => 
  (3 = 3) ∧ (3 ≤ 16777216) ∧ (1 = 1) ∧ (0 = 0) ∧ (1 = 1) ∧ (flatCond [.pv (I 0)] [.pv (I 231)]) ∧ (1 = 1) ∧ (1 = 1) ∧ (flatCond [.pv (I 0)] [.pv a0]) ∧ (2 = 2) ∧ (1 = 1) ∧ (flatCond [.pv (I 0)] [.pv a1]) ∧ call spec_Hash [.one (.list 1 [[(I 231)], [a0], [a1]])] fun o0 =>
  rt [.sc] [(atP o0 0)] k
 | _, _ => False
abbrev spec_l10Root_e : Ent := ⟨[222], spec_l10Root⟩
theorem spec_l10Root_w : EntOK Tryz.prog TT spec_l10Root_e := ent_ok tabok (L := [spec_Hash_e]) ⟨spec_Hash_w, trivial⟩ (keep := []) (l := []) Tryz.func222 (by kernel_rfl) (sg := [.one (.sc)]) (by kernel_rfl) trivial fun av k h => by
  unfold spec_l10Root at h; split at h
  · exact Eq.mpr (by kernel_rfl) h
  · exact h.elim

def spec_RootOf : GM
 | [.one a0], k => 
  lenP a0 fun r0 =>
  call spec_LeavesOf [.one a0] fun o1 =>
  call spec_TopOf [.one (atP o1 0)] fun o2 =>
  call spec_l10Root [.one r0, .one (atP o2 0)] fun o3 =>
  rt [.sc] [(atP o3 0)] k
 | _, _ => False
abbrev spec_RootOf_e : Ent := ⟨[205], spec_RootOf⟩
theorem spec_RootOf_w : EntOK Tryz.prog TT spec_RootOf_e := ent_ok tabok (L := [spec_LeavesOf_e, spec_TopOf_e, spec_l10Root_e]) ⟨spec_LeavesOf_w, spec_TopOf_w, spec_l10Root_w, trivial⟩ (keep := []) (l := []) Tryz.func205 (by kernel_rfl) (sg := [.one (.sc)]) (by kernel_rfl) trivial fun av k h => by
  unfold spec_RootOf at h; split at h
  · exact Eq.mpr (by kernel_rfl) h
  · exact h.elim

def spec_CheckAll : GM
 | [.one a0, .one a1], k => 
  call spec_AreEntries [.one a1] fun o0 =>
  iteP (atP o0 0)
   (call spec_RootOf [.one a1] fun o1 =>
   binP .eql (atP o1 0) a0 fun r2 =>
   rt [.sc] [r2] k)
   (rt [.sc] [(.bool false)] k)
 | _, _ => False
abbrev spec_CheckAll_e : Ent := ⟨[176], spec_CheckAll⟩
theorem spec_CheckAll_w : EntOK Tryz.prog TT spec_CheckAll_e := ent_ok tabok (L := [spec_AreEntries_e, spec_RootOf_e]) ⟨spec_AreEntries_w, spec_RootOf_w, trivial⟩ (keep := []) (l := []) Tryz.func176 (by kernel_rfl) (sg := [.one (.sc)]) (by kernel_rfl) trivial fun av k h => by
  unfold spec_CheckAll at h; split at h
  · exact Eq.mpr (by kernel_rfl) h
  · exact h.elim

def spec_IsZone : GM
 | [.agg u0], k => un 2 (fun a0 a1 => 
  call spec_LastHead [.one a0] fun o0 =>
  iteP (atP o0 16)
   (lenP a1 fun r1 =>
   binP .eql (atP o0 5) r1 fun r2 =>
   iteP r2
    (call spec_CheckAll [.one (atP o0 6), .one a1] fun o3 =>
    rt [.sc] [(atP o3 0)] k)
    (rt [.sc] [(.bool false)] k))
   (rt [.sc] [(.bool false)] k)) u0
 | _, _ => False
abbrev spec_IsZone_e : Ent := ⟨[144], spec_IsZone⟩
theorem spec_IsZone_w : EntOK Tryz.prog TT spec_IsZone_e := ent_ok tabok (L := [spec_LastHead_e, spec_CheckAll_e]) ⟨spec_LastHead_w, spec_CheckAll_w, trivial⟩ (keep := []) (l := []) Tryz.func144 (by kernel_rfl) (sg := [.one (.sc)]) (by kernel_rfl) trivial fun av k h => by
  unfold spec_IsZone at h; split at h
  · apply un_all h; clear h; intro a0 a1 h; exact Eq.mpr (by kernel_rfl) h
  · exact h.elim

def spec_ZoneId : GM
 | [.agg u0], k => un 2 (fun a0 a1 => 
  call spec_LastHead [.one a0] fun o0 =>
  call spec_IsZone [.agg [a0, a1]] fun o1 =>
  unP .not (atP o1 0) fun r2 =>
  iteP r2
   (rt [.sc] [(I (-1))] k)
   (rt [.sc] [(atP o0 0)] k)) u0
 | _, _ => False
abbrev spec_ZoneId_e : Ent := ⟨[108], spec_ZoneId⟩
theorem spec_ZoneId_w : EntOK Tryz.prog TT spec_ZoneId_e := ent_ok tabok (L := [spec_LastHead_e, spec_IsZone_e]) ⟨spec_LastHead_w, spec_IsZone_w, trivial⟩ (keep := []) (l := []) Tryz.func108 (by kernel_rfl) (sg := [.one (.sc)]) (by kernel_rfl) trivial fun av k h => by
  unfold spec_ZoneId at h; split at h
  · apply un_all h; clear h; intro a0 a1 h; exact Eq.mpr (by kernel_rfl) h
  · exact h.elim

def spec_ServedZone_r0 (v : List PV) (K : List PV → Prop) (x0k : PV → PV → PV → Prop) (x1k : PV → PV → PV → PV → PV → Prop) : Prop :=
 un 5 (fun v0 v1 v2 v3 v4 =>
  lenP v3 fun r0 =>
  binP .lss v2 r0 fun r1 =>
  iteP r1
   (elemP 2 v3 v2 fun c2 =>
   call spec_ZoneId [.agg [(atP c2 0), (atP c2 1)]] fun o3 =>
   binP .eql (atP o3 0) v0 fun r4 =>
   iteP r4
    (binP .geq v0 (I 0) fun r5 =>
    iteP r5
     (x0k v2 v3 v4)
     (binP .add v2 (I 1) fun r6 =>
     K [v0, v1, r6, v3, v4]))
    (binP .add v2 (I 1) fun r7 =>
    K [v0, v1, r7, v3, v4]))
   (x1k v0 v1 v2 v3 v4)) v
def spec_ServedZone : GM
 | [.agg u0, .one a2], k => un 2 (fun a0 a1 => 
  lp (fun L w => spec_ServedZone_r0 w L
   (fun q8 q9 q10 => rt [.sc] [q8] k)
   (fun q11 q12 q13 q14 q15 => rt [.sc] [(I (-1))] k)) [a2, (I 0), (I 0), a0, a1]) u0
 | _, _ => False
abbrev spec_ServedZone_e : Ent := ⟨[66], spec_ServedZone⟩
def spec_ServedZone_l : List LE := [⟨0, ⟨[(1, .one (.pv (.bool false))), (2, .one (.ptr 0 0)), (4, .one (.pv (.bool false))), (5, .one (.pv (.bool false)))], [(0, [.pv (.bool false), .pv (.bool false)])], [], 1, 26⟩, fun K k v => spec_ServedZone_r0 v K (fun x0 x1 x2 => k .ret ⟨[(4, .one (.pv x0))], [(0, [.pv x1, .pv x2])], [], 2, 26⟩) (fun x0 x1 x2 x3 x4 => k (.exit 0) ⟨[(1, .one (.pv x0)), (2, .one (.ptr 0 0)), (4, .one (.pv x1)), (5, .one (.pv x2))], [(0, [.pv x3, .pv x4])], [], 1, 26⟩)⟩]
theorem spec_ServedZone_s : LEsOK (orac [spec_ZoneId_e]) TT (kk [1, 2, 4, 5, 22, 23]) (sumsOf spec_ServedZone_l) Tryz.f66 spec_ServedZone_l := ⟨fun v K k h => by
  apply un_all h; exact fun v0 v1 v2 v3 v4 h => Eq.mpr (by kernel_rfl) h
  , trivial⟩
theorem spec_ServedZone_w : EntOK Tryz.prog TT spec_ServedZone_e := ent_ok tabok (L := [spec_ZoneId_e]) ⟨spec_ZoneId_w, trivial⟩ (keep := (kk [1, 2, 4, 5, 22, 23])) (l := spec_ServedZone_l) Tryz.func66 (by kernel_rfl) (sg := [.one (.sc)]) (by kernel_rfl) spec_ServedZone_s fun av k h => by
  unfold spec_ServedZone at h; split at h
  · apply un_all h; clear h; intro a0 a1 h; exact Eq.mpr (by kernel_rfl) h
  · exact h.elim

def spec_BucketOf : GM
 | [.one a0], k => 
  call spec_LabelInts [.one a0] fun o0 =>
  call spec_Hash [.one (atP o0 0)] fun o1 =>
  binP .rem (atP o1 0) (I 4) fun r2 =>
  rt [.sc] [r2] k
 | _, _ => False
abbrev spec_BucketOf_e : Ent := ⟨[67], spec_BucketOf⟩
theorem spec_BucketOf_w : EntOK Tryz.prog TT spec_BucketOf_e := ent_ok tabok (L := [spec_LabelInts_e, spec_Hash_e]) ⟨spec_LabelInts_w, spec_Hash_w, trivial⟩ (keep := []) (l := []) Tryz.func67 (by kernel_rfl) (sg := [.one (.sc)]) (by kernel_rfl) trivial fun av k h => by
  unfold spec_BucketOf at h; split at h
  · exact Eq.mpr (by kernel_rfl) h
  · exact h.elim

def spec_l14Copy : GM
 | [.agg u0], k => un 17 (fun a0 a1 a2 a3 a4 a5 a6 a7 a8 a9 a10 a11 a12 a13 a14 a15 a16 => 
  call spec_l13Copy [.agg [a0, a1, a2, a3, a4, a5, a6, a7, a8, a9, a10, a11, a12, a13, a14, a15]] fun o0 =>
  catP 2 a16 (.list 2 []) fun r1 =>
  rt [.sc, .sc, .sc, .sc, .sc, .sc, .sc, .sc, .pv, .sc, .pv, .sc, .sc, .pv, .sc, .sc, .pv] [(atP o0 0), (atP o0 1), (atP o0 2), (atP o0 3), (atP o0 4), (atP o0 5), (atP o0 6), (atP o0 7), (atP o0 8), (atP o0 9), (atP o0 10), (atP o0 11), (atP o0 12), (atP o0 13), (atP o0 14), (atP o0 15), r1] k) u0
 | _, _ => False
abbrev spec_l14Copy_e : Ent := ⟨[136], spec_l14Copy⟩
theorem spec_l14Copy_w : EntOK Tryz.prog TT spec_l14Copy_e := ent_ok tabok (L := [spec_l13Copy_e]) ⟨spec_l13Copy_w, trivial⟩ (keep := []) (l := []) Tryz.func136 (by kernel_rfl) (sg := [.agg [.sc, .sc, .sc, .sc, .sc, .sc, .sc, .sc, .pv, .sc, .pv, .sc, .sc, .pv, .sc, .sc, .pv]]) (by kernel_rfl) trivial fun av k h => by
  unfold spec_l14Copy at h; split at h
  · apply un_all h; clear h; intro a0 a1 a2 a3 a4 a5 a6 a7 a8 a9 a10 a11 a12 a13 a14 a15 a16 h; exact Eq.mpr (by kernel_rfl) h
  · exact h.elim

def spec_l16Copy_r0 (v : List PV) (K : List PV → Prop) (x0k : PV → PV → PV → PV → Prop) : Prop :=
 un 4 (fun v0 v1 v2 v3 =>
  lenP v0 fun r0 =>
  binP .lss v1 r0 fun r1 =>
  iteP r1
   (elemP 17 v0 v1 fun c2 =>
   call spec_l14Copy [.agg [(atP c2 0), (atP c2 1), (atP c2 2), (atP c2 3), (atP c2 4), (atP c2 5), (atP c2 6), (atP c2 7), (atP c2 8), (atP c2 9), (atP c2 10), (atP c2 11), (atP c2 12), (atP c2 13), (atP c2 14), (atP c2 15), (atP c2 16)]] fun o3 =>
   (1 = 1) ∧ (17 ≤ 16777216) ∧ (17 = 17) ∧ (0 = 0) ∧ (17 = 17) ∧ catP 17 v3 (.list 17 [[(atP o3 0), (atP o3 1), (atP o3 2), (atP o3 3), (atP o3 4), (atP o3 5), (atP o3 6), (atP o3 7), (atP o3 8), (atP o3 9), (atP o3 10), (atP o3 11), (atP o3 12), (atP o3 13), (atP o3 14), (atP o3 15), (atP o3 16)]]) fun r4 =>
   binP .add v1 (I 1) fun r5 =>
   K [v0, r5, v2, r4])
   (x0k v0 v1 v2 v3)) v
def spec_l16Copy : GM
 | [.one a0], k => 
  (0 = 0) ∧ (0 ≤ 16777216) ∧ (17 = 17) ∧ lp (fun L w => spec_l16Copy_r0 w L
   (fun q6 q7 q8 q9 => rt [.pv] [q9] k)) [a0, (I 0), (.list 17 []), (.list 17 [])]
 | _, _ => False
abbrev spec_l16Copy_e : Ent := ⟨[99], spec_l16Copy⟩
def spec_l16Copy_l : List LE := [⟨0, ⟨[(0, .one (.pv (.bool false))), (2, .one (.own 1)), (3, .one (.own 0)), (4, .one (.pv (.bool false)))], [], [(1, ⟨.deep, 148, 17, (.bool false)⟩), (0, ⟨.flat, 148, 17, (.bool false)⟩)], 2, 21⟩, fun K k v => spec_l16Copy_r0 v K (fun x0 x1 x2 x3 => k (.exit 0) ⟨[(0, .one (.pv x0)), (2, .one (.own 1)), (3, .one (.own 0)), (4, .one (.pv x1))], [], [(1, ⟨.deep, 148, 17, x2⟩), (0, ⟨.flat, 148, 17, x3⟩)], 2, 21⟩)⟩]
theorem spec_l16Copy_s : LEsOK (orac [spec_l14Copy_e]) TT (kk [0, 2, 3, 4]) (sumsOf spec_l16Copy_l) Tryz.f99 spec_l16Copy_l := ⟨fun v K k h => by
  apply un_all h; exact fun v0 v1 v2 v3 h => Eq.mpr (by kernel_rfl) h
  , trivial⟩
theorem spec_l16Copy_w : EntOK Tryz.prog TT spec_l16Copy_e := ent_ok tabok (L := [spec_l14Copy_e]) ⟨spec_l14Copy_w, trivial⟩ (keep := (kk [0, 2, 3, 4])) (l := spec_l16Copy_l) Tryz.func99 (by kernel_rfl) (sg := [.one (.pv)]) (by kernel_rfl) spec_l16Copy_s fun av k h => by
  unfold spec_l16Copy at h; split at h
  · exact Eq.mpr (by kernel_rfl) h
  · exact h.elim

def spec_FindEntry_r0 (v : List PV) (K : List PV → Prop) (x0k : PV → Prop) (x1k : PV → PV → PV → PV → Prop) : Prop :=
 un 4 (fun v0 v1 v2 v3 =>
  lenP v0 fun r0 =>
  binP .lss v3 r0 fun r1 =>
  iteP r1
   (elemP 4 v0 v3 fun c2 =>
   binP .eql (atP c2 0) v1 fun r3 =>
   iteP r3
    (x0k v3)
    (binP .add v3 (I 1) fun r4 =>
    K [v0, v1, v2, r4]))
   (x1k v0 v1 v2 v3)) v
def spec_FindEntry : GM
 | [.one a0, .one a1], k => 
  lp (fun L w => spec_FindEntry_r0 w L
   (fun q5 => rt [.sc] [q5] k)
   (fun q6 q7 q8 q9 => rt [.sc] [(I (-1))] k)) [a0, a1, (I 0), (I 0)]
 | _, _ => False
abbrev spec_FindEntry_e : Ent := ⟨[148], spec_FindEntry⟩
def spec_FindEntry_l : List LE := [⟨0, ⟨[(0, .one (.pv (.bool false))), (1, .one (.pv (.bool false))), (4, .one (.pv (.bool false))), (5, .one (.pv (.bool false)))], [], [], 0, 20⟩, fun K k v => spec_FindEntry_r0 v K (fun x0 => k .ret ⟨[(4, .one (.pv x0))], [], [], 0, 20⟩) (fun x0 x1 x2 x3 => k (.exit 0) ⟨[(0, .one (.pv x0)), (1, .one (.pv x1)), (4, .one (.pv x2)), (5, .one (.pv x3))], [], [], 0, 20⟩)⟩]
theorem spec_FindEntry_s : LEsOK (orac []) TT (kk [0, 1, 4, 5]) (sumsOf spec_FindEntry_l) Tryz.f148 spec_FindEntry_l := ⟨fun v K k h => by
  apply un_all h; exact fun v0 v1 v2 v3 h => Eq.mpr (by kernel_rfl) h
  , trivial⟩
theorem spec_FindEntry_w : EntOK Tryz.prog TT spec_FindEntry_e := ent_ok tabok (L := []) trivial (keep := (kk [0, 1, 4, 5])) (l := spec_FindEntry_l) Tryz.func148 (by kernel_rfl) (sg := [.one (.sc)]) (by kernel_rfl) spec_FindEntry_s fun av k h => by
  unfold spec_FindEntry at h; split at h
  · exact Eq.mpr (by kernel_rfl) h
  · exact h.elim

def spec_l5Copy : GM
 | [.one a0], k => 
  (0 = 0) ∧ (0 ≤ 16777216) ∧ (1 = 1) ∧ (flatRows a0) ∧ catP 1 (.list 1 []) a0 fun r0 =>
  rt [.pv] [r0] k
 | _, _ => False
abbrev spec_l5Copy_e : Ent := ⟨[169], spec_l5Copy⟩
theorem spec_l5Copy_w : EntOK Tryz.prog TT spec_l5Copy_e := ent_ok tabok (L := []) trivial (keep := []) (l := []) Tryz.func169 (by kernel_rfl) (sg := [.one (.pv)]) (by kernel_rfl) trivial fun av k h => by
  unfold spec_l5Copy at h; split at h
  · exact Eq.mpr (by kernel_rfl) h
  · exact h.elim

def spec_l8Copy : GM
 | [.agg u0], k => un 4 (fun a0 a1 a2 a3 => 
  call spec_l5Copy [.one a3] fun o0 =>
  rt [.sc, .sc, .sc, .pv] [a0, a1, a2, (atP o0 0)] k) u0
 | _, _ => False
abbrev spec_l8Copy_e : Ent := ⟨[137], spec_l8Copy⟩
theorem spec_l8Copy_w : EntOK Tryz.prog TT spec_l8Copy_e := ent_ok tabok (L := [spec_l5Copy_e]) ⟨spec_l5Copy_w, trivial⟩ (keep := []) (l := []) Tryz.func137 (by kernel_rfl) (sg := [.agg [.sc, .sc, .sc, .pv]]) (by kernel_rfl) trivial fun av k h => by
  unfold spec_l8Copy at h; split at h
  · apply un_all h; clear h; intro a0 a1 a2 a3 h; exact Eq.mpr (by kernel_rfl) h
  · exact h.elim

def spec_PathFor_r0 (v : List PV) (K : List PV → Prop) (x0k : PV → PV → PV → PV → Prop) : Prop :=
 un 4 (fun v0 v1 v2 v3 =>
  lenP v1 fun r0 =>
  binP .gtr r0 (I 1) fun r1 =>
  iteP r1
   (binP .add v0 (I 1) fun r2 =>
   binP .rem v0 (I 2) fun r3 =>
   binP .mul (I 2) r3 fun r4 =>
   binP .sub r2 r4 fun r5 =>
   lenP v1 fun r6 =>
   binP .lss r5 r6 fun r7 =>
   iteP r7
    (elemP 1 v1 r5 fun c8 =>
    (1 = 1) ∧ (1 ≤ 16777216) ∧ (1 = 1) ∧ (0 = 0) ∧ (1 = 1) ∧ (flatCond [.pv (I 0)] [.pv (atP c8 0)]) ∧ catP 1 v3 (.list 1 [[(atP c8 0)]]) fun r9 =>
    call spec_l10Up [.one v1] fun o10 =>
    binP .quo v0 (I 2) fun r11 =>
    K [r11, (atP o10 0), v2, r9])
    (call spec_l10Up [.one v1] fun o12 =>
    binP .quo v0 (I 2) fun r13 =>
    K [r13, (atP o12 0), v2, v3]))
   (x0k v0 v1 v2 v3)) v
def spec_PathFor : GM
 | [.one a0, .one a1], k => 
  (0 = 0) ∧ (0 ≤ 16777216) ∧ (1 = 1) ∧ lenP a0 fun r0 =>
  binP .sub r0 (I 1) fun r1 =>
  call spec_l1In [.one a1, .one (I 0), .one r1] fun o2 =>
  unP .not (atP o2 0) fun r3 =>
  iteP r3
   (rt [.own true 3 1] [(.list 1 [])] k)
   (lp (fun L w => spec_PathFor_r0 w L
    (fun q14 q15 q16 q17 => rt [.own true 3 1] [q17] k)) [a1, a0, (.list 1 []), (.list 1 [])])
 | _, _ => False
abbrev spec_PathFor_e : Ent := ⟨[177], spec_PathFor⟩
def spec_PathFor_l : List LE := [⟨0, ⟨[(1, .one (.pv (.bool false))), (4, .one (.own 2)), (5, .one (.own 0)), (6, .one (.pv (.bool false)))], [], [(2, ⟨.deep, 3, 1, (.bool false)⟩), (0, ⟨.deep, 3, 1, (.bool false)⟩)], 3, 42⟩, fun K k v => spec_PathFor_r0 v K (fun x0 x1 x2 x3 => k (.exit 0) ⟨[(1, .one (.pv x0)), (4, .one (.own 2)), (5, .one (.own 0)), (6, .one (.pv x1))], [], [(2, ⟨.deep, 3, 1, x2⟩), (0, ⟨.deep, 3, 1, x3⟩)], 3, 42⟩)⟩]
theorem spec_PathFor_s : LEsOK (orac [spec_l1In_e, spec_l10Up_e]) TT (kk [1, 4, 5, 6]) (sumsOf spec_PathFor_l) Tryz.f177 spec_PathFor_l := ⟨fun v K k h => by
  apply un_all h; exact fun v0 v1 v2 v3 h => Eq.mpr (by kernel_rfl) h
  , trivial⟩
theorem spec_PathFor_w : EntOK Tryz.prog TT spec_PathFor_e := ent_ok tabok (L := [spec_l1In_e, spec_l10Up_e]) ⟨spec_l1In_w, spec_l10Up_w, trivial⟩ (keep := (kk [1, 4, 5, 6])) (l := spec_PathFor_l) Tryz.func177 (by kernel_rfl) (sg := [.one (.own true 3 1)]) (by kernel_rfl) spec_PathFor_s fun av k h => by
  unfold spec_PathFor at h; split at h
  · exact Eq.mpr (by kernel_rfl) h
  · exact h.elim

def spec_ProveEntry : GM
 | [.one a0, .one a1], k => 
  call spec_FindEntry [.one a0, .one a1] fun o0 =>
  binP .lss (atP o0 0) (I 0) fun r1 =>
  iteP r1
   (rt [.sc, .pv, .sc] [(I 0), (.list 1 []), (.bool false)] k)
   (call spec_LeavesOf [.one a0] fun o2 =>
   call spec_PathFor [.one (atP o2 0), .one (atP o0 0)] fun o3 =>
   rt [.sc, .pv, .sc] [(atP o0 0), (atP o3 0), (.bool true)] k)
 | _, _ => False
abbrev spec_ProveEntry_e : Ent := ⟨[149], spec_ProveEntry⟩
theorem spec_ProveEntry_w : EntOK Tryz.prog TT spec_ProveEntry_e := ent_ok tabok (L := [spec_FindEntry_e, spec_LeavesOf_e, spec_PathFor_e]) ⟨spec_FindEntry_w, spec_LeavesOf_w, spec_PathFor_w, trivial⟩ (keep := []) (l := []) Tryz.func149 (by kernel_rfl) (sg := [.agg [.sc, .pv], .one (.sc)]) (by kernel_rfl) trivial fun av k h => by
  unfold spec_ProveEntry at h; split at h
  · exact Eq.mpr (by kernel_rfl) h
  · exact h.elim

def spec_RankOf_r0 (v : List PV) (K : List PV → Prop) (x0k : PV → PV → PV → PV → PV → Prop) : Prop :=
 un 5 (fun v0 v1 v2 v3 v4 =>
  lenP v0 fun r0 =>
  binP .lss v4 r0 fun r1 =>
  iteP r1
   (elemP 4 v0 v4 fun c2 =>
   call spec_CompareLabels [.one (atP c2 0), .one v1] fun o3 =>
   binP .lss (atP o3 0) (I 0) fun r4 =>
   iteP r4
    (binP .add v3 (I 1) fun r5 =>
    binP .add v4 (I 1) fun r6 =>
    K [v0, v1, v2, r5, r6])
    (binP .add v4 (I 1) fun r7 =>
    K [v0, v1, v2, v3, r7]))
   (x0k v0 v1 v2 v3 v4)) v
def spec_RankOf : GM
 | [.one a0, .one a1], k => 
  lp (fun L w => spec_RankOf_r0 w L
   (fun q8 q9 q10 q11 q12 => rt [.sc] [q11] k)) [a0, a1, (I 0), (I 0), (I 0)]
 | _, _ => False
abbrev spec_RankOf_e : Ent := ⟨[180], spec_RankOf⟩
def spec_RankOf_l : List LE := [⟨0, ⟨[(0, .one (.pv (.bool false))), (1, .one (.pv (.bool false))), (4, .one (.pv (.bool false))), (5, .one (.pv (.bool false))), (6, .one (.pv (.bool false)))], [], [], 0, 24⟩, fun K k v => spec_RankOf_r0 v K (fun x0 x1 x2 x3 x4 => k (.exit 0) ⟨[(0, .one (.pv x0)), (1, .one (.pv x1)), (4, .one (.pv x2)), (5, .one (.pv x3)), (6, .one (.pv x4))], [], [], 0, 24⟩)⟩]
theorem spec_RankOf_s : LEsOK (orac [spec_CompareLabels_e]) TT (kk [0, 1, 4, 5, 6]) (sumsOf spec_RankOf_l) Tryz.f180 spec_RankOf_l := ⟨fun v K k h => by
  apply un_all h; exact fun v0 v1 v2 v3 v4 h => Eq.mpr (by kernel_rfl) h
  , trivial⟩
theorem spec_RankOf_w : EntOK Tryz.prog TT spec_RankOf_e := ent_ok tabok (L := [spec_CompareLabels_e]) ⟨spec_CompareLabels_w, trivial⟩ (keep := (kk [0, 1, 4, 5, 6])) (l := spec_RankOf_l) Tryz.func180 (by kernel_rfl) (sg := [.one (.sc)]) (by kernel_rfl) spec_RankOf_s fun av k h => by
  unfold spec_RankOf at h; split at h
  · exact Eq.mpr (by kernel_rfl) h
  · exact h.elim

def spec_ProveAbsence : GM
 | [.one a0, .one a1], k => 
  call spec_AreEntries [.one a0] fun o0 =>
  unP .not (atP o0 0) fun r1 =>
  iteP r1
   (rt [.sc, .sc, .sc, .sc, .pv, .sc, .sc, .sc, .pv, .sc, .pv, .sc, .pv, .sc] [(I 0), (.str ⟨#[]⟩), (I 0), (I 0), (.list 1 []), (.str ⟨#[]⟩), (I 0), (I 0), (.list 1 []), (I 0), (.list 1 []), (I 0), (.list 1 []), (.bool false)] k)
   (call spec_IsLabel [.one a1] fun o2 =>
   unP .not (atP o2 0) fun r3 =>
   iteP r3
    (rt [.sc, .sc, .sc, .sc, .pv, .sc, .sc, .sc, .pv, .sc, .pv, .sc, .pv, .sc] [(I 0), (.str ⟨#[]⟩), (I 0), (I 0), (.list 1 []), (.str ⟨#[]⟩), (I 0), (I 0), (.list 1 []), (I 0), (.list 1 []), (I 0), (.list 1 []), (.bool false)] k)
    (call spec_FindEntry [.one a0, .one a1] fun o4 =>
    binP .geq (atP o4 0) (I 0) fun r5 =>
    iteP r5
     (rt [.sc, .sc, .sc, .sc, .pv, .sc, .sc, .sc, .pv, .sc, .pv, .sc, .pv, .sc] [(I 0), (.str ⟨#[]⟩), (I 0), (I 0), (.list 1 []), (.str ⟨#[]⟩), (I 0), (I 0), (.list 1 []), (I 0), (.list 1 []), (I 0), (.list 1 []), (.bool false)] k)
     (call spec_RankOf [.one a0, .one a1] fun o6 =>
     binP .gtr (atP o6 0) (I 0) fun r7 =>
     iteP r7
      (binP .sub (atP o6 0) (I 1) fun r8 =>
      elemP 4 a0 r8 fun c9 =>
      call spec_l8Copy [.agg [(atP c9 0), (atP c9 1), (atP c9 2), (atP c9 3)]] fun o10 =>
      binP .sub (atP o6 0) (I 1) fun r11 =>
      elemP 4 a0 r11 fun c12 =>
      call spec_ProveEntry [.one a0, .one (atP c12 0)] fun o13 =>
      lenP a0 fun r14 =>
      binP .lss (atP o6 0) r14 fun r15 =>
      iteP r15
       (elemP 4 a0 (atP o6 0) fun c16 =>
       call spec_l8Copy [.agg [(atP c16 0), (atP c16 1), (atP c16 2), (atP c16 3)]] fun o17 =>
       elemP 4 a0 (atP o6 0) fun c18 =>
       call spec_ProveEntry [.one a0, .one (atP c18 0)] fun o19 =>
       rt [.sc, .sc, .sc, .sc, .pv, .sc, .sc, .sc, .pv, .sc, .pv, .sc, .pv, .sc] [(atP o6 0), (atP o10 0), (atP o10 1), (atP o10 2), (atP o10 3), (atP o17 0), (atP o17 1), (atP o17 2), (atP o17 3), (atP o13 0), (atP o13 1), (atP o19 0), (atP o19 1), (.bool true)] k)
       (rt [.sc, .sc, .sc, .sc, .pv, .sc, .sc, .sc, .pv, .sc, .pv, .sc, .pv, .sc] [(atP o6 0), (atP o10 0), (atP o10 1), (atP o10 2), (atP o10 3), (.str ⟨#[]⟩), (I 0), (I 0), (.list 1 []), (atP o13 0), (atP o13 1), (I 0), (.list 1 []), (.bool true)] k))
      (lenP a0 fun r20 =>
      binP .lss (atP o6 0) r20 fun r21 =>
      iteP r21
       (elemP 4 a0 (atP o6 0) fun c22 =>
       call spec_l8Copy [.agg [(atP c22 0), (atP c22 1), (atP c22 2), (atP c22 3)]] fun o23 =>
       elemP 4 a0 (atP o6 0) fun c24 =>
       call spec_ProveEntry [.one a0, .one (atP c24 0)] fun o25 =>
       rt [.sc, .sc, .sc, .sc, .pv, .sc, .sc, .sc, .pv, .sc, .pv, .sc, .pv, .sc] [(atP o6 0), (.str ⟨#[]⟩), (I 0), (I 0), (.list 1 []), (atP o23 0), (atP o23 1), (atP o23 2), (atP o23 3), (I 0), (.list 1 []), (atP o25 0), (atP o25 1), (.bool true)] k)
       (rt [.sc, .sc, .sc, .sc, .pv, .sc, .sc, .sc, .pv, .sc, .pv, .sc, .pv, .sc] [(atP o6 0), (.str ⟨#[]⟩), (I 0), (I 0), (.list 1 []), (.str ⟨#[]⟩), (I 0), (I 0), (.list 1 []), (I 0), (.list 1 []), (I 0), (.list 1 []), (.bool true)] k)))))
 | _, _ => False
abbrev spec_ProveAbsence_e : Ent := ⟨[150], spec_ProveAbsence⟩
theorem spec_ProveAbsence_w : EntOK Tryz.prog TT spec_ProveAbsence_e := ent_ok tabok (L := [spec_AreEntries_e, spec_IsLabel_e, spec_FindEntry_e, spec_RankOf_e, spec_l8Copy_e, spec_ProveEntry_e]) ⟨spec_AreEntries_w, spec_IsLabel_w, spec_FindEntry_w, spec_RankOf_w, spec_l8Copy_w, spec_ProveEntry_w, trivial⟩ (keep := []) (l := []) Tryz.func150 (by kernel_rfl) (sg := [.agg [.sc, .sc, .sc, .sc, .pv, .sc, .sc, .sc, .pv, .sc, .pv, .sc, .pv], .one (.sc)]) (by kernel_rfl) trivial fun av k h => by
  unfold spec_ProveAbsence at h; split at h
  · exact Eq.mpr (by kernel_rfl) h
  · exact h.elim

def spec_AnswerFor : GM
 | [.agg u0, .one a2], k => un 2 (fun a0 a1 => 
  call spec_IsZone [.agg [a0, a1]] fun o0 =>
  unP .not (atP o0 0) fun r1 =>
  iteP r1
   (rt [.pv, .sc, .sc, .sc, .sc, .pv, .sc, .pv, .sc, .sc, .sc, .sc, .pv, .sc, .sc, .sc, .pv, .sc, .pv, .sc, .pv] [(.list 17 []), (.bool false), (.str ⟨#[]⟩), (I 0), (I 0), (.list 1 []), (I 0), (.list 1 []), (I 0), (.str ⟨#[]⟩), (I 0), (I 0), (.list 1 []), (.str ⟨#[]⟩), (I 0), (I 0), (.list 1 []), (I 0), (.list 1 []), (I 0), (.list 1 [])] k)
   (call spec_IsLabel [.one a2] fun o2 =>
   unP .not (atP o2 0) fun r3 =>
   iteP r3
    (rt [.pv, .sc, .sc, .sc, .sc, .pv, .sc, .pv, .sc, .sc, .sc, .sc, .pv, .sc, .sc, .sc, .pv, .sc, .pv, .sc, .pv] [(.list 17 []), (.bool false), (.str ⟨#[]⟩), (I 0), (I 0), (.list 1 []), (I 0), (.list 1 []), (I 0), (.str ⟨#[]⟩), (I 0), (I 0), (.list 1 []), (.str ⟨#[]⟩), (I 0), (I 0), (.list 1 []), (I 0), (.list 1 []), (I 0), (.list 1 [])] k)
    (call spec_l16Copy [.one a0] fun o4 =>
    call spec_FindEntry [.one a1, .one a2] fun o5 =>
    binP .geq (atP o5 0) (I 0) fun r6 =>
    iteP r6
     (elemP 4 a1 (atP o5 0) fun c7 =>
     call spec_l8Copy [.agg [(atP c7 0), (atP c7 1), (atP c7 2), (atP c7 3)]] fun o8 =>
     call spec_ProveEntry [.one a1, .one a2] fun o9 =>
     rt [.pv, .sc, .sc, .sc, .sc, .pv, .sc, .pv, .sc, .sc, .sc, .sc, .pv, .sc, .sc, .sc, .pv, .sc, .pv, .sc, .pv] [(atP o4 0), (.bool true), (atP o8 0), (atP o8 1), (atP o8 2), (atP o8 3), (atP o9 0), (atP o9 1), (I 0), (.str ⟨#[]⟩), (I 0), (I 0), (.list 1 []), (.str ⟨#[]⟩), (I 0), (I 0), (.list 1 []), (I 0), (.list 1 []), (I 0), (.list 1 [])] k)
     (call spec_ProveAbsence [.one a1, .one a2] fun o10 =>
     rt [.pv, .sc, .sc, .sc, .sc, .pv, .sc, .pv, .sc, .sc, .sc, .sc, .pv, .sc, .sc, .sc, .pv, .sc, .pv, .sc, .pv] [(atP o4 0), (.bool false), (.str ⟨#[]⟩), (I 0), (I 0), (.list 1 []), (I 0), (.list 1 []), (atP o10 0), (atP o10 1), (atP o10 2), (atP o10 3), (atP o10 4), (atP o10 5), (atP o10 6), (atP o10 7), (atP o10 8), (atP o10 9), (atP o10 10), (atP o10 11), (atP o10 12)] k)))) u0
 | _, _ => False
abbrev spec_AnswerFor_e : Ent := ⟨[111], spec_AnswerFor⟩
theorem spec_AnswerFor_w : EntOK Tryz.prog TT spec_AnswerFor_e := ent_ok tabok (L := [spec_IsZone_e, spec_IsLabel_e, spec_l16Copy_e, spec_FindEntry_e, spec_l8Copy_e, spec_ProveEntry_e, spec_ProveAbsence_e]) ⟨spec_IsZone_w, spec_IsLabel_w, spec_l16Copy_w, spec_FindEntry_w, spec_l8Copy_w, spec_ProveEntry_w, spec_ProveAbsence_w, trivial⟩ (keep := []) (l := []) Tryz.func111 (by kernel_rfl) (sg := [.agg [.pv, .sc, .sc, .sc, .sc, .pv, .sc, .pv, .sc, .sc, .sc, .sc, .pv, .sc, .sc, .sc, .pv, .sc, .pv, .sc, .pv]]) (by kernel_rfl) trivial fun av k h => by
  unfold spec_AnswerFor at h; split at h
  · apply un_all h; clear h; intro a0 a1 h; exact Eq.mpr (by kernel_rfl) h
  · exact h.elim

def spec_Ask : GM
 | [.agg u0, .one a2, .one a3], k => un 2 (fun a0 a1 => 
  call spec_ServedZone [.agg [a0, a1], .one a2] fun o0 =>
  binP .lss (atP o0 0) (I 0) fun r1 =>
  iteP r1
   (rt [.pv, .sc, .sc, .sc, .sc, .pv, .sc, .pv, .sc, .sc, .sc, .sc, .pv, .sc, .sc, .sc, .pv, .sc, .pv, .sc, .pv] [(.list 17 []), (.bool false), (.str ⟨#[]⟩), (I 0), (I 0), (.list 1 []), (I 0), (.list 1 []), (I 0), (.str ⟨#[]⟩), (I 0), (I 0), (.list 1 []), (.str ⟨#[]⟩), (I 0), (I 0), (.list 1 []), (I 0), (.list 1 []), (I 0), (.list 1 [])] k)
   (binP .eql a1 (I 4) fun r2 =>
   iteP r2
    (rt [.pv, .sc, .sc, .sc, .sc, .pv, .sc, .pv, .sc, .sc, .sc, .sc, .pv, .sc, .sc, .sc, .pv, .sc, .pv, .sc, .pv] [(.list 17 []), (.bool false), (.str ⟨#[]⟩), (I 0), (I 0), (.list 1 []), (I 0), (.list 1 []), (I 0), (.str ⟨#[]⟩), (I 0), (I 0), (.list 1 []), (.str ⟨#[]⟩), (I 0), (I 0), (.list 1 []), (I 0), (.list 1 []), (I 0), (.list 1 [])] k)
    (elemP 2 a0 (atP o0 0) fun c3 =>
    call spec_AnswerFor [.agg [(atP c3 0), (atP c3 1)], .one a3] fun o4 =>
    binP .eql a1 (I 1) fun r5 =>
    iteP r5
     (binP .add (atP o4 4) (I 1) fun r6 =>
     rt [.pv, .sc, .sc, .sc, .sc, .pv, .sc, .pv, .sc, .sc, .sc, .sc, .pv, .sc, .sc, .sc, .pv, .sc, .pv, .sc, .pv] [(atP o4 0), (atP o4 1), (atP o4 2), (atP o4 3), r6, (atP o4 5), (atP o4 6), (atP o4 7), (atP o4 8), (atP o4 9), (atP o4 10), (atP o4 11), (atP o4 12), (atP o4 13), (atP o4 14), (atP o4 15), (atP o4 16), (atP o4 17), (atP o4 18), (atP o4 19), (atP o4 20)] k)
     (binP .eql a1 (I 2) fun r7 =>
     iteP r7
      (lenP (atP o4 0) fun r8 =>
      binP .gtr r8 (I 0) fun r9 =>
      iteP r9
       (lenP (atP o4 0) fun r10 =>
       binP .sub r10 (I 1) fun r11 =>
       natP r11 fun n12 =>
       cutP 17 (atP o4 0) none (some n12) fun r13 =>
       rt [.pv, .sc, .sc, .sc, .sc, .pv, .sc, .pv, .sc, .sc, .sc, .sc, .pv, .sc, .sc, .sc, .pv, .sc, .pv, .sc, .pv] [r13, (atP o4 1), (atP o4 2), (atP o4 3), (atP o4 4), (atP o4 5), (atP o4 6), (atP o4 7), (atP o4 8), (atP o4 9), (atP o4 10), (atP o4 11), (atP o4 12), (atP o4 13), (atP o4 14), (atP o4 15), (atP o4 16), (atP o4 17), (atP o4 18), (atP o4 19), (atP o4 20)] k)
       (rt [.pv, .sc, .sc, .sc, .sc, .pv, .sc, .pv, .sc, .sc, .sc, .sc, .pv, .sc, .sc, .sc, .pv, .sc, .pv, .sc, .pv] [(atP o4 0), (atP o4 1), (atP o4 2), (atP o4 3), (atP o4 4), (atP o4 5), (atP o4 6), (atP o4 7), (atP o4 8), (atP o4 9), (atP o4 10), (atP o4 11), (atP o4 12), (atP o4 13), (atP o4 14), (atP o4 15), (atP o4 16), (atP o4 17), (atP o4 18), (atP o4 19), (atP o4 20)] k))
      (binP .eql a1 (I 3) fun r14 =>
      iteP r14
       (rt [.pv, .sc, .sc, .sc, .sc, .pv, .sc, .pv, .sc, .sc, .sc, .sc, .pv, .sc, .sc, .sc, .pv, .sc, .pv, .sc, .pv] [(atP o4 0), (.bool false), (.str ⟨#[]⟩), (I 0), (I 0), (.list 1 []), (I 0), (.list 1 []), (I 0), (.str ⟨#[]⟩), (I 0), (I 0), (.list 1 []), (.str ⟨#[]⟩), (I 0), (I 0), (.list 1 []), (I 0), (.list 1 []), (I 0), (.list 1 [])] k)
       (rt [.pv, .sc, .sc, .sc, .sc, .pv, .sc, .pv, .sc, .sc, .sc, .sc, .pv, .sc, .sc, .sc, .pv, .sc, .pv, .sc, .pv] [(atP o4 0), (atP o4 1), (atP o4 2), (atP o4 3), (atP o4 4), (atP o4 5), (atP o4 6), (atP o4 7), (atP o4 8), (atP o4 9), (atP o4 10), (atP o4 11), (atP o4 12), (atP o4 13), (atP o4 14), (atP o4 15), (atP o4 16), (atP o4 17), (atP o4 18), (atP o4 19), (atP o4 20)] k)))))) u0
 | _, _ => False
abbrev spec_Ask_e : Ent := ⟨[68], spec_Ask⟩
theorem spec_Ask_w : EntOK Tryz.prog TT spec_Ask_e := ent_ok tabok (L := [spec_ServedZone_e, spec_AnswerFor_e]) ⟨spec_ServedZone_w, spec_AnswerFor_w, trivial⟩ (keep := []) (l := []) Tryz.func68 (by kernel_rfl) (sg := [.agg [.pv, .sc, .sc, .sc, .sc, .pv, .sc, .pv, .sc, .sc, .sc, .sc, .pv, .sc, .sc, .sc, .pv, .sc, .pv, .sc, .pv]]) (by kernel_rfl) trivial fun av k h => by
  unfold spec_Ask at h; split at h
  · apply un_all h; clear h; intro a0 a1 h; exact Eq.mpr (by kernel_rfl) h
  · exact h.elim

def spec_AskBucket_r0 (v : List PV) (K : List PV → Prop) (x0k : PV → PV → PV → PV → PV → PV → PV → PV → Prop) : Prop :=
 un 8 (fun v0 v1 v2 v3 v4 v5 v6 v7 =>
  lenP v0 fun r0 =>
  binP .lss v1 r0 fun r1 =>
  iteP r1
   (elemP 4 v0 v1 fun c2 =>
   call spec_BucketOf [.one (atP c2 0)] fun o3 =>
   binP .eql (atP o3 0) v3 fun r4 =>
   iteP r4
    (elemP 4 v0 v1 fun c5 =>
    call spec_Ask [.agg [v4, v5], .one v2, .one (atP c5 0)] fun o6 =>
    (1 = 1) ∧ (21 ≤ 16777216) ∧ (21 = 21) ∧ (0 = 0) ∧ (21 = 21) ∧ catP 21 v7 (.list 21 [[(atP o6 0), (atP o6 1), (atP o6 2), (atP o6 3), (atP o6 4), (atP o6 5), (atP o6 6), (atP o6 7), (atP o6 8), (atP o6 9), (atP o6 10), (atP o6 11), (atP o6 12), (atP o6 13), (atP o6 14), (atP o6 15), (atP o6 16), (atP o6 17), (atP o6 18), (atP o6 19), (atP o6 20)]]) fun r7 =>
    binP .add v1 (I 1) fun r8 =>
    K [v0, r8, v2, v3, v4, v5, v6, r7])
    (binP .add v1 (I 1) fun r9 =>
    K [v0, r9, v2, v3, v4, v5, v6, v7]))
   (x0k v0 v1 v2 v3 v4 v5 v6 v7)) v
def spec_AskBucket : GM
 | [.agg u0, .agg u1], k => un 2 (fun a0 a1 => un 2 (fun a2 a3 => 
  (0 = 0) ∧ (0 ≤ 16777216) ∧ (21 = 21) ∧ call spec_ServedZone [.agg [a0, a1], .one a2] fun o0 =>
  binP .lss (atP o0 0) (I 0) fun r1 =>
  iteP r1
   (rt [.pv] [(.list 21 [])] k)
   (elemP 2 a0 (atP o0 0) fun c2 =>
   lp (fun L w => spec_AskBucket_r0 w L
    (fun q10 q11 q12 q13 q14 q15 q16 q17 => rt [.pv] [q17] k)) [(atP c2 1), (I 0), a2, a3, a0, a1, (.list 21 []), (.list 21 [])])) u1) u0
 | _, _ => False
abbrev spec_AskBucket_e : Ent := ⟨[21], spec_AskBucket⟩
def spec_AskBucket_l : List LE := [⟨0, ⟨[(2, .one (.ptr 0 0)), (3, .one (.ptr 1 0)), (4, .one (.own 4)), (5, .one (.own 2)), (7, .one (.pv (.bool false))), (8, .one (.pv (.bool false)))], [(1, [.pv (.bool false), .pv (.bool false)]), (0, [.pv (.bool false), .pv (.bool false)])], [(4, ⟨.deep, 123, 21, (.bool false)⟩), (2, ⟨.flat, 123, 21, (.bool false)⟩)], 5, 51⟩, fun K k v => spec_AskBucket_r0 v K (fun x0 x1 x2 x3 x4 x5 x6 x7 => k (.exit 0) ⟨[(2, .one (.ptr 0 0)), (3, .one (.ptr 1 0)), (4, .one (.own 4)), (5, .one (.own 2)), (7, .one (.pv x0)), (8, .one (.pv x1))], [(1, [.pv x2, .pv x3]), (0, [.pv x4, .pv x5])], [(4, ⟨.deep, 123, 21, x6⟩), (2, ⟨.flat, 123, 21, x7⟩)], 5, 51⟩)⟩]
theorem spec_AskBucket_s : LEsOK (orac [spec_ServedZone_e, spec_BucketOf_e, spec_Ask_e]) TT (kk [2, 3, 4, 5, 7, 8]) (sumsOf spec_AskBucket_l) Tryz.f21 spec_AskBucket_l := ⟨fun v K k h => by
  apply un_all h; exact fun v0 v1 v2 v3 v4 v5 v6 v7 h => Eq.mpr (by kernel_rfl) h
  , trivial⟩
theorem spec_AskBucket_w : EntOK Tryz.prog TT spec_AskBucket_e := ent_ok tabok (L := [spec_ServedZone_e, spec_BucketOf_e, spec_Ask_e]) ⟨spec_ServedZone_w, spec_BucketOf_w, spec_Ask_w, trivial⟩ (keep := (kk [2, 3, 4, 5, 7, 8])) (l := spec_AskBucket_l) Tryz.func21 (by kernel_rfl) (sg := [.one (.pv)]) (by kernel_rfl) spec_AskBucket_s fun av k h => by
  unfold spec_AskBucket at h; split at h
  · apply un_all h; clear h; intro a0 a1 h; apply un_all h; clear h; intro a2 a3 h; exact Eq.mpr (by kernel_rfl) h
  · exact h.elim

def impl_InRange : GM
 | [.one a0, .one a1, .one a2], k => 
  binP .leq a1 a0 fun r0 =>
  iteP r0
   (binP .leq a0 a2 fun r1 =>
   rt [.sc] [r1] k)
   (rt [.sc] [(.bool false)] k)
 | _, _ => False
abbrev impl_InRange_e : Ent := ⟨[101], impl_InRange⟩
theorem impl_InRange_w : EntOK Tryz.prog TT impl_InRange_e := ent_okF tabok (L := []) trivial (keep := []) (l := []) Tryz.func101 (by kernel_rfl) (sg := [.one (.sc)]) (by kernel_rfl) trivial fun av k h => by
  unfold impl_InRange at h; split at h
  · exact Eq.mpr (by kernel_rfl) h
  · exact h.elim

def impl_isDigest : GM
 | [.one a0], k => 
  call impl_InRange [.one a0, .one (I 0), .one (I 2147483646)] fun o0 =>
  rt [.sc] [(atP o0 0)] k
 | _, _ => False
abbrev impl_isDigest_e : Ent := ⟨[233], impl_isDigest⟩
theorem impl_isDigest_w : EntOK Tryz.prog TT impl_isDigest_e := ent_okF tabok (L := [impl_InRange_e]) ⟨impl_InRange_w, trivial⟩ (keep := []) (l := []) Tryz.func233 (by kernel_rfl) (sg := [.one (.sc)]) (by kernel_rfl) trivial fun av k h => by
  unfold impl_isDigest at h; split at h
  · exact Eq.mpr (by kernel_rfl) h
  · exact h.elim

def impl_isSpan : GM
 | [.agg u0], k => un 16 (fun a0 a1 a2 a3 a4 a5 a6 a7 a8 a9 a10 a11 a12 a13 a14 a15 => 
  binP .geq a3 (I 0) fun r0 =>
  iteP r0
   (binP .leq a3 a4 fun r1 =>
   iteP r1
    (binP .leq a4 (I 100000) fun r2 =>
    iteP r2
     (binP .sub a4 a3 fun r3 =>
     binP .leq r3 (I 200) fun r4 =>
     rt [.sc] [r4] k)
     (rt [.sc] [(.bool false)] k))
    (rt [.sc] [(.bool false)] k))
   (rt [.sc] [(.bool false)] k)) u0
 | _, _ => False
abbrev impl_isSpan_e : Ent := ⟨[256], impl_isSpan⟩
theorem impl_isSpan_w : EntOK Tryz.prog TT impl_isSpan_e := ent_okF tabok (L := []) trivial (keep := []) (l := []) Tryz.func256 (by kernel_rfl) (sg := [.one (.sc)]) (by kernel_rfl) trivial fun av k h => by
  unfold impl_isSpan at h; split at h
  · apply un_all h; clear h; intro a0 a1 a2 a3 a4 a5 a6 a7 a8 a9 a10 a11 a12 a13 a14 a15 h; exact Eq.mpr (by kernel_rfl) h
  · exact h.elim

def impl_ascending_r0 (v : List PV) (K : List PV → Prop) (x0k : Prop) (x1k : PV → PV → PV → PV → Prop) : Prop :=
 un 4 (fun v0 v1 v2 v3 =>
  binP .lss v3 v2 fun r0 =>
  iteP r0
   (binP .gtr v3 (I 0) fun r1 =>
   iteP r1
    (elemP 1 v0 v3 fun c2 =>
    binP .sub v3 (I 1) fun r3 =>
    elemP 1 v0 r3 fun c4 =>
    binP .leq (atP c2 0) (atP c4 0) fun r5 =>
    iteP r5
     (x0k)
     (binP .add v3 (I 1) fun r6 =>
     K [v0, v1, v2, r6]))
    (binP .add v3 (I 1) fun r7 =>
    K [v0, v1, v2, r7]))
   (x1k v0 v1 v2 v3)) v
def impl_ascending : GM
 | [.one a0], k => 
  lenP a0 fun r0 =>
  lp (fun L w => impl_ascending_r0 w L
   (rt [.sc] [(.bool false)] k)
   (fun q8 q9 q10 q11 => rt [.sc] [(.bool true)] k)) [a0, (.bool false), r0, (I 0)]
 | _, _ => False
abbrev impl_ascending_e : Ent := ⟨[200], impl_ascending⟩
def impl_ascending_l : List LE := [⟨0, ⟨[(0, .one (.pv (.bool false))), (2, .one (.pv (.bool false))), (5, .one (.pv (.bool false))), (6, .one (.pv (.bool false)))], [], [], 0, 24⟩, fun K k v => impl_ascending_r0 v K (k .ret ⟨[(2, .one (.kb false))], [], [], 0, 24⟩) (fun x0 x1 x2 x3 => k (.exit 0) ⟨[(0, .one (.pv x0)), (2, .one (.pv x1)), (5, .one (.pv x2)), (6, .one (.pv x3))], [], [], 0, 24⟩)⟩]
theorem impl_ascending_s : LEsOK (orac []) TT.nofl (kk [0, 2, 5, 6, 12, 13, 14, 15, 16, 17, 18, 19, 20, 21]) (sumsOf impl_ascending_l) Tryz.f200 impl_ascending_l := ⟨fun v K k h => by
  apply un_all h; exact fun v0 v1 v2 v3 h => Eq.mpr (by kernel_rfl) h
  , trivial⟩
theorem impl_ascending_w : EntOK Tryz.prog TT impl_ascending_e := ent_okF tabok (L := []) trivial (keep := (kk [0, 2, 5, 6, 12, 13, 14, 15, 16, 17, 18, 19, 20, 21])) (l := impl_ascending_l) Tryz.func200 (by kernel_rfl) (sg := [.one (.sc)]) (by kernel_rfl) impl_ascending_s fun av k h => by
  unfold impl_ascending at h; split at h
  · exact Eq.mpr (by kernel_rfl) h
  · exact h.elim

def impl_isKey : GM
 | [.one a0], k => 
  call impl_InRange [.one a0, .one (I 1), .one (I 99)] fun o0 =>
  rt [.sc] [(atP o0 0)] k
 | _, _ => False
abbrev impl_isKey_e : Ent := ⟨[201], impl_isKey⟩
theorem impl_isKey_w : EntOK Tryz.prog TT impl_isKey_e := ent_okF tabok (L := [impl_InRange_e]) ⟨impl_InRange_w, trivial⟩ (keep := []) (l := []) Tryz.func201 (by kernel_rfl) (sg := [.one (.sc)]) (by kernel_rfl) trivial fun av k h => by
  unfold impl_isKey at h; split at h
  · exact Eq.mpr (by kernel_rfl) h
  · exact h.elim

def impl_IsKeys : GM
 | [.agg u0], k => un 2 (fun a0 a1 => 
  lenP a0 fun r0 =>
  call impl_InRange [.one r0, .one (I 1), .one (I 4)] fun o1 =>
  iteP (atP o1 0)
   (call impl_ascending [.one a0] fun o2 =>
   iteP (atP o2 0)
    (elemP 1 a0 (I 0) fun c3 =>
    call impl_isKey [.one (atP c3 0)] fun o4 =>
    iteP (atP o4 0)
     (lenP a0 fun r5 =>
     binP .sub r5 (I 1) fun r6 =>
     elemP 1 a0 r6 fun c7 =>
     call impl_isKey [.one (atP c7 0)] fun o8 =>
     iteP (atP o8 0)
      (lenP a0 fun r9 =>
      call impl_InRange [.one a1, .one (I 1), .one r9] fun o10 =>
      rt [.sc] [(atP o10 0)] k)
      (rt [.sc] [(.bool false)] k))
     (rt [.sc] [(.bool false)] k))
    (rt [.sc] [(.bool false)] k))
   (rt [.sc] [(.bool false)] k)) u0
 | _, _ => False
abbrev impl_IsKeys_e : Ent := ⟨[167], impl_IsKeys⟩
theorem impl_IsKeys_w : EntOK Tryz.prog TT impl_IsKeys_e := ent_okF tabok (L := [impl_InRange_e, impl_ascending_e, impl_isKey_e]) ⟨impl_InRange_w, impl_ascending_w, impl_isKey_w, trivial⟩ (keep := []) (l := []) Tryz.func167 (by kernel_rfl) (sg := [.one (.sc)]) (by kernel_rfl) trivial fun av k h => by
  unfold impl_IsKeys at h; split at h
  · apply un_all h; clear h; intro a0 a1 h; exact Eq.mpr (by kernel_rfl) h
  · exact h.elim

def impl_NoKeys : GM
 | [.agg u0], k => un 2 (fun a0 a1 => 
  binP .eql a1 (I 0) fun r0 =>
  iteP r0
   (lenP a0 fun r1 =>
   binP .eql r1 (I 0) fun r2 =>
   rt [.sc] [r2] k)
   (rt [.sc] [(.bool false)] k)) u0
 | _, _ => False
abbrev impl_NoKeys_e : Ent := ⟨[259], impl_NoKeys⟩
theorem impl_NoKeys_w : EntOK Tryz.prog TT impl_NoKeys_e := ent_okF tabok (L := []) trivial (keep := []) (l := []) Tryz.func259 (by kernel_rfl) (sg := [.one (.sc)]) (by kernel_rfl) trivial fun av k h => by
  unfold impl_NoKeys at h; split at h
  · apply un_all h; clear h; intro a0 a1 h; exact Eq.mpr (by kernel_rfl) h
  · exact h.elim

def impl_isMaybe : GM
 | [.agg u0], k => un 2 (fun a0 a1 => 
  call impl_NoKeys [.agg [a0, a1]] fun o0 =>
  iteP (atP o0 0)
   (rt [.sc] [(.bool true)] k)
   (call impl_IsKeys [.agg [a0, a1]] fun o1 =>
   rt [.sc] [(atP o1 0)] k)) u0
 | _, _ => False
abbrev impl_isMaybe_e : Ent := ⟨[257], impl_isMaybe⟩
theorem impl_isMaybe_w : EntOK Tryz.prog TT impl_isMaybe_e := ent_okF tabok (L := [impl_NoKeys_e, impl_IsKeys_e]) ⟨impl_NoKeys_w, impl_IsKeys_w, trivial⟩ (keep := []) (l := []) Tryz.func257 (by kernel_rfl) (sg := [.one (.sc)]) (by kernel_rfl) trivial fun av k h => by
  unfold impl_isMaybe at h; split at h
  · apply un_all h; clear h; intro a0 a1 h; exact Eq.mpr (by kernel_rfl) h
  · exact h.elim

def impl_isWait : GM
 | [.one a0, .agg u0], k => un 2 (fun a1 a2 => 
  call impl_NoKeys [.agg [a1, a2]] fun o0 =>
  iteP (atP o0 0)
   (binP .eql a0 (I 0) fun r1 =>
   rt [.sc] [r1] k)
   (call impl_InRange [.one a0, .one (I 1), .one (I 500)] fun o2 =>
   rt [.sc] [(atP o2 0)] k)) u0
 | _, _ => False
abbrev impl_isWait_e : Ent := ⟨[258], impl_isWait⟩
theorem impl_isWait_w : EntOK Tryz.prog TT impl_isWait_e := ent_okF tabok (L := [impl_NoKeys_e, impl_InRange_e]) ⟨impl_NoKeys_w, impl_InRange_w, trivial⟩ (keep := []) (l := []) Tryz.func258 (by kernel_rfl) (sg := [.one (.sc)]) (by kernel_rfl) trivial fun av k h => by
  unfold impl_isWait at h; split at h
  · apply un_all h; clear h; intro a1 a2 h; exact Eq.mpr (by kernel_rfl) h
  · exact h.elim

def impl_IsHead : GM
 | [.agg u0], k => un 16 (fun a0 a1 a2 a3 a4 a5 a6 a7 a8 a9 a10 a11 a12 a13 a14 a15 => 
  call impl_isDigest [.one a0] fun o0 =>
  iteP (atP o0 0)
   (call impl_isDigest [.one a6] fun o1 =>
   iteP (atP o1 0)
    (call impl_isDigest [.one a7] fun o2 =>
    iteP (atP o2 0)
     (call impl_InRange [.one a1, .one (I 0), .one (I 200)] fun o3 =>
     iteP (atP o3 0)
      (call impl_InRange [.one a2, .one (I 1), .one (I 3)] fun o4 =>
      iteP (atP o4 0)
       (call impl_isSpan [.agg [a0, a1, a2, a3, a4, a5, a6, a7, a8, a9, a10, a11, a12, a13, a14, a15]] fun o5 =>
       iteP (atP o5 0)
        (call impl_InRange [.one a5, .one (I 0), .one (I 12)] fun o6 =>
        iteP (atP o6 0)
         (call impl_IsKeys [.agg [a8, a9]] fun o7 =>
         iteP (atP o7 0)
          (call impl_isMaybe [.agg [a10, a11]] fun o8 =>
          iteP (atP o8 0)
           (call impl_isMaybe [.agg [a13, a14]] fun o9 =>
           iteP (atP o9 0)
            (call impl_isWait [.one a12, .agg [a10, a11]] fun o10 =>
            iteP (atP o10 0)
             (iteP a15
              (call impl_NoKeys [.agg [a13, a14]] fun o11 =>
              unP .not (atP o11 0) fun r12 =>
              rt [.sc] [r12] k)
              (rt [.sc] [(.bool true)] k))
             (rt [.sc] [(.bool false)] k))
            (rt [.sc] [(.bool false)] k))
           (rt [.sc] [(.bool false)] k))
          (rt [.sc] [(.bool false)] k))
         (rt [.sc] [(.bool false)] k))
        (rt [.sc] [(.bool false)] k))
       (rt [.sc] [(.bool false)] k))
      (rt [.sc] [(.bool false)] k))
     (rt [.sc] [(.bool false)] k))
    (rt [.sc] [(.bool false)] k))
   (rt [.sc] [(.bool false)] k)) u0
 | _, _ => False
abbrev impl_IsHead_e : Ent := ⟨[241], impl_IsHead⟩
theorem impl_IsHead_w : EntOK Tryz.prog TT impl_IsHead_e := ent_okF tabok (L := [impl_isDigest_e, impl_InRange_e, impl_isSpan_e, impl_IsKeys_e, impl_isMaybe_e, impl_isWait_e, impl_NoKeys_e]) ⟨impl_isDigest_w, impl_InRange_w, impl_isSpan_w, impl_IsKeys_w, impl_isMaybe_w, impl_isWait_w, impl_NoKeys_w, trivial⟩ (keep := []) (l := []) Tryz.func241 (by kernel_rfl) (sg := [.one (.sc)]) (by kernel_rfl) trivial fun av k h => by
  unfold impl_IsHead at h; split at h
  · apply un_all h; clear h; intro a0 a1 a2 a3 a4 a5 a6 a7 a8 a9 a10 a11 a12 a13 a14 a15 h; exact Eq.mpr (by kernel_rfl) h
  · exact h.elim

def impl_KeysInts : GM
 | [.agg u0], k => un 2 (fun a0 a1 => 
  lenP a0 fun r0 =>
  (2 = 2) ∧ (2 ≤ 16777216) ∧ (1 = 1) ∧ (0 = 0) ∧ (1 = 1) ∧ (flatCond [.pv (I 0)] [.pv a1]) ∧ (1 = 1) ∧ (1 = 1) ∧ (flatCond [.pv (I 0)] [.pv r0]) ∧ (flatRows a0) ∧ catP 1 (.list 1 [[a1], [r0]]) a0 fun r1 =>
  rt [.own true 3 1] [r1] k) u0
 | _, _ => False
abbrev impl_KeysInts_e : Ent := ⟨[260], impl_KeysInts⟩
theorem impl_KeysInts_w : EntOK Tryz.prog TT impl_KeysInts_e := ent_okF tabok (L := []) trivial (keep := []) (l := []) Tryz.func260 (by kernel_rfl) (sg := [.one (.own true 3 1)]) (by kernel_rfl) trivial fun av k h => by
  unfold impl_KeysInts at h; split at h
  · apply un_all h; clear h; intro a0 a1 h; exact Eq.mpr (by kernel_rfl) h
  · exact h.elim

def impl_Mod : GM
 | [.one a0, .one a1], k => 
  call impl_InRange [.one a1, .one (I 1), .one (I 1000000000000)] fun o0 =>
  unP .not (atP o0 0) fun r1 =>
  iteP r1
   (rt [.sc] [(I 0)] k)
   (binP .rem a0 a1 fun r2 =>
   binP .add r2 a1 fun r3 =>
   binP .rem r3 a1 fun r4 =>
   rt [.sc] [r4] k)
 | _, _ => False
abbrev impl_Mod_e : Ent := ⟨[152], impl_Mod⟩
theorem impl_Mod_w : EntOK Tryz.prog TT impl_Mod_e := ent_okF tabok (L := [impl_InRange_e]) ⟨impl_InRange_w, trivial⟩ (keep := []) (l := []) Tryz.func152 (by kernel_rfl) (sg := [.one (.sc)]) (by kernel_rfl) trivial fun av k h => by
  unfold impl_Mod at h; split at h
  · exact Eq.mpr (by kernel_rfl) h
  · exact h.elim

def impl_Hash_r0 (v : List PV) (K : List PV → Prop) (x0k : PV → PV → PV → PV → PV → Prop) : Prop :=
 un 5 (fun v0 v1 v2 v3 v4 =>
  binP .lss v4 v3 fun r0 =>
  iteP r0
   (elemP 1 v2 v4 fun c1 =>
   binP .mul v1 (I 1000003) fun r2 =>
   call impl_Mod [.one (atP c1 0), .one (I 2147483647)] fun o3 =>
   binP .add r2 (atP o3 0) fun r4 =>
   binP .add r4 (I 13) fun r5 =>
   binP .rem r5 (I 2147483647) fun r6 =>
   binP .add v4 (I 1) fun r7 =>
   K [v0, r6, v2, v3, r7])
   (x0k v0 v1 v2 v3 v4)) v
def impl_Hash : GM
 | [.one a0], k => 
  lenP a0 fun r0 =>
  lp (fun L w => impl_Hash_r0 w L
   (fun q8 q9 q10 q11 q12 => rt [.sc] [q9] k)) [(I 0), (I 11), a0, r0, (I 0)]
 | _, _ => False
abbrev impl_Hash_e : Ent := ⟨[115], impl_Hash⟩
def impl_Hash_l : List LE := [⟨0, ⟨[(2, .one (.pv (.bool false))), (3, .one (.pv (.bool false))), (6, .one (.pv (.bool false))), (7, .one (.pv (.bool false))), (8, .one (.pv (.bool false)))], [], [], 0, 21⟩, fun K k v => impl_Hash_r0 v K (fun x0 x1 x2 x3 x4 => k (.exit 0) ⟨[(2, .one (.pv x0)), (3, .one (.pv x1)), (6, .one (.pv x2)), (7, .one (.pv x3)), (8, .one (.pv x4))], [], [], 0, 21⟩)⟩]
theorem impl_Hash_s : LEsOK (orac [impl_Mod_e]) TT.nofl (kk [2, 3, 6, 7, 8]) (sumsOf impl_Hash_l) Tryz.f115 impl_Hash_l := ⟨fun v K k h => by
  apply un_all h; exact fun v0 v1 v2 v3 v4 h => Eq.mpr (by kernel_rfl) h
  , trivial⟩
theorem impl_Hash_w : EntOK Tryz.prog TT impl_Hash_e := ent_okF tabok (L := [impl_Mod_e]) ⟨impl_Mod_w, trivial⟩ (keep := (kk [2, 3, 6, 7, 8])) (l := impl_Hash_l) Tryz.func115 (by kernel_rfl) (sg := [.one (.sc)]) (by kernel_rfl) impl_Hash_s fun av k h => by
  unfold impl_Hash at h; split at h
  · exact Eq.mpr (by kernel_rfl) h
  · exact h.elim

def impl_ZoneOf : GM
 | [.agg u0, .one a2], k => un 2 (fun a0 a1 => 
  (2 = 2) ∧ (2 ≤ 16777216) ∧ (1 = 1) ∧ (0 = 0) ∧ (1 = 1) ∧ (flatCond [.pv (I 0)] [.pv (I 239)]) ∧ (1 = 1) ∧ (1 = 1) ∧ (flatCond [.pv (I 0)] [.pv a2]) ∧ call impl_KeysInts [.agg [a0, a1]] fun o0 =>
  catP 1 (.list 1 [[(I 239)], [a2]]) (atP o0 0) fun r1 =>
  call impl_Hash [.one r1] fun o2 =>
  rt [.sc] [(atP o2 0)] k) u0
 | _, _ => False
abbrev impl_ZoneOf_e : Ent := ⟨[242], impl_ZoneOf⟩
theorem impl_ZoneOf_w : EntOK Tryz.prog TT impl_ZoneOf_e := ent_okF tabok (L := [impl_KeysInts_e, impl_Hash_e]) ⟨impl_KeysInts_w, impl_Hash_w, trivial⟩ (keep := []) (l := []) Tryz.func242 (by kernel_rfl) (sg := [.one (.sc)]) (by kernel_rfl) trivial fun av k h => by
  unfold impl_ZoneOf at h; split at h
  · apply un_all h; clear h; intro a0 a1 h; exact Eq.mpr (by kernel_rfl) h
  · exact h.elim

def impl_bit : GM
 | [.one a0], k => 
  iteP a0
   (rt [.sc] [(I 1)] k)
   (rt [.sc] [(I 0)] k)
 | _, _ => False
abbrev impl_bit_e : Ent := ⟨[274], impl_bit⟩
theorem impl_bit_w : EntOK Tryz.prog TT impl_bit_e := ent_okF tabok (L := []) trivial (keep := []) (l := []) Tryz.func274 (by kernel_rfl) (sg := [.one (.sc)]) (by kernel_rfl) trivial fun av k h => by
  unfold impl_bit at h; split at h
  · exact Eq.mpr (by kernel_rfl) h
  · exact h.elim

def slices_Grow_int_F_nil : GM
 | [.nil 3 1, .one a0], k => 
  binP .lss a0 (I 0) fun r0 =>
  iteP r0
   (False)
   (lenP (.list 1 []) fun r1 =>
   binP .sub (I 0) r1 fun r2 =>
   binP .sub a0 r2 fun r3 =>
   binP .gtr r3 (I 0) fun r4 =>
   iteP r4
    (natP (I 0) fun n5 =>
    (0 = 0) ∧ (n5 = 0) ∧ ((Go.Ev.tI.ik = some Go.IntKind.i64)) ∧ (1 = 1) ∧ makeP 1 r3 [(I 0)] fun r6 =>
    lenP (.list 1 []) fun r7 =>
    natP r7 fun n8 =>
    cutP 1 r6 none (some n8) fun r9 =>
    rt [.own true 3 1] [r9] k)
    (rt [.own true 3 1] [(.list 1 [])] k))
 | _, _ => False
abbrev slices_Grow_int_F_nil_e : Ent := ⟨[283, 999999], slices_Grow_int_F_nil⟩
theorem slices_Grow_int_F_nil_w : EntOK Tryz.prog TT slices_Grow_int_F_nil_e := ent_okM tabok (L := []) trivial (keep := []) (l := []) Tryz.func283 (by kernel_rfl) (sg := [.one (.own true 3 1)]) (by kernel_rfl) trivial fun av k h => by
  unfold slices_Grow_int_F_nil at h; split at h
  · exact Eq.mpr (by kernel_rfl) h
  · exact h.elim

def slices_Concat_int_r0 (v : List PV) (K : List PV → Prop) (x0k : PV → PV → PV → PV → PV → PV → Prop) : Prop :=
 un 6 (fun v0 v1 v2 v3 v4 v5 =>
  binP .lss v4 v3 fun r0 =>
  iteP r0
   (elemP 1 v2 v4 fun c1 =>
   lenP (atP c1 0) fun r2 =>
   binP .add v1 r2 fun r3 =>
   binP .lss r3 (I 0) fun r4 =>
   iteP r4
    (False)
    (binP .add v4 (I 1) fun r5 =>
    K [v0, r3, v2, v3, r5, v5]))
   (x0k v0 v1 v2 v3 v4 v5)) v
def slices_Concat_int_r1 (v : List PV) (K : List PV → Prop) (x0k : PV → PV → PV → PV → PV → PV → PV → PV → PV → PV → Prop) : Prop :=
 un 10 (fun v0 v1 v2 v3 v4 v5 v6 v7 v8 v9 =>
  binP .lss v7 v6 fun r0 =>
  iteP r0
   (elemP 1 v5 v7 fun c1 =>
   (flatRows (atP c1 0)) ∧ catP 1 v8 (atP c1 0) fun r2 =>
   binP .add v7 (I 1) fun r3 =>
   K [v0, v1, v2, v3, v4, v5, v6, r3, r2, v9])
   (x0k v0 v1 v2 v3 v4 v5 v6 v7 v8 v9)) v
def slices_Concat_int : GM
 | [.one a0], k => 
  lenP a0 fun r0 =>
  lp (fun L w => slices_Concat_int_r0 w L
   (fun q6 q7 q8 q9 q10 q11 => call slices_Grow_int_F_nil [.nil 3 1, .one q7] fun o12 =>
    lenP q6 fun r13 =>
    lp (fun L w => slices_Concat_int_r1 w L
     (fun q14 q15 q16 q17 q18 q19 q20 q21 q22 q23 => rt [.own true 3 1] [q22] k)) [q6, q7, q8, q9, q10, q6, r13, (I 0), (atP o12 0), q11])) [a0, (I 0), a0, r0, (I 0), (.list 1 [])]
 | _, _ => False
abbrev slices_Concat_int_e : Ent := ⟨[273], slices_Concat_int⟩
def slices_Concat_int_l : List LE := [⟨0, ⟨[(0, .one (.pv (.bool false))), (2, .one (.own 0)), (3, .one (.pv (.bool false))), (9, .one (.pv (.bool false))), (10, .one (.pv (.bool false))), (11, .one (.pv (.bool false)))], [], [(0, ⟨.deep, 3, 1, (.bool false)⟩)], 1, 36⟩, fun K k v => slices_Concat_int_r0 v K (fun x0 x1 x2 x3 x4 x5 => k (.exit 0) ⟨[(0, .one (.pv x0)), (2, .one (.own 0)), (3, .one (.pv x1)), (9, .one (.pv x2)), (10, .one (.pv x3)), (11, .one (.pv x4))], [], [(0, ⟨.deep, 3, 1, x5⟩)], 1, 36⟩)⟩,
  ⟨1, ⟨[(0, .one (.pv (.bool false))), (2, .one (.own 0)), (3, .one (.pv (.bool false))), (6, .one (.own 1)), (9, .one (.pv (.bool false))), (10, .one (.pv (.bool false))), (11, .one (.pv (.bool false))), (25, .one (.pv (.bool false))), (26, .one (.pv (.bool false))), (27, .one (.pv (.bool false)))], [], [(1, ⟨.deep, 3, 1, (.bool false)⟩), (0, ⟨.deep, 3, 1, (.bool false)⟩)], 2, 36⟩, fun K k v => slices_Concat_int_r1 v K (fun x0 x1 x2 x3 x4 x5 x6 x7 x8 x9 => k (.exit 2) ⟨[(0, .one (.pv x0)), (2, .one (.own 0)), (3, .one (.pv x1)), (6, .one (.own 1)), (9, .one (.pv x2)), (10, .one (.pv x3)), (11, .one (.pv x4)), (25, .one (.pv x5)), (26, .one (.pv x6)), (27, .one (.pv x7))], [], [(1, ⟨.deep, 3, 1, x8⟩), (0, ⟨.deep, 3, 1, x9⟩)], 2, 36⟩)⟩]
theorem slices_Concat_int_s : LEsOK (orac [slices_Grow_int_F_nil_e]) TT (kk [0, 2, 3, 6, 9, 10, 11, 25, 26, 27]) (sumsOf slices_Concat_int_l) Tryz.f273 slices_Concat_int_l := ⟨fun v K k h => by
  apply un_all h; exact fun v0 v1 v2 v3 v4 v5 h => Eq.mpr (by kernel_rfl) h
  , fun v K k h => by
  apply un_all h; exact fun v0 v1 v2 v3 v4 v5 v6 v7 v8 v9 h => Eq.mpr (by kernel_rfl) h
  , trivial⟩
theorem slices_Concat_int_w : EntOK Tryz.prog TT slices_Concat_int_e := ent_ok tabok (L := [slices_Grow_int_F_nil_e]) ⟨slices_Grow_int_F_nil_w, trivial⟩ (keep := (kk [0, 2, 3, 6, 9, 10, 11, 25, 26, 27])) (l := slices_Concat_int_l) Tryz.func273 (by kernel_rfl) (sg := [.one (.own true 3 1)]) (by kernel_rfl) slices_Concat_int_s fun av k h => by
  unfold slices_Concat_int at h; split at h
  · exact Eq.mpr (by kernel_rfl) h
  · exact h.elim

def impl_HeadInts : GM
 | [.agg u0], k => un 16 (fun a0 a1 a2 a3 a4 a5 a6 a7 a8 a9 a10 a11 a12 a13 a14 a15 => 
  (8 = 8) ∧ (8 ≤ 16777216) ∧ (1 = 1) ∧ (0 = 0) ∧ (1 = 1) ∧ (flatCond [.pv (I 0)] [.pv a0]) ∧ (1 = 1) ∧ (1 = 1) ∧ (flatCond [.pv (I 0)] [.pv a1]) ∧ (2 = 2) ∧ (1 = 1) ∧ (flatCond [.pv (I 0)] [.pv a2]) ∧ (3 = 3) ∧ (1 = 1) ∧ (flatCond [.pv (I 0)] [.pv a3]) ∧ (4 = 4) ∧ (1 = 1) ∧ (flatCond [.pv (I 0)] [.pv a4]) ∧ (5 = 5) ∧ (1 = 1) ∧ (flatCond [.pv (I 0)] [.pv a5]) ∧ (6 = 6) ∧ (1 = 1) ∧ (flatCond [.pv (I 0)] [.pv a6]) ∧ (7 = 7) ∧ (1 = 1) ∧ (flatCond [.pv (I 0)] [.pv a7]) ∧ call impl_KeysInts [.agg [a8, a9]] fun o0 =>
  call impl_KeysInts [.agg [a10, a11]] fun o1 =>
  (1 = 1) ∧ (1 ≤ 16777216) ∧ (1 = 1) ∧ (0 = 0) ∧ (1 = 1) ∧ (flatCond [.pv (I 0)] [.pv a12]) ∧ call impl_KeysInts [.agg [a13, a14]] fun o2 =>
  call impl_bit [.one a15] fun o3 =>
  (1 = 1) ∧ (1 ≤ 16777216) ∧ (1 = 1) ∧ (0 = 0) ∧ (1 = 1) ∧ (flatCond [.pv (I 0)] [.pv (atP o3 0)]) ∧ (6 = 6) ∧ (6 ≤ 16777216) ∧ (1 = 1) ∧ (0 = 0) ∧ (1 = 1) ∧ (flatCond [.nil 3 1] [.own 1]) ∧ (1 = 1) ∧ (1 = 1) ∧ (flatCond [.nil 3 1] [.own 2]) ∧ (2 = 2) ∧ (1 = 1) ∧ (flatCond [.nil 3 1] [.own 3]) ∧ (3 = 3) ∧ (1 = 1) ∧ (flatCond [.nil 3 1] [.own 4]) ∧ (4 = 4) ∧ (1 = 1) ∧ (flatCond [.nil 3 1] [.own 5]) ∧ (5 = 5) ∧ (1 = 1) ∧ (flatCond [.nil 3 1] [.own 7]) ∧ call slices_Concat_int [.one (.list 1 [[(.list 1 [[a0], [a1], [a2], [a3], [a4], [a5], [a6], [a7]])], [(atP o0 0)], [(atP o1 0)], [(.list 1 [[a12]])], [(atP o2 0)], [(.list 1 [[(atP o3 0)]])]])] fun o4 =>
  rt [.own true 3 1] [(atP o4 0)] k) u0
 | _, _ => False
abbrev impl_HeadInts_e : Ent := ⟨[262], impl_HeadInts⟩
theorem impl_HeadInts_w : EntOK Tryz.prog TT impl_HeadInts_e := ent_okF tabok (L := [impl_KeysInts_e, impl_bit_e, slices_Concat_int_e]) ⟨impl_KeysInts_w, impl_bit_w, slices_Concat_int_w, trivial⟩ (keep := []) (l := []) Tryz.func262 (by kernel_rfl) (sg := [.one (.own true 3 1)]) (by kernel_rfl) trivial fun av k h => by
  unfold impl_HeadInts at h; split at h
  · apply un_all h; clear h; intro a0 a1 a2 a3 a4 a5 a6 a7 a8 a9 a10 a11 a12 a13 a14 a15 h; exact Eq.mpr (by kernel_rfl) h
  · exact h.elim

def impl_KeyedHash : GM
 | [.one a0, .one a1], k => 
  (1 = 1) ∧ (1 ≤ 16777216) ∧ (1 = 1) ∧ (0 = 0) ∧ (1 = 1) ∧ (flatCond [.pv (I 0)] [.pv a0]) ∧ (1 = 1) ∧ (1 ≤ 16777216) ∧ (1 = 1) ∧ (0 = 0) ∧ (1 = 1) ∧ (flatCond [.pv (I 0)] [.pv a0]) ∧ (3 = 3) ∧ (3 ≤ 16777216) ∧ (1 = 1) ∧ (0 = 0) ∧ (1 = 1) ∧ (flatCond [.nil 3 1] [.own 0]) ∧ (1 = 1) ∧ (1 = 1) ∧ (2 = 2) ∧ (1 = 1) ∧ (flatCond [.nil 3 1] [.own 1]) ∧ call slices_Concat_int [.one (.list 1 [[(.list 1 [[a0]])], [a1], [(.list 1 [[a0]])]])] fun o0 =>
  call impl_Hash [.one (atP o0 0)] fun o1 =>
  rt [.sc] [(atP o1 0)] k
 | _, _ => False
abbrev impl_KeyedHash_e : Ent := ⟨[288], impl_KeyedHash⟩
theorem impl_KeyedHash_w : EntOK Tryz.prog TT impl_KeyedHash_e := ent_okF tabok (L := [slices_Concat_int_e, impl_Hash_e]) ⟨slices_Concat_int_w, impl_Hash_w, trivial⟩ (keep := []) (l := []) Tryz.func288 (by kernel_rfl) (sg := [.one (.sc)]) (by kernel_rfl) trivial fun av k h => by
  unfold impl_KeyedHash at h; split at h
  · exact Eq.mpr (by kernel_rfl) h
  · exact h.elim

def impl_TagOf : GM
 | [.one a0, .one a1], k => 
  (1 = 1) ∧ (1 ≤ 16777216) ∧ (1 = 1) ∧ (0 = 0) ∧ (1 = 1) ∧ (flatCond [.pv (I 0)] [.pv (I 223)]) ∧ (flatRows a1) ∧ catP 1 (.list 1 [[(I 223)]]) a1 fun r0 =>
  call impl_KeyedHash [.one a0, .one r0] fun o1 =>
  rt [.sc] [(atP o1 0)] k
 | _, _ => False
abbrev impl_TagOf_e : Ent := ⟨[287], impl_TagOf⟩
theorem impl_TagOf_w : EntOK Tryz.prog TT impl_TagOf_e := ent_okF tabok (L := [impl_KeyedHash_e]) ⟨impl_KeyedHash_w, trivial⟩ (keep := []) (l := []) Tryz.func287 (by kernel_rfl) (sg := [.one (.sc)]) (by kernel_rfl) trivial fun av k h => by
  unfold impl_TagOf at h; split at h
  · exact Eq.mpr (by kernel_rfl) h
  · exact h.elim

def impl_IsSigBy : GM
 | [.agg u0, .one a2], k => un 2 (fun a0 a1 => 
  call impl_isKey [.one a0] fun o0 =>
  iteP (atP o0 0)
   (call impl_TagOf [.one a0, .one a2] fun o1 =>
   binP .eql a1 (atP o1 0) fun r2 =>
   rt [.sc] [r2] k)
   (rt [.sc] [(.bool false)] k)) u0
 | _, _ => False
abbrev impl_IsSigBy_e : Ent := ⟨[282], impl_IsSigBy⟩
theorem impl_IsSigBy_w : EntOK Tryz.prog TT impl_IsSigBy_e := ent_okF tabok (L := [impl_isKey_e, impl_TagOf_e]) ⟨impl_isKey_w, impl_TagOf_w, trivial⟩ (keep := []) (l := []) Tryz.func282 (by kernel_rfl) (sg := [.one (.sc)]) (by kernel_rfl) trivial fun av k h => by
  unfold impl_IsSigBy at h; split at h
  · apply un_all h; clear h; intro a0 a1 h; exact Eq.mpr (by kernel_rfl) h
  · exact h.elim

def impl_CountSigs_1 : GM
 | [.agg u0, .ro (.cells u1), .ro (.cells u2)], k => un 2 (fun a0 a1 => un 1 (fun a2 => un 1 (fun a3 => 
  binP .eql a0 a2 fun r0 =>
  iteP r0
   (call impl_IsSigBy [.agg [a0, a1], .one a3] fun o1 =>
   rt [.sc] [(atP o1 0)] k)
   (rt [.sc] [(.bool false)] k)) u2) u1) u0
 | _, _ => False
abbrev impl_CountSigs_1_e : Ent := ⟨[281], impl_CountSigs_1⟩
theorem impl_CountSigs_1_w : EntOK Tryz.prog TT impl_CountSigs_1_e := ent_okF tabok (L := [impl_IsSigBy_e]) ⟨impl_IsSigBy_w, trivial⟩ (keep := []) (l := []) Tryz.func281 (by kernel_rfl) (sg := [.one (.sc)]) (by kernel_rfl) trivial fun av k h => by
  unfold impl_CountSigs_1 at h; split at h
  · apply un_all h; clear h; intro a0 a1 h; apply un_all h; clear h; intro a2 h; apply un_all h; clear h; intro a3 h; exact Eq.mpr (by kernel_rfl) h
  · exact h.elim

def slices_IndexFunc_Sig_F_impl_CountSigs_1_r0 (v : List PV) (K : List PV → Prop) (x0k : PV → Prop) (x1k : PV → PV → PV → PV → PV → PV → Prop) : Prop :=
 un 6 (fun v0 v1 v2 v3 v4 v5 =>
  binP .lss v5 v4 fun r0 =>
  iteP r0
   (elemP 2 v0 v5 fun c1 =>
   call impl_CountSigs_1 [.agg [(atP c1 0), (atP c1 1)], .ro (.cells [v1]), .ro (.cells [v2])] fun o2 =>
   iteP (atP o2 0)
    (x0k v5)
    (binP .add v5 (I 1) fun r3 =>
    K [v0, v1, v2, v3, v4, r3]))
   (x1k v0 v1 v2 v3 v4 v5)) v
def slices_IndexFunc_Sig_F_impl_CountSigs_1 : GM
 | [.one a0, .fn 281 [.cells u0, .cells u1]], k => un 1 (fun a1 => un 1 (fun a2 => 
  lenP a0 fun r0 =>
  lp (fun L w => slices_IndexFunc_Sig_F_impl_CountSigs_1_r0 w L
   (fun q4 => rt [.sc] [q4] k)
   (fun q5 q6 q7 q8 q9 q10 => rt [.sc] [(I (-1))] k)) [a0, a1, a2, (I 0), r0, (I 0)]) u1) u0
 | _, _ => False
abbrev slices_IndexFunc_Sig_F_impl_CountSigs_1_e : Ent := ⟨[286, 281], slices_IndexFunc_Sig_F_impl_CountSigs_1⟩
def slices_IndexFunc_Sig_F_impl_CountSigs_1_l : List LE := [⟨0, ⟨[(0, .one (.pv (.bool false))), (1, .one (.fn 281 [.ro (.cells [(.bool false)]), .ro (.cells [(.bool false)])])), (4, .one (.pv (.bool false))), (7, .one (.pv (.bool false))), (8, .one (.pv (.bool false)))], [], [], 0, 19⟩, fun K k v => slices_IndexFunc_Sig_F_impl_CountSigs_1_r0 v K (fun x0 => k .ret ⟨[(4, .one (.pv x0))], [], [], 1, 19⟩) (fun x0 x1 x2 x3 x4 x5 => k (.exit 0) ⟨[(0, .one (.pv x0)), (1, .one (.fn 281 [.ro (.cells [x1]), .ro (.cells [x2])])), (4, .one (.pv x3)), (7, .one (.pv x4)), (8, .one (.pv x5))], [], [], 0, 19⟩)⟩]
theorem slices_IndexFunc_Sig_F_impl_CountSigs_1_s : LEsOK (orac [impl_CountSigs_1_e]) TT (kk [0, 1, 4, 7, 8]) (sumsOf slices_IndexFunc_Sig_F_impl_CountSigs_1_l) Tryz.f286 slices_IndexFunc_Sig_F_impl_CountSigs_1_l := ⟨fun v K k h => by
  apply un_all h; exact fun v0 v1 v2 v3 v4 v5 h => Eq.mpr (by kernel_rfl) h
  , trivial⟩
theorem slices_IndexFunc_Sig_F_impl_CountSigs_1_w : EntOK Tryz.prog TT slices_IndexFunc_Sig_F_impl_CountSigs_1_e := ent_ok tabok (L := [impl_CountSigs_1_e]) ⟨impl_CountSigs_1_w, trivial⟩ (keep := (kk [0, 1, 4, 7, 8])) (l := slices_IndexFunc_Sig_F_impl_CountSigs_1_l) Tryz.func286 (by kernel_rfl) (sg := [.one (.sc)]) (by kernel_rfl) slices_IndexFunc_Sig_F_impl_CountSigs_1_s fun av k h => by
  unfold slices_IndexFunc_Sig_F_impl_CountSigs_1 at h; split at h
  · apply un_all h; clear h; intro a1 h; apply un_all h; clear h; intro a2 h; exact Eq.mpr (by kernel_rfl) h
  · exact h.elim

def slices_ContainsFunc_Sig_F_impl_CountSigs_1 : GM
 | [.one a0, .fn 281 [.cells u0, .cells u1]], k => un 1 (fun a1 => un 1 (fun a2 => 
  call slices_IndexFunc_Sig_F_impl_CountSigs_1 [.one a0, .fn 281 [.cells [a1], .cells [a2]]] fun o0 =>
  binP .geq (atP o0 0) (I 0) fun r1 =>
  rt [.sc] [r1] k) u1) u0
 | _, _ => False
abbrev slices_ContainsFunc_Sig_F_impl_CountSigs_1_e : Ent := ⟨[280, 281], slices_ContainsFunc_Sig_F_impl_CountSigs_1⟩
theorem slices_ContainsFunc_Sig_F_impl_CountSigs_1_w : EntOK Tryz.prog TT slices_ContainsFunc_Sig_F_impl_CountSigs_1_e := ent_ok tabok (L := [slices_IndexFunc_Sig_F_impl_CountSigs_1_e]) ⟨slices_IndexFunc_Sig_F_impl_CountSigs_1_w, trivial⟩ (keep := []) (l := []) Tryz.func280 (by kernel_rfl) (sg := [.one (.sc)]) (by kernel_rfl) trivial fun av k h => by
  unfold slices_ContainsFunc_Sig_F_impl_CountSigs_1 at h; split at h
  · apply un_all h; clear h; intro a1 h; apply un_all h; clear h; intro a2 h; exact Eq.mpr (by kernel_rfl) h
  · exact h.elim

def impl_CountSigs_r0 (v : List PV) (K : List PV → Prop) (x0k : PV → PV → PV → PV → PV → PV → PV → Prop) : Prop :=
 un 7 (fun v0 v1 v2 v3 v4 v5 v6 =>
  binP .lss v5 v4 fun r0 =>
  iteP r0
   (elemP 1 v3 v5 fun c1 =>
   call slices_ContainsFunc_Sig_F_impl_CountSigs_1 [.one v0, .fn 281 [.cells [(atP c1 0)], .cells [v6]]] fun o2 =>
   iteP (atP o2 0)
    (binP .add v2 (I 1) fun r3 =>
    binP .add v5 (I 1) fun r4 =>
    K [v0, v1, r3, v3, v4, r4, v6])
    (binP .add v5 (I 1) fun r5 =>
    K [v0, v1, v2, v3, v4, r5, v6]))
   (x0k v0 v1 v2 v3 v4 v5 v6)) v
def impl_CountSigs : GM
 | [.agg u0, .one a2, .one a3], k => un 2 (fun a0 a1 => 
  lenP a0 fun r0 =>
  lp (fun L w => impl_CountSigs_r0 w L
   (fun q6 q7 q8 q9 q10 q11 q12 => rt [.sc] [q8] k)) [a3, (I 0), (I 0), a0, r0, (I 0), a2]) u0
 | _, _ => False
abbrev impl_CountSigs_e : Ent := ⟨[272], impl_CountSigs⟩
def impl_CountSigs_l : List LE := [⟨0, ⟨[(2, .one (.pv (.bool false))), (4, .one (.ptr 1 0)), (6, .one (.pv (.bool false))), (7, .one (.pv (.bool false))), (11, .one (.pv (.bool false))), (12, .one (.pv (.bool false))), (13, .one (.pv (.bool false)))], [(1, [.pv (.bool false)])], [], 2, 24⟩, fun K k v => impl_CountSigs_r0 v K (fun x0 x1 x2 x3 x4 x5 x6 => k (.exit 0) ⟨[(2, .one (.pv x0)), (4, .one (.ptr 1 0)), (6, .one (.pv x1)), (7, .one (.pv x2)), (11, .one (.pv x3)), (12, .one (.pv x4)), (13, .one (.pv x5))], [(1, [.pv x6])], [], 2, 24⟩)⟩]
theorem impl_CountSigs_s : LEsOK (orac [slices_ContainsFunc_Sig_F_impl_CountSigs_1_e]) TT.nofl (kk [2, 4, 6, 7, 11, 12, 13]) (sumsOf impl_CountSigs_l) Tryz.f272 impl_CountSigs_l := ⟨fun v K k h => by
  apply un_all h; exact fun v0 v1 v2 v3 v4 v5 v6 h => Eq.mpr (by kernel_rfl) h
  , trivial⟩
theorem impl_CountSigs_w : EntOK Tryz.prog TT impl_CountSigs_e := ent_okF tabok (L := [slices_ContainsFunc_Sig_F_impl_CountSigs_1_e]) ⟨slices_ContainsFunc_Sig_F_impl_CountSigs_1_w, trivial⟩ (keep := (kk [2, 4, 6, 7, 11, 12, 13])) (l := impl_CountSigs_l) Tryz.func272 (by kernel_rfl) (sg := [.one (.sc)]) (by kernel_rfl) impl_CountSigs_s fun av k h => by
  unfold impl_CountSigs at h; split at h
  · apply un_all h; clear h; intro a0 a1 h; exact Eq.mpr (by kernel_rfl) h
  · exact h.elim

def impl_IsSigned : GM
 | [.agg u0, .one a2, .one a3], k => un 2 (fun a0 a1 => 
  call impl_IsKeys [.agg [a0, a1]] fun o0 =>
  iteP (atP o0 0)
   (call impl_CountSigs [.agg [a0, a1], .one a2, .one a3] fun o1 =>
   binP .geq (atP o1 0) a1 fun r2 =>
   rt [.sc] [r2] k)
   (rt [.sc] [(.bool false)] k)) u0
 | _, _ => False
abbrev impl_IsSigned_e : Ent := ⟨[261], impl_IsSigned⟩
theorem impl_IsSigned_w : EntOK Tryz.prog TT impl_IsSigned_e := ent_okF tabok (L := [impl_IsKeys_e, impl_CountSigs_e]) ⟨impl_IsKeys_w, impl_CountSigs_w, trivial⟩ (keep := []) (l := []) Tryz.func261 (by kernel_rfl) (sg := [.one (.sc)]) (by kernel_rfl) trivial fun av k h => by
  unfold impl_IsSigned at h; split at h
  · apply un_all h; clear h; intro a0 a1 h; exact Eq.mpr (by kernel_rfl) h
  · exact h.elim

def impl_Signed_isSignedBy : GM
 | [.agg u0, .agg u1], k => un 17 (fun a0 a1 a2 a3 a4 a5 a6 a7 a8 a9 a10 a11 a12 a13 a14 a15 a16 => un 2 (fun a17 a18 => 
  call impl_HeadInts [.agg [a0, a1, a2, a3, a4, a5, a6, a7, a8, a9, a10, a11, a12, a13, a14, a15]] fun o0 =>
  call impl_IsSigned [.agg [a17, a18], .one (atP o0 0), .one a16] fun o1 =>
  rt [.sc] [(atP o1 0)] k) u1) u0
 | _, _ => False
abbrev impl_Signed_isSignedBy_e : Ent := ⟨[243], impl_Signed_isSignedBy⟩
theorem impl_Signed_isSignedBy_w : EntOK Tryz.prog TT impl_Signed_isSignedBy_e := ent_okF tabok (L := [impl_HeadInts_e, impl_IsSigned_e]) ⟨impl_HeadInts_w, impl_IsSigned_w, trivial⟩ (keep := []) (l := []) Tryz.func243 (by kernel_rfl) (sg := [.one (.sc)]) (by kernel_rfl) trivial fun av k h => by
  unfold impl_Signed_isSignedBy at h; split at h
  · apply un_all h; clear h; intro a0 a1 a2 a3 a4 a5 a6 a7 a8 a9 a10 a11 a12 a13 a14 a15 a16 h; apply un_all h; clear h; intro a17 a18 h; exact Eq.mpr (by kernel_rfl) h
  · exact h.elim

def impl_IsFirst : GM
 | [.agg u0], k => un 17 (fun a0 a1 a2 a3 a4 a5 a6 a7 a8 a9 a10 a11 a12 a13 a14 a15 a16 => 
  call impl_IsHead [.agg [a0, a1, a2, a3, a4, a5, a6, a7, a8, a9, a10, a11, a12, a13, a14, a15]] fun o0 =>
  iteP (atP o0 0)
   (binP .eql a1 (I 0) fun r1 =>
   iteP r1
    (binP .eql a2 (I 1) fun r2 =>
    iteP r2
     (unP .not a15 fun r3 =>
     iteP r3
      (call impl_ZoneOf [.agg [a8, a9], .one a7] fun o4 =>
      binP .eql a0 (atP o4 0) fun r5 =>
      iteP r5
       (call impl_Signed_isSignedBy [.agg [a0, a1, a2, a3, a4, a5, a6, a7, a8, a9, a10, a11, a12, a13, a14, a15, a16], .agg [a8, a9]] fun o6 =>
       rt [.sc] [(atP o6 0)] k)
       (rt [.sc] [(.bool false)] k))
      (rt [.sc] [(.bool false)] k))
     (rt [.sc] [(.bool false)] k))
    (rt [.sc] [(.bool false)] k))
   (rt [.sc] [(.bool false)] k)) u0
 | _, _ => False
abbrev impl_IsFirst_e : Ent := ⟨[227], impl_IsFirst⟩
theorem impl_IsFirst_w : EntOK Tryz.prog TT impl_IsFirst_e := ent_okF tabok (L := [impl_IsHead_e, impl_ZoneOf_e, impl_Signed_isSignedBy_e]) ⟨impl_IsHead_w, impl_ZoneOf_w, impl_Signed_isSignedBy_w, trivial⟩ (keep := []) (l := []) Tryz.func227 (by kernel_rfl) (sg := [.one (.sc)]) (by kernel_rfl) trivial fun av k h => by
  unfold impl_IsFirst at h; split at h
  · apply un_all h; clear h; intro a0 a1 a2 a3 a4 a5 a6 a7 a8 a9 a10 a11 a12 a13 a14 a15 a16 h; exact Eq.mpr (by kernel_rfl) h
  · exact h.elim

def impl_HeadDigest : GM
 | [.agg u0], k => un 16 (fun a0 a1 a2 a3 a4 a5 a6 a7 a8 a9 a10 a11 a12 a13 a14 a15 => 
  (1 = 1) ∧ (1 ≤ 16777216) ∧ (1 = 1) ∧ (0 = 0) ∧ (1 = 1) ∧ (flatCond [.pv (I 0)] [.pv (I 233)]) ∧ call impl_HeadInts [.agg [a0, a1, a2, a3, a4, a5, a6, a7, a8, a9, a10, a11, a12, a13, a14, a15]] fun o0 =>
  catP 1 (.list 1 [[(I 233)]]) (atP o0 0) fun r1 =>
  call impl_Hash [.one r1] fun o2 =>
  rt [.sc] [(atP o2 0)] k) u0
 | _, _ => False
abbrev impl_HeadDigest_e : Ent := ⟨[275], impl_HeadDigest⟩
theorem impl_HeadDigest_w : EntOK Tryz.prog TT impl_HeadDigest_e := ent_okF tabok (L := [impl_HeadInts_e, impl_Hash_e]) ⟨impl_HeadInts_w, impl_Hash_w, trivial⟩ (keep := []) (l := []) Tryz.func275 (by kernel_rfl) (sg := [.one (.sc)]) (by kernel_rfl) trivial fun av k h => by
  unfold impl_HeadDigest at h; split at h
  · apply un_all h; clear h; intro a0 a1 a2 a3 a4 a5 a6 a7 a8 a9 a10 a11 a12 a13 a14 a15 h; exact Eq.mpr (by kernel_rfl) h
  · exact h.elim

def impl_isNext : GM
 | [.agg u0, .agg u1], k => un 16 (fun a0 a1 a2 a3 a4 a5 a6 a7 a8 a9 a10 a11 a12 a13 a14 a15 => un 16 (fun a16 a17 a18 a19 a20 a21 a22 a23 a24 a25 a26 a27 a28 a29 a30 a31 => 
  binP .eql a16 a0 fun r0 =>
  iteP r0
   (binP .add a1 (I 1) fun r1 =>
   binP .eql a17 r1 fun r2 =>
   iteP r2
    (call impl_HeadDigest [.agg [a0, a1, a2, a3, a4, a5, a6, a7, a8, a9, a10, a11, a12, a13, a14, a15]] fun o3 =>
    binP .eql a23 (atP o3 0) fun r4 =>
    iteP r4
     (binP .geq a19 a3 fun r5 =>
     rt [.sc] [r5] k)
     (rt [.sc] [(.bool false)] k))
    (rt [.sc] [(.bool false)] k))
   (rt [.sc] [(.bool false)] k)) u1) u0
 | _, _ => False
abbrev impl_isNext_e : Ent := ⟨[263], impl_isNext⟩
theorem impl_isNext_w : EntOK Tryz.prog TT impl_isNext_e := ent_okF tabok (L := [impl_HeadDigest_e]) ⟨impl_HeadDigest_w, trivial⟩ (keep := []) (l := []) Tryz.func263 (by kernel_rfl) (sg := [.one (.sc)]) (by kernel_rfl) trivial fun av k h => by
  unfold impl_isNext at h; split at h
  · apply un_all h; clear h; intro a0 a1 a2 a3 a4 a5 a6 a7 a8 a9 a10 a11 a12 a13 a14 a15 h; apply un_all h; clear h; intro a16 a17 a18 a19 a20 a21 a22 a23 a24 a25 a26 a27 a28 a29 a30 a31 h; exact Eq.mpr (by kernel_rfl) h
  · exact h.elim

def impl_ownerCode : GM
 | [.agg u0, .agg u1], k => un 16 (fun a0 a1 a2 a3 a4 a5 a6 a7 a8 a9 a10 a11 a12 a13 a14 a15 => un 17 (fun a16 a17 a18 a19 a20 a21 a22 a23 a24 a25 a26 a27 a28 a29 a30 a31 a32 => 
  iteP a15
   (rt [.sc] [(I 4)] k)
   (iteP a31
    (rt [.sc] [(I 6)] k)
    (call impl_Signed_isSignedBy [.agg [a16, a17, a18, a19, a20, a21, a22, a23, a24, a25, a26, a27, a28, a29, a30, a31, a32], .agg [a8, a9]] fun o0 =>
    unP .not (atP o0 0) fun r1 =>
    iteP r1
     (rt [.sc] [(I 7)] k)
     (rt [.sc] [(I 1)] k)))) u1) u0
 | _, _ => False
abbrev impl_ownerCode_e : Ent := ⟨[264], impl_ownerCode⟩
theorem impl_ownerCode_w : EntOK Tryz.prog TT impl_ownerCode_e := ent_okF tabok (L := [impl_Signed_isSignedBy_e]) ⟨impl_Signed_isSignedBy_w, trivial⟩ (keep := []) (l := []) Tryz.func264 (by kernel_rfl) (sg := [.one (.sc)]) (by kernel_rfl) trivial fun av k h => by
  unfold impl_ownerCode at h; split at h
  · apply un_all h; clear h; intro a0 a1 a2 a3 a4 a5 a6 a7 a8 a9 a10 a11 a12 a13 a14 a15 h; apply un_all h; clear h; intro a16 a17 a18 a19 a20 a21 a22 a23 a24 a25 a26 a27 a28 a29 a30 a31 a32 h; exact Eq.mpr (by kernel_rfl) h
  · exact h.elim

def slices_Equal_int_r0 (v : List PV) (K : List PV → Prop) (x0k : Prop) (x1k : PV → PV → PV → PV → PV → Prop) : Prop :=
 un 5 (fun v0 v1 v2 v3 v4 =>
  binP .lss v4 v3 fun r0 =>
  iteP r0
   (elemP 1 v0 v4 fun c1 =>
   elemP 1 v1 v4 fun c2 =>
   binP .neq (atP c1 0) (atP c2 0) fun r3 =>
   iteP r3
    (x0k)
    (binP .add v4 (I 1) fun r4 =>
    K [v0, v1, v2, v3, r4]))
   (x1k v0 v1 v2 v3 v4)) v
def slices_Equal_int : GM
 | [.one a0, .one a1], k => 
  lenP a0 fun r0 =>
  lenP a1 fun r1 =>
  binP .neq r0 r1 fun r2 =>
  iteP r2
   (rt [.sc] [(.bool false)] k)
   (lenP a0 fun r3 =>
   lp (fun L w => slices_Equal_int_r0 w L
    (rt [.sc] [(.bool false)] k)
    (fun q5 q6 q7 q8 q9 => rt [.sc] [(.bool true)] k)) [a0, a1, (.bool false), r3, (I 0)])
 | _, _ => False
abbrev slices_Equal_int_e : Ent := ⟨[284], slices_Equal_int⟩
def slices_Equal_int_l : List LE := [⟨0, ⟨[(0, .one (.pv (.bool false))), (1, .one (.pv (.bool false))), (4, .one (.pv (.bool false))), (12, .one (.pv (.bool false))), (13, .one (.pv (.bool false)))], [], [], 0, 26⟩, fun K k v => slices_Equal_int_r0 v K (k .ret ⟨[(4, .one (.kb false))], [], [], 0, 26⟩) (fun x0 x1 x2 x3 x4 => k (.exit 0) ⟨[(0, .one (.pv x0)), (1, .one (.pv x1)), (4, .one (.pv x2)), (12, .one (.pv x3)), (13, .one (.pv x4))], [], [], 0, 26⟩)⟩]
theorem slices_Equal_int_s : LEsOK (orac []) TT (kk [0, 1, 4, 12, 13]) (sumsOf slices_Equal_int_l) Tryz.f284 slices_Equal_int_l := ⟨fun v K k h => by
  apply un_all h; exact fun v0 v1 v2 v3 v4 h => Eq.mpr (by kernel_rfl) h
  , trivial⟩
theorem slices_Equal_int_w : EntOK Tryz.prog TT slices_Equal_int_e := ent_ok tabok (L := []) trivial (keep := (kk [0, 1, 4, 12, 13])) (l := slices_Equal_int_l) Tryz.func284 (by kernel_rfl) (sg := [.one (.sc)]) (by kernel_rfl) slices_Equal_int_s fun av k h => by
  unfold slices_Equal_int at h; split at h
  · exact Eq.mpr (by kernel_rfl) h
  · exact h.elim

def impl_EqualKeys : GM
 | [.agg u0, .agg u1], k => un 2 (fun a0 a1 => un 2 (fun a2 a3 => 
  call slices_Equal_int [.one a0, .one a2] fun o0 =>
  iteP (atP o0 0)
   (binP .eql a1 a3 fun r1 =>
   rt [.sc] [r1] k)
   (rt [.sc] [(.bool false)] k)) u1) u0
 | _, _ => False
abbrev impl_EqualKeys_e : Ent := ⟨[276], impl_EqualKeys⟩
theorem impl_EqualKeys_w : EntOK Tryz.prog TT impl_EqualKeys_e := ent_okF tabok (L := [slices_Equal_int_e]) ⟨slices_Equal_int_w, trivial⟩ (keep := []) (l := []) Tryz.func276 (by kernel_rfl) (sg := [.one (.sc)]) (by kernel_rfl) trivial fun av k h => by
  unfold impl_EqualKeys at h; split at h
  · apply un_all h; clear h; intro a0 a1 h; apply un_all h; clear h; intro a2 a3 h; exact Eq.mpr (by kernel_rfl) h
  · exact h.elim

def impl_SameContents : GM
 | [.agg u0, .agg u1], k => un 16 (fun a0 a1 a2 a3 a4 a5 a6 a7 a8 a9 a10 a11 a12 a13 a14 a15 => un 16 (fun a16 a17 a18 a19 a20 a21 a22 a23 a24 a25 a26 a27 a28 a29 a30 a31 => 
  binP .eql a5 a21 fun r0 =>
  iteP r0
   (binP .eql a6 a22 fun r1 =>
   rt [.sc] [r1] k)
   (rt [.sc] [(.bool false)] k)) u1) u0
 | _, _ => False
abbrev impl_SameContents_e : Ent := ⟨[277], impl_SameContents⟩
theorem impl_SameContents_w : EntOK Tryz.prog TT impl_SameContents_e := ent_okF tabok (L := []) trivial (keep := []) (l := []) Tryz.func277 (by kernel_rfl) (sg := [.one (.sc)]) (by kernel_rfl) trivial fun av k h => by
  unfold impl_SameContents at h; split at h
  · apply un_all h; clear h; intro a0 a1 a2 a3 a4 a5 a6 a7 a8 a9 a10 a11 a12 a13 a14 a15 h; apply un_all h; clear h; intro a16 a17 a18 a19 a20 a21 a22 a23 a24 a25 a26 a27 a28 a29 a30 a31 h; exact Eq.mpr (by kernel_rfl) h
  · exact h.elim

def impl_heirCode : GM
 | [.agg u0, .agg u1], k => un 16 (fun a0 a1 a2 a3 a4 a5 a6 a7 a8 a9 a10 a11 a12 a13 a14 a15 => un 17 (fun a16 a17 a18 a19 a20 a21 a22 a23 a24 a25 a26 a27 a28 a29 a30 a31 a32 => 
  iteP a15
   (rt [.sc] [(I 4)] k)
   (call impl_NoKeys [.agg [a10, a11]] fun o0 =>
   iteP (atP o0 0)
    (rt [.sc] [(I 5)] k)
    (binP .add a4 a12 fun r1 =>
    binP .lss a19 r1 fun r2 =>
    iteP r2
     (rt [.sc] [(I 5)] k)
     (iteP a31
      (rt [.sc] [(I 6)] k)
      (call impl_EqualKeys [.agg [a24, a25], .agg [a10, a11]] fun o3 =>
      unP .not (atP o3 0) fun r4 =>
      iteP r4
       (rt [.sc] [(I 6)] k)
       (call impl_SameContents [.agg [a16, a17, a18, a19, a20, a21, a22, a23, a24, a25, a26, a27, a28, a29, a30, a31], .agg [a0, a1, a2, a3, a4, a5, a6, a7, a8, a9, a10, a11, a12, a13, a14, a15]] fun o5 =>
       unP .not (atP o5 0) fun r6 =>
       iteP r6
        (rt [.sc] [(I 6)] k)
        (call impl_Signed_isSignedBy [.agg [a16, a17, a18, a19, a20, a21, a22, a23, a24, a25, a26, a27, a28, a29, a30, a31, a32], .agg [a10, a11]] fun o7 =>
        unP .not (atP o7 0) fun r8 =>
        iteP r8
         (rt [.sc] [(I 7)] k)
         (rt [.sc] [(I 1)] k)))))))) u1) u0
 | _, _ => False
abbrev impl_heirCode_e : Ent := ⟨[265], impl_heirCode⟩
theorem impl_heirCode_w : EntOK Tryz.prog TT impl_heirCode_e := ent_okF tabok (L := [impl_NoKeys_e, impl_EqualKeys_e, impl_SameContents_e, impl_Signed_isSignedBy_e]) ⟨impl_NoKeys_w, impl_EqualKeys_w, impl_SameContents_w, impl_Signed_isSignedBy_w, trivial⟩ (keep := []) (l := []) Tryz.func265 (by kernel_rfl) (sg := [.one (.sc)]) (by kernel_rfl) trivial fun av k h => by
  unfold impl_heirCode at h; split at h
  · apply un_all h; clear h; intro a0 a1 a2 a3 a4 a5 a6 a7 a8 a9 a10 a11 a12 a13 a14 a15 h; apply un_all h; clear h; intro a16 a17 a18 a19 a20 a21 a22 a23 a24 a25 a26 a27 a28 a29 a30 a31 a32 h; exact Eq.mpr (by kernel_rfl) h
  · exact h.elim

def impl_judgeCode : GM
 | [.agg u0, .agg u1], k => un 16 (fun a0 a1 a2 a3 a4 a5 a6 a7 a8 a9 a10 a11 a12 a13 a14 a15 => un 17 (fun a16 a17 a18 a19 a20 a21 a22 a23 a24 a25 a26 a27 a28 a29 a30 a31 a32 => 
  call impl_SameContents [.agg [a16, a17, a18, a19, a20, a21, a22, a23, a24, a25, a26, a27, a28, a29, a30, a31], .agg [a0, a1, a2, a3, a4, a5, a6, a7, a8, a9, a10, a11, a12, a13, a14, a15]] fun o0 =>
  iteP (atP o0 0)
   (call impl_EqualKeys [.agg [a29, a30], .agg [a13, a14]] fun o1 =>
   iteP (atP o1 0)
    (call impl_EqualKeys [.agg [a26, a27], .agg [a10, a11]] fun o2 =>
    iteP (atP o2 0)
     (binP .eql a28 a12 fun r3 =>
     call impl_NoKeys [.agg [a13, a14]] fun o4 =>
     iteP (atP o4 0)
      (rt [.sc] [(I 5)] k)
      (boolP .eql a31 a15 fun r5 =>
      iteP r5
       (rt [.sc] [(I 6)] k)
       (unP .not r3 fun r6 =>
       iteP r6
        (rt [.sc] [(I 6)] k)
        (iteP a31
         (call impl_EqualKeys [.agg [a24, a25], .agg [a8, a9]] fun o7 =>
         unP .not (atP o7 0) fun r8 =>
         iteP r8
          (rt [.sc] [(I 6)] k)
          (call impl_Signed_isSignedBy [.agg [a16, a17, a18, a19, a20, a21, a22, a23, a24, a25, a26, a27, a28, a29, a30, a31, a32], .agg [a13, a14]] fun o9 =>
          unP .not (atP o9 0) fun r10 =>
          iteP r10
           (rt [.sc] [(I 7)] k)
           (rt [.sc] [(I 1)] k)))
         (call impl_Signed_isSignedBy [.agg [a16, a17, a18, a19, a20, a21, a22, a23, a24, a25, a26, a27, a28, a29, a30, a31, a32], .agg [a13, a14]] fun o11 =>
         unP .not (atP o11 0) fun r12 =>
         iteP r12
          (rt [.sc] [(I 7)] k)
          (rt [.sc] [(I 1)] k))))))
     (call impl_NoKeys [.agg [a13, a14]] fun o13 =>
     iteP (atP o13 0)
      (rt [.sc] [(I 5)] k)
      (boolP .eql a31 a15 fun r14 =>
      iteP r14
       (rt [.sc] [(I 6)] k)
       (rt [.sc] [(I 6)] k))))
    (call impl_NoKeys [.agg [a13, a14]] fun o15 =>
    iteP (atP o15 0)
     (rt [.sc] [(I 5)] k)
     (boolP .eql a31 a15 fun r16 =>
     iteP r16
      (rt [.sc] [(I 6)] k)
      (rt [.sc] [(I 6)] k))))
   (call impl_NoKeys [.agg [a13, a14]] fun o17 =>
   iteP (atP o17 0)
    (rt [.sc] [(I 5)] k)
    (boolP .eql a31 a15 fun r18 =>
    iteP r18
     (rt [.sc] [(I 6)] k)
     (rt [.sc] [(I 6)] k)))) u1) u0
 | _, _ => False
abbrev impl_judgeCode_e : Ent := ⟨[266], impl_judgeCode⟩
theorem impl_judgeCode_w : EntOK Tryz.prog TT impl_judgeCode_e := ent_okF tabok (L := [impl_SameContents_e, impl_EqualKeys_e, impl_NoKeys_e, impl_Signed_isSignedBy_e]) ⟨impl_SameContents_w, impl_EqualKeys_w, impl_NoKeys_w, impl_Signed_isSignedBy_w, trivial⟩ (keep := []) (l := []) Tryz.func266 (by kernel_rfl) (sg := [.one (.sc)]) (by kernel_rfl) trivial fun av k h => by
  unfold impl_judgeCode at h; split at h
  · apply un_all h; clear h; intro a0 a1 a2 a3 a4 a5 a6 a7 a8 a9 a10 a11 a12 a13 a14 a15 h; apply un_all h; clear h; intro a16 a17 a18 a19 a20 a21 a22 a23 a24 a25 a26 a27 a28 a29 a30 a31 a32 h; exact Eq.mpr (by kernel_rfl) h
  · exact h.elim

def impl_NextCode : GM
 | [.agg u0, .agg u1], k => un 16 (fun a0 a1 a2 a3 a4 a5 a6 a7 a8 a9 a10 a11 a12 a13 a14 a15 => un 17 (fun a16 a17 a18 a19 a20 a21 a22 a23 a24 a25 a26 a27 a28 a29 a30 a31 a32 => 
  call impl_IsHead [.agg [a0, a1, a2, a3, a4, a5, a6, a7, a8, a9, a10, a11, a12, a13, a14, a15]] fun o0 =>
  unP .not (atP o0 0) fun r1 =>
  iteP r1
   (rt [.sc] [(I 2)] k)
   (call impl_IsHead [.agg [a16, a17, a18, a19, a20, a21, a22, a23, a24, a25, a26, a27, a28, a29, a30, a31]] fun o2 =>
   unP .not (atP o2 0) fun r3 =>
   iteP r3
    (rt [.sc] [(I 2)] k)
    (call impl_isNext [.agg [a0, a1, a2, a3, a4, a5, a6, a7, a8, a9, a10, a11, a12, a13, a14, a15], .agg [a16, a17, a18, a19, a20, a21, a22, a23, a24, a25, a26, a27, a28, a29, a30, a31]] fun o4 =>
    unP .not (atP o4 0) fun r5 =>
    iteP r5
     (rt [.sc] [(I 3)] k)
     (binP .eql a18 (I 1) fun r6 =>
     iteP r6
      (call impl_ownerCode [.agg [a0, a1, a2, a3, a4, a5, a6, a7, a8, a9, a10, a11, a12, a13, a14, a15], .agg [a16, a17, a18, a19, a20, a21, a22, a23, a24, a25, a26, a27, a28, a29, a30, a31, a32]] fun o7 =>
      rt [.sc] [(atP o7 0)] k)
      (binP .eql a18 (I 2) fun r8 =>
      iteP r8
       (call impl_heirCode [.agg [a0, a1, a2, a3, a4, a5, a6, a7, a8, a9, a10, a11, a12, a13, a14, a15], .agg [a16, a17, a18, a19, a20, a21, a22, a23, a24, a25, a26, a27, a28, a29, a30, a31, a32]] fun o9 =>
       rt [.sc] [(atP o9 0)] k)
       (call impl_judgeCode [.agg [a0, a1, a2, a3, a4, a5, a6, a7, a8, a9, a10, a11, a12, a13, a14, a15], .agg [a16, a17, a18, a19, a20, a21, a22, a23, a24, a25, a26, a27, a28, a29, a30, a31, a32]] fun o10 =>
       rt [.sc] [(atP o10 0)] k)))))) u1) u0
 | _, _ => False
abbrev impl_NextCode_e : Ent := ⟨[244], impl_NextCode⟩
theorem impl_NextCode_w : EntOK Tryz.prog TT impl_NextCode_e := ent_okF tabok (L := [impl_IsHead_e, impl_isNext_e, impl_ownerCode_e, impl_heirCode_e, impl_judgeCode_e]) ⟨impl_IsHead_w, impl_isNext_w, impl_ownerCode_w, impl_heirCode_w, impl_judgeCode_w, trivial⟩ (keep := []) (l := []) Tryz.func244 (by kernel_rfl) (sg := [.one (.sc)]) (by kernel_rfl) trivial fun av k h => by
  unfold impl_NextCode at h; split at h
  · apply un_all h; clear h; intro a0 a1 a2 a3 a4 a5 a6 a7 a8 a9 a10 a11 a12 a13 a14 a15 h; apply un_all h; clear h; intro a16 a17 a18 a19 a20 a21 a22 a23 a24 a25 a26 a27 a28 a29 a30 a31 a32 h; exact Eq.mpr (by kernel_rfl) h
  · exact h.elim

def impl_MayFollow : GM
 | [.agg u0, .agg u1], k => un 16 (fun a0 a1 a2 a3 a4 a5 a6 a7 a8 a9 a10 a11 a12 a13 a14 a15 => un 17 (fun a16 a17 a18 a19 a20 a21 a22 a23 a24 a25 a26 a27 a28 a29 a30 a31 a32 => 
  call impl_NextCode [.agg [a0, a1, a2, a3, a4, a5, a6, a7, a8, a9, a10, a11, a12, a13, a14, a15], .agg [a16, a17, a18, a19, a20, a21, a22, a23, a24, a25, a26, a27, a28, a29, a30, a31, a32]] fun o0 =>
  binP .eql (atP o0 0) (I 1) fun r1 =>
  rt [.sc] [r1] k) u1) u0
 | _, _ => False
abbrev impl_MayFollow_e : Ent := ⟨[228], impl_MayFollow⟩
theorem impl_MayFollow_w : EntOK Tryz.prog TT impl_MayFollow_e := ent_okF tabok (L := [impl_NextCode_e]) ⟨impl_NextCode_w, trivial⟩ (keep := []) (l := []) Tryz.func228 (by kernel_rfl) (sg := [.one (.sc)]) (by kernel_rfl) trivial fun av k h => by
  unfold impl_MayFollow at h; split at h
  · apply un_all h; clear h; intro a0 a1 a2 a3 a4 a5 a6 a7 a8 a9 a10 a11 a12 a13 a14 a15 h; apply un_all h; clear h; intro a16 a17 a18 a19 a20 a21 a22 a23 a24 a25 a26 a27 a28 a29 a30 a31 a32 h; exact Eq.mpr (by kernel_rfl) h
  · exact h.elim

def impl_FirstWrong_r0 (v : List PV) (K : List PV → Prop) (x0k : PV → PV → PV → PV → PV → PV → PV → PV → PV → PV → PV → PV → PV → PV → PV → PV → PV → PV → Prop) (x1k : PV → PV → PV → PV → PV → PV → PV → PV → PV → PV → PV → PV → PV → PV → PV → PV → PV → PV → Prop) (x2k : PV → PV → PV → PV → PV → Prop) : Prop :=
 un 5 (fun v0 v1 v2 v3 v4 =>
  binP .lss v4 v3 fun r0 =>
  iteP r0
   (elemP 17 v2 v4 fun c1 =>
   binP .eql v4 (I 0) fun r2 =>
   iteP r2
    (call impl_IsFirst [.agg [(atP c1 0), (atP c1 1), (atP c1 2), (atP c1 3), (atP c1 4), (atP c1 5), (atP c1 6), (atP c1 7), (atP c1 8), (atP c1 9), (atP c1 10), (atP c1 11), (atP c1 12), (atP c1 13), (atP c1 14), (atP c1 15), (atP c1 16)]] fun o3 =>
    unP .not (atP o3 0) fun r4 =>
    iteP r4
     (x0k v4 (atP c1 0) (atP c1 1) (atP c1 2) (atP c1 3) (atP c1 4) (atP c1 5) (atP c1 6) (atP c1 7) (atP c1 8) (atP c1 9) (atP c1 10) (atP c1 11) (atP c1 12) (atP c1 13) (atP c1 14) (atP c1 15) (atP c1 16))
     (binP .gtr v4 (I 0) fun r5 =>
     iteP r5
      (binP .sub v4 (I 1) fun r6 =>
      elemP 17 v0 r6 fun c7 =>
      call impl_MayFollow [.agg [(atP c7 0), (atP c7 1), (atP c7 2), (atP c7 3), (atP c7 4), (atP c7 5), (atP c7 6), (atP c7 7), (atP c7 8), (atP c7 9), (atP c7 10), (atP c7 11), (atP c7 12), (atP c7 13), (atP c7 14), (atP c7 15)], .agg [(atP c1 0), (atP c1 1), (atP c1 2), (atP c1 3), (atP c1 4), (atP c1 5), (atP c1 6), (atP c1 7), (atP c1 8), (atP c1 9), (atP c1 10), (atP c1 11), (atP c1 12), (atP c1 13), (atP c1 14), (atP c1 15), (atP c1 16)]] fun o8 =>
      unP .not (atP o8 0) fun r9 =>
      iteP r9
       (x1k v4 (atP c1 0) (atP c1 1) (atP c1 2) (atP c1 3) (atP c1 4) (atP c1 5) (atP c1 6) (atP c1 7) (atP c1 8) (atP c1 9) (atP c1 10) (atP c1 11) (atP c1 12) (atP c1 13) (atP c1 14) (atP c1 15) (atP c1 16))
       (binP .add v4 (I 1) fun r10 =>
       K [v0, v1, v2, v3, r10]))
      (binP .add v4 (I 1) fun r11 =>
      K [v0, v1, v2, v3, r11])))
    (binP .gtr v4 (I 0) fun r12 =>
    iteP r12
     (binP .sub v4 (I 1) fun r13 =>
     elemP 17 v0 r13 fun c14 =>
     call impl_MayFollow [.agg [(atP c14 0), (atP c14 1), (atP c14 2), (atP c14 3), (atP c14 4), (atP c14 5), (atP c14 6), (atP c14 7), (atP c14 8), (atP c14 9), (atP c14 10), (atP c14 11), (atP c14 12), (atP c14 13), (atP c14 14), (atP c14 15)], .agg [(atP c1 0), (atP c1 1), (atP c1 2), (atP c1 3), (atP c1 4), (atP c1 5), (atP c1 6), (atP c1 7), (atP c1 8), (atP c1 9), (atP c1 10), (atP c1 11), (atP c1 12), (atP c1 13), (atP c1 14), (atP c1 15), (atP c1 16)]] fun o15 =>
     unP .not (atP o15 0) fun r16 =>
     iteP r16
      (x0k v4 (atP c1 0) (atP c1 1) (atP c1 2) (atP c1 3) (atP c1 4) (atP c1 5) (atP c1 6) (atP c1 7) (atP c1 8) (atP c1 9) (atP c1 10) (atP c1 11) (atP c1 12) (atP c1 13) (atP c1 14) (atP c1 15) (atP c1 16))
      (binP .add v4 (I 1) fun r17 =>
      K [v0, v1, v2, v3, r17]))
     (binP .add v4 (I 1) fun r18 =>
     K [v0, v1, v2, v3, r18])))
   (x2k v0 v1 v2 v3 v4)) v
def impl_FirstWrong : GM
 | [.one a0], k => 
  lenP a0 fun r0 =>
  lp (fun L w => impl_FirstWrong_r0 w L
   (fun q19 q20 q21 q22 q23 q24 q25 q26 q27 q28 q29 q30 q31 q32 q33 q34 q35 q36 => rt [.sc] [q19] k)
   (fun q37 q38 q39 q40 q41 q42 q43 q44 q45 q46 q47 q48 q49 q50 q51 q52 q53 q54 => rt [.sc] [q37] k)
   (fun q55 q56 q57 q58 q59 => rt [.sc] [(I (-1))] k)) [a0, (I 0), a0, r0, (I 0)]
 | _, _ => False
abbrev impl_FirstWrong_e : Ent := ⟨[210], impl_FirstWrong⟩
def impl_FirstWrong_l : List LE := [⟨0, ⟨[(0, .one (.pv (.bool false))), (2, .one (.pv (.bool false))), (5, .one (.pv (.bool false))), (6, .one (.pv (.bool false))), (7, .one (.pv (.bool false)))], [], [], 0, 36⟩, fun K k v => impl_FirstWrong_r0 v K (fun x0 x1 x2 x3 x4 x5 x6 x7 x8 x9 x10 x11 x12 x13 x14 x15 x16 x17 => k .ret ⟨[(2, .one (.pv x0))], [(0, [.pv x1, .pv x2, .pv x3, .pv x4, .pv x5, .pv x6, .pv x7, .pv x8, .pv x9, .pv x10, .pv x11, .pv x12, .pv x13, .pv x14, .pv x15, .pv x16, .pv x17]), (0, [.pv (I 0), .pv (I 0), .pv (I 0), .pv (I 0), .pv (I 0), .pv (I 0), .pv (I 0), .pv (I 0), .nil 3 1, .pv (I 0), .nil 3 1, .pv (I 0), .pv (I 0), .nil 3 1, .pv (I 0), .pv (.bool false), .nil 222 2])], [], 2, 36⟩) (fun x0 x1 x2 x3 x4 x5 x6 x7 x8 x9 x10 x11 x12 x13 x14 x15 x16 x17 => k .ret ⟨[(2, .one (.pv x0))], [(0, [.pv x1, .pv x2, .pv x3, .pv x4, .pv x5, .pv x6, .pv x7, .pv x8, .pv x9, .pv x10, .pv x11, .pv x12, .pv x13, .pv x14, .pv x15, .pv x16, .pv x17]), (0, [.pv (I 0), .pv (I 0), .pv (I 0), .pv (I 0), .pv (I 0), .pv (I 0), .pv (I 0), .pv (I 0), .nil 3 1, .pv (I 0), .nil 3 1, .pv (I 0), .pv (I 0), .nil 3 1, .pv (I 0), .pv (.bool false), .nil 222 2])], [], 3, 36⟩) (fun x0 x1 x2 x3 x4 => k (.exit 0) ⟨[(0, .one (.pv x0)), (2, .one (.pv x1)), (5, .one (.pv x2)), (6, .one (.pv x3)), (7, .one (.pv x4))], [], [], 0, 36⟩)⟩]
theorem impl_FirstWrong_s : LEsOK (orac [impl_IsFirst_e, impl_MayFollow_e]) TT.nofl (kk [0, 2, 5, 6, 7, 15, 16, 17, 20, 21, 22, 23, 24, 25, 26, 27, 28, 29, 30, 31, 32]) (sumsOf impl_FirstWrong_l) Tryz.f210 impl_FirstWrong_l := ⟨fun v K k h => by
  apply un_all h; exact fun v0 v1 v2 v3 v4 h => Eq.mpr (by kernel_rfl) h
  , trivial⟩
theorem impl_FirstWrong_w : EntOK Tryz.prog TT impl_FirstWrong_e := ent_okF tabok (L := [impl_IsFirst_e, impl_MayFollow_e]) ⟨impl_IsFirst_w, impl_MayFollow_w, trivial⟩ (keep := (kk [0, 2, 5, 6, 7, 15, 16, 17, 20, 21, 22, 23, 24, 25, 26, 27, 28, 29, 30, 31, 32])) (l := impl_FirstWrong_l) Tryz.func210 (by kernel_rfl) (sg := [.one (.sc)]) (by kernel_rfl) impl_FirstWrong_s fun av k h => by
  unfold impl_FirstWrong at h; split at h
  · exact Eq.mpr (by kernel_rfl) h
  · exact h.elim

def impl_IsChain : GM
 | [.one a0], k => 
  lenP a0 fun r0 =>
  call impl_InRange [.one r0, .one (I 1), .one (I 12)] fun o1 =>
  iteP (atP o1 0)
   (call impl_FirstWrong [.one a0] fun o2 =>
   binP .lss (atP o2 0) (I 0) fun r3 =>
   rt [.sc] [r3] k)
   (rt [.sc] [(.bool false)] k)
 | _, _ => False
abbrev impl_IsChain_e : Ent := ⟨[181], impl_IsChain⟩
theorem impl_IsChain_w : EntOK Tryz.prog TT impl_IsChain_e := ent_okF tabok (L := [impl_InRange_e, impl_FirstWrong_e]) ⟨impl_InRange_w, impl_FirstWrong_w, trivial⟩ (keep := []) (l := []) Tryz.func181 (by kernel_rfl) (sg := [.one (.sc)]) (by kernel_rfl) trivial fun av k h => by
  unfold impl_IsChain at h; split at h
  · exact Eq.mpr (by kernel_rfl) h
  · exact h.elim

def impl_last : GM
 | [.one a0], k => 
  lenP a0 fun r0 =>
  binP .sub r0 (I 1) fun r1 =>
  elemP 17 a0 r1 fun c2 =>
  rt [.sc, .sc, .sc, .sc, .sc, .sc, .sc, .sc, .pv, .sc, .pv, .sc, .sc, .pv, .sc, .sc] [(atP c2 0), (atP c2 1), (atP c2 2), (atP c2 3), (atP c2 4), (atP c2 5), (atP c2 6), (atP c2 7), (atP c2 8), (atP c2 9), (atP c2 10), (atP c2 11), (atP c2 12), (atP c2 13), (atP c2 14), (atP c2 15)] k
 | _, _ => False
abbrev impl_last_e : Ent := ⟨[89], impl_last⟩
theorem impl_last_w : EntOK Tryz.prog TT impl_last_e := ent_okF tabok (L := []) trivial (keep := []) (l := []) Tryz.func89 (by kernel_rfl) (sg := [.agg [.sc, .sc, .sc, .sc, .sc, .sc, .sc, .sc, .pv, .sc, .pv, .sc, .sc, .pv, .sc, .sc]]) (by kernel_rfl) trivial fun av k h => by
  unfold impl_last at h; split at h
  · exact Eq.mpr (by kernel_rfl) h
  · exact h.elim

def impl_IsLabel_r0 (v : List PV) (K : List PV → Prop) (x0k : Prop) (x1k : PV → PV → PV → PV → Prop) : Prop :=
 un 4 (fun v0 v1 v2 v3 =>
  binP .lss v3 v2 fun r0 =>
  iteP r0
   (charP v0 v3 fun r1 =>
   binP .geq r1 (.int .u8 97) fun r2 =>
   iteP r2
    (binP .leq r1 (.int .u8 122) fun r3 =>
    iteP r3
     (binP .add v3 (I 1) fun r4 =>
     K [v0, v1, v2, r4])
     (binP .geq r1 (.int .u8 48) fun r5 =>
     iteP r5
      (binP .leq r1 (.int .u8 57) fun r6 =>
      iteP r6
       (binP .add v3 (I 1) fun r7 =>
       K [v0, v1, v2, r7])
       (binP .eql r1 (.int .u8 45) fun r8 =>
       iteP r8
        (binP .gtr v3 (I 0) fun r9 =>
        iteP r9
         (lenS v0 fun r10 =>
         binP .sub r10 (I 1) fun r11 =>
         binP .lss v3 r11 fun r12 =>
         unP .not r12 fun r13 =>
         iteP r13
          (x0k)
          (binP .add v3 (I 1) fun r14 =>
          K [v0, v1, v2, r14]))
         (x0k))
        (x0k)))
      (binP .eql r1 (.int .u8 45) fun r15 =>
      iteP r15
       (binP .gtr v3 (I 0) fun r16 =>
       iteP r16
        (lenS v0 fun r17 =>
        binP .sub r17 (I 1) fun r18 =>
        binP .lss v3 r18 fun r19 =>
        unP .not r19 fun r20 =>
        iteP r20
         (x0k)
         (binP .add v3 (I 1) fun r21 =>
         K [v0, v1, v2, r21]))
        (x0k))
       (x0k))))
    (binP .geq r1 (.int .u8 48) fun r22 =>
    iteP r22
     (binP .leq r1 (.int .u8 57) fun r23 =>
     iteP r23
      (binP .add v3 (I 1) fun r24 =>
      K [v0, v1, v2, r24])
      (binP .eql r1 (.int .u8 45) fun r25 =>
      iteP r25
       (binP .gtr v3 (I 0) fun r26 =>
       iteP r26
        (lenS v0 fun r27 =>
        binP .sub r27 (I 1) fun r28 =>
        binP .lss v3 r28 fun r29 =>
        unP .not r29 fun r30 =>
        iteP r30
         (x0k)
         (binP .add v3 (I 1) fun r31 =>
         K [v0, v1, v2, r31]))
        (x0k))
       (x0k)))
     (binP .eql r1 (.int .u8 45) fun r32 =>
     iteP r32
      (binP .gtr v3 (I 0) fun r33 =>
      iteP r33
       (lenS v0 fun r34 =>
       binP .sub r34 (I 1) fun r35 =>
       binP .lss v3 r35 fun r36 =>
       unP .not r36 fun r37 =>
       iteP r37
        (x0k)
        (binP .add v3 (I 1) fun r38 =>
        K [v0, v1, v2, r38]))
       (x0k))
      (x0k))))
   (x1k v0 v1 v2 v3)) v
def impl_IsLabel : GM
 | [.one a0], k => 
  lenS a0 fun r0 =>
  lp (fun L w => impl_IsLabel_r0 w L
   (rt [.sc] [(.bool false)] k)
   (fun q39 q40 q41 q42 => lenS q39 fun r43 =>
    call impl_InRange [.one r43, .one (I 1), .one (I 8)] fun o44 =>
    rt [.sc] [(atP o44 0)] k)) [a0, (.bool false), r0, (I 0)]
 | _, _ => False
abbrev impl_IsLabel_e : Ent := ⟨[154], impl_IsLabel⟩
def impl_IsLabel_l : List LE := [⟨0, ⟨[(0, .one (.pv (.bool false))), (2, .one (.pv (.bool false))), (6, .one (.pv (.bool false))), (7, .one (.pv (.bool false)))], [], [], 0, 47⟩, fun K k v => impl_IsLabel_r0 v K (k .ret ⟨[(2, .one (.kb false))], [], [], 0, 47⟩) (fun x0 x1 x2 x3 => k (.exit 0) ⟨[(0, .one (.pv x0)), (2, .one (.pv x1)), (6, .one (.pv x2)), (7, .one (.pv x3))], [], [], 0, 47⟩)⟩]
theorem impl_IsLabel_s : LEsOK (orac [impl_InRange_e]) TT.nofl (kk [0, 2, 6, 7, 16, 17, 20, 21, 22, 23, 24, 25, 28, 29, 30, 31, 32, 33, 34, 35, 36, 37, 38, 39, 40]) (sumsOf impl_IsLabel_l) Tryz.f154 impl_IsLabel_l := ⟨fun v K k h => by
  apply un_all h; exact fun v0 v1 v2 v3 h => Eq.mpr (by kernel_rfl) h
  , trivial⟩
theorem impl_IsLabel_w : EntOK Tryz.prog TT impl_IsLabel_e := ent_okF tabok (L := [impl_InRange_e]) ⟨impl_InRange_w, trivial⟩ (keep := (kk [0, 2, 6, 7, 16, 17, 20, 21, 22, 23, 24, 25, 28, 29, 30, 31, 32, 33, 34, 35, 36, 37, 38, 39, 40])) (l := impl_IsLabel_l) Tryz.func154 (by kernel_rfl) (sg := [.one (.sc)]) (by kernel_rfl) impl_IsLabel_s fun av k h => by
  unfold impl_IsLabel at h; split at h
  · exact Eq.mpr (by kernel_rfl) h
  · exact h.elim

def impl_IsPath_1 : GM
 | [.one a0], k => 
  call impl_IsLabel [.one a0] fun o0 =>
  unP .not (atP o0 0) fun r1 =>
  rt [.sc] [r1] k
 | _, _ => False
abbrev impl_IsPath_1_e : Ent := ⟨[247], impl_IsPath_1⟩
theorem impl_IsPath_1_w : EntOK Tryz.prog TT impl_IsPath_1_e := ent_okF tabok (L := [impl_IsLabel_e]) ⟨impl_IsLabel_w, trivial⟩ (keep := []) (l := []) Tryz.func247 (by kernel_rfl) (sg := [.one (.sc)]) (by kernel_rfl) trivial fun av k h => by
  unfold impl_IsPath_1 at h; split at h
  · exact Eq.mpr (by kernel_rfl) h
  · exact h.elim

def slices_IndexFunc_string_F_impl_IsPath_1_r0 (v : List PV) (K : List PV → Prop) (x0k : PV → Prop) (x1k : PV → PV → PV → PV → Prop) : Prop :=
 un 4 (fun v0 v1 v2 v3 =>
  binP .lss v3 v2 fun r0 =>
  iteP r0
   (elemP 1 v0 v3 fun c1 =>
   call impl_IsPath_1 [.one (atP c1 0)] fun o2 =>
   iteP (atP o2 0)
    (x0k v3)
    (binP .add v3 (I 1) fun r3 =>
    K [v0, v1, v2, r3]))
   (x1k v0 v1 v2 v3)) v
def slices_IndexFunc_string_F_impl_IsPath_1 : GM
 | [.one a0, .fn 247 []], k => 
  lenP a0 fun r0 =>
  lp (fun L w => slices_IndexFunc_string_F_impl_IsPath_1_r0 w L
   (fun q4 => rt [.sc] [q4] k)
   (fun q5 q6 q7 q8 => rt [.sc] [(I (-1))] k)) [a0, (I 0), r0, (I 0)]
 | _, _ => False
abbrev slices_IndexFunc_string_F_impl_IsPath_1_e : Ent := ⟨[267, 247], slices_IndexFunc_string_F_impl_IsPath_1⟩
def slices_IndexFunc_string_F_impl_IsPath_1_l : List LE := [⟨0, ⟨[(0, .one (.pv (.bool false))), (1, .one (.fn 247 [])), (4, .one (.pv (.bool false))), (7, .one (.pv (.bool false))), (8, .one (.pv (.bool false)))], [], [], 0, 19⟩, fun K k v => slices_IndexFunc_string_F_impl_IsPath_1_r0 v K (fun x0 => k .ret ⟨[(4, .one (.pv x0))], [], [], 1, 19⟩) (fun x0 x1 x2 x3 => k (.exit 0) ⟨[(0, .one (.pv x0)), (1, .one (.fn 247 [])), (4, .one (.pv x1)), (7, .one (.pv x2)), (8, .one (.pv x3))], [], [], 0, 19⟩)⟩]
theorem slices_IndexFunc_string_F_impl_IsPath_1_s : LEsOK (orac [impl_IsPath_1_e]) TT (kk [0, 1, 4, 7, 8]) (sumsOf slices_IndexFunc_string_F_impl_IsPath_1_l) Tryz.f267 slices_IndexFunc_string_F_impl_IsPath_1_l := ⟨fun v K k h => by
  apply un_all h; exact fun v0 v1 v2 v3 h => Eq.mpr (by kernel_rfl) h
  , trivial⟩
theorem slices_IndexFunc_string_F_impl_IsPath_1_w : EntOK Tryz.prog TT slices_IndexFunc_string_F_impl_IsPath_1_e := ent_ok tabok (L := [impl_IsPath_1_e]) ⟨impl_IsPath_1_w, trivial⟩ (keep := (kk [0, 1, 4, 7, 8])) (l := slices_IndexFunc_string_F_impl_IsPath_1_l) Tryz.func267 (by kernel_rfl) (sg := [.one (.sc)]) (by kernel_rfl) slices_IndexFunc_string_F_impl_IsPath_1_s fun av k h => by
  unfold slices_IndexFunc_string_F_impl_IsPath_1 at h; split at h
  · exact Eq.mpr (by kernel_rfl) h
  · exact h.elim

def slices_ContainsFunc_string_F_impl_IsPath_1 : GM
 | [.one a0, .fn 247 []], k => 
  call slices_IndexFunc_string_F_impl_IsPath_1 [.one a0, .fn 247 []] fun o0 =>
  binP .geq (atP o0 0) (I 0) fun r1 =>
  rt [.sc] [r1] k
 | _, _ => False
abbrev slices_ContainsFunc_string_F_impl_IsPath_1_e : Ent := ⟨[246, 247], slices_ContainsFunc_string_F_impl_IsPath_1⟩
theorem slices_ContainsFunc_string_F_impl_IsPath_1_w : EntOK Tryz.prog TT slices_ContainsFunc_string_F_impl_IsPath_1_e := ent_ok tabok (L := [slices_IndexFunc_string_F_impl_IsPath_1_e]) ⟨slices_IndexFunc_string_F_impl_IsPath_1_w, trivial⟩ (keep := []) (l := []) Tryz.func246 (by kernel_rfl) (sg := [.one (.sc)]) (by kernel_rfl) trivial fun av k h => by
  unfold slices_ContainsFunc_string_F_impl_IsPath_1 at h; split at h
  · exact Eq.mpr (by kernel_rfl) h
  · exact h.elim

def impl_IsPath : GM
 | [.one a0], k => 
  lenP a0 fun r0 =>
  call impl_InRange [.one r0, .one (I 1), .one (I 4)] fun o1 =>
  iteP (atP o1 0)
   (call slices_ContainsFunc_string_F_impl_IsPath_1 [.one a0, .fn 247 []] fun o2 =>
   unP .not (atP o2 0) fun r3 =>
   rt [.sc] [r3] k)
   (rt [.sc] [(.bool false)] k)
 | _, _ => False
abbrev impl_IsPath_e : Ent := ⟨[234], impl_IsPath⟩
theorem impl_IsPath_w : EntOK Tryz.prog TT impl_IsPath_e := ent_okF tabok (L := [impl_InRange_e, slices_ContainsFunc_string_F_impl_IsPath_1_e]) ⟨impl_InRange_w, slices_ContainsFunc_string_F_impl_IsPath_1_w, trivial⟩ (keep := []) (l := []) Tryz.func234 (by kernel_rfl) (sg := [.one (.sc)]) (by kernel_rfl) trivial fun av k h => by
  unfold impl_IsPath at h; split at h
  · exact Eq.mpr (by kernel_rfl) h
  · exact h.elim

def impl_IsEntry : GM
 | [.agg u0], k => un 4 (fun a0 a1 a2 a3 => 
  call impl_IsLabel [.one a0] fun o0 =>
  unP .not (atP o0 0) fun r1 =>
  iteP r1
   (rt [.sc] [(.bool false)] k)
   (binP .eql a1 (I 1) fun r2 =>
   iteP r2
    (call impl_InRange [.one a2, .one (I 0), .one (I 999999)] fun o3 =>
    iteP (atP o3 0)
     (lenP a3 fun r4 =>
     binP .eql r4 (I 0) fun r5 =>
     rt [.sc] [r5] k)
     (rt [.sc] [(.bool false)] k))
    (binP .eql a1 (I 2) fun r6 =>
    iteP r6
     (call impl_isDigest [.one a2] fun o7 =>
     iteP (atP o7 0)
      (lenP a3 fun r8 =>
      binP .eql r8 (I 0) fun r9 =>
      rt [.sc] [r9] k)
      (rt [.sc] [(.bool false)] k))
     (binP .eql a1 (I 3) fun r10 =>
     iteP r10
      (call impl_isDigest [.one a2] fun o11 =>
      iteP (atP o11 0)
       (call impl_IsPath [.one a3] fun o12 =>
       rt [.sc] [(atP o12 0)] k)
       (rt [.sc] [(.bool false)] k))
      (rt [.sc] [(.bool false)] k))))) u0
 | _, _ => False
abbrev impl_IsEntry_e : Ent := ⟨[214], impl_IsEntry⟩
theorem impl_IsEntry_w : EntOK Tryz.prog TT impl_IsEntry_e := ent_okF tabok (L := [impl_IsLabel_e, impl_InRange_e, impl_isDigest_e, impl_IsPath_e]) ⟨impl_IsLabel_w, impl_InRange_w, impl_isDigest_w, impl_IsPath_w, trivial⟩ (keep := []) (l := []) Tryz.func214 (by kernel_rfl) (sg := [.one (.sc)]) (by kernel_rfl) trivial fun av k h => by
  unfold impl_IsEntry at h; split at h
  · apply un_all h; clear h; intro a0 a1 a2 a3 h; exact Eq.mpr (by kernel_rfl) h
  · exact h.elim


def strings_Compare : GM
 | [.one a0, .one a1], k => 
  call bytealg_CompareString [.one a0, .one a1] fun o0 =>
  rt [.sc] [(atP o0 0)] k
 | _, _ => False
abbrev strings_Compare_e : Ent := ⟨[235], strings_Compare⟩
theorem strings_Compare_w : EntOK Tryz.prog TT strings_Compare_e := ent_ok tabok (L := [bytealg_CompareString_e]) ⟨bytealg_CompareString_w, trivial⟩ (keep := []) (l := []) Tryz.func235 (by kernel_rfl) (sg := [.one (.sc)]) (by kernel_rfl) trivial fun av k h => by
  unfold strings_Compare at h; split at h
  · exact Eq.mpr (by kernel_rfl) h
  · exact h.elim

def impl_CompareLabels : GM
 | [.one a0, .one a1], k => 
  call strings_Compare [.one a0, .one a1] fun o0 =>
  rt [.sc] [(atP o0 0)] k
 | _, _ => False
abbrev impl_CompareLabels_e : Ent := ⟨[215], impl_CompareLabels⟩
theorem impl_CompareLabels_w : EntOK Tryz.prog TT impl_CompareLabels_e := ent_okF tabok (L := [strings_Compare_e]) ⟨strings_Compare_w, trivial⟩ (keep := []) (l := []) Tryz.func215 (by kernel_rfl) (sg := [.one (.sc)]) (by kernel_rfl) trivial fun av k h => by
  unfold impl_CompareLabels at h; split at h
  · exact Eq.mpr (by kernel_rfl) h
  · exact h.elim

def impl_AreEntries_r0 (v : List PV) (K : List PV → Prop) (x0k : PV → PV → PV → PV → Prop) (x1k : PV → PV → PV → PV → Prop) (x2k : PV → PV → PV → PV → PV → Prop) : Prop :=
 un 5 (fun v0 v1 v2 v3 v4 =>
  binP .lss v4 v3 fun r0 =>
  iteP r0
   (elemP 4 v2 v4 fun c1 =>
   call impl_IsEntry [.agg [(atP c1 0), (atP c1 1), (atP c1 2), (atP c1 3)]] fun o2 =>
   unP .not (atP o2 0) fun r3 =>
   iteP r3
    (x0k (atP c1 0) (atP c1 1) (atP c1 2) (atP c1 3))
    (binP .gtr v4 (I 0) fun r4 =>
    iteP r4
     (binP .sub v4 (I 1) fun r5 =>
     elemP 4 v0 r5 fun c6 =>
     call impl_CompareLabels [.one (atP c1 0), .one (atP c6 0)] fun o7 =>
     binP .leq (atP o7 0) (I 0) fun r8 =>
     iteP r8
      (x1k (atP c1 0) (atP c1 1) (atP c1 2) (atP c1 3))
      (binP .add v4 (I 1) fun r9 =>
      K [v0, v1, v2, v3, r9]))
     (binP .add v4 (I 1) fun r10 =>
     K [v0, v1, v2, v3, r10])))
   (x2k v0 v1 v2 v3 v4)) v
def impl_AreEntries : GM
 | [.one a0], k => 
  lenP a0 fun r0 =>
  lp (fun L w => impl_AreEntries_r0 w L
   (fun q11 q12 q13 q14 => rt [.sc] [(.bool false)] k)
   (fun q15 q16 q17 q18 => rt [.sc] [(.bool false)] k)
   (fun q19 q20 q21 q22 q23 => lenP q19 fun r24 =>
    binP .leq r24 (I 12) fun r25 =>
    rt [.sc] [r25] k)) [a0, (.bool false), a0, r0, (I 0)]
 | _, _ => False
abbrev impl_AreEntries_e : Ent := ⟨[187], impl_AreEntries⟩
def impl_AreEntries_l : List LE := [⟨0, ⟨[(0, .one (.pv (.bool false))), (2, .one (.pv (.bool false))), (5, .one (.pv (.bool false))), (6, .one (.pv (.bool false))), (7, .one (.pv (.bool false)))], [], [], 0, 35⟩, fun K k v => impl_AreEntries_r0 v K (fun x0 x1 x2 x3 => k .ret ⟨[(2, .one (.kb false))], [(0, [.pv x0, .pv x1, .pv x2, .pv x3]), (0, [.pv (.str ⟨#[]⟩), .pv (I 0), .pv (I 0), .nil 9 1])], [], 2, 35⟩) (fun x0 x1 x2 x3 => k .ret ⟨[(2, .one (.kb false))], [(0, [.pv x0, .pv x1, .pv x2, .pv x3]), (0, [.pv (.str ⟨#[]⟩), .pv (I 0), .pv (I 0), .nil 9 1])], [], 3, 35⟩) (fun x0 x1 x2 x3 x4 => k (.exit 0) ⟨[(0, .one (.pv x0)), (2, .one (.pv x1)), (5, .one (.pv x2)), (6, .one (.pv x3)), (7, .one (.pv x4))], [], [], 0, 35⟩)⟩]
theorem impl_AreEntries_s : LEsOK (orac [impl_IsEntry_e, impl_CompareLabels_e]) TT.nofl (kk [0, 2, 5, 6, 7, 16, 17, 18, 19, 20, 21, 22, 23, 24, 25, 26, 27, 28, 29]) (sumsOf impl_AreEntries_l) Tryz.f187 impl_AreEntries_l := ⟨fun v K k h => by
  apply un_all h; exact fun v0 v1 v2 v3 v4 h => Eq.mpr (by kernel_rfl) h
  , trivial⟩
theorem impl_AreEntries_w : EntOK Tryz.prog TT impl_AreEntries_e := ent_okF tabok (L := [impl_IsEntry_e, impl_CompareLabels_e]) ⟨impl_IsEntry_w, impl_CompareLabels_w, trivial⟩ (keep := (kk [0, 2, 5, 6, 7, 16, 17, 18, 19, 20, 21, 22, 23, 24, 25, 26, 27, 28, 29])) (l := impl_AreEntries_l) Tryz.func187 (by kernel_rfl) (sg := [.one (.sc)]) (by kernel_rfl) impl_AreEntries_s fun av k h => by
  unfold impl_AreEntries at h; split at h
  · exact Eq.mpr (by kernel_rfl) h
  · exact h.elim

def impl_BytesToInts_r0 (v : List PV) (K : List PV → Prop) (x0k : PV → PV → PV → PV → PV → Prop) : Prop :=
 un 5 (fun v0 v1 v2 v3 v4 =>
  binP .lss v2 v1 fun r0 =>
  iteP r0
   (elemP 1 v0 v2 fun c1 =>
   convP .i64 (atP c1 0) fun r2 =>
   (1 = 1) ∧ (1 ≤ 16777216) ∧ (1 = 1) ∧ (0 = 0) ∧ (1 = 1) ∧ (flatCond [.pv (I 0)] [.pv r2]) ∧ catP 1 v4 (.list 1 [[r2]]) fun r3 =>
   binP .add v2 (I 1) fun r4 =>
   K [v0, v1, r4, v3, r3])
   (x0k v0 v1 v2 v3 v4)) v
def impl_BytesToInts : GM
 | [.one a0], k => 
  lenP a0 fun r0 =>
  (1 = 1) ∧ (1 ≤ 16777216) ∧ (1 = 1) ∧ (0 = 0) ∧ (1 = 1) ∧ (flatCond [.pv (I 0)] [.pv r0]) ∧ lenP a0 fun r1 =>
  lp (fun L w => impl_BytesToInts_r0 w L
   (fun q5 q6 q7 q8 q9 => rt [.own true 3 1] [q9] k)) [a0, r1, (I 0), (.list 1 []), (.list 1 [[r0]])]
 | _, _ => False
abbrev impl_BytesToInts_e : Ent := ⟨[153], impl_BytesToInts⟩
def impl_BytesToInts_l : List LE := [⟨0, ⟨[(2, .one (.own 1)), (3, .one (.own 0)), (9, .one (.pv (.bool false))), (10, .one (.pv (.bool false))), (11, .one (.pv (.bool false)))], [], [(1, ⟨.deep, 3, 1, (.bool false)⟩), (0, ⟨.deep, 3, 1, (.bool false)⟩)], 2, 22⟩, fun K k v => impl_BytesToInts_r0 v K (fun x0 x1 x2 x3 x4 => k (.exit 0) ⟨[(2, .one (.own 1)), (3, .one (.own 0)), (9, .one (.pv x0)), (10, .one (.pv x1)), (11, .one (.pv x2))], [], [(1, ⟨.deep, 3, 1, x3⟩), (0, ⟨.deep, 3, 1, x4⟩)], 2, 22⟩)⟩]
theorem impl_BytesToInts_s : LEsOK (orac []) TT.nofl (kk [2, 3, 9, 10, 11]) (sumsOf impl_BytesToInts_l) Tryz.f153 impl_BytesToInts_l := ⟨fun v K k h => by
  apply un_all h; exact fun v0 v1 v2 v3 v4 h => Eq.mpr (by kernel_rfl) h
  , trivial⟩
theorem impl_BytesToInts_w : EntOK Tryz.prog TT impl_BytesToInts_e := ent_okF tabok (L := []) trivial (keep := (kk [2, 3, 9, 10, 11])) (l := impl_BytesToInts_l) Tryz.func153 (by kernel_rfl) (sg := [.one (.own true 3 1)]) (by kernel_rfl) impl_BytesToInts_s fun av k h => by
  unfold impl_BytesToInts at h; split at h
  · exact Eq.mpr (by kernel_rfl) h
  · exact h.elim

def impl_LabelInts : GM
 | [.one a0], k => 
  bytesP a0 fun r0 =>
  call impl_BytesToInts [.one r0] fun o1 =>
  rt [.own true 3 1] [(atP o1 0)] k
 | _, _ => False
abbrev impl_LabelInts_e : Ent := ⟨[116], impl_LabelInts⟩
theorem impl_LabelInts_w : EntOK Tryz.prog TT impl_LabelInts_e := ent_okF tabok (L := [impl_BytesToInts_e]) ⟨impl_BytesToInts_w, trivial⟩ (keep := []) (l := []) Tryz.func116 (by kernel_rfl) (sg := [.one (.own true 3 1)]) (by kernel_rfl) trivial fun av k h => by
  unfold impl_LabelInts at h; split at h
  · exact Eq.mpr (by kernel_rfl) h
  · exact h.elim

def impl_EntryInts_r0 (v : List PV) (K : List PV → Prop) (x0k : PV → PV → PV → PV → PV → Prop) : Prop :=
 un 5 (fun v0 v1 v2 v3 v4 =>
  binP .lss v2 v1 fun r0 =>
  iteP r0
   (elemP 1 v0 v2 fun c1 =>
   call impl_LabelInts [.one (atP c1 0)] fun o2 =>
   catP 1 v4 (atP o2 0) fun r3 =>
   binP .add v2 (I 1) fun r4 =>
   K [v0, v1, r4, v3, r3])
   (x0k v0 v1 v2 v3 v4)) v
def impl_EntryInts : GM
 | [.agg u0], k => un 4 (fun a0 a1 a2 a3 => 
  call impl_LabelInts [.one a0] fun o0 =>
  lenP a3 fun r1 =>
  (3 = 3) ∧ (3 ≤ 16777216) ∧ (1 = 1) ∧ (0 = 0) ∧ (1 = 1) ∧ (flatCond [.pv (I 0)] [.pv a1]) ∧ (1 = 1) ∧ (1 = 1) ∧ (flatCond [.pv (I 0)] [.pv a2]) ∧ (2 = 2) ∧ (1 = 1) ∧ (flatCond [.pv (I 0)] [.pv r1]) ∧ catP 1 (atP o0 0) (.list 1 [[a1], [a2], [r1]]) fun r2 =>
  lenP a3 fun r3 =>
  lp (fun L w => impl_EntryInts_r0 w L
   (fun q5 q6 q7 q8 q9 => rt [.own true 3 1] [q9] k)) [a3, r3, (I 0), (.list 1 []), r2]) u0
 | _, _ => False
abbrev impl_EntryInts_e : Ent := ⟨[232], impl_EntryInts⟩
def impl_EntryInts_l : List LE := [⟨0, ⟨[(2, .one (.own 4)), (3, .one (.own 3)), (19, .one (.pv (.bool false))), (20, .one (.pv (.bool false))), (21, .one (.pv (.bool false)))], [], [(4, ⟨.deep, 3, 1, (.bool false)⟩), (3, ⟨.deep, 3, 1, (.bool false)⟩)], 5, 31⟩, fun K k v => impl_EntryInts_r0 v K (fun x0 x1 x2 x3 x4 => k (.exit 0) ⟨[(2, .one (.own 4)), (3, .one (.own 3)), (19, .one (.pv x0)), (20, .one (.pv x1)), (21, .one (.pv x2))], [], [(4, ⟨.deep, 3, 1, x3⟩), (3, ⟨.deep, 3, 1, x4⟩)], 5, 31⟩)⟩]
theorem impl_EntryInts_s : LEsOK (orac [impl_LabelInts_e]) TT.nofl (kk [2, 3, 19, 20, 21]) (sumsOf impl_EntryInts_l) Tryz.f232 impl_EntryInts_l := ⟨fun v K k h => by
  apply un_all h; exact fun v0 v1 v2 v3 v4 h => Eq.mpr (by kernel_rfl) h
  , trivial⟩
theorem impl_EntryInts_w : EntOK Tryz.prog TT impl_EntryInts_e := ent_okF tabok (L := [impl_LabelInts_e]) ⟨impl_LabelInts_w, trivial⟩ (keep := (kk [2, 3, 19, 20, 21])) (l := impl_EntryInts_l) Tryz.func232 (by kernel_rfl) (sg := [.one (.own true 3 1)]) (by kernel_rfl) impl_EntryInts_s fun av k h => by
  unfold impl_EntryInts at h; split at h
  · apply un_all h; clear h; intro a0 a1 a2 a3 h; exact Eq.mpr (by kernel_rfl) h
  · exact h.elim

def impl_LeafOf : GM
 | [.agg u0], k => un 4 (fun a0 a1 a2 a3 => 
  (1 = 1) ∧ (1 ≤ 16777216) ∧ (1 = 1) ∧ (0 = 0) ∧ (1 = 1) ∧ (flatCond [.pv (I 0)] [.pv (I 227)]) ∧ call impl_EntryInts [.agg [a0, a1, a2, a3]] fun o0 =>
  catP 1 (.list 1 [[(I 227)]]) (atP o0 0) fun r1 =>
  call impl_Hash [.one r1] fun o2 =>
  rt [.sc] [(atP o2 0)] k) u0
 | _, _ => False
abbrev impl_LeafOf_e : Ent := ⟨[213], impl_LeafOf⟩
theorem impl_LeafOf_w : EntOK Tryz.prog TT impl_LeafOf_e := ent_okF tabok (L := [impl_EntryInts_e, impl_Hash_e]) ⟨impl_EntryInts_w, impl_Hash_w, trivial⟩ (keep := []) (l := []) Tryz.func213 (by kernel_rfl) (sg := [.one (.sc)]) (by kernel_rfl) trivial fun av k h => by
  unfold impl_LeafOf at h; split at h
  · apply un_all h; clear h; intro a0 a1 a2 a3 h; exact Eq.mpr (by kernel_rfl) h
  · exact h.elim

def impl_LeavesOf_r0 (v : List PV) (K : List PV → Prop) (x0k : PV → PV → PV → PV → PV → Prop) : Prop :=
 un 5 (fun v0 v1 v2 v3 v4 =>
  binP .lss v2 v1 fun r0 =>
  iteP r0
   (elemP 4 v0 v2 fun c1 =>
   call impl_LeafOf [.agg [(atP c1 0), (atP c1 1), (atP c1 2), (atP c1 3)]] fun o2 =>
   (1 = 1) ∧ (1 ≤ 16777216) ∧ (1 = 1) ∧ (0 = 0) ∧ (1 = 1) ∧ (flatCond [.pv (I 0)] [.pv (atP o2 0)]) ∧ catP 1 v4 (.list 1 [[(atP o2 0)]]) fun r3 =>
   binP .add v2 (I 1) fun r4 =>
   K [v0, v1, r4, v3, r3])
   (x0k v0 v1 v2 v3 v4)) v
def impl_LeavesOf : GM
 | [.one a0], k => 
  (0 = 0) ∧ (0 ≤ 16777216) ∧ (1 = 1) ∧ lenP a0 fun r0 =>
  lp (fun L w => impl_LeavesOf_r0 w L
   (fun q5 q6 q7 q8 q9 => rt [.own true 3 1] [q9] k)) [a0, r0, (I 0), (.list 1 []), (.list 1 [])]
 | _, _ => False
abbrev impl_LeavesOf_e : Ent := ⟨[186], impl_LeavesOf⟩
def impl_LeavesOf_l : List LE := [⟨0, ⟨[(2, .one (.own 1)), (3, .one (.own 0)), (7, .one (.pv (.bool false))), (8, .one (.pv (.bool false))), (9, .one (.pv (.bool false)))], [], [(1, ⟨.deep, 3, 1, (.bool false)⟩), (0, ⟨.deep, 3, 1, (.bool false)⟩)], 2, 20⟩, fun K k v => impl_LeavesOf_r0 v K (fun x0 x1 x2 x3 x4 => k (.exit 0) ⟨[(2, .one (.own 1)), (3, .one (.own 0)), (7, .one (.pv x0)), (8, .one (.pv x1)), (9, .one (.pv x2))], [], [(1, ⟨.deep, 3, 1, x3⟩), (0, ⟨.deep, 3, 1, x4⟩)], 2, 20⟩)⟩]
theorem impl_LeavesOf_s : LEsOK (orac [impl_LeafOf_e]) TT.nofl (kk [2, 3, 7, 8, 9]) (sumsOf impl_LeavesOf_l) Tryz.f186 impl_LeavesOf_l := ⟨fun v K k h => by
  apply un_all h; exact fun v0 v1 v2 v3 v4 h => Eq.mpr (by kernel_rfl) h
  , trivial⟩
theorem impl_LeavesOf_w : EntOK Tryz.prog TT impl_LeavesOf_e := ent_okF tabok (L := [impl_LeafOf_e]) ⟨impl_LeafOf_w, trivial⟩ (keep := (kk [2, 3, 7, 8, 9])) (l := impl_LeavesOf_l) Tryz.func186 (by kernel_rfl) (sg := [.one (.own true 3 1)]) (by kernel_rfl) impl_LeavesOf_s fun av k h => by
  unfold impl_LeavesOf at h; split at h
  · exact Eq.mpr (by kernel_rfl) h
  · exact h.elim

def impl_hash : GM
 | [.one a0], k => 
  call impl_Hash [.one a0] fun o0 =>
  rt [.sc] [(atP o0 0)] k
 | _, _ => False
abbrev impl_hash_e : Ent := ⟨[245], impl_hash⟩
theorem impl_hash_w : EntOK Tryz.prog TT impl_hash_e := ent_okF tabok (L := [impl_Hash_e]) ⟨impl_Hash_w, trivial⟩ (keep := []) (l := []) Tryz.func245 (by kernel_rfl) (sg := [.one (.sc)]) (by kernel_rfl) trivial fun av k h => by
  unfold impl_hash at h; split at h
  · exact Eq.mpr (by kernel_rfl) h
  · exact h.elim

def impl_NodeOf : GM
 | [.one a0, .one a1], k => 
  (3 = 3) ∧ (3 ≤ 16777216) ∧ (1 = 1) ∧ (0 = 0) ∧ (1 = 1) ∧ (flatCond [.pv (I 0)] [.pv (I 229)]) ∧ (1 = 1) ∧ (1 = 1) ∧ (flatCond [.pv (I 0)] [.pv a0]) ∧ (2 = 2) ∧ (1 = 1) ∧ (flatCond [.pv (I 0)] [.pv a1]) ∧ call impl_hash [.one (.list 1 [[(I 229)], [a0], [a1]])] fun o0 =>
  rt [.sc] [(atP o0 0)] k
 | _, _ => False
abbrev impl_NodeOf_e : Ent := ⟨[231], impl_NodeOf⟩
theorem impl_NodeOf_w : EntOK Tryz.prog TT impl_NodeOf_e := ent_okF tabok (L := [impl_hash_e]) ⟨impl_hash_w, trivial⟩ (keep := []) (l := []) Tryz.func231 (by kernel_rfl) (sg := [.one (.sc)]) (by kernel_rfl) trivial fun av k h => by
  unfold impl_NodeOf at h; split at h
  · exact Eq.mpr (by kernel_rfl) h
  · exact h.elim

def impl_above_r0 (v : List PV) (K : List PV → Prop) (x0k : PV → PV → PV → PV → Prop) : Prop :=
 un 4 (fun v0 v1 v2 v3 =>
  lenP v0 fun r0 =>
  binP .lss v1 r0 fun r1 =>
  iteP r1
   (binP .add v1 (I 1) fun r2 =>
   lenP v0 fun r3 =>
   binP .lss r2 r3 fun r4 =>
   iteP r4
    (elemP 1 v0 v1 fun c5 =>
    binP .add v1 (I 1) fun r6 =>
    elemP 1 v0 r6 fun c7 =>
    call impl_NodeOf [.one (atP c5 0), .one (atP c7 0)] fun o8 =>
    (1 = 1) ∧ (1 ≤ 16777216) ∧ (1 = 1) ∧ (0 = 0) ∧ (1 = 1) ∧ (flatCond [.pv (I 0)] [.pv (atP o8 0)]) ∧ catP 1 v3 (.list 1 [[(atP o8 0)]]) fun r9 =>
    binP .add v1 (I 2) fun r10 =>
    K [v0, r10, v2, r9])
    (elemP 1 v0 v1 fun c11 =>
    (1 = 1) ∧ (1 ≤ 16777216) ∧ (1 = 1) ∧ (0 = 0) ∧ (1 = 1) ∧ (flatCond [.pv (I 0)] [.pv (atP c11 0)]) ∧ catP 1 v3 (.list 1 [[(atP c11 0)]]) fun r12 =>
    binP .add v1 (I 2) fun r13 =>
    K [v0, r13, v2, r12]))
   (x0k v0 v1 v2 v3)) v
def impl_above : GM
 | [.one a0], k => 
  (0 = 0) ∧ (0 ≤ 16777216) ∧ (1 = 1) ∧ lp (fun L w => impl_above_r0 w L
   (fun q14 q15 q16 q17 => rt [.own true 3 1] [q17] k)) [a0, (I 0), (.list 1 []), (.list 1 [])]
 | _, _ => False
abbrev impl_above_e : Ent := ⟨[212], impl_above⟩
def impl_above_l : List LE := [⟨0, ⟨[(0, .one (.pv (.bool false))), (2, .one (.own 1)), (3, .one (.own 0)), (4, .one (.pv (.bool false)))], [], [(1, ⟨.deep, 3, 1, (.bool false)⟩), (0, ⟨.deep, 3, 1, (.bool false)⟩)], 2, 38⟩, fun K k v => impl_above_r0 v K (fun x0 x1 x2 x3 => k (.exit 0) ⟨[(0, .one (.pv x0)), (2, .one (.own 1)), (3, .one (.own 0)), (4, .one (.pv x1))], [], [(1, ⟨.deep, 3, 1, x2⟩), (0, ⟨.deep, 3, 1, x3⟩)], 2, 38⟩)⟩]
theorem impl_above_s : LEsOK (orac [impl_NodeOf_e]) TT.nofl (kk [0, 2, 3, 4]) (sumsOf impl_above_l) Tryz.f212 impl_above_l := ⟨fun v K k h => by
  apply un_all h; exact fun v0 v1 v2 v3 h => Eq.mpr (by kernel_rfl) h
  , trivial⟩
theorem impl_above_w : EntOK Tryz.prog TT impl_above_e := ent_okF tabok (L := [impl_NodeOf_e]) ⟨impl_NodeOf_w, trivial⟩ (keep := (kk [0, 2, 3, 4])) (l := impl_above_l) Tryz.func212 (by kernel_rfl) (sg := [.one (.own true 3 1)]) (by kernel_rfl) impl_above_s fun av k h => by
  unfold impl_above at h; split at h
  · exact Eq.mpr (by kernel_rfl) h
  · exact h.elim

def impl_TopOf_r0 (v : List PV) (K : List PV → Prop) (x0k : PV → PV → Prop) : Prop :=
 un 2 (fun v0 v1 =>
  lenP v0 fun r0 =>
  binP .gtr r0 (I 1) fun r1 =>
  iteP r1
   (call impl_above [.one v0] fun o2 =>
   K [(atP o2 0), v1])
   (x0k v0 v1)) v
def impl_TopOf : GM
 | [.one a0], k => 
  lenP a0 fun r0 =>
  binP .eql r0 (I 0) fun r1 =>
  iteP r1
   ((1 = 1) ∧ (1 ≤ 16777216) ∧ (1 = 1) ∧ (0 = 0) ∧ (1 = 1) ∧ (flatCond [.pv (I 0)] [.pv (I 229)]) ∧ call impl_hash [.one (.list 1 [[(I 229)]])] fun o2 =>
   rt [.sc] [(atP o2 0)] k)
   (lp (fun L w => impl_TopOf_r0 w L
    (fun q3 q4 => elemP 1 q3 (I 0) fun c5 =>
     rt [.sc] [(atP c5 0)] k)) [a0, (I 0)])
 | _, _ => False
abbrev impl_TopOf_e : Ent := ⟨[230], impl_TopOf⟩
def impl_TopOf_l : List LE := [⟨0, ⟨[(0, .one (.pv (.bool false))), (2, .one (.pv (.bool false)))], [], [], 0, 16⟩, fun K k v => impl_TopOf_r0 v K (fun x0 x1 => k (.exit 0) ⟨[(0, .one (.pv x0)), (2, .one (.pv x1))], [], [], 0, 16⟩)⟩]
theorem impl_TopOf_s : LEsOK (orac [impl_hash_e, impl_above_e]) TT.nofl (kk [0, 2]) (sumsOf impl_TopOf_l) Tryz.f230 impl_TopOf_l := ⟨fun v K k h => by
  apply un_all h; exact fun v0 v1 h => Eq.mpr (by kernel_rfl) h
  , trivial⟩
theorem impl_TopOf_w : EntOK Tryz.prog TT impl_TopOf_e := ent_okF tabok (L := [impl_hash_e, impl_above_e]) ⟨impl_hash_w, impl_above_w, trivial⟩ (keep := (kk [0, 2])) (l := impl_TopOf_l) Tryz.func230 (by kernel_rfl) (sg := [.one (.sc)]) (by kernel_rfl) impl_TopOf_s fun av k h => by
  unfold impl_TopOf at h; split at h
  · exact Eq.mpr (by kernel_rfl) h
  · exact h.elim

def impl_rootFrom : GM
 | [.one a0, .one a1], k => 
  (3 = 3) ∧ (3 ≤ 16777216) ∧ (1 = 1) ∧ (0 = 0) ∧ (1 = 1) ∧ (flatCond [.pv (I 0)] [.pv (I 231)]) ∧ (1 = 1) ∧ (1 = 1) ∧ (flatCond [.pv (I 0)] [.pv a0]) ∧ (2 = 2) ∧ (1 = 1) ∧ (flatCond [.pv (I 0)] [.pv a1]) ∧ call impl_hash [.one (.list 1 [[(I 231)], [a0], [a1]])] fun o0 =>
  rt [.sc] [(atP o0 0)] k
 | _, _ => False
abbrev impl_rootFrom_e : Ent := ⟨[229], impl_rootFrom⟩
theorem impl_rootFrom_w : EntOK Tryz.prog TT impl_rootFrom_e := ent_okF tabok (L := [impl_hash_e]) ⟨impl_hash_w, trivial⟩ (keep := []) (l := []) Tryz.func229 (by kernel_rfl) (sg := [.one (.sc)]) (by kernel_rfl) trivial fun av k h => by
  unfold impl_rootFrom at h; split at h
  · exact Eq.mpr (by kernel_rfl) h
  · exact h.elim

def impl_RootOf : GM
 | [.one a0], k => 
  lenP a0 fun r0 =>
  call impl_LeavesOf [.one a0] fun o1 =>
  call impl_TopOf [.one (atP o1 0)] fun o2 =>
  call impl_rootFrom [.one r0, .one (atP o2 0)] fun o3 =>
  rt [.sc] [(atP o3 0)] k
 | _, _ => False
abbrev impl_RootOf_e : Ent := ⟨[211], impl_RootOf⟩
theorem impl_RootOf_w : EntOK Tryz.prog TT impl_RootOf_e := ent_okF tabok (L := [impl_LeavesOf_e, impl_TopOf_e, impl_rootFrom_e]) ⟨impl_LeavesOf_w, impl_TopOf_w, impl_rootFrom_w, trivial⟩ (keep := []) (l := []) Tryz.func211 (by kernel_rfl) (sg := [.one (.sc)]) (by kernel_rfl) trivial fun av k h => by
  unfold impl_RootOf at h; split at h
  · exact Eq.mpr (by kernel_rfl) h
  · exact h.elim

def impl_CheckAll : GM
 | [.one a0, .one a1], k => 
  call impl_AreEntries [.one a1] fun o0 =>
  iteP (atP o0 0)
   (call impl_RootOf [.one a1] fun o1 =>
   binP .eql (atP o1 0) a0 fun r2 =>
   rt [.sc] [r2] k)
   (rt [.sc] [(.bool false)] k)
 | _, _ => False
abbrev impl_CheckAll_e : Ent := ⟨[182], impl_CheckAll⟩
theorem impl_CheckAll_w : EntOK Tryz.prog TT impl_CheckAll_e := ent_okF tabok (L := [impl_AreEntries_e, impl_RootOf_e]) ⟨impl_AreEntries_w, impl_RootOf_w, trivial⟩ (keep := []) (l := []) Tryz.func182 (by kernel_rfl) (sg := [.one (.sc)]) (by kernel_rfl) trivial fun av k h => by
  unfold impl_CheckAll at h; split at h
  · exact Eq.mpr (by kernel_rfl) h
  · exact h.elim

def impl_IsZone : GM
 | [.agg u0], k => un 2 (fun a0 a1 => 
  call impl_IsChain [.one a0] fun o0 =>
  unP .not (atP o0 0) fun r1 =>
  iteP r1
   (rt [.sc] [(.bool false)] k)
   (call impl_last [.one a0] fun o2 =>
   lenP a1 fun r3 =>
   binP .eql (atP o2 5) r3 fun r4 =>
   iteP r4
    (call impl_CheckAll [.one (atP o2 6), .one a1] fun o5 =>
    rt [.sc] [(atP o5 0)] k)
    (rt [.sc] [(.bool false)] k))) u0
 | _, _ => False
abbrev impl_IsZone_e : Ent := ⟨[151], impl_IsZone⟩
theorem impl_IsZone_w : EntOK Tryz.prog TT impl_IsZone_e := ent_okF tabok (L := [impl_IsChain_e, impl_last_e, impl_CheckAll_e]) ⟨impl_IsChain_w, impl_last_w, impl_CheckAll_w, trivial⟩ (keep := []) (l := []) Tryz.func151 (by kernel_rfl) (sg := [.one (.sc)]) (by kernel_rfl) trivial fun av k h => by
  unfold impl_IsZone at h; split at h
  · apply un_all h; clear h; intro a0 a1 h; exact Eq.mpr (by kernel_rfl) h
  · exact h.elim

def impl_ZoneId : GM
 | [.agg u0], k => un 2 (fun a0 a1 => 
  call impl_IsZone [.agg [a0, a1]] fun o0 =>
  unP .not (atP o0 0) fun r1 =>
  iteP r1
   (rt [.sc] [(I (-1))] k)
   (call impl_last [.one a0] fun o2 =>
   rt [.sc] [(atP o2 0)] k)) u0
 | _, _ => False
abbrev impl_ZoneId_e : Ent := ⟨[114], impl_ZoneId⟩
theorem impl_ZoneId_w : EntOK Tryz.prog TT impl_ZoneId_e := ent_okF tabok (L := [impl_IsZone_e, impl_last_e]) ⟨impl_IsZone_w, impl_last_w, trivial⟩ (keep := []) (l := []) Tryz.func114 (by kernel_rfl) (sg := [.one (.sc)]) (by kernel_rfl) trivial fun av k h => by
  unfold impl_ZoneId at h; split at h
  · apply un_all h; clear h; intro a0 a1 h; exact Eq.mpr (by kernel_rfl) h
  · exact h.elim

def impl_ServedZone_1 : GM
 | [.agg u0, .ro (.cells u1)], k => un 2 (fun a0 a1 => un 1 (fun a2 => 
  call impl_ZoneId [.agg [a0, a1]] fun o0 =>
  binP .eql (atP o0 0) a2 fun r1 =>
  rt [.sc] [r1] k) u1) u0
 | _, _ => False
abbrev impl_ServedZone_1_e : Ent := ⟨[113], impl_ServedZone_1⟩
theorem impl_ServedZone_1_w : EntOK Tryz.prog TT impl_ServedZone_1_e := ent_okF tabok (L := [impl_ZoneId_e]) ⟨impl_ZoneId_w, trivial⟩ (keep := []) (l := []) Tryz.func113 (by kernel_rfl) (sg := [.one (.sc)]) (by kernel_rfl) trivial fun av k h => by
  unfold impl_ServedZone_1 at h; split at h
  · apply un_all h; clear h; intro a0 a1 h; apply un_all h; clear h; intro a2 h; exact Eq.mpr (by kernel_rfl) h
  · exact h.elim

def slices_IndexFunc_Zone_F_impl_ServedZone_1_r0 (v : List PV) (K : List PV → Prop) (x0k : PV → Prop) (x1k : PV → PV → PV → PV → PV → Prop) : Prop :=
 un 5 (fun v0 v1 v2 v3 v4 =>
  binP .lss v4 v3 fun r0 =>
  iteP r0
   (elemP 2 v0 v4 fun c1 =>
   call impl_ServedZone_1 [.agg [(atP c1 0), (atP c1 1)], .ro (.cells [v1])] fun o2 =>
   iteP (atP o2 0)
    (x0k v4)
    (binP .add v4 (I 1) fun r3 =>
    K [v0, v1, v2, v3, r3]))
   (x1k v0 v1 v2 v3 v4)) v
def slices_IndexFunc_Zone_F_impl_ServedZone_1 : GM
 | [.one a0, .fn 113 [.cells u0]], k => un 1 (fun a1 => 
  lenP a0 fun r0 =>
  lp (fun L w => slices_IndexFunc_Zone_F_impl_ServedZone_1_r0 w L
   (fun q4 => rt [.sc] [q4] k)
   (fun q5 q6 q7 q8 q9 => rt [.sc] [(I (-1))] k)) [a0, a1, (I 0), r0, (I 0)]) u0
 | _, _ => False
abbrev slices_IndexFunc_Zone_F_impl_ServedZone_1_e : Ent := ⟨[112, 113], slices_IndexFunc_Zone_F_impl_ServedZone_1⟩
def slices_IndexFunc_Zone_F_impl_ServedZone_1_l : List LE := [⟨0, ⟨[(0, .one (.pv (.bool false))), (1, .one (.fn 113 [.ro (.cells [(.bool false)])])), (4, .one (.pv (.bool false))), (7, .one (.pv (.bool false))), (8, .one (.pv (.bool false)))], [], [], 0, 19⟩, fun K k v => slices_IndexFunc_Zone_F_impl_ServedZone_1_r0 v K (fun x0 => k .ret ⟨[(4, .one (.pv x0))], [], [], 1, 19⟩) (fun x0 x1 x2 x3 x4 => k (.exit 0) ⟨[(0, .one (.pv x0)), (1, .one (.fn 113 [.ro (.cells [x1])])), (4, .one (.pv x2)), (7, .one (.pv x3)), (8, .one (.pv x4))], [], [], 0, 19⟩)⟩]
theorem slices_IndexFunc_Zone_F_impl_ServedZone_1_s : LEsOK (orac [impl_ServedZone_1_e]) TT (kk [0, 1, 4, 7, 8]) (sumsOf slices_IndexFunc_Zone_F_impl_ServedZone_1_l) Tryz.f112 slices_IndexFunc_Zone_F_impl_ServedZone_1_l := ⟨fun v K k h => by
  apply un_all h; exact fun v0 v1 v2 v3 v4 h => Eq.mpr (by kernel_rfl) h
  , trivial⟩
theorem slices_IndexFunc_Zone_F_impl_ServedZone_1_w : EntOK Tryz.prog TT slices_IndexFunc_Zone_F_impl_ServedZone_1_e := ent_ok tabok (L := [impl_ServedZone_1_e]) ⟨impl_ServedZone_1_w, trivial⟩ (keep := (kk [0, 1, 4, 7, 8])) (l := slices_IndexFunc_Zone_F_impl_ServedZone_1_l) Tryz.func112 (by kernel_rfl) (sg := [.one (.sc)]) (by kernel_rfl) slices_IndexFunc_Zone_F_impl_ServedZone_1_s fun av k h => by
  unfold slices_IndexFunc_Zone_F_impl_ServedZone_1 at h; split at h
  · apply un_all h; clear h; intro a1 h; exact Eq.mpr (by kernel_rfl) h
  · exact h.elim

def impl_ServedZone : GM
 | [.agg u0, .one a2], k => un 2 (fun a0 a1 => 
  binP .lss a2 (I 0) fun r0 =>
  iteP r0
   (rt [.sc] [(I (-1))] k)
   (call slices_IndexFunc_Zone_F_impl_ServedZone_1 [.one a0, .fn 113 [.cells [a2]]] fun o1 =>
   rt [.sc] [(atP o1 0)] k)) u0
 | _, _ => False
abbrev impl_ServedZone_e : Ent := ⟨[69], impl_ServedZone⟩
theorem impl_ServedZone_w : EntOK Tryz.prog TT impl_ServedZone_e := ent_okF tabok (L := [slices_IndexFunc_Zone_F_impl_ServedZone_1_e]) ⟨slices_IndexFunc_Zone_F_impl_ServedZone_1_w, trivial⟩ (keep := []) (l := []) Tryz.func69 (by kernel_rfl) (sg := [.one (.sc)]) (by kernel_rfl) trivial fun av k h => by
  unfold impl_ServedZone at h; split at h
  · apply un_all h; clear h; intro a0 a1 h; exact Eq.mpr (by kernel_rfl) h
  · exact h.elim

def impl_BucketOf : GM
 | [.one a0], k => 
  call impl_LabelInts [.one a0] fun o0 =>
  call impl_Hash [.one (atP o0 0)] fun o1 =>
  binP .rem (atP o1 0) (I 4) fun r2 =>
  rt [.sc] [r2] k
 | _, _ => False
abbrev impl_BucketOf_e : Ent := ⟨[70], impl_BucketOf⟩
theorem impl_BucketOf_w : EntOK Tryz.prog TT impl_BucketOf_e := ent_okF tabok (L := [impl_LabelInts_e, impl_Hash_e]) ⟨impl_LabelInts_w, impl_Hash_w, trivial⟩ (keep := []) (l := []) Tryz.func70 (by kernel_rfl) (sg := [.one (.sc)]) (by kernel_rfl) trivial fun av k h => by
  unfold impl_BucketOf at h; split at h
  · exact Eq.mpr (by kernel_rfl) h
  · exact h.elim

def slices_Clone_int : GM
 | [.one a0], k => 
  nilP false a0 fun r0 =>
  iteP r0
   (rt [.own true 3 1] [(.list 1 [])] k)
   ((0 = 0) ∧ (0 ≤ 16777216) ∧ (1 = 1) ∧ (flatRows a0) ∧ catP 1 (.list 1 []) a0 fun r1 =>
   rt [.own true 3 1] [r1] k)
 | _, _ => False
abbrev slices_Clone_int_e : Ent := ⟨[219], slices_Clone_int⟩
theorem slices_Clone_int_w : EntOK Tryz.prog TT slices_Clone_int_e := ent_ok tabok (L := []) trivial (keep := []) (l := []) Tryz.func219 (by kernel_rfl) (sg := [.one (.own true 3 1)]) (by kernel_rfl) trivial fun av k h => by
  unfold slices_Clone_int at h; split at h
  · exact Eq.mpr (by kernel_rfl) h
  · exact h.elim

def impl_copyKeys : GM
 | [.agg u0], k => un 2 (fun a0 a1 => 
  call slices_Clone_int [.one a0] fun o0 =>
  rt [.own true 3 1, .sc] [(atP o0 0), a1] k) u0
 | _, _ => False
abbrev impl_copyKeys_e : Ent := ⟨[203], impl_copyKeys⟩
theorem impl_copyKeys_w : EntOK Tryz.prog TT impl_copyKeys_e := ent_okF tabok (L := [slices_Clone_int_e]) ⟨slices_Clone_int_w, trivial⟩ (keep := []) (l := []) Tryz.func203 (by kernel_rfl) (sg := [.agg [.own true 3 1, .sc]]) (by kernel_rfl) trivial fun av k h => by
  unfold impl_copyKeys at h; split at h
  · apply un_all h; clear h; intro a0 a1 h; exact Eq.mpr (by kernel_rfl) h
  · exact h.elim

def impl_copyHead : GM
 | [.agg u0], k => un 16 (fun a0 a1 a2 a3 a4 a5 a6 a7 a8 a9 a10 a11 a12 a13 a14 a15 => 
  call impl_copyKeys [.agg [a8, a9]] fun o0 =>
  call impl_copyKeys [.agg [a10, a11]] fun o1 =>
  call impl_copyKeys [.agg [a13, a14]] fun o2 =>
  rt [.sc, .sc, .sc, .sc, .sc, .sc, .sc, .sc, .own true 3 1, .sc, .own true 3 1, .sc, .sc, .own true 3 1, .sc, .sc] [a0, a1, a2, a3, a4, a5, a6, a7, (atP o0 0), (atP o0 1), (atP o1 0), (atP o1 1), a12, (atP o2 0), (atP o2 1), a15] k) u0
 | _, _ => False
abbrev impl_copyHead_e : Ent := ⟨[170], impl_copyHead⟩
theorem impl_copyHead_w : EntOK Tryz.prog TT impl_copyHead_e := ent_okF tabok (L := [impl_copyKeys_e]) ⟨impl_copyKeys_w, trivial⟩ (keep := []) (l := []) Tryz.func170 (by kernel_rfl) (sg := [.agg [.sc, .sc, .sc, .sc, .sc, .sc, .sc, .sc, .own true 3 1, .sc, .own true 3 1, .sc, .sc, .own true 3 1, .sc, .sc]]) (by kernel_rfl) trivial fun av k h => by
  unfold impl_copyHead at h; split at h
  · apply un_all h; clear h; intro a0 a1 a2 a3 a4 a5 a6 a7 a8 a9 a10 a11 a12 a13 a14 a15 h; exact Eq.mpr (by kernel_rfl) h
  · exact h.elim

def slices_Clone_Sig : GM
 | [.one a0], k => 
  nilP false a0 fun r0 =>
  iteP r0
   (rt [.own true 222 2] [(.list 2 [])] k)
   ((0 = 0) ∧ (0 ≤ 16777216) ∧ (2 = 2) ∧ (flatRows a0) ∧ catP 2 (.list 2 []) a0 fun r1 =>
   rt [.own true 222 2] [r1] k)
 | _, _ => False
abbrev slices_Clone_Sig_e : Ent := ⟨[171], slices_Clone_Sig⟩
theorem slices_Clone_Sig_w : EntOK Tryz.prog TT slices_Clone_Sig_e := ent_ok tabok (L := []) trivial (keep := []) (l := []) Tryz.func171 (by kernel_rfl) (sg := [.one (.own true 222 2)]) (by kernel_rfl) trivial fun av k h => by
  unfold slices_Clone_Sig at h; split at h
  · exact Eq.mpr (by kernel_rfl) h
  · exact h.elim

def impl_copySigned : GM
 | [.agg u0], k => un 17 (fun a0 a1 a2 a3 a4 a5 a6 a7 a8 a9 a10 a11 a12 a13 a14 a15 a16 => 
  call impl_copyHead [.agg [a0, a1, a2, a3, a4, a5, a6, a7, a8, a9, a10, a11, a12, a13, a14, a15]] fun o0 =>
  call slices_Clone_Sig [.one a16] fun o1 =>
  rt [.sc, .sc, .sc, .sc, .sc, .sc, .sc, .sc, .own true 3 1, .sc, .own true 3 1, .sc, .sc, .own true 3 1, .sc, .sc, .own true 222 2] [(atP o0 0), (atP o0 1), (atP o0 2), (atP o0 3), (atP o0 4), (atP o0 5), (atP o0 6), (atP o0 7), (atP o0 8), (atP o0 9), (atP o0 10), (atP o0 11), (atP o0 12), (atP o0 13), (atP o0 14), (atP o0 15), (atP o1 0)] k) u0
 | _, _ => False
abbrev impl_copySigned_e : Ent := ⟨[138], impl_copySigned⟩
theorem impl_copySigned_w : EntOK Tryz.prog TT impl_copySigned_e := ent_okF tabok (L := [impl_copyHead_e, slices_Clone_Sig_e]) ⟨impl_copyHead_w, slices_Clone_Sig_w, trivial⟩ (keep := []) (l := []) Tryz.func138 (by kernel_rfl) (sg := [.agg [.sc, .sc, .sc, .sc, .sc, .sc, .sc, .sc, .own true 3 1, .sc, .own true 3 1, .sc, .sc, .own true 3 1, .sc, .sc, .own true 222 2]]) (by kernel_rfl) trivial fun av k h => by
  unfold impl_copySigned at h; split at h
  · apply un_all h; clear h; intro a0 a1 a2 a3 a4 a5 a6 a7 a8 a9 a10 a11 a12 a13 a14 a15 a16 h; exact Eq.mpr (by kernel_rfl) h
  · exact h.elim

def impl_copyChain_r0 (v : List PV) (K : List PV → Prop) (x0k : PV → PV → PV → PV → PV → Prop) : Prop :=
 un 5 (fun v0 v1 v2 v3 v4 =>
  binP .lss v2 v1 fun r0 =>
  iteP r0
   (elemP 17 v0 v2 fun c1 =>
   call impl_copySigned [.agg [(atP c1 0), (atP c1 1), (atP c1 2), (atP c1 3), (atP c1 4), (atP c1 5), (atP c1 6), (atP c1 7), (atP c1 8), (atP c1 9), (atP c1 10), (atP c1 11), (atP c1 12), (atP c1 13), (atP c1 14), (atP c1 15), (atP c1 16)]] fun o2 =>
   (1 = 1) ∧ (17 ≤ 16777216) ∧ (17 = 17) ∧ (0 = 0) ∧ (17 = 17) ∧ (flatCond [.pv (I 0), .pv (I 0), .pv (I 0), .pv (I 0), .pv (I 0), .pv (I 0), .pv (I 0), .pv (I 0), .nil 3 1, .pv (I 0), .nil 3 1, .pv (I 0), .pv (I 0), .nil 3 1, .pv (I 0), .pv (.bool false), .nil 222 2] [.pv (atP o2 0), .pv (atP o2 1), .pv (atP o2 2), .pv (atP o2 3), .pv (atP o2 4), .pv (atP o2 5), .pv (atP o2 6), .pv (atP o2 7), .own 11, .pv (atP o2 9), .own 13, .pv (atP o2 11), .pv (atP o2 12), .own 16, .pv (atP o2 14), .pv (atP o2 15), .own 19]) ∧ catP 17 v4 (.list 17 [[(atP o2 0), (atP o2 1), (atP o2 2), (atP o2 3), (atP o2 4), (atP o2 5), (atP o2 6), (atP o2 7), (atP o2 8), (atP o2 9), (atP o2 10), (atP o2 11), (atP o2 12), (atP o2 13), (atP o2 14), (atP o2 15), (atP o2 16)]]) fun r3 =>
   binP .add v2 (I 1) fun r4 =>
   K [v0, v1, r4, v3, r3])
   (x0k v0 v1 v2 v3 v4)) v
def impl_copyChain : GM
 | [.one a0], k => 
  (0 = 0) ∧ (0 ≤ 16777216) ∧ (17 = 17) ∧ lenP a0 fun r0 =>
  lp (fun L w => impl_copyChain_r0 w L
   (fun q5 q6 q7 q8 q9 => rt [.own true 148 17] [q9] k)) [a0, r0, (I 0), (.list 17 []), (.list 17 [])]
 | _, _ => False
abbrev impl_copyChain_e : Ent := ⟨[102], impl_copyChain⟩
def impl_copyChain_l : List LE := [⟨0, ⟨[(2, .one (.own 1)), (3, .one (.own 0)), (7, .one (.pv (.bool false))), (8, .one (.pv (.bool false))), (9, .one (.pv (.bool false)))], [], [(1, ⟨.deep, 148, 17, (.bool false)⟩), (0, ⟨.deep, 148, 17, (.bool false)⟩)], 2, 20⟩, fun K k v => impl_copyChain_r0 v K (fun x0 x1 x2 x3 x4 => k (.exit 0) ⟨[(2, .one (.own 1)), (3, .one (.own 0)), (7, .one (.pv x0)), (8, .one (.pv x1)), (9, .one (.pv x2))], [], [(1, ⟨.deep, 148, 17, x3⟩), (0, ⟨.deep, 148, 17, x4⟩)], 2, 20⟩)⟩]
theorem impl_copyChain_s : LEsOK (orac [impl_copySigned_e]) TT.nofl (kk [2, 3, 7, 8, 9]) (sumsOf impl_copyChain_l) Tryz.f102 impl_copyChain_l := ⟨fun v K k h => by
  apply un_all h; exact fun v0 v1 v2 v3 v4 h => Eq.mpr (by kernel_rfl) h
  , trivial⟩
theorem impl_copyChain_w : EntOK Tryz.prog TT impl_copyChain_e := ent_okF tabok (L := [impl_copySigned_e]) ⟨impl_copySigned_w, trivial⟩ (keep := (kk [2, 3, 7, 8, 9])) (l := impl_copyChain_l) Tryz.func102 (by kernel_rfl) (sg := [.one (.own true 148 17)]) (by kernel_rfl) impl_copyChain_s fun av k h => by
  unfold impl_copyChain at h; split at h
  · exact Eq.mpr (by kernel_rfl) h
  · exact h.elim

def impl_FindEntry_1 : GM
 | [.agg u0, .ro (.cells u1)], k => un 4 (fun a0 a1 a2 a3 => un 1 (fun a4 => 
  binP .eql a0 a4 fun r0 =>
  rt [.sc] [r0] k) u1) u0
 | _, _ => False
abbrev impl_FindEntry_1_e : Ent := ⟨[184], impl_FindEntry_1⟩
theorem impl_FindEntry_1_w : EntOK Tryz.prog TT impl_FindEntry_1_e := ent_okF tabok (L := []) trivial (keep := []) (l := []) Tryz.func184 (by kernel_rfl) (sg := [.one (.sc)]) (by kernel_rfl) trivial fun av k h => by
  unfold impl_FindEntry_1 at h; split at h
  · apply un_all h; clear h; intro a0 a1 a2 a3 h; apply un_all h; clear h; intro a4 h; exact Eq.mpr (by kernel_rfl) h
  · exact h.elim


end Go.Ev
