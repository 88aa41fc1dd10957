/- The tables of this load, and for each function the meaning that the evaluator gives it, with its proof, part 1. -/
import Derived.Test.YtgnmkfjaimgncaaGreatDoorEv3
import Derived.Shelf.Strconv.Itoa3
import Derived.Shelf.Strings.OnBuilder
import Derived.Shelf.Small.Strs
import Derived.Test.YtgnmkfjaimgncaaGreatDoorProg
namespace Go.Ev
open Go.Proofs
def TT : Tab := ⟨[(2, tI),
  (3, tI),
  (4, tB),
  (5, ⟨false, 1, 0, 1, [], [.pv (.int .u8 0)], some .u8, 0, false⟩),
  (6, ⟨false, 1, 0, 1, [], [.pv (.int .u8 0)], some .u8, 0, false⟩),
  (7, ⟨true, 4, 0, 24, [(0, 2), (1, 3), (2, 4), (3, 6)], [zI, zI, zB, .pv (.int .u8 0)], none, 0, true⟩),
  (8, ⟨true, 4, 0, 24, [(0, 2), (1, 3), (2, 4), (3, 6)], [zI, zI, zB, .pv (.int .u8 0)], none, 0, true⟩),
  (9, tS),
  (10, tS),
  (11, tS),
  (12, ⟨false, 1, 0, 8, [], [.pv (.int .u64 0)], some .u64, 0, false⟩),
  (13, ⟨true, 2, 0, 24, [(0, 9), (1, 12)], [zS, .pv (.int .u64 0)], none, 0, false⟩),
  (14, ⟨true, 2, 0, 24, [(0, 9), (1, 12)], [zS, .pv (.int .u64 0)], none, 0, false⟩),
  (21, ⟨false, 1, 0, 4, [], [.pv (.int .i32 0)], some .i32, 0, false⟩),
  (22, ⟨false, 1, 108, 24, [], [.nil 108 1], none, 0, false⟩),
  (23, ⟨false, 1, 56, 24, [], [.nil 56 2], none, 0, false⟩),
  (24, ⟨false, 1, 111, 24, [], [.nil 111 3], none, 0, false⟩),
  (25, ⟨false, 1, 114, 24, [], [.nil 114 2], none, 0, false⟩),
  (26, ⟨false, 1, 53, 24, [], [.nil 53 1], none, 0, false⟩),
  (27, ⟨false, 1, 163, 24, [], [.nil 163 51], none, 0, false⟩),
  (28, ⟨true, 2, 0, 48, [(0, 26), (1, 27)], [.nil 53 1, .nil 163 51], none, 0, false⟩),
  (29, ⟨true, 2, 0, 48, [(0, 26), (1, 27)], [.nil 53 1, .nil 163 51], none, 0, false⟩),
  (30, ⟨false, 1, 172, 24, [], [.nil 172 23], none, 0, false⟩),
  (31, ⟨true, 1, 0, 24, [(0, 30)], [.nil 172 23], none, 0, false⟩),
  (32, ⟨true, 1, 0, 24, [(0, 30)], [.nil 172 23], none, 0, false⟩),
  (33, ⟨true, 8, 0, 176, [(0, 3), (1, 22), (2, 23), (3, 24), (4, 25), (5, 29), (7, 32)], [zI, .nil 108 1, .nil 56 2, .nil 111 3, .nil 114 2, .nil 53 1, .nil 163 51, .nil 172 23], none, 0, false⟩),
  (34, ⟨true, 8, 0, 176, [(0, 3), (1, 22), (2, 23), (3, 24), (4, 25), (5, 29), (7, 32)], [zI, .nil 108 1, .nil 56 2, .nil 111 3, .nil 114 2, .nil 53 1, .nil 163 51, .nil 172 23], none, 0, false⟩),
  (37, ⟨false, 1, 119, 24, [], [.nil 119 1], none, 0, false⟩),
  (38, ⟨false, 1, 62, 24, [], [.nil 62 2], none, 0, false⟩),
  (39, ⟨false, 1, 122, 24, [], [.nil 122 3], none, 0, false⟩),
  (40, ⟨false, 1, 125, 24, [], [.nil 125 2], none, 0, false⟩),
  (41, ⟨false, 1, 59, 24, [], [.nil 59 1], none, 0, false⟩),
  (42, ⟨false, 1, 175, 24, [], [.nil 175 51], none, 0, false⟩),
  (43, ⟨true, 2, 0, 48, [(0, 41), (1, 42)], [.nil 59 1, .nil 175 51], none, 0, false⟩),
  (44, ⟨true, 2, 0, 48, [(0, 41), (1, 42)], [.nil 59 1, .nil 175 51], none, 0, false⟩),
  (45, ⟨false, 1, 183, 24, [], [.nil 183 23], none, 0, false⟩),
  (46, ⟨true, 1, 0, 24, [(0, 45)], [.nil 183 23], none, 0, false⟩),
  (47, ⟨true, 1, 0, 24, [(0, 45)], [.nil 183 23], none, 0, false⟩),
  (48, ⟨true, 8, 0, 176, [(0, 3), (1, 37), (2, 38), (3, 39), (4, 40), (5, 44), (7, 47)], [zI, .nil 119 1, .nil 62 2, .nil 122 3, .nil 125 2, .nil 59 1, .nil 175 51, .nil 183 23], none, 0, false⟩),
  (49, ⟨true, 8, 0, 176, [(0, 3), (1, 37), (2, 38), (3, 39), (4, 40), (5, 44), (7, 47)], [zI, .nil 119 1, .nil 62 2, .nil 122 3, .nil 125 2, .nil 59 1, .nil 175 51, .nil 183 23], none, 0, false⟩),
  (53, ⟨false, 1, 143, 24, [], [.nil 143 17], none, 0, false⟩),
  (54, ⟨false, 1, 145, 24, [], [.nil 145 4], none, 0, false⟩),
  (55, ⟨true, 2, 0, 48, [(0, 53), (1, 54)], [.nil 143 17, .nil 145 4], none, 0, false⟩),
  (56, ⟨true, 2, 0, 48, [(0, 53), (1, 54)], [.nil 143 17, .nil 145 4], none, 0, false⟩),
  (59, ⟨false, 1, 150, 24, [], [.nil 150 17], none, 0, false⟩),
  (60, ⟨false, 1, 100, 24, [], [.nil 100 4], none, 0, false⟩),
  (61, ⟨true, 2, 0, 48, [(0, 59), (1, 60)], [.nil 150 17, .nil 100 4], none, 0, false⟩),
  (62, ⟨true, 2, 0, 48, [(0, 59), (1, 60)], [.nil 150 17, .nil 100 4], none, 0, false⟩),
  (72, ⟨false, 1, 3, 24, [], [.nil 3 1], none, 0, false⟩),
  (89, ⟨true, 2, 0, 32, [(0, 72), (1, 3)], [.nil 3 1, zI], none, 0, false⟩),
  (90, ⟨true, 2, 0, 32, [(0, 72), (1, 3)], [.nil 3 1, zI], none, 0, false⟩),
  (91, ⟨true, 16, 0, 176, [(0, 3), (1, 3), (2, 3), (3, 3), (4, 3), (5, 3), (6, 3), (7, 3), (8, 90), (10, 90), (12, 3), (13, 90), (15, 4)], [zI, zI, zI, zI, zI, zI, zI, zI, .nil 3 1, zI, .nil 3 1, zI, zI, .nil 3 1, zI, zB], none, 0, false⟩),
  (92, ⟨true, 16, 0, 176, [(0, 3), (1, 3), (2, 3), (3, 3), (4, 3), (5, 3), (6, 3), (7, 3), (8, 90), (10, 90), (12, 3), (13, 90), (15, 4)], [zI, zI, zI, zI, zI, zI, zI, zI, .nil 3 1, zI, .nil 3 1, zI, zI, .nil 3 1, zI, zB], none, 0, false⟩),
  (98, ⟨false, 1, 9, 24, [], [.nil 9 1], none, 0, false⟩),
  (99, ⟨true, 4, 0, 56, [(0, 9), (1, 3), (2, 3), (3, 98)], [zS, zI, zI, .nil 9 1], none, 0, false⟩),
  (100, ⟨true, 4, 0, 56, [(0, 9), (1, 3), (2, 3), (3, 98)], [zS, zI, zI, .nil 9 1], none, 0, false⟩),
  (107, ⟨true, 1, 0, 24, [(0, 72)], [.nil 3 1], none, 0, false⟩),
  (108, ⟨true, 1, 0, 24, [(0, 72)], [.nil 3 1], none, 0, false⟩),
  (110, ⟨true, 3, 0, 72, [(0, 56), (2, 72)], [.nil 143 17, .nil 145 4, .nil 3 1], none, 0, false⟩),
  (111, ⟨true, 3, 0, 72, [(0, 56), (2, 72)], [.nil 143 17, .nil 145 4, .nil 3 1], none, 0, false⟩),
  (113, ⟨true, 2, 0, 32, [(0, 23), (1, 3)], [.nil 56 2, zI], none, 0, false⟩),
  (114, ⟨true, 2, 0, 32, [(0, 23), (1, 3)], [.nil 56 2, zI], none, 0, false⟩),
  (118, ⟨false, 1, 5, 24, [], [.nil 5 1], none, 2, false⟩),
  (119, ⟨true, 1, 0, 24, [(0, 72)], [.nil 3 1], none, 0, false⟩),
  (121, ⟨true, 3, 0, 72, [(0, 62), (2, 72)], [.nil 150 17, .nil 100 4, .nil 3 1], none, 0, false⟩),
  (122, ⟨true, 3, 0, 72, [(0, 62), (2, 72)], [.nil 150 17, .nil 100 4, .nil 3 1], none, 0, false⟩),
  (124, ⟨true, 2, 0, 32, [(0, 38), (1, 3)], [.nil 62 2, zI], none, 0, false⟩),
  (125, ⟨true, 2, 0, 32, [(0, 38), (1, 3)], [.nil 62 2, zI], none, 0, false⟩),
  (138, ⟨true, 2, 0, 32, [(0, 72), (1, 3)], [.nil 3 1, zI], none, 0, false⟩),
  (139, ⟨true, 16, 0, 176, [(0, 3), (1, 3), (2, 3), (3, 3), (4, 3), (5, 3), (6, 3), (7, 3), (8, 138), (10, 138), (12, 3), (13, 138), (15, 4)], [zI, zI, zI, zI, zI, zI, zI, zI, .nil 3 1, zI, .nil 3 1, zI, zI, .nil 3 1, zI, zB], none, 0, false⟩),
  (140, ⟨true, 16, 0, 176, [(0, 3), (1, 3), (2, 3), (3, 3), (4, 3), (5, 3), (6, 3), (7, 3), (8, 138), (10, 138), (12, 3), (13, 138), (15, 4)], [zI, zI, zI, zI, zI, zI, zI, zI, .nil 3 1, zI, .nil 3 1, zI, zI, .nil 3 1, zI, zB], none, 0, false⟩),
  (141, ⟨false, 1, 230, 24, [], [.nil 230 2], none, 0, false⟩),
  (142, ⟨true, 17, 0, 200, [(0, 140), (16, 141)], [zI, zI, zI, zI, zI, zI, zI, zI, .nil 3 1, zI, .nil 3 1, zI, zI, .nil 3 1, zI, zB, .nil 230 2], none, 0, false⟩),
  (143, ⟨true, 17, 0, 200, [(0, 140), (16, 141)], [zI, zI, zI, zI, zI, zI, zI, zI, .nil 3 1, zI, .nil 3 1, zI, zI, .nil 3 1, zI, zB, .nil 230 2], none, 0, false⟩),
  (145, ⟨true, 4, 0, 56, [(0, 9), (1, 3), (2, 3), (3, 98)], [zS, zI, zI, .nil 9 1], none, 0, false⟩),
  (148, ⟨false, 1, 228, 24, [], [.nil 228 2], none, 0, false⟩),
  (149, ⟨true, 17, 0, 200, [(0, 92), (16, 148)], [zI, zI, zI, zI, zI, zI, zI, zI, .nil 3 1, zI, .nil 3 1, zI, zI, .nil 3 1, zI, zB, .nil 228 2], none, 0, false⟩),
  (150, ⟨true, 17, 0, 200, [(0, 92), (16, 148)], [zI, zI, zI, zI, zI, zI, zI, zI, .nil 3 1, zI, .nil 3 1, zI, zI, .nil 3 1, zI, zB, .nil 228 2], none, 0, false⟩),
  (162, ⟨true, 51, 0, 600, [(0, 143), (17, 143), (34, 143)], [zI, zI, zI, zI, zI, zI, zI, zI, .nil 3 1, zI, .nil 3 1, zI, zI, .nil 3 1, zI, zB, .nil 230 2, zI, zI, zI, zI, zI, zI, zI, zI, .nil 3 1, zI, .nil 3 1, zI, zI, .nil 3 1, zI, zB, .nil 230 2, zI, zI, zI, zI, zI, zI, zI, zI, .nil 3 1, zI, .nil 3 1, zI, zI, .nil 3 1, zI, zB, .nil 230 2], none, 0, false⟩),
  (163, ⟨true, 51, 0, 600, [(0, 143), (17, 143), (34, 143)], [zI, zI, zI, zI, zI, zI, zI, zI, .nil 3 1, zI, .nil 3 1, zI, zI, .nil 3 1, zI, zB, .nil 230 2, zI, zI, zI, zI, zI, zI, zI, zI, .nil 3 1, zI, .nil 3 1, zI, zI, .nil 3 1, zI, zB, .nil 230 2, zI, zI, zI, zI, zI, zI, zI, zI, .nil 3 1, zI, .nil 3 1, zI, zI, .nil 3 1, zI, zB, .nil 230 2], none, 0, false⟩),
  (165, ⟨true, 2, 0, 32, [(0, 3), (1, 72)], [zI, .nil 3 1], none, 0, false⟩),
  (166, ⟨true, 2, 0, 32, [(0, 3), (1, 72)], [zI, .nil 3 1], none, 0, false⟩),
  (167, ⟨true, 13, 0, 184, [(0, 3), (1, 145), (5, 145), (9, 166), (11, 166)], [zI, zS, zI, zI, .nil 9 1, zS, zI, zI, .nil 9 1, zI, .nil 3 1, zI, .nil 3 1], none, 0, false⟩),
  (168, ⟨true, 13, 0, 184, [(0, 3), (1, 145), (5, 145), (9, 166), (11, 166)], [zI, zS, zI, zI, .nil 9 1, zS, zI, zI, .nil 9 1, zI, .nil 3 1, zI, .nil 3 1], none, 0, false⟩),
  (169, ⟨true, 21, 0, 304, [(0, 53), (1, 4), (2, 145), (6, 166), (8, 168)], [.nil 143 17, zB, zS, zI, zI, .nil 9 1, zI, .nil 3 1, zI, zS, zI, zI, .nil 9 1, zS, zI, zI, .nil 9 1, zI, .nil 3 1, zI, .nil 3 1], none, 0, false⟩),
  (170, ⟨true, 21, 0, 304, [(0, 53), (1, 4), (2, 145), (6, 166), (8, 168)], [.nil 143 17, zB, zS, zI, zI, .nil 9 1, zI, .nil 3 1, zI, zS, zI, zI, .nil 9 1, zS, zI, zI, .nil 9 1, zI, .nil 3 1, zI, .nil 3 1], none, 0, false⟩),
  (171, ⟨true, 23, 0, 328, [(0, 3), (1, 9), (2, 170)], [zI, zS, .nil 143 17, zB, zS, zI, zI, .nil 9 1, zI, .nil 3 1, zI, zS, zI, zI, .nil 9 1, zS, zI, zI, .nil 9 1, zI, .nil 3 1, zI, .nil 3 1], none, 0, false⟩),
  (172, ⟨true, 23, 0, 328, [(0, 3), (1, 9), (2, 170)], [zI, zS, .nil 143 17, zB, zS, zI, zI, .nil 9 1, zI, .nil 3 1, zI, zS, zI, zI, .nil 9 1, zS, zI, zI, .nil 9 1, zI, .nil 3 1, zI, .nil 3 1], none, 0, false⟩),
  (174, ⟨true, 51, 0, 600, [(0, 150), (17, 150), (34, 150)], [zI, zI, zI, zI, zI, zI, zI, zI, .nil 3 1, zI, .nil 3 1, zI, zI, .nil 3 1, zI, zB, .nil 228 2, zI, zI, zI, zI, zI, zI, zI, zI, .nil 3 1, zI, .nil 3 1, zI, zI, .nil 3 1, zI, zB, .nil 228 2, zI, zI, zI, zI, zI, zI, zI, zI, .nil 3 1, zI, .nil 3 1, zI, zI, .nil 3 1, zI, zB, .nil 228 2], none, 0, false⟩),
  (175, ⟨true, 51, 0, 600, [(0, 150), (17, 150), (34, 150)], [zI, zI, zI, zI, zI, zI, zI, zI, .nil 3 1, zI, .nil 3 1, zI, zI, .nil 3 1, zI, zB, .nil 228 2, zI, zI, zI, zI, zI, zI, zI, zI, .nil 3 1, zI, .nil 3 1, zI, zI, .nil 3 1, zI, zB, .nil 228 2, zI, zI, zI, zI, zI, zI, zI, zI, .nil 3 1, zI, .nil 3 1, zI, zI, .nil 3 1, zI, zB, .nil 228 2], none, 0, false⟩),
  (177, ⟨true, 2, 0, 32, [(0, 3), (1, 72)], [zI, .nil 3 1], none, 0, false⟩),
  (178, ⟨true, 13, 0, 184, [(0, 3), (1, 100), (5, 100), (9, 177), (11, 177)], [zI, zS, zI, zI, .nil 9 1, zS, zI, zI, .nil 9 1, zI, .nil 3 1, zI, .nil 3 1], none, 0, false⟩),
  (179, ⟨true, 13, 0, 184, [(0, 3), (1, 100), (5, 100), (9, 177), (11, 177)], [zI, zS, zI, zI, .nil 9 1, zS, zI, zI, .nil 9 1, zI, .nil 3 1, zI, .nil 3 1], none, 0, false⟩),
  (180, ⟨true, 21, 0, 304, [(0, 59), (1, 4), (2, 100), (6, 177), (8, 179)], [.nil 150 17, zB, zS, zI, zI, .nil 9 1, zI, .nil 3 1, zI, zS, zI, zI, .nil 9 1, zS, zI, zI, .nil 9 1, zI, .nil 3 1, zI, .nil 3 1], none, 0, false⟩),
  (181, ⟨true, 21, 0, 304, [(0, 59), (1, 4), (2, 100), (6, 177), (8, 179)], [.nil 150 17, zB, zS, zI, zI, .nil 9 1, zI, .nil 3 1, zI, zS, zI, zI, .nil 9 1, zS, zI, zI, .nil 9 1, zI, .nil 3 1, zI, .nil 3 1], none, 0, false⟩),
  (182, ⟨true, 23, 0, 328, [(0, 3), (1, 9), (2, 181)], [zI, zS, .nil 150 17, zB, zS, zI, zI, .nil 9 1, zI, .nil 3 1, zI, zS, zI, zI, .nil 9 1, zS, zI, zI, .nil 9 1, zI, .nil 3 1, zI, .nil 3 1], none, 0, false⟩),
  (183, ⟨true, 23, 0, 328, [(0, 3), (1, 9), (2, 181)], [zI, zS, .nil 150 17, zB, zS, zI, zI, .nil 9 1, zI, .nil 3 1, zI, zS, zI, zI, .nil 9 1, zS, zI, zI, .nil 9 1, zI, .nil 3 1, zI, .nil 3 1], none, 0, false⟩),
  (227, ⟨true, 2, 0, 16, [(0, 3), (1, 3)], [zI, zI], none, 0, true⟩),
  (228, ⟨true, 2, 0, 16, [(0, 3), (1, 3)], [zI, zI], none, 0, true⟩),
  (230, ⟨true, 2, 0, 16, [(0, 3), (1, 3)], [zI, zI], none, 0, true⟩),
  (239, ⟨false, 1, 0, 8, [], [.pv (.int .u64 0)], some .u64, 0, false⟩),
  (261, ⟨false, 1, 0, 4, [], [.pv (.int .u32 0)], some .u32, 0, false⟩),
  (263, ⟨false, 1, 0, 8, [], [.pv (.int .u64 0)], some .u64, 0, false⟩),
  (282, ⟨false, 1, 72, 24, [], [.nil 72 1], none, 0, false⟩),
  (291, ⟨false, 1, 0, 1, [], [.pv (.int .u8 0)], some .u8, 0, false⟩),
  (292, ⟨false, 1, 0, 1, [], [.pv (.int .u8 0)], some .u8, 0, false⟩),
  (294, ⟨false, 1, 0, 4, [], [.pv (.int .i32 0)], some .i32, 0, false⟩),
  (295, ⟨false, 1, 0, 4, [], [.pv (.int .i32 0)], some .i32, 0, false⟩)],
  [(0, []), (1, []), (2, []), (3, [.one (.sc)]), (4, [.one (.sc)]), (5, [.one (.sc)]), (6, [.one (.sc)]), (7, [.agg [.sc, .own true 119 1, .own true 62 2, .own true 122 3, .own true 125 2, .own true 59 1, .own true 175 51, .own true 183 23]]), (8, [.one (.sc)]), (9, [.one (.sc)]), (10, [.one (.sc)]), (11, [.one (.sc)]), (12, [.agg [.own true 150 17, .own true 100 4]]), (13, [.one (.sc)]), (14, [.one (.sc)]), (15, [.one (.sc)]), (16, [.one (.sc)]), (17, [.one (.sc)]), (18, [.one (.sc)]), (19, [.one (.sc)]), (20, [.one (.sc)]), (21, [.one (.sc)]), (22, [.one (.own true 119 1)]), (23, [.one (.own true 62 2)]), (24, [.one (.own true 122 3)]), (25, [.one (.own true 125 2)]), (26, [.agg [.own true 59 1, .own true 175 51]]), (27, [.agg [.own true 183 23]]), (28, [.one (.sc)]), (29, [.one (.sc)]), (30, [.one (.sc)]), (31, [.one (.sc)]), (32, [.one (.sc)]), (33, [.one (.sc)]), (34, [.one (.sc)]), (35, [.one (.sc)]), (36, [.one (.sc)]), (37, [.one (.sc)]), (38, [.agg [.sc, .sc, .sc, .sc, .sc, .sc, .sc, .sc, .pv, .sc, .pv, .sc, .sc, .pv, .sc, .sc], .one (.sc)]), (39, [.one (.sc)]), (40, [.one (.sc)]), (41, [.one (.sc)]), (42, [.one (.own true 150 17)]), (43, [.one (.own true 100 4)]), (44, [.one (.sc)]), (45, [.one (.sc)]), (46, [.agg [.sc, .sc, .sc, .sc, .sc, .sc, .sc, .sc, .pv, .sc, .pv, .sc, .sc, .pv, .sc, .sc]]), (47, [.one (.sc)]), (48, [.one (.sc)]), (49, [.one (.sc)]), (50, [.one (.sc)]), (51, [.one (.sc)]), (52, [.one (.sc)]), (53, [.one (.sc)]), (54, [.one (.sc)]), (55, [.one (.sc)]), (56, [.agg [.own true 3 1]]), (57, [.agg [.own true 150 17, .own true 100 4, .own true 3 1]]), (58, [.agg [.own true 62 2, .sc]]), (59, [.one (.own true 59 1)]), (60, [.one (.own true 175 51)]), (61, [.one (.own true 183 23)]), (62, [.one (.sc)]), (63, [.one (.sc)]), (64, [.one (.sc)]), (65, [.one (.sc)]), (66, [.one (.sc)]), (67, [.one (.sc)]), (68, [.one (.sc)]), (69, [.one (.sc)]), (70, [.one (.sc)]), (71, [.one (.sc)]), (72, [.one (.sc)]), (73, [.agg [.sc, .sc, .sc, .sc, .sc, .sc, .sc, .sc, .pv, .sc, .pv, .sc, .sc, .pv, .sc, .sc]]), (74, [.one (.sc)]), (75, [.one (.sc)]), (76, [.one (.sc)]), (77, [.one (.sc)]), (78, [.agg [.sc, .sc, .sc, .sc, .sc, .sc, .sc, .sc, .own true 3 1, .sc, .own true 3 1, .sc, .sc, .own true 3 1, .sc, .sc, .own true 228 2]]), (79, [.agg [.sc, .sc, .sc, .own true 9 1]]), (80, [.one (.sc)]), (81, [.one (.sc)]), (82, [.one (.sc)]), (83, [.one (.sc)]), (84, [.one (.sc)]), (85, [.one (.sc)]), (86, [.one (.sc)]), (87, [.one (.sc)]), (88, [.one (.sc)]), (89, [.one (.sc)]), (90, [.one (.own true 3 1)]), (91, [.agg [.sc, .sc, .sc, .sc, .sc, .sc, .sc, .sc, .own true 3 1, .sc, .own true 3 1, .sc, .sc, .own true 3 1, .sc, .sc, .own true 228 2, .sc, .sc, .sc, .sc, .sc, .sc, .sc, .sc, .own true 3 1, .sc, .own true 3 1, .sc, .sc, .own true 3 1, .sc, .sc, .own true 228 2, .sc, .sc, .sc, .sc, .sc, .sc, .sc, .sc, .own true 3 1, .sc, .own true 3 1, .sc, .sc, .own true 3 1, .sc, .sc, .own true 228 2]]), (92, [.agg [.sc, .sc, .own true 150 17, .sc, .sc, .sc, .sc, .own true 9 1, .sc, .own true 3 1, .sc, .sc, .sc, .sc, .own true 9 1, .sc, .sc, .sc, .own true 9 1, .sc, .own true 3 1, .sc, .own true 3 1]]), (93, [.one (.sc)]), (94, []), (96, [.one (.sc)]), (97, [.one (.sc)]), (98, [.one (.sc)]), (99, [.one (.sc)]), (100, [.one (.sc)]), (101, [.one (.sc)]), (102, [.one (.sc)]), (103, [.one (.sc)]), (104, [.agg [.pv, .sc]]), (105, [.one (.sc)]), (106, [.one (.sc)]), (107, [.one (.sc)]), (108, [.one (.sc)]), (109, [.agg [.sc, .sc, .sc, .sc, .sc, .sc, .sc, .sc, .own true 3 1, .sc, .own true 3 1, .sc, .sc, .own true 3 1, .sc, .sc]]), (110, [.one (.own true 228 2)]), (111, [.one (.own true 9 1)]), (112, [.one (.sc)]), (113, [.one (.sc)]), (114, [.one (.sc)]), (115, [.one (.sc)]), (116, [.one (.sc)]), (117, [.one (.sc)]), (118, [.one (.sc)]), (119, [.one (.sc)]), (120, [.one (.sc)]), (121, [.one (.sc)]), (122, [.agg [.own true 150 17, .sc, .sc, .sc, .sc, .own true 9 1, .sc, .own true 3 1, .sc, .sc, .sc, .sc, .own true 9 1, .sc, .sc, .sc, .own true 9 1, .sc, .own true 3 1, .sc, .own true 3 1]]), (123, [.one (.sc)]), (124, []), (125, []), (126, [.one (.sc)]), (127, [.one (.sc)]), (128, [.one (.sc)]), (129, [.one (.sc)]), (130, [.one (.sc)]), (131, [.one (.sc)]), (132, [.one (.sc)]), (133, [.one (.sc)]), (134, [.one (.own true 3 1)]), (135, [.one (.sc)]), (136, [.agg [.own true 3 1, .sc]]), (137, [.agg [.sc, .sc]]), (138, [.one (.sc)]), (139, [.one (.sc)]), (140, [.one (.sc)]), (141, [.one (.sc)]), (142, [.one (.sc)]), (143, [.one (.sc)]), (144, [.one (.own true 3 1)]), (145, [.one (.sc)]), (146, [.one (.sc)]), (147, [.one (.sc)]), (148, [.one (.sc)]), (149, [.one (.sc)]), (150, [.one (.sc)]), (151, [.one (.sc)]), (152, [.agg [.sc, .own true 3 1]]), (153, [.agg [.sc, .sc, .sc, .sc, .own true 9 1, .sc, .sc, .sc, .own true 9 1, .sc, .own true 3 1, .sc, .own true 3 1]]), (154, [.one (.sc)]), (155, [.one (.sc)]), (156, []), (157, [.one (.own true 5 1), .one (.sc)]), (159, [.one (.own true 5 1)]), (160, [.one (.sc)]), (161, [.one (.sc)]), (162, [.one (.sc)]), (163, [.one (.sc)]), (164, [.one (.sc)]), (165, [.one (.own true 3 1)]), (166, [.one (.sc)]), (167, [.one (.sc)]), (168, [.one (.own true 3 1)]), (169, [.one (.sc)]), (170, [.one (.sc)]), (171, [.one (.sc)]), (172, [.one (.sc)]), (173, [.one (.sc)]), (174, [.one (.sc)]), (175, [.one (.sc)]), (176, [.one (.sc)]), (177, [.one (.own true 3 1)]), (178, [.one (.sc)]), (179, [.one (.sc)]), (180, [.one (.sc)]), (181, [.one (.sc)]), (182, [.one (.sc)]), (183, [.one (.sc)]), (184, [.one (.sc)]), (185, [.one (.sc)]), (186, [.one (.own true 3 1)]), (187, [.one (.sc)]), (188, [.one (.sc)]), (189, [.one (.sc)]), (190, [.one (.sc)]), (191, [.one (.sc)]), (192, [.one (.sc)]), (193, [.one (.sc)]), (194, [.one (.own true 3 1)]), (195, [.one (.sc)]), (196, [.one (.sc)]), (197, [.one (.sc)]), (198, [.one (.sc)]), (199, [.one (.sc)]), (200, [.one (.own true 3 1)]), (201, [.one (.sc)]), (202, [.one (.own true 3 1)]), (203, [.one (.sc)]), (204, [.one (.sc)]), (205, [.one (.sc)]), (206, [.one (.sc)]), (207, [.one (.sc)]), (208, [.one (.sc)]), (209, [.one (.own true 3 1)]), (210, [.one (.sc)]), (211, [.one (.sc)]), (212, [.one (.sc)]), (213, [.one (.sc)]), (214, [.one (.sc)]), (215, [.one (.own true 3 1)]), (216, [.one (.sc)]), (217, [.one (.sc)]), (218, [.one (.sc)]), (219, [.one (.sc)]), (220, [.one (.own true 3 1)]), (221, [.one (.sc)]), (222, [.one (.sc)]), (223, [.one (.sc)]), (224, [.one (.sc)]), (225, [.one (.sc)]), (226, [.one (.own true 3 1)]), (227, [.one (.sc)]), (228, [.one (.sc)]), (229, [.one (.own true 3 1)]), (230, [.one (.sc)]), (231, [.one (.sc)]), (232, [.one (.sc)]), (233, [.one (.own true 3 1)]), (234, [.one (.sc)]), (235, [.one (.own true 3 1)]), (236, [.one (.sc)]), (237, [.one (.sc)]), (238, [.one (.sc)]), (239, [.one (.sc)]), (240, [.one (.sc)]), (241, []), (242, [.one (.sc)]), (243, []), (244, [.one (.sc)]), (245, []), (246, [.one (.sc)]), (247, []), (248, [.one (.sc)]), (249, []), (250, [.one (.sc)]), (251, []), (252, [.one (.sc)]), (253, [.one (.sc)]), (254, []), (255, [.one (.sc)]), (256, [.one (.sc)]), (257, [.one (.sc)]), (258, [.one (.sc)]), (259, []), (260, [.one (.sc)]), (261, []), (262, []), (263, []), (264, []), (265, []), (266, [])], false, [233], [], [150, 100]⟩
theorem tabok : TabOK Tryz.prog TT := tabB_ok (by kernel_rfl) (by kernel_rfl)
end Go.Ev
/- The library's numeral and its joining of strings, by the shelf's contracts. -/
set_option maxRecDepth 100000
namespace Go.Ev
open Go.RowKit Go.Proofs
def rhoI : Go.Shelf.Ren := ⟨fun n => match n with | 171 => 62 | 243 => 93 | 246 => 123 | 283 => 154 | 284 => 155 | 285 => 156 | 286 => 157 | 129 => 181 | 317 => 180 | 318 => 182 | 319 => 183 | 320 => 184 | 337 => 210 | 338 => 211 | n => n, fun n => match n with | 3 => 3 | 9 => 9 | 2 => 2 | 4 => 4 | 171 => 238 | 0 => 0 | 53 => 239 | 37 => 118 | 5 => 5 | 173 => 242 | 212 => 260 | 51 => 261 | 20 => 20 | 213 => 262 | 46 => 263 | 232 => 276 | 233 => 277 | n => n, fun n => match n with | 17 => 0 | 18 => 2 | 19 => 3 | n => n⟩
def rhoJ : Go.Shelf.Ren := ⟨fun n => match n with | 156 => 63 | 165 => 94 | 166 => 95 | 169 => 96 | 240 => 124 | 241 => 125 | 276 => 158 | 277 => 159 | n => n, fun n => match n with | 31 => 98 | 9 => 9 | 3 => 3 | 4 => 4 | 0 => 0 | 20 => 20 | 72 => 187 | 76 => 191 | 70 => 185 | 37 => 118 | 75 => 190 | 127 => 215 | 164 => 244 | 5 => 5 | 80 => 193 | n => n, fun n => n⟩
theorem laysI : Go.Proofs.LaysM.n171 Tryz.prog rhoI where
  mixed := by kernel_rfl
  f129 := by kernel_rfl
  f171 := by kernel_rfl
  f243 := by kernel_rfl
  f246 := by kernel_rfl
  f283 := by kernel_rfl
  f284 := by kernel_rfl
  f285 := by kernel_rfl
  f286 := by kernel_rfl
  f317 := by kernel_rfl
  f318 := by kernel_rfl
  f319 := by kernel_rfl
  f320 := by kernel_rfl
  f337 := by kernel_rfl
  f338 := by kernel_rfl
  t0 := by kernel_rfl
  a0 := fun w => by kernel_rfl
  z0 := fun w => by kernel_rfl
  v0 := fun w => by kernel_rfl
  t2 := by kernel_rfl
  a2 := fun w => by kernel_rfl
  z2 := fun w => by kernel_rfl
  v2 := fun w => by kernel_rfl
  t3 := by kernel_rfl
  a3 := fun w => by kernel_rfl
  z3 := fun w => by kernel_rfl
  v3 := fun w => by kernel_rfl
  t4 := by kernel_rfl
  a4 := fun w => by kernel_rfl
  z4 := fun w => by kernel_rfl
  v4 := fun w => by kernel_rfl
  t5 := by kernel_rfl
  a5 := fun w => by kernel_rfl
  z5 := fun w => by kernel_rfl
  v5 := fun w => by kernel_rfl
  t9 := by kernel_rfl
  a9 := fun w => by kernel_rfl
  z9 := fun w => by kernel_rfl
  v9 := fun w => by kernel_rfl
  t20 := by kernel_rfl
  a20 := fun w => by kernel_rfl
  z20 := fun w => by kernel_rfl
  v20 := fun w => by kernel_rfl
  t37 := by kernel_rfl
  a37 := fun w => by kernel_rfl
  z37 := fun w => by kernel_rfl
  v37 := fun w => by kernel_rfl
  t46 := by kernel_rfl
  a46 := fun w => by kernel_rfl
  z46 := fun w => by kernel_rfl
  v46 := fun w => by kernel_rfl
  t51 := by kernel_rfl
  a51 := fun w => by kernel_rfl
  z51 := fun w => by kernel_rfl
  v51 := fun w => by kernel_rfl
  t53 := by kernel_rfl
  a53 := fun w => by kernel_rfl
  z53 := fun w => by kernel_rfl
  v53 := fun w => by kernel_rfl
  t171 := by kernel_rfl
  a171 := fun w => by kernel_rfl
  z171 := fun w => by kernel_rfl
  v171 := fun w => by kernel_rfl
  t173 := by kernel_rfl
  a173 := fun w => by kernel_rfl
  z173 := fun w => by kernel_rfl
  v173 := fun w => by kernel_rfl
  t212 := by kernel_rfl
  a212 := fun w => by kernel_rfl
  z212 := fun w => by kernel_rfl
  v212 := fun w => by kernel_rfl
  t213 := by kernel_rfl
  a213 := fun w => by kernel_rfl
  z213 := fun w => by kernel_rfl
  t232 := by kernel_rfl
  a232 := fun w => by kernel_rfl
  z232 := fun w => by kernel_rfl
  v232 := fun w => by kernel_rfl
  t233 := by kernel_rfl
  a233 := fun w => by kernel_rfl
  z233 := fun w => by kernel_rfl
  v233 := fun w => by kernel_rfl
  g17 := by kernel_rfl
  g18 := by kernel_rfl
  g19 := by kernel_rfl
  i0 := by kernel_rfl
  i2 := by kernel_rfl
  i3 := by kernel_rfl
  i4 := by kernel_rfl
  i5 := by kernel_rfl
  i9 := by kernel_rfl
  i20 := by kernel_rfl
  i37 := by kernel_rfl
  i46 := by kernel_rfl
  i51 := by kernel_rfl
  i53 := by kernel_rfl
  i171 := by kernel_rfl
  i173 := by kernel_rfl
  i212 := by kernel_rfl
  i232 := by kernel_rfl
  i233 := by kernel_rfl
  m17 := by kernel_rfl
  m18 := by kernel_rfl
  m19 := by kernel_rfl
theorem laysJ : Go.Proofs.Lays.n156 Tryz.prog rhoJ where
  mixed := by kernel_rfl
  f156 := by kernel_rfl
  f165 := by kernel_rfl
  f166 := by kernel_rfl
  f169 := by kernel_rfl
  f240 := by kernel_rfl
  f241 := by kernel_rfl
  f276 := by kernel_rfl
  f277 := by kernel_rfl
  t0 := by kernel_rfl
  a0 := fun w => by kernel_rfl
  z0 := fun w => by kernel_rfl
  v0 := fun w => by kernel_rfl
  t3 := by kernel_rfl
  a3 := fun w => by kernel_rfl
  z3 := fun w => by kernel_rfl
  v3 := fun w => by kernel_rfl
  t4 := by kernel_rfl
  a4 := fun w => by kernel_rfl
  z4 := fun w => by kernel_rfl
  v4 := fun w => by kernel_rfl
  t9 := by kernel_rfl
  a9 := fun w => by kernel_rfl
  z9 := fun w => by kernel_rfl
  v9 := fun w => by kernel_rfl
  t20 := by kernel_rfl
  a20 := fun w => by kernel_rfl
  z20 := fun w => by kernel_rfl
  v20 := fun w => by kernel_rfl
  t31 := by kernel_rfl
  a31 := fun w => by kernel_rfl
  z31 := fun w => by kernel_rfl
  v31 := fun w => by kernel_rfl
  t37 := by kernel_rfl
  a37 := fun w => by kernel_rfl
  z37 := fun w => by kernel_rfl
  v37 := fun w => by kernel_rfl
  t70 := by kernel_rfl
  a70 := fun w => by kernel_rfl
  z70 := fun w => by kernel_rfl
  v70 := fun w => by kernel_rfl
  t72 := by kernel_rfl
  a72 := fun w => by kernel_rfl
  z72 := fun w => by kernel_rfl
  v72 := fun w => by kernel_rfl
  t75 := by kernel_rfl
  a75 := fun w => by kernel_rfl
  z75 := fun w => by kernel_rfl
  v75 := fun w => by kernel_rfl
  t76 := by kernel_rfl
  a76 := fun w => by kernel_rfl
  z76 := fun w => by kernel_rfl
  v76 := fun w => by kernel_rfl
  t127 := by kernel_rfl
  a127 := fun w => by kernel_rfl
  z127 := fun w => by kernel_rfl
  v127 := fun w => by kernel_rfl
  t164 := by kernel_rfl
  a164 := fun w => by kernel_rfl
  z164 := fun w => by kernel_rfl
  v164 := fun w => by kernel_rfl
theorem extraJ : Builder.Extra Tryz.prog rhoJ where
  sizeBuilder := by kernel_rfl
  liesBuilder := by kernel_rfl
  t5 := by kernel_rfl
  a5 := fun w => by kernel_rfl
  z5 := fun w => by kernel_rfl
  v5 := fun w => by kernel_rfl
  infoByte := by kernel_rfl
  cellsByte := by kernel_rfl
  sizeByte := by kernel_rfl
  neB5 := by decide
theorem below_grow (w : World) (k : Nat) (os : Array Obj) : Below w.heap.size w (Sort.grow (w.drewN k) os) :=
  ⟨rfl, rfl, rfl, by simp [Sort.grow, World.drewN], fun j hj => by
    show ((w.drewN k).heap ++ os)[j]? = w.heap[j]?
    rw [Array.getElem?_append_left (by exact hj)]; rfl⟩
def strconv_Itoa : GM
 | [.one (.int .i64 n)], k => -9223372036854775808 ≤ n ∧ n ≤ 9223372036854775807 ∧ k [.str ⟨(Go.Lib.itoa n).toArray⟩]
 | _, _ => False
abbrev strconv_Itoa_e : Ent := ⟨[62], strconv_Itoa⟩
theorem strconv_Itoa_w : EntOK Tryz.prog TT strconv_Itoa_e := by
  intro f av out hk hg sg hsg
  injection hk with hk hn
  subst hk
  have hs : lk TT.sig 62 = some [.one .sc] := by kernel_rfl
  rw [hs] at hsg
  injection hsg with hsg
  subst hsg
  change strconv_Itoa av _ at hg
  unfold strconv_Itoa at hg
  split at hg
  · rename_i n
    obtain ⟨b1, b2, rfl⟩ := hg
    refine ⟨⟨Tryz.f62, Tryz.func62, by kernel_rfl, by kernel_rfl⟩, fun w S vals hE hS hv => ?_⟩
    obtain ⟨v1, r, rfl, h1, h3⟩ := hv
    have h3 : r = [] := h3
    subst h3
    have e1 : v1 = .int .i64 n := RepS.int_inv h1
    subst e1
    refine (Any.strconv_Itoa laysI n b1 b2 w hE).mono ?_
    rintro e w' ⟨rfl, kk, os, rfl⟩
    have hb := below_grow w kk os
    refine ⟨_, S, fun _ => none, [.string ⟨(Go.Lib.itoa n).toArray⟩], rfl, rfl, hb, fun _ h => h, fun x hx => ⟨rfl, Nat.lt_of_lt_of_le (hS x hx) hb.size, .inl hx⟩, fun x i h => (nomatch h), rfl, rfl, fun i ck v h4 h5 => ?_⟩
    cases i with
    | zero =>
      simp [allCks, RS.cks] at h4 h5
      subst h4; subst h5
      exact RepS.str
    | succ i => simp [allCks, RS.cks] at h4
  · exact hg.elim
def strsOf : List (List PV) → Option (List ByteArray)
  | [] => some []
  | [.str s] :: r => match strsOf r with | some l => some (s :: l) | none => none
  | _ => none
theorem strsOf_vals {w : World} : ∀ {rows : List (List PV)} {l : List ByteArray} {news : List Value} {N : List Nat}, strsOf rows = some l → RepVals w rows.flatten news N → news = l.map Value.string ∧ rows.length = l.length
  | [], l, news, N, h, hv => by
    simp only [strsOf] at h; injection h with h; subst h
    cases hv
    exact ⟨rfl, rfl⟩
  | [.str s] :: r, l, news, N, h, hv => by
    simp only [strsOf] at h
    split at h
    · rename_i m hm
      injection h with h
      subst h
      simp only [List.flatten_cons, List.cons_append, List.nil_append] at hv
      cases hv with
      | str hv' =>
        obtain ⟨h1, h3⟩ := strsOf_vals hm hv'
        exact ⟨by rw [h1]; rfl, by simp [h3]⟩
    · cases h
def joinS (l : List ByteArray) (sep : ByteArray) : List UInt8 := Go.Lib.join (l.map (·.data.toList)) sep.data.toList
def strings_Join : GM
 | [.one (.list 1 rows), .one (.str sep)], k => match strsOf rows with
   | some l => l.length ≤ 140737488355328 ∧ (joinS l sep).length ≤ 140737488355328 ∧ k [.str ⟨(joinS l sep).toArray⟩]
   | none => False
 | _, _ => False
abbrev strings_Join_e : Ent := ⟨[63], strings_Join⟩
theorem strings_Join_w : EntOK Tryz.prog TT strings_Join_e := by
  intro f av out hk hg sg hsg
  injection hk with hk hn
  subst hk
  have hs : lk TT.sig 63 = some [.one .sc] := by kernel_rfl
  rw [hs] at hsg
  injection hsg with hsg
  subst hsg
  change strings_Join av _ at hg
  unfold strings_Join at hg
  split at hg
  · rename_i rows sep
    split at hg
    · rename_i l hl
      obtain ⟨b1, b2, rfl⟩ := hg
      refine ⟨⟨Tryz.f63, Tryz.func63, by kernel_rfl, by kernel_rfl⟩, fun w S vals hE hS hv => ?_⟩
      obtain ⟨v1, r, rfl, h1, v2, r2, rfl, h2, h3⟩ := hv
      have h3 : r2 = [] := h3
      subst h3
      have e2 : v2 = .string sep := RepS.str_inv h2
      subst e2
      have h1' : RepS S w [.list 1 rows] [v1] := h1
      have key : Calls Tryz.prog 63 #[v1, .string sep] w fun e w' => e = .returned (.string ⟨(joinS l sep).toArray⟩) ∧ Below w.heap.size w w' := by
        obtain ⟨N, h1, hN⟩ := h1'
        cases h1 with
        | @lnil _ ad cap _ _ _ hn =>
          simp only [strsOf] at hl; injection hl with hl; subst hl
          refine (Any.strings_Join_none laysJ extraJ ad cap sep w).mono ?_
          rintro e w' ⟨rfl, rfl⟩
          exact ⟨rfl, Below.refl _ _⟩
        | @list _ _ b off cap xs N1 _ _ N2 hs h0 hl2 hc cells hv hn =>
          obtain ⟨rfl, hlen⟩ := strsOf_vals hl hv
          have hb : b < w.heap.size := hS b (hN b (by simp))
          rw [hlen]
          refine Any.strings_Join laysJ extraJ b off cap l sep w (fun j x hx => ?_) hb b1 (by rw [← hlen]; omega) b2
          exact cells j (.string x) (by rw [List.getElem?_map, hx]; rfl)
      refine key.mono ?_
      rintro e w' ⟨rfl, hb⟩
      refine ⟨_, S, fun _ => none, [.string ⟨(joinS l sep).toArray⟩], rfl, rfl, hb, fun _ h => h, fun x hx => ⟨rfl, Nat.lt_of_lt_of_le (hS x hx) hb.size, .inl hx⟩, fun x i h => (nomatch h), rfl, rfl, fun i ck v h4 h5 => ?_⟩
      cases i with
      | zero =>
        simp [allCks, RS.cks] at h4 h5
        subst h4; subst h5
        exact RepS.str
      | succ i => simp [allCks, RS.cks] at h4
    · exact hg.elim
  · exact hg.elim
end Go.Ev
/- The library's comparison of strings, by the shelf's contract. -/
set_option maxRecDepth 100000
namespace Go.Ev
open Go.Proofs
def rhoC : Go.Shelf.Ren := ⟨fun n => match n with | 106 => 175 | 213 => 207 | 265 => 225 | _ => 0, fun t => t, fun g => g⟩
theorem laysC : Go.Proofs.Lays.n213 Tryz.prog rhoC where
  mixed := by kernel_rfl
  f213 := by kernel_rfl
  f265 := by kernel_rfl
  t3 := by kernel_rfl
  a3 := fun w => by kernel_rfl
  z3 := fun w => by kernel_rfl
  v3 := fun w => by kernel_rfl
  t9 := by kernel_rfl
  a9 := fun w => by kernel_rfl
  z9 := fun w => by kernel_rfl
  v9 := fun w => by kernel_rfl
def bytealg_CompareString : GM
 | [.one (.str s), .one (.str t)], k => k [I (Go.Lib.compareBytes s.data.toList t.data.toList)]
 | _, _ => False
abbrev bytealg_CompareString_e : Ent := ⟨[207], bytealg_CompareString⟩
theorem bytealg_CompareString_w : EntOK Tryz.prog TT bytealg_CompareString_e := by
  intro f av out hk hg sg hsg
  injection hk with hk hn
  subst hk
  have hs : lk TT.sig 207 = some [.one .sc] := by kernel_rfl
  rw [hs] at hsg
  injection hsg with hsg
  subst hsg
  change bytealg_CompareString av _ at hg
  unfold bytealg_CompareString at hg
  split at hg
  · rename_i s t
    subst hg
    refine ⟨⟨Tryz.f207, Tryz.func207, by kernel_rfl, by kernel_rfl⟩, fun w S vals _ hS hv => ?_⟩
    obtain ⟨v1, r, rfl, h1, v2, r2, rfl, h2, h3⟩ := hv
    have h3 : r2 = [] := h3
    subst h3
    have e1 : v1 = .string s := RepS.str_inv h1
    have e2 : v2 = .string t := RepS.str_inv h2
    subst e1; subst e2
    refine (Any.bytealg_CompareString laysC s t w).mono ?_
    rintro e w' ⟨rfl, rfl⟩
    refine ⟨_, S, fun _ => none, [.int .i64 (Go.Lib.compareBytes s.data.toList t.data.toList)], rfl, rfl, .refl _ _, fun _ h => h, fun x hx => ⟨rfl, hS x hx, .inl hx⟩, fun x i h => (nomatch h), rfl, rfl, fun i ck v h4 h5 => ?_⟩
    cases i with
    | zero =>
      simp [allCks, RS.cks] at h4 h5
      subst h4; subst h5
      exact RepS.int
    | succ i => simp [allCks, RS.cks] at h4
  · exact hg.elim
end Go.Ev
set_option maxRecDepth 100000
set_option linter.unusedVariables false
namespace Go.Ev
open Go.Proofs
def laws_szIntS : GM
 | [.one a0, .one a1], k => 
  lenP a0 fun r0 =>
  binP .sub a1 r0 fun r1 =>
  binP .lss r1 (I 0) fun r2 =>
  iteP r2
   (rt [.sc] [(I (-1))] k)
   (rt [.sc] [r1] k)
 | _, _ => False
abbrev laws_szIntS_e : Ent := ⟨[87], laws_szIntS⟩
theorem laws_szIntS_w : EntOK Tryz.prog TT laws_szIntS_e := ent_ok tabok (L := []) trivial (keep := []) (l := []) Tryz.func87 (by kernel_rfl) (sg := [.one (.sc)]) (by kernel_rfl) trivial fun av k h => by
  unfold laws_szIntS at h; split at h
  · exact Eq.mpr (by kernel_rfl) h
  · exact h.elim

def laws_szActor : GM
 | [.agg u0, .one a1], k => un 1 (fun a0 => 
  call laws_szIntS [.one a0, .one a1] fun o0 =>
  binP .lss (atP o0 0) (I 0) fun r1 =>
  iteP r1
   (rt [.sc] [(I (-1))] k)
   (rt [.sc] [(atP o0 0)] k)) u0
 | _, _ => False
abbrev laws_szActor_e : Ent := ⟨[50], laws_szActor⟩
theorem laws_szActor_w : EntOK Tryz.prog TT laws_szActor_e := ent_ok tabok (L := [laws_szIntS_e]) ⟨laws_szIntS_w, trivial⟩ (keep := []) (l := []) Tryz.func50 (by kernel_rfl) (sg := [.one (.sc)]) (by kernel_rfl) trivial fun av k h => by
  unfold laws_szActor at h; split at h
  · apply un_all h; clear h; intro a0 h; exact Eq.mpr (by kernel_rfl) h
  · exact h.elim

def laws_szActorS_r0 (v : List PV) (K : List PV → Prop) (x0k : Prop) (x1k : PV → PV → PV → PV → Prop) : Prop :=
 un 4 (fun v0 v1 v2 v3 =>
  lenP v0 fun r0 =>
  binP .lss v3 r0 fun r1 =>
  iteP r1
   (elemP 1 v0 v3 fun c2 =>
   call laws_szActor [.agg [(atP c2 0)], .one v1] fun o3 =>
   binP .lss (atP o3 0) (I 0) fun r4 =>
   iteP r4
    (x0k)
    (binP .add v3 (I 1) fun r5 =>
    K [v0, (atP o3 0), v2, r5]))
   (x1k v0 v1 v2 v3)) v
def laws_szActorS : GM
 | [.one a0, .one a1], k => 
  lenP a0 fun r0 =>
  binP .sub a1 r0 fun r1 =>
  binP .lss r1 (I 0) fun r2 =>
  iteP r2
   (rt [.sc] [(I (-1))] k)
   (lp (fun L w => laws_szActorS_r0 w L
    (rt [.sc] [(I (-1))] k)
    (fun q6 q7 q8 q9 => rt [.sc] [q7] k)) [a0, r1, (I 0), (I 0)])
 | _, _ => False
abbrev laws_szActorS_e : Ent := ⟨[15], laws_szActorS⟩
def laws_szActorS_l : List LE := [⟨0, ⟨[(0, .one (.pv (.bool false))), (1, .one (.pv (.bool false))), (4, .one (.pv (.bool false))), (5, .one (.pv (.bool false)))], [], [], 0, 27⟩, fun K k v => laws_szActorS_r0 v K (k .ret ⟨[(4, .one (.pv (I (-1))))], [], [], 1, 27⟩) (fun x0 x1 x2 x3 => k (.exit 0) ⟨[(0, .one (.pv x0)), (1, .one (.pv x1)), (4, .one (.pv x2)), (5, .one (.pv x3))], [], [], 0, 27⟩)⟩]
theorem laws_szActorS_s : LEsOK (orac [laws_szActor_e]) TT (kk [0, 1, 4, 5]) (sumsOf laws_szActorS_l) Tryz.f15 laws_szActorS_l := ⟨fun v K k h => by
  apply un_all h; exact fun v0 v1 v2 v3 h => Eq.mpr (by kernel_rfl) h
  , trivial⟩
theorem laws_szActorS_w : EntOK Tryz.prog TT laws_szActorS_e := ent_ok tabok (L := [laws_szActor_e]) ⟨laws_szActor_w, trivial⟩ (keep := (kk [0, 1, 4, 5])) (l := laws_szActorS_l) Tryz.func15 (by kernel_rfl) (sg := [.one (.sc)]) (by kernel_rfl) laws_szActorS_s fun av k h => by
  unfold laws_szActorS at h; split at h
  · exact Eq.mpr (by kernel_rfl) h
  · exact h.elim

def laws_szKeys : GM
 | [.agg u0, .one a2], k => un 2 (fun a0 a1 => 
  call laws_szIntS [.one a0, .one a2] fun o0 =>
  binP .lss (atP o0 0) (I 0) fun r1 =>
  iteP r1
   (rt [.sc] [(I (-1))] k)
   (rt [.sc] [(atP o0 0)] k)) u0
 | _, _ => False
abbrev laws_szKeys_e : Ent := ⟨[127], laws_szKeys⟩
theorem laws_szKeys_w : EntOK Tryz.prog TT laws_szKeys_e := ent_ok tabok (L := [laws_szIntS_e]) ⟨laws_szIntS_w, trivial⟩ (keep := []) (l := []) Tryz.func127 (by kernel_rfl) (sg := [.one (.sc)]) (by kernel_rfl) trivial fun av k h => by
  unfold laws_szKeys at h; split at h
  · apply un_all h; clear h; intro a0 a1 h; exact Eq.mpr (by kernel_rfl) h
  · exact h.elim

def laws_szHead : GM
 | [.agg u0, .one a16], k => un 16 (fun a0 a1 a2 a3 a4 a5 a6 a7 a8 a9 a10 a11 a12 a13 a14 a15 => 
  call laws_szKeys [.agg [a8, a9], .one a16] fun o0 =>
  binP .lss (atP o0 0) (I 0) fun r1 =>
  iteP r1
   (rt [.sc] [(I (-1))] k)
   (call laws_szKeys [.agg [a10, a11], .one (atP o0 0)] fun o2 =>
   binP .lss (atP o2 0) (I 0) fun r3 =>
   iteP r3
    (rt [.sc] [(I (-1))] k)
    (call laws_szKeys [.agg [a13, a14], .one (atP o2 0)] fun o4 =>
    binP .lss (atP o4 0) (I 0) fun r5 =>
    iteP r5
     (rt [.sc] [(I (-1))] k)
     (rt [.sc] [(atP o4 0)] k)))) u0
 | _, _ => False
abbrev laws_szHead_e : Ent := ⟨[100], laws_szHead⟩
theorem laws_szHead_w : EntOK Tryz.prog TT laws_szHead_e := ent_ok tabok (L := [laws_szKeys_e]) ⟨laws_szKeys_w, trivial⟩ (keep := []) (l := []) Tryz.func100 (by kernel_rfl) (sg := [.one (.sc)]) (by kernel_rfl) trivial fun av k h => by
  unfold laws_szHead at h; split at h
  · apply un_all h; clear h; intro a0 a1 a2 a3 a4 a5 a6 a7 a8 a9 a10 a11 a12 a13 a14 a15 h; exact Eq.mpr (by kernel_rfl) h
  · exact h.elim

def laws_szSigS : GM
 | [.one a0, .one a1], k => 
  lenP a0 fun r0 =>
  binP .sub a1 r0 fun r1 =>
  binP .lss r1 (I 0) fun r2 =>
  iteP r2
   (rt [.sc] [(I (-1))] k)
   (rt [.sc] [r1] k)
 | _, _ => False
abbrev laws_szSigS_e : Ent := ⟨[101], laws_szSigS⟩
theorem laws_szSigS_w : EntOK Tryz.prog TT laws_szSigS_e := ent_ok tabok (L := []) trivial (keep := []) (l := []) Tryz.func101 (by kernel_rfl) (sg := [.one (.sc)]) (by kernel_rfl) trivial fun av k h => by
  unfold laws_szSigS at h; split at h
  · exact Eq.mpr (by kernel_rfl) h
  · exact h.elim

def laws_szSigned : GM
 | [.agg u0, .one a17], k => un 17 (fun a0 a1 a2 a3 a4 a5 a6 a7 a8 a9 a10 a11 a12 a13 a14 a15 a16 => 
  call laws_szHead [.agg [a0, a1, a2, a3, a4, a5, a6, a7, a8, a9, a10, a11, a12, a13, a14, a15], .one a17] fun o0 =>
  binP .lss (atP o0 0) (I 0) fun r1 =>
  iteP r1
   (rt [.sc] [(I (-1))] k)
   (call laws_szSigS [.one a16, .one (atP o0 0)] fun o2 =>
   binP .lss (atP o2 0) (I 0) fun r3 =>
   iteP r3
    (rt [.sc] [(I (-1))] k)
    (rt [.sc] [(atP o2 0)] k))) u0
 | _, _ => False
abbrev laws_szSigned_e : Ent := ⟨[70], laws_szSigned⟩
theorem laws_szSigned_w : EntOK Tryz.prog TT laws_szSigned_e := ent_ok tabok (L := [laws_szHead_e, laws_szSigS_e]) ⟨laws_szHead_w, laws_szSigS_w, trivial⟩ (keep := []) (l := []) Tryz.func70 (by kernel_rfl) (sg := [.one (.sc)]) (by kernel_rfl) trivial fun av k h => by
  unfold laws_szSigned at h; split at h
  · apply un_all h; clear h; intro a0 a1 a2 a3 a4 a5 a6 a7 a8 a9 a10 a11 a12 a13 a14 a15 a16 h; exact Eq.mpr (by kernel_rfl) h
  · exact h.elim

def laws_szSignedS_r0 (v : List PV) (K : List PV → Prop) (x0k : Prop) (x1k : PV → PV → PV → PV → Prop) : Prop :=
 un 4 (fun v0 v1 v2 v3 =>
  lenP v0 fun r0 =>
  binP .lss v3 r0 fun r1 =>
  iteP r1
   (elemP 17 v0 v3 fun c2 =>
   call laws_szSigned [.agg [(atP c2 0), (atP c2 1), (atP c2 2), (atP c2 3), (atP c2 4), (atP c2 5), (atP c2 6), (atP c2 7), (atP c2 8), (atP c2 9), (atP c2 10), (atP c2 11), (atP c2 12), (atP c2 13), (atP c2 14), (atP c2 15), (atP c2 16)], .one v1] fun o3 =>
   binP .lss (atP o3 0) (I 0) fun r4 =>
   iteP r4
    (x0k)
    (binP .add v3 (I 1) fun r5 =>
    K [v0, (atP o3 0), v2, r5]))
   (x1k v0 v1 v2 v3)) v
def laws_szSignedS : GM
 | [.one a0, .one a1], k => 
  lenP a0 fun r0 =>
  binP .sub a1 r0 fun r1 =>
  binP .lss r1 (I 0) fun r2 =>
  iteP r2
   (rt [.sc] [(I (-1))] k)
   (lp (fun L w => laws_szSignedS_r0 w L
    (rt [.sc] [(I (-1))] k)
    (fun q6 q7 q8 q9 => rt [.sc] [q7] k)) [a0, r1, (I 0), (I 0)])
 | _, _ => False
abbrev laws_szSignedS_e : Ent := ⟨[36], laws_szSignedS⟩
def laws_szSignedS_l : List LE := [⟨0, ⟨[(0, .one (.pv (.bool false))), (1, .one (.pv (.bool false))), (4, .one (.pv (.bool false))), (5, .one (.pv (.bool false)))], [], [], 0, 27⟩, fun K k v => laws_szSignedS_r0 v K (k .ret ⟨[(4, .one (.pv (I (-1))))], [], [], 1, 27⟩) (fun x0 x1 x2 x3 => k (.exit 0) ⟨[(0, .one (.pv x0)), (1, .one (.pv x1)), (4, .one (.pv x2)), (5, .one (.pv x3))], [], [], 0, 27⟩)⟩]
theorem laws_szSignedS_s : LEsOK (orac [laws_szSigned_e]) TT (kk [0, 1, 4, 5]) (sumsOf laws_szSignedS_l) Tryz.f36 laws_szSignedS_l := ⟨fun v K k h => by
  apply un_all h; exact fun v0 v1 v2 v3 h => Eq.mpr (by kernel_rfl) h
  , trivial⟩
theorem laws_szSignedS_w : EntOK Tryz.prog TT laws_szSignedS_e := ent_ok tabok (L := [laws_szSigned_e]) ⟨laws_szSigned_w, trivial⟩ (keep := (kk [0, 1, 4, 5])) (l := laws_szSignedS_l) Tryz.func36 (by kernel_rfl) (sg := [.one (.sc)]) (by kernel_rfl) laws_szSignedS_s fun av k h => by
  unfold laws_szSignedS at h; split at h
  · exact Eq.mpr (by kernel_rfl) h
  · exact h.elim

def laws_szStringS_r0 (v : List PV) (K : List PV → Prop) (x0k : Prop) (x1k : PV → PV → PV → PV → Prop) : Prop :=
 un 4 (fun v0 v1 v2 v3 =>
  lenP v0 fun r0 =>
  binP .lss v3 r0 fun r1 =>
  iteP r1
   (elemP 1 v0 v3 fun c2 =>
   lenS (atP c2 0) fun r3 =>
   binP .sub v1 r3 fun r4 =>
   binP .lss r4 (I 0) fun r5 =>
   iteP r5
    (x0k)
    (binP .add v3 (I 1) fun r6 =>
    K [v0, r4, v2, r6]))
   (x1k v0 v1 v2 v3)) v
def laws_szStringS : GM
 | [.one a0, .one a1], k => 
  lenP a0 fun r0 =>
  binP .sub a1 r0 fun r1 =>
  binP .lss r1 (I 0) fun r2 =>
  iteP r2
   (rt [.sc] [(I (-1))] k)
   (lp (fun L w => laws_szStringS_r0 w L
    (rt [.sc] [(I (-1))] k)
    (fun q7 q8 q9 q10 => rt [.sc] [q8] k)) [a0, r1, (I 0), (I 0)])
 | _, _ => False
abbrev laws_szStringS_e : Ent := ⟨[102], laws_szStringS⟩
def laws_szStringS_l : List LE := [⟨0, ⟨[(0, .one (.pv (.bool false))), (1, .one (.pv (.bool false))), (4, .one (.pv (.bool false))), (5, .one (.pv (.bool false)))], [], [], 0, 28⟩, fun K k v => laws_szStringS_r0 v K (k .ret ⟨[(4, .one (.pv (I (-1))))], [], [], 0, 28⟩) (fun x0 x1 x2 x3 => k (.exit 0) ⟨[(0, .one (.pv x0)), (1, .one (.pv x1)), (4, .one (.pv x2)), (5, .one (.pv x3))], [], [], 0, 28⟩)⟩]
theorem laws_szStringS_s : LEsOK (orac []) TT (kk [0, 1, 4, 5]) (sumsOf laws_szStringS_l) Tryz.f102 laws_szStringS_l := ⟨fun v K k h => by
  apply un_all h; exact fun v0 v1 v2 v3 h => Eq.mpr (by kernel_rfl) h
  , trivial⟩
theorem laws_szStringS_w : EntOK Tryz.prog TT laws_szStringS_e := ent_ok tabok (L := []) trivial (keep := (kk [0, 1, 4, 5])) (l := laws_szStringS_l) Tryz.func102 (by kernel_rfl) (sg := [.one (.sc)]) (by kernel_rfl) laws_szStringS_s fun av k h => by
  unfold laws_szStringS at h; split at h
  · exact Eq.mpr (by kernel_rfl) h
  · exact h.elim

def laws_szEntry : GM
 | [.agg u0, .one a4], k => un 4 (fun a0 a1 a2 a3 => 
  lenS a0 fun r0 =>
  binP .sub a4 r0 fun r1 =>
  binP .lss r1 (I 0) fun r2 =>
  iteP r2
   (rt [.sc] [(I (-1))] k)
   (call laws_szStringS [.one a3, .one r1] fun o3 =>
   binP .lss (atP o3 0) (I 0) fun r4 =>
   iteP r4
    (rt [.sc] [(I (-1))] k)
    (rt [.sc] [(atP o3 0)] k))) u0
 | _, _ => False
abbrev laws_szEntry_e : Ent := ⟨[71], laws_szEntry⟩
theorem laws_szEntry_w : EntOK Tryz.prog TT laws_szEntry_e := ent_ok tabok (L := [laws_szStringS_e]) ⟨laws_szStringS_w, trivial⟩ (keep := []) (l := []) Tryz.func71 (by kernel_rfl) (sg := [.one (.sc)]) (by kernel_rfl) trivial fun av k h => by
  unfold laws_szEntry at h; split at h
  · apply un_all h; clear h; intro a0 a1 a2 a3 h; exact Eq.mpr (by kernel_rfl) h
  · exact h.elim

def laws_szEntryS_r0 (v : List PV) (K : List PV → Prop) (x0k : Prop) (x1k : PV → PV → PV → PV → Prop) : Prop :=
 un 4 (fun v0 v1 v2 v3 =>
  lenP v0 fun r0 =>
  binP .lss v3 r0 fun r1 =>
  iteP r1
   (elemP 4 v0 v3 fun c2 =>
   call laws_szEntry [.agg [(atP c2 0), (atP c2 1), (atP c2 2), (atP c2 3)], .one v1] fun o3 =>
   binP .lss (atP o3 0) (I 0) fun r4 =>
   iteP r4
    (x0k)
    (binP .add v3 (I 1) fun r5 =>
    K [v0, (atP o3 0), v2, r5]))
   (x1k v0 v1 v2 v3)) v
def laws_szEntryS : GM
 | [.one a0, .one a1], k => 
  lenP a0 fun r0 =>
  binP .sub a1 r0 fun r1 =>
  binP .lss r1 (I 0) fun r2 =>
  iteP r2
   (rt [.sc] [(I (-1))] k)
   (lp (fun L w => laws_szEntryS_r0 w L
    (rt [.sc] [(I (-1))] k)
    (fun q6 q7 q8 q9 => rt [.sc] [q7] k)) [a0, r1, (I 0), (I 0)])
 | _, _ => False
abbrev laws_szEntryS_e : Ent := ⟨[37], laws_szEntryS⟩
def laws_szEntryS_l : List LE := [⟨0, ⟨[(0, .one (.pv (.bool false))), (1, .one (.pv (.bool false))), (4, .one (.pv (.bool false))), (5, .one (.pv (.bool false)))], [], [], 0, 27⟩, fun K k v => laws_szEntryS_r0 v K (k .ret ⟨[(4, .one (.pv (I (-1))))], [], [], 1, 27⟩) (fun x0 x1 x2 x3 => k (.exit 0) ⟨[(0, .one (.pv x0)), (1, .one (.pv x1)), (4, .one (.pv x2)), (5, .one (.pv x3))], [], [], 0, 27⟩)⟩]
theorem laws_szEntryS_s : LEsOK (orac [laws_szEntry_e]) TT (kk [0, 1, 4, 5]) (sumsOf laws_szEntryS_l) Tryz.f37 laws_szEntryS_l := ⟨fun v K k h => by
  apply un_all h; exact fun v0 v1 v2 v3 h => Eq.mpr (by kernel_rfl) h
  , trivial⟩
theorem laws_szEntryS_w : EntOK Tryz.prog TT laws_szEntryS_e := ent_ok tabok (L := [laws_szEntry_e]) ⟨laws_szEntry_w, trivial⟩ (keep := (kk [0, 1, 4, 5])) (l := laws_szEntryS_l) Tryz.func37 (by kernel_rfl) (sg := [.one (.sc)]) (by kernel_rfl) laws_szEntryS_s fun av k h => by
  unfold laws_szEntryS at h; split at h
  · exact Eq.mpr (by kernel_rfl) h
  · exact h.elim

def laws_szZone : GM
 | [.agg u0, .one a2], k => un 2 (fun a0 a1 => 
  call laws_szSignedS [.one a0, .one a2] fun o0 =>
  binP .lss (atP o0 0) (I 0) fun r1 =>
  iteP r1
   (rt [.sc] [(I (-1))] k)
   (call laws_szEntryS [.one a1, .one (atP o0 0)] fun o2 =>
   binP .lss (atP o2 0) (I 0) fun r3 =>
   iteP r3
    (rt [.sc] [(I (-1))] k)
    (rt [.sc] [(atP o2 0)] k))) u0
 | _, _ => False
abbrev laws_szZone_e : Ent := ⟨[10], laws_szZone⟩
theorem laws_szZone_w : EntOK Tryz.prog TT laws_szZone_e := ent_ok tabok (L := [laws_szSignedS_e, laws_szEntryS_e]) ⟨laws_szSignedS_w, laws_szEntryS_w, trivial⟩ (keep := []) (l := []) Tryz.func10 (by kernel_rfl) (sg := [.one (.sc)]) (by kernel_rfl) trivial fun av k h => by
  unfold laws_szZone at h; split at h
  · apply un_all h; clear h; intro a0 a1 h; exact Eq.mpr (by kernel_rfl) h
  · exact h.elim

def laws_szZoneS_r0 (v : List PV) (K : List PV → Prop) (x0k : Prop) (x1k : PV → PV → PV → PV → Prop) : Prop :=
 un 4 (fun v0 v1 v2 v3 =>
  lenP v0 fun r0 =>
  binP .lss v3 r0 fun r1 =>
  iteP r1
   (elemP 2 v0 v3 fun c2 =>
   call laws_szZone [.agg [(atP c2 0), (atP c2 1)], .one v1] fun o3 =>
   binP .lss (atP o3 0) (I 0) fun r4 =>
   iteP r4
    (x0k)
    (binP .add v3 (I 1) fun r5 =>
    K [v0, (atP o3 0), v2, r5]))
   (x1k v0 v1 v2 v3)) v
def laws_szZoneS : GM
 | [.one a0, .one a1], k => 
  lenP a0 fun r0 =>
  binP .sub a1 r0 fun r1 =>
  binP .lss r1 (I 0) fun r2 =>
  iteP r2
   (rt [.sc] [(I (-1))] k)
   (lp (fun L w => laws_szZoneS_r0 w L
    (rt [.sc] [(I (-1))] k)
    (fun q6 q7 q8 q9 => rt [.sc] [q7] k)) [a0, r1, (I 0), (I 0)])
 | _, _ => False
abbrev laws_szZoneS_e : Ent := ⟨[16], laws_szZoneS⟩
def laws_szZoneS_l : List LE := [⟨0, ⟨[(0, .one (.pv (.bool false))), (1, .one (.pv (.bool false))), (4, .one (.pv (.bool false))), (5, .one (.pv (.bool false)))], [], [], 0, 27⟩, fun K k v => laws_szZoneS_r0 v K (k .ret ⟨[(4, .one (.pv (I (-1))))], [], [], 1, 27⟩) (fun x0 x1 x2 x3 => k (.exit 0) ⟨[(0, .one (.pv x0)), (1, .one (.pv x1)), (4, .one (.pv x2)), (5, .one (.pv x3))], [], [], 0, 27⟩)⟩]
theorem laws_szZoneS_s : LEsOK (orac [laws_szZone_e]) TT (kk [0, 1, 4, 5]) (sumsOf laws_szZoneS_l) Tryz.f16 laws_szZoneS_l := ⟨fun v K k h => by
  apply un_all h; exact fun v0 v1 v2 v3 h => Eq.mpr (by kernel_rfl) h
  , trivial⟩
theorem laws_szZoneS_w : EntOK Tryz.prog TT laws_szZoneS_e := ent_ok tabok (L := [laws_szZone_e]) ⟨laws_szZone_w, trivial⟩ (keep := (kk [0, 1, 4, 5])) (l := laws_szZoneS_l) Tryz.func16 (by kernel_rfl) (sg := [.one (.sc)]) (by kernel_rfl) laws_szZoneS_s fun av k h => by
  unfold laws_szZoneS at h; split at h
  · exact Eq.mpr (by kernel_rfl) h
  · exact h.elim

def laws_szSaid : GM
 | [.agg u0, .one a3], k => un 3 (fun a0 a1 a2 => 
  call laws_szZone [.agg [a0, a1], .one a3] fun o0 =>
  binP .lss (atP o0 0) (I 0) fun r1 =>
  iteP r1
   (rt [.sc] [(I (-1))] k)
   (call laws_szIntS [.one a2, .one (atP o0 0)] fun o2 =>
   binP .lss (atP o2 0) (I 0) fun r3 =>
   iteP r3
    (rt [.sc] [(I (-1))] k)
    (rt [.sc] [(atP o2 0)] k))) u0
 | _, _ => False
abbrev laws_szSaid_e : Ent := ⟨[51], laws_szSaid⟩
theorem laws_szSaid_w : EntOK Tryz.prog TT laws_szSaid_e := ent_ok tabok (L := [laws_szZone_e, laws_szIntS_e]) ⟨laws_szZone_w, laws_szIntS_w, trivial⟩ (keep := []) (l := []) Tryz.func51 (by kernel_rfl) (sg := [.one (.sc)]) (by kernel_rfl) trivial fun av k h => by
  unfold laws_szSaid at h; split at h
  · apply un_all h; clear h; intro a0 a1 a2 h; exact Eq.mpr (by kernel_rfl) h
  · exact h.elim

def laws_szSaidS_r0 (v : List PV) (K : List PV → Prop) (x0k : Prop) (x1k : PV → PV → PV → PV → Prop) : Prop :=
 un 4 (fun v0 v1 v2 v3 =>
  lenP v0 fun r0 =>
  binP .lss v3 r0 fun r1 =>
  iteP r1
   (elemP 3 v0 v3 fun c2 =>
   call laws_szSaid [.agg [(atP c2 0), (atP c2 1), (atP c2 2)], .one v1] fun o3 =>
   binP .lss (atP o3 0) (I 0) fun r4 =>
   iteP r4
    (x0k)
    (binP .add v3 (I 1) fun r5 =>
    K [v0, (atP o3 0), v2, r5]))
   (x1k v0 v1 v2 v3)) v
def laws_szSaidS : GM
 | [.one a0, .one a1], k => 
  lenP a0 fun r0 =>
  binP .sub a1 r0 fun r1 =>
  binP .lss r1 (I 0) fun r2 =>
  iteP r2
   (rt [.sc] [(I (-1))] k)
   (lp (fun L w => laws_szSaidS_r0 w L
    (rt [.sc] [(I (-1))] k)
    (fun q6 q7 q8 q9 => rt [.sc] [q7] k)) [a0, r1, (I 0), (I 0)])
 | _, _ => False
abbrev laws_szSaidS_e : Ent := ⟨[17], laws_szSaidS⟩
def laws_szSaidS_l : List LE := [⟨0, ⟨[(0, .one (.pv (.bool false))), (1, .one (.pv (.bool false))), (4, .one (.pv (.bool false))), (5, .one (.pv (.bool false)))], [], [], 0, 27⟩, fun K k v => laws_szSaidS_r0 v K (k .ret ⟨[(4, .one (.pv (I (-1))))], [], [], 1, 27⟩) (fun x0 x1 x2 x3 => k (.exit 0) ⟨[(0, .one (.pv x0)), (1, .one (.pv x1)), (4, .one (.pv x2)), (5, .one (.pv x3))], [], [], 0, 27⟩)⟩]
theorem laws_szSaidS_s : LEsOK (orac [laws_szSaid_e]) TT (kk [0, 1, 4, 5]) (sumsOf laws_szSaidS_l) Tryz.f17 laws_szSaidS_l := ⟨fun v K k h => by
  apply un_all h; exact fun v0 v1 v2 v3 h => Eq.mpr (by kernel_rfl) h
  , trivial⟩
theorem laws_szSaidS_w : EntOK Tryz.prog TT laws_szSaidS_e := ent_ok tabok (L := [laws_szSaid_e]) ⟨laws_szSaid_w, trivial⟩ (keep := (kk [0, 1, 4, 5])) (l := laws_szSaidS_l) Tryz.func17 (by kernel_rfl) (sg := [.one (.sc)]) (by kernel_rfl) laws_szSaidS_s fun av k h => by
  unfold laws_szSaidS at h; split at h
  · exact Eq.mpr (by kernel_rfl) h
  · exact h.elim

def laws_szServer : GM
 | [.agg u0, .one a2], k => un 2 (fun a0 a1 => 
  call laws_szZoneS [.one a0, .one a2] fun o0 =>
  binP .lss (atP o0 0) (I 0) fun r1 =>
  iteP r1
   (rt [.sc] [(I (-1))] k)
   (rt [.sc] [(atP o0 0)] k)) u0
 | _, _ => False
abbrev laws_szServer_e : Ent := ⟨[52], laws_szServer⟩
theorem laws_szServer_w : EntOK Tryz.prog TT laws_szServer_e := ent_ok tabok (L := [laws_szZoneS_e]) ⟨laws_szZoneS_w, trivial⟩ (keep := []) (l := []) Tryz.func52 (by kernel_rfl) (sg := [.one (.sc)]) (by kernel_rfl) trivial fun av k h => by
  unfold laws_szServer at h; split at h
  · apply un_all h; clear h; intro a0 a1 h; exact Eq.mpr (by kernel_rfl) h
  · exact h.elim

def laws_szServerS_r0 (v : List PV) (K : List PV → Prop) (x0k : Prop) (x1k : PV → PV → PV → PV → Prop) : Prop :=
 un 4 (fun v0 v1 v2 v3 =>
  lenP v0 fun r0 =>
  binP .lss v3 r0 fun r1 =>
  iteP r1
   (elemP 2 v0 v3 fun c2 =>
   call laws_szServer [.agg [(atP c2 0), (atP c2 1)], .one v1] fun o3 =>
   binP .lss (atP o3 0) (I 0) fun r4 =>
   iteP r4
    (x0k)
    (binP .add v3 (I 1) fun r5 =>
    K [v0, (atP o3 0), v2, r5]))
   (x1k v0 v1 v2 v3)) v
def laws_szServerS : GM
 | [.one a0, .one a1], k => 
  lenP a0 fun r0 =>
  binP .sub a1 r0 fun r1 =>
  binP .lss r1 (I 0) fun r2 =>
  iteP r2
   (rt [.sc] [(I (-1))] k)
   (lp (fun L w => laws_szServerS_r0 w L
    (rt [.sc] [(I (-1))] k)
    (fun q6 q7 q8 q9 => rt [.sc] [q7] k)) [a0, r1, (I 0), (I 0)])
 | _, _ => False
abbrev laws_szServerS_e : Ent := ⟨[18], laws_szServerS⟩
def laws_szServerS_l : List LE := [⟨0, ⟨[(0, .one (.pv (.bool false))), (1, .one (.pv (.bool false))), (4, .one (.pv (.bool false))), (5, .one (.pv (.bool false)))], [], [], 0, 27⟩, fun K k v => laws_szServerS_r0 v K (k .ret ⟨[(4, .one (.pv (I (-1))))], [], [], 1, 27⟩) (fun x0 x1 x2 x3 => k (.exit 0) ⟨[(0, .one (.pv x0)), (1, .one (.pv x1)), (4, .one (.pv x2)), (5, .one (.pv x3))], [], [], 0, 27⟩)⟩]
theorem laws_szServerS_s : LEsOK (orac [laws_szServer_e]) TT (kk [0, 1, 4, 5]) (sumsOf laws_szServerS_l) Tryz.f18 laws_szServerS_l := ⟨fun v K k h => by
  apply un_all h; exact fun v0 v1 v2 v3 h => Eq.mpr (by kernel_rfl) h
  , trivial⟩
theorem laws_szServerS_w : EntOK Tryz.prog TT laws_szServerS_e := ent_ok tabok (L := [laws_szServer_e]) ⟨laws_szServer_w, trivial⟩ (keep := (kk [0, 1, 4, 5])) (l := laws_szServerS_l) Tryz.func18 (by kernel_rfl) (sg := [.one (.sc)]) (by kernel_rfl) laws_szServerS_s fun av k h => by
  unfold laws_szServerS at h; split at h
  · exact Eq.mpr (by kernel_rfl) h
  · exact h.elim

def laws_szSignedSS_r0 (v : List PV) (K : List PV → Prop) (x0k : Prop) (x1k : PV → PV → PV → PV → Prop) : Prop :=
 un 4 (fun v0 v1 v2 v3 =>
  lenP v0 fun r0 =>
  binP .lss v3 r0 fun r1 =>
  iteP r1
   (elemP 1 v0 v3 fun c2 =>
   call laws_szSignedS [.one (atP c2 0), .one v1] fun o3 =>
   binP .lss (atP o3 0) (I 0) fun r4 =>
   iteP r4
    (x0k)
    (binP .add v3 (I 1) fun r5 =>
    K [v0, (atP o3 0), v2, r5]))
   (x1k v0 v1 v2 v3)) v
def laws_szSignedSS : GM
 | [.one a0, .one a1], k => 
  lenP a0 fun r0 =>
  binP .sub a1 r0 fun r1 =>
  binP .lss r1 (I 0) fun r2 =>
  iteP r2
   (rt [.sc] [(I (-1))] k)
   (lp (fun L w => laws_szSignedSS_r0 w L
    (rt [.sc] [(I (-1))] k)
    (fun q6 q7 q8 q9 => rt [.sc] [q7] k)) [a0, r1, (I 0), (I 0)])
 | _, _ => False
abbrev laws_szSignedSS_e : Ent := ⟨[53], laws_szSignedSS⟩
def laws_szSignedSS_l : List LE := [⟨0, ⟨[(0, .one (.pv (.bool false))), (1, .one (.pv (.bool false))), (4, .one (.pv (.bool false))), (5, .one (.pv (.bool false)))], [], [], 0, 27⟩, fun K k v => laws_szSignedSS_r0 v K (k .ret ⟨[(4, .one (.pv (I (-1))))], [], [], 1, 27⟩) (fun x0 x1 x2 x3 => k (.exit 0) ⟨[(0, .one (.pv x0)), (1, .one (.pv x1)), (4, .one (.pv x2)), (5, .one (.pv x3))], [], [], 0, 27⟩)⟩]
theorem laws_szSignedSS_s : LEsOK (orac [laws_szSignedS_e]) TT (kk [0, 1, 4, 5]) (sumsOf laws_szSignedSS_l) Tryz.f53 laws_szSignedSS_l := ⟨fun v K k h => by
  apply un_all h; exact fun v0 v1 v2 v3 h => Eq.mpr (by kernel_rfl) h
  , trivial⟩
theorem laws_szSignedSS_w : EntOK Tryz.prog TT laws_szSignedSS_e := ent_ok tabok (L := [laws_szSignedS_e]) ⟨laws_szSignedS_w, trivial⟩ (keep := (kk [0, 1, 4, 5])) (l := laws_szSignedSS_l) Tryz.func53 (by kernel_rfl) (sg := [.one (.sc)]) (by kernel_rfl) laws_szSignedSS_s fun av k h => by
  unfold laws_szSignedSS at h; split at h
  · exact Eq.mpr (by kernel_rfl) h
  · exact h.elim

def laws_szFork : GM
 | [.agg u0, .one a51], k => un 51 (fun a0 a1 a2 a3 a4 a5 a6 a7 a8 a9 a10 a11 a12 a13 a14 a15 a16 a17 a18 a19 a20 a21 a22 a23 a24 a25 a26 a27 a28 a29 a30 a31 a32 a33 a34 a35 a36 a37 a38 a39 a40 a41 a42 a43 a44 a45 a46 a47 a48 a49 a50 => 
  call laws_szSigned [.agg [a0, a1, a2, a3, a4, a5, a6, a7, a8, a9, a10, a11, a12, a13, a14, a15, a16], .one a51] fun o0 =>
  binP .lss (atP o0 0) (I 0) fun r1 =>
  iteP r1
   (rt [.sc] [(I (-1))] k)
   (call laws_szSigned [.agg [a17, a18, a19, a20, a21, a22, a23, a24, a25, a26, a27, a28, a29, a30, a31, a32, a33], .one (atP o0 0)] fun o2 =>
   binP .lss (atP o2 0) (I 0) fun r3 =>
   iteP r3
    (rt [.sc] [(I (-1))] k)
    (call laws_szSigned [.agg [a34, a35, a36, a37, a38, a39, a40, a41, a42, a43, a44, a45, a46, a47, a48, a49, a50], .one (atP o2 0)] fun o4 =>
    binP .lss (atP o4 0) (I 0) fun r5 =>
    iteP r5
     (rt [.sc] [(I (-1))] k)
     (rt [.sc] [(atP o4 0)] k)))) u0
 | _, _ => False
abbrev laws_szFork_e : Ent := ⟨[88], laws_szFork⟩
theorem laws_szFork_w : EntOK Tryz.prog TT laws_szFork_e := ent_ok tabok (L := [laws_szSigned_e]) ⟨laws_szSigned_w, trivial⟩ (keep := []) (l := []) Tryz.func88 (by kernel_rfl) (sg := [.one (.sc)]) (by kernel_rfl) trivial fun av k h => by
  unfold laws_szFork at h; split at h
  · apply un_all h; clear h; intro a0 a1 a2 a3 a4 a5 a6 a7 a8 a9 a10 a11 a12 a13 a14 a15 a16 a17 a18 a19 a20 a21 a22 a23 a24 a25 a26 a27 a28 a29 a30 a31 a32 a33 a34 a35 a36 a37 a38 a39 a40 a41 a42 a43 a44 a45 a46 a47 a48 a49 a50 h; exact Eq.mpr (by kernel_rfl) h
  · exact h.elim

def laws_szForkS_r0 (v : List PV) (K : List PV → Prop) (x0k : Prop) (x1k : PV → PV → PV → PV → Prop) : Prop :=
 un 4 (fun v0 v1 v2 v3 =>
  lenP v0 fun r0 =>
  binP .lss v3 r0 fun r1 =>
  iteP r1
   (elemP 51 v0 v3 fun c2 =>
   call laws_szFork [.agg [(atP c2 0), (atP c2 1), (atP c2 2), (atP c2 3), (atP c2 4), (atP c2 5), (atP c2 6), (atP c2 7), (atP c2 8), (atP c2 9), (atP c2 10), (atP c2 11), (atP c2 12), (atP c2 13), (atP c2 14), (atP c2 15), (atP c2 16), (atP c2 17), (atP c2 18), (atP c2 19), (atP c2 20), (atP c2 21), (atP c2 22), (atP c2 23), (atP c2 24), (atP c2 25), (atP c2 26), (atP c2 27), (atP c2 28), (atP c2 29), (atP c2 30), (atP c2 31), (atP c2 32), (atP c2 33), (atP c2 34), (atP c2 35), (atP c2 36), (atP c2 37), (atP c2 38), (atP c2 39), (atP c2 40), (atP c2 41), (atP c2 42), (atP c2 43), (atP c2 44), (atP c2 45), (atP c2 46), (atP c2 47), (atP c2 48), (atP c2 49), (atP c2 50)], .one v1] fun o3 =>
   binP .lss (atP o3 0) (I 0) fun r4 =>
   iteP r4
    (x0k)
    (binP .add v3 (I 1) fun r5 =>
    K [v0, (atP o3 0), v2, r5]))
   (x1k v0 v1 v2 v3)) v
def laws_szForkS : GM
 | [.one a0, .one a1], k => 
  lenP a0 fun r0 =>
  binP .sub a1 r0 fun r1 =>
  binP .lss r1 (I 0) fun r2 =>
  iteP r2
   (rt [.sc] [(I (-1))] k)
   (lp (fun L w => laws_szForkS_r0 w L
    (rt [.sc] [(I (-1))] k)
    (fun q6 q7 q8 q9 => rt [.sc] [q7] k)) [a0, r1, (I 0), (I 0)])
 | _, _ => False
abbrev laws_szForkS_e : Ent := ⟨[54], laws_szForkS⟩
def laws_szForkS_l : List LE := [⟨0, ⟨[(0, .one (.pv (.bool false))), (1, .one (.pv (.bool false))), (4, .one (.pv (.bool false))), (5, .one (.pv (.bool false)))], [], [], 0, 27⟩, fun K k v => laws_szForkS_r0 v K (k .ret ⟨[(4, .one (.pv (I (-1))))], [], [], 1, 27⟩) (fun x0 x1 x2 x3 => k (.exit 0) ⟨[(0, .one (.pv x0)), (1, .one (.pv x1)), (4, .one (.pv x2)), (5, .one (.pv x3))], [], [], 0, 27⟩)⟩]
theorem laws_szForkS_s : LEsOK (orac [laws_szFork_e]) TT (kk [0, 1, 4, 5]) (sumsOf laws_szForkS_l) Tryz.f54 laws_szForkS_l := ⟨fun v K k h => by
  apply un_all h; exact fun v0 v1 v2 v3 h => Eq.mpr (by kernel_rfl) h
  , trivial⟩
theorem laws_szForkS_w : EntOK Tryz.prog TT laws_szForkS_e := ent_ok tabok (L := [laws_szFork_e]) ⟨laws_szFork_w, trivial⟩ (keep := (kk [0, 1, 4, 5])) (l := laws_szForkS_l) Tryz.func54 (by kernel_rfl) (sg := [.one (.sc)]) (by kernel_rfl) laws_szForkS_s fun av k h => by
  unfold laws_szForkS at h; split at h
  · exact Eq.mpr (by kernel_rfl) h
  · exact h.elim

def laws_szKnown : GM
 | [.agg u0, .one a2], k => un 2 (fun a0 a1 => 
  call laws_szSignedSS [.one a0, .one a2] fun o0 =>
  binP .lss (atP o0 0) (I 0) fun r1 =>
  iteP r1
   (rt [.sc] [(I (-1))] k)
   (call laws_szForkS [.one a1, .one (atP o0 0)] fun o2 =>
   binP .lss (atP o2 0) (I 0) fun r3 =>
   iteP r3
    (rt [.sc] [(I (-1))] k)
    (rt [.sc] [(atP o2 0)] k))) u0
 | _, _ => False
abbrev laws_szKnown_e : Ent := ⟨[19], laws_szKnown⟩
theorem laws_szKnown_w : EntOK Tryz.prog TT laws_szKnown_e := ent_ok tabok (L := [laws_szSignedSS_e, laws_szForkS_e]) ⟨laws_szSignedSS_w, laws_szForkS_w, trivial⟩ (keep := []) (l := []) Tryz.func19 (by kernel_rfl) (sg := [.one (.sc)]) (by kernel_rfl) trivial fun av k h => by
  unfold laws_szKnown at h; split at h
  · apply un_all h; clear h; intro a0 a1 h; exact Eq.mpr (by kernel_rfl) h
  · exact h.elim

def laws_szProof : GM
 | [.agg u0, .one a2], k => un 2 (fun a0 a1 => 
  call laws_szIntS [.one a1, .one a2] fun o0 =>
  binP .lss (atP o0 0) (I 0) fun r1 =>
  iteP r1
   (rt [.sc] [(I (-1))] k)
   (rt [.sc] [(atP o0 0)] k)) u0
 | _, _ => False
abbrev laws_szProof_e : Ent := ⟨[150], laws_szProof⟩
theorem laws_szProof_w : EntOK Tryz.prog TT laws_szProof_e := ent_ok tabok (L := [laws_szIntS_e]) ⟨laws_szIntS_w, trivial⟩ (keep := []) (l := []) Tryz.func150 (by kernel_rfl) (sg := [.one (.sc)]) (by kernel_rfl) trivial fun av k h => by
  unfold laws_szProof at h; split at h
  · apply un_all h; clear h; intro a0 a1 h; exact Eq.mpr (by kernel_rfl) h
  · exact h.elim

def laws_szGap : GM
 | [.agg u0, .one a13], k => un 13 (fun a0 a1 a2 a3 a4 a5 a6 a7 a8 a9 a10 a11 a12 => 
  call laws_szEntry [.agg [a1, a2, a3, a4], .one a13] fun o0 =>
  binP .lss (atP o0 0) (I 0) fun r1 =>
  iteP r1
   (rt [.sc] [(I (-1))] k)
   (call laws_szEntry [.agg [a5, a6, a7, a8], .one (atP o0 0)] fun o2 =>
   binP .lss (atP o2 0) (I 0) fun r3 =>
   iteP r3
    (rt [.sc] [(I (-1))] k)
    (call laws_szProof [.agg [a9, a10], .one (atP o2 0)] fun o4 =>
    binP .lss (atP o4 0) (I 0) fun r5 =>
    iteP r5
     (rt [.sc] [(I (-1))] k)
     (call laws_szProof [.agg [a11, a12], .one (atP o4 0)] fun o6 =>
     binP .lss (atP o6 0) (I 0) fun r7 =>
     iteP r7
      (rt [.sc] [(I (-1))] k)
      (rt [.sc] [(atP o6 0)] k))))) u0
 | _, _ => False
abbrev laws_szGap_e : Ent := ⟨[151], laws_szGap⟩
theorem laws_szGap_w : EntOK Tryz.prog TT laws_szGap_e := ent_ok tabok (L := [laws_szEntry_e, laws_szProof_e]) ⟨laws_szEntry_w, laws_szProof_w, trivial⟩ (keep := []) (l := []) Tryz.func151 (by kernel_rfl) (sg := [.one (.sc)]) (by kernel_rfl) trivial fun av k h => by
  unfold laws_szGap at h; split at h
  · apply un_all h; clear h; intro a0 a1 a2 a3 a4 a5 a6 a7 a8 a9 a10 a11 a12 h; exact Eq.mpr (by kernel_rfl) h
  · exact h.elim

def laws_szAnswer : GM
 | [.agg u0, .one a21], k => un 21 (fun a0 a1 a2 a3 a4 a5 a6 a7 a8 a9 a10 a11 a12 a13 a14 a15 a16 a17 a18 a19 a20 => 
  call laws_szSignedS [.one a0, .one a21] fun o0 =>
  binP .lss (atP o0 0) (I 0) fun r1 =>
  iteP r1
   (rt [.sc] [(I (-1))] k)
   (call laws_szEntry [.agg [a2, a3, a4, a5], .one (atP o0 0)] fun o2 =>
   binP .lss (atP o2 0) (I 0) fun r3 =>
   iteP r3
    (rt [.sc] [(I (-1))] k)
    (call laws_szProof [.agg [a6, a7], .one (atP o2 0)] fun o4 =>
    binP .lss (atP o4 0) (I 0) fun r5 =>
    iteP r5
     (rt [.sc] [(I (-1))] k)
     (call laws_szGap [.agg [a8, a9, a10, a11, a12, a13, a14, a15, a16, a17, a18, a19, a20], .one (atP o4 0)] fun o6 =>
     binP .lss (atP o6 0) (I 0) fun r7 =>
     iteP r7
      (rt [.sc] [(I (-1))] k)
      (rt [.sc] [(atP o6 0)] k))))) u0
 | _, _ => False
abbrev laws_szAnswer_e : Ent := ⟨[121], laws_szAnswer⟩
theorem laws_szAnswer_w : EntOK Tryz.prog TT laws_szAnswer_e := ent_ok tabok (L := [laws_szSignedS_e, laws_szEntry_e, laws_szProof_e, laws_szGap_e]) ⟨laws_szSignedS_w, laws_szEntry_w, laws_szProof_w, laws_szGap_w, trivial⟩ (keep := []) (l := []) Tryz.func121 (by kernel_rfl) (sg := [.one (.sc)]) (by kernel_rfl) trivial fun av k h => by
  unfold laws_szAnswer at h; split at h
  · apply un_all h; clear h; intro a0 a1 a2 a3 a4 a5 a6 a7 a8 a9 a10 a11 a12 a13 a14 a15 a16 a17 a18 a19 a20 h; exact Eq.mpr (by kernel_rfl) h
  · exact h.elim

def laws_szStored : GM
 | [.agg u0, .one a23], k => un 23 (fun a0 a1 a2 a3 a4 a5 a6 a7 a8 a9 a10 a11 a12 a13 a14 a15 a16 a17 a18 a19 a20 a21 a22 => 
  lenS a1 fun r0 =>
  binP .sub a23 r0 fun r1 =>
  binP .lss r1 (I 0) fun r2 =>
  iteP r2
   (rt [.sc] [(I (-1))] k)
   (call laws_szAnswer [.agg [a2, a3, a4, a5, a6, a7, a8, a9, a10, a11, a12, a13, a14, a15, a16, a17, a18, a19, a20, a21, a22], .one r1] fun o3 =>
   binP .lss (atP o3 0) (I 0) fun r4 =>
   iteP r4
    (rt [.sc] [(I (-1))] k)
    (rt [.sc] [(atP o3 0)] k))) u0
 | _, _ => False
abbrev laws_szStored_e : Ent := ⟨[89], laws_szStored⟩
theorem laws_szStored_w : EntOK Tryz.prog TT laws_szStored_e := ent_ok tabok (L := [laws_szAnswer_e]) ⟨laws_szAnswer_w, trivial⟩ (keep := []) (l := []) Tryz.func89 (by kernel_rfl) (sg := [.one (.sc)]) (by kernel_rfl) trivial fun av k h => by
  unfold laws_szStored at h; split at h
  · apply un_all h; clear h; intro a0 a1 a2 a3 a4 a5 a6 a7 a8 a9 a10 a11 a12 a13 a14 a15 a16 a17 a18 a19 a20 a21 a22 h; exact Eq.mpr (by kernel_rfl) h
  · exact h.elim

def laws_szStoredS_r0 (v : List PV) (K : List PV → Prop) (x0k : Prop) (x1k : PV → PV → PV → PV → Prop) : Prop :=
 un 4 (fun v0 v1 v2 v3 =>
  lenP v0 fun r0 =>
  binP .lss v3 r0 fun r1 =>
  iteP r1
   (elemP 23 v0 v3 fun c2 =>
   call laws_szStored [.agg [(atP c2 0), (atP c2 1), (atP c2 2), (atP c2 3), (atP c2 4), (atP c2 5), (atP c2 6), (atP c2 7), (atP c2 8), (atP c2 9), (atP c2 10), (atP c2 11), (atP c2 12), (atP c2 13), (atP c2 14), (atP c2 15), (atP c2 16), (atP c2 17), (atP c2 18), (atP c2 19), (atP c2 20), (atP c2 21), (atP c2 22)], .one v1] fun o3 =>
   binP .lss (atP o3 0) (I 0) fun r4 =>
   iteP r4
    (x0k)
    (binP .add v3 (I 1) fun r5 =>
    K [v0, (atP o3 0), v2, r5]))
   (x1k v0 v1 v2 v3)) v
def laws_szStoredS : GM
 | [.one a0, .one a1], k => 
  lenP a0 fun r0 =>
  binP .sub a1 r0 fun r1 =>
  binP .lss r1 (I 0) fun r2 =>
  iteP r2
   (rt [.sc] [(I (-1))] k)
   (lp (fun L w => laws_szStoredS_r0 w L
    (rt [.sc] [(I (-1))] k)
    (fun q6 q7 q8 q9 => rt [.sc] [q7] k)) [a0, r1, (I 0), (I 0)])
 | _, _ => False
abbrev laws_szStoredS_e : Ent := ⟨[55], laws_szStoredS⟩
def laws_szStoredS_l : List LE := [⟨0, ⟨[(0, .one (.pv (.bool false))), (1, .one (.pv (.bool false))), (4, .one (.pv (.bool false))), (5, .one (.pv (.bool false)))], [], [], 0, 27⟩, fun K k v => laws_szStoredS_r0 v K (k .ret ⟨[(4, .one (.pv (I (-1))))], [], [], 1, 27⟩) (fun x0 x1 x2 x3 => k (.exit 0) ⟨[(0, .one (.pv x0)), (1, .one (.pv x1)), (4, .one (.pv x2)), (5, .one (.pv x3))], [], [], 0, 27⟩)⟩]
theorem laws_szStoredS_s : LEsOK (orac [laws_szStored_e]) TT (kk [0, 1, 4, 5]) (sumsOf laws_szStoredS_l) Tryz.f55 laws_szStoredS_l := ⟨fun v K k h => by
  apply un_all h; exact fun v0 v1 v2 v3 h => Eq.mpr (by kernel_rfl) h
  , trivial⟩
theorem laws_szStoredS_w : EntOK Tryz.prog TT laws_szStoredS_e := ent_ok tabok (L := [laws_szStored_e]) ⟨laws_szStored_w, trivial⟩ (keep := (kk [0, 1, 4, 5])) (l := laws_szStoredS_l) Tryz.func55 (by kernel_rfl) (sg := [.one (.sc)]) (by kernel_rfl) laws_szStoredS_s fun av k h => by
  unfold laws_szStoredS at h; split at h
  · exact Eq.mpr (by kernel_rfl) h
  · exact h.elim

def laws_szCache : GM
 | [.agg u0, .one a1], k => un 1 (fun a0 => 
  call laws_szStoredS [.one a0, .one a1] fun o0 =>
  binP .lss (atP o0 0) (I 0) fun r1 =>
  iteP r1
   (rt [.sc] [(I (-1))] k)
   (rt [.sc] [(atP o0 0)] k)) u0
 | _, _ => False
abbrev laws_szCache_e : Ent := ⟨[20], laws_szCache⟩
theorem laws_szCache_w : EntOK Tryz.prog TT laws_szCache_e := ent_ok tabok (L := [laws_szStoredS_e]) ⟨laws_szStoredS_w, trivial⟩ (keep := []) (l := []) Tryz.func20 (by kernel_rfl) (sg := [.one (.sc)]) (by kernel_rfl) trivial fun av k h => by
  unfold laws_szCache at h; split at h
  · apply un_all h; clear h; intro a0 h; exact Eq.mpr (by kernel_rfl) h
  · exact h.elim

def laws_szWorld : GM
 | [.agg u0, .one a8], k => un 8 (fun a0 a1 a2 a3 a4 a5 a6 a7 => 
  call laws_szActorS [.one a1, .one a8] fun o0 =>
  binP .lss (atP o0 0) (I 0) fun r1 =>
  iteP r1
   (rt [.sc] [(I (-1))] k)
   (call laws_szZoneS [.one a2, .one (atP o0 0)] fun o2 =>
   binP .lss (atP o2 0) (I 0) fun r3 =>
   iteP r3
    (rt [.sc] [(I (-1))] k)
    (call laws_szSaidS [.one a3, .one (atP o2 0)] fun o4 =>
    binP .lss (atP o4 0) (I 0) fun r5 =>
    iteP r5
     (rt [.sc] [(I (-1))] k)
     (call laws_szServerS [.one a4, .one (atP o4 0)] fun o6 =>
     binP .lss (atP o6 0) (I 0) fun r7 =>
     iteP r7
      (rt [.sc] [(I (-1))] k)
      (call laws_szKnown [.agg [a5, a6], .one (atP o6 0)] fun o8 =>
      binP .lss (atP o8 0) (I 0) fun r9 =>
      iteP r9
       (rt [.sc] [(I (-1))] k)
       (call laws_szCache [.agg [a7], .one (atP o8 0)] fun o10 =>
       binP .lss (atP o10 0) (I 0) fun r11 =>
       iteP r11
        (rt [.sc] [(I (-1))] k)
        (rt [.sc] [(atP o10 0)] k))))))) u0
 | _, _ => False
abbrev laws_szWorld_e : Ent := ⟨[5], laws_szWorld⟩
theorem laws_szWorld_w : EntOK Tryz.prog TT laws_szWorld_e := ent_ok tabok (L := [laws_szActorS_e, laws_szZoneS_e, laws_szSaidS_e, laws_szServerS_e, laws_szKnown_e, laws_szCache_e]) ⟨laws_szActorS_w, laws_szZoneS_w, laws_szSaidS_w, laws_szServerS_w, laws_szKnown_w, laws_szCache_w, trivial⟩ (keep := []) (l := []) Tryz.func5 (by kernel_rfl) (sg := [.one (.sc)]) (by kernel_rfl) trivial fun av k h => by
  unfold laws_szWorld at h; split at h
  · apply un_all h; clear h; intro a0 a1 a2 a3 a4 a5 a6 a7 h; exact Eq.mpr (by kernel_rfl) h
  · exact h.elim

def laws_toIntS_r0 (v : List PV) (K : List PV → Prop) (x0k : PV → PV → PV → PV → Prop) : Prop :=
 un 4 (fun v0 v1 v2 v3 =>
  lenP v0 fun r0 =>
  binP .lss v1 r0 fun r1 =>
  iteP r1
   (elemP 1 v0 v1 fun c2 =>
   boundP 1 v3 v1 fun n3 =>
   (flatCond [.pv (I 0)] [.pv (atP c2 0)]) ∧ setP v3 n3 0 [(atP c2 0)] fun r4 =>
   binP .add v1 (I 1) fun r5 =>
   K [v0, r5, v2, r4])
   (x0k v0 v1 v2 v3)) v
def laws_toIntS : GM
 | [.one a0], k => 
  lenP a0 fun r0 =>
  (r0 = r0) ∧ (1 = 1) ∧ makeP 1 r0 [(I 0)] fun r1 =>
  lp (fun L w => laws_toIntS_r0 w L
   (fun q6 q7 q8 q9 => rt [.own true 3 1] [q9] k)) [a0, (I 0), (.list 1 []), r1]
 | _, _ => False
abbrev laws_toIntS_e : Ent := ⟨[90], laws_toIntS⟩
def laws_toIntS_l : List LE := [⟨0, ⟨[(0, .one (.pv (.bool false))), (2, .one (.own 1)), (3, .one (.own 0)), (4, .one (.pv (.bool false)))], [], [(1, ⟨.deep, 3, 1, (.bool false)⟩), (0, ⟨.deep, 3, 1, (.bool false)⟩)], 2, 22⟩, fun K k v => laws_toIntS_r0 v K (fun x0 x1 x2 x3 => k (.exit 0) ⟨[(0, .one (.pv x0)), (2, .one (.own 1)), (3, .one (.own 0)), (4, .one (.pv x1))], [], [(1, ⟨.deep, 3, 1, x2⟩), (0, ⟨.deep, 3, 1, x3⟩)], 2, 22⟩)⟩]
theorem laws_toIntS_s : LEsOK (orac []) TT (kk [0, 2, 3, 4]) (sumsOf laws_toIntS_l) Tryz.f90 laws_toIntS_l := ⟨fun v K k h => by
  apply un_all h; exact fun v0 v1 v2 v3 h => Eq.mpr (by kernel_rfl) h
  , trivial⟩
theorem laws_toIntS_w : EntOK Tryz.prog TT laws_toIntS_e := ent_ok tabok (L := []) trivial (keep := (kk [0, 2, 3, 4])) (l := laws_toIntS_l) Tryz.func90 (by kernel_rfl) (sg := [.one (.own true 3 1)]) (by kernel_rfl) laws_toIntS_s fun av k h => by
  unfold laws_toIntS at h; split at h
  · exact Eq.mpr (by kernel_rfl) h
  · exact h.elim

def laws_toActor : GM
 | [.agg u0], k => un 1 (fun a0 => 
  call laws_toIntS [.one a0] fun o0 =>
  rt [.own true 3 1] [(atP o0 0)] k) u0
 | _, _ => False
abbrev laws_toActor_e : Ent := ⟨[56], laws_toActor⟩
theorem laws_toActor_w : EntOK Tryz.prog TT laws_toActor_e := ent_ok tabok (L := [laws_toIntS_e]) ⟨laws_toIntS_w, trivial⟩ (keep := []) (l := []) Tryz.func56 (by kernel_rfl) (sg := [.agg [.own true 3 1]]) (by kernel_rfl) trivial fun av k h => by
  unfold laws_toActor at h; split at h
  · apply un_all h; clear h; intro a0 h; exact Eq.mpr (by kernel_rfl) h
  · exact h.elim

def laws_toActorS_r0 (v : List PV) (K : List PV → Prop) (x0k : PV → PV → PV → PV → Prop) : Prop :=
 un 4 (fun v0 v1 v2 v3 =>
  lenP v0 fun r0 =>
  binP .lss v1 r0 fun r1 =>
  iteP r1
   (elemP 1 v0 v1 fun c2 =>
   call laws_toActor [.agg [(atP c2 0)]] fun o3 =>
   boundP 1 v3 v1 fun n4 =>
   (flatCond [.nil 3 1] [.own 2]) ∧ setP v3 n4 0 [(atP o3 0)] fun r5 =>
   binP .add v1 (I 1) fun r6 =>
   K [v0, r6, v2, r5])
   (x0k v0 v1 v2 v3)) v
def laws_toActorS : GM
 | [.one a0], k => 
  lenP a0 fun r0 =>
  (r0 = r0) ∧ (1 = 1) ∧ makeP 1 r0 [(.list 1 [])] fun r1 =>
  lp (fun L w => laws_toActorS_r0 w L
   (fun q7 q8 q9 q10 => rt [.own true 119 1] [q10] k)) [a0, (I 0), (.list 1 []), r1]
 | _, _ => False
abbrev laws_toActorS_e : Ent := ⟨[22], laws_toActorS⟩
def laws_toActorS_l : List LE := [⟨0, ⟨[(0, .one (.pv (.bool false))), (2, .one (.own 1)), (3, .one (.own 0)), (4, .one (.pv (.bool false)))], [], [(1, ⟨.deep, 119, 1, (.bool false)⟩), (0, ⟨.deep, 119, 1, (.bool false)⟩)], 2, 23⟩, fun K k v => laws_toActorS_r0 v K (fun x0 x1 x2 x3 => k (.exit 0) ⟨[(0, .one (.pv x0)), (2, .one (.own 1)), (3, .one (.own 0)), (4, .one (.pv x1))], [], [(1, ⟨.deep, 119, 1, x2⟩), (0, ⟨.deep, 119, 1, x3⟩)], 2, 23⟩)⟩]
theorem laws_toActorS_s : LEsOK (orac [laws_toActor_e]) TT (kk [0, 2, 3, 4]) (sumsOf laws_toActorS_l) Tryz.f22 laws_toActorS_l := ⟨fun v K k h => by
  apply un_all h; exact fun v0 v1 v2 v3 h => Eq.mpr (by kernel_rfl) h
  , trivial⟩
theorem laws_toActorS_w : EntOK Tryz.prog TT laws_toActorS_e := ent_ok tabok (L := [laws_toActor_e]) ⟨laws_toActor_w, trivial⟩ (keep := (kk [0, 2, 3, 4])) (l := laws_toActorS_l) Tryz.func22 (by kernel_rfl) (sg := [.one (.own true 119 1)]) (by kernel_rfl) laws_toActorS_s fun av k h => by
  unfold laws_toActorS at h; split at h
  · exact Eq.mpr (by kernel_rfl) h
  · exact h.elim

def laws_toKeys : GM
 | [.agg u0], k => un 2 (fun a0 a1 => 
  call laws_toIntS [.one a0] fun o0 =>
  rt [.own true 3 1, .sc] [(atP o0 0), a1] k) u0
 | _, _ => False
abbrev laws_toKeys_e : Ent := ⟨[136], laws_toKeys⟩
theorem laws_toKeys_w : EntOK Tryz.prog TT laws_toKeys_e := ent_ok tabok (L := [laws_toIntS_e]) ⟨laws_toIntS_w, trivial⟩ (keep := []) (l := []) Tryz.func136 (by kernel_rfl) (sg := [.agg [.own true 3 1, .sc]]) (by kernel_rfl) trivial fun av k h => by
  unfold laws_toKeys at h; split at h
  · apply un_all h; clear h; intro a0 a1 h; exact Eq.mpr (by kernel_rfl) h
  · exact h.elim

def laws_toHead : GM
 | [.agg u0], k => un 16 (fun a0 a1 a2 a3 a4 a5 a6 a7 a8 a9 a10 a11 a12 a13 a14 a15 => 
  call laws_toKeys [.agg [a8, a9]] fun o0 =>
  call laws_toKeys [.agg [a10, a11]] fun o1 =>
  call laws_toKeys [.agg [a13, a14]] fun o2 =>
  rt [.sc, .sc, .sc, .sc, .sc, .sc, .sc, .sc, .own true 3 1, .sc, .own true 3 1, .sc, .sc, .own true 3 1, .sc, .sc] [a0, a1, a2, a3, a4, a5, a6, a7, (atP o0 0), (atP o0 1), (atP o1 0), (atP o1 1), a12, (atP o2 0), (atP o2 1), a15] k) u0
 | _, _ => False
abbrev laws_toHead_e : Ent := ⟨[109], laws_toHead⟩
theorem laws_toHead_w : EntOK Tryz.prog TT laws_toHead_e := ent_ok tabok (L := [laws_toKeys_e]) ⟨laws_toKeys_w, trivial⟩ (keep := []) (l := []) Tryz.func109 (by kernel_rfl) (sg := [.agg [.sc, .sc, .sc, .sc, .sc, .sc, .sc, .sc, .own true 3 1, .sc, .own true 3 1, .sc, .sc, .own true 3 1, .sc, .sc]]) (by kernel_rfl) trivial fun av k h => by
  unfold laws_toHead at h; split at h
  · apply un_all h; clear h; intro a0 a1 a2 a3 a4 a5 a6 a7 a8 a9 a10 a11 a12 a13 a14 a15 h; exact Eq.mpr (by kernel_rfl) h
  · exact h.elim

def laws_toSig : GM
 | [.agg u0], k => un 2 (fun a0 a1 => 
  rt [.sc, .sc] [a0, a1] k) u0
 | _, _ => False
abbrev laws_toSig_e : Ent := ⟨[137], laws_toSig⟩
theorem laws_toSig_w : EntOK Tryz.prog TT laws_toSig_e := ent_ok tabok (L := []) trivial (keep := []) (l := []) Tryz.func137 (by kernel_rfl) (sg := [.agg [.sc, .sc]]) (by kernel_rfl) trivial fun av k h => by
  unfold laws_toSig at h; split at h
  · apply un_all h; clear h; intro a0 a1 h; exact Eq.mpr (by kernel_rfl) h
  · exact h.elim

def laws_toSigS_r0 (v : List PV) (K : List PV → Prop) (x0k : PV → PV → PV → PV → Prop) : Prop :=
 un 4 (fun v0 v1 v2 v3 =>
  lenP v0 fun r0 =>
  binP .lss v1 r0 fun r1 =>
  iteP r1
   (elemP 2 v0 v1 fun c2 =>
   call laws_toSig [.agg [(atP c2 0), (atP c2 1)]] fun o3 =>
   boundP 2 v3 v1 fun n4 =>
   (flatCond [.pv (I 0), .pv (I 0)] [.pv (atP o3 0), .pv (atP o3 1)]) ∧ setP v3 n4 0 [(atP o3 0), (atP o3 1)] fun r5 =>
   binP .add v1 (I 1) fun r6 =>
   K [v0, r6, v2, r5])
   (x0k v0 v1 v2 v3)) v
def laws_toSigS : GM
 | [.one a0], k => 
  lenP a0 fun r0 =>
  (r0 = r0) ∧ (2 = 2) ∧ makeP 2 r0 [(I 0), (I 0)] fun r1 =>
  lp (fun L w => laws_toSigS_r0 w L
   (fun q7 q8 q9 q10 => rt [.own true 228 2] [q10] k)) [a0, (I 0), (.list 2 []), r1]
 | _, _ => False
abbrev laws_toSigS_e : Ent := ⟨[110], laws_toSigS⟩
def laws_toSigS_l : List LE := [⟨0, ⟨[(0, .one (.pv (.bool false))), (2, .one (.own 1)), (3, .one (.own 0)), (4, .one (.pv (.bool false)))], [], [(1, ⟨.deep, 228, 2, (.bool false)⟩), (0, ⟨.deep, 228, 2, (.bool false)⟩)], 2, 23⟩, fun K k v => laws_toSigS_r0 v K (fun x0 x1 x2 x3 => k (.exit 0) ⟨[(0, .one (.pv x0)), (2, .one (.own 1)), (3, .one (.own 0)), (4, .one (.pv x1))], [], [(1, ⟨.deep, 228, 2, x2⟩), (0, ⟨.deep, 228, 2, x3⟩)], 2, 23⟩)⟩]
theorem laws_toSigS_s : LEsOK (orac [laws_toSig_e]) TT (kk [0, 2, 3, 4]) (sumsOf laws_toSigS_l) Tryz.f110 laws_toSigS_l := ⟨fun v K k h => by
  apply un_all h; exact fun v0 v1 v2 v3 h => Eq.mpr (by kernel_rfl) h
  , trivial⟩
theorem laws_toSigS_w : EntOK Tryz.prog TT laws_toSigS_e := ent_ok tabok (L := [laws_toSig_e]) ⟨laws_toSig_w, trivial⟩ (keep := (kk [0, 2, 3, 4])) (l := laws_toSigS_l) Tryz.func110 (by kernel_rfl) (sg := [.one (.own true 228 2)]) (by kernel_rfl) laws_toSigS_s fun av k h => by
  unfold laws_toSigS at h; split at h
  · exact Eq.mpr (by kernel_rfl) h
  · exact h.elim

def laws_toSigned : GM
 | [.agg u0], k => un 17 (fun a0 a1 a2 a3 a4 a5 a6 a7 a8 a9 a10 a11 a12 a13 a14 a15 a16 => 
  call laws_toHead [.agg [a0, a1, a2, a3, a4, a5, a6, a7, a8, a9, a10, a11, a12, a13, a14, a15]] fun o0 =>
  call laws_toSigS [.one a16] fun o1 =>
  rt [.sc, .sc, .sc, .sc, .sc, .sc, .sc, .sc, .own true 3 1, .sc, .own true 3 1, .sc, .sc, .own true 3 1, .sc, .sc, .own true 228 2] [(atP o0 0), (atP o0 1), (atP o0 2), (atP o0 3), (atP o0 4), (atP o0 5), (atP o0 6), (atP o0 7), (atP o0 8), (atP o0 9), (atP o0 10), (atP o0 11), (atP o0 12), (atP o0 13), (atP o0 14), (atP o0 15), (atP o1 0)] k) u0
 | _, _ => False
abbrev laws_toSigned_e : Ent := ⟨[78], laws_toSigned⟩
theorem laws_toSigned_w : EntOK Tryz.prog TT laws_toSigned_e := ent_ok tabok (L := [laws_toHead_e, laws_toSigS_e]) ⟨laws_toHead_w, laws_toSigS_w, trivial⟩ (keep := []) (l := []) Tryz.func78 (by kernel_rfl) (sg := [.agg [.sc, .sc, .sc, .sc, .sc, .sc, .sc, .sc, .own true 3 1, .sc, .own true 3 1, .sc, .sc, .own true 3 1, .sc, .sc, .own true 228 2]]) (by kernel_rfl) trivial fun av k h => by
  unfold laws_toSigned at h; split at h
  · apply un_all h; clear h; intro a0 a1 a2 a3 a4 a5 a6 a7 a8 a9 a10 a11 a12 a13 a14 a15 a16 h; exact Eq.mpr (by kernel_rfl) h
  · exact h.elim

def laws_toSignedS_r0 (v : List PV) (K : List PV → Prop) (x0k : PV → PV → PV → PV → Prop) : Prop :=
 un 4 (fun v0 v1 v2 v3 =>
  lenP v0 fun r0 =>
  binP .lss v1 r0 fun r1 =>
  iteP r1
   (elemP 17 v0 v1 fun c2 =>
   call laws_toSigned [.agg [(atP c2 0), (atP c2 1), (atP c2 2), (atP c2 3), (atP c2 4), (atP c2 5), (atP c2 6), (atP c2 7), (atP c2 8), (atP c2 9), (atP c2 10), (atP c2 11), (atP c2 12), (atP c2 13), (atP c2 14), (atP c2 15), (atP c2 16)]] fun o3 =>
   boundP 17 v3 v1 fun n4 =>
   (flatCond [.pv (I 0), .pv (I 0), .pv (I 0), .pv (I 0), .pv (I 0), .pv (I 0), .pv (I 0), .pv (I 0), .nil 3 1, .pv (I 0), .nil 3 1, .pv (I 0), .pv (I 0), .nil 3 1, .pv (I 0), .pv (.bool false), .nil 228 2] [.pv (atP o3 0), .pv (atP o3 1), .pv (atP o3 2), .pv (atP o3 3), .pv (atP o3 4), .pv (atP o3 5), .pv (atP o3 6), .pv (atP o3 7), .own 10, .pv (atP o3 9), .own 12, .pv (atP o3 11), .pv (atP o3 12), .own 15, .pv (atP o3 14), .pv (atP o3 15), .own 18]) ∧ setP v3 n4 0 [(atP o3 0), (atP o3 1), (atP o3 2), (atP o3 3), (atP o3 4), (atP o3 5), (atP o3 6), (atP o3 7), (atP o3 8), (atP o3 9), (atP o3 10), (atP o3 11), (atP o3 12), (atP o3 13), (atP o3 14), (atP o3 15), (atP o3 16)] fun r5 =>
   binP .add v1 (I 1) fun r6 =>
   K [v0, r6, v2, r5])
   (x0k v0 v1 v2 v3)) v
def laws_toSignedS : GM
 | [.one a0], k => 
  lenP a0 fun r0 =>
  (r0 = r0) ∧ (17 = 17) ∧ makeP 17 r0 [(I 0), (I 0), (I 0), (I 0), (I 0), (I 0), (I 0), (I 0), (.list 1 []), (I 0), (.list 1 []), (I 0), (I 0), (.list 1 []), (I 0), (.bool false), (.list 2 [])] fun r1 =>
  lp (fun L w => laws_toSignedS_r0 w L
   (fun q7 q8 q9 q10 => rt [.own true 150 17] [q10] k)) [a0, (I 0), (.list 17 []), r1]
 | _, _ => False
abbrev laws_toSignedS_e : Ent := ⟨[42], laws_toSignedS⟩
def laws_toSignedS_l : List LE := [⟨0, ⟨[(0, .one (.pv (.bool false))), (2, .one (.own 1)), (3, .one (.own 0)), (4, .one (.pv (.bool false)))], [], [(1, ⟨.deep, 150, 17, (.bool false)⟩), (0, ⟨.deep, 150, 17, (.bool false)⟩)], 2, 23⟩, fun K k v => laws_toSignedS_r0 v K (fun x0 x1 x2 x3 => k (.exit 0) ⟨[(0, .one (.pv x0)), (2, .one (.own 1)), (3, .one (.own 0)), (4, .one (.pv x1))], [], [(1, ⟨.deep, 150, 17, x2⟩), (0, ⟨.deep, 150, 17, x3⟩)], 2, 23⟩)⟩]
theorem laws_toSignedS_s : LEsOK (orac [laws_toSigned_e]) TT (kk [0, 2, 3, 4]) (sumsOf laws_toSignedS_l) Tryz.f42 laws_toSignedS_l := ⟨fun v K k h => by
  apply un_all h; exact fun v0 v1 v2 v3 h => Eq.mpr (by kernel_rfl) h
  , trivial⟩
theorem laws_toSignedS_w : EntOK Tryz.prog TT laws_toSignedS_e := ent_ok tabok (L := [laws_toSigned_e]) ⟨laws_toSigned_w, trivial⟩ (keep := (kk [0, 2, 3, 4])) (l := laws_toSignedS_l) Tryz.func42 (by kernel_rfl) (sg := [.one (.own true 150 17)]) (by kernel_rfl) laws_toSignedS_s fun av k h => by
  unfold laws_toSignedS at h; split at h
  · exact Eq.mpr (by kernel_rfl) h
  · exact h.elim

def laws_toStringS_r0 (v : List PV) (K : List PV → Prop) (x0k : PV → PV → PV → PV → Prop) : Prop :=
 un 4 (fun v0 v1 v2 v3 =>
  lenP v0 fun r0 =>
  binP .lss v1 r0 fun r1 =>
  iteP r1
   (elemP 1 v0 v1 fun c2 =>
   boundP 1 v3 v1 fun n3 =>
   (flatCond [.pv (.str ⟨#[]⟩)] [.pv (atP c2 0)]) ∧ setP v3 n3 0 [(atP c2 0)] fun r4 =>
   binP .add v1 (I 1) fun r5 =>
   K [v0, r5, v2, r4])
   (x0k v0 v1 v2 v3)) v
def laws_toStringS : GM
 | [.one a0], k => 
  lenP a0 fun r0 =>
  (r0 = r0) ∧ (1 = 1) ∧ makeP 1 r0 [(.str ⟨#[]⟩)] fun r1 =>
  lp (fun L w => laws_toStringS_r0 w L
   (fun q6 q7 q8 q9 => rt [.own true 9 1] [q9] k)) [a0, (I 0), (.list 1 []), r1]
 | _, _ => False
abbrev laws_toStringS_e : Ent := ⟨[111], laws_toStringS⟩
def laws_toStringS_l : List LE := [⟨0, ⟨[(0, .one (.pv (.bool false))), (2, .one (.own 1)), (3, .one (.own 0)), (4, .one (.pv (.bool false)))], [], [(1, ⟨.deep, 9, 1, (.bool false)⟩), (0, ⟨.deep, 9, 1, (.bool false)⟩)], 2, 22⟩, fun K k v => laws_toStringS_r0 v K (fun x0 x1 x2 x3 => k (.exit 0) ⟨[(0, .one (.pv x0)), (2, .one (.own 1)), (3, .one (.own 0)), (4, .one (.pv x1))], [], [(1, ⟨.deep, 9, 1, x2⟩), (0, ⟨.deep, 9, 1, x3⟩)], 2, 22⟩)⟩]
theorem laws_toStringS_s : LEsOK (orac []) TT (kk [0, 2, 3, 4]) (sumsOf laws_toStringS_l) Tryz.f111 laws_toStringS_l := ⟨fun v K k h => by
  apply un_all h; exact fun v0 v1 v2 v3 h => Eq.mpr (by kernel_rfl) h
  , trivial⟩
theorem laws_toStringS_w : EntOK Tryz.prog TT laws_toStringS_e := ent_ok tabok (L := []) trivial (keep := (kk [0, 2, 3, 4])) (l := laws_toStringS_l) Tryz.func111 (by kernel_rfl) (sg := [.one (.own true 9 1)]) (by kernel_rfl) laws_toStringS_s fun av k h => by
  unfold laws_toStringS at h; split at h
  · exact Eq.mpr (by kernel_rfl) h
  · exact h.elim

def laws_toEntry : GM
 | [.agg u0], k => un 4 (fun a0 a1 a2 a3 => 
  call laws_toStringS [.one a3] fun o0 =>
  rt [.sc, .sc, .sc, .own true 9 1] [a0, a1, a2, (atP o0 0)] k) u0
 | _, _ => False
abbrev laws_toEntry_e : Ent := ⟨[79], laws_toEntry⟩
theorem laws_toEntry_w : EntOK Tryz.prog TT laws_toEntry_e := ent_ok tabok (L := [laws_toStringS_e]) ⟨laws_toStringS_w, trivial⟩ (keep := []) (l := []) Tryz.func79 (by kernel_rfl) (sg := [.agg [.sc, .sc, .sc, .own true 9 1]]) (by kernel_rfl) trivial fun av k h => by
  unfold laws_toEntry at h; split at h
  · apply un_all h; clear h; intro a0 a1 a2 a3 h; exact Eq.mpr (by kernel_rfl) h
  · exact h.elim

def laws_toEntryS_r0 (v : List PV) (K : List PV → Prop) (x0k : PV → PV → PV → PV → Prop) : Prop :=
 un 4 (fun v0 v1 v2 v3 =>
  lenP v0 fun r0 =>
  binP .lss v1 r0 fun r1 =>
  iteP r1
   (elemP 4 v0 v1 fun c2 =>
   call laws_toEntry [.agg [(atP c2 0), (atP c2 1), (atP c2 2), (atP c2 3)]] fun o3 =>
   boundP 4 v3 v1 fun n4 =>
   (flatCond [.pv (.str ⟨#[]⟩), .pv (I 0), .pv (I 0), .nil 9 1] [.pv (atP o3 0), .pv (atP o3 1), .pv (atP o3 2), .own 5]) ∧ setP v3 n4 0 [(atP o3 0), (atP o3 1), (atP o3 2), (atP o3 3)] fun r5 =>
   binP .add v1 (I 1) fun r6 =>
   K [v0, r6, v2, r5])
   (x0k v0 v1 v2 v3)) v
def laws_toEntryS : GM
 | [.one a0], k => 
  lenP a0 fun r0 =>
  (r0 = r0) ∧ (4 = 4) ∧ makeP 4 r0 [(.str ⟨#[]⟩), (I 0), (I 0), (.list 1 [])] fun r1 =>
  lp (fun L w => laws_toEntryS_r0 w L
   (fun q7 q8 q9 q10 => rt [.own true 100 4] [q10] k)) [a0, (I 0), (.list 4 []), r1]
 | _, _ => False
abbrev laws_toEntryS_e : Ent := ⟨[43], laws_toEntryS⟩
def laws_toEntryS_l : List LE := [⟨0, ⟨[(0, .one (.pv (.bool false))), (2, .one (.own 1)), (3, .one (.own 0)), (4, .one (.pv (.bool false)))], [], [(1, ⟨.deep, 100, 4, (.bool false)⟩), (0, ⟨.deep, 100, 4, (.bool false)⟩)], 2, 23⟩, fun K k v => laws_toEntryS_r0 v K (fun x0 x1 x2 x3 => k (.exit 0) ⟨[(0, .one (.pv x0)), (2, .one (.own 1)), (3, .one (.own 0)), (4, .one (.pv x1))], [], [(1, ⟨.deep, 100, 4, x2⟩), (0, ⟨.deep, 100, 4, x3⟩)], 2, 23⟩)⟩]
theorem laws_toEntryS_s : LEsOK (orac [laws_toEntry_e]) TT (kk [0, 2, 3, 4]) (sumsOf laws_toEntryS_l) Tryz.f43 laws_toEntryS_l := ⟨fun v K k h => by
  apply un_all h; exact fun v0 v1 v2 v3 h => Eq.mpr (by kernel_rfl) h
  , trivial⟩
theorem laws_toEntryS_w : EntOK Tryz.prog TT laws_toEntryS_e := ent_ok tabok (L := [laws_toEntry_e]) ⟨laws_toEntry_w, trivial⟩ (keep := (kk [0, 2, 3, 4])) (l := laws_toEntryS_l) Tryz.func43 (by kernel_rfl) (sg := [.one (.own true 100 4)]) (by kernel_rfl) laws_toEntryS_s fun av k h => by
  unfold laws_toEntryS at h; split at h
  · exact Eq.mpr (by kernel_rfl) h
  · exact h.elim

def laws_toZone : GM
 | [.agg u0], k => un 2 (fun a0 a1 => 
  call laws_toSignedS [.one a0] fun o0 =>
  call laws_toEntryS [.one a1] fun o1 =>
  rt [.own true 150 17, .own true 100 4] [(atP o0 0), (atP o1 0)] k) u0
 | _, _ => False
abbrev laws_toZone_e : Ent := ⟨[12], laws_toZone⟩
theorem laws_toZone_w : EntOK Tryz.prog TT laws_toZone_e := ent_ok tabok (L := [laws_toSignedS_e, laws_toEntryS_e]) ⟨laws_toSignedS_w, laws_toEntryS_w, trivial⟩ (keep := []) (l := []) Tryz.func12 (by kernel_rfl) (sg := [.agg [.own true 150 17, .own true 100 4]]) (by kernel_rfl) trivial fun av k h => by
  unfold laws_toZone at h; split at h
  · apply un_all h; clear h; intro a0 a1 h; exact Eq.mpr (by kernel_rfl) h
  · exact h.elim

def laws_toZoneS_r0 (v : List PV) (K : List PV → Prop) (x0k : PV → PV → PV → PV → Prop) : Prop :=
 un 4 (fun v0 v1 v2 v3 =>
  lenP v0 fun r0 =>
  binP .lss v1 r0 fun r1 =>
  iteP r1
   (elemP 2 v0 v1 fun c2 =>
   call laws_toZone [.agg [(atP c2 0), (atP c2 1)]] fun o3 =>
   boundP 2 v3 v1 fun n4 =>
   (flatCond [.nil 150 17, .nil 100 4] [.own 2, .own 3]) ∧ setP v3 n4 0 [(atP o3 0), (atP o3 1)] fun r5 =>
   binP .add v1 (I 1) fun r6 =>
   K [v0, r6, v2, r5])
   (x0k v0 v1 v2 v3)) v
def laws_toZoneS : GM
 | [.one a0], k => 
  lenP a0 fun r0 =>
  (r0 = r0) ∧ (2 = 2) ∧ makeP 2 r0 [(.list 17 []), (.list 4 [])] fun r1 =>
  lp (fun L w => laws_toZoneS_r0 w L
   (fun q7 q8 q9 q10 => rt [.own true 62 2] [q10] k)) [a0, (I 0), (.list 2 []), r1]
 | _, _ => False
abbrev laws_toZoneS_e : Ent := ⟨[23], laws_toZoneS⟩
def laws_toZoneS_l : List LE := [⟨0, ⟨[(0, .one (.pv (.bool false))), (2, .one (.own 1)), (3, .one (.own 0)), (4, .one (.pv (.bool false)))], [], [(1, ⟨.deep, 62, 2, (.bool false)⟩), (0, ⟨.deep, 62, 2, (.bool false)⟩)], 2, 23⟩, fun K k v => laws_toZoneS_r0 v K (fun x0 x1 x2 x3 => k (.exit 0) ⟨[(0, .one (.pv x0)), (2, .one (.own 1)), (3, .one (.own 0)), (4, .one (.pv x1))], [], [(1, ⟨.deep, 62, 2, x2⟩), (0, ⟨.deep, 62, 2, x3⟩)], 2, 23⟩)⟩]
theorem laws_toZoneS_s : LEsOK (orac [laws_toZone_e]) TT (kk [0, 2, 3, 4]) (sumsOf laws_toZoneS_l) Tryz.f23 laws_toZoneS_l := ⟨fun v K k h => by
  apply un_all h; exact fun v0 v1 v2 v3 h => Eq.mpr (by kernel_rfl) h
  , trivial⟩
theorem laws_toZoneS_w : EntOK Tryz.prog TT laws_toZoneS_e := ent_ok tabok (L := [laws_toZone_e]) ⟨laws_toZone_w, trivial⟩ (keep := (kk [0, 2, 3, 4])) (l := laws_toZoneS_l) Tryz.func23 (by kernel_rfl) (sg := [.one (.own true 62 2)]) (by kernel_rfl) laws_toZoneS_s fun av k h => by
  unfold laws_toZoneS at h; split at h
  · exact Eq.mpr (by kernel_rfl) h
  · exact h.elim

def laws_toSaid : GM
 | [.agg u0], k => un 3 (fun a0 a1 a2 => 
  call laws_toZone [.agg [a0, a1]] fun o0 =>
  call laws_toIntS [.one a2] fun o1 =>
  rt [.own true 150 17, .own true 100 4, .own true 3 1] [(atP o0 0), (atP o0 1), (atP o1 0)] k) u0
 | _, _ => False
abbrev laws_toSaid_e : Ent := ⟨[57], laws_toSaid⟩
theorem laws_toSaid_w : EntOK Tryz.prog TT laws_toSaid_e := ent_ok tabok (L := [laws_toZone_e, laws_toIntS_e]) ⟨laws_toZone_w, laws_toIntS_w, trivial⟩ (keep := []) (l := []) Tryz.func57 (by kernel_rfl) (sg := [.agg [.own true 150 17, .own true 100 4, .own true 3 1]]) (by kernel_rfl) trivial fun av k h => by
  unfold laws_toSaid at h; split at h
  · apply un_all h; clear h; intro a0 a1 a2 h; exact Eq.mpr (by kernel_rfl) h
  · exact h.elim

def laws_toSaidS_r0 (v : List PV) (K : List PV → Prop) (x0k : PV → PV → PV → PV → Prop) : Prop :=
 un 4 (fun v0 v1 v2 v3 =>
  lenP v0 fun r0 =>
  binP .lss v1 r0 fun r1 =>
  iteP r1
   (elemP 3 v0 v1 fun c2 =>
   call laws_toSaid [.agg [(atP c2 0), (atP c2 1), (atP c2 2)]] fun o3 =>
   boundP 3 v3 v1 fun n4 =>
   (flatCond [.nil 150 17, .nil 100 4, .nil 3 1] [.own 2, .own 3, .own 4]) ∧ setP v3 n4 0 [(atP o3 0), (atP o3 1), (atP o3 2)] fun r5 =>
   binP .add v1 (I 1) fun r6 =>
   K [v0, r6, v2, r5])
   (x0k v0 v1 v2 v3)) v
def laws_toSaidS : GM
 | [.one a0], k => 
  lenP a0 fun r0 =>
  (r0 = r0) ∧ (3 = 3) ∧ makeP 3 r0 [(.list 17 []), (.list 4 []), (.list 1 [])] fun r1 =>
  lp (fun L w => laws_toSaidS_r0 w L
   (fun q7 q8 q9 q10 => rt [.own true 122 3] [q10] k)) [a0, (I 0), (.list 3 []), r1]
 | _, _ => False
abbrev laws_toSaidS_e : Ent := ⟨[24], laws_toSaidS⟩
def laws_toSaidS_l : List LE := [⟨0, ⟨[(0, .one (.pv (.bool false))), (2, .one (.own 1)), (3, .one (.own 0)), (4, .one (.pv (.bool false)))], [], [(1, ⟨.deep, 122, 3, (.bool false)⟩), (0, ⟨.deep, 122, 3, (.bool false)⟩)], 2, 23⟩, fun K k v => laws_toSaidS_r0 v K (fun x0 x1 x2 x3 => k (.exit 0) ⟨[(0, .one (.pv x0)), (2, .one (.own 1)), (3, .one (.own 0)), (4, .one (.pv x1))], [], [(1, ⟨.deep, 122, 3, x2⟩), (0, ⟨.deep, 122, 3, x3⟩)], 2, 23⟩)⟩]
theorem laws_toSaidS_s : LEsOK (orac [laws_toSaid_e]) TT (kk [0, 2, 3, 4]) (sumsOf laws_toSaidS_l) Tryz.f24 laws_toSaidS_l := ⟨fun v K k h => by
  apply un_all h; exact fun v0 v1 v2 v3 h => Eq.mpr (by kernel_rfl) h
  , trivial⟩
theorem laws_toSaidS_w : EntOK Tryz.prog TT laws_toSaidS_e := ent_ok tabok (L := [laws_toSaid_e]) ⟨laws_toSaid_w, trivial⟩ (keep := (kk [0, 2, 3, 4])) (l := laws_toSaidS_l) Tryz.func24 (by kernel_rfl) (sg := [.one (.own true 122 3)]) (by kernel_rfl) laws_toSaidS_s fun av k h => by
  unfold laws_toSaidS at h; split at h
  · exact Eq.mpr (by kernel_rfl) h
  · exact h.elim

def laws_toServer : GM
 | [.agg u0], k => un 2 (fun a0 a1 => 
  call laws_toZoneS [.one a0] fun o0 =>
  rt [.own true 62 2, .sc] [(atP o0 0), a1] k) u0
 | _, _ => False
abbrev laws_toServer_e : Ent := ⟨[58], laws_toServer⟩
theorem laws_toServer_w : EntOK Tryz.prog TT laws_toServer_e := ent_ok tabok (L := [laws_toZoneS_e]) ⟨laws_toZoneS_w, trivial⟩ (keep := []) (l := []) Tryz.func58 (by kernel_rfl) (sg := [.agg [.own true 62 2, .sc]]) (by kernel_rfl) trivial fun av k h => by
  unfold laws_toServer at h; split at h
  · apply un_all h; clear h; intro a0 a1 h; exact Eq.mpr (by kernel_rfl) h
  · exact h.elim

def laws_toServerS_r0 (v : List PV) (K : List PV → Prop) (x0k : PV → PV → PV → PV → Prop) : Prop :=
 un 4 (fun v0 v1 v2 v3 =>
  lenP v0 fun r0 =>
  binP .lss v1 r0 fun r1 =>
  iteP r1
   (elemP 2 v0 v1 fun c2 =>
   call laws_toServer [.agg [(atP c2 0), (atP c2 1)]] fun o3 =>
   boundP 2 v3 v1 fun n4 =>
   (flatCond [.nil 62 2, .pv (I 0)] [.own 2, .pv (atP o3 1)]) ∧ setP v3 n4 0 [(atP o3 0), (atP o3 1)] fun r5 =>
   binP .add v1 (I 1) fun r6 =>
   K [v0, r6, v2, r5])
   (x0k v0 v1 v2 v3)) v
def laws_toServerS : GM
 | [.one a0], k => 
  lenP a0 fun r0 =>
  (r0 = r0) ∧ (2 = 2) ∧ makeP 2 r0 [(.list 2 []), (I 0)] fun r1 =>
  lp (fun L w => laws_toServerS_r0 w L
   (fun q7 q8 q9 q10 => rt [.own true 125 2] [q10] k)) [a0, (I 0), (.list 2 []), r1]
 | _, _ => False
abbrev laws_toServerS_e : Ent := ⟨[25], laws_toServerS⟩
def laws_toServerS_l : List LE := [⟨0, ⟨[(0, .one (.pv (.bool false))), (2, .one (.own 1)), (3, .one (.own 0)), (4, .one (.pv (.bool false)))], [], [(1, ⟨.deep, 125, 2, (.bool false)⟩), (0, ⟨.deep, 125, 2, (.bool false)⟩)], 2, 23⟩, fun K k v => laws_toServerS_r0 v K (fun x0 x1 x2 x3 => k (.exit 0) ⟨[(0, .one (.pv x0)), (2, .one (.own 1)), (3, .one (.own 0)), (4, .one (.pv x1))], [], [(1, ⟨.deep, 125, 2, x2⟩), (0, ⟨.deep, 125, 2, x3⟩)], 2, 23⟩)⟩]
theorem laws_toServerS_s : LEsOK (orac [laws_toServer_e]) TT (kk [0, 2, 3, 4]) (sumsOf laws_toServerS_l) Tryz.f25 laws_toServerS_l := ⟨fun v K k h => by
  apply un_all h; exact fun v0 v1 v2 v3 h => Eq.mpr (by kernel_rfl) h
  , trivial⟩
theorem laws_toServerS_w : EntOK Tryz.prog TT laws_toServerS_e := ent_ok tabok (L := [laws_toServer_e]) ⟨laws_toServer_w, trivial⟩ (keep := (kk [0, 2, 3, 4])) (l := laws_toServerS_l) Tryz.func25 (by kernel_rfl) (sg := [.one (.own true 125 2)]) (by kernel_rfl) laws_toServerS_s fun av k h => by
  unfold laws_toServerS at h; split at h
  · exact Eq.mpr (by kernel_rfl) h
  · exact h.elim

def laws_toSignedSS_r0 (v : List PV) (K : List PV → Prop) (x0k : PV → PV → PV → PV → Prop) : Prop :=
 un 4 (fun v0 v1 v2 v3 =>
  lenP v0 fun r0 =>
  binP .lss v1 r0 fun r1 =>
  iteP r1
   (elemP 1 v0 v1 fun c2 =>
   call laws_toSignedS [.one (atP c2 0)] fun o3 =>
   boundP 1 v3 v1 fun n4 =>
   (flatCond [.nil 150 17] [.own 2]) ∧ setP v3 n4 0 [(atP o3 0)] fun r5 =>
   binP .add v1 (I 1) fun r6 =>
   K [v0, r6, v2, r5])
   (x0k v0 v1 v2 v3)) v
def laws_toSignedSS : GM
 | [.one a0], k => 
  lenP a0 fun r0 =>
  (r0 = r0) ∧ (1 = 1) ∧ makeP 1 r0 [(.list 17 [])] fun r1 =>
  lp (fun L w => laws_toSignedSS_r0 w L
   (fun q7 q8 q9 q10 => rt [.own true 59 1] [q10] k)) [a0, (I 0), (.list 1 []), r1]
 | _, _ => False
abbrev laws_toSignedSS_e : Ent := ⟨[59], laws_toSignedSS⟩
def laws_toSignedSS_l : List LE := [⟨0, ⟨[(0, .one (.pv (.bool false))), (2, .one (.own 1)), (3, .one (.own 0)), (4, .one (.pv (.bool false)))], [], [(1, ⟨.deep, 59, 1, (.bool false)⟩), (0, ⟨.deep, 59, 1, (.bool false)⟩)], 2, 23⟩, fun K k v => laws_toSignedSS_r0 v K (fun x0 x1 x2 x3 => k (.exit 0) ⟨[(0, .one (.pv x0)), (2, .one (.own 1)), (3, .one (.own 0)), (4, .one (.pv x1))], [], [(1, ⟨.deep, 59, 1, x2⟩), (0, ⟨.deep, 59, 1, x3⟩)], 2, 23⟩)⟩]
theorem laws_toSignedSS_s : LEsOK (orac [laws_toSignedS_e]) TT (kk [0, 2, 3, 4]) (sumsOf laws_toSignedSS_l) Tryz.f59 laws_toSignedSS_l := ⟨fun v K k h => by
  apply un_all h; exact fun v0 v1 v2 v3 h => Eq.mpr (by kernel_rfl) h
  , trivial⟩
theorem laws_toSignedSS_w : EntOK Tryz.prog TT laws_toSignedSS_e := ent_ok tabok (L := [laws_toSignedS_e]) ⟨laws_toSignedS_w, trivial⟩ (keep := (kk [0, 2, 3, 4])) (l := laws_toSignedSS_l) Tryz.func59 (by kernel_rfl) (sg := [.one (.own true 59 1)]) (by kernel_rfl) laws_toSignedSS_s fun av k h => by
  unfold laws_toSignedSS at h; split at h
  · exact Eq.mpr (by kernel_rfl) h
  · exact h.elim

def laws_toFork : GM
 | [.agg u0], k => un 51 (fun a0 a1 a2 a3 a4 a5 a6 a7 a8 a9 a10 a11 a12 a13 a14 a15 a16 a17 a18 a19 a20 a21 a22 a23 a24 a25 a26 a27 a28 a29 a30 a31 a32 a33 a34 a35 a36 a37 a38 a39 a40 a41 a42 a43 a44 a45 a46 a47 a48 a49 a50 => 
  call laws_toSigned [.agg [a0, a1, a2, a3, a4, a5, a6, a7, a8, a9, a10, a11, a12, a13, a14, a15, a16]] fun o0 =>
  call laws_toSigned [.agg [a17, a18, a19, a20, a21, a22, a23, a24, a25, a26, a27, a28, a29, a30, a31, a32, a33]] fun o1 =>
  call laws_toSigned [.agg [a34, a35, a36, a37, a38, a39, a40, a41, a42, a43, a44, a45, a46, a47, a48, a49, a50]] fun o2 =>
  rt [.sc, .sc, .sc, .sc, .sc, .sc, .sc, .sc, .own true 3 1, .sc, .own true 3 1, .sc, .sc, .own true 3 1, .sc, .sc, .own true 228 2, .sc, .sc, .sc, .sc, .sc, .sc, .sc, .sc, .own true 3 1, .sc, .own true 3 1, .sc, .sc, .own true 3 1, .sc, .sc, .own true 228 2, .sc, .sc, .sc, .sc, .sc, .sc, .sc, .sc, .own true 3 1, .sc, .own true 3 1, .sc, .sc, .own true 3 1, .sc, .sc, .own true 228 2] [(atP o0 0), (atP o0 1), (atP o0 2), (atP o0 3), (atP o0 4), (atP o0 5), (atP o0 6), (atP o0 7), (atP o0 8), (atP o0 9), (atP o0 10), (atP o0 11), (atP o0 12), (atP o0 13), (atP o0 14), (atP o0 15), (atP o0 16), (atP o1 0), (atP o1 1), (atP o1 2), (atP o1 3), (atP o1 4), (atP o1 5), (atP o1 6), (atP o1 7), (atP o1 8), (atP o1 9), (atP o1 10), (atP o1 11), (atP o1 12), (atP o1 13), (atP o1 14), (atP o1 15), (atP o1 16), (atP o2 0), (atP o2 1), (atP o2 2), (atP o2 3), (atP o2 4), (atP o2 5), (atP o2 6), (atP o2 7), (atP o2 8), (atP o2 9), (atP o2 10), (atP o2 11), (atP o2 12), (atP o2 13), (atP o2 14), (atP o2 15), (atP o2 16)] k) u0
 | _, _ => False
abbrev laws_toFork_e : Ent := ⟨[91], laws_toFork⟩
theorem laws_toFork_w : EntOK Tryz.prog TT laws_toFork_e := ent_ok tabok (L := [laws_toSigned_e]) ⟨laws_toSigned_w, trivial⟩ (keep := []) (l := []) Tryz.func91 (by kernel_rfl) (sg := [.agg [.sc, .sc, .sc, .sc, .sc, .sc, .sc, .sc, .own true 3 1, .sc, .own true 3 1, .sc, .sc, .own true 3 1, .sc, .sc, .own true 228 2, .sc, .sc, .sc, .sc, .sc, .sc, .sc, .sc, .own true 3 1, .sc, .own true 3 1, .sc, .sc, .own true 3 1, .sc, .sc, .own true 228 2, .sc, .sc, .sc, .sc, .sc, .sc, .sc, .sc, .own true 3 1, .sc, .own true 3 1, .sc, .sc, .own true 3 1, .sc, .sc, .own true 228 2]]) (by kernel_rfl) trivial fun av k h => by
  unfold laws_toFork at h; split at h
  · apply un_all h; clear h; intro a0 a1 a2 a3 a4 a5 a6 a7 a8 a9 a10 a11 a12 a13 a14 a15 a16 a17 a18 a19 a20 a21 a22 a23 a24 a25 a26 a27 a28 a29 a30 a31 a32 a33 a34 a35 a36 a37 a38 a39 a40 a41 a42 a43 a44 a45 a46 a47 a48 a49 a50 h; exact Eq.mpr (by kernel_rfl) h
  · exact h.elim

def laws_toForkS_r0 (v : List PV) (K : List PV → Prop) (x0k : PV → PV → PV → PV → Prop) : Prop :=
 un 4 (fun v0 v1 v2 v3 =>
  lenP v0 fun r0 =>
  binP .lss v1 r0 fun r1 =>
  iteP r1
   (elemP 51 v0 v1 fun c2 =>
   call laws_toFork [.agg [(atP c2 0), (atP c2 1), (atP c2 2), (atP c2 3), (atP c2 4), (atP c2 5), (atP c2 6), (atP c2 7), (atP c2 8), (atP c2 9), (atP c2 10), (atP c2 11), (atP c2 12), (atP c2 13), (atP c2 14), (atP c2 15), (atP c2 16), (atP c2 17), (atP c2 18), (atP c2 19), (atP c2 20), (atP c2 21), (atP c2 22), (atP c2 23), (atP c2 24), (atP c2 25), (atP c2 26), (atP c2 27), (atP c2 28), (atP c2 29), (atP c2 30), (atP c2 31), (atP c2 32), (atP c2 33), (atP c2 34), (atP c2 35), (atP c2 36), (atP c2 37), (atP c2 38), (atP c2 39), (atP c2 40), (atP c2 41), (atP c2 42), (atP c2 43), (atP c2 44), (atP c2 45), (atP c2 46), (atP c2 47), (atP c2 48), (atP c2 49), (atP c2 50)]] fun o3 =>
   boundP 51 v3 v1 fun n4 =>
   (flatCond [.pv (I 0), .pv (I 0), .pv (I 0), .pv (I 0), .pv (I 0), .pv (I 0), .pv (I 0), .pv (I 0), .nil 3 1, .pv (I 0), .nil 3 1, .pv (I 0), .pv (I 0), .nil 3 1, .pv (I 0), .pv (.bool false), .nil 228 2, .pv (I 0), .pv (I 0), .pv (I 0), .pv (I 0), .pv (I 0), .pv (I 0), .pv (I 0), .pv (I 0), .nil 3 1, .pv (I 0), .nil 3 1, .pv (I 0), .pv (I 0), .nil 3 1, .pv (I 0), .pv (.bool false), .nil 228 2, .pv (I 0), .pv (I 0), .pv (I 0), .pv (I 0), .pv (I 0), .pv (I 0), .pv (I 0), .pv (I 0), .nil 3 1, .pv (I 0), .nil 3 1, .pv (I 0), .pv (I 0), .nil 3 1, .pv (I 0), .pv (.bool false), .nil 228 2] [.pv (atP o3 0), .pv (atP o3 1), .pv (atP o3 2), .pv (atP o3 3), .pv (atP o3 4), .pv (atP o3 5), .pv (atP o3 6), .pv (atP o3 7), .own 10, .pv (atP o3 9), .own 12, .pv (atP o3 11), .pv (atP o3 12), .own 15, .pv (atP o3 14), .pv (atP o3 15), .own 18, .pv (atP o3 17), .pv (atP o3 18), .pv (atP o3 19), .pv (atP o3 20), .pv (atP o3 21), .pv (atP o3 22), .pv (atP o3 23), .pv (atP o3 24), .own 27, .pv (atP o3 26), .own 29, .pv (atP o3 28), .pv (atP o3 29), .own 32, .pv (atP o3 31), .pv (atP o3 32), .own 35, .pv (atP o3 34), .pv (atP o3 35), .pv (atP o3 36), .pv (atP o3 37), .pv (atP o3 38), .pv (atP o3 39), .pv (atP o3 40), .pv (atP o3 41), .own 44, .pv (atP o3 43), .own 46, .pv (atP o3 45), .pv (atP o3 46), .own 49, .pv (atP o3 48), .pv (atP o3 49), .own 52]) ∧ setP v3 n4 0 [(atP o3 0), (atP o3 1), (atP o3 2), (atP o3 3), (atP o3 4), (atP o3 5), (atP o3 6), (atP o3 7), (atP o3 8), (atP o3 9), (atP o3 10), (atP o3 11), (atP o3 12), (atP o3 13), (atP o3 14), (atP o3 15), (atP o3 16), (atP o3 17), (atP o3 18), (atP o3 19), (atP o3 20), (atP o3 21), (atP o3 22), (atP o3 23), (atP o3 24), (atP o3 25), (atP o3 26), (atP o3 27), (atP o3 28), (atP o3 29), (atP o3 30), (atP o3 31), (atP o3 32), (atP o3 33), (atP o3 34), (atP o3 35), (atP o3 36), (atP o3 37), (atP o3 38), (atP o3 39), (atP o3 40), (atP o3 41), (atP o3 42), (atP o3 43), (atP o3 44), (atP o3 45), (atP o3 46), (atP o3 47), (atP o3 48), (atP o3 49), (atP o3 50)] fun r5 =>
   binP .add v1 (I 1) fun r6 =>
   K [v0, r6, v2, r5])
   (x0k v0 v1 v2 v3)) v
def laws_toForkS : GM
 | [.one a0], k => 
  lenP a0 fun r0 =>
  (r0 = r0) ∧ (51 = 51) ∧ makeP 51 r0 [(I 0), (I 0), (I 0), (I 0), (I 0), (I 0), (I 0), (I 0), (.list 1 []), (I 0), (.list 1 []), (I 0), (I 0), (.list 1 []), (I 0), (.bool false), (.list 2 []), (I 0), (I 0), (I 0), (I 0), (I 0), (I 0), (I 0), (I 0), (.list 1 []), (I 0), (.list 1 []), (I 0), (I 0), (.list 1 []), (I 0), (.bool false), (.list 2 []), (I 0), (I 0), (I 0), (I 0), (I 0), (I 0), (I 0), (I 0), (.list 1 []), (I 0), (.list 1 []), (I 0), (I 0), (.list 1 []), (I 0), (.bool false), (.list 2 [])] fun r1 =>
  lp (fun L w => laws_toForkS_r0 w L
   (fun q7 q8 q9 q10 => rt [.own true 175 51] [q10] k)) [a0, (I 0), (.list 51 []), r1]
 | _, _ => False
abbrev laws_toForkS_e : Ent := ⟨[60], laws_toForkS⟩
def laws_toForkS_l : List LE := [⟨0, ⟨[(0, .one (.pv (.bool false))), (2, .one (.own 1)), (3, .one (.own 0)), (4, .one (.pv (.bool false)))], [], [(1, ⟨.deep, 175, 51, (.bool false)⟩), (0, ⟨.deep, 175, 51, (.bool false)⟩)], 2, 23⟩, fun K k v => laws_toForkS_r0 v K (fun x0 x1 x2 x3 => k (.exit 0) ⟨[(0, .one (.pv x0)), (2, .one (.own 1)), (3, .one (.own 0)), (4, .one (.pv x1))], [], [(1, ⟨.deep, 175, 51, x2⟩), (0, ⟨.deep, 175, 51, x3⟩)], 2, 23⟩)⟩]
theorem laws_toForkS_s : LEsOK (orac [laws_toFork_e]) TT (kk [0, 2, 3, 4]) (sumsOf laws_toForkS_l) Tryz.f60 laws_toForkS_l := ⟨fun v K k h => by
  apply un_all h; exact fun v0 v1 v2 v3 h => Eq.mpr (by kernel_rfl) h
  , trivial⟩
theorem laws_toForkS_w : EntOK Tryz.prog TT laws_toForkS_e := ent_ok tabok (L := [laws_toFork_e]) ⟨laws_toFork_w, trivial⟩ (keep := (kk [0, 2, 3, 4])) (l := laws_toForkS_l) Tryz.func60 (by kernel_rfl) (sg := [.one (.own true 175 51)]) (by kernel_rfl) laws_toForkS_s fun av k h => by
  unfold laws_toForkS at h; split at h
  · exact Eq.mpr (by kernel_rfl) h
  · exact h.elim

def laws_toKnown : GM
 | [.agg u0], k => un 2 (fun a0 a1 => 
  call laws_toSignedSS [.one a0] fun o0 =>
  call laws_toForkS [.one a1] fun o1 =>
  rt [.own true 59 1, .own true 175 51] [(atP o0 0), (atP o1 0)] k) u0
 | _, _ => False
abbrev laws_toKnown_e : Ent := ⟨[26], laws_toKnown⟩
theorem laws_toKnown_w : EntOK Tryz.prog TT laws_toKnown_e := ent_ok tabok (L := [laws_toSignedSS_e, laws_toForkS_e]) ⟨laws_toSignedSS_w, laws_toForkS_w, trivial⟩ (keep := []) (l := []) Tryz.func26 (by kernel_rfl) (sg := [.agg [.own true 59 1, .own true 175 51]]) (by kernel_rfl) trivial fun av k h => by
  unfold laws_toKnown at h; split at h
  · apply un_all h; clear h; intro a0 a1 h; exact Eq.mpr (by kernel_rfl) h
  · exact h.elim

def laws_toProof : GM
 | [.agg u0], k => un 2 (fun a0 a1 => 
  call laws_toIntS [.one a1] fun o0 =>
  rt [.sc, .own true 3 1] [a0, (atP o0 0)] k) u0
 | _, _ => False
abbrev laws_toProof_e : Ent := ⟨[152], laws_toProof⟩
theorem laws_toProof_w : EntOK Tryz.prog TT laws_toProof_e := ent_ok tabok (L := [laws_toIntS_e]) ⟨laws_toIntS_w, trivial⟩ (keep := []) (l := []) Tryz.func152 (by kernel_rfl) (sg := [.agg [.sc, .own true 3 1]]) (by kernel_rfl) trivial fun av k h => by
  unfold laws_toProof at h; split at h
  · apply un_all h; clear h; intro a0 a1 h; exact Eq.mpr (by kernel_rfl) h
  · exact h.elim

def laws_toGap : GM
 | [.agg u0], k => un 13 (fun a0 a1 a2 a3 a4 a5 a6 a7 a8 a9 a10 a11 a12 => 
  call laws_toEntry [.agg [a1, a2, a3, a4]] fun o0 =>
  call laws_toEntry [.agg [a5, a6, a7, a8]] fun o1 =>
  call laws_toProof [.agg [a9, a10]] fun o2 =>
  call laws_toProof [.agg [a11, a12]] fun o3 =>
  rt [.sc, .sc, .sc, .sc, .own true 9 1, .sc, .sc, .sc, .own true 9 1, .sc, .own true 3 1, .sc, .own true 3 1] [a0, (atP o0 0), (atP o0 1), (atP o0 2), (atP o0 3), (atP o1 0), (atP o1 1), (atP o1 2), (atP o1 3), (atP o2 0), (atP o2 1), (atP o3 0), (atP o3 1)] k) u0
 | _, _ => False
abbrev laws_toGap_e : Ent := ⟨[153], laws_toGap⟩
theorem laws_toGap_w : EntOK Tryz.prog TT laws_toGap_e := ent_ok tabok (L := [laws_toEntry_e, laws_toProof_e]) ⟨laws_toEntry_w, laws_toProof_w, trivial⟩ (keep := []) (l := []) Tryz.func153 (by kernel_rfl) (sg := [.agg [.sc, .sc, .sc, .sc, .own true 9 1, .sc, .sc, .sc, .own true 9 1, .sc, .own true 3 1, .sc, .own true 3 1]]) (by kernel_rfl) trivial fun av k h => by
  unfold laws_toGap at h; split at h
  · apply un_all h; clear h; intro a0 a1 a2 a3 a4 a5 a6 a7 a8 a9 a10 a11 a12 h; exact Eq.mpr (by kernel_rfl) h
  · exact h.elim

def laws_toAnswer : GM
 | [.agg u0], k => un 21 (fun a0 a1 a2 a3 a4 a5 a6 a7 a8 a9 a10 a11 a12 a13 a14 a15 a16 a17 a18 a19 a20 => 
  call laws_toSignedS [.one a0] fun o0 =>
  call laws_toEntry [.agg [a2, a3, a4, a5]] fun o1 =>
  call laws_toProof [.agg [a6, a7]] fun o2 =>
  call laws_toGap [.agg [a8, a9, a10, a11, a12, a13, a14, a15, a16, a17, a18, a19, a20]] fun o3 =>
  rt [.own true 150 17, .sc, .sc, .sc, .sc, .own true 9 1, .sc, .own true 3 1, .sc, .sc, .sc, .sc, .own true 9 1, .sc, .sc, .sc, .own true 9 1, .sc, .own true 3 1, .sc, .own true 3 1] [(atP o0 0), a1, (atP o1 0), (atP o1 1), (atP o1 2), (atP o1 3), (atP o2 0), (atP o2 1), (atP o3 0), (atP o3 1), (atP o3 2), (atP o3 3), (atP o3 4), (atP o3 5), (atP o3 6), (atP o3 7), (atP o3 8), (atP o3 9), (atP o3 10), (atP o3 11), (atP o3 12)] k) u0
 | _, _ => False
abbrev laws_toAnswer_e : Ent := ⟨[122], laws_toAnswer⟩
theorem laws_toAnswer_w : EntOK Tryz.prog TT laws_toAnswer_e := ent_ok tabok (L := [laws_toSignedS_e, laws_toEntry_e, laws_toProof_e, laws_toGap_e]) ⟨laws_toSignedS_w, laws_toEntry_w, laws_toProof_w, laws_toGap_w, trivial⟩ (keep := []) (l := []) Tryz.func122 (by kernel_rfl) (sg := [.agg [.own true 150 17, .sc, .sc, .sc, .sc, .own true 9 1, .sc, .own true 3 1, .sc, .sc, .sc, .sc, .own true 9 1, .sc, .sc, .sc, .own true 9 1, .sc, .own true 3 1, .sc, .own true 3 1]]) (by kernel_rfl) trivial fun av k h => by
  unfold laws_toAnswer at h; split at h
  · apply un_all h; clear h; intro a0 a1 a2 a3 a4 a5 a6 a7 a8 a9 a10 a11 a12 a13 a14 a15 a16 a17 a18 a19 a20 h; exact Eq.mpr (by kernel_rfl) h
  · exact h.elim

def laws_toStored : GM
 | [.agg u0], k => un 23 (fun a0 a1 a2 a3 a4 a5 a6 a7 a8 a9 a10 a11 a12 a13 a14 a15 a16 a17 a18 a19 a20 a21 a22 => 
  call laws_toAnswer [.agg [a2, a3, a4, a5, a6, a7, a8, a9, a10, a11, a12, a13, a14, a15, a16, a17, a18, a19, a20, a21, a22]] fun o0 =>
  rt [.sc, .sc, .own true 150 17, .sc, .sc, .sc, .sc, .own true 9 1, .sc, .own true 3 1, .sc, .sc, .sc, .sc, .own true 9 1, .sc, .sc, .sc, .own true 9 1, .sc, .own true 3 1, .sc, .own true 3 1] [a0, a1, (atP o0 0), (atP o0 1), (atP o0 2), (atP o0 3), (atP o0 4), (atP o0 5), (atP o0 6), (atP o0 7), (atP o0 8), (atP o0 9), (atP o0 10), (atP o0 11), (atP o0 12), (atP o0 13), (atP o0 14), (atP o0 15), (atP o0 16), (atP o0 17), (atP o0 18), (atP o0 19), (atP o0 20)] k) u0
 | _, _ => False
abbrev laws_toStored_e : Ent := ⟨[92], laws_toStored⟩
theorem laws_toStored_w : EntOK Tryz.prog TT laws_toStored_e := ent_ok tabok (L := [laws_toAnswer_e]) ⟨laws_toAnswer_w, trivial⟩ (keep := []) (l := []) Tryz.func92 (by kernel_rfl) (sg := [.agg [.sc, .sc, .own true 150 17, .sc, .sc, .sc, .sc, .own true 9 1, .sc, .own true 3 1, .sc, .sc, .sc, .sc, .own true 9 1, .sc, .sc, .sc, .own true 9 1, .sc, .own true 3 1, .sc, .own true 3 1]]) (by kernel_rfl) trivial fun av k h => by
  unfold laws_toStored at h; split at h
  · apply un_all h; clear h; intro a0 a1 a2 a3 a4 a5 a6 a7 a8 a9 a10 a11 a12 a13 a14 a15 a16 a17 a18 a19 a20 a21 a22 h; exact Eq.mpr (by kernel_rfl) h
  · exact h.elim

def laws_toStoredS_r0 (v : List PV) (K : List PV → Prop) (x0k : PV → PV → PV → PV → Prop) : Prop :=
 un 4 (fun v0 v1 v2 v3 =>
  lenP v0 fun r0 =>
  binP .lss v1 r0 fun r1 =>
  iteP r1
   (elemP 23 v0 v1 fun c2 =>
   call laws_toStored [.agg [(atP c2 0), (atP c2 1), (atP c2 2), (atP c2 3), (atP c2 4), (atP c2 5), (atP c2 6), (atP c2 7), (atP c2 8), (atP c2 9), (atP c2 10), (atP c2 11), (atP c2 12), (atP c2 13), (atP c2 14), (atP c2 15), (atP c2 16), (atP c2 17), (atP c2 18), (atP c2 19), (atP c2 20), (atP c2 21), (atP c2 22)]] fun o3 =>
   boundP 23 v3 v1 fun n4 =>
   (flatCond [.pv (I 0), .pv (.str ⟨#[]⟩), .nil 150 17, .pv (.bool false), .pv (.str ⟨#[]⟩), .pv (I 0), .pv (I 0), .nil 9 1, .pv (I 0), .nil 3 1, .pv (I 0), .pv (.str ⟨#[]⟩), .pv (I 0), .pv (I 0), .nil 9 1, .pv (.str ⟨#[]⟩), .pv (I 0), .pv (I 0), .nil 9 1, .pv (I 0), .nil 3 1, .pv (I 0), .nil 3 1] [.pv (atP o3 0), .pv (atP o3 1), .own 4, .pv (atP o3 3), .pv (atP o3 4), .pv (atP o3 5), .pv (atP o3 6), .own 9, .pv (atP o3 8), .own 11, .pv (atP o3 10), .pv (atP o3 11), .pv (atP o3 12), .pv (atP o3 13), .own 16, .pv (atP o3 15), .pv (atP o3 16), .pv (atP o3 17), .own 20, .pv (atP o3 19), .own 22, .pv (atP o3 21), .own 24]) ∧ setP v3 n4 0 [(atP o3 0), (atP o3 1), (atP o3 2), (atP o3 3), (atP o3 4), (atP o3 5), (atP o3 6), (atP o3 7), (atP o3 8), (atP o3 9), (atP o3 10), (atP o3 11), (atP o3 12), (atP o3 13), (atP o3 14), (atP o3 15), (atP o3 16), (atP o3 17), (atP o3 18), (atP o3 19), (atP o3 20), (atP o3 21), (atP o3 22)] fun r5 =>
   binP .add v1 (I 1) fun r6 =>
   K [v0, r6, v2, r5])
   (x0k v0 v1 v2 v3)) v
def laws_toStoredS : GM
 | [.one a0], k => 
  lenP a0 fun r0 =>
  (r0 = r0) ∧ (23 = 23) ∧ makeP 23 r0 [(I 0), (.str ⟨#[]⟩), (.list 17 []), (.bool false), (.str ⟨#[]⟩), (I 0), (I 0), (.list 1 []), (I 0), (.list 1 []), (I 0), (.str ⟨#[]⟩), (I 0), (I 0), (.list 1 []), (.str ⟨#[]⟩), (I 0), (I 0), (.list 1 []), (I 0), (.list 1 []), (I 0), (.list 1 [])] fun r1 =>
  lp (fun L w => laws_toStoredS_r0 w L
   (fun q7 q8 q9 q10 => rt [.own true 183 23] [q10] k)) [a0, (I 0), (.list 23 []), r1]
 | _, _ => False
abbrev laws_toStoredS_e : Ent := ⟨[61], laws_toStoredS⟩
def laws_toStoredS_l : List LE := [⟨0, ⟨[(0, .one (.pv (.bool false))), (2, .one (.own 1)), (3, .one (.own 0)), (4, .one (.pv (.bool false)))], [], [(1, ⟨.deep, 183, 23, (.bool false)⟩), (0, ⟨.deep, 183, 23, (.bool false)⟩)], 2, 23⟩, fun K k v => laws_toStoredS_r0 v K (fun x0 x1 x2 x3 => k (.exit 0) ⟨[(0, .one (.pv x0)), (2, .one (.own 1)), (3, .one (.own 0)), (4, .one (.pv x1))], [], [(1, ⟨.deep, 183, 23, x2⟩), (0, ⟨.deep, 183, 23, x3⟩)], 2, 23⟩)⟩]
theorem laws_toStoredS_s : LEsOK (orac [laws_toStored_e]) TT (kk [0, 2, 3, 4]) (sumsOf laws_toStoredS_l) Tryz.f61 laws_toStoredS_l := ⟨fun v K k h => by
  apply un_all h; exact fun v0 v1 v2 v3 h => Eq.mpr (by kernel_rfl) h
  , trivial⟩
theorem laws_toStoredS_w : EntOK Tryz.prog TT laws_toStoredS_e := ent_ok tabok (L := [laws_toStored_e]) ⟨laws_toStored_w, trivial⟩ (keep := (kk [0, 2, 3, 4])) (l := laws_toStoredS_l) Tryz.func61 (by kernel_rfl) (sg := [.one (.own true 183 23)]) (by kernel_rfl) laws_toStoredS_s fun av k h => by
  unfold laws_toStoredS at h; split at h
  · exact Eq.mpr (by kernel_rfl) h
  · exact h.elim

def laws_toCache : GM
 | [.agg u0], k => un 1 (fun a0 => 
  call laws_toStoredS [.one a0] fun o0 =>
  rt [.own true 183 23] [(atP o0 0)] k) u0
 | _, _ => False
abbrev laws_toCache_e : Ent := ⟨[27], laws_toCache⟩
theorem laws_toCache_w : EntOK Tryz.prog TT laws_toCache_e := ent_ok tabok (L := [laws_toStoredS_e]) ⟨laws_toStoredS_w, trivial⟩ (keep := []) (l := []) Tryz.func27 (by kernel_rfl) (sg := [.agg [.own true 183 23]]) (by kernel_rfl) trivial fun av k h => by
  unfold laws_toCache at h; split at h
  · apply un_all h; clear h; intro a0 h; exact Eq.mpr (by kernel_rfl) h
  · exact h.elim

def laws_toWorld : GM
 | [.agg u0], k => un 8 (fun a0 a1 a2 a3 a4 a5 a6 a7 => 
  call laws_toActorS [.one a1] fun o0 =>
  call laws_toZoneS [.one a2] fun o1 =>
  call laws_toSaidS [.one a3] fun o2 =>
  call laws_toServerS [.one a4] fun o3 =>
  call laws_toKnown [.agg [a5, a6]] fun o4 =>
  call laws_toCache [.agg [a7]] fun o5 =>
  rt [.sc, .own true 119 1, .own true 62 2, .own true 122 3, .own true 125 2, .own true 59 1, .own true 175 51, .own true 183 23] [a0, (atP o0 0), (atP o1 0), (atP o2 0), (atP o3 0), (atP o4 0), (atP o4 1), (atP o5 0)] k) u0
 | _, _ => False
abbrev laws_toWorld_e : Ent := ⟨[7], laws_toWorld⟩
theorem laws_toWorld_w : EntOK Tryz.prog TT laws_toWorld_e := ent_ok tabok (L := [laws_toActorS_e, laws_toZoneS_e, laws_toSaidS_e, laws_toServerS_e, laws_toKnown_e, laws_toCache_e]) ⟨laws_toActorS_w, laws_toZoneS_w, laws_toSaidS_w, laws_toServerS_w, laws_toKnown_w, laws_toCache_w, trivial⟩ (keep := []) (l := []) Tryz.func7 (by kernel_rfl) (sg := [.agg [.sc, .own true 119 1, .own true 62 2, .own true 122 3, .own true 125 2, .own true 59 1, .own true 175 51, .own true 183 23]]) (by kernel_rfl) trivial fun av k h => by
  unfold laws_toWorld at h; split at h
  · apply un_all h; clear h; intro a0 a1 a2 a3 a4 a5 a6 a7 h; exact Eq.mpr (by kernel_rfl) h
  · exact h.elim

def spec_FormatInt_r0 (v : List PV) (K : List PV → Prop) (x0k : PV → PV → PV → PV → Prop) : Prop :=
 un 4 (fun v0 v1 v2 v3 =>
  binP .neq v3 (I 0) fun r0 =>
  iteP r0
   (binP .rem v3 (I 10) fun r1 =>
   binP .lss r1 (I 0) fun r2 =>
   iteP r2
    (unP .neg r1 fun r3 =>
    binP .add (I 48) r3 fun r4 =>
    convP .u8 r4 fun r5 =>
    (1 = 1) ∧ (1 ≤ 16777216) ∧ (1 = 1) ∧ (0 = 0) ∧ (1 = 1) ∧ (flatCond [.pv (.int .u8 0)] [.pv r5]) ∧ textP (.list 1 [[r5]]) fun r6 =>
    binP .add r6 v2 fun r7 =>
    binP .quo v3 (I 10) fun r8 =>
    K [v0, v1, r7, r8])
    (binP .add (I 48) r1 fun r9 =>
    convP .u8 r9 fun r10 =>
    (1 = 1) ∧ (1 ≤ 16777216) ∧ (1 = 1) ∧ (0 = 0) ∧ (1 = 1) ∧ (flatCond [.pv (.int .u8 0)] [.pv r10]) ∧ textP (.list 1 [[r10]]) fun r11 =>
    binP .add r11 v2 fun r12 =>
    binP .quo v3 (I 10) fun r13 =>
    K [v0, v1, r12, r13]))
   (x0k v0 v1 v2 v3)) v
def spec_FormatInt : GM
 | [.one a0], k => 
  binP .eql a0 (I 0) fun r0 =>
  iteP r0
   (rt [.sc] [(.str ⟨#[48]⟩)] k)
   (lp (fun L w => spec_FormatInt_r0 w L
    (fun q14 q15 q16 q17 => binP .lss q14 (I 0) fun r18 =>
     iteP r18
      (binP .add (.str ⟨#[45]⟩) q16 fun r19 =>
      rt [.sc] [r19] k)
      (rt [.sc] [q16] k))) [a0, (.str ⟨#[]⟩), (.str ⟨#[]⟩), a0])
 | _, _ => False
abbrev spec_FormatInt_e : Ent := ⟨[21], spec_FormatInt⟩
def spec_FormatInt_l : List LE := [⟨0, ⟨[(0, .one (.pv (.bool false))), (2, .one (.pv (.bool false))), (3, .one (.pv (.bool false))), (4, .one (.pv (.bool false)))], [], [], 0, 31⟩, fun K k v => spec_FormatInt_r0 v K (fun x0 x1 x2 x3 => k (.exit 0) ⟨[(0, .one (.pv x0)), (2, .one (.pv x1)), (3, .one (.pv x2)), (4, .one (.pv x3))], [], [], 0, 31⟩)⟩]
theorem spec_FormatInt_s : LEsOK (orac []) TT (kk [0, 2, 3, 4]) (sumsOf spec_FormatInt_l) Tryz.f21 spec_FormatInt_l := ⟨fun v K k h => by
  apply un_all h; exact fun v0 v1 v2 v3 h => Eq.mpr (by kernel_rfl) h
  , trivial⟩
theorem spec_FormatInt_w : EntOK Tryz.prog TT spec_FormatInt_e := ent_ok tabok (L := []) trivial (keep := (kk [0, 2, 3, 4])) (l := spec_FormatInt_l) Tryz.func21 (by kernel_rfl) (sg := [.one (.sc)]) (by kernel_rfl) spec_FormatInt_s fun av k h => by
  unfold spec_FormatInt at h; split at h
  · exact Eq.mpr (by kernel_rfl) h
  · exact h.elim

def spec_FormatWorld_r0 (v : List PV) (K : List PV → Prop) (x0k : PV → PV → PV → PV → Prop) : Prop :=
 un 4 (fun v0 v1 v2 v3 =>
  lenP v3 fun r0 =>
  binP .lss v2 r0 fun r1 =>
  iteP r1
   (binP .gtr v2 (I 0) fun r2 =>
   iteP r2
    (binP .add v1 (.str ⟨#[47]⟩) fun r3 =>
    boundP 1 v3 v2 fun n4 =>
    rowP 1 v3 n4 fun c5 =>
    (flats [(atP c5 0)]) ∧ call spec_FormatInt [.one (atP c5 0)] fun o6 =>
    binP .add r3 (atP o6 0) fun r7 =>
    binP .add v2 (I 1) fun r8 =>
    K [v0, r7, r8, v3])
    (boundP 1 v3 v2 fun n9 =>
    rowP 1 v3 n9 fun c10 =>
    (flats [(atP c10 0)]) ∧ call spec_FormatInt [.one (atP c10 0)] fun o11 =>
    binP .add v1 (atP o11 0) fun r12 =>
    binP .add v2 (I 1) fun r13 =>
    K [v0, r12, r13, v3]))
   (x0k v0 v1 v2 v3)) v
def spec_FormatWorld : GM
 | [.agg u0], k => un 8 (fun a0 a1 a2 a3 a4 a5 a6 a7 => 
  lenP a2 fun r0 =>
  lenP a3 fun r1 =>
  lenP a4 fun r2 =>
  lenP a5 fun r3 =>
  lenP a6 fun r4 =>
  lenP a7 fun r5 =>
  (6 = 6) ∧ (6 ≤ 16777216) ∧ (1 = 1) ∧ (0 = 0) ∧ (1 = 1) ∧ (flatCond [.pv (I 0)] [.pv r0]) ∧ (1 = 1) ∧ (1 = 1) ∧ (flatCond [.pv (I 0)] [.pv r1]) ∧ (2 = 2) ∧ (1 = 1) ∧ (flatCond [.pv (I 0)] [.pv r2]) ∧ (3 = 3) ∧ (1 = 1) ∧ (flatCond [.pv (I 0)] [.pv r3]) ∧ (4 = 4) ∧ (1 = 1) ∧ (flatCond [.pv (I 0)] [.pv r4]) ∧ (5 = 5) ∧ (1 = 1) ∧ (flatCond [.pv (I 0)] [.pv r5]) ∧ call spec_FormatInt [.one a0] fun o6 =>
  binP .add (atP o6 0) (.str ⟨#[32]⟩) fun r7 =>
  lp (fun L w => spec_FormatWorld_r0 w L
   (fun q14 q15 q16 q17 => rt [.sc] [q15] k)) [(.str ⟨#[]⟩), r7, (I 0), (.list 1 [[r0], [r1], [r2], [r3], [r4], [r5]])]) u0
 | _, _ => False
abbrev spec_FormatWorld_e : Ent := ⟨[6], spec_FormatWorld⟩
def spec_FormatWorld_l : List LE := [⟨0, ⟨[(2, .one (.pv (.bool false))), (3, .one (.own 1)), (4, .one (.pv (.bool false))), (5, .one (.pv (.bool false)))], [], [(1, ⟨.deep, 3, 1, (.bool false)⟩)], 3, 50⟩, fun K k v => spec_FormatWorld_r0 v K (fun x0 x1 x2 x3 => k (.exit 0) ⟨[(2, .one (.pv x0)), (3, .one (.own 1)), (4, .one (.pv x1)), (5, .one (.pv x2))], [], [(1, ⟨.deep, 3, 1, x3⟩)], 3, 50⟩)⟩]
theorem spec_FormatWorld_s : LEsOK (orac [spec_FormatInt_e]) TT (kk [2, 3, 4, 5]) (sumsOf spec_FormatWorld_l) Tryz.f6 spec_FormatWorld_l := ⟨fun v K k h => by
  apply un_all h; exact fun v0 v1 v2 v3 h => Eq.mpr (by kernel_rfl) h
  , trivial⟩
theorem spec_FormatWorld_w : EntOK Tryz.prog TT spec_FormatWorld_e := ent_ok tabok (L := [spec_FormatInt_e]) ⟨spec_FormatInt_w, trivial⟩ (keep := (kk [2, 3, 4, 5])) (l := spec_FormatWorld_l) Tryz.func6 (by kernel_rfl) (sg := [.one (.sc)]) (by kernel_rfl) spec_FormatWorld_s fun av k h => by
  unfold spec_FormatWorld at h; split at h
  · apply un_all h; clear h; intro a0 a1 a2 a3 a4 a5 a6 a7 h; exact Eq.mpr (by kernel_rfl) h
  · exact h.elim


def impl_FormatInt : GM
 | [.one a0], k => 
  call strconv_Itoa [.one a0] fun o0 =>
  rt [.sc] [(atP o0 0)] k
 | _, _ => False
abbrev impl_FormatInt_e : Ent := ⟨[28], impl_FormatInt⟩
theorem impl_FormatInt_w : EntOK Tryz.prog TT impl_FormatInt_e := ent_ok tabok (L := [strconv_Itoa_e]) ⟨strconv_Itoa_w, trivial⟩ (keep := []) (l := []) Tryz.func28 (by kernel_rfl) (sg := [.one (.sc)]) (by kernel_rfl) trivial fun av k h => by
  unfold impl_FormatInt at h; split at h
  · exact Eq.mpr (by kernel_rfl) h
  · exact h.elim


def impl_joined_r0 (v : List PV) (K : List PV → Prop) (x0k : PV → PV → PV → PV → PV → PV → Prop) : Prop :=
 un 6 (fun v0 v1 v2 v3 v4 v5 =>
  binP .lss v4 v3 fun r0 =>
  iteP r0
   (elemP 1 v2 v4 fun c1 =>
   call impl_FormatInt [.one (atP c1 0)] fun o2 =>
   (1 = 1) ∧ (1 ≤ 16777216) ∧ (1 = 1) ∧ (0 = 0) ∧ (1 = 1) ∧ (flatCond [.pv (.str ⟨#[]⟩)] [.pv (atP o2 0)]) ∧ catP 1 v5 (.list 1 [[(atP o2 0)]]) fun r3 =>
   binP .add v4 (I 1) fun r4 =>
   K [v0, v1, v2, v3, r4, r3])
   (x0k v0 v1 v2 v3 v4 v5)) v
def impl_joined : GM
 | [.one a0, .one a1], k => 
  (0 = 0) ∧ (0 ≤ 16777216) ∧ (1 = 1) ∧ lenP a1 fun r0 =>
  lp (fun L w => impl_joined_r0 w L
   (fun q5 q6 q7 q8 q9 q10 => call strings_Join [.one q10, .one q5] fun o11 =>
    rt [.sc] [(atP o11 0)] k)) [a0, (.str ⟨#[]⟩), a1, r0, (I 0), (.list 1 [])]
 | _, _ => False
abbrev impl_joined_e : Ent := ⟨[29], impl_joined⟩
def impl_joined_l : List LE := [⟨0, ⟨[(0, .one (.pv (.bool false))), (4, .one (.pv (.bool false))), (5, .one (.own 0)), (9, .one (.pv (.bool false))), (10, .one (.pv (.bool false))), (11, .one (.pv (.bool false)))], [], [(0, ⟨.deep, 9, 1, (.bool false)⟩)], 1, 24⟩, fun K k v => impl_joined_r0 v K (fun x0 x1 x2 x3 x4 x5 => k (.exit 0) ⟨[(0, .one (.pv x0)), (4, .one (.pv x1)), (5, .one (.own 0)), (9, .one (.pv x2)), (10, .one (.pv x3)), (11, .one (.pv x4))], [], [(0, ⟨.deep, 9, 1, x5⟩)], 1, 24⟩)⟩]
theorem impl_joined_s : LEsOK (orac [impl_FormatInt_e, strings_Join_e]) TT (kk [0, 4, 5, 9, 10, 11]) (sumsOf impl_joined_l) Tryz.f29 impl_joined_l := ⟨fun v K k h => by
  apply un_all h; exact fun v0 v1 v2 v3 v4 v5 h => Eq.mpr (by kernel_rfl) h
  , trivial⟩
theorem impl_joined_w : EntOK Tryz.prog TT impl_joined_e := ent_ok tabok (L := [impl_FormatInt_e, strings_Join_e]) ⟨impl_FormatInt_w, strings_Join_w, trivial⟩ (keep := (kk [0, 4, 5, 9, 10, 11])) (l := impl_joined_l) Tryz.func29 (by kernel_rfl) (sg := [.one (.sc)]) (by kernel_rfl) impl_joined_s fun av k h => by
  unfold impl_joined at h; split at h
  · exact Eq.mpr (by kernel_rfl) h
  · exact h.elim

def impl_FormatWorld : GM
 | [.agg u0], k => un 8 (fun a0 a1 a2 a3 a4 a5 a6 a7 => 
  call impl_FormatInt [.one a0] fun o0 =>
  binP .add (atP o0 0) (.str ⟨#[32]⟩) fun r1 =>
  lenP a2 fun r2 =>
  lenP a3 fun r3 =>
  lenP a4 fun r4 =>
  lenP a5 fun r5 =>
  lenP a6 fun r6 =>
  lenP a7 fun r7 =>
  (6 = 6) ∧ (6 ≤ 16777216) ∧ (1 = 1) ∧ (0 = 0) ∧ (1 = 1) ∧ (flatCond [.pv (I 0)] [.pv r2]) ∧ (1 = 1) ∧ (1 = 1) ∧ (flatCond [.pv (I 0)] [.pv r3]) ∧ (2 = 2) ∧ (1 = 1) ∧ (flatCond [.pv (I 0)] [.pv r4]) ∧ (3 = 3) ∧ (1 = 1) ∧ (flatCond [.pv (I 0)] [.pv r5]) ∧ (4 = 4) ∧ (1 = 1) ∧ (flatCond [.pv (I 0)] [.pv r6]) ∧ (5 = 5) ∧ (1 = 1) ∧ (flatCond [.pv (I 0)] [.pv r7]) ∧ call impl_joined [.one (.str ⟨#[47]⟩), .one (.list 1 [[r2], [r3], [r4], [r5], [r6], [r7]])] fun o8 =>
  binP .add r1 (atP o8 0) fun r9 =>
  rt [.sc] [r9] k) u0
 | _, _ => False
abbrev impl_FormatWorld_e : Ent := ⟨[8], impl_FormatWorld⟩
theorem impl_FormatWorld_w : EntOK Tryz.prog TT impl_FormatWorld_e := ent_ok tabok (L := [impl_FormatInt_e, impl_joined_e]) ⟨impl_FormatInt_w, impl_joined_w, trivial⟩ (keep := []) (l := []) Tryz.func8 (by kernel_rfl) (sg := [.one (.sc)]) (by kernel_rfl) trivial fun av k h => by
  unfold impl_FormatWorld at h; split at h
  · apply un_all h; clear h; intro a0 a1 a2 a3 a4 a5 a6 a7 h; exact Eq.mpr (by kernel_rfl) h
  · exact h.elim

def laws_eqIntS_r0 (v : List PV) (K : List PV → Prop) (x0k : Prop) (x1k : PV → PV → PV → PV → Prop) : Prop :=
 un 4 (fun v0 v1 v2 v3 =>
  lenP v0 fun r0 =>
  binP .lss v3 r0 fun r1 =>
  iteP r1
   (elemP 1 v0 v3 fun c2 =>
   elemP 1 v1 v3 fun c3 =>
   binP .neq (atP c2 0) (atP c3 0) fun r4 =>
   iteP r4
    (x0k)
    (binP .add v3 (I 1) fun r5 =>
    K [v0, v1, v2, r5]))
   (x1k v0 v1 v2 v3)) v
def laws_eqIntS : GM
 | [.one a0, .one a1], k => 
  lenP a0 fun r0 =>
  lenP a1 fun r1 =>
  binP .neq r0 r1 fun r2 =>
  iteP r2
   (rt [.sc] [(.bool false)] k)
   (lp (fun L w => laws_eqIntS_r0 w L
    (rt [.sc] [(.bool false)] k)
    (fun q6 q7 q8 q9 => rt [.sc] [(.bool true)] k)) [a0, a1, (.bool false), (I 0)])
 | _, _ => False
abbrev laws_eqIntS_e : Ent := ⟨[97], laws_eqIntS⟩
def laws_eqIntS_l : List LE := [⟨0, ⟨[(0, .one (.pv (.bool false))), (1, .one (.pv (.bool false))), (4, .one (.pv (.bool false))), (5, .one (.pv (.bool false)))], [], [], 0, 26⟩, fun K k v => laws_eqIntS_r0 v K (k .ret ⟨[(4, .one (.kb false))], [], [], 0, 26⟩) (fun x0 x1 x2 x3 => k (.exit 0) ⟨[(0, .one (.pv x0)), (1, .one (.pv x1)), (4, .one (.pv x2)), (5, .one (.pv x3))], [], [], 0, 26⟩)⟩]
theorem laws_eqIntS_s : LEsOK (orac []) TT (kk [0, 1, 4, 5]) (sumsOf laws_eqIntS_l) Tryz.f97 laws_eqIntS_l := ⟨fun v K k h => by
  apply un_all h; exact fun v0 v1 v2 v3 h => Eq.mpr (by kernel_rfl) h
  , trivial⟩
theorem laws_eqIntS_w : EntOK Tryz.prog TT laws_eqIntS_e := ent_ok tabok (L := []) trivial (keep := (kk [0, 1, 4, 5])) (l := laws_eqIntS_l) Tryz.func97 (by kernel_rfl) (sg := [.one (.sc)]) (by kernel_rfl) laws_eqIntS_s fun av k h => by
  unfold laws_eqIntS at h; split at h
  · exact Eq.mpr (by kernel_rfl) h
  · exact h.elim

def laws_eqActor : GM
 | [.agg u0, .agg u1], k => un 1 (fun a0 => un 1 (fun a1 => 
  call laws_eqIntS [.one a0, .one a1] fun o0 =>
  unP .not (atP o0 0) fun r1 =>
  iteP r1
   (rt [.sc] [(.bool false)] k)
   (rt [.sc] [(.bool true)] k)) u1) u0
 | _, _ => False
abbrev laws_eqActor_e : Ent := ⟨[64], laws_eqActor⟩
theorem laws_eqActor_w : EntOK Tryz.prog TT laws_eqActor_e := ent_ok tabok (L := [laws_eqIntS_e]) ⟨laws_eqIntS_w, trivial⟩ (keep := []) (l := []) Tryz.func64 (by kernel_rfl) (sg := [.one (.sc)]) (by kernel_rfl) trivial fun av k h => by
  unfold laws_eqActor at h; split at h
  · apply un_all h; clear h; intro a0 h; apply un_all h; clear h; intro a1 h; exact Eq.mpr (by kernel_rfl) h
  · exact h.elim

def laws_eqActorS_r0 (v : List PV) (K : List PV → Prop) (x0k : Prop) (x1k : PV → PV → PV → PV → Prop) : Prop :=
 un 4 (fun v0 v1 v2 v3 =>
  lenP v0 fun r0 =>
  binP .lss v3 r0 fun r1 =>
  iteP r1
   (elemP 1 v0 v3 fun c2 =>
   elemP 1 v1 v3 fun c3 =>
   call laws_eqActor [.agg [(atP c2 0)], .agg [(atP c3 0)]] fun o4 =>
   unP .not (atP o4 0) fun r5 =>
   iteP r5
    (x0k)
    (binP .add v3 (I 1) fun r6 =>
    K [v0, v1, v2, r6]))
   (x1k v0 v1 v2 v3)) v
def laws_eqActorS : GM
 | [.one a0, .one a1], k => 
  lenP a0 fun r0 =>
  lenP a1 fun r1 =>
  binP .neq r0 r1 fun r2 =>
  iteP r2
   (rt [.sc] [(.bool false)] k)
   (lp (fun L w => laws_eqActorS_r0 w L
    (rt [.sc] [(.bool false)] k)
    (fun q7 q8 q9 q10 => rt [.sc] [(.bool true)] k)) [a0, a1, (.bool false), (I 0)])
 | _, _ => False
abbrev laws_eqActorS_e : Ent := ⟨[30], laws_eqActorS⟩
def laws_eqActorS_l : List LE := [⟨0, ⟨[(0, .one (.pv (.bool false))), (1, .one (.pv (.bool false))), (4, .one (.pv (.bool false))), (5, .one (.pv (.bool false)))], [], [], 0, 27⟩, fun K k v => laws_eqActorS_r0 v K (k .ret ⟨[(4, .one (.kb false))], [], [], 1, 27⟩) (fun x0 x1 x2 x3 => k (.exit 0) ⟨[(0, .one (.pv x0)), (1, .one (.pv x1)), (4, .one (.pv x2)), (5, .one (.pv x3))], [], [], 0, 27⟩)⟩]
theorem laws_eqActorS_s : LEsOK (orac [laws_eqActor_e]) TT (kk [0, 1, 4, 5]) (sumsOf laws_eqActorS_l) Tryz.f30 laws_eqActorS_l := ⟨fun v K k h => by
  apply un_all h; exact fun v0 v1 v2 v3 h => Eq.mpr (by kernel_rfl) h
  , trivial⟩
theorem laws_eqActorS_w : EntOK Tryz.prog TT laws_eqActorS_e := ent_ok tabok (L := [laws_eqActor_e]) ⟨laws_eqActor_w, trivial⟩ (keep := (kk [0, 1, 4, 5])) (l := laws_eqActorS_l) Tryz.func30 (by kernel_rfl) (sg := [.one (.sc)]) (by kernel_rfl) laws_eqActorS_s fun av k h => by
  unfold laws_eqActorS at h; split at h
  · exact Eq.mpr (by kernel_rfl) h
  · exact h.elim

def laws_eqKeys : GM
 | [.agg u0, .agg u1], k => un 2 (fun a0 a1 => un 2 (fun a2 a3 => 
  call laws_eqIntS [.one a0, .one a2] fun o0 =>
  unP .not (atP o0 0) fun r1 =>
  iteP r1
   (rt [.sc] [(.bool false)] k)
   (binP .neq a1 a3 fun r2 =>
   iteP r2
    (rt [.sc] [(.bool false)] k)
    (rt [.sc] [(.bool true)] k))) u1) u0
 | _, _ => False
abbrev laws_eqKeys_e : Ent := ⟨[148], laws_eqKeys⟩
theorem laws_eqKeys_w : EntOK Tryz.prog TT laws_eqKeys_e := ent_ok tabok (L := [laws_eqIntS_e]) ⟨laws_eqIntS_w, trivial⟩ (keep := []) (l := []) Tryz.func148 (by kernel_rfl) (sg := [.one (.sc)]) (by kernel_rfl) trivial fun av k h => by
  unfold laws_eqKeys at h; split at h
  · apply un_all h; clear h; intro a0 a1 h; apply un_all h; clear h; intro a2 a3 h; exact Eq.mpr (by kernel_rfl) h
  · exact h.elim

def laws_eqHead : GM
 | [.agg u0, .agg u1], k => un 16 (fun a0 a1 a2 a3 a4 a5 a6 a7 a8 a9 a10 a11 a12 a13 a14 a15 => un 16 (fun a16 a17 a18 a19 a20 a21 a22 a23 a24 a25 a26 a27 a28 a29 a30 a31 => 
  binP .neq a0 a16 fun r0 =>
  iteP r0
   (rt [.sc] [(.bool false)] k)
   (binP .neq a1 a17 fun r1 =>
   iteP r1
    (rt [.sc] [(.bool false)] k)
    (binP .neq a2 a18 fun r2 =>
    iteP r2
     (rt [.sc] [(.bool false)] k)
     (binP .neq a3 a19 fun r3 =>
     iteP r3
      (rt [.sc] [(.bool false)] k)
      (binP .neq a4 a20 fun r4 =>
      iteP r4
       (rt [.sc] [(.bool false)] k)
       (binP .neq a5 a21 fun r5 =>
       iteP r5
        (rt [.sc] [(.bool false)] k)
        (binP .neq a6 a22 fun r6 =>
        iteP r6
         (rt [.sc] [(.bool false)] k)
         (binP .neq a7 a23 fun r7 =>
         iteP r7
          (rt [.sc] [(.bool false)] k)
          (call laws_eqKeys [.agg [a8, a9], .agg [a24, a25]] fun o8 =>
          unP .not (atP o8 0) fun r9 =>
          iteP r9
           (rt [.sc] [(.bool false)] k)
           (call laws_eqKeys [.agg [a10, a11], .agg [a26, a27]] fun o10 =>
           unP .not (atP o10 0) fun r11 =>
           iteP r11
            (rt [.sc] [(.bool false)] k)
            (binP .neq a12 a28 fun r12 =>
            iteP r12
             (rt [.sc] [(.bool false)] k)
             (call laws_eqKeys [.agg [a13, a14], .agg [a29, a30]] fun o13 =>
             unP .not (atP o13 0) fun r14 =>
             iteP r14
              (rt [.sc] [(.bool false)] k)
              (boolP .neq a15 a31 fun r15 =>
              iteP r15
               (rt [.sc] [(.bool false)] k)
               (rt [.sc] [(.bool true)] k)))))))))))))) u1) u0
 | _, _ => False
abbrev laws_eqHead_e : Ent := ⟨[118], laws_eqHead⟩
theorem laws_eqHead_w : EntOK Tryz.prog TT laws_eqHead_e := ent_ok tabok (L := [laws_eqKeys_e]) ⟨laws_eqKeys_w, trivial⟩ (keep := []) (l := []) Tryz.func118 (by kernel_rfl) (sg := [.one (.sc)]) (by kernel_rfl) trivial fun av k h => by
  unfold laws_eqHead at h; split at h
  · apply un_all h; clear h; intro a0 a1 a2 a3 a4 a5 a6 a7 a8 a9 a10 a11 a12 a13 a14 a15 h; apply un_all h; clear h; intro a16 a17 a18 a19 a20 a21 a22 a23 a24 a25 a26 a27 a28 a29 a30 a31 h; exact Eq.mpr (by kernel_rfl) h
  · exact h.elim

def laws_eqSig : GM
 | [.agg u0, .agg u1], k => un 2 (fun a0 a1 => un 2 (fun a2 a3 => 
  binP .neq a0 a2 fun r0 =>
  iteP r0
   (rt [.sc] [(.bool false)] k)
   (binP .neq a1 a3 fun r1 =>
   iteP r1
    (rt [.sc] [(.bool false)] k)
    (rt [.sc] [(.bool true)] k))) u1) u0
 | _, _ => False
abbrev laws_eqSig_e : Ent := ⟨[149], laws_eqSig⟩
theorem laws_eqSig_w : EntOK Tryz.prog TT laws_eqSig_e := ent_ok tabok (L := []) trivial (keep := []) (l := []) Tryz.func149 (by kernel_rfl) (sg := [.one (.sc)]) (by kernel_rfl) trivial fun av k h => by
  unfold laws_eqSig at h; split at h
  · apply un_all h; clear h; intro a0 a1 h; apply un_all h; clear h; intro a2 a3 h; exact Eq.mpr (by kernel_rfl) h
  · exact h.elim

def laws_eqSigS_r0 (v : List PV) (K : List PV → Prop) (x0k : Prop) (x1k : PV → PV → PV → PV → Prop) : Prop :=
 un 4 (fun v0 v1 v2 v3 =>
  lenP v0 fun r0 =>
  binP .lss v3 r0 fun r1 =>
  iteP r1
   (elemP 2 v0 v3 fun c2 =>
   elemP 2 v1 v3 fun c3 =>
   call laws_eqSig [.agg [(atP c2 0), (atP c2 1)], .agg [(atP c3 0), (atP c3 1)]] fun o4 =>
   unP .not (atP o4 0) fun r5 =>
   iteP r5
    (x0k)
    (binP .add v3 (I 1) fun r6 =>
    K [v0, v1, v2, r6]))
   (x1k v0 v1 v2 v3)) v
def laws_eqSigS : GM
 | [.one a0, .one a1], k => 
  lenP a0 fun r0 =>
  lenP a1 fun r1 =>
  binP .neq r0 r1 fun r2 =>
  iteP r2
   (rt [.sc] [(.bool false)] k)
   (lp (fun L w => laws_eqSigS_r0 w L
    (rt [.sc] [(.bool false)] k)
    (fun q7 q8 q9 q10 => rt [.sc] [(.bool true)] k)) [a0, a1, (.bool false), (I 0)])
 | _, _ => False
abbrev laws_eqSigS_e : Ent := ⟨[119], laws_eqSigS⟩
def laws_eqSigS_l : List LE := [⟨0, ⟨[(0, .one (.pv (.bool false))), (1, .one (.pv (.bool false))), (4, .one (.pv (.bool false))), (5, .one (.pv (.bool false)))], [], [], 0, 27⟩, fun K k v => laws_eqSigS_r0 v K (k .ret ⟨[(4, .one (.kb false))], [], [], 1, 27⟩) (fun x0 x1 x2 x3 => k (.exit 0) ⟨[(0, .one (.pv x0)), (1, .one (.pv x1)), (4, .one (.pv x2)), (5, .one (.pv x3))], [], [], 0, 27⟩)⟩]
theorem laws_eqSigS_s : LEsOK (orac [laws_eqSig_e]) TT (kk [0, 1, 4, 5]) (sumsOf laws_eqSigS_l) Tryz.f119 laws_eqSigS_l := ⟨fun v K k h => by
  apply un_all h; exact fun v0 v1 v2 v3 h => Eq.mpr (by kernel_rfl) h
  , trivial⟩
theorem laws_eqSigS_w : EntOK Tryz.prog TT laws_eqSigS_e := ent_ok tabok (L := [laws_eqSig_e]) ⟨laws_eqSig_w, trivial⟩ (keep := (kk [0, 1, 4, 5])) (l := laws_eqSigS_l) Tryz.func119 (by kernel_rfl) (sg := [.one (.sc)]) (by kernel_rfl) laws_eqSigS_s fun av k h => by
  unfold laws_eqSigS at h; split at h
  · exact Eq.mpr (by kernel_rfl) h
  · exact h.elim

def laws_eqSigned : GM
 | [.agg u0, .agg u1], k => un 17 (fun a0 a1 a2 a3 a4 a5 a6 a7 a8 a9 a10 a11 a12 a13 a14 a15 a16 => un 17 (fun a17 a18 a19 a20 a21 a22 a23 a24 a25 a26 a27 a28 a29 a30 a31 a32 a33 => 
  call laws_eqHead [.agg [a0, a1, a2, a3, a4, a5, a6, a7, a8, a9, a10, a11, a12, a13, a14, a15], .agg [a17, a18, a19, a20, a21, a22, a23, a24, a25, a26, a27, a28, a29, a30, a31, a32]] fun o0 =>
  unP .not (atP o0 0) fun r1 =>
  iteP r1
   (rt [.sc] [(.bool false)] k)
   (call laws_eqSigS [.one a16, .one a33] fun o2 =>
   unP .not (atP o2 0) fun r3 =>
   iteP r3
    (rt [.sc] [(.bool false)] k)
    (rt [.sc] [(.bool true)] k))) u1) u0
 | _, _ => False
abbrev laws_eqSigned_e : Ent := ⟨[85], laws_eqSigned⟩
theorem laws_eqSigned_w : EntOK Tryz.prog TT laws_eqSigned_e := ent_ok tabok (L := [laws_eqHead_e, laws_eqSigS_e]) ⟨laws_eqHead_w, laws_eqSigS_w, trivial⟩ (keep := []) (l := []) Tryz.func85 (by kernel_rfl) (sg := [.one (.sc)]) (by kernel_rfl) trivial fun av k h => by
  unfold laws_eqSigned at h; split at h
  · apply un_all h; clear h; intro a0 a1 a2 a3 a4 a5 a6 a7 a8 a9 a10 a11 a12 a13 a14 a15 a16 h; apply un_all h; clear h; intro a17 a18 a19 a20 a21 a22 a23 a24 a25 a26 a27 a28 a29 a30 a31 a32 a33 h; exact Eq.mpr (by kernel_rfl) h
  · exact h.elim

def laws_eqSignedS_r0 (v : List PV) (K : List PV → Prop) (x0k : Prop) (x1k : PV → PV → PV → PV → Prop) : Prop :=
 un 4 (fun v0 v1 v2 v3 =>
  lenP v0 fun r0 =>
  binP .lss v3 r0 fun r1 =>
  iteP r1
   (elemP 17 v0 v3 fun c2 =>
   elemP 17 v1 v3 fun c3 =>
   call laws_eqSigned [.agg [(atP c2 0), (atP c2 1), (atP c2 2), (atP c2 3), (atP c2 4), (atP c2 5), (atP c2 6), (atP c2 7), (atP c2 8), (atP c2 9), (atP c2 10), (atP c2 11), (atP c2 12), (atP c2 13), (atP c2 14), (atP c2 15), (atP c2 16)], .agg [(atP c3 0), (atP c3 1), (atP c3 2), (atP c3 3), (atP c3 4), (atP c3 5), (atP c3 6), (atP c3 7), (atP c3 8), (atP c3 9), (atP c3 10), (atP c3 11), (atP c3 12), (atP c3 13), (atP c3 14), (atP c3 15), (atP c3 16)]] fun o4 =>
   unP .not (atP o4 0) fun r5 =>
   iteP r5
    (x0k)
    (binP .add v3 (I 1) fun r6 =>
    K [v0, v1, v2, r6]))
   (x1k v0 v1 v2 v3)) v
def laws_eqSignedS : GM
 | [.one a0, .one a1], k => 
  lenP a0 fun r0 =>
  lenP a1 fun r1 =>
  binP .neq r0 r1 fun r2 =>
  iteP r2
   (rt [.sc] [(.bool false)] k)
   (lp (fun L w => laws_eqSignedS_r0 w L
    (rt [.sc] [(.bool false)] k)
    (fun q7 q8 q9 q10 => rt [.sc] [(.bool true)] k)) [a0, a1, (.bool false), (I 0)])
 | _, _ => False
abbrev laws_eqSignedS_e : Ent := ⟨[48], laws_eqSignedS⟩
def laws_eqSignedS_l : List LE := [⟨0, ⟨[(0, .one (.pv (.bool false))), (1, .one (.pv (.bool false))), (4, .one (.pv (.bool false))), (5, .one (.pv (.bool false)))], [], [], 0, 27⟩, fun K k v => laws_eqSignedS_r0 v K (k .ret ⟨[(4, .one (.kb false))], [], [], 1, 27⟩) (fun x0 x1 x2 x3 => k (.exit 0) ⟨[(0, .one (.pv x0)), (1, .one (.pv x1)), (4, .one (.pv x2)), (5, .one (.pv x3))], [], [], 0, 27⟩)⟩]
theorem laws_eqSignedS_s : LEsOK (orac [laws_eqSigned_e]) TT (kk [0, 1, 4, 5]) (sumsOf laws_eqSignedS_l) Tryz.f48 laws_eqSignedS_l := ⟨fun v K k h => by
  apply un_all h; exact fun v0 v1 v2 v3 h => Eq.mpr (by kernel_rfl) h
  , trivial⟩
theorem laws_eqSignedS_w : EntOK Tryz.prog TT laws_eqSignedS_e := ent_ok tabok (L := [laws_eqSigned_e]) ⟨laws_eqSigned_w, trivial⟩ (keep := (kk [0, 1, 4, 5])) (l := laws_eqSignedS_l) Tryz.func48 (by kernel_rfl) (sg := [.one (.sc)]) (by kernel_rfl) laws_eqSignedS_s fun av k h => by
  unfold laws_eqSignedS at h; split at h
  · exact Eq.mpr (by kernel_rfl) h
  · exact h.elim

def laws_eqStringS_r0 (v : List PV) (K : List PV → Prop) (x0k : Prop) (x1k : PV → PV → PV → PV → Prop) : Prop :=
 un 4 (fun v0 v1 v2 v3 =>
  lenP v0 fun r0 =>
  binP .lss v3 r0 fun r1 =>
  iteP r1
   (elemP 1 v0 v3 fun c2 =>
   elemP 1 v1 v3 fun c3 =>
   binP .neq (atP c2 0) (atP c3 0) fun r4 =>
   iteP r4
    (x0k)
    (binP .add v3 (I 1) fun r5 =>
    K [v0, v1, v2, r5]))
   (x1k v0 v1 v2 v3)) v
def laws_eqStringS : GM
 | [.one a0, .one a1], k => 
  lenP a0 fun r0 =>
  lenP a1 fun r1 =>
  binP .neq r0 r1 fun r2 =>
  iteP r2
   (rt [.sc] [(.bool false)] k)
   (lp (fun L w => laws_eqStringS_r0 w L
    (rt [.sc] [(.bool false)] k)
    (fun q6 q7 q8 q9 => rt [.sc] [(.bool true)] k)) [a0, a1, (.bool false), (I 0)])
 | _, _ => False
abbrev laws_eqStringS_e : Ent := ⟨[120], laws_eqStringS⟩
def laws_eqStringS_l : List LE := [⟨0, ⟨[(0, .one (.pv (.bool false))), (1, .one (.pv (.bool false))), (4, .one (.pv (.bool false))), (5, .one (.pv (.bool false)))], [], [], 0, 26⟩, fun K k v => laws_eqStringS_r0 v K (k .ret ⟨[(4, .one (.kb false))], [], [], 0, 26⟩) (fun x0 x1 x2 x3 => k (.exit 0) ⟨[(0, .one (.pv x0)), (1, .one (.pv x1)), (4, .one (.pv x2)), (5, .one (.pv x3))], [], [], 0, 26⟩)⟩]
theorem laws_eqStringS_s : LEsOK (orac []) TT (kk [0, 1, 4, 5]) (sumsOf laws_eqStringS_l) Tryz.f120 laws_eqStringS_l := ⟨fun v K k h => by
  apply un_all h; exact fun v0 v1 v2 v3 h => Eq.mpr (by kernel_rfl) h
  , trivial⟩
theorem laws_eqStringS_w : EntOK Tryz.prog TT laws_eqStringS_e := ent_ok tabok (L := []) trivial (keep := (kk [0, 1, 4, 5])) (l := laws_eqStringS_l) Tryz.func120 (by kernel_rfl) (sg := [.one (.sc)]) (by kernel_rfl) laws_eqStringS_s fun av k h => by
  unfold laws_eqStringS at h; split at h
  · exact Eq.mpr (by kernel_rfl) h
  · exact h.elim

def laws_eqEntry : GM
 | [.agg u0, .agg u1], k => un 4 (fun a0 a1 a2 a3 => un 4 (fun a4 a5 a6 a7 => 
  binP .neq a0 a4 fun r0 =>
  iteP r0
   (rt [.sc] [(.bool false)] k)
   (binP .neq a1 a5 fun r1 =>
   iteP r1
    (rt [.sc] [(.bool false)] k)
    (binP .neq a2 a6 fun r2 =>
    iteP r2
     (rt [.sc] [(.bool false)] k)
     (call laws_eqStringS [.one a3, .one a7] fun o3 =>
     unP .not (atP o3 0) fun r4 =>
     iteP r4
      (rt [.sc] [(.bool false)] k)
      (rt [.sc] [(.bool true)] k))))) u1) u0
 | _, _ => False
abbrev laws_eqEntry_e : Ent := ⟨[86], laws_eqEntry⟩
theorem laws_eqEntry_w : EntOK Tryz.prog TT laws_eqEntry_e := ent_ok tabok (L := [laws_eqStringS_e]) ⟨laws_eqStringS_w, trivial⟩ (keep := []) (l := []) Tryz.func86 (by kernel_rfl) (sg := [.one (.sc)]) (by kernel_rfl) trivial fun av k h => by
  unfold laws_eqEntry at h; split at h
  · apply un_all h; clear h; intro a0 a1 a2 a3 h; apply un_all h; clear h; intro a4 a5 a6 a7 h; exact Eq.mpr (by kernel_rfl) h
  · exact h.elim

def laws_eqEntryS_r0 (v : List PV) (K : List PV → Prop) (x0k : Prop) (x1k : PV → PV → PV → PV → Prop) : Prop :=
 un 4 (fun v0 v1 v2 v3 =>
  lenP v0 fun r0 =>
  binP .lss v3 r0 fun r1 =>
  iteP r1
   (elemP 4 v0 v3 fun c2 =>
   elemP 4 v1 v3 fun c3 =>
   call laws_eqEntry [.agg [(atP c2 0), (atP c2 1), (atP c2 2), (atP c2 3)], .agg [(atP c3 0), (atP c3 1), (atP c3 2), (atP c3 3)]] fun o4 =>
   unP .not (atP o4 0) fun r5 =>
   iteP r5
    (x0k)
    (binP .add v3 (I 1) fun r6 =>
    K [v0, v1, v2, r6]))
   (x1k v0 v1 v2 v3)) v
def laws_eqEntryS : GM
 | [.one a0, .one a1], k => 
  lenP a0 fun r0 =>
  lenP a1 fun r1 =>
  binP .neq r0 r1 fun r2 =>
  iteP r2
   (rt [.sc] [(.bool false)] k)
   (lp (fun L w => laws_eqEntryS_r0 w L
    (rt [.sc] [(.bool false)] k)
    (fun q7 q8 q9 q10 => rt [.sc] [(.bool true)] k)) [a0, a1, (.bool false), (I 0)])
 | _, _ => False
abbrev laws_eqEntryS_e : Ent := ⟨[49], laws_eqEntryS⟩
def laws_eqEntryS_l : List LE := [⟨0, ⟨[(0, .one (.pv (.bool false))), (1, .one (.pv (.bool false))), (4, .one (.pv (.bool false))), (5, .one (.pv (.bool false)))], [], [], 0, 27⟩, fun K k v => laws_eqEntryS_r0 v K (k .ret ⟨[(4, .one (.kb false))], [], [], 1, 27⟩) (fun x0 x1 x2 x3 => k (.exit 0) ⟨[(0, .one (.pv x0)), (1, .one (.pv x1)), (4, .one (.pv x2)), (5, .one (.pv x3))], [], [], 0, 27⟩)⟩]
theorem laws_eqEntryS_s : LEsOK (orac [laws_eqEntry_e]) TT (kk [0, 1, 4, 5]) (sumsOf laws_eqEntryS_l) Tryz.f49 laws_eqEntryS_l := ⟨fun v K k h => by
  apply un_all h; exact fun v0 v1 v2 v3 h => Eq.mpr (by kernel_rfl) h
  , trivial⟩
theorem laws_eqEntryS_w : EntOK Tryz.prog TT laws_eqEntryS_e := ent_ok tabok (L := [laws_eqEntry_e]) ⟨laws_eqEntry_w, trivial⟩ (keep := (kk [0, 1, 4, 5])) (l := laws_eqEntryS_l) Tryz.func49 (by kernel_rfl) (sg := [.one (.sc)]) (by kernel_rfl) laws_eqEntryS_s fun av k h => by
  unfold laws_eqEntryS at h; split at h
  · exact Eq.mpr (by kernel_rfl) h
  · exact h.elim

def laws_eqZone : GM
 | [.agg u0, .agg u1], k => un 2 (fun a0 a1 => un 2 (fun a2 a3 => 
  call laws_eqSignedS [.one a0, .one a2] fun o0 =>
  unP .not (atP o0 0) fun r1 =>
  iteP r1
   (rt [.sc] [(.bool false)] k)
   (call laws_eqEntryS [.one a1, .one a3] fun o2 =>
   unP .not (atP o2 0) fun r3 =>
   iteP r3
    (rt [.sc] [(.bool false)] k)
    (rt [.sc] [(.bool true)] k))) u1) u0
 | _, _ => False
abbrev laws_eqZone_e : Ent := ⟨[14], laws_eqZone⟩
theorem laws_eqZone_w : EntOK Tryz.prog TT laws_eqZone_e := ent_ok tabok (L := [laws_eqSignedS_e, laws_eqEntryS_e]) ⟨laws_eqSignedS_w, laws_eqEntryS_w, trivial⟩ (keep := []) (l := []) Tryz.func14 (by kernel_rfl) (sg := [.one (.sc)]) (by kernel_rfl) trivial fun av k h => by
  unfold laws_eqZone at h; split at h
  · apply un_all h; clear h; intro a0 a1 h; apply un_all h; clear h; intro a2 a3 h; exact Eq.mpr (by kernel_rfl) h
  · exact h.elim

def laws_eqZoneS_r0 (v : List PV) (K : List PV → Prop) (x0k : Prop) (x1k : PV → PV → PV → PV → Prop) : Prop :=
 un 4 (fun v0 v1 v2 v3 =>
  lenP v0 fun r0 =>
  binP .lss v3 r0 fun r1 =>
  iteP r1
   (elemP 2 v0 v3 fun c2 =>
   elemP 2 v1 v3 fun c3 =>
   call laws_eqZone [.agg [(atP c2 0), (atP c2 1)], .agg [(atP c3 0), (atP c3 1)]] fun o4 =>
   unP .not (atP o4 0) fun r5 =>
   iteP r5
    (x0k)
    (binP .add v3 (I 1) fun r6 =>
    K [v0, v1, v2, r6]))
   (x1k v0 v1 v2 v3)) v
def laws_eqZoneS : GM
 | [.one a0, .one a1], k => 
  lenP a0 fun r0 =>
  lenP a1 fun r1 =>
  binP .neq r0 r1 fun r2 =>
  iteP r2
   (rt [.sc] [(.bool false)] k)
   (lp (fun L w => laws_eqZoneS_r0 w L
    (rt [.sc] [(.bool false)] k)
    (fun q7 q8 q9 q10 => rt [.sc] [(.bool true)] k)) [a0, a1, (.bool false), (I 0)])
 | _, _ => False
abbrev laws_eqZoneS_e : Ent := ⟨[31], laws_eqZoneS⟩
def laws_eqZoneS_l : List LE := [⟨0, ⟨[(0, .one (.pv (.bool false))), (1, .one (.pv (.bool false))), (4, .one (.pv (.bool false))), (5, .one (.pv (.bool false)))], [], [], 0, 27⟩, fun K k v => laws_eqZoneS_r0 v K (k .ret ⟨[(4, .one (.kb false))], [], [], 1, 27⟩) (fun x0 x1 x2 x3 => k (.exit 0) ⟨[(0, .one (.pv x0)), (1, .one (.pv x1)), (4, .one (.pv x2)), (5, .one (.pv x3))], [], [], 0, 27⟩)⟩]
theorem laws_eqZoneS_s : LEsOK (orac [laws_eqZone_e]) TT (kk [0, 1, 4, 5]) (sumsOf laws_eqZoneS_l) Tryz.f31 laws_eqZoneS_l := ⟨fun v K k h => by
  apply un_all h; exact fun v0 v1 v2 v3 h => Eq.mpr (by kernel_rfl) h
  , trivial⟩
theorem laws_eqZoneS_w : EntOK Tryz.prog TT laws_eqZoneS_e := ent_ok tabok (L := [laws_eqZone_e]) ⟨laws_eqZone_w, trivial⟩ (keep := (kk [0, 1, 4, 5])) (l := laws_eqZoneS_l) Tryz.func31 (by kernel_rfl) (sg := [.one (.sc)]) (by kernel_rfl) laws_eqZoneS_s fun av k h => by
  unfold laws_eqZoneS at h; split at h
  · exact Eq.mpr (by kernel_rfl) h
  · exact h.elim

def laws_eqSaid : GM
 | [.agg u0, .agg u1], k => un 3 (fun a0 a1 a2 => un 3 (fun a3 a4 a5 => 
  call laws_eqZone [.agg [a0, a1], .agg [a3, a4]] fun o0 =>
  unP .not (atP o0 0) fun r1 =>
  iteP r1
   (rt [.sc] [(.bool false)] k)
   (call laws_eqIntS [.one a2, .one a5] fun o2 =>
   unP .not (atP o2 0) fun r3 =>
   iteP r3
    (rt [.sc] [(.bool false)] k)
    (rt [.sc] [(.bool true)] k))) u1) u0
 | _, _ => False
abbrev laws_eqSaid_e : Ent := ⟨[65], laws_eqSaid⟩
theorem laws_eqSaid_w : EntOK Tryz.prog TT laws_eqSaid_e := ent_ok tabok (L := [laws_eqZone_e, laws_eqIntS_e]) ⟨laws_eqZone_w, laws_eqIntS_w, trivial⟩ (keep := []) (l := []) Tryz.func65 (by kernel_rfl) (sg := [.one (.sc)]) (by kernel_rfl) trivial fun av k h => by
  unfold laws_eqSaid at h; split at h
  · apply un_all h; clear h; intro a0 a1 a2 h; apply un_all h; clear h; intro a3 a4 a5 h; exact Eq.mpr (by kernel_rfl) h
  · exact h.elim

def laws_eqSaidS_r0 (v : List PV) (K : List PV → Prop) (x0k : Prop) (x1k : PV → PV → PV → PV → Prop) : Prop :=
 un 4 (fun v0 v1 v2 v3 =>
  lenP v0 fun r0 =>
  binP .lss v3 r0 fun r1 =>
  iteP r1
   (elemP 3 v0 v3 fun c2 =>
   elemP 3 v1 v3 fun c3 =>
   call laws_eqSaid [.agg [(atP c2 0), (atP c2 1), (atP c2 2)], .agg [(atP c3 0), (atP c3 1), (atP c3 2)]] fun o4 =>
   unP .not (atP o4 0) fun r5 =>
   iteP r5
    (x0k)
    (binP .add v3 (I 1) fun r6 =>
    K [v0, v1, v2, r6]))
   (x1k v0 v1 v2 v3)) v
def laws_eqSaidS : GM
 | [.one a0, .one a1], k => 
  lenP a0 fun r0 =>
  lenP a1 fun r1 =>
  binP .neq r0 r1 fun r2 =>
  iteP r2
   (rt [.sc] [(.bool false)] k)
   (lp (fun L w => laws_eqSaidS_r0 w L
    (rt [.sc] [(.bool false)] k)
    (fun q7 q8 q9 q10 => rt [.sc] [(.bool true)] k)) [a0, a1, (.bool false), (I 0)])
 | _, _ => False
abbrev laws_eqSaidS_e : Ent := ⟨[32], laws_eqSaidS⟩
def laws_eqSaidS_l : List LE := [⟨0, ⟨[(0, .one (.pv (.bool false))), (1, .one (.pv (.bool false))), (4, .one (.pv (.bool false))), (5, .one (.pv (.bool false)))], [], [], 0, 27⟩, fun K k v => laws_eqSaidS_r0 v K (k .ret ⟨[(4, .one (.kb false))], [], [], 1, 27⟩) (fun x0 x1 x2 x3 => k (.exit 0) ⟨[(0, .one (.pv x0)), (1, .one (.pv x1)), (4, .one (.pv x2)), (5, .one (.pv x3))], [], [], 0, 27⟩)⟩]
theorem laws_eqSaidS_s : LEsOK (orac [laws_eqSaid_e]) TT (kk [0, 1, 4, 5]) (sumsOf laws_eqSaidS_l) Tryz.f32 laws_eqSaidS_l := ⟨fun v K k h => by
  apply un_all h; exact fun v0 v1 v2 v3 h => Eq.mpr (by kernel_rfl) h
  , trivial⟩
theorem laws_eqSaidS_w : EntOK Tryz.prog TT laws_eqSaidS_e := ent_ok tabok (L := [laws_eqSaid_e]) ⟨laws_eqSaid_w, trivial⟩ (keep := (kk [0, 1, 4, 5])) (l := laws_eqSaidS_l) Tryz.func32 (by kernel_rfl) (sg := [.one (.sc)]) (by kernel_rfl) laws_eqSaidS_s fun av k h => by
  unfold laws_eqSaidS at h; split at h
  · exact Eq.mpr (by kernel_rfl) h
  · exact h.elim

def laws_eqServer : GM
 | [.agg u0, .agg u1], k => un 2 (fun a0 a1 => un 2 (fun a2 a3 => 
  call laws_eqZoneS [.one a0, .one a2] fun o0 =>
  unP .not (atP o0 0) fun r1 =>
  iteP r1
   (rt [.sc] [(.bool false)] k)
   (binP .neq a1 a3 fun r2 =>
   iteP r2
    (rt [.sc] [(.bool false)] k)
    (rt [.sc] [(.bool true)] k))) u1) u0
 | _, _ => False
abbrev laws_eqServer_e : Ent := ⟨[66], laws_eqServer⟩
theorem laws_eqServer_w : EntOK Tryz.prog TT laws_eqServer_e := ent_ok tabok (L := [laws_eqZoneS_e]) ⟨laws_eqZoneS_w, trivial⟩ (keep := []) (l := []) Tryz.func66 (by kernel_rfl) (sg := [.one (.sc)]) (by kernel_rfl) trivial fun av k h => by
  unfold laws_eqServer at h; split at h
  · apply un_all h; clear h; intro a0 a1 h; apply un_all h; clear h; intro a2 a3 h; exact Eq.mpr (by kernel_rfl) h
  · exact h.elim

def laws_eqServerS_r0 (v : List PV) (K : List PV → Prop) (x0k : Prop) (x1k : PV → PV → PV → PV → Prop) : Prop :=
 un 4 (fun v0 v1 v2 v3 =>
  lenP v0 fun r0 =>
  binP .lss v3 r0 fun r1 =>
  iteP r1
   (elemP 2 v0 v3 fun c2 =>
   elemP 2 v1 v3 fun c3 =>
   call laws_eqServer [.agg [(atP c2 0), (atP c2 1)], .agg [(atP c3 0), (atP c3 1)]] fun o4 =>
   unP .not (atP o4 0) fun r5 =>
   iteP r5
    (x0k)
    (binP .add v3 (I 1) fun r6 =>
    K [v0, v1, v2, r6]))
   (x1k v0 v1 v2 v3)) v
def laws_eqServerS : GM
 | [.one a0, .one a1], k => 
  lenP a0 fun r0 =>
  lenP a1 fun r1 =>
  binP .neq r0 r1 fun r2 =>
  iteP r2
   (rt [.sc] [(.bool false)] k)
   (lp (fun L w => laws_eqServerS_r0 w L
    (rt [.sc] [(.bool false)] k)
    (fun q7 q8 q9 q10 => rt [.sc] [(.bool true)] k)) [a0, a1, (.bool false), (I 0)])
 | _, _ => False
abbrev laws_eqServerS_e : Ent := ⟨[33], laws_eqServerS⟩
def laws_eqServerS_l : List LE := [⟨0, ⟨[(0, .one (.pv (.bool false))), (1, .one (.pv (.bool false))), (4, .one (.pv (.bool false))), (5, .one (.pv (.bool false)))], [], [], 0, 27⟩, fun K k v => laws_eqServerS_r0 v K (k .ret ⟨[(4, .one (.kb false))], [], [], 1, 27⟩) (fun x0 x1 x2 x3 => k (.exit 0) ⟨[(0, .one (.pv x0)), (1, .one (.pv x1)), (4, .one (.pv x2)), (5, .one (.pv x3))], [], [], 0, 27⟩)⟩]
theorem laws_eqServerS_s : LEsOK (orac [laws_eqServer_e]) TT (kk [0, 1, 4, 5]) (sumsOf laws_eqServerS_l) Tryz.f33 laws_eqServerS_l := ⟨fun v K k h => by
  apply un_all h; exact fun v0 v1 v2 v3 h => Eq.mpr (by kernel_rfl) h
  , trivial⟩
theorem laws_eqServerS_w : EntOK Tryz.prog TT laws_eqServerS_e := ent_ok tabok (L := [laws_eqServer_e]) ⟨laws_eqServer_w, trivial⟩ (keep := (kk [0, 1, 4, 5])) (l := laws_eqServerS_l) Tryz.func33 (by kernel_rfl) (sg := [.one (.sc)]) (by kernel_rfl) laws_eqServerS_s fun av k h => by
  unfold laws_eqServerS at h; split at h
  · exact Eq.mpr (by kernel_rfl) h
  · exact h.elim

def laws_eqSignedSS_r0 (v : List PV) (K : List PV → Prop) (x0k : Prop) (x1k : PV → PV → PV → PV → Prop) : Prop :=
 un 4 (fun v0 v1 v2 v3 =>
  lenP v0 fun r0 =>
  binP .lss v3 r0 fun r1 =>
  iteP r1
   (elemP 1 v0 v3 fun c2 =>
   elemP 1 v1 v3 fun c3 =>
   call laws_eqSignedS [.one (atP c2 0), .one (atP c3 0)] fun o4 =>
   unP .not (atP o4 0) fun r5 =>
   iteP r5
    (x0k)
    (binP .add v3 (I 1) fun r6 =>
    K [v0, v1, v2, r6]))
   (x1k v0 v1 v2 v3)) v
def laws_eqSignedSS : GM
 | [.one a0, .one a1], k => 
  lenP a0 fun r0 =>
  lenP a1 fun r1 =>
  binP .neq r0 r1 fun r2 =>
  iteP r2
   (rt [.sc] [(.bool false)] k)
   (lp (fun L w => laws_eqSignedSS_r0 w L
    (rt [.sc] [(.bool false)] k)
    (fun q7 q8 q9 q10 => rt [.sc] [(.bool true)] k)) [a0, a1, (.bool false), (I 0)])
 | _, _ => False
abbrev laws_eqSignedSS_e : Ent := ⟨[67], laws_eqSignedSS⟩
def laws_eqSignedSS_l : List LE := [⟨0, ⟨[(0, .one (.pv (.bool false))), (1, .one (.pv (.bool false))), (4, .one (.pv (.bool false))), (5, .one (.pv (.bool false)))], [], [], 0, 27⟩, fun K k v => laws_eqSignedSS_r0 v K (k .ret ⟨[(4, .one (.kb false))], [], [], 1, 27⟩) (fun x0 x1 x2 x3 => k (.exit 0) ⟨[(0, .one (.pv x0)), (1, .one (.pv x1)), (4, .one (.pv x2)), (5, .one (.pv x3))], [], [], 0, 27⟩)⟩]
theorem laws_eqSignedSS_s : LEsOK (orac [laws_eqSignedS_e]) TT (kk [0, 1, 4, 5]) (sumsOf laws_eqSignedSS_l) Tryz.f67 laws_eqSignedSS_l := ⟨fun v K k h => by
  apply un_all h; exact fun v0 v1 v2 v3 h => Eq.mpr (by kernel_rfl) h
  , trivial⟩
theorem laws_eqSignedSS_w : EntOK Tryz.prog TT laws_eqSignedSS_e := ent_ok tabok (L := [laws_eqSignedS_e]) ⟨laws_eqSignedS_w, trivial⟩ (keep := (kk [0, 1, 4, 5])) (l := laws_eqSignedSS_l) Tryz.func67 (by kernel_rfl) (sg := [.one (.sc)]) (by kernel_rfl) laws_eqSignedSS_s fun av k h => by
  unfold laws_eqSignedSS at h; split at h
  · exact Eq.mpr (by kernel_rfl) h
  · exact h.elim

def laws_eqFork : GM
 | [.agg u0, .agg u1], k => un 51 (fun a0 a1 a2 a3 a4 a5 a6 a7 a8 a9 a10 a11 a12 a13 a14 a15 a16 a17 a18 a19 a20 a21 a22 a23 a24 a25 a26 a27 a28 a29 a30 a31 a32 a33 a34 a35 a36 a37 a38 a39 a40 a41 a42 a43 a44 a45 a46 a47 a48 a49 a50 => un 51 (fun a51 a52 a53 a54 a55 a56 a57 a58 a59 a60 a61 a62 a63 a64 a65 a66 a67 a68 a69 a70 a71 a72 a73 a74 a75 a76 a77 a78 a79 a80 a81 a82 a83 a84 a85 a86 a87 a88 a89 a90 a91 a92 a93 a94 a95 a96 a97 a98 a99 a100 a101 => 
  call laws_eqSigned [.agg [a0, a1, a2, a3, a4, a5, a6, a7, a8, a9, a10, a11, a12, a13, a14, a15, a16], .agg [a51, a52, a53, a54, a55, a56, a57, a58, a59, a60, a61, a62, a63, a64, a65, a66, a67]] fun o0 =>
  unP .not (atP o0 0) fun r1 =>
  iteP r1
   (rt [.sc] [(.bool false)] k)
   (call laws_eqSigned [.agg [a17, a18, a19, a20, a21, a22, a23, a24, a25, a26, a27, a28, a29, a30, a31, a32, a33], .agg [a68, a69, a70, a71, a72, a73, a74, a75, a76, a77, a78, a79, a80, a81, a82, a83, a84]] fun o2 =>
   unP .not (atP o2 0) fun r3 =>
   iteP r3
    (rt [.sc] [(.bool false)] k)
    (call laws_eqSigned [.agg [a34, a35, a36, a37, a38, a39, a40, a41, a42, a43, a44, a45, a46, a47, a48, a49, a50], .agg [a85, a86, a87, a88, a89, a90, a91, a92, a93, a94, a95, a96, a97, a98, a99, a100, a101]] fun o4 =>
    unP .not (atP o4 0) fun r5 =>
    iteP r5
     (rt [.sc] [(.bool false)] k)
     (rt [.sc] [(.bool true)] k)))) u1) u0
 | _, _ => False
abbrev laws_eqFork_e : Ent := ⟨[98], laws_eqFork⟩
theorem laws_eqFork_w : EntOK Tryz.prog TT laws_eqFork_e := ent_ok tabok (L := [laws_eqSigned_e]) ⟨laws_eqSigned_w, trivial⟩ (keep := []) (l := []) Tryz.func98 (by kernel_rfl) (sg := [.one (.sc)]) (by kernel_rfl) trivial fun av k h => by
  unfold laws_eqFork at h; split at h
  · apply un_all h; clear h; intro a0 a1 a2 a3 a4 a5 a6 a7 a8 a9 a10 a11 a12 a13 a14 a15 a16 a17 a18 a19 a20 a21 a22 a23 a24 a25 a26 a27 a28 a29 a30 a31 a32 a33 a34 a35 a36 a37 a38 a39 a40 a41 a42 a43 a44 a45 a46 a47 a48 a49 a50 h; apply un_all h; clear h; intro a51 a52 a53 a54 a55 a56 a57 a58 a59 a60 a61 a62 a63 a64 a65 a66 a67 a68 a69 a70 a71 a72 a73 a74 a75 a76 a77 a78 a79 a80 a81 a82 a83 a84 a85 a86 a87 a88 a89 a90 a91 a92 a93 a94 a95 a96 a97 a98 a99 a100 a101 h; exact Eq.mpr (by kernel_rfl) h
  · exact h.elim

def laws_eqForkS_r0 (v : List PV) (K : List PV → Prop) (x0k : Prop) (x1k : PV → PV → PV → PV → Prop) : Prop :=
 un 4 (fun v0 v1 v2 v3 =>
  lenP v0 fun r0 =>
  binP .lss v3 r0 fun r1 =>
  iteP r1
   (elemP 51 v0 v3 fun c2 =>
   elemP 51 v1 v3 fun c3 =>
   call laws_eqFork [.agg [(atP c2 0), (atP c2 1), (atP c2 2), (atP c2 3), (atP c2 4), (atP c2 5), (atP c2 6), (atP c2 7), (atP c2 8), (atP c2 9), (atP c2 10), (atP c2 11), (atP c2 12), (atP c2 13), (atP c2 14), (atP c2 15), (atP c2 16), (atP c2 17), (atP c2 18), (atP c2 19), (atP c2 20), (atP c2 21), (atP c2 22), (atP c2 23), (atP c2 24), (atP c2 25), (atP c2 26), (atP c2 27), (atP c2 28), (atP c2 29), (atP c2 30), (atP c2 31), (atP c2 32), (atP c2 33), (atP c2 34), (atP c2 35), (atP c2 36), (atP c2 37), (atP c2 38), (atP c2 39), (atP c2 40), (atP c2 41), (atP c2 42), (atP c2 43), (atP c2 44), (atP c2 45), (atP c2 46), (atP c2 47), (atP c2 48), (atP c2 49), (atP c2 50)], .agg [(atP c3 0), (atP c3 1), (atP c3 2), (atP c3 3), (atP c3 4), (atP c3 5), (atP c3 6), (atP c3 7), (atP c3 8), (atP c3 9), (atP c3 10), (atP c3 11), (atP c3 12), (atP c3 13), (atP c3 14), (atP c3 15), (atP c3 16), (atP c3 17), (atP c3 18), (atP c3 19), (atP c3 20), (atP c3 21), (atP c3 22), (atP c3 23), (atP c3 24), (atP c3 25), (atP c3 26), (atP c3 27), (atP c3 28), (atP c3 29), (atP c3 30), (atP c3 31), (atP c3 32), (atP c3 33), (atP c3 34), (atP c3 35), (atP c3 36), (atP c3 37), (atP c3 38), (atP c3 39), (atP c3 40), (atP c3 41), (atP c3 42), (atP c3 43), (atP c3 44), (atP c3 45), (atP c3 46), (atP c3 47), (atP c3 48), (atP c3 49), (atP c3 50)]] fun o4 =>
   unP .not (atP o4 0) fun r5 =>
   iteP r5
    (x0k)
    (binP .add v3 (I 1) fun r6 =>
    K [v0, v1, v2, r6]))
   (x1k v0 v1 v2 v3)) v
def laws_eqForkS : GM
 | [.one a0, .one a1], k => 
  lenP a0 fun r0 =>
  lenP a1 fun r1 =>
  binP .neq r0 r1 fun r2 =>
  iteP r2
   (rt [.sc] [(.bool false)] k)
   (lp (fun L w => laws_eqForkS_r0 w L
    (rt [.sc] [(.bool false)] k)
    (fun q7 q8 q9 q10 => rt [.sc] [(.bool true)] k)) [a0, a1, (.bool false), (I 0)])
 | _, _ => False
abbrev laws_eqForkS_e : Ent := ⟨[68], laws_eqForkS⟩
def laws_eqForkS_l : List LE := [⟨0, ⟨[(0, .one (.pv (.bool false))), (1, .one (.pv (.bool false))), (4, .one (.pv (.bool false))), (5, .one (.pv (.bool false)))], [], [], 0, 27⟩, fun K k v => laws_eqForkS_r0 v K (k .ret ⟨[(4, .one (.kb false))], [], [], 1, 27⟩) (fun x0 x1 x2 x3 => k (.exit 0) ⟨[(0, .one (.pv x0)), (1, .one (.pv x1)), (4, .one (.pv x2)), (5, .one (.pv x3))], [], [], 0, 27⟩)⟩]
theorem laws_eqForkS_s : LEsOK (orac [laws_eqFork_e]) TT (kk [0, 1, 4, 5]) (sumsOf laws_eqForkS_l) Tryz.f68 laws_eqForkS_l := ⟨fun v K k h => by
  apply un_all h; exact fun v0 v1 v2 v3 h => Eq.mpr (by kernel_rfl) h
  , trivial⟩
theorem laws_eqForkS_w : EntOK Tryz.prog TT laws_eqForkS_e := ent_ok tabok (L := [laws_eqFork_e]) ⟨laws_eqFork_w, trivial⟩ (keep := (kk [0, 1, 4, 5])) (l := laws_eqForkS_l) Tryz.func68 (by kernel_rfl) (sg := [.one (.sc)]) (by kernel_rfl) laws_eqForkS_s fun av k h => by
  unfold laws_eqForkS at h; split at h
  · exact Eq.mpr (by kernel_rfl) h
  · exact h.elim

def laws_eqKnown : GM
 | [.agg u0, .agg u1], k => un 2 (fun a0 a1 => un 2 (fun a2 a3 => 
  call laws_eqSignedSS [.one a0, .one a2] fun o0 =>
  unP .not (atP o0 0) fun r1 =>
  iteP r1
   (rt [.sc] [(.bool false)] k)
   (call laws_eqForkS [.one a1, .one a3] fun o2 =>
   unP .not (atP o2 0) fun r3 =>
   iteP r3
    (rt [.sc] [(.bool false)] k)
    (rt [.sc] [(.bool true)] k))) u1) u0
 | _, _ => False
abbrev laws_eqKnown_e : Ent := ⟨[34], laws_eqKnown⟩
theorem laws_eqKnown_w : EntOK Tryz.prog TT laws_eqKnown_e := ent_ok tabok (L := [laws_eqSignedSS_e, laws_eqForkS_e]) ⟨laws_eqSignedSS_w, laws_eqForkS_w, trivial⟩ (keep := []) (l := []) Tryz.func34 (by kernel_rfl) (sg := [.one (.sc)]) (by kernel_rfl) trivial fun av k h => by
  unfold laws_eqKnown at h; split at h
  · apply un_all h; clear h; intro a0 a1 h; apply un_all h; clear h; intro a2 a3 h; exact Eq.mpr (by kernel_rfl) h
  · exact h.elim

def laws_eqProof : GM
 | [.agg u0, .agg u1], k => un 2 (fun a0 a1 => un 2 (fun a2 a3 => 
  binP .neq a0 a2 fun r0 =>
  iteP r0
   (rt [.sc] [(.bool false)] k)
   (call laws_eqIntS [.one a1, .one a3] fun o1 =>
   unP .not (atP o1 0) fun r2 =>
   iteP r2
    (rt [.sc] [(.bool false)] k)
    (rt [.sc] [(.bool true)] k))) u1) u0
 | _, _ => False
abbrev laws_eqProof_e : Ent := ⟨[160], laws_eqProof⟩
theorem laws_eqProof_w : EntOK Tryz.prog TT laws_eqProof_e := ent_ok tabok (L := [laws_eqIntS_e]) ⟨laws_eqIntS_w, trivial⟩ (keep := []) (l := []) Tryz.func160 (by kernel_rfl) (sg := [.one (.sc)]) (by kernel_rfl) trivial fun av k h => by
  unfold laws_eqProof at h; split at h
  · apply un_all h; clear h; intro a0 a1 h; apply un_all h; clear h; intro a2 a3 h; exact Eq.mpr (by kernel_rfl) h
  · exact h.elim

def laws_eqGap : GM
 | [.agg u0, .agg u1], k => un 13 (fun a0 a1 a2 a3 a4 a5 a6 a7 a8 a9 a10 a11 a12 => un 13 (fun a13 a14 a15 a16 a17 a18 a19 a20 a21 a22 a23 a24 a25 => 
  binP .neq a0 a13 fun r0 =>
  iteP r0
   (rt [.sc] [(.bool false)] k)
   (call laws_eqEntry [.agg [a1, a2, a3, a4], .agg [a14, a15, a16, a17]] fun o1 =>
   unP .not (atP o1 0) fun r2 =>
   iteP r2
    (rt [.sc] [(.bool false)] k)
    (call laws_eqEntry [.agg [a5, a6, a7, a8], .agg [a18, a19, a20, a21]] fun o3 =>
    unP .not (atP o3 0) fun r4 =>
    iteP r4
     (rt [.sc] [(.bool false)] k)
     (call laws_eqProof [.agg [a9, a10], .agg [a22, a23]] fun o5 =>
     unP .not (atP o5 0) fun r6 =>
     iteP r6
      (rt [.sc] [(.bool false)] k)
      (call laws_eqProof [.agg [a11, a12], .agg [a24, a25]] fun o7 =>
      unP .not (atP o7 0) fun r8 =>
      iteP r8
       (rt [.sc] [(.bool false)] k)
       (rt [.sc] [(.bool true)] k)))))) u1) u0
 | _, _ => False
abbrev laws_eqGap_e : Ent := ⟨[161], laws_eqGap⟩
theorem laws_eqGap_w : EntOK Tryz.prog TT laws_eqGap_e := ent_ok tabok (L := [laws_eqEntry_e, laws_eqProof_e]) ⟨laws_eqEntry_w, laws_eqProof_w, trivial⟩ (keep := []) (l := []) Tryz.func161 (by kernel_rfl) (sg := [.one (.sc)]) (by kernel_rfl) trivial fun av k h => by
  unfold laws_eqGap at h; split at h
  · apply un_all h; clear h; intro a0 a1 a2 a3 a4 a5 a6 a7 a8 a9 a10 a11 a12 h; apply un_all h; clear h; intro a13 a14 a15 a16 a17 a18 a19 a20 a21 a22 a23 a24 a25 h; exact Eq.mpr (by kernel_rfl) h
  · exact h.elim

def laws_eqAnswer : GM
 | [.agg u0, .agg u1], k => un 21 (fun a0 a1 a2 a3 a4 a5 a6 a7 a8 a9 a10 a11 a12 a13 a14 a15 a16 a17 a18 a19 a20 => un 21 (fun a21 a22 a23 a24 a25 a26 a27 a28 a29 a30 a31 a32 a33 a34 a35 a36 a37 a38 a39 a40 a41 => 
  call laws_eqSignedS [.one a0, .one a21] fun o0 =>
  unP .not (atP o0 0) fun r1 =>
  iteP r1
   (rt [.sc] [(.bool false)] k)
   (boolP .neq a1 a22 fun r2 =>
   iteP r2
    (rt [.sc] [(.bool false)] k)
    (call laws_eqEntry [.agg [a2, a3, a4, a5], .agg [a23, a24, a25, a26]] fun o3 =>
    unP .not (atP o3 0) fun r4 =>
    iteP r4
     (rt [.sc] [(.bool false)] k)
     (call laws_eqProof [.agg [a6, a7], .agg [a27, a28]] fun o5 =>
     unP .not (atP o5 0) fun r6 =>
     iteP r6
      (rt [.sc] [(.bool false)] k)
      (call laws_eqGap [.agg [a8, a9, a10, a11, a12, a13, a14, a15, a16, a17, a18, a19, a20], .agg [a29, a30, a31, a32, a33, a34, a35, a36, a37, a38, a39, a40, a41]] fun o7 =>
      unP .not (atP o7 0) fun r8 =>
      iteP r8
       (rt [.sc] [(.bool false)] k)
       (rt [.sc] [(.bool true)] k)))))) u1) u0
 | _, _ => False
abbrev laws_eqAnswer_e : Ent := ⟨[126], laws_eqAnswer⟩
theorem laws_eqAnswer_w : EntOK Tryz.prog TT laws_eqAnswer_e := ent_ok tabok (L := [laws_eqSignedS_e, laws_eqEntry_e, laws_eqProof_e, laws_eqGap_e]) ⟨laws_eqSignedS_w, laws_eqEntry_w, laws_eqProof_w, laws_eqGap_w, trivial⟩ (keep := []) (l := []) Tryz.func126 (by kernel_rfl) (sg := [.one (.sc)]) (by kernel_rfl) trivial fun av k h => by
  unfold laws_eqAnswer at h; split at h
  · apply un_all h; clear h; intro a0 a1 a2 a3 a4 a5 a6 a7 a8 a9 a10 a11 a12 a13 a14 a15 a16 a17 a18 a19 a20 h; apply un_all h; clear h; intro a21 a22 a23 a24 a25 a26 a27 a28 a29 a30 a31 a32 a33 a34 a35 a36 a37 a38 a39 a40 a41 h; exact Eq.mpr (by kernel_rfl) h
  · exact h.elim

def laws_eqStored : GM
 | [.agg u0, .agg u1], k => un 23 (fun a0 a1 a2 a3 a4 a5 a6 a7 a8 a9 a10 a11 a12 a13 a14 a15 a16 a17 a18 a19 a20 a21 a22 => un 23 (fun a23 a24 a25 a26 a27 a28 a29 a30 a31 a32 a33 a34 a35 a36 a37 a38 a39 a40 a41 a42 a43 a44 a45 => 
  binP .neq a0 a23 fun r0 =>
  iteP r0
   (rt [.sc] [(.bool false)] k)
   (binP .neq a1 a24 fun r1 =>
   iteP r1
    (rt [.sc] [(.bool false)] k)
    (call laws_eqAnswer [.agg [a2, a3, a4, a5, a6, a7, a8, a9, a10, a11, a12, a13, a14, a15, a16, a17, a18, a19, a20, a21, a22], .agg [a25, a26, a27, a28, a29, a30, a31, a32, a33, a34, a35, a36, a37, a38, a39, a40, a41, a42, a43, a44, a45]] fun o2 =>
    unP .not (atP o2 0) fun r3 =>
    iteP r3
     (rt [.sc] [(.bool false)] k)
     (rt [.sc] [(.bool true)] k)))) u1) u0
 | _, _ => False
abbrev laws_eqStored_e : Ent := ⟨[99], laws_eqStored⟩
theorem laws_eqStored_w : EntOK Tryz.prog TT laws_eqStored_e := ent_ok tabok (L := [laws_eqAnswer_e]) ⟨laws_eqAnswer_w, trivial⟩ (keep := []) (l := []) Tryz.func99 (by kernel_rfl) (sg := [.one (.sc)]) (by kernel_rfl) trivial fun av k h => by
  unfold laws_eqStored at h; split at h
  · apply un_all h; clear h; intro a0 a1 a2 a3 a4 a5 a6 a7 a8 a9 a10 a11 a12 a13 a14 a15 a16 a17 a18 a19 a20 a21 a22 h; apply un_all h; clear h; intro a23 a24 a25 a26 a27 a28 a29 a30 a31 a32 a33 a34 a35 a36 a37 a38 a39 a40 a41 a42 a43 a44 a45 h; exact Eq.mpr (by kernel_rfl) h
  · exact h.elim

def laws_eqStoredS_r0 (v : List PV) (K : List PV → Prop) (x0k : Prop) (x1k : PV → PV → PV → PV → Prop) : Prop :=
 un 4 (fun v0 v1 v2 v3 =>
  lenP v0 fun r0 =>
  binP .lss v3 r0 fun r1 =>
  iteP r1
   (elemP 23 v0 v3 fun c2 =>
   elemP 23 v1 v3 fun c3 =>
   call laws_eqStored [.agg [(atP c2 0), (atP c2 1), (atP c2 2), (atP c2 3), (atP c2 4), (atP c2 5), (atP c2 6), (atP c2 7), (atP c2 8), (atP c2 9), (atP c2 10), (atP c2 11), (atP c2 12), (atP c2 13), (atP c2 14), (atP c2 15), (atP c2 16), (atP c2 17), (atP c2 18), (atP c2 19), (atP c2 20), (atP c2 21), (atP c2 22)], .agg [(atP c3 0), (atP c3 1), (atP c3 2), (atP c3 3), (atP c3 4), (atP c3 5), (atP c3 6), (atP c3 7), (atP c3 8), (atP c3 9), (atP c3 10), (atP c3 11), (atP c3 12), (atP c3 13), (atP c3 14), (atP c3 15), (atP c3 16), (atP c3 17), (atP c3 18), (atP c3 19), (atP c3 20), (atP c3 21), (atP c3 22)]] fun o4 =>
   unP .not (atP o4 0) fun r5 =>
   iteP r5
    (x0k)
    (binP .add v3 (I 1) fun r6 =>
    K [v0, v1, v2, r6]))
   (x1k v0 v1 v2 v3)) v
def laws_eqStoredS : GM
 | [.one a0, .one a1], k => 
  lenP a0 fun r0 =>
  lenP a1 fun r1 =>
  binP .neq r0 r1 fun r2 =>
  iteP r2
   (rt [.sc] [(.bool false)] k)
   (lp (fun L w => laws_eqStoredS_r0 w L
    (rt [.sc] [(.bool false)] k)
    (fun q7 q8 q9 q10 => rt [.sc] [(.bool true)] k)) [a0, a1, (.bool false), (I 0)])
 | _, _ => False
abbrev laws_eqStoredS_e : Ent := ⟨[69], laws_eqStoredS⟩
def laws_eqStoredS_l : List LE := [⟨0, ⟨[(0, .one (.pv (.bool false))), (1, .one (.pv (.bool false))), (4, .one (.pv (.bool false))), (5, .one (.pv (.bool false)))], [], [], 0, 27⟩, fun K k v => laws_eqStoredS_r0 v K (k .ret ⟨[(4, .one (.kb false))], [], [], 1, 27⟩) (fun x0 x1 x2 x3 => k (.exit 0) ⟨[(0, .one (.pv x0)), (1, .one (.pv x1)), (4, .one (.pv x2)), (5, .one (.pv x3))], [], [], 0, 27⟩)⟩]
theorem laws_eqStoredS_s : LEsOK (orac [laws_eqStored_e]) TT (kk [0, 1, 4, 5]) (sumsOf laws_eqStoredS_l) Tryz.f69 laws_eqStoredS_l := ⟨fun v K k h => by
  apply un_all h; exact fun v0 v1 v2 v3 h => Eq.mpr (by kernel_rfl) h
  , trivial⟩
theorem laws_eqStoredS_w : EntOK Tryz.prog TT laws_eqStoredS_e := ent_ok tabok (L := [laws_eqStored_e]) ⟨laws_eqStored_w, trivial⟩ (keep := (kk [0, 1, 4, 5])) (l := laws_eqStoredS_l) Tryz.func69 (by kernel_rfl) (sg := [.one (.sc)]) (by kernel_rfl) laws_eqStoredS_s fun av k h => by
  unfold laws_eqStoredS at h; split at h
  · exact Eq.mpr (by kernel_rfl) h
  · exact h.elim

def laws_eqCache : GM
 | [.agg u0, .agg u1], k => un 1 (fun a0 => un 1 (fun a1 => 
  call laws_eqStoredS [.one a0, .one a1] fun o0 =>
  unP .not (atP o0 0) fun r1 =>
  iteP r1
   (rt [.sc] [(.bool false)] k)
   (rt [.sc] [(.bool true)] k)) u1) u0
 | _, _ => False
abbrev laws_eqCache_e : Ent := ⟨[35], laws_eqCache⟩
theorem laws_eqCache_w : EntOK Tryz.prog TT laws_eqCache_e := ent_ok tabok (L := [laws_eqStoredS_e]) ⟨laws_eqStoredS_w, trivial⟩ (keep := []) (l := []) Tryz.func35 (by kernel_rfl) (sg := [.one (.sc)]) (by kernel_rfl) trivial fun av k h => by
  unfold laws_eqCache at h; split at h
  · apply un_all h; clear h; intro a0 h; apply un_all h; clear h; intro a1 h; exact Eq.mpr (by kernel_rfl) h
  · exact h.elim

def laws_eqWorld : GM
 | [.agg u0, .agg u1], k => un 8 (fun a0 a1 a2 a3 a4 a5 a6 a7 => un 8 (fun a8 a9 a10 a11 a12 a13 a14 a15 => 
  binP .neq a0 a8 fun r0 =>
  iteP r0
   (rt [.sc] [(.bool false)] k)
   (call laws_eqActorS [.one a1, .one a9] fun o1 =>
   unP .not (atP o1 0) fun r2 =>
   iteP r2
    (rt [.sc] [(.bool false)] k)
    (call laws_eqZoneS [.one a2, .one a10] fun o3 =>
    unP .not (atP o3 0) fun r4 =>
    iteP r4
     (rt [.sc] [(.bool false)] k)
     (call laws_eqSaidS [.one a3, .one a11] fun o5 =>
     unP .not (atP o5 0) fun r6 =>
     iteP r6
      (rt [.sc] [(.bool false)] k)
      (call laws_eqServerS [.one a4, .one a12] fun o7 =>
      unP .not (atP o7 0) fun r8 =>
      iteP r8
       (rt [.sc] [(.bool false)] k)
       (call laws_eqKnown [.agg [a5, a6], .agg [a13, a14]] fun o9 =>
       unP .not (atP o9 0) fun r10 =>
       iteP r10
        (rt [.sc] [(.bool false)] k)
        (call laws_eqCache [.agg [a7], .agg [a15]] fun o11 =>
        unP .not (atP o11 0) fun r12 =>
        iteP r12
         (rt [.sc] [(.bool false)] k)
         (rt [.sc] [(.bool true)] k)))))))) u1) u0
 | _, _ => False
abbrev laws_eqWorld_e : Ent := ⟨[9], laws_eqWorld⟩
theorem laws_eqWorld_w : EntOK Tryz.prog TT laws_eqWorld_e := ent_ok tabok (L := [laws_eqActorS_e, laws_eqZoneS_e, laws_eqSaidS_e, laws_eqServerS_e, laws_eqKnown_e, laws_eqCache_e]) ⟨laws_eqActorS_w, laws_eqZoneS_w, laws_eqSaidS_w, laws_eqServerS_w, laws_eqKnown_w, laws_eqCache_w, trivial⟩ (keep := []) (l := []) Tryz.func9 (by kernel_rfl) (sg := [.one (.sc)]) (by kernel_rfl) trivial fun av k h => by
  unfold laws_eqWorld at h; split at h
  · apply un_all h; clear h; intro a0 a1 a2 a3 a4 a5 a6 a7 h; apply un_all h; clear h; intro a8 a9 a10 a11 a12 a13 a14 a15 h; exact Eq.mpr (by kernel_rfl) h
  · exact h.elim

def laws_FnExactFormatWorld : GM
 | [.agg u0], k => un 8 (fun a0 a1 a2 a3 a4 a5 a6 a7 => 
  call laws_szWorld [.agg [a0, a1, a2, a3, a4, a5, a6, a7], .one (I 1048576)] fun o0 =>
  binP .lss (atP o0 0) (I 0) fun r1 =>
  iteP r1
   (rt [.sc] [(.bool true)] k)
   (call laws_toWorld [.agg [a0, a1, a2, a3, a4, a5, a6, a7]] fun o2 =>
   call spec_FormatWorld [.agg [(atP o2 0), (atP o2 1), (atP o2 2), (atP o2 3), (atP o2 4), (atP o2 5), (atP o2 6), (atP o2 7)]] fun o3 =>
   call laws_toWorld [.agg [a0, a1, a2, a3, a4, a5, a6, a7]] fun o4 =>
   call impl_FormatWorld [.agg [(atP o4 0), (atP o4 1), (atP o4 2), (atP o4 3), (atP o4 4), (atP o4 5), (atP o4 6), (atP o4 7)]] fun o5 =>
   binP .neq (atP o5 0) (atP o3 0) fun r6 =>
   iteP r6
    (rt [.sc] [(.bool false)] k)
    (call laws_toWorld [.agg [a0, a1, a2, a3, a4, a5, a6, a7]] fun o7 =>
    call laws_eqWorld [.agg [(atP o4 0), (atP o4 1), (atP o4 2), (atP o4 3), (atP o4 4), (atP o4 5), (atP o4 6), (atP o4 7)], .agg [(atP o7 0), (atP o7 1), (atP o7 2), (atP o7 3), (atP o7 4), (atP o7 5), (atP o7 6), (atP o7 7)]] fun o8 =>
    unP .not (atP o8 0) fun r9 =>
    iteP r9
     (rt [.sc] [(.bool false)] k)
     (rt [.sc] [(.bool true)] k)))) u0
 | _, _ => False
abbrev laws_FnExactFormatWorld_e : Ent := ⟨[3], laws_FnExactFormatWorld⟩
theorem laws_FnExactFormatWorld_w : EntOK Tryz.prog TT laws_FnExactFormatWorld_e := ent_ok tabok (L := [laws_szWorld_e, laws_toWorld_e, spec_FormatWorld_e, impl_FormatWorld_e, laws_eqWorld_e]) ⟨laws_szWorld_w, laws_toWorld_w, spec_FormatWorld_w, impl_FormatWorld_w, laws_eqWorld_w, trivial⟩ (keep := []) (l := []) Tryz.func3 (by kernel_rfl) (sg := [.one (.sc)]) (by kernel_rfl) trivial fun av k h => by
  unfold laws_FnExactFormatWorld at h; split at h
  · apply un_all h; clear h; intro a0 a1 a2 a3 a4 a5 a6 a7 h; exact Eq.mpr (by kernel_rfl) h
  · exact h.elim

def spec_l1In : GM
 | [.one a0, .one a1, .one a2], k => 
  binP .geq a0 a1 fun r0 =>
  iteP r0
   (binP .leq a0 a2 fun r1 =>
   rt [.sc] [r1] k)
   (rt [.sc] [(.bool false)] k)
 | _, _ => False
abbrev spec_l1In_e : Ent := ⟨[75], spec_l1In⟩
theorem spec_l1In_w : EntOK Tryz.prog TT spec_l1In_e := ent_ok tabok (L := []) trivial (keep := []) (l := []) Tryz.func75 (by kernel_rfl) (sg := [.one (.sc)]) (by kernel_rfl) trivial fun av k h => by
  unfold spec_l1In at h; split at h
  · exact Eq.mpr (by kernel_rfl) h
  · exact h.elim

def spec_IsKeys_r0 (v : List PV) (K : List PV → Prop) (x0k : PV → PV → Prop) (x1k : PV → PV → PV → PV → Prop) : Prop :=
 un 4 (fun v0 v1 v2 v3 =>
  lenP v2 fun r0 =>
  binP .lss v1 r0 fun r1 =>
  iteP r1
   (elemP 1 v2 v1 fun c2 =>
   call spec_l1In [.one (atP c2 0), .one (I 1), .one (I 99)] fun o3 =>
   unP .not (atP o3 0) fun r4 =>
   iteP r4
    (x0k v2 v3)
    (binP .gtr v1 (I 0) fun r5 =>
    iteP r5
     (binP .sub v1 (I 1) fun r6 =>
     elemP 1 v2 r6 fun c7 =>
     elemP 1 v2 v1 fun c8 =>
     binP .geq (atP c7 0) (atP c8 0) fun r9 =>
     iteP r9
      (x0k v2 v3)
      (binP .add v1 (I 1) fun r10 =>
      K [v0, r10, v2, v3]))
     (binP .add v1 (I 1) fun r11 =>
     K [v0, r11, v2, v3])))
   (x1k v0 v1 v2 v3)) v
def spec_IsKeys : GM
 | [.agg u0], k => un 2 (fun a0 a1 => 
  lp (fun L w => spec_IsKeys_r0 w L
   (fun q12 q13 => rt [.sc] [(.bool false)] k)
   (fun q14 q15 q16 q17 => lenP q16 fun r18 =>
    call spec_l1In [.one r18, .one (I 1), .one (I 4)] fun o19 =>
    iteP (atP o19 0)
     (lenP q16 fun r20 =>
     call spec_l1In [.one q17, .one (I 1), .one r20] fun o21 =>
     rt [.sc] [(atP o21 0)] k)
     (rt [.sc] [(.bool false)] k))) [(.bool false), (I 0), a0, a1]) u0
 | _, _ => False
abbrev spec_IsKeys_e : Ent := ⟨[185], spec_IsKeys⟩
def spec_IsKeys_l : List LE := [⟨0, ⟨[(1, .one (.ptr 0 0)), (2, .one (.pv (.bool false))), (3, .one (.pv (.bool false)))], [(0, [.pv (.bool false), .pv (.bool false)])], [], 1, 48⟩, fun K k v => spec_IsKeys_r0 v K (fun x0 x1 => k .ret ⟨[(2, .one (.kb false))], [(0, [.pv x0, .pv x1])], [], 2, 48⟩) (fun x0 x1 x2 x3 => k (.exit 0) ⟨[(1, .one (.ptr 0 0)), (2, .one (.pv x0)), (3, .one (.pv x1))], [(0, [.pv x2, .pv x3])], [], 1, 48⟩)⟩]
theorem spec_IsKeys_s : LEsOK (orac [spec_l1In_e]) TT (kk [1, 2, 3, 19, 20, 21, 22, 23, 24, 25, 26, 27, 28, 29, 30, 31, 32, 33, 34, 41, 42, 43, 44, 45, 46]) (sumsOf spec_IsKeys_l) Tryz.f185 spec_IsKeys_l := ⟨fun v K k h => by
  apply un_all h; exact fun v0 v1 v2 v3 h => Eq.mpr (by kernel_rfl) h
  , trivial⟩
theorem spec_IsKeys_w : EntOK Tryz.prog TT spec_IsKeys_e := ent_ok tabok (L := [spec_l1In_e]) ⟨spec_l1In_w, trivial⟩ (keep := (kk [1, 2, 3, 19, 20, 21, 22, 23, 24, 25, 26, 27, 28, 29, 30, 31, 32, 33, 34, 41, 42, 43, 44, 45, 46])) (l := spec_IsKeys_l) Tryz.func185 (by kernel_rfl) (sg := [.one (.sc)]) (by kernel_rfl) spec_IsKeys_s fun av k h => by
  unfold spec_IsKeys at h; split at h
  · apply un_all h; clear h; intro a0 a1 h; exact Eq.mpr (by kernel_rfl) h
  · exact h.elim

def spec_NoKeys : GM
 | [.agg u0], k => un 2 (fun a0 a1 => 
  binP .eql a1 (I 0) fun r0 =>
  iteP r0
   (lenP a0 fun r1 =>
   binP .eql r1 (I 0) fun r2 =>
   rt [.sc] [r2] k)
   (rt [.sc] [(.bool false)] k)) u0
 | _, _ => False
abbrev spec_NoKeys_e : Ent := ⟨[107], spec_NoKeys⟩
theorem spec_NoKeys_w : EntOK Tryz.prog TT spec_NoKeys_e := ent_ok tabok (L := []) trivial (keep := []) (l := []) Tryz.func107 (by kernel_rfl) (sg := [.one (.sc)]) (by kernel_rfl) trivial fun av k h => by
  unfold spec_NoKeys at h; split at h
  · apply un_all h; clear h; intro a0 a1 h; exact Eq.mpr (by kernel_rfl) h
  · exact h.elim

def spec_IsHead : GM
 | [.agg u0], k => un 16 (fun a0 a1 a2 a3 a4 a5 a6 a7 a8 a9 a10 a11 a12 a13 a14 a15 => 
  call spec_l1In [.one a0, .one (I 0), .one (I 2147483646)] fun o0 =>
  unP .not (atP o0 0) fun r1 =>
  iteP r1
   (rt [.sc] [(.bool false)] k)
   (call spec_l1In [.one a6, .one (I 0), .one (I 2147483646)] fun o2 =>
   unP .not (atP o2 0) fun r3 =>
   iteP r3
    (rt [.sc] [(.bool false)] k)
    (call spec_l1In [.one a7, .one (I 0), .one (I 2147483646)] fun o4 =>
    unP .not (atP o4 0) fun r5 =>
    iteP r5
     (rt [.sc] [(.bool false)] k)
     (call spec_l1In [.one a1, .one (I 0), .one (I 200)] fun o6 =>
     unP .not (atP o6 0) fun r7 =>
     iteP r7
      (rt [.sc] [(.bool false)] k)
      (call spec_l1In [.one a2, .one (I 1), .one (I 3)] fun o8 =>
      unP .not (atP o8 0) fun r9 =>
      iteP r9
       (rt [.sc] [(.bool false)] k)
       (call spec_l1In [.one a3, .one (I 0), .one (I 100000)] fun o10 =>
       unP .not (atP o10 0) fun r11 =>
       iteP r11
        (rt [.sc] [(.bool false)] k)
        (call spec_l1In [.one a4, .one a3, .one (I 100000)] fun o12 =>
        unP .not (atP o12 0) fun r13 =>
        iteP r13
         (rt [.sc] [(.bool false)] k)
         (binP .sub a4 a3 fun r14 =>
         binP .gtr r14 (I 200) fun r15 =>
         iteP r15
          (rt [.sc] [(.bool false)] k)
          (call spec_l1In [.one a5, .one (I 0), .one (I 12)] fun o16 =>
          unP .not (atP o16 0) fun r17 =>
          iteP r17
           (rt [.sc] [(.bool false)] k)
           (call spec_IsKeys [.agg [a8, a9]] fun o18 =>
           unP .not (atP o18 0) fun r19 =>
           iteP r19
            (rt [.sc] [(.bool false)] k)
            (call spec_NoKeys [.agg [a10, a11]] fun o20 =>
            iteP (atP o20 0)
             (binP .neq a12 (I 0) fun r21 =>
             iteP r21
              (rt [.sc] [(.bool false)] k)
              (call spec_IsKeys [.agg [a13, a14]] fun o22 =>
              iteP (atP o22 0)
               (rt [.sc] [(.bool true)] k)
               (call spec_NoKeys [.agg [a13, a14]] fun o23 =>
               iteP (atP o23 0)
                (unP .not a15 fun r24 =>
                rt [.sc] [r24] k)
                (rt [.sc] [(.bool false)] k))))
             (call spec_IsKeys [.agg [a10, a11]] fun o25 =>
             unP .not (atP o25 0) fun r26 =>
             iteP r26
              (rt [.sc] [(.bool false)] k)
              (call spec_l1In [.one a12, .one (I 1), .one (I 500)] fun o27 =>
              unP .not (atP o27 0) fun r28 =>
              iteP r28
               (rt [.sc] [(.bool false)] k)
               (call spec_IsKeys [.agg [a13, a14]] fun o29 =>
               iteP (atP o29 0)
                (rt [.sc] [(.bool true)] k)
                (call spec_NoKeys [.agg [a13, a14]] fun o30 =>
                iteP (atP o30 0)
                 (unP .not a15 fun r31 =>
                 rt [.sc] [r31] k)
                 (rt [.sc] [(.bool false)] k)))))))))))))))) u0
 | _, _ => False
abbrev spec_IsHead_e : Ent := ⟨[162], spec_IsHead⟩
theorem spec_IsHead_w : EntOK Tryz.prog TT spec_IsHead_e := ent_ok tabok (L := [spec_l1In_e, spec_IsKeys_e, spec_NoKeys_e]) ⟨spec_l1In_w, spec_IsKeys_w, spec_NoKeys_w, trivial⟩ (keep := []) (l := []) Tryz.func162 (by kernel_rfl) (sg := [.one (.sc)]) (by kernel_rfl) trivial fun av k h => by
  unfold spec_IsHead at h; split at h
  · apply un_all h; clear h; intro a0 a1 a2 a3 a4 a5 a6 a7 a8 a9 a10 a11 a12 a13 a14 a15 h; exact Eq.mpr (by kernel_rfl) h
  · exact h.elim

def spec_KeysInts : GM
 | [.agg u0], k => un 2 (fun a0 a1 => 
  lenP a0 fun r0 =>
  (2 = 2) ∧ (2 ≤ 16777216) ∧ (1 = 1) ∧ (0 = 0) ∧ (1 = 1) ∧ (flatCond [.pv (I 0)] [.pv a1]) ∧ (1 = 1) ∧ (1 = 1) ∧ (flatCond [.pv (I 0)] [.pv r0]) ∧ (flatRows a0) ∧ catP 1 (.list 1 [[a1], [r0]]) a0 fun r1 =>
  rt [.own true 3 1] [r1] k) u0
 | _, _ => False
abbrev spec_KeysInts_e : Ent := ⟨[186], spec_KeysInts⟩
theorem spec_KeysInts_w : EntOK Tryz.prog TT spec_KeysInts_e := ent_ok tabok (L := []) trivial (keep := []) (l := []) Tryz.func186 (by kernel_rfl) (sg := [.one (.own true 3 1)]) (by kernel_rfl) trivial fun av k h => by
  unfold spec_KeysInts at h; split at h
  · apply un_all h; clear h; intro a0 a1 h; exact Eq.mpr (by kernel_rfl) h
  · exact h.elim

def spec_Mod : GM
 | [.one a0, .one a1], k => 
  call spec_l1In [.one a1, .one (I 1), .one (I 1000000000000)] fun o0 =>
  unP .not (atP o0 0) fun r1 =>
  iteP r1
   (rt [.sc] [(I 0)] k)
   (binP .rem a0 a1 fun r2 =>
   binP .add r2 a1 fun r3 =>
   binP .rem r3 a1 fun r4 =>
   rt [.sc] [r4] k)
 | _, _ => False
abbrev spec_Mod_e : Ent := ⟨[192], spec_Mod⟩
theorem spec_Mod_w : EntOK Tryz.prog TT spec_Mod_e := ent_ok tabok (L := [spec_l1In_e]) ⟨spec_l1In_w, trivial⟩ (keep := []) (l := []) Tryz.func192 (by kernel_rfl) (sg := [.one (.sc)]) (by kernel_rfl) trivial fun av k h => by
  unfold spec_Mod at h; split at h
  · exact Eq.mpr (by kernel_rfl) h
  · exact h.elim

def spec_Hash_r0 (v : List PV) (K : List PV → Prop) (x0k : PV → PV → PV → PV → Prop) : Prop :=
 un 4 (fun v0 v1 v2 v3 =>
  lenP v0 fun r0 =>
  binP .lss v3 r0 fun r1 =>
  iteP r1
   (binP .mul v2 (I 1000003) fun r2 =>
   elemP 1 v0 v3 fun c3 =>
   call spec_Mod [.one (atP c3 0), .one (I 2147483647)] fun o4 =>
   binP .add r2 (atP o4 0) fun r5 =>
   binP .add r5 (I 13) fun r6 =>
   binP .rem r6 (I 2147483647) fun r7 =>
   binP .add v3 (I 1) fun r8 =>
   K [v0, v1, r7, r8])
   (x0k v0 v1 v2 v3)) v
def spec_Hash : GM
 | [.one a0], k => 
  lp (fun L w => spec_Hash_r0 w L
   (fun q9 q10 q11 q12 => rt [.sc] [q11] k)) [a0, (I 0), (I 11), (I 0)]
 | _, _ => False
abbrev spec_Hash_e : Ent := ⟨[167], spec_Hash⟩
def spec_Hash_l : List LE := [⟨0, ⟨[(0, .one (.pv (.bool false))), (2, .one (.pv (.bool false))), (3, .one (.pv (.bool false))), (4, .one (.pv (.bool false)))], [], [], 0, 22⟩, fun K k v => spec_Hash_r0 v K (fun x0 x1 x2 x3 => k (.exit 0) ⟨[(0, .one (.pv x0)), (2, .one (.pv x1)), (3, .one (.pv x2)), (4, .one (.pv x3))], [], [], 0, 22⟩)⟩]
theorem spec_Hash_s : LEsOK (orac [spec_Mod_e]) TT (kk [0, 2, 3, 4]) (sumsOf spec_Hash_l) Tryz.f167 spec_Hash_l := ⟨fun v K k h => by
  apply un_all h; exact fun v0 v1 v2 v3 h => Eq.mpr (by kernel_rfl) h
  , trivial⟩
theorem spec_Hash_w : EntOK Tryz.prog TT spec_Hash_e := ent_ok tabok (L := [spec_Mod_e]) ⟨spec_Mod_w, trivial⟩ (keep := (kk [0, 2, 3, 4])) (l := spec_Hash_l) Tryz.func167 (by kernel_rfl) (sg := [.one (.sc)]) (by kernel_rfl) spec_Hash_s fun av k h => by
  unfold spec_Hash at h; split at h
  · exact Eq.mpr (by kernel_rfl) h
  · exact h.elim

def spec_ZoneOf : GM
 | [.agg u0, .one a2], k => un 2 (fun a0 a1 => 
  (2 = 2) ∧ (2 ≤ 16777216) ∧ (1 = 1) ∧ (0 = 0) ∧ (1 = 1) ∧ (flatCond [.pv (I 0)] [.pv (I 239)]) ∧ (1 = 1) ∧ (1 = 1) ∧ (flatCond [.pv (I 0)] [.pv a2]) ∧ call spec_KeysInts [.agg [a0, a1]] fun o0 =>
  catP 1 (.list 1 [[(I 239)], [a2]]) (atP o0 0) fun r1 =>
  call spec_Hash [.one r1] fun o2 =>
  rt [.sc] [(atP o2 0)] k) u0
 | _, _ => False
abbrev spec_ZoneOf_e : Ent := ⟨[163], spec_ZoneOf⟩
theorem spec_ZoneOf_w : EntOK Tryz.prog TT spec_ZoneOf_e := ent_ok tabok (L := [spec_KeysInts_e, spec_Hash_e]) ⟨spec_KeysInts_w, spec_Hash_w, trivial⟩ (keep := []) (l := []) Tryz.func163 (by kernel_rfl) (sg := [.one (.sc)]) (by kernel_rfl) trivial fun av k h => by
  unfold spec_ZoneOf at h; split at h
  · apply un_all h; clear h; intro a0 a1 h; exact Eq.mpr (by kernel_rfl) h
  · exact h.elim

def spec_HeadInts : GM
 | [.agg u0], k => un 16 (fun a0 a1 a2 a3 a4 a5 a6 a7 a8 a9 a10 a11 a12 a13 a14 a15 => 
  (8 = 8) ∧ (8 ≤ 16777216) ∧ (1 = 1) ∧ (0 = 0) ∧ (1 = 1) ∧ (flatCond [.pv (I 0)] [.pv a0]) ∧ (1 = 1) ∧ (1 = 1) ∧ (flatCond [.pv (I 0)] [.pv a1]) ∧ (2 = 2) ∧ (1 = 1) ∧ (flatCond [.pv (I 0)] [.pv a2]) ∧ (3 = 3) ∧ (1 = 1) ∧ (flatCond [.pv (I 0)] [.pv a3]) ∧ (4 = 4) ∧ (1 = 1) ∧ (flatCond [.pv (I 0)] [.pv a4]) ∧ (5 = 5) ∧ (1 = 1) ∧ (flatCond [.pv (I 0)] [.pv a5]) ∧ (6 = 6) ∧ (1 = 1) ∧ (flatCond [.pv (I 0)] [.pv a6]) ∧ (7 = 7) ∧ (1 = 1) ∧ (flatCond [.pv (I 0)] [.pv a7]) ∧ call spec_KeysInts [.agg [a8, a9]] fun o0 =>
  catP 1 (.list 1 [[a0], [a1], [a2], [a3], [a4], [a5], [a6], [a7]]) (atP o0 0) fun r1 =>
  call spec_KeysInts [.agg [a10, a11]] fun o2 =>
  catP 1 r1 (atP o2 0) fun r3 =>
  (1 = 1) ∧ (1 ≤ 16777216) ∧ (1 = 1) ∧ (0 = 0) ∧ (1 = 1) ∧ (flatCond [.pv (I 0)] [.pv a12]) ∧ catP 1 r3 (.list 1 [[a12]]) fun r4 =>
  call spec_KeysInts [.agg [a13, a14]] fun o5 =>
  catP 1 r4 (atP o5 0) fun r6 =>
  iteP a15
   ((1 = 1) ∧ (1 ≤ 16777216) ∧ (1 = 1) ∧ (0 = 0) ∧ (1 = 1) ∧ (flatCond [.pv (I 0)] [.pv (I 1)]) ∧ catP 1 r6 (.list 1 [[(I 1)]]) fun r7 =>
   rt [.own true 3 1] [r7] k)
   ((1 = 1) ∧ (1 ≤ 16777216) ∧ (1 = 1) ∧ (0 = 0) ∧ (1 = 1) ∧ (flatCond [.pv (I 0)] [.pv (I 0)]) ∧ catP 1 r6 (.list 1 [[(I 0)]]) fun r8 =>
   rt [.own true 3 1] [r8] k)) u0
 | _, _ => False
abbrev spec_HeadInts_e : Ent := ⟨[165], spec_HeadInts⟩
theorem spec_HeadInts_w : EntOK Tryz.prog TT spec_HeadInts_e := ent_ok tabok (L := [spec_KeysInts_e]) ⟨spec_KeysInts_w, trivial⟩ (keep := []) (l := []) Tryz.func165 (by kernel_rfl) (sg := [.one (.own true 3 1)]) (by kernel_rfl) trivial fun av k h => by
  unfold spec_HeadInts at h; split at h
  · apply un_all h; clear h; intro a0 a1 a2 a3 a4 a5 a6 a7 a8 a9 a10 a11 a12 a13 a14 a15 h; exact Eq.mpr (by kernel_rfl) h
  · exact h.elim

def spec_KeyedHash : GM
 | [.one a0, .one a1], k => 
  (1 = 1) ∧ (1 ≤ 16777216) ∧ (1 = 1) ∧ (0 = 0) ∧ (1 = 1) ∧ (flatCond [.pv (I 0)] [.pv a0]) ∧ (flatRows a1) ∧ catP 1 (.list 1 [[a0]]) a1 fun r0 =>
  (1 = 1) ∧ (1 ≤ 16777216) ∧ (1 = 1) ∧ (0 = 0) ∧ (1 = 1) ∧ (flatCond [.pv (I 0)] [.pv a0]) ∧ catP 1 r0 (.list 1 [[a0]]) fun r1 =>
  call spec_Hash [.one r1] fun o2 =>
  rt [.sc] [(atP o2 0)] k
 | _, _ => False
abbrev spec_KeyedHash_e : Ent := ⟨[236], spec_KeyedHash⟩
theorem spec_KeyedHash_w : EntOK Tryz.prog TT spec_KeyedHash_e := ent_ok tabok (L := [spec_Hash_e]) ⟨spec_Hash_w, trivial⟩ (keep := []) (l := []) Tryz.func236 (by kernel_rfl) (sg := [.one (.sc)]) (by kernel_rfl) trivial fun av k h => by
  unfold spec_KeyedHash at h; split at h
  · exact Eq.mpr (by kernel_rfl) h
  · exact h.elim

def spec_TagOf : GM
 | [.one a0, .one a1], k => 
  (1 = 1) ∧ (1 ≤ 16777216) ∧ (1 = 1) ∧ (0 = 0) ∧ (1 = 1) ∧ (flatCond [.pv (I 0)] [.pv (I 223)]) ∧ (flatRows a1) ∧ catP 1 (.list 1 [[(I 223)]]) a1 fun r0 =>
  call spec_KeyedHash [.one a0, .one r0] fun o1 =>
  rt [.sc] [(atP o1 0)] k
 | _, _ => False
abbrev spec_TagOf_e : Ent := ⟨[227], spec_TagOf⟩
theorem spec_TagOf_w : EntOK Tryz.prog TT spec_TagOf_e := ent_ok tabok (L := [spec_KeyedHash_e]) ⟨spec_KeyedHash_w, trivial⟩ (keep := []) (l := []) Tryz.func227 (by kernel_rfl) (sg := [.one (.sc)]) (by kernel_rfl) trivial fun av k h => by
  unfold spec_TagOf at h; split at h
  · exact Eq.mpr (by kernel_rfl) h
  · exact h.elim

def spec_IsSigBy : GM
 | [.agg u0, .one a2], k => un 2 (fun a0 a1 => 
  call spec_l1In [.one a0, .one (I 1), .one (I 99)] fun o0 =>
  iteP (atP o0 0)
   (call spec_TagOf [.one a0, .one a2] fun o1 =>
   binP .eql a1 (atP o1 0) fun r2 =>
   rt [.sc] [r2] k)
   (rt [.sc] [(.bool false)] k)) u0
 | _, _ => False
abbrev spec_IsSigBy_e : Ent := ⟨[212], spec_IsSigBy⟩
theorem spec_IsSigBy_w : EntOK Tryz.prog TT spec_IsSigBy_e := ent_ok tabok (L := [spec_l1In_e, spec_TagOf_e]) ⟨spec_l1In_w, spec_TagOf_w, trivial⟩ (keep := []) (l := []) Tryz.func212 (by kernel_rfl) (sg := [.one (.sc)]) (by kernel_rfl) trivial fun av k h => by
  unfold spec_IsSigBy at h; split at h
  · apply un_all h; clear h; intro a0 a1 h; exact Eq.mpr (by kernel_rfl) h
  · exact h.elim

def spec_CountSigs_r1 (v : List PV) (K : List PV → Prop) (x0k : PV → PV → PV → PV → PV → PV → PV → PV → PV → PV → PV → Prop) (x1k : PV → PV → PV → PV → PV → PV → PV → PV → Prop) : Prop :=
 un 8 (fun v0 v1 v2 v3 v4 v5 v6 v7 =>
  lenP v1 fun r0 =>
  binP .lss v5 r0 fun r1 =>
  iteP r1
   (elemP 2 v1 v5 fun c2 =>
   elemP 1 v6 v4 fun c3 =>
   binP .eql (atP c2 0) (atP c3 0) fun r4 =>
   iteP r4
    (elemP 2 v1 v5 fun c5 =>
    call spec_IsSigBy [.agg [(atP c5 0), (atP c5 1)], .one v0] fun o6 =>
    iteP (atP o6 0)
     (binP .add v3 (I 1) fun r7 =>
     x0k v0 v1 v2 r7 v4 v5 (atP c5 0) (atP c5 1) (atP o6 0) v6 v7)
     (binP .add v5 (I 1) fun r8 =>
     K [v0, v1, v2, v3, v4, r8, v6, v7]))
    (binP .add v5 (I 1) fun r9 =>
    K [v0, v1, v2, v3, v4, r9, v6, v7]))
   (x1k v0 v1 v2 v3 v4 v5 v6 v7)) v
def spec_CountSigs_r0 (v : List PV) (K : List PV → Prop) (x0k : PV → PV → PV → PV → PV → PV → PV → Prop) : Prop :=
 un 7 (fun v0 v1 v2 v3 v4 v5 v6 =>
  lenP v5 fun r0 =>
  binP .lss v4 r0 fun r1 =>
  iteP r1
   (lp (fun L w => spec_CountSigs_r1 w L
    (fun q10 q11 q12 q13 q14 q15 q16 q17 q18 q19 q20 => binP .add q14 (I 1) fun r21 =>
     K [q10, q11, q12, q13, r21, q19, q20])
    (fun q22 q23 q24 q25 q26 q27 q28 q29 => binP .add q26 (I 1) fun r30 =>
     K [q22, q23, q24, q25, r30, q28, q29])) [v0, v1, v2, v3, v4, (I 0), v5, v6])
   (x0k v0 v1 v2 v3 v4 v5 v6)) v
def spec_CountSigs : GM
 | [.agg u0, .one a2, .one a3], k => un 2 (fun a0 a1 => 
  lp (fun L w => spec_CountSigs_r0 w L
   (fun q31 q32 q33 q34 q35 q36 q37 => rt [.sc] [q34] k)) [a2, a3, (I 0), (I 0), (I 0), a0, a1]) u0
 | _, _ => False
abbrev spec_CountSigs_e : Ent := ⟨[187], spec_CountSigs⟩
def spec_CountSigs_l : List LE := [⟨1, ⟨[(1, .one (.pv (.bool false))), (2, .one (.pv (.bool false))), (3, .one (.ptr 0 0)), (6, .one (.pv (.bool false))), (7, .one (.pv (.bool false))), (8, .one (.pv (.bool false))), (9, .one (.pv (.bool false)))], [(0, [.pv (.bool false), .pv (.bool false)])], [], 1, 45⟩, fun K k v => spec_CountSigs_r1 v K (fun x0 x1 x2 x3 x4 x5 x6 x7 x8 x9 x10 => k (.exit 2) ⟨[(1, .one (.pv x0)), (2, .one (.pv x1)), (3, .one (.ptr 0 0)), (6, .one (.pv x2)), (7, .one (.pv x3)), (8, .one (.pv x4)), (9, .one (.pv x5)), (35, .one (.pv x1)), (36, .one (.pv x5)), (37, .one (.sptr [x6, x7])), (38, .agg [.pv x6, .pv x7]), (39, .one (.pv x0)), (40, .one (.pv x8))], [(0, [.pv x9, .pv x10])], [], 2, 45⟩) (fun x0 x1 x2 x3 x4 x5 x6 x7 => k (.exit 2) ⟨[(1, .one (.pv x0)), (2, .one (.pv x1)), (3, .one (.ptr 0 0)), (6, .one (.pv x2)), (7, .one (.pv x3)), (8, .one (.pv x4)), (9, .one (.pv x5))], [(0, [.pv x6, .pv x7])], [], 1, 45⟩)⟩,
  ⟨0, ⟨[(1, .one (.pv (.bool false))), (2, .one (.pv (.bool false))), (3, .one (.ptr 0 0)), (6, .one (.pv (.bool false))), (7, .one (.pv (.bool false))), (8, .one (.pv (.bool false)))], [(0, [.pv (.bool false), .pv (.bool false)])], [], 1, 45⟩, fun K k v => spec_CountSigs_r0 v K (fun x0 x1 x2 x3 x4 x5 x6 => k (.exit 0) ⟨[(1, .one (.pv x0)), (2, .one (.pv x1)), (3, .one (.ptr 0 0)), (6, .one (.pv x2)), (7, .one (.pv x3)), (8, .one (.pv x4))], [(0, [.pv x5, .pv x6])], [], 1, 45⟩)⟩]
theorem spec_CountSigs_s : LEsOK (orac [spec_IsSigBy_e]) TT (kk [1, 2, 3, 6, 7, 8, 9, 35, 36, 37, 38, 39, 40]) (sumsOf spec_CountSigs_l) Tryz.f187 spec_CountSigs_l := ⟨fun v K k h => by
  apply un_all h; exact fun v0 v1 v2 v3 v4 v5 v6 v7 h => Eq.mpr (by kernel_rfl) h
  , fun v K k h => by
  apply un_all h; exact fun v0 v1 v2 v3 v4 v5 v6 h => Eq.mpr (by kernel_rfl) h
  , trivial⟩
theorem spec_CountSigs_w : EntOK Tryz.prog TT spec_CountSigs_e := ent_ok tabok (L := [spec_IsSigBy_e]) ⟨spec_IsSigBy_w, trivial⟩ (keep := (kk [1, 2, 3, 6, 7, 8, 9, 35, 36, 37, 38, 39, 40])) (l := spec_CountSigs_l) Tryz.func187 (by kernel_rfl) (sg := [.one (.sc)]) (by kernel_rfl) spec_CountSigs_s fun av k h => by
  unfold spec_CountSigs at h; split at h
  · apply un_all h; clear h; intro a0 a1 h; exact Eq.mpr (by kernel_rfl) h
  · exact h.elim

def spec_IsSigned : GM
 | [.agg u0, .one a2, .one a3], k => un 2 (fun a0 a1 => 
  call spec_IsKeys [.agg [a0, a1]] fun o0 =>
  iteP (atP o0 0)
   (call spec_CountSigs [.agg [a0, a1], .one a2, .one a3] fun o1 =>
   binP .geq (atP o1 0) a1 fun r2 =>
   rt [.sc] [r2] k)
   (rt [.sc] [(.bool false)] k)) u0
 | _, _ => False
abbrev spec_IsSigned_e : Ent := ⟨[164], spec_IsSigned⟩
theorem spec_IsSigned_w : EntOK Tryz.prog TT spec_IsSigned_e := ent_ok tabok (L := [spec_IsKeys_e, spec_CountSigs_e]) ⟨spec_IsKeys_w, spec_CountSigs_w, trivial⟩ (keep := []) (l := []) Tryz.func164 (by kernel_rfl) (sg := [.one (.sc)]) (by kernel_rfl) trivial fun av k h => by
  unfold spec_IsSigned at h; split at h
  · apply un_all h; clear h; intro a0 a1 h; exact Eq.mpr (by kernel_rfl) h
  · exact h.elim

def spec_IsFirst : GM
 | [.agg u0], k => un 17 (fun a0 a1 a2 a3 a4 a5 a6 a7 a8 a9 a10 a11 a12 a13 a14 a15 a16 => 
  call spec_IsHead [.agg [a0, a1, a2, a3, a4, a5, a6, a7, a8, a9, a10, a11, a12, a13, a14, a15]] fun o0 =>
  iteP (atP o0 0)
   (binP .eql a1 (I 0) fun r1 =>
   iteP r1
    (binP .eql a2 (I 1) fun r2 =>
    iteP r2
     (unP .not a15 fun r3 =>
     iteP r3
      (call spec_ZoneOf [.agg [a8, a9], .one a7] fun o4 =>
      binP .eql a0 (atP o4 0) fun r5 =>
      iteP r5
       (call spec_HeadInts [.agg [a0, a1, a2, a3, a4, a5, a6, a7, a8, a9, a10, a11, a12, a13, a14, a15]] fun o6 =>
       call spec_IsSigned [.agg [a8, a9], .one (atP o6 0), .one a16] fun o7 =>
       rt [.sc] [(atP o7 0)] k)
       (rt [.sc] [(.bool false)] k))
      (rt [.sc] [(.bool false)] k))
     (rt [.sc] [(.bool false)] k))
    (rt [.sc] [(.bool false)] k))
   (rt [.sc] [(.bool false)] k)) u0
 | _, _ => False
abbrev spec_IsFirst_e : Ent := ⟨[128], spec_IsFirst⟩
theorem spec_IsFirst_w : EntOK Tryz.prog TT spec_IsFirst_e := ent_ok tabok (L := [spec_IsHead_e, spec_ZoneOf_e, spec_HeadInts_e, spec_IsSigned_e]) ⟨spec_IsHead_w, spec_ZoneOf_w, spec_HeadInts_w, spec_IsSigned_w, trivial⟩ (keep := []) (l := []) Tryz.func128 (by kernel_rfl) (sg := [.one (.sc)]) (by kernel_rfl) trivial fun av k h => by
  unfold spec_IsFirst at h; split at h
  · apply un_all h; clear h; intro a0 a1 a2 a3 a4 a5 a6 a7 a8 a9 a10 a11 a12 a13 a14 a15 a16 h; exact Eq.mpr (by kernel_rfl) h
  · exact h.elim

def spec_HeadDigest : GM
 | [.agg u0], k => un 16 (fun a0 a1 a2 a3 a4 a5 a6 a7 a8 a9 a10 a11 a12 a13 a14 a15 => 
  (1 = 1) ∧ (1 ≤ 16777216) ∧ (1 = 1) ∧ (0 = 0) ∧ (1 = 1) ∧ (flatCond [.pv (I 0)] [.pv (I 233)]) ∧ call spec_HeadInts [.agg [a0, a1, a2, a3, a4, a5, a6, a7, a8, a9, a10, a11, a12, a13, a14, a15]] fun o0 =>
  catP 1 (.list 1 [[(I 233)]]) (atP o0 0) fun r1 =>
  call spec_Hash [.one r1] fun o2 =>
  rt [.sc] [(atP o2 0)] k) u0
 | _, _ => False
abbrev spec_HeadDigest_e : Ent := ⟨[188], spec_HeadDigest⟩
theorem spec_HeadDigest_w : EntOK Tryz.prog TT spec_HeadDigest_e := ent_ok tabok (L := [spec_HeadInts_e, spec_Hash_e]) ⟨spec_HeadInts_w, spec_Hash_w, trivial⟩ (keep := []) (l := []) Tryz.func188 (by kernel_rfl) (sg := [.one (.sc)]) (by kernel_rfl) trivial fun av k h => by
  unfold spec_HeadDigest at h; split at h
  · apply un_all h; clear h; intro a0 a1 a2 a3 a4 a5 a6 a7 a8 a9 a10 a11 a12 a13 a14 a15 h; exact Eq.mpr (by kernel_rfl) h
  · exact h.elim

def spec_l15Owner : GM
 | [.agg u0, .agg u1], k => un 16 (fun a0 a1 a2 a3 a4 a5 a6 a7 a8 a9 a10 a11 a12 a13 a14 a15 => un 16 (fun a16 a17 a18 a19 a20 a21 a22 a23 a24 a25 a26 a27 a28 a29 a30 a31 => 
  iteP a15
   (rt [.sc] [(I 4)] k)
   (iteP a31
    (rt [.sc] [(I 6)] k)
    (rt [.sc] [(I 1)] k))) u1) u0
 | _, _ => False
abbrev spec_l15Owner_e : Ent := ⟨[189], spec_l15Owner⟩
theorem spec_l15Owner_w : EntOK Tryz.prog TT spec_l15Owner_e := ent_ok tabok (L := []) trivial (keep := []) (l := []) Tryz.func189 (by kernel_rfl) (sg := [.one (.sc)]) (by kernel_rfl) trivial fun av k h => by
  unfold spec_l15Owner at h; split at h
  · apply un_all h; clear h; intro a0 a1 a2 a3 a4 a5 a6 a7 a8 a9 a10 a11 a12 a13 a14 a15 h; apply un_all h; clear h; intro a16 a17 a18 a19 a20 a21 a22 a23 a24 a25 a26 a27 a28 a29 a30 a31 h; exact Eq.mpr (by kernel_rfl) h
  · exact h.elim

def spec_EqualInts_r0 (v : List PV) (K : List PV → Prop) (x0k : Prop) (x1k : PV → PV → PV → PV → Prop) : Prop :=
 un 4 (fun v0 v1 v2 v3 =>
  lenP v0 fun r0 =>
  binP .lss v3 r0 fun r1 =>
  iteP r1
   (elemP 1 v0 v3 fun c2 =>
   elemP 1 v1 v3 fun c3 =>
   binP .neq (atP c2 0) (atP c3 0) fun r4 =>
   iteP r4
    (x0k)
    (binP .add v3 (I 1) fun r5 =>
    K [v0, v1, v2, r5]))
   (x1k v0 v1 v2 v3)) v
def spec_EqualInts : GM
 | [.one a0, .one a1], k => 
  lenP a0 fun r0 =>
  lenP a1 fun r1 =>
  binP .neq r0 r1 fun r2 =>
  iteP r2
   (rt [.sc] [(.bool false)] k)
   (lp (fun L w => spec_EqualInts_r0 w L
    (rt [.sc] [(.bool false)] k)
    (fun q6 q7 q8 q9 => rt [.sc] [(.bool true)] k)) [a0, a1, (.bool false), (I 0)])
 | _, _ => False
abbrev spec_EqualInts_e : Ent := ⟨[228], spec_EqualInts⟩
def spec_EqualInts_l : List LE := [⟨0, ⟨[(0, .one (.pv (.bool false))), (1, .one (.pv (.bool false))), (4, .one (.pv (.bool false))), (5, .one (.pv (.bool false)))], [], [], 0, 26⟩, fun K k v => spec_EqualInts_r0 v K (k .ret ⟨[(4, .one (.kb false))], [], [], 0, 26⟩) (fun x0 x1 x2 x3 => k (.exit 0) ⟨[(0, .one (.pv x0)), (1, .one (.pv x1)), (4, .one (.pv x2)), (5, .one (.pv x3))], [], [], 0, 26⟩)⟩]
theorem spec_EqualInts_s : LEsOK (orac []) TT (kk [0, 1, 4, 5]) (sumsOf spec_EqualInts_l) Tryz.f228 spec_EqualInts_l := ⟨fun v K k h => by
  apply un_all h; exact fun v0 v1 v2 v3 h => Eq.mpr (by kernel_rfl) h
  , trivial⟩
theorem spec_EqualInts_w : EntOK Tryz.prog TT spec_EqualInts_e := ent_ok tabok (L := []) trivial (keep := (kk [0, 1, 4, 5])) (l := spec_EqualInts_l) Tryz.func228 (by kernel_rfl) (sg := [.one (.sc)]) (by kernel_rfl) spec_EqualInts_s fun av k h => by
  unfold spec_EqualInts at h; split at h
  · exact Eq.mpr (by kernel_rfl) h
  · exact h.elim

def spec_EqualKeys : GM
 | [.agg u0, .agg u1], k => un 2 (fun a0 a1 => un 2 (fun a2 a3 => 
  binP .eql a1 a3 fun r0 =>
  iteP r0
   (call spec_EqualInts [.one a0, .one a2] fun o1 =>
   rt [.sc] [(atP o1 0)] k)
   (rt [.sc] [(.bool false)] k)) u1) u0
 | _, _ => False
abbrev spec_EqualKeys_e : Ent := ⟨[213], spec_EqualKeys⟩
theorem spec_EqualKeys_w : EntOK Tryz.prog TT spec_EqualKeys_e := ent_ok tabok (L := [spec_EqualInts_e]) ⟨spec_EqualInts_w, trivial⟩ (keep := []) (l := []) Tryz.func213 (by kernel_rfl) (sg := [.one (.sc)]) (by kernel_rfl) trivial fun av k h => by
  unfold spec_EqualKeys at h; split at h
  · apply un_all h; clear h; intro a0 a1 h; apply un_all h; clear h; intro a2 a3 h; exact Eq.mpr (by kernel_rfl) h
  · exact h.elim

def spec_SameContents : GM
 | [.agg u0, .agg u1], k => un 16 (fun a0 a1 a2 a3 a4 a5 a6 a7 a8 a9 a10 a11 a12 a13 a14 a15 => un 16 (fun a16 a17 a18 a19 a20 a21 a22 a23 a24 a25 a26 a27 a28 a29 a30 a31 => 
  binP .eql a5 a21 fun r0 =>
  iteP r0
   (binP .eql a6 a22 fun r1 =>
   rt [.sc] [r1] k)
   (rt [.sc] [(.bool false)] k)) u1) u0
 | _, _ => False
abbrev spec_SameContents_e : Ent := ⟨[214], spec_SameContents⟩
theorem spec_SameContents_w : EntOK Tryz.prog TT spec_SameContents_e := ent_ok tabok (L := []) trivial (keep := []) (l := []) Tryz.func214 (by kernel_rfl) (sg := [.one (.sc)]) (by kernel_rfl) trivial fun av k h => by
  unfold spec_SameContents at h; split at h
  · apply un_all h; clear h; intro a0 a1 a2 a3 a4 a5 a6 a7 a8 a9 a10 a11 a12 a13 a14 a15 h; apply un_all h; clear h; intro a16 a17 a18 a19 a20 a21 a22 a23 a24 a25 a26 a27 a28 a29 a30 a31 h; exact Eq.mpr (by kernel_rfl) h
  · exact h.elim

def spec_l15Heir : GM
 | [.agg u0, .agg u1], k => un 16 (fun a0 a1 a2 a3 a4 a5 a6 a7 a8 a9 a10 a11 a12 a13 a14 a15 => un 16 (fun a16 a17 a18 a19 a20 a21 a22 a23 a24 a25 a26 a27 a28 a29 a30 a31 => 
  iteP a15
   (rt [.sc] [(I 4)] k)
   (call spec_NoKeys [.agg [a10, a11]] fun o0 =>
   iteP (atP o0 0)
    (rt [.sc] [(I 5)] k)
    (binP .add a4 a12 fun r1 =>
    binP .lss a19 r1 fun r2 =>
    iteP r2
     (rt [.sc] [(I 5)] k)
     (iteP a31
      (rt [.sc] [(I 6)] k)
      (call spec_EqualKeys [.agg [a24, a25], .agg [a10, a11]] fun o3 =>
      unP .not (atP o3 0) fun r4 =>
      iteP r4
       (rt [.sc] [(I 6)] k)
       (call spec_SameContents [.agg [a16, a17, a18, a19, a20, a21, a22, a23, a24, a25, a26, a27, a28, a29, a30, a31], .agg [a0, a1, a2, a3, a4, a5, a6, a7, a8, a9, a10, a11, a12, a13, a14, a15]] fun o5 =>
       unP .not (atP o5 0) fun r6 =>
       iteP r6
        (rt [.sc] [(I 6)] k)
        (rt [.sc] [(I 1)] k))))))) u1) u0
 | _, _ => False
abbrev spec_l15Heir_e : Ent := ⟨[190], spec_l15Heir⟩
theorem spec_l15Heir_w : EntOK Tryz.prog TT spec_l15Heir_e := ent_ok tabok (L := [spec_NoKeys_e, spec_EqualKeys_e, spec_SameContents_e]) ⟨spec_NoKeys_w, spec_EqualKeys_w, spec_SameContents_w, trivial⟩ (keep := []) (l := []) Tryz.func190 (by kernel_rfl) (sg := [.one (.sc)]) (by kernel_rfl) trivial fun av k h => by
  unfold spec_l15Heir at h; split at h
  · apply un_all h; clear h; intro a0 a1 a2 a3 a4 a5 a6 a7 a8 a9 a10 a11 a12 a13 a14 a15 h; apply un_all h; clear h; intro a16 a17 a18 a19 a20 a21 a22 a23 a24 a25 a26 a27 a28 a29 a30 a31 h; exact Eq.mpr (by kernel_rfl) h
  · exact h.elim

def spec_l15Judge : GM
 | [.agg u0, .agg u1], k => un 16 (fun a0 a1 a2 a3 a4 a5 a6 a7 a8 a9 a10 a11 a12 a13 a14 a15 => un 16 (fun a16 a17 a18 a19 a20 a21 a22 a23 a24 a25 a26 a27 a28 a29 a30 a31 => 
  call spec_NoKeys [.agg [a13, a14]] fun o0 =>
  iteP (atP o0 0)
   (rt [.sc] [(I 5)] k)
   (boolP .eql a31 a15 fun r1 =>
   iteP r1
    (rt [.sc] [(I 6)] k)
    (call spec_SameContents [.agg [a16, a17, a18, a19, a20, a21, a22, a23, a24, a25, a26, a27, a28, a29, a30, a31], .agg [a0, a1, a2, a3, a4, a5, a6, a7, a8, a9, a10, a11, a12, a13, a14, a15]] fun o2 =>
    unP .not (atP o2 0) fun r3 =>
    iteP r3
     (rt [.sc] [(I 6)] k)
     (call spec_EqualKeys [.agg [a29, a30], .agg [a13, a14]] fun o4 =>
     unP .not (atP o4 0) fun r5 =>
     iteP r5
      (rt [.sc] [(I 6)] k)
      (call spec_EqualKeys [.agg [a26, a27], .agg [a10, a11]] fun o6 =>
      unP .not (atP o6 0) fun r7 =>
      iteP r7
       (rt [.sc] [(I 6)] k)
       (binP .neq a28 a12 fun r8 =>
       iteP r8
        (rt [.sc] [(I 6)] k)
        (iteP a31
         (call spec_EqualKeys [.agg [a24, a25], .agg [a8, a9]] fun o9 =>
         unP .not (atP o9 0) fun r10 =>
         iteP r10
          (rt [.sc] [(I 6)] k)
          (rt [.sc] [(I 1)] k))
         (rt [.sc] [(I 1)] k)))))))) u1) u0
 | _, _ => False
abbrev spec_l15Judge_e : Ent := ⟨[191], spec_l15Judge⟩
theorem spec_l15Judge_w : EntOK Tryz.prog TT spec_l15Judge_e := ent_ok tabok (L := [spec_NoKeys_e, spec_SameContents_e, spec_EqualKeys_e]) ⟨spec_NoKeys_w, spec_SameContents_w, spec_EqualKeys_w, trivial⟩ (keep := []) (l := []) Tryz.func191 (by kernel_rfl) (sg := [.one (.sc)]) (by kernel_rfl) trivial fun av k h => by
  unfold spec_l15Judge at h; split at h
  · apply un_all h; clear h; intro a0 a1 a2 a3 a4 a5 a6 a7 a8 a9 a10 a11 a12 a13 a14 a15 h; apply un_all h; clear h; intro a16 a17 a18 a19 a20 a21 a22 a23 a24 a25 a26 a27 a28 a29 a30 a31 h; exact Eq.mpr (by kernel_rfl) h
  · exact h.elim

def spec_NextCode : GM
 | [.agg u0, .agg u1], k => un 16 (fun a0 a1 a2 a3 a4 a5 a6 a7 a8 a9 a10 a11 a12 a13 a14 a15 => un 17 (fun a16 a17 a18 a19 a20 a21 a22 a23 a24 a25 a26 a27 a28 a29 a30 a31 a32 => 
  call spec_IsHead [.agg [a0, a1, a2, a3, a4, a5, a6, a7, a8, a9, a10, a11, a12, a13, a14, a15]] fun o0 =>
  unP .not (atP o0 0) fun r1 =>
  iteP r1
   (rt [.sc] [(I 2)] k)
   (call spec_IsHead [.agg [a16, a17, a18, a19, a20, a21, a22, a23, a24, a25, a26, a27, a28, a29, a30, a31]] fun o2 =>
   unP .not (atP o2 0) fun r3 =>
   iteP r3
    (rt [.sc] [(I 2)] k)
    (binP .neq a16 a0 fun r4 =>
    iteP r4
     (rt [.sc] [(I 3)] k)
     (binP .add a1 (I 1) fun r5 =>
     binP .neq a17 r5 fun r6 =>
     iteP r6
      (rt [.sc] [(I 3)] k)
      (call spec_HeadDigest [.agg [a0, a1, a2, a3, a4, a5, a6, a7, a8, a9, a10, a11, a12, a13, a14, a15]] fun o7 =>
      binP .neq a23 (atP o7 0) fun r8 =>
      iteP r8
       (rt [.sc] [(I 3)] k)
       (binP .lss a19 a3 fun r9 =>
       iteP r9
        (rt [.sc] [(I 3)] k)
        (call spec_l15Owner [.agg [a0, a1, a2, a3, a4, a5, a6, a7, a8, a9, a10, a11, a12, a13, a14, a15], .agg [a16, a17, a18, a19, a20, a21, a22, a23, a24, a25, a26, a27, a28, a29, a30, a31]] fun o10 =>
        binP .eql a18 (I 2) fun r11 =>
        iteP r11
         (call spec_l15Heir [.agg [a0, a1, a2, a3, a4, a5, a6, a7, a8, a9, a10, a11, a12, a13, a14, a15], .agg [a16, a17, a18, a19, a20, a21, a22, a23, a24, a25, a26, a27, a28, a29, a30, a31]] fun o12 =>
         binP .eql (atP o12 0) (I 1) fun r13 =>
         iteP r13
          (call spec_HeadInts [.agg [a16, a17, a18, a19, a20, a21, a22, a23, a24, a25, a26, a27, a28, a29, a30, a31]] fun o14 =>
          call spec_IsSigned [.agg [a10, a11], .one (atP o14 0), .one a32] fun o15 =>
          unP .not (atP o15 0) fun r16 =>
          iteP r16
           (rt [.sc] [(I 7)] k)
           (rt [.sc] [(atP o12 0)] k))
          (rt [.sc] [(atP o12 0)] k))
         (binP .eql a18 (I 3) fun r17 =>
         iteP r17
          (call spec_l15Judge [.agg [a0, a1, a2, a3, a4, a5, a6, a7, a8, a9, a10, a11, a12, a13, a14, a15], .agg [a16, a17, a18, a19, a20, a21, a22, a23, a24, a25, a26, a27, a28, a29, a30, a31]] fun o18 =>
          binP .eql (atP o18 0) (I 1) fun r19 =>
          iteP r19
           (call spec_HeadInts [.agg [a16, a17, a18, a19, a20, a21, a22, a23, a24, a25, a26, a27, a28, a29, a30, a31]] fun o20 =>
           call spec_IsSigned [.agg [a13, a14], .one (atP o20 0), .one a32] fun o21 =>
           unP .not (atP o21 0) fun r22 =>
           iteP r22
            (rt [.sc] [(I 7)] k)
            (rt [.sc] [(atP o18 0)] k))
           (rt [.sc] [(atP o18 0)] k))
          (binP .eql (atP o10 0) (I 1) fun r23 =>
          iteP r23
           (call spec_HeadInts [.agg [a16, a17, a18, a19, a20, a21, a22, a23, a24, a25, a26, a27, a28, a29, a30, a31]] fun o24 =>
           call spec_IsSigned [.agg [a8, a9], .one (atP o24 0), .one a32] fun o25 =>
           unP .not (atP o25 0) fun r26 =>
           iteP r26
            (rt [.sc] [(I 7)] k)
            (rt [.sc] [(atP o10 0)] k))
           (rt [.sc] [(atP o10 0)] k)))))))))) u1) u0
 | _, _ => False
abbrev spec_NextCode_e : Ent := ⟨[166], spec_NextCode⟩
theorem spec_NextCode_w : EntOK Tryz.prog TT spec_NextCode_e := ent_ok tabok (L := [spec_IsHead_e, spec_HeadDigest_e, spec_l15Owner_e, spec_l15Heir_e, spec_HeadInts_e, spec_IsSigned_e, spec_l15Judge_e]) ⟨spec_IsHead_w, spec_HeadDigest_w, spec_l15Owner_w, spec_l15Heir_w, spec_HeadInts_w, spec_IsSigned_w, spec_l15Judge_w, trivial⟩ (keep := []) (l := []) Tryz.func166 (by kernel_rfl) (sg := [.one (.sc)]) (by kernel_rfl) trivial fun av k h => by
  unfold spec_NextCode at h; split at h
  · apply un_all h; clear h; intro a0 a1 a2 a3 a4 a5 a6 a7 a8 a9 a10 a11 a12 a13 a14 a15 h; apply un_all h; clear h; intro a16 a17 a18 a19 a20 a21 a22 a23 a24 a25 a26 a27 a28 a29 a30 a31 a32 h; exact Eq.mpr (by kernel_rfl) h
  · exact h.elim

def spec_MayFollow : GM
 | [.agg u0, .agg u1], k => un 16 (fun a0 a1 a2 a3 a4 a5 a6 a7 a8 a9 a10 a11 a12 a13 a14 a15 => un 17 (fun a16 a17 a18 a19 a20 a21 a22 a23 a24 a25 a26 a27 a28 a29 a30 a31 a32 => 
  call spec_NextCode [.agg [a0, a1, a2, a3, a4, a5, a6, a7, a8, a9, a10, a11, a12, a13, a14, a15], .agg [a16, a17, a18, a19, a20, a21, a22, a23, a24, a25, a26, a27, a28, a29, a30, a31, a32]] fun o0 =>
  binP .eql (atP o0 0) (I 1) fun r1 =>
  rt [.sc] [r1] k) u1) u0
 | _, _ => False
abbrev spec_MayFollow_e : Ent := ⟨[129], spec_MayFollow⟩
theorem spec_MayFollow_w : EntOK Tryz.prog TT spec_MayFollow_e := ent_ok tabok (L := [spec_NextCode_e]) ⟨spec_NextCode_w, trivial⟩ (keep := []) (l := []) Tryz.func129 (by kernel_rfl) (sg := [.one (.sc)]) (by kernel_rfl) trivial fun av k h => by
  unfold spec_MayFollow at h; split at h
  · apply un_all h; clear h; intro a0 a1 a2 a3 a4 a5 a6 a7 a8 a9 a10 a11 a12 a13 a14 a15 h; apply un_all h; clear h; intro a16 a17 a18 a19 a20 a21 a22 a23 a24 a25 a26 a27 a28 a29 a30 a31 a32 h; exact Eq.mpr (by kernel_rfl) h
  · exact h.elim

def spec_FirstWrong_r0 (v : List PV) (K : List PV → Prop) (x0k : PV → Prop) (x1k : PV → Prop) (x2k : PV → PV → PV → Prop) : Prop :=
 un 3 (fun v0 v1 v2 =>
  lenP v0 fun r0 =>
  binP .lss v2 r0 fun r1 =>
  iteP r1
   (binP .eql v2 (I 0) fun r2 =>
   iteP r2
    (elemP 17 v0 (I 0) fun c3 =>
    call spec_IsFirst [.agg [(atP c3 0), (atP c3 1), (atP c3 2), (atP c3 3), (atP c3 4), (atP c3 5), (atP c3 6), (atP c3 7), (atP c3 8), (atP c3 9), (atP c3 10), (atP c3 11), (atP c3 12), (atP c3 13), (atP c3 14), (atP c3 15), (atP c3 16)]] fun o4 =>
    unP .not (atP o4 0) fun r5 =>
    iteP r5
     (x0k v2)
     (binP .gtr v2 (I 0) fun r6 =>
     iteP r6
      (binP .sub v2 (I 1) fun r7 =>
      elemP 17 v0 r7 fun c8 =>
      elemP 17 v0 v2 fun c9 =>
      call spec_MayFollow [.agg [(atP c8 0), (atP c8 1), (atP c8 2), (atP c8 3), (atP c8 4), (atP c8 5), (atP c8 6), (atP c8 7), (atP c8 8), (atP c8 9), (atP c8 10), (atP c8 11), (atP c8 12), (atP c8 13), (atP c8 14), (atP c8 15)], .agg [(atP c9 0), (atP c9 1), (atP c9 2), (atP c9 3), (atP c9 4), (atP c9 5), (atP c9 6), (atP c9 7), (atP c9 8), (atP c9 9), (atP c9 10), (atP c9 11), (atP c9 12), (atP c9 13), (atP c9 14), (atP c9 15), (atP c9 16)]] fun o10 =>
      unP .not (atP o10 0) fun r11 =>
      iteP r11
       (x1k v2)
       (binP .add v2 (I 1) fun r12 =>
       K [v0, v1, r12]))
      (binP .add v2 (I 1) fun r13 =>
      K [v0, v1, r13])))
    (binP .gtr v2 (I 0) fun r14 =>
    iteP r14
     (binP .sub v2 (I 1) fun r15 =>
     elemP 17 v0 r15 fun c16 =>
     elemP 17 v0 v2 fun c17 =>
     call spec_MayFollow [.agg [(atP c16 0), (atP c16 1), (atP c16 2), (atP c16 3), (atP c16 4), (atP c16 5), (atP c16 6), (atP c16 7), (atP c16 8), (atP c16 9), (atP c16 10), (atP c16 11), (atP c16 12), (atP c16 13), (atP c16 14), (atP c16 15)], .agg [(atP c17 0), (atP c17 1), (atP c17 2), (atP c17 3), (atP c17 4), (atP c17 5), (atP c17 6), (atP c17 7), (atP c17 8), (atP c17 9), (atP c17 10), (atP c17 11), (atP c17 12), (atP c17 13), (atP c17 14), (atP c17 15), (atP c17 16)]] fun o18 =>
     unP .not (atP o18 0) fun r19 =>
     iteP r19
      (x0k v2)
      (binP .add v2 (I 1) fun r20 =>
      K [v0, v1, r20]))
     (binP .add v2 (I 1) fun r21 =>
     K [v0, v1, r21])))
   (x2k v0 v1 v2)) v
def spec_FirstWrong : GM
 | [.one a0], k => 
  lp (fun L w => spec_FirstWrong_r0 w L
   (fun q22 => rt [.sc] [q22] k)
   (fun q23 => rt [.sc] [q23] k)
   (fun q24 q25 q26 => rt [.sc] [(I (-1))] k)) [a0, (I 0), (I 0)]
 | _, _ => False
abbrev spec_FirstWrong_e : Ent := ⟨[103], spec_FirstWrong⟩
def spec_FirstWrong_l : List LE := [⟨0, ⟨[(0, .one (.pv (.bool false))), (2, .one (.pv (.bool false))), (3, .one (.pv (.bool false)))], [], [], 0, 38⟩, fun K k v => spec_FirstWrong_r0 v K (fun x0 => k .ret ⟨[(2, .one (.pv x0))], [], [], 1, 38⟩) (fun x0 => k .ret ⟨[(2, .one (.pv x0))], [], [], 2, 38⟩) (fun x0 x1 x2 => k (.exit 0) ⟨[(0, .one (.pv x0)), (2, .one (.pv x1)), (3, .one (.pv x2))], [], [], 0, 38⟩)⟩]
theorem spec_FirstWrong_s : LEsOK (orac [spec_IsFirst_e, spec_MayFollow_e]) TT (kk [0, 2, 3, 13, 14, 15, 16, 17, 20, 21, 22, 23, 24, 25, 26, 27, 28, 29, 30, 31, 32, 33, 34, 35]) (sumsOf spec_FirstWrong_l) Tryz.f103 spec_FirstWrong_l := ⟨fun v K k h => by
  apply un_all h; exact fun v0 v1 v2 h => Eq.mpr (by kernel_rfl) h
  , trivial⟩
theorem spec_FirstWrong_w : EntOK Tryz.prog TT spec_FirstWrong_e := ent_ok tabok (L := [spec_IsFirst_e, spec_MayFollow_e]) ⟨spec_IsFirst_w, spec_MayFollow_w, trivial⟩ (keep := (kk [0, 2, 3, 13, 14, 15, 16, 17, 20, 21, 22, 23, 24, 25, 26, 27, 28, 29, 30, 31, 32, 33, 34, 35])) (l := spec_FirstWrong_l) Tryz.func103 (by kernel_rfl) (sg := [.one (.sc)]) (by kernel_rfl) spec_FirstWrong_s fun av k h => by
  unfold spec_FirstWrong at h; split at h
  · exact Eq.mpr (by kernel_rfl) h
  · exact h.elim

def spec_IsChain : GM
 | [.one a0], k => 
  lenP a0 fun r0 =>
  call spec_l1In [.one r0, .one (I 1), .one (I 12)] fun o1 =>
  iteP (atP o1 0)
   (call spec_FirstWrong [.one a0] fun o2 =>
   binP .lss (atP o2 0) (I 0) fun r3 =>
   rt [.sc] [r3] k)
   (rt [.sc] [(.bool false)] k)
 | _, _ => False
abbrev spec_IsChain_e : Ent := ⟨[72], spec_IsChain⟩
theorem spec_IsChain_w : EntOK Tryz.prog TT spec_IsChain_e := ent_ok tabok (L := [spec_l1In_e, spec_FirstWrong_e]) ⟨spec_l1In_w, spec_FirstWrong_w, trivial⟩ (keep := []) (l := []) Tryz.func72 (by kernel_rfl) (sg := [.one (.sc)]) (by kernel_rfl) trivial fun av k h => by
  unfold spec_IsChain at h; split at h
  · exact Eq.mpr (by kernel_rfl) h
  · exact h.elim

def spec_l6Copy : GM
 | [.agg u0], k => un 2 (fun a0 a1 => 
  catP 1 a0 (.list 1 []) fun r0 =>
  rt [.pv, .sc] [r0, a1] k) u0
 | _, _ => False
abbrev spec_l6Copy_e : Ent := ⟨[104], spec_l6Copy⟩
theorem spec_l6Copy_w : EntOK Tryz.prog TT spec_l6Copy_e := ent_ok tabok (L := []) trivial (keep := []) (l := []) Tryz.func104 (by kernel_rfl) (sg := [.agg [.pv, .sc]]) (by kernel_rfl) trivial fun av k h => by
  unfold spec_l6Copy at h; split at h
  · apply un_all h; clear h; intro a0 a1 h; exact Eq.mpr (by kernel_rfl) h
  · exact h.elim

def spec_l13Copy : GM
 | [.agg u0], k => un 16 (fun a0 a1 a2 a3 a4 a5 a6 a7 a8 a9 a10 a11 a12 a13 a14 a15 => 
  call spec_l6Copy [.agg [a8, a9]] fun o0 =>
  call spec_l6Copy [.agg [a10, a11]] fun o1 =>
  call spec_l6Copy [.agg [a13, a14]] fun o2 =>
  rt [.sc, .sc, .sc, .sc, .sc, .sc, .sc, .sc, .pv, .sc, .pv, .sc, .sc, .pv, .sc, .sc] [a0, a1, a2, a3, a4, a5, a6, a7, (atP o0 0), (atP o0 1), (atP o1 0), (atP o1 1), a12, (atP o2 0), (atP o2 1), a15] k) u0
 | _, _ => False
abbrev spec_l13Copy_e : Ent := ⟨[73], spec_l13Copy⟩
theorem spec_l13Copy_w : EntOK Tryz.prog TT spec_l13Copy_e := ent_ok tabok (L := [spec_l6Copy_e]) ⟨spec_l6Copy_w, trivial⟩ (keep := []) (l := []) Tryz.func73 (by kernel_rfl) (sg := [.agg [.sc, .sc, .sc, .sc, .sc, .sc, .sc, .sc, .pv, .sc, .pv, .sc, .sc, .pv, .sc, .sc]]) (by kernel_rfl) trivial fun av k h => by
  unfold spec_l13Copy at h; split at h
  · apply un_all h; clear h; intro a0 a1 a2 a3 a4 a5 a6 a7 a8 a9 a10 a11 a12 a13 a14 a15 h; exact Eq.mpr (by kernel_rfl) h
  · exact h.elim

def spec_LastHead : GM
 | [.one a0], k => 
  call spec_IsChain [.one a0] fun o0 =>
  unP .not (atP o0 0) fun r1 =>
  iteP r1
   (rt [.sc, .sc, .sc, .sc, .sc, .sc, .sc, .sc, .pv, .sc, .pv, .sc, .sc, .pv, .sc, .sc, .sc] [(I 0), (I 0), (I 0), (I 0), (I 0), (I 0), (I 0), (I 0), (.list 1 []), (I 0), (.list 1 []), (I 0), (I 0), (.list 1 []), (I 0), (.bool false), (.bool false)] k)
   (lenP a0 fun r2 =>
   binP .sub r2 (I 1) fun r3 =>
   elemP 17 a0 r3 fun c4 =>
   call spec_l13Copy [.agg [(atP c4 0), (atP c4 1), (atP c4 2), (atP c4 3), (atP c4 4), (atP c4 5), (atP c4 6), (atP c4 7), (atP c4 8), (atP c4 9), (atP c4 10), (atP c4 11), (atP c4 12), (atP c4 13), (atP c4 14), (atP c4 15)]] fun o5 =>
   rt [.sc, .sc, .sc, .sc, .sc, .sc, .sc, .sc, .pv, .sc, .pv, .sc, .sc, .pv, .sc, .sc, .sc] [(atP o5 0), (atP o5 1), (atP o5 2), (atP o5 3), (atP o5 4), (atP o5 5), (atP o5 6), (atP o5 7), (atP o5 8), (atP o5 9), (atP o5 10), (atP o5 11), (atP o5 12), (atP o5 13), (atP o5 14), (atP o5 15), (.bool true)] k)
 | _, _ => False
abbrev spec_LastHead_e : Ent := ⟨[38], spec_LastHead⟩
theorem spec_LastHead_w : EntOK Tryz.prog TT spec_LastHead_e := ent_ok tabok (L := [spec_IsChain_e, spec_l13Copy_e]) ⟨spec_IsChain_w, spec_l13Copy_w, trivial⟩ (keep := []) (l := []) Tryz.func38 (by kernel_rfl) (sg := [.agg [.sc, .sc, .sc, .sc, .sc, .sc, .sc, .sc, .pv, .sc, .pv, .sc, .sc, .pv, .sc, .sc], .one (.sc)]) (by kernel_rfl) trivial fun av k h => by
  unfold spec_LastHead at h; split at h
  · exact Eq.mpr (by kernel_rfl) h
  · exact h.elim

def spec_IsLabel_r0 (v : List PV) (K : List PV → Prop) (x0k : Prop) (x1k : PV → PV → PV → Prop) : Prop :=
 un 3 (fun v0 v1 v2 =>
  lenS v0 fun r0 =>
  binP .lss v2 r0 fun r1 =>
  iteP r1
   (charP v0 v2 fun r2 =>
   binP .lss r2 (.int .u8 97) fun r3 =>
   iteP r3
    (charP v0 v2 fun r4 =>
    binP .lss r4 (.int .u8 48) fun r5 =>
    iteP r5
     (charP v0 v2 fun r6 =>
     binP .neq r6 (.int .u8 45) fun r7 =>
     iteP r7
      (x0k)
      (binP .add v2 (I 1) fun r8 =>
      K [v0, v1, r8]))
     (charP v0 v2 fun r9 =>
     binP .gtr r9 (.int .u8 57) fun r10 =>
     iteP r10
      (charP v0 v2 fun r11 =>
      binP .neq r11 (.int .u8 45) fun r12 =>
      iteP r12
       (x0k)
       (binP .add v2 (I 1) fun r13 =>
       K [v0, v1, r13]))
      (binP .add v2 (I 1) fun r14 =>
      K [v0, v1, r14])))
    (charP v0 v2 fun r15 =>
    binP .gtr r15 (.int .u8 122) fun r16 =>
    iteP r16
     (charP v0 v2 fun r17 =>
     binP .lss r17 (.int .u8 48) fun r18 =>
     iteP r18
      (charP v0 v2 fun r19 =>
      binP .neq r19 (.int .u8 45) fun r20 =>
      iteP r20
       (x0k)
       (binP .add v2 (I 1) fun r21 =>
       K [v0, v1, r21]))
      (charP v0 v2 fun r22 =>
      binP .gtr r22 (.int .u8 57) fun r23 =>
      iteP r23
       (charP v0 v2 fun r24 =>
       binP .neq r24 (.int .u8 45) fun r25 =>
       iteP r25
        (x0k)
        (binP .add v2 (I 1) fun r26 =>
        K [v0, v1, r26]))
       (binP .add v2 (I 1) fun r27 =>
       K [v0, v1, r27])))
     (binP .add v2 (I 1) fun r28 =>
     K [v0, v1, r28])))
   (x1k v0 v1 v2)) v
def spec_IsLabel : GM
 | [.one a0], k => 
  lenS a0 fun r0 =>
  call spec_l1In [.one r0, .one (I 1), .one (I 8)] fun o1 =>
  unP .not (atP o1 0) fun r2 =>
  iteP r2
   (rt [.sc] [(.bool false)] k)
   (charP a0 (I 0) fun r3 =>
   binP .eql r3 (.int .u8 45) fun r4 =>
   iteP r4
    (rt [.sc] [(.bool false)] k)
    (lenS a0 fun r5 =>
    binP .sub r5 (I 1) fun r6 =>
    charP a0 r6 fun r7 =>
    binP .eql r7 (.int .u8 45) fun r8 =>
    iteP r8
     (rt [.sc] [(.bool false)] k)
     (lp (fun L w => spec_IsLabel_r0 w L
      (rt [.sc] [(.bool false)] k)
      (fun q29 q30 q31 => rt [.sc] [(.bool true)] k)) [a0, (.bool false), (I 0)])))
 | _, _ => False
abbrev spec_IsLabel_e : Ent := ⟨[135], spec_IsLabel⟩
def spec_IsLabel_l : List LE := [⟨0, ⟨[(0, .one (.pv (.bool false))), (2, .one (.pv (.bool false))), (3, .one (.pv (.bool false)))], [], [], 1, 55⟩, fun K k v => spec_IsLabel_r0 v K (k .ret ⟨[(2, .one (.kb false))], [], [], 1, 55⟩) (fun x0 x1 x2 => k (.exit 0) ⟨[(0, .one (.pv x0)), (2, .one (.pv x1)), (3, .one (.pv x2))], [], [], 1, 55⟩)⟩]
theorem spec_IsLabel_s : LEsOK (orac [spec_l1In_e]) TT (kk [0, 2, 3, 32, 33, 34, 35, 38, 39, 40, 41, 42, 43, 44, 45, 46, 47, 50, 51, 52, 53]) (sumsOf spec_IsLabel_l) Tryz.f135 spec_IsLabel_l := ⟨fun v K k h => by
  apply un_all h; exact fun v0 v1 v2 h => Eq.mpr (by kernel_rfl) h
  , trivial⟩
theorem spec_IsLabel_w : EntOK Tryz.prog TT spec_IsLabel_e := ent_ok tabok (L := [spec_l1In_e]) ⟨spec_l1In_w, trivial⟩ (keep := (kk [0, 2, 3, 32, 33, 34, 35, 38, 39, 40, 41, 42, 43, 44, 45, 46, 47, 50, 51, 52, 53])) (l := spec_IsLabel_l) Tryz.func135 (by kernel_rfl) (sg := [.one (.sc)]) (by kernel_rfl) spec_IsLabel_s fun av k h => by
  unfold spec_IsLabel at h; split at h
  · exact Eq.mpr (by kernel_rfl) h
  · exact h.elim

def spec_IsPath_r0 (v : List PV) (K : List PV → Prop) (x0k : Prop) (x1k : PV → PV → PV → Prop) : Prop :=
 un 3 (fun v0 v1 v2 =>
  lenP v0 fun r0 =>
  binP .lss v2 r0 fun r1 =>
  iteP r1
   (elemP 1 v0 v2 fun c2 =>
   call spec_IsLabel [.one (atP c2 0)] fun o3 =>
   unP .not (atP o3 0) fun r4 =>
   iteP r4
    (x0k)
    (binP .add v2 (I 1) fun r5 =>
    K [v0, v1, r5]))
   (x1k v0 v1 v2)) v
def spec_IsPath : GM
 | [.one a0], k => 
  lp (fun L w => spec_IsPath_r0 w L
   (rt [.sc] [(.bool false)] k)
   (fun q6 q7 q8 => lenP q6 fun r9 =>
    call spec_l1In [.one r9, .one (I 1), .one (I 4)] fun o10 =>
    rt [.sc] [(atP o10 0)] k)) [a0, (.bool false), (I 0)]
 | _, _ => False
abbrev spec_IsPath_e : Ent := ⟨[108], spec_IsPath⟩
def spec_IsPath_l : List LE := [⟨0, ⟨[(0, .one (.pv (.bool false))), (2, .one (.pv (.bool false))), (3, .one (.pv (.bool false)))], [], [], 0, 19⟩, fun K k v => spec_IsPath_r0 v K (k .ret ⟨[(2, .one (.kb false))], [], [], 1, 19⟩) (fun x0 x1 x2 => k (.exit 0) ⟨[(0, .one (.pv x0)), (2, .one (.pv x1)), (3, .one (.pv x2))], [], [], 0, 19⟩)⟩]
theorem spec_IsPath_s : LEsOK (orac [spec_IsLabel_e, spec_l1In_e]) TT (kk [0, 2, 3]) (sumsOf spec_IsPath_l) Tryz.f108 spec_IsPath_l := ⟨fun v K k h => by
  apply un_all h; exact fun v0 v1 v2 h => Eq.mpr (by kernel_rfl) h
  , trivial⟩
theorem spec_IsPath_w : EntOK Tryz.prog TT spec_IsPath_e := ent_ok tabok (L := [spec_IsLabel_e, spec_l1In_e]) ⟨spec_IsLabel_w, spec_l1In_w, trivial⟩ (keep := (kk [0, 2, 3])) (l := spec_IsPath_l) Tryz.func108 (by kernel_rfl) (sg := [.one (.sc)]) (by kernel_rfl) spec_IsPath_s fun av k h => by
  unfold spec_IsPath at h; split at h
  · exact Eq.mpr (by kernel_rfl) h
  · exact h.elim

def spec_IsEntry : GM
 | [.agg u0], k => un 4 (fun a0 a1 a2 a3 => 
  binP .eql a1 (I 1) fun r0 =>
  iteP r0
   (call spec_IsLabel [.one a0] fun o1 =>
   iteP (atP o1 0)
    (call spec_l1In [.one a2, .one (I 0), .one (I 999999)] fun o2 =>
    iteP (atP o2 0)
     (lenP a3 fun r3 =>
     binP .eql r3 (I 0) fun r4 =>
     rt [.sc] [r4] k)
     (rt [.sc] [(.bool false)] k))
    (rt [.sc] [(.bool false)] k))
   (binP .eql a1 (I 2) fun r5 =>
   iteP r5
    (call spec_IsLabel [.one a0] fun o6 =>
    iteP (atP o6 0)
     (call spec_l1In [.one a2, .one (I 0), .one (I 2147483646)] fun o7 =>
     iteP (atP o7 0)
      (lenP a3 fun r8 =>
      binP .eql r8 (I 0) fun r9 =>
      rt [.sc] [r9] k)
      (rt [.sc] [(.bool false)] k))
     (rt [.sc] [(.bool false)] k))
    (binP .eql a1 (I 3) fun r10 =>
    iteP r10
     (call spec_IsLabel [.one a0] fun o11 =>
     iteP (atP o11 0)
      (call spec_l1In [.one a2, .one (I 0), .one (I 2147483646)] fun o12 =>
      iteP (atP o12 0)
       (call spec_IsPath [.one a3] fun o13 =>
       rt [.sc] [(atP o13 0)] k)
       (rt [.sc] [(.bool false)] k))
      (rt [.sc] [(.bool false)] k))
     (rt [.sc] [(.bool false)] k)))) u0
 | _, _ => False
abbrev spec_IsEntry_e : Ent := ⟨[130], spec_IsEntry⟩
theorem spec_IsEntry_w : EntOK Tryz.prog TT spec_IsEntry_e := ent_ok tabok (L := [spec_IsLabel_e, spec_l1In_e, spec_IsPath_e]) ⟨spec_IsLabel_w, spec_l1In_w, spec_IsPath_w, trivial⟩ (keep := []) (l := []) Tryz.func130 (by kernel_rfl) (sg := [.one (.sc)]) (by kernel_rfl) trivial fun av k h => by
  unfold spec_IsEntry at h; split at h
  · apply un_all h; clear h; intro a0 a1 a2 a3 h; exact Eq.mpr (by kernel_rfl) h
  · exact h.elim

def spec_CompareLabels : GM
 | [.one a0, .one a1], k => 
  binP .lss a0 a1 fun r0 =>
  iteP r0
   (rt [.sc] [(I (-1))] k)
   (binP .gtr a0 a1 fun r1 =>
   iteP r1
    (rt [.sc] [(I 1)] k)
    (rt [.sc] [(I 0)] k))
 | _, _ => False
abbrev spec_CompareLabels_e : Ent := ⟨[131], spec_CompareLabels⟩
theorem spec_CompareLabels_w : EntOK Tryz.prog TT spec_CompareLabels_e := ent_ok tabok (L := []) trivial (keep := []) (l := []) Tryz.func131 (by kernel_rfl) (sg := [.one (.sc)]) (by kernel_rfl) trivial fun av k h => by
  unfold spec_CompareLabels at h; split at h
  · exact Eq.mpr (by kernel_rfl) h
  · exact h.elim

def spec_AreEntries_r0 (v : List PV) (K : List PV → Prop) (x0k : Prop) (x1k : Prop) (x2k : PV → PV → PV → Prop) : Prop :=
 un 3 (fun v0 v1 v2 =>
  lenP v0 fun r0 =>
  binP .lss v2 r0 fun r1 =>
  iteP r1
   (elemP 4 v0 v2 fun c2 =>
   call spec_IsEntry [.agg [(atP c2 0), (atP c2 1), (atP c2 2), (atP c2 3)]] fun o3 =>
   unP .not (atP o3 0) fun r4 =>
   iteP r4
    (x0k)
    (binP .gtr v2 (I 0) fun r5 =>
    iteP r5
     (binP .sub v2 (I 1) fun r6 =>
     elemP 4 v0 r6 fun c7 =>
     elemP 4 v0 v2 fun c8 =>
     call spec_CompareLabels [.one (atP c7 0), .one (atP c8 0)] fun o9 =>
     binP .neq (atP o9 0) (I (-1)) fun r10 =>
     iteP r10
      (x1k)
      (binP .add v2 (I 1) fun r11 =>
      K [v0, v1, r11]))
     (binP .add v2 (I 1) fun r12 =>
     K [v0, v1, r12])))
   (x2k v0 v1 v2)) v
def spec_AreEntries : GM
 | [.one a0], k => 
  lp (fun L w => spec_AreEntries_r0 w L
   (rt [.sc] [(.bool false)] k)
   (rt [.sc] [(.bool false)] k)
   (fun q13 q14 q15 => lenP q13 fun r16 =>
    binP .leq r16 (I 12) fun r17 =>
    rt [.sc] [r17] k)) [a0, (.bool false), (I 0)]
 | _, _ => False
abbrev spec_AreEntries_e : Ent := ⟨[105], spec_AreEntries⟩
def spec_AreEntries_l : List LE := [⟨0, ⟨[(0, .one (.pv (.bool false))), (2, .one (.pv (.bool false))), (3, .one (.pv (.bool false)))], [], [], 0, 38⟩, fun K k v => spec_AreEntries_r0 v K (k .ret ⟨[(2, .one (.kb false))], [], [], 1, 38⟩) (k .ret ⟨[(2, .one (.kb false))], [], [], 2, 38⟩) (fun x0 x1 x2 => k (.exit 0) ⟨[(0, .one (.pv x0)), (2, .one (.pv x1)), (3, .one (.pv x2))], [], [], 0, 38⟩)⟩]
theorem spec_AreEntries_s : LEsOK (orac [spec_IsEntry_e, spec_CompareLabels_e]) TT (kk [0, 2, 3, 17, 18, 19, 20, 21, 22, 23, 24, 25, 26, 27, 28, 29, 30, 31, 32, 33]) (sumsOf spec_AreEntries_l) Tryz.f105 spec_AreEntries_l := ⟨fun v K k h => by
  apply un_all h; exact fun v0 v1 v2 h => Eq.mpr (by kernel_rfl) h
  , trivial⟩
theorem spec_AreEntries_w : EntOK Tryz.prog TT spec_AreEntries_e := ent_ok tabok (L := [spec_IsEntry_e, spec_CompareLabels_e]) ⟨spec_IsEntry_w, spec_CompareLabels_w, trivial⟩ (keep := (kk [0, 2, 3, 17, 18, 19, 20, 21, 22, 23, 24, 25, 26, 27, 28, 29, 30, 31, 32, 33])) (l := spec_AreEntries_l) Tryz.func105 (by kernel_rfl) (sg := [.one (.sc)]) (by kernel_rfl) spec_AreEntries_s fun av k h => by
  unfold spec_AreEntries at h; split at h
  · exact Eq.mpr (by kernel_rfl) h
  · exact h.elim

def spec_BytesToInts_r0 (v : List PV) (K : List PV → Prop) (x0k : PV → PV → PV → PV → Prop) : Prop :=
 un 4 (fun v0 v1 v2 v3 =>
  lenP v0 fun r0 =>
  binP .lss v1 r0 fun r1 =>
  iteP r1
   (elemP 1 v0 v1 fun c2 =>
   convP .i64 (atP c2 0) fun r3 =>
   (1 = 1) ∧ (1 ≤ 16777216) ∧ (1 = 1) ∧ (0 = 0) ∧ (1 = 1) ∧ (flatCond [.pv (I 0)] [.pv r3]) ∧ catP 1 v3 (.list 1 [[r3]]) fun r4 =>
   binP .add v1 (I 1) fun r5 =>
   K [v0, r5, v2, r4])
   (x0k v0 v1 v2 v3)) v
def spec_BytesToInts : GM
 | [.one a0], k => 
  lenP a0 fun r0 =>
  (1 = 1) ∧ (1 ≤ 16777216) ∧ (1 = 1) ∧ (0 = 0) ∧ (1 = 1) ∧ (flatCond [.pv (I 0)] [.pv r0]) ∧ lp (fun L w => spec_BytesToInts_r0 w L
   (fun q6 q7 q8 q9 => rt [.own true 3 1] [q9] k)) [a0, (I 0), (.list 1 []), (.list 1 [[r0]])]
 | _, _ => False
abbrev spec_BytesToInts_e : Ent := ⟨[229], spec_BytesToInts⟩
def spec_BytesToInts_l : List LE := [⟨0, ⟨[(0, .one (.pv (.bool false))), (2, .one (.own 1)), (3, .one (.own 0)), (4, .one (.pv (.bool false)))], [], [(1, ⟨.deep, 3, 1, (.bool false)⟩), (0, ⟨.deep, 3, 1, (.bool false)⟩)], 2, 23⟩, fun K k v => spec_BytesToInts_r0 v K (fun x0 x1 x2 x3 => k (.exit 0) ⟨[(0, .one (.pv x0)), (2, .one (.own 1)), (3, .one (.own 0)), (4, .one (.pv x1))], [], [(1, ⟨.deep, 3, 1, x2⟩), (0, ⟨.deep, 3, 1, x3⟩)], 2, 23⟩)⟩]
theorem spec_BytesToInts_s : LEsOK (orac []) TT (kk [0, 2, 3, 4]) (sumsOf spec_BytesToInts_l) Tryz.f229 spec_BytesToInts_l := ⟨fun v K k h => by
  apply un_all h; exact fun v0 v1 v2 v3 h => Eq.mpr (by kernel_rfl) h
  , trivial⟩
theorem spec_BytesToInts_w : EntOK Tryz.prog TT spec_BytesToInts_e := ent_ok tabok (L := []) trivial (keep := (kk [0, 2, 3, 4])) (l := spec_BytesToInts_l) Tryz.func229 (by kernel_rfl) (sg := [.one (.own true 3 1)]) (by kernel_rfl) spec_BytesToInts_s fun av k h => by
  unfold spec_BytesToInts at h; split at h
  · exact Eq.mpr (by kernel_rfl) h
  · exact h.elim

def spec_LabelInts : GM
 | [.one a0], k => 
  bytesP a0 fun r0 =>
  call spec_BytesToInts [.one r0] fun o1 =>
  rt [.own true 3 1] [(atP o1 0)] k
 | _, _ => False
abbrev spec_LabelInts_e : Ent := ⟨[215], spec_LabelInts⟩
theorem spec_LabelInts_w : EntOK Tryz.prog TT spec_LabelInts_e := ent_ok tabok (L := [spec_BytesToInts_e]) ⟨spec_BytesToInts_w, trivial⟩ (keep := []) (l := []) Tryz.func215 (by kernel_rfl) (sg := [.one (.own true 3 1)]) (by kernel_rfl) trivial fun av k h => by
  unfold spec_LabelInts at h; split at h
  · exact Eq.mpr (by kernel_rfl) h
  · exact h.elim

def spec_EntryInts_r0 (v : List PV) (K : List PV → Prop) (x0k : PV → PV → PV → PV → PV → PV → PV → Prop) : Prop :=
 un 7 (fun v0 v1 v2 v3 v4 v5 v6 =>
  lenP v4 fun r0 =>
  binP .lss v0 r0 fun r1 =>
  iteP r1
   (elemP 1 v4 v0 fun c2 =>
   call spec_LabelInts [.one (atP c2 0)] fun o3 =>
   catP 1 v6 (atP o3 0) fun r4 =>
   binP .add v0 (I 1) fun r5 =>
   K [r5, v1, v2, v3, v4, v5, r4])
   (x0k v0 v1 v2 v3 v4 v5 v6)) v
def spec_EntryInts : GM
 | [.agg u0], k => un 4 (fun a0 a1 a2 a3 => 
  call spec_LabelInts [.one a0] fun o0 =>
  lenP a3 fun r1 =>
  (3 = 3) ∧ (3 ≤ 16777216) ∧ (1 = 1) ∧ (0 = 0) ∧ (1 = 1) ∧ (flatCond [.pv (I 0)] [.pv a1]) ∧ (1 = 1) ∧ (1 = 1) ∧ (flatCond [.pv (I 0)] [.pv a2]) ∧ (2 = 2) ∧ (1 = 1) ∧ (flatCond [.pv (I 0)] [.pv r1]) ∧ catP 1 (atP o0 0) (.list 1 [[a1], [a2], [r1]]) fun r2 =>
  lp (fun L w => spec_EntryInts_r0 w L
   (fun q6 q7 q8 q9 q10 q11 q12 => rt [.own true 3 1] [q12] k)) [(I 0), a0, a1, a2, a3, (.list 1 []), r2]) u0
 | _, _ => False
abbrev spec_EntryInts_e : Ent := ⟨[194], spec_EntryInts⟩
def spec_EntryInts_l : List LE := [⟨0, ⟨[(1, .one (.ptr 0 0)), (2, .one (.own 4)), (3, .one (.own 3)), (4, .one (.pv (.bool false)))], [(0, [.pv (.bool false), .pv (.bool false), .pv (.bool false), .pv (.bool false)])], [(4, ⟨.deep, 3, 1, (.bool false)⟩), (3, ⟨.deep, 3, 1, (.bool false)⟩)], 5, 33⟩, fun K k v => spec_EntryInts_r0 v K (fun x0 x1 x2 x3 x4 x5 x6 => k (.exit 0) ⟨[(1, .one (.ptr 0 0)), (2, .one (.own 4)), (3, .one (.own 3)), (4, .one (.pv x0))], [(0, [.pv x1, .pv x2, .pv x3, .pv x4])], [(4, ⟨.deep, 3, 1, x5⟩), (3, ⟨.deep, 3, 1, x6⟩)], 5, 33⟩)⟩]
theorem spec_EntryInts_s : LEsOK (orac [spec_LabelInts_e]) TT (kk [1, 2, 3, 4]) (sumsOf spec_EntryInts_l) Tryz.f194 spec_EntryInts_l := ⟨fun v K k h => by
  apply un_all h; exact fun v0 v1 v2 v3 v4 v5 v6 h => Eq.mpr (by kernel_rfl) h
  , trivial⟩
theorem spec_EntryInts_w : EntOK Tryz.prog TT spec_EntryInts_e := ent_ok tabok (L := [spec_LabelInts_e]) ⟨spec_LabelInts_w, trivial⟩ (keep := (kk [1, 2, 3, 4])) (l := spec_EntryInts_l) Tryz.func194 (by kernel_rfl) (sg := [.one (.own true 3 1)]) (by kernel_rfl) spec_EntryInts_s fun av k h => by
  unfold spec_EntryInts at h; split at h
  · apply un_all h; clear h; intro a0 a1 a2 a3 h; exact Eq.mpr (by kernel_rfl) h
  · exact h.elim

def spec_LeafOf : GM
 | [.agg u0], k => un 4 (fun a0 a1 a2 a3 => 
  (1 = 1) ∧ (1 ≤ 16777216) ∧ (1 = 1) ∧ (0 = 0) ∧ (1 = 1) ∧ (flatCond [.pv (I 0)] [.pv (I 227)]) ∧ call spec_EntryInts [.agg [a0, a1, a2, a3]] fun o0 =>
  catP 1 (.list 1 [[(I 227)]]) (atP o0 0) fun r1 =>
  call spec_Hash [.one r1] fun o2 =>
  rt [.sc] [(atP o2 0)] k) u0
 | _, _ => False
abbrev spec_LeafOf_e : Ent := ⟨[169], spec_LeafOf⟩
theorem spec_LeafOf_w : EntOK Tryz.prog TT spec_LeafOf_e := ent_ok tabok (L := [spec_EntryInts_e, spec_Hash_e]) ⟨spec_EntryInts_w, spec_Hash_w, trivial⟩ (keep := []) (l := []) Tryz.func169 (by kernel_rfl) (sg := [.one (.sc)]) (by kernel_rfl) trivial fun av k h => by
  unfold spec_LeafOf at h; split at h
  · apply un_all h; clear h; intro a0 a1 a2 a3 h; exact Eq.mpr (by kernel_rfl) h
  · exact h.elim

def spec_LeavesOf_r0 (v : List PV) (K : List PV → Prop) (x0k : PV → PV → PV → PV → Prop) : Prop :=
 un 4 (fun v0 v1 v2 v3 =>
  lenP v0 fun r0 =>
  binP .lss v1 r0 fun r1 =>
  iteP r1
   (elemP 4 v0 v1 fun c2 =>
   call spec_LeafOf [.agg [(atP c2 0), (atP c2 1), (atP c2 2), (atP c2 3)]] fun o3 =>
   (1 = 1) ∧ (1 ≤ 16777216) ∧ (1 = 1) ∧ (0 = 0) ∧ (1 = 1) ∧ (flatCond [.pv (I 0)] [.pv (atP o3 0)]) ∧ catP 1 v3 (.list 1 [[(atP o3 0)]]) fun r4 =>
   binP .add v1 (I 1) fun r5 =>
   K [v0, r5, v2, r4])
   (x0k v0 v1 v2 v3)) v
def spec_LeavesOf : GM
 | [.one a0], k => 
  (0 = 0) ∧ (0 ≤ 16777216) ∧ (1 = 1) ∧ lp (fun L w => spec_LeavesOf_r0 w L
   (fun q6 q7 q8 q9 => rt [.own true 3 1] [q9] k)) [a0, (I 0), (.list 1 []), (.list 1 [])]
 | _, _ => False
abbrev spec_LeavesOf_e : Ent := ⟨[134], spec_LeavesOf⟩
def spec_LeavesOf_l : List LE := [⟨0, ⟨[(0, .one (.pv (.bool false))), (2, .one (.own 1)), (3, .one (.own 0)), (4, .one (.pv (.bool false)))], [], [(1, ⟨.deep, 3, 1, (.bool false)⟩), (0, ⟨.deep, 3, 1, (.bool false)⟩)], 2, 21⟩, fun K k v => spec_LeavesOf_r0 v K (fun x0 x1 x2 x3 => k (.exit 0) ⟨[(0, .one (.pv x0)), (2, .one (.own 1)), (3, .one (.own 0)), (4, .one (.pv x1))], [], [(1, ⟨.deep, 3, 1, x2⟩), (0, ⟨.deep, 3, 1, x3⟩)], 2, 21⟩)⟩]
theorem spec_LeavesOf_s : LEsOK (orac [spec_LeafOf_e]) TT (kk [0, 2, 3, 4]) (sumsOf spec_LeavesOf_l) Tryz.f134 spec_LeavesOf_l := ⟨fun v K k h => by
  apply un_all h; exact fun v0 v1 v2 v3 h => Eq.mpr (by kernel_rfl) h
  , trivial⟩
theorem spec_LeavesOf_w : EntOK Tryz.prog TT spec_LeavesOf_e := ent_ok tabok (L := [spec_LeafOf_e]) ⟨spec_LeafOf_w, trivial⟩ (keep := (kk [0, 2, 3, 4])) (l := spec_LeavesOf_l) Tryz.func134 (by kernel_rfl) (sg := [.one (.own true 3 1)]) (by kernel_rfl) spec_LeavesOf_s fun av k h => by
  unfold spec_LeavesOf at h; split at h
  · exact Eq.mpr (by kernel_rfl) h
  · exact h.elim

def spec_NodeOf : GM
 | [.one a0, .one a1], k => 
  (3 = 3) ∧ (3 ≤ 16777216) ∧ (1 = 1) ∧ (0 = 0) ∧ (1 = 1) ∧ (flatCond [.pv (I 0)] [.pv (I 229)]) ∧ (1 = 1) ∧ (1 = 1) ∧ (flatCond [.pv (I 0)] [.pv a0]) ∧ (2 = 2) ∧ (1 = 1) ∧ (flatCond [.pv (I 0)] [.pv a1]) ∧ call spec_Hash [.one (.list 1 [[(I 229)], [a0], [a1]])] fun o0 =>
  rt [.sc] [(atP o0 0)] k
 | _, _ => False
abbrev spec_NodeOf_e : Ent := ⟨[193], spec_NodeOf⟩
theorem spec_NodeOf_w : EntOK Tryz.prog TT spec_NodeOf_e := ent_ok tabok (L := [spec_Hash_e]) ⟨spec_Hash_w, trivial⟩ (keep := []) (l := []) Tryz.func193 (by kernel_rfl) (sg := [.one (.sc)]) (by kernel_rfl) trivial fun av k h => by
  unfold spec_NodeOf at h; split at h
  · exact Eq.mpr (by kernel_rfl) h
  · exact h.elim

def spec_l10Up_r0 (v : List PV) (K : List PV → Prop) (x0k : PV → PV → PV → PV → Prop) : Prop :=
 un 4 (fun v0 v1 v2 v3 =>
  lenP v0 fun r0 =>
  binP .lss v1 r0 fun r1 =>
  iteP r1
   (binP .add v1 (I 1) fun r2 =>
   lenP v0 fun r3 =>
   binP .lss r2 r3 fun r4 =>
   iteP r4
    (elemP 1 v0 v1 fun c5 =>
    binP .add v1 (I 1) fun r6 =>
    elemP 1 v0 r6 fun c7 =>
    call spec_NodeOf [.one (atP c5 0), .one (atP c7 0)] fun o8 =>
    (1 = 1) ∧ (1 ≤ 16777216) ∧ (1 = 1) ∧ (0 = 0) ∧ (1 = 1) ∧ (flatCond [.pv (I 0)] [.pv (atP o8 0)]) ∧ catP 1 v3 (.list 1 [[(atP o8 0)]]) fun r9 =>
    binP .add v1 (I 2) fun r10 =>
    K [v0, r10, v2, r9])
    (elemP 1 v0 v1 fun c11 =>
    (1 = 1) ∧ (1 ≤ 16777216) ∧ (1 = 1) ∧ (0 = 0) ∧ (1 = 1) ∧ (flatCond [.pv (I 0)] [.pv (atP c11 0)]) ∧ catP 1 v3 (.list 1 [[(atP c11 0)]]) fun r12 =>
    binP .add v1 (I 2) fun r13 =>
    K [v0, r13, v2, r12]))
   (x0k v0 v1 v2 v3)) v
def spec_l10Up : GM
 | [.one a0], k => 
  (0 = 0) ∧ (0 ≤ 16777216) ∧ (1 = 1) ∧ lp (fun L w => spec_l10Up_r0 w L
   (fun q14 q15 q16 q17 => rt [.own true 3 1] [q17] k)) [a0, (I 0), (.list 1 []), (.list 1 [])]
 | _, _ => False
abbrev spec_l10Up_e : Ent := ⟨[168], spec_l10Up⟩
def spec_l10Up_l : List LE := [⟨0, ⟨[(0, .one (.pv (.bool false))), (2, .one (.own 1)), (3, .one (.own 0)), (4, .one (.pv (.bool false)))], [], [(1, ⟨.deep, 3, 1, (.bool false)⟩), (0, ⟨.deep, 3, 1, (.bool false)⟩)], 2, 38⟩, fun K k v => spec_l10Up_r0 v K (fun x0 x1 x2 x3 => k (.exit 0) ⟨[(0, .one (.pv x0)), (2, .one (.own 1)), (3, .one (.own 0)), (4, .one (.pv x1))], [], [(1, ⟨.deep, 3, 1, x2⟩), (0, ⟨.deep, 3, 1, x3⟩)], 2, 38⟩)⟩]
theorem spec_l10Up_s : LEsOK (orac [spec_NodeOf_e]) TT (kk [0, 2, 3, 4]) (sumsOf spec_l10Up_l) Tryz.f168 spec_l10Up_l := ⟨fun v K k h => by
  apply un_all h; exact fun v0 v1 v2 v3 h => Eq.mpr (by kernel_rfl) h
  , trivial⟩
theorem spec_l10Up_w : EntOK Tryz.prog TT spec_l10Up_e := ent_ok tabok (L := [spec_NodeOf_e]) ⟨spec_NodeOf_w, trivial⟩ (keep := (kk [0, 2, 3, 4])) (l := spec_l10Up_l) Tryz.func168 (by kernel_rfl) (sg := [.one (.own true 3 1)]) (by kernel_rfl) spec_l10Up_s fun av k h => by
  unfold spec_l10Up at h; split at h
  · exact Eq.mpr (by kernel_rfl) h
  · exact h.elim

def spec_TopOf_r0 (v : List PV) (K : List PV → Prop) (x0k : PV → PV → Prop) : Prop :=
 un 2 (fun v0 v1 =>
  lenP v1 fun r0 =>
  binP .gtr r0 (I 1) fun r1 =>
  iteP r1
   (call spec_l10Up [.one v1] fun o2 =>
   K [v0, (atP o2 0)])
   (x0k v0 v1)) v
def spec_TopOf : GM
 | [.one a0], k => 
  lenP a0 fun r0 =>
  binP .eql r0 (I 0) fun r1 =>
  iteP r1
   ((1 = 1) ∧ (1 ≤ 16777216) ∧ (1 = 1) ∧ (0 = 0) ∧ (1 = 1) ∧ (flatCond [.pv (I 0)] [.pv (I 229)]) ∧ call spec_Hash [.one (.list 1 [[(I 229)]])] fun o2 =>
   rt [.sc] [(atP o2 0)] k)
   (lp (fun L w => spec_TopOf_r0 w L
    (fun q3 q4 => elemP 1 q4 (I 0) fun c5 =>
     rt [.sc] [(atP c5 0)] k)) [(I 0), a0])
 | _, _ => False
abbrev spec_TopOf_e : Ent := ⟨[133], spec_TopOf⟩
def spec_TopOf_l : List LE := [⟨0, ⟨[(2, .one (.pv (.bool false))), (3, .one (.pv (.bool false)))], [], [], 0, 18⟩, fun K k v => spec_TopOf_r0 v K (fun x0 x1 => k (.exit 0) ⟨[(2, .one (.pv x0)), (3, .one (.pv x1))], [], [], 0, 18⟩)⟩]
theorem spec_TopOf_s : LEsOK (orac [spec_Hash_e, spec_l10Up_e]) TT (kk [2, 3]) (sumsOf spec_TopOf_l) Tryz.f133 spec_TopOf_l := ⟨fun v K k h => by
  apply un_all h; exact fun v0 v1 h => Eq.mpr (by kernel_rfl) h
  , trivial⟩
theorem spec_TopOf_w : EntOK Tryz.prog TT spec_TopOf_e := ent_ok tabok (L := [spec_Hash_e, spec_l10Up_e]) ⟨spec_Hash_w, spec_l10Up_w, trivial⟩ (keep := (kk [2, 3])) (l := spec_TopOf_l) Tryz.func133 (by kernel_rfl) (sg := [.one (.sc)]) (by kernel_rfl) spec_TopOf_s fun av k h => by
  unfold spec_TopOf at h; split at h
  · exact Eq.mpr (by kernel_rfl) h
  · exact h.elim

def spec_l10Root : GM
 | [.one a0, .one a1], k => 
  (3 = 3) ∧ (3 ≤ 16777216) ∧ (1 = 1) ∧ (0 = 0) ∧ (1 = 1) ∧ (flatCond [.pv (I 0)] [.pv (I 231)]) ∧ (1 = 1) ∧ (1 = 1) ∧ (flatCond [.pv (I 0)] [.pv a0]) ∧ (2 = 2) ∧ (1 = 1) ∧ (flatCond [.pv (I 0)] [.pv a1]) ∧ call spec_Hash [.one (.list 1 [[(I 231)], [a0], [a1]])] fun o0 =>
  rt [.sc] [(atP o0 0)] k
 | _, _ => False
abbrev spec_l10Root_e : Ent := ⟨[132], spec_l10Root⟩
theorem spec_l10Root_w : EntOK Tryz.prog TT spec_l10Root_e := ent_ok tabok (L := [spec_Hash_e]) ⟨spec_Hash_w, trivial⟩ (keep := []) (l := []) Tryz.func132 (by kernel_rfl) (sg := [.one (.sc)]) (by kernel_rfl) trivial fun av k h => by
  unfold spec_l10Root at h; split at h
  · exact Eq.mpr (by kernel_rfl) h
  · exact h.elim

def spec_RootOf : GM
 | [.one a0], k => 
  lenP a0 fun r0 =>
  call spec_LeavesOf [.one a0] fun o1 =>
  call spec_TopOf [.one (atP o1 0)] fun o2 =>
  call spec_l10Root [.one r0, .one (atP o2 0)] fun o3 =>
  rt [.sc] [(atP o3 0)] k
 | _, _ => False
abbrev spec_RootOf_e : Ent := ⟨[106], spec_RootOf⟩
theorem spec_RootOf_w : EntOK Tryz.prog TT spec_RootOf_e := ent_ok tabok (L := [spec_LeavesOf_e, spec_TopOf_e, spec_l10Root_e]) ⟨spec_LeavesOf_w, spec_TopOf_w, spec_l10Root_w, trivial⟩ (keep := []) (l := []) Tryz.func106 (by kernel_rfl) (sg := [.one (.sc)]) (by kernel_rfl) trivial fun av k h => by
  unfold spec_RootOf at h; split at h
  · exact Eq.mpr (by kernel_rfl) h
  · exact h.elim

def spec_CheckAll : GM
 | [.one a0, .one a1], k => 
  call spec_AreEntries [.one a1] fun o0 =>
  iteP (atP o0 0)
   (call spec_RootOf [.one a1] fun o1 =>
   binP .eql (atP o1 0) a0 fun r2 =>
   rt [.sc] [r2] k)
   (rt [.sc] [(.bool false)] k)
 | _, _ => False
abbrev spec_CheckAll_e : Ent := ⟨[74], spec_CheckAll⟩
theorem spec_CheckAll_w : EntOK Tryz.prog TT spec_CheckAll_e := ent_ok tabok (L := [spec_AreEntries_e, spec_RootOf_e]) ⟨spec_AreEntries_w, spec_RootOf_w, trivial⟩ (keep := []) (l := []) Tryz.func74 (by kernel_rfl) (sg := [.one (.sc)]) (by kernel_rfl) trivial fun av k h => by
  unfold spec_CheckAll at h; split at h
  · exact Eq.mpr (by kernel_rfl) h
  · exact h.elim

def spec_IsZone : GM
 | [.agg u0], k => un 2 (fun a0 a1 => 
  call spec_LastHead [.one a0] fun o0 =>
  iteP (atP o0 16)
   (lenP a1 fun r1 =>
   binP .eql (atP o0 5) r1 fun r2 =>
   iteP r2
    (call spec_CheckAll [.one (atP o0 6), .one a1] fun o3 =>
    rt [.sc] [(atP o3 0)] k)
    (rt [.sc] [(.bool false)] k))
   (rt [.sc] [(.bool false)] k)) u0
 | _, _ => False
abbrev spec_IsZone_e : Ent := ⟨[39], spec_IsZone⟩
theorem spec_IsZone_w : EntOK Tryz.prog TT spec_IsZone_e := ent_ok tabok (L := [spec_LastHead_e, spec_CheckAll_e]) ⟨spec_LastHead_w, spec_CheckAll_w, trivial⟩ (keep := []) (l := []) Tryz.func39 (by kernel_rfl) (sg := [.one (.sc)]) (by kernel_rfl) trivial fun av k h => by
  unfold spec_IsZone at h; split at h
  · apply un_all h; clear h; intro a0 a1 h; exact Eq.mpr (by kernel_rfl) h
  · exact h.elim

def spec_FormatKeys_r0 (v : List PV) (K : List PV → Prop) (x0k : PV → PV → PV → PV → PV → Prop) : Prop :=
 un 5 (fun v0 v1 v2 v3 v4 =>
  lenP v3 fun r0 =>
  binP .lss v2 r0 fun r1 =>
  iteP r1
   (binP .gtr v2 (I 0) fun r2 =>
   iteP r2
    (binP .add v1 (.str ⟨#[43]⟩) fun r3 =>
    elemP 1 v3 v2 fun c4 =>
    call spec_FormatInt [.one (atP c4 0)] fun o5 =>
    binP .add r3 (atP o5 0) fun r6 =>
    binP .add v2 (I 1) fun r7 =>
    K [v0, r6, r7, v3, v4])
    (elemP 1 v3 v2 fun c8 =>
    call spec_FormatInt [.one (atP c8 0)] fun o9 =>
    binP .add v1 (atP o9 0) fun r10 =>
    binP .add v2 (I 1) fun r11 =>
    K [v0, r10, r11, v3, v4]))
   (x0k v0 v1 v2 v3 v4)) v
def spec_FormatKeys : GM
 | [.agg u0], k => un 2 (fun a0 a1 => 
  call spec_NoKeys [.agg [a0, a1]] fun o0 =>
  iteP (atP o0 0)
   (rt [.sc] [(.str ⟨#[45]⟩)] k)
   (call spec_FormatInt [.one a1] fun o1 =>
   binP .add (atP o1 0) (.str ⟨#[47]⟩) fun r2 =>
   lp (fun L w => spec_FormatKeys_r0 w L
    (fun q12 q13 q14 q15 q16 => rt [.sc] [q13] k)) [(.str ⟨#[]⟩), r2, (I 0), a0, a1])) u0
 | _, _ => False
abbrev spec_FormatKeys_e : Ent := ⟨[76], spec_FormatKeys⟩
def spec_FormatKeys_l : List LE := [⟨0, ⟨[(1, .one (.ptr 0 0)), (2, .one (.pv (.bool false))), (3, .one (.pv (.bool false))), (4, .one (.pv (.bool false)))], [(0, [.pv (.bool false), .pv (.bool false)])], [], 3, 31⟩, fun K k v => spec_FormatKeys_r0 v K (fun x0 x1 x2 x3 x4 => k (.exit 0) ⟨[(1, .one (.ptr 0 0)), (2, .one (.pv x0)), (3, .one (.pv x1)), (4, .one (.pv x2))], [(0, [.pv x3, .pv x4])], [], 3, 31⟩)⟩]
theorem spec_FormatKeys_s : LEsOK (orac [spec_NoKeys_e, spec_FormatInt_e]) TT (kk [1, 2, 3, 4]) (sumsOf spec_FormatKeys_l) Tryz.f76 spec_FormatKeys_l := ⟨fun v K k h => by
  apply un_all h; exact fun v0 v1 v2 v3 v4 h => Eq.mpr (by kernel_rfl) h
  , trivial⟩
theorem spec_FormatKeys_w : EntOK Tryz.prog TT spec_FormatKeys_e := ent_ok tabok (L := [spec_NoKeys_e, spec_FormatInt_e]) ⟨spec_NoKeys_w, spec_FormatInt_w, trivial⟩ (keep := (kk [1, 2, 3, 4])) (l := spec_FormatKeys_l) Tryz.func76 (by kernel_rfl) (sg := [.one (.sc)]) (by kernel_rfl) spec_FormatKeys_s fun av k h => by
  unfold spec_FormatKeys at h; split at h
  · apply un_all h; clear h; intro a0 a1 h; exact Eq.mpr (by kernel_rfl) h
  · exact h.elim

def spec_FormatHead : GM
 | [.agg u0], k => un 16 (fun a0 a1 a2 a3 a4 a5 a6 a7 a8 a9 a10 a11 a12 a13 a14 a15 => 
  call spec_l1In [.one a2, .one (I 1), .one (I 3)] fun o0 =>
  iteP (atP o0 0)
   ((4 = 4) ∧ (4 ≤ 16777216) ∧ (1 = 1) ∧ (0 = 0) ∧ (1 = 1) ∧ (flatCond [.pv (.str ⟨#[]⟩)] [.pv (.str ⟨#[]⟩)]) ∧ (1 = 1) ∧ (1 = 1) ∧ (flatCond [.pv (.str ⟨#[]⟩)] [.pv (.str ⟨#[111, 119, 110, 101, 114]⟩)]) ∧ (2 = 2) ∧ (1 = 1) ∧ (flatCond [.pv (.str ⟨#[]⟩)] [.pv (.str ⟨#[104, 101, 105, 114]⟩)]) ∧ (3 = 3) ∧ (1 = 1) ∧ (flatCond [.pv (.str ⟨#[]⟩)] [.pv (.str ⟨#[106, 117, 100, 103, 101]⟩)]) ∧ boundP 1 (.list 1 [[(.str ⟨#[]⟩)], [(.str ⟨#[111, 119, 110, 101, 114]⟩)], [(.str ⟨#[104, 101, 105, 114]⟩)], [(.str ⟨#[106, 117, 100, 103, 101]⟩)]]) a2 fun n1 =>
   rowP 1 (.list 1 [[(.str ⟨#[]⟩)], [(.str ⟨#[111, 119, 110, 101, 114]⟩)], [(.str ⟨#[104, 101, 105, 114]⟩)], [(.str ⟨#[106, 117, 100, 103, 101]⟩)]]) n1 fun c2 =>
   (flats [(atP c2 0)]) ∧ call spec_FormatInt [.one a1] fun o3 =>
   binP .add (atP o3 0) (.str ⟨#[32]⟩) fun r4 =>
   binP .add r4 (atP c2 0) fun r5 =>
   binP .add r5 (.str ⟨#[32]⟩) fun r6 =>
   call spec_FormatInt [.one a3] fun o7 =>
   binP .add r6 (atP o7 0) fun r8 =>
   binP .add r8 (.str ⟨#[45]⟩) fun r9 =>
   call spec_FormatInt [.one a4] fun o10 =>
   binP .add r9 (atP o10 0) fun r11 =>
   binP .add r11 (.str ⟨#[32]⟩) fun r12 =>
   call spec_FormatInt [.one a5] fun o13 =>
   binP .add r12 (atP o13 0) fun r14 =>
   binP .add r14 (.str ⟨#[32]⟩) fun r15 =>
   call spec_FormatKeys [.agg [a8, a9]] fun o16 =>
   binP .add r15 (atP o16 0) fun r17 =>
   iteP a15
    (binP .add r17 (.str ⟨#[32, 102, 114, 111, 122, 101, 110]⟩) fun r18 =>
    rt [.sc] [r18] k)
    (rt [.sc] [r17] k))
   (call spec_FormatInt [.one a1] fun o19 =>
   binP .add (atP o19 0) (.str ⟨#[32]⟩) fun r20 =>
   binP .add r20 (.str ⟨#[63]⟩) fun r21 =>
   binP .add r21 (.str ⟨#[32]⟩) fun r22 =>
   call spec_FormatInt [.one a3] fun o23 =>
   binP .add r22 (atP o23 0) fun r24 =>
   binP .add r24 (.str ⟨#[45]⟩) fun r25 =>
   call spec_FormatInt [.one a4] fun o26 =>
   binP .add r25 (atP o26 0) fun r27 =>
   binP .add r27 (.str ⟨#[32]⟩) fun r28 =>
   call spec_FormatInt [.one a5] fun o29 =>
   binP .add r28 (atP o29 0) fun r30 =>
   binP .add r30 (.str ⟨#[32]⟩) fun r31 =>
   call spec_FormatKeys [.agg [a8, a9]] fun o32 =>
   binP .add r31 (atP o32 0) fun r33 =>
   iteP a15
    (binP .add r33 (.str ⟨#[32, 102, 114, 111, 122, 101, 110]⟩) fun r34 =>
    rt [.sc] [r34] k)
    (rt [.sc] [r33] k))) u0
 | _, _ => False
abbrev spec_FormatHead_e : Ent := ⟨[40], spec_FormatHead⟩
theorem spec_FormatHead_w : EntOK Tryz.prog TT spec_FormatHead_e := ent_ok tabok (L := [spec_l1In_e, spec_FormatInt_e, spec_FormatKeys_e]) ⟨spec_l1In_w, spec_FormatInt_w, spec_FormatKeys_w, trivial⟩ (keep := []) (l := []) Tryz.func40 (by kernel_rfl) (sg := [.one (.sc)]) (by kernel_rfl) trivial fun av k h => by
  unfold spec_FormatHead at h; split at h
  · apply un_all h; clear h; intro a0 a1 a2 a3 a4 a5 a6 a7 a8 a9 a10 a11 a12 a13 a14 a15 h; exact Eq.mpr (by kernel_rfl) h
  · exact h.elim

def spec_FormatPath_r0 (v : List PV) (K : List PV → Prop) (x0k : PV → PV → PV → PV → Prop) : Prop :=
 un 4 (fun v0 v1 v2 v3 =>
  lenP v0 fun r0 =>
  binP .lss v3 r0 fun r1 =>
  iteP r1
   (binP .add v2 (.str ⟨#[47]⟩) fun r2 =>
   elemP 1 v0 v3 fun c3 =>
   binP .add r2 (atP c3 0) fun r4 =>
   binP .add v3 (I 1) fun r5 =>
   K [v0, v1, r4, r5])
   (x0k v0 v1 v2 v3)) v
def spec_FormatPath : GM
 | [.one a0], k => 
  call spec_IsPath [.one a0] fun o0 =>
  unP .not (atP o0 0) fun r1 =>
  iteP r1
   (rt [.sc] [(.str ⟨#[]⟩)] k)
   (elemP 1 a0 (I 0) fun c2 =>
   lp (fun L w => spec_FormatPath_r0 w L
    (fun q6 q7 q8 q9 => rt [.sc] [q8] k)) [a0, (.str ⟨#[]⟩), (atP c2 0), (I 1)])
 | _, _ => False
abbrev spec_FormatPath_e : Ent := ⟨[77], spec_FormatPath⟩
def spec_FormatPath_l : List LE := [⟨0, ⟨[(0, .one (.pv (.bool false))), (2, .one (.pv (.bool false))), (3, .one (.pv (.bool false))), (4, .one (.pv (.bool false)))], [], [], 1, 25⟩, fun K k v => spec_FormatPath_r0 v K (fun x0 x1 x2 x3 => k (.exit 0) ⟨[(0, .one (.pv x0)), (2, .one (.pv x1)), (3, .one (.pv x2)), (4, .one (.pv x3))], [], [], 1, 25⟩)⟩]
theorem spec_FormatPath_s : LEsOK (orac [spec_IsPath_e]) TT (kk [0, 2, 3, 4]) (sumsOf spec_FormatPath_l) Tryz.f77 spec_FormatPath_l := ⟨fun v K k h => by
  apply un_all h; exact fun v0 v1 v2 v3 h => Eq.mpr (by kernel_rfl) h
  , trivial⟩
theorem spec_FormatPath_w : EntOK Tryz.prog TT spec_FormatPath_e := ent_ok tabok (L := [spec_IsPath_e]) ⟨spec_IsPath_w, trivial⟩ (keep := (kk [0, 2, 3, 4])) (l := spec_FormatPath_l) Tryz.func77 (by kernel_rfl) (sg := [.one (.sc)]) (by kernel_rfl) spec_FormatPath_s fun av k h => by
  unfold spec_FormatPath at h; split at h
  · exact Eq.mpr (by kernel_rfl) h
  · exact h.elim

def spec_FormatEntry : GM
 | [.agg u0], k => un 4 (fun a0 a1 a2 a3 => 
  binP .eql a1 (I 2) fun r0 =>
  iteP r0
   (binP .add a0 (.str ⟨#[61, 35]⟩) fun r1 =>
   call spec_FormatInt [.one a2] fun o2 =>
   binP .add r1 (atP o2 0) fun r3 =>
   rt [.sc] [r3] k)
   (binP .eql a1 (I 3) fun r4 =>
   iteP r4
    (binP .add a0 (.str ⟨#[61, 62]⟩) fun r5 =>
    call spec_FormatInt [.one a2] fun o6 =>
    binP .add r5 (atP o6 0) fun r7 =>
    binP .add r7 (.str ⟨#[58]⟩) fun r8 =>
    call spec_FormatPath [.one a3] fun o9 =>
    binP .add r8 (atP o9 0) fun r10 =>
    rt [.sc] [r10] k)
    (binP .add a0 (.str ⟨#[61]⟩) fun r11 =>
    call spec_FormatInt [.one a2] fun o12 =>
    binP .add r11 (atP o12 0) fun r13 =>
    rt [.sc] [r13] k))) u0
 | _, _ => False
abbrev spec_FormatEntry_e : Ent := ⟨[41], spec_FormatEntry⟩
theorem spec_FormatEntry_w : EntOK Tryz.prog TT spec_FormatEntry_e := ent_ok tabok (L := [spec_FormatInt_e, spec_FormatPath_e]) ⟨spec_FormatInt_w, spec_FormatPath_w, trivial⟩ (keep := []) (l := []) Tryz.func41 (by kernel_rfl) (sg := [.one (.sc)]) (by kernel_rfl) trivial fun av k h => by
  unfold spec_FormatEntry at h; split at h
  · apply un_all h; clear h; intro a0 a1 a2 a3 h; exact Eq.mpr (by kernel_rfl) h
  · exact h.elim

def spec_FormatZone_r0 (v : List PV) (K : List PV → Prop) (x0k : PV → PV → PV → PV → PV → Prop) : Prop :=
 un 5 (fun v0 v1 v2 v3 v4 =>
  lenP v4 fun r0 =>
  binP .lss v2 r0 fun r1 =>
  iteP r1
   (binP .add v1 (.str ⟨#[32]⟩) fun r2 =>
   elemP 4 v4 v2 fun c3 =>
   call spec_FormatEntry [.agg [(atP c3 0), (atP c3 1), (atP c3 2), (atP c3 3)]] fun o4 =>
   binP .add r2 (atP o4 0) fun r5 =>
   binP .add v2 (I 1) fun r6 =>
   K [v0, r5, r6, v3, v4])
   (x0k v0 v1 v2 v3 v4)) v
def spec_FormatZone : GM
 | [.agg u0], k => un 2 (fun a0 a1 => 
  call spec_LastHead [.one a0] fun o0 =>
  call spec_IsZone [.agg [a0, a1]] fun o1 =>
  unP .not (atP o1 0) fun r2 =>
  iteP r2
   (rt [.sc] [(.str ⟨#[45]⟩)] k)
   (call spec_FormatHead [.agg [(atP o0 0), (atP o0 1), (atP o0 2), (atP o0 3), (atP o0 4), (atP o0 5), (atP o0 6), (atP o0 7), (atP o0 8), (atP o0 9), (atP o0 10), (atP o0 11), (atP o0 12), (atP o0 13), (atP o0 14), (atP o0 15)]] fun o3 =>
   lp (fun L w => spec_FormatZone_r0 w L
    (fun q7 q8 q9 q10 q11 => rt [.sc] [q8] k)) [(.str ⟨#[]⟩), (atP o3 0), (I 0), a0, a1])) u0
 | _, _ => False
abbrev spec_FormatZone_e : Ent := ⟨[11], spec_FormatZone⟩
def spec_FormatZone_l : List LE := [⟨0, ⟨[(1, .one (.ptr 0 0)), (2, .one (.pv (.bool false))), (5, .one (.pv (.bool false))), (6, .one (.pv (.bool false)))], [(0, [.pv (.bool false), .pv (.bool false)])], [], 21, 35⟩, fun K k v => spec_FormatZone_r0 v K (fun x0 x1 x2 x3 x4 => k (.exit 0) ⟨[(1, .one (.ptr 0 0)), (2, .one (.pv x0)), (5, .one (.pv x1)), (6, .one (.pv x2))], [(0, [.pv x3, .pv x4])], [], 21, 35⟩)⟩]
theorem spec_FormatZone_s : LEsOK (orac [spec_LastHead_e, spec_IsZone_e, spec_FormatHead_e, spec_FormatEntry_e]) TT (kk [1, 2, 5, 6]) (sumsOf spec_FormatZone_l) Tryz.f11 spec_FormatZone_l := ⟨fun v K k h => by
  apply un_all h; exact fun v0 v1 v2 v3 v4 h => Eq.mpr (by kernel_rfl) h
  , trivial⟩
theorem spec_FormatZone_w : EntOK Tryz.prog TT spec_FormatZone_e := ent_ok tabok (L := [spec_LastHead_e, spec_IsZone_e, spec_FormatHead_e, spec_FormatEntry_e]) ⟨spec_LastHead_w, spec_IsZone_w, spec_FormatHead_w, spec_FormatEntry_w, trivial⟩ (keep := (kk [1, 2, 5, 6])) (l := spec_FormatZone_l) Tryz.func11 (by kernel_rfl) (sg := [.one (.sc)]) (by kernel_rfl) spec_FormatZone_s fun av k h => by
  unfold spec_FormatZone at h; split at h
  · apply un_all h; clear h; intro a0 a1 h; exact Eq.mpr (by kernel_rfl) h
  · exact h.elim

def impl_InRange : GM
 | [.one a0, .one a1, .one a2], k => 
  binP .leq a1 a0 fun r0 =>
  iteP r0
   (binP .leq a0 a2 fun r1 =>
   rt [.sc] [r1] k)
   (rt [.sc] [(.bool false)] k)
 | _, _ => False
abbrev impl_InRange_e : Ent := ⟨[112], impl_InRange⟩
theorem impl_InRange_w : EntOK Tryz.prog TT impl_InRange_e := ent_ok tabok (L := []) trivial (keep := []) (l := []) Tryz.func112 (by kernel_rfl) (sg := [.one (.sc)]) (by kernel_rfl) trivial fun av k h => by
  unfold impl_InRange at h; split at h
  · exact Eq.mpr (by kernel_rfl) h
  · exact h.elim

def impl_isDigest : GM
 | [.one a0], k => 
  call impl_InRange [.one a0, .one (I 0), .one (I 2147483646)] fun o0 =>
  rt [.sc] [(atP o0 0)] k
 | _, _ => False
abbrev impl_isDigest_e : Ent := ⟨[174], impl_isDigest⟩
theorem impl_isDigest_w : EntOK Tryz.prog TT impl_isDigest_e := ent_ok tabok (L := [impl_InRange_e]) ⟨impl_InRange_w, trivial⟩ (keep := []) (l := []) Tryz.func174 (by kernel_rfl) (sg := [.one (.sc)]) (by kernel_rfl) trivial fun av k h => by
  unfold impl_isDigest at h; split at h
  · exact Eq.mpr (by kernel_rfl) h
  · exact h.elim

def impl_isSpan : GM
 | [.agg u0], k => un 16 (fun a0 a1 a2 a3 a4 a5 a6 a7 a8 a9 a10 a11 a12 a13 a14 a15 => 
  binP .geq a3 (I 0) fun r0 =>
  iteP r0
   (binP .leq a3 a4 fun r1 =>
   iteP r1
    (binP .leq a4 (I 100000) fun r2 =>
    iteP r2
     (binP .sub a4 a3 fun r3 =>
     binP .leq r3 (I 200) fun r4 =>
     rt [.sc] [r4] k)
     (rt [.sc] [(.bool false)] k))
    (rt [.sc] [(.bool false)] k))
   (rt [.sc] [(.bool false)] k)) u0
 | _, _ => False
abbrev impl_isSpan_e : Ent := ⟨[195], impl_isSpan⟩
theorem impl_isSpan_w : EntOK Tryz.prog TT impl_isSpan_e := ent_ok tabok (L := []) trivial (keep := []) (l := []) Tryz.func195 (by kernel_rfl) (sg := [.one (.sc)]) (by kernel_rfl) trivial fun av k h => by
  unfold impl_isSpan at h; split at h
  · apply un_all h; clear h; intro a0 a1 a2 a3 a4 a5 a6 a7 a8 a9 a10 a11 a12 a13 a14 a15 h; exact Eq.mpr (by kernel_rfl) h
  · exact h.elim

def impl_ascending_r0 (v : List PV) (K : List PV → Prop) (x0k : Prop) (x1k : PV → PV → PV → PV → Prop) : Prop :=
 un 4 (fun v0 v1 v2 v3 =>
  binP .lss v3 v2 fun r0 =>
  iteP r0
   (binP .gtr v3 (I 0) fun r1 =>
   iteP r1
    (elemP 1 v0 v3 fun c2 =>
    binP .sub v3 (I 1) fun r3 =>
    elemP 1 v0 r3 fun c4 =>
    binP .leq (atP c2 0) (atP c4 0) fun r5 =>
    iteP r5
     (x0k)
     (binP .add v3 (I 1) fun r6 =>
     K [v0, v1, v2, r6]))
    (binP .add v3 (I 1) fun r7 =>
    K [v0, v1, v2, r7]))
   (x1k v0 v1 v2 v3)) v
def impl_ascending : GM
 | [.one a0], k => 
  lenP a0 fun r0 =>
  lp (fun L w => impl_ascending_r0 w L
   (rt [.sc] [(.bool false)] k)
   (fun q8 q9 q10 q11 => rt [.sc] [(.bool true)] k)) [a0, (.bool false), r0, (I 0)]
 | _, _ => False
abbrev impl_ascending_e : Ent := ⟨[216], impl_ascending⟩
def impl_ascending_l : List LE := [⟨0, ⟨[(0, .one (.pv (.bool false))), (2, .one (.pv (.bool false))), (5, .one (.pv (.bool false))), (6, .one (.pv (.bool false)))], [], [], 0, 24⟩, fun K k v => impl_ascending_r0 v K (k .ret ⟨[(2, .one (.kb false))], [], [], 0, 24⟩) (fun x0 x1 x2 x3 => k (.exit 0) ⟨[(0, .one (.pv x0)), (2, .one (.pv x1)), (5, .one (.pv x2)), (6, .one (.pv x3))], [], [], 0, 24⟩)⟩]
theorem impl_ascending_s : LEsOK (orac []) TT (kk [0, 2, 5, 6, 12, 13, 14, 15, 16, 17, 18, 19, 20, 21]) (sumsOf impl_ascending_l) Tryz.f216 impl_ascending_l := ⟨fun v K k h => by
  apply un_all h; exact fun v0 v1 v2 v3 h => Eq.mpr (by kernel_rfl) h
  , trivial⟩
theorem impl_ascending_w : EntOK Tryz.prog TT impl_ascending_e := ent_ok tabok (L := []) trivial (keep := (kk [0, 2, 5, 6, 12, 13, 14, 15, 16, 17, 18, 19, 20, 21])) (l := impl_ascending_l) Tryz.func216 (by kernel_rfl) (sg := [.one (.sc)]) (by kernel_rfl) impl_ascending_s fun av k h => by
  unfold impl_ascending at h; split at h
  · exact Eq.mpr (by kernel_rfl) h
  · exact h.elim

def impl_isKey : GM
 | [.one a0], k => 
  call impl_InRange [.one a0, .one (I 1), .one (I 99)] fun o0 =>
  rt [.sc] [(atP o0 0)] k
 | _, _ => False
abbrev impl_isKey_e : Ent := ⟨[217], impl_isKey⟩
theorem impl_isKey_w : EntOK Tryz.prog TT impl_isKey_e := ent_ok tabok (L := [impl_InRange_e]) ⟨impl_InRange_w, trivial⟩ (keep := []) (l := []) Tryz.func217 (by kernel_rfl) (sg := [.one (.sc)]) (by kernel_rfl) trivial fun av k h => by
  unfold impl_isKey at h; split at h
  · exact Eq.mpr (by kernel_rfl) h
  · exact h.elim

def impl_IsKeys : GM
 | [.agg u0], k => un 2 (fun a0 a1 => 
  lenP a0 fun r0 =>
  call impl_InRange [.one r0, .one (I 1), .one (I 4)] fun o1 =>
  iteP (atP o1 0)
   (call impl_ascending [.one a0] fun o2 =>
   iteP (atP o2 0)
    (elemP 1 a0 (I 0) fun c3 =>
    call impl_isKey [.one (atP c3 0)] fun o4 =>
    iteP (atP o4 0)
     (lenP a0 fun r5 =>
     binP .sub r5 (I 1) fun r6 =>
     elemP 1 a0 r6 fun c7 =>
     call impl_isKey [.one (atP c7 0)] fun o8 =>
     iteP (atP o8 0)
      (lenP a0 fun r9 =>
      call impl_InRange [.one a1, .one (I 1), .one r9] fun o10 =>
      rt [.sc] [(atP o10 0)] k)
      (rt [.sc] [(.bool false)] k))
     (rt [.sc] [(.bool false)] k))
    (rt [.sc] [(.bool false)] k))
   (rt [.sc] [(.bool false)] k)) u0
 | _, _ => False
abbrev impl_IsKeys_e : Ent := ⟨[196], impl_IsKeys⟩
theorem impl_IsKeys_w : EntOK Tryz.prog TT impl_IsKeys_e := ent_ok tabok (L := [impl_InRange_e, impl_ascending_e, impl_isKey_e]) ⟨impl_InRange_w, impl_ascending_w, impl_isKey_w, trivial⟩ (keep := []) (l := []) Tryz.func196 (by kernel_rfl) (sg := [.one (.sc)]) (by kernel_rfl) trivial fun av k h => by
  unfold impl_IsKeys at h; split at h
  · apply un_all h; clear h; intro a0 a1 h; exact Eq.mpr (by kernel_rfl) h
  · exact h.elim

def impl_NoKeys : GM
 | [.agg u0], k => un 2 (fun a0 a1 => 
  binP .eql a1 (I 0) fun r0 =>
  iteP r0
   (lenP a0 fun r1 =>
   binP .eql r1 (I 0) fun r2 =>
   rt [.sc] [r2] k)
   (rt [.sc] [(.bool false)] k)) u0
 | _, _ => False
abbrev impl_NoKeys_e : Ent := ⟨[116], impl_NoKeys⟩
theorem impl_NoKeys_w : EntOK Tryz.prog TT impl_NoKeys_e := ent_ok tabok (L := []) trivial (keep := []) (l := []) Tryz.func116 (by kernel_rfl) (sg := [.one (.sc)]) (by kernel_rfl) trivial fun av k h => by
  unfold impl_NoKeys at h; split at h
  · apply un_all h; clear h; intro a0 a1 h; exact Eq.mpr (by kernel_rfl) h
  · exact h.elim

def impl_isMaybe : GM
 | [.agg u0], k => un 2 (fun a0 a1 => 
  call impl_NoKeys [.agg [a0, a1]] fun o0 =>
  iteP (atP o0 0)
   (rt [.sc] [(.bool true)] k)
   (call impl_IsKeys [.agg [a0, a1]] fun o1 =>
   rt [.sc] [(atP o1 0)] k)) u0
 | _, _ => False
abbrev impl_isMaybe_e : Ent := ⟨[197], impl_isMaybe⟩
theorem impl_isMaybe_w : EntOK Tryz.prog TT impl_isMaybe_e := ent_ok tabok (L := [impl_NoKeys_e, impl_IsKeys_e]) ⟨impl_NoKeys_w, impl_IsKeys_w, trivial⟩ (keep := []) (l := []) Tryz.func197 (by kernel_rfl) (sg := [.one (.sc)]) (by kernel_rfl) trivial fun av k h => by
  unfold impl_isMaybe at h; split at h
  · apply un_all h; clear h; intro a0 a1 h; exact Eq.mpr (by kernel_rfl) h
  · exact h.elim

def impl_isWait : GM
 | [.one a0, .agg u0], k => un 2 (fun a1 a2 => 
  call impl_NoKeys [.agg [a1, a2]] fun o0 =>
  iteP (atP o0 0)
   (binP .eql a0 (I 0) fun r1 =>
   rt [.sc] [r1] k)
   (call impl_InRange [.one a0, .one (I 1), .one (I 500)] fun o2 =>
   rt [.sc] [(atP o2 0)] k)) u0
 | _, _ => False
abbrev impl_isWait_e : Ent := ⟨[198], impl_isWait⟩
theorem impl_isWait_w : EntOK Tryz.prog TT impl_isWait_e := ent_ok tabok (L := [impl_NoKeys_e, impl_InRange_e]) ⟨impl_NoKeys_w, impl_InRange_w, trivial⟩ (keep := []) (l := []) Tryz.func198 (by kernel_rfl) (sg := [.one (.sc)]) (by kernel_rfl) trivial fun av k h => by
  unfold impl_isWait at h; split at h
  · apply un_all h; clear h; intro a1 a2 h; exact Eq.mpr (by kernel_rfl) h
  · exact h.elim

def impl_IsHead : GM
 | [.agg u0], k => un 16 (fun a0 a1 a2 a3 a4 a5 a6 a7 a8 a9 a10 a11 a12 a13 a14 a15 => 
  call impl_isDigest [.one a0] fun o0 =>
  iteP (atP o0 0)
   (call impl_isDigest [.one a6] fun o1 =>
   iteP (atP o1 0)
    (call impl_isDigest [.one a7] fun o2 =>
    iteP (atP o2 0)
     (call impl_InRange [.one a1, .one (I 0), .one (I 200)] fun o3 =>
     iteP (atP o3 0)
      (call impl_InRange [.one a2, .one (I 1), .one (I 3)] fun o4 =>
      iteP (atP o4 0)
       (call impl_isSpan [.agg [a0, a1, a2, a3, a4, a5, a6, a7, a8, a9, a10, a11, a12, a13, a14, a15]] fun o5 =>
       iteP (atP o5 0)
        (call impl_InRange [.one a5, .one (I 0), .one (I 12)] fun o6 =>
        iteP (atP o6 0)
         (call impl_IsKeys [.agg [a8, a9]] fun o7 =>
         iteP (atP o7 0)
          (call impl_isMaybe [.agg [a10, a11]] fun o8 =>
          iteP (atP o8 0)
           (call impl_isMaybe [.agg [a13, a14]] fun o9 =>
           iteP (atP o9 0)
            (call impl_isWait [.one a12, .agg [a10, a11]] fun o10 =>
            iteP (atP o10 0)
             (iteP a15
              (call impl_NoKeys [.agg [a13, a14]] fun o11 =>
              unP .not (atP o11 0) fun r12 =>
              rt [.sc] [r12] k)
              (rt [.sc] [(.bool true)] k))
             (rt [.sc] [(.bool false)] k))
            (rt [.sc] [(.bool false)] k))
           (rt [.sc] [(.bool false)] k))
          (rt [.sc] [(.bool false)] k))
         (rt [.sc] [(.bool false)] k))
        (rt [.sc] [(.bool false)] k))
       (rt [.sc] [(.bool false)] k))
      (rt [.sc] [(.bool false)] k))
     (rt [.sc] [(.bool false)] k))
    (rt [.sc] [(.bool false)] k))
   (rt [.sc] [(.bool false)] k)) u0
 | _, _ => False
abbrev impl_IsHead_e : Ent := ⟨[170], impl_IsHead⟩
theorem impl_IsHead_w : EntOK Tryz.prog TT impl_IsHead_e := ent_ok tabok (L := [impl_isDigest_e, impl_InRange_e, impl_isSpan_e, impl_IsKeys_e, impl_isMaybe_e, impl_isWait_e, impl_NoKeys_e]) ⟨impl_isDigest_w, impl_InRange_w, impl_isSpan_w, impl_IsKeys_w, impl_isMaybe_w, impl_isWait_w, impl_NoKeys_w, trivial⟩ (keep := []) (l := []) Tryz.func170 (by kernel_rfl) (sg := [.one (.sc)]) (by kernel_rfl) trivial fun av k h => by
  unfold impl_IsHead at h; split at h
  · apply un_all h; clear h; intro a0 a1 a2 a3 a4 a5 a6 a7 a8 a9 a10 a11 a12 a13 a14 a15 h; exact Eq.mpr (by kernel_rfl) h
  · exact h.elim

def impl_KeysInts : GM
 | [.agg u0], k => un 2 (fun a0 a1 => 
  lenP a0 fun r0 =>
  (2 = 2) ∧ (2 ≤ 16777216) ∧ (1 = 1) ∧ (0 = 0) ∧ (1 = 1) ∧ (flatCond [.pv (I 0)] [.pv a1]) ∧ (1 = 1) ∧ (1 = 1) ∧ (flatCond [.pv (I 0)] [.pv r0]) ∧ (flatRows a0) ∧ catP 1 (.list 1 [[a1], [r0]]) a0 fun r1 =>
  rt [.own true 3 1] [r1] k) u0
 | _, _ => False
abbrev impl_KeysInts_e : Ent := ⟨[200], impl_KeysInts⟩
theorem impl_KeysInts_w : EntOK Tryz.prog TT impl_KeysInts_e := ent_ok tabok (L := []) trivial (keep := []) (l := []) Tryz.func200 (by kernel_rfl) (sg := [.one (.own true 3 1)]) (by kernel_rfl) trivial fun av k h => by
  unfold impl_KeysInts at h; split at h
  · apply un_all h; clear h; intro a0 a1 h; exact Eq.mpr (by kernel_rfl) h
  · exact h.elim

def impl_Mod : GM
 | [.one a0, .one a1], k => 
  call impl_InRange [.one a1, .one (I 1), .one (I 1000000000000)] fun o0 =>
  unP .not (atP o0 0) fun r1 =>
  iteP r1
   (rt [.sc] [(I 0)] k)
   (binP .rem a0 a1 fun r2 =>
   binP .add r2 a1 fun r3 =>
   binP .rem r3 a1 fun r4 =>
   rt [.sc] [r4] k)
 | _, _ => False
abbrev impl_Mod_e : Ent := ⟨[218], impl_Mod⟩
theorem impl_Mod_w : EntOK Tryz.prog TT impl_Mod_e := ent_ok tabok (L := [impl_InRange_e]) ⟨impl_InRange_w, trivial⟩ (keep := []) (l := []) Tryz.func218 (by kernel_rfl) (sg := [.one (.sc)]) (by kernel_rfl) trivial fun av k h => by
  unfold impl_Mod at h; split at h
  · exact Eq.mpr (by kernel_rfl) h
  · exact h.elim


end Go.Ev
