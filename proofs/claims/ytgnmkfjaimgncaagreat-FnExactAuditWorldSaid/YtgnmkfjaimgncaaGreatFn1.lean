/- The tables of this load, and for each function the meaning that the evaluator gives it, with its proof, part 1. -/
import Derived.Test.YtgnmkfjaimgncaaGreatEv3
import Derived.Shelf.Small.Strs
import Derived.Test.YtgnmkfjaimgncaaGreatProg
namespace Go.Ev
open Go.Proofs
def TT : Tab := ⟨[(2, tI),
  (3, tI),
  (4, tB),
  (5, ⟨false, 1, 0, 1, [], [.pv (.int .u8 0)], some .u8, 0, false⟩),
  (6, ⟨false, 1, 0, 1, [], [.pv (.int .u8 0)], some .u8, 0, false⟩),
  (7, ⟨true, 4, 0, 24, [(0, 2), (1, 3), (2, 4), (3, 6)], [zI, zI, zB, .pv (.int .u8 0)], none, 0, true⟩),
  (8, ⟨true, 4, 0, 24, [(0, 2), (1, 3), (2, 4), (3, 6)], [zI, zI, zB, .pv (.int .u8 0)], none, 0, true⟩),
  (9, tS),
  (10, tS),
  (11, tS),
  (12, ⟨false, 1, 0, 8, [], [.pv (.int .u64 0)], some .u64, 0, false⟩),
  (13, ⟨true, 2, 0, 24, [(0, 9), (1, 12)], [zS, .pv (.int .u64 0)], none, 0, false⟩),
  (14, ⟨true, 2, 0, 24, [(0, 9), (1, 12)], [zS, .pv (.int .u64 0)], none, 0, false⟩),
  (21, ⟨false, 1, 0, 4, [], [.pv (.int .i32 0)], some .i32, 0, false⟩),
  (22, ⟨false, 1, 85, 24, [], [.nil 85 1], none, 0, false⟩),
  (23, ⟨false, 1, 90, 24, [], [.nil 90 2], none, 0, false⟩),
  (24, ⟨false, 1, 93, 24, [], [.nil 93 3], none, 0, false⟩),
  (25, ⟨false, 1, 96, 24, [], [.nil 96 2], none, 0, false⟩),
  (26, ⟨false, 1, 87, 24, [], [.nil 87 1], none, 0, false⟩),
  (27, ⟨false, 1, 168, 24, [], [.nil 168 51], none, 0, false⟩),
  (28, ⟨true, 2, 0, 48, [(0, 26), (1, 27)], [.nil 87 1, .nil 168 51], none, 0, false⟩),
  (29, ⟨true, 2, 0, 48, [(0, 26), (1, 27)], [.nil 87 1, .nil 168 51], none, 0, false⟩),
  (30, ⟨false, 1, 177, 24, [], [.nil 177 23], none, 0, false⟩),
  (31, ⟨true, 1, 0, 24, [(0, 30)], [.nil 177 23], none, 0, false⟩),
  (32, ⟨true, 1, 0, 24, [(0, 30)], [.nil 177 23], none, 0, false⟩),
  (33, ⟨true, 8, 0, 176, [(0, 3), (1, 22), (2, 23), (3, 24), (4, 25), (5, 29), (7, 32)], [zI, .nil 85 1, .nil 90 2, .nil 93 3, .nil 96 2, .nil 87 1, .nil 168 51, .nil 177 23], none, 0, false⟩),
  (34, ⟨true, 8, 0, 176, [(0, 3), (1, 22), (2, 23), (3, 24), (4, 25), (5, 29), (7, 32)], [zI, .nil 85 1, .nil 90 2, .nil 93 3, .nil 96 2, .nil 87 1, .nil 168 51, .nil 177 23], none, 0, false⟩),
  (37, ⟨false, 1, 134, 24, [], [.nil 134 1], none, 0, false⟩),
  (38, ⟨false, 1, 63, 24, [], [.nil 63 2], none, 0, false⟩),
  (39, ⟨false, 1, 66, 24, [], [.nil 66 3], none, 0, false⟩),
  (40, ⟨false, 1, 105, 24, [], [.nil 105 2], none, 0, false⟩),
  (41, ⟨false, 1, 60, 24, [], [.nil 60 1], none, 0, false⟩),
  (42, ⟨false, 1, 131, 24, [], [.nil 131 51], none, 0, false⟩),
  (43, ⟨true, 2, 0, 48, [(0, 41), (1, 42)], [.nil 60 1, .nil 131 51], none, 0, false⟩),
  (44, ⟨true, 2, 0, 48, [(0, 41), (1, 42)], [.nil 60 1, .nil 131 51], none, 0, false⟩),
  (45, ⟨false, 1, 122, 24, [], [.nil 122 23], none, 0, false⟩),
  (46, ⟨true, 1, 0, 24, [(0, 45)], [.nil 122 23], none, 0, false⟩),
  (47, ⟨true, 1, 0, 24, [(0, 45)], [.nil 122 23], none, 0, false⟩),
  (48, ⟨true, 8, 0, 176, [(0, 3), (1, 37), (2, 38), (3, 39), (4, 40), (5, 44), (7, 47)], [zI, .nil 134 1, .nil 63 2, .nil 66 3, .nil 105 2, .nil 60 1, .nil 131 51, .nil 122 23], none, 0, false⟩),
  (49, ⟨true, 8, 0, 176, [(0, 3), (1, 37), (2, 38), (3, 39), (4, 40), (5, 44), (7, 47)], [zI, .nil 134 1, .nil 63 2, .nil 66 3, .nil 105 2, .nil 60 1, .nil 131 51, .nil 122 23], none, 0, false⟩),
  (60, ⟨false, 1, 129, 24, [], [.nil 129 17], none, 0, false⟩),
  (61, ⟨false, 1, 114, 24, [], [.nil 114 4], none, 0, false⟩),
  (62, ⟨true, 2, 0, 48, [(0, 60), (1, 61)], [.nil 129 17, .nil 114 4], none, 0, false⟩),
  (63, ⟨true, 2, 0, 48, [(0, 60), (1, 61)], [.nil 129 17, .nil 114 4], none, 0, false⟩),
  (64, ⟨false, 1, 3, 24, [], [.nil 3 1], none, 0, false⟩),
  (65, ⟨true, 3, 0, 72, [(0, 63), (2, 64)], [.nil 129 17, .nil 114 4, .nil 3 1], none, 0, false⟩),
  (66, ⟨true, 3, 0, 72, [(0, 63), (2, 64)], [.nil 129 17, .nil 114 4, .nil 3 1], none, 0, false⟩),
  (84, ⟨true, 1, 0, 24, [(0, 64)], [.nil 3 1], none, 0, false⟩),
  (85, ⟨true, 1, 0, 24, [(0, 64)], [.nil 3 1], none, 0, false⟩),
  (87, ⟨false, 1, 166, 24, [], [.nil 166 17], none, 0, false⟩),
  (88, ⟨false, 1, 170, 24, [], [.nil 170 4], none, 0, false⟩),
  (89, ⟨true, 2, 0, 48, [(0, 87), (1, 88)], [.nil 166 17, .nil 170 4], none, 0, false⟩),
  (90, ⟨true, 2, 0, 48, [(0, 87), (1, 88)], [.nil 166 17, .nil 170 4], none, 0, false⟩),
  (92, ⟨true, 3, 0, 72, [(0, 90), (2, 64)], [.nil 166 17, .nil 170 4, .nil 3 1], none, 0, false⟩),
  (93, ⟨true, 3, 0, 72, [(0, 90), (2, 64)], [.nil 166 17, .nil 170 4, .nil 3 1], none, 0, false⟩),
  (95, ⟨true, 2, 0, 32, [(0, 23), (1, 3)], [.nil 90 2, zI], none, 0, false⟩),
  (96, ⟨true, 2, 0, 32, [(0, 23), (1, 3)], [.nil 90 2, zI], none, 0, false⟩),
  (104, ⟨true, 2, 0, 32, [(0, 38), (1, 3)], [.nil 63 2, zI], none, 0, false⟩),
  (105, ⟨true, 2, 0, 32, [(0, 38), (1, 3)], [.nil 63 2, zI], none, 0, false⟩),
  (112, ⟨false, 1, 9, 24, [], [.nil 9 1], none, 0, false⟩),
  (113, ⟨true, 4, 0, 56, [(0, 9), (1, 3), (2, 3), (3, 112)], [zS, zI, zI, .nil 9 1], none, 0, false⟩),
  (114, ⟨true, 4, 0, 56, [(0, 9), (1, 3), (2, 3), (3, 112)], [zS, zI, zI, .nil 9 1], none, 0, false⟩),
  (115, ⟨true, 2, 0, 32, [(0, 3), (1, 64)], [zI, .nil 3 1], none, 0, false⟩),
  (116, ⟨true, 2, 0, 32, [(0, 3), (1, 64)], [zI, .nil 3 1], none, 0, false⟩),
  (117, ⟨true, 13, 0, 184, [(0, 3), (1, 114), (5, 114), (9, 116), (11, 116)], [zI, zS, zI, zI, .nil 9 1, zS, zI, zI, .nil 9 1, zI, .nil 3 1, zI, .nil 3 1], none, 0, false⟩),
  (118, ⟨true, 13, 0, 184, [(0, 3), (1, 114), (5, 114), (9, 116), (11, 116)], [zI, zS, zI, zI, .nil 9 1, zS, zI, zI, .nil 9 1, zI, .nil 3 1, zI, .nil 3 1], none, 0, false⟩),
  (119, ⟨true, 21, 0, 304, [(0, 60), (1, 4), (2, 114), (6, 116), (8, 118)], [.nil 129 17, zB, zS, zI, zI, .nil 9 1, zI, .nil 3 1, zI, zS, zI, zI, .nil 9 1, zS, zI, zI, .nil 9 1, zI, .nil 3 1, zI, .nil 3 1], none, 0, false⟩),
  (120, ⟨true, 21, 0, 304, [(0, 60), (1, 4), (2, 114), (6, 116), (8, 118)], [.nil 129 17, zB, zS, zI, zI, .nil 9 1, zI, .nil 3 1, zI, zS, zI, zI, .nil 9 1, zS, zI, zI, .nil 9 1, zI, .nil 3 1, zI, .nil 3 1], none, 0, false⟩),
  (121, ⟨true, 23, 0, 328, [(0, 3), (1, 9), (2, 120)], [zI, zS, .nil 129 17, zB, zS, zI, zI, .nil 9 1, zI, .nil 3 1, zI, zS, zI, zI, .nil 9 1, zS, zI, zI, .nil 9 1, zI, .nil 3 1, zI, .nil 3 1], none, 0, false⟩),
  (122, ⟨true, 23, 0, 328, [(0, 3), (1, 9), (2, 120)], [zI, zS, .nil 129 17, zB, zS, zI, zI, .nil 9 1, zI, .nil 3 1, zI, zS, zI, zI, .nil 9 1, zS, zI, zI, .nil 9 1, zI, .nil 3 1, zI, .nil 3 1], none, 0, false⟩),
  (123, ⟨true, 2, 0, 32, [(0, 64), (1, 3)], [.nil 3 1, zI], none, 0, false⟩),
  (124, ⟨true, 2, 0, 32, [(0, 64), (1, 3)], [.nil 3 1, zI], none, 0, false⟩),
  (125, ⟨true, 16, 0, 176, [(0, 3), (1, 3), (2, 3), (3, 3), (4, 3), (5, 3), (6, 3), (7, 3), (8, 124), (10, 124), (12, 3), (13, 124), (15, 4)], [zI, zI, zI, zI, zI, zI, zI, zI, .nil 3 1, zI, .nil 3 1, zI, zI, .nil 3 1, zI, zB], none, 0, false⟩),
  (126, ⟨true, 16, 0, 176, [(0, 3), (1, 3), (2, 3), (3, 3), (4, 3), (5, 3), (6, 3), (7, 3), (8, 124), (10, 124), (12, 3), (13, 124), (15, 4)], [zI, zI, zI, zI, zI, zI, zI, zI, .nil 3 1, zI, .nil 3 1, zI, zI, .nil 3 1, zI, zB], none, 0, false⟩),
  (127, ⟨false, 1, 191, 24, [], [.nil 191 2], none, 0, false⟩),
  (128, ⟨true, 17, 0, 200, [(0, 126), (16, 127)], [zI, zI, zI, zI, zI, zI, zI, zI, .nil 3 1, zI, .nil 3 1, zI, zI, .nil 3 1, zI, zB, .nil 191 2], none, 0, false⟩),
  (129, ⟨true, 17, 0, 200, [(0, 126), (16, 127)], [zI, zI, zI, zI, zI, zI, zI, zI, .nil 3 1, zI, .nil 3 1, zI, zI, .nil 3 1, zI, zB, .nil 191 2], none, 0, false⟩),
  (130, ⟨true, 51, 0, 600, [(0, 129), (17, 129), (34, 129)], [zI, zI, zI, zI, zI, zI, zI, zI, .nil 3 1, zI, .nil 3 1, zI, zI, .nil 3 1, zI, zB, .nil 191 2, zI, zI, zI, zI, zI, zI, zI, zI, .nil 3 1, zI, .nil 3 1, zI, zI, .nil 3 1, zI, zB, .nil 191 2, zI, zI, zI, zI, zI, zI, zI, zI, .nil 3 1, zI, .nil 3 1, zI, zI, .nil 3 1, zI, zB, .nil 191 2], none, 0, false⟩),
  (131, ⟨true, 51, 0, 600, [(0, 129), (17, 129), (34, 129)], [zI, zI, zI, zI, zI, zI, zI, zI, .nil 3 1, zI, .nil 3 1, zI, zI, .nil 3 1, zI, zB, .nil 191 2, zI, zI, zI, zI, zI, zI, zI, zI, .nil 3 1, zI, .nil 3 1, zI, zI, .nil 3 1, zI, zB, .nil 191 2, zI, zI, zI, zI, zI, zI, zI, zI, .nil 3 1, zI, .nil 3 1, zI, zI, .nil 3 1, zI, zB, .nil 191 2], none, 0, false⟩),
  (134, ⟨true, 1, 0, 24, [(0, 64)], [.nil 3 1], none, 0, false⟩),
  (161, ⟨true, 2, 0, 32, [(0, 64), (1, 3)], [.nil 3 1, zI], none, 0, false⟩),
  (162, ⟨true, 16, 0, 176, [(0, 3), (1, 3), (2, 3), (3, 3), (4, 3), (5, 3), (6, 3), (7, 3), (8, 161), (10, 161), (12, 3), (13, 161), (15, 4)], [zI, zI, zI, zI, zI, zI, zI, zI, .nil 3 1, zI, .nil 3 1, zI, zI, .nil 3 1, zI, zB], none, 0, false⟩),
  (163, ⟨true, 16, 0, 176, [(0, 3), (1, 3), (2, 3), (3, 3), (4, 3), (5, 3), (6, 3), (7, 3), (8, 161), (10, 161), (12, 3), (13, 161), (15, 4)], [zI, zI, zI, zI, zI, zI, zI, zI, .nil 3 1, zI, .nil 3 1, zI, zI, .nil 3 1, zI, zB], none, 0, false⟩),
  (164, ⟨false, 1, 280, 24, [], [.nil 280 2], none, 0, false⟩),
  (165, ⟨true, 17, 0, 200, [(0, 163), (16, 164)], [zI, zI, zI, zI, zI, zI, zI, zI, .nil 3 1, zI, .nil 3 1, zI, zI, .nil 3 1, zI, zB, .nil 280 2], none, 0, false⟩),
  (166, ⟨true, 17, 0, 200, [(0, 163), (16, 164)], [zI, zI, zI, zI, zI, zI, zI, zI, .nil 3 1, zI, .nil 3 1, zI, zI, .nil 3 1, zI, zB, .nil 280 2], none, 0, false⟩),
  (167, ⟨true, 51, 0, 600, [(0, 166), (17, 166), (34, 166)], [zI, zI, zI, zI, zI, zI, zI, zI, .nil 3 1, zI, .nil 3 1, zI, zI, .nil 3 1, zI, zB, .nil 280 2, zI, zI, zI, zI, zI, zI, zI, zI, .nil 3 1, zI, .nil 3 1, zI, zI, .nil 3 1, zI, zB, .nil 280 2, zI, zI, zI, zI, zI, zI, zI, zI, .nil 3 1, zI, .nil 3 1, zI, zI, .nil 3 1, zI, zB, .nil 280 2], none, 0, false⟩),
  (168, ⟨true, 51, 0, 600, [(0, 166), (17, 166), (34, 166)], [zI, zI, zI, zI, zI, zI, zI, zI, .nil 3 1, zI, .nil 3 1, zI, zI, .nil 3 1, zI, zB, .nil 280 2, zI, zI, zI, zI, zI, zI, zI, zI, .nil 3 1, zI, .nil 3 1, zI, zI, .nil 3 1, zI, zB, .nil 280 2, zI, zI, zI, zI, zI, zI, zI, zI, .nil 3 1, zI, .nil 3 1, zI, zI, .nil 3 1, zI, zB, .nil 280 2], none, 0, false⟩),
  (170, ⟨true, 4, 0, 56, [(0, 9), (1, 3), (2, 3), (3, 112)], [zS, zI, zI, .nil 9 1], none, 0, false⟩),
  (171, ⟨true, 2, 0, 32, [(0, 3), (1, 64)], [zI, .nil 3 1], none, 0, false⟩),
  (172, ⟨true, 13, 0, 184, [(0, 3), (1, 170), (5, 170), (9, 171), (11, 171)], [zI, zS, zI, zI, .nil 9 1, zS, zI, zI, .nil 9 1, zI, .nil 3 1, zI, .nil 3 1], none, 0, false⟩),
  (173, ⟨true, 13, 0, 184, [(0, 3), (1, 170), (5, 170), (9, 171), (11, 171)], [zI, zS, zI, zI, .nil 9 1, zS, zI, zI, .nil 9 1, zI, .nil 3 1, zI, .nil 3 1], none, 0, false⟩),
  (174, ⟨true, 21, 0, 304, [(0, 87), (1, 4), (2, 170), (6, 171), (8, 173)], [.nil 166 17, zB, zS, zI, zI, .nil 9 1, zI, .nil 3 1, zI, zS, zI, zI, .nil 9 1, zS, zI, zI, .nil 9 1, zI, .nil 3 1, zI, .nil 3 1], none, 0, false⟩),
  (175, ⟨true, 21, 0, 304, [(0, 87), (1, 4), (2, 170), (6, 171), (8, 173)], [.nil 166 17, zB, zS, zI, zI, .nil 9 1, zI, .nil 3 1, zI, zS, zI, zI, .nil 9 1, zS, zI, zI, .nil 9 1, zI, .nil 3 1, zI, .nil 3 1], none, 0, false⟩),
  (176, ⟨true, 23, 0, 328, [(0, 3), (1, 9), (2, 175)], [zI, zS, .nil 166 17, zB, zS, zI, zI, .nil 9 1, zI, .nil 3 1, zI, zS, zI, zI, .nil 9 1, zS, zI, zI, .nil 9 1, zI, .nil 3 1, zI, .nil 3 1], none, 0, false⟩),
  (177, ⟨true, 23, 0, 328, [(0, 3), (1, 9), (2, 175)], [zI, zS, .nil 166 17, zB, zS, zI, zI, .nil 9 1, zI, .nil 3 1, zI, zS, zI, zI, .nil 9 1, zS, zI, zI, .nil 9 1, zI, .nil 3 1, zI, .nil 3 1], none, 0, false⟩),
  (190, ⟨true, 2, 0, 16, [(0, 3), (1, 3)], [zI, zI], none, 0, true⟩),
  (191, ⟨true, 2, 0, 16, [(0, 3), (1, 3)], [zI, zI], none, 0, true⟩),
  (280, ⟨true, 2, 0, 16, [(0, 3), (1, 3)], [zI, zI], none, 0, true⟩),
  (284, ⟨false, 1, 64, 24, [], [.nil 64 1], none, 0, false⟩),
  (296, ⟨false, 1, 5, 24, [], [.nil 5 1], none, 2, false⟩),
  (305, ⟨false, 1, 0, 4, [], [.pv (.int .u32 0)], some .u32, 0, false⟩),
  (306, ⟨false, 1, 0, 1, [], [.pv (.int .u8 0)], some .u8, 0, false⟩),
  (307, ⟨false, 1, 0, 1, [], [.pv (.int .u8 0)], some .u8, 0, false⟩),
  (310, ⟨false, 1, 0, 4, [], [.pv (.int .i32 0)], some .i32, 0, false⟩),
  (311, ⟨false, 1, 0, 4, [], [.pv (.int .i32 0)], some .i32, 0, false⟩)],
  [(0, []), (1, []), (2, []), (3, [.one (.sc)]), (4, [.one (.sc)]), (5, [.one (.sc)]), (6, [.agg [.sc, .own true 134 1, .own true 63 2, .own true 66 3, .own true 105 2, .own true 60 1, .own true 131 51, .own true 122 23]]), (7, [.one (.sc)]), (8, [.one (.sc)]), (9, [.one (.sc)]), (10, [.one (.sc)]), (11, [.one (.sc)]), (12, [.one (.sc)]), (13, [.one (.sc)]), (14, [.one (.sc)]), (15, [.one (.sc)]), (16, [.one (.sc)]), (17, [.one (.sc)]), (18, [.one (.sc)]), (19, [.one (.sc)]), (20, [.one (.own true 134 1)]), (21, [.one (.own true 63 2)]), (22, [.one (.own true 66 3)]), (23, [.one (.own true 105 2)]), (24, [.agg [.own true 60 1, .own true 131 51]]), (25, [.agg [.own true 122 23]]), (26, [.one (.sc)]), (27, [.one (.sc)]), (28, [.one (.sc)]), (29, [.one (.sc)]), (30, [.one (.sc)]), (31, [.one (.sc)]), (32, [.one (.sc)]), (33, [.one (.sc)]), (34, [.one (.sc)]), (35, [.one (.sc)]), (36, [.one (.sc)]), (37, [.one (.sc)]), (38, [.one (.sc)]), (39, [.one (.sc)]), (40, [.one (.sc)]), (41, [.one (.sc)]), (42, [.one (.sc)]), (43, [.one (.sc)]), (44, [.one (.sc)]), (45, [.one (.sc)]), (46, [.one (.sc)]), (47, [.one (.sc)]), (48, [.one (.sc)]), (49, [.one (.sc)]), (50, [.one (.sc)]), (51, [.one (.sc)]), (52, [.one (.sc)]), (53, [.one (.sc)]), (54, [.one (.sc)]), (55, [.one (.sc)]), (56, [.one (.sc)]), (57, [.one (.sc)]), (58, [.one (.sc)]), (59, [.one (.sc)]), (60, [.one (.sc)]), (61, [.agg [.own true 3 1]]), (62, [.agg [.own true 129 17, .own true 114 4]]), (63, [.agg [.own true 129 17, .own true 114 4, .own true 3 1]]), (64, [.agg [.own true 63 2, .sc]]), (65, [.one (.own true 60 1)]), (66, [.one (.own true 131 51)]), (67, [.one (.own true 122 23)]), (68, [.one (.sc)]), (69, [.one (.sc)]), (70, [.one (.sc)]), (71, [.one (.sc)]), (72, [.one (.sc)]), (73, [.one (.sc)]), (74, [.one (.sc)]), (75, [.one (.sc)]), (76, [.one (.sc)]), (77, [.one (.sc)]), (78, [.one (.sc)]), (79, [.one (.sc)]), (80, [.one (.sc)]), (81, [.one (.sc)]), (82, [.one (.sc)]), (83, [.one (.sc)]), (84, [.one (.sc)]), (85, [.one (.sc)]), (86, [.one (.sc)]), (87, [.one (.sc)]), (88, [.one (.sc)]), (89, [.one (.sc)]), (90, [.one (.sc)]), (91, [.one (.sc)]), (92, [.one (.sc)]), (93, [.one (.sc)]), (94, [.one (.sc)]), (95, [.one (.sc)]), (96, [.one (.sc)]), (97, [.one (.sc)]), (98, [.one (.sc)]), (99, [.one (.sc)]), (100, [.one (.sc)]), (101, [.one (.sc)]), (102, [.one (.sc)]), (103, [.agg [.sc, .sc, .sc, .sc, .sc, .sc, .sc, .sc, .pv, .sc, .pv, .sc, .sc, .pv, .sc, .sc], .one (.sc)]), (104, [.one (.sc)]), (105, [.one (.sc)]), (106, [.one (.sc)]), (107, [.one (.sc)]), (108, [.one (.sc)]), (109, [.one (.sc)]), (110, [.one (.sc)]), (111, [.one (.sc)]), (112, [.one (.sc)]), (113, [.one (.sc)]), (114, [.one (.sc)]), (115, [.one (.own true 3 1)]), (116, [.one (.own true 129 17)]), (117, [.one (.own true 114 4)]), (118, [.agg [.sc, .sc, .sc, .sc, .sc, .sc, .sc, .sc, .own true 3 1, .sc, .own true 3 1, .sc, .sc, .own true 3 1, .sc, .sc, .own true 191 2, .sc, .sc, .sc, .sc, .sc, .sc, .sc, .sc, .own true 3 1, .sc, .own true 3 1, .sc, .sc, .own true 3 1, .sc, .sc, .own true 191 2, .sc, .sc, .sc, .sc, .sc, .sc, .sc, .sc, .own true 3 1, .sc, .own true 3 1, .sc, .sc, .own true 3 1, .sc, .sc, .own true 191 2]]), (119, [.agg [.sc, .sc, .own true 129 17, .sc, .sc, .sc, .sc, .own true 9 1, .sc, .own true 3 1, .sc, .sc, .sc, .sc, .own true 9 1, .sc, .sc, .sc, .own true 9 1, .sc, .own true 3 1, .sc, .own true 3 1]]), (120, [.one (.sc)]), (121, [.one (.sc)]), (122, [.one (.sc)]), (123, [.one (.sc)]), (124, [.one (.sc)]), (125, [.one (.sc)]), (126, [.one (.sc)]), (127, [.one (.sc)]), (128, [.one (.sc)]), (129, [.agg [.sc, .sc, .sc, .sc, .sc, .sc, .sc, .sc, .pv, .sc, .pv, .sc, .sc, .pv, .sc, .sc]]), (130, [.one (.sc)]), (131, [.one (.sc)]), (132, [.one (.sc)]), (133, [.one (.sc)]), (134, [.one (.sc)]), (135, [.one (.sc)]), (136, [.agg [.sc, .sc, .sc, .sc, .sc, .sc, .sc, .sc, .own true 3 1, .sc, .own true 3 1, .sc, .sc, .own true 3 1, .sc, .sc], .one (.sc)]), (137, [.one (.sc)]), (138, [.one (.sc)]), (139, [.one (.sc)]), (140, [.agg [.pv, .sc]]), (141, [.one (.sc)]), (142, [.one (.sc)]), (143, [.one (.sc)]), (144, [.one (.sc)]), (145, [.one (.sc)]), (146, [.one (.sc)]), (147, [.one (.sc)]), (148, [.one (.sc)]), (149, [.one (.sc)]), (150, [.one (.sc)]), (151, [.one (.sc)]), (152, [.one (.sc)]), (153, [.one (.sc)]), (154, [.one (.sc)]), (155, [.one (.sc)]), (156, [.one (.sc)]), (157, [.agg [.sc, .sc, .sc, .sc, .sc, .sc, .sc, .sc, .pv, .sc, .pv, .sc, .sc, .pv, .sc, .sc]]), (158, [.one (.sc)]), (159, [.one (.sc)]), (160, [.one (.sc)]), (161, [.one (.sc)]), (162, [.one (.sc)]), (163, [.one (.own true 3 1)]), (164, [.one (.sc)]), (165, [.one (.sc)]), (166, [.one (.sc)]), (167, [.one (.sc)]), (168, [.one (.sc)]), (169, [.one (.sc)]), (170, [.agg [.sc, .sc, .sc, .sc, .sc, .sc, .sc, .sc, .own true 3 1, .sc, .own true 3 1, .sc, .sc, .own true 3 1, .sc, .sc, .own true 191 2]]), (171, [.agg [.sc, .sc, .sc, .own true 9 1]]), (172, [.agg [.own true 129 17, .sc, .sc, .sc, .sc, .own true 9 1, .sc, .own true 3 1, .sc, .sc, .sc, .sc, .own true 9 1, .sc, .sc, .sc, .own true 9 1, .sc, .own true 3 1, .sc, .own true 3 1]]), (173, [.one (.sc)]), (174, [.one (.sc)]), (175, [.one (.sc)]), (176, [.one (.sc)]), (177, [.one (.sc)]), (178, [.one (.sc)]), (179, [.one (.sc)]), (180, [.one (.sc)]), (181, [.one (.sc)]), (182, [.one (.sc)]), (183, [.agg [.sc, .sc, .sc, .sc, .sc, .sc, .sc, .sc, .own true 3 1, .sc, .own true 3 1, .sc, .sc, .own true 3 1, .sc, .sc]]), (184, [.one (.sc)]), (185, [.one (.sc)]), (186, [.one (.sc)]), (187, [.one (.sc)]), (188, [.one (.sc)]), (189, [.one (.sc)]), (190, [.one (.sc)]), (191, [.one (.sc)]), (192, [.one (.own true 3 1)]), (193, [.one (.sc)]), (194, [.one (.sc)]), (195, [.one (.sc)]), (196, [.one (.sc)]), (197, [.one (.sc)]), (198, [.one (.sc)]), (199, [.one (.sc)]), (200, [.one (.sc)]), (201, [.one (.sc)]), (202, [.one (.sc)]), (203, [.one (.sc)]), (204, [.one (.sc)]), (205, [.one (.sc)]), (206, [.agg [.pv, .sc]]), (207, [.one (.sc)]), (208, [.one (.sc)]), (209, [.one (.sc)]), (210, [.one (.sc)]), (211, [.one (.own true 3 1)]), (212, [.one (.own true 3 1)]), (213, [.one (.sc)]), (214, [.one (.sc)]), (215, [.one (.sc)]), (216, [.one (.sc)]), (217, [.one (.sc)]), (218, [.one (.sc)]), (219, [.one (.sc)]), (220, [.one (.sc)]), (221, [.agg [.sc, .sc, .sc, .sc, .sc, .sc, .sc, .sc, .own true 3 1, .sc, .own true 3 1, .sc, .sc, .own true 3 1, .sc, .sc]]), (222, [.one (.own true 191 2)]), (223, [.one (.own true 9 1)]), (224, [.agg [.sc, .own true 3 1]]), (225, [.agg [.sc, .sc, .sc, .sc, .own true 9 1, .sc, .sc, .sc, .own true 9 1, .sc, .own true 3 1, .sc, .own true 3 1]]), (226, [.one (.sc)]), (227, [.one (.sc)]), (228, [.one (.sc)]), (229, [.one (.sc)]), (230, [.one (.own true 3 1)]), (231, [.one (.sc)]), (232, [.one (.sc)]), (233, [.one (.sc)]), (234, [.one (.sc)]), (235, [.agg [.own true 3 1, .sc]]), (236, [.one (.sc)]), (237, [.one (.sc)]), (238, [.one (.sc)]), (239, [.one (.sc)]), (240, [.one (.sc)]), (241, [.one (.sc)]), (242, [.one (.own true 3 1)]), (243, [.one (.own true 3 1)]), (244, [.one (.sc)]), (245, [.one (.sc)]), (246, [.one (.sc)]), (247, [.one (.sc)]), (248, [.one (.sc)]), (249, [.one (.sc)]), (250, [.one (.sc)]), (251, [.one (.sc)]), (252, [.one (.sc)]), (253, [.one (.sc)]), (254, [.one (.sc)]), (255, [.one (.own true 3 1)]), (256, [.one (.sc)]), (257, [.one (.sc)]), (258, [.one (.sc)]), (259, [.one (.sc)]), (260, [.one (.sc)]), (261, [.one (.sc)]), (262, [.one (.sc)]), (263, [.one (.sc), .one (.sc)]), (264, [.one (.sc)]), (265, [.agg [.own true 3 1, .sc]]), (266, [.agg [.sc, .sc]]), (267, [.one (.sc)]), (268, [.one (.sc)]), (269, [.one (.sc)]), (270, [.one (.sc)]), (271, [.one (.sc)]), (272, [.one (.own true 3 1)]), (273, [.one (.sc)]), (274, [.one (.sc)]), (275, [.one (.sc)]), (276, [.one (.sc)]), (277, [.one (.sc)]), (278, [.one (.sc)]), (279, [.one (.sc)]), (280, [.one (.sc)]), (281, [.one (.sc)]), (282, [.one (.sc)]), (283, [.one (.sc)]), (284, [.one (.own true 3 1)]), (285, [.one (.sc), .one (.sc)]), (286, [.one (.sc)]), (287, [.one (.sc)]), (288, [.one (.own true 3 1)]), (289, [.one (.sc)]), (290, [.one (.sc)]), (291, [.one (.sc)]), (292, [.one (.sc)]), (293, [.one (.own true 3 1)]), (294, [.one (.sc)]), (295, [.one (.sc)]), (296, [.one (.sc)]), (297, [.one (.sc)]), (298, [.one (.sc)]), (299, [.one (.sc)]), (300, [.one (.sc)]), (301, [.one (.own true 3 1)]), (302, [.one (.sc)]), (303, [.one (.sc)]), (304, [.one (.sc)]), (305, [.one (.sc)]), (306, [.one (.own true 3 1)]), (307, [.one (.sc)]), (308, [.one (.sc)]), (309, [.one (.sc)]), (310, [.one (.own true 3 1)]), (311, [.one (.sc)]), (312, [.one (.sc)]), (313, [.one (.sc)]), (314, [.one (.own true 3 1)]), (315, [.one (.sc)]), (316, [.one (.own true 3 1)]), (317, [.one (.sc)]), (318, [.one (.sc)]), (319, [.one (.sc)]), (320, [.one (.sc)]), (321, []), (322, [.one (.sc)]), (323, []), (324, [.one (.sc)]), (325, []), (326, [.one (.sc)]), (327, []), (328, [.one (.sc)]), (329, []), (330, [.one (.sc)]), (331, []), (332, [.one (.sc)]), (333, [.one (.sc)]), (334, []), (335, [.one (.sc)]), (336, [.one (.sc)])], false, [288], [76], [129, 114]⟩
theorem tabok : TabOK Tryz.prog TT := tabB_ok (by kernel_rfl) (by kernel_rfl)
end Go.Ev
/- The library's comparison of strings, by the shelf's contract. -/
set_option maxRecDepth 100000
namespace Go.Ev
open Go.Proofs
def rhoC : Go.Shelf.Ren := ⟨fun n => match n with | 106 => 270 | 213 => 299 | 265 => 309 | _ => 0, fun t => t, fun g => g⟩
theorem laysC : Go.Proofs.Lays.n213 Tryz.prog rhoC where
  mixed := by kernel_rfl
  f213 := by kernel_rfl
  f265 := by kernel_rfl
  t3 := by kernel_rfl
  a3 := fun w => by kernel_rfl
  z3 := fun w => by kernel_rfl
  v3 := fun w => by kernel_rfl
  t9 := by kernel_rfl
  a9 := fun w => by kernel_rfl
  z9 := fun w => by kernel_rfl
  v9 := fun w => by kernel_rfl
def Qmy : GM
 | [.one (.str s), .one (.str t)], k => k [I (Go.Lib.compareBytes s.data.toList t.data.toList)]
 | _, _ => False
abbrev Qmy_e : Ent := ⟨[299], Qmy⟩
theorem Qmy_w : EntOK Tryz.prog TT Qmy_e := by
  intro f av out hk hg sg hsg
  injection hk with hk hn
  subst hk
  have hs : lk TT.sig 299 = some [.one .sc] := by kernel_rfl
  rw [hs] at hsg
  injection hsg with hsg
  subst hsg
  change Qmy av _ at hg
  unfold Qmy at hg
  split at hg
  · rename_i s t
    subst hg
    refine ⟨⟨Tryz.f299, Tryz.func299, by kernel_rfl, by kernel_rfl⟩, fun w S vals _ hS hv => ?_⟩
    obtain ⟨v1, r, rfl, h1, v2, r2, rfl, h2, h3⟩ := hv
    have h3 : r2 = [] := h3
    subst h3
    have e1 : v1 = .string s := RepS.str_inv h1
    have e2 : v2 = .string t := RepS.str_inv h2
    subst e1; subst e2
    refine (Any.bytealg_CompareString laysC s t w).mono ?_
    rintro e w' ⟨rfl, rfl⟩
    refine ⟨_, S, fun _ => none, [.int .i64 (Go.Lib.compareBytes s.data.toList t.data.toList)], rfl, rfl, .refl _ _, fun _ h => h, fun x hx => ⟨rfl, hS x hx, .inl hx⟩, fun x i h => (nomatch h), rfl, rfl, fun i ck v h4 h5 => ?_⟩
    cases i with
    | zero =>
      simp [allCks, RS.cks] at h4 h5
      subst h4; subst h5
      exact RepS.int
    | succ i => simp [allCks, RS.cks] at h4
  · exact hg.elim
end Go.Ev
set_option maxRecDepth 100000
set_option linter.unusedVariables false
namespace Go.Ev
open Go.Proofs
def Qaa : GM
 | [.one a0, .one a1], k => 
  lenP a0 fun r0 =>
  binP .sub a1 r0 fun r1 =>
  binP .lss r1 (I 0) fun r2 =>
  iteP r2
   (rt [.sc] [(I (-1))] k)
   (rt [.sc] [r1] k)
 | _, _ => False
abbrev Qaa_e : Ent := ⟨[98], Qaa⟩
theorem Qaa_w : EntOK Tryz.prog TT Qaa_e := ent_ok tabok (L := []) trivial (keep := []) (l := []) Tryz.func98 (by kernel_rfl) (sg := [.one (.sc)]) (by kernel_rfl) trivial fun av k h => by
  unfold Qaa at h; split at h
  · exact Eq.mpr (by kernel_rfl) h
  · exact h.elim
def Qab : GM
 | [.agg u0, .one a1], k => un 1 (fun a0 => 
  call Qaa [.one a0, .one a1] fun o0 =>
  binP .lss (atP o0 0) (I 0) fun r1 =>
  iteP r1
   (rt [.sc] [(I (-1))] k)
   (rt [.sc] [(atP o0 0)] k)) u0
 | _, _ => False
abbrev Qab_e : Ent := ⟨[41], Qab⟩
theorem Qab_w : EntOK Tryz.prog TT Qab_e := ent_ok tabok (L := [Qaa_e]) ⟨Qaa_w, trivial⟩ (keep := []) (l := []) Tryz.func41 (by kernel_rfl) (sg := [.one (.sc)]) (by kernel_rfl) trivial fun av k h => by
  unfold Qab at h; split at h
  · apply un_all h; clear h; intro a0 h; exact Eq.mpr (by kernel_rfl) h
  · exact h.elim
def Qac_r0 (v : List PV) (K : List PV → Prop) (x0k : Prop) (x1k : PV → PV → PV → PV → Prop) : Prop :=
 un 4 (fun v0 v1 v2 v3 =>
  lenP v0 fun r0 =>
  binP .lss v3 r0 fun r1 =>
  iteP r1
   (elemP 1 v0 v3 fun c2 =>
   call Qab [.agg [(atP c2 0)], .one v1] fun o3 =>
   binP .lss (atP o3 0) (I 0) fun r4 =>
   iteP r4
    (x0k)
    (binP .add v3 (I 1) fun r5 =>
    K [v0, (atP o3 0), v2, r5]))
   (x1k v0 v1 v2 v3)) v
def Qac : GM
 | [.one a0, .one a1], k => 
  lenP a0 fun r0 =>
  binP .sub a1 r0 fun r1 =>
  binP .lss r1 (I 0) fun r2 =>
  iteP r2
   (rt [.sc] [(I (-1))] k)
   (lp (fun L w => Qac_r0 w L
    (rt [.sc] [(I (-1))] k)
    (fun q6 q7 q8 q9 => rt [.sc] [q7] k)) [a0, r1, (I 0), (I 0)])
 | _, _ => False
abbrev Qac_e : Ent := ⟨[9], Qac⟩
def Qac_l : List LE := [⟨0, ⟨[(0, .one zB), (1, .one zB), (4, .one zB), (5, .one zB)], [], [], 0, 27⟩, fun K k v => Qac_r0 v K (k .ret ⟨[(4, .one (.pv (I (-1))))], [], [], 1, 27⟩) (fun x0 x1 x2 x3 => k (.exit 0) ⟨[(0, .one (.pv x0)), (1, .one (.pv x1)), (4, .one (.pv x2)), (5, .one (.pv x3))], [], [], 0, 27⟩)⟩]
theorem Qac_s : LEsOK (orac [Qab_e]) TT (kk [0, 1, 4, 5]) (sumsOf Qac_l) Tryz.f9 Qac_l := ⟨fun v K k h => by
  apply un_all h; exact fun v0 v1 v2 v3 h => Eq.mpr (by kernel_rfl) h
  , trivial⟩
theorem Qac_w : EntOK Tryz.prog TT Qac_e := ent_ok tabok (L := [Qab_e]) ⟨Qab_w, trivial⟩ (keep := (kk [0, 1, 4, 5])) (l := Qac_l) Tryz.func9 (by kernel_rfl) (sg := [.one (.sc)]) (by kernel_rfl) Qac_s fun av k h => by
  unfold Qac at h; split at h
  · exact Eq.mpr (by kernel_rfl) h
  · exact h.elim
def Qad : GM
 | [.agg u0, .one a2], k => un 2 (fun a0 a1 => 
  call Qaa [.one a0, .one a2] fun o0 =>
  binP .lss (atP o0 0) (I 0) fun r1 =>
  iteP r1
   (rt [.sc] [(I (-1))] k)
   (rt [.sc] [(atP o0 0)] k)) u0
 | _, _ => False
abbrev Qad_e : Ent := ⟨[251], Qad⟩
theorem Qad_w : EntOK Tryz.prog TT Qad_e := ent_ok tabok (L := [Qaa_e]) ⟨Qaa_w, trivial⟩ (keep := []) (l := []) Tryz.func251 (by kernel_rfl) (sg := [.one (.sc)]) (by kernel_rfl) trivial fun av k h => by
  unfold Qad at h; split at h
  · apply un_all h; clear h; intro a0 a1 h; exact Eq.mpr (by kernel_rfl) h
  · exact h.elim
def Qae : GM
 | [.agg u0, .one a16], k => un 16 (fun a0 a1 a2 a3 a4 a5 a6 a7 a8 a9 a10 a11 a12 a13 a14 a15 => 
  call Qad [.agg [a8, a9], .one a16] fun o0 =>
  binP .lss (atP o0 0) (I 0) fun r1 =>
  iteP r1
   (rt [.sc] [(I (-1))] k)
   (call Qad [.agg [a10, a11], .one (atP o0 0)] fun o2 =>
   binP .lss (atP o2 0) (I 0) fun r3 =>
   iteP r3
    (rt [.sc] [(I (-1))] k)
    (call Qad [.agg [a13, a14], .one (atP o2 0)] fun o4 =>
    binP .lss (atP o4 0) (I 0) fun r5 =>
    iteP r5
     (rt [.sc] [(I (-1))] k)
     (rt [.sc] [(atP o4 0)] k)))) u0
 | _, _ => False
abbrev Qae_e : Ent := ⟨[201], Qae⟩
theorem Qae_w : EntOK Tryz.prog TT Qae_e := ent_ok tabok (L := [Qad_e]) ⟨Qad_w, trivial⟩ (keep := []) (l := []) Tryz.func201 (by kernel_rfl) (sg := [.one (.sc)]) (by kernel_rfl) trivial fun av k h => by
  unfold Qae at h; split at h
  · apply un_all h; clear h; intro a0 a1 a2 a3 a4 a5 a6 a7 a8 a9 a10 a11 a12 a13 a14 a15 h; exact Eq.mpr (by kernel_rfl) h
  · exact h.elim
def Qaf : GM
 | [.one a0, .one a1], k => 
  lenP a0 fun r0 =>
  binP .sub a1 r0 fun r1 =>
  binP .lss r1 (I 0) fun r2 =>
  iteP r2
   (rt [.sc] [(I (-1))] k)
   (rt [.sc] [r1] k)
 | _, _ => False
abbrev Qaf_e : Ent := ⟨[202], Qaf⟩
theorem Qaf_w : EntOK Tryz.prog TT Qaf_e := ent_ok tabok (L := []) trivial (keep := []) (l := []) Tryz.func202 (by kernel_rfl) (sg := [.one (.sc)]) (by kernel_rfl) trivial fun av k h => by
  unfold Qaf at h; split at h
  · exact Eq.mpr (by kernel_rfl) h
  · exact h.elim
def Qag : GM
 | [.agg u0, .one a17], k => un 17 (fun a0 a1 a2 a3 a4 a5 a6 a7 a8 a9 a10 a11 a12 a13 a14 a15 a16 => 
  call Qae [.agg [a0, a1, a2, a3, a4, a5, a6, a7, a8, a9, a10, a11, a12, a13, a14, a15], .one a17] fun o0 =>
  binP .lss (atP o0 0) (I 0) fun r1 =>
  iteP r1
   (rt [.sc] [(I (-1))] k)
   (call Qaf [.one a16, .one (atP o0 0)] fun o2 =>
   binP .lss (atP o2 0) (I 0) fun r3 =>
   iteP r3
    (rt [.sc] [(I (-1))] k)
    (rt [.sc] [(atP o2 0)] k))) u0
 | _, _ => False
abbrev Qag_e : Ent := ⟨[154], Qag⟩
theorem Qag_w : EntOK Tryz.prog TT Qag_e := ent_ok tabok (L := [Qae_e, Qaf_e]) ⟨Qae_w, Qaf_w, trivial⟩ (keep := []) (l := []) Tryz.func154 (by kernel_rfl) (sg := [.one (.sc)]) (by kernel_rfl) trivial fun av k h => by
  unfold Qag at h; split at h
  · apply un_all h; clear h; intro a0 a1 a2 a3 a4 a5 a6 a7 a8 a9 a10 a11 a12 a13 a14 a15 a16 h; exact Eq.mpr (by kernel_rfl) h
  · exact h.elim
def Qah_r0 (v : List PV) (K : List PV → Prop) (x0k : Prop) (x1k : PV → PV → PV → PV → Prop) : Prop :=
 un 4 (fun v0 v1 v2 v3 =>
  lenP v0 fun r0 =>
  binP .lss v3 r0 fun r1 =>
  iteP r1
   (elemP 17 v0 v3 fun c2 =>
   call Qag [.agg [(atP c2 0), (atP c2 1), (atP c2 2), (atP c2 3), (atP c2 4), (atP c2 5), (atP c2 6), (atP c2 7), (atP c2 8), (atP c2 9), (atP c2 10), (atP c2 11), (atP c2 12), (atP c2 13), (atP c2 14), (atP c2 15), (atP c2 16)], .one v1] fun o3 =>
   binP .lss (atP o3 0) (I 0) fun r4 =>
   iteP r4
    (x0k)
    (binP .add v3 (I 1) fun r5 =>
    K [v0, (atP o3 0), v2, r5]))
   (x1k v0 v1 v2 v3)) v
def Qah : GM
 | [.one a0, .one a1], k => 
  lenP a0 fun r0 =>
  binP .sub a1 r0 fun r1 =>
  binP .lss r1 (I 0) fun r2 =>
  iteP r2
   (rt [.sc] [(I (-1))] k)
   (lp (fun L w => Qah_r0 w L
    (rt [.sc] [(I (-1))] k)
    (fun q6 q7 q8 q9 => rt [.sc] [q7] k)) [a0, r1, (I 0), (I 0)])
 | _, _ => False
abbrev Qah_e : Ent := ⟨[99], Qah⟩
def Qah_l : List LE := [⟨0, ⟨[(0, .one zB), (1, .one zB), (4, .one zB), (5, .one zB)], [], [], 0, 27⟩, fun K k v => Qah_r0 v K (k .ret ⟨[(4, .one (.pv (I (-1))))], [], [], 1, 27⟩) (fun x0 x1 x2 x3 => k (.exit 0) ⟨[(0, .one (.pv x0)), (1, .one (.pv x1)), (4, .one (.pv x2)), (5, .one (.pv x3))], [], [], 0, 27⟩)⟩]
theorem Qah_s : LEsOK (orac [Qag_e]) TT (kk [0, 1, 4, 5]) (sumsOf Qah_l) Tryz.f99 Qah_l := ⟨fun v K k h => by
  apply un_all h; exact fun v0 v1 v2 v3 h => Eq.mpr (by kernel_rfl) h
  , trivial⟩
theorem Qah_w : EntOK Tryz.prog TT Qah_e := ent_ok tabok (L := [Qag_e]) ⟨Qag_w, trivial⟩ (keep := (kk [0, 1, 4, 5])) (l := Qah_l) Tryz.func99 (by kernel_rfl) (sg := [.one (.sc)]) (by kernel_rfl) Qah_s fun av k h => by
  unfold Qah at h; split at h
  · exact Eq.mpr (by kernel_rfl) h
  · exact h.elim
def Qai_r0 (v : List PV) (K : List PV → Prop) (x0k : Prop) (x1k : PV → PV → PV → PV → Prop) : Prop :=
 un 4 (fun v0 v1 v2 v3 =>
  lenP v0 fun r0 =>
  binP .lss v3 r0 fun r1 =>
  iteP r1
   (elemP 1 v0 v3 fun c2 =>
   lenS (atP c2 0) fun r3 =>
   binP .sub v1 r3 fun r4 =>
   binP .lss r4 (I 0) fun r5 =>
   iteP r5
    (x0k)
    (binP .add v3 (I 1) fun r6 =>
    K [v0, r4, v2, r6]))
   (x1k v0 v1 v2 v3)) v
def Qai : GM
 | [.one a0, .one a1], k => 
  lenP a0 fun r0 =>
  binP .sub a1 r0 fun r1 =>
  binP .lss r1 (I 0) fun r2 =>
  iteP r2
   (rt [.sc] [(I (-1))] k)
   (lp (fun L w => Qai_r0 w L
    (rt [.sc] [(I (-1))] k)
    (fun q7 q8 q9 q10 => rt [.sc] [q8] k)) [a0, r1, (I 0), (I 0)])
 | _, _ => False
abbrev Qai_e : Ent := ⟨[203], Qai⟩
def Qai_l : List LE := [⟨0, ⟨[(0, .one zB), (1, .one zB), (4, .one zB), (5, .one zB)], [], [], 0, 28⟩, fun K k v => Qai_r0 v K (k .ret ⟨[(4, .one (.pv (I (-1))))], [], [], 0, 28⟩) (fun x0 x1 x2 x3 => k (.exit 0) ⟨[(0, .one (.pv x0)), (1, .one (.pv x1)), (4, .one (.pv x2)), (5, .one (.pv x3))], [], [], 0, 28⟩)⟩]
theorem Qai_s : LEsOK (orac []) TT (kk [0, 1, 4, 5]) (sumsOf Qai_l) Tryz.f203 Qai_l := ⟨fun v K k h => by
  apply un_all h; exact fun v0 v1 v2 v3 h => Eq.mpr (by kernel_rfl) h
  , trivial⟩
theorem Qai_w : EntOK Tryz.prog TT Qai_e := ent_ok tabok (L := []) trivial (keep := (kk [0, 1, 4, 5])) (l := Qai_l) Tryz.func203 (by kernel_rfl) (sg := [.one (.sc)]) (by kernel_rfl) Qai_s fun av k h => by
  unfold Qai at h; split at h
  · exact Eq.mpr (by kernel_rfl) h
  · exact h.elim
def Qaj : GM
 | [.agg u0, .one a4], k => un 4 (fun a0 a1 a2 a3 => 
  lenS a0 fun r0 =>
  binP .sub a4 r0 fun r1 =>
  binP .lss r1 (I 0) fun r2 =>
  iteP r2
   (rt [.sc] [(I (-1))] k)
   (call Qai [.one a3, .one r1] fun o3 =>
   binP .lss (atP o3 0) (I 0) fun r4 =>
   iteP r4
    (rt [.sc] [(I (-1))] k)
    (rt [.sc] [(atP o3 0)] k))) u0
 | _, _ => False
abbrev Qaj_e : Ent := ⟨[155], Qaj⟩
theorem Qaj_w : EntOK Tryz.prog TT Qaj_e := ent_ok tabok (L := [Qai_e]) ⟨Qai_w, trivial⟩ (keep := []) (l := []) Tryz.func155 (by kernel_rfl) (sg := [.one (.sc)]) (by kernel_rfl) trivial fun av k h => by
  unfold Qaj at h; split at h
  · apply un_all h; clear h; intro a0 a1 a2 a3 h; exact Eq.mpr (by kernel_rfl) h
  · exact h.elim
def Qak_r0 (v : List PV) (K : List PV → Prop) (x0k : Prop) (x1k : PV → PV → PV → PV → Prop) : Prop :=
 un 4 (fun v0 v1 v2 v3 =>
  lenP v0 fun r0 =>
  binP .lss v3 r0 fun r1 =>
  iteP r1
   (elemP 4 v0 v3 fun c2 =>
   call Qaj [.agg [(atP c2 0), (atP c2 1), (atP c2 2), (atP c2 3)], .one v1] fun o3 =>
   binP .lss (atP o3 0) (I 0) fun r4 =>
   iteP r4
    (x0k)
    (binP .add v3 (I 1) fun r5 =>
    K [v0, (atP o3 0), v2, r5]))
   (x1k v0 v1 v2 v3)) v
def Qak : GM
 | [.one a0, .one a1], k => 
  lenP a0 fun r0 =>
  binP .sub a1 r0 fun r1 =>
  binP .lss r1 (I 0) fun r2 =>
  iteP r2
   (rt [.sc] [(I (-1))] k)
   (lp (fun L w => Qak_r0 w L
    (rt [.sc] [(I (-1))] k)
    (fun q6 q7 q8 q9 => rt [.sc] [q7] k)) [a0, r1, (I 0), (I 0)])
 | _, _ => False
abbrev Qak_e : Ent := ⟨[100], Qak⟩
def Qak_l : List LE := [⟨0, ⟨[(0, .one zB), (1, .one zB), (4, .one zB), (5, .one zB)], [], [], 0, 27⟩, fun K k v => Qak_r0 v K (k .ret ⟨[(4, .one (.pv (I (-1))))], [], [], 1, 27⟩) (fun x0 x1 x2 x3 => k (.exit 0) ⟨[(0, .one (.pv x0)), (1, .one (.pv x1)), (4, .one (.pv x2)), (5, .one (.pv x3))], [], [], 0, 27⟩)⟩]
theorem Qak_s : LEsOK (orac [Qaj_e]) TT (kk [0, 1, 4, 5]) (sumsOf Qak_l) Tryz.f100 Qak_l := ⟨fun v K k h => by
  apply un_all h; exact fun v0 v1 v2 v3 h => Eq.mpr (by kernel_rfl) h
  , trivial⟩
theorem Qak_w : EntOK Tryz.prog TT Qak_e := ent_ok tabok (L := [Qaj_e]) ⟨Qaj_w, trivial⟩ (keep := (kk [0, 1, 4, 5])) (l := Qak_l) Tryz.func100 (by kernel_rfl) (sg := [.one (.sc)]) (by kernel_rfl) Qak_s fun av k h => by
  unfold Qak at h; split at h
  · exact Eq.mpr (by kernel_rfl) h
  · exact h.elim
def Qal : GM
 | [.agg u0, .one a2], k => un 2 (fun a0 a1 => 
  call Qah [.one a0, .one a2] fun o0 =>
  binP .lss (atP o0 0) (I 0) fun r1 =>
  iteP r1
   (rt [.sc] [(I (-1))] k)
   (call Qak [.one a1, .one (atP o0 0)] fun o2 =>
   binP .lss (atP o2 0) (I 0) fun r3 =>
   iteP r3
    (rt [.sc] [(I (-1))] k)
    (rt [.sc] [(atP o2 0)] k))) u0
 | _, _ => False
abbrev Qal_e : Ent := ⟨[42], Qal⟩
theorem Qal_w : EntOK Tryz.prog TT Qal_e := ent_ok tabok (L := [Qah_e, Qak_e]) ⟨Qah_w, Qak_w, trivial⟩ (keep := []) (l := []) Tryz.func42 (by kernel_rfl) (sg := [.one (.sc)]) (by kernel_rfl) trivial fun av k h => by
  unfold Qal at h; split at h
  · apply un_all h; clear h; intro a0 a1 h; exact Eq.mpr (by kernel_rfl) h
  · exact h.elim
def Qam_r0 (v : List PV) (K : List PV → Prop) (x0k : Prop) (x1k : PV → PV → PV → PV → Prop) : Prop :=
 un 4 (fun v0 v1 v2 v3 =>
  lenP v0 fun r0 =>
  binP .lss v3 r0 fun r1 =>
  iteP r1
   (elemP 2 v0 v3 fun c2 =>
   call Qal [.agg [(atP c2 0), (atP c2 1)], .one v1] fun o3 =>
   binP .lss (atP o3 0) (I 0) fun r4 =>
   iteP r4
    (x0k)
    (binP .add v3 (I 1) fun r5 =>
    K [v0, (atP o3 0), v2, r5]))
   (x1k v0 v1 v2 v3)) v
def Qam : GM
 | [.one a0, .one a1], k => 
  lenP a0 fun r0 =>
  binP .sub a1 r0 fun r1 =>
  binP .lss r1 (I 0) fun r2 =>
  iteP r2
   (rt [.sc] [(I (-1))] k)
   (lp (fun L w => Qam_r0 w L
    (rt [.sc] [(I (-1))] k)
    (fun q6 q7 q8 q9 => rt [.sc] [q7] k)) [a0, r1, (I 0), (I 0)])
 | _, _ => False
abbrev Qam_e : Ent := ⟨[10], Qam⟩
def Qam_l : List LE := [⟨0, ⟨[(0, .one zB), (1, .one zB), (4, .one zB), (5, .one zB)], [], [], 0, 27⟩, fun K k v => Qam_r0 v K (k .ret ⟨[(4, .one (.pv (I (-1))))], [], [], 1, 27⟩) (fun x0 x1 x2 x3 => k (.exit 0) ⟨[(0, .one (.pv x0)), (1, .one (.pv x1)), (4, .one (.pv x2)), (5, .one (.pv x3))], [], [], 0, 27⟩)⟩]
theorem Qam_s : LEsOK (orac [Qal_e]) TT (kk [0, 1, 4, 5]) (sumsOf Qam_l) Tryz.f10 Qam_l := ⟨fun v K k h => by
  apply un_all h; exact fun v0 v1 v2 v3 h => Eq.mpr (by kernel_rfl) h
  , trivial⟩
theorem Qam_w : EntOK Tryz.prog TT Qam_e := ent_ok tabok (L := [Qal_e]) ⟨Qal_w, trivial⟩ (keep := (kk [0, 1, 4, 5])) (l := Qam_l) Tryz.func10 (by kernel_rfl) (sg := [.one (.sc)]) (by kernel_rfl) Qam_s fun av k h => by
  unfold Qam at h; split at h
  · exact Eq.mpr (by kernel_rfl) h
  · exact h.elim
def Qan : GM
 | [.agg u0, .one a3], k => un 3 (fun a0 a1 a2 => 
  call Qal [.agg [a0, a1], .one a3] fun o0 =>
  binP .lss (atP o0 0) (I 0) fun r1 =>
  iteP r1
   (rt [.sc] [(I (-1))] k)
   (call Qaa [.one a2, .one (atP o0 0)] fun o2 =>
   binP .lss (atP o2 0) (I 0) fun r3 =>
   iteP r3
    (rt [.sc] [(I (-1))] k)
    (rt [.sc] [(atP o2 0)] k))) u0
 | _, _ => False
abbrev Qan_e : Ent := ⟨[43], Qan⟩
theorem Qan_w : EntOK Tryz.prog TT Qan_e := ent_ok tabok (L := [Qal_e, Qaa_e]) ⟨Qal_w, Qaa_w, trivial⟩ (keep := []) (l := []) Tryz.func43 (by kernel_rfl) (sg := [.one (.sc)]) (by kernel_rfl) trivial fun av k h => by
  unfold Qan at h; split at h
  · apply un_all h; clear h; intro a0 a1 a2 h; exact Eq.mpr (by kernel_rfl) h
  · exact h.elim
def Qao_r0 (v : List PV) (K : List PV → Prop) (x0k : Prop) (x1k : PV → PV → PV → PV → Prop) : Prop :=
 un 4 (fun v0 v1 v2 v3 =>
  lenP v0 fun r0 =>
  binP .lss v3 r0 fun r1 =>
  iteP r1
   (elemP 3 v0 v3 fun c2 =>
   call Qan [.agg [(atP c2 0), (atP c2 1), (atP c2 2)], .one v1] fun o3 =>
   binP .lss (atP o3 0) (I 0) fun r4 =>
   iteP r4
    (x0k)
    (binP .add v3 (I 1) fun r5 =>
    K [v0, (atP o3 0), v2, r5]))
   (x1k v0 v1 v2 v3)) v
def Qao : GM
 | [.one a0, .one a1], k => 
  lenP a0 fun r0 =>
  binP .sub a1 r0 fun r1 =>
  binP .lss r1 (I 0) fun r2 =>
  iteP r2
   (rt [.sc] [(I (-1))] k)
   (lp (fun L w => Qao_r0 w L
    (rt [.sc] [(I (-1))] k)
    (fun q6 q7 q8 q9 => rt [.sc] [q7] k)) [a0, r1, (I 0), (I 0)])
 | _, _ => False
abbrev Qao_e : Ent := ⟨[11], Qao⟩
def Qao_l : List LE := [⟨0, ⟨[(0, .one zB), (1, .one zB), (4, .one zB), (5, .one zB)], [], [], 0, 27⟩, fun K k v => Qao_r0 v K (k .ret ⟨[(4, .one (.pv (I (-1))))], [], [], 1, 27⟩) (fun x0 x1 x2 x3 => k (.exit 0) ⟨[(0, .one (.pv x0)), (1, .one (.pv x1)), (4, .one (.pv x2)), (5, .one (.pv x3))], [], [], 0, 27⟩)⟩]
theorem Qao_s : LEsOK (orac [Qan_e]) TT (kk [0, 1, 4, 5]) (sumsOf Qao_l) Tryz.f11 Qao_l := ⟨fun v K k h => by
  apply un_all h; exact fun v0 v1 v2 v3 h => Eq.mpr (by kernel_rfl) h
  , trivial⟩
theorem Qao_w : EntOK Tryz.prog TT Qao_e := ent_ok tabok (L := [Qan_e]) ⟨Qan_w, trivial⟩ (keep := (kk [0, 1, 4, 5])) (l := Qao_l) Tryz.func11 (by kernel_rfl) (sg := [.one (.sc)]) (by kernel_rfl) Qao_s fun av k h => by
  unfold Qao at h; split at h
  · exact Eq.mpr (by kernel_rfl) h
  · exact h.elim
def Qap : GM
 | [.agg u0, .one a2], k => un 2 (fun a0 a1 => 
  call Qam [.one a0, .one a2] fun o0 =>
  binP .lss (atP o0 0) (I 0) fun r1 =>
  iteP r1
   (rt [.sc] [(I (-1))] k)
   (rt [.sc] [(atP o0 0)] k)) u0
 | _, _ => False
abbrev Qap_e : Ent := ⟨[44], Qap⟩
theorem Qap_w : EntOK Tryz.prog TT Qap_e := ent_ok tabok (L := [Qam_e]) ⟨Qam_w, trivial⟩ (keep := []) (l := []) Tryz.func44 (by kernel_rfl) (sg := [.one (.sc)]) (by kernel_rfl) trivial fun av k h => by
  unfold Qap at h; split at h
  · apply un_all h; clear h; intro a0 a1 h; exact Eq.mpr (by kernel_rfl) h
  · exact h.elim
def Qaq_r0 (v : List PV) (K : List PV → Prop) (x0k : Prop) (x1k : PV → PV → PV → PV → Prop) : Prop :=
 un 4 (fun v0 v1 v2 v3 =>
  lenP v0 fun r0 =>
  binP .lss v3 r0 fun r1 =>
  iteP r1
   (elemP 2 v0 v3 fun c2 =>
   call Qap [.agg [(atP c2 0), (atP c2 1)], .one v1] fun o3 =>
   binP .lss (atP o3 0) (I 0) fun r4 =>
   iteP r4
    (x0k)
    (binP .add v3 (I 1) fun r5 =>
    K [v0, (atP o3 0), v2, r5]))
   (x1k v0 v1 v2 v3)) v
def Qaq : GM
 | [.one a0, .one a1], k => 
  lenP a0 fun r0 =>
  binP .sub a1 r0 fun r1 =>
  binP .lss r1 (I 0) fun r2 =>
  iteP r2
   (rt [.sc] [(I (-1))] k)
   (lp (fun L w => Qaq_r0 w L
    (rt [.sc] [(I (-1))] k)
    (fun q6 q7 q8 q9 => rt [.sc] [q7] k)) [a0, r1, (I 0), (I 0)])
 | _, _ => False
abbrev Qaq_e : Ent := ⟨[12], Qaq⟩
def Qaq_l : List LE := [⟨0, ⟨[(0, .one zB), (1, .one zB), (4, .one zB), (5, .one zB)], [], [], 0, 27⟩, fun K k v => Qaq_r0 v K (k .ret ⟨[(4, .one (.pv (I (-1))))], [], [], 1, 27⟩) (fun x0 x1 x2 x3 => k (.exit 0) ⟨[(0, .one (.pv x0)), (1, .one (.pv x1)), (4, .one (.pv x2)), (5, .one (.pv x3))], [], [], 0, 27⟩)⟩]
theorem Qaq_s : LEsOK (orac [Qap_e]) TT (kk [0, 1, 4, 5]) (sumsOf Qaq_l) Tryz.f12 Qaq_l := ⟨fun v K k h => by
  apply un_all h; exact fun v0 v1 v2 v3 h => Eq.mpr (by kernel_rfl) h
  , trivial⟩
theorem Qaq_w : EntOK Tryz.prog TT Qaq_e := ent_ok tabok (L := [Qap_e]) ⟨Qap_w, trivial⟩ (keep := (kk [0, 1, 4, 5])) (l := Qaq_l) Tryz.func12 (by kernel_rfl) (sg := [.one (.sc)]) (by kernel_rfl) Qaq_s fun av k h => by
  unfold Qaq at h; split at h
  · exact Eq.mpr (by kernel_rfl) h
  · exact h.elim
def Qar_r0 (v : List PV) (K : List PV → Prop) (x0k : Prop) (x1k : PV → PV → PV → PV → Prop) : Prop :=
 un 4 (fun v0 v1 v2 v3 =>
  lenP v0 fun r0 =>
  binP .lss v3 r0 fun r1 =>
  iteP r1
   (elemP 1 v0 v3 fun c2 =>
   call Qah [.one (atP c2 0), .one v1] fun o3 =>
   binP .lss (atP o3 0) (I 0) fun r4 =>
   iteP r4
    (x0k)
    (binP .add v3 (I 1) fun r5 =>
    K [v0, (atP o3 0), v2, r5]))
   (x1k v0 v1 v2 v3)) v
def Qar : GM
 | [.one a0, .one a1], k => 
  lenP a0 fun r0 =>
  binP .sub a1 r0 fun r1 =>
  binP .lss r1 (I 0) fun r2 =>
  iteP r2
   (rt [.sc] [(I (-1))] k)
   (lp (fun L w => Qar_r0 w L
    (rt [.sc] [(I (-1))] k)
    (fun q6 q7 q8 q9 => rt [.sc] [q7] k)) [a0, r1, (I 0), (I 0)])
 | _, _ => False
abbrev Qar_e : Ent := ⟨[45], Qar⟩
def Qar_l : List LE := [⟨0, ⟨[(0, .one zB), (1, .one zB), (4, .one zB), (5, .one zB)], [], [], 0, 27⟩, fun K k v => Qar_r0 v K (k .ret ⟨[(4, .one (.pv (I (-1))))], [], [], 1, 27⟩) (fun x0 x1 x2 x3 => k (.exit 0) ⟨[(0, .one (.pv x0)), (1, .one (.pv x1)), (4, .one (.pv x2)), (5, .one (.pv x3))], [], [], 0, 27⟩)⟩]
theorem Qar_s : LEsOK (orac [Qah_e]) TT (kk [0, 1, 4, 5]) (sumsOf Qar_l) Tryz.f45 Qar_l := ⟨fun v K k h => by
  apply un_all h; exact fun v0 v1 v2 v3 h => Eq.mpr (by kernel_rfl) h
  , trivial⟩
theorem Qar_w : EntOK Tryz.prog TT Qar_e := ent_ok tabok (L := [Qah_e]) ⟨Qah_w, trivial⟩ (keep := (kk [0, 1, 4, 5])) (l := Qar_l) Tryz.func45 (by kernel_rfl) (sg := [.one (.sc)]) (by kernel_rfl) Qar_s fun av k h => by
  unfold Qar at h; split at h
  · exact Eq.mpr (by kernel_rfl) h
  · exact h.elim
def Qas : GM
 | [.agg u0, .one a51], k => un 51 (fun a0 a1 a2 a3 a4 a5 a6 a7 a8 a9 a10 a11 a12 a13 a14 a15 a16 a17 a18 a19 a20 a21 a22 a23 a24 a25 a26 a27 a28 a29 a30 a31 a32 a33 a34 a35 a36 a37 a38 a39 a40 a41 a42 a43 a44 a45 a46 a47 a48 a49 a50 => 
  call Qag [.agg [a0, a1, a2, a3, a4, a5, a6, a7, a8, a9, a10, a11, a12, a13, a14, a15, a16], .one a51] fun o0 =>
  binP .lss (atP o0 0) (I 0) fun r1 =>
  iteP r1
   (rt [.sc] [(I (-1))] k)
   (call Qag [.agg [a17, a18, a19, a20, a21, a22, a23, a24, a25, a26, a27, a28, a29, a30, a31, a32, a33], .one (atP o0 0)] fun o2 =>
   binP .lss (atP o2 0) (I 0) fun r3 =>
   iteP r3
    (rt [.sc] [(I (-1))] k)
    (call Qag [.agg [a34, a35, a36, a37, a38, a39, a40, a41, a42, a43, a44, a45, a46, a47, a48, a49, a50], .one (atP o2 0)] fun o4 =>
    binP .lss (atP o4 0) (I 0) fun r5 =>
    iteP r5
     (rt [.sc] [(I (-1))] k)
     (rt [.sc] [(atP o4 0)] k)))) u0
 | _, _ => False
abbrev Qas_e : Ent := ⟨[101], Qas⟩
theorem Qas_w : EntOK Tryz.prog TT Qas_e := ent_ok tabok (L := [Qag_e]) ⟨Qag_w, trivial⟩ (keep := []) (l := []) Tryz.func101 (by kernel_rfl) (sg := [.one (.sc)]) (by kernel_rfl) trivial fun av k h => by
  unfold Qas at h; split at h
  · apply un_all h; clear h; intro a0 a1 a2 a3 a4 a5 a6 a7 a8 a9 a10 a11 a12 a13 a14 a15 a16 a17 a18 a19 a20 a21 a22 a23 a24 a25 a26 a27 a28 a29 a30 a31 a32 a33 a34 a35 a36 a37 a38 a39 a40 a41 a42 a43 a44 a45 a46 a47 a48 a49 a50 h; exact Eq.mpr (by kernel_rfl) h
  · exact h.elim
def Qat_r0 (v : List PV) (K : List PV → Prop) (x0k : Prop) (x1k : PV → PV → PV → PV → Prop) : Prop :=
 un 4 (fun v0 v1 v2 v3 =>
  lenP v0 fun r0 =>
  binP .lss v3 r0 fun r1 =>
  iteP r1
   (elemP 51 v0 v3 fun c2 =>
   call Qas [.agg [(atP c2 0), (atP c2 1), (atP c2 2), (atP c2 3), (atP c2 4), (atP c2 5), (atP c2 6), (atP c2 7), (atP c2 8), (atP c2 9), (atP c2 10), (atP c2 11), (atP c2 12), (atP c2 13), (atP c2 14), (atP c2 15), (atP c2 16), (atP c2 17), (atP c2 18), (atP c2 19), (atP c2 20), (atP c2 21), (atP c2 22), (atP c2 23), (atP c2 24), (atP c2 25), (atP c2 26), (atP c2 27), (atP c2 28), (atP c2 29), (atP c2 30), (atP c2 31), (atP c2 32), (atP c2 33), (atP c2 34), (atP c2 35), (atP c2 36), (atP c2 37), (atP c2 38), (atP c2 39), (atP c2 40), (atP c2 41), (atP c2 42), (atP c2 43), (atP c2 44), (atP c2 45), (atP c2 46), (atP c2 47), (atP c2 48), (atP c2 49), (atP c2 50)], .one v1] fun o3 =>
   binP .lss (atP o3 0) (I 0) fun r4 =>
   iteP r4
    (x0k)
    (binP .add v3 (I 1) fun r5 =>
    K [v0, (atP o3 0), v2, r5]))
   (x1k v0 v1 v2 v3)) v
def Qat : GM
 | [.one a0, .one a1], k => 
  lenP a0 fun r0 =>
  binP .sub a1 r0 fun r1 =>
  binP .lss r1 (I 0) fun r2 =>
  iteP r2
   (rt [.sc] [(I (-1))] k)
   (lp (fun L w => Qat_r0 w L
    (rt [.sc] [(I (-1))] k)
    (fun q6 q7 q8 q9 => rt [.sc] [q7] k)) [a0, r1, (I 0), (I 0)])
 | _, _ => False
abbrev Qat_e : Ent := ⟨[46], Qat⟩
def Qat_l : List LE := [⟨0, ⟨[(0, .one zB), (1, .one zB), (4, .one zB), (5, .one zB)], [], [], 0, 27⟩, fun K k v => Qat_r0 v K (k .ret ⟨[(4, .one (.pv (I (-1))))], [], [], 1, 27⟩) (fun x0 x1 x2 x3 => k (.exit 0) ⟨[(0, .one (.pv x0)), (1, .one (.pv x1)), (4, .one (.pv x2)), (5, .one (.pv x3))], [], [], 0, 27⟩)⟩]
theorem Qat_s : LEsOK (orac [Qas_e]) TT (kk [0, 1, 4, 5]) (sumsOf Qat_l) Tryz.f46 Qat_l := ⟨fun v K k h => by
  apply un_all h; exact fun v0 v1 v2 v3 h => Eq.mpr (by kernel_rfl) h
  , trivial⟩
theorem Qat_w : EntOK Tryz.prog TT Qat_e := ent_ok tabok (L := [Qas_e]) ⟨Qas_w, trivial⟩ (keep := (kk [0, 1, 4, 5])) (l := Qat_l) Tryz.func46 (by kernel_rfl) (sg := [.one (.sc)]) (by kernel_rfl) Qat_s fun av k h => by
  unfold Qat at h; split at h
  · exact Eq.mpr (by kernel_rfl) h
  · exact h.elim
def Qau : GM
 | [.agg u0, .one a2], k => un 2 (fun a0 a1 => 
  call Qar [.one a0, .one a2] fun o0 =>
  binP .lss (atP o0 0) (I 0) fun r1 =>
  iteP r1
   (rt [.sc] [(I (-1))] k)
   (call Qat [.one a1, .one (atP o0 0)] fun o2 =>
   binP .lss (atP o2 0) (I 0) fun r3 =>
   iteP r3
    (rt [.sc] [(I (-1))] k)
    (rt [.sc] [(atP o2 0)] k))) u0
 | _, _ => False
abbrev Qau_e : Ent := ⟨[13], Qau⟩
theorem Qau_w : EntOK Tryz.prog TT Qau_e := ent_ok tabok (L := [Qar_e, Qat_e]) ⟨Qar_w, Qat_w, trivial⟩ (keep := []) (l := []) Tryz.func13 (by kernel_rfl) (sg := [.one (.sc)]) (by kernel_rfl) trivial fun av k h => by
  unfold Qau at h; split at h
  · apply un_all h; clear h; intro a0 a1 h; exact Eq.mpr (by kernel_rfl) h
  · exact h.elim
def Qav : GM
 | [.agg u0, .one a2], k => un 2 (fun a0 a1 => 
  call Qaa [.one a1, .one a2] fun o0 =>
  binP .lss (atP o0 0) (I 0) fun r1 =>
  iteP r1
   (rt [.sc] [(I (-1))] k)
   (rt [.sc] [(atP o0 0)] k)) u0
 | _, _ => False
abbrev Qav_e : Ent := ⟨[204], Qav⟩
theorem Qav_w : EntOK Tryz.prog TT Qav_e := ent_ok tabok (L := [Qaa_e]) ⟨Qaa_w, trivial⟩ (keep := []) (l := []) Tryz.func204 (by kernel_rfl) (sg := [.one (.sc)]) (by kernel_rfl) trivial fun av k h => by
  unfold Qav at h; split at h
  · apply un_all h; clear h; intro a0 a1 h; exact Eq.mpr (by kernel_rfl) h
  · exact h.elim
def Qaw : GM
 | [.agg u0, .one a13], k => un 13 (fun a0 a1 a2 a3 a4 a5 a6 a7 a8 a9 a10 a11 a12 => 
  call Qaj [.agg [a1, a2, a3, a4], .one a13] fun o0 =>
  binP .lss (atP o0 0) (I 0) fun r1 =>
  iteP r1
   (rt [.sc] [(I (-1))] k)
   (call Qaj [.agg [a5, a6, a7, a8], .one (atP o0 0)] fun o2 =>
   binP .lss (atP o2 0) (I 0) fun r3 =>
   iteP r3
    (rt [.sc] [(I (-1))] k)
    (call Qav [.agg [a9, a10], .one (atP o2 0)] fun o4 =>
    binP .lss (atP o4 0) (I 0) fun r5 =>
    iteP r5
     (rt [.sc] [(I (-1))] k)
     (call Qav [.agg [a11, a12], .one (atP o4 0)] fun o6 =>
     binP .lss (atP o6 0) (I 0) fun r7 =>
     iteP r7
      (rt [.sc] [(I (-1))] k)
      (rt [.sc] [(atP o6 0)] k))))) u0
 | _, _ => False
abbrev Qaw_e : Ent := ⟨[205], Qaw⟩
theorem Qaw_w : EntOK Tryz.prog TT Qaw_e := ent_ok tabok (L := [Qaj_e, Qav_e]) ⟨Qaj_w, Qav_w, trivial⟩ (keep := []) (l := []) Tryz.func205 (by kernel_rfl) (sg := [.one (.sc)]) (by kernel_rfl) trivial fun av k h => by
  unfold Qaw at h; split at h
  · apply un_all h; clear h; intro a0 a1 a2 a3 a4 a5 a6 a7 a8 a9 a10 a11 a12 h; exact Eq.mpr (by kernel_rfl) h
  · exact h.elim
def Qax : GM
 | [.agg u0, .one a21], k => un 21 (fun a0 a1 a2 a3 a4 a5 a6 a7 a8 a9 a10 a11 a12 a13 a14 a15 a16 a17 a18 a19 a20 => 
  call Qah [.one a0, .one a21] fun o0 =>
  binP .lss (atP o0 0) (I 0) fun r1 =>
  iteP r1
   (rt [.sc] [(I (-1))] k)
   (call Qaj [.agg [a2, a3, a4, a5], .one (atP o0 0)] fun o2 =>
   binP .lss (atP o2 0) (I 0) fun r3 =>
   iteP r3
    (rt [.sc] [(I (-1))] k)
    (call Qav [.agg [a6, a7], .one (atP o2 0)] fun o4 =>
    binP .lss (atP o4 0) (I 0) fun r5 =>
    iteP r5
     (rt [.sc] [(I (-1))] k)
     (call Qaw [.agg [a8, a9, a10, a11, a12, a13, a14, a15, a16, a17, a18, a19, a20], .one (atP o4 0)] fun o6 =>
     binP .lss (atP o6 0) (I 0) fun r7 =>
     iteP r7
      (rt [.sc] [(I (-1))] k)
      (rt [.sc] [(atP o6 0)] k))))) u0
 | _, _ => False
abbrev Qax_e : Ent := ⟨[156], Qax⟩
theorem Qax_w : EntOK Tryz.prog TT Qax_e := ent_ok tabok (L := [Qah_e, Qaj_e, Qav_e, Qaw_e]) ⟨Qah_w, Qaj_w, Qav_w, Qaw_w, trivial⟩ (keep := []) (l := []) Tryz.func156 (by kernel_rfl) (sg := [.one (.sc)]) (by kernel_rfl) trivial fun av k h => by
  unfold Qax at h; split at h
  · apply un_all h; clear h; intro a0 a1 a2 a3 a4 a5 a6 a7 a8 a9 a10 a11 a12 a13 a14 a15 a16 a17 a18 a19 a20 h; exact Eq.mpr (by kernel_rfl) h
  · exact h.elim
def Qay : GM
 | [.agg u0, .one a23], k => un 23 (fun a0 a1 a2 a3 a4 a5 a6 a7 a8 a9 a10 a11 a12 a13 a14 a15 a16 a17 a18 a19 a20 a21 a22 => 
  lenS a1 fun r0 =>
  binP .sub a23 r0 fun r1 =>
  binP .lss r1 (I 0) fun r2 =>
  iteP r2
   (rt [.sc] [(I (-1))] k)
   (call Qax [.agg [a2, a3, a4, a5, a6, a7, a8, a9, a10, a11, a12, a13, a14, a15, a16, a17, a18, a19, a20, a21, a22], .one r1] fun o3 =>
   binP .lss (atP o3 0) (I 0) fun r4 =>
   iteP r4
    (rt [.sc] [(I (-1))] k)
    (rt [.sc] [(atP o3 0)] k))) u0
 | _, _ => False
abbrev Qay_e : Ent := ⟨[102], Qay⟩
theorem Qay_w : EntOK Tryz.prog TT Qay_e := ent_ok tabok (L := [Qax_e]) ⟨Qax_w, trivial⟩ (keep := []) (l := []) Tryz.func102 (by kernel_rfl) (sg := [.one (.sc)]) (by kernel_rfl) trivial fun av k h => by
  unfold Qay at h; split at h
  · apply un_all h; clear h; intro a0 a1 a2 a3 a4 a5 a6 a7 a8 a9 a10 a11 a12 a13 a14 a15 a16 a17 a18 a19 a20 a21 a22 h; exact Eq.mpr (by kernel_rfl) h
  · exact h.elim
def Qaz_r0 (v : List PV) (K : List PV → Prop) (x0k : Prop) (x1k : PV → PV → PV → PV → Prop) : Prop :=
 un 4 (fun v0 v1 v2 v3 =>
  lenP v0 fun r0 =>
  binP .lss v3 r0 fun r1 =>
  iteP r1
   (elemP 23 v0 v3 fun c2 =>
   call Qay [.agg [(atP c2 0), (atP c2 1), (atP c2 2), (atP c2 3), (atP c2 4), (atP c2 5), (atP c2 6), (atP c2 7), (atP c2 8), (atP c2 9), (atP c2 10), (atP c2 11), (atP c2 12), (atP c2 13), (atP c2 14), (atP c2 15), (atP c2 16), (atP c2 17), (atP c2 18), (atP c2 19), (atP c2 20), (atP c2 21), (atP c2 22)], .one v1] fun o3 =>
   binP .lss (atP o3 0) (I 0) fun r4 =>
   iteP r4
    (x0k)
    (binP .add v3 (I 1) fun r5 =>
    K [v0, (atP o3 0), v2, r5]))
   (x1k v0 v1 v2 v3)) v
def Qaz : GM
 | [.one a0, .one a1], k => 
  lenP a0 fun r0 =>
  binP .sub a1 r0 fun r1 =>
  binP .lss r1 (I 0) fun r2 =>
  iteP r2
   (rt [.sc] [(I (-1))] k)
   (lp (fun L w => Qaz_r0 w L
    (rt [.sc] [(I (-1))] k)
    (fun q6 q7 q8 q9 => rt [.sc] [q7] k)) [a0, r1, (I 0), (I 0)])
 | _, _ => False
abbrev Qaz_e : Ent := ⟨[47], Qaz⟩
def Qaz_l : List LE := [⟨0, ⟨[(0, .one zB), (1, .one zB), (4, .one zB), (5, .one zB)], [], [], 0, 27⟩, fun K k v => Qaz_r0 v K (k .ret ⟨[(4, .one (.pv (I (-1))))], [], [], 1, 27⟩) (fun x0 x1 x2 x3 => k (.exit 0) ⟨[(0, .one (.pv x0)), (1, .one (.pv x1)), (4, .one (.pv x2)), (5, .one (.pv x3))], [], [], 0, 27⟩)⟩]
theorem Qaz_s : LEsOK (orac [Qay_e]) TT (kk [0, 1, 4, 5]) (sumsOf Qaz_l) Tryz.f47 Qaz_l := ⟨fun v K k h => by
  apply un_all h; exact fun v0 v1 v2 v3 h => Eq.mpr (by kernel_rfl) h
  , trivial⟩
theorem Qaz_w : EntOK Tryz.prog TT Qaz_e := ent_ok tabok (L := [Qay_e]) ⟨Qay_w, trivial⟩ (keep := (kk [0, 1, 4, 5])) (l := Qaz_l) Tryz.func47 (by kernel_rfl) (sg := [.one (.sc)]) (by kernel_rfl) Qaz_s fun av k h => by
  unfold Qaz at h; split at h
  · exact Eq.mpr (by kernel_rfl) h
  · exact h.elim
def Qba : GM
 | [.agg u0, .one a1], k => un 1 (fun a0 => 
  call Qaz [.one a0, .one a1] fun o0 =>
  binP .lss (atP o0 0) (I 0) fun r1 =>
  iteP r1
   (rt [.sc] [(I (-1))] k)
   (rt [.sc] [(atP o0 0)] k)) u0
 | _, _ => False
abbrev Qba_e : Ent := ⟨[14], Qba⟩
theorem Qba_w : EntOK Tryz.prog TT Qba_e := ent_ok tabok (L := [Qaz_e]) ⟨Qaz_w, trivial⟩ (keep := []) (l := []) Tryz.func14 (by kernel_rfl) (sg := [.one (.sc)]) (by kernel_rfl) trivial fun av k h => by
  unfold Qba at h; split at h
  · apply un_all h; clear h; intro a0 h; exact Eq.mpr (by kernel_rfl) h
  · exact h.elim
def Qbb : GM
 | [.agg u0, .one a8], k => un 8 (fun a0 a1 a2 a3 a4 a5 a6 a7 => 
  call Qac [.one a1, .one a8] fun o0 =>
  binP .lss (atP o0 0) (I 0) fun r1 =>
  iteP r1
   (rt [.sc] [(I (-1))] k)
   (call Qam [.one a2, .one (atP o0 0)] fun o2 =>
   binP .lss (atP o2 0) (I 0) fun r3 =>
   iteP r3
    (rt [.sc] [(I (-1))] k)
    (call Qao [.one a3, .one (atP o2 0)] fun o4 =>
    binP .lss (atP o4 0) (I 0) fun r5 =>
    iteP r5
     (rt [.sc] [(I (-1))] k)
     (call Qaq [.one a4, .one (atP o4 0)] fun o6 =>
     binP .lss (atP o6 0) (I 0) fun r7 =>
     iteP r7
      (rt [.sc] [(I (-1))] k)
      (call Qau [.agg [a5, a6], .one (atP o6 0)] fun o8 =>
      binP .lss (atP o8 0) (I 0) fun r9 =>
      iteP r9
       (rt [.sc] [(I (-1))] k)
       (call Qba [.agg [a7], .one (atP o8 0)] fun o10 =>
       binP .lss (atP o10 0) (I 0) fun r11 =>
       iteP r11
        (rt [.sc] [(I (-1))] k)
        (rt [.sc] [(atP o10 0)] k))))))) u0
 | _, _ => False
abbrev Qbb_e : Ent := ⟨[4], Qbb⟩
theorem Qbb_w : EntOK Tryz.prog TT Qbb_e := ent_ok tabok (L := [Qac_e, Qam_e, Qao_e, Qaq_e, Qau_e, Qba_e]) ⟨Qac_w, Qam_w, Qao_w, Qaq_w, Qau_w, Qba_w, trivial⟩ (keep := []) (l := []) Tryz.func4 (by kernel_rfl) (sg := [.one (.sc)]) (by kernel_rfl) trivial fun av k h => by
  unfold Qbb at h; split at h
  · apply un_all h; clear h; intro a0 a1 a2 a3 a4 a5 a6 a7 h; exact Eq.mpr (by kernel_rfl) h
  · exact h.elim
def Qbc_r0 (v : List PV) (K : List PV → Prop) (x0k : PV → PV → PV → PV → Prop) : Prop :=
 un 4 (fun v0 v1 v2 v3 =>
  lenP v0 fun r0 =>
  binP .lss v1 r0 fun r1 =>
  iteP r1
   (elemP 1 v0 v1 fun c2 =>
   boundP 1 v3 v1 fun n3 =>
   (flatCond [.pv (I 0)] [.pv (atP c2 0)]) ∧ setP v3 n3 0 [(atP c2 0)] fun r4 =>
   binP .add v1 (I 1) fun r5 =>
   K [v0, r5, v2, r4])
   (x0k v0 v1 v2 v3)) v
def Qbc : GM
 | [.one a0], k => 
  lenP a0 fun r0 =>
  (r0 = r0) ∧ (1 = 1) ∧ makeP 1 r0 [(I 0)] fun r1 =>
  lp (fun L w => Qbc_r0 w L
   (fun q6 q7 q8 q9 => rt [.own true 3 1] [q9] k)) [a0, (I 0), (.list 1 []), r1]
 | _, _ => False
abbrev Qbc_e : Ent := ⟨[115], Qbc⟩
def Qbc_l : List LE := [⟨0, ⟨[(0, .one zB), (2, .one (.own 1)), (3, .one (.own 0)), (4, .one zB)], [], [(1, ⟨.deep, 3, 1, (.bool false)⟩), (0, ⟨.deep, 3, 1, (.bool false)⟩)], 2, 22⟩, fun K k v => Qbc_r0 v K (fun x0 x1 x2 x3 => k (.exit 0) ⟨[(0, .one (.pv x0)), (2, .one (.own 1)), (3, .one (.own 0)), (4, .one (.pv x1))], [], [(1, ⟨.deep, 3, 1, x2⟩), (0, ⟨.deep, 3, 1, x3⟩)], 2, 22⟩)⟩]
theorem Qbc_s : LEsOK (orac []) TT (kk [0, 2, 3, 4]) (sumsOf Qbc_l) Tryz.f115 Qbc_l := ⟨fun v K k h => by
  apply un_all h; exact fun v0 v1 v2 v3 h => Eq.mpr (by kernel_rfl) h
  , trivial⟩
theorem Qbc_w : EntOK Tryz.prog TT Qbc_e := ent_ok tabok (L := []) trivial (keep := (kk [0, 2, 3, 4])) (l := Qbc_l) Tryz.func115 (by kernel_rfl) (sg := [.one (.own true 3 1)]) (by kernel_rfl) Qbc_s fun av k h => by
  unfold Qbc at h; split at h
  · exact Eq.mpr (by kernel_rfl) h
  · exact h.elim
def Qbd : GM
 | [.agg u0], k => un 1 (fun a0 => 
  call Qbc [.one a0] fun o0 =>
  rt [.own true 3 1] [(atP o0 0)] k) u0
 | _, _ => False
abbrev Qbd_e : Ent := ⟨[61], Qbd⟩
theorem Qbd_w : EntOK Tryz.prog TT Qbd_e := ent_ok tabok (L := [Qbc_e]) ⟨Qbc_w, trivial⟩ (keep := []) (l := []) Tryz.func61 (by kernel_rfl) (sg := [.agg [.own true 3 1]]) (by kernel_rfl) trivial fun av k h => by
  unfold Qbd at h; split at h
  · apply un_all h; clear h; intro a0 h; exact Eq.mpr (by kernel_rfl) h
  · exact h.elim
def Qbe_r0 (v : List PV) (K : List PV → Prop) (x0k : PV → PV → PV → PV → Prop) : Prop :=
 un 4 (fun v0 v1 v2 v3 =>
  lenP v0 fun r0 =>
  binP .lss v1 r0 fun r1 =>
  iteP r1
   (elemP 1 v0 v1 fun c2 =>
   call Qbd [.agg [(atP c2 0)]] fun o3 =>
   boundP 1 v3 v1 fun n4 =>
   (flatCond [.nil 3 1] [.own 2]) ∧ setP v3 n4 0 [(atP o3 0)] fun r5 =>
   binP .add v1 (I 1) fun r6 =>
   K [v0, r6, v2, r5])
   (x0k v0 v1 v2 v3)) v
def Qbe : GM
 | [.one a0], k => 
  lenP a0 fun r0 =>
  (r0 = r0) ∧ (1 = 1) ∧ makeP 1 r0 [(.list 1 [])] fun r1 =>
  lp (fun L w => Qbe_r0 w L
   (fun q7 q8 q9 q10 => rt [.own true 134 1] [q10] k)) [a0, (I 0), (.list 1 []), r1]
 | _, _ => False
abbrev Qbe_e : Ent := ⟨[20], Qbe⟩
def Qbe_l : List LE := [⟨0, ⟨[(0, .one zB), (2, .one (.own 1)), (3, .one (.own 0)), (4, .one zB)], [], [(1, ⟨.deep, 134, 1, (.bool false)⟩), (0, ⟨.deep, 134, 1, (.bool false)⟩)], 2, 23⟩, fun K k v => Qbe_r0 v K (fun x0 x1 x2 x3 => k (.exit 0) ⟨[(0, .one (.pv x0)), (2, .one (.own 1)), (3, .one (.own 0)), (4, .one (.pv x1))], [], [(1, ⟨.deep, 134, 1, x2⟩), (0, ⟨.deep, 134, 1, x3⟩)], 2, 23⟩)⟩]
theorem Qbe_s : LEsOK (orac [Qbd_e]) TT (kk [0, 2, 3, 4]) (sumsOf Qbe_l) Tryz.f20 Qbe_l := ⟨fun v K k h => by
  apply un_all h; exact fun v0 v1 v2 v3 h => Eq.mpr (by kernel_rfl) h
  , trivial⟩
theorem Qbe_w : EntOK Tryz.prog TT Qbe_e := ent_ok tabok (L := [Qbd_e]) ⟨Qbd_w, trivial⟩ (keep := (kk [0, 2, 3, 4])) (l := Qbe_l) Tryz.func20 (by kernel_rfl) (sg := [.one (.own true 134 1)]) (by kernel_rfl) Qbe_s fun av k h => by
  unfold Qbe at h; split at h
  · exact Eq.mpr (by kernel_rfl) h
  · exact h.elim
def Qbf : GM
 | [.agg u0], k => un 2 (fun a0 a1 => 
  call Qbc [.one a0] fun o0 =>
  rt [.own true 3 1, .sc] [(atP o0 0), a1] k) u0
 | _, _ => False
abbrev Qbf_e : Ent := ⟨[265], Qbf⟩
theorem Qbf_w : EntOK Tryz.prog TT Qbf_e := ent_ok tabok (L := [Qbc_e]) ⟨Qbc_w, trivial⟩ (keep := []) (l := []) Tryz.func265 (by kernel_rfl) (sg := [.agg [.own true 3 1, .sc]]) (by kernel_rfl) trivial fun av k h => by
  unfold Qbf at h; split at h
  · apply un_all h; clear h; intro a0 a1 h; exact Eq.mpr (by kernel_rfl) h
  · exact h.elim
def Qbg : GM
 | [.agg u0], k => un 16 (fun a0 a1 a2 a3 a4 a5 a6 a7 a8 a9 a10 a11 a12 a13 a14 a15 => 
  call Qbf [.agg [a8, a9]] fun o0 =>
  call Qbf [.agg [a10, a11]] fun o1 =>
  call Qbf [.agg [a13, a14]] fun o2 =>
  rt [.sc, .sc, .sc, .sc, .sc, .sc, .sc, .sc, .own true 3 1, .sc, .own true 3 1, .sc, .sc, .own true 3 1, .sc, .sc] [a0, a1, a2, a3, a4, a5, a6, a7, (atP o0 0), (atP o0 1), (atP o1 0), (atP o1 1), a12, (atP o2 0), (atP o2 1), a15] k) u0
 | _, _ => False
abbrev Qbg_e : Ent := ⟨[221], Qbg⟩
theorem Qbg_w : EntOK Tryz.prog TT Qbg_e := ent_ok tabok (L := [Qbf_e]) ⟨Qbf_w, trivial⟩ (keep := []) (l := []) Tryz.func221 (by kernel_rfl) (sg := [.agg [.sc, .sc, .sc, .sc, .sc, .sc, .sc, .sc, .own true 3 1, .sc, .own true 3 1, .sc, .sc, .own true 3 1, .sc, .sc]]) (by kernel_rfl) trivial fun av k h => by
  unfold Qbg at h; split at h
  · apply un_all h; clear h; intro a0 a1 a2 a3 a4 a5 a6 a7 a8 a9 a10 a11 a12 a13 a14 a15 h; exact Eq.mpr (by kernel_rfl) h
  · exact h.elim
def Qbh : GM
 | [.agg u0], k => un 2 (fun a0 a1 => 
  rt [.sc, .sc] [a0, a1] k) u0
 | _, _ => False
abbrev Qbh_e : Ent := ⟨[266], Qbh⟩
theorem Qbh_w : EntOK Tryz.prog TT Qbh_e := ent_ok tabok (L := []) trivial (keep := []) (l := []) Tryz.func266 (by kernel_rfl) (sg := [.agg [.sc, .sc]]) (by kernel_rfl) trivial fun av k h => by
  unfold Qbh at h; split at h
  · apply un_all h; clear h; intro a0 a1 h; exact Eq.mpr (by kernel_rfl) h
  · exact h.elim
def Qbi_r0 (v : List PV) (K : List PV → Prop) (x0k : PV → PV → PV → PV → Prop) : Prop :=
 un 4 (fun v0 v1 v2 v3 =>
  lenP v0 fun r0 =>
  binP .lss v1 r0 fun r1 =>
  iteP r1
   (elemP 2 v0 v1 fun c2 =>
   call Qbh [.agg [(atP c2 0), (atP c2 1)]] fun o3 =>
   boundP 2 v3 v1 fun n4 =>
   (flatCond [.pv (I 0), .pv (I 0)] [.pv (atP o3 0), .pv (atP o3 1)]) ∧ setP v3 n4 0 [(atP o3 0), (atP o3 1)] fun r5 =>
   binP .add v1 (I 1) fun r6 =>
   K [v0, r6, v2, r5])
   (x0k v0 v1 v2 v3)) v
def Qbi : GM
 | [.one a0], k => 
  lenP a0 fun r0 =>
  (r0 = r0) ∧ (2 = 2) ∧ makeP 2 r0 [(I 0), (I 0)] fun r1 =>
  lp (fun L w => Qbi_r0 w L
   (fun q7 q8 q9 q10 => rt [.own true 191 2] [q10] k)) [a0, (I 0), (.list 2 []), r1]
 | _, _ => False
abbrev Qbi_e : Ent := ⟨[222], Qbi⟩
def Qbi_l : List LE := [⟨0, ⟨[(0, .one zB), (2, .one (.own 1)), (3, .one (.own 0)), (4, .one zB)], [], [(1, ⟨.deep, 191, 2, (.bool false)⟩), (0, ⟨.deep, 191, 2, (.bool false)⟩)], 2, 23⟩, fun K k v => Qbi_r0 v K (fun x0 x1 x2 x3 => k (.exit 0) ⟨[(0, .one (.pv x0)), (2, .one (.own 1)), (3, .one (.own 0)), (4, .one (.pv x1))], [], [(1, ⟨.deep, 191, 2, x2⟩), (0, ⟨.deep, 191, 2, x3⟩)], 2, 23⟩)⟩]
theorem Qbi_s : LEsOK (orac [Qbh_e]) TT (kk [0, 2, 3, 4]) (sumsOf Qbi_l) Tryz.f222 Qbi_l := ⟨fun v K k h => by
  apply un_all h; exact fun v0 v1 v2 v3 h => Eq.mpr (by kernel_rfl) h
  , trivial⟩
theorem Qbi_w : EntOK Tryz.prog TT Qbi_e := ent_ok tabok (L := [Qbh_e]) ⟨Qbh_w, trivial⟩ (keep := (kk [0, 2, 3, 4])) (l := Qbi_l) Tryz.func222 (by kernel_rfl) (sg := [.one (.own true 191 2)]) (by kernel_rfl) Qbi_s fun av k h => by
  unfold Qbi at h; split at h
  · exact Eq.mpr (by kernel_rfl) h
  · exact h.elim
def Qbj : GM
 | [.agg u0], k => un 17 (fun a0 a1 a2 a3 a4 a5 a6 a7 a8 a9 a10 a11 a12 a13 a14 a15 a16 => 
  call Qbg [.agg [a0, a1, a2, a3, a4, a5, a6, a7, a8, a9, a10, a11, a12, a13, a14, a15]] fun o0 =>
  call Qbi [.one a16] fun o1 =>
  rt [.sc, .sc, .sc, .sc, .sc, .sc, .sc, .sc, .own true 3 1, .sc, .own true 3 1, .sc, .sc, .own true 3 1, .sc, .sc, .own true 191 2] [(atP o0 0), (atP o0 1), (atP o0 2), (atP o0 3), (atP o0 4), (atP o0 5), (atP o0 6), (atP o0 7), (atP o0 8), (atP o0 9), (atP o0 10), (atP o0 11), (atP o0 12), (atP o0 13), (atP o0 14), (atP o0 15), (atP o1 0)] k) u0
 | _, _ => False
abbrev Qbj_e : Ent := ⟨[170], Qbj⟩
theorem Qbj_w : EntOK Tryz.prog TT Qbj_e := ent_ok tabok (L := [Qbg_e, Qbi_e]) ⟨Qbg_w, Qbi_w, trivial⟩ (keep := []) (l := []) Tryz.func170 (by kernel_rfl) (sg := [.agg [.sc, .sc, .sc, .sc, .sc, .sc, .sc, .sc, .own true 3 1, .sc, .own true 3 1, .sc, .sc, .own true 3 1, .sc, .sc, .own true 191 2]]) (by kernel_rfl) trivial fun av k h => by
  unfold Qbj at h; split at h
  · apply un_all h; clear h; intro a0 a1 a2 a3 a4 a5 a6 a7 a8 a9 a10 a11 a12 a13 a14 a15 a16 h; exact Eq.mpr (by kernel_rfl) h
  · exact h.elim
def Qbk_r0 (v : List PV) (K : List PV → Prop) (x0k : PV → PV → PV → PV → Prop) : Prop :=
 un 4 (fun v0 v1 v2 v3 =>
  lenP v0 fun r0 =>
  binP .lss v1 r0 fun r1 =>
  iteP r1
   (elemP 17 v0 v1 fun c2 =>
   call Qbj [.agg [(atP c2 0), (atP c2 1), (atP c2 2), (atP c2 3), (atP c2 4), (atP c2 5), (atP c2 6), (atP c2 7), (atP c2 8), (atP c2 9), (atP c2 10), (atP c2 11), (atP c2 12), (atP c2 13), (atP c2 14), (atP c2 15), (atP c2 16)]] fun o3 =>
   boundP 17 v3 v1 fun n4 =>
   (flatCond [.pv (I 0), .pv (I 0), .pv (I 0), .pv (I 0), .pv (I 0), .pv (I 0), .pv (I 0), .pv (I 0), .nil 3 1, .pv (I 0), .nil 3 1, .pv (I 0), .pv (I 0), .nil 3 1, .pv (I 0), zB, .nil 191 2] [.pv (atP o3 0), .pv (atP o3 1), .pv (atP o3 2), .pv (atP o3 3), .pv (atP o3 4), .pv (atP o3 5), .pv (atP o3 6), .pv (atP o3 7), .own 10, .pv (atP o3 9), .own 12, .pv (atP o3 11), .pv (atP o3 12), .own 15, .pv (atP o3 14), .pv (atP o3 15), .own 18]) ∧ setP v3 n4 0 [(atP o3 0), (atP o3 1), (atP o3 2), (atP o3 3), (atP o3 4), (atP o3 5), (atP o3 6), (atP o3 7), (atP o3 8), (atP o3 9), (atP o3 10), (atP o3 11), (atP o3 12), (atP o3 13), (atP o3 14), (atP o3 15), (atP o3 16)] fun r5 =>
   binP .add v1 (I 1) fun r6 =>
   K [v0, r6, v2, r5])
   (x0k v0 v1 v2 v3)) v
def Qbk : GM
 | [.one a0], k => 
  lenP a0 fun r0 =>
  (r0 = r0) ∧ (17 = 17) ∧ makeP 17 r0 [(I 0), (I 0), (I 0), (I 0), (I 0), (I 0), (I 0), (I 0), (.list 1 []), (I 0), (.list 1 []), (I 0), (I 0), (.list 1 []), (I 0), (.bool false), (.list 2 [])] fun r1 =>
  lp (fun L w => Qbk_r0 w L
   (fun q7 q8 q9 q10 => rt [.own true 129 17] [q10] k)) [a0, (I 0), (.list 17 []), r1]
 | _, _ => False
abbrev Qbk_e : Ent := ⟨[116], Qbk⟩
def Qbk_l : List LE := [⟨0, ⟨[(0, .one zB), (2, .one (.own 1)), (3, .one (.own 0)), (4, .one zB)], [], [(1, ⟨.deep, 129, 17, (.bool false)⟩), (0, ⟨.deep, 129, 17, (.bool false)⟩)], 2, 23⟩, fun K k v => Qbk_r0 v K (fun x0 x1 x2 x3 => k (.exit 0) ⟨[(0, .one (.pv x0)), (2, .one (.own 1)), (3, .one (.own 0)), (4, .one (.pv x1))], [], [(1, ⟨.deep, 129, 17, x2⟩), (0, ⟨.deep, 129, 17, x3⟩)], 2, 23⟩)⟩]
theorem Qbk_s : LEsOK (orac [Qbj_e]) TT (kk [0, 2, 3, 4]) (sumsOf Qbk_l) Tryz.f116 Qbk_l := ⟨fun v K k h => by
  apply un_all h; exact fun v0 v1 v2 v3 h => Eq.mpr (by kernel_rfl) h
  , trivial⟩
theorem Qbk_w : EntOK Tryz.prog TT Qbk_e := ent_ok tabok (L := [Qbj_e]) ⟨Qbj_w, trivial⟩ (keep := (kk [0, 2, 3, 4])) (l := Qbk_l) Tryz.func116 (by kernel_rfl) (sg := [.one (.own true 129 17)]) (by kernel_rfl) Qbk_s fun av k h => by
  unfold Qbk at h; split at h
  · exact Eq.mpr (by kernel_rfl) h
  · exact h.elim
def Qbl_r0 (v : List PV) (K : List PV → Prop) (x0k : PV → PV → PV → PV → Prop) : Prop :=
 un 4 (fun v0 v1 v2 v3 =>
  lenP v0 fun r0 =>
  binP .lss v1 r0 fun r1 =>
  iteP r1
   (elemP 1 v0 v1 fun c2 =>
   boundP 1 v3 v1 fun n3 =>
   (flatCond [.pv (.str ⟨#[]⟩)] [.pv (atP c2 0)]) ∧ setP v3 n3 0 [(atP c2 0)] fun r4 =>
   binP .add v1 (I 1) fun r5 =>
   K [v0, r5, v2, r4])
   (x0k v0 v1 v2 v3)) v
def Qbl : GM
 | [.one a0], k => 
  lenP a0 fun r0 =>
  (r0 = r0) ∧ (1 = 1) ∧ makeP 1 r0 [(.str ⟨#[]⟩)] fun r1 =>
  lp (fun L w => Qbl_r0 w L
   (fun q6 q7 q8 q9 => rt [.own true 9 1] [q9] k)) [a0, (I 0), (.list 1 []), r1]
 | _, _ => False
abbrev Qbl_e : Ent := ⟨[223], Qbl⟩
def Qbl_l : List LE := [⟨0, ⟨[(0, .one zB), (2, .one (.own 1)), (3, .one (.own 0)), (4, .one zB)], [], [(1, ⟨.deep, 9, 1, (.bool false)⟩), (0, ⟨.deep, 9, 1, (.bool false)⟩)], 2, 22⟩, fun K k v => Qbl_r0 v K (fun x0 x1 x2 x3 => k (.exit 0) ⟨[(0, .one (.pv x0)), (2, .one (.own 1)), (3, .one (.own 0)), (4, .one (.pv x1))], [], [(1, ⟨.deep, 9, 1, x2⟩), (0, ⟨.deep, 9, 1, x3⟩)], 2, 22⟩)⟩]
theorem Qbl_s : LEsOK (orac []) TT (kk [0, 2, 3, 4]) (sumsOf Qbl_l) Tryz.f223 Qbl_l := ⟨fun v K k h => by
  apply un_all h; exact fun v0 v1 v2 v3 h => Eq.mpr (by kernel_rfl) h
  , trivial⟩
theorem Qbl_w : EntOK Tryz.prog TT Qbl_e := ent_ok tabok (L := []) trivial (keep := (kk [0, 2, 3, 4])) (l := Qbl_l) Tryz.func223 (by kernel_rfl) (sg := [.one (.own true 9 1)]) (by kernel_rfl) Qbl_s fun av k h => by
  unfold Qbl at h; split at h
  · exact Eq.mpr (by kernel_rfl) h
  · exact h.elim
def Qbm : GM
 | [.agg u0], k => un 4 (fun a0 a1 a2 a3 => 
  call Qbl [.one a3] fun o0 =>
  rt [.sc, .sc, .sc, .own true 9 1] [a0, a1, a2, (atP o0 0)] k) u0
 | _, _ => False
abbrev Qbm_e : Ent := ⟨[171], Qbm⟩
theorem Qbm_w : EntOK Tryz.prog TT Qbm_e := ent_ok tabok (L := [Qbl_e]) ⟨Qbl_w, trivial⟩ (keep := []) (l := []) Tryz.func171 (by kernel_rfl) (sg := [.agg [.sc, .sc, .sc, .own true 9 1]]) (by kernel_rfl) trivial fun av k h => by
  unfold Qbm at h; split at h
  · apply un_all h; clear h; intro a0 a1 a2 a3 h; exact Eq.mpr (by kernel_rfl) h
  · exact h.elim
def Qbn_r0 (v : List PV) (K : List PV → Prop) (x0k : PV → PV → PV → PV → Prop) : Prop :=
 un 4 (fun v0 v1 v2 v3 =>
  lenP v0 fun r0 =>
  binP .lss v1 r0 fun r1 =>
  iteP r1
   (elemP 4 v0 v1 fun c2 =>
   call Qbm [.agg [(atP c2 0), (atP c2 1), (atP c2 2), (atP c2 3)]] fun o3 =>
   boundP 4 v3 v1 fun n4 =>
   (flatCond [.pv (.str ⟨#[]⟩), .pv (I 0), .pv (I 0), .nil 9 1] [.pv (atP o3 0), .pv (atP o3 1), .pv (atP o3 2), .own 5]) ∧ setP v3 n4 0 [(atP o3 0), (atP o3 1), (atP o3 2), (atP o3 3)] fun r5 =>
   binP .add v1 (I 1) fun r6 =>
   K [v0, r6, v2, r5])
   (x0k v0 v1 v2 v3)) v
def Qbn : GM
 | [.one a0], k => 
  lenP a0 fun r0 =>
  (r0 = r0) ∧ (4 = 4) ∧ makeP 4 r0 [(.str ⟨#[]⟩), (I 0), (I 0), (.list 1 [])] fun r1 =>
  lp (fun L w => Qbn_r0 w L
   (fun q7 q8 q9 q10 => rt [.own true 114 4] [q10] k)) [a0, (I 0), (.list 4 []), r1]
 | _, _ => False
abbrev Qbn_e : Ent := ⟨[117], Qbn⟩
def Qbn_l : List LE := [⟨0, ⟨[(0, .one zB), (2, .one (.own 1)), (3, .one (.own 0)), (4, .one zB)], [], [(1, ⟨.deep, 114, 4, (.bool false)⟩), (0, ⟨.deep, 114, 4, (.bool false)⟩)], 2, 23⟩, fun K k v => Qbn_r0 v K (fun x0 x1 x2 x3 => k (.exit 0) ⟨[(0, .one (.pv x0)), (2, .one (.own 1)), (3, .one (.own 0)), (4, .one (.pv x1))], [], [(1, ⟨.deep, 114, 4, x2⟩), (0, ⟨.deep, 114, 4, x3⟩)], 2, 23⟩)⟩]
theorem Qbn_s : LEsOK (orac [Qbm_e]) TT (kk [0, 2, 3, 4]) (sumsOf Qbn_l) Tryz.f117 Qbn_l := ⟨fun v K k h => by
  apply un_all h; exact fun v0 v1 v2 v3 h => Eq.mpr (by kernel_rfl) h
  , trivial⟩
theorem Qbn_w : EntOK Tryz.prog TT Qbn_e := ent_ok tabok (L := [Qbm_e]) ⟨Qbm_w, trivial⟩ (keep := (kk [0, 2, 3, 4])) (l := Qbn_l) Tryz.func117 (by kernel_rfl) (sg := [.one (.own true 114 4)]) (by kernel_rfl) Qbn_s fun av k h => by
  unfold Qbn at h; split at h
  · exact Eq.mpr (by kernel_rfl) h
  · exact h.elim
def Qbo : GM
 | [.agg u0], k => un 2 (fun a0 a1 => 
  call Qbk [.one a0] fun o0 =>
  call Qbn [.one a1] fun o1 =>
  rt [.own true 129 17, .own true 114 4] [(atP o0 0), (atP o1 0)] k) u0
 | _, _ => False
abbrev Qbo_e : Ent := ⟨[62], Qbo⟩
theorem Qbo_w : EntOK Tryz.prog TT Qbo_e := ent_ok tabok (L := [Qbk_e, Qbn_e]) ⟨Qbk_w, Qbn_w, trivial⟩ (keep := []) (l := []) Tryz.func62 (by kernel_rfl) (sg := [.agg [.own true 129 17, .own true 114 4]]) (by kernel_rfl) trivial fun av k h => by
  unfold Qbo at h; split at h
  · apply un_all h; clear h; intro a0 a1 h; exact Eq.mpr (by kernel_rfl) h
  · exact h.elim
def Qbp_r0 (v : List PV) (K : List PV → Prop) (x0k : PV → PV → PV → PV → Prop) : Prop :=
 un 4 (fun v0 v1 v2 v3 =>
  lenP v0 fun r0 =>
  binP .lss v1 r0 fun r1 =>
  iteP r1
   (elemP 2 v0 v1 fun c2 =>
   call Qbo [.agg [(atP c2 0), (atP c2 1)]] fun o3 =>
   boundP 2 v3 v1 fun n4 =>
   (flatCond [.nil 129 17, .nil 114 4] [.own 2, .own 3]) ∧ setP v3 n4 0 [(atP o3 0), (atP o3 1)] fun r5 =>
   binP .add v1 (I 1) fun r6 =>
   K [v0, r6, v2, r5])
   (x0k v0 v1 v2 v3)) v
def Qbp : GM
 | [.one a0], k => 
  lenP a0 fun r0 =>
  (r0 = r0) ∧ (2 = 2) ∧ makeP 2 r0 [(.list 17 []), (.list 4 [])] fun r1 =>
  lp (fun L w => Qbp_r0 w L
   (fun q7 q8 q9 q10 => rt [.own true 63 2] [q10] k)) [a0, (I 0), (.list 2 []), r1]
 | _, _ => False
abbrev Qbp_e : Ent := ⟨[21], Qbp⟩
def Qbp_l : List LE := [⟨0, ⟨[(0, .one zB), (2, .one (.own 1)), (3, .one (.own 0)), (4, .one zB)], [], [(1, ⟨.deep, 63, 2, (.bool false)⟩), (0, ⟨.deep, 63, 2, (.bool false)⟩)], 2, 23⟩, fun K k v => Qbp_r0 v K (fun x0 x1 x2 x3 => k (.exit 0) ⟨[(0, .one (.pv x0)), (2, .one (.own 1)), (3, .one (.own 0)), (4, .one (.pv x1))], [], [(1, ⟨.deep, 63, 2, x2⟩), (0, ⟨.deep, 63, 2, x3⟩)], 2, 23⟩)⟩]
theorem Qbp_s : LEsOK (orac [Qbo_e]) TT (kk [0, 2, 3, 4]) (sumsOf Qbp_l) Tryz.f21 Qbp_l := ⟨fun v K k h => by
  apply un_all h; exact fun v0 v1 v2 v3 h => Eq.mpr (by kernel_rfl) h
  , trivial⟩
theorem Qbp_w : EntOK Tryz.prog TT Qbp_e := ent_ok tabok (L := [Qbo_e]) ⟨Qbo_w, trivial⟩ (keep := (kk [0, 2, 3, 4])) (l := Qbp_l) Tryz.func21 (by kernel_rfl) (sg := [.one (.own true 63 2)]) (by kernel_rfl) Qbp_s fun av k h => by
  unfold Qbp at h; split at h
  · exact Eq.mpr (by kernel_rfl) h
  · exact h.elim
def Qbq : GM
 | [.agg u0], k => un 3 (fun a0 a1 a2 => 
  call Qbo [.agg [a0, a1]] fun o0 =>
  call Qbc [.one a2] fun o1 =>
  rt [.own true 129 17, .own true 114 4, .own true 3 1] [(atP o0 0), (atP o0 1), (atP o1 0)] k) u0
 | _, _ => False
abbrev Qbq_e : Ent := ⟨[63], Qbq⟩
theorem Qbq_w : EntOK Tryz.prog TT Qbq_e := ent_ok tabok (L := [Qbo_e, Qbc_e]) ⟨Qbo_w, Qbc_w, trivial⟩ (keep := []) (l := []) Tryz.func63 (by kernel_rfl) (sg := [.agg [.own true 129 17, .own true 114 4, .own true 3 1]]) (by kernel_rfl) trivial fun av k h => by
  unfold Qbq at h; split at h
  · apply un_all h; clear h; intro a0 a1 a2 h; exact Eq.mpr (by kernel_rfl) h
  · exact h.elim
def Qbr_r0 (v : List PV) (K : List PV → Prop) (x0k : PV → PV → PV → PV → Prop) : Prop :=
 un 4 (fun v0 v1 v2 v3 =>
  lenP v0 fun r0 =>
  binP .lss v1 r0 fun r1 =>
  iteP r1
   (elemP 3 v0 v1 fun c2 =>
   call Qbq [.agg [(atP c2 0), (atP c2 1), (atP c2 2)]] fun o3 =>
   boundP 3 v3 v1 fun n4 =>
   (flatCond [.nil 129 17, .nil 114 4, .nil 3 1] [.own 2, .own 3, .own 4]) ∧ setP v3 n4 0 [(atP o3 0), (atP o3 1), (atP o3 2)] fun r5 =>
   binP .add v1 (I 1) fun r6 =>
   K [v0, r6, v2, r5])
   (x0k v0 v1 v2 v3)) v
def Qbr : GM
 | [.one a0], k => 
  lenP a0 fun r0 =>
  (r0 = r0) ∧ (3 = 3) ∧ makeP 3 r0 [(.list 17 []), (.list 4 []), (.list 1 [])] fun r1 =>
  lp (fun L w => Qbr_r0 w L
   (fun q7 q8 q9 q10 => rt [.own true 66 3] [q10] k)) [a0, (I 0), (.list 3 []), r1]
 | _, _ => False
abbrev Qbr_e : Ent := ⟨[22], Qbr⟩
def Qbr_l : List LE := [⟨0, ⟨[(0, .one zB), (2, .one (.own 1)), (3, .one (.own 0)), (4, .one zB)], [], [(1, ⟨.deep, 66, 3, (.bool false)⟩), (0, ⟨.deep, 66, 3, (.bool false)⟩)], 2, 23⟩, fun K k v => Qbr_r0 v K (fun x0 x1 x2 x3 => k (.exit 0) ⟨[(0, .one (.pv x0)), (2, .one (.own 1)), (3, .one (.own 0)), (4, .one (.pv x1))], [], [(1, ⟨.deep, 66, 3, x2⟩), (0, ⟨.deep, 66, 3, x3⟩)], 2, 23⟩)⟩]
theorem Qbr_s : LEsOK (orac [Qbq_e]) TT (kk [0, 2, 3, 4]) (sumsOf Qbr_l) Tryz.f22 Qbr_l := ⟨fun v K k h => by
  apply un_all h; exact fun v0 v1 v2 v3 h => Eq.mpr (by kernel_rfl) h
  , trivial⟩
theorem Qbr_w : EntOK Tryz.prog TT Qbr_e := ent_ok tabok (L := [Qbq_e]) ⟨Qbq_w, trivial⟩ (keep := (kk [0, 2, 3, 4])) (l := Qbr_l) Tryz.func22 (by kernel_rfl) (sg := [.one (.own true 66 3)]) (by kernel_rfl) Qbr_s fun av k h => by
  unfold Qbr at h; split at h
  · exact Eq.mpr (by kernel_rfl) h
  · exact h.elim
def Qbs : GM
 | [.agg u0], k => un 2 (fun a0 a1 => 
  call Qbp [.one a0] fun o0 =>
  rt [.own true 63 2, .sc] [(atP o0 0), a1] k) u0
 | _, _ => False
abbrev Qbs_e : Ent := ⟨[64], Qbs⟩
theorem Qbs_w : EntOK Tryz.prog TT Qbs_e := ent_ok tabok (L := [Qbp_e]) ⟨Qbp_w, trivial⟩ (keep := []) (l := []) Tryz.func64 (by kernel_rfl) (sg := [.agg [.own true 63 2, .sc]]) (by kernel_rfl) trivial fun av k h => by
  unfold Qbs at h; split at h
  · apply un_all h; clear h; intro a0 a1 h; exact Eq.mpr (by kernel_rfl) h
  · exact h.elim
def Qbt_r0 (v : List PV) (K : List PV → Prop) (x0k : PV → PV → PV → PV → Prop) : Prop :=
 un 4 (fun v0 v1 v2 v3 =>
  lenP v0 fun r0 =>
  binP .lss v1 r0 fun r1 =>
  iteP r1
   (elemP 2 v0 v1 fun c2 =>
   call Qbs [.agg [(atP c2 0), (atP c2 1)]] fun o3 =>
   boundP 2 v3 v1 fun n4 =>
   (flatCond [.nil 63 2, .pv (I 0)] [.own 2, .pv (atP o3 1)]) ∧ setP v3 n4 0 [(atP o3 0), (atP o3 1)] fun r5 =>
   binP .add v1 (I 1) fun r6 =>
   K [v0, r6, v2, r5])
   (x0k v0 v1 v2 v3)) v
def Qbt : GM
 | [.one a0], k => 
  lenP a0 fun r0 =>
  (r0 = r0) ∧ (2 = 2) ∧ makeP 2 r0 [(.list 2 []), (I 0)] fun r1 =>
  lp (fun L w => Qbt_r0 w L
   (fun q7 q8 q9 q10 => rt [.own true 105 2] [q10] k)) [a0, (I 0), (.list 2 []), r1]
 | _, _ => False
abbrev Qbt_e : Ent := ⟨[23], Qbt⟩
def Qbt_l : List LE := [⟨0, ⟨[(0, .one zB), (2, .one (.own 1)), (3, .one (.own 0)), (4, .one zB)], [], [(1, ⟨.deep, 105, 2, (.bool false)⟩), (0, ⟨.deep, 105, 2, (.bool false)⟩)], 2, 23⟩, fun K k v => Qbt_r0 v K (fun x0 x1 x2 x3 => k (.exit 0) ⟨[(0, .one (.pv x0)), (2, .one (.own 1)), (3, .one (.own 0)), (4, .one (.pv x1))], [], [(1, ⟨.deep, 105, 2, x2⟩), (0, ⟨.deep, 105, 2, x3⟩)], 2, 23⟩)⟩]
theorem Qbt_s : LEsOK (orac [Qbs_e]) TT (kk [0, 2, 3, 4]) (sumsOf Qbt_l) Tryz.f23 Qbt_l := ⟨fun v K k h => by
  apply un_all h; exact fun v0 v1 v2 v3 h => Eq.mpr (by kernel_rfl) h
  , trivial⟩
theorem Qbt_w : EntOK Tryz.prog TT Qbt_e := ent_ok tabok (L := [Qbs_e]) ⟨Qbs_w, trivial⟩ (keep := (kk [0, 2, 3, 4])) (l := Qbt_l) Tryz.func23 (by kernel_rfl) (sg := [.one (.own true 105 2)]) (by kernel_rfl) Qbt_s fun av k h => by
  unfold Qbt at h; split at h
  · exact Eq.mpr (by kernel_rfl) h
  · exact h.elim
def Qbu_r0 (v : List PV) (K : List PV → Prop) (x0k : PV → PV → PV → PV → Prop) : Prop :=
 un 4 (fun v0 v1 v2 v3 =>
  lenP v0 fun r0 =>
  binP .lss v1 r0 fun r1 =>
  iteP r1
   (elemP 1 v0 v1 fun c2 =>
   call Qbk [.one (atP c2 0)] fun o3 =>
   boundP 1 v3 v1 fun n4 =>
   (flatCond [.nil 129 17] [.own 2]) ∧ setP v3 n4 0 [(atP o3 0)] fun r5 =>
   binP .add v1 (I 1) fun r6 =>
   K [v0, r6, v2, r5])
   (x0k v0 v1 v2 v3)) v
def Qbu : GM
 | [.one a0], k => 
  lenP a0 fun r0 =>
  (r0 = r0) ∧ (1 = 1) ∧ makeP 1 r0 [(.list 17 [])] fun r1 =>
  lp (fun L w => Qbu_r0 w L
   (fun q7 q8 q9 q10 => rt [.own true 60 1] [q10] k)) [a0, (I 0), (.list 1 []), r1]
 | _, _ => False
abbrev Qbu_e : Ent := ⟨[65], Qbu⟩
def Qbu_l : List LE := [⟨0, ⟨[(0, .one zB), (2, .one (.own 1)), (3, .one (.own 0)), (4, .one zB)], [], [(1, ⟨.deep, 60, 1, (.bool false)⟩), (0, ⟨.deep, 60, 1, (.bool false)⟩)], 2, 23⟩, fun K k v => Qbu_r0 v K (fun x0 x1 x2 x3 => k (.exit 0) ⟨[(0, .one (.pv x0)), (2, .one (.own 1)), (3, .one (.own 0)), (4, .one (.pv x1))], [], [(1, ⟨.deep, 60, 1, x2⟩), (0, ⟨.deep, 60, 1, x3⟩)], 2, 23⟩)⟩]
theorem Qbu_s : LEsOK (orac [Qbk_e]) TT (kk [0, 2, 3, 4]) (sumsOf Qbu_l) Tryz.f65 Qbu_l := ⟨fun v K k h => by
  apply un_all h; exact fun v0 v1 v2 v3 h => Eq.mpr (by kernel_rfl) h
  , trivial⟩
theorem Qbu_w : EntOK Tryz.prog TT Qbu_e := ent_ok tabok (L := [Qbk_e]) ⟨Qbk_w, trivial⟩ (keep := (kk [0, 2, 3, 4])) (l := Qbu_l) Tryz.func65 (by kernel_rfl) (sg := [.one (.own true 60 1)]) (by kernel_rfl) Qbu_s fun av k h => by
  unfold Qbu at h; split at h
  · exact Eq.mpr (by kernel_rfl) h
  · exact h.elim
def Qbv : GM
 | [.agg u0], k => un 51 (fun a0 a1 a2 a3 a4 a5 a6 a7 a8 a9 a10 a11 a12 a13 a14 a15 a16 a17 a18 a19 a20 a21 a22 a23 a24 a25 a26 a27 a28 a29 a30 a31 a32 a33 a34 a35 a36 a37 a38 a39 a40 a41 a42 a43 a44 a45 a46 a47 a48 a49 a50 => 
  call Qbj [.agg [a0, a1, a2, a3, a4, a5, a6, a7, a8, a9, a10, a11, a12, a13, a14, a15, a16]] fun o0 =>
  call Qbj [.agg [a17, a18, a19, a20, a21, a22, a23, a24, a25, a26, a27, a28, a29, a30, a31, a32, a33]] fun o1 =>
  call Qbj [.agg [a34, a35, a36, a37, a38, a39, a40, a41, a42, a43, a44, a45, a46, a47, a48, a49, a50]] fun o2 =>
  rt [.sc, .sc, .sc, .sc, .sc, .sc, .sc, .sc, .own true 3 1, .sc, .own true 3 1, .sc, .sc, .own true 3 1, .sc, .sc, .own true 191 2, .sc, .sc, .sc, .sc, .sc, .sc, .sc, .sc, .own true 3 1, .sc, .own true 3 1, .sc, .sc, .own true 3 1, .sc, .sc, .own true 191 2, .sc, .sc, .sc, .sc, .sc, .sc, .sc, .sc, .own true 3 1, .sc, .own true 3 1, .sc, .sc, .own true 3 1, .sc, .sc, .own true 191 2] [(atP o0 0), (atP o0 1), (atP o0 2), (atP o0 3), (atP o0 4), (atP o0 5), (atP o0 6), (atP o0 7), (atP o0 8), (atP o0 9), (atP o0 10), (atP o0 11), (atP o0 12), (atP o0 13), (atP o0 14), (atP o0 15), (atP o0 16), (atP o1 0), (atP o1 1), (atP o1 2), (atP o1 3), (atP o1 4), (atP o1 5), (atP o1 6), (atP o1 7), (atP o1 8), (atP o1 9), (atP o1 10), (atP o1 11), (atP o1 12), (atP o1 13), (atP o1 14), (atP o1 15), (atP o1 16), (atP o2 0), (atP o2 1), (atP o2 2), (atP o2 3), (atP o2 4), (atP o2 5), (atP o2 6), (atP o2 7), (atP o2 8), (atP o2 9), (atP o2 10), (atP o2 11), (atP o2 12), (atP o2 13), (atP o2 14), (atP o2 15), (atP o2 16)] k) u0
 | _, _ => False
abbrev Qbv_e : Ent := ⟨[118], Qbv⟩
theorem Qbv_w : EntOK Tryz.prog TT Qbv_e := ent_ok tabok (L := [Qbj_e]) ⟨Qbj_w, trivial⟩ (keep := []) (l := []) Tryz.func118 (by kernel_rfl) (sg := [.agg [.sc, .sc, .sc, .sc, .sc, .sc, .sc, .sc, .own true 3 1, .sc, .own true 3 1, .sc, .sc, .own true 3 1, .sc, .sc, .own true 191 2, .sc, .sc, .sc, .sc, .sc, .sc, .sc, .sc, .own true 3 1, .sc, .own true 3 1, .sc, .sc, .own true 3 1, .sc, .sc, .own true 191 2, .sc, .sc, .sc, .sc, .sc, .sc, .sc, .sc, .own true 3 1, .sc, .own true 3 1, .sc, .sc, .own true 3 1, .sc, .sc, .own true 191 2]]) (by kernel_rfl) trivial fun av k h => by
  unfold Qbv at h; split at h
  · apply un_all h; clear h; intro a0 a1 a2 a3 a4 a5 a6 a7 a8 a9 a10 a11 a12 a13 a14 a15 a16 a17 a18 a19 a20 a21 a22 a23 a24 a25 a26 a27 a28 a29 a30 a31 a32 a33 a34 a35 a36 a37 a38 a39 a40 a41 a42 a43 a44 a45 a46 a47 a48 a49 a50 h; exact Eq.mpr (by kernel_rfl) h
  · exact h.elim
def Qbw_r0 (v : List PV) (K : List PV → Prop) (x0k : PV → PV → PV → PV → Prop) : Prop :=
 un 4 (fun v0 v1 v2 v3 =>
  lenP v0 fun r0 =>
  binP .lss v1 r0 fun r1 =>
  iteP r1
   (elemP 51 v0 v1 fun c2 =>
   call Qbv [.agg [(atP c2 0), (atP c2 1), (atP c2 2), (atP c2 3), (atP c2 4), (atP c2 5), (atP c2 6), (atP c2 7), (atP c2 8), (atP c2 9), (atP c2 10), (atP c2 11), (atP c2 12), (atP c2 13), (atP c2 14), (atP c2 15), (atP c2 16), (atP c2 17), (atP c2 18), (atP c2 19), (atP c2 20), (atP c2 21), (atP c2 22), (atP c2 23), (atP c2 24), (atP c2 25), (atP c2 26), (atP c2 27), (atP c2 28), (atP c2 29), (atP c2 30), (atP c2 31), (atP c2 32), (atP c2 33), (atP c2 34), (atP c2 35), (atP c2 36), (atP c2 37), (atP c2 38), (atP c2 39), (atP c2 40), (atP c2 41), (atP c2 42), (atP c2 43), (atP c2 44), (atP c2 45), (atP c2 46), (atP c2 47), (atP c2 48), (atP c2 49), (atP c2 50)]] fun o3 =>
   boundP 51 v3 v1 fun n4 =>
   (flatCond [.pv (I 0), .pv (I 0), .pv (I 0), .pv (I 0), .pv (I 0), .pv (I 0), .pv (I 0), .pv (I 0), .nil 3 1, .pv (I 0), .nil 3 1, .pv (I 0), .pv (I 0), .nil 3 1, .pv (I 0), zB, .nil 191 2, .pv (I 0), .pv (I 0), .pv (I 0), .pv (I 0), .pv (I 0), .pv (I 0), .pv (I 0), .pv (I 0), .nil 3 1, .pv (I 0), .nil 3 1, .pv (I 0), .pv (I 0), .nil 3 1, .pv (I 0), zB, .nil 191 2, .pv (I 0), .pv (I 0), .pv (I 0), .pv (I 0), .pv (I 0), .pv (I 0), .pv (I 0), .pv (I 0), .nil 3 1, .pv (I 0), .nil 3 1, .pv (I 0), .pv (I 0), .nil 3 1, .pv (I 0), zB, .nil 191 2] [.pv (atP o3 0), .pv (atP o3 1), .pv (atP o3 2), .pv (atP o3 3), .pv (atP o3 4), .pv (atP o3 5), .pv (atP o3 6), .pv (atP o3 7), .own 10, .pv (atP o3 9), .own 12, .pv (atP o3 11), .pv (atP o3 12), .own 15, .pv (atP o3 14), .pv (atP o3 15), .own 18, .pv (atP o3 17), .pv (atP o3 18), .pv (atP o3 19), .pv (atP o3 20), .pv (atP o3 21), .pv (atP o3 22), .pv (atP o3 23), .pv (atP o3 24), .own 27, .pv (atP o3 26), .own 29, .pv (atP o3 28), .pv (atP o3 29), .own 32, .pv (atP o3 31), .pv (atP o3 32), .own 35, .pv (atP o3 34), .pv (atP o3 35), .pv (atP o3 36), .pv (atP o3 37), .pv (atP o3 38), .pv (atP o3 39), .pv (atP o3 40), .pv (atP o3 41), .own 44, .pv (atP o3 43), .own 46, .pv (atP o3 45), .pv (atP o3 46), .own 49, .pv (atP o3 48), .pv (atP o3 49), .own 52]) ∧ setP v3 n4 0 [(atP o3 0), (atP o3 1), (atP o3 2), (atP o3 3), (atP o3 4), (atP o3 5), (atP o3 6), (atP o3 7), (atP o3 8), (atP o3 9), (atP o3 10), (atP o3 11), (atP o3 12), (atP o3 13), (atP o3 14), (atP o3 15), (atP o3 16), (atP o3 17), (atP o3 18), (atP o3 19), (atP o3 20), (atP o3 21), (atP o3 22), (atP o3 23), (atP o3 24), (atP o3 25), (atP o3 26), (atP o3 27), (atP o3 28), (atP o3 29), (atP o3 30), (atP o3 31), (atP o3 32), (atP o3 33), (atP o3 34), (atP o3 35), (atP o3 36), (atP o3 37), (atP o3 38), (atP o3 39), (atP o3 40), (atP o3 41), (atP o3 42), (atP o3 43), (atP o3 44), (atP o3 45), (atP o3 46), (atP o3 47), (atP o3 48), (atP o3 49), (atP o3 50)] fun r5 =>
   binP .add v1 (I 1) fun r6 =>
   K [v0, r6, v2, r5])
   (x0k v0 v1 v2 v3)) v
def Qbw : GM
 | [.one a0], k => 
  lenP a0 fun r0 =>
  (r0 = r0) ∧ (51 = 51) ∧ makeP 51 r0 [(I 0), (I 0), (I 0), (I 0), (I 0), (I 0), (I 0), (I 0), (.list 1 []), (I 0), (.list 1 []), (I 0), (I 0), (.list 1 []), (I 0), (.bool false), (.list 2 []), (I 0), (I 0), (I 0), (I 0), (I 0), (I 0), (I 0), (I 0), (.list 1 []), (I 0), (.list 1 []), (I 0), (I 0), (.list 1 []), (I 0), (.bool false), (.list 2 []), (I 0), (I 0), (I 0), (I 0), (I 0), (I 0), (I 0), (I 0), (.list 1 []), (I 0), (.list 1 []), (I 0), (I 0), (.list 1 []), (I 0), (.bool false), (.list 2 [])] fun r1 =>
  lp (fun L w => Qbw_r0 w L
   (fun q7 q8 q9 q10 => rt [.own true 131 51] [q10] k)) [a0, (I 0), (.list 51 []), r1]
 | _, _ => False
abbrev Qbw_e : Ent := ⟨[66], Qbw⟩
def Qbw_l : List LE := [⟨0, ⟨[(0, .one zB), (2, .one (.own 1)), (3, .one (.own 0)), (4, .one zB)], [], [(1, ⟨.deep, 131, 51, (.bool false)⟩), (0, ⟨.deep, 131, 51, (.bool false)⟩)], 2, 23⟩, fun K k v => Qbw_r0 v K (fun x0 x1 x2 x3 => k (.exit 0) ⟨[(0, .one (.pv x0)), (2, .one (.own 1)), (3, .one (.own 0)), (4, .one (.pv x1))], [], [(1, ⟨.deep, 131, 51, x2⟩), (0, ⟨.deep, 131, 51, x3⟩)], 2, 23⟩)⟩]
theorem Qbw_s : LEsOK (orac [Qbv_e]) TT (kk [0, 2, 3, 4]) (sumsOf Qbw_l) Tryz.f66 Qbw_l := ⟨fun v K k h => by
  apply un_all h; exact fun v0 v1 v2 v3 h => Eq.mpr (by kernel_rfl) h
  , trivial⟩
theorem Qbw_w : EntOK Tryz.prog TT Qbw_e := ent_ok tabok (L := [Qbv_e]) ⟨Qbv_w, trivial⟩ (keep := (kk [0, 2, 3, 4])) (l := Qbw_l) Tryz.func66 (by kernel_rfl) (sg := [.one (.own true 131 51)]) (by kernel_rfl) Qbw_s fun av k h => by
  unfold Qbw at h; split at h
  · exact Eq.mpr (by kernel_rfl) h
  · exact h.elim
def Qbx : GM
 | [.agg u0], k => un 2 (fun a0 a1 => 
  call Qbu [.one a0] fun o0 =>
  call Qbw [.one a1] fun o1 =>
  rt [.own true 60 1, .own true 131 51] [(atP o0 0), (atP o1 0)] k) u0
 | _, _ => False
abbrev Qbx_e : Ent := ⟨[24], Qbx⟩
theorem Qbx_w : EntOK Tryz.prog TT Qbx_e := ent_ok tabok (L := [Qbu_e, Qbw_e]) ⟨Qbu_w, Qbw_w, trivial⟩ (keep := []) (l := []) Tryz.func24 (by kernel_rfl) (sg := [.agg [.own true 60 1, .own true 131 51]]) (by kernel_rfl) trivial fun av k h => by
  unfold Qbx at h; split at h
  · apply un_all h; clear h; intro a0 a1 h; exact Eq.mpr (by kernel_rfl) h
  · exact h.elim
def Qby : GM
 | [.agg u0], k => un 2 (fun a0 a1 => 
  call Qbc [.one a1] fun o0 =>
  rt [.sc, .own true 3 1] [a0, (atP o0 0)] k) u0
 | _, _ => False
abbrev Qby_e : Ent := ⟨[224], Qby⟩
theorem Qby_w : EntOK Tryz.prog TT Qby_e := ent_ok tabok (L := [Qbc_e]) ⟨Qbc_w, trivial⟩ (keep := []) (l := []) Tryz.func224 (by kernel_rfl) (sg := [.agg [.sc, .own true 3 1]]) (by kernel_rfl) trivial fun av k h => by
  unfold Qby at h; split at h
  · apply un_all h; clear h; intro a0 a1 h; exact Eq.mpr (by kernel_rfl) h
  · exact h.elim
def Qbz : GM
 | [.agg u0], k => un 13 (fun a0 a1 a2 a3 a4 a5 a6 a7 a8 a9 a10 a11 a12 => 
  call Qbm [.agg [a1, a2, a3, a4]] fun o0 =>
  call Qbm [.agg [a5, a6, a7, a8]] fun o1 =>
  call Qby [.agg [a9, a10]] fun o2 =>
  call Qby [.agg [a11, a12]] fun o3 =>
  rt [.sc, .sc, .sc, .sc, .own true 9 1, .sc, .sc, .sc, .own true 9 1, .sc, .own true 3 1, .sc, .own true 3 1] [a0, (atP o0 0), (atP o0 1), (atP o0 2), (atP o0 3), (atP o1 0), (atP o1 1), (atP o1 2), (atP o1 3), (atP o2 0), (atP o2 1), (atP o3 0), (atP o3 1)] k) u0
 | _, _ => False
abbrev Qbz_e : Ent := ⟨[225], Qbz⟩
theorem Qbz_w : EntOK Tryz.prog TT Qbz_e := ent_ok tabok (L := [Qbm_e, Qby_e]) ⟨Qbm_w, Qby_w, trivial⟩ (keep := []) (l := []) Tryz.func225 (by kernel_rfl) (sg := [.agg [.sc, .sc, .sc, .sc, .own true 9 1, .sc, .sc, .sc, .own true 9 1, .sc, .own true 3 1, .sc, .own true 3 1]]) (by kernel_rfl) trivial fun av k h => by
  unfold Qbz at h; split at h
  · apply un_all h; clear h; intro a0 a1 a2 a3 a4 a5 a6 a7 a8 a9 a10 a11 a12 h; exact Eq.mpr (by kernel_rfl) h
  · exact h.elim
def Qca : GM
 | [.agg u0], k => un 21 (fun a0 a1 a2 a3 a4 a5 a6 a7 a8 a9 a10 a11 a12 a13 a14 a15 a16 a17 a18 a19 a20 => 
  call Qbk [.one a0] fun o0 =>
  call Qbm [.agg [a2, a3, a4, a5]] fun o1 =>
  call Qby [.agg [a6, a7]] fun o2 =>
  call Qbz [.agg [a8, a9, a10, a11, a12, a13, a14, a15, a16, a17, a18, a19, a20]] fun o3 =>
  rt [.own true 129 17, .sc, .sc, .sc, .sc, .own true 9 1, .sc, .own true 3 1, .sc, .sc, .sc, .sc, .own true 9 1, .sc, .sc, .sc, .own true 9 1, .sc, .own true 3 1, .sc, .own true 3 1] [(atP o0 0), a1, (atP o1 0), (atP o1 1), (atP o1 2), (atP o1 3), (atP o2 0), (atP o2 1), (atP o3 0), (atP o3 1), (atP o3 2), (atP o3 3), (atP o3 4), (atP o3 5), (atP o3 6), (atP o3 7), (atP o3 8), (atP o3 9), (atP o3 10), (atP o3 11), (atP o3 12)] k) u0
 | _, _ => False
abbrev Qca_e : Ent := ⟨[172], Qca⟩
theorem Qca_w : EntOK Tryz.prog TT Qca_e := ent_ok tabok (L := [Qbk_e, Qbm_e, Qby_e, Qbz_e]) ⟨Qbk_w, Qbm_w, Qby_w, Qbz_w, trivial⟩ (keep := []) (l := []) Tryz.func172 (by kernel_rfl) (sg := [.agg [.own true 129 17, .sc, .sc, .sc, .sc, .own true 9 1, .sc, .own true 3 1, .sc, .sc, .sc, .sc, .own true 9 1, .sc, .sc, .sc, .own true 9 1, .sc, .own true 3 1, .sc, .own true 3 1]]) (by kernel_rfl) trivial fun av k h => by
  unfold Qca at h; split at h
  · apply un_all h; clear h; intro a0 a1 a2 a3 a4 a5 a6 a7 a8 a9 a10 a11 a12 a13 a14 a15 a16 a17 a18 a19 a20 h; exact Eq.mpr (by kernel_rfl) h
  · exact h.elim
def Qcb : GM
 | [.agg u0], k => un 23 (fun a0 a1 a2 a3 a4 a5 a6 a7 a8 a9 a10 a11 a12 a13 a14 a15 a16 a17 a18 a19 a20 a21 a22 => 
  call Qca [.agg [a2, a3, a4, a5, a6, a7, a8, a9, a10, a11, a12, a13, a14, a15, a16, a17, a18, a19, a20, a21, a22]] fun o0 =>
  rt [.sc, .sc, .own true 129 17, .sc, .sc, .sc, .sc, .own true 9 1, .sc, .own true 3 1, .sc, .sc, .sc, .sc, .own true 9 1, .sc, .sc, .sc, .own true 9 1, .sc, .own true 3 1, .sc, .own true 3 1] [a0, a1, (atP o0 0), (atP o0 1), (atP o0 2), (atP o0 3), (atP o0 4), (atP o0 5), (atP o0 6), (atP o0 7), (atP o0 8), (atP o0 9), (atP o0 10), (atP o0 11), (atP o0 12), (atP o0 13), (atP o0 14), (atP o0 15), (atP o0 16), (atP o0 17), (atP o0 18), (atP o0 19), (atP o0 20)] k) u0
 | _, _ => False
abbrev Qcb_e : Ent := ⟨[119], Qcb⟩
theorem Qcb_w : EntOK Tryz.prog TT Qcb_e := ent_ok tabok (L := [Qca_e]) ⟨Qca_w, trivial⟩ (keep := []) (l := []) Tryz.func119 (by kernel_rfl) (sg := [.agg [.sc, .sc, .own true 129 17, .sc, .sc, .sc, .sc, .own true 9 1, .sc, .own true 3 1, .sc, .sc, .sc, .sc, .own true 9 1, .sc, .sc, .sc, .own true 9 1, .sc, .own true 3 1, .sc, .own true 3 1]]) (by kernel_rfl) trivial fun av k h => by
  unfold Qcb at h; split at h
  · apply un_all h; clear h; intro a0 a1 a2 a3 a4 a5 a6 a7 a8 a9 a10 a11 a12 a13 a14 a15 a16 a17 a18 a19 a20 a21 a22 h; exact Eq.mpr (by kernel_rfl) h
  · exact h.elim
def Qcc_r0 (v : List PV) (K : List PV → Prop) (x0k : PV → PV → PV → PV → Prop) : Prop :=
 un 4 (fun v0 v1 v2 v3 =>
  lenP v0 fun r0 =>
  binP .lss v1 r0 fun r1 =>
  iteP r1
   (elemP 23 v0 v1 fun c2 =>
   call Qcb [.agg [(atP c2 0), (atP c2 1), (atP c2 2), (atP c2 3), (atP c2 4), (atP c2 5), (atP c2 6), (atP c2 7), (atP c2 8), (atP c2 9), (atP c2 10), (atP c2 11), (atP c2 12), (atP c2 13), (atP c2 14), (atP c2 15), (atP c2 16), (atP c2 17), (atP c2 18), (atP c2 19), (atP c2 20), (atP c2 21), (atP c2 22)]] fun o3 =>
   boundP 23 v3 v1 fun n4 =>
   (flatCond [.pv (I 0), .pv (.str ⟨#[]⟩), .nil 129 17, zB, .pv (.str ⟨#[]⟩), .pv (I 0), .pv (I 0), .nil 9 1, .pv (I 0), .nil 3 1, .pv (I 0), .pv (.str ⟨#[]⟩), .pv (I 0), .pv (I 0), .nil 9 1, .pv (.str ⟨#[]⟩), .pv (I 0), .pv (I 0), .nil 9 1, .pv (I 0), .nil 3 1, .pv (I 0), .nil 3 1] [.pv (atP o3 0), .pv (atP o3 1), .own 4, .pv (atP o3 3), .pv (atP o3 4), .pv (atP o3 5), .pv (atP o3 6), .own 9, .pv (atP o3 8), .own 11, .pv (atP o3 10), .pv (atP o3 11), .pv (atP o3 12), .pv (atP o3 13), .own 16, .pv (atP o3 15), .pv (atP o3 16), .pv (atP o3 17), .own 20, .pv (atP o3 19), .own 22, .pv (atP o3 21), .own 24]) ∧ setP v3 n4 0 [(atP o3 0), (atP o3 1), (atP o3 2), (atP o3 3), (atP o3 4), (atP o3 5), (atP o3 6), (atP o3 7), (atP o3 8), (atP o3 9), (atP o3 10), (atP o3 11), (atP o3 12), (atP o3 13), (atP o3 14), (atP o3 15), (atP o3 16), (atP o3 17), (atP o3 18), (atP o3 19), (atP o3 20), (atP o3 21), (atP o3 22)] fun r5 =>
   binP .add v1 (I 1) fun r6 =>
   K [v0, r6, v2, r5])
   (x0k v0 v1 v2 v3)) v
def Qcc : GM
 | [.one a0], k => 
  lenP a0 fun r0 =>
  (r0 = r0) ∧ (23 = 23) ∧ makeP 23 r0 [(I 0), (.str ⟨#[]⟩), (.list 17 []), (.bool false), (.str ⟨#[]⟩), (I 0), (I 0), (.list 1 []), (I 0), (.list 1 []), (I 0), (.str ⟨#[]⟩), (I 0), (I 0), (.list 1 []), (.str ⟨#[]⟩), (I 0), (I 0), (.list 1 []), (I 0), (.list 1 []), (I 0), (.list 1 [])] fun r1 =>
  lp (fun L w => Qcc_r0 w L
   (fun q7 q8 q9 q10 => rt [.own true 122 23] [q10] k)) [a0, (I 0), (.list 23 []), r1]
 | _, _ => False
abbrev Qcc_e : Ent := ⟨[67], Qcc⟩
def Qcc_l : List LE := [⟨0, ⟨[(0, .one zB), (2, .one (.own 1)), (3, .one (.own 0)), (4, .one zB)], [], [(1, ⟨.deep, 122, 23, (.bool false)⟩), (0, ⟨.deep, 122, 23, (.bool false)⟩)], 2, 23⟩, fun K k v => Qcc_r0 v K (fun x0 x1 x2 x3 => k (.exit 0) ⟨[(0, .one (.pv x0)), (2, .one (.own 1)), (3, .one (.own 0)), (4, .one (.pv x1))], [], [(1, ⟨.deep, 122, 23, x2⟩), (0, ⟨.deep, 122, 23, x3⟩)], 2, 23⟩)⟩]
theorem Qcc_s : LEsOK (orac [Qcb_e]) TT (kk [0, 2, 3, 4]) (sumsOf Qcc_l) Tryz.f67 Qcc_l := ⟨fun v K k h => by
  apply un_all h; exact fun v0 v1 v2 v3 h => Eq.mpr (by kernel_rfl) h
  , trivial⟩
theorem Qcc_w : EntOK Tryz.prog TT Qcc_e := ent_ok tabok (L := [Qcb_e]) ⟨Qcb_w, trivial⟩ (keep := (kk [0, 2, 3, 4])) (l := Qcc_l) Tryz.func67 (by kernel_rfl) (sg := [.one (.own true 122 23)]) (by kernel_rfl) Qcc_s fun av k h => by
  unfold Qcc at h; split at h
  · exact Eq.mpr (by kernel_rfl) h
  · exact h.elim
def Qcd : GM
 | [.agg u0], k => un 1 (fun a0 => 
  call Qcc [.one a0] fun o0 =>
  rt [.own true 122 23] [(atP o0 0)] k) u0
 | _, _ => False
abbrev Qcd_e : Ent := ⟨[25], Qcd⟩
theorem Qcd_w : EntOK Tryz.prog TT Qcd_e := ent_ok tabok (L := [Qcc_e]) ⟨Qcc_w, trivial⟩ (keep := []) (l := []) Tryz.func25 (by kernel_rfl) (sg := [.agg [.own true 122 23]]) (by kernel_rfl) trivial fun av k h => by
  unfold Qcd at h; split at h
  · apply un_all h; clear h; intro a0 h; exact Eq.mpr (by kernel_rfl) h
  · exact h.elim
def Qce : GM
 | [.agg u0], k => un 8 (fun a0 a1 a2 a3 a4 a5 a6 a7 => 
  call Qbe [.one a1] fun o0 =>
  call Qbp [.one a2] fun o1 =>
  call Qbr [.one a3] fun o2 =>
  call Qbt [.one a4] fun o3 =>
  call Qbx [.agg [a5, a6]] fun o4 =>
  call Qcd [.agg [a7]] fun o5 =>
  rt [.sc, .own true 134 1, .own true 63 2, .own true 66 3, .own true 105 2, .own true 60 1, .own true 131 51, .own true 122 23] [a0, (atP o0 0), (atP o1 0), (atP o2 0), (atP o3 0), (atP o4 0), (atP o4 1), (atP o5 0)] k) u0
 | _, _ => False
abbrev Qce_e : Ent := ⟨[6], Qce⟩
theorem Qce_w : EntOK Tryz.prog TT Qce_e := ent_ok tabok (L := [Qbe_e, Qbp_e, Qbr_e, Qbt_e, Qbx_e, Qcd_e]) ⟨Qbe_w, Qbp_w, Qbr_w, Qbt_w, Qbx_w, Qcd_w, trivial⟩ (keep := []) (l := []) Tryz.func6 (by kernel_rfl) (sg := [.agg [.sc, .own true 134 1, .own true 63 2, .own true 66 3, .own true 105 2, .own true 60 1, .own true 131 51, .own true 122 23]]) (by kernel_rfl) trivial fun av k h => by
  unfold Qce at h; split at h
  · apply un_all h; clear h; intro a0 a1 a2 a3 a4 a5 a6 a7 h; exact Eq.mpr (by kernel_rfl) h
  · exact h.elim
def Qcf : GM
 | [.one a0, .one a1, .one a2], k => 
  binP .geq a0 a1 fun r0 =>
  iteP r0
   (binP .leq a0 a2 fun r1 =>
   rt [.sc] [r1] k)
   (rt [.sc] [(.bool false)] k)
 | _, _ => False
abbrev Qcf_e : Ent := ⟨[53], Qcf⟩
theorem Qcf_w : EntOK Tryz.prog TT Qcf_e := ent_ok tabok (L := []) trivial (keep := []) (l := []) Tryz.func53 (by kernel_rfl) (sg := [.one (.sc)]) (by kernel_rfl) trivial fun av k h => by
  unfold Qcf at h; split at h
  · exact Eq.mpr (by kernel_rfl) h
  · exact h.elim
def Qcg_r0 (v : List PV) (K : List PV → Prop) (x0k : PV → PV → Prop) (x1k : PV → PV → PV → PV → Prop) : Prop :=
 un 4 (fun v0 v1 v2 v3 =>
  lenP v2 fun r0 =>
  binP .lss v1 r0 fun r1 =>
  iteP r1
   (elemP 1 v2 v1 fun c2 =>
   call Qcf [.one (atP c2 0), .one (I 1), .one (I 99)] fun o3 =>
   unP .not (atP o3 0) fun r4 =>
   iteP r4
    (x0k v2 v3)
    (binP .gtr v1 (I 0) fun r5 =>
    iteP r5
     (binP .sub v1 (I 1) fun r6 =>
     elemP 1 v2 r6 fun c7 =>
     elemP 1 v2 v1 fun c8 =>
     binP .geq (atP c7 0) (atP c8 0) fun r9 =>
     iteP r9
      (x0k v2 v3)
      (binP .add v1 (I 1) fun r10 =>
      K [v0, r10, v2, v3]))
     (binP .add v1 (I 1) fun r11 =>
     K [v0, r11, v2, v3])))
   (x1k v0 v1 v2 v3)) v
def Qcg : GM
 | [.agg u0], k => un 2 (fun a0 a1 => 
  lp (fun L w => Qcg_r0 w L
   (fun q12 q13 => rt [.sc] [(.bool false)] k)
   (fun q14 q15 q16 q17 => lenP q16 fun r18 =>
    call Qcf [.one r18, .one (I 1), .one (I 4)] fun o19 =>
    iteP (atP o19 0)
     (lenP q16 fun r20 =>
     call Qcf [.one q17, .one (I 1), .one r20] fun o21 =>
     rt [.sc] [(atP o21 0)] k)
     (rt [.sc] [(.bool false)] k))) [(.bool false), (I 0), a0, a1]) u0
 | _, _ => False
abbrev Qcg_e : Ent := ⟨[161], Qcg⟩
def Qcg_l : List LE := [⟨0, ⟨[(1, .one (.ptr 0 0)), (2, .one zB), (3, .one zB)], [(0, [zB, zB])], [], 1, 48⟩, fun K k v => Qcg_r0 v K (fun x0 x1 => k .ret ⟨[(2, .one (.kb false))], [(0, [.pv x0, .pv x1])], [], 2, 48⟩) (fun x0 x1 x2 x3 => k (.exit 0) ⟨[(1, .one (.ptr 0 0)), (2, .one (.pv x0)), (3, .one (.pv x1))], [(0, [.pv x2, .pv x3])], [], 1, 48⟩)⟩]
theorem Qcg_s : LEsOK (orac [Qcf_e]) TT (kk [1, 2, 3, 19, 20, 21, 22, 23, 24, 25, 26, 27, 28, 29, 30, 31, 32, 33, 34, 41, 42, 43, 44, 45, 46]) (sumsOf Qcg_l) Tryz.f161 Qcg_l := ⟨fun v K k h => by
  apply un_all h; exact fun v0 v1 v2 v3 h => Eq.mpr (by kernel_rfl) h
  , trivial⟩
theorem Qcg_w : EntOK Tryz.prog TT Qcg_e := ent_ok tabok (L := [Qcf_e]) ⟨Qcf_w, trivial⟩ (keep := (kk [1, 2, 3, 19, 20, 21, 22, 23, 24, 25, 26, 27, 28, 29, 30, 31, 32, 33, 34, 41, 42, 43, 44, 45, 46])) (l := Qcg_l) Tryz.func161 (by kernel_rfl) (sg := [.one (.sc)]) (by kernel_rfl) Qcg_s fun av k h => by
  unfold Qcg at h; split at h
  · apply un_all h; clear h; intro a0 a1 h; exact Eq.mpr (by kernel_rfl) h
  · exact h.elim
def Qch : GM
 | [.agg u0], k => un 2 (fun a0 a1 => 
  binP .eql a1 (I 0) fun r0 =>
  iteP r0
   (lenP a0 fun r1 =>
   binP .eql r1 (I 0) fun r2 =>
   rt [.sc] [r2] k)
   (rt [.sc] [(.bool false)] k)) u0
 | _, _ => False
abbrev Qch_e : Ent := ⟨[257], Qch⟩
theorem Qch_w : EntOK Tryz.prog TT Qch_e := ent_ok tabok (L := []) trivial (keep := []) (l := []) Tryz.func257 (by kernel_rfl) (sg := [.one (.sc)]) (by kernel_rfl) trivial fun av k h => by
  unfold Qch at h; split at h
  · apply un_all h; clear h; intro a0 a1 h; exact Eq.mpr (by kernel_rfl) h
  · exact h.elim
def Qci : GM
 | [.agg u0], k => un 16 (fun a0 a1 a2 a3 a4 a5 a6 a7 a8 a9 a10 a11 a12 a13 a14 a15 => 
  call Qcf [.one a0, .one (I 0), .one (I 2147483646)] fun o0 =>
  unP .not (atP o0 0) fun r1 =>
  iteP r1
   (rt [.sc] [(.bool false)] k)
   (call Qcf [.one a6, .one (I 0), .one (I 2147483646)] fun o2 =>
   unP .not (atP o2 0) fun r3 =>
   iteP r3
    (rt [.sc] [(.bool false)] k)
    (call Qcf [.one a7, .one (I 0), .one (I 2147483646)] fun o4 =>
    unP .not (atP o4 0) fun r5 =>
    iteP r5
     (rt [.sc] [(.bool false)] k)
     (call Qcf [.one a1, .one (I 0), .one (I 200)] fun o6 =>
     unP .not (atP o6 0) fun r7 =>
     iteP r7
      (rt [.sc] [(.bool false)] k)
      (call Qcf [.one a2, .one (I 1), .one (I 3)] fun o8 =>
      unP .not (atP o8 0) fun r9 =>
      iteP r9
       (rt [.sc] [(.bool false)] k)
       (call Qcf [.one a3, .one (I 0), .one (I 100000)] fun o10 =>
       unP .not (atP o10 0) fun r11 =>
       iteP r11
        (rt [.sc] [(.bool false)] k)
        (call Qcf [.one a4, .one a3, .one (I 100000)] fun o12 =>
        unP .not (atP o12 0) fun r13 =>
        iteP r13
         (rt [.sc] [(.bool false)] k)
         (binP .sub a4 a3 fun r14 =>
         binP .gtr r14 (I 200) fun r15 =>
         iteP r15
          (rt [.sc] [(.bool false)] k)
          (call Qcf [.one a5, .one (I 0), .one (I 12)] fun o16 =>
          unP .not (atP o16 0) fun r17 =>
          iteP r17
           (rt [.sc] [(.bool false)] k)
           (call Qcg [.agg [a8, a9]] fun o18 =>
           unP .not (atP o18 0) fun r19 =>
           iteP r19
            (rt [.sc] [(.bool false)] k)
            (call Qch [.agg [a10, a11]] fun o20 =>
            iteP (atP o20 0)
             (binP .neq a12 (I 0) fun r21 =>
             iteP r21
              (rt [.sc] [(.bool false)] k)
              (call Qcg [.agg [a13, a14]] fun o22 =>
              iteP (atP o22 0)
               (rt [.sc] [(.bool true)] k)
               (call Qch [.agg [a13, a14]] fun o23 =>
               iteP (atP o23 0)
                (unP .not a15 fun r24 =>
                rt [.sc] [r24] k)
                (rt [.sc] [(.bool false)] k))))
             (call Qcg [.agg [a10, a11]] fun o25 =>
             unP .not (atP o25 0) fun r26 =>
             iteP r26
              (rt [.sc] [(.bool false)] k)
              (call Qcf [.one a12, .one (I 1), .one (I 500)] fun o27 =>
              unP .not (atP o27 0) fun r28 =>
              iteP r28
               (rt [.sc] [(.bool false)] k)
               (call Qcg [.agg [a13, a14]] fun o29 =>
               iteP (atP o29 0)
                (rt [.sc] [(.bool true)] k)
                (call Qch [.agg [a13, a14]] fun o30 =>
                iteP (atP o30 0)
                 (unP .not a15 fun r31 =>
                 rt [.sc] [r31] k)
                 (rt [.sc] [(.bool false)] k)))))))))))))))) u0
 | _, _ => False
abbrev Qci_e : Ent := ⟨[213], Qci⟩
theorem Qci_w : EntOK Tryz.prog TT Qci_e := ent_ok tabok (L := [Qcf_e, Qcg_e, Qch_e]) ⟨Qcf_w, Qcg_w, Qch_w, trivial⟩ (keep := []) (l := []) Tryz.func213 (by kernel_rfl) (sg := [.one (.sc)]) (by kernel_rfl) trivial fun av k h => by
  unfold Qci at h; split at h
  · apply un_all h; clear h; intro a0 a1 a2 a3 a4 a5 a6 a7 a8 a9 a10 a11 a12 a13 a14 a15 h; exact Eq.mpr (by kernel_rfl) h
  · exact h.elim
def Qcj : GM
 | [.agg u0], k => un 2 (fun a0 a1 => 
  lenP a0 fun r0 =>
  (2 = 2) ∧ (2 ≤ 16777216) ∧ (1 = 1) ∧ (0 = 0) ∧ (1 = 1) ∧ (flatCond [.pv (I 0)] [.pv a1]) ∧ (1 = 1) ∧ (1 = 1) ∧ (flatCond [.pv (I 0)] [.pv r0]) ∧ (flatRows a0) ∧ catP 1 (.list 1 [[a1], [r0]]) a0 fun r1 =>
  rt [.own true 3 1] [r1] k) u0
 | _, _ => False
abbrev Qcj_e : Ent := ⟨[212], Qcj⟩
theorem Qcj_w : EntOK Tryz.prog TT Qcj_e := ent_ok tabok (L := []) trivial (keep := []) (l := []) Tryz.func212 (by kernel_rfl) (sg := [.one (.own true 3 1)]) (by kernel_rfl) trivial fun av k h => by
  unfold Qcj at h; split at h
  · apply un_all h; clear h; intro a0 a1 h; exact Eq.mpr (by kernel_rfl) h
  · exact h.elim
def Qck : GM
 | [.one a0, .one a1], k => 
  call Qcf [.one a1, .one (I 1), .one (I 1000000000000)] fun o0 =>
  unP .not (atP o0 0) fun r1 =>
  iteP r1
   (rt [.sc] [(I 0)] k)
   (binP .rem a0 a1 fun r2 =>
   binP .add r2 a1 fun r3 =>
   binP .rem r3 a1 fun r4 =>
   rt [.sc] [r4] k)
 | _, _ => False
abbrev Qck_e : Ent := ⟨[291], Qck⟩
theorem Qck_w : EntOK Tryz.prog TT Qck_e := ent_ok tabok (L := [Qcf_e]) ⟨Qcf_w, trivial⟩ (keep := []) (l := []) Tryz.func291 (by kernel_rfl) (sg := [.one (.sc)]) (by kernel_rfl) trivial fun av k h => by
  unfold Qck at h; split at h
  · exact Eq.mpr (by kernel_rfl) h
  · exact h.elim
def Qcl_r0 (v : List PV) (K : List PV → Prop) (x0k : PV → PV → PV → PV → Prop) : Prop :=
 un 4 (fun v0 v1 v2 v3 =>
  lenP v0 fun r0 =>
  binP .lss v3 r0 fun r1 =>
  iteP r1
   (binP .mul v2 (I 1000003) fun r2 =>
   elemP 1 v0 v3 fun c3 =>
   call Qck [.one (atP c3 0), .one (I 2147483647)] fun o4 =>
   binP .add r2 (atP o4 0) fun r5 =>
   binP .add r5 (I 13) fun r6 =>
   binP .rem r6 (I 2147483647) fun r7 =>
   binP .add v3 (I 1) fun r8 =>
   K [v0, v1, r7, r8])
   (x0k v0 v1 v2 v3)) v
def Qcl : GM
 | [.one a0], k => 
  lp (fun L w => Qcl_r0 w L
   (fun q9 q10 q11 q12 => rt [.sc] [q11] k)) [a0, (I 0), (I 11), (I 0)]
 | _, _ => False
abbrev Qcl_e : Ent := ⟨[254], Qcl⟩
def Qcl_l : List LE := [⟨0, ⟨[(0, .one zB), (2, .one zB), (3, .one zB), (4, .one zB)], [], [], 0, 22⟩, fun K k v => Qcl_r0 v K (fun x0 x1 x2 x3 => k (.exit 0) ⟨[(0, .one (.pv x0)), (2, .one (.pv x1)), (3, .one (.pv x2)), (4, .one (.pv x3))], [], [], 0, 22⟩)⟩]
theorem Qcl_s : LEsOK (orac [Qck_e]) TT (kk [0, 2, 3, 4]) (sumsOf Qcl_l) Tryz.f254 Qcl_l := ⟨fun v K k h => by
  apply un_all h; exact fun v0 v1 v2 v3 h => Eq.mpr (by kernel_rfl) h
  , trivial⟩
theorem Qcl_w : EntOK Tryz.prog TT Qcl_e := ent_ok tabok (L := [Qck_e]) ⟨Qck_w, trivial⟩ (keep := (kk [0, 2, 3, 4])) (l := Qcl_l) Tryz.func254 (by kernel_rfl) (sg := [.one (.sc)]) (by kernel_rfl) Qcl_s fun av k h => by
  unfold Qcl at h; split at h
  · exact Eq.mpr (by kernel_rfl) h
  · exact h.elim
def Qcm : GM
 | [.agg u0, .one a2], k => un 2 (fun a0 a1 => 
  (2 = 2) ∧ (2 ≤ 16777216) ∧ (1 = 1) ∧ (0 = 0) ∧ (1 = 1) ∧ (flatCond [.pv (I 0)] [.pv (I 239)]) ∧ (1 = 1) ∧ (1 = 1) ∧ (flatCond [.pv (I 0)] [.pv a2]) ∧ call Qcj [.agg [a0, a1]] fun o0 =>
  catP 1 (.list 1 [[(I 239)], [a2]]) (atP o0 0) fun r1 =>
  call Qcl [.one r1] fun o2 =>
  rt [.sc] [(atP o2 0)] k) u0
 | _, _ => False
abbrev Qcm_e : Ent := ⟨[214], Qcm⟩
theorem Qcm_w : EntOK Tryz.prog TT Qcm_e := ent_ok tabok (L := [Qcj_e, Qcl_e]) ⟨Qcj_w, Qcl_w, trivial⟩ (keep := []) (l := []) Tryz.func214 (by kernel_rfl) (sg := [.one (.sc)]) (by kernel_rfl) trivial fun av k h => by
  unfold Qcm at h; split at h
  · apply un_all h; clear h; intro a0 a1 h; exact Eq.mpr (by kernel_rfl) h
  · exact h.elim
def Qcn : GM
 | [.agg u0], k => un 16 (fun a0 a1 a2 a3 a4 a5 a6 a7 a8 a9 a10 a11 a12 a13 a14 a15 => 
  (8 = 8) ∧ (8 ≤ 16777216) ∧ (1 = 1) ∧ (0 = 0) ∧ (1 = 1) ∧ (flatCond [.pv (I 0)] [.pv a0]) ∧ (1 = 1) ∧ (1 = 1) ∧ (flatCond [.pv (I 0)] [.pv a1]) ∧ (2 = 2) ∧ (1 = 1) ∧ (flatCond [.pv (I 0)] [.pv a2]) ∧ (3 = 3) ∧ (1 = 1) ∧ (flatCond [.pv (I 0)] [.pv a3]) ∧ (4 = 4) ∧ (1 = 1) ∧ (flatCond [.pv (I 0)] [.pv a4]) ∧ (5 = 5) ∧ (1 = 1) ∧ (flatCond [.pv (I 0)] [.pv a5]) ∧ (6 = 6) ∧ (1 = 1) ∧ (flatCond [.pv (I 0)] [.pv a6]) ∧ (7 = 7) ∧ (1 = 1) ∧ (flatCond [.pv (I 0)] [.pv a7]) ∧ call Qcj [.agg [a8, a9]] fun o0 =>
  catP 1 (.list 1 [[a0], [a1], [a2], [a3], [a4], [a5], [a6], [a7]]) (atP o0 0) fun r1 =>
  call Qcj [.agg [a10, a11]] fun o2 =>
  catP 1 r1 (atP o2 0) fun r3 =>
  (1 = 1) ∧ (1 ≤ 16777216) ∧ (1 = 1) ∧ (0 = 0) ∧ (1 = 1) ∧ (flatCond [.pv (I 0)] [.pv a12]) ∧ catP 1 r3 (.list 1 [[a12]]) fun r4 =>
  call Qcj [.agg [a13, a14]] fun o5 =>
  catP 1 r4 (atP o5 0) fun r6 =>
  iteP a15
   ((1 = 1) ∧ (1 ≤ 16777216) ∧ (1 = 1) ∧ (0 = 0) ∧ (1 = 1) ∧ (flatCond [.pv (I 0)] [.pv (I 1)]) ∧ catP 1 r6 (.list 1 [[(I 1)]]) fun r7 =>
   rt [.own true 3 1] [r7] k)
   ((1 = 1) ∧ (1 ≤ 16777216) ∧ (1 = 1) ∧ (0 = 0) ∧ (1 = 1) ∧ (flatCond [.pv (I 0)] [.pv (I 0)]) ∧ catP 1 r6 (.list 1 [[(I 0)]]) fun r8 =>
   rt [.own true 3 1] [r8] k)) u0
 | _, _ => False
abbrev Qcn_e : Ent := ⟨[163], Qcn⟩
theorem Qcn_w : EntOK Tryz.prog TT Qcn_e := ent_ok tabok (L := [Qcj_e]) ⟨Qcj_w, trivial⟩ (keep := []) (l := []) Tryz.func163 (by kernel_rfl) (sg := [.one (.own true 3 1)]) (by kernel_rfl) trivial fun av k h => by
  unfold Qcn at h; split at h
  · apply un_all h; clear h; intro a0 a1 a2 a3 a4 a5 a6 a7 a8 a9 a10 a11 a12 a13 a14 a15 h; exact Eq.mpr (by kernel_rfl) h
  · exact h.elim
def Qco : GM
 | [.one a0, .one a1], k => 
  (1 = 1) ∧ (1 ≤ 16777216) ∧ (1 = 1) ∧ (0 = 0) ∧ (1 = 1) ∧ (flatCond [.pv (I 0)] [.pv a0]) ∧ (flatRows a1) ∧ catP 1 (.list 1 [[a0]]) a1 fun r0 =>
  (1 = 1) ∧ (1 ≤ 16777216) ∧ (1 = 1) ∧ (0 = 0) ∧ (1 = 1) ∧ (flatCond [.pv (I 0)] [.pv a0]) ∧ catP 1 r0 (.list 1 [[a0]]) fun r1 =>
  call Qcl [.one r1] fun o2 =>
  rt [.sc] [(atP o2 0)] k
 | _, _ => False
abbrev Qco_e : Ent := ⟨[315], Qco⟩
theorem Qco_w : EntOK Tryz.prog TT Qco_e := ent_ok tabok (L := [Qcl_e]) ⟨Qcl_w, trivial⟩ (keep := []) (l := []) Tryz.func315 (by kernel_rfl) (sg := [.one (.sc)]) (by kernel_rfl) trivial fun av k h => by
  unfold Qco at h; split at h
  · exact Eq.mpr (by kernel_rfl) h
  · exact h.elim
def Qcp : GM
 | [.one a0, .one a1], k => 
  (1 = 1) ∧ (1 ≤ 16777216) ∧ (1 = 1) ∧ (0 = 0) ∧ (1 = 1) ∧ (flatCond [.pv (I 0)] [.pv (I 223)]) ∧ (flatRows a1) ∧ catP 1 (.list 1 [[(I 223)]]) a1 fun r0 =>
  call Qco [.one a0, .one r0] fun o1 =>
  rt [.sc] [(atP o1 0)] k
 | _, _ => False
abbrev Qcp_e : Ent := ⟨[307], Qcp⟩
theorem Qcp_w : EntOK Tryz.prog TT Qcp_e := ent_ok tabok (L := [Qco_e]) ⟨Qco_w, trivial⟩ (keep := []) (l := []) Tryz.func307 (by kernel_rfl) (sg := [.one (.sc)]) (by kernel_rfl) trivial fun av k h => by
  unfold Qcp at h; split at h
  · exact Eq.mpr (by kernel_rfl) h
  · exact h.elim
def Qcq : GM
 | [.agg u0, .one a2], k => un 2 (fun a0 a1 => 
  call Qcf [.one a0, .one (I 1), .one (I 99)] fun o0 =>
  iteP (atP o0 0)
   (call Qcp [.one a0, .one a2] fun o1 =>
   binP .eql a1 (atP o1 0) fun r2 =>
   rt [.sc] [r2] k)
   (rt [.sc] [(.bool false)] k)) u0
 | _, _ => False
abbrev Qcq_e : Ent := ⟨[294], Qcq⟩
theorem Qcq_w : EntOK Tryz.prog TT Qcq_e := ent_ok tabok (L := [Qcf_e, Qcp_e]) ⟨Qcf_w, Qcp_w, trivial⟩ (keep := []) (l := []) Tryz.func294 (by kernel_rfl) (sg := [.one (.sc)]) (by kernel_rfl) trivial fun av k h => by
  unfold Qcq at h; split at h
  · apply un_all h; clear h; intro a0 a1 h; exact Eq.mpr (by kernel_rfl) h
  · exact h.elim
def Qcr_r1 (v : List PV) (K : List PV → Prop) (x0k : PV → PV → PV → PV → PV → PV → PV → PV → PV → PV → PV → Prop) (x1k : PV → PV → PV → PV → PV → PV → PV → PV → Prop) : Prop :=
 un 8 (fun v0 v1 v2 v3 v4 v5 v6 v7 =>
  lenP v1 fun r0 =>
  binP .lss v5 r0 fun r1 =>
  iteP r1
   (elemP 2 v1 v5 fun c2 =>
   elemP 1 v6 v4 fun c3 =>
   binP .eql (atP c2 0) (atP c3 0) fun r4 =>
   iteP r4
    (elemP 2 v1 v5 fun c5 =>
    call Qcq [.agg [(atP c5 0), (atP c5 1)], .one v0] fun o6 =>
    iteP (atP o6 0)
     (binP .add v3 (I 1) fun r7 =>
     x0k v0 v1 v2 r7 v4 v5 (atP c5 0) (atP c5 1) (atP o6 0) v6 v7)
     (binP .add v5 (I 1) fun r8 =>
     K [v0, v1, v2, v3, v4, r8, v6, v7]))
    (binP .add v5 (I 1) fun r9 =>
    K [v0, v1, v2, v3, v4, r9, v6, v7]))
   (x1k v0 v1 v2 v3 v4 v5 v6 v7)) v
def Qcr_r0 (v : List PV) (K : List PV → Prop) (x0k : PV → PV → PV → PV → PV → PV → PV → Prop) : Prop :=
 un 7 (fun v0 v1 v2 v3 v4 v5 v6 =>
  lenP v5 fun r0 =>
  binP .lss v4 r0 fun r1 =>
  iteP r1
   (lp (fun L w => Qcr_r1 w L
    (fun q10 q11 q12 q13 q14 q15 q16 q17 q18 q19 q20 => binP .add q14 (I 1) fun r21 =>
     K [q10, q11, q12, q13, r21, q19, q20])
    (fun q22 q23 q24 q25 q26 q27 q28 q29 => binP .add q26 (I 1) fun r30 =>
     K [q22, q23, q24, q25, r30, q28, q29])) [v0, v1, v2, v3, v4, (I 0), v5, v6])
   (x0k v0 v1 v2 v3 v4 v5 v6)) v
def Qcr : GM
 | [.agg u0, .one a2, .one a3], k => un 2 (fun a0 a1 => 
  lp (fun L w => Qcr_r0 w L
   (fun q31 q32 q33 q34 q35 q36 q37 => rt [.sc] [q34] k)) [a2, a3, (I 0), (I 0), (I 0), a0, a1]) u0
 | _, _ => False
abbrev Qcr_e : Ent := ⟨[258], Qcr⟩
def Qcr_l : List LE := [⟨1, ⟨[(1, .one zB), (2, .one zB), (3, .one (.ptr 0 0)), (6, .one zB), (7, .one zB), (8, .one zB), (9, .one zB)], [(0, [zB, zB])], [], 1, 45⟩, fun K k v => Qcr_r1 v K (fun x0 x1 x2 x3 x4 x5 x6 x7 x8 x9 x10 => k (.exit 2) ⟨[(1, .one (.pv x0)), (2, .one (.pv x1)), (3, .one (.ptr 0 0)), (6, .one (.pv x2)), (7, .one (.pv x3)), (8, .one (.pv x4)), (9, .one (.pv x5)), (35, .one (.pv x1)), (36, .one (.pv x5)), (37, .one (.sptr [x6, x7])), (38, .agg [.pv x6, .pv x7]), (39, .one (.pv x0)), (40, .one (.pv x8))], [(0, [.pv x9, .pv x10])], [], 2, 45⟩) (fun x0 x1 x2 x3 x4 x5 x6 x7 => k (.exit 2) ⟨[(1, .one (.pv x0)), (2, .one (.pv x1)), (3, .one (.ptr 0 0)), (6, .one (.pv x2)), (7, .one (.pv x3)), (8, .one (.pv x4)), (9, .one (.pv x5))], [(0, [.pv x6, .pv x7])], [], 1, 45⟩)⟩,
  ⟨0, ⟨[(1, .one zB), (2, .one zB), (3, .one (.ptr 0 0)), (6, .one zB), (7, .one zB), (8, .one zB)], [(0, [zB, zB])], [], 1, 45⟩, fun K k v => Qcr_r0 v K (fun x0 x1 x2 x3 x4 x5 x6 => k (.exit 0) ⟨[(1, .one (.pv x0)), (2, .one (.pv x1)), (3, .one (.ptr 0 0)), (6, .one (.pv x2)), (7, .one (.pv x3)), (8, .one (.pv x4))], [(0, [.pv x5, .pv x6])], [], 1, 45⟩)⟩]
theorem Qcr_s : LEsOK (orac [Qcq_e]) TT (kk [1, 2, 3, 6, 7, 8, 9, 35, 36, 37, 38, 39, 40]) (sumsOf Qcr_l) Tryz.f258 Qcr_l := ⟨fun v K k h => by
  apply un_all h; exact fun v0 v1 v2 v3 v4 v5 v6 v7 h => Eq.mpr (by kernel_rfl) h
  , fun v K k h => by
  apply un_all h; exact fun v0 v1 v2 v3 v4 v5 v6 h => Eq.mpr (by kernel_rfl) h
  , trivial⟩
theorem Qcr_w : EntOK Tryz.prog TT Qcr_e := ent_ok tabok (L := [Qcq_e]) ⟨Qcq_w, trivial⟩ (keep := (kk [1, 2, 3, 6, 7, 8, 9, 35, 36, 37, 38, 39, 40])) (l := Qcr_l) Tryz.func258 (by kernel_rfl) (sg := [.one (.sc)]) (by kernel_rfl) Qcr_s fun av k h => by
  unfold Qcr at h; split at h
  · apply un_all h; clear h; intro a0 a1 h; exact Eq.mpr (by kernel_rfl) h
  · exact h.elim
def Qcs : GM
 | [.agg u0, .one a2, .one a3], k => un 2 (fun a0 a1 => 
  call Qcg [.agg [a0, a1]] fun o0 =>
  iteP (atP o0 0)
   (call Qcr [.agg [a0, a1], .one a2, .one a3] fun o1 =>
   binP .geq (atP o1 0) a1 fun r2 =>
   rt [.sc] [r2] k)
   (rt [.sc] [(.bool false)] k)) u0
 | _, _ => False
abbrev Qcs_e : Ent := ⟨[215], Qcs⟩
theorem Qcs_w : EntOK Tryz.prog TT Qcs_e := ent_ok tabok (L := [Qcg_e, Qcr_e]) ⟨Qcg_w, Qcr_w, trivial⟩ (keep := []) (l := []) Tryz.func215 (by kernel_rfl) (sg := [.one (.sc)]) (by kernel_rfl) trivial fun av k h => by
  unfold Qcs at h; split at h
  · apply un_all h; clear h; intro a0 a1 h; exact Eq.mpr (by kernel_rfl) h
  · exact h.elim
def Qct : GM
 | [.agg u0], k => un 17 (fun a0 a1 a2 a3 a4 a5 a6 a7 a8 a9 a10 a11 a12 a13 a14 a15 a16 => 
  call Qci [.agg [a0, a1, a2, a3, a4, a5, a6, a7, a8, a9, a10, a11, a12, a13, a14, a15]] fun o0 =>
  iteP (atP o0 0)
   (binP .eql a1 (I 0) fun r1 =>
   iteP r1
    (binP .eql a2 (I 1) fun r2 =>
    iteP r2
     (unP .not a15 fun r3 =>
     iteP r3
      (call Qcm [.agg [a8, a9], .one a7] fun o4 =>
      binP .eql a0 (atP o4 0) fun r5 =>
      iteP r5
       (call Qcn [.agg [a0, a1, a2, a3, a4, a5, a6, a7, a8, a9, a10, a11, a12, a13, a14, a15]] fun o6 =>
       call Qcs [.agg [a8, a9], .one (atP o6 0), .one a16] fun o7 =>
       rt [.sc] [(atP o7 0)] k)
       (rt [.sc] [(.bool false)] k))
      (rt [.sc] [(.bool false)] k))
     (rt [.sc] [(.bool false)] k))
    (rt [.sc] [(.bool false)] k))
   (rt [.sc] [(.bool false)] k)) u0
 | _, _ => False
abbrev Qct_e : Ent := ⟨[166], Qct⟩
theorem Qct_w : EntOK Tryz.prog TT Qct_e := ent_ok tabok (L := [Qci_e, Qcm_e, Qcn_e, Qcs_e]) ⟨Qci_w, Qcm_w, Qcn_w, Qcs_w, trivial⟩ (keep := []) (l := []) Tryz.func166 (by kernel_rfl) (sg := [.one (.sc)]) (by kernel_rfl) trivial fun av k h => by
  unfold Qct at h; split at h
  · apply un_all h; clear h; intro a0 a1 a2 a3 a4 a5 a6 a7 a8 a9 a10 a11 a12 a13 a14 a15 a16 h; exact Eq.mpr (by kernel_rfl) h
  · exact h.elim
def Qcu : GM
 | [.agg u0], k => un 16 (fun a0 a1 a2 a3 a4 a5 a6 a7 a8 a9 a10 a11 a12 a13 a14 a15 => 
  (1 = 1) ∧ (1 ≤ 16777216) ∧ (1 = 1) ∧ (0 = 0) ∧ (1 = 1) ∧ (flatCond [.pv (I 0)] [.pv (I 233)]) ∧ call Qcn [.agg [a0, a1, a2, a3, a4, a5, a6, a7, a8, a9, a10, a11, a12, a13, a14, a15]] fun o0 =>
  catP 1 (.list 1 [[(I 233)]]) (atP o0 0) fun r1 =>
  call Qcl [.one r1] fun o2 =>
  rt [.sc] [(atP o2 0)] k) u0
 | _, _ => False
abbrev Qcu_e : Ent := ⟨[259], Qcu⟩
theorem Qcu_w : EntOK Tryz.prog TT Qcu_e := ent_ok tabok (L := [Qcn_e, Qcl_e]) ⟨Qcn_w, Qcl_w, trivial⟩ (keep := []) (l := []) Tryz.func259 (by kernel_rfl) (sg := [.one (.sc)]) (by kernel_rfl) trivial fun av k h => by
  unfold Qcu at h; split at h
  · apply un_all h; clear h; intro a0 a1 a2 a3 a4 a5 a6 a7 a8 a9 a10 a11 a12 a13 a14 a15 h; exact Eq.mpr (by kernel_rfl) h
  · exact h.elim
def Qcv : GM
 | [.agg u0, .agg u1], k => un 16 (fun a0 a1 a2 a3 a4 a5 a6 a7 a8 a9 a10 a11 a12 a13 a14 a15 => un 16 (fun a16 a17 a18 a19 a20 a21 a22 a23 a24 a25 a26 a27 a28 a29 a30 a31 => 
  iteP a15
   (rt [.sc] [(I 4)] k)
   (iteP a31
    (rt [.sc] [(I 6)] k)
    (rt [.sc] [(I 1)] k))) u1) u0
 | _, _ => False
abbrev Qcv_e : Ent := ⟨[260], Qcv⟩
theorem Qcv_w : EntOK Tryz.prog TT Qcv_e := ent_ok tabok (L := []) trivial (keep := []) (l := []) Tryz.func260 (by kernel_rfl) (sg := [.one (.sc)]) (by kernel_rfl) trivial fun av k h => by
  unfold Qcv at h; split at h
  · apply un_all h; clear h; intro a0 a1 a2 a3 a4 a5 a6 a7 a8 a9 a10 a11 a12 a13 a14 a15 h; apply un_all h; clear h; intro a16 a17 a18 a19 a20 a21 a22 a23 a24 a25 a26 a27 a28 a29 a30 a31 h; exact Eq.mpr (by kernel_rfl) h
  · exact h.elim
def Qcw_r0 (v : List PV) (K : List PV → Prop) (x0k : Prop) (x1k : PV → PV → PV → PV → Prop) : Prop :=
 un 4 (fun v0 v1 v2 v3 =>
  lenP v0 fun r0 =>
  binP .lss v3 r0 fun r1 =>
  iteP r1
   (elemP 1 v0 v3 fun c2 =>
   elemP 1 v1 v3 fun c3 =>
   binP .neq (atP c2 0) (atP c3 0) fun r4 =>
   iteP r4
    (x0k)
    (binP .add v3 (I 1) fun r5 =>
    K [v0, v1, v2, r5]))
   (x1k v0 v1 v2 v3)) v
def Qcw : GM
 | [.one a0, .one a1], k => 
  lenP a0 fun r0 =>
  lenP a1 fun r1 =>
  binP .neq r0 r1 fun r2 =>
  iteP r2
   (rt [.sc] [(.bool false)] k)
   (lp (fun L w => Qcw_r0 w L
    (rt [.sc] [(.bool false)] k)
    (fun q6 q7 q8 q9 => rt [.sc] [(.bool true)] k)) [a0, a1, (.bool false), (I 0)])
 | _, _ => False
abbrev Qcw_e : Ent := ⟨[162], Qcw⟩
def Qcw_l : List LE := [⟨0, ⟨[(0, .one zB), (1, .one zB), (4, .one zB), (5, .one zB)], [], [], 0, 26⟩, fun K k v => Qcw_r0 v K (k .ret ⟨[(4, .one (.kb false))], [], [], 0, 26⟩) (fun x0 x1 x2 x3 => k (.exit 0) ⟨[(0, .one (.pv x0)), (1, .one (.pv x1)), (4, .one (.pv x2)), (5, .one (.pv x3))], [], [], 0, 26⟩)⟩]
theorem Qcw_s : LEsOK (orac []) TT (kk [0, 1, 4, 5]) (sumsOf Qcw_l) Tryz.f162 Qcw_l := ⟨fun v K k h => by
  apply un_all h; exact fun v0 v1 v2 v3 h => Eq.mpr (by kernel_rfl) h
  , trivial⟩
theorem Qcw_w : EntOK Tryz.prog TT Qcw_e := ent_ok tabok (L := []) trivial (keep := (kk [0, 1, 4, 5])) (l := Qcw_l) Tryz.func162 (by kernel_rfl) (sg := [.one (.sc)]) (by kernel_rfl) Qcw_s fun av k h => by
  unfold Qcw at h; split at h
  · exact Eq.mpr (by kernel_rfl) h
  · exact h.elim
def Qcx : GM
 | [.agg u0, .agg u1], k => un 2 (fun a0 a1 => un 2 (fun a2 a3 => 
  binP .eql a1 a3 fun r0 =>
  iteP r0
   (call Qcw [.one a0, .one a2] fun o1 =>
   rt [.sc] [(atP o1 0)] k)
   (rt [.sc] [(.bool false)] k)) u1) u0
 | _, _ => False
abbrev Qcx_e : Ent := ⟨[295], Qcx⟩
theorem Qcx_w : EntOK Tryz.prog TT Qcx_e := ent_ok tabok (L := [Qcw_e]) ⟨Qcw_w, trivial⟩ (keep := []) (l := []) Tryz.func295 (by kernel_rfl) (sg := [.one (.sc)]) (by kernel_rfl) trivial fun av k h => by
  unfold Qcx at h; split at h
  · apply un_all h; clear h; intro a0 a1 h; apply un_all h; clear h; intro a2 a3 h; exact Eq.mpr (by kernel_rfl) h
  · exact h.elim
def Qcy : GM
 | [.agg u0, .agg u1], k => un 16 (fun a0 a1 a2 a3 a4 a5 a6 a7 a8 a9 a10 a11 a12 a13 a14 a15 => un 16 (fun a16 a17 a18 a19 a20 a21 a22 a23 a24 a25 a26 a27 a28 a29 a30 a31 => 
  binP .eql a5 a21 fun r0 =>
  iteP r0
   (binP .eql a6 a22 fun r1 =>
   rt [.sc] [r1] k)
   (rt [.sc] [(.bool false)] k)) u1) u0
 | _, _ => False
abbrev Qcy_e : Ent := ⟨[296], Qcy⟩
theorem Qcy_w : EntOK Tryz.prog TT Qcy_e := ent_ok tabok (L := []) trivial (keep := []) (l := []) Tryz.func296 (by kernel_rfl) (sg := [.one (.sc)]) (by kernel_rfl) trivial fun av k h => by
  unfold Qcy at h; split at h
  · apply un_all h; clear h; intro a0 a1 a2 a3 a4 a5 a6 a7 a8 a9 a10 a11 a12 a13 a14 a15 h; apply un_all h; clear h; intro a16 a17 a18 a19 a20 a21 a22 a23 a24 a25 a26 a27 a28 a29 a30 a31 h; exact Eq.mpr (by kernel_rfl) h
  · exact h.elim
def Qcz : GM
 | [.agg u0, .agg u1], k => un 16 (fun a0 a1 a2 a3 a4 a5 a6 a7 a8 a9 a10 a11 a12 a13 a14 a15 => un 16 (fun a16 a17 a18 a19 a20 a21 a22 a23 a24 a25 a26 a27 a28 a29 a30 a31 => 
  iteP a15
   (rt [.sc] [(I 4)] k)
   (call Qch [.agg [a10, a11]] fun o0 =>
   iteP (atP o0 0)
    (rt [.sc] [(I 5)] k)
    (binP .add a4 a12 fun r1 =>
    binP .lss a19 r1 fun r2 =>
    iteP r2
     (rt [.sc] [(I 5)] k)
     (iteP a31
      (rt [.sc] [(I 6)] k)
      (call Qcx [.agg [a24, a25], .agg [a10, a11]] fun o3 =>
      unP .not (atP o3 0) fun r4 =>
      iteP r4
       (rt [.sc] [(I 6)] k)
       (call Qcy [.agg [a16, a17, a18, a19, a20, a21, a22, a23, a24, a25, a26, a27, a28, a29, a30, a31], .agg [a0, a1, a2, a3, a4, a5, a6, a7, a8, a9, a10, a11, a12, a13, a14, a15]] fun o5 =>
       unP .not (atP o5 0) fun r6 =>
       iteP r6
        (rt [.sc] [(I 6)] k)
        (rt [.sc] [(I 1)] k))))))) u1) u0
 | _, _ => False
abbrev Qcz_e : Ent := ⟨[261], Qcz⟩
theorem Qcz_w : EntOK Tryz.prog TT Qcz_e := ent_ok tabok (L := [Qch_e, Qcx_e, Qcy_e]) ⟨Qch_w, Qcx_w, Qcy_w, trivial⟩ (keep := []) (l := []) Tryz.func261 (by kernel_rfl) (sg := [.one (.sc)]) (by kernel_rfl) trivial fun av k h => by
  unfold Qcz at h; split at h
  · apply un_all h; clear h; intro a0 a1 a2 a3 a4 a5 a6 a7 a8 a9 a10 a11 a12 a13 a14 a15 h; apply un_all h; clear h; intro a16 a17 a18 a19 a20 a21 a22 a23 a24 a25 a26 a27 a28 a29 a30 a31 h; exact Eq.mpr (by kernel_rfl) h
  · exact h.elim
def Qda : GM
 | [.agg u0, .agg u1], k => un 16 (fun a0 a1 a2 a3 a4 a5 a6 a7 a8 a9 a10 a11 a12 a13 a14 a15 => un 16 (fun a16 a17 a18 a19 a20 a21 a22 a23 a24 a25 a26 a27 a28 a29 a30 a31 => 
  call Qch [.agg [a13, a14]] fun o0 =>
  iteP (atP o0 0)
   (rt [.sc] [(I 5)] k)
   (boolP .eql a31 a15 fun r1 =>
   iteP r1
    (rt [.sc] [(I 6)] k)
    (call Qcy [.agg [a16, a17, a18, a19, a20, a21, a22, a23, a24, a25, a26, a27, a28, a29, a30, a31], .agg [a0, a1, a2, a3, a4, a5, a6, a7, a8, a9, a10, a11, a12, a13, a14, a15]] fun o2 =>
    unP .not (atP o2 0) fun r3 =>
    iteP r3
     (rt [.sc] [(I 6)] k)
     (call Qcx [.agg [a29, a30], .agg [a13, a14]] fun o4 =>
     unP .not (atP o4 0) fun r5 =>
     iteP r5
      (rt [.sc] [(I 6)] k)
      (call Qcx [.agg [a26, a27], .agg [a10, a11]] fun o6 =>
      unP .not (atP o6 0) fun r7 =>
      iteP r7
       (rt [.sc] [(I 6)] k)
       (binP .neq a28 a12 fun r8 =>
       iteP r8
        (rt [.sc] [(I 6)] k)
        (iteP a31
         (call Qcx [.agg [a24, a25], .agg [a8, a9]] fun o9 =>
         unP .not (atP o9 0) fun r10 =>
         iteP r10
          (rt [.sc] [(I 6)] k)
          (rt [.sc] [(I 1)] k))
         (rt [.sc] [(I 1)] k)))))))) u1) u0
 | _, _ => False
abbrev Qda_e : Ent := ⟨[262], Qda⟩
theorem Qda_w : EntOK Tryz.prog TT Qda_e := ent_ok tabok (L := [Qch_e, Qcy_e, Qcx_e]) ⟨Qch_w, Qcy_w, Qcx_w, trivial⟩ (keep := []) (l := []) Tryz.func262 (by kernel_rfl) (sg := [.one (.sc)]) (by kernel_rfl) trivial fun av k h => by
  unfold Qda at h; split at h
  · apply un_all h; clear h; intro a0 a1 a2 a3 a4 a5 a6 a7 a8 a9 a10 a11 a12 a13 a14 a15 h; apply un_all h; clear h; intro a16 a17 a18 a19 a20 a21 a22 a23 a24 a25 a26 a27 a28 a29 a30 a31 h; exact Eq.mpr (by kernel_rfl) h
  · exact h.elim
def Qdb : GM
 | [.agg u0, .agg u1], k => un 16 (fun a0 a1 a2 a3 a4 a5 a6 a7 a8 a9 a10 a11 a12 a13 a14 a15 => un 17 (fun a16 a17 a18 a19 a20 a21 a22 a23 a24 a25 a26 a27 a28 a29 a30 a31 a32 => 
  call Qci [.agg [a0, a1, a2, a3, a4, a5, a6, a7, a8, a9, a10, a11, a12, a13, a14, a15]] fun o0 =>
  unP .not (atP o0 0) fun r1 =>
  iteP r1
   (rt [.sc] [(I 2)] k)
   (call Qci [.agg [a16, a17, a18, a19, a20, a21, a22, a23, a24, a25, a26, a27, a28, a29, a30, a31]] fun o2 =>
   unP .not (atP o2 0) fun r3 =>
   iteP r3
    (rt [.sc] [(I 2)] k)
    (binP .neq a16 a0 fun r4 =>
    iteP r4
     (rt [.sc] [(I 3)] k)
     (binP .add a1 (I 1) fun r5 =>
     binP .neq a17 r5 fun r6 =>
     iteP r6
      (rt [.sc] [(I 3)] k)
      (call Qcu [.agg [a0, a1, a2, a3, a4, a5, a6, a7, a8, a9, a10, a11, a12, a13, a14, a15]] fun o7 =>
      binP .neq a23 (atP o7 0) fun r8 =>
      iteP r8
       (rt [.sc] [(I 3)] k)
       (binP .lss a19 a3 fun r9 =>
       iteP r9
        (rt [.sc] [(I 3)] k)
        (call Qcv [.agg [a0, a1, a2, a3, a4, a5, a6, a7, a8, a9, a10, a11, a12, a13, a14, a15], .agg [a16, a17, a18, a19, a20, a21, a22, a23, a24, a25, a26, a27, a28, a29, a30, a31]] fun o10 =>
        binP .eql a18 (I 2) fun r11 =>
        iteP r11
         (call Qcz [.agg [a0, a1, a2, a3, a4, a5, a6, a7, a8, a9, a10, a11, a12, a13, a14, a15], .agg [a16, a17, a18, a19, a20, a21, a22, a23, a24, a25, a26, a27, a28, a29, a30, a31]] fun o12 =>
         binP .eql (atP o12 0) (I 1) fun r13 =>
         iteP r13
          (call Qcn [.agg [a16, a17, a18, a19, a20, a21, a22, a23, a24, a25, a26, a27, a28, a29, a30, a31]] fun o14 =>
          call Qcs [.agg [a10, a11], .one (atP o14 0), .one a32] fun o15 =>
          unP .not (atP o15 0) fun r16 =>
          iteP r16
           (rt [.sc] [(I 7)] k)
           (rt [.sc] [(atP o12 0)] k))
          (rt [.sc] [(atP o12 0)] k))
         (binP .eql a18 (I 3) fun r17 =>
         iteP r17
          (call Qda [.agg [a0, a1, a2, a3, a4, a5, a6, a7, a8, a9, a10, a11, a12, a13, a14, a15], .agg [a16, a17, a18, a19, a20, a21, a22, a23, a24, a25, a26, a27, a28, a29, a30, a31]] fun o18 =>
          binP .eql (atP o18 0) (I 1) fun r19 =>
          iteP r19
           (call Qcn [.agg [a16, a17, a18, a19, a20, a21, a22, a23, a24, a25, a26, a27, a28, a29, a30, a31]] fun o20 =>
           call Qcs [.agg [a13, a14], .one (atP o20 0), .one a32] fun o21 =>
           unP .not (atP o21 0) fun r22 =>
           iteP r22
            (rt [.sc] [(I 7)] k)
            (rt [.sc] [(atP o18 0)] k))
           (rt [.sc] [(atP o18 0)] k))
          (binP .eql (atP o10 0) (I 1) fun r23 =>
          iteP r23
           (call Qcn [.agg [a16, a17, a18, a19, a20, a21, a22, a23, a24, a25, a26, a27, a28, a29, a30, a31]] fun o24 =>
           call Qcs [.agg [a8, a9], .one (atP o24 0), .one a32] fun o25 =>
           unP .not (atP o25 0) fun r26 =>
           iteP r26
            (rt [.sc] [(I 7)] k)
            (rt [.sc] [(atP o10 0)] k))
           (rt [.sc] [(atP o10 0)] k)))))))))) u1) u0
 | _, _ => False
abbrev Qdb_e : Ent := ⟨[216], Qdb⟩
theorem Qdb_w : EntOK Tryz.prog TT Qdb_e := ent_ok tabok (L := [Qci_e, Qcu_e, Qcv_e, Qcz_e, Qcn_e, Qcs_e, Qda_e]) ⟨Qci_w, Qcu_w, Qcv_w, Qcz_w, Qcn_w, Qcs_w, Qda_w, trivial⟩ (keep := []) (l := []) Tryz.func216 (by kernel_rfl) (sg := [.one (.sc)]) (by kernel_rfl) trivial fun av k h => by
  unfold Qdb at h; split at h
  · apply un_all h; clear h; intro a0 a1 a2 a3 a4 a5 a6 a7 a8 a9 a10 a11 a12 a13 a14 a15 h; apply un_all h; clear h; intro a16 a17 a18 a19 a20 a21 a22 a23 a24 a25 a26 a27 a28 a29 a30 a31 a32 h; exact Eq.mpr (by kernel_rfl) h
  · exact h.elim
def Qdc : GM
 | [.agg u0, .agg u1], k => un 16 (fun a0 a1 a2 a3 a4 a5 a6 a7 a8 a9 a10 a11 a12 a13 a14 a15 => un 17 (fun a16 a17 a18 a19 a20 a21 a22 a23 a24 a25 a26 a27 a28 a29 a30 a31 a32 => 
  call Qdb [.agg [a0, a1, a2, a3, a4, a5, a6, a7, a8, a9, a10, a11, a12, a13, a14, a15], .agg [a16, a17, a18, a19, a20, a21, a22, a23, a24, a25, a26, a27, a28, a29, a30, a31, a32]] fun o0 =>
  binP .eql (atP o0 0) (I 1) fun r1 =>
  rt [.sc] [r1] k) u1) u0
 | _, _ => False
abbrev Qdc_e : Ent := ⟨[167], Qdc⟩
theorem Qdc_w : EntOK Tryz.prog TT Qdc_e := ent_ok tabok (L := [Qdb_e]) ⟨Qdb_w, trivial⟩ (keep := []) (l := []) Tryz.func167 (by kernel_rfl) (sg := [.one (.sc)]) (by kernel_rfl) trivial fun av k h => by
  unfold Qdc at h; split at h
  · apply un_all h; clear h; intro a0 a1 a2 a3 a4 a5 a6 a7 a8 a9 a10 a11 a12 a13 a14 a15 h; apply un_all h; clear h; intro a16 a17 a18 a19 a20 a21 a22 a23 a24 a25 a26 a27 a28 a29 a30 a31 a32 h; exact Eq.mpr (by kernel_rfl) h
  · exact h.elim
def Qdd_r0 (v : List PV) (K : List PV → Prop) (x0k : PV → Prop) (x1k : PV → Prop) (x2k : PV → PV → PV → Prop) : Prop :=
 un 3 (fun v0 v1 v2 =>
  lenP v0 fun r0 =>
  binP .lss v2 r0 fun r1 =>
  iteP r1
   (binP .eql v2 (I 0) fun r2 =>
   iteP r2
    (elemP 17 v0 (I 0) fun c3 =>
    call Qct [.agg [(atP c3 0), (atP c3 1), (atP c3 2), (atP c3 3), (atP c3 4), (atP c3 5), (atP c3 6), (atP c3 7), (atP c3 8), (atP c3 9), (atP c3 10), (atP c3 11), (atP c3 12), (atP c3 13), (atP c3 14), (atP c3 15), (atP c3 16)]] fun o4 =>
    unP .not (atP o4 0) fun r5 =>
    iteP r5
     (x0k v2)
     (binP .gtr v2 (I 0) fun r6 =>
     iteP r6
      (binP .sub v2 (I 1) fun r7 =>
      elemP 17 v0 r7 fun c8 =>
      elemP 17 v0 v2 fun c9 =>
      call Qdc [.agg [(atP c8 0), (atP c8 1), (atP c8 2), (atP c8 3), (atP c8 4), (atP c8 5), (atP c8 6), (atP c8 7), (atP c8 8), (atP c8 9), (atP c8 10), (atP c8 11), (atP c8 12), (atP c8 13), (atP c8 14), (atP c8 15)], .agg [(atP c9 0), (atP c9 1), (atP c9 2), (atP c9 3), (atP c9 4), (atP c9 5), (atP c9 6), (atP c9 7), (atP c9 8), (atP c9 9), (atP c9 10), (atP c9 11), (atP c9 12), (atP c9 13), (atP c9 14), (atP c9 15), (atP c9 16)]] fun o10 =>
      unP .not (atP o10 0) fun r11 =>
      iteP r11
       (x1k v2)
       (binP .add v2 (I 1) fun r12 =>
       K [v0, v1, r12]))
      (binP .add v2 (I 1) fun r13 =>
      K [v0, v1, r13])))
    (binP .gtr v2 (I 0) fun r14 =>
    iteP r14
     (binP .sub v2 (I 1) fun r15 =>
     elemP 17 v0 r15 fun c16 =>
     elemP 17 v0 v2 fun c17 =>
     call Qdc [.agg [(atP c16 0), (atP c16 1), (atP c16 2), (atP c16 3), (atP c16 4), (atP c16 5), (atP c16 6), (atP c16 7), (atP c16 8), (atP c16 9), (atP c16 10), (atP c16 11), (atP c16 12), (atP c16 13), (atP c16 14), (atP c16 15)], .agg [(atP c17 0), (atP c17 1), (atP c17 2), (atP c17 3), (atP c17 4), (atP c17 5), (atP c17 6), (atP c17 7), (atP c17 8), (atP c17 9), (atP c17 10), (atP c17 11), (atP c17 12), (atP c17 13), (atP c17 14), (atP c17 15), (atP c17 16)]] fun o18 =>
     unP .not (atP o18 0) fun r19 =>
     iteP r19
      (x0k v2)
      (binP .add v2 (I 1) fun r20 =>
      K [v0, v1, r20]))
     (binP .add v2 (I 1) fun r21 =>
     K [v0, v1, r21])))
   (x2k v0 v1 v2)) v
def Qdd : GM
 | [.one a0], k => 
  lp (fun L w => Qdd_r0 w L
   (fun q22 => rt [.sc] [q22] k)
   (fun q23 => rt [.sc] [q23] k)
   (fun q24 q25 q26 => rt [.sc] [(I (-1))] k)) [a0, (I 0), (I 0)]
 | _, _ => False
abbrev Qdd_e : Ent := ⟨[165], Qdd⟩
def Qdd_l : List LE := [⟨0, ⟨[(0, .one zB), (2, .one zB), (3, .one zB)], [], [], 0, 38⟩, fun K k v => Qdd_r0 v K (fun x0 => k .ret ⟨[(2, .one (.pv x0))], [], [], 1, 38⟩) (fun x0 => k .ret ⟨[(2, .one (.pv x0))], [], [], 2, 38⟩) (fun x0 x1 x2 => k (.exit 0) ⟨[(0, .one (.pv x0)), (2, .one (.pv x1)), (3, .one (.pv x2))], [], [], 0, 38⟩)⟩]
theorem Qdd_s : LEsOK (orac [Qct_e, Qdc_e]) TT (kk [0, 2, 3, 13, 14, 15, 16, 17, 20, 21, 22, 23, 24, 25, 26, 27, 28, 29, 30, 31, 32, 33, 34, 35]) (sumsOf Qdd_l) Tryz.f165 Qdd_l := ⟨fun v K k h => by
  apply un_all h; exact fun v0 v1 v2 h => Eq.mpr (by kernel_rfl) h
  , trivial⟩
theorem Qdd_w : EntOK Tryz.prog TT Qdd_e := ent_ok tabok (L := [Qct_e, Qdc_e]) ⟨Qct_w, Qdc_w, trivial⟩ (keep := (kk [0, 2, 3, 13, 14, 15, 16, 17, 20, 21, 22, 23, 24, 25, 26, 27, 28, 29, 30, 31, 32, 33, 34, 35])) (l := Qdd_l) Tryz.func165 (by kernel_rfl) (sg := [.one (.sc)]) (by kernel_rfl) Qdd_s fun av k h => by
  unfold Qdd at h; split at h
  · exact Eq.mpr (by kernel_rfl) h
  · exact h.elim
def Qde : GM
 | [.one a0], k => 
  lenP a0 fun r0 =>
  call Qcf [.one r0, .one (I 1), .one (I 12)] fun o1 =>
  iteP (atP o1 0)
   (call Qdd [.one a0] fun o2 =>
   binP .lss (atP o2 0) (I 0) fun r3 =>
   rt [.sc] [r3] k)
   (rt [.sc] [(.bool false)] k)
 | _, _ => False
abbrev Qde_e : Ent := ⟨[110], Qde⟩
theorem Qde_w : EntOK Tryz.prog TT Qde_e := ent_ok tabok (L := [Qcf_e, Qdd_e]) ⟨Qcf_w, Qdd_w, trivial⟩ (keep := []) (l := []) Tryz.func110 (by kernel_rfl) (sg := [.one (.sc)]) (by kernel_rfl) trivial fun av k h => by
  unfold Qde at h; split at h
  · exact Eq.mpr (by kernel_rfl) h
  · exact h.elim
def Qdf : GM
 | [.agg u0], k => un 2 (fun a0 a1 => 
  catP 1 a0 (.list 1 []) fun r0 =>
  rt [.pv, .sc] [r0, a1] k) u0
 | _, _ => False
abbrev Qdf_e : Ent := ⟨[206], Qdf⟩
theorem Qdf_w : EntOK Tryz.prog TT Qdf_e := ent_ok tabok (L := []) trivial (keep := []) (l := []) Tryz.func206 (by kernel_rfl) (sg := [.agg [.pv, .sc]]) (by kernel_rfl) trivial fun av k h => by
  unfold Qdf at h; split at h
  · apply un_all h; clear h; intro a0 a1 h; exact Eq.mpr (by kernel_rfl) h
  · exact h.elim
def Qdg : GM
 | [.agg u0], k => un 16 (fun a0 a1 a2 a3 a4 a5 a6 a7 a8 a9 a10 a11 a12 a13 a14 a15 => 
  call Qdf [.agg [a8, a9]] fun o0 =>
  call Qdf [.agg [a10, a11]] fun o1 =>
  call Qdf [.agg [a13, a14]] fun o2 =>
  rt [.sc, .sc, .sc, .sc, .sc, .sc, .sc, .sc, .pv, .sc, .pv, .sc, .sc, .pv, .sc, .sc] [a0, a1, a2, a3, a4, a5, a6, a7, (atP o0 0), (atP o0 1), (atP o1 0), (atP o1 1), a12, (atP o2 0), (atP o2 1), a15] k) u0
 | _, _ => False
abbrev Qdg_e : Ent := ⟨[157], Qdg⟩
theorem Qdg_w : EntOK Tryz.prog TT Qdg_e := ent_ok tabok (L := [Qdf_e]) ⟨Qdf_w, trivial⟩ (keep := []) (l := []) Tryz.func157 (by kernel_rfl) (sg := [.agg [.sc, .sc, .sc, .sc, .sc, .sc, .sc, .sc, .pv, .sc, .pv, .sc, .sc, .pv, .sc, .sc]]) (by kernel_rfl) trivial fun av k h => by
  unfold Qdg at h; split at h
  · apply un_all h; clear h; intro a0 a1 a2 a3 a4 a5 a6 a7 a8 a9 a10 a11 a12 a13 a14 a15 h; exact Eq.mpr (by kernel_rfl) h
  · exact h.elim
def Qdh : GM
 | [.one a0], k => 
  call Qde [.one a0] fun o0 =>
  unP .not (atP o0 0) fun r1 =>
  iteP r1
   (rt [.sc, .sc, .sc, .sc, .sc, .sc, .sc, .sc, .pv, .sc, .pv, .sc, .sc, .pv, .sc, .sc, .sc] [(I 0), (I 0), (I 0), (I 0), (I 0), (I 0), (I 0), (I 0), (.list 1 []), (I 0), (.list 1 []), (I 0), (I 0), (.list 1 []), (I 0), (.bool false), (.bool false)] k)
   (lenP a0 fun r2 =>
   binP .sub r2 (I 1) fun r3 =>
   elemP 17 a0 r3 fun c4 =>
   call Qdg [.agg [(atP c4 0), (atP c4 1), (atP c4 2), (atP c4 3), (atP c4 4), (atP c4 5), (atP c4 6), (atP c4 7), (atP c4 8), (atP c4 9), (atP c4 10), (atP c4 11), (atP c4 12), (atP c4 13), (atP c4 14), (atP c4 15)]] fun o5 =>
   rt [.sc, .sc, .sc, .sc, .sc, .sc, .sc, .sc, .pv, .sc, .pv, .sc, .sc, .pv, .sc, .sc, .sc] [(atP o5 0), (atP o5 1), (atP o5 2), (atP o5 3), (atP o5 4), (atP o5 5), (atP o5 6), (atP o5 7), (atP o5 8), (atP o5 9), (atP o5 10), (atP o5 11), (atP o5 12), (atP o5 13), (atP o5 14), (atP o5 15), (.bool true)] k)
 | _, _ => False
abbrev Qdh_e : Ent := ⟨[103], Qdh⟩
theorem Qdh_w : EntOK Tryz.prog TT Qdh_e := ent_ok tabok (L := [Qde_e, Qdg_e]) ⟨Qde_w, Qdg_w, trivial⟩ (keep := []) (l := []) Tryz.func103 (by kernel_rfl) (sg := [.agg [.sc, .sc, .sc, .sc, .sc, .sc, .sc, .sc, .pv, .sc, .pv, .sc, .sc, .pv, .sc, .sc], .one (.sc)]) (by kernel_rfl) trivial fun av k h => by
  unfold Qdh at h; split at h
  · exact Eq.mpr (by kernel_rfl) h
  · exact h.elim
def Qdi_r0 (v : List PV) (K : List PV → Prop) (x0k : Prop) (x1k : PV → PV → PV → Prop) : Prop :=
 un 3 (fun v0 v1 v2 =>
  lenS v0 fun r0 =>
  binP .lss v2 r0 fun r1 =>
  iteP r1
   (charP v0 v2 fun r2 =>
   binP .lss r2 (.int .u8 97) fun r3 =>
   iteP r3
    (charP v0 v2 fun r4 =>
    binP .lss r4 (.int .u8 48) fun r5 =>
    iteP r5
     (charP v0 v2 fun r6 =>
     binP .neq r6 (.int .u8 45) fun r7 =>
     iteP r7
      (x0k)
      (binP .add v2 (I 1) fun r8 =>
      K [v0, v1, r8]))
     (charP v0 v2 fun r9 =>
     binP .gtr r9 (.int .u8 57) fun r10 =>
     iteP r10
      (charP v0 v2 fun r11 =>
      binP .neq r11 (.int .u8 45) fun r12 =>
      iteP r12
       (x0k)
       (binP .add v2 (I 1) fun r13 =>
       K [v0, v1, r13]))
      (binP .add v2 (I 1) fun r14 =>
      K [v0, v1, r14])))
    (charP v0 v2 fun r15 =>
    binP .gtr r15 (.int .u8 122) fun r16 =>
    iteP r16
     (charP v0 v2 fun r17 =>
     binP .lss r17 (.int .u8 48) fun r18 =>
     iteP r18
      (charP v0 v2 fun r19 =>
      binP .neq r19 (.int .u8 45) fun r20 =>
      iteP r20
       (x0k)
       (binP .add v2 (I 1) fun r21 =>
       K [v0, v1, r21]))
      (charP v0 v2 fun r22 =>
      binP .gtr r22 (.int .u8 57) fun r23 =>
      iteP r23
       (charP v0 v2 fun r24 =>
       binP .neq r24 (.int .u8 45) fun r25 =>
       iteP r25
        (x0k)
        (binP .add v2 (I 1) fun r26 =>
        K [v0, v1, r26]))
       (binP .add v2 (I 1) fun r27 =>
       K [v0, v1, r27])))
     (binP .add v2 (I 1) fun r28 =>
     K [v0, v1, r28])))
   (x1k v0 v1 v2)) v
def Qdi : GM
 | [.one a0], k => 
  lenS a0 fun r0 =>
  call Qcf [.one r0, .one (I 1), .one (I 8)] fun o1 =>
  unP .not (atP o1 0) fun r2 =>
  iteP r2
   (rt [.sc] [(.bool false)] k)
   (charP a0 (I 0) fun r3 =>
   binP .eql r3 (.int .u8 45) fun r4 =>
   iteP r4
    (rt [.sc] [(.bool false)] k)
    (lenS a0 fun r5 =>
    binP .sub r5 (I 1) fun r6 =>
    charP a0 r6 fun r7 =>
    binP .eql r7 (.int .u8 45) fun r8 =>
    iteP r8
     (rt [.sc] [(.bool false)] k)
     (lp (fun L w => Qdi_r0 w L
      (rt [.sc] [(.bool false)] k)
      (fun q29 q30 q31 => rt [.sc] [(.bool true)] k)) [a0, (.bool false), (I 0)])))
 | _, _ => False
abbrev Qdi_e : Ent := ⟨[252], Qdi⟩
def Qdi_l : List LE := [⟨0, ⟨[(0, .one zB), (2, .one zB), (3, .one zB)], [], [], 1, 55⟩, fun K k v => Qdi_r0 v K (k .ret ⟨[(2, .one (.kb false))], [], [], 1, 55⟩) (fun x0 x1 x2 => k (.exit 0) ⟨[(0, .one (.pv x0)), (2, .one (.pv x1)), (3, .one (.pv x2))], [], [], 1, 55⟩)⟩]
theorem Qdi_s : LEsOK (orac [Qcf_e]) TT (kk [0, 2, 3, 32, 33, 34, 35, 38, 39, 40, 41, 42, 43, 44, 45, 46, 47, 50, 51, 52, 53]) (sumsOf Qdi_l) Tryz.f252 Qdi_l := ⟨fun v K k h => by
  apply un_all h; exact fun v0 v1 v2 h => Eq.mpr (by kernel_rfl) h
  , trivial⟩
theorem Qdi_w : EntOK Tryz.prog TT Qdi_e := ent_ok tabok (L := [Qcf_e]) ⟨Qcf_w, trivial⟩ (keep := (kk [0, 2, 3, 32, 33, 34, 35, 38, 39, 40, 41, 42, 43, 44, 45, 46, 47, 50, 51, 52, 53])) (l := Qdi_l) Tryz.func252 (by kernel_rfl) (sg := [.one (.sc)]) (by kernel_rfl) Qdi_s fun av k h => by
  unfold Qdi at h; split at h
  · exact Eq.mpr (by kernel_rfl) h
  · exact h.elim
def Qdj_r0 (v : List PV) (K : List PV → Prop) (x0k : Prop) (x1k : PV → PV → PV → Prop) : Prop :=
 un 3 (fun v0 v1 v2 =>
  lenP v0 fun r0 =>
  binP .lss v2 r0 fun r1 =>
  iteP r1
   (elemP 1 v0 v2 fun c2 =>
   call Qdi [.one (atP c2 0)] fun o3 =>
   unP .not (atP o3 0) fun r4 =>
   iteP r4
    (x0k)
    (binP .add v2 (I 1) fun r5 =>
    K [v0, v1, r5]))
   (x1k v0 v1 v2)) v
def Qdj : GM
 | [.one a0], k => 
  lp (fun L w => Qdj_r0 w L
   (rt [.sc] [(.bool false)] k)
   (fun q6 q7 q8 => lenP q6 fun r9 =>
    call Qcf [.one r9, .one (I 1), .one (I 4)] fun o10 =>
    rt [.sc] [(atP o10 0)] k)) [a0, (.bool false), (I 0)]
 | _, _ => False
abbrev Qdj_e : Ent := ⟨[253], Qdj⟩
def Qdj_l : List LE := [⟨0, ⟨[(0, .one zB), (2, .one zB), (3, .one zB)], [], [], 0, 19⟩, fun K k v => Qdj_r0 v K (k .ret ⟨[(2, .one (.kb false))], [], [], 1, 19⟩) (fun x0 x1 x2 => k (.exit 0) ⟨[(0, .one (.pv x0)), (2, .one (.pv x1)), (3, .one (.pv x2))], [], [], 0, 19⟩)⟩]
theorem Qdj_s : LEsOK (orac [Qdi_e, Qcf_e]) TT (kk [0, 2, 3]) (sumsOf Qdj_l) Tryz.f253 Qdj_l := ⟨fun v K k h => by
  apply un_all h; exact fun v0 v1 v2 h => Eq.mpr (by kernel_rfl) h
  , trivial⟩
theorem Qdj_w : EntOK Tryz.prog TT Qdj_e := ent_ok tabok (L := [Qdi_e, Qcf_e]) ⟨Qdi_w, Qcf_w, trivial⟩ (keep := (kk [0, 2, 3])) (l := Qdj_l) Tryz.func253 (by kernel_rfl) (sg := [.one (.sc)]) (by kernel_rfl) Qdj_s fun av k h => by
  unfold Qdj at h; split at h
  · exact Eq.mpr (by kernel_rfl) h
  · exact h.elim
def Qdk : GM
 | [.agg u0], k => un 4 (fun a0 a1 a2 a3 => 
  binP .eql a1 (I 1) fun r0 =>
  iteP r0
   (call Qdi [.one a0] fun o1 =>
   iteP (atP o1 0)
    (call Qcf [.one a2, .one (I 0), .one (I 999999)] fun o2 =>
    iteP (atP o2 0)
     (lenP a3 fun r3 =>
     binP .eql r3 (I 0) fun r4 =>
     rt [.sc] [r4] k)
     (rt [.sc] [(.bool false)] k))
    (rt [.sc] [(.bool false)] k))
   (binP .eql a1 (I 2) fun r5 =>
   iteP r5
    (call Qdi [.one a0] fun o6 =>
    iteP (atP o6 0)
     (call Qcf [.one a2, .one (I 0), .one (I 2147483646)] fun o7 =>
     iteP (atP o7 0)
      (lenP a3 fun r8 =>
      binP .eql r8 (I 0) fun r9 =>
      rt [.sc] [r9] k)
      (rt [.sc] [(.bool false)] k))
     (rt [.sc] [(.bool false)] k))
    (binP .eql a1 (I 3) fun r10 =>
    iteP r10
     (call Qdi [.one a0] fun o11 =>
     iteP (atP o11 0)
      (call Qcf [.one a2, .one (I 0), .one (I 2147483646)] fun o12 =>
      iteP (atP o12 0)
       (call Qdj [.one a3] fun o13 =>
       rt [.sc] [(atP o13 0)] k)
       (rt [.sc] [(.bool false)] k))
      (rt [.sc] [(.bool false)] k))
     (rt [.sc] [(.bool false)] k)))) u0
 | _, _ => False
abbrev Qdk_e : Ent := ⟨[207], Qdk⟩
theorem Qdk_w : EntOK Tryz.prog TT Qdk_e := ent_ok tabok (L := [Qdi_e, Qcf_e, Qdj_e]) ⟨Qdi_w, Qcf_w, Qdj_w, trivial⟩ (keep := []) (l := []) Tryz.func207 (by kernel_rfl) (sg := [.one (.sc)]) (by kernel_rfl) trivial fun av k h => by
  unfold Qdk at h; split at h
  · apply un_all h; clear h; intro a0 a1 a2 a3 h; exact Eq.mpr (by kernel_rfl) h
  · exact h.elim
def Qdl : GM
 | [.one a0, .one a1], k => 
  binP .lss a0 a1 fun r0 =>
  iteP r0
   (rt [.sc] [(I (-1))] k)
   (binP .gtr a0 a1 fun r1 =>
   iteP r1
    (rt [.sc] [(I 1)] k)
    (rt [.sc] [(I 0)] k))
 | _, _ => False
abbrev Qdl_e : Ent := ⟨[208], Qdl⟩
theorem Qdl_w : EntOK Tryz.prog TT Qdl_e := ent_ok tabok (L := []) trivial (keep := []) (l := []) Tryz.func208 (by kernel_rfl) (sg := [.one (.sc)]) (by kernel_rfl) trivial fun av k h => by
  unfold Qdl at h; split at h
  · exact Eq.mpr (by kernel_rfl) h
  · exact h.elim
def Qdm_r0 (v : List PV) (K : List PV → Prop) (x0k : Prop) (x1k : Prop) (x2k : PV → PV → PV → Prop) : Prop :=
 un 3 (fun v0 v1 v2 =>
  lenP v0 fun r0 =>
  binP .lss v2 r0 fun r1 =>
  iteP r1
   (elemP 4 v0 v2 fun c2 =>
   call Qdk [.agg [(atP c2 0), (atP c2 1), (atP c2 2), (atP c2 3)]] fun o3 =>
   unP .not (atP o3 0) fun r4 =>
   iteP r4
    (x0k)
    (binP .gtr v2 (I 0) fun r5 =>
    iteP r5
     (binP .sub v2 (I 1) fun r6 =>
     elemP 4 v0 r6 fun c7 =>
     elemP 4 v0 v2 fun c8 =>
     call Qdl [.one (atP c7 0), .one (atP c8 0)] fun o9 =>
     binP .neq (atP o9 0) (I (-1)) fun r10 =>
     iteP r10
      (x1k)
      (binP .add v2 (I 1) fun r11 =>
      K [v0, v1, r11]))
     (binP .add v2 (I 1) fun r12 =>
     K [v0, v1, r12])))
   (x2k v0 v1 v2)) v
def Qdm : GM
 | [.one a0], k => 
  lp (fun L w => Qdm_r0 w L
   (rt [.sc] [(.bool false)] k)
   (rt [.sc] [(.bool false)] k)
   (fun q13 q14 q15 => lenP q13 fun r16 =>
    binP .leq r16 (I 12) fun r17 =>
    rt [.sc] [r17] k)) [a0, (.bool false), (I 0)]
 | _, _ => False
abbrev Qdm_e : Ent := ⟨[158], Qdm⟩
def Qdm_l : List LE := [⟨0, ⟨[(0, .one zB), (2, .one zB), (3, .one zB)], [], [], 0, 38⟩, fun K k v => Qdm_r0 v K (k .ret ⟨[(2, .one (.kb false))], [], [], 1, 38⟩) (k .ret ⟨[(2, .one (.kb false))], [], [], 2, 38⟩) (fun x0 x1 x2 => k (.exit 0) ⟨[(0, .one (.pv x0)), (2, .one (.pv x1)), (3, .one (.pv x2))], [], [], 0, 38⟩)⟩]
theorem Qdm_s : LEsOK (orac [Qdk_e, Qdl_e]) TT (kk [0, 2, 3, 17, 18, 19, 20, 21, 22, 23, 24, 25, 26, 27, 28, 29, 30, 31, 32, 33]) (sumsOf Qdm_l) Tryz.f158 Qdm_l := ⟨fun v K k h => by
  apply un_all h; exact fun v0 v1 v2 h => Eq.mpr (by kernel_rfl) h
  , trivial⟩
theorem Qdm_w : EntOK Tryz.prog TT Qdm_e := ent_ok tabok (L := [Qdk_e, Qdl_e]) ⟨Qdk_w, Qdl_w, trivial⟩ (keep := (kk [0, 2, 3, 17, 18, 19, 20, 21, 22, 23, 24, 25, 26, 27, 28, 29, 30, 31, 32, 33])) (l := Qdm_l) Tryz.func158 (by kernel_rfl) (sg := [.one (.sc)]) (by kernel_rfl) Qdm_s fun av k h => by
  unfold Qdm at h; split at h
  · exact Eq.mpr (by kernel_rfl) h
  · exact h.elim
def Qdn_r0 (v : List PV) (K : List PV → Prop) (x0k : PV → PV → PV → PV → Prop) : Prop :=
 un 4 (fun v0 v1 v2 v3 =>
  lenP v0 fun r0 =>
  binP .lss v1 r0 fun r1 =>
  iteP r1
   (elemP 1 v0 v1 fun c2 =>
   convP .i64 (atP c2 0) fun r3 =>
   (1 = 1) ∧ (1 ≤ 16777216) ∧ (1 = 1) ∧ (0 = 0) ∧ (1 = 1) ∧ (flatCond [.pv (I 0)] [.pv r3]) ∧ catP 1 v3 (.list 1 [[r3]]) fun r4 =>
   binP .add v1 (I 1) fun r5 =>
   K [v0, r5, v2, r4])
   (x0k v0 v1 v2 v3)) v
def Qdn : GM
 | [.one a0], k => 
  lenP a0 fun r0 =>
  (1 = 1) ∧ (1 ≤ 16777216) ∧ (1 = 1) ∧ (0 = 0) ∧ (1 = 1) ∧ (flatCond [.pv (I 0)] [.pv r0]) ∧ lp (fun L w => Qdn_r0 w L
   (fun q6 q7 q8 q9 => rt [.own true 3 1] [q9] k)) [a0, (I 0), (.list 1 []), (.list 1 [[r0]])]
 | _, _ => False
abbrev Qdn_e : Ent := ⟨[314], Qdn⟩
def Qdn_l : List LE := [⟨0, ⟨[(0, .one zB), (2, .one (.own 1)), (3, .one (.own 0)), (4, .one zB)], [], [(1, ⟨.deep, 3, 1, (.bool false)⟩), (0, ⟨.deep, 3, 1, (.bool false)⟩)], 2, 23⟩, fun K k v => Qdn_r0 v K (fun x0 x1 x2 x3 => k (.exit 0) ⟨[(0, .one (.pv x0)), (2, .one (.own 1)), (3, .one (.own 0)), (4, .one (.pv x1))], [], [(1, ⟨.deep, 3, 1, x2⟩), (0, ⟨.deep, 3, 1, x3⟩)], 2, 23⟩)⟩]
theorem Qdn_s : LEsOK (orac []) TT (kk [0, 2, 3, 4]) (sumsOf Qdn_l) Tryz.f314 Qdn_l := ⟨fun v K k h => by
  apply un_all h; exact fun v0 v1 v2 v3 h => Eq.mpr (by kernel_rfl) h
  , trivial⟩
theorem Qdn_w : EntOK Tryz.prog TT Qdn_e := ent_ok tabok (L := []) trivial (keep := (kk [0, 2, 3, 4])) (l := Qdn_l) Tryz.func314 (by kernel_rfl) (sg := [.one (.own true 3 1)]) (by kernel_rfl) Qdn_s fun av k h => by
  unfold Qdn at h; split at h
  · exact Eq.mpr (by kernel_rfl) h
  · exact h.elim
def Qdo : GM
 | [.one a0], k => 
  bytesP a0 fun r0 =>
  call Qdn [.one r0] fun o1 =>
  rt [.own true 3 1] [(atP o1 0)] k
 | _, _ => False
abbrev Qdo_e : Ent := ⟨[306], Qdo⟩
theorem Qdo_w : EntOK Tryz.prog TT Qdo_e := ent_ok tabok (L := [Qdn_e]) ⟨Qdn_w, trivial⟩ (keep := []) (l := []) Tryz.func306 (by kernel_rfl) (sg := [.one (.own true 3 1)]) (by kernel_rfl) trivial fun av k h => by
  unfold Qdo at h; split at h
  · exact Eq.mpr (by kernel_rfl) h
  · exact h.elim
def Qdp_r0 (v : List PV) (K : List PV → Prop) (x0k : PV → PV → PV → PV → PV → PV → PV → Prop) : Prop :=
 un 7 (fun v0 v1 v2 v3 v4 v5 v6 =>
  lenP v4 fun r0 =>
  binP .lss v0 r0 fun r1 =>
  iteP r1
   (elemP 1 v4 v0 fun c2 =>
   call Qdo [.one (atP c2 0)] fun o3 =>
   catP 1 v6 (atP o3 0) fun r4 =>
   binP .add v0 (I 1) fun r5 =>
   K [r5, v1, v2, v3, v4, v5, r4])
   (x0k v0 v1 v2 v3 v4 v5 v6)) v
def Qdp : GM
 | [.agg u0], k => un 4 (fun a0 a1 a2 a3 => 
  call Qdo [.one a0] fun o0 =>
  lenP a3 fun r1 =>
  (3 = 3) ∧ (3 ≤ 16777216) ∧ (1 = 1) ∧ (0 = 0) ∧ (1 = 1) ∧ (flatCond [.pv (I 0)] [.pv a1]) ∧ (1 = 1) ∧ (1 = 1) ∧ (flatCond [.pv (I 0)] [.pv a2]) ∧ (2 = 2) ∧ (1 = 1) ∧ (flatCond [.pv (I 0)] [.pv r1]) ∧ catP 1 (atP o0 0) (.list 1 [[a1], [a2], [r1]]) fun r2 =>
  lp (fun L w => Qdp_r0 w L
   (fun q6 q7 q8 q9 q10 q11 q12 => rt [.own true 3 1] [q12] k)) [(I 0), a0, a1, a2, a3, (.list 1 []), r2]) u0
 | _, _ => False
abbrev Qdp_e : Ent := ⟨[293], Qdp⟩
def Qdp_l : List LE := [⟨0, ⟨[(1, .one (.ptr 0 0)), (2, .one (.own 4)), (3, .one (.own 3)), (4, .one zB)], [(0, [zB, zB, zB, zB])], [(4, ⟨.deep, 3, 1, (.bool false)⟩), (3, ⟨.deep, 3, 1, (.bool false)⟩)], 5, 33⟩, fun K k v => Qdp_r0 v K (fun x0 x1 x2 x3 x4 x5 x6 => k (.exit 0) ⟨[(1, .one (.ptr 0 0)), (2, .one (.own 4)), (3, .one (.own 3)), (4, .one (.pv x0))], [(0, [.pv x1, .pv x2, .pv x3, .pv x4])], [(4, ⟨.deep, 3, 1, x5⟩), (3, ⟨.deep, 3, 1, x6⟩)], 5, 33⟩)⟩]
theorem Qdp_s : LEsOK (orac [Qdo_e]) TT (kk [1, 2, 3, 4]) (sumsOf Qdp_l) Tryz.f293 Qdp_l := ⟨fun v K k h => by
  apply un_all h; exact fun v0 v1 v2 v3 v4 v5 v6 h => Eq.mpr (by kernel_rfl) h
  , trivial⟩
theorem Qdp_w : EntOK Tryz.prog TT Qdp_e := ent_ok tabok (L := [Qdo_e]) ⟨Qdo_w, trivial⟩ (keep := (kk [1, 2, 3, 4])) (l := Qdp_l) Tryz.func293 (by kernel_rfl) (sg := [.one (.own true 3 1)]) (by kernel_rfl) Qdp_s fun av k h => by
  unfold Qdp at h; split at h
  · apply un_all h; clear h; intro a0 a1 a2 a3 h; exact Eq.mpr (by kernel_rfl) h
  · exact h.elim
def Qdq : GM
 | [.agg u0], k => un 4 (fun a0 a1 a2 a3 => 
  (1 = 1) ∧ (1 ≤ 16777216) ∧ (1 = 1) ∧ (0 = 0) ∧ (1 = 1) ∧ (flatCond [.pv (I 0)] [.pv (I 227)]) ∧ call Qdp [.agg [a0, a1, a2, a3]] fun o0 =>
  catP 1 (.list 1 [[(I 227)]]) (atP o0 0) fun r1 =>
  call Qcl [.one r1] fun o2 =>
  rt [.sc] [(atP o2 0)] k) u0
 | _, _ => False
abbrev Qdq_e : Ent := ⟨[256], Qdq⟩
theorem Qdq_w : EntOK Tryz.prog TT Qdq_e := ent_ok tabok (L := [Qdp_e, Qcl_e]) ⟨Qdp_w, Qcl_w, trivial⟩ (keep := []) (l := []) Tryz.func256 (by kernel_rfl) (sg := [.one (.sc)]) (by kernel_rfl) trivial fun av k h => by
  unfold Qdq at h; split at h
  · apply un_all h; clear h; intro a0 a1 a2 a3 h; exact Eq.mpr (by kernel_rfl) h
  · exact h.elim
def Qdr_r0 (v : List PV) (K : List PV → Prop) (x0k : PV → PV → PV → PV → Prop) : Prop :=
 un 4 (fun v0 v1 v2 v3 =>
  lenP v0 fun r0 =>
  binP .lss v1 r0 fun r1 =>
  iteP r1
   (elemP 4 v0 v1 fun c2 =>
   call Qdq [.agg [(atP c2 0), (atP c2 1), (atP c2 2), (atP c2 3)]] fun o3 =>
   (1 = 1) ∧ (1 ≤ 16777216) ∧ (1 = 1) ∧ (0 = 0) ∧ (1 = 1) ∧ (flatCond [.pv (I 0)] [.pv (atP o3 0)]) ∧ catP 1 v3 (.list 1 [[(atP o3 0)]]) fun r4 =>
   binP .add v1 (I 1) fun r5 =>
   K [v0, r5, v2, r4])
   (x0k v0 v1 v2 v3)) v
def Qdr : GM
 | [.one a0], k => 
  (0 = 0) ∧ (0 ≤ 16777216) ∧ (1 = 1) ∧ lp (fun L w => Qdr_r0 w L
   (fun q6 q7 q8 q9 => rt [.own true 3 1] [q9] k)) [a0, (I 0), (.list 1 []), (.list 1 [])]
 | _, _ => False
abbrev Qdr_e : Ent := ⟨[211], Qdr⟩
def Qdr_l : List LE := [⟨0, ⟨[(0, .one zB), (2, .one (.own 1)), (3, .one (.own 0)), (4, .one zB)], [], [(1, ⟨.deep, 3, 1, (.bool false)⟩), (0, ⟨.deep, 3, 1, (.bool false)⟩)], 2, 21⟩, fun K k v => Qdr_r0 v K (fun x0 x1 x2 x3 => k (.exit 0) ⟨[(0, .one (.pv x0)), (2, .one (.own 1)), (3, .one (.own 0)), (4, .one (.pv x1))], [], [(1, ⟨.deep, 3, 1, x2⟩), (0, ⟨.deep, 3, 1, x3⟩)], 2, 21⟩)⟩]
theorem Qdr_s : LEsOK (orac [Qdq_e]) TT (kk [0, 2, 3, 4]) (sumsOf Qdr_l) Tryz.f211 Qdr_l := ⟨fun v K k h => by
  apply un_all h; exact fun v0 v1 v2 v3 h => Eq.mpr (by kernel_rfl) h
  , trivial⟩
theorem Qdr_w : EntOK Tryz.prog TT Qdr_e := ent_ok tabok (L := [Qdq_e]) ⟨Qdq_w, trivial⟩ (keep := (kk [0, 2, 3, 4])) (l := Qdr_l) Tryz.func211 (by kernel_rfl) (sg := [.one (.own true 3 1)]) (by kernel_rfl) Qdr_s fun av k h => by
  unfold Qdr at h; split at h
  · exact Eq.mpr (by kernel_rfl) h
  · exact h.elim
def Qds : GM
 | [.one a0, .one a1], k => 
  (3 = 3) ∧ (3 ≤ 16777216) ∧ (1 = 1) ∧ (0 = 0) ∧ (1 = 1) ∧ (flatCond [.pv (I 0)] [.pv (I 229)]) ∧ (1 = 1) ∧ (1 = 1) ∧ (flatCond [.pv (I 0)] [.pv a0]) ∧ (2 = 2) ∧ (1 = 1) ∧ (flatCond [.pv (I 0)] [.pv a1]) ∧ call Qcl [.one (.list 1 [[(I 229)], [a0], [a1]])] fun o0 =>
  rt [.sc] [(atP o0 0)] k
 | _, _ => False
abbrev Qds_e : Ent := ⟨[292], Qds⟩
theorem Qds_w : EntOK Tryz.prog TT Qds_e := ent_ok tabok (L := [Qcl_e]) ⟨Qcl_w, trivial⟩ (keep := []) (l := []) Tryz.func292 (by kernel_rfl) (sg := [.one (.sc)]) (by kernel_rfl) trivial fun av k h => by
  unfold Qds at h; split at h
  · exact Eq.mpr (by kernel_rfl) h
  · exact h.elim
def Qdt_r0 (v : List PV) (K : List PV → Prop) (x0k : PV → PV → PV → PV → Prop) : Prop :=
 un 4 (fun v0 v1 v2 v3 =>
  lenP v0 fun r0 =>
  binP .lss v1 r0 fun r1 =>
  iteP r1
   (binP .add v1 (I 1) fun r2 =>
   lenP v0 fun r3 =>
   binP .lss r2 r3 fun r4 =>
   iteP r4
    (elemP 1 v0 v1 fun c5 =>
    binP .add v1 (I 1) fun r6 =>
    elemP 1 v0 r6 fun c7 =>
    call Qds [.one (atP c5 0), .one (atP c7 0)] fun o8 =>
    (1 = 1) ∧ (1 ≤ 16777216) ∧ (1 = 1) ∧ (0 = 0) ∧ (1 = 1) ∧ (flatCond [.pv (I 0)] [.pv (atP o8 0)]) ∧ catP 1 v3 (.list 1 [[(atP o8 0)]]) fun r9 =>
    binP .add v1 (I 2) fun r10 =>
    K [v0, r10, v2, r9])
    (elemP 1 v0 v1 fun c11 =>
    (1 = 1) ∧ (1 ≤ 16777216) ∧ (1 = 1) ∧ (0 = 0) ∧ (1 = 1) ∧ (flatCond [.pv (I 0)] [.pv (atP c11 0)]) ∧ catP 1 v3 (.list 1 [[(atP c11 0)]]) fun r12 =>
    binP .add v1 (I 2) fun r13 =>
    K [v0, r13, v2, r12]))
   (x0k v0 v1 v2 v3)) v
def Qdt : GM
 | [.one a0], k => 
  (0 = 0) ∧ (0 ≤ 16777216) ∧ (1 = 1) ∧ lp (fun L w => Qdt_r0 w L
   (fun q14 q15 q16 q17 => rt [.own true 3 1] [q17] k)) [a0, (I 0), (.list 1 []), (.list 1 [])]
 | _, _ => False
abbrev Qdt_e : Ent := ⟨[255], Qdt⟩
def Qdt_l : List LE := [⟨0, ⟨[(0, .one zB), (2, .one (.own 1)), (3, .one (.own 0)), (4, .one zB)], [], [(1, ⟨.deep, 3, 1, (.bool false)⟩), (0, ⟨.deep, 3, 1, (.bool false)⟩)], 2, 38⟩, fun K k v => Qdt_r0 v K (fun x0 x1 x2 x3 => k (.exit 0) ⟨[(0, .one (.pv x0)), (2, .one (.own 1)), (3, .one (.own 0)), (4, .one (.pv x1))], [], [(1, ⟨.deep, 3, 1, x2⟩), (0, ⟨.deep, 3, 1, x3⟩)], 2, 38⟩)⟩]
theorem Qdt_s : LEsOK (orac [Qds_e]) TT (kk [0, 2, 3, 4]) (sumsOf Qdt_l) Tryz.f255 Qdt_l := ⟨fun v K k h => by
  apply un_all h; exact fun v0 v1 v2 v3 h => Eq.mpr (by kernel_rfl) h
  , trivial⟩
theorem Qdt_w : EntOK Tryz.prog TT Qdt_e := ent_ok tabok (L := [Qds_e]) ⟨Qds_w, trivial⟩ (keep := (kk [0, 2, 3, 4])) (l := Qdt_l) Tryz.func255 (by kernel_rfl) (sg := [.one (.own true 3 1)]) (by kernel_rfl) Qdt_s fun av k h => by
  unfold Qdt at h; split at h
  · exact Eq.mpr (by kernel_rfl) h
  · exact h.elim
def Qdu_r0 (v : List PV) (K : List PV → Prop) (x0k : PV → PV → Prop) : Prop :=
 un 2 (fun v0 v1 =>
  lenP v1 fun r0 =>
  binP .gtr r0 (I 1) fun r1 =>
  iteP r1
   (call Qdt [.one v1] fun o2 =>
   K [v0, (atP o2 0)])
   (x0k v0 v1)) v
def Qdu : GM
 | [.one a0], k => 
  lenP a0 fun r0 =>
  binP .eql r0 (I 0) fun r1 =>
  iteP r1
   ((1 = 1) ∧ (1 ≤ 16777216) ∧ (1 = 1) ∧ (0 = 0) ∧ (1 = 1) ∧ (flatCond [.pv (I 0)] [.pv (I 229)]) ∧ call Qcl [.one (.list 1 [[(I 229)]])] fun o2 =>
   rt [.sc] [(atP o2 0)] k)
   (lp (fun L w => Qdu_r0 w L
    (fun q3 q4 => elemP 1 q4 (I 0) fun c5 =>
     rt [.sc] [(atP c5 0)] k)) [(I 0), a0])
 | _, _ => False
abbrev Qdu_e : Ent := ⟨[210], Qdu⟩
def Qdu_l : List LE := [⟨0, ⟨[(2, .one zB), (3, .one zB)], [], [], 0, 18⟩, fun K k v => Qdu_r0 v K (fun x0 x1 => k (.exit 0) ⟨[(2, .one (.pv x0)), (3, .one (.pv x1))], [], [], 0, 18⟩)⟩]
theorem Qdu_s : LEsOK (orac [Qcl_e, Qdt_e]) TT (kk [2, 3]) (sumsOf Qdu_l) Tryz.f210 Qdu_l := ⟨fun v K k h => by
  apply un_all h; exact fun v0 v1 h => Eq.mpr (by kernel_rfl) h
  , trivial⟩
theorem Qdu_w : EntOK Tryz.prog TT Qdu_e := ent_ok tabok (L := [Qcl_e, Qdt_e]) ⟨Qcl_w, Qdt_w, trivial⟩ (keep := (kk [2, 3])) (l := Qdu_l) Tryz.func210 (by kernel_rfl) (sg := [.one (.sc)]) (by kernel_rfl) Qdu_s fun av k h => by
  unfold Qdu at h; split at h
  · exact Eq.mpr (by kernel_rfl) h
  · exact h.elim
def Qdv : GM
 | [.one a0, .one a1], k => 
  (3 = 3) ∧ (3 ≤ 16777216) ∧ (1 = 1) ∧ (0 = 0) ∧ (1 = 1) ∧ (flatCond [.pv (I 0)] [.pv (I 231)]) ∧ (1 = 1) ∧ (1 = 1) ∧ (flatCond [.pv (I 0)] [.pv a0]) ∧ (2 = 2) ∧ (1 = 1) ∧ (flatCond [.pv (I 0)] [.pv a1]) ∧ call Qcl [.one (.list 1 [[(I 231)], [a0], [a1]])] fun o0 =>
  rt [.sc] [(atP o0 0)] k
 | _, _ => False
abbrev Qdv_e : Ent := ⟨[209], Qdv⟩
theorem Qdv_w : EntOK Tryz.prog TT Qdv_e := ent_ok tabok (L := [Qcl_e]) ⟨Qcl_w, trivial⟩ (keep := []) (l := []) Tryz.func209 (by kernel_rfl) (sg := [.one (.sc)]) (by kernel_rfl) trivial fun av k h => by
  unfold Qdv at h; split at h
  · exact Eq.mpr (by kernel_rfl) h
  · exact h.elim
def Qdw : GM
 | [.one a0], k => 
  lenP a0 fun r0 =>
  call Qdr [.one a0] fun o1 =>
  call Qdu [.one (atP o1 0)] fun o2 =>
  call Qdv [.one r0, .one (atP o2 0)] fun o3 =>
  rt [.sc] [(atP o3 0)] k
 | _, _ => False
abbrev Qdw_e : Ent := ⟨[159], Qdw⟩
theorem Qdw_w : EntOK Tryz.prog TT Qdw_e := ent_ok tabok (L := [Qdr_e, Qdu_e, Qdv_e]) ⟨Qdr_w, Qdu_w, Qdv_w, trivial⟩ (keep := []) (l := []) Tryz.func159 (by kernel_rfl) (sg := [.one (.sc)]) (by kernel_rfl) trivial fun av k h => by
  unfold Qdw at h; split at h
  · exact Eq.mpr (by kernel_rfl) h
  · exact h.elim
def Qdx : GM
 | [.one a0, .one a1], k => 
  call Qdm [.one a1] fun o0 =>
  iteP (atP o0 0)
   (call Qdw [.one a1] fun o1 =>
   binP .eql (atP o1 0) a0 fun r2 =>
   rt [.sc] [r2] k)
   (rt [.sc] [(.bool false)] k)
 | _, _ => False
abbrev Qdx_e : Ent := ⟨[104], Qdx⟩
theorem Qdx_w : EntOK Tryz.prog TT Qdx_e := ent_ok tabok (L := [Qdm_e, Qdw_e]) ⟨Qdm_w, Qdw_w, trivial⟩ (keep := []) (l := []) Tryz.func104 (by kernel_rfl) (sg := [.one (.sc)]) (by kernel_rfl) trivial fun av k h => by
  unfold Qdx at h; split at h
  · exact Eq.mpr (by kernel_rfl) h
  · exact h.elim
def Qdy : GM
 | [.agg u0], k => un 2 (fun a0 a1 => 
  call Qdh [.one a0] fun o0 =>
  iteP (atP o0 16)
   (lenP a1 fun r1 =>
   binP .eql (atP o0 5) r1 fun r2 =>
   iteP r2
    (call Qdx [.one (atP o0 6), .one a1] fun o3 =>
    rt [.sc] [(atP o3 0)] k)
    (rt [.sc] [(.bool false)] k))
   (rt [.sc] [(.bool false)] k)) u0
 | _, _ => False
abbrev Qdy_e : Ent := ⟨[48], Qdy⟩
theorem Qdy_w : EntOK Tryz.prog TT Qdy_e := ent_ok tabok (L := [Qdh_e, Qdx_e]) ⟨Qdh_w, Qdx_w, trivial⟩ (keep := []) (l := []) Tryz.func48 (by kernel_rfl) (sg := [.one (.sc)]) (by kernel_rfl) trivial fun av k h => by
  unfold Qdy at h; split at h
  · apply un_all h; clear h; intro a0 a1 h; exact Eq.mpr (by kernel_rfl) h
  · exact h.elim
def Qdz_r0 (v : List PV) (K : List PV → Prop) (x0k : Prop) (x1k : PV → PV → PV → PV → Prop) : Prop :=
 un 4 (fun v0 v1 v2 v3 =>
  lenP v0 fun r0 =>
  binP .lss v3 r0 fun r1 =>
  iteP r1
   (elemP 1 v0 v3 fun c2 =>
   binP .eql (atP c2 0) v1 fun r3 =>
   iteP r3
    (x0k)
    (binP .add v3 (I 1) fun r4 =>
    K [v0, v1, v2, r4]))
   (x1k v0 v1 v2 v3)) v
def Qdz : GM
 | [.one a0, .one a1], k => 
  lp (fun L w => Qdz_r0 w L
   (rt [.sc] [(.bool true)] k)
   (fun q5 q6 q7 q8 => rt [.sc] [(.bool false)] k)) [a0, a1, (.bool false), (I 0)]
 | _, _ => False
abbrev Qdz_e : Ent := ⟨[160], Qdz⟩
def Qdz_l : List LE := [⟨0, ⟨[(0, .one zB), (1, .one zB), (4, .one zB), (5, .one zB)], [], [], 0, 18⟩, fun K k v => Qdz_r0 v K (k .ret ⟨[(4, .one (.kb true))], [], [], 0, 18⟩) (fun x0 x1 x2 x3 => k (.exit 0) ⟨[(0, .one (.pv x0)), (1, .one (.pv x1)), (4, .one (.pv x2)), (5, .one (.pv x3))], [], [], 0, 18⟩)⟩]
theorem Qdz_s : LEsOK (orac []) TT (kk [0, 1, 4, 5]) (sumsOf Qdz_l) Tryz.f160 Qdz_l := ⟨fun v K k h => by
  apply un_all h; exact fun v0 v1 v2 v3 h => Eq.mpr (by kernel_rfl) h
  , trivial⟩
theorem Qdz_w : EntOK Tryz.prog TT Qdz_e := ent_ok tabok (L := []) trivial (keep := (kk [0, 1, 4, 5])) (l := Qdz_l) Tryz.func160 (by kernel_rfl) (sg := [.one (.sc)]) (by kernel_rfl) Qdz_s fun av k h => by
  unfold Qdz at h; split at h
  · exact Eq.mpr (by kernel_rfl) h
  · exact h.elim
def Qea_r0 (v : List PV) (K : List PV → Prop) (x0k : PV → PV → PV → PV → PV → PV → Prop) : Prop :=
 un 6 (fun v0 v1 v2 v3 v4 v5 =>
  lenP v4 fun r0 =>
  binP .lss v3 r0 fun r1 =>
  iteP r1
   (elemP 1 v4 v3 fun c2 =>
   call Qdz [.one v0, .one (atP c2 0)] fun o3 =>
   iteP (atP o3 0)
    (binP .add v2 (I 1) fun r4 =>
    binP .add v3 (I 1) fun r5 =>
    K [v0, v1, r4, r5, v4, v5])
    (binP .add v3 (I 1) fun r6 =>
    K [v0, v1, v2, r6, v4, v5]))
   (x0k v0 v1 v2 v3 v4 v5)) v
def Qea : GM
 | [.agg u0, .one a2], k => un 2 (fun a0 a1 => 
  lp (fun L w => Qea_r0 w L
   (fun q7 q8 q9 q10 q11 q12 => call Qcg [.agg [q11, q12]] fun o13 =>
    iteP (atP o13 0)
     (binP .geq q9 q12 fun r14 =>
     rt [.sc] [r14] k)
     (rt [.sc] [(.bool false)] k))) [a2, (.bool false), (I 0), (I 0), a0, a1]) u0
 | _, _ => False
abbrev Qea_e : Ent := ⟨[105], Qea⟩
def Qea_l : List LE := [⟨0, ⟨[(1, .one zB), (2, .one (.ptr 0 0)), (4, .one zB), (5, .one zB), (6, .one zB)], [(0, [zB, zB])], [], 1, 31⟩, fun K k v => Qea_r0 v K (fun x0 x1 x2 x3 x4 x5 => k (.exit 0) ⟨[(1, .one (.pv x0)), (2, .one (.ptr 0 0)), (4, .one (.pv x1)), (5, .one (.pv x2)), (6, .one (.pv x3))], [(0, [.pv x4, .pv x5])], [], 1, 31⟩)⟩]
theorem Qea_s : LEsOK (orac [Qdz_e, Qcg_e]) TT (kk [1, 2, 4, 5, 6, 26, 27, 28, 29]) (sumsOf Qea_l) Tryz.f105 Qea_l := ⟨fun v K k h => by
  apply un_all h; exact fun v0 v1 v2 v3 v4 v5 h => Eq.mpr (by kernel_rfl) h
  , trivial⟩
theorem Qea_w : EntOK Tryz.prog TT Qea_e := ent_ok tabok (L := [Qdz_e, Qcg_e]) ⟨Qdz_w, Qcg_w, trivial⟩ (keep := (kk [1, 2, 4, 5, 6, 26, 27, 28, 29])) (l := Qea_l) Tryz.func105 (by kernel_rfl) (sg := [.one (.sc)]) (by kernel_rfl) Qea_s fun av k h => by
  unfold Qea at h; split at h
  · apply un_all h; clear h; intro a0 a1 h; exact Eq.mpr (by kernel_rfl) h
  · exact h.elim
def Qeb : GM
 | [.one a0, .one a1, .agg u0, .one a18], k => un 16 (fun a2 a3 a4 a5 a6 a7 a8 a9 a10 a11 a12 a13 a14 a15 a16 a17 => 
  lenP a0 fun r0 =>
  binP .sub r0 (I 1) fun r1 =>
  call Qcf [.one a1, .one (I 0), .one r1] fun o2 =>
  unP .not (atP o2 0) fun r3 =>
  iteP r3
   (rt [.sc] [(.bool false)] k)
   (binP .eql a18 (I 1) fun r4 =>
   iteP r4
    (elemP 1 a0 a1 fun c5 =>
    call Qea [.agg [a10, a11], .one (atP c5 0)] fun o6 =>
    rt [.sc] [(atP o6 0)] k)
    (binP .eql a18 (I 2) fun r7 =>
    iteP r7
     (elemP 1 a0 a1 fun c8 =>
     call Qea [.agg [a12, a13], .one (atP c8 0)] fun o9 =>
     rt [.sc] [(atP o9 0)] k)
     (binP .eql a18 (I 3) fun r10 =>
     iteP r10
      (elemP 1 a0 a1 fun c11 =>
      call Qea [.agg [a15, a16], .one (atP c11 0)] fun o12 =>
      rt [.sc] [(atP o12 0)] k)
      (rt [.sc] [(.bool false)] k))))) u0
 | _, _ => False
abbrev Qeb_e : Ent := ⟨[106], Qeb⟩
theorem Qeb_w : EntOK Tryz.prog TT Qeb_e := ent_ok tabok (L := [Qcf_e, Qea_e]) ⟨Qcf_w, Qea_w, trivial⟩ (keep := []) (l := []) Tryz.func106 (by kernel_rfl) (sg := [.one (.sc)]) (by kernel_rfl) trivial fun av k h => by
  unfold Qeb at h; split at h
  · apply un_all h; clear h; intro a2 a3 a4 a5 a6 a7 a8 a9 a10 a11 a12 a13 a14 a15 a16 a17 h; exact Eq.mpr (by kernel_rfl) h
  · exact h.elim
def Qec : GM
 | [.one a0, .agg u0], k => un 2 (fun a1 a2 => 
  lenP a1 fun r0 =>
  binP .sub r0 (I 1) fun r1 =>
  elemP 17 a1 r1 fun c2 =>
  binP .eql r0 (I 1) fun r3 =>
  iteP r3
   (call Qea [.agg [(atP c2 8), (atP c2 9)], .one a0] fun o4 =>
   rt [.sc] [(atP o4 0)] k)
   ((1 = 1) ∧ (1 ≤ 16777216) ∧ (1 = 1) ∧ (0 = 0) ∧ (1 = 1) ∧ binP .sub r0 (I 2) fun r5 =>
   elemP 17 a1 r5 fun c6 =>
   call Qeb [.one (.list 1 [[a0]]), .one (I 0), .agg [(atP c6 0), (atP c6 1), (atP c6 2), (atP c6 3), (atP c6 4), (atP c6 5), (atP c6 6), (atP c6 7), (atP c6 8), (atP c6 9), (atP c6 10), (atP c6 11), (atP c6 12), (atP c6 13), (atP c6 14), (atP c6 15)], .one (atP c2 2)] fun o7 =>
   rt [.sc] [(atP o7 0)] k)) u0
 | _, _ => False
abbrev Qec_e : Ent := ⟨[49], Qec⟩
theorem Qec_w : EntOK Tryz.prog TT Qec_e := ent_ok tabok (L := [Qea_e, Qeb_e]) ⟨Qea_w, Qeb_w, trivial⟩ (keep := []) (l := []) Tryz.func49 (by kernel_rfl) (sg := [.one (.sc)]) (by kernel_rfl) trivial fun av k h => by
  unfold Qec at h; split at h
  · apply un_all h; clear h; intro a1 a2 h; exact Eq.mpr (by kernel_rfl) h
  · exact h.elim
def Qed : GM
 | [.agg u0], k => un 3 (fun a0 a1 a2 => 
  call Qdy [.agg [a0, a1]] fun o0 =>
  iteP (atP o0 0)
   (call Qec [.one a2, .agg [a0, a1]] fun o1 =>
   rt [.sc] [(atP o1 0)] k)
   (rt [.sc] [(.bool false)] k)) u0
 | _, _ => False
abbrev Qed_e : Ent := ⟨[15], Qed⟩
theorem Qed_w : EntOK Tryz.prog TT Qed_e := ent_ok tabok (L := [Qdy_e, Qec_e]) ⟨Qdy_w, Qec_w, trivial⟩ (keep := []) (l := []) Tryz.func15 (by kernel_rfl) (sg := [.one (.sc)]) (by kernel_rfl) trivial fun av k h => by
  unfold Qed at h; split at h
  · apply un_all h; clear h; intro a0 a1 a2 h; exact Eq.mpr (by kernel_rfl) h
  · exact h.elim
def Qee : GM
 | [.agg u0, .agg u1], k => un 16 (fun a0 a1 a2 a3 a4 a5 a6 a7 a8 a9 a10 a11 a12 a13 a14 a15 => un 16 (fun a16 a17 a18 a19 a20 a21 a22 a23 a24 a25 a26 a27 a28 a29 a30 a31 => 
  call Qcn [.agg [a0, a1, a2, a3, a4, a5, a6, a7, a8, a9, a10, a11, a12, a13, a14, a15]] fun o0 =>
  call Qcn [.agg [a16, a17, a18, a19, a20, a21, a22, a23, a24, a25, a26, a27, a28, a29, a30, a31]] fun o1 =>
  call Qcw [.one (atP o0 0), .one (atP o1 0)] fun o2 =>
  iteP (atP o2 0)
   (boolP .eql a15 a31 fun r3 =>
   rt [.sc] [r3] k)
   (rt [.sc] [(.bool false)] k)) u1) u0
 | _, _ => False
abbrev Qee_e : Ent := ⟨[107], Qee⟩
theorem Qee_w : EntOK Tryz.prog TT Qee_e := ent_ok tabok (L := [Qcn_e, Qcw_e]) ⟨Qcn_w, Qcw_w, trivial⟩ (keep := []) (l := []) Tryz.func107 (by kernel_rfl) (sg := [.one (.sc)]) (by kernel_rfl) trivial fun av k h => by
  unfold Qee at h; split at h
  · apply un_all h; clear h; intro a0 a1 a2 a3 a4 a5 a6 a7 a8 a9 a10 a11 a12 a13 a14 a15 h; apply un_all h; clear h; intro a16 a17 a18 a19 a20 a21 a22 a23 a24 a25 a26 a27 a28 a29 a30 a31 h; exact Eq.mpr (by kernel_rfl) h
  · exact h.elim
def Qef_r0 (v : List PV) (K : List PV → Prop) (x0k : Prop) (x1k : PV → PV → PV → PV → Prop) : Prop :=
 un 4 (fun v0 v1 v2 v3 =>
  lenP v0 fun r0 =>
  binP .lss v3 r0 fun r1 =>
  iteP r1
   (elemP 17 v0 v3 fun c2 =>
   elemP 17 v1 v3 fun c3 =>
   call Qee [.agg [(atP c2 0), (atP c2 1), (atP c2 2), (atP c2 3), (atP c2 4), (atP c2 5), (atP c2 6), (atP c2 7), (atP c2 8), (atP c2 9), (atP c2 10), (atP c2 11), (atP c2 12), (atP c2 13), (atP c2 14), (atP c2 15)], .agg [(atP c3 0), (atP c3 1), (atP c3 2), (atP c3 3), (atP c3 4), (atP c3 5), (atP c3 6), (atP c3 7), (atP c3 8), (atP c3 9), (atP c3 10), (atP c3 11), (atP c3 12), (atP c3 13), (atP c3 14), (atP c3 15)]] fun o4 =>
   unP .not (atP o4 0) fun r5 =>
   iteP r5
    (x0k)
    (binP .add v3 (I 1) fun r6 =>
    K [v0, v1, v2, r6]))
   (x1k v0 v1 v2 v3)) v
def Qef : GM
 | [.one a0, .one a1], k => 
  lenP a0 fun r0 =>
  lenP a1 fun r1 =>
  binP .gtr r0 r1 fun r2 =>
  iteP r2
   (rt [.sc] [(.bool false)] k)
   (lp (fun L w => Qef_r0 w L
    (rt [.sc] [(.bool false)] k)
    (fun q7 q8 q9 q10 => rt [.sc] [(.bool true)] k)) [a0, a1, (.bool false), (I 0)])
 | _, _ => False
abbrev Qef_e : Ent := ⟨[50], Qef⟩
def Qef_l : List LE := [⟨0, ⟨[(0, .one zB), (1, .one zB), (4, .one zB), (5, .one zB)], [], [], 0, 29⟩, fun K k v => Qef_r0 v K (k .ret ⟨[(4, .one (.kb false))], [], [], 1, 29⟩) (fun x0 x1 x2 x3 => k (.exit 0) ⟨[(0, .one (.pv x0)), (1, .one (.pv x1)), (4, .one (.pv x2)), (5, .one (.pv x3))], [], [], 0, 29⟩)⟩]
theorem Qef_s : LEsOK (orac [Qee_e]) TT (kk [0, 1, 4, 5]) (sumsOf Qef_l) Tryz.f50 Qef_l := ⟨fun v K k h => by
  apply un_all h; exact fun v0 v1 v2 v3 h => Eq.mpr (by kernel_rfl) h
  , trivial⟩
theorem Qef_w : EntOK Tryz.prog TT Qef_e := ent_ok tabok (L := [Qee_e]) ⟨Qee_w, trivial⟩ (keep := (kk [0, 1, 4, 5])) (l := Qef_l) Tryz.func50 (by kernel_rfl) (sg := [.one (.sc)]) (by kernel_rfl) Qef_s fun av k h => by
  unfold Qef at h; split at h
  · exact Eq.mpr (by kernel_rfl) h
  · exact h.elim
def Qeg_r0 (v : List PV) (K : List PV → Prop) (x0k : Prop) (x1k : PV → PV → PV → PV → Prop) : Prop :=
 un 4 (fun v0 v1 v2 v3 =>
  lenP v0 fun r0 =>
  binP .lss v3 r0 fun r1 =>
  iteP r1
   (elemP 1 v0 v3 fun c2 =>
   elemP 1 v1 v3 fun c3 =>
   binP .neq (atP c2 0) (atP c3 0) fun r4 =>
   iteP r4
    (x0k)
    (binP .add v3 (I 1) fun r5 =>
    K [v0, v1, v2, r5]))
   (x1k v0 v1 v2 v3)) v
def Qeg : GM
 | [.one a0, .one a1], k => 
  lenP a0 fun r0 =>
  lenP a1 fun r1 =>
  binP .neq r0 r1 fun r2 =>
  iteP r2
   (rt [.sc] [(.bool false)] k)
   (lp (fun L w => Qeg_r0 w L
    (rt [.sc] [(.bool false)] k)
    (fun q6 q7 q8 q9 => rt [.sc] [(.bool true)] k)) [a0, a1, (.bool false), (I 0)])
 | _, _ => False
abbrev Qeg_e : Ent := ⟨[164], Qeg⟩
def Qeg_l : List LE := [⟨0, ⟨[(0, .one zB), (1, .one zB), (4, .one zB), (5, .one zB)], [], [], 0, 26⟩, fun K k v => Qeg_r0 v K (k .ret ⟨[(4, .one (.kb false))], [], [], 0, 26⟩) (fun x0 x1 x2 x3 => k (.exit 0) ⟨[(0, .one (.pv x0)), (1, .one (.pv x1)), (4, .one (.pv x2)), (5, .one (.pv x3))], [], [], 0, 26⟩)⟩]
theorem Qeg_s : LEsOK (orac []) TT (kk [0, 1, 4, 5]) (sumsOf Qeg_l) Tryz.f164 Qeg_l := ⟨fun v K k h => by
  apply un_all h; exact fun v0 v1 v2 v3 h => Eq.mpr (by kernel_rfl) h
  , trivial⟩
theorem Qeg_w : EntOK Tryz.prog TT Qeg_e := ent_ok tabok (L := []) trivial (keep := (kk [0, 1, 4, 5])) (l := Qeg_l) Tryz.func164 (by kernel_rfl) (sg := [.one (.sc)]) (by kernel_rfl) Qeg_s fun av k h => by
  unfold Qeg at h; split at h
  · exact Eq.mpr (by kernel_rfl) h
  · exact h.elim
def Qeh : GM
 | [.agg u0, .agg u1], k => un 4 (fun a0 a1 a2 a3 => un 4 (fun a4 a5 a6 a7 => 
  binP .eql a0 a4 fun r0 =>
  iteP r0
   (binP .eql a1 a5 fun r1 =>
   iteP r1
    (binP .eql a2 a6 fun r2 =>
    iteP r2
     (call Qeg [.one a3, .one a7] fun o3 =>
     rt [.sc] [(atP o3 0)] k)
     (rt [.sc] [(.bool false)] k))
    (rt [.sc] [(.bool false)] k))
   (rt [.sc] [(.bool false)] k)) u1) u0
 | _, _ => False
abbrev Qeh_e : Ent := ⟨[108], Qeh⟩
theorem Qeh_w : EntOK Tryz.prog TT Qeh_e := ent_ok tabok (L := [Qeg_e]) ⟨Qeg_w, trivial⟩ (keep := []) (l := []) Tryz.func108 (by kernel_rfl) (sg := [.one (.sc)]) (by kernel_rfl) trivial fun av k h => by
  unfold Qeh at h; split at h
  · apply un_all h; clear h; intro a0 a1 a2 a3 h; apply un_all h; clear h; intro a4 a5 a6 a7 h; exact Eq.mpr (by kernel_rfl) h
  · exact h.elim
def Qei_r0 (v : List PV) (K : List PV → Prop) (x0k : Prop) (x1k : PV → PV → PV → PV → Prop) : Prop :=
 un 4 (fun v0 v1 v2 v3 =>
  lenP v0 fun r0 =>
  binP .lss v3 r0 fun r1 =>
  iteP r1
   (elemP 4 v0 v3 fun c2 =>
   elemP 4 v1 v3 fun c3 =>
   call Qeh [.agg [(atP c2 0), (atP c2 1), (atP c2 2), (atP c2 3)], .agg [(atP c3 0), (atP c3 1), (atP c3 2), (atP c3 3)]] fun o4 =>
   unP .not (atP o4 0) fun r5 =>
   iteP r5
    (x0k)
    (binP .add v3 (I 1) fun r6 =>
    K [v0, v1, v2, r6]))
   (x1k v0 v1 v2 v3)) v
def Qei : GM
 | [.one a0, .one a1], k => 
  lenP a0 fun r0 =>
  lenP a1 fun r1 =>
  binP .neq r0 r1 fun r2 =>
  iteP r2
   (rt [.sc] [(.bool false)] k)
   (lp (fun L w => Qei_r0 w L
    (rt [.sc] [(.bool false)] k)
    (fun q7 q8 q9 q10 => rt [.sc] [(.bool true)] k)) [a0, a1, (.bool false), (I 0)])
 | _, _ => False
abbrev Qei_e : Ent := ⟨[51], Qei⟩
def Qei_l : List LE := [⟨0, ⟨[(0, .one zB), (1, .one zB), (4, .one zB), (5, .one zB)], [], [], 0, 27⟩, fun K k v => Qei_r0 v K (k .ret ⟨[(4, .one (.kb false))], [], [], 1, 27⟩) (fun x0 x1 x2 x3 => k (.exit 0) ⟨[(0, .one (.pv x0)), (1, .one (.pv x1)), (4, .one (.pv x2)), (5, .one (.pv x3))], [], [], 0, 27⟩)⟩]
theorem Qei_s : LEsOK (orac [Qeh_e]) TT (kk [0, 1, 4, 5]) (sumsOf Qei_l) Tryz.f51 Qei_l := ⟨fun v K k h => by
  apply un_all h; exact fun v0 v1 v2 v3 h => Eq.mpr (by kernel_rfl) h
  , trivial⟩
theorem Qei_w : EntOK Tryz.prog TT Qei_e := ent_ok tabok (L := [Qeh_e]) ⟨Qeh_w, trivial⟩ (keep := (kk [0, 1, 4, 5])) (l := Qei_l) Tryz.func51 (by kernel_rfl) (sg := [.one (.sc)]) (by kernel_rfl) Qei_s fun av k h => by
  unfold Qei at h; split at h
  · exact Eq.mpr (by kernel_rfl) h
  · exact h.elim
def Qej_r0 (v : List PV) (K : List PV → Prop) (x0k : PV → PV → PV → PV → PV → PV → PV → PV → PV → PV → PV → PV → Prop) (x1k : PV → PV → PV → PV → PV → PV → PV → PV → PV → PV → PV → PV → Prop) : Prop :=
 un 12 (fun v0 v1 v2 v3 v4 v5 v6 v7 v8 v9 v10 v11 =>
  lenP v7 fun r0 =>
  binP .lss v1 r0 fun r1 =>
  iteP r1
   (elemP 3 v7 v1 fun c2 =>
   call Qef [.one (atP c2 0), .one v2] fun o3 =>
   iteP (atP o3 0)
    (call Qef [.one v2, .one (atP c2 0)] fun o4 =>
    iteP (atP o4 0)
     (call Qei [.one (atP c2 1), .one v3] fun o5 =>
     iteP (atP o5 0)
      (x0k (atP c2 0) (atP c2 1) v2 v3 v4 v5 v6 v7 v8 v9 v10 v11)
      (binP .add v1 (I 1) fun r6 =>
      K [v0, r6, v2, v3, v4, v5, v6, v7, v8, v9, v10, v11]))
     (binP .add v1 (I 1) fun r7 =>
     K [v0, r7, v2, v3, v4, v5, v6, v7, v8, v9, v10, v11]))
    (binP .add v1 (I 1) fun r8 =>
    K [v0, r8, v2, v3, v4, v5, v6, v7, v8, v9, v10, v11]))
   (x1k v0 v1 v2 v3 v4 v5 v6 v7 v8 v9 v10 v11)) v
def Qej : GM
 | [.agg u0, .agg u1], k => un 8 (fun a0 a1 a2 a3 a4 a5 a6 a7 => un 2 (fun a8 a9 => 
  lp (fun L w => Qej_r0 w L
   (fun q9 q10 q11 q12 q13 q14 q15 q16 q17 q18 q19 q20 => rt [.sc] [(.bool true)] k)
   (fun q21 q22 q23 q24 q25 q26 q27 q28 q29 q30 q31 q32 => rt [.sc] [(.bool false)] k)) [(.bool false), (I 0), a8, a9, a0, a1, a2, a3, a4, a5, a6, a7]) u1) u0
 | _, _ => False
abbrev Qej_e : Ent := ⟨[16], Qej⟩
def Qej_l : List LE := [⟨0, ⟨[(2, .one (.ptr 0 0)), (3, .one (.ptr 1 0)), (4, .one zB), (5, .one zB)], [(1, [zB, zB]), (0, [zB, zB, zB, zB, zB, zB, zB, zB])], [], 2, 39⟩, fun K k v => Qej_r0 v K (fun x0 x1 x2 x3 x4 x5 x6 x7 x8 x9 x10 x11 => k .ret ⟨[(4, .one (.kb true))], [(2, [.pv x0, .pv x1]), (2, [.nil 129 17, .nil 114 4]), (1, [.pv x2, .pv x3]), (0, [.pv x4, .pv x5, .pv x6, .pv x7, .pv x8, .pv x9, .pv x10, .pv x11])], [], 6, 39⟩) (fun x0 x1 x2 x3 x4 x5 x6 x7 x8 x9 x10 x11 => k (.exit 0) ⟨[(2, .one (.ptr 0 0)), (3, .one (.ptr 1 0)), (4, .one (.pv x0)), (5, .one (.pv x1))], [(1, [.pv x2, .pv x3]), (0, [.pv x4, .pv x5, .pv x6, .pv x7, .pv x8, .pv x9, .pv x10, .pv x11])], [], 2, 39⟩)⟩]
theorem Qej_s : LEsOK (orac [Qef_e, Qei_e]) TT (kk [2, 3, 4, 5, 26, 27, 28, 29, 30, 33, 34, 35, 36, 37]) (sumsOf Qej_l) Tryz.f16 Qej_l := ⟨fun v K k h => by
  apply un_all h; exact fun v0 v1 v2 v3 v4 v5 v6 v7 v8 v9 v10 v11 h => Eq.mpr (by kernel_rfl) h
  , trivial⟩
theorem Qej_w : EntOK Tryz.prog TT Qej_e := ent_ok tabok (L := [Qef_e, Qei_e]) ⟨Qef_w, Qei_w, trivial⟩ (keep := (kk [2, 3, 4, 5, 26, 27, 28, 29, 30, 33, 34, 35, 36, 37])) (l := Qej_l) Tryz.func16 (by kernel_rfl) (sg := [.one (.sc)]) (by kernel_rfl) Qej_s fun av k h => by
  unfold Qej at h; split at h
  · apply un_all h; clear h; intro a0 a1 a2 a3 a4 a5 a6 a7 h; apply un_all h; clear h; intro a8 a9 h; exact Eq.mpr (by kernel_rfl) h
  · exact h.elim
def Qek_r0 (v : List PV) (K : List PV → Prop) (x0k : PV → PV → Prop) (x1k : PV → PV → PV → PV → Prop) : Prop :=
 un 4 (fun v0 v1 v2 v3 =>
  lenP v2 fun r0 =>
  binP .lss v1 r0 fun r1 =>
  iteP r1
   (elemP 2 v2 v1 fun c2 =>
   call Qdy [.agg [(atP c2 0), (atP c2 1)]] fun o3 =>
   unP .not (atP o3 0) fun r4 =>
   iteP r4
    (x0k v2 v3)
    (binP .add v1 (I 1) fun r5 =>
    K [v0, r5, v2, v3]))
   (x1k v0 v1 v2 v3)) v
def Qek : GM
 | [.agg u0], k => un 2 (fun a0 a1 => 
  lp (fun L w => Qek_r0 w L
   (fun q6 q7 => rt [.sc] [(.bool false)] k)
   (fun q8 q9 q10 q11 => lenP q10 fun r12 =>
    binP .leq r12 (I 8) fun r13 =>
    iteP r13
     (call Qcf [.one q11, .one (I 0), .one (I 4)] fun o14 =>
     rt [.sc] [(atP o14 0)] k)
     (rt [.sc] [(.bool false)] k))) [(.bool false), (I 0), a0, a1]) u0
 | _, _ => False
abbrev Qek_e : Ent := ⟨[52], Qek⟩
def Qek_l : List LE := [⟨0, ⟨[(1, .one (.ptr 0 0)), (2, .one zB), (3, .one zB)], [(0, [zB, zB])], [], 1, 27⟩, fun K k v => Qek_r0 v K (fun x0 x1 => k .ret ⟨[(2, .one (.kb false))], [(0, [.pv x0, .pv x1])], [], 2, 27⟩) (fun x0 x1 x2 x3 => k (.exit 0) ⟨[(1, .one (.ptr 0 0)), (2, .one (.pv x0)), (3, .one (.pv x1))], [(0, [.pv x2, .pv x3])], [], 1, 27⟩)⟩]
theorem Qek_s : LEsOK (orac [Qdy_e, Qcf_e]) TT (kk [1, 2, 3, 23, 24, 25]) (sumsOf Qek_l) Tryz.f52 Qek_l := ⟨fun v K k h => by
  apply un_all h; exact fun v0 v1 v2 v3 h => Eq.mpr (by kernel_rfl) h
  , trivial⟩
theorem Qek_w : EntOK Tryz.prog TT Qek_e := ent_ok tabok (L := [Qdy_e, Qcf_e]) ⟨Qdy_w, Qcf_w, trivial⟩ (keep := (kk [1, 2, 3, 23, 24, 25])) (l := Qek_l) Tryz.func52 (by kernel_rfl) (sg := [.one (.sc)]) (by kernel_rfl) Qek_s fun av k h => by
  unfold Qek at h; split at h
  · apply un_all h; clear h; intro a0 a1 h; exact Eq.mpr (by kernel_rfl) h
  · exact h.elim
def Qel_r1 (v : List PV) (K : List PV → Prop) (x0k : Prop) (x1k : PV → PV → PV → PV → PV → Prop) : Prop :=
 un 5 (fun v0 v1 v2 v3 v4 =>
  lenP v3 fun r0 =>
  binP .lss v4 r0 fun r1 =>
  iteP r1
   (elemP 1 v3 v4 fun c2 =>
   call Qcf [.one (atP c2 0), .one (I 1), .one (I 99)] fun o3 =>
   unP .not (atP o3 0) fun r4 =>
   iteP r4
    (x0k)
    (binP .gtr v4 (I 0) fun r5 =>
    iteP r5
     (binP .sub v4 (I 1) fun r6 =>
     elemP 1 v3 r6 fun c7 =>
     elemP 1 v3 v4 fun c8 =>
     binP .geq (atP c7 0) (atP c8 0) fun r9 =>
     iteP r9
      (x0k)
      (binP .add v4 (I 1) fun r10 =>
      K [v0, v1, v2, v3, r10]))
     (binP .add v4 (I 1) fun r11 =>
     K [v0, v1, v2, v3, r11])))
   (x1k v0 v1 v2 v3 v4)) v
def Qel_r0 (v : List PV) (K : List PV → Prop) (x0k : Prop) (x1k : Prop) (x2k : PV → PV → PV → Prop) : Prop :=
 un 3 (fun v0 v1 v2 =>
  lenP v0 fun r0 =>
  binP .lss v2 r0 fun r1 =>
  iteP r1
   (elemP 1 v0 v2 fun c2 =>
   lp (fun L w => Qel_r1 w L
    (x0k)
    (fun q12 q13 q14 q15 q16 => lenP q15 fun r17 =>
     binP .gtr r17 (I 20) fun r18 =>
     iteP r18
      (x1k)
      (binP .add q14 (I 1) fun r19 =>
      K [q12, q13, r19]))) [v0, v1, v2, (atP c2 0), (I 0)])
   (x2k v0 v1 v2)) v
def Qel : GM
 | [.one a0], k => 
  lp (fun L w => Qel_r0 w L
   (rt [.sc] [(.bool false)] k)
   (rt [.sc] [(.bool false)] k)
   (fun q20 q21 q22 => lenP q20 fun r23 =>
    binP .leq r23 (I 4) fun r24 =>
    rt [.sc] [r24] k)) [a0, (.bool false), (I 0)]
 | _, _ => False
abbrev Qel_e : Ent := ⟨[54], Qel⟩
def Qel_l : List LE := [⟨1, ⟨[(0, .one zB), (2, .one zB), (3, .one zB), (4, .one zB), (5, .one zB)], [], [], 0, 51⟩, fun K k v => Qel_r1 v K (k .ret ⟨[(2, .one (.kb false))], [], [], 1, 51⟩) (fun x0 x1 x2 x3 x4 => k (.exit 2) ⟨[(0, .one (.pv x0)), (2, .one (.pv x1)), (3, .one (.pv x2)), (4, .one (.pv x3)), (5, .one (.pv x4))], [], [], 0, 51⟩)⟩,
  ⟨0, ⟨[(0, .one zB), (2, .one zB), (3, .one zB)], [], [], 0, 51⟩, fun K k v => Qel_r0 v K (k .ret ⟨[(2, .one (.kb false))], [], [], 1, 51⟩) (k .ret ⟨[(2, .one (.kb false))], [], [], 0, 51⟩) (fun x0 x1 x2 => k (.exit 0) ⟨[(0, .one (.pv x0)), (2, .one (.pv x1)), (3, .one (.pv x2))], [], [], 0, 51⟩)⟩]
theorem Qel_s : LEsOK (orac [Qcf_e]) TT (kk [0, 2, 3, 4, 5, 30, 31, 32, 33, 34, 35, 36, 37, 38, 39, 40, 41, 42, 43]) (sumsOf Qel_l) Tryz.f54 Qel_l := ⟨fun v K k h => by
  apply un_all h; exact fun v0 v1 v2 v3 v4 h => Eq.mpr (by kernel_rfl) h
  , fun v K k h => by
  apply un_all h; exact fun v0 v1 v2 h => Eq.mpr (by kernel_rfl) h
  , trivial⟩
theorem Qel_w : EntOK Tryz.prog TT Qel_e := ent_ok tabok (L := [Qcf_e]) ⟨Qcf_w, trivial⟩ (keep := (kk [0, 2, 3, 4, 5, 30, 31, 32, 33, 34, 35, 36, 37, 38, 39, 40, 41, 42, 43])) (l := Qel_l) Tryz.func54 (by kernel_rfl) (sg := [.one (.sc)]) (by kernel_rfl) Qel_s fun av k h => by
  unfold Qel at h; split at h
  · exact Eq.mpr (by kernel_rfl) h
  · exact h.elim
def Qem : GM
 | [.agg u0], k => un 2 (fun a0 a1 => 
  call Qdh [.one a0] fun o0 =>
  call Qdy [.agg [a0, a1]] fun o1 =>
  unP .not (atP o1 0) fun r2 =>
  iteP r2
   (rt [.sc] [(I (-1))] k)
   (rt [.sc] [(atP o0 0)] k)) u0
 | _, _ => False
abbrev Qem_e : Ent := ⟨[109], Qem⟩
theorem Qem_w : EntOK Tryz.prog TT Qem_e := ent_ok tabok (L := [Qdh_e, Qdy_e]) ⟨Qdh_w, Qdy_w, trivial⟩ (keep := []) (l := []) Tryz.func109 (by kernel_rfl) (sg := [.one (.sc)]) (by kernel_rfl) trivial fun av k h => by
  unfold Qem at h; split at h
  · apply un_all h; clear h; intro a0 a1 h; exact Eq.mpr (by kernel_rfl) h
  · exact h.elim
def Qen_r1 (v : List PV) (K : List PV → Prop) (x0k : Prop) (x1k : PV → PV → PV → PV → Prop) : Prop :=
 un 4 (fun v0 v1 v2 v3 =>
  binP .lss v3 v2 fun r0 =>
  iteP r0
   (elemP 2 v0 v3 fun c1 =>
   call Qem [.agg [(atP c1 0), (atP c1 1)]] fun o2 =>
   elemP 2 v0 v2 fun c3 =>
   call Qem [.agg [(atP c3 0), (atP c3 1)]] fun o4 =>
   binP .eql (atP o2 0) (atP o4 0) fun r5 =>
   iteP r5
    (x0k)
    (binP .add v3 (I 1) fun r6 =>
    K [v0, v1, v2, r6]))
   (x1k v0 v1 v2 v3)) v
def Qen_r0 (v : List PV) (K : List PV → Prop) (x0k : Prop) (x1k : Prop) (x2k : PV → PV → PV → Prop) : Prop :=
 un 3 (fun v0 v1 v2 =>
  lenP v0 fun r0 =>
  binP .lss v2 r0 fun r1 =>
  iteP r1
   (elemP 2 v0 v2 fun c2 =>
   call Qdy [.agg [(atP c2 0), (atP c2 1)]] fun o3 =>
   unP .not (atP o3 0) fun r4 =>
   iteP r4
    (x0k)
    (lp (fun L w => Qen_r1 w L
     (x1k)
     (fun q7 q8 q9 q10 => binP .add q9 (I 1) fun r11 =>
      K [q7, q8, r11])) [v0, v1, v2, (I 0)]))
   (x2k v0 v1 v2)) v
def Qen : GM
 | [.one a0], k => 
  lp (fun L w => Qen_r0 w L
   (rt [.sc] [(.bool false)] k)
   (rt [.sc] [(.bool false)] k)
   (fun q12 q13 q14 => lenP q12 fun r15 =>
    binP .leq r15 (I 8) fun r16 =>
    rt [.sc] [r16] k)) [a0, (.bool false), (I 0)]
 | _, _ => False
abbrev Qen_e : Ent := ⟨[55], Qen⟩
def Qen_l : List LE := [⟨1, ⟨[(0, .one zB), (2, .one zB), (3, .one zB), (4, .one zB)], [], [], 1, 36⟩, fun K k v => Qen_r1 v K (k .ret ⟨[(2, .one (.kb false))], [], [], 3, 36⟩) (fun x0 x1 x2 x3 => k (.exit 2) ⟨[(0, .one (.pv x0)), (2, .one (.pv x1)), (3, .one (.pv x2)), (4, .one (.pv x3))], [], [], 1, 36⟩)⟩,
  ⟨0, ⟨[(0, .one zB), (2, .one zB), (3, .one zB)], [], [], 0, 36⟩, fun K k v => Qen_r0 v K (k .ret ⟨[(2, .one (.kb false))], [], [], 1, 36⟩) (k .ret ⟨[(2, .one (.kb false))], [], [], 3, 36⟩) (fun x0 x1 x2 => k (.exit 0) ⟨[(0, .one (.pv x0)), (2, .one (.pv x1)), (3, .one (.pv x2))], [], [], 0, 36⟩)⟩]
theorem Qen_s : LEsOK (orac [Qdy_e, Qem_e]) TT (kk [0, 2, 3, 4]) (sumsOf Qen_l) Tryz.f55 Qen_l := ⟨fun v K k h => by
  apply un_all h; exact fun v0 v1 v2 v3 h => Eq.mpr (by kernel_rfl) h
  , fun v K k h => by
  apply un_all h; exact fun v0 v1 v2 h => Eq.mpr (by kernel_rfl) h
  , trivial⟩
theorem Qen_w : EntOK Tryz.prog TT Qen_e := ent_ok tabok (L := [Qdy_e, Qem_e]) ⟨Qdy_w, Qem_w, trivial⟩ (keep := (kk [0, 2, 3, 4])) (l := Qen_l) Tryz.func55 (by kernel_rfl) (sg := [.one (.sc)]) (by kernel_rfl) Qen_s fun av k h => by
  unfold Qen at h; split at h
  · exact Eq.mpr (by kernel_rfl) h
  · exact h.elim
def Qeo_r0 (v : List PV) (K : List PV → Prop) (x0k : PV → PV → PV → Prop) (x1k : PV → PV → PV → PV → PV → Prop) : Prop :=
 un 5 (fun v0 v1 v2 v3 v4 =>
  lenP v3 fun r0 =>
  binP .lss v2 r0 fun r1 =>
  iteP r1
   (elemP 1 v3 v2 fun c2 =>
   lenP (atP c2 0) fun r3 =>
   binP .gtr r3 (I 0) fun r4 =>
   iteP r4
    (elemP 1 v3 v2 fun c5 =>
    elemP 17 (atP c5 0) (I 0) fun c6 =>
    binP .eql (atP c6 0) v0 fun r7 =>
    iteP r7
     (x0k v2 v3 v4)
     (binP .add v2 (I 1) fun r8 =>
     K [v0, v1, r8, v3, v4]))
    (binP .add v2 (I 1) fun r9 =>
    K [v0, v1, r9, v3, v4]))
   (x1k v0 v1 v2 v3 v4)) v
def Qeo : GM
 | [.agg u0, .one a2], k => un 2 (fun a0 a1 => 
  lp (fun L w => Qeo_r0 w L
   (fun q10 q11 q12 => rt [.sc] [q10] k)
   (fun q13 q14 q15 q16 q17 => rt [.sc] [(I (-1))] k)) [a2, (I 0), (I 0), a0, a1]) u0
 | _, _ => False
abbrev Qeo_e : Ent := ⟨[111], Qeo⟩
def Qeo_l : List LE := [⟨0, ⟨[(1, .one zB), (2, .one (.ptr 0 0)), (4, .one zB), (5, .one zB)], [(0, [zB, zB])], [], 1, 34⟩, fun K k v => Qeo_r0 v K (fun x0 x1 x2 => k .ret ⟨[(4, .one (.pv x0))], [(0, [.pv x1, .pv x2])], [], 1, 34⟩) (fun x0 x1 x2 x3 x4 => k (.exit 0) ⟨[(1, .one (.pv x0)), (2, .one (.ptr 0 0)), (4, .one (.pv x1)), (5, .one (.pv x2))], [(0, [.pv x3, .pv x4])], [], 1, 34⟩)⟩]
theorem Qeo_s : LEsOK (orac []) TT (kk [1, 2, 4, 5, 21, 22, 23, 24, 25, 26, 27, 28, 29, 30, 31]) (sumsOf Qeo_l) Tryz.f111 Qeo_l := ⟨fun v K k h => by
  apply un_all h; exact fun v0 v1 v2 v3 v4 h => Eq.mpr (by kernel_rfl) h
  , trivial⟩
theorem Qeo_w : EntOK Tryz.prog TT Qeo_e := ent_ok tabok (L := []) trivial (keep := (kk [1, 2, 4, 5, 21, 22, 23, 24, 25, 26, 27, 28, 29, 30, 31])) (l := Qeo_l) Tryz.func111 (by kernel_rfl) (sg := [.one (.sc)]) (by kernel_rfl) Qeo_s fun av k h => by
  unfold Qeo at h; split at h
  · apply un_all h; clear h; intro a0 a1 h; exact Eq.mpr (by kernel_rfl) h
  · exact h.elim
def Qep_r0 (v : List PV) (K : List PV → Prop) (x0k : PV → PV → PV → PV → PV → PV → PV → PV → PV → PV → PV → PV → PV → PV → PV → PV → PV → PV → PV → PV → PV → PV → PV → PV → PV → PV → PV → PV → PV → PV → PV → PV → PV → PV → Prop) (x1k : PV → PV → PV → PV → PV → PV → PV → PV → PV → PV → PV → PV → PV → PV → PV → PV → PV → PV → PV → PV → PV → PV → PV → PV → PV → PV → PV → PV → PV → PV → PV → PV → PV → PV → PV → PV → Prop) : Prop :=
 un 36 (fun v0 v1 v2 v3 v4 v5 v6 v7 v8 v9 v10 v11 v12 v13 v14 v15 v16 v17 v18 v19 v20 v21 v22 v23 v24 v25 v26 v27 v28 v29 v30 v31 v32 v33 v34 v35 =>
  lenP v35 fun r0 =>
  binP .lss v1 r0 fun r1 =>
  iteP r1
   (elemP 2 v35 v1 fun c2 =>
   elemP 2 v18 v1 fun c3 =>
   (kindsP [.pv (I 0), .pv (I 0)] [(atP c2 0), (atP c2 1)]) ∧ (kindsP [.pv (I 0), .pv (I 0)] [(atP c3 0), (atP c3 1)]) ∧ aggP .neq [(atP c2 0), (atP c2 1)] [(atP c3 0), (atP c3 1)] fun r4 =>
   iteP r4
    (x0k v2 v3 v4 v5 v6 v7 v8 v9 v10 v11 v12 v13 v14 v15 v16 v17 v18 v19 v20 v21 v22 v23 v24 v25 v26 v27 v28 v29 v30 v31 v32 v33 v34 v35)
    (binP .add v1 (I 1) fun r5 =>
    K [v0, r5, v2, v3, v4, v5, v6, v7, v8, v9, v10, v11, v12, v13, v14, v15, v16, v17, v18, v19, v20, v21, v22, v23, v24, v25, v26, v27, v28, v29, v30, v31, v32, v33, v34, v35]))
   (x1k v0 v1 v2 v3 v4 v5 v6 v7 v8 v9 v10 v11 v12 v13 v14 v15 v16 v17 v18 v19 v20 v21 v22 v23 v24 v25 v26 v27 v28 v29 v30 v31 v32 v33 v34 v35)) v
def Qep : GM
 | [.agg u0, .agg u1], k => un 17 (fun a0 a1 a2 a3 a4 a5 a6 a7 a8 a9 a10 a11 a12 a13 a14 a15 a16 => un 17 (fun a17 a18 a19 a20 a21 a22 a23 a24 a25 a26 a27 a28 a29 a30 a31 a32 a33 => 
  call Qee [.agg [a0, a1, a2, a3, a4, a5, a6, a7, a8, a9, a10, a11, a12, a13, a14, a15], .agg [a17, a18, a19, a20, a21, a22, a23, a24, a25, a26, a27, a28, a29, a30, a31, a32]] fun o0 =>
  unP .not (atP o0 0) fun r1 =>
  iteP r1
   (rt [.sc] [(.bool false)] k)
   (lenP a16 fun r2 =>
   lenP a33 fun r3 =>
   binP .neq r2 r3 fun r4 =>
   iteP r4
    (rt [.sc] [(.bool false)] k)
    (lp (fun L w => Qep_r0 w L
     (fun q6 q7 q8 q9 q10 q11 q12 q13 q14 q15 q16 q17 q18 q19 q20 q21 q22 q23 q24 q25 q26 q27 q28 q29 q30 q31 q32 q33 q34 q35 q36 q37 q38 q39 => rt [.sc] [(.bool false)] k)
     (fun q40 q41 q42 q43 q44 q45 q46 q47 q48 q49 q50 q51 q52 q53 q54 q55 q56 q57 q58 q59 q60 q61 q62 q63 q64 q65 q66 q67 q68 q69 q70 q71 q72 q73 q74 q75 => rt [.sc] [(.bool true)] k)) [(.bool false), (I 0), a17, a18, a19, a20, a21, a22, a23, a24, a25, a26, a27, a28, a29, a30, a31, a32, a33, a0, a1, a2, a3, a4, a5, a6, a7, a8, a9, a10, a11, a12, a13, a14, a15, a16]))) u1) u0
 | _, _ => False
abbrev Qep_e : Ent := ⟨[59], Qep⟩
def Qep_l : List LE := [⟨0, ⟨[(2, .one (.ptr 0 0)), (3, .one (.ptr 1 0)), (4, .one zB), (5, .one zB)], [(1, [zB, zB, zB, zB, zB, zB, zB, zB, zB, zB, zB, zB, zB, zB, zB, zB, zB]), (0, [zB, zB, zB, zB, zB, zB, zB, zB, zB, zB, zB, zB, zB, zB, zB, zB, zB])], [], 3, 39⟩, fun K k v => Qep_r0 v K (fun x0 x1 x2 x3 x4 x5 x6 x7 x8 x9 x10 x11 x12 x13 x14 x15 x16 x17 x18 x19 x20 x21 x22 x23 x24 x25 x26 x27 x28 x29 x30 x31 x32 x33 => k .ret ⟨[(4, .one (.kb false))], [(1, [.pv x0, .pv x1, .pv x2, .pv x3, .pv x4, .pv x5, .pv x6, .pv x7, .pv x8, .pv x9, .pv x10, .pv x11, .pv x12, .pv x13, .pv x14, .pv x15, .pv x16]), (0, [.pv x17, .pv x18, .pv x19, .pv x20, .pv x21, .pv x22, .pv x23, .pv x24, .pv x25, .pv x26, .pv x27, .pv x28, .pv x29, .pv x30, .pv x31, .pv x32, .pv x33])], [], 3, 39⟩) (fun x0 x1 x2 x3 x4 x5 x6 x7 x8 x9 x10 x11 x12 x13 x14 x15 x16 x17 x18 x19 x20 x21 x22 x23 x24 x25 x26 x27 x28 x29 x30 x31 x32 x33 x34 x35 => k (.exit 0) ⟨[(2, .one (.ptr 0 0)), (3, .one (.ptr 1 0)), (4, .one (.pv x0)), (5, .one (.pv x1))], [(1, [.pv x2, .pv x3, .pv x4, .pv x5, .pv x6, .pv x7, .pv x8, .pv x9, .pv x10, .pv x11, .pv x12, .pv x13, .pv x14, .pv x15, .pv x16, .pv x17, .pv x18]), (0, [.pv x19, .pv x20, .pv x21, .pv x22, .pv x23, .pv x24, .pv x25, .pv x26, .pv x27, .pv x28, .pv x29, .pv x30, .pv x31, .pv x32, .pv x33, .pv x34, .pv x35])], [], 3, 39⟩)⟩]
theorem Qep_s : LEsOK (orac [Qee_e]) TT (kk [2, 3, 4, 5]) (sumsOf Qep_l) Tryz.f59 Qep_l := ⟨fun v K k h => by
  apply un_all h; exact fun v0 v1 v2 v3 v4 v5 v6 v7 v8 v9 v10 v11 v12 v13 v14 v15 v16 v17 v18 v19 v20 v21 v22 v23 v24 v25 v26 v27 v28 v29 v30 v31 v32 v33 v34 v35 h => Eq.mpr (by kernel_rfl) h
  , trivial⟩
theorem Qep_w : EntOK Tryz.prog TT Qep_e := ent_ok tabok (L := [Qee_e]) ⟨Qee_w, trivial⟩ (keep := (kk [2, 3, 4, 5])) (l := Qep_l) Tryz.func59 (by kernel_rfl) (sg := [.one (.sc)]) (by kernel_rfl) Qep_s fun av k h => by
  unfold Qep at h; split at h
  · apply un_all h; clear h; intro a0 a1 a2 a3 a4 a5 a6 a7 a8 a9 a10 a11 a12 a13 a14 a15 a16 h; apply un_all h; clear h; intro a17 a18 a19 a20 a21 a22 a23 a24 a25 a26 a27 a28 a29 a30 a31 a32 a33 h; exact Eq.mpr (by kernel_rfl) h
  · exact h.elim
def Qeq : GM
 | [.agg u0], k => un 51 (fun a0 a1 a2 a3 a4 a5 a6 a7 a8 a9 a10 a11 a12 a13 a14 a15 a16 a17 a18 a19 a20 a21 a22 a23 a24 a25 a26 a27 a28 a29 a30 a31 a32 a33 a34 a35 a36 a37 a38 a39 a40 a41 a42 a43 a44 a45 a46 a47 a48 a49 a50 => 
  call Qee [.agg [a17, a18, a19, a20, a21, a22, a23, a24, a25, a26, a27, a28, a29, a30, a31, a32], .agg [a34, a35, a36, a37, a38, a39, a40, a41, a42, a43, a44, a45, a46, a47, a48, a49]] fun o0 =>
  iteP (atP o0 0)
   (rt [.sc] [(.bool false)] k)
   (call Qep [.agg [a0, a1, a2, a3, a4, a5, a6, a7, a8, a9, a10, a11, a12, a13, a14, a15, a16], .agg [(I 0), (I 0), (I 0), (I 0), (I 0), (I 0), (I 0), (I 0), (.list 1 []), (I 0), (.list 1 []), (I 0), (I 0), (.list 1 []), (I 0), (.bool false), (.list 2 [])]] fun o1 =>
   iteP (atP o1 0)
    (call Qct [.agg [a17, a18, a19, a20, a21, a22, a23, a24, a25, a26, a27, a28, a29, a30, a31, a32, a33]] fun o2 =>
    iteP (atP o2 0)
     (call Qct [.agg [a34, a35, a36, a37, a38, a39, a40, a41, a42, a43, a44, a45, a46, a47, a48, a49, a50]] fun o3 =>
     iteP (atP o3 0)
      (binP .eql a17 a34 fun r4 =>
      rt [.sc] [r4] k)
      (rt [.sc] [(.bool false)] k))
     (rt [.sc] [(.bool false)] k))
    (call Qdc [.agg [a0, a1, a2, a3, a4, a5, a6, a7, a8, a9, a10, a11, a12, a13, a14, a15], .agg [a17, a18, a19, a20, a21, a22, a23, a24, a25, a26, a27, a28, a29, a30, a31, a32, a33]] fun o5 =>
    iteP (atP o5 0)
     (call Qdc [.agg [a0, a1, a2, a3, a4, a5, a6, a7, a8, a9, a10, a11, a12, a13, a14, a15], .agg [a34, a35, a36, a37, a38, a39, a40, a41, a42, a43, a44, a45, a46, a47, a48, a49, a50]] fun o6 =>
     rt [.sc] [(atP o6 0)] k)
     (rt [.sc] [(.bool false)] k)))) u0
 | _, _ => False
abbrev Qeq_e : Ent := ⟨[112], Qeq⟩
theorem Qeq_w : EntOK Tryz.prog TT Qeq_e := ent_ok tabok (L := [Qee_e, Qep_e, Qct_e, Qdc_e]) ⟨Qee_w, Qep_w, Qct_w, Qdc_w, trivial⟩ (keep := []) (l := []) Tryz.func112 (by kernel_rfl) (sg := [.one (.sc)]) (by kernel_rfl) trivial fun av k h => by
  unfold Qeq at h; split at h
  · apply un_all h; clear h; intro a0 a1 a2 a3 a4 a5 a6 a7 a8 a9 a10 a11 a12 a13 a14 a15 a16 a17 a18 a19 a20 a21 a22 a23 a24 a25 a26 a27 a28 a29 a30 a31 a32 a33 a34 a35 a36 a37 a38 a39 a40 a41 a42 a43 a44 a45 a46 a47 a48 a49 a50 h; exact Eq.mpr (by kernel_rfl) h
  · exact h.elim
def Qer_r0 (v : List PV) (K : List PV → Prop) (x0k : PV → PV → Prop) (x1k : PV → PV → Prop) (x2k : PV → PV → PV → PV → Prop) : Prop :=
 un 4 (fun v0 v1 v2 v3 =>
  lenP v2 fun r0 =>
  binP .lss v1 r0 fun r1 =>
  iteP r1
   (elemP 1 v2 v1 fun c2 =>
   call Qde [.one (atP c2 0)] fun o3 =>
   unP .not (atP o3 0) fun r4 =>
   iteP r4
    (x0k v2 v3)
    (elemP 1 v2 v1 fun c5 =>
    elemP 17 (atP c5 0) (I 0) fun c6 =>
    call Qeo [.agg [v2, v3], .one (atP c6 0)] fun o7 =>
    binP .neq (atP o7 0) v1 fun r8 =>
    iteP r8
     (x1k v2 v3)
     (binP .add v1 (I 1) fun r9 =>
     K [v0, r9, v2, v3])))
   (x2k v0 v1 v2 v3)) v
def Qer_r1 (v : List PV) (K : List PV → Prop) (x0k : PV → PV → Prop) (x1k : PV → PV → PV → PV → PV → Prop) : Prop :=
 un 5 (fun v0 v1 v2 v3 v4 =>
  lenP v4 fun r0 =>
  binP .lss v2 r0 fun r1 =>
  iteP r1
   (elemP 51 v4 v2 fun c2 =>
   call Qeq [.agg [(atP c2 0), (atP c2 1), (atP c2 2), (atP c2 3), (atP c2 4), (atP c2 5), (atP c2 6), (atP c2 7), (atP c2 8), (atP c2 9), (atP c2 10), (atP c2 11), (atP c2 12), (atP c2 13), (atP c2 14), (atP c2 15), (atP c2 16), (atP c2 17), (atP c2 18), (atP c2 19), (atP c2 20), (atP c2 21), (atP c2 22), (atP c2 23), (atP c2 24), (atP c2 25), (atP c2 26), (atP c2 27), (atP c2 28), (atP c2 29), (atP c2 30), (atP c2 31), (atP c2 32), (atP c2 33), (atP c2 34), (atP c2 35), (atP c2 36), (atP c2 37), (atP c2 38), (atP c2 39), (atP c2 40), (atP c2 41), (atP c2 42), (atP c2 43), (atP c2 44), (atP c2 45), (atP c2 46), (atP c2 47), (atP c2 48), (atP c2 49), (atP c2 50)]] fun o3 =>
   unP .not (atP o3 0) fun r4 =>
   iteP r4
    (x0k v3 v4)
    (binP .add v2 (I 1) fun r5 =>
    K [v0, v1, r5, v3, v4]))
   (x1k v0 v1 v2 v3 v4)) v
def Qer : GM
 | [.agg u0], k => un 2 (fun a0 a1 => 
  lp (fun L w => Qer_r0 w L
   (fun q10 q11 => rt [.sc] [(.bool false)] k)
   (fun q12 q13 => rt [.sc] [(.bool false)] k)
   (fun q14 q15 q16 q17 => lp (fun L w => Qer_r1 w L
     (fun q18 q19 => rt [.sc] [(.bool false)] k)
     (fun q20 q21 q22 q23 q24 => lenP q23 fun r25 =>
      binP .leq r25 (I 8) fun r26 =>
      iteP r26
       (lenP q24 fun r27 =>
       binP .leq r27 (I 8) fun r28 =>
       rt [.sc] [r28] k)
       (rt [.sc] [(.bool false)] k))) [q14, q15, (I 0), q16, q17])) [(.bool false), (I 0), a0, a1]) u0
 | _, _ => False
abbrev Qer_e : Ent := ⟨[56], Qer⟩
def Qer_l : List LE := [⟨0, ⟨[(1, .one (.ptr 0 0)), (2, .one zB), (3, .one zB)], [(0, [zB, zB])], [], 1, 58⟩, fun K k v => Qer_r0 v K (fun x0 x1 => k .ret ⟨[(2, .one (.kb false))], [(0, [.pv x0, .pv x1])], [], 2, 58⟩) (fun x0 x1 => k .ret ⟨[(2, .one (.kb false))], [(0, [.pv x0, .pv x1])], [], 3, 58⟩) (fun x0 x1 x2 x3 => k (.exit 0) ⟨[(1, .one (.ptr 0 0)), (2, .one (.pv x0)), (3, .one (.pv x1))], [(0, [.pv x2, .pv x3])], [], 1, 58⟩)⟩,
  ⟨1, ⟨[(1, .one (.ptr 0 0)), (2, .one zB), (3, .one zB), (4, .one zB)], [(0, [zB, zB])], [], 1, 58⟩, fun K k v => Qer_r1 v K (fun x0 x1 => k .ret ⟨[(2, .one (.kb false))], [(0, [.pv x0, .pv x1])], [], 2, 58⟩) (fun x0 x1 x2 x3 x4 => k (.exit 2) ⟨[(1, .one (.ptr 0 0)), (2, .one (.pv x0)), (3, .one (.pv x1)), (4, .one (.pv x2))], [(0, [.pv x3, .pv x4])], [], 1, 58⟩)⟩]
theorem Qer_s : LEsOK (orac [Qde_e, Qeo_e, Qeq_e]) TT (kk [1, 2, 3, 4, 20, 21, 22, 23, 24, 25, 26, 27, 28, 29, 30, 31, 32, 53, 54, 55, 56]) (sumsOf Qer_l) Tryz.f56 Qer_l := ⟨fun v K k h => by
  apply un_all h; exact fun v0 v1 v2 v3 h => Eq.mpr (by kernel_rfl) h
  , fun v K k h => by
  apply un_all h; exact fun v0 v1 v2 v3 v4 h => Eq.mpr (by kernel_rfl) h
  , trivial⟩
theorem Qer_w : EntOK Tryz.prog TT Qer_e := ent_ok tabok (L := [Qde_e, Qeo_e, Qeq_e]) ⟨Qde_w, Qeo_w, Qeq_w, trivial⟩ (keep := (kk [1, 2, 3, 4, 20, 21, 22, 23, 24, 25, 26, 27, 28, 29, 30, 31, 32, 53, 54, 55, 56])) (l := Qer_l) Tryz.func56 (by kernel_rfl) (sg := [.one (.sc)]) (by kernel_rfl) Qer_s fun av k h => by
  unfold Qer at h; split at h
  · apply un_all h; clear h; intro a0 a1 h; exact Eq.mpr (by kernel_rfl) h
  · exact h.elim
def Qes_r0 (v : List PV) (K : List PV → Prop) (x0k : PV → PV → Prop) (x1k : PV → PV → PV → PV → PV → Prop) : Prop :=
 un 5 (fun v0 v1 v2 v3 v4 =>
  lenP v4 fun r0 =>
  binP .lss v3 r0 fun r1 =>
  iteP r1
   (elemP 23 v4 v3 fun c2 =>
   binP .eql (atP c2 0) v0 fun r3 =>
   iteP r3
    (elemP 23 v4 v3 fun c4 =>
    binP .eql (atP c4 1) v1 fun r5 =>
    iteP r5
     (x0k v3 v4)
     (binP .add v3 (I 1) fun r6 =>
     K [v0, v1, v2, r6, v4]))
    (binP .add v3 (I 1) fun r7 =>
    K [v0, v1, v2, r7, v4]))
   (x1k v0 v1 v2 v3 v4)) v
def Qes : GM
 | [.agg u0, .one a1, .one a2], k => un 1 (fun a0 => 
  lp (fun L w => Qes_r0 w L
   (fun q8 q9 => rt [.sc] [q8] k)
   (fun q10 q11 q12 q13 q14 => rt [.sc] [(I (-1))] k)) [a1, a2, (I 0), (I 0), a0]) u0
 | _, _ => False
abbrev Qes_e : Ent := ⟨[113], Qes⟩
def Qes_l : List LE := [⟨0, ⟨[(1, .one zB), (2, .one zB), (3, .one (.ptr 0 0)), (6, .one zB), (7, .one zB)], [(0, [zB])], [], 1, 34⟩, fun K k v => Qes_r0 v K (fun x0 x1 => k .ret ⟨[(6, .one (.pv x0))], [(0, [.pv x1])], [], 1, 34⟩) (fun x0 x1 x2 x3 x4 => k (.exit 0) ⟨[(1, .one (.pv x0)), (2, .one (.pv x1)), (3, .one (.ptr 0 0)), (6, .one (.pv x2)), (7, .one (.pv x3))], [(0, [.pv x4])], [], 1, 34⟩)⟩]
theorem Qes_s : LEsOK (orac []) TT (kk [1, 2, 3, 6, 7, 24, 25, 26, 27, 28, 29, 30, 31]) (sumsOf Qes_l) Tryz.f113 Qes_l := ⟨fun v K k h => by
  apply un_all h; exact fun v0 v1 v2 v3 v4 h => Eq.mpr (by kernel_rfl) h
  , trivial⟩
theorem Qes_w : EntOK Tryz.prog TT Qes_e := ent_ok tabok (L := []) trivial (keep := (kk [1, 2, 3, 6, 7, 24, 25, 26, 27, 28, 29, 30, 31])) (l := Qes_l) Tryz.func113 (by kernel_rfl) (sg := [.one (.sc)]) (by kernel_rfl) Qes_s fun av k h => by
  unfold Qes at h; split at h
  · apply un_all h; clear h; intro a0 h; exact Eq.mpr (by kernel_rfl) h
  · exact h.elim
def Qet : GM
 | [.agg u0, .one a16], k => un 16 (fun a0 a1 a2 a3 a4 a5 a6 a7 a8 a9 a10 a11 a12 a13 a14 a15 => 
  call Qcf [.one a16, .one a3, .one a4] fun o0 =>
  rt [.sc] [(atP o0 0)] k) u0
 | _, _ => False
abbrev Qet_e : Ent := ⟨[168], Qet⟩
theorem Qet_w : EntOK Tryz.prog TT Qet_e := ent_ok tabok (L := [Qcf_e]) ⟨Qcf_w, trivial⟩ (keep := []) (l := []) Tryz.func168 (by kernel_rfl) (sg := [.one (.sc)]) (by kernel_rfl) trivial fun av k h => by
  unfold Qet at h; split at h
  · apply un_all h; clear h; intro a0 a1 a2 a3 a4 a5 a6 a7 a8 a9 a10 a11 a12 a13 a14 a15 h; exact Eq.mpr (by kernel_rfl) h
  · exact h.elim
def Qeu_r0 (v : List PV) (K : List PV → Prop) (x0k : Prop) (x1k : PV → PV → PV → PV → PV → PV → PV → Prop) : Prop :=
 un 7 (fun v0 v1 v2 v3 v4 v5 v6 =>
  binP .gtr v2 (I 1) fun r0 =>
  iteP r0
   (binP .rem v1 (I 2) fun r1 =>
   binP .eql r1 (I 1) fun r2 =>
   iteP r2
    (lenP v3 fun r3 =>
    binP .geq v6 r3 fun r4 =>
    iteP r4
     (x0k)
     (binP .rem v1 (I 2) fun r5 =>
     binP .eql r5 (I 1) fun r6 =>
     iteP r6
      (elemP 1 v3 v6 fun c7 =>
      call Qds [.one (atP c7 0), .one v0] fun o8 =>
      binP .add v6 (I 1) fun r9 =>
      binP .quo v1 (I 2) fun r10 =>
      binP .add v2 (I 1) fun r11 =>
      binP .quo r11 (I 2) fun r12 =>
      K [(atP o8 0), r10, r12, v3, v4, v5, r9])
      (elemP 1 v3 v6 fun c13 =>
      call Qds [.one v0, .one (atP c13 0)] fun o14 =>
      binP .add v6 (I 1) fun r15 =>
      binP .quo v1 (I 2) fun r16 =>
      binP .add v2 (I 1) fun r17 =>
      binP .quo r17 (I 2) fun r18 =>
      K [(atP o14 0), r16, r18, v3, v4, v5, r15])))
    (binP .add v1 (I 1) fun r19 =>
    binP .lss r19 v2 fun r20 =>
    iteP r20
     (lenP v3 fun r21 =>
     binP .geq v6 r21 fun r22 =>
     iteP r22
      (x0k)
      (binP .rem v1 (I 2) fun r23 =>
      binP .eql r23 (I 1) fun r24 =>
      iteP r24
       (elemP 1 v3 v6 fun c25 =>
       call Qds [.one (atP c25 0), .one v0] fun o26 =>
       binP .add v6 (I 1) fun r27 =>
       binP .quo v1 (I 2) fun r28 =>
       binP .add v2 (I 1) fun r29 =>
       binP .quo r29 (I 2) fun r30 =>
       K [(atP o26 0), r28, r30, v3, v4, v5, r27])
       (elemP 1 v3 v6 fun c31 =>
       call Qds [.one v0, .one (atP c31 0)] fun o32 =>
       binP .add v6 (I 1) fun r33 =>
       binP .quo v1 (I 2) fun r34 =>
       binP .add v2 (I 1) fun r35 =>
       binP .quo r35 (I 2) fun r36 =>
       K [(atP o32 0), r34, r36, v3, v4, v5, r33])))
     (binP .quo v1 (I 2) fun r37 =>
     binP .add v2 (I 1) fun r38 =>
     binP .quo r38 (I 2) fun r39 =>
     K [v0, r37, r39, v3, v4, v5, v6])))
   (x1k v0 v1 v2 v3 v4 v5 v6)) v
def Qeu : GM
 | [.one a0, .one a1, .one a2, .one a3], k => 
  call Qcf [.one a2, .one (I 1), .one (I 12)] fun o0 =>
  unP .not (atP o0 0) fun r1 =>
  iteP r1
   (rt [.sc, .sc] [(I 0), (.bool false)] k)
   (binP .sub a2 (I 1) fun r2 =>
   call Qcf [.one a1, .one (I 0), .one r2] fun o3 =>
   unP .not (atP o3 0) fun r4 =>
   iteP r4
    (rt [.sc, .sc] [(I 0), (.bool false)] k)
    (lp (fun L w => Qeu_r0 w L
     (rt [.sc, .sc] [(I 0), (.bool false)] k)
     (fun q40 q41 q42 q43 q44 q45 q46 => lenP q43 fun r47 =>
      binP .neq q46 r47 fun r48 =>
      iteP r48
       (rt [.sc, .sc] [(I 0), (.bool false)] k)
       (rt [.sc, .sc] [q40, (.bool true)] k))) [a0, a1, a2, a3, (I 0), (.bool false), (I 0)]))
 | _, _ => False
abbrev Qeu_e : Ent := ⟨[263], Qeu⟩
def Qeu_l : List LE := [⟨0, ⟨[(0, .one zB), (1, .one zB), (2, .one zB), (3, .one zB), (8, .one zB), (9, .one zB), (10, .one zB)], [], [], 2, 63⟩, fun K k v => Qeu_r0 v K (k .ret ⟨[(8, .one (.pv (I 0))), (9, .one (.kb false))], [], [], 2, 63⟩) (fun x0 x1 x2 x3 x4 x5 x6 => k (.exit 0) ⟨[(0, .one (.pv x0)), (1, .one (.pv x1)), (2, .one (.pv x2)), (3, .one (.pv x3)), (8, .one (.pv x4)), (9, .one (.pv x5)), (10, .one (.pv x6))], [], [], 2, 63⟩)⟩]
theorem Qeu_s : LEsOK (orac [Qcf_e, Qds_e]) TT (kk [0, 1, 2, 3, 8, 9, 10, 27, 28, 29, 30]) (sumsOf Qeu_l) Tryz.f263 Qeu_l := ⟨fun v K k h => by
  apply un_all h; exact fun v0 v1 v2 v3 v4 v5 v6 h => Eq.mpr (by kernel_rfl) h
  , trivial⟩
theorem Qeu_w : EntOK Tryz.prog TT Qeu_e := ent_ok tabok (L := [Qcf_e, Qds_e]) ⟨Qcf_w, Qds_w, trivial⟩ (keep := (kk [0, 1, 2, 3, 8, 9, 10, 27, 28, 29, 30])) (l := Qeu_l) Tryz.func263 (by kernel_rfl) (sg := [.one (.sc), .one (.sc)]) (by kernel_rfl) Qeu_s fun av k h => by
  unfold Qeu at h; split at h
  · exact Eq.mpr (by kernel_rfl) h
  · exact h.elim
def Qev : GM
 | [.one a0, .one a1, .agg u0, .agg u1], k => un 4 (fun a2 a3 a4 a5 => un 2 (fun a6 a7 => 
  call Qdq [.agg [a2, a3, a4, a5]] fun o0 =>
  call Qeu [.one (atP o0 0), .one a6, .one a1, .one a7] fun o1 =>
  call Qdk [.agg [a2, a3, a4, a5]] fun o2 =>
  iteP (atP o2 0)
   (iteP (atP o1 1)
    (call Qdv [.one a1, .one (atP o1 0)] fun o3 =>
    binP .eql (atP o3 0) a0 fun r4 =>
    rt [.sc] [r4] k)
    (rt [.sc] [(.bool false)] k))
   (rt [.sc] [(.bool false)] k)) u1) u0
 | _, _ => False
abbrev Qev_e : Ent := ⟨[217], Qev⟩
theorem Qev_w : EntOK Tryz.prog TT Qev_e := ent_ok tabok (L := [Qdq_e, Qeu_e, Qdk_e, Qdv_e]) ⟨Qdq_w, Qeu_w, Qdk_w, Qdv_w, trivial⟩ (keep := []) (l := []) Tryz.func217 (by kernel_rfl) (sg := [.one (.sc)]) (by kernel_rfl) trivial fun av k h => by
  unfold Qev at h; split at h
  · apply un_all h; clear h; intro a2 a3 a4 a5 h; apply un_all h; clear h; intro a6 a7 h; exact Eq.mpr (by kernel_rfl) h
  · exact h.elim
def Qew : GM
 | [.agg u0, .agg u1], k => un 2 (fun a0 a1 => un 2 (fun a2 a3 => 
  binP .eql a0 a2 fun r0 =>
  iteP r0
   (call Qcw [.one a1, .one a3] fun o1 =>
   rt [.sc] [(atP o1 0)] k)
   (rt [.sc] [(.bool false)] k)) u1) u0
 | _, _ => False
abbrev Qew_e : Ent := ⟨[264], Qew⟩
theorem Qew_w : EntOK Tryz.prog TT Qew_e := ent_ok tabok (L := [Qcw_e]) ⟨Qcw_w, trivial⟩ (keep := []) (l := []) Tryz.func264 (by kernel_rfl) (sg := [.one (.sc)]) (by kernel_rfl) trivial fun av k h => by
  unfold Qew at h; split at h
  · apply un_all h; clear h; intro a0 a1 h; apply un_all h; clear h; intro a2 a3 h; exact Eq.mpr (by kernel_rfl) h
  · exact h.elim
def Qex : GM
 | [.agg u0, .agg u1], k => un 13 (fun a0 a1 a2 a3 a4 a5 a6 a7 a8 a9 a10 a11 a12 => un 13 (fun a13 a14 a15 a16 a17 a18 a19 a20 a21 a22 a23 a24 a25 => 
  binP .eql a0 a13 fun r0 =>
  iteP r0
   (call Qeh [.agg [a1, a2, a3, a4], .agg [a14, a15, a16, a17]] fun o1 =>
   iteP (atP o1 0)
    (call Qeh [.agg [a5, a6, a7, a8], .agg [a18, a19, a20, a21]] fun o2 =>
    iteP (atP o2 0)
     (call Qew [.agg [a9, a10], .agg [a22, a23]] fun o3 =>
     iteP (atP o3 0)
      (call Qew [.agg [a11, a12], .agg [a24, a25]] fun o4 =>
      rt [.sc] [(atP o4 0)] k)
      (rt [.sc] [(.bool false)] k))
     (rt [.sc] [(.bool false)] k))
    (rt [.sc] [(.bool false)] k))
   (rt [.sc] [(.bool false)] k)) u1) u0
 | _, _ => False
abbrev Qex_e : Ent := ⟨[218], Qex⟩
theorem Qex_w : EntOK Tryz.prog TT Qex_e := ent_ok tabok (L := [Qeh_e, Qew_e]) ⟨Qeh_w, Qew_w, trivial⟩ (keep := []) (l := []) Tryz.func218 (by kernel_rfl) (sg := [.one (.sc)]) (by kernel_rfl) trivial fun av k h => by
  unfold Qex at h; split at h
  · apply un_all h; clear h; intro a0 a1 a2 a3 a4 a5 a6 a7 a8 a9 a10 a11 a12 h; apply un_all h; clear h; intro a13 a14 a15 a16 a17 a18 a19 a20 a21 a22 a23 a24 a25 h; exact Eq.mpr (by kernel_rfl) h
  · exact h.elim
def Qey : GM
 | [.agg u0, .agg u1], k => un 4 (fun a0 a1 a2 a3 => un 2 (fun a4 a5 => 
  call Qeh [.agg [a0, a1, a2, a3], .agg [(.str ⟨#[]⟩), (I 0), (I 0), (.list 1 [])]] fun o0 =>
  iteP (atP o0 0)
   (call Qew [.agg [a4, a5], .agg [(I 0), (.list 1 [])]] fun o1 =>
   rt [.sc] [(atP o1 0)] k)
   (rt [.sc] [(.bool false)] k)) u1) u0
 | _, _ => False
abbrev Qey_e : Ent := ⟨[220], Qey⟩
theorem Qey_w : EntOK Tryz.prog TT Qey_e := ent_ok tabok (L := [Qeh_e, Qew_e]) ⟨Qeh_w, Qew_w, trivial⟩ (keep := []) (l := []) Tryz.func220 (by kernel_rfl) (sg := [.one (.sc)]) (by kernel_rfl) trivial fun av k h => by
  unfold Qey at h; split at h
  · apply un_all h; clear h; intro a0 a1 a2 a3 h; apply un_all h; clear h; intro a4 a5 h; exact Eq.mpr (by kernel_rfl) h
  · exact h.elim
def Qez : GM
 | [.one a0, .one a1, .one a2, .agg u0], k => un 13 (fun a3 a4 a5 a6 a7 a8 a9 a10 a11 a12 a13 a14 a15 => 
  call Qdi [.one a2] fun o0 =>
  unP .not (atP o0 0) fun r1 =>
  iteP r1
   (rt [.sc] [(.bool false)] k)
   (call Qcf [.one a3, .one (I 0), .one a1] fun o2 =>
   unP .not (atP o2 0) fun r3 =>
   iteP r3
    (rt [.sc] [(.bool false)] k)
    (binP .eql a1 (I 0) fun r4 =>
    iteP r4
     ((0 = 0) ∧ (0 ≤ 16777216) ∧ (4 = 4) ∧ call Qdw [.one (.list 4 [])] fun o5 =>
     binP .neq a0 (atP o5 0) fun r6 =>
     iteP r6
      (rt [.sc] [(.bool false)] k)
      (binP .eql a3 (I 0) fun r7 =>
      iteP r7
       (call Qey [.agg [a4, a5, a6, a7], .agg [a12, a13]] fun o8 =>
       unP .not (atP o8 0) fun r9 =>
       iteP r9
        (rt [.sc] [(.bool false)] k)
        (binP .eql a3 a1 fun r10 =>
        iteP r10
         (call Qey [.agg [a8, a9, a10, a11], .agg [a14, a15]] fun o11 =>
         rt [.sc] [(atP o11 0)] k)
         (call Qev [.one a0, .one a1, .agg [a8, a9, a10, a11], .agg [a14, a15]] fun o12 =>
         iteP (atP o12 0)
          (binP .eql a14 a3 fun r13 =>
          iteP r13
           (call Qdl [.one a8, .one a2] fun o14 =>
           binP .eql (atP o14 0) (I 1) fun r15 =>
           rt [.sc] [r15] k)
           (rt [.sc] [(.bool false)] k))
          (rt [.sc] [(.bool false)] k))))
       (call Qev [.one a0, .one a1, .agg [a4, a5, a6, a7], .agg [a12, a13]] fun o16 =>
       unP .not (atP o16 0) fun r17 =>
       iteP r17
        (rt [.sc] [(.bool false)] k)
        (binP .sub a3 (I 1) fun r18 =>
        binP .neq a12 r18 fun r19 =>
        iteP r19
         (rt [.sc] [(.bool false)] k)
         (call Qdl [.one a4, .one a2] fun o20 =>
         binP .neq (atP o20 0) (I (-1)) fun r21 =>
         iteP r21
          (rt [.sc] [(.bool false)] k)
          (binP .eql a3 a1 fun r22 =>
          iteP r22
           (call Qey [.agg [a8, a9, a10, a11], .agg [a14, a15]] fun o23 =>
           rt [.sc] [(atP o23 0)] k)
           (call Qev [.one a0, .one a1, .agg [a8, a9, a10, a11], .agg [a14, a15]] fun o24 =>
           iteP (atP o24 0)
            (binP .eql a14 a3 fun r25 =>
            iteP r25
             (call Qdl [.one a8, .one a2] fun o26 =>
             binP .eql (atP o26 0) (I 1) fun r27 =>
             rt [.sc] [r27] k)
             (rt [.sc] [(.bool false)] k))
            (rt [.sc] [(.bool false)] k))))))))
     (binP .eql a3 (I 0) fun r28 =>
     iteP r28
      (call Qey [.agg [a4, a5, a6, a7], .agg [a12, a13]] fun o29 =>
      unP .not (atP o29 0) fun r30 =>
      iteP r30
       (rt [.sc] [(.bool false)] k)
       (binP .eql a3 a1 fun r31 =>
       iteP r31
        (call Qey [.agg [a8, a9, a10, a11], .agg [a14, a15]] fun o32 =>
        rt [.sc] [(atP o32 0)] k)
        (call Qev [.one a0, .one a1, .agg [a8, a9, a10, a11], .agg [a14, a15]] fun o33 =>
        iteP (atP o33 0)
         (binP .eql a14 a3 fun r34 =>
         iteP r34
          (call Qdl [.one a8, .one a2] fun o35 =>
          binP .eql (atP o35 0) (I 1) fun r36 =>
          rt [.sc] [r36] k)
          (rt [.sc] [(.bool false)] k))
         (rt [.sc] [(.bool false)] k))))
      (call Qev [.one a0, .one a1, .agg [a4, a5, a6, a7], .agg [a12, a13]] fun o37 =>
      unP .not (atP o37 0) fun r38 =>
      iteP r38
       (rt [.sc] [(.bool false)] k)
       (binP .sub a3 (I 1) fun r39 =>
       binP .neq a12 r39 fun r40 =>
       iteP r40
        (rt [.sc] [(.bool false)] k)
        (call Qdl [.one a4, .one a2] fun o41 =>
        binP .neq (atP o41 0) (I (-1)) fun r42 =>
        iteP r42
         (rt [.sc] [(.bool false)] k)
         (binP .eql a3 a1 fun r43 =>
         iteP r43
          (call Qey [.agg [a8, a9, a10, a11], .agg [a14, a15]] fun o44 =>
          rt [.sc] [(atP o44 0)] k)
          (call Qev [.one a0, .one a1, .agg [a8, a9, a10, a11], .agg [a14, a15]] fun o45 =>
          iteP (atP o45 0)
           (binP .eql a14 a3 fun r46 =>
           iteP r46
            (call Qdl [.one a8, .one a2] fun o47 =>
            binP .eql (atP o47 0) (I 1) fun r48 =>
            rt [.sc] [r48] k)
            (rt [.sc] [(.bool false)] k))
           (rt [.sc] [(.bool false)] k)))))))))) u0
 | _, _ => False
abbrev Qez_e : Ent := ⟨[219], Qez⟩
theorem Qez_w : EntOK Tryz.prog TT Qez_e := ent_ok tabok (L := [Qdi_e, Qcf_e, Qdw_e, Qey_e, Qev_e, Qdl_e]) ⟨Qdi_w, Qcf_w, Qdw_w, Qey_w, Qev_w, Qdl_w, trivial⟩ (keep := []) (l := []) Tryz.func219 (by kernel_rfl) (sg := [.one (.sc)]) (by kernel_rfl) trivial fun av k h => by
  unfold Qez at h; split at h
  · apply un_all h; clear h; intro a3 a4 a5 a6 a7 a8 a9 a10 a11 a12 a13 a14 a15 h; exact Eq.mpr (by kernel_rfl) h
  · exact h.elim
def Qfa : GM
 | [.agg u0, .one a16, .agg u1], k => un 16 (fun a0 a1 a2 a3 a4 a5 a6 a7 a8 a9 a10 a11 a12 a13 a14 a15 => un 21 (fun a17 a18 a19 a20 a21 a22 a23 a24 a25 a26 a27 a28 a29 a30 a31 a32 a33 a34 a35 a36 a37 => 
  iteP a18
   (binP .eql a19 a16 fun r0 =>
   iteP r0
    (call Qev [.one a6, .one a5, .agg [a19, a20, a21, a22], .agg [a23, a24]] fun o1 =>
    iteP (atP o1 0)
     (call Qex [.agg [a25, a26, a27, a28, a29, a30, a31, a32, a33, a34, a35, a36, a37], .agg [(I 0), (.str ⟨#[]⟩), (I 0), (I 0), (.list 1 []), (.str ⟨#[]⟩), (I 0), (I 0), (.list 1 []), (I 0), (.list 1 []), (I 0), (.list 1 [])]] fun o2 =>
     rt [.sc] [(atP o2 0)] k)
     (rt [.sc] [(.bool false)] k))
    (rt [.sc] [(.bool false)] k))
   (call Qez [.one a6, .one a5, .one a16, .agg [a25, a26, a27, a28, a29, a30, a31, a32, a33, a34, a35, a36, a37]] fun o3 =>
   iteP (atP o3 0)
    (call Qey [.agg [a19, a20, a21, a22], .agg [a23, a24]] fun o4 =>
    rt [.sc] [(atP o4 0)] k)
    (rt [.sc] [(.bool false)] k))) u1) u0
 | _, _ => False
abbrev Qfa_e : Ent := ⟨[169], Qfa⟩
theorem Qfa_w : EntOK Tryz.prog TT Qfa_e := ent_ok tabok (L := [Qev_e, Qex_e, Qez_e, Qey_e]) ⟨Qev_w, Qex_w, Qez_w, Qey_w, trivial⟩ (keep := []) (l := []) Tryz.func169 (by kernel_rfl) (sg := [.one (.sc)]) (by kernel_rfl) trivial fun av k h => by
  unfold Qfa at h; split at h
  · apply un_all h; clear h; intro a0 a1 a2 a3 a4 a5 a6 a7 a8 a9 a10 a11 a12 a13 a14 a15 h; apply un_all h; clear h; intro a17 a18 a19 a20 a21 a22 a23 a24 a25 a26 a27 a28 a29 a30 a31 a32 a33 a34 a35 a36 a37 h; exact Eq.mpr (by kernel_rfl) h
  · exact h.elim
def Qfb : GM
 | [.one a0, .one a1, .agg u0, .one a23], k => un 21 (fun a2 a3 a4 a5 a6 a7 a8 a9 a10 a11 a12 a13 a14 a15 a16 a17 a18 a19 a20 a21 a22 => 
  call Qdh [.one a2] fun o0 =>
  unP .not (atP o0 16) fun r1 =>
  iteP r1
   (rt [.sc] [(I 3)] k)
   (binP .neq (atP o0 0) a0 fun r2 =>
   iteP r2
    (rt [.sc] [(I 2)] k)
    (call Qet [.agg [(atP o0 0), (atP o0 1), (atP o0 2), (atP o0 3), (atP o0 4), (atP o0 5), (atP o0 6), (atP o0 7), (atP o0 8), (atP o0 9), (atP o0 10), (atP o0 11), (atP o0 12), (atP o0 13), (atP o0 14), (atP o0 15)], .one a23] fun o3 =>
    unP .not (atP o3 0) fun r4 =>
    iteP r4
     (rt [.sc] [(I 4)] k)
     (iteP (atP o0 15)
      (rt [.sc] [(I 5)] k)
      (call Qfa [.agg [(atP o0 0), (atP o0 1), (atP o0 2), (atP o0 3), (atP o0 4), (atP o0 5), (atP o0 6), (atP o0 7), (atP o0 8), (atP o0 9), (atP o0 10), (atP o0 11), (atP o0 12), (atP o0 13), (atP o0 14), (atP o0 15)], .one a1, .agg [a2, a3, a4, a5, a6, a7, a8, a9, a10, a11, a12, a13, a14, a15, a16, a17, a18, a19, a20, a21, a22]] fun o5 =>
      unP .not (atP o5 0) fun r6 =>
      iteP r6
       (rt [.sc] [(I 6)] k)
       (rt [.sc] [(I 1)] k)))))) u0
 | _, _ => False
abbrev Qfb_e : Ent := ⟨[114], Qfb⟩
theorem Qfb_w : EntOK Tryz.prog TT Qfb_e := ent_ok tabok (L := [Qdh_e, Qet_e, Qfa_e]) ⟨Qdh_w, Qet_w, Qfa_w, trivial⟩ (keep := []) (l := []) Tryz.func114 (by kernel_rfl) (sg := [.one (.sc)]) (by kernel_rfl) trivial fun av k h => by
  unfold Qfb at h; split at h
  · apply un_all h; clear h; intro a2 a3 a4 a5 a6 a7 a8 a9 a10 a11 a12 a13 a14 a15 a16 a17 a18 a19 a20 a21 a22 h; exact Eq.mpr (by kernel_rfl) h
  · exact h.elim
def Qfc_r0 (v : List PV) (K : List PV → Prop) (x0k : PV → PV → PV → PV → PV → PV → PV → PV → PV → PV → PV → PV → PV → PV → PV → PV → PV → PV → PV → PV → PV → PV → PV → PV → PV → PV → PV → PV → PV → PV → PV → PV → PV → PV → PV → PV → PV → PV → PV → PV → Prop) (x1k : PV → PV → PV → PV → PV → PV → PV → PV → PV → PV → PV → PV → PV → PV → PV → PV → PV → PV → PV → PV → PV → PV → PV → PV → PV → PV → PV → PV → PV → PV → PV → PV → PV → PV → PV → PV → PV → PV → PV → PV → Prop) (x2k : PV → PV → PV → Prop) : Prop :=
 un 3 (fun v0 v1 v2 =>
  lenP v2 fun r0 =>
  binP .lss v1 r0 fun r1 =>
  iteP r1
   (elemP 23 v2 v1 fun c2 =>
   call Qdh [.one (atP c2 2)] fun o3 =>
   call Qes [.agg [v2], .one (atP c2 0), .one (atP c2 1)] fun o4 =>
   binP .neq (atP o4 0) v1 fun r5 =>
   iteP r5
    (x0k (atP o3 0) (atP o3 1) (atP o3 2) (atP o3 3) (atP o3 4) (atP o3 5) (atP o3 6) (atP o3 7) (atP o3 8) (atP o3 9) (atP o3 10) (atP o3 11) (atP o3 12) (atP o3 13) (atP o3 14) (atP o3 15) (atP c2 0) (atP c2 1) (atP c2 2) (atP c2 3) (atP c2 4) (atP c2 5) (atP c2 6) (atP c2 7) (atP c2 8) (atP c2 9) (atP c2 10) (atP c2 11) (atP c2 12) (atP c2 13) (atP c2 14) (atP c2 15) (atP c2 16) (atP c2 17) (atP c2 18) (atP c2 19) (atP c2 20) (atP c2 21) (atP c2 22) v2)
    (call Qfb [.one (atP c2 0), .one (atP c2 1), .agg [(atP c2 2), (atP c2 3), (atP c2 4), (atP c2 5), (atP c2 6), (atP c2 7), (atP c2 8), (atP c2 9), (atP c2 10), (atP c2 11), (atP c2 12), (atP c2 13), (atP c2 14), (atP c2 15), (atP c2 16), (atP c2 17), (atP c2 18), (atP c2 19), (atP c2 20), (atP c2 21), (atP c2 22)], .one (atP o3 3)] fun o6 =>
    binP .neq (atP o6 0) (I 1) fun r7 =>
    iteP r7
     (x1k (atP o3 0) (atP o3 1) (atP o3 2) (atP o3 3) (atP o3 4) (atP o3 5) (atP o3 6) (atP o3 7) (atP o3 8) (atP o3 9) (atP o3 10) (atP o3 11) (atP o3 12) (atP o3 13) (atP o3 14) (atP o3 15) (atP c2 0) (atP c2 1) (atP c2 2) (atP c2 3) (atP c2 4) (atP c2 5) (atP c2 6) (atP c2 7) (atP c2 8) (atP c2 9) (atP c2 10) (atP c2 11) (atP c2 12) (atP c2 13) (atP c2 14) (atP c2 15) (atP c2 16) (atP c2 17) (atP c2 18) (atP c2 19) (atP c2 20) (atP c2 21) (atP c2 22) v2)
     (binP .add v1 (I 1) fun r8 =>
     K [v0, r8, v2])))
   (x2k v0 v1 v2)) v
def Qfc : GM
 | [.agg u0], k => un 1 (fun a0 => 
  lp (fun L w => Qfc_r0 w L
   (fun q9 q10 q11 q12 q13 q14 q15 q16 q17 q18 q19 q20 q21 q22 q23 q24 q25 q26 q27 q28 q29 q30 q31 q32 q33 q34 q35 q36 q37 q38 q39 q40 q41 q42 q43 q44 q45 q46 q47 q48 => rt [.sc] [(.bool false)] k)
   (fun q49 q50 q51 q52 q53 q54 q55 q56 q57 q58 q59 q60 q61 q62 q63 q64 q65 q66 q67 q68 q69 q70 q71 q72 q73 q74 q75 q76 q77 q78 q79 q80 q81 q82 q83 q84 q85 q86 q87 q88 => rt [.sc] [(.bool false)] k)
   (fun q89 q90 q91 => lenP q91 fun r92 =>
    binP .leq r92 (I 16) fun r93 =>
    rt [.sc] [r93] k)) [(.bool false), (I 0), a0]) u0
 | _, _ => False
abbrev Qfc_e : Ent := ⟨[57], Qfc⟩
def Qfc_l : List LE := [⟨0, ⟨[(1, .one (.ptr 0 0)), (2, .one zB), (3, .one zB)], [(0, [zB])], [], 1, 50⟩, fun K k v => Qfc_r0 v K (fun x0 x1 x2 x3 x4 x5 x6 x7 x8 x9 x10 x11 x12 x13 x14 x15 x16 x17 x18 x19 x20 x21 x22 x23 x24 x25 x26 x27 x28 x29 x30 x31 x32 x33 x34 x35 x36 x37 x38 x39 => k .ret ⟨[(2, .one (.kb false))], [(19, [.pv x0, .pv x1, .pv x2, .pv x3, .pv x4, .pv x5, .pv x6, .pv x7, .pv x8, .pv x9, .pv x10, .pv x11, .pv x12, .pv x13, .pv x14, .pv x15]), (19, [.pv (I 0), .pv (I 0), .pv (I 0), .pv (I 0), .pv (I 0), .pv (I 0), .pv (I 0), .pv (I 0), .nil 3 1, .pv (I 0), .nil 3 1, .pv (I 0), .pv (I 0), .nil 3 1, .pv (I 0), zB]), (1, [.pv x16, .pv x17, .pv x18, .pv x19, .pv x20, .pv x21, .pv x22, .pv x23, .pv x24, .pv x25, .pv x26, .pv x27, .pv x28, .pv x29, .pv x30, .pv x31, .pv x32, .pv x33, .pv x34, .pv x35, .pv x36, .pv x37, .pv x38]), (1, [.pv (I 0), .pv (.str ⟨#[]⟩), .nil 129 17, zB, .pv (.str ⟨#[]⟩), .pv (I 0), .pv (I 0), .nil 9 1, .pv (I 0), .nil 3 1, .pv (I 0), .pv (.str ⟨#[]⟩), .pv (I 0), .pv (I 0), .nil 9 1, .pv (.str ⟨#[]⟩), .pv (I 0), .pv (I 0), .nil 9 1, .pv (I 0), .nil 3 1, .pv (I 0), .nil 3 1]), (0, [.pv x39])], [], 21, 50⟩) (fun x0 x1 x2 x3 x4 x5 x6 x7 x8 x9 x10 x11 x12 x13 x14 x15 x16 x17 x18 x19 x20 x21 x22 x23 x24 x25 x26 x27 x28 x29 x30 x31 x32 x33 x34 x35 x36 x37 x38 x39 => k .ret ⟨[(2, .one (.kb false))], [(19, [.pv x0, .pv x1, .pv x2, .pv x3, .pv x4, .pv x5, .pv x6, .pv x7, .pv x8, .pv x9, .pv x10, .pv x11, .pv x12, .pv x13, .pv x14, .pv x15]), (19, [.pv (I 0), .pv (I 0), .pv (I 0), .pv (I 0), .pv (I 0), .pv (I 0), .pv (I 0), .pv (I 0), .nil 3 1, .pv (I 0), .nil 3 1, .pv (I 0), .pv (I 0), .nil 3 1, .pv (I 0), zB]), (1, [.pv x16, .pv x17, .pv x18, .pv x19, .pv x20, .pv x21, .pv x22, .pv x23, .pv x24, .pv x25, .pv x26, .pv x27, .pv x28, .pv x29, .pv x30, .pv x31, .pv x32, .pv x33, .pv x34, .pv x35, .pv x36, .pv x37, .pv x38]), (1, [.pv (I 0), .pv (.str ⟨#[]⟩), .nil 129 17, zB, .pv (.str ⟨#[]⟩), .pv (I 0), .pv (I 0), .nil 9 1, .pv (I 0), .nil 3 1, .pv (I 0), .pv (.str ⟨#[]⟩), .pv (I 0), .pv (I 0), .nil 9 1, .pv (.str ⟨#[]⟩), .pv (I 0), .pv (I 0), .nil 9 1, .pv (I 0), .nil 3 1, .pv (I 0), .nil 3 1]), (0, [.pv x39])], [], 22, 50⟩) (fun x0 x1 x2 => k (.exit 0) ⟨[(1, .one (.ptr 0 0)), (2, .one (.pv x0)), (3, .one (.pv x1))], [(0, [.pv x2])], [], 1, 50⟩)⟩]
theorem Qfc_s : LEsOK (orac [Qdh_e, Qes_e, Qfb_e]) TT (kk [1, 2, 3, 35, 36, 37, 38, 39, 40, 41, 42, 43, 44]) (sumsOf Qfc_l) Tryz.f57 Qfc_l := ⟨fun v K k h => by
  apply un_all h; exact fun v0 v1 v2 h => Eq.mpr (by kernel_rfl) h
  , trivial⟩
theorem Qfc_w : EntOK Tryz.prog TT Qfc_e := ent_ok tabok (L := [Qdh_e, Qes_e, Qfb_e]) ⟨Qdh_w, Qes_w, Qfb_w, trivial⟩ (keep := (kk [1, 2, 3, 35, 36, 37, 38, 39, 40, 41, 42, 43, 44])) (l := Qfc_l) Tryz.func57 (by kernel_rfl) (sg := [.one (.sc)]) (by kernel_rfl) Qfc_s fun av k h => by
  unfold Qfc at h; split at h
  · apply un_all h; clear h; intro a0 h; exact Eq.mpr (by kernel_rfl) h
  · exact h.elim
def Qfd_r0 (v : List PV) (K : List PV → Prop) (x0k : PV → PV → PV → PV → PV → PV → PV → PV → Prop) (x1k : PV → PV → PV → PV → PV → PV → PV → PV → PV → PV → Prop) : Prop :=
 un 10 (fun v0 v1 v2 v3 v4 v5 v6 v7 v8 v9 =>
  lenP v5 fun r0 =>
  binP .lss v1 r0 fun r1 =>
  iteP r1
   (elemP 3 v5 v1 fun c2 =>
   call Qdy [.agg [(atP c2 0), (atP c2 1)]] fun o3 =>
   unP .not (atP o3 0) fun r4 =>
   iteP r4
    (x0k v2 v3 v4 v5 v6 v7 v8 v9)
    (binP .add v1 (I 1) fun r5 =>
    K [v0, r5, v2, v3, v4, v5, v6, v7, v8, v9]))
   (x1k v0 v1 v2 v3 v4 v5 v6 v7 v8 v9)) v
def Qfd_r1 (v : List PV) (K : List PV → Prop) (x0k : PV → PV → PV → PV → PV → PV → PV → PV → Prop) (x1k : PV → PV → PV → PV → PV → PV → PV → PV → PV → PV → PV → Prop) : Prop :=
 un 11 (fun v0 v1 v2 v3 v4 v5 v6 v7 v8 v9 v10 =>
  lenP v7 fun r0 =>
  binP .lss v2 r0 fun r1 =>
  iteP r1
   (elemP 2 v7 v2 fun c2 =>
   call Qek [.agg [(atP c2 0), (atP c2 1)]] fun o3 =>
   unP .not (atP o3 0) fun r4 =>
   iteP r4
    (x0k v3 v4 v5 v6 v7 v8 v9 v10)
    (binP .add v2 (I 1) fun r5 =>
    K [v0, v1, r5, v3, v4, v5, v6, v7, v8, v9, v10]))
   (x1k v0 v1 v2 v3 v4 v5 v6 v7 v8 v9 v10)) v
def Qfd : GM
 | [.agg u0], k => un 8 (fun a0 a1 a2 a3 a4 a5 a6 a7 => 
  lp (fun L w => Qfd_r0 w L
   (fun q6 q7 q8 q9 q10 q11 q12 q13 => rt [.sc] [(.bool false)] k)
   (fun q14 q15 q16 q17 q18 q19 q20 q21 q22 q23 => lp (fun L w => Qfd_r1 w L
     (fun q24 q25 q26 q27 q28 q29 q30 q31 => rt [.sc] [(.bool false)] k)
     (fun q32 q33 q34 q35 q36 q37 q38 q39 q40 q41 q42 => call Qcf [.one q35, .one (I 0), .one (I 99800)] fun o43 =>
      iteP (atP o43 0)
       (call Qel [.one q36] fun o44 =>
       iteP (atP o44 0)
        (call Qen [.one q37] fun o45 =>
        iteP (atP o45 0)
         (lenP q38 fun r46 =>
         binP .leq r46 (I 60) fun r47 =>
         iteP r47
          (lenP q39 fun r48 =>
          binP .leq r48 (I 4) fun r49 =>
          iteP r49
           (call Qer [.agg [q40, q41]] fun o50 =>
           iteP (atP o50 0)
            (call Qfc [.agg [q42]] fun o51 =>
            rt [.sc] [(atP o51 0)] k)
            (rt [.sc] [(.bool false)] k))
           (rt [.sc] [(.bool false)] k))
          (rt [.sc] [(.bool false)] k))
         (rt [.sc] [(.bool false)] k))
        (rt [.sc] [(.bool false)] k))
       (rt [.sc] [(.bool false)] k))) [q14, q15, (I 0), q16, q17, q18, q19, q20, q21, q22, q23])) [(.bool false), (I 0), a0, a1, a2, a3, a4, a5, a6, a7]) u0
 | _, _ => False
abbrev Qfd_e : Ent := ⟨[17], Qfd⟩
def Qfd_l : List LE := [⟨0, ⟨[(1, .one (.ptr 0 0)), (2, .one zB), (3, .one zB)], [(0, [zB, zB, zB, zB, zB, zB, zB, zB])], [], 1, 69⟩, fun K k v => Qfd_r0 v K (fun x0 x1 x2 x3 x4 x5 x6 x7 => k .ret ⟨[(2, .one (.kb false))], [(0, [.pv x0, .pv x1, .pv x2, .pv x3, .pv x4, .pv x5, .pv x6, .pv x7])], [], 2, 69⟩) (fun x0 x1 x2 x3 x4 x5 x6 x7 x8 x9 => k (.exit 0) ⟨[(1, .one (.ptr 0 0)), (2, .one (.pv x0)), (3, .one (.pv x1))], [(0, [.pv x2, .pv x3, .pv x4, .pv x5, .pv x6, .pv x7, .pv x8, .pv x9])], [], 1, 69⟩)⟩,
  ⟨1, ⟨[(1, .one (.ptr 0 0)), (2, .one zB), (3, .one zB), (4, .one zB)], [(0, [zB, zB, zB, zB, zB, zB, zB, zB])], [], 1, 69⟩, fun K k v => Qfd_r1 v K (fun x0 x1 x2 x3 x4 x5 x6 x7 => k .ret ⟨[(2, .one (.kb false))], [(0, [.pv x0, .pv x1, .pv x2, .pv x3, .pv x4, .pv x5, .pv x6, .pv x7])], [], 2, 69⟩) (fun x0 x1 x2 x3 x4 x5 x6 x7 x8 x9 x10 => k (.exit 2) ⟨[(1, .one (.ptr 0 0)), (2, .one (.pv x0)), (3, .one (.pv x1)), (4, .one (.pv x2))], [(0, [.pv x3, .pv x4, .pv x5, .pv x6, .pv x7, .pv x8, .pv x9, .pv x10])], [], 1, 69⟩)⟩]
theorem Qfd_s : LEsOK (orac [Qdy_e, Qek_e, Qcf_e, Qel_e, Qen_e, Qer_e, Qfc_e]) TT (kk [1, 2, 3, 4, 38, 39, 40, 43, 44, 45, 48, 49, 50, 51, 54, 55, 56, 57, 60, 61, 62, 65, 66, 67]) (sumsOf Qfd_l) Tryz.f17 Qfd_l := ⟨fun v K k h => by
  apply un_all h; exact fun v0 v1 v2 v3 v4 v5 v6 v7 v8 v9 h => Eq.mpr (by kernel_rfl) h
  , fun v K k h => by
  apply un_all h; exact fun v0 v1 v2 v3 v4 v5 v6 v7 v8 v9 v10 h => Eq.mpr (by kernel_rfl) h
  , trivial⟩
theorem Qfd_w : EntOK Tryz.prog TT Qfd_e := ent_ok tabok (L := [Qdy_e, Qek_e, Qcf_e, Qel_e, Qen_e, Qer_e, Qfc_e]) ⟨Qdy_w, Qek_w, Qcf_w, Qel_w, Qen_w, Qer_w, Qfc_w, trivial⟩ (keep := (kk [1, 2, 3, 4, 38, 39, 40, 43, 44, 45, 48, 49, 50, 51, 54, 55, 56, 57, 60, 61, 62, 65, 66, 67])) (l := Qfd_l) Tryz.func17 (by kernel_rfl) (sg := [.one (.sc)]) (by kernel_rfl) Qfd_s fun av k h => by
  unfold Qfd at h; split at h
  · apply un_all h; clear h; intro a0 a1 a2 a3 a4 a5 a6 a7 h; exact Eq.mpr (by kernel_rfl) h
  · exact h.elim
def Qfe_r1 (v : List PV) (K : List PV → Prop) (x0k : PV → PV → PV → PV → PV → PV → PV → PV → Prop) (x1k : PV → PV → PV → PV → PV → PV → PV → PV → PV → PV → PV → Prop) : Prop :=
 un 11 (fun v0 v1 v2 v3 v4 v5 v6 v7 v8 v9 v10 =>
  elemP 2 v7 v1 fun c0 =>
  lenP (atP c0 0) fun r1 =>
  binP .lss v2 r1 fun r2 =>
  iteP r2
   (elemP 2 v7 v1 fun c3 =>
   elemP 2 (atP c3 0) v2 fun c4 =>
   call Qej [.agg [v3, v4, v5, v6, v7, v8, v9, v10], .agg [(atP c4 0), (atP c4 1)]] fun o5 =>
   unP .not (atP o5 0) fun r6 =>
   iteP r6
    (x0k v3 v4 v5 v6 v7 v8 v9 v10)
    (binP .add v2 (I 1) fun r7 =>
    K [v0, v1, r7, v3, v4, v5, v6, v7, v8, v9, v10]))
   (x1k v0 v1 v2 v3 v4 v5 v6 v7 v8 v9 v10)) v
def Qfe_r0 (v : List PV) (K : List PV → Prop) (x0k : PV → PV → PV → PV → PV → PV → PV → PV → Prop) (x1k : PV → PV → PV → PV → PV → PV → PV → PV → PV → PV → Prop) : Prop :=
 un 10 (fun v0 v1 v2 v3 v4 v5 v6 v7 v8 v9 =>
  lenP v6 fun r0 =>
  binP .lss v1 r0 fun r1 =>
  iteP r1
   (lp (fun L w => Qfe_r1 w L
    (fun q8 q9 q10 q11 q12 q13 q14 q15 => x0k q8 q9 q10 q11 q12 q13 q14 q15)
    (fun q16 q17 q18 q19 q20 q21 q22 q23 q24 q25 q26 => binP .add q17 (I 1) fun r27 =>
     K [q16, r27, q19, q20, q21, q22, q23, q24, q25, q26])) [v0, v1, (I 0), v2, v3, v4, v5, v6, v7, v8, v9])
   (x1k v0 v1 v2 v3 v4 v5 v6 v7 v8 v9)) v
def Qfe : GM
 | [.agg u0], k => un 8 (fun a0 a1 a2 a3 a4 a5 a6 a7 => 
  lp (fun L w => Qfe_r0 w L
   (fun q28 q29 q30 q31 q32 q33 q34 q35 => rt [.sc] [(.bool false)] k)
   (fun q36 q37 q38 q39 q40 q41 q42 q43 q44 q45 => rt [.sc] [(.bool true)] k)) [(.bool false), (I 0), a0, a1, a2, a3, a4, a5, a6, a7]) u0
 | _, _ => False
abbrev Qfe_e : Ent := ⟨[18], Qfe⟩
def Qfe_l : List LE := [⟨1, ⟨[(1, .one (.ptr 0 0)), (2, .one zB), (3, .one zB), (4, .one zB)], [(0, [zB, zB, zB, zB, zB, zB, zB, zB])], [], 1, 35⟩, fun K k v => Qfe_r1 v K (fun x0 x1 x2 x3 x4 x5 x6 x7 => k .ret ⟨[(2, .one (.kb false))], [(0, [.pv x0, .pv x1, .pv x2, .pv x3, .pv x4, .pv x5, .pv x6, .pv x7])], [], 2, 35⟩) (fun x0 x1 x2 x3 x4 x5 x6 x7 x8 x9 x10 => k (.exit 2) ⟨[(1, .one (.ptr 0 0)), (2, .one (.pv x0)), (3, .one (.pv x1)), (4, .one (.pv x2))], [(0, [.pv x3, .pv x4, .pv x5, .pv x6, .pv x7, .pv x8, .pv x9, .pv x10])], [], 1, 35⟩)⟩,
  ⟨0, ⟨[(1, .one (.ptr 0 0)), (2, .one zB), (3, .one zB)], [(0, [zB, zB, zB, zB, zB, zB, zB, zB])], [], 1, 35⟩, fun K k v => Qfe_r0 v K (fun x0 x1 x2 x3 x4 x5 x6 x7 => k .ret ⟨[(2, .one (.kb false))], [(0, [.pv x0, .pv x1, .pv x2, .pv x3, .pv x4, .pv x5, .pv x6, .pv x7])], [], 2, 35⟩) (fun x0 x1 x2 x3 x4 x5 x6 x7 x8 x9 => k (.exit 0) ⟨[(1, .one (.ptr 0 0)), (2, .one (.pv x0)), (3, .one (.pv x1))], [(0, [.pv x2, .pv x3, .pv x4, .pv x5, .pv x6, .pv x7, .pv x8, .pv x9])], [], 1, 35⟩)⟩]
theorem Qfe_s : LEsOK (orac [Qej_e]) TT (kk [1, 2, 3, 4]) (sumsOf Qfe_l) Tryz.f18 Qfe_l := ⟨fun v K k h => by
  apply un_all h; exact fun v0 v1 v2 v3 v4 v5 v6 v7 v8 v9 v10 h => Eq.mpr (by kernel_rfl) h
  , fun v K k h => by
  apply un_all h; exact fun v0 v1 v2 v3 v4 v5 v6 v7 v8 v9 h => Eq.mpr (by kernel_rfl) h
  , trivial⟩
theorem Qfe_w : EntOK Tryz.prog TT Qfe_e := ent_ok tabok (L := [Qej_e]) ⟨Qej_w, trivial⟩ (keep := (kk [1, 2, 3, 4])) (l := Qfe_l) Tryz.func18 (by kernel_rfl) (sg := [.one (.sc)]) (by kernel_rfl) Qfe_s fun av k h => by
  unfold Qfe at h; split at h
  · apply un_all h; clear h; intro a0 a1 a2 a3 a4 a5 a6 a7 h; exact Eq.mpr (by kernel_rfl) h
  · exact h.elim
end Go.Ev
