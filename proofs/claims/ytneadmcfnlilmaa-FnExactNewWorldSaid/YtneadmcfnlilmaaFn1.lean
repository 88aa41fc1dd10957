/- The tables of this load, and for each function the meaning that the evaluator gives it, with its proof, part 1. -/
import Derived.Test.YtneadmcfnlilmaaEv4
import Derived.Lib.ItoaNum
import Derived.Test.YtneadmcfnlilmaaProg
namespace Go.Ev
open Go.Proofs
def TT : Tab := ⟨[(2, tI),
  (3, tI),
  (4, tB),
  (5, ⟨false, 1, 0, 1, [], [.pv (.int .u8 0)], some .u8, 0, false⟩),
  (6, ⟨false, 1, 0, 1, [], [.pv (.int .u8 0)], some .u8, 0, false⟩),
  (7, ⟨true, 4, 0, 24, [(0, 2), (1, 3), (2, 4), (3, 6)], [zI, zI, zB, .pv (.int .u8 0)], none, 0, true⟩),
  (8, ⟨true, 4, 0, 24, [(0, 2), (1, 3), (2, 4), (3, 6)], [zI, zI, zB, .pv (.int .u8 0)], none, 0, true⟩),
  (9, tS),
  (10, tS),
  (11, tS),
  (12, ⟨false, 1, 0, 8, [], [.pv (.int .u64 0)], some .u64, 0, false⟩),
  (13, ⟨true, 2, 0, 24, [(0, 9), (1, 12)], [zS, .pv (.int .u64 0)], none, 0, false⟩),
  (14, ⟨true, 2, 0, 24, [(0, 9), (1, 12)], [zS, .pv (.int .u64 0)], none, 0, false⟩),
  (21, ⟨false, 1, 0, 4, [], [.pv (.int .i32 0)], some .i32, 0, false⟩),
  (22, ⟨false, 1, 73, 24, [], [.nil 73 1], none, 0, false⟩),
  (24, ⟨false, 1, 78, 24, [], [.nil 78 1], none, 0, false⟩),
  (33, ⟨false, 1, 93, 24, [], [.nil 93 21], none, 0, false⟩),
  (35, ⟨false, 1, 148, 24, [], [.nil 148 17], none, 0, false⟩),
  (36, ⟨false, 1, 9, 24, [], [.nil 9 1], none, 0, false⟩),
  (37, ⟨true, 4, 0, 56, [(0, 9), (1, 3), (2, 3), (3, 36)], [zS, zI, zI, .nil 9 1], none, 0, false⟩),
  (38, ⟨true, 4, 0, 56, [(0, 9), (1, 3), (2, 3), (3, 36)], [zS, zI, zI, .nil 9 1], none, 0, false⟩),
  (39, ⟨false, 1, 3, 24, [], [.nil 3 1], none, 0, false⟩),
  (40, ⟨true, 2, 0, 32, [(0, 3), (1, 39)], [zI, .nil 3 1], none, 0, false⟩),
  (41, ⟨true, 2, 0, 32, [(0, 3), (1, 39)], [zI, .nil 3 1], none, 0, false⟩),
  (42, ⟨true, 13, 0, 184, [(0, 3), (1, 38), (5, 38), (9, 41), (11, 41)], [zI, zS, zI, zI, .nil 9 1, zS, zI, zI, .nil 9 1, zI, .nil 3 1, zI, .nil 3 1], none, 0, false⟩),
  (43, ⟨true, 13, 0, 184, [(0, 3), (1, 38), (5, 38), (9, 41), (11, 41)], [zI, zS, zI, zI, .nil 9 1, zS, zI, zI, .nil 9 1, zI, .nil 3 1, zI, .nil 3 1], none, 0, false⟩),
  (44, ⟨true, 21, 0, 304, [(0, 35), (1, 4), (2, 38), (6, 41), (8, 43)], [.nil 148 17, zB, zS, zI, zI, .nil 9 1, zI, .nil 3 1, zI, zS, zI, zI, .nil 9 1, zS, zI, zI, .nil 9 1, zI, .nil 3 1, zI, .nil 3 1], none, 0, false⟩),
  (45, ⟨true, 21, 0, 304, [(0, 35), (1, 4), (2, 38), (6, 41), (8, 43)], [.nil 148 17, zB, zS, zI, zI, .nil 9 1, zI, .nil 3 1, zI, zS, zI, zI, .nil 9 1, zS, zI, zI, .nil 9 1, zI, .nil 3 1, zI, .nil 3 1], none, 0, false⟩),
  (48, ⟨false, 1, 45, 24, [], [.nil 45 21], none, 0, false⟩),
  (55, ⟨false, 1, 155, 24, [], [.nil 155 2], none, 0, false⟩),
  (56, ⟨false, 1, 158, 24, [], [.nil 158 3], none, 0, false⟩),
  (57, ⟨false, 1, 108, 24, [], [.nil 108 2], none, 0, false⟩),
  (58, ⟨false, 1, 35, 24, [], [.nil 35 1], none, 0, false⟩),
  (59, ⟨false, 1, 186, 24, [], [.nil 186 51], none, 0, false⟩),
  (60, ⟨true, 2, 0, 48, [(0, 58), (1, 59)], [.nil 35 1, .nil 186 51], none, 0, false⟩),
  (61, ⟨true, 2, 0, 48, [(0, 58), (1, 59)], [.nil 35 1, .nil 186 51], none, 0, false⟩),
  (62, ⟨false, 1, 189, 24, [], [.nil 189 23], none, 0, false⟩),
  (63, ⟨true, 1, 0, 24, [(0, 62)], [.nil 189 23], none, 0, false⟩),
  (64, ⟨true, 1, 0, 24, [(0, 62)], [.nil 189 23], none, 0, false⟩),
  (65, ⟨true, 8, 0, 176, [(0, 3), (1, 24), (2, 55), (3, 56), (4, 57), (5, 61), (7, 64)], [zI, .nil 78 1, .nil 155 2, .nil 158 3, .nil 108 2, .nil 35 1, .nil 186 51, .nil 189 23], none, 0, false⟩),
  (66, ⟨true, 8, 0, 176, [(0, 3), (1, 24), (2, 55), (3, 56), (4, 57), (5, 61), (7, 64)], [zI, .nil 78 1, .nil 155 2, .nil 158 3, .nil 108 2, .nil 35 1, .nil 186 51, .nil 189 23], none, 0, false⟩),
  (72, ⟨true, 1, 0, 24, [(0, 39)], [.nil 3 1], none, 0, false⟩),
  (73, ⟨true, 1, 0, 24, [(0, 39)], [.nil 3 1], none, 0, false⟩),
  (78, ⟨true, 1, 0, 24, [(0, 39)], [.nil 3 1], none, 0, false⟩),
  (87, ⟨false, 1, 175, 24, [], [.nil 175 17], none, 0, false⟩),
  (88, ⟨true, 4, 0, 56, [(0, 9), (1, 3), (2, 3), (3, 36)], [zS, zI, zI, .nil 9 1], none, 0, false⟩),
  (89, ⟨true, 2, 0, 32, [(0, 3), (1, 39)], [zI, .nil 3 1], none, 0, false⟩),
  (90, ⟨true, 13, 0, 184, [(0, 3), (1, 88), (5, 88), (9, 89), (11, 89)], [zI, zS, zI, zI, .nil 9 1, zS, zI, zI, .nil 9 1, zI, .nil 3 1, zI, .nil 3 1], none, 0, false⟩),
  (91, ⟨true, 13, 0, 184, [(0, 3), (1, 88), (5, 88), (9, 89), (11, 89)], [zI, zS, zI, zI, .nil 9 1, zS, zI, zI, .nil 9 1, zI, .nil 3 1, zI, .nil 3 1], none, 0, false⟩),
  (92, ⟨true, 21, 0, 304, [(0, 87), (1, 4), (2, 88), (6, 89), (8, 91)], [.nil 175 17, zB, zS, zI, zI, .nil 9 1, zI, .nil 3 1, zI, zS, zI, zI, .nil 9 1, zS, zI, zI, .nil 9 1, zI, .nil 3 1, zI, .nil 3 1], none, 0, false⟩),
  (93, ⟨true, 21, 0, 304, [(0, 87), (1, 4), (2, 88), (6, 89), (8, 91)], [.nil 175 17, zB, zS, zI, zI, .nil 9 1, zI, .nil 3 1, zI, zS, zI, zI, .nil 9 1, zS, zI, zI, .nil 9 1, zI, .nil 3 1, zI, .nil 3 1], none, 0, false⟩),
  (107, ⟨true, 2, 0, 32, [(0, 55), (1, 3)], [.nil 155 2, zI], none, 0, false⟩),
  (108, ⟨true, 2, 0, 32, [(0, 55), (1, 3)], [.nil 155 2, zI], none, 0, false⟩),
  (126, ⟨false, 1, 0, 8, [], [.pv (.int .u64 0)], some .u64, 0, false⟩),
  (142, ⟨true, 2, 0, 32, [(0, 39), (1, 3)], [.nil 3 1, zI], none, 0, false⟩),
  (143, ⟨true, 2, 0, 32, [(0, 39), (1, 3)], [.nil 3 1, zI], none, 0, false⟩),
  (144, ⟨true, 16, 0, 176, [(0, 3), (1, 3), (2, 3), (3, 3), (4, 3), (5, 3), (6, 3), (7, 3), (8, 143), (10, 143), (12, 3), (13, 143), (15, 4)], [zI, zI, zI, zI, zI, zI, zI, zI, .nil 3 1, zI, .nil 3 1, zI, zI, .nil 3 1, zI, zB], none, 0, false⟩),
  (145, ⟨true, 16, 0, 176, [(0, 3), (1, 3), (2, 3), (3, 3), (4, 3), (5, 3), (6, 3), (7, 3), (8, 143), (10, 143), (12, 3), (13, 143), (15, 4)], [zI, zI, zI, zI, zI, zI, zI, zI, .nil 3 1, zI, .nil 3 1, zI, zI, .nil 3 1, zI, zB], none, 0, false⟩),
  (146, ⟨false, 1, 182, 24, [], [.nil 182 2], none, 0, false⟩),
  (147, ⟨true, 17, 0, 200, [(0, 145), (16, 146)], [zI, zI, zI, zI, zI, zI, zI, zI, .nil 3 1, zI, .nil 3 1, zI, zI, .nil 3 1, zI, zB, .nil 182 2], none, 0, false⟩),
  (148, ⟨true, 17, 0, 200, [(0, 145), (16, 146)], [zI, zI, zI, zI, zI, zI, zI, zI, .nil 3 1, zI, .nil 3 1, zI, zI, .nil 3 1, zI, zB, .nil 182 2], none, 0, false⟩),
  (151, ⟨false, 1, 5, 24, [], [.nil 5 1], none, 2, false⟩),
  (153, ⟨false, 1, 38, 24, [], [.nil 38 4], none, 0, false⟩),
  (154, ⟨true, 2, 0, 48, [(0, 35), (1, 153)], [.nil 148 17, .nil 38 4], none, 0, false⟩),
  (155, ⟨true, 2, 0, 48, [(0, 35), (1, 153)], [.nil 148 17, .nil 38 4], none, 0, false⟩),
  (157, ⟨true, 3, 0, 72, [(0, 155), (2, 39)], [.nil 148 17, .nil 38 4, .nil 3 1], none, 0, false⟩),
  (158, ⟨true, 3, 0, 72, [(0, 155), (2, 39)], [.nil 148 17, .nil 38 4, .nil 3 1], none, 0, false⟩),
  (170, ⟨true, 2, 0, 32, [(0, 39), (1, 3)], [.nil 3 1, zI], none, 0, false⟩),
  (171, ⟨true, 16, 0, 176, [(0, 3), (1, 3), (2, 3), (3, 3), (4, 3), (5, 3), (6, 3), (7, 3), (8, 170), (10, 170), (12, 3), (13, 170), (15, 4)], [zI, zI, zI, zI, zI, zI, zI, zI, .nil 3 1, zI, .nil 3 1, zI, zI, .nil 3 1, zI, zB], none, 0, false⟩),
  (172, ⟨true, 16, 0, 176, [(0, 3), (1, 3), (2, 3), (3, 3), (4, 3), (5, 3), (6, 3), (7, 3), (8, 170), (10, 170), (12, 3), (13, 170), (15, 4)], [zI, zI, zI, zI, zI, zI, zI, zI, .nil 3 1, zI, .nil 3 1, zI, zI, .nil 3 1, zI, zB], none, 0, false⟩),
  (173, ⟨false, 1, 203, 24, [], [.nil 203 2], none, 0, false⟩),
  (174, ⟨true, 17, 0, 200, [(0, 172), (16, 173)], [zI, zI, zI, zI, zI, zI, zI, zI, .nil 3 1, zI, .nil 3 1, zI, zI, .nil 3 1, zI, zB, .nil 203 2], none, 0, false⟩),
  (175, ⟨true, 17, 0, 200, [(0, 172), (16, 173)], [zI, zI, zI, zI, zI, zI, zI, zI, .nil 3 1, zI, .nil 3 1, zI, zI, .nil 3 1, zI, zB, .nil 203 2], none, 0, false⟩),
  (181, ⟨true, 2, 0, 16, [(0, 3), (1, 3)], [zI, zI], none, 0, true⟩),
  (182, ⟨true, 2, 0, 16, [(0, 3), (1, 3)], [zI, zI], none, 0, true⟩),
  (185, ⟨true, 51, 0, 600, [(0, 148), (17, 148), (34, 148)], [zI, zI, zI, zI, zI, zI, zI, zI, .nil 3 1, zI, .nil 3 1, zI, zI, .nil 3 1, zI, zB, .nil 182 2, zI, zI, zI, zI, zI, zI, zI, zI, .nil 3 1, zI, .nil 3 1, zI, zI, .nil 3 1, zI, zB, .nil 182 2, zI, zI, zI, zI, zI, zI, zI, zI, .nil 3 1, zI, .nil 3 1, zI, zI, .nil 3 1, zI, zB, .nil 182 2], none, 0, false⟩),
  (186, ⟨true, 51, 0, 600, [(0, 148), (17, 148), (34, 148)], [zI, zI, zI, zI, zI, zI, zI, zI, .nil 3 1, zI, .nil 3 1, zI, zI, .nil 3 1, zI, zB, .nil 182 2, zI, zI, zI, zI, zI, zI, zI, zI, .nil 3 1, zI, .nil 3 1, zI, zI, .nil 3 1, zI, zB, .nil 182 2, zI, zI, zI, zI, zI, zI, zI, zI, .nil 3 1, zI, .nil 3 1, zI, zI, .nil 3 1, zI, zB, .nil 182 2], none, 0, false⟩),
  (188, ⟨true, 23, 0, 328, [(0, 3), (1, 9), (2, 45)], [zI, zS, .nil 148 17, zB, zS, zI, zI, .nil 9 1, zI, .nil 3 1, zI, zS, zI, zI, .nil 9 1, zS, zI, zI, .nil 9 1, zI, .nil 3 1, zI, .nil 3 1], none, 0, false⟩),
  (189, ⟨true, 23, 0, 328, [(0, 3), (1, 9), (2, 45)], [zI, zS, .nil 148 17, zB, zS, zI, zI, .nil 9 1, zI, .nil 3 1, zI, zS, zI, zI, .nil 9 1, zS, zI, zI, .nil 9 1, zI, .nil 3 1, zI, .nil 3 1], none, 0, false⟩),
  (203, ⟨true, 2, 0, 16, [(0, 3), (1, 3)], [zI, zI], none, 0, true⟩),
  (211, ⟨false, 1, 0, 4, [], [.pv (.int .u32 0)], some .u32, 0, false⟩),
  (212, ⟨false, 1, 0, 1, [], [.pv (.int .u8 0)], some .u8, 0, false⟩),
  (213, ⟨false, 1, 0, 1, [], [.pv (.int .u8 0)], some .u8, 0, false⟩),
  (216, ⟨false, 1, 0, 4, [], [.pv (.int .i32 0)], some .i32, 0, false⟩),
  (217, ⟨false, 1, 0, 4, [], [.pv (.int .i32 0)], some .i32, 0, false⟩)],
  [(0, []), (1, []), (2, []), (3, [.one (.sc)]), (4, [.one (.sc)]), (5, [.one (.sc)]), (6, [.one (.sc)]), (7, [.one (.sc)]), (8, [.one (.pv), .one (.sc)]), (9, [.one (.own true 78 1)]), (10, [.one (.own true 78 1), .one (.sc)]), (11, [.one (.sc)]), (12, [.agg []]), (13, [.one (.sc)]), (14, [.one (.pv), .one (.sc)]), (15, [.one (.own true 78 1), .one (.sc)]), (16, [.one (.sc)]), (17, [.agg [.pv, .sc, .sc, .sc, .sc, .pv, .sc, .pv, .sc, .sc, .sc, .sc, .pv, .sc, .sc, .sc, .pv, .sc, .pv, .sc, .pv], .one (.sc)]), (18, [.one (.own true 45 21)]), (19, [.agg [.own true 148 17, .sc, .sc, .sc, .sc, .own true 9 1, .sc, .own true 3 1, .sc, .sc, .sc, .sc, .own true 9 1, .sc, .sc, .sc, .own true 9 1, .sc, .own true 3 1, .sc, .own true 3 1], .one (.sc)]), (20, [.one (.sc)]), (21, [.one (.sc)]), (22, [.agg []]), (23, [.agg []]), (24, [.one (.sc)]), (25, [.agg [.sc, .pv, .pv, .pv, .pv, .pv, .pv, .pv]]), (26, [.agg [.sc, .own true 78 1, .own true 155 2, .own true 158 3, .own true 108 2, .own true 35 1, .own true 186 51, .own true 189 23]]), (27, [.one (.sc)]), (28, [.agg []]), (29, [.one (.sc)]), (30, [.one (.sc)]), (31, [.one (.pv)]), (32, [.one (.sc)]), (33, [.one (.sc)]), (34, [.one (.sc)]), (35, [.agg [.own true 3 1]]), (36, [.one (.own true 78 1)]), (37, [.one (.sc)]), (38, [.one (.sc)]), (39, [.one (.sc)]), (40, [.one (.sc), .one (.sc)]), (41, [.one (.own true 3 1)]), (42, [.one (.sc)]), (43, [.agg []]), (44, [.one (.sc)]), (45, [.one (.sc)]), (46, [.agg [.pv, .sc, .sc, .sc, .sc, .pv, .sc, .pv, .sc, .sc, .sc, .sc, .pv, .sc, .sc, .sc, .pv, .sc, .pv, .sc, .pv]]), (47, [.agg [.own true 148 17, .sc, .sc, .sc, .sc, .own true 9 1, .sc, .own true 3 1, .sc, .sc, .sc, .sc, .own true 9 1, .sc, .sc, .sc, .own true 9 1, .sc, .own true 3 1, .sc, .own true 3 1]]), (48, [.agg [.own true 148 17, .sc, .sc, .sc, .sc, .own true 9 1, .sc, .own true 3 1, .sc, .sc, .sc, .sc, .own true 9 1, .sc, .sc, .sc, .own true 9 1, .sc, .own true 3 1, .sc, .own true 3 1]]), (49, [.one (.sc)]), (50, [.one (.sc)]), (51, [.one (.sc)]), (52, [.one (.sc)]), (53, [.agg []]), (54, [.one (.sc)]), (55, [.agg []]), (56, [.agg []]), (57, [.agg []]), (58, [.agg []]), (59, [.one (.sc)]), (60, [.one (.sc)]), (61, [.one (.sc)]), (62, [.one (.sc)]), (63, [.one (.sc)]), (64, [.one (.sc)]), (65, [.one (.sc)]), (66, [.one (.sc)]), (67, [.one (.sc)]), (68, [.one (.sc)]), (69, [.one (.sc)]), (70, [.agg []]), (71, [.agg []]), (72, [.agg []]), (73, [.agg []]), (74, [.agg []]), (75, [.one (.sc)]), (76, [.one (.sc)]), (77, [.one (.sc)]), (78, [.one (.sc)]), (79, [.one (.sc)]), (80, [.one (.sc)]), (81, [.one (.sc)]), (82, [.one (.own true 3 1)]), (83, [.one (.own true 3 1)]), (84, [.one (.sc)]), (85, [.one (.sc)]), (86, [.one (.sc)]), (87, [.one (.sc)]), (88, [.one (.sc)]), (89, [.one (.sc)]), (90, [.one (.sc)]), (91, [.one (.sc)]), (92, [.one (.sc)]), (93, [.one (.sc)]), (94, [.one (.sc)]), (95, []), (96, [.one (.sc)]), (97, [.one (.sc)]), (98, [.one (.sc)]), (99, [.one (.sc)]), (100, [.one (.sc)]), (101, [.one (.pv)]), (102, [.agg [.sc, .sc, .sc, .pv]]), (103, [.agg [.sc, .pv]]), (104, [.agg [.sc, .sc, .sc, .sc, .pv, .sc, .sc, .sc, .pv, .sc, .pv, .sc, .pv]]), (105, [.one (.own true 148 17)]), (106, [.agg [.sc, .sc, .sc, .own true 9 1]]), (107, [.agg [.sc, .own true 3 1]]), (108, [.agg [.sc, .sc, .sc, .sc, .own true 9 1, .sc, .sc, .sc, .own true 9 1, .sc, .own true 3 1, .sc, .own true 3 1]]), (109, [.one (.own true 148 17)]), (110, [.agg [.sc, .sc, .sc, .own true 9 1]]), (111, [.agg [.sc, .own true 3 1]]), (112, [.agg [.sc, .sc, .sc, .sc, .own true 9 1, .sc, .sc, .sc, .own true 9 1, .sc, .own true 3 1, .sc, .own true 3 1]]), (113, [.one (.sc)]), (114, [.one (.sc)]), (115, [.agg []]), (116, [.one (.sc)]), (117, [.one (.sc)]), (118, [.one (.sc)]), (119, [.one (.sc)]), (120, [.one (.sc)]), (121, [.one (.sc)]), (122, [.one (.sc)]), (123, [.one (.sc)]), (124, [.agg []]), (125, [.agg []]), (126, [.agg []]), (127, [.agg []]), (128, [.one (.sc)]), (129, [.one (.sc)]), (130, [.one (.sc)]), (131, [.one (.sc)]), (132, [.one (.sc)]), (133, [.one (.sc)]), (134, [.one (.sc)]), (135, [.one (.sc)]), (136, []), (137, [.one (.sc)]), (138, [.one (.sc)]), (139, [.agg [.sc, .sc, .sc, .sc, .sc, .sc, .sc, .sc, .pv, .sc, .pv, .sc, .sc, .pv, .sc, .sc, .pv]]), (140, [.one (.pv)]), (141, [.agg [.sc, .sc, .sc, .sc, .sc, .sc, .sc, .sc, .own true 3 1, .sc, .own true 3 1, .sc, .sc, .own true 3 1, .sc, .sc, .own true 182 2]]), (142, [.one (.own true 9 1)]), (143, [.agg [.sc, .sc, .sc, .sc, .sc, .sc, .sc, .sc, .own true 3 1, .sc, .own true 3 1, .sc, .sc, .own true 3 1, .sc, .sc, .own true 182 2]]), (144, [.one (.own true 9 1)]), (145, [.one (.sc)]), (146, [.one (.sc)]), (147, [.one (.sc)]), (148, [.one (.sc)]), (149, [.one (.sc)]), (150, []), (151, [.one (.sc)]), (152, [.one (.sc)]), (153, [.agg [.sc, .sc, .sc, .sc, .sc, .sc, .sc, .sc, .pv, .sc, .pv, .sc, .sc, .pv, .sc, .sc]]), (154, [.agg [.sc, .sc, .sc, .sc, .sc, .sc, .sc, .sc, .own true 3 1, .sc, .own true 3 1, .sc, .sc, .own true 3 1, .sc, .sc]]), (155, [.one (.own true 182 2)]), (156, [.agg [.sc, .sc, .sc, .sc, .sc, .sc, .sc, .sc, .own true 3 1, .sc, .own true 3 1, .sc, .sc, .own true 3 1, .sc, .sc]]), (157, [.one (.own true 182 2)]), (158, [.one (.sc)]), (159, [.one (.sc)]), (160, [.one (.sc)]), (161, [.agg [.pv, .sc]]), (162, [.agg [.own true 3 1, .sc]]), (163, [.agg [.sc, .sc]]), (164, [.agg [.own true 3 1, .sc]]), (165, [.one (.sc)]), (166, []), (167, [.one (.sc)]), (168, []), (169, [.one (.sc)]), (170, []), (171, [.one (.sc)]), (172, []), (173, [.one (.sc)]), (174, []), (175, [.one (.sc)]), (176, []), (177, [.one (.sc)]), (178, [.one (.sc)]), (179, []), (180, [.one (.sc)]), (181, [.one (.sc)]), (182, [.one (.sc)]), (183, [.one (.sc)]), (184, [.one (.sc)]), (185, [.one (.sc)])], false, [], [], [148, 38]⟩
theorem tabok : TabOK Try.prog TT := tabB_ok (by kernel_rfl) (by kernel_rfl)
end Go.Ev
set_option maxRecDepth 100000
set_option linter.unusedVariables false
namespace Go.Ev
open Go.Proofs
--@ laws_markText
def laws_markText_r0 (v : List PV) (K : List PV → Prop) (x0k : PV → PV → PV → Prop) : Prop :=
 un 3 (fun v0 v1 v2 =>
  binP .gtr v0 (I 0) fun r0 =>
  iteP r0
   (binP .rem v0 (I 10) fun r1 =>
   binP .add (I 48) r1 fun r2 =>
   convP .u8 r2 fun r3 =>
   (1 = 1) ∧ (1 ≤ 16777216) ∧ (1 = 1) ∧ (0 = 0) ∧ (1 = 1) ∧ (flatCond [.pv (.int .u8 0)] [.pv r3]) ∧ textP (.list 1 [[r3]]) fun r4 =>
   binP .add r4 v2 fun r5 =>
   binP .quo v0 (I 10) fun r6 =>
   K [r6, v1, r5])
   (x0k v0 v1 v2)) v
def laws_markText : GM
 | [.one a0], k => 
  binP .leq a0 (I 0) fun r0 =>
  iteP r0
   (rt [.sc] [(.str ⟨#[109, 48]⟩)] k)
   (lp (fun L w => laws_markText_r0 w L
    (fun q7 q8 q9 => binP .add (.str ⟨#[109]⟩) q9 fun r10 =>
     rt [.sc] [r10] k)) [a0, (.str ⟨#[]⟩), (.str ⟨#[]⟩)])
 | _, _ => False
abbrev laws_markText_e : Ent := ⟨[54], laws_markText⟩
def laws_markText_l : List LE := [⟨0, ⟨[(0, .one (.pv (.bool false))), (2, .one (.pv (.bool false))), (3, .one (.pv (.bool false)))], [], [], 0, 20⟩, fun K k v => laws_markText_r0 v K (fun x0 x1 x2 => k (.exit 0) ⟨[(0, .one (.pv x0)), (2, .one (.pv x1)), (3, .one (.pv x2))], [], [], 0, 20⟩)⟩]
theorem laws_markText_s : LEsOK (orac []) TT (kk [0, 2, 3]) (sumsOf laws_markText_l) Try.f54 laws_markText_l := ⟨fun v K k h => by
  apply un_all h; exact fun v0 v1 v2 h => Eq.mpr (by kernel_rfl) h
  , trivial⟩
theorem laws_markText_w : EntOK Try.prog TT laws_markText_e := ent_ok tabok (L := []) trivial (keep := (kk [0, 2, 3])) (l := laws_markText_l) Try.func54 (by kernel_rfl) (sg := [.one (.sc)]) (by kernel_rfl) laws_markText_s fun av k h => by
  unfold laws_markText at h; split at h
  · exact Eq.mpr (by kernel_rfl) h
  · exact h.elim

end Go.Ev
/- The texts of counts; the functions that mark what they are handed. -/
set_option maxRecDepth 100000
set_option linter.unusedVariables false
set_option linter.unusedSimpArgs false
namespace Go.Ev
open Go.Proofs
def mdigs (u : Nat) : List UInt8 := if u = 0 then [] else Go.Lib.decDigits u
theorem mdigs_step {u : Nat} (h : u ≠ 0) : mdigs u = mdigs (u / 10) ++ [UInt8.ofNat (48 + u % 10)] := by
  unfold mdigs
  rw [if_neg h]
  by_cases h1 : u < 10
  · rw [Go.Lib.decDigits_one h1, if_pos (by omega), show u % 10 = u by omega]; rfl
  · rw [if_neg (by omega), Go.Lib.decDigits, dif_neg h1]
theorem mdigs_len : ∀ (m u : Nat), u < 10 ^ m → (mdigs u).length ≤ m
  | 0, u, h => by
    have : u = 0 := by simpa using h
    subst this; simp [mdigs]
  | m + 1, u, h => by
    by_cases h0 : u = 0
    · subst h0; simp [mdigs]
    · rw [mdigs_step h0, List.length_append]
      have h2 : u / 10 < 10 ^ m := by rw [Nat.pow_succ] at h; omega
      have := mdigs_len m (u / 10) h2
      simp only [List.length_singleton]; omega
abbrev Sx (l : List UInt8) : PV := .str ⟨l.toArray⟩
theorem bin_strM (a b : List UInt8) (k : PV → Prop) : binP .add (Sx a) (Sx b) k = (a.length + b.length ≤ 9223372036854775807 ∧ k (Sx (a ++ b))) := by
  have e : (⟨a.toArray⟩ : ByteArray) ++ ⟨b.toArray⟩ = ⟨(a ++ b).toArray⟩ := by
    apply ByteArray.ext
    rw [ByteArray.data_append]
    simp
  have h1 : (⟨a.toArray⟩ : ByteArray).size = a.length := by simp [ByteArray.size]
  have h2 : (⟨b.toArray⟩ : ByteArray).size = b.length := by simp [ByteArray.size]
  show (_ ∧ k _) = _
  rw [h1, h2, e]
theorem text_oneM (n : Int) (k : PV → Prop) : textP (.list 1 [[.int .u8 n]]) k = k (Sx [UInt8.ofNat n.toNat]) := rfl
theorem u8_digitM {d : Nat} (h : d < 10) : IntKind.u8.wrap (48 + (d : Int)) = ((48 + d : Nat) : Int) := by
  have : ∀ d : Fin 10, IntKind.u8.wrap (48 + ((d : Nat) : Int)) = ((48 + (d : Nat) : Nat) : Int) := by decide
  exact this ⟨d, h⟩
theorem fc_u8M (n : Int) : flatCond [.pv (.int .u8 0)] [.pv (.int .u8 n)] := by intro x hx; simp at hx; subst hx; rfl
def mtx (n : Int) : ByteArray := if n ≤ 0 then ⟨#[109, 48]⟩ else ⟨([109] ++ mdigs n.toNat).toArray⟩
theorem mtx_lp (z : PV) (A : PV → Prop) : ∀ (m : Nat) (x : Nat) (s : List UInt8), x < 10 ^ m → x < 9223372036854775808 → s.length + m ≤ 1000 →
    (lp (fun L w => laws_markText_r0 w L (fun q7 q8 q9 => A q9)) [I x, z, Sx s] ↔ A (Sx (mdigs x ++ s)))
  | 0, x, s, h, hx, hs => by
    have h0 : x = 0 := by simpa using h
    subst h0
    refine itP_mono_end fun K => ?_
    simp [laws_markText_r0, mdigs]
  | m + 1, x, s, h, hx, hs => by
    by_cases h0 : x = 0
    · subst h0
      refine itP_mono_end fun K => ?_
      simp [laws_markText_r0, mdigs]
    · have hd : x % 10 < 10 := Nat.mod_lt _ (by omega)
      have hq : x / 10 < 10 ^ m := by rw [Nat.pow_succ] at h; omega
      have ih := mtx_lp z A m (x / 10) (UInt8.ofNat (48 + x % 10) :: s) hq (by omega) (by simp only [List.length_cons]; omega)
      have he : mdigs (x / 10) ++ (UInt8.ofNat (48 + x % 10) :: s) = mdigs x ++ s := by
        rw [mdigs_step (u := x) h0, List.append_assoc]; rfl
      rw [he] at ih
      refine (lp_step fun K => ?_).trans ih
      have hb : 1 + s.length ≤ 9223372036854775807 := by omega
      have e1 : (x : Int).tmod 10 = ((x % 10 : Nat) : Int) := by rw [Int.tmod_eq_emod_of_nonneg (by omega)]; rfl
      have e4 : (x : Int).tdiv 10 = ((x / 10 : Nat) : Int) := by rw [Int.tdiv_eq_ediv_of_nonneg (by omega)]; rfl
      have e2 : IntKind.i64.wrap (48 + ((x % 10 : Nat) : Int)) = 48 + ((x % 10 : Nat) : Int) := wr_eq (by omega) (by omega)
      have e3 := u8_digitM hd
      have e5 : IntKind.i64.wrap (((x / 10 : Nat) : Int)) = ((x / 10 : Nat) : Int) := wr_eq (by omega) (by omega)
      simp only [laws_markText_r0, un, cur0, binP_gtr, show (0 : Int) < (x : Int) by omega, decide_true, iteP_eq, if_true, binP_rem, e1, binP_add, e2, convP, e3, fc_u8M, text_oneM, bin_strM, binP_quo, e4, e5, List.length_singleton, List.singleton_append, true_and, hb, Int.toNat_natCast]
      simp
theorem laws_markText_n (n : Int) (h : rg64 n = true) (k) : call laws_markText [.one (I n)] k = k [.str (mtx n)] := call_of (fun k => by
  simp only [rg64, Bool.and_eq_true, decide_eq_true_eq] at h
  unfold mtx
  by_cases h0 : n ≤ 0
  · simp [laws_markText, h0]
  · obtain ⟨x, rfl⟩ : ∃ x : Nat, n = x := ⟨n.toNat, by omega⟩
    simp only [laws_markText, binP_leq, h0, decide_false, iteP_eq, Bool.false_eq_true, if_false]
    have hs : x < 10 ^ 19 := by have : (10 : Nat) ^ 19 = 10000000000000000000 := rfl
                                omega
    refine (mtx_lp (Sx []) (fun q => binP .add (Sx [109]) q fun r => rt [.sc] [r] k) 19 x [] hs (by omega) (by simp)).trans ?_
    have hd := mdigs_len 19 _ hs
    rw [List.append_nil, bin_strM]
    have hl : [109].length + (mdigs x).length ≤ 9223372036854775807 := by simp only [List.length_singleton]; omega
    simp only [true_and, rt_eq, scs_sc, scs_nil, flat_str, Int.toNat_natCast]
    exact ⟨fun q => q.2, fun q => ⟨hl, q⟩⟩) k
theorem laws_markText_n' (n : Int) (h : rg64 n = true) : (laws_markText [.one (I n)] (fun o => o = [.str (mtx n)])) = True := by
  have := laws_markText_n n h (fun o => o = [.str (mtx n)])
  simp only [call] at this
  obtain ⟨out, h1, h2⟩ := of_eq_true this
  subst h2
  exact eq_true h1
theorem mtx_ok : TextOK Try.prog 54 mtx := text_ok (fun _ => trivial) ⟨Try.f54, Try.func54, by kernel_rfl, by kernel_rfl⟩ fun k hk => (laws_markText_w 54 _ _ rfl (of_eq_true (laws_markText_n' k hk)) _ (by kernel_rfl)).1 rfl
abbrev mk_IntS_r : List (Nat × MM) := []
abbrev mk_IntS_s : List (Option Eff × SV) := [(some (.store 0 0), .kk), (none, .kinc)]
def mk_IntS : PV → Int → Option (PV × Int) := mkS mk_IntS_r mtx 1 mk_IntS_s
theorem mk_IntS_ok : MMOK Try.prog 43 (.sl mk_IntS) := slice_ok (T := TT) (st := 39) (ss := mk_IntS_s) tabok (ρ := []) trivial mtx_ok Try.func43 (by kernel_rfl) (by kernel_rfl)
def laws_markIntS : GM := gS mk_IntS
abbrev laws_markIntS_e : Ent := ⟨[43], laws_markIntS⟩
theorem laws_markIntS_w : EntOK Try.prog TT laws_markIntS_e := entS mk_IntS_ok (by kernel_rfl)
abbrev mk_SigS_r : List (Nat × MM) := []
abbrev mk_SigS_s : List (Option Eff × SV) := [(some (.store 0 0), .kk), (none, .kinc), (some (.store 1 0), .kk), (none, .kinc)]
def mk_SigS : PV → Int → Option (PV × Int) := mkS mk_SigS_r mtx 2 mk_SigS_s
theorem mk_SigS_ok : MMOK Try.prog 115 (.sl mk_SigS) := slice_ok (T := TT) (st := 146) (ss := mk_SigS_s) tabok (ρ := []) trivial mtx_ok Try.func115 (by kernel_rfl) (by kernel_rfl)
def laws_markSigS : GM := gS mk_SigS
abbrev laws_markSigS_e : Ent := ⟨[115], laws_markSigS⟩
theorem laws_markSigS_w : EntOK Try.prog TT laws_markSigS_e := entS mk_SigS_ok (by kernel_rfl)
abbrev mk_SignedS_r : List (Nat × MM) := [(43, .sl mk_IntS), (115, .sl mk_SigS)]
abbrev mk_SignedS_s : List (Option Eff × SV) := [(some (.store 0 0), .kk), (none, .kinc), (some (.store 1 0), .kk), (none, .kinc), (some (.store 2 0), .kk), (none, .kinc), (some (.store 3 0), .kk), (none, .kinc), (some (.store 4 0), .kk), (none, .kinc), (some (.store 5 0), .kk), (none, .kinc), (some (.store 6 0), .kk), (none, .kinc), (some (.store 7 0), .kk), (none, .kinc), (some (.call 8 none 43), .res), (some (.store 9 0), .kk), (none, .kinc), (some (.call 10 none 43), .res), (some (.store 11 0), .kk), (none, .kinc), (some (.store 12 0), .kk), (none, .kinc), (some (.call 13 none 43), .res), (some (.store 14 0), .kk), (none, .kinc), (some (.store 15 2), .kk), (none, .kinc), (some (.call 16 none 115), .res)]
def mk_SignedS : PV → Int → Option (PV × Int) := mkS mk_SignedS_r mtx 17 mk_SignedS_s
theorem mk_SignedS_ok : MMOK Try.prog 53 (.sl mk_SignedS) := slice_ok (T := TT) (st := 35) (ss := mk_SignedS_s) tabok (ρ := [(43, .sl mk_IntS), (115, .sl mk_SigS)]) ⟨mk_IntS_ok, mk_SigS_ok, trivial⟩ mtx_ok Try.func53 (by kernel_rfl) (by kernel_rfl)
def laws_markSignedS : GM := gS mk_SignedS
abbrev laws_markSignedS_e : Ent := ⟨[53], laws_markSignedS⟩
theorem laws_markSignedS_w : EntOK Try.prog TT laws_markSignedS_e := entS mk_SignedS_ok (by kernel_rfl)
abbrev mk_StringS_r : List (Nat × MM) := []
abbrev mk_StringS_s : List (Option Eff × SV) := [(some (.store 0 1), .kk), (none, .kinc)]
def mk_StringS : PV → Int → Option (PV × Int) := mkS mk_StringS_r mtx 1 mk_StringS_s
theorem mk_StringS_ok : MMOK Try.prog 55 (.sl mk_StringS) := slice_ok (T := TT) (st := 36) (ss := mk_StringS_s) tabok (ρ := []) trivial mtx_ok Try.func55 (by kernel_rfl) (by kernel_rfl)
def laws_markStringS : GM := gS mk_StringS
abbrev laws_markStringS_e : Ent := ⟨[55], laws_markStringS⟩
theorem laws_markStringS_w : EntOK Try.prog TT laws_markStringS_e := entS mk_StringS_ok (by kernel_rfl)
abbrev mk_Entry_r : List (Nat × MM) := [(55, .sl mk_StringS)]
abbrev mk_Entry_s : List (Option Eff × SV) := [(some (.call 3 none 55), .res)]
def mk_Entry : List PV → Int → Option (List PV × Int) := mkT mk_Entry_r mtx 4 mk_Entry_s
theorem mk_Entry_ok : MMOK Try.prog 56 (.st mk_Entry) := struct_ok (T := TT) (esz := 4) (ss := mk_Entry_s) tabok (ρ := [(55, .sl mk_StringS)]) ⟨mk_StringS_ok, trivial⟩ mtx_ok Try.func56 (by kernel_rfl) (by kernel_rfl)
def laws_markEntry : GM := gT mk_Entry
abbrev laws_markEntry_e : Ent := ⟨[56], laws_markEntry⟩
theorem laws_markEntry_w : EntOK Try.prog TT laws_markEntry_e := entT mk_Entry_ok (by kernel_rfl)
abbrev mk_Proof_r : List (Nat × MM) := [(43, .sl mk_IntS)]
abbrev mk_Proof_s : List (Option Eff × SV) := [(some (.call 1 none 43), .res)]
def mk_Proof : List PV → Int → Option (List PV × Int) := mkT mk_Proof_r mtx 2 mk_Proof_s
theorem mk_Proof_ok : MMOK Try.prog 57 (.st mk_Proof) := struct_ok (T := TT) (esz := 2) (ss := mk_Proof_s) tabok (ρ := [(43, .sl mk_IntS)]) ⟨mk_IntS_ok, trivial⟩ mtx_ok Try.func57 (by kernel_rfl) (by kernel_rfl)
def laws_markProof : GM := gT mk_Proof
abbrev laws_markProof_e : Ent := ⟨[57], laws_markProof⟩
theorem laws_markProof_w : EntOK Try.prog TT laws_markProof_e := entT mk_Proof_ok (by kernel_rfl)
abbrev mk_Gap_r : List (Nat × MM) := [(56, .st mk_Entry), (57, .st mk_Proof)]
abbrev mk_Gap_s : List (Option Eff × SV) := [(some (.call 1 (some 4) 56), .res), (some (.call 5 (some 4) 56), .res), (some (.call 9 (some 2) 57), .res), (some (.call 11 (some 2) 57), .res)]
def mk_Gap : List PV → Int → Option (List PV × Int) := mkT mk_Gap_r mtx 13 mk_Gap_s
theorem mk_Gap_ok : MMOK Try.prog 58 (.st mk_Gap) := struct_ok (T := TT) (esz := 13) (ss := mk_Gap_s) tabok (ρ := [(56, .st mk_Entry), (57, .st mk_Proof)]) ⟨mk_Entry_ok, mk_Proof_ok, trivial⟩ mtx_ok Try.func58 (by kernel_rfl) (by kernel_rfl)
def laws_markGap : GM := gT mk_Gap
abbrev laws_markGap_e : Ent := ⟨[58], laws_markGap⟩
theorem laws_markGap_w : EntOK Try.prog TT laws_markGap_e := entT mk_Gap_ok (by kernel_rfl)
abbrev mk_Answer_r : List (Nat × MM) := [(53, .sl mk_SignedS), (56, .st mk_Entry), (57, .st mk_Proof), (58, .st mk_Gap)]
abbrev mk_Answer_s : List (Option Eff × SV) := [(some (.call 0 none 53), .res), (some (.call 2 (some 4) 56), .res), (some (.call 6 (some 2) 57), .res), (some (.call 8 (some 13) 58), .res)]
def mk_Answer : List PV → Int → Option (List PV × Int) := mkT mk_Answer_r mtx 21 mk_Answer_s
theorem mk_Answer_ok : MMOK Try.prog 23 (.st mk_Answer) := struct_ok (T := TT) (esz := 21) (ss := mk_Answer_s) tabok (ρ := [(53, .sl mk_SignedS), (56, .st mk_Entry), (57, .st mk_Proof), (58, .st mk_Gap)]) ⟨mk_SignedS_ok, mk_Entry_ok, mk_Proof_ok, mk_Gap_ok, trivial⟩ mtx_ok Try.func23 (by kernel_rfl) (by kernel_rfl)
def laws_markAnswer : GM := gT mk_Answer
abbrev laws_markAnswer_e : Ent := ⟨[23], laws_markAnswer⟩
theorem laws_markAnswer_w : EntOK Try.prog TT laws_markAnswer_e := entT mk_Answer_ok (by kernel_rfl)
abbrev mk_AnswerS_r : List (Nat × MM) := [(53, .sl mk_SignedS), (55, .sl mk_StringS), (43, .sl mk_IntS)]
abbrev mk_AnswerS_s : List (Option Eff × SV) := [(some (.call 0 none 53), .res), (some (.store 1 2), .kk), (none, .kinc), (some (.store 2 1), .kk), (none, .kinc), (some (.store 3 0), .kk), (none, .kinc), (some (.store 4 0), .kk), (none, .kinc), (some (.call 5 none 55), .res), (some (.store 6 0), .kk), (none, .kinc), (some (.call 7 none 43), .res), (some (.store 8 0), .kk), (none, .kinc), (some (.store 9 1), .kk), (none, .kinc), (some (.store 10 0), .kk), (none, .kinc), (some (.store 11 0), .kk), (none, .kinc), (some (.call 12 none 55), .res), (some (.store 13 1), .kk), (none, .kinc), (some (.store 14 0), .kk), (none, .kinc), (some (.store 15 0), .kk), (none, .kinc), (some (.call 16 none 55), .res), (some (.store 17 0), .kk), (none, .kinc), (some (.call 18 none 43), .res), (some (.store 19 0), .kk), (none, .kinc), (some (.call 20 none 43), .res)]
def mk_AnswerS : PV → Int → Option (PV × Int) := mkS mk_AnswerS_r mtx 21 mk_AnswerS_s
theorem mk_AnswerS_ok : MMOK Try.prog 22 (.sl mk_AnswerS) := slice_ok (T := TT) (st := 48) (ss := mk_AnswerS_s) tabok (ρ := [(53, .sl mk_SignedS), (55, .sl mk_StringS), (43, .sl mk_IntS)]) ⟨mk_SignedS_ok, mk_StringS_ok, mk_IntS_ok, trivial⟩ mtx_ok Try.func22 (by kernel_rfl) (by kernel_rfl)
def laws_markAnswerS : GM := gS mk_AnswerS
abbrev laws_markAnswerS_e : Ent := ⟨[22], laws_markAnswerS⟩
theorem laws_markAnswerS_w : EntOK Try.prog TT laws_markAnswerS_e := entS mk_AnswerS_ok (by kernel_rfl)
abbrev mk_ActorS_r : List (Nat × MM) := [(43, .sl mk_IntS)]
abbrev mk_ActorS_s : List (Option Eff × SV) := [(some (.call 0 none 43), .res)]
def mk_ActorS : PV → Int → Option (PV × Int) := mkS mk_ActorS_r mtx 1 mk_ActorS_s
theorem mk_ActorS_ok : MMOK Try.prog 12 (.sl mk_ActorS) := slice_ok (T := TT) (st := 24) (ss := mk_ActorS_s) tabok (ρ := [(43, .sl mk_IntS)]) ⟨mk_IntS_ok, trivial⟩ mtx_ok Try.func12 (by kernel_rfl) (by kernel_rfl)
def laws_markActorS : GM := gS mk_ActorS
abbrev laws_markActorS_e : Ent := ⟨[12], laws_markActorS⟩
theorem laws_markActorS_w : EntOK Try.prog TT laws_markActorS_e := entS mk_ActorS_ok (by kernel_rfl)
abbrev mk_EntryS_r : List (Nat × MM) := [(55, .sl mk_StringS)]
abbrev mk_EntryS_s : List (Option Eff × SV) := [(some (.store 0 1), .kk), (none, .kinc), (some (.store 1 0), .kk), (none, .kinc), (some (.store 2 0), .kk), (none, .kinc), (some (.call 3 none 55), .res)]
def mk_EntryS : PV → Int → Option (PV × Int) := mkS mk_EntryS_r mtx 4 mk_EntryS_s
theorem mk_EntryS_ok : MMOK Try.prog 124 (.sl mk_EntryS) := slice_ok (T := TT) (st := 153) (ss := mk_EntryS_s) tabok (ρ := [(55, .sl mk_StringS)]) ⟨mk_StringS_ok, trivial⟩ mtx_ok Try.func124 (by kernel_rfl) (by kernel_rfl)
def laws_markEntryS : GM := gS mk_EntryS
abbrev laws_markEntryS_e : Ent := ⟨[124], laws_markEntryS⟩
theorem laws_markEntryS_w : EntOK Try.prog TT laws_markEntryS_e := entS mk_EntryS_ok (by kernel_rfl)
abbrev mk_ZoneS_r : List (Nat × MM) := [(53, .sl mk_SignedS), (124, .sl mk_EntryS)]
abbrev mk_ZoneS_s : List (Option Eff × SV) := [(some (.call 0 none 53), .res), (some (.call 1 none 124), .res)]
def mk_ZoneS : PV → Int → Option (PV × Int) := mkS mk_ZoneS_r mtx 2 mk_ZoneS_s
theorem mk_ZoneS_ok : MMOK Try.prog 70 (.sl mk_ZoneS) := slice_ok (T := TT) (st := 55) (ss := mk_ZoneS_s) tabok (ρ := [(53, .sl mk_SignedS), (124, .sl mk_EntryS)]) ⟨mk_SignedS_ok, mk_EntryS_ok, trivial⟩ mtx_ok Try.func70 (by kernel_rfl) (by kernel_rfl)
def laws_markZoneS : GM := gS mk_ZoneS
abbrev laws_markZoneS_e : Ent := ⟨[70], laws_markZoneS⟩
theorem laws_markZoneS_w : EntOK Try.prog TT laws_markZoneS_e := entS mk_ZoneS_ok (by kernel_rfl)
abbrev mk_SaidS_r : List (Nat × MM) := [(53, .sl mk_SignedS), (124, .sl mk_EntryS), (43, .sl mk_IntS)]
abbrev mk_SaidS_s : List (Option Eff × SV) := [(some (.call 0 none 53), .res), (some (.call 1 none 124), .res), (some (.call 2 none 43), .res)]
def mk_SaidS : PV → Int → Option (PV × Int) := mkS mk_SaidS_r mtx 3 mk_SaidS_s
theorem mk_SaidS_ok : MMOK Try.prog 71 (.sl mk_SaidS) := slice_ok (T := TT) (st := 56) (ss := mk_SaidS_s) tabok (ρ := [(53, .sl mk_SignedS), (124, .sl mk_EntryS), (43, .sl mk_IntS)]) ⟨mk_SignedS_ok, mk_EntryS_ok, mk_IntS_ok, trivial⟩ mtx_ok Try.func71 (by kernel_rfl) (by kernel_rfl)
def laws_markSaidS : GM := gS mk_SaidS
abbrev laws_markSaidS_e : Ent := ⟨[71], laws_markSaidS⟩
theorem laws_markSaidS_w : EntOK Try.prog TT laws_markSaidS_e := entS mk_SaidS_ok (by kernel_rfl)
abbrev mk_ServerS_r : List (Nat × MM) := [(70, .sl mk_ZoneS)]
abbrev mk_ServerS_s : List (Option Eff × SV) := [(some (.call 0 none 70), .res), (some (.store 1 0), .kk), (none, .kinc)]
def mk_ServerS : PV → Int → Option (PV × Int) := mkS mk_ServerS_r mtx 2 mk_ServerS_s
theorem mk_ServerS_ok : MMOK Try.prog 72 (.sl mk_ServerS) := slice_ok (T := TT) (st := 57) (ss := mk_ServerS_s) tabok (ρ := [(70, .sl mk_ZoneS)]) ⟨mk_ZoneS_ok, trivial⟩ mtx_ok Try.func72 (by kernel_rfl) (by kernel_rfl)
def laws_markServerS : GM := gS mk_ServerS
abbrev laws_markServerS_e : Ent := ⟨[72], laws_markServerS⟩
theorem laws_markServerS_w : EntOK Try.prog TT laws_markServerS_e := entS mk_ServerS_ok (by kernel_rfl)
abbrev mk_SignedSS_r : List (Nat × MM) := [(53, .sl mk_SignedS)]
abbrev mk_SignedSS_s : List (Option Eff × SV) := [(some (.call 0 none 53), .res)]
def mk_SignedSS : PV → Int → Option (PV × Int) := mkS mk_SignedSS_r mtx 1 mk_SignedSS_s
theorem mk_SignedSS_ok : MMOK Try.prog 125 (.sl mk_SignedSS) := slice_ok (T := TT) (st := 58) (ss := mk_SignedSS_s) tabok (ρ := [(53, .sl mk_SignedS)]) ⟨mk_SignedS_ok, trivial⟩ mtx_ok Try.func125 (by kernel_rfl) (by kernel_rfl)
def laws_markSignedSS : GM := gS mk_SignedSS
abbrev laws_markSignedSS_e : Ent := ⟨[125], laws_markSignedSS⟩
theorem laws_markSignedSS_w : EntOK Try.prog TT laws_markSignedSS_e := entS mk_SignedSS_ok (by kernel_rfl)
abbrev mk_ForkS_r : List (Nat × MM) := [(43, .sl mk_IntS), (115, .sl mk_SigS)]
abbrev mk_ForkS_s : List (Option Eff × SV) := [(some (.store 0 0), .kk), (none, .kinc), (some (.store 1 0), .kk), (none, .kinc), (some (.store 2 0), .kk), (none, .kinc), (some (.store 3 0), .kk), (none, .kinc), (some (.store 4 0), .kk), (none, .kinc), (some (.store 5 0), .kk), (none, .kinc), (some (.store 6 0), .kk), (none, .kinc), (some (.store 7 0), .kk), (none, .kinc), (some (.call 8 none 43), .res), (some (.store 9 0), .kk), (none, .kinc), (some (.call 10 none 43), .res), (some (.store 11 0), .kk), (none, .kinc), (some (.store 12 0), .kk), (none, .kinc), (some (.call 13 none 43), .res), (some (.store 14 0), .kk), (none, .kinc), (some (.store 15 2), .kk), (none, .kinc), (some (.call 16 none 115), .res), (some (.store 17 0), .kk), (none, .kinc), (some (.store 18 0), .kk), (none, .kinc), (some (.store 19 0), .kk), (none, .kinc), (some (.store 20 0), .kk), (none, .kinc), (some (.store 21 0), .kk), (none, .kinc), (some (.store 22 0), .kk), (none, .kinc), (some (.store 23 0), .kk), (none, .kinc), (some (.store 24 0), .kk), (none, .kinc), (some (.call 25 none 43), .res), (some (.store 26 0), .kk), (none, .kinc), (some (.call 27 none 43), .res), (some (.store 28 0), .kk), (none, .kinc), (some (.store 29 0), .kk), (none, .kinc), (some (.call 30 none 43), .res), (some (.store 31 0), .kk), (none, .kinc), (some (.store 32 2), .kk), (none, .kinc), (some (.call 33 none 115), .res), (some (.store 34 0), .kk), (none, .kinc), (some (.store 35 0), .kk), (none, .kinc), (some (.store 36 0), .kk), (none, .kinc), (some (.store 37 0), .kk), (none, .kinc), (some (.store 38 0), .kk), (none, .kinc), (some (.store 39 0), .kk), (none, .kinc), (some (.store 40 0), .kk), (none, .kinc), (some (.store 41 0), .kk), (none, .kinc), (some (.call 42 none 43), .res), (some (.store 43 0), .kk), (none, .kinc), (some (.call 44 none 43), .res), (some (.store 45 0), .kk), (none, .kinc), (some (.store 46 0), .kk), (none, .kinc), (some (.call 47 none 43), .res), (some (.store 48 0), .kk), (none, .kinc), (some (.store 49 2), .kk), (none, .kinc), (some (.call 50 none 115), .res)]
def mk_ForkS : PV → Int → Option (PV × Int) := mkS mk_ForkS_r mtx 51 mk_ForkS_s
theorem mk_ForkS_ok : MMOK Try.prog 126 (.sl mk_ForkS) := slice_ok (T := TT) (st := 59) (ss := mk_ForkS_s) tabok (ρ := [(43, .sl mk_IntS), (115, .sl mk_SigS)]) ⟨mk_IntS_ok, mk_SigS_ok, trivial⟩ mtx_ok Try.func126 (by kernel_rfl) (by kernel_rfl)
def laws_markForkS : GM := gS mk_ForkS
abbrev laws_markForkS_e : Ent := ⟨[126], laws_markForkS⟩
theorem laws_markForkS_w : EntOK Try.prog TT laws_markForkS_e := entS mk_ForkS_ok (by kernel_rfl)
abbrev mk_Known_r : List (Nat × MM) := [(125, .sl mk_SignedSS), (126, .sl mk_ForkS)]
abbrev mk_Known_s : List (Option Eff × SV) := [(some (.call 0 none 125), .res), (some (.call 1 none 126), .res)]
def mk_Known : List PV → Int → Option (List PV × Int) := mkT mk_Known_r mtx 2 mk_Known_s
theorem mk_Known_ok : MMOK Try.prog 73 (.st mk_Known) := struct_ok (T := TT) (esz := 2) (ss := mk_Known_s) tabok (ρ := [(125, .sl mk_SignedSS), (126, .sl mk_ForkS)]) ⟨mk_SignedSS_ok, mk_ForkS_ok, trivial⟩ mtx_ok Try.func73 (by kernel_rfl) (by kernel_rfl)
def laws_markKnown : GM := gT mk_Known
abbrev laws_markKnown_e : Ent := ⟨[73], laws_markKnown⟩
theorem laws_markKnown_w : EntOK Try.prog TT laws_markKnown_e := entT mk_Known_ok (by kernel_rfl)
abbrev mk_StoredS_r : List (Nat × MM) := [(53, .sl mk_SignedS), (55, .sl mk_StringS), (43, .sl mk_IntS)]
abbrev mk_StoredS_s : List (Option Eff × SV) := [(some (.store 0 0), .kk), (none, .kinc), (some (.store 1 1), .kk), (none, .kinc), (some (.call 2 none 53), .res), (some (.store 3 2), .kk), (none, .kinc), (some (.store 4 1), .kk), (none, .kinc), (some (.store 5 0), .kk), (none, .kinc), (some (.store 6 0), .kk), (none, .kinc), (some (.call 7 none 55), .res), (some (.store 8 0), .kk), (none, .kinc), (some (.call 9 none 43), .res), (some (.store 10 0), .kk), (none, .kinc), (some (.store 11 1), .kk), (none, .kinc), (some (.store 12 0), .kk), (none, .kinc), (some (.store 13 0), .kk), (none, .kinc), (some (.call 14 none 55), .res), (some (.store 15 1), .kk), (none, .kinc), (some (.store 16 0), .kk), (none, .kinc), (some (.store 17 0), .kk), (none, .kinc), (some (.call 18 none 55), .res), (some (.store 19 0), .kk), (none, .kinc), (some (.call 20 none 43), .res), (some (.store 21 0), .kk), (none, .kinc), (some (.call 22 none 43), .res)]
def mk_StoredS : PV → Int → Option (PV × Int) := mkS mk_StoredS_r mtx 23 mk_StoredS_s
theorem mk_StoredS_ok : MMOK Try.prog 127 (.sl mk_StoredS) := slice_ok (T := TT) (st := 62) (ss := mk_StoredS_s) tabok (ρ := [(53, .sl mk_SignedS), (55, .sl mk_StringS), (43, .sl mk_IntS)]) ⟨mk_SignedS_ok, mk_StringS_ok, mk_IntS_ok, trivial⟩ mtx_ok Try.func127 (by kernel_rfl) (by kernel_rfl)
def laws_markStoredS : GM := gS mk_StoredS
abbrev laws_markStoredS_e : Ent := ⟨[127], laws_markStoredS⟩
theorem laws_markStoredS_w : EntOK Try.prog TT laws_markStoredS_e := entS mk_StoredS_ok (by kernel_rfl)
abbrev mk_Cache_r : List (Nat × MM) := [(127, .sl mk_StoredS)]
abbrev mk_Cache_s : List (Option Eff × SV) := [(some (.call 0 none 127), .res)]
def mk_Cache : List PV → Int → Option (List PV × Int) := mkT mk_Cache_r mtx 1 mk_Cache_s
theorem mk_Cache_ok : MMOK Try.prog 74 (.st mk_Cache) := struct_ok (T := TT) (esz := 1) (ss := mk_Cache_s) tabok (ρ := [(127, .sl mk_StoredS)]) ⟨mk_StoredS_ok, trivial⟩ mtx_ok Try.func74 (by kernel_rfl) (by kernel_rfl)
def laws_markCache : GM := gT mk_Cache
abbrev laws_markCache_e : Ent := ⟨[74], laws_markCache⟩
theorem laws_markCache_w : EntOK Try.prog TT laws_markCache_e := entT mk_Cache_ok (by kernel_rfl)
abbrev mk_World_r : List (Nat × MM) := [(12, .sl mk_ActorS), (70, .sl mk_ZoneS), (71, .sl mk_SaidS), (72, .sl mk_ServerS), (73, .st mk_Known), (74, .st mk_Cache)]
abbrev mk_World_s : List (Option Eff × SV) := [(some (.call 1 none 12), .res), (some (.call 2 none 70), .res), (some (.call 3 none 71), .res), (some (.call 4 none 72), .res), (some (.call 5 (some 2) 73), .res), (some (.call 7 (some 1) 74), .res)]
def mk_World : List PV → Int → Option (List PV × Int) := mkT mk_World_r mtx 8 mk_World_s
theorem mk_World_ok : MMOK Try.prog 28 (.st mk_World) := struct_ok (T := TT) (esz := 8) (ss := mk_World_s) tabok (ρ := [(12, .sl mk_ActorS), (70, .sl mk_ZoneS), (71, .sl mk_SaidS), (72, .sl mk_ServerS), (73, .st mk_Known), (74, .st mk_Cache)]) ⟨mk_ActorS_ok, mk_ZoneS_ok, mk_SaidS_ok, mk_ServerS_ok, mk_Known_ok, mk_Cache_ok, trivial⟩ mtx_ok Try.func28 (by kernel_rfl) (by kernel_rfl)
def laws_markWorld : GM := gT mk_World
abbrev laws_markWorld_e : Ent := ⟨[28], laws_markWorld⟩
theorem laws_markWorld_w : EntOK Try.prog TT laws_markWorld_e := entT mk_World_ok (by kernel_rfl)
end Go.Ev
set_option maxRecDepth 100000
set_option linter.unusedVariables false
namespace Go.Ev
open Go.Proofs
def laws_eqIntS_r0 (v : List PV) (K : List PV → Prop) (x0k : Prop) (x1k : PV → PV → PV → PV → Prop) : Prop :=
 un 4 (fun v0 v1 v2 v3 =>
  lenP v0 fun r0 =>
  binP .lss v3 r0 fun r1 =>
  iteP r1
   (elemP 1 v0 v3 fun c2 =>
   elemP 1 v1 v3 fun c3 =>
   binP .neq (atP c2 0) (atP c3 0) fun r4 =>
   iteP r4
    (x0k)
    (binP .add v3 (I 1) fun r5 =>
    K [v0, v1, v2, r5]))
   (x1k v0 v1 v2 v3)) v
def laws_eqIntS : GM
 | [.one a0, .one a1], k => 
  lenP a0 fun r0 =>
  lenP a1 fun r1 =>
  binP .neq r0 r1 fun r2 =>
  iteP r2
   (rt [.sc] [(.bool false)] k)
   (lp (fun L w => laws_eqIntS_r0 w L
    (rt [.sc] [(.bool false)] k)
    (fun q6 q7 q8 q9 => rt [.sc] [(.bool true)] k)) [a0, a1, (.bool false), (I 0)])
 | _, _ => False
abbrev laws_eqIntS_e : Ent := ⟨[96], laws_eqIntS⟩
def laws_eqIntS_l : List LE := [⟨0, ⟨[(0, .one (.pv (.bool false))), (1, .one (.pv (.bool false))), (4, .one (.pv (.bool false))), (5, .one (.pv (.bool false)))], [], [], 0, 26⟩, fun K k v => laws_eqIntS_r0 v K (k .ret ⟨[(4, .one (.kb false))], [], [], 0, 26⟩) (fun x0 x1 x2 x3 => k (.exit 0) ⟨[(0, .one (.pv x0)), (1, .one (.pv x1)), (4, .one (.pv x2)), (5, .one (.pv x3))], [], [], 0, 26⟩)⟩]
theorem laws_eqIntS_s : LEsOK (orac []) TT (kk [0, 1, 4, 5]) (sumsOf laws_eqIntS_l) Try.f96 laws_eqIntS_l := ⟨fun v K k h => by
  apply un_all h; exact fun v0 v1 v2 v3 h => Eq.mpr (by kernel_rfl) h
  , trivial⟩
theorem laws_eqIntS_w : EntOK Try.prog TT laws_eqIntS_e := ent_ok tabok (L := []) trivial (keep := (kk [0, 1, 4, 5])) (l := laws_eqIntS_l) Try.func96 (by kernel_rfl) (sg := [.one (.sc)]) (by kernel_rfl) laws_eqIntS_s fun av k h => by
  unfold laws_eqIntS at h; split at h
  · exact Eq.mpr (by kernel_rfl) h
  · exact h.elim

def laws_eqKeys : GM
 | [.agg u0, .agg u1], k => un 2 (fun a0 a1 => un 2 (fun a2 a3 => 
  call laws_eqIntS [.one a0, .one a2] fun o0 =>
  unP .not (atP o0 0) fun r1 =>
  iteP r1
   (rt [.sc] [(.bool false)] k)
   (binP .neq a1 a3 fun r2 =>
   iteP r2
    (rt [.sc] [(.bool false)] k)
    (rt [.sc] [(.bool true)] k))) u1) u0
 | _, _ => False
abbrev laws_eqKeys_e : Ent := ⟨[158], laws_eqKeys⟩
theorem laws_eqKeys_w : EntOK Try.prog TT laws_eqKeys_e := ent_ok tabok (L := [laws_eqIntS_e]) ⟨laws_eqIntS_w, trivial⟩ (keep := []) (l := []) Try.func158 (by kernel_rfl) (sg := [.one (.sc)]) (by kernel_rfl) trivial fun av k h => by
  unfold laws_eqKeys at h; split at h
  · apply un_all h; clear h; intro a0 a1 h; apply un_all h; clear h; intro a2 a3 h; exact Eq.mpr (by kernel_rfl) h
  · exact h.elim

def laws_eqHead : GM
 | [.agg u0, .agg u1], k => un 16 (fun a0 a1 a2 a3 a4 a5 a6 a7 a8 a9 a10 a11 a12 a13 a14 a15 => un 16 (fun a16 a17 a18 a19 a20 a21 a22 a23 a24 a25 a26 a27 a28 a29 a30 a31 => 
  binP .neq a0 a16 fun r0 =>
  iteP r0
   (rt [.sc] [(.bool false)] k)
   (binP .neq a1 a17 fun r1 =>
   iteP r1
    (rt [.sc] [(.bool false)] k)
    (binP .neq a2 a18 fun r2 =>
    iteP r2
     (rt [.sc] [(.bool false)] k)
     (binP .neq a3 a19 fun r3 =>
     iteP r3
      (rt [.sc] [(.bool false)] k)
      (binP .neq a4 a20 fun r4 =>
      iteP r4
       (rt [.sc] [(.bool false)] k)
       (binP .neq a5 a21 fun r5 =>
       iteP r5
        (rt [.sc] [(.bool false)] k)
        (binP .neq a6 a22 fun r6 =>
        iteP r6
         (rt [.sc] [(.bool false)] k)
         (binP .neq a7 a23 fun r7 =>
         iteP r7
          (rt [.sc] [(.bool false)] k)
          (call laws_eqKeys [.agg [a8, a9], .agg [a24, a25]] fun o8 =>
          unP .not (atP o8 0) fun r9 =>
          iteP r9
           (rt [.sc] [(.bool false)] k)
           (call laws_eqKeys [.agg [a10, a11], .agg [a26, a27]] fun o10 =>
           unP .not (atP o10 0) fun r11 =>
           iteP r11
            (rt [.sc] [(.bool false)] k)
            (binP .neq a12 a28 fun r12 =>
            iteP r12
             (rt [.sc] [(.bool false)] k)
             (call laws_eqKeys [.agg [a13, a14], .agg [a29, a30]] fun o13 =>
             unP .not (atP o13 0) fun r14 =>
             iteP r14
              (rt [.sc] [(.bool false)] k)
              (boolP .neq a15 a31 fun r15 =>
              iteP r15
               (rt [.sc] [(.bool false)] k)
               (rt [.sc] [(.bool true)] k)))))))))))))) u1) u0
 | _, _ => False
abbrev laws_eqHead_e : Ent := ⟨[145], laws_eqHead⟩
theorem laws_eqHead_w : EntOK Try.prog TT laws_eqHead_e := ent_ok tabok (L := [laws_eqKeys_e]) ⟨laws_eqKeys_w, trivial⟩ (keep := []) (l := []) Try.func145 (by kernel_rfl) (sg := [.one (.sc)]) (by kernel_rfl) trivial fun av k h => by
  unfold laws_eqHead at h; split at h
  · apply un_all h; clear h; intro a0 a1 a2 a3 a4 a5 a6 a7 a8 a9 a10 a11 a12 a13 a14 a15 h; apply un_all h; clear h; intro a16 a17 a18 a19 a20 a21 a22 a23 a24 a25 a26 a27 a28 a29 a30 a31 h; exact Eq.mpr (by kernel_rfl) h
  · exact h.elim

def laws_eqSig : GM
 | [.agg u0, .agg u1], k => un 2 (fun a0 a1 => un 2 (fun a2 a3 => 
  binP .neq a0 a2 fun r0 =>
  iteP r0
   (rt [.sc] [(.bool false)] k)
   (binP .neq a1 a3 fun r1 =>
   iteP r1
    (rt [.sc] [(.bool false)] k)
    (rt [.sc] [(.bool true)] k))) u1) u0
 | _, _ => False
abbrev laws_eqSig_e : Ent := ⟨[159], laws_eqSig⟩
theorem laws_eqSig_w : EntOK Try.prog TT laws_eqSig_e := ent_ok tabok (L := []) trivial (keep := []) (l := []) Try.func159 (by kernel_rfl) (sg := [.one (.sc)]) (by kernel_rfl) trivial fun av k h => by
  unfold laws_eqSig at h; split at h
  · apply un_all h; clear h; intro a0 a1 h; apply un_all h; clear h; intro a2 a3 h; exact Eq.mpr (by kernel_rfl) h
  · exact h.elim

def laws_eqSigS_r0 (v : List PV) (K : List PV → Prop) (x0k : Prop) (x1k : PV → PV → PV → PV → Prop) : Prop :=
 un 4 (fun v0 v1 v2 v3 =>
  lenP v0 fun r0 =>
  binP .lss v3 r0 fun r1 =>
  iteP r1
   (elemP 2 v0 v3 fun c2 =>
   elemP 2 v1 v3 fun c3 =>
   call laws_eqSig [.agg [(atP c2 0), (atP c2 1)], .agg [(atP c3 0), (atP c3 1)]] fun o4 =>
   unP .not (atP o4 0) fun r5 =>
   iteP r5
    (x0k)
    (binP .add v3 (I 1) fun r6 =>
    K [v0, v1, v2, r6]))
   (x1k v0 v1 v2 v3)) v
def laws_eqSigS : GM
 | [.one a0, .one a1], k => 
  lenP a0 fun r0 =>
  lenP a1 fun r1 =>
  binP .neq r0 r1 fun r2 =>
  iteP r2
   (rt [.sc] [(.bool false)] k)
   (lp (fun L w => laws_eqSigS_r0 w L
    (rt [.sc] [(.bool false)] k)
    (fun q7 q8 q9 q10 => rt [.sc] [(.bool true)] k)) [a0, a1, (.bool false), (I 0)])
 | _, _ => False
abbrev laws_eqSigS_e : Ent := ⟨[146], laws_eqSigS⟩
def laws_eqSigS_l : List LE := [⟨0, ⟨[(0, .one (.pv (.bool false))), (1, .one (.pv (.bool false))), (4, .one (.pv (.bool false))), (5, .one (.pv (.bool false)))], [], [], 0, 27⟩, fun K k v => laws_eqSigS_r0 v K (k .ret ⟨[(4, .one (.kb false))], [], [], 1, 27⟩) (fun x0 x1 x2 x3 => k (.exit 0) ⟨[(0, .one (.pv x0)), (1, .one (.pv x1)), (4, .one (.pv x2)), (5, .one (.pv x3))], [], [], 0, 27⟩)⟩]
theorem laws_eqSigS_s : LEsOK (orac [laws_eqSig_e]) TT (kk [0, 1, 4, 5]) (sumsOf laws_eqSigS_l) Try.f146 laws_eqSigS_l := ⟨fun v K k h => by
  apply un_all h; exact fun v0 v1 v2 v3 h => Eq.mpr (by kernel_rfl) h
  , trivial⟩
theorem laws_eqSigS_w : EntOK Try.prog TT laws_eqSigS_e := ent_ok tabok (L := [laws_eqSig_e]) ⟨laws_eqSig_w, trivial⟩ (keep := (kk [0, 1, 4, 5])) (l := laws_eqSigS_l) Try.func146 (by kernel_rfl) (sg := [.one (.sc)]) (by kernel_rfl) laws_eqSigS_s fun av k h => by
  unfold laws_eqSigS at h; split at h
  · exact Eq.mpr (by kernel_rfl) h
  · exact h.elim

def laws_eqSigned : GM
 | [.agg u0, .agg u1], k => un 17 (fun a0 a1 a2 a3 a4 a5 a6 a7 a8 a9 a10 a11 a12 a13 a14 a15 a16 => un 17 (fun a17 a18 a19 a20 a21 a22 a23 a24 a25 a26 a27 a28 a29 a30 a31 a32 a33 => 
  call laws_eqHead [.agg [a0, a1, a2, a3, a4, a5, a6, a7, a8, a9, a10, a11, a12, a13, a14, a15], .agg [a17, a18, a19, a20, a21, a22, a23, a24, a25, a26, a27, a28, a29, a30, a31, a32]] fun o0 =>
  unP .not (atP o0 0) fun r1 =>
  iteP r1
   (rt [.sc] [(.bool false)] k)
   (call laws_eqSigS [.one a16, .one a33] fun o2 =>
   unP .not (atP o2 0) fun r3 =>
   iteP r3
    (rt [.sc] [(.bool false)] k)
    (rt [.sc] [(.bool true)] k))) u1) u0
 | _, _ => False
abbrev laws_eqSigned_e : Ent := ⟨[113], laws_eqSigned⟩
theorem laws_eqSigned_w : EntOK Try.prog TT laws_eqSigned_e := ent_ok tabok (L := [laws_eqHead_e, laws_eqSigS_e]) ⟨laws_eqHead_w, laws_eqSigS_w, trivial⟩ (keep := []) (l := []) Try.func113 (by kernel_rfl) (sg := [.one (.sc)]) (by kernel_rfl) trivial fun av k h => by
  unfold laws_eqSigned at h; split at h
  · apply un_all h; clear h; intro a0 a1 a2 a3 a4 a5 a6 a7 a8 a9 a10 a11 a12 a13 a14 a15 a16 h; apply un_all h; clear h; intro a17 a18 a19 a20 a21 a22 a23 a24 a25 a26 a27 a28 a29 a30 a31 a32 a33 h; exact Eq.mpr (by kernel_rfl) h
  · exact h.elim

def laws_eqSignedS_r0 (v : List PV) (K : List PV → Prop) (x0k : Prop) (x1k : PV → PV → PV → PV → Prop) : Prop :=
 un 4 (fun v0 v1 v2 v3 =>
  lenP v0 fun r0 =>
  binP .lss v3 r0 fun r1 =>
  iteP r1
   (elemP 17 v0 v3 fun c2 =>
   elemP 17 v1 v3 fun c3 =>
   call laws_eqSigned [.agg [(atP c2 0), (atP c2 1), (atP c2 2), (atP c2 3), (atP c2 4), (atP c2 5), (atP c2 6), (atP c2 7), (atP c2 8), (atP c2 9), (atP c2 10), (atP c2 11), (atP c2 12), (atP c2 13), (atP c2 14), (atP c2 15), (atP c2 16)], .agg [(atP c3 0), (atP c3 1), (atP c3 2), (atP c3 3), (atP c3 4), (atP c3 5), (atP c3 6), (atP c3 7), (atP c3 8), (atP c3 9), (atP c3 10), (atP c3 11), (atP c3 12), (atP c3 13), (atP c3 14), (atP c3 15), (atP c3 16)]] fun o4 =>
   unP .not (atP o4 0) fun r5 =>
   iteP r5
    (x0k)
    (binP .add v3 (I 1) fun r6 =>
    K [v0, v1, v2, r6]))
   (x1k v0 v1 v2 v3)) v
def laws_eqSignedS : GM
 | [.one a0, .one a1], k => 
  lenP a0 fun r0 =>
  lenP a1 fun r1 =>
  binP .neq r0 r1 fun r2 =>
  iteP r2
   (rt [.sc] [(.bool false)] k)
   (lp (fun L w => laws_eqSignedS_r0 w L
    (rt [.sc] [(.bool false)] k)
    (fun q7 q8 q9 q10 => rt [.sc] [(.bool true)] k)) [a0, a1, (.bool false), (I 0)])
 | _, _ => False
abbrev laws_eqSignedS_e : Ent := ⟨[49], laws_eqSignedS⟩
def laws_eqSignedS_l : List LE := [⟨0, ⟨[(0, .one (.pv (.bool false))), (1, .one (.pv (.bool false))), (4, .one (.pv (.bool false))), (5, .one (.pv (.bool false)))], [], [], 0, 27⟩, fun K k v => laws_eqSignedS_r0 v K (k .ret ⟨[(4, .one (.kb false))], [], [], 1, 27⟩) (fun x0 x1 x2 x3 => k (.exit 0) ⟨[(0, .one (.pv x0)), (1, .one (.pv x1)), (4, .one (.pv x2)), (5, .one (.pv x3))], [], [], 0, 27⟩)⟩]
theorem laws_eqSignedS_s : LEsOK (orac [laws_eqSigned_e]) TT (kk [0, 1, 4, 5]) (sumsOf laws_eqSignedS_l) Try.f49 laws_eqSignedS_l := ⟨fun v K k h => by
  apply un_all h; exact fun v0 v1 v2 v3 h => Eq.mpr (by kernel_rfl) h
  , trivial⟩
theorem laws_eqSignedS_w : EntOK Try.prog TT laws_eqSignedS_e := ent_ok tabok (L := [laws_eqSigned_e]) ⟨laws_eqSigned_w, trivial⟩ (keep := (kk [0, 1, 4, 5])) (l := laws_eqSignedS_l) Try.func49 (by kernel_rfl) (sg := [.one (.sc)]) (by kernel_rfl) laws_eqSignedS_s fun av k h => by
  unfold laws_eqSignedS at h; split at h
  · exact Eq.mpr (by kernel_rfl) h
  · exact h.elim

def laws_eqStringS_r0 (v : List PV) (K : List PV → Prop) (x0k : Prop) (x1k : PV → PV → PV → PV → Prop) : Prop :=
 un 4 (fun v0 v1 v2 v3 =>
  lenP v0 fun r0 =>
  binP .lss v3 r0 fun r1 =>
  iteP r1
   (elemP 1 v0 v3 fun c2 =>
   elemP 1 v1 v3 fun c3 =>
   binP .neq (atP c2 0) (atP c3 0) fun r4 =>
   iteP r4
    (x0k)
    (binP .add v3 (I 1) fun r5 =>
    K [v0, v1, v2, r5]))
   (x1k v0 v1 v2 v3)) v
def laws_eqStringS : GM
 | [.one a0, .one a1], k => 
  lenP a0 fun r0 =>
  lenP a1 fun r1 =>
  binP .neq r0 r1 fun r2 =>
  iteP r2
   (rt [.sc] [(.bool false)] k)
   (lp (fun L w => laws_eqStringS_r0 w L
    (rt [.sc] [(.bool false)] k)
    (fun q6 q7 q8 q9 => rt [.sc] [(.bool true)] k)) [a0, a1, (.bool false), (I 0)])
 | _, _ => False
abbrev laws_eqStringS_e : Ent := ⟨[114], laws_eqStringS⟩
def laws_eqStringS_l : List LE := [⟨0, ⟨[(0, .one (.pv (.bool false))), (1, .one (.pv (.bool false))), (4, .one (.pv (.bool false))), (5, .one (.pv (.bool false)))], [], [], 0, 26⟩, fun K k v => laws_eqStringS_r0 v K (k .ret ⟨[(4, .one (.kb false))], [], [], 0, 26⟩) (fun x0 x1 x2 x3 => k (.exit 0) ⟨[(0, .one (.pv x0)), (1, .one (.pv x1)), (4, .one (.pv x2)), (5, .one (.pv x3))], [], [], 0, 26⟩)⟩]
theorem laws_eqStringS_s : LEsOK (orac []) TT (kk [0, 1, 4, 5]) (sumsOf laws_eqStringS_l) Try.f114 laws_eqStringS_l := ⟨fun v K k h => by
  apply un_all h; exact fun v0 v1 v2 v3 h => Eq.mpr (by kernel_rfl) h
  , trivial⟩
theorem laws_eqStringS_w : EntOK Try.prog TT laws_eqStringS_e := ent_ok tabok (L := []) trivial (keep := (kk [0, 1, 4, 5])) (l := laws_eqStringS_l) Try.func114 (by kernel_rfl) (sg := [.one (.sc)]) (by kernel_rfl) laws_eqStringS_s fun av k h => by
  unfold laws_eqStringS at h; split at h
  · exact Eq.mpr (by kernel_rfl) h
  · exact h.elim

def laws_eqEntry : GM
 | [.agg u0, .agg u1], k => un 4 (fun a0 a1 a2 a3 => un 4 (fun a4 a5 a6 a7 => 
  binP .neq a0 a4 fun r0 =>
  iteP r0
   (rt [.sc] [(.bool false)] k)
   (binP .neq a1 a5 fun r1 =>
   iteP r1
    (rt [.sc] [(.bool false)] k)
    (binP .neq a2 a6 fun r2 =>
    iteP r2
     (rt [.sc] [(.bool false)] k)
     (call laws_eqStringS [.one a3, .one a7] fun o3 =>
     unP .not (atP o3 0) fun r4 =>
     iteP r4
      (rt [.sc] [(.bool false)] k)
      (rt [.sc] [(.bool true)] k))))) u1) u0
 | _, _ => False
abbrev laws_eqEntry_e : Ent := ⟨[50], laws_eqEntry⟩
theorem laws_eqEntry_w : EntOK Try.prog TT laws_eqEntry_e := ent_ok tabok (L := [laws_eqStringS_e]) ⟨laws_eqStringS_w, trivial⟩ (keep := []) (l := []) Try.func50 (by kernel_rfl) (sg := [.one (.sc)]) (by kernel_rfl) trivial fun av k h => by
  unfold laws_eqEntry at h; split at h
  · apply un_all h; clear h; intro a0 a1 a2 a3 h; apply un_all h; clear h; intro a4 a5 a6 a7 h; exact Eq.mpr (by kernel_rfl) h
  · exact h.elim

def laws_eqProof : GM
 | [.agg u0, .agg u1], k => un 2 (fun a0 a1 => un 2 (fun a2 a3 => 
  binP .neq a0 a2 fun r0 =>
  iteP r0
   (rt [.sc] [(.bool false)] k)
   (call laws_eqIntS [.one a1, .one a3] fun o1 =>
   unP .not (atP o1 0) fun r2 =>
   iteP r2
    (rt [.sc] [(.bool false)] k)
    (rt [.sc] [(.bool true)] k))) u1) u0
 | _, _ => False
abbrev laws_eqProof_e : Ent := ⟨[51], laws_eqProof⟩
theorem laws_eqProof_w : EntOK Try.prog TT laws_eqProof_e := ent_ok tabok (L := [laws_eqIntS_e]) ⟨laws_eqIntS_w, trivial⟩ (keep := []) (l := []) Try.func51 (by kernel_rfl) (sg := [.one (.sc)]) (by kernel_rfl) trivial fun av k h => by
  unfold laws_eqProof at h; split at h
  · apply un_all h; clear h; intro a0 a1 h; apply un_all h; clear h; intro a2 a3 h; exact Eq.mpr (by kernel_rfl) h
  · exact h.elim

def laws_eqGap : GM
 | [.agg u0, .agg u1], k => un 13 (fun a0 a1 a2 a3 a4 a5 a6 a7 a8 a9 a10 a11 a12 => un 13 (fun a13 a14 a15 a16 a17 a18 a19 a20 a21 a22 a23 a24 a25 => 
  binP .neq a0 a13 fun r0 =>
  iteP r0
   (rt [.sc] [(.bool false)] k)
   (call laws_eqEntry [.agg [a1, a2, a3, a4], .agg [a14, a15, a16, a17]] fun o1 =>
   unP .not (atP o1 0) fun r2 =>
   iteP r2
    (rt [.sc] [(.bool false)] k)
    (call laws_eqEntry [.agg [a5, a6, a7, a8], .agg [a18, a19, a20, a21]] fun o3 =>
    unP .not (atP o3 0) fun r4 =>
    iteP r4
     (rt [.sc] [(.bool false)] k)
     (call laws_eqProof [.agg [a9, a10], .agg [a22, a23]] fun o5 =>
     unP .not (atP o5 0) fun r6 =>
     iteP r6
      (rt [.sc] [(.bool false)] k)
      (call laws_eqProof [.agg [a11, a12], .agg [a24, a25]] fun o7 =>
      unP .not (atP o7 0) fun r8 =>
      iteP r8
       (rt [.sc] [(.bool false)] k)
       (rt [.sc] [(.bool true)] k)))))) u1) u0
 | _, _ => False
abbrev laws_eqGap_e : Ent := ⟨[52], laws_eqGap⟩
theorem laws_eqGap_w : EntOK Try.prog TT laws_eqGap_e := ent_ok tabok (L := [laws_eqEntry_e, laws_eqProof_e]) ⟨laws_eqEntry_w, laws_eqProof_w, trivial⟩ (keep := []) (l := []) Try.func52 (by kernel_rfl) (sg := [.one (.sc)]) (by kernel_rfl) trivial fun av k h => by
  unfold laws_eqGap at h; split at h
  · apply un_all h; clear h; intro a0 a1 a2 a3 a4 a5 a6 a7 a8 a9 a10 a11 a12 h; apply un_all h; clear h; intro a13 a14 a15 a16 a17 a18 a19 a20 a21 a22 a23 a24 a25 h; exact Eq.mpr (by kernel_rfl) h
  · exact h.elim

def laws_eqAnswer : GM
 | [.agg u0, .agg u1], k => un 21 (fun a0 a1 a2 a3 a4 a5 a6 a7 a8 a9 a10 a11 a12 a13 a14 a15 a16 a17 a18 a19 a20 => un 21 (fun a21 a22 a23 a24 a25 a26 a27 a28 a29 a30 a31 a32 a33 a34 a35 a36 a37 a38 a39 a40 a41 => 
  call laws_eqSignedS [.one a0, .one a21] fun o0 =>
  unP .not (atP o0 0) fun r1 =>
  iteP r1
   (rt [.sc] [(.bool false)] k)
   (boolP .neq a1 a22 fun r2 =>
   iteP r2
    (rt [.sc] [(.bool false)] k)
    (call laws_eqEntry [.agg [a2, a3, a4, a5], .agg [a23, a24, a25, a26]] fun o3 =>
    unP .not (atP o3 0) fun r4 =>
    iteP r4
     (rt [.sc] [(.bool false)] k)
     (call laws_eqProof [.agg [a6, a7], .agg [a27, a28]] fun o5 =>
     unP .not (atP o5 0) fun r6 =>
     iteP r6
      (rt [.sc] [(.bool false)] k)
      (call laws_eqGap [.agg [a8, a9, a10, a11, a12, a13, a14, a15, a16, a17, a18, a19, a20], .agg [a29, a30, a31, a32, a33, a34, a35, a36, a37, a38, a39, a40, a41]] fun o7 =>
      unP .not (atP o7 0) fun r8 =>
      iteP r8
       (rt [.sc] [(.bool false)] k)
       (rt [.sc] [(.bool true)] k)))))) u1) u0
 | _, _ => False
abbrev laws_eqAnswer_e : Ent := ⟨[20], laws_eqAnswer⟩
theorem laws_eqAnswer_w : EntOK Try.prog TT laws_eqAnswer_e := ent_ok tabok (L := [laws_eqSignedS_e, laws_eqEntry_e, laws_eqProof_e, laws_eqGap_e]) ⟨laws_eqSignedS_w, laws_eqEntry_w, laws_eqProof_w, laws_eqGap_w, trivial⟩ (keep := []) (l := []) Try.func20 (by kernel_rfl) (sg := [.one (.sc)]) (by kernel_rfl) trivial fun av k h => by
  unfold laws_eqAnswer at h; split at h
  · apply un_all h; clear h; intro a0 a1 a2 a3 a4 a5 a6 a7 a8 a9 a10 a11 a12 a13 a14 a15 a16 a17 a18 a19 a20 h; apply un_all h; clear h; intro a21 a22 a23 a24 a25 a26 a27 a28 a29 a30 a31 a32 a33 a34 a35 a36 a37 a38 a39 a40 a41 h; exact Eq.mpr (by kernel_rfl) h
  · exact h.elim

def laws_heldIntS_r0 (v : List PV) (K : List PV → Prop) (x0k : Prop) (x1k : PV → PV → PV → PV → Prop) : Prop :=
 un 4 (fun v0 v1 v2 v3 =>
  lenP v0 fun r0 =>
  binP .lss v3 r0 fun r1 =>
  iteP r1
   (elemP 1 v0 v3 fun c2 =>
   binP .neq (atP c2 0) v1 fun r3 =>
   iteP r3
    (x0k)
    (binP .add v1 (I 1) fun r4 =>
    binP .add v3 (I 1) fun r5 =>
    K [v0, r4, v2, r5]))
   (x1k v0 v1 v2 v3)) v
def laws_heldIntS : GM
 | [.one a0, .one a1], k => 
  lp (fun L w => laws_heldIntS_r0 w L
   (rt [.sc] [(I (-1))] k)
   (fun q6 q7 q8 q9 => rt [.sc] [q7] k)) [a0, a1, (I 0), (I 0)]
 | _, _ => False
abbrev laws_heldIntS_e : Ent := ⟨[44], laws_heldIntS⟩
def laws_heldIntS_l : List LE := [⟨0, ⟨[(0, .one (.pv (.bool false))), (1, .one (.pv (.bool false))), (4, .one (.pv (.bool false))), (5, .one (.pv (.bool false)))], [], [], 0, 21⟩, fun K k v => laws_heldIntS_r0 v K (k .ret ⟨[(4, .one (.pv (I (-1))))], [], [], 0, 21⟩) (fun x0 x1 x2 x3 => k (.exit 0) ⟨[(0, .one (.pv x0)), (1, .one (.pv x1)), (4, .one (.pv x2)), (5, .one (.pv x3))], [], [], 0, 21⟩)⟩]
theorem laws_heldIntS_s : LEsOK (orac []) TT (kk [0, 1, 4, 5]) (sumsOf laws_heldIntS_l) Try.f44 laws_heldIntS_l := ⟨fun v K k h => by
  apply un_all h; exact fun v0 v1 v2 v3 h => Eq.mpr (by kernel_rfl) h
  , trivial⟩
theorem laws_heldIntS_w : EntOK Try.prog TT laws_heldIntS_e := ent_ok tabok (L := []) trivial (keep := (kk [0, 1, 4, 5])) (l := laws_heldIntS_l) Try.func44 (by kernel_rfl) (sg := [.one (.sc)]) (by kernel_rfl) laws_heldIntS_s fun av k h => by
  unfold laws_heldIntS at h; split at h
  · exact Eq.mpr (by kernel_rfl) h
  · exact h.elim

def laws_heldSigS_r0 (v : List PV) (K : List PV → Prop) (x0k : Prop) (x1k : PV → PV → PV → PV → Prop) : Prop :=
 un 4 (fun v0 v1 v2 v3 =>
  lenP v0 fun r0 =>
  binP .lss v3 r0 fun r1 =>
  iteP r1
   (elemP 2 v0 v3 fun c2 =>
   binP .neq (atP c2 0) v1 fun r3 =>
   iteP r3
    (x0k)
    (binP .add v1 (I 1) fun r4 =>
    elemP 2 v0 v3 fun c5 =>
    binP .neq (atP c5 1) r4 fun r6 =>
    iteP r6
     (x0k)
     (binP .add r4 (I 1) fun r7 =>
     binP .add v3 (I 1) fun r8 =>
     K [v0, r7, v2, r8])))
   (x1k v0 v1 v2 v3)) v
def laws_heldSigS : GM
 | [.one a0, .one a1], k => 
  lp (fun L w => laws_heldSigS_r0 w L
   (rt [.sc] [(I (-1))] k)
   (fun q9 q10 q11 q12 => rt [.sc] [q10] k)) [a0, a1, (I 0), (I 0)]
 | _, _ => False
abbrev laws_heldSigS_e : Ent := ⟨[116], laws_heldSigS⟩
def laws_heldSigS_l : List LE := [⟨0, ⟨[(0, .one (.pv (.bool false))), (1, .one (.pv (.bool false))), (4, .one (.pv (.bool false))), (5, .one (.pv (.bool false)))], [], [], 0, 31⟩, fun K k v => laws_heldSigS_r0 v K (k .ret ⟨[(4, .one (.pv (I (-1))))], [], [], 0, 31⟩) (fun x0 x1 x2 x3 => k (.exit 0) ⟨[(0, .one (.pv x0)), (1, .one (.pv x1)), (4, .one (.pv x2)), (5, .one (.pv x3))], [], [], 0, 31⟩)⟩]
theorem laws_heldSigS_s : LEsOK (orac []) TT (kk [0, 1, 4, 5]) (sumsOf laws_heldSigS_l) Try.f116 laws_heldSigS_l := ⟨fun v K k h => by
  apply un_all h; exact fun v0 v1 v2 v3 h => Eq.mpr (by kernel_rfl) h
  , trivial⟩
theorem laws_heldSigS_w : EntOK Try.prog TT laws_heldSigS_e := ent_ok tabok (L := []) trivial (keep := (kk [0, 1, 4, 5])) (l := laws_heldSigS_l) Try.func116 (by kernel_rfl) (sg := [.one (.sc)]) (by kernel_rfl) laws_heldSigS_s fun av k h => by
  unfold laws_heldSigS at h; split at h
  · exact Eq.mpr (by kernel_rfl) h
  · exact h.elim

def laws_heldSignedS_r0 (v : List PV) (K : List PV → Prop) (x0k : Prop) (x1k : Prop) (x2k : Prop) (x3k : Prop) (x4k : Prop) (x5k : PV → PV → PV → PV → Prop) : Prop :=
 un 4 (fun v0 v1 v2 v3 =>
  lenP v0 fun r0 =>
  binP .lss v3 r0 fun r1 =>
  iteP r1
   (elemP 17 v0 v3 fun c2 =>
   binP .neq (atP c2 0) v1 fun r3 =>
   iteP r3
    (x0k)
    (binP .add v1 (I 1) fun r4 =>
    elemP 17 v0 v3 fun c5 =>
    binP .neq (atP c5 1) r4 fun r6 =>
    iteP r6
     (x0k)
     (binP .add r4 (I 1) fun r7 =>
     elemP 17 v0 v3 fun c8 =>
     binP .neq (atP c8 2) r7 fun r9 =>
     iteP r9
      (x0k)
      (binP .add r7 (I 1) fun r10 =>
      elemP 17 v0 v3 fun c11 =>
      binP .neq (atP c11 3) r10 fun r12 =>
      iteP r12
       (x0k)
       (binP .add r10 (I 1) fun r13 =>
       elemP 17 v0 v3 fun c14 =>
       binP .neq (atP c14 4) r13 fun r15 =>
       iteP r15
        (x0k)
        (binP .add r13 (I 1) fun r16 =>
        elemP 17 v0 v3 fun c17 =>
        binP .neq (atP c17 5) r16 fun r18 =>
        iteP r18
         (x0k)
         (binP .add r16 (I 1) fun r19 =>
         elemP 17 v0 v3 fun c20 =>
         binP .neq (atP c20 6) r19 fun r21 =>
         iteP r21
          (x0k)
          (binP .add r19 (I 1) fun r22 =>
          elemP 17 v0 v3 fun c23 =>
          binP .neq (atP c23 7) r22 fun r24 =>
          iteP r24
           (x0k)
           (binP .add r22 (I 1) fun r25 =>
           elemP 17 v0 v3 fun c26 =>
           call laws_heldIntS [.one (atP c26 8), .one r25] fun o27 =>
           binP .lss (atP o27 0) (I 0) fun r28 =>
           iteP r28
            (x1k)
            (elemP 17 v0 v3 fun c29 =>
            binP .neq (atP c29 9) (atP o27 0) fun r30 =>
            iteP r30
             (x1k)
             (binP .add (atP o27 0) (I 1) fun r31 =>
             elemP 17 v0 v3 fun c32 =>
             call laws_heldIntS [.one (atP c32 10), .one r31] fun o33 =>
             binP .lss (atP o33 0) (I 0) fun r34 =>
             iteP r34
              (x2k)
              (elemP 17 v0 v3 fun c35 =>
              binP .neq (atP c35 11) (atP o33 0) fun r36 =>
              iteP r36
               (x2k)
               (binP .add (atP o33 0) (I 1) fun r37 =>
               elemP 17 v0 v3 fun c38 =>
               binP .neq (atP c38 12) r37 fun r39 =>
               iteP r39
                (x2k)
                (binP .add r37 (I 1) fun r40 =>
                elemP 17 v0 v3 fun c41 =>
                call laws_heldIntS [.one (atP c41 13), .one r40] fun o42 =>
                binP .lss (atP o42 0) (I 0) fun r43 =>
                iteP r43
                 (x3k)
                 (elemP 17 v0 v3 fun c44 =>
                 binP .neq (atP c44 14) (atP o42 0) fun r45 =>
                 iteP r45
                  (x3k)
                  (binP .add (atP o42 0) (I 1) fun r46 =>
                  elemP 17 v0 v3 fun c47 =>
                  binP .rem r46 (I 3) fun r48 =>
                  binP .eql r48 (I 0) fun r49 =>
                  boolP .neq (atP c47 15) r49 fun r50 =>
                  iteP r50
                   (x3k)
                   (binP .add r46 (I 1) fun r51 =>
                   elemP 17 v0 v3 fun c52 =>
                   call laws_heldSigS [.one (atP c52 16), .one r51] fun o53 =>
                   binP .lss (atP o53 0) (I 0) fun r54 =>
                   iteP r54
                    (x4k)
                    (binP .add v3 (I 1) fun r55 =>
                    K [v0, (atP o53 0), v2, r55]))))))))))))))))))
   (x5k v0 v1 v2 v3)) v
def laws_heldSignedS : GM
 | [.one a0, .one a1], k => 
  lp (fun L w => laws_heldSignedS_r0 w L
   (rt [.sc] [(I (-1))] k)
   (rt [.sc] [(I (-1))] k)
   (rt [.sc] [(I (-1))] k)
   (rt [.sc] [(I (-1))] k)
   (rt [.sc] [(I (-1))] k)
   (fun q56 q57 q58 q59 => rt [.sc] [q57] k)) [a0, a1, (I 0), (I 0)]
 | _, _ => False
abbrev laws_heldSignedS_e : Ent := ⟨[59], laws_heldSignedS⟩
def laws_heldSignedS_l : List LE := [⟨0, ⟨[(0, .one (.pv (.bool false))), (1, .one (.pv (.bool false))), (4, .one (.pv (.bool false))), (5, .one (.pv (.bool false)))], [], [], 0, 190⟩, fun K k v => laws_heldSignedS_r0 v K (k .ret ⟨[(4, .one (.pv (I (-1))))], [], [], 0, 190⟩) (k .ret ⟨[(4, .one (.pv (I (-1))))], [], [], 1, 190⟩) (k .ret ⟨[(4, .one (.pv (I (-1))))], [], [], 2, 190⟩) (k .ret ⟨[(4, .one (.pv (I (-1))))], [], [], 3, 190⟩) (k .ret ⟨[(4, .one (.pv (I (-1))))], [], [], 4, 190⟩) (fun x0 x1 x2 x3 => k (.exit 0) ⟨[(0, .one (.pv x0)), (1, .one (.pv x1)), (4, .one (.pv x2)), (5, .one (.pv x3))], [], [], 0, 190⟩)⟩]
theorem laws_heldSignedS_s : LEsOK (orac [laws_heldIntS_e, laws_heldSigS_e]) TT (kk [0, 1, 4, 5]) (sumsOf laws_heldSignedS_l) Try.f59 laws_heldSignedS_l := ⟨fun v K k h => by
  apply un_all h; exact fun v0 v1 v2 v3 h => Eq.mpr (by kernel_rfl) h
  , trivial⟩
theorem laws_heldSignedS_w : EntOK Try.prog TT laws_heldSignedS_e := ent_ok tabok (L := [laws_heldIntS_e, laws_heldSigS_e]) ⟨laws_heldIntS_w, laws_heldSigS_w, trivial⟩ (keep := (kk [0, 1, 4, 5])) (l := laws_heldSignedS_l) Try.func59 (by kernel_rfl) (sg := [.one (.sc)]) (by kernel_rfl) laws_heldSignedS_s fun av k h => by
  unfold laws_heldSignedS at h; split at h
  · exact Eq.mpr (by kernel_rfl) h
  · exact h.elim

def laws_heldStringS_r0 (v : List PV) (K : List PV → Prop) (x0k : Prop) (x1k : PV → PV → PV → PV → Prop) : Prop :=
 un 4 (fun v0 v1 v2 v3 =>
  lenP v0 fun r0 =>
  binP .lss v3 r0 fun r1 =>
  iteP r1
   (elemP 1 v0 v3 fun c2 =>
   call laws_markText [.one v1] fun o3 =>
   binP .neq (atP c2 0) (atP o3 0) fun r4 =>
   iteP r4
    (x0k)
    (binP .add v1 (I 1) fun r5 =>
    binP .add v3 (I 1) fun r6 =>
    K [v0, r5, v2, r6]))
   (x1k v0 v1 v2 v3)) v
def laws_heldStringS : GM
 | [.one a0, .one a1], k => 
  lp (fun L w => laws_heldStringS_r0 w L
   (rt [.sc] [(I (-1))] k)
   (fun q7 q8 q9 q10 => rt [.sc] [q8] k)) [a0, a1, (I 0), (I 0)]
 | _, _ => False
abbrev laws_heldStringS_e : Ent := ⟨[117], laws_heldStringS⟩
def laws_heldStringS_l : List LE := [⟨0, ⟨[(0, .one (.pv (.bool false))), (1, .one (.pv (.bool false))), (4, .one (.pv (.bool false))), (5, .one (.pv (.bool false)))], [], [], 0, 22⟩, fun K k v => laws_heldStringS_r0 v K (k .ret ⟨[(4, .one (.pv (I (-1))))], [], [], 1, 22⟩) (fun x0 x1 x2 x3 => k (.exit 0) ⟨[(0, .one (.pv x0)), (1, .one (.pv x1)), (4, .one (.pv x2)), (5, .one (.pv x3))], [], [], 0, 22⟩)⟩]
theorem laws_heldStringS_s : LEsOK (orac [laws_markText_e]) TT (kk [0, 1, 4, 5]) (sumsOf laws_heldStringS_l) Try.f117 laws_heldStringS_l := ⟨fun v K k h => by
  apply un_all h; exact fun v0 v1 v2 v3 h => Eq.mpr (by kernel_rfl) h
  , trivial⟩
theorem laws_heldStringS_w : EntOK Try.prog TT laws_heldStringS_e := ent_ok tabok (L := [laws_markText_e]) ⟨laws_markText_w, trivial⟩ (keep := (kk [0, 1, 4, 5])) (l := laws_heldStringS_l) Try.func117 (by kernel_rfl) (sg := [.one (.sc)]) (by kernel_rfl) laws_heldStringS_s fun av k h => by
  unfold laws_heldStringS at h; split at h
  · exact Eq.mpr (by kernel_rfl) h
  · exact h.elim

def spec_Max : GM
 | [.one a0, .one a1], k => 
  binP .gtr a1 a0 fun r0 =>
  iteP r0
   (rt [.sc] [a1] k)
   (rt [.sc] [a0] k)
 | _, _ => False
abbrev spec_Max_e : Ent := ⟨[64], spec_Max⟩
theorem spec_Max_w : EntOK Try.prog TT spec_Max_e := ent_ok tabok (L := []) trivial (keep := []) (l := []) Try.func64 (by kernel_rfl) (sg := [.one (.sc)]) (by kernel_rfl) trivial fun av k h => by
  unfold spec_Max at h; split at h
  · exact Eq.mpr (by kernel_rfl) h
  · exact h.elim

def spec_Min : GM
 | [.one a0, .one a1], k => 
  binP .lss a1 a0 fun r0 =>
  iteP r0
   (rt [.sc] [a1] k)
   (rt [.sc] [a0] k)
 | _, _ => False
abbrev spec_Min_e : Ent := ⟨[63], spec_Min⟩
theorem spec_Min_w : EntOK Try.prog TT spec_Min_e := ent_ok tabok (L := []) trivial (keep := []) (l := []) Try.func63 (by kernel_rfl) (sg := [.one (.sc)]) (by kernel_rfl) trivial fun av k h => by
  unfold spec_Min at h; split at h
  · exact Eq.mpr (by kernel_rfl) h
  · exact h.elim

def spec_NewWorld_r0 (v : List PV) (K : List PV → Prop) (x0k : PV → PV → PV → PV → PV → PV → PV → PV → PV → PV → PV → PV → PV → PV → PV → PV → PV → PV → PV → Prop) : Prop :=
 un 19 (fun v0 v1 v2 v3 v4 v5 v6 v7 v8 v9 v10 v11 v12 v13 v14 v15 v16 v17 v18 =>
  binP .lss v2 v1 fun r0 =>
  iteP r0
   (binP .mul v2 (I 4) fun r1 =>
   binP .add r1 (I 1) fun r2 =>
   binP .mul v2 (I 4) fun r3 =>
   binP .add r3 (I 2) fun r4 =>
   binP .mul v2 (I 4) fun r5 =>
   binP .add r5 (I 3) fun r6 =>
   binP .mul v2 (I 4) fun r7 =>
   binP .add r7 (I 4) fun r8 =>
   (4 = 4) ∧ (4 ≤ 16777216) ∧ (1 = 1) ∧ (0 = 0) ∧ (1 = 1) ∧ (flatCond [.pv (I 0)] [.pv r2]) ∧ (1 = 1) ∧ (1 = 1) ∧ (flatCond [.pv (I 0)] [.pv r4]) ∧ (2 = 2) ∧ (1 = 1) ∧ (flatCond [.pv (I 0)] [.pv r6]) ∧ (3 = 3) ∧ (1 = 1) ∧ (flatCond [.pv (I 0)] [.pv r8]) ∧ (1 = 1) ∧ (1 ≤ 16777216) ∧ (1 = 1) ∧ (0 = 0) ∧ (1 = 1) ∧ (flatCond [.nil 3 1] [.own 18]) ∧ catP 1 v18 (.list 1 [[(.list 1 [[r2], [r4], [r6], [r8]])]]) fun r9 =>
   binP .add v2 (I 1) fun r10 =>
   K [v0, v1, r10, v3, v4, v5, v6, v7, v8, v9, v10, v11, v12, v13, v14, v15, v16, v17, r9])
   (x0k v0 v1 v2 v3 v4 v5 v6 v7 v8 v9 v10 v11 v12 v13 v14 v15 v16 v17 v18)) v
def spec_NewWorld_r1 (v : List PV) (K : List PV → Prop) (x0k : PV → PV → PV → PV → PV → PV → PV → PV → PV → PV → PV → PV → PV → PV → PV → PV → PV → PV → PV → PV → Prop) : Prop :=
 un 20 (fun v0 v1 v2 v3 v4 v5 v6 v7 v8 v9 v10 v11 v12 v13 v14 v15 v16 v17 v18 v19 =>
  binP .gtr v3 (I 0) fun r0 =>
  iteP r0
   ((1 = 1) ∧ (2 ≤ 16777216) ∧ (2 = 2) ∧ (0 = 0) ∧ (2 = 2) ∧ (flatCond [.nil 155 2, .pv (I 0)] [.nil 155 2, .pv (I 0)]) ∧ catP 2 v16 (.list 2 [[(.list 2 []), (I 0)]]) fun r1 =>
   binP .sub v3 (I 1) fun r2 =>
   K [v0, v1, v2, r2, v4, v5, v6, v7, v8, v9, v10, v11, v12, v13, v14, v15, r1, v17, v18, v19])
   (x0k v0 v1 v2 v3 v4 v5 v6 v7 v8 v9 v10 v11 v12 v13 v14 v15 v16 v17 v18 v19)) v
def spec_NewWorld : GM
 | [.one a0, .one a1], k => 
  call spec_Max [.one (I 1), .one a0] fun o0 =>
  call spec_Min [.one (I 4), .one (atP o0 0)] fun o1 =>
  lp (fun L w => spec_NewWorld_r0 w L
   (fun q11 q12 q13 q14 q15 q16 q17 q18 q19 q20 q21 q22 q23 q24 q25 q26 q27 q28 q29 => call spec_Max [.one (I 1), .one q11] fun o30 =>
    call spec_Min [.one (I 4), .one (atP o30 0)] fun o31 =>
    lp (fun L w => spec_NewWorld_r1 w L
     (fun q32 q33 q34 q35 q36 q37 q38 q39 q40 q41 q42 q43 q44 q45 q46 q47 q48 q49 q50 q51 => rt [.sc, .pv, .pv, .pv, .pv, .pv, .pv, .pv] [q36, q51, q50, q49, q48, q47, q46, q45] k)) [q11, q12, q13, (atP o31 0), q14, q15, q16, q17, q18, q19, q20, q21, q22, q23, q24, q25, q26, q27, q28, q29])) [a1, (atP o1 0), (I 0), (I 0), (I 0), (.list 23 []), (.list 51 []), (.list 1 []), (.list 2 []), (.list 3 []), (.list 2 []), (.list 1 []), (.list 23 []), (.list 51 []), (.list 1 []), (.list 2 []), (.list 3 []), (.list 2 []), (.list 1 [])]
 | _, _ => False
abbrev spec_NewWorld_e : Ent := ⟨[25], spec_NewWorld⟩
def spec_NewWorld_l : List LE := [⟨0, ⟨[(1, .one (.pv (.bool false))), (4, .one (.ptr 0 0)), (5, .one (.ptr 1 0)), (6, .one (.pv (.bool false))), (7, .one (.pv (.bool false)))], [(1, [.pv (.bool false), .own 4, .own 5, .own 6, .own 7, .own 8, .own 9, .own 10]), (0, [.pv (.bool false), .own 11, .own 12, .own 13, .own 14, .own 15, .own 16, .own 17])], [(17, ⟨.deep, 189, 23, (.bool false)⟩), (16, ⟨.deep, 186, 51, (.bool false)⟩), (15, ⟨.deep, 35, 1, (.bool false)⟩), (14, ⟨.deep, 108, 2, (.bool false)⟩), (13, ⟨.deep, 158, 3, (.bool false)⟩), (12, ⟨.deep, 155, 2, (.bool false)⟩), (11, ⟨.deep, 78, 1, (.bool false)⟩), (10, ⟨.deep, 189, 23, (.bool false)⟩), (9, ⟨.deep, 186, 51, (.bool false)⟩), (8, ⟨.deep, 35, 1, (.bool false)⟩), (7, ⟨.deep, 108, 2, (.bool false)⟩), (6, ⟨.deep, 158, 3, (.bool false)⟩), (5, ⟨.deep, 155, 2, (.bool false)⟩), (4, ⟨.deep, 78, 1, (.bool false)⟩)], 18, 51⟩, fun K k v => spec_NewWorld_r0 v K (fun x0 x1 x2 x3 x4 x5 x6 x7 x8 x9 x10 x11 x12 x13 x14 x15 x16 x17 x18 => k (.exit 0) ⟨[(1, .one (.pv x0)), (4, .one (.ptr 0 0)), (5, .one (.ptr 1 0)), (6, .one (.pv x1)), (7, .one (.pv x2))], [(1, [.pv x3, .own 4, .own 5, .own 6, .own 7, .own 8, .own 9, .own 10]), (0, [.pv x4, .own 11, .own 12, .own 13, .own 14, .own 15, .own 16, .own 17])], [(17, ⟨.deep, 189, 23, x5⟩), (16, ⟨.deep, 186, 51, x6⟩), (15, ⟨.deep, 35, 1, x7⟩), (14, ⟨.deep, 108, 2, x8⟩), (13, ⟨.deep, 158, 3, x9⟩), (12, ⟨.deep, 155, 2, x10⟩), (11, ⟨.deep, 78, 1, x11⟩), (10, ⟨.deep, 189, 23, x12⟩), (9, ⟨.deep, 186, 51, x13⟩), (8, ⟨.deep, 35, 1, x14⟩), (7, ⟨.deep, 108, 2, x15⟩), (6, ⟨.deep, 158, 3, x16⟩), (5, ⟨.deep, 155, 2, x17⟩), (4, ⟨.deep, 78, 1, x18⟩)], 18, 51⟩)⟩,
  ⟨1, ⟨[(1, .one (.pv (.bool false))), (4, .one (.ptr 0 0)), (5, .one (.ptr 1 0)), (6, .one (.pv (.bool false))), (7, .one (.pv (.bool false))), (8, .one (.pv (.bool false)))], [(1, [.pv (.bool false), .own 4, .own 5, .own 6, .own 7, .own 8, .own 9, .own 10]), (0, [.pv (.bool false), .own 11, .own 12, .own 13, .own 14, .own 15, .own 16, .own 17])], [(17, ⟨.deep, 189, 23, (.bool false)⟩), (16, ⟨.deep, 186, 51, (.bool false)⟩), (15, ⟨.deep, 35, 1, (.bool false)⟩), (14, ⟨.deep, 108, 2, (.bool false)⟩), (13, ⟨.deep, 158, 3, (.bool false)⟩), (12, ⟨.deep, 155, 2, (.bool false)⟩), (11, ⟨.deep, 78, 1, (.bool false)⟩), (10, ⟨.deep, 189, 23, (.bool false)⟩), (9, ⟨.deep, 186, 51, (.bool false)⟩), (8, ⟨.deep, 35, 1, (.bool false)⟩), (7, ⟨.deep, 108, 2, (.bool false)⟩), (6, ⟨.deep, 158, 3, (.bool false)⟩), (5, ⟨.deep, 155, 2, (.bool false)⟩), (4, ⟨.deep, 78, 1, (.bool false)⟩)], 20, 51⟩, fun K k v => spec_NewWorld_r1 v K (fun x0 x1 x2 x3 x4 x5 x6 x7 x8 x9 x10 x11 x12 x13 x14 x15 x16 x17 x18 x19 => k (.exit 2) ⟨[(1, .one (.pv x0)), (4, .one (.ptr 0 0)), (5, .one (.ptr 1 0)), (6, .one (.pv x1)), (7, .one (.pv x2)), (8, .one (.pv x3))], [(1, [.pv x4, .own 4, .own 5, .own 6, .own 7, .own 8, .own 9, .own 10]), (0, [.pv x5, .own 11, .own 12, .own 13, .own 14, .own 15, .own 16, .own 17])], [(17, ⟨.deep, 189, 23, x6⟩), (16, ⟨.deep, 186, 51, x7⟩), (15, ⟨.deep, 35, 1, x8⟩), (14, ⟨.deep, 108, 2, x9⟩), (13, ⟨.deep, 158, 3, x10⟩), (12, ⟨.deep, 155, 2, x11⟩), (11, ⟨.deep, 78, 1, x12⟩), (10, ⟨.deep, 189, 23, x13⟩), (9, ⟨.deep, 186, 51, x14⟩), (8, ⟨.deep, 35, 1, x15⟩), (7, ⟨.deep, 108, 2, x16⟩), (6, ⟨.deep, 158, 3, x17⟩), (5, ⟨.deep, 155, 2, x18⟩), (4, ⟨.deep, 78, 1, x19⟩)], 20, 51⟩)⟩]
theorem spec_NewWorld_s : LEsOK (orac [spec_Max_e, spec_Min_e]) TT (kk [1, 4, 5, 6, 7, 8]) (sumsOf spec_NewWorld_l) Try.f25 spec_NewWorld_l := ⟨fun v K k h => by
  apply un_all h; exact fun v0 v1 v2 v3 v4 v5 v6 v7 v8 v9 v10 v11 v12 v13 v14 v15 v16 v17 v18 h => Eq.mpr (by kernel_rfl) h
  , fun v K k h => by
  apply un_all h; exact fun v0 v1 v2 v3 v4 v5 v6 v7 v8 v9 v10 v11 v12 v13 v14 v15 v16 v17 v18 v19 h => Eq.mpr (by kernel_rfl) h
  , trivial⟩
theorem spec_NewWorld_w : EntOK Try.prog TT spec_NewWorld_e := ent_ok tabok (L := [spec_Max_e, spec_Min_e]) ⟨spec_Max_w, spec_Min_w, trivial⟩ (keep := (kk [1, 4, 5, 6, 7, 8])) (l := spec_NewWorld_l) Try.func25 (by kernel_rfl) (sg := [.agg [.sc, .pv, .pv, .pv, .pv, .pv, .pv, .pv]]) (by kernel_rfl) spec_NewWorld_s fun av k h => by
  unfold spec_NewWorld at h; split at h
  · exact Eq.mpr (by kernel_rfl) h
  · exact h.elim

def impl_NewWorld_r1 (v : List PV) (K : List PV → Prop) (x0k : PV → PV → PV → PV → PV → PV → PV → PV → PV → PV → PV → PV → PV → PV → PV → PV → PV → PV → PV → PV → PV → PV → Prop) : Prop :=
 un 22 (fun v0 v1 v2 v3 v4 v5 v6 v7 v8 v9 v10 v11 v12 v13 v14 v15 v16 v17 v18 v19 v20 v21 =>
  binP .lss v4 (I 4) fun r0 =>
  iteP r0
   (binP .mul v1 (I 4) fun r1 =>
   binP .add r1 v4 fun r2 =>
   binP .add r2 (I 1) fun r3 =>
   (1 = 1) ∧ (1 ≤ 16777216) ∧ (1 = 1) ∧ (0 = 0) ∧ (1 = 1) ∧ (flatCond [.pv (I 0)] [.pv r3]) ∧ catP 1 v7 (.list 1 [[r3]]) fun r4 =>
   binP .add v4 (I 1) fun r5 =>
   K [v0, v1, v2, v3, r5, v5, v6, r4, v8, v9, v10, v11, v12, v13, v14, v15, v16, v17, v18, v19, v20, v21])
   (x0k v0 v1 v2 v3 v4 v5 v6 v7 v8 v9 v10 v11 v12 v13 v14 v15 v16 v17 v18 v19 v20 v21)) v
def impl_NewWorld_r0 (v : List PV) (K : List PV → Prop) (x0k : PV → PV → PV → PV → PV → PV → PV → PV → PV → PV → PV → PV → PV → PV → PV → PV → PV → PV → PV → Prop) : Prop :=
 un 19 (fun v0 v1 v2 v3 v4 v5 v6 v7 v8 v9 v10 v11 v12 v13 v14 v15 v16 v17 v18 =>
  binP .lss v2 v1 fun r0 =>
  iteP r0
   (lp (fun L w => impl_NewWorld_r1 w L
    (fun q6 q7 q8 q9 q10 q11 q12 q13 q14 q15 q16 q17 q18 q19 q20 q21 q22 q23 q24 q25 q26 q27 => (1 = 1) ∧ (1 ≤ 16777216) ∧ (1 = 1) ∧ (0 = 0) ∧ (1 = 1) ∧ (flatCond [.nil 3 1] [.own 17]) ∧ catP 1 q27 (.list 1 [[q13]]) fun r28 =>
     binP .add q9 (I 1) fun r29 =>
     K [q6, q8, r29, q11, q12, q14, q15, q16, q17, q18, q19, q20, q21, q22, q23, q24, q25, q26, r28])) [v0, v2, v1, v2, (I 0), v3, v4, (.list 1 []), v5, v6, v7, v8, v9, v10, v11, v12, v13, v14, v15, v16, v17, v18])
   (x0k v0 v1 v2 v3 v4 v5 v6 v7 v8 v9 v10 v11 v12 v13 v14 v15 v16 v17 v18)) v
def impl_NewWorld : GM
 | [.one a0, .one a1], k => 
  maxP a0 (I 1) fun r0 =>
  minP r0 (I 4) fun r1 =>
  lp (fun L w => impl_NewWorld_r0 w L
   (fun q30 q31 q32 q33 q34 q35 q36 q37 q38 q39 q40 q41 q42 q43 q44 q45 q46 q47 q48 => maxP q30 (I 1) fun r49 =>
    minP r49 (I 4) fun r50 =>
    (r50 = r50) ∧ (2 = 2) ∧ makeP 2 r50 [(.list 2 []), (I 0)] fun r51 =>
    rt [.sc, .own true 78 1, .own true 155 2, .own true 158 3, .own true 108 2, .own true 35 1, .own true 186 51, .own true 189 23] [q33, q48, q47, q46, r51, q44, q43, q42] k)) [a1, r1, (I 0), (I 0), (I 0), (.list 23 []), (.list 51 []), (.list 1 []), (.list 2 []), (.list 3 []), (.list 2 []), (.list 1 []), (.list 23 []), (.list 51 []), (.list 1 []), (.list 2 []), (.list 3 []), (.list 2 []), (.list 1 [])]
 | _, _ => False
abbrev impl_NewWorld_e : Ent := ⟨[26], impl_NewWorld⟩
def impl_NewWorld_l : List LE := [⟨1, ⟨[(1, .one (.pv (.bool false))), (4, .one (.ptr 0 0)), (5, .one (.ptr 1 0)), (6, .one (.pv (.bool false))), (7, .one (.ptr 16 0)), (12, .one (.pv (.bool false))), (13, .one (.pv (.bool false))), (17, .one (.pv (.bool false)))], [(16, [.own 17]), (1, [.pv (.bool false), .own 2, .own 3, .own 4, .own 5, .own 6, .own 7, .own 8]), (0, [.pv (.bool false), .own 9, .own 10, .own 11, .own 12, .own 13, .own 14, .own 15])], [(17, ⟨.deep, 3, 1, (.bool false)⟩), (15, ⟨.deep, 189, 23, (.bool false)⟩), (14, ⟨.deep, 186, 51, (.bool false)⟩), (13, ⟨.deep, 35, 1, (.bool false)⟩), (12, ⟨.deep, 108, 2, (.bool false)⟩), (11, ⟨.deep, 158, 3, (.bool false)⟩), (10, ⟨.deep, 155, 2, (.bool false)⟩), (9, ⟨.deep, 78, 1, (.bool false)⟩), (8, ⟨.deep, 189, 23, (.bool false)⟩), (7, ⟨.deep, 186, 51, (.bool false)⟩), (6, ⟨.deep, 35, 1, (.bool false)⟩), (5, ⟨.deep, 108, 2, (.bool false)⟩), (4, ⟨.deep, 158, 3, (.bool false)⟩), (3, ⟨.deep, 155, 2, (.bool false)⟩), (2, ⟨.deep, 78, 1, (.bool false)⟩)], 18, 44⟩, fun K k v => impl_NewWorld_r1 v K (fun x0 x1 x2 x3 x4 x5 x6 x7 x8 x9 x10 x11 x12 x13 x14 x15 x16 x17 x18 x19 x20 x21 => k (.exit 2) ⟨[(1, .one (.pv x0)), (4, .one (.ptr 0 0)), (5, .one (.ptr 1 0)), (6, .one (.pv x1)), (7, .one (.ptr 16 0)), (12, .one (.pv x2)), (13, .one (.pv x3)), (17, .one (.pv x4))], [(16, [.own 17]), (1, [.pv x5, .own 2, .own 3, .own 4, .own 5, .own 6, .own 7, .own 8]), (0, [.pv x6, .own 9, .own 10, .own 11, .own 12, .own 13, .own 14, .own 15])], [(17, ⟨.deep, 3, 1, x7⟩), (15, ⟨.deep, 189, 23, x8⟩), (14, ⟨.deep, 186, 51, x9⟩), (13, ⟨.deep, 35, 1, x10⟩), (12, ⟨.deep, 108, 2, x11⟩), (11, ⟨.deep, 158, 3, x12⟩), (10, ⟨.deep, 155, 2, x13⟩), (9, ⟨.deep, 78, 1, x14⟩), (8, ⟨.deep, 189, 23, x15⟩), (7, ⟨.deep, 186, 51, x16⟩), (6, ⟨.deep, 35, 1, x17⟩), (5, ⟨.deep, 108, 2, x18⟩), (4, ⟨.deep, 158, 3, x19⟩), (3, ⟨.deep, 155, 2, x20⟩), (2, ⟨.deep, 78, 1, x21⟩)], 18, 44⟩)⟩,
  ⟨0, ⟨[(1, .one (.pv (.bool false))), (4, .one (.ptr 0 0)), (5, .one (.ptr 1 0)), (12, .one (.pv (.bool false))), (13, .one (.pv (.bool false)))], [(1, [.pv (.bool false), .own 2, .own 3, .own 4, .own 5, .own 6, .own 7, .own 8]), (0, [.pv (.bool false), .own 9, .own 10, .own 11, .own 12, .own 13, .own 14, .own 15])], [(15, ⟨.deep, 189, 23, (.bool false)⟩), (14, ⟨.deep, 186, 51, (.bool false)⟩), (13, ⟨.deep, 35, 1, (.bool false)⟩), (12, ⟨.deep, 108, 2, (.bool false)⟩), (11, ⟨.deep, 158, 3, (.bool false)⟩), (10, ⟨.deep, 155, 2, (.bool false)⟩), (9, ⟨.deep, 78, 1, (.bool false)⟩), (8, ⟨.deep, 189, 23, (.bool false)⟩), (7, ⟨.deep, 186, 51, (.bool false)⟩), (6, ⟨.deep, 35, 1, (.bool false)⟩), (5, ⟨.deep, 108, 2, (.bool false)⟩), (4, ⟨.deep, 158, 3, (.bool false)⟩), (3, ⟨.deep, 155, 2, (.bool false)⟩), (2, ⟨.deep, 78, 1, (.bool false)⟩)], 16, 44⟩, fun K k v => impl_NewWorld_r0 v K (fun x0 x1 x2 x3 x4 x5 x6 x7 x8 x9 x10 x11 x12 x13 x14 x15 x16 x17 x18 => k (.exit 0) ⟨[(1, .one (.pv x0)), (4, .one (.ptr 0 0)), (5, .one (.ptr 1 0)), (12, .one (.pv x1)), (13, .one (.pv x2))], [(1, [.pv x3, .own 2, .own 3, .own 4, .own 5, .own 6, .own 7, .own 8]), (0, [.pv x4, .own 9, .own 10, .own 11, .own 12, .own 13, .own 14, .own 15])], [(15, ⟨.deep, 189, 23, x5⟩), (14, ⟨.deep, 186, 51, x6⟩), (13, ⟨.deep, 35, 1, x7⟩), (12, ⟨.deep, 108, 2, x8⟩), (11, ⟨.deep, 158, 3, x9⟩), (10, ⟨.deep, 155, 2, x10⟩), (9, ⟨.deep, 78, 1, x11⟩), (8, ⟨.deep, 189, 23, x12⟩), (7, ⟨.deep, 186, 51, x13⟩), (6, ⟨.deep, 35, 1, x14⟩), (5, ⟨.deep, 108, 2, x15⟩), (4, ⟨.deep, 158, 3, x16⟩), (3, ⟨.deep, 155, 2, x17⟩), (2, ⟨.deep, 78, 1, x18⟩)], 16, 44⟩)⟩]
theorem impl_NewWorld_s : LEsOK (orac []) TT.nofl (kk [1, 4, 5, 6, 7, 12, 13, 17]) (sumsOf impl_NewWorld_l) Try.f26 impl_NewWorld_l := ⟨fun v K k h => by
  apply un_all h; exact fun v0 v1 v2 v3 v4 v5 v6 v7 v8 v9 v10 v11 v12 v13 v14 v15 v16 v17 v18 v19 v20 v21 h => Eq.mpr (by kernel_rfl) h
  , fun v K k h => by
  apply un_all h; exact fun v0 v1 v2 v3 v4 v5 v6 v7 v8 v9 v10 v11 v12 v13 v14 v15 v16 v17 v18 h => Eq.mpr (by kernel_rfl) h
  , trivial⟩
theorem impl_NewWorld_w : EntOK Try.prog TT impl_NewWorld_e := ent_okF tabok (L := []) trivial (keep := (kk [1, 4, 5, 6, 7, 12, 13, 17])) (l := impl_NewWorld_l) Try.func26 (by kernel_rfl) (sg := [.agg [.sc, .own true 78 1, .own true 155 2, .own true 158 3, .own true 108 2, .own true 35 1, .own true 186 51, .own true 189 23]]) (by kernel_rfl) impl_NewWorld_s fun av k h => by
  unfold impl_NewWorld at h; split at h
  · exact Eq.mpr (by kernel_rfl) h
  · exact h.elim

def laws_eqActor : GM
 | [.agg u0, .agg u1], k => un 1 (fun a0 => un 1 (fun a1 => 
  call laws_eqIntS [.one a0, .one a1] fun o0 =>
  unP .not (atP o0 0) fun r1 =>
  iteP r1
   (rt [.sc] [(.bool false)] k)
   (rt [.sc] [(.bool true)] k)) u1) u0
 | _, _ => False
abbrev laws_eqActor_e : Ent := ⟨[42], laws_eqActor⟩
theorem laws_eqActor_w : EntOK Try.prog TT laws_eqActor_e := ent_ok tabok (L := [laws_eqIntS_e]) ⟨laws_eqIntS_w, trivial⟩ (keep := []) (l := []) Try.func42 (by kernel_rfl) (sg := [.one (.sc)]) (by kernel_rfl) trivial fun av k h => by
  unfold laws_eqActor at h; split at h
  · apply un_all h; clear h; intro a0 h; apply un_all h; clear h; intro a1 h; exact Eq.mpr (by kernel_rfl) h
  · exact h.elim

def laws_eqActorS_r0 (v : List PV) (K : List PV → Prop) (x0k : Prop) (x1k : PV → PV → PV → PV → Prop) : Prop :=
 un 4 (fun v0 v1 v2 v3 =>
  lenP v0 fun r0 =>
  binP .lss v3 r0 fun r1 =>
  iteP r1
   (elemP 1 v0 v3 fun c2 =>
   elemP 1 v1 v3 fun c3 =>
   call laws_eqActor [.agg [(atP c2 0)], .agg [(atP c3 0)]] fun o4 =>
   unP .not (atP o4 0) fun r5 =>
   iteP r5
    (x0k)
    (binP .add v3 (I 1) fun r6 =>
    K [v0, v1, v2, r6]))
   (x1k v0 v1 v2 v3)) v
def laws_eqActorS : GM
 | [.one a0, .one a1], k => 
  lenP a0 fun r0 =>
  lenP a1 fun r1 =>
  binP .neq r0 r1 fun r2 =>
  iteP r2
   (rt [.sc] [(.bool false)] k)
   (lp (fun L w => laws_eqActorS_r0 w L
    (rt [.sc] [(.bool false)] k)
    (fun q7 q8 q9 q10 => rt [.sc] [(.bool true)] k)) [a0, a1, (.bool false), (I 0)])
 | _, _ => False
abbrev laws_eqActorS_e : Ent := ⟨[11], laws_eqActorS⟩
def laws_eqActorS_l : List LE := [⟨0, ⟨[(0, .one (.pv (.bool false))), (1, .one (.pv (.bool false))), (4, .one (.pv (.bool false))), (5, .one (.pv (.bool false)))], [], [], 0, 27⟩, fun K k v => laws_eqActorS_r0 v K (k .ret ⟨[(4, .one (.kb false))], [], [], 1, 27⟩) (fun x0 x1 x2 x3 => k (.exit 0) ⟨[(0, .one (.pv x0)), (1, .one (.pv x1)), (4, .one (.pv x2)), (5, .one (.pv x3))], [], [], 0, 27⟩)⟩]
theorem laws_eqActorS_s : LEsOK (orac [laws_eqActor_e]) TT (kk [0, 1, 4, 5]) (sumsOf laws_eqActorS_l) Try.f11 laws_eqActorS_l := ⟨fun v K k h => by
  apply un_all h; exact fun v0 v1 v2 v3 h => Eq.mpr (by kernel_rfl) h
  , trivial⟩
theorem laws_eqActorS_w : EntOK Try.prog TT laws_eqActorS_e := ent_ok tabok (L := [laws_eqActor_e]) ⟨laws_eqActor_w, trivial⟩ (keep := (kk [0, 1, 4, 5])) (l := laws_eqActorS_l) Try.func11 (by kernel_rfl) (sg := [.one (.sc)]) (by kernel_rfl) laws_eqActorS_s fun av k h => by
  unfold laws_eqActorS at h; split at h
  · exact Eq.mpr (by kernel_rfl) h
  · exact h.elim

def laws_eqEntryS_r0 (v : List PV) (K : List PV → Prop) (x0k : Prop) (x1k : PV → PV → PV → PV → Prop) : Prop :=
 un 4 (fun v0 v1 v2 v3 =>
  lenP v0 fun r0 =>
  binP .lss v3 r0 fun r1 =>
  iteP r1
   (elemP 4 v0 v3 fun c2 =>
   elemP 4 v1 v3 fun c3 =>
   call laws_eqEntry [.agg [(atP c2 0), (atP c2 1), (atP c2 2), (atP c2 3)], .agg [(atP c3 0), (atP c3 1), (atP c3 2), (atP c3 3)]] fun o4 =>
   unP .not (atP o4 0) fun r5 =>
   iteP r5
    (x0k)
    (binP .add v3 (I 1) fun r6 =>
    K [v0, v1, v2, r6]))
   (x1k v0 v1 v2 v3)) v
def laws_eqEntryS : GM
 | [.one a0, .one a1], k => 
  lenP a0 fun r0 =>
  lenP a1 fun r1 =>
  binP .neq r0 r1 fun r2 =>
  iteP r2
   (rt [.sc] [(.bool false)] k)
   (lp (fun L w => laws_eqEntryS_r0 w L
    (rt [.sc] [(.bool false)] k)
    (fun q7 q8 q9 q10 => rt [.sc] [(.bool true)] k)) [a0, a1, (.bool false), (I 0)])
 | _, _ => False
abbrev laws_eqEntryS_e : Ent := ⟨[147], laws_eqEntryS⟩
def laws_eqEntryS_l : List LE := [⟨0, ⟨[(0, .one (.pv (.bool false))), (1, .one (.pv (.bool false))), (4, .one (.pv (.bool false))), (5, .one (.pv (.bool false)))], [], [], 0, 27⟩, fun K k v => laws_eqEntryS_r0 v K (k .ret ⟨[(4, .one (.kb false))], [], [], 1, 27⟩) (fun x0 x1 x2 x3 => k (.exit 0) ⟨[(0, .one (.pv x0)), (1, .one (.pv x1)), (4, .one (.pv x2)), (5, .one (.pv x3))], [], [], 0, 27⟩)⟩]
theorem laws_eqEntryS_s : LEsOK (orac [laws_eqEntry_e]) TT (kk [0, 1, 4, 5]) (sumsOf laws_eqEntryS_l) Try.f147 laws_eqEntryS_l := ⟨fun v K k h => by
  apply un_all h; exact fun v0 v1 v2 v3 h => Eq.mpr (by kernel_rfl) h
  , trivial⟩
theorem laws_eqEntryS_w : EntOK Try.prog TT laws_eqEntryS_e := ent_ok tabok (L := [laws_eqEntry_e]) ⟨laws_eqEntry_w, trivial⟩ (keep := (kk [0, 1, 4, 5])) (l := laws_eqEntryS_l) Try.func147 (by kernel_rfl) (sg := [.one (.sc)]) (by kernel_rfl) laws_eqEntryS_s fun av k h => by
  unfold laws_eqEntryS at h; split at h
  · exact Eq.mpr (by kernel_rfl) h
  · exact h.elim

def laws_eqZone : GM
 | [.agg u0, .agg u1], k => un 2 (fun a0 a1 => un 2 (fun a2 a3 => 
  call laws_eqSignedS [.one a0, .one a2] fun o0 =>
  unP .not (atP o0 0) fun r1 =>
  iteP r1
   (rt [.sc] [(.bool false)] k)
   (call laws_eqEntryS [.one a1, .one a3] fun o2 =>
   unP .not (atP o2 0) fun r3 =>
   iteP r3
    (rt [.sc] [(.bool false)] k)
    (rt [.sc] [(.bool true)] k))) u1) u0
 | _, _ => False
abbrev laws_eqZone_e : Ent := ⟨[118], laws_eqZone⟩
theorem laws_eqZone_w : EntOK Try.prog TT laws_eqZone_e := ent_ok tabok (L := [laws_eqSignedS_e, laws_eqEntryS_e]) ⟨laws_eqSignedS_w, laws_eqEntryS_w, trivial⟩ (keep := []) (l := []) Try.func118 (by kernel_rfl) (sg := [.one (.sc)]) (by kernel_rfl) trivial fun av k h => by
  unfold laws_eqZone at h; split at h
  · apply un_all h; clear h; intro a0 a1 h; apply un_all h; clear h; intro a2 a3 h; exact Eq.mpr (by kernel_rfl) h
  · exact h.elim

def laws_eqZoneS_r0 (v : List PV) (K : List PV → Prop) (x0k : Prop) (x1k : PV → PV → PV → PV → Prop) : Prop :=
 un 4 (fun v0 v1 v2 v3 =>
  lenP v0 fun r0 =>
  binP .lss v3 r0 fun r1 =>
  iteP r1
   (elemP 2 v0 v3 fun c2 =>
   elemP 2 v1 v3 fun c3 =>
   call laws_eqZone [.agg [(atP c2 0), (atP c2 1)], .agg [(atP c3 0), (atP c3 1)]] fun o4 =>
   unP .not (atP o4 0) fun r5 =>
   iteP r5
    (x0k)
    (binP .add v3 (I 1) fun r6 =>
    K [v0, v1, v2, r6]))
   (x1k v0 v1 v2 v3)) v
def laws_eqZoneS : GM
 | [.one a0, .one a1], k => 
  lenP a0 fun r0 =>
  lenP a1 fun r1 =>
  binP .neq r0 r1 fun r2 =>
  iteP r2
   (rt [.sc] [(.bool false)] k)
   (lp (fun L w => laws_eqZoneS_r0 w L
    (rt [.sc] [(.bool false)] k)
    (fun q7 q8 q9 q10 => rt [.sc] [(.bool true)] k)) [a0, a1, (.bool false), (I 0)])
 | _, _ => False
abbrev laws_eqZoneS_e : Ent := ⟨[65], laws_eqZoneS⟩
def laws_eqZoneS_l : List LE := [⟨0, ⟨[(0, .one (.pv (.bool false))), (1, .one (.pv (.bool false))), (4, .one (.pv (.bool false))), (5, .one (.pv (.bool false)))], [], [], 0, 27⟩, fun K k v => laws_eqZoneS_r0 v K (k .ret ⟨[(4, .one (.kb false))], [], [], 1, 27⟩) (fun x0 x1 x2 x3 => k (.exit 0) ⟨[(0, .one (.pv x0)), (1, .one (.pv x1)), (4, .one (.pv x2)), (5, .one (.pv x3))], [], [], 0, 27⟩)⟩]
theorem laws_eqZoneS_s : LEsOK (orac [laws_eqZone_e]) TT (kk [0, 1, 4, 5]) (sumsOf laws_eqZoneS_l) Try.f65 laws_eqZoneS_l := ⟨fun v K k h => by
  apply un_all h; exact fun v0 v1 v2 v3 h => Eq.mpr (by kernel_rfl) h
  , trivial⟩
theorem laws_eqZoneS_w : EntOK Try.prog TT laws_eqZoneS_e := ent_ok tabok (L := [laws_eqZone_e]) ⟨laws_eqZone_w, trivial⟩ (keep := (kk [0, 1, 4, 5])) (l := laws_eqZoneS_l) Try.func65 (by kernel_rfl) (sg := [.one (.sc)]) (by kernel_rfl) laws_eqZoneS_s fun av k h => by
  unfold laws_eqZoneS at h; split at h
  · exact Eq.mpr (by kernel_rfl) h
  · exact h.elim

def laws_eqSaid : GM
 | [.agg u0, .agg u1], k => un 3 (fun a0 a1 a2 => un 3 (fun a3 a4 a5 => 
  call laws_eqZone [.agg [a0, a1], .agg [a3, a4]] fun o0 =>
  unP .not (atP o0 0) fun r1 =>
  iteP r1
   (rt [.sc] [(.bool false)] k)
   (call laws_eqIntS [.one a2, .one a5] fun o2 =>
   unP .not (atP o2 0) fun r3 =>
   iteP r3
    (rt [.sc] [(.bool false)] k)
    (rt [.sc] [(.bool true)] k))) u1) u0
 | _, _ => False
abbrev laws_eqSaid_e : Ent := ⟨[119], laws_eqSaid⟩
theorem laws_eqSaid_w : EntOK Try.prog TT laws_eqSaid_e := ent_ok tabok (L := [laws_eqZone_e, laws_eqIntS_e]) ⟨laws_eqZone_w, laws_eqIntS_w, trivial⟩ (keep := []) (l := []) Try.func119 (by kernel_rfl) (sg := [.one (.sc)]) (by kernel_rfl) trivial fun av k h => by
  unfold laws_eqSaid at h; split at h
  · apply un_all h; clear h; intro a0 a1 a2 h; apply un_all h; clear h; intro a3 a4 a5 h; exact Eq.mpr (by kernel_rfl) h
  · exact h.elim

def laws_eqSaidS_r0 (v : List PV) (K : List PV → Prop) (x0k : Prop) (x1k : PV → PV → PV → PV → Prop) : Prop :=
 un 4 (fun v0 v1 v2 v3 =>
  lenP v0 fun r0 =>
  binP .lss v3 r0 fun r1 =>
  iteP r1
   (elemP 3 v0 v3 fun c2 =>
   elemP 3 v1 v3 fun c3 =>
   call laws_eqSaid [.agg [(atP c2 0), (atP c2 1), (atP c2 2)], .agg [(atP c3 0), (atP c3 1), (atP c3 2)]] fun o4 =>
   unP .not (atP o4 0) fun r5 =>
   iteP r5
    (x0k)
    (binP .add v3 (I 1) fun r6 =>
    K [v0, v1, v2, r6]))
   (x1k v0 v1 v2 v3)) v
def laws_eqSaidS : GM
 | [.one a0, .one a1], k => 
  lenP a0 fun r0 =>
  lenP a1 fun r1 =>
  binP .neq r0 r1 fun r2 =>
  iteP r2
   (rt [.sc] [(.bool false)] k)
   (lp (fun L w => laws_eqSaidS_r0 w L
    (rt [.sc] [(.bool false)] k)
    (fun q7 q8 q9 q10 => rt [.sc] [(.bool true)] k)) [a0, a1, (.bool false), (I 0)])
 | _, _ => False
abbrev laws_eqSaidS_e : Ent := ⟨[66], laws_eqSaidS⟩
def laws_eqSaidS_l : List LE := [⟨0, ⟨[(0, .one (.pv (.bool false))), (1, .one (.pv (.bool false))), (4, .one (.pv (.bool false))), (5, .one (.pv (.bool false)))], [], [], 0, 27⟩, fun K k v => laws_eqSaidS_r0 v K (k .ret ⟨[(4, .one (.kb false))], [], [], 1, 27⟩) (fun x0 x1 x2 x3 => k (.exit 0) ⟨[(0, .one (.pv x0)), (1, .one (.pv x1)), (4, .one (.pv x2)), (5, .one (.pv x3))], [], [], 0, 27⟩)⟩]
theorem laws_eqSaidS_s : LEsOK (orac [laws_eqSaid_e]) TT (kk [0, 1, 4, 5]) (sumsOf laws_eqSaidS_l) Try.f66 laws_eqSaidS_l := ⟨fun v K k h => by
  apply un_all h; exact fun v0 v1 v2 v3 h => Eq.mpr (by kernel_rfl) h
  , trivial⟩
theorem laws_eqSaidS_w : EntOK Try.prog TT laws_eqSaidS_e := ent_ok tabok (L := [laws_eqSaid_e]) ⟨laws_eqSaid_w, trivial⟩ (keep := (kk [0, 1, 4, 5])) (l := laws_eqSaidS_l) Try.func66 (by kernel_rfl) (sg := [.one (.sc)]) (by kernel_rfl) laws_eqSaidS_s fun av k h => by
  unfold laws_eqSaidS at h; split at h
  · exact Eq.mpr (by kernel_rfl) h
  · exact h.elim

def laws_eqServer : GM
 | [.agg u0, .agg u1], k => un 2 (fun a0 a1 => un 2 (fun a2 a3 => 
  call laws_eqZoneS [.one a0, .one a2] fun o0 =>
  unP .not (atP o0 0) fun r1 =>
  iteP r1
   (rt [.sc] [(.bool false)] k)
   (binP .neq a1 a3 fun r2 =>
   iteP r2
    (rt [.sc] [(.bool false)] k)
    (rt [.sc] [(.bool true)] k))) u1) u0
 | _, _ => False
abbrev laws_eqServer_e : Ent := ⟨[120], laws_eqServer⟩
theorem laws_eqServer_w : EntOK Try.prog TT laws_eqServer_e := ent_ok tabok (L := [laws_eqZoneS_e]) ⟨laws_eqZoneS_w, trivial⟩ (keep := []) (l := []) Try.func120 (by kernel_rfl) (sg := [.one (.sc)]) (by kernel_rfl) trivial fun av k h => by
  unfold laws_eqServer at h; split at h
  · apply un_all h; clear h; intro a0 a1 h; apply un_all h; clear h; intro a2 a3 h; exact Eq.mpr (by kernel_rfl) h
  · exact h.elim

def laws_eqServerS_r0 (v : List PV) (K : List PV → Prop) (x0k : Prop) (x1k : PV → PV → PV → PV → Prop) : Prop :=
 un 4 (fun v0 v1 v2 v3 =>
  lenP v0 fun r0 =>
  binP .lss v3 r0 fun r1 =>
  iteP r1
   (elemP 2 v0 v3 fun c2 =>
   elemP 2 v1 v3 fun c3 =>
   call laws_eqServer [.agg [(atP c2 0), (atP c2 1)], .agg [(atP c3 0), (atP c3 1)]] fun o4 =>
   unP .not (atP o4 0) fun r5 =>
   iteP r5
    (x0k)
    (binP .add v3 (I 1) fun r6 =>
    K [v0, v1, v2, r6]))
   (x1k v0 v1 v2 v3)) v
def laws_eqServerS : GM
 | [.one a0, .one a1], k => 
  lenP a0 fun r0 =>
  lenP a1 fun r1 =>
  binP .neq r0 r1 fun r2 =>
  iteP r2
   (rt [.sc] [(.bool false)] k)
   (lp (fun L w => laws_eqServerS_r0 w L
    (rt [.sc] [(.bool false)] k)
    (fun q7 q8 q9 q10 => rt [.sc] [(.bool true)] k)) [a0, a1, (.bool false), (I 0)])
 | _, _ => False
abbrev laws_eqServerS_e : Ent := ⟨[67], laws_eqServerS⟩
def laws_eqServerS_l : List LE := [⟨0, ⟨[(0, .one (.pv (.bool false))), (1, .one (.pv (.bool false))), (4, .one (.pv (.bool false))), (5, .one (.pv (.bool false)))], [], [], 0, 27⟩, fun K k v => laws_eqServerS_r0 v K (k .ret ⟨[(4, .one (.kb false))], [], [], 1, 27⟩) (fun x0 x1 x2 x3 => k (.exit 0) ⟨[(0, .one (.pv x0)), (1, .one (.pv x1)), (4, .one (.pv x2)), (5, .one (.pv x3))], [], [], 0, 27⟩)⟩]
theorem laws_eqServerS_s : LEsOK (orac [laws_eqServer_e]) TT (kk [0, 1, 4, 5]) (sumsOf laws_eqServerS_l) Try.f67 laws_eqServerS_l := ⟨fun v K k h => by
  apply un_all h; exact fun v0 v1 v2 v3 h => Eq.mpr (by kernel_rfl) h
  , trivial⟩
theorem laws_eqServerS_w : EntOK Try.prog TT laws_eqServerS_e := ent_ok tabok (L := [laws_eqServer_e]) ⟨laws_eqServer_w, trivial⟩ (keep := (kk [0, 1, 4, 5])) (l := laws_eqServerS_l) Try.func67 (by kernel_rfl) (sg := [.one (.sc)]) (by kernel_rfl) laws_eqServerS_s fun av k h => by
  unfold laws_eqServerS at h; split at h
  · exact Eq.mpr (by kernel_rfl) h
  · exact h.elim

def laws_eqSignedSS_r0 (v : List PV) (K : List PV → Prop) (x0k : Prop) (x1k : PV → PV → PV → PV → Prop) : Prop :=
 un 4 (fun v0 v1 v2 v3 =>
  lenP v0 fun r0 =>
  binP .lss v3 r0 fun r1 =>
  iteP r1
   (elemP 1 v0 v3 fun c2 =>
   elemP 1 v1 v3 fun c3 =>
   call laws_eqSignedS [.one (atP c2 0), .one (atP c3 0)] fun o4 =>
   unP .not (atP o4 0) fun r5 =>
   iteP r5
    (x0k)
    (binP .add v3 (I 1) fun r6 =>
    K [v0, v1, v2, r6]))
   (x1k v0 v1 v2 v3)) v
def laws_eqSignedSS : GM
 | [.one a0, .one a1], k => 
  lenP a0 fun r0 =>
  lenP a1 fun r1 =>
  binP .neq r0 r1 fun r2 =>
  iteP r2
   (rt [.sc] [(.bool false)] k)
   (lp (fun L w => laws_eqSignedSS_r0 w L
    (rt [.sc] [(.bool false)] k)
    (fun q7 q8 q9 q10 => rt [.sc] [(.bool true)] k)) [a0, a1, (.bool false), (I 0)])
 | _, _ => False
abbrev laws_eqSignedSS_e : Ent := ⟨[121], laws_eqSignedSS⟩
def laws_eqSignedSS_l : List LE := [⟨0, ⟨[(0, .one (.pv (.bool false))), (1, .one (.pv (.bool false))), (4, .one (.pv (.bool false))), (5, .one (.pv (.bool false)))], [], [], 0, 27⟩, fun K k v => laws_eqSignedSS_r0 v K (k .ret ⟨[(4, .one (.kb false))], [], [], 1, 27⟩) (fun x0 x1 x2 x3 => k (.exit 0) ⟨[(0, .one (.pv x0)), (1, .one (.pv x1)), (4, .one (.pv x2)), (5, .one (.pv x3))], [], [], 0, 27⟩)⟩]
theorem laws_eqSignedSS_s : LEsOK (orac [laws_eqSignedS_e]) TT (kk [0, 1, 4, 5]) (sumsOf laws_eqSignedSS_l) Try.f121 laws_eqSignedSS_l := ⟨fun v K k h => by
  apply un_all h; exact fun v0 v1 v2 v3 h => Eq.mpr (by kernel_rfl) h
  , trivial⟩
theorem laws_eqSignedSS_w : EntOK Try.prog TT laws_eqSignedSS_e := ent_ok tabok (L := [laws_eqSignedS_e]) ⟨laws_eqSignedS_w, trivial⟩ (keep := (kk [0, 1, 4, 5])) (l := laws_eqSignedSS_l) Try.func121 (by kernel_rfl) (sg := [.one (.sc)]) (by kernel_rfl) laws_eqSignedSS_s fun av k h => by
  unfold laws_eqSignedSS at h; split at h
  · exact Eq.mpr (by kernel_rfl) h
  · exact h.elim

def laws_eqFork : GM
 | [.agg u0, .agg u1], k => un 51 (fun a0 a1 a2 a3 a4 a5 a6 a7 a8 a9 a10 a11 a12 a13 a14 a15 a16 a17 a18 a19 a20 a21 a22 a23 a24 a25 a26 a27 a28 a29 a30 a31 a32 a33 a34 a35 a36 a37 a38 a39 a40 a41 a42 a43 a44 a45 a46 a47 a48 a49 a50 => un 51 (fun a51 a52 a53 a54 a55 a56 a57 a58 a59 a60 a61 a62 a63 a64 a65 a66 a67 a68 a69 a70 a71 a72 a73 a74 a75 a76 a77 a78 a79 a80 a81 a82 a83 a84 a85 a86 a87 a88 a89 a90 a91 a92 a93 a94 a95 a96 a97 a98 a99 a100 a101 => 
  call laws_eqSigned [.agg [a0, a1, a2, a3, a4, a5, a6, a7, a8, a9, a10, a11, a12, a13, a14, a15, a16], .agg [a51, a52, a53, a54, a55, a56, a57, a58, a59, a60, a61, a62, a63, a64, a65, a66, a67]] fun o0 =>
  unP .not (atP o0 0) fun r1 =>
  iteP r1
   (rt [.sc] [(.bool false)] k)
   (call laws_eqSigned [.agg [a17, a18, a19, a20, a21, a22, a23, a24, a25, a26, a27, a28, a29, a30, a31, a32, a33], .agg [a68, a69, a70, a71, a72, a73, a74, a75, a76, a77, a78, a79, a80, a81, a82, a83, a84]] fun o2 =>
   unP .not (atP o2 0) fun r3 =>
   iteP r3
    (rt [.sc] [(.bool false)] k)
    (call laws_eqSigned [.agg [a34, a35, a36, a37, a38, a39, a40, a41, a42, a43, a44, a45, a46, a47, a48, a49, a50], .agg [a85, a86, a87, a88, a89, a90, a91, a92, a93, a94, a95, a96, a97, a98, a99, a100, a101]] fun o4 =>
    unP .not (atP o4 0) fun r5 =>
    iteP r5
     (rt [.sc] [(.bool false)] k)
     (rt [.sc] [(.bool true)] k)))) u1) u0
 | _, _ => False
abbrev laws_eqFork_e : Ent := ⟨[148], laws_eqFork⟩
theorem laws_eqFork_w : EntOK Try.prog TT laws_eqFork_e := ent_ok tabok (L := [laws_eqSigned_e]) ⟨laws_eqSigned_w, trivial⟩ (keep := []) (l := []) Try.func148 (by kernel_rfl) (sg := [.one (.sc)]) (by kernel_rfl) trivial fun av k h => by
  unfold laws_eqFork at h; split at h
  · apply un_all h; clear h; intro a0 a1 a2 a3 a4 a5 a6 a7 a8 a9 a10 a11 a12 a13 a14 a15 a16 a17 a18 a19 a20 a21 a22 a23 a24 a25 a26 a27 a28 a29 a30 a31 a32 a33 a34 a35 a36 a37 a38 a39 a40 a41 a42 a43 a44 a45 a46 a47 a48 a49 a50 h; apply un_all h; clear h; intro a51 a52 a53 a54 a55 a56 a57 a58 a59 a60 a61 a62 a63 a64 a65 a66 a67 a68 a69 a70 a71 a72 a73 a74 a75 a76 a77 a78 a79 a80 a81 a82 a83 a84 a85 a86 a87 a88 a89 a90 a91 a92 a93 a94 a95 a96 a97 a98 a99 a100 a101 h; exact Eq.mpr (by kernel_rfl) h
  · exact h.elim

def laws_eqForkS_r0 (v : List PV) (K : List PV → Prop) (x0k : Prop) (x1k : PV → PV → PV → PV → Prop) : Prop :=
 un 4 (fun v0 v1 v2 v3 =>
  lenP v0 fun r0 =>
  binP .lss v3 r0 fun r1 =>
  iteP r1
   (elemP 51 v0 v3 fun c2 =>
   elemP 51 v1 v3 fun c3 =>
   call laws_eqFork [.agg [(atP c2 0), (atP c2 1), (atP c2 2), (atP c2 3), (atP c2 4), (atP c2 5), (atP c2 6), (atP c2 7), (atP c2 8), (atP c2 9), (atP c2 10), (atP c2 11), (atP c2 12), (atP c2 13), (atP c2 14), (atP c2 15), (atP c2 16), (atP c2 17), (atP c2 18), (atP c2 19), (atP c2 20), (atP c2 21), (atP c2 22), (atP c2 23), (atP c2 24), (atP c2 25), (atP c2 26), (atP c2 27), (atP c2 28), (atP c2 29), (atP c2 30), (atP c2 31), (atP c2 32), (atP c2 33), (atP c2 34), (atP c2 35), (atP c2 36), (atP c2 37), (atP c2 38), (atP c2 39), (atP c2 40), (atP c2 41), (atP c2 42), (atP c2 43), (atP c2 44), (atP c2 45), (atP c2 46), (atP c2 47), (atP c2 48), (atP c2 49), (atP c2 50)], .agg [(atP c3 0), (atP c3 1), (atP c3 2), (atP c3 3), (atP c3 4), (atP c3 5), (atP c3 6), (atP c3 7), (atP c3 8), (atP c3 9), (atP c3 10), (atP c3 11), (atP c3 12), (atP c3 13), (atP c3 14), (atP c3 15), (atP c3 16), (atP c3 17), (atP c3 18), (atP c3 19), (atP c3 20), (atP c3 21), (atP c3 22), (atP c3 23), (atP c3 24), (atP c3 25), (atP c3 26), (atP c3 27), (atP c3 28), (atP c3 29), (atP c3 30), (atP c3 31), (atP c3 32), (atP c3 33), (atP c3 34), (atP c3 35), (atP c3 36), (atP c3 37), (atP c3 38), (atP c3 39), (atP c3 40), (atP c3 41), (atP c3 42), (atP c3 43), (atP c3 44), (atP c3 45), (atP c3 46), (atP c3 47), (atP c3 48), (atP c3 49), (atP c3 50)]] fun o4 =>
   unP .not (atP o4 0) fun r5 =>
   iteP r5
    (x0k)
    (binP .add v3 (I 1) fun r6 =>
    K [v0, v1, v2, r6]))
   (x1k v0 v1 v2 v3)) v
def laws_eqForkS : GM
 | [.one a0, .one a1], k => 
  lenP a0 fun r0 =>
  lenP a1 fun r1 =>
  binP .neq r0 r1 fun r2 =>
  iteP r2
   (rt [.sc] [(.bool false)] k)
   (lp (fun L w => laws_eqForkS_r0 w L
    (rt [.sc] [(.bool false)] k)
    (fun q7 q8 q9 q10 => rt [.sc] [(.bool true)] k)) [a0, a1, (.bool false), (I 0)])
 | _, _ => False
abbrev laws_eqForkS_e : Ent := ⟨[122], laws_eqForkS⟩
def laws_eqForkS_l : List LE := [⟨0, ⟨[(0, .one (.pv (.bool false))), (1, .one (.pv (.bool false))), (4, .one (.pv (.bool false))), (5, .one (.pv (.bool false)))], [], [], 0, 27⟩, fun K k v => laws_eqForkS_r0 v K (k .ret ⟨[(4, .one (.kb false))], [], [], 1, 27⟩) (fun x0 x1 x2 x3 => k (.exit 0) ⟨[(0, .one (.pv x0)), (1, .one (.pv x1)), (4, .one (.pv x2)), (5, .one (.pv x3))], [], [], 0, 27⟩)⟩]
theorem laws_eqForkS_s : LEsOK (orac [laws_eqFork_e]) TT (kk [0, 1, 4, 5]) (sumsOf laws_eqForkS_l) Try.f122 laws_eqForkS_l := ⟨fun v K k h => by
  apply un_all h; exact fun v0 v1 v2 v3 h => Eq.mpr (by kernel_rfl) h
  , trivial⟩
theorem laws_eqForkS_w : EntOK Try.prog TT laws_eqForkS_e := ent_ok tabok (L := [laws_eqFork_e]) ⟨laws_eqFork_w, trivial⟩ (keep := (kk [0, 1, 4, 5])) (l := laws_eqForkS_l) Try.func122 (by kernel_rfl) (sg := [.one (.sc)]) (by kernel_rfl) laws_eqForkS_s fun av k h => by
  unfold laws_eqForkS at h; split at h
  · exact Eq.mpr (by kernel_rfl) h
  · exact h.elim

def laws_eqKnown : GM
 | [.agg u0, .agg u1], k => un 2 (fun a0 a1 => un 2 (fun a2 a3 => 
  call laws_eqSignedSS [.one a0, .one a2] fun o0 =>
  unP .not (atP o0 0) fun r1 =>
  iteP r1
   (rt [.sc] [(.bool false)] k)
   (call laws_eqForkS [.one a1, .one a3] fun o2 =>
   unP .not (atP o2 0) fun r3 =>
   iteP r3
    (rt [.sc] [(.bool false)] k)
    (rt [.sc] [(.bool true)] k))) u1) u0
 | _, _ => False
abbrev laws_eqKnown_e : Ent := ⟨[68], laws_eqKnown⟩
theorem laws_eqKnown_w : EntOK Try.prog TT laws_eqKnown_e := ent_ok tabok (L := [laws_eqSignedSS_e, laws_eqForkS_e]) ⟨laws_eqSignedSS_w, laws_eqForkS_w, trivial⟩ (keep := []) (l := []) Try.func68 (by kernel_rfl) (sg := [.one (.sc)]) (by kernel_rfl) trivial fun av k h => by
  unfold laws_eqKnown at h; split at h
  · apply un_all h; clear h; intro a0 a1 h; apply un_all h; clear h; intro a2 a3 h; exact Eq.mpr (by kernel_rfl) h
  · exact h.elim

def laws_eqStored : GM
 | [.agg u0, .agg u1], k => un 23 (fun a0 a1 a2 a3 a4 a5 a6 a7 a8 a9 a10 a11 a12 a13 a14 a15 a16 a17 a18 a19 a20 a21 a22 => un 23 (fun a23 a24 a25 a26 a27 a28 a29 a30 a31 a32 a33 a34 a35 a36 a37 a38 a39 a40 a41 a42 a43 a44 a45 => 
  binP .neq a0 a23 fun r0 =>
  iteP r0
   (rt [.sc] [(.bool false)] k)
   (binP .neq a1 a24 fun r1 =>
   iteP r1
    (rt [.sc] [(.bool false)] k)
    (call laws_eqAnswer [.agg [a2, a3, a4, a5, a6, a7, a8, a9, a10, a11, a12, a13, a14, a15, a16, a17, a18, a19, a20, a21, a22], .agg [a25, a26, a27, a28, a29, a30, a31, a32, a33, a34, a35, a36, a37, a38, a39, a40, a41, a42, a43, a44, a45]] fun o2 =>
    unP .not (atP o2 0) fun r3 =>
    iteP r3
     (rt [.sc] [(.bool false)] k)
     (rt [.sc] [(.bool true)] k)))) u1) u0
 | _, _ => False
abbrev laws_eqStored_e : Ent := ⟨[149], laws_eqStored⟩
theorem laws_eqStored_w : EntOK Try.prog TT laws_eqStored_e := ent_ok tabok (L := [laws_eqAnswer_e]) ⟨laws_eqAnswer_w, trivial⟩ (keep := []) (l := []) Try.func149 (by kernel_rfl) (sg := [.one (.sc)]) (by kernel_rfl) trivial fun av k h => by
  unfold laws_eqStored at h; split at h
  · apply un_all h; clear h; intro a0 a1 a2 a3 a4 a5 a6 a7 a8 a9 a10 a11 a12 a13 a14 a15 a16 a17 a18 a19 a20 a21 a22 h; apply un_all h; clear h; intro a23 a24 a25 a26 a27 a28 a29 a30 a31 a32 a33 a34 a35 a36 a37 a38 a39 a40 a41 a42 a43 a44 a45 h; exact Eq.mpr (by kernel_rfl) h
  · exact h.elim

def laws_eqStoredS_r0 (v : List PV) (K : List PV → Prop) (x0k : Prop) (x1k : PV → PV → PV → PV → Prop) : Prop :=
 un 4 (fun v0 v1 v2 v3 =>
  lenP v0 fun r0 =>
  binP .lss v3 r0 fun r1 =>
  iteP r1
   (elemP 23 v0 v3 fun c2 =>
   elemP 23 v1 v3 fun c3 =>
   call laws_eqStored [.agg [(atP c2 0), (atP c2 1), (atP c2 2), (atP c2 3), (atP c2 4), (atP c2 5), (atP c2 6), (atP c2 7), (atP c2 8), (atP c2 9), (atP c2 10), (atP c2 11), (atP c2 12), (atP c2 13), (atP c2 14), (atP c2 15), (atP c2 16), (atP c2 17), (atP c2 18), (atP c2 19), (atP c2 20), (atP c2 21), (atP c2 22)], .agg [(atP c3 0), (atP c3 1), (atP c3 2), (atP c3 3), (atP c3 4), (atP c3 5), (atP c3 6), (atP c3 7), (atP c3 8), (atP c3 9), (atP c3 10), (atP c3 11), (atP c3 12), (atP c3 13), (atP c3 14), (atP c3 15), (atP c3 16), (atP c3 17), (atP c3 18), (atP c3 19), (atP c3 20), (atP c3 21), (atP c3 22)]] fun o4 =>
   unP .not (atP o4 0) fun r5 =>
   iteP r5
    (x0k)
    (binP .add v3 (I 1) fun r6 =>
    K [v0, v1, v2, r6]))
   (x1k v0 v1 v2 v3)) v
def laws_eqStoredS : GM
 | [.one a0, .one a1], k => 
  lenP a0 fun r0 =>
  lenP a1 fun r1 =>
  binP .neq r0 r1 fun r2 =>
  iteP r2
   (rt [.sc] [(.bool false)] k)
   (lp (fun L w => laws_eqStoredS_r0 w L
    (rt [.sc] [(.bool false)] k)
    (fun q7 q8 q9 q10 => rt [.sc] [(.bool true)] k)) [a0, a1, (.bool false), (I 0)])
 | _, _ => False
abbrev laws_eqStoredS_e : Ent := ⟨[123], laws_eqStoredS⟩
def laws_eqStoredS_l : List LE := [⟨0, ⟨[(0, .one (.pv (.bool false))), (1, .one (.pv (.bool false))), (4, .one (.pv (.bool false))), (5, .one (.pv (.bool false)))], [], [], 0, 27⟩, fun K k v => laws_eqStoredS_r0 v K (k .ret ⟨[(4, .one (.kb false))], [], [], 1, 27⟩) (fun x0 x1 x2 x3 => k (.exit 0) ⟨[(0, .one (.pv x0)), (1, .one (.pv x1)), (4, .one (.pv x2)), (5, .one (.pv x3))], [], [], 0, 27⟩)⟩]
theorem laws_eqStoredS_s : LEsOK (orac [laws_eqStored_e]) TT (kk [0, 1, 4, 5]) (sumsOf laws_eqStoredS_l) Try.f123 laws_eqStoredS_l := ⟨fun v K k h => by
  apply un_all h; exact fun v0 v1 v2 v3 h => Eq.mpr (by kernel_rfl) h
  , trivial⟩
theorem laws_eqStoredS_w : EntOK Try.prog TT laws_eqStoredS_e := ent_ok tabok (L := [laws_eqStored_e]) ⟨laws_eqStored_w, trivial⟩ (keep := (kk [0, 1, 4, 5])) (l := laws_eqStoredS_l) Try.func123 (by kernel_rfl) (sg := [.one (.sc)]) (by kernel_rfl) laws_eqStoredS_s fun av k h => by
  unfold laws_eqStoredS at h; split at h
  · exact Eq.mpr (by kernel_rfl) h
  · exact h.elim

def laws_eqCache : GM
 | [.agg u0, .agg u1], k => un 1 (fun a0 => un 1 (fun a1 => 
  call laws_eqStoredS [.one a0, .one a1] fun o0 =>
  unP .not (atP o0 0) fun r1 =>
  iteP r1
   (rt [.sc] [(.bool false)] k)
   (rt [.sc] [(.bool true)] k)) u1) u0
 | _, _ => False
abbrev laws_eqCache_e : Ent := ⟨[69], laws_eqCache⟩
theorem laws_eqCache_w : EntOK Try.prog TT laws_eqCache_e := ent_ok tabok (L := [laws_eqStoredS_e]) ⟨laws_eqStoredS_w, trivial⟩ (keep := []) (l := []) Try.func69 (by kernel_rfl) (sg := [.one (.sc)]) (by kernel_rfl) trivial fun av k h => by
  unfold laws_eqCache at h; split at h
  · apply un_all h; clear h; intro a0 h; apply un_all h; clear h; intro a1 h; exact Eq.mpr (by kernel_rfl) h
  · exact h.elim

def laws_eqWorld : GM
 | [.agg u0, .agg u1], k => un 8 (fun a0 a1 a2 a3 a4 a5 a6 a7 => un 8 (fun a8 a9 a10 a11 a12 a13 a14 a15 => 
  binP .neq a0 a8 fun r0 =>
  iteP r0
   (rt [.sc] [(.bool false)] k)
   (call laws_eqActorS [.one a1, .one a9] fun o1 =>
   unP .not (atP o1 0) fun r2 =>
   iteP r2
    (rt [.sc] [(.bool false)] k)
    (call laws_eqZoneS [.one a2, .one a10] fun o3 =>
    unP .not (atP o3 0) fun r4 =>
    iteP r4
     (rt [.sc] [(.bool false)] k)
     (call laws_eqSaidS [.one a3, .one a11] fun o5 =>
     unP .not (atP o5 0) fun r6 =>
     iteP r6
      (rt [.sc] [(.bool false)] k)
      (call laws_eqServerS [.one a4, .one a12] fun o7 =>
      unP .not (atP o7 0) fun r8 =>
      iteP r8
       (rt [.sc] [(.bool false)] k)
       (call laws_eqKnown [.agg [a5, a6], .agg [a13, a14]] fun o9 =>
       unP .not (atP o9 0) fun r10 =>
       iteP r10
        (rt [.sc] [(.bool false)] k)
        (call laws_eqCache [.agg [a7], .agg [a15]] fun o11 =>
        unP .not (atP o11 0) fun r12 =>
        iteP r12
         (rt [.sc] [(.bool false)] k)
         (rt [.sc] [(.bool true)] k)))))))) u1) u0
 | _, _ => False
abbrev laws_eqWorld_e : Ent := ⟨[27], laws_eqWorld⟩
theorem laws_eqWorld_w : EntOK Try.prog TT laws_eqWorld_e := ent_ok tabok (L := [laws_eqActorS_e, laws_eqZoneS_e, laws_eqSaidS_e, laws_eqServerS_e, laws_eqKnown_e, laws_eqCache_e]) ⟨laws_eqActorS_w, laws_eqZoneS_w, laws_eqSaidS_w, laws_eqServerS_w, laws_eqKnown_w, laws_eqCache_w, trivial⟩ (keep := []) (l := []) Try.func27 (by kernel_rfl) (sg := [.one (.sc)]) (by kernel_rfl) trivial fun av k h => by
  unfold laws_eqWorld at h; split at h
  · apply un_all h; clear h; intro a0 a1 a2 a3 a4 a5 a6 a7 h; apply un_all h; clear h; intro a8 a9 a10 a11 a12 a13 a14 a15 h; exact Eq.mpr (by kernel_rfl) h
  · exact h.elim

def laws_heldActorS_r0 (v : List PV) (K : List PV → Prop) (x0k : Prop) (x1k : PV → PV → PV → PV → Prop) : Prop :=
 un 4 (fun v0 v1 v2 v3 =>
  lenP v0 fun r0 =>
  binP .lss v3 r0 fun r1 =>
  iteP r1
   (elemP 1 v0 v3 fun c2 =>
   call laws_heldIntS [.one (atP c2 0), .one v1] fun o3 =>
   binP .lss (atP o3 0) (I 0) fun r4 =>
   iteP r4
    (x0k)
    (binP .add v3 (I 1) fun r5 =>
    K [v0, (atP o3 0), v2, r5]))
   (x1k v0 v1 v2 v3)) v
def laws_heldActorS : GM
 | [.one a0, .one a1], k => 
  lp (fun L w => laws_heldActorS_r0 w L
   (rt [.sc] [(I (-1))] k)
   (fun q6 q7 q8 q9 => rt [.sc] [q7] k)) [a0, a1, (I 0), (I 0)]
 | _, _ => False
abbrev laws_heldActorS_e : Ent := ⟨[13], laws_heldActorS⟩
def laws_heldActorS_l : List LE := [⟨0, ⟨[(0, .one (.pv (.bool false))), (1, .one (.pv (.bool false))), (4, .one (.pv (.bool false))), (5, .one (.pv (.bool false)))], [], [], 0, 22⟩, fun K k v => laws_heldActorS_r0 v K (k .ret ⟨[(4, .one (.pv (I (-1))))], [], [], 1, 22⟩) (fun x0 x1 x2 x3 => k (.exit 0) ⟨[(0, .one (.pv x0)), (1, .one (.pv x1)), (4, .one (.pv x2)), (5, .one (.pv x3))], [], [], 0, 22⟩)⟩]
theorem laws_heldActorS_s : LEsOK (orac [laws_heldIntS_e]) TT (kk [0, 1, 4, 5]) (sumsOf laws_heldActorS_l) Try.f13 laws_heldActorS_l := ⟨fun v K k h => by
  apply un_all h; exact fun v0 v1 v2 v3 h => Eq.mpr (by kernel_rfl) h
  , trivial⟩
theorem laws_heldActorS_w : EntOK Try.prog TT laws_heldActorS_e := ent_ok tabok (L := [laws_heldIntS_e]) ⟨laws_heldIntS_w, trivial⟩ (keep := (kk [0, 1, 4, 5])) (l := laws_heldActorS_l) Try.func13 (by kernel_rfl) (sg := [.one (.sc)]) (by kernel_rfl) laws_heldActorS_s fun av k h => by
  unfold laws_heldActorS at h; split at h
  · exact Eq.mpr (by kernel_rfl) h
  · exact h.elim

def laws_heldEntryS_r0 (v : List PV) (K : List PV → Prop) (x0k : Prop) (x1k : Prop) (x2k : PV → PV → PV → PV → Prop) : Prop :=
 un 4 (fun v0 v1 v2 v3 =>
  lenP v0 fun r0 =>
  binP .lss v3 r0 fun r1 =>
  iteP r1
   (elemP 4 v0 v3 fun c2 =>
   call laws_markText [.one v1] fun o3 =>
   binP .neq (atP c2 0) (atP o3 0) fun r4 =>
   iteP r4
    (x0k)
    (binP .add v1 (I 1) fun r5 =>
    elemP 4 v0 v3 fun c6 =>
    binP .neq (atP c6 1) r5 fun r7 =>
    iteP r7
     (x0k)
     (binP .add r5 (I 1) fun r8 =>
     elemP 4 v0 v3 fun c9 =>
     binP .neq (atP c9 2) r8 fun r10 =>
     iteP r10
      (x0k)
      (binP .add r8 (I 1) fun r11 =>
      elemP 4 v0 v3 fun c12 =>
      call laws_heldStringS [.one (atP c12 3), .one r11] fun o13 =>
      binP .lss (atP o13 0) (I 0) fun r14 =>
      iteP r14
       (x1k)
       (binP .add v3 (I 1) fun r15 =>
       K [v0, (atP o13 0), v2, r15])))))
   (x2k v0 v1 v2 v3)) v
def laws_heldEntryS : GM
 | [.one a0, .one a1], k => 
  lp (fun L w => laws_heldEntryS_r0 w L
   (rt [.sc] [(I (-1))] k)
   (rt [.sc] [(I (-1))] k)
   (fun q16 q17 q18 q19 => rt [.sc] [q17] k)) [a0, a1, (I 0), (I 0)]
 | _, _ => False
abbrev laws_heldEntryS_e : Ent := ⟨[128], laws_heldEntryS⟩
def laws_heldEntryS_l : List LE := [⟨0, ⟨[(0, .one (.pv (.bool false))), (1, .one (.pv (.bool false))), (4, .one (.pv (.bool false))), (5, .one (.pv (.bool false)))], [], [], 0, 50⟩, fun K k v => laws_heldEntryS_r0 v K (k .ret ⟨[(4, .one (.pv (I (-1))))], [], [], 1, 50⟩) (k .ret ⟨[(4, .one (.pv (I (-1))))], [], [], 2, 50⟩) (fun x0 x1 x2 x3 => k (.exit 0) ⟨[(0, .one (.pv x0)), (1, .one (.pv x1)), (4, .one (.pv x2)), (5, .one (.pv x3))], [], [], 0, 50⟩)⟩]
theorem laws_heldEntryS_s : LEsOK (orac [laws_markText_e, laws_heldStringS_e]) TT (kk [0, 1, 4, 5]) (sumsOf laws_heldEntryS_l) Try.f128 laws_heldEntryS_l := ⟨fun v K k h => by
  apply un_all h; exact fun v0 v1 v2 v3 h => Eq.mpr (by kernel_rfl) h
  , trivial⟩
theorem laws_heldEntryS_w : EntOK Try.prog TT laws_heldEntryS_e := ent_ok tabok (L := [laws_markText_e, laws_heldStringS_e]) ⟨laws_markText_w, laws_heldStringS_w, trivial⟩ (keep := (kk [0, 1, 4, 5])) (l := laws_heldEntryS_l) Try.func128 (by kernel_rfl) (sg := [.one (.sc)]) (by kernel_rfl) laws_heldEntryS_s fun av k h => by
  unfold laws_heldEntryS at h; split at h
  · exact Eq.mpr (by kernel_rfl) h
  · exact h.elim

def laws_heldZoneS_r0 (v : List PV) (K : List PV → Prop) (x0k : Prop) (x1k : Prop) (x2k : PV → PV → PV → PV → Prop) : Prop :=
 un 4 (fun v0 v1 v2 v3 =>
  lenP v0 fun r0 =>
  binP .lss v3 r0 fun r1 =>
  iteP r1
   (elemP 2 v0 v3 fun c2 =>
   call laws_heldSignedS [.one (atP c2 0), .one v1] fun o3 =>
   binP .lss (atP o3 0) (I 0) fun r4 =>
   iteP r4
    (x0k)
    (elemP 2 v0 v3 fun c5 =>
    call laws_heldEntryS [.one (atP c5 1), .one (atP o3 0)] fun o6 =>
    binP .lss (atP o6 0) (I 0) fun r7 =>
    iteP r7
     (x1k)
     (binP .add v3 (I 1) fun r8 =>
     K [v0, (atP o6 0), v2, r8])))
   (x2k v0 v1 v2 v3)) v
def laws_heldZoneS : GM
 | [.one a0, .one a1], k => 
  lp (fun L w => laws_heldZoneS_r0 w L
   (rt [.sc] [(I (-1))] k)
   (rt [.sc] [(I (-1))] k)
   (fun q9 q10 q11 q12 => rt [.sc] [q10] k)) [a0, a1, (I 0), (I 0)]
 | _, _ => False
abbrev laws_heldZoneS_e : Ent := ⟨[75], laws_heldZoneS⟩
def laws_heldZoneS_l : List LE := [⟨0, ⟨[(0, .one (.pv (.bool false))), (1, .one (.pv (.bool false))), (4, .one (.pv (.bool false))), (5, .one (.pv (.bool false)))], [], [], 0, 31⟩, fun K k v => laws_heldZoneS_r0 v K (k .ret ⟨[(4, .one (.pv (I (-1))))], [], [], 1, 31⟩) (k .ret ⟨[(4, .one (.pv (I (-1))))], [], [], 2, 31⟩) (fun x0 x1 x2 x3 => k (.exit 0) ⟨[(0, .one (.pv x0)), (1, .one (.pv x1)), (4, .one (.pv x2)), (5, .one (.pv x3))], [], [], 0, 31⟩)⟩]
theorem laws_heldZoneS_s : LEsOK (orac [laws_heldSignedS_e, laws_heldEntryS_e]) TT (kk [0, 1, 4, 5]) (sumsOf laws_heldZoneS_l) Try.f75 laws_heldZoneS_l := ⟨fun v K k h => by
  apply un_all h; exact fun v0 v1 v2 v3 h => Eq.mpr (by kernel_rfl) h
  , trivial⟩
theorem laws_heldZoneS_w : EntOK Try.prog TT laws_heldZoneS_e := ent_ok tabok (L := [laws_heldSignedS_e, laws_heldEntryS_e]) ⟨laws_heldSignedS_w, laws_heldEntryS_w, trivial⟩ (keep := (kk [0, 1, 4, 5])) (l := laws_heldZoneS_l) Try.func75 (by kernel_rfl) (sg := [.one (.sc)]) (by kernel_rfl) laws_heldZoneS_s fun av k h => by
  unfold laws_heldZoneS at h; split at h
  · exact Eq.mpr (by kernel_rfl) h
  · exact h.elim

def laws_heldSaidS_r0 (v : List PV) (K : List PV → Prop) (x0k : Prop) (x1k : Prop) (x2k : Prop) (x3k : PV → PV → PV → PV → Prop) : Prop :=
 un 4 (fun v0 v1 v2 v3 =>
  lenP v0 fun r0 =>
  binP .lss v3 r0 fun r1 =>
  iteP r1
   (elemP 3 v0 v3 fun c2 =>
   call laws_heldSignedS [.one (atP c2 0), .one v1] fun o3 =>
   binP .lss (atP o3 0) (I 0) fun r4 =>
   iteP r4
    (x0k)
    (elemP 3 v0 v3 fun c5 =>
    call laws_heldEntryS [.one (atP c5 1), .one (atP o3 0)] fun o6 =>
    binP .lss (atP o6 0) (I 0) fun r7 =>
    iteP r7
     (x1k)
     (elemP 3 v0 v3 fun c8 =>
     call laws_heldIntS [.one (atP c8 2), .one (atP o6 0)] fun o9 =>
     binP .lss (atP o9 0) (I 0) fun r10 =>
     iteP r10
      (x2k)
      (binP .add v3 (I 1) fun r11 =>
      K [v0, (atP o9 0), v2, r11]))))
   (x3k v0 v1 v2 v3)) v
def laws_heldSaidS : GM
 | [.one a0, .one a1], k => 
  lp (fun L w => laws_heldSaidS_r0 w L
   (rt [.sc] [(I (-1))] k)
   (rt [.sc] [(I (-1))] k)
   (rt [.sc] [(I (-1))] k)
   (fun q12 q13 q14 q15 => rt [.sc] [q13] k)) [a0, a1, (I 0), (I 0)]
 | _, _ => False
abbrev laws_heldSaidS_e : Ent := ⟨[76], laws_heldSaidS⟩
def laws_heldSaidS_l : List LE := [⟨0, ⟨[(0, .one (.pv (.bool false))), (1, .one (.pv (.bool false))), (4, .one (.pv (.bool false))), (5, .one (.pv (.bool false)))], [], [], 0, 42⟩, fun K k v => laws_heldSaidS_r0 v K (k .ret ⟨[(4, .one (.pv (I (-1))))], [], [], 1, 42⟩) (k .ret ⟨[(4, .one (.pv (I (-1))))], [], [], 2, 42⟩) (k .ret ⟨[(4, .one (.pv (I (-1))))], [], [], 3, 42⟩) (fun x0 x1 x2 x3 => k (.exit 0) ⟨[(0, .one (.pv x0)), (1, .one (.pv x1)), (4, .one (.pv x2)), (5, .one (.pv x3))], [], [], 0, 42⟩)⟩]
theorem laws_heldSaidS_s : LEsOK (orac [laws_heldSignedS_e, laws_heldEntryS_e, laws_heldIntS_e]) TT (kk [0, 1, 4, 5]) (sumsOf laws_heldSaidS_l) Try.f76 laws_heldSaidS_l := ⟨fun v K k h => by
  apply un_all h; exact fun v0 v1 v2 v3 h => Eq.mpr (by kernel_rfl) h
  , trivial⟩
theorem laws_heldSaidS_w : EntOK Try.prog TT laws_heldSaidS_e := ent_ok tabok (L := [laws_heldSignedS_e, laws_heldEntryS_e, laws_heldIntS_e]) ⟨laws_heldSignedS_w, laws_heldEntryS_w, laws_heldIntS_w, trivial⟩ (keep := (kk [0, 1, 4, 5])) (l := laws_heldSaidS_l) Try.func76 (by kernel_rfl) (sg := [.one (.sc)]) (by kernel_rfl) laws_heldSaidS_s fun av k h => by
  unfold laws_heldSaidS at h; split at h
  · exact Eq.mpr (by kernel_rfl) h
  · exact h.elim

def laws_heldServerS_r0 (v : List PV) (K : List PV → Prop) (x0k : Prop) (x1k : PV → PV → PV → PV → Prop) : Prop :=
 un 4 (fun v0 v1 v2 v3 =>
  lenP v0 fun r0 =>
  binP .lss v3 r0 fun r1 =>
  iteP r1
   (elemP 2 v0 v3 fun c2 =>
   call laws_heldZoneS [.one (atP c2 0), .one v1] fun o3 =>
   binP .lss (atP o3 0) (I 0) fun r4 =>
   iteP r4
    (x0k)
    (elemP 2 v0 v3 fun c5 =>
    binP .neq (atP c5 1) (atP o3 0) fun r6 =>
    iteP r6
     (x0k)
     (binP .add (atP o3 0) (I 1) fun r7 =>
     binP .add v3 (I 1) fun r8 =>
     K [v0, r7, v2, r8])))
   (x1k v0 v1 v2 v3)) v
def laws_heldServerS : GM
 | [.one a0, .one a1], k => 
  lp (fun L w => laws_heldServerS_r0 w L
   (rt [.sc] [(I (-1))] k)
   (fun q9 q10 q11 q12 => rt [.sc] [q10] k)) [a0, a1, (I 0), (I 0)]
 | _, _ => False
abbrev laws_heldServerS_e : Ent := ⟨[77], laws_heldServerS⟩
def laws_heldServerS_l : List LE := [⟨0, ⟨[(0, .one (.pv (.bool false))), (1, .one (.pv (.bool false))), (4, .one (.pv (.bool false))), (5, .one (.pv (.bool false)))], [], [], 0, 31⟩, fun K k v => laws_heldServerS_r0 v K (k .ret ⟨[(4, .one (.pv (I (-1))))], [], [], 1, 31⟩) (fun x0 x1 x2 x3 => k (.exit 0) ⟨[(0, .one (.pv x0)), (1, .one (.pv x1)), (4, .one (.pv x2)), (5, .one (.pv x3))], [], [], 0, 31⟩)⟩]
theorem laws_heldServerS_s : LEsOK (orac [laws_heldZoneS_e]) TT (kk [0, 1, 4, 5]) (sumsOf laws_heldServerS_l) Try.f77 laws_heldServerS_l := ⟨fun v K k h => by
  apply un_all h; exact fun v0 v1 v2 v3 h => Eq.mpr (by kernel_rfl) h
  , trivial⟩
theorem laws_heldServerS_w : EntOK Try.prog TT laws_heldServerS_e := ent_ok tabok (L := [laws_heldZoneS_e]) ⟨laws_heldZoneS_w, trivial⟩ (keep := (kk [0, 1, 4, 5])) (l := laws_heldServerS_l) Try.func77 (by kernel_rfl) (sg := [.one (.sc)]) (by kernel_rfl) laws_heldServerS_s fun av k h => by
  unfold laws_heldServerS at h; split at h
  · exact Eq.mpr (by kernel_rfl) h
  · exact h.elim

def laws_heldSignedSS_r0 (v : List PV) (K : List PV → Prop) (x0k : Prop) (x1k : PV → PV → PV → PV → Prop) : Prop :=
 un 4 (fun v0 v1 v2 v3 =>
  lenP v0 fun r0 =>
  binP .lss v3 r0 fun r1 =>
  iteP r1
   (elemP 1 v0 v3 fun c2 =>
   call laws_heldSignedS [.one (atP c2 0), .one v1] fun o3 =>
   binP .lss (atP o3 0) (I 0) fun r4 =>
   iteP r4
    (x0k)
    (binP .add v3 (I 1) fun r5 =>
    K [v0, (atP o3 0), v2, r5]))
   (x1k v0 v1 v2 v3)) v
def laws_heldSignedSS : GM
 | [.one a0, .one a1], k => 
  lp (fun L w => laws_heldSignedSS_r0 w L
   (rt [.sc] [(I (-1))] k)
   (fun q6 q7 q8 q9 => rt [.sc] [q7] k)) [a0, a1, (I 0), (I 0)]
 | _, _ => False
abbrev laws_heldSignedSS_e : Ent := ⟨[129], laws_heldSignedSS⟩
def laws_heldSignedSS_l : List LE := [⟨0, ⟨[(0, .one (.pv (.bool false))), (1, .one (.pv (.bool false))), (4, .one (.pv (.bool false))), (5, .one (.pv (.bool false)))], [], [], 0, 21⟩, fun K k v => laws_heldSignedSS_r0 v K (k .ret ⟨[(4, .one (.pv (I (-1))))], [], [], 1, 21⟩) (fun x0 x1 x2 x3 => k (.exit 0) ⟨[(0, .one (.pv x0)), (1, .one (.pv x1)), (4, .one (.pv x2)), (5, .one (.pv x3))], [], [], 0, 21⟩)⟩]
theorem laws_heldSignedSS_s : LEsOK (orac [laws_heldSignedS_e]) TT (kk [0, 1, 4, 5]) (sumsOf laws_heldSignedSS_l) Try.f129 laws_heldSignedSS_l := ⟨fun v K k h => by
  apply un_all h; exact fun v0 v1 v2 v3 h => Eq.mpr (by kernel_rfl) h
  , trivial⟩
theorem laws_heldSignedSS_w : EntOK Try.prog TT laws_heldSignedSS_e := ent_ok tabok (L := [laws_heldSignedS_e]) ⟨laws_heldSignedS_w, trivial⟩ (keep := (kk [0, 1, 4, 5])) (l := laws_heldSignedSS_l) Try.func129 (by kernel_rfl) (sg := [.one (.sc)]) (by kernel_rfl) laws_heldSignedSS_s fun av k h => by
  unfold laws_heldSignedSS at h; split at h
  · exact Eq.mpr (by kernel_rfl) h
  · exact h.elim

def laws_heldForkS_r0 (v : List PV) (K : List PV → Prop) (x0k : Prop) (x1k : Prop) (x2k : Prop) (x3k : Prop) (x4k : Prop) (x5k : Prop) (x6k : Prop) (x7k : Prop) (x8k : Prop) (x9k : Prop) (x10k : Prop) (x11k : Prop) (x12k : Prop) (x13k : PV → PV → PV → PV → Prop) : Prop := match v with
 | [.list 51 [], .int .i64 q, z, .int .i64 0] => x13k (.list 51 []) (.int .i64 q) z (.int .i64 0)
 | _ => False
def laws_heldForkS : GM
 | [.one a0, .one a1], k => 
  lp (fun L w => laws_heldForkS_r0 w L
   (rt [.sc] [(I (-1))] k)
   (rt [.sc] [(I (-1))] k)
   (rt [.sc] [(I (-1))] k)
   (rt [.sc] [(I (-1))] k)
   (rt [.sc] [(I (-1))] k)
   (rt [.sc] [(I (-1))] k)
   (rt [.sc] [(I (-1))] k)
   (rt [.sc] [(I (-1))] k)
   (rt [.sc] [(I (-1))] k)
   (rt [.sc] [(I (-1))] k)
   (rt [.sc] [(I (-1))] k)
   (rt [.sc] [(I (-1))] k)
   (rt [.sc] [(I (-1))] k)
   (fun q162 q163 q164 q165 => rt [.sc] [q163] k)) [a0, a1, (I 0), (I 0)]
 | _, _ => False
abbrev laws_heldForkS_e : Ent := ⟨[130], laws_heldForkS⟩
def laws_heldForkS_l : List LE := [⟨0, ⟨[(0, .one (.pv (.bool false))), (1, .one (.pv (.bool false))), (4, .one (.pv (.bool false))), (5, .one (.pv (.bool false)))], [], [], 0, 595⟩, fun K k v => laws_heldForkS_r0 v K (k .ret ⟨[(4, .one (.pv (I (-1))))], [], [], 0, 595⟩) (k .ret ⟨[(4, .one (.pv (I (-1))))], [], [], 1, 595⟩) (k .ret ⟨[(4, .one (.pv (I (-1))))], [], [], 2, 595⟩) (k .ret ⟨[(4, .one (.pv (I (-1))))], [], [], 3, 595⟩) (k .ret ⟨[(4, .one (.pv (I (-1))))], [], [], 4, 595⟩) (k .ret ⟨[(4, .one (.pv (I (-1))))], [], [], 5, 595⟩) (k .ret ⟨[(4, .one (.pv (I (-1))))], [], [], 6, 595⟩) (k .ret ⟨[(4, .one (.pv (I (-1))))], [], [], 7, 595⟩) (k .ret ⟨[(4, .one (.pv (I (-1))))], [], [], 8, 595⟩) (k .ret ⟨[(4, .one (.pv (I (-1))))], [], [], 9, 595⟩) (k .ret ⟨[(4, .one (.pv (I (-1))))], [], [], 10, 595⟩) (k .ret ⟨[(4, .one (.pv (I (-1))))], [], [], 11, 595⟩) (k .ret ⟨[(4, .one (.pv (I (-1))))], [], [], 12, 595⟩) (fun x0 x1 x2 x3 => k (.exit 0) ⟨[(0, .one (.pv x0)), (1, .one (.pv x1)), (4, .one (.pv x2)), (5, .one (.pv x3))], [], [], 0, 595⟩)⟩]
theorem laws_heldForkS_s : LEsOK (orac [laws_heldIntS_e, laws_heldSigS_e]) TT (kk [0, 1, 4, 5]) (sumsOf laws_heldForkS_l) Try.f130 laws_heldForkS_l := ⟨fun v K k h => by
  dsimp only at h
  unfold laws_heldForkS_r0 at h
  split at h
  · exact Eq.mpr (by kernel_rfl) h
  · exact h.elim, trivial⟩
theorem laws_heldForkS_w : EntOK Try.prog TT laws_heldForkS_e := ent_ok tabok (L := [laws_heldIntS_e, laws_heldSigS_e]) ⟨laws_heldIntS_w, laws_heldSigS_w, trivial⟩ (keep := (kk [0, 1, 4, 5])) (l := laws_heldForkS_l) Try.func130 (by kernel_rfl) (sg := [.one (.sc)]) (by kernel_rfl) laws_heldForkS_s fun av k h => by
  unfold laws_heldForkS at h; split at h
  · exact Eq.mpr (by kernel_rfl) h
  · exact h.elim

def laws_heldKnown : GM
 | [.agg u0, .one a2], k => un 2 (fun a0 a1 => 
  call laws_heldSignedSS [.one a0, .one a2] fun o0 =>
  binP .lss (atP o0 0) (I 0) fun r1 =>
  iteP r1
   (rt [.sc] [(I (-1))] k)
   (call laws_heldForkS [.one a1, .one (atP o0 0)] fun o2 =>
   binP .lss (atP o2 0) (I 0) fun r3 =>
   iteP r3
    (rt [.sc] [(I (-1))] k)
    (rt [.sc] [(atP o2 0)] k))) u0
 | _, _ => False
abbrev laws_heldKnown_e : Ent := ⟨[78], laws_heldKnown⟩
theorem laws_heldKnown_w : EntOK Try.prog TT laws_heldKnown_e := ent_ok tabok (L := [laws_heldSignedSS_e, laws_heldForkS_e]) ⟨laws_heldSignedSS_w, laws_heldForkS_w, trivial⟩ (keep := []) (l := []) Try.func78 (by kernel_rfl) (sg := [.one (.sc)]) (by kernel_rfl) trivial fun av k h => by
  unfold laws_heldKnown at h; split at h
  · apply un_all h; clear h; intro a0 a1 h; exact Eq.mpr (by kernel_rfl) h
  · exact h.elim

def laws_heldStoredS_r0 (v : List PV) (K : List PV → Prop) (x0k : Prop) (x1k : Prop) (x2k : Prop) (x3k : Prop) (x4k : Prop) (x5k : Prop) (x6k : Prop) (x7k : Prop) (x8k : Prop) (x9k : Prop) (x10k : Prop) (x11k : Prop) (x12k : PV → PV → PV → PV → Prop) : Prop :=
 un 4 (fun v0 v1 v2 v3 =>
  lenP v0 fun r0 =>
  binP .lss v3 r0 fun r1 =>
  iteP r1
   (elemP 23 v0 v3 fun c2 =>
   binP .neq (atP c2 0) v1 fun r3 =>
   iteP r3
    (x0k)
    (binP .add v1 (I 1) fun r4 =>
    elemP 23 v0 v3 fun c5 =>
    call laws_markText [.one r4] fun o6 =>
    binP .neq (atP c5 1) (atP o6 0) fun r7 =>
    iteP r7
     (x1k)
     (binP .add r4 (I 1) fun r8 =>
     elemP 23 v0 v3 fun c9 =>
     call laws_heldSignedS [.one (atP c9 2), .one r8] fun o10 =>
     binP .lss (atP o10 0) (I 0) fun r11 =>
     iteP r11
      (x2k)
      (elemP 23 v0 v3 fun c12 =>
      binP .rem (atP o10 0) (I 3) fun r13 =>
      binP .eql r13 (I 0) fun r14 =>
      boolP .neq (atP c12 3) r14 fun r15 =>
      iteP r15
       (x2k)
       (binP .add (atP o10 0) (I 1) fun r16 =>
       elemP 23 v0 v3 fun c17 =>
       call laws_markText [.one r16] fun o18 =>
       binP .neq (atP c17 4) (atP o18 0) fun r19 =>
       iteP r19
        (x3k)
        (binP .add r16 (I 1) fun r20 =>
        elemP 23 v0 v3 fun c21 =>
        binP .neq (atP c21 5) r20 fun r22 =>
        iteP r22
         (x3k)
         (binP .add r20 (I 1) fun r23 =>
         elemP 23 v0 v3 fun c24 =>
         binP .neq (atP c24 6) r23 fun r25 =>
         iteP r25
          (x3k)
          (binP .add r23 (I 1) fun r26 =>
          elemP 23 v0 v3 fun c27 =>
          call laws_heldStringS [.one (atP c27 7), .one r26] fun o28 =>
          binP .lss (atP o28 0) (I 0) fun r29 =>
          iteP r29
           (x4k)
           (elemP 23 v0 v3 fun c30 =>
           binP .neq (atP c30 8) (atP o28 0) fun r31 =>
           iteP r31
            (x4k)
            (binP .add (atP o28 0) (I 1) fun r32 =>
            elemP 23 v0 v3 fun c33 =>
            call laws_heldIntS [.one (atP c33 9), .one r32] fun o34 =>
            binP .lss (atP o34 0) (I 0) fun r35 =>
            iteP r35
             (x5k)
             (elemP 23 v0 v3 fun c36 =>
             binP .neq (atP c36 10) (atP o34 0) fun r37 =>
             iteP r37
              (x5k)
              (binP .add (atP o34 0) (I 1) fun r38 =>
              elemP 23 v0 v3 fun c39 =>
              call laws_markText [.one r38] fun o40 =>
              binP .neq (atP c39 11) (atP o40 0) fun r41 =>
              iteP r41
               (x6k)
               (binP .add r38 (I 1) fun r42 =>
               elemP 23 v0 v3 fun c43 =>
               binP .neq (atP c43 12) r42 fun r44 =>
               iteP r44
                (x6k)
                (binP .add r42 (I 1) fun r45 =>
                elemP 23 v0 v3 fun c46 =>
                binP .neq (atP c46 13) r45 fun r47 =>
                iteP r47
                 (x6k)
                 (binP .add r45 (I 1) fun r48 =>
                 elemP 23 v0 v3 fun c49 =>
                 call laws_heldStringS [.one (atP c49 14), .one r48] fun o50 =>
                 binP .lss (atP o50 0) (I 0) fun r51 =>
                 iteP r51
                  (x7k)
                  (elemP 23 v0 v3 fun c52 =>
                  call laws_markText [.one (atP o50 0)] fun o53 =>
                  binP .neq (atP c52 15) (atP o53 0) fun r54 =>
                  iteP r54
                   (x8k)
                   (binP .add (atP o50 0) (I 1) fun r55 =>
                   elemP 23 v0 v3 fun c56 =>
                   binP .neq (atP c56 16) r55 fun r57 =>
                   iteP r57
                    (x8k)
                    (binP .add r55 (I 1) fun r58 =>
                    elemP 23 v0 v3 fun c59 =>
                    binP .neq (atP c59 17) r58 fun r60 =>
                    iteP r60
                     (x8k)
                     (binP .add r58 (I 1) fun r61 =>
                     elemP 23 v0 v3 fun c62 =>
                     call laws_heldStringS [.one (atP c62 18), .one r61] fun o63 =>
                     binP .lss (atP o63 0) (I 0) fun r64 =>
                     iteP r64
                      (x9k)
                      (elemP 23 v0 v3 fun c65 =>
                      binP .neq (atP c65 19) (atP o63 0) fun r66 =>
                      iteP r66
                       (x9k)
                       (binP .add (atP o63 0) (I 1) fun r67 =>
                       elemP 23 v0 v3 fun c68 =>
                       call laws_heldIntS [.one (atP c68 20), .one r67] fun o69 =>
                       binP .lss (atP o69 0) (I 0) fun r70 =>
                       iteP r70
                        (x10k)
                        (elemP 23 v0 v3 fun c71 =>
                        binP .neq (atP c71 21) (atP o69 0) fun r72 =>
                        iteP r72
                         (x10k)
                         (binP .add (atP o69 0) (I 1) fun r73 =>
                         elemP 23 v0 v3 fun c74 =>
                         call laws_heldIntS [.one (atP c74 22), .one r73] fun o75 =>
                         binP .lss (atP o75 0) (I 0) fun r76 =>
                         iteP r76
                          (x11k)
                          (binP .add v3 (I 1) fun r77 =>
                          K [v0, (atP o75 0), v2, r77]))))))))))))))))))))))))
   (x12k v0 v1 v2 v3)) v
def laws_heldStoredS : GM
 | [.one a0, .one a1], k => 
  lp (fun L w => laws_heldStoredS_r0 w L
   (rt [.sc] [(I (-1))] k)
   (rt [.sc] [(I (-1))] k)
   (rt [.sc] [(I (-1))] k)
   (rt [.sc] [(I (-1))] k)
   (rt [.sc] [(I (-1))] k)
   (rt [.sc] [(I (-1))] k)
   (rt [.sc] [(I (-1))] k)
   (rt [.sc] [(I (-1))] k)
   (rt [.sc] [(I (-1))] k)
   (rt [.sc] [(I (-1))] k)
   (rt [.sc] [(I (-1))] k)
   (rt [.sc] [(I (-1))] k)
   (fun q78 q79 q80 q81 => rt [.sc] [q79] k)) [a0, a1, (I 0), (I 0)]
 | _, _ => False
abbrev laws_heldStoredS_e : Ent := ⟨[131], laws_heldStoredS⟩
def laws_heldStoredS_l : List LE := [⟨0, ⟨[(0, .one (.pv (.bool false))), (1, .one (.pv (.bool false))), (4, .one (.pv (.bool false))), (5, .one (.pv (.bool false)))], [], [], 0, 278⟩, fun K k v => laws_heldStoredS_r0 v K (k .ret ⟨[(4, .one (.pv (I (-1))))], [], [], 0, 278⟩) (k .ret ⟨[(4, .one (.pv (I (-1))))], [], [], 1, 278⟩) (k .ret ⟨[(4, .one (.pv (I (-1))))], [], [], 2, 278⟩) (k .ret ⟨[(4, .one (.pv (I (-1))))], [], [], 3, 278⟩) (k .ret ⟨[(4, .one (.pv (I (-1))))], [], [], 4, 278⟩) (k .ret ⟨[(4, .one (.pv (I (-1))))], [], [], 5, 278⟩) (k .ret ⟨[(4, .one (.pv (I (-1))))], [], [], 6, 278⟩) (k .ret ⟨[(4, .one (.pv (I (-1))))], [], [], 7, 278⟩) (k .ret ⟨[(4, .one (.pv (I (-1))))], [], [], 8, 278⟩) (k .ret ⟨[(4, .one (.pv (I (-1))))], [], [], 9, 278⟩) (k .ret ⟨[(4, .one (.pv (I (-1))))], [], [], 10, 278⟩) (k .ret ⟨[(4, .one (.pv (I (-1))))], [], [], 11, 278⟩) (fun x0 x1 x2 x3 => k (.exit 0) ⟨[(0, .one (.pv x0)), (1, .one (.pv x1)), (4, .one (.pv x2)), (5, .one (.pv x3))], [], [], 0, 278⟩)⟩]
theorem laws_heldStoredS_s : LEsOK (orac [laws_markText_e, laws_heldSignedS_e, laws_heldStringS_e, laws_heldIntS_e]) TT (kk [0, 1, 4, 5]) (sumsOf laws_heldStoredS_l) Try.f131 laws_heldStoredS_l := ⟨fun v K k h => by
  apply un_all h; exact fun v0 v1 v2 v3 h => Eq.mpr (by kernel_rfl) h
  , trivial⟩
theorem laws_heldStoredS_w : EntOK Try.prog TT laws_heldStoredS_e := ent_ok tabok (L := [laws_markText_e, laws_heldSignedS_e, laws_heldStringS_e, laws_heldIntS_e]) ⟨laws_markText_w, laws_heldSignedS_w, laws_heldStringS_w, laws_heldIntS_w, trivial⟩ (keep := (kk [0, 1, 4, 5])) (l := laws_heldStoredS_l) Try.func131 (by kernel_rfl) (sg := [.one (.sc)]) (by kernel_rfl) laws_heldStoredS_s fun av k h => by
  unfold laws_heldStoredS at h; split at h
  · exact Eq.mpr (by kernel_rfl) h
  · exact h.elim

def laws_heldCache : GM
 | [.agg u0, .one a1], k => un 1 (fun a0 => 
  call laws_heldStoredS [.one a0, .one a1] fun o0 =>
  binP .lss (atP o0 0) (I 0) fun r1 =>
  iteP r1
   (rt [.sc] [(I (-1))] k)
   (rt [.sc] [(atP o0 0)] k)) u0
 | _, _ => False
abbrev laws_heldCache_e : Ent := ⟨[79], laws_heldCache⟩
theorem laws_heldCache_w : EntOK Try.prog TT laws_heldCache_e := ent_ok tabok (L := [laws_heldStoredS_e]) ⟨laws_heldStoredS_w, trivial⟩ (keep := []) (l := []) Try.func79 (by kernel_rfl) (sg := [.one (.sc)]) (by kernel_rfl) trivial fun av k h => by
  unfold laws_heldCache at h; split at h
  · apply un_all h; clear h; intro a0 h; exact Eq.mpr (by kernel_rfl) h
  · exact h.elim

def laws_heldWorld : GM
 | [.agg u0, .one a8], k => un 8 (fun a0 a1 a2 a3 a4 a5 a6 a7 => 
  call laws_heldActorS [.one a1, .one a8] fun o0 =>
  binP .lss (atP o0 0) (I 0) fun r1 =>
  iteP r1
   (rt [.sc] [(I (-1))] k)
   (call laws_heldZoneS [.one a2, .one (atP o0 0)] fun o2 =>
   binP .lss (atP o2 0) (I 0) fun r3 =>
   iteP r3
    (rt [.sc] [(I (-1))] k)
    (call laws_heldSaidS [.one a3, .one (atP o2 0)] fun o4 =>
    binP .lss (atP o4 0) (I 0) fun r5 =>
    iteP r5
     (rt [.sc] [(I (-1))] k)
     (call laws_heldServerS [.one a4, .one (atP o4 0)] fun o6 =>
     binP .lss (atP o6 0) (I 0) fun r7 =>
     iteP r7
      (rt [.sc] [(I (-1))] k)
      (call laws_heldKnown [.agg [a5, a6], .one (atP o6 0)] fun o8 =>
      binP .lss (atP o8 0) (I 0) fun r9 =>
      iteP r9
       (rt [.sc] [(I (-1))] k)
       (call laws_heldCache [.agg [a7], .one (atP o8 0)] fun o10 =>
       binP .lss (atP o10 0) (I 0) fun r11 =>
       iteP r11
        (rt [.sc] [(I (-1))] k)
        (rt [.sc] [(atP o10 0)] k))))))) u0
 | _, _ => False
abbrev laws_heldWorld_e : Ent := ⟨[29], laws_heldWorld⟩
theorem laws_heldWorld_w : EntOK Try.prog TT laws_heldWorld_e := ent_ok tabok (L := [laws_heldActorS_e, laws_heldZoneS_e, laws_heldSaidS_e, laws_heldServerS_e, laws_heldKnown_e, laws_heldCache_e]) ⟨laws_heldActorS_w, laws_heldZoneS_w, laws_heldSaidS_w, laws_heldServerS_w, laws_heldKnown_w, laws_heldCache_w, trivial⟩ (keep := []) (l := []) Try.func29 (by kernel_rfl) (sg := [.one (.sc)]) (by kernel_rfl) trivial fun av k h => by
  unfold laws_heldWorld at h; split at h
  · apply un_all h; clear h; intro a0 a1 a2 a3 a4 a5 a6 a7 h; exact Eq.mpr (by kernel_rfl) h
  · exact h.elim

def laws_FnExactNewWorld : GM
 | [.one a0, .one a1], k => 
  call spec_NewWorld [.one a0, .one a1] fun o0 =>
  call impl_NewWorld [.one a0, .one a1] fun o1 =>
  call laws_eqWorld [.agg [(atP o1 0), (atP o1 1), (atP o1 2), (atP o1 3), (atP o1 4), (atP o1 5), (atP o1 6), (atP o1 7)], .agg [(atP o0 0), (atP o0 1), (atP o0 2), (atP o0 3), (atP o0 4), (atP o0 5), (atP o0 6), (atP o0 7)]] fun o2 =>
  unP .not (atP o2 0) fun r3 =>
  iteP r3
   (rt [.sc] [(.bool false)] k)
   ((flatCond [.pv (I 0), .nil 78 1, .nil 155 2, .nil 158 3, .nil 108 2, .nil 35 1, .nil 186 51, .nil 189 23] [.pv (atP o1 0), .own 10, .own 11, .own 12, .own 13, .own 14, .own 15, .own 16]) ∧ call laws_markWorld [.agg [(atP o1 0), (atP o1 1), (atP o1 2), (atP o1 3), (atP o1 4), (atP o1 5), (atP o1 6), (atP o1 7)], .one (I 1)] fun o4 =>
   call laws_heldWorld [.agg [(atP o1 0), (atP o4 1), (atP o4 2), (atP o4 3), (atP o4 4), (atP o4 5), (atP o4 6), (atP o4 7)], .one (I 1)] fun o5 =>
   binP .lss (atP o5 0) (I 0) fun r6 =>
   iteP r6
    (rt [.sc] [(.bool false)] k)
    (binP .neq (atP o5 0) (atP o4 8) fun r7 =>
    iteP r7
     (rt [.sc] [(.bool false)] k)
     (call impl_NewWorld [.one a0, .one a1] fun o8 =>
     call laws_eqWorld [.agg [(atP o8 0), (atP o8 1), (atP o8 2), (atP o8 3), (atP o8 4), (atP o8 5), (atP o8 6), (atP o8 7)], .agg [(atP o0 0), (atP o0 1), (atP o0 2), (atP o0 3), (atP o0 4), (atP o0 5), (atP o0 6), (atP o0 7)]] fun o9 =>
     unP .not (atP o9 0) fun r10 =>
     iteP r10
      (rt [.sc] [(.bool false)] k)
      (call laws_heldWorld [.agg [(atP o1 0), (atP o4 1), (atP o4 2), (atP o4 3), (atP o4 4), (atP o4 5), (atP o4 6), (atP o4 7)], .one (I 1)] fun o11 =>
      binP .lss (atP o11 0) (I 0) fun r12 =>
      iteP r12
       (rt [.sc] [(.bool false)] k)
       (binP .neq (atP o11 0) (atP o4 8) fun r13 =>
       iteP r13
        (rt [.sc] [(.bool false)] k)
        (rt [.sc] [(.bool true)] k))))))
 | _, _ => False
abbrev laws_FnExactNewWorld_e : Ent := ⟨[6], laws_FnExactNewWorld⟩
theorem laws_FnExactNewWorld_w : EntOK Try.prog TT laws_FnExactNewWorld_e := ent_ok tabok (L := [spec_NewWorld_e, impl_NewWorld_e, laws_eqWorld_e, laws_markWorld_e, laws_heldWorld_e]) ⟨spec_NewWorld_w, impl_NewWorld_w, laws_eqWorld_w, laws_markWorld_w, laws_heldWorld_w, trivial⟩ (keep := []) (l := []) Try.func6 (by kernel_rfl) (sg := [.one (.sc)]) (by kernel_rfl) trivial fun av k h => by
  unfold laws_FnExactNewWorld at h; split at h
  · exact Eq.mpr (by kernel_rfl) h
  · exact h.elim


end Go.Ev
