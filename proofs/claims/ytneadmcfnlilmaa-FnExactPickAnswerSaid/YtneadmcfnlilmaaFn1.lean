/- The tables of this load, and for each function the meaning that the evaluator gives it, with its proof, part 1. -/
import Derived.Test.YtneadmcfnlilmaaEv4
import Derived.Lib.ItoaNum
import Derived.Test.YtneadmcfnlilmaaProg
namespace Go.Ev
open Go.Proofs
def TT : Tab := ⟨[(2, tI),
  (3, tI),
  (4, tB),
  (5, ⟨false, 1, 0, 1, [], [.pv (.int .u8 0)], some .u8, 0, false⟩),
  (6, ⟨false, 1, 0, 1, [], [.pv (.int .u8 0)], some .u8, 0, false⟩),
  (7, ⟨true, 4, 0, 24, [(0, 2), (1, 3), (2, 4), (3, 6)], [zI, zI, zB, .pv (.int .u8 0)], none, 0, true⟩),
  (8, ⟨true, 4, 0, 24, [(0, 2), (1, 3), (2, 4), (3, 6)], [zI, zI, zB, .pv (.int .u8 0)], none, 0, true⟩),
  (9, tS),
  (10, tS),
  (11, tS),
  (12, ⟨false, 1, 0, 8, [], [.pv (.int .u64 0)], some .u64, 0, false⟩),
  (13, ⟨true, 2, 0, 24, [(0, 9), (1, 12)], [zS, .pv (.int .u64 0)], none, 0, false⟩),
  (14, ⟨true, 2, 0, 24, [(0, 9), (1, 12)], [zS, .pv (.int .u64 0)], none, 0, false⟩),
  (21, ⟨false, 1, 0, 4, [], [.pv (.int .i32 0)], some .i32, 0, false⟩),
  (22, ⟨false, 1, 73, 24, [], [.nil 73 1], none, 0, false⟩),
  (24, ⟨false, 1, 78, 24, [], [.nil 78 1], none, 0, false⟩),
  (33, ⟨false, 1, 93, 24, [], [.nil 93 21], none, 0, false⟩),
  (35, ⟨false, 1, 148, 24, [], [.nil 148 17], none, 0, false⟩),
  (36, ⟨false, 1, 9, 24, [], [.nil 9 1], none, 0, false⟩),
  (37, ⟨true, 4, 0, 56, [(0, 9), (1, 3), (2, 3), (3, 36)], [zS, zI, zI, .nil 9 1], none, 0, false⟩),
  (38, ⟨true, 4, 0, 56, [(0, 9), (1, 3), (2, 3), (3, 36)], [zS, zI, zI, .nil 9 1], none, 0, false⟩),
  (39, ⟨false, 1, 3, 24, [], [.nil 3 1], none, 0, false⟩),
  (40, ⟨true, 2, 0, 32, [(0, 3), (1, 39)], [zI, .nil 3 1], none, 0, false⟩),
  (41, ⟨true, 2, 0, 32, [(0, 3), (1, 39)], [zI, .nil 3 1], none, 0, false⟩),
  (42, ⟨true, 13, 0, 184, [(0, 3), (1, 38), (5, 38), (9, 41), (11, 41)], [zI, zS, zI, zI, .nil 9 1, zS, zI, zI, .nil 9 1, zI, .nil 3 1, zI, .nil 3 1], none, 0, false⟩),
  (43, ⟨true, 13, 0, 184, [(0, 3), (1, 38), (5, 38), (9, 41), (11, 41)], [zI, zS, zI, zI, .nil 9 1, zS, zI, zI, .nil 9 1, zI, .nil 3 1, zI, .nil 3 1], none, 0, false⟩),
  (44, ⟨true, 21, 0, 304, [(0, 35), (1, 4), (2, 38), (6, 41), (8, 43)], [.nil 148 17, zB, zS, zI, zI, .nil 9 1, zI, .nil 3 1, zI, zS, zI, zI, .nil 9 1, zS, zI, zI, .nil 9 1, zI, .nil 3 1, zI, .nil 3 1], none, 0, false⟩),
  (45, ⟨true, 21, 0, 304, [(0, 35), (1, 4), (2, 38), (6, 41), (8, 43)], [.nil 148 17, zB, zS, zI, zI, .nil 9 1, zI, .nil 3 1, zI, zS, zI, zI, .nil 9 1, zS, zI, zI, .nil 9 1, zI, .nil 3 1, zI, .nil 3 1], none, 0, false⟩),
  (48, ⟨false, 1, 45, 24, [], [.nil 45 21], none, 0, false⟩),
  (55, ⟨false, 1, 155, 24, [], [.nil 155 2], none, 0, false⟩),
  (56, ⟨false, 1, 158, 24, [], [.nil 158 3], none, 0, false⟩),
  (57, ⟨false, 1, 108, 24, [], [.nil 108 2], none, 0, false⟩),
  (58, ⟨false, 1, 35, 24, [], [.nil 35 1], none, 0, false⟩),
  (59, ⟨false, 1, 186, 24, [], [.nil 186 51], none, 0, false⟩),
  (60, ⟨true, 2, 0, 48, [(0, 58), (1, 59)], [.nil 35 1, .nil 186 51], none, 0, false⟩),
  (61, ⟨true, 2, 0, 48, [(0, 58), (1, 59)], [.nil 35 1, .nil 186 51], none, 0, false⟩),
  (62, ⟨false, 1, 189, 24, [], [.nil 189 23], none, 0, false⟩),
  (63, ⟨true, 1, 0, 24, [(0, 62)], [.nil 189 23], none, 0, false⟩),
  (64, ⟨true, 1, 0, 24, [(0, 62)], [.nil 189 23], none, 0, false⟩),
  (65, ⟨true, 8, 0, 176, [(0, 3), (1, 24), (2, 55), (3, 56), (4, 57), (5, 61), (7, 64)], [zI, .nil 78 1, .nil 155 2, .nil 158 3, .nil 108 2, .nil 35 1, .nil 186 51, .nil 189 23], none, 0, false⟩),
  (66, ⟨true, 8, 0, 176, [(0, 3), (1, 24), (2, 55), (3, 56), (4, 57), (5, 61), (7, 64)], [zI, .nil 78 1, .nil 155 2, .nil 158 3, .nil 108 2, .nil 35 1, .nil 186 51, .nil 189 23], none, 0, false⟩),
  (72, ⟨true, 1, 0, 24, [(0, 39)], [.nil 3 1], none, 0, false⟩),
  (73, ⟨true, 1, 0, 24, [(0, 39)], [.nil 3 1], none, 0, false⟩),
  (78, ⟨true, 1, 0, 24, [(0, 39)], [.nil 3 1], none, 0, false⟩),
  (87, ⟨false, 1, 175, 24, [], [.nil 175 17], none, 0, false⟩),
  (88, ⟨true, 4, 0, 56, [(0, 9), (1, 3), (2, 3), (3, 36)], [zS, zI, zI, .nil 9 1], none, 0, false⟩),
  (89, ⟨true, 2, 0, 32, [(0, 3), (1, 39)], [zI, .nil 3 1], none, 0, false⟩),
  (90, ⟨true, 13, 0, 184, [(0, 3), (1, 88), (5, 88), (9, 89), (11, 89)], [zI, zS, zI, zI, .nil 9 1, zS, zI, zI, .nil 9 1, zI, .nil 3 1, zI, .nil 3 1], none, 0, false⟩),
  (91, ⟨true, 13, 0, 184, [(0, 3), (1, 88), (5, 88), (9, 89), (11, 89)], [zI, zS, zI, zI, .nil 9 1, zS, zI, zI, .nil 9 1, zI, .nil 3 1, zI, .nil 3 1], none, 0, false⟩),
  (92, ⟨true, 21, 0, 304, [(0, 87), (1, 4), (2, 88), (6, 89), (8, 91)], [.nil 175 17, zB, zS, zI, zI, .nil 9 1, zI, .nil 3 1, zI, zS, zI, zI, .nil 9 1, zS, zI, zI, .nil 9 1, zI, .nil 3 1, zI, .nil 3 1], none, 0, false⟩),
  (93, ⟨true, 21, 0, 304, [(0, 87), (1, 4), (2, 88), (6, 89), (8, 91)], [.nil 175 17, zB, zS, zI, zI, .nil 9 1, zI, .nil 3 1, zI, zS, zI, zI, .nil 9 1, zS, zI, zI, .nil 9 1, zI, .nil 3 1, zI, .nil 3 1], none, 0, false⟩),
  (107, ⟨true, 2, 0, 32, [(0, 55), (1, 3)], [.nil 155 2, zI], none, 0, false⟩),
  (108, ⟨true, 2, 0, 32, [(0, 55), (1, 3)], [.nil 155 2, zI], none, 0, false⟩),
  (126, ⟨false, 1, 0, 8, [], [.pv (.int .u64 0)], some .u64, 0, false⟩),
  (142, ⟨true, 2, 0, 32, [(0, 39), (1, 3)], [.nil 3 1, zI], none, 0, false⟩),
  (143, ⟨true, 2, 0, 32, [(0, 39), (1, 3)], [.nil 3 1, zI], none, 0, false⟩),
  (144, ⟨true, 16, 0, 176, [(0, 3), (1, 3), (2, 3), (3, 3), (4, 3), (5, 3), (6, 3), (7, 3), (8, 143), (10, 143), (12, 3), (13, 143), (15, 4)], [zI, zI, zI, zI, zI, zI, zI, zI, .nil 3 1, zI, .nil 3 1, zI, zI, .nil 3 1, zI, zB], none, 0, false⟩),
  (145, ⟨true, 16, 0, 176, [(0, 3), (1, 3), (2, 3), (3, 3), (4, 3), (5, 3), (6, 3), (7, 3), (8, 143), (10, 143), (12, 3), (13, 143), (15, 4)], [zI, zI, zI, zI, zI, zI, zI, zI, .nil 3 1, zI, .nil 3 1, zI, zI, .nil 3 1, zI, zB], none, 0, false⟩),
  (146, ⟨false, 1, 182, 24, [], [.nil 182 2], none, 0, false⟩),
  (147, ⟨true, 17, 0, 200, [(0, 145), (16, 146)], [zI, zI, zI, zI, zI, zI, zI, zI, .nil 3 1, zI, .nil 3 1, zI, zI, .nil 3 1, zI, zB, .nil 182 2], none, 0, false⟩),
  (148, ⟨true, 17, 0, 200, [(0, 145), (16, 146)], [zI, zI, zI, zI, zI, zI, zI, zI, .nil 3 1, zI, .nil 3 1, zI, zI, .nil 3 1, zI, zB, .nil 182 2], none, 0, false⟩),
  (151, ⟨false, 1, 5, 24, [], [.nil 5 1], none, 2, false⟩),
  (153, ⟨false, 1, 38, 24, [], [.nil 38 4], none, 0, false⟩),
  (154, ⟨true, 2, 0, 48, [(0, 35), (1, 153)], [.nil 148 17, .nil 38 4], none, 0, false⟩),
  (155, ⟨true, 2, 0, 48, [(0, 35), (1, 153)], [.nil 148 17, .nil 38 4], none, 0, false⟩),
  (157, ⟨true, 3, 0, 72, [(0, 155), (2, 39)], [.nil 148 17, .nil 38 4, .nil 3 1], none, 0, false⟩),
  (158, ⟨true, 3, 0, 72, [(0, 155), (2, 39)], [.nil 148 17, .nil 38 4, .nil 3 1], none, 0, false⟩),
  (170, ⟨true, 2, 0, 32, [(0, 39), (1, 3)], [.nil 3 1, zI], none, 0, false⟩),
  (171, ⟨true, 16, 0, 176, [(0, 3), (1, 3), (2, 3), (3, 3), (4, 3), (5, 3), (6, 3), (7, 3), (8, 170), (10, 170), (12, 3), (13, 170), (15, 4)], [zI, zI, zI, zI, zI, zI, zI, zI, .nil 3 1, zI, .nil 3 1, zI, zI, .nil 3 1, zI, zB], none, 0, false⟩),
  (172, ⟨true, 16, 0, 176, [(0, 3), (1, 3), (2, 3), (3, 3), (4, 3), (5, 3), (6, 3), (7, 3), (8, 170), (10, 170), (12, 3), (13, 170), (15, 4)], [zI, zI, zI, zI, zI, zI, zI, zI, .nil 3 1, zI, .nil 3 1, zI, zI, .nil 3 1, zI, zB], none, 0, false⟩),
  (173, ⟨false, 1, 203, 24, [], [.nil 203 2], none, 0, false⟩),
  (174, ⟨true, 17, 0, 200, [(0, 172), (16, 173)], [zI, zI, zI, zI, zI, zI, zI, zI, .nil 3 1, zI, .nil 3 1, zI, zI, .nil 3 1, zI, zB, .nil 203 2], none, 0, false⟩),
  (175, ⟨true, 17, 0, 200, [(0, 172), (16, 173)], [zI, zI, zI, zI, zI, zI, zI, zI, .nil 3 1, zI, .nil 3 1, zI, zI, .nil 3 1, zI, zB, .nil 203 2], none, 0, false⟩),
  (181, ⟨true, 2, 0, 16, [(0, 3), (1, 3)], [zI, zI], none, 0, true⟩),
  (182, ⟨true, 2, 0, 16, [(0, 3), (1, 3)], [zI, zI], none, 0, true⟩),
  (185, ⟨true, 51, 0, 600, [(0, 148), (17, 148), (34, 148)], [zI, zI, zI, zI, zI, zI, zI, zI, .nil 3 1, zI, .nil 3 1, zI, zI, .nil 3 1, zI, zB, .nil 182 2, zI, zI, zI, zI, zI, zI, zI, zI, .nil 3 1, zI, .nil 3 1, zI, zI, .nil 3 1, zI, zB, .nil 182 2, zI, zI, zI, zI, zI, zI, zI, zI, .nil 3 1, zI, .nil 3 1, zI, zI, .nil 3 1, zI, zB, .nil 182 2], none, 0, false⟩),
  (186, ⟨true, 51, 0, 600, [(0, 148), (17, 148), (34, 148)], [zI, zI, zI, zI, zI, zI, zI, zI, .nil 3 1, zI, .nil 3 1, zI, zI, .nil 3 1, zI, zB, .nil 182 2, zI, zI, zI, zI, zI, zI, zI, zI, .nil 3 1, zI, .nil 3 1, zI, zI, .nil 3 1, zI, zB, .nil 182 2, zI, zI, zI, zI, zI, zI, zI, zI, .nil 3 1, zI, .nil 3 1, zI, zI, .nil 3 1, zI, zB, .nil 182 2], none, 0, false⟩),
  (188, ⟨true, 23, 0, 328, [(0, 3), (1, 9), (2, 45)], [zI, zS, .nil 148 17, zB, zS, zI, zI, .nil 9 1, zI, .nil 3 1, zI, zS, zI, zI, .nil 9 1, zS, zI, zI, .nil 9 1, zI, .nil 3 1, zI, .nil 3 1], none, 0, false⟩),
  (189, ⟨true, 23, 0, 328, [(0, 3), (1, 9), (2, 45)], [zI, zS, .nil 148 17, zB, zS, zI, zI, .nil 9 1, zI, .nil 3 1, zI, zS, zI, zI, .nil 9 1, zS, zI, zI, .nil 9 1, zI, .nil 3 1, zI, .nil 3 1], none, 0, false⟩),
  (203, ⟨true, 2, 0, 16, [(0, 3), (1, 3)], [zI, zI], none, 0, true⟩),
  (211, ⟨false, 1, 0, 4, [], [.pv (.int .u32 0)], some .u32, 0, false⟩),
  (212, ⟨false, 1, 0, 1, [], [.pv (.int .u8 0)], some .u8, 0, false⟩),
  (213, ⟨false, 1, 0, 1, [], [.pv (.int .u8 0)], some .u8, 0, false⟩),
  (216, ⟨false, 1, 0, 4, [], [.pv (.int .i32 0)], some .i32, 0, false⟩),
  (217, ⟨false, 1, 0, 4, [], [.pv (.int .i32 0)], some .i32, 0, false⟩)],
  [(0, []), (1, []), (2, []), (3, [.one (.sc)]), (4, [.one (.sc)]), (5, [.one (.sc)]), (6, [.one (.sc)]), (7, [.one (.sc)]), (8, [.one (.pv), .one (.sc)]), (9, [.one (.own true 78 1)]), (10, [.one (.own true 78 1), .one (.sc)]), (11, [.one (.sc)]), (12, [.agg []]), (13, [.one (.sc)]), (14, [.one (.pv), .one (.sc)]), (15, [.one (.own true 78 1), .one (.sc)]), (16, [.one (.sc)]), (17, [.agg [.pv, .sc, .sc, .sc, .sc, .pv, .sc, .pv, .sc, .sc, .sc, .sc, .pv, .sc, .sc, .sc, .pv, .sc, .pv, .sc, .pv], .one (.sc)]), (18, [.one (.own true 45 21)]), (19, [.agg [.own true 148 17, .sc, .sc, .sc, .sc, .own true 9 1, .sc, .own true 3 1, .sc, .sc, .sc, .sc, .own true 9 1, .sc, .sc, .sc, .own true 9 1, .sc, .own true 3 1, .sc, .own true 3 1], .one (.sc)]), (20, [.one (.sc)]), (21, [.one (.sc)]), (22, [.agg []]), (23, [.agg []]), (24, [.one (.sc)]), (25, [.agg [.sc, .pv, .pv, .pv, .pv, .pv, .pv, .pv]]), (26, [.agg [.sc, .own true 78 1, .own true 155 2, .own true 158 3, .own true 108 2, .own true 35 1, .own true 186 51, .own true 189 23]]), (27, [.one (.sc)]), (28, [.agg []]), (29, [.one (.sc)]), (30, [.one (.sc)]), (31, [.one (.pv)]), (32, [.one (.sc)]), (33, [.one (.sc)]), (34, [.one (.sc)]), (35, [.agg [.own true 3 1]]), (36, [.one (.own true 78 1)]), (37, [.one (.sc)]), (38, [.one (.sc)]), (39, [.one (.sc)]), (40, [.one (.sc), .one (.sc)]), (41, [.one (.own true 3 1)]), (42, [.one (.sc)]), (43, [.agg []]), (44, [.one (.sc)]), (45, [.one (.sc)]), (46, [.agg [.pv, .sc, .sc, .sc, .sc, .pv, .sc, .pv, .sc, .sc, .sc, .sc, .pv, .sc, .sc, .sc, .pv, .sc, .pv, .sc, .pv]]), (47, [.agg [.own true 148 17, .sc, .sc, .sc, .sc, .own true 9 1, .sc, .own true 3 1, .sc, .sc, .sc, .sc, .own true 9 1, .sc, .sc, .sc, .own true 9 1, .sc, .own true 3 1, .sc, .own true 3 1]]), (48, [.agg [.own true 148 17, .sc, .sc, .sc, .sc, .own true 9 1, .sc, .own true 3 1, .sc, .sc, .sc, .sc, .own true 9 1, .sc, .sc, .sc, .own true 9 1, .sc, .own true 3 1, .sc, .own true 3 1]]), (49, [.one (.sc)]), (50, [.one (.sc)]), (51, [.one (.sc)]), (52, [.one (.sc)]), (53, [.agg []]), (54, [.one (.sc)]), (55, [.agg []]), (56, [.agg []]), (57, [.agg []]), (58, [.agg []]), (59, [.one (.sc)]), (60, [.one (.sc)]), (61, [.one (.sc)]), (62, [.one (.sc)]), (63, [.one (.sc)]), (64, [.one (.sc)]), (65, [.one (.sc)]), (66, [.one (.sc)]), (67, [.one (.sc)]), (68, [.one (.sc)]), (69, [.one (.sc)]), (70, [.agg []]), (71, [.agg []]), (72, [.agg []]), (73, [.agg []]), (74, [.agg []]), (75, [.one (.sc)]), (76, [.one (.sc)]), (77, [.one (.sc)]), (78, [.one (.sc)]), (79, [.one (.sc)]), (80, [.one (.sc)]), (81, [.one (.sc)]), (82, [.one (.own true 3 1)]), (83, [.one (.own true 3 1)]), (84, [.one (.sc)]), (85, [.one (.sc)]), (86, [.one (.sc)]), (87, [.one (.sc)]), (88, [.one (.sc)]), (89, [.one (.sc)]), (90, [.one (.sc)]), (91, [.one (.sc)]), (92, [.one (.sc)]), (93, [.one (.sc)]), (94, [.one (.sc)]), (95, []), (96, [.one (.sc)]), (97, [.one (.sc)]), (98, [.one (.sc)]), (99, [.one (.sc)]), (100, [.one (.sc)]), (101, [.one (.pv)]), (102, [.agg [.sc, .sc, .sc, .pv]]), (103, [.agg [.sc, .pv]]), (104, [.agg [.sc, .sc, .sc, .sc, .pv, .sc, .sc, .sc, .pv, .sc, .pv, .sc, .pv]]), (105, [.one (.own true 148 17)]), (106, [.agg [.sc, .sc, .sc, .own true 9 1]]), (107, [.agg [.sc, .own true 3 1]]), (108, [.agg [.sc, .sc, .sc, .sc, .own true 9 1, .sc, .sc, .sc, .own true 9 1, .sc, .own true 3 1, .sc, .own true 3 1]]), (109, [.one (.own true 148 17)]), (110, [.agg [.sc, .sc, .sc, .own true 9 1]]), (111, [.agg [.sc, .own true 3 1]]), (112, [.agg [.sc, .sc, .sc, .sc, .own true 9 1, .sc, .sc, .sc, .own true 9 1, .sc, .own true 3 1, .sc, .own true 3 1]]), (113, [.one (.sc)]), (114, [.one (.sc)]), (115, [.agg []]), (116, [.one (.sc)]), (117, [.one (.sc)]), (118, [.one (.sc)]), (119, [.one (.sc)]), (120, [.one (.sc)]), (121, [.one (.sc)]), (122, [.one (.sc)]), (123, [.one (.sc)]), (124, [.agg []]), (125, [.agg []]), (126, [.agg []]), (127, [.agg []]), (128, [.one (.sc)]), (129, [.one (.sc)]), (130, [.one (.sc)]), (131, [.one (.sc)]), (132, [.one (.sc)]), (133, [.one (.sc)]), (134, [.one (.sc)]), (135, [.one (.sc)]), (136, []), (137, [.one (.sc)]), (138, [.one (.sc)]), (139, [.agg [.sc, .sc, .sc, .sc, .sc, .sc, .sc, .sc, .pv, .sc, .pv, .sc, .sc, .pv, .sc, .sc, .pv]]), (140, [.one (.pv)]), (141, [.agg [.sc, .sc, .sc, .sc, .sc, .sc, .sc, .sc, .own true 3 1, .sc, .own true 3 1, .sc, .sc, .own true 3 1, .sc, .sc, .own true 182 2]]), (142, [.one (.own true 9 1)]), (143, [.agg [.sc, .sc, .sc, .sc, .sc, .sc, .sc, .sc, .own true 3 1, .sc, .own true 3 1, .sc, .sc, .own true 3 1, .sc, .sc, .own true 182 2]]), (144, [.one (.own true 9 1)]), (145, [.one (.sc)]), (146, [.one (.sc)]), (147, [.one (.sc)]), (148, [.one (.sc)]), (149, [.one (.sc)]), (150, []), (151, [.one (.sc)]), (152, [.one (.sc)]), (153, [.agg [.sc, .sc, .sc, .sc, .sc, .sc, .sc, .sc, .pv, .sc, .pv, .sc, .sc, .pv, .sc, .sc]]), (154, [.agg [.sc, .sc, .sc, .sc, .sc, .sc, .sc, .sc, .own true 3 1, .sc, .own true 3 1, .sc, .sc, .own true 3 1, .sc, .sc]]), (155, [.one (.own true 182 2)]), (156, [.agg [.sc, .sc, .sc, .sc, .sc, .sc, .sc, .sc, .own true 3 1, .sc, .own true 3 1, .sc, .sc, .own true 3 1, .sc, .sc]]), (157, [.one (.own true 182 2)]), (158, [.one (.sc)]), (159, [.one (.sc)]), (160, [.one (.sc)]), (161, [.agg [.pv, .sc]]), (162, [.agg [.own true 3 1, .sc]]), (163, [.agg [.sc, .sc]]), (164, [.agg [.own true 3 1, .sc]]), (165, [.one (.sc)]), (166, []), (167, [.one (.sc)]), (168, []), (169, [.one (.sc)]), (170, []), (171, [.one (.sc)]), (172, []), (173, [.one (.sc)]), (174, []), (175, [.one (.sc)]), (176, []), (177, [.one (.sc)]), (178, [.one (.sc)]), (179, []), (180, [.one (.sc)]), (181, [.one (.sc)]), (182, [.one (.sc)]), (183, [.one (.sc)]), (184, [.one (.sc)]), (185, [.one (.sc)])], false, [], [], [148, 38]⟩
theorem tabok : TabOK Try.prog TT := tabB_ok (by kernel_rfl) (by kernel_rfl)
end Go.Ev
set_option maxRecDepth 100000
set_option linter.unusedVariables false
namespace Go.Ev
open Go.Proofs
--@ laws_markText
def laws_markText_r0 (v : List PV) (K : List PV → Prop) (x0k : PV → PV → PV → Prop) : Prop :=
 un 3 (fun v0 v1 v2 =>
  binP .gtr v0 (I 0) fun r0 =>
  iteP r0
   (binP .rem v0 (I 10) fun r1 =>
   binP .add (I 48) r1 fun r2 =>
   convP .u8 r2 fun r3 =>
   (1 = 1) ∧ (1 ≤ 16777216) ∧ (1 = 1) ∧ (0 = 0) ∧ (1 = 1) ∧ (flatCond [.pv (.int .u8 0)] [.pv r3]) ∧ textP (.list 1 [[r3]]) fun r4 =>
   binP .add r4 v2 fun r5 =>
   binP .quo v0 (I 10) fun r6 =>
   K [r6, v1, r5])
   (x0k v0 v1 v2)) v
def laws_markText : GM
 | [.one a0], k => 
  binP .leq a0 (I 0) fun r0 =>
  iteP r0
   (rt [.sc] [(.str ⟨#[109, 48]⟩)] k)
   (lp (fun L w => laws_markText_r0 w L
    (fun q7 q8 q9 => binP .add (.str ⟨#[109]⟩) q9 fun r10 =>
     rt [.sc] [r10] k)) [a0, (.str ⟨#[]⟩), (.str ⟨#[]⟩)])
 | _, _ => False
abbrev laws_markText_e : Ent := ⟨[54], laws_markText⟩
def laws_markText_l : List LE := [⟨0, ⟨[(0, .one (.pv (.bool false))), (2, .one (.pv (.bool false))), (3, .one (.pv (.bool false)))], [], [], 0, 20⟩, fun K k v => laws_markText_r0 v K (fun x0 x1 x2 => k (.exit 0) ⟨[(0, .one (.pv x0)), (2, .one (.pv x1)), (3, .one (.pv x2))], [], [], 0, 20⟩)⟩]
theorem laws_markText_s : LEsOK (orac []) TT (kk [0, 2, 3]) (sumsOf laws_markText_l) Try.f54 laws_markText_l := ⟨fun v K k h => by
  apply un_all h; exact fun v0 v1 v2 h => Eq.mpr (by kernel_rfl) h
  , trivial⟩
theorem laws_markText_w : EntOK Try.prog TT laws_markText_e := ent_ok tabok (L := []) trivial (keep := (kk [0, 2, 3])) (l := laws_markText_l) Try.func54 (by kernel_rfl) (sg := [.one (.sc)]) (by kernel_rfl) laws_markText_s fun av k h => by
  unfold laws_markText at h; split at h
  · exact Eq.mpr (by kernel_rfl) h
  · exact h.elim

end Go.Ev
/- The texts of counts; the functions that mark what they are handed. -/
set_option maxRecDepth 100000
set_option linter.unusedVariables false
set_option linter.unusedSimpArgs false
namespace Go.Ev
open Go.Proofs
def mdigs (u : Nat) : List UInt8 := if u = 0 then [] else Go.Lib.decDigits u
theorem mdigs_step {u : Nat} (h : u ≠ 0) : mdigs u = mdigs (u / 10) ++ [UInt8.ofNat (48 + u % 10)] := by
  unfold mdigs
  rw [if_neg h]
  by_cases h1 : u < 10
  · rw [Go.Lib.decDigits_one h1, if_pos (by omega), show u % 10 = u by omega]; rfl
  · rw [if_neg (by omega), Go.Lib.decDigits, dif_neg h1]
theorem mdigs_len : ∀ (m u : Nat), u < 10 ^ m → (mdigs u).length ≤ m
  | 0, u, h => by
    have : u = 0 := by simpa using h
    subst this; simp [mdigs]
  | m + 1, u, h => by
    by_cases h0 : u = 0
    · subst h0; simp [mdigs]
    · rw [mdigs_step h0, List.length_append]
      have h2 : u / 10 < 10 ^ m := by rw [Nat.pow_succ] at h; omega
      have := mdigs_len m (u / 10) h2
      simp only [List.length_singleton]; omega
abbrev Sx (l : List UInt8) : PV := .str ⟨l.toArray⟩
theorem bin_strM (a b : List UInt8) (k : PV → Prop) : binP .add (Sx a) (Sx b) k = (a.length + b.length ≤ 9223372036854775807 ∧ k (Sx (a ++ b))) := by
  have e : (⟨a.toArray⟩ : ByteArray) ++ ⟨b.toArray⟩ = ⟨(a ++ b).toArray⟩ := by
    apply ByteArray.ext
    rw [ByteArray.data_append]
    simp
  have h1 : (⟨a.toArray⟩ : ByteArray).size = a.length := by simp [ByteArray.size]
  have h2 : (⟨b.toArray⟩ : ByteArray).size = b.length := by simp [ByteArray.size]
  show (_ ∧ k _) = _
  rw [h1, h2, e]
theorem text_oneM (n : Int) (k : PV → Prop) : textP (.list 1 [[.int .u8 n]]) k = k (Sx [UInt8.ofNat n.toNat]) := rfl
theorem u8_digitM {d : Nat} (h : d < 10) : IntKind.u8.wrap (48 + (d : Int)) = ((48 + d : Nat) : Int) := by
  have : ∀ d : Fin 10, IntKind.u8.wrap (48 + ((d : Nat) : Int)) = ((48 + (d : Nat) : Nat) : Int) := by decide
  exact this ⟨d, h⟩
theorem fc_u8M (n : Int) : flatCond [.pv (.int .u8 0)] [.pv (.int .u8 n)] := by intro x hx; simp at hx; subst hx; rfl
def mtx (n : Int) : ByteArray := if n ≤ 0 then ⟨#[109, 48]⟩ else ⟨([109] ++ mdigs n.toNat).toArray⟩
theorem mtx_lp (z : PV) (A : PV → Prop) : ∀ (m : Nat) (x : Nat) (s : List UInt8), x < 10 ^ m → x < 9223372036854775808 → s.length + m ≤ 1000 →
    (lp (fun L w => laws_markText_r0 w L (fun q7 q8 q9 => A q9)) [I x, z, Sx s] ↔ A (Sx (mdigs x ++ s)))
  | 0, x, s, h, hx, hs => by
    have h0 : x = 0 := by simpa using h
    subst h0
    refine itP_mono_end fun K => ?_
    simp [laws_markText_r0, mdigs]
  | m + 1, x, s, h, hx, hs => by
    by_cases h0 : x = 0
    · subst h0
      refine itP_mono_end fun K => ?_
      simp [laws_markText_r0, mdigs]
    · have hd : x % 10 < 10 := Nat.mod_lt _ (by omega)
      have hq : x / 10 < 10 ^ m := by rw [Nat.pow_succ] at h; omega
      have ih := mtx_lp z A m (x / 10) (UInt8.ofNat (48 + x % 10) :: s) hq (by omega) (by simp only [List.length_cons]; omega)
      have he : mdigs (x / 10) ++ (UInt8.ofNat (48 + x % 10) :: s) = mdigs x ++ s := by
        rw [mdigs_step (u := x) h0, List.append_assoc]; rfl
      rw [he] at ih
      refine (lp_step fun K => ?_).trans ih
      have hb : 1 + s.length ≤ 9223372036854775807 := by omega
      have e1 : (x : Int).tmod 10 = ((x % 10 : Nat) : Int) := by rw [Int.tmod_eq_emod_of_nonneg (by omega)]; rfl
      have e4 : (x : Int).tdiv 10 = ((x / 10 : Nat) : Int) := by rw [Int.tdiv_eq_ediv_of_nonneg (by omega)]; rfl
      have e2 : IntKind.i64.wrap (48 + ((x % 10 : Nat) : Int)) = 48 + ((x % 10 : Nat) : Int) := wr_eq (by omega) (by omega)
      have e3 := u8_digitM hd
      have e5 : IntKind.i64.wrap (((x / 10 : Nat) : Int)) = ((x / 10 : Nat) : Int) := wr_eq (by omega) (by omega)
      simp only [laws_markText_r0, un, cur0, binP_gtr, show (0 : Int) < (x : Int) by omega, decide_true, iteP_eq, if_true, binP_rem, e1, binP_add, e2, convP, e3, fc_u8M, text_oneM, bin_strM, binP_quo, e4, e5, List.length_singleton, List.singleton_append, true_and, hb, Int.toNat_natCast]
      simp
theorem laws_markText_n (n : Int) (h : rg64 n = true) (k) : call laws_markText [.one (I n)] k = k [.str (mtx n)] := call_of (fun k => by
  simp only [rg64, Bool.and_eq_true, decide_eq_true_eq] at h
  unfold mtx
  by_cases h0 : n ≤ 0
  · simp [laws_markText, h0]
  · obtain ⟨x, rfl⟩ : ∃ x : Nat, n = x := ⟨n.toNat, by omega⟩
    simp only [laws_markText, binP_leq, h0, decide_false, iteP_eq, Bool.false_eq_true, if_false]
    have hs : x < 10 ^ 19 := by have : (10 : Nat) ^ 19 = 10000000000000000000 := rfl
                                omega
    refine (mtx_lp (Sx []) (fun q => binP .add (Sx [109]) q fun r => rt [.sc] [r] k) 19 x [] hs (by omega) (by simp)).trans ?_
    have hd := mdigs_len 19 _ hs
    rw [List.append_nil, bin_strM]
    have hl : [109].length + (mdigs x).length ≤ 9223372036854775807 := by simp only [List.length_singleton]; omega
    simp only [true_and, rt_eq, scs_sc, scs_nil, flat_str, Int.toNat_natCast]
    exact ⟨fun q => q.2, fun q => ⟨hl, q⟩⟩) k
theorem laws_markText_n' (n : Int) (h : rg64 n = true) : (laws_markText [.one (I n)] (fun o => o = [.str (mtx n)])) = True := by
  have := laws_markText_n n h (fun o => o = [.str (mtx n)])
  simp only [call] at this
  obtain ⟨out, h1, h2⟩ := of_eq_true this
  subst h2
  exact eq_true h1
theorem mtx_ok : TextOK Try.prog 54 mtx := text_ok (fun _ => trivial) ⟨Try.f54, Try.func54, by kernel_rfl, by kernel_rfl⟩ fun k hk => (laws_markText_w 54 _ _ rfl (of_eq_true (laws_markText_n' k hk)) _ (by kernel_rfl)).1 rfl
abbrev mk_IntS_r : List (Nat × MM) := []
abbrev mk_IntS_s : List (Option Eff × SV) := [(some (.store 0 0), .kk), (none, .kinc)]
def mk_IntS : PV → Int → Option (PV × Int) := mkS mk_IntS_r mtx 1 mk_IntS_s
theorem mk_IntS_ok : MMOK Try.prog 43 (.sl mk_IntS) := slice_ok (T := TT) (st := 39) (ss := mk_IntS_s) tabok (ρ := []) trivial mtx_ok Try.func43 (by kernel_rfl) (by kernel_rfl)
def laws_markIntS : GM := gS mk_IntS
abbrev laws_markIntS_e : Ent := ⟨[43], laws_markIntS⟩
theorem laws_markIntS_w : EntOK Try.prog TT laws_markIntS_e := entS mk_IntS_ok (by kernel_rfl)
abbrev mk_SigS_r : List (Nat × MM) := []
abbrev mk_SigS_s : List (Option Eff × SV) := [(some (.store 0 0), .kk), (none, .kinc), (some (.store 1 0), .kk), (none, .kinc)]
def mk_SigS : PV → Int → Option (PV × Int) := mkS mk_SigS_r mtx 2 mk_SigS_s
theorem mk_SigS_ok : MMOK Try.prog 115 (.sl mk_SigS) := slice_ok (T := TT) (st := 146) (ss := mk_SigS_s) tabok (ρ := []) trivial mtx_ok Try.func115 (by kernel_rfl) (by kernel_rfl)
def laws_markSigS : GM := gS mk_SigS
abbrev laws_markSigS_e : Ent := ⟨[115], laws_markSigS⟩
theorem laws_markSigS_w : EntOK Try.prog TT laws_markSigS_e := entS mk_SigS_ok (by kernel_rfl)
abbrev mk_SignedS_r : List (Nat × MM) := [(43, .sl mk_IntS), (115, .sl mk_SigS)]
abbrev mk_SignedS_s : List (Option Eff × SV) := [(some (.store 0 0), .kk), (none, .kinc), (some (.store 1 0), .kk), (none, .kinc), (some (.store 2 0), .kk), (none, .kinc), (some (.store 3 0), .kk), (none, .kinc), (some (.store 4 0), .kk), (none, .kinc), (some (.store 5 0), .kk), (none, .kinc), (some (.store 6 0), .kk), (none, .kinc), (some (.store 7 0), .kk), (none, .kinc), (some (.call 8 none 43), .res), (some (.store 9 0), .kk), (none, .kinc), (some (.call 10 none 43), .res), (some (.store 11 0), .kk), (none, .kinc), (some (.store 12 0), .kk), (none, .kinc), (some (.call 13 none 43), .res), (some (.store 14 0), .kk), (none, .kinc), (some (.store 15 2), .kk), (none, .kinc), (some (.call 16 none 115), .res)]
def mk_SignedS : PV → Int → Option (PV × Int) := mkS mk_SignedS_r mtx 17 mk_SignedS_s
theorem mk_SignedS_ok : MMOK Try.prog 53 (.sl mk_SignedS) := slice_ok (T := TT) (st := 35) (ss := mk_SignedS_s) tabok (ρ := [(43, .sl mk_IntS), (115, .sl mk_SigS)]) ⟨mk_IntS_ok, mk_SigS_ok, trivial⟩ mtx_ok Try.func53 (by kernel_rfl) (by kernel_rfl)
def laws_markSignedS : GM := gS mk_SignedS
abbrev laws_markSignedS_e : Ent := ⟨[53], laws_markSignedS⟩
theorem laws_markSignedS_w : EntOK Try.prog TT laws_markSignedS_e := entS mk_SignedS_ok (by kernel_rfl)
abbrev mk_StringS_r : List (Nat × MM) := []
abbrev mk_StringS_s : List (Option Eff × SV) := [(some (.store 0 1), .kk), (none, .kinc)]
def mk_StringS : PV → Int → Option (PV × Int) := mkS mk_StringS_r mtx 1 mk_StringS_s
theorem mk_StringS_ok : MMOK Try.prog 55 (.sl mk_StringS) := slice_ok (T := TT) (st := 36) (ss := mk_StringS_s) tabok (ρ := []) trivial mtx_ok Try.func55 (by kernel_rfl) (by kernel_rfl)
def laws_markStringS : GM := gS mk_StringS
abbrev laws_markStringS_e : Ent := ⟨[55], laws_markStringS⟩
theorem laws_markStringS_w : EntOK Try.prog TT laws_markStringS_e := entS mk_StringS_ok (by kernel_rfl)
abbrev mk_Entry_r : List (Nat × MM) := [(55, .sl mk_StringS)]
abbrev mk_Entry_s : List (Option Eff × SV) := [(some (.call 3 none 55), .res)]
def mk_Entry : List PV → Int → Option (List PV × Int) := mkT mk_Entry_r mtx 4 mk_Entry_s
theorem mk_Entry_ok : MMOK Try.prog 56 (.st mk_Entry) := struct_ok (T := TT) (esz := 4) (ss := mk_Entry_s) tabok (ρ := [(55, .sl mk_StringS)]) ⟨mk_StringS_ok, trivial⟩ mtx_ok Try.func56 (by kernel_rfl) (by kernel_rfl)
def laws_markEntry : GM := gT mk_Entry
abbrev laws_markEntry_e : Ent := ⟨[56], laws_markEntry⟩
theorem laws_markEntry_w : EntOK Try.prog TT laws_markEntry_e := entT mk_Entry_ok (by kernel_rfl)
abbrev mk_Proof_r : List (Nat × MM) := [(43, .sl mk_IntS)]
abbrev mk_Proof_s : List (Option Eff × SV) := [(some (.call 1 none 43), .res)]
def mk_Proof : List PV → Int → Option (List PV × Int) := mkT mk_Proof_r mtx 2 mk_Proof_s
theorem mk_Proof_ok : MMOK Try.prog 57 (.st mk_Proof) := struct_ok (T := TT) (esz := 2) (ss := mk_Proof_s) tabok (ρ := [(43, .sl mk_IntS)]) ⟨mk_IntS_ok, trivial⟩ mtx_ok Try.func57 (by kernel_rfl) (by kernel_rfl)
def laws_markProof : GM := gT mk_Proof
abbrev laws_markProof_e : Ent := ⟨[57], laws_markProof⟩
theorem laws_markProof_w : EntOK Try.prog TT laws_markProof_e := entT mk_Proof_ok (by kernel_rfl)
abbrev mk_Gap_r : List (Nat × MM) := [(56, .st mk_Entry), (57, .st mk_Proof)]
abbrev mk_Gap_s : List (Option Eff × SV) := [(some (.call 1 (some 4) 56), .res), (some (.call 5 (some 4) 56), .res), (some (.call 9 (some 2) 57), .res), (some (.call 11 (some 2) 57), .res)]
def mk_Gap : List PV → Int → Option (List PV × Int) := mkT mk_Gap_r mtx 13 mk_Gap_s
theorem mk_Gap_ok : MMOK Try.prog 58 (.st mk_Gap) := struct_ok (T := TT) (esz := 13) (ss := mk_Gap_s) tabok (ρ := [(56, .st mk_Entry), (57, .st mk_Proof)]) ⟨mk_Entry_ok, mk_Proof_ok, trivial⟩ mtx_ok Try.func58 (by kernel_rfl) (by kernel_rfl)
def laws_markGap : GM := gT mk_Gap
abbrev laws_markGap_e : Ent := ⟨[58], laws_markGap⟩
theorem laws_markGap_w : EntOK Try.prog TT laws_markGap_e := entT mk_Gap_ok (by kernel_rfl)
abbrev mk_Answer_r : List (Nat × MM) := [(53, .sl mk_SignedS), (56, .st mk_Entry), (57, .st mk_Proof), (58, .st mk_Gap)]
abbrev mk_Answer_s : List (Option Eff × SV) := [(some (.call 0 none 53), .res), (some (.call 2 (some 4) 56), .res), (some (.call 6 (some 2) 57), .res), (some (.call 8 (some 13) 58), .res)]
def mk_Answer : List PV → Int → Option (List PV × Int) := mkT mk_Answer_r mtx 21 mk_Answer_s
theorem mk_Answer_ok : MMOK Try.prog 23 (.st mk_Answer) := struct_ok (T := TT) (esz := 21) (ss := mk_Answer_s) tabok (ρ := [(53, .sl mk_SignedS), (56, .st mk_Entry), (57, .st mk_Proof), (58, .st mk_Gap)]) ⟨mk_SignedS_ok, mk_Entry_ok, mk_Proof_ok, mk_Gap_ok, trivial⟩ mtx_ok Try.func23 (by kernel_rfl) (by kernel_rfl)
def laws_markAnswer : GM := gT mk_Answer
abbrev laws_markAnswer_e : Ent := ⟨[23], laws_markAnswer⟩
theorem laws_markAnswer_w : EntOK Try.prog TT laws_markAnswer_e := entT mk_Answer_ok (by kernel_rfl)
abbrev mk_AnswerS_r : List (Nat × MM) := [(53, .sl mk_SignedS), (55, .sl mk_StringS), (43, .sl mk_IntS)]
abbrev mk_AnswerS_s : List (Option Eff × SV) := [(some (.call 0 none 53), .res), (some (.store 1 2), .kk), (none, .kinc), (some (.store 2 1), .kk), (none, .kinc), (some (.store 3 0), .kk), (none, .kinc), (some (.store 4 0), .kk), (none, .kinc), (some (.call 5 none 55), .res), (some (.store 6 0), .kk), (none, .kinc), (some (.call 7 none 43), .res), (some (.store 8 0), .kk), (none, .kinc), (some (.store 9 1), .kk), (none, .kinc), (some (.store 10 0), .kk), (none, .kinc), (some (.store 11 0), .kk), (none, .kinc), (some (.call 12 none 55), .res), (some (.store 13 1), .kk), (none, .kinc), (some (.store 14 0), .kk), (none, .kinc), (some (.store 15 0), .kk), (none, .kinc), (some (.call 16 none 55), .res), (some (.store 17 0), .kk), (none, .kinc), (some (.call 18 none 43), .res), (some (.store 19 0), .kk), (none, .kinc), (some (.call 20 none 43), .res)]
def mk_AnswerS : PV → Int → Option (PV × Int) := mkS mk_AnswerS_r mtx 21 mk_AnswerS_s
theorem mk_AnswerS_ok : MMOK Try.prog 22 (.sl mk_AnswerS) := slice_ok (T := TT) (st := 48) (ss := mk_AnswerS_s) tabok (ρ := [(53, .sl mk_SignedS), (55, .sl mk_StringS), (43, .sl mk_IntS)]) ⟨mk_SignedS_ok, mk_StringS_ok, mk_IntS_ok, trivial⟩ mtx_ok Try.func22 (by kernel_rfl) (by kernel_rfl)
def laws_markAnswerS : GM := gS mk_AnswerS
abbrev laws_markAnswerS_e : Ent := ⟨[22], laws_markAnswerS⟩
theorem laws_markAnswerS_w : EntOK Try.prog TT laws_markAnswerS_e := entS mk_AnswerS_ok (by kernel_rfl)
abbrev mk_ActorS_r : List (Nat × MM) := [(43, .sl mk_IntS)]
abbrev mk_ActorS_s : List (Option Eff × SV) := [(some (.call 0 none 43), .res)]
def mk_ActorS : PV → Int → Option (PV × Int) := mkS mk_ActorS_r mtx 1 mk_ActorS_s
theorem mk_ActorS_ok : MMOK Try.prog 12 (.sl mk_ActorS) := slice_ok (T := TT) (st := 24) (ss := mk_ActorS_s) tabok (ρ := [(43, .sl mk_IntS)]) ⟨mk_IntS_ok, trivial⟩ mtx_ok Try.func12 (by kernel_rfl) (by kernel_rfl)
def laws_markActorS : GM := gS mk_ActorS
abbrev laws_markActorS_e : Ent := ⟨[12], laws_markActorS⟩
theorem laws_markActorS_w : EntOK Try.prog TT laws_markActorS_e := entS mk_ActorS_ok (by kernel_rfl)
abbrev mk_EntryS_r : List (Nat × MM) := [(55, .sl mk_StringS)]
abbrev mk_EntryS_s : List (Option Eff × SV) := [(some (.store 0 1), .kk), (none, .kinc), (some (.store 1 0), .kk), (none, .kinc), (some (.store 2 0), .kk), (none, .kinc), (some (.call 3 none 55), .res)]
def mk_EntryS : PV → Int → Option (PV × Int) := mkS mk_EntryS_r mtx 4 mk_EntryS_s
theorem mk_EntryS_ok : MMOK Try.prog 124 (.sl mk_EntryS) := slice_ok (T := TT) (st := 153) (ss := mk_EntryS_s) tabok (ρ := [(55, .sl mk_StringS)]) ⟨mk_StringS_ok, trivial⟩ mtx_ok Try.func124 (by kernel_rfl) (by kernel_rfl)
def laws_markEntryS : GM := gS mk_EntryS
abbrev laws_markEntryS_e : Ent := ⟨[124], laws_markEntryS⟩
theorem laws_markEntryS_w : EntOK Try.prog TT laws_markEntryS_e := entS mk_EntryS_ok (by kernel_rfl)
abbrev mk_ZoneS_r : List (Nat × MM) := [(53, .sl mk_SignedS), (124, .sl mk_EntryS)]
abbrev mk_ZoneS_s : List (Option Eff × SV) := [(some (.call 0 none 53), .res), (some (.call 1 none 124), .res)]
def mk_ZoneS : PV → Int → Option (PV × Int) := mkS mk_ZoneS_r mtx 2 mk_ZoneS_s
theorem mk_ZoneS_ok : MMOK Try.prog 70 (.sl mk_ZoneS) := slice_ok (T := TT) (st := 55) (ss := mk_ZoneS_s) tabok (ρ := [(53, .sl mk_SignedS), (124, .sl mk_EntryS)]) ⟨mk_SignedS_ok, mk_EntryS_ok, trivial⟩ mtx_ok Try.func70 (by kernel_rfl) (by kernel_rfl)
def laws_markZoneS : GM := gS mk_ZoneS
abbrev laws_markZoneS_e : Ent := ⟨[70], laws_markZoneS⟩
theorem laws_markZoneS_w : EntOK Try.prog TT laws_markZoneS_e := entS mk_ZoneS_ok (by kernel_rfl)
abbrev mk_SaidS_r : List (Nat × MM) := [(53, .sl mk_SignedS), (124, .sl mk_EntryS), (43, .sl mk_IntS)]
abbrev mk_SaidS_s : List (Option Eff × SV) := [(some (.call 0 none 53), .res), (some (.call 1 none 124), .res), (some (.call 2 none 43), .res)]
def mk_SaidS : PV → Int → Option (PV × Int) := mkS mk_SaidS_r mtx 3 mk_SaidS_s
theorem mk_SaidS_ok : MMOK Try.prog 71 (.sl mk_SaidS) := slice_ok (T := TT) (st := 56) (ss := mk_SaidS_s) tabok (ρ := [(53, .sl mk_SignedS), (124, .sl mk_EntryS), (43, .sl mk_IntS)]) ⟨mk_SignedS_ok, mk_EntryS_ok, mk_IntS_ok, trivial⟩ mtx_ok Try.func71 (by kernel_rfl) (by kernel_rfl)
def laws_markSaidS : GM := gS mk_SaidS
abbrev laws_markSaidS_e : Ent := ⟨[71], laws_markSaidS⟩
theorem laws_markSaidS_w : EntOK Try.prog TT laws_markSaidS_e := entS mk_SaidS_ok (by kernel_rfl)
abbrev mk_ServerS_r : List (Nat × MM) := [(70, .sl mk_ZoneS)]
abbrev mk_ServerS_s : List (Option Eff × SV) := [(some (.call 0 none 70), .res), (some (.store 1 0), .kk), (none, .kinc)]
def mk_ServerS : PV → Int → Option (PV × Int) := mkS mk_ServerS_r mtx 2 mk_ServerS_s
theorem mk_ServerS_ok : MMOK Try.prog 72 (.sl mk_ServerS) := slice_ok (T := TT) (st := 57) (ss := mk_ServerS_s) tabok (ρ := [(70, .sl mk_ZoneS)]) ⟨mk_ZoneS_ok, trivial⟩ mtx_ok Try.func72 (by kernel_rfl) (by kernel_rfl)
def laws_markServerS : GM := gS mk_ServerS
abbrev laws_markServerS_e : Ent := ⟨[72], laws_markServerS⟩
theorem laws_markServerS_w : EntOK Try.prog TT laws_markServerS_e := entS mk_ServerS_ok (by kernel_rfl)
abbrev mk_SignedSS_r : List (Nat × MM) := [(53, .sl mk_SignedS)]
abbrev mk_SignedSS_s : List (Option Eff × SV) := [(some (.call 0 none 53), .res)]
def mk_SignedSS : PV → Int → Option (PV × Int) := mkS mk_SignedSS_r mtx 1 mk_SignedSS_s
theorem mk_SignedSS_ok : MMOK Try.prog 125 (.sl mk_SignedSS) := slice_ok (T := TT) (st := 58) (ss := mk_SignedSS_s) tabok (ρ := [(53, .sl mk_SignedS)]) ⟨mk_SignedS_ok, trivial⟩ mtx_ok Try.func125 (by kernel_rfl) (by kernel_rfl)
def laws_markSignedSS : GM := gS mk_SignedSS
abbrev laws_markSignedSS_e : Ent := ⟨[125], laws_markSignedSS⟩
theorem laws_markSignedSS_w : EntOK Try.prog TT laws_markSignedSS_e := entS mk_SignedSS_ok (by kernel_rfl)
abbrev mk_ForkS_r : List (Nat × MM) := [(43, .sl mk_IntS), (115, .sl mk_SigS)]
abbrev mk_ForkS_s : List (Option Eff × SV) := [(some (.store 0 0), .kk), (none, .kinc), (some (.store 1 0), .kk), (none, .kinc), (some (.store 2 0), .kk), (none, .kinc), (some (.store 3 0), .kk), (none, .kinc), (some (.store 4 0), .kk), (none, .kinc), (some (.store 5 0), .kk), (none, .kinc), (some (.store 6 0), .kk), (none, .kinc), (some (.store 7 0), .kk), (none, .kinc), (some (.call 8 none 43), .res), (some (.store 9 0), .kk), (none, .kinc), (some (.call 10 none 43), .res), (some (.store 11 0), .kk), (none, .kinc), (some (.store 12 0), .kk), (none, .kinc), (some (.call 13 none 43), .res), (some (.store 14 0), .kk), (none, .kinc), (some (.store 15 2), .kk), (none, .kinc), (some (.call 16 none 115), .res), (some (.store 17 0), .kk), (none, .kinc), (some (.store 18 0), .kk), (none, .kinc), (some (.store 19 0), .kk), (none, .kinc), (some (.store 20 0), .kk), (none, .kinc), (some (.store 21 0), .kk), (none, .kinc), (some (.store 22 0), .kk), (none, .kinc), (some (.store 23 0), .kk), (none, .kinc), (some (.store 24 0), .kk), (none, .kinc), (some (.call 25 none 43), .res), (some (.store 26 0), .kk), (none, .kinc), (some (.call 27 none 43), .res), (some (.store 28 0), .kk), (none, .kinc), (some (.store 29 0), .kk), (none, .kinc), (some (.call 30 none 43), .res), (some (.store 31 0), .kk), (none, .kinc), (some (.store 32 2), .kk), (none, .kinc), (some (.call 33 none 115), .res), (some (.store 34 0), .kk), (none, .kinc), (some (.store 35 0), .kk), (none, .kinc), (some (.store 36 0), .kk), (none, .kinc), (some (.store 37 0), .kk), (none, .kinc), (some (.store 38 0), .kk), (none, .kinc), (some (.store 39 0), .kk), (none, .kinc), (some (.store 40 0), .kk), (none, .kinc), (some (.store 41 0), .kk), (none, .kinc), (some (.call 42 none 43), .res), (some (.store 43 0), .kk), (none, .kinc), (some (.call 44 none 43), .res), (some (.store 45 0), .kk), (none, .kinc), (some (.store 46 0), .kk), (none, .kinc), (some (.call 47 none 43), .res), (some (.store 48 0), .kk), (none, .kinc), (some (.store 49 2), .kk), (none, .kinc), (some (.call 50 none 115), .res)]
def mk_ForkS : PV → Int → Option (PV × Int) := mkS mk_ForkS_r mtx 51 mk_ForkS_s
theorem mk_ForkS_ok : MMOK Try.prog 126 (.sl mk_ForkS) := slice_ok (T := TT) (st := 59) (ss := mk_ForkS_s) tabok (ρ := [(43, .sl mk_IntS), (115, .sl mk_SigS)]) ⟨mk_IntS_ok, mk_SigS_ok, trivial⟩ mtx_ok Try.func126 (by kernel_rfl) (by kernel_rfl)
def laws_markForkS : GM := gS mk_ForkS
abbrev laws_markForkS_e : Ent := ⟨[126], laws_markForkS⟩
theorem laws_markForkS_w : EntOK Try.prog TT laws_markForkS_e := entS mk_ForkS_ok (by kernel_rfl)
abbrev mk_Known_r : List (Nat × MM) := [(125, .sl mk_SignedSS), (126, .sl mk_ForkS)]
abbrev mk_Known_s : List (Option Eff × SV) := [(some (.call 0 none 125), .res), (some (.call 1 none 126), .res)]
def mk_Known : List PV → Int → Option (List PV × Int) := mkT mk_Known_r mtx 2 mk_Known_s
theorem mk_Known_ok : MMOK Try.prog 73 (.st mk_Known) := struct_ok (T := TT) (esz := 2) (ss := mk_Known_s) tabok (ρ := [(125, .sl mk_SignedSS), (126, .sl mk_ForkS)]) ⟨mk_SignedSS_ok, mk_ForkS_ok, trivial⟩ mtx_ok Try.func73 (by kernel_rfl) (by kernel_rfl)
def laws_markKnown : GM := gT mk_Known
abbrev laws_markKnown_e : Ent := ⟨[73], laws_markKnown⟩
theorem laws_markKnown_w : EntOK Try.prog TT laws_markKnown_e := entT mk_Known_ok (by kernel_rfl)
abbrev mk_StoredS_r : List (Nat × MM) := [(53, .sl mk_SignedS), (55, .sl mk_StringS), (43, .sl mk_IntS)]
abbrev mk_StoredS_s : List (Option Eff × SV) := [(some (.store 0 0), .kk), (none, .kinc), (some (.store 1 1), .kk), (none, .kinc), (some (.call 2 none 53), .res), (some (.store 3 2), .kk), (none, .kinc), (some (.store 4 1), .kk), (none, .kinc), (some (.store 5 0), .kk), (none, .kinc), (some (.store 6 0), .kk), (none, .kinc), (some (.call 7 none 55), .res), (some (.store 8 0), .kk), (none, .kinc), (some (.call 9 none 43), .res), (some (.store 10 0), .kk), (none, .kinc), (some (.store 11 1), .kk), (none, .kinc), (some (.store 12 0), .kk), (none, .kinc), (some (.store 13 0), .kk), (none, .kinc), (some (.call 14 none 55), .res), (some (.store 15 1), .kk), (none, .kinc), (some (.store 16 0), .kk), (none, .kinc), (some (.store 17 0), .kk), (none, .kinc), (some (.call 18 none 55), .res), (some (.store 19 0), .kk), (none, .kinc), (some (.call 20 none 43), .res), (some (.store 21 0), .kk), (none, .kinc), (some (.call 22 none 43), .res)]
def mk_StoredS : PV → Int → Option (PV × Int) := mkS mk_StoredS_r mtx 23 mk_StoredS_s
theorem mk_StoredS_ok : MMOK Try.prog 127 (.sl mk_StoredS) := slice_ok (T := TT) (st := 62) (ss := mk_StoredS_s) tabok (ρ := [(53, .sl mk_SignedS), (55, .sl mk_StringS), (43, .sl mk_IntS)]) ⟨mk_SignedS_ok, mk_StringS_ok, mk_IntS_ok, trivial⟩ mtx_ok Try.func127 (by kernel_rfl) (by kernel_rfl)
def laws_markStoredS : GM := gS mk_StoredS
abbrev laws_markStoredS_e : Ent := ⟨[127], laws_markStoredS⟩
theorem laws_markStoredS_w : EntOK Try.prog TT laws_markStoredS_e := entS mk_StoredS_ok (by kernel_rfl)
abbrev mk_Cache_r : List (Nat × MM) := [(127, .sl mk_StoredS)]
abbrev mk_Cache_s : List (Option Eff × SV) := [(some (.call 0 none 127), .res)]
def mk_Cache : List PV → Int → Option (List PV × Int) := mkT mk_Cache_r mtx 1 mk_Cache_s
theorem mk_Cache_ok : MMOK Try.prog 74 (.st mk_Cache) := struct_ok (T := TT) (esz := 1) (ss := mk_Cache_s) tabok (ρ := [(127, .sl mk_StoredS)]) ⟨mk_StoredS_ok, trivial⟩ mtx_ok Try.func74 (by kernel_rfl) (by kernel_rfl)
def laws_markCache : GM := gT mk_Cache
abbrev laws_markCache_e : Ent := ⟨[74], laws_markCache⟩
theorem laws_markCache_w : EntOK Try.prog TT laws_markCache_e := entT mk_Cache_ok (by kernel_rfl)
abbrev mk_World_r : List (Nat × MM) := [(12, .sl mk_ActorS), (70, .sl mk_ZoneS), (71, .sl mk_SaidS), (72, .sl mk_ServerS), (73, .st mk_Known), (74, .st mk_Cache)]
abbrev mk_World_s : List (Option Eff × SV) := [(some (.call 1 none 12), .res), (some (.call 2 none 70), .res), (some (.call 3 none 71), .res), (some (.call 4 none 72), .res), (some (.call 5 (some 2) 73), .res), (some (.call 7 (some 1) 74), .res)]
def mk_World : List PV → Int → Option (List PV × Int) := mkT mk_World_r mtx 8 mk_World_s
theorem mk_World_ok : MMOK Try.prog 28 (.st mk_World) := struct_ok (T := TT) (esz := 8) (ss := mk_World_s) tabok (ρ := [(12, .sl mk_ActorS), (70, .sl mk_ZoneS), (71, .sl mk_SaidS), (72, .sl mk_ServerS), (73, .st mk_Known), (74, .st mk_Cache)]) ⟨mk_ActorS_ok, mk_ZoneS_ok, mk_SaidS_ok, mk_ServerS_ok, mk_Known_ok, mk_Cache_ok, trivial⟩ mtx_ok Try.func28 (by kernel_rfl) (by kernel_rfl)
def laws_markWorld : GM := gT mk_World
abbrev laws_markWorld_e : Ent := ⟨[28], laws_markWorld⟩
theorem laws_markWorld_w : EntOK Try.prog TT laws_markWorld_e := entT mk_World_ok (by kernel_rfl)
end Go.Ev
set_option maxRecDepth 100000
set_option linter.unusedVariables false
namespace Go.Ev
open Go.Proofs
def laws_szIntS : GM
 | [.one a0, .one a1], k => 
  lenP a0 fun r0 =>
  binP .sub a1 r0 fun r1 =>
  binP .lss r1 (I 0) fun r2 =>
  iteP r2
   (rt [.sc] [(I (-1))] k)
   (rt [.sc] [r1] k)
 | _, _ => False
abbrev laws_szIntS_e : Ent := ⟨[80], laws_szIntS⟩
theorem laws_szIntS_w : EntOK Try.prog TT laws_szIntS_e := ent_ok tabok (L := []) trivial (keep := []) (l := []) Try.func80 (by kernel_rfl) (sg := [.one (.sc)]) (by kernel_rfl) trivial fun av k h => by
  unfold laws_szIntS at h; split at h
  · exact Eq.mpr (by kernel_rfl) h
  · exact h.elim

def laws_szKeys : GM
 | [.agg u0, .one a2], k => un 2 (fun a0 a1 => 
  call laws_szIntS [.one a0, .one a2] fun o0 =>
  binP .lss (atP o0 0) (I 0) fun r1 =>
  iteP r1
   (rt [.sc] [(I (-1))] k)
   (rt [.sc] [(atP o0 0)] k)) u0
 | _, _ => False
abbrev laws_szKeys_e : Ent := ⟨[160], laws_szKeys⟩
theorem laws_szKeys_w : EntOK Try.prog TT laws_szKeys_e := ent_ok tabok (L := [laws_szIntS_e]) ⟨laws_szIntS_w, trivial⟩ (keep := []) (l := []) Try.func160 (by kernel_rfl) (sg := [.one (.sc)]) (by kernel_rfl) trivial fun av k h => by
  unfold laws_szKeys at h; split at h
  · apply un_all h; clear h; intro a0 a1 h; exact Eq.mpr (by kernel_rfl) h
  · exact h.elim

def laws_szHead : GM
 | [.agg u0, .one a16], k => un 16 (fun a0 a1 a2 a3 a4 a5 a6 a7 a8 a9 a10 a11 a12 a13 a14 a15 => 
  call laws_szKeys [.agg [a8, a9], .one a16] fun o0 =>
  binP .lss (atP o0 0) (I 0) fun r1 =>
  iteP r1
   (rt [.sc] [(I (-1))] k)
   (call laws_szKeys [.agg [a10, a11], .one (atP o0 0)] fun o2 =>
   binP .lss (atP o2 0) (I 0) fun r3 =>
   iteP r3
    (rt [.sc] [(I (-1))] k)
    (call laws_szKeys [.agg [a13, a14], .one (atP o2 0)] fun o4 =>
    binP .lss (atP o4 0) (I 0) fun r5 =>
    iteP r5
     (rt [.sc] [(I (-1))] k)
     (rt [.sc] [(atP o4 0)] k)))) u0
 | _, _ => False
abbrev laws_szHead_e : Ent := ⟨[151], laws_szHead⟩
theorem laws_szHead_w : EntOK Try.prog TT laws_szHead_e := ent_ok tabok (L := [laws_szKeys_e]) ⟨laws_szKeys_w, trivial⟩ (keep := []) (l := []) Try.func151 (by kernel_rfl) (sg := [.one (.sc)]) (by kernel_rfl) trivial fun av k h => by
  unfold laws_szHead at h; split at h
  · apply un_all h; clear h; intro a0 a1 a2 a3 a4 a5 a6 a7 a8 a9 a10 a11 a12 a13 a14 a15 h; exact Eq.mpr (by kernel_rfl) h
  · exact h.elim

def laws_szSigS : GM
 | [.one a0, .one a1], k => 
  lenP a0 fun r0 =>
  binP .sub a1 r0 fun r1 =>
  binP .lss r1 (I 0) fun r2 =>
  iteP r2
   (rt [.sc] [(I (-1))] k)
   (rt [.sc] [r1] k)
 | _, _ => False
abbrev laws_szSigS_e : Ent := ⟨[152], laws_szSigS⟩
theorem laws_szSigS_w : EntOK Try.prog TT laws_szSigS_e := ent_ok tabok (L := []) trivial (keep := []) (l := []) Try.func152 (by kernel_rfl) (sg := [.one (.sc)]) (by kernel_rfl) trivial fun av k h => by
  unfold laws_szSigS at h; split at h
  · exact Eq.mpr (by kernel_rfl) h
  · exact h.elim

def laws_szSigned : GM
 | [.agg u0, .one a17], k => un 17 (fun a0 a1 a2 a3 a4 a5 a6 a7 a8 a9 a10 a11 a12 a13 a14 a15 a16 => 
  call laws_szHead [.agg [a0, a1, a2, a3, a4, a5, a6, a7, a8, a9, a10, a11, a12, a13, a14, a15], .one a17] fun o0 =>
  binP .lss (atP o0 0) (I 0) fun r1 =>
  iteP r1
   (rt [.sc] [(I (-1))] k)
   (call laws_szSigS [.one a16, .one (atP o0 0)] fun o2 =>
   binP .lss (atP o2 0) (I 0) fun r3 =>
   iteP r3
    (rt [.sc] [(I (-1))] k)
    (rt [.sc] [(atP o2 0)] k))) u0
 | _, _ => False
abbrev laws_szSigned_e : Ent := ⟨[137], laws_szSigned⟩
theorem laws_szSigned_w : EntOK Try.prog TT laws_szSigned_e := ent_ok tabok (L := [laws_szHead_e, laws_szSigS_e]) ⟨laws_szHead_w, laws_szSigS_w, trivial⟩ (keep := []) (l := []) Try.func137 (by kernel_rfl) (sg := [.one (.sc)]) (by kernel_rfl) trivial fun av k h => by
  unfold laws_szSigned at h; split at h
  · apply un_all h; clear h; intro a0 a1 a2 a3 a4 a5 a6 a7 a8 a9 a10 a11 a12 a13 a14 a15 a16 h; exact Eq.mpr (by kernel_rfl) h
  · exact h.elim

def laws_szSignedS_r0 (v : List PV) (K : List PV → Prop) (x0k : Prop) (x1k : PV → PV → PV → PV → Prop) : Prop :=
 un 4 (fun v0 v1 v2 v3 =>
  lenP v0 fun r0 =>
  binP .lss v3 r0 fun r1 =>
  iteP r1
   (elemP 17 v0 v3 fun c2 =>
   call laws_szSigned [.agg [(atP c2 0), (atP c2 1), (atP c2 2), (atP c2 3), (atP c2 4), (atP c2 5), (atP c2 6), (atP c2 7), (atP c2 8), (atP c2 9), (atP c2 10), (atP c2 11), (atP c2 12), (atP c2 13), (atP c2 14), (atP c2 15), (atP c2 16)], .one v1] fun o3 =>
   binP .lss (atP o3 0) (I 0) fun r4 =>
   iteP r4
    (x0k)
    (binP .add v3 (I 1) fun r5 =>
    K [v0, (atP o3 0), v2, r5]))
   (x1k v0 v1 v2 v3)) v
def laws_szSignedS : GM
 | [.one a0, .one a1], k => 
  lenP a0 fun r0 =>
  binP .sub a1 r0 fun r1 =>
  binP .lss r1 (I 0) fun r2 =>
  iteP r2
   (rt [.sc] [(I (-1))] k)
   (lp (fun L w => laws_szSignedS_r0 w L
    (rt [.sc] [(I (-1))] k)
    (fun q6 q7 q8 q9 => rt [.sc] [q7] k)) [a0, r1, (I 0), (I 0)])
 | _, _ => False
abbrev laws_szSignedS_e : Ent := ⟨[97], laws_szSignedS⟩
def laws_szSignedS_l : List LE := [⟨0, ⟨[(0, .one (.pv (.bool false))), (1, .one (.pv (.bool false))), (4, .one (.pv (.bool false))), (5, .one (.pv (.bool false)))], [], [], 0, 27⟩, fun K k v => laws_szSignedS_r0 v K (k .ret ⟨[(4, .one (.pv (I (-1))))], [], [], 1, 27⟩) (fun x0 x1 x2 x3 => k (.exit 0) ⟨[(0, .one (.pv x0)), (1, .one (.pv x1)), (4, .one (.pv x2)), (5, .one (.pv x3))], [], [], 0, 27⟩)⟩]
theorem laws_szSignedS_s : LEsOK (orac [laws_szSigned_e]) TT (kk [0, 1, 4, 5]) (sumsOf laws_szSignedS_l) Try.f97 laws_szSignedS_l := ⟨fun v K k h => by
  apply un_all h; exact fun v0 v1 v2 v3 h => Eq.mpr (by kernel_rfl) h
  , trivial⟩
theorem laws_szSignedS_w : EntOK Try.prog TT laws_szSignedS_e := ent_ok tabok (L := [laws_szSigned_e]) ⟨laws_szSigned_w, trivial⟩ (keep := (kk [0, 1, 4, 5])) (l := laws_szSignedS_l) Try.func97 (by kernel_rfl) (sg := [.one (.sc)]) (by kernel_rfl) laws_szSignedS_s fun av k h => by
  unfold laws_szSignedS at h; split at h
  · exact Eq.mpr (by kernel_rfl) h
  · exact h.elim

def laws_szStringS_r0 (v : List PV) (K : List PV → Prop) (x0k : Prop) (x1k : PV → PV → PV → PV → Prop) : Prop :=
 un 4 (fun v0 v1 v2 v3 =>
  lenP v0 fun r0 =>
  binP .lss v3 r0 fun r1 =>
  iteP r1
   (elemP 1 v0 v3 fun c2 =>
   lenS (atP c2 0) fun r3 =>
   binP .sub v1 r3 fun r4 =>
   binP .lss r4 (I 0) fun r5 =>
   iteP r5
    (x0k)
    (binP .add v3 (I 1) fun r6 =>
    K [v0, r4, v2, r6]))
   (x1k v0 v1 v2 v3)) v
def laws_szStringS : GM
 | [.one a0, .one a1], k => 
  lenP a0 fun r0 =>
  binP .sub a1 r0 fun r1 =>
  binP .lss r1 (I 0) fun r2 =>
  iteP r2
   (rt [.sc] [(I (-1))] k)
   (lp (fun L w => laws_szStringS_r0 w L
    (rt [.sc] [(I (-1))] k)
    (fun q7 q8 q9 q10 => rt [.sc] [q8] k)) [a0, r1, (I 0), (I 0)])
 | _, _ => False
abbrev laws_szStringS_e : Ent := ⟨[138], laws_szStringS⟩
def laws_szStringS_l : List LE := [⟨0, ⟨[(0, .one (.pv (.bool false))), (1, .one (.pv (.bool false))), (4, .one (.pv (.bool false))), (5, .one (.pv (.bool false)))], [], [], 0, 28⟩, fun K k v => laws_szStringS_r0 v K (k .ret ⟨[(4, .one (.pv (I (-1))))], [], [], 0, 28⟩) (fun x0 x1 x2 x3 => k (.exit 0) ⟨[(0, .one (.pv x0)), (1, .one (.pv x1)), (4, .one (.pv x2)), (5, .one (.pv x3))], [], [], 0, 28⟩)⟩]
theorem laws_szStringS_s : LEsOK (orac []) TT (kk [0, 1, 4, 5]) (sumsOf laws_szStringS_l) Try.f138 laws_szStringS_l := ⟨fun v K k h => by
  apply un_all h; exact fun v0 v1 v2 v3 h => Eq.mpr (by kernel_rfl) h
  , trivial⟩
theorem laws_szStringS_w : EntOK Try.prog TT laws_szStringS_e := ent_ok tabok (L := []) trivial (keep := (kk [0, 1, 4, 5])) (l := laws_szStringS_l) Try.func138 (by kernel_rfl) (sg := [.one (.sc)]) (by kernel_rfl) laws_szStringS_s fun av k h => by
  unfold laws_szStringS at h; split at h
  · exact Eq.mpr (by kernel_rfl) h
  · exact h.elim

def laws_szEntry : GM
 | [.agg u0, .one a4], k => un 4 (fun a0 a1 a2 a3 => 
  lenS a0 fun r0 =>
  binP .sub a4 r0 fun r1 =>
  binP .lss r1 (I 0) fun r2 =>
  iteP r2
   (rt [.sc] [(I (-1))] k)
   (call laws_szStringS [.one a3, .one r1] fun o3 =>
   binP .lss (atP o3 0) (I 0) fun r4 =>
   iteP r4
    (rt [.sc] [(I (-1))] k)
    (rt [.sc] [(atP o3 0)] k))) u0
 | _, _ => False
abbrev laws_szEntry_e : Ent := ⟨[98], laws_szEntry⟩
theorem laws_szEntry_w : EntOK Try.prog TT laws_szEntry_e := ent_ok tabok (L := [laws_szStringS_e]) ⟨laws_szStringS_w, trivial⟩ (keep := []) (l := []) Try.func98 (by kernel_rfl) (sg := [.one (.sc)]) (by kernel_rfl) trivial fun av k h => by
  unfold laws_szEntry at h; split at h
  · apply un_all h; clear h; intro a0 a1 a2 a3 h; exact Eq.mpr (by kernel_rfl) h
  · exact h.elim

def laws_szProof : GM
 | [.agg u0, .one a2], k => un 2 (fun a0 a1 => 
  call laws_szIntS [.one a1, .one a2] fun o0 =>
  binP .lss (atP o0 0) (I 0) fun r1 =>
  iteP r1
   (rt [.sc] [(I (-1))] k)
   (rt [.sc] [(atP o0 0)] k)) u0
 | _, _ => False
abbrev laws_szProof_e : Ent := ⟨[99], laws_szProof⟩
theorem laws_szProof_w : EntOK Try.prog TT laws_szProof_e := ent_ok tabok (L := [laws_szIntS_e]) ⟨laws_szIntS_w, trivial⟩ (keep := []) (l := []) Try.func99 (by kernel_rfl) (sg := [.one (.sc)]) (by kernel_rfl) trivial fun av k h => by
  unfold laws_szProof at h; split at h
  · apply un_all h; clear h; intro a0 a1 h; exact Eq.mpr (by kernel_rfl) h
  · exact h.elim

def laws_szGap : GM
 | [.agg u0, .one a13], k => un 13 (fun a0 a1 a2 a3 a4 a5 a6 a7 a8 a9 a10 a11 a12 => 
  call laws_szEntry [.agg [a1, a2, a3, a4], .one a13] fun o0 =>
  binP .lss (atP o0 0) (I 0) fun r1 =>
  iteP r1
   (rt [.sc] [(I (-1))] k)
   (call laws_szEntry [.agg [a5, a6, a7, a8], .one (atP o0 0)] fun o2 =>
   binP .lss (atP o2 0) (I 0) fun r3 =>
   iteP r3
    (rt [.sc] [(I (-1))] k)
    (call laws_szProof [.agg [a9, a10], .one (atP o2 0)] fun o4 =>
    binP .lss (atP o4 0) (I 0) fun r5 =>
    iteP r5
     (rt [.sc] [(I (-1))] k)
     (call laws_szProof [.agg [a11, a12], .one (atP o4 0)] fun o6 =>
     binP .lss (atP o6 0) (I 0) fun r7 =>
     iteP r7
      (rt [.sc] [(I (-1))] k)
      (rt [.sc] [(atP o6 0)] k))))) u0
 | _, _ => False
abbrev laws_szGap_e : Ent := ⟨[100], laws_szGap⟩
theorem laws_szGap_w : EntOK Try.prog TT laws_szGap_e := ent_ok tabok (L := [laws_szEntry_e, laws_szProof_e]) ⟨laws_szEntry_w, laws_szProof_w, trivial⟩ (keep := []) (l := []) Try.func100 (by kernel_rfl) (sg := [.one (.sc)]) (by kernel_rfl) trivial fun av k h => by
  unfold laws_szGap at h; split at h
  · apply un_all h; clear h; intro a0 a1 a2 a3 a4 a5 a6 a7 a8 a9 a10 a11 a12 h; exact Eq.mpr (by kernel_rfl) h
  · exact h.elim

def laws_szAnswer : GM
 | [.agg u0, .one a21], k => un 21 (fun a0 a1 a2 a3 a4 a5 a6 a7 a8 a9 a10 a11 a12 a13 a14 a15 a16 a17 a18 a19 a20 => 
  call laws_szSignedS [.one a0, .one a21] fun o0 =>
  binP .lss (atP o0 0) (I 0) fun r1 =>
  iteP r1
   (rt [.sc] [(I (-1))] k)
   (call laws_szEntry [.agg [a2, a3, a4, a5], .one (atP o0 0)] fun o2 =>
   binP .lss (atP o2 0) (I 0) fun r3 =>
   iteP r3
    (rt [.sc] [(I (-1))] k)
    (call laws_szProof [.agg [a6, a7], .one (atP o2 0)] fun o4 =>
    binP .lss (atP o4 0) (I 0) fun r5 =>
    iteP r5
     (rt [.sc] [(I (-1))] k)
     (call laws_szGap [.agg [a8, a9, a10, a11, a12, a13, a14, a15, a16, a17, a18, a19, a20], .one (atP o4 0)] fun o6 =>
     binP .lss (atP o6 0) (I 0) fun r7 =>
     iteP r7
      (rt [.sc] [(I (-1))] k)
      (rt [.sc] [(atP o6 0)] k))))) u0
 | _, _ => False
abbrev laws_szAnswer_e : Ent := ⟨[45], laws_szAnswer⟩
theorem laws_szAnswer_w : EntOK Try.prog TT laws_szAnswer_e := ent_ok tabok (L := [laws_szSignedS_e, laws_szEntry_e, laws_szProof_e, laws_szGap_e]) ⟨laws_szSignedS_w, laws_szEntry_w, laws_szProof_w, laws_szGap_w, trivial⟩ (keep := []) (l := []) Try.func45 (by kernel_rfl) (sg := [.one (.sc)]) (by kernel_rfl) trivial fun av k h => by
  unfold laws_szAnswer at h; split at h
  · apply un_all h; clear h; intro a0 a1 a2 a3 a4 a5 a6 a7 a8 a9 a10 a11 a12 a13 a14 a15 a16 a17 a18 a19 a20 h; exact Eq.mpr (by kernel_rfl) h
  · exact h.elim

def laws_szAnswerS_r0 (v : List PV) (K : List PV → Prop) (x0k : Prop) (x1k : PV → PV → PV → PV → Prop) : Prop :=
 un 4 (fun v0 v1 v2 v3 =>
  lenP v0 fun r0 =>
  binP .lss v3 r0 fun r1 =>
  iteP r1
   (elemP 21 v0 v3 fun c2 =>
   call laws_szAnswer [.agg [(atP c2 0), (atP c2 1), (atP c2 2), (atP c2 3), (atP c2 4), (atP c2 5), (atP c2 6), (atP c2 7), (atP c2 8), (atP c2 9), (atP c2 10), (atP c2 11), (atP c2 12), (atP c2 13), (atP c2 14), (atP c2 15), (atP c2 16), (atP c2 17), (atP c2 18), (atP c2 19), (atP c2 20)], .one v1] fun o3 =>
   binP .lss (atP o3 0) (I 0) fun r4 =>
   iteP r4
    (x0k)
    (binP .add v3 (I 1) fun r5 =>
    K [v0, (atP o3 0), v2, r5]))
   (x1k v0 v1 v2 v3)) v
def laws_szAnswerS : GM
 | [.one a0, .one a1], k => 
  lenP a0 fun r0 =>
  binP .sub a1 r0 fun r1 =>
  binP .lss r1 (I 0) fun r2 =>
  iteP r2
   (rt [.sc] [(I (-1))] k)
   (lp (fun L w => laws_szAnswerS_r0 w L
    (rt [.sc] [(I (-1))] k)
    (fun q6 q7 q8 q9 => rt [.sc] [q7] k)) [a0, r1, (I 0), (I 0)])
 | _, _ => False
abbrev laws_szAnswerS_e : Ent := ⟨[16], laws_szAnswerS⟩
def laws_szAnswerS_l : List LE := [⟨0, ⟨[(0, .one (.pv (.bool false))), (1, .one (.pv (.bool false))), (4, .one (.pv (.bool false))), (5, .one (.pv (.bool false)))], [], [], 0, 27⟩, fun K k v => laws_szAnswerS_r0 v K (k .ret ⟨[(4, .one (.pv (I (-1))))], [], [], 1, 27⟩) (fun x0 x1 x2 x3 => k (.exit 0) ⟨[(0, .one (.pv x0)), (1, .one (.pv x1)), (4, .one (.pv x2)), (5, .one (.pv x3))], [], [], 0, 27⟩)⟩]
theorem laws_szAnswerS_s : LEsOK (orac [laws_szAnswer_e]) TT (kk [0, 1, 4, 5]) (sumsOf laws_szAnswerS_l) Try.f16 laws_szAnswerS_l := ⟨fun v K k h => by
  apply un_all h; exact fun v0 v1 v2 v3 h => Eq.mpr (by kernel_rfl) h
  , trivial⟩
theorem laws_szAnswerS_w : EntOK Try.prog TT laws_szAnswerS_e := ent_ok tabok (L := [laws_szAnswer_e]) ⟨laws_szAnswer_w, trivial⟩ (keep := (kk [0, 1, 4, 5])) (l := laws_szAnswerS_l) Try.func16 (by kernel_rfl) (sg := [.one (.sc)]) (by kernel_rfl) laws_szAnswerS_s fun av k h => by
  unfold laws_szAnswerS at h; split at h
  · exact Eq.mpr (by kernel_rfl) h
  · exact h.elim

def laws_toIntS_r0 (v : List PV) (K : List PV → Prop) (x0k : PV → PV → PV → PV → Prop) : Prop :=
 un 4 (fun v0 v1 v2 v3 =>
  lenP v0 fun r0 =>
  binP .lss v1 r0 fun r1 =>
  iteP r1
   (elemP 1 v0 v1 fun c2 =>
   boundP 1 v3 v1 fun n3 =>
   (flatCond [.pv (I 0)] [.pv (atP c2 0)]) ∧ setP v3 n3 0 [(atP c2 0)] fun r4 =>
   binP .add v1 (I 1) fun r5 =>
   K [v0, r5, v2, r4])
   (x0k v0 v1 v2 v3)) v
def laws_toIntS : GM
 | [.one a0], k => 
  lenP a0 fun r0 =>
  (r0 = r0) ∧ (1 = 1) ∧ makeP 1 r0 [(I 0)] fun r1 =>
  lp (fun L w => laws_toIntS_r0 w L
   (fun q6 q7 q8 q9 => rt [.own true 3 1] [q9] k)) [a0, (I 0), (.list 1 []), r1]
 | _, _ => False
abbrev laws_toIntS_e : Ent := ⟨[82], laws_toIntS⟩
def laws_toIntS_l : List LE := [⟨0, ⟨[(0, .one (.pv (.bool false))), (2, .one (.own 1)), (3, .one (.own 0)), (4, .one (.pv (.bool false)))], [], [(1, ⟨.deep, 3, 1, (.bool false)⟩), (0, ⟨.deep, 3, 1, (.bool false)⟩)], 2, 22⟩, fun K k v => laws_toIntS_r0 v K (fun x0 x1 x2 x3 => k (.exit 0) ⟨[(0, .one (.pv x0)), (2, .one (.own 1)), (3, .one (.own 0)), (4, .one (.pv x1))], [], [(1, ⟨.deep, 3, 1, x2⟩), (0, ⟨.deep, 3, 1, x3⟩)], 2, 22⟩)⟩]
theorem laws_toIntS_s : LEsOK (orac []) TT (kk [0, 2, 3, 4]) (sumsOf laws_toIntS_l) Try.f82 laws_toIntS_l := ⟨fun v K k h => by
  apply un_all h; exact fun v0 v1 v2 v3 h => Eq.mpr (by kernel_rfl) h
  , trivial⟩
theorem laws_toIntS_w : EntOK Try.prog TT laws_toIntS_e := ent_ok tabok (L := []) trivial (keep := (kk [0, 2, 3, 4])) (l := laws_toIntS_l) Try.func82 (by kernel_rfl) (sg := [.one (.own true 3 1)]) (by kernel_rfl) laws_toIntS_s fun av k h => by
  unfold laws_toIntS at h; split at h
  · exact Eq.mpr (by kernel_rfl) h
  · exact h.elim

def laws_toKeys : GM
 | [.agg u0], k => un 2 (fun a0 a1 => 
  call laws_toIntS [.one a0] fun o0 =>
  rt [.own true 3 1, .sc] [(atP o0 0), a1] k) u0
 | _, _ => False
abbrev laws_toKeys_e : Ent := ⟨[162], laws_toKeys⟩
theorem laws_toKeys_w : EntOK Try.prog TT laws_toKeys_e := ent_ok tabok (L := [laws_toIntS_e]) ⟨laws_toIntS_w, trivial⟩ (keep := []) (l := []) Try.func162 (by kernel_rfl) (sg := [.agg [.own true 3 1, .sc]]) (by kernel_rfl) trivial fun av k h => by
  unfold laws_toKeys at h; split at h
  · apply un_all h; clear h; intro a0 a1 h; exact Eq.mpr (by kernel_rfl) h
  · exact h.elim

def laws_toHead : GM
 | [.agg u0], k => un 16 (fun a0 a1 a2 a3 a4 a5 a6 a7 a8 a9 a10 a11 a12 a13 a14 a15 => 
  call laws_toKeys [.agg [a8, a9]] fun o0 =>
  call laws_toKeys [.agg [a10, a11]] fun o1 =>
  call laws_toKeys [.agg [a13, a14]] fun o2 =>
  rt [.sc, .sc, .sc, .sc, .sc, .sc, .sc, .sc, .own true 3 1, .sc, .own true 3 1, .sc, .sc, .own true 3 1, .sc, .sc] [a0, a1, a2, a3, a4, a5, a6, a7, (atP o0 0), (atP o0 1), (atP o1 0), (atP o1 1), a12, (atP o2 0), (atP o2 1), a15] k) u0
 | _, _ => False
abbrev laws_toHead_e : Ent := ⟨[154], laws_toHead⟩
theorem laws_toHead_w : EntOK Try.prog TT laws_toHead_e := ent_ok tabok (L := [laws_toKeys_e]) ⟨laws_toKeys_w, trivial⟩ (keep := []) (l := []) Try.func154 (by kernel_rfl) (sg := [.agg [.sc, .sc, .sc, .sc, .sc, .sc, .sc, .sc, .own true 3 1, .sc, .own true 3 1, .sc, .sc, .own true 3 1, .sc, .sc]]) (by kernel_rfl) trivial fun av k h => by
  unfold laws_toHead at h; split at h
  · apply un_all h; clear h; intro a0 a1 a2 a3 a4 a5 a6 a7 a8 a9 a10 a11 a12 a13 a14 a15 h; exact Eq.mpr (by kernel_rfl) h
  · exact h.elim

def laws_toSig : GM
 | [.agg u0], k => un 2 (fun a0 a1 => 
  rt [.sc, .sc] [a0, a1] k) u0
 | _, _ => False
abbrev laws_toSig_e : Ent := ⟨[163], laws_toSig⟩
theorem laws_toSig_w : EntOK Try.prog TT laws_toSig_e := ent_ok tabok (L := []) trivial (keep := []) (l := []) Try.func163 (by kernel_rfl) (sg := [.agg [.sc, .sc]]) (by kernel_rfl) trivial fun av k h => by
  unfold laws_toSig at h; split at h
  · apply un_all h; clear h; intro a0 a1 h; exact Eq.mpr (by kernel_rfl) h
  · exact h.elim

def laws_toSigS_r0 (v : List PV) (K : List PV → Prop) (x0k : PV → PV → PV → PV → Prop) : Prop :=
 un 4 (fun v0 v1 v2 v3 =>
  lenP v0 fun r0 =>
  binP .lss v1 r0 fun r1 =>
  iteP r1
   (elemP 2 v0 v1 fun c2 =>
   call laws_toSig [.agg [(atP c2 0), (atP c2 1)]] fun o3 =>
   boundP 2 v3 v1 fun n4 =>
   (flatCond [.pv (I 0), .pv (I 0)] [.pv (atP o3 0), .pv (atP o3 1)]) ∧ setP v3 n4 0 [(atP o3 0), (atP o3 1)] fun r5 =>
   binP .add v1 (I 1) fun r6 =>
   K [v0, r6, v2, r5])
   (x0k v0 v1 v2 v3)) v
def laws_toSigS : GM
 | [.one a0], k => 
  lenP a0 fun r0 =>
  (r0 = r0) ∧ (2 = 2) ∧ makeP 2 r0 [(I 0), (I 0)] fun r1 =>
  lp (fun L w => laws_toSigS_r0 w L
   (fun q7 q8 q9 q10 => rt [.own true 182 2] [q10] k)) [a0, (I 0), (.list 2 []), r1]
 | _, _ => False
abbrev laws_toSigS_e : Ent := ⟨[155], laws_toSigS⟩
def laws_toSigS_l : List LE := [⟨0, ⟨[(0, .one (.pv (.bool false))), (2, .one (.own 1)), (3, .one (.own 0)), (4, .one (.pv (.bool false)))], [], [(1, ⟨.deep, 182, 2, (.bool false)⟩), (0, ⟨.deep, 182, 2, (.bool false)⟩)], 2, 23⟩, fun K k v => laws_toSigS_r0 v K (fun x0 x1 x2 x3 => k (.exit 0) ⟨[(0, .one (.pv x0)), (2, .one (.own 1)), (3, .one (.own 0)), (4, .one (.pv x1))], [], [(1, ⟨.deep, 182, 2, x2⟩), (0, ⟨.deep, 182, 2, x3⟩)], 2, 23⟩)⟩]
theorem laws_toSigS_s : LEsOK (orac [laws_toSig_e]) TT (kk [0, 2, 3, 4]) (sumsOf laws_toSigS_l) Try.f155 laws_toSigS_l := ⟨fun v K k h => by
  apply un_all h; exact fun v0 v1 v2 v3 h => Eq.mpr (by kernel_rfl) h
  , trivial⟩
theorem laws_toSigS_w : EntOK Try.prog TT laws_toSigS_e := ent_ok tabok (L := [laws_toSig_e]) ⟨laws_toSig_w, trivial⟩ (keep := (kk [0, 2, 3, 4])) (l := laws_toSigS_l) Try.func155 (by kernel_rfl) (sg := [.one (.own true 182 2)]) (by kernel_rfl) laws_toSigS_s fun av k h => by
  unfold laws_toSigS at h; split at h
  · exact Eq.mpr (by kernel_rfl) h
  · exact h.elim

def laws_toSigned : GM
 | [.agg u0], k => un 17 (fun a0 a1 a2 a3 a4 a5 a6 a7 a8 a9 a10 a11 a12 a13 a14 a15 a16 => 
  call laws_toHead [.agg [a0, a1, a2, a3, a4, a5, a6, a7, a8, a9, a10, a11, a12, a13, a14, a15]] fun o0 =>
  call laws_toSigS [.one a16] fun o1 =>
  rt [.sc, .sc, .sc, .sc, .sc, .sc, .sc, .sc, .own true 3 1, .sc, .own true 3 1, .sc, .sc, .own true 3 1, .sc, .sc, .own true 182 2] [(atP o0 0), (atP o0 1), (atP o0 2), (atP o0 3), (atP o0 4), (atP o0 5), (atP o0 6), (atP o0 7), (atP o0 8), (atP o0 9), (atP o0 10), (atP o0 11), (atP o0 12), (atP o0 13), (atP o0 14), (atP o0 15), (atP o1 0)] k) u0
 | _, _ => False
abbrev laws_toSigned_e : Ent := ⟨[141], laws_toSigned⟩
theorem laws_toSigned_w : EntOK Try.prog TT laws_toSigned_e := ent_ok tabok (L := [laws_toHead_e, laws_toSigS_e]) ⟨laws_toHead_w, laws_toSigS_w, trivial⟩ (keep := []) (l := []) Try.func141 (by kernel_rfl) (sg := [.agg [.sc, .sc, .sc, .sc, .sc, .sc, .sc, .sc, .own true 3 1, .sc, .own true 3 1, .sc, .sc, .own true 3 1, .sc, .sc, .own true 182 2]]) (by kernel_rfl) trivial fun av k h => by
  unfold laws_toSigned at h; split at h
  · apply un_all h; clear h; intro a0 a1 a2 a3 a4 a5 a6 a7 a8 a9 a10 a11 a12 a13 a14 a15 a16 h; exact Eq.mpr (by kernel_rfl) h
  · exact h.elim

def laws_toSignedS_r0 (v : List PV) (K : List PV → Prop) (x0k : PV → PV → PV → PV → Prop) : Prop :=
 un 4 (fun v0 v1 v2 v3 =>
  lenP v0 fun r0 =>
  binP .lss v1 r0 fun r1 =>
  iteP r1
   (elemP 17 v0 v1 fun c2 =>
   call laws_toSigned [.agg [(atP c2 0), (atP c2 1), (atP c2 2), (atP c2 3), (atP c2 4), (atP c2 5), (atP c2 6), (atP c2 7), (atP c2 8), (atP c2 9), (atP c2 10), (atP c2 11), (atP c2 12), (atP c2 13), (atP c2 14), (atP c2 15), (atP c2 16)]] fun o3 =>
   boundP 17 v3 v1 fun n4 =>
   (flatCond [.pv (I 0), .pv (I 0), .pv (I 0), .pv (I 0), .pv (I 0), .pv (I 0), .pv (I 0), .pv (I 0), .nil 3 1, .pv (I 0), .nil 3 1, .pv (I 0), .pv (I 0), .nil 3 1, .pv (I 0), .pv (.bool false), .nil 182 2] [.pv (atP o3 0), .pv (atP o3 1), .pv (atP o3 2), .pv (atP o3 3), .pv (atP o3 4), .pv (atP o3 5), .pv (atP o3 6), .pv (atP o3 7), .own 10, .pv (atP o3 9), .own 12, .pv (atP o3 11), .pv (atP o3 12), .own 15, .pv (atP o3 14), .pv (atP o3 15), .own 18]) ∧ setP v3 n4 0 [(atP o3 0), (atP o3 1), (atP o3 2), (atP o3 3), (atP o3 4), (atP o3 5), (atP o3 6), (atP o3 7), (atP o3 8), (atP o3 9), (atP o3 10), (atP o3 11), (atP o3 12), (atP o3 13), (atP o3 14), (atP o3 15), (atP o3 16)] fun r5 =>
   binP .add v1 (I 1) fun r6 =>
   K [v0, r6, v2, r5])
   (x0k v0 v1 v2 v3)) v
def laws_toSignedS : GM
 | [.one a0], k => 
  lenP a0 fun r0 =>
  (r0 = r0) ∧ (17 = 17) ∧ makeP 17 r0 [(I 0), (I 0), (I 0), (I 0), (I 0), (I 0), (I 0), (I 0), (.list 1 []), (I 0), (.list 1 []), (I 0), (I 0), (.list 1 []), (I 0), (.bool false), (.list 2 [])] fun r1 =>
  lp (fun L w => laws_toSignedS_r0 w L
   (fun q7 q8 q9 q10 => rt [.own true 148 17] [q10] k)) [a0, (I 0), (.list 17 []), r1]
 | _, _ => False
abbrev laws_toSignedS_e : Ent := ⟨[105], laws_toSignedS⟩
def laws_toSignedS_l : List LE := [⟨0, ⟨[(0, .one (.pv (.bool false))), (2, .one (.own 1)), (3, .one (.own 0)), (4, .one (.pv (.bool false)))], [], [(1, ⟨.deep, 148, 17, (.bool false)⟩), (0, ⟨.deep, 148, 17, (.bool false)⟩)], 2, 23⟩, fun K k v => laws_toSignedS_r0 v K (fun x0 x1 x2 x3 => k (.exit 0) ⟨[(0, .one (.pv x0)), (2, .one (.own 1)), (3, .one (.own 0)), (4, .one (.pv x1))], [], [(1, ⟨.deep, 148, 17, x2⟩), (0, ⟨.deep, 148, 17, x3⟩)], 2, 23⟩)⟩]
theorem laws_toSignedS_s : LEsOK (orac [laws_toSigned_e]) TT (kk [0, 2, 3, 4]) (sumsOf laws_toSignedS_l) Try.f105 laws_toSignedS_l := ⟨fun v K k h => by
  apply un_all h; exact fun v0 v1 v2 v3 h => Eq.mpr (by kernel_rfl) h
  , trivial⟩
theorem laws_toSignedS_w : EntOK Try.prog TT laws_toSignedS_e := ent_ok tabok (L := [laws_toSigned_e]) ⟨laws_toSigned_w, trivial⟩ (keep := (kk [0, 2, 3, 4])) (l := laws_toSignedS_l) Try.func105 (by kernel_rfl) (sg := [.one (.own true 148 17)]) (by kernel_rfl) laws_toSignedS_s fun av k h => by
  unfold laws_toSignedS at h; split at h
  · exact Eq.mpr (by kernel_rfl) h
  · exact h.elim

def laws_toStringS_r0 (v : List PV) (K : List PV → Prop) (x0k : PV → PV → PV → PV → Prop) : Prop :=
 un 4 (fun v0 v1 v2 v3 =>
  lenP v0 fun r0 =>
  binP .lss v1 r0 fun r1 =>
  iteP r1
   (elemP 1 v0 v1 fun c2 =>
   boundP 1 v3 v1 fun n3 =>
   (flatCond [.pv (.str ⟨#[]⟩)] [.pv (atP c2 0)]) ∧ setP v3 n3 0 [(atP c2 0)] fun r4 =>
   binP .add v1 (I 1) fun r5 =>
   K [v0, r5, v2, r4])
   (x0k v0 v1 v2 v3)) v
def laws_toStringS : GM
 | [.one a0], k => 
  lenP a0 fun r0 =>
  (r0 = r0) ∧ (1 = 1) ∧ makeP 1 r0 [(.str ⟨#[]⟩)] fun r1 =>
  lp (fun L w => laws_toStringS_r0 w L
   (fun q6 q7 q8 q9 => rt [.own true 9 1] [q9] k)) [a0, (I 0), (.list 1 []), r1]
 | _, _ => False
abbrev laws_toStringS_e : Ent := ⟨[142], laws_toStringS⟩
def laws_toStringS_l : List LE := [⟨0, ⟨[(0, .one (.pv (.bool false))), (2, .one (.own 1)), (3, .one (.own 0)), (4, .one (.pv (.bool false)))], [], [(1, ⟨.deep, 9, 1, (.bool false)⟩), (0, ⟨.deep, 9, 1, (.bool false)⟩)], 2, 22⟩, fun K k v => laws_toStringS_r0 v K (fun x0 x1 x2 x3 => k (.exit 0) ⟨[(0, .one (.pv x0)), (2, .one (.own 1)), (3, .one (.own 0)), (4, .one (.pv x1))], [], [(1, ⟨.deep, 9, 1, x2⟩), (0, ⟨.deep, 9, 1, x3⟩)], 2, 22⟩)⟩]
theorem laws_toStringS_s : LEsOK (orac []) TT (kk [0, 2, 3, 4]) (sumsOf laws_toStringS_l) Try.f142 laws_toStringS_l := ⟨fun v K k h => by
  apply un_all h; exact fun v0 v1 v2 v3 h => Eq.mpr (by kernel_rfl) h
  , trivial⟩
theorem laws_toStringS_w : EntOK Try.prog TT laws_toStringS_e := ent_ok tabok (L := []) trivial (keep := (kk [0, 2, 3, 4])) (l := laws_toStringS_l) Try.func142 (by kernel_rfl) (sg := [.one (.own true 9 1)]) (by kernel_rfl) laws_toStringS_s fun av k h => by
  unfold laws_toStringS at h; split at h
  · exact Eq.mpr (by kernel_rfl) h
  · exact h.elim

def laws_toEntry : GM
 | [.agg u0], k => un 4 (fun a0 a1 a2 a3 => 
  call laws_toStringS [.one a3] fun o0 =>
  rt [.sc, .sc, .sc, .own true 9 1] [a0, a1, a2, (atP o0 0)] k) u0
 | _, _ => False
abbrev laws_toEntry_e : Ent := ⟨[106], laws_toEntry⟩
theorem laws_toEntry_w : EntOK Try.prog TT laws_toEntry_e := ent_ok tabok (L := [laws_toStringS_e]) ⟨laws_toStringS_w, trivial⟩ (keep := []) (l := []) Try.func106 (by kernel_rfl) (sg := [.agg [.sc, .sc, .sc, .own true 9 1]]) (by kernel_rfl) trivial fun av k h => by
  unfold laws_toEntry at h; split at h
  · apply un_all h; clear h; intro a0 a1 a2 a3 h; exact Eq.mpr (by kernel_rfl) h
  · exact h.elim

def laws_toProof : GM
 | [.agg u0], k => un 2 (fun a0 a1 => 
  call laws_toIntS [.one a1] fun o0 =>
  rt [.sc, .own true 3 1] [a0, (atP o0 0)] k) u0
 | _, _ => False
abbrev laws_toProof_e : Ent := ⟨[107], laws_toProof⟩
theorem laws_toProof_w : EntOK Try.prog TT laws_toProof_e := ent_ok tabok (L := [laws_toIntS_e]) ⟨laws_toIntS_w, trivial⟩ (keep := []) (l := []) Try.func107 (by kernel_rfl) (sg := [.agg [.sc, .own true 3 1]]) (by kernel_rfl) trivial fun av k h => by
  unfold laws_toProof at h; split at h
  · apply un_all h; clear h; intro a0 a1 h; exact Eq.mpr (by kernel_rfl) h
  · exact h.elim

def laws_toGap : GM
 | [.agg u0], k => un 13 (fun a0 a1 a2 a3 a4 a5 a6 a7 a8 a9 a10 a11 a12 => 
  call laws_toEntry [.agg [a1, a2, a3, a4]] fun o0 =>
  call laws_toEntry [.agg [a5, a6, a7, a8]] fun o1 =>
  call laws_toProof [.agg [a9, a10]] fun o2 =>
  call laws_toProof [.agg [a11, a12]] fun o3 =>
  rt [.sc, .sc, .sc, .sc, .own true 9 1, .sc, .sc, .sc, .own true 9 1, .sc, .own true 3 1, .sc, .own true 3 1] [a0, (atP o0 0), (atP o0 1), (atP o0 2), (atP o0 3), (atP o1 0), (atP o1 1), (atP o1 2), (atP o1 3), (atP o2 0), (atP o2 1), (atP o3 0), (atP o3 1)] k) u0
 | _, _ => False
abbrev laws_toGap_e : Ent := ⟨[108], laws_toGap⟩
theorem laws_toGap_w : EntOK Try.prog TT laws_toGap_e := ent_ok tabok (L := [laws_toEntry_e, laws_toProof_e]) ⟨laws_toEntry_w, laws_toProof_w, trivial⟩ (keep := []) (l := []) Try.func108 (by kernel_rfl) (sg := [.agg [.sc, .sc, .sc, .sc, .own true 9 1, .sc, .sc, .sc, .own true 9 1, .sc, .own true 3 1, .sc, .own true 3 1]]) (by kernel_rfl) trivial fun av k h => by
  unfold laws_toGap at h; split at h
  · apply un_all h; clear h; intro a0 a1 a2 a3 a4 a5 a6 a7 a8 a9 a10 a11 a12 h; exact Eq.mpr (by kernel_rfl) h
  · exact h.elim

def laws_toAnswer : GM
 | [.agg u0], k => un 21 (fun a0 a1 a2 a3 a4 a5 a6 a7 a8 a9 a10 a11 a12 a13 a14 a15 a16 a17 a18 a19 a20 => 
  call laws_toSignedS [.one a0] fun o0 =>
  call laws_toEntry [.agg [a2, a3, a4, a5]] fun o1 =>
  call laws_toProof [.agg [a6, a7]] fun o2 =>
  call laws_toGap [.agg [a8, a9, a10, a11, a12, a13, a14, a15, a16, a17, a18, a19, a20]] fun o3 =>
  rt [.own true 148 17, .sc, .sc, .sc, .sc, .own true 9 1, .sc, .own true 3 1, .sc, .sc, .sc, .sc, .own true 9 1, .sc, .sc, .sc, .own true 9 1, .sc, .own true 3 1, .sc, .own true 3 1] [(atP o0 0), a1, (atP o1 0), (atP o1 1), (atP o1 2), (atP o1 3), (atP o2 0), (atP o2 1), (atP o3 0), (atP o3 1), (atP o3 2), (atP o3 3), (atP o3 4), (atP o3 5), (atP o3 6), (atP o3 7), (atP o3 8), (atP o3 9), (atP o3 10), (atP o3 11), (atP o3 12)] k) u0
 | _, _ => False
abbrev laws_toAnswer_e : Ent := ⟨[47], laws_toAnswer⟩
theorem laws_toAnswer_w : EntOK Try.prog TT laws_toAnswer_e := ent_ok tabok (L := [laws_toSignedS_e, laws_toEntry_e, laws_toProof_e, laws_toGap_e]) ⟨laws_toSignedS_w, laws_toEntry_w, laws_toProof_w, laws_toGap_w, trivial⟩ (keep := []) (l := []) Try.func47 (by kernel_rfl) (sg := [.agg [.own true 148 17, .sc, .sc, .sc, .sc, .own true 9 1, .sc, .own true 3 1, .sc, .sc, .sc, .sc, .own true 9 1, .sc, .sc, .sc, .own true 9 1, .sc, .own true 3 1, .sc, .own true 3 1]]) (by kernel_rfl) trivial fun av k h => by
  unfold laws_toAnswer at h; split at h
  · apply un_all h; clear h; intro a0 a1 a2 a3 a4 a5 a6 a7 a8 a9 a10 a11 a12 a13 a14 a15 a16 a17 a18 a19 a20 h; exact Eq.mpr (by kernel_rfl) h
  · exact h.elim

def laws_toAnswerS_r0 (v : List PV) (K : List PV → Prop) (x0k : PV → PV → PV → PV → Prop) : Prop :=
 un 4 (fun v0 v1 v2 v3 =>
  lenP v0 fun r0 =>
  binP .lss v1 r0 fun r1 =>
  iteP r1
   (elemP 21 v0 v1 fun c2 =>
   call laws_toAnswer [.agg [(atP c2 0), (atP c2 1), (atP c2 2), (atP c2 3), (atP c2 4), (atP c2 5), (atP c2 6), (atP c2 7), (atP c2 8), (atP c2 9), (atP c2 10), (atP c2 11), (atP c2 12), (atP c2 13), (atP c2 14), (atP c2 15), (atP c2 16), (atP c2 17), (atP c2 18), (atP c2 19), (atP c2 20)]] fun o3 =>
   boundP 21 v3 v1 fun n4 =>
   (flatCond [.nil 148 17, .pv (.bool false), .pv (.str ⟨#[]⟩), .pv (I 0), .pv (I 0), .nil 9 1, .pv (I 0), .nil 3 1, .pv (I 0), .pv (.str ⟨#[]⟩), .pv (I 0), .pv (I 0), .nil 9 1, .pv (.str ⟨#[]⟩), .pv (I 0), .pv (I 0), .nil 9 1, .pv (I 0), .nil 3 1, .pv (I 0), .nil 3 1] [.own 2, .pv (atP o3 1), .pv (atP o3 2), .pv (atP o3 3), .pv (atP o3 4), .own 7, .pv (atP o3 6), .own 9, .pv (atP o3 8), .pv (atP o3 9), .pv (atP o3 10), .pv (atP o3 11), .own 14, .pv (atP o3 13), .pv (atP o3 14), .pv (atP o3 15), .own 18, .pv (atP o3 17), .own 20, .pv (atP o3 19), .own 22]) ∧ setP v3 n4 0 [(atP o3 0), (atP o3 1), (atP o3 2), (atP o3 3), (atP o3 4), (atP o3 5), (atP o3 6), (atP o3 7), (atP o3 8), (atP o3 9), (atP o3 10), (atP o3 11), (atP o3 12), (atP o3 13), (atP o3 14), (atP o3 15), (atP o3 16), (atP o3 17), (atP o3 18), (atP o3 19), (atP o3 20)] fun r5 =>
   binP .add v1 (I 1) fun r6 =>
   K [v0, r6, v2, r5])
   (x0k v0 v1 v2 v3)) v
def laws_toAnswerS : GM
 | [.one a0], k => 
  lenP a0 fun r0 =>
  (r0 = r0) ∧ (21 = 21) ∧ makeP 21 r0 [(.list 17 []), (.bool false), (.str ⟨#[]⟩), (I 0), (I 0), (.list 1 []), (I 0), (.list 1 []), (I 0), (.str ⟨#[]⟩), (I 0), (I 0), (.list 1 []), (.str ⟨#[]⟩), (I 0), (I 0), (.list 1 []), (I 0), (.list 1 []), (I 0), (.list 1 [])] fun r1 =>
  lp (fun L w => laws_toAnswerS_r0 w L
   (fun q7 q8 q9 q10 => rt [.own true 45 21] [q10] k)) [a0, (I 0), (.list 21 []), r1]
 | _, _ => False
abbrev laws_toAnswerS_e : Ent := ⟨[18], laws_toAnswerS⟩
def laws_toAnswerS_l : List LE := [⟨0, ⟨[(0, .one (.pv (.bool false))), (2, .one (.own 1)), (3, .one (.own 0)), (4, .one (.pv (.bool false)))], [], [(1, ⟨.deep, 45, 21, (.bool false)⟩), (0, ⟨.deep, 45, 21, (.bool false)⟩)], 2, 23⟩, fun K k v => laws_toAnswerS_r0 v K (fun x0 x1 x2 x3 => k (.exit 0) ⟨[(0, .one (.pv x0)), (2, .one (.own 1)), (3, .one (.own 0)), (4, .one (.pv x1))], [], [(1, ⟨.deep, 45, 21, x2⟩), (0, ⟨.deep, 45, 21, x3⟩)], 2, 23⟩)⟩]
theorem laws_toAnswerS_s : LEsOK (orac [laws_toAnswer_e]) TT (kk [0, 2, 3, 4]) (sumsOf laws_toAnswerS_l) Try.f18 laws_toAnswerS_l := ⟨fun v K k h => by
  apply un_all h; exact fun v0 v1 v2 v3 h => Eq.mpr (by kernel_rfl) h
  , trivial⟩
theorem laws_toAnswerS_w : EntOK Try.prog TT laws_toAnswerS_e := ent_ok tabok (L := [laws_toAnswer_e]) ⟨laws_toAnswer_w, trivial⟩ (keep := (kk [0, 2, 3, 4])) (l := laws_toAnswerS_l) Try.func18 (by kernel_rfl) (sg := [.one (.own true 45 21)]) (by kernel_rfl) laws_toAnswerS_s fun av k h => by
  unfold laws_toAnswerS at h; split at h
  · exact Eq.mpr (by kernel_rfl) h
  · exact h.elim

def spec_l6Copy : GM
 | [.agg u0], k => un 2 (fun a0 a1 => 
  catP 1 a0 (.list 1 []) fun r0 =>
  rt [.pv, .sc] [r0, a1] k) u0
 | _, _ => False
abbrev spec_l6Copy_e : Ent := ⟨[161], spec_l6Copy⟩
theorem spec_l6Copy_w : EntOK Try.prog TT spec_l6Copy_e := ent_ok tabok (L := []) trivial (keep := []) (l := []) Try.func161 (by kernel_rfl) (sg := [.agg [.pv, .sc]]) (by kernel_rfl) trivial fun av k h => by
  unfold spec_l6Copy at h; split at h
  · apply un_all h; clear h; intro a0 a1 h; exact Eq.mpr (by kernel_rfl) h
  · exact h.elim

def spec_l13Copy : GM
 | [.agg u0], k => un 16 (fun a0 a1 a2 a3 a4 a5 a6 a7 a8 a9 a10 a11 a12 a13 a14 a15 => 
  call spec_l6Copy [.agg [a8, a9]] fun o0 =>
  call spec_l6Copy [.agg [a10, a11]] fun o1 =>
  call spec_l6Copy [.agg [a13, a14]] fun o2 =>
  rt [.sc, .sc, .sc, .sc, .sc, .sc, .sc, .sc, .pv, .sc, .pv, .sc, .sc, .pv, .sc, .sc] [a0, a1, a2, a3, a4, a5, a6, a7, (atP o0 0), (atP o0 1), (atP o1 0), (atP o1 1), a12, (atP o2 0), (atP o2 1), a15] k) u0
 | _, _ => False
abbrev spec_l13Copy_e : Ent := ⟨[153], spec_l13Copy⟩
theorem spec_l13Copy_w : EntOK Try.prog TT spec_l13Copy_e := ent_ok tabok (L := [spec_l6Copy_e]) ⟨spec_l6Copy_w, trivial⟩ (keep := []) (l := []) Try.func153 (by kernel_rfl) (sg := [.agg [.sc, .sc, .sc, .sc, .sc, .sc, .sc, .sc, .pv, .sc, .pv, .sc, .sc, .pv, .sc, .sc]]) (by kernel_rfl) trivial fun av k h => by
  unfold spec_l13Copy at h; split at h
  · apply un_all h; clear h; intro a0 a1 a2 a3 a4 a5 a6 a7 a8 a9 a10 a11 a12 a13 a14 a15 h; exact Eq.mpr (by kernel_rfl) h
  · exact h.elim

def spec_l14Copy : GM
 | [.agg u0], k => un 17 (fun a0 a1 a2 a3 a4 a5 a6 a7 a8 a9 a10 a11 a12 a13 a14 a15 a16 => 
  call spec_l13Copy [.agg [a0, a1, a2, a3, a4, a5, a6, a7, a8, a9, a10, a11, a12, a13, a14, a15]] fun o0 =>
  catP 2 a16 (.list 2 []) fun r1 =>
  rt [.sc, .sc, .sc, .sc, .sc, .sc, .sc, .sc, .pv, .sc, .pv, .sc, .sc, .pv, .sc, .sc, .pv] [(atP o0 0), (atP o0 1), (atP o0 2), (atP o0 3), (atP o0 4), (atP o0 5), (atP o0 6), (atP o0 7), (atP o0 8), (atP o0 9), (atP o0 10), (atP o0 11), (atP o0 12), (atP o0 13), (atP o0 14), (atP o0 15), r1] k) u0
 | _, _ => False
abbrev spec_l14Copy_e : Ent := ⟨[139], spec_l14Copy⟩
theorem spec_l14Copy_w : EntOK Try.prog TT spec_l14Copy_e := ent_ok tabok (L := [spec_l13Copy_e]) ⟨spec_l13Copy_w, trivial⟩ (keep := []) (l := []) Try.func139 (by kernel_rfl) (sg := [.agg [.sc, .sc, .sc, .sc, .sc, .sc, .sc, .sc, .pv, .sc, .pv, .sc, .sc, .pv, .sc, .sc, .pv]]) (by kernel_rfl) trivial fun av k h => by
  unfold spec_l14Copy at h; split at h
  · apply un_all h; clear h; intro a0 a1 a2 a3 a4 a5 a6 a7 a8 a9 a10 a11 a12 a13 a14 a15 a16 h; exact Eq.mpr (by kernel_rfl) h
  · exact h.elim

def spec_l16Copy_r0 (v : List PV) (K : List PV → Prop) (x0k : PV → PV → PV → PV → Prop) : Prop :=
 un 4 (fun v0 v1 v2 v3 =>
  lenP v0 fun r0 =>
  binP .lss v1 r0 fun r1 =>
  iteP r1
   (elemP 17 v0 v1 fun c2 =>
   call spec_l14Copy [.agg [(atP c2 0), (atP c2 1), (atP c2 2), (atP c2 3), (atP c2 4), (atP c2 5), (atP c2 6), (atP c2 7), (atP c2 8), (atP c2 9), (atP c2 10), (atP c2 11), (atP c2 12), (atP c2 13), (atP c2 14), (atP c2 15), (atP c2 16)]] fun o3 =>
   (1 = 1) ∧ (17 ≤ 16777216) ∧ (17 = 17) ∧ (0 = 0) ∧ (17 = 17) ∧ catP 17 v3 (.list 17 [[(atP o3 0), (atP o3 1), (atP o3 2), (atP o3 3), (atP o3 4), (atP o3 5), (atP o3 6), (atP o3 7), (atP o3 8), (atP o3 9), (atP o3 10), (atP o3 11), (atP o3 12), (atP o3 13), (atP o3 14), (atP o3 15), (atP o3 16)]]) fun r4 =>
   binP .add v1 (I 1) fun r5 =>
   K [v0, r5, v2, r4])
   (x0k v0 v1 v2 v3)) v
def spec_l16Copy : GM
 | [.one a0], k => 
  (0 = 0) ∧ (0 ≤ 16777216) ∧ (17 = 17) ∧ lp (fun L w => spec_l16Copy_r0 w L
   (fun q6 q7 q8 q9 => rt [.pv] [q9] k)) [a0, (I 0), (.list 17 []), (.list 17 [])]
 | _, _ => False
abbrev spec_l16Copy_e : Ent := ⟨[101], spec_l16Copy⟩
def spec_l16Copy_l : List LE := [⟨0, ⟨[(0, .one (.pv (.bool false))), (2, .one (.own 1)), (3, .one (.own 0)), (4, .one (.pv (.bool false)))], [], [(1, ⟨.deep, 148, 17, (.bool false)⟩), (0, ⟨.flat, 148, 17, (.bool false)⟩)], 2, 21⟩, fun K k v => spec_l16Copy_r0 v K (fun x0 x1 x2 x3 => k (.exit 0) ⟨[(0, .one (.pv x0)), (2, .one (.own 1)), (3, .one (.own 0)), (4, .one (.pv x1))], [], [(1, ⟨.deep, 148, 17, x2⟩), (0, ⟨.flat, 148, 17, x3⟩)], 2, 21⟩)⟩]
theorem spec_l16Copy_s : LEsOK (orac [spec_l14Copy_e]) TT (kk [0, 2, 3, 4]) (sumsOf spec_l16Copy_l) Try.f101 spec_l16Copy_l := ⟨fun v K k h => by
  apply un_all h; exact fun v0 v1 v2 v3 h => Eq.mpr (by kernel_rfl) h
  , trivial⟩
theorem spec_l16Copy_w : EntOK Try.prog TT spec_l16Copy_e := ent_ok tabok (L := [spec_l14Copy_e]) ⟨spec_l14Copy_w, trivial⟩ (keep := (kk [0, 2, 3, 4])) (l := spec_l16Copy_l) Try.func101 (by kernel_rfl) (sg := [.one (.pv)]) (by kernel_rfl) spec_l16Copy_s fun av k h => by
  unfold spec_l16Copy at h; split at h
  · exact Eq.mpr (by kernel_rfl) h
  · exact h.elim

def spec_l5Copy : GM
 | [.one a0], k => 
  (0 = 0) ∧ (0 ≤ 16777216) ∧ (1 = 1) ∧ (flatRows a0) ∧ catP 1 (.list 1 []) a0 fun r0 =>
  rt [.pv] [r0] k
 | _, _ => False
abbrev spec_l5Copy_e : Ent := ⟨[140], spec_l5Copy⟩
theorem spec_l5Copy_w : EntOK Try.prog TT spec_l5Copy_e := ent_ok tabok (L := []) trivial (keep := []) (l := []) Try.func140 (by kernel_rfl) (sg := [.one (.pv)]) (by kernel_rfl) trivial fun av k h => by
  unfold spec_l5Copy at h; split at h
  · exact Eq.mpr (by kernel_rfl) h
  · exact h.elim

def spec_l8Copy : GM
 | [.agg u0], k => un 4 (fun a0 a1 a2 a3 => 
  call spec_l5Copy [.one a3] fun o0 =>
  rt [.sc, .sc, .sc, .pv] [a0, a1, a2, (atP o0 0)] k) u0
 | _, _ => False
abbrev spec_l8Copy_e : Ent := ⟨[102], spec_l8Copy⟩
theorem spec_l8Copy_w : EntOK Try.prog TT spec_l8Copy_e := ent_ok tabok (L := [spec_l5Copy_e]) ⟨spec_l5Copy_w, trivial⟩ (keep := []) (l := []) Try.func102 (by kernel_rfl) (sg := [.agg [.sc, .sc, .sc, .pv]]) (by kernel_rfl) trivial fun av k h => by
  unfold spec_l8Copy at h; split at h
  · apply un_all h; clear h; intro a0 a1 a2 a3 h; exact Eq.mpr (by kernel_rfl) h
  · exact h.elim

def spec_l11Copy : GM
 | [.agg u0], k => un 2 (fun a0 a1 => 
  catP 1 a1 (.list 1 []) fun r0 =>
  rt [.sc, .pv] [a0, r0] k) u0
 | _, _ => False
abbrev spec_l11Copy_e : Ent := ⟨[103], spec_l11Copy⟩
theorem spec_l11Copy_w : EntOK Try.prog TT spec_l11Copy_e := ent_ok tabok (L := []) trivial (keep := []) (l := []) Try.func103 (by kernel_rfl) (sg := [.agg [.sc, .pv]]) (by kernel_rfl) trivial fun av k h => by
  unfold spec_l11Copy at h; split at h
  · apply un_all h; clear h; intro a0 a1 h; exact Eq.mpr (by kernel_rfl) h
  · exact h.elim

def spec_l12Copy : GM
 | [.agg u0], k => un 13 (fun a0 a1 a2 a3 a4 a5 a6 a7 a8 a9 a10 a11 a12 => 
  call spec_l8Copy [.agg [a1, a2, a3, a4]] fun o0 =>
  call spec_l8Copy [.agg [a5, a6, a7, a8]] fun o1 =>
  call spec_l11Copy [.agg [a9, a10]] fun o2 =>
  call spec_l11Copy [.agg [a11, a12]] fun o3 =>
  rt [.sc, .sc, .sc, .sc, .pv, .sc, .sc, .sc, .pv, .sc, .pv, .sc, .pv] [a0, (atP o0 0), (atP o0 1), (atP o0 2), (atP o0 3), (atP o1 0), (atP o1 1), (atP o1 2), (atP o1 3), (atP o2 0), (atP o2 1), (atP o3 0), (atP o3 1)] k) u0
 | _, _ => False
abbrev spec_l12Copy_e : Ent := ⟨[104], spec_l12Copy⟩
theorem spec_l12Copy_w : EntOK Try.prog TT spec_l12Copy_e := ent_ok tabok (L := [spec_l8Copy_e, spec_l11Copy_e]) ⟨spec_l8Copy_w, spec_l11Copy_w, trivial⟩ (keep := []) (l := []) Try.func104 (by kernel_rfl) (sg := [.agg [.sc, .sc, .sc, .sc, .pv, .sc, .sc, .sc, .pv, .sc, .pv, .sc, .pv]]) (by kernel_rfl) trivial fun av k h => by
  unfold spec_l12Copy at h; split at h
  · apply un_all h; clear h; intro a0 a1 a2 a3 a4 a5 a6 a7 a8 a9 a10 a11 a12 h; exact Eq.mpr (by kernel_rfl) h
  · exact h.elim

def spec_l21Copy : GM
 | [.agg u0], k => un 21 (fun a0 a1 a2 a3 a4 a5 a6 a7 a8 a9 a10 a11 a12 a13 a14 a15 a16 a17 a18 a19 a20 => 
  call spec_l16Copy [.one a0] fun o0 =>
  call spec_l8Copy [.agg [a2, a3, a4, a5]] fun o1 =>
  call spec_l11Copy [.agg [a6, a7]] fun o2 =>
  call spec_l12Copy [.agg [a8, a9, a10, a11, a12, a13, a14, a15, a16, a17, a18, a19, a20]] fun o3 =>
  rt [.pv, .sc, .sc, .sc, .sc, .pv, .sc, .pv, .sc, .sc, .sc, .sc, .pv, .sc, .sc, .sc, .pv, .sc, .pv, .sc, .pv] [(atP o0 0), a1, (atP o1 0), (atP o1 1), (atP o1 2), (atP o1 3), (atP o2 0), (atP o2 1), (atP o3 0), (atP o3 1), (atP o3 2), (atP o3 3), (atP o3 4), (atP o3 5), (atP o3 6), (atP o3 7), (atP o3 8), (atP o3 9), (atP o3 10), (atP o3 11), (atP o3 12)] k) u0
 | _, _ => False
abbrev spec_l21Copy_e : Ent := ⟨[46], spec_l21Copy⟩
theorem spec_l21Copy_w : EntOK Try.prog TT spec_l21Copy_e := ent_ok tabok (L := [spec_l16Copy_e, spec_l8Copy_e, spec_l11Copy_e, spec_l12Copy_e]) ⟨spec_l16Copy_w, spec_l8Copy_w, spec_l11Copy_w, spec_l12Copy_w, trivial⟩ (keep := []) (l := []) Try.func46 (by kernel_rfl) (sg := [.agg [.pv, .sc, .sc, .sc, .sc, .pv, .sc, .pv, .sc, .sc, .sc, .sc, .pv, .sc, .sc, .sc, .pv, .sc, .pv, .sc, .pv]]) (by kernel_rfl) trivial fun av k h => by
  unfold spec_l21Copy at h; split at h
  · apply un_all h; clear h; intro a0 a1 a2 a3 a4 a5 a6 a7 a8 a9 a10 a11 a12 a13 a14 a15 a16 a17 a18 a19 a20 h; exact Eq.mpr (by kernel_rfl) h
  · exact h.elim

def spec_PickAnswer_r0 (v : List PV) (K : List PV → Prop) (x0k : PV → PV → PV → PV → PV → PV → PV → PV → PV → PV → PV → PV → PV → PV → PV → PV → PV → PV → PV → PV → PV → PV → PV → PV → PV → PV → PV → PV → PV → PV → PV → PV → PV → PV → PV → PV → PV → PV → PV → PV → PV → PV → Prop) (x1k : PV → PV → PV → PV → PV → PV → PV → PV → PV → PV → PV → PV → PV → PV → PV → PV → PV → PV → PV → PV → PV → PV → PV → PV → PV → Prop) : Prop :=
 un 25 (fun v0 v1 v2 v3 v4 v5 v6 v7 v8 v9 v10 v11 v12 v13 v14 v15 v16 v17 v18 v19 v20 v21 v22 v23 v24 =>
  lenP v0 fun r0 =>
  binP .lss v3 r0 fun r1 =>
  iteP r1
   (elemP 21 v0 v3 fun c2 =>
   iteP (atP c2 1)
    (elemP 21 v0 v3 fun c3 =>
    binP .eql (atP c3 2) v1 fun r4 =>
    iteP r4
     (elemP 21 v0 v3 fun c5 =>
     call spec_l21Copy [.agg [(atP c5 0), (atP c5 1), (atP c5 2), (atP c5 3), (atP c5 4), (atP c5 5), (atP c5 6), (atP c5 7), (atP c5 8), (atP c5 9), (atP c5 10), (atP c5 11), (atP c5 12), (atP c5 13), (atP c5 14), (atP c5 15), (atP c5 16), (atP c5 17), (atP c5 18), (atP c5 19), (atP c5 20)]] fun o6 =>
     x0k (atP o6 0) (atP o6 1) (atP o6 2) (atP o6 3) (atP o6 4) (atP o6 5) (atP o6 6) (atP o6 7) (atP o6 8) (atP o6 9) (atP o6 10) (atP o6 11) (atP o6 12) (atP o6 13) (atP o6 14) (atP o6 15) (atP o6 16) (atP o6 17) (atP o6 18) (atP o6 19) (atP o6 20) v4 v5 v6 v7 v8 v9 v10 v11 v12 v13 v14 v15 v16 v17 v18 v19 v20 v21 v22 v23 v24)
     (binP .add v3 (I 1) fun r7 =>
     K [v0, v1, v2, r7, v4, v5, v6, v7, v8, v9, v10, v11, v12, v13, v14, v15, v16, v17, v18, v19, v20, v21, v22, v23, v24]))
    (binP .add v3 (I 1) fun r8 =>
    K [v0, v1, v2, r8, v4, v5, v6, v7, v8, v9, v10, v11, v12, v13, v14, v15, v16, v17, v18, v19, v20, v21, v22, v23, v24]))
   (x1k v0 v1 v2 v3 v4 v5 v6 v7 v8 v9 v10 v11 v12 v13 v14 v15 v16 v17 v18 v19 v20 v21 v22 v23 v24)) v
def spec_PickAnswer : GM
 | [.one a0, .one a1], k => 
  lp (fun L w => spec_PickAnswer_r0 w L
   (fun q9 q10 q11 q12 q13 q14 q15 q16 q17 q18 q19 q20 q21 q22 q23 q24 q25 q26 q27 q28 q29 q30 q31 q32 q33 q34 q35 q36 q37 q38 q39 q40 q41 q42 q43 q44 q45 q46 q47 q48 q49 q50 => rt [.pv, .sc, .sc, .sc, .sc, .pv, .sc, .pv, .sc, .sc, .sc, .sc, .pv, .sc, .sc, .sc, .pv, .sc, .pv, .sc, .pv, .sc] [q9, q10, q11, q12, q13, q14, q15, q16, q17, q18, q19, q20, q21, q22, q23, q24, q25, q26, q27, q28, q29, (.bool true)] k)
   (fun q51 q52 q53 q54 q55 q56 q57 q58 q59 q60 q61 q62 q63 q64 q65 q66 q67 q68 q69 q70 q71 q72 q73 q74 q75 => rt [.pv, .sc, .sc, .sc, .sc, .pv, .sc, .pv, .sc, .sc, .sc, .sc, .pv, .sc, .sc, .sc, .pv, .sc, .pv, .sc, .pv, .sc] [(.list 17 []), (.bool false), (.str ⟨#[]⟩), (I 0), (I 0), (.list 1 []), (I 0), (.list 1 []), (I 0), (.str ⟨#[]⟩), (I 0), (I 0), (.list 1 []), (.str ⟨#[]⟩), (I 0), (I 0), (.list 1 []), (I 0), (.list 1 []), (I 0), (.list 1 []), (.bool false)] k)) [a0, a1, (.bool false), (I 0), (.bool false), (.str ⟨#[]⟩), (I 0), (I 0), (I 0), (I 0), (.str ⟨#[]⟩), (I 0), (I 0), (.str ⟨#[]⟩), (I 0), (I 0), (I 0), (I 0), (.list 1 []), (.list 1 []), (.list 1 []), (.list 1 []), (.list 1 []), (.list 1 []), (.list 17 [])]
 | _, _ => False
abbrev spec_PickAnswer_e : Ent := ⟨[17], spec_PickAnswer⟩
def spec_PickAnswer_l : List LE := [⟨0, ⟨[(0, .one (.pv (.bool false))), (1, .one (.pv (.bool false))), (4, .one (.ptr 0 0)), (5, .one (.pv (.bool false))), (6, .one (.pv (.bool false)))], [(0, [.own 1, .pv (.bool false), .pv (.bool false), .pv (.bool false), .pv (.bool false), .own 2, .pv (.bool false), .own 3, .pv (.bool false), .pv (.bool false), .pv (.bool false), .pv (.bool false), .own 4, .pv (.bool false), .pv (.bool false), .pv (.bool false), .own 5, .pv (.bool false), .own 6, .pv (.bool false), .own 7])], [(7, ⟨.deep, 3, 1, (.bool false)⟩), (6, ⟨.deep, 3, 1, (.bool false)⟩), (5, ⟨.deep, 9, 1, (.bool false)⟩), (4, ⟨.deep, 9, 1, (.bool false)⟩), (3, ⟨.deep, 3, 1, (.bool false)⟩), (2, ⟨.deep, 9, 1, (.bool false)⟩), (1, ⟨.deep, 148, 17, (.bool false)⟩)], 8, 34⟩, fun K k v => spec_PickAnswer_r0 v K (fun x0 x1 x2 x3 x4 x5 x6 x7 x8 x9 x10 x11 x12 x13 x14 x15 x16 x17 x18 x19 x20 x21 x22 x23 x24 x25 x26 x27 x28 x29 x30 x31 x32 x33 x34 x35 x36 x37 x38 x39 x40 x41 => k .ret ⟨[(4, .one (.ptr 0 0)), (5, .one (.kb true))], [(0, [.pv x0, .pv x1, .pv x2, .pv x3, .pv x4, .pv x5, .pv x6, .pv x7, .pv x8, .pv x9, .pv x10, .pv x11, .pv x12, .pv x13, .pv x14, .pv x15, .pv x16, .pv x17, .pv x18, .pv x19, .pv x20]), (0, [.own 1, .pv x21, .pv x22, .pv x23, .pv x24, .own 2, .pv x25, .own 3, .pv x26, .pv x27, .pv x28, .pv x29, .own 4, .pv x30, .pv x31, .pv x32, .own 5, .pv x33, .own 6, .pv x34, .own 7])], [(7, ⟨.deep, 3, 1, x35⟩), (6, ⟨.deep, 3, 1, x36⟩), (5, ⟨.deep, 9, 1, x37⟩), (4, ⟨.deep, 9, 1, x38⟩), (3, ⟨.deep, 3, 1, x39⟩), (2, ⟨.deep, 9, 1, x40⟩), (1, ⟨.deep, 148, 17, x41⟩)], 29, 34⟩) (fun x0 x1 x2 x3 x4 x5 x6 x7 x8 x9 x10 x11 x12 x13 x14 x15 x16 x17 x18 x19 x20 x21 x22 x23 x24 => k (.exit 0) ⟨[(0, .one (.pv x0)), (1, .one (.pv x1)), (4, .one (.ptr 0 0)), (5, .one (.pv x2)), (6, .one (.pv x3))], [(0, [.own 1, .pv x4, .pv x5, .pv x6, .pv x7, .own 2, .pv x8, .own 3, .pv x9, .pv x10, .pv x11, .pv x12, .own 4, .pv x13, .pv x14, .pv x15, .own 5, .pv x16, .own 6, .pv x17, .own 7])], [(7, ⟨.deep, 3, 1, x18⟩), (6, ⟨.deep, 3, 1, x19⟩), (5, ⟨.deep, 9, 1, x20⟩), (4, ⟨.deep, 9, 1, x21⟩), (3, ⟨.deep, 3, 1, x22⟩), (2, ⟨.deep, 9, 1, x23⟩), (1, ⟨.deep, 148, 17, x24⟩)], 8, 34⟩)⟩]
theorem spec_PickAnswer_s : LEsOK (orac [spec_l21Copy_e]) TT (kk [0, 1, 4, 5, 6, 19, 20, 21, 22, 23, 24, 25, 26]) (sumsOf spec_PickAnswer_l) Try.f17 spec_PickAnswer_l := ⟨fun v K k h => by
  apply un_all h; exact fun v0 v1 v2 v3 v4 v5 v6 v7 v8 v9 v10 v11 v12 v13 v14 v15 v16 v17 v18 v19 v20 v21 v22 v23 v24 h => Eq.mpr (by kernel_rfl) h
  , trivial⟩
theorem spec_PickAnswer_w : EntOK Try.prog TT spec_PickAnswer_e := ent_ok tabok (L := [spec_l21Copy_e]) ⟨spec_l21Copy_w, trivial⟩ (keep := (kk [0, 1, 4, 5, 6, 19, 20, 21, 22, 23, 24, 25, 26])) (l := spec_PickAnswer_l) Try.func17 (by kernel_rfl) (sg := [.agg [.pv, .sc, .sc, .sc, .sc, .pv, .sc, .pv, .sc, .sc, .sc, .sc, .pv, .sc, .sc, .sc, .pv, .sc, .pv, .sc, .pv], .one (.sc)]) (by kernel_rfl) spec_PickAnswer_s fun av k h => by
  unfold spec_PickAnswer at h; split at h
  · exact Eq.mpr (by kernel_rfl) h
  · exact h.elim

def slices_Clone_int : GM
 | [.one a0], k => 
  nilP false a0 fun r0 =>
  iteP r0
   (rt [.own true 3 1] [(.list 1 [])] k)
   ((0 = 0) ∧ (0 ≤ 16777216) ∧ (1 = 1) ∧ (flatRows a0) ∧ catP 1 (.list 1 []) a0 fun r1 =>
   rt [.own true 3 1] [r1] k)
 | _, _ => False
abbrev slices_Clone_int_e : Ent := ⟨[83], slices_Clone_int⟩
theorem slices_Clone_int_w : EntOK Try.prog TT slices_Clone_int_e := ent_ok tabok (L := []) trivial (keep := []) (l := []) Try.func83 (by kernel_rfl) (sg := [.one (.own true 3 1)]) (by kernel_rfl) trivial fun av k h => by
  unfold slices_Clone_int at h; split at h
  · exact Eq.mpr (by kernel_rfl) h
  · exact h.elim

def impl_copyKeys : GM
 | [.agg u0], k => un 2 (fun a0 a1 => 
  call slices_Clone_int [.one a0] fun o0 =>
  rt [.own true 3 1, .sc] [(atP o0 0), a1] k) u0
 | _, _ => False
abbrev impl_copyKeys_e : Ent := ⟨[164], impl_copyKeys⟩
theorem impl_copyKeys_w : EntOK Try.prog TT impl_copyKeys_e := ent_okF tabok (L := [slices_Clone_int_e]) ⟨slices_Clone_int_w, trivial⟩ (keep := []) (l := []) Try.func164 (by kernel_rfl) (sg := [.agg [.own true 3 1, .sc]]) (by kernel_rfl) trivial fun av k h => by
  unfold impl_copyKeys at h; split at h
  · apply un_all h; clear h; intro a0 a1 h; exact Eq.mpr (by kernel_rfl) h
  · exact h.elim

def impl_copyHead : GM
 | [.agg u0], k => un 16 (fun a0 a1 a2 a3 a4 a5 a6 a7 a8 a9 a10 a11 a12 a13 a14 a15 => 
  call impl_copyKeys [.agg [a8, a9]] fun o0 =>
  call impl_copyKeys [.agg [a10, a11]] fun o1 =>
  call impl_copyKeys [.agg [a13, a14]] fun o2 =>
  rt [.sc, .sc, .sc, .sc, .sc, .sc, .sc, .sc, .own true 3 1, .sc, .own true 3 1, .sc, .sc, .own true 3 1, .sc, .sc] [a0, a1, a2, a3, a4, a5, a6, a7, (atP o0 0), (atP o0 1), (atP o1 0), (atP o1 1), a12, (atP o2 0), (atP o2 1), a15] k) u0
 | _, _ => False
abbrev impl_copyHead_e : Ent := ⟨[156], impl_copyHead⟩
theorem impl_copyHead_w : EntOK Try.prog TT impl_copyHead_e := ent_okF tabok (L := [impl_copyKeys_e]) ⟨impl_copyKeys_w, trivial⟩ (keep := []) (l := []) Try.func156 (by kernel_rfl) (sg := [.agg [.sc, .sc, .sc, .sc, .sc, .sc, .sc, .sc, .own true 3 1, .sc, .own true 3 1, .sc, .sc, .own true 3 1, .sc, .sc]]) (by kernel_rfl) trivial fun av k h => by
  unfold impl_copyHead at h; split at h
  · apply un_all h; clear h; intro a0 a1 a2 a3 a4 a5 a6 a7 a8 a9 a10 a11 a12 a13 a14 a15 h; exact Eq.mpr (by kernel_rfl) h
  · exact h.elim

def slices_Clone_Sig : GM
 | [.one a0], k => 
  nilP false a0 fun r0 =>
  iteP r0
   (rt [.own true 182 2] [(.list 2 [])] k)
   ((0 = 0) ∧ (0 ≤ 16777216) ∧ (2 = 2) ∧ (flatRows a0) ∧ catP 2 (.list 2 []) a0 fun r1 =>
   rt [.own true 182 2] [r1] k)
 | _, _ => False
abbrev slices_Clone_Sig_e : Ent := ⟨[157], slices_Clone_Sig⟩
theorem slices_Clone_Sig_w : EntOK Try.prog TT slices_Clone_Sig_e := ent_ok tabok (L := []) trivial (keep := []) (l := []) Try.func157 (by kernel_rfl) (sg := [.one (.own true 182 2)]) (by kernel_rfl) trivial fun av k h => by
  unfold slices_Clone_Sig at h; split at h
  · exact Eq.mpr (by kernel_rfl) h
  · exact h.elim

def impl_copySigned : GM
 | [.agg u0], k => un 17 (fun a0 a1 a2 a3 a4 a5 a6 a7 a8 a9 a10 a11 a12 a13 a14 a15 a16 => 
  call impl_copyHead [.agg [a0, a1, a2, a3, a4, a5, a6, a7, a8, a9, a10, a11, a12, a13, a14, a15]] fun o0 =>
  call slices_Clone_Sig [.one a16] fun o1 =>
  rt [.sc, .sc, .sc, .sc, .sc, .sc, .sc, .sc, .own true 3 1, .sc, .own true 3 1, .sc, .sc, .own true 3 1, .sc, .sc, .own true 182 2] [(atP o0 0), (atP o0 1), (atP o0 2), (atP o0 3), (atP o0 4), (atP o0 5), (atP o0 6), (atP o0 7), (atP o0 8), (atP o0 9), (atP o0 10), (atP o0 11), (atP o0 12), (atP o0 13), (atP o0 14), (atP o0 15), (atP o1 0)] k) u0
 | _, _ => False
abbrev impl_copySigned_e : Ent := ⟨[143], impl_copySigned⟩
theorem impl_copySigned_w : EntOK Try.prog TT impl_copySigned_e := ent_okF tabok (L := [impl_copyHead_e, slices_Clone_Sig_e]) ⟨impl_copyHead_w, slices_Clone_Sig_w, trivial⟩ (keep := []) (l := []) Try.func143 (by kernel_rfl) (sg := [.agg [.sc, .sc, .sc, .sc, .sc, .sc, .sc, .sc, .own true 3 1, .sc, .own true 3 1, .sc, .sc, .own true 3 1, .sc, .sc, .own true 182 2]]) (by kernel_rfl) trivial fun av k h => by
  unfold impl_copySigned at h; split at h
  · apply un_all h; clear h; intro a0 a1 a2 a3 a4 a5 a6 a7 a8 a9 a10 a11 a12 a13 a14 a15 a16 h; exact Eq.mpr (by kernel_rfl) h
  · exact h.elim

def impl_copyChain_r0 (v : List PV) (K : List PV → Prop) (x0k : PV → PV → PV → PV → PV → Prop) : Prop :=
 un 5 (fun v0 v1 v2 v3 v4 =>
  binP .lss v2 v1 fun r0 =>
  iteP r0
   (elemP 17 v0 v2 fun c1 =>
   call impl_copySigned [.agg [(atP c1 0), (atP c1 1), (atP c1 2), (atP c1 3), (atP c1 4), (atP c1 5), (atP c1 6), (atP c1 7), (atP c1 8), (atP c1 9), (atP c1 10), (atP c1 11), (atP c1 12), (atP c1 13), (atP c1 14), (atP c1 15), (atP c1 16)]] fun o2 =>
   (1 = 1) ∧ (17 ≤ 16777216) ∧ (17 = 17) ∧ (0 = 0) ∧ (17 = 17) ∧ (flatCond [.pv (I 0), .pv (I 0), .pv (I 0), .pv (I 0), .pv (I 0), .pv (I 0), .pv (I 0), .pv (I 0), .nil 3 1, .pv (I 0), .nil 3 1, .pv (I 0), .pv (I 0), .nil 3 1, .pv (I 0), .pv (.bool false), .nil 182 2] [.pv (atP o2 0), .pv (atP o2 1), .pv (atP o2 2), .pv (atP o2 3), .pv (atP o2 4), .pv (atP o2 5), .pv (atP o2 6), .pv (atP o2 7), .own 11, .pv (atP o2 9), .own 13, .pv (atP o2 11), .pv (atP o2 12), .own 16, .pv (atP o2 14), .pv (atP o2 15), .own 19]) ∧ catP 17 v4 (.list 17 [[(atP o2 0), (atP o2 1), (atP o2 2), (atP o2 3), (atP o2 4), (atP o2 5), (atP o2 6), (atP o2 7), (atP o2 8), (atP o2 9), (atP o2 10), (atP o2 11), (atP o2 12), (atP o2 13), (atP o2 14), (atP o2 15), (atP o2 16)]]) fun r3 =>
   binP .add v2 (I 1) fun r4 =>
   K [v0, v1, r4, v3, r3])
   (x0k v0 v1 v2 v3 v4)) v
def impl_copyChain : GM
 | [.one a0], k => 
  (0 = 0) ∧ (0 ≤ 16777216) ∧ (17 = 17) ∧ lenP a0 fun r0 =>
  lp (fun L w => impl_copyChain_r0 w L
   (fun q5 q6 q7 q8 q9 => rt [.own true 148 17] [q9] k)) [a0, r0, (I 0), (.list 17 []), (.list 17 [])]
 | _, _ => False
abbrev impl_copyChain_e : Ent := ⟨[109], impl_copyChain⟩
def impl_copyChain_l : List LE := [⟨0, ⟨[(2, .one (.own 1)), (3, .one (.own 0)), (7, .one (.pv (.bool false))), (8, .one (.pv (.bool false))), (9, .one (.pv (.bool false)))], [], [(1, ⟨.deep, 148, 17, (.bool false)⟩), (0, ⟨.deep, 148, 17, (.bool false)⟩)], 2, 20⟩, fun K k v => impl_copyChain_r0 v K (fun x0 x1 x2 x3 x4 => k (.exit 0) ⟨[(2, .one (.own 1)), (3, .one (.own 0)), (7, .one (.pv x0)), (8, .one (.pv x1)), (9, .one (.pv x2))], [], [(1, ⟨.deep, 148, 17, x3⟩), (0, ⟨.deep, 148, 17, x4⟩)], 2, 20⟩)⟩]
theorem impl_copyChain_s : LEsOK (orac [impl_copySigned_e]) TT.nofl (kk [2, 3, 7, 8, 9]) (sumsOf impl_copyChain_l) Try.f109 impl_copyChain_l := ⟨fun v K k h => by
  apply un_all h; exact fun v0 v1 v2 v3 v4 h => Eq.mpr (by kernel_rfl) h
  , trivial⟩
theorem impl_copyChain_w : EntOK Try.prog TT impl_copyChain_e := ent_okF tabok (L := [impl_copySigned_e]) ⟨impl_copySigned_w, trivial⟩ (keep := (kk [2, 3, 7, 8, 9])) (l := impl_copyChain_l) Try.func109 (by kernel_rfl) (sg := [.one (.own true 148 17)]) (by kernel_rfl) impl_copyChain_s fun av k h => by
  unfold impl_copyChain at h; split at h
  · exact Eq.mpr (by kernel_rfl) h
  · exact h.elim

def slices_Clone_string : GM
 | [.one a0], k => 
  nilP false a0 fun r0 =>
  iteP r0
   (rt [.own true 9 1] [(.list 1 [])] k)
   ((0 = 0) ∧ (0 ≤ 16777216) ∧ (1 = 1) ∧ (flatRows a0) ∧ catP 1 (.list 1 []) a0 fun r1 =>
   rt [.own true 9 1] [r1] k)
 | _, _ => False
abbrev slices_Clone_string_e : Ent := ⟨[144], slices_Clone_string⟩
theorem slices_Clone_string_w : EntOK Try.prog TT slices_Clone_string_e := ent_ok tabok (L := []) trivial (keep := []) (l := []) Try.func144 (by kernel_rfl) (sg := [.one (.own true 9 1)]) (by kernel_rfl) trivial fun av k h => by
  unfold slices_Clone_string at h; split at h
  · exact Eq.mpr (by kernel_rfl) h
  · exact h.elim

def impl_copyEntry : GM
 | [.agg u0], k => un 4 (fun a0 a1 a2 a3 => 
  call slices_Clone_string [.one a3] fun o0 =>
  rt [.sc, .sc, .sc, .own true 9 1] [a0, a1, a2, (atP o0 0)] k) u0
 | _, _ => False
abbrev impl_copyEntry_e : Ent := ⟨[110], impl_copyEntry⟩
theorem impl_copyEntry_w : EntOK Try.prog TT impl_copyEntry_e := ent_okF tabok (L := [slices_Clone_string_e]) ⟨slices_Clone_string_w, trivial⟩ (keep := []) (l := []) Try.func110 (by kernel_rfl) (sg := [.agg [.sc, .sc, .sc, .own true 9 1]]) (by kernel_rfl) trivial fun av k h => by
  unfold impl_copyEntry at h; split at h
  · apply un_all h; clear h; intro a0 a1 a2 a3 h; exact Eq.mpr (by kernel_rfl) h
  · exact h.elim

def impl_copyProof : GM
 | [.agg u0], k => un 2 (fun a0 a1 => 
  call slices_Clone_int [.one a1] fun o0 =>
  rt [.sc, .own true 3 1] [a0, (atP o0 0)] k) u0
 | _, _ => False
abbrev impl_copyProof_e : Ent := ⟨[111], impl_copyProof⟩
theorem impl_copyProof_w : EntOK Try.prog TT impl_copyProof_e := ent_okF tabok (L := [slices_Clone_int_e]) ⟨slices_Clone_int_w, trivial⟩ (keep := []) (l := []) Try.func111 (by kernel_rfl) (sg := [.agg [.sc, .own true 3 1]]) (by kernel_rfl) trivial fun av k h => by
  unfold impl_copyProof at h; split at h
  · apply un_all h; clear h; intro a0 a1 h; exact Eq.mpr (by kernel_rfl) h
  · exact h.elim

def impl_copyGap : GM
 | [.agg u0], k => un 13 (fun a0 a1 a2 a3 a4 a5 a6 a7 a8 a9 a10 a11 a12 => 
  call impl_copyEntry [.agg [a1, a2, a3, a4]] fun o0 =>
  call impl_copyEntry [.agg [a5, a6, a7, a8]] fun o1 =>
  call impl_copyProof [.agg [a9, a10]] fun o2 =>
  call impl_copyProof [.agg [a11, a12]] fun o3 =>
  rt [.sc, .sc, .sc, .sc, .own true 9 1, .sc, .sc, .sc, .own true 9 1, .sc, .own true 3 1, .sc, .own true 3 1] [a0, (atP o0 0), (atP o0 1), (atP o0 2), (atP o0 3), (atP o1 0), (atP o1 1), (atP o1 2), (atP o1 3), (atP o2 0), (atP o2 1), (atP o3 0), (atP o3 1)] k) u0
 | _, _ => False
abbrev impl_copyGap_e : Ent := ⟨[112], impl_copyGap⟩
theorem impl_copyGap_w : EntOK Try.prog TT impl_copyGap_e := ent_okF tabok (L := [impl_copyEntry_e, impl_copyProof_e]) ⟨impl_copyEntry_w, impl_copyProof_w, trivial⟩ (keep := []) (l := []) Try.func112 (by kernel_rfl) (sg := [.agg [.sc, .sc, .sc, .sc, .own true 9 1, .sc, .sc, .sc, .own true 9 1, .sc, .own true 3 1, .sc, .own true 3 1]]) (by kernel_rfl) trivial fun av k h => by
  unfold impl_copyGap at h; split at h
  · apply un_all h; clear h; intro a0 a1 a2 a3 a4 a5 a6 a7 a8 a9 a10 a11 a12 h; exact Eq.mpr (by kernel_rfl) h
  · exact h.elim

def impl_copyAnswer : GM
 | [.agg u0], k => un 21 (fun a0 a1 a2 a3 a4 a5 a6 a7 a8 a9 a10 a11 a12 a13 a14 a15 a16 a17 a18 a19 a20 => 
  call impl_copyChain [.one a0] fun o0 =>
  call impl_copyEntry [.agg [a2, a3, a4, a5]] fun o1 =>
  call impl_copyProof [.agg [a6, a7]] fun o2 =>
  call impl_copyGap [.agg [a8, a9, a10, a11, a12, a13, a14, a15, a16, a17, a18, a19, a20]] fun o3 =>
  rt [.own true 148 17, .sc, .sc, .sc, .sc, .own true 9 1, .sc, .own true 3 1, .sc, .sc, .sc, .sc, .own true 9 1, .sc, .sc, .sc, .own true 9 1, .sc, .own true 3 1, .sc, .own true 3 1] [(atP o0 0), a1, (atP o1 0), (atP o1 1), (atP o1 2), (atP o1 3), (atP o2 0), (atP o2 1), (atP o3 0), (atP o3 1), (atP o3 2), (atP o3 3), (atP o3 4), (atP o3 5), (atP o3 6), (atP o3 7), (atP o3 8), (atP o3 9), (atP o3 10), (atP o3 11), (atP o3 12)] k) u0
 | _, _ => False
abbrev impl_copyAnswer_e : Ent := ⟨[48], impl_copyAnswer⟩
theorem impl_copyAnswer_w : EntOK Try.prog TT impl_copyAnswer_e := ent_okF tabok (L := [impl_copyChain_e, impl_copyEntry_e, impl_copyProof_e, impl_copyGap_e]) ⟨impl_copyChain_w, impl_copyEntry_w, impl_copyProof_w, impl_copyGap_w, trivial⟩ (keep := []) (l := []) Try.func48 (by kernel_rfl) (sg := [.agg [.own true 148 17, .sc, .sc, .sc, .sc, .own true 9 1, .sc, .own true 3 1, .sc, .sc, .sc, .sc, .own true 9 1, .sc, .sc, .sc, .own true 9 1, .sc, .own true 3 1, .sc, .own true 3 1]]) (by kernel_rfl) trivial fun av k h => by
  unfold impl_copyAnswer at h; split at h
  · apply un_all h; clear h; intro a0 a1 a2 a3 a4 a5 a6 a7 a8 a9 a10 a11 a12 a13 a14 a15 a16 a17 a18 a19 a20 h; exact Eq.mpr (by kernel_rfl) h
  · exact h.elim

def impl_PickAnswer_r0 (v : List PV) (K : List PV → Prop) (x0k : PV → PV → PV → PV → PV → PV → PV → PV → PV → PV → PV → PV → PV → PV → PV → PV → PV → PV → PV → PV → PV → PV → PV → PV → PV → PV → PV → PV → PV → PV → PV → PV → PV → PV → PV → PV → PV → PV → PV → PV → PV → PV → PV → PV → PV → PV → PV → PV → PV → PV → PV → PV → PV → PV → PV → PV → PV → PV → PV → PV → PV → PV → PV → Prop) (x1k : PV → PV → PV → PV → PV → PV → PV → PV → PV → PV → PV → PV → PV → PV → PV → PV → PV → PV → PV → PV → PV → PV → PV → PV → PV → PV → Prop) : Prop :=
 un 26 (fun v0 v1 v2 v3 v4 v5 v6 v7 v8 v9 v10 v11 v12 v13 v14 v15 v16 v17 v18 v19 v20 v21 v22 v23 v24 v25 =>
  binP .lss v4 v3 fun r0 =>
  iteP r0
   (elemP 21 v2 v4 fun c1 =>
   iteP (atP c1 1)
    (binP .eql (atP c1 2) v0 fun r2 =>
    iteP r2
     (call impl_copyAnswer [.agg [(atP c1 0), (atP c1 1), (atP c1 2), (atP c1 3), (atP c1 4), (atP c1 5), (atP c1 6), (atP c1 7), (atP c1 8), (atP c1 9), (atP c1 10), (atP c1 11), (atP c1 12), (atP c1 13), (atP c1 14), (atP c1 15), (atP c1 16), (atP c1 17), (atP c1 18), (atP c1 19), (atP c1 20)]] fun o3 =>
     x0k (atP o3 1) (atP o3 2) (atP o3 3) (atP o3 4) (atP o3 6) (atP o3 8) (atP o3 9) (atP o3 10) (atP o3 11) (atP o3 13) (atP o3 14) (atP o3 15) (atP o3 17) (atP o3 19) (atP c1 0) (atP c1 1) (atP c1 2) (atP c1 3) (atP c1 4) (atP c1 5) (atP c1 6) (atP c1 7) (atP c1 8) (atP c1 9) (atP c1 10) (atP c1 11) (atP c1 12) (atP c1 13) (atP c1 14) (atP c1 15) (atP c1 16) (atP c1 17) (atP c1 18) (atP c1 19) (atP c1 20) v5 v6 v7 v8 v9 v10 v11 v12 v13 v14 v15 v16 v17 v18 (atP o3 0) (atP o3 5) (atP o3 7) (atP o3 12) (atP o3 16) (atP o3 18) (atP o3 20) v19 v20 v21 v22 v23 v24 v25)
     (binP .add v4 (I 1) fun r4 =>
     K [v0, v1, v2, v3, r4, v5, v6, v7, v8, v9, v10, v11, v12, v13, v14, v15, v16, v17, v18, v19, v20, v21, v22, v23, v24, v25]))
    (binP .add v4 (I 1) fun r5 =>
    K [v0, v1, v2, v3, r5, v5, v6, v7, v8, v9, v10, v11, v12, v13, v14, v15, v16, v17, v18, v19, v20, v21, v22, v23, v24, v25]))
   (x1k v0 v1 v2 v3 v4 v5 v6 v7 v8 v9 v10 v11 v12 v13 v14 v15 v16 v17 v18 v19 v20 v21 v22 v23 v24 v25)) v
def impl_PickAnswer : GM
 | [.one a0, .one a1], k => 
  lenP a0 fun r0 =>
  lp (fun L w => impl_PickAnswer_r0 w L
   (fun q6 q7 q8 q9 q10 q11 q12 q13 q14 q15 q16 q17 q18 q19 q20 q21 q22 q23 q24 q25 q26 q27 q28 q29 q30 q31 q32 q33 q34 q35 q36 q37 q38 q39 q40 q41 q42 q43 q44 q45 q46 q47 q48 q49 q50 q51 q52 q53 q54 q55 q56 q57 q58 q59 q60 q61 q62 q63 q64 q65 q66 q67 q68 => rt [.own true 148 17, .sc, .sc, .sc, .sc, .own true 9 1, .sc, .own true 3 1, .sc, .sc, .sc, .sc, .own true 9 1, .sc, .sc, .sc, .own true 9 1, .sc, .own true 3 1, .sc, .own true 3 1, .sc] [q55, q6, q7, q8, q9, q56, q10, q57, q11, q12, q13, q14, q58, q15, q16, q17, q59, q18, q60, q19, q61, (.bool true)] k)
   (fun q69 q70 q71 q72 q73 q74 q75 q76 q77 q78 q79 q80 q81 q82 q83 q84 q85 q86 q87 q88 q89 q90 q91 q92 q93 q94 => rt [.own true 148 17, .sc, .sc, .sc, .sc, .own true 9 1, .sc, .own true 3 1, .sc, .sc, .sc, .sc, .own true 9 1, .sc, .sc, .sc, .own true 9 1, .sc, .own true 3 1, .sc, .own true 3 1, .sc] [(.list 17 []), (.bool false), (.str ⟨#[]⟩), (I 0), (I 0), (.list 1 []), (I 0), (.list 1 []), (I 0), (.str ⟨#[]⟩), (I 0), (I 0), (.list 1 []), (.str ⟨#[]⟩), (I 0), (I 0), (.list 1 []), (I 0), (.list 1 []), (I 0), (.list 1 []), (.bool false)] k)) [a1, (.bool false), a0, r0, (I 0), (.bool false), (.str ⟨#[]⟩), (I 0), (I 0), (I 0), (I 0), (.str ⟨#[]⟩), (I 0), (I 0), (.str ⟨#[]⟩), (I 0), (I 0), (I 0), (I 0), (.list 1 []), (.list 1 []), (.list 1 []), (.list 1 []), (.list 1 []), (.list 1 []), (.list 17 [])]
 | _, _ => False
abbrev impl_PickAnswer_e : Ent := ⟨[19], impl_PickAnswer⟩
def impl_PickAnswer_l : List LE := [⟨0, ⟨[(1, .one (.pv (.bool false))), (4, .one (.ptr 0 0)), (5, .one (.pv (.bool false))), (8, .one (.pv (.bool false))), (9, .one (.pv (.bool false))), (10, .one (.pv (.bool false)))], [(0, [.own 1, .pv (.bool false), .pv (.bool false), .pv (.bool false), .pv (.bool false), .own 2, .pv (.bool false), .own 3, .pv (.bool false), .pv (.bool false), .pv (.bool false), .pv (.bool false), .own 4, .pv (.bool false), .pv (.bool false), .pv (.bool false), .own 5, .pv (.bool false), .own 6, .pv (.bool false), .own 7])], [(7, ⟨.deep, 3, 1, (.bool false)⟩), (6, ⟨.deep, 3, 1, (.bool false)⟩), (5, ⟨.deep, 9, 1, (.bool false)⟩), (4, ⟨.deep, 9, 1, (.bool false)⟩), (3, ⟨.deep, 3, 1, (.bool false)⟩), (2, ⟨.deep, 9, 1, (.bool false)⟩), (1, ⟨.deep, 148, 17, (.bool false)⟩)], 8, 27⟩, fun K k v => impl_PickAnswer_r0 v K (fun x0 x1 x2 x3 x4 x5 x6 x7 x8 x9 x10 x11 x12 x13 x14 x15 x16 x17 x18 x19 x20 x21 x22 x23 x24 x25 x26 x27 x28 x29 x30 x31 x32 x33 x34 x35 x36 x37 x38 x39 x40 x41 x42 x43 x44 x45 x46 x47 x48 x49 x50 x51 x52 x53 x54 x55 x56 x57 x58 x59 x60 x61 x62 => k .ret ⟨[(4, .one (.ptr 0 0)), (5, .one (.kb true))], [(0, [.own 9, .pv x0, .pv x1, .pv x2, .pv x3, .own 14, .pv x4, .own 16, .pv x5, .pv x6, .pv x7, .pv x8, .own 21, .pv x9, .pv x10, .pv x11, .own 25, .pv x12, .own 27, .pv x13, .own 29]), (8, [.pv x14, .pv x15, .pv x16, .pv x17, .pv x18, .pv x19, .pv x20, .pv x21, .pv x22, .pv x23, .pv x24, .pv x25, .pv x26, .pv x27, .pv x28, .pv x29, .pv x30, .pv x31, .pv x32, .pv x33, .pv x34]), (8, [.nil 148 17, .pv (.bool false), .pv (.str ⟨#[]⟩), .pv (I 0), .pv (I 0), .nil 9 1, .pv (I 0), .nil 3 1, .pv (I 0), .pv (.str ⟨#[]⟩), .pv (I 0), .pv (I 0), .nil 9 1, .pv (.str ⟨#[]⟩), .pv (I 0), .pv (I 0), .nil 9 1, .pv (I 0), .nil 3 1, .pv (I 0), .nil 3 1]), (0, [.own 1, .pv x35, .pv x36, .pv x37, .pv x38, .own 2, .pv x39, .own 3, .pv x40, .pv x41, .pv x42, .pv x43, .own 4, .pv x44, .pv x45, .pv x46, .own 5, .pv x47, .own 6, .pv x48, .own 7])], [(9, ⟨.deep, 148, 17, x49⟩), (14, ⟨.deep, 9, 1, x50⟩), (16, ⟨.deep, 3, 1, x51⟩), (21, ⟨.deep, 9, 1, x52⟩), (25, ⟨.deep, 9, 1, x53⟩), (27, ⟨.deep, 3, 1, x54⟩), (29, ⟨.deep, 3, 1, x55⟩), (7, ⟨.deep, 3, 1, x56⟩), (6, ⟨.deep, 3, 1, x57⟩), (5, ⟨.deep, 9, 1, x58⟩), (4, ⟨.deep, 9, 1, x59⟩), (3, ⟨.deep, 3, 1, x60⟩), (2, ⟨.deep, 9, 1, x61⟩), (1, ⟨.deep, 148, 17, x62⟩)], 30, 27⟩) (fun x0 x1 x2 x3 x4 x5 x6 x7 x8 x9 x10 x11 x12 x13 x14 x15 x16 x17 x18 x19 x20 x21 x22 x23 x24 x25 => k (.exit 0) ⟨[(1, .one (.pv x0)), (4, .one (.ptr 0 0)), (5, .one (.pv x1)), (8, .one (.pv x2)), (9, .one (.pv x3)), (10, .one (.pv x4))], [(0, [.own 1, .pv x5, .pv x6, .pv x7, .pv x8, .own 2, .pv x9, .own 3, .pv x10, .pv x11, .pv x12, .pv x13, .own 4, .pv x14, .pv x15, .pv x16, .own 5, .pv x17, .own 6, .pv x18, .own 7])], [(7, ⟨.deep, 3, 1, x19⟩), (6, ⟨.deep, 3, 1, x20⟩), (5, ⟨.deep, 9, 1, x21⟩), (4, ⟨.deep, 9, 1, x22⟩), (3, ⟨.deep, 3, 1, x23⟩), (2, ⟨.deep, 9, 1, x24⟩), (1, ⟨.deep, 148, 17, x25⟩)], 8, 27⟩)⟩]
theorem impl_PickAnswer_s : LEsOK (orac [impl_copyAnswer_e]) TT.nofl (kk [1, 4, 5, 8, 9, 10, 17, 18, 19, 20, 21]) (sumsOf impl_PickAnswer_l) Try.f19 impl_PickAnswer_l := ⟨fun v K k h => by
  apply un_all h; exact fun v0 v1 v2 v3 v4 v5 v6 v7 v8 v9 v10 v11 v12 v13 v14 v15 v16 v17 v18 v19 v20 v21 v22 v23 v24 v25 h => Eq.mpr (by kernel_rfl) h
  , trivial⟩
theorem impl_PickAnswer_w : EntOK Try.prog TT impl_PickAnswer_e := ent_okF tabok (L := [impl_copyAnswer_e]) ⟨impl_copyAnswer_w, trivial⟩ (keep := (kk [1, 4, 5, 8, 9, 10, 17, 18, 19, 20, 21])) (l := impl_PickAnswer_l) Try.func19 (by kernel_rfl) (sg := [.agg [.own true 148 17, .sc, .sc, .sc, .sc, .own true 9 1, .sc, .own true 3 1, .sc, .sc, .sc, .sc, .own true 9 1, .sc, .sc, .sc, .own true 9 1, .sc, .own true 3 1, .sc, .own true 3 1], .one (.sc)]) (by kernel_rfl) impl_PickAnswer_s fun av k h => by
  unfold impl_PickAnswer at h; split at h
  · exact Eq.mpr (by kernel_rfl) h
  · exact h.elim

def laws_eqIntS_r0 (v : List PV) (K : List PV → Prop) (x0k : Prop) (x1k : PV → PV → PV → PV → Prop) : Prop :=
 un 4 (fun v0 v1 v2 v3 =>
  lenP v0 fun r0 =>
  binP .lss v3 r0 fun r1 =>
  iteP r1
   (elemP 1 v0 v3 fun c2 =>
   elemP 1 v1 v3 fun c3 =>
   binP .neq (atP c2 0) (atP c3 0) fun r4 =>
   iteP r4
    (x0k)
    (binP .add v3 (I 1) fun r5 =>
    K [v0, v1, v2, r5]))
   (x1k v0 v1 v2 v3)) v
def laws_eqIntS : GM
 | [.one a0, .one a1], k => 
  lenP a0 fun r0 =>
  lenP a1 fun r1 =>
  binP .neq r0 r1 fun r2 =>
  iteP r2
   (rt [.sc] [(.bool false)] k)
   (lp (fun L w => laws_eqIntS_r0 w L
    (rt [.sc] [(.bool false)] k)
    (fun q6 q7 q8 q9 => rt [.sc] [(.bool true)] k)) [a0, a1, (.bool false), (I 0)])
 | _, _ => False
abbrev laws_eqIntS_e : Ent := ⟨[96], laws_eqIntS⟩
def laws_eqIntS_l : List LE := [⟨0, ⟨[(0, .one (.pv (.bool false))), (1, .one (.pv (.bool false))), (4, .one (.pv (.bool false))), (5, .one (.pv (.bool false)))], [], [], 0, 26⟩, fun K k v => laws_eqIntS_r0 v K (k .ret ⟨[(4, .one (.kb false))], [], [], 0, 26⟩) (fun x0 x1 x2 x3 => k (.exit 0) ⟨[(0, .one (.pv x0)), (1, .one (.pv x1)), (4, .one (.pv x2)), (5, .one (.pv x3))], [], [], 0, 26⟩)⟩]
theorem laws_eqIntS_s : LEsOK (orac []) TT (kk [0, 1, 4, 5]) (sumsOf laws_eqIntS_l) Try.f96 laws_eqIntS_l := ⟨fun v K k h => by
  apply un_all h; exact fun v0 v1 v2 v3 h => Eq.mpr (by kernel_rfl) h
  , trivial⟩
theorem laws_eqIntS_w : EntOK Try.prog TT laws_eqIntS_e := ent_ok tabok (L := []) trivial (keep := (kk [0, 1, 4, 5])) (l := laws_eqIntS_l) Try.func96 (by kernel_rfl) (sg := [.one (.sc)]) (by kernel_rfl) laws_eqIntS_s fun av k h => by
  unfold laws_eqIntS at h; split at h
  · exact Eq.mpr (by kernel_rfl) h
  · exact h.elim

def laws_eqKeys : GM
 | [.agg u0, .agg u1], k => un 2 (fun a0 a1 => un 2 (fun a2 a3 => 
  call laws_eqIntS [.one a0, .one a2] fun o0 =>
  unP .not (atP o0 0) fun r1 =>
  iteP r1
   (rt [.sc] [(.bool false)] k)
   (binP .neq a1 a3 fun r2 =>
   iteP r2
    (rt [.sc] [(.bool false)] k)
    (rt [.sc] [(.bool true)] k))) u1) u0
 | _, _ => False
abbrev laws_eqKeys_e : Ent := ⟨[158], laws_eqKeys⟩
theorem laws_eqKeys_w : EntOK Try.prog TT laws_eqKeys_e := ent_ok tabok (L := [laws_eqIntS_e]) ⟨laws_eqIntS_w, trivial⟩ (keep := []) (l := []) Try.func158 (by kernel_rfl) (sg := [.one (.sc)]) (by kernel_rfl) trivial fun av k h => by
  unfold laws_eqKeys at h; split at h
  · apply un_all h; clear h; intro a0 a1 h; apply un_all h; clear h; intro a2 a3 h; exact Eq.mpr (by kernel_rfl) h
  · exact h.elim

def laws_eqHead : GM
 | [.agg u0, .agg u1], k => un 16 (fun a0 a1 a2 a3 a4 a5 a6 a7 a8 a9 a10 a11 a12 a13 a14 a15 => un 16 (fun a16 a17 a18 a19 a20 a21 a22 a23 a24 a25 a26 a27 a28 a29 a30 a31 => 
  binP .neq a0 a16 fun r0 =>
  iteP r0
   (rt [.sc] [(.bool false)] k)
   (binP .neq a1 a17 fun r1 =>
   iteP r1
    (rt [.sc] [(.bool false)] k)
    (binP .neq a2 a18 fun r2 =>
    iteP r2
     (rt [.sc] [(.bool false)] k)
     (binP .neq a3 a19 fun r3 =>
     iteP r3
      (rt [.sc] [(.bool false)] k)
      (binP .neq a4 a20 fun r4 =>
      iteP r4
       (rt [.sc] [(.bool false)] k)
       (binP .neq a5 a21 fun r5 =>
       iteP r5
        (rt [.sc] [(.bool false)] k)
        (binP .neq a6 a22 fun r6 =>
        iteP r6
         (rt [.sc] [(.bool false)] k)
         (binP .neq a7 a23 fun r7 =>
         iteP r7
          (rt [.sc] [(.bool false)] k)
          (call laws_eqKeys [.agg [a8, a9], .agg [a24, a25]] fun o8 =>
          unP .not (atP o8 0) fun r9 =>
          iteP r9
           (rt [.sc] [(.bool false)] k)
           (call laws_eqKeys [.agg [a10, a11], .agg [a26, a27]] fun o10 =>
           unP .not (atP o10 0) fun r11 =>
           iteP r11
            (rt [.sc] [(.bool false)] k)
            (binP .neq a12 a28 fun r12 =>
            iteP r12
             (rt [.sc] [(.bool false)] k)
             (call laws_eqKeys [.agg [a13, a14], .agg [a29, a30]] fun o13 =>
             unP .not (atP o13 0) fun r14 =>
             iteP r14
              (rt [.sc] [(.bool false)] k)
              (boolP .neq a15 a31 fun r15 =>
              iteP r15
               (rt [.sc] [(.bool false)] k)
               (rt [.sc] [(.bool true)] k)))))))))))))) u1) u0
 | _, _ => False
abbrev laws_eqHead_e : Ent := ⟨[145], laws_eqHead⟩
theorem laws_eqHead_w : EntOK Try.prog TT laws_eqHead_e := ent_ok tabok (L := [laws_eqKeys_e]) ⟨laws_eqKeys_w, trivial⟩ (keep := []) (l := []) Try.func145 (by kernel_rfl) (sg := [.one (.sc)]) (by kernel_rfl) trivial fun av k h => by
  unfold laws_eqHead at h; split at h
  · apply un_all h; clear h; intro a0 a1 a2 a3 a4 a5 a6 a7 a8 a9 a10 a11 a12 a13 a14 a15 h; apply un_all h; clear h; intro a16 a17 a18 a19 a20 a21 a22 a23 a24 a25 a26 a27 a28 a29 a30 a31 h; exact Eq.mpr (by kernel_rfl) h
  · exact h.elim

def laws_eqSig : GM
 | [.agg u0, .agg u1], k => un 2 (fun a0 a1 => un 2 (fun a2 a3 => 
  binP .neq a0 a2 fun r0 =>
  iteP r0
   (rt [.sc] [(.bool false)] k)
   (binP .neq a1 a3 fun r1 =>
   iteP r1
    (rt [.sc] [(.bool false)] k)
    (rt [.sc] [(.bool true)] k))) u1) u0
 | _, _ => False
abbrev laws_eqSig_e : Ent := ⟨[159], laws_eqSig⟩
theorem laws_eqSig_w : EntOK Try.prog TT laws_eqSig_e := ent_ok tabok (L := []) trivial (keep := []) (l := []) Try.func159 (by kernel_rfl) (sg := [.one (.sc)]) (by kernel_rfl) trivial fun av k h => by
  unfold laws_eqSig at h; split at h
  · apply un_all h; clear h; intro a0 a1 h; apply un_all h; clear h; intro a2 a3 h; exact Eq.mpr (by kernel_rfl) h
  · exact h.elim

def laws_eqSigS_r0 (v : List PV) (K : List PV → Prop) (x0k : Prop) (x1k : PV → PV → PV → PV → Prop) : Prop :=
 un 4 (fun v0 v1 v2 v3 =>
  lenP v0 fun r0 =>
  binP .lss v3 r0 fun r1 =>
  iteP r1
   (elemP 2 v0 v3 fun c2 =>
   elemP 2 v1 v3 fun c3 =>
   call laws_eqSig [.agg [(atP c2 0), (atP c2 1)], .agg [(atP c3 0), (atP c3 1)]] fun o4 =>
   unP .not (atP o4 0) fun r5 =>
   iteP r5
    (x0k)
    (binP .add v3 (I 1) fun r6 =>
    K [v0, v1, v2, r6]))
   (x1k v0 v1 v2 v3)) v
def laws_eqSigS : GM
 | [.one a0, .one a1], k => 
  lenP a0 fun r0 =>
  lenP a1 fun r1 =>
  binP .neq r0 r1 fun r2 =>
  iteP r2
   (rt [.sc] [(.bool false)] k)
   (lp (fun L w => laws_eqSigS_r0 w L
    (rt [.sc] [(.bool false)] k)
    (fun q7 q8 q9 q10 => rt [.sc] [(.bool true)] k)) [a0, a1, (.bool false), (I 0)])
 | _, _ => False
abbrev laws_eqSigS_e : Ent := ⟨[146], laws_eqSigS⟩
def laws_eqSigS_l : List LE := [⟨0, ⟨[(0, .one (.pv (.bool false))), (1, .one (.pv (.bool false))), (4, .one (.pv (.bool false))), (5, .one (.pv (.bool false)))], [], [], 0, 27⟩, fun K k v => laws_eqSigS_r0 v K (k .ret ⟨[(4, .one (.kb false))], [], [], 1, 27⟩) (fun x0 x1 x2 x3 => k (.exit 0) ⟨[(0, .one (.pv x0)), (1, .one (.pv x1)), (4, .one (.pv x2)), (5, .one (.pv x3))], [], [], 0, 27⟩)⟩]
theorem laws_eqSigS_s : LEsOK (orac [laws_eqSig_e]) TT (kk [0, 1, 4, 5]) (sumsOf laws_eqSigS_l) Try.f146 laws_eqSigS_l := ⟨fun v K k h => by
  apply un_all h; exact fun v0 v1 v2 v3 h => Eq.mpr (by kernel_rfl) h
  , trivial⟩
theorem laws_eqSigS_w : EntOK Try.prog TT laws_eqSigS_e := ent_ok tabok (L := [laws_eqSig_e]) ⟨laws_eqSig_w, trivial⟩ (keep := (kk [0, 1, 4, 5])) (l := laws_eqSigS_l) Try.func146 (by kernel_rfl) (sg := [.one (.sc)]) (by kernel_rfl) laws_eqSigS_s fun av k h => by
  unfold laws_eqSigS at h; split at h
  · exact Eq.mpr (by kernel_rfl) h
  · exact h.elim

def laws_eqSigned : GM
 | [.agg u0, .agg u1], k => un 17 (fun a0 a1 a2 a3 a4 a5 a6 a7 a8 a9 a10 a11 a12 a13 a14 a15 a16 => un 17 (fun a17 a18 a19 a20 a21 a22 a23 a24 a25 a26 a27 a28 a29 a30 a31 a32 a33 => 
  call laws_eqHead [.agg [a0, a1, a2, a3, a4, a5, a6, a7, a8, a9, a10, a11, a12, a13, a14, a15], .agg [a17, a18, a19, a20, a21, a22, a23, a24, a25, a26, a27, a28, a29, a30, a31, a32]] fun o0 =>
  unP .not (atP o0 0) fun r1 =>
  iteP r1
   (rt [.sc] [(.bool false)] k)
   (call laws_eqSigS [.one a16, .one a33] fun o2 =>
   unP .not (atP o2 0) fun r3 =>
   iteP r3
    (rt [.sc] [(.bool false)] k)
    (rt [.sc] [(.bool true)] k))) u1) u0
 | _, _ => False
abbrev laws_eqSigned_e : Ent := ⟨[113], laws_eqSigned⟩
theorem laws_eqSigned_w : EntOK Try.prog TT laws_eqSigned_e := ent_ok tabok (L := [laws_eqHead_e, laws_eqSigS_e]) ⟨laws_eqHead_w, laws_eqSigS_w, trivial⟩ (keep := []) (l := []) Try.func113 (by kernel_rfl) (sg := [.one (.sc)]) (by kernel_rfl) trivial fun av k h => by
  unfold laws_eqSigned at h; split at h
  · apply un_all h; clear h; intro a0 a1 a2 a3 a4 a5 a6 a7 a8 a9 a10 a11 a12 a13 a14 a15 a16 h; apply un_all h; clear h; intro a17 a18 a19 a20 a21 a22 a23 a24 a25 a26 a27 a28 a29 a30 a31 a32 a33 h; exact Eq.mpr (by kernel_rfl) h
  · exact h.elim

def laws_eqSignedS_r0 (v : List PV) (K : List PV → Prop) (x0k : Prop) (x1k : PV → PV → PV → PV → Prop) : Prop :=
 un 4 (fun v0 v1 v2 v3 =>
  lenP v0 fun r0 =>
  binP .lss v3 r0 fun r1 =>
  iteP r1
   (elemP 17 v0 v3 fun c2 =>
   elemP 17 v1 v3 fun c3 =>
   call laws_eqSigned [.agg [(atP c2 0), (atP c2 1), (atP c2 2), (atP c2 3), (atP c2 4), (atP c2 5), (atP c2 6), (atP c2 7), (atP c2 8), (atP c2 9), (atP c2 10), (atP c2 11), (atP c2 12), (atP c2 13), (atP c2 14), (atP c2 15), (atP c2 16)], .agg [(atP c3 0), (atP c3 1), (atP c3 2), (atP c3 3), (atP c3 4), (atP c3 5), (atP c3 6), (atP c3 7), (atP c3 8), (atP c3 9), (atP c3 10), (atP c3 11), (atP c3 12), (atP c3 13), (atP c3 14), (atP c3 15), (atP c3 16)]] fun o4 =>
   unP .not (atP o4 0) fun r5 =>
   iteP r5
    (x0k)
    (binP .add v3 (I 1) fun r6 =>
    K [v0, v1, v2, r6]))
   (x1k v0 v1 v2 v3)) v
def laws_eqSignedS : GM
 | [.one a0, .one a1], k => 
  lenP a0 fun r0 =>
  lenP a1 fun r1 =>
  binP .neq r0 r1 fun r2 =>
  iteP r2
   (rt [.sc] [(.bool false)] k)
   (lp (fun L w => laws_eqSignedS_r0 w L
    (rt [.sc] [(.bool false)] k)
    (fun q7 q8 q9 q10 => rt [.sc] [(.bool true)] k)) [a0, a1, (.bool false), (I 0)])
 | _, _ => False
abbrev laws_eqSignedS_e : Ent := ⟨[49], laws_eqSignedS⟩
def laws_eqSignedS_l : List LE := [⟨0, ⟨[(0, .one (.pv (.bool false))), (1, .one (.pv (.bool false))), (4, .one (.pv (.bool false))), (5, .one (.pv (.bool false)))], [], [], 0, 27⟩, fun K k v => laws_eqSignedS_r0 v K (k .ret ⟨[(4, .one (.kb false))], [], [], 1, 27⟩) (fun x0 x1 x2 x3 => k (.exit 0) ⟨[(0, .one (.pv x0)), (1, .one (.pv x1)), (4, .one (.pv x2)), (5, .one (.pv x3))], [], [], 0, 27⟩)⟩]
theorem laws_eqSignedS_s : LEsOK (orac [laws_eqSigned_e]) TT (kk [0, 1, 4, 5]) (sumsOf laws_eqSignedS_l) Try.f49 laws_eqSignedS_l := ⟨fun v K k h => by
  apply un_all h; exact fun v0 v1 v2 v3 h => Eq.mpr (by kernel_rfl) h
  , trivial⟩
theorem laws_eqSignedS_w : EntOK Try.prog TT laws_eqSignedS_e := ent_ok tabok (L := [laws_eqSigned_e]) ⟨laws_eqSigned_w, trivial⟩ (keep := (kk [0, 1, 4, 5])) (l := laws_eqSignedS_l) Try.func49 (by kernel_rfl) (sg := [.one (.sc)]) (by kernel_rfl) laws_eqSignedS_s fun av k h => by
  unfold laws_eqSignedS at h; split at h
  · exact Eq.mpr (by kernel_rfl) h
  · exact h.elim

def laws_eqStringS_r0 (v : List PV) (K : List PV → Prop) (x0k : Prop) (x1k : PV → PV → PV → PV → Prop) : Prop :=
 un 4 (fun v0 v1 v2 v3 =>
  lenP v0 fun r0 =>
  binP .lss v3 r0 fun r1 =>
  iteP r1
   (elemP 1 v0 v3 fun c2 =>
   elemP 1 v1 v3 fun c3 =>
   binP .neq (atP c2 0) (atP c3 0) fun r4 =>
   iteP r4
    (x0k)
    (binP .add v3 (I 1) fun r5 =>
    K [v0, v1, v2, r5]))
   (x1k v0 v1 v2 v3)) v
def laws_eqStringS : GM
 | [.one a0, .one a1], k => 
  lenP a0 fun r0 =>
  lenP a1 fun r1 =>
  binP .neq r0 r1 fun r2 =>
  iteP r2
   (rt [.sc] [(.bool false)] k)
   (lp (fun L w => laws_eqStringS_r0 w L
    (rt [.sc] [(.bool false)] k)
    (fun q6 q7 q8 q9 => rt [.sc] [(.bool true)] k)) [a0, a1, (.bool false), (I 0)])
 | _, _ => False
abbrev laws_eqStringS_e : Ent := ⟨[114], laws_eqStringS⟩
def laws_eqStringS_l : List LE := [⟨0, ⟨[(0, .one (.pv (.bool false))), (1, .one (.pv (.bool false))), (4, .one (.pv (.bool false))), (5, .one (.pv (.bool false)))], [], [], 0, 26⟩, fun K k v => laws_eqStringS_r0 v K (k .ret ⟨[(4, .one (.kb false))], [], [], 0, 26⟩) (fun x0 x1 x2 x3 => k (.exit 0) ⟨[(0, .one (.pv x0)), (1, .one (.pv x1)), (4, .one (.pv x2)), (5, .one (.pv x3))], [], [], 0, 26⟩)⟩]
theorem laws_eqStringS_s : LEsOK (orac []) TT (kk [0, 1, 4, 5]) (sumsOf laws_eqStringS_l) Try.f114 laws_eqStringS_l := ⟨fun v K k h => by
  apply un_all h; exact fun v0 v1 v2 v3 h => Eq.mpr (by kernel_rfl) h
  , trivial⟩
theorem laws_eqStringS_w : EntOK Try.prog TT laws_eqStringS_e := ent_ok tabok (L := []) trivial (keep := (kk [0, 1, 4, 5])) (l := laws_eqStringS_l) Try.func114 (by kernel_rfl) (sg := [.one (.sc)]) (by kernel_rfl) laws_eqStringS_s fun av k h => by
  unfold laws_eqStringS at h; split at h
  · exact Eq.mpr (by kernel_rfl) h
  · exact h.elim

def laws_eqEntry : GM
 | [.agg u0, .agg u1], k => un 4 (fun a0 a1 a2 a3 => un 4 (fun a4 a5 a6 a7 => 
  binP .neq a0 a4 fun r0 =>
  iteP r0
   (rt [.sc] [(.bool false)] k)
   (binP .neq a1 a5 fun r1 =>
   iteP r1
    (rt [.sc] [(.bool false)] k)
    (binP .neq a2 a6 fun r2 =>
    iteP r2
     (rt [.sc] [(.bool false)] k)
     (call laws_eqStringS [.one a3, .one a7] fun o3 =>
     unP .not (atP o3 0) fun r4 =>
     iteP r4
      (rt [.sc] [(.bool false)] k)
      (rt [.sc] [(.bool true)] k))))) u1) u0
 | _, _ => False
abbrev laws_eqEntry_e : Ent := ⟨[50], laws_eqEntry⟩
theorem laws_eqEntry_w : EntOK Try.prog TT laws_eqEntry_e := ent_ok tabok (L := [laws_eqStringS_e]) ⟨laws_eqStringS_w, trivial⟩ (keep := []) (l := []) Try.func50 (by kernel_rfl) (sg := [.one (.sc)]) (by kernel_rfl) trivial fun av k h => by
  unfold laws_eqEntry at h; split at h
  · apply un_all h; clear h; intro a0 a1 a2 a3 h; apply un_all h; clear h; intro a4 a5 a6 a7 h; exact Eq.mpr (by kernel_rfl) h
  · exact h.elim

def laws_eqProof : GM
 | [.agg u0, .agg u1], k => un 2 (fun a0 a1 => un 2 (fun a2 a3 => 
  binP .neq a0 a2 fun r0 =>
  iteP r0
   (rt [.sc] [(.bool false)] k)
   (call laws_eqIntS [.one a1, .one a3] fun o1 =>
   unP .not (atP o1 0) fun r2 =>
   iteP r2
    (rt [.sc] [(.bool false)] k)
    (rt [.sc] [(.bool true)] k))) u1) u0
 | _, _ => False
abbrev laws_eqProof_e : Ent := ⟨[51], laws_eqProof⟩
theorem laws_eqProof_w : EntOK Try.prog TT laws_eqProof_e := ent_ok tabok (L := [laws_eqIntS_e]) ⟨laws_eqIntS_w, trivial⟩ (keep := []) (l := []) Try.func51 (by kernel_rfl) (sg := [.one (.sc)]) (by kernel_rfl) trivial fun av k h => by
  unfold laws_eqProof at h; split at h
  · apply un_all h; clear h; intro a0 a1 h; apply un_all h; clear h; intro a2 a3 h; exact Eq.mpr (by kernel_rfl) h
  · exact h.elim

def laws_eqGap : GM
 | [.agg u0, .agg u1], k => un 13 (fun a0 a1 a2 a3 a4 a5 a6 a7 a8 a9 a10 a11 a12 => un 13 (fun a13 a14 a15 a16 a17 a18 a19 a20 a21 a22 a23 a24 a25 => 
  binP .neq a0 a13 fun r0 =>
  iteP r0
   (rt [.sc] [(.bool false)] k)
   (call laws_eqEntry [.agg [a1, a2, a3, a4], .agg [a14, a15, a16, a17]] fun o1 =>
   unP .not (atP o1 0) fun r2 =>
   iteP r2
    (rt [.sc] [(.bool false)] k)
    (call laws_eqEntry [.agg [a5, a6, a7, a8], .agg [a18, a19, a20, a21]] fun o3 =>
    unP .not (atP o3 0) fun r4 =>
    iteP r4
     (rt [.sc] [(.bool false)] k)
     (call laws_eqProof [.agg [a9, a10], .agg [a22, a23]] fun o5 =>
     unP .not (atP o5 0) fun r6 =>
     iteP r6
      (rt [.sc] [(.bool false)] k)
      (call laws_eqProof [.agg [a11, a12], .agg [a24, a25]] fun o7 =>
      unP .not (atP o7 0) fun r8 =>
      iteP r8
       (rt [.sc] [(.bool false)] k)
       (rt [.sc] [(.bool true)] k)))))) u1) u0
 | _, _ => False
abbrev laws_eqGap_e : Ent := ⟨[52], laws_eqGap⟩
theorem laws_eqGap_w : EntOK Try.prog TT laws_eqGap_e := ent_ok tabok (L := [laws_eqEntry_e, laws_eqProof_e]) ⟨laws_eqEntry_w, laws_eqProof_w, trivial⟩ (keep := []) (l := []) Try.func52 (by kernel_rfl) (sg := [.one (.sc)]) (by kernel_rfl) trivial fun av k h => by
  unfold laws_eqGap at h; split at h
  · apply un_all h; clear h; intro a0 a1 a2 a3 a4 a5 a6 a7 a8 a9 a10 a11 a12 h; apply un_all h; clear h; intro a13 a14 a15 a16 a17 a18 a19 a20 a21 a22 a23 a24 a25 h; exact Eq.mpr (by kernel_rfl) h
  · exact h.elim

def laws_eqAnswer : GM
 | [.agg u0, .agg u1], k => un 21 (fun a0 a1 a2 a3 a4 a5 a6 a7 a8 a9 a10 a11 a12 a13 a14 a15 a16 a17 a18 a19 a20 => un 21 (fun a21 a22 a23 a24 a25 a26 a27 a28 a29 a30 a31 a32 a33 a34 a35 a36 a37 a38 a39 a40 a41 => 
  call laws_eqSignedS [.one a0, .one a21] fun o0 =>
  unP .not (atP o0 0) fun r1 =>
  iteP r1
   (rt [.sc] [(.bool false)] k)
   (boolP .neq a1 a22 fun r2 =>
   iteP r2
    (rt [.sc] [(.bool false)] k)
    (call laws_eqEntry [.agg [a2, a3, a4, a5], .agg [a23, a24, a25, a26]] fun o3 =>
    unP .not (atP o3 0) fun r4 =>
    iteP r4
     (rt [.sc] [(.bool false)] k)
     (call laws_eqProof [.agg [a6, a7], .agg [a27, a28]] fun o5 =>
     unP .not (atP o5 0) fun r6 =>
     iteP r6
      (rt [.sc] [(.bool false)] k)
      (call laws_eqGap [.agg [a8, a9, a10, a11, a12, a13, a14, a15, a16, a17, a18, a19, a20], .agg [a29, a30, a31, a32, a33, a34, a35, a36, a37, a38, a39, a40, a41]] fun o7 =>
      unP .not (atP o7 0) fun r8 =>
      iteP r8
       (rt [.sc] [(.bool false)] k)
       (rt [.sc] [(.bool true)] k)))))) u1) u0
 | _, _ => False
abbrev laws_eqAnswer_e : Ent := ⟨[20], laws_eqAnswer⟩
theorem laws_eqAnswer_w : EntOK Try.prog TT laws_eqAnswer_e := ent_ok tabok (L := [laws_eqSignedS_e, laws_eqEntry_e, laws_eqProof_e, laws_eqGap_e]) ⟨laws_eqSignedS_w, laws_eqEntry_w, laws_eqProof_w, laws_eqGap_w, trivial⟩ (keep := []) (l := []) Try.func20 (by kernel_rfl) (sg := [.one (.sc)]) (by kernel_rfl) trivial fun av k h => by
  unfold laws_eqAnswer at h; split at h
  · apply un_all h; clear h; intro a0 a1 a2 a3 a4 a5 a6 a7 a8 a9 a10 a11 a12 a13 a14 a15 a16 a17 a18 a19 a20 h; apply un_all h; clear h; intro a21 a22 a23 a24 a25 a26 a27 a28 a29 a30 a31 a32 a33 a34 a35 a36 a37 a38 a39 a40 a41 h; exact Eq.mpr (by kernel_rfl) h
  · exact h.elim

def laws_eqAnswerS_r0 (v : List PV) (K : List PV → Prop) (x0k : Prop) (x1k : PV → PV → PV → PV → Prop) : Prop :=
 un 4 (fun v0 v1 v2 v3 =>
  lenP v0 fun r0 =>
  binP .lss v3 r0 fun r1 =>
  iteP r1
   (elemP 21 v0 v3 fun c2 =>
   elemP 21 v1 v3 fun c3 =>
   call laws_eqAnswer [.agg [(atP c2 0), (atP c2 1), (atP c2 2), (atP c2 3), (atP c2 4), (atP c2 5), (atP c2 6), (atP c2 7), (atP c2 8), (atP c2 9), (atP c2 10), (atP c2 11), (atP c2 12), (atP c2 13), (atP c2 14), (atP c2 15), (atP c2 16), (atP c2 17), (atP c2 18), (atP c2 19), (atP c2 20)], .agg [(atP c3 0), (atP c3 1), (atP c3 2), (atP c3 3), (atP c3 4), (atP c3 5), (atP c3 6), (atP c3 7), (atP c3 8), (atP c3 9), (atP c3 10), (atP c3 11), (atP c3 12), (atP c3 13), (atP c3 14), (atP c3 15), (atP c3 16), (atP c3 17), (atP c3 18), (atP c3 19), (atP c3 20)]] fun o4 =>
   unP .not (atP o4 0) fun r5 =>
   iteP r5
    (x0k)
    (binP .add v3 (I 1) fun r6 =>
    K [v0, v1, v2, r6]))
   (x1k v0 v1 v2 v3)) v
def laws_eqAnswerS : GM
 | [.one a0, .one a1], k => 
  lenP a0 fun r0 =>
  lenP a1 fun r1 =>
  binP .neq r0 r1 fun r2 =>
  iteP r2
   (rt [.sc] [(.bool false)] k)
   (lp (fun L w => laws_eqAnswerS_r0 w L
    (rt [.sc] [(.bool false)] k)
    (fun q7 q8 q9 q10 => rt [.sc] [(.bool true)] k)) [a0, a1, (.bool false), (I 0)])
 | _, _ => False
abbrev laws_eqAnswerS_e : Ent := ⟨[21], laws_eqAnswerS⟩
def laws_eqAnswerS_l : List LE := [⟨0, ⟨[(0, .one (.pv (.bool false))), (1, .one (.pv (.bool false))), (4, .one (.pv (.bool false))), (5, .one (.pv (.bool false)))], [], [], 0, 27⟩, fun K k v => laws_eqAnswerS_r0 v K (k .ret ⟨[(4, .one (.kb false))], [], [], 1, 27⟩) (fun x0 x1 x2 x3 => k (.exit 0) ⟨[(0, .one (.pv x0)), (1, .one (.pv x1)), (4, .one (.pv x2)), (5, .one (.pv x3))], [], [], 0, 27⟩)⟩]
theorem laws_eqAnswerS_s : LEsOK (orac [laws_eqAnswer_e]) TT (kk [0, 1, 4, 5]) (sumsOf laws_eqAnswerS_l) Try.f21 laws_eqAnswerS_l := ⟨fun v K k h => by
  apply un_all h; exact fun v0 v1 v2 v3 h => Eq.mpr (by kernel_rfl) h
  , trivial⟩
theorem laws_eqAnswerS_w : EntOK Try.prog TT laws_eqAnswerS_e := ent_ok tabok (L := [laws_eqAnswer_e]) ⟨laws_eqAnswer_w, trivial⟩ (keep := (kk [0, 1, 4, 5])) (l := laws_eqAnswerS_l) Try.func21 (by kernel_rfl) (sg := [.one (.sc)]) (by kernel_rfl) laws_eqAnswerS_s fun av k h => by
  unfold laws_eqAnswerS at h; split at h
  · exact Eq.mpr (by kernel_rfl) h
  · exact h.elim

def laws_heldIntS_r0 (v : List PV) (K : List PV → Prop) (x0k : Prop) (x1k : PV → PV → PV → PV → Prop) : Prop :=
 un 4 (fun v0 v1 v2 v3 =>
  lenP v0 fun r0 =>
  binP .lss v3 r0 fun r1 =>
  iteP r1
   (elemP 1 v0 v3 fun c2 =>
   binP .neq (atP c2 0) v1 fun r3 =>
   iteP r3
    (x0k)
    (binP .add v1 (I 1) fun r4 =>
    binP .add v3 (I 1) fun r5 =>
    K [v0, r4, v2, r5]))
   (x1k v0 v1 v2 v3)) v
def laws_heldIntS : GM
 | [.one a0, .one a1], k => 
  lp (fun L w => laws_heldIntS_r0 w L
   (rt [.sc] [(I (-1))] k)
   (fun q6 q7 q8 q9 => rt [.sc] [q7] k)) [a0, a1, (I 0), (I 0)]
 | _, _ => False
abbrev laws_heldIntS_e : Ent := ⟨[44], laws_heldIntS⟩
def laws_heldIntS_l : List LE := [⟨0, ⟨[(0, .one (.pv (.bool false))), (1, .one (.pv (.bool false))), (4, .one (.pv (.bool false))), (5, .one (.pv (.bool false)))], [], [], 0, 21⟩, fun K k v => laws_heldIntS_r0 v K (k .ret ⟨[(4, .one (.pv (I (-1))))], [], [], 0, 21⟩) (fun x0 x1 x2 x3 => k (.exit 0) ⟨[(0, .one (.pv x0)), (1, .one (.pv x1)), (4, .one (.pv x2)), (5, .one (.pv x3))], [], [], 0, 21⟩)⟩]
theorem laws_heldIntS_s : LEsOK (orac []) TT (kk [0, 1, 4, 5]) (sumsOf laws_heldIntS_l) Try.f44 laws_heldIntS_l := ⟨fun v K k h => by
  apply un_all h; exact fun v0 v1 v2 v3 h => Eq.mpr (by kernel_rfl) h
  , trivial⟩
theorem laws_heldIntS_w : EntOK Try.prog TT laws_heldIntS_e := ent_ok tabok (L := []) trivial (keep := (kk [0, 1, 4, 5])) (l := laws_heldIntS_l) Try.func44 (by kernel_rfl) (sg := [.one (.sc)]) (by kernel_rfl) laws_heldIntS_s fun av k h => by
  unfold laws_heldIntS at h; split at h
  · exact Eq.mpr (by kernel_rfl) h
  · exact h.elim

def laws_heldSigS_r0 (v : List PV) (K : List PV → Prop) (x0k : Prop) (x1k : PV → PV → PV → PV → Prop) : Prop :=
 un 4 (fun v0 v1 v2 v3 =>
  lenP v0 fun r0 =>
  binP .lss v3 r0 fun r1 =>
  iteP r1
   (elemP 2 v0 v3 fun c2 =>
   binP .neq (atP c2 0) v1 fun r3 =>
   iteP r3
    (x0k)
    (binP .add v1 (I 1) fun r4 =>
    elemP 2 v0 v3 fun c5 =>
    binP .neq (atP c5 1) r4 fun r6 =>
    iteP r6
     (x0k)
     (binP .add r4 (I 1) fun r7 =>
     binP .add v3 (I 1) fun r8 =>
     K [v0, r7, v2, r8])))
   (x1k v0 v1 v2 v3)) v
def laws_heldSigS : GM
 | [.one a0, .one a1], k => 
  lp (fun L w => laws_heldSigS_r0 w L
   (rt [.sc] [(I (-1))] k)
   (fun q9 q10 q11 q12 => rt [.sc] [q10] k)) [a0, a1, (I 0), (I 0)]
 | _, _ => False
abbrev laws_heldSigS_e : Ent := ⟨[116], laws_heldSigS⟩
def laws_heldSigS_l : List LE := [⟨0, ⟨[(0, .one (.pv (.bool false))), (1, .one (.pv (.bool false))), (4, .one (.pv (.bool false))), (5, .one (.pv (.bool false)))], [], [], 0, 31⟩, fun K k v => laws_heldSigS_r0 v K (k .ret ⟨[(4, .one (.pv (I (-1))))], [], [], 0, 31⟩) (fun x0 x1 x2 x3 => k (.exit 0) ⟨[(0, .one (.pv x0)), (1, .one (.pv x1)), (4, .one (.pv x2)), (5, .one (.pv x3))], [], [], 0, 31⟩)⟩]
theorem laws_heldSigS_s : LEsOK (orac []) TT (kk [0, 1, 4, 5]) (sumsOf laws_heldSigS_l) Try.f116 laws_heldSigS_l := ⟨fun v K k h => by
  apply un_all h; exact fun v0 v1 v2 v3 h => Eq.mpr (by kernel_rfl) h
  , trivial⟩
theorem laws_heldSigS_w : EntOK Try.prog TT laws_heldSigS_e := ent_ok tabok (L := []) trivial (keep := (kk [0, 1, 4, 5])) (l := laws_heldSigS_l) Try.func116 (by kernel_rfl) (sg := [.one (.sc)]) (by kernel_rfl) laws_heldSigS_s fun av k h => by
  unfold laws_heldSigS at h; split at h
  · exact Eq.mpr (by kernel_rfl) h
  · exact h.elim

def laws_heldSignedS_r0 (v : List PV) (K : List PV → Prop) (x0k : Prop) (x1k : Prop) (x2k : Prop) (x3k : Prop) (x4k : Prop) (x5k : PV → PV → PV → PV → Prop) : Prop :=
 un 4 (fun v0 v1 v2 v3 =>
  lenP v0 fun r0 =>
  binP .lss v3 r0 fun r1 =>
  iteP r1
   (elemP 17 v0 v3 fun c2 =>
   binP .neq (atP c2 0) v1 fun r3 =>
   iteP r3
    (x0k)
    (binP .add v1 (I 1) fun r4 =>
    elemP 17 v0 v3 fun c5 =>
    binP .neq (atP c5 1) r4 fun r6 =>
    iteP r6
     (x0k)
     (binP .add r4 (I 1) fun r7 =>
     elemP 17 v0 v3 fun c8 =>
     binP .neq (atP c8 2) r7 fun r9 =>
     iteP r9
      (x0k)
      (binP .add r7 (I 1) fun r10 =>
      elemP 17 v0 v3 fun c11 =>
      binP .neq (atP c11 3) r10 fun r12 =>
      iteP r12
       (x0k)
       (binP .add r10 (I 1) fun r13 =>
       elemP 17 v0 v3 fun c14 =>
       binP .neq (atP c14 4) r13 fun r15 =>
       iteP r15
        (x0k)
        (binP .add r13 (I 1) fun r16 =>
        elemP 17 v0 v3 fun c17 =>
        binP .neq (atP c17 5) r16 fun r18 =>
        iteP r18
         (x0k)
         (binP .add r16 (I 1) fun r19 =>
         elemP 17 v0 v3 fun c20 =>
         binP .neq (atP c20 6) r19 fun r21 =>
         iteP r21
          (x0k)
          (binP .add r19 (I 1) fun r22 =>
          elemP 17 v0 v3 fun c23 =>
          binP .neq (atP c23 7) r22 fun r24 =>
          iteP r24
           (x0k)
           (binP .add r22 (I 1) fun r25 =>
           elemP 17 v0 v3 fun c26 =>
           call laws_heldIntS [.one (atP c26 8), .one r25] fun o27 =>
           binP .lss (atP o27 0) (I 0) fun r28 =>
           iteP r28
            (x1k)
            (elemP 17 v0 v3 fun c29 =>
            binP .neq (atP c29 9) (atP o27 0) fun r30 =>
            iteP r30
             (x1k)
             (binP .add (atP o27 0) (I 1) fun r31 =>
             elemP 17 v0 v3 fun c32 =>
             call laws_heldIntS [.one (atP c32 10), .one r31] fun o33 =>
             binP .lss (atP o33 0) (I 0) fun r34 =>
             iteP r34
              (x2k)
              (elemP 17 v0 v3 fun c35 =>
              binP .neq (atP c35 11) (atP o33 0) fun r36 =>
              iteP r36
               (x2k)
               (binP .add (atP o33 0) (I 1) fun r37 =>
               elemP 17 v0 v3 fun c38 =>
               binP .neq (atP c38 12) r37 fun r39 =>
               iteP r39
                (x2k)
                (binP .add r37 (I 1) fun r40 =>
                elemP 17 v0 v3 fun c41 =>
                call laws_heldIntS [.one (atP c41 13), .one r40] fun o42 =>
                binP .lss (atP o42 0) (I 0) fun r43 =>
                iteP r43
                 (x3k)
                 (elemP 17 v0 v3 fun c44 =>
                 binP .neq (atP c44 14) (atP o42 0) fun r45 =>
                 iteP r45
                  (x3k)
                  (binP .add (atP o42 0) (I 1) fun r46 =>
                  elemP 17 v0 v3 fun c47 =>
                  binP .rem r46 (I 3) fun r48 =>
                  binP .eql r48 (I 0) fun r49 =>
                  boolP .neq (atP c47 15) r49 fun r50 =>
                  iteP r50
                   (x3k)
                   (binP .add r46 (I 1) fun r51 =>
                   elemP 17 v0 v3 fun c52 =>
                   call laws_heldSigS [.one (atP c52 16), .one r51] fun o53 =>
                   binP .lss (atP o53 0) (I 0) fun r54 =>
                   iteP r54
                    (x4k)
                    (binP .add v3 (I 1) fun r55 =>
                    K [v0, (atP o53 0), v2, r55]))))))))))))))))))
   (x5k v0 v1 v2 v3)) v
def laws_heldSignedS : GM
 | [.one a0, .one a1], k => 
  lp (fun L w => laws_heldSignedS_r0 w L
   (rt [.sc] [(I (-1))] k)
   (rt [.sc] [(I (-1))] k)
   (rt [.sc] [(I (-1))] k)
   (rt [.sc] [(I (-1))] k)
   (rt [.sc] [(I (-1))] k)
   (fun q56 q57 q58 q59 => rt [.sc] [q57] k)) [a0, a1, (I 0), (I 0)]
 | _, _ => False
abbrev laws_heldSignedS_e : Ent := ⟨[59], laws_heldSignedS⟩
def laws_heldSignedS_l : List LE := [⟨0, ⟨[(0, .one (.pv (.bool false))), (1, .one (.pv (.bool false))), (4, .one (.pv (.bool false))), (5, .one (.pv (.bool false)))], [], [], 0, 190⟩, fun K k v => laws_heldSignedS_r0 v K (k .ret ⟨[(4, .one (.pv (I (-1))))], [], [], 0, 190⟩) (k .ret ⟨[(4, .one (.pv (I (-1))))], [], [], 1, 190⟩) (k .ret ⟨[(4, .one (.pv (I (-1))))], [], [], 2, 190⟩) (k .ret ⟨[(4, .one (.pv (I (-1))))], [], [], 3, 190⟩) (k .ret ⟨[(4, .one (.pv (I (-1))))], [], [], 4, 190⟩) (fun x0 x1 x2 x3 => k (.exit 0) ⟨[(0, .one (.pv x0)), (1, .one (.pv x1)), (4, .one (.pv x2)), (5, .one (.pv x3))], [], [], 0, 190⟩)⟩]
theorem laws_heldSignedS_s : LEsOK (orac [laws_heldIntS_e, laws_heldSigS_e]) TT (kk [0, 1, 4, 5]) (sumsOf laws_heldSignedS_l) Try.f59 laws_heldSignedS_l := ⟨fun v K k h => by
  apply un_all h; exact fun v0 v1 v2 v3 h => Eq.mpr (by kernel_rfl) h
  , trivial⟩
theorem laws_heldSignedS_w : EntOK Try.prog TT laws_heldSignedS_e := ent_ok tabok (L := [laws_heldIntS_e, laws_heldSigS_e]) ⟨laws_heldIntS_w, laws_heldSigS_w, trivial⟩ (keep := (kk [0, 1, 4, 5])) (l := laws_heldSignedS_l) Try.func59 (by kernel_rfl) (sg := [.one (.sc)]) (by kernel_rfl) laws_heldSignedS_s fun av k h => by
  unfold laws_heldSignedS at h; split at h
  · exact Eq.mpr (by kernel_rfl) h
  · exact h.elim

def laws_heldStringS_r0 (v : List PV) (K : List PV → Prop) (x0k : Prop) (x1k : PV → PV → PV → PV → Prop) : Prop :=
 un 4 (fun v0 v1 v2 v3 =>
  lenP v0 fun r0 =>
  binP .lss v3 r0 fun r1 =>
  iteP r1
   (elemP 1 v0 v3 fun c2 =>
   call laws_markText [.one v1] fun o3 =>
   binP .neq (atP c2 0) (atP o3 0) fun r4 =>
   iteP r4
    (x0k)
    (binP .add v1 (I 1) fun r5 =>
    binP .add v3 (I 1) fun r6 =>
    K [v0, r5, v2, r6]))
   (x1k v0 v1 v2 v3)) v
def laws_heldStringS : GM
 | [.one a0, .one a1], k => 
  lp (fun L w => laws_heldStringS_r0 w L
   (rt [.sc] [(I (-1))] k)
   (fun q7 q8 q9 q10 => rt [.sc] [q8] k)) [a0, a1, (I 0), (I 0)]
 | _, _ => False
abbrev laws_heldStringS_e : Ent := ⟨[117], laws_heldStringS⟩
def laws_heldStringS_l : List LE := [⟨0, ⟨[(0, .one (.pv (.bool false))), (1, .one (.pv (.bool false))), (4, .one (.pv (.bool false))), (5, .one (.pv (.bool false)))], [], [], 0, 22⟩, fun K k v => laws_heldStringS_r0 v K (k .ret ⟨[(4, .one (.pv (I (-1))))], [], [], 1, 22⟩) (fun x0 x1 x2 x3 => k (.exit 0) ⟨[(0, .one (.pv x0)), (1, .one (.pv x1)), (4, .one (.pv x2)), (5, .one (.pv x3))], [], [], 0, 22⟩)⟩]
theorem laws_heldStringS_s : LEsOK (orac [laws_markText_e]) TT (kk [0, 1, 4, 5]) (sumsOf laws_heldStringS_l) Try.f117 laws_heldStringS_l := ⟨fun v K k h => by
  apply un_all h; exact fun v0 v1 v2 v3 h => Eq.mpr (by kernel_rfl) h
  , trivial⟩
theorem laws_heldStringS_w : EntOK Try.prog TT laws_heldStringS_e := ent_ok tabok (L := [laws_markText_e]) ⟨laws_markText_w, trivial⟩ (keep := (kk [0, 1, 4, 5])) (l := laws_heldStringS_l) Try.func117 (by kernel_rfl) (sg := [.one (.sc)]) (by kernel_rfl) laws_heldStringS_s fun av k h => by
  unfold laws_heldStringS at h; split at h
  · exact Eq.mpr (by kernel_rfl) h
  · exact h.elim

def laws_heldEntry : GM
 | [.agg u0, .one a4], k => un 4 (fun a0 a1 a2 a3 => 
  call laws_heldStringS [.one a3, .one a4] fun o0 =>
  binP .lss (atP o0 0) (I 0) fun r1 =>
  iteP r1
   (rt [.sc] [(I (-1))] k)
   (rt [.sc] [(atP o0 0)] k)) u0
 | _, _ => False
abbrev laws_heldEntry_e : Ent := ⟨[60], laws_heldEntry⟩
theorem laws_heldEntry_w : EntOK Try.prog TT laws_heldEntry_e := ent_ok tabok (L := [laws_heldStringS_e]) ⟨laws_heldStringS_w, trivial⟩ (keep := []) (l := []) Try.func60 (by kernel_rfl) (sg := [.one (.sc)]) (by kernel_rfl) trivial fun av k h => by
  unfold laws_heldEntry at h; split at h
  · apply un_all h; clear h; intro a0 a1 a2 a3 h; exact Eq.mpr (by kernel_rfl) h
  · exact h.elim

def laws_heldProof : GM
 | [.agg u0, .one a2], k => un 2 (fun a0 a1 => 
  call laws_heldIntS [.one a1, .one a2] fun o0 =>
  binP .lss (atP o0 0) (I 0) fun r1 =>
  iteP r1
   (rt [.sc] [(I (-1))] k)
   (rt [.sc] [(atP o0 0)] k)) u0
 | _, _ => False
abbrev laws_heldProof_e : Ent := ⟨[61], laws_heldProof⟩
theorem laws_heldProof_w : EntOK Try.prog TT laws_heldProof_e := ent_ok tabok (L := [laws_heldIntS_e]) ⟨laws_heldIntS_w, trivial⟩ (keep := []) (l := []) Try.func61 (by kernel_rfl) (sg := [.one (.sc)]) (by kernel_rfl) trivial fun av k h => by
  unfold laws_heldProof at h; split at h
  · apply un_all h; clear h; intro a0 a1 h; exact Eq.mpr (by kernel_rfl) h
  · exact h.elim

def laws_heldGap : GM
 | [.agg u0, .one a13], k => un 13 (fun a0 a1 a2 a3 a4 a5 a6 a7 a8 a9 a10 a11 a12 => 
  call laws_heldEntry [.agg [a1, a2, a3, a4], .one a13] fun o0 =>
  binP .lss (atP o0 0) (I 0) fun r1 =>
  iteP r1
   (rt [.sc] [(I (-1))] k)
   (call laws_heldEntry [.agg [a5, a6, a7, a8], .one (atP o0 0)] fun o2 =>
   binP .lss (atP o2 0) (I 0) fun r3 =>
   iteP r3
    (rt [.sc] [(I (-1))] k)
    (call laws_heldProof [.agg [a9, a10], .one (atP o2 0)] fun o4 =>
    binP .lss (atP o4 0) (I 0) fun r5 =>
    iteP r5
     (rt [.sc] [(I (-1))] k)
     (call laws_heldProof [.agg [a11, a12], .one (atP o4 0)] fun o6 =>
     binP .lss (atP o6 0) (I 0) fun r7 =>
     iteP r7
      (rt [.sc] [(I (-1))] k)
      (rt [.sc] [(atP o6 0)] k))))) u0
 | _, _ => False
abbrev laws_heldGap_e : Ent := ⟨[62], laws_heldGap⟩
theorem laws_heldGap_w : EntOK Try.prog TT laws_heldGap_e := ent_ok tabok (L := [laws_heldEntry_e, laws_heldProof_e]) ⟨laws_heldEntry_w, laws_heldProof_w, trivial⟩ (keep := []) (l := []) Try.func62 (by kernel_rfl) (sg := [.one (.sc)]) (by kernel_rfl) trivial fun av k h => by
  unfold laws_heldGap at h; split at h
  · apply un_all h; clear h; intro a0 a1 a2 a3 a4 a5 a6 a7 a8 a9 a10 a11 a12 h; exact Eq.mpr (by kernel_rfl) h
  · exact h.elim

def laws_heldAnswer : GM
 | [.agg u0, .one a21], k => un 21 (fun a0 a1 a2 a3 a4 a5 a6 a7 a8 a9 a10 a11 a12 a13 a14 a15 a16 a17 a18 a19 a20 => 
  call laws_heldSignedS [.one a0, .one a21] fun o0 =>
  binP .lss (atP o0 0) (I 0) fun r1 =>
  iteP r1
   (rt [.sc] [(I (-1))] k)
   (call laws_heldEntry [.agg [a2, a3, a4, a5], .one (atP o0 0)] fun o2 =>
   binP .lss (atP o2 0) (I 0) fun r3 =>
   iteP r3
    (rt [.sc] [(I (-1))] k)
    (call laws_heldProof [.agg [a6, a7], .one (atP o2 0)] fun o4 =>
    binP .lss (atP o4 0) (I 0) fun r5 =>
    iteP r5
     (rt [.sc] [(I (-1))] k)
     (call laws_heldGap [.agg [a8, a9, a10, a11, a12, a13, a14, a15, a16, a17, a18, a19, a20], .one (atP o4 0)] fun o6 =>
     binP .lss (atP o6 0) (I 0) fun r7 =>
     iteP r7
      (rt [.sc] [(I (-1))] k)
      (rt [.sc] [(atP o6 0)] k))))) u0
 | _, _ => False
abbrev laws_heldAnswer_e : Ent := ⟨[24], laws_heldAnswer⟩
theorem laws_heldAnswer_w : EntOK Try.prog TT laws_heldAnswer_e := ent_ok tabok (L := [laws_heldSignedS_e, laws_heldEntry_e, laws_heldProof_e, laws_heldGap_e]) ⟨laws_heldSignedS_w, laws_heldEntry_w, laws_heldProof_w, laws_heldGap_w, trivial⟩ (keep := []) (l := []) Try.func24 (by kernel_rfl) (sg := [.one (.sc)]) (by kernel_rfl) trivial fun av k h => by
  unfold laws_heldAnswer at h; split at h
  · apply un_all h; clear h; intro a0 a1 a2 a3 a4 a5 a6 a7 a8 a9 a10 a11 a12 a13 a14 a15 a16 a17 a18 a19 a20 h; exact Eq.mpr (by kernel_rfl) h
  · exact h.elim

def laws_FnExactPickAnswer : GM
 | [.one a0, .one a1], k => 
  lenS a1 fun r0 =>
  binP .gtr r0 (I 1048576) fun r1 =>
  iteP r1
   (rt [.sc] [(.bool true)] k)
   (call laws_szAnswerS [.one a0, .one (I 1048576)] fun o2 =>
   binP .lss (atP o2 0) (I 0) fun r3 =>
   iteP r3
    (rt [.sc] [(.bool true)] k)
    (call laws_toAnswerS [.one a0] fun o4 =>
    call spec_PickAnswer [.one (atP o4 0), .one a1] fun o5 =>
    call laws_toAnswerS [.one a0] fun o6 =>
    call impl_PickAnswer [.one (atP o6 0), .one a1] fun o7 =>
    call laws_eqAnswer [.agg [(atP o7 0), (atP o7 1), (atP o7 2), (atP o7 3), (atP o7 4), (atP o7 5), (atP o7 6), (atP o7 7), (atP o7 8), (atP o7 9), (atP o7 10), (atP o7 11), (atP o7 12), (atP o7 13), (atP o7 14), (atP o7 15), (atP o7 16), (atP o7 17), (atP o7 18), (atP o7 19), (atP o7 20)], .agg [(atP o5 0), (atP o5 1), (atP o5 2), (atP o5 3), (atP o5 4), (atP o5 5), (atP o5 6), (atP o5 7), (atP o5 8), (atP o5 9), (atP o5 10), (atP o5 11), (atP o5 12), (atP o5 13), (atP o5 14), (atP o5 15), (atP o5 16), (atP o5 17), (atP o5 18), (atP o5 19), (atP o5 20)]] fun o8 =>
    unP .not (atP o8 0) fun r9 =>
    iteP r9
     (rt [.sc] [(.bool false)] k)
     (boolP .neq (atP o7 21) (atP o5 21) fun r10 =>
     iteP r10
      (rt [.sc] [(.bool false)] k)
      (call laws_toAnswerS [.one a0] fun o11 =>
      call laws_eqAnswerS [.one (atP o6 0), .one (atP o11 0)] fun o12 =>
      unP .not (atP o12 0) fun r13 =>
      iteP r13
       (rt [.sc] [(.bool false)] k)
       ((flatCond [.nil 45 21] [.own 25]) ∧ call laws_markAnswerS [.one (atP [(atP o6 0)] 0), .one (I 1)] fun o14 =>
       binP .lss (atP o14 1) (I 0) fun r15 =>
       iteP r15
        (rt [.sc] [(.bool false)] k)
        (call laws_eqAnswer [.agg [(atP o7 0), (atP o7 1), (atP o7 2), (atP o7 3), (atP o7 4), (atP o7 5), (atP o7 6), (atP o7 7), (atP o7 8), (atP o7 9), (atP o7 10), (atP o7 11), (atP o7 12), (atP o7 13), (atP o7 14), (atP o7 15), (atP o7 16), (atP o7 17), (atP o7 18), (atP o7 19), (atP o7 20)], .agg [(atP o5 0), (atP o5 1), (atP o5 2), (atP o5 3), (atP o5 4), (atP o5 5), (atP o5 6), (atP o5 7), (atP o5 8), (atP o5 9), (atP o5 10), (atP o5 11), (atP o5 12), (atP o5 13), (atP o5 14), (atP o5 15), (atP o5 16), (atP o5 17), (atP o5 18), (atP o5 19), (atP o5 20)]] fun o16 =>
        unP .not (atP o16 0) fun r17 =>
        iteP r17
         (rt [.sc] [(.bool false)] k)
         (boolP .neq (atP o7 21) (atP o5 21) fun r18 =>
         iteP r18
          (rt [.sc] [(.bool false)] k)
          ((flatCond [.nil 148 17, .pv (.bool false), .pv (.str ⟨#[]⟩), .pv (I 0), .pv (I 0), .nil 9 1, .pv (I 0), .nil 3 1, .pv (I 0), .pv (.str ⟨#[]⟩), .pv (I 0), .pv (I 0), .nil 9 1, .pv (.str ⟨#[]⟩), .pv (I 0), .pv (I 0), .nil 9 1, .pv (I 0), .nil 3 1, .pv (I 0), .nil 3 1] [.own 26, .pv (atP o7 1), .pv (atP o7 2), .pv (atP o7 3), .pv (atP o7 4), .own 31, .pv (atP o7 6), .own 33, .pv (atP o7 8), .pv (atP o7 9), .pv (atP o7 10), .pv (atP o7 11), .own 38, .pv (atP o7 13), .pv (atP o7 14), .pv (atP o7 15), .own 42, .pv (atP o7 17), .own 44, .pv (atP o7 19), .own 46]) ∧ call laws_markAnswer [.agg [(atP o7 0), (atP o7 1), (atP o7 2), (atP o7 3), (atP o7 4), (atP o7 5), (atP o7 6), (atP o7 7), (atP o7 8), (atP o7 9), (atP o7 10), (atP o7 11), (atP o7 12), (atP o7 13), (atP o7 14), (atP o7 15), (atP o7 16), (atP o7 17), (atP o7 18), (atP o7 19), (atP o7 20)], .one (I 1)] fun o19 =>
          call laws_heldAnswer [.agg [(atP o19 0), (atP o7 1), (atP o7 2), (atP o7 3), (atP o7 4), (atP o19 5), (atP o7 6), (atP o19 7), (atP o7 8), (atP o7 9), (atP o7 10), (atP o7 11), (atP o19 12), (atP o7 13), (atP o7 14), (atP o7 15), (atP o19 16), (atP o7 17), (atP o19 18), (atP o7 19), (atP o19 20)], .one (I 1)] fun o20 =>
          binP .lss (atP o20 0) (I 0) fun r21 =>
          iteP r21
           (rt [.sc] [(.bool false)] k)
           (binP .neq (atP o20 0) (atP o19 21) fun r22 =>
           iteP r22
            (rt [.sc] [(.bool false)] k)
            (call laws_toAnswerS [.one a0] fun o23 =>
            call impl_PickAnswer [.one (atP o23 0), .one a1] fun o24 =>
            call laws_eqAnswer [.agg [(atP o24 0), (atP o24 1), (atP o24 2), (atP o24 3), (atP o24 4), (atP o24 5), (atP o24 6), (atP o24 7), (atP o24 8), (atP o24 9), (atP o24 10), (atP o24 11), (atP o24 12), (atP o24 13), (atP o24 14), (atP o24 15), (atP o24 16), (atP o24 17), (atP o24 18), (atP o24 19), (atP o24 20)], .agg [(atP o5 0), (atP o5 1), (atP o5 2), (atP o5 3), (atP o5 4), (atP o5 5), (atP o5 6), (atP o5 7), (atP o5 8), (atP o5 9), (atP o5 10), (atP o5 11), (atP o5 12), (atP o5 13), (atP o5 14), (atP o5 15), (atP o5 16), (atP o5 17), (atP o5 18), (atP o5 19), (atP o5 20)]] fun o25 =>
            unP .not (atP o25 0) fun r26 =>
            iteP r26
             (rt [.sc] [(.bool false)] k)
             (boolP .neq (atP o24 21) (atP o5 21) fun r27 =>
             iteP r27
              (rt [.sc] [(.bool false)] k)
              (call laws_heldAnswer [.agg [(atP o19 0), (atP o7 1), (atP o7 2), (atP o7 3), (atP o7 4), (atP o19 5), (atP o7 6), (atP o19 7), (atP o7 8), (atP o7 9), (atP o7 10), (atP o7 11), (atP o19 12), (atP o7 13), (atP o7 14), (atP o7 15), (atP o19 16), (atP o7 17), (atP o19 18), (atP o7 19), (atP o19 20)], .one (I 1)] fun o28 =>
              binP .lss (atP o28 0) (I 0) fun r29 =>
              iteP r29
               (rt [.sc] [(.bool false)] k)
               (binP .neq (atP o28 0) (atP o19 21) fun r30 =>
               iteP r30
                (rt [.sc] [(.bool false)] k)
                (rt [.sc] [(.bool true)] k))))))))))))))
 | _, _ => False
abbrev laws_FnExactPickAnswer_e : Ent := ⟨[5], laws_FnExactPickAnswer⟩
theorem laws_FnExactPickAnswer_w : EntOK Try.prog TT laws_FnExactPickAnswer_e := ent_ok tabok (L := [laws_szAnswerS_e, laws_toAnswerS_e, spec_PickAnswer_e, impl_PickAnswer_e, laws_eqAnswer_e, laws_eqAnswerS_e, laws_markAnswerS_e, laws_markAnswer_e, laws_heldAnswer_e]) ⟨laws_szAnswerS_w, laws_toAnswerS_w, spec_PickAnswer_w, impl_PickAnswer_w, laws_eqAnswer_w, laws_eqAnswerS_w, laws_markAnswerS_w, laws_markAnswer_w, laws_heldAnswer_w, trivial⟩ (keep := []) (l := []) Try.func5 (by kernel_rfl) (sg := [.one (.sc)]) (by kernel_rfl) trivial fun av k h => by
  unfold laws_FnExactPickAnswer at h; split at h
  · exact Eq.mpr (by kernel_rfl) h
  · exact h.elim


end Go.Ev
