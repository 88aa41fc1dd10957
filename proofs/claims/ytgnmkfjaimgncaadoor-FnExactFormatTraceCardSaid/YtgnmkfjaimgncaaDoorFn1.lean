/- The tables of this load, and for each function the meaning that the evaluator gives it, with its proof, part 1. -/
import Derived.Test.YtgnmkfjaimgncaaDoorEv3
import Derived.Shelf.Strconv.Itoa3
import Derived.Shelf.Strings.OnBuilder
import Derived.Test.YtgnmkfjaimgncaaDoorProg
namespace Go.Ev
open Go.Proofs
def TT : Tab := ⟨[(2, tI),
  (3, tI),
  (4, tB),
  (5, ⟨false, 1, 0, 1, [], [.pv (.int .u8 0)], some .u8, 0, false⟩),
  (6, ⟨false, 1, 0, 1, [], [.pv (.int .u8 0)], some .u8, 0, false⟩),
  (7, ⟨true, 4, 0, 24, [(0, 2), (1, 3), (2, 4), (3, 6)], [zI, zI, zB, .pv (.int .u8 0)], none, 0, true⟩),
  (8, ⟨true, 4, 0, 24, [(0, 2), (1, 3), (2, 4), (3, 6)], [zI, zI, zB, .pv (.int .u8 0)], none, 0, true⟩),
  (9, tS),
  (10, tS),
  (11, tS),
  (12, ⟨false, 1, 0, 8, [], [.pv (.int .u64 0)], some .u64, 0, false⟩),
  (13, ⟨true, 2, 0, 24, [(0, 9), (1, 12)], [zS, .pv (.int .u64 0)], none, 0, false⟩),
  (14, ⟨true, 2, 0, 24, [(0, 9), (1, 12)], [zS, .pv (.int .u64 0)], none, 0, false⟩),
  (21, ⟨false, 1, 0, 4, [], [.pv (.int .i32 0)], some .i32, 0, false⟩),
  (22, ⟨false, 1, 3, 24, [], [.nil 3 1], none, 0, false⟩),
  (23, ⟨true, 2, 0, 32, [(0, 22), (1, 3)], [.nil 3 1, zI], none, 0, false⟩),
  (24, ⟨true, 2, 0, 32, [(0, 22), (1, 3)], [.nil 3 1, zI], none, 0, false⟩),
  (27, ⟨true, 2, 0, 32, [(0, 22), (1, 3)], [.nil 3 1, zI], none, 0, false⟩),
  (31, ⟨false, 1, 9, 24, [], [.nil 9 1], none, 0, false⟩),
  (32, ⟨true, 4, 0, 56, [(0, 9), (1, 3), (2, 3), (3, 31)], [zS, zI, zI, .nil 9 1], none, 0, false⟩),
  (33, ⟨true, 4, 0, 56, [(0, 9), (1, 3), (2, 3), (3, 31)], [zS, zI, zI, .nil 9 1], none, 0, false⟩),
  (36, ⟨true, 4, 0, 56, [(0, 9), (1, 3), (2, 3), (3, 31)], [zS, zI, zI, .nil 9 1], none, 0, false⟩),
  (40, ⟨true, 16, 0, 176, [(0, 3), (1, 3), (2, 3), (3, 3), (4, 3), (5, 3), (6, 3), (7, 3), (8, 24), (10, 24), (12, 3), (13, 24), (15, 4)], [zI, zI, zI, zI, zI, zI, zI, zI, .nil 3 1, zI, .nil 3 1, zI, zI, .nil 3 1, zI, zB], none, 0, false⟩),
  (41, ⟨true, 16, 0, 176, [(0, 3), (1, 3), (2, 3), (3, 3), (4, 3), (5, 3), (6, 3), (7, 3), (8, 24), (10, 24), (12, 3), (13, 24), (15, 4)], [zI, zI, zI, zI, zI, zI, zI, zI, .nil 3 1, zI, .nil 3 1, zI, zI, .nil 3 1, zI, zB], none, 0, false⟩),
  (44, ⟨true, 16, 0, 176, [(0, 3), (1, 3), (2, 3), (3, 3), (4, 3), (5, 3), (6, 3), (7, 3), (8, 27), (10, 27), (12, 3), (13, 27), (15, 4)], [zI, zI, zI, zI, zI, zI, zI, zI, .nil 3 1, zI, .nil 3 1, zI, zI, .nil 3 1, zI, zB], none, 0, false⟩),
  (45, ⟨true, 16, 0, 176, [(0, 3), (1, 3), (2, 3), (3, 3), (4, 3), (5, 3), (6, 3), (7, 3), (8, 27), (10, 27), (12, 3), (13, 27), (15, 4)], [zI, zI, zI, zI, zI, zI, zI, zI, .nil 3 1, zI, .nil 3 1, zI, zI, .nil 3 1, zI, zB], none, 0, false⟩),
  (49, ⟨false, 1, 33, 24, [], [.nil 33 4], none, 0, false⟩),
  (50, ⟨true, 6, 0, 88, [(0, 3), (1, 33), (5, 49)], [zI, zS, zI, zI, .nil 9 1, .nil 33 4], none, 0, false⟩),
  (51, ⟨true, 6, 0, 88, [(0, 3), (1, 33), (5, 49)], [zI, zS, zI, zI, .nil 9 1, .nil 33 4], none, 0, false⟩),
  (54, ⟨false, 1, 36, 24, [], [.nil 36 4], none, 0, false⟩),
  (55, ⟨true, 6, 0, 88, [(0, 3), (1, 36), (5, 54)], [zI, zS, zI, zI, .nil 9 1, .nil 36 4], none, 0, false⟩),
  (56, ⟨true, 6, 0, 88, [(0, 3), (1, 36), (5, 54)], [zI, zS, zI, zI, .nil 9 1, .nil 36 4], none, 0, false⟩),
  (60, ⟨false, 1, 118, 24, [], [.nil 118 1], none, 0, false⟩),
  (61, ⟨false, 1, 124, 24, [], [.nil 124 51], none, 0, false⟩),
  (62, ⟨true, 2, 0, 48, [(0, 60), (1, 61)], [.nil 118 1, .nil 124 51], none, 0, false⟩),
  (63, ⟨true, 2, 0, 48, [(0, 60), (1, 61)], [.nil 118 1, .nil 124 51], none, 0, false⟩),
  (64, ⟨true, 9, 0, 144, [(0, 63), (2, 3), (3, 33), (7, 22), (8, 3)], [.nil 118 1, .nil 124 51, zI, zS, zI, zI, .nil 9 1, .nil 3 1, zI], none, 0, false⟩),
  (65, ⟨true, 9, 0, 144, [(0, 63), (2, 3), (3, 33), (7, 22), (8, 3)], [.nil 118 1, .nil 124 51, zI, zS, zI, zI, .nil 9 1, .nil 3 1, zI], none, 0, false⟩),
  (68, ⟨false, 1, 125, 24, [], [.nil 125 1], none, 0, false⟩),
  (69, ⟨false, 1, 131, 24, [], [.nil 131 51], none, 0, false⟩),
  (70, ⟨true, 2, 0, 48, [(0, 68), (1, 69)], [.nil 125 1, .nil 131 51], none, 0, false⟩),
  (71, ⟨true, 2, 0, 48, [(0, 68), (1, 69)], [.nil 125 1, .nil 131 51], none, 0, false⟩),
  (72, ⟨true, 9, 0, 144, [(0, 71), (2, 3), (3, 36), (7, 22), (8, 3)], [.nil 125 1, .nil 131 51, zI, zS, zI, zI, .nil 9 1, .nil 3 1, zI], none, 0, false⟩),
  (73, ⟨true, 9, 0, 144, [(0, 71), (2, 3), (3, 36), (7, 22), (8, 3)], [.nil 125 1, .nil 131 51, zI, zS, zI, zI, .nil 9 1, .nil 3 1, zI], none, 0, false⟩),
  (97, ⟨false, 1, 5, 24, [], [.nil 5 1], none, 2, false⟩),
  (118, ⟨false, 1, 122, 24, [], [.nil 122 17], none, 0, false⟩),
  (120, ⟨false, 1, 163, 24, [], [.nil 163 2], none, 0, false⟩),
  (121, ⟨true, 17, 0, 200, [(0, 41), (16, 120)], [zI, zI, zI, zI, zI, zI, zI, zI, .nil 3 1, zI, .nil 3 1, zI, zI, .nil 3 1, zI, zB, .nil 163 2], none, 0, false⟩),
  (122, ⟨true, 17, 0, 200, [(0, 41), (16, 120)], [zI, zI, zI, zI, zI, zI, zI, zI, .nil 3 1, zI, .nil 3 1, zI, zI, .nil 3 1, zI, zB, .nil 163 2], none, 0, false⟩),
  (123, ⟨true, 51, 0, 600, [(0, 122), (17, 122), (34, 122)], [zI, zI, zI, zI, zI, zI, zI, zI, .nil 3 1, zI, .nil 3 1, zI, zI, .nil 3 1, zI, zB, .nil 163 2, zI, zI, zI, zI, zI, zI, zI, zI, .nil 3 1, zI, .nil 3 1, zI, zI, .nil 3 1, zI, zB, .nil 163 2, zI, zI, zI, zI, zI, zI, zI, zI, .nil 3 1, zI, .nil 3 1, zI, zI, .nil 3 1, zI, zB, .nil 163 2], none, 0, false⟩),
  (124, ⟨true, 51, 0, 600, [(0, 122), (17, 122), (34, 122)], [zI, zI, zI, zI, zI, zI, zI, zI, .nil 3 1, zI, .nil 3 1, zI, zI, .nil 3 1, zI, zB, .nil 163 2, zI, zI, zI, zI, zI, zI, zI, zI, .nil 3 1, zI, .nil 3 1, zI, zI, .nil 3 1, zI, zB, .nil 163 2, zI, zI, zI, zI, zI, zI, zI, zI, .nil 3 1, zI, .nil 3 1, zI, zI, .nil 3 1, zI, zB, .nil 163 2], none, 0, false⟩),
  (125, ⟨false, 1, 129, 24, [], [.nil 129 17], none, 0, false⟩),
  (127, ⟨false, 1, 161, 24, [], [.nil 161 2], none, 0, false⟩),
  (128, ⟨true, 17, 0, 200, [(0, 45), (16, 127)], [zI, zI, zI, zI, zI, zI, zI, zI, .nil 3 1, zI, .nil 3 1, zI, zI, .nil 3 1, zI, zB, .nil 161 2], none, 0, false⟩),
  (129, ⟨true, 17, 0, 200, [(0, 45), (16, 127)], [zI, zI, zI, zI, zI, zI, zI, zI, .nil 3 1, zI, .nil 3 1, zI, zI, .nil 3 1, zI, zB, .nil 161 2], none, 0, false⟩),
  (130, ⟨true, 51, 0, 600, [(0, 129), (17, 129), (34, 129)], [zI, zI, zI, zI, zI, zI, zI, zI, .nil 3 1, zI, .nil 3 1, zI, zI, .nil 3 1, zI, zB, .nil 161 2, zI, zI, zI, zI, zI, zI, zI, zI, .nil 3 1, zI, .nil 3 1, zI, zI, .nil 3 1, zI, zB, .nil 161 2, zI, zI, zI, zI, zI, zI, zI, zI, .nil 3 1, zI, .nil 3 1, zI, zI, .nil 3 1, zI, zB, .nil 161 2], none, 0, false⟩),
  (131, ⟨true, 51, 0, 600, [(0, 129), (17, 129), (34, 129)], [zI, zI, zI, zI, zI, zI, zI, zI, .nil 3 1, zI, .nil 3 1, zI, zI, .nil 3 1, zI, zB, .nil 161 2, zI, zI, zI, zI, zI, zI, zI, zI, .nil 3 1, zI, .nil 3 1, zI, zI, .nil 3 1, zI, zB, .nil 161 2, zI, zI, zI, zI, zI, zI, zI, zI, .nil 3 1, zI, .nil 3 1, zI, zI, .nil 3 1, zI, zB, .nil 161 2], none, 0, false⟩),
  (144, ⟨false, 1, 0, 8, [], [.pv (.int .u64 0)], some .u64, 0, false⟩),
  (155, ⟨false, 1, 0, 4, [], [.pv (.int .u32 0)], some .u32, 0, false⟩),
  (158, ⟨false, 1, 0, 8, [], [.pv (.int .u64 0)], some .u64, 0, false⟩),
  (160, ⟨true, 2, 0, 16, [(0, 3), (1, 3)], [zI, zI], none, 0, true⟩),
  (161, ⟨true, 2, 0, 16, [(0, 3), (1, 3)], [zI, zI], none, 0, true⟩),
  (163, ⟨true, 2, 0, 16, [(0, 3), (1, 3)], [zI, zI], none, 0, true⟩),
  (174, ⟨false, 1, 0, 1, [], [.pv (.int .u8 0)], some .u8, 0, false⟩),
  (175, ⟨false, 1, 0, 1, [], [.pv (.int .u8 0)], some .u8, 0, false⟩),
  (177, ⟨false, 1, 0, 4, [], [.pv (.int .i32 0)], some .i32, 0, false⟩),
  (178, ⟨false, 1, 0, 4, [], [.pv (.int .i32 0)], some .i32, 0, false⟩)],
  [(0, []), (1, []), (2, []), (3, [.one (.sc)]), (4, [.one (.sc)]), (5, [.one (.sc)]), (6, [.one (.sc)]), (7, [.one (.sc)]), (8, [.one (.sc)]), (9, [.one (.sc)]), (10, [.agg [.own true 3 1, .sc]]), (11, [.one (.sc)]), (12, [.one (.sc)]), (13, [.one (.sc)]), (14, [.one (.sc)]), (15, [.agg [.sc, .sc, .sc, .own true 9 1]]), (16, [.one (.sc)]), (17, [.one (.sc)]), (18, [.one (.sc)]), (19, [.one (.sc)]), (20, [.agg [.sc, .sc, .sc, .sc, .sc, .sc, .sc, .sc, .own true 3 1, .sc, .own true 3 1, .sc, .sc, .own true 3 1, .sc, .sc]]), (21, [.one (.sc)]), (22, [.one (.sc)]), (23, [.one (.sc)]), (24, [.one (.sc)]), (25, [.agg [.sc, .sc, .sc, .sc, .own true 9 1, .own true 36 4]]), (26, [.one (.sc)]), (27, [.one (.sc)]), (28, [.one (.sc)]), (29, [.one (.sc)]), (30, [.agg [.own true 125 1, .own true 131 51, .sc, .sc, .sc, .sc, .own true 9 1, .own true 3 1, .sc]]), (31, [.one (.sc)]), (32, [.one (.sc)]), (33, [.one (.sc)]), (34, [.one (.sc)]), (35, [.one (.sc)]), (36, [.one (.own true 3 1)]), (37, [.one (.sc)]), (38, [.one (.sc)]), (39, [.one (.sc)]), (40, [.one (.sc)]), (41, [.one (.sc)]), (42, [.one (.sc)]), (43, [.one (.own true 9 1)]), (44, [.one (.sc)]), (45, [.one (.sc)]), (46, [.one (.sc)]), (47, [.one (.sc)]), (48, [.one (.sc)]), (49, [.one (.sc)]), (50, [.one (.sc)]), (51, [.one (.sc)]), (52, [.one (.own true 36 4)]), (53, [.one (.sc)]), (54, [.one (.sc)]), (55, [.one (.sc)]), (56, [.one (.sc)]), (57, [.one (.sc)]), (58, [.one (.sc)]), (59, [.agg [.own true 125 1, .own true 131 51]]), (60, [.one (.sc)]), (61, [.one (.sc)]), (62, [.one (.sc)]), (63, [.one (.sc)]), (64, [.one (.sc)]), (65, [.one (.sc)]), (66, [.one (.sc)]), (67, []), (69, [.one (.sc)]), (70, [.one (.sc)]), (71, [.one (.sc)]), (72, [.one (.own true 125 1)]), (73, [.one (.own true 131 51)]), (74, [.one (.sc)]), (75, [.one (.sc)]), (76, [.one (.sc)]), (77, [.one (.sc)]), (78, [.one (.sc)]), (79, [.one (.sc)]), (80, [.one (.sc)]), (81, []), (82, []), (83, [.one (.sc)]), (84, [.one (.sc)]), (85, [.one (.own true 129 17)]), (86, [.agg [.sc, .sc, .sc, .sc, .sc, .sc, .sc, .sc, .own true 3 1, .sc, .own true 3 1, .sc, .sc, .own true 3 1, .sc, .sc, .own true 161 2, .sc, .sc, .sc, .sc, .sc, .sc, .sc, .sc, .own true 3 1, .sc, .own true 3 1, .sc, .sc, .own true 3 1, .sc, .sc, .own true 161 2, .sc, .sc, .sc, .sc, .sc, .sc, .sc, .sc, .own true 3 1, .sc, .own true 3 1, .sc, .sc, .own true 3 1, .sc, .sc, .own true 161 2]]), (87, [.one (.sc)]), (88, [.one (.sc)]), (89, [.one (.sc)]), (90, [.one (.sc)]), (92, [.one (.own true 5 1)]), (93, [.one (.sc)]), (94, [.agg [.sc, .sc, .sc, .sc, .sc, .sc, .sc, .sc, .own true 3 1, .sc, .own true 3 1, .sc, .sc, .own true 3 1, .sc, .sc, .own true 161 2]]), (95, [.one (.sc)]), (96, [.one (.sc)]), (97, [.one (.sc)]), (98, []), (99, [.one (.own true 5 1), .one (.sc)]), (100, [.one (.sc)]), (101, [.one (.own true 161 2)]), (102, [.one (.sc)]), (103, [.one (.sc)]), (104, [.one (.sc)]), (105, [.one (.sc)]), (106, [.one (.sc)]), (107, [.one (.sc)]), (108, [.agg [.sc, .sc]]), (109, [.one (.sc)]), (110, [.one (.sc)]), (111, [.one (.sc)]), (112, [.one (.sc)]), (113, []), (114, [.one (.sc)]), (115, []), (116, [.one (.sc)]), (117, []), (118, [.one (.sc)]), (119, []), (120, [.one (.sc)]), (121, []), (122, [.one (.sc)]), (123, []), (124, [.one (.sc)]), (125, [.one (.sc)]), (126, []), (127, [.one (.sc)]), (128, []), (129, [.one (.sc)]), (130, [.one (.sc)]), (131, []), (132, []), (133, []), (134, []), (135, []), (136, [])], false, [], [], [129, 36]⟩
theorem tabok : TabOK Tryd.prog TT := tabB_ok (by kernel_rfl) (by kernel_rfl)
end Go.Ev
/- The library's numeral and its joining of strings, by the shelf's contracts. -/
set_option maxRecDepth 100000
namespace Go.Ev
open Go.RowKit Go.Proofs
def rhoI : Go.Shelf.Ren := ⟨fun n => match n with | 171 => 63 | 243 => 76 | 246 => 89 | 283 => 96 | 284 => 97 | 285 => 98 | 286 => 99 | 129 => 104 | 317 => 103 | 318 => 105 | 319 => 106 | 320 => 107 | 337 => 110 | 338 => 111 | n => n, fun n => match n with | 3 => 3 | 9 => 9 | 2 => 2 | 4 => 4 | 171 => 143 | 0 => 0 | 53 => 144 | 37 => 97 | 5 => 5 | 173 => 147 | 212 => 154 | 51 => 155 | 20 => 20 | 213 => 156 | 46 => 158 | 232 => 166 | 233 => 167 | n => n, fun n => match n with | 17 => 1 | 18 => 2 | 19 => 3 | n => n⟩
def rhoJ : Go.Shelf.Ren := ⟨fun n => match n with | 156 => 48 | 165 => 67 | 166 => 68 | 169 => 69 | 240 => 81 | 241 => 82 | 276 => 91 | 277 => 92 | n => n, fun n => match n with | 31 => 31 | 9 => 9 | 3 => 3 | 4 => 4 | 0 => 0 | 20 => 20 | 72 => 101 | 76 => 105 | 70 => 99 | 37 => 97 | 75 => 104 | 127 => 116 | 164 => 137 | 5 => 5 | 80 => 107 | n => n, fun n => n⟩
theorem laysI : Go.Proofs.LaysM.n171 Tryd.prog rhoI where
  mixed := by kernel_rfl
  f129 := by kernel_rfl
  f171 := by kernel_rfl
  f243 := by kernel_rfl
  f246 := by kernel_rfl
  f283 := by kernel_rfl
  f284 := by kernel_rfl
  f285 := by kernel_rfl
  f286 := by kernel_rfl
  f317 := by kernel_rfl
  f318 := by kernel_rfl
  f319 := by kernel_rfl
  f320 := by kernel_rfl
  f337 := by kernel_rfl
  f338 := by kernel_rfl
  t0 := by kernel_rfl
  a0 := fun w => by kernel_rfl
  z0 := fun w => by kernel_rfl
  v0 := fun w => by kernel_rfl
  t2 := by kernel_rfl
  a2 := fun w => by kernel_rfl
  z2 := fun w => by kernel_rfl
  v2 := fun w => by kernel_rfl
  t3 := by kernel_rfl
  a3 := fun w => by kernel_rfl
  z3 := fun w => by kernel_rfl
  v3 := fun w => by kernel_rfl
  t4 := by kernel_rfl
  a4 := fun w => by kernel_rfl
  z4 := fun w => by kernel_rfl
  v4 := fun w => by kernel_rfl
  t5 := by kernel_rfl
  a5 := fun w => by kernel_rfl
  z5 := fun w => by kernel_rfl
  v5 := fun w => by kernel_rfl
  t9 := by kernel_rfl
  a9 := fun w => by kernel_rfl
  z9 := fun w => by kernel_rfl
  v9 := fun w => by kernel_rfl
  t20 := by kernel_rfl
  a20 := fun w => by kernel_rfl
  z20 := fun w => by kernel_rfl
  v20 := fun w => by kernel_rfl
  t37 := by kernel_rfl
  a37 := fun w => by kernel_rfl
  z37 := fun w => by kernel_rfl
  v37 := fun w => by kernel_rfl
  t46 := by kernel_rfl
  a46 := fun w => by kernel_rfl
  z46 := fun w => by kernel_rfl
  v46 := fun w => by kernel_rfl
  t51 := by kernel_rfl
  a51 := fun w => by kernel_rfl
  z51 := fun w => by kernel_rfl
  v51 := fun w => by kernel_rfl
  t53 := by kernel_rfl
  a53 := fun w => by kernel_rfl
  z53 := fun w => by kernel_rfl
  v53 := fun w => by kernel_rfl
  t171 := by kernel_rfl
  a171 := fun w => by kernel_rfl
  z171 := fun w => by kernel_rfl
  v171 := fun w => by kernel_rfl
  t173 := by kernel_rfl
  a173 := fun w => by kernel_rfl
  z173 := fun w => by kernel_rfl
  v173 := fun w => by kernel_rfl
  t212 := by kernel_rfl
  a212 := fun w => by kernel_rfl
  z212 := fun w => by kernel_rfl
  v212 := fun w => by kernel_rfl
  t213 := by kernel_rfl
  a213 := fun w => by kernel_rfl
  z213 := fun w => by kernel_rfl
  t232 := by kernel_rfl
  a232 := fun w => by kernel_rfl
  z232 := fun w => by kernel_rfl
  v232 := fun w => by kernel_rfl
  t233 := by kernel_rfl
  a233 := fun w => by kernel_rfl
  z233 := fun w => by kernel_rfl
  v233 := fun w => by kernel_rfl
  g17 := by kernel_rfl
  g18 := by kernel_rfl
  g19 := by kernel_rfl
  i0 := by kernel_rfl
  i2 := by kernel_rfl
  i3 := by kernel_rfl
  i4 := by kernel_rfl
  i5 := by kernel_rfl
  i9 := by kernel_rfl
  i20 := by kernel_rfl
  i37 := by kernel_rfl
  i46 := by kernel_rfl
  i51 := by kernel_rfl
  i53 := by kernel_rfl
  i171 := by kernel_rfl
  i173 := by kernel_rfl
  i212 := by kernel_rfl
  i232 := by kernel_rfl
  i233 := by kernel_rfl
  m17 := by kernel_rfl
  m18 := by kernel_rfl
  m19 := by kernel_rfl
theorem laysJ : Go.Proofs.Lays.n156 Tryd.prog rhoJ where
  mixed := by kernel_rfl
  f156 := by kernel_rfl
  f165 := by kernel_rfl
  f166 := by kernel_rfl
  f169 := by kernel_rfl
  f240 := by kernel_rfl
  f241 := by kernel_rfl
  f276 := by kernel_rfl
  f277 := by kernel_rfl
  t0 := by kernel_rfl
  a0 := fun w => by kernel_rfl
  z0 := fun w => by kernel_rfl
  v0 := fun w => by kernel_rfl
  t3 := by kernel_rfl
  a3 := fun w => by kernel_rfl
  z3 := fun w => by kernel_rfl
  v3 := fun w => by kernel_rfl
  t4 := by kernel_rfl
  a4 := fun w => by kernel_rfl
  z4 := fun w => by kernel_rfl
  v4 := fun w => by kernel_rfl
  t9 := by kernel_rfl
  a9 := fun w => by kernel_rfl
  z9 := fun w => by kernel_rfl
  v9 := fun w => by kernel_rfl
  t20 := by kernel_rfl
  a20 := fun w => by kernel_rfl
  z20 := fun w => by kernel_rfl
  v20 := fun w => by kernel_rfl
  t31 := by kernel_rfl
  a31 := fun w => by kernel_rfl
  z31 := fun w => by kernel_rfl
  v31 := fun w => by kernel_rfl
  t37 := by kernel_rfl
  a37 := fun w => by kernel_rfl
  z37 := fun w => by kernel_rfl
  v37 := fun w => by kernel_rfl
  t70 := by kernel_rfl
  a70 := fun w => by kernel_rfl
  z70 := fun w => by kernel_rfl
  v70 := fun w => by kernel_rfl
  t72 := by kernel_rfl
  a72 := fun w => by kernel_rfl
  z72 := fun w => by kernel_rfl
  v72 := fun w => by kernel_rfl
  t75 := by kernel_rfl
  a75 := fun w => by kernel_rfl
  z75 := fun w => by kernel_rfl
  v75 := fun w => by kernel_rfl
  t76 := by kernel_rfl
  a76 := fun w => by kernel_rfl
  z76 := fun w => by kernel_rfl
  v76 := fun w => by kernel_rfl
  t127 := by kernel_rfl
  a127 := fun w => by kernel_rfl
  z127 := fun w => by kernel_rfl
  v127 := fun w => by kernel_rfl
  t164 := by kernel_rfl
  a164 := fun w => by kernel_rfl
  z164 := fun w => by kernel_rfl
  v164 := fun w => by kernel_rfl
theorem extraJ : Builder.Extra Tryd.prog rhoJ where
  sizeBuilder := by kernel_rfl
  liesBuilder := by kernel_rfl
  t5 := by kernel_rfl
  a5 := fun w => by kernel_rfl
  z5 := fun w => by kernel_rfl
  v5 := fun w => by kernel_rfl
  infoByte := by kernel_rfl
  cellsByte := by kernel_rfl
  sizeByte := by kernel_rfl
  neB5 := by decide
theorem below_grow (w : World) (k : Nat) (os : Array Obj) : Below w.heap.size w (Sort.grow (w.drewN k) os) :=
  ⟨rfl, rfl, rfl, by simp [Sort.grow, World.drewN], fun j hj => by
    show ((w.drewN k).heap ++ os)[j]? = w.heap[j]?
    rw [Array.getElem?_append_left (by exact hj)]; rfl⟩
def strconv_Itoa : GM
 | [.one (.int .i64 n)], k => -9223372036854775808 ≤ n ∧ n ≤ 9223372036854775807 ∧ k [.str ⟨(Go.Lib.itoa n).toArray⟩]
 | _, _ => False
abbrev strconv_Itoa_e : Ent := ⟨[63], strconv_Itoa⟩
theorem strconv_Itoa_w : EntOK Tryd.prog TT strconv_Itoa_e := by
  intro f av out hk hg sg hsg
  injection hk with hk hn
  subst hk
  have hs : lk TT.sig 63 = some [.one .sc] := by kernel_rfl
  rw [hs] at hsg
  injection hsg with hsg
  subst hsg
  change strconv_Itoa av _ at hg
  unfold strconv_Itoa at hg
  split at hg
  · rename_i n
    obtain ⟨b1, b2, rfl⟩ := hg
    refine ⟨⟨Tryd.f63, Tryd.func63, by kernel_rfl, by kernel_rfl⟩, fun w S vals hE hS hv => ?_⟩
    obtain ⟨v1, r, rfl, h1, h3⟩ := hv
    have h3 : r = [] := h3
    subst h3
    have e1 : v1 = .int .i64 n := RepS.int_inv h1
    subst e1
    refine (Any.strconv_Itoa laysI n b1 b2 w hE).mono ?_
    rintro e w' ⟨rfl, kk, os, rfl⟩
    have hb := below_grow w kk os
    refine ⟨_, S, fun _ => none, [.string ⟨(Go.Lib.itoa n).toArray⟩], rfl, rfl, hb, fun _ h => h, fun x hx => ⟨rfl, Nat.lt_of_lt_of_le (hS x hx) hb.size, .inl hx⟩, fun x i h => (nomatch h), rfl, rfl, fun i ck v h4 h5 => ?_⟩
    cases i with
    | zero =>
      simp [allCks, RS.cks] at h4 h5
      subst h4; subst h5
      exact RepS.str
    | succ i => simp [allCks, RS.cks] at h4
  · exact hg.elim
def strsOf : List (List PV) → Option (List ByteArray)
  | [] => some []
  | [.str s] :: r => match strsOf r with | some l => some (s :: l) | none => none
  | _ => none
theorem strsOf_vals {w : World} : ∀ {rows : List (List PV)} {l : List ByteArray} {news : List Value} {N : List Nat}, strsOf rows = some l → RepVals w rows.flatten news N → news = l.map Value.string ∧ rows.length = l.length
  | [], l, news, N, h, hv => by
    simp only [strsOf] at h; injection h with h; subst h
    cases hv
    exact ⟨rfl, rfl⟩
  | [.str s] :: r, l, news, N, h, hv => by
    simp only [strsOf] at h
    split at h
    · rename_i m hm
      injection h with h
      subst h
      simp only [List.flatten_cons, List.cons_append, List.nil_append] at hv
      cases hv with
      | str hv' =>
        obtain ⟨h1, h3⟩ := strsOf_vals hm hv'
        exact ⟨by rw [h1]; rfl, by simp [h3]⟩
    · cases h
def joinS (l : List ByteArray) (sep : ByteArray) : List UInt8 := Go.Lib.join (l.map (·.data.toList)) sep.data.toList
def strings_Join : GM
 | [.one (.list 1 rows), .one (.str sep)], k => match strsOf rows with
   | some l => l.length ≤ 140737488355328 ∧ (joinS l sep).length ≤ 140737488355328 ∧ k [.str ⟨(joinS l sep).toArray⟩]
   | none => False
 | _, _ => False
abbrev strings_Join_e : Ent := ⟨[48], strings_Join⟩
theorem strings_Join_w : EntOK Tryd.prog TT strings_Join_e := by
  intro f av out hk hg sg hsg
  injection hk with hk hn
  subst hk
  have hs : lk TT.sig 48 = some [.one .sc] := by kernel_rfl
  rw [hs] at hsg
  injection hsg with hsg
  subst hsg
  change strings_Join av _ at hg
  unfold strings_Join at hg
  split at hg
  · rename_i rows sep
    split at hg
    · rename_i l hl
      obtain ⟨b1, b2, rfl⟩ := hg
      refine ⟨⟨Tryd.f48, Tryd.func48, by kernel_rfl, by kernel_rfl⟩, fun w S vals hE hS hv => ?_⟩
      obtain ⟨v1, r, rfl, h1, v2, r2, rfl, h2, h3⟩ := hv
      have h3 : r2 = [] := h3
      subst h3
      have e2 : v2 = .string sep := RepS.str_inv h2
      subst e2
      have h1' : RepS S w [.list 1 rows] [v1] := h1
      have key : Calls Tryd.prog 48 #[v1, .string sep] w fun e w' => e = .returned (.string ⟨(joinS l sep).toArray⟩) ∧ Below w.heap.size w w' := by
        obtain ⟨N, h1, hN⟩ := h1'
        cases h1 with
        | @lnil _ ad cap _ _ _ hn =>
          simp only [strsOf] at hl; injection hl with hl; subst hl
          refine (Any.strings_Join_none laysJ extraJ ad cap sep w).mono ?_
          rintro e w' ⟨rfl, rfl⟩
          exact ⟨rfl, Below.refl _ _⟩
        | @list _ _ b off cap xs N1 _ _ N2 hs h0 hl2 hc cells hv hn =>
          obtain ⟨rfl, hlen⟩ := strsOf_vals hl hv
          have hb : b < w.heap.size := hS b (hN b (by simp))
          rw [hlen]
          refine Any.strings_Join laysJ extraJ b off cap l sep w (fun j x hx => ?_) hb b1 (by rw [← hlen]; omega) b2
          exact cells j (.string x) (by rw [List.getElem?_map, hx]; rfl)
      refine key.mono ?_
      rintro e w' ⟨rfl, hb⟩
      refine ⟨_, S, fun _ => none, [.string ⟨(joinS l sep).toArray⟩], rfl, rfl, hb, fun _ h => h, fun x hx => ⟨rfl, Nat.lt_of_lt_of_le (hS x hx) hb.size, .inl hx⟩, fun x i h => (nomatch h), rfl, rfl, fun i ck v h4 h5 => ?_⟩
      cases i with
      | zero =>
        simp [allCks, RS.cks] at h4 h5
        subst h4; subst h5
        exact RepS.str
      | succ i => simp [allCks, RS.cks] at h4
    · exact hg.elim
  · exact hg.elim
end Go.Ev
set_option maxRecDepth 100000
set_option linter.unusedVariables false
namespace Go.Ev
open Go.Proofs
def laws_szIntS : GM
 | [.one a0, .one a1], k => 
  lenP a0 fun r0 =>
  binP .sub a1 r0 fun r1 =>
  binP .lss r1 (I 0) fun r2 =>
  iteP r2
   (rt [.sc] [(I (-1))] k)
   (rt [.sc] [r1] k)
 | _, _ => False
abbrev laws_szIntS_e : Ent := ⟨[33], laws_szIntS⟩
theorem laws_szIntS_w : EntOK Tryd.prog TT laws_szIntS_e := ent_ok tabok (L := []) trivial (keep := []) (l := []) Tryd.func33 (by kernel_rfl) (sg := [.one (.sc)]) (by kernel_rfl) trivial fun av k h => by
  unfold laws_szIntS at h; split at h
  · exact Eq.mpr (by kernel_rfl) h
  · exact h.elim

def laws_szKeys : GM
 | [.agg u0, .one a2], k => un 2 (fun a0 a1 => 
  call laws_szIntS [.one a0, .one a2] fun o0 =>
  binP .lss (atP o0 0) (I 0) fun r1 =>
  iteP r1
   (rt [.sc] [(I (-1))] k)
   (rt [.sc] [(atP o0 0)] k)) u0
 | _, _ => False
abbrev laws_szKeys_e : Ent := ⟨[8], laws_szKeys⟩
theorem laws_szKeys_w : EntOK Tryd.prog TT laws_szKeys_e := ent_ok tabok (L := [laws_szIntS_e]) ⟨laws_szIntS_w, trivial⟩ (keep := []) (l := []) Tryd.func8 (by kernel_rfl) (sg := [.one (.sc)]) (by kernel_rfl) trivial fun av k h => by
  unfold laws_szKeys at h; split at h
  · apply un_all h; clear h; intro a0 a1 h; exact Eq.mpr (by kernel_rfl) h
  · exact h.elim

def laws_toIntS_r0 (v : List PV) (K : List PV → Prop) (x0k : PV → PV → PV → PV → Prop) : Prop :=
 un 4 (fun v0 v1 v2 v3 =>
  lenP v0 fun r0 =>
  binP .lss v1 r0 fun r1 =>
  iteP r1
   (elemP 1 v0 v1 fun c2 =>
   boundP 1 v3 v1 fun n3 =>
   (flatCond [.pv (I 0)] [.pv (atP c2 0)]) ∧ setP v3 n3 0 [(atP c2 0)] fun r4 =>
   binP .add v1 (I 1) fun r5 =>
   K [v0, r5, v2, r4])
   (x0k v0 v1 v2 v3)) v
def laws_toIntS : GM
 | [.one a0], k => 
  lenP a0 fun r0 =>
  (r0 = r0) ∧ (1 = 1) ∧ makeP 1 r0 [(I 0)] fun r1 =>
  lp (fun L w => laws_toIntS_r0 w L
   (fun q6 q7 q8 q9 => rt [.own true 3 1] [q9] k)) [a0, (I 0), (.list 1 []), r1]
 | _, _ => False
abbrev laws_toIntS_e : Ent := ⟨[36], laws_toIntS⟩
def laws_toIntS_l : List LE := [⟨0, ⟨[(0, .one (.pv (.bool false))), (2, .one (.own 1)), (3, .one (.own 0)), (4, .one (.pv (.bool false)))], [], [(1, ⟨.deep, 3, 1, (.bool false)⟩), (0, ⟨.deep, 3, 1, (.bool false)⟩)], 2, 22⟩, fun K k v => laws_toIntS_r0 v K (fun x0 x1 x2 x3 => k (.exit 0) ⟨[(0, .one (.pv x0)), (2, .one (.own 1)), (3, .one (.own 0)), (4, .one (.pv x1))], [], [(1, ⟨.deep, 3, 1, x2⟩), (0, ⟨.deep, 3, 1, x3⟩)], 2, 22⟩)⟩]
theorem laws_toIntS_s : LEsOK (orac []) TT (kk [0, 2, 3, 4]) (sumsOf laws_toIntS_l) Tryd.f36 laws_toIntS_l := ⟨fun v K k h => by
  apply un_all h; exact fun v0 v1 v2 v3 h => Eq.mpr (by kernel_rfl) h
  , trivial⟩
theorem laws_toIntS_w : EntOK Tryd.prog TT laws_toIntS_e := ent_ok tabok (L := []) trivial (keep := (kk [0, 2, 3, 4])) (l := laws_toIntS_l) Tryd.func36 (by kernel_rfl) (sg := [.one (.own true 3 1)]) (by kernel_rfl) laws_toIntS_s fun av k h => by
  unfold laws_toIntS at h; split at h
  · exact Eq.mpr (by kernel_rfl) h
  · exact h.elim

def laws_toKeys : GM
 | [.agg u0], k => un 2 (fun a0 a1 => 
  call laws_toIntS [.one a0] fun o0 =>
  rt [.own true 3 1, .sc] [(atP o0 0), a1] k) u0
 | _, _ => False
abbrev laws_toKeys_e : Ent := ⟨[10], laws_toKeys⟩
theorem laws_toKeys_w : EntOK Tryd.prog TT laws_toKeys_e := ent_ok tabok (L := [laws_toIntS_e]) ⟨laws_toIntS_w, trivial⟩ (keep := []) (l := []) Tryd.func10 (by kernel_rfl) (sg := [.agg [.own true 3 1, .sc]]) (by kernel_rfl) trivial fun av k h => by
  unfold laws_toKeys at h; split at h
  · apply un_all h; clear h; intro a0 a1 h; exact Eq.mpr (by kernel_rfl) h
  · exact h.elim

def spec_NoKeys : GM
 | [.agg u0], k => un 2 (fun a0 a1 => 
  binP .eql a1 (I 0) fun r0 =>
  iteP r0
   (lenP a0 fun r1 =>
   binP .eql r1 (I 0) fun r2 =>
   rt [.sc] [r2] k)
   (rt [.sc] [(.bool false)] k)) u0
 | _, _ => False
abbrev spec_NoKeys_e : Ent := ⟨[34], spec_NoKeys⟩
theorem spec_NoKeys_w : EntOK Tryd.prog TT spec_NoKeys_e := ent_ok tabok (L := []) trivial (keep := []) (l := []) Tryd.func34 (by kernel_rfl) (sg := [.one (.sc)]) (by kernel_rfl) trivial fun av k h => by
  unfold spec_NoKeys at h; split at h
  · apply un_all h; clear h; intro a0 a1 h; exact Eq.mpr (by kernel_rfl) h
  · exact h.elim

def spec_FormatInt_r0 (v : List PV) (K : List PV → Prop) (x0k : PV → PV → PV → PV → Prop) : Prop :=
 un 4 (fun v0 v1 v2 v3 =>
  binP .neq v3 (I 0) fun r0 =>
  iteP r0
   (binP .rem v3 (I 10) fun r1 =>
   binP .lss r1 (I 0) fun r2 =>
   iteP r2
    (unP .neg r1 fun r3 =>
    binP .add (I 48) r3 fun r4 =>
    convP .u8 r4 fun r5 =>
    (1 = 1) ∧ (1 ≤ 16777216) ∧ (1 = 1) ∧ (0 = 0) ∧ (1 = 1) ∧ (flatCond [.pv (.int .u8 0)] [.pv r5]) ∧ textP (.list 1 [[r5]]) fun r6 =>
    binP .add r6 v2 fun r7 =>
    binP .quo v3 (I 10) fun r8 =>
    K [v0, v1, r7, r8])
    (binP .add (I 48) r1 fun r9 =>
    convP .u8 r9 fun r10 =>
    (1 = 1) ∧ (1 ≤ 16777216) ∧ (1 = 1) ∧ (0 = 0) ∧ (1 = 1) ∧ (flatCond [.pv (.int .u8 0)] [.pv r10]) ∧ textP (.list 1 [[r10]]) fun r11 =>
    binP .add r11 v2 fun r12 =>
    binP .quo v3 (I 10) fun r13 =>
    K [v0, v1, r12, r13]))
   (x0k v0 v1 v2 v3)) v
def spec_FormatInt : GM
 | [.one a0], k => 
  binP .eql a0 (I 0) fun r0 =>
  iteP r0
   (rt [.sc] [(.str ⟨#[48]⟩)] k)
   (lp (fun L w => spec_FormatInt_r0 w L
    (fun q14 q15 q16 q17 => binP .lss q14 (I 0) fun r18 =>
     iteP r18
      (binP .add (.str ⟨#[45]⟩) q16 fun r19 =>
      rt [.sc] [r19] k)
      (rt [.sc] [q16] k))) [a0, (.str ⟨#[]⟩), (.str ⟨#[]⟩), a0])
 | _, _ => False
abbrev spec_FormatInt_e : Ent := ⟨[35], spec_FormatInt⟩
def spec_FormatInt_l : List LE := [⟨0, ⟨[(0, .one (.pv (.bool false))), (2, .one (.pv (.bool false))), (3, .one (.pv (.bool false))), (4, .one (.pv (.bool false)))], [], [], 0, 31⟩, fun K k v => spec_FormatInt_r0 v K (fun x0 x1 x2 x3 => k (.exit 0) ⟨[(0, .one (.pv x0)), (2, .one (.pv x1)), (3, .one (.pv x2)), (4, .one (.pv x3))], [], [], 0, 31⟩)⟩]
theorem spec_FormatInt_s : LEsOK (orac []) TT (kk [0, 2, 3, 4]) (sumsOf spec_FormatInt_l) Tryd.f35 spec_FormatInt_l := ⟨fun v K k h => by
  apply un_all h; exact fun v0 v1 v2 v3 h => Eq.mpr (by kernel_rfl) h
  , trivial⟩
theorem spec_FormatInt_w : EntOK Tryd.prog TT spec_FormatInt_e := ent_ok tabok (L := []) trivial (keep := (kk [0, 2, 3, 4])) (l := spec_FormatInt_l) Tryd.func35 (by kernel_rfl) (sg := [.one (.sc)]) (by kernel_rfl) spec_FormatInt_s fun av k h => by
  unfold spec_FormatInt at h; split at h
  · exact Eq.mpr (by kernel_rfl) h
  · exact h.elim

def spec_FormatKeys_r0 (v : List PV) (K : List PV → Prop) (x0k : PV → PV → PV → PV → PV → Prop) : Prop :=
 un 5 (fun v0 v1 v2 v3 v4 =>
  lenP v3 fun r0 =>
  binP .lss v2 r0 fun r1 =>
  iteP r1
   (binP .gtr v2 (I 0) fun r2 =>
   iteP r2
    (binP .add v1 (.str ⟨#[43]⟩) fun r3 =>
    elemP 1 v3 v2 fun c4 =>
    call spec_FormatInt [.one (atP c4 0)] fun o5 =>
    binP .add r3 (atP o5 0) fun r6 =>
    binP .add v2 (I 1) fun r7 =>
    K [v0, r6, r7, v3, v4])
    (elemP 1 v3 v2 fun c8 =>
    call spec_FormatInt [.one (atP c8 0)] fun o9 =>
    binP .add v1 (atP o9 0) fun r10 =>
    binP .add v2 (I 1) fun r11 =>
    K [v0, r10, r11, v3, v4]))
   (x0k v0 v1 v2 v3 v4)) v
def spec_FormatKeys : GM
 | [.agg u0], k => un 2 (fun a0 a1 => 
  call spec_NoKeys [.agg [a0, a1]] fun o0 =>
  iteP (atP o0 0)
   (rt [.sc] [(.str ⟨#[45]⟩)] k)
   (call spec_FormatInt [.one a1] fun o1 =>
   binP .add (atP o1 0) (.str ⟨#[47]⟩) fun r2 =>
   lp (fun L w => spec_FormatKeys_r0 w L
    (fun q12 q13 q14 q15 q16 => rt [.sc] [q13] k)) [(.str ⟨#[]⟩), r2, (I 0), a0, a1])) u0
 | _, _ => False
abbrev spec_FormatKeys_e : Ent := ⟨[9], spec_FormatKeys⟩
def spec_FormatKeys_l : List LE := [⟨0, ⟨[(1, .one (.ptr 0 0)), (2, .one (.pv (.bool false))), (3, .one (.pv (.bool false))), (4, .one (.pv (.bool false)))], [(0, [.pv (.bool false), .pv (.bool false)])], [], 3, 31⟩, fun K k v => spec_FormatKeys_r0 v K (fun x0 x1 x2 x3 x4 => k (.exit 0) ⟨[(1, .one (.ptr 0 0)), (2, .one (.pv x0)), (3, .one (.pv x1)), (4, .one (.pv x2))], [(0, [.pv x3, .pv x4])], [], 3, 31⟩)⟩]
theorem spec_FormatKeys_s : LEsOK (orac [spec_NoKeys_e, spec_FormatInt_e]) TT (kk [1, 2, 3, 4]) (sumsOf spec_FormatKeys_l) Tryd.f9 spec_FormatKeys_l := ⟨fun v K k h => by
  apply un_all h; exact fun v0 v1 v2 v3 v4 h => Eq.mpr (by kernel_rfl) h
  , trivial⟩
theorem spec_FormatKeys_w : EntOK Tryd.prog TT spec_FormatKeys_e := ent_ok tabok (L := [spec_NoKeys_e, spec_FormatInt_e]) ⟨spec_NoKeys_w, spec_FormatInt_w, trivial⟩ (keep := (kk [1, 2, 3, 4])) (l := spec_FormatKeys_l) Tryd.func9 (by kernel_rfl) (sg := [.one (.sc)]) (by kernel_rfl) spec_FormatKeys_s fun av k h => by
  unfold spec_FormatKeys at h; split at h
  · apply un_all h; clear h; intro a0 a1 h; exact Eq.mpr (by kernel_rfl) h
  · exact h.elim

def impl_NoKeys : GM
 | [.agg u0], k => un 2 (fun a0 a1 => 
  binP .eql a1 (I 0) fun r0 =>
  iteP r0
   (lenP a0 fun r1 =>
   binP .eql r1 (I 0) fun r2 =>
   rt [.sc] [r2] k)
   (rt [.sc] [(.bool false)] k)) u0
 | _, _ => False
abbrev impl_NoKeys_e : Ent := ⟨[37], impl_NoKeys⟩
theorem impl_NoKeys_w : EntOK Tryd.prog TT impl_NoKeys_e := ent_ok tabok (L := []) trivial (keep := []) (l := []) Tryd.func37 (by kernel_rfl) (sg := [.one (.sc)]) (by kernel_rfl) trivial fun av k h => by
  unfold impl_NoKeys at h; split at h
  · apply un_all h; clear h; intro a0 a1 h; exact Eq.mpr (by kernel_rfl) h
  · exact h.elim


def impl_FormatInt : GM
 | [.one a0], k => 
  call strconv_Itoa [.one a0] fun o0 =>
  rt [.sc] [(atP o0 0)] k
 | _, _ => False
abbrev impl_FormatInt_e : Ent := ⟨[38], impl_FormatInt⟩
theorem impl_FormatInt_w : EntOK Tryd.prog TT impl_FormatInt_e := ent_ok tabok (L := [strconv_Itoa_e]) ⟨strconv_Itoa_w, trivial⟩ (keep := []) (l := []) Tryd.func38 (by kernel_rfl) (sg := [.one (.sc)]) (by kernel_rfl) trivial fun av k h => by
  unfold impl_FormatInt at h; split at h
  · exact Eq.mpr (by kernel_rfl) h
  · exact h.elim


def impl_joined_r0 (v : List PV) (K : List PV → Prop) (x0k : PV → PV → PV → PV → PV → PV → Prop) : Prop :=
 un 6 (fun v0 v1 v2 v3 v4 v5 =>
  binP .lss v4 v3 fun r0 =>
  iteP r0
   (elemP 1 v2 v4 fun c1 =>
   call impl_FormatInt [.one (atP c1 0)] fun o2 =>
   (1 = 1) ∧ (1 ≤ 16777216) ∧ (1 = 1) ∧ (0 = 0) ∧ (1 = 1) ∧ (flatCond [.pv (.str ⟨#[]⟩)] [.pv (atP o2 0)]) ∧ catP 1 v5 (.list 1 [[(atP o2 0)]]) fun r3 =>
   binP .add v4 (I 1) fun r4 =>
   K [v0, v1, v2, v3, r4, r3])
   (x0k v0 v1 v2 v3 v4 v5)) v
def impl_joined : GM
 | [.one a0, .one a1], k => 
  (0 = 0) ∧ (0 ≤ 16777216) ∧ (1 = 1) ∧ lenP a1 fun r0 =>
  lp (fun L w => impl_joined_r0 w L
   (fun q5 q6 q7 q8 q9 q10 => call strings_Join [.one q10, .one q5] fun o11 =>
    rt [.sc] [(atP o11 0)] k)) [a0, (.str ⟨#[]⟩), a1, r0, (I 0), (.list 1 [])]
 | _, _ => False
abbrev impl_joined_e : Ent := ⟨[39], impl_joined⟩
def impl_joined_l : List LE := [⟨0, ⟨[(0, .one (.pv (.bool false))), (4, .one (.pv (.bool false))), (5, .one (.own 0)), (9, .one (.pv (.bool false))), (10, .one (.pv (.bool false))), (11, .one (.pv (.bool false)))], [], [(0, ⟨.deep, 9, 1, (.bool false)⟩)], 1, 24⟩, fun K k v => impl_joined_r0 v K (fun x0 x1 x2 x3 x4 x5 => k (.exit 0) ⟨[(0, .one (.pv x0)), (4, .one (.pv x1)), (5, .one (.own 0)), (9, .one (.pv x2)), (10, .one (.pv x3)), (11, .one (.pv x4))], [], [(0, ⟨.deep, 9, 1, x5⟩)], 1, 24⟩)⟩]
theorem impl_joined_s : LEsOK (orac [impl_FormatInt_e, strings_Join_e]) TT (kk [0, 4, 5, 9, 10, 11]) (sumsOf impl_joined_l) Tryd.f39 impl_joined_l := ⟨fun v K k h => by
  apply un_all h; exact fun v0 v1 v2 v3 v4 v5 h => Eq.mpr (by kernel_rfl) h
  , trivial⟩
theorem impl_joined_w : EntOK Tryd.prog TT impl_joined_e := ent_ok tabok (L := [impl_FormatInt_e, strings_Join_e]) ⟨impl_FormatInt_w, strings_Join_w, trivial⟩ (keep := (kk [0, 4, 5, 9, 10, 11])) (l := impl_joined_l) Tryd.func39 (by kernel_rfl) (sg := [.one (.sc)]) (by kernel_rfl) impl_joined_s fun av k h => by
  unfold impl_joined at h; split at h
  · exact Eq.mpr (by kernel_rfl) h
  · exact h.elim

def impl_FormatKeys : GM
 | [.agg u0], k => un 2 (fun a0 a1 => 
  call impl_NoKeys [.agg [a0, a1]] fun o0 =>
  iteP (atP o0 0)
   (rt [.sc] [(.str ⟨#[45]⟩)] k)
   (call impl_FormatInt [.one a1] fun o1 =>
   binP .add (atP o1 0) (.str ⟨#[47]⟩) fun r2 =>
   call impl_joined [.one (.str ⟨#[43]⟩), .one a0] fun o3 =>
   binP .add r2 (atP o3 0) fun r4 =>
   rt [.sc] [r4] k)) u0
 | _, _ => False
abbrev impl_FormatKeys_e : Ent := ⟨[11], impl_FormatKeys⟩
theorem impl_FormatKeys_w : EntOK Tryd.prog TT impl_FormatKeys_e := ent_ok tabok (L := [impl_NoKeys_e, impl_FormatInt_e, impl_joined_e]) ⟨impl_NoKeys_w, impl_FormatInt_w, impl_joined_w, trivial⟩ (keep := []) (l := []) Tryd.func11 (by kernel_rfl) (sg := [.one (.sc)]) (by kernel_rfl) trivial fun av k h => by
  unfold impl_FormatKeys at h; split at h
  · apply un_all h; clear h; intro a0 a1 h; exact Eq.mpr (by kernel_rfl) h
  · exact h.elim

def laws_eqIntS_r0 (v : List PV) (K : List PV → Prop) (x0k : Prop) (x1k : PV → PV → PV → PV → Prop) : Prop :=
 un 4 (fun v0 v1 v2 v3 =>
  lenP v0 fun r0 =>
  binP .lss v3 r0 fun r1 =>
  iteP r1
   (elemP 1 v0 v3 fun c2 =>
   elemP 1 v1 v3 fun c3 =>
   binP .neq (atP c2 0) (atP c3 0) fun r4 =>
   iteP r4
    (x0k)
    (binP .add v3 (I 1) fun r5 =>
    K [v0, v1, v2, r5]))
   (x1k v0 v1 v2 v3)) v
def laws_eqIntS : GM
 | [.one a0, .one a1], k => 
  lenP a0 fun r0 =>
  lenP a1 fun r1 =>
  binP .neq r0 r1 fun r2 =>
  iteP r2
   (rt [.sc] [(.bool false)] k)
   (lp (fun L w => laws_eqIntS_r0 w L
    (rt [.sc] [(.bool false)] k)
    (fun q6 q7 q8 q9 => rt [.sc] [(.bool true)] k)) [a0, a1, (.bool false), (I 0)])
 | _, _ => False
abbrev laws_eqIntS_e : Ent := ⟨[40], laws_eqIntS⟩
def laws_eqIntS_l : List LE := [⟨0, ⟨[(0, .one (.pv (.bool false))), (1, .one (.pv (.bool false))), (4, .one (.pv (.bool false))), (5, .one (.pv (.bool false)))], [], [], 0, 26⟩, fun K k v => laws_eqIntS_r0 v K (k .ret ⟨[(4, .one (.kb false))], [], [], 0, 26⟩) (fun x0 x1 x2 x3 => k (.exit 0) ⟨[(0, .one (.pv x0)), (1, .one (.pv x1)), (4, .one (.pv x2)), (5, .one (.pv x3))], [], [], 0, 26⟩)⟩]
theorem laws_eqIntS_s : LEsOK (orac []) TT (kk [0, 1, 4, 5]) (sumsOf laws_eqIntS_l) Tryd.f40 laws_eqIntS_l := ⟨fun v K k h => by
  apply un_all h; exact fun v0 v1 v2 v3 h => Eq.mpr (by kernel_rfl) h
  , trivial⟩
theorem laws_eqIntS_w : EntOK Tryd.prog TT laws_eqIntS_e := ent_ok tabok (L := []) trivial (keep := (kk [0, 1, 4, 5])) (l := laws_eqIntS_l) Tryd.func40 (by kernel_rfl) (sg := [.one (.sc)]) (by kernel_rfl) laws_eqIntS_s fun av k h => by
  unfold laws_eqIntS at h; split at h
  · exact Eq.mpr (by kernel_rfl) h
  · exact h.elim

def laws_eqKeys : GM
 | [.agg u0, .agg u1], k => un 2 (fun a0 a1 => un 2 (fun a2 a3 => 
  call laws_eqIntS [.one a0, .one a2] fun o0 =>
  unP .not (atP o0 0) fun r1 =>
  iteP r1
   (rt [.sc] [(.bool false)] k)
   (binP .neq a1 a3 fun r2 =>
   iteP r2
    (rt [.sc] [(.bool false)] k)
    (rt [.sc] [(.bool true)] k))) u1) u0
 | _, _ => False
abbrev laws_eqKeys_e : Ent := ⟨[12], laws_eqKeys⟩
theorem laws_eqKeys_w : EntOK Tryd.prog TT laws_eqKeys_e := ent_ok tabok (L := [laws_eqIntS_e]) ⟨laws_eqIntS_w, trivial⟩ (keep := []) (l := []) Tryd.func12 (by kernel_rfl) (sg := [.one (.sc)]) (by kernel_rfl) trivial fun av k h => by
  unfold laws_eqKeys at h; split at h
  · apply un_all h; clear h; intro a0 a1 h; apply un_all h; clear h; intro a2 a3 h; exact Eq.mpr (by kernel_rfl) h
  · exact h.elim

def laws_FnExactFormatKeys : GM
 | [.agg u0], k => un 2 (fun a0 a1 => 
  call laws_szKeys [.agg [a0, a1], .one (I 1048576)] fun o0 =>
  binP .lss (atP o0 0) (I 0) fun r1 =>
  iteP r1
   (rt [.sc] [(.bool true)] k)
   (call laws_toKeys [.agg [a0, a1]] fun o2 =>
   call spec_FormatKeys [.agg [(atP o2 0), (atP o2 1)]] fun o3 =>
   call laws_toKeys [.agg [a0, a1]] fun o4 =>
   call impl_FormatKeys [.agg [(atP o4 0), (atP o4 1)]] fun o5 =>
   binP .neq (atP o5 0) (atP o3 0) fun r6 =>
   iteP r6
    (rt [.sc] [(.bool false)] k)
    (call laws_toKeys [.agg [a0, a1]] fun o7 =>
    call laws_eqKeys [.agg [(atP o4 0), (atP o4 1)], .agg [(atP o7 0), (atP o7 1)]] fun o8 =>
    unP .not (atP o8 0) fun r9 =>
    iteP r9
     (rt [.sc] [(.bool false)] k)
     (rt [.sc] [(.bool true)] k)))) u0
 | _, _ => False
abbrev laws_FnExactFormatKeys_e : Ent := ⟨[3], laws_FnExactFormatKeys⟩
theorem laws_FnExactFormatKeys_w : EntOK Tryd.prog TT laws_FnExactFormatKeys_e := ent_ok tabok (L := [laws_szKeys_e, laws_toKeys_e, spec_FormatKeys_e, impl_FormatKeys_e, laws_eqKeys_e]) ⟨laws_szKeys_w, laws_toKeys_w, spec_FormatKeys_w, impl_FormatKeys_w, laws_eqKeys_w, trivial⟩ (keep := []) (l := []) Tryd.func3 (by kernel_rfl) (sg := [.one (.sc)]) (by kernel_rfl) trivial fun av k h => by
  unfold laws_FnExactFormatKeys at h; split at h
  · apply un_all h; clear h; intro a0 a1 h; exact Eq.mpr (by kernel_rfl) h
  · exact h.elim

def laws_szStringS_r0 (v : List PV) (K : List PV → Prop) (x0k : Prop) (x1k : PV → PV → PV → PV → Prop) : Prop :=
 un 4 (fun v0 v1 v2 v3 =>
  lenP v0 fun r0 =>
  binP .lss v3 r0 fun r1 =>
  iteP r1
   (elemP 1 v0 v3 fun c2 =>
   lenS (atP c2 0) fun r3 =>
   binP .sub v1 r3 fun r4 =>
   binP .lss r4 (I 0) fun r5 =>
   iteP r5
    (x0k)
    (binP .add v3 (I 1) fun r6 =>
    K [v0, r4, v2, r6]))
   (x1k v0 v1 v2 v3)) v
def laws_szStringS : GM
 | [.one a0, .one a1], k => 
  lenP a0 fun r0 =>
  binP .sub a1 r0 fun r1 =>
  binP .lss r1 (I 0) fun r2 =>
  iteP r2
   (rt [.sc] [(I (-1))] k)
   (lp (fun L w => laws_szStringS_r0 w L
    (rt [.sc] [(I (-1))] k)
    (fun q7 q8 q9 q10 => rt [.sc] [q8] k)) [a0, r1, (I 0), (I 0)])
 | _, _ => False
abbrev laws_szStringS_e : Ent := ⟨[41], laws_szStringS⟩
def laws_szStringS_l : List LE := [⟨0, ⟨[(0, .one (.pv (.bool false))), (1, .one (.pv (.bool false))), (4, .one (.pv (.bool false))), (5, .one (.pv (.bool false)))], [], [], 0, 28⟩, fun K k v => laws_szStringS_r0 v K (k .ret ⟨[(4, .one (.pv (I (-1))))], [], [], 0, 28⟩) (fun x0 x1 x2 x3 => k (.exit 0) ⟨[(0, .one (.pv x0)), (1, .one (.pv x1)), (4, .one (.pv x2)), (5, .one (.pv x3))], [], [], 0, 28⟩)⟩]
theorem laws_szStringS_s : LEsOK (orac []) TT (kk [0, 1, 4, 5]) (sumsOf laws_szStringS_l) Tryd.f41 laws_szStringS_l := ⟨fun v K k h => by
  apply un_all h; exact fun v0 v1 v2 v3 h => Eq.mpr (by kernel_rfl) h
  , trivial⟩
theorem laws_szStringS_w : EntOK Tryd.prog TT laws_szStringS_e := ent_ok tabok (L := []) trivial (keep := (kk [0, 1, 4, 5])) (l := laws_szStringS_l) Tryd.func41 (by kernel_rfl) (sg := [.one (.sc)]) (by kernel_rfl) laws_szStringS_s fun av k h => by
  unfold laws_szStringS at h; split at h
  · exact Eq.mpr (by kernel_rfl) h
  · exact h.elim

def laws_szEntry : GM
 | [.agg u0, .one a4], k => un 4 (fun a0 a1 a2 a3 => 
  lenS a0 fun r0 =>
  binP .sub a4 r0 fun r1 =>
  binP .lss r1 (I 0) fun r2 =>
  iteP r2
   (rt [.sc] [(I (-1))] k)
   (call laws_szStringS [.one a3, .one r1] fun o3 =>
   binP .lss (atP o3 0) (I 0) fun r4 =>
   iteP r4
    (rt [.sc] [(I (-1))] k)
    (rt [.sc] [(atP o3 0)] k))) u0
 | _, _ => False
abbrev laws_szEntry_e : Ent := ⟨[13], laws_szEntry⟩
theorem laws_szEntry_w : EntOK Tryd.prog TT laws_szEntry_e := ent_ok tabok (L := [laws_szStringS_e]) ⟨laws_szStringS_w, trivial⟩ (keep := []) (l := []) Tryd.func13 (by kernel_rfl) (sg := [.one (.sc)]) (by kernel_rfl) trivial fun av k h => by
  unfold laws_szEntry at h; split at h
  · apply un_all h; clear h; intro a0 a1 a2 a3 h; exact Eq.mpr (by kernel_rfl) h
  · exact h.elim

def laws_toStringS_r0 (v : List PV) (K : List PV → Prop) (x0k : PV → PV → PV → PV → Prop) : Prop :=
 un 4 (fun v0 v1 v2 v3 =>
  lenP v0 fun r0 =>
  binP .lss v1 r0 fun r1 =>
  iteP r1
   (elemP 1 v0 v1 fun c2 =>
   boundP 1 v3 v1 fun n3 =>
   (flatCond [.pv (.str ⟨#[]⟩)] [.pv (atP c2 0)]) ∧ setP v3 n3 0 [(atP c2 0)] fun r4 =>
   binP .add v1 (I 1) fun r5 =>
   K [v0, r5, v2, r4])
   (x0k v0 v1 v2 v3)) v
def laws_toStringS : GM
 | [.one a0], k => 
  lenP a0 fun r0 =>
  (r0 = r0) ∧ (1 = 1) ∧ makeP 1 r0 [(.str ⟨#[]⟩)] fun r1 =>
  lp (fun L w => laws_toStringS_r0 w L
   (fun q6 q7 q8 q9 => rt [.own true 9 1] [q9] k)) [a0, (I 0), (.list 1 []), r1]
 | _, _ => False
abbrev laws_toStringS_e : Ent := ⟨[43], laws_toStringS⟩
def laws_toStringS_l : List LE := [⟨0, ⟨[(0, .one (.pv (.bool false))), (2, .one (.own 1)), (3, .one (.own 0)), (4, .one (.pv (.bool false)))], [], [(1, ⟨.deep, 9, 1, (.bool false)⟩), (0, ⟨.deep, 9, 1, (.bool false)⟩)], 2, 22⟩, fun K k v => laws_toStringS_r0 v K (fun x0 x1 x2 x3 => k (.exit 0) ⟨[(0, .one (.pv x0)), (2, .one (.own 1)), (3, .one (.own 0)), (4, .one (.pv x1))], [], [(1, ⟨.deep, 9, 1, x2⟩), (0, ⟨.deep, 9, 1, x3⟩)], 2, 22⟩)⟩]
theorem laws_toStringS_s : LEsOK (orac []) TT (kk [0, 2, 3, 4]) (sumsOf laws_toStringS_l) Tryd.f43 laws_toStringS_l := ⟨fun v K k h => by
  apply un_all h; exact fun v0 v1 v2 v3 h => Eq.mpr (by kernel_rfl) h
  , trivial⟩
theorem laws_toStringS_w : EntOK Tryd.prog TT laws_toStringS_e := ent_ok tabok (L := []) trivial (keep := (kk [0, 2, 3, 4])) (l := laws_toStringS_l) Tryd.func43 (by kernel_rfl) (sg := [.one (.own true 9 1)]) (by kernel_rfl) laws_toStringS_s fun av k h => by
  unfold laws_toStringS at h; split at h
  · exact Eq.mpr (by kernel_rfl) h
  · exact h.elim

def laws_toEntry : GM
 | [.agg u0], k => un 4 (fun a0 a1 a2 a3 => 
  call laws_toStringS [.one a3] fun o0 =>
  rt [.sc, .sc, .sc, .own true 9 1] [a0, a1, a2, (atP o0 0)] k) u0
 | _, _ => False
abbrev laws_toEntry_e : Ent := ⟨[15], laws_toEntry⟩
theorem laws_toEntry_w : EntOK Tryd.prog TT laws_toEntry_e := ent_ok tabok (L := [laws_toStringS_e]) ⟨laws_toStringS_w, trivial⟩ (keep := []) (l := []) Tryd.func15 (by kernel_rfl) (sg := [.agg [.sc, .sc, .sc, .own true 9 1]]) (by kernel_rfl) trivial fun av k h => by
  unfold laws_toEntry at h; split at h
  · apply un_all h; clear h; intro a0 a1 a2 a3 h; exact Eq.mpr (by kernel_rfl) h
  · exact h.elim

def spec_l1In : GM
 | [.one a0, .one a1, .one a2], k => 
  binP .geq a0 a1 fun r0 =>
  iteP r0
   (binP .leq a0 a2 fun r1 =>
   rt [.sc] [r1] k)
   (rt [.sc] [(.bool false)] k)
 | _, _ => False
abbrev spec_l1In_e : Ent := ⟨[46], spec_l1In⟩
theorem spec_l1In_w : EntOK Tryd.prog TT spec_l1In_e := ent_ok tabok (L := []) trivial (keep := []) (l := []) Tryd.func46 (by kernel_rfl) (sg := [.one (.sc)]) (by kernel_rfl) trivial fun av k h => by
  unfold spec_l1In at h; split at h
  · exact Eq.mpr (by kernel_rfl) h
  · exact h.elim

def spec_IsLabel_r0 (v : List PV) (K : List PV → Prop) (x0k : Prop) (x1k : PV → PV → PV → Prop) : Prop :=
 un 3 (fun v0 v1 v2 =>
  lenS v0 fun r0 =>
  binP .lss v2 r0 fun r1 =>
  iteP r1
   (charP v0 v2 fun r2 =>
   binP .lss r2 (.int .u8 97) fun r3 =>
   iteP r3
    (charP v0 v2 fun r4 =>
    binP .lss r4 (.int .u8 48) fun r5 =>
    iteP r5
     (charP v0 v2 fun r6 =>
     binP .neq r6 (.int .u8 45) fun r7 =>
     iteP r7
      (x0k)
      (binP .add v2 (I 1) fun r8 =>
      K [v0, v1, r8]))
     (charP v0 v2 fun r9 =>
     binP .gtr r9 (.int .u8 57) fun r10 =>
     iteP r10
      (charP v0 v2 fun r11 =>
      binP .neq r11 (.int .u8 45) fun r12 =>
      iteP r12
       (x0k)
       (binP .add v2 (I 1) fun r13 =>
       K [v0, v1, r13]))
      (binP .add v2 (I 1) fun r14 =>
      K [v0, v1, r14])))
    (charP v0 v2 fun r15 =>
    binP .gtr r15 (.int .u8 122) fun r16 =>
    iteP r16
     (charP v0 v2 fun r17 =>
     binP .lss r17 (.int .u8 48) fun r18 =>
     iteP r18
      (charP v0 v2 fun r19 =>
      binP .neq r19 (.int .u8 45) fun r20 =>
      iteP r20
       (x0k)
       (binP .add v2 (I 1) fun r21 =>
       K [v0, v1, r21]))
      (charP v0 v2 fun r22 =>
      binP .gtr r22 (.int .u8 57) fun r23 =>
      iteP r23
       (charP v0 v2 fun r24 =>
       binP .neq r24 (.int .u8 45) fun r25 =>
       iteP r25
        (x0k)
        (binP .add v2 (I 1) fun r26 =>
        K [v0, v1, r26]))
       (binP .add v2 (I 1) fun r27 =>
       K [v0, v1, r27])))
     (binP .add v2 (I 1) fun r28 =>
     K [v0, v1, r28])))
   (x1k v0 v1 v2)) v
def spec_IsLabel : GM
 | [.one a0], k => 
  lenS a0 fun r0 =>
  call spec_l1In [.one r0, .one (I 1), .one (I 8)] fun o1 =>
  unP .not (atP o1 0) fun r2 =>
  iteP r2
   (rt [.sc] [(.bool false)] k)
   (charP a0 (I 0) fun r3 =>
   binP .eql r3 (.int .u8 45) fun r4 =>
   iteP r4
    (rt [.sc] [(.bool false)] k)
    (lenS a0 fun r5 =>
    binP .sub r5 (I 1) fun r6 =>
    charP a0 r6 fun r7 =>
    binP .eql r7 (.int .u8 45) fun r8 =>
    iteP r8
     (rt [.sc] [(.bool false)] k)
     (lp (fun L w => spec_IsLabel_r0 w L
      (rt [.sc] [(.bool false)] k)
      (fun q29 q30 q31 => rt [.sc] [(.bool true)] k)) [a0, (.bool false), (I 0)])))
 | _, _ => False
abbrev spec_IsLabel_e : Ent := ⟨[77], spec_IsLabel⟩
def spec_IsLabel_l : List LE := [⟨0, ⟨[(0, .one (.pv (.bool false))), (2, .one (.pv (.bool false))), (3, .one (.pv (.bool false)))], [], [], 1, 55⟩, fun K k v => spec_IsLabel_r0 v K (k .ret ⟨[(2, .one (.kb false))], [], [], 1, 55⟩) (fun x0 x1 x2 => k (.exit 0) ⟨[(0, .one (.pv x0)), (2, .one (.pv x1)), (3, .one (.pv x2))], [], [], 1, 55⟩)⟩]
theorem spec_IsLabel_s : LEsOK (orac [spec_l1In_e]) TT (kk [0, 2, 3, 32, 33, 34, 35, 38, 39, 40, 41, 42, 43, 44, 45, 46, 47, 50, 51, 52, 53]) (sumsOf spec_IsLabel_l) Tryd.f77 spec_IsLabel_l := ⟨fun v K k h => by
  apply un_all h; exact fun v0 v1 v2 h => Eq.mpr (by kernel_rfl) h
  , trivial⟩
theorem spec_IsLabel_w : EntOK Tryd.prog TT spec_IsLabel_e := ent_ok tabok (L := [spec_l1In_e]) ⟨spec_l1In_w, trivial⟩ (keep := (kk [0, 2, 3, 32, 33, 34, 35, 38, 39, 40, 41, 42, 43, 44, 45, 46, 47, 50, 51, 52, 53])) (l := spec_IsLabel_l) Tryd.func77 (by kernel_rfl) (sg := [.one (.sc)]) (by kernel_rfl) spec_IsLabel_s fun av k h => by
  unfold spec_IsLabel at h; split at h
  · exact Eq.mpr (by kernel_rfl) h
  · exact h.elim

def spec_IsPath_r0 (v : List PV) (K : List PV → Prop) (x0k : Prop) (x1k : PV → PV → PV → Prop) : Prop :=
 un 3 (fun v0 v1 v2 =>
  lenP v0 fun r0 =>
  binP .lss v2 r0 fun r1 =>
  iteP r1
   (elemP 1 v0 v2 fun c2 =>
   call spec_IsLabel [.one (atP c2 0)] fun o3 =>
   unP .not (atP o3 0) fun r4 =>
   iteP r4
    (x0k)
    (binP .add v2 (I 1) fun r5 =>
    K [v0, v1, r5]))
   (x1k v0 v1 v2)) v
def spec_IsPath : GM
 | [.one a0], k => 
  lp (fun L w => spec_IsPath_r0 w L
   (rt [.sc] [(.bool false)] k)
   (fun q6 q7 q8 => lenP q6 fun r9 =>
    call spec_l1In [.one r9, .one (I 1), .one (I 4)] fun o10 =>
    rt [.sc] [(atP o10 0)] k)) [a0, (.bool false), (I 0)]
 | _, _ => False
abbrev spec_IsPath_e : Ent := ⟨[64], spec_IsPath⟩
def spec_IsPath_l : List LE := [⟨0, ⟨[(0, .one (.pv (.bool false))), (2, .one (.pv (.bool false))), (3, .one (.pv (.bool false)))], [], [], 0, 19⟩, fun K k v => spec_IsPath_r0 v K (k .ret ⟨[(2, .one (.kb false))], [], [], 1, 19⟩) (fun x0 x1 x2 => k (.exit 0) ⟨[(0, .one (.pv x0)), (2, .one (.pv x1)), (3, .one (.pv x2))], [], [], 0, 19⟩)⟩]
theorem spec_IsPath_s : LEsOK (orac [spec_IsLabel_e, spec_l1In_e]) TT (kk [0, 2, 3]) (sumsOf spec_IsPath_l) Tryd.f64 spec_IsPath_l := ⟨fun v K k h => by
  apply un_all h; exact fun v0 v1 v2 h => Eq.mpr (by kernel_rfl) h
  , trivial⟩
theorem spec_IsPath_w : EntOK Tryd.prog TT spec_IsPath_e := ent_ok tabok (L := [spec_IsLabel_e, spec_l1In_e]) ⟨spec_IsLabel_w, spec_l1In_w, trivial⟩ (keep := (kk [0, 2, 3])) (l := spec_IsPath_l) Tryd.func64 (by kernel_rfl) (sg := [.one (.sc)]) (by kernel_rfl) spec_IsPath_s fun av k h => by
  unfold spec_IsPath at h; split at h
  · exact Eq.mpr (by kernel_rfl) h
  · exact h.elim

def spec_FormatPath_r0 (v : List PV) (K : List PV → Prop) (x0k : PV → PV → PV → PV → Prop) : Prop :=
 un 4 (fun v0 v1 v2 v3 =>
  lenP v0 fun r0 =>
  binP .lss v3 r0 fun r1 =>
  iteP r1
   (binP .add v2 (.str ⟨#[47]⟩) fun r2 =>
   elemP 1 v0 v3 fun c3 =>
   binP .add r2 (atP c3 0) fun r4 =>
   binP .add v3 (I 1) fun r5 =>
   K [v0, v1, r4, r5])
   (x0k v0 v1 v2 v3)) v
def spec_FormatPath : GM
 | [.one a0], k => 
  call spec_IsPath [.one a0] fun o0 =>
  unP .not (atP o0 0) fun r1 =>
  iteP r1
   (rt [.sc] [(.str ⟨#[]⟩)] k)
   (elemP 1 a0 (I 0) fun c2 =>
   lp (fun L w => spec_FormatPath_r0 w L
    (fun q6 q7 q8 q9 => rt [.sc] [q8] k)) [a0, (.str ⟨#[]⟩), (atP c2 0), (I 1)])
 | _, _ => False
abbrev spec_FormatPath_e : Ent := ⟨[42], spec_FormatPath⟩
def spec_FormatPath_l : List LE := [⟨0, ⟨[(0, .one (.pv (.bool false))), (2, .one (.pv (.bool false))), (3, .one (.pv (.bool false))), (4, .one (.pv (.bool false)))], [], [], 1, 25⟩, fun K k v => spec_FormatPath_r0 v K (fun x0 x1 x2 x3 => k (.exit 0) ⟨[(0, .one (.pv x0)), (2, .one (.pv x1)), (3, .one (.pv x2)), (4, .one (.pv x3))], [], [], 1, 25⟩)⟩]
theorem spec_FormatPath_s : LEsOK (orac [spec_IsPath_e]) TT (kk [0, 2, 3, 4]) (sumsOf spec_FormatPath_l) Tryd.f42 spec_FormatPath_l := ⟨fun v K k h => by
  apply un_all h; exact fun v0 v1 v2 v3 h => Eq.mpr (by kernel_rfl) h
  , trivial⟩
theorem spec_FormatPath_w : EntOK Tryd.prog TT spec_FormatPath_e := ent_ok tabok (L := [spec_IsPath_e]) ⟨spec_IsPath_w, trivial⟩ (keep := (kk [0, 2, 3, 4])) (l := spec_FormatPath_l) Tryd.func42 (by kernel_rfl) (sg := [.one (.sc)]) (by kernel_rfl) spec_FormatPath_s fun av k h => by
  unfold spec_FormatPath at h; split at h
  · exact Eq.mpr (by kernel_rfl) h
  · exact h.elim

def spec_FormatEntry : GM
 | [.agg u0], k => un 4 (fun a0 a1 a2 a3 => 
  binP .eql a1 (I 2) fun r0 =>
  iteP r0
   (binP .add a0 (.str ⟨#[61, 35]⟩) fun r1 =>
   call spec_FormatInt [.one a2] fun o2 =>
   binP .add r1 (atP o2 0) fun r3 =>
   rt [.sc] [r3] k)
   (binP .eql a1 (I 3) fun r4 =>
   iteP r4
    (binP .add a0 (.str ⟨#[61, 62]⟩) fun r5 =>
    call spec_FormatInt [.one a2] fun o6 =>
    binP .add r5 (atP o6 0) fun r7 =>
    binP .add r7 (.str ⟨#[58]⟩) fun r8 =>
    call spec_FormatPath [.one a3] fun o9 =>
    binP .add r8 (atP o9 0) fun r10 =>
    rt [.sc] [r10] k)
    (binP .add a0 (.str ⟨#[61]⟩) fun r11 =>
    call spec_FormatInt [.one a2] fun o12 =>
    binP .add r11 (atP o12 0) fun r13 =>
    rt [.sc] [r13] k))) u0
 | _, _ => False
abbrev spec_FormatEntry_e : Ent := ⟨[14], spec_FormatEntry⟩
theorem spec_FormatEntry_w : EntOK Tryd.prog TT spec_FormatEntry_e := ent_ok tabok (L := [spec_FormatInt_e, spec_FormatPath_e]) ⟨spec_FormatInt_w, spec_FormatPath_w, trivial⟩ (keep := []) (l := []) Tryd.func14 (by kernel_rfl) (sg := [.one (.sc)]) (by kernel_rfl) trivial fun av k h => by
  unfold spec_FormatEntry at h; split at h
  · apply un_all h; clear h; intro a0 a1 a2 a3 h; exact Eq.mpr (by kernel_rfl) h
  · exact h.elim

def impl_InRange : GM
 | [.one a0, .one a1, .one a2], k => 
  binP .leq a1 a0 fun r0 =>
  iteP r0
   (binP .leq a0 a2 fun r1 =>
   rt [.sc] [r1] k)
   (rt [.sc] [(.bool false)] k)
 | _, _ => False
abbrev impl_InRange_e : Ent := ⟨[66], impl_InRange⟩
theorem impl_InRange_w : EntOK Tryd.prog TT impl_InRange_e := ent_ok tabok (L := []) trivial (keep := []) (l := []) Tryd.func66 (by kernel_rfl) (sg := [.one (.sc)]) (by kernel_rfl) trivial fun av k h => by
  unfold impl_InRange at h; split at h
  · exact Eq.mpr (by kernel_rfl) h
  · exact h.elim

def impl_IsLabel_r0 (v : List PV) (K : List PV → Prop) (x0k : Prop) (x1k : PV → PV → PV → PV → Prop) : Prop :=
 un 4 (fun v0 v1 v2 v3 =>
  binP .lss v3 v2 fun r0 =>
  iteP r0
   (charP v0 v3 fun r1 =>
   binP .geq r1 (.int .u8 97) fun r2 =>
   iteP r2
    (binP .leq r1 (.int .u8 122) fun r3 =>
    iteP r3
     (binP .add v3 (I 1) fun r4 =>
     K [v0, v1, v2, r4])
     (binP .geq r1 (.int .u8 48) fun r5 =>
     iteP r5
      (binP .leq r1 (.int .u8 57) fun r6 =>
      iteP r6
       (binP .add v3 (I 1) fun r7 =>
       K [v0, v1, v2, r7])
       (binP .eql r1 (.int .u8 45) fun r8 =>
       iteP r8
        (binP .gtr v3 (I 0) fun r9 =>
        iteP r9
         (lenS v0 fun r10 =>
         binP .sub r10 (I 1) fun r11 =>
         binP .lss v3 r11 fun r12 =>
         unP .not r12 fun r13 =>
         iteP r13
          (x0k)
          (binP .add v3 (I 1) fun r14 =>
          K [v0, v1, v2, r14]))
         (x0k))
        (x0k)))
      (binP .eql r1 (.int .u8 45) fun r15 =>
      iteP r15
       (binP .gtr v3 (I 0) fun r16 =>
       iteP r16
        (lenS v0 fun r17 =>
        binP .sub r17 (I 1) fun r18 =>
        binP .lss v3 r18 fun r19 =>
        unP .not r19 fun r20 =>
        iteP r20
         (x0k)
         (binP .add v3 (I 1) fun r21 =>
         K [v0, v1, v2, r21]))
        (x0k))
       (x0k))))
    (binP .geq r1 (.int .u8 48) fun r22 =>
    iteP r22
     (binP .leq r1 (.int .u8 57) fun r23 =>
     iteP r23
      (binP .add v3 (I 1) fun r24 =>
      K [v0, v1, v2, r24])
      (binP .eql r1 (.int .u8 45) fun r25 =>
      iteP r25
       (binP .gtr v3 (I 0) fun r26 =>
       iteP r26
        (lenS v0 fun r27 =>
        binP .sub r27 (I 1) fun r28 =>
        binP .lss v3 r28 fun r29 =>
        unP .not r29 fun r30 =>
        iteP r30
         (x0k)
         (binP .add v3 (I 1) fun r31 =>
         K [v0, v1, v2, r31]))
        (x0k))
       (x0k)))
     (binP .eql r1 (.int .u8 45) fun r32 =>
     iteP r32
      (binP .gtr v3 (I 0) fun r33 =>
      iteP r33
       (lenS v0 fun r34 =>
       binP .sub r34 (I 1) fun r35 =>
       binP .lss v3 r35 fun r36 =>
       unP .not r36 fun r37 =>
       iteP r37
        (x0k)
        (binP .add v3 (I 1) fun r38 =>
        K [v0, v1, v2, r38]))
       (x0k))
      (x0k))))
   (x1k v0 v1 v2 v3)) v
def impl_IsLabel : GM
 | [.one a0], k => 
  lenS a0 fun r0 =>
  lp (fun L w => impl_IsLabel_r0 w L
   (rt [.sc] [(.bool false)] k)
   (fun q39 q40 q41 q42 => lenS q39 fun r43 =>
    call impl_InRange [.one r43, .one (I 1), .one (I 8)] fun o44 =>
    rt [.sc] [(atP o44 0)] k)) [a0, (.bool false), r0, (I 0)]
 | _, _ => False
abbrev impl_IsLabel_e : Ent := ⟨[80], impl_IsLabel⟩
def impl_IsLabel_l : List LE := [⟨0, ⟨[(0, .one (.pv (.bool false))), (2, .one (.pv (.bool false))), (6, .one (.pv (.bool false))), (7, .one (.pv (.bool false)))], [], [], 0, 47⟩, fun K k v => impl_IsLabel_r0 v K (k .ret ⟨[(2, .one (.kb false))], [], [], 0, 47⟩) (fun x0 x1 x2 x3 => k (.exit 0) ⟨[(0, .one (.pv x0)), (2, .one (.pv x1)), (6, .one (.pv x2)), (7, .one (.pv x3))], [], [], 0, 47⟩)⟩]
theorem impl_IsLabel_s : LEsOK (orac [impl_InRange_e]) TT (kk [0, 2, 6, 7, 16, 17, 20, 21, 22, 23, 24, 25, 28, 29, 30, 31, 32, 33, 34, 35, 36, 37, 38, 39, 40]) (sumsOf impl_IsLabel_l) Tryd.f80 impl_IsLabel_l := ⟨fun v K k h => by
  apply un_all h; exact fun v0 v1 v2 v3 h => Eq.mpr (by kernel_rfl) h
  , trivial⟩
theorem impl_IsLabel_w : EntOK Tryd.prog TT impl_IsLabel_e := ent_ok tabok (L := [impl_InRange_e]) ⟨impl_InRange_w, trivial⟩ (keep := (kk [0, 2, 6, 7, 16, 17, 20, 21, 22, 23, 24, 25, 28, 29, 30, 31, 32, 33, 34, 35, 36, 37, 38, 39, 40])) (l := impl_IsLabel_l) Tryd.func80 (by kernel_rfl) (sg := [.one (.sc)]) (by kernel_rfl) impl_IsLabel_s fun av k h => by
  unfold impl_IsLabel at h; split at h
  · exact Eq.mpr (by kernel_rfl) h
  · exact h.elim

def impl_IsPath_1 : GM
 | [.one a0], k => 
  call impl_IsLabel [.one a0] fun o0 =>
  unP .not (atP o0 0) fun r1 =>
  rt [.sc] [r1] k
 | _, _ => False
abbrev impl_IsPath_1_e : Ent := ⟨[79], impl_IsPath_1⟩
theorem impl_IsPath_1_w : EntOK Tryd.prog TT impl_IsPath_1_e := ent_ok tabok (L := [impl_IsLabel_e]) ⟨impl_IsLabel_w, trivial⟩ (keep := []) (l := []) Tryd.func79 (by kernel_rfl) (sg := [.one (.sc)]) (by kernel_rfl) trivial fun av k h => by
  unfold impl_IsPath_1 at h; split at h
  · exact Eq.mpr (by kernel_rfl) h
  · exact h.elim

def slices_IndexFunc_string_F_impl_IsPath_1_r0 (v : List PV) (K : List PV → Prop) (x0k : PV → Prop) (x1k : PV → PV → PV → PV → Prop) : Prop :=
 un 4 (fun v0 v1 v2 v3 =>
  binP .lss v3 v2 fun r0 =>
  iteP r0
   (elemP 1 v0 v3 fun c1 =>
   call impl_IsPath_1 [.one (atP c1 0)] fun o2 =>
   iteP (atP o2 0)
    (x0k v3)
    (binP .add v3 (I 1) fun r3 =>
    K [v0, v1, v2, r3]))
   (x1k v0 v1 v2 v3)) v
def slices_IndexFunc_string_F_impl_IsPath_1 : GM
 | [.one a0, .fn 79 []], k => 
  lenP a0 fun r0 =>
  lp (fun L w => slices_IndexFunc_string_F_impl_IsPath_1_r0 w L
   (fun q4 => rt [.sc] [q4] k)
   (fun q5 q6 q7 q8 => rt [.sc] [(I (-1))] k)) [a0, (I 0), r0, (I 0)]
 | _, _ => False
abbrev slices_IndexFunc_string_F_impl_IsPath_1_e : Ent := ⟨[90, 79], slices_IndexFunc_string_F_impl_IsPath_1⟩
def slices_IndexFunc_string_F_impl_IsPath_1_l : List LE := [⟨0, ⟨[(0, .one (.pv (.bool false))), (1, .one (.fn 79 [])), (4, .one (.pv (.bool false))), (7, .one (.pv (.bool false))), (8, .one (.pv (.bool false)))], [], [], 0, 19⟩, fun K k v => slices_IndexFunc_string_F_impl_IsPath_1_r0 v K (fun x0 => k .ret ⟨[(4, .one (.pv x0))], [], [], 1, 19⟩) (fun x0 x1 x2 x3 => k (.exit 0) ⟨[(0, .one (.pv x0)), (1, .one (.fn 79 [])), (4, .one (.pv x1)), (7, .one (.pv x2)), (8, .one (.pv x3))], [], [], 0, 19⟩)⟩]
theorem slices_IndexFunc_string_F_impl_IsPath_1_s : LEsOK (orac [impl_IsPath_1_e]) TT (kk [0, 1, 4, 7, 8]) (sumsOf slices_IndexFunc_string_F_impl_IsPath_1_l) Tryd.f90 slices_IndexFunc_string_F_impl_IsPath_1_l := ⟨fun v K k h => by
  apply un_all h; exact fun v0 v1 v2 v3 h => Eq.mpr (by kernel_rfl) h
  , trivial⟩
theorem slices_IndexFunc_string_F_impl_IsPath_1_w : EntOK Tryd.prog TT slices_IndexFunc_string_F_impl_IsPath_1_e := ent_ok tabok (L := [impl_IsPath_1_e]) ⟨impl_IsPath_1_w, trivial⟩ (keep := (kk [0, 1, 4, 7, 8])) (l := slices_IndexFunc_string_F_impl_IsPath_1_l) Tryd.func90 (by kernel_rfl) (sg := [.one (.sc)]) (by kernel_rfl) slices_IndexFunc_string_F_impl_IsPath_1_s fun av k h => by
  unfold slices_IndexFunc_string_F_impl_IsPath_1 at h; split at h
  · exact Eq.mpr (by kernel_rfl) h
  · exact h.elim

def slices_ContainsFunc_string_F_impl_IsPath_1 : GM
 | [.one a0, .fn 79 []], k => 
  call slices_IndexFunc_string_F_impl_IsPath_1 [.one a0, .fn 79 []] fun o0 =>
  binP .geq (atP o0 0) (I 0) fun r1 =>
  rt [.sc] [r1] k
 | _, _ => False
abbrev slices_ContainsFunc_string_F_impl_IsPath_1_e : Ent := ⟨[78, 79], slices_ContainsFunc_string_F_impl_IsPath_1⟩
theorem slices_ContainsFunc_string_F_impl_IsPath_1_w : EntOK Tryd.prog TT slices_ContainsFunc_string_F_impl_IsPath_1_e := ent_ok tabok (L := [slices_IndexFunc_string_F_impl_IsPath_1_e]) ⟨slices_IndexFunc_string_F_impl_IsPath_1_w, trivial⟩ (keep := []) (l := []) Tryd.func78 (by kernel_rfl) (sg := [.one (.sc)]) (by kernel_rfl) trivial fun av k h => by
  unfold slices_ContainsFunc_string_F_impl_IsPath_1 at h; split at h
  · exact Eq.mpr (by kernel_rfl) h
  · exact h.elim

def impl_IsPath : GM
 | [.one a0], k => 
  lenP a0 fun r0 =>
  call impl_InRange [.one r0, .one (I 1), .one (I 4)] fun o1 =>
  iteP (atP o1 0)
   (call slices_ContainsFunc_string_F_impl_IsPath_1 [.one a0, .fn 79 []] fun o2 =>
   unP .not (atP o2 0) fun r3 =>
   rt [.sc] [r3] k)
   (rt [.sc] [(.bool false)] k)
 | _, _ => False
abbrev impl_IsPath_e : Ent := ⟨[65], impl_IsPath⟩
theorem impl_IsPath_w : EntOK Tryd.prog TT impl_IsPath_e := ent_ok tabok (L := [impl_InRange_e, slices_ContainsFunc_string_F_impl_IsPath_1_e]) ⟨impl_InRange_w, slices_ContainsFunc_string_F_impl_IsPath_1_w, trivial⟩ (keep := []) (l := []) Tryd.func65 (by kernel_rfl) (sg := [.one (.sc)]) (by kernel_rfl) trivial fun av k h => by
  unfold impl_IsPath at h; split at h
  · exact Eq.mpr (by kernel_rfl) h
  · exact h.elim

def impl_FormatPath : GM
 | [.one a0], k => 
  call impl_IsPath [.one a0] fun o0 =>
  unP .not (atP o0 0) fun r1 =>
  iteP r1
   (rt [.sc] [(.str ⟨#[]⟩)] k)
   (call strings_Join [.one a0, .one (.str ⟨#[47]⟩)] fun o2 =>
   rt [.sc] [(atP o2 0)] k)
 | _, _ => False
abbrev impl_FormatPath_e : Ent := ⟨[44], impl_FormatPath⟩
theorem impl_FormatPath_w : EntOK Tryd.prog TT impl_FormatPath_e := ent_ok tabok (L := [impl_IsPath_e, strings_Join_e]) ⟨impl_IsPath_w, strings_Join_w, trivial⟩ (keep := []) (l := []) Tryd.func44 (by kernel_rfl) (sg := [.one (.sc)]) (by kernel_rfl) trivial fun av k h => by
  unfold impl_FormatPath at h; split at h
  · exact Eq.mpr (by kernel_rfl) h
  · exact h.elim

def impl_FormatEntry : GM
 | [.agg u0], k => un 4 (fun a0 a1 a2 a3 => 
  call impl_FormatInt [.one a2] fun o0 =>
  binP .eql a1 (I 2) fun r1 =>
  iteP r1
   (binP .add (.str ⟨#[35]⟩) (atP o0 0) fun r2 =>
   binP .add a0 (.str ⟨#[61]⟩) fun r3 =>
   binP .add r3 r2 fun r4 =>
   rt [.sc] [r4] k)
   (binP .eql a1 (I 3) fun r5 =>
   iteP r5
    (binP .add (.str ⟨#[62]⟩) (atP o0 0) fun r6 =>
    binP .add r6 (.str ⟨#[58]⟩) fun r7 =>
    call impl_FormatPath [.one a3] fun o8 =>
    binP .add r7 (atP o8 0) fun r9 =>
    binP .add a0 (.str ⟨#[61]⟩) fun r10 =>
    binP .add r10 r9 fun r11 =>
    rt [.sc] [r11] k)
    (binP .add a0 (.str ⟨#[61]⟩) fun r12 =>
    binP .add r12 (atP o0 0) fun r13 =>
    rt [.sc] [r13] k))) u0
 | _, _ => False
abbrev impl_FormatEntry_e : Ent := ⟨[16], impl_FormatEntry⟩
theorem impl_FormatEntry_w : EntOK Tryd.prog TT impl_FormatEntry_e := ent_ok tabok (L := [impl_FormatInt_e, impl_FormatPath_e]) ⟨impl_FormatInt_w, impl_FormatPath_w, trivial⟩ (keep := []) (l := []) Tryd.func16 (by kernel_rfl) (sg := [.one (.sc)]) (by kernel_rfl) trivial fun av k h => by
  unfold impl_FormatEntry at h; split at h
  · apply un_all h; clear h; intro a0 a1 a2 a3 h; exact Eq.mpr (by kernel_rfl) h
  · exact h.elim

def laws_eqStringS_r0 (v : List PV) (K : List PV → Prop) (x0k : Prop) (x1k : PV → PV → PV → PV → Prop) : Prop :=
 un 4 (fun v0 v1 v2 v3 =>
  lenP v0 fun r0 =>
  binP .lss v3 r0 fun r1 =>
  iteP r1
   (elemP 1 v0 v3 fun c2 =>
   elemP 1 v1 v3 fun c3 =>
   binP .neq (atP c2 0) (atP c3 0) fun r4 =>
   iteP r4
    (x0k)
    (binP .add v3 (I 1) fun r5 =>
    K [v0, v1, v2, r5]))
   (x1k v0 v1 v2 v3)) v
def laws_eqStringS : GM
 | [.one a0, .one a1], k => 
  lenP a0 fun r0 =>
  lenP a1 fun r1 =>
  binP .neq r0 r1 fun r2 =>
  iteP r2
   (rt [.sc] [(.bool false)] k)
   (lp (fun L w => laws_eqStringS_r0 w L
    (rt [.sc] [(.bool false)] k)
    (fun q6 q7 q8 q9 => rt [.sc] [(.bool true)] k)) [a0, a1, (.bool false), (I 0)])
 | _, _ => False
abbrev laws_eqStringS_e : Ent := ⟨[45], laws_eqStringS⟩
def laws_eqStringS_l : List LE := [⟨0, ⟨[(0, .one (.pv (.bool false))), (1, .one (.pv (.bool false))), (4, .one (.pv (.bool false))), (5, .one (.pv (.bool false)))], [], [], 0, 26⟩, fun K k v => laws_eqStringS_r0 v K (k .ret ⟨[(4, .one (.kb false))], [], [], 0, 26⟩) (fun x0 x1 x2 x3 => k (.exit 0) ⟨[(0, .one (.pv x0)), (1, .one (.pv x1)), (4, .one (.pv x2)), (5, .one (.pv x3))], [], [], 0, 26⟩)⟩]
theorem laws_eqStringS_s : LEsOK (orac []) TT (kk [0, 1, 4, 5]) (sumsOf laws_eqStringS_l) Tryd.f45 laws_eqStringS_l := ⟨fun v K k h => by
  apply un_all h; exact fun v0 v1 v2 v3 h => Eq.mpr (by kernel_rfl) h
  , trivial⟩
theorem laws_eqStringS_w : EntOK Tryd.prog TT laws_eqStringS_e := ent_ok tabok (L := []) trivial (keep := (kk [0, 1, 4, 5])) (l := laws_eqStringS_l) Tryd.func45 (by kernel_rfl) (sg := [.one (.sc)]) (by kernel_rfl) laws_eqStringS_s fun av k h => by
  unfold laws_eqStringS at h; split at h
  · exact Eq.mpr (by kernel_rfl) h
  · exact h.elim

def laws_eqEntry : GM
 | [.agg u0, .agg u1], k => un 4 (fun a0 a1 a2 a3 => un 4 (fun a4 a5 a6 a7 => 
  binP .neq a0 a4 fun r0 =>
  iteP r0
   (rt [.sc] [(.bool false)] k)
   (binP .neq a1 a5 fun r1 =>
   iteP r1
    (rt [.sc] [(.bool false)] k)
    (binP .neq a2 a6 fun r2 =>
    iteP r2
     (rt [.sc] [(.bool false)] k)
     (call laws_eqStringS [.one a3, .one a7] fun o3 =>
     unP .not (atP o3 0) fun r4 =>
     iteP r4
      (rt [.sc] [(.bool false)] k)
      (rt [.sc] [(.bool true)] k))))) u1) u0
 | _, _ => False
abbrev laws_eqEntry_e : Ent := ⟨[17], laws_eqEntry⟩
theorem laws_eqEntry_w : EntOK Tryd.prog TT laws_eqEntry_e := ent_ok tabok (L := [laws_eqStringS_e]) ⟨laws_eqStringS_w, trivial⟩ (keep := []) (l := []) Tryd.func17 (by kernel_rfl) (sg := [.one (.sc)]) (by kernel_rfl) trivial fun av k h => by
  unfold laws_eqEntry at h; split at h
  · apply un_all h; clear h; intro a0 a1 a2 a3 h; apply un_all h; clear h; intro a4 a5 a6 a7 h; exact Eq.mpr (by kernel_rfl) h
  · exact h.elim

def laws_FnExactFormatEntry : GM
 | [.agg u0], k => un 4 (fun a0 a1 a2 a3 => 
  call laws_szEntry [.agg [a0, a1, a2, a3], .one (I 1048576)] fun o0 =>
  binP .lss (atP o0 0) (I 0) fun r1 =>
  iteP r1
   (rt [.sc] [(.bool true)] k)
   (call laws_toEntry [.agg [a0, a1, a2, a3]] fun o2 =>
   call spec_FormatEntry [.agg [(atP o2 0), (atP o2 1), (atP o2 2), (atP o2 3)]] fun o3 =>
   call laws_toEntry [.agg [a0, a1, a2, a3]] fun o4 =>
   call impl_FormatEntry [.agg [(atP o4 0), (atP o4 1), (atP o4 2), (atP o4 3)]] fun o5 =>
   binP .neq (atP o5 0) (atP o3 0) fun r6 =>
   iteP r6
    (rt [.sc] [(.bool false)] k)
    (call laws_toEntry [.agg [a0, a1, a2, a3]] fun o7 =>
    call laws_eqEntry [.agg [(atP o4 0), (atP o4 1), (atP o4 2), (atP o4 3)], .agg [(atP o7 0), (atP o7 1), (atP o7 2), (atP o7 3)]] fun o8 =>
    unP .not (atP o8 0) fun r9 =>
    iteP r9
     (rt [.sc] [(.bool false)] k)
     (rt [.sc] [(.bool true)] k)))) u0
 | _, _ => False
abbrev laws_FnExactFormatEntry_e : Ent := ⟨[4], laws_FnExactFormatEntry⟩
theorem laws_FnExactFormatEntry_w : EntOK Tryd.prog TT laws_FnExactFormatEntry_e := ent_ok tabok (L := [laws_szEntry_e, laws_toEntry_e, spec_FormatEntry_e, impl_FormatEntry_e, laws_eqEntry_e]) ⟨laws_szEntry_w, laws_toEntry_w, spec_FormatEntry_w, impl_FormatEntry_w, laws_eqEntry_w, trivial⟩ (keep := []) (l := []) Tryd.func4 (by kernel_rfl) (sg := [.one (.sc)]) (by kernel_rfl) trivial fun av k h => by
  unfold laws_FnExactFormatEntry at h; split at h
  · apply un_all h; clear h; intro a0 a1 a2 a3 h; exact Eq.mpr (by kernel_rfl) h
  · exact h.elim

def laws_szHead : GM
 | [.agg u0, .one a16], k => un 16 (fun a0 a1 a2 a3 a4 a5 a6 a7 a8 a9 a10 a11 a12 a13 a14 a15 => 
  call laws_szKeys [.agg [a8, a9], .one a16] fun o0 =>
  binP .lss (atP o0 0) (I 0) fun r1 =>
  iteP r1
   (rt [.sc] [(I (-1))] k)
   (call laws_szKeys [.agg [a10, a11], .one (atP o0 0)] fun o2 =>
   binP .lss (atP o2 0) (I 0) fun r3 =>
   iteP r3
    (rt [.sc] [(I (-1))] k)
    (call laws_szKeys [.agg [a13, a14], .one (atP o2 0)] fun o4 =>
    binP .lss (atP o4 0) (I 0) fun r5 =>
    iteP r5
     (rt [.sc] [(I (-1))] k)
     (rt [.sc] [(atP o4 0)] k)))) u0
 | _, _ => False
abbrev laws_szHead_e : Ent := ⟨[18], laws_szHead⟩
theorem laws_szHead_w : EntOK Tryd.prog TT laws_szHead_e := ent_ok tabok (L := [laws_szKeys_e]) ⟨laws_szKeys_w, trivial⟩ (keep := []) (l := []) Tryd.func18 (by kernel_rfl) (sg := [.one (.sc)]) (by kernel_rfl) trivial fun av k h => by
  unfold laws_szHead at h; split at h
  · apply un_all h; clear h; intro a0 a1 a2 a3 a4 a5 a6 a7 a8 a9 a10 a11 a12 a13 a14 a15 h; exact Eq.mpr (by kernel_rfl) h
  · exact h.elim

def laws_toHead : GM
 | [.agg u0], k => un 16 (fun a0 a1 a2 a3 a4 a5 a6 a7 a8 a9 a10 a11 a12 a13 a14 a15 => 
  call laws_toKeys [.agg [a8, a9]] fun o0 =>
  call laws_toKeys [.agg [a10, a11]] fun o1 =>
  call laws_toKeys [.agg [a13, a14]] fun o2 =>
  rt [.sc, .sc, .sc, .sc, .sc, .sc, .sc, .sc, .own true 3 1, .sc, .own true 3 1, .sc, .sc, .own true 3 1, .sc, .sc] [a0, a1, a2, a3, a4, a5, a6, a7, (atP o0 0), (atP o0 1), (atP o1 0), (atP o1 1), a12, (atP o2 0), (atP o2 1), a15] k) u0
 | _, _ => False
abbrev laws_toHead_e : Ent := ⟨[20], laws_toHead⟩
theorem laws_toHead_w : EntOK Tryd.prog TT laws_toHead_e := ent_ok tabok (L := [laws_toKeys_e]) ⟨laws_toKeys_w, trivial⟩ (keep := []) (l := []) Tryd.func20 (by kernel_rfl) (sg := [.agg [.sc, .sc, .sc, .sc, .sc, .sc, .sc, .sc, .own true 3 1, .sc, .own true 3 1, .sc, .sc, .own true 3 1, .sc, .sc]]) (by kernel_rfl) trivial fun av k h => by
  unfold laws_toHead at h; split at h
  · apply un_all h; clear h; intro a0 a1 a2 a3 a4 a5 a6 a7 a8 a9 a10 a11 a12 a13 a14 a15 h; exact Eq.mpr (by kernel_rfl) h
  · exact h.elim

def spec_FormatHead : GM
 | [.agg u0], k => un 16 (fun a0 a1 a2 a3 a4 a5 a6 a7 a8 a9 a10 a11 a12 a13 a14 a15 => 
  call spec_l1In [.one a2, .one (I 1), .one (I 3)] fun o0 =>
  iteP (atP o0 0)
   ((4 = 4) ∧ (4 ≤ 16777216) ∧ (1 = 1) ∧ (0 = 0) ∧ (1 = 1) ∧ (flatCond [.pv (.str ⟨#[]⟩)] [.pv (.str ⟨#[]⟩)]) ∧ (1 = 1) ∧ (1 = 1) ∧ (flatCond [.pv (.str ⟨#[]⟩)] [.pv (.str ⟨#[111, 119, 110, 101, 114]⟩)]) ∧ (2 = 2) ∧ (1 = 1) ∧ (flatCond [.pv (.str ⟨#[]⟩)] [.pv (.str ⟨#[104, 101, 105, 114]⟩)]) ∧ (3 = 3) ∧ (1 = 1) ∧ (flatCond [.pv (.str ⟨#[]⟩)] [.pv (.str ⟨#[106, 117, 100, 103, 101]⟩)]) ∧ boundP 1 (.list 1 [[(.str ⟨#[]⟩)], [(.str ⟨#[111, 119, 110, 101, 114]⟩)], [(.str ⟨#[104, 101, 105, 114]⟩)], [(.str ⟨#[106, 117, 100, 103, 101]⟩)]]) a2 fun n1 =>
   rowP 1 (.list 1 [[(.str ⟨#[]⟩)], [(.str ⟨#[111, 119, 110, 101, 114]⟩)], [(.str ⟨#[104, 101, 105, 114]⟩)], [(.str ⟨#[106, 117, 100, 103, 101]⟩)]]) n1 fun c2 =>
   (flats [(atP c2 0)]) ∧ call spec_FormatInt [.one a1] fun o3 =>
   binP .add (atP o3 0) (.str ⟨#[32]⟩) fun r4 =>
   binP .add r4 (atP c2 0) fun r5 =>
   binP .add r5 (.str ⟨#[32]⟩) fun r6 =>
   call spec_FormatInt [.one a3] fun o7 =>
   binP .add r6 (atP o7 0) fun r8 =>
   binP .add r8 (.str ⟨#[45]⟩) fun r9 =>
   call spec_FormatInt [.one a4] fun o10 =>
   binP .add r9 (atP o10 0) fun r11 =>
   binP .add r11 (.str ⟨#[32]⟩) fun r12 =>
   call spec_FormatInt [.one a5] fun o13 =>
   binP .add r12 (atP o13 0) fun r14 =>
   binP .add r14 (.str ⟨#[32]⟩) fun r15 =>
   call spec_FormatKeys [.agg [a8, a9]] fun o16 =>
   binP .add r15 (atP o16 0) fun r17 =>
   iteP a15
    (binP .add r17 (.str ⟨#[32, 102, 114, 111, 122, 101, 110]⟩) fun r18 =>
    rt [.sc] [r18] k)
    (rt [.sc] [r17] k))
   (call spec_FormatInt [.one a1] fun o19 =>
   binP .add (atP o19 0) (.str ⟨#[32]⟩) fun r20 =>
   binP .add r20 (.str ⟨#[63]⟩) fun r21 =>
   binP .add r21 (.str ⟨#[32]⟩) fun r22 =>
   call spec_FormatInt [.one a3] fun o23 =>
   binP .add r22 (atP o23 0) fun r24 =>
   binP .add r24 (.str ⟨#[45]⟩) fun r25 =>
   call spec_FormatInt [.one a4] fun o26 =>
   binP .add r25 (atP o26 0) fun r27 =>
   binP .add r27 (.str ⟨#[32]⟩) fun r28 =>
   call spec_FormatInt [.one a5] fun o29 =>
   binP .add r28 (atP o29 0) fun r30 =>
   binP .add r30 (.str ⟨#[32]⟩) fun r31 =>
   call spec_FormatKeys [.agg [a8, a9]] fun o32 =>
   binP .add r31 (atP o32 0) fun r33 =>
   iteP a15
    (binP .add r33 (.str ⟨#[32, 102, 114, 111, 122, 101, 110]⟩) fun r34 =>
    rt [.sc] [r34] k)
    (rt [.sc] [r33] k))) u0
 | _, _ => False
abbrev spec_FormatHead_e : Ent := ⟨[19], spec_FormatHead⟩
theorem spec_FormatHead_w : EntOK Tryd.prog TT spec_FormatHead_e := ent_ok tabok (L := [spec_l1In_e, spec_FormatInt_e, spec_FormatKeys_e]) ⟨spec_l1In_w, spec_FormatInt_w, spec_FormatKeys_w, trivial⟩ (keep := []) (l := []) Tryd.func19 (by kernel_rfl) (sg := [.one (.sc)]) (by kernel_rfl) trivial fun av k h => by
  unfold spec_FormatHead at h; split at h
  · apply un_all h; clear h; intro a0 a1 a2 a3 a4 a5 a6 a7 a8 a9 a10 a11 a12 a13 a14 a15 h; exact Eq.mpr (by kernel_rfl) h
  · exact h.elim

def impl_nameOf : GM
 | [.one a0, .one a1], k => 
  lenP a1 fun r0 =>
  call impl_InRange [.one a0, .one (I 1), .one r0] fun o1 =>
  unP .not (atP o1 0) fun r2 =>
  iteP r2
   (rt [.sc] [(.str ⟨#[]⟩)] k)
   (binP .sub a0 (I 1) fun r3 =>
   elemP 1 a1 r3 fun c4 =>
   rt [.sc] [(atP c4 0)] k)
 | _, _ => False
abbrev impl_nameOf_e : Ent := ⟨[47], impl_nameOf⟩
theorem impl_nameOf_w : EntOK Tryd.prog TT impl_nameOf_e := ent_ok tabok (L := [impl_InRange_e]) ⟨impl_InRange_w, trivial⟩ (keep := []) (l := []) Tryd.func47 (by kernel_rfl) (sg := [.one (.sc)]) (by kernel_rfl) trivial fun av k h => by
  unfold impl_nameOf at h; split at h
  · exact Eq.mpr (by kernel_rfl) h
  · exact h.elim

def impl_FormatHead : GM
 | [.agg u0], k => un 16 (fun a0 a1 a2 a3 a4 a5 a6 a7 a8 a9 a10 a11 a12 a13 a14 a15 => 
  (3 = 3) ∧ (3 ≤ 16777216) ∧ (1 = 1) ∧ (0 = 0) ∧ (1 = 1) ∧ (flatCond [.pv (.str ⟨#[]⟩)] [.pv (.str ⟨#[111, 119, 110, 101, 114]⟩)]) ∧ (1 = 1) ∧ (1 = 1) ∧ (flatCond [.pv (.str ⟨#[]⟩)] [.pv (.str ⟨#[104, 101, 105, 114]⟩)]) ∧ (2 = 2) ∧ (1 = 1) ∧ (flatCond [.pv (.str ⟨#[]⟩)] [.pv (.str ⟨#[106, 117, 100, 103, 101]⟩)]) ∧ call impl_nameOf [.one a2, .one (.list 1 [[(.str ⟨#[111, 119, 110, 101, 114]⟩)], [(.str ⟨#[104, 101, 105, 114]⟩)], [(.str ⟨#[106, 117, 100, 103, 101]⟩)]])] fun o0 =>
  binP .eql (atP o0 0) (.str ⟨#[]⟩) fun r1 =>
  iteP r1
   (call impl_FormatInt [.one a1] fun o2 =>
   (2 = 2) ∧ (2 ≤ 16777216) ∧ (1 = 1) ∧ (0 = 0) ∧ (1 = 1) ∧ (flatCond [.pv (I 0)] [.pv a3]) ∧ (1 = 1) ∧ (1 = 1) ∧ (flatCond [.pv (I 0)] [.pv a4]) ∧ call impl_joined [.one (.str ⟨#[45]⟩), .one (.list 1 [[a3], [a4]])] fun o3 =>
   call impl_FormatInt [.one a5] fun o4 =>
   call impl_FormatKeys [.agg [a8, a9]] fun o5 =>
   (5 = 5) ∧ (5 ≤ 16777216) ∧ (1 = 1) ∧ (0 = 0) ∧ (1 = 1) ∧ (flatCond [.pv (.str ⟨#[]⟩)] [.pv (atP o2 0)]) ∧ (1 = 1) ∧ (1 = 1) ∧ (flatCond [.pv (.str ⟨#[]⟩)] [.pv (.str ⟨#[63]⟩)]) ∧ (2 = 2) ∧ (1 = 1) ∧ (flatCond [.pv (.str ⟨#[]⟩)] [.pv (atP o3 0)]) ∧ (3 = 3) ∧ (1 = 1) ∧ (flatCond [.pv (.str ⟨#[]⟩)] [.pv (atP o4 0)]) ∧ (4 = 4) ∧ (1 = 1) ∧ (flatCond [.pv (.str ⟨#[]⟩)] [.pv (atP o5 0)]) ∧ call strings_Join [.one (.list 1 [[(atP o2 0)], [(.str ⟨#[63]⟩)], [(atP o3 0)], [(atP o4 0)], [(atP o5 0)]]), .one (.str ⟨#[32]⟩)] fun o6 =>
   iteP a15
    (binP .add (atP o6 0) (.str ⟨#[32, 102, 114, 111, 122, 101, 110]⟩) fun r7 =>
    rt [.sc] [r7] k)
    (rt [.sc] [(atP o6 0)] k))
   (call impl_FormatInt [.one a1] fun o8 =>
   (2 = 2) ∧ (2 ≤ 16777216) ∧ (1 = 1) ∧ (0 = 0) ∧ (1 = 1) ∧ (flatCond [.pv (I 0)] [.pv a3]) ∧ (1 = 1) ∧ (1 = 1) ∧ (flatCond [.pv (I 0)] [.pv a4]) ∧ call impl_joined [.one (.str ⟨#[45]⟩), .one (.list 1 [[a3], [a4]])] fun o9 =>
   call impl_FormatInt [.one a5] fun o10 =>
   call impl_FormatKeys [.agg [a8, a9]] fun o11 =>
   (5 = 5) ∧ (5 ≤ 16777216) ∧ (1 = 1) ∧ (0 = 0) ∧ (1 = 1) ∧ (flatCond [.pv (.str ⟨#[]⟩)] [.pv (atP o8 0)]) ∧ (1 = 1) ∧ (1 = 1) ∧ (flatCond [.pv (.str ⟨#[]⟩)] [.pv (atP o0 0)]) ∧ (2 = 2) ∧ (1 = 1) ∧ (flatCond [.pv (.str ⟨#[]⟩)] [.pv (atP o9 0)]) ∧ (3 = 3) ∧ (1 = 1) ∧ (flatCond [.pv (.str ⟨#[]⟩)] [.pv (atP o10 0)]) ∧ (4 = 4) ∧ (1 = 1) ∧ (flatCond [.pv (.str ⟨#[]⟩)] [.pv (atP o11 0)]) ∧ call strings_Join [.one (.list 1 [[(atP o8 0)], [(atP o0 0)], [(atP o9 0)], [(atP o10 0)], [(atP o11 0)]]), .one (.str ⟨#[32]⟩)] fun o12 =>
   iteP a15
    (binP .add (atP o12 0) (.str ⟨#[32, 102, 114, 111, 122, 101, 110]⟩) fun r13 =>
    rt [.sc] [r13] k)
    (rt [.sc] [(atP o12 0)] k))) u0
 | _, _ => False
abbrev impl_FormatHead_e : Ent := ⟨[21], impl_FormatHead⟩
theorem impl_FormatHead_w : EntOK Tryd.prog TT impl_FormatHead_e := ent_ok tabok (L := [impl_nameOf_e, impl_FormatInt_e, impl_joined_e, impl_FormatKeys_e, strings_Join_e]) ⟨impl_nameOf_w, impl_FormatInt_w, impl_joined_w, impl_FormatKeys_w, strings_Join_w, trivial⟩ (keep := []) (l := []) Tryd.func21 (by kernel_rfl) (sg := [.one (.sc)]) (by kernel_rfl) trivial fun av k h => by
  unfold impl_FormatHead at h; split at h
  · apply un_all h; clear h; intro a0 a1 a2 a3 a4 a5 a6 a7 a8 a9 a10 a11 a12 a13 a14 a15 h; exact Eq.mpr (by kernel_rfl) h
  · exact h.elim

def laws_eqHead : GM
 | [.agg u0, .agg u1], k => un 16 (fun a0 a1 a2 a3 a4 a5 a6 a7 a8 a9 a10 a11 a12 a13 a14 a15 => un 16 (fun a16 a17 a18 a19 a20 a21 a22 a23 a24 a25 a26 a27 a28 a29 a30 a31 => 
  binP .neq a0 a16 fun r0 =>
  iteP r0
   (rt [.sc] [(.bool false)] k)
   (binP .neq a1 a17 fun r1 =>
   iteP r1
    (rt [.sc] [(.bool false)] k)
    (binP .neq a2 a18 fun r2 =>
    iteP r2
     (rt [.sc] [(.bool false)] k)
     (binP .neq a3 a19 fun r3 =>
     iteP r3
      (rt [.sc] [(.bool false)] k)
      (binP .neq a4 a20 fun r4 =>
      iteP r4
       (rt [.sc] [(.bool false)] k)
       (binP .neq a5 a21 fun r5 =>
       iteP r5
        (rt [.sc] [(.bool false)] k)
        (binP .neq a6 a22 fun r6 =>
        iteP r6
         (rt [.sc] [(.bool false)] k)
         (binP .neq a7 a23 fun r7 =>
         iteP r7
          (rt [.sc] [(.bool false)] k)
          (call laws_eqKeys [.agg [a8, a9], .agg [a24, a25]] fun o8 =>
          unP .not (atP o8 0) fun r9 =>
          iteP r9
           (rt [.sc] [(.bool false)] k)
           (call laws_eqKeys [.agg [a10, a11], .agg [a26, a27]] fun o10 =>
           unP .not (atP o10 0) fun r11 =>
           iteP r11
            (rt [.sc] [(.bool false)] k)
            (binP .neq a12 a28 fun r12 =>
            iteP r12
             (rt [.sc] [(.bool false)] k)
             (call laws_eqKeys [.agg [a13, a14], .agg [a29, a30]] fun o13 =>
             unP .not (atP o13 0) fun r14 =>
             iteP r14
              (rt [.sc] [(.bool false)] k)
              (boolP .neq a15 a31 fun r15 =>
              iteP r15
               (rt [.sc] [(.bool false)] k)
               (rt [.sc] [(.bool true)] k)))))))))))))) u1) u0
 | _, _ => False
abbrev laws_eqHead_e : Ent := ⟨[22], laws_eqHead⟩
theorem laws_eqHead_w : EntOK Tryd.prog TT laws_eqHead_e := ent_ok tabok (L := [laws_eqKeys_e]) ⟨laws_eqKeys_w, trivial⟩ (keep := []) (l := []) Tryd.func22 (by kernel_rfl) (sg := [.one (.sc)]) (by kernel_rfl) trivial fun av k h => by
  unfold laws_eqHead at h; split at h
  · apply un_all h; clear h; intro a0 a1 a2 a3 a4 a5 a6 a7 a8 a9 a10 a11 a12 a13 a14 a15 h; apply un_all h; clear h; intro a16 a17 a18 a19 a20 a21 a22 a23 a24 a25 a26 a27 a28 a29 a30 a31 h; exact Eq.mpr (by kernel_rfl) h
  · exact h.elim

def laws_FnExactFormatHead : GM
 | [.agg u0], k => un 16 (fun a0 a1 a2 a3 a4 a5 a6 a7 a8 a9 a10 a11 a12 a13 a14 a15 => 
  call laws_szHead [.agg [a0, a1, a2, a3, a4, a5, a6, a7, a8, a9, a10, a11, a12, a13, a14, a15], .one (I 1048576)] fun o0 =>
  binP .lss (atP o0 0) (I 0) fun r1 =>
  iteP r1
   (rt [.sc] [(.bool true)] k)
   (call laws_toHead [.agg [a0, a1, a2, a3, a4, a5, a6, a7, a8, a9, a10, a11, a12, a13, a14, a15]] fun o2 =>
   call spec_FormatHead [.agg [(atP o2 0), (atP o2 1), (atP o2 2), (atP o2 3), (atP o2 4), (atP o2 5), (atP o2 6), (atP o2 7), (atP o2 8), (atP o2 9), (atP o2 10), (atP o2 11), (atP o2 12), (atP o2 13), (atP o2 14), (atP o2 15)]] fun o3 =>
   call laws_toHead [.agg [a0, a1, a2, a3, a4, a5, a6, a7, a8, a9, a10, a11, a12, a13, a14, a15]] fun o4 =>
   call impl_FormatHead [.agg [(atP o4 0), (atP o4 1), (atP o4 2), (atP o4 3), (atP o4 4), (atP o4 5), (atP o4 6), (atP o4 7), (atP o4 8), (atP o4 9), (atP o4 10), (atP o4 11), (atP o4 12), (atP o4 13), (atP o4 14), (atP o4 15)]] fun o5 =>
   binP .neq (atP o5 0) (atP o3 0) fun r6 =>
   iteP r6
    (rt [.sc] [(.bool false)] k)
    (call laws_toHead [.agg [a0, a1, a2, a3, a4, a5, a6, a7, a8, a9, a10, a11, a12, a13, a14, a15]] fun o7 =>
    call laws_eqHead [.agg [(atP o4 0), (atP o4 1), (atP o4 2), (atP o4 3), (atP o4 4), (atP o4 5), (atP o4 6), (atP o4 7), (atP o4 8), (atP o4 9), (atP o4 10), (atP o4 11), (atP o4 12), (atP o4 13), (atP o4 14), (atP o4 15)], .agg [(atP o7 0), (atP o7 1), (atP o7 2), (atP o7 3), (atP o7 4), (atP o7 5), (atP o7 6), (atP o7 7), (atP o7 8), (atP o7 9), (atP o7 10), (atP o7 11), (atP o7 12), (atP o7 13), (atP o7 14), (atP o7 15)]] fun o8 =>
    unP .not (atP o8 0) fun r9 =>
    iteP r9
     (rt [.sc] [(.bool false)] k)
     (rt [.sc] [(.bool true)] k)))) u0
 | _, _ => False
abbrev laws_FnExactFormatHead_e : Ent := ⟨[5], laws_FnExactFormatHead⟩
theorem laws_FnExactFormatHead_w : EntOK Tryd.prog TT laws_FnExactFormatHead_e := ent_ok tabok (L := [laws_szHead_e, laws_toHead_e, spec_FormatHead_e, impl_FormatHead_e, laws_eqHead_e]) ⟨laws_szHead_w, laws_toHead_w, spec_FormatHead_w, impl_FormatHead_w, laws_eqHead_w, trivial⟩ (keep := []) (l := []) Tryd.func5 (by kernel_rfl) (sg := [.one (.sc)]) (by kernel_rfl) trivial fun av k h => by
  unfold laws_FnExactFormatHead at h; split at h
  · apply un_all h; clear h; intro a0 a1 a2 a3 a4 a5 a6 a7 a8 a9 a10 a11 a12 a13 a14 a15 h; exact Eq.mpr (by kernel_rfl) h
  · exact h.elim

def laws_szEntryS_r0 (v : List PV) (K : List PV → Prop) (x0k : Prop) (x1k : PV → PV → PV → PV → Prop) : Prop :=
 un 4 (fun v0 v1 v2 v3 =>
  lenP v0 fun r0 =>
  binP .lss v3 r0 fun r1 =>
  iteP r1
   (elemP 4 v0 v3 fun c2 =>
   call laws_szEntry [.agg [(atP c2 0), (atP c2 1), (atP c2 2), (atP c2 3)], .one v1] fun o3 =>
   binP .lss (atP o3 0) (I 0) fun r4 =>
   iteP r4
    (x0k)
    (binP .add v3 (I 1) fun r5 =>
    K [v0, (atP o3 0), v2, r5]))
   (x1k v0 v1 v2 v3)) v
def laws_szEntryS : GM
 | [.one a0, .one a1], k => 
  lenP a0 fun r0 =>
  binP .sub a1 r0 fun r1 =>
  binP .lss r1 (I 0) fun r2 =>
  iteP r2
   (rt [.sc] [(I (-1))] k)
   (lp (fun L w => laws_szEntryS_r0 w L
    (rt [.sc] [(I (-1))] k)
    (fun q6 q7 q8 q9 => rt [.sc] [q7] k)) [a0, r1, (I 0), (I 0)])
 | _, _ => False
abbrev laws_szEntryS_e : Ent := ⟨[49], laws_szEntryS⟩
def laws_szEntryS_l : List LE := [⟨0, ⟨[(0, .one (.pv (.bool false))), (1, .one (.pv (.bool false))), (4, .one (.pv (.bool false))), (5, .one (.pv (.bool false)))], [], [], 0, 27⟩, fun K k v => laws_szEntryS_r0 v K (k .ret ⟨[(4, .one (.pv (I (-1))))], [], [], 1, 27⟩) (fun x0 x1 x2 x3 => k (.exit 0) ⟨[(0, .one (.pv x0)), (1, .one (.pv x1)), (4, .one (.pv x2)), (5, .one (.pv x3))], [], [], 0, 27⟩)⟩]
theorem laws_szEntryS_s : LEsOK (orac [laws_szEntry_e]) TT (kk [0, 1, 4, 5]) (sumsOf laws_szEntryS_l) Tryd.f49 laws_szEntryS_l := ⟨fun v K k h => by
  apply un_all h; exact fun v0 v1 v2 v3 h => Eq.mpr (by kernel_rfl) h
  , trivial⟩
theorem laws_szEntryS_w : EntOK Tryd.prog TT laws_szEntryS_e := ent_ok tabok (L := [laws_szEntry_e]) ⟨laws_szEntry_w, trivial⟩ (keep := (kk [0, 1, 4, 5])) (l := laws_szEntryS_l) Tryd.func49 (by kernel_rfl) (sg := [.one (.sc)]) (by kernel_rfl) laws_szEntryS_s fun av k h => by
  unfold laws_szEntryS at h; split at h
  · exact Eq.mpr (by kernel_rfl) h
  · exact h.elim

def laws_szDecision : GM
 | [.agg u0, .one a6], k => un 6 (fun a0 a1 a2 a3 a4 a5 => 
  call laws_szEntry [.agg [a1, a2, a3, a4], .one a6] fun o0 =>
  binP .lss (atP o0 0) (I 0) fun r1 =>
  iteP r1
   (rt [.sc] [(I (-1))] k)
   (call laws_szEntryS [.one a5, .one (atP o0 0)] fun o2 =>
   binP .lss (atP o2 0) (I 0) fun r3 =>
   iteP r3
    (rt [.sc] [(I (-1))] k)
    (rt [.sc] [(atP o2 0)] k))) u0
 | _, _ => False
abbrev laws_szDecision_e : Ent := ⟨[23], laws_szDecision⟩
theorem laws_szDecision_w : EntOK Tryd.prog TT laws_szDecision_e := ent_ok tabok (L := [laws_szEntry_e, laws_szEntryS_e]) ⟨laws_szEntry_w, laws_szEntryS_w, trivial⟩ (keep := []) (l := []) Tryd.func23 (by kernel_rfl) (sg := [.one (.sc)]) (by kernel_rfl) trivial fun av k h => by
  unfold laws_szDecision at h; split at h
  · apply un_all h; clear h; intro a0 a1 a2 a3 a4 a5 h; exact Eq.mpr (by kernel_rfl) h
  · exact h.elim

def laws_toEntryS_r0 (v : List PV) (K : List PV → Prop) (x0k : PV → PV → PV → PV → Prop) : Prop :=
 un 4 (fun v0 v1 v2 v3 =>
  lenP v0 fun r0 =>
  binP .lss v1 r0 fun r1 =>
  iteP r1
   (elemP 4 v0 v1 fun c2 =>
   call laws_toEntry [.agg [(atP c2 0), (atP c2 1), (atP c2 2), (atP c2 3)]] fun o3 =>
   boundP 4 v3 v1 fun n4 =>
   (flatCond [.pv (.str ⟨#[]⟩), .pv (I 0), .pv (I 0), .nil 9 1] [.pv (atP o3 0), .pv (atP o3 1), .pv (atP o3 2), .own 5]) ∧ setP v3 n4 0 [(atP o3 0), (atP o3 1), (atP o3 2), (atP o3 3)] fun r5 =>
   binP .add v1 (I 1) fun r6 =>
   K [v0, r6, v2, r5])
   (x0k v0 v1 v2 v3)) v
def laws_toEntryS : GM
 | [.one a0], k => 
  lenP a0 fun r0 =>
  (r0 = r0) ∧ (4 = 4) ∧ makeP 4 r0 [(.str ⟨#[]⟩), (I 0), (I 0), (.list 1 [])] fun r1 =>
  lp (fun L w => laws_toEntryS_r0 w L
   (fun q7 q8 q9 q10 => rt [.own true 36 4] [q10] k)) [a0, (I 0), (.list 4 []), r1]
 | _, _ => False
abbrev laws_toEntryS_e : Ent := ⟨[52], laws_toEntryS⟩
def laws_toEntryS_l : List LE := [⟨0, ⟨[(0, .one (.pv (.bool false))), (2, .one (.own 1)), (3, .one (.own 0)), (4, .one (.pv (.bool false)))], [], [(1, ⟨.deep, 36, 4, (.bool false)⟩), (0, ⟨.deep, 36, 4, (.bool false)⟩)], 2, 23⟩, fun K k v => laws_toEntryS_r0 v K (fun x0 x1 x2 x3 => k (.exit 0) ⟨[(0, .one (.pv x0)), (2, .one (.own 1)), (3, .one (.own 0)), (4, .one (.pv x1))], [], [(1, ⟨.deep, 36, 4, x2⟩), (0, ⟨.deep, 36, 4, x3⟩)], 2, 23⟩)⟩]
theorem laws_toEntryS_s : LEsOK (orac [laws_toEntry_e]) TT (kk [0, 2, 3, 4]) (sumsOf laws_toEntryS_l) Tryd.f52 laws_toEntryS_l := ⟨fun v K k h => by
  apply un_all h; exact fun v0 v1 v2 v3 h => Eq.mpr (by kernel_rfl) h
  , trivial⟩
theorem laws_toEntryS_w : EntOK Tryd.prog TT laws_toEntryS_e := ent_ok tabok (L := [laws_toEntry_e]) ⟨laws_toEntry_w, trivial⟩ (keep := (kk [0, 2, 3, 4])) (l := laws_toEntryS_l) Tryd.func52 (by kernel_rfl) (sg := [.one (.own true 36 4)]) (by kernel_rfl) laws_toEntryS_s fun av k h => by
  unfold laws_toEntryS at h; split at h
  · exact Eq.mpr (by kernel_rfl) h
  · exact h.elim

def laws_toDecision : GM
 | [.agg u0], k => un 6 (fun a0 a1 a2 a3 a4 a5 => 
  call laws_toEntry [.agg [a1, a2, a3, a4]] fun o0 =>
  call laws_toEntryS [.one a5] fun o1 =>
  rt [.sc, .sc, .sc, .sc, .own true 9 1, .own true 36 4] [a0, (atP o0 0), (atP o0 1), (atP o0 2), (atP o0 3), (atP o1 0)] k) u0
 | _, _ => False
abbrev laws_toDecision_e : Ent := ⟨[25], laws_toDecision⟩
theorem laws_toDecision_w : EntOK Tryd.prog TT laws_toDecision_e := ent_ok tabok (L := [laws_toEntry_e, laws_toEntryS_e]) ⟨laws_toEntry_w, laws_toEntryS_w, trivial⟩ (keep := []) (l := []) Tryd.func25 (by kernel_rfl) (sg := [.agg [.sc, .sc, .sc, .sc, .own true 9 1, .own true 36 4]]) (by kernel_rfl) trivial fun av k h => by
  unfold laws_toDecision at h; split at h
  · apply un_all h; clear h; intro a0 a1 a2 a3 a4 a5 h; exact Eq.mpr (by kernel_rfl) h
  · exact h.elim

def spec_DecisionName : GM
 | [.one a0], k => 
  call spec_l1In [.one a0, .one (I 1), .one (I 5)] fun o0 =>
  unP .not (atP o0 0) fun r1 =>
  iteP r1
   (rt [.sc] [(.str ⟨#[]⟩)] k)
   ((6 = 6) ∧ (6 ≤ 16777216) ∧ (1 = 1) ∧ (0 = 0) ∧ (1 = 1) ∧ (flatCond [.pv (.str ⟨#[]⟩)] [.pv (.str ⟨#[]⟩)]) ∧ (1 = 1) ∧ (1 = 1) ∧ (flatCond [.pv (.str ⟨#[]⟩)] [.pv (.str ⟨#[115, 117, 114, 101]⟩)]) ∧ (2 = 2) ∧ (1 = 1) ∧ (flatCond [.pv (.str ⟨#[]⟩)] [.pv (.str ⟨#[97, 103, 114, 101, 101, 100]⟩)]) ∧ (3 = 3) ∧ (1 = 1) ∧ (flatCond [.pv (.str ⟨#[]⟩)] [.pv (.str ⟨#[97, 115, 107]⟩)]) ∧ (4 = 4) ∧ (1 = 1) ∧ (flatCond [.pv (.str ⟨#[]⟩)] [.pv (.str ⟨#[97, 98, 115, 101, 110, 116]⟩)]) ∧ (5 = 5) ∧ (1 = 1) ∧ (flatCond [.pv (.str ⟨#[]⟩)] [.pv (.str ⟨#[110, 111, 110, 101]⟩)]) ∧ boundP 1 (.list 1 [[(.str ⟨#[]⟩)], [(.str ⟨#[115, 117, 114, 101]⟩)], [(.str ⟨#[97, 103, 114, 101, 101, 100]⟩)], [(.str ⟨#[97, 115, 107]⟩)], [(.str ⟨#[97, 98, 115, 101, 110, 116]⟩)], [(.str ⟨#[110, 111, 110, 101]⟩)]]) a0 fun n2 =>
   rowP 1 (.list 1 [[(.str ⟨#[]⟩)], [(.str ⟨#[115, 117, 114, 101]⟩)], [(.str ⟨#[97, 103, 114, 101, 101, 100]⟩)], [(.str ⟨#[97, 115, 107]⟩)], [(.str ⟨#[97, 98, 115, 101, 110, 116]⟩)], [(.str ⟨#[110, 111, 110, 101]⟩)]]) n2 fun c3 =>
   (flats [(atP c3 0)]) ∧ rt [.sc] [(atP c3 0)] k)
 | _, _ => False
abbrev spec_DecisionName_e : Ent := ⟨[50], spec_DecisionName⟩
theorem spec_DecisionName_w : EntOK Tryd.prog TT spec_DecisionName_e := ent_ok tabok (L := [spec_l1In_e]) ⟨spec_l1In_w, trivial⟩ (keep := []) (l := []) Tryd.func50 (by kernel_rfl) (sg := [.one (.sc)]) (by kernel_rfl) trivial fun av k h => by
  unfold spec_DecisionName at h; split at h
  · exact Eq.mpr (by kernel_rfl) h
  · exact h.elim

def spec_l39Entry : GM
 | [.agg u0], k => un 4 (fun a0 a1 a2 a3 => 
  binP .eql a1 (I 0) fun r0 =>
  iteP r0
   (rt [.sc] [(.str ⟨#[45]⟩)] k)
   (call spec_FormatEntry [.agg [a0, a1, a2, a3]] fun o1 =>
   rt [.sc] [(atP o1 0)] k)) u0
 | _, _ => False
abbrev spec_l39Entry_e : Ent := ⟨[51], spec_l39Entry⟩
theorem spec_l39Entry_w : EntOK Tryd.prog TT spec_l39Entry_e := ent_ok tabok (L := [spec_FormatEntry_e]) ⟨spec_FormatEntry_w, trivial⟩ (keep := []) (l := []) Tryd.func51 (by kernel_rfl) (sg := [.one (.sc)]) (by kernel_rfl) trivial fun av k h => by
  unfold spec_l39Entry at h; split at h
  · apply un_all h; clear h; intro a0 a1 a2 a3 h; exact Eq.mpr (by kernel_rfl) h
  · exact h.elim

def spec_FormatDecision : GM
 | [.agg u0], k => un 6 (fun a0 a1 a2 a3 a4 a5 => 
  call spec_DecisionName [.one a0] fun o0 =>
  binP .add (atP o0 0) (.str ⟨#[32]⟩) fun r1 =>
  call spec_l39Entry [.agg [a1, a2, a3, a4]] fun o2 =>
  binP .add r1 (atP o2 0) fun r3 =>
  binP .add r3 (.str ⟨#[32]⟩) fun r4 =>
  lenP a5 fun r5 =>
  call spec_FormatInt [.one r5] fun o6 =>
  binP .add r4 (atP o6 0) fun r7 =>
  rt [.sc] [r7] k) u0
 | _, _ => False
abbrev spec_FormatDecision_e : Ent := ⟨[24], spec_FormatDecision⟩
theorem spec_FormatDecision_w : EntOK Tryd.prog TT spec_FormatDecision_e := ent_ok tabok (L := [spec_DecisionName_e, spec_l39Entry_e, spec_FormatInt_e]) ⟨spec_DecisionName_w, spec_l39Entry_w, spec_FormatInt_w, trivial⟩ (keep := []) (l := []) Tryd.func24 (by kernel_rfl) (sg := [.one (.sc)]) (by kernel_rfl) trivial fun av k h => by
  unfold spec_FormatDecision at h; split at h
  · apply un_all h; clear h; intro a0 a1 a2 a3 a4 a5 h; exact Eq.mpr (by kernel_rfl) h
  · exact h.elim

def impl_DecisionName : GM
 | [.one a0], k => 
  (5 = 5) ∧ (5 ≤ 16777216) ∧ (1 = 1) ∧ (0 = 0) ∧ (1 = 1) ∧ (flatCond [.pv (.str ⟨#[]⟩)] [.pv (.str ⟨#[115, 117, 114, 101]⟩)]) ∧ (1 = 1) ∧ (1 = 1) ∧ (flatCond [.pv (.str ⟨#[]⟩)] [.pv (.str ⟨#[97, 103, 114, 101, 101, 100]⟩)]) ∧ (2 = 2) ∧ (1 = 1) ∧ (flatCond [.pv (.str ⟨#[]⟩)] [.pv (.str ⟨#[97, 115, 107]⟩)]) ∧ (3 = 3) ∧ (1 = 1) ∧ (flatCond [.pv (.str ⟨#[]⟩)] [.pv (.str ⟨#[97, 98, 115, 101, 110, 116]⟩)]) ∧ (4 = 4) ∧ (1 = 1) ∧ (flatCond [.pv (.str ⟨#[]⟩)] [.pv (.str ⟨#[110, 111, 110, 101]⟩)]) ∧ call impl_nameOf [.one a0, .one (.list 1 [[(.str ⟨#[115, 117, 114, 101]⟩)], [(.str ⟨#[97, 103, 114, 101, 101, 100]⟩)], [(.str ⟨#[97, 115, 107]⟩)], [(.str ⟨#[97, 98, 115, 101, 110, 116]⟩)], [(.str ⟨#[110, 111, 110, 101]⟩)]])] fun o0 =>
  rt [.sc] [(atP o0 0)] k
 | _, _ => False
abbrev impl_DecisionName_e : Ent := ⟨[53], impl_DecisionName⟩
theorem impl_DecisionName_w : EntOK Tryd.prog TT impl_DecisionName_e := ent_ok tabok (L := [impl_nameOf_e]) ⟨impl_nameOf_w, trivial⟩ (keep := []) (l := []) Tryd.func53 (by kernel_rfl) (sg := [.one (.sc)]) (by kernel_rfl) trivial fun av k h => by
  unfold impl_DecisionName at h; split at h
  · exact Eq.mpr (by kernel_rfl) h
  · exact h.elim

def impl_entryOrDash : GM
 | [.agg u0], k => un 4 (fun a0 a1 a2 a3 => 
  binP .eql a1 (I 0) fun r0 =>
  iteP r0
   (rt [.sc] [(.str ⟨#[45]⟩)] k)
   (call impl_FormatEntry [.agg [a0, a1, a2, a3]] fun o1 =>
   rt [.sc] [(atP o1 0)] k)) u0
 | _, _ => False
abbrev impl_entryOrDash_e : Ent := ⟨[54], impl_entryOrDash⟩
theorem impl_entryOrDash_w : EntOK Tryd.prog TT impl_entryOrDash_e := ent_ok tabok (L := [impl_FormatEntry_e]) ⟨impl_FormatEntry_w, trivial⟩ (keep := []) (l := []) Tryd.func54 (by kernel_rfl) (sg := [.one (.sc)]) (by kernel_rfl) trivial fun av k h => by
  unfold impl_entryOrDash at h; split at h
  · apply un_all h; clear h; intro a0 a1 a2 a3 h; exact Eq.mpr (by kernel_rfl) h
  · exact h.elim

def impl_FormatDecision : GM
 | [.agg u0], k => un 6 (fun a0 a1 a2 a3 a4 a5 => 
  call impl_DecisionName [.one a0] fun o0 =>
  binP .add (atP o0 0) (.str ⟨#[32]⟩) fun r1 =>
  call impl_entryOrDash [.agg [a1, a2, a3, a4]] fun o2 =>
  binP .add r1 (atP o2 0) fun r3 =>
  binP .add r3 (.str ⟨#[32]⟩) fun r4 =>
  lenP a5 fun r5 =>
  call impl_FormatInt [.one r5] fun o6 =>
  binP .add r4 (atP o6 0) fun r7 =>
  rt [.sc] [r7] k) u0
 | _, _ => False
abbrev impl_FormatDecision_e : Ent := ⟨[26], impl_FormatDecision⟩
theorem impl_FormatDecision_w : EntOK Tryd.prog TT impl_FormatDecision_e := ent_ok tabok (L := [impl_DecisionName_e, impl_entryOrDash_e, impl_FormatInt_e]) ⟨impl_DecisionName_w, impl_entryOrDash_w, impl_FormatInt_w, trivial⟩ (keep := []) (l := []) Tryd.func26 (by kernel_rfl) (sg := [.one (.sc)]) (by kernel_rfl) trivial fun av k h => by
  unfold impl_FormatDecision at h; split at h
  · apply un_all h; clear h; intro a0 a1 a2 a3 a4 a5 h; exact Eq.mpr (by kernel_rfl) h
  · exact h.elim

def laws_eqEntryS_r0 (v : List PV) (K : List PV → Prop) (x0k : Prop) (x1k : PV → PV → PV → PV → Prop) : Prop :=
 un 4 (fun v0 v1 v2 v3 =>
  lenP v0 fun r0 =>
  binP .lss v3 r0 fun r1 =>
  iteP r1
   (elemP 4 v0 v3 fun c2 =>
   elemP 4 v1 v3 fun c3 =>
   call laws_eqEntry [.agg [(atP c2 0), (atP c2 1), (atP c2 2), (atP c2 3)], .agg [(atP c3 0), (atP c3 1), (atP c3 2), (atP c3 3)]] fun o4 =>
   unP .not (atP o4 0) fun r5 =>
   iteP r5
    (x0k)
    (binP .add v3 (I 1) fun r6 =>
    K [v0, v1, v2, r6]))
   (x1k v0 v1 v2 v3)) v
def laws_eqEntryS : GM
 | [.one a0, .one a1], k => 
  lenP a0 fun r0 =>
  lenP a1 fun r1 =>
  binP .neq r0 r1 fun r2 =>
  iteP r2
   (rt [.sc] [(.bool false)] k)
   (lp (fun L w => laws_eqEntryS_r0 w L
    (rt [.sc] [(.bool false)] k)
    (fun q7 q8 q9 q10 => rt [.sc] [(.bool true)] k)) [a0, a1, (.bool false), (I 0)])
 | _, _ => False
abbrev laws_eqEntryS_e : Ent := ⟨[55], laws_eqEntryS⟩
def laws_eqEntryS_l : List LE := [⟨0, ⟨[(0, .one (.pv (.bool false))), (1, .one (.pv (.bool false))), (4, .one (.pv (.bool false))), (5, .one (.pv (.bool false)))], [], [], 0, 27⟩, fun K k v => laws_eqEntryS_r0 v K (k .ret ⟨[(4, .one (.kb false))], [], [], 1, 27⟩) (fun x0 x1 x2 x3 => k (.exit 0) ⟨[(0, .one (.pv x0)), (1, .one (.pv x1)), (4, .one (.pv x2)), (5, .one (.pv x3))], [], [], 0, 27⟩)⟩]
theorem laws_eqEntryS_s : LEsOK (orac [laws_eqEntry_e]) TT (kk [0, 1, 4, 5]) (sumsOf laws_eqEntryS_l) Tryd.f55 laws_eqEntryS_l := ⟨fun v K k h => by
  apply un_all h; exact fun v0 v1 v2 v3 h => Eq.mpr (by kernel_rfl) h
  , trivial⟩
theorem laws_eqEntryS_w : EntOK Tryd.prog TT laws_eqEntryS_e := ent_ok tabok (L := [laws_eqEntry_e]) ⟨laws_eqEntry_w, trivial⟩ (keep := (kk [0, 1, 4, 5])) (l := laws_eqEntryS_l) Tryd.func55 (by kernel_rfl) (sg := [.one (.sc)]) (by kernel_rfl) laws_eqEntryS_s fun av k h => by
  unfold laws_eqEntryS at h; split at h
  · exact Eq.mpr (by kernel_rfl) h
  · exact h.elim

def laws_eqDecision : GM
 | [.agg u0, .agg u1], k => un 6 (fun a0 a1 a2 a3 a4 a5 => un 6 (fun a6 a7 a8 a9 a10 a11 => 
  binP .neq a0 a6 fun r0 =>
  iteP r0
   (rt [.sc] [(.bool false)] k)
   (call laws_eqEntry [.agg [a1, a2, a3, a4], .agg [a7, a8, a9, a10]] fun o1 =>
   unP .not (atP o1 0) fun r2 =>
   iteP r2
    (rt [.sc] [(.bool false)] k)
    (call laws_eqEntryS [.one a5, .one a11] fun o3 =>
    unP .not (atP o3 0) fun r4 =>
    iteP r4
     (rt [.sc] [(.bool false)] k)
     (rt [.sc] [(.bool true)] k)))) u1) u0
 | _, _ => False
abbrev laws_eqDecision_e : Ent := ⟨[27], laws_eqDecision⟩
theorem laws_eqDecision_w : EntOK Tryd.prog TT laws_eqDecision_e := ent_ok tabok (L := [laws_eqEntry_e, laws_eqEntryS_e]) ⟨laws_eqEntry_w, laws_eqEntryS_w, trivial⟩ (keep := []) (l := []) Tryd.func27 (by kernel_rfl) (sg := [.one (.sc)]) (by kernel_rfl) trivial fun av k h => by
  unfold laws_eqDecision at h; split at h
  · apply un_all h; clear h; intro a0 a1 a2 a3 a4 a5 h; apply un_all h; clear h; intro a6 a7 a8 a9 a10 a11 h; exact Eq.mpr (by kernel_rfl) h
  · exact h.elim

def laws_FnExactFormatDecision : GM
 | [.agg u0], k => un 6 (fun a0 a1 a2 a3 a4 a5 => 
  call laws_szDecision [.agg [a0, a1, a2, a3, a4, a5], .one (I 1048576)] fun o0 =>
  binP .lss (atP o0 0) (I 0) fun r1 =>
  iteP r1
   (rt [.sc] [(.bool true)] k)
   (call laws_toDecision [.agg [a0, a1, a2, a3, a4, a5]] fun o2 =>
   call spec_FormatDecision [.agg [(atP o2 0), (atP o2 1), (atP o2 2), (atP o2 3), (atP o2 4), (atP o2 5)]] fun o3 =>
   call laws_toDecision [.agg [a0, a1, a2, a3, a4, a5]] fun o4 =>
   call impl_FormatDecision [.agg [(atP o4 0), (atP o4 1), (atP o4 2), (atP o4 3), (atP o4 4), (atP o4 5)]] fun o5 =>
   binP .neq (atP o5 0) (atP o3 0) fun r6 =>
   iteP r6
    (rt [.sc] [(.bool false)] k)
    (call laws_toDecision [.agg [a0, a1, a2, a3, a4, a5]] fun o7 =>
    call laws_eqDecision [.agg [(atP o4 0), (atP o4 1), (atP o4 2), (atP o4 3), (atP o4 4), (atP o4 5)], .agg [(atP o7 0), (atP o7 1), (atP o7 2), (atP o7 3), (atP o7 4), (atP o7 5)]] fun o8 =>
    unP .not (atP o8 0) fun r9 =>
    iteP r9
     (rt [.sc] [(.bool false)] k)
     (rt [.sc] [(.bool true)] k)))) u0
 | _, _ => False
abbrev laws_FnExactFormatDecision_e : Ent := ⟨[6], laws_FnExactFormatDecision⟩
theorem laws_FnExactFormatDecision_w : EntOK Tryd.prog TT laws_FnExactFormatDecision_e := ent_ok tabok (L := [laws_szDecision_e, laws_toDecision_e, spec_FormatDecision_e, impl_FormatDecision_e, laws_eqDecision_e]) ⟨laws_szDecision_w, laws_toDecision_w, spec_FormatDecision_w, impl_FormatDecision_w, laws_eqDecision_w, trivial⟩ (keep := []) (l := []) Tryd.func6 (by kernel_rfl) (sg := [.one (.sc)]) (by kernel_rfl) trivial fun av k h => by
  unfold laws_FnExactFormatDecision at h; split at h
  · apply un_all h; clear h; intro a0 a1 a2 a3 a4 a5 h; exact Eq.mpr (by kernel_rfl) h
  · exact h.elim

def laws_szSigS : GM
 | [.one a0, .one a1], k => 
  lenP a0 fun r0 =>
  binP .sub a1 r0 fun r1 =>
  binP .lss r1 (I 0) fun r2 =>
  iteP r2
   (rt [.sc] [(I (-1))] k)
   (rt [.sc] [r1] k)
 | _, _ => False
abbrev laws_szSigS_e : Ent := ⟨[100], laws_szSigS⟩
theorem laws_szSigS_w : EntOK Tryd.prog TT laws_szSigS_e := ent_ok tabok (L := []) trivial (keep := []) (l := []) Tryd.func100 (by kernel_rfl) (sg := [.one (.sc)]) (by kernel_rfl) trivial fun av k h => by
  unfold laws_szSigS at h; split at h
  · exact Eq.mpr (by kernel_rfl) h
  · exact h.elim

def laws_szSigned : GM
 | [.agg u0, .one a17], k => un 17 (fun a0 a1 a2 a3 a4 a5 a6 a7 a8 a9 a10 a11 a12 a13 a14 a15 a16 => 
  call laws_szHead [.agg [a0, a1, a2, a3, a4, a5, a6, a7, a8, a9, a10, a11, a12, a13, a14, a15], .one a17] fun o0 =>
  binP .lss (atP o0 0) (I 0) fun r1 =>
  iteP r1
   (rt [.sc] [(I (-1))] k)
   (call laws_szSigS [.one a16, .one (atP o0 0)] fun o2 =>
   binP .lss (atP o2 0) (I 0) fun r3 =>
   iteP r3
    (rt [.sc] [(I (-1))] k)
    (rt [.sc] [(atP o2 0)] k))) u0
 | _, _ => False
abbrev laws_szSigned_e : Ent := ⟨[93], laws_szSigned⟩
theorem laws_szSigned_w : EntOK Tryd.prog TT laws_szSigned_e := ent_ok tabok (L := [laws_szHead_e, laws_szSigS_e]) ⟨laws_szHead_w, laws_szSigS_w, trivial⟩ (keep := []) (l := []) Tryd.func93 (by kernel_rfl) (sg := [.one (.sc)]) (by kernel_rfl) trivial fun av k h => by
  unfold laws_szSigned at h; split at h
  · apply un_all h; clear h; intro a0 a1 a2 a3 a4 a5 a6 a7 a8 a9 a10 a11 a12 a13 a14 a15 a16 h; exact Eq.mpr (by kernel_rfl) h
  · exact h.elim

def laws_szSignedS_r0 (v : List PV) (K : List PV → Prop) (x0k : Prop) (x1k : PV → PV → PV → PV → Prop) : Prop :=
 un 4 (fun v0 v1 v2 v3 =>
  lenP v0 fun r0 =>
  binP .lss v3 r0 fun r1 =>
  iteP r1
   (elemP 17 v0 v3 fun c2 =>
   call laws_szSigned [.agg [(atP c2 0), (atP c2 1), (atP c2 2), (atP c2 3), (atP c2 4), (atP c2 5), (atP c2 6), (atP c2 7), (atP c2 8), (atP c2 9), (atP c2 10), (atP c2 11), (atP c2 12), (atP c2 13), (atP c2 14), (atP c2 15), (atP c2 16)], .one v1] fun o3 =>
   binP .lss (atP o3 0) (I 0) fun r4 =>
   iteP r4
    (x0k)
    (binP .add v3 (I 1) fun r5 =>
    K [v0, (atP o3 0), v2, r5]))
   (x1k v0 v1 v2 v3)) v
def laws_szSignedS : GM
 | [.one a0, .one a1], k => 
  lenP a0 fun r0 =>
  binP .sub a1 r0 fun r1 =>
  binP .lss r1 (I 0) fun r2 =>
  iteP r2
   (rt [.sc] [(I (-1))] k)
   (lp (fun L w => laws_szSignedS_r0 w L
    (rt [.sc] [(I (-1))] k)
    (fun q6 q7 q8 q9 => rt [.sc] [q7] k)) [a0, r1, (I 0), (I 0)])
 | _, _ => False
abbrev laws_szSignedS_e : Ent := ⟨[83], laws_szSignedS⟩
def laws_szSignedS_l : List LE := [⟨0, ⟨[(0, .one (.pv (.bool false))), (1, .one (.pv (.bool false))), (4, .one (.pv (.bool false))), (5, .one (.pv (.bool false)))], [], [], 0, 27⟩, fun K k v => laws_szSignedS_r0 v K (k .ret ⟨[(4, .one (.pv (I (-1))))], [], [], 1, 27⟩) (fun x0 x1 x2 x3 => k (.exit 0) ⟨[(0, .one (.pv x0)), (1, .one (.pv x1)), (4, .one (.pv x2)), (5, .one (.pv x3))], [], [], 0, 27⟩)⟩]
theorem laws_szSignedS_s : LEsOK (orac [laws_szSigned_e]) TT (kk [0, 1, 4, 5]) (sumsOf laws_szSignedS_l) Tryd.f83 laws_szSignedS_l := ⟨fun v K k h => by
  apply un_all h; exact fun v0 v1 v2 v3 h => Eq.mpr (by kernel_rfl) h
  , trivial⟩
theorem laws_szSignedS_w : EntOK Tryd.prog TT laws_szSignedS_e := ent_ok tabok (L := [laws_szSigned_e]) ⟨laws_szSigned_w, trivial⟩ (keep := (kk [0, 1, 4, 5])) (l := laws_szSignedS_l) Tryd.func83 (by kernel_rfl) (sg := [.one (.sc)]) (by kernel_rfl) laws_szSignedS_s fun av k h => by
  unfold laws_szSignedS at h; split at h
  · exact Eq.mpr (by kernel_rfl) h
  · exact h.elim

def laws_szSignedSS_r0 (v : List PV) (K : List PV → Prop) (x0k : Prop) (x1k : PV → PV → PV → PV → Prop) : Prop :=
 un 4 (fun v0 v1 v2 v3 =>
  lenP v0 fun r0 =>
  binP .lss v3 r0 fun r1 =>
  iteP r1
   (elemP 1 v0 v3 fun c2 =>
   call laws_szSignedS [.one (atP c2 0), .one v1] fun o3 =>
   binP .lss (atP o3 0) (I 0) fun r4 =>
   iteP r4
    (x0k)
    (binP .add v3 (I 1) fun r5 =>
    K [v0, (atP o3 0), v2, r5]))
   (x1k v0 v1 v2 v3)) v
def laws_szSignedSS : GM
 | [.one a0, .one a1], k => 
  lenP a0 fun r0 =>
  binP .sub a1 r0 fun r1 =>
  binP .lss r1 (I 0) fun r2 =>
  iteP r2
   (rt [.sc] [(I (-1))] k)
   (lp (fun L w => laws_szSignedSS_r0 w L
    (rt [.sc] [(I (-1))] k)
    (fun q6 q7 q8 q9 => rt [.sc] [q7] k)) [a0, r1, (I 0), (I 0)])
 | _, _ => False
abbrev laws_szSignedSS_e : Ent := ⟨[70], laws_szSignedSS⟩
def laws_szSignedSS_l : List LE := [⟨0, ⟨[(0, .one (.pv (.bool false))), (1, .one (.pv (.bool false))), (4, .one (.pv (.bool false))), (5, .one (.pv (.bool false)))], [], [], 0, 27⟩, fun K k v => laws_szSignedSS_r0 v K (k .ret ⟨[(4, .one (.pv (I (-1))))], [], [], 1, 27⟩) (fun x0 x1 x2 x3 => k (.exit 0) ⟨[(0, .one (.pv x0)), (1, .one (.pv x1)), (4, .one (.pv x2)), (5, .one (.pv x3))], [], [], 0, 27⟩)⟩]
theorem laws_szSignedSS_s : LEsOK (orac [laws_szSignedS_e]) TT (kk [0, 1, 4, 5]) (sumsOf laws_szSignedSS_l) Tryd.f70 laws_szSignedSS_l := ⟨fun v K k h => by
  apply un_all h; exact fun v0 v1 v2 v3 h => Eq.mpr (by kernel_rfl) h
  , trivial⟩
theorem laws_szSignedSS_w : EntOK Tryd.prog TT laws_szSignedSS_e := ent_ok tabok (L := [laws_szSignedS_e]) ⟨laws_szSignedS_w, trivial⟩ (keep := (kk [0, 1, 4, 5])) (l := laws_szSignedSS_l) Tryd.func70 (by kernel_rfl) (sg := [.one (.sc)]) (by kernel_rfl) laws_szSignedSS_s fun av k h => by
  unfold laws_szSignedSS at h; split at h
  · exact Eq.mpr (by kernel_rfl) h
  · exact h.elim

def laws_szFork : GM
 | [.agg u0, .one a51], k => un 51 (fun a0 a1 a2 a3 a4 a5 a6 a7 a8 a9 a10 a11 a12 a13 a14 a15 a16 a17 a18 a19 a20 a21 a22 a23 a24 a25 a26 a27 a28 a29 a30 a31 a32 a33 a34 a35 a36 a37 a38 a39 a40 a41 a42 a43 a44 a45 a46 a47 a48 a49 a50 => 
  call laws_szSigned [.agg [a0, a1, a2, a3, a4, a5, a6, a7, a8, a9, a10, a11, a12, a13, a14, a15, a16], .one a51] fun o0 =>
  binP .lss (atP o0 0) (I 0) fun r1 =>
  iteP r1
   (rt [.sc] [(I (-1))] k)
   (call laws_szSigned [.agg [a17, a18, a19, a20, a21, a22, a23, a24, a25, a26, a27, a28, a29, a30, a31, a32, a33], .one (atP o0 0)] fun o2 =>
   binP .lss (atP o2 0) (I 0) fun r3 =>
   iteP r3
    (rt [.sc] [(I (-1))] k)
    (call laws_szSigned [.agg [a34, a35, a36, a37, a38, a39, a40, a41, a42, a43, a44, a45, a46, a47, a48, a49, a50], .one (atP o2 0)] fun o4 =>
    binP .lss (atP o4 0) (I 0) fun r5 =>
    iteP r5
     (rt [.sc] [(I (-1))] k)
     (rt [.sc] [(atP o4 0)] k)))) u0
 | _, _ => False
abbrev laws_szFork_e : Ent := ⟨[84], laws_szFork⟩
theorem laws_szFork_w : EntOK Tryd.prog TT laws_szFork_e := ent_ok tabok (L := [laws_szSigned_e]) ⟨laws_szSigned_w, trivial⟩ (keep := []) (l := []) Tryd.func84 (by kernel_rfl) (sg := [.one (.sc)]) (by kernel_rfl) trivial fun av k h => by
  unfold laws_szFork at h; split at h
  · apply un_all h; clear h; intro a0 a1 a2 a3 a4 a5 a6 a7 a8 a9 a10 a11 a12 a13 a14 a15 a16 a17 a18 a19 a20 a21 a22 a23 a24 a25 a26 a27 a28 a29 a30 a31 a32 a33 a34 a35 a36 a37 a38 a39 a40 a41 a42 a43 a44 a45 a46 a47 a48 a49 a50 h; exact Eq.mpr (by kernel_rfl) h
  · exact h.elim

def laws_szForkS_r0 (v : List PV) (K : List PV → Prop) (x0k : Prop) (x1k : PV → PV → PV → PV → Prop) : Prop :=
 un 4 (fun v0 v1 v2 v3 =>
  lenP v0 fun r0 =>
  binP .lss v3 r0 fun r1 =>
  iteP r1
   (elemP 51 v0 v3 fun c2 =>
   call laws_szFork [.agg [(atP c2 0), (atP c2 1), (atP c2 2), (atP c2 3), (atP c2 4), (atP c2 5), (atP c2 6), (atP c2 7), (atP c2 8), (atP c2 9), (atP c2 10), (atP c2 11), (atP c2 12), (atP c2 13), (atP c2 14), (atP c2 15), (atP c2 16), (atP c2 17), (atP c2 18), (atP c2 19), (atP c2 20), (atP c2 21), (atP c2 22), (atP c2 23), (atP c2 24), (atP c2 25), (atP c2 26), (atP c2 27), (atP c2 28), (atP c2 29), (atP c2 30), (atP c2 31), (atP c2 32), (atP c2 33), (atP c2 34), (atP c2 35), (atP c2 36), (atP c2 37), (atP c2 38), (atP c2 39), (atP c2 40), (atP c2 41), (atP c2 42), (atP c2 43), (atP c2 44), (atP c2 45), (atP c2 46), (atP c2 47), (atP c2 48), (atP c2 49), (atP c2 50)], .one v1] fun o3 =>
   binP .lss (atP o3 0) (I 0) fun r4 =>
   iteP r4
    (x0k)
    (binP .add v3 (I 1) fun r5 =>
    K [v0, (atP o3 0), v2, r5]))
   (x1k v0 v1 v2 v3)) v
def laws_szForkS : GM
 | [.one a0, .one a1], k => 
  lenP a0 fun r0 =>
  binP .sub a1 r0 fun r1 =>
  binP .lss r1 (I 0) fun r2 =>
  iteP r2
   (rt [.sc] [(I (-1))] k)
   (lp (fun L w => laws_szForkS_r0 w L
    (rt [.sc] [(I (-1))] k)
    (fun q6 q7 q8 q9 => rt [.sc] [q7] k)) [a0, r1, (I 0), (I 0)])
 | _, _ => False
abbrev laws_szForkS_e : Ent := ⟨[71], laws_szForkS⟩
def laws_szForkS_l : List LE := [⟨0, ⟨[(0, .one (.pv (.bool false))), (1, .one (.pv (.bool false))), (4, .one (.pv (.bool false))), (5, .one (.pv (.bool false)))], [], [], 0, 27⟩, fun K k v => laws_szForkS_r0 v K (k .ret ⟨[(4, .one (.pv (I (-1))))], [], [], 1, 27⟩) (fun x0 x1 x2 x3 => k (.exit 0) ⟨[(0, .one (.pv x0)), (1, .one (.pv x1)), (4, .one (.pv x2)), (5, .one (.pv x3))], [], [], 0, 27⟩)⟩]
theorem laws_szForkS_s : LEsOK (orac [laws_szFork_e]) TT (kk [0, 1, 4, 5]) (sumsOf laws_szForkS_l) Tryd.f71 laws_szForkS_l := ⟨fun v K k h => by
  apply un_all h; exact fun v0 v1 v2 v3 h => Eq.mpr (by kernel_rfl) h
  , trivial⟩
theorem laws_szForkS_w : EntOK Tryd.prog TT laws_szForkS_e := ent_ok tabok (L := [laws_szFork_e]) ⟨laws_szFork_w, trivial⟩ (keep := (kk [0, 1, 4, 5])) (l := laws_szForkS_l) Tryd.func71 (by kernel_rfl) (sg := [.one (.sc)]) (by kernel_rfl) laws_szForkS_s fun av k h => by
  unfold laws_szForkS at h; split at h
  · exact Eq.mpr (by kernel_rfl) h
  · exact h.elim

def laws_szKnown : GM
 | [.agg u0, .one a2], k => un 2 (fun a0 a1 => 
  call laws_szSignedSS [.one a0, .one a2] fun o0 =>
  binP .lss (atP o0 0) (I 0) fun r1 =>
  iteP r1
   (rt [.sc] [(I (-1))] k)
   (call laws_szForkS [.one a1, .one (atP o0 0)] fun o2 =>
   binP .lss (atP o2 0) (I 0) fun r3 =>
   iteP r3
    (rt [.sc] [(I (-1))] k)
    (rt [.sc] [(atP o2 0)] k))) u0
 | _, _ => False
abbrev laws_szKnown_e : Ent := ⟨[56], laws_szKnown⟩
theorem laws_szKnown_w : EntOK Tryd.prog TT laws_szKnown_e := ent_ok tabok (L := [laws_szSignedSS_e, laws_szForkS_e]) ⟨laws_szSignedSS_w, laws_szForkS_w, trivial⟩ (keep := []) (l := []) Tryd.func56 (by kernel_rfl) (sg := [.one (.sc)]) (by kernel_rfl) trivial fun av k h => by
  unfold laws_szKnown at h; split at h
  · apply un_all h; clear h; intro a0 a1 h; exact Eq.mpr (by kernel_rfl) h
  · exact h.elim

def laws_szTrace : GM
 | [.agg u0, .one a9], k => un 9 (fun a0 a1 a2 a3 a4 a5 a6 a7 a8 => 
  call laws_szKnown [.agg [a0, a1], .one a9] fun o0 =>
  binP .lss (atP o0 0) (I 0) fun r1 =>
  iteP r1
   (rt [.sc] [(I (-1))] k)
   (call laws_szEntry [.agg [a3, a4, a5, a6], .one (atP o0 0)] fun o2 =>
   binP .lss (atP o2 0) (I 0) fun r3 =>
   iteP r3
    (rt [.sc] [(I (-1))] k)
    (call laws_szIntS [.one a7, .one (atP o2 0)] fun o4 =>
    binP .lss (atP o4 0) (I 0) fun r5 =>
    iteP r5
     (rt [.sc] [(I (-1))] k)
     (rt [.sc] [(atP o4 0)] k)))) u0
 | _, _ => False
abbrev laws_szTrace_e : Ent := ⟨[28], laws_szTrace⟩
theorem laws_szTrace_w : EntOK Tryd.prog TT laws_szTrace_e := ent_ok tabok (L := [laws_szKnown_e, laws_szEntry_e, laws_szIntS_e]) ⟨laws_szKnown_w, laws_szEntry_w, laws_szIntS_w, trivial⟩ (keep := []) (l := []) Tryd.func28 (by kernel_rfl) (sg := [.one (.sc)]) (by kernel_rfl) trivial fun av k h => by
  unfold laws_szTrace at h; split at h
  · apply un_all h; clear h; intro a0 a1 a2 a3 a4 a5 a6 a7 a8 h; exact Eq.mpr (by kernel_rfl) h
  · exact h.elim

def laws_toSig : GM
 | [.agg u0], k => un 2 (fun a0 a1 => 
  rt [.sc, .sc] [a0, a1] k) u0
 | _, _ => False
abbrev laws_toSig_e : Ent := ⟨[108], laws_toSig⟩
theorem laws_toSig_w : EntOK Tryd.prog TT laws_toSig_e := ent_ok tabok (L := []) trivial (keep := []) (l := []) Tryd.func108 (by kernel_rfl) (sg := [.agg [.sc, .sc]]) (by kernel_rfl) trivial fun av k h => by
  unfold laws_toSig at h; split at h
  · apply un_all h; clear h; intro a0 a1 h; exact Eq.mpr (by kernel_rfl) h
  · exact h.elim

def laws_toSigS_r0 (v : List PV) (K : List PV → Prop) (x0k : PV → PV → PV → PV → Prop) : Prop :=
 un 4 (fun v0 v1 v2 v3 =>
  lenP v0 fun r0 =>
  binP .lss v1 r0 fun r1 =>
  iteP r1
   (elemP 2 v0 v1 fun c2 =>
   call laws_toSig [.agg [(atP c2 0), (atP c2 1)]] fun o3 =>
   boundP 2 v3 v1 fun n4 =>
   (flatCond [.pv (I 0), .pv (I 0)] [.pv (atP o3 0), .pv (atP o3 1)]) ∧ setP v3 n4 0 [(atP o3 0), (atP o3 1)] fun r5 =>
   binP .add v1 (I 1) fun r6 =>
   K [v0, r6, v2, r5])
   (x0k v0 v1 v2 v3)) v
def laws_toSigS : GM
 | [.one a0], k => 
  lenP a0 fun r0 =>
  (r0 = r0) ∧ (2 = 2) ∧ makeP 2 r0 [(I 0), (I 0)] fun r1 =>
  lp (fun L w => laws_toSigS_r0 w L
   (fun q7 q8 q9 q10 => rt [.own true 161 2] [q10] k)) [a0, (I 0), (.list 2 []), r1]
 | _, _ => False
abbrev laws_toSigS_e : Ent := ⟨[101], laws_toSigS⟩
def laws_toSigS_l : List LE := [⟨0, ⟨[(0, .one (.pv (.bool false))), (2, .one (.own 1)), (3, .one (.own 0)), (4, .one (.pv (.bool false)))], [], [(1, ⟨.deep, 161, 2, (.bool false)⟩), (0, ⟨.deep, 161, 2, (.bool false)⟩)], 2, 23⟩, fun K k v => laws_toSigS_r0 v K (fun x0 x1 x2 x3 => k (.exit 0) ⟨[(0, .one (.pv x0)), (2, .one (.own 1)), (3, .one (.own 0)), (4, .one (.pv x1))], [], [(1, ⟨.deep, 161, 2, x2⟩), (0, ⟨.deep, 161, 2, x3⟩)], 2, 23⟩)⟩]
theorem laws_toSigS_s : LEsOK (orac [laws_toSig_e]) TT (kk [0, 2, 3, 4]) (sumsOf laws_toSigS_l) Tryd.f101 laws_toSigS_l := ⟨fun v K k h => by
  apply un_all h; exact fun v0 v1 v2 v3 h => Eq.mpr (by kernel_rfl) h
  , trivial⟩
theorem laws_toSigS_w : EntOK Tryd.prog TT laws_toSigS_e := ent_ok tabok (L := [laws_toSig_e]) ⟨laws_toSig_w, trivial⟩ (keep := (kk [0, 2, 3, 4])) (l := laws_toSigS_l) Tryd.func101 (by kernel_rfl) (sg := [.one (.own true 161 2)]) (by kernel_rfl) laws_toSigS_s fun av k h => by
  unfold laws_toSigS at h; split at h
  · exact Eq.mpr (by kernel_rfl) h
  · exact h.elim

def laws_toSigned : GM
 | [.agg u0], k => un 17 (fun a0 a1 a2 a3 a4 a5 a6 a7 a8 a9 a10 a11 a12 a13 a14 a15 a16 => 
  call laws_toHead [.agg [a0, a1, a2, a3, a4, a5, a6, a7, a8, a9, a10, a11, a12, a13, a14, a15]] fun o0 =>
  call laws_toSigS [.one a16] fun o1 =>
  rt [.sc, .sc, .sc, .sc, .sc, .sc, .sc, .sc, .own true 3 1, .sc, .own true 3 1, .sc, .sc, .own true 3 1, .sc, .sc, .own true 161 2] [(atP o0 0), (atP o0 1), (atP o0 2), (atP o0 3), (atP o0 4), (atP o0 5), (atP o0 6), (atP o0 7), (atP o0 8), (atP o0 9), (atP o0 10), (atP o0 11), (atP o0 12), (atP o0 13), (atP o0 14), (atP o0 15), (atP o1 0)] k) u0
 | _, _ => False
abbrev laws_toSigned_e : Ent := ⟨[94], laws_toSigned⟩
theorem laws_toSigned_w : EntOK Tryd.prog TT laws_toSigned_e := ent_ok tabok (L := [laws_toHead_e, laws_toSigS_e]) ⟨laws_toHead_w, laws_toSigS_w, trivial⟩ (keep := []) (l := []) Tryd.func94 (by kernel_rfl) (sg := [.agg [.sc, .sc, .sc, .sc, .sc, .sc, .sc, .sc, .own true 3 1, .sc, .own true 3 1, .sc, .sc, .own true 3 1, .sc, .sc, .own true 161 2]]) (by kernel_rfl) trivial fun av k h => by
  unfold laws_toSigned at h; split at h
  · apply un_all h; clear h; intro a0 a1 a2 a3 a4 a5 a6 a7 a8 a9 a10 a11 a12 a13 a14 a15 a16 h; exact Eq.mpr (by kernel_rfl) h
  · exact h.elim

def laws_toSignedS_r0 (v : List PV) (K : List PV → Prop) (x0k : PV → PV → PV → PV → Prop) : Prop :=
 un 4 (fun v0 v1 v2 v3 =>
  lenP v0 fun r0 =>
  binP .lss v1 r0 fun r1 =>
  iteP r1
   (elemP 17 v0 v1 fun c2 =>
   call laws_toSigned [.agg [(atP c2 0), (atP c2 1), (atP c2 2), (atP c2 3), (atP c2 4), (atP c2 5), (atP c2 6), (atP c2 7), (atP c2 8), (atP c2 9), (atP c2 10), (atP c2 11), (atP c2 12), (atP c2 13), (atP c2 14), (atP c2 15), (atP c2 16)]] fun o3 =>
   boundP 17 v3 v1 fun n4 =>
   (flatCond [.pv (I 0), .pv (I 0), .pv (I 0), .pv (I 0), .pv (I 0), .pv (I 0), .pv (I 0), .pv (I 0), .nil 3 1, .pv (I 0), .nil 3 1, .pv (I 0), .pv (I 0), .nil 3 1, .pv (I 0), .pv (.bool false), .nil 161 2] [.pv (atP o3 0), .pv (atP o3 1), .pv (atP o3 2), .pv (atP o3 3), .pv (atP o3 4), .pv (atP o3 5), .pv (atP o3 6), .pv (atP o3 7), .own 10, .pv (atP o3 9), .own 12, .pv (atP o3 11), .pv (atP o3 12), .own 15, .pv (atP o3 14), .pv (atP o3 15), .own 18]) ∧ setP v3 n4 0 [(atP o3 0), (atP o3 1), (atP o3 2), (atP o3 3), (atP o3 4), (atP o3 5), (atP o3 6), (atP o3 7), (atP o3 8), (atP o3 9), (atP o3 10), (atP o3 11), (atP o3 12), (atP o3 13), (atP o3 14), (atP o3 15), (atP o3 16)] fun r5 =>
   binP .add v1 (I 1) fun r6 =>
   K [v0, r6, v2, r5])
   (x0k v0 v1 v2 v3)) v
def laws_toSignedS : GM
 | [.one a0], k => 
  lenP a0 fun r0 =>
  (r0 = r0) ∧ (17 = 17) ∧ makeP 17 r0 [(I 0), (I 0), (I 0), (I 0), (I 0), (I 0), (I 0), (I 0), (.list 1 []), (I 0), (.list 1 []), (I 0), (I 0), (.list 1 []), (I 0), (.bool false), (.list 2 [])] fun r1 =>
  lp (fun L w => laws_toSignedS_r0 w L
   (fun q7 q8 q9 q10 => rt [.own true 129 17] [q10] k)) [a0, (I 0), (.list 17 []), r1]
 | _, _ => False
abbrev laws_toSignedS_e : Ent := ⟨[85], laws_toSignedS⟩
def laws_toSignedS_l : List LE := [⟨0, ⟨[(0, .one (.pv (.bool false))), (2, .one (.own 1)), (3, .one (.own 0)), (4, .one (.pv (.bool false)))], [], [(1, ⟨.deep, 129, 17, (.bool false)⟩), (0, ⟨.deep, 129, 17, (.bool false)⟩)], 2, 23⟩, fun K k v => laws_toSignedS_r0 v K (fun x0 x1 x2 x3 => k (.exit 0) ⟨[(0, .one (.pv x0)), (2, .one (.own 1)), (3, .one (.own 0)), (4, .one (.pv x1))], [], [(1, ⟨.deep, 129, 17, x2⟩), (0, ⟨.deep, 129, 17, x3⟩)], 2, 23⟩)⟩]
theorem laws_toSignedS_s : LEsOK (orac [laws_toSigned_e]) TT (kk [0, 2, 3, 4]) (sumsOf laws_toSignedS_l) Tryd.f85 laws_toSignedS_l := ⟨fun v K k h => by
  apply un_all h; exact fun v0 v1 v2 v3 h => Eq.mpr (by kernel_rfl) h
  , trivial⟩
theorem laws_toSignedS_w : EntOK Tryd.prog TT laws_toSignedS_e := ent_ok tabok (L := [laws_toSigned_e]) ⟨laws_toSigned_w, trivial⟩ (keep := (kk [0, 2, 3, 4])) (l := laws_toSignedS_l) Tryd.func85 (by kernel_rfl) (sg := [.one (.own true 129 17)]) (by kernel_rfl) laws_toSignedS_s fun av k h => by
  unfold laws_toSignedS at h; split at h
  · exact Eq.mpr (by kernel_rfl) h
  · exact h.elim

def laws_toSignedSS_r0 (v : List PV) (K : List PV → Prop) (x0k : PV → PV → PV → PV → Prop) : Prop :=
 un 4 (fun v0 v1 v2 v3 =>
  lenP v0 fun r0 =>
  binP .lss v1 r0 fun r1 =>
  iteP r1
   (elemP 1 v0 v1 fun c2 =>
   call laws_toSignedS [.one (atP c2 0)] fun o3 =>
   boundP 1 v3 v1 fun n4 =>
   (flatCond [.nil 129 17] [.own 2]) ∧ setP v3 n4 0 [(atP o3 0)] fun r5 =>
   binP .add v1 (I 1) fun r6 =>
   K [v0, r6, v2, r5])
   (x0k v0 v1 v2 v3)) v
def laws_toSignedSS : GM
 | [.one a0], k => 
  lenP a0 fun r0 =>
  (r0 = r0) ∧ (1 = 1) ∧ makeP 1 r0 [(.list 17 [])] fun r1 =>
  lp (fun L w => laws_toSignedSS_r0 w L
   (fun q7 q8 q9 q10 => rt [.own true 125 1] [q10] k)) [a0, (I 0), (.list 1 []), r1]
 | _, _ => False
abbrev laws_toSignedSS_e : Ent := ⟨[72], laws_toSignedSS⟩
def laws_toSignedSS_l : List LE := [⟨0, ⟨[(0, .one (.pv (.bool false))), (2, .one (.own 1)), (3, .one (.own 0)), (4, .one (.pv (.bool false)))], [], [(1, ⟨.deep, 125, 1, (.bool false)⟩), (0, ⟨.deep, 125, 1, (.bool false)⟩)], 2, 23⟩, fun K k v => laws_toSignedSS_r0 v K (fun x0 x1 x2 x3 => k (.exit 0) ⟨[(0, .one (.pv x0)), (2, .one (.own 1)), (3, .one (.own 0)), (4, .one (.pv x1))], [], [(1, ⟨.deep, 125, 1, x2⟩), (0, ⟨.deep, 125, 1, x3⟩)], 2, 23⟩)⟩]
theorem laws_toSignedSS_s : LEsOK (orac [laws_toSignedS_e]) TT (kk [0, 2, 3, 4]) (sumsOf laws_toSignedSS_l) Tryd.f72 laws_toSignedSS_l := ⟨fun v K k h => by
  apply un_all h; exact fun v0 v1 v2 v3 h => Eq.mpr (by kernel_rfl) h
  , trivial⟩
theorem laws_toSignedSS_w : EntOK Tryd.prog TT laws_toSignedSS_e := ent_ok tabok (L := [laws_toSignedS_e]) ⟨laws_toSignedS_w, trivial⟩ (keep := (kk [0, 2, 3, 4])) (l := laws_toSignedSS_l) Tryd.func72 (by kernel_rfl) (sg := [.one (.own true 125 1)]) (by kernel_rfl) laws_toSignedSS_s fun av k h => by
  unfold laws_toSignedSS at h; split at h
  · exact Eq.mpr (by kernel_rfl) h
  · exact h.elim

def laws_toFork : GM
 | [.agg u0], k => un 51 (fun a0 a1 a2 a3 a4 a5 a6 a7 a8 a9 a10 a11 a12 a13 a14 a15 a16 a17 a18 a19 a20 a21 a22 a23 a24 a25 a26 a27 a28 a29 a30 a31 a32 a33 a34 a35 a36 a37 a38 a39 a40 a41 a42 a43 a44 a45 a46 a47 a48 a49 a50 => 
  call laws_toSigned [.agg [a0, a1, a2, a3, a4, a5, a6, a7, a8, a9, a10, a11, a12, a13, a14, a15, a16]] fun o0 =>
  call laws_toSigned [.agg [a17, a18, a19, a20, a21, a22, a23, a24, a25, a26, a27, a28, a29, a30, a31, a32, a33]] fun o1 =>
  call laws_toSigned [.agg [a34, a35, a36, a37, a38, a39, a40, a41, a42, a43, a44, a45, a46, a47, a48, a49, a50]] fun o2 =>
  rt [.sc, .sc, .sc, .sc, .sc, .sc, .sc, .sc, .own true 3 1, .sc, .own true 3 1, .sc, .sc, .own true 3 1, .sc, .sc, .own true 161 2, .sc, .sc, .sc, .sc, .sc, .sc, .sc, .sc, .own true 3 1, .sc, .own true 3 1, .sc, .sc, .own true 3 1, .sc, .sc, .own true 161 2, .sc, .sc, .sc, .sc, .sc, .sc, .sc, .sc, .own true 3 1, .sc, .own true 3 1, .sc, .sc, .own true 3 1, .sc, .sc, .own true 161 2] [(atP o0 0), (atP o0 1), (atP o0 2), (atP o0 3), (atP o0 4), (atP o0 5), (atP o0 6), (atP o0 7), (atP o0 8), (atP o0 9), (atP o0 10), (atP o0 11), (atP o0 12), (atP o0 13), (atP o0 14), (atP o0 15), (atP o0 16), (atP o1 0), (atP o1 1), (atP o1 2), (atP o1 3), (atP o1 4), (atP o1 5), (atP o1 6), (atP o1 7), (atP o1 8), (atP o1 9), (atP o1 10), (atP o1 11), (atP o1 12), (atP o1 13), (atP o1 14), (atP o1 15), (atP o1 16), (atP o2 0), (atP o2 1), (atP o2 2), (atP o2 3), (atP o2 4), (atP o2 5), (atP o2 6), (atP o2 7), (atP o2 8), (atP o2 9), (atP o2 10), (atP o2 11), (atP o2 12), (atP o2 13), (atP o2 14), (atP o2 15), (atP o2 16)] k) u0
 | _, _ => False
abbrev laws_toFork_e : Ent := ⟨[86], laws_toFork⟩
theorem laws_toFork_w : EntOK Tryd.prog TT laws_toFork_e := ent_ok tabok (L := [laws_toSigned_e]) ⟨laws_toSigned_w, trivial⟩ (keep := []) (l := []) Tryd.func86 (by kernel_rfl) (sg := [.agg [.sc, .sc, .sc, .sc, .sc, .sc, .sc, .sc, .own true 3 1, .sc, .own true 3 1, .sc, .sc, .own true 3 1, .sc, .sc, .own true 161 2, .sc, .sc, .sc, .sc, .sc, .sc, .sc, .sc, .own true 3 1, .sc, .own true 3 1, .sc, .sc, .own true 3 1, .sc, .sc, .own true 161 2, .sc, .sc, .sc, .sc, .sc, .sc, .sc, .sc, .own true 3 1, .sc, .own true 3 1, .sc, .sc, .own true 3 1, .sc, .sc, .own true 161 2]]) (by kernel_rfl) trivial fun av k h => by
  unfold laws_toFork at h; split at h
  · apply un_all h; clear h; intro a0 a1 a2 a3 a4 a5 a6 a7 a8 a9 a10 a11 a12 a13 a14 a15 a16 a17 a18 a19 a20 a21 a22 a23 a24 a25 a26 a27 a28 a29 a30 a31 a32 a33 a34 a35 a36 a37 a38 a39 a40 a41 a42 a43 a44 a45 a46 a47 a48 a49 a50 h; exact Eq.mpr (by kernel_rfl) h
  · exact h.elim

def laws_toForkS_r0 (v : List PV) (K : List PV → Prop) (x0k : PV → PV → PV → PV → Prop) : Prop :=
 un 4 (fun v0 v1 v2 v3 =>
  lenP v0 fun r0 =>
  binP .lss v1 r0 fun r1 =>
  iteP r1
   (elemP 51 v0 v1 fun c2 =>
   call laws_toFork [.agg [(atP c2 0), (atP c2 1), (atP c2 2), (atP c2 3), (atP c2 4), (atP c2 5), (atP c2 6), (atP c2 7), (atP c2 8), (atP c2 9), (atP c2 10), (atP c2 11), (atP c2 12), (atP c2 13), (atP c2 14), (atP c2 15), (atP c2 16), (atP c2 17), (atP c2 18), (atP c2 19), (atP c2 20), (atP c2 21), (atP c2 22), (atP c2 23), (atP c2 24), (atP c2 25), (atP c2 26), (atP c2 27), (atP c2 28), (atP c2 29), (atP c2 30), (atP c2 31), (atP c2 32), (atP c2 33), (atP c2 34), (atP c2 35), (atP c2 36), (atP c2 37), (atP c2 38), (atP c2 39), (atP c2 40), (atP c2 41), (atP c2 42), (atP c2 43), (atP c2 44), (atP c2 45), (atP c2 46), (atP c2 47), (atP c2 48), (atP c2 49), (atP c2 50)]] fun o3 =>
   boundP 51 v3 v1 fun n4 =>
   (flatCond [.pv (I 0), .pv (I 0), .pv (I 0), .pv (I 0), .pv (I 0), .pv (I 0), .pv (I 0), .pv (I 0), .nil 3 1, .pv (I 0), .nil 3 1, .pv (I 0), .pv (I 0), .nil 3 1, .pv (I 0), .pv (.bool false), .nil 161 2, .pv (I 0), .pv (I 0), .pv (I 0), .pv (I 0), .pv (I 0), .pv (I 0), .pv (I 0), .pv (I 0), .nil 3 1, .pv (I 0), .nil 3 1, .pv (I 0), .pv (I 0), .nil 3 1, .pv (I 0), .pv (.bool false), .nil 161 2, .pv (I 0), .pv (I 0), .pv (I 0), .pv (I 0), .pv (I 0), .pv (I 0), .pv (I 0), .pv (I 0), .nil 3 1, .pv (I 0), .nil 3 1, .pv (I 0), .pv (I 0), .nil 3 1, .pv (I 0), .pv (.bool false), .nil 161 2] [.pv (atP o3 0), .pv (atP o3 1), .pv (atP o3 2), .pv (atP o3 3), .pv (atP o3 4), .pv (atP o3 5), .pv (atP o3 6), .pv (atP o3 7), .own 10, .pv (atP o3 9), .own 12, .pv (atP o3 11), .pv (atP o3 12), .own 15, .pv (atP o3 14), .pv (atP o3 15), .own 18, .pv (atP o3 17), .pv (atP o3 18), .pv (atP o3 19), .pv (atP o3 20), .pv (atP o3 21), .pv (atP o3 22), .pv (atP o3 23), .pv (atP o3 24), .own 27, .pv (atP o3 26), .own 29, .pv (atP o3 28), .pv (atP o3 29), .own 32, .pv (atP o3 31), .pv (atP o3 32), .own 35, .pv (atP o3 34), .pv (atP o3 35), .pv (atP o3 36), .pv (atP o3 37), .pv (atP o3 38), .pv (atP o3 39), .pv (atP o3 40), .pv (atP o3 41), .own 44, .pv (atP o3 43), .own 46, .pv (atP o3 45), .pv (atP o3 46), .own 49, .pv (atP o3 48), .pv (atP o3 49), .own 52]) ∧ setP v3 n4 0 [(atP o3 0), (atP o3 1), (atP o3 2), (atP o3 3), (atP o3 4), (atP o3 5), (atP o3 6), (atP o3 7), (atP o3 8), (atP o3 9), (atP o3 10), (atP o3 11), (atP o3 12), (atP o3 13), (atP o3 14), (atP o3 15), (atP o3 16), (atP o3 17), (atP o3 18), (atP o3 19), (atP o3 20), (atP o3 21), (atP o3 22), (atP o3 23), (atP o3 24), (atP o3 25), (atP o3 26), (atP o3 27), (atP o3 28), (atP o3 29), (atP o3 30), (atP o3 31), (atP o3 32), (atP o3 33), (atP o3 34), (atP o3 35), (atP o3 36), (atP o3 37), (atP o3 38), (atP o3 39), (atP o3 40), (atP o3 41), (atP o3 42), (atP o3 43), (atP o3 44), (atP o3 45), (atP o3 46), (atP o3 47), (atP o3 48), (atP o3 49), (atP o3 50)] fun r5 =>
   binP .add v1 (I 1) fun r6 =>
   K [v0, r6, v2, r5])
   (x0k v0 v1 v2 v3)) v
def laws_toForkS : GM
 | [.one a0], k => 
  lenP a0 fun r0 =>
  (r0 = r0) ∧ (51 = 51) ∧ makeP 51 r0 [(I 0), (I 0), (I 0), (I 0), (I 0), (I 0), (I 0), (I 0), (.list 1 []), (I 0), (.list 1 []), (I 0), (I 0), (.list 1 []), (I 0), (.bool false), (.list 2 []), (I 0), (I 0), (I 0), (I 0), (I 0), (I 0), (I 0), (I 0), (.list 1 []), (I 0), (.list 1 []), (I 0), (I 0), (.list 1 []), (I 0), (.bool false), (.list 2 []), (I 0), (I 0), (I 0), (I 0), (I 0), (I 0), (I 0), (I 0), (.list 1 []), (I 0), (.list 1 []), (I 0), (I 0), (.list 1 []), (I 0), (.bool false), (.list 2 [])] fun r1 =>
  lp (fun L w => laws_toForkS_r0 w L
   (fun q7 q8 q9 q10 => rt [.own true 131 51] [q10] k)) [a0, (I 0), (.list 51 []), r1]
 | _, _ => False
abbrev laws_toForkS_e : Ent := ⟨[73], laws_toForkS⟩
def laws_toForkS_l : List LE := [⟨0, ⟨[(0, .one (.pv (.bool false))), (2, .one (.own 1)), (3, .one (.own 0)), (4, .one (.pv (.bool false)))], [], [(1, ⟨.deep, 131, 51, (.bool false)⟩), (0, ⟨.deep, 131, 51, (.bool false)⟩)], 2, 23⟩, fun K k v => laws_toForkS_r0 v K (fun x0 x1 x2 x3 => k (.exit 0) ⟨[(0, .one (.pv x0)), (2, .one (.own 1)), (3, .one (.own 0)), (4, .one (.pv x1))], [], [(1, ⟨.deep, 131, 51, x2⟩), (0, ⟨.deep, 131, 51, x3⟩)], 2, 23⟩)⟩]
theorem laws_toForkS_s : LEsOK (orac [laws_toFork_e]) TT (kk [0, 2, 3, 4]) (sumsOf laws_toForkS_l) Tryd.f73 laws_toForkS_l := ⟨fun v K k h => by
  apply un_all h; exact fun v0 v1 v2 v3 h => Eq.mpr (by kernel_rfl) h
  , trivial⟩
theorem laws_toForkS_w : EntOK Tryd.prog TT laws_toForkS_e := ent_ok tabok (L := [laws_toFork_e]) ⟨laws_toFork_w, trivial⟩ (keep := (kk [0, 2, 3, 4])) (l := laws_toForkS_l) Tryd.func73 (by kernel_rfl) (sg := [.one (.own true 131 51)]) (by kernel_rfl) laws_toForkS_s fun av k h => by
  unfold laws_toForkS at h; split at h
  · exact Eq.mpr (by kernel_rfl) h
  · exact h.elim

def laws_toKnown : GM
 | [.agg u0], k => un 2 (fun a0 a1 => 
  call laws_toSignedSS [.one a0] fun o0 =>
  call laws_toForkS [.one a1] fun o1 =>
  rt [.own true 125 1, .own true 131 51] [(atP o0 0), (atP o1 0)] k) u0
 | _, _ => False
abbrev laws_toKnown_e : Ent := ⟨[59], laws_toKnown⟩
theorem laws_toKnown_w : EntOK Tryd.prog TT laws_toKnown_e := ent_ok tabok (L := [laws_toSignedSS_e, laws_toForkS_e]) ⟨laws_toSignedSS_w, laws_toForkS_w, trivial⟩ (keep := []) (l := []) Tryd.func59 (by kernel_rfl) (sg := [.agg [.own true 125 1, .own true 131 51]]) (by kernel_rfl) trivial fun av k h => by
  unfold laws_toKnown at h; split at h
  · apply un_all h; clear h; intro a0 a1 h; exact Eq.mpr (by kernel_rfl) h
  · exact h.elim

def laws_toTrace : GM
 | [.agg u0], k => un 9 (fun a0 a1 a2 a3 a4 a5 a6 a7 a8 => 
  call laws_toKnown [.agg [a0, a1]] fun o0 =>
  call laws_toEntry [.agg [a3, a4, a5, a6]] fun o1 =>
  call laws_toIntS [.one a7] fun o2 =>
  rt [.own true 125 1, .own true 131 51, .sc, .sc, .sc, .sc, .own true 9 1, .own true 3 1, .sc] [(atP o0 0), (atP o0 1), a2, (atP o1 0), (atP o1 1), (atP o1 2), (atP o1 3), (atP o2 0), a8] k) u0
 | _, _ => False
abbrev laws_toTrace_e : Ent := ⟨[30], laws_toTrace⟩
theorem laws_toTrace_w : EntOK Tryd.prog TT laws_toTrace_e := ent_ok tabok (L := [laws_toKnown_e, laws_toEntry_e, laws_toIntS_e]) ⟨laws_toKnown_w, laws_toEntry_w, laws_toIntS_w, trivial⟩ (keep := []) (l := []) Tryd.func30 (by kernel_rfl) (sg := [.agg [.own true 125 1, .own true 131 51, .sc, .sc, .sc, .sc, .own true 9 1, .own true 3 1, .sc]]) (by kernel_rfl) trivial fun av k h => by
  unfold laws_toTrace at h; split at h
  · apply un_all h; clear h; intro a0 a1 a2 a3 a4 a5 a6 a7 a8 h; exact Eq.mpr (by kernel_rfl) h
  · exact h.elim

def spec_CodeText : GM
 | [.one a0], k => 
  call spec_l1In [.one a0, .one (I 1), .one (I 6)] fun o0 =>
  unP .not (atP o0 0) fun r1 =>
  iteP r1
   (rt [.sc] [(.str ⟨#[]⟩)] k)
   ((7 = 7) ∧ (7 ≤ 16777216) ∧ (1 = 1) ∧ (0 = 0) ∧ (1 = 1) ∧ (flatCond [.pv (.str ⟨#[]⟩)] [.pv (.str ⟨#[]⟩)]) ∧ (1 = 1) ∧ (1 = 1) ∧ (flatCond [.pv (.str ⟨#[]⟩)] [.pv (.str ⟨#[111, 107]⟩)]) ∧ (2 = 2) ∧ (1 = 1) ∧ (flatCond [.pv (.str ⟨#[]⟩)] [.pv (.str ⟨#[97, 98, 115, 101, 110, 116]⟩)]) ∧ (3 = 3) ∧ (1 = 1) ∧ (flatCond [.pv (.str ⟨#[]⟩)] [.pv (.str ⟨#[110, 111, 110, 101]⟩)]) ∧ (4 = 4) ∧ (1 = 1) ∧ (flatCond [.pv (.str ⟨#[]⟩)] [.pv (.str ⟨#[107, 105, 110, 100]⟩)]) ∧ (5 = 5) ∧ (1 = 1) ∧ (flatCond [.pv (.str ⟨#[]⟩)] [.pv (.str ⟨#[109, 111, 118, 101, 115]⟩)]) ∧ (6 = 6) ∧ (1 = 1) ∧ (flatCond [.pv (.str ⟨#[]⟩)] [.pv (.str ⟨#[112, 97, 116, 104]⟩)]) ∧ boundP 1 (.list 1 [[(.str ⟨#[]⟩)], [(.str ⟨#[111, 107]⟩)], [(.str ⟨#[97, 98, 115, 101, 110, 116]⟩)], [(.str ⟨#[110, 111, 110, 101]⟩)], [(.str ⟨#[107, 105, 110, 100]⟩)], [(.str ⟨#[109, 111, 118, 101, 115]⟩)], [(.str ⟨#[112, 97, 116, 104]⟩)]]) a0 fun n2 =>
   rowP 1 (.list 1 [[(.str ⟨#[]⟩)], [(.str ⟨#[111, 107]⟩)], [(.str ⟨#[97, 98, 115, 101, 110, 116]⟩)], [(.str ⟨#[110, 111, 110, 101]⟩)], [(.str ⟨#[107, 105, 110, 100]⟩)], [(.str ⟨#[109, 111, 118, 101, 115]⟩)], [(.str ⟨#[112, 97, 116, 104]⟩)]]) n2 fun c3 =>
   (flats [(atP c3 0)]) ∧ rt [.sc] [(atP c3 0)] k)
 | _, _ => False
abbrev spec_CodeText_e : Ent := ⟨[57], spec_CodeText⟩
theorem spec_CodeText_w : EntOK Tryd.prog TT spec_CodeText_e := ent_ok tabok (L := [spec_l1In_e]) ⟨spec_l1In_w, trivial⟩ (keep := []) (l := []) Tryd.func57 (by kernel_rfl) (sg := [.one (.sc)]) (by kernel_rfl) trivial fun av k h => by
  unfold spec_CodeText at h; split at h
  · exact Eq.mpr (by kernel_rfl) h
  · exact h.elim

def spec_StepsOf : GM
 | [.agg u0], k => un 9 (fun a0 a1 a2 a3 a4 a5 a6 a7 a8 => 
  lenP a7 fun r0 =>
  rt [.sc] [r0] k) u0
 | _, _ => False
abbrev spec_StepsOf_e : Ent := ⟨[58], spec_StepsOf⟩
theorem spec_StepsOf_w : EntOK Tryd.prog TT spec_StepsOf_e := ent_ok tabok (L := []) trivial (keep := []) (l := []) Tryd.func58 (by kernel_rfl) (sg := [.one (.sc)]) (by kernel_rfl) trivial fun av k h => by
  unfold spec_StepsOf at h; split at h
  · apply un_all h; clear h; intro a0 a1 a2 a3 a4 a5 a6 a7 a8 h; exact Eq.mpr (by kernel_rfl) h
  · exact h.elim

def spec_FormatTrace : GM
 | [.agg u0], k => un 9 (fun a0 a1 a2 a3 a4 a5 a6 a7 a8 => 
  call spec_CodeText [.one a2] fun o0 =>
  binP .add (atP o0 0) (.str ⟨#[32]⟩) fun r1 =>
  call spec_l39Entry [.agg [a3, a4, a5, a6]] fun o2 =>
  binP .add r1 (atP o2 0) fun r3 =>
  binP .add r3 (.str ⟨#[32]⟩) fun r4 =>
  call spec_StepsOf [.agg [a0, a1, a2, a3, a4, a5, a6, a7, a8]] fun o5 =>
  call spec_FormatInt [.one (atP o5 0)] fun o6 =>
  binP .add r4 (atP o6 0) fun r7 =>
  rt [.sc] [r7] k) u0
 | _, _ => False
abbrev spec_FormatTrace_e : Ent := ⟨[29], spec_FormatTrace⟩
theorem spec_FormatTrace_w : EntOK Tryd.prog TT spec_FormatTrace_e := ent_ok tabok (L := [spec_CodeText_e, spec_l39Entry_e, spec_StepsOf_e, spec_FormatInt_e]) ⟨spec_CodeText_w, spec_l39Entry_w, spec_StepsOf_w, spec_FormatInt_w, trivial⟩ (keep := []) (l := []) Tryd.func29 (by kernel_rfl) (sg := [.one (.sc)]) (by kernel_rfl) trivial fun av k h => by
  unfold spec_FormatTrace at h; split at h
  · apply un_all h; clear h; intro a0 a1 a2 a3 a4 a5 a6 a7 a8 h; exact Eq.mpr (by kernel_rfl) h
  · exact h.elim

def impl_CodeText : GM
 | [.one a0], k => 
  (6 = 6) ∧ (6 ≤ 16777216) ∧ (1 = 1) ∧ (0 = 0) ∧ (1 = 1) ∧ (flatCond [.pv (.str ⟨#[]⟩)] [.pv (.str ⟨#[111, 107]⟩)]) ∧ (1 = 1) ∧ (1 = 1) ∧ (flatCond [.pv (.str ⟨#[]⟩)] [.pv (.str ⟨#[97, 98, 115, 101, 110, 116]⟩)]) ∧ (2 = 2) ∧ (1 = 1) ∧ (flatCond [.pv (.str ⟨#[]⟩)] [.pv (.str ⟨#[110, 111, 110, 101]⟩)]) ∧ (3 = 3) ∧ (1 = 1) ∧ (flatCond [.pv (.str ⟨#[]⟩)] [.pv (.str ⟨#[107, 105, 110, 100]⟩)]) ∧ (4 = 4) ∧ (1 = 1) ∧ (flatCond [.pv (.str ⟨#[]⟩)] [.pv (.str ⟨#[109, 111, 118, 101, 115]⟩)]) ∧ (5 = 5) ∧ (1 = 1) ∧ (flatCond [.pv (.str ⟨#[]⟩)] [.pv (.str ⟨#[112, 97, 116, 104]⟩)]) ∧ call impl_nameOf [.one a0, .one (.list 1 [[(.str ⟨#[111, 107]⟩)], [(.str ⟨#[97, 98, 115, 101, 110, 116]⟩)], [(.str ⟨#[110, 111, 110, 101]⟩)], [(.str ⟨#[107, 105, 110, 100]⟩)], [(.str ⟨#[109, 111, 118, 101, 115]⟩)], [(.str ⟨#[112, 97, 116, 104]⟩)]])] fun o0 =>
  rt [.sc] [(atP o0 0)] k
 | _, _ => False
abbrev impl_CodeText_e : Ent := ⟨[60], impl_CodeText⟩
theorem impl_CodeText_w : EntOK Tryd.prog TT impl_CodeText_e := ent_ok tabok (L := [impl_nameOf_e]) ⟨impl_nameOf_w, trivial⟩ (keep := []) (l := []) Tryd.func60 (by kernel_rfl) (sg := [.one (.sc)]) (by kernel_rfl) trivial fun av k h => by
  unfold impl_CodeText at h; split at h
  · exact Eq.mpr (by kernel_rfl) h
  · exact h.elim

def impl_StepsOf : GM
 | [.agg u0], k => un 9 (fun a0 a1 a2 a3 a4 a5 a6 a7 a8 => 
  lenP a7 fun r0 =>
  rt [.sc] [r0] k) u0
 | _, _ => False
abbrev impl_StepsOf_e : Ent := ⟨[61], impl_StepsOf⟩
theorem impl_StepsOf_w : EntOK Tryd.prog TT impl_StepsOf_e := ent_ok tabok (L := []) trivial (keep := []) (l := []) Tryd.func61 (by kernel_rfl) (sg := [.one (.sc)]) (by kernel_rfl) trivial fun av k h => by
  unfold impl_StepsOf at h; split at h
  · apply un_all h; clear h; intro a0 a1 a2 a3 a4 a5 a6 a7 a8 h; exact Eq.mpr (by kernel_rfl) h
  · exact h.elim

def impl_FormatTrace : GM
 | [.agg u0], k => un 9 (fun a0 a1 a2 a3 a4 a5 a6 a7 a8 => 
  call impl_CodeText [.one a2] fun o0 =>
  binP .add (atP o0 0) (.str ⟨#[32]⟩) fun r1 =>
  call impl_entryOrDash [.agg [a3, a4, a5, a6]] fun o2 =>
  binP .add r1 (atP o2 0) fun r3 =>
  binP .add r3 (.str ⟨#[32]⟩) fun r4 =>
  call impl_StepsOf [.agg [a0, a1, a2, a3, a4, a5, a6, a7, a8]] fun o5 =>
  call impl_FormatInt [.one (atP o5 0)] fun o6 =>
  binP .add r4 (atP o6 0) fun r7 =>
  rt [.sc] [r7] k) u0
 | _, _ => False
abbrev impl_FormatTrace_e : Ent := ⟨[31], impl_FormatTrace⟩
theorem impl_FormatTrace_w : EntOK Tryd.prog TT impl_FormatTrace_e := ent_ok tabok (L := [impl_CodeText_e, impl_entryOrDash_e, impl_StepsOf_e, impl_FormatInt_e]) ⟨impl_CodeText_w, impl_entryOrDash_w, impl_StepsOf_w, impl_FormatInt_w, trivial⟩ (keep := []) (l := []) Tryd.func31 (by kernel_rfl) (sg := [.one (.sc)]) (by kernel_rfl) trivial fun av k h => by
  unfold impl_FormatTrace at h; split at h
  · apply un_all h; clear h; intro a0 a1 a2 a3 a4 a5 a6 a7 a8 h; exact Eq.mpr (by kernel_rfl) h
  · exact h.elim

def laws_eqSig : GM
 | [.agg u0, .agg u1], k => un 2 (fun a0 a1 => un 2 (fun a2 a3 => 
  binP .neq a0 a2 fun r0 =>
  iteP r0
   (rt [.sc] [(.bool false)] k)
   (binP .neq a1 a3 fun r1 =>
   iteP r1
    (rt [.sc] [(.bool false)] k)
    (rt [.sc] [(.bool true)] k))) u1) u0
 | _, _ => False
abbrev laws_eqSig_e : Ent := ⟨[109], laws_eqSig⟩
theorem laws_eqSig_w : EntOK Tryd.prog TT laws_eqSig_e := ent_ok tabok (L := []) trivial (keep := []) (l := []) Tryd.func109 (by kernel_rfl) (sg := [.one (.sc)]) (by kernel_rfl) trivial fun av k h => by
  unfold laws_eqSig at h; split at h
  · apply un_all h; clear h; intro a0 a1 h; apply un_all h; clear h; intro a2 a3 h; exact Eq.mpr (by kernel_rfl) h
  · exact h.elim

def laws_eqSigS_r0 (v : List PV) (K : List PV → Prop) (x0k : Prop) (x1k : PV → PV → PV → PV → Prop) : Prop :=
 un 4 (fun v0 v1 v2 v3 =>
  lenP v0 fun r0 =>
  binP .lss v3 r0 fun r1 =>
  iteP r1
   (elemP 2 v0 v3 fun c2 =>
   elemP 2 v1 v3 fun c3 =>
   call laws_eqSig [.agg [(atP c2 0), (atP c2 1)], .agg [(atP c3 0), (atP c3 1)]] fun o4 =>
   unP .not (atP o4 0) fun r5 =>
   iteP r5
    (x0k)
    (binP .add v3 (I 1) fun r6 =>
    K [v0, v1, v2, r6]))
   (x1k v0 v1 v2 v3)) v
def laws_eqSigS : GM
 | [.one a0, .one a1], k => 
  lenP a0 fun r0 =>
  lenP a1 fun r1 =>
  binP .neq r0 r1 fun r2 =>
  iteP r2
   (rt [.sc] [(.bool false)] k)
   (lp (fun L w => laws_eqSigS_r0 w L
    (rt [.sc] [(.bool false)] k)
    (fun q7 q8 q9 q10 => rt [.sc] [(.bool true)] k)) [a0, a1, (.bool false), (I 0)])
 | _, _ => False
abbrev laws_eqSigS_e : Ent := ⟨[102], laws_eqSigS⟩
def laws_eqSigS_l : List LE := [⟨0, ⟨[(0, .one (.pv (.bool false))), (1, .one (.pv (.bool false))), (4, .one (.pv (.bool false))), (5, .one (.pv (.bool false)))], [], [], 0, 27⟩, fun K k v => laws_eqSigS_r0 v K (k .ret ⟨[(4, .one (.kb false))], [], [], 1, 27⟩) (fun x0 x1 x2 x3 => k (.exit 0) ⟨[(0, .one (.pv x0)), (1, .one (.pv x1)), (4, .one (.pv x2)), (5, .one (.pv x3))], [], [], 0, 27⟩)⟩]
theorem laws_eqSigS_s : LEsOK (orac [laws_eqSig_e]) TT (kk [0, 1, 4, 5]) (sumsOf laws_eqSigS_l) Tryd.f102 laws_eqSigS_l := ⟨fun v K k h => by
  apply un_all h; exact fun v0 v1 v2 v3 h => Eq.mpr (by kernel_rfl) h
  , trivial⟩
theorem laws_eqSigS_w : EntOK Tryd.prog TT laws_eqSigS_e := ent_ok tabok (L := [laws_eqSig_e]) ⟨laws_eqSig_w, trivial⟩ (keep := (kk [0, 1, 4, 5])) (l := laws_eqSigS_l) Tryd.func102 (by kernel_rfl) (sg := [.one (.sc)]) (by kernel_rfl) laws_eqSigS_s fun av k h => by
  unfold laws_eqSigS at h; split at h
  · exact Eq.mpr (by kernel_rfl) h
  · exact h.elim

def laws_eqSigned : GM
 | [.agg u0, .agg u1], k => un 17 (fun a0 a1 a2 a3 a4 a5 a6 a7 a8 a9 a10 a11 a12 a13 a14 a15 a16 => un 17 (fun a17 a18 a19 a20 a21 a22 a23 a24 a25 a26 a27 a28 a29 a30 a31 a32 a33 => 
  call laws_eqHead [.agg [a0, a1, a2, a3, a4, a5, a6, a7, a8, a9, a10, a11, a12, a13, a14, a15], .agg [a17, a18, a19, a20, a21, a22, a23, a24, a25, a26, a27, a28, a29, a30, a31, a32]] fun o0 =>
  unP .not (atP o0 0) fun r1 =>
  iteP r1
   (rt [.sc] [(.bool false)] k)
   (call laws_eqSigS [.one a16, .one a33] fun o2 =>
   unP .not (atP o2 0) fun r3 =>
   iteP r3
    (rt [.sc] [(.bool false)] k)
    (rt [.sc] [(.bool true)] k))) u1) u0
 | _, _ => False
abbrev laws_eqSigned_e : Ent := ⟨[95], laws_eqSigned⟩
theorem laws_eqSigned_w : EntOK Tryd.prog TT laws_eqSigned_e := ent_ok tabok (L := [laws_eqHead_e, laws_eqSigS_e]) ⟨laws_eqHead_w, laws_eqSigS_w, trivial⟩ (keep := []) (l := []) Tryd.func95 (by kernel_rfl) (sg := [.one (.sc)]) (by kernel_rfl) trivial fun av k h => by
  unfold laws_eqSigned at h; split at h
  · apply un_all h; clear h; intro a0 a1 a2 a3 a4 a5 a6 a7 a8 a9 a10 a11 a12 a13 a14 a15 a16 h; apply un_all h; clear h; intro a17 a18 a19 a20 a21 a22 a23 a24 a25 a26 a27 a28 a29 a30 a31 a32 a33 h; exact Eq.mpr (by kernel_rfl) h
  · exact h.elim

def laws_eqSignedS_r0 (v : List PV) (K : List PV → Prop) (x0k : Prop) (x1k : PV → PV → PV → PV → Prop) : Prop :=
 un 4 (fun v0 v1 v2 v3 =>
  lenP v0 fun r0 =>
  binP .lss v3 r0 fun r1 =>
  iteP r1
   (elemP 17 v0 v3 fun c2 =>
   elemP 17 v1 v3 fun c3 =>
   call laws_eqSigned [.agg [(atP c2 0), (atP c2 1), (atP c2 2), (atP c2 3), (atP c2 4), (atP c2 5), (atP c2 6), (atP c2 7), (atP c2 8), (atP c2 9), (atP c2 10), (atP c2 11), (atP c2 12), (atP c2 13), (atP c2 14), (atP c2 15), (atP c2 16)], .agg [(atP c3 0), (atP c3 1), (atP c3 2), (atP c3 3), (atP c3 4), (atP c3 5), (atP c3 6), (atP c3 7), (atP c3 8), (atP c3 9), (atP c3 10), (atP c3 11), (atP c3 12), (atP c3 13), (atP c3 14), (atP c3 15), (atP c3 16)]] fun o4 =>
   unP .not (atP o4 0) fun r5 =>
   iteP r5
    (x0k)
    (binP .add v3 (I 1) fun r6 =>
    K [v0, v1, v2, r6]))
   (x1k v0 v1 v2 v3)) v
def laws_eqSignedS : GM
 | [.one a0, .one a1], k => 
  lenP a0 fun r0 =>
  lenP a1 fun r1 =>
  binP .neq r0 r1 fun r2 =>
  iteP r2
   (rt [.sc] [(.bool false)] k)
   (lp (fun L w => laws_eqSignedS_r0 w L
    (rt [.sc] [(.bool false)] k)
    (fun q7 q8 q9 q10 => rt [.sc] [(.bool true)] k)) [a0, a1, (.bool false), (I 0)])
 | _, _ => False
abbrev laws_eqSignedS_e : Ent := ⟨[87], laws_eqSignedS⟩
def laws_eqSignedS_l : List LE := [⟨0, ⟨[(0, .one (.pv (.bool false))), (1, .one (.pv (.bool false))), (4, .one (.pv (.bool false))), (5, .one (.pv (.bool false)))], [], [], 0, 27⟩, fun K k v => laws_eqSignedS_r0 v K (k .ret ⟨[(4, .one (.kb false))], [], [], 1, 27⟩) (fun x0 x1 x2 x3 => k (.exit 0) ⟨[(0, .one (.pv x0)), (1, .one (.pv x1)), (4, .one (.pv x2)), (5, .one (.pv x3))], [], [], 0, 27⟩)⟩]
theorem laws_eqSignedS_s : LEsOK (orac [laws_eqSigned_e]) TT (kk [0, 1, 4, 5]) (sumsOf laws_eqSignedS_l) Tryd.f87 laws_eqSignedS_l := ⟨fun v K k h => by
  apply un_all h; exact fun v0 v1 v2 v3 h => Eq.mpr (by kernel_rfl) h
  , trivial⟩
theorem laws_eqSignedS_w : EntOK Tryd.prog TT laws_eqSignedS_e := ent_ok tabok (L := [laws_eqSigned_e]) ⟨laws_eqSigned_w, trivial⟩ (keep := (kk [0, 1, 4, 5])) (l := laws_eqSignedS_l) Tryd.func87 (by kernel_rfl) (sg := [.one (.sc)]) (by kernel_rfl) laws_eqSignedS_s fun av k h => by
  unfold laws_eqSignedS at h; split at h
  · exact Eq.mpr (by kernel_rfl) h
  · exact h.elim

def laws_eqSignedSS_r0 (v : List PV) (K : List PV → Prop) (x0k : Prop) (x1k : PV → PV → PV → PV → Prop) : Prop :=
 un 4 (fun v0 v1 v2 v3 =>
  lenP v0 fun r0 =>
  binP .lss v3 r0 fun r1 =>
  iteP r1
   (elemP 1 v0 v3 fun c2 =>
   elemP 1 v1 v3 fun c3 =>
   call laws_eqSignedS [.one (atP c2 0), .one (atP c3 0)] fun o4 =>
   unP .not (atP o4 0) fun r5 =>
   iteP r5
    (x0k)
    (binP .add v3 (I 1) fun r6 =>
    K [v0, v1, v2, r6]))
   (x1k v0 v1 v2 v3)) v
def laws_eqSignedSS : GM
 | [.one a0, .one a1], k => 
  lenP a0 fun r0 =>
  lenP a1 fun r1 =>
  binP .neq r0 r1 fun r2 =>
  iteP r2
   (rt [.sc] [(.bool false)] k)
   (lp (fun L w => laws_eqSignedSS_r0 w L
    (rt [.sc] [(.bool false)] k)
    (fun q7 q8 q9 q10 => rt [.sc] [(.bool true)] k)) [a0, a1, (.bool false), (I 0)])
 | _, _ => False
abbrev laws_eqSignedSS_e : Ent := ⟨[74], laws_eqSignedSS⟩
def laws_eqSignedSS_l : List LE := [⟨0, ⟨[(0, .one (.pv (.bool false))), (1, .one (.pv (.bool false))), (4, .one (.pv (.bool false))), (5, .one (.pv (.bool false)))], [], [], 0, 27⟩, fun K k v => laws_eqSignedSS_r0 v K (k .ret ⟨[(4, .one (.kb false))], [], [], 1, 27⟩) (fun x0 x1 x2 x3 => k (.exit 0) ⟨[(0, .one (.pv x0)), (1, .one (.pv x1)), (4, .one (.pv x2)), (5, .one (.pv x3))], [], [], 0, 27⟩)⟩]
theorem laws_eqSignedSS_s : LEsOK (orac [laws_eqSignedS_e]) TT (kk [0, 1, 4, 5]) (sumsOf laws_eqSignedSS_l) Tryd.f74 laws_eqSignedSS_l := ⟨fun v K k h => by
  apply un_all h; exact fun v0 v1 v2 v3 h => Eq.mpr (by kernel_rfl) h
  , trivial⟩
theorem laws_eqSignedSS_w : EntOK Tryd.prog TT laws_eqSignedSS_e := ent_ok tabok (L := [laws_eqSignedS_e]) ⟨laws_eqSignedS_w, trivial⟩ (keep := (kk [0, 1, 4, 5])) (l := laws_eqSignedSS_l) Tryd.func74 (by kernel_rfl) (sg := [.one (.sc)]) (by kernel_rfl) laws_eqSignedSS_s fun av k h => by
  unfold laws_eqSignedSS at h; split at h
  · exact Eq.mpr (by kernel_rfl) h
  · exact h.elim

def laws_eqFork : GM
 | [.agg u0, .agg u1], k => un 51 (fun a0 a1 a2 a3 a4 a5 a6 a7 a8 a9 a10 a11 a12 a13 a14 a15 a16 a17 a18 a19 a20 a21 a22 a23 a24 a25 a26 a27 a28 a29 a30 a31 a32 a33 a34 a35 a36 a37 a38 a39 a40 a41 a42 a43 a44 a45 a46 a47 a48 a49 a50 => un 51 (fun a51 a52 a53 a54 a55 a56 a57 a58 a59 a60 a61 a62 a63 a64 a65 a66 a67 a68 a69 a70 a71 a72 a73 a74 a75 a76 a77 a78 a79 a80 a81 a82 a83 a84 a85 a86 a87 a88 a89 a90 a91 a92 a93 a94 a95 a96 a97 a98 a99 a100 a101 => 
  call laws_eqSigned [.agg [a0, a1, a2, a3, a4, a5, a6, a7, a8, a9, a10, a11, a12, a13, a14, a15, a16], .agg [a51, a52, a53, a54, a55, a56, a57, a58, a59, a60, a61, a62, a63, a64, a65, a66, a67]] fun o0 =>
  unP .not (atP o0 0) fun r1 =>
  iteP r1
   (rt [.sc] [(.bool false)] k)
   (call laws_eqSigned [.agg [a17, a18, a19, a20, a21, a22, a23, a24, a25, a26, a27, a28, a29, a30, a31, a32, a33], .agg [a68, a69, a70, a71, a72, a73, a74, a75, a76, a77, a78, a79, a80, a81, a82, a83, a84]] fun o2 =>
   unP .not (atP o2 0) fun r3 =>
   iteP r3
    (rt [.sc] [(.bool false)] k)
    (call laws_eqSigned [.agg [a34, a35, a36, a37, a38, a39, a40, a41, a42, a43, a44, a45, a46, a47, a48, a49, a50], .agg [a85, a86, a87, a88, a89, a90, a91, a92, a93, a94, a95, a96, a97, a98, a99, a100, a101]] fun o4 =>
    unP .not (atP o4 0) fun r5 =>
    iteP r5
     (rt [.sc] [(.bool false)] k)
     (rt [.sc] [(.bool true)] k)))) u1) u0
 | _, _ => False
abbrev laws_eqFork_e : Ent := ⟨[88], laws_eqFork⟩
theorem laws_eqFork_w : EntOK Tryd.prog TT laws_eqFork_e := ent_ok tabok (L := [laws_eqSigned_e]) ⟨laws_eqSigned_w, trivial⟩ (keep := []) (l := []) Tryd.func88 (by kernel_rfl) (sg := [.one (.sc)]) (by kernel_rfl) trivial fun av k h => by
  unfold laws_eqFork at h; split at h
  · apply un_all h; clear h; intro a0 a1 a2 a3 a4 a5 a6 a7 a8 a9 a10 a11 a12 a13 a14 a15 a16 a17 a18 a19 a20 a21 a22 a23 a24 a25 a26 a27 a28 a29 a30 a31 a32 a33 a34 a35 a36 a37 a38 a39 a40 a41 a42 a43 a44 a45 a46 a47 a48 a49 a50 h; apply un_all h; clear h; intro a51 a52 a53 a54 a55 a56 a57 a58 a59 a60 a61 a62 a63 a64 a65 a66 a67 a68 a69 a70 a71 a72 a73 a74 a75 a76 a77 a78 a79 a80 a81 a82 a83 a84 a85 a86 a87 a88 a89 a90 a91 a92 a93 a94 a95 a96 a97 a98 a99 a100 a101 h; exact Eq.mpr (by kernel_rfl) h
  · exact h.elim

def laws_eqForkS_r0 (v : List PV) (K : List PV → Prop) (x0k : Prop) (x1k : PV → PV → PV → PV → Prop) : Prop :=
 un 4 (fun v0 v1 v2 v3 =>
  lenP v0 fun r0 =>
  binP .lss v3 r0 fun r1 =>
  iteP r1
   (elemP 51 v0 v3 fun c2 =>
   elemP 51 v1 v3 fun c3 =>
   call laws_eqFork [.agg [(atP c2 0), (atP c2 1), (atP c2 2), (atP c2 3), (atP c2 4), (atP c2 5), (atP c2 6), (atP c2 7), (atP c2 8), (atP c2 9), (atP c2 10), (atP c2 11), (atP c2 12), (atP c2 13), (atP c2 14), (atP c2 15), (atP c2 16), (atP c2 17), (atP c2 18), (atP c2 19), (atP c2 20), (atP c2 21), (atP c2 22), (atP c2 23), (atP c2 24), (atP c2 25), (atP c2 26), (atP c2 27), (atP c2 28), (atP c2 29), (atP c2 30), (atP c2 31), (atP c2 32), (atP c2 33), (atP c2 34), (atP c2 35), (atP c2 36), (atP c2 37), (atP c2 38), (atP c2 39), (atP c2 40), (atP c2 41), (atP c2 42), (atP c2 43), (atP c2 44), (atP c2 45), (atP c2 46), (atP c2 47), (atP c2 48), (atP c2 49), (atP c2 50)], .agg [(atP c3 0), (atP c3 1), (atP c3 2), (atP c3 3), (atP c3 4), (atP c3 5), (atP c3 6), (atP c3 7), (atP c3 8), (atP c3 9), (atP c3 10), (atP c3 11), (atP c3 12), (atP c3 13), (atP c3 14), (atP c3 15), (atP c3 16), (atP c3 17), (atP c3 18), (atP c3 19), (atP c3 20), (atP c3 21), (atP c3 22), (atP c3 23), (atP c3 24), (atP c3 25), (atP c3 26), (atP c3 27), (atP c3 28), (atP c3 29), (atP c3 30), (atP c3 31), (atP c3 32), (atP c3 33), (atP c3 34), (atP c3 35), (atP c3 36), (atP c3 37), (atP c3 38), (atP c3 39), (atP c3 40), (atP c3 41), (atP c3 42), (atP c3 43), (atP c3 44), (atP c3 45), (atP c3 46), (atP c3 47), (atP c3 48), (atP c3 49), (atP c3 50)]] fun o4 =>
   unP .not (atP o4 0) fun r5 =>
   iteP r5
    (x0k)
    (binP .add v3 (I 1) fun r6 =>
    K [v0, v1, v2, r6]))
   (x1k v0 v1 v2 v3)) v
def laws_eqForkS : GM
 | [.one a0, .one a1], k => 
  lenP a0 fun r0 =>
  lenP a1 fun r1 =>
  binP .neq r0 r1 fun r2 =>
  iteP r2
   (rt [.sc] [(.bool false)] k)
   (lp (fun L w => laws_eqForkS_r0 w L
    (rt [.sc] [(.bool false)] k)
    (fun q7 q8 q9 q10 => rt [.sc] [(.bool true)] k)) [a0, a1, (.bool false), (I 0)])
 | _, _ => False
abbrev laws_eqForkS_e : Ent := ⟨[75], laws_eqForkS⟩
def laws_eqForkS_l : List LE := [⟨0, ⟨[(0, .one (.pv (.bool false))), (1, .one (.pv (.bool false))), (4, .one (.pv (.bool false))), (5, .one (.pv (.bool false)))], [], [], 0, 27⟩, fun K k v => laws_eqForkS_r0 v K (k .ret ⟨[(4, .one (.kb false))], [], [], 1, 27⟩) (fun x0 x1 x2 x3 => k (.exit 0) ⟨[(0, .one (.pv x0)), (1, .one (.pv x1)), (4, .one (.pv x2)), (5, .one (.pv x3))], [], [], 0, 27⟩)⟩]
theorem laws_eqForkS_s : LEsOK (orac [laws_eqFork_e]) TT (kk [0, 1, 4, 5]) (sumsOf laws_eqForkS_l) Tryd.f75 laws_eqForkS_l := ⟨fun v K k h => by
  apply un_all h; exact fun v0 v1 v2 v3 h => Eq.mpr (by kernel_rfl) h
  , trivial⟩
theorem laws_eqForkS_w : EntOK Tryd.prog TT laws_eqForkS_e := ent_ok tabok (L := [laws_eqFork_e]) ⟨laws_eqFork_w, trivial⟩ (keep := (kk [0, 1, 4, 5])) (l := laws_eqForkS_l) Tryd.func75 (by kernel_rfl) (sg := [.one (.sc)]) (by kernel_rfl) laws_eqForkS_s fun av k h => by
  unfold laws_eqForkS at h; split at h
  · exact Eq.mpr (by kernel_rfl) h
  · exact h.elim

def laws_eqKnown : GM
 | [.agg u0, .agg u1], k => un 2 (fun a0 a1 => un 2 (fun a2 a3 => 
  call laws_eqSignedSS [.one a0, .one a2] fun o0 =>
  unP .not (atP o0 0) fun r1 =>
  iteP r1
   (rt [.sc] [(.bool false)] k)
   (call laws_eqForkS [.one a1, .one a3] fun o2 =>
   unP .not (atP o2 0) fun r3 =>
   iteP r3
    (rt [.sc] [(.bool false)] k)
    (rt [.sc] [(.bool true)] k))) u1) u0
 | _, _ => False
abbrev laws_eqKnown_e : Ent := ⟨[62], laws_eqKnown⟩
theorem laws_eqKnown_w : EntOK Tryd.prog TT laws_eqKnown_e := ent_ok tabok (L := [laws_eqSignedSS_e, laws_eqForkS_e]) ⟨laws_eqSignedSS_w, laws_eqForkS_w, trivial⟩ (keep := []) (l := []) Tryd.func62 (by kernel_rfl) (sg := [.one (.sc)]) (by kernel_rfl) trivial fun av k h => by
  unfold laws_eqKnown at h; split at h
  · apply un_all h; clear h; intro a0 a1 h; apply un_all h; clear h; intro a2 a3 h; exact Eq.mpr (by kernel_rfl) h
  · exact h.elim

def laws_eqTrace : GM
 | [.agg u0, .agg u1], k => un 9 (fun a0 a1 a2 a3 a4 a5 a6 a7 a8 => un 9 (fun a9 a10 a11 a12 a13 a14 a15 a16 a17 => 
  call laws_eqKnown [.agg [a0, a1], .agg [a9, a10]] fun o0 =>
  unP .not (atP o0 0) fun r1 =>
  iteP r1
   (rt [.sc] [(.bool false)] k)
   (binP .neq a2 a11 fun r2 =>
   iteP r2
    (rt [.sc] [(.bool false)] k)
    (call laws_eqEntry [.agg [a3, a4, a5, a6], .agg [a12, a13, a14, a15]] fun o3 =>
    unP .not (atP o3 0) fun r4 =>
    iteP r4
     (rt [.sc] [(.bool false)] k)
     (call laws_eqIntS [.one a7, .one a16] fun o5 =>
     unP .not (atP o5 0) fun r6 =>
     iteP r6
      (rt [.sc] [(.bool false)] k)
      (binP .neq a8 a17 fun r7 =>
      iteP r7
       (rt [.sc] [(.bool false)] k)
       (rt [.sc] [(.bool true)] k)))))) u1) u0
 | _, _ => False
abbrev laws_eqTrace_e : Ent := ⟨[32], laws_eqTrace⟩
theorem laws_eqTrace_w : EntOK Tryd.prog TT laws_eqTrace_e := ent_ok tabok (L := [laws_eqKnown_e, laws_eqEntry_e, laws_eqIntS_e]) ⟨laws_eqKnown_w, laws_eqEntry_w, laws_eqIntS_w, trivial⟩ (keep := []) (l := []) Tryd.func32 (by kernel_rfl) (sg := [.one (.sc)]) (by kernel_rfl) trivial fun av k h => by
  unfold laws_eqTrace at h; split at h
  · apply un_all h; clear h; intro a0 a1 a2 a3 a4 a5 a6 a7 a8 h; apply un_all h; clear h; intro a9 a10 a11 a12 a13 a14 a15 a16 a17 h; exact Eq.mpr (by kernel_rfl) h
  · exact h.elim

def laws_FnExactFormatTrace : GM
 | [.agg u0], k => un 9 (fun a0 a1 a2 a3 a4 a5 a6 a7 a8 => 
  call laws_szTrace [.agg [a0, a1, a2, a3, a4, a5, a6, a7, a8], .one (I 1048576)] fun o0 =>
  binP .lss (atP o0 0) (I 0) fun r1 =>
  iteP r1
   (rt [.sc] [(.bool true)] k)
   (call laws_toTrace [.agg [a0, a1, a2, a3, a4, a5, a6, a7, a8]] fun o2 =>
   call spec_FormatTrace [.agg [(atP o2 0), (atP o2 1), (atP o2 2), (atP o2 3), (atP o2 4), (atP o2 5), (atP o2 6), (atP o2 7), (atP o2 8)]] fun o3 =>
   call laws_toTrace [.agg [a0, a1, a2, a3, a4, a5, a6, a7, a8]] fun o4 =>
   call impl_FormatTrace [.agg [(atP o4 0), (atP o4 1), (atP o4 2), (atP o4 3), (atP o4 4), (atP o4 5), (atP o4 6), (atP o4 7), (atP o4 8)]] fun o5 =>
   binP .neq (atP o5 0) (atP o3 0) fun r6 =>
   iteP r6
    (rt [.sc] [(.bool false)] k)
    (call laws_toTrace [.agg [a0, a1, a2, a3, a4, a5, a6, a7, a8]] fun o7 =>
    call laws_eqTrace [.agg [(atP o4 0), (atP o4 1), (atP o4 2), (atP o4 3), (atP o4 4), (atP o4 5), (atP o4 6), (atP o4 7), (atP o4 8)], .agg [(atP o7 0), (atP o7 1), (atP o7 2), (atP o7 3), (atP o7 4), (atP o7 5), (atP o7 6), (atP o7 7), (atP o7 8)]] fun o8 =>
    unP .not (atP o8 0) fun r9 =>
    iteP r9
     (rt [.sc] [(.bool false)] k)
     (rt [.sc] [(.bool true)] k)))) u0
 | _, _ => False
abbrev laws_FnExactFormatTrace_e : Ent := ⟨[7], laws_FnExactFormatTrace⟩
theorem laws_FnExactFormatTrace_w : EntOK Tryd.prog TT laws_FnExactFormatTrace_e := ent_ok tabok (L := [laws_szTrace_e, laws_toTrace_e, spec_FormatTrace_e, impl_FormatTrace_e, laws_eqTrace_e]) ⟨laws_szTrace_w, laws_toTrace_w, spec_FormatTrace_w, impl_FormatTrace_w, laws_eqTrace_w, trivial⟩ (keep := []) (l := []) Tryd.func7 (by kernel_rfl) (sg := [.one (.sc)]) (by kernel_rfl) trivial fun av k h => by
  unfold laws_FnExactFormatTrace at h; split at h
  · apply un_all h; clear h; intro a0 a1 a2 a3 a4 a5 a6 a7 a8 h; exact Eq.mpr (by kernel_rfl) h
  · exact h.elim


end Go.Ev
